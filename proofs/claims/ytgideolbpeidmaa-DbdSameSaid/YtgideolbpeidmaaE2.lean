/- The program, function by function: the evaluator comes to the typed functions. Conditions: none. -/
import Derived.Test.YtgideolbpeidmaaA2
import Derived.KernelRfl
import Derived.Test.YtgideolbpeidmaaProg
import Derived.Test.YtgideolbpeidmaaB1
import Derived.Test.YtgideolbpeidmaaE1
namespace Go.AE
open Go.Proofs.Try Go.Sh
set_option linter.unusedSimpArgs false
set_option linter.unusedVariables false
set_option maxRecDepth 100000
set_option maxHeartbeats 4000000
noncomputable section
theorem f59r5 (k : Nat) (a0 : Str) (x7 : Int) (o10 : Bool) : RE k f59a5 f59o5 false ⟨[(0, (V.str a0)), (3, (I x7)), (4, (V.bool o10))], [], 47⟩ = ((bif (!o10) then (bif (x7 == 0) then (some (true)) else ((idxS a0 x7).bind fun v11 => (bif (decide (v11 < 48)) then (some (true)) else ((idxS a0 x7).bind fun v12 => (some ((decide (v12 > 57)))))))) else (some (false)))).map (fun (o : Bool) => (⟨[(0, (V.str a0)), (3, (I x7)), (38, (V.bool o))], [], 47⟩ : St)) := by
  refine rg ?_
  refine ra 3 3 ⟨[(0, (V.str a0)), (3, (I x7)), (4, (V.bool o10)), (21, (V.bool o10)), (22, (V.bool (!o10))), (23, (V.bool (!o10)))], [], 47⟩ rfl rfl rfl ?_
  refine bifE (c := (!o10)) (fun hc => ?_) fun hc => ?_
  · rw [hc]
    refine ra 3 6 ⟨[(0, (V.str a0)), (3, (I x7)), (4, (V.bool o10)), (21, (V.bool o10)), (22, (V.bool true)), (23, (V.bool true)), (24, (I x7)), (25, (V.bool (x7 == 0))), (26, (V.bool (x7 == 0)))], [], 47⟩ rfl rfl rfl ?_
    refine bifE (c := (x7 == 0)) (fun hc => ?_) fun hc => ?_
    · rw [hc]
      exact reg_end rfl
    · rw [hc]
      refine ra 2 8 ⟨[(0, (V.str a0)), (3, (I x7)), (4, (V.bool o10)), (21, (V.bool o10)), (22, (V.bool true)), (23, (V.bool true)), (24, (I x7)), (25, (V.bool false)), (26, (V.bool false)), (27, (V.str a0)), (28, (I x7))], [], 47⟩ rfl rfl rfl ?_
      refine Eq.trans (reg_pure (x := (idxS a0 x7)) (w := fun v11 => (V.int .u8 v11)) rfl rfl rfl rfl (p_indexS rfl rfl rfl Go.Proofs.Try.underlying9)) ?_
      refine bindE (fun v11 => ?_)
      refine ba 3 12 ⟨[(0, (V.str a0)), (3, (I x7)), (4, (V.bool o10)), (21, (V.bool o10)), (22, (V.bool true)), (23, (V.bool true)), (24, (I x7)), (25, (V.bool false)), (26, (V.bool false)), (27, (V.str a0)), (28, (I x7)), (29, (V.int .u8 v11)), (30, (V.bool (decide (v11 < 48)))), (31, (V.bool (decide (v11 < 48)))), (32, (V.bool (decide (v11 < 48))))], [], 47⟩ rfl rfl rfl ?_
      refine bifE (c := (decide (v11 < 48))) (fun hc => ?_) fun hc => ?_
      · rw [hc]
        exact reg_end rfl
      · rw [hc]
        refine ra 2 14 ⟨[(0, (V.str a0)), (3, (I x7)), (4, (V.bool o10)), (21, (V.bool o10)), (22, (V.bool true)), (23, (V.bool true)), (24, (I x7)), (25, (V.bool false)), (26, (V.bool false)), (27, (V.str a0)), (28, (I x7)), (29, (V.int .u8 v11)), (30, (V.bool false)), (31, (V.bool false)), (32, (V.bool false)), (33, (V.str a0)), (34, (I x7))], [], 47⟩ rfl rfl rfl ?_
        refine Eq.trans (reg_pure (x := (idxS a0 x7)) (w := fun v12 => (V.int .u8 v12)) rfl rfl rfl rfl (p_indexS rfl rfl rfl Go.Proofs.Try.underlying9)) ?_
        refine bindE (fun v12 => ?_)
        exact bind_end rfl
  · rw [hc]
    exact reg_end rfl
theorem f59r6 (k : Nat) (a0 : Str) (x7 : Int) : RE k f59a6 f59o6 false ⟨[(0, (V.str a0)), (3, (I x7)), (38, (V.bool true))], [], 47⟩ = some ⟨[(2, (V.bool false))], [], 47⟩ :=
  rE rfl
theorem f59r3 (k : Nat) (a0 : Str) (x7 : Int) : RE k f59a3 f59o3 false ⟨[(0, (V.str a0)), (3, (I x7)), (38, (V.bool false))], [], 47⟩ = some ⟨[(0, (V.str a0)), (3, (I (Go.IntKind.wrap .i64 (x7 + 1))))], [], 47⟩ :=
  rE rfl
theorem ref11_IsName_L1_ok (k : Nat) (a0 : Str)  (K0 : Int → Option Bool) (Kst : X × St → Option (V × List V)) (hK0 : ∀ (y0 : Int), Kst (X.exit 0, ⟨[(0, (V.str a0)), (3, (I y0)), (8, (V.bool false))], [], 47⟩) = (K0 y0).map ref11_IsName_fin) (hret : ∀ s, Kst (X.ret, s) = endK prog 47 [(V.str a0)] [] [.tmp 2] (X.ret, s)) :
    ∀ (m : Nat) (x7 : Int), (iter (exec prog (EV k) f59n k f59b0) m ⟨[(0, (V.str a0)), (3, (I x7))], [], 47⟩).bind Kst = (ref11_IsName_L1 a0 K0 m x7).map ref11_IsName_fin := by
  intro m
  induction m with
  | zero => intros; rfl
  | succ m ih =>
    intro x7
    unfold ref11_IsName_L1
    refine Eq.trans k_round ?_
    refine Eq.trans k_assoc ?_
    refine Eq.trans (k_region0 rfl (f59r2 k a0 x7)) ?_
    refine Eq.trans (k_cond (t := (decide (x7 < (a0.length : Int)))) rfl) ?_
    refine bifE2 (fun hc => ?_) fun hc => ?_
    · rw [hc]
      refine Eq.trans k_skip ?_
      refine Eq.trans k_block ?_
      refine Eq.trans (k_region rfl (f59r4 k a0 x7)) ?_
      refine bindE (fun o10 => ?_)
      refine Eq.trans (k_region rfl (f59r5 k a0 x7 o10)) ?_
      refine bindE (fun o13 => ?_)
      refine Eq.trans (k_lcond (t := o13) rfl) ?_
      refine bifE2 (fun hc => ?_) fun hc => ?_
      · rw [hc]
        refine Eq.trans (k_region0 rfl (f59r6 k a0 x7)) ?_
        refine Eq.trans k_lret ?_
        refine Eq.trans blk_ret ?_
        refine Eq.trans loop_ret ?_
        refine Eq.trans (hret _) ?_
        rfl
      · rw [hc]
        refine Eq.trans k_lskip ?_
        refine Eq.trans blk_normal ?_
        refine Eq.trans (k_lregion0 rfl (f59r3 k a0 x7)) ?_
        refine Eq.trans loop_normal ?_
        exact ih (Go.IntKind.wrap .i64 (x7 + 1))
    · rw [hc]
      refine Eq.trans k_exit ?_
      refine Eq.trans loop_exit ?_
      exact hK0 x7
theorem f59r7 (k : Nat) (a0 : Str) (y14 : Int) : RE k f59a7 f59o7 false ⟨[(0, (V.str a0)), (3, (I y14)), (8, (V.bool false))], [], 47⟩ = ((bif (decide ((a0.length : Int) ≥ 1)) then (some ((decide ((a0.length : Int) ≤ 8)))) else (some (false)))).map (fun (o : Bool) => (⟨[(2, (V.bool o))], [], 47⟩ : St)) := by
  refine rg ?_
  refine ra 4 4 ⟨[(0, (V.str a0)), (3, (I y14)), (8, (V.bool false)), (39, (V.str a0)), (40, (I (a0.length : Int))), (41, (V.bool (decide ((a0.length : Int) ≥ 1)))), (42, (V.bool (decide ((a0.length : Int) ≥ 1))))], [], 47⟩ rfl rfl rfl ?_
  refine bifE (c := (decide ((a0.length : Int) ≥ 1))) (fun hc => ?_) fun hc => ?_
  · rw [hc]
    exact reg_end rfl
  · rw [hc]
    exact reg_end rfl
theorem ref11_IsName_ok (k : Nat) (a0 : Str) : EV k 59 [(V.str a0)] = (ref11_IsName k a0).map ref11_IsName_fin := by
  cases k with
  | zero => rfl
  | succ k =>
    unfold ref11_IsName
    refine Eq.trans (evF_succ (c := f59c) (N := 47) (regs := f59n) rfl Go.Proofs.Try.func59 rfl (by decide) rfl rfl rfl) ?_
    refine Eq.trans (k_region0 rfl (f59r0 k a0)) ?_
    refine Eq.trans k_assoc ?_
    refine Eq.trans (k_region0 rfl (f59r1 k a0)) ?_
    refine Eq.trans k_block ?_
    refine Eq.trans k_loop ?_
    refine ref11_IsName_L1_ok k a0 _ _ ?h_ref11_IsName_L1_0 ?hr_ref11_IsName_L1 k 0
    · intro y14
      refine Eq.trans blk_exit ?_
      refine Eq.trans (k_region rfl (f59r7 k a0 y14)) ?_
      refine bindE (fun o15 => ?_)
      refine Eq.trans k_lret ?_
      rfl
    · intro s; exact rfl
def ref11_fields_fin : Bool → V × List V := fun r => ((V.bool r), [])
theorem f60r0 (k : Nat) (a0 : T_api_Type) : RE k f60a0 f60o0 false ⟨[(0, (enc_T_api_Type a0))], [], 112⟩ = some ⟨[(1, (V.ptr 1 0 0))], [(1, ⟨false, 8, [(enc_T_api_Type a0)]⟩)], 112⟩ :=
  rE rfl
theorem f60r1 (k : Nat) (a0 : T_api_Type) : RE k f60a1 f60o1 false ⟨[(1, (V.ptr 1 0 0))], [(1, ⟨false, 8, [(enc_T_api_Type a0)]⟩)], 112⟩ = some ⟨[(1, (V.ptr 1 0 0)), (3, (I 0))], [(1, ⟨false, 8, [(enc_T_api_Type a0)]⟩)], 112⟩ :=
  rE rfl
theorem f60r2 (k : Nat) (a0 : T_api_Type) (x11 : Int) : RE k f60a2 f60o2 false ⟨[(1, (V.ptr 1 0 0)), (3, (I x11))], [(1, ⟨false, 8, [(enc_T_api_Type a0)]⟩)], 112⟩ = some ⟨[(1, (V.ptr 1 0 0)), (3, (I x11)), (10, (V.bool (decide (x11 < (a0.fFields.length : Int)))))], [(1, ⟨false, 8, [(enc_T_api_Type a0)]⟩)], 112⟩ := by
  refine rg ?_
  refine ra 3 3 ⟨[(1, (V.ptr 1 0 0)), (3, (I x11)), (6, (I x11)), (7, (V.ptr 1 0 4)), (8, (sField (a0.fFields)))], [(1, ⟨false, 8, [(enc_T_api_Type a0)]⟩)], 112⟩ rfl rfl rfl ?_
  refine Eq.trans (reg_pure (x := some ()) (w := fun _ => (I (a0.fFields.length : Int))) rfl rfl rfl rfl (p_len (e := enc_T_api_Field) rfl rfl rfl rfl rfl rfl Go.Proofs.Try.underlying53)) ?_
  refine Eq.trans some_bind ?_
  exact bind_end rfl
theorem f60r4 (k : Nat) (a0 : T_api_Type) (x11 : Int) : RE k f60a4 f60o4 false ⟨[(1, (V.ptr 1 0 0)), (3, (I x11)), (10, (V.bool true))], [(1, ⟨false, 8, [(enc_T_api_Type a0)]⟩)], 112⟩ = ((idx a0.fFields x11)).map (fun (o : T_api_Field) => (⟨[(1, (V.ptr 1 0 0)), (3, (I x11)), (4, (V.ptr 4 0 0))], [(1, ⟨false, 8, [(enc_T_api_Type a0)]⟩), (4, ⟨false, 3, [(enc_T_api_Field o)]⟩)], 112⟩ : St)) := by
  refine rg ?_
  refine ra 3 3 ⟨[(1, (V.ptr 1 0 0)), (3, (I x11)), (10, (V.bool true)), (13, (V.ptr 1 0 4)), (14, (sField (a0.fFields))), (15, (I x11))], [(1, ⟨false, 8, [(enc_T_api_Type a0)]⟩)], 112⟩ rfl rfl rfl ?_
  refine Eq.trans (reg_pure (x := (idx a0.fFields x11)) (w := fun v12 => (V.pro (enc_T_api_Field v12))) rfl rfl rfl rfl (p_index (e := enc_T_api_Field) rfl rfl rfl Go.Proofs.Try.underlying53 rfl (by decide))) ?_
  refine bind_self (fun v12 => ?_)
  exact bind_end rfl
theorem f60r5 (k : Nat) (a0 : T_api_Type) (x11 : Int) (o13 : T_api_Field) : RE k f60a5 f60o5 false ⟨[(1, (V.ptr 1 0 0)), (3, (I x11)), (4, (V.ptr 4 0 0))], [(1, ⟨false, 8, [(enc_T_api_Type a0)]⟩), (4, ⟨false, 3, [(enc_T_api_Field o13)]⟩)], 112⟩ = (((ref11_IsName k o13.fName).bind fun v14 => (bif (!v14) then (some (true)) else (bif (decide (o13.fAt < 0)) then (some (true)) else (bif (decide (o13.fAt > a0.fSize)) then (some (true)) else (bif (decide (o13.fBytes < 1)) then (some (true)) else (some ((decide (o13.fBytes > (Go.IntKind.wrap .i64 (a0.fSize - o13.fAt)))))))))))).map (fun (o : Bool) => (⟨[(1, (V.ptr 1 0 0)), (3, (I x11)), (4, (V.ptr 4 0 0)), (48, (V.bool o))], [(1, ⟨false, 8, [(enc_T_api_Type a0)]⟩), (4, ⟨false, 3, [(enc_T_api_Field o13)]⟩)], 112⟩ : St)) := by
  refine rg ?_
  refine ra 2 2 ⟨[(1, (V.ptr 1 0 0)), (3, (I x11)), (4, (V.ptr 4 0 0)), (18, (V.ptr 4 0 0)), (19, (V.str o13.fName))], [(1, ⟨false, 8, [(enc_T_api_Type a0)]⟩), (4, ⟨false, 3, [(enc_T_api_Field o13)]⟩)], 112⟩ rfl rfl rfl ?_
  refine Eq.trans (reg_pure (x := (ref11_IsName k o13.fName)) (w := fun v14 => (V.bool v14)) rfl rfl rfl rfl (p_call rfl rfl rfl rfl rfl (ref11_IsName_ok k o13.fName) (.inl rfl))) ?_
  refine bindE (fun v14 => ?_)
  refine ba 2 5 ⟨[(1, (V.ptr 1 0 0)), (3, (I x11)), (4, (V.ptr 4 0 0)), (18, (V.ptr 4 0 0)), (19, (V.str o13.fName)), (20, (V.bool v14)), (21, (V.bool (!v14))), (22, (V.bool (!v14)))], [(1, ⟨false, 8, [(enc_T_api_Type a0)]⟩), (4, ⟨false, 3, [(enc_T_api_Field o13)]⟩)], 112⟩ rfl rfl rfl ?_
  refine bifE (c := (!v14)) (fun hc => ?_) fun hc => ?_
  · rw [hc]
    exact reg_end rfl
  · rw [hc]
    refine ra 5 10 ⟨[(1, (V.ptr 1 0 0)), (3, (I x11)), (4, (V.ptr 4 0 0)), (18, (V.ptr 4 0 0)), (19, (V.str o13.fName)), (20, (V.bool v14)), (21, (V.bool false)), (22, (V.bool false)), (23, (V.ptr 4 0 1)), (24, (I o13.fAt)), (25, (V.bool (decide (o13.fAt < 0)))), (26, (V.bool (decide (o13.fAt < 0)))), (27, (V.bool (decide (o13.fAt < 0))))], [(1, ⟨false, 8, [(enc_T_api_Type a0)]⟩), (4, ⟨false, 3, [(enc_T_api_Field o13)]⟩)], 112⟩ rfl rfl rfl ?_
    refine bifE (c := (decide (o13.fAt < 0))) (fun hc => ?_) fun hc => ?_
    · rw [hc]
      exact reg_end rfl
    · rw [hc]
      refine ra 7 17 ⟨[(1, (V.ptr 1 0 0)), (3, (I x11)), (4, (V.ptr 4 0 0)), (18, (V.ptr 4 0 0)), (19, (V.str o13.fName)), (20, (V.bool v14)), (21, (V.bool false)), (22, (V.bool false)), (23, (V.ptr 4 0 1)), (24, (I o13.fAt)), (25, (V.bool false)), (26, (V.bool false)), (27, (V.bool false)), (28, (V.ptr 4 0 1)), (29, (I o13.fAt)), (30, (V.ptr 1 0 3)), (31, (I a0.fSize)), (32, (V.bool (decide (o13.fAt > a0.fSize)))), (33, (V.bool (decide (o13.fAt > a0.fSize)))), (34, (V.bool (decide (o13.fAt > a0.fSize))))], [(1, ⟨false, 8, [(enc_T_api_Type a0)]⟩), (4, ⟨false, 3, [(enc_T_api_Field o13)]⟩)], 112⟩ rfl rfl rfl ?_
      refine bifE (c := (decide (o13.fAt > a0.fSize))) (fun hc => ?_) fun hc => ?_
      · rw [hc]
        exact reg_end rfl
      · rw [hc]
        refine ra 5 22 ⟨[(1, (V.ptr 1 0 0)), (3, (I x11)), (4, (V.ptr 4 0 0)), (18, (V.ptr 4 0 0)), (19, (V.str o13.fName)), (20, (V.bool v14)), (21, (V.bool false)), (22, (V.bool false)), (23, (V.ptr 4 0 1)), (24, (I o13.fAt)), (25, (V.bool false)), (26, (V.bool false)), (27, (V.bool false)), (28, (V.ptr 4 0 1)), (29, (I o13.fAt)), (30, (V.ptr 1 0 3)), (31, (I a0.fSize)), (32, (V.bool false)), (33, (V.bool false)), (34, (V.bool false)), (35, (V.ptr 4 0 2)), (36, (I o13.fBytes)), (37, (V.bool (decide (o13.fBytes < 1)))), (38, (V.bool (decide (o13.fBytes < 1)))), (39, (V.bool (decide (o13.fBytes < 1))))], [(1, ⟨false, 8, [(enc_T_api_Type a0)]⟩), (4, ⟨false, 3, [(enc_T_api_Field o13)]⟩)], 112⟩ rfl rfl rfl ?_
        refine bifE (c := (decide (o13.fBytes < 1))) (fun hc => ?_) fun hc => ?_
        · rw [hc]
          exact reg_end rfl
        · rw [hc]
          exact reg_end rfl
theorem f60r6 (k : Nat) (a0 : T_api_Type) (x11 : Int) (o13 : T_api_Field) : RE k f60a6 f60o6 false ⟨[(1, (V.ptr 1 0 0)), (3, (I x11)), (4, (V.ptr 4 0 0)), (48, (V.bool true))], [(1, ⟨false, 8, [(enc_T_api_Type a0)]⟩), (4, ⟨false, 3, [(enc_T_api_Field o13)]⟩)], 112⟩ = some ⟨[(2, (V.bool false))], [], 112⟩ :=
  rE rfl
theorem f60r7 (k : Nat) (a0 : T_api_Type) (x11 : Int) (o13 : T_api_Field) : RE k f60a7 f60o7 false ⟨[(1, (V.ptr 1 0 0)), (3, (I x11)), (4, (V.ptr 4 0 0)), (48, (V.bool false))], [(1, ⟨false, 8, [(enc_T_api_Type a0)]⟩), (4, ⟨false, 3, [(enc_T_api_Field o13)]⟩)], 112⟩ = some ⟨[(1, (V.ptr 1 0 0)), (3, (I x11)), (4, (V.ptr 4 0 0)), (5, (I 0))], [(1, ⟨false, 8, [(enc_T_api_Type a0)]⟩), (4, ⟨false, 3, [(enc_T_api_Field o13)]⟩)], 112⟩ :=
  rE rfl
theorem f60r8 (k : Nat) (a0 : T_api_Type) (x11 : Int) (o13 : T_api_Field) (x18 : Int) : RE k f60a8 f60o8 false ⟨[(1, (V.ptr 1 0 0)), (3, (I x11)), (4, (V.ptr 4 0 0)), (5, (I x18))], [(1, ⟨false, 8, [(enc_T_api_Type a0)]⟩), (4, ⟨false, 3, [(enc_T_api_Field o13)]⟩)], 112⟩ = some ⟨[(1, (V.ptr 1 0 0)), (3, (I x11)), (4, (V.ptr 4 0 0)), (5, (I x18)), (51, (V.bool (decide (x18 < x11))))], [(1, ⟨false, 8, [(enc_T_api_Type a0)]⟩), (4, ⟨false, 3, [(enc_T_api_Field o13)]⟩)], 112⟩ :=
  rE rfl
theorem f60r10 (k : Nat) (a0 : T_api_Type) (x11 : Int) (o13 : T_api_Field) (x18 : Int) : RE k f60a10 f60o10 true ⟨[(1, (V.ptr 1 0 0)), (3, (I x11)), (4, (V.ptr 4 0 0)), (5, (I x18)), (51, (V.bool true))], [(1, ⟨false, 8, [(enc_T_api_Type a0)]⟩), (4, ⟨false, 3, [(enc_T_api_Field o13)]⟩)], 112⟩ = (((idx a0.fFields x18).bind fun v19 => (some ((v19.fName == o13.fName))))).map (fun (o : Bool) => (⟨[(1, (V.ptr 1 0 0)), (3, (I x11)), (4, (V.ptr 4 0 0)), (5, (I x18)), (62, (V.bool o))], [(1, ⟨false, 8, [(enc_T_api_Type a0)]⟩), (4, ⟨false, 3, [(enc_T_api_Field o13)]⟩)], 112⟩ : St)) := by
  refine Eq.trans (regionE_regp (p := 9) (dk := true) (t := [(1, (V.ptr 1 0 0)), (3, (I x11)), (4, (V.ptr 4 0 0)), (5, (I x18)), (51, (V.bool true))]) (σ := [(1, ⟨false, 8, [(enc_T_api_Type a0)]⟩), (4, ⟨false, 3, [(enc_T_api_Field o13)]⟩)]) (n := 112) (by decide) (by decide) rfl) ?_
  refine Eq.trans (regp_adv (m := 3) (j := 3) (t' := [(1, (V.ptr 1 0 0)), (3, (I x11)), (4, (V.ptr 4 0 0)), (5, (I x18)), (51, (V.bool true)), (54, (V.ptr 1 0 4)), (55, (sField (a0.fFields))), (56, (I x18))]) rfl rfl rfl) ?_
  refine Eq.trans (regp_pure (x := (idx a0.fFields x18)) (w := fun v19 => (V.pro (enc_T_api_Field v19))) rfl rfl rfl rfl rfl (p_index (e := enc_T_api_Field) rfl rfl rfl Go.Proofs.Try.underlying53 rfl (by decide))) ?_
  refine bindE (fun v19 => ?_)
  exact regp_end rfl
theorem f60r11 (k : Nat) (a0 : T_api_Type) (x11 : Int) (o13 : T_api_Field) (x18 : Int) : RE k f60a11 f60o11 false ⟨[(1, (V.ptr 1 0 0)), (3, (I x11)), (4, (V.ptr 4 0 0)), (5, (I x18)), (62, (V.bool true))], [(1, ⟨false, 8, [(enc_T_api_Type a0)]⟩), (4, ⟨false, 3, [(enc_T_api_Field o13)]⟩)], 112⟩ = some ⟨[(2, (V.bool false))], [], 112⟩ :=
  rE rfl
theorem f60r9 (k : Nat) (a0 : T_api_Type) (x11 : Int) (o13 : T_api_Field) (x18 : Int) : RE k f60a9 f60o9 false ⟨[(1, (V.ptr 1 0 0)), (3, (I x11)), (4, (V.ptr 4 0 0)), (5, (I x18)), (62, (V.bool false))], [(1, ⟨false, 8, [(enc_T_api_Type a0)]⟩), (4, ⟨false, 3, [(enc_T_api_Field o13)]⟩)], 112⟩ = some ⟨[(1, (V.ptr 1 0 0)), (3, (I x11)), (4, (V.ptr 4 0 0)), (5, (I (Go.IntKind.wrap .i64 (x18 + 1))))], [(1, ⟨false, 8, [(enc_T_api_Type a0)]⟩), (4, ⟨false, 3, [(enc_T_api_Field o13)]⟩)], 112⟩ :=
  rE rfl
theorem ref11_fields_L2_ok (k : Nat) (a0 : T_api_Type) (x11 : Int) (o13 : T_api_Field)  (K0 : Int → Option Bool) (Kst : X × St → Option (V × List V)) (hK0 : ∀ (y0 : Int), Kst (X.exit 2, ⟨[(1, (V.ptr 1 0 0)), (3, (I x11)), (4, (V.ptr 4 0 0)), (5, (I y0)), (51, (V.bool false))], [(1, ⟨false, 8, [(enc_T_api_Type a0)]⟩), (4, ⟨false, 3, [(enc_T_api_Field o13)]⟩)], 112⟩) = (K0 y0).map ref11_fields_fin) (hret : ∀ s, Kst (X.ret, s) = endK prog 112 [(enc_T_api_Type a0)] [] [.tmp 2] (X.ret, s)) :
    ∀ (m : Nat) (x18 : Int), (iter (exec prog (EV k) f60n k f60b0) m ⟨[(1, (V.ptr 1 0 0)), (3, (I x11)), (4, (V.ptr 4 0 0)), (5, (I x18))], [(1, ⟨false, 8, [(enc_T_api_Type a0)]⟩), (4, ⟨false, 3, [(enc_T_api_Field o13)]⟩)], 112⟩).bind Kst = (ref11_fields_L2 a0 x11 o13 K0 m x18).map ref11_fields_fin := by
  intro m
  induction m with
  | zero => intros; rfl
  | succ m ih =>
    intro x18
    unfold ref11_fields_L2
    refine Eq.trans k_round ?_
    refine Eq.trans k_assoc ?_
    refine Eq.trans (k_region0 rfl (f60r8 k a0 x11 o13 x18)) ?_
    refine Eq.trans (k_cond (t := (decide (x18 < x11))) rfl) ?_
    refine bifE2 (fun hc => ?_) fun hc => ?_
    · rw [hc]
      refine Eq.trans k_skip ?_
      refine Eq.trans k_block ?_
      refine Eq.trans (k_region rfl (f60r10 k a0 x11 o13 x18)) ?_
      refine bindE (fun o20 => ?_)
      refine Eq.trans (k_lcond (t := o20) rfl) ?_
      refine bifE2 (fun hc => ?_) fun hc => ?_
      · rw [hc]
        refine Eq.trans (k_region0 rfl (f60r11 k a0 x11 o13 x18)) ?_
        refine Eq.trans k_lret ?_
        refine Eq.trans blk_ret ?_
        refine Eq.trans loop_ret ?_
        refine Eq.trans (hret _) ?_
        rfl
      · rw [hc]
        refine Eq.trans k_lskip ?_
        refine Eq.trans blk_normal ?_
        refine Eq.trans (k_lregion0 rfl (f60r9 k a0 x11 o13 x18)) ?_
        refine Eq.trans loop_normal ?_
        exact ih (Go.IntKind.wrap .i64 (x18 + 1))
    · rw [hc]
      refine Eq.trans k_exit ?_
      refine Eq.trans loop_exit ?_
      exact hK0 x18
theorem f60r3 (k : Nat) (a0 : T_api_Type) (x11 : Int) (o13 : T_api_Field) (y21 : Int) : RE k f60a3 f60o3 false ⟨[(1, (V.ptr 1 0 0)), (3, (I x11)), (4, (V.ptr 4 0 0)), (5, (I y21)), (51, (V.bool false))], [(1, ⟨false, 8, [(enc_T_api_Type a0)]⟩), (4, ⟨false, 3, [(enc_T_api_Field o13)]⟩)], 112⟩ = some ⟨[(1, (V.ptr 1 0 0)), (3, (I (Go.IntKind.wrap .i64 (x11 + 1))))], [(1, ⟨false, 8, [(enc_T_api_Type a0)]⟩)], 112⟩ :=
  rE rfl
theorem ref11_fields_L1_ok (k : Nat) (a0 : T_api_Type)  (K0 : Int → Option Bool) (Kst : X × St → Option (V × List V)) (hK0 : ∀ (y0 : Int), Kst (X.exit 0, ⟨[(1, (V.ptr 1 0 0)), (3, (I y0)), (10, (V.bool false))], [(1, ⟨false, 8, [(enc_T_api_Type a0)]⟩)], 112⟩) = (K0 y0).map ref11_fields_fin) (hret : ∀ s, Kst (X.ret, s) = endK prog 112 [(enc_T_api_Type a0)] [] [.tmp 2] (X.ret, s)) :
    ∀ (m : Nat) (x11 : Int), (iter (exec prog (EV k) f60n k f60b1) m ⟨[(1, (V.ptr 1 0 0)), (3, (I x11))], [(1, ⟨false, 8, [(enc_T_api_Type a0)]⟩)], 112⟩).bind Kst = (ref11_fields_L1 k a0 K0 m x11).map ref11_fields_fin := by
  intro m
  induction m with
  | zero => intros; rfl
  | succ m ih =>
    intro x11
    unfold ref11_fields_L1
    refine Eq.trans k_round ?_
    refine Eq.trans k_assoc ?_
    refine Eq.trans (k_region0 rfl (f60r2 k a0 x11)) ?_
    refine Eq.trans (k_cond (t := (decide (x11 < (a0.fFields.length : Int)))) rfl) ?_
    refine bifE2 (fun hc => ?_) fun hc => ?_
    · rw [hc]
      refine Eq.trans k_skip ?_
      refine Eq.trans k_block ?_
      refine Eq.trans (k_region rfl (f60r4 k a0 x11)) ?_
      refine bindE (fun o13 => ?_)
      refine Eq.trans k_assoc ?_
      refine Eq.trans (k_region rfl (f60r5 k a0 x11 o13)) ?_
      refine bindE (fun o15 => ?_)
      refine Eq.trans (k_cond (t := o15) rfl) ?_
      refine bifE2 (fun hc => ?_) fun hc => ?_
      · rw [hc]
        refine Eq.trans k_assoc ?_
        refine Eq.trans (k_region0 rfl (f60r6 k a0 x11 o13)) ?_
        refine Eq.trans k_ret ?_
        refine Eq.trans blk_ret ?_
        refine Eq.trans loop_ret ?_
        refine Eq.trans (hret _) ?_
        rfl
      · rw [hc]
        refine Eq.trans k_skip ?_
        refine Eq.trans (k_region0 rfl (f60r7 k a0 x11 o13)) ?_
        refine Eq.trans k_lblock ?_
        refine Eq.trans k_loop ?_
        refine ref11_fields_L2_ok k a0 x11 o13 _ _ ?h_ref11_fields_L2_0 ?hr_ref11_fields_L2 k 0
        · intro y21
          refine Eq.trans blk_exit ?_
          refine Eq.trans k_lskip ?_
          refine Eq.trans blk_normal ?_
          refine Eq.trans (k_lregion0 rfl (f60r3 k a0 x11 o13 y21)) ?_
          refine Eq.trans loop_normal ?_
          exact ih (Go.IntKind.wrap .i64 (x11 + 1))
        · intro s; exact hret s
    · rw [hc]
      refine Eq.trans k_exit ?_
      refine Eq.trans loop_exit ?_
      exact hK0 x11
theorem f60r12 (k : Nat) (a0 : T_api_Type) (y22 : Int) : RE k f60a12 f60o12 false ⟨[(1, (V.ptr 1 0 0)), (3, (I y22)), (10, (V.bool false))], [(1, ⟨false, 8, [(enc_T_api_Type a0)]⟩)], 112⟩ = ((bif (decide (a0.fKey < (-1))) then (some (true)) else (bif (decide (a0.fKey ≥ (a0.fFields.length : Int))) then (some (true)) else (bif (decide (a0.fKey < 0)) then (some (a0.fUnique)) else (some (false)))))).map (fun (o : Bool) => (⟨[(1, (V.ptr 1 0 0)), (82, (V.bool o))], [(1, ⟨false, 8, [(enc_T_api_Type a0)]⟩)], 112⟩ : St)) := by
  refine rg ?_
  refine ra 4 4 ⟨[(1, (V.ptr 1 0 0)), (3, (I y22)), (10, (V.bool false)), (63, (V.ptr 1 0 5)), (64, (I a0.fKey)), (65, (V.bool (decide (a0.fKey < (-1))))), (66, (V.bool (decide (a0.fKey < (-1)))))], [(1, ⟨false, 8, [(enc_T_api_Type a0)]⟩)], 112⟩ rfl rfl rfl ?_
  refine bifE (c := (decide (a0.fKey < (-1)))) (fun hc => ?_) fun hc => ?_
  · rw [hc]
    exact reg_end rfl
  · rw [hc]
    refine ra 4 8 ⟨[(1, (V.ptr 1 0 0)), (3, (I y22)), (10, (V.bool false)), (63, (V.ptr 1 0 5)), (64, (I a0.fKey)), (65, (V.bool false)), (66, (V.bool false)), (67, (V.ptr 1 0 5)), (68, (I a0.fKey)), (69, (V.ptr 1 0 4)), (70, (sField (a0.fFields)))], [(1, ⟨false, 8, [(enc_T_api_Type a0)]⟩)], 112⟩ rfl rfl rfl ?_
    refine Eq.trans (reg_pure (x := some ()) (w := fun _ => (I (a0.fFields.length : Int))) rfl rfl rfl rfl (p_len (e := enc_T_api_Field) rfl rfl rfl rfl rfl rfl Go.Proofs.Try.underlying53)) ?_
    refine Eq.trans some_bind ?_
    refine ba 3 12 ⟨[(1, (V.ptr 1 0 0)), (3, (I y22)), (10, (V.bool false)), (63, (V.ptr 1 0 5)), (64, (I a0.fKey)), (65, (V.bool false)), (66, (V.bool false)), (67, (V.ptr 1 0 5)), (68, (I a0.fKey)), (69, (V.ptr 1 0 4)), (70, (sField (a0.fFields))), (71, (I (a0.fFields.length : Int))), (72, (V.bool (decide (a0.fKey ≥ (a0.fFields.length : Int))))), (73, (V.bool (decide (a0.fKey ≥ (a0.fFields.length : Int))))), (74, (V.bool (decide (a0.fKey ≥ (a0.fFields.length : Int)))))], [(1, ⟨false, 8, [(enc_T_api_Type a0)]⟩)], 112⟩ rfl rfl rfl ?_
    refine bifE (c := (decide (a0.fKey ≥ (a0.fFields.length : Int)))) (fun hc => ?_) fun hc => ?_
    · rw [hc]
      exact reg_end rfl
    · rw [hc]
      refine ra 4 16 ⟨[(1, (V.ptr 1 0 0)), (3, (I y22)), (10, (V.bool false)), (63, (V.ptr 1 0 5)), (64, (I a0.fKey)), (65, (V.bool false)), (66, (V.bool false)), (67, (V.ptr 1 0 5)), (68, (I a0.fKey)), (69, (V.ptr 1 0 4)), (70, (sField (a0.fFields))), (71, (I (a0.fFields.length : Int))), (72, (V.bool false)), (73, (V.bool false)), (74, (V.bool false)), (75, (V.ptr 1 0 5)), (76, (I a0.fKey)), (77, (V.bool (decide (a0.fKey < 0)))), (78, (V.bool (decide (a0.fKey < 0))))], [(1, ⟨false, 8, [(enc_T_api_Type a0)]⟩)], 112⟩ rfl rfl rfl ?_
      refine bifE (c := (decide (a0.fKey < 0))) (fun hc => ?_) fun hc => ?_
      · rw [hc]
        exact reg_end rfl
      · rw [hc]
        exact reg_end rfl
theorem f60r13 (k : Nat) (a0 : T_api_Type) : RE k f60a13 f60o13 false ⟨[(1, (V.ptr 1 0 0)), (82, (V.bool true))], [(1, ⟨false, 8, [(enc_T_api_Type a0)]⟩)], 112⟩ = some ⟨[(2, (V.bool false))], [], 112⟩ :=
  rE rfl
theorem f60r14 (k : Nat) (a0 : T_api_Type) : RE k f60a14 f60o14 true ⟨[(1, (V.ptr 1 0 0)), (82, (V.bool false))], [(1, ⟨false, 8, [(enc_T_api_Type a0)]⟩)], 112⟩ = ((bif (decide ((a0.fFields.length : Int) ≤ 5)) then (bif (decide (a0.fKey < 0)) then (some (true)) else ((idx a0.fFields a0.fKey).bind fun v24 => ((idx a0.fFields a0.fKey).bind fun v25 => (some ((decide ((Go.IntKind.wrap .i64 (v24.fAt + v25.fBytes)) ≤ a0.fMin))))))) else (some (false)))).map (fun (o : Bool) => (⟨[(2, (V.bool o))], [], 112⟩ : St)) := by
  refine Eq.trans (regionE_regp (p := 30) (dk := true) (t := [(1, (V.ptr 1 0 0)), (82, (V.bool false))]) (σ := [(1, ⟨false, 8, [(enc_T_api_Type a0)]⟩)]) (n := 112) (by decide) (by decide) rfl) ?_
  refine Eq.trans (regp_adv (m := 2) (j := 2) (t' := [(1, (V.ptr 1 0 0)), (82, (V.bool false)), (83, (V.ptr 1 0 4)), (84, (sField (a0.fFields)))]) rfl rfl rfl) ?_
  refine Eq.trans (regp_pure (x := some ()) (w := fun _ => (I (a0.fFields.length : Int))) rfl rfl rfl rfl rfl (p_len (e := enc_T_api_Field) rfl rfl rfl rfl rfl rfl Go.Proofs.Try.underlying53)) ?_
  refine Eq.trans some_bind ?_
  refine Eq.trans (putp_adv (m := 2) (j := 5) (t' := [(1, (V.ptr 1 0 0)), (82, (V.bool false)), (83, (V.ptr 1 0 4)), (84, (sField (a0.fFields))), (85, (I (a0.fFields.length : Int))), (86, (V.bool (decide ((a0.fFields.length : Int) ≤ 5)))), (87, (V.bool (decide ((a0.fFields.length : Int) ≤ 5))))]) rfl rfl rfl) ?_
  refine bifE (c := (decide ((a0.fFields.length : Int) ≤ 5))) (fun hc => ?_) fun hc => ?_
  · rw [hc]
    refine Eq.trans (regp_adv (m := 4) (j := 9) (t' := [(1, (V.ptr 1 0 0)), (82, (V.bool false)), (83, (V.ptr 1 0 4)), (84, (sField (a0.fFields))), (85, (I (a0.fFields.length : Int))), (86, (V.bool true)), (87, (V.bool true)), (88, (V.ptr 1 0 5)), (89, (I a0.fKey)), (90, (V.bool (decide (a0.fKey < 0)))), (91, (V.bool (decide (a0.fKey < 0))))]) rfl rfl rfl) ?_
    refine bifE (c := (decide (a0.fKey < 0))) (fun hc => ?_) fun hc => ?_
    · rw [hc]
      exact regp_end rfl
    · rw [hc]
      refine Eq.trans (regp_adv (m := 4) (j := 13) (t' := [(1, (V.ptr 1 0 0)), (82, (V.bool false)), (83, (V.ptr 1 0 4)), (84, (sField (a0.fFields))), (85, (I (a0.fFields.length : Int))), (86, (V.bool true)), (87, (V.bool true)), (88, (V.ptr 1 0 5)), (89, (I a0.fKey)), (90, (V.bool false)), (91, (V.bool false)), (92, (V.ptr 1 0 4)), (93, (sField (a0.fFields))), (94, (V.ptr 1 0 5)), (95, (I a0.fKey))]) rfl rfl rfl) ?_
      refine Eq.trans (regp_pure (x := (idx a0.fFields a0.fKey)) (w := fun v24 => (V.pro (enc_T_api_Field v24))) rfl rfl rfl rfl rfl (p_index (e := enc_T_api_Field) rfl rfl rfl Go.Proofs.Try.underlying53 rfl (by decide))) ?_
      refine bindE (fun v24 => ?_)
      refine Eq.trans (putp_adv (m := 6) (j := 20) (t' := [(1, (V.ptr 1 0 0)), (82, (V.bool false)), (83, (V.ptr 1 0 4)), (84, (sField (a0.fFields))), (85, (I (a0.fFields.length : Int))), (86, (V.bool true)), (87, (V.bool true)), (88, (V.ptr 1 0 5)), (89, (I a0.fKey)), (90, (V.bool false)), (91, (V.bool false)), (92, (V.ptr 1 0 4)), (93, (sField (a0.fFields))), (94, (V.ptr 1 0 5)), (95, (I a0.fKey)), (96, (V.pro (enc_T_api_Field v24))), (97, (V.pro (I v24.fAt))), (98, (I v24.fAt)), (99, (V.ptr 1 0 4)), (100, (sField (a0.fFields))), (101, (V.ptr 1 0 5)), (102, (I a0.fKey))]) rfl rfl rfl) ?_
      refine Eq.trans (regp_pure (x := (idx a0.fFields a0.fKey)) (w := fun v25 => (V.pro (enc_T_api_Field v25))) rfl rfl rfl rfl rfl (p_index (e := enc_T_api_Field) rfl rfl rfl Go.Proofs.Try.underlying53 rfl (by decide))) ?_
      refine bindE (fun v25 => ?_)
      exact regp_end rfl
  · rw [hc]
    exact regp_end rfl
theorem ref11_fields_ok (k : Nat) (a0 : T_api_Type) : EV k 60 [(enc_T_api_Type a0)] = (ref11_fields k a0).map ref11_fields_fin := by
  cases k with
  | zero => rfl
  | succ k =>
    unfold ref11_fields
    refine Eq.trans (evF_succ (c := f60c) (N := 112) (regs := f60n) rfl Go.Proofs.Try.func60 rfl (by decide) rfl rfl rfl) ?_
    refine Eq.trans (k_region0 rfl (f60r0 k a0)) ?_
    refine Eq.trans k_assoc ?_
    refine Eq.trans (k_region0 rfl (f60r1 k a0)) ?_
    refine Eq.trans k_block ?_
    refine Eq.trans k_loop ?_
    refine ref11_fields_L1_ok k a0 _ _ ?h_ref11_fields_L1_0 ?hr_ref11_fields_L1 k 0
    · intro y22
      refine Eq.trans blk_exit ?_
      refine Eq.trans k_assoc ?_
      refine Eq.trans (k_region rfl (f60r12 k a0 y22)) ?_
      refine bindE (fun o23 => ?_)
      refine Eq.trans (k_cond (t := o23) rfl) ?_
      refine bifE2 (fun hc => ?_) fun hc => ?_
      · rw [hc]
        refine Eq.trans k_assoc ?_
        refine Eq.trans (k_region0 rfl (f60r13 k a0)) ?_
        refine Eq.trans k_ret ?_
        rfl
      · rw [hc]
        refine Eq.trans k_skip ?_
        refine Eq.trans (k_region rfl (f60r14 k a0)) ?_
        refine bindE (fun o26 => ?_)
        refine Eq.trans k_lret ?_
        rfl
    · intro s; exact rfl
def ref11_above_fin : Bool → V × List V := fun r => ((V.bool r), [])
theorem f43r0 (k : Nat) (a0 : T_api_Base) (a1 : Int) (a2 : Int) : RE k f43a0 f43o0 false ⟨[(0, (enc_T_api_Base a0)), (1, (I a1)), (2, (I a2))], [], 24⟩ = some ⟨[(1, (I a1)), (2, (I a2)), (3, (V.ptr 3 0 0))], [(3, ⟨false, 4, [(enc_T_api_Base a0)]⟩)], 24⟩ :=
  rE rfl
theorem f43r1 (k : Nat) (a0 : T_api_Base) (a1 : Int) (a2 : Int) : RE k f43a1 f43o1 false ⟨[(1, (I a1)), (2, (I a2)), (3, (V.ptr 3 0 0))], [(3, ⟨false, 4, [(enc_T_api_Base a0)]⟩)], 24⟩ = (((idx a0.fTypes a2).bind fun v1 => (some (v1.fParent)))).map (fun (o : Int) => (⟨[(1, (I a1)), (2, (I o)), (3, (V.ptr 3 0 0))], [(3, ⟨false, 4, [(enc_T_api_Base a0)]⟩)], 24⟩ : St)) := by
  refine rg ?_
  refine ra 3 3 ⟨[(1, (I a1)), (2, (I a2)), (3, (V.ptr 3 0 0)), (7, (V.ptr 3 0 2)), (8, (sType (a0.fTypes))), (9, (I a2))], [(3, ⟨false, 4, [(enc_T_api_Base a0)]⟩)], 24⟩ rfl rfl rfl ?_
  refine Eq.trans (reg_pure (x := (idx a0.fTypes a2)) (w := fun v1 => (V.pro (enc_T_api_Type v1))) rfl rfl rfl rfl (p_index (e := enc_T_api_Type) rfl rfl rfl Go.Proofs.Try.underlying22 rfl (by decide))) ?_
  refine bindE (fun v1 => ?_)
  exact bind_end rfl
theorem f43r2 (k : Nat) (a0 : T_api_Base) (a1 : Int) (x5 : Int) : RE k f43a2 f43o2 false ⟨[(1, (I a1)), (2, (I x5)), (3, (V.ptr 3 0 0))], [(3, ⟨false, 4, [(enc_T_api_Base a0)]⟩)], 24⟩ = some ⟨[(1, (I a1)), (2, (I x5)), (3, (V.ptr 3 0 0)), (14, (V.bool (decide (x5 ≥ 0))))], [(3, ⟨false, 4, [(enc_T_api_Base a0)]⟩)], 24⟩ :=
  rE rfl
theorem f43r4 (k : Nat) (a0 : T_api_Base) (a1 : Int) (x5 : Int) : RE k f43a4 f43o4 false ⟨[(1, (I a1)), (2, (I x5)), (3, (V.ptr 3 0 0)), (14, (V.bool true))], [(3, ⟨false, 4, [(enc_T_api_Base a0)]⟩)], 24⟩ = some ⟨[(1, (I a1)), (2, (I x5)), (3, (V.ptr 3 0 0)), (23, (V.bool (x5 == a1)))], [(3, ⟨false, 4, [(enc_T_api_Base a0)]⟩)], 24⟩ :=
  rE rfl
theorem f43r5 (k : Nat) (a0 : T_api_Base) (a1 : Int) (x5 : Int) : RE k f43a5 f43o5 false ⟨[(1, (I a1)), (2, (I x5)), (3, (V.ptr 3 0 0)), (23, (V.bool true))], [(3, ⟨false, 4, [(enc_T_api_Base a0)]⟩)], 24⟩ = some ⟨[(6, (V.bool true))], [], 24⟩ :=
  rE rfl
theorem f43r3 (k : Nat) (a0 : T_api_Base) (a1 : Int) (x5 : Int) : RE k f43a3 f43o3 false ⟨[(1, (I a1)), (2, (I x5)), (3, (V.ptr 3 0 0)), (23, (V.bool false))], [(3, ⟨false, 4, [(enc_T_api_Base a0)]⟩)], 24⟩ = (((idx a0.fTypes x5).bind fun v6 => (some (v6.fParent)))).map (fun (o : Int) => (⟨[(1, (I a1)), (2, (I o)), (3, (V.ptr 3 0 0))], [(3, ⟨false, 4, [(enc_T_api_Base a0)]⟩)], 24⟩ : St)) := by
  refine rg ?_
  refine ra 3 3 ⟨[(1, (I a1)), (2, (I x5)), (3, (V.ptr 3 0 0)), (15, (V.ptr 3 0 2)), (16, (sType (a0.fTypes))), (17, (I x5)), (23, (V.bool false))], [(3, ⟨false, 4, [(enc_T_api_Base a0)]⟩)], 24⟩ rfl rfl rfl ?_
  refine Eq.trans (reg_pure (x := (idx a0.fTypes x5)) (w := fun v6 => (V.pro (enc_T_api_Type v6))) rfl rfl rfl rfl (p_index (e := enc_T_api_Type) rfl rfl rfl Go.Proofs.Try.underlying22 rfl (by decide))) ?_
  refine bindE (fun v6 => ?_)
  exact bind_end rfl
theorem ref11_above_L1_ok (k : Nat) (a0 : T_api_Base) (a1 : Int) (a2 : Int)  (K0 : Int → Option Bool) (Kst : X × St → Option (V × List V)) (hK0 : ∀ (y0 : Int), Kst (X.exit 0, ⟨[(1, (I a1)), (2, (I y0)), (3, (V.ptr 3 0 0)), (14, (V.bool false))], [(3, ⟨false, 4, [(enc_T_api_Base a0)]⟩)], 24⟩) = (K0 y0).map ref11_above_fin) (hret : ∀ s, Kst (X.ret, s) = endK prog 24 [(enc_T_api_Base a0), (I a1), (I a2)] [] [.tmp 6] (X.ret, s)) :
    ∀ (m : Nat) (x5 : Int), (iter (exec prog (EV k) f43n k f43b0) m ⟨[(1, (I a1)), (2, (I x5)), (3, (V.ptr 3 0 0))], [(3, ⟨false, 4, [(enc_T_api_Base a0)]⟩)], 24⟩).bind Kst = (ref11_above_L1 a0 a1 K0 m x5).map ref11_above_fin := by
  intro m
  induction m with
  | zero => intros; rfl
  | succ m ih =>
    intro x5
    unfold ref11_above_L1
    refine Eq.trans k_round ?_
    refine Eq.trans k_assoc ?_
    refine Eq.trans (k_region0 rfl (f43r2 k a0 a1 x5)) ?_
    refine Eq.trans (k_cond (t := (decide (x5 ≥ 0))) rfl) ?_
    refine bifE2 (fun hc => ?_) fun hc => ?_
    · rw [hc]
      refine Eq.trans k_skip ?_
      refine Eq.trans k_block ?_
      refine Eq.trans (k_region0 rfl (f43r4 k a0 a1 x5)) ?_
      refine Eq.trans (k_lcond (t := (x5 == a1)) rfl) ?_
      refine bifE2 (fun hc => ?_) fun hc => ?_
      · rw [hc]
        refine Eq.trans (k_region0 rfl (f43r5 k a0 a1 x5)) ?_
        refine Eq.trans k_lret ?_
        refine Eq.trans blk_ret ?_
        refine Eq.trans loop_ret ?_
        refine Eq.trans (hret _) ?_
        rfl
      · rw [hc]
        refine Eq.trans k_lskip ?_
        refine Eq.trans blk_normal ?_
        refine Eq.trans (k_lregion rfl (f43r3 k a0 a1 x5)) ?_
        refine bindE (fun o7 => ?_)
        refine Eq.trans loop_normal ?_
        exact ih o7
    · rw [hc]
      refine Eq.trans k_exit ?_
      refine Eq.trans loop_exit ?_
      exact hK0 x5
theorem f43r6 (k : Nat) (a0 : T_api_Base) (a1 : Int) (y8 : Int) : RE k f43a6 f43o6 false ⟨[(1, (I a1)), (2, (I y8)), (3, (V.ptr 3 0 0)), (14, (V.bool false))], [(3, ⟨false, 4, [(enc_T_api_Base a0)]⟩)], 24⟩ = some ⟨[(6, (V.bool false))], [], 24⟩ :=
  rE rfl
theorem ref11_above_ok (k : Nat) (a0 : T_api_Base) (a1 : Int) (a2 : Int) : EV k 43 [(enc_T_api_Base a0), (I a1), (I a2)] = (ref11_above k a0 a1 a2).map ref11_above_fin := by
  cases k with
  | zero => rfl
  | succ k =>
    unfold ref11_above
    refine Eq.trans (evF_succ (c := f43c) (N := 24) (regs := f43n) rfl Go.Proofs.Try.func43 rfl (by decide) rfl rfl rfl) ?_
    refine Eq.trans (k_region0 rfl (f43r0 k a0 a1 a2)) ?_
    refine Eq.trans k_assoc ?_
    refine Eq.trans (k_region rfl (f43r1 k a0 a1 a2)) ?_
    refine bindE (fun o2 => ?_)
    refine Eq.trans k_block ?_
    refine Eq.trans k_loop ?_
    refine ref11_above_L1_ok k a0 a1 a2 _ _ ?h_ref11_above_L1_0 ?hr_ref11_above_L1 k o2
    · intro y8
      refine Eq.trans blk_exit ?_
      refine Eq.trans (k_region0 rfl (f43r6 k a0 a1 y8)) ?_
      refine Eq.trans k_lret ?_
      rfl
    · intro s; exact rfl
def ref11_way_fin : (List Int) → V × List V := fun r => ((sI r), [])
theorem f41r0 (k : Nat) (a0 : T_api_Base) (a1 : Int) : RE k f41a0 f41o0 false ⟨[(0, (enc_T_api_Base a0)), (1, (I a1))], [], 19⟩ = some ⟨[(1, (I a1)), (2, (V.ptr 2 0 0))], [(2, ⟨false, 4, [(enc_T_api_Base a0)]⟩)], 19⟩ :=
  rE rfl
theorem f41r1 (k : Nat) (a0 : T_api_Base) (a1 : Int) : RE k f41a1 f41o1 false ⟨[(1, (I a1)), (2, (V.ptr 2 0 0))], [(2, ⟨false, 4, [(enc_T_api_Base a0)]⟩)], 19⟩ = some ⟨[(1, (I a1)), (2, (V.ptr 2 0 0)), (5, (sI (([] : List Int))))], [(2, ⟨false, 4, [(enc_T_api_Base a0)]⟩)], 19⟩ :=
  rE rfl
theorem f41r2 (k : Nat) (a0 : T_api_Base) (x5 : Int) (x6 : (List Int)) : RE k f41a2 f41o2 false ⟨[(1, (I x5)), (2, (V.ptr 2 0 0)), (5, (sI x6))], [(2, ⟨false, 4, [(enc_T_api_Base a0)]⟩)], 19⟩ = some ⟨[(1, (I x5)), (2, (V.ptr 2 0 0)), (5, (sI x6)), (7, (V.bool (decide (x5 ≥ 0))))], [(2, ⟨false, 4, [(enc_T_api_Base a0)]⟩)], 19⟩ :=
  rE rfl
theorem f41r3 (k : Nat) (a0 : T_api_Base) (x5 : Int) (x6 : (List Int)) : RE k f41a3 f41o3 false ⟨[(1, (I x5)), (2, (V.ptr 2 0 0)), (5, (sI x6)), (7, (V.bool true))], [(2, ⟨false, 4, [(enc_T_api_Base a0)]⟩)], 19⟩ = ((app ([x5] : List Int) x6)).map (fun (o : (List Int)) => (⟨[(1, (I x5)), (2, (V.ptr 2 0 0)), (5, (sI o))], [(2, ⟨false, 4, [(enc_T_api_Base a0)]⟩)], 19⟩ : St)) := by
  refine rg ?_
  refine ra 3 3 ⟨[(1, (I x5)), (2, (V.ptr 2 0 0)), (5, (sI x6)), (7, (V.bool true)), (8, (I x5)), (9, (V.sl 1 1 (List.map I ([x5] : List Int)))), (10, (sI x6))], [(2, ⟨false, 4, [(enc_T_api_Base a0)]⟩)], 19⟩ rfl rfl rfl ?_
  refine Eq.trans (reg_eff (x := (app ([x5] : List Int) x6)) (w := fun v7 => ((V.sl 1 1 (List.map I v7)), _)) rfl rfl rfl rfl (p_app (e := I) rfl rfl rfl rfl rfl rfl rfl rfl rfl rfl (by decide))) ?_
  refine bind_self (fun v7 => ?_)
  exact bind_end rfl
theorem f41r4 (k : Nat) (a0 : T_api_Base) (x5 : Int) (o8 : (List Int)) : RE k f41a4 f41o4 false ⟨[(1, (I x5)), (2, (V.ptr 2 0 0)), (5, (sI o8))], [(2, ⟨false, 4, [(enc_T_api_Base a0)]⟩)], 19⟩ = (((idx a0.fTypes x5).bind fun v9 => (some (v9.fParent)))).map (fun (o : Int) => (⟨[(1, (I o)), (2, (V.ptr 2 0 0)), (5, (sI o8))], [(2, ⟨false, 4, [(enc_T_api_Base a0)]⟩)], 19⟩ : St)) := by
  refine rg ?_
  refine ra 3 3 ⟨[(1, (I x5)), (2, (V.ptr 2 0 0)), (5, (sI o8)), (12, (V.ptr 2 0 2)), (13, (sType (a0.fTypes))), (14, (I x5))], [(2, ⟨false, 4, [(enc_T_api_Base a0)]⟩)], 19⟩ rfl rfl rfl ?_
  refine Eq.trans (reg_pure (x := (idx a0.fTypes x5)) (w := fun v9 => (V.pro (enc_T_api_Type v9))) rfl rfl rfl rfl (p_index (e := enc_T_api_Type) rfl rfl rfl Go.Proofs.Try.underlying22 rfl (by decide))) ?_
  refine bindE (fun v9 => ?_)
  exact bind_end rfl
theorem ref11_way_L1_ok (k : Nat) (a0 : T_api_Base) (a1 : Int)  (K0 : Int → (List Int) → Option (List Int)) (Kst : X × St → Option (V × List V)) (hK0 : ∀ (y0 : Int) (y1 : (List Int)), Kst (X.exit 0, ⟨[(1, (I y0)), (2, (V.ptr 2 0 0)), (5, (sI y1)), (7, (V.bool false))], [(2, ⟨false, 4, [(enc_T_api_Base a0)]⟩)], 19⟩) = (K0 y0 y1).map ref11_way_fin) (hret : ∀ s, Kst (X.ret, s) = endK prog 19 [(enc_T_api_Base a0), (I a1)] [] [.tmp 4] (X.ret, s)) :
    ∀ (m : Nat) (x5 : Int) (x6 : (List Int)), (iter (exec prog (EV k) f41n k f41b0) m ⟨[(1, (I x5)), (2, (V.ptr 2 0 0)), (5, (sI x6))], [(2, ⟨false, 4, [(enc_T_api_Base a0)]⟩)], 19⟩).bind Kst = (ref11_way_L1 a0 K0 m x5 x6).map ref11_way_fin := by
  intro m
  induction m with
  | zero => intros; rfl
  | succ m ih =>
    intro x5 x6
    unfold ref11_way_L1
    refine Eq.trans k_round ?_
    refine Eq.trans k_assoc ?_
    refine Eq.trans (k_region0 rfl (f41r2 k a0 x5 x6)) ?_
    refine Eq.trans (k_cond (t := (decide (x5 ≥ 0))) rfl) ?_
    refine bifE2 (fun hc => ?_) fun hc => ?_
    · rw [hc]
      refine Eq.trans k_skip ?_
      refine Eq.trans k_lblock ?_
      refine Eq.trans (k_region rfl (f41r3 k a0 x5 x6)) ?_
      refine bindE (fun o8 => ?_)
      refine Eq.trans (k_lregion rfl (f41r4 k a0 x5 o8)) ?_
      refine bindE (fun o10 => ?_)
      refine Eq.trans blk_normal ?_
      refine Eq.trans k_lskip ?_
      refine Eq.trans loop_normal ?_
      exact ih o10 o8
    · rw [hc]
      refine Eq.trans k_exit ?_
      refine Eq.trans loop_exit ?_
      exact hK0 x5 x6
theorem f41r5 (k : Nat) (a0 : T_api_Base) (y11 : Int) (y12 : (List Int)) : RE k f41a5 f41o5 false ⟨[(1, (I y11)), (2, (V.ptr 2 0 0)), (5, (sI y12)), (7, (V.bool false))], [(2, ⟨false, 4, [(enc_T_api_Base a0)]⟩)], 19⟩ = some ⟨[(4, (sI y12))], [], 19⟩ :=
  rE rfl
theorem ref11_way_ok (k : Nat) (a0 : T_api_Base) (a1 : Int) : EV k 41 [(enc_T_api_Base a0), (I a1)] = (ref11_way k a0 a1).map ref11_way_fin := by
  cases k with
  | zero => rfl
  | succ k =>
    unfold ref11_way
    refine Eq.trans (evF_succ (c := f41c) (N := 19) (regs := f41n) rfl Go.Proofs.Try.func41 rfl (by decide) rfl rfl rfl) ?_
    refine Eq.trans (k_region0 rfl (f41r0 k a0 a1)) ?_
    refine Eq.trans (k_region0 rfl (f41r1 k a0 a1)) ?_
    refine Eq.trans k_block ?_
    refine Eq.trans k_loop ?_
    refine ref11_way_L1_ok k a0 a1 _ _ ?h_ref11_way_L1_0 ?hr_ref11_way_L1 k a1 ([] : List Int)
    · intro y11 y12
      refine Eq.trans blk_exit ?_
      refine Eq.trans (k_region0 rfl (f41r5 k a0 y11 y12)) ?_
      refine Eq.trans k_lret ?_
      rfl
    · intro s; exact rfl
def ref11_Valid_fin : Bool → V × List V := fun r => ((V.bool r), [])
theorem f29r0 (k : Nat) (a0 : T_api_Base) : RE k f29a0 f29o0 false ⟨[(0, (enc_T_api_Base a0))], [], 232⟩ = some ⟨[(1, (V.ptr 1 0 0))], [(1, ⟨false, 4, [(enc_T_api_Base a0)]⟩)], 232⟩ :=
  rE rfl
theorem f29r1 (k : Nat) (a0 : T_api_Base) : RE k f29a1 f29o1 false ⟨[(1, (V.ptr 1 0 0))], [(1, ⟨false, 4, [(enc_T_api_Base a0)]⟩)], 232⟩ = (((ref11_IsName k a0.fName).bind fun v1 => (bif (!v1) then (some (true)) else (bif (decide (a0.fKind < 1)) then (some (true)) else (bif (decide (a0.fKind > 4)) then (some (true)) else (bif (decide ((a0.fTypes.length : Int) < 1)) then (some (true)) else (bif (decide ((a0.fTypes.length : Int) > 8)) then (some (true)) else (some ((decide ((a0.fIndexes.length : Int) > 3))))))))))).map (fun (o : Bool) => (⟨[(1, (V.ptr 1 0 0)), (40, (V.bool o))], [(1, ⟨false, 4, [(enc_T_api_Base a0)]⟩)], 232⟩ : St)) := by
  refine rg ?_
  refine ra 2 2 ⟨[(1, (V.ptr 1 0 0)), (9, (V.ptr 1 0 0)), (10, (V.str a0.fName))], [(1, ⟨false, 4, [(enc_T_api_Base a0)]⟩)], 232⟩ rfl rfl rfl ?_
  refine Eq.trans (reg_pure (x := (ref11_IsName k a0.fName)) (w := fun v1 => (V.bool v1)) rfl rfl rfl rfl (p_call rfl rfl rfl rfl rfl (ref11_IsName_ok k a0.fName) (.inl rfl))) ?_
  refine bindE (fun v1 => ?_)
  refine ba 2 5 ⟨[(1, (V.ptr 1 0 0)), (9, (V.ptr 1 0 0)), (10, (V.str a0.fName)), (11, (V.bool v1)), (12, (V.bool (!v1))), (13, (V.bool (!v1)))], [(1, ⟨false, 4, [(enc_T_api_Base a0)]⟩)], 232⟩ rfl rfl rfl ?_
  refine bifE (c := (!v1)) (fun hc => ?_) fun hc => ?_
  · rw [hc]
    exact reg_end rfl
  · rw [hc]
    refine ra 5 10 ⟨[(1, (V.ptr 1 0 0)), (9, (V.ptr 1 0 0)), (10, (V.str a0.fName)), (11, (V.bool v1)), (12, (V.bool false)), (13, (V.bool false)), (14, (V.ptr 1 0 1)), (15, (I a0.fKind)), (16, (V.bool (decide (a0.fKind < 1)))), (17, (V.bool (decide (a0.fKind < 1)))), (18, (V.bool (decide (a0.fKind < 1))))], [(1, ⟨false, 4, [(enc_T_api_Base a0)]⟩)], 232⟩ rfl rfl rfl ?_
    refine bifE (c := (decide (a0.fKind < 1))) (fun hc => ?_) fun hc => ?_
    · rw [hc]
      exact reg_end rfl
    · rw [hc]
      refine ra 5 15 ⟨[(1, (V.ptr 1 0 0)), (9, (V.ptr 1 0 0)), (10, (V.str a0.fName)), (11, (V.bool v1)), (12, (V.bool false)), (13, (V.bool false)), (14, (V.ptr 1 0 1)), (15, (I a0.fKind)), (16, (V.bool false)), (17, (V.bool false)), (18, (V.bool false)), (19, (V.ptr 1 0 1)), (20, (I a0.fKind)), (21, (V.bool (decide (a0.fKind > 4)))), (22, (V.bool (decide (a0.fKind > 4)))), (23, (V.bool (decide (a0.fKind > 4))))], [(1, ⟨false, 4, [(enc_T_api_Base a0)]⟩)], 232⟩ rfl rfl rfl ?_
      refine bifE (c := (decide (a0.fKind > 4))) (fun hc => ?_) fun hc => ?_
      · rw [hc]
        exact reg_end rfl
      · rw [hc]
        refine ra 2 17 ⟨[(1, (V.ptr 1 0 0)), (9, (V.ptr 1 0 0)), (10, (V.str a0.fName)), (11, (V.bool v1)), (12, (V.bool false)), (13, (V.bool false)), (14, (V.ptr 1 0 1)), (15, (I a0.fKind)), (16, (V.bool false)), (17, (V.bool false)), (18, (V.bool false)), (19, (V.ptr 1 0 1)), (20, (I a0.fKind)), (21, (V.bool false)), (22, (V.bool false)), (23, (V.bool false)), (24, (V.ptr 1 0 2)), (25, (sType (a0.fTypes)))], [(1, ⟨false, 4, [(enc_T_api_Base a0)]⟩)], 232⟩ rfl rfl rfl ?_
        refine Eq.trans (reg_pure (x := some ()) (w := fun _ => (I (a0.fTypes.length : Int))) rfl rfl rfl rfl (p_len (e := enc_T_api_Type) rfl rfl rfl rfl rfl rfl Go.Proofs.Try.underlying22)) ?_
        refine Eq.trans some_bind ?_
        refine ba 3 21 ⟨[(1, (V.ptr 1 0 0)), (9, (V.ptr 1 0 0)), (10, (V.str a0.fName)), (11, (V.bool v1)), (12, (V.bool false)), (13, (V.bool false)), (14, (V.ptr 1 0 1)), (15, (I a0.fKind)), (16, (V.bool false)), (17, (V.bool false)), (18, (V.bool false)), (19, (V.ptr 1 0 1)), (20, (I a0.fKind)), (21, (V.bool false)), (22, (V.bool false)), (23, (V.bool false)), (24, (V.ptr 1 0 2)), (25, (sType (a0.fTypes))), (26, (I (a0.fTypes.length : Int))), (27, (V.bool (decide ((a0.fTypes.length : Int) < 1)))), (28, (V.bool (decide ((a0.fTypes.length : Int) < 1)))), (29, (V.bool (decide ((a0.fTypes.length : Int) < 1))))], [(1, ⟨false, 4, [(enc_T_api_Base a0)]⟩)], 232⟩ rfl rfl rfl ?_
        refine bifE (c := (decide ((a0.fTypes.length : Int) < 1))) (fun hc => ?_) fun hc => ?_
        · rw [hc]
          exact reg_end rfl
        · rw [hc]
          refine ra 2 23 ⟨[(1, (V.ptr 1 0 0)), (9, (V.ptr 1 0 0)), (10, (V.str a0.fName)), (11, (V.bool v1)), (12, (V.bool false)), (13, (V.bool false)), (14, (V.ptr 1 0 1)), (15, (I a0.fKind)), (16, (V.bool false)), (17, (V.bool false)), (18, (V.bool false)), (19, (V.ptr 1 0 1)), (20, (I a0.fKind)), (21, (V.bool false)), (22, (V.bool false)), (23, (V.bool false)), (24, (V.ptr 1 0 2)), (25, (sType (a0.fTypes))), (26, (I (a0.fTypes.length : Int))), (27, (V.bool false)), (28, (V.bool false)), (29, (V.bool false)), (30, (V.ptr 1 0 2)), (31, (sType (a0.fTypes)))], [(1, ⟨false, 4, [(enc_T_api_Base a0)]⟩)], 232⟩ rfl rfl rfl ?_
          refine Eq.trans (reg_pure (x := some ()) (w := fun _ => (I (a0.fTypes.length : Int))) rfl rfl rfl rfl (p_len (e := enc_T_api_Type) rfl rfl rfl rfl rfl rfl Go.Proofs.Try.underlying22)) ?_
          refine Eq.trans some_bind ?_
          refine ba 3 27 ⟨[(1, (V.ptr 1 0 0)), (9, (V.ptr 1 0 0)), (10, (V.str a0.fName)), (11, (V.bool v1)), (12, (V.bool false)), (13, (V.bool false)), (14, (V.ptr 1 0 1)), (15, (I a0.fKind)), (16, (V.bool false)), (17, (V.bool false)), (18, (V.bool false)), (19, (V.ptr 1 0 1)), (20, (I a0.fKind)), (21, (V.bool false)), (22, (V.bool false)), (23, (V.bool false)), (24, (V.ptr 1 0 2)), (25, (sType (a0.fTypes))), (26, (I (a0.fTypes.length : Int))), (27, (V.bool false)), (28, (V.bool false)), (29, (V.bool false)), (30, (V.ptr 1 0 2)), (31, (sType (a0.fTypes))), (32, (I (a0.fTypes.length : Int))), (33, (V.bool (decide ((a0.fTypes.length : Int) > 8)))), (34, (V.bool (decide ((a0.fTypes.length : Int) > 8)))), (35, (V.bool (decide ((a0.fTypes.length : Int) > 8))))], [(1, ⟨false, 4, [(enc_T_api_Base a0)]⟩)], 232⟩ rfl rfl rfl ?_
          refine bifE (c := (decide ((a0.fTypes.length : Int) > 8))) (fun hc => ?_) fun hc => ?_
          · rw [hc]
            exact reg_end rfl
          · rw [hc]
            refine ra 2 29 ⟨[(1, (V.ptr 1 0 0)), (9, (V.ptr 1 0 0)), (10, (V.str a0.fName)), (11, (V.bool v1)), (12, (V.bool false)), (13, (V.bool false)), (14, (V.ptr 1 0 1)), (15, (I a0.fKind)), (16, (V.bool false)), (17, (V.bool false)), (18, (V.bool false)), (19, (V.ptr 1 0 1)), (20, (I a0.fKind)), (21, (V.bool false)), (22, (V.bool false)), (23, (V.bool false)), (24, (V.ptr 1 0 2)), (25, (sType (a0.fTypes))), (26, (I (a0.fTypes.length : Int))), (27, (V.bool false)), (28, (V.bool false)), (29, (V.bool false)), (30, (V.ptr 1 0 2)), (31, (sType (a0.fTypes))), (32, (I (a0.fTypes.length : Int))), (33, (V.bool false)), (34, (V.bool false)), (35, (V.bool false)), (36, (V.ptr 1 0 3)), (37, (sSearch (a0.fIndexes)))], [(1, ⟨false, 4, [(enc_T_api_Base a0)]⟩)], 232⟩ rfl rfl rfl ?_
            refine Eq.trans (reg_pure (x := some ()) (w := fun _ => (I (a0.fIndexes.length : Int))) rfl rfl rfl rfl (p_len (e := enc_T_api_Search) rfl rfl rfl rfl rfl rfl Go.Proofs.Try.underlying23)) ?_
            refine Eq.trans some_bind ?_
            exact bind_end rfl
theorem f29r2 (k : Nat) (a0 : T_api_Base) : RE k f29a2 f29o2 false ⟨[(1, (V.ptr 1 0 0)), (40, (V.bool true))], [(1, ⟨false, 4, [(enc_T_api_Base a0)]⟩)], 232⟩ = some ⟨[(2, (V.bool false))], [], 232⟩ :=
  rE rfl
theorem f29r3 (k : Nat) (a0 : T_api_Base) : RE k f29a3 f29o3 false ⟨[(1, (V.ptr 1 0 0)), (40, (V.bool false))], [(1, ⟨false, 4, [(enc_T_api_Base a0)]⟩)], 232⟩ = some ⟨[(1, (V.ptr 1 0 0)), (3, (I 0))], [(1, ⟨false, 4, [(enc_T_api_Base a0)]⟩)], 232⟩ :=
  rE rfl
theorem f29r4 (k : Nat) (a0 : T_api_Base) (x20 : Int) : RE k f29a4 f29o4 false ⟨[(1, (V.ptr 1 0 0)), (3, (I x20))], [(1, ⟨false, 4, [(enc_T_api_Base a0)]⟩)], 232⟩ = some ⟨[(1, (V.ptr 1 0 0)), (3, (I x20)), (45, (V.bool (decide (x20 < (a0.fTypes.length : Int)))))], [(1, ⟨false, 4, [(enc_T_api_Base a0)]⟩)], 232⟩ := by
  refine rg ?_
  refine ra 3 3 ⟨[(1, (V.ptr 1 0 0)), (3, (I x20)), (41, (I x20)), (42, (V.ptr 1 0 2)), (43, (sType (a0.fTypes)))], [(1, ⟨false, 4, [(enc_T_api_Base a0)]⟩)], 232⟩ rfl rfl rfl ?_
  refine Eq.trans (reg_pure (x := some ()) (w := fun _ => (I (a0.fTypes.length : Int))) rfl rfl rfl rfl (p_len (e := enc_T_api_Type) rfl rfl rfl rfl rfl rfl Go.Proofs.Try.underlying22)) ?_
  refine Eq.trans some_bind ?_
  exact bind_end rfl
theorem f29r6 (k : Nat) (a0 : T_api_Base) (x20 : Int) : RE k f29a6 f29o6 false ⟨[(1, (V.ptr 1 0 0)), (3, (I x20)), (45, (V.bool true))], [(1, ⟨false, 4, [(enc_T_api_Base a0)]⟩)], 232⟩ = ((idx a0.fTypes x20)).map (fun (o : T_api_Type) => (⟨[(1, (V.ptr 1 0 0)), (3, (I x20)), (4, (V.ptr 4 0 0))], [(1, ⟨false, 4, [(enc_T_api_Base a0)]⟩), (4, ⟨false, 8, [(enc_T_api_Type o)]⟩)], 232⟩ : St)) := by
  refine rg ?_
  refine ra 3 3 ⟨[(1, (V.ptr 1 0 0)), (3, (I x20)), (45, (V.bool true)), (48, (V.ptr 1 0 2)), (49, (sType (a0.fTypes))), (50, (I x20))], [(1, ⟨false, 4, [(enc_T_api_Base a0)]⟩)], 232⟩ rfl rfl rfl ?_
  refine Eq.trans (reg_pure (x := (idx a0.fTypes x20)) (w := fun v21 => (V.pro (enc_T_api_Type v21))) rfl rfl rfl rfl (p_index (e := enc_T_api_Type) rfl rfl rfl Go.Proofs.Try.underlying22 rfl (by decide))) ?_
  refine bind_self (fun v21 => ?_)
  exact bind_end rfl
theorem f29r7 (k : Nat) (a0 : T_api_Base) (x20 : Int) (o22 : T_api_Type) : RE k f29a7 f29o7 false ⟨[(1, (V.ptr 1 0 0)), (3, (I x20)), (4, (V.ptr 4 0 0))], [(1, ⟨false, 4, [(enc_T_api_Base a0)]⟩), (4, ⟨false, 8, [(enc_T_api_Type o22)]⟩)], 232⟩ = (((ref11_IsName k o22.fName).bind fun v23 => (bif (!v23) then (some (true)) else (bif (decide (o22.fMin < 1)) then (some (true)) else (bif (decide (o22.fMin > o22.fSize)) then (some (true)) else (bif (decide (o22.fSize > 40)) then (some (true)) else ((ref11_fields k o22).bind fun v24 => (some ((!v24)))))))))).map (fun (o : Bool) => (⟨[(1, (V.ptr 1 0 0)), (3, (I x20)), (4, (V.ptr 4 0 0)), (78, (V.bool o))], [(1, ⟨false, 4, [(enc_T_api_Base a0)]⟩), (4, ⟨false, 8, [(enc_T_api_Type o22)]⟩)], 232⟩ : St)) := by
  refine rg ?_
  refine ra 2 2 ⟨[(1, (V.ptr 1 0 0)), (3, (I x20)), (4, (V.ptr 4 0 0)), (53, (V.ptr 4 0 0)), (54, (V.str o22.fName))], [(1, ⟨false, 4, [(enc_T_api_Base a0)]⟩), (4, ⟨false, 8, [(enc_T_api_Type o22)]⟩)], 232⟩ rfl rfl rfl ?_
  refine Eq.trans (reg_pure (x := (ref11_IsName k o22.fName)) (w := fun v23 => (V.bool v23)) rfl rfl rfl rfl (p_call rfl rfl rfl rfl rfl (ref11_IsName_ok k o22.fName) (.inl rfl))) ?_
  refine bindE (fun v23 => ?_)
  refine ba 2 5 ⟨[(1, (V.ptr 1 0 0)), (3, (I x20)), (4, (V.ptr 4 0 0)), (53, (V.ptr 4 0 0)), (54, (V.str o22.fName)), (55, (V.bool v23)), (56, (V.bool (!v23))), (57, (V.bool (!v23)))], [(1, ⟨false, 4, [(enc_T_api_Base a0)]⟩), (4, ⟨false, 8, [(enc_T_api_Type o22)]⟩)], 232⟩ rfl rfl rfl ?_
  refine bifE (c := (!v23)) (fun hc => ?_) fun hc => ?_
  · rw [hc]
    exact reg_end rfl
  · rw [hc]
    refine ra 5 10 ⟨[(1, (V.ptr 1 0 0)), (3, (I x20)), (4, (V.ptr 4 0 0)), (53, (V.ptr 4 0 0)), (54, (V.str o22.fName)), (55, (V.bool v23)), (56, (V.bool false)), (57, (V.bool false)), (58, (V.ptr 4 0 2)), (59, (I o22.fMin)), (60, (V.bool (decide (o22.fMin < 1)))), (61, (V.bool (decide (o22.fMin < 1)))), (62, (V.bool (decide (o22.fMin < 1))))], [(1, ⟨false, 4, [(enc_T_api_Base a0)]⟩), (4, ⟨false, 8, [(enc_T_api_Type o22)]⟩)], 232⟩ rfl rfl rfl ?_
    refine bifE (c := (decide (o22.fMin < 1))) (fun hc => ?_) fun hc => ?_
    · rw [hc]
      exact reg_end rfl
    · rw [hc]
      refine ra 7 17 ⟨[(1, (V.ptr 1 0 0)), (3, (I x20)), (4, (V.ptr 4 0 0)), (53, (V.ptr 4 0 0)), (54, (V.str o22.fName)), (55, (V.bool v23)), (56, (V.bool false)), (57, (V.bool false)), (58, (V.ptr 4 0 2)), (59, (I o22.fMin)), (60, (V.bool false)), (61, (V.bool false)), (62, (V.bool false)), (63, (V.ptr 4 0 2)), (64, (I o22.fMin)), (65, (V.ptr 4 0 3)), (66, (I o22.fSize)), (67, (V.bool (decide (o22.fMin > o22.fSize)))), (68, (V.bool (decide (o22.fMin > o22.fSize)))), (69, (V.bool (decide (o22.fMin > o22.fSize))))], [(1, ⟨false, 4, [(enc_T_api_Base a0)]⟩), (4, ⟨false, 8, [(enc_T_api_Type o22)]⟩)], 232⟩ rfl rfl rfl ?_
      refine bifE (c := (decide (o22.fMin > o22.fSize))) (fun hc => ?_) fun hc => ?_
      · rw [hc]
        exact reg_end rfl
      · rw [hc]
        refine ra 5 22 ⟨[(1, (V.ptr 1 0 0)), (3, (I x20)), (4, (V.ptr 4 0 0)), (53, (V.ptr 4 0 0)), (54, (V.str o22.fName)), (55, (V.bool v23)), (56, (V.bool false)), (57, (V.bool false)), (58, (V.ptr 4 0 2)), (59, (I o22.fMin)), (60, (V.bool false)), (61, (V.bool false)), (62, (V.bool false)), (63, (V.ptr 4 0 2)), (64, (I o22.fMin)), (65, (V.ptr 4 0 3)), (66, (I o22.fSize)), (67, (V.bool false)), (68, (V.bool false)), (69, (V.bool false)), (70, (V.ptr 4 0 3)), (71, (I o22.fSize)), (72, (V.bool (decide (o22.fSize > 40)))), (73, (V.bool (decide (o22.fSize > 40)))), (74, (V.bool (decide (o22.fSize > 40))))], [(1, ⟨false, 4, [(enc_T_api_Base a0)]⟩), (4, ⟨false, 8, [(enc_T_api_Type o22)]⟩)], 232⟩ rfl rfl rfl ?_
        refine bifE (c := (decide (o22.fSize > 40))) (fun hc => ?_) fun hc => ?_
        · rw [hc]
          exact reg_end rfl
        · rw [hc]
          refine ra 1 23 ⟨[(1, (V.ptr 1 0 0)), (3, (I x20)), (4, (V.ptr 4 0 0)), (53, (V.ptr 4 0 0)), (54, (V.str o22.fName)), (55, (V.bool v23)), (56, (V.bool false)), (57, (V.bool false)), (58, (V.ptr 4 0 2)), (59, (I o22.fMin)), (60, (V.bool false)), (61, (V.bool false)), (62, (V.bool false)), (63, (V.ptr 4 0 2)), (64, (I o22.fMin)), (65, (V.ptr 4 0 3)), (66, (I o22.fSize)), (67, (V.bool false)), (68, (V.bool false)), (69, (V.bool false)), (70, (V.ptr 4 0 3)), (71, (I o22.fSize)), (72, (V.bool false)), (73, (V.bool false)), (74, (V.bool false)), (75, (enc_T_api_Type o22))], [(1, ⟨false, 4, [(enc_T_api_Base a0)]⟩), (4, ⟨false, 8, [(enc_T_api_Type o22)]⟩)], 232⟩ rfl rfl rfl ?_
          refine Eq.trans (reg_pure (x := (ref11_fields k o22)) (w := fun v24 => (V.bool v24)) rfl rfl rfl rfl (p_call rfl rfl rfl rfl rfl (ref11_fields_ok k o22) (.inl rfl))) ?_
          refine bindE (fun v24 => ?_)
          exact bind_end rfl
theorem f29r8 (k : Nat) (a0 : T_api_Base) (x20 : Int) (o22 : T_api_Type) : RE k f29a8 f29o8 false ⟨[(1, (V.ptr 1 0 0)), (3, (I x20)), (4, (V.ptr 4 0 0)), (78, (V.bool true))], [(1, ⟨false, 4, [(enc_T_api_Base a0)]⟩), (4, ⟨false, 8, [(enc_T_api_Type o22)]⟩)], 232⟩ = some ⟨[(2, (V.bool false))], [], 232⟩ :=
  rE rfl
theorem f29r9 (k : Nat) (a0 : T_api_Base) (x20 : Int) (o22 : T_api_Type) : RE k f29a9 f29o9 false ⟨[(1, (V.ptr 1 0 0)), (3, (I x20)), (4, (V.ptr 4 0 0)), (78, (V.bool false))], [(1, ⟨false, 4, [(enc_T_api_Base a0)]⟩), (4, ⟨false, 8, [(enc_T_api_Type o22)]⟩)], 232⟩ = some ⟨[(1, (V.ptr 1 0 0)), (3, (I x20)), (4, (V.ptr 4 0 0)), (5, (I 0))], [(1, ⟨false, 4, [(enc_T_api_Base a0)]⟩), (4, ⟨false, 8, [(enc_T_api_Type o22)]⟩)], 232⟩ :=
  rE rfl
theorem f29r10 (k : Nat) (a0 : T_api_Base) (x20 : Int) (o22 : T_api_Type) (x28 : Int) : RE k f29a10 f29o10 false ⟨[(1, (V.ptr 1 0 0)), (3, (I x20)), (4, (V.ptr 4 0 0)), (5, (I x28))], [(1, ⟨false, 4, [(enc_T_api_Base a0)]⟩), (4, ⟨false, 8, [(enc_T_api_Type o22)]⟩)], 232⟩ = some ⟨[(1, (V.ptr 1 0 0)), (3, (I x20)), (4, (V.ptr 4 0 0)), (5, (I x28)), (81, (V.bool (decide (x28 < x20))))], [(1, ⟨false, 4, [(enc_T_api_Base a0)]⟩), (4, ⟨false, 8, [(enc_T_api_Type o22)]⟩)], 232⟩ :=
  rE rfl
theorem f29r12 (k : Nat) (a0 : T_api_Base) (x20 : Int) (o22 : T_api_Type) (x28 : Int) : RE k f29a12 f29o12 true ⟨[(1, (V.ptr 1 0 0)), (3, (I x20)), (4, (V.ptr 4 0 0)), (5, (I x28)), (81, (V.bool true))], [(1, ⟨false, 4, [(enc_T_api_Base a0)]⟩), (4, ⟨false, 8, [(enc_T_api_Type o22)]⟩)], 232⟩ = (((idx a0.fTypes x28).bind fun v29 => (some ((v29.fName == o22.fName))))).map (fun (o : Bool) => (⟨[(1, (V.ptr 1 0 0)), (3, (I x20)), (4, (V.ptr 4 0 0)), (5, (I x28)), (92, (V.bool o))], [(1, ⟨false, 4, [(enc_T_api_Base a0)]⟩), (4, ⟨false, 8, [(enc_T_api_Type o22)]⟩)], 232⟩ : St)) := by
  refine Eq.trans (regionE_regp (p := 9) (dk := true) (t := [(1, (V.ptr 1 0 0)), (3, (I x20)), (4, (V.ptr 4 0 0)), (5, (I x28)), (81, (V.bool true))]) (σ := [(1, ⟨false, 4, [(enc_T_api_Base a0)]⟩), (4, ⟨false, 8, [(enc_T_api_Type o22)]⟩)]) (n := 232) (by decide) (by decide) rfl) ?_
  refine Eq.trans (regp_adv (m := 3) (j := 3) (t' := [(1, (V.ptr 1 0 0)), (3, (I x20)), (4, (V.ptr 4 0 0)), (5, (I x28)), (81, (V.bool true)), (84, (V.ptr 1 0 2)), (85, (sType (a0.fTypes))), (86, (I x28))]) rfl rfl rfl) ?_
  refine Eq.trans (regp_pure (x := (idx a0.fTypes x28)) (w := fun v29 => (V.pro (enc_T_api_Type v29))) rfl rfl rfl rfl rfl (p_index (e := enc_T_api_Type) rfl rfl rfl Go.Proofs.Try.underlying22 rfl (by decide))) ?_
  refine bindE (fun v29 => ?_)
  exact regp_end rfl
theorem f29r13 (k : Nat) (a0 : T_api_Base) (x20 : Int) (o22 : T_api_Type) (x28 : Int) : RE k f29a13 f29o13 false ⟨[(1, (V.ptr 1 0 0)), (3, (I x20)), (4, (V.ptr 4 0 0)), (5, (I x28)), (92, (V.bool true))], [(1, ⟨false, 4, [(enc_T_api_Base a0)]⟩), (4, ⟨false, 8, [(enc_T_api_Type o22)]⟩)], 232⟩ = some ⟨[(2, (V.bool false))], [], 232⟩ :=
  rE rfl
theorem f29r11 (k : Nat) (a0 : T_api_Base) (x20 : Int) (o22 : T_api_Type) (x28 : Int) : RE k f29a11 f29o11 false ⟨[(1, (V.ptr 1 0 0)), (3, (I x20)), (4, (V.ptr 4 0 0)), (5, (I x28)), (92, (V.bool false))], [(1, ⟨false, 4, [(enc_T_api_Base a0)]⟩), (4, ⟨false, 8, [(enc_T_api_Type o22)]⟩)], 232⟩ = some ⟨[(1, (V.ptr 1 0 0)), (3, (I x20)), (4, (V.ptr 4 0 0)), (5, (I (Go.IntKind.wrap .i64 (x28 + 1))))], [(1, ⟨false, 4, [(enc_T_api_Base a0)]⟩), (4, ⟨false, 8, [(enc_T_api_Type o22)]⟩)], 232⟩ :=
  rE rfl
theorem ref11_Valid_L2_ok (k : Nat) (a0 : T_api_Base) (x20 : Int) (o22 : T_api_Type)  (K0 : Int → Option Bool) (Kst : X × St → Option (V × List V)) (hK0 : ∀ (y0 : Int), Kst (X.exit 2, ⟨[(1, (V.ptr 1 0 0)), (3, (I x20)), (4, (V.ptr 4 0 0)), (5, (I y0)), (81, (V.bool false))], [(1, ⟨false, 4, [(enc_T_api_Base a0)]⟩), (4, ⟨false, 8, [(enc_T_api_Type o22)]⟩)], 232⟩) = (K0 y0).map ref11_Valid_fin) (hret : ∀ s, Kst (X.ret, s) = endK prog 232 [(enc_T_api_Base a0)] [] [.tmp 2] (X.ret, s)) :
    ∀ (m : Nat) (x28 : Int), (iter (exec prog (EV k) f29n k f29b0) m ⟨[(1, (V.ptr 1 0 0)), (3, (I x20)), (4, (V.ptr 4 0 0)), (5, (I x28))], [(1, ⟨false, 4, [(enc_T_api_Base a0)]⟩), (4, ⟨false, 8, [(enc_T_api_Type o22)]⟩)], 232⟩).bind Kst = (ref11_Valid_L2 a0 x20 o22 K0 m x28).map ref11_Valid_fin := by
  intro m
  induction m with
  | zero => intros; rfl
  | succ m ih =>
    intro x28
    unfold ref11_Valid_L2
    refine Eq.trans k_round ?_
    refine Eq.trans k_assoc ?_
    refine Eq.trans (k_region0 rfl (f29r10 k a0 x20 o22 x28)) ?_
    refine Eq.trans (k_cond (t := (decide (x28 < x20))) rfl) ?_
    refine bifE2 (fun hc => ?_) fun hc => ?_
    · rw [hc]
      refine Eq.trans k_skip ?_
      refine Eq.trans k_block ?_
      refine Eq.trans (k_region rfl (f29r12 k a0 x20 o22 x28)) ?_
      refine bindE (fun o30 => ?_)
      refine Eq.trans (k_lcond (t := o30) rfl) ?_
      refine bifE2 (fun hc => ?_) fun hc => ?_
      · rw [hc]
        refine Eq.trans (k_region0 rfl (f29r13 k a0 x20 o22 x28)) ?_
        refine Eq.trans k_lret ?_
        refine Eq.trans blk_ret ?_
        refine Eq.trans loop_ret ?_
        refine Eq.trans (hret _) ?_
        rfl
      · rw [hc]
        refine Eq.trans k_lskip ?_
        refine Eq.trans blk_normal ?_
        refine Eq.trans (k_lregion0 rfl (f29r11 k a0 x20 o22 x28)) ?_
        refine Eq.trans loop_normal ?_
        exact ih (Go.IntKind.wrap .i64 (x28 + 1))
    · rw [hc]
      refine Eq.trans k_exit ?_
      refine Eq.trans loop_exit ?_
      exact hK0 x28
theorem f29r14 (k : Nat) (a0 : T_api_Base) (x20 : Int) (o22 : T_api_Type) (y31 : Int) : RE k f29a14 f29o14 false ⟨[(1, (V.ptr 1 0 0)), (3, (I x20)), (4, (V.ptr 4 0 0)), (5, (I y31)), (81, (V.bool false))], [(1, ⟨false, 4, [(enc_T_api_Base a0)]⟩), (4, ⟨false, 8, [(enc_T_api_Type o22)]⟩)], 232⟩ = some ⟨[(1, (V.ptr 1 0 0)), (3, (I x20)), (4, (V.ptr 4 0 0)), (94, (V.bool (x20 == 0)))], [(1, ⟨false, 4, [(enc_T_api_Base a0)]⟩), (4, ⟨false, 8, [(enc_T_api_Type o22)]⟩)], 232⟩ :=
  rE rfl
theorem f29r15 (k : Nat) (a0 : T_api_Base) (x20 : Int) (o22 : T_api_Type) : RE k f29a15 f29o15 false ⟨[(1, (V.ptr 1 0 0)), (3, (I x20)), (4, (V.ptr 4 0 0)), (94, (V.bool true))], [(1, ⟨false, 4, [(enc_T_api_Base a0)]⟩), (4, ⟨false, 8, [(enc_T_api_Type o22)]⟩)], 232⟩ = ((bif (o22.fParent != (-1)) then (some (true)) else (bif (decide (o22.fKey < 0)) then (some (true)) else (bif (!o22.fUnique) then (some (true)) else ((idx o22.fFields o22.fKey).bind fun v32 => (some ((decide (v32.fBytes > 24))))))))).map (fun (o : Bool) => (⟨[(1, (V.ptr 1 0 0)), (3, (I x20)), (117, (V.bool o))], [(1, ⟨false, 4, [(enc_T_api_Base a0)]⟩)], 232⟩ : St)) := by
  refine rg ?_
  refine ra 4 4 ⟨[(1, (V.ptr 1 0 0)), (3, (I x20)), (4, (V.ptr 4 0 0)), (94, (V.bool true)), (95, (V.ptr 4 0 1)), (96, (I o22.fParent)), (97, (V.bool (o22.fParent != (-1)))), (98, (V.bool (o22.fParent != (-1))))], [(1, ⟨false, 4, [(enc_T_api_Base a0)]⟩), (4, ⟨false, 8, [(enc_T_api_Type o22)]⟩)], 232⟩ rfl rfl rfl ?_
  refine bifE (c := (o22.fParent != (-1))) (fun hc => ?_) fun hc => ?_
  · rw [hc]
    exact reg_end rfl
  · rw [hc]
    refine ra 5 9 ⟨[(1, (V.ptr 1 0 0)), (3, (I x20)), (4, (V.ptr 4 0 0)), (94, (V.bool true)), (95, (V.ptr 4 0 1)), (96, (I o22.fParent)), (97, (V.bool false)), (98, (V.bool false)), (99, (V.ptr 4 0 5)), (100, (I o22.fKey)), (101, (V.bool (decide (o22.fKey < 0)))), (102, (V.bool (decide (o22.fKey < 0)))), (103, (V.bool (decide (o22.fKey < 0))))], [(1, ⟨false, 4, [(enc_T_api_Base a0)]⟩), (4, ⟨false, 8, [(enc_T_api_Type o22)]⟩)], 232⟩ rfl rfl rfl ?_
    refine bifE (c := (decide (o22.fKey < 0))) (fun hc => ?_) fun hc => ?_
    · rw [hc]
      exact reg_end rfl
    · rw [hc]
      refine ra 5 14 ⟨[(1, (V.ptr 1 0 0)), (3, (I x20)), (4, (V.ptr 4 0 0)), (94, (V.bool true)), (95, (V.ptr 4 0 1)), (96, (I o22.fParent)), (97, (V.bool false)), (98, (V.bool false)), (99, (V.ptr 4 0 5)), (100, (I o22.fKey)), (101, (V.bool false)), (102, (V.bool false)), (103, (V.bool false)), (104, (V.ptr 4 0 6)), (105, (V.bool o22.fUnique)), (106, (V.bool (!o22.fUnique))), (107, (V.bool (!o22.fUnique))), (108, (V.bool (!o22.fUnique)))], [(1, ⟨false, 4, [(enc_T_api_Base a0)]⟩), (4, ⟨false, 8, [(enc_T_api_Type o22)]⟩)], 232⟩ rfl rfl rfl ?_
      refine bifE (c := (!o22.fUnique)) (fun hc => ?_) fun hc => ?_
      · rw [hc]
        exact reg_end rfl
      · rw [hc]
        refine ra 4 18 ⟨[(1, (V.ptr 1 0 0)), (3, (I x20)), (4, (V.ptr 4 0 0)), (94, (V.bool true)), (95, (V.ptr 4 0 1)), (96, (I o22.fParent)), (97, (V.bool false)), (98, (V.bool false)), (99, (V.ptr 4 0 5)), (100, (I o22.fKey)), (101, (V.bool false)), (102, (V.bool false)), (103, (V.bool false)), (104, (V.ptr 4 0 6)), (105, (V.bool o22.fUnique)), (106, (V.bool false)), (107, (V.bool false)), (108, (V.bool false)), (109, (V.ptr 4 0 4)), (110, (sField (o22.fFields))), (111, (V.ptr 4 0 5)), (112, (I o22.fKey))], [(1, ⟨false, 4, [(enc_T_api_Base a0)]⟩), (4, ⟨false, 8, [(enc_T_api_Type o22)]⟩)], 232⟩ rfl rfl rfl ?_
        refine Eq.trans (reg_pure (x := (idx o22.fFields o22.fKey)) (w := fun v32 => (V.pro (enc_T_api_Field v32))) rfl rfl rfl rfl (p_index (e := enc_T_api_Field) rfl rfl rfl Go.Proofs.Try.underlying53 rfl (by decide))) ?_
        refine bindE (fun v32 => ?_)
        exact bind_end rfl
theorem f29r16 (k : Nat) (a0 : T_api_Base) (x20 : Int) : RE k f29a16 f29o16 false ⟨[(1, (V.ptr 1 0 0)), (3, (I x20)), (117, (V.bool true))], [(1, ⟨false, 4, [(enc_T_api_Base a0)]⟩)], 232⟩ = some ⟨[(2, (V.bool false))], [], 232⟩ :=
  rE rfl
theorem f29r5 (k : Nat) (a0 : T_api_Base) (x20 : Int) : RE k f29a5 f29o5 false ⟨[(1, (V.ptr 1 0 0)), (3, (I x20)), (117, (V.bool false))], [(1, ⟨false, 4, [(enc_T_api_Base a0)]⟩)], 232⟩ = some ⟨[(1, (V.ptr 1 0 0)), (3, (I (Go.IntKind.wrap .i64 (x20 + 1))))], [(1, ⟨false, 4, [(enc_T_api_Base a0)]⟩)], 232⟩ :=
  rE rfl
theorem f29r17 (k : Nat) (a0 : T_api_Base) (x20 : Int) (o22 : T_api_Type) : RE k f29a17 f29o17 false ⟨[(1, (V.ptr 1 0 0)), (3, (I x20)), (4, (V.ptr 4 0 0)), (94, (V.bool false))], [(1, ⟨false, 4, [(enc_T_api_Base a0)]⟩), (4, ⟨false, 8, [(enc_T_api_Type o22)]⟩)], 232⟩ = ((bif (decide (o22.fParent < 0)) then (some (true)) else (bif (decide (o22.fParent ≥ x20)) then (some (true)) else (bif (o22.fParent != (Go.IntKind.wrap .i64 (x20 - 1))) then ((ref11_above k a0 o22.fParent (Go.IntKind.wrap .i64 (x20 - 1))).bind fun v34 => (bif (!v34) then (some (true)) else ((ref11_way k a0 x20).bind fun v35 => (some ((decide ((v35.length : Int) > 5))))))) else ((ref11_way k a0 x20).bind fun v36 => (some ((decide ((v36.length : Int) > 5))))))))).map (fun (o : Bool) => (⟨[(1, (V.ptr 1 0 0)), (3, (I x20)), (149, (V.bool o))], [(1, ⟨false, 4, [(enc_T_api_Base a0)]⟩)], 232⟩ : St)) := by
  refine rg ?_
  refine ra 4 4 ⟨[(1, (V.ptr 1 0 0)), (3, (I x20)), (4, (V.ptr 4 0 0)), (94, (V.bool false)), (118, (V.ptr 4 0 1)), (119, (I o22.fParent)), (120, (V.bool (decide (o22.fParent < 0)))), (121, (V.bool (decide (o22.fParent < 0))))], [(1, ⟨false, 4, [(enc_T_api_Base a0)]⟩), (4, ⟨false, 8, [(enc_T_api_Type o22)]⟩)], 232⟩ rfl rfl rfl ?_
  refine bifE (c := (decide (o22.fParent < 0))) (fun hc => ?_) fun hc => ?_
  · rw [hc]
    exact reg_end rfl
  · rw [hc]
    refine ra 6 10 ⟨[(1, (V.ptr 1 0 0)), (3, (I x20)), (4, (V.ptr 4 0 0)), (94, (V.bool false)), (118, (V.ptr 4 0 1)), (119, (I o22.fParent)), (120, (V.bool false)), (121, (V.bool false)), (122, (V.ptr 4 0 1)), (123, (I o22.fParent)), (124, (I x20)), (125, (V.bool (decide (o22.fParent ≥ x20)))), (126, (V.bool (decide (o22.fParent ≥ x20)))), (127, (V.bool (decide (o22.fParent ≥ x20))))], [(1, ⟨false, 4, [(enc_T_api_Base a0)]⟩), (4, ⟨false, 8, [(enc_T_api_Type o22)]⟩)], 232⟩ rfl rfl rfl ?_
    refine bifE (c := (decide (o22.fParent ≥ x20))) (fun hc => ?_) fun hc => ?_
    · rw [hc]
      exact reg_end rfl
    · rw [hc]
      refine ra 6 16 ⟨[(1, (V.ptr 1 0 0)), (3, (I x20)), (4, (V.ptr 4 0 0)), (94, (V.bool false)), (118, (V.ptr 4 0 1)), (119, (I o22.fParent)), (120, (V.bool false)), (121, (V.bool false)), (122, (V.ptr 4 0 1)), (123, (I o22.fParent)), (124, (I x20)), (125, (V.bool false)), (126, (V.bool false)), (127, (V.bool false)), (128, (V.ptr 4 0 1)), (129, (I o22.fParent)), (130, (I x20)), (131, (I (Go.IntKind.wrap .i64 (x20 - 1)))), (132, (V.bool (o22.fParent != (Go.IntKind.wrap .i64 (x20 - 1))))), (133, (V.bool (o22.fParent != (Go.IntKind.wrap .i64 (x20 - 1)))))], [(1, ⟨false, 4, [(enc_T_api_Base a0)]⟩), (4, ⟨false, 8, [(enc_T_api_Type o22)]⟩)], 232⟩ rfl rfl rfl ?_
      refine bifE (c := (o22.fParent != (Go.IntKind.wrap .i64 (x20 - 1)))) (fun hc => ?_) fun hc => ?_
      · rw [hc]
        refine ra 5 21 ⟨[(1, (V.ptr 1 0 0)), (3, (I x20)), (4, (V.ptr 4 0 0)), (94, (V.bool false)), (118, (V.ptr 4 0 1)), (119, (I o22.fParent)), (120, (V.bool false)), (121, (V.bool false)), (122, (V.ptr 4 0 1)), (123, (I o22.fParent)), (124, (I x20)), (125, (V.bool false)), (126, (V.bool false)), (127, (V.bool false)), (128, (V.ptr 4 0 1)), (129, (I o22.fParent)), (130, (I x20)), (131, (I (Go.IntKind.wrap .i64 (x20 - 1)))), (132, (V.bool true)), (133, (V.bool true)), (134, (enc_T_api_Base a0)), (135, (V.ptr 4 0 1)), (136, (I o22.fParent)), (137, (I x20)), (138, (I (Go.IntKind.wrap .i64 (x20 - 1))))], [(1, ⟨false, 4, [(enc_T_api_Base a0)]⟩), (4, ⟨false, 8, [(enc_T_api_Type o22)]⟩)], 232⟩ rfl rfl rfl ?_
        refine Eq.trans (reg_pure (x := (ref11_above k a0 o22.fParent (Go.IntKind.wrap .i64 (x20 - 1)))) (w := fun v34 => (V.bool v34)) rfl rfl rfl rfl (p_call rfl rfl rfl rfl rfl (ref11_above_ok k a0 o22.fParent (Go.IntKind.wrap .i64 (x20 - 1))) (.inl rfl))) ?_
        refine bindE (fun v34 => ?_)
        refine ba 4 26 ⟨[(1, (V.ptr 1 0 0)), (3, (I x20)), (4, (V.ptr 4 0 0)), (94, (V.bool false)), (118, (V.ptr 4 0 1)), (119, (I o22.fParent)), (120, (V.bool false)), (121, (V.bool false)), (122, (V.ptr 4 0 1)), (123, (I o22.fParent)), (124, (I x20)), (125, (V.bool false)), (126, (V.bool false)), (127, (V.bool false)), (128, (V.ptr 4 0 1)), (129, (I o22.fParent)), (130, (I x20)), (131, (I (Go.IntKind.wrap .i64 (x20 - 1)))), (132, (V.bool true)), (133, (V.bool true)), (134, (enc_T_api_Base a0)), (135, (V.ptr 4 0 1)), (136, (I o22.fParent)), (137, (I x20)), (138, (I (Go.IntKind.wrap .i64 (x20 - 1)))), (139, (V.bool v34)), (140, (V.bool (!v34))), (141, (V.bool (!v34))), (142, (V.bool (!v34))), (143, (V.bool (!v34)))], [(1, ⟨false, 4, [(enc_T_api_Base a0)]⟩), (4, ⟨false, 8, [(enc_T_api_Type o22)]⟩)], 232⟩ rfl rfl rfl ?_
        refine bifE (c := (!v34)) (fun hc => ?_) fun hc => ?_
        · rw [hc]
          exact reg_end rfl
        · rw [hc]
          refine ra 2 28 ⟨[(1, (V.ptr 1 0 0)), (3, (I x20)), (4, (V.ptr 4 0 0)), (94, (V.bool false)), (118, (V.ptr 4 0 1)), (119, (I o22.fParent)), (120, (V.bool false)), (121, (V.bool false)), (122, (V.ptr 4 0 1)), (123, (I o22.fParent)), (124, (I x20)), (125, (V.bool false)), (126, (V.bool false)), (127, (V.bool false)), (128, (V.ptr 4 0 1)), (129, (I o22.fParent)), (130, (I x20)), (131, (I (Go.IntKind.wrap .i64 (x20 - 1)))), (132, (V.bool true)), (133, (V.bool true)), (134, (enc_T_api_Base a0)), (135, (V.ptr 4 0 1)), (136, (I o22.fParent)), (137, (I x20)), (138, (I (Go.IntKind.wrap .i64 (x20 - 1)))), (139, (V.bool v34)), (140, (V.bool false)), (141, (V.bool false)), (142, (V.bool false)), (143, (V.bool false)), (144, (enc_T_api_Base a0)), (145, (I x20))], [(1, ⟨false, 4, [(enc_T_api_Base a0)]⟩), (4, ⟨false, 8, [(enc_T_api_Type o22)]⟩)], 232⟩ rfl rfl rfl ?_
          refine Eq.trans (reg_pure (x := (ref11_way k a0 x20)) (w := fun v35 => (sI v35)) rfl rfl rfl rfl (p_call rfl rfl rfl rfl rfl (ref11_way_ok k a0 x20) (.inl rfl))) ?_
          refine bindE (fun v35 => ?_)
          refine ba 0 29 ⟨[(1, (V.ptr 1 0 0)), (3, (I x20)), (4, (V.ptr 4 0 0)), (94, (V.bool false)), (118, (V.ptr 4 0 1)), (119, (I o22.fParent)), (120, (V.bool false)), (121, (V.bool false)), (122, (V.ptr 4 0 1)), (123, (I o22.fParent)), (124, (I x20)), (125, (V.bool false)), (126, (V.bool false)), (127, (V.bool false)), (128, (V.ptr 4 0 1)), (129, (I o22.fParent)), (130, (I x20)), (131, (I (Go.IntKind.wrap .i64 (x20 - 1)))), (132, (V.bool true)), (133, (V.bool true)), (134, (enc_T_api_Base a0)), (135, (V.ptr 4 0 1)), (136, (I o22.fParent)), (137, (I x20)), (138, (I (Go.IntKind.wrap .i64 (x20 - 1)))), (139, (V.bool v34)), (140, (V.bool false)), (141, (V.bool false)), (142, (V.bool false)), (143, (V.bool false)), (144, (enc_T_api_Base a0)), (145, (I x20)), (146, (sI v35))], [(1, ⟨false, 4, [(enc_T_api_Base a0)]⟩), (4, ⟨false, 8, [(enc_T_api_Type o22)]⟩)], 232⟩ rfl rfl rfl ?_
          refine Eq.trans (reg_pure (x := some ()) (w := fun _ => (I (v35.length : Int))) rfl rfl rfl rfl (p_len (e := I) rfl rfl rfl rfl rfl rfl Go.Proofs.Try.underlying28)) ?_
          refine Eq.trans some_bind ?_
          exact bind_end rfl
      · rw [hc]
        refine ra 12 28 ⟨[(1, (V.ptr 1 0 0)), (3, (I x20)), (4, (V.ptr 4 0 0)), (94, (V.bool false)), (118, (V.ptr 4 0 1)), (119, (I o22.fParent)), (120, (V.bool false)), (121, (V.bool false)), (122, (V.ptr 4 0 1)), (123, (I o22.fParent)), (124, (I x20)), (125, (V.bool false)), (126, (V.bool false)), (127, (V.bool false)), (128, (V.ptr 4 0 1)), (129, (I o22.fParent)), (130, (I x20)), (131, (I (Go.IntKind.wrap .i64 (x20 - 1)))), (132, (V.bool false)), (133, (V.bool false)), (134, (V.tup [])), (135, (V.tup [])), (136, (V.tup [])), (137, (V.tup [])), (138, (V.tup [])), (139, (V.tup [])), (140, (V.tup [])), (141, (V.bool false)), (142, (V.bool false)), (143, (V.bool false)), (144, (enc_T_api_Base a0)), (145, (I x20))], [(1, ⟨false, 4, [(enc_T_api_Base a0)]⟩), (4, ⟨false, 8, [(enc_T_api_Type o22)]⟩)], 232⟩ rfl rfl rfl ?_
        refine Eq.trans (reg_pure (x := (ref11_way k a0 x20)) (w := fun v36 => (sI v36)) rfl rfl rfl rfl (p_call rfl rfl rfl rfl rfl (ref11_way_ok k a0 x20) (.inl rfl))) ?_
        refine bindE (fun v36 => ?_)
        refine ba 0 29 ⟨[(1, (V.ptr 1 0 0)), (3, (I x20)), (4, (V.ptr 4 0 0)), (94, (V.bool false)), (118, (V.ptr 4 0 1)), (119, (I o22.fParent)), (120, (V.bool false)), (121, (V.bool false)), (122, (V.ptr 4 0 1)), (123, (I o22.fParent)), (124, (I x20)), (125, (V.bool false)), (126, (V.bool false)), (127, (V.bool false)), (128, (V.ptr 4 0 1)), (129, (I o22.fParent)), (130, (I x20)), (131, (I (Go.IntKind.wrap .i64 (x20 - 1)))), (132, (V.bool false)), (133, (V.bool false)), (134, (V.tup [])), (135, (V.tup [])), (136, (V.tup [])), (137, (V.tup [])), (138, (V.tup [])), (139, (V.tup [])), (140, (V.tup [])), (141, (V.bool false)), (142, (V.bool false)), (143, (V.bool false)), (144, (enc_T_api_Base a0)), (145, (I x20)), (146, (sI v36))], [(1, ⟨false, 4, [(enc_T_api_Base a0)]⟩), (4, ⟨false, 8, [(enc_T_api_Type o22)]⟩)], 232⟩ rfl rfl rfl ?_
        refine Eq.trans (reg_pure (x := some ()) (w := fun _ => (I (v36.length : Int))) rfl rfl rfl rfl (p_len (e := I) rfl rfl rfl rfl rfl rfl Go.Proofs.Try.underlying28)) ?_
        refine Eq.trans some_bind ?_
        exact bind_end rfl
theorem f29r18 (k : Nat) (a0 : T_api_Base) (x20 : Int) : RE k f29a18 f29o18 false ⟨[(1, (V.ptr 1 0 0)), (3, (I x20)), (149, (V.bool true))], [(1, ⟨false, 4, [(enc_T_api_Base a0)]⟩)], 232⟩ = some ⟨[(2, (V.bool false))], [], 232⟩ :=
  rE rfl
theorem ref11_Valid_r5' (k : Nat) (a0 : T_api_Base) (x20 : Int) : RE k f29a5 f29o5 false ⟨[(1, (V.ptr 1 0 0)), (3, (I x20)), (149, (V.bool false))], [(1, ⟨false, 4, [(enc_T_api_Base a0)]⟩)], 232⟩ = some ⟨[(1, (V.ptr 1 0 0)), (3, (I (Go.IntKind.wrap .i64 (x20 + 1))))], [(1, ⟨false, 4, [(enc_T_api_Base a0)]⟩)], 232⟩ :=
  rE rfl
theorem ref11_Valid_L1_ok (k : Nat) (a0 : T_api_Base)  (K0 : Int → Option Bool) (Kst : X × St → Option (V × List V)) (hK0 : ∀ (y0 : Int), Kst (X.exit 0, ⟨[(1, (V.ptr 1 0 0)), (3, (I y0)), (45, (V.bool false))], [(1, ⟨false, 4, [(enc_T_api_Base a0)]⟩)], 232⟩) = (K0 y0).map ref11_Valid_fin) (hret : ∀ s, Kst (X.ret, s) = endK prog 232 [(enc_T_api_Base a0)] [] [.tmp 2] (X.ret, s)) :
    ∀ (m : Nat) (x20 : Int), (iter (exec prog (EV k) f29n k f29b1) m ⟨[(1, (V.ptr 1 0 0)), (3, (I x20))], [(1, ⟨false, 4, [(enc_T_api_Base a0)]⟩)], 232⟩).bind Kst = (ref11_Valid_L1 k a0 K0 m x20).map ref11_Valid_fin := by
  intro m
  induction m with
  | zero => intros; rfl
  | succ m ih =>
    intro x20
    unfold ref11_Valid_L1
    refine Eq.trans k_round ?_
    refine Eq.trans k_assoc ?_
    refine Eq.trans (k_region0 rfl (f29r4 k a0 x20)) ?_
    refine Eq.trans (k_cond (t := (decide (x20 < (a0.fTypes.length : Int)))) rfl) ?_
    refine bifE2 (fun hc => ?_) fun hc => ?_
    · rw [hc]
      refine Eq.trans k_skip ?_
      refine Eq.trans k_block ?_
      refine Eq.trans (k_region rfl (f29r6 k a0 x20)) ?_
      refine bindE (fun o22 => ?_)
      refine Eq.trans k_assoc ?_
      refine Eq.trans (k_region rfl (f29r7 k a0 x20 o22)) ?_
      refine bindE (fun o25 => ?_)
      refine Eq.trans (k_cond (t := o25) rfl) ?_
      refine bifE2 (fun hc => ?_) fun hc => ?_
      · rw [hc]
        refine Eq.trans k_assoc ?_
        refine Eq.trans (k_region0 rfl (f29r8 k a0 x20 o22)) ?_
        refine Eq.trans k_ret ?_
        refine Eq.trans blk_ret ?_
        refine Eq.trans loop_ret ?_
        refine Eq.trans (hret _) ?_
        rfl
      · rw [hc]
        refine Eq.trans k_skip ?_
        refine Eq.trans k_assoc ?_
        refine Eq.trans (k_region0 rfl (f29r9 k a0 x20 o22)) ?_
        refine Eq.trans k_block ?_
        refine Eq.trans k_loop ?_
        refine ref11_Valid_L2_ok k a0 x20 o22 _ _ ?h_ref11_Valid_L2_0 ?hr_ref11_Valid_L2 k 0
        · intro y31
          refine Eq.trans blk_exit ?_
          refine Eq.trans k_assoc ?_
          refine Eq.trans (k_region0 rfl (f29r14 k a0 x20 o22 y31)) ?_
          refine Eq.trans (k_cond (t := (x20 == 0)) rfl) ?_
          refine bifE2 (fun hc => ?_) fun hc => ?_
          · rw [hc]
            refine Eq.trans k_assoc ?_
            refine Eq.trans k_assoc ?_
            refine Eq.trans (k_region rfl (f29r15 k a0 x20 o22)) ?_
            refine bindE (fun o33 => ?_)
            refine Eq.trans (k_cond (t := o33) rfl) ?_
            refine bifE2 (fun hc => ?_) fun hc => ?_
            · rw [hc]
              refine Eq.trans k_assoc ?_
              refine Eq.trans (k_region0 rfl (f29r16 k a0 x20)) ?_
              refine Eq.trans k_ret ?_
              refine Eq.trans blk_ret ?_
              refine Eq.trans loop_ret ?_
              refine Eq.trans (hret _) ?_
              rfl
            · rw [hc]
              refine Eq.trans k_skip ?_
              refine Eq.trans k_exit ?_
              refine Eq.trans blk_exit ?_
              refine Eq.trans (k_lregion0 rfl (f29r5 k a0 x20)) ?_
              refine Eq.trans loop_normal ?_
              exact ih (Go.IntKind.wrap .i64 (x20 + 1))
          · rw [hc]
            refine Eq.trans k_skip ?_
            refine Eq.trans (k_region rfl (f29r17 k a0 x20 o22)) ?_
            refine bindE (fun o37 => ?_)
            refine Eq.trans (k_lcond (t := o37) rfl) ?_
            refine bifE2 (fun hc => ?_) fun hc => ?_
            · rw [hc]
              refine Eq.trans (k_region0 rfl (f29r18 k a0 x20)) ?_
              refine Eq.trans k_lret ?_
              refine Eq.trans blk_ret ?_
              refine Eq.trans loop_ret ?_
              refine Eq.trans (hret _) ?_
              rfl
            · rw [hc]
              refine Eq.trans k_lskip ?_
              refine Eq.trans blk_normal ?_
              refine Eq.trans (k_lregion0 rfl (ref11_Valid_r5' k a0 x20)) ?_
              refine Eq.trans loop_normal ?_
              exact ih (Go.IntKind.wrap .i64 (x20 + 1))
        · intro s; exact hret s
    · rw [hc]
      refine Eq.trans k_exit ?_
      refine Eq.trans loop_exit ?_
      exact hK0 x20
theorem f29r19 (k : Nat) (a0 : T_api_Base) (y38 : Int) : RE k f29a19 f29o19 false ⟨[(1, (V.ptr 1 0 0)), (3, (I y38)), (45, (V.bool false))], [(1, ⟨false, 4, [(enc_T_api_Base a0)]⟩)], 232⟩ = some ⟨[(1, (V.ptr 1 0 0)), (6, (I 0))], [(1, ⟨false, 4, [(enc_T_api_Base a0)]⟩)], 232⟩ :=
  rE rfl
theorem f29r20 (k : Nat) (a0 : T_api_Base) (x52 : Int) : RE k f29a20 f29o20 false ⟨[(1, (V.ptr 1 0 0)), (6, (I x52))], [(1, ⟨false, 4, [(enc_T_api_Base a0)]⟩)], 232⟩ = some ⟨[(1, (V.ptr 1 0 0)), (6, (I x52)), (154, (V.bool (decide (x52 < (a0.fIndexes.length : Int)))))], [(1, ⟨false, 4, [(enc_T_api_Base a0)]⟩)], 232⟩ := by
  refine rg ?_
  refine ra 3 3 ⟨[(1, (V.ptr 1 0 0)), (6, (I x52)), (150, (I x52)), (151, (V.ptr 1 0 3)), (152, (sSearch (a0.fIndexes)))], [(1, ⟨false, 4, [(enc_T_api_Base a0)]⟩)], 232⟩ rfl rfl rfl ?_
  refine Eq.trans (reg_pure (x := some ()) (w := fun _ => (I (a0.fIndexes.length : Int))) rfl rfl rfl rfl (p_len (e := enc_T_api_Search) rfl rfl rfl rfl rfl rfl Go.Proofs.Try.underlying23)) ?_
  refine Eq.trans some_bind ?_
  exact bind_end rfl
theorem f29r22 (k : Nat) (a0 : T_api_Base) (x52 : Int) : RE k f29a22 f29o22 false ⟨[(1, (V.ptr 1 0 0)), (6, (I x52)), (154, (V.bool true))], [(1, ⟨false, 4, [(enc_T_api_Base a0)]⟩)], 232⟩ = ((idx a0.fIndexes x52)).map (fun (o : T_api_Search) => (⟨[(1, (V.ptr 1 0 0)), (6, (I x52)), (7, (V.ptr 7 0 0))], [(1, ⟨false, 4, [(enc_T_api_Base a0)]⟩), (7, ⟨false, 4, [(enc_T_api_Search o)]⟩)], 232⟩ : St)) := by
  refine rg ?_
  refine ra 3 3 ⟨[(1, (V.ptr 1 0 0)), (6, (I x52)), (154, (V.bool true)), (157, (V.ptr 1 0 3)), (158, (sSearch (a0.fIndexes))), (159, (I x52))], [(1, ⟨false, 4, [(enc_T_api_Base a0)]⟩)], 232⟩ rfl rfl rfl ?_
  refine Eq.trans (reg_pure (x := (idx a0.fIndexes x52)) (w := fun v53 => (V.pro (enc_T_api_Search v53))) rfl rfl rfl rfl (p_index (e := enc_T_api_Search) rfl rfl rfl Go.Proofs.Try.underlying23 rfl (by decide))) ?_
  refine bind_self (fun v53 => ?_)
  exact bind_end rfl
theorem f29r23 (k : Nat) (a0 : T_api_Base) (x52 : Int) (o54 : T_api_Search) : RE k f29a23 f29o23 true ⟨[(1, (V.ptr 1 0 0)), (6, (I x52)), (7, (V.ptr 7 0 0))], [(1, ⟨false, 4, [(enc_T_api_Base a0)]⟩), (7, ⟨false, 4, [(enc_T_api_Search o54)]⟩)], 232⟩ = (((ref11_IsName k o54.fName).bind fun v55 => (bif (!v55) then (some (true)) else (bif (decide (o54.fType < 0)) then (some (true)) else (bif (decide (o54.fType ≥ (a0.fTypes.length : Int))) then (some (true)) else (bif (decide (o54.fField < 0)) then (some (true)) else ((idx a0.fTypes o54.fType).bind fun v56 => (bif (decide (o54.fField ≥ (v56.fFields.length : Int))) then (some (true)) else ((idx a0.fTypes o54.fType).bind fun v57 => ((idx v57.fFields o54.fField).bind fun v58 => (bif (decide (v58.fBytes > 20)) then (some (true)) else (some ((decide ((o54.fSparse.length : Int) > 1))))))))))))))).map (fun (o : Bool) => (⟨[(1, (V.ptr 1 0 0)), (6, (I x52)), (7, (V.ptr 7 0 0)), (217, (V.bool o))], [(1, ⟨false, 4, [(enc_T_api_Base a0)]⟩), (7, ⟨false, 4, [(enc_T_api_Search o54)]⟩)], 232⟩ : St)) := by
  refine Eq.trans (regionE_regp (p := 56) (dk := true) (t := [(1, (V.ptr 1 0 0)), (6, (I x52)), (7, (V.ptr 7 0 0))]) (σ := [(1, ⟨false, 4, [(enc_T_api_Base a0)]⟩), (7, ⟨false, 4, [(enc_T_api_Search o54)]⟩)]) (n := 232) (by decide) (by decide) rfl) ?_
  refine Eq.trans (regp_adv (m := 2) (j := 2) (t' := [(1, (V.ptr 1 0 0)), (6, (I x52)), (7, (V.ptr 7 0 0)), (162, (V.ptr 7 0 0)), (163, (V.str o54.fName))]) rfl rfl rfl) ?_
  refine Eq.trans (regp_pure (x := (ref11_IsName k o54.fName)) (w := fun v55 => (V.bool v55)) rfl rfl rfl rfl rfl (p_call rfl rfl rfl rfl rfl (ref11_IsName_ok k o54.fName) (.inl rfl))) ?_
  refine bindE (fun v55 => ?_)
  refine Eq.trans (putp_adv (m := 2) (j := 5) (t' := [(1, (V.ptr 1 0 0)), (6, (I x52)), (7, (V.ptr 7 0 0)), (162, (V.ptr 7 0 0)), (163, (V.str o54.fName)), (164, (V.bool v55)), (165, (V.bool (!v55))), (166, (V.bool (!v55)))]) rfl rfl rfl) ?_
  refine bifE (c := (!v55)) (fun hc => ?_) fun hc => ?_
  · rw [hc]
    exact regp_end rfl
  · rw [hc]
    refine Eq.trans (regp_adv (m := 5) (j := 10) (t' := [(1, (V.ptr 1 0 0)), (6, (I x52)), (7, (V.ptr 7 0 0)), (162, (V.ptr 7 0 0)), (163, (V.str o54.fName)), (164, (V.bool v55)), (165, (V.bool false)), (166, (V.bool false)), (167, (V.ptr 7 0 1)), (168, (I o54.fType)), (169, (V.bool (decide (o54.fType < 0)))), (170, (V.bool (decide (o54.fType < 0)))), (171, (V.bool (decide (o54.fType < 0))))]) rfl rfl rfl) ?_
    refine bifE (c := (decide (o54.fType < 0))) (fun hc => ?_) fun hc => ?_
    · rw [hc]
      exact regp_end rfl
    · rw [hc]
      refine Eq.trans (regp_adv (m := 4) (j := 14) (t' := [(1, (V.ptr 1 0 0)), (6, (I x52)), (7, (V.ptr 7 0 0)), (162, (V.ptr 7 0 0)), (163, (V.str o54.fName)), (164, (V.bool v55)), (165, (V.bool false)), (166, (V.bool false)), (167, (V.ptr 7 0 1)), (168, (I o54.fType)), (169, (V.bool false)), (170, (V.bool false)), (171, (V.bool false)), (172, (V.ptr 7 0 1)), (173, (I o54.fType)), (174, (V.ptr 1 0 2)), (175, (sType (a0.fTypes)))]) rfl rfl rfl) ?_
      refine Eq.trans (regp_pure (x := some ()) (w := fun _ => (I (a0.fTypes.length : Int))) rfl rfl rfl rfl rfl (p_len (e := enc_T_api_Type) rfl rfl rfl rfl rfl rfl Go.Proofs.Try.underlying22)) ?_
      refine Eq.trans some_bind ?_
      refine Eq.trans (putp_adv (m := 3) (j := 18) (t' := [(1, (V.ptr 1 0 0)), (6, (I x52)), (7, (V.ptr 7 0 0)), (162, (V.ptr 7 0 0)), (163, (V.str o54.fName)), (164, (V.bool v55)), (165, (V.bool false)), (166, (V.bool false)), (167, (V.ptr 7 0 1)), (168, (I o54.fType)), (169, (V.bool false)), (170, (V.bool false)), (171, (V.bool false)), (172, (V.ptr 7 0 1)), (173, (I o54.fType)), (174, (V.ptr 1 0 2)), (175, (sType (a0.fTypes))), (176, (I (a0.fTypes.length : Int))), (177, (V.bool (decide (o54.fType ≥ (a0.fTypes.length : Int))))), (178, (V.bool (decide (o54.fType ≥ (a0.fTypes.length : Int))))), (179, (V.bool (decide (o54.fType ≥ (a0.fTypes.length : Int)))))]) rfl rfl rfl) ?_
      refine bifE (c := (decide (o54.fType ≥ (a0.fTypes.length : Int)))) (fun hc => ?_) fun hc => ?_
      · rw [hc]
        exact regp_end rfl
      · rw [hc]
        refine Eq.trans (regp_adv (m := 5) (j := 23) (t' := [(1, (V.ptr 1 0 0)), (6, (I x52)), (7, (V.ptr 7 0 0)), (162, (V.ptr 7 0 0)), (163, (V.str o54.fName)), (164, (V.bool v55)), (165, (V.bool false)), (166, (V.bool false)), (167, (V.ptr 7 0 1)), (168, (I o54.fType)), (169, (V.bool false)), (170, (V.bool false)), (171, (V.bool false)), (172, (V.ptr 7 0 1)), (173, (I o54.fType)), (174, (V.ptr 1 0 2)), (175, (sType (a0.fTypes))), (176, (I (a0.fTypes.length : Int))), (177, (V.bool false)), (178, (V.bool false)), (179, (V.bool false)), (180, (V.ptr 7 0 2)), (181, (I o54.fField)), (182, (V.bool (decide (o54.fField < 0)))), (183, (V.bool (decide (o54.fField < 0)))), (184, (V.bool (decide (o54.fField < 0))))]) rfl rfl rfl) ?_
        refine bifE (c := (decide (o54.fField < 0))) (fun hc => ?_) fun hc => ?_
        · rw [hc]
          exact regp_end rfl
        · rw [hc]
          refine Eq.trans (regp_adv (m := 6) (j := 29) (t' := [(1, (V.ptr 1 0 0)), (6, (I x52)), (7, (V.ptr 7 0 0)), (162, (V.ptr 7 0 0)), (163, (V.str o54.fName)), (164, (V.bool v55)), (165, (V.bool false)), (166, (V.bool false)), (167, (V.ptr 7 0 1)), (168, (I o54.fType)), (169, (V.bool false)), (170, (V.bool false)), (171, (V.bool false)), (172, (V.ptr 7 0 1)), (173, (I o54.fType)), (174, (V.ptr 1 0 2)), (175, (sType (a0.fTypes))), (176, (I (a0.fTypes.length : Int))), (177, (V.bool false)), (178, (V.bool false)), (179, (V.bool false)), (180, (V.ptr 7 0 2)), (181, (I o54.fField)), (182, (V.bool false)), (183, (V.bool false)), (184, (V.bool false)), (185, (V.ptr 7 0 2)), (186, (I o54.fField)), (187, (V.ptr 1 0 2)), (188, (sType (a0.fTypes))), (189, (V.ptr 7 0 1)), (190, (I o54.fType))]) rfl rfl rfl) ?_
          refine Eq.trans (regp_pure (x := (idx a0.fTypes o54.fType)) (w := fun v56 => (V.pro (enc_T_api_Type v56))) rfl rfl rfl rfl rfl (p_index (e := enc_T_api_Type) rfl rfl rfl Go.Proofs.Try.underlying22 rfl (by decide))) ?_
          refine bindE (fun v56 => ?_)
          refine Eq.trans (putp_adv (m := 2) (j := 32) (t' := [(1, (V.ptr 1 0 0)), (6, (I x52)), (7, (V.ptr 7 0 0)), (162, (V.ptr 7 0 0)), (163, (V.str o54.fName)), (164, (V.bool v55)), (165, (V.bool false)), (166, (V.bool false)), (167, (V.ptr 7 0 1)), (168, (I o54.fType)), (169, (V.bool false)), (170, (V.bool false)), (171, (V.bool false)), (172, (V.ptr 7 0 1)), (173, (I o54.fType)), (174, (V.ptr 1 0 2)), (175, (sType (a0.fTypes))), (176, (I (a0.fTypes.length : Int))), (177, (V.bool false)), (178, (V.bool false)), (179, (V.bool false)), (180, (V.ptr 7 0 2)), (181, (I o54.fField)), (182, (V.bool false)), (183, (V.bool false)), (184, (V.bool false)), (185, (V.ptr 7 0 2)), (186, (I o54.fField)), (187, (V.ptr 1 0 2)), (188, (sType (a0.fTypes))), (189, (V.ptr 7 0 1)), (190, (I o54.fType)), (191, (V.pro (enc_T_api_Type v56))), (192, (V.pro (sField (v56.fFields)))), (193, (sField (v56.fFields)))]) rfl rfl rfl) ?_
          refine Eq.trans (regp_pure (x := some ()) (w := fun _ => (I (v56.fFields.length : Int))) rfl rfl rfl rfl rfl (p_len (e := enc_T_api_Field) rfl rfl rfl rfl rfl rfl Go.Proofs.Try.underlying53)) ?_
          refine Eq.trans some_bind ?_
          refine Eq.trans (putp_adv (m := 3) (j := 36) (t' := [(1, (V.ptr 1 0 0)), (6, (I x52)), (7, (V.ptr 7 0 0)), (162, (V.ptr 7 0 0)), (163, (V.str o54.fName)), (164, (V.bool v55)), (165, (V.bool false)), (166, (V.bool false)), (167, (V.ptr 7 0 1)), (168, (I o54.fType)), (169, (V.bool false)), (170, (V.bool false)), (171, (V.bool false)), (172, (V.ptr 7 0 1)), (173, (I o54.fType)), (174, (V.ptr 1 0 2)), (175, (sType (a0.fTypes))), (176, (I (a0.fTypes.length : Int))), (177, (V.bool false)), (178, (V.bool false)), (179, (V.bool false)), (180, (V.ptr 7 0 2)), (181, (I o54.fField)), (182, (V.bool false)), (183, (V.bool false)), (184, (V.bool false)), (185, (V.ptr 7 0 2)), (186, (I o54.fField)), (187, (V.ptr 1 0 2)), (188, (sType (a0.fTypes))), (189, (V.ptr 7 0 1)), (190, (I o54.fType)), (191, (V.pro (enc_T_api_Type v56))), (192, (V.pro (sField (v56.fFields)))), (193, (sField (v56.fFields))), (194, (I (v56.fFields.length : Int))), (195, (V.bool (decide (o54.fField ≥ (v56.fFields.length : Int))))), (196, (V.bool (decide (o54.fField ≥ (v56.fFields.length : Int))))), (197, (V.bool (decide (o54.fField ≥ (v56.fFields.length : Int)))))]) rfl rfl rfl) ?_
          refine bifE (c := (decide (o54.fField ≥ (v56.fFields.length : Int)))) (fun hc => ?_) fun hc => ?_
          · rw [hc]
            exact regp_end rfl
          · rw [hc]
            refine Eq.trans (regp_adv (m := 4) (j := 40) (t' := [(1, (V.ptr 1 0 0)), (6, (I x52)), (7, (V.ptr 7 0 0)), (162, (V.ptr 7 0 0)), (163, (V.str o54.fName)), (164, (V.bool v55)), (165, (V.bool false)), (166, (V.bool false)), (167, (V.ptr 7 0 1)), (168, (I o54.fType)), (169, (V.bool false)), (170, (V.bool false)), (171, (V.bool false)), (172, (V.ptr 7 0 1)), (173, (I o54.fType)), (174, (V.ptr 1 0 2)), (175, (sType (a0.fTypes))), (176, (I (a0.fTypes.length : Int))), (177, (V.bool false)), (178, (V.bool false)), (179, (V.bool false)), (180, (V.ptr 7 0 2)), (181, (I o54.fField)), (182, (V.bool false)), (183, (V.bool false)), (184, (V.bool false)), (185, (V.ptr 7 0 2)), (186, (I o54.fField)), (187, (V.ptr 1 0 2)), (188, (sType (a0.fTypes))), (189, (V.ptr 7 0 1)), (190, (I o54.fType)), (191, (V.pro (enc_T_api_Type v56))), (192, (V.pro (sField (v56.fFields)))), (193, (sField (v56.fFields))), (194, (I (v56.fFields.length : Int))), (195, (V.bool false)), (196, (V.bool false)), (197, (V.bool false)), (198, (V.ptr 1 0 2)), (199, (sType (a0.fTypes))), (200, (V.ptr 7 0 1)), (201, (I o54.fType))]) rfl rfl rfl) ?_
            refine Eq.trans (regp_pure (x := (idx a0.fTypes o54.fType)) (w := fun v57 => (V.pro (enc_T_api_Type v57))) rfl rfl rfl rfl rfl (p_index (e := enc_T_api_Type) rfl rfl rfl Go.Proofs.Try.underlying22 rfl (by decide))) ?_
            refine bindE (fun v57 => ?_)
            refine Eq.trans (putp_adv (m := 4) (j := 45) (t' := [(1, (V.ptr 1 0 0)), (6, (I x52)), (7, (V.ptr 7 0 0)), (162, (V.ptr 7 0 0)), (163, (V.str o54.fName)), (164, (V.bool v55)), (165, (V.bool false)), (166, (V.bool false)), (167, (V.ptr 7 0 1)), (168, (I o54.fType)), (169, (V.bool false)), (170, (V.bool false)), (171, (V.bool false)), (172, (V.ptr 7 0 1)), (173, (I o54.fType)), (174, (V.ptr 1 0 2)), (175, (sType (a0.fTypes))), (176, (I (a0.fTypes.length : Int))), (177, (V.bool false)), (178, (V.bool false)), (179, (V.bool false)), (180, (V.ptr 7 0 2)), (181, (I o54.fField)), (182, (V.bool false)), (183, (V.bool false)), (184, (V.bool false)), (185, (V.ptr 7 0 2)), (186, (I o54.fField)), (187, (V.ptr 1 0 2)), (188, (sType (a0.fTypes))), (189, (V.ptr 7 0 1)), (190, (I o54.fType)), (191, (V.pro (enc_T_api_Type v56))), (192, (V.pro (sField (v56.fFields)))), (193, (sField (v56.fFields))), (194, (I (v56.fFields.length : Int))), (195, (V.bool false)), (196, (V.bool false)), (197, (V.bool false)), (198, (V.ptr 1 0 2)), (199, (sType (a0.fTypes))), (200, (V.ptr 7 0 1)), (201, (I o54.fType)), (202, (V.pro (enc_T_api_Type v57))), (203, (V.pro (sField (v57.fFields)))), (204, (sField (v57.fFields))), (205, (V.ptr 7 0 2)), (206, (I o54.fField))]) rfl rfl rfl) ?_
            refine Eq.trans (regp_pure (x := (idx v57.fFields o54.fField)) (w := fun v58 => (V.pro (enc_T_api_Field v58))) rfl rfl rfl rfl rfl (p_index (e := enc_T_api_Field) rfl rfl rfl Go.Proofs.Try.underlying53 rfl (by decide))) ?_
            refine bindE (fun v58 => ?_)
            refine Eq.trans (putp_adv (m := 5) (j := 51) (t' := [(1, (V.ptr 1 0 0)), (6, (I x52)), (7, (V.ptr 7 0 0)), (162, (V.ptr 7 0 0)), (163, (V.str o54.fName)), (164, (V.bool v55)), (165, (V.bool false)), (166, (V.bool false)), (167, (V.ptr 7 0 1)), (168, (I o54.fType)), (169, (V.bool false)), (170, (V.bool false)), (171, (V.bool false)), (172, (V.ptr 7 0 1)), (173, (I o54.fType)), (174, (V.ptr 1 0 2)), (175, (sType (a0.fTypes))), (176, (I (a0.fTypes.length : Int))), (177, (V.bool false)), (178, (V.bool false)), (179, (V.bool false)), (180, (V.ptr 7 0 2)), (181, (I o54.fField)), (182, (V.bool false)), (183, (V.bool false)), (184, (V.bool false)), (185, (V.ptr 7 0 2)), (186, (I o54.fField)), (187, (V.ptr 1 0 2)), (188, (sType (a0.fTypes))), (189, (V.ptr 7 0 1)), (190, (I o54.fType)), (191, (V.pro (enc_T_api_Type v56))), (192, (V.pro (sField (v56.fFields)))), (193, (sField (v56.fFields))), (194, (I (v56.fFields.length : Int))), (195, (V.bool false)), (196, (V.bool false)), (197, (V.bool false)), (198, (V.ptr 1 0 2)), (199, (sType (a0.fTypes))), (200, (V.ptr 7 0 1)), (201, (I o54.fType)), (202, (V.pro (enc_T_api_Type v57))), (203, (V.pro (sField (v57.fFields)))), (204, (sField (v57.fFields))), (205, (V.ptr 7 0 2)), (206, (I o54.fField)), (207, (V.pro (enc_T_api_Field v58))), (208, (V.pro (I v58.fBytes))), (209, (I v58.fBytes)), (210, (V.bool (decide (v58.fBytes > 20)))), (211, (V.bool (decide (v58.fBytes > 20)))), (212, (V.bool (decide (v58.fBytes > 20))))]) rfl rfl rfl) ?_
            refine bifE (c := (decide (v58.fBytes > 20))) (fun hc => ?_) fun hc => ?_
            · rw [hc]
              exact regp_end rfl
            · rw [hc]
              exact regp_end rfl
theorem f29r24 (k : Nat) (a0 : T_api_Base) (x52 : Int) (o54 : T_api_Search) : RE k f29a24 f29o24 false ⟨[(1, (V.ptr 1 0 0)), (6, (I x52)), (7, (V.ptr 7 0 0)), (217, (V.bool true))], [(1, ⟨false, 4, [(enc_T_api_Base a0)]⟩), (7, ⟨false, 4, [(enc_T_api_Search o54)]⟩)], 232⟩ = some ⟨[(2, (V.bool false))], [], 232⟩ :=
  rE rfl
theorem f29r25 (k : Nat) (a0 : T_api_Base) (x52 : Int) (o54 : T_api_Search) : RE k f29a25 f29o25 false ⟨[(1, (V.ptr 1 0 0)), (6, (I x52)), (7, (V.ptr 7 0 0)), (217, (V.bool false))], [(1, ⟨false, 4, [(enc_T_api_Base a0)]⟩), (7, ⟨false, 4, [(enc_T_api_Search o54)]⟩)], 232⟩ = some ⟨[(1, (V.ptr 1 0 0)), (6, (I x52)), (7, (V.ptr 7 0 0)), (8, (I 0))], [(1, ⟨false, 4, [(enc_T_api_Base a0)]⟩), (7, ⟨false, 4, [(enc_T_api_Search o54)]⟩)], 232⟩ :=
  rE rfl
theorem f29r26 (k : Nat) (a0 : T_api_Base) (x52 : Int) (o54 : T_api_Search) (x62 : Int) : RE k f29a26 f29o26 false ⟨[(1, (V.ptr 1 0 0)), (6, (I x52)), (7, (V.ptr 7 0 0)), (8, (I x62))], [(1, ⟨false, 4, [(enc_T_api_Base a0)]⟩), (7, ⟨false, 4, [(enc_T_api_Search o54)]⟩)], 232⟩ = some ⟨[(1, (V.ptr 1 0 0)), (6, (I x52)), (7, (V.ptr 7 0 0)), (8, (I x62)), (220, (V.bool (decide (x62 < x52))))], [(1, ⟨false, 4, [(enc_T_api_Base a0)]⟩), (7, ⟨false, 4, [(enc_T_api_Search o54)]⟩)], 232⟩ :=
  rE rfl
theorem f29r28 (k : Nat) (a0 : T_api_Base) (x52 : Int) (o54 : T_api_Search) (x62 : Int) : RE k f29a28 f29o28 true ⟨[(1, (V.ptr 1 0 0)), (6, (I x52)), (7, (V.ptr 7 0 0)), (8, (I x62)), (220, (V.bool true))], [(1, ⟨false, 4, [(enc_T_api_Base a0)]⟩), (7, ⟨false, 4, [(enc_T_api_Search o54)]⟩)], 232⟩ = (((idx a0.fIndexes x62).bind fun v63 => (some ((v63.fName == o54.fName))))).map (fun (o : Bool) => (⟨[(1, (V.ptr 1 0 0)), (6, (I x52)), (7, (V.ptr 7 0 0)), (8, (I x62)), (231, (V.bool o))], [(1, ⟨false, 4, [(enc_T_api_Base a0)]⟩), (7, ⟨false, 4, [(enc_T_api_Search o54)]⟩)], 232⟩ : St)) := by
  refine Eq.trans (regionE_regp (p := 9) (dk := true) (t := [(1, (V.ptr 1 0 0)), (6, (I x52)), (7, (V.ptr 7 0 0)), (8, (I x62)), (220, (V.bool true))]) (σ := [(1, ⟨false, 4, [(enc_T_api_Base a0)]⟩), (7, ⟨false, 4, [(enc_T_api_Search o54)]⟩)]) (n := 232) (by decide) (by decide) rfl) ?_
  refine Eq.trans (regp_adv (m := 3) (j := 3) (t' := [(1, (V.ptr 1 0 0)), (6, (I x52)), (7, (V.ptr 7 0 0)), (8, (I x62)), (220, (V.bool true)), (223, (V.ptr 1 0 3)), (224, (sSearch (a0.fIndexes))), (225, (I x62))]) rfl rfl rfl) ?_
  refine Eq.trans (regp_pure (x := (idx a0.fIndexes x62)) (w := fun v63 => (V.pro (enc_T_api_Search v63))) rfl rfl rfl rfl rfl (p_index (e := enc_T_api_Search) rfl rfl rfl Go.Proofs.Try.underlying23 rfl (by decide))) ?_
  refine bindE (fun v63 => ?_)
  exact regp_end rfl
theorem f29r29 (k : Nat) (a0 : T_api_Base) (x52 : Int) (o54 : T_api_Search) (x62 : Int) : RE k f29a29 f29o29 false ⟨[(1, (V.ptr 1 0 0)), (6, (I x52)), (7, (V.ptr 7 0 0)), (8, (I x62)), (231, (V.bool true))], [(1, ⟨false, 4, [(enc_T_api_Base a0)]⟩), (7, ⟨false, 4, [(enc_T_api_Search o54)]⟩)], 232⟩ = some ⟨[(2, (V.bool false))], [], 232⟩ :=
  rE rfl
theorem f29r27 (k : Nat) (a0 : T_api_Base) (x52 : Int) (o54 : T_api_Search) (x62 : Int) : RE k f29a27 f29o27 false ⟨[(1, (V.ptr 1 0 0)), (6, (I x52)), (7, (V.ptr 7 0 0)), (8, (I x62)), (231, (V.bool false))], [(1, ⟨false, 4, [(enc_T_api_Base a0)]⟩), (7, ⟨false, 4, [(enc_T_api_Search o54)]⟩)], 232⟩ = some ⟨[(1, (V.ptr 1 0 0)), (6, (I x52)), (7, (V.ptr 7 0 0)), (8, (I (Go.IntKind.wrap .i64 (x62 + 1))))], [(1, ⟨false, 4, [(enc_T_api_Base a0)]⟩), (7, ⟨false, 4, [(enc_T_api_Search o54)]⟩)], 232⟩ :=
  rE rfl
theorem ref11_Valid_L4_ok (k : Nat) (a0 : T_api_Base) (x52 : Int) (o54 : T_api_Search)  (K0 : Int → Option Bool) (Kst : X × St → Option (V × List V)) (hK0 : ∀ (y0 : Int), Kst (X.exit 6, ⟨[(1, (V.ptr 1 0 0)), (6, (I x52)), (7, (V.ptr 7 0 0)), (8, (I y0)), (220, (V.bool false))], [(1, ⟨false, 4, [(enc_T_api_Base a0)]⟩), (7, ⟨false, 4, [(enc_T_api_Search o54)]⟩)], 232⟩) = (K0 y0).map ref11_Valid_fin) (hret : ∀ s, Kst (X.ret, s) = endK prog 232 [(enc_T_api_Base a0)] [] [.tmp 2] (X.ret, s)) :
    ∀ (m : Nat) (x62 : Int), (iter (exec prog (EV k) f29n k f29b2) m ⟨[(1, (V.ptr 1 0 0)), (6, (I x52)), (7, (V.ptr 7 0 0)), (8, (I x62))], [(1, ⟨false, 4, [(enc_T_api_Base a0)]⟩), (7, ⟨false, 4, [(enc_T_api_Search o54)]⟩)], 232⟩).bind Kst = (ref11_Valid_L4 a0 x52 o54 K0 m x62).map ref11_Valid_fin := by
  intro m
  induction m with
  | zero => intros; rfl
  | succ m ih =>
    intro x62
    unfold ref11_Valid_L4
    refine Eq.trans k_round ?_
    refine Eq.trans k_assoc ?_
    refine Eq.trans (k_region0 rfl (f29r26 k a0 x52 o54 x62)) ?_
    refine Eq.trans (k_cond (t := (decide (x62 < x52))) rfl) ?_
    refine bifE2 (fun hc => ?_) fun hc => ?_
    · rw [hc]
      refine Eq.trans k_skip ?_
      refine Eq.trans k_block ?_
      refine Eq.trans (k_region rfl (f29r28 k a0 x52 o54 x62)) ?_
      refine bindE (fun o64 => ?_)
      refine Eq.trans (k_lcond (t := o64) rfl) ?_
      refine bifE2 (fun hc => ?_) fun hc => ?_
      · rw [hc]
        refine Eq.trans (k_region0 rfl (f29r29 k a0 x52 o54 x62)) ?_
        refine Eq.trans k_lret ?_
        refine Eq.trans blk_ret ?_
        refine Eq.trans loop_ret ?_
        refine Eq.trans (hret _) ?_
        rfl
      · rw [hc]
        refine Eq.trans k_lskip ?_
        refine Eq.trans blk_normal ?_
        refine Eq.trans (k_lregion0 rfl (f29r27 k a0 x52 o54 x62)) ?_
        refine Eq.trans loop_normal ?_
        exact ih (Go.IntKind.wrap .i64 (x62 + 1))
    · rw [hc]
      refine Eq.trans k_exit ?_
      refine Eq.trans loop_exit ?_
      exact hK0 x62
theorem f29r21 (k : Nat) (a0 : T_api_Base) (x52 : Int) (o54 : T_api_Search) (y65 : Int) : RE k f29a21 f29o21 false ⟨[(1, (V.ptr 1 0 0)), (6, (I x52)), (7, (V.ptr 7 0 0)), (8, (I y65)), (220, (V.bool false))], [(1, ⟨false, 4, [(enc_T_api_Base a0)]⟩), (7, ⟨false, 4, [(enc_T_api_Search o54)]⟩)], 232⟩ = some ⟨[(1, (V.ptr 1 0 0)), (6, (I (Go.IntKind.wrap .i64 (x52 + 1))))], [(1, ⟨false, 4, [(enc_T_api_Base a0)]⟩)], 232⟩ :=
  rE rfl
theorem ref11_Valid_L3_ok (k : Nat) (a0 : T_api_Base)  (K0 : Int → Option Bool) (Kst : X × St → Option (V × List V)) (hK0 : ∀ (y0 : Int), Kst (X.exit 4, ⟨[(1, (V.ptr 1 0 0)), (6, (I y0)), (154, (V.bool false))], [(1, ⟨false, 4, [(enc_T_api_Base a0)]⟩)], 232⟩) = (K0 y0).map ref11_Valid_fin) (hret : ∀ s, Kst (X.ret, s) = endK prog 232 [(enc_T_api_Base a0)] [] [.tmp 2] (X.ret, s)) :
    ∀ (m : Nat) (x52 : Int), (iter (exec prog (EV k) f29n k f29b3) m ⟨[(1, (V.ptr 1 0 0)), (6, (I x52))], [(1, ⟨false, 4, [(enc_T_api_Base a0)]⟩)], 232⟩).bind Kst = (ref11_Valid_L3 k a0 K0 m x52).map ref11_Valid_fin := by
  intro m
  induction m with
  | zero => intros; rfl
  | succ m ih =>
    intro x52
    unfold ref11_Valid_L3
    refine Eq.trans k_round ?_
    refine Eq.trans k_assoc ?_
    refine Eq.trans (k_region0 rfl (f29r20 k a0 x52)) ?_
    refine Eq.trans (k_cond (t := (decide (x52 < (a0.fIndexes.length : Int)))) rfl) ?_
    refine bifE2 (fun hc => ?_) fun hc => ?_
    · rw [hc]
      refine Eq.trans k_skip ?_
      refine Eq.trans k_block ?_
      refine Eq.trans (k_region rfl (f29r22 k a0 x52)) ?_
      refine bindE (fun o54 => ?_)
      refine Eq.trans k_assoc ?_
      refine Eq.trans (k_region rfl (f29r23 k a0 x52 o54)) ?_
      refine bindE (fun o59 => ?_)
      refine Eq.trans (k_cond (t := o59) rfl) ?_
      refine bifE2 (fun hc => ?_) fun hc => ?_
      · rw [hc]
        refine Eq.trans k_assoc ?_
        refine Eq.trans (k_region0 rfl (f29r24 k a0 x52 o54)) ?_
        refine Eq.trans k_ret ?_
        refine Eq.trans blk_ret ?_
        refine Eq.trans loop_ret ?_
        refine Eq.trans (hret _) ?_
        rfl
      · rw [hc]
        refine Eq.trans k_skip ?_
        refine Eq.trans (k_region0 rfl (f29r25 k a0 x52 o54)) ?_
        refine Eq.trans k_lblock ?_
        refine Eq.trans k_loop ?_
        refine ref11_Valid_L4_ok k a0 x52 o54 _ _ ?h_ref11_Valid_L4_0 ?hr_ref11_Valid_L4 k 0
        · intro y65
          refine Eq.trans blk_exit ?_
          refine Eq.trans k_lskip ?_
          refine Eq.trans blk_normal ?_
          refine Eq.trans (k_lregion0 rfl (f29r21 k a0 x52 o54 y65)) ?_
          refine Eq.trans loop_normal ?_
          exact ih (Go.IntKind.wrap .i64 (x52 + 1))
        · intro s; exact hret s
    · rw [hc]
      refine Eq.trans k_exit ?_
      refine Eq.trans loop_exit ?_
      exact hK0 x52
theorem f29r30 (k : Nat) (a0 : T_api_Base) (y66 : Int) : RE k f29a30 f29o30 false ⟨[(1, (V.ptr 1 0 0)), (6, (I y66)), (154, (V.bool false))], [(1, ⟨false, 4, [(enc_T_api_Base a0)]⟩)], 232⟩ = some ⟨[(2, (V.bool true))], [], 232⟩ :=
  rE rfl
theorem ref11_Valid_ok (k : Nat) (a0 : T_api_Base) : EV k 29 [(enc_T_api_Base a0)] = (ref11_Valid k a0).map ref11_Valid_fin := by
  cases k with
  | zero => rfl
  | succ k =>
    unfold ref11_Valid
    refine Eq.trans (evF_succ (c := f29c) (N := 232) (regs := f29n) rfl Go.Proofs.Try.func29 rfl (by decide) rfl rfl rfl) ?_
    refine Eq.trans (k_region0 rfl (f29r0 k a0)) ?_
    refine Eq.trans k_assoc ?_
    refine Eq.trans (k_region rfl (f29r1 k a0)) ?_
    refine bindE (fun o2 => ?_)
    refine Eq.trans (k_cond (t := o2) rfl) ?_
    refine bifE2 (fun hc => ?_) fun hc => ?_
    · rw [hc]
      refine Eq.trans k_assoc ?_
      refine Eq.trans (k_region0 rfl (f29r2 k a0)) ?_
      refine Eq.trans k_ret ?_
      rfl
    · rw [hc]
      refine Eq.trans k_skip ?_
      refine Eq.trans k_assoc ?_
      refine Eq.trans (k_region0 rfl (f29r3 k a0)) ?_
      refine Eq.trans k_block ?_
      refine Eq.trans k_loop ?_
      refine ref11_Valid_L1_ok k a0 _ _ ?h_ref11_Valid_L1_0 ?hr_ref11_Valid_L1 k 0
      · intro y38
        refine Eq.trans blk_exit ?_
        refine Eq.trans k_assoc ?_
        refine Eq.trans (k_region0 rfl (f29r19 k a0 y38)) ?_
        refine Eq.trans k_block ?_
        refine Eq.trans k_loop ?_
        refine ref11_Valid_L3_ok k a0 _ _ ?h_ref11_Valid_L3_0 ?hr_ref11_Valid_L3 k 0
        · intro y66
          refine Eq.trans blk_exit ?_
          refine Eq.trans (k_region0 rfl (f29r30 k a0 y66)) ?_
          refine Eq.trans k_lret ?_
          rfl
        · intro s; exact rfl
      · intro s; exact rfl
def ref11_isType_fin : Bool → V × List V := fun r => ((V.bool r), [])
theorem f61r0 (k : Nat) (a0 : T_api_Base) (a1 : Int) : RE k f61a0 f61o0 false ⟨[(0, (enc_T_api_Base a0)), (1, (I a1))], [], 14⟩ = some ⟨[(1, (I a1)), (2, (V.ptr 2 0 0))], [(2, ⟨false, 4, [(enc_T_api_Base a0)]⟩)], 14⟩ :=
  rE rfl
theorem f61r1 (k : Nat) (a0 : T_api_Base) (a1 : Int) : RE k f61a1 f61o1 false ⟨[(1, (I a1)), (2, (V.ptr 2 0 0))], [(2, ⟨false, 4, [(enc_T_api_Base a0)]⟩)], 14⟩ = ((bif (decide (a1 ≥ 0)) then (some ((decide (a1 < (a0.fTypes.length : Int))))) else (some (false)))).map (fun (o : Bool) => (⟨[(4, (V.bool o))], [], 14⟩ : St)) := by
  refine rg ?_
  refine ra 3 3 ⟨[(1, (I a1)), (2, (V.ptr 2 0 0)), (5, (I a1)), (6, (V.bool (decide (a1 ≥ 0)))), (7, (V.bool (decide (a1 ≥ 0))))], [(2, ⟨false, 4, [(enc_T_api_Base a0)]⟩)], 14⟩ rfl rfl rfl ?_
  refine bifE (c := (decide (a1 ≥ 0))) (fun hc => ?_) fun hc => ?_
  · rw [hc]
    refine ra 3 6 ⟨[(1, (I a1)), (2, (V.ptr 2 0 0)), (5, (I a1)), (6, (V.bool true)), (7, (V.bool true)), (8, (I a1)), (9, (V.ptr 2 0 2)), (10, (sType (a0.fTypes)))], [(2, ⟨false, 4, [(enc_T_api_Base a0)]⟩)], 14⟩ rfl rfl rfl ?_
    refine Eq.trans (reg_pure (x := some ()) (w := fun _ => (I (a0.fTypes.length : Int))) rfl rfl rfl rfl (p_len (e := enc_T_api_Type) rfl rfl rfl rfl rfl rfl Go.Proofs.Try.underlying22)) ?_
    refine Eq.trans some_bind ?_
    exact bind_end rfl
  · rw [hc]
    exact reg_end rfl
theorem ref11_isType_ok (k : Nat) (a0 : T_api_Base) (a1 : Int) : EV k 61 [(enc_T_api_Base a0), (I a1)] = (ref11_isType k a0 a1).map ref11_isType_fin := by
  cases k with
  | zero => rfl
  | succ k =>
    unfold ref11_isType
    refine Eq.trans (evF_succ (c := f61c) (N := 14) (regs := f61n) rfl Go.Proofs.Try.func61 rfl (by decide) rfl rfl rfl) ?_
    refine Eq.trans (k_region0 rfl (f61r0 k a0 a1)) ?_
    refine Eq.trans (k_region rfl (f61r1 k a0 a1)) ?_
    refine bindE (fun o1 => ?_)
    refine Eq.trans k_lret ?_
    rfl
def ref11_asked_fin : Int → V × List V := fun r => ((I r), [])
theorem f40r0 (k : Nat) (a0 : T_api_Base) (a1 : (List Int)) : RE k f40a0 f40o0 false ⟨[(0, (enc_T_api_Base a0)), (1, (sI a1))], [], 22⟩ = some ⟨[(1, (sI a1)), (2, (V.ptr 2 0 0))], [(2, ⟨false, 4, [(enc_T_api_Base a0)]⟩)], 22⟩ :=
  rE rfl
theorem f40r1 (k : Nat) (a0 : T_api_Base) (a1 : (List Int)) : RE k f40a1 f40o1 false ⟨[(1, (sI a1)), (2, (V.ptr 2 0 0))], [(2, ⟨false, 4, [(enc_T_api_Base a0)]⟩)], 22⟩ = (((ref11_Valid k a0).bind fun v1 => (some ((!v1))))).map (fun (o : Bool) => (⟨[(1, (sI a1)), (2, (V.ptr 2 0 0)), (8, (V.bool o))], [(2, ⟨false, 4, [(enc_T_api_Base a0)]⟩)], 22⟩ : St)) := by
  refine rg ?_
  refine ra 1 1 ⟨[(1, (sI a1)), (2, (V.ptr 2 0 0)), (6, (enc_T_api_Base a0))], [(2, ⟨false, 4, [(enc_T_api_Base a0)]⟩)], 22⟩ rfl rfl rfl ?_
  refine Eq.trans (reg_pure (x := (ref11_Valid k a0)) (w := fun v1 => (V.bool v1)) rfl rfl rfl rfl (p_call rfl rfl rfl rfl rfl (ref11_Valid_ok k a0) (.inl rfl))) ?_
  refine bindE (fun v1 => ?_)
  exact bind_end rfl
theorem f40r2 (k : Nat) (a0 : T_api_Base) (a1 : (List Int)) : RE k f40a2 f40o2 false ⟨[(1, (sI a1)), (2, (V.ptr 2 0 0)), (8, (V.bool true))], [(2, ⟨false, 4, [(enc_T_api_Base a0)]⟩)], 22⟩ = some ⟨[(4, (I 100))], [], 22⟩ :=
  rE rfl
theorem f40r3 (k : Nat) (a0 : T_api_Base) (a1 : (List Int)) : RE k f40a3 f40o3 false ⟨[(1, (sI a1)), (2, (V.ptr 2 0 0)), (8, (V.bool false))], [(2, ⟨false, 4, [(enc_T_api_Base a0)]⟩)], 22⟩ = some ⟨[(1, (sI a1)), (2, (V.ptr 2 0 0)), (5, (I 0))], [(2, ⟨false, 4, [(enc_T_api_Base a0)]⟩)], 22⟩ :=
  rE rfl
theorem f40r4 (k : Nat) (a0 : T_api_Base) (a1 : (List Int)) (x6 : Int) : RE k f40a4 f40o4 false ⟨[(1, (sI a1)), (2, (V.ptr 2 0 0)), (5, (I x6))], [(2, ⟨false, 4, [(enc_T_api_Base a0)]⟩)], 22⟩ = some ⟨[(1, (sI a1)), (2, (V.ptr 2 0 0)), (5, (I x6)), (12, (V.bool (decide (x6 < (a1.length : Int)))))], [(2, ⟨false, 4, [(enc_T_api_Base a0)]⟩)], 22⟩ := by
  refine rg ?_
  refine ra 2 2 ⟨[(1, (sI a1)), (2, (V.ptr 2 0 0)), (5, (I x6)), (9, (I x6)), (10, (sI a1))], [(2, ⟨false, 4, [(enc_T_api_Base a0)]⟩)], 22⟩ rfl rfl rfl ?_
  refine Eq.trans (reg_pure (x := some ()) (w := fun _ => (I (a1.length : Int))) rfl rfl rfl rfl (p_len (e := I) rfl rfl rfl rfl rfl rfl Go.Proofs.Try.underlying28)) ?_
  refine Eq.trans some_bind ?_
  exact bind_end rfl
theorem f40r6 (k : Nat) (a0 : T_api_Base) (a1 : (List Int)) (x6 : Int) : RE k f40a6 f40o6 true ⟨[(1, (sI a1)), (2, (V.ptr 2 0 0)), (5, (I x6)), (12, (V.bool true))], [(2, ⟨false, 4, [(enc_T_api_Base a0)]⟩)], 22⟩ = (((idx a1 x6).bind fun v7 => ((ref11_isType k a0 v7).bind fun v8 => (some ((!v8)))))).map (fun (o : Bool) => (⟨[(1, (sI a1)), (2, (V.ptr 2 0 0)), (5, (I x6)), (21, (V.bool o))], [(2, ⟨false, 4, [(enc_T_api_Base a0)]⟩)], 22⟩ : St)) := by
  refine Eq.trans (regionE_regp (p := 7) (dk := true) (t := [(1, (sI a1)), (2, (V.ptr 2 0 0)), (5, (I x6)), (12, (V.bool true))]) (σ := [(2, ⟨false, 4, [(enc_T_api_Base a0)]⟩)]) (n := 22) (by decide) (by decide) rfl) ?_
  refine Eq.trans (regp_adv (m := 3) (j := 3) (t' := [(1, (sI a1)), (2, (V.ptr 2 0 0)), (5, (I x6)), (12, (V.bool true)), (15, (enc_T_api_Base a0)), (16, (sI a1)), (17, (I x6))]) rfl rfl rfl) ?_
  refine Eq.trans (regp_pure (x := (idx a1 x6)) (w := fun v7 => (V.pro (I v7))) rfl rfl rfl rfl rfl (p_index (e := I) rfl rfl rfl Go.Proofs.Try.underlying28 rfl (by decide))) ?_
  refine bindE (fun v7 => ?_)
  refine Eq.trans (putp_adv (m := 1) (j := 5) (t' := [(1, (sI a1)), (2, (V.ptr 2 0 0)), (5, (I x6)), (12, (V.bool true)), (15, (enc_T_api_Base a0)), (16, (sI a1)), (17, (I x6)), (18, (V.pro (I v7))), (19, (I v7))]) rfl rfl rfl) ?_
  refine Eq.trans (regp_pure (x := (ref11_isType k a0 v7)) (w := fun v8 => (V.bool v8)) rfl rfl rfl rfl rfl (p_call rfl rfl rfl rfl rfl (ref11_isType_ok k a0 v7) (.inl rfl))) ?_
  refine bindE (fun v8 => ?_)
  exact regp_end rfl
theorem f40r7 (k : Nat) (a0 : T_api_Base) (a1 : (List Int)) (x6 : Int) : RE k f40a7 f40o7 false ⟨[(1, (sI a1)), (2, (V.ptr 2 0 0)), (5, (I x6)), (21, (V.bool true))], [(2, ⟨false, 4, [(enc_T_api_Base a0)]⟩)], 22⟩ = some ⟨[(4, (I 2))], [], 22⟩ :=
  rE rfl
theorem f40r5 (k : Nat) (a0 : T_api_Base) (a1 : (List Int)) (x6 : Int) : RE k f40a5 f40o5 false ⟨[(1, (sI a1)), (2, (V.ptr 2 0 0)), (5, (I x6)), (21, (V.bool false))], [(2, ⟨false, 4, [(enc_T_api_Base a0)]⟩)], 22⟩ = some ⟨[(1, (sI a1)), (2, (V.ptr 2 0 0)), (5, (I (Go.IntKind.wrap .i64 (x6 + 1))))], [(2, ⟨false, 4, [(enc_T_api_Base a0)]⟩)], 22⟩ :=
  rE rfl
theorem ref11_asked_L1_ok (k : Nat) (a0 : T_api_Base) (a1 : (List Int))  (K0 : Int → Option Int) (Kst : X × St → Option (V × List V)) (hK0 : ∀ (y0 : Int), Kst (X.exit 0, ⟨[(1, (sI a1)), (2, (V.ptr 2 0 0)), (5, (I y0)), (12, (V.bool false))], [(2, ⟨false, 4, [(enc_T_api_Base a0)]⟩)], 22⟩) = (K0 y0).map ref11_asked_fin) (hret : ∀ s, Kst (X.ret, s) = endK prog 22 [(enc_T_api_Base a0), (sI a1)] [] [.tmp 4] (X.ret, s)) :
    ∀ (m : Nat) (x6 : Int), (iter (exec prog (EV k) f40n k f40b0) m ⟨[(1, (sI a1)), (2, (V.ptr 2 0 0)), (5, (I x6))], [(2, ⟨false, 4, [(enc_T_api_Base a0)]⟩)], 22⟩).bind Kst = (ref11_asked_L1 k a0 a1 K0 m x6).map ref11_asked_fin := by
  intro m
  induction m with
  | zero => intros; rfl
  | succ m ih =>
    intro x6
    unfold ref11_asked_L1
    refine Eq.trans k_round ?_
    refine Eq.trans k_assoc ?_
    refine Eq.trans (k_region0 rfl (f40r4 k a0 a1 x6)) ?_
    refine Eq.trans (k_cond (t := (decide (x6 < (a1.length : Int)))) rfl) ?_
    refine bifE2 (fun hc => ?_) fun hc => ?_
    · rw [hc]
      refine Eq.trans k_skip ?_
      refine Eq.trans k_block ?_
      refine Eq.trans (k_region rfl (f40r6 k a0 a1 x6)) ?_
      refine bindE (fun o9 => ?_)
      refine Eq.trans (k_lcond (t := o9) rfl) ?_
      refine bifE2 (fun hc => ?_) fun hc => ?_
      · rw [hc]
        refine Eq.trans (k_region0 rfl (f40r7 k a0 a1 x6)) ?_
        refine Eq.trans k_lret ?_
        refine Eq.trans blk_ret ?_
        refine Eq.trans loop_ret ?_
        refine Eq.trans (hret _) ?_
        rfl
      · rw [hc]
        refine Eq.trans k_lskip ?_
        refine Eq.trans blk_normal ?_
        refine Eq.trans (k_lregion0 rfl (f40r5 k a0 a1 x6)) ?_
        refine Eq.trans loop_normal ?_
        exact ih (Go.IntKind.wrap .i64 (x6 + 1))
    · rw [hc]
      refine Eq.trans k_exit ?_
      refine Eq.trans loop_exit ?_
      exact hK0 x6
theorem f40r8 (k : Nat) (a0 : T_api_Base) (a1 : (List Int)) (y10 : Int) : RE k f40a8 f40o8 false ⟨[(1, (sI a1)), (2, (V.ptr 2 0 0)), (5, (I y10)), (12, (V.bool false))], [(2, ⟨false, 4, [(enc_T_api_Base a0)]⟩)], 22⟩ = some ⟨[(4, (I 0))], [], 22⟩ :=
  rE rfl
theorem ref11_asked_ok (k : Nat) (a0 : T_api_Base) (a1 : (List Int)) : EV k 40 [(enc_T_api_Base a0), (sI a1)] = (ref11_asked k a0 a1).map ref11_asked_fin := by
  cases k with
  | zero => rfl
  | succ k =>
    unfold ref11_asked
    refine Eq.trans (evF_succ (c := f40c) (N := 22) (regs := f40n) rfl Go.Proofs.Try.func40 rfl (by decide) rfl rfl rfl) ?_
    refine Eq.trans (k_region0 rfl (f40r0 k a0 a1)) ?_
    refine Eq.trans k_assoc ?_
    refine Eq.trans (k_region rfl (f40r1 k a0 a1)) ?_
    refine bindE (fun o2 => ?_)
    refine Eq.trans (k_cond (t := o2) rfl) ?_
    refine bifE2 (fun hc => ?_) fun hc => ?_
    · rw [hc]
      refine Eq.trans k_assoc ?_
      refine Eq.trans (k_region0 rfl (f40r2 k a0 a1)) ?_
      refine Eq.trans k_ret ?_
      rfl
    · rw [hc]
      refine Eq.trans k_skip ?_
      refine Eq.trans k_assoc ?_
      refine Eq.trans (k_region0 rfl (f40r3 k a0 a1)) ?_
      refine Eq.trans k_block ?_
      refine Eq.trans k_loop ?_
      refine ref11_asked_L1_ok k a0 a1 _ _ ?h_ref11_asked_L1_0 ?hr_ref11_asked_L1 k 0
      · intro y10
        refine Eq.trans blk_exit ?_
        refine Eq.trans (k_region0 rfl (f40r8 k a0 a1 y10)) ?_
        refine Eq.trans k_lret ?_
        rfl
      · intro s; exact rfl
def ref11_Way_fin : ((List Int) × Int) → V × List V := fun r => (.tup [(sI (r.1)), (I r.2)], [])
theorem f12r0 (k : Nat) (a0 : T_api_Base) (a1 : Int) : RE k f12a0 f12o0 false ⟨[(0, (enc_T_api_Base a0)), (1, (I a1))], [], 17⟩ = some ⟨[(1, (I a1)), (2, (V.ptr 2 0 0))], [(2, ⟨false, 4, [(enc_T_api_Base a0)]⟩)], 17⟩ :=
  rE rfl
theorem f12r1 (k : Nat) (a0 : T_api_Base) (a1 : Int) : RE k f12a1 f12o1 false ⟨[(1, (I a1)), (2, (V.ptr 2 0 0))], [(2, ⟨false, 4, [(enc_T_api_Base a0)]⟩)], 17⟩ = ((ref11_asked k a0 ([a1] : List Int))).map (fun (o : Int) => (⟨[(1, (I a1)), (2, (V.ptr 2 0 0)), (6, (I o))], [(2, ⟨false, 4, [(enc_T_api_Base a0)]⟩)], 17⟩ : St)) := by
  refine rg ?_
  refine ra 3 3 ⟨[(1, (I a1)), (2, (V.ptr 2 0 0)), (7, (enc_T_api_Base a0)), (8, (I a1)), (9, (sI (([a1] : List Int))))], [(2, ⟨false, 4, [(enc_T_api_Base a0)]⟩)], 17⟩ rfl rfl rfl ?_
  refine Eq.trans (reg_pure (x := (ref11_asked k a0 ([a1] : List Int))) (w := fun v1 => (I v1)) rfl rfl rfl rfl (p_call rfl rfl rfl rfl rfl (ref11_asked_ok k a0 ([a1] : List Int)) (.inl rfl))) ?_
  refine bind_self (fun v1 => ?_)
  exact bind_end rfl
theorem f12r2 (k : Nat) (a0 : T_api_Base) (a1 : Int) (o2 : Int) : RE k f12a2 f12o2 false ⟨[(1, (I a1)), (2, (V.ptr 2 0 0)), (6, (I o2))], [(2, ⟨false, 4, [(enc_T_api_Base a0)]⟩)], 17⟩ = some ⟨[(1, (I a1)), (2, (V.ptr 2 0 0)), (6, (I o2)), (12, (V.bool (o2 != 0)))], [(2, ⟨false, 4, [(enc_T_api_Base a0)]⟩)], 17⟩ :=
  rE rfl
theorem f12r3 (k : Nat) (a0 : T_api_Base) (a1 : Int) (o2 : Int) : RE k f12a3 f12o3 false ⟨[(1, (I a1)), (2, (V.ptr 2 0 0)), (6, (I o2)), (12, (V.bool true))], [(2, ⟨false, 4, [(enc_T_api_Base a0)]⟩)], 17⟩ = some ⟨[(4, (sI (([] : List Int)))), (5, (I o2))], [], 17⟩ :=
  rE rfl
theorem f12r4 (k : Nat) (a0 : T_api_Base) (a1 : Int) (o2 : Int) : RE k f12a4 f12o4 false ⟨[(1, (I a1)), (2, (V.ptr 2 0 0)), (6, (I o2)), (12, (V.bool false))], [(2, ⟨false, 4, [(enc_T_api_Base a0)]⟩)], 17⟩ = (((ref11_way k a0 a1).bind fun v3 => (some (v3, 0)))).map (fun (o : (List Int) × Int) => (⟨[(4, (sI (o.1))), (5, (I o.2))], [], 17⟩ : St)) := by
  refine rg ?_
  refine ra 2 2 ⟨[(1, (I a1)), (2, (V.ptr 2 0 0)), (6, (I o2)), (12, (V.bool false)), (14, (enc_T_api_Base a0)), (15, (I a1))], [(2, ⟨false, 4, [(enc_T_api_Base a0)]⟩)], 17⟩ rfl rfl rfl ?_
  refine Eq.trans (reg_pure (x := (ref11_way k a0 a1)) (w := fun v3 => (sI v3)) rfl rfl rfl rfl (p_call rfl rfl rfl rfl rfl (ref11_way_ok k a0 a1) (.inl rfl))) ?_
  refine bindE (fun v3 => ?_)
  exact bind_end rfl
theorem ref11_Way_ok (k : Nat) (a0 : T_api_Base) (a1 : Int) : EV k 12 [(enc_T_api_Base a0), (I a1)] = (ref11_Way k a0 a1).map ref11_Way_fin := by
  cases k with
  | zero => rfl
  | succ k =>
    unfold ref11_Way
    refine Eq.trans (evF_succ (c := f12c) (N := 17) (regs := f12n) rfl Go.Proofs.Try.func12 rfl (by decide) rfl rfl rfl) ?_
    refine Eq.trans (k_region0 rfl (f12r0 k a0 a1)) ?_
    refine Eq.trans k_assoc ?_
    refine Eq.trans (k_region rfl (f12r1 k a0 a1)) ?_
    refine bindE (fun o2 => ?_)
    refine Eq.trans k_assoc ?_
    refine Eq.trans (k_region0 rfl (f12r2 k a0 a1 o2)) ?_
    refine Eq.trans (k_cond (t := (o2 != 0)) rfl) ?_
    refine bifE2 (fun hc => ?_) fun hc => ?_
    · rw [hc]
      refine Eq.trans k_assoc ?_
      refine Eq.trans (k_region0 rfl (f12r3 k a0 a1 o2)) ?_
      refine Eq.trans k_ret ?_
      rfl
    · rw [hc]
      refine Eq.trans k_skip ?_
      refine Eq.trans (k_region rfl (f12r4 k a0 a1 o2)) ?_
      refine bindE (fun o4 => ?_)
      refine Eq.trans k_lret ?_
      rfl
def dbd_Depth_fin : (Int × Int) → V × List V := fun r => (.tup [(I r.1), (I r.2)], [])
theorem f14r0 (k : Nat) (a0 : T_api_Base) (a1 : Int) : RE k f14a0 f14o0 false ⟨[(0, (enc_T_api_Base a0)), (1, (I a1))], [], 17⟩ = some ⟨[(1, (I a1)), (2, (V.ptr 2 0 0))], [(2, ⟨false, 4, [(enc_T_api_Base a0)]⟩)], 17⟩ :=
  rE rfl
theorem f14r1 (k : Nat) (a0 : T_api_Base) (a1 : Int) : RE k f14a1 f14o1 false ⟨[(1, (I a1)), (2, (V.ptr 2 0 0))], [(2, ⟨false, 4, [(enc_T_api_Base a0)]⟩)], 17⟩ = (((dbd_Way k a0 a1).bind fun v1 => (some (v1.1, v1.2)))).map (fun (o : (List Int) × Int) => (⟨[(6, (sI (o.1))), (7, (I o.2))], [], 17⟩ : St)) := by
  refine rg ?_
  refine ra 2 2 ⟨[(1, (I a1)), (2, (V.ptr 2 0 0)), (9, (enc_T_api_Base a0)), (10, (I a1))], [(2, ⟨false, 4, [(enc_T_api_Base a0)]⟩)], 17⟩ rfl rfl rfl ?_
  refine Eq.trans (reg_pure (x := (dbd_Way k a0 a1)) (w := fun v1 => (V.tup [(sI (v1.1)), (I v1.2)])) rfl rfl rfl rfl (p_call rfl rfl rfl rfl rfl (dbd_Way_ok k a0 a1) (.inl rfl))) ?_
  refine bindE (fun v1 => ?_)
  exact bind_end rfl
theorem f14r2 (k : Nat) (o2 : (List Int) × Int) : RE k f14a2 f14o2 false ⟨[(6, (sI (o2.1))), (7, (I o2.2))], [], 17⟩ = some ⟨[(4, (I (o2.1.length : Int))), (5, (I o2.2))], [], 17⟩ := by
  refine rg ?_
  refine ra 1 1 ⟨[(6, (sI (o2.1))), (7, (I o2.2)), (14, (sI (o2.1)))], [], 17⟩ rfl rfl rfl ?_
  refine Eq.trans (reg_pure (x := some ()) (w := fun _ => (I (o2.1.length : Int))) rfl rfl rfl rfl (p_len (e := I) rfl rfl rfl rfl rfl rfl Go.Proofs.Try.underlying28)) ?_
  refine Eq.trans some_bind ?_
  exact bind_end rfl
theorem dbd_Depth_ok (k : Nat) (a0 : T_api_Base) (a1 : Int) : EV k 14 [(enc_T_api_Base a0), (I a1)] = (dbd_Depth k a0 a1).map dbd_Depth_fin := by
  cases k with
  | zero => rfl
  | succ k =>
    unfold dbd_Depth
    refine Eq.trans (evF_succ (c := f14c) (N := 17) (regs := f14n) rfl Go.Proofs.Try.func14 rfl (by decide) rfl rfl rfl) ?_
    refine Eq.trans (k_region0 rfl (f14r0 k a0 a1)) ?_
    refine Eq.trans (k_region rfl (f14r1 k a0 a1)) ?_
    refine bindE (fun o2 => ?_)
    refine Eq.trans (k_region0 rfl (f14r2 k o2)) ?_
    refine Eq.trans k_lret ?_
    rfl
def ref11_Depth_fin : (Int × Int) → V × List V := fun r => (.tup [(I r.1), (I r.2)], [])
theorem f15r0 (k : Nat) (a0 : T_api_Base) (a1 : Int) : RE k f15a0 f15o0 false ⟨[(0, (enc_T_api_Base a0)), (1, (I a1))], [], 17⟩ = some ⟨[(1, (I a1)), (2, (V.ptr 2 0 0))], [(2, ⟨false, 4, [(enc_T_api_Base a0)]⟩)], 17⟩ :=
  rE rfl
theorem f15r1 (k : Nat) (a0 : T_api_Base) (a1 : Int) : RE k f15a1 f15o1 false ⟨[(1, (I a1)), (2, (V.ptr 2 0 0))], [(2, ⟨false, 4, [(enc_T_api_Base a0)]⟩)], 17⟩ = (((ref11_Way k a0 a1).bind fun v1 => (some (v1.1, v1.2)))).map (fun (o : (List Int) × Int) => (⟨[(6, (sI (o.1))), (7, (I o.2))], [], 17⟩ : St)) := by
  refine rg ?_
  refine ra 2 2 ⟨[(1, (I a1)), (2, (V.ptr 2 0 0)), (9, (enc_T_api_Base a0)), (10, (I a1))], [(2, ⟨false, 4, [(enc_T_api_Base a0)]⟩)], 17⟩ rfl rfl rfl ?_
  refine Eq.trans (reg_pure (x := (ref11_Way k a0 a1)) (w := fun v1 => (V.tup [(sI (v1.1)), (I v1.2)])) rfl rfl rfl rfl (p_call rfl rfl rfl rfl rfl (ref11_Way_ok k a0 a1) (.inl rfl))) ?_
  refine bindE (fun v1 => ?_)
  exact bind_end rfl
theorem f15r2 (k : Nat) (o2 : (List Int) × Int) : RE k f15a2 f15o2 false ⟨[(6, (sI (o2.1))), (7, (I o2.2))], [], 17⟩ = some ⟨[(4, (I (o2.1.length : Int))), (5, (I o2.2))], [], 17⟩ := by
  refine rg ?_
  refine ra 1 1 ⟨[(6, (sI (o2.1))), (7, (I o2.2)), (14, (sI (o2.1)))], [], 17⟩ rfl rfl rfl ?_
  refine Eq.trans (reg_pure (x := some ()) (w := fun _ => (I (o2.1.length : Int))) rfl rfl rfl rfl (p_len (e := I) rfl rfl rfl rfl rfl rfl Go.Proofs.Try.underlying28)) ?_
  refine Eq.trans some_bind ?_
  exact bind_end rfl
theorem ref11_Depth_ok (k : Nat) (a0 : T_api_Base) (a1 : Int) : EV k 15 [(enc_T_api_Base a0), (I a1)] = (ref11_Depth k a0 a1).map ref11_Depth_fin := by
  cases k with
  | zero => rfl
  | succ k =>
    unfold ref11_Depth
    refine Eq.trans (evF_succ (c := f15c) (N := 17) (regs := f15n) rfl Go.Proofs.Try.func15 rfl (by decide) rfl rfl rfl) ?_
    refine Eq.trans (k_region0 rfl (f15r0 k a0 a1)) ?_
    refine Eq.trans (k_region rfl (f15r1 k a0 a1)) ?_
    refine bindE (fun o2 => ?_)
    refine Eq.trans (k_region0 rfl (f15r2 k o2)) ?_
    refine Eq.trans k_lret ?_
    rfl
def ref11_Children_fin : ((List Int) × Int) → V × List V := fun r => (.tup [(sI (r.1)), (I r.2)], [])
theorem f17r0 (k : Nat) (a0 : T_api_Base) (a1 : Int) : RE k f17a0 f17o0 false ⟨[(0, (enc_T_api_Base a0)), (1, (I a1))], [], 36⟩ = some ⟨[(1, (I a1)), (2, (V.ptr 2 0 0))], [(2, ⟨false, 4, [(enc_T_api_Base a0)]⟩)], 36⟩ :=
  rE rfl
theorem f17r1 (k : Nat) (a0 : T_api_Base) (a1 : Int) : RE k f17a1 f17o1 false ⟨[(1, (I a1)), (2, (V.ptr 2 0 0))], [(2, ⟨false, 4, [(enc_T_api_Base a0)]⟩)], 36⟩ = ((ref11_asked k a0 ([a1] : List Int))).map (fun (o : Int) => (⟨[(1, (I a1)), (2, (V.ptr 2 0 0)), (6, (I o))], [(2, ⟨false, 4, [(enc_T_api_Base a0)]⟩)], 36⟩ : St)) := by
  refine rg ?_
  refine ra 3 3 ⟨[(1, (I a1)), (2, (V.ptr 2 0 0)), (9, (enc_T_api_Base a0)), (10, (I a1)), (11, (sI (([a1] : List Int))))], [(2, ⟨false, 4, [(enc_T_api_Base a0)]⟩)], 36⟩ rfl rfl rfl ?_
  refine Eq.trans (reg_pure (x := (ref11_asked k a0 ([a1] : List Int))) (w := fun v1 => (I v1)) rfl rfl rfl rfl (p_call rfl rfl rfl rfl rfl (ref11_asked_ok k a0 ([a1] : List Int)) (.inl rfl))) ?_
  refine bind_self (fun v1 => ?_)
  exact bind_end rfl
theorem f17r2 (k : Nat) (a0 : T_api_Base) (a1 : Int) (o2 : Int) : RE k f17a2 f17o2 false ⟨[(1, (I a1)), (2, (V.ptr 2 0 0)), (6, (I o2))], [(2, ⟨false, 4, [(enc_T_api_Base a0)]⟩)], 36⟩ = some ⟨[(1, (I a1)), (2, (V.ptr 2 0 0)), (6, (I o2)), (14, (V.bool (o2 != 0)))], [(2, ⟨false, 4, [(enc_T_api_Base a0)]⟩)], 36⟩ :=
  rE rfl
theorem f17r3 (k : Nat) (a0 : T_api_Base) (a1 : Int) (o2 : Int) : RE k f17a3 f17o3 false ⟨[(1, (I a1)), (2, (V.ptr 2 0 0)), (6, (I o2)), (14, (V.bool true))], [(2, ⟨false, 4, [(enc_T_api_Base a0)]⟩)], 36⟩ = some ⟨[(4, (sI (([] : List Int)))), (5, (I o2))], [], 36⟩ :=
  rE rfl
theorem f17r4 (k : Nat) (a0 : T_api_Base) (a1 : Int) (o2 : Int) : RE k f17a4 f17o4 false ⟨[(1, (I a1)), (2, (V.ptr 2 0 0)), (6, (I o2)), (14, (V.bool false))], [(2, ⟨false, 4, [(enc_T_api_Base a0)]⟩)], 36⟩ = some ⟨[(1, (I a1)), (2, (V.ptr 2 0 0)), (7, (V.sl 1 1 (List.map I ([] : List Int))))], [(2, ⟨false, 4, [(enc_T_api_Base a0)]⟩)], 36⟩ :=
  rE rfl
theorem f17r5 (k : Nat) (a0 : T_api_Base) (a1 : Int) : RE k f17a5 f17o5 false ⟨[(1, (I a1)), (2, (V.ptr 2 0 0)), (7, (V.sl 1 1 (List.map I ([] : List Int))))], [(2, ⟨false, 4, [(enc_T_api_Base a0)]⟩)], 36⟩ = some ⟨[(1, (I a1)), (2, (V.ptr 2 0 0)), (7, (V.sl 1 1 (List.map I ([] : List Int)))), (8, (I 0))], [(2, ⟨false, 4, [(enc_T_api_Base a0)]⟩)], 36⟩ :=
  rE rfl
theorem f17r6 (k : Nat) (a0 : T_api_Base) (a1 : Int) (x7 : (List Int)) (x8 : Int) : RE k f17a6 f17o6 false ⟨[(1, (I a1)), (2, (V.ptr 2 0 0)), (7, (V.sl 1 1 (List.map I x7))), (8, (I x8))], [(2, ⟨false, 4, [(enc_T_api_Base a0)]⟩)], 36⟩ = some ⟨[(1, (I a1)), (2, (V.ptr 2 0 0)), (7, (V.sl 1 1 (List.map I x7))), (8, (I x8)), (20, (V.bool (decide (x8 < (a0.fTypes.length : Int)))))], [(2, ⟨false, 4, [(enc_T_api_Base a0)]⟩)], 36⟩ := by
  refine rg ?_
  refine ra 3 3 ⟨[(1, (I a1)), (2, (V.ptr 2 0 0)), (7, (V.sl 1 1 (List.map I x7))), (8, (I x8)), (16, (I x8)), (17, (V.ptr 2 0 2)), (18, (sType (a0.fTypes)))], [(2, ⟨false, 4, [(enc_T_api_Base a0)]⟩)], 36⟩ rfl rfl rfl ?_
  refine Eq.trans (reg_pure (x := some ()) (w := fun _ => (I (a0.fTypes.length : Int))) rfl rfl rfl rfl (p_len (e := enc_T_api_Type) rfl rfl rfl rfl rfl rfl Go.Proofs.Try.underlying22)) ?_
  refine Eq.trans some_bind ?_
  exact bind_end rfl
theorem f17r8 (k : Nat) (a0 : T_api_Base) (a1 : Int) (x7 : (List Int)) (x8 : Int) : RE k f17a8 f17o8 false ⟨[(1, (I a1)), (2, (V.ptr 2 0 0)), (7, (V.sl 1 1 (List.map I x7))), (8, (I x8)), (20, (V.bool true))], [(2, ⟨false, 4, [(enc_T_api_Base a0)]⟩)], 36⟩ = (((idx a0.fTypes x8).bind fun v9 => (some ((v9.fParent == a1))))).map (fun (o : Bool) => (⟨[(1, (I a1)), (2, (V.ptr 2 0 0)), (7, (V.sl 1 1 (List.map I x7))), (8, (I x8)), (30, (V.bool o))], [(2, ⟨false, 4, [(enc_T_api_Base a0)]⟩)], 36⟩ : St)) := by
  refine rg ?_
  refine ra 3 3 ⟨[(1, (I a1)), (2, (V.ptr 2 0 0)), (7, (V.sl 1 1 (List.map I x7))), (8, (I x8)), (20, (V.bool true)), (23, (V.ptr 2 0 2)), (24, (sType (a0.fTypes))), (25, (I x8))], [(2, ⟨false, 4, [(enc_T_api_Base a0)]⟩)], 36⟩ rfl rfl rfl ?_
  refine Eq.trans (reg_pure (x := (idx a0.fTypes x8)) (w := fun v9 => (V.pro (enc_T_api_Type v9))) rfl rfl rfl rfl (p_index (e := enc_T_api_Type) rfl rfl rfl Go.Proofs.Try.underlying22 rfl (by decide))) ?_
  refine bindE (fun v9 => ?_)
  exact bind_end rfl
theorem f17r9 (k : Nat) (a0 : T_api_Base) (a1 : Int) (x7 : (List Int)) (x8 : Int) : RE k f17a9 f17o9 false ⟨[(1, (I a1)), (2, (V.ptr 2 0 0)), (7, (V.sl 1 1 (List.map I x7))), (8, (I x8)), (30, (V.bool true))], [(2, ⟨false, 4, [(enc_T_api_Base a0)]⟩)], 36⟩ = ((app x7 ([x8] : List Int))).map (fun (o : (List Int)) => (⟨[(1, (I a1)), (2, (V.ptr 2 0 0)), (7, (V.sl 1 1 (List.map I o))), (8, (I x8))], [(2, ⟨false, 4, [(enc_T_api_Base a0)]⟩)], 36⟩ : St)) := by
  refine rg ?_
  refine ra 3 3 ⟨[(1, (I a1)), (2, (V.ptr 2 0 0)), (7, (sI x7)), (8, (I x8)), (30, (V.bool true)), (31, (V.sl 1 1 (List.map I x7))), (32, (I x8)), (33, (sI (([x8] : List Int))))], [(2, ⟨false, 4, [(enc_T_api_Base a0)]⟩)], 36⟩ rfl rfl rfl ?_
  refine Eq.trans (reg_eff (x := (app x7 ([x8] : List Int))) (w := fun v11 => ((V.sl 1 1 (List.map I v11)), _)) rfl rfl rfl rfl (p_app (e := I) rfl rfl rfl rfl rfl rfl rfl rfl rfl rfl (by decide))) ?_
  refine bind_self (fun v11 => ?_)
  exact bind_end rfl
theorem f17r7 (k : Nat) (a0 : T_api_Base) (a1 : Int) (x8 : Int) (o12 : (List Int)) : RE k f17a7 f17o7 false ⟨[(1, (I a1)), (2, (V.ptr 2 0 0)), (7, (V.sl 1 1 (List.map I o12))), (8, (I x8))], [(2, ⟨false, 4, [(enc_T_api_Base a0)]⟩)], 36⟩ = some ⟨[(1, (I a1)), (2, (V.ptr 2 0 0)), (7, (V.sl 1 1 (List.map I o12))), (8, (I (Go.IntKind.wrap .i64 (x8 + 1))))], [(2, ⟨false, 4, [(enc_T_api_Base a0)]⟩)], 36⟩ :=
  rE rfl
theorem ref11_Children_r7' (k : Nat) (a0 : T_api_Base) (a1 : Int) (x7 : (List Int)) (x8 : Int) : RE k f17a7 f17o7 false ⟨[(1, (I a1)), (2, (V.ptr 2 0 0)), (7, (V.sl 1 1 (List.map I x7))), (8, (I x8)), (30, (V.bool false))], [(2, ⟨false, 4, [(enc_T_api_Base a0)]⟩)], 36⟩ = some ⟨[(1, (I a1)), (2, (V.ptr 2 0 0)), (7, (V.sl 1 1 (List.map I x7))), (8, (I (Go.IntKind.wrap .i64 (x8 + 1))))], [(2, ⟨false, 4, [(enc_T_api_Base a0)]⟩)], 36⟩ :=
  rE rfl
theorem ref11_Children_L1_ok (k : Nat) (a0 : T_api_Base) (a1 : Int)  (K0 : (List Int) → Int → Option ((List Int) × Int)) (Kst : X × St → Option (V × List V)) (hK0 : ∀ (y0 : (List Int)) (y1 : Int), Kst (X.exit 0, ⟨[(1, (I a1)), (2, (V.ptr 2 0 0)), (7, (V.sl 1 1 (List.map I y0))), (8, (I y1)), (20, (V.bool false))], [(2, ⟨false, 4, [(enc_T_api_Base a0)]⟩)], 36⟩) = (K0 y0 y1).map ref11_Children_fin) (hret : ∀ s, Kst (X.ret, s) = endK prog 36 [(enc_T_api_Base a0), (I a1)] [] [.tmp 4, .tmp 5] (X.ret, s)) :
    ∀ (m : Nat) (x7 : (List Int)) (x8 : Int), (iter (exec prog (EV k) f17n k f17b0) m ⟨[(1, (I a1)), (2, (V.ptr 2 0 0)), (7, (V.sl 1 1 (List.map I x7))), (8, (I x8))], [(2, ⟨false, 4, [(enc_T_api_Base a0)]⟩)], 36⟩).bind Kst = (ref11_Children_L1 a0 a1 K0 m x7 x8).map ref11_Children_fin := by
  intro m
  induction m with
  | zero => intros; rfl
  | succ m ih =>
    intro x7 x8
    unfold ref11_Children_L1
    refine Eq.trans k_round ?_
    refine Eq.trans k_assoc ?_
    refine Eq.trans (k_region0 rfl (f17r6 k a0 a1 x7 x8)) ?_
    refine Eq.trans (k_cond (t := (decide (x8 < (a0.fTypes.length : Int)))) rfl) ?_
    refine bifE2 (fun hc => ?_) fun hc => ?_
    · rw [hc]
      refine Eq.trans k_skip ?_
      refine Eq.trans k_block ?_
      refine Eq.trans (k_region rfl (f17r8 k a0 a1 x7 x8)) ?_
      refine bindE (fun o10 => ?_)
      refine Eq.trans (k_lcond (t := o10) rfl) ?_
      refine bifE2 (fun hc => ?_) fun hc => ?_
      · rw [hc]
        refine Eq.trans (k_lregion rfl (f17r9 k a0 a1 x7 x8)) ?_
        refine bindE (fun o12 => ?_)
        refine Eq.trans blk_normal ?_
        refine Eq.trans (k_lregion0 rfl (f17r7 k a0 a1 x8 o12)) ?_
        refine Eq.trans loop_normal ?_
        exact ih o12 (Go.IntKind.wrap .i64 (x8 + 1))
      · rw [hc]
        refine Eq.trans k_lskip ?_
        refine Eq.trans blk_normal ?_
        refine Eq.trans (k_lregion0 rfl (ref11_Children_r7' k a0 a1 x7 x8)) ?_
        refine Eq.trans loop_normal ?_
        exact ih x7 (Go.IntKind.wrap .i64 (x8 + 1))
    · rw [hc]
      refine Eq.trans k_exit ?_
      refine Eq.trans loop_exit ?_
      exact hK0 x7 x8
theorem f17r10 (k : Nat) (a0 : T_api_Base) (a1 : Int) (y13 : (List Int)) (y14 : Int) : RE k f17a10 f17o10 false ⟨[(1, (I a1)), (2, (V.ptr 2 0 0)), (7, (V.sl 1 1 (List.map I y13))), (8, (I y14)), (20, (V.bool false))], [(2, ⟨false, 4, [(enc_T_api_Base a0)]⟩)], 36⟩ = some ⟨[(4, (sI y13)), (5, (I 0))], [], 36⟩ :=
  rE rfl
theorem ref11_Children_ok (k : Nat) (a0 : T_api_Base) (a1 : Int) : EV k 17 [(enc_T_api_Base a0), (I a1)] = (ref11_Children k a0 a1).map ref11_Children_fin := by
  cases k with
  | zero => rfl
  | succ k =>
    unfold ref11_Children
    refine Eq.trans (evF_succ (c := f17c) (N := 36) (regs := f17n) rfl Go.Proofs.Try.func17 rfl (by decide) rfl rfl rfl) ?_
    refine Eq.trans (k_region0 rfl (f17r0 k a0 a1)) ?_
    refine Eq.trans k_assoc ?_
    refine Eq.trans (k_region rfl (f17r1 k a0 a1)) ?_
    refine bindE (fun o2 => ?_)
    refine Eq.trans k_assoc ?_
    refine Eq.trans (k_region0 rfl (f17r2 k a0 a1 o2)) ?_
    refine Eq.trans (k_cond (t := (o2 != 0)) rfl) ?_
    refine bifE2 (fun hc => ?_) fun hc => ?_
    · rw [hc]
      refine Eq.trans k_assoc ?_
      refine Eq.trans (k_region0 rfl (f17r3 k a0 a1 o2)) ?_
      refine Eq.trans k_ret ?_
      rfl
    · rw [hc]
      refine Eq.trans k_skip ?_
      refine Eq.trans (k_region0 rfl (f17r4 k a0 a1 o2)) ?_
      refine Eq.trans k_assoc ?_
      refine Eq.trans (k_region0 rfl (f17r5 k a0 a1)) ?_
      refine Eq.trans k_block ?_
      refine Eq.trans k_loop ?_
      refine ref11_Children_L1_ok k a0 a1 _ _ ?h_ref11_Children_L1_0 ?hr_ref11_Children_L1 k ([] : List Int) 0
      · intro y13 y14
        refine Eq.trans blk_exit ?_
        refine Eq.trans (k_region0 rfl (f17r10 k a0 a1 y13 y14)) ?_
        refine Eq.trans k_lret ?_
        rfl
      · intro s; exact rfl
def slices_Contains_int_fin : Bool → V × List V := fun r => ((V.bool r), [])
theorem f42r0 (k : Nat) (a0 : (List Int)) (a1 : Int) : RE k f42a0 f42o0 false ⟨[(0, (sI a0)), (1, (I a1))], [], 9⟩ = some ⟨[(0, (sI a0)), (1, (I a1))], [], 9⟩ :=
  rE rfl
theorem f42r1 (k : Nat) (a0 : (List Int)) (a1 : Int) : RE k f42a1 f42o1 false ⟨[(0, (sI a0)), (1, (I a1))], [], 9⟩ = (((slices_Index_int k a0 a1).bind fun v1 => (some ((decide (v1 ≥ 0)))))).map (fun (o : Bool) => (⟨[(4, (V.bool o))], [], 9⟩ : St)) := by
  refine rg ?_
  refine ra 2 2 ⟨[(0, (sI a0)), (1, (I a1)), (5, (sI a0)), (6, (I a1))], [], 9⟩ rfl rfl rfl ?_
  refine Eq.trans (reg_pure (x := (slices_Index_int k a0 a1)) (w := fun v1 => (I v1)) rfl rfl rfl rfl (p_call rfl rfl rfl rfl rfl (slices_Index_int_ok k a0 a1) (.inl rfl))) ?_
  refine bindE (fun v1 => ?_)
  exact bind_end rfl
theorem slices_Contains_int_ok (k : Nat) (a0 : (List Int)) (a1 : Int) : EV k 42 [(sI a0), (I a1)] = (slices_Contains_int k a0 a1).map slices_Contains_int_fin := by
  cases k with
  | zero => rfl
  | succ k =>
    unfold slices_Contains_int
    refine Eq.trans (evF_succ (c := f42c) (N := 9) (regs := f42n) rfl Go.Proofs.Try.func42 rfl (by decide) rfl rfl rfl) ?_
    refine Eq.trans (k_region0 rfl (f42r0 k a0 a1)) ?_
    refine Eq.trans (k_region rfl (f42r1 k a0 a1)) ?_
    refine bindE (fun o2 => ?_)
    refine Eq.trans k_lret ?_
    rfl
def dbd_IsAbove_fin : (Bool × Int) → V × List V := fun r => (.tup [(V.bool r.1), (I r.2)], [])
theorem f18r0 (k : Nat) (a0 : T_api_Base) (a1 : Int) (a2 : Int) : RE k f18a0 f18o0 false ⟨[(0, (enc_T_api_Base a0)), (1, (I a1)), (2, (I a2))], [], 27⟩ = some ⟨[(1, (I a1)), (2, (I a2)), (3, (V.ptr 3 0 0))], [(3, ⟨false, 4, [(enc_T_api_Base a0)]⟩)], 27⟩ :=
  rE rfl
theorem f18r1 (k : Nat) (a0 : T_api_Base) (a1 : Int) (a2 : Int) : RE k f18a1 f18o1 false ⟨[(1, (I a1)), (2, (I a2)), (3, (V.ptr 3 0 0))], [(3, ⟨false, 4, [(enc_T_api_Base a0)]⟩)], 27⟩ = ((dbd_asked k a0 ([a1, a2] : List Int))).map (fun (o : Int) => (⟨[(1, (I a1)), (2, (I a2)), (3, (V.ptr 3 0 0)), (8, (I o))], [(3, ⟨false, 4, [(enc_T_api_Base a0)]⟩)], 27⟩ : St)) := by
  refine rg ?_
  refine ra 4 4 ⟨[(1, (I a1)), (2, (I a2)), (3, (V.ptr 3 0 0)), (9, (enc_T_api_Base a0)), (10, (I a1)), (11, (I a2)), (12, (sI (([a1, a2] : List Int))))], [(3, ⟨false, 4, [(enc_T_api_Base a0)]⟩)], 27⟩ rfl rfl rfl ?_
  refine Eq.trans (reg_pure (x := (dbd_asked k a0 ([a1, a2] : List Int))) (w := fun v1 => (I v1)) rfl rfl rfl rfl (p_call rfl rfl rfl rfl rfl (dbd_asked_ok k a0 ([a1, a2] : List Int)) (.inl rfl))) ?_
  refine bind_self (fun v1 => ?_)
  exact bind_end rfl
theorem f18r2 (k : Nat) (a0 : T_api_Base) (a1 : Int) (a2 : Int) (o2 : Int) : RE k f18a2 f18o2 false ⟨[(1, (I a1)), (2, (I a2)), (3, (V.ptr 3 0 0)), (8, (I o2))], [(3, ⟨false, 4, [(enc_T_api_Base a0)]⟩)], 27⟩ = some ⟨[(1, (I a1)), (2, (I a2)), (3, (V.ptr 3 0 0)), (8, (I o2)), (15, (V.bool (o2 != 0)))], [(3, ⟨false, 4, [(enc_T_api_Base a0)]⟩)], 27⟩ :=
  rE rfl
theorem f18r3 (k : Nat) (a0 : T_api_Base) (a1 : Int) (a2 : Int) (o2 : Int) : RE k f18a3 f18o3 false ⟨[(1, (I a1)), (2, (I a2)), (3, (V.ptr 3 0 0)), (8, (I o2)), (15, (V.bool true))], [(3, ⟨false, 4, [(enc_T_api_Base a0)]⟩)], 27⟩ = some ⟨[(6, (V.bool false)), (7, (I o2))], [], 27⟩ :=
  rE rfl
theorem f18r4 (k : Nat) (a0 : T_api_Base) (a1 : Int) (a2 : Int) (o2 : Int) : RE k f18a4 f18o4 false ⟨[(1, (I a1)), (2, (I a2)), (3, (V.ptr 3 0 0)), (8, (I o2)), (15, (V.bool false))], [(3, ⟨false, 4, [(enc_T_api_Base a0)]⟩)], 27⟩ = ((bif (a1 != a2) then ((dbd_way k a0 a2).bind fun v3 => ((slices_Contains_int k v3 a1).bind fun v4 => (some (v4, 0)))) else (some (false, 0)))).map (fun (o : Bool × Int) => (⟨[(6, (V.bool o.1)), (7, (I o.2))], [], 27⟩ : St)) := by
  refine rg ?_
  refine ra 4 4 ⟨[(1, (I a1)), (2, (I a2)), (3, (V.ptr 3 0 0)), (8, (I o2)), (15, (V.bool false)), (17, (I a1)), (18, (I a2)), (19, (V.bool (a1 != a2))), (20, (V.bool (a1 != a2)))], [(3, ⟨false, 4, [(enc_T_api_Base a0)]⟩)], 27⟩ rfl rfl rfl ?_
  refine bifE (c := (a1 != a2)) (fun hc => ?_) fun hc => ?_
  · rw [hc]
    refine ra 2 6 ⟨[(1, (I a1)), (2, (I a2)), (3, (V.ptr 3 0 0)), (8, (I o2)), (15, (V.bool false)), (17, (I a1)), (18, (I a2)), (19, (V.bool true)), (20, (V.bool true)), (21, (enc_T_api_Base a0)), (22, (I a2))], [(3, ⟨false, 4, [(enc_T_api_Base a0)]⟩)], 27⟩ rfl rfl rfl ?_
    refine Eq.trans (reg_pure (x := (dbd_way k a0 a2)) (w := fun v3 => (sI v3)) rfl rfl rfl rfl (p_call rfl rfl rfl rfl rfl (dbd_way_ok k a0 a2) (.inl rfl))) ?_
    refine bindE (fun v3 => ?_)
    refine ba 1 8 ⟨[(1, (I a1)), (2, (I a2)), (3, (V.ptr 3 0 0)), (8, (I o2)), (15, (V.bool false)), (17, (I a1)), (18, (I a2)), (19, (V.bool true)), (20, (V.bool true)), (21, (enc_T_api_Base a0)), (22, (I a2)), (23, (sI v3)), (24, (I a1))], [(3, ⟨false, 4, [(enc_T_api_Base a0)]⟩)], 27⟩ rfl rfl rfl ?_
    refine Eq.trans (reg_pure (x := (slices_Contains_int k v3 a1)) (w := fun v4 => (V.bool v4)) rfl rfl rfl rfl (p_call rfl rfl rfl rfl rfl (slices_Contains_int_ok k v3 a1) (.inl rfl))) ?_
    refine bindE (fun v4 => ?_)
    exact bind_end rfl
  · rw [hc]
    exact reg_end rfl
theorem dbd_IsAbove_ok (k : Nat) (a0 : T_api_Base) (a1 : Int) (a2 : Int) : EV k 18 [(enc_T_api_Base a0), (I a1), (I a2)] = (dbd_IsAbove k a0 a1 a2).map dbd_IsAbove_fin := by
  cases k with
  | zero => rfl
  | succ k =>
    unfold dbd_IsAbove
    refine Eq.trans (evF_succ (c := f18c) (N := 27) (regs := f18n) rfl Go.Proofs.Try.func18 rfl (by decide) rfl rfl rfl) ?_
    refine Eq.trans (k_region0 rfl (f18r0 k a0 a1 a2)) ?_
    refine Eq.trans k_assoc ?_
    refine Eq.trans (k_region rfl (f18r1 k a0 a1 a2)) ?_
    refine bindE (fun o2 => ?_)
    refine Eq.trans k_assoc ?_
    refine Eq.trans (k_region0 rfl (f18r2 k a0 a1 a2 o2)) ?_
    refine Eq.trans (k_cond (t := (o2 != 0)) rfl) ?_
    refine bifE2 (fun hc => ?_) fun hc => ?_
    · rw [hc]
      refine Eq.trans k_assoc ?_
      refine Eq.trans (k_region0 rfl (f18r3 k a0 a1 a2 o2)) ?_
      refine Eq.trans k_ret ?_
      rfl
    · rw [hc]
      refine Eq.trans k_skip ?_
      refine Eq.trans (k_region rfl (f18r4 k a0 a1 a2 o2)) ?_
      refine bindE (fun o5 => ?_)
      refine Eq.trans k_lret ?_
      rfl
def ref11_IsAbove_fin : (Bool × Int) → V × List V := fun r => (.tup [(V.bool r.1), (I r.2)], [])
theorem f19r0 (k : Nat) (a0 : T_api_Base) (a1 : Int) (a2 : Int) : RE k f19a0 f19o0 false ⟨[(0, (enc_T_api_Base a0)), (1, (I a1)), (2, (I a2))], [], 21⟩ = some ⟨[(1, (I a1)), (2, (I a2)), (3, (V.ptr 3 0 0))], [(3, ⟨false, 4, [(enc_T_api_Base a0)]⟩)], 21⟩ :=
  rE rfl
theorem f19r1 (k : Nat) (a0 : T_api_Base) (a1 : Int) (a2 : Int) : RE k f19a1 f19o1 false ⟨[(1, (I a1)), (2, (I a2)), (3, (V.ptr 3 0 0))], [(3, ⟨false, 4, [(enc_T_api_Base a0)]⟩)], 21⟩ = ((ref11_asked k a0 ([a1, a2] : List Int))).map (fun (o : Int) => (⟨[(1, (I a1)), (2, (I a2)), (3, (V.ptr 3 0 0)), (8, (I o))], [(3, ⟨false, 4, [(enc_T_api_Base a0)]⟩)], 21⟩ : St)) := by
  refine rg ?_
  refine ra 4 4 ⟨[(1, (I a1)), (2, (I a2)), (3, (V.ptr 3 0 0)), (9, (enc_T_api_Base a0)), (10, (I a1)), (11, (I a2)), (12, (sI (([a1, a2] : List Int))))], [(3, ⟨false, 4, [(enc_T_api_Base a0)]⟩)], 21⟩ rfl rfl rfl ?_
  refine Eq.trans (reg_pure (x := (ref11_asked k a0 ([a1, a2] : List Int))) (w := fun v1 => (I v1)) rfl rfl rfl rfl (p_call rfl rfl rfl rfl rfl (ref11_asked_ok k a0 ([a1, a2] : List Int)) (.inl rfl))) ?_
  refine bind_self (fun v1 => ?_)
  exact bind_end rfl
theorem f19r2 (k : Nat) (a0 : T_api_Base) (a1 : Int) (a2 : Int) (o2 : Int) : RE k f19a2 f19o2 false ⟨[(1, (I a1)), (2, (I a2)), (3, (V.ptr 3 0 0)), (8, (I o2))], [(3, ⟨false, 4, [(enc_T_api_Base a0)]⟩)], 21⟩ = some ⟨[(1, (I a1)), (2, (I a2)), (3, (V.ptr 3 0 0)), (8, (I o2)), (15, (V.bool (o2 != 0)))], [(3, ⟨false, 4, [(enc_T_api_Base a0)]⟩)], 21⟩ :=
  rE rfl
theorem f19r3 (k : Nat) (a0 : T_api_Base) (a1 : Int) (a2 : Int) (o2 : Int) : RE k f19a3 f19o3 false ⟨[(1, (I a1)), (2, (I a2)), (3, (V.ptr 3 0 0)), (8, (I o2)), (15, (V.bool true))], [(3, ⟨false, 4, [(enc_T_api_Base a0)]⟩)], 21⟩ = some ⟨[(6, (V.bool false)), (7, (I o2))], [], 21⟩ :=
  rE rfl
theorem f19r4 (k : Nat) (a0 : T_api_Base) (a1 : Int) (a2 : Int) (o2 : Int) : RE k f19a4 f19o4 false ⟨[(1, (I a1)), (2, (I a2)), (3, (V.ptr 3 0 0)), (8, (I o2)), (15, (V.bool false))], [(3, ⟨false, 4, [(enc_T_api_Base a0)]⟩)], 21⟩ = (((ref11_above k a0 a1 a2).bind fun v3 => (some (v3, 0)))).map (fun (o : Bool × Int) => (⟨[(6, (V.bool o.1)), (7, (I o.2))], [], 21⟩ : St)) := by
  refine rg ?_
  refine ra 3 3 ⟨[(1, (I a1)), (2, (I a2)), (3, (V.ptr 3 0 0)), (8, (I o2)), (15, (V.bool false)), (17, (enc_T_api_Base a0)), (18, (I a1)), (19, (I a2))], [(3, ⟨false, 4, [(enc_T_api_Base a0)]⟩)], 21⟩ rfl rfl rfl ?_
  refine Eq.trans (reg_pure (x := (ref11_above k a0 a1 a2)) (w := fun v3 => (V.bool v3)) rfl rfl rfl rfl (p_call rfl rfl rfl rfl rfl (ref11_above_ok k a0 a1 a2) (.inl rfl))) ?_
  refine bindE (fun v3 => ?_)
  exact bind_end rfl
theorem ref11_IsAbove_ok (k : Nat) (a0 : T_api_Base) (a1 : Int) (a2 : Int) : EV k 19 [(enc_T_api_Base a0), (I a1), (I a2)] = (ref11_IsAbove k a0 a1 a2).map ref11_IsAbove_fin := by
  cases k with
  | zero => rfl
  | succ k =>
    unfold ref11_IsAbove
    refine Eq.trans (evF_succ (c := f19c) (N := 21) (regs := f19n) rfl Go.Proofs.Try.func19 rfl (by decide) rfl rfl rfl) ?_
    refine Eq.trans (k_region0 rfl (f19r0 k a0 a1 a2)) ?_
    refine Eq.trans k_assoc ?_
    refine Eq.trans (k_region rfl (f19r1 k a0 a1 a2)) ?_
    refine bindE (fun o2 => ?_)
    refine Eq.trans k_assoc ?_
    refine Eq.trans (k_region0 rfl (f19r2 k a0 a1 a2 o2)) ?_
    refine Eq.trans (k_cond (t := (o2 != 0)) rfl) ?_
    refine bifE2 (fun hc => ?_) fun hc => ?_
    · rw [hc]
      refine Eq.trans k_assoc ?_
      refine Eq.trans (k_region0 rfl (f19r3 k a0 a1 a2 o2)) ?_
      refine Eq.trans k_ret ?_
      rfl
    · rw [hc]
      refine Eq.trans k_skip ?_
      refine Eq.trans (k_region rfl (f19r4 k a0 a1 a2 o2)) ?_
      refine bindE (fun o4 => ?_)
      refine Eq.trans k_lret ?_
      rfl
def law11_DbdWays_fin : Bool → V × List V := fun r => ((V.bool r), [])
theorem f3r0 (k : Nat) (a0 : T_api_Base) (a1 : Int) (a2 : Int) : RE k f3a0 f3o0 false ⟨[(0, (enc_T_api_Base a0)), (1, (I a1)), (2, (I a2))], [], 126⟩ = some ⟨[(1, (I a1)), (2, (I a2)), (3, (V.ptr 3 0 0))], [(3, ⟨false, 4, [(enc_T_api_Base a0)]⟩)], 126⟩ :=
  rE rfl
theorem f3r1 (k : Nat) (a0 : T_api_Base) (a1 : Int) (a2 : Int) : RE k f3a1 f3o1 false ⟨[(1, (I a1)), (2, (I a2)), (3, (V.ptr 3 0 0))], [(3, ⟨false, 4, [(enc_T_api_Base a0)]⟩)], 126⟩ = (((law11_Small k a0).bind fun v1 => (some ((!v1))))).map (fun (o : Bool) => (⟨[(1, (I a1)), (2, (I a2)), (3, (V.ptr 3 0 0)), (17, (V.bool o))], [(3, ⟨false, 4, [(enc_T_api_Base a0)]⟩)], 126⟩ : St)) := by
  refine rg ?_
  refine ra 1 1 ⟨[(1, (I a1)), (2, (I a2)), (3, (V.ptr 3 0 0)), (15, (enc_T_api_Base a0))], [(3, ⟨false, 4, [(enc_T_api_Base a0)]⟩)], 126⟩ rfl rfl rfl ?_
  refine Eq.trans (reg_pure (x := (law11_Small k a0)) (w := fun v1 => (V.bool v1)) rfl rfl rfl rfl (p_call rfl rfl rfl rfl rfl (law11_Small_ok k a0) (.inl rfl))) ?_
  refine bindE (fun v1 => ?_)
  exact bind_end rfl
theorem f3r2 (k : Nat) (a0 : T_api_Base) (a1 : Int) (a2 : Int) : RE k f3a2 f3o2 false ⟨[(1, (I a1)), (2, (I a2)), (3, (V.ptr 3 0 0)), (17, (V.bool true))], [(3, ⟨false, 4, [(enc_T_api_Base a0)]⟩)], 126⟩ = ((law11_First k)).map (fun (o : Bool) => (⟨[(6, (V.bool o))], [], 126⟩ : St)) := by
  refine rg ?_
  refine Eq.trans (reg_pure (x := (law11_First k)) (w := fun v3 => (V.bool v3)) rfl rfl rfl rfl (p_call rfl rfl rfl rfl rfl (law11_First_ok k) (.inl rfl))) ?_
  refine bind_self (fun v3 => ?_)
  exact bind_end rfl
theorem f3r3 (k : Nat) (a0 : T_api_Base) (a1 : Int) (a2 : Int) : RE k f3a3 f3o3 false ⟨[(1, (I a1)), (2, (I a2)), (3, (V.ptr 3 0 0)), (17, (V.bool false))], [(3, ⟨false, 4, [(enc_T_api_Base a0)]⟩)], 126⟩ = (((dbd_Way k a0 a2).bind fun v5 => (some (v5.1, v5.2)))).map (fun (o : (List Int) × Int) => (⟨[(1, (I a1)), (2, (I a2)), (3, (V.ptr 3 0 0)), (7, (sI (o.1))), (8, (I o.2))], [(3, ⟨false, 4, [(enc_T_api_Base a0)]⟩)], 126⟩ : St)) := by
  refine rg ?_
  refine ra 2 2 ⟨[(1, (I a1)), (2, (I a2)), (3, (V.ptr 3 0 0)), (17, (V.bool false)), (20, (enc_T_api_Base a0)), (21, (I a2))], [(3, ⟨false, 4, [(enc_T_api_Base a0)]⟩)], 126⟩ rfl rfl rfl ?_
  refine Eq.trans (reg_pure (x := (dbd_Way k a0 a2)) (w := fun v5 => (V.tup [(sI (v5.1)), (I v5.2)])) rfl rfl rfl rfl (p_call rfl rfl rfl rfl rfl (dbd_Way_ok k a0 a2) (.inl rfl))) ?_
  refine bindE (fun v5 => ?_)
  exact bind_end rfl
theorem f3r4 (k : Nat) (a0 : T_api_Base) (a1 : Int) (a2 : Int) (o6 : (List Int) × Int) : RE k f3a4 f3o4 false ⟨[(1, (I a1)), (2, (I a2)), (3, (V.ptr 3 0 0)), (7, (sI (o6.1))), (8, (I o6.2))], [(3, ⟨false, 4, [(enc_T_api_Base a0)]⟩)], 126⟩ = (((ref11_Way k a0 a2).bind fun v7 => (some (v7.1, v7.2)))).map (fun (o : (List Int) × Int) => (⟨[(1, (I a1)), (2, (I a2)), (3, (V.ptr 3 0 0)), (7, (sI (o6.1))), (8, (I o6.2)), (9, (sI (o.1))), (10, (I o.2))], [(3, ⟨false, 4, [(enc_T_api_Base a0)]⟩)], 126⟩ : St)) := by
  refine rg ?_
  refine ra 2 2 ⟨[(1, (I a1)), (2, (I a2)), (3, (V.ptr 3 0 0)), (7, (sI (o6.1))), (8, (I o6.2)), (26, (enc_T_api_Base a0)), (27, (I a2))], [(3, ⟨false, 4, [(enc_T_api_Base a0)]⟩)], 126⟩ rfl rfl rfl ?_
  refine Eq.trans (reg_pure (x := (ref11_Way k a0 a2)) (w := fun v7 => (V.tup [(sI (v7.1)), (I v7.2)])) rfl rfl rfl rfl (p_call rfl rfl rfl rfl rfl (ref11_Way_ok k a0 a2) (.inl rfl))) ?_
  refine bindE (fun v7 => ?_)
  exact bind_end rfl
theorem f3r5 (k : Nat) (a0 : T_api_Base) (a1 : Int) (a2 : Int) (o6 : (List Int) × Int) (o8 : (List Int) × Int) : RE k f3a5 f3o5 false ⟨[(1, (I a1)), (2, (I a2)), (3, (V.ptr 3 0 0)), (7, (sI (o6.1))), (8, (I o6.2)), (9, (sI (o8.1))), (10, (I o8.2))], [(3, ⟨false, 4, [(enc_T_api_Base a0)]⟩)], 126⟩ = (((ref01_SameInts k o6.1 o8.1).bind fun v9 => (bif (!v9) then (some (true)) else (bif (o6.2 != o8.2) then (some (true)) else (bif (o6.2 == 0) then ((idx o6.1 (Go.IntKind.wrap .i64 ((o6.1.length : Int) - 1))).bind fun v10 => (some ((v10 != a2)))) else (some (false))))))).map (fun (o : Bool) => (⟨[(1, (I a1)), (2, (I a2)), (3, (V.ptr 3 0 0)), (7, (sI (o6.1))), (53, (V.bool o))], [(3, ⟨false, 4, [(enc_T_api_Base a0)]⟩)], 126⟩ : St)) := by
  refine rg ?_
  refine ra 2 2 ⟨[(1, (I a1)), (2, (I a2)), (3, (V.ptr 3 0 0)), (7, (sI (o6.1))), (8, (I o6.2)), (9, (sI (o8.1))), (10, (I o8.2)), (31, (sI (o6.1))), (32, (sI (o8.1)))], [(3, ⟨false, 4, [(enc_T_api_Base a0)]⟩)], 126⟩ rfl rfl rfl ?_
  refine Eq.trans (reg_pure (x := (ref01_SameInts k o6.1 o8.1)) (w := fun v9 => (V.bool v9)) rfl rfl rfl rfl (p_call rfl rfl rfl rfl rfl (ref01_SameInts_ok k o6.1 o8.1) (.inl rfl))) ?_
  refine bindE (fun v9 => ?_)
  refine ba 2 5 ⟨[(1, (I a1)), (2, (I a2)), (3, (V.ptr 3 0 0)), (7, (sI (o6.1))), (8, (I o6.2)), (9, (sI (o8.1))), (10, (I o8.2)), (31, (sI (o6.1))), (32, (sI (o8.1))), (33, (V.bool v9)), (34, (V.bool (!v9))), (35, (V.bool (!v9)))], [(3, ⟨false, 4, [(enc_T_api_Base a0)]⟩)], 126⟩ rfl rfl rfl ?_
  refine bifE (c := (!v9)) (fun hc => ?_) fun hc => ?_
  · rw [hc]
    exact reg_end rfl
  · rw [hc]
    refine ra 5 10 ⟨[(1, (I a1)), (2, (I a2)), (3, (V.ptr 3 0 0)), (7, (sI (o6.1))), (8, (I o6.2)), (9, (sI (o8.1))), (10, (I o8.2)), (31, (sI (o6.1))), (32, (sI (o8.1))), (33, (V.bool v9)), (34, (V.bool false)), (35, (V.bool false)), (36, (I o6.2)), (37, (I o8.2)), (38, (V.bool (o6.2 != o8.2))), (39, (V.bool (o6.2 != o8.2))), (40, (V.bool (o6.2 != o8.2)))], [(3, ⟨false, 4, [(enc_T_api_Base a0)]⟩)], 126⟩ rfl rfl rfl ?_
    refine bifE (c := (o6.2 != o8.2)) (fun hc => ?_) fun hc => ?_
    · rw [hc]
      exact reg_end rfl
    · rw [hc]
      refine ra 3 13 ⟨[(1, (I a1)), (2, (I a2)), (3, (V.ptr 3 0 0)), (7, (sI (o6.1))), (8, (I o6.2)), (9, (sI (o8.1))), (10, (I o8.2)), (31, (sI (o6.1))), (32, (sI (o8.1))), (33, (V.bool v9)), (34, (V.bool false)), (35, (V.bool false)), (36, (I o6.2)), (37, (I o8.2)), (38, (V.bool false)), (39, (V.bool false)), (40, (V.bool false)), (41, (I o6.2)), (42, (V.bool (o6.2 == 0))), (43, (V.bool (o6.2 == 0)))], [(3, ⟨false, 4, [(enc_T_api_Base a0)]⟩)], 126⟩ rfl rfl rfl ?_
      refine bifE (c := (o6.2 == 0)) (fun hc => ?_) fun hc => ?_
      · rw [hc]
        refine ra 2 15 ⟨[(1, (I a1)), (2, (I a2)), (3, (V.ptr 3 0 0)), (7, (sI (o6.1))), (8, (I o6.2)), (9, (sI (o8.1))), (10, (I o8.2)), (31, (sI (o6.1))), (32, (sI (o8.1))), (33, (V.bool v9)), (34, (V.bool false)), (35, (V.bool false)), (36, (I o6.2)), (37, (I o8.2)), (38, (V.bool false)), (39, (V.bool false)), (40, (V.bool false)), (41, (I o6.2)), (42, (V.bool true)), (43, (V.bool true)), (44, (sI (o6.1))), (45, (sI (o6.1)))], [(3, ⟨false, 4, [(enc_T_api_Base a0)]⟩)], 126⟩ rfl rfl rfl ?_
        refine Eq.trans (reg_pure (x := some ()) (w := fun _ => (I (o6.1.length : Int))) rfl rfl rfl rfl (p_len (e := I) rfl rfl rfl rfl rfl rfl Go.Proofs.Try.underlying28)) ?_
        refine Eq.trans some_bind ?_
        refine ba 1 17 ⟨[(1, (I a1)), (2, (I a2)), (3, (V.ptr 3 0 0)), (7, (sI (o6.1))), (8, (I o6.2)), (9, (sI (o8.1))), (10, (I o8.2)), (31, (sI (o6.1))), (32, (sI (o8.1))), (33, (V.bool v9)), (34, (V.bool false)), (35, (V.bool false)), (36, (I o6.2)), (37, (I o8.2)), (38, (V.bool false)), (39, (V.bool false)), (40, (V.bool false)), (41, (I o6.2)), (42, (V.bool true)), (43, (V.bool true)), (44, (sI (o6.1))), (45, (sI (o6.1))), (46, (I (o6.1.length : Int))), (47, (I (Go.IntKind.wrap .i64 ((o6.1.length : Int) - 1))))], [(3, ⟨false, 4, [(enc_T_api_Base a0)]⟩)], 126⟩ rfl rfl rfl ?_
        refine Eq.trans (reg_pure (x := (idx o6.1 (Go.IntKind.wrap .i64 ((o6.1.length : Int) - 1)))) (w := fun v10 => (V.pro (I v10))) rfl rfl rfl rfl (p_index (e := I) rfl rfl rfl Go.Proofs.Try.underlying28 rfl (by decide))) ?_
        refine bindE (fun v10 => ?_)
        exact bind_end rfl
      · rw [hc]
        exact reg_end rfl
theorem f3r6 (k : Nat) (a0 : T_api_Base) (a1 : Int) (a2 : Int) (o6 : (List Int) × Int) : RE k f3a6 f3o6 false ⟨[(1, (I a1)), (2, (I a2)), (3, (V.ptr 3 0 0)), (7, (sI (o6.1))), (53, (V.bool true))], [(3, ⟨false, 4, [(enc_T_api_Base a0)]⟩)], 126⟩ = some ⟨[(6, (V.bool false))], [], 126⟩ :=
  rE rfl
theorem f3r7 (k : Nat) (a0 : T_api_Base) (a1 : Int) (a2 : Int) (o6 : (List Int) × Int) : RE k f3a7 f3o7 false ⟨[(1, (I a1)), (2, (I a2)), (3, (V.ptr 3 0 0)), (7, (sI (o6.1))), (53, (V.bool false))], [(3, ⟨false, 4, [(enc_T_api_Base a0)]⟩)], 126⟩ = (((dbd_Depth k a0 a2).bind fun v12 => (some (v12.2, v12.1)))).map (fun (o : Int × Int) => (⟨[(1, (I a1)), (2, (I a2)), (3, (V.ptr 3 0 0)), (7, (sI (o6.1))), (8, (I o.1)), (11, (I o.2))], [(3, ⟨false, 4, [(enc_T_api_Base a0)]⟩)], 126⟩ : St)) := by
  refine rg ?_
  refine ra 2 2 ⟨[(1, (I a1)), (2, (I a2)), (3, (V.ptr 3 0 0)), (7, (sI (o6.1))), (53, (V.bool false)), (55, (enc_T_api_Base a0)), (56, (I a2))], [(3, ⟨false, 4, [(enc_T_api_Base a0)]⟩)], 126⟩ rfl rfl rfl ?_
  refine Eq.trans (reg_pure (x := (dbd_Depth k a0 a2)) (w := fun v12 => (V.tup [(I v12.1), (I v12.2)])) rfl rfl rfl rfl (p_call rfl rfl rfl rfl rfl (dbd_Depth_ok k a0 a2) (.inl rfl))) ?_
  refine bindE (fun v12 => ?_)
  exact bind_end rfl
theorem f3r8 (k : Nat) (a0 : T_api_Base) (a1 : Int) (a2 : Int) (o6 : (List Int) × Int) (o13 : Int × Int) : RE k f3a8 f3o8 false ⟨[(1, (I a1)), (2, (I a2)), (3, (V.ptr 3 0 0)), (7, (sI (o6.1))), (8, (I o13.1)), (11, (I o13.2))], [(3, ⟨false, 4, [(enc_T_api_Base a0)]⟩)], 126⟩ = (((ref11_Depth k a0 a2).bind fun v14 => (some (v14.2, v14.1)))).map (fun (o : Int × Int) => (⟨[(1, (I a1)), (2, (I a2)), (3, (V.ptr 3 0 0)), (7, (sI (o6.1))), (8, (I o13.1)), (10, (I o.1)), (11, (I o13.2)), (12, (I o.2))], [(3, ⟨false, 4, [(enc_T_api_Base a0)]⟩)], 126⟩ : St)) := by
  refine rg ?_
  refine ra 2 2 ⟨[(1, (I a1)), (2, (I a2)), (3, (V.ptr 3 0 0)), (7, (sI (o6.1))), (8, (I o13.1)), (11, (I o13.2)), (61, (enc_T_api_Base a0)), (62, (I a2))], [(3, ⟨false, 4, [(enc_T_api_Base a0)]⟩)], 126⟩ rfl rfl rfl ?_
  refine Eq.trans (reg_pure (x := (ref11_Depth k a0 a2)) (w := fun v14 => (V.tup [(I v14.1), (I v14.2)])) rfl rfl rfl rfl (p_call rfl rfl rfl rfl rfl (ref11_Depth_ok k a0 a2) (.inl rfl))) ?_
  refine bindE (fun v14 => ?_)
  exact bind_end rfl
theorem f3r9 (k : Nat) (a0 : T_api_Base) (a1 : Int) (a2 : Int) (o6 : (List Int) × Int) (o13 : Int × Int) (o15 : Int × Int) : RE k f3a9 f3o9 false ⟨[(1, (I a1)), (2, (I a2)), (3, (V.ptr 3 0 0)), (7, (sI (o6.1))), (8, (I o13.1)), (10, (I o15.1)), (11, (I o13.2)), (12, (I o15.2))], [(3, ⟨false, 4, [(enc_T_api_Base a0)]⟩)], 126⟩ = ((bif (o13.2 != o15.2) then (some (true)) else (bif (o13.1 != o15.1) then (some (true)) else (some ((o13.2 != (o6.1.length : Int))))))).map (fun (o : Bool) => (⟨[(1, (I a1)), (2, (I a2)), (3, (V.ptr 3 0 0)), (79, (V.bool o))], [(3, ⟨false, 4, [(enc_T_api_Base a0)]⟩)], 126⟩ : St)) := by
  refine rg ?_
  refine ra 4 4 ⟨[(1, (I a1)), (2, (I a2)), (3, (V.ptr 3 0 0)), (7, (sI (o6.1))), (8, (I o13.1)), (10, (I o15.1)), (11, (I o13.2)), (12, (I o15.2)), (66, (I o13.2)), (67, (I o15.2)), (68, (V.bool (o13.2 != o15.2))), (69, (V.bool (o13.2 != o15.2)))], [(3, ⟨false, 4, [(enc_T_api_Base a0)]⟩)], 126⟩ rfl rfl rfl ?_
  refine bifE (c := (o13.2 != o15.2)) (fun hc => ?_) fun hc => ?_
  · rw [hc]
    exact reg_end rfl
  · rw [hc]
    refine ra 5 9 ⟨[(1, (I a1)), (2, (I a2)), (3, (V.ptr 3 0 0)), (7, (sI (o6.1))), (8, (I o13.1)), (10, (I o15.1)), (11, (I o13.2)), (12, (I o15.2)), (66, (I o13.2)), (67, (I o15.2)), (68, (V.bool false)), (69, (V.bool false)), (70, (I o13.1)), (71, (I o15.1)), (72, (V.bool (o13.1 != o15.1))), (73, (V.bool (o13.1 != o15.1))), (74, (V.bool (o13.1 != o15.1)))], [(3, ⟨false, 4, [(enc_T_api_Base a0)]⟩)], 126⟩ rfl rfl rfl ?_
    refine bifE (c := (o13.1 != o15.1)) (fun hc => ?_) fun hc => ?_
    · rw [hc]
      exact reg_end rfl
    · rw [hc]
      refine ra 2 11 ⟨[(1, (I a1)), (2, (I a2)), (3, (V.ptr 3 0 0)), (7, (sI (o6.1))), (8, (I o13.1)), (10, (I o15.1)), (11, (I o13.2)), (12, (I o15.2)), (66, (I o13.2)), (67, (I o15.2)), (68, (V.bool false)), (69, (V.bool false)), (70, (I o13.1)), (71, (I o15.1)), (72, (V.bool false)), (73, (V.bool false)), (74, (V.bool false)), (75, (I o13.2)), (76, (sI (o6.1)))], [(3, ⟨false, 4, [(enc_T_api_Base a0)]⟩)], 126⟩ rfl rfl rfl ?_
      refine Eq.trans (reg_pure (x := some ()) (w := fun _ => (I (o6.1.length : Int))) rfl rfl rfl rfl (p_len (e := I) rfl rfl rfl rfl rfl rfl Go.Proofs.Try.underlying28)) ?_
      refine Eq.trans some_bind ?_
      exact bind_end rfl
theorem f3r10 (k : Nat) (a0 : T_api_Base) (a1 : Int) (a2 : Int) : RE k f3a10 f3o10 false ⟨[(1, (I a1)), (2, (I a2)), (3, (V.ptr 3 0 0)), (79, (V.bool true))], [(3, ⟨false, 4, [(enc_T_api_Base a0)]⟩)], 126⟩ = some ⟨[(6, (V.bool false))], [], 126⟩ :=
  rE rfl
theorem f3r11 (k : Nat) (a0 : T_api_Base) (a1 : Int) (a2 : Int) : RE k f3a11 f3o11 false ⟨[(1, (I a1)), (2, (I a2)), (3, (V.ptr 3 0 0)), (79, (V.bool false))], [(3, ⟨false, 4, [(enc_T_api_Base a0)]⟩)], 126⟩ = (((dbd_Children k a0 a2).bind fun v17 => (some (v17.1, v17.2)))).map (fun (o : (List Int) × Int) => (⟨[(1, (I a1)), (2, (I a2)), (3, (V.ptr 3 0 0)), (7, (sI (o.1))), (8, (I o.2))], [(3, ⟨false, 4, [(enc_T_api_Base a0)]⟩)], 126⟩ : St)) := by
  refine rg ?_
  refine ra 2 2 ⟨[(1, (I a1)), (2, (I a2)), (3, (V.ptr 3 0 0)), (79, (V.bool false)), (81, (enc_T_api_Base a0)), (82, (I a2))], [(3, ⟨false, 4, [(enc_T_api_Base a0)]⟩)], 126⟩ rfl rfl rfl ?_
  refine Eq.trans (reg_pure (x := (dbd_Children k a0 a2)) (w := fun v17 => (V.tup [(sI (v17.1)), (I v17.2)])) rfl rfl rfl rfl (p_call rfl rfl rfl rfl rfl (dbd_Children_ok k a0 a2) (.inl rfl))) ?_
  refine bindE (fun v17 => ?_)
  exact bind_end rfl
theorem f3r12 (k : Nat) (a0 : T_api_Base) (a1 : Int) (a2 : Int) (o18 : (List Int) × Int) : RE k f3a12 f3o12 false ⟨[(1, (I a1)), (2, (I a2)), (3, (V.ptr 3 0 0)), (7, (sI (o18.1))), (8, (I o18.2))], [(3, ⟨false, 4, [(enc_T_api_Base a0)]⟩)], 126⟩ = (((ref11_Children k a0 a2).bind fun v19 => (some (v19.1, v19.2)))).map (fun (o : (List Int) × Int) => (⟨[(1, (I a1)), (2, (I a2)), (3, (V.ptr 3 0 0)), (7, (sI (o18.1))), (8, (I o18.2)), (9, (sI (o.1))), (10, (I o.2))], [(3, ⟨false, 4, [(enc_T_api_Base a0)]⟩)], 126⟩ : St)) := by
  refine rg ?_
  refine ra 2 2 ⟨[(1, (I a1)), (2, (I a2)), (3, (V.ptr 3 0 0)), (7, (sI (o18.1))), (8, (I o18.2)), (87, (enc_T_api_Base a0)), (88, (I a2))], [(3, ⟨false, 4, [(enc_T_api_Base a0)]⟩)], 126⟩ rfl rfl rfl ?_
  refine Eq.trans (reg_pure (x := (ref11_Children k a0 a2)) (w := fun v19 => (V.tup [(sI (v19.1)), (I v19.2)])) rfl rfl rfl rfl (p_call rfl rfl rfl rfl rfl (ref11_Children_ok k a0 a2) (.inl rfl))) ?_
  refine bindE (fun v19 => ?_)
  exact bind_end rfl
theorem f3r13 (k : Nat) (a0 : T_api_Base) (a1 : Int) (a2 : Int) (o18 : (List Int) × Int) (o20 : (List Int) × Int) : RE k f3a13 f3o13 false ⟨[(1, (I a1)), (2, (I a2)), (3, (V.ptr 3 0 0)), (7, (sI (o18.1))), (8, (I o18.2)), (9, (sI (o20.1))), (10, (I o20.2))], [(3, ⟨false, 4, [(enc_T_api_Base a0)]⟩)], 126⟩ = (((ref01_SameInts k o18.1 o20.1).bind fun v21 => (bif (!v21) then (some (true)) else (some ((o18.2 != o20.2)))))).map (fun (o : Bool) => (⟨[(1, (I a1)), (2, (I a2)), (3, (V.ptr 3 0 0)), (100, (V.bool o))], [(3, ⟨false, 4, [(enc_T_api_Base a0)]⟩)], 126⟩ : St)) := by
  refine rg ?_
  refine ra 2 2 ⟨[(1, (I a1)), (2, (I a2)), (3, (V.ptr 3 0 0)), (7, (sI (o18.1))), (8, (I o18.2)), (9, (sI (o20.1))), (10, (I o20.2)), (92, (sI (o18.1))), (93, (sI (o20.1)))], [(3, ⟨false, 4, [(enc_T_api_Base a0)]⟩)], 126⟩ rfl rfl rfl ?_
  refine Eq.trans (reg_pure (x := (ref01_SameInts k o18.1 o20.1)) (w := fun v21 => (V.bool v21)) rfl rfl rfl rfl (p_call rfl rfl rfl rfl rfl (ref01_SameInts_ok k o18.1 o20.1) (.inl rfl))) ?_
  refine bindE (fun v21 => ?_)
  refine ba 2 5 ⟨[(1, (I a1)), (2, (I a2)), (3, (V.ptr 3 0 0)), (7, (sI (o18.1))), (8, (I o18.2)), (9, (sI (o20.1))), (10, (I o20.2)), (92, (sI (o18.1))), (93, (sI (o20.1))), (94, (V.bool v21)), (95, (V.bool (!v21))), (96, (V.bool (!v21)))], [(3, ⟨false, 4, [(enc_T_api_Base a0)]⟩)], 126⟩ rfl rfl rfl ?_
  refine bifE (c := (!v21)) (fun hc => ?_) fun hc => ?_
  · rw [hc]
    exact reg_end rfl
  · rw [hc]
    exact reg_end rfl
theorem f3r14 (k : Nat) (a0 : T_api_Base) (a1 : Int) (a2 : Int) : RE k f3a14 f3o14 false ⟨[(1, (I a1)), (2, (I a2)), (3, (V.ptr 3 0 0)), (100, (V.bool true))], [(3, ⟨false, 4, [(enc_T_api_Base a0)]⟩)], 126⟩ = some ⟨[(6, (V.bool false))], [], 126⟩ :=
  rE rfl
theorem f3r15 (k : Nat) (a0 : T_api_Base) (a1 : Int) (a2 : Int) : RE k f3a15 f3o15 false ⟨[(1, (I a1)), (2, (I a2)), (3, (V.ptr 3 0 0)), (100, (V.bool false))], [(3, ⟨false, 4, [(enc_T_api_Base a0)]⟩)], 126⟩ = (((dbd_IsAbove k a0 a1 a2).bind fun v23 => (some (v23.2, v23.1)))).map (fun (o : Int × Bool) => (⟨[(1, (I a1)), (2, (I a2)), (3, (V.ptr 3 0 0)), (8, (I o.1)), (13, (V.bool o.2))], [(3, ⟨false, 4, [(enc_T_api_Base a0)]⟩)], 126⟩ : St)) := by
  refine rg ?_
  refine ra 3 3 ⟨[(1, (I a1)), (2, (I a2)), (3, (V.ptr 3 0 0)), (100, (V.bool false)), (102, (enc_T_api_Base a0)), (103, (I a1)), (104, (I a2))], [(3, ⟨false, 4, [(enc_T_api_Base a0)]⟩)], 126⟩ rfl rfl rfl ?_
  refine Eq.trans (reg_pure (x := (dbd_IsAbove k a0 a1 a2)) (w := fun v23 => (V.tup [(V.bool v23.1), (I v23.2)])) rfl rfl rfl rfl (p_call rfl rfl rfl rfl rfl (dbd_IsAbove_ok k a0 a1 a2) (.inl rfl))) ?_
  refine bindE (fun v23 => ?_)
  exact bind_end rfl
theorem f3r16 (k : Nat) (a0 : T_api_Base) (a1 : Int) (a2 : Int) (o24 : Int × Bool) : RE k f3a16 f3o16 false ⟨[(1, (I a1)), (2, (I a2)), (3, (V.ptr 3 0 0)), (8, (I o24.1)), (13, (V.bool o24.2))], [(3, ⟨false, 4, [(enc_T_api_Base a0)]⟩)], 126⟩ = (((ref11_IsAbove k a0 a1 a2).bind fun v25 => (some (v25.2, v25.1)))).map (fun (o : Int × Bool) => (⟨[(8, (I o24.1)), (10, (I o.1)), (13, (V.bool o24.2)), (14, (V.bool o.2))], [], 126⟩ : St)) := by
  refine rg ?_
  refine ra 3 3 ⟨[(1, (I a1)), (2, (I a2)), (3, (V.ptr 3 0 0)), (8, (I o24.1)), (13, (V.bool o24.2)), (109, (enc_T_api_Base a0)), (110, (I a1)), (111, (I a2))], [(3, ⟨false, 4, [(enc_T_api_Base a0)]⟩)], 126⟩ rfl rfl rfl ?_
  refine Eq.trans (reg_pure (x := (ref11_IsAbove k a0 a1 a2)) (w := fun v25 => (V.tup [(V.bool v25.1), (I v25.2)])) rfl rfl rfl rfl (p_call rfl rfl rfl rfl rfl (ref11_IsAbove_ok k a0 a1 a2) (.inl rfl))) ?_
  refine bindE (fun v25 => ?_)
  exact bind_end rfl
theorem f3r17 (k : Nat) (o24 : Int × Bool) (o26 : Int × Bool) : RE k f3a17 f3o17 false ⟨[(8, (I o24.1)), (10, (I o26.1)), (13, (V.bool o24.2)), (14, (V.bool o26.2))], [], 126⟩ = ((bif (o24.2 == o26.2) then (bif (o24.1 == o26.1) then (law11_First k) else (some (false))) else (some (false)))).map (fun (o : Bool) => (⟨[(6, (V.bool o))], [], 126⟩ : St)) := by
  refine rg ?_
  refine ra 4 4 ⟨[(8, (I o24.1)), (10, (I o26.1)), (13, (V.bool o24.2)), (14, (V.bool o26.2)), (115, (V.bool o24.2)), (116, (V.bool o26.2)), (117, (V.bool (o24.2 == o26.2))), (118, (V.bool (o24.2 == o26.2)))], [], 126⟩ rfl rfl rfl ?_
  refine bifE (c := (o24.2 == o26.2)) (fun hc => ?_) fun hc => ?_
  · rw [hc]
    refine ra 5 9 ⟨[(8, (I o24.1)), (10, (I o26.1)), (13, (V.bool o24.2)), (14, (V.bool o26.2)), (115, (V.bool o24.2)), (116, (V.bool o26.2)), (117, (V.bool true)), (118, (V.bool true)), (119, (I o24.1)), (120, (I o26.1)), (121, (V.bool (o24.1 == o26.1))), (122, (V.bool (o24.1 == o26.1))), (123, (V.bool (o24.1 == o26.1)))], [], 126⟩ rfl rfl rfl ?_
    refine bifE (c := (o24.1 == o26.1)) (fun hc => ?_) fun hc => ?_
    · rw [hc]
      refine Eq.trans (reg_pure (x := (law11_First k)) (w := fun v27 => (V.bool v27)) rfl rfl rfl rfl (p_call rfl rfl rfl rfl rfl (law11_First_ok k) (.inl rfl))) ?_
      refine bind_self (fun v27 => ?_)
      exact bind_end rfl
    · rw [hc]
      exact reg_end rfl
  · rw [hc]
    exact reg_end rfl
theorem law11_DbdWays_ok (k : Nat) (a0 : T_api_Base) (a1 : Int) (a2 : Int) : EV k 3 [(enc_T_api_Base a0), (I a1), (I a2)] = (law11_DbdWays k a0 a1 a2).map law11_DbdWays_fin := by
  cases k with
  | zero => rfl
  | succ k =>
    unfold law11_DbdWays
    refine Eq.trans (evF_succ (c := f3c) (N := 126) (regs := f3n) rfl Go.Proofs.Try.func3 rfl (by decide) rfl rfl rfl) ?_
    refine Eq.trans (k_region0 rfl (f3r0 k a0 a1 a2)) ?_
    refine Eq.trans k_assoc ?_
    refine Eq.trans (k_region rfl (f3r1 k a0 a1 a2)) ?_
    refine bindE (fun o2 => ?_)
    refine Eq.trans (k_cond (t := o2) rfl) ?_
    refine bifE2 (fun hc => ?_) fun hc => ?_
    · rw [hc]
      refine Eq.trans k_assoc ?_
      refine Eq.trans (k_region rfl (f3r2 k a0 a1 a2)) ?_
      refine bindE (fun o4 => ?_)
      refine Eq.trans k_ret ?_
      rfl
    · rw [hc]
      refine Eq.trans k_skip ?_
      refine Eq.trans (k_region rfl (f3r3 k a0 a1 a2)) ?_
      refine bindE (fun o6 => ?_)
      refine Eq.trans (k_region rfl (f3r4 k a0 a1 a2 o6)) ?_
      refine bindE (fun o8 => ?_)
      refine Eq.trans k_assoc ?_
      refine Eq.trans (k_region rfl (f3r5 k a0 a1 a2 o6 o8)) ?_
      refine bindE (fun o11 => ?_)
      refine Eq.trans (k_cond (t := o11) rfl) ?_
      refine bifE2 (fun hc => ?_) fun hc => ?_
      · rw [hc]
        refine Eq.trans k_assoc ?_
        refine Eq.trans (k_region0 rfl (f3r6 k a0 a1 a2 o6)) ?_
        refine Eq.trans k_ret ?_
        rfl
      · rw [hc]
        refine Eq.trans k_skip ?_
        refine Eq.trans (k_region rfl (f3r7 k a0 a1 a2 o6)) ?_
        refine bindE (fun o13 => ?_)
        refine Eq.trans (k_region rfl (f3r8 k a0 a1 a2 o6 o13)) ?_
        refine bindE (fun o15 => ?_)
        refine Eq.trans k_assoc ?_
        refine Eq.trans (k_region rfl (f3r9 k a0 a1 a2 o6 o13 o15)) ?_
        refine bindE (fun o16 => ?_)
        refine Eq.trans (k_cond (t := o16) rfl) ?_
        refine bifE2 (fun hc => ?_) fun hc => ?_
        · rw [hc]
          refine Eq.trans k_assoc ?_
          refine Eq.trans (k_region0 rfl (f3r10 k a0 a1 a2)) ?_
          refine Eq.trans k_ret ?_
          rfl
        · rw [hc]
          refine Eq.trans k_skip ?_
          refine Eq.trans (k_region rfl (f3r11 k a0 a1 a2)) ?_
          refine bindE (fun o18 => ?_)
          refine Eq.trans (k_region rfl (f3r12 k a0 a1 a2 o18)) ?_
          refine bindE (fun o20 => ?_)
          refine Eq.trans k_assoc ?_
          refine Eq.trans (k_region rfl (f3r13 k a0 a1 a2 o18 o20)) ?_
          refine bindE (fun o22 => ?_)
          refine Eq.trans (k_cond (t := o22) rfl) ?_
          refine bifE2 (fun hc => ?_) fun hc => ?_
          · rw [hc]
            refine Eq.trans k_assoc ?_
            refine Eq.trans (k_region0 rfl (f3r14 k a0 a1 a2)) ?_
            refine Eq.trans k_ret ?_
            rfl
          · rw [hc]
            refine Eq.trans k_skip ?_
            refine Eq.trans (k_region rfl (f3r15 k a0 a1 a2)) ?_
            refine bindE (fun o24 => ?_)
            refine Eq.trans (k_region rfl (f3r16 k a0 a1 a2 o24)) ?_
            refine bindE (fun o26 => ?_)
            refine Eq.trans (k_region rfl (f3r17 k o24 o26)) ?_
            refine bindE (fun o28 => ?_)
            refine Eq.trans k_lret ?_
            rfl
def dbd_Type_1_fin : Bool → V × List V := fun r => ((V.bool r), [])
theorem f46r0 (k : Nat) (a0 : T_api_Type) (a1 : Str) : RE k f46a0 f46o0 false ⟨[(0, (enc_T_api_Type a0)), (1, (V.pro (V.str a1)))], [], 8⟩ = some ⟨[(1, (V.pro (V.str a1))), (2, (V.ptr 2 0 0))], [(2, ⟨false, 8, [(enc_T_api_Type a0)]⟩)], 8⟩ :=
  rE rfl
theorem f46r1 (k : Nat) (a0 : T_api_Type) (a1 : Str) : RE k f46a1 f46o1 false ⟨[(1, (V.pro (V.str a1))), (2, (V.ptr 2 0 0))], [(2, ⟨false, 8, [(enc_T_api_Type a0)]⟩)], 8⟩ = some ⟨[(3, (V.bool (a0.fName == a1)))], [], 8⟩ :=
  rE rfl
theorem dbd_Type_1_ok (k : Nat) (a0 : T_api_Type) (a1 : Str) : EV k 46 [(enc_T_api_Type a0), (V.pro (V.str a1))] = (dbd_Type_1 k a0 a1).map dbd_Type_1_fin := by
  cases k with
  | zero => rfl
  | succ k =>
    unfold dbd_Type_1
    refine Eq.trans (evF_succ (c := f46c) (N := 8) (regs := f46n) rfl Go.Proofs.Try.func46 rfl (by decide) rfl rfl rfl) ?_
    refine Eq.trans (k_region0 rfl (f46r0 k a0 a1)) ?_
    refine Eq.trans (k_region0 rfl (f46r1 k a0 a1)) ?_
    refine Eq.trans k_lret ?_
    rfl
def dbd_index_fin : (Int × Int) → V × List V := fun r => (.tup [(I r.1), (I r.2)], [])
theorem f44r0 (k : Nat) (a0 : Int) : RE k f44a0 f44o0 false ⟨[(0, (I a0))], [], 7⟩ = some ⟨[(0, (I a0))], [], 7⟩ :=
  rE rfl
theorem f44r1 (k : Nat) (a0 : Int) : RE k f44a1 f44o1 false ⟨[(0, (I a0))], [], 7⟩ = some ⟨[(0, (I a0)), (5, (V.bool (decide (a0 < 0))))], [], 7⟩ :=
  rE rfl
theorem f44r2 (k : Nat) (a0 : Int) : RE k f44a2 f44o2 false ⟨[(0, (I a0)), (5, (V.bool true))], [], 7⟩ = some ⟨[(2, (I 0)), (3, (I 5))], [], 7⟩ :=
  rE rfl
theorem f44r3 (k : Nat) (a0 : Int) : RE k f44a3 f44o3 false ⟨[(0, (I a0)), (5, (V.bool false))], [], 7⟩ = some ⟨[(2, (I a0)), (3, (I 0))], [], 7⟩ :=
  rE rfl
theorem dbd_index_ok (k : Nat) (a0 : Int) : EV k 44 [(I a0)] = (dbd_index k a0).map dbd_index_fin := by
  cases k with
  | zero => rfl
  | succ k =>
    unfold dbd_index
    refine Eq.trans (evF_succ (c := f44c) (N := 7) (regs := f44n) rfl Go.Proofs.Try.func44 rfl (by decide) rfl rfl rfl) ?_
    refine Eq.trans (k_region0 rfl (f44r0 k a0)) ?_
    refine Eq.trans k_assoc ?_
    refine Eq.trans (k_region0 rfl (f44r1 k a0)) ?_
    refine Eq.trans (k_cond (t := (decide (a0 < 0))) rfl) ?_
    refine bifE2 (fun hc => ?_) fun hc => ?_
    · rw [hc]
      refine Eq.trans k_assoc ?_
      refine Eq.trans (k_region0 rfl (f44r2 k a0)) ?_
      refine Eq.trans k_ret ?_
      rfl
    · rw [hc]
      refine Eq.trans k_skip ?_
      refine Eq.trans (k_region0 rfl (f44r3 k a0)) ?_
      refine Eq.trans k_lret ?_
      rfl
def dbd_Type_fin : (Int × Int) → V × List V := fun r => (.tup [(I r.1), (I r.2)], [])
theorem f20r0 (k : Nat) (a0 : T_api_Base) (a1 : Str) : RE k f20a0 f20o0 false ⟨[(0, (enc_T_api_Base a0)), (1, (V.str a1))], [], 19⟩ = some ⟨[(2, (V.ptr 2 0 0)), (3, (V.ptr 3 0 0))], [(2, ⟨false, 4, [(enc_T_api_Base a0)]⟩), (3, ⟨false, 1, [(V.str a1)]⟩)], 19⟩ :=
  rE rfl
theorem f20r1 (k : Nat) (a0 : T_api_Base) (a1 : Str) : RE k f20a1 f20o1 false ⟨[(2, (V.ptr 2 0 0)), (3, (V.ptr 3 0 0))], [(2, ⟨false, 4, [(enc_T_api_Base a0)]⟩), (3, ⟨false, 1, [(V.str a1)]⟩)], 19⟩ = ((dbd_asked k a0 ([] : List Int))).map (fun (o : Int) => (⟨[(2, (V.ptr 2 0 0)), (3, (V.ptr 3 0 0)), (6, (I o))], [(2, ⟨false, 4, [(enc_T_api_Base a0)]⟩), (3, ⟨false, 1, [(V.str a1)]⟩)], 19⟩ : St)) := by
  refine rg ?_
  refine ra 1 1 ⟨[(2, (V.ptr 2 0 0)), (3, (V.ptr 3 0 0)), (7, (enc_T_api_Base a0))], [(2, ⟨false, 4, [(enc_T_api_Base a0)]⟩), (3, ⟨false, 1, [(V.str a1)]⟩)], 19⟩ rfl rfl rfl ?_
  refine Eq.trans (reg_pure (x := (dbd_asked k a0 ([] : List Int))) (w := fun v1 => (I v1)) rfl rfl rfl rfl (p_call rfl rfl rfl rfl rfl (dbd_asked_ok k a0 ([] : List Int)) (.inl rfl))) ?_
  refine bind_self (fun v1 => ?_)
  exact bind_end rfl
theorem f20r2 (k : Nat) (a0 : T_api_Base) (a1 : Str) (o2 : Int) : RE k f20a2 f20o2 false ⟨[(2, (V.ptr 2 0 0)), (3, (V.ptr 3 0 0)), (6, (I o2))], [(2, ⟨false, 4, [(enc_T_api_Base a0)]⟩), (3, ⟨false, 1, [(V.str a1)]⟩)], 19⟩ = some ⟨[(2, (V.ptr 2 0 0)), (3, (V.ptr 3 0 0)), (6, (I o2)), (10, (V.bool (o2 != 0)))], [(2, ⟨false, 4, [(enc_T_api_Base a0)]⟩), (3, ⟨false, 1, [(V.str a1)]⟩)], 19⟩ :=
  rE rfl
theorem f20r3 (k : Nat) (a0 : T_api_Base) (a1 : Str) (o2 : Int) : RE k f20a3 f20o3 false ⟨[(2, (V.ptr 2 0 0)), (3, (V.ptr 3 0 0)), (6, (I o2)), (10, (V.bool true))], [(2, ⟨false, 4, [(enc_T_api_Base a0)]⟩), (3, ⟨false, 1, [(V.str a1)]⟩)], 19⟩ = some ⟨[(4, (I 0)), (5, (I o2))], [], 19⟩ :=
  rE rfl
theorem f20r4 (k : Nat) (a0 : T_api_Base) (a1 : Str) (o2 : Int) : RE k f20a4 f20o4 false ⟨[(2, (V.ptr 2 0 0)), (3, (V.ptr 3 0 0)), (6, (I o2)), (10, (V.bool false))], [(2, ⟨false, 4, [(enc_T_api_Base a0)]⟩), (3, ⟨false, 1, [(V.str a1)]⟩)], 19⟩ = (((slices_IndexFunc_Type k a0.fTypes (fun j x0 => (dbd_Type_1 j x0 a1))).bind fun v3 => ((dbd_index k v3).bind fun v4 => (some (v4.1, v4.2))))).map (fun (o : Int × Int) => (⟨[(4, (I o.1)), (5, (I o.2))], [], 19⟩ : St)) := by
  refine rg ?_
  refine ra 3 3 ⟨[(2, (V.ptr 2 0 0)), (3, (V.ptr 3 0 0)), (6, (I o2)), (10, (V.bool false)), (12, (V.ptr 2 0 2)), (13, (sType (a0.fTypes))), (14, (V.fn 46 [] [(V.ptr 3 0 0)]))], [(2, ⟨false, 4, [(enc_T_api_Base a0)]⟩), (3, ⟨false, 1, [(V.str a1)]⟩)], 19⟩ rfl rfl rfl ?_
  refine Eq.trans (reg_pure (x := (slices_IndexFunc_Type k a0.fTypes (fun j x0 => (dbd_Type_1 j x0 a1)))) (w := fun v3 => (I v3)) rfl rfl rfl rfl (p_call rfl rfl rfl rfl rfl (slices_IndexFunc_Type_ok k a0.fTypes (fun j x0 => (dbd_Type_1 j x0 a1)) 46 (V.str a1) (fun j x0 => (dbd_Type_1_ok j x0 a1))) (.inr (fun _ => rfl)))) ?_
  refine bindE (fun v3 => ?_)
  refine ba 0 4 ⟨[(2, (V.ptr 2 0 0)), (3, (V.ptr 3 0 0)), (6, (I o2)), (10, (V.bool false)), (12, (V.ptr 2 0 2)), (13, (sType (a0.fTypes))), (14, (V.fn 46 [] [(V.ptr 3 0 0)])), (15, (I v3))], [(2, ⟨false, 4, [(enc_T_api_Base a0)]⟩), (3, ⟨false, 1, [(V.str a1)]⟩)], 19⟩ rfl rfl rfl ?_
  refine Eq.trans (reg_pure (x := (dbd_index k v3)) (w := fun v4 => (V.tup [(I v4.1), (I v4.2)])) rfl rfl rfl rfl (p_call rfl rfl rfl rfl rfl (dbd_index_ok k v3) (.inl rfl))) ?_
  refine bindE (fun v4 => ?_)
  exact bind_end rfl
theorem dbd_Type_ok (k : Nat) (a0 : T_api_Base) (a1 : Str) : EV k 20 [(enc_T_api_Base a0), (V.str a1)] = (dbd_Type k a0 a1).map dbd_Type_fin := by
  cases k with
  | zero => rfl
  | succ k =>
    unfold dbd_Type
    refine Eq.trans (evF_succ (c := f20c) (N := 19) (regs := f20n) rfl Go.Proofs.Try.func20 rfl (by decide) rfl rfl rfl) ?_
    refine Eq.trans (k_region0 rfl (f20r0 k a0 a1)) ?_
    refine Eq.trans k_assoc ?_
    refine Eq.trans (k_region rfl (f20r1 k a0 a1)) ?_
    refine bindE (fun o2 => ?_)
    refine Eq.trans k_assoc ?_
    refine Eq.trans (k_region0 rfl (f20r2 k a0 a1 o2)) ?_
    refine Eq.trans (k_cond (t := (o2 != 0)) rfl) ?_
    refine bifE2 (fun hc => ?_) fun hc => ?_
    · rw [hc]
      refine Eq.trans k_assoc ?_
      refine Eq.trans (k_region0 rfl (f20r3 k a0 a1 o2)) ?_
      refine Eq.trans k_ret ?_
      rfl
    · rw [hc]
      refine Eq.trans k_skip ?_
      refine Eq.trans (k_region rfl (f20r4 k a0 a1 o2)) ?_
      refine bindE (fun o5 => ?_)
      refine Eq.trans k_lret ?_
      rfl
def ref11_Type_fin : (Int × Int) → V × List V := fun r => (.tup [(I r.1), (I r.2)], [])
theorem f21r0 (k : Nat) (a0 : T_api_Base) (a1 : Str) : RE k f21a0 f21o0 false ⟨[(0, (enc_T_api_Base a0)), (1, (V.str a1))], [], 29⟩ = some ⟨[(1, (V.str a1)), (2, (V.ptr 2 0 0))], [(2, ⟨false, 4, [(enc_T_api_Base a0)]⟩)], 29⟩ :=
  rE rfl
theorem f21r1 (k : Nat) (a0 : T_api_Base) (a1 : Str) : RE k f21a1 f21o1 false ⟨[(1, (V.str a1)), (2, (V.ptr 2 0 0))], [(2, ⟨false, 4, [(enc_T_api_Base a0)]⟩)], 29⟩ = ((ref11_asked k a0 ([] : List Int))).map (fun (o : Int) => (⟨[(1, (V.str a1)), (2, (V.ptr 2 0 0)), (6, (I o))], [(2, ⟨false, 4, [(enc_T_api_Base a0)]⟩)], 29⟩ : St)) := by
  refine rg ?_
  refine ra 1 1 ⟨[(1, (V.str a1)), (2, (V.ptr 2 0 0)), (8, (enc_T_api_Base a0))], [(2, ⟨false, 4, [(enc_T_api_Base a0)]⟩)], 29⟩ rfl rfl rfl ?_
  refine Eq.trans (reg_pure (x := (ref11_asked k a0 ([] : List Int))) (w := fun v1 => (I v1)) rfl rfl rfl rfl (p_call rfl rfl rfl rfl rfl (ref11_asked_ok k a0 ([] : List Int)) (.inl rfl))) ?_
  refine bind_self (fun v1 => ?_)
  exact bind_end rfl
theorem f21r2 (k : Nat) (a0 : T_api_Base) (a1 : Str) (o2 : Int) : RE k f21a2 f21o2 false ⟨[(1, (V.str a1)), (2, (V.ptr 2 0 0)), (6, (I o2))], [(2, ⟨false, 4, [(enc_T_api_Base a0)]⟩)], 29⟩ = some ⟨[(1, (V.str a1)), (2, (V.ptr 2 0 0)), (6, (I o2)), (11, (V.bool (o2 != 0)))], [(2, ⟨false, 4, [(enc_T_api_Base a0)]⟩)], 29⟩ :=
  rE rfl
theorem f21r3 (k : Nat) (a0 : T_api_Base) (a1 : Str) (o2 : Int) : RE k f21a3 f21o3 false ⟨[(1, (V.str a1)), (2, (V.ptr 2 0 0)), (6, (I o2)), (11, (V.bool true))], [(2, ⟨false, 4, [(enc_T_api_Base a0)]⟩)], 29⟩ = some ⟨[(4, (I 0)), (5, (I o2))], [], 29⟩ :=
  rE rfl
theorem f21r4 (k : Nat) (a0 : T_api_Base) (a1 : Str) (o2 : Int) : RE k f21a4 f21o4 false ⟨[(1, (V.str a1)), (2, (V.ptr 2 0 0)), (6, (I o2)), (11, (V.bool false))], [(2, ⟨false, 4, [(enc_T_api_Base a0)]⟩)], 29⟩ = some ⟨[(1, (V.str a1)), (2, (V.ptr 2 0 0)), (7, (I 0))], [(2, ⟨false, 4, [(enc_T_api_Base a0)]⟩)], 29⟩ :=
  rE rfl
theorem f21r5 (k : Nat) (a0 : T_api_Base) (a1 : Str) (x5 : Int) : RE k f21a5 f21o5 false ⟨[(1, (V.str a1)), (2, (V.ptr 2 0 0)), (7, (I x5))], [(2, ⟨false, 4, [(enc_T_api_Base a0)]⟩)], 29⟩ = some ⟨[(1, (V.str a1)), (2, (V.ptr 2 0 0)), (7, (I x5)), (17, (V.bool (decide (x5 < (a0.fTypes.length : Int)))))], [(2, ⟨false, 4, [(enc_T_api_Base a0)]⟩)], 29⟩ := by
  refine rg ?_
  refine ra 3 3 ⟨[(1, (V.str a1)), (2, (V.ptr 2 0 0)), (7, (I x5)), (13, (I x5)), (14, (V.ptr 2 0 2)), (15, (sType (a0.fTypes)))], [(2, ⟨false, 4, [(enc_T_api_Base a0)]⟩)], 29⟩ rfl rfl rfl ?_
  refine Eq.trans (reg_pure (x := some ()) (w := fun _ => (I (a0.fTypes.length : Int))) rfl rfl rfl rfl (p_len (e := enc_T_api_Type) rfl rfl rfl rfl rfl rfl Go.Proofs.Try.underlying22)) ?_
  refine Eq.trans some_bind ?_
  exact bind_end rfl
theorem f21r7 (k : Nat) (a0 : T_api_Base) (a1 : Str) (x5 : Int) : RE k f21a7 f21o7 false ⟨[(1, (V.str a1)), (2, (V.ptr 2 0 0)), (7, (I x5)), (17, (V.bool true))], [(2, ⟨false, 4, [(enc_T_api_Base a0)]⟩)], 29⟩ = (((idx a0.fTypes x5).bind fun v6 => (some ((v6.fName == a1))))).map (fun (o : Bool) => (⟨[(1, (V.str a1)), (2, (V.ptr 2 0 0)), (7, (I x5)), (27, (V.bool o))], [(2, ⟨false, 4, [(enc_T_api_Base a0)]⟩)], 29⟩ : St)) := by
  refine rg ?_
  refine ra 3 3 ⟨[(1, (V.str a1)), (2, (V.ptr 2 0 0)), (7, (I x5)), (17, (V.bool true)), (20, (V.ptr 2 0 2)), (21, (sType (a0.fTypes))), (22, (I x5))], [(2, ⟨false, 4, [(enc_T_api_Base a0)]⟩)], 29⟩ rfl rfl rfl ?_
  refine Eq.trans (reg_pure (x := (idx a0.fTypes x5)) (w := fun v6 => (V.pro (enc_T_api_Type v6))) rfl rfl rfl rfl (p_index (e := enc_T_api_Type) rfl rfl rfl Go.Proofs.Try.underlying22 rfl (by decide))) ?_
  refine bindE (fun v6 => ?_)
  exact bind_end rfl
theorem f21r8 (k : Nat) (a0 : T_api_Base) (a1 : Str) (x5 : Int) : RE k f21a8 f21o8 false ⟨[(1, (V.str a1)), (2, (V.ptr 2 0 0)), (7, (I x5)), (27, (V.bool true))], [(2, ⟨false, 4, [(enc_T_api_Base a0)]⟩)], 29⟩ = some ⟨[(4, (I x5)), (5, (I 0))], [], 29⟩ :=
  rE rfl
theorem f21r6 (k : Nat) (a0 : T_api_Base) (a1 : Str) (x5 : Int) : RE k f21a6 f21o6 false ⟨[(1, (V.str a1)), (2, (V.ptr 2 0 0)), (7, (I x5)), (27, (V.bool false))], [(2, ⟨false, 4, [(enc_T_api_Base a0)]⟩)], 29⟩ = some ⟨[(1, (V.str a1)), (2, (V.ptr 2 0 0)), (7, (I (Go.IntKind.wrap .i64 (x5 + 1))))], [(2, ⟨false, 4, [(enc_T_api_Base a0)]⟩)], 29⟩ :=
  rE rfl
theorem ref11_Type_L1_ok (k : Nat) (a0 : T_api_Base) (a1 : Str)  (K0 : Int → Option (Int × Int)) (Kst : X × St → Option (V × List V)) (hK0 : ∀ (y0 : Int), Kst (X.exit 0, ⟨[(1, (V.str a1)), (2, (V.ptr 2 0 0)), (7, (I y0)), (17, (V.bool false))], [(2, ⟨false, 4, [(enc_T_api_Base a0)]⟩)], 29⟩) = (K0 y0).map ref11_Type_fin) (hret : ∀ s, Kst (X.ret, s) = endK prog 29 [(enc_T_api_Base a0), (V.str a1)] [] [.tmp 4, .tmp 5] (X.ret, s)) :
    ∀ (m : Nat) (x5 : Int), (iter (exec prog (EV k) f21n k f21b0) m ⟨[(1, (V.str a1)), (2, (V.ptr 2 0 0)), (7, (I x5))], [(2, ⟨false, 4, [(enc_T_api_Base a0)]⟩)], 29⟩).bind Kst = (ref11_Type_L1 a0 a1 K0 m x5).map ref11_Type_fin := by
  intro m
  induction m with
  | zero => intros; rfl
  | succ m ih =>
    intro x5
    unfold ref11_Type_L1
    refine Eq.trans k_round ?_
    refine Eq.trans k_assoc ?_
    refine Eq.trans (k_region0 rfl (f21r5 k a0 a1 x5)) ?_
    refine Eq.trans (k_cond (t := (decide (x5 < (a0.fTypes.length : Int)))) rfl) ?_
    refine bifE2 (fun hc => ?_) fun hc => ?_
    · rw [hc]
      refine Eq.trans k_skip ?_
      refine Eq.trans k_block ?_
      refine Eq.trans (k_region rfl (f21r7 k a0 a1 x5)) ?_
      refine bindE (fun o7 => ?_)
      refine Eq.trans (k_lcond (t := o7) rfl) ?_
      refine bifE2 (fun hc => ?_) fun hc => ?_
      · rw [hc]
        refine Eq.trans (k_region0 rfl (f21r8 k a0 a1 x5)) ?_
        refine Eq.trans k_lret ?_
        refine Eq.trans blk_ret ?_
        refine Eq.trans loop_ret ?_
        refine Eq.trans (hret _) ?_
        rfl
      · rw [hc]
        refine Eq.trans k_lskip ?_
        refine Eq.trans blk_normal ?_
        refine Eq.trans (k_lregion0 rfl (f21r6 k a0 a1 x5)) ?_
        refine Eq.trans loop_normal ?_
        exact ih (Go.IntKind.wrap .i64 (x5 + 1))
    · rw [hc]
      refine Eq.trans k_exit ?_
      refine Eq.trans loop_exit ?_
      exact hK0 x5
theorem f21r9 (k : Nat) (a0 : T_api_Base) (a1 : Str) (y8 : Int) : RE k f21a9 f21o9 false ⟨[(1, (V.str a1)), (2, (V.ptr 2 0 0)), (7, (I y8)), (17, (V.bool false))], [(2, ⟨false, 4, [(enc_T_api_Base a0)]⟩)], 29⟩ = some ⟨[(4, (I 0)), (5, (I 5))], [], 29⟩ :=
  rE rfl
theorem ref11_Type_ok (k : Nat) (a0 : T_api_Base) (a1 : Str) : EV k 21 [(enc_T_api_Base a0), (V.str a1)] = (ref11_Type k a0 a1).map ref11_Type_fin := by
  cases k with
  | zero => rfl
  | succ k =>
    unfold ref11_Type
    refine Eq.trans (evF_succ (c := f21c) (N := 29) (regs := f21n) rfl Go.Proofs.Try.func21 rfl (by decide) rfl rfl rfl) ?_
    refine Eq.trans (k_region0 rfl (f21r0 k a0 a1)) ?_
    refine Eq.trans k_assoc ?_
    refine Eq.trans (k_region rfl (f21r1 k a0 a1)) ?_
    refine bindE (fun o2 => ?_)
    refine Eq.trans k_assoc ?_
    refine Eq.trans (k_region0 rfl (f21r2 k a0 a1 o2)) ?_
    refine Eq.trans (k_cond (t := (o2 != 0)) rfl) ?_
    refine bifE2 (fun hc => ?_) fun hc => ?_
    · rw [hc]
      refine Eq.trans k_assoc ?_
      refine Eq.trans (k_region0 rfl (f21r3 k a0 a1 o2)) ?_
      refine Eq.trans k_ret ?_
      rfl
    · rw [hc]
      refine Eq.trans k_skip ?_
      refine Eq.trans k_assoc ?_
      refine Eq.trans (k_region0 rfl (f21r4 k a0 a1 o2)) ?_
      refine Eq.trans k_block ?_
      refine Eq.trans k_loop ?_
      refine ref11_Type_L1_ok k a0 a1 _ _ ?h_ref11_Type_L1_0 ?hr_ref11_Type_L1 k 0
      · intro y8
        refine Eq.trans blk_exit ?_
        refine Eq.trans (k_region0 rfl (f21r9 k a0 a1 y8)) ?_
        refine Eq.trans k_lret ?_
        rfl
      · intro s; exact rfl
def dbd_Field_1_fin : Bool → V × List V := fun r => ((V.bool r), [])
theorem f48r0 (k : Nat) (a0 : T_api_Field) (a1 : Str) : RE k f48a0 f48o0 false ⟨[(0, (enc_T_api_Field a0)), (1, (V.pro (V.str a1)))], [], 8⟩ = some ⟨[(1, (V.pro (V.str a1))), (2, (V.ptr 2 0 0))], [(2, ⟨false, 3, [(enc_T_api_Field a0)]⟩)], 8⟩ :=
  rE rfl
theorem f48r1 (k : Nat) (a0 : T_api_Field) (a1 : Str) : RE k f48a1 f48o1 false ⟨[(1, (V.pro (V.str a1))), (2, (V.ptr 2 0 0))], [(2, ⟨false, 3, [(enc_T_api_Field a0)]⟩)], 8⟩ = some ⟨[(3, (V.bool (a0.fName == a1)))], [], 8⟩ :=
  rE rfl
theorem dbd_Field_1_ok (k : Nat) (a0 : T_api_Field) (a1 : Str) : EV k 48 [(enc_T_api_Field a0), (V.pro (V.str a1))] = (dbd_Field_1 k a0 a1).map dbd_Field_1_fin := by
  cases k with
  | zero => rfl
  | succ k =>
    unfold dbd_Field_1
    refine Eq.trans (evF_succ (c := f48c) (N := 8) (regs := f48n) rfl Go.Proofs.Try.func48 rfl (by decide) rfl rfl rfl) ?_
    refine Eq.trans (k_region0 rfl (f48r0 k a0 a1)) ?_
    refine Eq.trans (k_region0 rfl (f48r1 k a0 a1)) ?_
    refine Eq.trans k_lret ?_
    rfl
def dbd_Field_fin : (Int × Int) → V × List V := fun r => (.tup [(I r.1), (I r.2)], [])
theorem f22r0 (k : Nat) (a0 : T_api_Base) (a1 : Int) (a2 : Str) : RE k f22a0 f22o0 false ⟨[(0, (enc_T_api_Base a0)), (1, (I a1)), (2, (V.str a2))], [], 27⟩ = some ⟨[(1, (I a1)), (3, (V.ptr 3 0 0)), (5, (V.ptr 5 0 0))], [(3, ⟨false, 4, [(enc_T_api_Base a0)]⟩), (5, ⟨false, 1, [(V.str a2)]⟩)], 27⟩ :=
  rE rfl
theorem f22r1 (k : Nat) (a0 : T_api_Base) (a1 : Int) (a2 : Str) : RE k f22a1 f22o1 false ⟨[(1, (I a1)), (3, (V.ptr 3 0 0)), (5, (V.ptr 5 0 0))], [(3, ⟨false, 4, [(enc_T_api_Base a0)]⟩), (5, ⟨false, 1, [(V.str a2)]⟩)], 27⟩ = ((dbd_asked k a0 ([a1] : List Int))).map (fun (o : Int) => (⟨[(1, (I a1)), (3, (V.ptr 3 0 0)), (5, (V.ptr 5 0 0)), (8, (I o))], [(3, ⟨false, 4, [(enc_T_api_Base a0)]⟩), (5, ⟨false, 1, [(V.str a2)]⟩)], 27⟩ : St)) := by
  refine rg ?_
  refine ra 3 3 ⟨[(1, (I a1)), (3, (V.ptr 3 0 0)), (5, (V.ptr 5 0 0)), (9, (enc_T_api_Base a0)), (10, (I a1)), (11, (sI (([a1] : List Int))))], [(3, ⟨false, 4, [(enc_T_api_Base a0)]⟩), (5, ⟨false, 1, [(V.str a2)]⟩)], 27⟩ rfl rfl rfl ?_
  refine Eq.trans (reg_pure (x := (dbd_asked k a0 ([a1] : List Int))) (w := fun v1 => (I v1)) rfl rfl rfl rfl (p_call rfl rfl rfl rfl rfl (dbd_asked_ok k a0 ([a1] : List Int)) (.inl rfl))) ?_
  refine bind_self (fun v1 => ?_)
  exact bind_end rfl
theorem f22r2 (k : Nat) (a0 : T_api_Base) (a1 : Int) (a2 : Str) (o2 : Int) : RE k f22a2 f22o2 false ⟨[(1, (I a1)), (3, (V.ptr 3 0 0)), (5, (V.ptr 5 0 0)), (8, (I o2))], [(3, ⟨false, 4, [(enc_T_api_Base a0)]⟩), (5, ⟨false, 1, [(V.str a2)]⟩)], 27⟩ = some ⟨[(1, (I a1)), (3, (V.ptr 3 0 0)), (5, (V.ptr 5 0 0)), (8, (I o2)), (14, (V.bool (o2 != 0)))], [(3, ⟨false, 4, [(enc_T_api_Base a0)]⟩), (5, ⟨false, 1, [(V.str a2)]⟩)], 27⟩ :=
  rE rfl
theorem f22r3 (k : Nat) (a0 : T_api_Base) (a1 : Int) (a2 : Str) (o2 : Int) : RE k f22a3 f22o3 false ⟨[(1, (I a1)), (3, (V.ptr 3 0 0)), (5, (V.ptr 5 0 0)), (8, (I o2)), (14, (V.bool true))], [(3, ⟨false, 4, [(enc_T_api_Base a0)]⟩), (5, ⟨false, 1, [(V.str a2)]⟩)], 27⟩ = some ⟨[(6, (I 0)), (7, (I o2))], [], 27⟩ :=
  rE rfl
theorem f22r4 (k : Nat) (a0 : T_api_Base) (a1 : Int) (a2 : Str) (o2 : Int) : RE k f22a4 f22o4 false ⟨[(1, (I a1)), (3, (V.ptr 3 0 0)), (5, (V.ptr 5 0 0)), (8, (I o2)), (14, (V.bool false))], [(3, ⟨false, 4, [(enc_T_api_Base a0)]⟩), (5, ⟨false, 1, [(V.str a2)]⟩)], 27⟩ = (((idx a0.fTypes a1).bind fun v3 => ((slices_IndexFunc_Field k v3.fFields (fun j x0 => (dbd_Field_1 j x0 a2))).bind fun v4 => ((dbd_index k v4).bind fun v5 => (some (v5.1, v5.2)))))).map (fun (o : Int × Int) => (⟨[(6, (I o.1)), (7, (I o.2))], [], 27⟩ : St)) := by
  refine rg ?_
  refine ra 3 3 ⟨[(1, (I a1)), (3, (V.ptr 3 0 0)), (5, (V.ptr 5 0 0)), (8, (I o2)), (14, (V.bool false)), (16, (V.ptr 3 0 2)), (17, (sType (a0.fTypes))), (18, (I a1))], [(3, ⟨false, 4, [(enc_T_api_Base a0)]⟩), (5, ⟨false, 1, [(V.str a2)]⟩)], 27⟩ rfl rfl rfl ?_
  refine Eq.trans (reg_pure (x := (idx a0.fTypes a1)) (w := fun v3 => (V.pro (enc_T_api_Type v3))) rfl rfl rfl rfl (p_index (e := enc_T_api_Type) rfl rfl rfl Go.Proofs.Try.underlying22 rfl (by decide))) ?_
  refine bindE (fun v3 => ?_)
  refine ba 3 7 ⟨[(1, (I a1)), (3, (V.ptr 3 0 0)), (5, (V.ptr 5 0 0)), (8, (I o2)), (14, (V.bool false)), (16, (V.ptr 3 0 2)), (17, (sType (a0.fTypes))), (18, (I a1)), (19, (V.pro (enc_T_api_Type v3))), (20, (V.pro (sField (v3.fFields)))), (21, (sField (v3.fFields))), (22, (V.fn 48 [] [(V.ptr 5 0 0)]))], [(3, ⟨false, 4, [(enc_T_api_Base a0)]⟩), (5, ⟨false, 1, [(V.str a2)]⟩)], 27⟩ rfl rfl rfl ?_
  refine Eq.trans (reg_pure (x := (slices_IndexFunc_Field k v3.fFields (fun j x0 => (dbd_Field_1 j x0 a2)))) (w := fun v4 => (I v4)) rfl rfl rfl rfl (p_call rfl rfl rfl rfl rfl (slices_IndexFunc_Field_ok k v3.fFields (fun j x0 => (dbd_Field_1 j x0 a2)) 48 (V.str a2) (fun j x0 => (dbd_Field_1_ok j x0 a2))) (.inr (fun _ => rfl)))) ?_
  refine bindE (fun v4 => ?_)
  refine ba 0 8 ⟨[(1, (I a1)), (3, (V.ptr 3 0 0)), (5, (V.ptr 5 0 0)), (8, (I o2)), (14, (V.bool false)), (16, (V.ptr 3 0 2)), (17, (sType (a0.fTypes))), (18, (I a1)), (19, (V.pro (enc_T_api_Type v3))), (20, (V.pro (sField (v3.fFields)))), (21, (sField (v3.fFields))), (22, (V.fn 48 [] [(V.ptr 5 0 0)])), (23, (I v4))], [(3, ⟨false, 4, [(enc_T_api_Base a0)]⟩), (5, ⟨false, 1, [(V.str a2)]⟩)], 27⟩ rfl rfl rfl ?_
  refine Eq.trans (reg_pure (x := (dbd_index k v4)) (w := fun v5 => (V.tup [(I v5.1), (I v5.2)])) rfl rfl rfl rfl (p_call rfl rfl rfl rfl rfl (dbd_index_ok k v4) (.inl rfl))) ?_
  refine bindE (fun v5 => ?_)
  exact bind_end rfl
theorem dbd_Field_ok (k : Nat) (a0 : T_api_Base) (a1 : Int) (a2 : Str) : EV k 22 [(enc_T_api_Base a0), (I a1), (V.str a2)] = (dbd_Field k a0 a1 a2).map dbd_Field_fin := by
  cases k with
  | zero => rfl
  | succ k =>
    unfold dbd_Field
    refine Eq.trans (evF_succ (c := f22c) (N := 27) (regs := f22n) rfl Go.Proofs.Try.func22 rfl (by decide) rfl rfl rfl) ?_
    refine Eq.trans (k_region0 rfl (f22r0 k a0 a1 a2)) ?_
    refine Eq.trans k_assoc ?_
    refine Eq.trans (k_region rfl (f22r1 k a0 a1 a2)) ?_
    refine bindE (fun o2 => ?_)
    refine Eq.trans k_assoc ?_
    refine Eq.trans (k_region0 rfl (f22r2 k a0 a1 a2 o2)) ?_
    refine Eq.trans (k_cond (t := (o2 != 0)) rfl) ?_
    refine bifE2 (fun hc => ?_) fun hc => ?_
    · rw [hc]
      refine Eq.trans k_assoc ?_
      refine Eq.trans (k_region0 rfl (f22r3 k a0 a1 a2 o2)) ?_
      refine Eq.trans k_ret ?_
      rfl
    · rw [hc]
      refine Eq.trans k_skip ?_
      refine Eq.trans (k_region rfl (f22r4 k a0 a1 a2 o2)) ?_
      refine bindE (fun o6 => ?_)
      refine Eq.trans k_lret ?_
      rfl
def ref11_Field_fin : (Int × Int) → V × List V := fun r => (.tup [(I r.1), (I r.2)], [])
theorem f23r0 (k : Nat) (a0 : T_api_Base) (a1 : Int) (a2 : Str) : RE k f23a0 f23o0 false ⟨[(0, (enc_T_api_Base a0)), (1, (I a1)), (2, (V.str a2))], [], 41⟩ = some ⟨[(1, (I a1)), (2, (V.str a2)), (3, (V.ptr 3 0 0))], [(3, ⟨false, 4, [(enc_T_api_Base a0)]⟩)], 41⟩ :=
  rE rfl
theorem f23r1 (k : Nat) (a0 : T_api_Base) (a1 : Int) (a2 : Str) : RE k f23a1 f23o1 false ⟨[(1, (I a1)), (2, (V.str a2)), (3, (V.ptr 3 0 0))], [(3, ⟨false, 4, [(enc_T_api_Base a0)]⟩)], 41⟩ = ((ref11_asked k a0 ([a1] : List Int))).map (fun (o : Int) => (⟨[(1, (I a1)), (2, (V.str a2)), (3, (V.ptr 3 0 0)), (8, (I o))], [(3, ⟨false, 4, [(enc_T_api_Base a0)]⟩)], 41⟩ : St)) := by
  refine rg ?_
  refine ra 3 3 ⟨[(1, (I a1)), (2, (V.str a2)), (3, (V.ptr 3 0 0)), (10, (enc_T_api_Base a0)), (11, (I a1)), (12, (sI (([a1] : List Int))))], [(3, ⟨false, 4, [(enc_T_api_Base a0)]⟩)], 41⟩ rfl rfl rfl ?_
  refine Eq.trans (reg_pure (x := (ref11_asked k a0 ([a1] : List Int))) (w := fun v1 => (I v1)) rfl rfl rfl rfl (p_call rfl rfl rfl rfl rfl (ref11_asked_ok k a0 ([a1] : List Int)) (.inl rfl))) ?_
  refine bind_self (fun v1 => ?_)
  exact bind_end rfl
theorem f23r2 (k : Nat) (a0 : T_api_Base) (a1 : Int) (a2 : Str) (o2 : Int) : RE k f23a2 f23o2 false ⟨[(1, (I a1)), (2, (V.str a2)), (3, (V.ptr 3 0 0)), (8, (I o2))], [(3, ⟨false, 4, [(enc_T_api_Base a0)]⟩)], 41⟩ = some ⟨[(1, (I a1)), (2, (V.str a2)), (3, (V.ptr 3 0 0)), (8, (I o2)), (15, (V.bool (o2 != 0)))], [(3, ⟨false, 4, [(enc_T_api_Base a0)]⟩)], 41⟩ :=
  rE rfl
theorem f23r3 (k : Nat) (a0 : T_api_Base) (a1 : Int) (a2 : Str) (o2 : Int) : RE k f23a3 f23o3 false ⟨[(1, (I a1)), (2, (V.str a2)), (3, (V.ptr 3 0 0)), (8, (I o2)), (15, (V.bool true))], [(3, ⟨false, 4, [(enc_T_api_Base a0)]⟩)], 41⟩ = some ⟨[(6, (I 0)), (7, (I o2))], [], 41⟩ :=
  rE rfl
theorem f23r4 (k : Nat) (a0 : T_api_Base) (a1 : Int) (a2 : Str) (o2 : Int) : RE k f23a4 f23o4 false ⟨[(1, (I a1)), (2, (V.str a2)), (3, (V.ptr 3 0 0)), (8, (I o2)), (15, (V.bool false))], [(3, ⟨false, 4, [(enc_T_api_Base a0)]⟩)], 41⟩ = some ⟨[(1, (I a1)), (2, (V.str a2)), (3, (V.ptr 3 0 0)), (9, (I 0))], [(3, ⟨false, 4, [(enc_T_api_Base a0)]⟩)], 41⟩ :=
  rE rfl
theorem f23r5 (k : Nat) (a0 : T_api_Base) (a1 : Int) (a2 : Str) (x8 : Int) : RE k f23a5 f23o5 false ⟨[(1, (I a1)), (2, (V.str a2)), (3, (V.ptr 3 0 0)), (9, (I x8))], [(3, ⟨false, 4, [(enc_T_api_Base a0)]⟩)], 41⟩ = (((idx a0.fTypes a1).bind fun v9 => (some ((decide (x8 < (v9.fFields.length : Int))))))).map (fun (o : Bool) => (⟨[(1, (I a1)), (2, (V.str a2)), (3, (V.ptr 3 0 0)), (9, (I x8)), (25, (V.bool o))], [(3, ⟨false, 4, [(enc_T_api_Base a0)]⟩)], 41⟩ : St)) := by
  refine rg ?_
  refine ra 4 4 ⟨[(1, (I a1)), (2, (V.str a2)), (3, (V.ptr 3 0 0)), (9, (I x8)), (17, (I x8)), (18, (V.ptr 3 0 2)), (19, (sType (a0.fTypes))), (20, (I a1))], [(3, ⟨false, 4, [(enc_T_api_Base a0)]⟩)], 41⟩ rfl rfl rfl ?_
  refine Eq.trans (reg_pure (x := (idx a0.fTypes a1)) (w := fun v9 => (V.pro (enc_T_api_Type v9))) rfl rfl rfl rfl (p_index (e := enc_T_api_Type) rfl rfl rfl Go.Proofs.Try.underlying22 rfl (by decide))) ?_
  refine bindE (fun v9 => ?_)
  refine ba 2 7 ⟨[(1, (I a1)), (2, (V.str a2)), (3, (V.ptr 3 0 0)), (9, (I x8)), (17, (I x8)), (18, (V.ptr 3 0 2)), (19, (sType (a0.fTypes))), (20, (I a1)), (21, (V.pro (enc_T_api_Type v9))), (22, (V.pro (sField (v9.fFields)))), (23, (sField (v9.fFields)))], [(3, ⟨false, 4, [(enc_T_api_Base a0)]⟩)], 41⟩ rfl rfl rfl ?_
  refine Eq.trans (reg_pure (x := some ()) (w := fun _ => (I (v9.fFields.length : Int))) rfl rfl rfl rfl (p_len (e := enc_T_api_Field) rfl rfl rfl rfl rfl rfl Go.Proofs.Try.underlying53)) ?_
  refine Eq.trans some_bind ?_
  exact bind_end rfl
theorem f23r7 (k : Nat) (a0 : T_api_Base) (a1 : Int) (a2 : Str) (x8 : Int) : RE k f23a7 f23o7 false ⟨[(1, (I a1)), (2, (V.str a2)), (3, (V.ptr 3 0 0)), (9, (I x8)), (25, (V.bool true))], [(3, ⟨false, 4, [(enc_T_api_Base a0)]⟩)], 41⟩ = (((idx a0.fTypes a1).bind fun v11 => ((idx v11.fFields x8).bind fun v12 => (some ((v12.fName == a2)))))).map (fun (o : Bool) => (⟨[(1, (I a1)), (2, (V.str a2)), (3, (V.ptr 3 0 0)), (9, (I x8)), (39, (V.bool o))], [(3, ⟨false, 4, [(enc_T_api_Base a0)]⟩)], 41⟩ : St)) := by
  refine rg ?_
  refine ra 3 3 ⟨[(1, (I a1)), (2, (V.str a2)), (3, (V.ptr 3 0 0)), (9, (I x8)), (25, (V.bool true)), (28, (V.ptr 3 0 2)), (29, (sType (a0.fTypes))), (30, (I a1))], [(3, ⟨false, 4, [(enc_T_api_Base a0)]⟩)], 41⟩ rfl rfl rfl ?_
  refine Eq.trans (reg_pure (x := (idx a0.fTypes a1)) (w := fun v11 => (V.pro (enc_T_api_Type v11))) rfl rfl rfl rfl (p_index (e := enc_T_api_Type) rfl rfl rfl Go.Proofs.Try.underlying22 rfl (by decide))) ?_
  refine bindE (fun v11 => ?_)
  refine ba 3 7 ⟨[(1, (I a1)), (2, (V.str a2)), (3, (V.ptr 3 0 0)), (9, (I x8)), (25, (V.bool true)), (28, (V.ptr 3 0 2)), (29, (sType (a0.fTypes))), (30, (I a1)), (31, (V.pro (enc_T_api_Type v11))), (32, (V.pro (sField (v11.fFields)))), (33, (sField (v11.fFields))), (34, (I x8))], [(3, ⟨false, 4, [(enc_T_api_Base a0)]⟩)], 41⟩ rfl rfl rfl ?_
  refine Eq.trans (reg_pure (x := (idx v11.fFields x8)) (w := fun v12 => (V.pro (enc_T_api_Field v12))) rfl rfl rfl rfl (p_index (e := enc_T_api_Field) rfl rfl rfl Go.Proofs.Try.underlying53 rfl (by decide))) ?_
  refine bindE (fun v12 => ?_)
  exact bind_end rfl
theorem f23r8 (k : Nat) (a0 : T_api_Base) (a1 : Int) (a2 : Str) (x8 : Int) : RE k f23a8 f23o8 false ⟨[(1, (I a1)), (2, (V.str a2)), (3, (V.ptr 3 0 0)), (9, (I x8)), (39, (V.bool true))], [(3, ⟨false, 4, [(enc_T_api_Base a0)]⟩)], 41⟩ = some ⟨[(6, (I x8)), (7, (I 0))], [], 41⟩ :=
  rE rfl
theorem f23r6 (k : Nat) (a0 : T_api_Base) (a1 : Int) (a2 : Str) (x8 : Int) : RE k f23a6 f23o6 false ⟨[(1, (I a1)), (2, (V.str a2)), (3, (V.ptr 3 0 0)), (9, (I x8)), (39, (V.bool false))], [(3, ⟨false, 4, [(enc_T_api_Base a0)]⟩)], 41⟩ = some ⟨[(1, (I a1)), (2, (V.str a2)), (3, (V.ptr 3 0 0)), (9, (I (Go.IntKind.wrap .i64 (x8 + 1))))], [(3, ⟨false, 4, [(enc_T_api_Base a0)]⟩)], 41⟩ :=
  rE rfl
theorem ref11_Field_L1_ok (k : Nat) (a0 : T_api_Base) (a1 : Int) (a2 : Str)  (K0 : Int → Option (Int × Int)) (Kst : X × St → Option (V × List V)) (hK0 : ∀ (y0 : Int), Kst (X.exit 0, ⟨[(1, (I a1)), (2, (V.str a2)), (3, (V.ptr 3 0 0)), (9, (I y0)), (25, (V.bool false))], [(3, ⟨false, 4, [(enc_T_api_Base a0)]⟩)], 41⟩) = (K0 y0).map ref11_Field_fin) (hret : ∀ s, Kst (X.ret, s) = endK prog 41 [(enc_T_api_Base a0), (I a1), (V.str a2)] [] [.tmp 6, .tmp 7] (X.ret, s)) :
    ∀ (m : Nat) (x8 : Int), (iter (exec prog (EV k) f23n k f23b0) m ⟨[(1, (I a1)), (2, (V.str a2)), (3, (V.ptr 3 0 0)), (9, (I x8))], [(3, ⟨false, 4, [(enc_T_api_Base a0)]⟩)], 41⟩).bind Kst = (ref11_Field_L1 a0 a1 a2 K0 m x8).map ref11_Field_fin := by
  intro m
  induction m with
  | zero => intros; rfl
  | succ m ih =>
    intro x8
    unfold ref11_Field_L1
    refine Eq.trans k_round ?_
    refine Eq.trans k_assoc ?_
    refine Eq.trans (k_region rfl (f23r5 k a0 a1 a2 x8)) ?_
    refine bindE (fun o10 => ?_)
    refine Eq.trans (k_cond (t := o10) rfl) ?_
    refine bifE2 (fun hc => ?_) fun hc => ?_
    · rw [hc]
      refine Eq.trans k_skip ?_
      refine Eq.trans k_block ?_
      refine Eq.trans (k_region rfl (f23r7 k a0 a1 a2 x8)) ?_
      refine bindE (fun o13 => ?_)
      refine Eq.trans (k_lcond (t := o13) rfl) ?_
      refine bifE2 (fun hc => ?_) fun hc => ?_
      · rw [hc]
        refine Eq.trans (k_region0 rfl (f23r8 k a0 a1 a2 x8)) ?_
        refine Eq.trans k_lret ?_
        refine Eq.trans blk_ret ?_
        refine Eq.trans loop_ret ?_
        refine Eq.trans (hret _) ?_
        rfl
      · rw [hc]
        refine Eq.trans k_lskip ?_
        refine Eq.trans blk_normal ?_
        refine Eq.trans (k_lregion0 rfl (f23r6 k a0 a1 a2 x8)) ?_
        refine Eq.trans loop_normal ?_
        exact ih (Go.IntKind.wrap .i64 (x8 + 1))
    · rw [hc]
      refine Eq.trans k_exit ?_
      refine Eq.trans loop_exit ?_
      exact hK0 x8
theorem f23r9 (k : Nat) (a0 : T_api_Base) (a1 : Int) (a2 : Str) (y14 : Int) : RE k f23a9 f23o9 false ⟨[(1, (I a1)), (2, (V.str a2)), (3, (V.ptr 3 0 0)), (9, (I y14)), (25, (V.bool false))], [(3, ⟨false, 4, [(enc_T_api_Base a0)]⟩)], 41⟩ = some ⟨[(6, (I 0)), (7, (I 5))], [], 41⟩ :=
  rE rfl
theorem ref11_Field_ok (k : Nat) (a0 : T_api_Base) (a1 : Int) (a2 : Str) : EV k 23 [(enc_T_api_Base a0), (I a1), (V.str a2)] = (ref11_Field k a0 a1 a2).map ref11_Field_fin := by
  cases k with
  | zero => rfl
  | succ k =>
    unfold ref11_Field
    refine Eq.trans (evF_succ (c := f23c) (N := 41) (regs := f23n) rfl Go.Proofs.Try.func23 rfl (by decide) rfl rfl rfl) ?_
    refine Eq.trans (k_region0 rfl (f23r0 k a0 a1 a2)) ?_
    refine Eq.trans k_assoc ?_
    refine Eq.trans (k_region rfl (f23r1 k a0 a1 a2)) ?_
    refine bindE (fun o2 => ?_)
    refine Eq.trans k_assoc ?_
    refine Eq.trans (k_region0 rfl (f23r2 k a0 a1 a2 o2)) ?_
    refine Eq.trans (k_cond (t := (o2 != 0)) rfl) ?_
    refine bifE2 (fun hc => ?_) fun hc => ?_
    · rw [hc]
      refine Eq.trans k_assoc ?_
      refine Eq.trans (k_region0 rfl (f23r3 k a0 a1 a2 o2)) ?_
      refine Eq.trans k_ret ?_
      rfl
    · rw [hc]
      refine Eq.trans k_skip ?_
      refine Eq.trans k_assoc ?_
      refine Eq.trans (k_region0 rfl (f23r4 k a0 a1 a2 o2)) ?_
      refine Eq.trans k_block ?_
      refine Eq.trans k_loop ?_
      refine ref11_Field_L1_ok k a0 a1 a2 _ _ ?h_ref11_Field_L1_0 ?hr_ref11_Field_L1 k 0
      · intro y14
        refine Eq.trans blk_exit ?_
        refine Eq.trans (k_region0 rfl (f23r9 k a0 a1 a2 y14)) ?_
        refine Eq.trans k_lret ?_
        rfl
      · intro s; exact rfl
def law11_DbdNames_fin : Bool → V × List V := fun r => ((V.bool r), [])
theorem f4r0 (k : Nat) (a0 : T_api_Base) (a1 : Int) (a2 : Str) : RE k f4a0 f4o0 false ⟨[(0, (enc_T_api_Base a0)), (1, (I a1)), (2, (V.str a2))], [], 60⟩ = some ⟨[(1, (I a1)), (2, (V.str a2)), (3, (V.ptr 3 0 0))], [(3, ⟨false, 4, [(enc_T_api_Base a0)]⟩)], 60⟩ :=
  rE rfl
theorem f4r1 (k : Nat) (a0 : T_api_Base) (a1 : Int) (a2 : Str) : RE k f4a1 f4o1 false ⟨[(1, (I a1)), (2, (V.str a2)), (3, (V.ptr 3 0 0))], [(3, ⟨false, 4, [(enc_T_api_Base a0)]⟩)], 60⟩ = (((law11_Small k a0).bind fun v1 => (some ((!v1))))).map (fun (o : Bool) => (⟨[(1, (I a1)), (2, (V.str a2)), (3, (V.ptr 3 0 0)), (13, (V.bool o))], [(3, ⟨false, 4, [(enc_T_api_Base a0)]⟩)], 60⟩ : St)) := by
  refine rg ?_
  refine ra 1 1 ⟨[(1, (I a1)), (2, (V.str a2)), (3, (V.ptr 3 0 0)), (11, (enc_T_api_Base a0))], [(3, ⟨false, 4, [(enc_T_api_Base a0)]⟩)], 60⟩ rfl rfl rfl ?_
  refine Eq.trans (reg_pure (x := (law11_Small k a0)) (w := fun v1 => (V.bool v1)) rfl rfl rfl rfl (p_call rfl rfl rfl rfl rfl (law11_Small_ok k a0) (.inl rfl))) ?_
  refine bindE (fun v1 => ?_)
  exact bind_end rfl
theorem f4r2 (k : Nat) (a0 : T_api_Base) (a1 : Int) (a2 : Str) : RE k f4a2 f4o2 false ⟨[(1, (I a1)), (2, (V.str a2)), (3, (V.ptr 3 0 0)), (13, (V.bool true))], [(3, ⟨false, 4, [(enc_T_api_Base a0)]⟩)], 60⟩ = ((law11_First k)).map (fun (o : Bool) => (⟨[(6, (V.bool o))], [], 60⟩ : St)) := by
  refine rg ?_
  refine Eq.trans (reg_pure (x := (law11_First k)) (w := fun v3 => (V.bool v3)) rfl rfl rfl rfl (p_call rfl rfl rfl rfl rfl (law11_First_ok k) (.inl rfl))) ?_
  refine bind_self (fun v3 => ?_)
  exact bind_end rfl
theorem f4r3 (k : Nat) (a0 : T_api_Base) (a1 : Int) (a2 : Str) : RE k f4a3 f4o3 false ⟨[(1, (I a1)), (2, (V.str a2)), (3, (V.ptr 3 0 0)), (13, (V.bool false))], [(3, ⟨false, 4, [(enc_T_api_Base a0)]⟩)], 60⟩ = (((dbd_Type k a0 a2).bind fun v5 => (some (v5.1, v5.2)))).map (fun (o : Int × Int) => (⟨[(1, (I a1)), (2, (V.str a2)), (3, (V.ptr 3 0 0)), (7, (I o.1)), (8, (I o.2))], [(3, ⟨false, 4, [(enc_T_api_Base a0)]⟩)], 60⟩ : St)) := by
  refine rg ?_
  refine ra 2 2 ⟨[(1, (I a1)), (2, (V.str a2)), (3, (V.ptr 3 0 0)), (13, (V.bool false)), (16, (enc_T_api_Base a0)), (17, (V.str a2))], [(3, ⟨false, 4, [(enc_T_api_Base a0)]⟩)], 60⟩ rfl rfl rfl ?_
  refine Eq.trans (reg_pure (x := (dbd_Type k a0 a2)) (w := fun v5 => (V.tup [(I v5.1), (I v5.2)])) rfl rfl rfl rfl (p_call rfl rfl rfl rfl rfl (dbd_Type_ok k a0 a2) (.inl rfl))) ?_
  refine bindE (fun v5 => ?_)
  exact bind_end rfl
theorem f4r4 (k : Nat) (a0 : T_api_Base) (a1 : Int) (a2 : Str) (o6 : Int × Int) : RE k f4a4 f4o4 false ⟨[(1, (I a1)), (2, (V.str a2)), (3, (V.ptr 3 0 0)), (7, (I o6.1)), (8, (I o6.2))], [(3, ⟨false, 4, [(enc_T_api_Base a0)]⟩)], 60⟩ = (((ref11_Type k a0 a2).bind fun v7 => (some (v7.1, v7.2)))).map (fun (o : Int × Int) => (⟨[(1, (I a1)), (2, (V.str a2)), (3, (V.ptr 3 0 0)), (7, (I o6.1)), (8, (I o6.2)), (9, (I o.1)), (10, (I o.2))], [(3, ⟨false, 4, [(enc_T_api_Base a0)]⟩)], 60⟩ : St)) := by
  refine rg ?_
  refine ra 2 2 ⟨[(1, (I a1)), (2, (V.str a2)), (3, (V.ptr 3 0 0)), (7, (I o6.1)), (8, (I o6.2)), (22, (enc_T_api_Base a0)), (23, (V.str a2))], [(3, ⟨false, 4, [(enc_T_api_Base a0)]⟩)], 60⟩ rfl rfl rfl ?_
  refine Eq.trans (reg_pure (x := (ref11_Type k a0 a2)) (w := fun v7 => (V.tup [(I v7.1), (I v7.2)])) rfl rfl rfl rfl (p_call rfl rfl rfl rfl rfl (ref11_Type_ok k a0 a2) (.inl rfl))) ?_
  refine bindE (fun v7 => ?_)
  exact bind_end rfl
theorem f4r5 (k : Nat) (a0 : T_api_Base) (a1 : Int) (a2 : Str) (o6 : Int × Int) (o8 : Int × Int) : RE k f4a5 f4o5 false ⟨[(1, (I a1)), (2, (V.str a2)), (3, (V.ptr 3 0 0)), (7, (I o6.1)), (8, (I o6.2)), (9, (I o8.1)), (10, (I o8.2))], [(3, ⟨false, 4, [(enc_T_api_Base a0)]⟩)], 60⟩ = ((bif (o6.1 != o8.1) then (some (true)) else (some ((o6.2 != o8.2))))).map (fun (o : Bool) => (⟨[(1, (I a1)), (2, (V.str a2)), (3, (V.ptr 3 0 0)), (34, (V.bool o))], [(3, ⟨false, 4, [(enc_T_api_Base a0)]⟩)], 60⟩ : St)) := by
  refine rg ?_
  refine ra 4 4 ⟨[(1, (I a1)), (2, (V.str a2)), (3, (V.ptr 3 0 0)), (7, (I o6.1)), (8, (I o6.2)), (9, (I o8.1)), (10, (I o8.2)), (27, (I o6.1)), (28, (I o8.1)), (29, (V.bool (o6.1 != o8.1))), (30, (V.bool (o6.1 != o8.1)))], [(3, ⟨false, 4, [(enc_T_api_Base a0)]⟩)], 60⟩ rfl rfl rfl ?_
  refine bifE (c := (o6.1 != o8.1)) (fun hc => ?_) fun hc => ?_
  · rw [hc]
    exact reg_end rfl
  · rw [hc]
    exact reg_end rfl
theorem f4r6 (k : Nat) (a0 : T_api_Base) (a1 : Int) (a2 : Str) : RE k f4a6 f4o6 false ⟨[(1, (I a1)), (2, (V.str a2)), (3, (V.ptr 3 0 0)), (34, (V.bool true))], [(3, ⟨false, 4, [(enc_T_api_Base a0)]⟩)], 60⟩ = some ⟨[(6, (V.bool false))], [], 60⟩ :=
  rE rfl
theorem f4r7 (k : Nat) (a0 : T_api_Base) (a1 : Int) (a2 : Str) : RE k f4a7 f4o7 false ⟨[(1, (I a1)), (2, (V.str a2)), (3, (V.ptr 3 0 0)), (34, (V.bool false))], [(3, ⟨false, 4, [(enc_T_api_Base a0)]⟩)], 60⟩ = (((dbd_Field k a0 a1 a2).bind fun v10 => (some (v10.1, v10.2)))).map (fun (o : Int × Int) => (⟨[(1, (I a1)), (2, (V.str a2)), (3, (V.ptr 3 0 0)), (7, (I o.1)), (8, (I o.2))], [(3, ⟨false, 4, [(enc_T_api_Base a0)]⟩)], 60⟩ : St)) := by
  refine rg ?_
  refine ra 3 3 ⟨[(1, (I a1)), (2, (V.str a2)), (3, (V.ptr 3 0 0)), (34, (V.bool false)), (36, (enc_T_api_Base a0)), (37, (I a1)), (38, (V.str a2))], [(3, ⟨false, 4, [(enc_T_api_Base a0)]⟩)], 60⟩ rfl rfl rfl ?_
  refine Eq.trans (reg_pure (x := (dbd_Field k a0 a1 a2)) (w := fun v10 => (V.tup [(I v10.1), (I v10.2)])) rfl rfl rfl rfl (p_call rfl rfl rfl rfl rfl (dbd_Field_ok k a0 a1 a2) (.inl rfl))) ?_
  refine bindE (fun v10 => ?_)
  exact bind_end rfl
theorem f4r8 (k : Nat) (a0 : T_api_Base) (a1 : Int) (a2 : Str) (o11 : Int × Int) : RE k f4a8 f4o8 false ⟨[(1, (I a1)), (2, (V.str a2)), (3, (V.ptr 3 0 0)), (7, (I o11.1)), (8, (I o11.2))], [(3, ⟨false, 4, [(enc_T_api_Base a0)]⟩)], 60⟩ = (((ref11_Field k a0 a1 a2).bind fun v12 => (some (v12.1, v12.2)))).map (fun (o : Int × Int) => (⟨[(7, (I o11.1)), (8, (I o11.2)), (9, (I o.1)), (10, (I o.2))], [], 60⟩ : St)) := by
  refine rg ?_
  refine ra 3 3 ⟨[(1, (I a1)), (2, (V.str a2)), (3, (V.ptr 3 0 0)), (7, (I o11.1)), (8, (I o11.2)), (43, (enc_T_api_Base a0)), (44, (I a1)), (45, (V.str a2))], [(3, ⟨false, 4, [(enc_T_api_Base a0)]⟩)], 60⟩ rfl rfl rfl ?_
  refine Eq.trans (reg_pure (x := (ref11_Field k a0 a1 a2)) (w := fun v12 => (V.tup [(I v12.1), (I v12.2)])) rfl rfl rfl rfl (p_call rfl rfl rfl rfl rfl (ref11_Field_ok k a0 a1 a2) (.inl rfl))) ?_
  refine bindE (fun v12 => ?_)
  exact bind_end rfl
theorem f4r9 (k : Nat) (o11 : Int × Int) (o13 : Int × Int) : RE k f4a9 f4o9 false ⟨[(7, (I o11.1)), (8, (I o11.2)), (9, (I o13.1)), (10, (I o13.2))], [], 60⟩ = ((bif (o11.1 == o13.1) then (bif (o11.2 == o13.2) then (law11_First k) else (some (false))) else (some (false)))).map (fun (o : Bool) => (⟨[(6, (V.bool o))], [], 60⟩ : St)) := by
  refine rg ?_
  refine ra 4 4 ⟨[(7, (I o11.1)), (8, (I o11.2)), (9, (I o13.1)), (10, (I o13.2)), (49, (I o11.1)), (50, (I o13.1)), (51, (V.bool (o11.1 == o13.1))), (52, (V.bool (o11.1 == o13.1)))], [], 60⟩ rfl rfl rfl ?_
  refine bifE (c := (o11.1 == o13.1)) (fun hc => ?_) fun hc => ?_
  · rw [hc]
    refine ra 5 9 ⟨[(7, (I o11.1)), (8, (I o11.2)), (9, (I o13.1)), (10, (I o13.2)), (49, (I o11.1)), (50, (I o13.1)), (51, (V.bool true)), (52, (V.bool true)), (53, (I o11.2)), (54, (I o13.2)), (55, (V.bool (o11.2 == o13.2))), (56, (V.bool (o11.2 == o13.2))), (57, (V.bool (o11.2 == o13.2)))], [], 60⟩ rfl rfl rfl ?_
    refine bifE (c := (o11.2 == o13.2)) (fun hc => ?_) fun hc => ?_
    · rw [hc]
      refine Eq.trans (reg_pure (x := (law11_First k)) (w := fun v14 => (V.bool v14)) rfl rfl rfl rfl (p_call rfl rfl rfl rfl rfl (law11_First_ok k) (.inl rfl))) ?_
      refine bind_self (fun v14 => ?_)
      exact bind_end rfl
    · rw [hc]
      exact reg_end rfl
  · rw [hc]
    exact reg_end rfl
theorem law11_DbdNames_ok (k : Nat) (a0 : T_api_Base) (a1 : Int) (a2 : Str) : EV k 4 [(enc_T_api_Base a0), (I a1), (V.str a2)] = (law11_DbdNames k a0 a1 a2).map law11_DbdNames_fin := by
  cases k with
  | zero => rfl
  | succ k =>
    unfold law11_DbdNames
    refine Eq.trans (evF_succ (c := f4c) (N := 60) (regs := f4n) rfl Go.Proofs.Try.func4 rfl (by decide) rfl rfl rfl) ?_
    refine Eq.trans (k_region0 rfl (f4r0 k a0 a1 a2)) ?_
    refine Eq.trans k_assoc ?_
    refine Eq.trans (k_region rfl (f4r1 k a0 a1 a2)) ?_
    refine bindE (fun o2 => ?_)
    refine Eq.trans (k_cond (t := o2) rfl) ?_
    refine bifE2 (fun hc => ?_) fun hc => ?_
    · rw [hc]
      refine Eq.trans k_assoc ?_
      refine Eq.trans (k_region rfl (f4r2 k a0 a1 a2)) ?_
      refine bindE (fun o4 => ?_)
      refine Eq.trans k_ret ?_
      rfl
    · rw [hc]
      refine Eq.trans k_skip ?_
      refine Eq.trans (k_region rfl (f4r3 k a0 a1 a2)) ?_
      refine bindE (fun o6 => ?_)
      refine Eq.trans (k_region rfl (f4r4 k a0 a1 a2 o6)) ?_
      refine bindE (fun o8 => ?_)
      refine Eq.trans k_assoc ?_
      refine Eq.trans (k_region rfl (f4r5 k a0 a1 a2 o6 o8)) ?_
      refine bindE (fun o9 => ?_)
      refine Eq.trans (k_cond (t := o9) rfl) ?_
      refine bifE2 (fun hc => ?_) fun hc => ?_
      · rw [hc]
        refine Eq.trans k_assoc ?_
        refine Eq.trans (k_region0 rfl (f4r6 k a0 a1 a2)) ?_
        refine Eq.trans k_ret ?_
        rfl
      · rw [hc]
        refine Eq.trans k_skip ?_
        refine Eq.trans (k_region rfl (f4r7 k a0 a1 a2)) ?_
        refine bindE (fun o11 => ?_)
        refine Eq.trans (k_region rfl (f4r8 k a0 a1 a2 o11)) ?_
        refine bindE (fun o13 => ?_)
        refine Eq.trans (k_region rfl (f4r9 k o11 o13)) ?_
        refine bindE (fun o15 => ?_)
        refine Eq.trans k_lret ?_
        rfl
def slices_Equal_Search_fin : Bool → V × List V := fun r => ((V.bool r), [])
theorem f49r0 (k : Nat) (a0 : (List T_api_Search)) (a1 : (List T_api_Search)) : RE k f49a0 f49o0 false ⟨[(0, (sSearch a0)), (1, (sSearch a1))], [], 26⟩ = some ⟨[(0, (sSearch a0)), (1, (sSearch a1))], [], 26⟩ :=
  rE rfl
theorem f49r1 (k : Nat) (a0 : (List T_api_Search)) (a1 : (List T_api_Search)) : RE k f49a1 f49o1 false ⟨[(0, (sSearch a0)), (1, (sSearch a1))], [], 26⟩ = some ⟨[(0, (sSearch a0)), (1, (sSearch a1)), (10, (V.bool ((a0.length : Int) != (a1.length : Int))))], [], 26⟩ := by
  refine rg ?_
  refine ra 1 1 ⟨[(0, (sSearch a0)), (1, (sSearch a1)), (6, (sSearch a0))], [], 26⟩ rfl rfl rfl ?_
  refine Eq.trans (reg_pure (x := some ()) (w := fun _ => (I (a0.length : Int))) rfl rfl rfl rfl (p_len (e := enc_T_api_Search) rfl rfl rfl rfl rfl rfl Go.Proofs.Try.underlying23)) ?_
  refine Eq.trans some_bind ?_
  refine ba 1 3 ⟨[(0, (sSearch a0)), (1, (sSearch a1)), (6, (sSearch a0)), (7, (I (a0.length : Int))), (8, (sSearch a1))], [], 26⟩ rfl rfl rfl ?_
  refine Eq.trans (reg_pure (x := some ()) (w := fun _ => (I (a1.length : Int))) rfl rfl rfl rfl (p_len (e := enc_T_api_Search) rfl rfl rfl rfl rfl rfl Go.Proofs.Try.underlying23)) ?_
  refine Eq.trans some_bind ?_
  exact bind_end rfl
theorem f49r2 (k : Nat) (a0 : (List T_api_Search)) (a1 : (List T_api_Search)) : RE k f49a2 f49o2 false ⟨[(0, (sSearch a0)), (1, (sSearch a1)), (10, (V.bool true))], [], 26⟩ = some ⟨[(4, (V.bool false))], [], 26⟩ :=
  rE rfl
theorem f49r3 (k : Nat) (a0 : (List T_api_Search)) (a1 : (List T_api_Search)) : RE k f49a3 f49o3 false ⟨[(0, (sSearch a0)), (1, (sSearch a1)), (10, (V.bool false))], [], 26⟩ = some ⟨[(0, (sSearch a0)), (1, (sSearch a1)), (12, (I (a0.length : Int))), (13, (I 0))], [], 26⟩ := by
  refine rg ?_
  refine ra 1 1 ⟨[(0, (sSearch a0)), (1, (sSearch a1)), (10, (V.bool false)), (11, (sSearch a0))], [], 26⟩ rfl rfl rfl ?_
  refine Eq.trans (reg_pure (x := some ()) (w := fun _ => (I (a0.length : Int))) rfl rfl rfl rfl (p_len (e := enc_T_api_Search) rfl rfl rfl rfl rfl rfl Go.Proofs.Try.underlying23)) ?_
  refine Eq.trans some_bind ?_
  exact bind_end rfl
theorem f49r4 (k : Nat) (a0 : (List T_api_Search)) (a1 : (List T_api_Search)) (x4 : Int) : RE k f49a4 f49o4 false ⟨[(0, (sSearch a0)), (1, (sSearch a1)), (12, (I (a0.length : Int))), (13, (I x4))], [], 26⟩ = some ⟨[(0, (sSearch a0)), (1, (sSearch a1)), (12, (I (a0.length : Int))), (13, (I x4)), (14, (V.bool (decide (x4 < (a0.length : Int)))))], [], 26⟩ :=
  rE rfl
theorem f49r5 (k : Nat) (a0 : (List T_api_Search)) (a1 : (List T_api_Search)) (x4 : Int) : RE k f49a5 f49o5 false ⟨[(0, (sSearch a0)), (1, (sSearch a1)), (12, (I (a0.length : Int))), (13, (I x4)), (14, (V.bool true))], [], 26⟩ = some ⟨[(0, (sSearch a0)), (1, (sSearch a1)), (5, (I x4)), (12, (I (a0.length : Int))), (13, (I x4))], [], 26⟩ :=
  rE rfl
theorem f49r6 (k : Nat) (a0 : (List T_api_Search)) (a1 : (List T_api_Search)) (x4 : Int) : RE k f49a6 f49o6 true ⟨[(0, (sSearch a0)), (1, (sSearch a1)), (5, (I x4)), (12, (I (a0.length : Int))), (13, (I x4))], [], 26⟩ = (((idx a0 x4).bind fun v5 => ((idx a1 x4).bind fun v6 => (some ((!(v5.fName == v6.fName && (v5.fType == v6.fType && (v5.fField == v6.fField && (v5.fSparse == v6.fSparse && true)))))))))).map (fun (o : Bool) => (⟨[(0, (sSearch a0)), (1, (sSearch a1)), (12, (I (a0.length : Int))), (13, (I x4)), (24, (V.bool o))], [], 26⟩ : St)) := by
  refine Eq.trans (regionE_regp (p := 9) (dk := true) (t := [(0, (sSearch a0)), (1, (sSearch a1)), (5, (I x4)), (12, (I (a0.length : Int))), (13, (I x4))]) (σ := []) (n := 26) (by decide) (by decide) rfl) ?_
  refine Eq.trans (regp_adv (m := 2) (j := 2) (t' := [(0, (sSearch a0)), (1, (sSearch a1)), (5, (I x4)), (12, (I (a0.length : Int))), (13, (I x4)), (16, (sSearch a0)), (17, (I x4))]) rfl rfl rfl) ?_
  refine Eq.trans (regp_pure (x := (idx a0 x4)) (w := fun v5 => (V.pro (enc_T_api_Search v5))) rfl rfl rfl rfl rfl (p_index (e := enc_T_api_Search) rfl rfl rfl Go.Proofs.Try.underlying23 rfl (by decide))) ?_
  refine bindE (fun v5 => ?_)
  refine Eq.trans (putp_adv (m := 3) (j := 6) (t' := [(0, (sSearch a0)), (1, (sSearch a1)), (5, (I x4)), (12, (I (a0.length : Int))), (13, (I x4)), (16, (sSearch a0)), (17, (I x4)), (18, (V.pro (enc_T_api_Search v5))), (19, (enc_T_api_Search v5)), (20, (sSearch a1)), (21, (I x4))]) rfl rfl rfl) ?_
  refine Eq.trans (regp_pure (x := (idx a1 x4)) (w := fun v6 => (V.pro (enc_T_api_Search v6))) rfl rfl rfl rfl rfl (p_index (e := enc_T_api_Search) rfl rfl rfl Go.Proofs.Try.underlying23 rfl (by decide))) ?_
  refine bindE (fun v6 => ?_)
  refine Eq.trans (putp_adv (m := 1) (j := 8) (t' := [(0, (sSearch a0)), (1, (sSearch a1)), (5, (I x4)), (12, (I (a0.length : Int))), (13, (I x4)), (16, (sSearch a0)), (17, (I x4)), (18, (V.pro (enc_T_api_Search v5))), (19, (enc_T_api_Search v5)), (20, (sSearch a1)), (21, (I x4)), (22, (V.pro (enc_T_api_Search v6))), (23, (enc_T_api_Search v6))]) rfl rfl rfl) ?_
  refine Eq.trans (regp_pure (x := some ()) (w := fun _ => (V.bool (!(v5.fName == v6.fName && (v5.fType == v6.fType && (v5.fField == v6.fField && (v5.fSparse == v6.fSparse && true))))))) rfl rfl rfl rfl rfl (p_neS rfl rfl rfl Go.Proofs.Try.underlying69 sih69 eqg69 rfl)) ?_
  refine Eq.trans some_bind ?_
  exact regp_end rfl
theorem f49r7 (k : Nat) (a0 : (List T_api_Search)) (a1 : (List T_api_Search)) (x4 : Int) : RE k f49a7 f49o7 false ⟨[(0, (sSearch a0)), (1, (sSearch a1)), (12, (I (a0.length : Int))), (13, (I x4)), (24, (V.bool true))], [], 26⟩ = some ⟨[(4, (V.bool false))], [], 26⟩ :=
  rE rfl
theorem f49r8 (k : Nat) (a0 : (List T_api_Search)) (a1 : (List T_api_Search)) (x4 : Int) : RE k f49a8 f49o8 false ⟨[(0, (sSearch a0)), (1, (sSearch a1)), (12, (I (a0.length : Int))), (13, (I x4)), (24, (V.bool false))], [], 26⟩ = some ⟨[(0, (sSearch a0)), (1, (sSearch a1)), (12, (I (a0.length : Int))), (13, (I (Go.IntKind.wrap .i64 (x4 + 1))))], [], 26⟩ :=
  rE rfl
theorem slices_Equal_Search_L1_ok (k : Nat) (a0 : (List T_api_Search)) (a1 : (List T_api_Search))  (K0 : Int → Option Bool) (Kst : X × St → Option (V × List V)) (hK0 : ∀ (y0 : Int), Kst (X.exit 0, ⟨[(0, (sSearch a0)), (1, (sSearch a1)), (12, (I (a0.length : Int))), (13, (I y0)), (14, (V.bool false))], [], 26⟩) = (K0 y0).map slices_Equal_Search_fin) (hret : ∀ s, Kst (X.ret, s) = endK prog 26 [(sSearch a0), (sSearch a1)] [] [.tmp 4] (X.ret, s)) :
    ∀ (m : Nat) (x4 : Int), (iter (exec prog (EV k) f49n k f49b0) m ⟨[(0, (sSearch a0)), (1, (sSearch a1)), (12, (I (a0.length : Int))), (13, (I x4))], [], 26⟩).bind Kst = (slices_Equal_Search_L1 a0 a1 K0 m x4).map slices_Equal_Search_fin := by
  intro m
  induction m with
  | zero => intros; rfl
  | succ m ih =>
    intro x4
    unfold slices_Equal_Search_L1
    refine Eq.trans k_round ?_
    refine Eq.trans (k_region0 rfl (f49r4 k a0 a1 x4)) ?_
    refine Eq.trans (k_cond (t := (decide (x4 < (a0.length : Int)))) rfl) ?_
    refine bifE2 (fun hc => ?_) fun hc => ?_
    · rw [hc]
      refine Eq.trans k_skip ?_
      refine Eq.trans k_block ?_
      refine Eq.trans (k_region0 rfl (f49r5 k a0 a1 x4)) ?_
      refine Eq.trans (k_region rfl (f49r6 k a0 a1 x4)) ?_
      refine bindE (fun o7 => ?_)
      refine Eq.trans (k_lcond (t := o7) rfl) ?_
      refine bifE2 (fun hc => ?_) fun hc => ?_
      · rw [hc]
        refine Eq.trans (k_region0 rfl (f49r7 k a0 a1 x4)) ?_
        refine Eq.trans k_lret ?_
        refine Eq.trans blk_ret ?_
        refine Eq.trans loop_ret ?_
        refine Eq.trans (hret _) ?_
        rfl
      · rw [hc]
        refine Eq.trans k_lskip ?_
        refine Eq.trans blk_normal ?_
        refine Eq.trans (k_lregion0 rfl (f49r8 k a0 a1 x4)) ?_
        refine Eq.trans loop_normal ?_
        exact ih (Go.IntKind.wrap .i64 (x4 + 1))
    · rw [hc]
      refine Eq.trans k_exit ?_
      refine Eq.trans loop_exit ?_
      exact hK0 x4
theorem f49r9 (k : Nat) (a0 : (List T_api_Search)) (a1 : (List T_api_Search)) (y8 : Int) : RE k f49a9 f49o9 false ⟨[(0, (sSearch a0)), (1, (sSearch a1)), (12, (I (a0.length : Int))), (13, (I y8)), (14, (V.bool false))], [], 26⟩ = some ⟨[(4, (V.bool true))], [], 26⟩ :=
  rE rfl
theorem slices_Equal_Search_ok (k : Nat) (a0 : (List T_api_Search)) (a1 : (List T_api_Search)) : EV k 49 [(sSearch a0), (sSearch a1)] = (slices_Equal_Search k a0 a1).map slices_Equal_Search_fin := by
  cases k with
  | zero => rfl
  | succ k =>
    unfold slices_Equal_Search
    refine Eq.trans (evF_succ (c := f49c) (N := 26) (regs := f49n) rfl Go.Proofs.Try.func49 rfl (by decide) rfl rfl rfl) ?_
    refine Eq.trans (k_region0 rfl (f49r0 k a0 a1)) ?_
    refine Eq.trans k_assoc ?_
    refine Eq.trans (k_region0 rfl (f49r1 k a0 a1)) ?_
    refine Eq.trans (k_cond (t := ((a0.length : Int) != (a1.length : Int))) rfl) ?_
    refine bifE2 (fun hc => ?_) fun hc => ?_
    · rw [hc]
      refine Eq.trans k_assoc ?_
      refine Eq.trans (k_region0 rfl (f49r2 k a0 a1)) ?_
      refine Eq.trans k_ret ?_
      rfl
    · rw [hc]
      refine Eq.trans k_skip ?_
      refine Eq.trans k_assoc ?_
      refine Eq.trans (k_region0 rfl (f49r3 k a0 a1)) ?_
      refine Eq.trans k_block ?_
      refine Eq.trans k_loop ?_
      refine slices_Equal_Search_L1_ok k a0 a1 _ _ ?h_slices_Equal_Search_L1_0 ?hr_slices_Equal_Search_L1 k 0
      · intro y8
        refine Eq.trans blk_exit ?_
        refine Eq.trans (k_region0 rfl (f49r9 k a0 a1 y8)) ?_
        refine Eq.trans k_lret ?_
        rfl
      · intro s; exact rfl
def slices_EqualFunc_Type_v20_fin : Bool → V × List V := fun r => ((V.bool r), [])
theorem f50v20r0 (k : Nat) (a0 : (List T_api_Type)) (a1 : (List T_api_Type)) (a2 : Nat → T_api_Type → T_api_Type → Option Bool) (a2_fid : Go.FuncId)  (a2_hok : ∀ j x0 x1, EV j a2_fid [(enc_T_api_Type x0), (enc_T_api_Type x1)] = (a2 j x0 x1).map fun b => ((V.bool b), [])) : RE k f50v20a0 f50v20o0 false ⟨[(0, (sType a0)), (1, (sType a1)), (2, (V.fn a2_fid [] []))], [], 32⟩ = some ⟨[(0, (sType a0)), (1, (sType a1)), (2, (V.fn a2_fid [] []))], [], 32⟩ :=
  rE rfl
theorem f50v20r1 (k : Nat) (a0 : (List T_api_Type)) (a1 : (List T_api_Type)) (a2 : Nat → T_api_Type → T_api_Type → Option Bool) (a2_fid : Go.FuncId)  (a2_hok : ∀ j x0 x1, EV j a2_fid [(enc_T_api_Type x0), (enc_T_api_Type x1)] = (a2 j x0 x1).map fun b => ((V.bool b), [])) : RE k f50v20a1 f50v20o1 false ⟨[(0, (sType a0)), (1, (sType a1)), (2, (V.fn a2_fid [] []))], [], 32⟩ = some ⟨[(0, (sType a0)), (1, (sType a1)), (2, (V.fn a2_fid [] [])), (14, (V.bool ((a0.length : Int) != (a1.length : Int))))], [], 32⟩ := by
  refine rg ?_
  refine ra 1 1 ⟨[(0, (sType a0)), (1, (sType a1)), (2, (V.fn a2_fid [] [])), (10, (sType a0))], [], 32⟩ rfl rfl rfl ?_
  refine Eq.trans (reg_pure (x := some ()) (w := fun _ => (I (a0.length : Int))) rfl rfl rfl rfl (p_len (e := enc_T_api_Type) rfl rfl rfl rfl rfl rfl Go.Proofs.Try.underlying22)) ?_
  refine Eq.trans some_bind ?_
  refine ba 1 3 ⟨[(0, (sType a0)), (1, (sType a1)), (2, (V.fn a2_fid [] [])), (10, (sType a0)), (11, (I (a0.length : Int))), (12, (sType a1))], [], 32⟩ rfl rfl rfl ?_
  refine Eq.trans (reg_pure (x := some ()) (w := fun _ => (I (a1.length : Int))) rfl rfl rfl rfl (p_len (e := enc_T_api_Type) rfl rfl rfl rfl rfl rfl Go.Proofs.Try.underlying22)) ?_
  refine Eq.trans some_bind ?_
  exact bind_end rfl
theorem f50v20r2 (k : Nat) (a0 : (List T_api_Type)) (a1 : (List T_api_Type)) (a2 : Nat → T_api_Type → T_api_Type → Option Bool) (a2_fid : Go.FuncId)  (a2_hok : ∀ j x0 x1, EV j a2_fid [(enc_T_api_Type x0), (enc_T_api_Type x1)] = (a2 j x0 x1).map fun b => ((V.bool b), [])) : RE k f50v20a2 f50v20o2 false ⟨[(0, (sType a0)), (1, (sType a1)), (2, (V.fn a2_fid [] [])), (14, (V.bool true))], [], 32⟩ = some ⟨[(6, (V.bool false))], [], 32⟩ :=
  rE rfl
theorem f50v20r3 (k : Nat) (a0 : (List T_api_Type)) (a1 : (List T_api_Type)) (a2 : Nat → T_api_Type → T_api_Type → Option Bool) (a2_fid : Go.FuncId)  (a2_hok : ∀ j x0 x1, EV j a2_fid [(enc_T_api_Type x0), (enc_T_api_Type x1)] = (a2 j x0 x1).map fun b => ((V.bool b), [])) : RE k f50v20a3 f50v20o3 false ⟨[(0, (sType a0)), (1, (sType a1)), (2, (V.fn a2_fid [] [])), (14, (V.bool false))], [], 32⟩ = some ⟨[(1, (sType a1)), (2, (V.fn a2_fid [] [])), (15, (sType a0)), (16, (I (a0.length : Int))), (17, (I 0))], [], 32⟩ := by
  refine rg ?_
  refine ra 1 1 ⟨[(0, (sType a0)), (1, (sType a1)), (2, (V.fn a2_fid [] [])), (14, (V.bool false)), (15, (sType a0))], [], 32⟩ rfl rfl rfl ?_
  refine Eq.trans (reg_pure (x := some ()) (w := fun _ => (I (a0.length : Int))) rfl rfl rfl rfl (p_len (e := enc_T_api_Type) rfl rfl rfl rfl rfl rfl Go.Proofs.Try.underlying22)) ?_
  refine Eq.trans some_bind ?_
  exact bind_end rfl
theorem f50v20r4 (k : Nat) (a0 : (List T_api_Type)) (a1 : (List T_api_Type)) (x7 : Int) (a2 : Nat → T_api_Type → T_api_Type → Option Bool) (a2_fid : Go.FuncId)  (a2_hok : ∀ j x0 x1, EV j a2_fid [(enc_T_api_Type x0), (enc_T_api_Type x1)] = (a2 j x0 x1).map fun b => ((V.bool b), [])) : RE k f50v20a4 f50v20o4 false ⟨[(1, (sType a1)), (2, (V.fn a2_fid [] [])), (15, (sType a0)), (16, (I (a0.length : Int))), (17, (I x7))], [], 32⟩ = some ⟨[(1, (sType a1)), (2, (V.fn a2_fid [] [])), (15, (sType a0)), (16, (I (a0.length : Int))), (17, (I x7)), (18, (V.bool (decide (x7 < (a0.length : Int)))))], [], 32⟩ :=
  rE rfl
theorem f50v20r5 (k : Nat) (a0 : (List T_api_Type)) (a1 : (List T_api_Type)) (x7 : Int) (a2 : Nat → T_api_Type → T_api_Type → Option Bool) (a2_fid : Go.FuncId)  (a2_hok : ∀ j x0 x1, EV j a2_fid [(enc_T_api_Type x0), (enc_T_api_Type x1)] = (a2 j x0 x1).map fun b => ((V.bool b), [])) : RE k f50v20a5 f50v20o5 false ⟨[(1, (sType a1)), (2, (V.fn a2_fid [] [])), (15, (sType a0)), (16, (I (a0.length : Int))), (17, (I x7)), (18, (V.bool true))], [], 32⟩ = (((idx a0 x7).bind fun v8 => (some (x7, v8)))).map (fun (o : Int × T_api_Type) => (⟨[(1, (sType a1)), (2, (V.fn a2_fid [] [])), (7, (I o.1)), (8, (V.ptr 8 0 0)), (15, (sType a0)), (16, (I (a0.length : Int))), (17, (I x7))], [(8, ⟨false, 8, [(enc_T_api_Type o.2)]⟩)], 32⟩ : St)) := by
  refine rg ?_
  refine ra 1 1 ⟨[(1, (sType a1)), (2, (V.fn a2_fid [] [])), (15, (sType a0)), (16, (I (a0.length : Int))), (17, (I x7)), (18, (V.bool true)), (19, (I x7))], [], 32⟩ rfl rfl rfl ?_
  refine Eq.trans (reg_pure (x := (idx a0 x7)) (w := fun v8 => (V.pro (enc_T_api_Type v8))) rfl rfl rfl rfl (p_index (e := enc_T_api_Type) rfl rfl rfl Go.Proofs.Try.underlying22 rfl (by decide))) ?_
  refine bindE (fun v8 => ?_)
  exact bind_end rfl
theorem f50v20r6 (k : Nat) (a0 : (List T_api_Type)) (a1 : (List T_api_Type)) (x7 : Int) (o9 : Int × T_api_Type) (a2 : Nat → T_api_Type → T_api_Type → Option Bool) (a2_fid : Go.FuncId)  (a2_hok : ∀ j x0 x1, EV j a2_fid [(enc_T_api_Type x0), (enc_T_api_Type x1)] = (a2 j x0 x1).map fun b => ((V.bool b), [])) : RE k f50v20a6 f50v20o6 false ⟨[(1, (sType a1)), (2, (V.fn a2_fid [] [])), (7, (I o9.1)), (8, (V.ptr 8 0 0)), (15, (sType a0)), (16, (I (a0.length : Int))), (17, (I x7))], [(8, ⟨false, 8, [(enc_T_api_Type o9.2)]⟩)], 32⟩ = ((idx a1 o9.1)).map (fun (o : T_api_Type) => (⟨[(1, (sType a1)), (2, (V.fn a2_fid [] [])), (8, (V.ptr 8 0 0)), (9, (V.ptr 9 0 0)), (15, (sType a0)), (16, (I (a0.length : Int))), (17, (I x7))], [(8, ⟨false, 8, [(enc_T_api_Type o9.2)]⟩), (9, ⟨false, 8, [(enc_T_api_Type o)]⟩)], 32⟩ : St)) := by
  refine rg ?_
  refine ra 2 2 ⟨[(1, (sType a1)), (2, (V.fn a2_fid [] [])), (7, (I o9.1)), (8, (V.ptr 8 0 0)), (15, (sType a0)), (16, (I (a0.length : Int))), (17, (I x7)), (22, (sType a1)), (23, (I o9.1))], [(8, ⟨false, 8, [(enc_T_api_Type o9.2)]⟩)], 32⟩ rfl rfl rfl ?_
  refine Eq.trans (reg_pure (x := (idx a1 o9.1)) (w := fun v10 => (V.pro (enc_T_api_Type v10))) rfl rfl rfl rfl (p_index (e := enc_T_api_Type) rfl rfl rfl Go.Proofs.Try.underlying22 rfl (by decide))) ?_
  refine bind_self (fun v10 => ?_)
  exact bind_end rfl
theorem f50v20r7 (k : Nat) (a0 : (List T_api_Type)) (a1 : (List T_api_Type)) (x7 : Int) (o9 : Int × T_api_Type) (o11 : T_api_Type) (a2 : Nat → T_api_Type → T_api_Type → Option Bool) (a2_fid : Go.FuncId)  (a2_hok : ∀ j x0 x1, EV j a2_fid [(enc_T_api_Type x0), (enc_T_api_Type x1)] = (a2 j x0 x1).map fun b => ((V.bool b), [])) : RE k f50v20a7 f50v20o7 false ⟨[(1, (sType a1)), (2, (V.fn a2_fid [] [])), (8, (V.ptr 8 0 0)), (9, (V.ptr 9 0 0)), (15, (sType a0)), (16, (I (a0.length : Int))), (17, (I x7))], [(8, ⟨false, 8, [(enc_T_api_Type o9.2)]⟩), (9, ⟨false, 8, [(enc_T_api_Type o11)]⟩)], 32⟩ = (((a2 k o9.2 o11).bind fun v12 => (some ((!v12))))).map (fun (o : Bool) => (⟨[(1, (sType a1)), (2, (V.fn a2_fid [] [])), (15, (sType a0)), (16, (I (a0.length : Int))), (17, (I x7)), (30, (V.bool o))], [], 32⟩ : St)) := by
  refine rg ?_
  refine ra 3 3 ⟨[(1, (sType a1)), (2, (V.fn a2_fid [] [])), (8, (V.ptr 8 0 0)), (9, (V.ptr 9 0 0)), (15, (sType a0)), (16, (I (a0.length : Int))), (17, (I x7)), (26, (V.fn a2_fid [] [])), (27, (enc_T_api_Type o9.2)), (28, (enc_T_api_Type o11))], [(8, ⟨false, 8, [(enc_T_api_Type o9.2)]⟩), (9, ⟨false, 8, [(enc_T_api_Type o11)]⟩)], 32⟩ rfl rfl rfl ?_
  refine Eq.trans (reg_pure (x := (a2 k o9.2 o11)) (w := fun v12 => (V.bool v12)) rfl rfl rfl rfl (p_call rfl rfl rfl rfl rfl (a2_hok k o9.2 o11) (.inl rfl))) ?_
  refine bindE (fun v12 => ?_)
  exact bind_end rfl
theorem f50v20r8 (k : Nat) (a0 : (List T_api_Type)) (a1 : (List T_api_Type)) (x7 : Int) (a2 : Nat → T_api_Type → T_api_Type → Option Bool) (a2_fid : Go.FuncId)  (a2_hok : ∀ j x0 x1, EV j a2_fid [(enc_T_api_Type x0), (enc_T_api_Type x1)] = (a2 j x0 x1).map fun b => ((V.bool b), [])) : RE k f50v20a8 f50v20o8 false ⟨[(1, (sType a1)), (2, (V.fn a2_fid [] [])), (15, (sType a0)), (16, (I (a0.length : Int))), (17, (I x7)), (30, (V.bool true))], [], 32⟩ = some ⟨[(6, (V.bool false))], [], 32⟩ :=
  rE rfl
theorem f50v20r9 (k : Nat) (a0 : (List T_api_Type)) (a1 : (List T_api_Type)) (x7 : Int) (a2 : Nat → T_api_Type → T_api_Type → Option Bool) (a2_fid : Go.FuncId)  (a2_hok : ∀ j x0 x1, EV j a2_fid [(enc_T_api_Type x0), (enc_T_api_Type x1)] = (a2 j x0 x1).map fun b => ((V.bool b), [])) : RE k f50v20a9 f50v20o9 false ⟨[(1, (sType a1)), (2, (V.fn a2_fid [] [])), (15, (sType a0)), (16, (I (a0.length : Int))), (17, (I x7)), (30, (V.bool false))], [], 32⟩ = some ⟨[(1, (sType a1)), (2, (V.fn a2_fid [] [])), (15, (sType a0)), (16, (I (a0.length : Int))), (17, (I (Go.IntKind.wrap .i64 (x7 + 1))))], [], 32⟩ :=
  rE rfl
theorem slices_EqualFunc_Type_v20_L1_ok (k : Nat) (a0 : (List T_api_Type)) (a1 : (List T_api_Type)) (a2 : Nat → T_api_Type → T_api_Type → Option Bool) (a2_fid : Go.FuncId)  (a2_hok : ∀ j x0 x1, EV j a2_fid [(enc_T_api_Type x0), (enc_T_api_Type x1)] = (a2 j x0 x1).map fun b => ((V.bool b), [])) (K0 : Int → Option Bool) (Kst : X × St → Option (V × List V)) (hK0 : ∀ (y0 : Int), Kst (X.exit 0, ⟨[(1, (sType a1)), (2, (V.fn a2_fid [] [])), (15, (sType a0)), (16, (I (a0.length : Int))), (17, (I y0)), (18, (V.bool false))], [], 32⟩) = (K0 y0).map slices_EqualFunc_Type_v20_fin) (hret : ∀ s, Kst (X.ret, s) = endK prog 32 [(sType a0), (sType a1), (V.fn a2_fid [] [])] [] [.tmp 6] (X.ret, s)) :
    ∀ (m : Nat) (x7 : Int), (iter (exec prog (EV k) f50v20n k f50v20b0) m ⟨[(1, (sType a1)), (2, (V.fn a2_fid [] [])), (15, (sType a0)), (16, (I (a0.length : Int))), (17, (I x7))], [], 32⟩).bind Kst = (slices_EqualFunc_Type_v20_L1 k a0 a1 a2 K0 m x7).map slices_EqualFunc_Type_v20_fin := by
  intro m
  induction m with
  | zero => intros; rfl
  | succ m ih =>
    intro x7
    unfold slices_EqualFunc_Type_v20_L1
    refine Eq.trans k_round ?_
    refine Eq.trans (k_region0 rfl (f50v20r4 k a0 a1 x7 a2 a2_fid a2_hok)) ?_
    refine Eq.trans (k_cond (t := (decide (x7 < (a0.length : Int)))) rfl) ?_
    refine bifE2 (fun hc => ?_) fun hc => ?_
    · rw [hc]
      refine Eq.trans k_skip ?_
      refine Eq.trans k_block ?_
      refine Eq.trans (k_region rfl (f50v20r5 k a0 a1 x7 a2 a2_fid a2_hok)) ?_
      refine bindE (fun o9 => ?_)
      refine Eq.trans (k_region rfl (f50v20r6 k a0 a1 x7 o9 a2 a2_fid a2_hok)) ?_
      refine bindE (fun o11 => ?_)
      refine Eq.trans (k_region rfl (f50v20r7 k a0 a1 x7 o9 o11 a2 a2_fid a2_hok)) ?_
      refine bindE (fun o13 => ?_)
      refine Eq.trans (k_lcond (t := o13) rfl) ?_
      refine bifE2 (fun hc => ?_) fun hc => ?_
      · rw [hc]
        refine Eq.trans (k_region0 rfl (f50v20r8 k a0 a1 x7 a2 a2_fid a2_hok)) ?_
        refine Eq.trans k_lret ?_
        refine Eq.trans blk_ret ?_
        refine Eq.trans loop_ret ?_
        refine Eq.trans (hret _) ?_
        rfl
      · rw [hc]
        refine Eq.trans k_lskip ?_
        refine Eq.trans blk_normal ?_
        refine Eq.trans (k_lregion0 rfl (f50v20r9 k a0 a1 x7 a2 a2_fid a2_hok)) ?_
        refine Eq.trans loop_normal ?_
        exact ih (Go.IntKind.wrap .i64 (x7 + 1))
    · rw [hc]
      refine Eq.trans k_exit ?_
      refine Eq.trans loop_exit ?_
      exact hK0 x7
theorem f50v20r10 (k : Nat) (a0 : (List T_api_Type)) (a1 : (List T_api_Type)) (y14 : Int) (a2 : Nat → T_api_Type → T_api_Type → Option Bool) (a2_fid : Go.FuncId)  (a2_hok : ∀ j x0 x1, EV j a2_fid [(enc_T_api_Type x0), (enc_T_api_Type x1)] = (a2 j x0 x1).map fun b => ((V.bool b), [])) : RE k f50v20a10 f50v20o10 false ⟨[(1, (sType a1)), (2, (V.fn a2_fid [] [])), (15, (sType a0)), (16, (I (a0.length : Int))), (17, (I y14)), (18, (V.bool false))], [], 32⟩ = some ⟨[(6, (V.bool true))], [], 32⟩ :=
  rE rfl
theorem slices_EqualFunc_Type_v20_ok (k : Nat) (a0 : (List T_api_Type)) (a1 : (List T_api_Type)) (a2 : Nat → T_api_Type → T_api_Type → Option Bool) (a2_fid : Go.FuncId)  (a2_hok : ∀ j x0 x1, EV j a2_fid [(enc_T_api_Type x0), (enc_T_api_Type x1)] = (a2 j x0 x1).map fun b => ((V.bool b), [])) : EV k 50 [(sType a0), (sType a1), (V.fn a2_fid [] [])] = (slices_EqualFunc_Type_v20 k a0 a1 a2).map slices_EqualFunc_Type_v20_fin := by
  cases k with
  | zero => rfl
  | succ k =>
    unfold slices_EqualFunc_Type_v20
    refine Eq.trans (evF_succ (c := f50v20c) (N := 32) (regs := f50v20n) rfl Go.Proofs.Try.func50 rfl (by decide) rfl rfl rfl) ?_
    refine Eq.trans (k_region0 rfl (f50v20r0 k a0 a1 a2 a2_fid a2_hok)) ?_
    refine Eq.trans k_assoc ?_
    refine Eq.trans (k_region0 rfl (f50v20r1 k a0 a1 a2 a2_fid a2_hok)) ?_
    refine Eq.trans (k_cond (t := ((a0.length : Int) != (a1.length : Int))) rfl) ?_
    refine bifE2 (fun hc => ?_) fun hc => ?_
    · rw [hc]
      refine Eq.trans k_assoc ?_
      refine Eq.trans (k_region0 rfl (f50v20r2 k a0 a1 a2 a2_fid a2_hok)) ?_
      refine Eq.trans k_ret ?_
      rfl
    · rw [hc]
      refine Eq.trans k_skip ?_
      refine Eq.trans k_assoc ?_
      refine Eq.trans (k_region0 rfl (f50v20r3 k a0 a1 a2 a2_fid a2_hok)) ?_
      refine Eq.trans k_block ?_
      refine Eq.trans k_loop ?_
      refine slices_EqualFunc_Type_v20_L1_ok k a0 a1 a2 a2_fid a2_hok _ _ ?h_slices_EqualFunc_Type_v20_L1_0 ?hr_slices_EqualFunc_Type_v20_L1 k 0
      · intro y14
        refine Eq.trans blk_exit ?_
        refine Eq.trans (k_region0 rfl (f50v20r10 k a0 a1 y14 a2 a2_fid a2_hok)) ?_
        refine Eq.trans k_lret ?_
        rfl
      · intro s; exact rfl
def slices_Equal_Field_fin : Bool → V × List V := fun r => ((V.bool r), [])
theorem f52r0 (k : Nat) (a0 : (List T_api_Field)) (a1 : (List T_api_Field)) : RE k f52a0 f52o0 false ⟨[(0, (sField a0)), (1, (sField a1))], [], 26⟩ = some ⟨[(0, (sField a0)), (1, (sField a1))], [], 26⟩ :=
  rE rfl
theorem f52r1 (k : Nat) (a0 : (List T_api_Field)) (a1 : (List T_api_Field)) : RE k f52a1 f52o1 false ⟨[(0, (sField a0)), (1, (sField a1))], [], 26⟩ = some ⟨[(0, (sField a0)), (1, (sField a1)), (10, (V.bool ((a0.length : Int) != (a1.length : Int))))], [], 26⟩ := by
  refine rg ?_
  refine ra 1 1 ⟨[(0, (sField a0)), (1, (sField a1)), (6, (sField a0))], [], 26⟩ rfl rfl rfl ?_
  refine Eq.trans (reg_pure (x := some ()) (w := fun _ => (I (a0.length : Int))) rfl rfl rfl rfl (p_len (e := enc_T_api_Field) rfl rfl rfl rfl rfl rfl Go.Proofs.Try.underlying53)) ?_
  refine Eq.trans some_bind ?_
  refine ba 1 3 ⟨[(0, (sField a0)), (1, (sField a1)), (6, (sField a0)), (7, (I (a0.length : Int))), (8, (sField a1))], [], 26⟩ rfl rfl rfl ?_
  refine Eq.trans (reg_pure (x := some ()) (w := fun _ => (I (a1.length : Int))) rfl rfl rfl rfl (p_len (e := enc_T_api_Field) rfl rfl rfl rfl rfl rfl Go.Proofs.Try.underlying53)) ?_
  refine Eq.trans some_bind ?_
  exact bind_end rfl
theorem f52r2 (k : Nat) (a0 : (List T_api_Field)) (a1 : (List T_api_Field)) : RE k f52a2 f52o2 false ⟨[(0, (sField a0)), (1, (sField a1)), (10, (V.bool true))], [], 26⟩ = some ⟨[(4, (V.bool false))], [], 26⟩ :=
  rE rfl
theorem f52r3 (k : Nat) (a0 : (List T_api_Field)) (a1 : (List T_api_Field)) : RE k f52a3 f52o3 false ⟨[(0, (sField a0)), (1, (sField a1)), (10, (V.bool false))], [], 26⟩ = some ⟨[(0, (sField a0)), (1, (sField a1)), (12, (I (a0.length : Int))), (13, (I 0))], [], 26⟩ := by
  refine rg ?_
  refine ra 1 1 ⟨[(0, (sField a0)), (1, (sField a1)), (10, (V.bool false)), (11, (sField a0))], [], 26⟩ rfl rfl rfl ?_
  refine Eq.trans (reg_pure (x := some ()) (w := fun _ => (I (a0.length : Int))) rfl rfl rfl rfl (p_len (e := enc_T_api_Field) rfl rfl rfl rfl rfl rfl Go.Proofs.Try.underlying53)) ?_
  refine Eq.trans some_bind ?_
  exact bind_end rfl
theorem f52r4 (k : Nat) (a0 : (List T_api_Field)) (a1 : (List T_api_Field)) (x4 : Int) : RE k f52a4 f52o4 false ⟨[(0, (sField a0)), (1, (sField a1)), (12, (I (a0.length : Int))), (13, (I x4))], [], 26⟩ = some ⟨[(0, (sField a0)), (1, (sField a1)), (12, (I (a0.length : Int))), (13, (I x4)), (14, (V.bool (decide (x4 < (a0.length : Int)))))], [], 26⟩ :=
  rE rfl
theorem f52r5 (k : Nat) (a0 : (List T_api_Field)) (a1 : (List T_api_Field)) (x4 : Int) : RE k f52a5 f52o5 false ⟨[(0, (sField a0)), (1, (sField a1)), (12, (I (a0.length : Int))), (13, (I x4)), (14, (V.bool true))], [], 26⟩ = some ⟨[(0, (sField a0)), (1, (sField a1)), (5, (I x4)), (12, (I (a0.length : Int))), (13, (I x4))], [], 26⟩ :=
  rE rfl
theorem f52r6 (k : Nat) (a0 : (List T_api_Field)) (a1 : (List T_api_Field)) (x4 : Int) : RE k f52a6 f52o6 true ⟨[(0, (sField a0)), (1, (sField a1)), (5, (I x4)), (12, (I (a0.length : Int))), (13, (I x4))], [], 26⟩ = (((idx a0 x4).bind fun v5 => ((idx a1 x4).bind fun v6 => (some ((!(v5.fName == v6.fName && (v5.fAt == v6.fAt && (v5.fBytes == v6.fBytes && true))))))))).map (fun (o : Bool) => (⟨[(0, (sField a0)), (1, (sField a1)), (12, (I (a0.length : Int))), (13, (I x4)), (24, (V.bool o))], [], 26⟩ : St)) := by
  refine Eq.trans (regionE_regp (p := 9) (dk := true) (t := [(0, (sField a0)), (1, (sField a1)), (5, (I x4)), (12, (I (a0.length : Int))), (13, (I x4))]) (σ := []) (n := 26) (by decide) (by decide) rfl) ?_
  refine Eq.trans (regp_adv (m := 2) (j := 2) (t' := [(0, (sField a0)), (1, (sField a1)), (5, (I x4)), (12, (I (a0.length : Int))), (13, (I x4)), (16, (sField a0)), (17, (I x4))]) rfl rfl rfl) ?_
  refine Eq.trans (regp_pure (x := (idx a0 x4)) (w := fun v5 => (V.pro (enc_T_api_Field v5))) rfl rfl rfl rfl rfl (p_index (e := enc_T_api_Field) rfl rfl rfl Go.Proofs.Try.underlying53 rfl (by decide))) ?_
  refine bindE (fun v5 => ?_)
  refine Eq.trans (putp_adv (m := 3) (j := 6) (t' := [(0, (sField a0)), (1, (sField a1)), (5, (I x4)), (12, (I (a0.length : Int))), (13, (I x4)), (16, (sField a0)), (17, (I x4)), (18, (V.pro (enc_T_api_Field v5))), (19, (enc_T_api_Field v5)), (20, (sField a1)), (21, (I x4))]) rfl rfl rfl) ?_
  refine Eq.trans (regp_pure (x := (idx a1 x4)) (w := fun v6 => (V.pro (enc_T_api_Field v6))) rfl rfl rfl rfl rfl (p_index (e := enc_T_api_Field) rfl rfl rfl Go.Proofs.Try.underlying53 rfl (by decide))) ?_
  refine bindE (fun v6 => ?_)
  refine Eq.trans (putp_adv (m := 1) (j := 8) (t' := [(0, (sField a0)), (1, (sField a1)), (5, (I x4)), (12, (I (a0.length : Int))), (13, (I x4)), (16, (sField a0)), (17, (I x4)), (18, (V.pro (enc_T_api_Field v5))), (19, (enc_T_api_Field v5)), (20, (sField a1)), (21, (I x4)), (22, (V.pro (enc_T_api_Field v6))), (23, (enc_T_api_Field v6))]) rfl rfl rfl) ?_
  refine Eq.trans (regp_pure (x := some ()) (w := fun _ => (V.bool (!(v5.fName == v6.fName && (v5.fAt == v6.fAt && (v5.fBytes == v6.fBytes && true)))))) rfl rfl rfl rfl rfl (p_neS rfl rfl rfl Go.Proofs.Try.underlying65 sih65 eqg65 rfl)) ?_
  refine Eq.trans some_bind ?_
  exact regp_end rfl
theorem f52r7 (k : Nat) (a0 : (List T_api_Field)) (a1 : (List T_api_Field)) (x4 : Int) : RE k f52a7 f52o7 false ⟨[(0, (sField a0)), (1, (sField a1)), (12, (I (a0.length : Int))), (13, (I x4)), (24, (V.bool true))], [], 26⟩ = some ⟨[(4, (V.bool false))], [], 26⟩ :=
  rE rfl
theorem f52r8 (k : Nat) (a0 : (List T_api_Field)) (a1 : (List T_api_Field)) (x4 : Int) : RE k f52a8 f52o8 false ⟨[(0, (sField a0)), (1, (sField a1)), (12, (I (a0.length : Int))), (13, (I x4)), (24, (V.bool false))], [], 26⟩ = some ⟨[(0, (sField a0)), (1, (sField a1)), (12, (I (a0.length : Int))), (13, (I (Go.IntKind.wrap .i64 (x4 + 1))))], [], 26⟩ :=
  rE rfl
theorem slices_Equal_Field_L1_ok (k : Nat) (a0 : (List T_api_Field)) (a1 : (List T_api_Field))  (K0 : Int → Option Bool) (Kst : X × St → Option (V × List V)) (hK0 : ∀ (y0 : Int), Kst (X.exit 0, ⟨[(0, (sField a0)), (1, (sField a1)), (12, (I (a0.length : Int))), (13, (I y0)), (14, (V.bool false))], [], 26⟩) = (K0 y0).map slices_Equal_Field_fin) (hret : ∀ s, Kst (X.ret, s) = endK prog 26 [(sField a0), (sField a1)] [] [.tmp 4] (X.ret, s)) :
    ∀ (m : Nat) (x4 : Int), (iter (exec prog (EV k) f52n k f52b0) m ⟨[(0, (sField a0)), (1, (sField a1)), (12, (I (a0.length : Int))), (13, (I x4))], [], 26⟩).bind Kst = (slices_Equal_Field_L1 a0 a1 K0 m x4).map slices_Equal_Field_fin := by
  intro m
  induction m with
  | zero => intros; rfl
  | succ m ih =>
    intro x4
    unfold slices_Equal_Field_L1
    refine Eq.trans k_round ?_
    refine Eq.trans (k_region0 rfl (f52r4 k a0 a1 x4)) ?_
    refine Eq.trans (k_cond (t := (decide (x4 < (a0.length : Int)))) rfl) ?_
    refine bifE2 (fun hc => ?_) fun hc => ?_
    · rw [hc]
      refine Eq.trans k_skip ?_
      refine Eq.trans k_block ?_
      refine Eq.trans (k_region0 rfl (f52r5 k a0 a1 x4)) ?_
      refine Eq.trans (k_region rfl (f52r6 k a0 a1 x4)) ?_
      refine bindE (fun o7 => ?_)
      refine Eq.trans (k_lcond (t := o7) rfl) ?_
      refine bifE2 (fun hc => ?_) fun hc => ?_
      · rw [hc]
        refine Eq.trans (k_region0 rfl (f52r7 k a0 a1 x4)) ?_
        refine Eq.trans k_lret ?_
        refine Eq.trans blk_ret ?_
        refine Eq.trans loop_ret ?_
        refine Eq.trans (hret _) ?_
        rfl
      · rw [hc]
        refine Eq.trans k_lskip ?_
        refine Eq.trans blk_normal ?_
        refine Eq.trans (k_lregion0 rfl (f52r8 k a0 a1 x4)) ?_
        refine Eq.trans loop_normal ?_
        exact ih (Go.IntKind.wrap .i64 (x4 + 1))
    · rw [hc]
      refine Eq.trans k_exit ?_
      refine Eq.trans loop_exit ?_
      exact hK0 x4
theorem f52r9 (k : Nat) (a0 : (List T_api_Field)) (a1 : (List T_api_Field)) (y8 : Int) : RE k f52a9 f52o9 false ⟨[(0, (sField a0)), (1, (sField a1)), (12, (I (a0.length : Int))), (13, (I y8)), (14, (V.bool false))], [], 26⟩ = some ⟨[(4, (V.bool true))], [], 26⟩ :=
  rE rfl
theorem slices_Equal_Field_ok (k : Nat) (a0 : (List T_api_Field)) (a1 : (List T_api_Field)) : EV k 52 [(sField a0), (sField a1)] = (slices_Equal_Field k a0 a1).map slices_Equal_Field_fin := by
  cases k with
  | zero => rfl
  | succ k =>
    unfold slices_Equal_Field
    refine Eq.trans (evF_succ (c := f52c) (N := 26) (regs := f52n) rfl Go.Proofs.Try.func52 rfl (by decide) rfl rfl rfl) ?_
    refine Eq.trans (k_region0 rfl (f52r0 k a0 a1)) ?_
    refine Eq.trans k_assoc ?_
    refine Eq.trans (k_region0 rfl (f52r1 k a0 a1)) ?_
    refine Eq.trans (k_cond (t := ((a0.length : Int) != (a1.length : Int))) rfl) ?_
    refine bifE2 (fun hc => ?_) fun hc => ?_
    · rw [hc]
      refine Eq.trans k_assoc ?_
      refine Eq.trans (k_region0 rfl (f52r2 k a0 a1)) ?_
      refine Eq.trans k_ret ?_
      rfl
    · rw [hc]
      refine Eq.trans k_skip ?_
      refine Eq.trans k_assoc ?_
      refine Eq.trans (k_region0 rfl (f52r3 k a0 a1)) ?_
      refine Eq.trans k_block ?_
      refine Eq.trans k_loop ?_
      refine slices_Equal_Field_L1_ok k a0 a1 _ _ ?h_slices_Equal_Field_L1_0 ?hr_slices_Equal_Field_L1 k 0
      · intro y8
        refine Eq.trans blk_exit ?_
        refine Eq.trans (k_region0 rfl (f52r9 k a0 a1 y8)) ?_
        refine Eq.trans k_lret ?_
        rfl
      · intro s; exact rfl
def dbd_Same_1_fin : Bool → V × List V := fun r => ((V.bool r), [])
theorem f51r0 (k : Nat) (a0 : T_api_Type) (a1 : T_api_Type) : RE k f51a0 f51o0 false ⟨[(0, (enc_T_api_Type a0)), (1, (enc_T_api_Type a1))], [], 59⟩ = some ⟨[(2, (V.ptr 2 0 0)), (3, (V.ptr 3 0 0))], [(2, ⟨false, 8, [(enc_T_api_Type a0)]⟩), (3, ⟨false, 8, [(enc_T_api_Type a1)]⟩)], 59⟩ :=
  rE rfl
theorem f51r1 (k : Nat) (a0 : T_api_Type) (a1 : T_api_Type) : RE k f51a1 f51o1 false ⟨[(2, (V.ptr 2 0 0)), (3, (V.ptr 3 0 0))], [(2, ⟨false, 8, [(enc_T_api_Type a0)]⟩), (3, ⟨false, 8, [(enc_T_api_Type a1)]⟩)], 59⟩ = ((bif (a0.fName == a1.fName) then (bif (a0.fParent == a1.fParent) then (bif (a0.fMin == a1.fMin) then (bif (a0.fSize == a1.fSize) then (bif (a0.fKey == a1.fKey) then (bif (a0.fUnique == a1.fUnique) then (bif (a0.fLast == a1.fLast) then (slices_Equal_Field k a0.fFields a1.fFields) else (some (false))) else (some (false))) else (some (false))) else (some (false))) else (some (false))) else (some (false))) else (some (false)))).map (fun (o : Bool) => (⟨[(4, (V.bool o))], [], 59⟩ : St)) := by
  refine rg ?_
  refine ra 6 6 ⟨[(2, (V.ptr 2 0 0)), (3, (V.ptr 3 0 0)), (5, (V.ptr 2 0 0)), (6, (V.str a0.fName)), (7, (V.ptr 3 0 0)), (8, (V.str a1.fName)), (9, (V.bool (a0.fName == a1.fName))), (10, (V.bool (a0.fName == a1.fName)))], [(2, ⟨false, 8, [(enc_T_api_Type a0)]⟩), (3, ⟨false, 8, [(enc_T_api_Type a1)]⟩)], 59⟩ rfl rfl rfl ?_
  refine bifE (c := (a0.fName == a1.fName)) (fun hc => ?_) fun hc => ?_
  · rw [hc]
    refine ra 7 13 ⟨[(2, (V.ptr 2 0 0)), (3, (V.ptr 3 0 0)), (5, (V.ptr 2 0 0)), (6, (V.str a0.fName)), (7, (V.ptr 3 0 0)), (8, (V.str a1.fName)), (9, (V.bool true)), (10, (V.bool true)), (11, (V.ptr 2 0 1)), (12, (I a0.fParent)), (13, (V.ptr 3 0 1)), (14, (I a1.fParent)), (15, (V.bool (a0.fParent == a1.fParent))), (16, (V.bool (a0.fParent == a1.fParent))), (17, (V.bool (a0.fParent == a1.fParent)))], [(2, ⟨false, 8, [(enc_T_api_Type a0)]⟩), (3, ⟨false, 8, [(enc_T_api_Type a1)]⟩)], 59⟩ rfl rfl rfl ?_
    refine bifE (c := (a0.fParent == a1.fParent)) (fun hc => ?_) fun hc => ?_
    · rw [hc]
      refine ra 7 20 ⟨[(2, (V.ptr 2 0 0)), (3, (V.ptr 3 0 0)), (5, (V.ptr 2 0 0)), (6, (V.str a0.fName)), (7, (V.ptr 3 0 0)), (8, (V.str a1.fName)), (9, (V.bool true)), (10, (V.bool true)), (11, (V.ptr 2 0 1)), (12, (I a0.fParent)), (13, (V.ptr 3 0 1)), (14, (I a1.fParent)), (15, (V.bool true)), (16, (V.bool true)), (17, (V.bool true)), (18, (V.ptr 2 0 2)), (19, (I a0.fMin)), (20, (V.ptr 3 0 2)), (21, (I a1.fMin)), (22, (V.bool (a0.fMin == a1.fMin))), (23, (V.bool (a0.fMin == a1.fMin))), (24, (V.bool (a0.fMin == a1.fMin)))], [(2, ⟨false, 8, [(enc_T_api_Type a0)]⟩), (3, ⟨false, 8, [(enc_T_api_Type a1)]⟩)], 59⟩ rfl rfl rfl ?_
      refine bifE (c := (a0.fMin == a1.fMin)) (fun hc => ?_) fun hc => ?_
      · rw [hc]
        refine ra 7 27 ⟨[(2, (V.ptr 2 0 0)), (3, (V.ptr 3 0 0)), (5, (V.ptr 2 0 0)), (6, (V.str a0.fName)), (7, (V.ptr 3 0 0)), (8, (V.str a1.fName)), (9, (V.bool true)), (10, (V.bool true)), (11, (V.ptr 2 0 1)), (12, (I a0.fParent)), (13, (V.ptr 3 0 1)), (14, (I a1.fParent)), (15, (V.bool true)), (16, (V.bool true)), (17, (V.bool true)), (18, (V.ptr 2 0 2)), (19, (I a0.fMin)), (20, (V.ptr 3 0 2)), (21, (I a1.fMin)), (22, (V.bool true)), (23, (V.bool true)), (24, (V.bool true)), (25, (V.ptr 2 0 3)), (26, (I a0.fSize)), (27, (V.ptr 3 0 3)), (28, (I a1.fSize)), (29, (V.bool (a0.fSize == a1.fSize))), (30, (V.bool (a0.fSize == a1.fSize))), (31, (V.bool (a0.fSize == a1.fSize)))], [(2, ⟨false, 8, [(enc_T_api_Type a0)]⟩), (3, ⟨false, 8, [(enc_T_api_Type a1)]⟩)], 59⟩ rfl rfl rfl ?_
        refine bifE (c := (a0.fSize == a1.fSize)) (fun hc => ?_) fun hc => ?_
        · rw [hc]
          refine ra 7 34 ⟨[(2, (V.ptr 2 0 0)), (3, (V.ptr 3 0 0)), (5, (V.ptr 2 0 0)), (6, (V.str a0.fName)), (7, (V.ptr 3 0 0)), (8, (V.str a1.fName)), (9, (V.bool true)), (10, (V.bool true)), (11, (V.ptr 2 0 1)), (12, (I a0.fParent)), (13, (V.ptr 3 0 1)), (14, (I a1.fParent)), (15, (V.bool true)), (16, (V.bool true)), (17, (V.bool true)), (18, (V.ptr 2 0 2)), (19, (I a0.fMin)), (20, (V.ptr 3 0 2)), (21, (I a1.fMin)), (22, (V.bool true)), (23, (V.bool true)), (24, (V.bool true)), (25, (V.ptr 2 0 3)), (26, (I a0.fSize)), (27, (V.ptr 3 0 3)), (28, (I a1.fSize)), (29, (V.bool true)), (30, (V.bool true)), (31, (V.bool true)), (32, (V.ptr 2 0 5)), (33, (I a0.fKey)), (34, (V.ptr 3 0 5)), (35, (I a1.fKey)), (36, (V.bool (a0.fKey == a1.fKey))), (37, (V.bool (a0.fKey == a1.fKey))), (38, (V.bool (a0.fKey == a1.fKey)))], [(2, ⟨false, 8, [(enc_T_api_Type a0)]⟩), (3, ⟨false, 8, [(enc_T_api_Type a1)]⟩)], 59⟩ rfl rfl rfl ?_
          refine bifE (c := (a0.fKey == a1.fKey)) (fun hc => ?_) fun hc => ?_
          · rw [hc]
            refine ra 7 41 ⟨[(2, (V.ptr 2 0 0)), (3, (V.ptr 3 0 0)), (5, (V.ptr 2 0 0)), (6, (V.str a0.fName)), (7, (V.ptr 3 0 0)), (8, (V.str a1.fName)), (9, (V.bool true)), (10, (V.bool true)), (11, (V.ptr 2 0 1)), (12, (I a0.fParent)), (13, (V.ptr 3 0 1)), (14, (I a1.fParent)), (15, (V.bool true)), (16, (V.bool true)), (17, (V.bool true)), (18, (V.ptr 2 0 2)), (19, (I a0.fMin)), (20, (V.ptr 3 0 2)), (21, (I a1.fMin)), (22, (V.bool true)), (23, (V.bool true)), (24, (V.bool true)), (25, (V.ptr 2 0 3)), (26, (I a0.fSize)), (27, (V.ptr 3 0 3)), (28, (I a1.fSize)), (29, (V.bool true)), (30, (V.bool true)), (31, (V.bool true)), (32, (V.ptr 2 0 5)), (33, (I a0.fKey)), (34, (V.ptr 3 0 5)), (35, (I a1.fKey)), (36, (V.bool true)), (37, (V.bool true)), (38, (V.bool true)), (39, (V.ptr 2 0 6)), (40, (V.bool a0.fUnique)), (41, (V.ptr 3 0 6)), (42, (V.bool a1.fUnique)), (43, (V.bool (a0.fUnique == a1.fUnique))), (44, (V.bool (a0.fUnique == a1.fUnique))), (45, (V.bool (a0.fUnique == a1.fUnique)))], [(2, ⟨false, 8, [(enc_T_api_Type a0)]⟩), (3, ⟨false, 8, [(enc_T_api_Type a1)]⟩)], 59⟩ rfl rfl rfl ?_
            refine bifE (c := (a0.fUnique == a1.fUnique)) (fun hc => ?_) fun hc => ?_
            · rw [hc]
              refine ra 7 48 ⟨[(2, (V.ptr 2 0 0)), (3, (V.ptr 3 0 0)), (5, (V.ptr 2 0 0)), (6, (V.str a0.fName)), (7, (V.ptr 3 0 0)), (8, (V.str a1.fName)), (9, (V.bool true)), (10, (V.bool true)), (11, (V.ptr 2 0 1)), (12, (I a0.fParent)), (13, (V.ptr 3 0 1)), (14, (I a1.fParent)), (15, (V.bool true)), (16, (V.bool true)), (17, (V.bool true)), (18, (V.ptr 2 0 2)), (19, (I a0.fMin)), (20, (V.ptr 3 0 2)), (21, (I a1.fMin)), (22, (V.bool true)), (23, (V.bool true)), (24, (V.bool true)), (25, (V.ptr 2 0 3)), (26, (I a0.fSize)), (27, (V.ptr 3 0 3)), (28, (I a1.fSize)), (29, (V.bool true)), (30, (V.bool true)), (31, (V.bool true)), (32, (V.ptr 2 0 5)), (33, (I a0.fKey)), (34, (V.ptr 3 0 5)), (35, (I a1.fKey)), (36, (V.bool true)), (37, (V.bool true)), (38, (V.bool true)), (39, (V.ptr 2 0 6)), (40, (V.bool a0.fUnique)), (41, (V.ptr 3 0 6)), (42, (V.bool a1.fUnique)), (43, (V.bool true)), (44, (V.bool true)), (45, (V.bool true)), (46, (V.ptr 2 0 7)), (47, (V.bool a0.fLast)), (48, (V.ptr 3 0 7)), (49, (V.bool a1.fLast)), (50, (V.bool (a0.fLast == a1.fLast))), (51, (V.bool (a0.fLast == a1.fLast))), (52, (V.bool (a0.fLast == a1.fLast)))], [(2, ⟨false, 8, [(enc_T_api_Type a0)]⟩), (3, ⟨false, 8, [(enc_T_api_Type a1)]⟩)], 59⟩ rfl rfl rfl ?_
              refine bifE (c := (a0.fLast == a1.fLast)) (fun hc => ?_) fun hc => ?_
              · rw [hc]
                refine ra 4 52 ⟨[(2, (V.ptr 2 0 0)), (3, (V.ptr 3 0 0)), (5, (V.ptr 2 0 0)), (6, (V.str a0.fName)), (7, (V.ptr 3 0 0)), (8, (V.str a1.fName)), (9, (V.bool true)), (10, (V.bool true)), (11, (V.ptr 2 0 1)), (12, (I a0.fParent)), (13, (V.ptr 3 0 1)), (14, (I a1.fParent)), (15, (V.bool true)), (16, (V.bool true)), (17, (V.bool true)), (18, (V.ptr 2 0 2)), (19, (I a0.fMin)), (20, (V.ptr 3 0 2)), (21, (I a1.fMin)), (22, (V.bool true)), (23, (V.bool true)), (24, (V.bool true)), (25, (V.ptr 2 0 3)), (26, (I a0.fSize)), (27, (V.ptr 3 0 3)), (28, (I a1.fSize)), (29, (V.bool true)), (30, (V.bool true)), (31, (V.bool true)), (32, (V.ptr 2 0 5)), (33, (I a0.fKey)), (34, (V.ptr 3 0 5)), (35, (I a1.fKey)), (36, (V.bool true)), (37, (V.bool true)), (38, (V.bool true)), (39, (V.ptr 2 0 6)), (40, (V.bool a0.fUnique)), (41, (V.ptr 3 0 6)), (42, (V.bool a1.fUnique)), (43, (V.bool true)), (44, (V.bool true)), (45, (V.bool true)), (46, (V.ptr 2 0 7)), (47, (V.bool a0.fLast)), (48, (V.ptr 3 0 7)), (49, (V.bool a1.fLast)), (50, (V.bool true)), (51, (V.bool true)), (52, (V.bool true)), (53, (V.ptr 2 0 4)), (54, (sField (a0.fFields))), (55, (V.ptr 3 0 4)), (56, (sField (a1.fFields)))], [(2, ⟨false, 8, [(enc_T_api_Type a0)]⟩), (3, ⟨false, 8, [(enc_T_api_Type a1)]⟩)], 59⟩ rfl rfl rfl ?_
                refine Eq.trans (reg_pure (x := (slices_Equal_Field k a0.fFields a1.fFields)) (w := fun v1 => (V.bool v1)) rfl rfl rfl rfl (p_call rfl rfl rfl rfl rfl (slices_Equal_Field_ok k a0.fFields a1.fFields) (.inl rfl))) ?_
                refine bind_self (fun v1 => ?_)
                exact bind_end rfl
              · rw [hc]
                exact reg_end rfl
            · rw [hc]
              exact reg_end rfl
          · rw [hc]
            exact reg_end rfl
        · rw [hc]
          exact reg_end rfl
      · rw [hc]
        exact reg_end rfl
    · rw [hc]
      exact reg_end rfl
  · rw [hc]
    exact reg_end rfl
theorem dbd_Same_1_ok (k : Nat) (a0 : T_api_Type) (a1 : T_api_Type) : EV k 51 [(enc_T_api_Type a0), (enc_T_api_Type a1)] = (dbd_Same_1 k a0 a1).map dbd_Same_1_fin := by
  cases k with
  | zero => rfl
  | succ k =>
    unfold dbd_Same_1
    refine Eq.trans (evF_succ (c := f51c) (N := 59) (regs := f51n) rfl Go.Proofs.Try.func51 rfl (by decide) rfl rfl rfl) ?_
    refine Eq.trans (k_region0 rfl (f51r0 k a0 a1)) ?_
    refine Eq.trans (k_region rfl (f51r1 k a0 a1)) ?_
    refine bindE (fun o2 => ?_)
    refine Eq.trans k_lret ?_
    rfl
def dbd_Same_fin : Bool → V × List V := fun r => ((V.bool r), [])
theorem f24r0 (k : Nat) (a0 : T_api_Base) (a1 : T_api_Base) : RE k f24a0 f24o0 false ⟨[(0, (enc_T_api_Base a0)), (1, (enc_T_api_Base a1))], [], 31⟩ = some ⟨[(2, (V.ptr 2 0 0)), (3, (V.ptr 3 0 0))], [(2, ⟨false, 4, [(enc_T_api_Base a0)]⟩), (3, ⟨false, 4, [(enc_T_api_Base a1)]⟩)], 31⟩ :=
  rE rfl
theorem f24r1 (k : Nat) (a0 : T_api_Base) (a1 : T_api_Base) : RE k f24a1 f24o1 false ⟨[(2, (V.ptr 2 0 0)), (3, (V.ptr 3 0 0))], [(2, ⟨false, 4, [(enc_T_api_Base a0)]⟩), (3, ⟨false, 4, [(enc_T_api_Base a1)]⟩)], 31⟩ = ((bif (a0.fName == a1.fName) then (bif (a0.fKind == a1.fKind) then ((slices_Equal_Search k a0.fIndexes a1.fIndexes).bind fun v1 => (bif v1 then (slices_EqualFunc_Type_v20 k a0.fTypes a1.fTypes (fun j x0 x1 => (dbd_Same_1 j x0 x1))) else (some (false)))) else (some (false))) else (some (false)))).map (fun (o : Bool) => (⟨[(4, (V.bool o))], [], 31⟩ : St)) := by
  refine rg ?_
  refine ra 6 6 ⟨[(2, (V.ptr 2 0 0)), (3, (V.ptr 3 0 0)), (5, (V.ptr 2 0 0)), (6, (V.str a0.fName)), (7, (V.ptr 3 0 0)), (8, (V.str a1.fName)), (9, (V.bool (a0.fName == a1.fName))), (10, (V.bool (a0.fName == a1.fName)))], [(2, ⟨false, 4, [(enc_T_api_Base a0)]⟩), (3, ⟨false, 4, [(enc_T_api_Base a1)]⟩)], 31⟩ rfl rfl rfl ?_
  refine bifE (c := (a0.fName == a1.fName)) (fun hc => ?_) fun hc => ?_
  · rw [hc]
    refine ra 7 13 ⟨[(2, (V.ptr 2 0 0)), (3, (V.ptr 3 0 0)), (5, (V.ptr 2 0 0)), (6, (V.str a0.fName)), (7, (V.ptr 3 0 0)), (8, (V.str a1.fName)), (9, (V.bool true)), (10, (V.bool true)), (11, (V.ptr 2 0 1)), (12, (I a0.fKind)), (13, (V.ptr 3 0 1)), (14, (I a1.fKind)), (15, (V.bool (a0.fKind == a1.fKind))), (16, (V.bool (a0.fKind == a1.fKind))), (17, (V.bool (a0.fKind == a1.fKind)))], [(2, ⟨false, 4, [(enc_T_api_Base a0)]⟩), (3, ⟨false, 4, [(enc_T_api_Base a1)]⟩)], 31⟩ rfl rfl rfl ?_
    refine bifE (c := (a0.fKind == a1.fKind)) (fun hc => ?_) fun hc => ?_
    · rw [hc]
      refine ra 4 17 ⟨[(2, (V.ptr 2 0 0)), (3, (V.ptr 3 0 0)), (5, (V.ptr 2 0 0)), (6, (V.str a0.fName)), (7, (V.ptr 3 0 0)), (8, (V.str a1.fName)), (9, (V.bool true)), (10, (V.bool true)), (11, (V.ptr 2 0 1)), (12, (I a0.fKind)), (13, (V.ptr 3 0 1)), (14, (I a1.fKind)), (15, (V.bool true)), (16, (V.bool true)), (17, (V.bool true)), (18, (V.ptr 2 0 3)), (19, (sSearch (a0.fIndexes))), (20, (V.ptr 3 0 3)), (21, (sSearch (a1.fIndexes)))], [(2, ⟨false, 4, [(enc_T_api_Base a0)]⟩), (3, ⟨false, 4, [(enc_T_api_Base a1)]⟩)], 31⟩ rfl rfl rfl ?_
      refine Eq.trans (reg_pure (x := (slices_Equal_Search k a0.fIndexes a1.fIndexes)) (w := fun v1 => (V.bool v1)) rfl rfl rfl rfl (p_call rfl rfl rfl rfl rfl (slices_Equal_Search_ok k a0.fIndexes a1.fIndexes) (.inl rfl))) ?_
      refine bindE (fun v1 => ?_)
      refine ba 2 20 ⟨[(2, (V.ptr 2 0 0)), (3, (V.ptr 3 0 0)), (5, (V.ptr 2 0 0)), (6, (V.str a0.fName)), (7, (V.ptr 3 0 0)), (8, (V.str a1.fName)), (9, (V.bool true)), (10, (V.bool true)), (11, (V.ptr 2 0 1)), (12, (I a0.fKind)), (13, (V.ptr 3 0 1)), (14, (I a1.fKind)), (15, (V.bool true)), (16, (V.bool true)), (17, (V.bool true)), (18, (V.ptr 2 0 3)), (19, (sSearch (a0.fIndexes))), (20, (V.ptr 3 0 3)), (21, (sSearch (a1.fIndexes))), (22, (V.bool v1)), (23, (V.bool v1)), (24, (V.bool v1))], [(2, ⟨false, 4, [(enc_T_api_Base a0)]⟩), (3, ⟨false, 4, [(enc_T_api_Base a1)]⟩)], 31⟩ rfl rfl rfl ?_
      refine bifE (c := v1) (fun hc => ?_) fun hc => ?_
      · rw [hc]
        refine ra 4 24 ⟨[(2, (V.ptr 2 0 0)), (3, (V.ptr 3 0 0)), (5, (V.ptr 2 0 0)), (6, (V.str a0.fName)), (7, (V.ptr 3 0 0)), (8, (V.str a1.fName)), (9, (V.bool true)), (10, (V.bool true)), (11, (V.ptr 2 0 1)), (12, (I a0.fKind)), (13, (V.ptr 3 0 1)), (14, (I a1.fKind)), (15, (V.bool true)), (16, (V.bool true)), (17, (V.bool true)), (18, (V.ptr 2 0 3)), (19, (sSearch (a0.fIndexes))), (20, (V.ptr 3 0 3)), (21, (sSearch (a1.fIndexes))), (22, (V.bool true)), (23, (V.bool true)), (24, (V.bool true)), (25, (V.ptr 2 0 2)), (26, (sType (a0.fTypes))), (27, (V.ptr 3 0 2)), (28, (sType (a1.fTypes)))], [(2, ⟨false, 4, [(enc_T_api_Base a0)]⟩), (3, ⟨false, 4, [(enc_T_api_Base a1)]⟩)], 31⟩ rfl rfl rfl ?_
        refine Eq.trans (reg_pure (x := (slices_EqualFunc_Type_v20 k a0.fTypes a1.fTypes (fun j x0 x1 => (dbd_Same_1 j x0 x1)))) (w := fun v2 => (V.bool v2)) rfl rfl rfl rfl (p_call rfl rfl rfl rfl rfl (slices_EqualFunc_Type_v20_ok k a0.fTypes a1.fTypes (fun j x0 x1 => (dbd_Same_1 j x0 x1)) 51 (fun j x0 x1 => (dbd_Same_1_ok j x0 x1))) (.inl rfl))) ?_
        refine bind_self (fun v2 => ?_)
        exact bind_end rfl
      · rw [hc]
        exact reg_end rfl
    · rw [hc]
      exact reg_end rfl
  · rw [hc]
    exact reg_end rfl
theorem dbd_Same_ok (k : Nat) (a0 : T_api_Base) (a1 : T_api_Base) : EV k 24 [(enc_T_api_Base a0), (enc_T_api_Base a1)] = (dbd_Same k a0 a1).map dbd_Same_fin := by
  cases k with
  | zero => rfl
  | succ k =>
    unfold dbd_Same
    refine Eq.trans (evF_succ (c := f24c) (N := 31) (regs := f24n) rfl Go.Proofs.Try.func24 rfl (by decide) rfl rfl rfl) ?_
    refine Eq.trans (k_region0 rfl (f24r0 k a0 a1)) ?_
    refine Eq.trans (k_region rfl (f24r1 k a0 a1)) ?_
    refine bindE (fun o3 => ?_)
    refine Eq.trans k_lret ?_
    rfl
def ref11_Same_fin : Bool → V × List V := fun r => ((V.bool r), [])
theorem f25r0 (k : Nat) (a0 : T_api_Base) (a1 : T_api_Base) : RE k f25a0 f25o0 false ⟨[(0, (enc_T_api_Base a0)), (1, (enc_T_api_Base a1))], [], 149⟩ = some ⟨[(2, (V.ptr 2 0 0)), (3, (V.ptr 3 0 0))], [(2, ⟨false, 4, [(enc_T_api_Base a0)]⟩), (3, ⟨false, 4, [(enc_T_api_Base a1)]⟩)], 149⟩ :=
  rE rfl
theorem f25r1 (k : Nat) (a0 : T_api_Base) (a1 : T_api_Base) : RE k f25a1 f25o1 false ⟨[(2, (V.ptr 2 0 0)), (3, (V.ptr 3 0 0))], [(2, ⟨false, 4, [(enc_T_api_Base a0)]⟩), (3, ⟨false, 4, [(enc_T_api_Base a1)]⟩)], 149⟩ = ((bif (!(a0.fName == a1.fName)) then (some (true)) else (bif (a0.fKind != a1.fKind) then (some (true)) else (bif ((a0.fTypes.length : Int) != (a1.fTypes.length : Int)) then (some (true)) else (some (((a0.fIndexes.length : Int) != (a1.fIndexes.length : Int)))))))).map (fun (o : Bool) => (⟨[(2, (V.ptr 2 0 0)), (3, (V.ptr 3 0 0)), (39, (V.bool o))], [(2, ⟨false, 4, [(enc_T_api_Base a0)]⟩), (3, ⟨false, 4, [(enc_T_api_Base a1)]⟩)], 149⟩ : St)) := by
  refine rg ?_
  refine ra 6 6 ⟨[(2, (V.ptr 2 0 0)), (3, (V.ptr 3 0 0)), (10, (V.ptr 2 0 0)), (11, (V.str a0.fName)), (12, (V.ptr 3 0 0)), (13, (V.str a1.fName)), (14, (V.bool (!(a0.fName == a1.fName)))), (15, (V.bool (!(a0.fName == a1.fName))))], [(2, ⟨false, 4, [(enc_T_api_Base a0)]⟩), (3, ⟨false, 4, [(enc_T_api_Base a1)]⟩)], 149⟩ rfl rfl rfl ?_
  refine bifE (c := (!(a0.fName == a1.fName))) (fun hc => ?_) fun hc => ?_
  · rw [hc]
    exact reg_end rfl
  · rw [hc]
    refine ra 7 13 ⟨[(2, (V.ptr 2 0 0)), (3, (V.ptr 3 0 0)), (10, (V.ptr 2 0 0)), (11, (V.str a0.fName)), (12, (V.ptr 3 0 0)), (13, (V.str a1.fName)), (14, (V.bool false)), (15, (V.bool false)), (16, (V.ptr 2 0 1)), (17, (I a0.fKind)), (18, (V.ptr 3 0 1)), (19, (I a1.fKind)), (20, (V.bool (a0.fKind != a1.fKind))), (21, (V.bool (a0.fKind != a1.fKind))), (22, (V.bool (a0.fKind != a1.fKind)))], [(2, ⟨false, 4, [(enc_T_api_Base a0)]⟩), (3, ⟨false, 4, [(enc_T_api_Base a1)]⟩)], 149⟩ rfl rfl rfl ?_
    refine bifE (c := (a0.fKind != a1.fKind)) (fun hc => ?_) fun hc => ?_
    · rw [hc]
      exact reg_end rfl
    · rw [hc]
      refine ra 2 15 ⟨[(2, (V.ptr 2 0 0)), (3, (V.ptr 3 0 0)), (10, (V.ptr 2 0 0)), (11, (V.str a0.fName)), (12, (V.ptr 3 0 0)), (13, (V.str a1.fName)), (14, (V.bool false)), (15, (V.bool false)), (16, (V.ptr 2 0 1)), (17, (I a0.fKind)), (18, (V.ptr 3 0 1)), (19, (I a1.fKind)), (20, (V.bool false)), (21, (V.bool false)), (22, (V.bool false)), (23, (V.ptr 2 0 2)), (24, (sType (a0.fTypes)))], [(2, ⟨false, 4, [(enc_T_api_Base a0)]⟩), (3, ⟨false, 4, [(enc_T_api_Base a1)]⟩)], 149⟩ rfl rfl rfl ?_
      refine Eq.trans (reg_pure (x := some ()) (w := fun _ => (I (a0.fTypes.length : Int))) rfl rfl rfl rfl (p_len (e := enc_T_api_Type) rfl rfl rfl rfl rfl rfl Go.Proofs.Try.underlying22)) ?_
      refine Eq.trans some_bind ?_
      refine ba 2 18 ⟨[(2, (V.ptr 2 0 0)), (3, (V.ptr 3 0 0)), (10, (V.ptr 2 0 0)), (11, (V.str a0.fName)), (12, (V.ptr 3 0 0)), (13, (V.str a1.fName)), (14, (V.bool false)), (15, (V.bool false)), (16, (V.ptr 2 0 1)), (17, (I a0.fKind)), (18, (V.ptr 3 0 1)), (19, (I a1.fKind)), (20, (V.bool false)), (21, (V.bool false)), (22, (V.bool false)), (23, (V.ptr 2 0 2)), (24, (sType (a0.fTypes))), (25, (I (a0.fTypes.length : Int))), (26, (V.ptr 3 0 2)), (27, (sType (a1.fTypes)))], [(2, ⟨false, 4, [(enc_T_api_Base a0)]⟩), (3, ⟨false, 4, [(enc_T_api_Base a1)]⟩)], 149⟩ rfl rfl rfl ?_
      refine Eq.trans (reg_pure (x := some ()) (w := fun _ => (I (a1.fTypes.length : Int))) rfl rfl rfl rfl (p_len (e := enc_T_api_Type) rfl rfl rfl rfl rfl rfl Go.Proofs.Try.underlying22)) ?_
      refine Eq.trans some_bind ?_
      refine ba 3 22 ⟨[(2, (V.ptr 2 0 0)), (3, (V.ptr 3 0 0)), (10, (V.ptr 2 0 0)), (11, (V.str a0.fName)), (12, (V.ptr 3 0 0)), (13, (V.str a1.fName)), (14, (V.bool false)), (15, (V.bool false)), (16, (V.ptr 2 0 1)), (17, (I a0.fKind)), (18, (V.ptr 3 0 1)), (19, (I a1.fKind)), (20, (V.bool false)), (21, (V.bool false)), (22, (V.bool false)), (23, (V.ptr 2 0 2)), (24, (sType (a0.fTypes))), (25, (I (a0.fTypes.length : Int))), (26, (V.ptr 3 0 2)), (27, (sType (a1.fTypes))), (28, (I (a1.fTypes.length : Int))), (29, (V.bool ((a0.fTypes.length : Int) != (a1.fTypes.length : Int)))), (30, (V.bool ((a0.fTypes.length : Int) != (a1.fTypes.length : Int)))), (31, (V.bool ((a0.fTypes.length : Int) != (a1.fTypes.length : Int))))], [(2, ⟨false, 4, [(enc_T_api_Base a0)]⟩), (3, ⟨false, 4, [(enc_T_api_Base a1)]⟩)], 149⟩ rfl rfl rfl ?_
      refine bifE (c := ((a0.fTypes.length : Int) != (a1.fTypes.length : Int))) (fun hc => ?_) fun hc => ?_
      · rw [hc]
        exact reg_end rfl
      · rw [hc]
        refine ra 2 24 ⟨[(2, (V.ptr 2 0 0)), (3, (V.ptr 3 0 0)), (10, (V.ptr 2 0 0)), (11, (V.str a0.fName)), (12, (V.ptr 3 0 0)), (13, (V.str a1.fName)), (14, (V.bool false)), (15, (V.bool false)), (16, (V.ptr 2 0 1)), (17, (I a0.fKind)), (18, (V.ptr 3 0 1)), (19, (I a1.fKind)), (20, (V.bool false)), (21, (V.bool false)), (22, (V.bool false)), (23, (V.ptr 2 0 2)), (24, (sType (a0.fTypes))), (25, (I (a0.fTypes.length : Int))), (26, (V.ptr 3 0 2)), (27, (sType (a1.fTypes))), (28, (I (a1.fTypes.length : Int))), (29, (V.bool false)), (30, (V.bool false)), (31, (V.bool false)), (32, (V.ptr 2 0 3)), (33, (sSearch (a0.fIndexes)))], [(2, ⟨false, 4, [(enc_T_api_Base a0)]⟩), (3, ⟨false, 4, [(enc_T_api_Base a1)]⟩)], 149⟩ rfl rfl rfl ?_
        refine Eq.trans (reg_pure (x := some ()) (w := fun _ => (I (a0.fIndexes.length : Int))) rfl rfl rfl rfl (p_len (e := enc_T_api_Search) rfl rfl rfl rfl rfl rfl Go.Proofs.Try.underlying23)) ?_
        refine Eq.trans some_bind ?_
        refine ba 2 27 ⟨[(2, (V.ptr 2 0 0)), (3, (V.ptr 3 0 0)), (10, (V.ptr 2 0 0)), (11, (V.str a0.fName)), (12, (V.ptr 3 0 0)), (13, (V.str a1.fName)), (14, (V.bool false)), (15, (V.bool false)), (16, (V.ptr 2 0 1)), (17, (I a0.fKind)), (18, (V.ptr 3 0 1)), (19, (I a1.fKind)), (20, (V.bool false)), (21, (V.bool false)), (22, (V.bool false)), (23, (V.ptr 2 0 2)), (24, (sType (a0.fTypes))), (25, (I (a0.fTypes.length : Int))), (26, (V.ptr 3 0 2)), (27, (sType (a1.fTypes))), (28, (I (a1.fTypes.length : Int))), (29, (V.bool false)), (30, (V.bool false)), (31, (V.bool false)), (32, (V.ptr 2 0 3)), (33, (sSearch (a0.fIndexes))), (34, (I (a0.fIndexes.length : Int))), (35, (V.ptr 3 0 3)), (36, (sSearch (a1.fIndexes)))], [(2, ⟨false, 4, [(enc_T_api_Base a0)]⟩), (3, ⟨false, 4, [(enc_T_api_Base a1)]⟩)], 149⟩ rfl rfl rfl ?_
        refine Eq.trans (reg_pure (x := some ()) (w := fun _ => (I (a1.fIndexes.length : Int))) rfl rfl rfl rfl (p_len (e := enc_T_api_Search) rfl rfl rfl rfl rfl rfl Go.Proofs.Try.underlying23)) ?_
        refine Eq.trans some_bind ?_
        exact bind_end rfl
theorem f25r2 (k : Nat) (a0 : T_api_Base) (a1 : T_api_Base) : RE k f25a2 f25o2 false ⟨[(2, (V.ptr 2 0 0)), (3, (V.ptr 3 0 0)), (39, (V.bool true))], [(2, ⟨false, 4, [(enc_T_api_Base a0)]⟩), (3, ⟨false, 4, [(enc_T_api_Base a1)]⟩)], 149⟩ = some ⟨[(4, (V.bool false))], [], 149⟩ :=
  rE rfl
theorem f25r3 (k : Nat) (a0 : T_api_Base) (a1 : T_api_Base) : RE k f25a3 f25o3 false ⟨[(2, (V.ptr 2 0 0)), (3, (V.ptr 3 0 0)), (39, (V.bool false))], [(2, ⟨false, 4, [(enc_T_api_Base a0)]⟩), (3, ⟨false, 4, [(enc_T_api_Base a1)]⟩)], 149⟩ = some ⟨[(2, (V.ptr 2 0 0)), (3, (V.ptr 3 0 0)), (5, (I 0))], [(2, ⟨false, 4, [(enc_T_api_Base a0)]⟩), (3, ⟨false, 4, [(enc_T_api_Base a1)]⟩)], 149⟩ :=
  rE rfl
theorem f25r4 (k : Nat) (a0 : T_api_Base) (a1 : T_api_Base) (x14 : Int) : RE k f25a4 f25o4 false ⟨[(2, (V.ptr 2 0 0)), (3, (V.ptr 3 0 0)), (5, (I x14))], [(2, ⟨false, 4, [(enc_T_api_Base a0)]⟩), (3, ⟨false, 4, [(enc_T_api_Base a1)]⟩)], 149⟩ = some ⟨[(2, (V.ptr 2 0 0)), (3, (V.ptr 3 0 0)), (5, (I x14)), (44, (V.bool (decide (x14 < (a0.fTypes.length : Int)))))], [(2, ⟨false, 4, [(enc_T_api_Base a0)]⟩), (3, ⟨false, 4, [(enc_T_api_Base a1)]⟩)], 149⟩ := by
  refine rg ?_
  refine ra 3 3 ⟨[(2, (V.ptr 2 0 0)), (3, (V.ptr 3 0 0)), (5, (I x14)), (40, (I x14)), (41, (V.ptr 2 0 2)), (42, (sType (a0.fTypes)))], [(2, ⟨false, 4, [(enc_T_api_Base a0)]⟩), (3, ⟨false, 4, [(enc_T_api_Base a1)]⟩)], 149⟩ rfl rfl rfl ?_
  refine Eq.trans (reg_pure (x := some ()) (w := fun _ => (I (a0.fTypes.length : Int))) rfl rfl rfl rfl (p_len (e := enc_T_api_Type) rfl rfl rfl rfl rfl rfl Go.Proofs.Try.underlying22)) ?_
  refine Eq.trans some_bind ?_
  exact bind_end rfl
theorem f25r6 (k : Nat) (a0 : T_api_Base) (a1 : T_api_Base) (x14 : Int) : RE k f25a6 f25o6 true ⟨[(2, (V.ptr 2 0 0)), (3, (V.ptr 3 0 0)), (5, (I x14)), (44, (V.bool true))], [(2, ⟨false, 4, [(enc_T_api_Base a0)]⟩), (3, ⟨false, 4, [(enc_T_api_Base a1)]⟩)], 149⟩ = (((idx a0.fTypes x14).bind fun v15 => ((idx a1.fTypes x14).bind fun v16 => (some (v15, v16))))).map (fun (o : T_api_Type × T_api_Type) => (⟨[(2, (V.ptr 2 0 0)), (3, (V.ptr 3 0 0)), (5, (I x14)), (6, (V.ptr 6 0 0)), (7, (V.ptr 7 0 0))], [(2, ⟨false, 4, [(enc_T_api_Base a0)]⟩), (3, ⟨false, 4, [(enc_T_api_Base a1)]⟩), (6, ⟨false, 8, [(enc_T_api_Type o.1)]⟩), (7, ⟨false, 8, [(enc_T_api_Type o.2)]⟩)], 149⟩ : St)) := by
  refine Eq.trans (regionE_regp (p := 12) (dk := false) (t := [(2, (V.ptr 2 0 0)), (3, (V.ptr 3 0 0)), (5, (I x14)), (44, (V.bool true))]) (σ := [(2, ⟨false, 4, [(enc_T_api_Base a0)]⟩), (3, ⟨false, 4, [(enc_T_api_Base a1)]⟩)]) (n := 149) (by decide) (by decide) rfl) ?_
  refine Eq.trans (regp_adv (m := 3) (j := 3) (t' := [(2, (V.ptr 2 0 0)), (3, (V.ptr 3 0 0)), (5, (I x14)), (44, (V.bool true)), (47, (V.ptr 2 0 2)), (48, (sType (a0.fTypes))), (49, (I x14))]) rfl rfl rfl) ?_
  refine Eq.trans (regp_pure (x := (idx a0.fTypes x14)) (w := fun v15 => (V.pro (enc_T_api_Type v15))) rfl rfl rfl rfl rfl (p_index (e := enc_T_api_Type) rfl rfl rfl Go.Proofs.Try.underlying22 rfl (by decide))) ?_
  refine bindE (fun v15 => ?_)
  refine Eq.trans (putp_adv (m := 4) (j := 8) (t' := [(2, (V.ptr 2 0 0)), (3, (V.ptr 3 0 0)), (5, (I x14)), (44, (V.bool true)), (47, (V.ptr 2 0 2)), (48, (sType (a0.fTypes))), (49, (I x14)), (50, (V.pro (enc_T_api_Type v15))), (51, (enc_T_api_Type v15)), (52, (V.ptr 3 0 2)), (53, (sType (a1.fTypes))), (54, (I x14))]) rfl rfl rfl) ?_
  refine Eq.trans (regp_pure (x := (idx a1.fTypes x14)) (w := fun v16 => (V.pro (enc_T_api_Type v16))) rfl rfl rfl rfl rfl (p_index (e := enc_T_api_Type) rfl rfl rfl Go.Proofs.Try.underlying22 rfl (by decide))) ?_
  refine bindE (fun v16 => ?_)
  exact regp_end rfl
theorem f25r7 (k : Nat) (a0 : T_api_Base) (a1 : T_api_Base) (x14 : Int) (o17 : T_api_Type × T_api_Type) : RE k f25a7 f25o7 false ⟨[(2, (V.ptr 2 0 0)), (3, (V.ptr 3 0 0)), (5, (I x14)), (6, (V.ptr 6 0 0)), (7, (V.ptr 7 0 0))], [(2, ⟨false, 4, [(enc_T_api_Base a0)]⟩), (3, ⟨false, 4, [(enc_T_api_Base a1)]⟩), (6, ⟨false, 8, [(enc_T_api_Type o17.1)]⟩), (7, ⟨false, 8, [(enc_T_api_Type o17.2)]⟩)], 149⟩ = ((bif (!(o17.1.fName == o17.2.fName)) then (some (true)) else (bif (o17.1.fParent != o17.2.fParent) then (some (true)) else (bif (o17.1.fMin != o17.2.fMin) then (some (true)) else (bif (o17.1.fSize != o17.2.fSize) then (some (true)) else (bif (o17.1.fKey != o17.2.fKey) then (some (true)) else (bif (!(o17.1.fUnique == o17.2.fUnique)) then (some (true)) else (bif (!(o17.1.fLast == o17.2.fLast)) then (some (true)) else (some (((o17.1.fFields.length : Int) != (o17.2.fFields.length : Int)))))))))))).map (fun (o : Bool) => (⟨[(2, (V.ptr 2 0 0)), (3, (V.ptr 3 0 0)), (5, (I x14)), (6, (V.ptr 6 0 0)), (7, (V.ptr 7 0 0)), (112, (V.bool o))], [(2, ⟨false, 4, [(enc_T_api_Base a0)]⟩), (3, ⟨false, 4, [(enc_T_api_Base a1)]⟩), (6, ⟨false, 8, [(enc_T_api_Type o17.1)]⟩), (7, ⟨false, 8, [(enc_T_api_Type o17.2)]⟩)], 149⟩ : St)) := by
  refine rg ?_
  refine ra 6 6 ⟨[(2, (V.ptr 2 0 0)), (3, (V.ptr 3 0 0)), (5, (I x14)), (6, (V.ptr 6 0 0)), (7, (V.ptr 7 0 0)), (57, (V.ptr 6 0 0)), (58, (V.str o17.1.fName)), (59, (V.ptr 7 0 0)), (60, (V.str o17.2.fName)), (61, (V.bool (!(o17.1.fName == o17.2.fName)))), (62, (V.bool (!(o17.1.fName == o17.2.fName))))], [(2, ⟨false, 4, [(enc_T_api_Base a0)]⟩), (3, ⟨false, 4, [(enc_T_api_Base a1)]⟩), (6, ⟨false, 8, [(enc_T_api_Type o17.1)]⟩), (7, ⟨false, 8, [(enc_T_api_Type o17.2)]⟩)], 149⟩ rfl rfl rfl ?_
  refine bifE (c := (!(o17.1.fName == o17.2.fName))) (fun hc => ?_) fun hc => ?_
  · rw [hc]
    exact reg_end rfl
  · rw [hc]
    refine ra 7 13 ⟨[(2, (V.ptr 2 0 0)), (3, (V.ptr 3 0 0)), (5, (I x14)), (6, (V.ptr 6 0 0)), (7, (V.ptr 7 0 0)), (57, (V.ptr 6 0 0)), (58, (V.str o17.1.fName)), (59, (V.ptr 7 0 0)), (60, (V.str o17.2.fName)), (61, (V.bool false)), (62, (V.bool false)), (63, (V.ptr 6 0 1)), (64, (I o17.1.fParent)), (65, (V.ptr 7 0 1)), (66, (I o17.2.fParent)), (67, (V.bool (o17.1.fParent != o17.2.fParent))), (68, (V.bool (o17.1.fParent != o17.2.fParent))), (69, (V.bool (o17.1.fParent != o17.2.fParent)))], [(2, ⟨false, 4, [(enc_T_api_Base a0)]⟩), (3, ⟨false, 4, [(enc_T_api_Base a1)]⟩), (6, ⟨false, 8, [(enc_T_api_Type o17.1)]⟩), (7, ⟨false, 8, [(enc_T_api_Type o17.2)]⟩)], 149⟩ rfl rfl rfl ?_
    refine bifE (c := (o17.1.fParent != o17.2.fParent)) (fun hc => ?_) fun hc => ?_
    · rw [hc]
      exact reg_end rfl
    · rw [hc]
      refine ra 7 20 ⟨[(2, (V.ptr 2 0 0)), (3, (V.ptr 3 0 0)), (5, (I x14)), (6, (V.ptr 6 0 0)), (7, (V.ptr 7 0 0)), (57, (V.ptr 6 0 0)), (58, (V.str o17.1.fName)), (59, (V.ptr 7 0 0)), (60, (V.str o17.2.fName)), (61, (V.bool false)), (62, (V.bool false)), (63, (V.ptr 6 0 1)), (64, (I o17.1.fParent)), (65, (V.ptr 7 0 1)), (66, (I o17.2.fParent)), (67, (V.bool false)), (68, (V.bool false)), (69, (V.bool false)), (70, (V.ptr 6 0 2)), (71, (I o17.1.fMin)), (72, (V.ptr 7 0 2)), (73, (I o17.2.fMin)), (74, (V.bool (o17.1.fMin != o17.2.fMin))), (75, (V.bool (o17.1.fMin != o17.2.fMin))), (76, (V.bool (o17.1.fMin != o17.2.fMin)))], [(2, ⟨false, 4, [(enc_T_api_Base a0)]⟩), (3, ⟨false, 4, [(enc_T_api_Base a1)]⟩), (6, ⟨false, 8, [(enc_T_api_Type o17.1)]⟩), (7, ⟨false, 8, [(enc_T_api_Type o17.2)]⟩)], 149⟩ rfl rfl rfl ?_
      refine bifE (c := (o17.1.fMin != o17.2.fMin)) (fun hc => ?_) fun hc => ?_
      · rw [hc]
        exact reg_end rfl
      · rw [hc]
        refine ra 7 27 ⟨[(2, (V.ptr 2 0 0)), (3, (V.ptr 3 0 0)), (5, (I x14)), (6, (V.ptr 6 0 0)), (7, (V.ptr 7 0 0)), (57, (V.ptr 6 0 0)), (58, (V.str o17.1.fName)), (59, (V.ptr 7 0 0)), (60, (V.str o17.2.fName)), (61, (V.bool false)), (62, (V.bool false)), (63, (V.ptr 6 0 1)), (64, (I o17.1.fParent)), (65, (V.ptr 7 0 1)), (66, (I o17.2.fParent)), (67, (V.bool false)), (68, (V.bool false)), (69, (V.bool false)), (70, (V.ptr 6 0 2)), (71, (I o17.1.fMin)), (72, (V.ptr 7 0 2)), (73, (I o17.2.fMin)), (74, (V.bool false)), (75, (V.bool false)), (76, (V.bool false)), (77, (V.ptr 6 0 3)), (78, (I o17.1.fSize)), (79, (V.ptr 7 0 3)), (80, (I o17.2.fSize)), (81, (V.bool (o17.1.fSize != o17.2.fSize))), (82, (V.bool (o17.1.fSize != o17.2.fSize))), (83, (V.bool (o17.1.fSize != o17.2.fSize)))], [(2, ⟨false, 4, [(enc_T_api_Base a0)]⟩), (3, ⟨false, 4, [(enc_T_api_Base a1)]⟩), (6, ⟨false, 8, [(enc_T_api_Type o17.1)]⟩), (7, ⟨false, 8, [(enc_T_api_Type o17.2)]⟩)], 149⟩ rfl rfl rfl ?_
        refine bifE (c := (o17.1.fSize != o17.2.fSize)) (fun hc => ?_) fun hc => ?_
        · rw [hc]
          exact reg_end rfl
        · rw [hc]
          refine ra 7 34 ⟨[(2, (V.ptr 2 0 0)), (3, (V.ptr 3 0 0)), (5, (I x14)), (6, (V.ptr 6 0 0)), (7, (V.ptr 7 0 0)), (57, (V.ptr 6 0 0)), (58, (V.str o17.1.fName)), (59, (V.ptr 7 0 0)), (60, (V.str o17.2.fName)), (61, (V.bool false)), (62, (V.bool false)), (63, (V.ptr 6 0 1)), (64, (I o17.1.fParent)), (65, (V.ptr 7 0 1)), (66, (I o17.2.fParent)), (67, (V.bool false)), (68, (V.bool false)), (69, (V.bool false)), (70, (V.ptr 6 0 2)), (71, (I o17.1.fMin)), (72, (V.ptr 7 0 2)), (73, (I o17.2.fMin)), (74, (V.bool false)), (75, (V.bool false)), (76, (V.bool false)), (77, (V.ptr 6 0 3)), (78, (I o17.1.fSize)), (79, (V.ptr 7 0 3)), (80, (I o17.2.fSize)), (81, (V.bool false)), (82, (V.bool false)), (83, (V.bool false)), (84, (V.ptr 6 0 5)), (85, (I o17.1.fKey)), (86, (V.ptr 7 0 5)), (87, (I o17.2.fKey)), (88, (V.bool (o17.1.fKey != o17.2.fKey))), (89, (V.bool (o17.1.fKey != o17.2.fKey))), (90, (V.bool (o17.1.fKey != o17.2.fKey)))], [(2, ⟨false, 4, [(enc_T_api_Base a0)]⟩), (3, ⟨false, 4, [(enc_T_api_Base a1)]⟩), (6, ⟨false, 8, [(enc_T_api_Type o17.1)]⟩), (7, ⟨false, 8, [(enc_T_api_Type o17.2)]⟩)], 149⟩ rfl rfl rfl ?_
          refine bifE (c := (o17.1.fKey != o17.2.fKey)) (fun hc => ?_) fun hc => ?_
          · rw [hc]
            exact reg_end rfl
          · rw [hc]
            refine ra 7 41 ⟨[(2, (V.ptr 2 0 0)), (3, (V.ptr 3 0 0)), (5, (I x14)), (6, (V.ptr 6 0 0)), (7, (V.ptr 7 0 0)), (57, (V.ptr 6 0 0)), (58, (V.str o17.1.fName)), (59, (V.ptr 7 0 0)), (60, (V.str o17.2.fName)), (61, (V.bool false)), (62, (V.bool false)), (63, (V.ptr 6 0 1)), (64, (I o17.1.fParent)), (65, (V.ptr 7 0 1)), (66, (I o17.2.fParent)), (67, (V.bool false)), (68, (V.bool false)), (69, (V.bool false)), (70, (V.ptr 6 0 2)), (71, (I o17.1.fMin)), (72, (V.ptr 7 0 2)), (73, (I o17.2.fMin)), (74, (V.bool false)), (75, (V.bool false)), (76, (V.bool false)), (77, (V.ptr 6 0 3)), (78, (I o17.1.fSize)), (79, (V.ptr 7 0 3)), (80, (I o17.2.fSize)), (81, (V.bool false)), (82, (V.bool false)), (83, (V.bool false)), (84, (V.ptr 6 0 5)), (85, (I o17.1.fKey)), (86, (V.ptr 7 0 5)), (87, (I o17.2.fKey)), (88, (V.bool false)), (89, (V.bool false)), (90, (V.bool false)), (91, (V.ptr 6 0 6)), (92, (V.bool o17.1.fUnique)), (93, (V.ptr 7 0 6)), (94, (V.bool o17.2.fUnique)), (95, (V.bool (!(o17.1.fUnique == o17.2.fUnique)))), (96, (V.bool (!(o17.1.fUnique == o17.2.fUnique)))), (97, (V.bool (!(o17.1.fUnique == o17.2.fUnique))))], [(2, ⟨false, 4, [(enc_T_api_Base a0)]⟩), (3, ⟨false, 4, [(enc_T_api_Base a1)]⟩), (6, ⟨false, 8, [(enc_T_api_Type o17.1)]⟩), (7, ⟨false, 8, [(enc_T_api_Type o17.2)]⟩)], 149⟩ rfl rfl rfl ?_
            refine bifE (c := (!(o17.1.fUnique == o17.2.fUnique))) (fun hc => ?_) fun hc => ?_
            · rw [hc]
              exact reg_end rfl
            · rw [hc]
              refine ra 7 48 ⟨[(2, (V.ptr 2 0 0)), (3, (V.ptr 3 0 0)), (5, (I x14)), (6, (V.ptr 6 0 0)), (7, (V.ptr 7 0 0)), (57, (V.ptr 6 0 0)), (58, (V.str o17.1.fName)), (59, (V.ptr 7 0 0)), (60, (V.str o17.2.fName)), (61, (V.bool false)), (62, (V.bool false)), (63, (V.ptr 6 0 1)), (64, (I o17.1.fParent)), (65, (V.ptr 7 0 1)), (66, (I o17.2.fParent)), (67, (V.bool false)), (68, (V.bool false)), (69, (V.bool false)), (70, (V.ptr 6 0 2)), (71, (I o17.1.fMin)), (72, (V.ptr 7 0 2)), (73, (I o17.2.fMin)), (74, (V.bool false)), (75, (V.bool false)), (76, (V.bool false)), (77, (V.ptr 6 0 3)), (78, (I o17.1.fSize)), (79, (V.ptr 7 0 3)), (80, (I o17.2.fSize)), (81, (V.bool false)), (82, (V.bool false)), (83, (V.bool false)), (84, (V.ptr 6 0 5)), (85, (I o17.1.fKey)), (86, (V.ptr 7 0 5)), (87, (I o17.2.fKey)), (88, (V.bool false)), (89, (V.bool false)), (90, (V.bool false)), (91, (V.ptr 6 0 6)), (92, (V.bool o17.1.fUnique)), (93, (V.ptr 7 0 6)), (94, (V.bool o17.2.fUnique)), (95, (V.bool false)), (96, (V.bool false)), (97, (V.bool false)), (98, (V.ptr 6 0 7)), (99, (V.bool o17.1.fLast)), (100, (V.ptr 7 0 7)), (101, (V.bool o17.2.fLast)), (102, (V.bool (!(o17.1.fLast == o17.2.fLast)))), (103, (V.bool (!(o17.1.fLast == o17.2.fLast)))), (104, (V.bool (!(o17.1.fLast == o17.2.fLast))))], [(2, ⟨false, 4, [(enc_T_api_Base a0)]⟩), (3, ⟨false, 4, [(enc_T_api_Base a1)]⟩), (6, ⟨false, 8, [(enc_T_api_Type o17.1)]⟩), (7, ⟨false, 8, [(enc_T_api_Type o17.2)]⟩)], 149⟩ rfl rfl rfl ?_
              refine bifE (c := (!(o17.1.fLast == o17.2.fLast))) (fun hc => ?_) fun hc => ?_
              · rw [hc]
                exact reg_end rfl
              · rw [hc]
                refine ra 2 50 ⟨[(2, (V.ptr 2 0 0)), (3, (V.ptr 3 0 0)), (5, (I x14)), (6, (V.ptr 6 0 0)), (7, (V.ptr 7 0 0)), (57, (V.ptr 6 0 0)), (58, (V.str o17.1.fName)), (59, (V.ptr 7 0 0)), (60, (V.str o17.2.fName)), (61, (V.bool false)), (62, (V.bool false)), (63, (V.ptr 6 0 1)), (64, (I o17.1.fParent)), (65, (V.ptr 7 0 1)), (66, (I o17.2.fParent)), (67, (V.bool false)), (68, (V.bool false)), (69, (V.bool false)), (70, (V.ptr 6 0 2)), (71, (I o17.1.fMin)), (72, (V.ptr 7 0 2)), (73, (I o17.2.fMin)), (74, (V.bool false)), (75, (V.bool false)), (76, (V.bool false)), (77, (V.ptr 6 0 3)), (78, (I o17.1.fSize)), (79, (V.ptr 7 0 3)), (80, (I o17.2.fSize)), (81, (V.bool false)), (82, (V.bool false)), (83, (V.bool false)), (84, (V.ptr 6 0 5)), (85, (I o17.1.fKey)), (86, (V.ptr 7 0 5)), (87, (I o17.2.fKey)), (88, (V.bool false)), (89, (V.bool false)), (90, (V.bool false)), (91, (V.ptr 6 0 6)), (92, (V.bool o17.1.fUnique)), (93, (V.ptr 7 0 6)), (94, (V.bool o17.2.fUnique)), (95, (V.bool false)), (96, (V.bool false)), (97, (V.bool false)), (98, (V.ptr 6 0 7)), (99, (V.bool o17.1.fLast)), (100, (V.ptr 7 0 7)), (101, (V.bool o17.2.fLast)), (102, (V.bool false)), (103, (V.bool false)), (104, (V.bool false)), (105, (V.ptr 6 0 4)), (106, (sField (o17.1.fFields)))], [(2, ⟨false, 4, [(enc_T_api_Base a0)]⟩), (3, ⟨false, 4, [(enc_T_api_Base a1)]⟩), (6, ⟨false, 8, [(enc_T_api_Type o17.1)]⟩), (7, ⟨false, 8, [(enc_T_api_Type o17.2)]⟩)], 149⟩ rfl rfl rfl ?_
                refine Eq.trans (reg_pure (x := some ()) (w := fun _ => (I (o17.1.fFields.length : Int))) rfl rfl rfl rfl (p_len (e := enc_T_api_Field) rfl rfl rfl rfl rfl rfl Go.Proofs.Try.underlying53)) ?_
                refine Eq.trans some_bind ?_
                refine ba 2 53 ⟨[(2, (V.ptr 2 0 0)), (3, (V.ptr 3 0 0)), (5, (I x14)), (6, (V.ptr 6 0 0)), (7, (V.ptr 7 0 0)), (57, (V.ptr 6 0 0)), (58, (V.str o17.1.fName)), (59, (V.ptr 7 0 0)), (60, (V.str o17.2.fName)), (61, (V.bool false)), (62, (V.bool false)), (63, (V.ptr 6 0 1)), (64, (I o17.1.fParent)), (65, (V.ptr 7 0 1)), (66, (I o17.2.fParent)), (67, (V.bool false)), (68, (V.bool false)), (69, (V.bool false)), (70, (V.ptr 6 0 2)), (71, (I o17.1.fMin)), (72, (V.ptr 7 0 2)), (73, (I o17.2.fMin)), (74, (V.bool false)), (75, (V.bool false)), (76, (V.bool false)), (77, (V.ptr 6 0 3)), (78, (I o17.1.fSize)), (79, (V.ptr 7 0 3)), (80, (I o17.2.fSize)), (81, (V.bool false)), (82, (V.bool false)), (83, (V.bool false)), (84, (V.ptr 6 0 5)), (85, (I o17.1.fKey)), (86, (V.ptr 7 0 5)), (87, (I o17.2.fKey)), (88, (V.bool false)), (89, (V.bool false)), (90, (V.bool false)), (91, (V.ptr 6 0 6)), (92, (V.bool o17.1.fUnique)), (93, (V.ptr 7 0 6)), (94, (V.bool o17.2.fUnique)), (95, (V.bool false)), (96, (V.bool false)), (97, (V.bool false)), (98, (V.ptr 6 0 7)), (99, (V.bool o17.1.fLast)), (100, (V.ptr 7 0 7)), (101, (V.bool o17.2.fLast)), (102, (V.bool false)), (103, (V.bool false)), (104, (V.bool false)), (105, (V.ptr 6 0 4)), (106, (sField (o17.1.fFields))), (107, (I (o17.1.fFields.length : Int))), (108, (V.ptr 7 0 4)), (109, (sField (o17.2.fFields)))], [(2, ⟨false, 4, [(enc_T_api_Base a0)]⟩), (3, ⟨false, 4, [(enc_T_api_Base a1)]⟩), (6, ⟨false, 8, [(enc_T_api_Type o17.1)]⟩), (7, ⟨false, 8, [(enc_T_api_Type o17.2)]⟩)], 149⟩ rfl rfl rfl ?_
                refine Eq.trans (reg_pure (x := some ()) (w := fun _ => (I (o17.2.fFields.length : Int))) rfl rfl rfl rfl (p_len (e := enc_T_api_Field) rfl rfl rfl rfl rfl rfl Go.Proofs.Try.underlying53)) ?_
                refine Eq.trans some_bind ?_
                exact bind_end rfl
theorem f25r8 (k : Nat) (a0 : T_api_Base) (a1 : T_api_Base) (x14 : Int) (o17 : T_api_Type × T_api_Type) : RE k f25a8 f25o8 false ⟨[(2, (V.ptr 2 0 0)), (3, (V.ptr 3 0 0)), (5, (I x14)), (6, (V.ptr 6 0 0)), (7, (V.ptr 7 0 0)), (112, (V.bool true))], [(2, ⟨false, 4, [(enc_T_api_Base a0)]⟩), (3, ⟨false, 4, [(enc_T_api_Base a1)]⟩), (6, ⟨false, 8, [(enc_T_api_Type o17.1)]⟩), (7, ⟨false, 8, [(enc_T_api_Type o17.2)]⟩)], 149⟩ = some ⟨[(4, (V.bool false))], [], 149⟩ :=
  rE rfl
theorem f25r9 (k : Nat) (a0 : T_api_Base) (a1 : T_api_Base) (x14 : Int) (o17 : T_api_Type × T_api_Type) : RE k f25a9 f25o9 false ⟨[(2, (V.ptr 2 0 0)), (3, (V.ptr 3 0 0)), (5, (I x14)), (6, (V.ptr 6 0 0)), (7, (V.ptr 7 0 0)), (112, (V.bool false))], [(2, ⟨false, 4, [(enc_T_api_Base a0)]⟩), (3, ⟨false, 4, [(enc_T_api_Base a1)]⟩), (6, ⟨false, 8, [(enc_T_api_Type o17.1)]⟩), (7, ⟨false, 8, [(enc_T_api_Type o17.2)]⟩)], 149⟩ = some ⟨[(2, (V.ptr 2 0 0)), (3, (V.ptr 3 0 0)), (5, (I x14)), (6, (V.ptr 6 0 0)), (7, (V.ptr 7 0 0)), (8, (I 0))], [(2, ⟨false, 4, [(enc_T_api_Base a0)]⟩), (3, ⟨false, 4, [(enc_T_api_Base a1)]⟩), (6, ⟨false, 8, [(enc_T_api_Type o17.1)]⟩), (7, ⟨false, 8, [(enc_T_api_Type o17.2)]⟩)], 149⟩ :=
  rE rfl
theorem f25r10 (k : Nat) (a0 : T_api_Base) (a1 : T_api_Base) (x14 : Int) (o17 : T_api_Type × T_api_Type) (x22 : Int) : RE k f25a10 f25o10 false ⟨[(2, (V.ptr 2 0 0)), (3, (V.ptr 3 0 0)), (5, (I x14)), (6, (V.ptr 6 0 0)), (7, (V.ptr 7 0 0)), (8, (I x22))], [(2, ⟨false, 4, [(enc_T_api_Base a0)]⟩), (3, ⟨false, 4, [(enc_T_api_Base a1)]⟩), (6, ⟨false, 8, [(enc_T_api_Type o17.1)]⟩), (7, ⟨false, 8, [(enc_T_api_Type o17.2)]⟩)], 149⟩ = some ⟨[(2, (V.ptr 2 0 0)), (3, (V.ptr 3 0 0)), (5, (I x14)), (6, (V.ptr 6 0 0)), (7, (V.ptr 7 0 0)), (8, (I x22)), (117, (V.bool (decide (x22 < (o17.1.fFields.length : Int)))))], [(2, ⟨false, 4, [(enc_T_api_Base a0)]⟩), (3, ⟨false, 4, [(enc_T_api_Base a1)]⟩), (6, ⟨false, 8, [(enc_T_api_Type o17.1)]⟩), (7, ⟨false, 8, [(enc_T_api_Type o17.2)]⟩)], 149⟩ := by
  refine rg ?_
  refine ra 3 3 ⟨[(2, (V.ptr 2 0 0)), (3, (V.ptr 3 0 0)), (5, (I x14)), (6, (V.ptr 6 0 0)), (7, (V.ptr 7 0 0)), (8, (I x22)), (113, (I x22)), (114, (V.ptr 6 0 4)), (115, (sField (o17.1.fFields)))], [(2, ⟨false, 4, [(enc_T_api_Base a0)]⟩), (3, ⟨false, 4, [(enc_T_api_Base a1)]⟩), (6, ⟨false, 8, [(enc_T_api_Type o17.1)]⟩), (7, ⟨false, 8, [(enc_T_api_Type o17.2)]⟩)], 149⟩ rfl rfl rfl ?_
  refine Eq.trans (reg_pure (x := some ()) (w := fun _ => (I (o17.1.fFields.length : Int))) rfl rfl rfl rfl (p_len (e := enc_T_api_Field) rfl rfl rfl rfl rfl rfl Go.Proofs.Try.underlying53)) ?_
  refine Eq.trans some_bind ?_
  exact bind_end rfl
end
end Go.AE
