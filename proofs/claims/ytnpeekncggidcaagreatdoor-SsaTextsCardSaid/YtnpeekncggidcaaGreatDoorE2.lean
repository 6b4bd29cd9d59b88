/- The program, function by function: the evaluator comes to the typed functions. Conditions: none. -/
import Derived.Test.YtnpeekncggidcaaGreatDoorA3
import Derived.KernelRfl
import Derived.Test.YtnpeekncggidcaaGreatDoorProg
import Derived.Test.YtnpeekncggidcaaGreatDoorB1
import Derived.Test.YtnpeekncggidcaaGreatDoorE1
namespace Go.AE
open Go.Proofs.Tryz Go.Sh
set_option linter.unusedSimpArgs false
set_option linter.unusedVariables false
set_option maxRecDepth 100000
set_option maxHeartbeats 4000000
noncomputable section
theorem ko (k : Nat) (a0 : Str)  (K0 : Int → Option Bool) (Kst : X × St → Option (V × List V)) (hK0 : ∀ (y0 : Int), Kst (X.exit 0, ⟨[(0, (Sr a0)), (3, (I y0)), (8, (Bo false))], [], 47⟩) = (K0 y0).map bH) (hret : ∀ s, Kst (X.ret, s) = F6 prog 47 [(Sr a0)] [] [.tmp 2] (X.ret, s)) :
  ∀ (m : Nat) (x7 : Int), (D1 (u1 prog (EV k) Ge k BI) m ⟨[(0, (Sr a0)), (3, (I x7))], [], 47⟩).bind Kst = (O8 a0 K0 m x7).map bH := by
 intro m
 induction m with
 | zero => intros; rfl
 | succ m ih =>
  intro x7
  unfold O8
  refine et l9 <| et b6 <| kra [(8, (Bo (decide (x7 < (a0.length : Int)))))] rfl <| kc rfl rfl (fun hc => ?_) fun hc => ?_
  ·rw [hc]
   refine et d6 <| et (i9 rfl) <| kg Dt rfl (fun (o10 : Bool) => ⟨[(0, (Sr a0)), (3, (I x7)), (4, (Bo o10))], [], 47⟩) ?_ fun o10 => ?_
   ·refine rd 2 [(11, (Sr a0)), (12, (I x7))] rfl rfl <| rp rfl (w7 rfl rfl rfl underlying9) fun v8 => bd 5 [(13, (V.int .u8 v8)), (14, (Bo (decide (v8 ≥ 65)))), (15, (Bo (decide (v8 ≥ 65))))] rfl rfl <| n5 (fun hc => ?_) fun hc => ?_
    ·rw [hc]
     exact rd 7 [(16, (Sr a0)), (17, (I x7))] rfl rfl <| rp rfl (w7 rfl rfl rfl underlying9) fun v9 => b5 rfl
    ·rw [hc]
     exact d5 rfl
   refine kg Fi rfl (fun (o13 : Bool) => ⟨[(0, (Sr a0)), (3, (I x7)), (38, (Bo o13))], [], 47⟩) ?_ fun o13 => ?_
   ·refine rd 3 [(21, (Bo o10)), (22, (Bo (!o10))), (23, (Bo (!o10)))] rfl rfl <| n5 (fun hc => ?_) fun hc => ?_
    ·rw [hc]
     refine rd 6 [(24, (I x7)), (25, (Bo (x7 == 0))), (26, (Bo (x7 == 0)))] rfl rfl <| n5 (fun hc => ?_) fun hc => ?_
     ·rw [hc]
      exact d5 rfl
     ·rw [hc]
      refine rd 8 [(27, (Sr a0)), (28, (I x7))] rfl rfl <| rp rfl (w7 rfl rfl rfl underlying9) fun v11 => bd 12 [(29, (V.int .u8 v11)), (30, (Bo (decide (v11 < 48)))), (31, (Bo (decide (v11 < 48)))), (32, (Bo (decide (v11 < 48))))] rfl rfl <| n5 (fun hc => ?_) fun hc => ?_
      ·rw [hc]
       exact d5 rfl
      ·rw [hc]
       exact rd 14 [(33, (Sr a0)), (34, (I x7))] rfl rfl <| rp rfl (w7 rfl rfl rfl underlying9) fun v12 => b5 rfl
    ·rw [hc]
     exact d5 rfl
   refine kcl rfl rfl (fun hc => ?_) fun hc => ?_
   ·rw [hc]
    refine kr ⟨[(2, (Bo false))], [], 47⟩ rfl <| et i1 <| et l6 <| et l8 <| et (hret _) ?_
    rfl
   ·rw [hc]
    exact et m9 <| et i6 <| kl ⟨[(0, (Sr a0)), (3, (I (Go.IntKind.wrap .i64 (x7 + 1))))], [], 47⟩ rfl <| et i3 <| ih (Go.IntKind.wrap .i64 (x7 + 1))
  ·rw [hc]
   exact et p7 <| et j3 <| hK0 x7
theorem aC (k : Nat) (a0 : Str) : EV k 56 [(Sr a0)] = (K6 k a0).map bH := by
 cases k with
 | zero => rfl
 | succ k =>
  unfold K6
  refine et (i5 (c := f56c) (N := 47) (regs := Ge) rfl func56 rfl (by decide) rfl rfl rfl) <| kra [] rfl <| et b6 <| kra [(3, (I 0))] rfl <| et (i9 rfl) <| et p8 ?_
  refine ko k a0 _ _ ?h_ref11_IsName_L1_0 ?hr_ref11_IsName_L1 k 0
  ·intro y14
   refine et j5 <| kg EX rfl (fun (o15 : Bool) => ⟨[(2, (Bo o15))], [], 47⟩) ?_ fun o15 => ?_
   ·refine rd 4 [(39, (Sr a0)), (40, (I (a0.length : Int))), (41, (Bo (decide ((a0.length : Int) ≥ 1)))), (42, (Bo (decide ((a0.length : Int) ≥ 1))))] rfl rfl <| n5 (fun hc => ?_) fun hc => ?_
    ·rw [hc]
     exact d5 rfl
    ·rw [hc]
     exact d5 rfl
   refine et i1 ?_
   rfl
  ·intro s; exact rfl
def T1 : Bool → V × List V := fun r => ((Bo r), [])
theorem jS (k : Nat) (a0 : b9) (x11 : Int) (o13 : i4)  (K0 : Int → Option Bool) (Kst : X × St → Option (V × List V)) (hK0 : ∀ (y0 : Int), Kst (X.exit 2, ⟨[(1, (Pt 1)), (3, (I x11)), (4, (Pt 4)), (5, (I y0)), (51, (Bo false))], [(1, vS 8 (j0 a0)), (4, vS 3 (l5 o13))], 112⟩) = (K0 y0).map T1) (hret : ∀ s, Kst (X.ret, s) = F6 prog 112 [(j0 a0)] [] [.tmp 2] (X.ret, s)) :
  ∀ (m : Nat) (x18 : Int), (D1 (u1 prog (EV k) Bq k Cm) m ⟨[(1, (Pt 1)), (3, (I x11)), (4, (Pt 4)), (5, (I x18))], [(1, vS 8 (j0 a0)), (4, vS 3 (l5 o13))], 112⟩).bind Kst = (G6 a0 x11 o13 K0 m x18).map T1 := by
 intro m
 induction m with
 | zero => intros; rfl
 | succ m ih =>
  intro x18
  unfold G6
  refine et l9 <| et b6 <| kra [(51, (Bo (decide (x18 < x11))))] rfl <| kc rfl rfl (fun hc => ?_) fun hc => ?_
  ·rw [hc]
   refine et d6 <| et (i9 rfl) <| kd yl rfl (fun (o20 : Bool) => ⟨[(1, (Pt 1)), (3, (I x11)), (4, (Pt 4)), (5, (I x18)), (62, (Bo o20))], [(1, vS 8 (j0 a0)), (4, vS 3 (l5 o13))], 112⟩) (et (j2 (p := 9) (dk := true) (t := [(1, (Pt 1)), (3, (I x11)), (4, (Pt 4)), (5, (I x18)), (51, (Bo true))]) (σ := [(1, vS 8 (j0 a0)), (4, vS 3 (l5 o13))]) (n := 112) rfl (by decide) (by decide) rfl) <| et (j9 (m := 3) (j := 3) (t' := [(1, (Pt 1)), (3, (I x11)), (4, (Pt 4)), (5, (I x18)), (51, (Bo true)), (54, (V.ptr 1 0 4)), (55, (k0 a0.fFields)), (56, (I x18))]) rfl rfl rfl) <| et (c9 (x := (idx a0.fFields x18)) (w := fun v19 => (Pr (l5 v19))) rfl rfl rfl rfl rfl (i2 (e := l5) rfl rfl rfl underlying46 rfl (by decide))) <| j6 fun v19 => j8 rfl) fun o20 => kcl rfl rfl (fun hc => ?_) fun hc => ?_
   ·rw [hc]
    refine kr ⟨[(2, (Bo false))], [], 112⟩ rfl <| et i1 <| et l6 <| et l8 <| et (hret _) ?_
    rfl
   ·rw [hc]
    exact et m9 <| et i6 <| kl ⟨[(1, (Pt 1)), (3, (I x11)), (4, (Pt 4)), (5, (I (Go.IntKind.wrap .i64 (x18 + 1))))], [(1, vS 8 (j0 a0)), (4, vS 3 (l5 o13))], 112⟩ rfl <| et i3 <| ih (Go.IntKind.wrap .i64 (x18 + 1))
  ·rw [hc]
   exact et p7 <| et j3 <| hK0 x18
theorem kI (k : Nat) (a0 : b9)  (K0 : Int → Option Bool) (Kst : X × St → Option (V × List V)) (hK0 : ∀ (y0 : Int), Kst (X.exit 0, ⟨[(1, (Pt 1)), (3, (I y0)), (10, (Bo false))], [(1, vS 8 (j0 a0))], 112⟩) = (K0 y0).map T1) (hret : ∀ s, Kst (X.ret, s) = F6 prog 112 [(j0 a0)] [] [.tmp 2] (X.ret, s)) :
  ∀ (m : Nat) (x11 : Int), (D1 (u1 prog (EV k) Bq k DB) m ⟨[(1, (Pt 1)), (3, (I x11))], [(1, vS 8 (j0 a0))], 112⟩).bind Kst = (I8 k a0 K0 m x11).map T1 := by
 intro m
 induction m with
 | zero => intros; rfl
 | succ m ih =>
  intro x11
  unfold I8
  refine et l9 <| et b6 <| krp CN rfl ⟨[(1, (Pt 1)), (3, (I x11)), (10, (Bo (decide (x11 < (a0.fFields.length : Int)))))], [(1, vS 8 (j0 a0))], 112⟩ ?_ ?_
  ·exact rd 3 [(6, (I x11)), (7, (V.ptr 1 0 4)), (8, (k0 a0.fFields))] rfl rfl <| rl rfl (n7 (e := l5) rfl rfl rfl rfl rfl rfl underlying46) <| b5 rfl
  refine kc rfl rfl (fun hc => ?_) fun hc => ?_
  ·rw [hc]
   refine et d6 <| et (i9 rfl) <| kg CG rfl (fun (o13 : i4) => ⟨[(1, (Pt 1)), (3, (I x11)), (4, (Pt 4))], [(1, vS 8 (j0 a0)), (4, vS 3 (l5 o13))], 112⟩) (rd 3 [(13, (V.ptr 1 0 4)), (14, (k0 a0.fFields)), (15, (I x11))] rfl rfl <| rs rfl (i2 (e := l5) rfl rfl rfl underlying46 rfl (by decide)) fun v12 => b5 rfl) fun o13 => et b6 <| kga DU rfl (fun (o15 : Bool) => [(48, (Bo o15))]) ?_ fun o15 => ?_
   ·refine rd 2 [(18, (Pt 4)), (19, (Sr o13.fName))] rfl rfl <| rp rfl (d7 rfl rfl rfl rfl rfl (aC k o13.fName) (.inl rfl)) fun v14 => bd 5 [(20, (Bo v14)), (21, (Bo (!v14))), (22, (Bo (!v14)))] rfl rfl <| n5 (fun hc => ?_) fun hc => ?_
    ·rw [hc]
     exact d5 rfl
    ·rw [hc]
     refine rd 10 [(23, (V.ptr 4 0 1)), (24, (I o13.fAt)), (25, (Bo (decide (o13.fAt < 0)))), (26, (Bo (decide (o13.fAt < 0)))), (27, (Bo (decide (o13.fAt < 0))))] rfl rfl <| n5 (fun hc => ?_) fun hc => ?_
     ·rw [hc]
      exact d5 rfl
     ·rw [hc]
      refine rd 17 [(28, (V.ptr 4 0 1)), (29, (I o13.fAt)), (30, (V.ptr 1 0 3)), (31, (I a0.fSize)), (32, (Bo (decide (o13.fAt > a0.fSize)))), (33, (Bo (decide (o13.fAt > a0.fSize)))), (34, (Bo (decide (o13.fAt > a0.fSize))))] rfl rfl <| n5 (fun hc => ?_) fun hc => ?_
      ·rw [hc]
       exact d5 rfl
      ·rw [hc]
       refine rd 22 [(35, (V.ptr 4 0 2)), (36, (I o13.fBytes)), (37, (Bo (decide (o13.fBytes < 1)))), (38, (Bo (decide (o13.fBytes < 1)))), (39, (Bo (decide (o13.fBytes < 1))))] rfl rfl <| n5 (fun hc => ?_) fun hc => ?_
       ·rw [hc]
        exact d5 rfl
       ·rw [hc]
        exact d5 rfl
   refine kc rfl rfl (fun hc => ?_) fun hc => ?_
   ·rw [hc]
    refine et b6 <| kr ⟨[(2, (Bo false))], [], 112⟩ rfl <| et n6 <| et l6 <| et l8 <| et (hret _) ?_
    rfl
   ·rw [hc]
    refine et d6 <| kr ⟨[(1, (Pt 1)), (3, (I x11)), (4, (Pt 4)), (5, (I 0))], [(1, vS 8 (j0 a0)), (4, vS 3 (l5 o13))], 112⟩ rfl <| et (G7 rfl) <| et p8 ?_
    refine jS k a0 x11 o13 _ _ ?h_ref11_fields_L2_0 ?hr_ref11_fields_L2 k 0
    ·intro y21
     exact et j5 <| et m9 <| et i6 <| kl ⟨[(1, (Pt 1)), (3, (I (Go.IntKind.wrap .i64 (x11 + 1))))], [(1, vS 8 (j0 a0))], 112⟩ rfl <| et i3 <| ih (Go.IntKind.wrap .i64 (x11 + 1))
    ·intro s; exact hret s
  ·rw [hc]
   exact et p7 <| et j3 <| hK0 x11
theorem nS (k : Nat) (a0 : b9) : EV k 57 [(j0 a0)] = (bg k a0).map T1 := by
 cases k with
 | zero => rfl
 | succ k =>
  unfold bg
  refine et (i5 (c := f57c) (N := 112) (regs := Bq) rfl func57 rfl (by decide) rfl rfl rfl) <| kr ⟨[(1, (Pt 1))], [(1, vS 8 (j0 a0))], 112⟩ rfl <| et b6 <| kra [(3, (I 0))] rfl <| et (i9 rfl) <| et p8 ?_
  refine kI k a0 _ _ ?h_ref11_fields_L1_0 ?hr_ref11_fields_L1 k 0
  ·intro y22
   refine et j5 <| et b6 <| kg yj rfl (fun (o23 : Bool) => ⟨[(1, (Pt 1)), (82, (Bo o23))], [(1, vS 8 (j0 a0))], 112⟩) ?_ fun o23 => ?_
   ·refine rd 4 [(63, (V.ptr 1 0 5)), (64, (I a0.fKey)), (65, (Bo (decide (a0.fKey < (-1))))), (66, (Bo (decide (a0.fKey < (-1)))))] rfl rfl <| n5 (fun hc => ?_) fun hc => ?_
    ·rw [hc]
     exact d5 rfl
    ·rw [hc]
     refine rd 8 [(67, (V.ptr 1 0 5)), (68, (I a0.fKey)), (69, (V.ptr 1 0 4)), (70, (k0 a0.fFields))] rfl rfl <| rl rfl (n7 (e := l5) rfl rfl rfl rfl rfl rfl underlying46) <| bd 12 [(71, (I (a0.fFields.length : Int))), (72, (Bo (decide (a0.fKey ≥ (a0.fFields.length : Int))))), (73, (Bo (decide (a0.fKey ≥ (a0.fFields.length : Int))))), (74, (Bo (decide (a0.fKey ≥ (a0.fFields.length : Int)))))] rfl rfl <| n5 (fun hc => ?_) fun hc => ?_
     ·rw [hc]
      exact d5 rfl
     ·rw [hc]
      refine rd 16 [(75, (V.ptr 1 0 5)), (76, (I a0.fKey)), (77, (Bo (decide (a0.fKey < 0)))), (78, (Bo (decide (a0.fKey < 0))))] rfl rfl <| n5 (fun hc => ?_) fun hc => ?_
      ·rw [hc]
       exact d5 rfl
      ·rw [hc]
       exact d5 rfl
   refine kc rfl rfl (fun hc => ?_) fun hc => ?_
   ·rw [hc]
    refine et b6 <| kr ⟨[(2, (Bo false))], [], 112⟩ rfl <| et n6 ?_
    rfl
   ·rw [hc]
    refine et d6 <| kd AJ rfl (fun (o26 : Bool) => ⟨[(2, (Bo o26))], [], 112⟩) ?_ fun o26 => ?_
    ·refine et (j2 (p := 30) (dk := true) (t := [(1, (Pt 1)), (82, (Bo false))]) (σ := [(1, vS 8 (j0 a0))]) (n := 112) rfl (by decide) (by decide) rfl) <| et (j9 (m := 2) (j := 2) (t' := [(1, (Pt 1)), (82, (Bo false)), (83, (V.ptr 1 0 4)), (84, (k0 a0.fFields))]) rfl rfl rfl) <| et (c9 (x := some ()) (w := fun _ => (I (a0.fFields.length : Int))) rfl rfl rfl rfl rfl (n7 (e := l5) rfl rfl rfl rfl rfl rfl underlying46)) <| et Y8 <| et (i7 (m := 2) (j := 5) (t' := [(1, (Pt 1)), (82, (Bo false)), (83, (V.ptr 1 0 4)), (84, (k0 a0.fFields)), (85, (I (a0.fFields.length : Int))), (86, (Bo (decide ((a0.fFields.length : Int) ≤ 5)))), (87, (Bo (decide ((a0.fFields.length : Int) ≤ 5))))]) rfl rfl rfl) <| n5 (fun hc => ?_) fun hc => ?_
     ·rw [hc]
      refine et (j9 (m := 4) (j := 9) (t' := [(1, (Pt 1)), (82, (Bo false)), (83, (V.ptr 1 0 4)), (84, (k0 a0.fFields)), (85, (I (a0.fFields.length : Int))), (86, (Bo true)), (87, (Bo true)), (88, (V.ptr 1 0 5)), (89, (I a0.fKey)), (90, (Bo (decide (a0.fKey < 0)))), (91, (Bo (decide (a0.fKey < 0))))]) rfl rfl rfl) <| n5 (fun hc => ?_) fun hc => ?_
      ·rw [hc]
       exact j8 rfl
      ·rw [hc]
       exact et (j9 (m := 4) (j := 13) (t' := [(1, (Pt 1)), (82, (Bo false)), (83, (V.ptr 1 0 4)), (84, (k0 a0.fFields)), (85, (I (a0.fFields.length : Int))), (86, (Bo true)), (87, (Bo true)), (88, (V.ptr 1 0 5)), (89, (I a0.fKey)), (90, (Bo false)), (91, (Bo false)), (92, (V.ptr 1 0 4)), (93, (k0 a0.fFields)), (94, (V.ptr 1 0 5)), (95, (I a0.fKey))]) rfl rfl rfl) <| et (c9 (x := (idx a0.fFields a0.fKey)) (w := fun v24 => (Pr (l5 v24))) rfl rfl rfl rfl rfl (i2 (e := l5) rfl rfl rfl underlying46 rfl (by decide))) <| j6 fun v24 => et (i7 (m := 6) (j := 20) (t' := [(1, (Pt 1)), (82, (Bo false)), (83, (V.ptr 1 0 4)), (84, (k0 a0.fFields)), (85, (I (a0.fFields.length : Int))), (86, (Bo true)), (87, (Bo true)), (88, (V.ptr 1 0 5)), (89, (I a0.fKey)), (90, (Bo false)), (91, (Bo false)), (92, (V.ptr 1 0 4)), (93, (k0 a0.fFields)), (94, (V.ptr 1 0 5)), (95, (I a0.fKey)), (96, (Pr (l5 v24))), (97, (Pr (I v24.fAt))), (98, (I v24.fAt)), (99, (V.ptr 1 0 4)), (100, (k0 a0.fFields)), (101, (V.ptr 1 0 5)), (102, (I a0.fKey))]) rfl rfl rfl) <| et (c9 (x := (idx a0.fFields a0.fKey)) (w := fun v25 => (Pr (l5 v25))) rfl rfl rfl rfl rfl (i2 (e := l5) rfl rfl rfl underlying46 rfl (by decide))) <| j6 fun v25 => j8 rfl
     ·rw [hc]
      exact j8 rfl
    refine et i1 ?_
    rfl
  ·intro s; exact rfl
def dD : Bool → V × List V := fun r => ((Bo r), [])
theorem ly (k : Nat) (a0 : a8) (a1 : Int) (a2 : Int)  (K0 : Int → Option Bool) (Kst : X × St → Option (V × List V)) (hK0 : ∀ (y0 : Int), Kst (X.exit 0, ⟨[(1, (I a1)), (2, (I y0)), (3, (Pt 3)), (14, (Bo false))], [(3, vS 4 (b7 a0))], 24⟩) = (K0 y0).map dD) (hret : ∀ s, Kst (X.ret, s) = F6 prog 24 [(b7 a0), (I a1), (I a2)] [] [.tmp 6] (X.ret, s)) :
  ∀ (m : Nat) (x5 : Int), (D1 (u1 prog (EV k) Jw k DP) m ⟨[(1, (I a1)), (2, (I x5)), (3, (Pt 3))], [(3, vS 4 (b7 a0))], 24⟩).bind Kst = (T0 a0 a1 K0 m x5).map dD := by
 intro m
 induction m with
 | zero => intros; rfl
 | succ m ih =>
  intro x5
  unfold T0
  refine et l9 <| et b6 <| kra [(14, (Bo (decide (x5 ≥ 0))))] rfl <| kc rfl rfl (fun hc => ?_) fun hc => ?_
  ·rw [hc]
   refine et d6 <| et (i9 rfl) <| kr ⟨[(1, (I a1)), (2, (I x5)), (3, (Pt 3)), (23, (Bo (x5 == a1)))], [(3, vS 4 (b7 a0))], 24⟩ rfl <| kcl rfl rfl (fun hc => ?_) fun hc => ?_
   ·rw [hc]
    refine kr ⟨[(6, (Bo true))], [], 24⟩ rfl <| et i1 <| et l6 <| et l8 <| et (hret _) ?_
    rfl
   ·rw [hc]
    exact et m9 <| et i6 <| kgl EI rfl (fun (o7 : Int) => ⟨[(1, (I a1)), (2, (I o7)), (3, (Pt 3))], [(3, vS 4 (b7 a0))], 24⟩) (ra 3 3 ⟨[(1, (I a1)), (2, (I x5)), (3, (Pt 3)), (15, (V.ptr 3 0 2)), (16, (l7 a0.fTypes)), (17, (I x5)), (23, (Bo false))], [(3, vS 4 (b7 a0))], 24⟩ rfl rfl rfl <| rp rfl (i2 (e := j0) rfl rfl rfl underlying22 rfl (by decide)) fun v6 => b5 rfl) fun o7 => et i3 <| ih o7
  ·rw [hc]
   exact et p7 <| et j3 <| hK0 x5
theorem jh (k : Nat) (a0 : a8) (a1 : Int) (a2 : Int) : EV k 58 [(b7 a0), (I a1), (I a2)] = (aU k a0 a1 a2).map dD := by
 cases k with
 | zero => rfl
 | succ k =>
  unfold aU
  refine et (i5 (c := f58c) (N := 24) (regs := Jw) rfl func58 rfl (by decide) rfl rfl rfl) <| kr ⟨[(1, (I a1)), (2, (I a2)), (3, (Pt 3))], [(3, vS 4 (b7 a0))], 24⟩ rfl <| et b6 <| kg Es rfl (fun (o2 : Int) => ⟨[(1, (I a1)), (2, (I o2)), (3, (Pt 3))], [(3, vS 4 (b7 a0))], 24⟩) (rd 3 [(7, (V.ptr 3 0 2)), (8, (l7 a0.fTypes)), (9, (I a2))] rfl rfl <| rp rfl (i2 (e := j0) rfl rfl rfl underlying22 rfl (by decide)) fun v1 => b5 rfl) fun o2 => et (i9 rfl) <| et p8 ?_
  refine ly k a0 a1 a2 _ _ ?h_ref11_above_L1_0 ?hr_ref11_above_L1 k o2
  ·intro y8
   refine et j5 <| kr ⟨[(6, (Bo false))], [], 24⟩ rfl <| et i1 ?_
   rfl
  ·intro s; exact rfl
def fW : (List Int) → V × List V := fun r => ((sI r), [])
theorem nZ (k : Nat) (a0 : a8) (a1 : Int)  (K0 : Int → (List Int) → Option (List Int)) (Kst : X × St → Option (V × List V)) (hK0 : ∀ (y0 : Int) (y1 : (List Int)), Kst (X.exit 0, ⟨[(1, (I y0)), (2, (Pt 2)), (5, (sI y1)), (7, (Bo false))], [(2, vS 4 (b7 a0))], 19⟩) = (K0 y0 y1).map fW) (hret : ∀ s, Kst (X.ret, s) = F6 prog 19 [(b7 a0), (I a1)] [] [.tmp 4] (X.ret, s)) :
  ∀ (m : Nat) (x5 : Int) (x6 : (List Int)), (D1 (u1 prog (EV k) IO k Fx) m ⟨[(1, (I x5)), (2, (Pt 2)), (5, (sI x6))], [(2, vS 4 (b7 a0))], 19⟩).bind Kst = (T9 a0 K0 m x5 x6).map fW := by
 intro m
 induction m with
 | zero => intros; rfl
 | succ m ih =>
  intro x5 x6
  unfold T9
  refine et l9 <| et b6 <| kra [(7, (Bo (decide (x5 ≥ 0))))] rfl <| kc rfl rfl (fun hc => ?_) fun hc => ?_
  ·rw [hc]
   exact et d6 <| et (G7 rfl) <| kg Cz rfl (fun (o8 : (List Int)) => ⟨[(1, (I x5)), (2, (Pt 2)), (5, (sI o8))], [(2, vS 4 (b7 a0))], 19⟩) (rd 3 [(8, (I x5)), (9, (V.sl 1 1 (List.map I ([x5] : List Int)))), (10, (sI x6))] rfl rfl <| et (P4 (x := (app ([x5] : List Int) x6)) (w := fun v7 => ((V.sl 1 1 (List.map I v7)), _)) rfl rfl rfl rfl (nx (e := I) rfl rfl rfl rfl rfl rfl rfl rfl rfl rfl (by decide))) <| B7 fun v7 => b5 rfl) fun o8 => kgl Dc rfl (fun (o10 : Int) => ⟨[(1, (I o10)), (2, (Pt 2)), (5, (sI o8))], [(2, vS 4 (b7 a0))], 19⟩) (rd 3 [(12, (V.ptr 2 0 2)), (13, (l7 a0.fTypes)), (14, (I x5))] rfl rfl <| rp rfl (i2 (e := j0) rfl rfl rfl underlying22 rfl (by decide)) fun v9 => b5 rfl) fun o10 => et i6 <| et m9 <| et i3 <| ih o10 o8
  ·rw [hc]
   exact et p7 <| et j3 <| hK0 x5 x6
theorem md (k : Nat) (a0 : a8) (a1 : Int) : EV k 59 [(b7 a0), (I a1)] = (eg k a0 a1).map fW := by
 cases k with
 | zero => rfl
 | succ k =>
  unfold eg
  refine et (i5 (c := f59c) (N := 19) (regs := IO) rfl func59 rfl (by decide) rfl rfl rfl) <| kr ⟨[(1, (I a1)), (2, (Pt 2))], [(2, vS 4 (b7 a0))], 19⟩ rfl <| kra [(5, (sI (([] : List Int))))] rfl <| et (i9 rfl) <| et p8 ?_
  refine nZ k a0 a1 _ _ ?h_ref11_way_L1_0 ?hr_ref11_way_L1 k a1 ([] : List Int)
  ·intro y11 y12
   refine et j5 <| kr ⟨[(4, (sI y12))], [], 19⟩ rfl <| et i1 ?_
   rfl
  ·intro s; exact rfl
def E4 : Bool → V × List V := fun r => ((Bo r), [])
theorem lH (k : Nat) (a0 : a8) (x20 : Int) (o22 : b9)  (K0 : Int → Option Bool) (Kst : X × St → Option (V × List V)) (hK0 : ∀ (y0 : Int), Kst (X.exit 2, ⟨[(1, (Pt 1)), (3, (I x20)), (4, (Pt 4)), (5, (I y0)), (81, (Bo false))], [(1, vS 4 (b7 a0)), (4, vS 8 (j0 o22))], 232⟩) = (K0 y0).map E4) (hret : ∀ s, Kst (X.ret, s) = F6 prog 232 [(b7 a0)] [] [.tmp 2] (X.ret, s)) :
  ∀ (m : Nat) (x28 : Int), (D1 (u1 prog (EV k) wy k ET) m ⟨[(1, (Pt 1)), (3, (I x20)), (4, (Pt 4)), (5, (I x28))], [(1, vS 4 (b7 a0)), (4, vS 8 (j0 o22))], 232⟩).bind Kst = (I4 a0 x20 o22 K0 m x28).map E4 := by
 intro m
 induction m with
 | zero => intros; rfl
 | succ m ih =>
  intro x28
  unfold I4
  refine et l9 <| et b6 <| kra [(81, (Bo (decide (x28 < x20))))] rfl <| kc rfl rfl (fun hc => ?_) fun hc => ?_
  ·rw [hc]
   refine et d6 <| et (i9 rfl) <| kd yq rfl (fun (o30 : Bool) => ⟨[(1, (Pt 1)), (3, (I x20)), (4, (Pt 4)), (5, (I x28)), (92, (Bo o30))], [(1, vS 4 (b7 a0)), (4, vS 8 (j0 o22))], 232⟩) (et (j2 (p := 9) (dk := true) (t := [(1, (Pt 1)), (3, (I x20)), (4, (Pt 4)), (5, (I x28)), (81, (Bo true))]) (σ := [(1, vS 4 (b7 a0)), (4, vS 8 (j0 o22))]) (n := 232) rfl (by decide) (by decide) rfl) <| et (j9 (m := 3) (j := 3) (t' := [(1, (Pt 1)), (3, (I x20)), (4, (Pt 4)), (5, (I x28)), (81, (Bo true)), (84, (V.ptr 1 0 2)), (85, (l7 a0.fTypes)), (86, (I x28))]) rfl rfl rfl) <| et (c9 (x := (idx a0.fTypes x28)) (w := fun v29 => (Pr (j0 v29))) rfl rfl rfl rfl rfl (i2 (e := j0) rfl rfl rfl underlying22 rfl (by decide))) <| j6 fun v29 => j8 rfl) fun o30 => kcl rfl rfl (fun hc => ?_) fun hc => ?_
   ·rw [hc]
    refine kr ⟨[(2, (Bo false))], [], 232⟩ rfl <| et i1 <| et l6 <| et l8 <| et (hret _) ?_
    rfl
   ·rw [hc]
    exact et m9 <| et i6 <| kl ⟨[(1, (Pt 1)), (3, (I x20)), (4, (Pt 4)), (5, (I (Go.IntKind.wrap .i64 (x28 + 1))))], [(1, vS 4 (b7 a0)), (4, vS 8 (j0 o22))], 232⟩ rfl <| et i3 <| ih (Go.IntKind.wrap .i64 (x28 + 1))
  ·rw [hc]
   exact et p7 <| et j3 <| hK0 x28
theorem lX (k : Nat) (a0 : a8)  (K0 : Int → Option Bool) (Kst : X × St → Option (V × List V)) (hK0 : ∀ (y0 : Int), Kst (X.exit 0, ⟨[(1, (Pt 1)), (3, (I y0)), (45, (Bo false))], [(1, vS 4 (b7 a0))], 232⟩) = (K0 y0).map E4) (hret : ∀ s, Kst (X.ret, s) = F6 prog 232 [(b7 a0)] [] [.tmp 2] (X.ret, s)) :
  ∀ (m : Nat) (x20 : Int), (D1 (u1 prog (EV k) wy k Fo) m ⟨[(1, (Pt 1)), (3, (I x20))], [(1, vS 4 (b7 a0))], 232⟩).bind Kst = (F9 k a0 K0 m x20).map E4 := by
 intro m
 induction m with
 | zero => intros; rfl
 | succ m ih =>
  intro x20
  unfold F9
  refine et l9 <| et b6 <| krp CQ rfl ⟨[(1, (Pt 1)), (3, (I x20)), (45, (Bo (decide (x20 < (a0.fTypes.length : Int)))))], [(1, vS 4 (b7 a0))], 232⟩ ?_ ?_
  ·exact rd 3 [(41, (I x20)), (42, (V.ptr 1 0 2)), (43, (l7 a0.fTypes))] rfl rfl <| rl rfl (n7 (e := j0) rfl rfl rfl rfl rfl rfl underlying22) <| b5 rfl
  refine kc rfl rfl (fun hc => ?_) fun hc => ?_
  ·rw [hc]
   refine et d6 <| et (i9 rfl) <| kg DD rfl (fun (o22 : b9) => ⟨[(1, (Pt 1)), (3, (I x20)), (4, (Pt 4))], [(1, vS 4 (b7 a0)), (4, vS 8 (j0 o22))], 232⟩) (rd 3 [(48, (V.ptr 1 0 2)), (49, (l7 a0.fTypes)), (50, (I x20))] rfl rfl <| rs rfl (i2 (e := j0) rfl rfl rfl underlying22 rfl (by decide)) fun v21 => b5 rfl) fun o22 => et b6 <| kga Fc rfl (fun (o25 : Bool) => [(78, (Bo o25))]) ?_ fun o25 => ?_
   ·refine rd 2 [(53, (Pt 4)), (54, (Sr o22.fName))] rfl rfl <| rp rfl (d7 rfl rfl rfl rfl rfl (aC k o22.fName) (.inl rfl)) fun v23 => bd 5 [(55, (Bo v23)), (56, (Bo (!v23))), (57, (Bo (!v23)))] rfl rfl <| n5 (fun hc => ?_) fun hc => ?_
    ·rw [hc]
     exact d5 rfl
    ·rw [hc]
     refine rd 10 [(58, (V.ptr 4 0 2)), (59, (I o22.fMin)), (60, (Bo (decide (o22.fMin < 1)))), (61, (Bo (decide (o22.fMin < 1)))), (62, (Bo (decide (o22.fMin < 1))))] rfl rfl <| n5 (fun hc => ?_) fun hc => ?_
     ·rw [hc]
      exact d5 rfl
     ·rw [hc]
      refine rd 17 [(63, (V.ptr 4 0 2)), (64, (I o22.fMin)), (65, (V.ptr 4 0 3)), (66, (I o22.fSize)), (67, (Bo (decide (o22.fMin > o22.fSize)))), (68, (Bo (decide (o22.fMin > o22.fSize)))), (69, (Bo (decide (o22.fMin > o22.fSize))))] rfl rfl <| n5 (fun hc => ?_) fun hc => ?_
      ·rw [hc]
       exact d5 rfl
      ·rw [hc]
       refine rd 22 [(70, (V.ptr 4 0 3)), (71, (I o22.fSize)), (72, (Bo (decide (o22.fSize > 40)))), (73, (Bo (decide (o22.fSize > 40)))), (74, (Bo (decide (o22.fSize > 40))))] rfl rfl <| n5 (fun hc => ?_) fun hc => ?_
       ·rw [hc]
        exact d5 rfl
       ·rw [hc]
        exact rd 23 [(75, (j0 o22))] rfl rfl <| rp rfl (d7 rfl rfl rfl rfl rfl (nS k o22) (.inl rfl)) fun v24 => b5 rfl
   refine kc rfl rfl (fun hc => ?_) fun hc => ?_
   ·rw [hc]
    refine et b6 <| kr ⟨[(2, (Bo false))], [], 232⟩ rfl <| et n6 <| et l6 <| et l8 <| et (hret _) ?_
    rfl
   ·rw [hc]
    refine et d6 <| et b6 <| kr ⟨[(1, (Pt 1)), (3, (I x20)), (4, (Pt 4)), (5, (I 0))], [(1, vS 4 (b7 a0)), (4, vS 8 (j0 o22))], 232⟩ rfl <| et (i9 rfl) <| et p8 ?_
    refine lH k a0 x20 o22 _ _ ?h_ref11_Valid_L2_0 ?hr_ref11_Valid_L2 k 0
    ·intro y31
     refine et j5 <| et b6 <| kr ⟨[(1, (Pt 1)), (3, (I x20)), (4, (Pt 4)), (94, (Bo (x20 == 0)))], [(1, vS 4 (b7 a0)), (4, vS 8 (j0 o22))], 232⟩ rfl <| kc rfl rfl (fun hc => ?_) fun hc => ?_
     ·rw [hc]
      refine et b6 <| et b6 <| kg AB rfl (fun (o33 : Bool) => ⟨[(1, (Pt 1)), (3, (I x20)), (117, (Bo o33))], [(1, vS 4 (b7 a0))], 232⟩) ?_ fun o33 => ?_
      ·refine rd 4 [(95, (V.ptr 4 0 1)), (96, (I o22.fParent)), (97, (Bo (o22.fParent != (-1)))), (98, (Bo (o22.fParent != (-1))))] rfl rfl <| n5 (fun hc => ?_) fun hc => ?_
       ·rw [hc]
        exact d5 rfl
       ·rw [hc]
        refine rd 9 [(99, (V.ptr 4 0 5)), (100, (I o22.fKey)), (101, (Bo (decide (o22.fKey < 0)))), (102, (Bo (decide (o22.fKey < 0)))), (103, (Bo (decide (o22.fKey < 0))))] rfl rfl <| n5 (fun hc => ?_) fun hc => ?_
        ·rw [hc]
         exact d5 rfl
        ·rw [hc]
         refine rd 14 [(104, (V.ptr 4 0 6)), (105, (Bo o22.fUnique)), (106, (Bo (!o22.fUnique))), (107, (Bo (!o22.fUnique))), (108, (Bo (!o22.fUnique)))] rfl rfl <| n5 (fun hc => ?_) fun hc => ?_
         ·rw [hc]
          exact d5 rfl
         ·rw [hc]
          exact rd 18 [(109, (V.ptr 4 0 4)), (110, (k0 o22.fFields)), (111, (V.ptr 4 0 5)), (112, (I o22.fKey))] rfl rfl <| rp rfl (i2 (e := l5) rfl rfl rfl underlying46 rfl (by decide)) fun v32 => b5 rfl
      refine kc rfl rfl (fun hc => ?_) fun hc => ?_
      ·rw [hc]
       refine et b6 <| kr ⟨[(2, (Bo false))], [], 232⟩ rfl <| et n6 <| et l6 <| et l8 <| et (hret _) ?_
       rfl
      ·rw [hc]
       exact et d6 <| et p7 <| et j5 <| kl ⟨[(1, (Pt 1)), (3, (I (Go.IntKind.wrap .i64 (x20 + 1))))], [(1, vS 4 (b7 a0))], 232⟩ rfl <| et i3 <| ih (Go.IntKind.wrap .i64 (x20 + 1))
     ·rw [hc]
      refine et d6 <| kg zG rfl (fun (o37 : Bool) => ⟨[(1, (Pt 1)), (3, (I x20)), (149, (Bo o37))], [(1, vS 4 (b7 a0))], 232⟩) ?_ fun o37 => ?_
      ·refine rd 4 [(118, (V.ptr 4 0 1)), (119, (I o22.fParent)), (120, (Bo (decide (o22.fParent < 0)))), (121, (Bo (decide (o22.fParent < 0))))] rfl rfl <| n5 (fun hc => ?_) fun hc => ?_
       ·rw [hc]
        exact d5 rfl
       ·rw [hc]
        refine rd 10 [(122, (V.ptr 4 0 1)), (123, (I o22.fParent)), (124, (I x20)), (125, (Bo (decide (o22.fParent ≥ x20)))), (126, (Bo (decide (o22.fParent ≥ x20)))), (127, (Bo (decide (o22.fParent ≥ x20))))] rfl rfl <| n5 (fun hc => ?_) fun hc => ?_
        ·rw [hc]
         exact d5 rfl
        ·rw [hc]
         refine rd 16 [(128, (V.ptr 4 0 1)), (129, (I o22.fParent)), (130, (I x20)), (131, (I (Go.IntKind.wrap .i64 (x20 - 1)))), (132, (Bo (o22.fParent != (Go.IntKind.wrap .i64 (x20 - 1))))), (133, (Bo (o22.fParent != (Go.IntKind.wrap .i64 (x20 - 1)))))] rfl rfl <| n5 (fun hc => ?_) fun hc => ?_
         ·rw [hc]
          refine rd 21 [(134, (b7 a0)), (135, (V.ptr 4 0 1)), (136, (I o22.fParent)), (137, (I x20)), (138, (I (Go.IntKind.wrap .i64 (x20 - 1))))] rfl rfl <| rp rfl (d7 rfl rfl rfl rfl rfl (jh k a0 o22.fParent (Go.IntKind.wrap .i64 (x20 - 1))) (.inl rfl)) fun v34 => bd 26 [(139, (Bo v34)), (140, (Bo (!v34))), (141, (Bo (!v34))), (142, (Bo (!v34))), (143, (Bo (!v34)))] rfl rfl <| n5 (fun hc => ?_) fun hc => ?_
          ·rw [hc]
           exact d5 rfl
          ·rw [hc]
           exact rd 28 [(144, (b7 a0)), (145, (I x20))] rfl rfl <| rp rfl (d7 rfl rfl rfl rfl rfl (md k a0 x20) (.inl rfl)) fun v35 => bd 29 [(146, (sI v35))] rfl rfl <| rl rfl (n7 (e := I) rfl rfl rfl rfl rfl rfl underlying58) <| b5 rfl
         ·rw [hc]
          exact rd 28 [(134, (V.tup [])), (135, (V.tup [])), (136, (V.tup [])), (137, (V.tup [])), (138, (V.tup [])), (139, (V.tup [])), (140, (V.tup [])), (141, (Bo false)), (142, (Bo false)), (143, (Bo false)), (144, (b7 a0)), (145, (I x20))] rfl rfl <| rp rfl (d7 rfl rfl rfl rfl rfl (md k a0 x20) (.inl rfl)) fun v36 => bd 29 [(146, (sI v36))] rfl rfl <| rl rfl (n7 (e := I) rfl rfl rfl rfl rfl rfl underlying58) <| b5 rfl
      refine kcl rfl rfl (fun hc => ?_) fun hc => ?_
      ·rw [hc]
       refine kr ⟨[(2, (Bo false))], [], 232⟩ rfl <| et i1 <| et l6 <| et l8 <| et (hret _) ?_
       rfl
      ·rw [hc]
       exact et m9 <| et i6 <| kl ⟨[(1, (Pt 1)), (3, (I (Go.IntKind.wrap .i64 (x20 + 1))))], [(1, vS 4 (b7 a0))], 232⟩ rfl <| et i3 <| ih (Go.IntKind.wrap .i64 (x20 + 1))
    ·intro s; exact hret s
  ·rw [hc]
   exact et p7 <| et j3 <| hK0 x20
theorem lv (k : Nat) (a0 : a8) (x52 : Int) (o54 : j1)  (K0 : Int → Option Bool) (Kst : X × St → Option (V × List V)) (hK0 : ∀ (y0 : Int), Kst (X.exit 6, ⟨[(1, (Pt 1)), (6, (I x52)), (7, (Pt 7)), (8, (I y0)), (220, (Bo false))], [(1, vS 4 (b7 a0)), (7, vS 4 (s5 o54))], 232⟩) = (K0 y0).map E4) (hret : ∀ s, Kst (X.ret, s) = F6 prog 232 [(b7 a0)] [] [.tmp 2] (X.ret, s)) :
  ∀ (m : Nat) (x62 : Int), (D1 (u1 prog (EV k) wy k Cv) m ⟨[(1, (Pt 1)), (6, (I x52)), (7, (Pt 7)), (8, (I x62))], [(1, vS 4 (b7 a0)), (7, vS 4 (s5 o54))], 232⟩).bind Kst = (I3 a0 x52 o54 K0 m x62).map E4 := by
 intro m
 induction m with
 | zero => intros; rfl
 | succ m ih =>
  intro x62
  unfold I3
  refine et l9 <| et b6 <| kra [(220, (Bo (decide (x62 < x52))))] rfl <| kc rfl rfl (fun hc => ?_) fun hc => ?_
  ·rw [hc]
   refine et d6 <| et (i9 rfl) <| kd zW rfl (fun (o64 : Bool) => ⟨[(1, (Pt 1)), (6, (I x52)), (7, (Pt 7)), (8, (I x62)), (231, (Bo o64))], [(1, vS 4 (b7 a0)), (7, vS 4 (s5 o54))], 232⟩) (et (j2 (p := 9) (dk := true) (t := [(1, (Pt 1)), (6, (I x52)), (7, (Pt 7)), (8, (I x62)), (220, (Bo true))]) (σ := [(1, vS 4 (b7 a0)), (7, vS 4 (s5 o54))]) (n := 232) rfl (by decide) (by decide) rfl) <| et (j9 (m := 3) (j := 3) (t' := [(1, (Pt 1)), (6, (I x52)), (7, (Pt 7)), (8, (I x62)), (220, (Bo true)), (223, (V.ptr 1 0 3)), (224, (s8 a0.fIndexes)), (225, (I x62))]) rfl rfl rfl) <| et (c9 (x := (idx a0.fIndexes x62)) (w := fun v63 => (Pr (s5 v63))) rfl rfl rfl rfl rfl (i2 (e := s5) rfl rfl rfl underlying23 rfl (by decide))) <| j6 fun v63 => j8 rfl) fun o64 => kcl rfl rfl (fun hc => ?_) fun hc => ?_
   ·rw [hc]
    refine kr ⟨[(2, (Bo false))], [], 232⟩ rfl <| et i1 <| et l6 <| et l8 <| et (hret _) ?_
    rfl
   ·rw [hc]
    exact et m9 <| et i6 <| kl ⟨[(1, (Pt 1)), (6, (I x52)), (7, (Pt 7)), (8, (I (Go.IntKind.wrap .i64 (x62 + 1))))], [(1, vS 4 (b7 a0)), (7, vS 4 (s5 o54))], 232⟩ rfl <| et i3 <| ih (Go.IntKind.wrap .i64 (x62 + 1))
  ·rw [hc]
   exact et p7 <| et j3 <| hK0 x62
theorem mn (k : Nat) (a0 : a8)  (K0 : Int → Option Bool) (Kst : X × St → Option (V × List V)) (hK0 : ∀ (y0 : Int), Kst (X.exit 4, ⟨[(1, (Pt 1)), (6, (I y0)), (154, (Bo false))], [(1, vS 4 (b7 a0))], 232⟩) = (K0 y0).map E4) (hret : ∀ s, Kst (X.ret, s) = F6 prog 232 [(b7 a0)] [] [.tmp 2] (X.ret, s)) :
  ∀ (m : Nat) (x52 : Int), (D1 (u1 prog (EV k) wy k BT) m ⟨[(1, (Pt 1)), (6, (I x52))], [(1, vS 4 (b7 a0))], 232⟩).bind Kst = (I2 k a0 K0 m x52).map E4 := by
 intro m
 induction m with
 | zero => intros; rfl
 | succ m ih =>
  intro x52
  unfold I2
  refine et l9 <| et b6 <| krp yN rfl ⟨[(1, (Pt 1)), (6, (I x52)), (154, (Bo (decide (x52 < (a0.fIndexes.length : Int)))))], [(1, vS 4 (b7 a0))], 232⟩ ?_ ?_
  ·exact rd 3 [(150, (I x52)), (151, (V.ptr 1 0 3)), (152, (s8 a0.fIndexes))] rfl rfl <| rl rfl (n7 (e := s5) rfl rfl rfl rfl rfl rfl underlying23) <| b5 rfl
  refine kc rfl rfl (fun hc => ?_) fun hc => ?_
  ·rw [hc]
   refine et d6 <| et (i9 rfl) <| kg xE rfl (fun (o54 : j1) => ⟨[(1, (Pt 1)), (6, (I x52)), (7, (Pt 7))], [(1, vS 4 (b7 a0)), (7, vS 4 (s5 o54))], 232⟩) (rd 3 [(157, (V.ptr 1 0 3)), (158, (s8 a0.fIndexes)), (159, (I x52))] rfl rfl <| rs rfl (i2 (e := s5) rfl rfl rfl underlying23 rfl (by decide)) fun v53 => b5 rfl) fun o54 => et b6 <| kd AA rfl (fun (o59 : Bool) => ⟨[(1, (Pt 1)), (6, (I x52)), (7, (Pt 7)), (217, (Bo o59))], [(1, vS 4 (b7 a0)), (7, vS 4 (s5 o54))], 232⟩) ?_ fun o59 => ?_
   ·refine et (j2 (p := 56) (dk := true) (t := [(1, (Pt 1)), (6, (I x52)), (7, (Pt 7))]) (σ := [(1, vS 4 (b7 a0)), (7, vS 4 (s5 o54))]) (n := 232) rfl (by decide) (by decide) rfl) <| et (j9 (m := 2) (j := 2) (t' := [(1, (Pt 1)), (6, (I x52)), (7, (Pt 7)), (162, (Pt 7)), (163, (Sr o54.fName))]) rfl rfl rfl) <| et (c9 (x := (K6 k o54.fName)) (w := fun v55 => (Bo v55)) rfl rfl rfl rfl rfl (d7 rfl rfl rfl rfl rfl (aC k o54.fName) (.inl rfl))) <| j6 fun v55 => et (i7 (m := 2) (j := 5) (t' := [(1, (Pt 1)), (6, (I x52)), (7, (Pt 7)), (162, (Pt 7)), (163, (Sr o54.fName)), (164, (Bo v55)), (165, (Bo (!v55))), (166, (Bo (!v55)))]) rfl rfl rfl) <| n5 (fun hc => ?_) fun hc => ?_
    ·rw [hc]
     exact j8 rfl
    ·rw [hc]
     refine et (j9 (m := 5) (j := 10) (t' := [(1, (Pt 1)), (6, (I x52)), (7, (Pt 7)), (162, (Pt 7)), (163, (Sr o54.fName)), (164, (Bo v55)), (165, (Bo false)), (166, (Bo false)), (167, (V.ptr 7 0 1)), (168, (I o54.fType)), (169, (Bo (decide (o54.fType < 0)))), (170, (Bo (decide (o54.fType < 0)))), (171, (Bo (decide (o54.fType < 0))))]) rfl rfl rfl) <| n5 (fun hc => ?_) fun hc => ?_
     ·rw [hc]
      exact j8 rfl
     ·rw [hc]
      refine et (j9 (m := 4) (j := 14) (t' := [(1, (Pt 1)), (6, (I x52)), (7, (Pt 7)), (162, (Pt 7)), (163, (Sr o54.fName)), (164, (Bo v55)), (165, (Bo false)), (166, (Bo false)), (167, (V.ptr 7 0 1)), (168, (I o54.fType)), (169, (Bo false)), (170, (Bo false)), (171, (Bo false)), (172, (V.ptr 7 0 1)), (173, (I o54.fType)), (174, (V.ptr 1 0 2)), (175, (l7 a0.fTypes))]) rfl rfl rfl) <| et (c9 (x := some ()) (w := fun _ => (I (a0.fTypes.length : Int))) rfl rfl rfl rfl rfl (n7 (e := j0) rfl rfl rfl rfl rfl rfl underlying22)) <| et Y8 <| et (i7 (m := 3) (j := 18) (t' := [(1, (Pt 1)), (6, (I x52)), (7, (Pt 7)), (162, (Pt 7)), (163, (Sr o54.fName)), (164, (Bo v55)), (165, (Bo false)), (166, (Bo false)), (167, (V.ptr 7 0 1)), (168, (I o54.fType)), (169, (Bo false)), (170, (Bo false)), (171, (Bo false)), (172, (V.ptr 7 0 1)), (173, (I o54.fType)), (174, (V.ptr 1 0 2)), (175, (l7 a0.fTypes)), (176, (I (a0.fTypes.length : Int))), (177, (Bo (decide (o54.fType ≥ (a0.fTypes.length : Int))))), (178, (Bo (decide (o54.fType ≥ (a0.fTypes.length : Int))))), (179, (Bo (decide (o54.fType ≥ (a0.fTypes.length : Int)))))]) rfl rfl rfl) <| n5 (fun hc => ?_) fun hc => ?_
      ·rw [hc]
       exact j8 rfl
      ·rw [hc]
       refine et (j9 (m := 5) (j := 23) (t' := [(1, (Pt 1)), (6, (I x52)), (7, (Pt 7)), (162, (Pt 7)), (163, (Sr o54.fName)), (164, (Bo v55)), (165, (Bo false)), (166, (Bo false)), (167, (V.ptr 7 0 1)), (168, (I o54.fType)), (169, (Bo false)), (170, (Bo false)), (171, (Bo false)), (172, (V.ptr 7 0 1)), (173, (I o54.fType)), (174, (V.ptr 1 0 2)), (175, (l7 a0.fTypes)), (176, (I (a0.fTypes.length : Int))), (177, (Bo false)), (178, (Bo false)), (179, (Bo false)), (180, (V.ptr 7 0 2)), (181, (I o54.fField)), (182, (Bo (decide (o54.fField < 0)))), (183, (Bo (decide (o54.fField < 0)))), (184, (Bo (decide (o54.fField < 0))))]) rfl rfl rfl) <| n5 (fun hc => ?_) fun hc => ?_
       ·rw [hc]
        exact j8 rfl
       ·rw [hc]
        refine et (j9 (m := 6) (j := 29) (t' := [(1, (Pt 1)), (6, (I x52)), (7, (Pt 7)), (162, (Pt 7)), (163, (Sr o54.fName)), (164, (Bo v55)), (165, (Bo false)), (166, (Bo false)), (167, (V.ptr 7 0 1)), (168, (I o54.fType)), (169, (Bo false)), (170, (Bo false)), (171, (Bo false)), (172, (V.ptr 7 0 1)), (173, (I o54.fType)), (174, (V.ptr 1 0 2)), (175, (l7 a0.fTypes)), (176, (I (a0.fTypes.length : Int))), (177, (Bo false)), (178, (Bo false)), (179, (Bo false)), (180, (V.ptr 7 0 2)), (181, (I o54.fField)), (182, (Bo false)), (183, (Bo false)), (184, (Bo false)), (185, (V.ptr 7 0 2)), (186, (I o54.fField)), (187, (V.ptr 1 0 2)), (188, (l7 a0.fTypes)), (189, (V.ptr 7 0 1)), (190, (I o54.fType))]) rfl rfl rfl) <| et (c9 (x := (idx a0.fTypes o54.fType)) (w := fun v56 => (Pr (j0 v56))) rfl rfl rfl rfl rfl (i2 (e := j0) rfl rfl rfl underlying22 rfl (by decide))) <| j6 fun v56 => et (i7 (m := 2) (j := 32) (t' := [(1, (Pt 1)), (6, (I x52)), (7, (Pt 7)), (162, (Pt 7)), (163, (Sr o54.fName)), (164, (Bo v55)), (165, (Bo false)), (166, (Bo false)), (167, (V.ptr 7 0 1)), (168, (I o54.fType)), (169, (Bo false)), (170, (Bo false)), (171, (Bo false)), (172, (V.ptr 7 0 1)), (173, (I o54.fType)), (174, (V.ptr 1 0 2)), (175, (l7 a0.fTypes)), (176, (I (a0.fTypes.length : Int))), (177, (Bo false)), (178, (Bo false)), (179, (Bo false)), (180, (V.ptr 7 0 2)), (181, (I o54.fField)), (182, (Bo false)), (183, (Bo false)), (184, (Bo false)), (185, (V.ptr 7 0 2)), (186, (I o54.fField)), (187, (V.ptr 1 0 2)), (188, (l7 a0.fTypes)), (189, (V.ptr 7 0 1)), (190, (I o54.fType)), (191, (Pr (j0 v56))), (192, (Pr (k0 v56.fFields))), (193, (k0 v56.fFields))]) rfl rfl rfl) <| et (c9 (x := some ()) (w := fun _ => (I (v56.fFields.length : Int))) rfl rfl rfl rfl rfl (n7 (e := l5) rfl rfl rfl rfl rfl rfl underlying46)) <| et Y8 <| et (i7 (m := 3) (j := 36) (t' := [(1, (Pt 1)), (6, (I x52)), (7, (Pt 7)), (162, (Pt 7)), (163, (Sr o54.fName)), (164, (Bo v55)), (165, (Bo false)), (166, (Bo false)), (167, (V.ptr 7 0 1)), (168, (I o54.fType)), (169, (Bo false)), (170, (Bo false)), (171, (Bo false)), (172, (V.ptr 7 0 1)), (173, (I o54.fType)), (174, (V.ptr 1 0 2)), (175, (l7 a0.fTypes)), (176, (I (a0.fTypes.length : Int))), (177, (Bo false)), (178, (Bo false)), (179, (Bo false)), (180, (V.ptr 7 0 2)), (181, (I o54.fField)), (182, (Bo false)), (183, (Bo false)), (184, (Bo false)), (185, (V.ptr 7 0 2)), (186, (I o54.fField)), (187, (V.ptr 1 0 2)), (188, (l7 a0.fTypes)), (189, (V.ptr 7 0 1)), (190, (I o54.fType)), (191, (Pr (j0 v56))), (192, (Pr (k0 v56.fFields))), (193, (k0 v56.fFields)), (194, (I (v56.fFields.length : Int))), (195, (Bo (decide (o54.fField ≥ (v56.fFields.length : Int))))), (196, (Bo (decide (o54.fField ≥ (v56.fFields.length : Int))))), (197, (Bo (decide (o54.fField ≥ (v56.fFields.length : Int)))))]) rfl rfl rfl) <| n5 (fun hc => ?_) fun hc => ?_
        ·rw [hc]
         exact j8 rfl
        ·rw [hc]
         refine et (j9 (m := 4) (j := 40) (t' := [(1, (Pt 1)), (6, (I x52)), (7, (Pt 7)), (162, (Pt 7)), (163, (Sr o54.fName)), (164, (Bo v55)), (165, (Bo false)), (166, (Bo false)), (167, (V.ptr 7 0 1)), (168, (I o54.fType)), (169, (Bo false)), (170, (Bo false)), (171, (Bo false)), (172, (V.ptr 7 0 1)), (173, (I o54.fType)), (174, (V.ptr 1 0 2)), (175, (l7 a0.fTypes)), (176, (I (a0.fTypes.length : Int))), (177, (Bo false)), (178, (Bo false)), (179, (Bo false)), (180, (V.ptr 7 0 2)), (181, (I o54.fField)), (182, (Bo false)), (183, (Bo false)), (184, (Bo false)), (185, (V.ptr 7 0 2)), (186, (I o54.fField)), (187, (V.ptr 1 0 2)), (188, (l7 a0.fTypes)), (189, (V.ptr 7 0 1)), (190, (I o54.fType)), (191, (Pr (j0 v56))), (192, (Pr (k0 v56.fFields))), (193, (k0 v56.fFields)), (194, (I (v56.fFields.length : Int))), (195, (Bo false)), (196, (Bo false)), (197, (Bo false)), (198, (V.ptr 1 0 2)), (199, (l7 a0.fTypes)), (200, (V.ptr 7 0 1)), (201, (I o54.fType))]) rfl rfl rfl) <| et (c9 (x := (idx a0.fTypes o54.fType)) (w := fun v57 => (Pr (j0 v57))) rfl rfl rfl rfl rfl (i2 (e := j0) rfl rfl rfl underlying22 rfl (by decide))) <| j6 fun v57 => et (i7 (m := 4) (j := 45) (t' := [(1, (Pt 1)), (6, (I x52)), (7, (Pt 7)), (162, (Pt 7)), (163, (Sr o54.fName)), (164, (Bo v55)), (165, (Bo false)), (166, (Bo false)), (167, (V.ptr 7 0 1)), (168, (I o54.fType)), (169, (Bo false)), (170, (Bo false)), (171, (Bo false)), (172, (V.ptr 7 0 1)), (173, (I o54.fType)), (174, (V.ptr 1 0 2)), (175, (l7 a0.fTypes)), (176, (I (a0.fTypes.length : Int))), (177, (Bo false)), (178, (Bo false)), (179, (Bo false)), (180, (V.ptr 7 0 2)), (181, (I o54.fField)), (182, (Bo false)), (183, (Bo false)), (184, (Bo false)), (185, (V.ptr 7 0 2)), (186, (I o54.fField)), (187, (V.ptr 1 0 2)), (188, (l7 a0.fTypes)), (189, (V.ptr 7 0 1)), (190, (I o54.fType)), (191, (Pr (j0 v56))), (192, (Pr (k0 v56.fFields))), (193, (k0 v56.fFields)), (194, (I (v56.fFields.length : Int))), (195, (Bo false)), (196, (Bo false)), (197, (Bo false)), (198, (V.ptr 1 0 2)), (199, (l7 a0.fTypes)), (200, (V.ptr 7 0 1)), (201, (I o54.fType)), (202, (Pr (j0 v57))), (203, (Pr (k0 v57.fFields))), (204, (k0 v57.fFields)), (205, (V.ptr 7 0 2)), (206, (I o54.fField))]) rfl rfl rfl) <| et (c9 (x := (idx v57.fFields o54.fField)) (w := fun v58 => (Pr (l5 v58))) rfl rfl rfl rfl rfl (i2 (e := l5) rfl rfl rfl underlying46 rfl (by decide))) <| j6 fun v58 => et (i7 (m := 5) (j := 51) (t' := [(1, (Pt 1)), (6, (I x52)), (7, (Pt 7)), (162, (Pt 7)), (163, (Sr o54.fName)), (164, (Bo v55)), (165, (Bo false)), (166, (Bo false)), (167, (V.ptr 7 0 1)), (168, (I o54.fType)), (169, (Bo false)), (170, (Bo false)), (171, (Bo false)), (172, (V.ptr 7 0 1)), (173, (I o54.fType)), (174, (V.ptr 1 0 2)), (175, (l7 a0.fTypes)), (176, (I (a0.fTypes.length : Int))), (177, (Bo false)), (178, (Bo false)), (179, (Bo false)), (180, (V.ptr 7 0 2)), (181, (I o54.fField)), (182, (Bo false)), (183, (Bo false)), (184, (Bo false)), (185, (V.ptr 7 0 2)), (186, (I o54.fField)), (187, (V.ptr 1 0 2)), (188, (l7 a0.fTypes)), (189, (V.ptr 7 0 1)), (190, (I o54.fType)), (191, (Pr (j0 v56))), (192, (Pr (k0 v56.fFields))), (193, (k0 v56.fFields)), (194, (I (v56.fFields.length : Int))), (195, (Bo false)), (196, (Bo false)), (197, (Bo false)), (198, (V.ptr 1 0 2)), (199, (l7 a0.fTypes)), (200, (V.ptr 7 0 1)), (201, (I o54.fType)), (202, (Pr (j0 v57))), (203, (Pr (k0 v57.fFields))), (204, (k0 v57.fFields)), (205, (V.ptr 7 0 2)), (206, (I o54.fField)), (207, (Pr (l5 v58))), (208, (Pr (I v58.fBytes))), (209, (I v58.fBytes)), (210, (Bo (decide (v58.fBytes > 20)))), (211, (Bo (decide (v58.fBytes > 20)))), (212, (Bo (decide (v58.fBytes > 20))))]) rfl rfl rfl) <| n5 (fun hc => ?_) fun hc => ?_
         ·rw [hc]
          exact j8 rfl
         ·rw [hc]
          exact j8 rfl
   refine kc rfl rfl (fun hc => ?_) fun hc => ?_
   ·rw [hc]
    refine et b6 <| kr ⟨[(2, (Bo false))], [], 232⟩ rfl <| et n6 <| et l6 <| et l8 <| et (hret _) ?_
    rfl
   ·rw [hc]
    refine et d6 <| kr ⟨[(1, (Pt 1)), (6, (I x52)), (7, (Pt 7)), (8, (I 0))], [(1, vS 4 (b7 a0)), (7, vS 4 (s5 o54))], 232⟩ rfl <| et (G7 rfl) <| et p8 ?_
    refine lv k a0 x52 o54 _ _ ?h_ref11_Valid_L4_0 ?hr_ref11_Valid_L4 k 0
    ·intro y65
     exact et j5 <| et m9 <| et i6 <| kl ⟨[(1, (Pt 1)), (6, (I (Go.IntKind.wrap .i64 (x52 + 1))))], [(1, vS 4 (b7 a0))], 232⟩ rfl <| et i3 <| ih (Go.IntKind.wrap .i64 (x52 + 1))
    ·intro s; exact hret s
  ·rw [hc]
   exact et p7 <| et j3 <| hK0 x52
theorem bE (k : Nat) (a0 : a8) : EV k 30 [(b7 a0)] = (T3 k a0).map E4 := by
 cases k with
 | zero => rfl
 | succ k =>
  unfold T3
  refine et (i5 (c := f30c) (N := 232) (regs := wy) rfl func30 rfl (by decide) rfl rfl rfl) <| kr ⟨[(1, (Pt 1))], [(1, vS 4 (b7 a0))], 232⟩ rfl <| et b6 <| kga CS rfl (fun (o2 : Bool) => [(40, (Bo o2))]) ?_ fun o2 => ?_
  ·refine rd 2 [(9, (Pt 1)), (10, (Sr a0.fName))] rfl rfl <| rp rfl (d7 rfl rfl rfl rfl rfl (aC k a0.fName) (.inl rfl)) fun v1 => bd 5 [(11, (Bo v1)), (12, (Bo (!v1))), (13, (Bo (!v1)))] rfl rfl <| n5 (fun hc => ?_) fun hc => ?_
   ·rw [hc]
    exact d5 rfl
   ·rw [hc]
    refine rd 10 [(14, (V.ptr 1 0 1)), (15, (I a0.fKind)), (16, (Bo (decide (a0.fKind < 1)))), (17, (Bo (decide (a0.fKind < 1)))), (18, (Bo (decide (a0.fKind < 1))))] rfl rfl <| n5 (fun hc => ?_) fun hc => ?_
    ·rw [hc]
     exact d5 rfl
    ·rw [hc]
     refine rd 15 [(19, (V.ptr 1 0 1)), (20, (I a0.fKind)), (21, (Bo (decide (a0.fKind > 4)))), (22, (Bo (decide (a0.fKind > 4)))), (23, (Bo (decide (a0.fKind > 4))))] rfl rfl <| n5 (fun hc => ?_) fun hc => ?_
     ·rw [hc]
      exact d5 rfl
     ·rw [hc]
      refine rd 17 [(24, (V.ptr 1 0 2)), (25, (l7 a0.fTypes))] rfl rfl <| rl rfl (n7 (e := j0) rfl rfl rfl rfl rfl rfl underlying22) <| bd 21 [(26, (I (a0.fTypes.length : Int))), (27, (Bo (decide ((a0.fTypes.length : Int) < 1)))), (28, (Bo (decide ((a0.fTypes.length : Int) < 1)))), (29, (Bo (decide ((a0.fTypes.length : Int) < 1))))] rfl rfl <| n5 (fun hc => ?_) fun hc => ?_
      ·rw [hc]
       exact d5 rfl
      ·rw [hc]
       refine rd 23 [(30, (V.ptr 1 0 2)), (31, (l7 a0.fTypes))] rfl rfl <| rl rfl (n7 (e := j0) rfl rfl rfl rfl rfl rfl underlying22) <| bd 27 [(32, (I (a0.fTypes.length : Int))), (33, (Bo (decide ((a0.fTypes.length : Int) > 8)))), (34, (Bo (decide ((a0.fTypes.length : Int) > 8)))), (35, (Bo (decide ((a0.fTypes.length : Int) > 8))))] rfl rfl <| n5 (fun hc => ?_) fun hc => ?_
       ·rw [hc]
        exact d5 rfl
       ·rw [hc]
        exact rd 29 [(36, (V.ptr 1 0 3)), (37, (s8 a0.fIndexes))] rfl rfl <| rl rfl (n7 (e := s5) rfl rfl rfl rfl rfl rfl underlying23) <| b5 rfl
  refine kc rfl rfl (fun hc => ?_) fun hc => ?_
  ·rw [hc]
   refine et b6 <| kr ⟨[(2, (Bo false))], [], 232⟩ rfl <| et n6 ?_
   rfl
  ·rw [hc]
   refine et d6 <| et b6 <| kr ⟨[(1, (Pt 1)), (3, (I 0))], [(1, vS 4 (b7 a0))], 232⟩ rfl <| et (i9 rfl) <| et p8 ?_
   refine lX k a0 _ _ ?h_ref11_Valid_L1_0 ?hr_ref11_Valid_L1 k 0
   ·intro y38
    refine et j5 <| et b6 <| kr ⟨[(1, (Pt 1)), (6, (I 0))], [(1, vS 4 (b7 a0))], 232⟩ rfl <| et (i9 rfl) <| et p8 ?_
    refine mn k a0 _ _ ?h_ref11_Valid_L3_0 ?hr_ref11_Valid_L3 k 0
    ·intro y66
     refine et j5 <| kr ⟨[(2, (Bo true))], [], 232⟩ rfl <| et i1 ?_
     rfl
    ·intro s; exact rfl
   ·intro s; exact rfl
def P5 : Bool → V × List V := fun r => ((Bo r), [])
theorem jD (k : Nat) (a0 : Str) (x10 : Int)  (K0 : Int → Option Bool) (Kst : X × St → Option (V × List V)) (hK0 : ∀ (y0 : Int), Kst (X.exit 2, ⟨[(0, (Sr a0)), (3, (I y0)), (4, (I x10)), (20, (Bo false))], [], 27⟩) = (K0 y0).map P5) (hret : ∀ s, Kst (X.ret, s) = F6 prog 27 [(Sr a0)] [] [.tmp 2] (X.ret, s)) :
  ∀ (m : Nat) (x14 : Int), (D1 (u1 prog (EV k) Bl k Dx) m ⟨[(0, (Sr a0)), (3, (I x14)), (4, (I x10))], [], 27⟩).bind Kst = (L8 a0 x10 K0 m x14).map P5 := by
 intro m
 induction m with
 | zero => intros; rfl
 | succ m ih =>
  intro x14
  unfold L8
  refine et l9 <| et b6 <| kd CU rfl (fun (o17 : Bool) => ⟨[(0, (Sr a0)), (3, (I x14)), (4, (I x10)), (20, (Bo o17))], [], 27⟩) ?_ fun o17 => ?_
  ·refine et (j2 (p := 10) (dk := true) (t := [(0, (Sr a0)), (3, (I x14)), (4, (I x10))]) (σ := []) (n := 27) rfl (by decide) (by decide) rfl) <| et (j9 (m := 3) (j := 3) (t' := [(0, (Sr a0)), (3, (I x14)), (4, (I x10)), (11, (I x14)), (12, (Bo (decide (x14 < 3)))), (13, (Bo (decide (x14 < 3))))]) rfl rfl rfl) <| n5 (fun hc => ?_) fun hc => ?_
   ·rw [hc]
    exact et (j9 (m := 1) (j := 4) (t' := [(0, (Sr a0)), (3, (I x14)), (4, (I x10)), (11, (I x14)), (12, (Bo true)), (13, (Bo true)), (14, (I x14))]) rfl rfl rfl) <| et (c9 (x := (J7 ([68, 76, 80] : Str) x14)) (w := fun v15 => (V.int .u8 v15)) rfl rfl rfl rfl rfl (w7 rfl rfl rfl underlying9)) <| j6 fun v15 => et (i7 (m := 2) (j := 7) (t' := [(0, (Sr a0)), (3, (I x14)), (4, (I x10)), (11, (I x14)), (12, (Bo true)), (13, (Bo true)), (14, (I x14)), (15, (V.int .u8 v15)), (16, (Sr a0)), (17, (I x10))]) rfl rfl rfl) <| et (c9 (x := (J7 a0 x10)) (w := fun v16 => (V.int .u8 v16)) rfl rfl rfl rfl rfl (w7 rfl rfl rfl underlying9)) <| j6 fun v16 => j8 rfl
   ·rw [hc]
    exact j8 rfl
  refine kc rfl rfl (fun hc => ?_) fun hc => ?_
  ·try rw [hc]
   exact et d6 <| et (G7 rfl) <| kl ⟨[(0, (Sr a0)), (3, (I (Go.IntKind.wrap .i64 (x14 + 1)))), (4, (I x10))], [], 27⟩ rfl <| et i6 <| et m9 <| et i3 <| ih (Go.IntKind.wrap .i64 (x14 + 1))
  ·try rw [hc]
   exact et p7 <| et j3 <| hK0 x14
theorem jI (k : Nat) (a0 : Str)  (K0 : Int → Int → Option Bool) (Kst : X × St → Option (V × List V)) (hK0 : ∀ (y0 : Int) (y1 : Int), Kst (X.exit 0, ⟨[(0, (Sr a0)), (3, (I y0)), (4, (I y1))], [], 27⟩) = (K0 y0 y1).map P5) (hret : ∀ s, Kst (X.ret, s) = F6 prog 27 [(Sr a0)] [] [.tmp 2] (X.ret, s)) :
  ∀ (m : Nat) (x9 : Int) (x10 : Int), (D1 (u1 prog (EV k) Bl k BR) m ⟨[(0, (Sr a0)), (3, (I x9)), (4, (I x10))], [], 27⟩).bind Kst = (H3 k a0 K0 m x9 x10).map P5 := by
 intro m
 induction m with
 | zero => intros; rfl
 | succ m ih =>
  intro x9 x10
  unfold H3
  refine et l9 <| et b6 <| kra [(8, (Bo (decide (x10 < (a0.length : Int)))))] rfl <| et (rW (t := (decide (x10 < (a0.length : Int)))) (st' := ⟨[(0, (Sr a0)), (3, (I x9)), (4, (I x10))], [], 27⟩) rfl rfl) <| xT (fun hc => ?_) fun hc => ?_
  ·try rw [hc]
   refine et d6 <| et (i9 rfl) <| et (i9 rfl) <| et p8 ?_
   refine jD k a0 x10 _ _ ?h_ref14_isCodes_L2_0 ?hr_ref14_isCodes_L2 k x9
   ·intro y18
    refine et j5 <| et b6 <| kr ⟨[(0, (Sr a0)), (3, (I y18)), (4, (I x10)), (24, (Bo (y18 == 3)))], [], 27⟩ rfl <| kc rfl rfl (fun hc => ?_) fun hc => ?_
    ·try rw [hc]
     refine et b6 <| kr ⟨[(2, (Bo false))], [], 27⟩ rfl <| et n6 <| et l6 <| et l8 <| et (hret _) ?_
     rfl
    ·try rw [hc]
     exact et d6 <| kl ⟨[(0, (Sr a0)), (3, (I (Go.IntKind.wrap .i64 (y18 + 1)))), (4, (I x10))], [], 27⟩ rfl <| et i6 <| kl ⟨[(0, (Sr a0)), (3, (I (Go.IntKind.wrap .i64 (y18 + 1)))), (4, (I (Go.IntKind.wrap .i64 (x10 + 1))))], [], 27⟩ rfl <| et i3 <| ih (Go.IntKind.wrap .i64 (y18 + 1)) (Go.IntKind.wrap .i64 (x10 + 1))
   ·intro s; exact hret s
  ·try rw [hc]
   exact et p7 <| et j3 <| hK0 x9 x10
theorem S0 (k : Nat) (a0 : Str) : EV k 60 [(Sr a0)] = (aj k a0).map P5 := by
 cases k with
 | zero => rfl
 | succ k =>
  unfold aj
  refine et (i5 (c := f60c) (N := 27) (regs := Bl) rfl func60 rfl (by decide) rfl rfl rfl) <| kra [] rfl <| kra [(3, (I 0))] rfl <| et b6 <| kra [(4, (I 0))] rfl <| et (i9 rfl) <| et p8 ?_
  refine jI k a0 _ _ ?h_ref14_isCodes_L1_0 ?hr_ref14_isCodes_L1 k 0 0
  ·intro y19 y20
   refine et j5 <| kr ⟨[(2, (Bo true))], [], 27⟩ rfl <| et i1 ?_
   rfl
  ·intro s; exact rfl
def mF : Bool → V × List V := fun r => ((Bo r), [])
theorem nR (k : Nat) (a0 : a8) (a1 : Int) : EV k 111 [(b7 a0), (I a1)] = (bp k a0 a1).map mF := by
 cases k with
 | zero => rfl
 | succ k =>
  unfold bp
  refine et (i5 (c := abw) (N := 14) (regs := Ex) rfl func111 rfl (by decide) rfl rfl rfl) <| kr ⟨[(1, (I a1)), (2, (Pt 2))], [(2, vS 4 (b7 a0))], 14⟩ rfl <| kg xo rfl (fun (o1 : Bool) => ⟨[(4, (Bo o1))], [], 14⟩) ?_ fun o1 => ?_
  ·refine rd 3 [(5, (I a1)), (6, (Bo (decide (a1 ≥ 0)))), (7, (Bo (decide (a1 ≥ 0))))] rfl rfl <| n5 (fun hc => ?_) fun hc => ?_
   ·rw [hc]
    exact rd 6 [(8, (I a1)), (9, (V.ptr 2 0 2)), (10, (l7 a0.fTypes))] rfl rfl <| rl rfl (n7 (e := j0) rfl rfl rfl rfl rfl rfl underlying22) <| b5 rfl
   ·rw [hc]
    exact d5 rfl
  refine et i1 ?_
  rfl
def dH : Int → V × List V := fun r => ((I r), [])
theorem lZ (k : Nat) (a0 : a8) (a1 : (List Int))  (K0 : Int → Option Int) (Kst : X × St → Option (V × List V)) (hK0 : ∀ (y0 : Int), Kst (X.exit 0, ⟨[(1, (sI a1)), (2, (Pt 2)), (5, (I y0)), (12, (Bo false))], [(2, vS 4 (b7 a0))], 22⟩) = (K0 y0).map dH) (hret : ∀ s, Kst (X.ret, s) = F6 prog 22 [(b7 a0), (sI a1)] [] [.tmp 4] (X.ret, s)) :
  ∀ (m : Nat) (x6 : Int), (D1 (u1 prog (EV k) JZ k Cs) m ⟨[(1, (sI a1)), (2, (Pt 2)), (5, (I x6))], [(2, vS 4 (b7 a0))], 22⟩).bind Kst = (N6 k a0 a1 K0 m x6).map dH := by
 intro m
 induction m with
 | zero => intros; rfl
 | succ m ih =>
  intro x6
  unfold N6
  refine et l9 <| et b6 <| krp Eh rfl ⟨[(1, (sI a1)), (2, (Pt 2)), (5, (I x6)), (12, (Bo (decide (x6 < (a1.length : Int)))))], [(2, vS 4 (b7 a0))], 22⟩ ?_ ?_
  ·exact rd 2 [(9, (I x6)), (10, (sI a1))] rfl rfl <| rl rfl (n7 (e := I) rfl rfl rfl rfl rfl rfl underlying58) <| b5 rfl
  refine kc rfl rfl (fun hc => ?_) fun hc => ?_
  ·rw [hc]
   refine et d6 <| et (i9 rfl) <| kd CD rfl (fun (o9 : Bool) => ⟨[(1, (sI a1)), (2, (Pt 2)), (5, (I x6)), (21, (Bo o9))], [(2, vS 4 (b7 a0))], 22⟩) (et (j2 (p := 7) (dk := true) (t := [(1, (sI a1)), (2, (Pt 2)), (5, (I x6)), (12, (Bo true))]) (σ := [(2, vS 4 (b7 a0))]) (n := 22) rfl (by decide) (by decide) rfl) <| et (j9 (m := 3) (j := 3) (t' := [(1, (sI a1)), (2, (Pt 2)), (5, (I x6)), (12, (Bo true)), (15, (b7 a0)), (16, (sI a1)), (17, (I x6))]) rfl rfl rfl) <| et (c9 (x := (idx a1 x6)) (w := fun v7 => (Pr (I v7))) rfl rfl rfl rfl rfl (i2 (e := I) rfl rfl rfl underlying58 rfl (by decide))) <| j6 fun v7 => et (i7 (m := 1) (j := 5) (t' := [(1, (sI a1)), (2, (Pt 2)), (5, (I x6)), (12, (Bo true)), (15, (b7 a0)), (16, (sI a1)), (17, (I x6)), (18, (Pr (I v7))), (19, (I v7))]) rfl rfl rfl) <| et (c9 (x := (bp k a0 v7)) (w := fun v8 => (Bo v8)) rfl rfl rfl rfl rfl (d7 rfl rfl rfl rfl rfl (nR k a0 v7) (.inl rfl))) <| j6 fun v8 => j8 rfl) fun o9 => kcl rfl rfl (fun hc => ?_) fun hc => ?_
   ·rw [hc]
    refine kr ⟨[(4, (I 2))], [], 22⟩ rfl <| et i1 <| et l6 <| et l8 <| et (hret _) ?_
    rfl
   ·rw [hc]
    exact et m9 <| et i6 <| kl ⟨[(1, (sI a1)), (2, (Pt 2)), (5, (I (Go.IntKind.wrap .i64 (x6 + 1))))], [(2, vS 4 (b7 a0))], 22⟩ rfl <| et i3 <| ih (Go.IntKind.wrap .i64 (x6 + 1))
  ·rw [hc]
   exact et p7 <| et j3 <| hK0 x6
theorem fh (k : Nat) (a0 : a8) (a1 : (List Int)) : EV k 76 [(b7 a0), (sI a1)] = (X3 k a0 a1).map dH := by
 cases k with
 | zero => rfl
 | succ k =>
  unfold X3
  refine et (i5 (c := f76c) (N := 22) (regs := JZ) rfl func76 rfl (by decide) rfl rfl rfl) <| kr ⟨[(1, (sI a1)), (2, (Pt 2))], [(2, vS 4 (b7 a0))], 22⟩ rfl <| et b6 <| kga CO rfl (fun (o2 : Bool) => [(8, (Bo o2))]) (rd 1 [(6, (b7 a0))] rfl rfl <| rp rfl (d7 rfl rfl rfl rfl rfl (bE k a0) (.inl rfl)) fun v1 => b5 rfl) fun o2 => kc rfl rfl (fun hc => ?_) fun hc => ?_
  ·rw [hc]
   refine et b6 <| kr ⟨[(4, (I 100))], [], 22⟩ rfl <| et n6 ?_
   rfl
  ·rw [hc]
   refine et d6 <| et b6 <| kr ⟨[(1, (sI a1)), (2, (Pt 2)), (5, (I 0))], [(2, vS 4 (b7 a0))], 22⟩ rfl <| et (i9 rfl) <| et p8 ?_
   refine lZ k a0 a1 _ _ ?h_ref11_asked_L1_0 ?hr_ref11_asked_L1 k 0
   ·intro y10
    refine et j5 <| kr ⟨[(4, (I 0))], [], 22⟩ rfl <| et i1 ?_
    rfl
   ·intro s; exact rfl
def ew : (Int × Int) → V × List V := fun r => (.tup [(I r.1), (I r.2)], [])
theorem nc (k : Nat) (a0 : a8) (a1 : Str)  (K0 : Int → Option (Int × Int)) (Kst : X × St → Option (V × List V)) (hK0 : ∀ (y0 : Int), Kst (X.exit 0, ⟨[(1, (Sr a1)), (2, (Pt 2)), (7, (I y0)), (17, (Bo false))], [(2, vS 4 (b7 a0))], 29⟩) = (K0 y0).map ew) (hret : ∀ s, Kst (X.ret, s) = F6 prog 29 [(b7 a0), (Sr a1)] [] [.tmp 4, .tmp 5] (X.ret, s)) :
  ∀ (m : Nat) (x5 : Int), (D1 (u1 prog (EV k) Ma k Dk) m ⟨[(1, (Sr a1)), (2, (Pt 2)), (7, (I x5))], [(2, vS 4 (b7 a0))], 29⟩).bind Kst = (Q6 a0 a1 K0 m x5).map ew := by
 intro m
 induction m with
 | zero => intros; rfl
 | succ m ih =>
  intro x5
  unfold Q6
  refine et l9 <| et b6 <| krp Em rfl ⟨[(1, (Sr a1)), (2, (Pt 2)), (7, (I x5)), (17, (Bo (decide (x5 < (a0.fTypes.length : Int)))))], [(2, vS 4 (b7 a0))], 29⟩ ?_ ?_
  ·exact rd 3 [(13, (I x5)), (14, (V.ptr 2 0 2)), (15, (l7 a0.fTypes))] rfl rfl <| rl rfl (n7 (e := j0) rfl rfl rfl rfl rfl rfl underlying22) <| b5 rfl
  refine kc rfl rfl (fun hc => ?_) fun hc => ?_
  ·rw [hc]
   refine et d6 <| et (i9 rfl) <| kg EH rfl (fun (o7 : Bool) => ⟨[(1, (Sr a1)), (2, (Pt 2)), (7, (I x5)), (27, (Bo o7))], [(2, vS 4 (b7 a0))], 29⟩) (rd 3 [(20, (V.ptr 2 0 2)), (21, (l7 a0.fTypes)), (22, (I x5))] rfl rfl <| rp rfl (i2 (e := j0) rfl rfl rfl underlying22 rfl (by decide)) fun v6 => b5 rfl) fun o7 => kcl rfl rfl (fun hc => ?_) fun hc => ?_
   ·rw [hc]
    refine kr ⟨[(4, (I x5)), (5, (I 0))], [], 29⟩ rfl <| et i1 <| et l6 <| et l8 <| et (hret _) ?_
    rfl
   ·rw [hc]
    exact et m9 <| et i6 <| kl ⟨[(1, (Sr a1)), (2, (Pt 2)), (7, (I (Go.IntKind.wrap .i64 (x5 + 1))))], [(2, vS 4 (b7 a0))], 29⟩ rfl <| et i3 <| ih (Go.IntKind.wrap .i64 (x5 + 1))
  ·rw [hc]
   exact et p7 <| et j3 <| hK0 x5
theorem ct (k : Nat) (a0 : a8) (a1 : Str) : EV k 47 [(b7 a0), (Sr a1)] = (M6 k a0 a1).map ew := by
 cases k with
 | zero => rfl
 | succ k =>
  unfold M6
  refine et (i5 (c := f47c) (N := 29) (regs := Ma) rfl func47 rfl (by decide) rfl rfl rfl) <| kr ⟨[(1, (Sr a1)), (2, (Pt 2))], [(2, vS 4 (b7 a0))], 29⟩ rfl <| et b6 <| kga Er rfl (fun (o2 : Int) => [(6, (I o2))]) (rd 1 [(8, (b7 a0))] rfl rfl <| rs rfl (d7 rfl rfl rfl rfl rfl (fh k a0 ([] : List Int)) (.inl rfl)) fun v1 => b5 rfl) fun o2 => et b6 <| kra [(11, (Bo (o2 != 0)))] rfl <| kc rfl rfl (fun hc => ?_) fun hc => ?_
  ·rw [hc]
   refine et b6 <| kr ⟨[(4, (I 0)), (5, (I o2))], [], 29⟩ rfl <| et n6 ?_
   rfl
  ·rw [hc]
   refine et d6 <| et b6 <| kr ⟨[(1, (Sr a1)), (2, (Pt 2)), (7, (I 0))], [(2, vS 4 (b7 a0))], 29⟩ rfl <| et (i9 rfl) <| et p8 ?_
   refine nc k a0 a1 _ _ ?h_ref11_Type_L1_0 ?hr_ref11_Type_L1 k 0
   ·intro y8
    refine et j5 <| kr ⟨[(4, (I 0)), (5, (I 5))], [], 29⟩ rfl <| et i1 ?_
    rfl
   ·intro s; exact rfl
def ma : (Bool × Int) → V × List V := fun r => (.tup [(Bo r.1), (I r.2)], [])
theorem ne (k : Nat) (a0 : a8) (a1 : Int) (a2 : Int) : EV k 109 [(b7 a0), (I a1), (I a2)] = (ar k a0 a1 a2).map ma := by
 cases k with
 | zero => rfl
 | succ k =>
  unfold ar
  refine et (i5 (c := aaq) (N := 21) (regs := Df) rfl func109 rfl (by decide) rfl rfl rfl) <| kr ⟨[(1, (I a1)), (2, (I a2)), (3, (Pt 3))], [(3, vS 4 (b7 a0))], 21⟩ rfl <| et b6 <| kga Az rfl (fun (o2 : Int) => [(8, (I o2))]) (rd 4 [(9, (b7 a0)), (10, (I a1)), (11, (I a2)), (12, (sI (([a1, a2] : List Int))))] rfl rfl <| rs rfl (d7 rfl rfl rfl rfl rfl (fh k a0 ([a1, a2] : List Int)) (.inl rfl)) fun v1 => b5 rfl) fun o2 => et b6 <| kra [(15, (Bo (o2 != 0)))] rfl <| kc rfl rfl (fun hc => ?_) fun hc => ?_
  ·rw [hc]
   refine et b6 <| kr ⟨[(6, (Bo false)), (7, (I o2))], [], 21⟩ rfl <| et n6 ?_
   rfl
  ·rw [hc]
   refine et d6 <| kg zy rfl (fun (o4 : Bool × Int) => ⟨[(6, (Bo o4.1)), (7, (I o4.2))], [], 21⟩) (rd 3 [(17, (b7 a0)), (18, (I a1)), (19, (I a2))] rfl rfl <| rp rfl (d7 rfl rfl rfl rfl rfl (jh k a0 a1 a2) (.inl rfl)) fun v3 => b5 rfl) fun o4 => et i1 ?_
   rfl
def nb : Int → V × List V := fun r => ((I r), [])
theorem V0 (k : Nat) (a0 : a8) (a1 : Int) : EV k 77 [(b7 a0), (I a1)] = (ac k a0 a1).map nb := by
 cases k with
 | zero => rfl
 | succ k =>
  unfold ac
  refine et (i5 (c := f77c) (N := 19) (regs := acz) rfl func77 rfl (by decide) rfl rfl rfl) <| kr ⟨[(1, (I a1)), (2, (Pt 2))], [(2, vS 4 (b7 a0))], 19⟩ rfl <| et (i9 rfl) <| kga Ej rfl (fun (o2 : Bool) => [(5, (Bo o2))]) (rd 1 [(6, (b7 a0))] rfl rfl <| rp rfl (d7 rfl rfl rfl rfl rfl (bE k a0) (.inl rfl)) fun v1 => b5 rfl) fun o2 => kcl rfl rfl (fun hc => ?_) fun hc => ?_
  ·rw [hc]
   refine kr ⟨[(4, (I 100))], [], 19⟩ rfl <| et i1 <| et l6 ?_
   rfl
  ·rw [hc]
   refine kg DF rfl (fun (o3 : Bool) => ⟨[(9, (Bo o3))], [], 19⟩) ?_ fun o3 => ?_
   ·refine rd 3 [(10, (I a1)), (11, (Bo (decide (a1 < 0)))), (12, (Bo (decide (a1 < 0))))] rfl rfl <| n5 (fun hc => ?_) fun hc => ?_
    ·rw [hc]
     exact d5 rfl
    ·rw [hc]
     exact rd 6 [(13, (I a1)), (14, (V.ptr 2 0 2)), (15, (l7 a0.fTypes))] rfl rfl <| rl rfl (n7 (e := j0) rfl rfl rfl rfl rfl rfl underlying22) <| b5 rfl
   refine kcl rfl rfl (fun hc => ?_) fun hc => ?_
   ·rw [hc]
    refine kr ⟨[(4, (I 2))], [], 19⟩ rfl <| et i1 <| et l6 ?_
    rfl
   ·rw [hc]
    refine et m9 <| et i6 <| kr ⟨[(4, (I 0))], [], 19⟩ rfl <| et i1 ?_
    rfl
def du : (Int × Int) → V × List V := fun r => (.tup [(I r.1), (I r.2)], [])
theorem lk (k : Nat) (a0 : a8) (a1 : Int) (a2 : Str)  (K0 : Int → Option (Int × Int)) (Kst : X × St → Option (V × List V)) (hK0 : ∀ (y0 : Int), Kst (X.exit 0, ⟨[(1, (I a1)), (2, (Sr a2)), (3, (Pt 3)), (9, (I y0)), (25, (Bo false))], [(3, vS 4 (b7 a0))], 41⟩) = (K0 y0).map du) (hret : ∀ s, Kst (X.ret, s) = F6 prog 41 [(b7 a0), (I a1), (Sr a2)] [] [.tmp 6, .tmp 7] (X.ret, s)) :
  ∀ (m : Nat) (x8 : Int), (D1 (u1 prog (EV k) yX k xS) m ⟨[(1, (I a1)), (2, (Sr a2)), (3, (Pt 3)), (9, (I x8))], [(3, vS 4 (b7 a0))], 41⟩).bind Kst = (M3 a0 a1 a2 K0 m x8).map du := by
 intro m
 induction m with
 | zero => intros; rfl
 | succ m ih =>
  intro x8
  unfold M3
  refine et l9 <| et b6 <| kga wY rfl (fun (o10 : Bool) => [(25, (Bo o10))]) (rd 4 [(17, (I x8)), (18, (V.ptr 3 0 2)), (19, (l7 a0.fTypes)), (20, (I a1))] rfl rfl <| rp rfl (i2 (e := j0) rfl rfl rfl underlying22 rfl (by decide)) fun v9 => bd 7 [(21, (Pr (j0 v9))), (22, (Pr (k0 v9.fFields))), (23, (k0 v9.fFields))] rfl rfl <| rl rfl (n7 (e := l5) rfl rfl rfl rfl rfl rfl underlying46) <| b5 rfl) fun o10 => kc rfl rfl (fun hc => ?_) fun hc => ?_
  ·rw [hc]
   refine et d6 <| et (i9 rfl) <| kg zw rfl (fun (o13 : Bool) => ⟨[(1, (I a1)), (2, (Sr a2)), (3, (Pt 3)), (9, (I x8)), (39, (Bo o13))], [(3, vS 4 (b7 a0))], 41⟩) (rd 3 [(28, (V.ptr 3 0 2)), (29, (l7 a0.fTypes)), (30, (I a1))] rfl rfl <| rp rfl (i2 (e := j0) rfl rfl rfl underlying22 rfl (by decide)) fun v11 => bd 7 [(31, (Pr (j0 v11))), (32, (Pr (k0 v11.fFields))), (33, (k0 v11.fFields)), (34, (I x8))] rfl rfl <| rp rfl (i2 (e := l5) rfl rfl rfl underlying46 rfl (by decide)) fun v12 => b5 rfl) fun o13 => kcl rfl rfl (fun hc => ?_) fun hc => ?_
   ·rw [hc]
    refine kr ⟨[(6, (I x8)), (7, (I 0))], [], 41⟩ rfl <| et i1 <| et l6 <| et l8 <| et (hret _) ?_
    rfl
   ·rw [hc]
    exact et m9 <| et i6 <| kl ⟨[(1, (I a1)), (2, (Sr a2)), (3, (Pt 3)), (9, (I (Go.IntKind.wrap .i64 (x8 + 1))))], [(3, vS 4 (b7 a0))], 41⟩ rfl <| et i3 <| ih (Go.IntKind.wrap .i64 (x8 + 1))
  ·rw [hc]
   exact et p7 <| et j3 <| hK0 x8
theorem po (k : Nat) (a0 : a8) (a1 : Int) (a2 : Str) : EV k 126 [(b7 a0), (I a1), (Sr a2)] = (cX k a0 a1 a2).map du := by
 cases k with
 | zero => rfl
 | succ k =>
  unfold cX
  refine et (i5 (c := PX) (N := 41) (regs := yX) rfl func126 rfl (by decide) rfl rfl rfl) <| kr ⟨[(1, (I a1)), (2, (Sr a2)), (3, (Pt 3))], [(3, vS 4 (b7 a0))], 41⟩ rfl <| et b6 <| kga xQ rfl (fun (o2 : Int) => [(8, (I o2))]) (rd 3 [(10, (b7 a0)), (11, (I a1)), (12, (sI (([a1] : List Int))))] rfl rfl <| rs rfl (d7 rfl rfl rfl rfl rfl (fh k a0 ([a1] : List Int)) (.inl rfl)) fun v1 => b5 rfl) fun o2 => et b6 <| kra [(15, (Bo (o2 != 0)))] rfl <| kc rfl rfl (fun hc => ?_) fun hc => ?_
  ·rw [hc]
   refine et b6 <| kr ⟨[(6, (I 0)), (7, (I o2))], [], 41⟩ rfl <| et n6 ?_
   rfl
  ·rw [hc]
   refine et d6 <| et b6 <| kr ⟨[(1, (I a1)), (2, (Sr a2)), (3, (Pt 3)), (9, (I 0))], [(3, vS 4 (b7 a0))], 41⟩ rfl <| et (i9 rfl) <| et p8 ?_
   refine lk k a0 a1 a2 _ _ ?h_ref11_Field_L1_0 ?hr_ref11_Field_L1 k 0
   ·intro y14
    refine et j5 <| kr ⟨[(6, (I 0)), (7, (I 5))], [], 41⟩ rfl <| et i1 ?_
    rfl
   ·intro s; exact rfl
def mY : Bool → V × List V := fun r => ((Bo r), [])
theorem dG (k : Nat) (a0 : a8) (a1 : Int) (a2 : a6) : EV k 112 [(b7 a0), (I a1), (d4 a2)] = (ag k a0 a1 a2).map mY := by
 cases k with
 | zero => rfl
 | succ k =>
  unfold ag
  refine et (i5 (c := ady) (N := 45) (regs := EN) rfl func112 rfl (by decide) rfl rfl rfl) <| kr ⟨[(1, (I a1)), (3, (Pt 3)), (5, (Pt 5))], [(3, vS 4 (b7 a0)), (5, vS 3 (d4 a2))], 45⟩ rfl <| kga ya rfl (fun (o2 : Int × Int) => [(7, (I o2.1)), (8, (I o2.2))]) (rd 4 [(10, (b7 a0)), (11, (I a1)), (12, (Pt 5)), (13, (Sr a2.fField))] rfl rfl <| rp rfl (d7 rfl rfl rfl rfl rfl (po k a0 a1 a2.fField) (.inl rfl)) fun v1 => b5 rfl) fun o2 => kd yB rfl (fun (o5 : Bool) => ⟨[(6, (Bo o5))], [], 45⟩) ?_ fun o5 => ?_
  ·refine et (j2 (p := 29) (dk := true) (t := [(1, (I a1)), (3, (Pt 3)), (5, (Pt 5)), (7, (I o2.1)), (8, (I o2.2))]) (σ := [(3, vS 4 (b7 a0)), (5, vS 3 (d4 a2))]) (n := 45) rfl (by decide) (by decide) rfl) <| et (j9 (m := 3) (j := 3) (t' := [(1, (I a1)), (3, (Pt 3)), (5, (Pt 5)), (7, (I o2.1)), (8, (I o2.2)), (17, (I o2.2)), (18, (Bo (o2.2 == 0))), (19, (Bo (o2.2 == 0)))]) rfl rfl rfl) <| n5 (fun hc => ?_) fun hc => ?_
   ·rw [hc]
    refine et (j9 (m := 5) (j := 8) (t' := [(1, (I a1)), (3, (Pt 3)), (5, (Pt 5)), (7, (I o2.1)), (8, (I o2.2)), (17, (I o2.2)), (18, (Bo true)), (19, (Bo true)), (20, (V.ptr 5 0 1)), (21, (I a2.fOp)), (22, (Bo (decide (a2.fOp ≥ 1)))), (23, (Bo (decide (a2.fOp ≥ 1)))), (24, (Bo (decide (a2.fOp ≥ 1))))]) rfl rfl rfl) <| n5 (fun hc => ?_) fun hc => ?_
    ·rw [hc]
     refine et (j9 (m := 5) (j := 13) (t' := [(1, (I a1)), (3, (Pt 3)), (5, (Pt 5)), (7, (I o2.1)), (8, (I o2.2)), (17, (I o2.2)), (18, (Bo true)), (19, (Bo true)), (20, (V.ptr 5 0 1)), (21, (I a2.fOp)), (22, (Bo true)), (23, (Bo true)), (24, (Bo true)), (25, (V.ptr 5 0 1)), (26, (I a2.fOp)), (27, (Bo (decide (a2.fOp ≤ 6)))), (28, (Bo (decide (a2.fOp ≤ 6)))), (29, (Bo (decide (a2.fOp ≤ 6))))]) rfl rfl rfl) <| n5 (fun hc => ?_) fun hc => ?_
     ·rw [hc]
      exact et (j9 (m := 6) (j := 19) (t' := [(1, (I a1)), (3, (Pt 3)), (5, (Pt 5)), (7, (I o2.1)), (8, (I o2.2)), (17, (I o2.2)), (18, (Bo true)), (19, (Bo true)), (20, (V.ptr 5 0 1)), (21, (I a2.fOp)), (22, (Bo true)), (23, (Bo true)), (24, (Bo true)), (25, (V.ptr 5 0 1)), (26, (I a2.fOp)), (27, (Bo true)), (28, (Bo true)), (29, (Bo true)), (30, (V.ptr 5 0 2)), (31, (Sr a2.fValue)), (32, (I (a2.fValue.length : Int))), (33, (V.ptr 3 0 2)), (34, (l7 a0.fTypes)), (35, (I a1))]) rfl rfl rfl) <| et (c9 (x := (idx a0.fTypes a1)) (w := fun v3 => (Pr (j0 v3))) rfl rfl rfl rfl rfl (i2 (e := j0) rfl rfl rfl underlying22 rfl (by decide))) <| j6 fun v3 => et (i7 (m := 3) (j := 23) (t' := [(1, (I a1)), (3, (Pt 3)), (5, (Pt 5)), (7, (I o2.1)), (8, (I o2.2)), (17, (I o2.2)), (18, (Bo true)), (19, (Bo true)), (20, (V.ptr 5 0 1)), (21, (I a2.fOp)), (22, (Bo true)), (23, (Bo true)), (24, (Bo true)), (25, (V.ptr 5 0 1)), (26, (I a2.fOp)), (27, (Bo true)), (28, (Bo true)), (29, (Bo true)), (30, (V.ptr 5 0 2)), (31, (Sr a2.fValue)), (32, (I (a2.fValue.length : Int))), (33, (V.ptr 3 0 2)), (34, (l7 a0.fTypes)), (35, (I a1)), (36, (Pr (j0 v3))), (37, (Pr (k0 v3.fFields))), (38, (k0 v3.fFields)), (39, (I o2.1))]) rfl rfl rfl) <| et (c9 (x := (idx v3.fFields o2.1)) (w := fun v4 => (Pr (l5 v4))) rfl rfl rfl rfl rfl (i2 (e := l5) rfl rfl rfl underlying46 rfl (by decide))) <| j6 fun v4 => j8 rfl
     ·rw [hc]
      exact j8 rfl
    ·rw [hc]
     exact j8 rfl
   ·rw [hc]
    exact j8 rfl
  refine et i1 ?_
  rfl
def G8 : Bool → V × List V := fun r => ((Bo r), [])
theorem ga (k : Nat) (a0 : a8) (a1 : Int) (a2 : (List (List a6))) (x18 : Int)  (K0 : Int → Option Bool) (Kst : X × St → Option (V × List V)) (hK0 : ∀ (y0 : Int), Kst (X.exit 2, ⟨[(1, (I a1)), (2, (V.sl 0 1 (List.map a7 a2))), (3, (Pt 3)), (7, (I x18)), (8, (I y0)), (35, (Bo false))], [(3, vS 4 (b7 a0))], 52⟩) = (K0 y0).map G8) (hret : ∀ s, Kst (X.ret, s) = F6 prog 52 [(b7 a0), (I a1), (V.sl 0 1 (List.map a7 a2))] [] [.tmp 6] (X.ret, s)) :
  ∀ (m : Nat) (x28 : Int), (D1 (u1 prog (EV k) Bd k Dj) m ⟨[(1, (I a1)), (2, (V.sl 0 1 (List.map a7 a2))), (3, (Pt 3)), (7, (I x18)), (8, (I x28))], [(3, vS 4 (b7 a0))], 52⟩).bind Kst = (A4 k a0 a1 a2 x18 K0 m x28).map G8 := by
 intro m
 induction m with
 | zero => intros; rfl
 | succ m ih =>
  intro x28
  unfold A4
  refine et l9 <| et b6 <| kga DS rfl (fun (o30 : Bool) => [(35, (Bo o30))]) (rd 3 [(29, (I x28)), (30, (V.sl 0 1 (List.map a7 a2))), (31, (I x18))] rfl rfl <| rp rfl (i2 (e := a7) rfl rfl rfl underlying26 rfl (by decide)) fun v29 => bd 5 [(32, (Pr (a7 v29))), (33, (a7 v29))] rfl rfl <| rl rfl (n7 (e := d4) rfl rfl rfl rfl rfl rfl underlying56) <| b5 rfl) fun o30 => kc rfl rfl (fun hc => ?_) fun hc => ?_
  ·rw [hc]
   refine et d6 <| et (i9 rfl) <| kd ED rfl (fun (o34 : Bool) => ⟨[(1, (I a1)), (2, (V.sl 0 1 (List.map a7 a2))), (3, (Pt 3)), (7, (I x18)), (8, (I x28)), (48, (Bo o34))], [(3, vS 4 (b7 a0))], 52⟩) (et (j2 (p := 11) (dk := true) (t := [(1, (I a1)), (2, (V.sl 0 1 (List.map a7 a2))), (3, (Pt 3)), (7, (I x18)), (8, (I x28)), (35, (Bo true))]) (σ := [(3, vS 4 (b7 a0))]) (n := 52) rfl (by decide) (by decide) rfl) <| et (j9 (m := 4) (j := 4) (t' := [(1, (I a1)), (2, (V.sl 0 1 (List.map a7 a2))), (3, (Pt 3)), (7, (I x18)), (8, (I x28)), (35, (Bo true)), (38, (b7 a0)), (39, (I a1)), (40, (V.sl 0 1 (List.map a7 a2))), (41, (I x18))]) rfl rfl rfl) <| et (c9 (x := (idx a2 x18)) (w := fun v31 => (Pr (a7 v31))) rfl rfl rfl rfl rfl (i2 (e := a7) rfl rfl rfl underlying26 rfl (by decide))) <| j6 fun v31 => et (i7 (m := 2) (j := 7) (t' := [(1, (I a1)), (2, (V.sl 0 1 (List.map a7 a2))), (3, (Pt 3)), (7, (I x18)), (8, (I x28)), (35, (Bo true)), (38, (b7 a0)), (39, (I a1)), (40, (V.sl 0 1 (List.map a7 a2))), (41, (I x18)), (42, (Pr (a7 v31))), (43, (a7 v31)), (44, (I x28))]) rfl rfl rfl) <| et (c9 (x := (idx v31 x28)) (w := fun v32 => (Pr (d4 v32))) rfl rfl rfl rfl rfl (i2 (e := d4) rfl rfl rfl underlying56 rfl (by decide))) <| j6 fun v32 => et (i7 (m := 1) (j := 9) (t' := [(1, (I a1)), (2, (V.sl 0 1 (List.map a7 a2))), (3, (Pt 3)), (7, (I x18)), (8, (I x28)), (35, (Bo true)), (38, (b7 a0)), (39, (I a1)), (40, (V.sl 0 1 (List.map a7 a2))), (41, (I x18)), (42, (Pr (a7 v31))), (43, (a7 v31)), (44, (I x28)), (45, (Pr (d4 v32))), (46, (d4 v32))]) rfl rfl rfl) <| et (c9 (x := (ag k a0 a1 v32)) (w := fun v33 => (Bo v33)) rfl rfl rfl rfl rfl (d7 rfl rfl rfl rfl rfl (dG k a0 a1 v32) (.inl rfl))) <| j6 fun v33 => j8 rfl) fun o34 => kcl rfl rfl (fun hc => ?_) fun hc => ?_
   ·rw [hc]
    refine kr ⟨[(6, (Bo false))], [], 52⟩ rfl <| et i1 <| et l6 <| et l8 <| et (hret _) ?_
    rfl
   ·rw [hc]
    exact et m9 <| et i6 <| kl ⟨[(1, (I a1)), (2, (V.sl 0 1 (List.map a7 a2))), (3, (Pt 3)), (7, (I x18)), (8, (I (Go.IntKind.wrap .i64 (x28 + 1))))], [(3, vS 4 (b7 a0))], 52⟩ rfl <| et i3 <| ih (Go.IntKind.wrap .i64 (x28 + 1))
  ·rw [hc]
   exact et p7 <| et j3 <| hK0 x28
theorem gb (k : Nat) (a0 : a8) (a1 : Int) (a2 : (List (List a6)))  (K0 : Int → Option Bool) (Kst : X × St → Option (V × List V)) (hK0 : ∀ (y0 : Int), Kst (X.exit 0, ⟨[(1, (I a1)), (2, (V.sl 0 1 (List.map a7 a2))), (3, (Pt 3)), (7, (I y0)), (12, (Bo false))], [(3, vS 4 (b7 a0))], 52⟩) = (K0 y0).map G8) (hret : ∀ s, Kst (X.ret, s) = F6 prog 52 [(b7 a0), (I a1), (V.sl 0 1 (List.map a7 a2))] [] [.tmp 6] (X.ret, s)) :
  ∀ (m : Nat) (x18 : Int), (D1 (u1 prog (EV k) Bd k DR) m ⟨[(1, (I a1)), (2, (V.sl 0 1 (List.map a7 a2))), (3, (Pt 3)), (7, (I x18))], [(3, vS 4 (b7 a0))], 52⟩).bind Kst = (B8 k a0 a1 a2 K0 m x18).map G8 := by
 intro m
 induction m with
 | zero => intros; rfl
 | succ m ih =>
  intro x18
  unfold B8
  refine et l9 <| et b6 <| krp BX rfl ⟨[(1, (I a1)), (2, (V.sl 0 1 (List.map a7 a2))), (3, (Pt 3)), (7, (I x18)), (12, (Bo (decide (x18 < (a2.length : Int)))))], [(3, vS 4 (b7 a0))], 52⟩ ?_ ?_
  ·exact rd 2 [(9, (I x18)), (10, (V.sl 0 1 (List.map a7 a2)))] rfl rfl <| rl rfl (n7 (e := a7) rfl rfl rfl rfl rfl rfl underlying26) <| b5 rfl
  refine kc rfl rfl (fun hc => ?_) fun hc => ?_
  ·rw [hc]
   refine et d6 <| et (i9 rfl) <| et b6 <| kg Fj rfl (fun (o21 : Bool) => ⟨[(1, (I a1)), (2, (V.sl 0 1 (List.map a7 a2))), (3, (Pt 3)), (7, (I x18)), (28, (Bo o21))], [(3, vS 4 (b7 a0))], 52⟩) ?_ fun o21 => ?_
   ·refine rd 2 [(15, (V.sl 0 1 (List.map a7 a2))), (16, (I x18))] rfl rfl <| rp rfl (i2 (e := a7) rfl rfl rfl underlying26 rfl (by decide)) fun v19 => bd 4 [(17, (Pr (a7 v19))), (18, (a7 v19))] rfl rfl <| rl rfl (n7 (e := d4) rfl rfl rfl rfl rfl rfl underlying56) <| bd 7 [(19, (I (v19.length : Int))), (20, (Bo (decide ((v19.length : Int) < 1)))), (21, (Bo (decide ((v19.length : Int) < 1))))] rfl rfl <| n5 (fun hc => ?_) fun hc => ?_
    ·rw [hc]
     exact d5 rfl
    ·rw [hc]
     exact rd 9 [(22, (V.sl 0 1 (List.map a7 a2))), (23, (I x18))] rfl rfl <| rp rfl (i2 (e := a7) rfl rfl rfl underlying26 rfl (by decide)) fun v20 => bd 11 [(24, (Pr (a7 v20))), (25, (a7 v20))] rfl rfl <| rl rfl (n7 (e := d4) rfl rfl rfl rfl rfl rfl underlying56) <| b5 rfl
   refine kc rfl rfl (fun hc => ?_) fun hc => ?_
   ·rw [hc]
    refine et b6 <| kr ⟨[(6, (Bo false))], [], 52⟩ rfl <| et n6 <| et l6 <| et l8 <| et (hret _) ?_
    rfl
   ·rw [hc]
    refine et d6 <| kr ⟨[(1, (I a1)), (2, (V.sl 0 1 (List.map a7 a2))), (3, (Pt 3)), (7, (I x18)), (8, (I 0))], [(3, vS 4 (b7 a0))], 52⟩ rfl <| et (G7 rfl) <| et p8 ?_
    refine ga k a0 a1 a2 x18 _ _ ?h_ref12_isCondition_L2_0 ?hr_ref12_isCondition_L2 k 0
    ·intro y35
     exact et j5 <| et m9 <| et i6 <| kl ⟨[(1, (I a1)), (2, (V.sl 0 1 (List.map a7 a2))), (3, (Pt 3)), (7, (I (Go.IntKind.wrap .i64 (x18 + 1))))], [(3, vS 4 (b7 a0))], 52⟩ rfl <| et i3 <| ih (Go.IntKind.wrap .i64 (x18 + 1))
    ·intro s; exact hret s
  ·rw [hc]
   exact et p7 <| et j3 <| hK0 x18
theorem w6 (k : Nat) (a0 : a8) (a1 : Int) (a2 : (List (List a6))) : EV k 78 [(b7 a0), (I a1), (V.sl 0 1 (List.map a7 a2))] = (B3 k a0 a1 a2).map G8 := by
 cases k with
 | zero => rfl
 | succ k =>
  unfold B3
  refine et (i5 (c := f78c) (N := 52) (regs := Bd) rfl func78 rfl (by decide) rfl rfl rfl) <| kr ⟨[(1, (I a1)), (2, (V.sl 0 1 (List.map a7 a2))), (3, (Pt 3))], [(3, vS 4 (b7 a0))], 52⟩ rfl <| et b6 <| kra [(7, (I 0))] rfl <| et (i9 rfl) <| et p8 ?_
  refine gb k a0 a1 a2 _ _ ?h_ref12_isCondition_L1_0 ?hr_ref12_isCondition_L1 k 0
  ·intro y36
   refine et j5 <| krp zL rfl ⟨[(6, (Bo (decide ((a2.length : Int) ≤ 4))))], [], 52⟩ ?_ ?_
   ·exact rd 1 [(49, (V.sl 0 1 (List.map a7 a2)))] rfl rfl <| rl rfl (n7 (e := a7) rfl rfl rfl rfl rfl rfl underlying26) <| b5 rfl
   refine et i1 ?_
   rfl
  ·intro s; exact rfl
def ol : (Bool × Int) → V × List V := fun r => (.tup [(Bo r.1), (I r.2)], [])
theorem iX (k : Nat) (a0 : a8) (a1 : Int) (a2 : (List (List a6))) : EV k 110 [(b7 a0), (I a1), (V.sl 0 1 (List.map a7 a2))] = (aW k a0 a1 a2).map ol := by
 cases k with
 | zero => rfl
 | succ k =>
  unfold aW
  refine et (i5 (c := SV) (N := 19) (regs := Cd) rfl func110 rfl (by decide) rfl rfl rfl) <| kr ⟨[(1, (I a1)), (2, (V.sl 0 1 (List.map a7 a2))), (3, (Pt 3))], [(3, vS 4 (b7 a0))], 19⟩ rfl <| et b6 <| kga zi rfl (fun (o2 : Int) => [(8, (I o2))]) (rd 2 [(9, (b7 a0)), (10, (I a1))] rfl rfl <| rs rfl (d7 rfl rfl rfl rfl rfl (V0 k a0 a1) (.inl rfl)) fun v1 => b5 rfl) fun o2 => et b6 <| kra [(13, (Bo (o2 != 0)))] rfl <| kc rfl rfl (fun hc => ?_) fun hc => ?_
  ·rw [hc]
   refine et b6 <| kr ⟨[(6, (Bo false)), (7, (I o2))], [], 19⟩ rfl <| et n6 ?_
   rfl
  ·rw [hc]
   refine et d6 <| kg yA rfl (fun (o4 : Bool × Int) => ⟨[(6, (Bo o4.1)), (7, (I o4.2))], [], 19⟩) (rd 3 [(15, (b7 a0)), (16, (I a1)), (17, (V.sl 0 1 (List.map a7 a2)))] rfl rfl <| rp rfl (d7 rfl rfl rfl rfl rfl (w6 k a0 a1 a2) (.inl rfl)) fun v3 => b5 rfl) fun o4 => et i1 ?_
   rfl
def mE : Str → V × List V := fun r => ((Sr r), [])
theorem dB (k : Nat) (a0 : a8) (a1 : Int) (a2 : b8) : EV k 75 [(b7 a0), (I a1), (j4 a2)] = (Z6 k a0 a1 a2).map mE := by
 cases k with
 | zero => rfl
 | succ k =>
  unfold Z6
  refine et (i5 (c := f75c) (N := 55) (regs := aba) rfl func75 rfl (by decide) rfl rfl rfl) <| kr ⟨[(1, (I a1)), (3, (Pt 3)), (5, (Pt 5))], [(3, vS 4 (b7 a0)), (5, vS 3 (j4 a2))], 55⟩ rfl <| et b6 <| kga Co rfl (fun (o2 : Bool) => [(16, (Bo o2))]) (rd 2 [(13, (V.ptr 5 0 1)), (14, (Sr a2.fCodes))] rfl rfl <| rp rfl (d7 rfl rfl rfl rfl rfl (S0 k a2.fCodes) (.inl rfl)) fun v1 => b5 rfl) fun o2 => kc rfl rfl (fun hc => ?_) fun hc => ?_
  ·rw [hc]
   refine et b6 <| kr ⟨[(6, (Sr ([65, 74] : Str)))], [], 55⟩ rfl <| et n6 ?_
   rfl
  ·rw [hc]
   refine et d6 <| kg Ey rfl (fun (o4 : Int × Int) => ⟨[(1, (I a1)), (3, (Pt 3)), (5, (Pt 5)), (7, (I o4.1)), (8, (I o4.2))], [(3, vS 4 (b7 a0)), (5, vS 3 (j4 a2))], 55⟩) (rd 3 [(18, (b7 a0)), (19, (Pt 5)), (20, (Sr a2.fSegment))] rfl rfl <| rp rfl (d7 rfl rfl rfl rfl rfl (ct k a0 a2.fSegment) (.inl rfl)) fun v3 => b5 rfl) fun o4 => et b6 <| kr ⟨[(1, (I a1)), (3, (Pt 3)), (5, (Pt 5)), (7, (I o4.1)), (25, (Bo (o4.2 != 0)))], [(3, vS 4 (b7 a0)), (5, vS 3 (j4 a2))], 55⟩ rfl <| kc rfl rfl (fun hc => ?_) fun hc => ?_
   ·rw [hc]
    refine et b6 <| kr ⟨[(6, (Sr ([65, 67] : Str)))], [], 55⟩ rfl <| et n6 ?_
    rfl
   ·rw [hc]
    refine et d6 <| et b6 <| kr ⟨[(1, (I a1)), (3, (Pt 3)), (5, (Pt 5)), (7, (I o4.1)), (27, (Bo (decide (a1 ≥ 0))))], [(3, vS 4 (b7 a0)), (5, vS 3 (j4 a2))], 55⟩ rfl <| kc rfl rfl (fun hc => ?_) fun hc => ?_
    ·rw [hc]
     refine et b6 <| kg DW rfl (fun (o6 : Bool × Int) => ⟨[(3, (Pt 3)), (5, (Pt 5)), (7, (I o4.1)), (9, (Bo o6.1)), (10, (I o6.2))], [(3, vS 4 (b7 a0)), (5, vS 3 (j4 a2))], 55⟩) (rd 3 [(29, (b7 a0)), (30, (I a1)), (31, (I o4.1))] rfl rfl <| rp rfl (d7 rfl rfl rfl rfl rfl (ne k a0 a1 o4.1) (.inl rfl)) fun v5 => b5 rfl) fun o6 => et b6 <| kg Eb rfl (fun (o7 : Bool) => ⟨[(3, (Pt 3)), (5, (Pt 5)), (7, (I o4.1)), (40, (Bo o7))], [(3, vS 4 (b7 a0)), (5, vS 3 (j4 a2))], 55⟩) ?_ fun o7 => ?_
     ·refine rd 3 [(35, (I o6.2)), (36, (Bo (o6.2 != 0))), (37, (Bo (o6.2 != 0)))] rfl rfl <| n5 (fun hc => ?_) fun hc => ?_
      ·rw [hc]
       exact d5 rfl
      ·rw [hc]
       exact d5 rfl
     refine kc rfl rfl (fun hc => ?_) fun hc => ?_
     ·rw [hc]
      refine et b6 <| kr ⟨[(6, (Sr ([65, 67] : Str)))], [], 55⟩ rfl <| et n6 ?_
      rfl
     ·rw [hc]
      refine et d6 <| et b6 <| kg vo rfl (fun (o9 : Bool × Int) => ⟨[(11, (Bo o9.1)), (12, (I o9.2))], [], 55⟩) (rd 4 [(42, (b7 a0)), (43, (I o4.1)), (44, (V.ptr 5 0 2)), (45, (V.sl 0 1 (List.map a7 a2.fWhen)))] rfl rfl <| rp rfl (d7 rfl rfl rfl rfl rfl (iX k a0 o4.1 a2.fWhen) (.inl rfl)) fun v8 => b5 rfl) fun o9 => et b6 <| kg uq rfl (fun (o10 : Bool) => ⟨[(54, (Bo o10))], [], 55⟩) ?_ fun o10 => ?_
      ·refine rd 3 [(49, (I o9.2)), (50, (Bo (o9.2 != 0))), (51, (Bo (o9.2 != 0)))] rfl rfl <| n5 (fun hc => ?_) fun hc => ?_
       ·rw [hc]
        exact d5 rfl
       ·rw [hc]
        exact d5 rfl
      refine kc rfl rfl (fun hc => ?_) fun hc => ?_
      ·rw [hc]
       refine et b6 <| kr ⟨[(6, (Sr ([65, 75] : Str)))], [], 55⟩ rfl <| et n6 ?_
       rfl
      ·rw [hc]
       refine et d6 <| kr ⟨[(6, (Sr ([32, 32] : Str)))], [], 55⟩ rfl <| et i1 ?_
       rfl
    ·rw [hc]
     refine et d6 <| et b6 <| kg vo rfl (fun (o12 : Bool × Int) => ⟨[(11, (Bo o12.1)), (12, (I o12.2))], [], 55⟩) (rd 4 [(42, (b7 a0)), (43, (I o4.1)), (44, (V.ptr 5 0 2)), (45, (V.sl 0 1 (List.map a7 a2.fWhen)))] rfl rfl <| rp rfl (d7 rfl rfl rfl rfl rfl (iX k a0 o4.1 a2.fWhen) (.inl rfl)) fun v11 => b5 rfl) fun o12 => et b6 <| kg uq rfl (fun (o13 : Bool) => ⟨[(54, (Bo o13))], [], 55⟩) ?_ fun o13 => ?_
     ·refine rd 3 [(49, (I o12.2)), (50, (Bo (o12.2 != 0))), (51, (Bo (o12.2 != 0)))] rfl rfl <| n5 (fun hc => ?_) fun hc => ?_
      ·rw [hc]
       exact d5 rfl
      ·rw [hc]
       exact d5 rfl
     refine kc rfl rfl (fun hc => ?_) fun hc => ?_
     ·rw [hc]
      refine et b6 <| kr ⟨[(6, (Sr ([65, 75] : Str)))], [], 55⟩ rfl <| et n6 ?_
      rfl
     ·rw [hc]
      refine et d6 <| kr ⟨[(6, (Sr ([32, 32] : Str)))], [], 55⟩ rfl <| et i1 ?_
      rfl
def dx : (Str × Int) → V × List V := fun r => (.tup [(Sr r.1), (I r.2)], [])
theorem W4 (k : Nat) (a0 : a8) (a1 : (List b8))  (K0 : Int → Int → Option (Str × Int)) (Kst : X × St → Option (V × List V)) (hK0 : ∀ (y0 : Int) (y1 : Int), Kst (X.exit 0, ⟨[(1, (u5 a1)), (2, (Pt 2)), (6, (I y0)), (7, (I y1)), (18, (Bo false))], [(2, vS 4 (b7 a0))], 41⟩) = (K0 y0 y1).map dx) (hret : ∀ s, Kst (X.ret, s) = F6 prog 41 [(b7 a0), (u5 a1)] [] [.tmp 4, .tmp 5] (X.ret, s)) :
  ∀ (m : Nat) (x9 : Int) (x10 : Int), (D1 (u1 prog (EV k) Oo k Fb) m ⟨[(1, (u5 a1)), (2, (Pt 2)), (6, (I x9)), (7, (I x10))], [(2, vS 4 (b7 a0))], 41⟩).bind Kst = (N3 k a0 a1 K0 m x9 x10).map dx := by
 intro m
 induction m with
 | zero => intros; rfl
 | succ m ih =>
  intro x9 x10
  unfold N3
  refine et l9 <| et b6 <| krp Cw rfl ⟨[(1, (u5 a1)), (2, (Pt 2)), (6, (I x9)), (7, (I x10)), (18, (Bo (decide (x10 < (a1.length : Int)))))], [(2, vS 4 (b7 a0))], 41⟩ ?_ ?_
  ·exact rd 2 [(15, (I x10)), (16, (u5 a1))] rfl rfl <| rl rfl (n7 (e := j4) rfl rfl rfl rfl rfl rfl underlying31) <| b5 rfl
  refine kc rfl rfl (fun hc => ?_) fun hc => ?_
  ·rw [hc]
   refine et d6 <| et (i9 rfl) <| et b6 <| kd Fl rfl (fun (o13 : Str) => ⟨[(1, (u5 a1)), (2, (Pt 2)), (7, (I x10)), (8, (Sr o13))], [(2, vS 4 (b7 a0))], 41⟩) (et (j2 (p := 8) (dk := true) (t := [(1, (u5 a1)), (2, (Pt 2)), (6, (I x9)), (7, (I x10)), (18, (Bo true))]) (σ := [(2, vS 4 (b7 a0))]) (n := 41) rfl (by decide) (by decide) rfl) <| et (j9 (m := 4) (j := 4) (t' := [(1, (u5 a1)), (2, (Pt 2)), (6, (I x9)), (7, (I x10)), (18, (Bo true)), (21, (b7 a0)), (22, (I x9)), (23, (u5 a1)), (24, (I x10))]) rfl rfl rfl) <| et (c9 (x := (idx a1 x10)) (w := fun v11 => (Pr (j4 v11))) rfl rfl rfl rfl rfl (i2 (e := j4) rfl rfl rfl underlying31 rfl (by decide))) <| j6 fun v11 => et (i7 (m := 1) (j := 6) (t' := [(1, (u5 a1)), (2, (Pt 2)), (6, (I x9)), (7, (I x10)), (18, (Bo true)), (21, (b7 a0)), (22, (I x9)), (23, (u5 a1)), (24, (I x10)), (25, (Pr (j4 v11))), (26, (j4 v11))]) rfl rfl rfl) <| et (c9 (x := (Z6 k a0 x9 v11)) (w := fun v12 => (Sr v12)) rfl rfl rfl rfl rfl (d7 rfl rfl rfl rfl rfl (dB k a0 x9 v11) (.inl rfl))) <| B7 fun v12 => j8 rfl) fun o13 => et b6 <| kra [(29, (Bo (!(o13 == ([32, 32] : Str)))))] rfl <| kc rfl rfl (fun hc => ?_) fun hc => ?_
   ·rw [hc]
    refine et b6 <| kr ⟨[(4, (Sr o13)), (5, (I 0))], [], 41⟩ rfl <| et n6 <| et l6 <| et l8 <| et (hret _) ?_
    rfl
   ·rw [hc]
    exact et d6 <| kdl At rfl (fun (o16 : Int) => ⟨[(1, (u5 a1)), (2, (Pt 2)), (6, (I o16)), (7, (I x10))], [(2, vS 4 (b7 a0))], 41⟩) (et (j2 (p := 11) (dk := true) (t := [(1, (u5 a1)), (2, (Pt 2)), (7, (I x10)), (8, (Sr o13)), (29, (Bo false))]) (σ := [(2, vS 4 (b7 a0))]) (n := 41) rfl (by decide) (by decide) rfl) <| et (j9 (m := 3) (j := 3) (t' := [(1, (u5 a1)), (2, (Pt 2)), (7, (I x10)), (8, (Sr o13)), (29, (Bo false)), (32, (b7 a0)), (33, (u5 a1)), (34, (I x10))]) rfl rfl rfl) <| et (c9 (x := (idx a1 x10)) (w := fun v14 => (Pr (j4 v14))) rfl rfl rfl rfl rfl (i2 (e := j4) rfl rfl rfl underlying31 rfl (by decide))) <| j6 fun v14 => et (i7 (m := 2) (j := 6) (t' := [(1, (u5 a1)), (2, (Pt 2)), (7, (I x10)), (8, (Sr o13)), (29, (Bo false)), (32, (b7 a0)), (33, (u5 a1)), (34, (I x10)), (35, (Pr (j4 v14))), (36, (Pr (Sr v14.fSegment))), (37, (Sr v14.fSegment))]) rfl rfl rfl) <| et (c9 (x := (M6 k a0 v14.fSegment)) (w := fun v15 => (V.tup [(I v15.1), (I v15.2)])) rfl rfl rfl rfl rfl (d7 rfl rfl rfl rfl rfl (ct k a0 v14.fSegment) (.inl rfl))) <| j6 fun v15 => j8 rfl) fun o16 => et i6 <| kl ⟨[(1, (u5 a1)), (2, (Pt 2)), (6, (I o16)), (7, (I (Go.IntKind.wrap .i64 (x10 + 1))))], [(2, vS 4 (b7 a0))], 41⟩ rfl <| et i3 <| ih o16 (Go.IntKind.wrap .i64 (x10 + 1))
  ·rw [hc]
   exact et p7 <| et j3 <| hK0 x9 x10
theorem eD (k : Nat) (a0 : a8) (a1 : (List b8)) : EV k 46 [(b7 a0), (u5 a1)] = (cx k a0 a1).map dx := by
 cases k with
 | zero => rfl
 | succ k =>
  unfold cx
  refine et (i5 (c := f46c) (N := 41) (regs := Oo) rfl func46 rfl (by decide) rfl rfl rfl) <| kr ⟨[(1, (u5 a1)), (2, (Pt 2))], [(2, vS 4 (b7 a0))], 41⟩ rfl <| et b6 <| kga BU rfl (fun (o2 : Bool) => [(11, (Bo o2))]) (rd 1 [(9, (b7 a0))] rfl rfl <| rp rfl (d7 rfl rfl rfl rfl rfl (bE k a0) (.inl rfl)) fun v1 => b5 rfl) fun o2 => kc rfl rfl (fun hc => ?_) fun hc => ?_
  ·rw [hc]
   refine et b6 <| kr ⟨[(4, (Sr ([] : Str))), (5, (I 100))], [], 41⟩ rfl <| et n6 ?_
   rfl
  ·rw [hc]
   refine et d6 <| et b6 <| krp EU rfl ⟨[(1, (u5 a1)), (2, (Pt 2)), (14, (Bo (decide ((a1.length : Int) > 5))))], [(2, vS 4 (b7 a0))], 41⟩ ?_ ?_
   ·exact rd 1 [(12, (u5 a1))] rfl rfl <| rl rfl (n7 (e := j4) rfl rfl rfl rfl rfl rfl underlying31) <| b5 rfl
   refine kc rfl rfl (fun hc => ?_) fun hc => ?_
   ·rw [hc]
    refine et b6 <| kr ⟨[(4, (Sr ([65, 74] : Str))), (5, (I 0))], [], 41⟩ rfl <| et n6 ?_
    rfl
   ·rw [hc]
    refine et d6 <| kr ⟨[(1, (u5 a1)), (2, (Pt 2)), (6, (I (-1)))], [(2, vS 4 (b7 a0))], 41⟩ rfl <| et b6 <| kra [(7, (I 0))] rfl <| et (i9 rfl) <| et p8 ?_
    refine W4 k a0 a1 _ _ ?h_ref14_Check_L1_0 ?hr_ref14_Check_L1 k (-1) 0
    ·intro y17 y18
     refine et j5 <| kr ⟨[(4, (Sr ([32, 32] : Str))), (5, (I 0))], [], 41⟩ rfl <| et i1 ?_
     rfl
    ·intro s; exact rfl
def V5 : ((List Int) × Int) → V × List V := fun r => (.tup [(sI r.1), (I r.2)], [])
theorem lD (k : Nat) (a0 : a8) (a1 : (List b8))  (K0 : (List Int) → Int → Option ((List Int) × Int)) (Kst : X × St → Option (V × List V)) (hK0 : ∀ (y0 : (List Int)) (y1 : Int), Kst (X.exit 0, ⟨[(1, (u5 a1)), (2, (Pt 2)), (8, (V.sl 1 1 (List.map I y0))), (9, (I y1)), (30, (Bo false))], [(2, vS 4 (b7 a0))], 48⟩) = (K0 y0 y1).map V5) (hret : ∀ s, Kst (X.ret, s) = F6 prog 48 [(b7 a0), (u5 a1)] [] [.tmp 4, .tmp 5] (X.ret, s)) :
  ∀ (m : Nat) (x9 : (List Int)) (x10 : Int), (D1 (u1 prog (EV k) BC k yx) m ⟨[(1, (u5 a1)), (2, (Pt 2)), (8, (V.sl 1 1 (List.map I x9))), (9, (I x10))], [(2, vS 4 (b7 a0))], 48⟩).bind Kst = (bz k a0 a1 K0 m x9 x10).map V5 := by
 intro m
 induction m with
 | zero => intros; rfl
 | succ m ih =>
  intro x9 x10
  unfold bz
  refine et l9 <| et b6 <| krp yv rfl ⟨[(1, (u5 a1)), (2, (Pt 2)), (8, (V.sl 1 1 (List.map I x9))), (9, (I x10)), (30, (Bo (decide (x10 < (a1.length : Int)))))], [(2, vS 4 (b7 a0))], 48⟩ ?_ ?_
  ·exact rd 2 [(27, (I x10)), (28, (u5 a1))] rfl rfl <| rl rfl (n7 (e := j4) rfl rfl rfl rfl rfl rfl underlying31) <| b5 rfl
  refine kc rfl rfl (fun hc => ?_) fun hc => ?_
  ·rw [hc]
   exact et d6 <| et (i9 rfl) <| kd ue rfl (fun (o13 : Int) => ⟨[(1, (u5 a1)), (2, (Pt 2)), (8, (V.sl 1 1 (List.map I x9))), (9, (I x10)), (10, (I o13))], [(2, vS 4 (b7 a0))], 48⟩) (et (j2 (p := 12) (dk := true) (t := [(1, (u5 a1)), (2, (Pt 2)), (8, (V.sl 1 1 (List.map I x9))), (9, (I x10)), (30, (Bo true))]) (σ := [(2, vS 4 (b7 a0))]) (n := 48) rfl (by decide) (by decide) rfl) <| et (j9 (m := 3) (j := 3) (t' := [(1, (u5 a1)), (2, (Pt 2)), (8, (V.sl 1 1 (List.map I x9))), (9, (I x10)), (30, (Bo true)), (34, (b7 a0)), (35, (u5 a1)), (36, (I x10))]) rfl rfl rfl) <| et (c9 (x := (idx a1 x10)) (w := fun v11 => (Pr (j4 v11))) rfl rfl rfl rfl rfl (i2 (e := j4) rfl rfl rfl underlying31 rfl (by decide))) <| j6 fun v11 => et (i7 (m := 2) (j := 6) (t' := [(1, (u5 a1)), (2, (Pt 2)), (8, (V.sl 1 1 (List.map I x9))), (9, (I x10)), (30, (Bo true)), (34, (b7 a0)), (35, (u5 a1)), (36, (I x10)), (37, (Pr (j4 v11))), (38, (Pr (Sr v11.fSegment))), (39, (Sr v11.fSegment))]) rfl rfl rfl) <| et (c9 (x := (M6 k a0 v11.fSegment)) (w := fun v12 => (V.tup [(I v12.1), (I v12.2)])) rfl rfl rfl rfl rfl (d7 rfl rfl rfl rfl rfl (ct k a0 v11.fSegment) (.inl rfl))) <| j6 fun v12 => j8 rfl) fun o13 => kgl ua rfl (fun (o15 : (List Int)) => ⟨[(1, (u5 a1)), (2, (Pt 2)), (8, (V.sl 1 1 (List.map I o15))), (9, (I x10))], [(2, vS 4 (b7 a0))], 48⟩) (ra 3 3 ⟨[(1, (u5 a1)), (2, (Pt 2)), (8, (sI x9)), (9, (I x10)), (10, (I o13)), (43, (V.sl 1 1 (List.map I x9))), (44, (I o13)), (45, (sI (([o13] : List Int))))], [(2, vS 4 (b7 a0))], 48⟩ rfl rfl rfl <| et (P4 (x := (app x9 ([o13] : List Int))) (w := fun v14 => ((V.sl 1 1 (List.map I v14)), _)) rfl rfl rfl rfl (nx (e := I) rfl rfl rfl rfl rfl rfl rfl rfl rfl rfl (by decide))) <| B7 fun v14 => b5 rfl) fun o15 => et i6 <| kl ⟨[(1, (u5 a1)), (2, (Pt 2)), (8, (V.sl 1 1 (List.map I o15))), (9, (I (Go.IntKind.wrap .i64 (x10 + 1))))], [(2, vS 4 (b7 a0))], 48⟩ rfl <| et i3 <| ih o15 (Go.IntKind.wrap .i64 (x10 + 1))
  ·rw [hc]
   exact et p7 <| et j3 <| hK0 x9 x10
theorem W5 (k : Nat) (a0 : a8) (a1 : (List b8))  (K0 : (List Int) → Int → Option ((List Int) × Int)) (Kst : X × St → Option (V × List V)) (hK0 : ∀ (y0 : (List Int)) (y1 : Int), Kst (X.exit 0, ⟨[(1, (u5 a1)), (2, (Pt 2)), (8, (V.sl 1 1 (List.map I y0))), (9, (I y1)), (30, (Bo false))], [(2, vS 4 (b7 a0))], 48⟩) = (K0 y0 y1).map V5) (hret : ∀ s, Kst (X.ret, s) = F6 prog 48 [(b7 a0), (u5 a1)] [] [.tmp 4, .tmp 5] (X.ret, s)) :
  ∀ (m : Nat) (x23 : (List Int)) (x24 : Int), (D1 (u1 prog (EV k) BC k yx) m ⟨[(1, (u5 a1)), (2, (Pt 2)), (8, (V.sl 1 1 (List.map I x23))), (9, (I x24))], [(2, vS 4 (b7 a0))], 48⟩).bind Kst = (M9 k a0 a1 K0 m x23 x24).map V5 := by
 intro m
 induction m with
 | zero => intros; rfl
 | succ m ih =>
  intro x23 x24
  unfold M9
  refine et l9 <| et b6 <| krp yv rfl ⟨[(1, (u5 a1)), (2, (Pt 2)), (8, (V.sl 1 1 (List.map I x23))), (9, (I x24)), (30, (Bo (decide (x24 < (a1.length : Int)))))], [(2, vS 4 (b7 a0))], 48⟩ ?_ ?_
  ·exact rd 2 [(27, (I x24)), (28, (u5 a1))] rfl rfl <| rl rfl (n7 (e := j4) rfl rfl rfl rfl rfl rfl underlying31) <| b5 rfl
  refine kc rfl rfl (fun hc => ?_) fun hc => ?_
  ·rw [hc]
   exact et d6 <| et (i9 rfl) <| kd ue rfl (fun (o27 : Int) => ⟨[(1, (u5 a1)), (2, (Pt 2)), (8, (V.sl 1 1 (List.map I x23))), (9, (I x24)), (10, (I o27))], [(2, vS 4 (b7 a0))], 48⟩) (et (j2 (p := 12) (dk := true) (t := [(1, (u5 a1)), (2, (Pt 2)), (8, (V.sl 1 1 (List.map I x23))), (9, (I x24)), (30, (Bo true))]) (σ := [(2, vS 4 (b7 a0))]) (n := 48) rfl (by decide) (by decide) rfl) <| et (j9 (m := 3) (j := 3) (t' := [(1, (u5 a1)), (2, (Pt 2)), (8, (V.sl 1 1 (List.map I x23))), (9, (I x24)), (30, (Bo true)), (34, (b7 a0)), (35, (u5 a1)), (36, (I x24))]) rfl rfl rfl) <| et (c9 (x := (idx a1 x24)) (w := fun v25 => (Pr (j4 v25))) rfl rfl rfl rfl rfl (i2 (e := j4) rfl rfl rfl underlying31 rfl (by decide))) <| j6 fun v25 => et (i7 (m := 2) (j := 6) (t' := [(1, (u5 a1)), (2, (Pt 2)), (8, (V.sl 1 1 (List.map I x23))), (9, (I x24)), (30, (Bo true)), (34, (b7 a0)), (35, (u5 a1)), (36, (I x24)), (37, (Pr (j4 v25))), (38, (Pr (Sr v25.fSegment))), (39, (Sr v25.fSegment))]) rfl rfl rfl) <| et (c9 (x := (M6 k a0 v25.fSegment)) (w := fun v26 => (V.tup [(I v26.1), (I v26.2)])) rfl rfl rfl rfl rfl (d7 rfl rfl rfl rfl rfl (ct k a0 v25.fSegment) (.inl rfl))) <| j6 fun v26 => j8 rfl) fun o27 => kgl ua rfl (fun (o29 : (List Int)) => ⟨[(1, (u5 a1)), (2, (Pt 2)), (8, (V.sl 1 1 (List.map I o29))), (9, (I x24))], [(2, vS 4 (b7 a0))], 48⟩) (ra 3 3 ⟨[(1, (u5 a1)), (2, (Pt 2)), (8, (sI x23)), (9, (I x24)), (10, (I o27)), (43, (V.sl 1 1 (List.map I x23))), (44, (I o27)), (45, (sI (([o27] : List Int))))], [(2, vS 4 (b7 a0))], 48⟩ rfl rfl rfl <| et (P4 (x := (app x23 ([o27] : List Int))) (w := fun v28 => ((V.sl 1 1 (List.map I v28)), _)) rfl rfl rfl rfl (nx (e := I) rfl rfl rfl rfl rfl rfl rfl rfl rfl rfl (by decide))) <| B7 fun v28 => b5 rfl) fun o29 => et i6 <| kl ⟨[(1, (u5 a1)), (2, (Pt 2)), (8, (V.sl 1 1 (List.map I o29))), (9, (I (Go.IntKind.wrap .i64 (x24 + 1))))], [(2, vS 4 (b7 a0))], 48⟩ rfl <| et i3 <| ih o29 (Go.IntKind.wrap .i64 (x24 + 1))
  ·rw [hc]
   exact et p7 <| et j3 <| hK0 x23 x24
theorem eo (k : Nat) (a0 : a8) (a1 : (List b8)) : EV k 25 [(b7 a0), (u5 a1)] = (cS k a0 a1).map V5 := by
 cases k with
 | zero => rfl
 | succ k =>
  unfold cS
  refine et (i5 (c := f25c) (N := 48) (regs := BC) rfl func25 rfl (by decide) rfl rfl rfl) <| kr ⟨[(1, (u5 a1)), (2, (Pt 2))], [(2, vS 4 (b7 a0))], 48⟩ rfl <| kga FB rfl (fun (o2 : Str × Int) => [(6, (Sr o2.1)), (7, (I o2.2))]) (rd 2 [(13, (b7 a0)), (14, (u5 a1))] rfl rfl <| rp rfl (d7 rfl rfl rfl rfl rfl (eD k a0 a1) (.inl rfl)) fun v1 => b5 rfl) fun o2 => et b6 <| kg Dq rfl (fun (o3 : Bool) => ⟨[(1, (u5 a1)), (2, (Pt 2)), (7, (I o2.2)), (23, (Bo o3))], [(2, vS 4 (b7 a0))], 48⟩) ?_ fun o3 => ?_
  ·refine rd 3 [(18, (I o2.2)), (19, (Bo (o2.2 == 0))), (20, (Bo (o2.2 == 0)))] rfl rfl <| n5 (fun hc => ?_) fun hc => ?_
   ·rw [hc]
    exact d5 rfl
   ·rw [hc]
    exact d5 rfl
  refine kc rfl rfl (fun hc => ?_) fun hc => ?_
  ·rw [hc]
   refine kr ⟨[(1, (u5 a1)), (2, (Pt 2)), (7, (I 2))], [(2, vS 4 (b7 a0))], 48⟩ rfl <| et b6 <| kra [(25, (Bo ((2 : Int) != 0)))] rfl <| kc rfl rfl (fun hc => ?_) fun hc => ?_
   ·rw [hc]
    refine et b6 <| kr ⟨[(4, (sI (([] : List Int)))), (5, (I 2))], [], 48⟩ rfl <| et n6 ?_
    rfl
   ·rw [hc]
    refine et d6 <| kr ⟨[(1, (u5 a1)), (2, (Pt 2)), (8, (V.sl 1 1 (List.map I ([] : List Int))))], [(2, vS 4 (b7 a0))], 48⟩ rfl <| et b6 <| kra [(9, (I 0))] rfl <| et (i9 rfl) <| et p8 ?_
    refine lD k a0 a1 _ _ ?h_ref14_Types_L1_0 ?hr_ref14_Types_L1 k ([] : List Int) 0
    ·intro y16 y17
     refine et j5 <| kr ⟨[(4, (sI y16)), (5, (I 0))], [], 48⟩ rfl <| et i1 ?_
     rfl
    ·intro s; exact rfl
  ·rw [hc]
   refine et d6 <| et b6 <| kr ⟨[(1, (u5 a1)), (2, (Pt 2)), (7, (I o2.2)), (25, (Bo (o2.2 != 0)))], [(2, vS 4 (b7 a0))], 48⟩ rfl <| kc rfl rfl (fun hc => ?_) fun hc => ?_
   ·rw [hc]
    refine et b6 <| kr ⟨[(4, (sI (([] : List Int)))), (5, (I o2.2))], [], 48⟩ rfl <| et n6 ?_
    rfl
   ·rw [hc]
    refine et d6 <| kr ⟨[(1, (u5 a1)), (2, (Pt 2)), (8, (V.sl 1 1 (List.map I ([] : List Int))))], [(2, vS 4 (b7 a0))], 48⟩ rfl <| et b6 <| kra [(9, (I 0))] rfl <| et (i9 rfl) <| et p8 ?_
    refine W5 k a0 a1 _ _ ?h_ref14_Types_L2_0 ?hr_ref14_Types_L2 k ([] : List Int) 0
    ·intro y30 y31
     refine et j5 <| kr ⟨[(4, (sI y30)), (5, (I 0))], [], 48⟩ rfl <| et i1 ?_
     rfl
    ·intro s; exact rfl
def bO : Str → V × List V := fun r => ((Sr r), [])
theorem kJ (k : Nat) (a0 : Str)  (K0 : Str → Option Str) (Kst : X × St → Option (V × List V)) (hK0 : ∀ (y0 : Str), Kst (X.exit 0, ⟨[(0, (Sr y0)), (5, (Bo false))], [], 9⟩) = (K0 y0).map bO) (hret : ∀ s, Kst (X.ret, s) = F6 prog 9 [(Sr a0)] [] [.tmp 2] (X.ret, s)) :
  ∀ (m : Nat) (x3 : Str), (D1 (u1 prog (EV k) Lt k Ez) m ⟨[(0, (Sr x3))], [], 9⟩).bind Kst = (J0 K0 m x3).map bO := by
 intro m
 induction m with
 | zero => intros; rfl
 | succ m ih =>
  intro x3
  unfold J0
  refine et l9 <| et b6 <| kra [(5, (Bo (decide ((x3.length : Int) < 8))))] rfl <| kc rfl rfl (fun hc => ?_) fun hc => ?_
  ·rw [hc]
   exact et d6 <| et (G7 rfl) <| kgl EG rfl (fun (o5 : Str) => ⟨[(0, (Sr o5))], [], 9⟩) (rd 1 [(6, (Sr x3))] rfl rfl <| rs rfl (E9 rfl rfl rfl) fun v4 => b5 rfl) fun o5 => et i6 <| et m9 <| et i3 <| ih o5
  ·rw [hc]
   exact et p7 <| et j3 <| hK0 x3
theorem w4 (k : Nat) (a0 : Str) : EV k 26 [(Sr a0)] = (A7 k a0).map bO := by
 cases k with
 | zero => rfl
 | succ k =>
  unfold A7
  refine et (i5 (c := f26c) (N := 9) (regs := Lt) rfl func26 rfl (by decide) rfl rfl rfl) <| kra [] rfl <| et (i9 rfl) <| et p8 ?_
  refine kJ k a0 _ _ ?h_ref12_Padded_L1_0 ?hr_ref12_Padded_L1 k a0
  ·intro y6
   refine et j5 <| kr ⟨[(2, (Sr y6))], [], 9⟩ rfl <| et i1 ?_
   rfl
  ·intro s; exact rfl
def nV : Int → V × List V := fun r => ((I r), [])
theorem eT (k : Nat) (a0 : a8) (a1 : Int) (a2 : (List (List a6))) (a3 : (List (List a6))) : EV k 48 [(b7 a0), (I a1), (V.sl 0 1 (List.map a7 a2)), (V.sl 0 1 (List.map a7 a3))] = (cE k a0 a1 a2 a3).map nV := by
 cases k with
 | zero => rfl
 | succ k =>
  unfold cE
  refine et (i5 (c := f48c) (N := 30) (regs := TG) rfl func48 rfl (by decide) rfl rfl rfl) <| kr ⟨[(1, (I a1)), (2, (V.sl 0 1 (List.map a7 a2))), (3, (V.sl 0 1 (List.map a7 a3))), (4, (Pt 4))], [(4, vS 4 (b7 a0))], 30⟩ rfl <| kga EO rfl (fun (o2 : Int) => [(9, (I o2))]) (rd 2 [(10, (b7 a0)), (11, (I a1))] rfl rfl <| rs rfl (d7 rfl rfl rfl rfl rfl (V0 k a0 a1) (.inl rfl)) fun v1 => b5 rfl) fun o2 => et b6 <| kg FH rfl (fun (o5 : Bool) => ⟨[(9, (I o2)), (28, (Bo o5))], [], 30⟩) ?_ fun o5 => ?_
  ·refine rd 3 [(13, (I o2)), (14, (Bo (o2 == 0))), (15, (Bo (o2 == 0)))] rfl rfl <| n5 (fun hc => ?_) fun hc => ?_
   ·rw [hc]
    refine rd 6 [(16, (b7 a0)), (17, (I a1)), (18, (V.sl 0 1 (List.map a7 a2)))] rfl rfl <| rp rfl (d7 rfl rfl rfl rfl rfl (w6 k a0 a1 a2) (.inl rfl)) fun v3 => bd 9 [(19, (Bo v3)), (20, (Bo (!v3))), (21, (Bo (!v3)))] rfl rfl <| n5 (fun hc => ?_) fun hc => ?_
    ·rw [hc]
     exact d5 rfl
    ·rw [hc]
     exact rd 12 [(22, (b7 a0)), (23, (I a1)), (24, (V.sl 0 1 (List.map a7 a3)))] rfl rfl <| rp rfl (d7 rfl rfl rfl rfl rfl (w6 k a0 a1 a3) (.inl rfl)) fun v4 => b5 rfl
   ·rw [hc]
    exact d5 rfl
  refine kc rfl rfl (fun hc => ?_) fun hc => ?_
  ·rw [hc]
   refine kr ⟨[(9, (I 110))], [], 30⟩ rfl <| kr ⟨[(8, (I 110))], [], 30⟩ rfl <| et i1 ?_
   rfl
  ·rw [hc]
   refine et d6 <| kr ⟨[(8, (I o2))], [], 30⟩ rfl <| et i1 ?_
   rfl
def pP : Str → V × List V := fun r => ((Sr r), [])
theorem H6 (k : Nat) (a0 : Int) : EV k 79 [(I a0)] = (H4 k a0).map pP := by
 cases k with
 | zero => rfl
 | succ k =>
  unfold H4
  refine et (i5 (c := f79c) (N := 14) (regs := acM) rfl func79 rfl (by decide) rfl rfl rfl) <| kra [] rfl <| et b6 <| kr ⟨[(3, (I a0))], [], 14⟩ rfl <| et (i9 rfl) <| kra [(4, (Bo (a0 == 1)))] rfl <| kcl rfl rfl (fun hc => ?_) fun hc => ?_
  ·rw [hc]
   refine kr ⟨[(2, (Sr ([61, 32] : Str)))], [], 14⟩ rfl <| et i1 <| et l6 ?_
   rfl
  ·rw [hc]
   refine kr ⟨[(3, (I a0)), (6, (Bo (a0 == 2)))], [], 14⟩ rfl <| kcl rfl rfl (fun hc => ?_) fun hc => ?_
   ·rw [hc]
    refine kr ⟨[(2, (Sr ([60, 62] : Str)))], [], 14⟩ rfl <| et i1 <| et l6 ?_
    rfl
   ·rw [hc]
    refine kr ⟨[(3, (I a0)), (8, (Bo (a0 == 3)))], [], 14⟩ rfl <| kcl rfl rfl (fun hc => ?_) fun hc => ?_
    ·rw [hc]
     refine kr ⟨[(2, (Sr ([60, 32] : Str)))], [], 14⟩ rfl <| et i1 <| et l6 ?_
     rfl
    ·rw [hc]
     refine kr ⟨[(3, (I a0)), (10, (Bo (a0 == 4)))], [], 14⟩ rfl <| kcl rfl rfl (fun hc => ?_) fun hc => ?_
     ·rw [hc]
      refine kr ⟨[(2, (Sr ([60, 61] : Str)))], [], 14⟩ rfl <| et i1 <| et l6 ?_
      rfl
     ·rw [hc]
      refine kr ⟨[(12, (Bo (a0 == 5)))], [], 14⟩ rfl <| kcl rfl rfl (fun hc => ?_) fun hc => ?_
      ·rw [hc]
       refine kr ⟨[(2, (Sr ([62, 32] : Str)))], [], 14⟩ rfl <| et i1 <| et l6 ?_
       rfl
      ·rw [hc]
       refine et m9 <| et i6 <| kr ⟨[(2, (Sr ([62, 61] : Str)))], [], 14⟩ rfl <| et i1 ?_
       rfl
def H2 : Str → V × List V := fun r => ((Sr r), [])
theorem kK (k : Nat) (a0 : (List (List a6))) (x124 : Int)  (K0 : Str → Int → Option Str) (Kst : X × St → Option (V × List V)) (hK0 : ∀ (y0 : Str) (y1 : Int), Kst (X.exit 2, ⟨[(0, (V.sl 0 1 (List.map a7 a0))), (3, (Sr y0)), (4, (I x124)), (5, (I y1)), (22, (Bo false))], [], 60⟩) = (K0 y0 y1).map H2) (hret : ∀ s, Kst (X.ret, s) = F6 prog 60 [(V.sl 0 1 (List.map a7 a0))] [] [.tmp 2] (X.ret, s)) :
  ∀ (m : Nat) (x155 : Str) (x156 : Int), (D1 (u1 prog (EV k) yC k xi) m ⟨[(0, (V.sl 0 1 (List.map a7 a0))), (3, (Sr x155)), (4, (I x124)), (5, (I x156))], [], 60⟩).bind Kst = (u9 k a0 x124 K0 m x155 x156).map H2 := by
 intro m
 induction m with
 | zero => intros; rfl
 | succ m ih =>
  intro x155 x156
  unfold u9
  refine et l9 <| et b6 <| kga xz rfl (fun (o158 : Bool) => [(22, (Bo o158))]) (rd 3 [(16, (I x156)), (17, (V.sl 0 1 (List.map a7 a0))), (18, (I x124))] rfl rfl <| rp rfl (i2 (e := a7) rfl rfl rfl underlying26 rfl (by decide)) fun v157 => bd 5 [(19, (Pr (a7 v157))), (20, (a7 v157))] rfl rfl <| rl rfl (n7 (e := d4) rfl rfl rfl rfl rfl rfl underlying56) <| b5 rfl) fun o158 => kc rfl rfl (fun hc => ?_) fun hc => ?_
  ·rw [hc]
   refine et d6 <| et (i9 rfl) <| et b6 <| kr ⟨[(0, (V.sl 0 1 (List.map a7 a0))), (3, (Sr x155)), (4, (I x124)), (5, (I x156)), (26, (Bo (decide (x156 > 0))))], [], 60⟩ rfl <| kc rfl rfl (fun hc => ?_) fun hc => ?_
   ·rw [hc]
    refine kg uZ rfl (fun (o160 : Str) => ⟨[(0, (V.sl 0 1 (List.map a7 a0))), (3, (Sr o160)), (4, (I x124)), (5, (I x156))], [], 60⟩) (rd 1 [(27, (Sr x155))] rfl rfl <| rs rfl (E9 rfl rfl rfl) fun v159 => b5 rfl) fun o160 => kdl oY rfl (fun (o172 : Str) => ⟨[(0, (V.sl 0 1 (List.map a7 a0))), (3, (Sr o172)), (4, (I x124)), (5, (I x156))], [], 60⟩) ?_ fun o172 => ?_
    ·refine et (j2 (p := 30) (dk := true) (t := [(0, (V.sl 0 1 (List.map a7 a0))), (3, (Sr o160)), (4, (I x124)), (5, (I x156))]) (σ := []) (n := 60) rfl (by decide) (by decide) rfl) <| et (j9 (m := 3) (j := 3) (t' := [(0, (V.sl 0 1 (List.map a7 a0))), (3, (Sr o160)), (4, (I x124)), (5, (I x156)), (29, (Sr o160)), (30, (V.sl 0 1 (List.map a7 a0))), (31, (I x124))]) rfl rfl rfl) <| et (c9 (x := (idx a0 x124)) (w := fun v161 => (Pr (a7 v161))) rfl rfl rfl rfl rfl (i2 (e := a7) rfl rfl rfl underlying26 rfl (by decide))) <| j6 fun v161 => et (i7 (m := 2) (j := 6) (t' := [(0, (V.sl 0 1 (List.map a7 a0))), (3, (Sr o160)), (4, (I x124)), (5, (I x156)), (29, (Sr o160)), (30, (V.sl 0 1 (List.map a7 a0))), (31, (I x124)), (32, (Pr (a7 v161))), (33, (a7 v161)), (34, (I x156))]) rfl rfl rfl) <| et (c9 (x := (idx v161 x156)) (w := fun v162 => (Pr (d4 v162))) rfl rfl rfl rfl rfl (i2 (e := d4) rfl rfl rfl underlying56 rfl (by decide))) <| j6 fun v162 => et (i7 (m := 2) (j := 9) (t' := [(0, (V.sl 0 1 (List.map a7 a0))), (3, (Sr o160)), (4, (I x124)), (5, (I x156)), (29, (Sr o160)), (30, (V.sl 0 1 (List.map a7 a0))), (31, (I x124)), (32, (Pr (a7 v161))), (33, (a7 v161)), (34, (I x156)), (35, (Pr (d4 v162))), (36, (Pr (Sr v162.fField))), (37, (Sr v162.fField))]) rfl rfl rfl) <| et (c9 (x := (A7 k v162.fField)) (w := fun v163 => (Sr v163)) rfl rfl rfl rfl rfl (d7 rfl rfl rfl rfl rfl (w4 k v162.fField) (.inl rfl))) <| j6 fun v163 => et (i7 (m := 2) (j := 12) (t' := [(0, (V.sl 0 1 (List.map a7 a0))), (3, (Sr o160)), (4, (I x124)), (5, (I x156)), (29, (Sr o160)), (30, (V.sl 0 1 (List.map a7 a0))), (31, (I x124)), (32, (Pr (a7 v161))), (33, (a7 v161)), (34, (I x156)), (35, (Pr (d4 v162))), (36, (Pr (Sr v162.fField))), (37, (Sr v162.fField)), (38, (Sr v163)), (39, (V.sl 0 1 (List.map a7 a0))), (40, (I x124))]) rfl rfl rfl) <| et (c9 (x := (idx a0 x124)) (w := fun v164 => (Pr (a7 v164))) rfl rfl rfl rfl rfl (i2 (e := a7) rfl rfl rfl underlying26 rfl (by decide))) <| j6 fun v164 => et (i7 (m := 2) (j := 15) (t' := [(0, (V.sl 0 1 (List.map a7 a0))), (3, (Sr o160)), (4, (I x124)), (5, (I x156)), (29, (Sr o160)), (30, (V.sl 0 1 (List.map a7 a0))), (31, (I x124)), (32, (Pr (a7 v161))), (33, (a7 v161)), (34, (I x156)), (35, (Pr (d4 v162))), (36, (Pr (Sr v162.fField))), (37, (Sr v162.fField)), (38, (Sr v163)), (39, (V.sl 0 1 (List.map a7 a0))), (40, (I x124)), (41, (Pr (a7 v164))), (42, (a7 v164)), (43, (I x156))]) rfl rfl rfl) <| et (c9 (x := (idx v164 x156)) (w := fun v165 => (Pr (d4 v165))) rfl rfl rfl rfl rfl (i2 (e := d4) rfl rfl rfl underlying56 rfl (by decide))) <| j6 fun v165 => et (i7 (m := 2) (j := 18) (t' := [(0, (V.sl 0 1 (List.map a7 a0))), (3, (Sr o160)), (4, (I x124)), (5, (I x156)), (29, (Sr o160)), (30, (V.sl 0 1 (List.map a7 a0))), (31, (I x124)), (32, (Pr (a7 v161))), (33, (a7 v161)), (34, (I x156)), (35, (Pr (d4 v162))), (36, (Pr (Sr v162.fField))), (37, (Sr v162.fField)), (38, (Sr v163)), (39, (V.sl 0 1 (List.map a7 a0))), (40, (I x124)), (41, (Pr (a7 v164))), (42, (a7 v164)), (43, (I x156)), (44, (Pr (d4 v165))), (45, (Pr (I v165.fOp))), (46, (I v165.fOp))]) rfl rfl rfl) <| et (c9 (x := (H4 k v165.fOp)) (w := fun v166 => (Sr v166)) rfl rfl rfl rfl rfl (d7 rfl rfl rfl rfl rfl (H6 k v165.fOp) (.inl rfl))) <| j6 fun v166 => et (i7 (m := 0) (j := 19) (t' := [(0, (V.sl 0 1 (List.map a7 a0))), (3, (Sr o160)), (4, (I x124)), (5, (I x156)), (29, (Sr o160)), (30, (V.sl 0 1 (List.map a7 a0))), (31, (I x124)), (32, (Pr (a7 v161))), (33, (a7 v161)), (34, (I x156)), (35, (Pr (d4 v162))), (36, (Pr (Sr v162.fField))), (37, (Sr v162.fField)), (38, (Sr v163)), (39, (V.sl 0 1 (List.map a7 a0))), (40, (I x124)), (41, (Pr (a7 v164))), (42, (a7 v164)), (43, (I x156)), (44, (Pr (d4 v165))), (45, (Pr (I v165.fOp))), (46, (I v165.fOp)), (47, (Sr v166))]) rfl rfl rfl) <| et (c9 (x := (cat v163 v166)) (w := fun v167 => (Sr v167)) rfl rfl rfl rfl rfl (E9 rfl rfl rfl)) <| j6 fun v167 => et (i7 (m := 2) (j := 22) (t' := [(0, (V.sl 0 1 (List.map a7 a0))), (3, (Sr o160)), (4, (I x124)), (5, (I x156)), (29, (Sr o160)), (30, (V.sl 0 1 (List.map a7 a0))), (31, (I x124)), (32, (Pr (a7 v161))), (33, (a7 v161)), (34, (I x156)), (35, (Pr (d4 v162))), (36, (Pr (Sr v162.fField))), (37, (Sr v162.fField)), (38, (Sr v163)), (39, (V.sl 0 1 (List.map a7 a0))), (40, (I x124)), (41, (Pr (a7 v164))), (42, (a7 v164)), (43, (I x156)), (44, (Pr (d4 v165))), (45, (Pr (I v165.fOp))), (46, (I v165.fOp)), (47, (Sr v166)), (48, (Sr v167)), (49, (V.sl 0 1 (List.map a7 a0))), (50, (I x124))]) rfl rfl rfl) <| et (c9 (x := (idx a0 x124)) (w := fun v168 => (Pr (a7 v168))) rfl rfl rfl rfl rfl (i2 (e := a7) rfl rfl rfl underlying26 rfl (by decide))) <| j6 fun v168 => et (i7 (m := 2) (j := 25) (t' := [(0, (V.sl 0 1 (List.map a7 a0))), (3, (Sr o160)), (4, (I x124)), (5, (I x156)), (29, (Sr o160)), (30, (V.sl 0 1 (List.map a7 a0))), (31, (I x124)), (32, (Pr (a7 v161))), (33, (a7 v161)), (34, (I x156)), (35, (Pr (d4 v162))), (36, (Pr (Sr v162.fField))), (37, (Sr v162.fField)), (38, (Sr v163)), (39, (V.sl 0 1 (List.map a7 a0))), (40, (I x124)), (41, (Pr (a7 v164))), (42, (a7 v164)), (43, (I x156)), (44, (Pr (d4 v165))), (45, (Pr (I v165.fOp))), (46, (I v165.fOp)), (47, (Sr v166)), (48, (Sr v167)), (49, (V.sl 0 1 (List.map a7 a0))), (50, (I x124)), (51, (Pr (a7 v168))), (52, (a7 v168)), (53, (I x156))]) rfl rfl rfl) <| et (c9 (x := (idx v168 x156)) (w := fun v169 => (Pr (d4 v169))) rfl rfl rfl rfl rfl (i2 (e := d4) rfl rfl rfl underlying56 rfl (by decide))) <| j6 fun v169 => et (i7 (m := 2) (j := 28) (t' := [(0, (V.sl 0 1 (List.map a7 a0))), (3, (Sr o160)), (4, (I x124)), (5, (I x156)), (29, (Sr o160)), (30, (V.sl 0 1 (List.map a7 a0))), (31, (I x124)), (32, (Pr (a7 v161))), (33, (a7 v161)), (34, (I x156)), (35, (Pr (d4 v162))), (36, (Pr (Sr v162.fField))), (37, (Sr v162.fField)), (38, (Sr v163)), (39, (V.sl 0 1 (List.map a7 a0))), (40, (I x124)), (41, (Pr (a7 v164))), (42, (a7 v164)), (43, (I x156)), (44, (Pr (d4 v165))), (45, (Pr (I v165.fOp))), (46, (I v165.fOp)), (47, (Sr v166)), (48, (Sr v167)), (49, (V.sl 0 1 (List.map a7 a0))), (50, (I x124)), (51, (Pr (a7 v168))), (52, (a7 v168)), (53, (I x156)), (54, (Pr (d4 v169))), (55, (Pr (Sr v169.fValue))), (56, (Sr v169.fValue))]) rfl rfl rfl) <| et (c9 (x := (cat v167 v169.fValue)) (w := fun v170 => (Sr v170)) rfl rfl rfl rfl rfl (E9 rfl rfl rfl)) <| j6 fun v170 => et (i7 (m := 0) (j := 29) (t' := [(0, (V.sl 0 1 (List.map a7 a0))), (3, (Sr o160)), (4, (I x124)), (5, (I x156)), (29, (Sr o160)), (30, (V.sl 0 1 (List.map a7 a0))), (31, (I x124)), (32, (Pr (a7 v161))), (33, (a7 v161)), (34, (I x156)), (35, (Pr (d4 v162))), (36, (Pr (Sr v162.fField))), (37, (Sr v162.fField)), (38, (Sr v163)), (39, (V.sl 0 1 (List.map a7 a0))), (40, (I x124)), (41, (Pr (a7 v164))), (42, (a7 v164)), (43, (I x156)), (44, (Pr (d4 v165))), (45, (Pr (I v165.fOp))), (46, (I v165.fOp)), (47, (Sr v166)), (48, (Sr v167)), (49, (V.sl 0 1 (List.map a7 a0))), (50, (I x124)), (51, (Pr (a7 v168))), (52, (a7 v168)), (53, (I x156)), (54, (Pr (d4 v169))), (55, (Pr (Sr v169.fValue))), (56, (Sr v169.fValue)), (57, (Sr v170))]) rfl rfl rfl) ?_
     exact et (c9 (x := (cat o160 v170)) (w := fun v171 => (Sr v171)) rfl rfl rfl rfl rfl (E9 rfl rfl rfl)) <| B7 fun v171 => j8 rfl
    exact et i6 <| kl ⟨[(0, (V.sl 0 1 (List.map a7 a0))), (3, (Sr o172)), (4, (I x124)), (5, (I (Go.IntKind.wrap .i64 (x156 + 1))))], [], 60⟩ rfl <| et i3 <| ih o172 (Go.IntKind.wrap .i64 (x156 + 1))
   ·rw [hc]
    refine et d6 <| kdl oY rfl (fun (o184 : Str) => ⟨[(0, (V.sl 0 1 (List.map a7 a0))), (3, (Sr o184)), (4, (I x124)), (5, (I x156))], [], 60⟩) ?_ fun o184 => ?_
    ·refine et (j2 (p := 30) (dk := true) (t := [(0, (V.sl 0 1 (List.map a7 a0))), (3, (Sr x155)), (4, (I x124)), (5, (I x156)), (26, (Bo false))]) (σ := []) (n := 60) rfl (by decide) (by decide) rfl) <| et (j9 (m := 3) (j := 3) (t' := [(0, (V.sl 0 1 (List.map a7 a0))), (3, (Sr x155)), (4, (I x124)), (5, (I x156)), (26, (Bo false)), (29, (Sr x155)), (30, (V.sl 0 1 (List.map a7 a0))), (31, (I x124))]) rfl rfl rfl) <| et (c9 (x := (idx a0 x124)) (w := fun v173 => (Pr (a7 v173))) rfl rfl rfl rfl rfl (i2 (e := a7) rfl rfl rfl underlying26 rfl (by decide))) <| j6 fun v173 => et (i7 (m := 2) (j := 6) (t' := [(0, (V.sl 0 1 (List.map a7 a0))), (3, (Sr x155)), (4, (I x124)), (5, (I x156)), (26, (Bo false)), (29, (Sr x155)), (30, (V.sl 0 1 (List.map a7 a0))), (31, (I x124)), (32, (Pr (a7 v173))), (33, (a7 v173)), (34, (I x156))]) rfl rfl rfl) <| et (c9 (x := (idx v173 x156)) (w := fun v174 => (Pr (d4 v174))) rfl rfl rfl rfl rfl (i2 (e := d4) rfl rfl rfl underlying56 rfl (by decide))) <| j6 fun v174 => et (i7 (m := 2) (j := 9) (t' := [(0, (V.sl 0 1 (List.map a7 a0))), (3, (Sr x155)), (4, (I x124)), (5, (I x156)), (26, (Bo false)), (29, (Sr x155)), (30, (V.sl 0 1 (List.map a7 a0))), (31, (I x124)), (32, (Pr (a7 v173))), (33, (a7 v173)), (34, (I x156)), (35, (Pr (d4 v174))), (36, (Pr (Sr v174.fField))), (37, (Sr v174.fField))]) rfl rfl rfl) <| et (c9 (x := (A7 k v174.fField)) (w := fun v175 => (Sr v175)) rfl rfl rfl rfl rfl (d7 rfl rfl rfl rfl rfl (w4 k v174.fField) (.inl rfl))) <| j6 fun v175 => et (i7 (m := 2) (j := 12) (t' := [(0, (V.sl 0 1 (List.map a7 a0))), (3, (Sr x155)), (4, (I x124)), (5, (I x156)), (26, (Bo false)), (29, (Sr x155)), (30, (V.sl 0 1 (List.map a7 a0))), (31, (I x124)), (32, (Pr (a7 v173))), (33, (a7 v173)), (34, (I x156)), (35, (Pr (d4 v174))), (36, (Pr (Sr v174.fField))), (37, (Sr v174.fField)), (38, (Sr v175)), (39, (V.sl 0 1 (List.map a7 a0))), (40, (I x124))]) rfl rfl rfl) <| et (c9 (x := (idx a0 x124)) (w := fun v176 => (Pr (a7 v176))) rfl rfl rfl rfl rfl (i2 (e := a7) rfl rfl rfl underlying26 rfl (by decide))) <| j6 fun v176 => et (i7 (m := 2) (j := 15) (t' := [(0, (V.sl 0 1 (List.map a7 a0))), (3, (Sr x155)), (4, (I x124)), (5, (I x156)), (26, (Bo false)), (29, (Sr x155)), (30, (V.sl 0 1 (List.map a7 a0))), (31, (I x124)), (32, (Pr (a7 v173))), (33, (a7 v173)), (34, (I x156)), (35, (Pr (d4 v174))), (36, (Pr (Sr v174.fField))), (37, (Sr v174.fField)), (38, (Sr v175)), (39, (V.sl 0 1 (List.map a7 a0))), (40, (I x124)), (41, (Pr (a7 v176))), (42, (a7 v176)), (43, (I x156))]) rfl rfl rfl) <| et (c9 (x := (idx v176 x156)) (w := fun v177 => (Pr (d4 v177))) rfl rfl rfl rfl rfl (i2 (e := d4) rfl rfl rfl underlying56 rfl (by decide))) <| j6 fun v177 => et (i7 (m := 2) (j := 18) (t' := [(0, (V.sl 0 1 (List.map a7 a0))), (3, (Sr x155)), (4, (I x124)), (5, (I x156)), (26, (Bo false)), (29, (Sr x155)), (30, (V.sl 0 1 (List.map a7 a0))), (31, (I x124)), (32, (Pr (a7 v173))), (33, (a7 v173)), (34, (I x156)), (35, (Pr (d4 v174))), (36, (Pr (Sr v174.fField))), (37, (Sr v174.fField)), (38, (Sr v175)), (39, (V.sl 0 1 (List.map a7 a0))), (40, (I x124)), (41, (Pr (a7 v176))), (42, (a7 v176)), (43, (I x156)), (44, (Pr (d4 v177))), (45, (Pr (I v177.fOp))), (46, (I v177.fOp))]) rfl rfl rfl) <| et (c9 (x := (H4 k v177.fOp)) (w := fun v178 => (Sr v178)) rfl rfl rfl rfl rfl (d7 rfl rfl rfl rfl rfl (H6 k v177.fOp) (.inl rfl))) <| j6 fun v178 => et (i7 (m := 0) (j := 19) (t' := [(0, (V.sl 0 1 (List.map a7 a0))), (3, (Sr x155)), (4, (I x124)), (5, (I x156)), (26, (Bo false)), (29, (Sr x155)), (30, (V.sl 0 1 (List.map a7 a0))), (31, (I x124)), (32, (Pr (a7 v173))), (33, (a7 v173)), (34, (I x156)), (35, (Pr (d4 v174))), (36, (Pr (Sr v174.fField))), (37, (Sr v174.fField)), (38, (Sr v175)), (39, (V.sl 0 1 (List.map a7 a0))), (40, (I x124)), (41, (Pr (a7 v176))), (42, (a7 v176)), (43, (I x156)), (44, (Pr (d4 v177))), (45, (Pr (I v177.fOp))), (46, (I v177.fOp)), (47, (Sr v178))]) rfl rfl rfl) <| et (c9 (x := (cat v175 v178)) (w := fun v179 => (Sr v179)) rfl rfl rfl rfl rfl (E9 rfl rfl rfl)) <| j6 fun v179 => et (i7 (m := 2) (j := 22) (t' := [(0, (V.sl 0 1 (List.map a7 a0))), (3, (Sr x155)), (4, (I x124)), (5, (I x156)), (26, (Bo false)), (29, (Sr x155)), (30, (V.sl 0 1 (List.map a7 a0))), (31, (I x124)), (32, (Pr (a7 v173))), (33, (a7 v173)), (34, (I x156)), (35, (Pr (d4 v174))), (36, (Pr (Sr v174.fField))), (37, (Sr v174.fField)), (38, (Sr v175)), (39, (V.sl 0 1 (List.map a7 a0))), (40, (I x124)), (41, (Pr (a7 v176))), (42, (a7 v176)), (43, (I x156)), (44, (Pr (d4 v177))), (45, (Pr (I v177.fOp))), (46, (I v177.fOp)), (47, (Sr v178)), (48, (Sr v179)), (49, (V.sl 0 1 (List.map a7 a0))), (50, (I x124))]) rfl rfl rfl) <| et (c9 (x := (idx a0 x124)) (w := fun v180 => (Pr (a7 v180))) rfl rfl rfl rfl rfl (i2 (e := a7) rfl rfl rfl underlying26 rfl (by decide))) <| j6 fun v180 => et (i7 (m := 2) (j := 25) (t' := [(0, (V.sl 0 1 (List.map a7 a0))), (3, (Sr x155)), (4, (I x124)), (5, (I x156)), (26, (Bo false)), (29, (Sr x155)), (30, (V.sl 0 1 (List.map a7 a0))), (31, (I x124)), (32, (Pr (a7 v173))), (33, (a7 v173)), (34, (I x156)), (35, (Pr (d4 v174))), (36, (Pr (Sr v174.fField))), (37, (Sr v174.fField)), (38, (Sr v175)), (39, (V.sl 0 1 (List.map a7 a0))), (40, (I x124)), (41, (Pr (a7 v176))), (42, (a7 v176)), (43, (I x156)), (44, (Pr (d4 v177))), (45, (Pr (I v177.fOp))), (46, (I v177.fOp)), (47, (Sr v178)), (48, (Sr v179)), (49, (V.sl 0 1 (List.map a7 a0))), (50, (I x124)), (51, (Pr (a7 v180))), (52, (a7 v180)), (53, (I x156))]) rfl rfl rfl) <| et (c9 (x := (idx v180 x156)) (w := fun v181 => (Pr (d4 v181))) rfl rfl rfl rfl rfl (i2 (e := d4) rfl rfl rfl underlying56 rfl (by decide))) <| j6 fun v181 => et (i7 (m := 2) (j := 28) (t' := [(0, (V.sl 0 1 (List.map a7 a0))), (3, (Sr x155)), (4, (I x124)), (5, (I x156)), (26, (Bo false)), (29, (Sr x155)), (30, (V.sl 0 1 (List.map a7 a0))), (31, (I x124)), (32, (Pr (a7 v173))), (33, (a7 v173)), (34, (I x156)), (35, (Pr (d4 v174))), (36, (Pr (Sr v174.fField))), (37, (Sr v174.fField)), (38, (Sr v175)), (39, (V.sl 0 1 (List.map a7 a0))), (40, (I x124)), (41, (Pr (a7 v176))), (42, (a7 v176)), (43, (I x156)), (44, (Pr (d4 v177))), (45, (Pr (I v177.fOp))), (46, (I v177.fOp)), (47, (Sr v178)), (48, (Sr v179)), (49, (V.sl 0 1 (List.map a7 a0))), (50, (I x124)), (51, (Pr (a7 v180))), (52, (a7 v180)), (53, (I x156)), (54, (Pr (d4 v181))), (55, (Pr (Sr v181.fValue))), (56, (Sr v181.fValue))]) rfl rfl rfl) <| et (c9 (x := (cat v179 v181.fValue)) (w := fun v182 => (Sr v182)) rfl rfl rfl rfl rfl (E9 rfl rfl rfl)) <| j6 fun v182 => et (i7 (m := 0) (j := 29) (t' := [(0, (V.sl 0 1 (List.map a7 a0))), (3, (Sr x155)), (4, (I x124)), (5, (I x156)), (26, (Bo false)), (29, (Sr x155)), (30, (V.sl 0 1 (List.map a7 a0))), (31, (I x124)), (32, (Pr (a7 v173))), (33, (a7 v173)), (34, (I x156)), (35, (Pr (d4 v174))), (36, (Pr (Sr v174.fField))), (37, (Sr v174.fField)), (38, (Sr v175)), (39, (V.sl 0 1 (List.map a7 a0))), (40, (I x124)), (41, (Pr (a7 v176))), (42, (a7 v176)), (43, (I x156)), (44, (Pr (d4 v177))), (45, (Pr (I v177.fOp))), (46, (I v177.fOp)), (47, (Sr v178)), (48, (Sr v179)), (49, (V.sl 0 1 (List.map a7 a0))), (50, (I x124)), (51, (Pr (a7 v180))), (52, (a7 v180)), (53, (I x156)), (54, (Pr (d4 v181))), (55, (Pr (Sr v181.fValue))), (56, (Sr v181.fValue)), (57, (Sr v182))]) rfl rfl rfl) ?_
     exact et (c9 (x := (cat x155 v182)) (w := fun v183 => (Sr v183)) rfl rfl rfl rfl rfl (E9 rfl rfl rfl)) <| B7 fun v183 => j8 rfl
    exact et i6 <| kl ⟨[(0, (V.sl 0 1 (List.map a7 a0))), (3, (Sr o184)), (4, (I x124)), (5, (I (Go.IntKind.wrap .i64 (x156 + 1))))], [], 60⟩ rfl <| et i3 <| ih o184 (Go.IntKind.wrap .i64 (x156 + 1))
  ·rw [hc]
   exact et p7 <| et j3 <| hK0 x155 x156
theorem kF (k : Nat) (a0 : (List (List a6))) (x124 : Int)  (K0 : Str → Int → Option Str) (Kst : X × St → Option (V × List V)) (hK0 : ∀ (y0 : Str) (y1 : Int), Kst (X.exit 2, ⟨[(0, (V.sl 0 1 (List.map a7 a0))), (3, (Sr y0)), (4, (I x124)), (5, (I y1)), (22, (Bo false))], [], 60⟩) = (K0 y0 y1).map H2) (hret : ∀ s, Kst (X.ret, s) = F6 prog 60 [(V.sl 0 1 (List.map a7 a0))] [] [.tmp 2] (X.ret, s)) :
  ∀ (m : Nat) (x215 : Str) (x216 : Int), (D1 (u1 prog (EV k) yC k xi) m ⟨[(0, (V.sl 0 1 (List.map a7 a0))), (3, (Sr x215)), (4, (I x124)), (5, (I x216))], [], 60⟩).bind Kst = (I9 k a0 x124 K0 m x215 x216).map H2 := by
 intro m
 induction m with
 | zero => intros; rfl
 | succ m ih =>
  intro x215 x216
  unfold I9
  refine et l9 <| et b6 <| kga xz rfl (fun (o218 : Bool) => [(22, (Bo o218))]) (rd 3 [(16, (I x216)), (17, (V.sl 0 1 (List.map a7 a0))), (18, (I x124))] rfl rfl <| rp rfl (i2 (e := a7) rfl rfl rfl underlying26 rfl (by decide)) fun v217 => bd 5 [(19, (Pr (a7 v217))), (20, (a7 v217))] rfl rfl <| rl rfl (n7 (e := d4) rfl rfl rfl rfl rfl rfl underlying56) <| b5 rfl) fun o218 => kc rfl rfl (fun hc => ?_) fun hc => ?_
  ·rw [hc]
   refine et d6 <| et (i9 rfl) <| et b6 <| kr ⟨[(0, (V.sl 0 1 (List.map a7 a0))), (3, (Sr x215)), (4, (I x124)), (5, (I x216)), (26, (Bo (decide (x216 > 0))))], [], 60⟩ rfl <| kc rfl rfl (fun hc => ?_) fun hc => ?_
   ·rw [hc]
    refine kg uZ rfl (fun (o220 : Str) => ⟨[(0, (V.sl 0 1 (List.map a7 a0))), (3, (Sr o220)), (4, (I x124)), (5, (I x216))], [], 60⟩) (rd 1 [(27, (Sr x215))] rfl rfl <| rs rfl (E9 rfl rfl rfl) fun v219 => b5 rfl) fun o220 => kdl oY rfl (fun (o232 : Str) => ⟨[(0, (V.sl 0 1 (List.map a7 a0))), (3, (Sr o232)), (4, (I x124)), (5, (I x216))], [], 60⟩) ?_ fun o232 => ?_
    ·refine et (j2 (p := 30) (dk := true) (t := [(0, (V.sl 0 1 (List.map a7 a0))), (3, (Sr o220)), (4, (I x124)), (5, (I x216))]) (σ := []) (n := 60) rfl (by decide) (by decide) rfl) <| et (j9 (m := 3) (j := 3) (t' := [(0, (V.sl 0 1 (List.map a7 a0))), (3, (Sr o220)), (4, (I x124)), (5, (I x216)), (29, (Sr o220)), (30, (V.sl 0 1 (List.map a7 a0))), (31, (I x124))]) rfl rfl rfl) <| et (c9 (x := (idx a0 x124)) (w := fun v221 => (Pr (a7 v221))) rfl rfl rfl rfl rfl (i2 (e := a7) rfl rfl rfl underlying26 rfl (by decide))) <| j6 fun v221 => et (i7 (m := 2) (j := 6) (t' := [(0, (V.sl 0 1 (List.map a7 a0))), (3, (Sr o220)), (4, (I x124)), (5, (I x216)), (29, (Sr o220)), (30, (V.sl 0 1 (List.map a7 a0))), (31, (I x124)), (32, (Pr (a7 v221))), (33, (a7 v221)), (34, (I x216))]) rfl rfl rfl) <| et (c9 (x := (idx v221 x216)) (w := fun v222 => (Pr (d4 v222))) rfl rfl rfl rfl rfl (i2 (e := d4) rfl rfl rfl underlying56 rfl (by decide))) <| j6 fun v222 => et (i7 (m := 2) (j := 9) (t' := [(0, (V.sl 0 1 (List.map a7 a0))), (3, (Sr o220)), (4, (I x124)), (5, (I x216)), (29, (Sr o220)), (30, (V.sl 0 1 (List.map a7 a0))), (31, (I x124)), (32, (Pr (a7 v221))), (33, (a7 v221)), (34, (I x216)), (35, (Pr (d4 v222))), (36, (Pr (Sr v222.fField))), (37, (Sr v222.fField))]) rfl rfl rfl) <| et (c9 (x := (A7 k v222.fField)) (w := fun v223 => (Sr v223)) rfl rfl rfl rfl rfl (d7 rfl rfl rfl rfl rfl (w4 k v222.fField) (.inl rfl))) <| j6 fun v223 => et (i7 (m := 2) (j := 12) (t' := [(0, (V.sl 0 1 (List.map a7 a0))), (3, (Sr o220)), (4, (I x124)), (5, (I x216)), (29, (Sr o220)), (30, (V.sl 0 1 (List.map a7 a0))), (31, (I x124)), (32, (Pr (a7 v221))), (33, (a7 v221)), (34, (I x216)), (35, (Pr (d4 v222))), (36, (Pr (Sr v222.fField))), (37, (Sr v222.fField)), (38, (Sr v223)), (39, (V.sl 0 1 (List.map a7 a0))), (40, (I x124))]) rfl rfl rfl) <| et (c9 (x := (idx a0 x124)) (w := fun v224 => (Pr (a7 v224))) rfl rfl rfl rfl rfl (i2 (e := a7) rfl rfl rfl underlying26 rfl (by decide))) <| j6 fun v224 => et (i7 (m := 2) (j := 15) (t' := [(0, (V.sl 0 1 (List.map a7 a0))), (3, (Sr o220)), (4, (I x124)), (5, (I x216)), (29, (Sr o220)), (30, (V.sl 0 1 (List.map a7 a0))), (31, (I x124)), (32, (Pr (a7 v221))), (33, (a7 v221)), (34, (I x216)), (35, (Pr (d4 v222))), (36, (Pr (Sr v222.fField))), (37, (Sr v222.fField)), (38, (Sr v223)), (39, (V.sl 0 1 (List.map a7 a0))), (40, (I x124)), (41, (Pr (a7 v224))), (42, (a7 v224)), (43, (I x216))]) rfl rfl rfl) <| et (c9 (x := (idx v224 x216)) (w := fun v225 => (Pr (d4 v225))) rfl rfl rfl rfl rfl (i2 (e := d4) rfl rfl rfl underlying56 rfl (by decide))) <| j6 fun v225 => et (i7 (m := 2) (j := 18) (t' := [(0, (V.sl 0 1 (List.map a7 a0))), (3, (Sr o220)), (4, (I x124)), (5, (I x216)), (29, (Sr o220)), (30, (V.sl 0 1 (List.map a7 a0))), (31, (I x124)), (32, (Pr (a7 v221))), (33, (a7 v221)), (34, (I x216)), (35, (Pr (d4 v222))), (36, (Pr (Sr v222.fField))), (37, (Sr v222.fField)), (38, (Sr v223)), (39, (V.sl 0 1 (List.map a7 a0))), (40, (I x124)), (41, (Pr (a7 v224))), (42, (a7 v224)), (43, (I x216)), (44, (Pr (d4 v225))), (45, (Pr (I v225.fOp))), (46, (I v225.fOp))]) rfl rfl rfl) <| et (c9 (x := (H4 k v225.fOp)) (w := fun v226 => (Sr v226)) rfl rfl rfl rfl rfl (d7 rfl rfl rfl rfl rfl (H6 k v225.fOp) (.inl rfl))) <| j6 fun v226 => et (i7 (m := 0) (j := 19) (t' := [(0, (V.sl 0 1 (List.map a7 a0))), (3, (Sr o220)), (4, (I x124)), (5, (I x216)), (29, (Sr o220)), (30, (V.sl 0 1 (List.map a7 a0))), (31, (I x124)), (32, (Pr (a7 v221))), (33, (a7 v221)), (34, (I x216)), (35, (Pr (d4 v222))), (36, (Pr (Sr v222.fField))), (37, (Sr v222.fField)), (38, (Sr v223)), (39, (V.sl 0 1 (List.map a7 a0))), (40, (I x124)), (41, (Pr (a7 v224))), (42, (a7 v224)), (43, (I x216)), (44, (Pr (d4 v225))), (45, (Pr (I v225.fOp))), (46, (I v225.fOp)), (47, (Sr v226))]) rfl rfl rfl) <| et (c9 (x := (cat v223 v226)) (w := fun v227 => (Sr v227)) rfl rfl rfl rfl rfl (E9 rfl rfl rfl)) <| j6 fun v227 => et (i7 (m := 2) (j := 22) (t' := [(0, (V.sl 0 1 (List.map a7 a0))), (3, (Sr o220)), (4, (I x124)), (5, (I x216)), (29, (Sr o220)), (30, (V.sl 0 1 (List.map a7 a0))), (31, (I x124)), (32, (Pr (a7 v221))), (33, (a7 v221)), (34, (I x216)), (35, (Pr (d4 v222))), (36, (Pr (Sr v222.fField))), (37, (Sr v222.fField)), (38, (Sr v223)), (39, (V.sl 0 1 (List.map a7 a0))), (40, (I x124)), (41, (Pr (a7 v224))), (42, (a7 v224)), (43, (I x216)), (44, (Pr (d4 v225))), (45, (Pr (I v225.fOp))), (46, (I v225.fOp)), (47, (Sr v226)), (48, (Sr v227)), (49, (V.sl 0 1 (List.map a7 a0))), (50, (I x124))]) rfl rfl rfl) <| et (c9 (x := (idx a0 x124)) (w := fun v228 => (Pr (a7 v228))) rfl rfl rfl rfl rfl (i2 (e := a7) rfl rfl rfl underlying26 rfl (by decide))) <| j6 fun v228 => et (i7 (m := 2) (j := 25) (t' := [(0, (V.sl 0 1 (List.map a7 a0))), (3, (Sr o220)), (4, (I x124)), (5, (I x216)), (29, (Sr o220)), (30, (V.sl 0 1 (List.map a7 a0))), (31, (I x124)), (32, (Pr (a7 v221))), (33, (a7 v221)), (34, (I x216)), (35, (Pr (d4 v222))), (36, (Pr (Sr v222.fField))), (37, (Sr v222.fField)), (38, (Sr v223)), (39, (V.sl 0 1 (List.map a7 a0))), (40, (I x124)), (41, (Pr (a7 v224))), (42, (a7 v224)), (43, (I x216)), (44, (Pr (d4 v225))), (45, (Pr (I v225.fOp))), (46, (I v225.fOp)), (47, (Sr v226)), (48, (Sr v227)), (49, (V.sl 0 1 (List.map a7 a0))), (50, (I x124)), (51, (Pr (a7 v228))), (52, (a7 v228)), (53, (I x216))]) rfl rfl rfl) <| et (c9 (x := (idx v228 x216)) (w := fun v229 => (Pr (d4 v229))) rfl rfl rfl rfl rfl (i2 (e := d4) rfl rfl rfl underlying56 rfl (by decide))) <| j6 fun v229 => et (i7 (m := 2) (j := 28) (t' := [(0, (V.sl 0 1 (List.map a7 a0))), (3, (Sr o220)), (4, (I x124)), (5, (I x216)), (29, (Sr o220)), (30, (V.sl 0 1 (List.map a7 a0))), (31, (I x124)), (32, (Pr (a7 v221))), (33, (a7 v221)), (34, (I x216)), (35, (Pr (d4 v222))), (36, (Pr (Sr v222.fField))), (37, (Sr v222.fField)), (38, (Sr v223)), (39, (V.sl 0 1 (List.map a7 a0))), (40, (I x124)), (41, (Pr (a7 v224))), (42, (a7 v224)), (43, (I x216)), (44, (Pr (d4 v225))), (45, (Pr (I v225.fOp))), (46, (I v225.fOp)), (47, (Sr v226)), (48, (Sr v227)), (49, (V.sl 0 1 (List.map a7 a0))), (50, (I x124)), (51, (Pr (a7 v228))), (52, (a7 v228)), (53, (I x216)), (54, (Pr (d4 v229))), (55, (Pr (Sr v229.fValue))), (56, (Sr v229.fValue))]) rfl rfl rfl) <| et (c9 (x := (cat v227 v229.fValue)) (w := fun v230 => (Sr v230)) rfl rfl rfl rfl rfl (E9 rfl rfl rfl)) <| j6 fun v230 => et (i7 (m := 0) (j := 29) (t' := [(0, (V.sl 0 1 (List.map a7 a0))), (3, (Sr o220)), (4, (I x124)), (5, (I x216)), (29, (Sr o220)), (30, (V.sl 0 1 (List.map a7 a0))), (31, (I x124)), (32, (Pr (a7 v221))), (33, (a7 v221)), (34, (I x216)), (35, (Pr (d4 v222))), (36, (Pr (Sr v222.fField))), (37, (Sr v222.fField)), (38, (Sr v223)), (39, (V.sl 0 1 (List.map a7 a0))), (40, (I x124)), (41, (Pr (a7 v224))), (42, (a7 v224)), (43, (I x216)), (44, (Pr (d4 v225))), (45, (Pr (I v225.fOp))), (46, (I v225.fOp)), (47, (Sr v226)), (48, (Sr v227)), (49, (V.sl 0 1 (List.map a7 a0))), (50, (I x124)), (51, (Pr (a7 v228))), (52, (a7 v228)), (53, (I x216)), (54, (Pr (d4 v229))), (55, (Pr (Sr v229.fValue))), (56, (Sr v229.fValue)), (57, (Sr v230))]) rfl rfl rfl) ?_
     exact et (c9 (x := (cat o220 v230)) (w := fun v231 => (Sr v231)) rfl rfl rfl rfl rfl (E9 rfl rfl rfl)) <| B7 fun v231 => j8 rfl
    exact et i6 <| kl ⟨[(0, (V.sl 0 1 (List.map a7 a0))), (3, (Sr o232)), (4, (I x124)), (5, (I (Go.IntKind.wrap .i64 (x216 + 1))))], [], 60⟩ rfl <| et i3 <| ih o232 (Go.IntKind.wrap .i64 (x216 + 1))
   ·rw [hc]
    refine et d6 <| kdl oY rfl (fun (o244 : Str) => ⟨[(0, (V.sl 0 1 (List.map a7 a0))), (3, (Sr o244)), (4, (I x124)), (5, (I x216))], [], 60⟩) ?_ fun o244 => ?_
    ·refine et (j2 (p := 30) (dk := true) (t := [(0, (V.sl 0 1 (List.map a7 a0))), (3, (Sr x215)), (4, (I x124)), (5, (I x216)), (26, (Bo false))]) (σ := []) (n := 60) rfl (by decide) (by decide) rfl) <| et (j9 (m := 3) (j := 3) (t' := [(0, (V.sl 0 1 (List.map a7 a0))), (3, (Sr x215)), (4, (I x124)), (5, (I x216)), (26, (Bo false)), (29, (Sr x215)), (30, (V.sl 0 1 (List.map a7 a0))), (31, (I x124))]) rfl rfl rfl) <| et (c9 (x := (idx a0 x124)) (w := fun v233 => (Pr (a7 v233))) rfl rfl rfl rfl rfl (i2 (e := a7) rfl rfl rfl underlying26 rfl (by decide))) <| j6 fun v233 => et (i7 (m := 2) (j := 6) (t' := [(0, (V.sl 0 1 (List.map a7 a0))), (3, (Sr x215)), (4, (I x124)), (5, (I x216)), (26, (Bo false)), (29, (Sr x215)), (30, (V.sl 0 1 (List.map a7 a0))), (31, (I x124)), (32, (Pr (a7 v233))), (33, (a7 v233)), (34, (I x216))]) rfl rfl rfl) <| et (c9 (x := (idx v233 x216)) (w := fun v234 => (Pr (d4 v234))) rfl rfl rfl rfl rfl (i2 (e := d4) rfl rfl rfl underlying56 rfl (by decide))) <| j6 fun v234 => et (i7 (m := 2) (j := 9) (t' := [(0, (V.sl 0 1 (List.map a7 a0))), (3, (Sr x215)), (4, (I x124)), (5, (I x216)), (26, (Bo false)), (29, (Sr x215)), (30, (V.sl 0 1 (List.map a7 a0))), (31, (I x124)), (32, (Pr (a7 v233))), (33, (a7 v233)), (34, (I x216)), (35, (Pr (d4 v234))), (36, (Pr (Sr v234.fField))), (37, (Sr v234.fField))]) rfl rfl rfl) <| et (c9 (x := (A7 k v234.fField)) (w := fun v235 => (Sr v235)) rfl rfl rfl rfl rfl (d7 rfl rfl rfl rfl rfl (w4 k v234.fField) (.inl rfl))) <| j6 fun v235 => et (i7 (m := 2) (j := 12) (t' := [(0, (V.sl 0 1 (List.map a7 a0))), (3, (Sr x215)), (4, (I x124)), (5, (I x216)), (26, (Bo false)), (29, (Sr x215)), (30, (V.sl 0 1 (List.map a7 a0))), (31, (I x124)), (32, (Pr (a7 v233))), (33, (a7 v233)), (34, (I x216)), (35, (Pr (d4 v234))), (36, (Pr (Sr v234.fField))), (37, (Sr v234.fField)), (38, (Sr v235)), (39, (V.sl 0 1 (List.map a7 a0))), (40, (I x124))]) rfl rfl rfl) <| et (c9 (x := (idx a0 x124)) (w := fun v236 => (Pr (a7 v236))) rfl rfl rfl rfl rfl (i2 (e := a7) rfl rfl rfl underlying26 rfl (by decide))) <| j6 fun v236 => et (i7 (m := 2) (j := 15) (t' := [(0, (V.sl 0 1 (List.map a7 a0))), (3, (Sr x215)), (4, (I x124)), (5, (I x216)), (26, (Bo false)), (29, (Sr x215)), (30, (V.sl 0 1 (List.map a7 a0))), (31, (I x124)), (32, (Pr (a7 v233))), (33, (a7 v233)), (34, (I x216)), (35, (Pr (d4 v234))), (36, (Pr (Sr v234.fField))), (37, (Sr v234.fField)), (38, (Sr v235)), (39, (V.sl 0 1 (List.map a7 a0))), (40, (I x124)), (41, (Pr (a7 v236))), (42, (a7 v236)), (43, (I x216))]) rfl rfl rfl) <| et (c9 (x := (idx v236 x216)) (w := fun v237 => (Pr (d4 v237))) rfl rfl rfl rfl rfl (i2 (e := d4) rfl rfl rfl underlying56 rfl (by decide))) <| j6 fun v237 => et (i7 (m := 2) (j := 18) (t' := [(0, (V.sl 0 1 (List.map a7 a0))), (3, (Sr x215)), (4, (I x124)), (5, (I x216)), (26, (Bo false)), (29, (Sr x215)), (30, (V.sl 0 1 (List.map a7 a0))), (31, (I x124)), (32, (Pr (a7 v233))), (33, (a7 v233)), (34, (I x216)), (35, (Pr (d4 v234))), (36, (Pr (Sr v234.fField))), (37, (Sr v234.fField)), (38, (Sr v235)), (39, (V.sl 0 1 (List.map a7 a0))), (40, (I x124)), (41, (Pr (a7 v236))), (42, (a7 v236)), (43, (I x216)), (44, (Pr (d4 v237))), (45, (Pr (I v237.fOp))), (46, (I v237.fOp))]) rfl rfl rfl) <| et (c9 (x := (H4 k v237.fOp)) (w := fun v238 => (Sr v238)) rfl rfl rfl rfl rfl (d7 rfl rfl rfl rfl rfl (H6 k v237.fOp) (.inl rfl))) <| j6 fun v238 => et (i7 (m := 0) (j := 19) (t' := [(0, (V.sl 0 1 (List.map a7 a0))), (3, (Sr x215)), (4, (I x124)), (5, (I x216)), (26, (Bo false)), (29, (Sr x215)), (30, (V.sl 0 1 (List.map a7 a0))), (31, (I x124)), (32, (Pr (a7 v233))), (33, (a7 v233)), (34, (I x216)), (35, (Pr (d4 v234))), (36, (Pr (Sr v234.fField))), (37, (Sr v234.fField)), (38, (Sr v235)), (39, (V.sl 0 1 (List.map a7 a0))), (40, (I x124)), (41, (Pr (a7 v236))), (42, (a7 v236)), (43, (I x216)), (44, (Pr (d4 v237))), (45, (Pr (I v237.fOp))), (46, (I v237.fOp)), (47, (Sr v238))]) rfl rfl rfl) <| et (c9 (x := (cat v235 v238)) (w := fun v239 => (Sr v239)) rfl rfl rfl rfl rfl (E9 rfl rfl rfl)) <| j6 fun v239 => et (i7 (m := 2) (j := 22) (t' := [(0, (V.sl 0 1 (List.map a7 a0))), (3, (Sr x215)), (4, (I x124)), (5, (I x216)), (26, (Bo false)), (29, (Sr x215)), (30, (V.sl 0 1 (List.map a7 a0))), (31, (I x124)), (32, (Pr (a7 v233))), (33, (a7 v233)), (34, (I x216)), (35, (Pr (d4 v234))), (36, (Pr (Sr v234.fField))), (37, (Sr v234.fField)), (38, (Sr v235)), (39, (V.sl 0 1 (List.map a7 a0))), (40, (I x124)), (41, (Pr (a7 v236))), (42, (a7 v236)), (43, (I x216)), (44, (Pr (d4 v237))), (45, (Pr (I v237.fOp))), (46, (I v237.fOp)), (47, (Sr v238)), (48, (Sr v239)), (49, (V.sl 0 1 (List.map a7 a0))), (50, (I x124))]) rfl rfl rfl) <| et (c9 (x := (idx a0 x124)) (w := fun v240 => (Pr (a7 v240))) rfl rfl rfl rfl rfl (i2 (e := a7) rfl rfl rfl underlying26 rfl (by decide))) <| j6 fun v240 => et (i7 (m := 2) (j := 25) (t' := [(0, (V.sl 0 1 (List.map a7 a0))), (3, (Sr x215)), (4, (I x124)), (5, (I x216)), (26, (Bo false)), (29, (Sr x215)), (30, (V.sl 0 1 (List.map a7 a0))), (31, (I x124)), (32, (Pr (a7 v233))), (33, (a7 v233)), (34, (I x216)), (35, (Pr (d4 v234))), (36, (Pr (Sr v234.fField))), (37, (Sr v234.fField)), (38, (Sr v235)), (39, (V.sl 0 1 (List.map a7 a0))), (40, (I x124)), (41, (Pr (a7 v236))), (42, (a7 v236)), (43, (I x216)), (44, (Pr (d4 v237))), (45, (Pr (I v237.fOp))), (46, (I v237.fOp)), (47, (Sr v238)), (48, (Sr v239)), (49, (V.sl 0 1 (List.map a7 a0))), (50, (I x124)), (51, (Pr (a7 v240))), (52, (a7 v240)), (53, (I x216))]) rfl rfl rfl) <| et (c9 (x := (idx v240 x216)) (w := fun v241 => (Pr (d4 v241))) rfl rfl rfl rfl rfl (i2 (e := d4) rfl rfl rfl underlying56 rfl (by decide))) <| j6 fun v241 => et (i7 (m := 2) (j := 28) (t' := [(0, (V.sl 0 1 (List.map a7 a0))), (3, (Sr x215)), (4, (I x124)), (5, (I x216)), (26, (Bo false)), (29, (Sr x215)), (30, (V.sl 0 1 (List.map a7 a0))), (31, (I x124)), (32, (Pr (a7 v233))), (33, (a7 v233)), (34, (I x216)), (35, (Pr (d4 v234))), (36, (Pr (Sr v234.fField))), (37, (Sr v234.fField)), (38, (Sr v235)), (39, (V.sl 0 1 (List.map a7 a0))), (40, (I x124)), (41, (Pr (a7 v236))), (42, (a7 v236)), (43, (I x216)), (44, (Pr (d4 v237))), (45, (Pr (I v237.fOp))), (46, (I v237.fOp)), (47, (Sr v238)), (48, (Sr v239)), (49, (V.sl 0 1 (List.map a7 a0))), (50, (I x124)), (51, (Pr (a7 v240))), (52, (a7 v240)), (53, (I x216)), (54, (Pr (d4 v241))), (55, (Pr (Sr v241.fValue))), (56, (Sr v241.fValue))]) rfl rfl rfl) <| et (c9 (x := (cat v239 v241.fValue)) (w := fun v242 => (Sr v242)) rfl rfl rfl rfl rfl (E9 rfl rfl rfl)) <| j6 fun v242 => et (i7 (m := 0) (j := 29) (t' := [(0, (V.sl 0 1 (List.map a7 a0))), (3, (Sr x215)), (4, (I x124)), (5, (I x216)), (26, (Bo false)), (29, (Sr x215)), (30, (V.sl 0 1 (List.map a7 a0))), (31, (I x124)), (32, (Pr (a7 v233))), (33, (a7 v233)), (34, (I x216)), (35, (Pr (d4 v234))), (36, (Pr (Sr v234.fField))), (37, (Sr v234.fField)), (38, (Sr v235)), (39, (V.sl 0 1 (List.map a7 a0))), (40, (I x124)), (41, (Pr (a7 v236))), (42, (a7 v236)), (43, (I x216)), (44, (Pr (d4 v237))), (45, (Pr (I v237.fOp))), (46, (I v237.fOp)), (47, (Sr v238)), (48, (Sr v239)), (49, (V.sl 0 1 (List.map a7 a0))), (50, (I x124)), (51, (Pr (a7 v240))), (52, (a7 v240)), (53, (I x216)), (54, (Pr (d4 v241))), (55, (Pr (Sr v241.fValue))), (56, (Sr v241.fValue)), (57, (Sr v242))]) rfl rfl rfl) ?_
     exact et (c9 (x := (cat x215 v242)) (w := fun v243 => (Sr v243)) rfl rfl rfl rfl rfl (E9 rfl rfl rfl)) <| B7 fun v243 => j8 rfl
    exact et i6 <| kl ⟨[(0, (V.sl 0 1 (List.map a7 a0))), (3, (Sr o244)), (4, (I x124)), (5, (I (Go.IntKind.wrap .i64 (x216 + 1))))], [], 60⟩ rfl <| et i3 <| ih o244 (Go.IntKind.wrap .i64 (x216 + 1))
  ·rw [hc]
   exact et p7 <| et j3 <| hK0 x215 x216
theorem jR (k : Nat) (a0 : (List (List a6)))  (K0 : Str → Int → Option Str) (Kst : X × St → Option (V × List V)) (hK0 : ∀ (y0 : Str) (y1 : Int), Kst (X.exit 0, ⟨[(0, (V.sl 0 1 (List.map a7 a0))), (3, (Sr y0)), (4, (I y1)), (9, (Bo false))], [], 60⟩) = (K0 y0 y1).map H2) (hret : ∀ s, Kst (X.ret, s) = F6 prog 60 [(V.sl 0 1 (List.map a7 a0))] [] [.tmp 2] (X.ret, s)) :
  ∀ (m : Nat) (x123 : Str) (x124 : Int), (D1 (u1 prog (EV k) yC k CP) m ⟨[(0, (V.sl 0 1 (List.map a7 a0))), (3, (Sr x123)), (4, (I x124))], [], 60⟩).bind Kst = (A9 k a0 K0 m x123 x124).map H2 := by
 intro m
 induction m with
 | zero => intros; rfl
 | succ m ih =>
  intro x123 x124
  unfold A9
  refine et l9 <| et b6 <| krp Dg rfl ⟨[(0, (V.sl 0 1 (List.map a7 a0))), (3, (Sr x123)), (4, (I x124)), (9, (Bo (decide (x124 < (a0.length : Int)))))], [], 60⟩ ?_ ?_
  ·exact rd 2 [(6, (I x124)), (7, (V.sl 0 1 (List.map a7 a0)))] rfl rfl <| rl rfl (n7 (e := a7) rfl rfl rfl rfl rfl rfl underlying26) <| b5 rfl
  refine kc rfl rfl (fun hc => ?_) fun hc => ?_
  ·rw [hc]
   refine et d6 <| et (i9 rfl) <| et b6 <| kr ⟨[(0, (V.sl 0 1 (List.map a7 a0))), (3, (Sr x123)), (4, (I x124)), (13, (Bo (decide (x124 > 0))))], [], 60⟩ rfl <| kc rfl rfl (fun hc => ?_) fun hc => ?_
   ·rw [hc]
    refine kg BN rfl (fun (o126 : Str) => ⟨[(0, (V.sl 0 1 (List.map a7 a0))), (3, (Sr o126)), (4, (I x124))], [], 60⟩) (rd 1 [(14, (Sr x123))] rfl rfl <| rs rfl (E9 rfl rfl rfl) fun v125 => b5 rfl) fun o126 => kra [(5, (I 0))] rfl <| et (G7 rfl) <| et p8 ?_
    refine kK k a0 x124 _ _ ?h_ref12_format_L2_0 ?hr_ref12_format_L2 k o126 0
    ·intro y185 y186
     exact et j5 <| et m9 <| et i6 <| kl ⟨[(0, (V.sl 0 1 (List.map a7 a0))), (3, (Sr y185)), (4, (I (Go.IntKind.wrap .i64 (x124 + 1))))], [], 60⟩ rfl <| et i3 <| ih y185 (Go.IntKind.wrap .i64 (x124 + 1))
    ·intro s; exact hret s
   ·rw [hc]
    refine et d6 <| kr ⟨[(0, (V.sl 0 1 (List.map a7 a0))), (3, (Sr x123)), (4, (I x124)), (5, (I 0))], [], 60⟩ rfl <| et (G7 rfl) <| et p8 ?_
    refine kF k a0 x124 _ _ ?h_ref12_format_L3_0 ?hr_ref12_format_L3 k x123 0
    ·intro y245 y246
     exact et j5 <| et m9 <| et i6 <| kl ⟨[(0, (V.sl 0 1 (List.map a7 a0))), (3, (Sr y245)), (4, (I (Go.IntKind.wrap .i64 (x124 + 1))))], [], 60⟩ rfl <| et i3 <| ih y245 (Go.IntKind.wrap .i64 (x124 + 1))
    ·intro s; exact hret s
  ·rw [hc]
   exact et p7 <| et j3 <| hK0 x123 x124
theorem di (k : Nat) (a0 : (List (List a6))) : EV k 49 [(V.sl 0 1 (List.map a7 a0))] = (bB k a0).map H2 := by
 cases k with
 | zero => rfl
 | succ k =>
  unfold bB
  refine et (i5 (c := f49c) (N := 60) (regs := yC) rfl func49 rfl (by decide) rfl rfl rfl) <| kra [] rfl <| kra [(3, (Sr ([] : Str)))] rfl <| et b6 <| kra [(4, (I 0))] rfl <| et (i9 rfl) <| et p8 ?_
  refine jR k a0 _ _ ?h_ref12_format_L1_0 ?hr_ref12_format_L1 k ([] : Str) 0
  ·intro y247 y248
   refine et j5 <| kr ⟨[(2, (Sr y247))], [], 60⟩ rfl <| et i1 ?_
   rfl
  ·intro s; exact rfl
def nw : (Str × Int) → V × List V := fun r => (.tup [(Sr r.1), (I r.2)], [])
theorem im (k : Nat) (a0 : a8) (a1 : Int) (a2 : (List (List a6))) : EV k 27 [(b7 a0), (I a1), (V.sl 0 1 (List.map a7 a2))] = (K5 k a0 a1 a2).map nw := by
 cases k with
 | zero => rfl
 | succ k =>
  unfold K5
  refine et (i5 (c := f27c) (N := 18) (regs := Vi) rfl func27 rfl (by decide) rfl rfl rfl) <| kr ⟨[(1, (I a1)), (2, (V.sl 0 1 (List.map a7 a2))), (3, (Pt 3))], [(3, vS 4 (b7 a0))], 18⟩ rfl <| et b6 <| kg EF rfl (fun (o2 : Int) => ⟨[(2, (V.sl 0 1 (List.map a7 a2))), (8, (I o2))], [], 18⟩) (rd 3 [(9, (b7 a0)), (10, (I a1)), (11, (V.sl 0 1 (List.map a7 a2)))] rfl rfl <| rs rfl (d7 rfl rfl rfl rfl rfl (eT k a0 a1 a2 ([] : List (List a6))) (.inl rfl)) fun v1 => b5 rfl) fun o2 => et b6 <| kra [(14, (Bo (o2 != 0)))] rfl <| kc rfl rfl (fun hc => ?_) fun hc => ?_
  ·rw [hc]
   refine et b6 <| kr ⟨[(6, (Sr ([] : Str))), (7, (I o2))], [], 18⟩ rfl <| et n6 ?_
   rfl
  ·rw [hc]
   refine et d6 <| kg Cn rfl (fun (o4 : Str × Int) => ⟨[(6, (Sr o4.1)), (7, (I o4.2))], [], 18⟩) (rd 1 [(16, (V.sl 0 1 (List.map a7 a2)))] rfl rfl <| rp rfl (d7 rfl rfl rfl rfl rfl (di k a2) (.inl rfl)) fun v3 => b5 rfl) fun o4 => et i1 ?_
   rfl
def mL : (Str × Int) → V × List V := fun r => (.tup [(Sr r.1), (I r.2)], [])
theorem oj (k : Nat) (a0 : a8) (a1 : b8) : EV k 9 [(b7 a0), (j4 a1)] = (bs k a0 a1).map mL := by
 cases k with
 | zero => rfl
 | succ k =>
  unfold bs
  refine et (i5 (c := f9c) (N := 53) (regs := f9n) rfl func9 rfl (by decide) rfl rfl rfl) <| kr ⟨[(2, (Pt 2)), (3, (Pt 3))], [(2, vS 4 (b7 a0)), (3, vS 3 (j4 a1))], 53⟩ rfl <| kga PD rfl (fun (o2 : (List Int) × Int) => [(6, (sI o2.1)), (7, (I o2.2))]) (rd 3 [(12, (b7 a0)), (13, (j4 a1)), (14, (u5 (([a1] : List b8))))] rfl rfl <| rp rfl (d7 rfl rfl rfl rfl rfl (eo k a0 ([a1] : List b8)) (.inl rfl)) fun v1 => b5 rfl) fun o2 => et b6 <| kra [(19, (Bo (o2.2 != 0)))] rfl <| kc rfl rfl (fun hc => ?_) fun hc => ?_
  ·rw [hc]
   refine et b6 <| kr ⟨[(4, (Sr ([] : Str))), (5, (I o2.2))], [], 53⟩ rfl <| et n6 ?_
   rfl
  ·rw [hc]
   refine et d6 <| kg ada rfl (fun (o4 : Str) => ⟨[(2, (Pt 2)), (3, (Pt 3)), (6, (sI o2.1)), (8, (Sr o4))], [(2, vS 4 (b7 a0)), (3, vS 3 (j4 a1))], 53⟩) (rd 2 [(21, (Pt 3)), (22, (Sr a1.fSegment))] rfl rfl <| rs rfl (d7 rfl rfl rfl rfl rfl (w4 k a1.fSegment) (.inl rfl)) fun v3 => b5 rfl) fun o4 => et b6 <| kra [(26, (Bo (!(a1.fCodes == ([] : Str)))))] rfl <| kc rfl rfl (fun hc => ?_) fun hc => ?_
   ·rw [hc]
    refine kg Ut rfl (fun (o7 : Str) => ⟨[(2, (Pt 2)), (3, (Pt 3)), (6, (sI o2.1)), (8, (Sr o7))], [(2, vS 4 (b7 a0)), (3, vS 3 (j4 a1))], 53⟩) (rd 3 [(27, (Sr o4)), (28, (V.ptr 3 0 1)), (29, (Sr a1.fCodes))] rfl rfl <| rp rfl (E9 rfl rfl rfl) fun v5 => bd 4 [(30, (Sr v5))] rfl rfl <| rs rfl (E9 rfl rfl rfl) fun v6 => b5 rfl) fun o7 => et b6 <| krp Gh rfl ⟨[(2, (Pt 2)), (3, (Pt 3)), (6, (sI o2.1)), (8, (Sr o7)), (35, (Bo ((a1.fWhen.length : Int) == 0)))], [(2, vS 4 (b7 a0)), (3, vS 3 (j4 a1))], 53⟩ ?_ ?_
    ·exact rd 2 [(32, (V.ptr 3 0 2)), (33, (V.sl 0 1 (List.map a7 a1.fWhen)))] rfl rfl <| rl rfl (n7 (e := a7) rfl rfl rfl rfl rfl rfl underlying26) <| b5 rfl
    refine kc rfl rfl (fun hc => ?_) fun hc => ?_
    ·rw [hc]
     refine et b6 <| kg LU rfl (fun (o9 : Str × Int) => ⟨[(4, (Sr o9.1)), (5, (I o9.2))], [], 53⟩) (rd 1 [(36, (Sr o7))] rfl rfl <| rp rfl (E9 rfl rfl rfl) fun v8 => b5 rfl) fun o9 => et n6 ?_
     rfl
    ·rw [hc]
     refine et d6 <| kd GA rfl (fun (o12 : Str) => ⟨[(8, (Sr o7)), (9, (Sr o12))], [], 53⟩) (et (j2 (p := 12) (dk := true) (t := [(2, (Pt 2)), (3, (Pt 3)), (6, (sI o2.1)), (8, (Sr o7)), (35, (Bo false))]) (σ := [(2, vS 4 (b7 a0)), (3, vS 3 (j4 a1))]) (n := 53) rfl (by decide) (by decide) rfl) <| et (j9 (m := 2) (j := 2) (t' := [(2, (Pt 2)), (3, (Pt 3)), (6, (sI o2.1)), (8, (Sr o7)), (35, (Bo false)), (39, (b7 a0)), (40, (sI o2.1))]) rfl rfl rfl) <| et (c9 (x := (idx o2.1 0)) (w := fun v10 => (Pr (I v10))) rfl rfl rfl rfl rfl (i2 (e := I) rfl rfl rfl underlying58 rfl (by decide))) <| j6 fun v10 => et (i7 (m := 3) (j := 6) (t' := [(2, (Pt 2)), (3, (Pt 3)), (6, (sI o2.1)), (8, (Sr o7)), (35, (Bo false)), (39, (b7 a0)), (40, (sI o2.1)), (41, (Pr (I v10))), (42, (I v10)), (43, (V.ptr 3 0 2)), (44, (V.sl 0 1 (List.map a7 a1.fWhen)))]) rfl rfl rfl) <| et (c9 (x := (K5 k a0 v10 a1.fWhen)) (w := fun v11 => (V.tup [(Sr v11.1), (I v11.2)])) rfl rfl rfl rfl rfl (d7 rfl rfl rfl rfl rfl (im k a0 v10 a1.fWhen) (.inl rfl))) <| j6 fun v11 => j8 rfl) fun o12 => kg yw rfl (fun (o16 : Str × Int) => ⟨[(4, (Sr o16.1)), (5, (I o16.2))], [], 53⟩) (rd 1 [(48, (Sr o7))] rfl rfl <| rp rfl (E9 rfl rfl rfl) fun v13 => bd 3 [(49, (Sr v13)), (50, (Sr o12))] rfl rfl <| rp rfl (E9 rfl rfl rfl) fun v14 => bd 4 [(51, (Sr v14))] rfl rfl <| rp rfl (E9 rfl rfl rfl) fun v15 => b5 rfl) fun o16 => et i1 ?_
     rfl
   ·rw [hc]
    refine et d6 <| et b6 <| krp Gh rfl ⟨[(2, (Pt 2)), (3, (Pt 3)), (6, (sI o2.1)), (8, (Sr o4)), (35, (Bo ((a1.fWhen.length : Int) == 0)))], [(2, vS 4 (b7 a0)), (3, vS 3 (j4 a1))], 53⟩ ?_ ?_
    ·exact rd 2 [(32, (V.ptr 3 0 2)), (33, (V.sl 0 1 (List.map a7 a1.fWhen)))] rfl rfl <| rl rfl (n7 (e := a7) rfl rfl rfl rfl rfl rfl underlying26) <| b5 rfl
    refine kc rfl rfl (fun hc => ?_) fun hc => ?_
    ·rw [hc]
     refine et b6 <| kg LU rfl (fun (o18 : Str × Int) => ⟨[(4, (Sr o18.1)), (5, (I o18.2))], [], 53⟩) (rd 1 [(36, (Sr o4))] rfl rfl <| rp rfl (E9 rfl rfl rfl) fun v17 => b5 rfl) fun o18 => et n6 ?_
     rfl
    ·rw [hc]
     refine et d6 <| kd GA rfl (fun (o21 : Str) => ⟨[(8, (Sr o4)), (9, (Sr o21))], [], 53⟩) (et (j2 (p := 12) (dk := true) (t := [(2, (Pt 2)), (3, (Pt 3)), (6, (sI o2.1)), (8, (Sr o4)), (35, (Bo false))]) (σ := [(2, vS 4 (b7 a0)), (3, vS 3 (j4 a1))]) (n := 53) rfl (by decide) (by decide) rfl) <| et (j9 (m := 2) (j := 2) (t' := [(2, (Pt 2)), (3, (Pt 3)), (6, (sI o2.1)), (8, (Sr o4)), (35, (Bo false)), (39, (b7 a0)), (40, (sI o2.1))]) rfl rfl rfl) <| et (c9 (x := (idx o2.1 0)) (w := fun v19 => (Pr (I v19))) rfl rfl rfl rfl rfl (i2 (e := I) rfl rfl rfl underlying58 rfl (by decide))) <| j6 fun v19 => et (i7 (m := 3) (j := 6) (t' := [(2, (Pt 2)), (3, (Pt 3)), (6, (sI o2.1)), (8, (Sr o4)), (35, (Bo false)), (39, (b7 a0)), (40, (sI o2.1)), (41, (Pr (I v19))), (42, (I v19)), (43, (V.ptr 3 0 2)), (44, (V.sl 0 1 (List.map a7 a1.fWhen)))]) rfl rfl rfl) <| et (c9 (x := (K5 k a0 v19 a1.fWhen)) (w := fun v20 => (V.tup [(Sr v20.1), (I v20.2)])) rfl rfl rfl rfl rfl (d7 rfl rfl rfl rfl rfl (im k a0 v19 a1.fWhen) (.inl rfl))) <| j6 fun v20 => j8 rfl) fun o21 => kg yw rfl (fun (o25 : Str × Int) => ⟨[(4, (Sr o25.1)), (5, (I o25.2))], [], 53⟩) (rd 1 [(48, (Sr o4))] rfl rfl <| rp rfl (E9 rfl rfl rfl) fun v22 => bd 3 [(49, (Sr v22)), (50, (Sr o21))] rfl rfl <| rp rfl (E9 rfl rfl rfl) fun v23 => bd 4 [(51, (Sr v23))] rfl rfl <| rp rfl (E9 rfl rfl rfl) fun v24 => b5 rfl) fun o25 => et i1 ?_
     rfl
def iw : Str → V × List V := fun r => (Sr r, [])
theorem cC (k : Nat) (s n : Str) : EV k 53 [(Sr s), (Sr n)] = (F8 k s n).map iw := by
 cases k with
 | zero => rfl
 | succ k => exact (kZ (ext := ext) (f := 53) rfl).trans rfl
def eY : (a6 × Str × Bool) → V × List V := fun r => (.tup [(d4 r.1), (Sr r.2.1), (Bo r.2.2)], [])
theorem ns (k : Nat) (a0 : b9) (a1 : Str) (o3 : Str)  (K0 : Int → Option (a6 × Str × Bool)) (Kst : X × St → Option (V × List V)) (hK0 : ∀ (y0 : Int), Kst (X.exit 0, ⟨[(1, (Sr a1)), (2, (Pt 2)), (4, (Pt 4)), (29, (Bo false))], [(2, vS 8 (j0 a0)), (4, ⟨false, 3, [(V.agg [(Sr o3), (I y0), (Sr [])])]⟩)], 70⟩) = (K0 y0).map eY) (hret : ∀ s, Kst (X.ret, s) = F6 prog 70 [(j0 a0), (Sr a1)] [] [.cell 4 55, .tmp 5, .tmp 6] (X.ret, s)) :
  ∀ (m : Nat) (x7 : Int), (D1 (u1 prog (EV k) KW k BM) m ⟨[(1, (Sr a1)), (2, (Pt 2)), (4, (Pt 4))], [(2, vS 8 (j0 a0)), (4, ⟨false, 3, [(V.agg [(Sr o3), (I x7), (Sr [])])]⟩)], 70⟩).bind Kst = (H9 k a1 K0 m x7).map eY := by
 intro m
 induction m with
 | zero => intros; rfl
 | succ m ih =>
  intro x7
  unfold H9
  refine et l9 <| et b6 <| kd Fh rfl (fun (o10 : Bool) => ⟨[(1, (Sr a1)), (2, (Pt 2)), (4, (Pt 4)), (29, (Bo o10))], [(2, vS 8 (j0 a0)), (4, ⟨false, 3, [(V.agg [(Sr o3), (I x7), (Sr [])])]⟩)], 70⟩) ?_ fun o10 => ?_
  ·refine et (j2 (p := 11) (dk := true) (t := [(1, (Sr a1)), (2, (Pt 2)), (4, (Pt 4))]) (σ := [(2, vS 8 (j0 a0)), (4, ⟨false, 3, [(V.agg [(Sr o3), (I x7), (Sr [])])]⟩)]) (n := 70) rfl (by decide) (by decide) rfl) <| et (j9 (m := 4) (j := 4) (t' := [(1, (Sr a1)), (2, (Pt 2)), (4, (Pt 4)), (19, (V.ptr 4 0 1)), (20, (I x7)), (21, (Bo (decide (x7 ≤ 6)))), (22, (Bo (decide (x7 ≤ 6))))]) rfl rfl rfl) <| n5 (fun hc => ?_) fun hc => ?_
   ·rw [hc]
    exact et (j9 (m := 2) (j := 6) (t' := [(1, (Sr a1)), (2, (Pt 2)), (4, (Pt 4)), (19, (V.ptr 4 0 1)), (20, (I x7)), (21, (Bo true)), (22, (Bo true)), (23, (V.ptr 4 0 1)), (24, (I x7))]) rfl rfl rfl) <| et (c9 (x := (aI k x7)) (w := fun v8 => (Sr v8)) rfl rfl rfl rfl rfl (d7 rfl rfl rfl rfl rfl (au k x7) (.inl rfl))) <| j6 fun v8 => et (i7 (m := 1) (j := 8) (t' := [(1, (Sr a1)), (2, (Pt 2)), (4, (Pt 4)), (19, (V.ptr 4 0 1)), (20, (I x7)), (21, (Bo true)), (22, (Bo true)), (23, (V.ptr 4 0 1)), (24, (I x7)), (25, (Sr v8)), (26, (Sr a1))]) rfl rfl rfl) <| et (c9 (x := (cut a1 8 10)) (w := fun v9 => (Sr v9)) rfl rfl rfl rfl rfl (w5 rfl rfl rfl rfl rfl rfl underlying9)) <| j6 fun v9 => j8 rfl
   ·rw [hc]
    exact j8 rfl
  refine kc rfl rfl (fun hc => ?_) fun hc => ?_
  ·rw [hc]
   exact et d6 <| et (G7 rfl) <| kl ⟨[(1, (Sr a1)), (2, (Pt 2)), (4, (Pt 4))], [(2, vS 8 (j0 a0)), (4, ⟨false, 3, [(V.agg [(Sr o3), (I (Go.IntKind.wrap .i64 (x7 + 1))), (Sr [])])]⟩)], 70⟩ rfl <| et i6 <| et m9 <| et i3 <| ih (Go.IntKind.wrap .i64 (x7 + 1))
  ·rw [hc]
   exact et p7 <| et j3 <| hK0 x7
theorem fN (k : Nat) (a0 : b9) (a1 : Str) : EV k 94 [(j0 a0), (Sr a1)] = (eS k a0 a1).map eY := by
 cases k with
 | zero => rfl
 | succ k =>
  unfold eS
  refine et (i5 (c := f94c) (N := 70) (regs := KW) rfl func94 rfl (by decide) rfl rfl rfl) <| kr ⟨[(1, (Sr a1)), (2, (Pt 2)), (4, (Pt 4))], [(2, vS 8 (j0 a0)), (4, ⟨false, 3, [(V.agg [(Sr []), (I 0), (Sr [])])]⟩)], 70⟩ rfl <| et b6 <| kra [(12, (Bo (decide ((a1.length : Int) < 10))))] rfl <| kc rfl rfl (fun hc => ?_) fun hc => ?_
  ·rw [hc]
   refine et b6 <| kr ⟨[(4, (Pt 4)), (5, (Sr ([] : Str))), (6, (Bo false))], [(4, ⟨false, 3, [(d4 ({ fField := [], fOp := 0, fValue := [] } : a6))]⟩)], 70⟩ rfl <| et n6 ?_
   rfl
  ·rw [hc]
   refine et d6 <| kg Fr rfl (fun (o3 : Str) => ⟨[(1, (Sr a1)), (2, (Pt 2)), (4, (Pt 4))], [(2, vS 8 (j0 a0)), (4, ⟨false, 3, [(V.agg [(Sr o3), (I 0), (Sr [])])]⟩)], 70⟩) (rd 1 [(14, (Sr a1))] rfl rfl <| rp rfl (w5 rfl rfl rfl rfl rfl rfl underlying9) fun v1 => bd 2 [(15, (Sr v1))] rfl rfl <| rs rfl (d7 rfl rfl rfl rfl rfl (cC k v1 ([32] : Str)) (.inl rfl)) fun v2 => b5 rfl) fun o3 => kr ⟨[(1, (Sr a1)), (2, (Pt 2)), (4, (Pt 4))], [(2, vS 8 (j0 a0)), (4, ⟨false, 3, [(V.agg [(Sr o3), (I 1), (Sr [])])]⟩)], 70⟩ rfl <| et (i9 rfl) <| et p8 ?_
   refine ns k a0 a1 o3 _ _ ?h_match_take_L1_0 ?hr_match_take_L1 k 1
   ·intro y11
    refine et j5 <| kg EP rfl (fun (o13 : Int × Bool) => ⟨[(1, (Sr a1)), (2, (Pt 2)), (4, (Pt 4)), (7, (I o13.1)), (8, (Bo o13.2))], [(2, vS 8 (j0 a0)), (4, ⟨false, 3, [(V.agg [(Sr o3), (I y11), (Sr [])])]⟩)], 70⟩) (rd 3 [(35, (j0 a0)), (36, (Pt 4)), (37, (Sr o3))] rfl rfl <| rp rfl (d7 rfl rfl rfl rfl rfl (W9 k a0 o3) (.inl rfl)) fun v12 => b5 rfl) fun o13 => et b6 <| kg FK rfl (fun (o14 : Bool) => ⟨[(1, (Sr a1)), (2, (Pt 2)), (4, (Pt 4)), (7, (I o13.1)), (47, (Bo o14))], [(2, vS 8 (j0 a0)), (4, ⟨false, 3, [(V.agg [(Sr o3), (I y11), (Sr [])])]⟩)], 70⟩) ?_ fun o14 => ?_
    ·refine rd 3 [(41, (Bo o13.2)), (42, (Bo (!o13.2))), (43, (Bo (!o13.2)))] rfl rfl <| n5 (fun hc => ?_) fun hc => ?_
     ·rw [hc]
      exact d5 rfl
     ·rw [hc]
      exact d5 rfl
    refine kc rfl rfl (fun hc => ?_) fun hc => ?_
    ·rw [hc]
     refine et b6 <| kr ⟨[(4, (Pt 4)), (5, (Sr ([] : Str))), (6, (Bo false))], [(4, ⟨false, 3, [(d4 ({ fField := [], fOp := 0, fValue := [] } : a6))]⟩)], 70⟩ rfl <| et n6 ?_
     rfl
    ·rw [hc]
     refine et d6 <| kg xq rfl (fun (o16 : Str) => ⟨[(1, (Sr o16)), (2, (Pt 2)), (4, (Pt 4)), (7, (I o13.1))], [(2, vS 8 (j0 a0)), (4, ⟨false, 3, [(V.agg [(Sr o3), (I y11), (Sr [])])]⟩)], 70⟩) (rd 1 [(49, (Sr a1))] rfl rfl <| rs rfl (w5 rfl rfl rfl rfl rfl rfl underlying9) fun v15 => b5 rfl) fun o16 => kg yU rfl (fun (o18 : Int) => ⟨[(1, (Sr o16)), (4, (Pt 4)), (9, (I o18))], [(4, ⟨false, 3, [(V.agg [(Sr o3), (I y11), (Sr [])])]⟩)], 70⟩) (rd 3 [(51, (V.ptr 2 0 4)), (52, (k0 a0.fFields)), (53, (I o13.1))] rfl rfl <| rp rfl (i2 (e := l5) rfl rfl rfl underlying46 rfl (by decide)) fun v17 => b5 rfl) fun o18 => et b6 <| kra [(60, (Bo (decide ((o16.length : Int) < o18))))] rfl <| kc rfl rfl (fun hc => ?_) fun hc => ?_
     ·rw [hc]
      refine et b6 <| kr ⟨[(4, (Pt 4)), (5, (Sr ([] : Str))), (6, (Bo false))], [(4, ⟨false, 3, [(d4 ({ fField := [], fOp := 0, fValue := [] } : a6))]⟩)], 70⟩ rfl <| et n6 ?_
      rfl
     ·rw [hc]
      refine et d6 <| kg yF rfl (fun (o20 : Str) => ⟨[(1, (Sr o16)), (4, (Pt 4)), (9, (I o18))], [(4, ⟨false, 3, [(V.agg [(Sr o3), (I y11), (Sr o20)])]⟩)], 70⟩) (rd 2 [(62, (Sr o16)), (63, (I o18))] rfl rfl <| rs rfl (w5 rfl rfl rfl rfl rfl rfl underlying9) fun v19 => b5 rfl) fun o20 => kd yW rfl (fun (o22 : Str × Bool × a6) => ⟨[(4, (Pt 4)), (5, (Sr o22.1)), (6, (Bo o22.2.1))], [(4, vS 3 (d4 o22.2.2))], 70⟩) (et (j2 (p := 4) (dk := false) (t := [(1, (Sr o16)), (4, (Pt 4)), (9, (I o18))]) (σ := [(4, ⟨false, 3, [(V.agg [(Sr o3), (I y11), (Sr o20)])]⟩)]) (n := 70) rfl (by decide) (by decide) rfl) <| et (j9 (m := 3) (j := 3) (t' := [(1, (Sr o16)), (4, (Pt 4)), (9, (I o18)), (66, (d4 ({ fField := o3, fOp := y11, fValue := o20 } : a6))), (67, (Sr o16)), (68, (I o18))]) rfl rfl rfl) <| et (c9 (x := (cut o16 o18 (o16.length : Int))) (w := fun v21 => (Sr v21)) rfl rfl rfl rfl rfl (w5 rfl rfl rfl rfl rfl rfl underlying9)) <| j6 fun v21 => j8 rfl) fun o22 => et i1 ?_
      rfl
   ·intro s; exact rfl
def dE : ((List (List a6)) × Int) → V × List V := fun r => (.tup [(V.sl 0 1 (List.map a7 r.1)), (I r.2)], [])
theorem lJ (k : Nat) (a0 : a8) (a1 : Int) (a2 : Str)  (K0 : Str → (List (List a6)) → Option ((List (List a6)) × Int)) (Kst : X × St → Option (V × List V)) (hK0 : ∀ (y0 : Str) (y1 : (List (List a6))), Kst (X.exit 0, ⟨[(1, (I a1)), (3, (Pt 3)), (9, (V.aref 22 0 (List.map (fun x => (V.sl 1 3 (List.map d4 x))) y1).length)), (12, (Sr y0)), (52, (Bo true))], [(3, vS 4 (b7 a0)), (22, ⟨true, 1, List.map (fun x => (V.sl 1 3 (List.map d4 x))) y1⟩)], 73⟩) = (K0 y0 y1).map dE) (hret : ∀ s, Kst (X.ret, s) = F6 prog 73 [(b7 a0), (I a1), (Sr a2)] [] [.tmp 6, .tmp 7] (X.ret, s)) :
  ∀ (m : Nat) (x20 : Str) (x21 : (List (List a6))), (D1 (u1 prog (EV k) Jb k Ei) m ⟨[(1, (I a1)), (3, (Pt 3)), (9, (V.aref 22 0 (List.map (fun x => (V.sl 1 3 (List.map d4 x))) x21).length)), (10, (Sr x20))], [(3, vS 4 (b7 a0)), (22, ⟨true, 1, List.map (fun x => (V.sl 1 3 (List.map d4 x))) x21⟩)], 73⟩).bind Kst = (N1 k a0 a1 K0 m x20 x21).map dE := by
 intro m
 induction m with
 | zero => intros; rfl
 | succ m ih =>
  intro x20 x21
  unfold N1
  refine et l9 <| et (G7 rfl) <| kg Cx rfl (fun (o24 : Str × Bool × a6) => ⟨[(1, (I a1)), (3, (Pt 3)), (9, (V.aref 22 0 (List.map (fun x => (V.sl 1 3 (List.map d4 x))) x21).length)), (11, (Pt 11)), (12, (Sr o24.1)), (13, (Bo o24.2.1))], [(3, vS 4 (b7 a0)), (11, vS 3 (d4 o24.2.2)), (22, ⟨true, 1, List.map (fun x => (V.sl 1 3 (List.map d4 x))) x21⟩)], 73⟩) (rd 3 [(25, (V.ptr 3 0 2)), (26, (l7 a0.fTypes)), (27, (I a1))] rfl rfl <| rp rfl (i2 (e := j0) rfl rfl rfl underlying22 rfl (by decide)) fun v22 => bd 6 [(28, (Pr (j0 v22))), (29, (j0 v22)), (30, (Sr x20))] rfl rfl <| rp rfl (d7 rfl rfl rfl rfl rfl (fN k v22 x20) (.inl rfl)) fun v23 => b5 rfl) fun o24 => et b6 <| kr ⟨[(1, (I a1)), (3, (Pt 3)), (9, (V.aref 22 0 (List.map (fun x => (V.sl 1 3 (List.map d4 x))) x21).length)), (11, (Pt 11)), (12, (Sr o24.1)), (36, (Bo (!o24.2.1)))], [(3, vS 4 (b7 a0)), (11, vS 3 (d4 o24.2.2)), (22, ⟨true, 1, List.map (fun x => (V.sl 1 3 (List.map d4 x))) x21⟩)], 73⟩ rfl <| kc rfl rfl (fun hc => ?_) fun hc => ?_
  ·rw [hc]
   refine et b6 <| kr ⟨[(6, (V.sl 0 1 (List.map a7 ([] : List (List a6))))), (7, (I 3))], [], 73⟩ rfl <| et n6 <| et l6 <| et l8 <| et (hret _) ?_
   rfl
  ·rw [hc]
   refine et d6 <| kd zh rfl (fun (o30 : (List (List a6))) => ⟨[(1, (I a1)), (3, (Pt 3)), (9, (V.aref 22 0 (List.map (fun x => (V.sl 1 3 (List.map d4 x))) o30).length)), (12, (Sr o24.1))], [(3, vS 4 (b7 a0)), (22, ⟨true, 1, List.map (fun x => (V.sl 1 3 (List.map d4 x))) o30⟩)], 73⟩) ?_ fun o30 => ?_
   ·refine et (sC (by decide)) <| rd 2 [(37, (V.aref 22 0 (List.map (fun x => (V.sl 1 3 (List.map d4 x))) x21).length)), (38, (V.aref 22 0 (List.map (fun x => (V.sl 1 3 (List.map d4 x))) x21).length))] rfl rfl <| rl rfl (uE (e := (fun x => (V.sl 1 3 (List.map d4 x)))) rfl rfl rfl rfl rfl rfl underlying26) <| bd 6 [(39, (I (x21.length : Int))), (40, (I (Go.IntKind.wrap .i64 ((x21.length : Int) - 1)))), (41, (V.aref 22 0 (List.map (fun x => (V.sl 1 3 (List.map d4 x))) x21).length)), (42, (V.aref 22 0 (List.map (fun x => (V.sl 1 3 (List.map d4 x))) x21).length))] rfl rfl <| rl rfl (uE (e := (fun x => (V.sl 1 3 (List.map d4 x)))) rfl rfl rfl rfl rfl rfl underlying26) <| bd 8 [(43, (I (x21.length : Int))), (44, (I (Go.IntKind.wrap .i64 ((x21.length : Int) - 1))))] rfl rfl <| rp rfl (ze (e := (fun x => (V.sl 1 3 (List.map d4 x)))) rfl rfl rfl underlying26 rfl rfl (by decide)) fun v25 => bd 9 [(45, (V.ptr 22 (0 + (Go.IntKind.wrap .i64 ((x21.length : Int) - 1)).toNat) 0))] rfl rfl <| et (P4 (x := (x21[0 + (Go.IntKind.wrap .i64 ((x21.length : Int) - 1)).toNat]?)) (w := fun v26 => ((V.sl 1 3 (List.map d4 v26)), _)) rfl rfl rfl rfl (Bb (e := (fun x => (V.sl 1 3 (List.map d4 x)))) (e' := a7) rfl rfl rfl rfl (fun _ => rfl) (fun _ => rfl))) ?_
    refine j6 fun v26 => ba 2 12 ⟨[(1, (I a1)), (3, (Pt 3)), (9, (V.aref 22 0 (List.map (fun x => (V.sl 1 3 (List.map d4 x))) x21).length)), (11, (Pt 11)), (12, (Sr o24.1)), (36, (Bo false)), (37, (V.aref 22 0 (List.map (fun x => (V.sl 1 3 (List.map d4 x))) x21).length)), (38, (V.aref 22 0 (List.map (fun x => (V.sl 1 3 (List.map d4 x))) x21).length)), (39, (I (x21.length : Int))), (40, (I (Go.IntKind.wrap .i64 ((x21.length : Int) - 1)))), (41, (V.aref 22 0 (List.map (fun x => (V.sl 1 3 (List.map d4 x))) x21).length)), (42, (V.aref 22 0 (List.map (fun x => (V.sl 1 3 (List.map d4 x))) x21).length)), (43, (I (x21.length : Int))), (44, (I (Go.IntKind.wrap .i64 ((x21.length : Int) - 1)))), (45, (V.ptr 22 (0 + (Go.IntKind.wrap .i64 ((x21.length : Int) - 1)).toNat) 0)), (46, (V.sl 1 3 (List.map d4 v26))), (47, (d4 o24.2.2)), (48, (a7 (([o24.2.2] : List a6))))], [(3, vS 4 (b7 a0)), (11, vS 3 (d4 o24.2.2)), (22, ⟨true, 1, (List.map (fun x => (V.sl 1 3 (List.map d4 x))) x21).set (0 + (Go.IntKind.wrap .i64 ((x21.length : Int) - 1)).toNat) (a7 v26)⟩)], 73⟩ rfl rfl rfl <| et (P4 (x := (app v26 ([o24.2.2] : List a6))) (w := fun v27 => ((V.sl 1 3 (List.map d4 v27)), _)) rfl rfl rfl rfl (nx (e := d4) rfl rfl rfl rfl rfl rfl rfl rfl rfl rfl (by decide))) <| j6 fun v27 => ba 0 13 ⟨[(1, (I a1)), (3, (Pt 3)), (9, (V.aref 22 0 (List.map (fun x => (V.sl 1 3 (List.map d4 x))) x21).length)), (11, (Pt 11)), (12, (Sr o24.1)), (36, (Bo false)), (37, (V.aref 22 0 (List.map (fun x => (V.sl 1 3 (List.map d4 x))) x21).length)), (38, (V.aref 22 0 (List.map (fun x => (V.sl 1 3 (List.map d4 x))) x21).length)), (39, (I (x21.length : Int))), (40, (I (Go.IntKind.wrap .i64 ((x21.length : Int) - 1)))), (41, (V.aref 22 0 (List.map (fun x => (V.sl 1 3 (List.map d4 x))) x21).length)), (42, (V.aref 22 0 (List.map (fun x => (V.sl 1 3 (List.map d4 x))) x21).length)), (43, (I (x21.length : Int))), (44, (I (Go.IntKind.wrap .i64 ((x21.length : Int) - 1)))), (45, (V.ptr 22 (0 + (Go.IntKind.wrap .i64 ((x21.length : Int) - 1)).toNat) 0)), (46, (a7 v26)), (47, (d4 o24.2.2)), (48, (a7 (([o24.2.2] : List a6)))), (49, (V.sl 1 3 (List.map d4 v27)))], [(3, vS 4 (b7 a0)), (11, vS 3 (d4 o24.2.2)), (22, ⟨true, 1, (List.map (fun x => (V.sl 1 3 (List.map d4 x))) x21).set (0 + (Go.IntKind.wrap .i64 ((x21.length : Int) - 1)).toNat) (a7 v26)⟩)], 73⟩ rfl rfl rfl <| rp rfl (zM (l := x21) (e := (fun x => (V.sl 1 3 (List.map d4 x)))) rfl rfl rfl underlying26 rfl rfl (by decide)) fun v28 => bd 14 [(50, (V.ptr 22 (0 + (Go.IntKind.wrap .i64 ((x21.length : Int) - 1)).toNat) 0))] rfl rfl <| et (P4 (x := (x21[0 + (Go.IntKind.wrap .i64 ((x21.length : Int) - 1)).toNat]?)) (w := fun _ => (V.tup [], _)) rfl rfl rfl rfl (Aq (S := (fun n_ => ⟨[(1, (I a1)), (3, (Pt 3)), (9, (V.aref 22 0 n_)), (11, (Pt 11)), (12, (Sr o24.1)), (36, (Bo false)), (37, (V.aref 22 0 n_)), (38, (V.aref 22 0 n_)), (39, (I (x21.length : Int))), (40, (I (Go.IntKind.wrap .i64 ((x21.length : Int) - 1)))), (41, (V.aref 22 0 n_)), (42, (V.aref 22 0 n_)), (43, (I (x21.length : Int))), (44, (I (Go.IntKind.wrap .i64 ((x21.length : Int) - 1)))), (45, (V.ptr 22 (0 + (Go.IntKind.wrap .i64 ((x21.length : Int) - 1)).toNat) 0)), (46, (a7 v26)), (47, (d4 o24.2.2)), (48, (a7 (([o24.2.2] : List a6)))), (49, (V.sl 1 3 (List.map d4 v27))), (50, (V.ptr 22 (0 + (Go.IntKind.wrap .i64 ((x21.length : Int) - 1)).toNat) 0))], [(3, vS 4 (b7 a0)), (11, vS 3 (d4 o24.2.2)), (22, ⟨true, 1, (List.map (fun x => (V.sl 1 3 (List.map d4 x))) x21).set (0 + (Go.IntKind.wrap .i64 ((x21.length : Int) - 1)).toNat) (a7 v26)⟩)], 73⟩)) (e := (fun x => (V.sl 1 3 (List.map d4 x)))) (l := x21) (v := v27) rfl rfl rfl rfl rfl rfl rfl rfl rfl rfl rfl)) ?_
    exact j6 fun v29 => b5 rfl
   refine et b6 <| kra [(52, (Bo (o24.1 == ([] : Str))))] rfl <| kc rfl rfl (fun hc => ?_) fun hc => ?_
   ·rw [hc]
    exact et p7 <| et (wE rfl) <| et j3 <| hK0 o24.1 o30
   ·rw [hc]
    refine et d6 <| et b6 <| kg wO rfl (fun (o32 : Int) => ⟨[(1, (I a1)), (3, (Pt 3)), (9, (V.aref 22 0 (List.map (fun x => (V.sl 1 3 (List.map d4 x))) o30).length)), (12, (Sr o24.1)), (54, (V.int .u8 o32))], [(3, vS 4 (b7 a0)), (22, ⟨true, 1, List.map (fun x => (V.sl 1 3 (List.map d4 x))) o30⟩)], 73⟩) (rd 1 [(53, (Sr o24.1))] rfl rfl <| rs rfl (w7 rfl rfl rfl underlying9) fun v31 => b5 rfl) fun o32 => et (i9 rfl) <| kra [(55, (Bo (o32 == 38)))] rfl <| kcl rfl rfl (fun hc => ?_) fun hc => ?_
    ·rw [hc]
     exact et m9 <| et i6 <| kgl uI rfl (fun (o34 : Str) => ⟨[(1, (I a1)), (3, (Pt 3)), (9, (V.aref 22 0 (List.map (fun x => (V.sl 1 3 (List.map d4 x))) o30).length)), (10, (Sr o34))], [(3, vS 4 (b7 a0)), (22, ⟨true, 1, List.map (fun x => (V.sl 1 3 (List.map d4 x))) o30⟩)], 73⟩) (rd 1 [(62, (Sr o24.1))] rfl rfl <| rs rfl (w5 rfl rfl rfl rfl rfl rfl underlying9) fun v33 => b5 rfl) fun o34 => et i6 <| et m9 <| et i3 <| ih o34 o30
    ·rw [hc]
     refine kr ⟨[(1, (I a1)), (3, (Pt 3)), (9, (V.aref 22 0 (List.map (fun x => (V.sl 1 3 (List.map d4 x))) o30).length)), (12, (Sr o24.1)), (57, (Bo (o32 == 124)))], [(3, vS 4 (b7 a0)), (22, ⟨true, 1, List.map (fun x => (V.sl 1 3 (List.map d4 x))) o30⟩)], 73⟩ rfl <| kcl rfl rfl (fun hc => ?_) fun hc => ?_
     ·rw [hc]
      exact kgl wZ rfl (fun (o36 : (List (List a6))) => ⟨[(1, (I a1)), (3, (Pt 3)), (9, (V.aref 22 0 (List.map (fun x => (V.sl 1 3 (List.map d4 x))) o36).length)), (12, (Sr o24.1))], [(3, vS 4 (b7 a0)), (22, ⟨true, 1, List.map (fun x => (V.sl 1 3 (List.map d4 x))) o36⟩)], 73⟩) (rd 2 [(59, (V.aref 22 0 (List.map (fun x => (V.sl 1 3 (List.map d4 x))) o30).length)), (60, (V.sl 0 1 (List.map (fun x => (V.sl 1 3 (List.map d4 x))) ([([] : List a6)] : List (List a6)))))] rfl rfl <| et (P4 (x := (app o30 ([([] : List a6)] : List (List a6)))) (w := fun v35 => ((V.aref 22 0 (List.map (fun x => (V.sl 1 3 (List.map d4 x))) v35).length), _)) rfl rfl rfl rfl (uF (e := (fun x => (V.sl 1 3 (List.map d4 x)))) (l := o30) rfl rfl rfl rfl rfl rfl rfl rfl rfl rfl rfl (of_decide_eq_true rfl))) <| B7 fun v35 => b5 rfl) fun o36 => et i6 <| kgl uI rfl (fun (o38 : Str) => ⟨[(1, (I a1)), (3, (Pt 3)), (9, (V.aref 22 0 (List.map (fun x => (V.sl 1 3 (List.map d4 x))) o36).length)), (10, (Sr o38))], [(3, vS 4 (b7 a0)), (22, ⟨true, 1, List.map (fun x => (V.sl 1 3 (List.map d4 x))) o36⟩)], 73⟩) (rd 1 [(62, (Sr o24.1))] rfl rfl <| rs rfl (w5 rfl rfl rfl rfl rfl rfl underlying9) fun v37 => b5 rfl) fun o38 => et i6 <| et m9 <| et i3 <| ih o38 o36
     ·rw [hc]
      refine kr ⟨[(6, (V.sl 0 1 (List.map a7 ([] : List (List a6))))), (7, (I 3))], [], 73⟩ rfl <| et i1 <| et l6 <| et l6 <| et l8 <| et (hret _) ?_
      rfl
theorem iE (k : Nat) (a0 : a8) (a1 : Int) (a2 : Str) : EV k 55 [(b7 a0), (I a1), (Sr a2)] = (Q2 k a0 a1 a2).map dE := by
 cases k with
 | zero => rfl
 | succ k =>
  unfold Q2
  refine et (i5 (c := f55c) (N := 73) (regs := Jb) rfl func55 rfl (by decide) rfl rfl rfl) <| kr ⟨[(1, (I a1)), (2, (Sr a2)), (3, (Pt 3))], [(3, vS 4 (b7 a0))], 73⟩ rfl <| et b6 <| kga FE rfl (fun (o2 : Int) => [(8, (I o2))]) (rd 2 [(14, (b7 a0)), (15, (I a1))] rfl rfl <| rs rfl (d7 rfl rfl rfl rfl rfl (M1 k a0 a1) (.inl rfl)) fun v1 => b5 rfl) fun o2 => et b6 <| kra [(18, (Bo (o2 != 0)))] rfl <| kc rfl rfl (fun hc => ?_) fun hc => ?_
  ·rw [hc]
   refine et b6 <| kr ⟨[(6, (V.sl 0 1 (List.map a7 ([] : List (List a6))))), (7, (I o2))], [], 73⟩ rfl <| et n6 ?_
   rfl
  ·rw [hc]
   refine et d6 <| et b6 <| kr ⟨[(1, (I a1)), (2, (Sr a2)), (3, (Pt 3)), (21, (Bo (a2 == ([] : Str))))], [(3, vS 4 (b7 a0))], 73⟩ rfl <| kc rfl rfl (fun hc => ?_) fun hc => ?_
   ·rw [hc]
    refine et b6 <| kr ⟨[(6, (V.sl 0 1 (List.map a7 ([] : List (List a6))))), (7, (I 0))], [], 73⟩ rfl <| et n6 ?_
    rfl
   ·rw [hc]
    refine et d6 <| kr ⟨[(1, (I a1)), (2, (Sr a2)), (3, (Pt 3)), (9, (V.aref 22 0 (List.map (fun x => (V.sl 1 3 (List.map d4 x))) ([([] : List a6)] : List (List a6))).length)), (22, (V.aref 22 0 (List.map (fun x => (V.sl 1 3 (List.map d4 x))) ([([] : List a6)] : List (List a6))).length))], [(3, vS 4 (b7 a0)), (22, ⟨true, 1, List.map (fun x => (V.sl 1 3 (List.map d4 x))) ([([] : List a6)] : List (List a6))⟩)], 73⟩ rfl <| et b6 <| kr ⟨[(1, (I a1)), (3, (Pt 3)), (9, (V.aref 22 0 (List.map (fun x => (V.sl 1 3 (List.map d4 x))) ([([] : List a6)] : List (List a6))).length)), (10, (Sr a2)), (22, (V.aref 22 0 (List.map (fun x => (V.sl 1 3 (List.map d4 x))) ([([] : List a6)] : List (List a6))).length))], [(3, vS 4 (b7 a0)), (22, ⟨true, 1, List.map (fun x => (V.sl 1 3 (List.map d4 x))) ([([] : List a6)] : List (List a6))⟩)], 73⟩ rfl <| et (tB (st' := ⟨[(1, (I a1)), (3, (Pt 3)), (9, (V.aref 22 0 (List.map (fun x => (V.sl 1 3 (List.map d4 x))) ([([] : List a6)] : List (List a6))).length)), (10, (Sr a2))], [(3, vS 4 (b7 a0)), (22, ⟨true, 1, List.map (fun x => (V.sl 1 3 (List.map d4 x))) ([([] : List a6)] : List (List a6))⟩)], 73⟩) rfl) <| et p8 ?_
    refine lJ k a0 a1 a2 _ _ ?h_match_Parse_L1_0 ?hr_match_Parse_L1 k a2 ([([] : List a6)] : List (List a6))
    ·intro y39 y40
     refine et j5 <| et b6 <| kg xD rfl (fun (o43 : Bool) => ⟨[(9, (V.aref 22 0 (List.map (fun x => (V.sl 1 3 (List.map d4 x))) y40).length)), (71, (Bo o43))], [(22, ⟨true, 1, List.map (fun x => (V.sl 1 3 (List.map d4 x))) y40⟩)], 73⟩) (rd 3 [(64, (V.ptr 3 0 2)), (65, (l7 a0.fTypes)), (66, (I a1))] rfl rfl <| rp rfl (i2 (e := j0) rfl rfl rfl underlying22 rfl (by decide)) fun v41 => bd 6 [(67, (Pr (j0 v41))), (68, (j0 v41)), (69, (V.aref 22 0 (List.map (fun x => (V.sl 1 3 (List.map d4 x))) y40).length))] rfl rfl <| rp rfl (d7 rfl rfl rfl rfl (ri rfl (by intro s i q h; cases h) (ri (CK (e := (fun x => (V.sl 1 3 (List.map d4 x)))) (e' := a7) (fun _ => rfl) rfl) (by intro s i q h; cases h) rfl)) (N4 k v41 y40) (.inr (fun _ => rfl))) fun v42 => b5 rfl) fun o43 => kc rfl rfl (fun hc => ?_) fun hc => ?_
     ·rw [hc]
      refine et b6 <| kr ⟨[(6, (V.sl 0 1 (List.map a7 ([] : List (List a6))))), (7, (I 3))], [], 73⟩ rfl <| et n6 ?_
      rfl
     ·rw [hc]
      refine et d6 <| krp yi rfl ⟨[(6, (V.sl 0 1 (List.map a7 y40))), (7, (I 0))], [], 73⟩ ?_ ?_
      ·exact rd 1 [(72, (V.aref 22 0 (List.map (fun x => (V.sl 1 3 (List.map d4 x))) y40).length))] rfl rfl <| et (P4 (x := some ()) (w := fun _ => ((V.sl 2 1 (List.map a7 y40)), _)) rfl rfl rfl rfl (xr (e := (fun x => (V.sl 1 3 (List.map d4 x)))) (e' := a7) rfl rfl rfl rfl rfl (of_decide_eq_true rfl) (fun _ => rfl))) <| et Y8 <| b5 rfl
      refine et i1 ?_
      rfl
    ·intro s; exact rfl
def fO : (b8 × Bool) → V × List V := fun r => (.tup [(j4 r.1), (Bo r.2)], [])
theorem ou (k : Nat) (a0 : a8) (a1 : Str) (o3 : b8) (o5 : Str)  (K0 : Int → Option (b8 × Bool)) (Kst : X × St → Option (V × List V)) (hK0 : ∀ (y0 : Int), Kst (X.exit 0, ⟨[(1, (Sr a1)), (2, (Pt 2)), (4, (Pt 4)), (6, (Pt 6)), (7, (Sr o5)), (8, (I y0)), (36, (Bo false))], [(2, vS 4 (b7 a0)), (4, ⟨false, 3, [(V.agg [(Sr []), (Sr []), (V.sl 2 1 (List.map a7 ([] : List (List a6))))])]⟩), (6, vS 3 (j4 o3))], 100⟩) = (K0 y0).map fO) (hret : ∀ s, Kst (X.ret, s) = F6 prog 100 [(b7 a0), (Sr a1)] [] [.cell 4 28, .tmp 5] (X.ret, s)) :
  ∀ (m : Nat) (x11 : Int), (D1 (u1 prog (EV k) Mz k Ft) m ⟨[(1, (Sr a1)), (2, (Pt 2)), (4, (Pt 4)), (6, (Pt 6)), (7, (Sr o5)), (8, (I x11))], [(2, vS 4 (b7 a0)), (4, ⟨false, 3, [(V.agg [(Sr []), (Sr []), (V.sl 2 1 (List.map a7 ([] : List (List a6))))])]⟩), (6, vS 3 (j4 o3))], 100⟩).bind Kst = (P9 k o5 K0 m x11).map fO := by
 intro m
 induction m with
 | zero => intros; rfl
 | succ m ih =>
  intro x11
  unfold P9
  refine et l9 <| et b6 <| kga EJ rfl (fun (o14 : Bool) => [(36, (Bo o14))]) ?_ fun o14 => ?_
  ·refine rd 5 [(26, (I x11)), (27, (Sr o5)), (28, (I (o5.length : Int))), (29, (Bo (decide (x11 < (o5.length : Int))))), (30, (Bo (decide (x11 < (o5.length : Int)))))] rfl rfl <| n5 (fun hc => ?_) fun hc => ?_
   ·rw [hc]
    exact rd 7 [(31, (Sr o5)), (32, (I x11))] rfl rfl <| rp rfl (w7 rfl rfl rfl underlying9) fun v12 => bd 8 [(33, (V.int .u8 v12))] rfl rfl <| rp rfl (d7 rfl rfl rfl rfl rfl (cH k ([68, 76, 80] : Str) v12) (.inl rfl)) fun v13 => b5 rfl
   ·rw [hc]
    exact d5 rfl
  refine kc rfl rfl (fun hc => ?_) fun hc => ?_
  ·rw [hc]
   exact et d6 <| et (G7 rfl) <| kl ⟨[(1, (Sr a1)), (2, (Pt 2)), (4, (Pt 4)), (6, (Pt 6)), (7, (Sr o5)), (8, (I (Go.IntKind.wrap .i64 (x11 + 1))))], [(2, vS 4 (b7 a0)), (4, ⟨false, 3, [(V.agg [(Sr []), (Sr []), (V.sl 2 1 (List.map a7 ([] : List (List a6))))])]⟩), (6, vS 3 (j4 o3))], 100⟩ rfl <| et i6 <| et m9 <| et i3 <| ih (Go.IntKind.wrap .i64 (x11 + 1))
  ·rw [hc]
   exact et p7 <| et j3 <| hK0 x11
theorem rY (k : Nat) (a0 : a8) (a1 : Str) : EV k 29 [(b7 a0), (Sr a1)] = (gv k a0 a1).map fO := by
 cases k with
 | zero => rfl
 | succ k =>
  unfold gv
  refine et (i5 (c := f29c) (N := 100) (regs := Mz) rfl func29 rfl (by decide) rfl rfl rfl) <| kr ⟨[(1, (Sr a1)), (2, (Pt 2)), (4, (Pt 4))], [(2, vS 4 (b7 a0)), (4, ⟨false, 3, [(V.agg [(Sr []), (Sr []), (V.sl 2 1 (List.map a7 ([] : List (List a6))))])]⟩)], 100⟩ rfl <| et b6 <| kra [(15, (Bo (decide ((a1.length : Int) ≤ 8))))] rfl <| kc rfl rfl (fun hc => ?_) fun hc => ?_
  ·rw [hc]
   refine et b6 <| kr ⟨[(4, (Pt 4)), (5, (Bo false))], [(4, ⟨false, 3, [(j4 ({ fSegment := [], fCodes := [], fWhen := ([] : List (List a6)) } : b8))]⟩)], 100⟩ rfl <| et n6 ?_
   rfl
  ·rw [hc]
   refine et d6 <| kg De rfl (fun (o3 : b8) => ⟨[(1, (Sr a1)), (2, (Pt 2)), (4, (Pt 4)), (6, (Pt 6))], [(2, vS 4 (b7 a0)), (4, ⟨false, 3, [(V.agg [(Sr []), (Sr []), (V.sl 2 1 (List.map a7 ([] : List (List a6))))])]⟩), (6, vS 3 (j4 o3))], 100⟩) (rd 1 [(17, (Sr a1))] rfl rfl <| rp rfl (w5 rfl rfl rfl rfl rfl rfl underlying9) fun v1 => bd 2 [(18, (Sr v1))] rfl rfl <| rp rfl (d7 rfl rfl rfl rfl rfl (cC k v1 ([32] : Str)) (.inl rfl)) fun v2 => b5 rfl) fun o3 => kga CI rfl (fun (o5 : Str) => [(7, (Sr o5))]) (rd 1 [(21, (Sr a1))] rfl rfl <| rs rfl (w5 rfl rfl rfl rfl rfl rfl underlying9) fun v4 => b5 rfl) fun o5 => et b6 <| kga BQ rfl (fun (o7 : Bool) => [(25, (Bo o7))]) (rd 1 [(23, (Sr o5))] rfl rfl <| rp rfl (w7 rfl rfl rfl underlying9) fun v6 => b5 rfl) fun o7 => kc rfl rfl (fun hc => ?_) fun hc => ?_
   ·rw [hc]
    refine et b6 <| kr ⟨[(1, (Sr a1)), (2, (Pt 2)), (4, (Pt 4)), (6, (Pt 6)), (7, (Sr o5)), (8, (I 1))], [(2, vS 4 (b7 a0)), (4, ⟨false, 3, [(V.agg [(Sr []), (Sr []), (V.sl 2 1 (List.map a7 ([] : List (List a6))))])]⟩), (6, vS 3 (j4 o3))], 100⟩ rfl <| et b6 <| et (i9 rfl) <| et p8 ?_
    refine ou k a0 a1 o3 o5 _ _ ?h_ssa_parse_L1_0 ?hr_ssa_parse_L1 k 1
    ·intro y15
     refine et j5 <| et b6 <| kg DO rfl (fun (o17 : b8) => ⟨[(1, (Sr a1)), (2, (Pt 2)), (4, (Pt 4)), (6, (Pt 6)), (7, (Sr o5)), (8, (I y15))], [(2, vS 4 (b7 a0)), (4, ⟨false, 3, [(V.agg [(Sr []), (Sr []), (V.sl 2 1 (List.map a7 ([] : List (List a6))))])]⟩), (6, vS 3 (j4 o17))], 100⟩) (rd 2 [(39, (Sr o5)), (40, (I y15))] rfl rfl <| rp rfl (w5 rfl rfl rfl rfl rfl rfl underlying9) fun v16 => b5 rfl) fun o17 => kg zf rfl (fun (o19 : Str) => ⟨[(1, (Sr a1)), (2, (Pt 2)), (4, (Pt 4)), (6, (Pt 6)), (7, (Sr o19))], [(2, vS 4 (b7 a0)), (4, ⟨false, 3, [(V.agg [(Sr []), (Sr []), (V.sl 2 1 (List.map a7 ([] : List (List a6))))])]⟩), (6, vS 3 (j4 o17))], 100⟩) (rd 2 [(43, (Sr o5)), (44, (I y15))] rfl rfl <| rs rfl (w5 rfl rfl rfl rfl rfl rfl underlying9) fun v18 => b5 rfl) fun o19 => kga vj rfl (fun (o21 : Int × Int) => [(9, (I o21.1)), (10, (I o21.2))]) (rd 3 [(47, (b7 a0)), (48, (Pt 6)), (49, (Sr o17.fSegment))] rfl rfl <| rp rfl (d7 rfl rfl rfl rfl rfl (iP k a0 o17.fSegment) (.inl rfl)) fun v20 => b5 rfl) fun o21 => et b6 <| kra [(54, (Bo (o21.2 != 0)))] rfl <| kc rfl rfl (fun hc => ?_) fun hc => ?_
     ·rw [hc]
      refine et b6 <| kr ⟨[(4, (Pt 4)), (5, (Bo false))], [(4, ⟨false, 3, [(j4 ({ fSegment := [], fCodes := [], fWhen := ([] : List (List a6)) } : b8))]⟩)], 100⟩ rfl <| et n6 ?_
      rfl
     ·rw [hc]
      refine et d6 <| et b6 <| kr ⟨[(1, (Sr a1)), (2, (Pt 2)), (4, (Pt 4)), (6, (Pt 6)), (7, (Sr o19)), (9, (I o21.1)), (10, (I o21.2)), (11, (I (o19.length : Int)))], [(2, vS 4 (b7 a0)), (4, ⟨false, 3, [(V.agg [(Sr []), (Sr []), (V.sl 2 1 (List.map a7 ([] : List (List a6))))])]⟩), (6, vS 3 (j4 o17))], 100⟩ rfl <| et b6 <| kga tY rfl (fun (o24 : Bool) => [(71, (Bo o24))]) ?_ fun o24 => ?_
      ·refine rd 3 [(58, (I (o19.length : Int))), (59, (Bo (decide ((o19.length : Int) > 2)))), (60, (Bo (decide ((o19.length : Int) > 2))))] rfl rfl <| n5 (fun hc => ?_) fun hc => ?_
       ·rw [hc]
        refine rd 4 [(61, (Sr o19))] rfl rfl <| rp rfl (w7 rfl rfl rfl underlying9) fun v22 => bd 8 [(62, (V.int .u8 v22)), (63, (Bo (v22 == 40))), (64, (Bo (v22 == 40))), (65, (Bo (v22 == 40)))] rfl rfl <| n5 (fun hc => ?_) fun hc => ?_
        ·rw [hc]
         exact rd 11 [(66, (Sr o19)), (67, (I (o19.length : Int))), (68, (I (Go.IntKind.wrap .i64 ((o19.length : Int) - 1))))] rfl rfl <| rp rfl (w7 rfl rfl rfl underlying9) fun v23 => b5 rfl
        ·rw [hc]
         exact d5 rfl
       ·rw [hc]
        exact d5 rfl
      refine kc rfl rfl (fun hc => ?_) fun hc => ?_
      ·rw [hc]
       refine kd vc rfl (fun (o27 : Int × b8) => ⟨[(1, (Sr a1)), (2, (Pt 2)), (4, (Pt 4)), (6, (Pt 6)), (10, (I o27.1))], [(2, vS 4 (b7 a0)), (4, ⟨false, 3, [(V.agg [(Sr []), (Sr []), (V.sl 2 1 (List.map a7 ([] : List (List a6))))])]⟩), (6, vS 3 (j4 o27.2))], 100⟩) (et (j2 (p := 11) (dk := false) (t := [(1, (Sr a1)), (2, (Pt 2)), (4, (Pt 4)), (6, (Pt 6)), (7, (Sr o19)), (9, (I o21.1)), (10, (I o21.2)), (11, (I (o19.length : Int))), (71, (Bo true))]) (σ := [(2, vS 4 (b7 a0)), (4, ⟨false, 3, [(V.agg [(Sr []), (Sr []), (V.sl 2 1 (List.map a7 ([] : List (List a6))))])]⟩), (6, vS 3 (j4 o17))]) (n := 100) rfl (by decide) (by decide) rfl) <| et (j9 (m := 5) (j := 5) (t' := [(1, (Sr a1)), (2, (Pt 2)), (4, (Pt 4)), (6, (Pt 6)), (7, (Sr o19)), (9, (I o21.1)), (10, (I o21.2)), (11, (I (o19.length : Int))), (71, (Bo true)), (73, (b7 a0)), (74, (I o21.1)), (75, (Sr o19)), (76, (I (o19.length : Int))), (77, (I (Go.IntKind.wrap .i64 ((o19.length : Int) - 1))))]) rfl rfl rfl) <| et (c9 (x := (cut o19 1 (Go.IntKind.wrap .i64 ((o19.length : Int) - 1)))) (w := fun v25 => (Sr v25)) rfl rfl rfl rfl rfl (w5 rfl rfl rfl rfl rfl rfl underlying9)) <| j6 fun v25 => et (i7 (m := 0) (j := 6) (t' := [(1, (Sr a1)), (2, (Pt 2)), (4, (Pt 4)), (6, (Pt 6)), (7, (Sr o19)), (9, (I o21.1)), (10, (I o21.2)), (11, (I (o19.length : Int))), (71, (Bo true)), (73, (b7 a0)), (74, (I o21.1)), (75, (Sr o19)), (76, (I (o19.length : Int))), (77, (I (Go.IntKind.wrap .i64 ((o19.length : Int) - 1)))), (78, (Sr v25))]) rfl rfl rfl) <| et (c9 (x := (Q2 k a0 o21.1 v25)) (w := fun v26 => (V.tup [(V.sl 0 1 (List.map a7 v26.1)), (I v26.2)])) rfl rfl rfl rfl rfl (d7 rfl rfl rfl rfl rfl (iE k a0 o21.1 v25) (.inl rfl))) <| j6 fun v26 => j8 rfl) fun o27 => et b6 <| kr ⟨[(1, (Sr a1)), (2, (Pt 2)), (4, (Pt 4)), (6, (Pt 6)), (84, (Bo (o27.1 != 0)))], [(2, vS 4 (b7 a0)), (4, ⟨false, 3, [(V.agg [(Sr []), (Sr []), (V.sl 2 1 (List.map a7 ([] : List (List a6))))])]⟩), (6, vS 3 (j4 o27.2))], 100⟩ rfl <| kc rfl rfl (fun hc => ?_) fun hc => ?_
       ·rw [hc]
        refine et b6 <| kr ⟨[(4, (Pt 4)), (5, (Bo false))], [(4, ⟨false, 3, [(j4 ({ fSegment := [], fCodes := [], fWhen := ([] : List (List a6)) } : b8))]⟩)], 100⟩ rfl <| et n6 ?_
        rfl
       ·rw [hc]
        refine et d6 <| kg oI rfl (fun (o29 : Int × Str) => ⟨[(1, (Sr a1)), (4, (Pt 4)), (6, (Pt 6)), (10, (I o29.1)), (12, (Sr o29.2))], [(4, ⟨false, 3, [(V.agg [(Sr []), (Sr []), (V.sl 2 1 (List.map a7 ([] : List (List a6))))])]⟩), (6, vS 3 (j4 o27.2))], 100⟩) (rd 2 [(87, (b7 a0)), (88, (j4 o27.2))] rfl rfl <| rp rfl (d7 rfl rfl rfl rfl rfl (I0 k a0 o27.2) (.inl rfl)) fun v28 => b5 rfl) fun o29 => kg pw rfl (fun (o30 : Bool × b8) => ⟨[(4, (Pt 4)), (5, (Bo o30.1))], [(4, vS 3 (j4 o30.2))], 100⟩) ?_ fun o30 => ?_
        ·refine rd 4 [(92, (j4 o27.2)), (93, (I o29.1)), (94, (Bo (o29.1 == 0))), (95, (Bo (o29.1 == 0)))] rfl rfl <| n5 (fun hc => ?_) fun hc => ?_
         ·rw [hc]
          exact d5 rfl
         ·rw [hc]
          exact d5 rfl
        refine et i1 ?_
        rfl
      ·rw [hc]
       refine et d6 <| et b6 <| kr ⟨[(1, (Sr a1)), (2, (Pt 2)), (4, (Pt 4)), (6, (Pt 6)), (84, (Bo (o21.2 != 0)))], [(2, vS 4 (b7 a0)), (4, ⟨false, 3, [(V.agg [(Sr []), (Sr []), (V.sl 2 1 (List.map a7 ([] : List (List a6))))])]⟩), (6, vS 3 (j4 o17))], 100⟩ rfl ?_
       rw [show (o21.2 != 0) = false by assumption]
       refine et (rW (t := false) rfl rfl) <| et d6 <| kg oI rfl (fun (o32 : Int × Str) => ⟨[(1, (Sr a1)), (4, (Pt 4)), (6, (Pt 6)), (10, (I o32.1)), (12, (Sr o32.2))], [(4, ⟨false, 3, [(V.agg [(Sr []), (Sr []), (V.sl 2 1 (List.map a7 ([] : List (List a6))))])]⟩), (6, vS 3 (j4 o17))], 100⟩) (rd 2 [(87, (b7 a0)), (88, (j4 o17))] rfl rfl <| rp rfl (d7 rfl rfl rfl rfl rfl (I0 k a0 o17) (.inl rfl)) fun v31 => b5 rfl) fun o32 => kg pw rfl (fun (o33 : Bool × b8) => ⟨[(4, (Pt 4)), (5, (Bo o33.1))], [(4, vS 3 (j4 o33.2))], 100⟩) ?_ fun o33 => ?_
       ·refine rd 4 [(92, (j4 o17)), (93, (I o32.1)), (94, (Bo (o32.1 == 0))), (95, (Bo (o32.1 == 0)))] rfl rfl <| n5 (fun hc => ?_) fun hc => ?_
        ·rw [hc]
         exact d5 rfl
        ·rw [hc]
         exact d5 rfl
       refine et i1 ?_
       rfl
    ·intro s; exact rfl
   ·rw [hc]
    refine et d6 <| kg vj rfl (fun (o35 : Int × Int) => ⟨[(1, (Sr a1)), (2, (Pt 2)), (4, (Pt 4)), (6, (Pt 6)), (7, (Sr o5)), (9, (I o35.1)), (10, (I o35.2))], [(2, vS 4 (b7 a0)), (4, ⟨false, 3, [(V.agg [(Sr []), (Sr []), (V.sl 2 1 (List.map a7 ([] : List (List a6))))])]⟩), (6, vS 3 (j4 o3))], 100⟩) (rd 3 [(47, (b7 a0)), (48, (Pt 6)), (49, (Sr o3.fSegment))] rfl rfl <| rp rfl (d7 rfl rfl rfl rfl rfl (iP k a0 o3.fSegment) (.inl rfl)) fun v34 => b5 rfl) fun o35 => et b6 <| kra [(54, (Bo (o35.2 != 0)))] rfl <| kc rfl rfl (fun hc => ?_) fun hc => ?_
    ·rw [hc]
     refine et b6 <| kr ⟨[(4, (Pt 4)), (5, (Bo false))], [(4, ⟨false, 3, [(j4 ({ fSegment := [], fCodes := [], fWhen := ([] : List (List a6)) } : b8))]⟩)], 100⟩ rfl <| et n6 ?_
     rfl
    ·rw [hc]
     refine et d6 <| et b6 <| kr ⟨[(1, (Sr a1)), (2, (Pt 2)), (4, (Pt 4)), (6, (Pt 6)), (7, (Sr o5)), (9, (I o35.1)), (10, (I o35.2)), (11, (I (o5.length : Int)))], [(2, vS 4 (b7 a0)), (4, ⟨false, 3, [(V.agg [(Sr []), (Sr []), (V.sl 2 1 (List.map a7 ([] : List (List a6))))])]⟩), (6, vS 3 (j4 o3))], 100⟩ rfl <| et b6 <| kga tY rfl (fun (o38 : Bool) => [(71, (Bo o38))]) ?_ fun o38 => ?_
     ·refine rd 3 [(58, (I (o5.length : Int))), (59, (Bo (decide ((o5.length : Int) > 2)))), (60, (Bo (decide ((o5.length : Int) > 2))))] rfl rfl <| n5 (fun hc => ?_) fun hc => ?_
      ·rw [hc]
       refine rd 4 [(61, (Sr o5))] rfl rfl <| rp rfl (w7 rfl rfl rfl underlying9) fun v36 => bd 8 [(62, (V.int .u8 v36)), (63, (Bo (v36 == 40))), (64, (Bo (v36 == 40))), (65, (Bo (v36 == 40)))] rfl rfl <| n5 (fun hc => ?_) fun hc => ?_
       ·rw [hc]
        exact rd 11 [(66, (Sr o5)), (67, (I (o5.length : Int))), (68, (I (Go.IntKind.wrap .i64 ((o5.length : Int) - 1))))] rfl rfl <| rp rfl (w7 rfl rfl rfl underlying9) fun v37 => b5 rfl
       ·rw [hc]
        exact d5 rfl
      ·rw [hc]
       exact d5 rfl
     refine kc rfl rfl (fun hc => ?_) fun hc => ?_
     ·rw [hc]
      refine kd vc rfl (fun (o41 : Int × b8) => ⟨[(1, (Sr a1)), (2, (Pt 2)), (4, (Pt 4)), (6, (Pt 6)), (10, (I o41.1))], [(2, vS 4 (b7 a0)), (4, ⟨false, 3, [(V.agg [(Sr []), (Sr []), (V.sl 2 1 (List.map a7 ([] : List (List a6))))])]⟩), (6, vS 3 (j4 o41.2))], 100⟩) (et (j2 (p := 11) (dk := false) (t := [(1, (Sr a1)), (2, (Pt 2)), (4, (Pt 4)), (6, (Pt 6)), (7, (Sr o5)), (9, (I o35.1)), (10, (I o35.2)), (11, (I (o5.length : Int))), (71, (Bo true))]) (σ := [(2, vS 4 (b7 a0)), (4, ⟨false, 3, [(V.agg [(Sr []), (Sr []), (V.sl 2 1 (List.map a7 ([] : List (List a6))))])]⟩), (6, vS 3 (j4 o3))]) (n := 100) rfl (by decide) (by decide) rfl) <| et (j9 (m := 5) (j := 5) (t' := [(1, (Sr a1)), (2, (Pt 2)), (4, (Pt 4)), (6, (Pt 6)), (7, (Sr o5)), (9, (I o35.1)), (10, (I o35.2)), (11, (I (o5.length : Int))), (71, (Bo true)), (73, (b7 a0)), (74, (I o35.1)), (75, (Sr o5)), (76, (I (o5.length : Int))), (77, (I (Go.IntKind.wrap .i64 ((o5.length : Int) - 1))))]) rfl rfl rfl) <| et (c9 (x := (cut o5 1 (Go.IntKind.wrap .i64 ((o5.length : Int) - 1)))) (w := fun v39 => (Sr v39)) rfl rfl rfl rfl rfl (w5 rfl rfl rfl rfl rfl rfl underlying9)) <| j6 fun v39 => et (i7 (m := 0) (j := 6) (t' := [(1, (Sr a1)), (2, (Pt 2)), (4, (Pt 4)), (6, (Pt 6)), (7, (Sr o5)), (9, (I o35.1)), (10, (I o35.2)), (11, (I (o5.length : Int))), (71, (Bo true)), (73, (b7 a0)), (74, (I o35.1)), (75, (Sr o5)), (76, (I (o5.length : Int))), (77, (I (Go.IntKind.wrap .i64 ((o5.length : Int) - 1)))), (78, (Sr v39))]) rfl rfl rfl) <| et (c9 (x := (Q2 k a0 o35.1 v39)) (w := fun v40 => (V.tup [(V.sl 0 1 (List.map a7 v40.1)), (I v40.2)])) rfl rfl rfl rfl rfl (d7 rfl rfl rfl rfl rfl (iE k a0 o35.1 v39) (.inl rfl))) <| j6 fun v40 => j8 rfl) fun o41 => et b6 <| kr ⟨[(1, (Sr a1)), (2, (Pt 2)), (4, (Pt 4)), (6, (Pt 6)), (84, (Bo (o41.1 != 0)))], [(2, vS 4 (b7 a0)), (4, ⟨false, 3, [(V.agg [(Sr []), (Sr []), (V.sl 2 1 (List.map a7 ([] : List (List a6))))])]⟩), (6, vS 3 (j4 o41.2))], 100⟩ rfl <| kc rfl rfl (fun hc => ?_) fun hc => ?_
      ·rw [hc]
       refine et b6 <| kr ⟨[(4, (Pt 4)), (5, (Bo false))], [(4, ⟨false, 3, [(j4 ({ fSegment := [], fCodes := [], fWhen := ([] : List (List a6)) } : b8))]⟩)], 100⟩ rfl <| et n6 ?_
       rfl
      ·rw [hc]
       refine et d6 <| kg oI rfl (fun (o43 : Int × Str) => ⟨[(1, (Sr a1)), (4, (Pt 4)), (6, (Pt 6)), (10, (I o43.1)), (12, (Sr o43.2))], [(4, ⟨false, 3, [(V.agg [(Sr []), (Sr []), (V.sl 2 1 (List.map a7 ([] : List (List a6))))])]⟩), (6, vS 3 (j4 o41.2))], 100⟩) (rd 2 [(87, (b7 a0)), (88, (j4 o41.2))] rfl rfl <| rp rfl (d7 rfl rfl rfl rfl rfl (I0 k a0 o41.2) (.inl rfl)) fun v42 => b5 rfl) fun o43 => kg pw rfl (fun (o44 : Bool × b8) => ⟨[(4, (Pt 4)), (5, (Bo o44.1))], [(4, vS 3 (j4 o44.2))], 100⟩) ?_ fun o44 => ?_
       ·refine rd 4 [(92, (j4 o41.2)), (93, (I o43.1)), (94, (Bo (o43.1 == 0))), (95, (Bo (o43.1 == 0)))] rfl rfl <| n5 (fun hc => ?_) fun hc => ?_
        ·rw [hc]
         exact d5 rfl
        ·rw [hc]
         exact d5 rfl
       refine et i1 ?_
       rfl
     ·rw [hc]
      refine et d6 <| et b6 <| kr ⟨[(1, (Sr a1)), (2, (Pt 2)), (4, (Pt 4)), (6, (Pt 6)), (84, (Bo (o35.2 != 0)))], [(2, vS 4 (b7 a0)), (4, ⟨false, 3, [(V.agg [(Sr []), (Sr []), (V.sl 2 1 (List.map a7 ([] : List (List a6))))])]⟩), (6, vS 3 (j4 o3))], 100⟩ rfl ?_
      rw [show (o35.2 != 0) = false by assumption]
      refine et (rW (t := false) rfl rfl) <| et d6 <| kg oI rfl (fun (o46 : Int × Str) => ⟨[(1, (Sr a1)), (4, (Pt 4)), (6, (Pt 6)), (10, (I o46.1)), (12, (Sr o46.2))], [(4, ⟨false, 3, [(V.agg [(Sr []), (Sr []), (V.sl 2 1 (List.map a7 ([] : List (List a6))))])]⟩), (6, vS 3 (j4 o3))], 100⟩) (rd 2 [(87, (b7 a0)), (88, (j4 o3))] rfl rfl <| rp rfl (d7 rfl rfl rfl rfl rfl (I0 k a0 o3) (.inl rfl)) fun v45 => b5 rfl) fun o46 => kg pw rfl (fun (o47 : Bool × b8) => ⟨[(4, (Pt 4)), (5, (Bo o47.1))], [(4, vS 3 (j4 o47.2))], 100⟩) ?_ fun o47 => ?_
      ·refine rd 4 [(92, (j4 o3)), (93, (I o46.1)), (94, (Bo (o46.1 == 0))), (95, (Bo (o46.1 == 0)))] rfl rfl <| n5 (fun hc => ?_) fun hc => ?_
       ·rw [hc]
        exact d5 rfl
       ·rw [hc]
        exact d5 rfl
      refine et i1 ?_
      rfl
def qf : (b8 × Int) → V × List V := fun r => (.tup [(j4 r.1), (I r.2)], [])
theorem mf (k : Nat) (a0 : a8) (a1 : Str) : EV k 10 [(b7 a0), (Sr a1)] = (bY k a0 a1).map qf := by
 cases k with
 | zero => rfl
 | succ k =>
  unfold bY
  refine et (i5 (c := f10c) (N := 22) (regs := OU) rfl func10 rfl (by decide) rfl rfl rfl) <| kr ⟨[(1, (Sr a1)), (2, (Pt 2)), (4, (Pt 4))], [(2, vS 4 (b7 a0)), (4, ⟨false, 3, [(V.agg [(Sr []), (Sr []), (V.sl 2 1 (List.map a7 ([] : List (List a6))))])]⟩)], 22⟩ rfl <| et b6 <| kga DV rfl (fun (o2 : Bool) => [(10, (Bo o2))]) (rd 1 [(8, (b7 a0))] rfl rfl <| rp rfl (d7 rfl rfl rfl rfl rfl (gX k a0) (.inl rfl)) fun v1 => b5 rfl) fun o2 => kc rfl rfl (fun hc => ?_) fun hc => ?_
  ·rw [hc]
   refine et b6 <| kr ⟨[(4, (Pt 4)), (5, (I 100))], [(4, ⟨false, 3, [(j4 ({ fSegment := [], fCodes := [], fWhen := ([] : List (List a6)) } : b8))]⟩)], 22⟩ rfl <| et n6 ?_
   rfl
  ·rw [hc]
   refine et d6 <| kg DZ rfl (fun (o4 : Bool × b8) => ⟨[(4, (Pt 4)), (6, (Pt 6)), (7, (Bo o4.1))], [(4, ⟨false, 3, [(V.agg [(Sr []), (Sr []), (V.sl 2 1 (List.map a7 ([] : List (List a6))))])]⟩), (6, vS 3 (j4 o4.2))], 22⟩) (rd 2 [(13, (b7 a0)), (14, (Sr a1))] rfl rfl <| rp rfl (d7 rfl rfl rfl rfl rfl (rY k a0 a1) (.inl rfl)) fun v3 => b5 rfl) fun o4 => et b6 <| kr ⟨[(4, (Pt 4)), (6, (Pt 6)), (19, (Bo (!o4.1)))], [(4, ⟨false, 3, [(V.agg [(Sr []), (Sr []), (V.sl 2 1 (List.map a7 ([] : List (List a6))))])]⟩), (6, vS 3 (j4 o4.2))], 22⟩ rfl <| kc rfl rfl (fun hc => ?_) fun hc => ?_
   ·rw [hc]
    refine et b6 <| kr ⟨[(4, (Pt 4)), (5, (I 3))], [(4, ⟨false, 3, [(j4 ({ fSegment := [], fCodes := [], fWhen := ([] : List (List a6)) } : b8))]⟩)], 22⟩ rfl <| et n6 ?_
    rfl
   ·rw [hc]
    refine et d6 <| kr ⟨[(4, (Pt 4)), (5, (I 0))], [(4, vS 3 (j4 o4.2))], 22⟩ rfl <| et i1 ?_
    rfl
def U5 : (a6 × Str × Bool) → V × List V := fun r => (.tup [(d4 r.1), (Sr r.2.1), (Bo r.2.2)], [])
theorem mb (k : Nat) (a0 : a8) (a1 : Int) (a2 : Str) (x26 : Int) (o31 : i4)  (K0 : Int → Option (a6 × Str × Bool)) (Kst : X × St → Option (V × List V)) (hK0 : ∀ (y0 : Int), Kst (X.exit 2, ⟨[(1, (I a1)), (2, (Sr a2)), (3, (Pt 3)), (6, (Pt 6)), (9, (I x26)), (10, (Pt 10)), (11, (I y0)), (35, (Bo false))], [(3, vS 4 (b7 a0)), (6, ⟨false, 3, [(V.agg [(Sr []), (I 0), (Sr [])])]⟩), (10, vS 3 (l5 o31))], 78⟩) = (K0 y0).map U5) (hret : ∀ s, Kst (X.ret, s) = F6 prog 78 [(b7 a0), (I a1), (Sr a2)] [] [.cell 6 55, .tmp 7, .tmp 8] (X.ret, s)) :
  ∀ (m : Nat) (x41 : Int), (D1 (u1 prog (EV k) BF k Dn) m ⟨[(1, (I a1)), (2, (Sr a2)), (3, (Pt 3)), (6, (Pt 6)), (9, (I x26)), (10, (Pt 10)), (11, (I x41))], [(3, vS 4 (b7 a0)), (6, ⟨false, 3, [(V.agg [(Sr []), (I 0), (Sr [])])]⟩), (10, vS 3 (l5 o31))], 78⟩).bind Kst = (F1 k a2 o31 K0 m x41).map U5 := by
 intro m
 induction m with
 | zero => intros; rfl
 | succ m ih =>
  intro x41
  unfold F1
  refine et l9 <| et b6 <| kra [(35, (Bo (decide (x41 ≤ 6))))] rfl <| kc rfl rfl (fun hc => ?_) fun hc => ?_
  ·rw [hc]
   refine et d6 <| et (i9 rfl) <| kg Eu rfl (fun (o45 : Str) => ⟨[(1, (I a1)), (2, (Sr a2)), (3, (Pt 3)), (6, (Pt 6)), (9, (I x26)), (10, (Pt 10)), (11, (I x41)), (12, (Sr o45))], [(3, vS 4 (b7 a0)), (6, ⟨false, 3, [(V.agg [(Sr []), (I 0), (Sr [])])]⟩), (10, vS 3 (l5 o31))], 78⟩) (rd 2 [(38, (Pt 10)), (39, (Sr o31.fName))] rfl rfl <| rp rfl (d7 rfl rfl rfl rfl rfl (w4 k o31.fName) (.inl rfl)) fun v42 => bd 4 [(40, (Sr v42)), (41, (I x41))] rfl rfl <| rp rfl (d7 rfl rfl rfl rfl rfl (H6 k x41) (.inl rfl)) fun v43 => bd 5 [(42, (Sr v43))] rfl rfl <| rs rfl (E9 rfl rfl rfl) fun v44 => b5 rfl) fun o45 => kga CB rfl (fun (o47 : Bool) => [(59, (Bo o47))]) ?_ fun o47 => ?_
   ·refine rd 9 [(44, (Sr a2)), (45, (I (a2.length : Int))), (46, (Sr o45)), (47, (I (o45.length : Int))), (48, (V.ptr 10 0 2)), (49, (I o31.fBytes)), (50, (I (Go.IntKind.wrap .i64 ((o45.length : Int) + o31.fBytes)))), (51, (Bo (decide ((a2.length : Int) ≥ (Go.IntKind.wrap .i64 ((o45.length : Int) + o31.fBytes)))))), (52, (Bo (decide ((a2.length : Int) ≥ (Go.IntKind.wrap .i64 ((o45.length : Int) + o31.fBytes))))))] rfl rfl <| n5 (fun hc => ?_) fun hc => ?_
    ·rw [hc]
     exact rd 12 [(53, (Sr a2)), (54, (Sr o45)), (55, (I (o45.length : Int)))] rfl rfl <| rp rfl (w5 rfl rfl rfl rfl rfl rfl underlying9) fun v46 => b5 rfl
    ·rw [hc]
     exact d5 rfl
   refine kcl rfl rfl (fun hc => ?_) fun hc => ?_
   ·rw [hc]
    refine kr ⟨[(2, (Sr a2)), (6, (Pt 6)), (10, (Pt 10)), (11, (I x41)), (12, (Sr o45)), (13, (I (Go.IntKind.wrap .i64 ((o45.length : Int) + o31.fBytes))))], [(6, ⟨false, 3, [(V.agg [(Sr []), (I 0), (Sr [])])]⟩), (10, vS 3 (l5 o31))], 78⟩ rfl <| kd Ak rfl (fun (o50 : Str × Bool × a6) => ⟨[(6, (Pt 6)), (7, (Sr o50.1)), (8, (Bo o50.2.1))], [(6, vS 3 (d4 o50.2.2))], 78⟩) (et (j2 (p := 12) (dk := false) (t := [(2, (Sr a2)), (6, (Pt 6)), (10, (Pt 10)), (11, (I x41)), (12, (Sr o45)), (13, (I (Go.IntKind.wrap .i64 ((o45.length : Int) + o31.fBytes))))]) (σ := [(6, ⟨false, 3, [(V.agg [(Sr []), (I 0), (Sr [])])]⟩), (10, vS 3 (l5 o31))]) (n := 78) rfl (by decide) (by decide) rfl) <| et (j9 (m := 7) (j := 7) (t' := [(2, (Sr a2)), (6, (Pt 6)), (10, (Pt 10)), (11, (I x41)), (12, (Sr o45)), (13, (I (Go.IntKind.wrap .i64 ((o45.length : Int) + o31.fBytes)))), (65, (Pt 10)), (66, (Sr o31.fName)), (67, (I x41)), (68, (Sr a2)), (69, (Sr o45)), (70, (I (o45.length : Int))), (71, (I (Go.IntKind.wrap .i64 ((o45.length : Int) + o31.fBytes))))]) rfl rfl rfl) <| et (c9 (x := (cut a2 (o45.length : Int) (Go.IntKind.wrap .i64 ((o45.length : Int) + o31.fBytes)))) (w := fun v48 => (Sr v48)) rfl rfl rfl rfl rfl (w5 rfl rfl rfl rfl rfl rfl underlying9)) <| j6 fun v48 => et (i7 (m := 3) (j := 11) (t' := [(2, (Sr a2)), (6, (Pt 6)), (10, (Pt 10)), (11, (I x41)), (12, (Sr o45)), (13, (I (Go.IntKind.wrap .i64 ((o45.length : Int) + o31.fBytes)))), (65, (Pt 10)), (66, (Sr o31.fName)), (67, (I x41)), (68, (Sr a2)), (69, (Sr o45)), (70, (I (o45.length : Int))), (71, (I (Go.IntKind.wrap .i64 ((o45.length : Int) + o31.fBytes)))), (72, (Sr v48)), (73, (d4 ({ fField := o31.fName, fOp := x41, fValue := v48 } : a6))), (74, (Sr a2)), (75, (I (Go.IntKind.wrap .i64 ((o45.length : Int) + o31.fBytes))))]) rfl rfl rfl) <| et (c9 (x := (cut a2 (Go.IntKind.wrap .i64 ((o45.length : Int) + o31.fBytes)) (a2.length : Int))) (w := fun v49 => (Sr v49)) rfl rfl rfl rfl rfl (w5 rfl rfl rfl rfl rfl rfl underlying9)) <| j6 fun v49 => j8 rfl) fun o50 => et i1 <| et l6 <| et l8 <| et (hret _) ?_
    rfl
   ·rw [hc]
    exact et m9 <| et i6 <| kl ⟨[(1, (I a1)), (2, (Sr a2)), (3, (Pt 3)), (6, (Pt 6)), (9, (I x26)), (10, (Pt 10)), (11, (I (Go.IntKind.wrap .i64 (x41 + 1))))], [(3, vS 4 (b7 a0)), (6, ⟨false, 3, [(V.agg [(Sr []), (I 0), (Sr [])])]⟩), (10, vS 3 (l5 o31))], 78⟩ rfl <| et i3 <| ih (Go.IntKind.wrap .i64 (x41 + 1))
  ·rw [hc]
   exact et p7 <| et j3 <| hK0 x41
theorem lQ (k : Nat) (a0 : a8) (a1 : Int) (a2 : Str)  (K0 : Int → Option (a6 × Str × Bool)) (Kst : X × St → Option (V × List V)) (hK0 : ∀ (y0 : Int), Kst (X.exit 0, ⟨[(1, (I a1)), (2, (Sr a2)), (3, (Pt 3)), (6, (Pt 6)), (9, (I y0)), (22, (Bo false))], [(3, vS 4 (b7 a0)), (6, ⟨false, 3, [(V.agg [(Sr []), (I 0), (Sr [])])]⟩)], 78⟩) = (K0 y0).map U5) (hret : ∀ s, Kst (X.ret, s) = F6 prog 78 [(b7 a0), (I a1), (Sr a2)] [] [.cell 6 55, .tmp 7, .tmp 8] (X.ret, s)) :
  ∀ (m : Nat) (x26 : Int), (D1 (u1 prog (EV k) BF k CT) m ⟨[(1, (I a1)), (2, (Sr a2)), (3, (Pt 3)), (6, (Pt 6)), (9, (I x26))], [(3, vS 4 (b7 a0)), (6, ⟨false, 3, [(V.agg [(Sr []), (I 0), (Sr [])])]⟩)], 78⟩).bind Kst = (N5 k a0 a1 a2 K0 m x26).map U5 := by
 intro m
 induction m with
 | zero => intros; rfl
 | succ m ih =>
  intro x26
  unfold N5
  refine et l9 <| et b6 <| kga CW rfl (fun (o28 : Bool) => [(22, (Bo o28))]) (rd 4 [(14, (I x26)), (15, (V.ptr 3 0 2)), (16, (l7 a0.fTypes)), (17, (I a1))] rfl rfl <| rp rfl (i2 (e := j0) rfl rfl rfl underlying22 rfl (by decide)) fun v27 => bd 7 [(18, (Pr (j0 v27))), (19, (Pr (k0 v27.fFields))), (20, (k0 v27.fFields))] rfl rfl <| rl rfl (n7 (e := l5) rfl rfl rfl rfl rfl rfl underlying46) <| b5 rfl) fun o28 => kc rfl rfl (fun hc => ?_) fun hc => ?_
  ·rw [hc]
   refine et d6 <| et (i9 rfl) <| kg FF rfl (fun (o31 : i4) => ⟨[(1, (I a1)), (2, (Sr a2)), (3, (Pt 3)), (6, (Pt 6)), (9, (I x26)), (10, (Pt 10))], [(3, vS 4 (b7 a0)), (6, ⟨false, 3, [(V.agg [(Sr []), (I 0), (Sr [])])]⟩), (10, vS 3 (l5 o31))], 78⟩) (rd 3 [(25, (V.ptr 3 0 2)), (26, (l7 a0.fTypes)), (27, (I a1))] rfl rfl <| rp rfl (i2 (e := j0) rfl rfl rfl underlying22 rfl (by decide)) fun v29 => bd 7 [(28, (Pr (j0 v29))), (29, (Pr (k0 v29.fFields))), (30, (k0 v29.fFields)), (31, (I x26))] rfl rfl <| rs rfl (i2 (e := l5) rfl rfl rfl underlying46 rfl (by decide)) fun v30 => b5 rfl) fun o31 => kra [(11, (I 1))] rfl <| et (G7 rfl) <| et p8 ?_
   refine mb k a0 a1 a2 x26 o31 _ _ ?h_ref12_Front_L2_0 ?hr_ref12_Front_L2 k 1
   ·intro y51
    exact et j5 <| et m9 <| et i6 <| kl ⟨[(1, (I a1)), (2, (Sr a2)), (3, (Pt 3)), (6, (Pt 6)), (9, (I (Go.IntKind.wrap .i64 (x26 + 1))))], [(3, vS 4 (b7 a0)), (6, ⟨false, 3, [(V.agg [(Sr []), (I 0), (Sr [])])]⟩)], 78⟩ rfl <| et i3 <| ih (Go.IntKind.wrap .i64 (x26 + 1))
   ·intro s; exact hret s
  ·rw [hc]
   exact et p7 <| et j3 <| hK0 x26
theorem eU (k : Nat) (a0 : a8) (a1 : Int) (a2 : Str) : EV k 95 [(b7 a0), (I a1), (Sr a2)] = (cD k a0 a1 a2).map U5 := by
 cases k with
 | zero => rfl
 | succ k =>
  unfold cD
  refine et (i5 (c := f95c) (N := 78) (regs := BF) rfl func95 rfl (by decide) rfl rfl rfl) <| kr ⟨[(1, (I a1)), (2, (Sr a2)), (3, (Pt 3)), (6, (Pt 6))], [(3, vS 4 (b7 a0)), (6, ⟨false, 3, [(V.agg [(Sr []), (I 0), (Sr [])])]⟩)], 78⟩ rfl <| et b6 <| kra [(9, (I 0))] rfl <| et (i9 rfl) <| et p8 ?_
  refine lQ k a0 a1 a2 _ _ ?h_ref12_Front_L1_0 ?hr_ref12_Front_L1 k 0
  ·intro y52
   refine et j5 <| kr ⟨[(6, (Pt 6)), (7, (Sr ([] : Str))), (8, (Bo false))], [(6, ⟨false, 3, [(d4 ({ fField := [], fOp := 0, fValue := [] } : a6))]⟩)], 78⟩ rfl <| et i1 ?_
   rfl
  ·intro s; exact rfl
def hQ : ((List (List a6)) × Str × Bool) → V × List V := fun r => (.tup [(V.sl 0 1 (List.map a7 r.1)), (Sr r.2.1), (Bo r.2.2)], [])
theorem ml (k : Nat) (a0 : a8) (a1 : Int) (a2 : Str)   (Kst : X × St → Option (V × List V))  (hret : ∀ s, Kst (X.ret, s) = F6 prog 56 [(b7 a0), (I a1), (Sr a2)] [] [.tmp 6, .tmp 7, .tmp 8] (X.ret, s)) :
  ∀ (m : Nat) (x17 : Str) (x18 : (List a6)) (x19 : (List (List a6))), (D1 (u1 prog (EV k) Li k Ff) m ⟨[(1, (I a1)), (2, (Sr x17)), (3, (Pt 3)), (9, (V.sl 1 1 (List.map a7 x19))), (10, (V.sl 1 3 (List.map d4 x18)))], [(3, vS 4 (b7 a0))], 56⟩).bind Kst = (M5 k a0 a1 m x17 x18 x19).map hQ := by
 intro m
 induction m with
 | zero => intros; rfl
 | succ m ih =>
  intro x17 x18 x19
  unfold M5
  refine et l9 <| et (G7 rfl) <| kg DG rfl (fun (o21 : Str × Bool × a6) => ⟨[(1, (I a1)), (3, (Pt 3)), (9, (V.sl 1 1 (List.map a7 x19))), (10, (V.sl 1 3 (List.map d4 x18))), (11, (Pt 11)), (12, (Sr o21.1)), (13, (Bo o21.2.1))], [(3, vS 4 (b7 a0)), (11, vS 3 (d4 o21.2.2))], 56⟩) (rd 3 [(15, (b7 a0)), (16, (I a1)), (17, (Sr x17))] rfl rfl <| rp rfl (d7 rfl rfl rfl rfl rfl (eU k a0 a1 x17) (.inl rfl)) fun v20 => b5 rfl) fun o21 => et b6 <| kr ⟨[(1, (I a1)), (3, (Pt 3)), (9, (V.sl 1 1 (List.map a7 x19))), (10, (V.sl 1 3 (List.map d4 x18))), (11, (Pt 11)), (12, (Sr o21.1)), (23, (Bo (!o21.2.1)))], [(3, vS 4 (b7 a0)), (11, vS 3 (d4 o21.2.2))], 56⟩ rfl <| kc rfl rfl (fun hc => ?_) fun hc => ?_
  ·rw [hc]
   refine et b6 <| kr ⟨[(6, (V.sl 0 1 (List.map a7 ([] : List (List a6))))), (7, (Sr ([] : Str))), (8, (Bo false))], [], 56⟩ rfl <| et n6 <| et l6 <| et l8 <| et (hret _) ?_
   rfl
  ·rw [hc]
   refine et d6 <| kg FG rfl (fun (o23 : (List a6)) => ⟨[(1, (I a1)), (3, (Pt 3)), (9, (V.sl 1 1 (List.map a7 x19))), (10, (V.sl 1 3 (List.map d4 o23))), (12, (Sr o21.1))], [(3, vS 4 (b7 a0))], 56⟩) (ra 3 3 ⟨[(1, (I a1)), (3, (Pt 3)), (9, (V.sl 1 1 (List.map a7 x19))), (10, (a7 x18)), (11, (Pt 11)), (12, (Sr o21.1)), (23, (Bo false)), (24, (V.sl 1 3 (List.map d4 x18))), (25, (d4 o21.2.2)), (26, (a7 (([o21.2.2] : List a6))))], [(3, vS 4 (b7 a0)), (11, vS 3 (d4 o21.2.2))], 56⟩ rfl rfl rfl <| et (P4 (x := (app x18 ([o21.2.2] : List a6))) (w := fun v22 => ((V.sl 1 3 (List.map d4 v22)), _)) rfl rfl rfl rfl (nx (e := d4) rfl rfl rfl rfl rfl rfl rfl rfl rfl rfl (by decide))) <| B7 fun v22 => b5 rfl) fun o23 => et b6 <| kga Cj rfl (fun (o25 : Bool) => [(34, (Bo o25))]) ?_ fun o25 => ?_
   ·refine rd 3 [(28, (Sr o21.1)), (29, (Bo (!(o21.1 == ([] : Str))))), (30, (Bo (!(o21.1 == ([] : Str)))))] rfl rfl <| n5 (fun hc => ?_) fun hc => ?_
    ·rw [hc]
     exact rd 4 [(31, (Sr o21.1))] rfl rfl <| rp rfl (w7 rfl rfl rfl underlying9) fun v24 => b5 rfl
    ·rw [hc]
     exact d5 rfl
   refine kc rfl rfl (fun hc => ?_) fun hc => ?_
   ·rw [hc]
    exact et b6 <| kg CF rfl (fun (o27 : Str) => ⟨[(1, (I a1)), (2, (Sr o27)), (3, (Pt 3)), (9, (V.sl 1 1 (List.map a7 x19))), (10, (V.sl 1 3 (List.map d4 o23)))], [(3, vS 4 (b7 a0))], 56⟩) (rd 1 [(35, (Sr o21.1))] rfl rfl <| rs rfl (w5 rfl rfl rfl rfl rfl rfl underlying9) fun v26 => b5 rfl) fun o27 => et p7 <| et j5 <| et m9 <| et i3 <| ih o27 o23 x19
   ·rw [hc]
    refine et d6 <| kg Db rfl (fun (o29 : (List (List a6))) => ⟨[(1, (I a1)), (3, (Pt 3)), (9, (V.sl 1 1 (List.map a7 o29))), (12, (Sr o21.1))], [(3, vS 4 (b7 a0))], 56⟩) (ra 3 3 ⟨[(1, (I a1)), (3, (Pt 3)), (9, (V.sl 0 1 (List.map a7 x19))), (10, (V.sl 1 3 (List.map d4 o23))), (12, (Sr o21.1)), (34, (Bo false)), (37, (V.sl 1 1 (List.map a7 x19))), (38, (a7 o23)), (39, (V.sl 0 1 (List.map a7 ([o23] : List (List a6)))))], [(3, vS 4 (b7 a0))], 56⟩ rfl rfl rfl <| et (P4 (x := (app x19 ([o23] : List (List a6)))) (w := fun v28 => ((V.sl 1 1 (List.map a7 v28)), _)) rfl rfl rfl rfl (nx (e := a7) rfl rfl rfl rfl rfl rfl rfl rfl rfl rfl (by decide))) <| B7 fun v28 => b5 rfl) fun o29 => kr ⟨[(1, (I a1)), (3, (Pt 3)), (9, (V.sl 1 1 (List.map a7 o29))), (10, (V.sl 1 3 (List.map d4 ([] : List a6)))), (12, (Sr o21.1))], [(3, vS 4 (b7 a0))], 56⟩ rfl <| et b6 <| kga xf rfl (fun (o31 : Bool) => [(47, (Bo o31))]) ?_ fun o31 => ?_
    ·refine rd 3 [(41, (Sr o21.1)), (42, (Bo (o21.1 == ([] : Str)))), (43, (Bo (o21.1 == ([] : Str))))] rfl rfl <| n5 (fun hc => ?_) fun hc => ?_
     ·rw [hc]
      exact d5 rfl
     ·rw [hc]
      exact rd 4 [(44, (Sr o21.1))] rfl rfl <| rp rfl (w7 rfl rfl rfl underlying9) fun v30 => b5 rfl
    refine kc rfl rfl (fun hc => ?_) fun hc => ?_
    ·rw [hc]
     refine et b6 <| kg ye rfl (fun (o33 : (List (List a6)) × Str × Bool) => ⟨[(6, (V.sl 0 1 (List.map a7 o33.1))), (7, (Sr o33.2.1)), (8, (Bo o33.2.2))], [], 56⟩) (rd 5 [(48, (V.sl 0 1 (List.map a7 o29))), (49, (Sr o21.1)), (50, (b7 a0)), (51, (I a1)), (52, (V.sl 0 1 (List.map a7 o29)))] rfl rfl <| rp rfl (d7 rfl rfl rfl rfl rfl (w6 k a0 a1 o29) (.inl rfl)) fun v32 => b5 rfl) fun o33 => et n6 <| et l6 <| et l8 <| et (hret _) ?_
     rfl
    ·rw [hc]
     exact et d6 <| kgl AF rfl (fun (o35 : Str) => ⟨[(1, (I a1)), (2, (Sr o35)), (3, (Pt 3)), (9, (V.sl 1 1 (List.map a7 o29))), (10, (V.sl 1 3 (List.map d4 ([] : List a6))))], [(3, vS 4 (b7 a0))], 56⟩) (rd 1 [(54, (Sr o21.1))] rfl rfl <| rs rfl (w5 rfl rfl rfl rfl rfl rfl underlying9) fun v34 => b5 rfl) fun o35 => et i6 <| et m9 <| et i3 <| ih o35 ([] : List a6) o29
theorem iZ (k : Nat) (a0 : a8) (a1 : Int) (a2 : Str) : EV k 61 [(b7 a0), (I a1), (Sr a2)] = (P0 k a0 a1 a2).map hQ := by
 cases k with
 | zero => rfl
 | succ k =>
  unfold P0
  refine et (i5 (c := f61c) (N := 56) (regs := Li) rfl func61 rfl (by decide) rfl rfl rfl) <| kr ⟨[(1, (I a1)), (2, (Sr a2)), (3, (Pt 3))], [(3, vS 4 (b7 a0))], 56⟩ rfl <| kra [(9, (V.sl 1 1 (List.map a7 ([] : List (List a6)))))] rfl <| kra [(10, (V.sl 1 3 (List.map d4 ([] : List a6))))] rfl <| et (G7 rfl) <| et p8 ?_
  refine ml k a0 a1 a2 _ ?hr_ref12_Begin_L1 k a2 ([] : List a6) ([] : List (List a6))
  ·intro s; exact rfl
def V1 : (b8 × Str × Bool) → V × List V := fun r => (.tup [(j4 r.1), (Sr r.2.1), (Bo r.2.2)], [])
theorem kX (k : Nat) (a0 : a8) (a1 : Str)  (K0 : Int → Int → Option (b8 × Str × Bool)) (Kst : X × St → Option (V × List V)) (hK0 : ∀ (y0 : Int) (y1 : Int), Kst (X.exit 0, ⟨[(1, (Sr a1)), (2, (Pt 2)), (4, (Pt 4)), (7, (I y0)), (8, (I y1)), (19, (Bo false))], [(2, vS 4 (b7 a0)), (4, ⟨false, 3, [(V.agg [(Sr []), (Sr []), (V.sl 2 1 (List.map a7 ([] : List (List a6))))])]⟩)], 130⟩) = (K0 y0 y1).map V1) (hret : ∀ s, Kst (X.ret, s) = F6 prog 130 [(b7 a0), (Sr a1)] [] [.cell 4 28, .tmp 5, .tmp 6] (X.ret, s)) :
  ∀ (m : Nat) (x6 : Int) (x7 : Int), (D1 (u1 prog (EV k) Bw k EA) m ⟨[(1, (Sr a1)), (2, (Pt 2)), (4, (Pt 4)), (7, (I x6)), (8, (I x7))], [(2, vS 4 (b7 a0)), (4, ⟨false, 3, [(V.agg [(Sr []), (Sr []), (V.sl 2 1 (List.map a7 ([] : List (List a6))))])]⟩)], 130⟩).bind Kst = (u3 k a0 a1 K0 m x6 x7).map V1 := by
 intro m
 induction m with
 | zero => intros; rfl
 | succ m ih =>
  intro x6 x7
  unfold u3
  refine et l9 <| et b6 <| krp Cc rfl ⟨[(1, (Sr a1)), (2, (Pt 2)), (4, (Pt 4)), (7, (I x6)), (8, (I x7)), (19, (Bo (decide (x7 < (a0.fTypes.length : Int)))))], [(2, vS 4 (b7 a0)), (4, ⟨false, 3, [(V.agg [(Sr []), (Sr []), (V.sl 2 1 (List.map a7 ([] : List (List a6))))])]⟩)], 130⟩ ?_ ?_
  ·exact rd 3 [(15, (I x7)), (16, (V.ptr 2 0 2)), (17, (l7 a0.fTypes))] rfl rfl <| rl rfl (n7 (e := j0) rfl rfl rfl rfl rfl rfl underlying22) <| b5 rfl
  refine kc rfl rfl (fun hc => ?_) fun hc => ?_
  ·rw [hc]
   refine et d6 <| et (i9 rfl) <| kg Et rfl (fun (o10 : Str) => ⟨[(1, (Sr a1)), (2, (Pt 2)), (4, (Pt 4)), (7, (I x6)), (8, (I x7)), (9, (Sr o10))], [(2, vS 4 (b7 a0)), (4, ⟨false, 3, [(V.agg [(Sr []), (Sr []), (V.sl 2 1 (List.map a7 ([] : List (List a6))))])]⟩)], 130⟩) (rd 3 [(22, (V.ptr 2 0 2)), (23, (l7 a0.fTypes)), (24, (I x7))] rfl rfl <| rp rfl (i2 (e := j0) rfl rfl rfl underlying22 rfl (by decide)) fun v8 => bd 6 [(25, (Pr (j0 v8))), (26, (Pr (Sr v8.fName))), (27, (Sr v8.fName))] rfl rfl <| rs rfl (d7 rfl rfl rfl rfl rfl (w4 k v8.fName) (.inl rfl)) fun v9 => b5 rfl) fun o10 => kg EK rfl (fun (o12 : Bool) => ⟨[(1, (Sr a1)), (2, (Pt 2)), (4, (Pt 4)), (7, (I x6)), (8, (I x7)), (37, (Bo o12))], [(2, vS 4 (b7 a0)), (4, ⟨false, 3, [(V.agg [(Sr []), (Sr []), (V.sl 2 1 (List.map a7 ([] : List (List a6))))])]⟩)], 130⟩) ?_ fun o12 => ?_
   ·refine rd 4 [(29, (Sr a1)), (30, (I (a1.length : Int))), (31, (Bo (decide ((a1.length : Int) > 8)))), (32, (Bo (decide ((a1.length : Int) > 8))))] rfl rfl <| n5 (fun hc => ?_) fun hc => ?_
    ·rw [hc]
     exact rd 5 [(33, (Sr a1))] rfl rfl <| rp rfl (w5 rfl rfl rfl rfl rfl rfl underlying9) fun v11 => b5 rfl
    ·rw [hc]
     exact d5 rfl
   refine kcl rfl rfl (fun hc => ?_) fun hc => ?_
   ·rw [hc]
    exact kl ⟨[(1, (Sr a1)), (2, (Pt 2)), (4, (Pt 4)), (7, (I x7)), (8, (I x7))], [(2, vS 4 (b7 a0)), (4, ⟨false, 3, [(V.agg [(Sr []), (Sr []), (V.sl 2 1 (List.map a7 ([] : List (List a6))))])]⟩)], 130⟩ rfl <| et i6 <| kl ⟨[(1, (Sr a1)), (2, (Pt 2)), (4, (Pt 4)), (7, (I x7)), (8, (I (Go.IntKind.wrap .i64 (x7 + 1))))], [(2, vS 4 (b7 a0)), (4, ⟨false, 3, [(V.agg [(Sr []), (Sr []), (V.sl 2 1 (List.map a7 ([] : List (List a6))))])]⟩)], 130⟩ rfl <| et i3 <| ih x7 (Go.IntKind.wrap .i64 (x7 + 1))
   ·rw [hc]
    exact et m9 <| et i6 <| kl ⟨[(1, (Sr a1)), (2, (Pt 2)), (4, (Pt 4)), (7, (I x6)), (8, (I (Go.IntKind.wrap .i64 (x7 + 1))))], [(2, vS 4 (b7 a0)), (4, ⟨false, 3, [(V.agg [(Sr []), (Sr []), (V.sl 2 1 (List.map a7 ([] : List (List a6))))])]⟩)], 130⟩ rfl <| et i3 <| ih x6 (Go.IntKind.wrap .i64 (x7 + 1))
  ·rw [hc]
   exact et p7 <| et j3 <| hK0 x6 x7
theorem lB (k : Nat) (a0 : a8) (a1 : Str) (y13 : Int) (o16 : b8) (o18 : Str)  (K0 : Int → Option (b8 × Str × Bool)) (Kst : X × St → Option (V × List V)) (hK0 : ∀ (y0 : Int), Kst (X.exit 2, ⟨[(1, (Sr o18)), (2, (Pt 2)), (4, (Pt 4)), (7, (I y13)), (10, (Pt 10)), (11, (I y0)), (69, (Bo false))], [(2, vS 4 (b7 a0)), (4, ⟨false, 3, [(V.agg [(Sr []), (Sr []), (V.sl 2 1 (List.map a7 ([] : List (List a6))))])]⟩), (10, vS 3 (j4 o16))], 130⟩) = (K0 y0).map V1) (hret : ∀ s, Kst (X.ret, s) = F6 prog 130 [(b7 a0), (Sr a1)] [] [.cell 4 28, .tmp 5, .tmp 6] (X.ret, s)) :
  ∀ (m : Nat) (x24 : Int), (D1 (u1 prog (EV k) Bw k Dl) m ⟨[(1, (Sr o18)), (2, (Pt 2)), (4, (Pt 4)), (7, (I y13)), (10, (Pt 10)), (11, (I x24))], [(2, vS 4 (b7 a0)), (4, ⟨false, 3, [(V.agg [(Sr []), (Sr []), (V.sl 2 1 (List.map a7 ([] : List (List a6))))])]⟩), (10, vS 3 (j4 o16))], 130⟩).bind Kst = (I1 o18 K0 m x24).map V1 := by
 intro m
 induction m with
 | zero => intros; rfl
 | succ m ih =>
  intro x24
  unfold I1
  refine et l9 <| et b6 <| kga xn rfl (fun (o27 : Bool) => [(69, (Bo o27))]) ?_ fun o27 => ?_
  ·refine rd 5 [(54, (I x24)), (55, (Sr o18)), (56, (I (o18.length : Int))), (57, (Bo (decide (x24 < (o18.length : Int))))), (58, (Bo (decide (x24 < (o18.length : Int)))))] rfl rfl <| n5 (fun hc => ?_) fun hc => ?_
   ·rw [hc]
    refine rd 7 [(59, (Sr o18)), (60, (I x24))] rfl rfl <| rp rfl (w7 rfl rfl rfl underlying9) fun v25 => bd 11 [(61, (V.int .u8 v25)), (62, (Bo (decide (v25 ≥ 65)))), (63, (Bo (decide (v25 ≥ 65)))), (64, (Bo (decide (v25 ≥ 65))))] rfl rfl <| n5 (fun hc => ?_) fun hc => ?_
    ·rw [hc]
     exact rd 13 [(65, (Sr o18)), (66, (I x24))] rfl rfl <| rp rfl (w7 rfl rfl rfl underlying9) fun v26 => b5 rfl
    ·rw [hc]
     exact d5 rfl
   ·rw [hc]
    exact d5 rfl
  refine kc rfl rfl (fun hc => ?_) fun hc => ?_
  ·rw [hc]
   exact et d6 <| et (G7 rfl) <| kl ⟨[(1, (Sr o18)), (2, (Pt 2)), (4, (Pt 4)), (7, (I y13)), (10, (Pt 10)), (11, (I (Go.IntKind.wrap .i64 (x24 + 1))))], [(2, vS 4 (b7 a0)), (4, ⟨false, 3, [(V.agg [(Sr []), (Sr []), (V.sl 2 1 (List.map a7 ([] : List (List a6))))])]⟩), (10, vS 3 (j4 o16))], 130⟩ rfl <| et i6 <| et m9 <| et i3 <| ih (Go.IntKind.wrap .i64 (x24 + 1))
  ·rw [hc]
   exact et p7 <| et j3 <| hK0 x24
theorem pH (k : Nat) (a0 : a8) (a1 : Str) : EV k 31 [(b7 a0), (Sr a1)] = (cM k a0 a1).map V1 := by
 cases k with
 | zero => rfl
 | succ k =>
  unfold cM
  refine et (i5 (c := f31c) (N := 130) (regs := Bw) rfl func31 rfl (by decide) rfl rfl rfl) <| kr ⟨[(1, (Sr a1)), (2, (Pt 2)), (4, (Pt 4))], [(2, vS 4 (b7 a0)), (4, ⟨false, 3, [(V.agg [(Sr []), (Sr []), (V.sl 2 1 (List.map a7 ([] : List (List a6))))])]⟩)], 130⟩ rfl <| kra [(7, (I (-1)))] rfl <| et b6 <| kra [(8, (I 0))] rfl <| et (i9 rfl) <| et p8 ?_
  refine kX k a0 a1 _ _ ?h_ref14_Begin_L1_0 ?hr_ref14_Begin_L1 k (-1) 0
  ·intro y13 y14
   refine et j5 <| et b6 <| kr ⟨[(1, (Sr a1)), (2, (Pt 2)), (4, (Pt 4)), (7, (I y13)), (40, (Bo (decide (y13 < 0))))], [(2, vS 4 (b7 a0)), (4, ⟨false, 3, [(V.agg [(Sr []), (Sr []), (V.sl 2 1 (List.map a7 ([] : List (List a6))))])]⟩)], 130⟩ rfl <| kc rfl rfl (fun hc => ?_) fun hc => ?_
   ·rw [hc]
    refine et b6 <| kr ⟨[(4, (Pt 4)), (5, (Sr ([] : Str))), (6, (Bo false))], [(4, ⟨false, 3, [(j4 ({ fSegment := [], fCodes := [], fWhen := ([] : List (List a6)) } : b8))]⟩)], 130⟩ rfl <| et n6 ?_
    rfl
   ·rw [hc]
    refine et d6 <| kg yD rfl (fun (o16 : b8) => ⟨[(1, (Sr a1)), (2, (Pt 2)), (4, (Pt 4)), (7, (I y13)), (10, (Pt 10))], [(2, vS 4 (b7 a0)), (4, ⟨false, 3, [(V.agg [(Sr []), (Sr []), (V.sl 2 1 (List.map a7 ([] : List (List a6))))])]⟩), (10, vS 3 (j4 o16))], 130⟩) (rd 3 [(42, (V.ptr 2 0 2)), (43, (l7 a0.fTypes)), (44, (I y13))] rfl rfl <| rp rfl (i2 (e := j0) rfl rfl rfl underlying22 rfl (by decide)) fun v15 => b5 rfl) fun o16 => kg Ae rfl (fun (o18 : Str) => ⟨[(1, (Sr o18)), (2, (Pt 2)), (4, (Pt 4)), (7, (I y13)), (10, (Pt 10))], [(2, vS 4 (b7 a0)), (4, ⟨false, 3, [(V.agg [(Sr []), (Sr []), (V.sl 2 1 (List.map a7 ([] : List (List a6))))])]⟩), (10, vS 3 (j4 o16))], 130⟩) (rd 1 [(49, (Sr a1))] rfl rfl <| rs rfl (w5 rfl rfl rfl rfl rfl rfl underlying9) fun v17 => b5 rfl) fun o18 => et b6 <| kga zE rfl (fun (o20 : Bool) => [(53, (Bo o20))]) (rd 1 [(51, (Sr o18))] rfl rfl <| rp rfl (w7 rfl rfl rfl underlying9) fun v19 => b5 rfl) fun o20 => kc rfl rfl (fun hc => ?_) fun hc => ?_
    ·rw [hc]
     refine et b6 <| kr ⟨[(1, (Sr o18)), (2, (Pt 2)), (4, (Pt 4)), (7, (I y13)), (10, (Pt 10)), (11, (I 1))], [(2, vS 4 (b7 a0)), (4, ⟨false, 3, [(V.agg [(Sr []), (Sr []), (V.sl 2 1 (List.map a7 ([] : List (List a6))))])]⟩), (10, vS 3 (j4 o16))], 130⟩ rfl <| et b6 <| et (i9 rfl) <| et p8 ?_
     refine lB k a0 a1 y13 o16 o18 _ _ ?h_ref14_Begin_L2_0 ?hr_ref14_Begin_L2 k 1
     ·intro y28
      refine et j5 <| et b6 <| kg yh rfl (fun (o30 : b8) => ⟨[(1, (Sr o18)), (2, (Pt 2)), (4, (Pt 4)), (7, (I y13)), (10, (Pt 10)), (11, (I y28))], [(2, vS 4 (b7 a0)), (4, ⟨false, 3, [(V.agg [(Sr []), (Sr []), (V.sl 2 1 (List.map a7 ([] : List (List a6))))])]⟩), (10, vS 3 (j4 o30))], 130⟩) (rd 2 [(72, (Sr o18)), (73, (I y28))] rfl rfl <| rp rfl (w5 rfl rfl rfl rfl rfl rfl underlying9) fun v29 => b5 rfl) fun o30 => et b6 <| kg yT rfl (fun (o32 : Str) => ⟨[(1, (Sr o32)), (2, (Pt 2)), (4, (Pt 4)), (7, (I y13)), (10, (Pt 10))], [(2, vS 4 (b7 a0)), (4, ⟨false, 3, [(V.agg [(Sr []), (Sr []), (V.sl 2 1 (List.map a7 ([] : List (List a6))))])]⟩), (10, vS 3 (j4 o30))], 130⟩) (rd 2 [(76, (Sr o18)), (77, (I y28))] rfl rfl <| rs rfl (w5 rfl rfl rfl rfl rfl rfl underlying9) fun v31 => b5 rfl) fun o32 => et b6 <| kga yY rfl (fun (o34 : Bool) => [(91, (Bo o34))]) ?_ fun o34 => ?_
      ·refine rd 4 [(79, (V.ptr 10 0 1)), (80, (Sr o30.fCodes)), (81, (Bo (o30.fCodes == ([] : Str)))), (82, (Bo (o30.fCodes == ([] : Str))))] rfl rfl <| n5 (fun hc => ?_) fun hc => ?_
       ·rw [hc]
        exact d5 rfl
       ·rw [hc]
        refine rd 6 [(83, (V.ptr 10 0 1)), (84, (Sr o30.fCodes))] rfl rfl <| rp rfl (d7 rfl rfl rfl rfl rfl (S0 k o30.fCodes) (.inl rfl)) fun v33 => bd 10 [(85, (Bo v33)), (86, (Bo (!v33))), (87, (Bo (!v33))), (88, (Bo (!v33)))] rfl rfl <| n5 (fun hc => ?_) fun hc => ?_
        ·rw [hc]
         exact d5 rfl
        ·rw [hc]
         exact d5 rfl
      refine kc rfl rfl (fun hc => ?_) fun hc => ?_
      ·rw [hc]
       refine et b6 <| kr ⟨[(4, (Pt 4)), (5, (Sr ([] : Str))), (6, (Bo false))], [(4, ⟨false, 3, [(j4 ({ fSegment := [], fCodes := [], fWhen := ([] : List (List a6)) } : b8))]⟩)], 130⟩ rfl <| et n6 ?_
       rfl
      ·rw [hc]
       refine et d6 <| et b6 <| kg ux rfl (fun (o36 : Bool) => ⟨[(1, (Sr o32)), (2, (Pt 2)), (4, (Pt 4)), (7, (I y13)), (10, (Pt 10)), (95, (Bo o36))], [(2, vS 4 (b7 a0)), (4, ⟨false, 3, [(V.agg [(Sr []), (Sr []), (V.sl 2 1 (List.map a7 ([] : List (List a6))))])]⟩), (10, vS 3 (j4 o30))], 130⟩) (rd 1 [(93, (Sr o32))] rfl rfl <| rp rfl (w7 rfl rfl rfl underlying9) fun v35 => b5 rfl) fun o36 => kc rfl rfl (fun hc => ?_) fun hc => ?_
       ·rw [hc]
        refine et b6 <| kd tX rfl (fun (o38 : Str × Bool × b8) => ⟨[(4, (Pt 4)), (5, (Sr o38.1)), (6, (Bo o38.2.1))], [(4, vS 3 (j4 o38.2.2))], 130⟩) (et (j2 (p := 3) (dk := false) (t := [(1, (Sr o32)), (2, (Pt 2)), (4, (Pt 4)), (7, (I y13)), (10, (Pt 10)), (95, (Bo true))]) (σ := [(2, vS 4 (b7 a0)), (4, ⟨false, 3, [(V.agg [(Sr []), (Sr []), (V.sl 2 1 (List.map a7 ([] : List (List a6))))])]⟩), (10, vS 3 (j4 o30))]) (n := 130) rfl (by decide) (by decide) rfl) <| et (j9 (m := 2) (j := 2) (t' := [(1, (Sr o32)), (2, (Pt 2)), (4, (Pt 4)), (7, (I y13)), (10, (Pt 10)), (95, (Bo true)), (96, (j4 o30)), (97, (Sr o32))]) rfl rfl rfl) <| et (c9 (x := (cut o32 1 (o32.length : Int))) (w := fun v37 => (Sr v37)) rfl rfl rfl rfl rfl (w5 rfl rfl rfl rfl rfl rfl underlying9)) <| j6 fun v37 => j8 rfl) fun o38 => et n6 ?_
        rfl
       ·rw [hc]
        refine et d6 <| kd uB rfl (fun (o41 : (List (List a6)) × Str × Bool) => ⟨[(1, (Sr o32)), (4, (Pt 4)), (10, (Pt 10)), (12, (V.sl 0 1 (List.map a7 o41.1))), (13, (Sr o41.2.1)), (14, (Bo o41.2.2))], [(4, ⟨false, 3, [(V.agg [(Sr []), (Sr []), (V.sl 2 1 (List.map a7 ([] : List (List a6))))])]⟩), (10, vS 3 (j4 o30))], 130⟩) (et (j2 (p := 12) (dk := true) (t := [(1, (Sr o32)), (2, (Pt 2)), (4, (Pt 4)), (7, (I y13)), (10, (Pt 10)), (95, (Bo false))]) (σ := [(2, vS 4 (b7 a0)), (4, ⟨false, 3, [(V.agg [(Sr []), (Sr []), (V.sl 2 1 (List.map a7 ([] : List (List a6))))])]⟩), (10, vS 3 (j4 o30))]) (n := 130) rfl (by decide) (by decide) rfl) <| et (j9 (m := 3) (j := 3) (t' := [(1, (Sr o32)), (2, (Pt 2)), (4, (Pt 4)), (7, (I y13)), (10, (Pt 10)), (95, (Bo false)), (100, (b7 a0)), (101, (I y13)), (102, (Sr o32))]) rfl rfl rfl) <| et (c9 (x := (cut o32 1 (o32.length : Int))) (w := fun v39 => (Sr v39)) rfl rfl rfl rfl rfl (w5 rfl rfl rfl rfl rfl rfl underlying9)) <| j6 fun v39 => et (i7 (m := 0) (j := 4) (t' := [(1, (Sr o32)), (2, (Pt 2)), (4, (Pt 4)), (7, (I y13)), (10, (Pt 10)), (95, (Bo false)), (100, (b7 a0)), (101, (I y13)), (102, (Sr o32)), (103, (Sr v39))]) rfl rfl rfl) <| et (c9 (x := (P0 k a0 y13 v39)) (w := fun v40 => (V.tup [(V.sl 0 1 (List.map a7 v40.1)), (Sr v40.2.1), (Bo v40.2.2)])) rfl rfl rfl rfl rfl (d7 rfl rfl rfl rfl rfl (iZ k a0 y13 v39) (.inl rfl))) <| j6 fun v40 => j8 rfl) fun o41 => et b6 <| kg uP rfl (fun (o44 : Bool) => ⟨[(4, (Pt 4)), (10, (Pt 10)), (12, (V.sl 0 1 (List.map a7 o41.1))), (13, (Sr o41.2.1)), (123, (Bo o44))], [(4, ⟨false, 3, [(V.agg [(Sr []), (Sr []), (V.sl 2 1 (List.map a7 ([] : List (List a6))))])]⟩), (10, vS 3 (j4 o30))], 130⟩) ?_ fun o44 => ?_
        ·refine rd 1 [(108, (Sr o32))] rfl rfl <| rp rfl (w7 rfl rfl rfl underlying9) fun v42 => bd 4 [(109, (V.int .u8 v42)), (110, (Bo (v42 != 40))), (111, (Bo (v42 != 40)))] rfl rfl <| n5 (fun hc => ?_) fun hc => ?_
         ·rw [hc]
          exact d5 rfl
         ·rw [hc]
          refine rd 8 [(112, (Bo o41.2.2)), (113, (Bo (!o41.2.2))), (114, (Bo (!o41.2.2))), (115, (Bo (!o41.2.2)))] rfl rfl <| n5 (fun hc => ?_) fun hc => ?_
          ·rw [hc]
           exact d5 rfl
          ·rw [hc]
           refine rd 12 [(116, (Sr o41.2.1)), (117, (Bo (o41.2.1 == ([] : Str)))), (118, (Bo (o41.2.1 == ([] : Str)))), (119, (Bo (o41.2.1 == ([] : Str))))] rfl rfl <| n5 (fun hc => ?_) fun hc => ?_
           ·rw [hc]
            exact d5 rfl
           ·rw [hc]
            exact rd 13 [(120, (Sr o41.2.1))] rfl rfl <| rp rfl (w7 rfl rfl rfl underlying9) fun v43 => b5 rfl
        refine kc rfl rfl (fun hc => ?_) fun hc => ?_
        ·rw [hc]
         refine et b6 <| kr ⟨[(4, (Pt 4)), (5, (Sr ([] : Str))), (6, (Bo false))], [(4, ⟨false, 3, [(j4 ({ fSegment := [], fCodes := [], fWhen := ([] : List (List a6)) } : b8))]⟩)], 130⟩ rfl <| et n6 ?_
         rfl
        ·rw [hc]
         refine et d6 <| kr ⟨[(4, (Pt 4)), (10, (Pt 10)), (13, (Sr o41.2.1))], [(4, ⟨false, 3, [(V.agg [(Sr []), (Sr []), (V.sl 2 1 (List.map a7 ([] : List (List a6))))])]⟩), (10, vS 3 (j4 { o30 with fWhen := o41.1 }))], 130⟩ rfl <| kd uz rfl (fun (o46 : Str × Bool × b8) => ⟨[(4, (Pt 4)), (5, (Sr o46.1)), (6, (Bo o46.2.1))], [(4, vS 3 (j4 o46.2.2))], 130⟩) (et (j2 (p := 3) (dk := false) (t := [(4, (Pt 4)), (10, (Pt 10)), (13, (Sr o41.2.1))]) (σ := [(4, ⟨false, 3, [(V.agg [(Sr []), (Sr []), (V.sl 2 1 (List.map a7 ([] : List (List a6))))])]⟩), (10, vS 3 (j4 { o30 with fWhen := o41.1 }))]) (n := 130) rfl (by decide) (by decide) rfl) <| et (j9 (m := 2) (j := 2) (t' := [(4, (Pt 4)), (10, (Pt 10)), (13, (Sr o41.2.1)), (127, (j4 { o30 with fWhen := o41.1 })), (128, (Sr o41.2.1))]) rfl rfl rfl) <| et (c9 (x := (cut o41.2.1 1 (o41.2.1.length : Int))) (w := fun v45 => (Sr v45)) rfl rfl rfl rfl rfl (w5 rfl rfl rfl rfl rfl rfl underlying9)) <| j6 fun v45 => j8 rfl) fun o46 => et i1 ?_
         rfl
     ·intro s; exact rfl
    ·rw [hc]
     refine et d6 <| et b6 <| kg ux rfl (fun (o48 : Bool) => ⟨[(1, (Sr o18)), (2, (Pt 2)), (4, (Pt 4)), (7, (I y13)), (10, (Pt 10)), (95, (Bo o48))], [(2, vS 4 (b7 a0)), (4, ⟨false, 3, [(V.agg [(Sr []), (Sr []), (V.sl 2 1 (List.map a7 ([] : List (List a6))))])]⟩), (10, vS 3 (j4 o16))], 130⟩) (rd 1 [(93, (Sr o18))] rfl rfl <| rp rfl (w7 rfl rfl rfl underlying9) fun v47 => b5 rfl) fun o48 => kc rfl rfl (fun hc => ?_) fun hc => ?_
     ·rw [hc]
      refine et b6 <| kd tX rfl (fun (o50 : Str × Bool × b8) => ⟨[(4, (Pt 4)), (5, (Sr o50.1)), (6, (Bo o50.2.1))], [(4, vS 3 (j4 o50.2.2))], 130⟩) (et (j2 (p := 3) (dk := false) (t := [(1, (Sr o18)), (2, (Pt 2)), (4, (Pt 4)), (7, (I y13)), (10, (Pt 10)), (95, (Bo true))]) (σ := [(2, vS 4 (b7 a0)), (4, ⟨false, 3, [(V.agg [(Sr []), (Sr []), (V.sl 2 1 (List.map a7 ([] : List (List a6))))])]⟩), (10, vS 3 (j4 o16))]) (n := 130) rfl (by decide) (by decide) rfl) <| et (j9 (m := 2) (j := 2) (t' := [(1, (Sr o18)), (2, (Pt 2)), (4, (Pt 4)), (7, (I y13)), (10, (Pt 10)), (95, (Bo true)), (96, (j4 o16)), (97, (Sr o18))]) rfl rfl rfl) <| et (c9 (x := (cut o18 1 (o18.length : Int))) (w := fun v49 => (Sr v49)) rfl rfl rfl rfl rfl (w5 rfl rfl rfl rfl rfl rfl underlying9)) <| j6 fun v49 => j8 rfl) fun o50 => et n6 ?_
      rfl
     ·rw [hc]
      refine et d6 <| kd uB rfl (fun (o53 : (List (List a6)) × Str × Bool) => ⟨[(1, (Sr o18)), (4, (Pt 4)), (10, (Pt 10)), (12, (V.sl 0 1 (List.map a7 o53.1))), (13, (Sr o53.2.1)), (14, (Bo o53.2.2))], [(4, ⟨false, 3, [(V.agg [(Sr []), (Sr []), (V.sl 2 1 (List.map a7 ([] : List (List a6))))])]⟩), (10, vS 3 (j4 o16))], 130⟩) (et (j2 (p := 12) (dk := true) (t := [(1, (Sr o18)), (2, (Pt 2)), (4, (Pt 4)), (7, (I y13)), (10, (Pt 10)), (95, (Bo false))]) (σ := [(2, vS 4 (b7 a0)), (4, ⟨false, 3, [(V.agg [(Sr []), (Sr []), (V.sl 2 1 (List.map a7 ([] : List (List a6))))])]⟩), (10, vS 3 (j4 o16))]) (n := 130) rfl (by decide) (by decide) rfl) <| et (j9 (m := 3) (j := 3) (t' := [(1, (Sr o18)), (2, (Pt 2)), (4, (Pt 4)), (7, (I y13)), (10, (Pt 10)), (95, (Bo false)), (100, (b7 a0)), (101, (I y13)), (102, (Sr o18))]) rfl rfl rfl) <| et (c9 (x := (cut o18 1 (o18.length : Int))) (w := fun v51 => (Sr v51)) rfl rfl rfl rfl rfl (w5 rfl rfl rfl rfl rfl rfl underlying9)) <| j6 fun v51 => et (i7 (m := 0) (j := 4) (t' := [(1, (Sr o18)), (2, (Pt 2)), (4, (Pt 4)), (7, (I y13)), (10, (Pt 10)), (95, (Bo false)), (100, (b7 a0)), (101, (I y13)), (102, (Sr o18)), (103, (Sr v51))]) rfl rfl rfl) <| et (c9 (x := (P0 k a0 y13 v51)) (w := fun v52 => (V.tup [(V.sl 0 1 (List.map a7 v52.1)), (Sr v52.2.1), (Bo v52.2.2)])) rfl rfl rfl rfl rfl (d7 rfl rfl rfl rfl rfl (iZ k a0 y13 v51) (.inl rfl))) <| j6 fun v52 => j8 rfl) fun o53 => et b6 <| kg uP rfl (fun (o56 : Bool) => ⟨[(4, (Pt 4)), (10, (Pt 10)), (12, (V.sl 0 1 (List.map a7 o53.1))), (13, (Sr o53.2.1)), (123, (Bo o56))], [(4, ⟨false, 3, [(V.agg [(Sr []), (Sr []), (V.sl 2 1 (List.map a7 ([] : List (List a6))))])]⟩), (10, vS 3 (j4 o16))], 130⟩) ?_ fun o56 => ?_
      ·refine rd 1 [(108, (Sr o18))] rfl rfl <| rp rfl (w7 rfl rfl rfl underlying9) fun v54 => bd 4 [(109, (V.int .u8 v54)), (110, (Bo (v54 != 40))), (111, (Bo (v54 != 40)))] rfl rfl <| n5 (fun hc => ?_) fun hc => ?_
       ·rw [hc]
        exact d5 rfl
       ·rw [hc]
        refine rd 8 [(112, (Bo o53.2.2)), (113, (Bo (!o53.2.2))), (114, (Bo (!o53.2.2))), (115, (Bo (!o53.2.2)))] rfl rfl <| n5 (fun hc => ?_) fun hc => ?_
        ·rw [hc]
         exact d5 rfl
        ·rw [hc]
         refine rd 12 [(116, (Sr o53.2.1)), (117, (Bo (o53.2.1 == ([] : Str)))), (118, (Bo (o53.2.1 == ([] : Str)))), (119, (Bo (o53.2.1 == ([] : Str))))] rfl rfl <| n5 (fun hc => ?_) fun hc => ?_
         ·rw [hc]
          exact d5 rfl
         ·rw [hc]
          exact rd 13 [(120, (Sr o53.2.1))] rfl rfl <| rp rfl (w7 rfl rfl rfl underlying9) fun v55 => b5 rfl
      refine kc rfl rfl (fun hc => ?_) fun hc => ?_
      ·rw [hc]
       refine et b6 <| kr ⟨[(4, (Pt 4)), (5, (Sr ([] : Str))), (6, (Bo false))], [(4, ⟨false, 3, [(j4 ({ fSegment := [], fCodes := [], fWhen := ([] : List (List a6)) } : b8))]⟩)], 130⟩ rfl <| et n6 ?_
       rfl
      ·rw [hc]
       refine et d6 <| kr ⟨[(4, (Pt 4)), (10, (Pt 10)), (13, (Sr o53.2.1))], [(4, ⟨false, 3, [(V.agg [(Sr []), (Sr []), (V.sl 2 1 (List.map a7 ([] : List (List a6))))])]⟩), (10, vS 3 (j4 { o16 with fWhen := o53.1 }))], 130⟩ rfl <| kd uz rfl (fun (o58 : Str × Bool × b8) => ⟨[(4, (Pt 4)), (5, (Sr o58.1)), (6, (Bo o58.2.1))], [(4, vS 3 (j4 o58.2.2))], 130⟩) (et (j2 (p := 3) (dk := false) (t := [(4, (Pt 4)), (10, (Pt 10)), (13, (Sr o53.2.1))]) (σ := [(4, ⟨false, 3, [(V.agg [(Sr []), (Sr []), (V.sl 2 1 (List.map a7 ([] : List (List a6))))])]⟩), (10, vS 3 (j4 { o16 with fWhen := o53.1 }))]) (n := 130) rfl (by decide) (by decide) rfl) <| et (j9 (m := 2) (j := 2) (t' := [(4, (Pt 4)), (10, (Pt 10)), (13, (Sr o53.2.1)), (127, (j4 { o16 with fWhen := o53.1 })), (128, (Sr o53.2.1))]) rfl rfl rfl) <| et (c9 (x := (cut o53.2.1 1 (o53.2.1.length : Int))) (w := fun v57 => (Sr v57)) rfl rfl rfl rfl rfl (w5 rfl rfl rfl rfl rfl rfl underlying9)) <| j6 fun v57 => j8 rfl) fun o58 => et i1 ?_
       rfl
  ·intro s; exact rfl
def od : (b8 × Int) → V × List V := fun r => (.tup [(j4 r.1), (I r.2)], [])
theorem pz (k : Nat) (a0 : a8) (a1 : Str) : EV k 11 [(b7 a0), (Sr a1)] = (dc k a0 a1).map od := by
 cases k with
 | zero => rfl
 | succ k =>
  unfold dc
  refine et (i5 (c := f11c) (N := 28) (regs := VI) rfl func11 rfl (by decide) rfl rfl rfl) <| kr ⟨[(1, (Sr a1)), (2, (Pt 2)), (4, (Pt 4))], [(2, vS 4 (b7 a0)), (4, ⟨false, 3, [(V.agg [(Sr []), (Sr []), (V.sl 2 1 (List.map a7 ([] : List (List a6))))])]⟩)], 28⟩ rfl <| et b6 <| kga DC rfl (fun (o2 : Bool) => [(11, (Bo o2))]) (rd 1 [(9, (b7 a0))] rfl rfl <| rp rfl (d7 rfl rfl rfl rfl rfl (bE k a0) (.inl rfl)) fun v1 => b5 rfl) fun o2 => kc rfl rfl (fun hc => ?_) fun hc => ?_
  ·rw [hc]
   refine et b6 <| kr ⟨[(4, (Pt 4)), (5, (I 100))], [(4, ⟨false, 3, [(j4 ({ fSegment := [], fCodes := [], fWhen := ([] : List (List a6)) } : b8))]⟩)], 28⟩ rfl <| et n6 ?_
   rfl
  ·rw [hc]
   refine et d6 <| kg BW rfl (fun (o4 : Str × Bool × b8) => ⟨[(4, (Pt 4)), (6, (Pt 6)), (7, (Sr o4.1)), (8, (Bo o4.2.1))], [(4, ⟨false, 3, [(V.agg [(Sr []), (Sr []), (V.sl 2 1 (List.map a7 ([] : List (List a6))))])]⟩), (6, vS 3 (j4 o4.2.2))], 28⟩) (rd 2 [(14, (b7 a0)), (15, (Sr a1))] rfl rfl <| rp rfl (d7 rfl rfl rfl rfl rfl (pH k a0 a1) (.inl rfl)) fun v3 => b5 rfl) fun o4 => et b6 <| kg DX rfl (fun (o5 : Bool) => ⟨[(4, (Pt 4)), (6, (Pt 6)), (25, (Bo o5))], [(4, ⟨false, 3, [(V.agg [(Sr []), (Sr []), (V.sl 2 1 (List.map a7 ([] : List (List a6))))])]⟩), (6, vS 3 (j4 o4.2.2))], 28⟩) ?_ fun o5 => ?_
   ·refine rd 3 [(20, (Bo o4.2.1)), (21, (Bo (!o4.2.1))), (22, (Bo (!o4.2.1)))] rfl rfl <| n5 (fun hc => ?_) fun hc => ?_
    ·rw [hc]
     exact d5 rfl
    ·rw [hc]
     exact d5 rfl
   refine kc rfl rfl (fun hc => ?_) fun hc => ?_
   ·rw [hc]
    refine et b6 <| kr ⟨[(4, (Pt 4)), (5, (I 3))], [(4, ⟨false, 3, [(j4 ({ fSegment := [], fCodes := [], fWhen := ([] : List (List a6)) } : b8))]⟩)], 28⟩ rfl <| et n6 ?_
    rfl
   ·rw [hc]
    refine et d6 <| kr ⟨[(4, (Pt 4)), (5, (I 0))], [(4, vS 3 (j4 o4.2.2))], 28⟩ rfl <| et i1 ?_
    rfl
def Y3 : Bool → V × List V := fun r => ((Bo r), [])
theorem nf (k : Nat) (a0 : (List (List a6))) (a1 : (List (List a6))) (x20 : Int)  (K0 : Int → Option Bool) (Kst : X × St → Option (V × List V)) (hK0 : ∀ (y0 : Int), Kst (X.exit 2, ⟨[(0, (V.sl 0 1 (List.map a7 a0))), (1, (V.sl 0 1 (List.map a7 a1))), (5, (I x20)), (6, (I y0)), (35, (Bo false))], [], 53⟩) = (K0 y0).map Y3) (hret : ∀ s, Kst (X.ret, s) = F6 prog 53 [(V.sl 0 1 (List.map a7 a0)), (V.sl 0 1 (List.map a7 a1))] [] [.tmp 4] (X.ret, s)) :
  ∀ (m : Nat) (x31 : Int), (D1 (u1 prog (EV k) AY k Dr) m ⟨[(0, (V.sl 0 1 (List.map a7 a0))), (1, (V.sl 0 1 (List.map a7 a1))), (5, (I x20)), (6, (I x31))], [], 53⟩).bind Kst = (K8 a0 a1 x20 K0 m x31).map Y3 := by
 intro m
 induction m with
 | zero => intros; rfl
 | succ m ih =>
  intro x31
  unfold K8
  refine et l9 <| et b6 <| kga DI rfl (fun (o33 : Bool) => [(35, (Bo o33))]) (rd 3 [(29, (I x31)), (30, (V.sl 0 1 (List.map a7 a0))), (31, (I x20))] rfl rfl <| rp rfl (i2 (e := a7) rfl rfl rfl underlying26 rfl (by decide)) fun v32 => bd 5 [(32, (Pr (a7 v32))), (33, (a7 v32))] rfl rfl <| rl rfl (n7 (e := d4) rfl rfl rfl rfl rfl rfl underlying56) <| b5 rfl) fun o33 => kc rfl rfl (fun hc => ?_) fun hc => ?_
  ·rw [hc]
   refine et d6 <| et (i9 rfl) <| kd zR rfl (fun (o38 : Bool) => ⟨[(0, (V.sl 0 1 (List.map a7 a0))), (1, (V.sl 0 1 (List.map a7 a1))), (5, (I x20)), (6, (I x31)), (52, (Bo o38))], [], 53⟩) (et (j2 (p := 15) (dk := true) (t := [(0, (V.sl 0 1 (List.map a7 a0))), (1, (V.sl 0 1 (List.map a7 a1))), (5, (I x20)), (6, (I x31)), (35, (Bo true))]) (σ := []) (n := 53) rfl (by decide) (by decide) rfl) <| et (j9 (m := 2) (j := 2) (t' := [(0, (V.sl 0 1 (List.map a7 a0))), (1, (V.sl 0 1 (List.map a7 a1))), (5, (I x20)), (6, (I x31)), (35, (Bo true)), (38, (V.sl 0 1 (List.map a7 a0))), (39, (I x20))]) rfl rfl rfl) <| et (c9 (x := (idx a0 x20)) (w := fun v34 => (Pr (a7 v34))) rfl rfl rfl rfl rfl (i2 (e := a7) rfl rfl rfl underlying26 rfl (by decide))) <| j6 fun v34 => et (i7 (m := 2) (j := 5) (t' := [(0, (V.sl 0 1 (List.map a7 a0))), (1, (V.sl 0 1 (List.map a7 a1))), (5, (I x20)), (6, (I x31)), (35, (Bo true)), (38, (V.sl 0 1 (List.map a7 a0))), (39, (I x20)), (40, (Pr (a7 v34))), (41, (a7 v34)), (42, (I x31))]) rfl rfl rfl) <| et (c9 (x := (idx v34 x31)) (w := fun v35 => (Pr (d4 v35))) rfl rfl rfl rfl rfl (i2 (e := d4) rfl rfl rfl underlying56 rfl (by decide))) <| j6 fun v35 => et (i7 (m := 3) (j := 9) (t' := [(0, (V.sl 0 1 (List.map a7 a0))), (1, (V.sl 0 1 (List.map a7 a1))), (5, (I x20)), (6, (I x31)), (35, (Bo true)), (38, (V.sl 0 1 (List.map a7 a0))), (39, (I x20)), (40, (Pr (a7 v34))), (41, (a7 v34)), (42, (I x31)), (43, (Pr (d4 v35))), (44, (d4 v35)), (45, (V.sl 0 1 (List.map a7 a1))), (46, (I x20))]) rfl rfl rfl) <| et (c9 (x := (idx a1 x20)) (w := fun v36 => (Pr (a7 v36))) rfl rfl rfl rfl rfl (i2 (e := a7) rfl rfl rfl underlying26 rfl (by decide))) <| j6 fun v36 => et (i7 (m := 2) (j := 12) (t' := [(0, (V.sl 0 1 (List.map a7 a0))), (1, (V.sl 0 1 (List.map a7 a1))), (5, (I x20)), (6, (I x31)), (35, (Bo true)), (38, (V.sl 0 1 (List.map a7 a0))), (39, (I x20)), (40, (Pr (a7 v34))), (41, (a7 v34)), (42, (I x31)), (43, (Pr (d4 v35))), (44, (d4 v35)), (45, (V.sl 0 1 (List.map a7 a1))), (46, (I x20)), (47, (Pr (a7 v36))), (48, (a7 v36)), (49, (I x31))]) rfl rfl rfl) <| et (c9 (x := (idx v36 x31)) (w := fun v37 => (Pr (d4 v37))) rfl rfl rfl rfl rfl (i2 (e := d4) rfl rfl rfl underlying56 rfl (by decide))) <| j6 fun v37 => et (i7 (m := 1) (j := 14) (t' := [(0, (V.sl 0 1 (List.map a7 a0))), (1, (V.sl 0 1 (List.map a7 a1))), (5, (I x20)), (6, (I x31)), (35, (Bo true)), (38, (V.sl 0 1 (List.map a7 a0))), (39, (I x20)), (40, (Pr (a7 v34))), (41, (a7 v34)), (42, (I x31)), (43, (Pr (d4 v35))), (44, (d4 v35)), (45, (V.sl 0 1 (List.map a7 a1))), (46, (I x20)), (47, (Pr (a7 v36))), (48, (a7 v36)), (49, (I x31)), (50, (Pr (d4 v37))), (51, (d4 v37))]) rfl rfl rfl) <| et (c9 (x := some ()) (w := fun _ => (Bo (!(v35.fField == v37.fField && (v35.fOp == v37.fOp && (v35.fValue == v37.fValue && true)))))) rfl rfl rfl rfl rfl (Cq rfl rfl rfl underlying55 BO Cf rfl)) <| et Y8 <| j8 rfl) fun o38 => kcl rfl rfl (fun hc => ?_) fun hc => ?_
   ·rw [hc]
    refine kr ⟨[(4, (Bo false))], [], 53⟩ rfl <| et i1 <| et l6 <| et l8 <| et (hret _) ?_
    rfl
   ·rw [hc]
    exact et m9 <| et i6 <| kl ⟨[(0, (V.sl 0 1 (List.map a7 a0))), (1, (V.sl 0 1 (List.map a7 a1))), (5, (I x20)), (6, (I (Go.IntKind.wrap .i64 (x31 + 1))))], [], 53⟩ rfl <| et i3 <| ih (Go.IntKind.wrap .i64 (x31 + 1))
  ·rw [hc]
   exact et p7 <| et j3 <| hK0 x31
theorem nh (k : Nat) (a0 : (List (List a6))) (a1 : (List (List a6)))  (K0 : Int → Option Bool) (Kst : X × St → Option (V × List V)) (hK0 : ∀ (y0 : Int), Kst (X.exit 0, ⟨[(0, (V.sl 0 1 (List.map a7 a0))), (1, (V.sl 0 1 (List.map a7 a1))), (5, (I y0)), (15, (Bo false))], [], 53⟩) = (K0 y0).map Y3) (hret : ∀ s, Kst (X.ret, s) = F6 prog 53 [(V.sl 0 1 (List.map a7 a0)), (V.sl 0 1 (List.map a7 a1))] [] [.tmp 4] (X.ret, s)) :
  ∀ (m : Nat) (x20 : Int), (D1 (u1 prog (EV k) AY k CX) m ⟨[(0, (V.sl 0 1 (List.map a7 a0))), (1, (V.sl 0 1 (List.map a7 a1))), (5, (I x20))], [], 53⟩).bind Kst = (Q5 k a0 a1 K0 m x20).map Y3 := by
 intro m
 induction m with
 | zero => intros; rfl
 | succ m ih =>
  intro x20
  unfold Q5
  refine et l9 <| et b6 <| krp Cb rfl ⟨[(0, (V.sl 0 1 (List.map a7 a0))), (1, (V.sl 0 1 (List.map a7 a1))), (5, (I x20)), (15, (Bo (decide (x20 < (a0.length : Int)))))], [], 53⟩ ?_ ?_
  ·exact rd 2 [(12, (I x20)), (13, (V.sl 0 1 (List.map a7 a0)))] rfl rfl <| rl rfl (n7 (e := a7) rfl rfl rfl rfl rfl rfl underlying26) <| b5 rfl
  refine kc rfl rfl (fun hc => ?_) fun hc => ?_
  ·rw [hc]
   refine et d6 <| et (i9 rfl) <| et b6 <| kd Ct rfl (fun (o23 : Bool) => ⟨[(0, (V.sl 0 1 (List.map a7 a0))), (1, (V.sl 0 1 (List.map a7 a1))), (5, (I x20)), (28, (Bo o23))], [], 53⟩) (et (j2 (p := 11) (dk := true) (t := [(0, (V.sl 0 1 (List.map a7 a0))), (1, (V.sl 0 1 (List.map a7 a1))), (5, (I x20)), (15, (Bo true))]) (σ := []) (n := 53) rfl (by decide) (by decide) rfl) <| et (j9 (m := 2) (j := 2) (t' := [(0, (V.sl 0 1 (List.map a7 a0))), (1, (V.sl 0 1 (List.map a7 a1))), (5, (I x20)), (15, (Bo true)), (18, (V.sl 0 1 (List.map a7 a0))), (19, (I x20))]) rfl rfl rfl) <| et (c9 (x := (idx a0 x20)) (w := fun v21 => (Pr (a7 v21))) rfl rfl rfl rfl rfl (i2 (e := a7) rfl rfl rfl underlying26 rfl (by decide))) <| j6 fun v21 => et (i7 (m := 1) (j := 4) (t' := [(0, (V.sl 0 1 (List.map a7 a0))), (1, (V.sl 0 1 (List.map a7 a1))), (5, (I x20)), (15, (Bo true)), (18, (V.sl 0 1 (List.map a7 a0))), (19, (I x20)), (20, (Pr (a7 v21))), (21, (a7 v21))]) rfl rfl rfl) <| et (c9 (x := some ()) (w := fun _ => (I (v21.length : Int))) rfl rfl rfl rfl rfl (n7 (e := d4) rfl rfl rfl rfl rfl rfl underlying56)) <| et Y8 <| et (i7 (m := 2) (j := 7) (t' := [(0, (V.sl 0 1 (List.map a7 a0))), (1, (V.sl 0 1 (List.map a7 a1))), (5, (I x20)), (15, (Bo true)), (18, (V.sl 0 1 (List.map a7 a0))), (19, (I x20)), (20, (Pr (a7 v21))), (21, (a7 v21)), (22, (I (v21.length : Int))), (23, (V.sl 0 1 (List.map a7 a1))), (24, (I x20))]) rfl rfl rfl) <| et (c9 (x := (idx a1 x20)) (w := fun v22 => (Pr (a7 v22))) rfl rfl rfl rfl rfl (i2 (e := a7) rfl rfl rfl underlying26 rfl (by decide))) <| j6 fun v22 => et (i7 (m := 1) (j := 9) (t' := [(0, (V.sl 0 1 (List.map a7 a0))), (1, (V.sl 0 1 (List.map a7 a1))), (5, (I x20)), (15, (Bo true)), (18, (V.sl 0 1 (List.map a7 a0))), (19, (I x20)), (20, (Pr (a7 v21))), (21, (a7 v21)), (22, (I (v21.length : Int))), (23, (V.sl 0 1 (List.map a7 a1))), (24, (I x20)), (25, (Pr (a7 v22))), (26, (a7 v22))]) rfl rfl rfl) <| et (c9 (x := some ()) (w := fun _ => (I (v22.length : Int))) rfl rfl rfl rfl rfl (n7 (e := d4) rfl rfl rfl rfl rfl rfl underlying56)) <| et Y8 <| j8 rfl) fun o23 => kc rfl rfl (fun hc => ?_) fun hc => ?_
   ·rw [hc]
    refine et b6 <| kr ⟨[(4, (Bo false))], [], 53⟩ rfl <| et n6 <| et l6 <| et l8 <| et (hret _) ?_
    rfl
   ·rw [hc]
    refine et d6 <| kr ⟨[(0, (V.sl 0 1 (List.map a7 a0))), (1, (V.sl 0 1 (List.map a7 a1))), (5, (I x20)), (6, (I 0))], [], 53⟩ rfl <| et (G7 rfl) <| et p8 ?_
    refine nf k a0 a1 x20 _ _ ?h_ref12_Same_L2_0 ?hr_ref12_Same_L2 k 0
    ·intro y39
     exact et j5 <| et m9 <| et i6 <| kl ⟨[(0, (V.sl 0 1 (List.map a7 a0))), (1, (V.sl 0 1 (List.map a7 a1))), (5, (I (Go.IntKind.wrap .i64 (x20 + 1))))], [], 53⟩ rfl <| et i3 <| ih (Go.IntKind.wrap .i64 (x20 + 1))
    ·intro s; exact hret s
  ·rw [hc]
   exact et p7 <| et j3 <| hK0 x20
theorem fM (k : Nat) (a0 : (List (List a6))) (a1 : (List (List a6))) : EV k 32 [(V.sl 0 1 (List.map a7 a0)), (V.sl 0 1 (List.map a7 a1))] = (ff k a0 a1).map Y3 := by
 cases k with
 | zero => rfl
 | succ k =>
  unfold ff
  refine et (i5 (c := f32c) (N := 53) (regs := AY) rfl func32 rfl (by decide) rfl rfl rfl) <| kra [] rfl <| et b6 <| krp CC rfl ⟨[(0, (V.sl 0 1 (List.map a7 a0))), (1, (V.sl 0 1 (List.map a7 a1))), (11, (Bo ((a0.length : Int) != (a1.length : Int))))], [], 53⟩ ?_ ?_
  ·exact rd 1 [(7, (V.sl 0 1 (List.map a7 a0)))] rfl rfl <| rl rfl (n7 (e := a7) rfl rfl rfl rfl rfl rfl underlying26) <| bd 3 [(8, (I (a0.length : Int))), (9, (V.sl 0 1 (List.map a7 a1)))] rfl rfl <| rl rfl (n7 (e := a7) rfl rfl rfl rfl rfl rfl underlying26) <| b5 rfl
  refine kc rfl rfl (fun hc => ?_) fun hc => ?_
  ·rw [hc]
   refine et b6 <| kr ⟨[(4, (Bo false))], [], 53⟩ rfl <| et n6 ?_
   rfl
  ·rw [hc]
   refine et d6 <| et b6 <| kr ⟨[(0, (V.sl 0 1 (List.map a7 a0))), (1, (V.sl 0 1 (List.map a7 a1))), (5, (I 0))], [], 53⟩ rfl <| et (i9 rfl) <| et p8 ?_
   refine nh k a0 a1 _ _ ?h_ref12_Same_L1_0 ?hr_ref12_Same_L1 k 0
   ·intro y40
    refine et j5 <| kr ⟨[(4, (Bo true))], [], 53⟩ rfl <| et i1 ?_
    rfl
   ·intro s; exact rfl
def oT : Bool → V × List V := fun r => ((Bo r), [])
theorem qu (k : Nat) (a0 : b8) (a1 : b8) : EV k 12 [(j4 a0), (j4 a1)] = (fb k a0 a1).map oT := by
 cases k with
 | zero => rfl
 | succ k =>
  unfold fb
  refine et (i5 (c := f12c) (N := 24) (regs := QX) rfl func12 rfl (by decide) rfl rfl rfl) <| kr ⟨[(2, (Pt 2)), (3, (Pt 3))], [(2, vS 3 (j4 a0)), (3, vS 3 (j4 a1))], 24⟩ rfl <| kg Dh rfl (fun (o2 : Bool) => ⟨[(4, (Bo o2))], [], 24⟩) ?_ fun o2 => ?_
  ·refine rd 6 [(5, (Pt 2)), (6, (Sr a0.fSegment)), (7, (Pt 3)), (8, (Sr a1.fSegment)), (9, (Bo (a0.fSegment == a1.fSegment))), (10, (Bo (a0.fSegment == a1.fSegment)))] rfl rfl <| n5 (fun hc => ?_) fun hc => ?_
   ·rw [hc]
    refine rd 13 [(11, (V.ptr 2 0 1)), (12, (Sr a0.fCodes)), (13, (V.ptr 3 0 1)), (14, (Sr a1.fCodes)), (15, (Bo (a0.fCodes == a1.fCodes))), (16, (Bo (a0.fCodes == a1.fCodes))), (17, (Bo (a0.fCodes == a1.fCodes)))] rfl rfl <| n5 (fun hc => ?_) fun hc => ?_
    ·rw [hc]
     exact rd 17 [(18, (V.ptr 2 0 2)), (19, (V.sl 0 1 (List.map a7 a0.fWhen))), (20, (V.ptr 3 0 2)), (21, (V.sl 0 1 (List.map a7 a1.fWhen)))] rfl rfl <| rs rfl (d7 rfl rfl rfl rfl rfl (fM k a0.fWhen a1.fWhen) (.inl rfl)) fun v1 => b5 rfl
    ·rw [hc]
     exact d5 rfl
   ·rw [hc]
    exact d5 rfl
  refine et i1 ?_
  rfl
def H1 : Bool → V × List V := fun r => ((Bo r), [])
theorem bk (k : Nat) (a0 : (List (List a6))) (a1 : (List (List a6))) (a2 : Nat → (List a6) → (List a6) → Option Bool) (a2_fid : Go.FuncId)  (a2_hok : ∀ j x0 x1, EV j a2_fid [(a7 x0), (a7 x1)] = (a2 j x0 x1).map fun b => ((Bo b), [])) (K0 : Int → Option Bool) (Kst : X × St → Option (V × List V)) (hK0 : ∀ (y0 : Int), Kst (X.exit 0, ⟨[(1, (V.sl 0 1 (List.map a7 a1))), (2, (V.fn a2_fid [] [])), (15, (V.sl 0 1 (List.map a7 a0))), (16, (I (a0.length : Int))), (17, (I y0)), (18, (Bo false))], [], 32⟩) = (K0 y0).map H1) (hret : ∀ s, Kst (X.ret, s) = F6 prog 32 [(V.sl 0 1 (List.map a7 a0)), (V.sl 0 1 (List.map a7 a1)), (V.fn a2_fid [] [])] [] [.tmp 6] (X.ret, s)) :
  ∀ (m : Nat) (x7 : Int), (D1 (u1 prog (EV k) rD k tj) m ⟨[(1, (V.sl 0 1 (List.map a7 a1))), (2, (V.fn a2_fid [] [])), (15, (V.sl 0 1 (List.map a7 a0))), (16, (I (a0.length : Int))), (17, (I x7))], [], 32⟩).bind Kst = (n8 k a0 a1 a2 K0 m x7).map H1 := by
 intro m
 induction m with
 | zero => intros; rfl
 | succ m ih =>
  intro x7
  unfold n8
  refine et l9 <| kra [(18, (Bo (decide (x7 < (a0.length : Int)))))] rfl <| kc rfl rfl (fun hc => ?_) fun hc => ?_
  ·rw [hc]
   refine et d6 <| et (i9 rfl) <| kg tt rfl (fun (o9 : Int × (List a6)) => ⟨[(1, (V.sl 0 1 (List.map a7 a1))), (2, (V.fn a2_fid [] [])), (7, (I o9.1)), (8, (a7 o9.2)), (15, (V.sl 0 1 (List.map a7 a0))), (16, (I (a0.length : Int))), (17, (I x7))], [], 32⟩) (rd 1 [(19, (I x7))] rfl rfl <| rp rfl (i2 (e := a7) rfl rfl rfl underlying26 rfl (by decide)) fun v8 => b5 rfl) fun o9 => kg tE rfl (fun (o11 : (List a6)) => ⟨[(1, (V.sl 0 1 (List.map a7 a1))), (2, (V.fn a2_fid [] [])), (8, (a7 o9.2)), (9, (a7 o11)), (15, (V.sl 0 1 (List.map a7 a0))), (16, (I (a0.length : Int))), (17, (I x7))], [], 32⟩) (rd 2 [(22, (V.sl 0 1 (List.map a7 a1))), (23, (I o9.1))] rfl rfl <| rs rfl (i2 (e := a7) rfl rfl rfl underlying26 rfl (by decide)) fun v10 => b5 rfl) fun o11 => kg tv rfl (fun (o13 : Bool) => ⟨[(1, (V.sl 0 1 (List.map a7 a1))), (2, (V.fn a2_fid [] [])), (15, (V.sl 0 1 (List.map a7 a0))), (16, (I (a0.length : Int))), (17, (I x7)), (30, (Bo o13))], [], 32⟩) (rd 3 [(26, (V.fn a2_fid [] [])), (27, (a7 o9.2)), (28, (a7 o11))] rfl rfl <| rp rfl (d7 rfl rfl rfl rfl rfl (a2_hok k o9.2 o11) (.inl rfl)) fun v12 => b5 rfl) fun o13 => kcl rfl rfl (fun hc => ?_) fun hc => ?_
   ·rw [hc]
    refine kr ⟨[(6, (Bo false))], [], 32⟩ rfl <| et i1 <| et l6 <| et l8 <| et (hret _) ?_
    rfl
   ·rw [hc]
    exact et m9 <| et i6 <| kl ⟨[(1, (V.sl 0 1 (List.map a7 a1))), (2, (V.fn a2_fid [] [])), (15, (V.sl 0 1 (List.map a7 a0))), (16, (I (a0.length : Int))), (17, (I (Go.IntKind.wrap .i64 (x7 + 1))))], [], 32⟩ rfl <| et i3 <| ih (Go.IntKind.wrap .i64 (x7 + 1))
  ·rw [hc]
   exact et p7 <| et j3 <| hK0 x7
theorem cV (k : Nat) (a0 : (List (List a6))) (a1 : (List (List a6))) (a2 : Nat → (List a6) → (List a6) → Option Bool) (a2_fid : Go.FuncId)  (a2_hok : ∀ j x0 x1, EV j a2_fid [(a7 x0), (a7 x1)] = (a2 j x0 x1).map fun b => ((Bo b), [])) : EV k 62 [(V.sl 0 1 (List.map a7 a0)), (V.sl 0 1 (List.map a7 a1)), (V.fn a2_fid [] [])] = (G1 k a0 a1 a2).map H1 := by
 cases k with
 | zero => rfl
 | succ k =>
  unfold G1
  refine et (i5 (c := AX) (N := 32) (regs := rD) rfl func62 rfl (by decide) rfl rfl rfl) <| kra [] rfl <| et b6 <| krp tc rfl ⟨[(0, (V.sl 0 1 (List.map a7 a0))), (1, (V.sl 0 1 (List.map a7 a1))), (2, (V.fn a2_fid [] [])), (14, (Bo ((a0.length : Int) != (a1.length : Int))))], [], 32⟩ ?_ ?_
  ·exact rd 1 [(10, (V.sl 0 1 (List.map a7 a0)))] rfl rfl <| rl rfl (n7 (e := a7) rfl rfl rfl rfl rfl rfl underlying26) <| bd 3 [(11, (I (a0.length : Int))), (12, (V.sl 0 1 (List.map a7 a1)))] rfl rfl <| rl rfl (n7 (e := a7) rfl rfl rfl rfl rfl rfl underlying26) <| b5 rfl
  refine kc rfl rfl (fun hc => ?_) fun hc => ?_
  ·rw [hc]
   refine et b6 <| kr ⟨[(6, (Bo false))], [], 32⟩ rfl <| et n6 ?_
   rfl
  ·rw [hc]
   refine et d6 <| et b6 <| krp tr rfl ⟨[(1, (V.sl 0 1 (List.map a7 a1))), (2, (V.fn a2_fid [] [])), (15, (V.sl 0 1 (List.map a7 a0))), (16, (I (a0.length : Int))), (17, (I 0))], [], 32⟩ ?_ ?_
   ·exact rd 1 [(15, (V.sl 0 1 (List.map a7 a0)))] rfl rfl <| rl rfl (n7 (e := a7) rfl rfl rfl rfl rfl rfl underlying26) <| b5 rfl
   refine et (i9 rfl) <| et p8 ?_
   refine bk k a0 a1 a2 a2_fid a2_hok _ _ ?h_slices_EqualFunc_TermL_v20_L1_0 ?hr_slices_EqualFunc_TermL_v20_L1 k 0
   ·intro y14
    refine et j5 <| kr ⟨[(6, (Bo true))], [], 32⟩ rfl <| et i1 ?_
    rfl
   ·intro s; exact rfl
def W1 : Bool → V × List V := fun r => ((Bo r), [])
theorem gf (k : Nat) (a0 : (List a6)) (a1 : (List a6))  (K0 : Int → Option Bool) (Kst : X × St → Option (V × List V)) (hK0 : ∀ (y0 : Int), Kst (X.exit 0, ⟨[(0, (a7 a0)), (1, (a7 a1)), (12, (I (a0.length : Int))), (13, (I y0)), (14, (Bo false))], [], 26⟩) = (K0 y0).map W1) (hret : ∀ s, Kst (X.ret, s) = F6 prog 26 [(a7 a0), (a7 a1)] [] [.tmp 4] (X.ret, s)) :
  ∀ (m : Nat) (x4 : Int), (D1 (u1 prog (EV k) NW k CM) m ⟨[(0, (a7 a0)), (1, (a7 a1)), (12, (I (a0.length : Int))), (13, (I x4))], [], 26⟩).bind Kst = (C3 a0 a1 K0 m x4).map W1 := by
 intro m
 induction m with
 | zero => intros; rfl
 | succ m ih =>
  intro x4
  unfold C3
  refine et l9 <| kra [(14, (Bo (decide (x4 < (a0.length : Int)))))] rfl <| kc rfl rfl (fun hc => ?_) fun hc => ?_
  ·rw [hc]
   refine et d6 <| et (i9 rfl) <| kr ⟨[(0, (a7 a0)), (1, (a7 a1)), (5, (I x4)), (12, (I (a0.length : Int))), (13, (I x4))], [], 26⟩ rfl <| kd Fd rfl (fun (o7 : Bool) => ⟨[(0, (a7 a0)), (1, (a7 a1)), (12, (I (a0.length : Int))), (13, (I x4)), (24, (Bo o7))], [], 26⟩) (et (j2 (p := 9) (dk := true) (t := [(0, (a7 a0)), (1, (a7 a1)), (5, (I x4)), (12, (I (a0.length : Int))), (13, (I x4))]) (σ := []) (n := 26) rfl (by decide) (by decide) rfl) <| et (j9 (m := 2) (j := 2) (t' := [(0, (a7 a0)), (1, (a7 a1)), (5, (I x4)), (12, (I (a0.length : Int))), (13, (I x4)), (16, (a7 a0)), (17, (I x4))]) rfl rfl rfl) <| et (c9 (x := (idx a0 x4)) (w := fun v5 => (Pr (d4 v5))) rfl rfl rfl rfl rfl (i2 (e := d4) rfl rfl rfl underlying56 rfl (by decide))) <| j6 fun v5 => et (i7 (m := 3) (j := 6) (t' := [(0, (a7 a0)), (1, (a7 a1)), (5, (I x4)), (12, (I (a0.length : Int))), (13, (I x4)), (16, (a7 a0)), (17, (I x4)), (18, (Pr (d4 v5))), (19, (d4 v5)), (20, (a7 a1)), (21, (I x4))]) rfl rfl rfl) <| et (c9 (x := (idx a1 x4)) (w := fun v6 => (Pr (d4 v6))) rfl rfl rfl rfl rfl (i2 (e := d4) rfl rfl rfl underlying56 rfl (by decide))) <| j6 fun v6 => et (i7 (m := 1) (j := 8) (t' := [(0, (a7 a0)), (1, (a7 a1)), (5, (I x4)), (12, (I (a0.length : Int))), (13, (I x4)), (16, (a7 a0)), (17, (I x4)), (18, (Pr (d4 v5))), (19, (d4 v5)), (20, (a7 a1)), (21, (I x4)), (22, (Pr (d4 v6))), (23, (d4 v6))]) rfl rfl rfl) <| et (c9 (x := some ()) (w := fun _ => (Bo (!(v5.fField == v6.fField && (v5.fOp == v6.fOp && (v5.fValue == v6.fValue && true)))))) rfl rfl rfl rfl rfl (Cq rfl rfl rfl underlying55 BO Cf rfl)) <| et Y8 <| j8 rfl) fun o7 => kcl rfl rfl (fun hc => ?_) fun hc => ?_
   ·rw [hc]
    refine kr ⟨[(4, (Bo false))], [], 26⟩ rfl <| et i1 <| et l6 <| et l8 <| et (hret _) ?_
    rfl
   ·rw [hc]
    exact et m9 <| et i6 <| kl ⟨[(0, (a7 a0)), (1, (a7 a1)), (12, (I (a0.length : Int))), (13, (I (Go.IntKind.wrap .i64 (x4 + 1))))], [], 26⟩ rfl <| et i3 <| ih (Go.IntKind.wrap .i64 (x4 + 1))
  ·rw [hc]
   exact et p7 <| et j3 <| hK0 x4
theorem Y5 (k : Nat) (a0 : (List a6)) (a1 : (List a6)) : EV k 63 [(a7 a0), (a7 a1)] = (F2 k a0 a1).map W1 := by
 cases k with
 | zero => rfl
 | succ k =>
  unfold F2
  refine et (i5 (c := f63c) (N := 26) (regs := NW) rfl func63 rfl (by decide) rfl rfl rfl) <| kra [] rfl <| et b6 <| krp DK rfl ⟨[(0, (a7 a0)), (1, (a7 a1)), (10, (Bo ((a0.length : Int) != (a1.length : Int))))], [], 26⟩ ?_ ?_
  ·exact rd 1 [(6, (a7 a0))] rfl rfl <| rl rfl (n7 (e := d4) rfl rfl rfl rfl rfl rfl underlying56) <| bd 3 [(7, (I (a0.length : Int))), (8, (a7 a1))] rfl rfl <| rl rfl (n7 (e := d4) rfl rfl rfl rfl rfl rfl underlying56) <| b5 rfl
  refine kc rfl rfl (fun hc => ?_) fun hc => ?_
  ·rw [hc]
   refine et b6 <| kr ⟨[(4, (Bo false))], [], 26⟩ rfl <| et n6 ?_
   rfl
  ·rw [hc]
   refine et d6 <| et b6 <| krp Fa rfl ⟨[(0, (a7 a0)), (1, (a7 a1)), (12, (I (a0.length : Int))), (13, (I 0))], [], 26⟩ ?_ ?_
   ·exact rd 1 [(11, (a7 a0))] rfl rfl <| rl rfl (n7 (e := d4) rfl rfl rfl rfl rfl rfl underlying56) <| b5 rfl
   refine et (i9 rfl) <| et p8 ?_
   refine gf k a0 a1 _ _ ?h_slices_Equal_Term_L1_0 ?hr_slices_Equal_Term_L1 k 0
   ·intro y8
    refine et j5 <| kr ⟨[(4, (Bo true))], [], 26⟩ rfl <| et i1 ?_
    rfl
   ·intro s; exact rfl
def pq : Bool → V × List V := fun r => ((Bo r), [])
theorem fP (k : Nat) (a0 : (List (List a6))) (a1 : (List (List a6))) : EV k 33 [(V.sl 0 1 (List.map a7 a0)), (V.sl 0 1 (List.map a7 a1))] = (eH k a0 a1).map pq := by
 cases k with
 | zero => rfl
 | succ k =>
  unfold eH
  refine et (i5 (c := f33c) (N := 8) (regs := RO) rfl func33 rfl (by decide) rfl rfl rfl) <| kra [] rfl <| kg BS rfl (fun (o2 : Bool) => ⟨[(4, (Bo o2))], [], 8⟩) (rd 2 [(5, (V.sl 0 1 (List.map a7 a0))), (6, (V.sl 0 1 (List.map a7 a1)))] rfl rfl <| rs rfl (d7 rfl rfl rfl rfl rfl (cV k a0 a1 (fun j x0 x1 => (F2 j x0 x1)) 63 (fun j x0 x1 => (Y5 j x0 x1))) (.inl rfl)) fun v1 => b5 rfl) fun o2 => et i1 ?_
  rfl
def rQ : Bool → V × List V := fun r => ((Bo r), [])
theorem tP (k : Nat) (a0 : b8) (a1 : b8) : EV k 13 [(j4 a0), (j4 a1)] = (iQ k a0 a1).map rQ := by
 cases k with
 | zero => rfl
 | succ k =>
  unfold iQ
  refine et (i5 (c := f13c) (N := 24) (regs := acU) rfl func13 rfl (by decide) rfl rfl rfl) <| kr ⟨[(2, (Pt 2)), (3, (Pt 3))], [(2, vS 3 (j4 a0)), (3, vS 3 (j4 a1))], 24⟩ rfl <| kg Di rfl (fun (o2 : Bool) => ⟨[(4, (Bo o2))], [], 24⟩) ?_ fun o2 => ?_
  ·refine rd 6 [(5, (Pt 2)), (6, (Sr a0.fSegment)), (7, (Pt 3)), (8, (Sr a1.fSegment)), (9, (Bo (a0.fSegment == a1.fSegment))), (10, (Bo (a0.fSegment == a1.fSegment)))] rfl rfl <| n5 (fun hc => ?_) fun hc => ?_
   ·rw [hc]
    refine rd 13 [(11, (V.ptr 2 0 1)), (12, (Sr a0.fCodes)), (13, (V.ptr 3 0 1)), (14, (Sr a1.fCodes)), (15, (Bo (a0.fCodes == a1.fCodes))), (16, (Bo (a0.fCodes == a1.fCodes))), (17, (Bo (a0.fCodes == a1.fCodes)))] rfl rfl <| n5 (fun hc => ?_) fun hc => ?_
    ·rw [hc]
     exact rd 17 [(18, (V.ptr 2 0 2)), (19, (V.sl 0 1 (List.map a7 a0.fWhen))), (20, (V.ptr 3 0 2)), (21, (V.sl 0 1 (List.map a7 a1.fWhen)))] rfl rfl <| rs rfl (d7 rfl rfl rfl rfl rfl (fP k a0.fWhen a1.fWhen) (.inl rfl)) fun v1 => b5 rfl
    ·rw [hc]
     exact d5 rfl
   ·rw [hc]
    exact d5 rfl
  refine et i1 ?_
  rfl
def jW : Bool → V × List V := fun r => ((Bo r), [])
theorem lq (k : Nat) (a0 : a8) (a1 : b8) (a2 : Str) : EV k 3 [(b7 a0), (j4 a1), (Sr a2)] = (Y1 k a0 a1 a2).map jW := by
 cases k with
 | zero => rfl
 | succ k =>
  unfold Y1
  refine et (i5 (c := f3c) (N := 107) (regs := f3n) rfl func3 rfl (by decide) rfl rfl rfl) <| kr ⟨[(2, (Sr a2)), (3, (Pt 3)), (4, (Pt 4))], [(3, vS 4 (b7 a0)), (4, vS 3 (j4 a1))], 107⟩ rfl <| et b6 <| kga aan rfl (fun (o3 : Bool) => [(30, (Bo o3))]) ?_ fun o3 => ?_
  ·refine rd 1 [(19, (b7 a0))] rfl rfl <| rp rfl (d7 rfl rfl rfl rfl rfl (oM k a0) (.inl rfl)) fun v1 => bd 3 [(20, (Bo v1)), (21, (Bo v1))] rfl rfl <| n5 (fun hc => ?_) fun hc => ?_
   ·rw [hc]
    exact d5 rfl
   ·rw [hc]
    refine rd 5 [(22, (j4 a1)), (23, (u5 (([a1] : List b8))))] rfl rfl <| rp rfl (d7 rfl rfl rfl rfl rfl (qh k ([a1] : List b8)) (.inl rfl)) fun v2 => bd 8 [(24, (Bo v2)), (25, (Bo v2)), (26, (Bo v2))] rfl rfl <| n5 (fun hc => ?_) fun hc => ?_
    ·rw [hc]
     exact d5 rfl
    ·rw [hc]
     exact d5 rfl
  refine kc rfl rfl (fun hc => ?_) fun hc => ?_
  ·rw [hc]
   refine et b6 <| kg adg rfl (fun (o5 : Bool) => ⟨[(6, (Bo o5))], [], 107⟩) (rs rfl (d7 rfl rfl rfl rfl rfl (Y2 k) (.inl rfl)) fun v4 => b5 rfl) fun o5 => et n6 ?_
   rfl
  ·rw [hc]
   refine et d6 <| kg Va rfl (fun (o7 : Str × Int) => ⟨[(2, (Sr a2)), (3, (Pt 3)), (4, (Pt 4)), (7, (Sr o7.1)), (8, (I o7.2))], [(3, vS 4 (b7 a0)), (4, vS 3 (j4 a1))], 107⟩) (rd 2 [(33, (b7 a0)), (34, (j4 a1))] rfl rfl <| rp rfl (d7 rfl rfl rfl rfl rfl (I0 k a0 a1) (.inl rfl)) fun v6 => b5 rfl) fun o7 => kga adO rfl (fun (o9 : Str × Int) => [(9, (Sr o9.1)), (10, (I o9.2))]) (rd 2 [(39, (b7 a0)), (40, (j4 a1))] rfl rfl <| rp rfl (d7 rfl rfl rfl rfl rfl (oj k a0 a1) (.inl rfl)) fun v8 => b5 rfl) fun o9 => kg aat rfl (fun (o11 : Int × b8) => ⟨[(2, (Sr a2)), (3, (Pt 3)), (4, (Pt 4)), (7, (Sr o7.1)), (8, (I o7.2)), (9, (Sr o9.1)), (10, (I o9.2)), (11, (Pt 11)), (12, (I o11.1))], [(3, vS 4 (b7 a0)), (4, vS 3 (j4 a1)), (11, vS 3 (j4 o11.2))], 107⟩) (rd 2 [(45, (b7 a0)), (46, (Sr a2))] rfl rfl <| rp rfl (d7 rfl rfl rfl rfl rfl (mf k a0 a2) (.inl rfl)) fun v10 => b5 rfl) fun o11 => kg ZC rfl (fun (o13 : Int × b8) => ⟨[(2, (Sr a2)), (3, (Pt 3)), (4, (Pt 4)), (7, (Sr o7.1)), (8, (I o7.2)), (9, (Sr o9.1)), (10, (I o9.2)), (11, (Pt 11)), (12, (I o11.1)), (13, (Pt 13)), (14, (I o13.1))], [(3, vS 4 (b7 a0)), (4, vS 3 (j4 a1)), (11, vS 3 (j4 o11.2)), (13, vS 3 (j4 o13.2))], 107⟩) (rd 2 [(51, (b7 a0)), (52, (Sr a2))] rfl rfl <| rp rfl (d7 rfl rfl rfl rfl rfl (pz k a0 a2) (.inl rfl)) fun v12 => b5 rfl) fun o13 => et b6 <| kg YD rfl (fun (o15 : Bool) => ⟨[(2, (Sr a2)), (3, (Pt 3)), (4, (Pt 4)), (7, (Sr o7.1)), (8, (I o7.2)), (11, (Pt 11)), (12, (I o11.1)), (74, (Bo o15))], [(3, vS 4 (b7 a0)), (4, vS 3 (j4 a1)), (11, vS 3 (j4 o11.2))], 107⟩) ?_ fun o15 => ?_
   ·refine rd 4 [(56, (Sr o7.1)), (57, (Sr o9.1)), (58, (Bo (!(o7.1 == o9.1)))), (59, (Bo (!(o7.1 == o9.1))))] rfl rfl <| n5 (fun hc => ?_) fun hc => ?_
    ·rw [hc]
     exact d5 rfl
    ·rw [hc]
     refine rd 9 [(60, (I o7.2)), (61, (I o9.2)), (62, (Bo (o7.2 != o9.2))), (63, (Bo (o7.2 != o9.2))), (64, (Bo (o7.2 != o9.2)))] rfl rfl <| n5 (fun hc => ?_) fun hc => ?_
     ·rw [hc]
      exact d5 rfl
     ·rw [hc]
      refine rd 11 [(65, (j4 o11.2)), (66, (j4 o13.2))] rfl rfl <| rp rfl (d7 rfl rfl rfl rfl rfl (qu k o11.2 o13.2) (.inl rfl)) fun v14 => bd 15 [(67, (Bo v14)), (68, (Bo (!v14))), (69, (Bo (!v14))), (70, (Bo (!v14)))] rfl rfl <| n5 (fun hc => ?_) fun hc => ?_
      ·rw [hc]
       exact d5 rfl
      ·rw [hc]
       exact d5 rfl
   refine kc rfl rfl (fun hc => ?_) fun hc => ?_
   ·rw [hc]
    refine et b6 <| kr ⟨[(6, (Bo false))], [], 107⟩ rfl <| et n6 ?_
    rfl
   ·rw [hc]
    refine et d6 <| et b6 <| kr ⟨[(2, (Sr a2)), (3, (Pt 3)), (4, (Pt 4)), (7, (Sr o7.1)), (11, (Pt 11)), (12, (I o11.1)), (76, (Bo (o7.2 == 0)))], [(3, vS 4 (b7 a0)), (4, vS 3 (j4 a1)), (11, vS 3 (j4 o11.2))], 107⟩ rfl <| kc rfl rfl (fun hc => ?_) fun hc => ?_
    ·rw [hc]
     refine et b6 <| kg DY rfl (fun (o17 : Int × b8) => ⟨[(2, (Sr a2)), (3, (Pt 3)), (4, (Pt 4)), (11, (Pt 11)), (12, (I o11.1)), (15, (Pt 15)), (16, (I o17.1))], [(3, vS 4 (b7 a0)), (4, vS 3 (j4 a1)), (11, vS 3 (j4 o11.2)), (15, vS 3 (j4 o17.2))], 107⟩) (rd 2 [(78, (b7 a0)), (79, (Sr o7.1))] rfl rfl <| rp rfl (d7 rfl rfl rfl rfl rfl (mf k a0 o7.1) (.inl rfl)) fun v16 => b5 rfl) fun o17 => et b6 <| kg Do rfl (fun (o19 : Bool) => ⟨[(2, (Sr a2)), (3, (Pt 3)), (11, (Pt 11)), (12, (I o11.1)), (90, (Bo o19))], [(3, vS 4 (b7 a0)), (11, vS 3 (j4 o11.2))], 107⟩) ?_ fun o19 => ?_
     ·refine rd 3 [(83, (I o17.1)), (84, (Bo (o17.1 != 0))), (85, (Bo (o17.1 != 0)))] rfl rfl <| n5 (fun hc => ?_) fun hc => ?_
      ·rw [hc]
       exact d5 rfl
      ·rw [hc]
       exact rd 5 [(86, (j4 o17.2)), (87, (j4 a1))] rfl rfl <| rp rfl (d7 rfl rfl rfl rfl rfl (tP k o17.2 a1) (.inl rfl)) fun v18 => b5 rfl
     refine kc rfl rfl (fun hc => ?_) fun hc => ?_
     ·rw [hc]
      refine et b6 <| kr ⟨[(6, (Bo false))], [], 107⟩ rfl <| et n6 ?_
      rfl
     ·rw [hc]
      refine et d6 <| et b6 <| kr ⟨[(2, (Sr a2)), (3, (Pt 3)), (11, (Pt 11)), (92, (Bo (o11.1 == 0)))], [(3, vS 4 (b7 a0)), (11, vS 3 (j4 o11.2))], 107⟩ rfl <| kc rfl rfl (fun hc => ?_) fun hc => ?_
      ·rw [hc]
       refine et b6 <| kg Aj rfl (fun (o21 : Str × Int) => ⟨[(2, (Sr a2)), (17, (Sr o21.1)), (18, (I o21.2))], [], 107⟩) (rd 2 [(94, (b7 a0)), (95, (j4 o11.2))] rfl rfl <| rp rfl (d7 rfl rfl rfl rfl rfl (I0 k a0 o11.2) (.inl rfl)) fun v20 => b5 rfl) fun o21 => et b6 <| kg zx rfl (fun (o22 : Bool) => ⟨[(105, (Bo o22))], [], 107⟩) ?_ fun o22 => ?_
       ·refine rd 3 [(99, (I o21.2)), (100, (Bo (o21.2 != 0))), (101, (Bo (o21.2 != 0)))] rfl rfl <| n5 (fun hc => ?_) fun hc => ?_
        ·rw [hc]
         exact d5 rfl
        ·rw [hc]
         exact d5 rfl
       refine kc rfl rfl (fun hc => ?_) fun hc => ?_
       ·rw [hc]
        refine et b6 <| kr ⟨[(6, (Bo false))], [], 107⟩ rfl <| et n6 ?_
        rfl
       ·rw [hc]
        refine et d6 <| kg tq rfl (fun (o24 : Bool) => ⟨[(6, (Bo o24))], [], 107⟩) (rs rfl (d7 rfl rfl rfl rfl rfl (Y2 k) (.inl rfl)) fun v23 => b5 rfl) fun o24 => et i1 ?_
        rfl
      ·rw [hc]
       refine et d6 <| kg tq rfl (fun (o26 : Bool) => ⟨[(6, (Bo o26))], [], 107⟩) (rs rfl (d7 rfl rfl rfl rfl rfl (Y2 k) (.inl rfl)) fun v25 => b5 rfl) fun o26 => et i1 ?_
       rfl
    ·rw [hc]
     refine et d6 <| et b6 <| kr ⟨[(2, (Sr a2)), (3, (Pt 3)), (11, (Pt 11)), (92, (Bo (o11.1 == 0)))], [(3, vS 4 (b7 a0)), (11, vS 3 (j4 o11.2))], 107⟩ rfl <| kc rfl rfl (fun hc => ?_) fun hc => ?_
     ·rw [hc]
      refine et b6 <| kg Aj rfl (fun (o27 : Str × Int) => ⟨[(2, (Sr a2)), (17, (Sr o27.1)), (18, (I o27.2))], [], 107⟩) (rd 2 [(94, (b7 a0)), (95, (j4 o11.2))] rfl rfl <| rp rfl (d7 rfl rfl rfl rfl rfl (I0 k a0 o11.2) (.inl rfl)) fun v20 => b5 rfl) fun o27 => et b6 <| kg zx rfl (fun (o28 : Bool) => ⟨[(105, (Bo o28))], [], 107⟩) ?_ fun o28 => ?_
      ·refine rd 3 [(99, (I o27.2)), (100, (Bo (o27.2 != 0))), (101, (Bo (o27.2 != 0)))] rfl rfl <| n5 (fun hc => ?_) fun hc => ?_
       ·rw [hc]
        exact d5 rfl
       ·rw [hc]
        exact d5 rfl
      refine kc rfl rfl (fun hc => ?_) fun hc => ?_
      ·rw [hc]
       refine et b6 <| kr ⟨[(6, (Bo false))], [], 107⟩ rfl <| et n6 ?_
       rfl
      ·rw [hc]
       refine et d6 <| kg tq rfl (fun (o29 : Bool) => ⟨[(6, (Bo o29))], [], 107⟩) (rs rfl (d7 rfl rfl rfl rfl rfl (Y2 k) (.inl rfl)) fun v23 => b5 rfl) fun o29 => et i1 ?_
       rfl
     ·rw [hc]
      refine et d6 <| kg tq rfl (fun (o30 : Bool) => ⟨[(6, (Bo o30))], [], 107⟩) (rs rfl (d7 rfl rfl rfl rfl rfl (Y2 k) (.inl rfl)) fun v25 => b5 rfl) fun o30 => et i1 ?_
      rfl
end
end Go.AE
