/- The program, function by function: the evaluator comes to the typed functions. Conditions: none. -/
import Derived.Test.YtnpeekncggidcaaGreatDoorA3
import Derived.KernelRfl
import Derived.Test.YtnpeekncggidcaaGreatDoorProg
import Derived.Test.YtnpeekncggidcaaGreatDoorB1
import Derived.Test.YtnpeekncggidcaaGreatDoorE1
namespace Go.AE
open Go.Proofs.Tryz Go.Sh
set_option linter.unusedSimpArgs false
set_option linter.unusedVariables false
set_option maxRecDepth 100000
set_option maxHeartbeats 4000000
noncomputable section
theorem lP (k : Nat) (a0 : a8)  (K0 : Int → Option Bool) (Kst : X × St → Option (V × List V)) (hK0 : ∀ (y0 : Int), Kst (X.exit 4, ⟨[(1, (Pt 1)), (6, (I y0)), (154, (Bo false))], [(1, vS 4 (b6 a0))], 232⟩) = (K0 y0).map E0) (hret : ∀ s, Kst (X.ret, s) = F3 prog 232 [(b6 a0)] [] [.tmp 2] (X.ret, s)) :
  ∀ (m : Nat) (x52 : Int), (D1 (u0 prog (EV k) wg k Cy) m ⟨[(1, (Pt 1)), (6, (I x52))], [(1, vS 4 (b6 a0))], 232⟩).bind Kst = (I2 k a0 K0 m x52).map E0 := by
 intro m
 induction m with
 | zero => intros; rfl
 | succ m ih =>
  intro x52
  unfold I2
  refine et l9 <| et b5 <| krp yA rfl ⟨[(1, (Pt 1)), (6, (I x52)), (154, (Bo (decide (x52 < (a0.fIndexes.length : Int)))))], [(1, vS 4 (b6 a0))], 232⟩ ?_ ?_
  ·exact rd 3 [(150, (I x52)), (151, (V.ptr 1 0 3)), (152, (s8 a0.fIndexes))] rfl rfl <| rl rfl (n7 (e := s5) rfl rfl rfl rfl rfl rfl underlying23) <| b4 rfl
  refine kc rfl rfl (fun hc => ?_) fun hc => ?_
  ·rw [hc]
   refine et d6 <| et (i8 rfl) <| kg yB rfl (fun (o54 : j1) => ⟨[(1, (Pt 1)), (6, (I x52)), (7, (Pt 7))], [(1, vS 4 (b6 a0)), (7, vS 4 (s5 o54))], 232⟩) (rd 3 [(157, (V.ptr 1 0 3)), (158, (s8 a0.fIndexes)), (159, (I x52))] rfl rfl <| rs rfl (i2 (e := s5) rfl rfl rfl underlying23 rfl (by decide)) fun v53 => b4 rfl) fun o54 => et b5 <| kd yC rfl (fun (o59 : Bool) => ⟨[(1, (Pt 1)), (6, (I x52)), (7, (Pt 7)), (217, (Bo o59))], [(1, vS 4 (b6 a0)), (7, vS 4 (s5 o54))], 232⟩) ?_ fun o59 => ?_
   ·refine et (j2 (p := 56) (dk := true) (t := [(1, (Pt 1)), (6, (I x52)), (7, (Pt 7))]) (σ := [(1, vS 4 (b6 a0)), (7, vS 4 (s5 o54))]) (n := 232) rfl (by decide) (by decide) rfl) <| et (j8 (m := 2) (j := 2) (t' := [(1, (Pt 1)), (6, (I x52)), (7, (Pt 7)), (162, (Pt 7)), (163, (Sr o54.fName))]) rfl rfl rfl) <| et (c8 (x := (K3 k o54.fName)) (w := fun v55 => (Bo v55)) rfl rfl rfl rfl rfl (d7 rfl rfl rfl rfl rfl (aE k o54.fName) (.inl rfl))) <| j5 fun v55 => et (i7 (m := 2) (j := 5) (t' := [(1, (Pt 1)), (6, (I x52)), (7, (Pt 7)), (162, (Pt 7)), (163, (Sr o54.fName)), (164, (Bo v55)), (165, (Bo (!v55))), (166, (Bo (!v55)))]) rfl rfl rfl) <| n5 (fun hc => ?_) fun hc => ?_
    ·rw [hc]
     exact j9 rfl
    ·rw [hc]
     refine et (j8 (m := 5) (j := 10) (t' := [(1, (Pt 1)), (6, (I x52)), (7, (Pt 7)), (162, (Pt 7)), (163, (Sr o54.fName)), (164, (Bo v55)), (165, (Bo false)), (166, (Bo false)), (167, (V.ptr 7 0 1)), (168, (I o54.fType)), (169, (Bo (decide (o54.fType < 0)))), (170, (Bo (decide (o54.fType < 0)))), (171, (Bo (decide (o54.fType < 0))))]) rfl rfl rfl) <| n5 (fun hc => ?_) fun hc => ?_
     ·rw [hc]
      exact j9 rfl
     ·rw [hc]
      refine et (j8 (m := 4) (j := 14) (t' := [(1, (Pt 1)), (6, (I x52)), (7, (Pt 7)), (162, (Pt 7)), (163, (Sr o54.fName)), (164, (Bo v55)), (165, (Bo false)), (166, (Bo false)), (167, (V.ptr 7 0 1)), (168, (I o54.fType)), (169, (Bo false)), (170, (Bo false)), (171, (Bo false)), (172, (V.ptr 7 0 1)), (173, (I o54.fType)), (174, (V.ptr 1 0 2)), (175, (l7 a0.fTypes))]) rfl rfl rfl) <| et (c8 (x := some ()) (w := fun _ => (I (a0.fTypes.length : Int))) rfl rfl rfl rfl rfl (n7 (e := j0) rfl rfl rfl rfl rfl rfl underlying22)) <| et ag <| et (i7 (m := 3) (j := 18) (t' := [(1, (Pt 1)), (6, (I x52)), (7, (Pt 7)), (162, (Pt 7)), (163, (Sr o54.fName)), (164, (Bo v55)), (165, (Bo false)), (166, (Bo false)), (167, (V.ptr 7 0 1)), (168, (I o54.fType)), (169, (Bo false)), (170, (Bo false)), (171, (Bo false)), (172, (V.ptr 7 0 1)), (173, (I o54.fType)), (174, (V.ptr 1 0 2)), (175, (l7 a0.fTypes)), (176, (I (a0.fTypes.length : Int))), (177, (Bo (decide (o54.fType ≥ (a0.fTypes.length : Int))))), (178, (Bo (decide (o54.fType ≥ (a0.fTypes.length : Int))))), (179, (Bo (decide (o54.fType ≥ (a0.fTypes.length : Int)))))]) rfl rfl rfl) <| n5 (fun hc => ?_) fun hc => ?_
      ·rw [hc]
       exact j9 rfl
      ·rw [hc]
       refine et (j8 (m := 5) (j := 23) (t' := [(1, (Pt 1)), (6, (I x52)), (7, (Pt 7)), (162, (Pt 7)), (163, (Sr o54.fName)), (164, (Bo v55)), (165, (Bo false)), (166, (Bo false)), (167, (V.ptr 7 0 1)), (168, (I o54.fType)), (169, (Bo false)), (170, (Bo false)), (171, (Bo false)), (172, (V.ptr 7 0 1)), (173, (I o54.fType)), (174, (V.ptr 1 0 2)), (175, (l7 a0.fTypes)), (176, (I (a0.fTypes.length : Int))), (177, (Bo false)), (178, (Bo false)), (179, (Bo false)), (180, (V.ptr 7 0 2)), (181, (I o54.fField)), (182, (Bo (decide (o54.fField < 0)))), (183, (Bo (decide (o54.fField < 0)))), (184, (Bo (decide (o54.fField < 0))))]) rfl rfl rfl) <| n5 (fun hc => ?_) fun hc => ?_
       ·rw [hc]
        exact j9 rfl
       ·rw [hc]
        refine et (j8 (m := 6) (j := 29) (t' := [(1, (Pt 1)), (6, (I x52)), (7, (Pt 7)), (162, (Pt 7)), (163, (Sr o54.fName)), (164, (Bo v55)), (165, (Bo false)), (166, (Bo false)), (167, (V.ptr 7 0 1)), (168, (I o54.fType)), (169, (Bo false)), (170, (Bo false)), (171, (Bo false)), (172, (V.ptr 7 0 1)), (173, (I o54.fType)), (174, (V.ptr 1 0 2)), (175, (l7 a0.fTypes)), (176, (I (a0.fTypes.length : Int))), (177, (Bo false)), (178, (Bo false)), (179, (Bo false)), (180, (V.ptr 7 0 2)), (181, (I o54.fField)), (182, (Bo false)), (183, (Bo false)), (184, (Bo false)), (185, (V.ptr 7 0 2)), (186, (I o54.fField)), (187, (V.ptr 1 0 2)), (188, (l7 a0.fTypes)), (189, (V.ptr 7 0 1)), (190, (I o54.fType))]) rfl rfl rfl) <| et (c8 (x := (idx a0.fTypes o54.fType)) (w := fun v56 => (Pr (j0 v56))) rfl rfl rfl rfl rfl (i2 (e := j0) rfl rfl rfl underlying22 rfl (by decide))) <| j5 fun v56 => et (i7 (m := 2) (j := 32) (t' := [(1, (Pt 1)), (6, (I x52)), (7, (Pt 7)), (162, (Pt 7)), (163, (Sr o54.fName)), (164, (Bo v55)), (165, (Bo false)), (166, (Bo false)), (167, (V.ptr 7 0 1)), (168, (I o54.fType)), (169, (Bo false)), (170, (Bo false)), (171, (Bo false)), (172, (V.ptr 7 0 1)), (173, (I o54.fType)), (174, (V.ptr 1 0 2)), (175, (l7 a0.fTypes)), (176, (I (a0.fTypes.length : Int))), (177, (Bo false)), (178, (Bo false)), (179, (Bo false)), (180, (V.ptr 7 0 2)), (181, (I o54.fField)), (182, (Bo false)), (183, (Bo false)), (184, (Bo false)), (185, (V.ptr 7 0 2)), (186, (I o54.fField)), (187, (V.ptr 1 0 2)), (188, (l7 a0.fTypes)), (189, (V.ptr 7 0 1)), (190, (I o54.fType)), (191, (Pr (j0 v56))), (192, (Pr (k0 v56.fFields))), (193, (k0 v56.fFields))]) rfl rfl rfl) <| et (c8 (x := some ()) (w := fun _ => (I (v56.fFields.length : Int))) rfl rfl rfl rfl rfl (n7 (e := l6) rfl rfl rfl rfl rfl rfl underlying46)) <| et ag <| et (i7 (m := 3) (j := 36) (t' := [(1, (Pt 1)), (6, (I x52)), (7, (Pt 7)), (162, (Pt 7)), (163, (Sr o54.fName)), (164, (Bo v55)), (165, (Bo false)), (166, (Bo false)), (167, (V.ptr 7 0 1)), (168, (I o54.fType)), (169, (Bo false)), (170, (Bo false)), (171, (Bo false)), (172, (V.ptr 7 0 1)), (173, (I o54.fType)), (174, (V.ptr 1 0 2)), (175, (l7 a0.fTypes)), (176, (I (a0.fTypes.length : Int))), (177, (Bo false)), (178, (Bo false)), (179, (Bo false)), (180, (V.ptr 7 0 2)), (181, (I o54.fField)), (182, (Bo false)), (183, (Bo false)), (184, (Bo false)), (185, (V.ptr 7 0 2)), (186, (I o54.fField)), (187, (V.ptr 1 0 2)), (188, (l7 a0.fTypes)), (189, (V.ptr 7 0 1)), (190, (I o54.fType)), (191, (Pr (j0 v56))), (192, (Pr (k0 v56.fFields))), (193, (k0 v56.fFields)), (194, (I (v56.fFields.length : Int))), (195, (Bo (decide (o54.fField ≥ (v56.fFields.length : Int))))), (196, (Bo (decide (o54.fField ≥ (v56.fFields.length : Int))))), (197, (Bo (decide (o54.fField ≥ (v56.fFields.length : Int)))))]) rfl rfl rfl) <| n5 (fun hc => ?_) fun hc => ?_
        ·rw [hc]
         exact j9 rfl
        ·rw [hc]
         refine et (j8 (m := 4) (j := 40) (t' := [(1, (Pt 1)), (6, (I x52)), (7, (Pt 7)), (162, (Pt 7)), (163, (Sr o54.fName)), (164, (Bo v55)), (165, (Bo false)), (166, (Bo false)), (167, (V.ptr 7 0 1)), (168, (I o54.fType)), (169, (Bo false)), (170, (Bo false)), (171, (Bo false)), (172, (V.ptr 7 0 1)), (173, (I o54.fType)), (174, (V.ptr 1 0 2)), (175, (l7 a0.fTypes)), (176, (I (a0.fTypes.length : Int))), (177, (Bo false)), (178, (Bo false)), (179, (Bo false)), (180, (V.ptr 7 0 2)), (181, (I o54.fField)), (182, (Bo false)), (183, (Bo false)), (184, (Bo false)), (185, (V.ptr 7 0 2)), (186, (I o54.fField)), (187, (V.ptr 1 0 2)), (188, (l7 a0.fTypes)), (189, (V.ptr 7 0 1)), (190, (I o54.fType)), (191, (Pr (j0 v56))), (192, (Pr (k0 v56.fFields))), (193, (k0 v56.fFields)), (194, (I (v56.fFields.length : Int))), (195, (Bo false)), (196, (Bo false)), (197, (Bo false)), (198, (V.ptr 1 0 2)), (199, (l7 a0.fTypes)), (200, (V.ptr 7 0 1)), (201, (I o54.fType))]) rfl rfl rfl) <| et (c8 (x := (idx a0.fTypes o54.fType)) (w := fun v57 => (Pr (j0 v57))) rfl rfl rfl rfl rfl (i2 (e := j0) rfl rfl rfl underlying22 rfl (by decide))) <| j5 fun v57 => et (i7 (m := 4) (j := 45) (t' := [(1, (Pt 1)), (6, (I x52)), (7, (Pt 7)), (162, (Pt 7)), (163, (Sr o54.fName)), (164, (Bo v55)), (165, (Bo false)), (166, (Bo false)), (167, (V.ptr 7 0 1)), (168, (I o54.fType)), (169, (Bo false)), (170, (Bo false)), (171, (Bo false)), (172, (V.ptr 7 0 1)), (173, (I o54.fType)), (174, (V.ptr 1 0 2)), (175, (l7 a0.fTypes)), (176, (I (a0.fTypes.length : Int))), (177, (Bo false)), (178, (Bo false)), (179, (Bo false)), (180, (V.ptr 7 0 2)), (181, (I o54.fField)), (182, (Bo false)), (183, (Bo false)), (184, (Bo false)), (185, (V.ptr 7 0 2)), (186, (I o54.fField)), (187, (V.ptr 1 0 2)), (188, (l7 a0.fTypes)), (189, (V.ptr 7 0 1)), (190, (I o54.fType)), (191, (Pr (j0 v56))), (192, (Pr (k0 v56.fFields))), (193, (k0 v56.fFields)), (194, (I (v56.fFields.length : Int))), (195, (Bo false)), (196, (Bo false)), (197, (Bo false)), (198, (V.ptr 1 0 2)), (199, (l7 a0.fTypes)), (200, (V.ptr 7 0 1)), (201, (I o54.fType)), (202, (Pr (j0 v57))), (203, (Pr (k0 v57.fFields))), (204, (k0 v57.fFields)), (205, (V.ptr 7 0 2)), (206, (I o54.fField))]) rfl rfl rfl) <| et (c8 (x := (idx v57.fFields o54.fField)) (w := fun v58 => (Pr (l6 v58))) rfl rfl rfl rfl rfl (i2 (e := l6) rfl rfl rfl underlying46 rfl (by decide))) <| j5 fun v58 => et (i7 (m := 5) (j := 51) (t' := [(1, (Pt 1)), (6, (I x52)), (7, (Pt 7)), (162, (Pt 7)), (163, (Sr o54.fName)), (164, (Bo v55)), (165, (Bo false)), (166, (Bo false)), (167, (V.ptr 7 0 1)), (168, (I o54.fType)), (169, (Bo false)), (170, (Bo false)), (171, (Bo false)), (172, (V.ptr 7 0 1)), (173, (I o54.fType)), (174, (V.ptr 1 0 2)), (175, (l7 a0.fTypes)), (176, (I (a0.fTypes.length : Int))), (177, (Bo false)), (178, (Bo false)), (179, (Bo false)), (180, (V.ptr 7 0 2)), (181, (I o54.fField)), (182, (Bo false)), (183, (Bo false)), (184, (Bo false)), (185, (V.ptr 7 0 2)), (186, (I o54.fField)), (187, (V.ptr 1 0 2)), (188, (l7 a0.fTypes)), (189, (V.ptr 7 0 1)), (190, (I o54.fType)), (191, (Pr (j0 v56))), (192, (Pr (k0 v56.fFields))), (193, (k0 v56.fFields)), (194, (I (v56.fFields.length : Int))), (195, (Bo false)), (196, (Bo false)), (197, (Bo false)), (198, (V.ptr 1 0 2)), (199, (l7 a0.fTypes)), (200, (V.ptr 7 0 1)), (201, (I o54.fType)), (202, (Pr (j0 v57))), (203, (Pr (k0 v57.fFields))), (204, (k0 v57.fFields)), (205, (V.ptr 7 0 2)), (206, (I o54.fField)), (207, (Pr (l6 v58))), (208, (Pr (I v58.fBytes))), (209, (I v58.fBytes)), (210, (Bo (decide (v58.fBytes > 20)))), (211, (Bo (decide (v58.fBytes > 20)))), (212, (Bo (decide (v58.fBytes > 20))))]) rfl rfl rfl) <| n5 (fun hc => ?_) fun hc => ?_
         ·rw [hc]
          exact j9 rfl
         ·rw [hc]
          exact j9 rfl
   refine kc rfl rfl (fun hc => ?_) fun hc => ?_
   ·rw [hc]
    refine et b5 <| kr ⟨[(2, (Bo false))], [], 232⟩ rfl <| et n6 <| et l5 <| et l8 <| et (hret _) ?_
    rfl
   ·rw [hc]
    refine et d6 <| kr ⟨[(1, (Pt 1)), (6, (I x52)), (7, (Pt 7)), (8, (I 0))], [(1, vS 4 (b6 a0)), (7, vS 4 (s5 o54))], 232⟩ rfl <| et (G7 rfl) <| et p8 ?_
    refine lQ k a0 x52 o54 _ _ ?h_ref11_Valid_L4_0 ?hr_ref11_Valid_L4 k 0
    ·intro y65
     exact et j6 <| et m9 <| et i6 <| kl ⟨[(1, (Pt 1)), (6, (I (Go.IntKind.wrap .i64 (x52 + 1))))], [(1, vS 4 (b6 a0))], 232⟩ rfl <| et i3 <| ih (Go.IntKind.wrap .i64 (x52 + 1))
    ·intro s; exact hret s
  ·rw [hc]
   exact et p7 <| et j3 <| hK0 x52
theorem bs (k : Nat) (a0 : a8) : EV k 30 [(b6 a0)] = (T4 k a0).map E0 := by
 cases k with
 | zero => rfl
 | succ k =>
  unfold T4
  refine et (i5 (c := f30c) (N := 232) (regs := wg) rfl func30 rfl (by decide) rfl rfl rfl) <| kr ⟨[(1, (Pt 1))], [(1, vS 4 (b6 a0))], 232⟩ rfl <| et b5 <| kga Cr rfl (fun (o2 : Bool) => [(40, (Bo o2))]) ?_ fun o2 => ?_
  ·refine rd 2 [(9, (Pt 1)), (10, (Sr a0.fName))] rfl rfl <| rp rfl (d7 rfl rfl rfl rfl rfl (aE k a0.fName) (.inl rfl)) fun v1 => bd 5 [(11, (Bo v1)), (12, (Bo (!v1))), (13, (Bo (!v1)))] rfl rfl <| n5 (fun hc => ?_) fun hc => ?_
   ·rw [hc]
    exact d5 rfl
   ·rw [hc]
    refine rd 10 [(14, (V.ptr 1 0 1)), (15, (I a0.fKind)), (16, (Bo (decide (a0.fKind < 1)))), (17, (Bo (decide (a0.fKind < 1)))), (18, (Bo (decide (a0.fKind < 1))))] rfl rfl <| n5 (fun hc => ?_) fun hc => ?_
    ·rw [hc]
     exact d5 rfl
    ·rw [hc]
     refine rd 15 [(19, (V.ptr 1 0 1)), (20, (I a0.fKind)), (21, (Bo (decide (a0.fKind > 4)))), (22, (Bo (decide (a0.fKind > 4)))), (23, (Bo (decide (a0.fKind > 4))))] rfl rfl <| n5 (fun hc => ?_) fun hc => ?_
     ·rw [hc]
      exact d5 rfl
     ·rw [hc]
      refine rd 17 [(24, (V.ptr 1 0 2)), (25, (l7 a0.fTypes))] rfl rfl <| rl rfl (n7 (e := j0) rfl rfl rfl rfl rfl rfl underlying22) <| bd 21 [(26, (I (a0.fTypes.length : Int))), (27, (Bo (decide ((a0.fTypes.length : Int) < 1)))), (28, (Bo (decide ((a0.fTypes.length : Int) < 1)))), (29, (Bo (decide ((a0.fTypes.length : Int) < 1))))] rfl rfl <| n5 (fun hc => ?_) fun hc => ?_
      ·rw [hc]
       exact d5 rfl
      ·rw [hc]
       refine rd 23 [(30, (V.ptr 1 0 2)), (31, (l7 a0.fTypes))] rfl rfl <| rl rfl (n7 (e := j0) rfl rfl rfl rfl rfl rfl underlying22) <| bd 27 [(32, (I (a0.fTypes.length : Int))), (33, (Bo (decide ((a0.fTypes.length : Int) > 8)))), (34, (Bo (decide ((a0.fTypes.length : Int) > 8)))), (35, (Bo (decide ((a0.fTypes.length : Int) > 8))))] rfl rfl <| n5 (fun hc => ?_) fun hc => ?_
       ·rw [hc]
        exact d5 rfl
       ·rw [hc]
        exact rd 29 [(36, (V.ptr 1 0 3)), (37, (s8 a0.fIndexes))] rfl rfl <| rl rfl (n7 (e := s5) rfl rfl rfl rfl rfl rfl underlying23) <| b4 rfl
  refine kc rfl rfl (fun hc => ?_) fun hc => ?_
  ·rw [hc]
   refine et b5 <| kr ⟨[(2, (Bo false))], [], 232⟩ rfl <| et n6 ?_
   rfl
  ·rw [hc]
   refine et d6 <| et b5 <| kr ⟨[(1, (Pt 1)), (3, (I 0))], [(1, vS 4 (b6 a0))], 232⟩ rfl <| et (i8 rfl) <| et p8 ?_
   refine lN k a0 _ _ ?h_ref11_Valid_L1_0 ?hr_ref11_Valid_L1 k 0
   ·intro y38
    refine et j6 <| et b5 <| kr ⟨[(1, (Pt 1)), (6, (I 0))], [(1, vS 4 (b6 a0))], 232⟩ rfl <| et (i8 rfl) <| et p8 ?_
    refine lP k a0 _ _ ?h_ref11_Valid_L3_0 ?hr_ref11_Valid_L3 k 0
    ·intro y66
     refine et j6 <| kr ⟨[(2, (Bo true))], [], 232⟩ rfl <| et i1 ?_
     rfl
    ·intro s; exact rfl
   ·intro s; exact rfl
def Q0 : Bool → V × List V := fun r => ((Bo r), [])
theorem jJ (k : Nat) (a0 : Str) (x10 : Int)  (K0 : Int → Option Bool) (Kst : X × St → Option (V × List V)) (hK0 : ∀ (y0 : Int), Kst (X.exit 2, ⟨[(0, (Sr a0)), (3, (I y0)), (4, (I x10)), (20, (Bo false))], [], 27⟩) = (K0 y0).map Q0) (hret : ∀ s, Kst (X.ret, s) = F3 prog 27 [(Sr a0)] [] [.tmp 2] (X.ret, s)) :
  ∀ (m : Nat) (x14 : Int), (D1 (u0 prog (EV k) AO k DY) m ⟨[(0, (Sr a0)), (3, (I x14)), (4, (I x10))], [], 27⟩).bind Kst = (L7 a0 x10 K0 m x14).map Q0 := by
 intro m
 induction m with
 | zero => intros; rfl
 | succ m ih =>
  intro x14
  unfold L7
  refine et l9 <| et b5 <| kd DX rfl (fun (o17 : Bool) => ⟨[(0, (Sr a0)), (3, (I x14)), (4, (I x10)), (20, (Bo o17))], [], 27⟩) ?_ fun o17 => ?_
  ·refine et (j2 (p := 10) (dk := true) (t := [(0, (Sr a0)), (3, (I x14)), (4, (I x10))]) (σ := []) (n := 27) rfl (by decide) (by decide) rfl) <| et (j8 (m := 3) (j := 3) (t' := [(0, (Sr a0)), (3, (I x14)), (4, (I x10)), (11, (I x14)), (12, (Bo (decide (x14 < 3)))), (13, (Bo (decide (x14 < 3))))]) rfl rfl rfl) <| n5 (fun hc => ?_) fun hc => ?_
   ·rw [hc]
    exact et (j8 (m := 1) (j := 4) (t' := [(0, (Sr a0)), (3, (I x14)), (4, (I x10)), (11, (I x14)), (12, (Bo true)), (13, (Bo true)), (14, (I x14))]) rfl rfl rfl) <| et (c8 (x := (J5 ([68, 76, 80] : Str) x14)) (w := fun v15 => (V.int .u8 v15)) rfl rfl rfl rfl rfl (w5 rfl rfl rfl underlying9)) <| j5 fun v15 => et (i7 (m := 2) (j := 7) (t' := [(0, (Sr a0)), (3, (I x14)), (4, (I x10)), (11, (I x14)), (12, (Bo true)), (13, (Bo true)), (14, (I x14)), (15, (V.int .u8 v15)), (16, (Sr a0)), (17, (I x10))]) rfl rfl rfl) <| et (c8 (x := (J5 a0 x10)) (w := fun v16 => (V.int .u8 v16)) rfl rfl rfl rfl rfl (w5 rfl rfl rfl underlying9)) <| j5 fun v16 => j9 rfl
   ·rw [hc]
    exact j9 rfl
  refine kc rfl rfl (fun hc => ?_) fun hc => ?_
  ·try rw [hc]
   exact et d6 <| et (G7 rfl) <| kl ⟨[(0, (Sr a0)), (3, (I (Go.IntKind.wrap .i64 (x14 + 1)))), (4, (I x10))], [], 27⟩ rfl <| et i6 <| et m9 <| et i3 <| ih (Go.IntKind.wrap .i64 (x14 + 1))
  ·try rw [hc]
   exact et p7 <| et j3 <| hK0 x14
theorem jI (k : Nat) (a0 : Str)  (K0 : Int → Int → Option Bool) (Kst : X × St → Option (V × List V)) (hK0 : ∀ (y0 : Int) (y1 : Int), Kst (X.exit 0, ⟨[(0, (Sr a0)), (3, (I y0)), (4, (I y1))], [], 27⟩) = (K0 y0 y1).map Q0) (hret : ∀ s, Kst (X.ret, s) = F3 prog 27 [(Sr a0)] [] [.tmp 2] (X.ret, s)) :
  ∀ (m : Nat) (x9 : Int) (x10 : Int), (D1 (u0 prog (EV k) AO k DZ) m ⟨[(0, (Sr a0)), (3, (I x9)), (4, (I x10))], [], 27⟩).bind Kst = (H4 k a0 K0 m x9 x10).map Q0 := by
 intro m
 induction m with
 | zero => intros; rfl
 | succ m ih =>
  intro x9 x10
  unfold H4
  refine et l9 <| et b5 <| kra [(8, (Bo (decide (x10 < (a0.length : Int)))))] rfl <| et (rX (t := (decide (x10 < (a0.length : Int)))) (st' := ⟨[(0, (Sr a0)), (3, (I x9)), (4, (I x10))], [], 27⟩) rfl rfl) <| wQ (fun hc => ?_) fun hc => ?_
  ·try rw [hc]
   refine et d6 <| et (i8 rfl) <| et (i8 rfl) <| et p8 ?_
   refine jJ k a0 x10 _ _ ?h_ref14_isCodes_L2_0 ?hr_ref14_isCodes_L2 k x9
   ·intro y18
    refine et j6 <| et b5 <| kr ⟨[(0, (Sr a0)), (3, (I y18)), (4, (I x10)), (24, (Bo (y18 == 3)))], [], 27⟩ rfl <| kc rfl rfl (fun hc => ?_) fun hc => ?_
    ·try rw [hc]
     refine et b5 <| kr ⟨[(2, (Bo false))], [], 27⟩ rfl <| et n6 <| et l5 <| et l8 <| et (hret _) ?_
     rfl
    ·try rw [hc]
     exact et d6 <| kl ⟨[(0, (Sr a0)), (3, (I (Go.IntKind.wrap .i64 (y18 + 1)))), (4, (I x10))], [], 27⟩ rfl <| et i6 <| kl ⟨[(0, (Sr a0)), (3, (I (Go.IntKind.wrap .i64 (y18 + 1)))), (4, (I (Go.IntKind.wrap .i64 (x10 + 1))))], [], 27⟩ rfl <| et i3 <| ih (Go.IntKind.wrap .i64 (y18 + 1)) (Go.IntKind.wrap .i64 (x10 + 1))
   ·intro s; exact hret s
  ·try rw [hc]
   exact et p7 <| et j3 <| hK0 x9 x10
theorem S9 (k : Nat) (a0 : Str) : EV k 60 [(Sr a0)] = (au k a0).map Q0 := by
 cases k with
 | zero => rfl
 | succ k =>
  unfold au
  refine et (i5 (c := f60c) (N := 27) (regs := AO) rfl func60 rfl (by decide) rfl rfl rfl) <| kra [] rfl <| kra [(3, (I 0))] rfl <| et b5 <| kra [(4, (I 0))] rfl <| et (i8 rfl) <| et p8 ?_
  refine jI k a0 _ _ ?h_ref14_isCodes_L1_0 ?hr_ref14_isCodes_L1 k 0 0
  ·intro y19 y20
   refine et j6 <| kr ⟨[(2, (Bo true))], [], 27⟩ rfl <| et i1 ?_
   rfl
  ·intro s; exact rfl
def nf : Bool → V × List V := fun r => ((Bo r), [])
theorem og (k : Nat) (a0 : a8) (a1 : Int) : EV k 111 [(b6 a0), (I a1)] = (bu k a0 a1).map nf := by
 cases k with
 | zero => rfl
 | succ k =>
  unfold bu
  refine et (i5 (c := GA) (N := 14) (regs := BA) rfl func111 rfl (by decide) rfl rfl rfl) <| kr ⟨[(1, (I a1)), (2, (Pt 2))], [(2, vS 4 (b6 a0))], 14⟩ rfl <| kg xo rfl (fun (o1 : Bool) => ⟨[(4, (Bo o1))], [], 14⟩) ?_ fun o1 => ?_
  ·refine rd 3 [(5, (I a1)), (6, (Bo (decide (a1 ≥ 0)))), (7, (Bo (decide (a1 ≥ 0))))] rfl rfl <| n5 (fun hc => ?_) fun hc => ?_
   ·rw [hc]
    exact rd 6 [(8, (I a1)), (9, (V.ptr 2 0 2)), (10, (l7 a0.fTypes))] rfl rfl <| rl rfl (n7 (e := j0) rfl rfl rfl rfl rfl rfl underlying22) <| b4 rfl
   ·rw [hc]
    exact d5 rfl
  refine et i1 ?_
  rfl
def du : Int → V × List V := fun r => ((I r), [])
theorem lS (k : Nat) (a0 : a8) (a1 : (List Int))  (K0 : Int → Option Int) (Kst : X × St → Option (V × List V)) (hK0 : ∀ (y0 : Int), Kst (X.exit 0, ⟨[(1, (sI a1)), (2, (Pt 2)), (5, (I y0)), (12, (Bo false))], [(2, vS 4 (b6 a0))], 22⟩) = (K0 y0).map du) (hret : ∀ s, Kst (X.ret, s) = F3 prog 22 [(b6 a0), (sI a1)] [] [.tmp 4] (X.ret, s)) :
  ∀ (m : Nat) (x6 : Int), (D1 (u0 prog (EV k) FN k EB) m ⟨[(1, (sI a1)), (2, (Pt 2)), (5, (I x6))], [(2, vS 4 (b6 a0))], 22⟩).bind Kst = (N0 k a0 a1 K0 m x6).map du := by
 intro m
 induction m with
 | zero => intros; rfl
 | succ m ih =>
  intro x6
  unfold N0
  refine et l9 <| et b5 <| krp Ez rfl ⟨[(1, (sI a1)), (2, (Pt 2)), (5, (I x6)), (12, (Bo (decide (x6 < (a1.length : Int)))))], [(2, vS 4 (b6 a0))], 22⟩ ?_ ?_
  ·exact rd 2 [(9, (I x6)), (10, (sI a1))] rfl rfl <| rl rfl (n7 (e := I) rfl rfl rfl rfl rfl rfl underlying58) <| b4 rfl
  refine kc rfl rfl (fun hc => ?_) fun hc => ?_
  ·rw [hc]
   refine et d6 <| et (i8 rfl) <| kd EA rfl (fun (o9 : Bool) => ⟨[(1, (sI a1)), (2, (Pt 2)), (5, (I x6)), (21, (Bo o9))], [(2, vS 4 (b6 a0))], 22⟩) (et (j2 (p := 7) (dk := true) (t := [(1, (sI a1)), (2, (Pt 2)), (5, (I x6)), (12, (Bo true))]) (σ := [(2, vS 4 (b6 a0))]) (n := 22) rfl (by decide) (by decide) rfl) <| et (j8 (m := 3) (j := 3) (t' := [(1, (sI a1)), (2, (Pt 2)), (5, (I x6)), (12, (Bo true)), (15, (b6 a0)), (16, (sI a1)), (17, (I x6))]) rfl rfl rfl) <| et (c8 (x := (idx a1 x6)) (w := fun v7 => (Pr (I v7))) rfl rfl rfl rfl rfl (i2 (e := I) rfl rfl rfl underlying58 rfl (by decide))) <| j5 fun v7 => et (i7 (m := 1) (j := 5) (t' := [(1, (sI a1)), (2, (Pt 2)), (5, (I x6)), (12, (Bo true)), (15, (b6 a0)), (16, (sI a1)), (17, (I x6)), (18, (Pr (I v7))), (19, (I v7))]) rfl rfl rfl) <| et (c8 (x := (bu k a0 v7)) (w := fun v8 => (Bo v8)) rfl rfl rfl rfl rfl (d7 rfl rfl rfl rfl rfl (og k a0 v7) (.inl rfl))) <| j5 fun v8 => j9 rfl) fun o9 => kcl rfl rfl (fun hc => ?_) fun hc => ?_
   ·rw [hc]
    refine kr ⟨[(4, (I 2))], [], 22⟩ rfl <| et i1 <| et l5 <| et l8 <| et (hret _) ?_
    rfl
   ·rw [hc]
    exact et m9 <| et i6 <| kl ⟨[(1, (sI a1)), (2, (Pt 2)), (5, (I (Go.IntKind.wrap .i64 (x6 + 1))))], [(2, vS 4 (b6 a0))], 22⟩ rfl <| et i3 <| ih (Go.IntKind.wrap .i64 (x6 + 1))
  ·rw [hc]
   exact et p7 <| et j3 <| hK0 x6
theorem eP (k : Nat) (a0 : a8) (a1 : (List Int)) : EV k 76 [(b6 a0), (sI a1)] = (Y1 k a0 a1).map du := by
 cases k with
 | zero => rfl
 | succ k =>
  unfold Y1
  refine et (i5 (c := f76c) (N := 22) (regs := FN) rfl func76 rfl (by decide) rfl rfl rfl) <| kr ⟨[(1, (sI a1)), (2, (Pt 2))], [(2, vS 4 (b6 a0))], 22⟩ rfl <| et b5 <| kga Ey rfl (fun (o2 : Bool) => [(8, (Bo o2))]) (rd 1 [(6, (b6 a0))] rfl rfl <| rp rfl (d7 rfl rfl rfl rfl rfl (bs k a0) (.inl rfl)) fun v1 => b4 rfl) fun o2 => kc rfl rfl (fun hc => ?_) fun hc => ?_
  ·rw [hc]
   refine et b5 <| kr ⟨[(4, (I 100))], [], 22⟩ rfl <| et n6 ?_
   rfl
  ·rw [hc]
   refine et d6 <| et b5 <| kr ⟨[(1, (sI a1)), (2, (Pt 2)), (5, (I 0))], [(2, vS 4 (b6 a0))], 22⟩ rfl <| et (i8 rfl) <| et p8 ?_
   refine lS k a0 a1 _ _ ?h_ref11_asked_L1_0 ?hr_ref11_asked_L1 k 0
   ·intro y10
    refine et j6 <| kr ⟨[(4, (I 0))], [], 22⟩ rfl <| et i1 ?_
    rfl
   ·intro s; exact rfl
def eO : (Int × Int) → V × List V := fun r => (.tup [(I r.1), (I r.2)], [])
theorem ne (k : Nat) (a0 : a8) (a1 : Str)  (K0 : Int → Option (Int × Int)) (Kst : X × St → Option (V × List V)) (hK0 : ∀ (y0 : Int), Kst (X.exit 0, ⟨[(1, (Sr a1)), (2, (Pt 2)), (7, (I y0)), (17, (Bo false))], [(2, vS 4 (b6 a0))], 29⟩) = (K0 y0).map eO) (hret : ∀ s, Kst (X.ret, s) = F3 prog 29 [(b6 a0), (Sr a1)] [] [.tmp 4, .tmp 5] (X.ret, s)) :
  ∀ (m : Nat) (x5 : Int), (D1 (u0 prog (EV k) FD k De) m ⟨[(1, (Sr a1)), (2, (Pt 2)), (7, (I x5))], [(2, vS 4 (b6 a0))], 29⟩).bind Kst = (R2 a0 a1 K0 m x5).map eO := by
 intro m
 induction m with
 | zero => intros; rfl
 | succ m ih =>
  intro x5
  unfold R2
  refine et l9 <| et b5 <| krp Dc rfl ⟨[(1, (Sr a1)), (2, (Pt 2)), (7, (I x5)), (17, (Bo (decide (x5 < (a0.fTypes.length : Int)))))], [(2, vS 4 (b6 a0))], 29⟩ ?_ ?_
  ·exact rd 3 [(13, (I x5)), (14, (V.ptr 2 0 2)), (15, (l7 a0.fTypes))] rfl rfl <| rl rfl (n7 (e := j0) rfl rfl rfl rfl rfl rfl underlying22) <| b4 rfl
  refine kc rfl rfl (fun hc => ?_) fun hc => ?_
  ·rw [hc]
   refine et d6 <| et (i8 rfl) <| kg Dd rfl (fun (o7 : Bool) => ⟨[(1, (Sr a1)), (2, (Pt 2)), (7, (I x5)), (27, (Bo o7))], [(2, vS 4 (b6 a0))], 29⟩) (rd 3 [(20, (V.ptr 2 0 2)), (21, (l7 a0.fTypes)), (22, (I x5))] rfl rfl <| rp rfl (i2 (e := j0) rfl rfl rfl underlying22 rfl (by decide)) fun v6 => b4 rfl) fun o7 => kcl rfl rfl (fun hc => ?_) fun hc => ?_
   ·rw [hc]
    refine kr ⟨[(4, (I x5)), (5, (I 0))], [], 29⟩ rfl <| et i1 <| et l5 <| et l8 <| et (hret _) ?_
    rfl
   ·rw [hc]
    exact et m9 <| et i6 <| kl ⟨[(1, (Sr a1)), (2, (Pt 2)), (7, (I (Go.IntKind.wrap .i64 (x5 + 1))))], [(2, vS 4 (b6 a0))], 29⟩ rfl <| et i3 <| ih (Go.IntKind.wrap .i64 (x5 + 1))
  ·rw [hc]
   exact et p7 <| et j3 <| hK0 x5
theorem cp (k : Nat) (a0 : a8) (a1 : Str) : EV k 47 [(b6 a0), (Sr a1)] = (M9 k a0 a1).map eO := by
 cases k with
 | zero => rfl
 | succ k =>
  unfold M9
  refine et (i5 (c := f47c) (N := 29) (regs := FD) rfl func47 rfl (by decide) rfl rfl rfl) <| kr ⟨[(1, (Sr a1)), (2, (Pt 2))], [(2, vS 4 (b6 a0))], 29⟩ rfl <| et b5 <| kga Db rfl (fun (o2 : Int) => [(6, (I o2))]) (rd 1 [(8, (b6 a0))] rfl rfl <| rs rfl (d7 rfl rfl rfl rfl rfl (eP k a0 ([] : List Int)) (.inl rfl)) fun v1 => b4 rfl) fun o2 => et b5 <| kra [(11, (Bo (o2 != 0)))] rfl <| kc rfl rfl (fun hc => ?_) fun hc => ?_
  ·rw [hc]
   refine et b5 <| kr ⟨[(4, (I 0)), (5, (I o2))], [], 29⟩ rfl <| et n6 ?_
   rfl
  ·rw [hc]
   refine et d6 <| et b5 <| kr ⟨[(1, (Sr a1)), (2, (Pt 2)), (7, (I 0))], [(2, vS 4 (b6 a0))], 29⟩ rfl <| et (i8 rfl) <| et p8 ?_
   refine ne k a0 a1 _ _ ?h_ref11_Type_L1_0 ?hr_ref11_Type_L1 k 0
   ·intro y8
    refine et j6 <| kr ⟨[(4, (I 0)), (5, (I 5))], [], 29⟩ rfl <| et i1 ?_
    rfl
   ·intro s; exact rfl
def lM : (Bool × Int) → V × List V := fun r => (.tup [(Bo r.1), (I r.2)], [])
theorem nd (k : Nat) (a0 : a8) (a1 : Int) (a2 : Int) : EV k 109 [(b6 a0), (I a1), (I a2)] = (ar k a0 a1 a2).map lM := by
 cases k with
 | zero => rfl
 | succ k =>
  unfold ar
  refine et (i5 (c := Gx) (N := 21) (regs := Bv) rfl func109 rfl (by decide) rfl rfl rfl) <| kr ⟨[(1, (I a1)), (2, (I a2)), (3, (Pt 3))], [(3, vS 4 (b6 a0))], 21⟩ rfl <| et b5 <| kga xk rfl (fun (o2 : Int) => [(8, (I o2))]) (rd 4 [(9, (b6 a0)), (10, (I a1)), (11, (I a2)), (12, (sI (([a1, a2] : List Int))))] rfl rfl <| rs rfl (d7 rfl rfl rfl rfl rfl (eP k a0 ([a1, a2] : List Int)) (.inl rfl)) fun v1 => b4 rfl) fun o2 => et b5 <| kra [(15, (Bo (o2 != 0)))] rfl <| kc rfl rfl (fun hc => ?_) fun hc => ?_
  ·rw [hc]
   refine et b5 <| kr ⟨[(6, (Bo false)), (7, (I o2))], [], 21⟩ rfl <| et n6 ?_
   rfl
  ·rw [hc]
   refine et d6 <| kg xl rfl (fun (o4 : Bool × Int) => ⟨[(6, (Bo o4.1)), (7, (I o4.2))], [], 21⟩) (rd 3 [(17, (b6 a0)), (18, (I a1)), (19, (I a2))] rfl rfl <| rp rfl (d7 rfl rfl rfl rfl rfl (jc k a0 a1 a2) (.inl rfl)) fun v3 => b4 rfl) fun o4 => et i1 ?_
   rfl
def nl : Int → V × List V := fun r => ((I r), [])
theorem V1 (k : Nat) (a0 : a8) (a1 : Int) : EV k 77 [(b6 a0), (I a1)] = (ac k a0 a1).map nl := by
 cases k with
 | zero => rfl
 | succ k =>
  unfold ac
  refine et (i5 (c := f77c) (N := 19) (regs := HC) rfl func77 rfl (by decide) rfl rfl rfl) <| kr ⟨[(1, (I a1)), (2, (Pt 2))], [(2, vS 4 (b6 a0))], 19⟩ rfl <| et (i8 rfl) <| kga EC rfl (fun (o2 : Bool) => [(5, (Bo o2))]) (rd 1 [(6, (b6 a0))] rfl rfl <| rp rfl (d7 rfl rfl rfl rfl rfl (bs k a0) (.inl rfl)) fun v1 => b4 rfl) fun o2 => kcl rfl rfl (fun hc => ?_) fun hc => ?_
  ·rw [hc]
   refine kr ⟨[(4, (I 100))], [], 19⟩ rfl <| et i1 <| et l5 ?_
   rfl
  ·rw [hc]
   refine kg ED rfl (fun (o3 : Bool) => ⟨[(9, (Bo o3))], [], 19⟩) ?_ fun o3 => ?_
   ·refine rd 3 [(10, (I a1)), (11, (Bo (decide (a1 < 0)))), (12, (Bo (decide (a1 < 0))))] rfl rfl <| n5 (fun hc => ?_) fun hc => ?_
    ·rw [hc]
     exact d5 rfl
    ·rw [hc]
     exact rd 6 [(13, (I a1)), (14, (V.ptr 2 0 2)), (15, (l7 a0.fTypes))] rfl rfl <| rl rfl (n7 (e := j0) rfl rfl rfl rfl rfl rfl underlying22) <| b4 rfl
   refine kcl rfl rfl (fun hc => ?_) fun hc => ?_
   ·rw [hc]
    refine kr ⟨[(4, (I 2))], [], 19⟩ rfl <| et i1 <| et l5 ?_
    rfl
   ·rw [hc]
    refine et m9 <| et i6 <| kr ⟨[(4, (I 0))], [], 19⟩ rfl <| et i1 ?_
    rfl
def dp : (Int × Int) → V × List V := fun r => (.tup [(I r.1), (I r.2)], [])
theorem lL (k : Nat) (a0 : a8) (a1 : Int) (a2 : Str)  (K0 : Int → Option (Int × Int)) (Kst : X × St → Option (V × List V)) (hK0 : ∀ (y0 : Int), Kst (X.exit 0, ⟨[(1, (I a1)), (2, (Sr a2)), (3, (Pt 3)), (9, (I y0)), (25, (Bo false))], [(3, vS 4 (b6 a0))], 41⟩) = (K0 y0).map dp) (hret : ∀ s, Kst (X.ret, s) = F3 prog 41 [(b6 a0), (I a1), (Sr a2)] [] [.tmp 6, .tmp 7] (X.ret, s)) :
  ∀ (m : Nat) (x8 : Int), (D1 (u0 prog (EV k) yd k yc) m ⟨[(1, (I a1)), (2, (Sr a2)), (3, (Pt 3)), (9, (I x8))], [(3, vS 4 (b6 a0))], 41⟩).bind Kst = (M8 a0 a1 a2 K0 m x8).map dp := by
 intro m
 induction m with
 | zero => intros; rfl
 | succ m ih =>
  intro x8
  unfold M8
  refine et l9 <| et b5 <| kga ya rfl (fun (o10 : Bool) => [(25, (Bo o10))]) (rd 4 [(17, (I x8)), (18, (V.ptr 3 0 2)), (19, (l7 a0.fTypes)), (20, (I a1))] rfl rfl <| rp rfl (i2 (e := j0) rfl rfl rfl underlying22 rfl (by decide)) fun v9 => bd 7 [(21, (Pr (j0 v9))), (22, (Pr (k0 v9.fFields))), (23, (k0 v9.fFields))] rfl rfl <| rl rfl (n7 (e := l6) rfl rfl rfl rfl rfl rfl underlying46) <| b4 rfl) fun o10 => kc rfl rfl (fun hc => ?_) fun hc => ?_
  ·rw [hc]
   refine et d6 <| et (i8 rfl) <| kg yb rfl (fun (o13 : Bool) => ⟨[(1, (I a1)), (2, (Sr a2)), (3, (Pt 3)), (9, (I x8)), (39, (Bo o13))], [(3, vS 4 (b6 a0))], 41⟩) (rd 3 [(28, (V.ptr 3 0 2)), (29, (l7 a0.fTypes)), (30, (I a1))] rfl rfl <| rp rfl (i2 (e := j0) rfl rfl rfl underlying22 rfl (by decide)) fun v11 => bd 7 [(31, (Pr (j0 v11))), (32, (Pr (k0 v11.fFields))), (33, (k0 v11.fFields)), (34, (I x8))] rfl rfl <| rp rfl (i2 (e := l6) rfl rfl rfl underlying46 rfl (by decide)) fun v12 => b4 rfl) fun o13 => kcl rfl rfl (fun hc => ?_) fun hc => ?_
   ·rw [hc]
    refine kr ⟨[(6, (I x8)), (7, (I 0))], [], 41⟩ rfl <| et i1 <| et l5 <| et l8 <| et (hret _) ?_
    rfl
   ·rw [hc]
    exact et m9 <| et i6 <| kl ⟨[(1, (I a1)), (2, (Sr a2)), (3, (Pt 3)), (9, (I (Go.IntKind.wrap .i64 (x8 + 1))))], [(3, vS 4 (b6 a0))], 41⟩ rfl <| et i3 <| ih (Go.IntKind.wrap .i64 (x8 + 1))
  ·rw [hc]
   exact et p7 <| et j3 <| hK0 x8
theorem pD (k : Nat) (a0 : a8) (a1 : Int) (a2 : Str) : EV k 126 [(b6 a0), (I a1), (Sr a2)] = (cJ k a0 a1 a2).map dp := by
 cases k with
 | zero => rfl
 | succ k =>
  unfold cJ
  refine et (i5 (c := GN) (N := 41) (regs := yd) rfl func126 rfl (by decide) rfl rfl rfl) <| kr ⟨[(1, (I a1)), (2, (Sr a2)), (3, (Pt 3))], [(3, vS 4 (b6 a0))], 41⟩ rfl <| et b5 <| kga xZ rfl (fun (o2 : Int) => [(8, (I o2))]) (rd 3 [(10, (b6 a0)), (11, (I a1)), (12, (sI (([a1] : List Int))))] rfl rfl <| rs rfl (d7 rfl rfl rfl rfl rfl (eP k a0 ([a1] : List Int)) (.inl rfl)) fun v1 => b4 rfl) fun o2 => et b5 <| kra [(15, (Bo (o2 != 0)))] rfl <| kc rfl rfl (fun hc => ?_) fun hc => ?_
  ·rw [hc]
   refine et b5 <| kr ⟨[(6, (I 0)), (7, (I o2))], [], 41⟩ rfl <| et n6 ?_
   rfl
  ·rw [hc]
   refine et d6 <| et b5 <| kr ⟨[(1, (I a1)), (2, (Sr a2)), (3, (Pt 3)), (9, (I 0))], [(3, vS 4 (b6 a0))], 41⟩ rfl <| et (i8 rfl) <| et p8 ?_
   refine lL k a0 a1 a2 _ _ ?h_ref11_Field_L1_0 ?hr_ref11_Field_L1 k 0
   ·intro y14
    refine et j6 <| kr ⟨[(6, (I 0)), (7, (I 5))], [], 41⟩ rfl <| et i1 ?_
    rfl
   ·intro s; exact rfl
def nk : Bool → V × List V := fun r => ((Bo r), [])
theorem dx (k : Nat) (a0 : a8) (a1 : Int) (a2 : a6) : EV k 112 [(b6 a0), (I a1), (d4 a2)] = (Z9 k a0 a1 a2).map nk := by
 cases k with
 | zero => rfl
 | succ k =>
  unfold Z9
  refine et (i5 (c := GB) (N := 45) (regs := BB) rfl func112 rfl (by decide) rfl rfl rfl) <| kr ⟨[(1, (I a1)), (3, (Pt 3)), (5, (Pt 5))], [(3, vS 4 (b6 a0)), (5, vS 3 (d4 a2))], 45⟩ rfl <| kga xp rfl (fun (o2 : Int × Int) => [(7, (I o2.1)), (8, (I o2.2))]) (rd 4 [(10, (b6 a0)), (11, (I a1)), (12, (Pt 5)), (13, (Sr a2.fField))] rfl rfl <| rp rfl (d7 rfl rfl rfl rfl rfl (pD k a0 a1 a2.fField) (.inl rfl)) fun v1 => b4 rfl) fun o2 => kd xq rfl (fun (o5 : Bool) => ⟨[(6, (Bo o5))], [], 45⟩) ?_ fun o5 => ?_
  ·refine et (j2 (p := 29) (dk := true) (t := [(1, (I a1)), (3, (Pt 3)), (5, (Pt 5)), (7, (I o2.1)), (8, (I o2.2))]) (σ := [(3, vS 4 (b6 a0)), (5, vS 3 (d4 a2))]) (n := 45) rfl (by decide) (by decide) rfl) <| et (j8 (m := 3) (j := 3) (t' := [(1, (I a1)), (3, (Pt 3)), (5, (Pt 5)), (7, (I o2.1)), (8, (I o2.2)), (17, (I o2.2)), (18, (Bo (o2.2 == 0))), (19, (Bo (o2.2 == 0)))]) rfl rfl rfl) <| n5 (fun hc => ?_) fun hc => ?_
   ·rw [hc]
    refine et (j8 (m := 5) (j := 8) (t' := [(1, (I a1)), (3, (Pt 3)), (5, (Pt 5)), (7, (I o2.1)), (8, (I o2.2)), (17, (I o2.2)), (18, (Bo true)), (19, (Bo true)), (20, (V.ptr 5 0 1)), (21, (I a2.fOp)), (22, (Bo (decide (a2.fOp ≥ 1)))), (23, (Bo (decide (a2.fOp ≥ 1)))), (24, (Bo (decide (a2.fOp ≥ 1))))]) rfl rfl rfl) <| n5 (fun hc => ?_) fun hc => ?_
    ·rw [hc]
     refine et (j8 (m := 5) (j := 13) (t' := [(1, (I a1)), (3, (Pt 3)), (5, (Pt 5)), (7, (I o2.1)), (8, (I o2.2)), (17, (I o2.2)), (18, (Bo true)), (19, (Bo true)), (20, (V.ptr 5 0 1)), (21, (I a2.fOp)), (22, (Bo true)), (23, (Bo true)), (24, (Bo true)), (25, (V.ptr 5 0 1)), (26, (I a2.fOp)), (27, (Bo (decide (a2.fOp ≤ 6)))), (28, (Bo (decide (a2.fOp ≤ 6)))), (29, (Bo (decide (a2.fOp ≤ 6))))]) rfl rfl rfl) <| n5 (fun hc => ?_) fun hc => ?_
     ·rw [hc]
      exact et (j8 (m := 6) (j := 19) (t' := [(1, (I a1)), (3, (Pt 3)), (5, (Pt 5)), (7, (I o2.1)), (8, (I o2.2)), (17, (I o2.2)), (18, (Bo true)), (19, (Bo true)), (20, (V.ptr 5 0 1)), (21, (I a2.fOp)), (22, (Bo true)), (23, (Bo true)), (24, (Bo true)), (25, (V.ptr 5 0 1)), (26, (I a2.fOp)), (27, (Bo true)), (28, (Bo true)), (29, (Bo true)), (30, (V.ptr 5 0 2)), (31, (Sr a2.fValue)), (32, (I (a2.fValue.length : Int))), (33, (V.ptr 3 0 2)), (34, (l7 a0.fTypes)), (35, (I a1))]) rfl rfl rfl) <| et (c8 (x := (idx a0.fTypes a1)) (w := fun v3 => (Pr (j0 v3))) rfl rfl rfl rfl rfl (i2 (e := j0) rfl rfl rfl underlying22 rfl (by decide))) <| j5 fun v3 => et (i7 (m := 3) (j := 23) (t' := [(1, (I a1)), (3, (Pt 3)), (5, (Pt 5)), (7, (I o2.1)), (8, (I o2.2)), (17, (I o2.2)), (18, (Bo true)), (19, (Bo true)), (20, (V.ptr 5 0 1)), (21, (I a2.fOp)), (22, (Bo true)), (23, (Bo true)), (24, (Bo true)), (25, (V.ptr 5 0 1)), (26, (I a2.fOp)), (27, (Bo true)), (28, (Bo true)), (29, (Bo true)), (30, (V.ptr 5 0 2)), (31, (Sr a2.fValue)), (32, (I (a2.fValue.length : Int))), (33, (V.ptr 3 0 2)), (34, (l7 a0.fTypes)), (35, (I a1)), (36, (Pr (j0 v3))), (37, (Pr (k0 v3.fFields))), (38, (k0 v3.fFields)), (39, (I o2.1))]) rfl rfl rfl) <| et (c8 (x := (idx v3.fFields o2.1)) (w := fun v4 => (Pr (l6 v4))) rfl rfl rfl rfl rfl (i2 (e := l6) rfl rfl rfl underlying46 rfl (by decide))) <| j5 fun v4 => j9 rfl
     ·rw [hc]
      exact j9 rfl
    ·rw [hc]
     exact j9 rfl
   ·rw [hc]
    exact j9 rfl
  refine et i1 ?_
  rfl
def G8 : Bool → V × List V := fun r => ((Bo r), [])
theorem gn (k : Nat) (a0 : a8) (a1 : Int) (a2 : (List (List a6))) (x18 : Int)  (K0 : Int → Option Bool) (Kst : X × St → Option (V × List V)) (hK0 : ∀ (y0 : Int), Kst (X.exit 2, ⟨[(1, (I a1)), (2, (V.sl 0 1 (List.map a7 a2))), (3, (Pt 3)), (7, (I x18)), (8, (I y0)), (35, (Bo false))], [(3, vS 4 (b6 a0))], 52⟩) = (K0 y0).map G8) (hret : ∀ s, Kst (X.ret, s) = F3 prog 52 [(b6 a0), (I a1), (V.sl 0 1 (List.map a7 a2))] [] [.tmp 6] (X.ret, s)) :
  ∀ (m : Nat) (x28 : Int), (D1 (u0 prog (EV k) AQ k EI) m ⟨[(1, (I a1)), (2, (V.sl 0 1 (List.map a7 a2))), (3, (Pt 3)), (7, (I x18)), (8, (I x28))], [(3, vS 4 (b6 a0))], 52⟩).bind Kst = (A3 k a0 a1 a2 x18 K0 m x28).map G8 := by
 intro m
 induction m with
 | zero => intros; rfl
 | succ m ih =>
  intro x28
  unfold A3
  refine et l9 <| et b5 <| kga EG rfl (fun (o30 : Bool) => [(35, (Bo o30))]) (rd 3 [(29, (I x28)), (30, (V.sl 0 1 (List.map a7 a2))), (31, (I x18))] rfl rfl <| rp rfl (i2 (e := a7) rfl rfl rfl underlying26 rfl (by decide)) fun v29 => bd 5 [(32, (Pr (a7 v29))), (33, (a7 v29))] rfl rfl <| rl rfl (n7 (e := d4) rfl rfl rfl rfl rfl rfl underlying56) <| b4 rfl) fun o30 => kc rfl rfl (fun hc => ?_) fun hc => ?_
  ·rw [hc]
   refine et d6 <| et (i8 rfl) <| kd EH rfl (fun (o34 : Bool) => ⟨[(1, (I a1)), (2, (V.sl 0 1 (List.map a7 a2))), (3, (Pt 3)), (7, (I x18)), (8, (I x28)), (48, (Bo o34))], [(3, vS 4 (b6 a0))], 52⟩) (et (j2 (p := 11) (dk := true) (t := [(1, (I a1)), (2, (V.sl 0 1 (List.map a7 a2))), (3, (Pt 3)), (7, (I x18)), (8, (I x28)), (35, (Bo true))]) (σ := [(3, vS 4 (b6 a0))]) (n := 52) rfl (by decide) (by decide) rfl) <| et (j8 (m := 4) (j := 4) (t' := [(1, (I a1)), (2, (V.sl 0 1 (List.map a7 a2))), (3, (Pt 3)), (7, (I x18)), (8, (I x28)), (35, (Bo true)), (38, (b6 a0)), (39, (I a1)), (40, (V.sl 0 1 (List.map a7 a2))), (41, (I x18))]) rfl rfl rfl) <| et (c8 (x := (idx a2 x18)) (w := fun v31 => (Pr (a7 v31))) rfl rfl rfl rfl rfl (i2 (e := a7) rfl rfl rfl underlying26 rfl (by decide))) <| j5 fun v31 => et (i7 (m := 2) (j := 7) (t' := [(1, (I a1)), (2, (V.sl 0 1 (List.map a7 a2))), (3, (Pt 3)), (7, (I x18)), (8, (I x28)), (35, (Bo true)), (38, (b6 a0)), (39, (I a1)), (40, (V.sl 0 1 (List.map a7 a2))), (41, (I x18)), (42, (Pr (a7 v31))), (43, (a7 v31)), (44, (I x28))]) rfl rfl rfl) <| et (c8 (x := (idx v31 x28)) (w := fun v32 => (Pr (d4 v32))) rfl rfl rfl rfl rfl (i2 (e := d4) rfl rfl rfl underlying56 rfl (by decide))) <| j5 fun v32 => et (i7 (m := 1) (j := 9) (t' := [(1, (I a1)), (2, (V.sl 0 1 (List.map a7 a2))), (3, (Pt 3)), (7, (I x18)), (8, (I x28)), (35, (Bo true)), (38, (b6 a0)), (39, (I a1)), (40, (V.sl 0 1 (List.map a7 a2))), (41, (I x18)), (42, (Pr (a7 v31))), (43, (a7 v31)), (44, (I x28)), (45, (Pr (d4 v32))), (46, (d4 v32))]) rfl rfl rfl) <| et (c8 (x := (Z9 k a0 a1 v32)) (w := fun v33 => (Bo v33)) rfl rfl rfl rfl rfl (d7 rfl rfl rfl rfl rfl (dx k a0 a1 v32) (.inl rfl))) <| j5 fun v33 => j9 rfl) fun o34 => kcl rfl rfl (fun hc => ?_) fun hc => ?_
   ·rw [hc]
    refine kr ⟨[(6, (Bo false))], [], 52⟩ rfl <| et i1 <| et l5 <| et l8 <| et (hret _) ?_
    rfl
   ·rw [hc]
    exact et m9 <| et i6 <| kl ⟨[(1, (I a1)), (2, (V.sl 0 1 (List.map a7 a2))), (3, (Pt 3)), (7, (I x18)), (8, (I (Go.IntKind.wrap .i64 (x28 + 1))))], [(3, vS 4 (b6 a0))], 52⟩ rfl <| et i3 <| ih (Go.IntKind.wrap .i64 (x28 + 1))
  ·rw [hc]
   exact et p7 <| et j3 <| hK0 x28
theorem gm (k : Nat) (a0 : a8) (a1 : Int) (a2 : (List (List a6)))  (K0 : Int → Option Bool) (Kst : X × St → Option (V × List V)) (hK0 : ∀ (y0 : Int), Kst (X.exit 0, ⟨[(1, (I a1)), (2, (V.sl 0 1 (List.map a7 a2))), (3, (Pt 3)), (7, (I y0)), (12, (Bo false))], [(3, vS 4 (b6 a0))], 52⟩) = (K0 y0).map G8) (hret : ∀ s, Kst (X.ret, s) = F3 prog 52 [(b6 a0), (I a1), (V.sl 0 1 (List.map a7 a2))] [] [.tmp 6] (X.ret, s)) :
  ∀ (m : Nat) (x18 : Int), (D1 (u0 prog (EV k) AQ k EJ) m ⟨[(1, (I a1)), (2, (V.sl 0 1 (List.map a7 a2))), (3, (Pt 3)), (7, (I x18))], [(3, vS 4 (b6 a0))], 52⟩).bind Kst = (C0 k a0 a1 a2 K0 m x18).map G8 := by
 intro m
 induction m with
 | zero => intros; rfl
 | succ m ih =>
  intro x18
  unfold C0
  refine et l9 <| et b5 <| krp EE rfl ⟨[(1, (I a1)), (2, (V.sl 0 1 (List.map a7 a2))), (3, (Pt 3)), (7, (I x18)), (12, (Bo (decide (x18 < (a2.length : Int)))))], [(3, vS 4 (b6 a0))], 52⟩ ?_ ?_
  ·exact rd 2 [(9, (I x18)), (10, (V.sl 0 1 (List.map a7 a2)))] rfl rfl <| rl rfl (n7 (e := a7) rfl rfl rfl rfl rfl rfl underlying26) <| b4 rfl
  refine kc rfl rfl (fun hc => ?_) fun hc => ?_
  ·rw [hc]
   refine et d6 <| et (i8 rfl) <| et b5 <| kg EF rfl (fun (o21 : Bool) => ⟨[(1, (I a1)), (2, (V.sl 0 1 (List.map a7 a2))), (3, (Pt 3)), (7, (I x18)), (28, (Bo o21))], [(3, vS 4 (b6 a0))], 52⟩) ?_ fun o21 => ?_
   ·refine rd 2 [(15, (V.sl 0 1 (List.map a7 a2))), (16, (I x18))] rfl rfl <| rp rfl (i2 (e := a7) rfl rfl rfl underlying26 rfl (by decide)) fun v19 => bd 4 [(17, (Pr (a7 v19))), (18, (a7 v19))] rfl rfl <| rl rfl (n7 (e := d4) rfl rfl rfl rfl rfl rfl underlying56) <| bd 7 [(19, (I (v19.length : Int))), (20, (Bo (decide ((v19.length : Int) < 1)))), (21, (Bo (decide ((v19.length : Int) < 1))))] rfl rfl <| n5 (fun hc => ?_) fun hc => ?_
    ·rw [hc]
     exact d5 rfl
    ·rw [hc]
     exact rd 9 [(22, (V.sl 0 1 (List.map a7 a2))), (23, (I x18))] rfl rfl <| rp rfl (i2 (e := a7) rfl rfl rfl underlying26 rfl (by decide)) fun v20 => bd 11 [(24, (Pr (a7 v20))), (25, (a7 v20))] rfl rfl <| rl rfl (n7 (e := d4) rfl rfl rfl rfl rfl rfl underlying56) <| b4 rfl
   refine kc rfl rfl (fun hc => ?_) fun hc => ?_
   ·rw [hc]
    refine et b5 <| kr ⟨[(6, (Bo false))], [], 52⟩ rfl <| et n6 <| et l5 <| et l8 <| et (hret _) ?_
    rfl
   ·rw [hc]
    refine et d6 <| kr ⟨[(1, (I a1)), (2, (V.sl 0 1 (List.map a7 a2))), (3, (Pt 3)), (7, (I x18)), (8, (I 0))], [(3, vS 4 (b6 a0))], 52⟩ rfl <| et (G7 rfl) <| et p8 ?_
    refine gn k a0 a1 a2 x18 _ _ ?h_ref12_isCondition_L2_0 ?hr_ref12_isCondition_L2 k 0
    ·intro y35
     exact et j6 <| et m9 <| et i6 <| kl ⟨[(1, (I a1)), (2, (V.sl 0 1 (List.map a7 a2))), (3, (Pt 3)), (7, (I (Go.IntKind.wrap .i64 (x18 + 1))))], [(3, vS 4 (b6 a0))], 52⟩ rfl <| et i3 <| ih (Go.IntKind.wrap .i64 (x18 + 1))
    ·intro s; exact hret s
  ·rw [hc]
   exact et p7 <| et j3 <| hK0 x18
theorem w7 (k : Nat) (a0 : a8) (a1 : Int) (a2 : (List (List a6))) : EV k 78 [(b6 a0), (I a1), (V.sl 0 1 (List.map a7 a2))] = (B3 k a0 a1 a2).map G8 := by
 cases k with
 | zero => rfl
 | succ k =>
  unfold B3
  refine et (i5 (c := f78c) (N := 52) (regs := AQ) rfl func78 rfl (by decide) rfl rfl rfl) <| kr ⟨[(1, (I a1)), (2, (V.sl 0 1 (List.map a7 a2))), (3, (Pt 3))], [(3, vS 4 (b6 a0))], 52⟩ rfl <| et b5 <| kra [(7, (I 0))] rfl <| et (i8 rfl) <| et p8 ?_
  refine gm k a0 a1 a2 _ _ ?h_ref12_isCondition_L1_0 ?hr_ref12_isCondition_L1 k 0
  ·intro y36
   refine et j6 <| krp zj rfl ⟨[(6, (Bo (decide ((a2.length : Int) ≤ 4))))], [], 52⟩ ?_ ?_
   ·exact rd 1 [(49, (V.sl 0 1 (List.map a7 a2)))] rfl rfl <| rl rfl (n7 (e := a7) rfl rfl rfl rfl rfl rfl underlying26) <| b4 rfl
   refine et i1 ?_
   rfl
  ·intro s; exact rfl
def oi : (Bool × Int) → V × List V := fun r => (.tup [(Bo r.1), (I r.2)], [])
theorem je (k : Nat) (a0 : a8) (a1 : Int) (a2 : (List (List a6))) : EV k 110 [(b6 a0), (I a1), (V.sl 0 1 (List.map a7 a2))] = (aV k a0 a1 a2).map oi := by
 cases k with
 | zero => rfl
 | succ k =>
  unfold aV
  refine et (i5 (c := Gz) (N := 19) (regs := Bz) rfl func110 rfl (by decide) rfl rfl rfl) <| kr ⟨[(1, (I a1)), (2, (V.sl 0 1 (List.map a7 a2))), (3, (Pt 3))], [(3, vS 4 (b6 a0))], 19⟩ rfl <| et b5 <| kga xm rfl (fun (o2 : Int) => [(8, (I o2))]) (rd 2 [(9, (b6 a0)), (10, (I a1))] rfl rfl <| rs rfl (d7 rfl rfl rfl rfl rfl (V1 k a0 a1) (.inl rfl)) fun v1 => b4 rfl) fun o2 => et b5 <| kra [(13, (Bo (o2 != 0)))] rfl <| kc rfl rfl (fun hc => ?_) fun hc => ?_
  ·rw [hc]
   refine et b5 <| kr ⟨[(6, (Bo false)), (7, (I o2))], [], 19⟩ rfl <| et n6 ?_
   rfl
  ·rw [hc]
   refine et d6 <| kg xn rfl (fun (o4 : Bool × Int) => ⟨[(6, (Bo o4.1)), (7, (I o4.2))], [], 19⟩) (rd 3 [(15, (b6 a0)), (16, (I a1)), (17, (V.sl 0 1 (List.map a7 a2)))] rfl rfl <| rp rfl (d7 rfl rfl rfl rfl rfl (w7 k a0 a1 a2) (.inl rfl)) fun v3 => b4 rfl) fun o4 => et i1 ?_
   rfl
def nr : Str → V × List V := fun r => ((Sr r), [])
theorem dz (k : Nat) (a0 : a8) (a1 : Int) (a2 : b7) : EV k 75 [(b6 a0), (I a1), (j4 a2)] = (ae k a0 a1 a2).map nr := by
 cases k with
 | zero => rfl
 | succ k =>
  unfold ae
  refine et (i5 (c := f75c) (N := 55) (regs := HB) rfl func75 rfl (by decide) rfl rfl rfl) <| kr ⟨[(1, (I a1)), (3, (Pt 3)), (5, (Pt 5))], [(3, vS 4 (b6 a0)), (5, vS 3 (j4 a2))], 55⟩ rfl <| et b5 <| kga Eu rfl (fun (o2 : Bool) => [(16, (Bo o2))]) (rd 2 [(13, (V.ptr 5 0 1)), (14, (Sr a2.fCodes))] rfl rfl <| rp rfl (d7 rfl rfl rfl rfl rfl (S9 k a2.fCodes) (.inl rfl)) fun v1 => b4 rfl) fun o2 => kc rfl rfl (fun hc => ?_) fun hc => ?_
  ·rw [hc]
   refine et b5 <| kr ⟨[(6, (Sr ([65, 74] : Str)))], [], 55⟩ rfl <| et n6 ?_
   rfl
  ·rw [hc]
   refine et d6 <| kg Ev rfl (fun (o4 : Int × Int) => ⟨[(1, (I a1)), (3, (Pt 3)), (5, (Pt 5)), (7, (I o4.1)), (8, (I o4.2))], [(3, vS 4 (b6 a0)), (5, vS 3 (j4 a2))], 55⟩) (rd 3 [(18, (b6 a0)), (19, (Pt 5)), (20, (Sr a2.fSegment))] rfl rfl <| rp rfl (d7 rfl rfl rfl rfl rfl (cp k a0 a2.fSegment) (.inl rfl)) fun v3 => b4 rfl) fun o4 => et b5 <| kr ⟨[(1, (I a1)), (3, (Pt 3)), (5, (Pt 5)), (7, (I o4.1)), (25, (Bo (o4.2 != 0)))], [(3, vS 4 (b6 a0)), (5, vS 3 (j4 a2))], 55⟩ rfl <| kc rfl rfl (fun hc => ?_) fun hc => ?_
   ·rw [hc]
    refine et b5 <| kr ⟨[(6, (Sr ([65, 67] : Str)))], [], 55⟩ rfl <| et n6 ?_
    rfl
   ·rw [hc]
    refine et d6 <| et b5 <| kr ⟨[(1, (I a1)), (3, (Pt 3)), (5, (Pt 5)), (7, (I o4.1)), (27, (Bo (decide (a1 ≥ 0))))], [(3, vS 4 (b6 a0)), (5, vS 3 (j4 a2))], 55⟩ rfl <| kc rfl rfl (fun hc => ?_) fun hc => ?_
    ·rw [hc]
     refine et b5 <| kg Ew rfl (fun (o6 : Bool × Int) => ⟨[(3, (Pt 3)), (5, (Pt 5)), (7, (I o4.1)), (9, (Bo o6.1)), (10, (I o6.2))], [(3, vS 4 (b6 a0)), (5, vS 3 (j4 a2))], 55⟩) (rd 3 [(29, (b6 a0)), (30, (I a1)), (31, (I o4.1))] rfl rfl <| rp rfl (d7 rfl rfl rfl rfl rfl (nd k a0 a1 o4.1) (.inl rfl)) fun v5 => b4 rfl) fun o6 => et b5 <| kg Ex rfl (fun (o7 : Bool) => ⟨[(3, (Pt 3)), (5, (Pt 5)), (7, (I o4.1)), (40, (Bo o7))], [(3, vS 4 (b6 a0)), (5, vS 3 (j4 a2))], 55⟩) ?_ fun o7 => ?_
     ·refine rd 3 [(35, (I o6.2)), (36, (Bo (o6.2 != 0))), (37, (Bo (o6.2 != 0)))] rfl rfl <| n5 (fun hc => ?_) fun hc => ?_
      ·rw [hc]
       exact d5 rfl
      ·rw [hc]
       exact d5 rfl
     refine kc rfl rfl (fun hc => ?_) fun hc => ?_
     ·rw [hc]
      refine et b5 <| kr ⟨[(6, (Sr ([65, 67] : Str)))], [], 55⟩ rfl <| et n6 ?_
      rfl
     ·rw [hc]
      refine et d6 <| et b5 <| kg uC rfl (fun (o9 : Bool × Int) => ⟨[(11, (Bo o9.1)), (12, (I o9.2))], [], 55⟩) (rd 4 [(42, (b6 a0)), (43, (I o4.1)), (44, (V.ptr 5 0 2)), (45, (V.sl 0 1 (List.map a7 a2.fWhen)))] rfl rfl <| rp rfl (d7 rfl rfl rfl rfl rfl (je k a0 o4.1 a2.fWhen) (.inl rfl)) fun v8 => b4 rfl) fun o9 => et b5 <| kg uD rfl (fun (o10 : Bool) => ⟨[(54, (Bo o10))], [], 55⟩) ?_ fun o10 => ?_
      ·refine rd 3 [(49, (I o9.2)), (50, (Bo (o9.2 != 0))), (51, (Bo (o9.2 != 0)))] rfl rfl <| n5 (fun hc => ?_) fun hc => ?_
       ·rw [hc]
        exact d5 rfl
       ·rw [hc]
        exact d5 rfl
      refine kc rfl rfl (fun hc => ?_) fun hc => ?_
      ·rw [hc]
       refine et b5 <| kr ⟨[(6, (Sr ([65, 75] : Str)))], [], 55⟩ rfl <| et n6 ?_
       rfl
      ·rw [hc]
       refine et d6 <| kr ⟨[(6, (Sr ([32, 32] : Str)))], [], 55⟩ rfl <| et i1 ?_
       rfl
    ·rw [hc]
     refine et d6 <| et b5 <| kg uC rfl (fun (o12 : Bool × Int) => ⟨[(11, (Bo o12.1)), (12, (I o12.2))], [], 55⟩) (rd 4 [(42, (b6 a0)), (43, (I o4.1)), (44, (V.ptr 5 0 2)), (45, (V.sl 0 1 (List.map a7 a2.fWhen)))] rfl rfl <| rp rfl (d7 rfl rfl rfl rfl rfl (je k a0 o4.1 a2.fWhen) (.inl rfl)) fun v11 => b4 rfl) fun o12 => et b5 <| kg uD rfl (fun (o13 : Bool) => ⟨[(54, (Bo o13))], [], 55⟩) ?_ fun o13 => ?_
     ·refine rd 3 [(49, (I o12.2)), (50, (Bo (o12.2 != 0))), (51, (Bo (o12.2 != 0)))] rfl rfl <| n5 (fun hc => ?_) fun hc => ?_
      ·rw [hc]
       exact d5 rfl
      ·rw [hc]
       exact d5 rfl
     refine kc rfl rfl (fun hc => ?_) fun hc => ?_
     ·rw [hc]
      refine et b5 <| kr ⟨[(6, (Sr ([65, 75] : Str)))], [], 55⟩ rfl <| et n6 ?_
      rfl
     ·rw [hc]
      refine et d6 <| kr ⟨[(6, (Sr ([32, 32] : Str)))], [], 55⟩ rfl <| et i1 ?_
      rfl
def dy : (Str × Int) → V × List V := fun r => (.tup [(Sr r.1), (I r.2)], [])
theorem W5 (k : Nat) (a0 : a8) (a1 : (List b7))  (K0 : Int → Int → Option (Str × Int)) (Kst : X × St → Option (V × List V)) (hK0 : ∀ (y0 : Int) (y1 : Int), Kst (X.exit 0, ⟨[(1, (u5 a1)), (2, (Pt 2)), (6, (I y0)), (7, (I y1)), (18, (Bo false))], [(2, vS 4 (b6 a0))], 41⟩) = (K0 y0 y1).map dy) (hret : ∀ s, Kst (X.ret, s) = F3 prog 41 [(b6 a0), (u5 a1)] [] [.tmp 4, .tmp 5] (X.ret, s)) :
  ∀ (m : Nat) (x9 : Int) (x10 : Int), (D1 (u0 prog (EV k) FC k Da) m ⟨[(1, (u5 a1)), (2, (Pt 2)), (6, (I x9)), (7, (I x10))], [(2, vS 4 (b6 a0))], 41⟩).bind Kst = (N3 k a0 a1 K0 m x9 x10).map dy := by
 intro m
 induction m with
 | zero => intros; rfl
 | succ m ih =>
  intro x9 x10
  unfold N3
  refine et l9 <| et b5 <| krp CY rfl ⟨[(1, (u5 a1)), (2, (Pt 2)), (6, (I x9)), (7, (I x10)), (18, (Bo (decide (x10 < (a1.length : Int)))))], [(2, vS 4 (b6 a0))], 41⟩ ?_ ?_
  ·exact rd 2 [(15, (I x10)), (16, (u5 a1))] rfl rfl <| rl rfl (n7 (e := j4) rfl rfl rfl rfl rfl rfl underlying31) <| b4 rfl
  refine kc rfl rfl (fun hc => ?_) fun hc => ?_
  ·rw [hc]
   refine et d6 <| et (i8 rfl) <| et b5 <| kd CZ rfl (fun (o13 : Str) => ⟨[(1, (u5 a1)), (2, (Pt 2)), (7, (I x10)), (8, (Sr o13))], [(2, vS 4 (b6 a0))], 41⟩) (et (j2 (p := 8) (dk := true) (t := [(1, (u5 a1)), (2, (Pt 2)), (6, (I x9)), (7, (I x10)), (18, (Bo true))]) (σ := [(2, vS 4 (b6 a0))]) (n := 41) rfl (by decide) (by decide) rfl) <| et (j8 (m := 4) (j := 4) (t' := [(1, (u5 a1)), (2, (Pt 2)), (6, (I x9)), (7, (I x10)), (18, (Bo true)), (21, (b6 a0)), (22, (I x9)), (23, (u5 a1)), (24, (I x10))]) rfl rfl rfl) <| et (c8 (x := (idx a1 x10)) (w := fun v11 => (Pr (j4 v11))) rfl rfl rfl rfl rfl (i2 (e := j4) rfl rfl rfl underlying31 rfl (by decide))) <| j5 fun v11 => et (i7 (m := 1) (j := 6) (t' := [(1, (u5 a1)), (2, (Pt 2)), (6, (I x9)), (7, (I x10)), (18, (Bo true)), (21, (b6 a0)), (22, (I x9)), (23, (u5 a1)), (24, (I x10)), (25, (Pr (j4 v11))), (26, (j4 v11))]) rfl rfl rfl) <| et (c8 (x := (ae k a0 x9 v11)) (w := fun v12 => (Sr v12)) rfl rfl rfl rfl rfl (d7 rfl rfl rfl rfl rfl (dz k a0 x9 v11) (.inl rfl))) <| B6 fun v12 => j9 rfl) fun o13 => et b5 <| kra [(29, (Bo (!(o13 == ([32, 32] : Str)))))] rfl <| kc rfl rfl (fun hc => ?_) fun hc => ?_
   ·rw [hc]
    refine et b5 <| kr ⟨[(4, (Sr o13)), (5, (I 0))], [], 41⟩ rfl <| et n6 <| et l5 <| et l8 <| et (hret _) ?_
    rfl
   ·rw [hc]
    exact et d6 <| kdl yP rfl (fun (o16 : Int) => ⟨[(1, (u5 a1)), (2, (Pt 2)), (6, (I o16)), (7, (I x10))], [(2, vS 4 (b6 a0))], 41⟩) (et (j2 (p := 11) (dk := true) (t := [(1, (u5 a1)), (2, (Pt 2)), (7, (I x10)), (8, (Sr o13)), (29, (Bo false))]) (σ := [(2, vS 4 (b6 a0))]) (n := 41) rfl (by decide) (by decide) rfl) <| et (j8 (m := 3) (j := 3) (t' := [(1, (u5 a1)), (2, (Pt 2)), (7, (I x10)), (8, (Sr o13)), (29, (Bo false)), (32, (b6 a0)), (33, (u5 a1)), (34, (I x10))]) rfl rfl rfl) <| et (c8 (x := (idx a1 x10)) (w := fun v14 => (Pr (j4 v14))) rfl rfl rfl rfl rfl (i2 (e := j4) rfl rfl rfl underlying31 rfl (by decide))) <| j5 fun v14 => et (i7 (m := 2) (j := 6) (t' := [(1, (u5 a1)), (2, (Pt 2)), (7, (I x10)), (8, (Sr o13)), (29, (Bo false)), (32, (b6 a0)), (33, (u5 a1)), (34, (I x10)), (35, (Pr (j4 v14))), (36, (Pr (Sr v14.fSegment))), (37, (Sr v14.fSegment))]) rfl rfl rfl) <| et (c8 (x := (M9 k a0 v14.fSegment)) (w := fun v15 => (V.tup [(I v15.1), (I v15.2)])) rfl rfl rfl rfl rfl (d7 rfl rfl rfl rfl rfl (cp k a0 v14.fSegment) (.inl rfl))) <| j5 fun v15 => j9 rfl) fun o16 => et i6 <| kl ⟨[(1, (u5 a1)), (2, (Pt 2)), (6, (I o16)), (7, (I (Go.IntKind.wrap .i64 (x10 + 1))))], [(2, vS 4 (b6 a0))], 41⟩ rfl <| et i3 <| ih o16 (Go.IntKind.wrap .i64 (x10 + 1))
  ·rw [hc]
   exact et p7 <| et j3 <| hK0 x9 x10
theorem eT (k : Nat) (a0 : a8) (a1 : (List b7)) : EV k 46 [(b6 a0), (u5 a1)] = (cP k a0 a1).map dy := by
 cases k with
 | zero => rfl
 | succ k =>
  unfold cP
  refine et (i5 (c := f46c) (N := 41) (regs := FC) rfl func46 rfl (by decide) rfl rfl rfl) <| kr ⟨[(1, (u5 a1)), (2, (Pt 2))], [(2, vS 4 (b6 a0))], 41⟩ rfl <| et b5 <| kga CW rfl (fun (o2 : Bool) => [(11, (Bo o2))]) (rd 1 [(9, (b6 a0))] rfl rfl <| rp rfl (d7 rfl rfl rfl rfl rfl (bs k a0) (.inl rfl)) fun v1 => b4 rfl) fun o2 => kc rfl rfl (fun hc => ?_) fun hc => ?_
  ·rw [hc]
   refine et b5 <| kr ⟨[(4, (Sr ([] : Str))), (5, (I 100))], [], 41⟩ rfl <| et n6 ?_
   rfl
  ·rw [hc]
   refine et d6 <| et b5 <| krp CX rfl ⟨[(1, (u5 a1)), (2, (Pt 2)), (14, (Bo (decide ((a1.length : Int) > 5))))], [(2, vS 4 (b6 a0))], 41⟩ ?_ ?_
   ·exact rd 1 [(12, (u5 a1))] rfl rfl <| rl rfl (n7 (e := j4) rfl rfl rfl rfl rfl rfl underlying31) <| b4 rfl
   refine kc rfl rfl (fun hc => ?_) fun hc => ?_
   ·rw [hc]
    refine et b5 <| kr ⟨[(4, (Sr ([65, 74] : Str))), (5, (I 0))], [], 41⟩ rfl <| et n6 ?_
    rfl
   ·rw [hc]
    refine et d6 <| kr ⟨[(1, (u5 a1)), (2, (Pt 2)), (6, (I (-1)))], [(2, vS 4 (b6 a0))], 41⟩ rfl <| et b5 <| kra [(7, (I 0))] rfl <| et (i8 rfl) <| et p8 ?_
    refine W5 k a0 a1 _ _ ?h_ref14_Check_L1_0 ?hr_ref14_Check_L1 k (-1) 0
    ·intro y17 y18
     refine et j6 <| kr ⟨[(4, (Sr ([32, 32] : Str))), (5, (I 0))], [], 41⟩ rfl <| et i1 ?_
     rfl
    ·intro s; exact rfl
def V3 : ((List Int) × Int) → V × List V := fun r => (.tup [(sI r.1), (I r.2)], [])
theorem mc (k : Nat) (a0 : a8) (a1 : (List b7))  (K0 : (List Int) → Int → Option ((List Int) × Int)) (Kst : X × St → Option (V × List V)) (hK0 : ∀ (y0 : (List Int)) (y1 : Int), Kst (X.exit 0, ⟨[(1, (u5 a1)), (2, (Pt 2)), (8, (V.sl 1 1 (List.map I y0))), (9, (I y1)), (30, (Bo false))], [(2, vS 4 (b6 a0))], 48⟩) = (K0 y0 y1).map V3) (hret : ∀ s, Kst (X.ret, s) = F3 prog 48 [(b6 a0), (u5 a1)] [] [.tmp 4, .tmp 5] (X.ret, s)) :
  ∀ (m : Nat) (x9 : (List Int)) (x10 : Int), (D1 (u0 prog (EV k) AK k yv) m ⟨[(1, (u5 a1)), (2, (Pt 2)), (8, (V.sl 1 1 (List.map I x9))), (9, (I x10))], [(2, vS 4 (b6 a0))], 48⟩).bind Kst = (bz k a0 a1 K0 m x9 x10).map V3 := by
 intro m
 induction m with
 | zero => intros; rfl
 | succ m ih =>
  intro x9 x10
  unfold bz
  refine et l9 <| et b5 <| krp yu rfl ⟨[(1, (u5 a1)), (2, (Pt 2)), (8, (V.sl 1 1 (List.map I x9))), (9, (I x10)), (30, (Bo (decide (x10 < (a1.length : Int)))))], [(2, vS 4 (b6 a0))], 48⟩ ?_ ?_
  ·exact rd 2 [(27, (I x10)), (28, (u5 a1))] rfl rfl <| rl rfl (n7 (e := j4) rfl rfl rfl rfl rfl rfl underlying31) <| b4 rfl
  refine kc rfl rfl (fun hc => ?_) fun hc => ?_
  ·rw [hc]
   exact et d6 <| et (i8 rfl) <| kd um rfl (fun (o13 : Int) => ⟨[(1, (u5 a1)), (2, (Pt 2)), (8, (V.sl 1 1 (List.map I x9))), (9, (I x10)), (10, (I o13))], [(2, vS 4 (b6 a0))], 48⟩) (et (j2 (p := 12) (dk := true) (t := [(1, (u5 a1)), (2, (Pt 2)), (8, (V.sl 1 1 (List.map I x9))), (9, (I x10)), (30, (Bo true))]) (σ := [(2, vS 4 (b6 a0))]) (n := 48) rfl (by decide) (by decide) rfl) <| et (j8 (m := 3) (j := 3) (t' := [(1, (u5 a1)), (2, (Pt 2)), (8, (V.sl 1 1 (List.map I x9))), (9, (I x10)), (30, (Bo true)), (34, (b6 a0)), (35, (u5 a1)), (36, (I x10))]) rfl rfl rfl) <| et (c8 (x := (idx a1 x10)) (w := fun v11 => (Pr (j4 v11))) rfl rfl rfl rfl rfl (i2 (e := j4) rfl rfl rfl underlying31 rfl (by decide))) <| j5 fun v11 => et (i7 (m := 2) (j := 6) (t' := [(1, (u5 a1)), (2, (Pt 2)), (8, (V.sl 1 1 (List.map I x9))), (9, (I x10)), (30, (Bo true)), (34, (b6 a0)), (35, (u5 a1)), (36, (I x10)), (37, (Pr (j4 v11))), (38, (Pr (Sr v11.fSegment))), (39, (Sr v11.fSegment))]) rfl rfl rfl) <| et (c8 (x := (M9 k a0 v11.fSegment)) (w := fun v12 => (V.tup [(I v12.1), (I v12.2)])) rfl rfl rfl rfl rfl (d7 rfl rfl rfl rfl rfl (cp k a0 v11.fSegment) (.inl rfl))) <| j5 fun v12 => j9 rfl) fun o13 => kgl uo rfl (fun (o15 : (List Int)) => ⟨[(1, (u5 a1)), (2, (Pt 2)), (8, (V.sl 1 1 (List.map I o15))), (9, (I x10))], [(2, vS 4 (b6 a0))], 48⟩) (ra 3 3 ⟨[(1, (u5 a1)), (2, (Pt 2)), (8, (sI x9)), (9, (I x10)), (10, (I o13)), (43, (V.sl 1 1 (List.map I x9))), (44, (I o13)), (45, (sI (([o13] : List Int))))], [(2, vS 4 (b6 a0))], 48⟩ rfl rfl rfl <| et (Q1 (x := (app x9 ([o13] : List Int))) (w := fun v14 => ((V.sl 1 1 (List.map I v14)), _)) rfl rfl rfl rfl (nL (e := I) rfl rfl rfl rfl rfl rfl rfl rfl rfl rfl (by decide))) <| B6 fun v14 => b4 rfl) fun o15 => et i6 <| kl ⟨[(1, (u5 a1)), (2, (Pt 2)), (8, (V.sl 1 1 (List.map I o15))), (9, (I (Go.IntKind.wrap .i64 (x10 + 1))))], [(2, vS 4 (b6 a0))], 48⟩ rfl <| et i3 <| ih o15 (Go.IntKind.wrap .i64 (x10 + 1))
  ·rw [hc]
   exact et p7 <| et j3 <| hK0 x9 x10
theorem W6 (k : Nat) (a0 : a8) (a1 : (List b7))  (K0 : (List Int) → Int → Option ((List Int) × Int)) (Kst : X × St → Option (V × List V)) (hK0 : ∀ (y0 : (List Int)) (y1 : Int), Kst (X.exit 0, ⟨[(1, (u5 a1)), (2, (Pt 2)), (8, (V.sl 1 1 (List.map I y0))), (9, (I y1)), (30, (Bo false))], [(2, vS 4 (b6 a0))], 48⟩) = (K0 y0 y1).map V3) (hret : ∀ s, Kst (X.ret, s) = F3 prog 48 [(b6 a0), (u5 a1)] [] [.tmp 4, .tmp 5] (X.ret, s)) :
  ∀ (m : Nat) (x23 : (List Int)) (x24 : Int), (D1 (u0 prog (EV k) AK k yv) m ⟨[(1, (u5 a1)), (2, (Pt 2)), (8, (V.sl 1 1 (List.map I x23))), (9, (I x24))], [(2, vS 4 (b6 a0))], 48⟩).bind Kst = (N4 k a0 a1 K0 m x23 x24).map V3 := by
 intro m
 induction m with
 | zero => intros; rfl
 | succ m ih =>
  intro x23 x24
  unfold N4
  refine et l9 <| et b5 <| krp yu rfl ⟨[(1, (u5 a1)), (2, (Pt 2)), (8, (V.sl 1 1 (List.map I x23))), (9, (I x24)), (30, (Bo (decide (x24 < (a1.length : Int)))))], [(2, vS 4 (b6 a0))], 48⟩ ?_ ?_
  ·exact rd 2 [(27, (I x24)), (28, (u5 a1))] rfl rfl <| rl rfl (n7 (e := j4) rfl rfl rfl rfl rfl rfl underlying31) <| b4 rfl
  refine kc rfl rfl (fun hc => ?_) fun hc => ?_
  ·rw [hc]
   exact et d6 <| et (i8 rfl) <| kd um rfl (fun (o27 : Int) => ⟨[(1, (u5 a1)), (2, (Pt 2)), (8, (V.sl 1 1 (List.map I x23))), (9, (I x24)), (10, (I o27))], [(2, vS 4 (b6 a0))], 48⟩) (et (j2 (p := 12) (dk := true) (t := [(1, (u5 a1)), (2, (Pt 2)), (8, (V.sl 1 1 (List.map I x23))), (9, (I x24)), (30, (Bo true))]) (σ := [(2, vS 4 (b6 a0))]) (n := 48) rfl (by decide) (by decide) rfl) <| et (j8 (m := 3) (j := 3) (t' := [(1, (u5 a1)), (2, (Pt 2)), (8, (V.sl 1 1 (List.map I x23))), (9, (I x24)), (30, (Bo true)), (34, (b6 a0)), (35, (u5 a1)), (36, (I x24))]) rfl rfl rfl) <| et (c8 (x := (idx a1 x24)) (w := fun v25 => (Pr (j4 v25))) rfl rfl rfl rfl rfl (i2 (e := j4) rfl rfl rfl underlying31 rfl (by decide))) <| j5 fun v25 => et (i7 (m := 2) (j := 6) (t' := [(1, (u5 a1)), (2, (Pt 2)), (8, (V.sl 1 1 (List.map I x23))), (9, (I x24)), (30, (Bo true)), (34, (b6 a0)), (35, (u5 a1)), (36, (I x24)), (37, (Pr (j4 v25))), (38, (Pr (Sr v25.fSegment))), (39, (Sr v25.fSegment))]) rfl rfl rfl) <| et (c8 (x := (M9 k a0 v25.fSegment)) (w := fun v26 => (V.tup [(I v26.1), (I v26.2)])) rfl rfl rfl rfl rfl (d7 rfl rfl rfl rfl rfl (cp k a0 v25.fSegment) (.inl rfl))) <| j5 fun v26 => j9 rfl) fun o27 => kgl uo rfl (fun (o29 : (List Int)) => ⟨[(1, (u5 a1)), (2, (Pt 2)), (8, (V.sl 1 1 (List.map I o29))), (9, (I x24))], [(2, vS 4 (b6 a0))], 48⟩) (ra 3 3 ⟨[(1, (u5 a1)), (2, (Pt 2)), (8, (sI x23)), (9, (I x24)), (10, (I o27)), (43, (V.sl 1 1 (List.map I x23))), (44, (I o27)), (45, (sI (([o27] : List Int))))], [(2, vS 4 (b6 a0))], 48⟩ rfl rfl rfl <| et (Q1 (x := (app x23 ([o27] : List Int))) (w := fun v28 => ((V.sl 1 1 (List.map I v28)), _)) rfl rfl rfl rfl (nL (e := I) rfl rfl rfl rfl rfl rfl rfl rfl rfl rfl (by decide))) <| B6 fun v28 => b4 rfl) fun o29 => et i6 <| kl ⟨[(1, (u5 a1)), (2, (Pt 2)), (8, (V.sl 1 1 (List.map I o29))), (9, (I (Go.IntKind.wrap .i64 (x24 + 1))))], [(2, vS 4 (b6 a0))], 48⟩ rfl <| et i3 <| ih o29 (Go.IntKind.wrap .i64 (x24 + 1))
  ·rw [hc]
   exact et p7 <| et j3 <| hK0 x23 x24
theorem eV (k : Nat) (a0 : a8) (a1 : (List b7)) : EV k 25 [(b6 a0), (u5 a1)] = (cS k a0 a1).map V3 := by
 cases k with
 | zero => rfl
 | succ k =>
  unfold cS
  refine et (i5 (c := f25c) (N := 48) (regs := AK) rfl func25 rfl (by decide) rfl rfl rfl) <| kr ⟨[(1, (u5 a1)), (2, (Pt 2))], [(2, vS 4 (b6 a0))], 48⟩ rfl <| kga Ce rfl (fun (o2 : Str × Int) => [(6, (Sr o2.1)), (7, (I o2.2))]) (rd 2 [(13, (b6 a0)), (14, (u5 a1))] rfl rfl <| rp rfl (d7 rfl rfl rfl rfl rfl (eT k a0 a1) (.inl rfl)) fun v1 => b4 rfl) fun o2 => et b5 <| kg Cf rfl (fun (o3 : Bool) => ⟨[(1, (u5 a1)), (2, (Pt 2)), (7, (I o2.2)), (23, (Bo o3))], [(2, vS 4 (b6 a0))], 48⟩) ?_ fun o3 => ?_
  ·refine rd 3 [(18, (I o2.2)), (19, (Bo (o2.2 == 0))), (20, (Bo (o2.2 == 0)))] rfl rfl <| n5 (fun hc => ?_) fun hc => ?_
   ·rw [hc]
    exact d5 rfl
   ·rw [hc]
    exact d5 rfl
  refine kc rfl rfl (fun hc => ?_) fun hc => ?_
  ·rw [hc]
   refine kr ⟨[(1, (u5 a1)), (2, (Pt 2)), (7, (I 2))], [(2, vS 4 (b6 a0))], 48⟩ rfl <| et b5 <| kra [(25, (Bo ((2 : Int) != 0)))] rfl <| kc rfl rfl (fun hc => ?_) fun hc => ?_
   ·rw [hc]
    refine et b5 <| kr ⟨[(4, (sI (([] : List Int)))), (5, (I 2))], [], 48⟩ rfl <| et n6 ?_
    rfl
   ·rw [hc]
    refine et d6 <| kr ⟨[(1, (u5 a1)), (2, (Pt 2)), (8, (V.sl 1 1 (List.map I ([] : List Int))))], [(2, vS 4 (b6 a0))], 48⟩ rfl <| et b5 <| kra [(9, (I 0))] rfl <| et (i8 rfl) <| et p8 ?_
    refine mc k a0 a1 _ _ ?h_ref14_Types_L1_0 ?hr_ref14_Types_L1 k ([] : List Int) 0
    ·intro y16 y17
     refine et j6 <| kr ⟨[(4, (sI y16)), (5, (I 0))], [], 48⟩ rfl <| et i1 ?_
     rfl
    ·intro s; exact rfl
  ·rw [hc]
   refine et d6 <| et b5 <| kr ⟨[(1, (u5 a1)), (2, (Pt 2)), (7, (I o2.2)), (25, (Bo (o2.2 != 0)))], [(2, vS 4 (b6 a0))], 48⟩ rfl <| kc rfl rfl (fun hc => ?_) fun hc => ?_
   ·rw [hc]
    refine et b5 <| kr ⟨[(4, (sI (([] : List Int)))), (5, (I o2.2))], [], 48⟩ rfl <| et n6 ?_
    rfl
   ·rw [hc]
    refine et d6 <| kr ⟨[(1, (u5 a1)), (2, (Pt 2)), (8, (V.sl 1 1 (List.map I ([] : List Int))))], [(2, vS 4 (b6 a0))], 48⟩ rfl <| et b5 <| kra [(9, (I 0))] rfl <| et (i8 rfl) <| et p8 ?_
    refine W6 k a0 a1 _ _ ?h_ref14_Types_L2_0 ?hr_ref14_Types_L2 k ([] : List Int) 0
    ·intro y30 y31
     refine et j6 <| kr ⟨[(4, (sI y30)), (5, (I 0))], [], 48⟩ rfl <| et i1 ?_
     rfl
    ·intro s; exact rfl
def bZ : Str → V × List V := fun r => ((Sr r), [])
theorem kE (k : Nat) (a0 : Str)  (K0 : Str → Option Str) (Kst : X × St → Option (V × List V)) (hK0 : ∀ (y0 : Str), Kst (X.exit 0, ⟨[(0, (Sr y0)), (5, (Bo false))], [], 9⟩) = (K0 y0).map bZ) (hret : ∀ s, Kst (X.ret, s) = F3 prog 9 [(Sr a0)] [] [.tmp 2] (X.ret, s)) :
  ∀ (m : Nat) (x3 : Str), (D1 (u0 prog (EV k) Fz k Ch) m ⟨[(0, (Sr x3))], [], 9⟩).bind Kst = (J2 K0 m x3).map bZ := by
 intro m
 induction m with
 | zero => intros; rfl
 | succ m ih =>
  intro x3
  unfold J2
  refine et l9 <| et b5 <| kra [(5, (Bo (decide ((x3.length : Int) < 8))))] rfl <| kc rfl rfl (fun hc => ?_) fun hc => ?_
  ·rw [hc]
   exact et d6 <| et (G7 rfl) <| kgl Cg rfl (fun (o5 : Str) => ⟨[(0, (Sr o5))], [], 9⟩) (rd 1 [(6, (Sr x3))] rfl rfl <| rs rfl (E7 rfl rfl rfl) fun v4 => b4 rfl) fun o5 => et i6 <| et m9 <| et i3 <| ih o5
  ·rw [hc]
   exact et p7 <| et j3 <| hK0 x3
theorem u9 (k : Nat) (a0 : Str) : EV k 26 [(Sr a0)] = (A7 k a0).map bZ := by
 cases k with
 | zero => rfl
 | succ k =>
  unfold A7
  refine et (i5 (c := f26c) (N := 9) (regs := Fz) rfl func26 rfl (by decide) rfl rfl rfl) <| kra [] rfl <| et (i8 rfl) <| et p8 ?_
  refine kE k a0 _ _ ?h_ref12_Padded_L1_0 ?hr_ref12_Padded_L1 k a0
  ·intro y6
   refine et j6 <| kr ⟨[(2, (Sr y6))], [], 9⟩ rfl <| et i1 ?_
   rfl
  ·intro s; exact rfl
def oj : Int → V × List V := fun r => ((I r), [])
theorem eS (k : Nat) (a0 : a8) (a1 : Int) (a2 : (List (List a6))) (a3 : (List (List a6))) : EV k 48 [(b6 a0), (I a1), (V.sl 0 1 (List.map a7 a2)), (V.sl 0 1 (List.map a7 a3))] = (cM k a0 a1 a2 a3).map oj := by
 cases k with
 | zero => rfl
 | succ k =>
  unfold cM
  refine et (i5 (c := f48c) (N := 30) (regs := Hj) rfl func48 rfl (by decide) rfl rfl rfl) <| kr ⟨[(1, (I a1)), (2, (V.sl 0 1 (List.map a7 a2))), (3, (V.sl 0 1 (List.map a7 a3))), (4, (Pt 4))], [(4, vS 4 (b6 a0))], 30⟩ rfl <| kga Df rfl (fun (o2 : Int) => [(9, (I o2))]) (rd 2 [(10, (b6 a0)), (11, (I a1))] rfl rfl <| rs rfl (d7 rfl rfl rfl rfl rfl (V1 k a0 a1) (.inl rfl)) fun v1 => b4 rfl) fun o2 => et b5 <| kg Dg rfl (fun (o5 : Bool) => ⟨[(9, (I o2)), (28, (Bo o5))], [], 30⟩) ?_ fun o5 => ?_
  ·refine rd 3 [(13, (I o2)), (14, (Bo (o2 == 0))), (15, (Bo (o2 == 0)))] rfl rfl <| n5 (fun hc => ?_) fun hc => ?_
   ·rw [hc]
    refine rd 6 [(16, (b6 a0)), (17, (I a1)), (18, (V.sl 0 1 (List.map a7 a2)))] rfl rfl <| rp rfl (d7 rfl rfl rfl rfl rfl (w7 k a0 a1 a2) (.inl rfl)) fun v3 => bd 9 [(19, (Bo v3)), (20, (Bo (!v3))), (21, (Bo (!v3)))] rfl rfl <| n5 (fun hc => ?_) fun hc => ?_
    ·rw [hc]
     exact d5 rfl
    ·rw [hc]
     exact rd 12 [(22, (b6 a0)), (23, (I a1)), (24, (V.sl 0 1 (List.map a7 a3)))] rfl rfl <| rp rfl (d7 rfl rfl rfl rfl rfl (w7 k a0 a1 a3) (.inl rfl)) fun v4 => b4 rfl
   ·rw [hc]
    exact d5 rfl
  refine kc rfl rfl (fun hc => ?_) fun hc => ?_
  ·rw [hc]
   refine kr ⟨[(9, (I 110))], [], 30⟩ rfl <| kr ⟨[(8, (I 110))], [], 30⟩ rfl <| et i1 ?_
   rfl
  ·rw [hc]
   refine et d6 <| kr ⟨[(8, (I o2))], [], 30⟩ rfl <| et i1 ?_
   rfl
def pF : Str → V × List V := fun r => ((Sr r), [])
theorem H9 (k : Nat) (a0 : Int) : EV k 79 [(I a0)] = (H3 k a0).map pF := by
 cases k with
 | zero => rfl
 | succ k =>
  unfold H3
  refine et (i5 (c := f79c) (N := 14) (regs := HD) rfl func79 rfl (by decide) rfl rfl rfl) <| kra [] rfl <| et b5 <| kr ⟨[(3, (I a0))], [], 14⟩ rfl <| et (i8 rfl) <| kra [(4, (Bo (a0 == 1)))] rfl <| kcl rfl rfl (fun hc => ?_) fun hc => ?_
  ·rw [hc]
   refine kr ⟨[(2, (Sr ([61, 32] : Str)))], [], 14⟩ rfl <| et i1 <| et l5 ?_
   rfl
  ·rw [hc]
   refine kr ⟨[(3, (I a0)), (6, (Bo (a0 == 2)))], [], 14⟩ rfl <| kcl rfl rfl (fun hc => ?_) fun hc => ?_
   ·rw [hc]
    refine kr ⟨[(2, (Sr ([60, 62] : Str)))], [], 14⟩ rfl <| et i1 <| et l5 ?_
    rfl
   ·rw [hc]
    refine kr ⟨[(3, (I a0)), (8, (Bo (a0 == 3)))], [], 14⟩ rfl <| kcl rfl rfl (fun hc => ?_) fun hc => ?_
    ·rw [hc]
     refine kr ⟨[(2, (Sr ([60, 32] : Str)))], [], 14⟩ rfl <| et i1 <| et l5 ?_
     rfl
    ·rw [hc]
     refine kr ⟨[(3, (I a0)), (10, (Bo (a0 == 4)))], [], 14⟩ rfl <| kcl rfl rfl (fun hc => ?_) fun hc => ?_
     ·rw [hc]
      refine kr ⟨[(2, (Sr ([60, 61] : Str)))], [], 14⟩ rfl <| et i1 <| et l5 ?_
      rfl
     ·rw [hc]
      refine kr ⟨[(12, (Bo (a0 == 5)))], [], 14⟩ rfl <| kcl rfl rfl (fun hc => ?_) fun hc => ?_
      ·rw [hc]
       refine kr ⟨[(2, (Sr ([62, 32] : Str)))], [], 14⟩ rfl <| et i1 <| et l5 ?_
       rfl
      ·rw [hc]
       refine et m9 <| et i6 <| kr ⟨[(2, (Sr ([62, 61] : Str)))], [], 14⟩ rfl <| et i1 ?_
       rfl
def H2 : Str → V × List V := fun r => ((Sr r), [])
theorem kG (k : Nat) (a0 : (List (List a6))) (x124 : Int)  (K0 : Str → Int → Option Str) (Kst : X × St → Option (V × List V)) (hK0 : ∀ (y0 : Str) (y1 : Int), Kst (X.exit 2, ⟨[(0, (V.sl 0 1 (List.map a7 a0))), (3, (Sr y0)), (4, (I x124)), (5, (I y1)), (22, (Bo false))], [], 60⟩) = (K0 y0 y1).map H2) (hret : ∀ s, Kst (X.ret, s) = F3 prog 60 [(V.sl 0 1 (List.map a7 a0))] [] [.tmp 2] (X.ret, s)) :
  ∀ (m : Nat) (x155 : Str) (x156 : Int), (D1 (u0 prog (EV k) yS k yR) m ⟨[(0, (V.sl 0 1 (List.map a7 a0))), (3, (Sr x155)), (4, (I x124)), (5, (I x156))], [], 60⟩).bind Kst = (w4 k a0 x124 K0 m x155 x156).map H2 := by
 intro m
 induction m with
 | zero => intros; rfl
 | succ m ih =>
  intro x155 x156
  unfold w4
  refine et l9 <| et b5 <| kga yQ rfl (fun (o158 : Bool) => [(22, (Bo o158))]) (rd 3 [(16, (I x156)), (17, (V.sl 0 1 (List.map a7 a0))), (18, (I x124))] rfl rfl <| rp rfl (i2 (e := a7) rfl rfl rfl underlying26 rfl (by decide)) fun v157 => bd 5 [(19, (Pr (a7 v157))), (20, (a7 v157))] rfl rfl <| rl rfl (n7 (e := d4) rfl rfl rfl rfl rfl rfl underlying56) <| b4 rfl) fun o158 => kc rfl rfl (fun hc => ?_) fun hc => ?_
  ·rw [hc]
   refine et d6 <| et (i8 rfl) <| et b5 <| kr ⟨[(0, (V.sl 0 1 (List.map a7 a0))), (3, (Sr x155)), (4, (I x124)), (5, (I x156)), (26, (Bo (decide (x156 > 0))))], [], 60⟩ rfl <| kc rfl rfl (fun hc => ?_) fun hc => ?_
   ·rw [hc]
    refine kg uz rfl (fun (o160 : Str) => ⟨[(0, (V.sl 0 1 (List.map a7 a0))), (3, (Sr o160)), (4, (I x124)), (5, (I x156))], [], 60⟩) (rd 1 [(27, (Sr x155))] rfl rfl <| rs rfl (E7 rfl rfl rfl) fun v159 => b4 rfl) fun o160 => kdl oX rfl (fun (o172 : Str) => ⟨[(0, (V.sl 0 1 (List.map a7 a0))), (3, (Sr o172)), (4, (I x124)), (5, (I x156))], [], 60⟩) ?_ fun o172 => ?_
    ·refine et (j2 (p := 30) (dk := true) (t := [(0, (V.sl 0 1 (List.map a7 a0))), (3, (Sr o160)), (4, (I x124)), (5, (I x156))]) (σ := []) (n := 60) rfl (by decide) (by decide) rfl) <| et (j8 (m := 3) (j := 3) (t' := [(0, (V.sl 0 1 (List.map a7 a0))), (3, (Sr o160)), (4, (I x124)), (5, (I x156)), (29, (Sr o160)), (30, (V.sl 0 1 (List.map a7 a0))), (31, (I x124))]) rfl rfl rfl) <| et (c8 (x := (idx a0 x124)) (w := fun v161 => (Pr (a7 v161))) rfl rfl rfl rfl rfl (i2 (e := a7) rfl rfl rfl underlying26 rfl (by decide))) <| j5 fun v161 => et (i7 (m := 2) (j := 6) (t' := [(0, (V.sl 0 1 (List.map a7 a0))), (3, (Sr o160)), (4, (I x124)), (5, (I x156)), (29, (Sr o160)), (30, (V.sl 0 1 (List.map a7 a0))), (31, (I x124)), (32, (Pr (a7 v161))), (33, (a7 v161)), (34, (I x156))]) rfl rfl rfl) <| et (c8 (x := (idx v161 x156)) (w := fun v162 => (Pr (d4 v162))) rfl rfl rfl rfl rfl (i2 (e := d4) rfl rfl rfl underlying56 rfl (by decide))) <| j5 fun v162 => et (i7 (m := 2) (j := 9) (t' := [(0, (V.sl 0 1 (List.map a7 a0))), (3, (Sr o160)), (4, (I x124)), (5, (I x156)), (29, (Sr o160)), (30, (V.sl 0 1 (List.map a7 a0))), (31, (I x124)), (32, (Pr (a7 v161))), (33, (a7 v161)), (34, (I x156)), (35, (Pr (d4 v162))), (36, (Pr (Sr v162.fField))), (37, (Sr v162.fField))]) rfl rfl rfl) <| et (c8 (x := (A7 k v162.fField)) (w := fun v163 => (Sr v163)) rfl rfl rfl rfl rfl (d7 rfl rfl rfl rfl rfl (u9 k v162.fField) (.inl rfl))) <| j5 fun v163 => et (i7 (m := 2) (j := 12) (t' := [(0, (V.sl 0 1 (List.map a7 a0))), (3, (Sr o160)), (4, (I x124)), (5, (I x156)), (29, (Sr o160)), (30, (V.sl 0 1 (List.map a7 a0))), (31, (I x124)), (32, (Pr (a7 v161))), (33, (a7 v161)), (34, (I x156)), (35, (Pr (d4 v162))), (36, (Pr (Sr v162.fField))), (37, (Sr v162.fField)), (38, (Sr v163)), (39, (V.sl 0 1 (List.map a7 a0))), (40, (I x124))]) rfl rfl rfl) <| et (c8 (x := (idx a0 x124)) (w := fun v164 => (Pr (a7 v164))) rfl rfl rfl rfl rfl (i2 (e := a7) rfl rfl rfl underlying26 rfl (by decide))) <| j5 fun v164 => et (i7 (m := 2) (j := 15) (t' := [(0, (V.sl 0 1 (List.map a7 a0))), (3, (Sr o160)), (4, (I x124)), (5, (I x156)), (29, (Sr o160)), (30, (V.sl 0 1 (List.map a7 a0))), (31, (I x124)), (32, (Pr (a7 v161))), (33, (a7 v161)), (34, (I x156)), (35, (Pr (d4 v162))), (36, (Pr (Sr v162.fField))), (37, (Sr v162.fField)), (38, (Sr v163)), (39, (V.sl 0 1 (List.map a7 a0))), (40, (I x124)), (41, (Pr (a7 v164))), (42, (a7 v164)), (43, (I x156))]) rfl rfl rfl) <| et (c8 (x := (idx v164 x156)) (w := fun v165 => (Pr (d4 v165))) rfl rfl rfl rfl rfl (i2 (e := d4) rfl rfl rfl underlying56 rfl (by decide))) <| j5 fun v165 => et (i7 (m := 2) (j := 18) (t' := [(0, (V.sl 0 1 (List.map a7 a0))), (3, (Sr o160)), (4, (I x124)), (5, (I x156)), (29, (Sr o160)), (30, (V.sl 0 1 (List.map a7 a0))), (31, (I x124)), (32, (Pr (a7 v161))), (33, (a7 v161)), (34, (I x156)), (35, (Pr (d4 v162))), (36, (Pr (Sr v162.fField))), (37, (Sr v162.fField)), (38, (Sr v163)), (39, (V.sl 0 1 (List.map a7 a0))), (40, (I x124)), (41, (Pr (a7 v164))), (42, (a7 v164)), (43, (I x156)), (44, (Pr (d4 v165))), (45, (Pr (I v165.fOp))), (46, (I v165.fOp))]) rfl rfl rfl) <| et (c8 (x := (H3 k v165.fOp)) (w := fun v166 => (Sr v166)) rfl rfl rfl rfl rfl (d7 rfl rfl rfl rfl rfl (H9 k v165.fOp) (.inl rfl))) <| j5 fun v166 => et (i7 (m := 0) (j := 19) (t' := [(0, (V.sl 0 1 (List.map a7 a0))), (3, (Sr o160)), (4, (I x124)), (5, (I x156)), (29, (Sr o160)), (30, (V.sl 0 1 (List.map a7 a0))), (31, (I x124)), (32, (Pr (a7 v161))), (33, (a7 v161)), (34, (I x156)), (35, (Pr (d4 v162))), (36, (Pr (Sr v162.fField))), (37, (Sr v162.fField)), (38, (Sr v163)), (39, (V.sl 0 1 (List.map a7 a0))), (40, (I x124)), (41, (Pr (a7 v164))), (42, (a7 v164)), (43, (I x156)), (44, (Pr (d4 v165))), (45, (Pr (I v165.fOp))), (46, (I v165.fOp)), (47, (Sr v166))]) rfl rfl rfl) <| et (c8 (x := (cat v163 v166)) (w := fun v167 => (Sr v167)) rfl rfl rfl rfl rfl (E7 rfl rfl rfl)) <| j5 fun v167 => et (i7 (m := 2) (j := 22) (t' := [(0, (V.sl 0 1 (List.map a7 a0))), (3, (Sr o160)), (4, (I x124)), (5, (I x156)), (29, (Sr o160)), (30, (V.sl 0 1 (List.map a7 a0))), (31, (I x124)), (32, (Pr (a7 v161))), (33, (a7 v161)), (34, (I x156)), (35, (Pr (d4 v162))), (36, (Pr (Sr v162.fField))), (37, (Sr v162.fField)), (38, (Sr v163)), (39, (V.sl 0 1 (List.map a7 a0))), (40, (I x124)), (41, (Pr (a7 v164))), (42, (a7 v164)), (43, (I x156)), (44, (Pr (d4 v165))), (45, (Pr (I v165.fOp))), (46, (I v165.fOp)), (47, (Sr v166)), (48, (Sr v167)), (49, (V.sl 0 1 (List.map a7 a0))), (50, (I x124))]) rfl rfl rfl) <| et (c8 (x := (idx a0 x124)) (w := fun v168 => (Pr (a7 v168))) rfl rfl rfl rfl rfl (i2 (e := a7) rfl rfl rfl underlying26 rfl (by decide))) <| j5 fun v168 => et (i7 (m := 2) (j := 25) (t' := [(0, (V.sl 0 1 (List.map a7 a0))), (3, (Sr o160)), (4, (I x124)), (5, (I x156)), (29, (Sr o160)), (30, (V.sl 0 1 (List.map a7 a0))), (31, (I x124)), (32, (Pr (a7 v161))), (33, (a7 v161)), (34, (I x156)), (35, (Pr (d4 v162))), (36, (Pr (Sr v162.fField))), (37, (Sr v162.fField)), (38, (Sr v163)), (39, (V.sl 0 1 (List.map a7 a0))), (40, (I x124)), (41, (Pr (a7 v164))), (42, (a7 v164)), (43, (I x156)), (44, (Pr (d4 v165))), (45, (Pr (I v165.fOp))), (46, (I v165.fOp)), (47, (Sr v166)), (48, (Sr v167)), (49, (V.sl 0 1 (List.map a7 a0))), (50, (I x124)), (51, (Pr (a7 v168))), (52, (a7 v168)), (53, (I x156))]) rfl rfl rfl) <| et (c8 (x := (idx v168 x156)) (w := fun v169 => (Pr (d4 v169))) rfl rfl rfl rfl rfl (i2 (e := d4) rfl rfl rfl underlying56 rfl (by decide))) <| j5 fun v169 => et (i7 (m := 2) (j := 28) (t' := [(0, (V.sl 0 1 (List.map a7 a0))), (3, (Sr o160)), (4, (I x124)), (5, (I x156)), (29, (Sr o160)), (30, (V.sl 0 1 (List.map a7 a0))), (31, (I x124)), (32, (Pr (a7 v161))), (33, (a7 v161)), (34, (I x156)), (35, (Pr (d4 v162))), (36, (Pr (Sr v162.fField))), (37, (Sr v162.fField)), (38, (Sr v163)), (39, (V.sl 0 1 (List.map a7 a0))), (40, (I x124)), (41, (Pr (a7 v164))), (42, (a7 v164)), (43, (I x156)), (44, (Pr (d4 v165))), (45, (Pr (I v165.fOp))), (46, (I v165.fOp)), (47, (Sr v166)), (48, (Sr v167)), (49, (V.sl 0 1 (List.map a7 a0))), (50, (I x124)), (51, (Pr (a7 v168))), (52, (a7 v168)), (53, (I x156)), (54, (Pr (d4 v169))), (55, (Pr (Sr v169.fValue))), (56, (Sr v169.fValue))]) rfl rfl rfl) <| et (c8 (x := (cat v167 v169.fValue)) (w := fun v170 => (Sr v170)) rfl rfl rfl rfl rfl (E7 rfl rfl rfl)) <| j5 fun v170 => et (i7 (m := 0) (j := 29) (t' := [(0, (V.sl 0 1 (List.map a7 a0))), (3, (Sr o160)), (4, (I x124)), (5, (I x156)), (29, (Sr o160)), (30, (V.sl 0 1 (List.map a7 a0))), (31, (I x124)), (32, (Pr (a7 v161))), (33, (a7 v161)), (34, (I x156)), (35, (Pr (d4 v162))), (36, (Pr (Sr v162.fField))), (37, (Sr v162.fField)), (38, (Sr v163)), (39, (V.sl 0 1 (List.map a7 a0))), (40, (I x124)), (41, (Pr (a7 v164))), (42, (a7 v164)), (43, (I x156)), (44, (Pr (d4 v165))), (45, (Pr (I v165.fOp))), (46, (I v165.fOp)), (47, (Sr v166)), (48, (Sr v167)), (49, (V.sl 0 1 (List.map a7 a0))), (50, (I x124)), (51, (Pr (a7 v168))), (52, (a7 v168)), (53, (I x156)), (54, (Pr (d4 v169))), (55, (Pr (Sr v169.fValue))), (56, (Sr v169.fValue)), (57, (Sr v170))]) rfl rfl rfl) ?_
     exact et (c8 (x := (cat o160 v170)) (w := fun v171 => (Sr v171)) rfl rfl rfl rfl rfl (E7 rfl rfl rfl)) <| B6 fun v171 => j9 rfl
    exact et i6 <| kl ⟨[(0, (V.sl 0 1 (List.map a7 a0))), (3, (Sr o172)), (4, (I x124)), (5, (I (Go.IntKind.wrap .i64 (x156 + 1))))], [], 60⟩ rfl <| et i3 <| ih o172 (Go.IntKind.wrap .i64 (x156 + 1))
   ·rw [hc]
    refine et d6 <| kdl oX rfl (fun (o184 : Str) => ⟨[(0, (V.sl 0 1 (List.map a7 a0))), (3, (Sr o184)), (4, (I x124)), (5, (I x156))], [], 60⟩) ?_ fun o184 => ?_
    ·refine et (j2 (p := 30) (dk := true) (t := [(0, (V.sl 0 1 (List.map a7 a0))), (3, (Sr x155)), (4, (I x124)), (5, (I x156)), (26, (Bo false))]) (σ := []) (n := 60) rfl (by decide) (by decide) rfl) <| et (j8 (m := 3) (j := 3) (t' := [(0, (V.sl 0 1 (List.map a7 a0))), (3, (Sr x155)), (4, (I x124)), (5, (I x156)), (26, (Bo false)), (29, (Sr x155)), (30, (V.sl 0 1 (List.map a7 a0))), (31, (I x124))]) rfl rfl rfl) <| et (c8 (x := (idx a0 x124)) (w := fun v173 => (Pr (a7 v173))) rfl rfl rfl rfl rfl (i2 (e := a7) rfl rfl rfl underlying26 rfl (by decide))) <| j5 fun v173 => et (i7 (m := 2) (j := 6) (t' := [(0, (V.sl 0 1 (List.map a7 a0))), (3, (Sr x155)), (4, (I x124)), (5, (I x156)), (26, (Bo false)), (29, (Sr x155)), (30, (V.sl 0 1 (List.map a7 a0))), (31, (I x124)), (32, (Pr (a7 v173))), (33, (a7 v173)), (34, (I x156))]) rfl rfl rfl) <| et (c8 (x := (idx v173 x156)) (w := fun v174 => (Pr (d4 v174))) rfl rfl rfl rfl rfl (i2 (e := d4) rfl rfl rfl underlying56 rfl (by decide))) <| j5 fun v174 => et (i7 (m := 2) (j := 9) (t' := [(0, (V.sl 0 1 (List.map a7 a0))), (3, (Sr x155)), (4, (I x124)), (5, (I x156)), (26, (Bo false)), (29, (Sr x155)), (30, (V.sl 0 1 (List.map a7 a0))), (31, (I x124)), (32, (Pr (a7 v173))), (33, (a7 v173)), (34, (I x156)), (35, (Pr (d4 v174))), (36, (Pr (Sr v174.fField))), (37, (Sr v174.fField))]) rfl rfl rfl) <| et (c8 (x := (A7 k v174.fField)) (w := fun v175 => (Sr v175)) rfl rfl rfl rfl rfl (d7 rfl rfl rfl rfl rfl (u9 k v174.fField) (.inl rfl))) <| j5 fun v175 => et (i7 (m := 2) (j := 12) (t' := [(0, (V.sl 0 1 (List.map a7 a0))), (3, (Sr x155)), (4, (I x124)), (5, (I x156)), (26, (Bo false)), (29, (Sr x155)), (30, (V.sl 0 1 (List.map a7 a0))), (31, (I x124)), (32, (Pr (a7 v173))), (33, (a7 v173)), (34, (I x156)), (35, (Pr (d4 v174))), (36, (Pr (Sr v174.fField))), (37, (Sr v174.fField)), (38, (Sr v175)), (39, (V.sl 0 1 (List.map a7 a0))), (40, (I x124))]) rfl rfl rfl) <| et (c8 (x := (idx a0 x124)) (w := fun v176 => (Pr (a7 v176))) rfl rfl rfl rfl rfl (i2 (e := a7) rfl rfl rfl underlying26 rfl (by decide))) <| j5 fun v176 => et (i7 (m := 2) (j := 15) (t' := [(0, (V.sl 0 1 (List.map a7 a0))), (3, (Sr x155)), (4, (I x124)), (5, (I x156)), (26, (Bo false)), (29, (Sr x155)), (30, (V.sl 0 1 (List.map a7 a0))), (31, (I x124)), (32, (Pr (a7 v173))), (33, (a7 v173)), (34, (I x156)), (35, (Pr (d4 v174))), (36, (Pr (Sr v174.fField))), (37, (Sr v174.fField)), (38, (Sr v175)), (39, (V.sl 0 1 (List.map a7 a0))), (40, (I x124)), (41, (Pr (a7 v176))), (42, (a7 v176)), (43, (I x156))]) rfl rfl rfl) <| et (c8 (x := (idx v176 x156)) (w := fun v177 => (Pr (d4 v177))) rfl rfl rfl rfl rfl (i2 (e := d4) rfl rfl rfl underlying56 rfl (by decide))) <| j5 fun v177 => et (i7 (m := 2) (j := 18) (t' := [(0, (V.sl 0 1 (List.map a7 a0))), (3, (Sr x155)), (4, (I x124)), (5, (I x156)), (26, (Bo false)), (29, (Sr x155)), (30, (V.sl 0 1 (List.map a7 a0))), (31, (I x124)), (32, (Pr (a7 v173))), (33, (a7 v173)), (34, (I x156)), (35, (Pr (d4 v174))), (36, (Pr (Sr v174.fField))), (37, (Sr v174.fField)), (38, (Sr v175)), (39, (V.sl 0 1 (List.map a7 a0))), (40, (I x124)), (41, (Pr (a7 v176))), (42, (a7 v176)), (43, (I x156)), (44, (Pr (d4 v177))), (45, (Pr (I v177.fOp))), (46, (I v177.fOp))]) rfl rfl rfl) <| et (c8 (x := (H3 k v177.fOp)) (w := fun v178 => (Sr v178)) rfl rfl rfl rfl rfl (d7 rfl rfl rfl rfl rfl (H9 k v177.fOp) (.inl rfl))) <| j5 fun v178 => et (i7 (m := 0) (j := 19) (t' := [(0, (V.sl 0 1 (List.map a7 a0))), (3, (Sr x155)), (4, (I x124)), (5, (I x156)), (26, (Bo false)), (29, (Sr x155)), (30, (V.sl 0 1 (List.map a7 a0))), (31, (I x124)), (32, (Pr (a7 v173))), (33, (a7 v173)), (34, (I x156)), (35, (Pr (d4 v174))), (36, (Pr (Sr v174.fField))), (37, (Sr v174.fField)), (38, (Sr v175)), (39, (V.sl 0 1 (List.map a7 a0))), (40, (I x124)), (41, (Pr (a7 v176))), (42, (a7 v176)), (43, (I x156)), (44, (Pr (d4 v177))), (45, (Pr (I v177.fOp))), (46, (I v177.fOp)), (47, (Sr v178))]) rfl rfl rfl) <| et (c8 (x := (cat v175 v178)) (w := fun v179 => (Sr v179)) rfl rfl rfl rfl rfl (E7 rfl rfl rfl)) <| j5 fun v179 => et (i7 (m := 2) (j := 22) (t' := [(0, (V.sl 0 1 (List.map a7 a0))), (3, (Sr x155)), (4, (I x124)), (5, (I x156)), (26, (Bo false)), (29, (Sr x155)), (30, (V.sl 0 1 (List.map a7 a0))), (31, (I x124)), (32, (Pr (a7 v173))), (33, (a7 v173)), (34, (I x156)), (35, (Pr (d4 v174))), (36, (Pr (Sr v174.fField))), (37, (Sr v174.fField)), (38, (Sr v175)), (39, (V.sl 0 1 (List.map a7 a0))), (40, (I x124)), (41, (Pr (a7 v176))), (42, (a7 v176)), (43, (I x156)), (44, (Pr (d4 v177))), (45, (Pr (I v177.fOp))), (46, (I v177.fOp)), (47, (Sr v178)), (48, (Sr v179)), (49, (V.sl 0 1 (List.map a7 a0))), (50, (I x124))]) rfl rfl rfl) <| et (c8 (x := (idx a0 x124)) (w := fun v180 => (Pr (a7 v180))) rfl rfl rfl rfl rfl (i2 (e := a7) rfl rfl rfl underlying26 rfl (by decide))) <| j5 fun v180 => et (i7 (m := 2) (j := 25) (t' := [(0, (V.sl 0 1 (List.map a7 a0))), (3, (Sr x155)), (4, (I x124)), (5, (I x156)), (26, (Bo false)), (29, (Sr x155)), (30, (V.sl 0 1 (List.map a7 a0))), (31, (I x124)), (32, (Pr (a7 v173))), (33, (a7 v173)), (34, (I x156)), (35, (Pr (d4 v174))), (36, (Pr (Sr v174.fField))), (37, (Sr v174.fField)), (38, (Sr v175)), (39, (V.sl 0 1 (List.map a7 a0))), (40, (I x124)), (41, (Pr (a7 v176))), (42, (a7 v176)), (43, (I x156)), (44, (Pr (d4 v177))), (45, (Pr (I v177.fOp))), (46, (I v177.fOp)), (47, (Sr v178)), (48, (Sr v179)), (49, (V.sl 0 1 (List.map a7 a0))), (50, (I x124)), (51, (Pr (a7 v180))), (52, (a7 v180)), (53, (I x156))]) rfl rfl rfl) <| et (c8 (x := (idx v180 x156)) (w := fun v181 => (Pr (d4 v181))) rfl rfl rfl rfl rfl (i2 (e := d4) rfl rfl rfl underlying56 rfl (by decide))) <| j5 fun v181 => et (i7 (m := 2) (j := 28) (t' := [(0, (V.sl 0 1 (List.map a7 a0))), (3, (Sr x155)), (4, (I x124)), (5, (I x156)), (26, (Bo false)), (29, (Sr x155)), (30, (V.sl 0 1 (List.map a7 a0))), (31, (I x124)), (32, (Pr (a7 v173))), (33, (a7 v173)), (34, (I x156)), (35, (Pr (d4 v174))), (36, (Pr (Sr v174.fField))), (37, (Sr v174.fField)), (38, (Sr v175)), (39, (V.sl 0 1 (List.map a7 a0))), (40, (I x124)), (41, (Pr (a7 v176))), (42, (a7 v176)), (43, (I x156)), (44, (Pr (d4 v177))), (45, (Pr (I v177.fOp))), (46, (I v177.fOp)), (47, (Sr v178)), (48, (Sr v179)), (49, (V.sl 0 1 (List.map a7 a0))), (50, (I x124)), (51, (Pr (a7 v180))), (52, (a7 v180)), (53, (I x156)), (54, (Pr (d4 v181))), (55, (Pr (Sr v181.fValue))), (56, (Sr v181.fValue))]) rfl rfl rfl) <| et (c8 (x := (cat v179 v181.fValue)) (w := fun v182 => (Sr v182)) rfl rfl rfl rfl rfl (E7 rfl rfl rfl)) <| j5 fun v182 => et (i7 (m := 0) (j := 29) (t' := [(0, (V.sl 0 1 (List.map a7 a0))), (3, (Sr x155)), (4, (I x124)), (5, (I x156)), (26, (Bo false)), (29, (Sr x155)), (30, (V.sl 0 1 (List.map a7 a0))), (31, (I x124)), (32, (Pr (a7 v173))), (33, (a7 v173)), (34, (I x156)), (35, (Pr (d4 v174))), (36, (Pr (Sr v174.fField))), (37, (Sr v174.fField)), (38, (Sr v175)), (39, (V.sl 0 1 (List.map a7 a0))), (40, (I x124)), (41, (Pr (a7 v176))), (42, (a7 v176)), (43, (I x156)), (44, (Pr (d4 v177))), (45, (Pr (I v177.fOp))), (46, (I v177.fOp)), (47, (Sr v178)), (48, (Sr v179)), (49, (V.sl 0 1 (List.map a7 a0))), (50, (I x124)), (51, (Pr (a7 v180))), (52, (a7 v180)), (53, (I x156)), (54, (Pr (d4 v181))), (55, (Pr (Sr v181.fValue))), (56, (Sr v181.fValue)), (57, (Sr v182))]) rfl rfl rfl) ?_
     exact et (c8 (x := (cat x155 v182)) (w := fun v183 => (Sr v183)) rfl rfl rfl rfl rfl (E7 rfl rfl rfl)) <| B6 fun v183 => j9 rfl
    exact et i6 <| kl ⟨[(0, (V.sl 0 1 (List.map a7 a0))), (3, (Sr o184)), (4, (I x124)), (5, (I (Go.IntKind.wrap .i64 (x156 + 1))))], [], 60⟩ rfl <| et i3 <| ih o184 (Go.IntKind.wrap .i64 (x156 + 1))
  ·rw [hc]
   exact et p7 <| et j3 <| hK0 x155 x156
theorem kH (k : Nat) (a0 : (List (List a6))) (x124 : Int)  (K0 : Str → Int → Option Str) (Kst : X × St → Option (V × List V)) (hK0 : ∀ (y0 : Str) (y1 : Int), Kst (X.exit 2, ⟨[(0, (V.sl 0 1 (List.map a7 a0))), (3, (Sr y0)), (4, (I x124)), (5, (I y1)), (22, (Bo false))], [], 60⟩) = (K0 y0 y1).map H2) (hret : ∀ s, Kst (X.ret, s) = F3 prog 60 [(V.sl 0 1 (List.map a7 a0))] [] [.tmp 2] (X.ret, s)) :
  ∀ (m : Nat) (x215 : Str) (x216 : Int), (D1 (u0 prog (EV k) yS k yR) m ⟨[(0, (V.sl 0 1 (List.map a7 a0))), (3, (Sr x215)), (4, (I x124)), (5, (I x216))], [], 60⟩).bind Kst = (J3 k a0 x124 K0 m x215 x216).map H2 := by
 intro m
 induction m with
 | zero => intros; rfl
 | succ m ih =>
  intro x215 x216
  unfold J3
  refine et l9 <| et b5 <| kga yQ rfl (fun (o218 : Bool) => [(22, (Bo o218))]) (rd 3 [(16, (I x216)), (17, (V.sl 0 1 (List.map a7 a0))), (18, (I x124))] rfl rfl <| rp rfl (i2 (e := a7) rfl rfl rfl underlying26 rfl (by decide)) fun v217 => bd 5 [(19, (Pr (a7 v217))), (20, (a7 v217))] rfl rfl <| rl rfl (n7 (e := d4) rfl rfl rfl rfl rfl rfl underlying56) <| b4 rfl) fun o218 => kc rfl rfl (fun hc => ?_) fun hc => ?_
  ·rw [hc]
   refine et d6 <| et (i8 rfl) <| et b5 <| kr ⟨[(0, (V.sl 0 1 (List.map a7 a0))), (3, (Sr x215)), (4, (I x124)), (5, (I x216)), (26, (Bo (decide (x216 > 0))))], [], 60⟩ rfl <| kc rfl rfl (fun hc => ?_) fun hc => ?_
   ·rw [hc]
    refine kg uz rfl (fun (o220 : Str) => ⟨[(0, (V.sl 0 1 (List.map a7 a0))), (3, (Sr o220)), (4, (I x124)), (5, (I x216))], [], 60⟩) (rd 1 [(27, (Sr x215))] rfl rfl <| rs rfl (E7 rfl rfl rfl) fun v219 => b4 rfl) fun o220 => kdl oX rfl (fun (o232 : Str) => ⟨[(0, (V.sl 0 1 (List.map a7 a0))), (3, (Sr o232)), (4, (I x124)), (5, (I x216))], [], 60⟩) ?_ fun o232 => ?_
    ·refine et (j2 (p := 30) (dk := true) (t := [(0, (V.sl 0 1 (List.map a7 a0))), (3, (Sr o220)), (4, (I x124)), (5, (I x216))]) (σ := []) (n := 60) rfl (by decide) (by decide) rfl) <| et (j8 (m := 3) (j := 3) (t' := [(0, (V.sl 0 1 (List.map a7 a0))), (3, (Sr o220)), (4, (I x124)), (5, (I x216)), (29, (Sr o220)), (30, (V.sl 0 1 (List.map a7 a0))), (31, (I x124))]) rfl rfl rfl) <| et (c8 (x := (idx a0 x124)) (w := fun v221 => (Pr (a7 v221))) rfl rfl rfl rfl rfl (i2 (e := a7) rfl rfl rfl underlying26 rfl (by decide))) <| j5 fun v221 => et (i7 (m := 2) (j := 6) (t' := [(0, (V.sl 0 1 (List.map a7 a0))), (3, (Sr o220)), (4, (I x124)), (5, (I x216)), (29, (Sr o220)), (30, (V.sl 0 1 (List.map a7 a0))), (31, (I x124)), (32, (Pr (a7 v221))), (33, (a7 v221)), (34, (I x216))]) rfl rfl rfl) <| et (c8 (x := (idx v221 x216)) (w := fun v222 => (Pr (d4 v222))) rfl rfl rfl rfl rfl (i2 (e := d4) rfl rfl rfl underlying56 rfl (by decide))) <| j5 fun v222 => et (i7 (m := 2) (j := 9) (t' := [(0, (V.sl 0 1 (List.map a7 a0))), (3, (Sr o220)), (4, (I x124)), (5, (I x216)), (29, (Sr o220)), (30, (V.sl 0 1 (List.map a7 a0))), (31, (I x124)), (32, (Pr (a7 v221))), (33, (a7 v221)), (34, (I x216)), (35, (Pr (d4 v222))), (36, (Pr (Sr v222.fField))), (37, (Sr v222.fField))]) rfl rfl rfl) <| et (c8 (x := (A7 k v222.fField)) (w := fun v223 => (Sr v223)) rfl rfl rfl rfl rfl (d7 rfl rfl rfl rfl rfl (u9 k v222.fField) (.inl rfl))) <| j5 fun v223 => et (i7 (m := 2) (j := 12) (t' := [(0, (V.sl 0 1 (List.map a7 a0))), (3, (Sr o220)), (4, (I x124)), (5, (I x216)), (29, (Sr o220)), (30, (V.sl 0 1 (List.map a7 a0))), (31, (I x124)), (32, (Pr (a7 v221))), (33, (a7 v221)), (34, (I x216)), (35, (Pr (d4 v222))), (36, (Pr (Sr v222.fField))), (37, (Sr v222.fField)), (38, (Sr v223)), (39, (V.sl 0 1 (List.map a7 a0))), (40, (I x124))]) rfl rfl rfl) <| et (c8 (x := (idx a0 x124)) (w := fun v224 => (Pr (a7 v224))) rfl rfl rfl rfl rfl (i2 (e := a7) rfl rfl rfl underlying26 rfl (by decide))) <| j5 fun v224 => et (i7 (m := 2) (j := 15) (t' := [(0, (V.sl 0 1 (List.map a7 a0))), (3, (Sr o220)), (4, (I x124)), (5, (I x216)), (29, (Sr o220)), (30, (V.sl 0 1 (List.map a7 a0))), (31, (I x124)), (32, (Pr (a7 v221))), (33, (a7 v221)), (34, (I x216)), (35, (Pr (d4 v222))), (36, (Pr (Sr v222.fField))), (37, (Sr v222.fField)), (38, (Sr v223)), (39, (V.sl 0 1 (List.map a7 a0))), (40, (I x124)), (41, (Pr (a7 v224))), (42, (a7 v224)), (43, (I x216))]) rfl rfl rfl) <| et (c8 (x := (idx v224 x216)) (w := fun v225 => (Pr (d4 v225))) rfl rfl rfl rfl rfl (i2 (e := d4) rfl rfl rfl underlying56 rfl (by decide))) <| j5 fun v225 => et (i7 (m := 2) (j := 18) (t' := [(0, (V.sl 0 1 (List.map a7 a0))), (3, (Sr o220)), (4, (I x124)), (5, (I x216)), (29, (Sr o220)), (30, (V.sl 0 1 (List.map a7 a0))), (31, (I x124)), (32, (Pr (a7 v221))), (33, (a7 v221)), (34, (I x216)), (35, (Pr (d4 v222))), (36, (Pr (Sr v222.fField))), (37, (Sr v222.fField)), (38, (Sr v223)), (39, (V.sl 0 1 (List.map a7 a0))), (40, (I x124)), (41, (Pr (a7 v224))), (42, (a7 v224)), (43, (I x216)), (44, (Pr (d4 v225))), (45, (Pr (I v225.fOp))), (46, (I v225.fOp))]) rfl rfl rfl) <| et (c8 (x := (H3 k v225.fOp)) (w := fun v226 => (Sr v226)) rfl rfl rfl rfl rfl (d7 rfl rfl rfl rfl rfl (H9 k v225.fOp) (.inl rfl))) <| j5 fun v226 => et (i7 (m := 0) (j := 19) (t' := [(0, (V.sl 0 1 (List.map a7 a0))), (3, (Sr o220)), (4, (I x124)), (5, (I x216)), (29, (Sr o220)), (30, (V.sl 0 1 (List.map a7 a0))), (31, (I x124)), (32, (Pr (a7 v221))), (33, (a7 v221)), (34, (I x216)), (35, (Pr (d4 v222))), (36, (Pr (Sr v222.fField))), (37, (Sr v222.fField)), (38, (Sr v223)), (39, (V.sl 0 1 (List.map a7 a0))), (40, (I x124)), (41, (Pr (a7 v224))), (42, (a7 v224)), (43, (I x216)), (44, (Pr (d4 v225))), (45, (Pr (I v225.fOp))), (46, (I v225.fOp)), (47, (Sr v226))]) rfl rfl rfl) <| et (c8 (x := (cat v223 v226)) (w := fun v227 => (Sr v227)) rfl rfl rfl rfl rfl (E7 rfl rfl rfl)) <| j5 fun v227 => et (i7 (m := 2) (j := 22) (t' := [(0, (V.sl 0 1 (List.map a7 a0))), (3, (Sr o220)), (4, (I x124)), (5, (I x216)), (29, (Sr o220)), (30, (V.sl 0 1 (List.map a7 a0))), (31, (I x124)), (32, (Pr (a7 v221))), (33, (a7 v221)), (34, (I x216)), (35, (Pr (d4 v222))), (36, (Pr (Sr v222.fField))), (37, (Sr v222.fField)), (38, (Sr v223)), (39, (V.sl 0 1 (List.map a7 a0))), (40, (I x124)), (41, (Pr (a7 v224))), (42, (a7 v224)), (43, (I x216)), (44, (Pr (d4 v225))), (45, (Pr (I v225.fOp))), (46, (I v225.fOp)), (47, (Sr v226)), (48, (Sr v227)), (49, (V.sl 0 1 (List.map a7 a0))), (50, (I x124))]) rfl rfl rfl) <| et (c8 (x := (idx a0 x124)) (w := fun v228 => (Pr (a7 v228))) rfl rfl rfl rfl rfl (i2 (e := a7) rfl rfl rfl underlying26 rfl (by decide))) <| j5 fun v228 => et (i7 (m := 2) (j := 25) (t' := [(0, (V.sl 0 1 (List.map a7 a0))), (3, (Sr o220)), (4, (I x124)), (5, (I x216)), (29, (Sr o220)), (30, (V.sl 0 1 (List.map a7 a0))), (31, (I x124)), (32, (Pr (a7 v221))), (33, (a7 v221)), (34, (I x216)), (35, (Pr (d4 v222))), (36, (Pr (Sr v222.fField))), (37, (Sr v222.fField)), (38, (Sr v223)), (39, (V.sl 0 1 (List.map a7 a0))), (40, (I x124)), (41, (Pr (a7 v224))), (42, (a7 v224)), (43, (I x216)), (44, (Pr (d4 v225))), (45, (Pr (I v225.fOp))), (46, (I v225.fOp)), (47, (Sr v226)), (48, (Sr v227)), (49, (V.sl 0 1 (List.map a7 a0))), (50, (I x124)), (51, (Pr (a7 v228))), (52, (a7 v228)), (53, (I x216))]) rfl rfl rfl) <| et (c8 (x := (idx v228 x216)) (w := fun v229 => (Pr (d4 v229))) rfl rfl rfl rfl rfl (i2 (e := d4) rfl rfl rfl underlying56 rfl (by decide))) <| j5 fun v229 => et (i7 (m := 2) (j := 28) (t' := [(0, (V.sl 0 1 (List.map a7 a0))), (3, (Sr o220)), (4, (I x124)), (5, (I x216)), (29, (Sr o220)), (30, (V.sl 0 1 (List.map a7 a0))), (31, (I x124)), (32, (Pr (a7 v221))), (33, (a7 v221)), (34, (I x216)), (35, (Pr (d4 v222))), (36, (Pr (Sr v222.fField))), (37, (Sr v222.fField)), (38, (Sr v223)), (39, (V.sl 0 1 (List.map a7 a0))), (40, (I x124)), (41, (Pr (a7 v224))), (42, (a7 v224)), (43, (I x216)), (44, (Pr (d4 v225))), (45, (Pr (I v225.fOp))), (46, (I v225.fOp)), (47, (Sr v226)), (48, (Sr v227)), (49, (V.sl 0 1 (List.map a7 a0))), (50, (I x124)), (51, (Pr (a7 v228))), (52, (a7 v228)), (53, (I x216)), (54, (Pr (d4 v229))), (55, (Pr (Sr v229.fValue))), (56, (Sr v229.fValue))]) rfl rfl rfl) <| et (c8 (x := (cat v227 v229.fValue)) (w := fun v230 => (Sr v230)) rfl rfl rfl rfl rfl (E7 rfl rfl rfl)) <| j5 fun v230 => et (i7 (m := 0) (j := 29) (t' := [(0, (V.sl 0 1 (List.map a7 a0))), (3, (Sr o220)), (4, (I x124)), (5, (I x216)), (29, (Sr o220)), (30, (V.sl 0 1 (List.map a7 a0))), (31, (I x124)), (32, (Pr (a7 v221))), (33, (a7 v221)), (34, (I x216)), (35, (Pr (d4 v222))), (36, (Pr (Sr v222.fField))), (37, (Sr v222.fField)), (38, (Sr v223)), (39, (V.sl 0 1 (List.map a7 a0))), (40, (I x124)), (41, (Pr (a7 v224))), (42, (a7 v224)), (43, (I x216)), (44, (Pr (d4 v225))), (45, (Pr (I v225.fOp))), (46, (I v225.fOp)), (47, (Sr v226)), (48, (Sr v227)), (49, (V.sl 0 1 (List.map a7 a0))), (50, (I x124)), (51, (Pr (a7 v228))), (52, (a7 v228)), (53, (I x216)), (54, (Pr (d4 v229))), (55, (Pr (Sr v229.fValue))), (56, (Sr v229.fValue)), (57, (Sr v230))]) rfl rfl rfl) ?_
     exact et (c8 (x := (cat o220 v230)) (w := fun v231 => (Sr v231)) rfl rfl rfl rfl rfl (E7 rfl rfl rfl)) <| B6 fun v231 => j9 rfl
    exact et i6 <| kl ⟨[(0, (V.sl 0 1 (List.map a7 a0))), (3, (Sr o232)), (4, (I x124)), (5, (I (Go.IntKind.wrap .i64 (x216 + 1))))], [], 60⟩ rfl <| et i3 <| ih o232 (Go.IntKind.wrap .i64 (x216 + 1))
   ·rw [hc]
    refine et d6 <| kdl oX rfl (fun (o244 : Str) => ⟨[(0, (V.sl 0 1 (List.map a7 a0))), (3, (Sr o244)), (4, (I x124)), (5, (I x216))], [], 60⟩) ?_ fun o244 => ?_
    ·refine et (j2 (p := 30) (dk := true) (t := [(0, (V.sl 0 1 (List.map a7 a0))), (3, (Sr x215)), (4, (I x124)), (5, (I x216)), (26, (Bo false))]) (σ := []) (n := 60) rfl (by decide) (by decide) rfl) <| et (j8 (m := 3) (j := 3) (t' := [(0, (V.sl 0 1 (List.map a7 a0))), (3, (Sr x215)), (4, (I x124)), (5, (I x216)), (26, (Bo false)), (29, (Sr x215)), (30, (V.sl 0 1 (List.map a7 a0))), (31, (I x124))]) rfl rfl rfl) <| et (c8 (x := (idx a0 x124)) (w := fun v233 => (Pr (a7 v233))) rfl rfl rfl rfl rfl (i2 (e := a7) rfl rfl rfl underlying26 rfl (by decide))) <| j5 fun v233 => et (i7 (m := 2) (j := 6) (t' := [(0, (V.sl 0 1 (List.map a7 a0))), (3, (Sr x215)), (4, (I x124)), (5, (I x216)), (26, (Bo false)), (29, (Sr x215)), (30, (V.sl 0 1 (List.map a7 a0))), (31, (I x124)), (32, (Pr (a7 v233))), (33, (a7 v233)), (34, (I x216))]) rfl rfl rfl) <| et (c8 (x := (idx v233 x216)) (w := fun v234 => (Pr (d4 v234))) rfl rfl rfl rfl rfl (i2 (e := d4) rfl rfl rfl underlying56 rfl (by decide))) <| j5 fun v234 => et (i7 (m := 2) (j := 9) (t' := [(0, (V.sl 0 1 (List.map a7 a0))), (3, (Sr x215)), (4, (I x124)), (5, (I x216)), (26, (Bo false)), (29, (Sr x215)), (30, (V.sl 0 1 (List.map a7 a0))), (31, (I x124)), (32, (Pr (a7 v233))), (33, (a7 v233)), (34, (I x216)), (35, (Pr (d4 v234))), (36, (Pr (Sr v234.fField))), (37, (Sr v234.fField))]) rfl rfl rfl) <| et (c8 (x := (A7 k v234.fField)) (w := fun v235 => (Sr v235)) rfl rfl rfl rfl rfl (d7 rfl rfl rfl rfl rfl (u9 k v234.fField) (.inl rfl))) <| j5 fun v235 => et (i7 (m := 2) (j := 12) (t' := [(0, (V.sl 0 1 (List.map a7 a0))), (3, (Sr x215)), (4, (I x124)), (5, (I x216)), (26, (Bo false)), (29, (Sr x215)), (30, (V.sl 0 1 (List.map a7 a0))), (31, (I x124)), (32, (Pr (a7 v233))), (33, (a7 v233)), (34, (I x216)), (35, (Pr (d4 v234))), (36, (Pr (Sr v234.fField))), (37, (Sr v234.fField)), (38, (Sr v235)), (39, (V.sl 0 1 (List.map a7 a0))), (40, (I x124))]) rfl rfl rfl) <| et (c8 (x := (idx a0 x124)) (w := fun v236 => (Pr (a7 v236))) rfl rfl rfl rfl rfl (i2 (e := a7) rfl rfl rfl underlying26 rfl (by decide))) <| j5 fun v236 => et (i7 (m := 2) (j := 15) (t' := [(0, (V.sl 0 1 (List.map a7 a0))), (3, (Sr x215)), (4, (I x124)), (5, (I x216)), (26, (Bo false)), (29, (Sr x215)), (30, (V.sl 0 1 (List.map a7 a0))), (31, (I x124)), (32, (Pr (a7 v233))), (33, (a7 v233)), (34, (I x216)), (35, (Pr (d4 v234))), (36, (Pr (Sr v234.fField))), (37, (Sr v234.fField)), (38, (Sr v235)), (39, (V.sl 0 1 (List.map a7 a0))), (40, (I x124)), (41, (Pr (a7 v236))), (42, (a7 v236)), (43, (I x216))]) rfl rfl rfl) <| et (c8 (x := (idx v236 x216)) (w := fun v237 => (Pr (d4 v237))) rfl rfl rfl rfl rfl (i2 (e := d4) rfl rfl rfl underlying56 rfl (by decide))) <| j5 fun v237 => et (i7 (m := 2) (j := 18) (t' := [(0, (V.sl 0 1 (List.map a7 a0))), (3, (Sr x215)), (4, (I x124)), (5, (I x216)), (26, (Bo false)), (29, (Sr x215)), (30, (V.sl 0 1 (List.map a7 a0))), (31, (I x124)), (32, (Pr (a7 v233))), (33, (a7 v233)), (34, (I x216)), (35, (Pr (d4 v234))), (36, (Pr (Sr v234.fField))), (37, (Sr v234.fField)), (38, (Sr v235)), (39, (V.sl 0 1 (List.map a7 a0))), (40, (I x124)), (41, (Pr (a7 v236))), (42, (a7 v236)), (43, (I x216)), (44, (Pr (d4 v237))), (45, (Pr (I v237.fOp))), (46, (I v237.fOp))]) rfl rfl rfl) <| et (c8 (x := (H3 k v237.fOp)) (w := fun v238 => (Sr v238)) rfl rfl rfl rfl rfl (d7 rfl rfl rfl rfl rfl (H9 k v237.fOp) (.inl rfl))) <| j5 fun v238 => et (i7 (m := 0) (j := 19) (t' := [(0, (V.sl 0 1 (List.map a7 a0))), (3, (Sr x215)), (4, (I x124)), (5, (I x216)), (26, (Bo false)), (29, (Sr x215)), (30, (V.sl 0 1 (List.map a7 a0))), (31, (I x124)), (32, (Pr (a7 v233))), (33, (a7 v233)), (34, (I x216)), (35, (Pr (d4 v234))), (36, (Pr (Sr v234.fField))), (37, (Sr v234.fField)), (38, (Sr v235)), (39, (V.sl 0 1 (List.map a7 a0))), (40, (I x124)), (41, (Pr (a7 v236))), (42, (a7 v236)), (43, (I x216)), (44, (Pr (d4 v237))), (45, (Pr (I v237.fOp))), (46, (I v237.fOp)), (47, (Sr v238))]) rfl rfl rfl) <| et (c8 (x := (cat v235 v238)) (w := fun v239 => (Sr v239)) rfl rfl rfl rfl rfl (E7 rfl rfl rfl)) <| j5 fun v239 => et (i7 (m := 2) (j := 22) (t' := [(0, (V.sl 0 1 (List.map a7 a0))), (3, (Sr x215)), (4, (I x124)), (5, (I x216)), (26, (Bo false)), (29, (Sr x215)), (30, (V.sl 0 1 (List.map a7 a0))), (31, (I x124)), (32, (Pr (a7 v233))), (33, (a7 v233)), (34, (I x216)), (35, (Pr (d4 v234))), (36, (Pr (Sr v234.fField))), (37, (Sr v234.fField)), (38, (Sr v235)), (39, (V.sl 0 1 (List.map a7 a0))), (40, (I x124)), (41, (Pr (a7 v236))), (42, (a7 v236)), (43, (I x216)), (44, (Pr (d4 v237))), (45, (Pr (I v237.fOp))), (46, (I v237.fOp)), (47, (Sr v238)), (48, (Sr v239)), (49, (V.sl 0 1 (List.map a7 a0))), (50, (I x124))]) rfl rfl rfl) <| et (c8 (x := (idx a0 x124)) (w := fun v240 => (Pr (a7 v240))) rfl rfl rfl rfl rfl (i2 (e := a7) rfl rfl rfl underlying26 rfl (by decide))) <| j5 fun v240 => et (i7 (m := 2) (j := 25) (t' := [(0, (V.sl 0 1 (List.map a7 a0))), (3, (Sr x215)), (4, (I x124)), (5, (I x216)), (26, (Bo false)), (29, (Sr x215)), (30, (V.sl 0 1 (List.map a7 a0))), (31, (I x124)), (32, (Pr (a7 v233))), (33, (a7 v233)), (34, (I x216)), (35, (Pr (d4 v234))), (36, (Pr (Sr v234.fField))), (37, (Sr v234.fField)), (38, (Sr v235)), (39, (V.sl 0 1 (List.map a7 a0))), (40, (I x124)), (41, (Pr (a7 v236))), (42, (a7 v236)), (43, (I x216)), (44, (Pr (d4 v237))), (45, (Pr (I v237.fOp))), (46, (I v237.fOp)), (47, (Sr v238)), (48, (Sr v239)), (49, (V.sl 0 1 (List.map a7 a0))), (50, (I x124)), (51, (Pr (a7 v240))), (52, (a7 v240)), (53, (I x216))]) rfl rfl rfl) <| et (c8 (x := (idx v240 x216)) (w := fun v241 => (Pr (d4 v241))) rfl rfl rfl rfl rfl (i2 (e := d4) rfl rfl rfl underlying56 rfl (by decide))) <| j5 fun v241 => et (i7 (m := 2) (j := 28) (t' := [(0, (V.sl 0 1 (List.map a7 a0))), (3, (Sr x215)), (4, (I x124)), (5, (I x216)), (26, (Bo false)), (29, (Sr x215)), (30, (V.sl 0 1 (List.map a7 a0))), (31, (I x124)), (32, (Pr (a7 v233))), (33, (a7 v233)), (34, (I x216)), (35, (Pr (d4 v234))), (36, (Pr (Sr v234.fField))), (37, (Sr v234.fField)), (38, (Sr v235)), (39, (V.sl 0 1 (List.map a7 a0))), (40, (I x124)), (41, (Pr (a7 v236))), (42, (a7 v236)), (43, (I x216)), (44, (Pr (d4 v237))), (45, (Pr (I v237.fOp))), (46, (I v237.fOp)), (47, (Sr v238)), (48, (Sr v239)), (49, (V.sl 0 1 (List.map a7 a0))), (50, (I x124)), (51, (Pr (a7 v240))), (52, (a7 v240)), (53, (I x216)), (54, (Pr (d4 v241))), (55, (Pr (Sr v241.fValue))), (56, (Sr v241.fValue))]) rfl rfl rfl) <| et (c8 (x := (cat v239 v241.fValue)) (w := fun v242 => (Sr v242)) rfl rfl rfl rfl rfl (E7 rfl rfl rfl)) <| j5 fun v242 => et (i7 (m := 0) (j := 29) (t' := [(0, (V.sl 0 1 (List.map a7 a0))), (3, (Sr x215)), (4, (I x124)), (5, (I x216)), (26, (Bo false)), (29, (Sr x215)), (30, (V.sl 0 1 (List.map a7 a0))), (31, (I x124)), (32, (Pr (a7 v233))), (33, (a7 v233)), (34, (I x216)), (35, (Pr (d4 v234))), (36, (Pr (Sr v234.fField))), (37, (Sr v234.fField)), (38, (Sr v235)), (39, (V.sl 0 1 (List.map a7 a0))), (40, (I x124)), (41, (Pr (a7 v236))), (42, (a7 v236)), (43, (I x216)), (44, (Pr (d4 v237))), (45, (Pr (I v237.fOp))), (46, (I v237.fOp)), (47, (Sr v238)), (48, (Sr v239)), (49, (V.sl 0 1 (List.map a7 a0))), (50, (I x124)), (51, (Pr (a7 v240))), (52, (a7 v240)), (53, (I x216)), (54, (Pr (d4 v241))), (55, (Pr (Sr v241.fValue))), (56, (Sr v241.fValue)), (57, (Sr v242))]) rfl rfl rfl) ?_
     exact et (c8 (x := (cat x215 v242)) (w := fun v243 => (Sr v243)) rfl rfl rfl rfl rfl (E7 rfl rfl rfl)) <| B6 fun v243 => j9 rfl
    exact et i6 <| kl ⟨[(0, (V.sl 0 1 (List.map a7 a0))), (3, (Sr o244)), (4, (I x124)), (5, (I (Go.IntKind.wrap .i64 (x216 + 1))))], [], 60⟩ rfl <| et i3 <| ih o244 (Go.IntKind.wrap .i64 (x216 + 1))
  ·rw [hc]
   exact et p7 <| et j3 <| hK0 x215 x216
theorem kF (k : Nat) (a0 : (List (List a6)))  (K0 : Str → Int → Option Str) (Kst : X × St → Option (V × List V)) (hK0 : ∀ (y0 : Str) (y1 : Int), Kst (X.exit 0, ⟨[(0, (V.sl 0 1 (List.map a7 a0))), (3, (Sr y0)), (4, (I y1)), (9, (Bo false))], [], 60⟩) = (K0 y0 y1).map H2) (hret : ∀ s, Kst (X.ret, s) = F3 prog 60 [(V.sl 0 1 (List.map a7 a0))] [] [.tmp 2] (X.ret, s)) :
  ∀ (m : Nat) (x123 : Str) (x124 : Int), (D1 (u0 prog (EV k) yS k Dj) m ⟨[(0, (V.sl 0 1 (List.map a7 a0))), (3, (Sr x123)), (4, (I x124))], [], 60⟩).bind Kst = (A9 k a0 K0 m x123 x124).map H2 := by
 intro m
 induction m with
 | zero => intros; rfl
 | succ m ih =>
  intro x123 x124
  unfold A9
  refine et l9 <| et b5 <| krp Dh rfl ⟨[(0, (V.sl 0 1 (List.map a7 a0))), (3, (Sr x123)), (4, (I x124)), (9, (Bo (decide (x124 < (a0.length : Int)))))], [], 60⟩ ?_ ?_
  ·exact rd 2 [(6, (I x124)), (7, (V.sl 0 1 (List.map a7 a0)))] rfl rfl <| rl rfl (n7 (e := a7) rfl rfl rfl rfl rfl rfl underlying26) <| b4 rfl
  refine kc rfl rfl (fun hc => ?_) fun hc => ?_
  ·rw [hc]
   refine et d6 <| et (i8 rfl) <| et b5 <| kr ⟨[(0, (V.sl 0 1 (List.map a7 a0))), (3, (Sr x123)), (4, (I x124)), (13, (Bo (decide (x124 > 0))))], [], 60⟩ rfl <| kc rfl rfl (fun hc => ?_) fun hc => ?_
   ·rw [hc]
    refine kg Di rfl (fun (o126 : Str) => ⟨[(0, (V.sl 0 1 (List.map a7 a0))), (3, (Sr o126)), (4, (I x124))], [], 60⟩) (rd 1 [(14, (Sr x123))] rfl rfl <| rs rfl (E7 rfl rfl rfl) fun v125 => b4 rfl) fun o126 => kra [(5, (I 0))] rfl <| et (G7 rfl) <| et p8 ?_
    refine kG k a0 x124 _ _ ?h_ref12_format_L2_0 ?hr_ref12_format_L2 k o126 0
    ·intro y185 y186
     exact et j6 <| et m9 <| et i6 <| kl ⟨[(0, (V.sl 0 1 (List.map a7 a0))), (3, (Sr y185)), (4, (I (Go.IntKind.wrap .i64 (x124 + 1))))], [], 60⟩ rfl <| et i3 <| ih y185 (Go.IntKind.wrap .i64 (x124 + 1))
    ·intro s; exact hret s
   ·rw [hc]
    refine et d6 <| kr ⟨[(0, (V.sl 0 1 (List.map a7 a0))), (3, (Sr x123)), (4, (I x124)), (5, (I 0))], [], 60⟩ rfl <| et (G7 rfl) <| et p8 ?_
    refine kH k a0 x124 _ _ ?h_ref12_format_L3_0 ?hr_ref12_format_L3 k x123 0
    ·intro y245 y246
     exact et j6 <| et m9 <| et i6 <| kl ⟨[(0, (V.sl 0 1 (List.map a7 a0))), (3, (Sr y245)), (4, (I (Go.IntKind.wrap .i64 (x124 + 1))))], [], 60⟩ rfl <| et i3 <| ih y245 (Go.IntKind.wrap .i64 (x124 + 1))
    ·intro s; exact hret s
  ·rw [hc]
   exact et p7 <| et j3 <| hK0 x123 x124
theorem dv (k : Nat) (a0 : (List (List a6))) : EV k 49 [(V.sl 0 1 (List.map a7 a0))] = (bw k a0).map H2 := by
 cases k with
 | zero => rfl
 | succ k =>
  unfold bw
  refine et (i5 (c := f49c) (N := 60) (regs := yS) rfl func49 rfl (by decide) rfl rfl rfl) <| kra [] rfl <| kra [(3, (Sr ([] : Str)))] rfl <| et b5 <| kra [(4, (I 0))] rfl <| et (i8 rfl) <| et p8 ?_
  refine kF k a0 _ _ ?h_ref12_format_L1_0 ?hr_ref12_format_L1 k ([] : Str) 0
  ·intro y247 y248
   refine et j6 <| kr ⟨[(2, (Sr y247))], [], 60⟩ rfl <| et i1 ?_
   rfl
  ·intro s; exact rfl
def nh : (Str × Int) → V × List V := fun r => (.tup [(Sr r.1), (I r.2)], [])
theorem ik (k : Nat) (a0 : a8) (a1 : Int) (a2 : (List (List a6))) : EV k 27 [(b6 a0), (I a1), (V.sl 0 1 (List.map a7 a2))] = (K4 k a0 a1 a2).map nh := by
 cases k with
 | zero => rfl
 | succ k =>
  unfold K4
  refine et (i5 (c := f27c) (N := 18) (regs := GX) rfl func27 rfl (by decide) rfl rfl rfl) <| kr ⟨[(1, (I a1)), (2, (V.sl 0 1 (List.map a7 a2))), (3, (Pt 3))], [(3, vS 4 (b6 a0))], 18⟩ rfl <| et b5 <| kg Ci rfl (fun (o2 : Int) => ⟨[(2, (V.sl 0 1 (List.map a7 a2))), (8, (I o2))], [], 18⟩) (rd 3 [(9, (b6 a0)), (10, (I a1)), (11, (V.sl 0 1 (List.map a7 a2)))] rfl rfl <| rs rfl (d7 rfl rfl rfl rfl rfl (eS k a0 a1 a2 ([] : List (List a6))) (.inl rfl)) fun v1 => b4 rfl) fun o2 => et b5 <| kra [(14, (Bo (o2 != 0)))] rfl <| kc rfl rfl (fun hc => ?_) fun hc => ?_
  ·rw [hc]
   refine et b5 <| kr ⟨[(6, (Sr ([] : Str))), (7, (I o2))], [], 18⟩ rfl <| et n6 ?_
   rfl
  ·rw [hc]
   refine et d6 <| kg Cj rfl (fun (o4 : Str × Int) => ⟨[(6, (Sr o4.1)), (7, (I o4.2))], [], 18⟩) (rd 1 [(16, (V.sl 0 1 (List.map a7 a2)))] rfl rfl <| rp rfl (d7 rfl rfl rfl rfl rfl (dv k a2) (.inl rfl)) fun v3 => b4 rfl) fun o4 => et i1 ?_
   rfl
def np : (Str × Int) → V × List V := fun r => (.tup [(Sr r.1), (I r.2)], [])
theorem ol (k : Nat) (a0 : a8) (a1 : b7) : EV k 9 [(b6 a0), (j4 a1)] = (bx k a0 a1).map np := by
 cases k with
 | zero => rfl
 | succ k =>
  unfold bx
  refine et (i5 (c := f9c) (N := 53) (regs := f9n) rfl func9 rfl (by decide) rfl rfl rfl) <| kr ⟨[(2, (Pt 2)), (3, (Pt 3))], [(2, vS 4 (b6 a0)), (3, vS 3 (j4 a1))], 53⟩ rfl <| kga HU rfl (fun (o2 : (List Int) × Int) => [(6, (sI o2.1)), (7, (I o2.2))]) (rd 3 [(12, (b6 a0)), (13, (j4 a1)), (14, (u5 (([a1] : List b7))))] rfl rfl <| rp rfl (d7 rfl rfl rfl rfl rfl (eV k a0 ([a1] : List b7)) (.inl rfl)) fun v1 => b4 rfl) fun o2 => et b5 <| kra [(19, (Bo (o2.2 != 0)))] rfl <| kc rfl rfl (fun hc => ?_) fun hc => ?_
  ·rw [hc]
   refine et b5 <| kr ⟨[(4, (Sr ([] : Str))), (5, (I o2.2))], [], 53⟩ rfl <| et n6 ?_
   rfl
  ·rw [hc]
   refine et d6 <| kg HV rfl (fun (o4 : Str) => ⟨[(2, (Pt 2)), (3, (Pt 3)), (6, (sI o2.1)), (8, (Sr o4))], [(2, vS 4 (b6 a0)), (3, vS 3 (j4 a1))], 53⟩) (rd 2 [(21, (Pt 3)), (22, (Sr a1.fSegment))] rfl rfl <| rs rfl (d7 rfl rfl rfl rfl rfl (u9 k a1.fSegment) (.inl rfl)) fun v3 => b4 rfl) fun o4 => et b5 <| kra [(26, (Bo (!(a1.fCodes == ([] : Str)))))] rfl <| kc rfl rfl (fun hc => ?_) fun hc => ?_
   ·rw [hc]
    refine kg HW rfl (fun (o7 : Str) => ⟨[(2, (Pt 2)), (3, (Pt 3)), (6, (sI o2.1)), (8, (Sr o7))], [(2, vS 4 (b6 a0)), (3, vS 3 (j4 a1))], 53⟩) (rd 3 [(27, (Sr o4)), (28, (V.ptr 3 0 1)), (29, (Sr a1.fCodes))] rfl rfl <| rp rfl (E7 rfl rfl rfl) fun v5 => bd 4 [(30, (Sr v5))] rfl rfl <| rs rfl (E7 rfl rfl rfl) fun v6 => b4 rfl) fun o7 => et b5 <| krp FV rfl ⟨[(2, (Pt 2)), (3, (Pt 3)), (6, (sI o2.1)), (8, (Sr o7)), (35, (Bo ((a1.fWhen.length : Int) == 0)))], [(2, vS 4 (b6 a0)), (3, vS 3 (j4 a1))], 53⟩ ?_ ?_
    ·exact rd 2 [(32, (V.ptr 3 0 2)), (33, (V.sl 0 1 (List.map a7 a1.fWhen)))] rfl rfl <| rl rfl (n7 (e := a7) rfl rfl rfl rfl rfl rfl underlying26) <| b4 rfl
    refine kc rfl rfl (fun hc => ?_) fun hc => ?_
    ·rw [hc]
     refine et b5 <| kg FW rfl (fun (o9 : Str × Int) => ⟨[(4, (Sr o9.1)), (5, (I o9.2))], [], 53⟩) (rd 1 [(36, (Sr o7))] rfl rfl <| rp rfl (E7 rfl rfl rfl) fun v8 => b4 rfl) fun o9 => et n6 ?_
     rfl
    ·rw [hc]
     refine et d6 <| kd FX rfl (fun (o12 : Str) => ⟨[(8, (Sr o7)), (9, (Sr o12))], [], 53⟩) (et (j2 (p := 12) (dk := true) (t := [(2, (Pt 2)), (3, (Pt 3)), (6, (sI o2.1)), (8, (Sr o7)), (35, (Bo false))]) (σ := [(2, vS 4 (b6 a0)), (3, vS 3 (j4 a1))]) (n := 53) rfl (by decide) (by decide) rfl) <| et (j8 (m := 2) (j := 2) (t' := [(2, (Pt 2)), (3, (Pt 3)), (6, (sI o2.1)), (8, (Sr o7)), (35, (Bo false)), (39, (b6 a0)), (40, (sI o2.1))]) rfl rfl rfl) <| et (c8 (x := (idx o2.1 0)) (w := fun v10 => (Pr (I v10))) rfl rfl rfl rfl rfl (i2 (e := I) rfl rfl rfl underlying58 rfl (by decide))) <| j5 fun v10 => et (i7 (m := 3) (j := 6) (t' := [(2, (Pt 2)), (3, (Pt 3)), (6, (sI o2.1)), (8, (Sr o7)), (35, (Bo false)), (39, (b6 a0)), (40, (sI o2.1)), (41, (Pr (I v10))), (42, (I v10)), (43, (V.ptr 3 0 2)), (44, (V.sl 0 1 (List.map a7 a1.fWhen)))]) rfl rfl rfl) <| et (c8 (x := (K4 k a0 v10 a1.fWhen)) (w := fun v11 => (V.tup [(Sr v11.1), (I v11.2)])) rfl rfl rfl rfl rfl (d7 rfl rfl rfl rfl rfl (ik k a0 v10 a1.fWhen) (.inl rfl))) <| j5 fun v11 => j9 rfl) fun o12 => kg zq rfl (fun (o16 : Str × Int) => ⟨[(4, (Sr o16.1)), (5, (I o16.2))], [], 53⟩) (rd 1 [(48, (Sr o7))] rfl rfl <| rp rfl (E7 rfl rfl rfl) fun v13 => bd 3 [(49, (Sr v13)), (50, (Sr o12))] rfl rfl <| rp rfl (E7 rfl rfl rfl) fun v14 => bd 4 [(51, (Sr v14))] rfl rfl <| rp rfl (E7 rfl rfl rfl) fun v15 => b4 rfl) fun o16 => et i1 ?_
     rfl
   ·rw [hc]
    refine et d6 <| et b5 <| krp FV rfl ⟨[(2, (Pt 2)), (3, (Pt 3)), (6, (sI o2.1)), (8, (Sr o4)), (35, (Bo ((a1.fWhen.length : Int) == 0)))], [(2, vS 4 (b6 a0)), (3, vS 3 (j4 a1))], 53⟩ ?_ ?_
    ·exact rd 2 [(32, (V.ptr 3 0 2)), (33, (V.sl 0 1 (List.map a7 a1.fWhen)))] rfl rfl <| rl rfl (n7 (e := a7) rfl rfl rfl rfl rfl rfl underlying26) <| b4 rfl
    refine kc rfl rfl (fun hc => ?_) fun hc => ?_
    ·rw [hc]
     refine et b5 <| kg FW rfl (fun (o18 : Str × Int) => ⟨[(4, (Sr o18.1)), (5, (I o18.2))], [], 53⟩) (rd 1 [(36, (Sr o4))] rfl rfl <| rp rfl (E7 rfl rfl rfl) fun v17 => b4 rfl) fun o18 => et n6 ?_
     rfl
    ·rw [hc]
     refine et d6 <| kd FX rfl (fun (o21 : Str) => ⟨[(8, (Sr o4)), (9, (Sr o21))], [], 53⟩) (et (j2 (p := 12) (dk := true) (t := [(2, (Pt 2)), (3, (Pt 3)), (6, (sI o2.1)), (8, (Sr o4)), (35, (Bo false))]) (σ := [(2, vS 4 (b6 a0)), (3, vS 3 (j4 a1))]) (n := 53) rfl (by decide) (by decide) rfl) <| et (j8 (m := 2) (j := 2) (t' := [(2, (Pt 2)), (3, (Pt 3)), (6, (sI o2.1)), (8, (Sr o4)), (35, (Bo false)), (39, (b6 a0)), (40, (sI o2.1))]) rfl rfl rfl) <| et (c8 (x := (idx o2.1 0)) (w := fun v19 => (Pr (I v19))) rfl rfl rfl rfl rfl (i2 (e := I) rfl rfl rfl underlying58 rfl (by decide))) <| j5 fun v19 => et (i7 (m := 3) (j := 6) (t' := [(2, (Pt 2)), (3, (Pt 3)), (6, (sI o2.1)), (8, (Sr o4)), (35, (Bo false)), (39, (b6 a0)), (40, (sI o2.1)), (41, (Pr (I v19))), (42, (I v19)), (43, (V.ptr 3 0 2)), (44, (V.sl 0 1 (List.map a7 a1.fWhen)))]) rfl rfl rfl) <| et (c8 (x := (K4 k a0 v19 a1.fWhen)) (w := fun v20 => (V.tup [(Sr v20.1), (I v20.2)])) rfl rfl rfl rfl rfl (d7 rfl rfl rfl rfl rfl (ik k a0 v19 a1.fWhen) (.inl rfl))) <| j5 fun v20 => j9 rfl) fun o21 => kg zq rfl (fun (o25 : Str × Int) => ⟨[(4, (Sr o25.1)), (5, (I o25.2))], [], 53⟩) (rd 1 [(48, (Sr o4))] rfl rfl <| rp rfl (E7 rfl rfl rfl) fun v22 => bd 3 [(49, (Sr v22)), (50, (Sr o21))] rfl rfl <| rp rfl (E7 rfl rfl rfl) fun v23 => bd 4 [(51, (Sr v23))] rfl rfl <| rp rfl (E7 rfl rfl rfl) fun v24 => b4 rfl) fun o25 => et i1 ?_
     rfl
def iy : Str → V × List V := fun r => (Sr r, [])
theorem de (k : Nat) (s n : Str) : EV k 53 [(Sr s), (Sr n)] = (G2 k s n).map iy := by
 cases k with
 | zero => rfl
 | succ k => exact (lf (ext := ext) (f := 53) rfl).trans rfl
def eL : (a6 × Str × Bool) → V × List V := fun r => (.tup [(d4 r.1), (Sr r.2.1), (Bo r.2.2)], [])
theorem mW (k : Nat) (a0 : b8) (a1 : Str) (o3 : Str)  (K0 : Int → Option (a6 × Str × Bool)) (Kst : X × St → Option (V × List V)) (hK0 : ∀ (y0 : Int), Kst (X.exit 0, ⟨[(1, (Sr a1)), (2, (Pt 2)), (4, (Pt 4)), (29, (Bo false))], [(2, vS 8 (j0 a0)), (4, ⟨false, 3, [(V.agg [(Sr o3), (I y0), (Sr [])])]⟩)], 70⟩) = (K0 y0).map eL) (hret : ∀ s, Kst (X.ret, s) = F3 prog 70 [(j0 a0), (Sr a1)] [] [.cell 4 55, .tmp 5, .tmp 6] (X.ret, s)) :
  ∀ (m : Nat) (x7 : Int), (D1 (u0 prog (EV k) FT k Fc) m ⟨[(1, (Sr a1)), (2, (Pt 2)), (4, (Pt 4))], [(2, vS 8 (j0 a0)), (4, ⟨false, 3, [(V.agg [(Sr o3), (I x7), (Sr [])])]⟩)], 70⟩).bind Kst = (H8 k a1 K0 m x7).map eL := by
 intro m
 induction m with
 | zero => intros; rfl
 | succ m ih =>
  intro x7
  unfold H8
  refine et l9 <| et b5 <| kd EZ rfl (fun (o10 : Bool) => ⟨[(1, (Sr a1)), (2, (Pt 2)), (4, (Pt 4)), (29, (Bo o10))], [(2, vS 8 (j0 a0)), (4, ⟨false, 3, [(V.agg [(Sr o3), (I x7), (Sr [])])]⟩)], 70⟩) ?_ fun o10 => ?_
  ·refine et (j2 (p := 11) (dk := true) (t := [(1, (Sr a1)), (2, (Pt 2)), (4, (Pt 4))]) (σ := [(2, vS 8 (j0 a0)), (4, ⟨false, 3, [(V.agg [(Sr o3), (I x7), (Sr [])])]⟩)]) (n := 70) rfl (by decide) (by decide) rfl) <| et (j8 (m := 4) (j := 4) (t' := [(1, (Sr a1)), (2, (Pt 2)), (4, (Pt 4)), (19, (V.ptr 4 0 1)), (20, (I x7)), (21, (Bo (decide (x7 ≤ 6)))), (22, (Bo (decide (x7 ≤ 6))))]) rfl rfl rfl) <| n5 (fun hc => ?_) fun hc => ?_
   ·rw [hc]
    exact et (j8 (m := 2) (j := 6) (t' := [(1, (Sr a1)), (2, (Pt 2)), (4, (Pt 4)), (19, (V.ptr 4 0 1)), (20, (I x7)), (21, (Bo true)), (22, (Bo true)), (23, (V.ptr 4 0 1)), (24, (I x7))]) rfl rfl rfl) <| et (c8 (x := (aM k x7)) (w := fun v8 => (Sr v8)) rfl rfl rfl rfl rfl (d7 rfl rfl rfl rfl rfl (ap k x7) (.inl rfl))) <| j5 fun v8 => et (i7 (m := 1) (j := 8) (t' := [(1, (Sr a1)), (2, (Pt 2)), (4, (Pt 4)), (19, (V.ptr 4 0 1)), (20, (I x7)), (21, (Bo true)), (22, (Bo true)), (23, (V.ptr 4 0 1)), (24, (I x7)), (25, (Sr v8)), (26, (Sr a1))]) rfl rfl rfl) <| et (c8 (x := (cut a1 8 10)) (w := fun v9 => (Sr v9)) rfl rfl rfl rfl rfl (w6 rfl rfl rfl rfl rfl rfl underlying9)) <| j5 fun v9 => j9 rfl
   ·rw [hc]
    exact j9 rfl
  refine kc rfl rfl (fun hc => ?_) fun hc => ?_
  ·rw [hc]
   exact et d6 <| et (G7 rfl) <| kl ⟨[(1, (Sr a1)), (2, (Pt 2)), (4, (Pt 4))], [(2, vS 8 (j0 a0)), (4, ⟨false, 3, [(V.agg [(Sr o3), (I (Go.IntKind.wrap .i64 (x7 + 1))), (Sr [])])]⟩)], 70⟩ rfl <| et i6 <| et m9 <| et i3 <| ih (Go.IntKind.wrap .i64 (x7 + 1))
  ·rw [hc]
   exact et p7 <| et j3 <| hK0 x7
theorem fO (k : Nat) (a0 : b8) (a1 : Str) : EV k 94 [(j0 a0), (Sr a1)] = (eK k a0 a1).map eL := by
 cases k with
 | zero => rfl
 | succ k =>
  unfold eK
  refine et (i5 (c := f94c) (N := 70) (regs := FT) rfl func94 rfl (by decide) rfl rfl rfl) <| kr ⟨[(1, (Sr a1)), (2, (Pt 2)), (4, (Pt 4))], [(2, vS 8 (j0 a0)), (4, ⟨false, 3, [(V.agg [(Sr []), (I 0), (Sr [])])]⟩)], 70⟩ rfl <| et b5 <| kra [(12, (Bo (decide ((a1.length : Int) < 10))))] rfl <| kc rfl rfl (fun hc => ?_) fun hc => ?_
  ·rw [hc]
   refine et b5 <| kr ⟨[(4, (Pt 4)), (5, (Sr ([] : Str))), (6, (Bo false))], [(4, ⟨false, 3, [(d4 ({ fField := [], fOp := 0, fValue := [] } : a6))]⟩)], 70⟩ rfl <| et n6 ?_
   rfl
  ·rw [hc]
   refine et d6 <| kg EY rfl (fun (o3 : Str) => ⟨[(1, (Sr a1)), (2, (Pt 2)), (4, (Pt 4))], [(2, vS 8 (j0 a0)), (4, ⟨false, 3, [(V.agg [(Sr o3), (I 0), (Sr [])])]⟩)], 70⟩) (rd 1 [(14, (Sr a1))] rfl rfl <| rp rfl (w6 rfl rfl rfl rfl rfl rfl underlying9) fun v1 => bd 2 [(15, (Sr v1))] rfl rfl <| rs rfl (d7 rfl rfl rfl rfl rfl (de k v1 ([32] : Str)) (.inl rfl)) fun v2 => b4 rfl) fun o3 => kr ⟨[(1, (Sr a1)), (2, (Pt 2)), (4, (Pt 4))], [(2, vS 8 (j0 a0)), (4, ⟨false, 3, [(V.agg [(Sr o3), (I 1), (Sr [])])]⟩)], 70⟩ rfl <| et (i8 rfl) <| et p8 ?_
   refine mW k a0 a1 o3 _ _ ?h_match_take_L1_0 ?hr_match_take_L1 k 1
   ·intro y11
    refine et j6 <| kg Fa rfl (fun (o13 : Int × Bool) => ⟨[(1, (Sr a1)), (2, (Pt 2)), (4, (Pt 4)), (7, (I o13.1)), (8, (Bo o13.2))], [(2, vS 8 (j0 a0)), (4, ⟨false, 3, [(V.agg [(Sr o3), (I y11), (Sr [])])]⟩)], 70⟩) (rd 3 [(35, (j0 a0)), (36, (Pt 4)), (37, (Sr o3))] rfl rfl <| rp rfl (d7 rfl rfl rfl rfl rfl (Y0 k a0 o3) (.inl rfl)) fun v12 => b4 rfl) fun o13 => et b5 <| kg Fb rfl (fun (o14 : Bool) => ⟨[(1, (Sr a1)), (2, (Pt 2)), (4, (Pt 4)), (7, (I o13.1)), (47, (Bo o14))], [(2, vS 8 (j0 a0)), (4, ⟨false, 3, [(V.agg [(Sr o3), (I y11), (Sr [])])]⟩)], 70⟩) ?_ fun o14 => ?_
    ·refine rd 3 [(41, (Bo o13.2)), (42, (Bo (!o13.2))), (43, (Bo (!o13.2)))] rfl rfl <| n5 (fun hc => ?_) fun hc => ?_
     ·rw [hc]
      exact d5 rfl
     ·rw [hc]
      exact d5 rfl
    refine kc rfl rfl (fun hc => ?_) fun hc => ?_
    ·rw [hc]
     refine et b5 <| kr ⟨[(4, (Pt 4)), (5, (Sr ([] : Str))), (6, (Bo false))], [(4, ⟨false, 3, [(d4 ({ fField := [], fOp := 0, fValue := [] } : a6))]⟩)], 70⟩ rfl <| et n6 ?_
     rfl
    ·rw [hc]
     refine et d6 <| kg zl rfl (fun (o16 : Str) => ⟨[(1, (Sr o16)), (2, (Pt 2)), (4, (Pt 4)), (7, (I o13.1))], [(2, vS 8 (j0 a0)), (4, ⟨false, 3, [(V.agg [(Sr o3), (I y11), (Sr [])])]⟩)], 70⟩) (rd 1 [(49, (Sr a1))] rfl rfl <| rs rfl (w6 rfl rfl rfl rfl rfl rfl underlying9) fun v15 => b4 rfl) fun o16 => kg zm rfl (fun (o18 : Int) => ⟨[(1, (Sr o16)), (4, (Pt 4)), (9, (I o18))], [(4, ⟨false, 3, [(V.agg [(Sr o3), (I y11), (Sr [])])]⟩)], 70⟩) (rd 3 [(51, (V.ptr 2 0 4)), (52, (k0 a0.fFields)), (53, (I o13.1))] rfl rfl <| rp rfl (i2 (e := l6) rfl rfl rfl underlying46 rfl (by decide)) fun v17 => b4 rfl) fun o18 => et b5 <| kra [(60, (Bo (decide ((o16.length : Int) < o18))))] rfl <| kc rfl rfl (fun hc => ?_) fun hc => ?_
     ·rw [hc]
      refine et b5 <| kr ⟨[(4, (Pt 4)), (5, (Sr ([] : Str))), (6, (Bo false))], [(4, ⟨false, 3, [(d4 ({ fField := [], fOp := 0, fValue := [] } : a6))]⟩)], 70⟩ rfl <| et n6 ?_
      rfl
     ·rw [hc]
      refine et d6 <| kg zn rfl (fun (o20 : Str) => ⟨[(1, (Sr o16)), (4, (Pt 4)), (9, (I o18))], [(4, ⟨false, 3, [(V.agg [(Sr o3), (I y11), (Sr o20)])]⟩)], 70⟩) (rd 2 [(62, (Sr o16)), (63, (I o18))] rfl rfl <| rs rfl (w6 rfl rfl rfl rfl rfl rfl underlying9) fun v19 => b4 rfl) fun o20 => kd zo rfl (fun (o22 : Str × Bool × a6) => ⟨[(4, (Pt 4)), (5, (Sr o22.1)), (6, (Bo o22.2.1))], [(4, vS 3 (d4 o22.2.2))], 70⟩) (et (j2 (p := 4) (dk := false) (t := [(1, (Sr o16)), (4, (Pt 4)), (9, (I o18))]) (σ := [(4, ⟨false, 3, [(V.agg [(Sr o3), (I y11), (Sr o20)])]⟩)]) (n := 70) rfl (by decide) (by decide) rfl) <| et (j8 (m := 3) (j := 3) (t' := [(1, (Sr o16)), (4, (Pt 4)), (9, (I o18)), (66, (d4 ({ fField := o3, fOp := y11, fValue := o20 } : a6))), (67, (Sr o16)), (68, (I o18))]) rfl rfl rfl) <| et (c8 (x := (cut o16 o18 (o16.length : Int))) (w := fun v21 => (Sr v21)) rfl rfl rfl rfl rfl (w6 rfl rfl rfl rfl rfl rfl underlying9)) <| j5 fun v21 => j9 rfl) fun o22 => et i1 ?_
      rfl
   ·intro s; exact rfl
def di : ((List (List a6)) × Int) → V × List V := fun r => (.tup [(V.sl 0 1 (List.map a7 r.1)), (I r.2)], [])
theorem lA (k : Nat) (a0 : a8) (a1 : Int) (a2 : Str)  (K0 : Str → (List (List a6)) → Option ((List (List a6)) × Int)) (Kst : X × St → Option (V × List V)) (hK0 : ∀ (y0 : Str) (y1 : (List (List a6))), Kst (X.exit 0, ⟨[(1, (I a1)), (3, (Pt 3)), (9, (V.aref 22 0 (List.map (fun x => (V.sl 1 3 (List.map d4 x))) y1).length)), (12, (Sr y0)), (52, (Bo true))], [(3, vS 4 (b6 a0)), (22, ⟨true, 1, List.map (fun x => (V.sl 1 3 (List.map d4 x))) y1⟩)], 73⟩) = (K0 y0 y1).map di) (hret : ∀ s, Kst (X.ret, s) = F3 prog 73 [(b6 a0), (I a1), (Sr a2)] [] [.tmp 6, .tmp 7] (X.ret, s)) :
  ∀ (m : Nat) (x20 : Str) (x21 : (List (List a6))), (D1 (u0 prog (EV k) FH k DE) m ⟨[(1, (I a1)), (3, (Pt 3)), (9, (V.aref 22 0 (List.map (fun x => (V.sl 1 3 (List.map d4 x))) x21).length)), (10, (Sr x20))], [(3, vS 4 (b6 a0)), (22, ⟨true, 1, List.map (fun x => (V.sl 1 3 (List.map d4 x))) x21⟩)], 73⟩).bind Kst = (M5 k a0 a1 K0 m x20 x21).map di := by
 intro m
 induction m with
 | zero => intros; rfl
 | succ m ih =>
  intro x20 x21
  unfold M5
  refine et l9 <| et (G7 rfl) <| kg DD rfl (fun (o24 : Str × Bool × a6) => ⟨[(1, (I a1)), (3, (Pt 3)), (9, (V.aref 22 0 (List.map (fun x => (V.sl 1 3 (List.map d4 x))) x21).length)), (11, (Pt 11)), (12, (Sr o24.1)), (13, (Bo o24.2.1))], [(3, vS 4 (b6 a0)), (11, vS 3 (d4 o24.2.2)), (22, ⟨true, 1, List.map (fun x => (V.sl 1 3 (List.map d4 x))) x21⟩)], 73⟩) (rd 3 [(25, (V.ptr 3 0 2)), (26, (l7 a0.fTypes)), (27, (I a1))] rfl rfl <| rp rfl (i2 (e := j0) rfl rfl rfl underlying22 rfl (by decide)) fun v22 => bd 6 [(28, (Pr (j0 v22))), (29, (j0 v22)), (30, (Sr x20))] rfl rfl <| rp rfl (d7 rfl rfl rfl rfl rfl (fO k v22 x20) (.inl rfl)) fun v23 => b4 rfl) fun o24 => et b5 <| kr ⟨[(1, (I a1)), (3, (Pt 3)), (9, (V.aref 22 0 (List.map (fun x => (V.sl 1 3 (List.map d4 x))) x21).length)), (11, (Pt 11)), (12, (Sr o24.1)), (36, (Bo (!o24.2.1)))], [(3, vS 4 (b6 a0)), (11, vS 3 (d4 o24.2.2)), (22, ⟨true, 1, List.map (fun x => (V.sl 1 3 (List.map d4 x))) x21⟩)], 73⟩ rfl <| kc rfl rfl (fun hc => ?_) fun hc => ?_
  ·rw [hc]
   refine et b5 <| kr ⟨[(6, (V.sl 0 1 (List.map a7 ([] : List (List a6))))), (7, (I 3))], [], 73⟩ rfl <| et n6 <| et l5 <| et l8 <| et (hret _) ?_
   rfl
  ·rw [hc]
   refine et d6 <| kd yX rfl (fun (o30 : (List (List a6))) => ⟨[(1, (I a1)), (3, (Pt 3)), (9, (V.aref 22 0 (List.map (fun x => (V.sl 1 3 (List.map d4 x))) o30).length)), (12, (Sr o24.1))], [(3, vS 4 (b6 a0)), (22, ⟨true, 1, List.map (fun x => (V.sl 1 3 (List.map d4 x))) o30⟩)], 73⟩) ?_ fun o30 => ?_
   ·refine et (sy (by decide)) <| rd 2 [(37, (V.aref 22 0 (List.map (fun x => (V.sl 1 3 (List.map d4 x))) x21).length)), (38, (V.aref 22 0 (List.map (fun x => (V.sl 1 3 (List.map d4 x))) x21).length))] rfl rfl <| rl rfl (uZ (e := (fun x => (V.sl 1 3 (List.map d4 x)))) rfl rfl rfl rfl rfl rfl underlying26) <| bd 6 [(39, (I (x21.length : Int))), (40, (I (Go.IntKind.wrap .i64 ((x21.length : Int) - 1)))), (41, (V.aref 22 0 (List.map (fun x => (V.sl 1 3 (List.map d4 x))) x21).length)), (42, (V.aref 22 0 (List.map (fun x => (V.sl 1 3 (List.map d4 x))) x21).length))] rfl rfl <| rl rfl (uZ (e := (fun x => (V.sl 1 3 (List.map d4 x)))) rfl rfl rfl rfl rfl rfl underlying26) <| bd 8 [(43, (I (x21.length : Int))), (44, (I (Go.IntKind.wrap .i64 ((x21.length : Int) - 1))))] rfl rfl <| rp rfl (zW (e := (fun x => (V.sl 1 3 (List.map d4 x)))) rfl rfl rfl underlying26 rfl rfl (by decide)) fun v25 => bd 9 [(45, (V.ptr 22 (0 + (Go.IntKind.wrap .i64 ((x21.length : Int) - 1)).toNat) 0))] rfl rfl <| et (Q1 (x := (x21[0 + (Go.IntKind.wrap .i64 ((x21.length : Int) - 1)).toNat]?)) (w := fun v26 => ((V.sl 1 3 (List.map d4 v26)), _)) rfl rfl rfl rfl (Bf (e := (fun x => (V.sl 1 3 (List.map d4 x)))) (e' := a7) rfl rfl rfl rfl (fun _ => rfl) (fun _ => rfl))) ?_
    refine j5 fun v26 => ba 2 12 ⟨[(1, (I a1)), (3, (Pt 3)), (9, (V.aref 22 0 (List.map (fun x => (V.sl 1 3 (List.map d4 x))) x21).length)), (11, (Pt 11)), (12, (Sr o24.1)), (36, (Bo false)), (37, (V.aref 22 0 (List.map (fun x => (V.sl 1 3 (List.map d4 x))) x21).length)), (38, (V.aref 22 0 (List.map (fun x => (V.sl 1 3 (List.map d4 x))) x21).length)), (39, (I (x21.length : Int))), (40, (I (Go.IntKind.wrap .i64 ((x21.length : Int) - 1)))), (41, (V.aref 22 0 (List.map (fun x => (V.sl 1 3 (List.map d4 x))) x21).length)), (42, (V.aref 22 0 (List.map (fun x => (V.sl 1 3 (List.map d4 x))) x21).length)), (43, (I (x21.length : Int))), (44, (I (Go.IntKind.wrap .i64 ((x21.length : Int) - 1)))), (45, (V.ptr 22 (0 + (Go.IntKind.wrap .i64 ((x21.length : Int) - 1)).toNat) 0)), (46, (V.sl 1 3 (List.map d4 v26))), (47, (d4 o24.2.2)), (48, (a7 (([o24.2.2] : List a6))))], [(3, vS 4 (b6 a0)), (11, vS 3 (d4 o24.2.2)), (22, ⟨true, 1, (List.map (fun x => (V.sl 1 3 (List.map d4 x))) x21).set (0 + (Go.IntKind.wrap .i64 ((x21.length : Int) - 1)).toNat) (a7 v26)⟩)], 73⟩ rfl rfl rfl <| et (Q1 (x := (app v26 ([o24.2.2] : List a6))) (w := fun v27 => ((V.sl 1 3 (List.map d4 v27)), _)) rfl rfl rfl rfl (nL (e := d4) rfl rfl rfl rfl rfl rfl rfl rfl rfl rfl (by decide))) <| j5 fun v27 => ba 0 13 ⟨[(1, (I a1)), (3, (Pt 3)), (9, (V.aref 22 0 (List.map (fun x => (V.sl 1 3 (List.map d4 x))) x21).length)), (11, (Pt 11)), (12, (Sr o24.1)), (36, (Bo false)), (37, (V.aref 22 0 (List.map (fun x => (V.sl 1 3 (List.map d4 x))) x21).length)), (38, (V.aref 22 0 (List.map (fun x => (V.sl 1 3 (List.map d4 x))) x21).length)), (39, (I (x21.length : Int))), (40, (I (Go.IntKind.wrap .i64 ((x21.length : Int) - 1)))), (41, (V.aref 22 0 (List.map (fun x => (V.sl 1 3 (List.map d4 x))) x21).length)), (42, (V.aref 22 0 (List.map (fun x => (V.sl 1 3 (List.map d4 x))) x21).length)), (43, (I (x21.length : Int))), (44, (I (Go.IntKind.wrap .i64 ((x21.length : Int) - 1)))), (45, (V.ptr 22 (0 + (Go.IntKind.wrap .i64 ((x21.length : Int) - 1)).toNat) 0)), (46, (a7 v26)), (47, (d4 o24.2.2)), (48, (a7 (([o24.2.2] : List a6)))), (49, (V.sl 1 3 (List.map d4 v27)))], [(3, vS 4 (b6 a0)), (11, vS 3 (d4 o24.2.2)), (22, ⟨true, 1, (List.map (fun x => (V.sl 1 3 (List.map d4 x))) x21).set (0 + (Go.IntKind.wrap .i64 ((x21.length : Int) - 1)).toNat) (a7 v26)⟩)], 73⟩ rfl rfl rfl <| rp rfl (zX (l := x21) (e := (fun x => (V.sl 1 3 (List.map d4 x)))) rfl rfl rfl underlying26 rfl rfl (by decide)) fun v28 => bd 14 [(50, (V.ptr 22 (0 + (Go.IntKind.wrap .i64 ((x21.length : Int) - 1)).toNat) 0))] rfl rfl <| et (Q1 (x := (x21[0 + (Go.IntKind.wrap .i64 ((x21.length : Int) - 1)).toNat]?)) (w := fun _ => (V.tup [], _)) rfl rfl rfl rfl (zZ (S := (fun n_ => ⟨[(1, (I a1)), (3, (Pt 3)), (9, (V.aref 22 0 n_)), (11, (Pt 11)), (12, (Sr o24.1)), (36, (Bo false)), (37, (V.aref 22 0 n_)), (38, (V.aref 22 0 n_)), (39, (I (x21.length : Int))), (40, (I (Go.IntKind.wrap .i64 ((x21.length : Int) - 1)))), (41, (V.aref 22 0 n_)), (42, (V.aref 22 0 n_)), (43, (I (x21.length : Int))), (44, (I (Go.IntKind.wrap .i64 ((x21.length : Int) - 1)))), (45, (V.ptr 22 (0 + (Go.IntKind.wrap .i64 ((x21.length : Int) - 1)).toNat) 0)), (46, (a7 v26)), (47, (d4 o24.2.2)), (48, (a7 (([o24.2.2] : List a6)))), (49, (V.sl 1 3 (List.map d4 v27))), (50, (V.ptr 22 (0 + (Go.IntKind.wrap .i64 ((x21.length : Int) - 1)).toNat) 0))], [(3, vS 4 (b6 a0)), (11, vS 3 (d4 o24.2.2)), (22, ⟨true, 1, (List.map (fun x => (V.sl 1 3 (List.map d4 x))) x21).set (0 + (Go.IntKind.wrap .i64 ((x21.length : Int) - 1)).toNat) (a7 v26)⟩)], 73⟩)) (e := (fun x => (V.sl 1 3 (List.map d4 x)))) (l := x21) (v := v27) rfl rfl rfl rfl rfl rfl rfl rfl rfl rfl rfl)) ?_
    exact j5 fun v29 => b4 rfl
   refine et b5 <| kra [(52, (Bo (o24.1 == ([] : Str))))] rfl <| kc rfl rfl (fun hc => ?_) fun hc => ?_
   ·rw [hc]
    exact et p7 <| et (vY rfl) <| et j3 <| hK0 o24.1 o30
   ·rw [hc]
    refine et d6 <| et b5 <| kg yY rfl (fun (o32 : Int) => ⟨[(1, (I a1)), (3, (Pt 3)), (9, (V.aref 22 0 (List.map (fun x => (V.sl 1 3 (List.map d4 x))) o30).length)), (12, (Sr o24.1)), (54, (V.int .u8 o32))], [(3, vS 4 (b6 a0)), (22, ⟨true, 1, List.map (fun x => (V.sl 1 3 (List.map d4 x))) o30⟩)], 73⟩) (rd 1 [(53, (Sr o24.1))] rfl rfl <| rs rfl (w5 rfl rfl rfl underlying9) fun v31 => b4 rfl) fun o32 => et (i8 rfl) <| kra [(55, (Bo (o32 == 38)))] rfl <| kcl rfl rfl (fun hc => ?_) fun hc => ?_
    ·rw [hc]
     exact et m9 <| et i6 <| kgl uA rfl (fun (o34 : Str) => ⟨[(1, (I a1)), (3, (Pt 3)), (9, (V.aref 22 0 (List.map (fun x => (V.sl 1 3 (List.map d4 x))) o30).length)), (10, (Sr o34))], [(3, vS 4 (b6 a0)), (22, ⟨true, 1, List.map (fun x => (V.sl 1 3 (List.map d4 x))) o30⟩)], 73⟩) (rd 1 [(62, (Sr o24.1))] rfl rfl <| rs rfl (w6 rfl rfl rfl rfl rfl rfl underlying9) fun v33 => b4 rfl) fun o34 => et i6 <| et m9 <| et i3 <| ih o34 o30
    ·rw [hc]
     refine kr ⟨[(1, (I a1)), (3, (Pt 3)), (9, (V.aref 22 0 (List.map (fun x => (V.sl 1 3 (List.map d4 x))) o30).length)), (12, (Sr o24.1)), (57, (Bo (o32 == 124)))], [(3, vS 4 (b6 a0)), (22, ⟨true, 1, List.map (fun x => (V.sl 1 3 (List.map d4 x))) o30⟩)], 73⟩ rfl <| kcl rfl rfl (fun hc => ?_) fun hc => ?_
     ·rw [hc]
      exact kgl yZ rfl (fun (o36 : (List (List a6))) => ⟨[(1, (I a1)), (3, (Pt 3)), (9, (V.aref 22 0 (List.map (fun x => (V.sl 1 3 (List.map d4 x))) o36).length)), (12, (Sr o24.1))], [(3, vS 4 (b6 a0)), (22, ⟨true, 1, List.map (fun x => (V.sl 1 3 (List.map d4 x))) o36⟩)], 73⟩) (rd 2 [(59, (V.aref 22 0 (List.map (fun x => (V.sl 1 3 (List.map d4 x))) o30).length)), (60, (V.sl 0 1 (List.map (fun x => (V.sl 1 3 (List.map d4 x))) ([([] : List a6)] : List (List a6)))))] rfl rfl <| et (Q1 (x := (app o30 ([([] : List a6)] : List (List a6)))) (w := fun v35 => ((V.aref 22 0 (List.map (fun x => (V.sl 1 3 (List.map d4 x))) v35).length), _)) rfl rfl rfl rfl (uX (e := (fun x => (V.sl 1 3 (List.map d4 x)))) (l := o30) rfl rfl rfl rfl rfl rfl rfl rfl rfl rfl rfl (of_decide_eq_true rfl))) <| B6 fun v35 => b4 rfl) fun o36 => et i6 <| kgl uA rfl (fun (o38 : Str) => ⟨[(1, (I a1)), (3, (Pt 3)), (9, (V.aref 22 0 (List.map (fun x => (V.sl 1 3 (List.map d4 x))) o36).length)), (10, (Sr o38))], [(3, vS 4 (b6 a0)), (22, ⟨true, 1, List.map (fun x => (V.sl 1 3 (List.map d4 x))) o36⟩)], 73⟩) (rd 1 [(62, (Sr o24.1))] rfl rfl <| rs rfl (w6 rfl rfl rfl rfl rfl rfl underlying9) fun v37 => b4 rfl) fun o38 => et i6 <| et m9 <| et i3 <| ih o38 o36
     ·rw [hc]
      refine kr ⟨[(6, (V.sl 0 1 (List.map a7 ([] : List (List a6))))), (7, (I 3))], [], 73⟩ rfl <| et i1 <| et l5 <| et l5 <| et l8 <| et (hret _) ?_
      rfl
theorem iV (k : Nat) (a0 : a8) (a1 : Int) (a2 : Str) : EV k 55 [(b6 a0), (I a1), (Sr a2)] = (P6 k a0 a1 a2).map di := by
 cases k with
 | zero => rfl
 | succ k =>
  unfold P6
  refine et (i5 (c := f55c) (N := 73) (regs := FH) rfl func55 rfl (by decide) rfl rfl rfl) <| kr ⟨[(1, (I a1)), (2, (Sr a2)), (3, (Pt 3))], [(3, vS 4 (b6 a0))], 73⟩ rfl <| et b5 <| kga DC rfl (fun (o2 : Int) => [(8, (I o2))]) (rd 2 [(14, (b6 a0)), (15, (I a1))] rfl rfl <| rs rfl (d7 rfl rfl rfl rfl rfl (M6 k a0 a1) (.inl rfl)) fun v1 => b4 rfl) fun o2 => et b5 <| kra [(18, (Bo (o2 != 0)))] rfl <| kc rfl rfl (fun hc => ?_) fun hc => ?_
  ·rw [hc]
   refine et b5 <| kr ⟨[(6, (V.sl 0 1 (List.map a7 ([] : List (List a6))))), (7, (I o2))], [], 73⟩ rfl <| et n6 ?_
   rfl
  ·rw [hc]
   refine et d6 <| et b5 <| kr ⟨[(1, (I a1)), (2, (Sr a2)), (3, (Pt 3)), (21, (Bo (a2 == ([] : Str))))], [(3, vS 4 (b6 a0))], 73⟩ rfl <| kc rfl rfl (fun hc => ?_) fun hc => ?_
   ·rw [hc]
    refine et b5 <| kr ⟨[(6, (V.sl 0 1 (List.map a7 ([] : List (List a6))))), (7, (I 0))], [], 73⟩ rfl <| et n6 ?_
    rfl
   ·rw [hc]
    refine et d6 <| kr ⟨[(1, (I a1)), (2, (Sr a2)), (3, (Pt 3)), (9, (V.aref 22 0 (List.map (fun x => (V.sl 1 3 (List.map d4 x))) ([([] : List a6)] : List (List a6))).length)), (22, (V.aref 22 0 (List.map (fun x => (V.sl 1 3 (List.map d4 x))) ([([] : List a6)] : List (List a6))).length))], [(3, vS 4 (b6 a0)), (22, ⟨true, 1, List.map (fun x => (V.sl 1 3 (List.map d4 x))) ([([] : List a6)] : List (List a6))⟩)], 73⟩ rfl <| et b5 <| kr ⟨[(1, (I a1)), (3, (Pt 3)), (9, (V.aref 22 0 (List.map (fun x => (V.sl 1 3 (List.map d4 x))) ([([] : List a6)] : List (List a6))).length)), (10, (Sr a2)), (22, (V.aref 22 0 (List.map (fun x => (V.sl 1 3 (List.map d4 x))) ([([] : List a6)] : List (List a6))).length))], [(3, vS 4 (b6 a0)), (22, ⟨true, 1, List.map (fun x => (V.sl 1 3 (List.map d4 x))) ([([] : List a6)] : List (List a6))⟩)], 73⟩ rfl <| et (tm (st' := ⟨[(1, (I a1)), (3, (Pt 3)), (9, (V.aref 22 0 (List.map (fun x => (V.sl 1 3 (List.map d4 x))) ([([] : List a6)] : List (List a6))).length)), (10, (Sr a2))], [(3, vS 4 (b6 a0)), (22, ⟨true, 1, List.map (fun x => (V.sl 1 3 (List.map d4 x))) ([([] : List a6)] : List (List a6))⟩)], 73⟩) rfl) <| et p8 ?_
    refine lA k a0 a1 a2 _ _ ?h_match_Parse_L1_0 ?hr_match_Parse_L1 k a2 ([([] : List a6)] : List (List a6))
    ·intro y39 y40
     refine et j6 <| et b5 <| kg za rfl (fun (o43 : Bool) => ⟨[(9, (V.aref 22 0 (List.map (fun x => (V.sl 1 3 (List.map d4 x))) y40).length)), (71, (Bo o43))], [(22, ⟨true, 1, List.map (fun x => (V.sl 1 3 (List.map d4 x))) y40⟩)], 73⟩) (rd 3 [(64, (V.ptr 3 0 2)), (65, (l7 a0.fTypes)), (66, (I a1))] rfl rfl <| rp rfl (i2 (e := j0) rfl rfl rfl underlying22 rfl (by decide)) fun v41 => bd 6 [(67, (Pr (j0 v41))), (68, (j0 v41)), (69, (V.aref 22 0 (List.map (fun x => (V.sl 1 3 (List.map d4 x))) y40).length))] rfl rfl <| rp rfl (d7 rfl rfl rfl rfl (qx rfl (by intro s i q h; cases h) (qx (Fq (e := (fun x => (V.sl 1 3 (List.map d4 x)))) (e' := a7) (fun _ => rfl) rfl) (by intro s i q h; cases h) rfl)) (M7 k v41 y40) (.inr (fun _ => rfl))) fun v42 => b4 rfl) fun o43 => kc rfl rfl (fun hc => ?_) fun hc => ?_
     ·rw [hc]
      refine et b5 <| kr ⟨[(6, (V.sl 0 1 (List.map a7 ([] : List (List a6))))), (7, (I 3))], [], 73⟩ rfl <| et n6 ?_
      rfl
     ·rw [hc]
      refine et d6 <| krp zb rfl ⟨[(6, (V.sl 0 1 (List.map a7 y40))), (7, (I 0))], [], 73⟩ ?_ ?_
      ·exact rd 1 [(72, (V.aref 22 0 (List.map (fun x => (V.sl 1 3 (List.map d4 x))) y40).length))] rfl rfl <| et (Q1 (x := some ()) (w := fun _ => ((V.sl 2 1 (List.map a7 y40)), _)) rfl rfl rfl rfl (zU (e := (fun x => (V.sl 1 3 (List.map d4 x)))) (e' := a7) rfl rfl rfl rfl rfl (of_decide_eq_true rfl) (fun _ => rfl))) <| et ag <| b4 rfl
      refine et i1 ?_
      rfl
    ·intro s; exact rfl
def fU : (b7 × Bool) → V × List V := fun r => (.tup [(j4 r.1), (Bo r.2)], [])
theorem ot (k : Nat) (a0 : a8) (a1 : Str) (o3 : b7) (o5 : Str)  (K0 : Int → Option (b7 × Bool)) (Kst : X × St → Option (V × List V)) (hK0 : ∀ (y0 : Int), Kst (X.exit 0, ⟨[(1, (Sr a1)), (2, (Pt 2)), (4, (Pt 4)), (6, (Pt 6)), (7, (Sr o5)), (8, (I y0)), (36, (Bo false))], [(2, vS 4 (b6 a0)), (4, ⟨false, 3, [(V.agg [(Sr []), (Sr []), (V.sl 2 1 (List.map a7 ([] : List (List a6))))])]⟩), (6, vS 3 (j4 o3))], 100⟩) = (K0 y0).map fU) (hret : ∀ s, Kst (X.ret, s) = F3 prog 100 [(b6 a0), (Sr a1)] [] [.cell 4 28, .tmp 5] (X.ret, s)) :
  ∀ (m : Nat) (x11 : Int), (D1 (u0 prog (EV k) FA k Cq) m ⟨[(1, (Sr a1)), (2, (Pt 2)), (4, (Pt 4)), (6, (Pt 6)), (7, (Sr o5)), (8, (I x11))], [(2, vS 4 (b6 a0)), (4, ⟨false, 3, [(V.agg [(Sr []), (Sr []), (V.sl 2 1 (List.map a7 ([] : List (List a6))))])]⟩), (6, vS 3 (j4 o3))], 100⟩).bind Kst = (Q3 k o5 K0 m x11).map fU := by
 intro m
 induction m with
 | zero => intros; rfl
 | succ m ih =>
  intro x11
  unfold Q3
  refine et l9 <| et b5 <| kga Co rfl (fun (o14 : Bool) => [(36, (Bo o14))]) ?_ fun o14 => ?_
  ·refine rd 5 [(26, (I x11)), (27, (Sr o5)), (28, (I (o5.length : Int))), (29, (Bo (decide (x11 < (o5.length : Int))))), (30, (Bo (decide (x11 < (o5.length : Int)))))] rfl rfl <| n5 (fun hc => ?_) fun hc => ?_
   ·rw [hc]
    exact rd 7 [(31, (Sr o5)), (32, (I x11))] rfl rfl <| rp rfl (w5 rfl rfl rfl underlying9) fun v12 => bd 8 [(33, (V.int .u8 v12))] rfl rfl <| rp rfl (d7 rfl rfl rfl rfl rfl (dd k ([68, 76, 80] : Str) v12) (.inl rfl)) fun v13 => b4 rfl
   ·rw [hc]
    exact d5 rfl
  refine kc rfl rfl (fun hc => ?_) fun hc => ?_
  ·rw [hc]
   exact et d6 <| et (G7 rfl) <| kl ⟨[(1, (Sr a1)), (2, (Pt 2)), (4, (Pt 4)), (6, (Pt 6)), (7, (Sr o5)), (8, (I (Go.IntKind.wrap .i64 (x11 + 1))))], [(2, vS 4 (b6 a0)), (4, ⟨false, 3, [(V.agg [(Sr []), (Sr []), (V.sl 2 1 (List.map a7 ([] : List (List a6))))])]⟩), (6, vS 3 (j4 o3))], 100⟩ rfl <| et i6 <| et m9 <| et i3 <| ih (Go.IntKind.wrap .i64 (x11 + 1))
  ·rw [hc]
   exact et p7 <| et j3 <| hK0 x11
theorem sE (k : Nat) (a0 : a8) (a1 : Str) : EV k 29 [(b6 a0), (Sr a1)] = (gu k a0 a1).map fU := by
 cases k with
 | zero => rfl
 | succ k =>
  unfold gu
  refine et (i5 (c := f29c) (N := 100) (regs := FA) rfl func29 rfl (by decide) rfl rfl rfl) <| kr ⟨[(1, (Sr a1)), (2, (Pt 2)), (4, (Pt 4))], [(2, vS 4 (b6 a0)), (4, ⟨false, 3, [(V.agg [(Sr []), (Sr []), (V.sl 2 1 (List.map a7 ([] : List (List a6))))])]⟩)], 100⟩ rfl <| et b5 <| kra [(15, (Bo (decide ((a1.length : Int) ≤ 8))))] rfl <| kc rfl rfl (fun hc => ?_) fun hc => ?_
  ·rw [hc]
   refine et b5 <| kr ⟨[(4, (Pt 4)), (5, (Bo false))], [(4, ⟨false, 3, [(j4 ({ fSegment := [], fCodes := [], fWhen := ([] : List (List a6)) } : b7))]⟩)], 100⟩ rfl <| et n6 ?_
   rfl
  ·rw [hc]
   refine et d6 <| kg Cl rfl (fun (o3 : b7) => ⟨[(1, (Sr a1)), (2, (Pt 2)), (4, (Pt 4)), (6, (Pt 6))], [(2, vS 4 (b6 a0)), (4, ⟨false, 3, [(V.agg [(Sr []), (Sr []), (V.sl 2 1 (List.map a7 ([] : List (List a6))))])]⟩), (6, vS 3 (j4 o3))], 100⟩) (rd 1 [(17, (Sr a1))] rfl rfl <| rp rfl (w6 rfl rfl rfl rfl rfl rfl underlying9) fun v1 => bd 2 [(18, (Sr v1))] rfl rfl <| rp rfl (d7 rfl rfl rfl rfl rfl (de k v1 ([32] : Str)) (.inl rfl)) fun v2 => b4 rfl) fun o3 => kga Cm rfl (fun (o5 : Str) => [(7, (Sr o5))]) (rd 1 [(21, (Sr a1))] rfl rfl <| rs rfl (w6 rfl rfl rfl rfl rfl rfl underlying9) fun v4 => b4 rfl) fun o5 => et b5 <| kga Cn rfl (fun (o7 : Bool) => [(25, (Bo o7))]) (rd 1 [(23, (Sr o5))] rfl rfl <| rp rfl (w5 rfl rfl rfl underlying9) fun v6 => b4 rfl) fun o7 => kc rfl rfl (fun hc => ?_) fun hc => ?_
   ·rw [hc]
    refine et b5 <| kr ⟨[(1, (Sr a1)), (2, (Pt 2)), (4, (Pt 4)), (6, (Pt 6)), (7, (Sr o5)), (8, (I 1))], [(2, vS 4 (b6 a0)), (4, ⟨false, 3, [(V.agg [(Sr []), (Sr []), (V.sl 2 1 (List.map a7 ([] : List (List a6))))])]⟩), (6, vS 3 (j4 o3))], 100⟩ rfl <| et b5 <| et (i8 rfl) <| et p8 ?_
    refine ot k a0 a1 o3 o5 _ _ ?h_ssa_parse_L1_0 ?hr_ssa_parse_L1 k 1
    ·intro y15
     refine et j6 <| et b5 <| kg Cp rfl (fun (o17 : b7) => ⟨[(1, (Sr a1)), (2, (Pt 2)), (4, (Pt 4)), (6, (Pt 6)), (7, (Sr o5)), (8, (I y15))], [(2, vS 4 (b6 a0)), (4, ⟨false, 3, [(V.agg [(Sr []), (Sr []), (V.sl 2 1 (List.map a7 ([] : List (List a6))))])]⟩), (6, vS 3 (j4 o17))], 100⟩) (rd 2 [(39, (Sr o5)), (40, (I y15))] rfl rfl <| rp rfl (w6 rfl rfl rfl rfl rfl rfl underlying9) fun v16 => b4 rfl) fun o17 => kg yw rfl (fun (o19 : Str) => ⟨[(1, (Sr a1)), (2, (Pt 2)), (4, (Pt 4)), (6, (Pt 6)), (7, (Sr o19))], [(2, vS 4 (b6 a0)), (4, ⟨false, 3, [(V.agg [(Sr []), (Sr []), (V.sl 2 1 (List.map a7 ([] : List (List a6))))])]⟩), (6, vS 3 (j4 o17))], 100⟩) (rd 2 [(43, (Sr o5)), (44, (I y15))] rfl rfl <| rs rfl (w6 rfl rfl rfl rfl rfl rfl underlying9) fun v18 => b4 rfl) fun o19 => kga uq rfl (fun (o21 : Int × Int) => [(9, (I o21.1)), (10, (I o21.2))]) (rd 3 [(47, (b6 a0)), (48, (Pt 6)), (49, (Sr o17.fSegment))] rfl rfl <| rp rfl (d7 rfl rfl rfl rfl rfl (iI k a0 o17.fSegment) (.inl rfl)) fun v20 => b4 rfl) fun o21 => et b5 <| kra [(54, (Bo (o21.2 != 0)))] rfl <| kc rfl rfl (fun hc => ?_) fun hc => ?_
     ·rw [hc]
      refine et b5 <| kr ⟨[(4, (Pt 4)), (5, (Bo false))], [(4, ⟨false, 3, [(j4 ({ fSegment := [], fCodes := [], fWhen := ([] : List (List a6)) } : b7))]⟩)], 100⟩ rfl <| et n6 ?_
      rfl
     ·rw [hc]
      refine et d6 <| et b5 <| kr ⟨[(1, (Sr a1)), (2, (Pt 2)), (4, (Pt 4)), (6, (Pt 6)), (7, (Sr o19)), (9, (I o21.1)), (10, (I o21.2)), (11, (I (o19.length : Int)))], [(2, vS 4 (b6 a0)), (4, ⟨false, 3, [(V.agg [(Sr []), (Sr []), (V.sl 2 1 (List.map a7 ([] : List (List a6))))])]⟩), (6, vS 3 (j4 o17))], 100⟩ rfl <| et b5 <| kga ur rfl (fun (o24 : Bool) => [(71, (Bo o24))]) ?_ fun o24 => ?_
      ·refine rd 3 [(58, (I (o19.length : Int))), (59, (Bo (decide ((o19.length : Int) > 2)))), (60, (Bo (decide ((o19.length : Int) > 2))))] rfl rfl <| n5 (fun hc => ?_) fun hc => ?_
       ·rw [hc]
        refine rd 4 [(61, (Sr o19))] rfl rfl <| rp rfl (w5 rfl rfl rfl underlying9) fun v22 => bd 8 [(62, (V.int .u8 v22)), (63, (Bo (v22 == 40))), (64, (Bo (v22 == 40))), (65, (Bo (v22 == 40)))] rfl rfl <| n5 (fun hc => ?_) fun hc => ?_
        ·rw [hc]
         exact rd 11 [(66, (Sr o19)), (67, (I (o19.length : Int))), (68, (I (Go.IntKind.wrap .i64 ((o19.length : Int) - 1))))] rfl rfl <| rp rfl (w5 rfl rfl rfl underlying9) fun v23 => b4 rfl
        ·rw [hc]
         exact d5 rfl
       ·rw [hc]
        exact d5 rfl
      refine kc rfl rfl (fun hc => ?_) fun hc => ?_
      ·rw [hc]
       refine kd ut rfl (fun (o27 : Int × b7) => ⟨[(1, (Sr a1)), (2, (Pt 2)), (4, (Pt 4)), (6, (Pt 6)), (10, (I o27.1))], [(2, vS 4 (b6 a0)), (4, ⟨false, 3, [(V.agg [(Sr []), (Sr []), (V.sl 2 1 (List.map a7 ([] : List (List a6))))])]⟩), (6, vS 3 (j4 o27.2))], 100⟩) (et (j2 (p := 11) (dk := false) (t := [(1, (Sr a1)), (2, (Pt 2)), (4, (Pt 4)), (6, (Pt 6)), (7, (Sr o19)), (9, (I o21.1)), (10, (I o21.2)), (11, (I (o19.length : Int))), (71, (Bo true))]) (σ := [(2, vS 4 (b6 a0)), (4, ⟨false, 3, [(V.agg [(Sr []), (Sr []), (V.sl 2 1 (List.map a7 ([] : List (List a6))))])]⟩), (6, vS 3 (j4 o17))]) (n := 100) rfl (by decide) (by decide) rfl) <| et (j8 (m := 5) (j := 5) (t' := [(1, (Sr a1)), (2, (Pt 2)), (4, (Pt 4)), (6, (Pt 6)), (7, (Sr o19)), (9, (I o21.1)), (10, (I o21.2)), (11, (I (o19.length : Int))), (71, (Bo true)), (73, (b6 a0)), (74, (I o21.1)), (75, (Sr o19)), (76, (I (o19.length : Int))), (77, (I (Go.IntKind.wrap .i64 ((o19.length : Int) - 1))))]) rfl rfl rfl) <| et (c8 (x := (cut o19 1 (Go.IntKind.wrap .i64 ((o19.length : Int) - 1)))) (w := fun v25 => (Sr v25)) rfl rfl rfl rfl rfl (w6 rfl rfl rfl rfl rfl rfl underlying9)) <| j5 fun v25 => et (i7 (m := 0) (j := 6) (t' := [(1, (Sr a1)), (2, (Pt 2)), (4, (Pt 4)), (6, (Pt 6)), (7, (Sr o19)), (9, (I o21.1)), (10, (I o21.2)), (11, (I (o19.length : Int))), (71, (Bo true)), (73, (b6 a0)), (74, (I o21.1)), (75, (Sr o19)), (76, (I (o19.length : Int))), (77, (I (Go.IntKind.wrap .i64 ((o19.length : Int) - 1)))), (78, (Sr v25))]) rfl rfl rfl) <| et (c8 (x := (P6 k a0 o21.1 v25)) (w := fun v26 => (V.tup [(V.sl 0 1 (List.map a7 v26.1)), (I v26.2)])) rfl rfl rfl rfl rfl (d7 rfl rfl rfl rfl rfl (iV k a0 o21.1 v25) (.inl rfl))) <| j5 fun v26 => j9 rfl) fun o27 => et b5 <| kr ⟨[(1, (Sr a1)), (2, (Pt 2)), (4, (Pt 4)), (6, (Pt 6)), (84, (Bo (o27.1 != 0)))], [(2, vS 4 (b6 a0)), (4, ⟨false, 3, [(V.agg [(Sr []), (Sr []), (V.sl 2 1 (List.map a7 ([] : List (List a6))))])]⟩), (6, vS 3 (j4 o27.2))], 100⟩ rfl <| kc rfl rfl (fun hc => ?_) fun hc => ?_
       ·rw [hc]
        refine et b5 <| kr ⟨[(4, (Pt 4)), (5, (Bo false))], [(4, ⟨false, 3, [(j4 ({ fSegment := [], fCodes := [], fWhen := ([] : List (List a6)) } : b7))]⟩)], 100⟩ rfl <| et n6 ?_
        rfl
       ·rw [hc]
        refine et d6 <| kg oV rfl (fun (o29 : Int × Str) => ⟨[(1, (Sr a1)), (4, (Pt 4)), (6, (Pt 6)), (10, (I o29.1)), (12, (Sr o29.2))], [(4, ⟨false, 3, [(V.agg [(Sr []), (Sr []), (V.sl 2 1 (List.map a7 ([] : List (List a6))))])]⟩), (6, vS 3 (j4 o27.2))], 100⟩) (rd 2 [(87, (b6 a0)), (88, (j4 o27.2))] rfl rfl <| rp rfl (d7 rfl rfl rfl rfl rfl (I0 k a0 o27.2) (.inl rfl)) fun v28 => b4 rfl) fun o29 => kg oW rfl (fun (o30 : Bool × b7) => ⟨[(4, (Pt 4)), (5, (Bo o30.1))], [(4, vS 3 (j4 o30.2))], 100⟩) ?_ fun o30 => ?_
        ·refine rd 4 [(92, (j4 o27.2)), (93, (I o29.1)), (94, (Bo (o29.1 == 0))), (95, (Bo (o29.1 == 0)))] rfl rfl <| n5 (fun hc => ?_) fun hc => ?_
         ·rw [hc]
          exact d5 rfl
         ·rw [hc]
          exact d5 rfl
        refine et i1 ?_
        rfl
      ·rw [hc]
       refine et d6 <| et b5 <| kr ⟨[(1, (Sr a1)), (2, (Pt 2)), (4, (Pt 4)), (6, (Pt 6)), (84, (Bo (o21.2 != 0)))], [(2, vS 4 (b6 a0)), (4, ⟨false, 3, [(V.agg [(Sr []), (Sr []), (V.sl 2 1 (List.map a7 ([] : List (List a6))))])]⟩), (6, vS 3 (j4 o17))], 100⟩ rfl ?_
       rw [show (o21.2 != 0) = false by assumption]
       refine et (rX (t := false) rfl rfl) <| et d6 <| kg oV rfl (fun (o32 : Int × Str) => ⟨[(1, (Sr a1)), (4, (Pt 4)), (6, (Pt 6)), (10, (I o32.1)), (12, (Sr o32.2))], [(4, ⟨false, 3, [(V.agg [(Sr []), (Sr []), (V.sl 2 1 (List.map a7 ([] : List (List a6))))])]⟩), (6, vS 3 (j4 o17))], 100⟩) (rd 2 [(87, (b6 a0)), (88, (j4 o17))] rfl rfl <| rp rfl (d7 rfl rfl rfl rfl rfl (I0 k a0 o17) (.inl rfl)) fun v31 => b4 rfl) fun o32 => kg oW rfl (fun (o33 : Bool × b7) => ⟨[(4, (Pt 4)), (5, (Bo o33.1))], [(4, vS 3 (j4 o33.2))], 100⟩) ?_ fun o33 => ?_
       ·refine rd 4 [(92, (j4 o17)), (93, (I o32.1)), (94, (Bo (o32.1 == 0))), (95, (Bo (o32.1 == 0)))] rfl rfl <| n5 (fun hc => ?_) fun hc => ?_
        ·rw [hc]
         exact d5 rfl
        ·rw [hc]
         exact d5 rfl
       refine et i1 ?_
       rfl
    ·intro s; exact rfl
   ·rw [hc]
    refine et d6 <| kg uq rfl (fun (o35 : Int × Int) => ⟨[(1, (Sr a1)), (2, (Pt 2)), (4, (Pt 4)), (6, (Pt 6)), (7, (Sr o5)), (9, (I o35.1)), (10, (I o35.2))], [(2, vS 4 (b6 a0)), (4, ⟨false, 3, [(V.agg [(Sr []), (Sr []), (V.sl 2 1 (List.map a7 ([] : List (List a6))))])]⟩), (6, vS 3 (j4 o3))], 100⟩) (rd 3 [(47, (b6 a0)), (48, (Pt 6)), (49, (Sr o3.fSegment))] rfl rfl <| rp rfl (d7 rfl rfl rfl rfl rfl (iI k a0 o3.fSegment) (.inl rfl)) fun v34 => b4 rfl) fun o35 => et b5 <| kra [(54, (Bo (o35.2 != 0)))] rfl <| kc rfl rfl (fun hc => ?_) fun hc => ?_
    ·rw [hc]
     refine et b5 <| kr ⟨[(4, (Pt 4)), (5, (Bo false))], [(4, ⟨false, 3, [(j4 ({ fSegment := [], fCodes := [], fWhen := ([] : List (List a6)) } : b7))]⟩)], 100⟩ rfl <| et n6 ?_
     rfl
    ·rw [hc]
     refine et d6 <| et b5 <| kr ⟨[(1, (Sr a1)), (2, (Pt 2)), (4, (Pt 4)), (6, (Pt 6)), (7, (Sr o5)), (9, (I o35.1)), (10, (I o35.2)), (11, (I (o5.length : Int)))], [(2, vS 4 (b6 a0)), (4, ⟨false, 3, [(V.agg [(Sr []), (Sr []), (V.sl 2 1 (List.map a7 ([] : List (List a6))))])]⟩), (6, vS 3 (j4 o3))], 100⟩ rfl <| et b5 <| kga ur rfl (fun (o38 : Bool) => [(71, (Bo o38))]) ?_ fun o38 => ?_
     ·refine rd 3 [(58, (I (o5.length : Int))), (59, (Bo (decide ((o5.length : Int) > 2)))), (60, (Bo (decide ((o5.length : Int) > 2))))] rfl rfl <| n5 (fun hc => ?_) fun hc => ?_
      ·rw [hc]
       refine rd 4 [(61, (Sr o5))] rfl rfl <| rp rfl (w5 rfl rfl rfl underlying9) fun v36 => bd 8 [(62, (V.int .u8 v36)), (63, (Bo (v36 == 40))), (64, (Bo (v36 == 40))), (65, (Bo (v36 == 40)))] rfl rfl <| n5 (fun hc => ?_) fun hc => ?_
       ·rw [hc]
        exact rd 11 [(66, (Sr o5)), (67, (I (o5.length : Int))), (68, (I (Go.IntKind.wrap .i64 ((o5.length : Int) - 1))))] rfl rfl <| rp rfl (w5 rfl rfl rfl underlying9) fun v37 => b4 rfl
       ·rw [hc]
        exact d5 rfl
      ·rw [hc]
       exact d5 rfl
     refine kc rfl rfl (fun hc => ?_) fun hc => ?_
     ·rw [hc]
      refine kd ut rfl (fun (o41 : Int × b7) => ⟨[(1, (Sr a1)), (2, (Pt 2)), (4, (Pt 4)), (6, (Pt 6)), (10, (I o41.1))], [(2, vS 4 (b6 a0)), (4, ⟨false, 3, [(V.agg [(Sr []), (Sr []), (V.sl 2 1 (List.map a7 ([] : List (List a6))))])]⟩), (6, vS 3 (j4 o41.2))], 100⟩) (et (j2 (p := 11) (dk := false) (t := [(1, (Sr a1)), (2, (Pt 2)), (4, (Pt 4)), (6, (Pt 6)), (7, (Sr o5)), (9, (I o35.1)), (10, (I o35.2)), (11, (I (o5.length : Int))), (71, (Bo true))]) (σ := [(2, vS 4 (b6 a0)), (4, ⟨false, 3, [(V.agg [(Sr []), (Sr []), (V.sl 2 1 (List.map a7 ([] : List (List a6))))])]⟩), (6, vS 3 (j4 o3))]) (n := 100) rfl (by decide) (by decide) rfl) <| et (j8 (m := 5) (j := 5) (t' := [(1, (Sr a1)), (2, (Pt 2)), (4, (Pt 4)), (6, (Pt 6)), (7, (Sr o5)), (9, (I o35.1)), (10, (I o35.2)), (11, (I (o5.length : Int))), (71, (Bo true)), (73, (b6 a0)), (74, (I o35.1)), (75, (Sr o5)), (76, (I (o5.length : Int))), (77, (I (Go.IntKind.wrap .i64 ((o5.length : Int) - 1))))]) rfl rfl rfl) <| et (c8 (x := (cut o5 1 (Go.IntKind.wrap .i64 ((o5.length : Int) - 1)))) (w := fun v39 => (Sr v39)) rfl rfl rfl rfl rfl (w6 rfl rfl rfl rfl rfl rfl underlying9)) <| j5 fun v39 => et (i7 (m := 0) (j := 6) (t' := [(1, (Sr a1)), (2, (Pt 2)), (4, (Pt 4)), (6, (Pt 6)), (7, (Sr o5)), (9, (I o35.1)), (10, (I o35.2)), (11, (I (o5.length : Int))), (71, (Bo true)), (73, (b6 a0)), (74, (I o35.1)), (75, (Sr o5)), (76, (I (o5.length : Int))), (77, (I (Go.IntKind.wrap .i64 ((o5.length : Int) - 1)))), (78, (Sr v39))]) rfl rfl rfl) <| et (c8 (x := (P6 k a0 o35.1 v39)) (w := fun v40 => (V.tup [(V.sl 0 1 (List.map a7 v40.1)), (I v40.2)])) rfl rfl rfl rfl rfl (d7 rfl rfl rfl rfl rfl (iV k a0 o35.1 v39) (.inl rfl))) <| j5 fun v40 => j9 rfl) fun o41 => et b5 <| kr ⟨[(1, (Sr a1)), (2, (Pt 2)), (4, (Pt 4)), (6, (Pt 6)), (84, (Bo (o41.1 != 0)))], [(2, vS 4 (b6 a0)), (4, ⟨false, 3, [(V.agg [(Sr []), (Sr []), (V.sl 2 1 (List.map a7 ([] : List (List a6))))])]⟩), (6, vS 3 (j4 o41.2))], 100⟩ rfl <| kc rfl rfl (fun hc => ?_) fun hc => ?_
      ·rw [hc]
       refine et b5 <| kr ⟨[(4, (Pt 4)), (5, (Bo false))], [(4, ⟨false, 3, [(j4 ({ fSegment := [], fCodes := [], fWhen := ([] : List (List a6)) } : b7))]⟩)], 100⟩ rfl <| et n6 ?_
       rfl
      ·rw [hc]
       refine et d6 <| kg oV rfl (fun (o43 : Int × Str) => ⟨[(1, (Sr a1)), (4, (Pt 4)), (6, (Pt 6)), (10, (I o43.1)), (12, (Sr o43.2))], [(4, ⟨false, 3, [(V.agg [(Sr []), (Sr []), (V.sl 2 1 (List.map a7 ([] : List (List a6))))])]⟩), (6, vS 3 (j4 o41.2))], 100⟩) (rd 2 [(87, (b6 a0)), (88, (j4 o41.2))] rfl rfl <| rp rfl (d7 rfl rfl rfl rfl rfl (I0 k a0 o41.2) (.inl rfl)) fun v42 => b4 rfl) fun o43 => kg oW rfl (fun (o44 : Bool × b7) => ⟨[(4, (Pt 4)), (5, (Bo o44.1))], [(4, vS 3 (j4 o44.2))], 100⟩) ?_ fun o44 => ?_
       ·refine rd 4 [(92, (j4 o41.2)), (93, (I o43.1)), (94, (Bo (o43.1 == 0))), (95, (Bo (o43.1 == 0)))] rfl rfl <| n5 (fun hc => ?_) fun hc => ?_
        ·rw [hc]
         exact d5 rfl
        ·rw [hc]
         exact d5 rfl
       refine et i1 ?_
       rfl
     ·rw [hc]
      refine et d6 <| et b5 <| kr ⟨[(1, (Sr a1)), (2, (Pt 2)), (4, (Pt 4)), (6, (Pt 6)), (84, (Bo (o35.2 != 0)))], [(2, vS 4 (b6 a0)), (4, ⟨false, 3, [(V.agg [(Sr []), (Sr []), (V.sl 2 1 (List.map a7 ([] : List (List a6))))])]⟩), (6, vS 3 (j4 o3))], 100⟩ rfl ?_
      rw [show (o35.2 != 0) = false by assumption]
      refine et (rX (t := false) rfl rfl) <| et d6 <| kg oV rfl (fun (o46 : Int × Str) => ⟨[(1, (Sr a1)), (4, (Pt 4)), (6, (Pt 6)), (10, (I o46.1)), (12, (Sr o46.2))], [(4, ⟨false, 3, [(V.agg [(Sr []), (Sr []), (V.sl 2 1 (List.map a7 ([] : List (List a6))))])]⟩), (6, vS 3 (j4 o3))], 100⟩) (rd 2 [(87, (b6 a0)), (88, (j4 o3))] rfl rfl <| rp rfl (d7 rfl rfl rfl rfl rfl (I0 k a0 o3) (.inl rfl)) fun v45 => b4 rfl) fun o46 => kg oW rfl (fun (o47 : Bool × b7) => ⟨[(4, (Pt 4)), (5, (Bo o47.1))], [(4, vS 3 (j4 o47.2))], 100⟩) ?_ fun o47 => ?_
      ·refine rd 4 [(92, (j4 o3)), (93, (I o46.1)), (94, (Bo (o46.1 == 0))), (95, (Bo (o46.1 == 0)))] rfl rfl <| n5 (fun hc => ?_) fun hc => ?_
       ·rw [hc]
        exact d5 rfl
       ·rw [hc]
        exact d5 rfl
      refine et i1 ?_
      rfl
def qs : (b7 × Int) → V × List V := fun r => (.tup [(j4 r.1), (I r.2)], [])
theorem mi (k : Nat) (a0 : a8) (a1 : Str) : EV k 10 [(b6 a0), (Sr a1)] = (cf k a0 a1).map qs := by
 cases k with
 | zero => rfl
 | succ k =>
  unfold cf
  refine et (i5 (c := f10c) (N := 22) (regs := Gy) rfl func10 rfl (by decide) rfl rfl rfl) <| kr ⟨[(1, (Sr a1)), (2, (Pt 2)), (4, (Pt 4))], [(2, vS 4 (b6 a0)), (4, ⟨false, 3, [(V.agg [(Sr []), (Sr []), (V.sl 2 1 (List.map a7 ([] : List (List a6))))])]⟩)], 22⟩ rfl <| et b5 <| kga Bw rfl (fun (o2 : Bool) => [(10, (Bo o2))]) (rd 1 [(8, (b6 a0))] rfl rfl <| rp rfl (d7 rfl rfl rfl rfl rfl (gD k a0) (.inl rfl)) fun v1 => b4 rfl) fun o2 => kc rfl rfl (fun hc => ?_) fun hc => ?_
  ·rw [hc]
   refine et b5 <| kr ⟨[(4, (Pt 4)), (5, (I 100))], [(4, ⟨false, 3, [(j4 ({ fSegment := [], fCodes := [], fWhen := ([] : List (List a6)) } : b7))]⟩)], 22⟩ rfl <| et n6 ?_
   rfl
  ·rw [hc]
   refine et d6 <| kg Bx rfl (fun (o4 : Bool × b7) => ⟨[(4, (Pt 4)), (6, (Pt 6)), (7, (Bo o4.1))], [(4, ⟨false, 3, [(V.agg [(Sr []), (Sr []), (V.sl 2 1 (List.map a7 ([] : List (List a6))))])]⟩), (6, vS 3 (j4 o4.2))], 22⟩) (rd 2 [(13, (b6 a0)), (14, (Sr a1))] rfl rfl <| rp rfl (d7 rfl rfl rfl rfl rfl (sE k a0 a1) (.inl rfl)) fun v3 => b4 rfl) fun o4 => et b5 <| kr ⟨[(4, (Pt 4)), (6, (Pt 6)), (19, (Bo (!o4.1)))], [(4, ⟨false, 3, [(V.agg [(Sr []), (Sr []), (V.sl 2 1 (List.map a7 ([] : List (List a6))))])]⟩), (6, vS 3 (j4 o4.2))], 22⟩ rfl <| kc rfl rfl (fun hc => ?_) fun hc => ?_
   ·rw [hc]
    refine et b5 <| kr ⟨[(4, (Pt 4)), (5, (I 3))], [(4, ⟨false, 3, [(j4 ({ fSegment := [], fCodes := [], fWhen := ([] : List (List a6)) } : b7))]⟩)], 22⟩ rfl <| et n6 ?_
    rfl
   ·rw [hc]
    refine et d6 <| kr ⟨[(4, (Pt 4)), (5, (I 0))], [(4, vS 3 (j4 o4.2))], 22⟩ rfl <| et i1 ?_
    rfl
def V0 : (a6 × Str × Bool) → V × List V := fun r => (.tup [(d4 r.1), (Sr r.2.1), (Bo r.2.2)], [])
theorem lY (k : Nat) (a0 : a8) (a1 : Int) (a2 : Str) (x26 : Int) (o31 : i4)  (K0 : Int → Option (a6 × Str × Bool)) (Kst : X × St → Option (V × List V)) (hK0 : ∀ (y0 : Int), Kst (X.exit 2, ⟨[(1, (I a1)), (2, (Sr a2)), (3, (Pt 3)), (6, (Pt 6)), (9, (I x26)), (10, (Pt 10)), (11, (I y0)), (35, (Bo false))], [(3, vS 4 (b6 a0)), (6, ⟨false, 3, [(V.agg [(Sr []), (I 0), (Sr [])])]⟩), (10, vS 3 (l6 o31))], 78⟩) = (K0 y0).map V0) (hret : ∀ s, Kst (X.ret, s) = F3 prog 78 [(b6 a0), (I a1), (Sr a2)] [] [.cell 6 55, .tmp 7, .tmp 8] (X.ret, s)) :
  ∀ (m : Nat) (x41 : Int), (D1 (u0 prog (EV k) AR k Fh) m ⟨[(1, (I a1)), (2, (Sr a2)), (3, (Pt 3)), (6, (Pt 6)), (9, (I x26)), (10, (Pt 10)), (11, (I x41))], [(3, vS 4 (b6 a0)), (6, ⟨false, 3, [(V.agg [(Sr []), (I 0), (Sr [])])]⟩), (10, vS 3 (l6 o31))], 78⟩).bind Kst = (F9 k a2 o31 K0 m x41).map V0 := by
 intro m
 induction m with
 | zero => intros; rfl
 | succ m ih =>
  intro x41
  unfold F9
  refine et l9 <| et b5 <| kra [(35, (Bo (decide (x41 ≤ 6))))] rfl <| kc rfl rfl (fun hc => ?_) fun hc => ?_
  ·rw [hc]
   refine et d6 <| et (i8 rfl) <| kg Ff rfl (fun (o45 : Str) => ⟨[(1, (I a1)), (2, (Sr a2)), (3, (Pt 3)), (6, (Pt 6)), (9, (I x26)), (10, (Pt 10)), (11, (I x41)), (12, (Sr o45))], [(3, vS 4 (b6 a0)), (6, ⟨false, 3, [(V.agg [(Sr []), (I 0), (Sr [])])]⟩), (10, vS 3 (l6 o31))], 78⟩) (rd 2 [(38, (Pt 10)), (39, (Sr o31.fName))] rfl rfl <| rp rfl (d7 rfl rfl rfl rfl rfl (u9 k o31.fName) (.inl rfl)) fun v42 => bd 4 [(40, (Sr v42)), (41, (I x41))] rfl rfl <| rp rfl (d7 rfl rfl rfl rfl rfl (H9 k x41) (.inl rfl)) fun v43 => bd 5 [(42, (Sr v43))] rfl rfl <| rs rfl (E7 rfl rfl rfl) fun v44 => b4 rfl) fun o45 => kga Fg rfl (fun (o47 : Bool) => [(59, (Bo o47))]) ?_ fun o47 => ?_
   ·refine rd 9 [(44, (Sr a2)), (45, (I (a2.length : Int))), (46, (Sr o45)), (47, (I (o45.length : Int))), (48, (V.ptr 10 0 2)), (49, (I o31.fBytes)), (50, (I (Go.IntKind.wrap .i64 ((o45.length : Int) + o31.fBytes)))), (51, (Bo (decide ((a2.length : Int) ≥ (Go.IntKind.wrap .i64 ((o45.length : Int) + o31.fBytes)))))), (52, (Bo (decide ((a2.length : Int) ≥ (Go.IntKind.wrap .i64 ((o45.length : Int) + o31.fBytes))))))] rfl rfl <| n5 (fun hc => ?_) fun hc => ?_
    ·rw [hc]
     exact rd 12 [(53, (Sr a2)), (54, (Sr o45)), (55, (I (o45.length : Int)))] rfl rfl <| rp rfl (w6 rfl rfl rfl rfl rfl rfl underlying9) fun v46 => b4 rfl
    ·rw [hc]
     exact d5 rfl
   refine kcl rfl rfl (fun hc => ?_) fun hc => ?_
   ·rw [hc]
    refine kr ⟨[(2, (Sr a2)), (6, (Pt 6)), (10, (Pt 10)), (11, (I x41)), (12, (Sr o45)), (13, (I (Go.IntKind.wrap .i64 ((o45.length : Int) + o31.fBytes))))], [(6, ⟨false, 3, [(V.agg [(Sr []), (I 0), (Sr [])])]⟩), (10, vS 3 (l6 o31))], 78⟩ rfl <| kd zp rfl (fun (o50 : Str × Bool × a6) => ⟨[(6, (Pt 6)), (7, (Sr o50.1)), (8, (Bo o50.2.1))], [(6, vS 3 (d4 o50.2.2))], 78⟩) (et (j2 (p := 12) (dk := false) (t := [(2, (Sr a2)), (6, (Pt 6)), (10, (Pt 10)), (11, (I x41)), (12, (Sr o45)), (13, (I (Go.IntKind.wrap .i64 ((o45.length : Int) + o31.fBytes))))]) (σ := [(6, ⟨false, 3, [(V.agg [(Sr []), (I 0), (Sr [])])]⟩), (10, vS 3 (l6 o31))]) (n := 78) rfl (by decide) (by decide) rfl) <| et (j8 (m := 7) (j := 7) (t' := [(2, (Sr a2)), (6, (Pt 6)), (10, (Pt 10)), (11, (I x41)), (12, (Sr o45)), (13, (I (Go.IntKind.wrap .i64 ((o45.length : Int) + o31.fBytes)))), (65, (Pt 10)), (66, (Sr o31.fName)), (67, (I x41)), (68, (Sr a2)), (69, (Sr o45)), (70, (I (o45.length : Int))), (71, (I (Go.IntKind.wrap .i64 ((o45.length : Int) + o31.fBytes))))]) rfl rfl rfl) <| et (c8 (x := (cut a2 (o45.length : Int) (Go.IntKind.wrap .i64 ((o45.length : Int) + o31.fBytes)))) (w := fun v48 => (Sr v48)) rfl rfl rfl rfl rfl (w6 rfl rfl rfl rfl rfl rfl underlying9)) <| j5 fun v48 => et (i7 (m := 3) (j := 11) (t' := [(2, (Sr a2)), (6, (Pt 6)), (10, (Pt 10)), (11, (I x41)), (12, (Sr o45)), (13, (I (Go.IntKind.wrap .i64 ((o45.length : Int) + o31.fBytes)))), (65, (Pt 10)), (66, (Sr o31.fName)), (67, (I x41)), (68, (Sr a2)), (69, (Sr o45)), (70, (I (o45.length : Int))), (71, (I (Go.IntKind.wrap .i64 ((o45.length : Int) + o31.fBytes)))), (72, (Sr v48)), (73, (d4 ({ fField := o31.fName, fOp := x41, fValue := v48 } : a6))), (74, (Sr a2)), (75, (I (Go.IntKind.wrap .i64 ((o45.length : Int) + o31.fBytes))))]) rfl rfl rfl) <| et (c8 (x := (cut a2 (Go.IntKind.wrap .i64 ((o45.length : Int) + o31.fBytes)) (a2.length : Int))) (w := fun v49 => (Sr v49)) rfl rfl rfl rfl rfl (w6 rfl rfl rfl rfl rfl rfl underlying9)) <| j5 fun v49 => j9 rfl) fun o50 => et i1 <| et l5 <| et l8 <| et (hret _) ?_
    rfl
   ·rw [hc]
    exact et m9 <| et i6 <| kl ⟨[(1, (I a1)), (2, (Sr a2)), (3, (Pt 3)), (6, (Pt 6)), (9, (I x26)), (10, (Pt 10)), (11, (I (Go.IntKind.wrap .i64 (x41 + 1))))], [(3, vS 4 (b6 a0)), (6, ⟨false, 3, [(V.agg [(Sr []), (I 0), (Sr [])])]⟩), (10, vS 3 (l6 o31))], 78⟩ rfl <| et i3 <| ih (Go.IntKind.wrap .i64 (x41 + 1))
  ·rw [hc]
   exact et p7 <| et j3 <| hK0 x41
theorem lX (k : Nat) (a0 : a8) (a1 : Int) (a2 : Str)  (K0 : Int → Option (a6 × Str × Bool)) (Kst : X × St → Option (V × List V)) (hK0 : ∀ (y0 : Int), Kst (X.exit 0, ⟨[(1, (I a1)), (2, (Sr a2)), (3, (Pt 3)), (6, (Pt 6)), (9, (I y0)), (22, (Bo false))], [(3, vS 4 (b6 a0)), (6, ⟨false, 3, [(V.agg [(Sr []), (I 0), (Sr [])])]⟩)], 78⟩) = (K0 y0).map V0) (hret : ∀ s, Kst (X.ret, s) = F3 prog 78 [(b6 a0), (I a1), (Sr a2)] [] [.cell 6 55, .tmp 7, .tmp 8] (X.ret, s)) :
  ∀ (m : Nat) (x26 : Int), (D1 (u0 prog (EV k) AR k Fi) m ⟨[(1, (I a1)), (2, (Sr a2)), (3, (Pt 3)), (6, (Pt 6)), (9, (I x26))], [(3, vS 4 (b6 a0)), (6, ⟨false, 3, [(V.agg [(Sr []), (I 0), (Sr [])])]⟩)], 78⟩).bind Kst = (N2 k a0 a1 a2 K0 m x26).map V0 := by
 intro m
 induction m with
 | zero => intros; rfl
 | succ m ih =>
  intro x26
  unfold N2
  refine et l9 <| et b5 <| kga Fd rfl (fun (o28 : Bool) => [(22, (Bo o28))]) (rd 4 [(14, (I x26)), (15, (V.ptr 3 0 2)), (16, (l7 a0.fTypes)), (17, (I a1))] rfl rfl <| rp rfl (i2 (e := j0) rfl rfl rfl underlying22 rfl (by decide)) fun v27 => bd 7 [(18, (Pr (j0 v27))), (19, (Pr (k0 v27.fFields))), (20, (k0 v27.fFields))] rfl rfl <| rl rfl (n7 (e := l6) rfl rfl rfl rfl rfl rfl underlying46) <| b4 rfl) fun o28 => kc rfl rfl (fun hc => ?_) fun hc => ?_
  ·rw [hc]
   refine et d6 <| et (i8 rfl) <| kg Fe rfl (fun (o31 : i4) => ⟨[(1, (I a1)), (2, (Sr a2)), (3, (Pt 3)), (6, (Pt 6)), (9, (I x26)), (10, (Pt 10))], [(3, vS 4 (b6 a0)), (6, ⟨false, 3, [(V.agg [(Sr []), (I 0), (Sr [])])]⟩), (10, vS 3 (l6 o31))], 78⟩) (rd 3 [(25, (V.ptr 3 0 2)), (26, (l7 a0.fTypes)), (27, (I a1))] rfl rfl <| rp rfl (i2 (e := j0) rfl rfl rfl underlying22 rfl (by decide)) fun v29 => bd 7 [(28, (Pr (j0 v29))), (29, (Pr (k0 v29.fFields))), (30, (k0 v29.fFields)), (31, (I x26))] rfl rfl <| rs rfl (i2 (e := l6) rfl rfl rfl underlying46 rfl (by decide)) fun v30 => b4 rfl) fun o31 => kra [(11, (I 1))] rfl <| et (G7 rfl) <| et p8 ?_
   refine lY k a0 a1 a2 x26 o31 _ _ ?h_ref12_Front_L2_0 ?hr_ref12_Front_L2 k 1
   ·intro y51
    exact et j6 <| et m9 <| et i6 <| kl ⟨[(1, (I a1)), (2, (Sr a2)), (3, (Pt 3)), (6, (Pt 6)), (9, (I (Go.IntKind.wrap .i64 (x26 + 1))))], [(3, vS 4 (b6 a0)), (6, ⟨false, 3, [(V.agg [(Sr []), (I 0), (Sr [])])]⟩)], 78⟩ rfl <| et i3 <| ih (Go.IntKind.wrap .i64 (x26 + 1))
   ·intro s; exact hret s
  ·rw [hc]
   exact et p7 <| et j3 <| hK0 x26
theorem eQ (k : Nat) (a0 : a8) (a1 : Int) (a2 : Str) : EV k 95 [(b6 a0), (I a1), (Sr a2)] = (cK k a0 a1 a2).map V0 := by
 cases k with
 | zero => rfl
 | succ k =>
  unfold cK
  refine et (i5 (c := f95c) (N := 78) (regs := AR) rfl func95 rfl (by decide) rfl rfl rfl) <| kr ⟨[(1, (I a1)), (2, (Sr a2)), (3, (Pt 3)), (6, (Pt 6))], [(3, vS 4 (b6 a0)), (6, ⟨false, 3, [(V.agg [(Sr []), (I 0), (Sr [])])]⟩)], 78⟩ rfl <| et b5 <| kra [(9, (I 0))] rfl <| et (i8 rfl) <| et p8 ?_
  refine lX k a0 a1 a2 _ _ ?h_ref12_Front_L1_0 ?hr_ref12_Front_L1 k 0
  ·intro y52
   refine et j6 <| kr ⟨[(6, (Pt 6)), (7, (Sr ([] : Str))), (8, (Bo false))], [(6, ⟨false, 3, [(d4 ({ fField := [], fOp := 0, fValue := [] } : a6))]⟩)], 78⟩ rfl <| et i1 ?_
   rfl
  ·intro s; exact rfl
def ij : ((List (List a6)) × Str × Bool) → V × List V := fun r => (.tup [(V.sl 0 1 (List.map a7 r.1)), (Sr r.2.1), (Bo r.2.2)], [])
theorem lV (k : Nat) (a0 : a8) (a1 : Int) (a2 : Str)   (Kst : X × St → Option (V × List V))  (hret : ∀ s, Kst (X.ret, s) = F3 prog 56 [(b6 a0), (I a1), (Sr a2)] [] [.tmp 6, .tmp 7, .tmp 8] (X.ret, s)) :
  ∀ (m : Nat) (x17 : Str) (x18 : (List a6)) (x19 : (List (List a6))), (D1 (u0 prog (EV k) FL k Eh) m ⟨[(1, (I a1)), (2, (Sr x17)), (3, (Pt 3)), (9, (V.sl 1 1 (List.map a7 x19))), (10, (V.sl 1 3 (List.map d4 x18)))], [(3, vS 4 (b6 a0))], 56⟩).bind Kst = (N1 k a0 a1 m x17 x18 x19).map ij := by
 intro m
 induction m with
 | zero => intros; rfl
 | succ m ih =>
  intro x17 x18 x19
  unfold N1
  refine et l9 <| et (G7 rfl) <| kg Ea rfl (fun (o21 : Str × Bool × a6) => ⟨[(1, (I a1)), (3, (Pt 3)), (9, (V.sl 1 1 (List.map a7 x19))), (10, (V.sl 1 3 (List.map d4 x18))), (11, (Pt 11)), (12, (Sr o21.1)), (13, (Bo o21.2.1))], [(3, vS 4 (b6 a0)), (11, vS 3 (d4 o21.2.2))], 56⟩) (rd 3 [(15, (b6 a0)), (16, (I a1)), (17, (Sr x17))] rfl rfl <| rp rfl (d7 rfl rfl rfl rfl rfl (eQ k a0 a1 x17) (.inl rfl)) fun v20 => b4 rfl) fun o21 => et b5 <| kr ⟨[(1, (I a1)), (3, (Pt 3)), (9, (V.sl 1 1 (List.map a7 x19))), (10, (V.sl 1 3 (List.map d4 x18))), (11, (Pt 11)), (12, (Sr o21.1)), (23, (Bo (!o21.2.1)))], [(3, vS 4 (b6 a0)), (11, vS 3 (d4 o21.2.2))], 56⟩ rfl <| kc rfl rfl (fun hc => ?_) fun hc => ?_
  ·rw [hc]
   refine et b5 <| kr ⟨[(6, (V.sl 0 1 (List.map a7 ([] : List (List a6))))), (7, (Sr ([] : Str))), (8, (Bo false))], [], 56⟩ rfl <| et n6 <| et l5 <| et l8 <| et (hret _) ?_
   rfl
  ·rw [hc]
   refine et d6 <| kg Eb rfl (fun (o23 : (List a6)) => ⟨[(1, (I a1)), (3, (Pt 3)), (9, (V.sl 1 1 (List.map a7 x19))), (10, (V.sl 1 3 (List.map d4 o23))), (12, (Sr o21.1))], [(3, vS 4 (b6 a0))], 56⟩) (ra 3 3 ⟨[(1, (I a1)), (3, (Pt 3)), (9, (V.sl 1 1 (List.map a7 x19))), (10, (a7 x18)), (11, (Pt 11)), (12, (Sr o21.1)), (23, (Bo false)), (24, (V.sl 1 3 (List.map d4 x18))), (25, (d4 o21.2.2)), (26, (a7 (([o21.2.2] : List a6))))], [(3, vS 4 (b6 a0)), (11, vS 3 (d4 o21.2.2))], 56⟩ rfl rfl rfl <| et (Q1 (x := (app x18 ([o21.2.2] : List a6))) (w := fun v22 => ((V.sl 1 3 (List.map d4 v22)), _)) rfl rfl rfl rfl (nL (e := d4) rfl rfl rfl rfl rfl rfl rfl rfl rfl rfl (by decide))) <| B6 fun v22 => b4 rfl) fun o23 => et b5 <| kga Ec rfl (fun (o25 : Bool) => [(34, (Bo o25))]) ?_ fun o25 => ?_
   ·refine rd 3 [(28, (Sr o21.1)), (29, (Bo (!(o21.1 == ([] : Str))))), (30, (Bo (!(o21.1 == ([] : Str)))))] rfl rfl <| n5 (fun hc => ?_) fun hc => ?_
    ·rw [hc]
     exact rd 4 [(31, (Sr o21.1))] rfl rfl <| rp rfl (w5 rfl rfl rfl underlying9) fun v24 => b4 rfl
    ·rw [hc]
     exact d5 rfl
   refine kc rfl rfl (fun hc => ?_) fun hc => ?_
   ·rw [hc]
    exact et b5 <| kg Ed rfl (fun (o27 : Str) => ⟨[(1, (I a1)), (2, (Sr o27)), (3, (Pt 3)), (9, (V.sl 1 1 (List.map a7 x19))), (10, (V.sl 1 3 (List.map d4 o23)))], [(3, vS 4 (b6 a0))], 56⟩) (rd 1 [(35, (Sr o21.1))] rfl rfl <| rs rfl (w6 rfl rfl rfl rfl rfl rfl underlying9) fun v26 => b4 rfl) fun o27 => et p7 <| et j6 <| et m9 <| et i3 <| ih o27 o23 x19
   ·rw [hc]
    refine et d6 <| kg Ee rfl (fun (o29 : (List (List a6))) => ⟨[(1, (I a1)), (3, (Pt 3)), (9, (V.sl 1 1 (List.map a7 o29))), (12, (Sr o21.1))], [(3, vS 4 (b6 a0))], 56⟩) (ra 3 3 ⟨[(1, (I a1)), (3, (Pt 3)), (9, (V.sl 0 1 (List.map a7 x19))), (10, (V.sl 1 3 (List.map d4 o23))), (12, (Sr o21.1)), (34, (Bo false)), (37, (V.sl 1 1 (List.map a7 x19))), (38, (a7 o23)), (39, (V.sl 0 1 (List.map a7 ([o23] : List (List a6)))))], [(3, vS 4 (b6 a0))], 56⟩ rfl rfl rfl <| et (Q1 (x := (app x19 ([o23] : List (List a6)))) (w := fun v28 => ((V.sl 1 1 (List.map a7 v28)), _)) rfl rfl rfl rfl (nL (e := a7) rfl rfl rfl rfl rfl rfl rfl rfl rfl rfl (by decide))) <| B6 fun v28 => b4 rfl) fun o29 => kr ⟨[(1, (I a1)), (3, (Pt 3)), (9, (V.sl 1 1 (List.map a7 o29))), (10, (V.sl 1 3 (List.map d4 ([] : List a6)))), (12, (Sr o21.1))], [(3, vS 4 (b6 a0))], 56⟩ rfl <| et b5 <| kga zg rfl (fun (o31 : Bool) => [(47, (Bo o31))]) ?_ fun o31 => ?_
    ·refine rd 3 [(41, (Sr o21.1)), (42, (Bo (o21.1 == ([] : Str)))), (43, (Bo (o21.1 == ([] : Str))))] rfl rfl <| n5 (fun hc => ?_) fun hc => ?_
     ·rw [hc]
      exact d5 rfl
     ·rw [hc]
      exact rd 4 [(44, (Sr o21.1))] rfl rfl <| rp rfl (w5 rfl rfl rfl underlying9) fun v30 => b4 rfl
    refine kc rfl rfl (fun hc => ?_) fun hc => ?_
    ·rw [hc]
     refine et b5 <| kg zh rfl (fun (o33 : (List (List a6)) × Str × Bool) => ⟨[(6, (V.sl 0 1 (List.map a7 o33.1))), (7, (Sr o33.2.1)), (8, (Bo o33.2.2))], [], 56⟩) (rd 5 [(48, (V.sl 0 1 (List.map a7 o29))), (49, (Sr o21.1)), (50, (b6 a0)), (51, (I a1)), (52, (V.sl 0 1 (List.map a7 o29)))] rfl rfl <| rp rfl (d7 rfl rfl rfl rfl rfl (w7 k a0 a1 o29) (.inl rfl)) fun v32 => b4 rfl) fun o33 => et n6 <| et l5 <| et l8 <| et (hret _) ?_
     rfl
    ·rw [hc]
     exact et d6 <| kgl zi rfl (fun (o35 : Str) => ⟨[(1, (I a1)), (2, (Sr o35)), (3, (Pt 3)), (9, (V.sl 1 1 (List.map a7 o29))), (10, (V.sl 1 3 (List.map d4 ([] : List a6))))], [(3, vS 4 (b6 a0))], 56⟩) (rd 1 [(54, (Sr o21.1))] rfl rfl <| rs rfl (w6 rfl rfl rfl rfl rfl rfl underlying9) fun v34 => b4 rfl) fun o35 => et i6 <| et m9 <| et i3 <| ih o35 ([] : List a6) o29
theorem jd (k : Nat) (a0 : a8) (a1 : Int) (a2 : Str) : EV k 61 [(b6 a0), (I a1), (Sr a2)] = (P9 k a0 a1 a2).map ij := by
 cases k with
 | zero => rfl
 | succ k =>
  unfold P9
  refine et (i5 (c := f61c) (N := 56) (regs := FL) rfl func61 rfl (by decide) rfl rfl rfl) <| kr ⟨[(1, (I a1)), (2, (Sr a2)), (3, (Pt 3))], [(3, vS 4 (b6 a0))], 56⟩ rfl <| kra [(9, (V.sl 1 1 (List.map a7 ([] : List (List a6)))))] rfl <| kra [(10, (V.sl 1 3 (List.map d4 ([] : List a6))))] rfl <| et (G7 rfl) <| et p8 ?_
  refine lV k a0 a1 a2 _ ?hr_ref12_Begin_L1 k a2 ([] : List a6) ([] : List (List a6))
  ·intro s; exact rfl
def V2 : (b7 × Str × Bool) → V × List V := fun r => (.tup [(j4 r.1), (Sr r.2.1), (Bo r.2.2)], [])
theorem lZ (k : Nat) (a0 : a8) (a1 : Str)  (K0 : Int → Int → Option (b7 × Str × Bool)) (Kst : X × St → Option (V × List V)) (hK0 : ∀ (y0 : Int) (y1 : Int), Kst (X.exit 0, ⟨[(1, (Sr a1)), (2, (Pt 2)), (4, (Pt 4)), (7, (I y0)), (8, (I y1)), (19, (Bo false))], [(2, vS 4 (b6 a0)), (4, ⟨false, 3, [(V.agg [(Sr []), (Sr []), (V.sl 2 1 (List.map a7 ([] : List (List a6))))])]⟩)], 130⟩) = (K0 y0 y1).map V2) (hret : ∀ s, Kst (X.ret, s) = F3 prog 130 [(b6 a0), (Sr a1)] [] [.cell 4 28, .tmp 5, .tmp 6] (X.ret, s)) :
  ∀ (m : Nat) (x6 : Int) (x7 : Int), (D1 (u0 prog (EV k) AL k CC) m ⟨[(1, (Sr a1)), (2, (Pt 2)), (4, (Pt 4)), (7, (I x6)), (8, (I x7))], [(2, vS 4 (b6 a0)), (4, ⟨false, 3, [(V.agg [(Sr []), (Sr []), (V.sl 2 1 (List.map a7 ([] : List (List a6))))])]⟩)], 130⟩).bind Kst = (u3 k a0 a1 K0 m x6 x7).map V2 := by
 intro m
 induction m with
 | zero => intros; rfl
 | succ m ih =>
  intro x6 x7
  unfold u3
  refine et l9 <| et b5 <| krp Cz rfl ⟨[(1, (Sr a1)), (2, (Pt 2)), (4, (Pt 4)), (7, (I x6)), (8, (I x7)), (19, (Bo (decide (x7 < (a0.fTypes.length : Int)))))], [(2, vS 4 (b6 a0)), (4, ⟨false, 3, [(V.agg [(Sr []), (Sr []), (V.sl 2 1 (List.map a7 ([] : List (List a6))))])]⟩)], 130⟩ ?_ ?_
  ·exact rd 3 [(15, (I x7)), (16, (V.ptr 2 0 2)), (17, (l7 a0.fTypes))] rfl rfl <| rl rfl (n7 (e := j0) rfl rfl rfl rfl rfl rfl underlying22) <| b4 rfl
  refine kc rfl rfl (fun hc => ?_) fun hc => ?_
  ·rw [hc]
   refine et d6 <| et (i8 rfl) <| kg CA rfl (fun (o10 : Str) => ⟨[(1, (Sr a1)), (2, (Pt 2)), (4, (Pt 4)), (7, (I x6)), (8, (I x7)), (9, (Sr o10))], [(2, vS 4 (b6 a0)), (4, ⟨false, 3, [(V.agg [(Sr []), (Sr []), (V.sl 2 1 (List.map a7 ([] : List (List a6))))])]⟩)], 130⟩) (rd 3 [(22, (V.ptr 2 0 2)), (23, (l7 a0.fTypes)), (24, (I x7))] rfl rfl <| rp rfl (i2 (e := j0) rfl rfl rfl underlying22 rfl (by decide)) fun v8 => bd 6 [(25, (Pr (j0 v8))), (26, (Pr (Sr v8.fName))), (27, (Sr v8.fName))] rfl rfl <| rs rfl (d7 rfl rfl rfl rfl rfl (u9 k v8.fName) (.inl rfl)) fun v9 => b4 rfl) fun o10 => kg CB rfl (fun (o12 : Bool) => ⟨[(1, (Sr a1)), (2, (Pt 2)), (4, (Pt 4)), (7, (I x6)), (8, (I x7)), (37, (Bo o12))], [(2, vS 4 (b6 a0)), (4, ⟨false, 3, [(V.agg [(Sr []), (Sr []), (V.sl 2 1 (List.map a7 ([] : List (List a6))))])]⟩)], 130⟩) ?_ fun o12 => ?_
   ·refine rd 4 [(29, (Sr a1)), (30, (I (a1.length : Int))), (31, (Bo (decide ((a1.length : Int) > 8)))), (32, (Bo (decide ((a1.length : Int) > 8))))] rfl rfl <| n5 (fun hc => ?_) fun hc => ?_
    ·rw [hc]
     exact rd 5 [(33, (Sr a1))] rfl rfl <| rp rfl (w6 rfl rfl rfl rfl rfl rfl underlying9) fun v11 => b4 rfl
    ·rw [hc]
     exact d5 rfl
   refine kcl rfl rfl (fun hc => ?_) fun hc => ?_
   ·rw [hc]
    exact kl ⟨[(1, (Sr a1)), (2, (Pt 2)), (4, (Pt 4)), (7, (I x7)), (8, (I x7))], [(2, vS 4 (b6 a0)), (4, ⟨false, 3, [(V.agg [(Sr []), (Sr []), (V.sl 2 1 (List.map a7 ([] : List (List a6))))])]⟩)], 130⟩ rfl <| et i6 <| kl ⟨[(1, (Sr a1)), (2, (Pt 2)), (4, (Pt 4)), (7, (I x7)), (8, (I (Go.IntKind.wrap .i64 (x7 + 1))))], [(2, vS 4 (b6 a0)), (4, ⟨false, 3, [(V.agg [(Sr []), (Sr []), (V.sl 2 1 (List.map a7 ([] : List (List a6))))])]⟩)], 130⟩ rfl <| et i3 <| ih x7 (Go.IntKind.wrap .i64 (x7 + 1))
   ·rw [hc]
    exact et m9 <| et i6 <| kl ⟨[(1, (Sr a1)), (2, (Pt 2)), (4, (Pt 4)), (7, (I x6)), (8, (I (Go.IntKind.wrap .i64 (x7 + 1))))], [(2, vS 4 (b6 a0)), (4, ⟨false, 3, [(V.agg [(Sr []), (Sr []), (V.sl 2 1 (List.map a7 ([] : List (List a6))))])]⟩)], 130⟩ rfl <| et i3 <| ih x6 (Go.IntKind.wrap .i64 (x7 + 1))
  ·rw [hc]
   exact et p7 <| et j3 <| hK0 x6 x7
theorem ma (k : Nat) (a0 : a8) (a1 : Str) (y13 : Int) (o16 : b7) (o18 : Str)  (K0 : Int → Option (b7 × Str × Bool)) (Kst : X × St → Option (V × List V)) (hK0 : ∀ (y0 : Int), Kst (X.exit 2, ⟨[(1, (Sr o18)), (2, (Pt 2)), (4, (Pt 4)), (7, (I y13)), (10, (Pt 10)), (11, (I y0)), (69, (Bo false))], [(2, vS 4 (b6 a0)), (4, ⟨false, 3, [(V.agg [(Sr []), (Sr []), (V.sl 2 1 (List.map a7 ([] : List (List a6))))])]⟩), (10, vS 3 (j4 o16))], 130⟩) = (K0 y0).map V2) (hret : ∀ s, Kst (X.ret, s) = F3 prog 130 [(b6 a0), (Sr a1)] [] [.cell 4 28, .tmp 5, .tmp 6] (X.ret, s)) :
  ∀ (m : Nat) (x24 : Int), (D1 (u0 prog (EV k) AL k CD) m ⟨[(1, (Sr o18)), (2, (Pt 2)), (4, (Pt 4)), (7, (I y13)), (10, (Pt 10)), (11, (I x24))], [(2, vS 4 (b6 a0)), (4, ⟨false, 3, [(V.agg [(Sr []), (Sr []), (V.sl 2 1 (List.map a7 ([] : List (List a6))))])]⟩), (10, vS 3 (j4 o16))], 130⟩).bind Kst = (I4 o18 K0 m x24).map V2 := by
 intro m
 induction m with
 | zero => intros; rfl
 | succ m ih =>
  intro x24
  unfold I4
  refine et l9 <| et b5 <| kga yH rfl (fun (o27 : Bool) => [(69, (Bo o27))]) ?_ fun o27 => ?_
  ·refine rd 5 [(54, (I x24)), (55, (Sr o18)), (56, (I (o18.length : Int))), (57, (Bo (decide (x24 < (o18.length : Int))))), (58, (Bo (decide (x24 < (o18.length : Int)))))] rfl rfl <| n5 (fun hc => ?_) fun hc => ?_
   ·rw [hc]
    refine rd 7 [(59, (Sr o18)), (60, (I x24))] rfl rfl <| rp rfl (w5 rfl rfl rfl underlying9) fun v25 => bd 11 [(61, (V.int .u8 v25)), (62, (Bo (decide (v25 ≥ 65)))), (63, (Bo (decide (v25 ≥ 65)))), (64, (Bo (decide (v25 ≥ 65))))] rfl rfl <| n5 (fun hc => ?_) fun hc => ?_
    ·rw [hc]
     exact rd 13 [(65, (Sr o18)), (66, (I x24))] rfl rfl <| rp rfl (w5 rfl rfl rfl underlying9) fun v26 => b4 rfl
    ·rw [hc]
     exact d5 rfl
   ·rw [hc]
    exact d5 rfl
  refine kc rfl rfl (fun hc => ?_) fun hc => ?_
  ·rw [hc]
   exact et d6 <| et (G7 rfl) <| kl ⟨[(1, (Sr o18)), (2, (Pt 2)), (4, (Pt 4)), (7, (I y13)), (10, (Pt 10)), (11, (I (Go.IntKind.wrap .i64 (x24 + 1))))], [(2, vS 4 (b6 a0)), (4, ⟨false, 3, [(V.agg [(Sr []), (Sr []), (V.sl 2 1 (List.map a7 ([] : List (List a6))))])]⟩), (10, vS 3 (j4 o16))], 130⟩ rfl <| et i6 <| et m9 <| et i3 <| ih (Go.IntKind.wrap .i64 (x24 + 1))
  ·rw [hc]
   exact et p7 <| et j3 <| hK0 x24
theorem pG (k : Nat) (a0 : a8) (a1 : Str) : EV k 31 [(b6 a0), (Sr a1)] = (cN k a0 a1).map V2 := by
 cases k with
 | zero => rfl
 | succ k =>
  unfold cN
  refine et (i5 (c := f31c) (N := 130) (regs := AL) rfl func31 rfl (by decide) rfl rfl rfl) <| kr ⟨[(1, (Sr a1)), (2, (Pt 2)), (4, (Pt 4))], [(2, vS 4 (b6 a0)), (4, ⟨false, 3, [(V.agg [(Sr []), (Sr []), (V.sl 2 1 (List.map a7 ([] : List (List a6))))])]⟩)], 130⟩ rfl <| kra [(7, (I (-1)))] rfl <| et b5 <| kra [(8, (I 0))] rfl <| et (i8 rfl) <| et p8 ?_
  refine lZ k a0 a1 _ _ ?h_ref14_Begin_L1_0 ?hr_ref14_Begin_L1 k (-1) 0
  ·intro y13 y14
   refine et j6 <| et b5 <| kr ⟨[(1, (Sr a1)), (2, (Pt 2)), (4, (Pt 4)), (7, (I y13)), (40, (Bo (decide (y13 < 0))))], [(2, vS 4 (b6 a0)), (4, ⟨false, 3, [(V.agg [(Sr []), (Sr []), (V.sl 2 1 (List.map a7 ([] : List (List a6))))])]⟩)], 130⟩ rfl <| kc rfl rfl (fun hc => ?_) fun hc => ?_
   ·rw [hc]
    refine et b5 <| kr ⟨[(4, (Pt 4)), (5, (Sr ([] : Str))), (6, (Bo false))], [(4, ⟨false, 3, [(j4 ({ fSegment := [], fCodes := [], fWhen := ([] : List (List a6)) } : b7))]⟩)], 130⟩ rfl <| et n6 ?_
    rfl
   ·rw [hc]
    refine et d6 <| kg yE rfl (fun (o16 : b7) => ⟨[(1, (Sr a1)), (2, (Pt 2)), (4, (Pt 4)), (7, (I y13)), (10, (Pt 10))], [(2, vS 4 (b6 a0)), (4, ⟨false, 3, [(V.agg [(Sr []), (Sr []), (V.sl 2 1 (List.map a7 ([] : List (List a6))))])]⟩), (10, vS 3 (j4 o16))], 130⟩) (rd 3 [(42, (V.ptr 2 0 2)), (43, (l7 a0.fTypes)), (44, (I y13))] rfl rfl <| rp rfl (i2 (e := j0) rfl rfl rfl underlying22 rfl (by decide)) fun v15 => b4 rfl) fun o16 => kg yF rfl (fun (o18 : Str) => ⟨[(1, (Sr o18)), (2, (Pt 2)), (4, (Pt 4)), (7, (I y13)), (10, (Pt 10))], [(2, vS 4 (b6 a0)), (4, ⟨false, 3, [(V.agg [(Sr []), (Sr []), (V.sl 2 1 (List.map a7 ([] : List (List a6))))])]⟩), (10, vS 3 (j4 o16))], 130⟩) (rd 1 [(49, (Sr a1))] rfl rfl <| rs rfl (w6 rfl rfl rfl rfl rfl rfl underlying9) fun v17 => b4 rfl) fun o18 => et b5 <| kga yG rfl (fun (o20 : Bool) => [(53, (Bo o20))]) (rd 1 [(51, (Sr o18))] rfl rfl <| rp rfl (w5 rfl rfl rfl underlying9) fun v19 => b4 rfl) fun o20 => kc rfl rfl (fun hc => ?_) fun hc => ?_
    ·rw [hc]
     refine et b5 <| kr ⟨[(1, (Sr o18)), (2, (Pt 2)), (4, (Pt 4)), (7, (I y13)), (10, (Pt 10)), (11, (I 1))], [(2, vS 4 (b6 a0)), (4, ⟨false, 3, [(V.agg [(Sr []), (Sr []), (V.sl 2 1 (List.map a7 ([] : List (List a6))))])]⟩), (10, vS 3 (j4 o16))], 130⟩ rfl <| et b5 <| et (i8 rfl) <| et p8 ?_
     refine ma k a0 a1 y13 o16 o18 _ _ ?h_ref14_Begin_L2_0 ?hr_ref14_Begin_L2 k 1
     ·intro y28
      refine et j6 <| et b5 <| kg yI rfl (fun (o30 : b7) => ⟨[(1, (Sr o18)), (2, (Pt 2)), (4, (Pt 4)), (7, (I y13)), (10, (Pt 10)), (11, (I y28))], [(2, vS 4 (b6 a0)), (4, ⟨false, 3, [(V.agg [(Sr []), (Sr []), (V.sl 2 1 (List.map a7 ([] : List (List a6))))])]⟩), (10, vS 3 (j4 o30))], 130⟩) (rd 2 [(72, (Sr o18)), (73, (I y28))] rfl rfl <| rp rfl (w6 rfl rfl rfl rfl rfl rfl underlying9) fun v29 => b4 rfl) fun o30 => et b5 <| kg yJ rfl (fun (o32 : Str) => ⟨[(1, (Sr o32)), (2, (Pt 2)), (4, (Pt 4)), (7, (I y13)), (10, (Pt 10))], [(2, vS 4 (b6 a0)), (4, ⟨false, 3, [(V.agg [(Sr []), (Sr []), (V.sl 2 1 (List.map a7 ([] : List (List a6))))])]⟩), (10, vS 3 (j4 o30))], 130⟩) (rd 2 [(76, (Sr o18)), (77, (I y28))] rfl rfl <| rs rfl (w6 rfl rfl rfl rfl rfl rfl underlying9) fun v31 => b4 rfl) fun o32 => et b5 <| kga yK rfl (fun (o34 : Bool) => [(91, (Bo o34))]) ?_ fun o34 => ?_
      ·refine rd 4 [(79, (V.ptr 10 0 1)), (80, (Sr o30.fCodes)), (81, (Bo (o30.fCodes == ([] : Str)))), (82, (Bo (o30.fCodes == ([] : Str))))] rfl rfl <| n5 (fun hc => ?_) fun hc => ?_
       ·rw [hc]
        exact d5 rfl
       ·rw [hc]
        refine rd 6 [(83, (V.ptr 10 0 1)), (84, (Sr o30.fCodes))] rfl rfl <| rp rfl (d7 rfl rfl rfl rfl rfl (S9 k o30.fCodes) (.inl rfl)) fun v33 => bd 10 [(85, (Bo v33)), (86, (Bo (!v33))), (87, (Bo (!v33))), (88, (Bo (!v33)))] rfl rfl <| n5 (fun hc => ?_) fun hc => ?_
        ·rw [hc]
         exact d5 rfl
        ·rw [hc]
         exact d5 rfl
      refine kc rfl rfl (fun hc => ?_) fun hc => ?_
      ·rw [hc]
       refine et b5 <| kr ⟨[(4, (Pt 4)), (5, (Sr ([] : Str))), (6, (Bo false))], [(4, ⟨false, 3, [(j4 ({ fSegment := [], fCodes := [], fWhen := ([] : List (List a6)) } : b7))]⟩)], 130⟩ rfl <| et n6 ?_
       rfl
      ·rw [hc]
       refine et d6 <| et b5 <| kg uu rfl (fun (o36 : Bool) => ⟨[(1, (Sr o32)), (2, (Pt 2)), (4, (Pt 4)), (7, (I y13)), (10, (Pt 10)), (95, (Bo o36))], [(2, vS 4 (b6 a0)), (4, ⟨false, 3, [(V.agg [(Sr []), (Sr []), (V.sl 2 1 (List.map a7 ([] : List (List a6))))])]⟩), (10, vS 3 (j4 o30))], 130⟩) (rd 1 [(93, (Sr o32))] rfl rfl <| rp rfl (w5 rfl rfl rfl underlying9) fun v35 => b4 rfl) fun o36 => kc rfl rfl (fun hc => ?_) fun hc => ?_
       ·rw [hc]
        refine et b5 <| kd uv rfl (fun (o38 : Str × Bool × b7) => ⟨[(4, (Pt 4)), (5, (Sr o38.1)), (6, (Bo o38.2.1))], [(4, vS 3 (j4 o38.2.2))], 130⟩) (et (j2 (p := 3) (dk := false) (t := [(1, (Sr o32)), (2, (Pt 2)), (4, (Pt 4)), (7, (I y13)), (10, (Pt 10)), (95, (Bo true))]) (σ := [(2, vS 4 (b6 a0)), (4, ⟨false, 3, [(V.agg [(Sr []), (Sr []), (V.sl 2 1 (List.map a7 ([] : List (List a6))))])]⟩), (10, vS 3 (j4 o30))]) (n := 130) rfl (by decide) (by decide) rfl) <| et (j8 (m := 2) (j := 2) (t' := [(1, (Sr o32)), (2, (Pt 2)), (4, (Pt 4)), (7, (I y13)), (10, (Pt 10)), (95, (Bo true)), (96, (j4 o30)), (97, (Sr o32))]) rfl rfl rfl) <| et (c8 (x := (cut o32 1 (o32.length : Int))) (w := fun v37 => (Sr v37)) rfl rfl rfl rfl rfl (w6 rfl rfl rfl rfl rfl rfl underlying9)) <| j5 fun v37 => j9 rfl) fun o38 => et n6 ?_
        rfl
       ·rw [hc]
        refine et d6 <| kd uw rfl (fun (o41 : (List (List a6)) × Str × Bool) => ⟨[(1, (Sr o32)), (4, (Pt 4)), (10, (Pt 10)), (12, (V.sl 0 1 (List.map a7 o41.1))), (13, (Sr o41.2.1)), (14, (Bo o41.2.2))], [(4, ⟨false, 3, [(V.agg [(Sr []), (Sr []), (V.sl 2 1 (List.map a7 ([] : List (List a6))))])]⟩), (10, vS 3 (j4 o30))], 130⟩) (et (j2 (p := 12) (dk := true) (t := [(1, (Sr o32)), (2, (Pt 2)), (4, (Pt 4)), (7, (I y13)), (10, (Pt 10)), (95, (Bo false))]) (σ := [(2, vS 4 (b6 a0)), (4, ⟨false, 3, [(V.agg [(Sr []), (Sr []), (V.sl 2 1 (List.map a7 ([] : List (List a6))))])]⟩), (10, vS 3 (j4 o30))]) (n := 130) rfl (by decide) (by decide) rfl) <| et (j8 (m := 3) (j := 3) (t' := [(1, (Sr o32)), (2, (Pt 2)), (4, (Pt 4)), (7, (I y13)), (10, (Pt 10)), (95, (Bo false)), (100, (b6 a0)), (101, (I y13)), (102, (Sr o32))]) rfl rfl rfl) <| et (c8 (x := (cut o32 1 (o32.length : Int))) (w := fun v39 => (Sr v39)) rfl rfl rfl rfl rfl (w6 rfl rfl rfl rfl rfl rfl underlying9)) <| j5 fun v39 => et (i7 (m := 0) (j := 4) (t' := [(1, (Sr o32)), (2, (Pt 2)), (4, (Pt 4)), (7, (I y13)), (10, (Pt 10)), (95, (Bo false)), (100, (b6 a0)), (101, (I y13)), (102, (Sr o32)), (103, (Sr v39))]) rfl rfl rfl) <| et (c8 (x := (P9 k a0 y13 v39)) (w := fun v40 => (V.tup [(V.sl 0 1 (List.map a7 v40.1)), (Sr v40.2.1), (Bo v40.2.2)])) rfl rfl rfl rfl rfl (d7 rfl rfl rfl rfl rfl (jd k a0 y13 v39) (.inl rfl))) <| j5 fun v40 => j9 rfl) fun o41 => et b5 <| kg ux rfl (fun (o44 : Bool) => ⟨[(4, (Pt 4)), (10, (Pt 10)), (12, (V.sl 0 1 (List.map a7 o41.1))), (13, (Sr o41.2.1)), (123, (Bo o44))], [(4, ⟨false, 3, [(V.agg [(Sr []), (Sr []), (V.sl 2 1 (List.map a7 ([] : List (List a6))))])]⟩), (10, vS 3 (j4 o30))], 130⟩) ?_ fun o44 => ?_
        ·refine rd 1 [(108, (Sr o32))] rfl rfl <| rp rfl (w5 rfl rfl rfl underlying9) fun v42 => bd 4 [(109, (V.int .u8 v42)), (110, (Bo (v42 != 40))), (111, (Bo (v42 != 40)))] rfl rfl <| n5 (fun hc => ?_) fun hc => ?_
         ·rw [hc]
          exact d5 rfl
         ·rw [hc]
          refine rd 8 [(112, (Bo o41.2.2)), (113, (Bo (!o41.2.2))), (114, (Bo (!o41.2.2))), (115, (Bo (!o41.2.2)))] rfl rfl <| n5 (fun hc => ?_) fun hc => ?_
          ·rw [hc]
           exact d5 rfl
          ·rw [hc]
           refine rd 12 [(116, (Sr o41.2.1)), (117, (Bo (o41.2.1 == ([] : Str)))), (118, (Bo (o41.2.1 == ([] : Str)))), (119, (Bo (o41.2.1 == ([] : Str))))] rfl rfl <| n5 (fun hc => ?_) fun hc => ?_
           ·rw [hc]
            exact d5 rfl
           ·rw [hc]
            exact rd 13 [(120, (Sr o41.2.1))] rfl rfl <| rp rfl (w5 rfl rfl rfl underlying9) fun v43 => b4 rfl
        refine kc rfl rfl (fun hc => ?_) fun hc => ?_
        ·rw [hc]
         refine et b5 <| kr ⟨[(4, (Pt 4)), (5, (Sr ([] : Str))), (6, (Bo false))], [(4, ⟨false, 3, [(j4 ({ fSegment := [], fCodes := [], fWhen := ([] : List (List a6)) } : b7))]⟩)], 130⟩ rfl <| et n6 ?_
         rfl
        ·rw [hc]
         refine et d6 <| kr ⟨[(4, (Pt 4)), (10, (Pt 10)), (13, (Sr o41.2.1))], [(4, ⟨false, 3, [(V.agg [(Sr []), (Sr []), (V.sl 2 1 (List.map a7 ([] : List (List a6))))])]⟩), (10, vS 3 (j4 { o30 with fWhen := o41.1 }))], 130⟩ rfl <| kd uy rfl (fun (o46 : Str × Bool × b7) => ⟨[(4, (Pt 4)), (5, (Sr o46.1)), (6, (Bo o46.2.1))], [(4, vS 3 (j4 o46.2.2))], 130⟩) (et (j2 (p := 3) (dk := false) (t := [(4, (Pt 4)), (10, (Pt 10)), (13, (Sr o41.2.1))]) (σ := [(4, ⟨false, 3, [(V.agg [(Sr []), (Sr []), (V.sl 2 1 (List.map a7 ([] : List (List a6))))])]⟩), (10, vS 3 (j4 { o30 with fWhen := o41.1 }))]) (n := 130) rfl (by decide) (by decide) rfl) <| et (j8 (m := 2) (j := 2) (t' := [(4, (Pt 4)), (10, (Pt 10)), (13, (Sr o41.2.1)), (127, (j4 { o30 with fWhen := o41.1 })), (128, (Sr o41.2.1))]) rfl rfl rfl) <| et (c8 (x := (cut o41.2.1 1 (o41.2.1.length : Int))) (w := fun v45 => (Sr v45)) rfl rfl rfl rfl rfl (w6 rfl rfl rfl rfl rfl rfl underlying9)) <| j5 fun v45 => j9 rfl) fun o46 => et i1 ?_
         rfl
     ·intro s; exact rfl
    ·rw [hc]
     refine et d6 <| et b5 <| kg uu rfl (fun (o48 : Bool) => ⟨[(1, (Sr o18)), (2, (Pt 2)), (4, (Pt 4)), (7, (I y13)), (10, (Pt 10)), (95, (Bo o48))], [(2, vS 4 (b6 a0)), (4, ⟨false, 3, [(V.agg [(Sr []), (Sr []), (V.sl 2 1 (List.map a7 ([] : List (List a6))))])]⟩), (10, vS 3 (j4 o16))], 130⟩) (rd 1 [(93, (Sr o18))] rfl rfl <| rp rfl (w5 rfl rfl rfl underlying9) fun v47 => b4 rfl) fun o48 => kc rfl rfl (fun hc => ?_) fun hc => ?_
     ·rw [hc]
      refine et b5 <| kd uv rfl (fun (o50 : Str × Bool × b7) => ⟨[(4, (Pt 4)), (5, (Sr o50.1)), (6, (Bo o50.2.1))], [(4, vS 3 (j4 o50.2.2))], 130⟩) (et (j2 (p := 3) (dk := false) (t := [(1, (Sr o18)), (2, (Pt 2)), (4, (Pt 4)), (7, (I y13)), (10, (Pt 10)), (95, (Bo true))]) (σ := [(2, vS 4 (b6 a0)), (4, ⟨false, 3, [(V.agg [(Sr []), (Sr []), (V.sl 2 1 (List.map a7 ([] : List (List a6))))])]⟩), (10, vS 3 (j4 o16))]) (n := 130) rfl (by decide) (by decide) rfl) <| et (j8 (m := 2) (j := 2) (t' := [(1, (Sr o18)), (2, (Pt 2)), (4, (Pt 4)), (7, (I y13)), (10, (Pt 10)), (95, (Bo true)), (96, (j4 o16)), (97, (Sr o18))]) rfl rfl rfl) <| et (c8 (x := (cut o18 1 (o18.length : Int))) (w := fun v49 => (Sr v49)) rfl rfl rfl rfl rfl (w6 rfl rfl rfl rfl rfl rfl underlying9)) <| j5 fun v49 => j9 rfl) fun o50 => et n6 ?_
      rfl
     ·rw [hc]
      refine et d6 <| kd uw rfl (fun (o53 : (List (List a6)) × Str × Bool) => ⟨[(1, (Sr o18)), (4, (Pt 4)), (10, (Pt 10)), (12, (V.sl 0 1 (List.map a7 o53.1))), (13, (Sr o53.2.1)), (14, (Bo o53.2.2))], [(4, ⟨false, 3, [(V.agg [(Sr []), (Sr []), (V.sl 2 1 (List.map a7 ([] : List (List a6))))])]⟩), (10, vS 3 (j4 o16))], 130⟩) (et (j2 (p := 12) (dk := true) (t := [(1, (Sr o18)), (2, (Pt 2)), (4, (Pt 4)), (7, (I y13)), (10, (Pt 10)), (95, (Bo false))]) (σ := [(2, vS 4 (b6 a0)), (4, ⟨false, 3, [(V.agg [(Sr []), (Sr []), (V.sl 2 1 (List.map a7 ([] : List (List a6))))])]⟩), (10, vS 3 (j4 o16))]) (n := 130) rfl (by decide) (by decide) rfl) <| et (j8 (m := 3) (j := 3) (t' := [(1, (Sr o18)), (2, (Pt 2)), (4, (Pt 4)), (7, (I y13)), (10, (Pt 10)), (95, (Bo false)), (100, (b6 a0)), (101, (I y13)), (102, (Sr o18))]) rfl rfl rfl) <| et (c8 (x := (cut o18 1 (o18.length : Int))) (w := fun v51 => (Sr v51)) rfl rfl rfl rfl rfl (w6 rfl rfl rfl rfl rfl rfl underlying9)) <| j5 fun v51 => et (i7 (m := 0) (j := 4) (t' := [(1, (Sr o18)), (2, (Pt 2)), (4, (Pt 4)), (7, (I y13)), (10, (Pt 10)), (95, (Bo false)), (100, (b6 a0)), (101, (I y13)), (102, (Sr o18)), (103, (Sr v51))]) rfl rfl rfl) <| et (c8 (x := (P9 k a0 y13 v51)) (w := fun v52 => (V.tup [(V.sl 0 1 (List.map a7 v52.1)), (Sr v52.2.1), (Bo v52.2.2)])) rfl rfl rfl rfl rfl (d7 rfl rfl rfl rfl rfl (jd k a0 y13 v51) (.inl rfl))) <| j5 fun v52 => j9 rfl) fun o53 => et b5 <| kg ux rfl (fun (o56 : Bool) => ⟨[(4, (Pt 4)), (10, (Pt 10)), (12, (V.sl 0 1 (List.map a7 o53.1))), (13, (Sr o53.2.1)), (123, (Bo o56))], [(4, ⟨false, 3, [(V.agg [(Sr []), (Sr []), (V.sl 2 1 (List.map a7 ([] : List (List a6))))])]⟩), (10, vS 3 (j4 o16))], 130⟩) ?_ fun o56 => ?_
      ·refine rd 1 [(108, (Sr o18))] rfl rfl <| rp rfl (w5 rfl rfl rfl underlying9) fun v54 => bd 4 [(109, (V.int .u8 v54)), (110, (Bo (v54 != 40))), (111, (Bo (v54 != 40)))] rfl rfl <| n5 (fun hc => ?_) fun hc => ?_
       ·rw [hc]
        exact d5 rfl
       ·rw [hc]
        refine rd 8 [(112, (Bo o53.2.2)), (113, (Bo (!o53.2.2))), (114, (Bo (!o53.2.2))), (115, (Bo (!o53.2.2)))] rfl rfl <| n5 (fun hc => ?_) fun hc => ?_
        ·rw [hc]
         exact d5 rfl
        ·rw [hc]
         refine rd 12 [(116, (Sr o53.2.1)), (117, (Bo (o53.2.1 == ([] : Str)))), (118, (Bo (o53.2.1 == ([] : Str)))), (119, (Bo (o53.2.1 == ([] : Str))))] rfl rfl <| n5 (fun hc => ?_) fun hc => ?_
         ·rw [hc]
          exact d5 rfl
         ·rw [hc]
          exact rd 13 [(120, (Sr o53.2.1))] rfl rfl <| rp rfl (w5 rfl rfl rfl underlying9) fun v55 => b4 rfl
      refine kc rfl rfl (fun hc => ?_) fun hc => ?_
      ·rw [hc]
       refine et b5 <| kr ⟨[(4, (Pt 4)), (5, (Sr ([] : Str))), (6, (Bo false))], [(4, ⟨false, 3, [(j4 ({ fSegment := [], fCodes := [], fWhen := ([] : List (List a6)) } : b7))]⟩)], 130⟩ rfl <| et n6 ?_
       rfl
      ·rw [hc]
       refine et d6 <| kr ⟨[(4, (Pt 4)), (10, (Pt 10)), (13, (Sr o53.2.1))], [(4, ⟨false, 3, [(V.agg [(Sr []), (Sr []), (V.sl 2 1 (List.map a7 ([] : List (List a6))))])]⟩), (10, vS 3 (j4 { o16 with fWhen := o53.1 }))], 130⟩ rfl <| kd uy rfl (fun (o58 : Str × Bool × b7) => ⟨[(4, (Pt 4)), (5, (Sr o58.1)), (6, (Bo o58.2.1))], [(4, vS 3 (j4 o58.2.2))], 130⟩) (et (j2 (p := 3) (dk := false) (t := [(4, (Pt 4)), (10, (Pt 10)), (13, (Sr o53.2.1))]) (σ := [(4, ⟨false, 3, [(V.agg [(Sr []), (Sr []), (V.sl 2 1 (List.map a7 ([] : List (List a6))))])]⟩), (10, vS 3 (j4 { o16 with fWhen := o53.1 }))]) (n := 130) rfl (by decide) (by decide) rfl) <| et (j8 (m := 2) (j := 2) (t' := [(4, (Pt 4)), (10, (Pt 10)), (13, (Sr o53.2.1)), (127, (j4 { o16 with fWhen := o53.1 })), (128, (Sr o53.2.1))]) rfl rfl rfl) <| et (c8 (x := (cut o53.2.1 1 (o53.2.1.length : Int))) (w := fun v57 => (Sr v57)) rfl rfl rfl rfl rfl (w6 rfl rfl rfl rfl rfl rfl underlying9)) <| j5 fun v57 => j9 rfl) fun o58 => et i1 ?_
       rfl
  ·intro s; exact rfl
def om : (b7 × Int) → V × List V := fun r => (.tup [(j4 r.1), (I r.2)], [])
theorem pH (k : Nat) (a0 : a8) (a1 : Str) : EV k 11 [(b6 a0), (Sr a1)] = (cQ k a0 a1).map om := by
 cases k with
 | zero => rfl
 | succ k =>
  unfold cQ
  refine et (i5 (c := f11c) (N := 28) (regs := GG) rfl func11 rfl (by decide) rfl rfl rfl) <| kr ⟨[(1, (Sr a1)), (2, (Pt 2)), (4, (Pt 4))], [(2, vS 4 (b6 a0)), (4, ⟨false, 3, [(V.agg [(Sr []), (Sr []), (V.sl 2 1 (List.map a7 ([] : List (List a6))))])]⟩)], 28⟩ rfl <| et b5 <| kga BE rfl (fun (o2 : Bool) => [(11, (Bo o2))]) (rd 1 [(9, (b6 a0))] rfl rfl <| rp rfl (d7 rfl rfl rfl rfl rfl (bs k a0) (.inl rfl)) fun v1 => b4 rfl) fun o2 => kc rfl rfl (fun hc => ?_) fun hc => ?_
  ·rw [hc]
   refine et b5 <| kr ⟨[(4, (Pt 4)), (5, (I 100))], [(4, ⟨false, 3, [(j4 ({ fSegment := [], fCodes := [], fWhen := ([] : List (List a6)) } : b7))]⟩)], 28⟩ rfl <| et n6 ?_
   rfl
  ·rw [hc]
   refine et d6 <| kg BF rfl (fun (o4 : Str × Bool × b7) => ⟨[(4, (Pt 4)), (6, (Pt 6)), (7, (Sr o4.1)), (8, (Bo o4.2.1))], [(4, ⟨false, 3, [(V.agg [(Sr []), (Sr []), (V.sl 2 1 (List.map a7 ([] : List (List a6))))])]⟩), (6, vS 3 (j4 o4.2.2))], 28⟩) (rd 2 [(14, (b6 a0)), (15, (Sr a1))] rfl rfl <| rp rfl (d7 rfl rfl rfl rfl rfl (pG k a0 a1) (.inl rfl)) fun v3 => b4 rfl) fun o4 => et b5 <| kg BG rfl (fun (o5 : Bool) => ⟨[(4, (Pt 4)), (6, (Pt 6)), (25, (Bo o5))], [(4, ⟨false, 3, [(V.agg [(Sr []), (Sr []), (V.sl 2 1 (List.map a7 ([] : List (List a6))))])]⟩), (6, vS 3 (j4 o4.2.2))], 28⟩) ?_ fun o5 => ?_
   ·refine rd 3 [(20, (Bo o4.2.1)), (21, (Bo (!o4.2.1))), (22, (Bo (!o4.2.1)))] rfl rfl <| n5 (fun hc => ?_) fun hc => ?_
    ·rw [hc]
     exact d5 rfl
    ·rw [hc]
     exact d5 rfl
   refine kc rfl rfl (fun hc => ?_) fun hc => ?_
   ·rw [hc]
    refine et b5 <| kr ⟨[(4, (Pt 4)), (5, (I 3))], [(4, ⟨false, 3, [(j4 ({ fSegment := [], fCodes := [], fWhen := ([] : List (List a6)) } : b7))]⟩)], 28⟩ rfl <| et n6 ?_
    rfl
   ·rw [hc]
    refine et d6 <| kr ⟨[(4, (Pt 4)), (5, (I 0))], [(4, vS 3 (j4 o4.2.2))], 28⟩ rfl <| et i1 ?_
    rfl
def Y2 : Bool → V × List V := fun r => ((Bo r), [])
theorem nj (k : Nat) (a0 : (List (List a6))) (a1 : (List (List a6))) (x20 : Int)  (K0 : Int → Option Bool) (Kst : X × St → Option (V × List V)) (hK0 : ∀ (y0 : Int), Kst (X.exit 2, ⟨[(0, (V.sl 0 1 (List.map a7 a0))), (1, (V.sl 0 1 (List.map a7 a1))), (5, (I x20)), (6, (I y0)), (35, (Bo false))], [], 53⟩) = (K0 y0).map Y2) (hret : ∀ s, Kst (X.ret, s) = F3 prog 53 [(V.sl 0 1 (List.map a7 a0)), (V.sl 0 1 (List.map a7 a1))] [] [.tmp 4] (X.ret, s)) :
  ∀ (m : Nat) (x31 : Int), (D1 (u0 prog (EV k) AM k CI) m ⟨[(0, (V.sl 0 1 (List.map a7 a0))), (1, (V.sl 0 1 (List.map a7 a1))), (5, (I x20)), (6, (I x31))], [], 53⟩).bind Kst = (L3 a0 a1 x20 K0 m x31).map Y2 := by
 intro m
 induction m with
 | zero => intros; rfl
 | succ m ih =>
  intro x31
  unfold L3
  refine et l9 <| et b5 <| kga CH rfl (fun (o33 : Bool) => [(35, (Bo o33))]) (rd 3 [(29, (I x31)), (30, (V.sl 0 1 (List.map a7 a0))), (31, (I x20))] rfl rfl <| rp rfl (i2 (e := a7) rfl rfl rfl underlying26 rfl (by decide)) fun v32 => bd 5 [(32, (Pr (a7 v32))), (33, (a7 v32))] rfl rfl <| rl rfl (n7 (e := d4) rfl rfl rfl rfl rfl rfl underlying56) <| b4 rfl) fun o33 => kc rfl rfl (fun hc => ?_) fun hc => ?_
  ·rw [hc]
   refine et d6 <| et (i8 rfl) <| kd yL rfl (fun (o38 : Bool) => ⟨[(0, (V.sl 0 1 (List.map a7 a0))), (1, (V.sl 0 1 (List.map a7 a1))), (5, (I x20)), (6, (I x31)), (52, (Bo o38))], [], 53⟩) (et (j2 (p := 15) (dk := true) (t := [(0, (V.sl 0 1 (List.map a7 a0))), (1, (V.sl 0 1 (List.map a7 a1))), (5, (I x20)), (6, (I x31)), (35, (Bo true))]) (σ := []) (n := 53) rfl (by decide) (by decide) rfl) <| et (j8 (m := 2) (j := 2) (t' := [(0, (V.sl 0 1 (List.map a7 a0))), (1, (V.sl 0 1 (List.map a7 a1))), (5, (I x20)), (6, (I x31)), (35, (Bo true)), (38, (V.sl 0 1 (List.map a7 a0))), (39, (I x20))]) rfl rfl rfl) <| et (c8 (x := (idx a0 x20)) (w := fun v34 => (Pr (a7 v34))) rfl rfl rfl rfl rfl (i2 (e := a7) rfl rfl rfl underlying26 rfl (by decide))) <| j5 fun v34 => et (i7 (m := 2) (j := 5) (t' := [(0, (V.sl 0 1 (List.map a7 a0))), (1, (V.sl 0 1 (List.map a7 a1))), (5, (I x20)), (6, (I x31)), (35, (Bo true)), (38, (V.sl 0 1 (List.map a7 a0))), (39, (I x20)), (40, (Pr (a7 v34))), (41, (a7 v34)), (42, (I x31))]) rfl rfl rfl) <| et (c8 (x := (idx v34 x31)) (w := fun v35 => (Pr (d4 v35))) rfl rfl rfl rfl rfl (i2 (e := d4) rfl rfl rfl underlying56 rfl (by decide))) <| j5 fun v35 => et (i7 (m := 3) (j := 9) (t' := [(0, (V.sl 0 1 (List.map a7 a0))), (1, (V.sl 0 1 (List.map a7 a1))), (5, (I x20)), (6, (I x31)), (35, (Bo true)), (38, (V.sl 0 1 (List.map a7 a0))), (39, (I x20)), (40, (Pr (a7 v34))), (41, (a7 v34)), (42, (I x31)), (43, (Pr (d4 v35))), (44, (d4 v35)), (45, (V.sl 0 1 (List.map a7 a1))), (46, (I x20))]) rfl rfl rfl) <| et (c8 (x := (idx a1 x20)) (w := fun v36 => (Pr (a7 v36))) rfl rfl rfl rfl rfl (i2 (e := a7) rfl rfl rfl underlying26 rfl (by decide))) <| j5 fun v36 => et (i7 (m := 2) (j := 12) (t' := [(0, (V.sl 0 1 (List.map a7 a0))), (1, (V.sl 0 1 (List.map a7 a1))), (5, (I x20)), (6, (I x31)), (35, (Bo true)), (38, (V.sl 0 1 (List.map a7 a0))), (39, (I x20)), (40, (Pr (a7 v34))), (41, (a7 v34)), (42, (I x31)), (43, (Pr (d4 v35))), (44, (d4 v35)), (45, (V.sl 0 1 (List.map a7 a1))), (46, (I x20)), (47, (Pr (a7 v36))), (48, (a7 v36)), (49, (I x31))]) rfl rfl rfl) <| et (c8 (x := (idx v36 x31)) (w := fun v37 => (Pr (d4 v37))) rfl rfl rfl rfl rfl (i2 (e := d4) rfl rfl rfl underlying56 rfl (by decide))) <| j5 fun v37 => et (i7 (m := 1) (j := 14) (t' := [(0, (V.sl 0 1 (List.map a7 a0))), (1, (V.sl 0 1 (List.map a7 a1))), (5, (I x20)), (6, (I x31)), (35, (Bo true)), (38, (V.sl 0 1 (List.map a7 a0))), (39, (I x20)), (40, (Pr (a7 v34))), (41, (a7 v34)), (42, (I x31)), (43, (Pr (d4 v35))), (44, (d4 v35)), (45, (V.sl 0 1 (List.map a7 a1))), (46, (I x20)), (47, (Pr (a7 v36))), (48, (a7 v36)), (49, (I x31)), (50, (Pr (d4 v37))), (51, (d4 v37))]) rfl rfl rfl) <| et (c8 (x := some ()) (w := fun _ => (Bo (!(v35.fField == v37.fField && (v35.fOp == v37.fOp && (v35.fValue == v37.fValue && true)))))) rfl rfl rfl rfl rfl (Fs rfl rfl rfl underlying55 Ft Bn rfl)) <| et ag <| j9 rfl) fun o38 => kcl rfl rfl (fun hc => ?_) fun hc => ?_
   ·rw [hc]
    refine kr ⟨[(4, (Bo false))], [], 53⟩ rfl <| et i1 <| et l5 <| et l8 <| et (hret _) ?_
    rfl
   ·rw [hc]
    exact et m9 <| et i6 <| kl ⟨[(0, (V.sl 0 1 (List.map a7 a0))), (1, (V.sl 0 1 (List.map a7 a1))), (5, (I x20)), (6, (I (Go.IntKind.wrap .i64 (x31 + 1))))], [], 53⟩ rfl <| et i3 <| ih (Go.IntKind.wrap .i64 (x31 + 1))
  ·rw [hc]
   exact et p7 <| et j3 <| hK0 x31
theorem ni (k : Nat) (a0 : (List (List a6))) (a1 : (List (List a6)))  (K0 : Int → Option Bool) (Kst : X × St → Option (V × List V)) (hK0 : ∀ (y0 : Int), Kst (X.exit 0, ⟨[(0, (V.sl 0 1 (List.map a7 a0))), (1, (V.sl 0 1 (List.map a7 a1))), (5, (I y0)), (15, (Bo false))], [], 53⟩) = (K0 y0).map Y2) (hret : ∀ s, Kst (X.ret, s) = F3 prog 53 [(V.sl 0 1 (List.map a7 a0)), (V.sl 0 1 (List.map a7 a1))] [] [.tmp 4] (X.ret, s)) :
  ∀ (m : Nat) (x20 : Int), (D1 (u0 prog (EV k) AM k CJ) m ⟨[(0, (V.sl 0 1 (List.map a7 a0))), (1, (V.sl 0 1 (List.map a7 a1))), (5, (I x20))], [], 53⟩).bind Kst = (R3 k a0 a1 K0 m x20).map Y2 := by
 intro m
 induction m with
 | zero => intros; rfl
 | succ m ih =>
  intro x20
  unfold R3
  refine et l9 <| et b5 <| krp CF rfl ⟨[(0, (V.sl 0 1 (List.map a7 a0))), (1, (V.sl 0 1 (List.map a7 a1))), (5, (I x20)), (15, (Bo (decide (x20 < (a0.length : Int)))))], [], 53⟩ ?_ ?_
  ·exact rd 2 [(12, (I x20)), (13, (V.sl 0 1 (List.map a7 a0)))] rfl rfl <| rl rfl (n7 (e := a7) rfl rfl rfl rfl rfl rfl underlying26) <| b4 rfl
  refine kc rfl rfl (fun hc => ?_) fun hc => ?_
  ·rw [hc]
   refine et d6 <| et (i8 rfl) <| et b5 <| kd CG rfl (fun (o23 : Bool) => ⟨[(0, (V.sl 0 1 (List.map a7 a0))), (1, (V.sl 0 1 (List.map a7 a1))), (5, (I x20)), (28, (Bo o23))], [], 53⟩) (et (j2 (p := 11) (dk := true) (t := [(0, (V.sl 0 1 (List.map a7 a0))), (1, (V.sl 0 1 (List.map a7 a1))), (5, (I x20)), (15, (Bo true))]) (σ := []) (n := 53) rfl (by decide) (by decide) rfl) <| et (j8 (m := 2) (j := 2) (t' := [(0, (V.sl 0 1 (List.map a7 a0))), (1, (V.sl 0 1 (List.map a7 a1))), (5, (I x20)), (15, (Bo true)), (18, (V.sl 0 1 (List.map a7 a0))), (19, (I x20))]) rfl rfl rfl) <| et (c8 (x := (idx a0 x20)) (w := fun v21 => (Pr (a7 v21))) rfl rfl rfl rfl rfl (i2 (e := a7) rfl rfl rfl underlying26 rfl (by decide))) <| j5 fun v21 => et (i7 (m := 1) (j := 4) (t' := [(0, (V.sl 0 1 (List.map a7 a0))), (1, (V.sl 0 1 (List.map a7 a1))), (5, (I x20)), (15, (Bo true)), (18, (V.sl 0 1 (List.map a7 a0))), (19, (I x20)), (20, (Pr (a7 v21))), (21, (a7 v21))]) rfl rfl rfl) <| et (c8 (x := some ()) (w := fun _ => (I (v21.length : Int))) rfl rfl rfl rfl rfl (n7 (e := d4) rfl rfl rfl rfl rfl rfl underlying56)) <| et ag <| et (i7 (m := 2) (j := 7) (t' := [(0, (V.sl 0 1 (List.map a7 a0))), (1, (V.sl 0 1 (List.map a7 a1))), (5, (I x20)), (15, (Bo true)), (18, (V.sl 0 1 (List.map a7 a0))), (19, (I x20)), (20, (Pr (a7 v21))), (21, (a7 v21)), (22, (I (v21.length : Int))), (23, (V.sl 0 1 (List.map a7 a1))), (24, (I x20))]) rfl rfl rfl) <| et (c8 (x := (idx a1 x20)) (w := fun v22 => (Pr (a7 v22))) rfl rfl rfl rfl rfl (i2 (e := a7) rfl rfl rfl underlying26 rfl (by decide))) <| j5 fun v22 => et (i7 (m := 1) (j := 9) (t' := [(0, (V.sl 0 1 (List.map a7 a0))), (1, (V.sl 0 1 (List.map a7 a1))), (5, (I x20)), (15, (Bo true)), (18, (V.sl 0 1 (List.map a7 a0))), (19, (I x20)), (20, (Pr (a7 v21))), (21, (a7 v21)), (22, (I (v21.length : Int))), (23, (V.sl 0 1 (List.map a7 a1))), (24, (I x20)), (25, (Pr (a7 v22))), (26, (a7 v22))]) rfl rfl rfl) <| et (c8 (x := some ()) (w := fun _ => (I (v22.length : Int))) rfl rfl rfl rfl rfl (n7 (e := d4) rfl rfl rfl rfl rfl rfl underlying56)) <| et ag <| j9 rfl) fun o23 => kc rfl rfl (fun hc => ?_) fun hc => ?_
   ·rw [hc]
    refine et b5 <| kr ⟨[(4, (Bo false))], [], 53⟩ rfl <| et n6 <| et l5 <| et l8 <| et (hret _) ?_
    rfl
   ·rw [hc]
    refine et d6 <| kr ⟨[(0, (V.sl 0 1 (List.map a7 a0))), (1, (V.sl 0 1 (List.map a7 a1))), (5, (I x20)), (6, (I 0))], [], 53⟩ rfl <| et (G7 rfl) <| et p8 ?_
    refine nj k a0 a1 x20 _ _ ?h_ref12_Same_L2_0 ?hr_ref12_Same_L2 k 0
    ·intro y39
     exact et j6 <| et m9 <| et i6 <| kl ⟨[(0, (V.sl 0 1 (List.map a7 a0))), (1, (V.sl 0 1 (List.map a7 a1))), (5, (I (Go.IntKind.wrap .i64 (x20 + 1))))], [], 53⟩ rfl <| et i3 <| ih (Go.IntKind.wrap .i64 (x20 + 1))
    ·intro s; exact hret s
  ·rw [hc]
   exact et p7 <| et j3 <| hK0 x20
theorem fQ (k : Nat) (a0 : (List (List a6))) (a1 : (List (List a6))) : EV k 32 [(V.sl 0 1 (List.map a7 a0)), (V.sl 0 1 (List.map a7 a1))] = (eR k a0 a1).map Y2 := by
 cases k with
 | zero => rfl
 | succ k =>
  unfold eR
  refine et (i5 (c := f32c) (N := 53) (regs := AM) rfl func32 rfl (by decide) rfl rfl rfl) <| kra [] rfl <| et b5 <| krp CE rfl ⟨[(0, (V.sl 0 1 (List.map a7 a0))), (1, (V.sl 0 1 (List.map a7 a1))), (11, (Bo ((a0.length : Int) != (a1.length : Int))))], [], 53⟩ ?_ ?_
  ·exact rd 1 [(7, (V.sl 0 1 (List.map a7 a0)))] rfl rfl <| rl rfl (n7 (e := a7) rfl rfl rfl rfl rfl rfl underlying26) <| bd 3 [(8, (I (a0.length : Int))), (9, (V.sl 0 1 (List.map a7 a1)))] rfl rfl <| rl rfl (n7 (e := a7) rfl rfl rfl rfl rfl rfl underlying26) <| b4 rfl
  refine kc rfl rfl (fun hc => ?_) fun hc => ?_
  ·rw [hc]
   refine et b5 <| kr ⟨[(4, (Bo false))], [], 53⟩ rfl <| et n6 ?_
   rfl
  ·rw [hc]
   refine et d6 <| et b5 <| kr ⟨[(0, (V.sl 0 1 (List.map a7 a0))), (1, (V.sl 0 1 (List.map a7 a1))), (5, (I 0))], [], 53⟩ rfl <| et (i8 rfl) <| et p8 ?_
   refine ni k a0 a1 _ _ ?h_ref12_Same_L1_0 ?hr_ref12_Same_L1 k 0
   ·intro y40
    refine et j6 <| kr ⟨[(4, (Bo true))], [], 53⟩ rfl <| et i1 ?_
    rfl
   ·intro s; exact rfl
def pI : Bool → V × List V := fun r => ((Bo r), [])
theorem qo (k : Nat) (a0 : b7) (a1 : b7) : EV k 12 [(j4 a0), (j4 a1)] = (eU k a0 a1).map pI := by
 cases k with
 | zero => rfl
 | succ k =>
  unfold eU
  refine et (i5 (c := f12c) (N := 24) (regs := GQ) rfl func12 rfl (by decide) rfl rfl rfl) <| kr ⟨[(2, (Pt 2)), (3, (Pt 3))], [(2, vS 3 (j4 a0)), (3, vS 3 (j4 a1))], 24⟩ rfl <| kg BM rfl (fun (o2 : Bool) => ⟨[(4, (Bo o2))], [], 24⟩) ?_ fun o2 => ?_
  ·refine rd 6 [(5, (Pt 2)), (6, (Sr a0.fSegment)), (7, (Pt 3)), (8, (Sr a1.fSegment)), (9, (Bo (a0.fSegment == a1.fSegment))), (10, (Bo (a0.fSegment == a1.fSegment)))] rfl rfl <| n5 (fun hc => ?_) fun hc => ?_
   ·rw [hc]
    refine rd 13 [(11, (V.ptr 2 0 1)), (12, (Sr a0.fCodes)), (13, (V.ptr 3 0 1)), (14, (Sr a1.fCodes)), (15, (Bo (a0.fCodes == a1.fCodes))), (16, (Bo (a0.fCodes == a1.fCodes))), (17, (Bo (a0.fCodes == a1.fCodes)))] rfl rfl <| n5 (fun hc => ?_) fun hc => ?_
    ·rw [hc]
     exact rd 17 [(18, (V.ptr 2 0 2)), (19, (V.sl 0 1 (List.map a7 a0.fWhen))), (20, (V.ptr 3 0 2)), (21, (V.sl 0 1 (List.map a7 a1.fWhen)))] rfl rfl <| rs rfl (d7 rfl rfl rfl rfl rfl (fQ k a0.fWhen a1.fWhen) (.inl rfl)) fun v1 => b4 rfl
    ·rw [hc]
     exact d5 rfl
   ·rw [hc]
    exact d5 rfl
  refine et i1 ?_
  rfl
def H5 : Bool → V × List V := fun r => ((Bo r), [])
theorem bC (k : Nat) (a0 : (List (List a6))) (a1 : (List (List a6))) (a2 : Nat → (List a6) → (List a6) → Option Bool) (a2_fid : Go.FuncId)  (a2_hok : ∀ j x0 x1, EV j a2_fid [(a7 x0), (a7 x1)] = (a2 j x0 x1).map fun b => ((Bo b), [])) (K0 : Int → Option Bool) (Kst : X × St → Option (V × List V)) (hK0 : ∀ (y0 : Int), Kst (X.exit 0, ⟨[(1, (V.sl 0 1 (List.map a7 a1))), (2, (V.fn a2_fid [] [])), (15, (V.sl 0 1 (List.map a7 a0))), (16, (I (a0.length : Int))), (17, (I y0)), (18, (Bo false))], [], 32⟩) = (K0 y0).map H5) (hret : ∀ s, Kst (X.ret, s) = F3 prog 32 [(V.sl 0 1 (List.map a7 a0)), (V.sl 0 1 (List.map a7 a1)), (V.fn a2_fid [] [])] [] [.tmp 6] (X.ret, s)) :
  ∀ (m : Nat) (x7 : Int), (D1 (u0 prog (EV k) rR k td) m ⟨[(1, (V.sl 0 1 (List.map a7 a1))), (2, (V.fn a2_fid [] [])), (15, (V.sl 0 1 (List.map a7 a0))), (16, (I (a0.length : Int))), (17, (I x7))], [], 32⟩).bind Kst = (n9 k a0 a1 a2 K0 m x7).map H5 := by
 intro m
 induction m with
 | zero => intros; rfl
 | succ m ih =>
  intro x7
  unfold n9
  refine et l9 <| kra [(18, (Bo (decide (x7 < (a0.length : Int)))))] rfl <| kc rfl rfl (fun hc => ?_) fun hc => ?_
  ·rw [hc]
   refine et d6 <| et (i8 rfl) <| kg ta rfl (fun (o9 : Int × (List a6)) => ⟨[(1, (V.sl 0 1 (List.map a7 a1))), (2, (V.fn a2_fid [] [])), (7, (I o9.1)), (8, (a7 o9.2)), (15, (V.sl 0 1 (List.map a7 a0))), (16, (I (a0.length : Int))), (17, (I x7))], [], 32⟩) (rd 1 [(19, (I x7))] rfl rfl <| rp rfl (i2 (e := a7) rfl rfl rfl underlying26 rfl (by decide)) fun v8 => b4 rfl) fun o9 => kg tb rfl (fun (o11 : (List a6)) => ⟨[(1, (V.sl 0 1 (List.map a7 a1))), (2, (V.fn a2_fid [] [])), (8, (a7 o9.2)), (9, (a7 o11)), (15, (V.sl 0 1 (List.map a7 a0))), (16, (I (a0.length : Int))), (17, (I x7))], [], 32⟩) (rd 2 [(22, (V.sl 0 1 (List.map a7 a1))), (23, (I o9.1))] rfl rfl <| rs rfl (i2 (e := a7) rfl rfl rfl underlying26 rfl (by decide)) fun v10 => b4 rfl) fun o11 => kg tc rfl (fun (o13 : Bool) => ⟨[(1, (V.sl 0 1 (List.map a7 a1))), (2, (V.fn a2_fid [] [])), (15, (V.sl 0 1 (List.map a7 a0))), (16, (I (a0.length : Int))), (17, (I x7)), (30, (Bo o13))], [], 32⟩) (rd 3 [(26, (V.fn a2_fid [] [])), (27, (a7 o9.2)), (28, (a7 o11))] rfl rfl <| rp rfl (d7 rfl rfl rfl rfl rfl (a2_hok k o9.2 o11) (.inl rfl)) fun v12 => b4 rfl) fun o13 => kcl rfl rfl (fun hc => ?_) fun hc => ?_
   ·rw [hc]
    refine kr ⟨[(6, (Bo false))], [], 32⟩ rfl <| et i1 <| et l5 <| et l8 <| et (hret _) ?_
    rfl
   ·rw [hc]
    exact et m9 <| et i6 <| kl ⟨[(1, (V.sl 0 1 (List.map a7 a1))), (2, (V.fn a2_fid [] [])), (15, (V.sl 0 1 (List.map a7 a0))), (16, (I (a0.length : Int))), (17, (I (Go.IntKind.wrap .i64 (x7 + 1))))], [], 32⟩ rfl <| et i3 <| ih (Go.IntKind.wrap .i64 (x7 + 1))
  ·rw [hc]
   exact et p7 <| et j3 <| hK0 x7
theorem da (k : Nat) (a0 : (List (List a6))) (a1 : (List (List a6))) (a2 : Nat → (List a6) → (List a6) → Option Bool) (a2_fid : Go.FuncId)  (a2_hok : ∀ j x0 x1, EV j a2_fid [(a7 x0), (a7 x1)] = (a2 j x0 x1).map fun b => ((Bo b), [])) : EV k 62 [(V.sl 0 1 (List.map a7 a0)), (V.sl 0 1 (List.map a7 a1)), (V.fn a2_fid [] [])] = (G0 k a0 a1 a2).map H5 := by
 cases k with
 | zero => rfl
 | succ k =>
  unfold G0
  refine et (i5 (c := AP) (N := 32) (regs := rR) rfl func62 rfl (by decide) rfl rfl rfl) <| kra [] rfl <| et b5 <| krp sY rfl ⟨[(0, (V.sl 0 1 (List.map a7 a0))), (1, (V.sl 0 1 (List.map a7 a1))), (2, (V.fn a2_fid [] [])), (14, (Bo ((a0.length : Int) != (a1.length : Int))))], [], 32⟩ ?_ ?_
  ·exact rd 1 [(10, (V.sl 0 1 (List.map a7 a0)))] rfl rfl <| rl rfl (n7 (e := a7) rfl rfl rfl rfl rfl rfl underlying26) <| bd 3 [(11, (I (a0.length : Int))), (12, (V.sl 0 1 (List.map a7 a1)))] rfl rfl <| rl rfl (n7 (e := a7) rfl rfl rfl rfl rfl rfl underlying26) <| b4 rfl
  refine kc rfl rfl (fun hc => ?_) fun hc => ?_
  ·rw [hc]
   refine et b5 <| kr ⟨[(6, (Bo false))], [], 32⟩ rfl <| et n6 ?_
   rfl
  ·rw [hc]
   refine et d6 <| et b5 <| krp sZ rfl ⟨[(1, (V.sl 0 1 (List.map a7 a1))), (2, (V.fn a2_fid [] [])), (15, (V.sl 0 1 (List.map a7 a0))), (16, (I (a0.length : Int))), (17, (I 0))], [], 32⟩ ?_ ?_
   ·exact rd 1 [(15, (V.sl 0 1 (List.map a7 a0)))] rfl rfl <| rl rfl (n7 (e := a7) rfl rfl rfl rfl rfl rfl underlying26) <| b4 rfl
   refine et (i8 rfl) <| et p8 ?_
   refine bC k a0 a1 a2 a2_fid a2_hok _ _ ?h_slices_EqualFunc_TermL_v20_L1_0 ?hr_slices_EqualFunc_TermL_v20_L1 k 0
   ·intro y14
    refine et j6 <| kr ⟨[(6, (Bo true))], [], 32⟩ rfl <| et i1 ?_
    rfl
   ·intro s; exact rfl
def W2 : Bool → V × List V := fun r => ((Bo r), [])
theorem gq (k : Nat) (a0 : (List a6)) (a1 : (List a6))  (K0 : Int → Option Bool) (Kst : X × St → Option (V × List V)) (hK0 : ∀ (y0 : Int), Kst (X.exit 0, ⟨[(0, (a7 a0)), (1, (a7 a1)), (12, (I (a0.length : Int))), (13, (I y0)), (14, (Bo false))], [], 26⟩) = (K0 y0).map W2) (hret : ∀ s, Kst (X.ret, s) = F3 prog 26 [(a7 a0), (a7 a1)] [] [.tmp 4] (X.ret, s)) :
  ∀ (m : Nat) (x4 : Int), (D1 (u0 prog (EV k) FM k El) m ⟨[(0, (a7 a0)), (1, (a7 a1)), (12, (I (a0.length : Int))), (13, (I x4))], [], 26⟩).bind Kst = (C2 a0 a1 K0 m x4).map W2 := by
 intro m
 induction m with
 | zero => intros; rfl
 | succ m ih =>
  intro x4
  unfold C2
  refine et l9 <| kra [(14, (Bo (decide (x4 < (a0.length : Int)))))] rfl <| kc rfl rfl (fun hc => ?_) fun hc => ?_
  ·rw [hc]
   refine et d6 <| et (i8 rfl) <| kr ⟨[(0, (a7 a0)), (1, (a7 a1)), (5, (I x4)), (12, (I (a0.length : Int))), (13, (I x4))], [], 26⟩ rfl <| kd Ek rfl (fun (o7 : Bool) => ⟨[(0, (a7 a0)), (1, (a7 a1)), (12, (I (a0.length : Int))), (13, (I x4)), (24, (Bo o7))], [], 26⟩) (et (j2 (p := 9) (dk := true) (t := [(0, (a7 a0)), (1, (a7 a1)), (5, (I x4)), (12, (I (a0.length : Int))), (13, (I x4))]) (σ := []) (n := 26) rfl (by decide) (by decide) rfl) <| et (j8 (m := 2) (j := 2) (t' := [(0, (a7 a0)), (1, (a7 a1)), (5, (I x4)), (12, (I (a0.length : Int))), (13, (I x4)), (16, (a7 a0)), (17, (I x4))]) rfl rfl rfl) <| et (c8 (x := (idx a0 x4)) (w := fun v5 => (Pr (d4 v5))) rfl rfl rfl rfl rfl (i2 (e := d4) rfl rfl rfl underlying56 rfl (by decide))) <| j5 fun v5 => et (i7 (m := 3) (j := 6) (t' := [(0, (a7 a0)), (1, (a7 a1)), (5, (I x4)), (12, (I (a0.length : Int))), (13, (I x4)), (16, (a7 a0)), (17, (I x4)), (18, (Pr (d4 v5))), (19, (d4 v5)), (20, (a7 a1)), (21, (I x4))]) rfl rfl rfl) <| et (c8 (x := (idx a1 x4)) (w := fun v6 => (Pr (d4 v6))) rfl rfl rfl rfl rfl (i2 (e := d4) rfl rfl rfl underlying56 rfl (by decide))) <| j5 fun v6 => et (i7 (m := 1) (j := 8) (t' := [(0, (a7 a0)), (1, (a7 a1)), (5, (I x4)), (12, (I (a0.length : Int))), (13, (I x4)), (16, (a7 a0)), (17, (I x4)), (18, (Pr (d4 v5))), (19, (d4 v5)), (20, (a7 a1)), (21, (I x4)), (22, (Pr (d4 v6))), (23, (d4 v6))]) rfl rfl rfl) <| et (c8 (x := some ()) (w := fun _ => (Bo (!(v5.fField == v6.fField && (v5.fOp == v6.fOp && (v5.fValue == v6.fValue && true)))))) rfl rfl rfl rfl rfl (Fs rfl rfl rfl underlying55 Ft Bn rfl)) <| et ag <| j9 rfl) fun o7 => kcl rfl rfl (fun hc => ?_) fun hc => ?_
   ·rw [hc]
    refine kr ⟨[(4, (Bo false))], [], 26⟩ rfl <| et i1 <| et l5 <| et l8 <| et (hret _) ?_
    rfl
   ·rw [hc]
    exact et m9 <| et i6 <| kl ⟨[(0, (a7 a0)), (1, (a7 a1)), (12, (I (a0.length : Int))), (13, (I (Go.IntKind.wrap .i64 (x4 + 1))))], [], 26⟩ rfl <| et i3 <| ih (Go.IntKind.wrap .i64 (x4 + 1))
  ·rw [hc]
   exact et p7 <| et j3 <| hK0 x4
theorem Y5 (k : Nat) (a0 : (List a6)) (a1 : (List a6)) : EV k 63 [(a7 a0), (a7 a1)] = (G1 k a0 a1).map W2 := by
 cases k with
 | zero => rfl
 | succ k =>
  unfold G1
  refine et (i5 (c := f63c) (N := 26) (regs := FM) rfl func63 rfl (by decide) rfl rfl rfl) <| kra [] rfl <| et b5 <| krp Ei rfl ⟨[(0, (a7 a0)), (1, (a7 a1)), (10, (Bo ((a0.length : Int) != (a1.length : Int))))], [], 26⟩ ?_ ?_
  ·exact rd 1 [(6, (a7 a0))] rfl rfl <| rl rfl (n7 (e := d4) rfl rfl rfl rfl rfl rfl underlying56) <| bd 3 [(7, (I (a0.length : Int))), (8, (a7 a1))] rfl rfl <| rl rfl (n7 (e := d4) rfl rfl rfl rfl rfl rfl underlying56) <| b4 rfl
  refine kc rfl rfl (fun hc => ?_) fun hc => ?_
  ·rw [hc]
   refine et b5 <| kr ⟨[(4, (Bo false))], [], 26⟩ rfl <| et n6 ?_
   rfl
  ·rw [hc]
   refine et d6 <| et b5 <| krp Ej rfl ⟨[(0, (a7 a0)), (1, (a7 a1)), (12, (I (a0.length : Int))), (13, (I 0))], [], 26⟩ ?_ ?_
   ·exact rd 1 [(11, (a7 a0))] rfl rfl <| rl rfl (n7 (e := d4) rfl rfl rfl rfl rfl rfl underlying56) <| b4 rfl
   refine et (i8 rfl) <| et p8 ?_
   refine gq k a0 a1 _ _ ?h_slices_Equal_Term_L1_0 ?hr_slices_Equal_Term_L1 k 0
   ·intro y8
    refine et j6 <| kr ⟨[(4, (Bo true))], [], 26⟩ rfl <| et i1 ?_
    rfl
   ·intro s; exact rfl
def pu : Bool → V × List V := fun r => ((Bo r), [])
theorem fN (k : Nat) (a0 : (List (List a6))) (a1 : (List (List a6))) : EV k 33 [(V.sl 0 1 (List.map a7 a0)), (V.sl 0 1 (List.map a7 a1))] = (eJ k a0 a1).map pu := by
 cases k with
 | zero => rfl
 | succ k =>
  unfold eJ
  refine et (i5 (c := f33c) (N := 8) (regs := GZ) rfl func33 rfl (by decide) rfl rfl rfl) <| kra [] rfl <| kg CK rfl (fun (o2 : Bool) => ⟨[(4, (Bo o2))], [], 8⟩) (rd 2 [(5, (V.sl 0 1 (List.map a7 a0))), (6, (V.sl 0 1 (List.map a7 a1)))] rfl rfl <| rs rfl (d7 rfl rfl rfl rfl rfl (da k a0 a1 (fun j x0 x1 => (G1 j x0 x1)) 63 (fun j x0 x1 => (Y5 j x0 x1))) (.inl rfl)) fun v1 => b4 rfl) fun o2 => et i1 ?_
  rfl
def sD : Bool → V × List V := fun r => ((Bo r), [])
theorem tJ (k : Nat) (a0 : b7) (a1 : b7) : EV k 13 [(j4 a0), (j4 a1)] = (jl k a0 a1).map sD := by
 cases k with
 | zero => rfl
 | succ k =>
  unfold jl
  refine et (i5 (c := f13c) (N := 24) (regs := GU) rfl func13 rfl (by decide) rfl rfl rfl) <| kr ⟨[(2, (Pt 2)), (3, (Pt 3))], [(2, vS 3 (j4 a0)), (3, vS 3 (j4 a1))], 24⟩ rfl <| kg BO rfl (fun (o2 : Bool) => ⟨[(4, (Bo o2))], [], 24⟩) ?_ fun o2 => ?_
  ·refine rd 6 [(5, (Pt 2)), (6, (Sr a0.fSegment)), (7, (Pt 3)), (8, (Sr a1.fSegment)), (9, (Bo (a0.fSegment == a1.fSegment))), (10, (Bo (a0.fSegment == a1.fSegment)))] rfl rfl <| n5 (fun hc => ?_) fun hc => ?_
   ·rw [hc]
    refine rd 13 [(11, (V.ptr 2 0 1)), (12, (Sr a0.fCodes)), (13, (V.ptr 3 0 1)), (14, (Sr a1.fCodes)), (15, (Bo (a0.fCodes == a1.fCodes))), (16, (Bo (a0.fCodes == a1.fCodes))), (17, (Bo (a0.fCodes == a1.fCodes)))] rfl rfl <| n5 (fun hc => ?_) fun hc => ?_
    ·rw [hc]
     exact rd 17 [(18, (V.ptr 2 0 2)), (19, (V.sl 0 1 (List.map a7 a0.fWhen))), (20, (V.ptr 3 0 2)), (21, (V.sl 0 1 (List.map a7 a1.fWhen)))] rfl rfl <| rs rfl (d7 rfl rfl rfl rfl rfl (fN k a0.fWhen a1.fWhen) (.inl rfl)) fun v1 => b4 rfl
    ·rw [hc]
     exact d5 rfl
   ·rw [hc]
    exact d5 rfl
  refine et i1 ?_
  rfl
def kq : Bool → V × List V := fun r => ((Bo r), [])
theorem ls (k : Nat) (a0 : a8) (a1 : b7) (a2 : Str) : EV k 3 [(b6 a0), (j4 a1), (Sr a2)] = (X6 k a0 a1 a2).map kq := by
 cases k with
 | zero => rfl
 | succ k =>
  unfold X6
  refine et (i5 (c := f3c) (N := 107) (regs := f3n) rfl func3 rfl (by decide) rfl rfl rfl) <| kr ⟨[(2, (Sr a2)), (3, (Pt 3)), (4, (Pt 4))], [(3, vS 4 (b6 a0)), (4, vS 3 (j4 a1))], 107⟩ rfl <| et b5 <| kga Ha rfl (fun (o3 : Bool) => [(30, (Bo o3))]) ?_ fun o3 => ?_
  ·refine rd 1 [(19, (b6 a0))] rfl rfl <| rp rfl (d7 rfl rfl rfl rfl rfl (pm k a0) (.inl rfl)) fun v1 => bd 3 [(20, (Bo v1)), (21, (Bo v1))] rfl rfl <| n5 (fun hc => ?_) fun hc => ?_
   ·rw [hc]
    exact d5 rfl
   ·rw [hc]
    refine rd 5 [(22, (j4 a1)), (23, (u5 (([a1] : List b7))))] rfl rfl <| rp rfl (d7 rfl rfl rfl rfl rfl (qm k ([a1] : List b7)) (.inl rfl)) fun v2 => bd 8 [(24, (Bo v2)), (25, (Bo v2)), (26, (Bo v2))] rfl rfl <| n5 (fun hc => ?_) fun hc => ?_
    ·rw [hc]
     exact d5 rfl
    ·rw [hc]
     exact d5 rfl
  refine kc rfl rfl (fun hc => ?_) fun hc => ?_
  ·rw [hc]
   refine et b5 <| kg Hb rfl (fun (o5 : Bool) => ⟨[(6, (Bo o5))], [], 107⟩) (rs rfl (d7 rfl rfl rfl rfl rfl (X5 k) (.inl rfl)) fun v4 => b4 rfl) fun o5 => et n6 ?_
   rfl
  ·rw [hc]
   refine et d6 <| kg Hc rfl (fun (o7 : Str × Int) => ⟨[(2, (Sr a2)), (3, (Pt 3)), (4, (Pt 4)), (7, (Sr o7.1)), (8, (I o7.2))], [(3, vS 4 (b6 a0)), (4, vS 3 (j4 a1))], 107⟩) (rd 2 [(33, (b6 a0)), (34, (j4 a1))] rfl rfl <| rp rfl (d7 rfl rfl rfl rfl rfl (I0 k a0 a1) (.inl rfl)) fun v6 => b4 rfl) fun o7 => kga Hd rfl (fun (o9 : Str × Int) => [(9, (Sr o9.1)), (10, (I o9.2))]) (rd 2 [(39, (b6 a0)), (40, (j4 a1))] rfl rfl <| rp rfl (d7 rfl rfl rfl rfl rfl (ol k a0 a1) (.inl rfl)) fun v8 => b4 rfl) fun o9 => kg He rfl (fun (o11 : Int × b7) => ⟨[(2, (Sr a2)), (3, (Pt 3)), (4, (Pt 4)), (7, (Sr o7.1)), (8, (I o7.2)), (9, (Sr o9.1)), (10, (I o9.2)), (11, (Pt 11)), (12, (I o11.1))], [(3, vS 4 (b6 a0)), (4, vS 3 (j4 a1)), (11, vS 3 (j4 o11.2))], 107⟩) (rd 2 [(45, (b6 a0)), (46, (Sr a2))] rfl rfl <| rp rfl (d7 rfl rfl rfl rfl rfl (mi k a0 a2) (.inl rfl)) fun v10 => b4 rfl) fun o11 => kg Hf rfl (fun (o13 : Int × b7) => ⟨[(2, (Sr a2)), (3, (Pt 3)), (4, (Pt 4)), (7, (Sr o7.1)), (8, (I o7.2)), (9, (Sr o9.1)), (10, (I o9.2)), (11, (Pt 11)), (12, (I o11.1)), (13, (Pt 13)), (14, (I o13.1))], [(3, vS 4 (b6 a0)), (4, vS 3 (j4 a1)), (11, vS 3 (j4 o11.2)), (13, vS 3 (j4 o13.2))], 107⟩) (rd 2 [(51, (b6 a0)), (52, (Sr a2))] rfl rfl <| rp rfl (d7 rfl rfl rfl rfl rfl (pH k a0 a2) (.inl rfl)) fun v12 => b4 rfl) fun o13 => et b5 <| kg Hg rfl (fun (o15 : Bool) => ⟨[(2, (Sr a2)), (3, (Pt 3)), (4, (Pt 4)), (7, (Sr o7.1)), (8, (I o7.2)), (11, (Pt 11)), (12, (I o11.1)), (74, (Bo o15))], [(3, vS 4 (b6 a0)), (4, vS 3 (j4 a1)), (11, vS 3 (j4 o11.2))], 107⟩) ?_ fun o15 => ?_
   ·refine rd 4 [(56, (Sr o7.1)), (57, (Sr o9.1)), (58, (Bo (!(o7.1 == o9.1)))), (59, (Bo (!(o7.1 == o9.1))))] rfl rfl <| n5 (fun hc => ?_) fun hc => ?_
    ·rw [hc]
     exact d5 rfl
    ·rw [hc]
     refine rd 9 [(60, (I o7.2)), (61, (I o9.2)), (62, (Bo (o7.2 != o9.2))), (63, (Bo (o7.2 != o9.2))), (64, (Bo (o7.2 != o9.2)))] rfl rfl <| n5 (fun hc => ?_) fun hc => ?_
     ·rw [hc]
      exact d5 rfl
     ·rw [hc]
      refine rd 11 [(65, (j4 o11.2)), (66, (j4 o13.2))] rfl rfl <| rp rfl (d7 rfl rfl rfl rfl rfl (qo k o11.2 o13.2) (.inl rfl)) fun v14 => bd 15 [(67, (Bo v14)), (68, (Bo (!v14))), (69, (Bo (!v14))), (70, (Bo (!v14)))] rfl rfl <| n5 (fun hc => ?_) fun hc => ?_
      ·rw [hc]
       exact d5 rfl
      ·rw [hc]
       exact d5 rfl
   refine kc rfl rfl (fun hc => ?_) fun hc => ?_
   ·rw [hc]
    refine et b5 <| kr ⟨[(6, (Bo false))], [], 107⟩ rfl <| et n6 ?_
    rfl
   ·rw [hc]
    refine et d6 <| et b5 <| kr ⟨[(2, (Sr a2)), (3, (Pt 3)), (4, (Pt 4)), (7, (Sr o7.1)), (11, (Pt 11)), (12, (I o11.1)), (76, (Bo (o7.2 == 0)))], [(3, vS 4 (b6 a0)), (4, vS 3 (j4 a1)), (11, vS 3 (j4 o11.2))], 107⟩ rfl <| kc rfl rfl (fun hc => ?_) fun hc => ?_
    ·rw [hc]
     refine et b5 <| kg CQ rfl (fun (o17 : Int × b7) => ⟨[(2, (Sr a2)), (3, (Pt 3)), (4, (Pt 4)), (11, (Pt 11)), (12, (I o11.1)), (15, (Pt 15)), (16, (I o17.1))], [(3, vS 4 (b6 a0)), (4, vS 3 (j4 a1)), (11, vS 3 (j4 o11.2)), (15, vS 3 (j4 o17.2))], 107⟩) (rd 2 [(78, (b6 a0)), (79, (Sr o7.1))] rfl rfl <| rp rfl (d7 rfl rfl rfl rfl rfl (mi k a0 o7.1) (.inl rfl)) fun v16 => b4 rfl) fun o17 => et b5 <| kg CR rfl (fun (o19 : Bool) => ⟨[(2, (Sr a2)), (3, (Pt 3)), (11, (Pt 11)), (12, (I o11.1)), (90, (Bo o19))], [(3, vS 4 (b6 a0)), (11, vS 3 (j4 o11.2))], 107⟩) ?_ fun o19 => ?_
     ·refine rd 3 [(83, (I o17.1)), (84, (Bo (o17.1 != 0))), (85, (Bo (o17.1 != 0)))] rfl rfl <| n5 (fun hc => ?_) fun hc => ?_
      ·rw [hc]
       exact d5 rfl
      ·rw [hc]
       exact rd 5 [(86, (j4 o17.2)), (87, (j4 a1))] rfl rfl <| rp rfl (d7 rfl rfl rfl rfl rfl (tJ k o17.2 a1) (.inl rfl)) fun v18 => b4 rfl
     refine kc rfl rfl (fun hc => ?_) fun hc => ?_
     ·rw [hc]
      refine et b5 <| kr ⟨[(6, (Bo false))], [], 107⟩ rfl <| et n6 ?_
      rfl
     ·rw [hc]
      refine et d6 <| et b5 <| kr ⟨[(2, (Sr a2)), (3, (Pt 3)), (11, (Pt 11)), (92, (Bo (o11.1 == 0)))], [(3, vS 4 (b6 a0)), (11, vS 3 (j4 o11.2))], 107⟩ rfl <| kc rfl rfl (fun hc => ?_) fun hc => ?_
      ·rw [hc]
       refine et b5 <| kg yN rfl (fun (o21 : Str × Int) => ⟨[(2, (Sr a2)), (17, (Sr o21.1)), (18, (I o21.2))], [], 107⟩) (rd 2 [(94, (b6 a0)), (95, (j4 o11.2))] rfl rfl <| rp rfl (d7 rfl rfl rfl rfl rfl (I0 k a0 o11.2) (.inl rfl)) fun v20 => b4 rfl) fun o21 => et b5 <| kg yO rfl (fun (o22 : Bool) => ⟨[(105, (Bo o22))], [], 107⟩) ?_ fun o22 => ?_
       ·refine rd 3 [(99, (I o21.2)), (100, (Bo (o21.2 != 0))), (101, (Bo (o21.2 != 0)))] rfl rfl <| n5 (fun hc => ?_) fun hc => ?_
        ·rw [hc]
         exact d5 rfl
        ·rw [hc]
         exact d5 rfl
       refine kc rfl rfl (fun hc => ?_) fun hc => ?_
       ·rw [hc]
        refine et b5 <| kr ⟨[(6, (Bo false))], [], 107⟩ rfl <| et n6 ?_
        rfl
       ·rw [hc]
        refine et d6 <| kg sX rfl (fun (o24 : Bool) => ⟨[(6, (Bo o24))], [], 107⟩) (rs rfl (d7 rfl rfl rfl rfl rfl (X5 k) (.inl rfl)) fun v23 => b4 rfl) fun o24 => et i1 ?_
        rfl
      ·rw [hc]
       refine et d6 <| kg sX rfl (fun (o26 : Bool) => ⟨[(6, (Bo o26))], [], 107⟩) (rs rfl (d7 rfl rfl rfl rfl rfl (X5 k) (.inl rfl)) fun v25 => b4 rfl) fun o26 => et i1 ?_
       rfl
    ·rw [hc]
     refine et d6 <| et b5 <| kr ⟨[(2, (Sr a2)), (3, (Pt 3)), (11, (Pt 11)), (92, (Bo (o11.1 == 0)))], [(3, vS 4 (b6 a0)), (11, vS 3 (j4 o11.2))], 107⟩ rfl <| kc rfl rfl (fun hc => ?_) fun hc => ?_
     ·rw [hc]
      refine et b5 <| kg yN rfl (fun (o27 : Str × Int) => ⟨[(2, (Sr a2)), (17, (Sr o27.1)), (18, (I o27.2))], [], 107⟩) (rd 2 [(94, (b6 a0)), (95, (j4 o11.2))] rfl rfl <| rp rfl (d7 rfl rfl rfl rfl rfl (I0 k a0 o11.2) (.inl rfl)) fun v20 => b4 rfl) fun o27 => et b5 <| kg yO rfl (fun (o28 : Bool) => ⟨[(105, (Bo o28))], [], 107⟩) ?_ fun o28 => ?_
      ·refine rd 3 [(99, (I o27.2)), (100, (Bo (o27.2 != 0))), (101, (Bo (o27.2 != 0)))] rfl rfl <| n5 (fun hc => ?_) fun hc => ?_
       ·rw [hc]
        exact d5 rfl
       ·rw [hc]
        exact d5 rfl
      refine kc rfl rfl (fun hc => ?_) fun hc => ?_
      ·rw [hc]
       refine et b5 <| kr ⟨[(6, (Bo false))], [], 107⟩ rfl <| et n6 ?_
       rfl
      ·rw [hc]
       refine et d6 <| kg sX rfl (fun (o29 : Bool) => ⟨[(6, (Bo o29))], [], 107⟩) (rs rfl (d7 rfl rfl rfl rfl rfl (X5 k) (.inl rfl)) fun v23 => b4 rfl) fun o29 => et i1 ?_
       rfl
     ·rw [hc]
      refine et d6 <| kg sX rfl (fun (o30 : Bool) => ⟨[(6, (Bo o30))], [], 107⟩) (rs rfl (d7 rfl rfl rfl rfl rfl (X5 k) (.inl rfl)) fun v25 => b4 rfl) fun o30 => et i1 ?_
      rfl
end
end Go.AE
