/- The program, function by function: the evaluator comes to the typed functions. Conditions: none. -/
import Derived.Test.YtnpeekncggidcaaGreatDoorA3
import Derived.KernelRfl
import Derived.Test.YtnpeekncggidcaaGreatDoorProg
import Derived.Test.YtnpeekncggidcaaGreatDoorB1
import Derived.Test.YtnpeekncggidcaaGreatDoorE1
namespace Go.AE
open Go.Proofs.Tryz Go.Sh
set_option linter.unusedSimpArgs false
set_option linter.unusedVariables false
set_option maxRecDepth 100000
set_option maxHeartbeats 4000000
noncomputable section
theorem rK (k : Nat) (a0 : a7) (a1 : Str) : EV k 29 [(b8 a0), (Sr a1)] = (fU k a0 a1).map fy := by
 cases k with
 | zero => rfl
 | succ k =>
  unfold fU
  refine et (i2 (c := f29c) (N := 100) (regs := EM) rfl func29 rfl (by decide) rfl rfl rfl) <| kr ⟨[(1, (Sr a1)), (2, (Pt 2)), (4, (Pt 4))], [(2, vS 4 (b8 a0)), (4, ⟨false, 3, [(V.agg [(Sr []), (Sr []), (V.sl 2 1 (List.map b4 ([] : List (List a6))))])]⟩)], 100⟩ rfl <| et b6 <| kra [(15, (Bo (decide ((a1.length : Int) ≤ 8))))] rfl <| kc rfl rfl (fun hc => ?_) fun hc => ?_
  ·rw [hc]
   refine et b6 <| kr ⟨[(4, (Pt 4)), (5, (Bo false))], [(4, ⟨false, 3, [(i7 ({ fSegment := [], fCodes := [], fWhen := ([] : List (List a6)) } : a8))]⟩)], 100⟩ rfl <| et p8 ?_
   rfl
  ·rw [hc]
   refine et d7 <| kg BK rfl (fun (o3 : a8) => ⟨[(1, (Sr a1)), (2, (Pt 2)), (4, (Pt 4)), (6, (Pt 6))], [(2, vS 4 (b8 a0)), (4, ⟨false, 3, [(V.agg [(Sr []), (Sr []), (V.sl 2 1 (List.map b4 ([] : List (List a6))))])]⟩), (6, vS 3 (i7 o3))], 100⟩) (rd 1 [(17, (Sr a1))] rfl rfl <| rp rfl (u6 rfl rfl rfl rfl rfl rfl underlying9) fun v1 => bd 2 [(18, (Sr v1))] rfl rfl <| rp rfl (f9 rfl rfl rfl rfl rfl (cF k v1 ([32] : Str)) (.inl rfl)) fun v2 => b5 rfl) fun o3 => kga BL rfl (fun (o5 : Str) => [(7, (Sr o5))]) (rd 1 [(21, (Sr a1))] rfl rfl <| rs rfl (u6 rfl rfl rfl rfl rfl rfl underlying9) fun v4 => b5 rfl) fun o5 => et b6 <| kga BM rfl (fun (o7 : Bool) => [(25, (Bo o7))]) (rd 1 [(23, (Sr o5))] rfl rfl <| rp rfl (s9 rfl rfl rfl underlying9) fun v6 => b5 rfl) fun o7 => kc rfl rfl (fun hc => ?_) fun hc => ?_
   ·rw [hc]
    refine et b6 <| kr ⟨[(1, (Sr a1)), (2, (Pt 2)), (4, (Pt 4)), (6, (Pt 6)), (7, (Sr o5)), (8, (I 1))], [(2, vS 4 (b8 a0)), (4, ⟨false, 3, [(V.agg [(Sr []), (Sr []), (V.sl 2 1 (List.map b4 ([] : List (List a6))))])]⟩), (6, vS 3 (i7 o3))], 100⟩ rfl <| et b6 <| et (i4 rfl) <| et p3 ?_
    refine nI k a0 a1 o3 o5 _ _ ?h_ssa_parse_L1_0 ?hr_ssa_parse_L1 k 1
    ·intro y15
     refine et j3 <| et b6 <| kg BO rfl (fun (o17 : a8) => ⟨[(1, (Sr a1)), (2, (Pt 2)), (4, (Pt 4)), (6, (Pt 6)), (7, (Sr o5)), (8, (I y15))], [(2, vS 4 (b8 a0)), (4, ⟨false, 3, [(V.agg [(Sr []), (Sr []), (V.sl 2 1 (List.map b4 ([] : List (List a6))))])]⟩), (6, vS 3 (i7 o17))], 100⟩) (rd 2 [(39, (Sr o5)), (40, (I y15))] rfl rfl <| rp rfl (u6 rfl rfl rfl rfl rfl rfl underlying9) fun v16 => b5 rfl) fun o17 => kg xR rfl (fun (o19 : Str) => ⟨[(1, (Sr a1)), (2, (Pt 2)), (4, (Pt 4)), (6, (Pt 6)), (7, (Sr o19))], [(2, vS 4 (b8 a0)), (4, ⟨false, 3, [(V.agg [(Sr []), (Sr []), (V.sl 2 1 (List.map b4 ([] : List (List a6))))])]⟩), (6, vS 3 (i7 o17))], 100⟩) (rd 2 [(43, (Sr o5)), (44, (I y15))] rfl rfl <| rs rfl (u6 rfl rfl rfl rfl rfl rfl underlying9) fun v18 => b5 rfl) fun o19 => kga tI rfl (fun (o21 : Int × Int) => [(9, (I o21.1)), (10, (I o21.2))]) (rd 3 [(47, (b8 a0)), (48, (Pt 6)), (49, (Sr o17.fSegment))] rfl rfl <| rp rfl (f9 rfl rfl rfl rfl rfl (ik k a0 o17.fSegment) (.inl rfl)) fun v20 => b5 rfl) fun o21 => et b6 <| kra [(54, (Bo (o21.2 != 0)))] rfl <| kc rfl rfl (fun hc => ?_) fun hc => ?_
     ·rw [hc]
      refine et b6 <| kr ⟨[(4, (Pt 4)), (5, (Bo false))], [(4, ⟨false, 3, [(i7 ({ fSegment := [], fCodes := [], fWhen := ([] : List (List a6)) } : a8))]⟩)], 100⟩ rfl <| et p8 ?_
      rfl
     ·rw [hc]
      refine et d7 <| et b6 <| kr ⟨[(1, (Sr a1)), (2, (Pt 2)), (4, (Pt 4)), (6, (Pt 6)), (7, (Sr o19)), (9, (I o21.1)), (10, (I o21.2)), (11, (I (o19.length : Int)))], [(2, vS 4 (b8 a0)), (4, ⟨false, 3, [(V.agg [(Sr []), (Sr []), (V.sl 2 1 (List.map b4 ([] : List (List a6))))])]⟩), (6, vS 3 (i7 o17))], 100⟩ rfl <| et b6 <| kga tJ rfl (fun (o24 : Bool) => [(71, (Bo o24))]) ?_ fun o24 => ?_
      ·refine rd 3 [(58, (I (o19.length : Int))), (59, (Bo (decide ((o19.length : Int) > 2)))), (60, (Bo (decide ((o19.length : Int) > 2))))] rfl rfl <| m9 (fun hc => ?_) fun hc => ?_
       ·rw [hc]
        refine rd 4 [(61, (Sr o19))] rfl rfl <| rp rfl (s9 rfl rfl rfl underlying9) fun v22 => bd 8 [(62, (V.int .u8 v22)), (63, (Bo (v22 == 40))), (64, (Bo (v22 == 40))), (65, (Bo (v22 == 40)))] rfl rfl <| m9 (fun hc => ?_) fun hc => ?_
        ·rw [hc]
         exact rd 11 [(66, (Sr o19)), (67, (I (o19.length : Int))), (68, (I (Go.IntKind.wrap .i64 ((o19.length : Int) - 1))))] rfl rfl <| rp rfl (s9 rfl rfl rfl underlying9) fun v23 => b5 rfl
        ·rw [hc]
         exact c9 rfl
       ·rw [hc]
        exact c9 rfl
      refine kc rfl rfl (fun hc => ?_) fun hc => ?_
      ·rw [hc]
       refine kd tK rfl (fun (o27 : Int × a8) => ⟨[(1, (Sr a1)), (2, (Pt 2)), (4, (Pt 4)), (6, (Pt 6)), (10, (I o27.1))], [(2, vS 4 (b8 a0)), (4, ⟨false, 3, [(V.agg [(Sr []), (Sr []), (V.sl 2 1 (List.map b4 ([] : List (List a6))))])]⟩), (6, vS 3 (i7 o27.2))], 100⟩) (et (j4 (p := 11) (dk := false) (t := [(1, (Sr a1)), (2, (Pt 2)), (4, (Pt 4)), (6, (Pt 6)), (7, (Sr o19)), (9, (I o21.1)), (10, (I o21.2)), (11, (I (o19.length : Int))), (71, (Bo true))]) (σ := [(2, vS 4 (b8 a0)), (4, ⟨false, 3, [(V.agg [(Sr []), (Sr []), (V.sl 2 1 (List.map b4 ([] : List (List a6))))])]⟩), (6, vS 3 (i7 o17))]) (n := 100) rfl (by decide) (by decide) rfl) <| et (l5 (m := 5) (j := 5) (t' := [(1, (Sr a1)), (2, (Pt 2)), (4, (Pt 4)), (6, (Pt 6)), (7, (Sr o19)), (9, (I o21.1)), (10, (I o21.2)), (11, (I (o19.length : Int))), (71, (Bo true)), (73, (b8 a0)), (74, (I o21.1)), (75, (Sr o19)), (76, (I (o19.length : Int))), (77, (I (Go.IntKind.wrap .i64 ((o19.length : Int) - 1))))]) rfl rfl rfl) <| et (d5 (x := (cut o19 1 (Go.IntKind.wrap .i64 ((o19.length : Int) - 1)))) (w := fun v25 => (Sr v25)) rfl rfl rfl rfl rfl (u6 rfl rfl rfl rfl rfl rfl underlying9)) <| n5 fun v25 => et (k0 (m := 0) (j := 6) (t' := [(1, (Sr a1)), (2, (Pt 2)), (4, (Pt 4)), (6, (Pt 6)), (7, (Sr o19)), (9, (I o21.1)), (10, (I o21.2)), (11, (I (o19.length : Int))), (71, (Bo true)), (73, (b8 a0)), (74, (I o21.1)), (75, (Sr o19)), (76, (I (o19.length : Int))), (77, (I (Go.IntKind.wrap .i64 ((o19.length : Int) - 1)))), (78, (Sr v25))]) rfl rfl rfl) <| et (d5 (x := (N9 k a0 o21.1 v25)) (w := fun v26 => (V.tup [(V.sl 0 1 (List.map b4 v26.1)), (I v26.2)])) rfl rfl rfl rfl rfl (f9 rfl rfl rfl rfl rfl (iG k a0 o21.1 v25) (.inl rfl))) <| n5 fun v26 => l6 rfl) fun o27 => et b6 <| kr ⟨[(1, (Sr a1)), (2, (Pt 2)), (4, (Pt 4)), (6, (Pt 6)), (84, (Bo (o27.1 != 0)))], [(2, vS 4 (b8 a0)), (4, ⟨false, 3, [(V.agg [(Sr []), (Sr []), (V.sl 2 1 (List.map b4 ([] : List (List a6))))])]⟩), (6, vS 3 (i7 o27.2))], 100⟩ rfl <| kc rfl rfl (fun hc => ?_) fun hc => ?_
       ·rw [hc]
        refine et b6 <| kr ⟨[(4, (Pt 4)), (5, (Bo false))], [(4, ⟨false, 3, [(i7 ({ fSegment := [], fCodes := [], fWhen := ([] : List (List a6)) } : a8))]⟩)], 100⟩ rfl <| et p8 ?_
        rfl
       ·rw [hc]
        refine et d7 <| kg ol rfl (fun (o29 : Int × Str) => ⟨[(1, (Sr a1)), (4, (Pt 4)), (6, (Pt 6)), (10, (I o29.1)), (12, (Sr o29.2))], [(4, ⟨false, 3, [(V.agg [(Sr []), (Sr []), (V.sl 2 1 (List.map b4 ([] : List (List a6))))])]⟩), (6, vS 3 (i7 o27.2))], 100⟩) (rd 2 [(87, (b8 a0)), (88, (i7 o27.2))] rfl rfl <| rp rfl (f9 rfl rfl rfl rfl rfl (U2 k a0 o27.2) (.inl rfl)) fun v28 => b5 rfl) fun o29 => kg om rfl (fun (o30 : Bool × a8) => ⟨[(4, (Pt 4)), (5, (Bo o30.1))], [(4, vS 3 (i7 o30.2))], 100⟩) ?_ fun o30 => ?_
        ·refine rd 4 [(92, (i7 o27.2)), (93, (I o29.1)), (94, (Bo (o29.1 == 0))), (95, (Bo (o29.1 == 0)))] rfl rfl <| m9 (fun hc => ?_) fun hc => ?_
         ·rw [hc]
          exact c9 rfl
         ·rw [hc]
          exact c9 rfl
        refine et d9 ?_
        rfl
      ·rw [hc]
       refine et d7 <| et b6 <| kr ⟨[(1, (Sr a1)), (2, (Pt 2)), (4, (Pt 4)), (6, (Pt 6)), (84, (Bo (o21.2 != 0)))], [(2, vS 4 (b8 a0)), (4, ⟨false, 3, [(V.agg [(Sr []), (Sr []), (V.sl 2 1 (List.map b4 ([] : List (List a6))))])]⟩), (6, vS 3 (i7 o17))], 100⟩ rfl ?_
       rw [show (o21.2 != 0) = false by assumption]
       refine et (rf (t := false) rfl rfl) <| et d7 <| kg ol rfl (fun (o32 : Int × Str) => ⟨[(1, (Sr a1)), (4, (Pt 4)), (6, (Pt 6)), (10, (I o32.1)), (12, (Sr o32.2))], [(4, ⟨false, 3, [(V.agg [(Sr []), (Sr []), (V.sl 2 1 (List.map b4 ([] : List (List a6))))])]⟩), (6, vS 3 (i7 o17))], 100⟩) (rd 2 [(87, (b8 a0)), (88, (i7 o17))] rfl rfl <| rp rfl (f9 rfl rfl rfl rfl rfl (U2 k a0 o17) (.inl rfl)) fun v31 => b5 rfl) fun o32 => kg om rfl (fun (o33 : Bool × a8) => ⟨[(4, (Pt 4)), (5, (Bo o33.1))], [(4, vS 3 (i7 o33.2))], 100⟩) ?_ fun o33 => ?_
       ·refine rd 4 [(92, (i7 o17)), (93, (I o32.1)), (94, (Bo (o32.1 == 0))), (95, (Bo (o32.1 == 0)))] rfl rfl <| m9 (fun hc => ?_) fun hc => ?_
        ·rw [hc]
         exact c9 rfl
        ·rw [hc]
         exact c9 rfl
       refine et d9 ?_
       rfl
    ·intro s; exact rfl
   ·rw [hc]
    refine et d7 <| kg tI rfl (fun (o35 : Int × Int) => ⟨[(1, (Sr a1)), (2, (Pt 2)), (4, (Pt 4)), (6, (Pt 6)), (7, (Sr o5)), (9, (I o35.1)), (10, (I o35.2))], [(2, vS 4 (b8 a0)), (4, ⟨false, 3, [(V.agg [(Sr []), (Sr []), (V.sl 2 1 (List.map b4 ([] : List (List a6))))])]⟩), (6, vS 3 (i7 o3))], 100⟩) (rd 3 [(47, (b8 a0)), (48, (Pt 6)), (49, (Sr o3.fSegment))] rfl rfl <| rp rfl (f9 rfl rfl rfl rfl rfl (ik k a0 o3.fSegment) (.inl rfl)) fun v34 => b5 rfl) fun o35 => et b6 <| kra [(54, (Bo (o35.2 != 0)))] rfl <| kc rfl rfl (fun hc => ?_) fun hc => ?_
    ·rw [hc]
     refine et b6 <| kr ⟨[(4, (Pt 4)), (5, (Bo false))], [(4, ⟨false, 3, [(i7 ({ fSegment := [], fCodes := [], fWhen := ([] : List (List a6)) } : a8))]⟩)], 100⟩ rfl <| et p8 ?_
     rfl
    ·rw [hc]
     refine et d7 <| et b6 <| kr ⟨[(1, (Sr a1)), (2, (Pt 2)), (4, (Pt 4)), (6, (Pt 6)), (7, (Sr o5)), (9, (I o35.1)), (10, (I o35.2)), (11, (I (o5.length : Int)))], [(2, vS 4 (b8 a0)), (4, ⟨false, 3, [(V.agg [(Sr []), (Sr []), (V.sl 2 1 (List.map b4 ([] : List (List a6))))])]⟩), (6, vS 3 (i7 o3))], 100⟩ rfl <| et b6 <| kga tJ rfl (fun (o38 : Bool) => [(71, (Bo o38))]) ?_ fun o38 => ?_
     ·refine rd 3 [(58, (I (o5.length : Int))), (59, (Bo (decide ((o5.length : Int) > 2)))), (60, (Bo (decide ((o5.length : Int) > 2))))] rfl rfl <| m9 (fun hc => ?_) fun hc => ?_
      ·rw [hc]
       refine rd 4 [(61, (Sr o5))] rfl rfl <| rp rfl (s9 rfl rfl rfl underlying9) fun v36 => bd 8 [(62, (V.int .u8 v36)), (63, (Bo (v36 == 40))), (64, (Bo (v36 == 40))), (65, (Bo (v36 == 40)))] rfl rfl <| m9 (fun hc => ?_) fun hc => ?_
       ·rw [hc]
        exact rd 11 [(66, (Sr o5)), (67, (I (o5.length : Int))), (68, (I (Go.IntKind.wrap .i64 ((o5.length : Int) - 1))))] rfl rfl <| rp rfl (s9 rfl rfl rfl underlying9) fun v37 => b5 rfl
       ·rw [hc]
        exact c9 rfl
      ·rw [hc]
       exact c9 rfl
     refine kc rfl rfl (fun hc => ?_) fun hc => ?_
     ·rw [hc]
      refine kd tK rfl (fun (o41 : Int × a8) => ⟨[(1, (Sr a1)), (2, (Pt 2)), (4, (Pt 4)), (6, (Pt 6)), (10, (I o41.1))], [(2, vS 4 (b8 a0)), (4, ⟨false, 3, [(V.agg [(Sr []), (Sr []), (V.sl 2 1 (List.map b4 ([] : List (List a6))))])]⟩), (6, vS 3 (i7 o41.2))], 100⟩) (et (j4 (p := 11) (dk := false) (t := [(1, (Sr a1)), (2, (Pt 2)), (4, (Pt 4)), (6, (Pt 6)), (7, (Sr o5)), (9, (I o35.1)), (10, (I o35.2)), (11, (I (o5.length : Int))), (71, (Bo true))]) (σ := [(2, vS 4 (b8 a0)), (4, ⟨false, 3, [(V.agg [(Sr []), (Sr []), (V.sl 2 1 (List.map b4 ([] : List (List a6))))])]⟩), (6, vS 3 (i7 o3))]) (n := 100) rfl (by decide) (by decide) rfl) <| et (l5 (m := 5) (j := 5) (t' := [(1, (Sr a1)), (2, (Pt 2)), (4, (Pt 4)), (6, (Pt 6)), (7, (Sr o5)), (9, (I o35.1)), (10, (I o35.2)), (11, (I (o5.length : Int))), (71, (Bo true)), (73, (b8 a0)), (74, (I o35.1)), (75, (Sr o5)), (76, (I (o5.length : Int))), (77, (I (Go.IntKind.wrap .i64 ((o5.length : Int) - 1))))]) rfl rfl rfl) <| et (d5 (x := (cut o5 1 (Go.IntKind.wrap .i64 ((o5.length : Int) - 1)))) (w := fun v39 => (Sr v39)) rfl rfl rfl rfl rfl (u6 rfl rfl rfl rfl rfl rfl underlying9)) <| n5 fun v39 => et (k0 (m := 0) (j := 6) (t' := [(1, (Sr a1)), (2, (Pt 2)), (4, (Pt 4)), (6, (Pt 6)), (7, (Sr o5)), (9, (I o35.1)), (10, (I o35.2)), (11, (I (o5.length : Int))), (71, (Bo true)), (73, (b8 a0)), (74, (I o35.1)), (75, (Sr o5)), (76, (I (o5.length : Int))), (77, (I (Go.IntKind.wrap .i64 ((o5.length : Int) - 1)))), (78, (Sr v39))]) rfl rfl rfl) <| et (d5 (x := (N9 k a0 o35.1 v39)) (w := fun v40 => (V.tup [(V.sl 0 1 (List.map b4 v40.1)), (I v40.2)])) rfl rfl rfl rfl rfl (f9 rfl rfl rfl rfl rfl (iG k a0 o35.1 v39) (.inl rfl))) <| n5 fun v40 => l6 rfl) fun o41 => et b6 <| kr ⟨[(1, (Sr a1)), (2, (Pt 2)), (4, (Pt 4)), (6, (Pt 6)), (84, (Bo (o41.1 != 0)))], [(2, vS 4 (b8 a0)), (4, ⟨false, 3, [(V.agg [(Sr []), (Sr []), (V.sl 2 1 (List.map b4 ([] : List (List a6))))])]⟩), (6, vS 3 (i7 o41.2))], 100⟩ rfl <| kc rfl rfl (fun hc => ?_) fun hc => ?_
      ·rw [hc]
       refine et b6 <| kr ⟨[(4, (Pt 4)), (5, (Bo false))], [(4, ⟨false, 3, [(i7 ({ fSegment := [], fCodes := [], fWhen := ([] : List (List a6)) } : a8))]⟩)], 100⟩ rfl <| et p8 ?_
       rfl
      ·rw [hc]
       refine et d7 <| kg ol rfl (fun (o43 : Int × Str) => ⟨[(1, (Sr a1)), (4, (Pt 4)), (6, (Pt 6)), (10, (I o43.1)), (12, (Sr o43.2))], [(4, ⟨false, 3, [(V.agg [(Sr []), (Sr []), (V.sl 2 1 (List.map b4 ([] : List (List a6))))])]⟩), (6, vS 3 (i7 o41.2))], 100⟩) (rd 2 [(87, (b8 a0)), (88, (i7 o41.2))] rfl rfl <| rp rfl (f9 rfl rfl rfl rfl rfl (U2 k a0 o41.2) (.inl rfl)) fun v42 => b5 rfl) fun o43 => kg om rfl (fun (o44 : Bool × a8) => ⟨[(4, (Pt 4)), (5, (Bo o44.1))], [(4, vS 3 (i7 o44.2))], 100⟩) ?_ fun o44 => ?_
       ·refine rd 4 [(92, (i7 o41.2)), (93, (I o43.1)), (94, (Bo (o43.1 == 0))), (95, (Bo (o43.1 == 0)))] rfl rfl <| m9 (fun hc => ?_) fun hc => ?_
        ·rw [hc]
         exact c9 rfl
        ·rw [hc]
         exact c9 rfl
       refine et d9 ?_
       rfl
     ·rw [hc]
      refine et d7 <| et b6 <| kr ⟨[(1, (Sr a1)), (2, (Pt 2)), (4, (Pt 4)), (6, (Pt 6)), (84, (Bo (o35.2 != 0)))], [(2, vS 4 (b8 a0)), (4, ⟨false, 3, [(V.agg [(Sr []), (Sr []), (V.sl 2 1 (List.map b4 ([] : List (List a6))))])]⟩), (6, vS 3 (i7 o3))], 100⟩ rfl ?_
      rw [show (o35.2 != 0) = false by assumption]
      refine et (rf (t := false) rfl rfl) <| et d7 <| kg ol rfl (fun (o46 : Int × Str) => ⟨[(1, (Sr a1)), (4, (Pt 4)), (6, (Pt 6)), (10, (I o46.1)), (12, (Sr o46.2))], [(4, ⟨false, 3, [(V.agg [(Sr []), (Sr []), (V.sl 2 1 (List.map b4 ([] : List (List a6))))])]⟩), (6, vS 3 (i7 o3))], 100⟩) (rd 2 [(87, (b8 a0)), (88, (i7 o3))] rfl rfl <| rp rfl (f9 rfl rfl rfl rfl rfl (U2 k a0 o3) (.inl rfl)) fun v45 => b5 rfl) fun o46 => kg om rfl (fun (o47 : Bool × a8) => ⟨[(4, (Pt 4)), (5, (Bo o47.1))], [(4, vS 3 (i7 o47.2))], 100⟩) ?_ fun o47 => ?_
      ·refine rd 4 [(92, (i7 o3)), (93, (I o46.1)), (94, (Bo (o46.1 == 0))), (95, (Bo (o46.1 == 0)))] rfl rfl <| m9 (fun hc => ?_) fun hc => ?_
       ·rw [hc]
        exact c9 rfl
       ·rw [hc]
        exact c9 rfl
      refine et d9 ?_
      rfl
def bL : ((List a8) × Int) → V × List V := fun r => (.tup [(j2 r.1), (I r.2)], [])
theorem ko (k : Nat) (a0 : a7) (a1 : (List Str))  (K0 : (List a8) → Int → Option ((List a8) × Int)) (Kst : X × St → Option (V × List V)) (hK0 : ∀ (y0 : (List a8)) (y1 : Int), Kst (X.exit 0, ⟨[(2, (Pt 2)), (6, (V.sl 1 3 (List.map i7 y0))), (14, (sS a1)), (15, (I (a1.length : Int))), (16, (I y1)), (17, (Bo false))], [(2, vS 4 (b8 a0))], 34⟩) = (K0 y0 y1).map bL) (hret : ∀ s, Kst (X.ret, s) = D4 prog 34 [(b8 a0), (sS a1)] [] [.tmp 4, .tmp 5] (X.ret, s)) :
  ∀ (m : Nat) (x9 : (List a8)) (x10 : Int), (B5 (s7 prog (EV k) EH k Be) m ⟨[(2, (Pt 2)), (6, (V.sl 1 3 (List.map i7 x9))), (14, (sS a1)), (15, (I (a1.length : Int))), (16, (I x10))], [(2, vS 4 (b8 a0))], 34⟩).bind Kst = (I3 k a0 a1 K0 m x9 x10).map bL := by
 intro m
 induction m with
 | zero => intros; rfl
 | succ m ih =>
  intro x9 x10
  unfold I3
  refine et l8 <| kra [(17, (Bo (decide (x10 < (a1.length : Int)))))] rfl <| kc rfl rfl (fun hc => ?_) fun hc => ?_
  ·rw [hc]
   refine et d7 <| et (i4 rfl) <| kg Bc rfl (fun (o12 : Str) => ⟨[(2, (Pt 2)), (6, (V.sl 1 3 (List.map i7 x9))), (8, (Sr o12)), (14, (sS a1)), (15, (I (a1.length : Int))), (16, (I x10))], [(2, vS 4 (b8 a0))], 34⟩) (rs rfl (i6 (e := V.str) rfl rfl rfl underlying40 rfl (by decide)) fun v11 => b5 rfl) fun o12 => kg Bd rfl (fun (o14 : Bool × a8) => ⟨[(2, (Pt 2)), (6, (V.sl 1 3 (List.map i7 x9))), (9, (Pt 9)), (10, (Bo o14.1)), (14, (sS a1)), (15, (I (a1.length : Int))), (16, (I x10))], [(2, vS 4 (b8 a0)), (9, vS 3 (i7 o14.2))], 34⟩) (rd 2 [(21, (b8 a0)), (22, (Sr o12))] rfl rfl <| rp rfl (f9 rfl rfl rfl rfl rfl (rK k a0 o12) (.inl rfl)) fun v13 => b5 rfl) fun o14 => et b6 <| kr ⟨[(2, (Pt 2)), (6, (V.sl 1 3 (List.map i7 x9))), (9, (Pt 9)), (14, (sS a1)), (15, (I (a1.length : Int))), (16, (I x10)), (27, (Bo (!o14.1)))], [(2, vS 4 (b8 a0)), (9, vS 3 (i7 o14.2))], 34⟩ rfl <| kc rfl rfl (fun hc => ?_) fun hc => ?_
   ·rw [hc]
    refine et b6 <| kr ⟨[(4, (j2 (([] : List a8)))), (5, (I 3))], [], 34⟩ rfl <| et p8 <| et j7 <| et j6 <| et (hret _) ?_
    rfl
   ·rw [hc]
    exact et d7 <| kgl xK rfl (fun (o16 : (List a8)) => ⟨[(2, (Pt 2)), (6, (V.sl 1 3 (List.map i7 o16))), (14, (sS a1)), (15, (I (a1.length : Int))), (16, (I x10))], [(2, vS 4 (b8 a0))], 34⟩) (ra 3 3 ⟨[(2, (Pt 2)), (6, (j2 x9)), (9, (Pt 9)), (14, (sS a1)), (15, (I (a1.length : Int))), (16, (I x10)), (27, (Bo false)), (28, (V.sl 1 3 (List.map i7 x9))), (29, (i7 o14.2)), (30, (j2 (([o14.2] : List a8))))], [(2, vS 4 (b8 a0)), (9, vS 3 (i7 o14.2))], 34⟩ rfl rfl rfl <| et (O6 (x := (app x9 ([o14.2] : List a8))) (w := fun v15 => ((V.sl 1 3 (List.map i7 v15)), _)) rfl rfl rfl rfl (nh (e := i7) rfl rfl rfl rfl rfl rfl rfl rfl rfl rfl (by decide))) <| F8 fun v15 => b5 rfl) fun o16 => et i3 <| kl ⟨[(2, (Pt 2)), (6, (V.sl 1 3 (List.map i7 o16))), (14, (sS a1)), (15, (I (a1.length : Int))), (16, (I (Go.IntKind.wrap .i64 (x10 + 1))))], [(2, vS 4 (b8 a0))], 34⟩ rfl <| et d8 <| ih o16 (Go.IntKind.wrap .i64 (x10 + 1))
  ·rw [hc]
   exact et n8 <| et j1 <| hK0 x9 x10
theorem df (k : Nat) (a0 : a7) (a1 : (List Str)) : EV k 14 [(b8 a0), (sS a1)] = (Y6 k a0 a1).map bL := by
 cases k with
 | zero => rfl
 | succ k =>
  unfold Y6
  refine et (i2 (c := f14c) (N := 34) (regs := EH) rfl func14 rfl (by decide) rfl rfl rfl) <| kr ⟨[(1, (sS a1)), (2, (Pt 2))], [(2, vS 4 (b8 a0))], 34⟩ rfl <| et b6 <| kga Ba rfl (fun (o2 : Bool) => [(13, (Bo o2))]) (rd 1 [(11, (b8 a0))] rfl rfl <| rp rfl (f9 rfl rfl rfl rfl rfl (gf k a0) (.inl rfl)) fun v1 => b5 rfl) fun o2 => kc rfl rfl (fun hc => ?_) fun hc => ?_
  ·rw [hc]
   refine et b6 <| kr ⟨[(4, (j2 (([] : List a8)))), (5, (I 100))], [], 34⟩ rfl <| et p8 ?_
   rfl
  ·rw [hc]
   refine et d7 <| kr ⟨[(1, (sS a1)), (2, (Pt 2)), (6, (V.sl 1 3 (List.map i7 ([] : List a8))))], [(2, vS 4 (b8 a0))], 34⟩ rfl <| et b6 <| krp Bb rfl ⟨[(2, (Pt 2)), (6, (V.sl 1 3 (List.map i7 ([] : List a8)))), (14, (sS a1)), (15, (I (a1.length : Int))), (16, (I 0))], [(2, vS 4 (b8 a0))], 34⟩ ?_ ?_
   ·exact rd 1 [(14, (sS a1))] rfl rfl <| rl rfl (m8 (e := V.str) rfl rfl rfl rfl rfl rfl underlying40) <| b5 rfl
   refine et (i4 rfl) <| et p3 ?_
   refine ko k a0 a1 _ _ ?h_ssa_ParseAll_L1_0 ?hr_ssa_ParseAll_L1 k ([] : List a8) 0
   ·intro y17 y18
    refine et j3 <| kr ⟨[(4, (j2 y17)), (5, (I 0))], [], 34⟩ rfl <| et d9 ?_
    rfl
   ·intro s; exact rfl
def bE : Bool → V × List V := fun r => ((Bo r), [])
theorem ke (k : Nat) (a0 : Str)  (K0 : Int → Option Bool) (Kst : X × St → Option (V × List V)) (hK0 : ∀ (y0 : Int), Kst (X.exit 0, ⟨[(0, (Sr a0)), (3, (I y0)), (8, (Bo false))], [], 47⟩) = (K0 y0).map bE) (hret : ∀ s, Kst (X.ret, s) = D4 prog 47 [(Sr a0)] [] [.tmp 2] (X.ret, s)) :
  ∀ (m : Nat) (x7 : Int), (B5 (s7 prog (EV k) ES k CX) m ⟨[(0, (Sr a0)), (3, (I x7))], [], 47⟩).bind Kst = (N3 a0 K0 m x7).map bE := by
 intro m
 induction m with
 | zero => intros; rfl
 | succ m ih =>
  intro x7
  unfold N3
  refine et l8 <| et b6 <| kra [(8, (Bo (decide (x7 < (a0.length : Int)))))] rfl <| kc rfl rfl (fun hc => ?_) fun hc => ?_
  ·rw [hc]
   refine et d7 <| et (i4 rfl) <| kg CU rfl (fun (o10 : Bool) => ⟨[(0, (Sr a0)), (3, (I x7)), (4, (Bo o10))], [], 47⟩) ?_ fun o10 => ?_
   ·refine rd 2 [(11, (Sr a0)), (12, (I x7))] rfl rfl <| rp rfl (s9 rfl rfl rfl underlying9) fun v8 => bd 5 [(13, (V.int .u8 v8)), (14, (Bo (decide (v8 ≥ 65)))), (15, (Bo (decide (v8 ≥ 65))))] rfl rfl <| m9 (fun hc => ?_) fun hc => ?_
    ·rw [hc]
     exact rd 7 [(16, (Sr a0)), (17, (I x7))] rfl rfl <| rp rfl (s9 rfl rfl rfl underlying9) fun v9 => b5 rfl
    ·rw [hc]
     exact c9 rfl
   refine kg CV rfl (fun (o13 : Bool) => ⟨[(0, (Sr a0)), (3, (I x7)), (38, (Bo o13))], [], 47⟩) ?_ fun o13 => ?_
   ·refine rd 3 [(21, (Bo o10)), (22, (Bo (!o10))), (23, (Bo (!o10)))] rfl rfl <| m9 (fun hc => ?_) fun hc => ?_
    ·rw [hc]
     refine rd 6 [(24, (I x7)), (25, (Bo (x7 == 0))), (26, (Bo (x7 == 0)))] rfl rfl <| m9 (fun hc => ?_) fun hc => ?_
     ·rw [hc]
      exact c9 rfl
     ·rw [hc]
      refine rd 8 [(27, (Sr a0)), (28, (I x7))] rfl rfl <| rp rfl (s9 rfl rfl rfl underlying9) fun v11 => bd 12 [(29, (V.int .u8 v11)), (30, (Bo (decide (v11 < 48)))), (31, (Bo (decide (v11 < 48)))), (32, (Bo (decide (v11 < 48))))] rfl rfl <| m9 (fun hc => ?_) fun hc => ?_
      ·rw [hc]
       exact c9 rfl
      ·rw [hc]
       exact rd 14 [(33, (Sr a0)), (34, (I x7))] rfl rfl <| rp rfl (s9 rfl rfl rfl underlying9) fun v12 => b5 rfl
    ·rw [hc]
     exact c9 rfl
   refine kcl rfl rfl (fun hc => ?_) fun hc => ?_
   ·rw [hc]
    refine kr ⟨[(2, (Bo false))], [], 47⟩ rfl <| et d9 <| et j7 <| et j6 <| et (hret _) ?_
    rfl
   ·rw [hc]
    exact et l9 <| et i3 <| kl ⟨[(0, (Sr a0)), (3, (I (Go.IntKind.wrap .i64 (x7 + 1))))], [], 47⟩ rfl <| et d8 <| ih (Go.IntKind.wrap .i64 (x7 + 1))
  ·rw [hc]
   exact et n8 <| et j1 <| hK0 x7
theorem ah (k : Nat) (a0 : Str) : EV k 56 [(Sr a0)] = (J1 k a0).map bE := by
 cases k with
 | zero => rfl
 | succ k =>
  unfold J1
  refine et (i2 (c := f56c) (N := 47) (regs := ES) rfl func56 rfl (by decide) rfl rfl rfl) <| kra [] rfl <| et b6 <| kra [(3, (I 0))] rfl <| et (i4 rfl) <| et p3 ?_
  refine ke k a0 _ _ ?h_ref11_IsName_L1_0 ?hr_ref11_IsName_L1 k 0
  ·intro y14
   refine et j3 <| kg CW rfl (fun (o15 : Bool) => ⟨[(2, (Bo o15))], [], 47⟩) ?_ fun o15 => ?_
   ·refine rd 4 [(39, (Sr a0)), (40, (I (a0.length : Int))), (41, (Bo (decide ((a0.length : Int) ≥ 1)))), (42, (Bo (decide ((a0.length : Int) ≥ 1))))] rfl rfl <| m9 (fun hc => ?_) fun hc => ?_
    ·rw [hc]
     exact c9 rfl
    ·rw [hc]
     exact c9 rfl
   refine et d9 ?_
   rfl
  ·intro s; exact rfl
def Q9 : Bool → V × List V := fun r => ((Bo r), [])
theorem kh (k : Nat) (a0 : b7) (x11 : Int) (o13 : d6)  (K0 : Int → Option Bool) (Kst : X × St → Option (V × List V)) (hK0 : ∀ (y0 : Int), Kst (X.exit 2, ⟨[(1, (Pt 1)), (3, (I x11)), (4, (Pt 4)), (5, (I y0)), (51, (Bo false))], [(1, vS 8 (i9 a0)), (4, vS 3 (j9 o13))], 112⟩) = (K0 y0).map Q9) (hret : ∀ s, Kst (X.ret, s) = D4 prog 112 [(i9 a0)] [] [.tmp 2] (X.ret, s)) :
  ∀ (m : Nat) (x18 : Int), (B5 (s7 prog (EV k) Ad k Db) m ⟨[(1, (Pt 1)), (3, (I x11)), (4, (Pt 4)), (5, (I x18))], [(1, vS 8 (i9 a0)), (4, vS 3 (j9 o13))], 112⟩).bind Kst = (F3 a0 x11 o13 K0 m x18).map Q9 := by
 intro m
 induction m with
 | zero => intros; rfl
 | succ m ih =>
  intro x18
  unfold F3
  refine et l8 <| et b6 <| kra [(51, (Bo (decide (x18 < x11))))] rfl <| kc rfl rfl (fun hc => ?_) fun hc => ?_
  ·rw [hc]
   refine et d7 <| et (i4 rfl) <| kd yr rfl (fun (o20 : Bool) => ⟨[(1, (Pt 1)), (3, (I x11)), (4, (Pt 4)), (5, (I x18)), (62, (Bo o20))], [(1, vS 8 (i9 a0)), (4, vS 3 (j9 o13))], 112⟩) (et (j4 (p := 9) (dk := true) (t := [(1, (Pt 1)), (3, (I x11)), (4, (Pt 4)), (5, (I x18)), (51, (Bo true))]) (σ := [(1, vS 8 (i9 a0)), (4, vS 3 (j9 o13))]) (n := 112) rfl (by decide) (by decide) rfl) <| et (l5 (m := 3) (j := 3) (t' := [(1, (Pt 1)), (3, (I x11)), (4, (Pt 4)), (5, (I x18)), (51, (Bo true)), (54, (V.ptr 1 0 4)), (55, (j8 a0.fFields)), (56, (I x18))]) rfl rfl rfl) <| et (d5 (x := (idx a0.fFields x18)) (w := fun v19 => (Pr (j9 v19))) rfl rfl rfl rfl rfl (i6 (e := j9) rfl rfl rfl underlying46 rfl (by decide))) <| n5 fun v19 => l6 rfl) fun o20 => kcl rfl rfl (fun hc => ?_) fun hc => ?_
   ·rw [hc]
    refine kr ⟨[(2, (Bo false))], [], 112⟩ rfl <| et d9 <| et j7 <| et j6 <| et (hret _) ?_
    rfl
   ·rw [hc]
    exact et l9 <| et i3 <| kl ⟨[(1, (Pt 1)), (3, (I x11)), (4, (Pt 4)), (5, (I (Go.IntKind.wrap .i64 (x18 + 1))))], [(1, vS 8 (i9 a0)), (4, vS 3 (j9 o13))], 112⟩ rfl <| et d8 <| ih (Go.IntKind.wrap .i64 (x18 + 1))
  ·rw [hc]
   exact et n8 <| et j1 <| hK0 x18
theorem kf (k : Nat) (a0 : b7)  (K0 : Int → Option Bool) (Kst : X × St → Option (V × List V)) (hK0 : ∀ (y0 : Int), Kst (X.exit 0, ⟨[(1, (Pt 1)), (3, (I y0)), (10, (Bo false))], [(1, vS 8 (i9 a0))], 112⟩) = (K0 y0).map Q9) (hret : ∀ s, Kst (X.ret, s) = D4 prog 112 [(i9 a0)] [] [.tmp 2] (X.ret, s)) :
  ∀ (m : Nat) (x11 : Int), (B5 (s7 prog (EV k) Ad k Dc) m ⟨[(1, (Pt 1)), (3, (I x11))], [(1, vS 8 (i9 a0))], 112⟩).bind Kst = (I0 k a0 K0 m x11).map Q9 := by
 intro m
 induction m with
 | zero => intros; rfl
 | succ m ih =>
  intro x11
  unfold I0
  refine et l8 <| et b6 <| krp CY rfl ⟨[(1, (Pt 1)), (3, (I x11)), (10, (Bo (decide (x11 < (a0.fFields.length : Int)))))], [(1, vS 8 (i9 a0))], 112⟩ ?_ ?_
  ·exact rd 3 [(6, (I x11)), (7, (V.ptr 1 0 4)), (8, (j8 a0.fFields))] rfl rfl <| rl rfl (m8 (e := j9) rfl rfl rfl rfl rfl rfl underlying46) <| b5 rfl
  refine kc rfl rfl (fun hc => ?_) fun hc => ?_
  ·rw [hc]
   refine et d7 <| et (i4 rfl) <| kg CZ rfl (fun (o13 : d6) => ⟨[(1, (Pt 1)), (3, (I x11)), (4, (Pt 4))], [(1, vS 8 (i9 a0)), (4, vS 3 (j9 o13))], 112⟩) (rd 3 [(13, (V.ptr 1 0 4)), (14, (j8 a0.fFields)), (15, (I x11))] rfl rfl <| rs rfl (i6 (e := j9) rfl rfl rfl underlying46 rfl (by decide)) fun v12 => b5 rfl) fun o13 => et b6 <| kga Da rfl (fun (o15 : Bool) => [(48, (Bo o15))]) ?_ fun o15 => ?_
   ·refine rd 2 [(18, (Pt 4)), (19, (Sr o13.fName))] rfl rfl <| rp rfl (f9 rfl rfl rfl rfl rfl (ah k o13.fName) (.inl rfl)) fun v14 => bd 5 [(20, (Bo v14)), (21, (Bo (!v14))), (22, (Bo (!v14)))] rfl rfl <| m9 (fun hc => ?_) fun hc => ?_
    ·rw [hc]
     exact c9 rfl
    ·rw [hc]
     refine rd 10 [(23, (V.ptr 4 0 1)), (24, (I o13.fAt)), (25, (Bo (decide (o13.fAt < 0)))), (26, (Bo (decide (o13.fAt < 0)))), (27, (Bo (decide (o13.fAt < 0))))] rfl rfl <| m9 (fun hc => ?_) fun hc => ?_
     ·rw [hc]
      exact c9 rfl
     ·rw [hc]
      refine rd 17 [(28, (V.ptr 4 0 1)), (29, (I o13.fAt)), (30, (V.ptr 1 0 3)), (31, (I a0.fSize)), (32, (Bo (decide (o13.fAt > a0.fSize)))), (33, (Bo (decide (o13.fAt > a0.fSize)))), (34, (Bo (decide (o13.fAt > a0.fSize))))] rfl rfl <| m9 (fun hc => ?_) fun hc => ?_
      ·rw [hc]
       exact c9 rfl
      ·rw [hc]
       refine rd 22 [(35, (V.ptr 4 0 2)), (36, (I o13.fBytes)), (37, (Bo (decide (o13.fBytes < 1)))), (38, (Bo (decide (o13.fBytes < 1)))), (39, (Bo (decide (o13.fBytes < 1))))] rfl rfl <| m9 (fun hc => ?_) fun hc => ?_
       ·rw [hc]
        exact c9 rfl
       ·rw [hc]
        exact c9 rfl
   refine kc rfl rfl (fun hc => ?_) fun hc => ?_
   ·rw [hc]
    refine et b6 <| kr ⟨[(2, (Bo false))], [], 112⟩ rfl <| et p8 <| et j7 <| et j6 <| et (hret _) ?_
    rfl
   ·rw [hc]
    refine et d7 <| kr ⟨[(1, (Pt 1)), (3, (I x11)), (4, (Pt 4)), (5, (I 0))], [(1, vS 8 (i9 a0)), (4, vS 3 (j9 o13))], 112⟩ rfl <| et (I5 rfl) <| et p3 ?_
    refine kh k a0 x11 o13 _ _ ?h_ref11_fields_L2_0 ?hr_ref11_fields_L2 k 0
    ·intro y21
     exact et j3 <| et l9 <| et i3 <| kl ⟨[(1, (Pt 1)), (3, (I (Go.IntKind.wrap .i64 (x11 + 1))))], [(1, vS 8 (i9 a0))], 112⟩ rfl <| et d8 <| ih (Go.IntKind.wrap .i64 (x11 + 1))
    ·intro s; exact hret s
  ·rw [hc]
   exact et n8 <| et j1 <| hK0 x11
theorem nB (k : Nat) (a0 : b7) : EV k 57 [(i9 a0)] = (aY k a0).map Q9 := by
 cases k with
 | zero => rfl
 | succ k =>
  unfold aY
  refine et (i2 (c := f57c) (N := 112) (regs := Ad) rfl func57 rfl (by decide) rfl rfl rfl) <| kr ⟨[(1, (Pt 1))], [(1, vS 8 (i9 a0))], 112⟩ rfl <| et b6 <| kra [(3, (I 0))] rfl <| et (i4 rfl) <| et p3 ?_
  refine kf k a0 _ _ ?h_ref11_fields_L1_0 ?hr_ref11_fields_L1 k 0
  ·intro y22
   refine et j3 <| et b6 <| kg yu rfl (fun (o23 : Bool) => ⟨[(1, (Pt 1)), (82, (Bo o23))], [(1, vS 8 (i9 a0))], 112⟩) ?_ fun o23 => ?_
   ·refine rd 4 [(63, (V.ptr 1 0 5)), (64, (I a0.fKey)), (65, (Bo (decide (a0.fKey < (-1))))), (66, (Bo (decide (a0.fKey < (-1)))))] rfl rfl <| m9 (fun hc => ?_) fun hc => ?_
    ·rw [hc]
     exact c9 rfl
    ·rw [hc]
     refine rd 8 [(67, (V.ptr 1 0 5)), (68, (I a0.fKey)), (69, (V.ptr 1 0 4)), (70, (j8 a0.fFields))] rfl rfl <| rl rfl (m8 (e := j9) rfl rfl rfl rfl rfl rfl underlying46) <| bd 12 [(71, (I (a0.fFields.length : Int))), (72, (Bo (decide (a0.fKey ≥ (a0.fFields.length : Int))))), (73, (Bo (decide (a0.fKey ≥ (a0.fFields.length : Int))))), (74, (Bo (decide (a0.fKey ≥ (a0.fFields.length : Int)))))] rfl rfl <| m9 (fun hc => ?_) fun hc => ?_
     ·rw [hc]
      exact c9 rfl
     ·rw [hc]
      refine rd 16 [(75, (V.ptr 1 0 5)), (76, (I a0.fKey)), (77, (Bo (decide (a0.fKey < 0)))), (78, (Bo (decide (a0.fKey < 0))))] rfl rfl <| m9 (fun hc => ?_) fun hc => ?_
      ·rw [hc]
       exact c9 rfl
      ·rw [hc]
       exact c9 rfl
   refine kc rfl rfl (fun hc => ?_) fun hc => ?_
   ·rw [hc]
    refine et b6 <| kr ⟨[(2, (Bo false))], [], 112⟩ rfl <| et p8 ?_
    rfl
   ·rw [hc]
    refine et d7 <| kd yv rfl (fun (o26 : Bool) => ⟨[(2, (Bo o26))], [], 112⟩) ?_ fun o26 => ?_
    ·refine et (j4 (p := 30) (dk := true) (t := [(1, (Pt 1)), (82, (Bo false))]) (σ := [(1, vS 8 (i9 a0))]) (n := 112) rfl (by decide) (by decide) rfl) <| et (l5 (m := 2) (j := 2) (t' := [(1, (Pt 1)), (82, (Bo false)), (83, (V.ptr 1 0 4)), (84, (j8 a0.fFields))]) rfl rfl rfl) <| et (d5 (x := some ()) (w := fun _ => (I (a0.fFields.length : Int))) rfl rfl rfl rfl rfl (m8 (e := j9) rfl rfl rfl rfl rfl rfl underlying46)) <| et Y5 <| et (k0 (m := 2) (j := 5) (t' := [(1, (Pt 1)), (82, (Bo false)), (83, (V.ptr 1 0 4)), (84, (j8 a0.fFields)), (85, (I (a0.fFields.length : Int))), (86, (Bo (decide ((a0.fFields.length : Int) ≤ 5)))), (87, (Bo (decide ((a0.fFields.length : Int) ≤ 5))))]) rfl rfl rfl) <| m9 (fun hc => ?_) fun hc => ?_
     ·rw [hc]
      refine et (l5 (m := 4) (j := 9) (t' := [(1, (Pt 1)), (82, (Bo false)), (83, (V.ptr 1 0 4)), (84, (j8 a0.fFields)), (85, (I (a0.fFields.length : Int))), (86, (Bo true)), (87, (Bo true)), (88, (V.ptr 1 0 5)), (89, (I a0.fKey)), (90, (Bo (decide (a0.fKey < 0)))), (91, (Bo (decide (a0.fKey < 0))))]) rfl rfl rfl) <| m9 (fun hc => ?_) fun hc => ?_
      ·rw [hc]
       exact l6 rfl
      ·rw [hc]
       exact et (l5 (m := 4) (j := 13) (t' := [(1, (Pt 1)), (82, (Bo false)), (83, (V.ptr 1 0 4)), (84, (j8 a0.fFields)), (85, (I (a0.fFields.length : Int))), (86, (Bo true)), (87, (Bo true)), (88, (V.ptr 1 0 5)), (89, (I a0.fKey)), (90, (Bo false)), (91, (Bo false)), (92, (V.ptr 1 0 4)), (93, (j8 a0.fFields)), (94, (V.ptr 1 0 5)), (95, (I a0.fKey))]) rfl rfl rfl) <| et (d5 (x := (idx a0.fFields a0.fKey)) (w := fun v24 => (Pr (j9 v24))) rfl rfl rfl rfl rfl (i6 (e := j9) rfl rfl rfl underlying46 rfl (by decide))) <| n5 fun v24 => et (k0 (m := 6) (j := 20) (t' := [(1, (Pt 1)), (82, (Bo false)), (83, (V.ptr 1 0 4)), (84, (j8 a0.fFields)), (85, (I (a0.fFields.length : Int))), (86, (Bo true)), (87, (Bo true)), (88, (V.ptr 1 0 5)), (89, (I a0.fKey)), (90, (Bo false)), (91, (Bo false)), (92, (V.ptr 1 0 4)), (93, (j8 a0.fFields)), (94, (V.ptr 1 0 5)), (95, (I a0.fKey)), (96, (Pr (j9 v24))), (97, (Pr (I v24.fAt))), (98, (I v24.fAt)), (99, (V.ptr 1 0 4)), (100, (j8 a0.fFields)), (101, (V.ptr 1 0 5)), (102, (I a0.fKey))]) rfl rfl rfl) <| et (d5 (x := (idx a0.fFields a0.fKey)) (w := fun v25 => (Pr (j9 v25))) rfl rfl rfl rfl rfl (i6 (e := j9) rfl rfl rfl underlying46 rfl (by decide))) <| n5 fun v25 => l6 rfl
     ·rw [hc]
      exact l6 rfl
    refine et d9 ?_
    rfl
  ·intro s; exact rfl
def cS : Bool → V × List V := fun r => ((Bo r), [])
theorem lx (k : Nat) (a0 : a7) (a1 : Int) (a2 : Int)  (K0 : Int → Option Bool) (Kst : X × St → Option (V × List V)) (hK0 : ∀ (y0 : Int), Kst (X.exit 0, ⟨[(1, (I a1)), (2, (I y0)), (3, (Pt 3)), (14, (Bo false))], [(3, vS 4 (b8 a0))], 24⟩) = (K0 y0).map cS) (hret : ∀ s, Kst (X.ret, s) = D4 prog 24 [(b8 a0), (I a1), (I a2)] [] [.tmp 6] (X.ret, s)) :
  ∀ (m : Nat) (x5 : Int), (B5 (s7 prog (EV k) ET k Df) m ⟨[(1, (I a1)), (2, (I x5)), (3, (Pt 3))], [(3, vS 4 (b8 a0))], 24⟩).bind Kst = (Q8 a0 a1 K0 m x5).map cS := by
 intro m
 induction m with
 | zero => intros; rfl
 | succ m ih =>
  intro x5
  unfold Q8
  refine et l8 <| et b6 <| kra [(14, (Bo (decide (x5 ≥ 0))))] rfl <| kc rfl rfl (fun hc => ?_) fun hc => ?_
  ·rw [hc]
   refine et d7 <| et (i4 rfl) <| kr ⟨[(1, (I a1)), (2, (I x5)), (3, (Pt 3)), (23, (Bo (x5 == a1)))], [(3, vS 4 (b8 a0))], 24⟩ rfl <| kcl rfl rfl (fun hc => ?_) fun hc => ?_
   ·rw [hc]
    refine kr ⟨[(6, (Bo true))], [], 24⟩ rfl <| et d9 <| et j7 <| et j6 <| et (hret _) ?_
    rfl
   ·rw [hc]
    exact et l9 <| et i3 <| kgl De rfl (fun (o7 : Int) => ⟨[(1, (I a1)), (2, (I o7)), (3, (Pt 3))], [(3, vS 4 (b8 a0))], 24⟩) (ra 3 3 ⟨[(1, (I a1)), (2, (I x5)), (3, (Pt 3)), (15, (V.ptr 3 0 2)), (16, (l7 a0.fTypes)), (17, (I x5)), (23, (Bo false))], [(3, vS 4 (b8 a0))], 24⟩ rfl rfl rfl <| rp rfl (i6 (e := i9) rfl rfl rfl underlying22 rfl (by decide)) fun v6 => b5 rfl) fun o7 => et d8 <| ih o7
  ·rw [hc]
   exact et n8 <| et j1 <| hK0 x5
theorem oW (k : Nat) (a0 : a7) (a1 : Int) (a2 : Int) : EV k 58 [(b8 a0), (I a1), (I a2)] = (cn k a0 a1 a2).map cS := by
 cases k with
 | zero => rfl
 | succ k =>
  unfold cn
  refine et (i2 (c := f58c) (N := 24) (regs := ET) rfl func58 rfl (by decide) rfl rfl rfl) <| kr ⟨[(1, (I a1)), (2, (I a2)), (3, (Pt 3))], [(3, vS 4 (b8 a0))], 24⟩ rfl <| et b6 <| kg Dd rfl (fun (o2 : Int) => ⟨[(1, (I a1)), (2, (I o2)), (3, (Pt 3))], [(3, vS 4 (b8 a0))], 24⟩) (rd 3 [(7, (V.ptr 3 0 2)), (8, (l7 a0.fTypes)), (9, (I a2))] rfl rfl <| rp rfl (i6 (e := i9) rfl rfl rfl underlying22 rfl (by decide)) fun v1 => b5 rfl) fun o2 => et (i4 rfl) <| et p3 ?_
  refine lx k a0 a1 a2 _ _ ?h_ref11_above_L1_0 ?hr_ref11_above_L1 k o2
  ·intro y8
   refine et j3 <| kr ⟨[(6, (Bo false))], [], 24⟩ rfl <| et d9 ?_
   rfl
  ·intro s; exact rfl
def fm : (List Int) → V × List V := fun r => ((sI r), [])
theorem nD (k : Nat) (a0 : a7) (a1 : Int)  (K0 : Int → (List Int) → Option (List Int)) (Kst : X × St → Option (V × List V)) (hK0 : ∀ (y0 : Int) (y1 : (List Int)), Kst (X.exit 0, ⟨[(1, (I y0)), (2, (Pt 2)), (5, (sI y1)), (7, (Bo false))], [(2, vS 4 (b8 a0))], 19⟩) = (K0 y0 y1).map fm) (hret : ∀ s, Kst (X.ret, s) = D4 prog 19 [(b8 a0), (I a1)] [] [.tmp 4] (X.ret, s)) :
  ∀ (m : Nat) (x5 : Int) (x6 : (List Int)), (B5 (s7 prog (EV k) EU k Di) m ⟨[(1, (I x5)), (2, (Pt 2)), (5, (sI x6))], [(2, vS 4 (b8 a0))], 19⟩).bind Kst = (R9 a0 K0 m x5 x6).map fm := by
 intro m
 induction m with
 | zero => intros; rfl
 | succ m ih =>
  intro x5 x6
  unfold R9
  refine et l8 <| et b6 <| kra [(7, (Bo (decide (x5 ≥ 0))))] rfl <| kc rfl rfl (fun hc => ?_) fun hc => ?_
  ·rw [hc]
   exact et d7 <| et (I5 rfl) <| kg Dg rfl (fun (o8 : (List Int)) => ⟨[(1, (I x5)), (2, (Pt 2)), (5, (sI o8))], [(2, vS 4 (b8 a0))], 19⟩) (rd 3 [(8, (I x5)), (9, (V.sl 1 1 (List.map I ([x5] : List Int)))), (10, (sI x6))] rfl rfl <| et (O6 (x := (app ([x5] : List Int) x6)) (w := fun v7 => ((V.sl 1 1 (List.map I v7)), _)) rfl rfl rfl rfl (nh (e := I) rfl rfl rfl rfl rfl rfl rfl rfl rfl rfl (by decide))) <| F8 fun v7 => b5 rfl) fun o8 => kgl Dh rfl (fun (o10 : Int) => ⟨[(1, (I o10)), (2, (Pt 2)), (5, (sI o8))], [(2, vS 4 (b8 a0))], 19⟩) (rd 3 [(12, (V.ptr 2 0 2)), (13, (l7 a0.fTypes)), (14, (I x5))] rfl rfl <| rp rfl (i6 (e := i9) rfl rfl rfl underlying22 rfl (by decide)) fun v9 => b5 rfl) fun o10 => et i3 <| et l9 <| et d8 <| ih o10 o8
  ·rw [hc]
   exact et n8 <| et j1 <| hK0 x5 x6
theorem lA (k : Nat) (a0 : a7) (a1 : Int) : EV k 59 [(b8 a0), (I a1)] = (dL k a0 a1).map fm := by
 cases k with
 | zero => rfl
 | succ k =>
  unfold dL
  refine et (i2 (c := f59c) (N := 19) (regs := EU) rfl func59 rfl (by decide) rfl rfl rfl) <| kr ⟨[(1, (I a1)), (2, (Pt 2))], [(2, vS 4 (b8 a0))], 19⟩ rfl <| kra [(5, (sI (([] : List Int))))] rfl <| et (i4 rfl) <| et p3 ?_
  refine nD k a0 a1 _ _ ?h_ref11_way_L1_0 ?hr_ref11_way_L1 k a1 ([] : List Int)
  ·intro y11 y12
   refine et j3 <| kr ⟨[(4, (sI y12))], [], 19⟩ rfl <| et d9 ?_
   rfl
  ·intro s; exact rfl
def C8 : Bool → V × List V := fun r => ((Bo r), [])
theorem ls (k : Nat) (a0 : a7) (x20 : Int) (o22 : b7)  (K0 : Int → Option Bool) (Kst : X × St → Option (V × List V)) (hK0 : ∀ (y0 : Int), Kst (X.exit 2, ⟨[(1, (Pt 1)), (3, (I x20)), (4, (Pt 4)), (5, (I y0)), (81, (Bo false))], [(1, vS 4 (b8 a0)), (4, vS 8 (i9 o22))], 232⟩) = (K0 y0).map C8) (hret : ∀ s, Kst (X.ret, s) = D4 prog 232 [(b8 a0)] [] [.tmp 2] (X.ret, s)) :
  ∀ (m : Nat) (x28 : Int), (B5 (s7 prog (EV k) vA k BU) m ⟨[(1, (Pt 1)), (3, (I x20)), (4, (Pt 4)), (5, (I x28))], [(1, vS 4 (b8 a0)), (4, vS 8 (i9 o22))], 232⟩).bind Kst = (G9 a0 x20 o22 K0 m x28).map C8 := by
 intro m
 induction m with
 | zero => intros; rfl
 | succ m ih =>
  intro x28
  unfold G9
  refine et l8 <| et b6 <| kra [(81, (Bo (decide (x28 < x20))))] rfl <| kc rfl rfl (fun hc => ?_) fun hc => ?_
  ·rw [hc]
   refine et d7 <| et (i4 rfl) <| kd xS rfl (fun (o30 : Bool) => ⟨[(1, (Pt 1)), (3, (I x20)), (4, (Pt 4)), (5, (I x28)), (92, (Bo o30))], [(1, vS 4 (b8 a0)), (4, vS 8 (i9 o22))], 232⟩) (et (j4 (p := 9) (dk := true) (t := [(1, (Pt 1)), (3, (I x20)), (4, (Pt 4)), (5, (I x28)), (81, (Bo true))]) (σ := [(1, vS 4 (b8 a0)), (4, vS 8 (i9 o22))]) (n := 232) rfl (by decide) (by decide) rfl) <| et (l5 (m := 3) (j := 3) (t' := [(1, (Pt 1)), (3, (I x20)), (4, (Pt 4)), (5, (I x28)), (81, (Bo true)), (84, (V.ptr 1 0 2)), (85, (l7 a0.fTypes)), (86, (I x28))]) rfl rfl rfl) <| et (d5 (x := (idx a0.fTypes x28)) (w := fun v29 => (Pr (i9 v29))) rfl rfl rfl rfl rfl (i6 (e := i9) rfl rfl rfl underlying22 rfl (by decide))) <| n5 fun v29 => l6 rfl) fun o30 => kcl rfl rfl (fun hc => ?_) fun hc => ?_
   ·rw [hc]
    refine kr ⟨[(2, (Bo false))], [], 232⟩ rfl <| et d9 <| et j7 <| et j6 <| et (hret _) ?_
    rfl
   ·rw [hc]
    exact et l9 <| et i3 <| kl ⟨[(1, (Pt 1)), (3, (I x20)), (4, (Pt 4)), (5, (I (Go.IntKind.wrap .i64 (x28 + 1))))], [(1, vS 4 (b8 a0)), (4, vS 8 (i9 o22))], 232⟩ rfl <| et d8 <| ih (Go.IntKind.wrap .i64 (x28 + 1))
  ·rw [hc]
   exact et n8 <| et j1 <| hK0 x28
theorem lq (k : Nat) (a0 : a7)  (K0 : Int → Option Bool) (Kst : X × St → Option (V × List V)) (hK0 : ∀ (y0 : Int), Kst (X.exit 0, ⟨[(1, (Pt 1)), (3, (I y0)), (45, (Bo false))], [(1, vS 4 (b8 a0))], 232⟩) = (K0 y0).map C8) (hret : ∀ s, Kst (X.ret, s) = D4 prog 232 [(b8 a0)] [] [.tmp 2] (X.ret, s)) :
  ∀ (m : Nat) (x20 : Int), (B5 (s7 prog (EV k) vA k BV) m ⟨[(1, (Pt 1)), (3, (I x20))], [(1, vS 4 (b8 a0))], 232⟩).bind Kst = (E5 k a0 K0 m x20).map C8 := by
 intro m
 induction m with
 | zero => intros; rfl
 | succ m ih =>
  intro x20
  unfold E5
  refine et l8 <| et b6 <| krp BR rfl ⟨[(1, (Pt 1)), (3, (I x20)), (45, (Bo (decide (x20 < (a0.fTypes.length : Int)))))], [(1, vS 4 (b8 a0))], 232⟩ ?_ ?_
  ·exact rd 3 [(41, (I x20)), (42, (V.ptr 1 0 2)), (43, (l7 a0.fTypes))] rfl rfl <| rl rfl (m8 (e := i9) rfl rfl rfl rfl rfl rfl underlying22) <| b5 rfl
  refine kc rfl rfl (fun hc => ?_) fun hc => ?_
  ·rw [hc]
   refine et d7 <| et (i4 rfl) <| kg BS rfl (fun (o22 : b7) => ⟨[(1, (Pt 1)), (3, (I x20)), (4, (Pt 4))], [(1, vS 4 (b8 a0)), (4, vS 8 (i9 o22))], 232⟩) (rd 3 [(48, (V.ptr 1 0 2)), (49, (l7 a0.fTypes)), (50, (I x20))] rfl rfl <| rs rfl (i6 (e := i9) rfl rfl rfl underlying22 rfl (by decide)) fun v21 => b5 rfl) fun o22 => et b6 <| kga BT rfl (fun (o25 : Bool) => [(78, (Bo o25))]) ?_ fun o25 => ?_
   ·refine rd 2 [(53, (Pt 4)), (54, (Sr o22.fName))] rfl rfl <| rp rfl (f9 rfl rfl rfl rfl rfl (ah k o22.fName) (.inl rfl)) fun v23 => bd 5 [(55, (Bo v23)), (56, (Bo (!v23))), (57, (Bo (!v23)))] rfl rfl <| m9 (fun hc => ?_) fun hc => ?_
    ·rw [hc]
     exact c9 rfl
    ·rw [hc]
     refine rd 10 [(58, (V.ptr 4 0 2)), (59, (I o22.fMin)), (60, (Bo (decide (o22.fMin < 1)))), (61, (Bo (decide (o22.fMin < 1)))), (62, (Bo (decide (o22.fMin < 1))))] rfl rfl <| m9 (fun hc => ?_) fun hc => ?_
     ·rw [hc]
      exact c9 rfl
     ·rw [hc]
      refine rd 17 [(63, (V.ptr 4 0 2)), (64, (I o22.fMin)), (65, (V.ptr 4 0 3)), (66, (I o22.fSize)), (67, (Bo (decide (o22.fMin > o22.fSize)))), (68, (Bo (decide (o22.fMin > o22.fSize)))), (69, (Bo (decide (o22.fMin > o22.fSize))))] rfl rfl <| m9 (fun hc => ?_) fun hc => ?_
      ·rw [hc]
       exact c9 rfl
      ·rw [hc]
       refine rd 22 [(70, (V.ptr 4 0 3)), (71, (I o22.fSize)), (72, (Bo (decide (o22.fSize > 40)))), (73, (Bo (decide (o22.fSize > 40)))), (74, (Bo (decide (o22.fSize > 40))))] rfl rfl <| m9 (fun hc => ?_) fun hc => ?_
       ·rw [hc]
        exact c9 rfl
       ·rw [hc]
        exact rd 23 [(75, (i9 o22))] rfl rfl <| rp rfl (f9 rfl rfl rfl rfl rfl (nB k o22) (.inl rfl)) fun v24 => b5 rfl
   refine kc rfl rfl (fun hc => ?_) fun hc => ?_
   ·rw [hc]
    refine et b6 <| kr ⟨[(2, (Bo false))], [], 232⟩ rfl <| et p8 <| et j7 <| et j6 <| et (hret _) ?_
    rfl
   ·rw [hc]
    refine et d7 <| et b6 <| kr ⟨[(1, (Pt 1)), (3, (I x20)), (4, (Pt 4)), (5, (I 0))], [(1, vS 4 (b8 a0)), (4, vS 8 (i9 o22))], 232⟩ rfl <| et (i4 rfl) <| et p3 ?_
    refine ls k a0 x20 o22 _ _ ?h_ref11_Valid_L2_0 ?hr_ref11_Valid_L2 k 0
    ·intro y31
     refine et j3 <| et b6 <| kr ⟨[(1, (Pt 1)), (3, (I x20)), (4, (Pt 4)), (94, (Bo (x20 == 0)))], [(1, vS 4 (b8 a0)), (4, vS 8 (i9 o22))], 232⟩ rfl <| kc rfl rfl (fun hc => ?_) fun hc => ?_
     ·rw [hc]
      refine et b6 <| et b6 <| kg xT rfl (fun (o33 : Bool) => ⟨[(1, (Pt 1)), (3, (I x20)), (117, (Bo o33))], [(1, vS 4 (b8 a0))], 232⟩) ?_ fun o33 => ?_
      ·refine rd 4 [(95, (V.ptr 4 0 1)), (96, (I o22.fParent)), (97, (Bo (o22.fParent != (-1)))), (98, (Bo (o22.fParent != (-1))))] rfl rfl <| m9 (fun hc => ?_) fun hc => ?_
       ·rw [hc]
        exact c9 rfl
       ·rw [hc]
        refine rd 9 [(99, (V.ptr 4 0 5)), (100, (I o22.fKey)), (101, (Bo (decide (o22.fKey < 0)))), (102, (Bo (decide (o22.fKey < 0)))), (103, (Bo (decide (o22.fKey < 0))))] rfl rfl <| m9 (fun hc => ?_) fun hc => ?_
        ·rw [hc]
         exact c9 rfl
        ·rw [hc]
         refine rd 14 [(104, (V.ptr 4 0 6)), (105, (Bo o22.fUnique)), (106, (Bo (!o22.fUnique))), (107, (Bo (!o22.fUnique))), (108, (Bo (!o22.fUnique)))] rfl rfl <| m9 (fun hc => ?_) fun hc => ?_
         ·rw [hc]
          exact c9 rfl
         ·rw [hc]
          exact rd 18 [(109, (V.ptr 4 0 4)), (110, (j8 o22.fFields)), (111, (V.ptr 4 0 5)), (112, (I o22.fKey))] rfl rfl <| rp rfl (i6 (e := j9) rfl rfl rfl underlying46 rfl (by decide)) fun v32 => b5 rfl
      refine kc rfl rfl (fun hc => ?_) fun hc => ?_
      ·rw [hc]
       refine et b6 <| kr ⟨[(2, (Bo false))], [], 232⟩ rfl <| et p8 <| et j7 <| et j6 <| et (hret _) ?_
       rfl
      ·rw [hc]
       exact et d7 <| et n8 <| et j3 <| kl ⟨[(1, (Pt 1)), (3, (I (Go.IntKind.wrap .i64 (x20 + 1))))], [(1, vS 4 (b8 a0))], 232⟩ rfl <| et d8 <| ih (Go.IntKind.wrap .i64 (x20 + 1))
     ·rw [hc]
      refine et d7 <| kg xU rfl (fun (o37 : Bool) => ⟨[(1, (Pt 1)), (3, (I x20)), (149, (Bo o37))], [(1, vS 4 (b8 a0))], 232⟩) ?_ fun o37 => ?_
      ·refine rd 4 [(118, (V.ptr 4 0 1)), (119, (I o22.fParent)), (120, (Bo (decide (o22.fParent < 0)))), (121, (Bo (decide (o22.fParent < 0))))] rfl rfl <| m9 (fun hc => ?_) fun hc => ?_
       ·rw [hc]
        exact c9 rfl
       ·rw [hc]
        refine rd 10 [(122, (V.ptr 4 0 1)), (123, (I o22.fParent)), (124, (I x20)), (125, (Bo (decide (o22.fParent ≥ x20)))), (126, (Bo (decide (o22.fParent ≥ x20)))), (127, (Bo (decide (o22.fParent ≥ x20))))] rfl rfl <| m9 (fun hc => ?_) fun hc => ?_
        ·rw [hc]
         exact c9 rfl
        ·rw [hc]
         refine rd 16 [(128, (V.ptr 4 0 1)), (129, (I o22.fParent)), (130, (I x20)), (131, (I (Go.IntKind.wrap .i64 (x20 - 1)))), (132, (Bo (o22.fParent != (Go.IntKind.wrap .i64 (x20 - 1))))), (133, (Bo (o22.fParent != (Go.IntKind.wrap .i64 (x20 - 1)))))] rfl rfl <| m9 (fun hc => ?_) fun hc => ?_
         ·rw [hc]
          refine rd 21 [(134, (b8 a0)), (135, (V.ptr 4 0 1)), (136, (I o22.fParent)), (137, (I x20)), (138, (I (Go.IntKind.wrap .i64 (x20 - 1))))] rfl rfl <| rp rfl (f9 rfl rfl rfl rfl rfl (oW k a0 o22.fParent (Go.IntKind.wrap .i64 (x20 - 1))) (.inl rfl)) fun v34 => bd 26 [(139, (Bo v34)), (140, (Bo (!v34))), (141, (Bo (!v34))), (142, (Bo (!v34))), (143, (Bo (!v34)))] rfl rfl <| m9 (fun hc => ?_) fun hc => ?_
          ·rw [hc]
           exact c9 rfl
          ·rw [hc]
           exact rd 28 [(144, (b8 a0)), (145, (I x20))] rfl rfl <| rp rfl (f9 rfl rfl rfl rfl rfl (lA k a0 x20) (.inl rfl)) fun v35 => bd 29 [(146, (sI v35))] rfl rfl <| rl rfl (m8 (e := I) rfl rfl rfl rfl rfl rfl underlying58) <| b5 rfl
         ·rw [hc]
          exact rd 28 [(134, (V.tup [])), (135, (V.tup [])), (136, (V.tup [])), (137, (V.tup [])), (138, (V.tup [])), (139, (V.tup [])), (140, (V.tup [])), (141, (Bo false)), (142, (Bo false)), (143, (Bo false)), (144, (b8 a0)), (145, (I x20))] rfl rfl <| rp rfl (f9 rfl rfl rfl rfl rfl (lA k a0 x20) (.inl rfl)) fun v36 => bd 29 [(146, (sI v36))] rfl rfl <| rl rfl (m8 (e := I) rfl rfl rfl rfl rfl rfl underlying58) <| b5 rfl
      refine kcl rfl rfl (fun hc => ?_) fun hc => ?_
      ·rw [hc]
       refine kr ⟨[(2, (Bo false))], [], 232⟩ rfl <| et d9 <| et j7 <| et j6 <| et (hret _) ?_
       rfl
      ·rw [hc]
       exact et l9 <| et i3 <| kl ⟨[(1, (Pt 1)), (3, (I (Go.IntKind.wrap .i64 (x20 + 1))))], [(1, vS 4 (b8 a0))], 232⟩ rfl <| et d8 <| ih (Go.IntKind.wrap .i64 (x20 + 1))
    ·intro s; exact hret s
  ·rw [hc]
   exact et n8 <| et j1 <| hK0 x20
theorem lw (k : Nat) (a0 : a7) (x52 : Int) (o54 : j0)  (K0 : Int → Option Bool) (Kst : X × St → Option (V × List V)) (hK0 : ∀ (y0 : Int), Kst (X.exit 6, ⟨[(1, (Pt 1)), (6, (I x52)), (7, (Pt 7)), (8, (I y0)), (220, (Bo false))], [(1, vS 4 (b8 a0)), (7, vS 4 (p9 o54))], 232⟩) = (K0 y0).map C8) (hret : ∀ s, Kst (X.ret, s) = D4 prog 232 [(b8 a0)] [] [.tmp 2] (X.ret, s)) :
  ∀ (m : Nat) (x62 : Int), (B5 (s7 prog (EV k) vA k BW) m ⟨[(1, (Pt 1)), (6, (I x52)), (7, (Pt 7)), (8, (I x62))], [(1, vS 4 (b8 a0)), (7, vS 4 (p9 o54))], 232⟩).bind Kst = (H1 a0 x52 o54 K0 m x62).map C8 := by
 intro m
 induction m with
 | zero => intros; rfl
 | succ m ih =>
  intro x62
  unfold H1
  refine et l8 <| et b6 <| kra [(220, (Bo (decide (x62 < x52))))] rfl <| kc rfl rfl (fun hc => ?_) fun hc => ?_
  ·rw [hc]
   refine et d7 <| et (i4 rfl) <| kd xY rfl (fun (o64 : Bool) => ⟨[(1, (Pt 1)), (6, (I x52)), (7, (Pt 7)), (8, (I x62)), (231, (Bo o64))], [(1, vS 4 (b8 a0)), (7, vS 4 (p9 o54))], 232⟩) (et (j4 (p := 9) (dk := true) (t := [(1, (Pt 1)), (6, (I x52)), (7, (Pt 7)), (8, (I x62)), (220, (Bo true))]) (σ := [(1, vS 4 (b8 a0)), (7, vS 4 (p9 o54))]) (n := 232) rfl (by decide) (by decide) rfl) <| et (l5 (m := 3) (j := 3) (t' := [(1, (Pt 1)), (6, (I x52)), (7, (Pt 7)), (8, (I x62)), (220, (Bo true)), (223, (V.ptr 1 0 3)), (224, (r9 a0.fIndexes)), (225, (I x62))]) rfl rfl rfl) <| et (d5 (x := (idx a0.fIndexes x62)) (w := fun v63 => (Pr (p9 v63))) rfl rfl rfl rfl rfl (i6 (e := p9) rfl rfl rfl underlying23 rfl (by decide))) <| n5 fun v63 => l6 rfl) fun o64 => kcl rfl rfl (fun hc => ?_) fun hc => ?_
   ·rw [hc]
    refine kr ⟨[(2, (Bo false))], [], 232⟩ rfl <| et d9 <| et j7 <| et j6 <| et (hret _) ?_
    rfl
   ·rw [hc]
    exact et l9 <| et i3 <| kl ⟨[(1, (Pt 1)), (6, (I x52)), (7, (Pt 7)), (8, (I (Go.IntKind.wrap .i64 (x62 + 1))))], [(1, vS 4 (b8 a0)), (7, vS 4 (p9 o54))], 232⟩ rfl <| et d8 <| ih (Go.IntKind.wrap .i64 (x62 + 1))
  ·rw [hc]
   exact et n8 <| et j1 <| hK0 x62
theorem lv (k : Nat) (a0 : a7)  (K0 : Int → Option Bool) (Kst : X × St → Option (V × List V)) (hK0 : ∀ (y0 : Int), Kst (X.exit 4, ⟨[(1, (Pt 1)), (6, (I y0)), (154, (Bo false))], [(1, vS 4 (b8 a0))], 232⟩) = (K0 y0).map C8) (hret : ∀ s, Kst (X.ret, s) = D4 prog 232 [(b8 a0)] [] [.tmp 2] (X.ret, s)) :
  ∀ (m : Nat) (x52 : Int), (B5 (s7 prog (EV k) vA k BX) m ⟨[(1, (Pt 1)), (6, (I x52))], [(1, vS 4 (b8 a0))], 232⟩).bind Kst = (H0 k a0 K0 m x52).map C8 := by
 intro m
 induction m with
 | zero => intros; rfl
 | succ m ih =>
  intro x52
  unfold H0
  refine et l8 <| et b6 <| krp xV rfl ⟨[(1, (Pt 1)), (6, (I x52)), (154, (Bo (decide (x52 < (a0.fIndexes.length : Int)))))], [(1, vS 4 (b8 a0))], 232⟩ ?_ ?_
  ·exact rd 3 [(150, (I x52)), (151, (V.ptr 1 0 3)), (152, (r9 a0.fIndexes))] rfl rfl <| rl rfl (m8 (e := p9) rfl rfl rfl rfl rfl rfl underlying23) <| b5 rfl
  refine kc rfl rfl (fun hc => ?_) fun hc => ?_
  ·rw [hc]
   refine et d7 <| et (i4 rfl) <| kg xW rfl (fun (o54 : j0) => ⟨[(1, (Pt 1)), (6, (I x52)), (7, (Pt 7))], [(1, vS 4 (b8 a0)), (7, vS 4 (p9 o54))], 232⟩) (rd 3 [(157, (V.ptr 1 0 3)), (158, (r9 a0.fIndexes)), (159, (I x52))] rfl rfl <| rs rfl (i6 (e := p9) rfl rfl rfl underlying23 rfl (by decide)) fun v53 => b5 rfl) fun o54 => et b6 <| kd xX rfl (fun (o59 : Bool) => ⟨[(1, (Pt 1)), (6, (I x52)), (7, (Pt 7)), (217, (Bo o59))], [(1, vS 4 (b8 a0)), (7, vS 4 (p9 o54))], 232⟩) ?_ fun o59 => ?_
   ·refine et (j4 (p := 56) (dk := true) (t := [(1, (Pt 1)), (6, (I x52)), (7, (Pt 7))]) (σ := [(1, vS 4 (b8 a0)), (7, vS 4 (p9 o54))]) (n := 232) rfl (by decide) (by decide) rfl) <| et (l5 (m := 2) (j := 2) (t' := [(1, (Pt 1)), (6, (I x52)), (7, (Pt 7)), (162, (Pt 7)), (163, (Sr o54.fName))]) rfl rfl rfl) <| et (d5 (x := (J1 k o54.fName)) (w := fun v55 => (Bo v55)) rfl rfl rfl rfl rfl (f9 rfl rfl rfl rfl rfl (ah k o54.fName) (.inl rfl))) <| n5 fun v55 => et (k0 (m := 2) (j := 5) (t' := [(1, (Pt 1)), (6, (I x52)), (7, (Pt 7)), (162, (Pt 7)), (163, (Sr o54.fName)), (164, (Bo v55)), (165, (Bo (!v55))), (166, (Bo (!v55)))]) rfl rfl rfl) <| m9 (fun hc => ?_) fun hc => ?_
    ·rw [hc]
     exact l6 rfl
    ·rw [hc]
     refine et (l5 (m := 5) (j := 10) (t' := [(1, (Pt 1)), (6, (I x52)), (7, (Pt 7)), (162, (Pt 7)), (163, (Sr o54.fName)), (164, (Bo v55)), (165, (Bo false)), (166, (Bo false)), (167, (V.ptr 7 0 1)), (168, (I o54.fType)), (169, (Bo (decide (o54.fType < 0)))), (170, (Bo (decide (o54.fType < 0)))), (171, (Bo (decide (o54.fType < 0))))]) rfl rfl rfl) <| m9 (fun hc => ?_) fun hc => ?_
     ·rw [hc]
      exact l6 rfl
     ·rw [hc]
      refine et (l5 (m := 4) (j := 14) (t' := [(1, (Pt 1)), (6, (I x52)), (7, (Pt 7)), (162, (Pt 7)), (163, (Sr o54.fName)), (164, (Bo v55)), (165, (Bo false)), (166, (Bo false)), (167, (V.ptr 7 0 1)), (168, (I o54.fType)), (169, (Bo false)), (170, (Bo false)), (171, (Bo false)), (172, (V.ptr 7 0 1)), (173, (I o54.fType)), (174, (V.ptr 1 0 2)), (175, (l7 a0.fTypes))]) rfl rfl rfl) <| et (d5 (x := some ()) (w := fun _ => (I (a0.fTypes.length : Int))) rfl rfl rfl rfl rfl (m8 (e := i9) rfl rfl rfl rfl rfl rfl underlying22)) <| et Y5 <| et (k0 (m := 3) (j := 18) (t' := [(1, (Pt 1)), (6, (I x52)), (7, (Pt 7)), (162, (Pt 7)), (163, (Sr o54.fName)), (164, (Bo v55)), (165, (Bo false)), (166, (Bo false)), (167, (V.ptr 7 0 1)), (168, (I o54.fType)), (169, (Bo false)), (170, (Bo false)), (171, (Bo false)), (172, (V.ptr 7 0 1)), (173, (I o54.fType)), (174, (V.ptr 1 0 2)), (175, (l7 a0.fTypes)), (176, (I (a0.fTypes.length : Int))), (177, (Bo (decide (o54.fType ≥ (a0.fTypes.length : Int))))), (178, (Bo (decide (o54.fType ≥ (a0.fTypes.length : Int))))), (179, (Bo (decide (o54.fType ≥ (a0.fTypes.length : Int)))))]) rfl rfl rfl) <| m9 (fun hc => ?_) fun hc => ?_
      ·rw [hc]
       exact l6 rfl
      ·rw [hc]
       refine et (l5 (m := 5) (j := 23) (t' := [(1, (Pt 1)), (6, (I x52)), (7, (Pt 7)), (162, (Pt 7)), (163, (Sr o54.fName)), (164, (Bo v55)), (165, (Bo false)), (166, (Bo false)), (167, (V.ptr 7 0 1)), (168, (I o54.fType)), (169, (Bo false)), (170, (Bo false)), (171, (Bo false)), (172, (V.ptr 7 0 1)), (173, (I o54.fType)), (174, (V.ptr 1 0 2)), (175, (l7 a0.fTypes)), (176, (I (a0.fTypes.length : Int))), (177, (Bo false)), (178, (Bo false)), (179, (Bo false)), (180, (V.ptr 7 0 2)), (181, (I o54.fField)), (182, (Bo (decide (o54.fField < 0)))), (183, (Bo (decide (o54.fField < 0)))), (184, (Bo (decide (o54.fField < 0))))]) rfl rfl rfl) <| m9 (fun hc => ?_) fun hc => ?_
       ·rw [hc]
        exact l6 rfl
       ·rw [hc]
        refine et (l5 (m := 6) (j := 29) (t' := [(1, (Pt 1)), (6, (I x52)), (7, (Pt 7)), (162, (Pt 7)), (163, (Sr o54.fName)), (164, (Bo v55)), (165, (Bo false)), (166, (Bo false)), (167, (V.ptr 7 0 1)), (168, (I o54.fType)), (169, (Bo false)), (170, (Bo false)), (171, (Bo false)), (172, (V.ptr 7 0 1)), (173, (I o54.fType)), (174, (V.ptr 1 0 2)), (175, (l7 a0.fTypes)), (176, (I (a0.fTypes.length : Int))), (177, (Bo false)), (178, (Bo false)), (179, (Bo false)), (180, (V.ptr 7 0 2)), (181, (I o54.fField)), (182, (Bo false)), (183, (Bo false)), (184, (Bo false)), (185, (V.ptr 7 0 2)), (186, (I o54.fField)), (187, (V.ptr 1 0 2)), (188, (l7 a0.fTypes)), (189, (V.ptr 7 0 1)), (190, (I o54.fType))]) rfl rfl rfl) <| et (d5 (x := (idx a0.fTypes o54.fType)) (w := fun v56 => (Pr (i9 v56))) rfl rfl rfl rfl rfl (i6 (e := i9) rfl rfl rfl underlying22 rfl (by decide))) <| n5 fun v56 => et (k0 (m := 2) (j := 32) (t' := [(1, (Pt 1)), (6, (I x52)), (7, (Pt 7)), (162, (Pt 7)), (163, (Sr o54.fName)), (164, (Bo v55)), (165, (Bo false)), (166, (Bo false)), (167, (V.ptr 7 0 1)), (168, (I o54.fType)), (169, (Bo false)), (170, (Bo false)), (171, (Bo false)), (172, (V.ptr 7 0 1)), (173, (I o54.fType)), (174, (V.ptr 1 0 2)), (175, (l7 a0.fTypes)), (176, (I (a0.fTypes.length : Int))), (177, (Bo false)), (178, (Bo false)), (179, (Bo false)), (180, (V.ptr 7 0 2)), (181, (I o54.fField)), (182, (Bo false)), (183, (Bo false)), (184, (Bo false)), (185, (V.ptr 7 0 2)), (186, (I o54.fField)), (187, (V.ptr 1 0 2)), (188, (l7 a0.fTypes)), (189, (V.ptr 7 0 1)), (190, (I o54.fType)), (191, (Pr (i9 v56))), (192, (Pr (j8 v56.fFields))), (193, (j8 v56.fFields))]) rfl rfl rfl) <| et (d5 (x := some ()) (w := fun _ => (I (v56.fFields.length : Int))) rfl rfl rfl rfl rfl (m8 (e := j9) rfl rfl rfl rfl rfl rfl underlying46)) <| et Y5 <| et (k0 (m := 3) (j := 36) (t' := [(1, (Pt 1)), (6, (I x52)), (7, (Pt 7)), (162, (Pt 7)), (163, (Sr o54.fName)), (164, (Bo v55)), (165, (Bo false)), (166, (Bo false)), (167, (V.ptr 7 0 1)), (168, (I o54.fType)), (169, (Bo false)), (170, (Bo false)), (171, (Bo false)), (172, (V.ptr 7 0 1)), (173, (I o54.fType)), (174, (V.ptr 1 0 2)), (175, (l7 a0.fTypes)), (176, (I (a0.fTypes.length : Int))), (177, (Bo false)), (178, (Bo false)), (179, (Bo false)), (180, (V.ptr 7 0 2)), (181, (I o54.fField)), (182, (Bo false)), (183, (Bo false)), (184, (Bo false)), (185, (V.ptr 7 0 2)), (186, (I o54.fField)), (187, (V.ptr 1 0 2)), (188, (l7 a0.fTypes)), (189, (V.ptr 7 0 1)), (190, (I o54.fType)), (191, (Pr (i9 v56))), (192, (Pr (j8 v56.fFields))), (193, (j8 v56.fFields)), (194, (I (v56.fFields.length : Int))), (195, (Bo (decide (o54.fField ≥ (v56.fFields.length : Int))))), (196, (Bo (decide (o54.fField ≥ (v56.fFields.length : Int))))), (197, (Bo (decide (o54.fField ≥ (v56.fFields.length : Int)))))]) rfl rfl rfl) <| m9 (fun hc => ?_) fun hc => ?_
        ·rw [hc]
         exact l6 rfl
        ·rw [hc]
         refine et (l5 (m := 4) (j := 40) (t' := [(1, (Pt 1)), (6, (I x52)), (7, (Pt 7)), (162, (Pt 7)), (163, (Sr o54.fName)), (164, (Bo v55)), (165, (Bo false)), (166, (Bo false)), (167, (V.ptr 7 0 1)), (168, (I o54.fType)), (169, (Bo false)), (170, (Bo false)), (171, (Bo false)), (172, (V.ptr 7 0 1)), (173, (I o54.fType)), (174, (V.ptr 1 0 2)), (175, (l7 a0.fTypes)), (176, (I (a0.fTypes.length : Int))), (177, (Bo false)), (178, (Bo false)), (179, (Bo false)), (180, (V.ptr 7 0 2)), (181, (I o54.fField)), (182, (Bo false)), (183, (Bo false)), (184, (Bo false)), (185, (V.ptr 7 0 2)), (186, (I o54.fField)), (187, (V.ptr 1 0 2)), (188, (l7 a0.fTypes)), (189, (V.ptr 7 0 1)), (190, (I o54.fType)), (191, (Pr (i9 v56))), (192, (Pr (j8 v56.fFields))), (193, (j8 v56.fFields)), (194, (I (v56.fFields.length : Int))), (195, (Bo false)), (196, (Bo false)), (197, (Bo false)), (198, (V.ptr 1 0 2)), (199, (l7 a0.fTypes)), (200, (V.ptr 7 0 1)), (201, (I o54.fType))]) rfl rfl rfl) <| et (d5 (x := (idx a0.fTypes o54.fType)) (w := fun v57 => (Pr (i9 v57))) rfl rfl rfl rfl rfl (i6 (e := i9) rfl rfl rfl underlying22 rfl (by decide))) <| n5 fun v57 => et (k0 (m := 4) (j := 45) (t' := [(1, (Pt 1)), (6, (I x52)), (7, (Pt 7)), (162, (Pt 7)), (163, (Sr o54.fName)), (164, (Bo v55)), (165, (Bo false)), (166, (Bo false)), (167, (V.ptr 7 0 1)), (168, (I o54.fType)), (169, (Bo false)), (170, (Bo false)), (171, (Bo false)), (172, (V.ptr 7 0 1)), (173, (I o54.fType)), (174, (V.ptr 1 0 2)), (175, (l7 a0.fTypes)), (176, (I (a0.fTypes.length : Int))), (177, (Bo false)), (178, (Bo false)), (179, (Bo false)), (180, (V.ptr 7 0 2)), (181, (I o54.fField)), (182, (Bo false)), (183, (Bo false)), (184, (Bo false)), (185, (V.ptr 7 0 2)), (186, (I o54.fField)), (187, (V.ptr 1 0 2)), (188, (l7 a0.fTypes)), (189, (V.ptr 7 0 1)), (190, (I o54.fType)), (191, (Pr (i9 v56))), (192, (Pr (j8 v56.fFields))), (193, (j8 v56.fFields)), (194, (I (v56.fFields.length : Int))), (195, (Bo false)), (196, (Bo false)), (197, (Bo false)), (198, (V.ptr 1 0 2)), (199, (l7 a0.fTypes)), (200, (V.ptr 7 0 1)), (201, (I o54.fType)), (202, (Pr (i9 v57))), (203, (Pr (j8 v57.fFields))), (204, (j8 v57.fFields)), (205, (V.ptr 7 0 2)), (206, (I o54.fField))]) rfl rfl rfl) <| et (d5 (x := (idx v57.fFields o54.fField)) (w := fun v58 => (Pr (j9 v58))) rfl rfl rfl rfl rfl (i6 (e := j9) rfl rfl rfl underlying46 rfl (by decide))) <| n5 fun v58 => et (k0 (m := 5) (j := 51) (t' := [(1, (Pt 1)), (6, (I x52)), (7, (Pt 7)), (162, (Pt 7)), (163, (Sr o54.fName)), (164, (Bo v55)), (165, (Bo false)), (166, (Bo false)), (167, (V.ptr 7 0 1)), (168, (I o54.fType)), (169, (Bo false)), (170, (Bo false)), (171, (Bo false)), (172, (V.ptr 7 0 1)), (173, (I o54.fType)), (174, (V.ptr 1 0 2)), (175, (l7 a0.fTypes)), (176, (I (a0.fTypes.length : Int))), (177, (Bo false)), (178, (Bo false)), (179, (Bo false)), (180, (V.ptr 7 0 2)), (181, (I o54.fField)), (182, (Bo false)), (183, (Bo false)), (184, (Bo false)), (185, (V.ptr 7 0 2)), (186, (I o54.fField)), (187, (V.ptr 1 0 2)), (188, (l7 a0.fTypes)), (189, (V.ptr 7 0 1)), (190, (I o54.fType)), (191, (Pr (i9 v56))), (192, (Pr (j8 v56.fFields))), (193, (j8 v56.fFields)), (194, (I (v56.fFields.length : Int))), (195, (Bo false)), (196, (Bo false)), (197, (Bo false)), (198, (V.ptr 1 0 2)), (199, (l7 a0.fTypes)), (200, (V.ptr 7 0 1)), (201, (I o54.fType)), (202, (Pr (i9 v57))), (203, (Pr (j8 v57.fFields))), (204, (j8 v57.fFields)), (205, (V.ptr 7 0 2)), (206, (I o54.fField)), (207, (Pr (j9 v58))), (208, (Pr (I v58.fBytes))), (209, (I v58.fBytes)), (210, (Bo (decide (v58.fBytes > 20)))), (211, (Bo (decide (v58.fBytes > 20)))), (212, (Bo (decide (v58.fBytes > 20))))]) rfl rfl rfl) <| m9 (fun hc => ?_) fun hc => ?_
         ·rw [hc]
          exact l6 rfl
         ·rw [hc]
          exact l6 rfl
   refine kc rfl rfl (fun hc => ?_) fun hc => ?_
   ·rw [hc]
    refine et b6 <| kr ⟨[(2, (Bo false))], [], 232⟩ rfl <| et p8 <| et j7 <| et j6 <| et (hret _) ?_
    rfl
   ·rw [hc]
    refine et d7 <| kr ⟨[(1, (Pt 1)), (6, (I x52)), (7, (Pt 7)), (8, (I 0))], [(1, vS 4 (b8 a0)), (7, vS 4 (p9 o54))], 232⟩ rfl <| et (I5 rfl) <| et p3 ?_
    refine lw k a0 x52 o54 _ _ ?h_ref11_Valid_L4_0 ?hr_ref11_Valid_L4 k 0
    ·intro y65
     exact et j3 <| et l9 <| et i3 <| kl ⟨[(1, (Pt 1)), (6, (I (Go.IntKind.wrap .i64 (x52 + 1))))], [(1, vS 4 (b8 a0))], 232⟩ rfl <| et d8 <| ih (Go.IntKind.wrap .i64 (x52 + 1))
    ·intro s; exact hret s
  ·rw [hc]
   exact et n8 <| et j1 <| hK0 x52
theorem eu (k : Nat) (a0 : a7) : EV k 30 [(b8 a0)] = (W2 k a0).map C8 := by
 cases k with
 | zero => rfl
 | succ k =>
  unfold W2
  refine et (i2 (c := f30c) (N := 232) (regs := vA) rfl func30 rfl (by decide) rfl rfl rfl) <| kr ⟨[(1, (Pt 1))], [(1, vS 4 (b8 a0))], 232⟩ rfl <| et b6 <| kga BQ rfl (fun (o2 : Bool) => [(40, (Bo o2))]) ?_ fun o2 => ?_
  ·refine rd 2 [(9, (Pt 1)), (10, (Sr a0.fName))] rfl rfl <| rp rfl (f9 rfl rfl rfl rfl rfl (ah k a0.fName) (.inl rfl)) fun v1 => bd 5 [(11, (Bo v1)), (12, (Bo (!v1))), (13, (Bo (!v1)))] rfl rfl <| m9 (fun hc => ?_) fun hc => ?_
   ·rw [hc]
    exact c9 rfl
   ·rw [hc]
    refine rd 10 [(14, (V.ptr 1 0 1)), (15, (I a0.fKind)), (16, (Bo (decide (a0.fKind < 1)))), (17, (Bo (decide (a0.fKind < 1)))), (18, (Bo (decide (a0.fKind < 1))))] rfl rfl <| m9 (fun hc => ?_) fun hc => ?_
    ·rw [hc]
     exact c9 rfl
    ·rw [hc]
     refine rd 15 [(19, (V.ptr 1 0 1)), (20, (I a0.fKind)), (21, (Bo (decide (a0.fKind > 4)))), (22, (Bo (decide (a0.fKind > 4)))), (23, (Bo (decide (a0.fKind > 4))))] rfl rfl <| m9 (fun hc => ?_) fun hc => ?_
     ·rw [hc]
      exact c9 rfl
     ·rw [hc]
      refine rd 17 [(24, (V.ptr 1 0 2)), (25, (l7 a0.fTypes))] rfl rfl <| rl rfl (m8 (e := i9) rfl rfl rfl rfl rfl rfl underlying22) <| bd 21 [(26, (I (a0.fTypes.length : Int))), (27, (Bo (decide ((a0.fTypes.length : Int) < 1)))), (28, (Bo (decide ((a0.fTypes.length : Int) < 1)))), (29, (Bo (decide ((a0.fTypes.length : Int) < 1))))] rfl rfl <| m9 (fun hc => ?_) fun hc => ?_
      ·rw [hc]
       exact c9 rfl
      ·rw [hc]
       refine rd 23 [(30, (V.ptr 1 0 2)), (31, (l7 a0.fTypes))] rfl rfl <| rl rfl (m8 (e := i9) rfl rfl rfl rfl rfl rfl underlying22) <| bd 27 [(32, (I (a0.fTypes.length : Int))), (33, (Bo (decide ((a0.fTypes.length : Int) > 8)))), (34, (Bo (decide ((a0.fTypes.length : Int) > 8)))), (35, (Bo (decide ((a0.fTypes.length : Int) > 8))))] rfl rfl <| m9 (fun hc => ?_) fun hc => ?_
       ·rw [hc]
        exact c9 rfl
       ·rw [hc]
        exact rd 29 [(36, (V.ptr 1 0 3)), (37, (r9 a0.fIndexes))] rfl rfl <| rl rfl (m8 (e := p9) rfl rfl rfl rfl rfl rfl underlying23) <| b5 rfl
  refine kc rfl rfl (fun hc => ?_) fun hc => ?_
  ·rw [hc]
   refine et b6 <| kr ⟨[(2, (Bo false))], [], 232⟩ rfl <| et p8 ?_
   rfl
  ·rw [hc]
   refine et d7 <| et b6 <| kr ⟨[(1, (Pt 1)), (3, (I 0))], [(1, vS 4 (b8 a0))], 232⟩ rfl <| et (i4 rfl) <| et p3 ?_
   refine lq k a0 _ _ ?h_ref11_Valid_L1_0 ?hr_ref11_Valid_L1 k 0
   ·intro y38
    refine et j3 <| et b6 <| kr ⟨[(1, (Pt 1)), (6, (I 0))], [(1, vS 4 (b8 a0))], 232⟩ rfl <| et (i4 rfl) <| et p3 ?_
    refine lv k a0 _ _ ?h_ref11_Valid_L3_0 ?hr_ref11_Valid_L3 k 0
    ·intro y66
     refine et j3 <| kr ⟨[(2, (Bo true))], [], 232⟩ rfl <| et d9 ?_
     rfl
    ·intro s; exact rfl
   ·intro s; exact rfl
def bF : Str → V × List V := fun r => ((Sr r), [])
theorem ki (k : Nat) (a0 : Str)  (K0 : Str → Option Str) (Kst : X × St → Option (V × List V)) (hK0 : ∀ (y0 : Str), Kst (X.exit 0, ⟨[(0, (Sr y0)), (5, (Bo false))], [], 9⟩) = (K0 y0).map bF) (hret : ∀ s, Kst (X.ret, s) = D4 prog 9 [(Sr a0)] [] [.tmp 2] (X.ret, s)) :
  ∀ (m : Nat) (x3 : Str), (B5 (s7 prog (EV k) EL k BI) m ⟨[(0, (Sr x3))], [], 9⟩).bind Kst = (I1 K0 m x3).map bF := by
 intro m
 induction m with
 | zero => intros; rfl
 | succ m ih =>
  intro x3
  unfold I1
  refine et l8 <| et b6 <| kra [(5, (Bo (decide ((x3.length : Int) < 8))))] rfl <| kc rfl rfl (fun hc => ?_) fun hc => ?_
  ·rw [hc]
   exact et d7 <| et (I5 rfl) <| kgl BH rfl (fun (o5 : Str) => ⟨[(0, (Sr o5))], [], 9⟩) (rd 1 [(6, (Sr x3))] rfl rfl <| rs rfl (dm rfl rfl rfl) fun v4 => b5 rfl) fun o5 => et i3 <| et l9 <| et d8 <| ih o5
  ·rw [hc]
   exact et n8 <| et j1 <| hK0 x3
theorem T4 (k : Nat) (a0 : Str) : EV k 26 [(Sr a0)] = (Y1 k a0).map bF := by
 cases k with
 | zero => rfl
 | succ k =>
  unfold Y1
  refine et (i2 (c := f26c) (N := 9) (regs := EL) rfl func26 rfl (by decide) rfl rfl rfl) <| kra [] rfl <| et (i4 rfl) <| et p3 ?_
  refine ki k a0 _ _ ?h_ref12_Padded_L1_0 ?hr_ref12_Padded_L1 k a0
  ·intro y6
   refine et j3 <| kr ⟨[(2, (Sr y6))], [], 9⟩ rfl <| et d9 ?_
   rfl
  ·intro s; exact rfl
def O5 : Bool → V × List V := fun r => ((Bo r), [])
theorem jw (k : Nat) (a0 : Str) (x10 : Int)  (K0 : Int → Option Bool) (Kst : X × St → Option (V × List V)) (hK0 : ∀ (y0 : Int), Kst (X.exit 2, ⟨[(0, (Sr a0)), (3, (I y0)), (4, (I x10)), (20, (Bo false))], [], 27⟩) = (K0 y0).map O5) (hret : ∀ s, Kst (X.ret, s) = D4 prog 27 [(Sr a0)] [] [.tmp 2] (X.ret, s)) :
  ∀ (m : Nat) (x14 : Int), (B5 (s7 prog (EV k) Ae k Dn) m ⟨[(0, (Sr a0)), (3, (I x14)), (4, (I x10))], [], 27⟩).bind Kst = (K5 a0 x10 K0 m x14).map O5 := by
 intro m
 induction m with
 | zero => intros; rfl
 | succ m ih =>
  intro x14
  unfold K5
  refine et l8 <| et b6 <| kd Dm rfl (fun (o17 : Bool) => ⟨[(0, (Sr a0)), (3, (I x14)), (4, (I x10)), (20, (Bo o17))], [], 27⟩) ?_ fun o17 => ?_
  ·refine et (j4 (p := 10) (dk := true) (t := [(0, (Sr a0)), (3, (I x14)), (4, (I x10))]) (σ := []) (n := 27) rfl (by decide) (by decide) rfl) <| et (l5 (m := 3) (j := 3) (t' := [(0, (Sr a0)), (3, (I x14)), (4, (I x10)), (11, (I x14)), (12, (Bo (decide (x14 < 3)))), (13, (Bo (decide (x14 < 3))))]) rfl rfl rfl) <| m9 (fun hc => ?_) fun hc => ?_
   ·rw [hc]
    exact et (l5 (m := 1) (j := 4) (t' := [(0, (Sr a0)), (3, (I x14)), (4, (I x10)), (11, (I x14)), (12, (Bo true)), (13, (Bo true)), (14, (I x14))]) rfl rfl rfl) <| et (d5 (x := (G0 ([68, 76, 80] : Str) x14)) (w := fun v15 => (V.int .u8 v15)) rfl rfl rfl rfl rfl (s9 rfl rfl rfl underlying9)) <| n5 fun v15 => et (k0 (m := 2) (j := 7) (t' := [(0, (Sr a0)), (3, (I x14)), (4, (I x10)), (11, (I x14)), (12, (Bo true)), (13, (Bo true)), (14, (I x14)), (15, (V.int .u8 v15)), (16, (Sr a0)), (17, (I x10))]) rfl rfl rfl) <| et (d5 (x := (G0 a0 x10)) (w := fun v16 => (V.int .u8 v16)) rfl rfl rfl rfl rfl (s9 rfl rfl rfl underlying9)) <| n5 fun v16 => l6 rfl
   ·rw [hc]
    exact l6 rfl
  refine kc rfl rfl (fun hc => ?_) fun hc => ?_
  ·try rw [hc]
   exact et d7 <| et (I5 rfl) <| kl ⟨[(0, (Sr a0)), (3, (I (Go.IntKind.wrap .i64 (x14 + 1)))), (4, (I x10))], [], 27⟩ rfl <| et i3 <| et l9 <| et d8 <| ih (Go.IntKind.wrap .i64 (x14 + 1))
  ·try rw [hc]
   exact et n8 <| et j1 <| hK0 x14
theorem jv (k : Nat) (a0 : Str)  (K0 : Int → Int → Option Bool) (Kst : X × St → Option (V × List V)) (hK0 : ∀ (y0 : Int) (y1 : Int), Kst (X.exit 0, ⟨[(0, (Sr a0)), (3, (I y0)), (4, (I y1))], [], 27⟩) = (K0 y0 y1).map O5) (hret : ∀ s, Kst (X.ret, s) = D4 prog 27 [(Sr a0)] [] [.tmp 2] (X.ret, s)) :
  ∀ (m : Nat) (x9 : Int) (x10 : Int), (B5 (s7 prog (EV k) Ae k Do) m ⟨[(0, (Sr a0)), (3, (I x9)), (4, (I x10))], [], 27⟩).bind Kst = (G3 k a0 K0 m x9 x10).map O5 := by
 intro m
 induction m with
 | zero => intros; rfl
 | succ m ih =>
  intro x9 x10
  unfold G3
  refine et l8 <| et b6 <| kra [(8, (Bo (decide (x10 < (a0.length : Int)))))] rfl <| et (rf (t := (decide (x10 < (a0.length : Int)))) (st' := ⟨[(0, (Sr a0)), (3, (I x9)), (4, (I x10))], [], 27⟩) rfl rfl) <| wn (fun hc => ?_) fun hc => ?_
  ·try rw [hc]
   refine et d7 <| et (i4 rfl) <| et (i4 rfl) <| et p3 ?_
   refine jw k a0 x10 _ _ ?h_ref14_isCodes_L2_0 ?hr_ref14_isCodes_L2 k x9
   ·intro y18
    refine et j3 <| et b6 <| kr ⟨[(0, (Sr a0)), (3, (I y18)), (4, (I x10)), (24, (Bo (y18 == 3)))], [], 27⟩ rfl <| kc rfl rfl (fun hc => ?_) fun hc => ?_
    ·try rw [hc]
     refine et b6 <| kr ⟨[(2, (Bo false))], [], 27⟩ rfl <| et p8 <| et j7 <| et j6 <| et (hret _) ?_
     rfl
    ·try rw [hc]
     exact et d7 <| kl ⟨[(0, (Sr a0)), (3, (I (Go.IntKind.wrap .i64 (y18 + 1)))), (4, (I x10))], [], 27⟩ rfl <| et i3 <| kl ⟨[(0, (Sr a0)), (3, (I (Go.IntKind.wrap .i64 (y18 + 1)))), (4, (I (Go.IntKind.wrap .i64 (x10 + 1))))], [], 27⟩ rfl <| et d8 <| ih (Go.IntKind.wrap .i64 (y18 + 1)) (Go.IntKind.wrap .i64 (x10 + 1))
   ·intro s; exact hret s
  ·try rw [hc]
   exact et n8 <| et j1 <| hK0 x9 x10
theorem bG (k : Nat) (a0 : Str) : EV k 60 [(Sr a0)] = (bW k a0).map O5 := by
 cases k with
 | zero => rfl
 | succ k =>
  unfold bW
  refine et (i2 (c := f60c) (N := 27) (regs := Ae) rfl func60 rfl (by decide) rfl rfl rfl) <| kra [] rfl <| kra [(3, (I 0))] rfl <| et b6 <| kra [(4, (I 0))] rfl <| et (i4 rfl) <| et p3 ?_
  refine jv k a0 _ _ ?h_ref14_isCodes_L1_0 ?hr_ref14_isCodes_L1 k 0 0
  ·intro y19 y20
   refine et j3 <| kr ⟨[(2, (Bo true))], [], 27⟩ rfl <| et d9 ?_
   rfl
  ·intro s; exact rfl
def oZ : Str → V × List V := fun r => ((Sr r), [])
theorem fq (k : Nat) (a0 : Int) : EV k 79 [(I a0)] = (ey k a0).map oZ := by
 cases k with
 | zero => rfl
 | succ k =>
  unfold ey
  refine et (i2 (c := f79c) (N := 14) (regs := GK) rfl func79 rfl (by decide) rfl rfl rfl) <| kra [] rfl <| et b6 <| kr ⟨[(3, (I a0))], [], 14⟩ rfl <| et (i4 rfl) <| kra [(4, (Bo (a0 == 1)))] rfl <| kcl rfl rfl (fun hc => ?_) fun hc => ?_
  ·rw [hc]
   refine kr ⟨[(2, (Sr ([61, 32] : Str)))], [], 14⟩ rfl <| et d9 <| et j7 ?_
   rfl
  ·rw [hc]
   refine kr ⟨[(3, (I a0)), (6, (Bo (a0 == 2)))], [], 14⟩ rfl <| kcl rfl rfl (fun hc => ?_) fun hc => ?_
   ·rw [hc]
    refine kr ⟨[(2, (Sr ([60, 62] : Str)))], [], 14⟩ rfl <| et d9 <| et j7 ?_
    rfl
   ·rw [hc]
    refine kr ⟨[(3, (I a0)), (8, (Bo (a0 == 3)))], [], 14⟩ rfl <| kcl rfl rfl (fun hc => ?_) fun hc => ?_
    ·rw [hc]
     refine kr ⟨[(2, (Sr ([60, 32] : Str)))], [], 14⟩ rfl <| et d9 <| et j7 ?_
     rfl
    ·rw [hc]
     refine kr ⟨[(3, (I a0)), (10, (Bo (a0 == 4)))], [], 14⟩ rfl <| kcl rfl rfl (fun hc => ?_) fun hc => ?_
     ·rw [hc]
      refine kr ⟨[(2, (Sr ([60, 61] : Str)))], [], 14⟩ rfl <| et d9 <| et j7 ?_
      rfl
     ·rw [hc]
      refine kr ⟨[(12, (Bo (a0 == 5)))], [], 14⟩ rfl <| kcl rfl rfl (fun hc => ?_) fun hc => ?_
      ·rw [hc]
       refine kr ⟨[(2, (Sr ([62, 32] : Str)))], [], 14⟩ rfl <| et d9 <| et j7 ?_
       rfl
      ·rw [hc]
       refine et l9 <| et i3 <| kr ⟨[(2, (Sr ([62, 61] : Str)))], [], 14⟩ rfl <| et d9 ?_
       rfl
def T3 : (a6 × Str × Bool) → V × List V := fun r => (.tup [(i5 r.1), (Sr r.2.1), (Bo r.2.2)], [])
theorem lD (k : Nat) (a0 : a7) (a1 : Int) (a2 : Str) (x26 : Int) (o31 : d6)  (K0 : Int → Option (a6 × Str × Bool)) (Kst : X × St → Option (V × List V)) (hK0 : ∀ (y0 : Int), Kst (X.exit 2, ⟨[(1, (I a1)), (2, (Sr a2)), (3, (Pt 3)), (6, (Pt 6)), (9, (I x26)), (10, (Pt 10)), (11, (I y0)), (35, (Bo false))], [(3, vS 4 (b8 a0)), (6, ⟨false, 3, [(V.agg [(Sr []), (I 0), (Sr [])])]⟩), (10, vS 3 (j9 o31))], 78⟩) = (K0 y0).map T3) (hret : ∀ s, Kst (X.ret, s) = D4 prog 78 [(b8 a0), (I a1), (Sr a2)] [] [.cell 6 55, .tmp 7, .tmp 8] (X.ret, s)) :
  ∀ (m : Nat) (x41 : Int), (B5 (s7 prog (EV k) Ah k Eo) m ⟨[(1, (I a1)), (2, (Sr a2)), (3, (Pt 3)), (6, (Pt 6)), (9, (I x26)), (10, (Pt 10)), (11, (I x41))], [(3, vS 4 (b8 a0)), (6, ⟨false, 3, [(V.agg [(Sr []), (I 0), (Sr [])])]⟩), (10, vS 3 (j9 o31))], 78⟩).bind Kst = (E6 k a2 o31 K0 m x41).map T3 := by
 intro m
 induction m with
 | zero => intros; rfl
 | succ m ih =>
  intro x41
  unfold E6
  refine et l8 <| et b6 <| kra [(35, (Bo (decide (x41 ≤ 6))))] rfl <| kc rfl rfl (fun hc => ?_) fun hc => ?_
  ·rw [hc]
   refine et d7 <| et (i4 rfl) <| kg Em rfl (fun (o45 : Str) => ⟨[(1, (I a1)), (2, (Sr a2)), (3, (Pt 3)), (6, (Pt 6)), (9, (I x26)), (10, (Pt 10)), (11, (I x41)), (12, (Sr o45))], [(3, vS 4 (b8 a0)), (6, ⟨false, 3, [(V.agg [(Sr []), (I 0), (Sr [])])]⟩), (10, vS 3 (j9 o31))], 78⟩) (rd 2 [(38, (Pt 10)), (39, (Sr o31.fName))] rfl rfl <| rp rfl (f9 rfl rfl rfl rfl rfl (T4 k o31.fName) (.inl rfl)) fun v42 => bd 4 [(40, (Sr v42)), (41, (I x41))] rfl rfl <| rp rfl (f9 rfl rfl rfl rfl rfl (fq k x41) (.inl rfl)) fun v43 => bd 5 [(42, (Sr v43))] rfl rfl <| rs rfl (dm rfl rfl rfl) fun v44 => b5 rfl) fun o45 => kga En rfl (fun (o47 : Bool) => [(59, (Bo o47))]) ?_ fun o47 => ?_
   ·refine rd 9 [(44, (Sr a2)), (45, (I (a2.length : Int))), (46, (Sr o45)), (47, (I (o45.length : Int))), (48, (V.ptr 10 0 2)), (49, (I o31.fBytes)), (50, (I (Go.IntKind.wrap .i64 ((o45.length : Int) + o31.fBytes)))), (51, (Bo (decide ((a2.length : Int) ≥ (Go.IntKind.wrap .i64 ((o45.length : Int) + o31.fBytes)))))), (52, (Bo (decide ((a2.length : Int) ≥ (Go.IntKind.wrap .i64 ((o45.length : Int) + o31.fBytes))))))] rfl rfl <| m9 (fun hc => ?_) fun hc => ?_
    ·rw [hc]
     exact rd 12 [(53, (Sr a2)), (54, (Sr o45)), (55, (I (o45.length : Int)))] rfl rfl <| rp rfl (u6 rfl rfl rfl rfl rfl rfl underlying9) fun v46 => b5 rfl
    ·rw [hc]
     exact c9 rfl
   refine kcl rfl rfl (fun hc => ?_) fun hc => ?_
   ·rw [hc]
    refine kr ⟨[(2, (Sr a2)), (6, (Pt 6)), (10, (Pt 10)), (11, (I x41)), (12, (Sr o45)), (13, (I (Go.IntKind.wrap .i64 ((o45.length : Int) + o31.fBytes))))], [(6, ⟨false, 3, [(V.agg [(Sr []), (I 0), (Sr [])])]⟩), (10, vS 3 (j9 o31))], 78⟩ rfl <| kd yF rfl (fun (o50 : Str × Bool × a6) => ⟨[(6, (Pt 6)), (7, (Sr o50.1)), (8, (Bo o50.2.1))], [(6, vS 3 (i5 o50.2.2))], 78⟩) (et (j4 (p := 12) (dk := false) (t := [(2, (Sr a2)), (6, (Pt 6)), (10, (Pt 10)), (11, (I x41)), (12, (Sr o45)), (13, (I (Go.IntKind.wrap .i64 ((o45.length : Int) + o31.fBytes))))]) (σ := [(6, ⟨false, 3, [(V.agg [(Sr []), (I 0), (Sr [])])]⟩), (10, vS 3 (j9 o31))]) (n := 78) rfl (by decide) (by decide) rfl) <| et (l5 (m := 7) (j := 7) (t' := [(2, (Sr a2)), (6, (Pt 6)), (10, (Pt 10)), (11, (I x41)), (12, (Sr o45)), (13, (I (Go.IntKind.wrap .i64 ((o45.length : Int) + o31.fBytes)))), (65, (Pt 10)), (66, (Sr o31.fName)), (67, (I x41)), (68, (Sr a2)), (69, (Sr o45)), (70, (I (o45.length : Int))), (71, (I (Go.IntKind.wrap .i64 ((o45.length : Int) + o31.fBytes))))]) rfl rfl rfl) <| et (d5 (x := (cut a2 (o45.length : Int) (Go.IntKind.wrap .i64 ((o45.length : Int) + o31.fBytes)))) (w := fun v48 => (Sr v48)) rfl rfl rfl rfl rfl (u6 rfl rfl rfl rfl rfl rfl underlying9)) <| n5 fun v48 => et (k0 (m := 3) (j := 11) (t' := [(2, (Sr a2)), (6, (Pt 6)), (10, (Pt 10)), (11, (I x41)), (12, (Sr o45)), (13, (I (Go.IntKind.wrap .i64 ((o45.length : Int) + o31.fBytes)))), (65, (Pt 10)), (66, (Sr o31.fName)), (67, (I x41)), (68, (Sr a2)), (69, (Sr o45)), (70, (I (o45.length : Int))), (71, (I (Go.IntKind.wrap .i64 ((o45.length : Int) + o31.fBytes)))), (72, (Sr v48)), (73, (i5 ({ fField := o31.fName, fOp := x41, fValue := v48 } : a6))), (74, (Sr a2)), (75, (I (Go.IntKind.wrap .i64 ((o45.length : Int) + o31.fBytes))))]) rfl rfl rfl) <| et (d5 (x := (cut a2 (Go.IntKind.wrap .i64 ((o45.length : Int) + o31.fBytes)) (a2.length : Int))) (w := fun v49 => (Sr v49)) rfl rfl rfl rfl rfl (u6 rfl rfl rfl rfl rfl rfl underlying9)) <| n5 fun v49 => l6 rfl) fun o50 => et d9 <| et j7 <| et j6 <| et (hret _) ?_
    rfl
   ·rw [hc]
    exact et l9 <| et i3 <| kl ⟨[(1, (I a1)), (2, (Sr a2)), (3, (Pt 3)), (6, (Pt 6)), (9, (I x26)), (10, (Pt 10)), (11, (I (Go.IntKind.wrap .i64 (x41 + 1))))], [(3, vS 4 (b8 a0)), (6, ⟨false, 3, [(V.agg [(Sr []), (I 0), (Sr [])])]⟩), (10, vS 3 (j9 o31))], 78⟩ rfl <| et d8 <| ih (Go.IntKind.wrap .i64 (x41 + 1))
  ·rw [hc]
   exact et n8 <| et j1 <| hK0 x41
theorem lC (k : Nat) (a0 : a7) (a1 : Int) (a2 : Str)  (K0 : Int → Option (a6 × Str × Bool)) (Kst : X × St → Option (V × List V)) (hK0 : ∀ (y0 : Int), Kst (X.exit 0, ⟨[(1, (I a1)), (2, (Sr a2)), (3, (Pt 3)), (6, (Pt 6)), (9, (I y0)), (22, (Bo false))], [(3, vS 4 (b8 a0)), (6, ⟨false, 3, [(V.agg [(Sr []), (I 0), (Sr [])])]⟩)], 78⟩) = (K0 y0).map T3) (hret : ∀ s, Kst (X.ret, s) = D4 prog 78 [(b8 a0), (I a1), (Sr a2)] [] [.cell 6 55, .tmp 7, .tmp 8] (X.ret, s)) :
  ∀ (m : Nat) (x26 : Int), (B5 (s7 prog (EV k) Ah k Ep) m ⟨[(1, (I a1)), (2, (Sr a2)), (3, (Pt 3)), (6, (Pt 6)), (9, (I x26))], [(3, vS 4 (b8 a0)), (6, ⟨false, 3, [(V.agg [(Sr []), (I 0), (Sr [])])]⟩)], 78⟩).bind Kst = (M2 k a0 a1 a2 K0 m x26).map T3 := by
 intro m
 induction m with
 | zero => intros; rfl
 | succ m ih =>
  intro x26
  unfold M2
  refine et l8 <| et b6 <| kga Ek rfl (fun (o28 : Bool) => [(22, (Bo o28))]) (rd 4 [(14, (I x26)), (15, (V.ptr 3 0 2)), (16, (l7 a0.fTypes)), (17, (I a1))] rfl rfl <| rp rfl (i6 (e := i9) rfl rfl rfl underlying22 rfl (by decide)) fun v27 => bd 7 [(18, (Pr (i9 v27))), (19, (Pr (j8 v27.fFields))), (20, (j8 v27.fFields))] rfl rfl <| rl rfl (m8 (e := j9) rfl rfl rfl rfl rfl rfl underlying46) <| b5 rfl) fun o28 => kc rfl rfl (fun hc => ?_) fun hc => ?_
  ·rw [hc]
   refine et d7 <| et (i4 rfl) <| kg El rfl (fun (o31 : d6) => ⟨[(1, (I a1)), (2, (Sr a2)), (3, (Pt 3)), (6, (Pt 6)), (9, (I x26)), (10, (Pt 10))], [(3, vS 4 (b8 a0)), (6, ⟨false, 3, [(V.agg [(Sr []), (I 0), (Sr [])])]⟩), (10, vS 3 (j9 o31))], 78⟩) (rd 3 [(25, (V.ptr 3 0 2)), (26, (l7 a0.fTypes)), (27, (I a1))] rfl rfl <| rp rfl (i6 (e := i9) rfl rfl rfl underlying22 rfl (by decide)) fun v29 => bd 7 [(28, (Pr (i9 v29))), (29, (Pr (j8 v29.fFields))), (30, (j8 v29.fFields)), (31, (I x26))] rfl rfl <| rs rfl (i6 (e := j9) rfl rfl rfl underlying46 rfl (by decide)) fun v30 => b5 rfl) fun o31 => kra [(11, (I 1))] rfl <| et (I5 rfl) <| et p3 ?_
   refine lD k a0 a1 a2 x26 o31 _ _ ?h_ref12_Front_L2_0 ?hr_ref12_Front_L2 k 1
   ·intro y51
    exact et j3 <| et l9 <| et i3 <| kl ⟨[(1, (I a1)), (2, (Sr a2)), (3, (Pt 3)), (6, (Pt 6)), (9, (I (Go.IntKind.wrap .i64 (x26 + 1))))], [(3, vS 4 (b8 a0)), (6, ⟨false, 3, [(V.agg [(Sr []), (I 0), (Sr [])])]⟩)], 78⟩ rfl <| et d8 <| ih (Go.IntKind.wrap .i64 (x26 + 1))
   ·intro s; exact hret s
  ·rw [hc]
   exact et n8 <| et j1 <| hK0 x26
theorem ew (k : Nat) (a0 : a7) (a1 : Int) (a2 : Str) : EV k 95 [(b8 a0), (I a1), (Sr a2)] = (cp k a0 a1 a2).map T3 := by
 cases k with
 | zero => rfl
 | succ k =>
  unfold cp
  refine et (i2 (c := f95c) (N := 78) (regs := Ah) rfl func95 rfl (by decide) rfl rfl rfl) <| kr ⟨[(1, (I a1)), (2, (Sr a2)), (3, (Pt 3)), (6, (Pt 6))], [(3, vS 4 (b8 a0)), (6, ⟨false, 3, [(V.agg [(Sr []), (I 0), (Sr [])])]⟩)], 78⟩ rfl <| et b6 <| kra [(9, (I 0))] rfl <| et (i4 rfl) <| et p3 ?_
  refine lC k a0 a1 a2 _ _ ?h_ref12_Front_L1_0 ?hr_ref12_Front_L1 k 0
  ·intro y52
   refine et j3 <| kr ⟨[(6, (Pt 6)), (7, (Sr ([] : Str))), (8, (Bo false))], [(6, ⟨false, 3, [(i5 ({ fField := [], fOp := 0, fValue := [] } : a6))]⟩)], 78⟩ rfl <| et d9 ?_
   rfl
  ·intro s; exact rfl
def mI : Bool → V × List V := fun r => ((Bo r), [])
theorem nC (k : Nat) (a0 : a7) (a1 : Int) : EV k 111 [(b8 a0), (I a1)] = (aZ k a0 a1).map mI := by
 cases k with
 | zero => rfl
 | succ k =>
  unfold aZ
  refine et (i2 (c := FF) (N := 14) (regs := AJ) rfl func111 rfl (by decide) rfl rfl rfl) <| kr ⟨[(1, (I a1)), (2, (Pt 2))], [(2, vS 4 (b8 a0))], 14⟩ rfl <| kg wK rfl (fun (o1 : Bool) => ⟨[(4, (Bo o1))], [], 14⟩) ?_ fun o1 => ?_
  ·refine rd 3 [(5, (I a1)), (6, (Bo (decide (a1 ≥ 0)))), (7, (Bo (decide (a1 ≥ 0))))] rfl rfl <| m9 (fun hc => ?_) fun hc => ?_
   ·rw [hc]
    exact rd 6 [(8, (I a1)), (9, (V.ptr 2 0 2)), (10, (l7 a0.fTypes))] rfl rfl <| rl rfl (m8 (e := i9) rfl rfl rfl rfl rfl rfl underlying22) <| b5 rfl
   ·rw [hc]
    exact c9 rfl
  refine et d9 ?_
  rfl
def cT : Int → V × List V := fun r => ((I r), [])
theorem ly (k : Nat) (a0 : a7) (a1 : (List Int))  (K0 : Int → Option Int) (Kst : X × St → Option (V × List V)) (hK0 : ∀ (y0 : Int), Kst (X.exit 0, ⟨[(1, (sI a1)), (2, (Pt 2)), (5, (I y0)), (12, (Bo false))], [(2, vS 4 (b8 a0))], 22⟩) = (K0 y0).map cT) (hret : ∀ s, Kst (X.ret, s) = D4 prog 22 [(b8 a0), (sI a1)] [] [.tmp 4] (X.ret, s)) :
  ∀ (m : Nat) (x6 : Int), (B5 (s7 prog (EV k) EY k DJ) m ⟨[(1, (sI a1)), (2, (Pt 2)), (5, (I x6))], [(2, vS 4 (b8 a0))], 22⟩).bind Kst = (M0 k a0 a1 K0 m x6).map cT := by
 intro m
 induction m with
 | zero => intros; rfl
 | succ m ih =>
  intro x6
  unfold M0
  refine et l8 <| et b6 <| krp DH rfl ⟨[(1, (sI a1)), (2, (Pt 2)), (5, (I x6)), (12, (Bo (decide (x6 < (a1.length : Int)))))], [(2, vS 4 (b8 a0))], 22⟩ ?_ ?_
  ·exact rd 2 [(9, (I x6)), (10, (sI a1))] rfl rfl <| rl rfl (m8 (e := I) rfl rfl rfl rfl rfl rfl underlying58) <| b5 rfl
  refine kc rfl rfl (fun hc => ?_) fun hc => ?_
  ·rw [hc]
   refine et d7 <| et (i4 rfl) <| kd DI rfl (fun (o9 : Bool) => ⟨[(1, (sI a1)), (2, (Pt 2)), (5, (I x6)), (21, (Bo o9))], [(2, vS 4 (b8 a0))], 22⟩) (et (j4 (p := 7) (dk := true) (t := [(1, (sI a1)), (2, (Pt 2)), (5, (I x6)), (12, (Bo true))]) (σ := [(2, vS 4 (b8 a0))]) (n := 22) rfl (by decide) (by decide) rfl) <| et (l5 (m := 3) (j := 3) (t' := [(1, (sI a1)), (2, (Pt 2)), (5, (I x6)), (12, (Bo true)), (15, (b8 a0)), (16, (sI a1)), (17, (I x6))]) rfl rfl rfl) <| et (d5 (x := (idx a1 x6)) (w := fun v7 => (Pr (I v7))) rfl rfl rfl rfl rfl (i6 (e := I) rfl rfl rfl underlying58 rfl (by decide))) <| n5 fun v7 => et (k0 (m := 1) (j := 5) (t' := [(1, (sI a1)), (2, (Pt 2)), (5, (I x6)), (12, (Bo true)), (15, (b8 a0)), (16, (sI a1)), (17, (I x6)), (18, (Pr (I v7))), (19, (I v7))]) rfl rfl rfl) <| et (d5 (x := (aZ k a0 v7)) (w := fun v8 => (Bo v8)) rfl rfl rfl rfl rfl (f9 rfl rfl rfl rfl rfl (nC k a0 v7) (.inl rfl))) <| n5 fun v8 => l6 rfl) fun o9 => kcl rfl rfl (fun hc => ?_) fun hc => ?_
   ·rw [hc]
    refine kr ⟨[(4, (I 2))], [], 22⟩ rfl <| et d9 <| et j7 <| et j6 <| et (hret _) ?_
    rfl
   ·rw [hc]
    exact et l9 <| et i3 <| kl ⟨[(1, (sI a1)), (2, (Pt 2)), (5, (I (Go.IntKind.wrap .i64 (x6 + 1))))], [(2, vS 4 (b8 a0))], 22⟩ rfl <| et d8 <| ih (Go.IntKind.wrap .i64 (x6 + 1))
  ·rw [hc]
   exact et n8 <| et j1 <| hK0 x6
theorem oX (k : Nat) (a0 : a7) (a1 : (List Int)) : EV k 76 [(b8 a0), (sI a1)] = (co k a0 a1).map cT := by
 cases k with
 | zero => rfl
 | succ k =>
  unfold co
  refine et (i2 (c := f76c) (N := 22) (regs := EY) rfl func76 rfl (by decide) rfl rfl rfl) <| kr ⟨[(1, (sI a1)), (2, (Pt 2))], [(2, vS 4 (b8 a0))], 22⟩ rfl <| et b6 <| kga DG rfl (fun (o2 : Bool) => [(8, (Bo o2))]) (rd 1 [(6, (b8 a0))] rfl rfl <| rp rfl (f9 rfl rfl rfl rfl rfl (eu k a0) (.inl rfl)) fun v1 => b5 rfl) fun o2 => kc rfl rfl (fun hc => ?_) fun hc => ?_
  ·rw [hc]
   refine et b6 <| kr ⟨[(4, (I 100))], [], 22⟩ rfl <| et p8 ?_
   rfl
  ·rw [hc]
   refine et d7 <| et b6 <| kr ⟨[(1, (sI a1)), (2, (Pt 2)), (5, (I 0))], [(2, vS 4 (b8 a0))], 22⟩ rfl <| et (i4 rfl) <| et p3 ?_
   refine ly k a0 a1 _ _ ?h_ref11_asked_L1_0 ?hr_ref11_asked_L1 k 0
   ·intro y10
    refine et j3 <| kr ⟨[(4, (I 0))], [], 22⟩ rfl <| et d9 ?_
    rfl
   ·intro s; exact rfl
def cQ : (Int × Int) → V × List V := fun r => (.tup [(I r.1), (I r.2)], [])
theorem lp (k : Nat) (a0 : a7) (a1 : Int) (a2 : Str)  (K0 : Int → Option (Int × Int)) (Kst : X × St → Option (V × List V)) (hK0 : ∀ (y0 : Int), Kst (X.exit 0, ⟨[(1, (I a1)), (2, (Sr a2)), (3, (Pt 3)), (9, (I y0)), (25, (Bo false))], [(3, vS 4 (b8 a0))], 41⟩) = (K0 y0).map cQ) (hret : ∀ s, Kst (X.ret, s) = D4 prog 41 [(b8 a0), (I a1), (Sr a2)] [] [.tmp 6, .tmp 7] (X.ret, s)) :
  ∀ (m : Nat) (x8 : Int), (B5 (s7 prog (EV k) xA k xz) m ⟨[(1, (I a1)), (2, (Sr a2)), (3, (Pt 3)), (9, (I x8))], [(3, vS 4 (b8 a0))], 41⟩).bind Kst = (L9 a0 a1 a2 K0 m x8).map cQ := by
 intro m
 induction m with
 | zero => intros; rfl
 | succ m ih =>
  intro x8
  unfold L9
  refine et l8 <| et b6 <| kga xx rfl (fun (o10 : Bool) => [(25, (Bo o10))]) (rd 4 [(17, (I x8)), (18, (V.ptr 3 0 2)), (19, (l7 a0.fTypes)), (20, (I a1))] rfl rfl <| rp rfl (i6 (e := i9) rfl rfl rfl underlying22 rfl (by decide)) fun v9 => bd 7 [(21, (Pr (i9 v9))), (22, (Pr (j8 v9.fFields))), (23, (j8 v9.fFields))] rfl rfl <| rl rfl (m8 (e := j9) rfl rfl rfl rfl rfl rfl underlying46) <| b5 rfl) fun o10 => kc rfl rfl (fun hc => ?_) fun hc => ?_
  ·rw [hc]
   refine et d7 <| et (i4 rfl) <| kg xy rfl (fun (o13 : Bool) => ⟨[(1, (I a1)), (2, (Sr a2)), (3, (Pt 3)), (9, (I x8)), (39, (Bo o13))], [(3, vS 4 (b8 a0))], 41⟩) (rd 3 [(28, (V.ptr 3 0 2)), (29, (l7 a0.fTypes)), (30, (I a1))] rfl rfl <| rp rfl (i6 (e := i9) rfl rfl rfl underlying22 rfl (by decide)) fun v11 => bd 7 [(31, (Pr (i9 v11))), (32, (Pr (j8 v11.fFields))), (33, (j8 v11.fFields)), (34, (I x8))] rfl rfl <| rp rfl (i6 (e := j9) rfl rfl rfl underlying46 rfl (by decide)) fun v12 => b5 rfl) fun o13 => kcl rfl rfl (fun hc => ?_) fun hc => ?_
   ·rw [hc]
    refine kr ⟨[(6, (I x8)), (7, (I 0))], [], 41⟩ rfl <| et d9 <| et j7 <| et j6 <| et (hret _) ?_
    rfl
   ·rw [hc]
    exact et l9 <| et i3 <| kl ⟨[(1, (I a1)), (2, (Sr a2)), (3, (Pt 3)), (9, (I (Go.IntKind.wrap .i64 (x8 + 1))))], [(3, vS 4 (b8 a0))], 41⟩ rfl <| et d8 <| ih (Go.IntKind.wrap .i64 (x8 + 1))
  ·rw [hc]
   exact et n8 <| et j1 <| hK0 x8
theorem oV (k : Nat) (a0 : a7) (a1 : Int) (a2 : Str) : EV k 126 [(b8 a0), (I a1), (Sr a2)] = (cm k a0 a1 a2).map cQ := by
 cases k with
 | zero => rfl
 | succ k =>
  unfold cm
  refine et (i2 (c := FS) (N := 41) (regs := xA) rfl func126 rfl (by decide) rfl rfl rfl) <| kr ⟨[(1, (I a1)), (2, (Sr a2)), (3, (Pt 3))], [(3, vS 4 (b8 a0))], 41⟩ rfl <| et b6 <| kga xw rfl (fun (o2 : Int) => [(8, (I o2))]) (rd 3 [(10, (b8 a0)), (11, (I a1)), (12, (sI (([a1] : List Int))))] rfl rfl <| rs rfl (f9 rfl rfl rfl rfl rfl (oX k a0 ([a1] : List Int)) (.inl rfl)) fun v1 => b5 rfl) fun o2 => et b6 <| kra [(15, (Bo (o2 != 0)))] rfl <| kc rfl rfl (fun hc => ?_) fun hc => ?_
  ·rw [hc]
   refine et b6 <| kr ⟨[(6, (I 0)), (7, (I o2))], [], 41⟩ rfl <| et p8 ?_
   rfl
  ·rw [hc]
   refine et d7 <| et b6 <| kr ⟨[(1, (I a1)), (2, (Sr a2)), (3, (Pt 3)), (9, (I 0))], [(3, vS 4 (b8 a0))], 41⟩ rfl <| et (i4 rfl) <| et p3 ?_
   refine lp k a0 a1 a2 _ _ ?h_ref11_Field_L1_0 ?hr_ref11_Field_L1 k 0
   ·intro y14
    refine et j3 <| kr ⟨[(6, (I 0)), (7, (I 5))], [], 41⟩ rfl <| et d9 ?_
    rfl
   ·intro s; exact rfl
def mM : Bool → V × List V := fun r => ((Bo r), [])
theorem cU (k : Nat) (a0 : a7) (a1 : Int) (a2 : a6) : EV k 112 [(b8 a0), (I a1), (i5 a2)] = (Y2 k a0 a1 a2).map mM := by
 cases k with
 | zero => rfl
 | succ k =>
  unfold Y2
  refine et (i2 (c := FG) (N := 45) (regs := AK) rfl func112 rfl (by decide) rfl rfl rfl) <| kr ⟨[(1, (I a1)), (3, (Pt 3)), (5, (Pt 5))], [(3, vS 4 (b8 a0)), (5, vS 3 (i5 a2))], 45⟩ rfl <| kga wL rfl (fun (o2 : Int × Int) => [(7, (I o2.1)), (8, (I o2.2))]) (rd 4 [(10, (b8 a0)), (11, (I a1)), (12, (Pt 5)), (13, (Sr a2.fField))] rfl rfl <| rp rfl (f9 rfl rfl rfl rfl rfl (oV k a0 a1 a2.fField) (.inl rfl)) fun v1 => b5 rfl) fun o2 => kd wM rfl (fun (o5 : Bool) => ⟨[(6, (Bo o5))], [], 45⟩) ?_ fun o5 => ?_
  ·refine et (j4 (p := 29) (dk := true) (t := [(1, (I a1)), (3, (Pt 3)), (5, (Pt 5)), (7, (I o2.1)), (8, (I o2.2))]) (σ := [(3, vS 4 (b8 a0)), (5, vS 3 (i5 a2))]) (n := 45) rfl (by decide) (by decide) rfl) <| et (l5 (m := 3) (j := 3) (t' := [(1, (I a1)), (3, (Pt 3)), (5, (Pt 5)), (7, (I o2.1)), (8, (I o2.2)), (17, (I o2.2)), (18, (Bo (o2.2 == 0))), (19, (Bo (o2.2 == 0)))]) rfl rfl rfl) <| m9 (fun hc => ?_) fun hc => ?_
   ·rw [hc]
    refine et (l5 (m := 5) (j := 8) (t' := [(1, (I a1)), (3, (Pt 3)), (5, (Pt 5)), (7, (I o2.1)), (8, (I o2.2)), (17, (I o2.2)), (18, (Bo true)), (19, (Bo true)), (20, (V.ptr 5 0 1)), (21, (I a2.fOp)), (22, (Bo (decide (a2.fOp ≥ 1)))), (23, (Bo (decide (a2.fOp ≥ 1)))), (24, (Bo (decide (a2.fOp ≥ 1))))]) rfl rfl rfl) <| m9 (fun hc => ?_) fun hc => ?_
    ·rw [hc]
     refine et (l5 (m := 5) (j := 13) (t' := [(1, (I a1)), (3, (Pt 3)), (5, (Pt 5)), (7, (I o2.1)), (8, (I o2.2)), (17, (I o2.2)), (18, (Bo true)), (19, (Bo true)), (20, (V.ptr 5 0 1)), (21, (I a2.fOp)), (22, (Bo true)), (23, (Bo true)), (24, (Bo true)), (25, (V.ptr 5 0 1)), (26, (I a2.fOp)), (27, (Bo (decide (a2.fOp ≤ 6)))), (28, (Bo (decide (a2.fOp ≤ 6)))), (29, (Bo (decide (a2.fOp ≤ 6))))]) rfl rfl rfl) <| m9 (fun hc => ?_) fun hc => ?_
     ·rw [hc]
      exact et (l5 (m := 6) (j := 19) (t' := [(1, (I a1)), (3, (Pt 3)), (5, (Pt 5)), (7, (I o2.1)), (8, (I o2.2)), (17, (I o2.2)), (18, (Bo true)), (19, (Bo true)), (20, (V.ptr 5 0 1)), (21, (I a2.fOp)), (22, (Bo true)), (23, (Bo true)), (24, (Bo true)), (25, (V.ptr 5 0 1)), (26, (I a2.fOp)), (27, (Bo true)), (28, (Bo true)), (29, (Bo true)), (30, (V.ptr 5 0 2)), (31, (Sr a2.fValue)), (32, (I (a2.fValue.length : Int))), (33, (V.ptr 3 0 2)), (34, (l7 a0.fTypes)), (35, (I a1))]) rfl rfl rfl) <| et (d5 (x := (idx a0.fTypes a1)) (w := fun v3 => (Pr (i9 v3))) rfl rfl rfl rfl rfl (i6 (e := i9) rfl rfl rfl underlying22 rfl (by decide))) <| n5 fun v3 => et (k0 (m := 3) (j := 23) (t' := [(1, (I a1)), (3, (Pt 3)), (5, (Pt 5)), (7, (I o2.1)), (8, (I o2.2)), (17, (I o2.2)), (18, (Bo true)), (19, (Bo true)), (20, (V.ptr 5 0 1)), (21, (I a2.fOp)), (22, (Bo true)), (23, (Bo true)), (24, (Bo true)), (25, (V.ptr 5 0 1)), (26, (I a2.fOp)), (27, (Bo true)), (28, (Bo true)), (29, (Bo true)), (30, (V.ptr 5 0 2)), (31, (Sr a2.fValue)), (32, (I (a2.fValue.length : Int))), (33, (V.ptr 3 0 2)), (34, (l7 a0.fTypes)), (35, (I a1)), (36, (Pr (i9 v3))), (37, (Pr (j8 v3.fFields))), (38, (j8 v3.fFields)), (39, (I o2.1))]) rfl rfl rfl) <| et (d5 (x := (idx v3.fFields o2.1)) (w := fun v4 => (Pr (j9 v4))) rfl rfl rfl rfl rfl (i6 (e := j9) rfl rfl rfl underlying46 rfl (by decide))) <| n5 fun v4 => l6 rfl
     ·rw [hc]
      exact l6 rfl
    ·rw [hc]
     exact l6 rfl
   ·rw [hc]
    exact l6 rfl
  refine et d9 ?_
  rfl
def F6 : Bool → V × List V := fun r => ((Bo r), [])
theorem fP (k : Nat) (a0 : a7) (a1 : Int) (a2 : (List (List a6))) (x18 : Int)  (K0 : Int → Option Bool) (Kst : X × St → Option (V × List V)) (hK0 : ∀ (y0 : Int), Kst (X.exit 2, ⟨[(1, (I a1)), (2, (V.sl 0 1 (List.map b4 a2))), (3, (Pt 3)), (7, (I x18)), (8, (I y0)), (35, (Bo false))], [(3, vS 4 (b8 a0))], 52⟩) = (K0 y0).map F6) (hret : ∀ s, Kst (X.ret, s) = D4 prog 52 [(b8 a0), (I a1), (V.sl 0 1 (List.map b4 a2))] [] [.tmp 6] (X.ret, s)) :
  ∀ (m : Nat) (x28 : Int), (B5 (s7 prog (EV k) Ag k DO) m ⟨[(1, (I a1)), (2, (V.sl 0 1 (List.map b4 a2))), (3, (Pt 3)), (7, (I x18)), (8, (I x28))], [(3, vS 4 (b8 a0))], 52⟩).bind Kst = (y5 k a0 a1 a2 x18 K0 m x28).map F6 := by
 intro m
 induction m with
 | zero => intros; rfl
 | succ m ih =>
  intro x28
  unfold y5
  refine et l8 <| et b6 <| kga DM rfl (fun (o30 : Bool) => [(35, (Bo o30))]) (rd 3 [(29, (I x28)), (30, (V.sl 0 1 (List.map b4 a2))), (31, (I x18))] rfl rfl <| rp rfl (i6 (e := b4) rfl rfl rfl underlying26 rfl (by decide)) fun v29 => bd 5 [(32, (Pr (b4 v29))), (33, (b4 v29))] rfl rfl <| rl rfl (m8 (e := i5) rfl rfl rfl rfl rfl rfl underlying56) <| b5 rfl) fun o30 => kc rfl rfl (fun hc => ?_) fun hc => ?_
  ·rw [hc]
   refine et d7 <| et (i4 rfl) <| kd DN rfl (fun (o34 : Bool) => ⟨[(1, (I a1)), (2, (V.sl 0 1 (List.map b4 a2))), (3, (Pt 3)), (7, (I x18)), (8, (I x28)), (48, (Bo o34))], [(3, vS 4 (b8 a0))], 52⟩) (et (j4 (p := 11) (dk := true) (t := [(1, (I a1)), (2, (V.sl 0 1 (List.map b4 a2))), (3, (Pt 3)), (7, (I x18)), (8, (I x28)), (35, (Bo true))]) (σ := [(3, vS 4 (b8 a0))]) (n := 52) rfl (by decide) (by decide) rfl) <| et (l5 (m := 4) (j := 4) (t' := [(1, (I a1)), (2, (V.sl 0 1 (List.map b4 a2))), (3, (Pt 3)), (7, (I x18)), (8, (I x28)), (35, (Bo true)), (38, (b8 a0)), (39, (I a1)), (40, (V.sl 0 1 (List.map b4 a2))), (41, (I x18))]) rfl rfl rfl) <| et (d5 (x := (idx a2 x18)) (w := fun v31 => (Pr (b4 v31))) rfl rfl rfl rfl rfl (i6 (e := b4) rfl rfl rfl underlying26 rfl (by decide))) <| n5 fun v31 => et (k0 (m := 2) (j := 7) (t' := [(1, (I a1)), (2, (V.sl 0 1 (List.map b4 a2))), (3, (Pt 3)), (7, (I x18)), (8, (I x28)), (35, (Bo true)), (38, (b8 a0)), (39, (I a1)), (40, (V.sl 0 1 (List.map b4 a2))), (41, (I x18)), (42, (Pr (b4 v31))), (43, (b4 v31)), (44, (I x28))]) rfl rfl rfl) <| et (d5 (x := (idx v31 x28)) (w := fun v32 => (Pr (i5 v32))) rfl rfl rfl rfl rfl (i6 (e := i5) rfl rfl rfl underlying56 rfl (by decide))) <| n5 fun v32 => et (k0 (m := 1) (j := 9) (t' := [(1, (I a1)), (2, (V.sl 0 1 (List.map b4 a2))), (3, (Pt 3)), (7, (I x18)), (8, (I x28)), (35, (Bo true)), (38, (b8 a0)), (39, (I a1)), (40, (V.sl 0 1 (List.map b4 a2))), (41, (I x18)), (42, (Pr (b4 v31))), (43, (b4 v31)), (44, (I x28)), (45, (Pr (i5 v32))), (46, (i5 v32))]) rfl rfl rfl) <| et (d5 (x := (Y2 k a0 a1 v32)) (w := fun v33 => (Bo v33)) rfl rfl rfl rfl rfl (f9 rfl rfl rfl rfl rfl (cU k a0 a1 v32) (.inl rfl))) <| n5 fun v33 => l6 rfl) fun o34 => kcl rfl rfl (fun hc => ?_) fun hc => ?_
   ·rw [hc]
    refine kr ⟨[(6, (Bo false))], [], 52⟩ rfl <| et d9 <| et j7 <| et j6 <| et (hret _) ?_
    rfl
   ·rw [hc]
    exact et l9 <| et i3 <| kl ⟨[(1, (I a1)), (2, (V.sl 0 1 (List.map b4 a2))), (3, (Pt 3)), (7, (I x18)), (8, (I (Go.IntKind.wrap .i64 (x28 + 1))))], [(3, vS 4 (b8 a0))], 52⟩ rfl <| et d8 <| ih (Go.IntKind.wrap .i64 (x28 + 1))
  ·rw [hc]
   exact et n8 <| et j1 <| hK0 x28
theorem fO (k : Nat) (a0 : a7) (a1 : Int) (a2 : (List (List a6)))  (K0 : Int → Option Bool) (Kst : X × St → Option (V × List V)) (hK0 : ∀ (y0 : Int), Kst (X.exit 0, ⟨[(1, (I a1)), (2, (V.sl 0 1 (List.map b4 a2))), (3, (Pt 3)), (7, (I y0)), (12, (Bo false))], [(3, vS 4 (b8 a0))], 52⟩) = (K0 y0).map F6) (hret : ∀ s, Kst (X.ret, s) = D4 prog 52 [(b8 a0), (I a1), (V.sl 0 1 (List.map b4 a2))] [] [.tmp 6] (X.ret, s)) :
  ∀ (m : Nat) (x18 : Int), (B5 (s7 prog (EV k) Ag k DP) m ⟨[(1, (I a1)), (2, (V.sl 0 1 (List.map b4 a2))), (3, (Pt 3)), (7, (I x18))], [(3, vS 4 (b8 a0))], 52⟩).bind Kst = (A8 k a0 a1 a2 K0 m x18).map F6 := by
 intro m
 induction m with
 | zero => intros; rfl
 | succ m ih =>
  intro x18
  unfold A8
  refine et l8 <| et b6 <| krp DK rfl ⟨[(1, (I a1)), (2, (V.sl 0 1 (List.map b4 a2))), (3, (Pt 3)), (7, (I x18)), (12, (Bo (decide (x18 < (a2.length : Int)))))], [(3, vS 4 (b8 a0))], 52⟩ ?_ ?_
  ·exact rd 2 [(9, (I x18)), (10, (V.sl 0 1 (List.map b4 a2)))] rfl rfl <| rl rfl (m8 (e := b4) rfl rfl rfl rfl rfl rfl underlying26) <| b5 rfl
  refine kc rfl rfl (fun hc => ?_) fun hc => ?_
  ·rw [hc]
   refine et d7 <| et (i4 rfl) <| et b6 <| kg DL rfl (fun (o21 : Bool) => ⟨[(1, (I a1)), (2, (V.sl 0 1 (List.map b4 a2))), (3, (Pt 3)), (7, (I x18)), (28, (Bo o21))], [(3, vS 4 (b8 a0))], 52⟩) ?_ fun o21 => ?_
   ·refine rd 2 [(15, (V.sl 0 1 (List.map b4 a2))), (16, (I x18))] rfl rfl <| rp rfl (i6 (e := b4) rfl rfl rfl underlying26 rfl (by decide)) fun v19 => bd 4 [(17, (Pr (b4 v19))), (18, (b4 v19))] rfl rfl <| rl rfl (m8 (e := i5) rfl rfl rfl rfl rfl rfl underlying56) <| bd 7 [(19, (I (v19.length : Int))), (20, (Bo (decide ((v19.length : Int) < 1)))), (21, (Bo (decide ((v19.length : Int) < 1))))] rfl rfl <| m9 (fun hc => ?_) fun hc => ?_
    ·rw [hc]
     exact c9 rfl
    ·rw [hc]
     exact rd 9 [(22, (V.sl 0 1 (List.map b4 a2))), (23, (I x18))] rfl rfl <| rp rfl (i6 (e := b4) rfl rfl rfl underlying26 rfl (by decide)) fun v20 => bd 11 [(24, (Pr (b4 v20))), (25, (b4 v20))] rfl rfl <| rl rfl (m8 (e := i5) rfl rfl rfl rfl rfl rfl underlying56) <| b5 rfl
   refine kc rfl rfl (fun hc => ?_) fun hc => ?_
   ·rw [hc]
    refine et b6 <| kr ⟨[(6, (Bo false))], [], 52⟩ rfl <| et p8 <| et j7 <| et j6 <| et (hret _) ?_
    rfl
   ·rw [hc]
    refine et d7 <| kr ⟨[(1, (I a1)), (2, (V.sl 0 1 (List.map b4 a2))), (3, (Pt 3)), (7, (I x18)), (8, (I 0))], [(3, vS 4 (b8 a0))], 52⟩ rfl <| et (I5 rfl) <| et p3 ?_
    refine fP k a0 a1 a2 x18 _ _ ?h_ref12_isCondition_L2_0 ?hr_ref12_isCondition_L2 k 0
    ·intro y35
     exact et j3 <| et l9 <| et i3 <| kl ⟨[(1, (I a1)), (2, (V.sl 0 1 (List.map b4 a2))), (3, (Pt 3)), (7, (I (Go.IntKind.wrap .i64 (x18 + 1))))], [(3, vS 4 (b8 a0))], 52⟩ rfl <| et d8 <| ih (Go.IntKind.wrap .i64 (x18 + 1))
    ·intro s; exact hret s
  ·rw [hc]
   exact et n8 <| et j1 <| hK0 x18
theorem W4 (k : Nat) (a0 : a7) (a1 : Int) (a2 : (List (List a6))) : EV k 78 [(b8 a0), (I a1), (V.sl 0 1 (List.map b4 a2))] = (H3 k a0 a1 a2).map F6 := by
 cases k with
 | zero => rfl
 | succ k =>
  unfold H3
  refine et (i2 (c := f78c) (N := 52) (regs := Ag) rfl func78 rfl (by decide) rfl rfl rfl) <| kr ⟨[(1, (I a1)), (2, (V.sl 0 1 (List.map b4 a2))), (3, (Pt 3))], [(3, vS 4 (b8 a0))], 52⟩ rfl <| et b6 <| kra [(7, (I 0))] rfl <| et (i4 rfl) <| et p3 ?_
  refine fO k a0 a1 a2 _ _ ?h_ref12_isCondition_L1_0 ?hr_ref12_isCondition_L1 k 0
  ·intro y36
   refine et j3 <| krp yz rfl ⟨[(6, (Bo (decide ((a2.length : Int) ≤ 4))))], [], 52⟩ ?_ ?_
   ·exact rd 1 [(49, (V.sl 0 1 (List.map b4 a2)))] rfl rfl <| rl rfl (m8 (e := b4) rfl rfl rfl rfl rfl rfl underlying26) <| b5 rfl
   refine et d9 ?_
   rfl
  ·intro s; exact rfl
def gR : ((List (List a6)) × Str × Bool) → V × List V := fun r => (.tup [(V.sl 0 1 (List.map b4 r.1)), (Sr r.2.1), (Bo r.2.2)], [])
theorem lB (k : Nat) (a0 : a7) (a1 : Int) (a2 : Str)   (Kst : X × St → Option (V × List V))  (hret : ∀ s, Kst (X.ret, s) = D4 prog 56 [(b8 a0), (I a1), (Sr a2)] [] [.tmp 6, .tmp 7, .tmp 8] (X.ret, s)) :
  ∀ (m : Nat) (x17 : Str) (x18 : (List a6)) (x19 : (List (List a6))), (B5 (s7 prog (EV k) EW k Du) m ⟨[(1, (I a1)), (2, (Sr x17)), (3, (Pt 3)), (9, (V.sl 1 1 (List.map b4 x19))), (10, (V.sl 1 3 (List.map i5 x18)))], [(3, vS 4 (b8 a0))], 56⟩).bind Kst = (M1 k a0 a1 m x17 x18 x19).map gR := by
 intro m
 induction m with
 | zero => intros; rfl
 | succ m ih =>
  intro x17 x18 x19
  unfold M1
  refine et l8 <| et (I5 rfl) <| kg Dp rfl (fun (o21 : Str × Bool × a6) => ⟨[(1, (I a1)), (3, (Pt 3)), (9, (V.sl 1 1 (List.map b4 x19))), (10, (V.sl 1 3 (List.map i5 x18))), (11, (Pt 11)), (12, (Sr o21.1)), (13, (Bo o21.2.1))], [(3, vS 4 (b8 a0)), (11, vS 3 (i5 o21.2.2))], 56⟩) (rd 3 [(15, (b8 a0)), (16, (I a1)), (17, (Sr x17))] rfl rfl <| rp rfl (f9 rfl rfl rfl rfl rfl (ew k a0 a1 x17) (.inl rfl)) fun v20 => b5 rfl) fun o21 => et b6 <| kr ⟨[(1, (I a1)), (3, (Pt 3)), (9, (V.sl 1 1 (List.map b4 x19))), (10, (V.sl 1 3 (List.map i5 x18))), (11, (Pt 11)), (12, (Sr o21.1)), (23, (Bo (!o21.2.1)))], [(3, vS 4 (b8 a0)), (11, vS 3 (i5 o21.2.2))], 56⟩ rfl <| kc rfl rfl (fun hc => ?_) fun hc => ?_
  ·rw [hc]
   refine et b6 <| kr ⟨[(6, (V.sl 0 1 (List.map b4 ([] : List (List a6))))), (7, (Sr ([] : Str))), (8, (Bo false))], [], 56⟩ rfl <| et p8 <| et j7 <| et j6 <| et (hret _) ?_
   rfl
  ·rw [hc]
   refine et d7 <| kg Dq rfl (fun (o23 : (List a6)) => ⟨[(1, (I a1)), (3, (Pt 3)), (9, (V.sl 1 1 (List.map b4 x19))), (10, (V.sl 1 3 (List.map i5 o23))), (12, (Sr o21.1))], [(3, vS 4 (b8 a0))], 56⟩) (ra 3 3 ⟨[(1, (I a1)), (3, (Pt 3)), (9, (V.sl 1 1 (List.map b4 x19))), (10, (b4 x18)), (11, (Pt 11)), (12, (Sr o21.1)), (23, (Bo false)), (24, (V.sl 1 3 (List.map i5 x18))), (25, (i5 o21.2.2)), (26, (b4 (([o21.2.2] : List a6))))], [(3, vS 4 (b8 a0)), (11, vS 3 (i5 o21.2.2))], 56⟩ rfl rfl rfl <| et (O6 (x := (app x18 ([o21.2.2] : List a6))) (w := fun v22 => ((V.sl 1 3 (List.map i5 v22)), _)) rfl rfl rfl rfl (nh (e := i5) rfl rfl rfl rfl rfl rfl rfl rfl rfl rfl (by decide))) <| F8 fun v22 => b5 rfl) fun o23 => et b6 <| kga Dr rfl (fun (o25 : Bool) => [(34, (Bo o25))]) ?_ fun o25 => ?_
   ·refine rd 3 [(28, (Sr o21.1)), (29, (Bo (!(o21.1 == ([] : Str))))), (30, (Bo (!(o21.1 == ([] : Str)))))] rfl rfl <| m9 (fun hc => ?_) fun hc => ?_
    ·rw [hc]
     exact rd 4 [(31, (Sr o21.1))] rfl rfl <| rp rfl (s9 rfl rfl rfl underlying9) fun v24 => b5 rfl
    ·rw [hc]
     exact c9 rfl
   refine kc rfl rfl (fun hc => ?_) fun hc => ?_
   ·rw [hc]
    exact et b6 <| kg Ds rfl (fun (o27 : Str) => ⟨[(1, (I a1)), (2, (Sr o27)), (3, (Pt 3)), (9, (V.sl 1 1 (List.map b4 x19))), (10, (V.sl 1 3 (List.map i5 o23)))], [(3, vS 4 (b8 a0))], 56⟩) (rd 1 [(35, (Sr o21.1))] rfl rfl <| rs rfl (u6 rfl rfl rfl rfl rfl rfl underlying9) fun v26 => b5 rfl) fun o27 => et n8 <| et j3 <| et l9 <| et d8 <| ih o27 o23 x19
   ·rw [hc]
    refine et d7 <| kg Dt rfl (fun (o29 : (List (List a6))) => ⟨[(1, (I a1)), (3, (Pt 3)), (9, (V.sl 1 1 (List.map b4 o29))), (12, (Sr o21.1))], [(3, vS 4 (b8 a0))], 56⟩) (ra 3 3 ⟨[(1, (I a1)), (3, (Pt 3)), (9, (V.sl 0 1 (List.map b4 x19))), (10, (V.sl 1 3 (List.map i5 o23))), (12, (Sr o21.1)), (34, (Bo false)), (37, (V.sl 1 1 (List.map b4 x19))), (38, (b4 o23)), (39, (V.sl 0 1 (List.map b4 ([o23] : List (List a6)))))], [(3, vS 4 (b8 a0))], 56⟩ rfl rfl rfl <| et (O6 (x := (app x19 ([o23] : List (List a6)))) (w := fun v28 => ((V.sl 1 1 (List.map b4 v28)), _)) rfl rfl rfl rfl (nh (e := b4) rfl rfl rfl rfl rfl rfl rfl rfl rfl rfl (by decide))) <| F8 fun v28 => b5 rfl) fun o29 => kr ⟨[(1, (I a1)), (3, (Pt 3)), (9, (V.sl 1 1 (List.map b4 o29))), (10, (V.sl 1 3 (List.map i5 ([] : List a6)))), (12, (Sr o21.1))], [(3, vS 4 (b8 a0))], 56⟩ rfl <| et b6 <| kga yw rfl (fun (o31 : Bool) => [(47, (Bo o31))]) ?_ fun o31 => ?_
    ·refine rd 3 [(41, (Sr o21.1)), (42, (Bo (o21.1 == ([] : Str)))), (43, (Bo (o21.1 == ([] : Str))))] rfl rfl <| m9 (fun hc => ?_) fun hc => ?_
     ·rw [hc]
      exact c9 rfl
     ·rw [hc]
      exact rd 4 [(44, (Sr o21.1))] rfl rfl <| rp rfl (s9 rfl rfl rfl underlying9) fun v30 => b5 rfl
    refine kc rfl rfl (fun hc => ?_) fun hc => ?_
    ·rw [hc]
     refine et b6 <| kg yx rfl (fun (o33 : (List (List a6)) × Str × Bool) => ⟨[(6, (V.sl 0 1 (List.map b4 o33.1))), (7, (Sr o33.2.1)), (8, (Bo o33.2.2))], [], 56⟩) (rd 5 [(48, (V.sl 0 1 (List.map b4 o29))), (49, (Sr o21.1)), (50, (b8 a0)), (51, (I a1)), (52, (V.sl 0 1 (List.map b4 o29)))] rfl rfl <| rp rfl (f9 rfl rfl rfl rfl rfl (W4 k a0 a1 o29) (.inl rfl)) fun v32 => b5 rfl) fun o33 => et p8 <| et j7 <| et j6 <| et (hret _) ?_
     rfl
    ·rw [hc]
     exact et d7 <| kgl yy rfl (fun (o35 : Str) => ⟨[(1, (I a1)), (2, (Sr o35)), (3, (Pt 3)), (9, (V.sl 1 1 (List.map b4 o29))), (10, (V.sl 1 3 (List.map i5 ([] : List a6))))], [(3, vS 4 (b8 a0))], 56⟩) (rd 1 [(54, (Sr o21.1))] rfl rfl <| rs rfl (u6 rfl rfl rfl rfl rfl rfl underlying9) fun v34 => b5 rfl) fun o35 => et i3 <| et l9 <| et d8 <| ih o35 ([] : List a6) o29
theorem iO (k : Nat) (a0 : a7) (a1 : Int) (a2 : Str) : EV k 61 [(b8 a0), (I a1), (Sr a2)] = (O4 k a0 a1 a2).map gR := by
 cases k with
 | zero => rfl
 | succ k =>
  unfold O4
  refine et (i2 (c := f61c) (N := 56) (regs := EW) rfl func61 rfl (by decide) rfl rfl rfl) <| kr ⟨[(1, (I a1)), (2, (Sr a2)), (3, (Pt 3))], [(3, vS 4 (b8 a0))], 56⟩ rfl <| kra [(9, (V.sl 1 1 (List.map b4 ([] : List (List a6)))))] rfl <| kra [(10, (V.sl 1 3 (List.map i5 ([] : List a6))))] rfl <| et (I5 rfl) <| et p3 ?_
  refine lB k a0 a1 a2 _ ?hr_ref12_Begin_L1 k a2 ([] : List a6) ([] : List (List a6))
  ·intro s; exact rfl
def T5 : (a8 × Str × Bool) → V × List V := fun r => (.tup [(i7 r.1), (Sr r.2.1), (Bo r.2.2)], [])
theorem lE (k : Nat) (a0 : a7) (a1 : Str)  (K0 : Int → Int → Option (a8 × Str × Bool)) (Kst : X × St → Option (V × List V)) (hK0 : ∀ (y0 : Int) (y1 : Int), Kst (X.exit 0, ⟨[(1, (Sr a1)), (2, (Pt 2)), (4, (Pt 4)), (7, (I y0)), (8, (I y1)), (19, (Bo false))], [(2, vS 4 (b8 a0)), (4, ⟨false, 3, [(V.agg [(Sr []), (Sr []), (V.sl 2 1 (List.map b4 ([] : List (List a6))))])]⟩)], 130⟩) = (K0 y0 y1).map T5) (hret : ∀ s, Kst (X.ret, s) = D4 prog 130 [(b8 a0), (Sr a1)] [] [.cell 4 28, .tmp 5, .tmp 6] (X.ret, s)) :
  ∀ (m : Nat) (x6 : Int) (x7 : Int), (B5 (s7 prog (EV k) Aa k Cc) m ⟨[(1, (Sr a1)), (2, (Pt 2)), (4, (Pt 4)), (7, (I x6)), (8, (I x7))], [(2, vS 4 (b8 a0)), (4, ⟨false, 3, [(V.agg [(Sr []), (Sr []), (V.sl 2 1 (List.map b4 ([] : List (List a6))))])]⟩)], 130⟩).bind Kst = (t7 k a0 a1 K0 m x6 x7).map T5 := by
 intro m
 induction m with
 | zero => intros; rfl
 | succ m ih =>
  intro x6 x7
  unfold Go.Sh.t7
  refine et l8 <| et b6 <| krp BZ rfl ⟨[(1, (Sr a1)), (2, (Pt 2)), (4, (Pt 4)), (7, (I x6)), (8, (I x7)), (19, (Bo (decide (x7 < (a0.fTypes.length : Int)))))], [(2, vS 4 (b8 a0)), (4, ⟨false, 3, [(V.agg [(Sr []), (Sr []), (V.sl 2 1 (List.map b4 ([] : List (List a6))))])]⟩)], 130⟩ ?_ ?_
  ·exact rd 3 [(15, (I x7)), (16, (V.ptr 2 0 2)), (17, (l7 a0.fTypes))] rfl rfl <| rl rfl (m8 (e := i9) rfl rfl rfl rfl rfl rfl underlying22) <| b5 rfl
  refine kc rfl rfl (fun hc => ?_) fun hc => ?_
  ·rw [hc]
   refine et d7 <| et (i4 rfl) <| kg Ca rfl (fun (o10 : Str) => ⟨[(1, (Sr a1)), (2, (Pt 2)), (4, (Pt 4)), (7, (I x6)), (8, (I x7)), (9, (Sr o10))], [(2, vS 4 (b8 a0)), (4, ⟨false, 3, [(V.agg [(Sr []), (Sr []), (V.sl 2 1 (List.map b4 ([] : List (List a6))))])]⟩)], 130⟩) (rd 3 [(22, (V.ptr 2 0 2)), (23, (l7 a0.fTypes)), (24, (I x7))] rfl rfl <| rp rfl (i6 (e := i9) rfl rfl rfl underlying22 rfl (by decide)) fun v8 => bd 6 [(25, (Pr (i9 v8))), (26, (Pr (Sr v8.fName))), (27, (Sr v8.fName))] rfl rfl <| rs rfl (f9 rfl rfl rfl rfl rfl (T4 k v8.fName) (.inl rfl)) fun v9 => b5 rfl) fun o10 => kg Cb rfl (fun (o12 : Bool) => ⟨[(1, (Sr a1)), (2, (Pt 2)), (4, (Pt 4)), (7, (I x6)), (8, (I x7)), (37, (Bo o12))], [(2, vS 4 (b8 a0)), (4, ⟨false, 3, [(V.agg [(Sr []), (Sr []), (V.sl 2 1 (List.map b4 ([] : List (List a6))))])]⟩)], 130⟩) ?_ fun o12 => ?_
   ·refine rd 4 [(29, (Sr a1)), (30, (I (a1.length : Int))), (31, (Bo (decide ((a1.length : Int) > 8)))), (32, (Bo (decide ((a1.length : Int) > 8))))] rfl rfl <| m9 (fun hc => ?_) fun hc => ?_
    ·rw [hc]
     exact rd 5 [(33, (Sr a1))] rfl rfl <| rp rfl (u6 rfl rfl rfl rfl rfl rfl underlying9) fun v11 => b5 rfl
    ·rw [hc]
     exact c9 rfl
   refine kcl rfl rfl (fun hc => ?_) fun hc => ?_
   ·rw [hc]
    exact kl ⟨[(1, (Sr a1)), (2, (Pt 2)), (4, (Pt 4)), (7, (I x7)), (8, (I x7))], [(2, vS 4 (b8 a0)), (4, ⟨false, 3, [(V.agg [(Sr []), (Sr []), (V.sl 2 1 (List.map b4 ([] : List (List a6))))])]⟩)], 130⟩ rfl <| et i3 <| kl ⟨[(1, (Sr a1)), (2, (Pt 2)), (4, (Pt 4)), (7, (I x7)), (8, (I (Go.IntKind.wrap .i64 (x7 + 1))))], [(2, vS 4 (b8 a0)), (4, ⟨false, 3, [(V.agg [(Sr []), (Sr []), (V.sl 2 1 (List.map b4 ([] : List (List a6))))])]⟩)], 130⟩ rfl <| et d8 <| ih x7 (Go.IntKind.wrap .i64 (x7 + 1))
   ·rw [hc]
    exact et l9 <| et i3 <| kl ⟨[(1, (Sr a1)), (2, (Pt 2)), (4, (Pt 4)), (7, (I x6)), (8, (I (Go.IntKind.wrap .i64 (x7 + 1))))], [(2, vS 4 (b8 a0)), (4, ⟨false, 3, [(V.agg [(Sr []), (Sr []), (V.sl 2 1 (List.map b4 ([] : List (List a6))))])]⟩)], 130⟩ rfl <| et d8 <| ih x6 (Go.IntKind.wrap .i64 (x7 + 1))
  ·rw [hc]
   exact et n8 <| et j1 <| hK0 x6 x7
theorem lF (k : Nat) (a0 : a7) (a1 : Str) (y13 : Int) (o16 : a8) (o18 : Str)  (K0 : Int → Option (a8 × Str × Bool)) (Kst : X × St → Option (V × List V)) (hK0 : ∀ (y0 : Int), Kst (X.exit 2, ⟨[(1, (Sr o18)), (2, (Pt 2)), (4, (Pt 4)), (7, (I y13)), (10, (Pt 10)), (11, (I y0)), (69, (Bo false))], [(2, vS 4 (b8 a0)), (4, ⟨false, 3, [(V.agg [(Sr []), (Sr []), (V.sl 2 1 (List.map b4 ([] : List (List a6))))])]⟩), (10, vS 3 (i7 o16))], 130⟩) = (K0 y0).map T5) (hret : ∀ s, Kst (X.ret, s) = D4 prog 130 [(b8 a0), (Sr a1)] [] [.cell 4 28, .tmp 5, .tmp 6] (X.ret, s)) :
  ∀ (m : Nat) (x24 : Int), (B5 (s7 prog (EV k) Aa k Cd) m ⟨[(1, (Sr o18)), (2, (Pt 2)), (4, (Pt 4)), (7, (I y13)), (10, (Pt 10)), (11, (I x24))], [(2, vS 4 (b8 a0)), (4, ⟨false, 3, [(V.agg [(Sr []), (Sr []), (V.sl 2 1 (List.map b4 ([] : List (List a6))))])]⟩), (10, vS 3 (i7 o16))], 130⟩).bind Kst = (H2 o18 K0 m x24).map T5 := by
 intro m
 induction m with
 | zero => intros; rfl
 | succ m ih =>
  intro x24
  unfold H2
  refine et l8 <| et b6 <| kga yc rfl (fun (o27 : Bool) => [(69, (Bo o27))]) ?_ fun o27 => ?_
  ·refine rd 5 [(54, (I x24)), (55, (Sr o18)), (56, (I (o18.length : Int))), (57, (Bo (decide (x24 < (o18.length : Int))))), (58, (Bo (decide (x24 < (o18.length : Int)))))] rfl rfl <| m9 (fun hc => ?_) fun hc => ?_
   ·rw [hc]
    refine rd 7 [(59, (Sr o18)), (60, (I x24))] rfl rfl <| rp rfl (s9 rfl rfl rfl underlying9) fun v25 => bd 11 [(61, (V.int .u8 v25)), (62, (Bo (decide (v25 ≥ 65)))), (63, (Bo (decide (v25 ≥ 65)))), (64, (Bo (decide (v25 ≥ 65))))] rfl rfl <| m9 (fun hc => ?_) fun hc => ?_
    ·rw [hc]
     exact rd 13 [(65, (Sr o18)), (66, (I x24))] rfl rfl <| rp rfl (s9 rfl rfl rfl underlying9) fun v26 => b5 rfl
    ·rw [hc]
     exact c9 rfl
   ·rw [hc]
    exact c9 rfl
  refine kc rfl rfl (fun hc => ?_) fun hc => ?_
  ·rw [hc]
   exact et d7 <| et (I5 rfl) <| kl ⟨[(1, (Sr o18)), (2, (Pt 2)), (4, (Pt 4)), (7, (I y13)), (10, (Pt 10)), (11, (I (Go.IntKind.wrap .i64 (x24 + 1))))], [(2, vS 4 (b8 a0)), (4, ⟨false, 3, [(V.agg [(Sr []), (Sr []), (V.sl 2 1 (List.map b4 ([] : List (List a6))))])]⟩), (10, vS 3 (i7 o16))], 130⟩ rfl <| et i3 <| et l9 <| et d8 <| ih (Go.IntKind.wrap .i64 (x24 + 1))
  ·rw [hc]
   exact et n8 <| et j1 <| hK0 x24
theorem pa (k : Nat) (a0 : a7) (a1 : Str) : EV k 31 [(b8 a0), (Sr a1)] = (cq k a0 a1).map T5 := by
 cases k with
 | zero => rfl
 | succ k =>
  unfold cq
  refine et (i2 (c := f31c) (N := 130) (regs := Aa) rfl func31 rfl (by decide) rfl rfl rfl) <| kr ⟨[(1, (Sr a1)), (2, (Pt 2)), (4, (Pt 4))], [(2, vS 4 (b8 a0)), (4, ⟨false, 3, [(V.agg [(Sr []), (Sr []), (V.sl 2 1 (List.map b4 ([] : List (List a6))))])]⟩)], 130⟩ rfl <| kra [(7, (I (-1)))] rfl <| et b6 <| kra [(8, (I 0))] rfl <| et (i4 rfl) <| et p3 ?_
  refine lE k a0 a1 _ _ ?h_ref14_Begin_L1_0 ?hr_ref14_Begin_L1 k (-1) 0
  ·intro y13 y14
   refine et j3 <| et b6 <| kr ⟨[(1, (Sr a1)), (2, (Pt 2)), (4, (Pt 4)), (7, (I y13)), (40, (Bo (decide (y13 < 0))))], [(2, vS 4 (b8 a0)), (4, ⟨false, 3, [(V.agg [(Sr []), (Sr []), (V.sl 2 1 (List.map b4 ([] : List (List a6))))])]⟩)], 130⟩ rfl <| kc rfl rfl (fun hc => ?_) fun hc => ?_
   ·rw [hc]
    refine et b6 <| kr ⟨[(4, (Pt 4)), (5, (Sr ([] : Str))), (6, (Bo false))], [(4, ⟨false, 3, [(i7 ({ fSegment := [], fCodes := [], fWhen := ([] : List (List a6)) } : a8))]⟩)], 130⟩ rfl <| et p8 ?_
    rfl
   ·rw [hc]
    refine et d7 <| kg xZ rfl (fun (o16 : a8) => ⟨[(1, (Sr a1)), (2, (Pt 2)), (4, (Pt 4)), (7, (I y13)), (10, (Pt 10))], [(2, vS 4 (b8 a0)), (4, ⟨false, 3, [(V.agg [(Sr []), (Sr []), (V.sl 2 1 (List.map b4 ([] : List (List a6))))])]⟩), (10, vS 3 (i7 o16))], 130⟩) (rd 3 [(42, (V.ptr 2 0 2)), (43, (l7 a0.fTypes)), (44, (I y13))] rfl rfl <| rp rfl (i6 (e := i9) rfl rfl rfl underlying22 rfl (by decide)) fun v15 => b5 rfl) fun o16 => kg ya rfl (fun (o18 : Str) => ⟨[(1, (Sr o18)), (2, (Pt 2)), (4, (Pt 4)), (7, (I y13)), (10, (Pt 10))], [(2, vS 4 (b8 a0)), (4, ⟨false, 3, [(V.agg [(Sr []), (Sr []), (V.sl 2 1 (List.map b4 ([] : List (List a6))))])]⟩), (10, vS 3 (i7 o16))], 130⟩) (rd 1 [(49, (Sr a1))] rfl rfl <| rs rfl (u6 rfl rfl rfl rfl rfl rfl underlying9) fun v17 => b5 rfl) fun o18 => et b6 <| kga yb rfl (fun (o20 : Bool) => [(53, (Bo o20))]) (rd 1 [(51, (Sr o18))] rfl rfl <| rp rfl (s9 rfl rfl rfl underlying9) fun v19 => b5 rfl) fun o20 => kc rfl rfl (fun hc => ?_) fun hc => ?_
    ·rw [hc]
     refine et b6 <| kr ⟨[(1, (Sr o18)), (2, (Pt 2)), (4, (Pt 4)), (7, (I y13)), (10, (Pt 10)), (11, (I 1))], [(2, vS 4 (b8 a0)), (4, ⟨false, 3, [(V.agg [(Sr []), (Sr []), (V.sl 2 1 (List.map b4 ([] : List (List a6))))])]⟩), (10, vS 3 (i7 o16))], 130⟩ rfl <| et b6 <| et (i4 rfl) <| et p3 ?_
     refine lF k a0 a1 y13 o16 o18 _ _ ?h_ref14_Begin_L2_0 ?hr_ref14_Begin_L2 k 1
     ·intro y28
      refine et j3 <| et b6 <| kg yd rfl (fun (o30 : a8) => ⟨[(1, (Sr o18)), (2, (Pt 2)), (4, (Pt 4)), (7, (I y13)), (10, (Pt 10)), (11, (I y28))], [(2, vS 4 (b8 a0)), (4, ⟨false, 3, [(V.agg [(Sr []), (Sr []), (V.sl 2 1 (List.map b4 ([] : List (List a6))))])]⟩), (10, vS 3 (i7 o30))], 130⟩) (rd 2 [(72, (Sr o18)), (73, (I y28))] rfl rfl <| rp rfl (u6 rfl rfl rfl rfl rfl rfl underlying9) fun v29 => b5 rfl) fun o30 => et b6 <| kg ye rfl (fun (o32 : Str) => ⟨[(1, (Sr o32)), (2, (Pt 2)), (4, (Pt 4)), (7, (I y13)), (10, (Pt 10))], [(2, vS 4 (b8 a0)), (4, ⟨false, 3, [(V.agg [(Sr []), (Sr []), (V.sl 2 1 (List.map b4 ([] : List (List a6))))])]⟩), (10, vS 3 (i7 o30))], 130⟩) (rd 2 [(76, (Sr o18)), (77, (I y28))] rfl rfl <| rs rfl (u6 rfl rfl rfl rfl rfl rfl underlying9) fun v31 => b5 rfl) fun o32 => et b6 <| kga yf rfl (fun (o34 : Bool) => [(91, (Bo o34))]) ?_ fun o34 => ?_
      ·refine rd 4 [(79, (V.ptr 10 0 1)), (80, (Sr o30.fCodes)), (81, (Bo (o30.fCodes == ([] : Str)))), (82, (Bo (o30.fCodes == ([] : Str))))] rfl rfl <| m9 (fun hc => ?_) fun hc => ?_
       ·rw [hc]
        exact c9 rfl
       ·rw [hc]
        refine rd 6 [(83, (V.ptr 10 0 1)), (84, (Sr o30.fCodes))] rfl rfl <| rp rfl (f9 rfl rfl rfl rfl rfl (bG k o30.fCodes) (.inl rfl)) fun v33 => bd 10 [(85, (Bo v33)), (86, (Bo (!v33))), (87, (Bo (!v33))), (88, (Bo (!v33)))] rfl rfl <| m9 (fun hc => ?_) fun hc => ?_
        ·rw [hc]
         exact c9 rfl
        ·rw [hc]
         exact c9 rfl
      refine kc rfl rfl (fun hc => ?_) fun hc => ?_
      ·rw [hc]
       refine et b6 <| kr ⟨[(4, (Pt 4)), (5, (Sr ([] : Str))), (6, (Bo false))], [(4, ⟨false, 3, [(i7 ({ fSegment := [], fCodes := [], fWhen := ([] : List (List a6)) } : a8))]⟩)], 130⟩ rfl <| et p8 ?_
       rfl
      ·rw [hc]
       refine et d7 <| et b6 <| kg tL rfl (fun (o36 : Bool) => ⟨[(1, (Sr o32)), (2, (Pt 2)), (4, (Pt 4)), (7, (I y13)), (10, (Pt 10)), (95, (Bo o36))], [(2, vS 4 (b8 a0)), (4, ⟨false, 3, [(V.agg [(Sr []), (Sr []), (V.sl 2 1 (List.map b4 ([] : List (List a6))))])]⟩), (10, vS 3 (i7 o30))], 130⟩) (rd 1 [(93, (Sr o32))] rfl rfl <| rp rfl (s9 rfl rfl rfl underlying9) fun v35 => b5 rfl) fun o36 => kc rfl rfl (fun hc => ?_) fun hc => ?_
       ·rw [hc]
        refine et b6 <| kd tM rfl (fun (o38 : Str × Bool × a8) => ⟨[(4, (Pt 4)), (5, (Sr o38.1)), (6, (Bo o38.2.1))], [(4, vS 3 (i7 o38.2.2))], 130⟩) (et (j4 (p := 3) (dk := false) (t := [(1, (Sr o32)), (2, (Pt 2)), (4, (Pt 4)), (7, (I y13)), (10, (Pt 10)), (95, (Bo true))]) (σ := [(2, vS 4 (b8 a0)), (4, ⟨false, 3, [(V.agg [(Sr []), (Sr []), (V.sl 2 1 (List.map b4 ([] : List (List a6))))])]⟩), (10, vS 3 (i7 o30))]) (n := 130) rfl (by decide) (by decide) rfl) <| et (l5 (m := 2) (j := 2) (t' := [(1, (Sr o32)), (2, (Pt 2)), (4, (Pt 4)), (7, (I y13)), (10, (Pt 10)), (95, (Bo true)), (96, (i7 o30)), (97, (Sr o32))]) rfl rfl rfl) <| et (d5 (x := (cut o32 1 (o32.length : Int))) (w := fun v37 => (Sr v37)) rfl rfl rfl rfl rfl (u6 rfl rfl rfl rfl rfl rfl underlying9)) <| n5 fun v37 => l6 rfl) fun o38 => et p8 ?_
        rfl
       ·rw [hc]
        refine et d7 <| kd tN rfl (fun (o41 : (List (List a6)) × Str × Bool) => ⟨[(1, (Sr o32)), (4, (Pt 4)), (10, (Pt 10)), (12, (V.sl 0 1 (List.map b4 o41.1))), (13, (Sr o41.2.1)), (14, (Bo o41.2.2))], [(4, ⟨false, 3, [(V.agg [(Sr []), (Sr []), (V.sl 2 1 (List.map b4 ([] : List (List a6))))])]⟩), (10, vS 3 (i7 o30))], 130⟩) (et (j4 (p := 12) (dk := true) (t := [(1, (Sr o32)), (2, (Pt 2)), (4, (Pt 4)), (7, (I y13)), (10, (Pt 10)), (95, (Bo false))]) (σ := [(2, vS 4 (b8 a0)), (4, ⟨false, 3, [(V.agg [(Sr []), (Sr []), (V.sl 2 1 (List.map b4 ([] : List (List a6))))])]⟩), (10, vS 3 (i7 o30))]) (n := 130) rfl (by decide) (by decide) rfl) <| et (l5 (m := 3) (j := 3) (t' := [(1, (Sr o32)), (2, (Pt 2)), (4, (Pt 4)), (7, (I y13)), (10, (Pt 10)), (95, (Bo false)), (100, (b8 a0)), (101, (I y13)), (102, (Sr o32))]) rfl rfl rfl) <| et (d5 (x := (cut o32 1 (o32.length : Int))) (w := fun v39 => (Sr v39)) rfl rfl rfl rfl rfl (u6 rfl rfl rfl rfl rfl rfl underlying9)) <| n5 fun v39 => et (k0 (m := 0) (j := 4) (t' := [(1, (Sr o32)), (2, (Pt 2)), (4, (Pt 4)), (7, (I y13)), (10, (Pt 10)), (95, (Bo false)), (100, (b8 a0)), (101, (I y13)), (102, (Sr o32)), (103, (Sr v39))]) rfl rfl rfl) <| et (d5 (x := (O4 k a0 y13 v39)) (w := fun v40 => (V.tup [(V.sl 0 1 (List.map b4 v40.1)), (Sr v40.2.1), (Bo v40.2.2)])) rfl rfl rfl rfl rfl (f9 rfl rfl rfl rfl rfl (iO k a0 y13 v39) (.inl rfl))) <| n5 fun v40 => l6 rfl) fun o41 => et b6 <| kg tO rfl (fun (o44 : Bool) => ⟨[(4, (Pt 4)), (10, (Pt 10)), (12, (V.sl 0 1 (List.map b4 o41.1))), (13, (Sr o41.2.1)), (123, (Bo o44))], [(4, ⟨false, 3, [(V.agg [(Sr []), (Sr []), (V.sl 2 1 (List.map b4 ([] : List (List a6))))])]⟩), (10, vS 3 (i7 o30))], 130⟩) ?_ fun o44 => ?_
        ·refine rd 1 [(108, (Sr o32))] rfl rfl <| rp rfl (s9 rfl rfl rfl underlying9) fun v42 => bd 4 [(109, (V.int .u8 v42)), (110, (Bo (v42 != 40))), (111, (Bo (v42 != 40)))] rfl rfl <| m9 (fun hc => ?_) fun hc => ?_
         ·rw [hc]
          exact c9 rfl
         ·rw [hc]
          refine rd 8 [(112, (Bo o41.2.2)), (113, (Bo (!o41.2.2))), (114, (Bo (!o41.2.2))), (115, (Bo (!o41.2.2)))] rfl rfl <| m9 (fun hc => ?_) fun hc => ?_
          ·rw [hc]
           exact c9 rfl
          ·rw [hc]
           refine rd 12 [(116, (Sr o41.2.1)), (117, (Bo (o41.2.1 == ([] : Str)))), (118, (Bo (o41.2.1 == ([] : Str)))), (119, (Bo (o41.2.1 == ([] : Str))))] rfl rfl <| m9 (fun hc => ?_) fun hc => ?_
           ·rw [hc]
            exact c9 rfl
           ·rw [hc]
            exact rd 13 [(120, (Sr o41.2.1))] rfl rfl <| rp rfl (s9 rfl rfl rfl underlying9) fun v43 => b5 rfl
        refine kc rfl rfl (fun hc => ?_) fun hc => ?_
        ·rw [hc]
         refine et b6 <| kr ⟨[(4, (Pt 4)), (5, (Sr ([] : Str))), (6, (Bo false))], [(4, ⟨false, 3, [(i7 ({ fSegment := [], fCodes := [], fWhen := ([] : List (List a6)) } : a8))]⟩)], 130⟩ rfl <| et p8 ?_
         rfl
        ·rw [hc]
         refine et d7 <| kr ⟨[(4, (Pt 4)), (10, (Pt 10)), (13, (Sr o41.2.1))], [(4, ⟨false, 3, [(V.agg [(Sr []), (Sr []), (V.sl 2 1 (List.map b4 ([] : List (List a6))))])]⟩), (10, vS 3 (i7 { o30 with fWhen := o41.1 }))], 130⟩ rfl <| kd tP rfl (fun (o46 : Str × Bool × a8) => ⟨[(4, (Pt 4)), (5, (Sr o46.1)), (6, (Bo o46.2.1))], [(4, vS 3 (i7 o46.2.2))], 130⟩) (et (j4 (p := 3) (dk := false) (t := [(4, (Pt 4)), (10, (Pt 10)), (13, (Sr o41.2.1))]) (σ := [(4, ⟨false, 3, [(V.agg [(Sr []), (Sr []), (V.sl 2 1 (List.map b4 ([] : List (List a6))))])]⟩), (10, vS 3 (i7 { o30 with fWhen := o41.1 }))]) (n := 130) rfl (by decide) (by decide) rfl) <| et (l5 (m := 2) (j := 2) (t' := [(4, (Pt 4)), (10, (Pt 10)), (13, (Sr o41.2.1)), (127, (i7 { o30 with fWhen := o41.1 })), (128, (Sr o41.2.1))]) rfl rfl rfl) <| et (d5 (x := (cut o41.2.1 1 (o41.2.1.length : Int))) (w := fun v45 => (Sr v45)) rfl rfl rfl rfl rfl (u6 rfl rfl rfl rfl rfl rfl underlying9)) <| n5 fun v45 => l6 rfl) fun o46 => et d9 ?_
         rfl
     ·intro s; exact rfl
    ·rw [hc]
     refine et d7 <| et b6 <| kg tL rfl (fun (o48 : Bool) => ⟨[(1, (Sr o18)), (2, (Pt 2)), (4, (Pt 4)), (7, (I y13)), (10, (Pt 10)), (95, (Bo o48))], [(2, vS 4 (b8 a0)), (4, ⟨false, 3, [(V.agg [(Sr []), (Sr []), (V.sl 2 1 (List.map b4 ([] : List (List a6))))])]⟩), (10, vS 3 (i7 o16))], 130⟩) (rd 1 [(93, (Sr o18))] rfl rfl <| rp rfl (s9 rfl rfl rfl underlying9) fun v47 => b5 rfl) fun o48 => kc rfl rfl (fun hc => ?_) fun hc => ?_
     ·rw [hc]
      refine et b6 <| kd tM rfl (fun (o50 : Str × Bool × a8) => ⟨[(4, (Pt 4)), (5, (Sr o50.1)), (6, (Bo o50.2.1))], [(4, vS 3 (i7 o50.2.2))], 130⟩) (et (j4 (p := 3) (dk := false) (t := [(1, (Sr o18)), (2, (Pt 2)), (4, (Pt 4)), (7, (I y13)), (10, (Pt 10)), (95, (Bo true))]) (σ := [(2, vS 4 (b8 a0)), (4, ⟨false, 3, [(V.agg [(Sr []), (Sr []), (V.sl 2 1 (List.map b4 ([] : List (List a6))))])]⟩), (10, vS 3 (i7 o16))]) (n := 130) rfl (by decide) (by decide) rfl) <| et (l5 (m := 2) (j := 2) (t' := [(1, (Sr o18)), (2, (Pt 2)), (4, (Pt 4)), (7, (I y13)), (10, (Pt 10)), (95, (Bo true)), (96, (i7 o16)), (97, (Sr o18))]) rfl rfl rfl) <| et (d5 (x := (cut o18 1 (o18.length : Int))) (w := fun v49 => (Sr v49)) rfl rfl rfl rfl rfl (u6 rfl rfl rfl rfl rfl rfl underlying9)) <| n5 fun v49 => l6 rfl) fun o50 => et p8 ?_
      rfl
     ·rw [hc]
      refine et d7 <| kd tN rfl (fun (o53 : (List (List a6)) × Str × Bool) => ⟨[(1, (Sr o18)), (4, (Pt 4)), (10, (Pt 10)), (12, (V.sl 0 1 (List.map b4 o53.1))), (13, (Sr o53.2.1)), (14, (Bo o53.2.2))], [(4, ⟨false, 3, [(V.agg [(Sr []), (Sr []), (V.sl 2 1 (List.map b4 ([] : List (List a6))))])]⟩), (10, vS 3 (i7 o16))], 130⟩) (et (j4 (p := 12) (dk := true) (t := [(1, (Sr o18)), (2, (Pt 2)), (4, (Pt 4)), (7, (I y13)), (10, (Pt 10)), (95, (Bo false))]) (σ := [(2, vS 4 (b8 a0)), (4, ⟨false, 3, [(V.agg [(Sr []), (Sr []), (V.sl 2 1 (List.map b4 ([] : List (List a6))))])]⟩), (10, vS 3 (i7 o16))]) (n := 130) rfl (by decide) (by decide) rfl) <| et (l5 (m := 3) (j := 3) (t' := [(1, (Sr o18)), (2, (Pt 2)), (4, (Pt 4)), (7, (I y13)), (10, (Pt 10)), (95, (Bo false)), (100, (b8 a0)), (101, (I y13)), (102, (Sr o18))]) rfl rfl rfl) <| et (d5 (x := (cut o18 1 (o18.length : Int))) (w := fun v51 => (Sr v51)) rfl rfl rfl rfl rfl (u6 rfl rfl rfl rfl rfl rfl underlying9)) <| n5 fun v51 => et (k0 (m := 0) (j := 4) (t' := [(1, (Sr o18)), (2, (Pt 2)), (4, (Pt 4)), (7, (I y13)), (10, (Pt 10)), (95, (Bo false)), (100, (b8 a0)), (101, (I y13)), (102, (Sr o18)), (103, (Sr v51))]) rfl rfl rfl) <| et (d5 (x := (O4 k a0 y13 v51)) (w := fun v52 => (V.tup [(V.sl 0 1 (List.map b4 v52.1)), (Sr v52.2.1), (Bo v52.2.2)])) rfl rfl rfl rfl rfl (f9 rfl rfl rfl rfl rfl (iO k a0 y13 v51) (.inl rfl))) <| n5 fun v52 => l6 rfl) fun o53 => et b6 <| kg tO rfl (fun (o56 : Bool) => ⟨[(4, (Pt 4)), (10, (Pt 10)), (12, (V.sl 0 1 (List.map b4 o53.1))), (13, (Sr o53.2.1)), (123, (Bo o56))], [(4, ⟨false, 3, [(V.agg [(Sr []), (Sr []), (V.sl 2 1 (List.map b4 ([] : List (List a6))))])]⟩), (10, vS 3 (i7 o16))], 130⟩) ?_ fun o56 => ?_
      ·refine rd 1 [(108, (Sr o18))] rfl rfl <| rp rfl (s9 rfl rfl rfl underlying9) fun v54 => bd 4 [(109, (V.int .u8 v54)), (110, (Bo (v54 != 40))), (111, (Bo (v54 != 40)))] rfl rfl <| m9 (fun hc => ?_) fun hc => ?_
       ·rw [hc]
        exact c9 rfl
       ·rw [hc]
        refine rd 8 [(112, (Bo o53.2.2)), (113, (Bo (!o53.2.2))), (114, (Bo (!o53.2.2))), (115, (Bo (!o53.2.2)))] rfl rfl <| m9 (fun hc => ?_) fun hc => ?_
        ·rw [hc]
         exact c9 rfl
        ·rw [hc]
         refine rd 12 [(116, (Sr o53.2.1)), (117, (Bo (o53.2.1 == ([] : Str)))), (118, (Bo (o53.2.1 == ([] : Str)))), (119, (Bo (o53.2.1 == ([] : Str))))] rfl rfl <| m9 (fun hc => ?_) fun hc => ?_
         ·rw [hc]
          exact c9 rfl
         ·rw [hc]
          exact rd 13 [(120, (Sr o53.2.1))] rfl rfl <| rp rfl (s9 rfl rfl rfl underlying9) fun v55 => b5 rfl
      refine kc rfl rfl (fun hc => ?_) fun hc => ?_
      ·rw [hc]
       refine et b6 <| kr ⟨[(4, (Pt 4)), (5, (Sr ([] : Str))), (6, (Bo false))], [(4, ⟨false, 3, [(i7 ({ fSegment := [], fCodes := [], fWhen := ([] : List (List a6)) } : a8))]⟩)], 130⟩ rfl <| et p8 ?_
       rfl
      ·rw [hc]
       refine et d7 <| kr ⟨[(4, (Pt 4)), (10, (Pt 10)), (13, (Sr o53.2.1))], [(4, ⟨false, 3, [(V.agg [(Sr []), (Sr []), (V.sl 2 1 (List.map b4 ([] : List (List a6))))])]⟩), (10, vS 3 (i7 { o16 with fWhen := o53.1 }))], 130⟩ rfl <| kd tP rfl (fun (o58 : Str × Bool × a8) => ⟨[(4, (Pt 4)), (5, (Sr o58.1)), (6, (Bo o58.2.1))], [(4, vS 3 (i7 o58.2.2))], 130⟩) (et (j4 (p := 3) (dk := false) (t := [(4, (Pt 4)), (10, (Pt 10)), (13, (Sr o53.2.1))]) (σ := [(4, ⟨false, 3, [(V.agg [(Sr []), (Sr []), (V.sl 2 1 (List.map b4 ([] : List (List a6))))])]⟩), (10, vS 3 (i7 { o16 with fWhen := o53.1 }))]) (n := 130) rfl (by decide) (by decide) rfl) <| et (l5 (m := 2) (j := 2) (t' := [(4, (Pt 4)), (10, (Pt 10)), (13, (Sr o53.2.1)), (127, (i7 { o16 with fWhen := o53.1 })), (128, (Sr o53.2.1))]) rfl rfl rfl) <| et (d5 (x := (cut o53.2.1 1 (o53.2.1.length : Int))) (w := fun v57 => (Sr v57)) rfl rfl rfl rfl rfl (u6 rfl rfl rfl rfl rfl rfl underlying9)) <| n5 fun v57 => l6 rfl) fun o58 => et d9 ?_
       rfl
  ·intro s; exact rfl
def nF : (a8 × Int) → V × List V := fun r => (.tup [(i7 r.1), (I r.2)], [])
theorem pb (k : Nat) (a0 : a7) (a1 : Str) : EV k 11 [(b8 a0), (Sr a1)] = (aB k a0 a1).map nF := by
 cases k with
 | zero => rfl
 | succ k =>
  unfold aB
  refine et (i2 (c := f11c) (N := 28) (regs := FL) rfl func11 rfl (by decide) rfl rfl rfl) <| kr ⟨[(1, (Sr a1)), (2, (Pt 2)), (4, (Pt 4))], [(2, vS 4 (b8 a0)), (4, ⟨false, 3, [(V.agg [(Sr []), (Sr []), (V.sl 2 1 (List.map b4 ([] : List (List a6))))])]⟩)], 28⟩ rfl <| et b6 <| kga AN rfl (fun (o2 : Bool) => [(11, (Bo o2))]) (rd 1 [(9, (b8 a0))] rfl rfl <| rp rfl (f9 rfl rfl rfl rfl rfl (eu k a0) (.inl rfl)) fun v1 => b5 rfl) fun o2 => kc rfl rfl (fun hc => ?_) fun hc => ?_
  ·rw [hc]
   refine et b6 <| kr ⟨[(4, (Pt 4)), (5, (I 100))], [(4, ⟨false, 3, [(i7 ({ fSegment := [], fCodes := [], fWhen := ([] : List (List a6)) } : a8))]⟩)], 28⟩ rfl <| et p8 ?_
   rfl
  ·rw [hc]
   refine et d7 <| kg AO rfl (fun (o4 : Str × Bool × a8) => ⟨[(4, (Pt 4)), (6, (Pt 6)), (7, (Sr o4.1)), (8, (Bo o4.2.1))], [(4, ⟨false, 3, [(V.agg [(Sr []), (Sr []), (V.sl 2 1 (List.map b4 ([] : List (List a6))))])]⟩), (6, vS 3 (i7 o4.2.2))], 28⟩) (rd 2 [(14, (b8 a0)), (15, (Sr a1))] rfl rfl <| rp rfl (f9 rfl rfl rfl rfl rfl (pa k a0 a1) (.inl rfl)) fun v3 => b5 rfl) fun o4 => et b6 <| kg AP rfl (fun (o5 : Bool) => ⟨[(4, (Pt 4)), (6, (Pt 6)), (25, (Bo o5))], [(4, ⟨false, 3, [(V.agg [(Sr []), (Sr []), (V.sl 2 1 (List.map b4 ([] : List (List a6))))])]⟩), (6, vS 3 (i7 o4.2.2))], 28⟩) ?_ fun o5 => ?_
   ·refine rd 3 [(20, (Bo o4.2.1)), (21, (Bo (!o4.2.1))), (22, (Bo (!o4.2.1)))] rfl rfl <| m9 (fun hc => ?_) fun hc => ?_
    ·rw [hc]
     exact c9 rfl
    ·rw [hc]
     exact c9 rfl
   refine kc rfl rfl (fun hc => ?_) fun hc => ?_
   ·rw [hc]
    refine et b6 <| kr ⟨[(4, (Pt 4)), (5, (I 3))], [(4, ⟨false, 3, [(i7 ({ fSegment := [], fCodes := [], fWhen := ([] : List (List a6)) } : a8))]⟩)], 28⟩ rfl <| et p8 ?_
    rfl
   ·rw [hc]
    refine et d7 <| kr ⟨[(4, (Pt 4)), (5, (I 0))], [(4, vS 3 (i7 o4.2.2))], 28⟩ rfl <| et d9 ?_
    rfl
def ap : ((List a8) × Int) → V × List V := fun r => (.tup [(j2 r.1), (I r.2)], [])
theorem iP (k : Nat) (a0 : a7) (a1 : (List Str))  (K0 : (List a8) → Int → Option ((List a8) × Int)) (Kst : X × St → Option (V × List V)) (hK0 : ∀ (y0 : (List a8)) (y1 : Int), Kst (X.exit 0, ⟨[(1, (sS a1)), (2, (Pt 2)), (6, (V.sl 1 3 (List.map i7 y0))), (7, (I y1)), (16, (Bo false))], [(2, vS 4 (b8 a0))], 36⟩) = (K0 y0 y1).map ap) (hret : ∀ s, Kst (X.ret, s) = D4 prog 36 [(b8 a0), (sS a1)] [] [.tmp 4, .tmp 5] (X.ret, s)) :
  ∀ (m : Nat) (x8 : (List a8)) (x9 : Int), (B5 (s7 prog (EV k) EI k Bi) m ⟨[(1, (sS a1)), (2, (Pt 2)), (6, (V.sl 1 3 (List.map i7 x8))), (7, (I x9))], [(2, vS 4 (b8 a0))], 36⟩).bind Kst = (E7 k a0 a1 K0 m x8 x9).map ap := by
 intro m
 induction m with
 | zero => intros; rfl
 | succ m ih =>
  intro x8 x9
  unfold E7
  refine et l8 <| et b6 <| krp Bg rfl ⟨[(1, (sS a1)), (2, (Pt 2)), (6, (V.sl 1 3 (List.map i7 x8))), (7, (I x9)), (16, (Bo (decide (x9 < (a1.length : Int)))))], [(2, vS 4 (b8 a0))], 36⟩ ?_ ?_
  ·exact rd 2 [(13, (I x9)), (14, (sS a1))] rfl rfl <| rl rfl (m8 (e := V.str) rfl rfl rfl rfl rfl rfl underlying40) <| b5 rfl
  refine kc rfl rfl (fun hc => ?_) fun hc => ?_
  ·rw [hc]
   refine et d7 <| et (i4 rfl) <| kd Bh rfl (fun (o12 : Int × a8) => ⟨[(1, (sS a1)), (2, (Pt 2)), (6, (V.sl 1 3 (List.map i7 x8))), (7, (I x9)), (8, (Pt 8)), (9, (I o12.1))], [(2, vS 4 (b8 a0)), (8, vS 3 (i7 o12.2))], 36⟩) (et (j4 (p := 10) (dk := false) (t := [(1, (sS a1)), (2, (Pt 2)), (6, (V.sl 1 3 (List.map i7 x8))), (7, (I x9)), (16, (Bo true))]) (σ := [(2, vS 4 (b8 a0))]) (n := 36) rfl (by decide) (by decide) rfl) <| et (l5 (m := 3) (j := 3) (t' := [(1, (sS a1)), (2, (Pt 2)), (6, (V.sl 1 3 (List.map i7 x8))), (7, (I x9)), (16, (Bo true)), (20, (b8 a0)), (21, (sS a1)), (22, (I x9))]) rfl rfl rfl) <| et (d5 (x := (idx a1 x9)) (w := fun v10 => (Pr (Sr v10))) rfl rfl rfl rfl rfl (i6 (e := V.str) rfl rfl rfl underlying40 rfl (by decide))) <| n5 fun v10 => et (k0 (m := 1) (j := 5) (t' := [(1, (sS a1)), (2, (Pt 2)), (6, (V.sl 1 3 (List.map i7 x8))), (7, (I x9)), (16, (Bo true)), (20, (b8 a0)), (21, (sS a1)), (22, (I x9)), (23, (Pr (Sr v10))), (24, (Sr v10))]) rfl rfl rfl) <| et (d5 (x := (aB k a0 v10)) (w := fun v11 => (V.tup [(i7 v11.1), (I v11.2)])) rfl rfl rfl rfl rfl (f9 rfl rfl rfl rfl rfl (pb k a0 v10) (.inl rfl))) <| n5 fun v11 => l6 rfl) fun o12 => et b6 <| kra [(29, (Bo (o12.1 != 0)))] rfl <| kc rfl rfl (fun hc => ?_) fun hc => ?_
   ·rw [hc]
    refine et b6 <| kr ⟨[(4, (j2 (([] : List a8)))), (5, (I o12.1))], [], 36⟩ rfl <| et p8 <| et j7 <| et j6 <| et (hret _) ?_
    rfl
   ·rw [hc]
    exact et d7 <| kgl xL rfl (fun (o14 : (List a8)) => ⟨[(1, (sS a1)), (2, (Pt 2)), (6, (V.sl 1 3 (List.map i7 o14))), (7, (I x9))], [(2, vS 4 (b8 a0))], 36⟩) (ra 3 3 ⟨[(1, (sS a1)), (2, (Pt 2)), (6, (j2 x8)), (7, (I x9)), (8, (Pt 8)), (9, (I o12.1)), (29, (Bo false)), (31, (V.sl 1 3 (List.map i7 x8))), (32, (i7 o12.2)), (33, (j2 (([o12.2] : List a8))))], [(2, vS 4 (b8 a0)), (8, vS 3 (i7 o12.2))], 36⟩ rfl rfl rfl <| et (O6 (x := (app x8 ([o12.2] : List a8))) (w := fun v13 => ((V.sl 1 3 (List.map i7 v13)), _)) rfl rfl rfl rfl (nh (e := i7) rfl rfl rfl rfl rfl rfl rfl rfl rfl rfl (by decide))) <| F8 fun v13 => b5 rfl) fun o14 => et i3 <| kl ⟨[(1, (sS a1)), (2, (Pt 2)), (6, (V.sl 1 3 (List.map i7 o14))), (7, (I (Go.IntKind.wrap .i64 (x9 + 1))))], [(2, vS 4 (b8 a0))], 36⟩ rfl <| et d8 <| ih o14 (Go.IntKind.wrap .i64 (x9 + 1))
  ·rw [hc]
   exact et n8 <| et j1 <| hK0 x8 x9
theorem bc (k : Nat) (a0 : a7) (a1 : (List Str)) : EV k 15 [(b8 a0), (sS a1)] = (R2 k a0 a1).map ap := by
 cases k with
 | zero => rfl
 | succ k =>
  unfold R2
  refine et (i2 (c := f15c) (N := 36) (regs := EI) rfl func15 rfl (by decide) rfl rfl rfl) <| kr ⟨[(1, (sS a1)), (2, (Pt 2))], [(2, vS 4 (b8 a0))], 36⟩ rfl <| et b6 <| kga Bf rfl (fun (o2 : Bool) => [(12, (Bo o2))]) (rd 1 [(10, (b8 a0))] rfl rfl <| rp rfl (f9 rfl rfl rfl rfl rfl (eu k a0) (.inl rfl)) fun v1 => b5 rfl) fun o2 => kc rfl rfl (fun hc => ?_) fun hc => ?_
  ·rw [hc]
   refine et b6 <| kr ⟨[(4, (j2 (([] : List a8)))), (5, (I 100))], [], 36⟩ rfl <| et p8 ?_
   rfl
  ·rw [hc]
   refine et d7 <| kr ⟨[(1, (sS a1)), (2, (Pt 2)), (6, (V.sl 1 3 (List.map i7 ([] : List a8))))], [(2, vS 4 (b8 a0))], 36⟩ rfl <| et b6 <| kra [(7, (I 0))] rfl <| et (i4 rfl) <| et p3 ?_
   refine iP k a0 a1 _ _ ?h_ref14_ParseAll_L1_0 ?hr_ref14_ParseAll_L1 k ([] : List a8) 0
   ·intro y15 y16
    refine et j3 <| kr ⟨[(4, (j2 y15)), (5, (I 0))], [], 36⟩ rfl <| et d9 ?_
    rfl
   ·intro s; exact rfl
def W3 : Bool → V × List V := fun r => ((Bo r), [])
theorem mL (k : Nat) (a0 : (List (List a6))) (a1 : (List (List a6))) (x20 : Int)  (K0 : Int → Option Bool) (Kst : X × St → Option (V × List V)) (hK0 : ∀ (y0 : Int), Kst (X.exit 2, ⟨[(0, (V.sl 0 1 (List.map b4 a0))), (1, (V.sl 0 1 (List.map b4 a1))), (5, (I x20)), (6, (I y0)), (35, (Bo false))], [], 53⟩) = (K0 y0).map W3) (hret : ∀ s, Kst (X.ret, s) = D4 prog 53 [(V.sl 0 1 (List.map b4 a0)), (V.sl 0 1 (List.map b4 a1))] [] [.tmp 4] (X.ret, s)) :
  ∀ (m : Nat) (x31 : Int), (B5 (s7 prog (EV k) Ab k Ci) m ⟨[(0, (V.sl 0 1 (List.map b4 a0))), (1, (V.sl 0 1 (List.map b4 a1))), (5, (I x20)), (6, (I x31))], [], 53⟩).bind Kst = (J7 a0 a1 x20 K0 m x31).map W3 := by
 intro m
 induction m with
 | zero => intros; rfl
 | succ m ih =>
  intro x31
  unfold J7
  refine et l8 <| et b6 <| kga Ch rfl (fun (o33 : Bool) => [(35, (Bo o33))]) (rd 3 [(29, (I x31)), (30, (V.sl 0 1 (List.map b4 a0))), (31, (I x20))] rfl rfl <| rp rfl (i6 (e := b4) rfl rfl rfl underlying26 rfl (by decide)) fun v32 => bd 5 [(32, (Pr (b4 v32))), (33, (b4 v32))] rfl rfl <| rl rfl (m8 (e := i5) rfl rfl rfl rfl rfl rfl underlying56) <| b5 rfl) fun o33 => kc rfl rfl (fun hc => ?_) fun hc => ?_
  ·rw [hc]
   refine et d7 <| et (i4 rfl) <| kd yg rfl (fun (o38 : Bool) => ⟨[(0, (V.sl 0 1 (List.map b4 a0))), (1, (V.sl 0 1 (List.map b4 a1))), (5, (I x20)), (6, (I x31)), (52, (Bo o38))], [], 53⟩) (et (j4 (p := 15) (dk := true) (t := [(0, (V.sl 0 1 (List.map b4 a0))), (1, (V.sl 0 1 (List.map b4 a1))), (5, (I x20)), (6, (I x31)), (35, (Bo true))]) (σ := []) (n := 53) rfl (by decide) (by decide) rfl) <| et (l5 (m := 2) (j := 2) (t' := [(0, (V.sl 0 1 (List.map b4 a0))), (1, (V.sl 0 1 (List.map b4 a1))), (5, (I x20)), (6, (I x31)), (35, (Bo true)), (38, (V.sl 0 1 (List.map b4 a0))), (39, (I x20))]) rfl rfl rfl) <| et (d5 (x := (idx a0 x20)) (w := fun v34 => (Pr (b4 v34))) rfl rfl rfl rfl rfl (i6 (e := b4) rfl rfl rfl underlying26 rfl (by decide))) <| n5 fun v34 => et (k0 (m := 2) (j := 5) (t' := [(0, (V.sl 0 1 (List.map b4 a0))), (1, (V.sl 0 1 (List.map b4 a1))), (5, (I x20)), (6, (I x31)), (35, (Bo true)), (38, (V.sl 0 1 (List.map b4 a0))), (39, (I x20)), (40, (Pr (b4 v34))), (41, (b4 v34)), (42, (I x31))]) rfl rfl rfl) <| et (d5 (x := (idx v34 x31)) (w := fun v35 => (Pr (i5 v35))) rfl rfl rfl rfl rfl (i6 (e := i5) rfl rfl rfl underlying56 rfl (by decide))) <| n5 fun v35 => et (k0 (m := 3) (j := 9) (t' := [(0, (V.sl 0 1 (List.map b4 a0))), (1, (V.sl 0 1 (List.map b4 a1))), (5, (I x20)), (6, (I x31)), (35, (Bo true)), (38, (V.sl 0 1 (List.map b4 a0))), (39, (I x20)), (40, (Pr (b4 v34))), (41, (b4 v34)), (42, (I x31)), (43, (Pr (i5 v35))), (44, (i5 v35)), (45, (V.sl 0 1 (List.map b4 a1))), (46, (I x20))]) rfl rfl rfl) <| et (d5 (x := (idx a1 x20)) (w := fun v36 => (Pr (b4 v36))) rfl rfl rfl rfl rfl (i6 (e := b4) rfl rfl rfl underlying26 rfl (by decide))) <| n5 fun v36 => et (k0 (m := 2) (j := 12) (t' := [(0, (V.sl 0 1 (List.map b4 a0))), (1, (V.sl 0 1 (List.map b4 a1))), (5, (I x20)), (6, (I x31)), (35, (Bo true)), (38, (V.sl 0 1 (List.map b4 a0))), (39, (I x20)), (40, (Pr (b4 v34))), (41, (b4 v34)), (42, (I x31)), (43, (Pr (i5 v35))), (44, (i5 v35)), (45, (V.sl 0 1 (List.map b4 a1))), (46, (I x20)), (47, (Pr (b4 v36))), (48, (b4 v36)), (49, (I x31))]) rfl rfl rfl) <| et (d5 (x := (idx v36 x31)) (w := fun v37 => (Pr (i5 v37))) rfl rfl rfl rfl rfl (i6 (e := i5) rfl rfl rfl underlying56 rfl (by decide))) <| n5 fun v37 => et (k0 (m := 1) (j := 14) (t' := [(0, (V.sl 0 1 (List.map b4 a0))), (1, (V.sl 0 1 (List.map b4 a1))), (5, (I x20)), (6, (I x31)), (35, (Bo true)), (38, (V.sl 0 1 (List.map b4 a0))), (39, (I x20)), (40, (Pr (b4 v34))), (41, (b4 v34)), (42, (I x31)), (43, (Pr (i5 v35))), (44, (i5 v35)), (45, (V.sl 0 1 (List.map b4 a1))), (46, (I x20)), (47, (Pr (b4 v36))), (48, (b4 v36)), (49, (I x31)), (50, (Pr (i5 v37))), (51, (i5 v37))]) rfl rfl rfl) <| et (d5 (x := some ()) (w := fun _ => (Bo (!(v35.fField == v37.fField && (v35.fOp == v37.fOp && (v35.fValue == v37.fValue && true)))))) rfl rfl rfl rfl rfl (EA rfl rfl rfl underlying55 EB AA rfl)) <| et Y5 <| l6 rfl) fun o38 => kcl rfl rfl (fun hc => ?_) fun hc => ?_
   ·rw [hc]
    refine kr ⟨[(4, (Bo false))], [], 53⟩ rfl <| et d9 <| et j7 <| et j6 <| et (hret _) ?_
    rfl
   ·rw [hc]
    exact et l9 <| et i3 <| kl ⟨[(0, (V.sl 0 1 (List.map b4 a0))), (1, (V.sl 0 1 (List.map b4 a1))), (5, (I x20)), (6, (I (Go.IntKind.wrap .i64 (x31 + 1))))], [], 53⟩ rfl <| et d8 <| ih (Go.IntKind.wrap .i64 (x31 + 1))
  ·rw [hc]
   exact et n8 <| et j1 <| hK0 x31
theorem mK (k : Nat) (a0 : (List (List a6))) (a1 : (List (List a6)))  (K0 : Int → Option Bool) (Kst : X × St → Option (V × List V)) (hK0 : ∀ (y0 : Int), Kst (X.exit 0, ⟨[(0, (V.sl 0 1 (List.map b4 a0))), (1, (V.sl 0 1 (List.map b4 a1))), (5, (I y0)), (15, (Bo false))], [], 53⟩) = (K0 y0).map W3) (hret : ∀ s, Kst (X.ret, s) = D4 prog 53 [(V.sl 0 1 (List.map b4 a0)), (V.sl 0 1 (List.map b4 a1))] [] [.tmp 4] (X.ret, s)) :
  ∀ (m : Nat) (x20 : Int), (B5 (s7 prog (EV k) Ab k Cj) m ⟨[(0, (V.sl 0 1 (List.map b4 a0))), (1, (V.sl 0 1 (List.map b4 a1))), (5, (I x20))], [], 53⟩).bind Kst = (P7 k a0 a1 K0 m x20).map W3 := by
 intro m
 induction m with
 | zero => intros; rfl
 | succ m ih =>
  intro x20
  unfold P7
  refine et l8 <| et b6 <| krp Cf rfl ⟨[(0, (V.sl 0 1 (List.map b4 a0))), (1, (V.sl 0 1 (List.map b4 a1))), (5, (I x20)), (15, (Bo (decide (x20 < (a0.length : Int)))))], [], 53⟩ ?_ ?_
  ·exact rd 2 [(12, (I x20)), (13, (V.sl 0 1 (List.map b4 a0)))] rfl rfl <| rl rfl (m8 (e := b4) rfl rfl rfl rfl rfl rfl underlying26) <| b5 rfl
  refine kc rfl rfl (fun hc => ?_) fun hc => ?_
  ·rw [hc]
   refine et d7 <| et (i4 rfl) <| et b6 <| kd Cg rfl (fun (o23 : Bool) => ⟨[(0, (V.sl 0 1 (List.map b4 a0))), (1, (V.sl 0 1 (List.map b4 a1))), (5, (I x20)), (28, (Bo o23))], [], 53⟩) (et (j4 (p := 11) (dk := true) (t := [(0, (V.sl 0 1 (List.map b4 a0))), (1, (V.sl 0 1 (List.map b4 a1))), (5, (I x20)), (15, (Bo true))]) (σ := []) (n := 53) rfl (by decide) (by decide) rfl) <| et (l5 (m := 2) (j := 2) (t' := [(0, (V.sl 0 1 (List.map b4 a0))), (1, (V.sl 0 1 (List.map b4 a1))), (5, (I x20)), (15, (Bo true)), (18, (V.sl 0 1 (List.map b4 a0))), (19, (I x20))]) rfl rfl rfl) <| et (d5 (x := (idx a0 x20)) (w := fun v21 => (Pr (b4 v21))) rfl rfl rfl rfl rfl (i6 (e := b4) rfl rfl rfl underlying26 rfl (by decide))) <| n5 fun v21 => et (k0 (m := 1) (j := 4) (t' := [(0, (V.sl 0 1 (List.map b4 a0))), (1, (V.sl 0 1 (List.map b4 a1))), (5, (I x20)), (15, (Bo true)), (18, (V.sl 0 1 (List.map b4 a0))), (19, (I x20)), (20, (Pr (b4 v21))), (21, (b4 v21))]) rfl rfl rfl) <| et (d5 (x := some ()) (w := fun _ => (I (v21.length : Int))) rfl rfl rfl rfl rfl (m8 (e := i5) rfl rfl rfl rfl rfl rfl underlying56)) <| et Y5 <| et (k0 (m := 2) (j := 7) (t' := [(0, (V.sl 0 1 (List.map b4 a0))), (1, (V.sl 0 1 (List.map b4 a1))), (5, (I x20)), (15, (Bo true)), (18, (V.sl 0 1 (List.map b4 a0))), (19, (I x20)), (20, (Pr (b4 v21))), (21, (b4 v21)), (22, (I (v21.length : Int))), (23, (V.sl 0 1 (List.map b4 a1))), (24, (I x20))]) rfl rfl rfl) <| et (d5 (x := (idx a1 x20)) (w := fun v22 => (Pr (b4 v22))) rfl rfl rfl rfl rfl (i6 (e := b4) rfl rfl rfl underlying26 rfl (by decide))) <| n5 fun v22 => et (k0 (m := 1) (j := 9) (t' := [(0, (V.sl 0 1 (List.map b4 a0))), (1, (V.sl 0 1 (List.map b4 a1))), (5, (I x20)), (15, (Bo true)), (18, (V.sl 0 1 (List.map b4 a0))), (19, (I x20)), (20, (Pr (b4 v21))), (21, (b4 v21)), (22, (I (v21.length : Int))), (23, (V.sl 0 1 (List.map b4 a1))), (24, (I x20)), (25, (Pr (b4 v22))), (26, (b4 v22))]) rfl rfl rfl) <| et (d5 (x := some ()) (w := fun _ => (I (v22.length : Int))) rfl rfl rfl rfl rfl (m8 (e := i5) rfl rfl rfl rfl rfl rfl underlying56)) <| et Y5 <| l6 rfl) fun o23 => kc rfl rfl (fun hc => ?_) fun hc => ?_
   ·rw [hc]
    refine et b6 <| kr ⟨[(4, (Bo false))], [], 53⟩ rfl <| et p8 <| et j7 <| et j6 <| et (hret _) ?_
    rfl
   ·rw [hc]
    refine et d7 <| kr ⟨[(0, (V.sl 0 1 (List.map b4 a0))), (1, (V.sl 0 1 (List.map b4 a1))), (5, (I x20)), (6, (I 0))], [], 53⟩ rfl <| et (I5 rfl) <| et p3 ?_
    refine mL k a0 a1 x20 _ _ ?h_ref12_Same_L2_0 ?hr_ref12_Same_L2 k 0
    ·intro y39
     exact et j3 <| et l9 <| et i3 <| kl ⟨[(0, (V.sl 0 1 (List.map b4 a0))), (1, (V.sl 0 1 (List.map b4 a1))), (5, (I (Go.IntKind.wrap .i64 (x20 + 1))))], [], 53⟩ rfl <| et d8 <| ih (Go.IntKind.wrap .i64 (x20 + 1))
    ·intro s; exact hret s
  ·rw [hc]
   exact et n8 <| et j1 <| hK0 x20
theorem fp (k : Nat) (a0 : (List (List a6))) (a1 : (List (List a6))) : EV k 32 [(V.sl 0 1 (List.map b4 a0)), (V.sl 0 1 (List.map b4 a1))] = (ex k a0 a1).map W3 := by
 cases k with
 | zero => rfl
 | succ k =>
  unfold ex
  refine et (i2 (c := f32c) (N := 53) (regs := Ab) rfl func32 rfl (by decide) rfl rfl rfl) <| kra [] rfl <| et b6 <| krp Ce rfl ⟨[(0, (V.sl 0 1 (List.map b4 a0))), (1, (V.sl 0 1 (List.map b4 a1))), (11, (Bo ((a0.length : Int) != (a1.length : Int))))], [], 53⟩ ?_ ?_
  ·exact rd 1 [(7, (V.sl 0 1 (List.map b4 a0)))] rfl rfl <| rl rfl (m8 (e := b4) rfl rfl rfl rfl rfl rfl underlying26) <| bd 3 [(8, (I (a0.length : Int))), (9, (V.sl 0 1 (List.map b4 a1)))] rfl rfl <| rl rfl (m8 (e := b4) rfl rfl rfl rfl rfl rfl underlying26) <| b5 rfl
  refine kc rfl rfl (fun hc => ?_) fun hc => ?_
  ·rw [hc]
   refine et b6 <| kr ⟨[(4, (Bo false))], [], 53⟩ rfl <| et p8 ?_
   rfl
  ·rw [hc]
   refine et d7 <| et b6 <| kr ⟨[(0, (V.sl 0 1 (List.map b4 a0))), (1, (V.sl 0 1 (List.map b4 a1))), (5, (I 0))], [], 53⟩ rfl <| et (i4 rfl) <| et p3 ?_
   refine mK k a0 a1 _ _ ?h_ref12_Same_L1_0 ?hr_ref12_Same_L1 k 0
   ·intro y40
    refine et j3 <| kr ⟨[(4, (Bo true))], [], 53⟩ rfl <| et d9 ?_
    rfl
   ·intro s; exact rfl
def pc : Bool → V × List V := fun r => ((Bo r), [])
theorem Z6 (k : Nat) (a0 : a8) (a1 : a8) : EV k 12 [(i7 a0), (i7 a1)] = (W5 k a0 a1).map pc := by
 cases k with
 | zero => rfl
 | succ k =>
  unfold W5
  refine et (i2 (c := f12c) (N := 24) (regs := FV) rfl func12 rfl (by decide) rfl rfl rfl) <| kr ⟨[(2, (Pt 2)), (3, (Pt 3))], [(2, vS 3 (i7 a0)), (3, vS 3 (i7 a1))], 24⟩ rfl <| kg AX rfl (fun (o2 : Bool) => ⟨[(4, (Bo o2))], [], 24⟩) ?_ fun o2 => ?_
  ·refine rd 6 [(5, (Pt 2)), (6, (Sr a0.fSegment)), (7, (Pt 3)), (8, (Sr a1.fSegment)), (9, (Bo (a0.fSegment == a1.fSegment))), (10, (Bo (a0.fSegment == a1.fSegment)))] rfl rfl <| m9 (fun hc => ?_) fun hc => ?_
   ·rw [hc]
    refine rd 13 [(11, (V.ptr 2 0 1)), (12, (Sr a0.fCodes)), (13, (V.ptr 3 0 1)), (14, (Sr a1.fCodes)), (15, (Bo (a0.fCodes == a1.fCodes))), (16, (Bo (a0.fCodes == a1.fCodes))), (17, (Bo (a0.fCodes == a1.fCodes)))] rfl rfl <| m9 (fun hc => ?_) fun hc => ?_
    ·rw [hc]
     exact rd 17 [(18, (V.ptr 2 0 2)), (19, (V.sl 0 1 (List.map b4 a0.fWhen))), (20, (V.ptr 3 0 2)), (21, (V.sl 0 1 (List.map b4 a1.fWhen)))] rfl rfl <| rs rfl (f9 rfl rfl rfl rfl rfl (fp k a0.fWhen a1.fWhen) (.inl rfl)) fun v1 => b5 rfl
    ·rw [hc]
     exact c9 rfl
   ·rw [hc]
    exact c9 rfl
  refine et d9 ?_
  rfl
def bf : Bool → V × List V := fun r => ((Bo r), [])
theorem ju (k : Nat) (a0 : (List a8)) (a1 : (List a8))  (K0 : Int → Option Bool) (Kst : X × St → Option (V × List V)) (hK0 : ∀ (y0 : Int), Kst (X.exit 0, ⟨[(0, (j2 a0)), (1, (j2 a1)), (5, (I y0)), (14, (Bo false))], [], 27⟩) = (K0 y0).map bf) (hret : ∀ s, Kst (X.ret, s) = D4 prog 27 [(j2 a0), (j2 a1)] [] [.tmp 4] (X.ret, s)) :
  ∀ (m : Nat) (x5 : Int), (B5 (s7 prog (EV k) EJ k Bm) m ⟨[(0, (j2 a0)), (1, (j2 a1)), (5, (I x5))], [], 27⟩).bind Kst = (G2 k a0 a1 K0 m x5).map bf := by
 intro m
 induction m with
 | zero => intros; rfl
 | succ m ih =>
  intro x5
  unfold G2
  refine et l8 <| et b6 <| krp Bk rfl ⟨[(0, (j2 a0)), (1, (j2 a1)), (5, (I x5)), (14, (Bo (decide (x5 < (a0.length : Int)))))], [], 27⟩ ?_ ?_
  ·exact rd 2 [(11, (I x5)), (12, (j2 a0))] rfl rfl <| rl rfl (m8 (e := i7) rfl rfl rfl rfl rfl rfl underlying31) <| b5 rfl
  refine kc rfl rfl (fun hc => ?_) fun hc => ?_
  ·rw [hc]
   refine et d7 <| et (i4 rfl) <| kd Bl rfl (fun (o9 : Bool) => ⟨[(0, (j2 a0)), (1, (j2 a1)), (5, (I x5)), (26, (Bo o9))], [], 27⟩) (et (j4 (p := 10) (dk := true) (t := [(0, (j2 a0)), (1, (j2 a1)), (5, (I x5)), (14, (Bo true))]) (σ := []) (n := 27) rfl (by decide) (by decide) rfl) <| et (l5 (m := 2) (j := 2) (t' := [(0, (j2 a0)), (1, (j2 a1)), (5, (I x5)), (14, (Bo true)), (17, (j2 a0)), (18, (I x5))]) rfl rfl rfl) <| et (d5 (x := (idx a0 x5)) (w := fun v6 => (Pr (i7 v6))) rfl rfl rfl rfl rfl (i6 (e := i7) rfl rfl rfl underlying31 rfl (by decide))) <| n5 fun v6 => et (k0 (m := 3) (j := 6) (t' := [(0, (j2 a0)), (1, (j2 a1)), (5, (I x5)), (14, (Bo true)), (17, (j2 a0)), (18, (I x5)), (19, (Pr (i7 v6))), (20, (i7 v6)), (21, (j2 a1)), (22, (I x5))]) rfl rfl rfl) <| et (d5 (x := (idx a1 x5)) (w := fun v7 => (Pr (i7 v7))) rfl rfl rfl rfl rfl (i6 (e := i7) rfl rfl rfl underlying31 rfl (by decide))) <| n5 fun v7 => et (k0 (m := 1) (j := 8) (t' := [(0, (j2 a0)), (1, (j2 a1)), (5, (I x5)), (14, (Bo true)), (17, (j2 a0)), (18, (I x5)), (19, (Pr (i7 v6))), (20, (i7 v6)), (21, (j2 a1)), (22, (I x5)), (23, (Pr (i7 v7))), (24, (i7 v7))]) rfl rfl rfl) <| et (d5 (x := (W5 k v6 v7)) (w := fun v8 => (Bo v8)) rfl rfl rfl rfl rfl (f9 rfl rfl rfl rfl rfl (Z6 k v6 v7) (.inl rfl))) <| n5 fun v8 => l6 rfl) fun o9 => kcl rfl rfl (fun hc => ?_) fun hc => ?_
   ·rw [hc]
    refine kr ⟨[(4, (Bo false))], [], 27⟩ rfl <| et d9 <| et j7 <| et j6 <| et (hret _) ?_
    rfl
   ·rw [hc]
    exact et l9 <| et i3 <| kl ⟨[(0, (j2 a0)), (1, (j2 a1)), (5, (I (Go.IntKind.wrap .i64 (x5 + 1))))], [], 27⟩ rfl <| et d8 <| ih (Go.IntKind.wrap .i64 (x5 + 1))
  ·rw [hc]
   exact et n8 <| et j1 <| hK0 x5
theorem Y3 (k : Nat) (a0 : (List a8)) (a1 : (List a8)) : EV k 16 [(j2 a0), (j2 a1)] = (J8 k a0 a1).map bf := by
 cases k with
 | zero => rfl
 | succ k =>
  unfold J8
  refine et (i2 (c := f16c) (N := 27) (regs := EJ) rfl func16 rfl (by decide) rfl rfl rfl) <| kra [] rfl <| et b6 <| krp Bj rfl ⟨[(0, (j2 a0)), (1, (j2 a1)), (10, (Bo ((a0.length : Int) != (a1.length : Int))))], [], 27⟩ ?_ ?_
  ·exact rd 1 [(6, (j2 a0))] rfl rfl <| rl rfl (m8 (e := i7) rfl rfl rfl rfl rfl rfl underlying31) <| bd 3 [(7, (I (a0.length : Int))), (8, (j2 a1))] rfl rfl <| rl rfl (m8 (e := i7) rfl rfl rfl rfl rfl rfl underlying31) <| b5 rfl
  refine kc rfl rfl (fun hc => ?_) fun hc => ?_
  ·rw [hc]
   refine et b6 <| kr ⟨[(4, (Bo false))], [], 27⟩ rfl <| et p8 ?_
   rfl
  ·rw [hc]
   refine et d7 <| et b6 <| kr ⟨[(0, (j2 a0)), (1, (j2 a1)), (5, (I 0))], [], 27⟩ rfl <| et (i4 rfl) <| et p3 ?_
   refine ju k a0 a1 _ _ ?h_ref14_SameAll_L1_0 ?hr_ref14_SameAll_L1 k 0
   ·intro y10
    refine et j3 <| kr ⟨[(4, (Bo true))], [], 27⟩ rfl <| et d9 ?_
    rfl
   ·intro s; exact rfl
def I2 : Bool → V × List V := fun r => ((Bo r), [])
theorem bK (k : Nat) (a0 : (List a8)) (a1 : (List a8)) (a2 : Nat → a8 → a8 → Option Bool) (a2_fid : Go.FuncId)  (a2_hok : ∀ j x0 x1, EV j a2_fid [(i7 x0), (i7 x1)] = (a2 j x0 x1).map fun b => ((Bo b), [])) (K0 : Int → Option Bool) (Kst : X × St → Option (V × List V)) (hK0 : ∀ (y0 : Int), Kst (X.exit 0, ⟨[(1, (j2 a1)), (2, (V.fn a2_fid [] [])), (15, (j2 a0)), (16, (I (a0.length : Int))), (17, (I y0)), (18, (Bo false))], [], 32⟩) = (K0 y0).map I2) (hret : ∀ s, Kst (X.ret, s) = D4 prog 32 [(j2 a0), (j2 a1), (V.fn a2_fid [] [])] [] [.tmp 6] (X.ret, s)) :
  ∀ (m : Nat) (x7 : Int), (B5 (s7 prog (EV k) qW k sg) m ⟨[(1, (j2 a1)), (2, (V.fn a2_fid [] [])), (15, (j2 a0)), (16, (I (a0.length : Int))), (17, (I x7))], [], 32⟩).bind Kst = (r7 k a0 a1 a2 K0 m x7).map I2 := by
 intro m
 induction m with
 | zero => intros; rfl
 | succ m ih =>
  intro x7
  unfold r7
  refine et l8 <| kra [(18, (Bo (decide (x7 < (a0.length : Int)))))] rfl <| kc rfl rfl (fun hc => ?_) fun hc => ?_
  ·rw [hc]
   refine et d7 <| et (i4 rfl) <| kg sd rfl (fun (o9 : Int × a8) => ⟨[(1, (j2 a1)), (2, (V.fn a2_fid [] [])), (7, (I o9.1)), (8, (Pt 8)), (15, (j2 a0)), (16, (I (a0.length : Int))), (17, (I x7))], [(8, vS 3 (i7 o9.2))], 32⟩) (rd 1 [(19, (I x7))] rfl rfl <| rp rfl (i6 (e := i7) rfl rfl rfl underlying31 rfl (by decide)) fun v8 => b5 rfl) fun o9 => kg se rfl (fun (o11 : a8) => ⟨[(1, (j2 a1)), (2, (V.fn a2_fid [] [])), (8, (Pt 8)), (9, (Pt 9)), (15, (j2 a0)), (16, (I (a0.length : Int))), (17, (I x7))], [(8, vS 3 (i7 o9.2)), (9, vS 3 (i7 o11))], 32⟩) (rd 2 [(22, (j2 a1)), (23, (I o9.1))] rfl rfl <| rs rfl (i6 (e := i7) rfl rfl rfl underlying31 rfl (by decide)) fun v10 => b5 rfl) fun o11 => kg sf rfl (fun (o13 : Bool) => ⟨[(1, (j2 a1)), (2, (V.fn a2_fid [] [])), (15, (j2 a0)), (16, (I (a0.length : Int))), (17, (I x7)), (30, (Bo o13))], [], 32⟩) (rd 3 [(26, (V.fn a2_fid [] [])), (27, (i7 o9.2)), (28, (i7 o11))] rfl rfl <| rp rfl (f9 rfl rfl rfl rfl rfl (a2_hok k o9.2 o11) (.inl rfl)) fun v12 => b5 rfl) fun o13 => kcl rfl rfl (fun hc => ?_) fun hc => ?_
   ·rw [hc]
    refine kr ⟨[(6, (Bo false))], [], 32⟩ rfl <| et d9 <| et j7 <| et j6 <| et (hret _) ?_
    rfl
   ·rw [hc]
    exact et l9 <| et i3 <| kl ⟨[(1, (j2 a1)), (2, (V.fn a2_fid [] [])), (15, (j2 a0)), (16, (I (a0.length : Int))), (17, (I (Go.IntKind.wrap .i64 (x7 + 1))))], [], 32⟩ rfl <| et d8 <| ih (Go.IntKind.wrap .i64 (x7 + 1))
  ·rw [hc]
   exact et n8 <| et j1 <| hK0 x7
theorem dD (k : Nat) (a0 : (List a8)) (a1 : (List a8)) (a2 : Nat → a8 → a8 → Option Bool) (a2_fid : Go.FuncId)  (a2_hok : ∀ j x0 x1, EV j a2_fid [(i7 x0), (i7 x1)] = (a2 j x0 x1).map fun b => ((Bo b), [])) : EV k 34 [(j2 a0), (j2 a1), (V.fn a2_fid [] [])] = (G8 k a0 a1 a2).map I2 := by
 cases k with
 | zero => rfl
 | succ k =>
  unfold G8
  refine et (i2 (c := Ac) (N := 32) (regs := qW) rfl func34 rfl (by decide) rfl rfl rfl) <| kra [] rfl <| et b6 <| krp sa rfl ⟨[(0, (j2 a0)), (1, (j2 a1)), (2, (V.fn a2_fid [] [])), (14, (Bo ((a0.length : Int) != (a1.length : Int))))], [], 32⟩ ?_ ?_
  ·exact rd 1 [(10, (j2 a0))] rfl rfl <| rl rfl (m8 (e := i7) rfl rfl rfl rfl rfl rfl underlying31) <| bd 3 [(11, (I (a0.length : Int))), (12, (j2 a1))] rfl rfl <| rl rfl (m8 (e := i7) rfl rfl rfl rfl rfl rfl underlying31) <| b5 rfl
  refine kc rfl rfl (fun hc => ?_) fun hc => ?_
  ·rw [hc]
   refine et b6 <| kr ⟨[(6, (Bo false))], [], 32⟩ rfl <| et p8 ?_
   rfl
  ·rw [hc]
   refine et d7 <| et b6 <| krp sc rfl ⟨[(1, (j2 a1)), (2, (V.fn a2_fid [] [])), (15, (j2 a0)), (16, (I (a0.length : Int))), (17, (I 0))], [], 32⟩ ?_ ?_
   ·exact rd 1 [(15, (j2 a0))] rfl rfl <| rl rfl (m8 (e := i7) rfl rfl rfl rfl rfl rfl underlying31) <| b5 rfl
   refine et (i4 rfl) <| et p3 ?_
   refine bK k a0 a1 a2 a2_fid a2_hok _ _ ?h_slices_EqualFunc_Arg_v20_L1_0 ?hr_slices_EqualFunc_Arg_v20_L1 k 0
   ·intro y14
    refine et j3 <| kr ⟨[(6, (Bo true))], [], 32⟩ rfl <| et d9 ?_
    rfl
   ·intro s; exact rfl
def G4 : Bool → V × List V := fun r => ((Bo r), [])
theorem bh (k : Nat) (a0 : (List (List a6))) (a1 : (List (List a6))) (a2 : Nat → (List a6) → (List a6) → Option Bool) (a2_fid : Go.FuncId)  (a2_hok : ∀ j x0 x1, EV j a2_fid [(b4 x0), (b4 x1)] = (a2 j x0 x1).map fun b => ((Bo b), [])) (K0 : Int → Option Bool) (Kst : X × St → Option (V × List V)) (hK0 : ∀ (y0 : Int), Kst (X.exit 0, ⟨[(1, (V.sl 0 1 (List.map b4 a1))), (2, (V.fn a2_fid [] [])), (15, (V.sl 0 1 (List.map b4 a0))), (16, (I (a0.length : Int))), (17, (I y0)), (18, (Bo false))], [], 32⟩) = (K0 y0).map G4) (hret : ∀ s, Kst (X.ret, s) = D4 prog 32 [(V.sl 0 1 (List.map b4 a0)), (V.sl 0 1 (List.map b4 a1)), (V.fn a2_fid [] [])] [] [.tmp 6] (X.ret, s)) :
  ∀ (m : Nat) (x7 : Int), (B5 (s7 prog (EV k) qX k so) m ⟨[(1, (V.sl 0 1 (List.map b4 a1))), (2, (V.fn a2_fid [] [])), (15, (V.sl 0 1 (List.map b4 a0))), (16, (I (a0.length : Int))), (17, (I x7))], [], 32⟩).bind Kst = (o0 k a0 a1 a2 K0 m x7).map G4 := by
 intro m
 induction m with
 | zero => intros; rfl
 | succ m ih =>
  intro x7
  unfold o0
  refine et l8 <| kra [(18, (Bo (decide (x7 < (a0.length : Int)))))] rfl <| kc rfl rfl (fun hc => ?_) fun hc => ?_
  ·rw [hc]
   refine et d7 <| et (i4 rfl) <| kg sk rfl (fun (o9 : Int × (List a6)) => ⟨[(1, (V.sl 0 1 (List.map b4 a1))), (2, (V.fn a2_fid [] [])), (7, (I o9.1)), (8, (b4 o9.2)), (15, (V.sl 0 1 (List.map b4 a0))), (16, (I (a0.length : Int))), (17, (I x7))], [], 32⟩) (rd 1 [(19, (I x7))] rfl rfl <| rp rfl (i6 (e := b4) rfl rfl rfl underlying26 rfl (by decide)) fun v8 => b5 rfl) fun o9 => kg sm rfl (fun (o11 : (List a6)) => ⟨[(1, (V.sl 0 1 (List.map b4 a1))), (2, (V.fn a2_fid [] [])), (8, (b4 o9.2)), (9, (b4 o11)), (15, (V.sl 0 1 (List.map b4 a0))), (16, (I (a0.length : Int))), (17, (I x7))], [], 32⟩) (rd 2 [(22, (V.sl 0 1 (List.map b4 a1))), (23, (I o9.1))] rfl rfl <| rs rfl (i6 (e := b4) rfl rfl rfl underlying26 rfl (by decide)) fun v10 => b5 rfl) fun o11 => kg sn rfl (fun (o13 : Bool) => ⟨[(1, (V.sl 0 1 (List.map b4 a1))), (2, (V.fn a2_fid [] [])), (15, (V.sl 0 1 (List.map b4 a0))), (16, (I (a0.length : Int))), (17, (I x7)), (30, (Bo o13))], [], 32⟩) (rd 3 [(26, (V.fn a2_fid [] [])), (27, (b4 o9.2)), (28, (b4 o11))] rfl rfl <| rp rfl (f9 rfl rfl rfl rfl rfl (a2_hok k o9.2 o11) (.inl rfl)) fun v12 => b5 rfl) fun o13 => kcl rfl rfl (fun hc => ?_) fun hc => ?_
   ·rw [hc]
    refine kr ⟨[(6, (Bo false))], [], 32⟩ rfl <| et d9 <| et j7 <| et j6 <| et (hret _) ?_
    rfl
   ·rw [hc]
    exact et l9 <| et i3 <| kl ⟨[(1, (V.sl 0 1 (List.map b4 a1))), (2, (V.fn a2_fid [] [])), (15, (V.sl 0 1 (List.map b4 a0))), (16, (I (a0.length : Int))), (17, (I (Go.IntKind.wrap .i64 (x7 + 1))))], [], 32⟩ rfl <| et d8 <| ih (Go.IntKind.wrap .i64 (x7 + 1))
  ·rw [hc]
   exact et n8 <| et j1 <| hK0 x7
theorem cz (k : Nat) (a0 : (List (List a6))) (a1 : (List (List a6))) (a2 : Nat → (List a6) → (List a6) → Option Bool) (a2_fid : Go.FuncId)  (a2_hok : ∀ j x0 x1, EV j a2_fid [(b4 x0), (b4 x1)] = (a2 j x0 x1).map fun b => ((Bo b), [])) : EV k 62 [(V.sl 0 1 (List.map b4 a0)), (V.sl 0 1 (List.map b4 a1)), (V.fn a2_fid [] [])] = (E8 k a0 a1 a2).map G4 := by
 cases k with
 | zero => rfl
 | succ k =>
  unfold E8
  refine et (i2 (c := Af) (N := 32) (regs := qX) rfl func62 rfl (by decide) rfl rfl rfl) <| kra [] rfl <| et b6 <| krp si rfl ⟨[(0, (V.sl 0 1 (List.map b4 a0))), (1, (V.sl 0 1 (List.map b4 a1))), (2, (V.fn a2_fid [] [])), (14, (Bo ((a0.length : Int) != (a1.length : Int))))], [], 32⟩ ?_ ?_
  ·exact rd 1 [(10, (V.sl 0 1 (List.map b4 a0)))] rfl rfl <| rl rfl (m8 (e := b4) rfl rfl rfl rfl rfl rfl underlying26) <| bd 3 [(11, (I (a0.length : Int))), (12, (V.sl 0 1 (List.map b4 a1)))] rfl rfl <| rl rfl (m8 (e := b4) rfl rfl rfl rfl rfl rfl underlying26) <| b5 rfl
  refine kc rfl rfl (fun hc => ?_) fun hc => ?_
  ·rw [hc]
   refine et b6 <| kr ⟨[(6, (Bo false))], [], 32⟩ rfl <| et p8 ?_
   rfl
  ·rw [hc]
   refine et d7 <| et b6 <| krp sj rfl ⟨[(1, (V.sl 0 1 (List.map b4 a1))), (2, (V.fn a2_fid [] [])), (15, (V.sl 0 1 (List.map b4 a0))), (16, (I (a0.length : Int))), (17, (I 0))], [], 32⟩ ?_ ?_
   ·exact rd 1 [(15, (V.sl 0 1 (List.map b4 a0)))] rfl rfl <| rl rfl (m8 (e := b4) rfl rfl rfl rfl rfl rfl underlying26) <| b5 rfl
   refine et (i4 rfl) <| et p3 ?_
   refine bh k a0 a1 a2 a2_fid a2_hok _ _ ?h_slices_EqualFunc_TermL_v20_L1_0 ?hr_slices_EqualFunc_TermL_v20_L1 k 0
   ·intro y14
    refine et j3 <| kr ⟨[(6, (Bo true))], [], 32⟩ rfl <| et d9 ?_
    rfl
   ·intro s; exact rfl
def U4 : Bool → V × List V := fun r => ((Bo r), [])
theorem fR (k : Nat) (a0 : (List a6)) (a1 : (List a6))  (K0 : Int → Option Bool) (Kst : X × St → Option (V × List V)) (hK0 : ∀ (y0 : Int), Kst (X.exit 0, ⟨[(0, (b4 a0)), (1, (b4 a1)), (12, (I (a0.length : Int))), (13, (I y0)), (14, (Bo false))], [], 26⟩) = (K0 y0).map U4) (hret : ∀ s, Kst (X.ret, s) = D4 prog 26 [(b4 a0), (b4 a1)] [] [.tmp 4] (X.ret, s)) :
  ∀ (m : Nat) (x4 : Int), (B5 (s7 prog (EV k) EX k Dy) m ⟨[(0, (b4 a0)), (1, (b4 a1)), (12, (I (a0.length : Int))), (13, (I x4))], [], 26⟩).bind Kst = (A9 a0 a1 K0 m x4).map U4 := by
 intro m
 induction m with
 | zero => intros; rfl
 | succ m ih =>
  intro x4
  unfold A9
  refine et l8 <| kra [(14, (Bo (decide (x4 < (a0.length : Int)))))] rfl <| kc rfl rfl (fun hc => ?_) fun hc => ?_
  ·rw [hc]
   refine et d7 <| et (i4 rfl) <| kr ⟨[(0, (b4 a0)), (1, (b4 a1)), (5, (I x4)), (12, (I (a0.length : Int))), (13, (I x4))], [], 26⟩ rfl <| kd Dx rfl (fun (o7 : Bool) => ⟨[(0, (b4 a0)), (1, (b4 a1)), (12, (I (a0.length : Int))), (13, (I x4)), (24, (Bo o7))], [], 26⟩) (et (j4 (p := 9) (dk := true) (t := [(0, (b4 a0)), (1, (b4 a1)), (5, (I x4)), (12, (I (a0.length : Int))), (13, (I x4))]) (σ := []) (n := 26) rfl (by decide) (by decide) rfl) <| et (l5 (m := 2) (j := 2) (t' := [(0, (b4 a0)), (1, (b4 a1)), (5, (I x4)), (12, (I (a0.length : Int))), (13, (I x4)), (16, (b4 a0)), (17, (I x4))]) rfl rfl rfl) <| et (d5 (x := (idx a0 x4)) (w := fun v5 => (Pr (i5 v5))) rfl rfl rfl rfl rfl (i6 (e := i5) rfl rfl rfl underlying56 rfl (by decide))) <| n5 fun v5 => et (k0 (m := 3) (j := 6) (t' := [(0, (b4 a0)), (1, (b4 a1)), (5, (I x4)), (12, (I (a0.length : Int))), (13, (I x4)), (16, (b4 a0)), (17, (I x4)), (18, (Pr (i5 v5))), (19, (i5 v5)), (20, (b4 a1)), (21, (I x4))]) rfl rfl rfl) <| et (d5 (x := (idx a1 x4)) (w := fun v6 => (Pr (i5 v6))) rfl rfl rfl rfl rfl (i6 (e := i5) rfl rfl rfl underlying56 rfl (by decide))) <| n5 fun v6 => et (k0 (m := 1) (j := 8) (t' := [(0, (b4 a0)), (1, (b4 a1)), (5, (I x4)), (12, (I (a0.length : Int))), (13, (I x4)), (16, (b4 a0)), (17, (I x4)), (18, (Pr (i5 v5))), (19, (i5 v5)), (20, (b4 a1)), (21, (I x4)), (22, (Pr (i5 v6))), (23, (i5 v6))]) rfl rfl rfl) <| et (d5 (x := some ()) (w := fun _ => (Bo (!(v5.fField == v6.fField && (v5.fOp == v6.fOp && (v5.fValue == v6.fValue && true)))))) rfl rfl rfl rfl rfl (EA rfl rfl rfl underlying55 EB AA rfl)) <| et Y5 <| l6 rfl) fun o7 => kcl rfl rfl (fun hc => ?_) fun hc => ?_
   ·rw [hc]
    refine kr ⟨[(4, (Bo false))], [], 26⟩ rfl <| et d9 <| et j7 <| et j6 <| et (hret _) ?_
    rfl
   ·rw [hc]
    exact et l9 <| et i3 <| kl ⟨[(0, (b4 a0)), (1, (b4 a1)), (12, (I (a0.length : Int))), (13, (I (Go.IntKind.wrap .i64 (x4 + 1))))], [], 26⟩ rfl <| et d8 <| ih (Go.IntKind.wrap .i64 (x4 + 1))
  ·rw [hc]
   exact et n8 <| et j1 <| hK0 x4
theorem W7 (k : Nat) (a0 : (List a6)) (a1 : (List a6)) : EV k 63 [(b4 a0), (b4 a1)] = (E9 k a0 a1).map U4 := by
 cases k with
 | zero => rfl
 | succ k =>
  unfold E9
  refine et (i2 (c := f63c) (N := 26) (regs := EX) rfl func63 rfl (by decide) rfl rfl rfl) <| kra [] rfl <| et b6 <| krp Dv rfl ⟨[(0, (b4 a0)), (1, (b4 a1)), (10, (Bo ((a0.length : Int) != (a1.length : Int))))], [], 26⟩ ?_ ?_
  ·exact rd 1 [(6, (b4 a0))] rfl rfl <| rl rfl (m8 (e := i5) rfl rfl rfl rfl rfl rfl underlying56) <| bd 3 [(7, (I (a0.length : Int))), (8, (b4 a1))] rfl rfl <| rl rfl (m8 (e := i5) rfl rfl rfl rfl rfl rfl underlying56) <| b5 rfl
  refine kc rfl rfl (fun hc => ?_) fun hc => ?_
  ·rw [hc]
   refine et b6 <| kr ⟨[(4, (Bo false))], [], 26⟩ rfl <| et p8 ?_
   rfl
  ·rw [hc]
   refine et d7 <| et b6 <| krp Dw rfl ⟨[(0, (b4 a0)), (1, (b4 a1)), (12, (I (a0.length : Int))), (13, (I 0))], [], 26⟩ ?_ ?_
   ·exact rd 1 [(11, (b4 a0))] rfl rfl <| rl rfl (m8 (e := i5) rfl rfl rfl rfl rfl rfl underlying56) <| b5 rfl
   refine et (i4 rfl) <| et p3 ?_
   refine fR k a0 a1 _ _ ?h_slices_Equal_Term_L1_0 ?hr_slices_Equal_Term_L1 k 0
   ·intro y8
    refine et j3 <| kr ⟨[(4, (Bo true))], [], 26⟩ rfl <| et d9 ?_
    rfl
   ·intro s; exact rfl
def oO : Bool → V × List V := fun r => ((Bo r), [])
theorem fk (k : Nat) (a0 : (List (List a6))) (a1 : (List (List a6))) : EV k 33 [(V.sl 0 1 (List.map b4 a0)), (V.sl 0 1 (List.map b4 a1))] = (em k a0 a1).map oO := by
 cases k with
 | zero => rfl
 | succ k =>
  unfold em
  refine et (i2 (c := f33c) (N := 8) (regs := Gf) rfl func33 rfl (by decide) rfl rfl rfl) <| kra [] rfl <| kg Ck rfl (fun (o2 : Bool) => ⟨[(4, (Bo o2))], [], 8⟩) (rd 2 [(5, (V.sl 0 1 (List.map b4 a0))), (6, (V.sl 0 1 (List.map b4 a1)))] rfl rfl <| rs rfl (f9 rfl rfl rfl rfl rfl (cz k a0 a1 (fun j x0 x1 => (E9 j x0 x1)) 63 (fun j x0 x1 => (W7 j x0 x1))) (.inl rfl)) fun v1 => b5 rfl) fun o2 => et d9 ?_
  rfl
def rJ : Bool → V × List V := fun r => ((Bo r), [])
theorem cE (k : Nat) (a0 : a8) (a1 : a8) : EV k 13 [(i7 a0), (i7 a1)] = (bi k a0 a1).map rJ := by
 cases k with
 | zero => rfl
 | succ k =>
  unfold bi
  refine et (i2 (c := f13c) (N := 24) (regs := FZ) rfl func13 rfl (by decide) rfl rfl rfl) <| kr ⟨[(2, (Pt 2)), (3, (Pt 3))], [(2, vS 3 (i7 a0)), (3, vS 3 (i7 a1))], 24⟩ rfl <| kg AZ rfl (fun (o2 : Bool) => ⟨[(4, (Bo o2))], [], 24⟩) ?_ fun o2 => ?_
  ·refine rd 6 [(5, (Pt 2)), (6, (Sr a0.fSegment)), (7, (Pt 3)), (8, (Sr a1.fSegment)), (9, (Bo (a0.fSegment == a1.fSegment))), (10, (Bo (a0.fSegment == a1.fSegment)))] rfl rfl <| m9 (fun hc => ?_) fun hc => ?_
   ·rw [hc]
    refine rd 13 [(11, (V.ptr 2 0 1)), (12, (Sr a0.fCodes)), (13, (V.ptr 3 0 1)), (14, (Sr a1.fCodes)), (15, (Bo (a0.fCodes == a1.fCodes))), (16, (Bo (a0.fCodes == a1.fCodes))), (17, (Bo (a0.fCodes == a1.fCodes)))] rfl rfl <| m9 (fun hc => ?_) fun hc => ?_
    ·rw [hc]
     exact rd 17 [(18, (V.ptr 2 0 2)), (19, (V.sl 0 1 (List.map b4 a0.fWhen))), (20, (V.ptr 3 0 2)), (21, (V.sl 0 1 (List.map b4 a1.fWhen)))] rfl rfl <| rs rfl (f9 rfl rfl rfl rfl rfl (fk k a0.fWhen a1.fWhen) (.inl rfl)) fun v1 => b5 rfl
    ·rw [hc]
     exact c9 rfl
   ·rw [hc]
    exact c9 rfl
  refine et d9 ?_
  rfl
def nH : Bool → V × List V := fun r => ((Bo r), [])
theorem W9 (k : Nat) (a0 : (List a8)) (a1 : (List a8)) : EV k 17 [(j2 a0), (j2 a1)] = (R6 k a0 a1).map nH := by
 cases k with
 | zero => rfl
 | succ k =>
  unfold R6
  refine et (i2 (c := f17c) (N := 8) (regs := Ga) rfl func17 rfl (by decide) rfl rfl rfl) <| kra [] rfl <| kg Bn rfl (fun (o2 : Bool) => ⟨[(4, (Bo o2))], [], 8⟩) (rd 2 [(5, (j2 a0)), (6, (j2 a1))] rfl rfl <| rs rfl (f9 rfl rfl rfl rfl rfl (dD k a0 a1 (fun j x0 x1 => (bi j x0 x1)) 13 (fun j x0 x1 => (cE j x0 x1))) (.inl rfl)) fun v1 => b5 rfl) fun o2 => et d9 ?_
  rfl
def ta : Bool → V × List V := fun r => ((Bo r), [])
theorem uC (k : Nat) (a0 : a8) (a1 : Int) : EV k 18 [(i7 a0), (V.int .u8 a1)] = (jf k a0 a1).map ta := by
 cases k with
 | zero => rfl
 | succ k =>
  unfold jf
  refine et (i2 (c := f18c) (N := 10) (regs := Gb) rfl func18 rfl (by decide) rfl rfl rfl) <| kr ⟨[(1, (V.int .u8 a1)), (2, (Pt 2))], [(2, vS 3 (i7 a0))], 10⟩ rfl <| kg Bp rfl (fun (o2 : Bool) => ⟨[(4, (Bo o2))], [], 10⟩) (rd 3 [(5, (V.ptr 2 0 1)), (6, (Sr a0.fCodes)), (7, (V.int .u8 a1))] rfl rfl <| rp rfl (f9 rfl rfl rfl rfl rfl (X0 k a0.fCodes a1) (.inl rfl)) fun v1 => b5 rfl) fun o2 => et d9 ?_
  rfl
def ft : Bool → V × List V := fun r => ((Bo r), [])
theorem nE (k : Nat) (a0 : a8) (a1 : Int)  (K0 : Int → Option Bool) (Kst : X × St → Option (V × List V)) (hK0 : ∀ (y0 : Int), Kst (X.exit 0, ⟨[(1, (V.int .u8 a1)), (2, (Pt 2)), (5, (I y0)), (10, (Bo false))], [(2, vS 3 (i7 a0))], 19⟩) = (K0 y0).map ft) (hret : ∀ s, Kst (X.ret, s) = D4 prog 19 [(i7 a0), (V.int .u8 a1)] [] [.tmp 4] (X.ret, s)) :
  ∀ (m : Nat) (x3 : Int), (B5 (s7 prog (EV k) EK k Br) m ⟨[(1, (V.int .u8 a1)), (2, (Pt 2)), (5, (I x3))], [(2, vS 3 (i7 a0))], 19⟩).bind Kst = (S0 a0 a1 K0 m x3).map ft := by
 intro m
 induction m with
 | zero => intros; rfl
 | succ m ih =>
  intro x3
  unfold S0
  refine et l8 <| et b6 <| kra [(10, (Bo (decide (x3 < (a0.fCodes.length : Int)))))] rfl <| kc rfl rfl (fun hc => ?_) fun hc => ?_
  ·rw [hc]
   refine et d7 <| et (i4 rfl) <| kg Bq rfl (fun (o5 : Bool) => ⟨[(1, (V.int .u8 a1)), (2, (Pt 2)), (5, (I x3)), (18, (Bo o5))], [(2, vS 3 (i7 a0))], 19⟩) (rd 3 [(13, (V.ptr 2 0 1)), (14, (Sr a0.fCodes)), (15, (I x3))] rfl rfl <| rp rfl (s9 rfl rfl rfl underlying9) fun v4 => b5 rfl) fun o5 => kcl rfl rfl (fun hc => ?_) fun hc => ?_
   ·rw [hc]
    refine kr ⟨[(4, (Bo true))], [], 19⟩ rfl <| et d9 <| et j7 <| et j6 <| et (hret _) ?_
    rfl
   ·rw [hc]
    exact et l9 <| et i3 <| kl ⟨[(1, (V.int .u8 a1)), (2, (Pt 2)), (5, (I (Go.IntKind.wrap .i64 (x3 + 1))))], [(2, vS 3 (i7 a0))], 19⟩ rfl <| et d8 <| ih (Go.IntKind.wrap .i64 (x3 + 1))
  ·rw [hc]
   exact et n8 <| et j1 <| hK0 x3
theorem rD (k : Nat) (a0 : a8) (a1 : Int) : EV k 19 [(i7 a0), (V.int .u8 a1)] = (dM k a0 a1).map ft := by
 cases k with
 | zero => rfl
 | succ k =>
  unfold dM
  refine et (i2 (c := f19c) (N := 19) (regs := EK) rfl func19 rfl (by decide) rfl rfl rfl) <| kr ⟨[(1, (V.int .u8 a1)), (2, (Pt 2))], [(2, vS 3 (i7 a0))], 19⟩ rfl <| et b6 <| kra [(5, (I 0))] rfl <| et (i4 rfl) <| et p3 ?_
  refine nE k a0 a1 _ _ ?h_ref14_Has_L1_0 ?hr_ref14_Has_L1 k 0
  ·intro y6
   refine et j3 <| kr ⟨[(4, (Bo false))], [], 19⟩ rfl <| et d9 ?_
   rfl
  ·intro s; exact rfl
def D1 : Bool → V × List V := fun r => ((Bo r), [])
theorem iB (k : Nat) (a0 : a7) (a1 : (List Str)) (a2 : (List a8))  (K0 : Int → Option Bool) (Kst : X × St → Option (V × List V)) (hK0 : ∀ (y0 : Int), Kst (X.exit 0, ⟨[(1, (sS a1)), (2, (j2 a2)), (3, (Pt 3)), (7, (I y0)), (29, (Bo false))], [(3, vS 4 (b8 a0))], 118⟩) = (K0 y0).map D1) (hret : ∀ s, Kst (X.ret, s) = D4 prog 118 [(b8 a0), (sS a1), (j2 a2)] [] [.tmp 6] (X.ret, s)) :
  ∀ (m : Nat) (x10 : Int), (B5 (s7 prog (EV k) f4n k Gq) m ⟨[(1, (sS a1)), (2, (j2 a2)), (3, (Pt 3)), (7, (I x10))], [(3, vS 4 (b8 a0))], 118⟩).bind Kst = (C0 k a1 K0 m x10).map D1 := by
 intro m
 induction m with
 | zero => intros; rfl
 | succ m ih =>
  intro x10
  unfold C0
  refine et l8 <| et b6 <| krp Gk rfl ⟨[(1, (sS a1)), (2, (j2 a2)), (3, (Pt 3)), (7, (I x10)), (29, (Bo (decide (x10 < (a1.length : Int)))))], [(3, vS 4 (b8 a0))], 118⟩ ?_ ?_
  ·exact rd 2 [(26, (I x10)), (27, (sS a1))] rfl rfl <| rl rfl (m8 (e := V.str) rfl rfl rfl rfl rfl rfl underlying40) <| b5 rfl
  refine kc rfl rfl (fun hc => ?_) fun hc => ?_
  ·rw [hc]
   refine et d7 <| et (i4 rfl) <| kg Gl rfl (fun (o12 : Bool) => ⟨[(1, (sS a1)), (2, (j2 a2)), (3, (Pt 3)), (7, (I x10)), (37, (Bo o12))], [(3, vS 4 (b8 a0))], 118⟩) (rd 2 [(32, (sS a1)), (33, (I x10))] rfl rfl <| rp rfl (i6 (e := V.str) rfl rfl rfl underlying40 rfl (by decide)) fun v11 => b5 rfl) fun o12 => kcl rfl rfl (fun hc => ?_) fun hc => ?_
   ·rw [hc]
    refine kg Gm rfl (fun (o14 : Bool) => ⟨[(6, (Bo o14))], [], 118⟩) (rs rfl (f9 rfl rfl rfl rfl rfl (ec k) (.inl rfl)) fun v13 => b5 rfl) fun o14 => et d9 <| et j7 <| et j6 <| et (hret _) ?_
    rfl
   ·rw [hc]
    exact et l9 <| et i3 <| kl ⟨[(1, (sS a1)), (2, (j2 a2)), (3, (Pt 3)), (7, (I (Go.IntKind.wrap .i64 (x10 + 1))))], [(3, vS 4 (b8 a0))], 118⟩ rfl <| et d8 <| ih (Go.IntKind.wrap .i64 (x10 + 1))
  ·rw [hc]
   exact et n8 <| et j1 <| hK0 x10
theorem iD (k : Nat) (a0 : a7) (a1 : (List Str)) (a2 : (List a8)) (x48 : Int)  (K0 : Int → Option Bool) (Kst : X × St → Option (V × List V)) (hK0 : ∀ (y0 : Int), Kst (X.exit 4, ⟨[(2, (j2 a2)), (12, (I x48)), (13, (I y0)), (82, (Bo false))], [], 118⟩) = (K0 y0).map D1) (hret : ∀ s, Kst (X.ret, s) = D4 prog 118 [(b8 a0), (sS a1), (j2 a2)] [] [.tmp 6] (X.ret, s)) :
  ∀ (m : Nat) (x56 : Int), (B5 (s7 prog (EV k) f4n k Gr) m ⟨[(2, (j2 a2)), (12, (I x48)), (13, (I x56))], [], 118⟩).bind Kst = (E0 k a2 x48 K0 m x56).map D1 := by
 intro m
 induction m with
 | zero => intros; rfl
 | succ m ih =>
  intro x56
  unfold E0
  refine et l8 <| et b6 <| kra [(82, (Bo (decide (x56 < 4))))] rfl <| kc rfl rfl (fun hc => ?_) fun hc => ?_
  ·rw [hc]
   refine et d7 <| et (i4 rfl) <| kd Cw rfl (fun (o63 : Bool) => ⟨[(2, (j2 a2)), (12, (I x48)), (13, (I x56)), (99, (Bo o63))], [], 118⟩) (et (j4 (p := 15) (dk := true) (t := [(2, (j2 a2)), (12, (I x48)), (13, (I x56)), (82, (Bo true))]) (σ := []) (n := 118) rfl (by decide) (by decide) rfl) <| et (l5 (m := 2) (j := 2) (t' := [(2, (j2 a2)), (12, (I x48)), (13, (I x56)), (82, (Bo true)), (85, (j2 a2)), (86, (I x48))]) rfl rfl rfl) <| et (d5 (x := (idx a2 x48)) (w := fun v57 => (Pr (i7 v57))) rfl rfl rfl rfl rfl (i6 (e := i7) rfl rfl rfl underlying31 rfl (by decide))) <| n5 fun v57 => et (k0 (m := 2) (j := 5) (t' := [(2, (j2 a2)), (12, (I x48)), (13, (I x56)), (82, (Bo true)), (85, (j2 a2)), (86, (I x48)), (87, (Pr (i7 v57))), (88, (i7 v57)), (89, (I x56))]) rfl rfl rfl) <| et (d5 (x := (G0 ([68, 76, 80, 88] : Str) x56)) (w := fun v58 => (V.int .u8 v58)) rfl rfl rfl rfl rfl (s9 rfl rfl rfl underlying9)) <| n5 fun v58 => et (k0 (m := 0) (j := 6) (t' := [(2, (j2 a2)), (12, (I x48)), (13, (I x56)), (82, (Bo true)), (85, (j2 a2)), (86, (I x48)), (87, (Pr (i7 v57))), (88, (i7 v57)), (89, (I x56)), (90, (V.int .u8 v58))]) rfl rfl rfl) <| et (d5 (x := (jf k v57 v58)) (w := fun v59 => (Bo v59)) rfl rfl rfl rfl rfl (f9 rfl rfl rfl rfl rfl (uC k v57 v58) (.inl rfl))) <| n5 fun v59 => et (k0 (m := 2) (j := 9) (t' := [(2, (j2 a2)), (12, (I x48)), (13, (I x56)), (82, (Bo true)), (85, (j2 a2)), (86, (I x48)), (87, (Pr (i7 v57))), (88, (i7 v57)), (89, (I x56)), (90, (V.int .u8 v58)), (91, (Bo v59)), (92, (j2 a2)), (93, (I x48))]) rfl rfl rfl) <| et (d5 (x := (idx a2 x48)) (w := fun v60 => (Pr (i7 v60))) rfl rfl rfl rfl rfl (i6 (e := i7) rfl rfl rfl underlying31 rfl (by decide))) <| n5 fun v60 => et (k0 (m := 2) (j := 12) (t' := [(2, (j2 a2)), (12, (I x48)), (13, (I x56)), (82, (Bo true)), (85, (j2 a2)), (86, (I x48)), (87, (Pr (i7 v57))), (88, (i7 v57)), (89, (I x56)), (90, (V.int .u8 v58)), (91, (Bo v59)), (92, (j2 a2)), (93, (I x48)), (94, (Pr (i7 v60))), (95, (i7 v60)), (96, (I x56))]) rfl rfl rfl) <| et (d5 (x := (G0 ([68, 76, 80, 88] : Str) x56)) (w := fun v61 => (V.int .u8 v61)) rfl rfl rfl rfl rfl (s9 rfl rfl rfl underlying9)) <| n5 fun v61 => et (k0 (m := 0) (j := 13) (t' := [(2, (j2 a2)), (12, (I x48)), (13, (I x56)), (82, (Bo true)), (85, (j2 a2)), (86, (I x48)), (87, (Pr (i7 v57))), (88, (i7 v57)), (89, (I x56)), (90, (V.int .u8 v58)), (91, (Bo v59)), (92, (j2 a2)), (93, (I x48)), (94, (Pr (i7 v60))), (95, (i7 v60)), (96, (I x56)), (97, (V.int .u8 v61))]) rfl rfl rfl) <| et (d5 (x := (dM k v60 v61)) (w := fun v62 => (Bo v62)) rfl rfl rfl rfl rfl (f9 rfl rfl rfl rfl rfl (rD k v60 v61) (.inl rfl))) <| n5 fun v62 => l6 rfl) fun o63 => kcl rfl rfl (fun hc => ?_) fun hc => ?_
   ·rw [hc]
    refine kr ⟨[(6, (Bo false))], [], 118⟩ rfl <| et d9 <| et j7 <| et j6 <| et (hret _) ?_
    rfl
   ·rw [hc]
    exact et l9 <| et i3 <| kl ⟨[(2, (j2 a2)), (12, (I x48)), (13, (I (Go.IntKind.wrap .i64 (x56 + 1))))], [], 118⟩ rfl <| et d8 <| ih (Go.IntKind.wrap .i64 (x56 + 1))
  ·rw [hc]
   exact et n8 <| et j1 <| hK0 x56
theorem iC (k : Nat) (a0 : a7) (a1 : (List Str)) (a2 : (List a8))  (K0 : Int → Option Bool) (Kst : X × St → Option (V × List V)) (hK0 : ∀ (y0 : Int), Kst (X.exit 2, ⟨[(2, (j2 a2)), (12, (I y0)), (78, (Bo false))], [], 118⟩) = (K0 y0).map D1) (hret : ∀ s, Kst (X.ret, s) = D4 prog 118 [(b8 a0), (sS a1), (j2 a2)] [] [.tmp 6] (X.ret, s)) :
  ∀ (m : Nat) (x48 : Int), (B5 (s7 prog (EV k) f4n k Gs) m ⟨[(2, (j2 a2)), (12, (I x48))], [], 118⟩).bind Kst = (A2 k a2 K0 m x48).map D1 := by
 intro m
 induction m with
 | zero => intros; rfl
 | succ m ih =>
  intro x48
  unfold A2
  refine et l8 <| et b6 <| krp Cv rfl ⟨[(2, (j2 a2)), (12, (I x48)), (78, (Bo (decide (x48 < (a2.length : Int)))))], [], 118⟩ ?_ ?_
  ·exact rd 2 [(75, (I x48)), (76, (j2 a2))] rfl rfl <| rl rfl (m8 (e := i7) rfl rfl rfl rfl rfl rfl underlying31) <| b5 rfl
  refine kc rfl rfl (fun hc => ?_) fun hc => ?_
  ·rw [hc]
   refine et d7 <| et (i4 rfl) <| et b6 <| kr ⟨[(2, (j2 a2)), (12, (I x48)), (13, (I 0))], [], 118⟩ rfl <| et (i4 rfl) <| et p3 ?_
   refine iD k a0 a1 a2 x48 _ _ ?h_law14_SsaLists_L3_0 ?hr_law14_SsaLists_L3 k 0
   ·intro y64
    refine et j3 <| kd Cx rfl (fun (o71 : Bool) => ⟨[(2, (j2 a2)), (12, (I x48)), (116, (Bo o71))], [], 118⟩) (et (j4 (p := 17) (dk := true) (t := [(2, (j2 a2)), (12, (I x48)), (13, (I y64)), (82, (Bo false))]) (σ := []) (n := 118) rfl (by decide) (by decide) rfl) <| et (l5 (m := 1) (j := 1) (t' := [(2, (j2 a2)), (12, (I x48)), (13, (I y64)), (82, (Bo false)), (100, (j2 a2))]) rfl rfl rfl) <| et (d5 (x := (idx a2 0)) (w := fun v65 => (Pr (i7 v65))) rfl rfl rfl rfl rfl (i6 (e := i7) rfl rfl rfl underlying31 rfl (by decide))) <| n5 fun v65 => et (k0 (m := 3) (j := 5) (t' := [(2, (j2 a2)), (12, (I x48)), (13, (I y64)), (82, (Bo false)), (100, (j2 a2)), (101, (Pr (i7 v65))), (102, (i7 v65)), (103, (j2 a2)), (104, (I x48))]) rfl rfl rfl) <| et (d5 (x := (idx a2 x48)) (w := fun v66 => (Pr (i7 v66))) rfl rfl rfl rfl rfl (i6 (e := i7) rfl rfl rfl underlying31 rfl (by decide))) <| n5 fun v66 => et (k0 (m := 1) (j := 7) (t' := [(2, (j2 a2)), (12, (I x48)), (13, (I y64)), (82, (Bo false)), (100, (j2 a2)), (101, (Pr (i7 v65))), (102, (i7 v65)), (103, (j2 a2)), (104, (I x48)), (105, (Pr (i7 v66))), (106, (i7 v66))]) rfl rfl rfl) <| et (d5 (x := (bi k v65 v66)) (w := fun v67 => (Bo v67)) rfl rfl rfl rfl rfl (f9 rfl rfl rfl rfl rfl (cE k v65 v66) (.inl rfl))) <| n5 fun v67 => et (k0 (m := 1) (j := 9) (t' := [(2, (j2 a2)), (12, (I x48)), (13, (I y64)), (82, (Bo false)), (100, (j2 a2)), (101, (Pr (i7 v65))), (102, (i7 v65)), (103, (j2 a2)), (104, (I x48)), (105, (Pr (i7 v66))), (106, (i7 v66)), (107, (Bo v67)), (108, (j2 a2))]) rfl rfl rfl) <| et (d5 (x := (idx a2 0)) (w := fun v68 => (Pr (i7 v68))) rfl rfl rfl rfl rfl (i6 (e := i7) rfl rfl rfl underlying31 rfl (by decide))) <| n5 fun v68 => et (k0 (m := 3) (j := 13) (t' := [(2, (j2 a2)), (12, (I x48)), (13, (I y64)), (82, (Bo false)), (100, (j2 a2)), (101, (Pr (i7 v65))), (102, (i7 v65)), (103, (j2 a2)), (104, (I x48)), (105, (Pr (i7 v66))), (106, (i7 v66)), (107, (Bo v67)), (108, (j2 a2)), (109, (Pr (i7 v68))), (110, (i7 v68)), (111, (j2 a2)), (112, (I x48))]) rfl rfl rfl) <| et (d5 (x := (idx a2 x48)) (w := fun v69 => (Pr (i7 v69))) rfl rfl rfl rfl rfl (i6 (e := i7) rfl rfl rfl underlying31 rfl (by decide))) <| n5 fun v69 => et (k0 (m := 1) (j := 15) (t' := [(2, (j2 a2)), (12, (I x48)), (13, (I y64)), (82, (Bo false)), (100, (j2 a2)), (101, (Pr (i7 v65))), (102, (i7 v65)), (103, (j2 a2)), (104, (I x48)), (105, (Pr (i7 v66))), (106, (i7 v66)), (107, (Bo v67)), (108, (j2 a2)), (109, (Pr (i7 v68))), (110, (i7 v68)), (111, (j2 a2)), (112, (I x48)), (113, (Pr (i7 v69))), (114, (i7 v69))]) rfl rfl rfl) <| et (d5 (x := (W5 k v68 v69)) (w := fun v70 => (Bo v70)) rfl rfl rfl rfl rfl (f9 rfl rfl rfl rfl rfl (Z6 k v68 v69) (.inl rfl))) <| n5 fun v70 => l6 rfl) fun o71 => kcl rfl rfl (fun hc => ?_) fun hc => ?_
    ·rw [hc]
     refine kr ⟨[(6, (Bo false))], [], 118⟩ rfl <| et d9 <| et j7 <| et j6 <| et (hret _) ?_
     rfl
    ·rw [hc]
     exact et l9 <| et i3 <| kl ⟨[(2, (j2 a2)), (12, (I (Go.IntKind.wrap .i64 (x48 + 1))))], [], 118⟩ rfl <| et d8 <| ih (Go.IntKind.wrap .i64 (x48 + 1))
   ·intro s; exact hret s
  ·rw [hc]
   exact et n8 <| et j1 <| hK0 x48
theorem kW (k : Nat) (a0 : a7) (a1 : (List Str)) (a2 : (List a8)) : EV k 4 [(b8 a0), (sS a1), (j2 a2)] = (V6 k a0 a1 a2).map D1 := by
 cases k with
 | zero => rfl
 | succ k =>
  unfold V6
  refine et (i2 (c := f4c) (N := 118) (regs := f4n) rfl func4 rfl (by decide) rfl rfl rfl) <| kr ⟨[(1, (sS a1)), (2, (j2 a2)), (3, (Pt 3))], [(3, vS 4 (b8 a0))], 118⟩ rfl <| et b6 <| kga Gi rfl (fun (o3 : Bool) => [(24, (Bo o3))]) ?_ fun o3 => ?_
  ·refine rd 1 [(14, (b8 a0))] rfl rfl <| rp rfl (f9 rfl rfl rfl rfl rfl (oG k a0) (.inl rfl)) fun v1 => bd 3 [(15, (Bo v1)), (16, (Bo v1))] rfl rfl <| m9 (fun hc => ?_) fun hc => ?_
   ·rw [hc]
    exact c9 rfl
   ·rw [hc]
    refine rd 4 [(17, (j2 a2))] rfl rfl <| rp rfl (f9 rfl rfl rfl rfl rfl (pI k a2) (.inl rfl)) fun v2 => bd 7 [(18, (Bo v2)), (19, (Bo v2)), (20, (Bo v2))] rfl rfl <| m9 (fun hc => ?_) fun hc => ?_
    ·rw [hc]
     exact c9 rfl
    ·rw [hc]
     exact rd 8 [(21, (sS a1))] rfl rfl <| rl rfl (m8 (e := V.str) rfl rfl rfl rfl rfl rfl underlying40) <| b5 rfl
  refine kc rfl rfl (fun hc => ?_) fun hc => ?_
  ·rw [hc]
   refine et b6 <| kg Gj rfl (fun (o5 : Bool) => ⟨[(6, (Bo o5))], [], 118⟩) (rs rfl (f9 rfl rfl rfl rfl rfl (ec k) (.inl rfl)) fun v4 => b5 rfl) fun o5 => et p8 ?_
   rfl
  ·rw [hc]
   refine et d7 <| et b6 <| kr ⟨[(1, (sS a1)), (2, (j2 a2)), (3, (Pt 3)), (7, (I 0))], [(3, vS 4 (b8 a0))], 118⟩ rfl <| et (i4 rfl) <| et p3 ?_
   refine iB k a0 a1 a2 _ _ ?h_law14_SsaLists_L1_0 ?hr_law14_SsaLists_L1 k 0
   ·intro y15
    refine et j3 <| kg Gn rfl (fun (o17 : (List a8) × Int) => ⟨[(1, (sS a1)), (2, (j2 a2)), (3, (Pt 3)), (8, (j2 o17.1)), (9, (I o17.2))], [(3, vS 4 (b8 a0))], 118⟩) (rd 2 [(40, (b8 a0)), (41, (sS a1))] rfl rfl <| rp rfl (f9 rfl rfl rfl rfl rfl (df k a0 a1) (.inl rfl)) fun v16 => b5 rfl) fun o17 => kg Gp rfl (fun (o19 : (List a8) × Int) => ⟨[(2, (j2 a2)), (8, (j2 o17.1)), (9, (I o17.2)), (10, (j2 o19.1)), (11, (I o19.2))], [], 118⟩) (rd 2 [(46, (b8 a0)), (47, (sS a1))] rfl rfl <| rp rfl (f9 rfl rfl rfl rfl rfl (bc k a0 a1) (.inl rfl)) fun v18 => b5 rfl) fun o19 => et b6 <| kg Cu rfl (fun (o24 : Bool) => ⟨[(2, (j2 a2)), (74, (Bo o24))], [], 118⟩) ?_ fun o24 => ?_
    ·refine rd 2 [(51, (j2 o17.1)), (52, (j2 o19.1))] rfl rfl <| rp rfl (f9 rfl rfl rfl rfl rfl (Y3 k o17.1 o19.1) (.inl rfl)) fun v20 => bd 5 [(53, (Bo v20)), (54, (Bo (!v20))), (55, (Bo (!v20)))] rfl rfl <| m9 (fun hc => ?_) fun hc => ?_
     ·rw [hc]
      exact c9 rfl
     ·rw [hc]
      refine rd 10 [(56, (I o17.2)), (57, (I o19.2)), (58, (Bo (o17.2 != o19.2))), (59, (Bo (o17.2 != o19.2))), (60, (Bo (o17.2 != o19.2)))] rfl rfl <| m9 (fun hc => ?_) fun hc => ?_
      ·rw [hc]
       exact c9 rfl
      ·rw [hc]
       refine rd 12 [(61, (j2 o17.1)), (62, (j2 a2))] rfl rfl <| rp rfl (f9 rfl rfl rfl rfl rfl (W9 k o17.1 a2) (.inl rfl)) fun v21 => bd 15 [(63, (Bo v21)), (64, (j2 o19.1)), (65, (j2 a2))] rfl rfl <| rp rfl (f9 rfl rfl rfl rfl rfl (Y3 k o19.1 a2) (.inl rfl)) fun v22 => bd 19 [(66, (Bo v22)), (67, (Bo (!(v21 == v22)))), (68, (Bo (!(v21 == v22)))), (69, (Bo (!(v21 == v22))))] rfl rfl <| m9 (fun hc => ?_) fun hc => ?_
       ·rw [hc]
        exact c9 rfl
       ·rw [hc]
        exact rd 21 [(70, (j2 a2)), (71, (j2 a2))] rfl rfl <| rp rfl (f9 rfl rfl rfl rfl rfl (W9 k a2 a2) (.inl rfl)) fun v23 => b5 rfl
    refine kc rfl rfl (fun hc => ?_) fun hc => ?_
    ·rw [hc]
     refine et b6 <| kr ⟨[(6, (Bo false))], [], 118⟩ rfl <| et p8 ?_
     rfl
    ·rw [hc]
     refine et d7 <| et b6 <| kr ⟨[(2, (j2 a2)), (12, (I 0))], [], 118⟩ rfl <| et (i4 rfl) <| et p3 ?_
     refine iC k a0 a1 a2 _ _ ?h_law14_SsaLists_L2_0 ?hr_law14_SsaLists_L2 k 0
     ·intro y72
      refine et j3 <| kg Cy rfl (fun (o74 : Bool) => ⟨[(6, (Bo o74))], [], 118⟩) (rs rfl (f9 rfl rfl rfl rfl rfl (ec k) (.inl rfl)) fun v73 => b5 rfl) fun o74 => et d9 ?_
      rfl
     ·intro s; exact rfl
   ·intro s; exact rfl
end
end Go.AE
