/- The program, function by function: the evaluator comes to the typed functions. Conditions: none. -/
import Derived.Test.YtgpblbjceghpjaaGreatDoorA3
import Derived.KernelRfl
import Derived.Test.YtgpblbjceghpjaaGreatDoorProg
import Derived.Test.YtgpblbjceghpjaaGreatDoorB1
namespace Go.AE
open Go.Proofs.Tryz Go.Sh
set_option linter.unusedSimpArgs false
set_option linter.unusedVariables false
set_option maxRecDepth 100000
set_option maxHeartbeats 4000000
noncomputable section
abbrev Pt (n : Nat) : V := .ptr n 0 0
abbrev Bo (b : Bool) : V := .bool b
abbrev Sr (s : Str) : V := .str s
abbrev Pr (v : V) : V := .pro v
abbrev sS (l : List Str) : V := .sl 0 1 (List.map V.str l)
abbrev vS (n : Nat) (v : V) : Site := ⟨false, n, [v]⟩
abbrev aL {α : Type} (d : Nat) (e : α → V) (l : List α) : V := .aref d 0 (List.map e l).length
theorem eqg48 : prog.eqGuardType prog.depth 48 = false := by kernel_rfl
theorem sih48 : prog.stoodInHeld 48 = false := by kernel_rfl
def eField (a : T_api_Field) : V := .agg [(V.str a.fName), (V.int .i64 a.fAt), (V.int .i64 a.fBytes)]
def eType (a : T_api_Type) : V := .agg [(V.str a.fName), (V.int .i64 a.fParent), (V.int .i64 a.fMin), (V.int .i64 a.fSize), (V.sl 0 3 (List.map eField a.fFields)), (V.int .i64 a.fKey), (V.bool a.fUnique), (V.bool a.fLast)]
def eSearch (a : T_api_Search) : V := .agg [(V.str a.fName), (V.int .i64 a.fType), (V.int .i64 a.fField), (V.str a.fSparse)]
def eBase (a : T_api_Base) : V := .agg [(V.str a.fName), (V.int .i64 a.fKind), (V.sl 0 8 (List.map eType a.fTypes)), (V.sl 0 4 (List.map eSearch a.fIndexes))]
def eTerm (a : T_api_Term) : V := .agg [(V.str a.fField), (V.int .i64 a.fOp), (V.str a.fValue)]
def eCase (a : T_progenylaw12_Case) : V := .agg [(V.str a.fBase.fName), (V.int .i64 a.fBase.fKind), (V.sl 0 8 (List.map eType a.fBase.fTypes)), (V.sl 0 4 (List.map eSearch a.fBase.fIndexes)), (V.int .i64 a.fType), (V.sl 0 1 (List.map (fun x => (V.sl 0 3 (List.map eTerm x))) a.fWhen))]
def eStr (a : T_arr6_Str) : V := .agg [(V.str a.e0), (V.str a.e1), (V.str a.e2), (V.str a.e3), (V.str a.e4), (V.str a.e5)]
noncomputable def f4o0 : Array Oper := cO (cL (cB f4))
def f4a0 : RAnn := ⟨[0, 2], []⟩
noncomputable def f4o1 : Array Oper := cO (cL (cL (cR (cB f4))))
def f4a1 : RAnn := ⟨[6, 7, 8, 9, 10, 11, 12, 13, 14, 15, 16, 17, 18, 19, 20], []⟩
noncomputable def f4o2 : Array Oper := cO (cL (cL (cR (cL (cR (cB f4))))))
def f4a2 : RAnn := ⟨[1, 21], []⟩
noncomputable def f4o3 : Array Oper := cO (cL (cL (cR (cR (cB f4)))))
def f4a3 : RAnn := ⟨[21], []⟩
noncomputable def f4o4 : Array Oper := cO (cL (cL (cL (cL (cR (cL (cR (cR (cB f4)))))))))
def f4a4 : RAnn := ⟨[22, 23, 24, 25], []⟩
noncomputable def f4o5 : Array Oper := cO (cR (cR (cL (cL (cR (cL (cR (cR (cB f4)))))))))
def f4a5 : RAnn := ⟨[4, 27, 28, 55], []⟩
noncomputable def f4o6 : Array Oper := cO (cL (cL (cL (cL (cR (cL (cL (cR (cL (cR (cR (cB f4))))))))))))
def f4a6 : RAnn := ⟨[26, 29, 30, 31, 32, 33, 34, 35, 36, 37, 38, 39, 40, 41, 42, 43, 44, 45], []⟩
noncomputable def f4o7 : Array Oper := cO (cL (cL (cR (cL (cL (cL (cR (cL (cL (cR (cL (cR (cR (cB f4))))))))))))))
def f4a7 : RAnn := ⟨[1, 3, 46], []⟩
noncomputable def f4o8 : Array Oper := cO (cL (cR (cL (cL (cR (cL (cL (cR (cL (cR (cR (cB f4))))))))))))
def f4a8 : RAnn := ⟨[46], []⟩
noncomputable def f4o9 : Array Oper := cO (cL (cL (cL (cL (cR (cR (cL (cL (cR (cL (cL (cR (cL (cR (cR (cB f4))))))))))))))))
def f4a9 : RAnn := ⟨[47, 48, 49, 50, 51, 52, 53, 54], []⟩
noncomputable def f4o10 : Array Oper := cO (cR (cR (cL (cL (cR (cR (cL (cL (cR (cL (cL (cR (cL (cR (cR (cB f4))))))))))))))))
def f4a10 : RAnn := ⟨[56, 57, 69], []⟩
noncomputable def f4o11 : Array Oper := cO (cL (cL (cL (cR (cL (cL (cR (cR (cL (cL (cR (cL (cL (cR (cL (cR (cR (cB f4))))))))))))))))))
def f4a11 : RAnn := ⟨[55, 58, 59, 60, 61, 62, 63, 64, 65, 66, 67, 68], []⟩
noncomputable def f4o12 : Array Oper := cO (cL (cL (cR (cL (cL (cR (cL (cL (cR (cR (cL (cL (cR (cL (cL (cR (cL (cR (cR (cB f4))))))))))))))))))))
def f4a12 : RAnn := ⟨[1, 3, 4, 69], []⟩
noncomputable def f4o13 : Array Oper := cO (cL (cL (cR (cR (cR (cB f4))))))
def f4a13 : RAnn := ⟨[3, 26], []⟩
noncomputable def f4o14 : Array Oper := cO (cL (cL (cL (cL (cR (cL (cR (cR (cR (cB f4))))))))))
def f4a14 : RAnn := ⟨[70, 71, 72, 73], []⟩
noncomputable def f4o15 : Array Oper := cO (cR (cR (cL (cL (cR (cL (cR (cR (cR (cB f4))))))))))
def f4a15 : RAnn := ⟨[75, 76, 94], []⟩
noncomputable def f4o16 : Array Oper := cO (cL (cL (cL (cR (cL (cL (cR (cL (cR (cR (cR (cB f4))))))))))))
def f4a16 : RAnn := ⟨[74, 77, 78, 79, 80, 81, 82, 83, 84, 85, 86, 87, 88, 89, 90, 91, 92, 93], []⟩
noncomputable def f4o17 : Array Oper := cO (cL (cL (cR (cL (cL (cR (cL (cL (cR (cL (cR (cR (cR (cB f4))))))))))))))
def f4a17 : RAnn := ⟨[1, 5, 94], []⟩
noncomputable def f4o18 : Array Oper := cO (cL (cR (cR (cR (cR (cB f4))))))
def f4a18 : RAnn := ⟨[1, 5, 74], []⟩
def f4b0 : Code := (.seq (.seq (.region 9 f4o9 false) (.cond (.tmp 55) .skip (.exit 2))) (.seq (.block 3 (.seq (.region 11 f4o11 false) (.cond (.tmp 69) (.seq (.region 12 f4o12 false) .ret) .skip))) (.region 10 f4o10 false)))
def f4b1 : Code := (.seq (.seq (.region 4 f4o4 false) (.cond (.tmp 26) .skip (.exit 0))) (.seq (.block 1 (.seq (.seq (.region 6 f4o6 false) (.cond (.tmp 46) (.seq (.region 7 f4o7 false) .ret) .skip)) (.seq (.region 8 f4o8 false) (.block 2 (.loop f4b0))))) (.region 5 f4o5 false)))
def f4b2 : Code := (.seq (.seq (.region 14 f4o14 false) (.cond (.tmp 74) .skip (.exit 4))) (.seq (.block 5 (.seq (.region 16 f4o16 false) (.cond (.tmp 94) (.seq (.region 17 f4o17 false) .ret) .skip))) (.region 15 f4o15 false)))
def f4c : Code := (.seq (.region 0 f4o0 false) (.seq (.seq (.region 1 f4o1 false) (.cond (.tmp 21) (.seq (.region 2 f4o2 false) .ret) .skip)) (.seq (.seq (.region 3 f4o3 false) (.block 0 (.loop f4b1))) (.seq (.seq (.region 13 f4o13 false) (.block 4 (.loop f4b2))) (.seq (.region 18 f4o18 false) .ret)))))
def f4n : List (Nat × RAnn) := [(0, f4a0), (1, f4a1), (2, f4a2), (3, f4a3), (4, f4a4), (5, f4a5), (6, f4a6), (7, f4a7), (8, f4a8), (9, f4a9), (10, f4a10), (11, f4a11), (12, f4a12), (13, f4a13), (14, f4a14), (15, f4a15), (16, f4a16), (17, f4a17), (18, f4a18)]
noncomputable def f5o0 : Array Oper := cO (cL (cB f5))
def f5a0 : RAnn := ⟨[2], []⟩
noncomputable def f5o1 : Array Oper := cO (cL (cL (cR (cB f5))))
def f5a1 : RAnn := ⟨[], []⟩
noncomputable def f5o2 : Array Oper := cO (cL (cL (cL (cL (cR (cL (cR (cB f5))))))))
def f5a2 : RAnn := ⟨[5, 6, 7], []⟩
noncomputable def f5o3 : Array Oper := cO (cR (cR (cL (cL (cR (cL (cR (cB f5))))))))
def f5a3 : RAnn := ⟨[4, 9, 10, 23], []⟩
noncomputable def f5o4 : Array Oper := cO (cL (cL (cL (cL (cR (cL (cL (cR (cL (cR (cB f5)))))))))))
def f5a4 : RAnn := ⟨[8, 11, 12, 13, 14, 15], []⟩
noncomputable def f5o5 : Array Oper := cO (cL (cL (cR (cL (cL (cL (cR (cL (cL (cR (cL (cR (cB f5)))))))))))))
def f5a5 : RAnn := ⟨[0, 3, 16], []⟩
noncomputable def f5o6 : Array Oper := cO (cL (cR (cL (cL (cR (cL (cL (cR (cL (cR (cB f5)))))))))))
def f5a6 : RAnn := ⟨[16], []⟩
noncomputable def f5o7 : Array Oper := cO (cL (cL (cL (cL (cR (cR (cL (cL (cR (cL (cL (cR (cL (cR (cB f5)))))))))))))))
def f5a7 : RAnn := ⟨[17, 18, 19, 20, 21, 22], []⟩
noncomputable def f5o8 : Array Oper := cO (cR (cR (cL (cL (cR (cR (cL (cL (cR (cL (cL (cR (cL (cR (cB f5)))))))))))))))
def f5a8 : RAnn := ⟨[24, 25, 47], []⟩
noncomputable def f5o9 : Array Oper := cO (cL (cL (cL (cR (cL (cL (cR (cR (cL (cL (cR (cL (cL (cR (cL (cR (cB f5)))))))))))))))))
def f5a9 : RAnn := ⟨[23, 26, 27, 28, 29, 30, 31, 32, 33, 34, 35, 36, 37, 38, 39, 40, 41, 42, 43, 44, 45, 46], []⟩
noncomputable def f5o10 : Array Oper := cO (cL (cL (cR (cL (cL (cR (cL (cL (cR (cR (cL (cL (cR (cL (cL (cR (cL (cR (cB f5)))))))))))))))))))
def f5a10 : RAnn := ⟨[0, 3, 4, 47], []⟩
noncomputable def f5o11 : Array Oper := cO (cL (cR (cR (cB f5))))
def f5a11 : RAnn := ⟨[0, 3, 8, 48, 49, 50], []⟩
def f5b0 : Code := (.seq (.seq (.region 7 f5o7 false) (.cond (.tmp 23) .skip (.exit 2))) (.seq (.block 3 (.seq (.region 9 f5o9 false) (.cond (.tmp 47) (.seq (.region 10 f5o10 false) .ret) .skip))) (.region 8 f5o8 false)))
def f5b1 : Code := (.seq (.seq (.region 2 f5o2 false) (.cond (.tmp 8) .skip (.exit 0))) (.seq (.block 1 (.seq (.seq (.region 4 f5o4 false) (.cond (.tmp 16) (.seq (.region 5 f5o5 false) .ret) .skip)) (.seq (.region 6 f5o6 false) (.block 2 (.loop f5b0))))) (.region 3 f5o3 false)))
def f5c : Code := (.seq (.region 0 f5o0 false) (.seq (.seq (.region 1 f5o1 false) (.block 0 (.loop f5b1))) (.seq (.region 11 f5o11 false) .ret)))
def f5n : List (Nat × RAnn) := [(0, f5a0), (1, f5a1), (2, f5a2), (3, f5a3), (4, f5a4), (5, f5a5), (6, f5a6), (7, f5a7), (8, f5a8), (9, f5a9), (10, f5a10), (11, f5a11)]
noncomputable def f13o0 : Array Oper := cO (cL (cB f13))
def f13a0 : RAnn := ⟨[], []⟩
noncomputable def f13o1 : Array Oper := cO (cL (cR (cB f13)))
def f13a1 : RAnn := ⟨[1, 2, 3, 4, 5], []⟩
def f13c : Code := (.seq (.region 0 f13o0 false) (.seq (.region 1 f13o1 false) .ret))
def f13n : List (Nat × RAnn) := [(0, f13a0), (1, f13a1)]
noncomputable def f87o0 : Array Oper := cO (cL (cB f87))
def f87a0 : RAnn := ⟨[2], []⟩
noncomputable def f87o1 : Array Oper := cO (cL (cL (cR (cB f87))))
def f87a1 : RAnn := ⟨[5], []⟩
noncomputable def f87o2 : Array Oper := cO (cL (cL (cL (cR (cL (cR (cB f87)))))))
def f87a2 : RAnn := ⟨[], []⟩
noncomputable def f87o3 : Array Oper := cO (cL (cL (cL (cR (cR (cL (cL (cR (cL (cR (cB f87)))))))))))
def f87a3 : RAnn := ⟨[8, 9], []⟩
noncomputable def f87o4 : Array Oper := cO (cL (cR (cL (cL (cR (cR (cL (cL (cR (cL (cR (cB f87))))))))))))
def f87a4 : RAnn := ⟨[10, 11, 12, 13, 14, 15, 16, 17, 18, 19], []⟩
noncomputable def f87o5 : Array Oper := cO (cL (cR (cR (cL (cL (cR (cR (cL (cL (cR (cL (cR (cB f87)))))))))))))
def f87a5 : RAnn := ⟨[3, 4, 20, 21, 22, 23, 24, 25, 26, 27, 28, 29, 30, 31, 32, 33, 34, 35, 36], []⟩
noncomputable def f87o6 : Array Oper := cO (cL (cL (cR (cR (cR (cL (cL (cR (cR (cL (cL (cR (cL (cR (cB f87)))))))))))))))
def f87a6 : RAnn := ⟨[0, 6, 7, 37], []⟩
noncomputable def f87o7 : Array Oper := cO (cR (cR (cR (cL (cL (cR (cL (cR (cB f87)))))))))
def f87a7 : RAnn := ⟨[37, 38], []⟩
noncomputable def f87o8 : Array Oper := cO (cL (cR (cR (cB f87))))
def f87a8 : RAnn := ⟨[0, 6, 7, 8, 39, 40, 41, 42, 43, 44, 45, 46], []⟩
def f87b0 : Code := (.seq (.region 2 f87o2 false) (.seq (.cond (.tmp 8) .skip (.exit 0)) (.seq (.block 1 (.seq (.region 3 f87o3 false) (.seq (.region 4 f87o4 false) (.seq (.region 5 f87o5 false) (.cond (.tmp 37) (.seq (.region 6 f87o6 false) .ret) .skip))))) (.region 7 f87o7 false))))
def f87c : Code := (.seq (.region 0 f87o0 false) (.seq (.seq (.region 1 f87o1 false) (.block 0 (.loop f87b0))) (.seq (.region 8 f87o8 false) .ret)))
def f87n : List (Nat × RAnn) := [(0, f87a0), (1, f87a1), (2, f87a2), (3, f87a3), (4, f87a4), (5, f87a5), (6, f87a6), (7, f87a7), (8, f87a8)]
noncomputable def f62o0 : Array Oper := cO (cL (cB f62))
def f62a0 : RAnn := ⟨[4], []⟩
noncomputable def f62o1 : Array Oper := cO (cL (cL (cR (cB f62))))
def f62a1 : RAnn := ⟨[6], []⟩
noncomputable def f62o2 : Array Oper := cO (cL (cL (cL (cR (cL (cR (cB f62)))))))
def f62a2 : RAnn := ⟨[], []⟩
noncomputable def f62o3 : Array Oper := cO (cL (cL (cL (cR (cR (cL (cL (cR (cL (cR (cB f62)))))))))))
def f62a3 : RAnn := ⟨[9, 10], []⟩
noncomputable def f62o4 : Array Oper := cO (cL (cR (cL (cL (cR (cR (cL (cL (cR (cL (cR (cB f62))))))))))))
def f62a4 : RAnn := ⟨[11, 12, 13, 14, 15], []⟩
noncomputable def f62o5 : Array Oper := cO (cL (cL (cR (cR (cL (cL (cR (cR (cL (cL (cR (cL (cR (cB f62))))))))))))))
def f62a5 : RAnn := ⟨[0, 1, 5, 7, 8, 16, 17], []⟩
noncomputable def f62o6 : Array Oper := cO (cR (cR (cR (cL (cL (cR (cL (cR (cB f62)))))))))
def f62a6 : RAnn := ⟨[5, 16, 18], []⟩
noncomputable def f62o7 : Array Oper := cO (cL (cR (cR (cB f62))))
def f62a7 : RAnn := ⟨[0, 1, 7, 8, 9], []⟩
def f62b0 : Code := (.seq (.region 2 f62o2 false) (.seq (.cond (.tmp 9) .skip (.exit 0)) (.seq (.block 1 (.seq (.region 3 f62o3 false) (.seq (.region 4 f62o4 false) (.cond (.tmp 16) (.seq (.region 5 f62o5 false) .ret) .skip)))) (.region 6 f62o6 false))))
def f62c : Code := (.seq (.region 0 f62o0 false) (.seq (.seq (.region 1 f62o1 false) (.block 0 (.loop f62b0))) (.seq (.region 7 f62o7 false) .ret)))
def f62n : List (Nat × RAnn) := [(0, f62a0), (1, f62a1), (2, f62a2), (3, f62a3), (4, f62a4), (5, f62a5), (6, f62a6), (7, f62a7)]
noncomputable def f107o0 : Array Oper := cO (cL (cB f107))
def f107a0 : RAnn := ⟨[4], []⟩
noncomputable def f107o1 : Array Oper := cO (cL (cR (cB f107)))
def f107a1 : RAnn := ⟨[0, 1, 5, 6, 7, 8], []⟩
def f107c : Code := (.seq (.region 0 f107o0 false) (.seq (.region 1 f107o1 false) .ret))
def f107n : List (Nat × RAnn) := [(0, f107a0), (1, f107a1)]
noncomputable def f108o0 : Array Oper := cO (cL (cB f108))
def f108a0 : RAnn := ⟨[0, 3], []⟩
noncomputable def f108o1 : Array Oper := cO (cL (cR (cB f108)))
def f108a1 : RAnn := ⟨[1, 2, 4, 5, 6, 7, 8], []⟩
def f108c : Code := (.seq (.region 0 f108o0 false) (.seq (.region 1 f108o1 false) .ret))
def f108n : List (Nat × RAnn) := [(0, f108a0), (1, f108a1)]
noncomputable def f103o0 : Array Oper := cO (cL (cB f103))
def f103a0 : RAnn := ⟨[4], []⟩
noncomputable def f103o1 : Array Oper := cO (cL (cL (cR (cB f103))))
def f103a1 : RAnn := ⟨[], []⟩
noncomputable def f103o2 : Array Oper := cO (cL (cL (cL (cR (cL (cR (cB f103)))))))
def f103a2 : RAnn := ⟨[], []⟩
noncomputable def f103o3 : Array Oper := cO (cL (cL (cL (cR (cR (cL (cL (cR (cL (cR (cB f103)))))))))))
def f103a3 : RAnn := ⟨[10, 11, 12, 13], []⟩
noncomputable def f103o4 : Array Oper := cO (cL (cL (cR (cL (cL (cR (cR (cL (cL (cR (cL (cR (cB f103)))))))))))))
def f103a4 : RAnn := ⟨[14, 15, 16, 17, 18, 19, 20, 21, 22, 23, 24, 25, 26, 27, 28, 29, 30, 31, 32, 33, 34, 35, 36, 37, 38, 39, 40, 41], []⟩
noncomputable def f103o5 : Array Oper := cO (cL (cL (cR (cL (cR (cL (cL (cR (cR (cL (cL (cR (cL (cR (cB f103)))))))))))))))
def f103a5 : RAnn := ⟨[0, 1, 5, 6, 7, 8, 9, 42], []⟩
noncomputable def f103o6 : Array Oper := cO (cL (cR (cR (cL (cL (cR (cR (cL (cL (cR (cL (cR (cB f103)))))))))))))
def f103a6 : RAnn := ⟨[5, 6, 42, 43, 44, 45, 46], []⟩
noncomputable def f103o7 : Array Oper := cO (cL (cL (cR (cR (cR (cL (cL (cR (cR (cL (cL (cR (cL (cR (cB f103)))))))))))))))
def f103a7 : RAnn := ⟨[0, 1, 7, 8, 9, 47], []⟩
noncomputable def f103o8 : Array Oper := cO (cR (cR (cR (cL (cL (cR (cL (cR (cB f103)))))))))
def f103a8 : RAnn := ⟨[47, 48], []⟩
noncomputable def f103o9 : Array Oper := cO (cL (cR (cR (cB f103))))
def f103a9 : RAnn := ⟨[0, 1, 7, 8, 9, 10, 49, 50, 51], []⟩
def f103b0 : Code := (.seq (.region 2 f103o2 false) (.seq (.cond (.tmp 10) .skip (.exit 0)) (.seq (.block 1 (.seq (.region 3 f103o3 false) (.seq (.seq (.region 4 f103o4 false) (.cond (.tmp 42) (.seq (.region 5 f103o5 false) .ret) .skip)) (.seq (.region 6 f103o6 false) (.cond (.tmp 47) (.seq (.region 7 f103o7 false) .ret) .skip))))) (.region 8 f103o8 false))))
def f103c : Code := (.seq (.region 0 f103o0 false) (.seq (.seq (.region 1 f103o1 false) (.block 0 (.loop f103b0))) (.seq (.region 9 f103o9 false) .ret)))
def f103n : List (Nat × RAnn) := [(0, f103a0), (1, f103a1), (2, f103a2), (3, f103a3), (4, f103a4), (5, f103a5), (6, f103a6), (7, f103a7), (8, f103a8), (9, f103a9)]
noncomputable def f96o0 : Array Oper := cO (cL (cB f96))
def f96a0 : RAnn := ⟨[0, 2], []⟩
noncomputable def f96o1 : Array Oper := cO (cL (cL (cL (cR (cB f96)))))
def f96a1 : RAnn := ⟨[4, 5, 6, 7, 8, 9, 10, 11, 12, 13, 14, 15, 16, 17, 18, 19, 20, 21, 22, 23, 24, 25, 26, 27, 28, 29, 30, 31, 32], []⟩
noncomputable def f96o2 : Array Oper := cO (cL (cL (cR (cL (cL (cR (cB f96)))))))
def f96a2 : RAnn := ⟨[1, 3], []⟩
noncomputable def f96o3 : Array Oper := cO (cL (cR (cR (cL (cL (cR (cB f96)))))))
def f96a3 : RAnn := ⟨[3, 34, 35, 36], []⟩
noncomputable def f96o4 : Array Oper := cO (cL (cL (cR (cR (cR (cL (cL (cR (cB f96)))))))))
def f96a4 : RAnn := ⟨[1, 33, 37, 38, 39], []⟩
noncomputable def f96o5 : Array Oper := cO (cL (cR (cR (cR (cR (cL (cL (cR (cB f96)))))))))
def f96a5 : RAnn := ⟨[33, 41, 42, 43, 44, 45, 46, 47, 48, 49, 50, 51], []⟩
noncomputable def f96o6 : Array Oper := cO (cL (cL (cR (cR (cR (cR (cR (cL (cL (cR (cB f96)))))))))))
def f96a6 : RAnn := ⟨[1, 40], []⟩
noncomputable def f96o7 : Array Oper := cO (cL (cR (cR (cB f96))))
def f96a7 : RAnn := ⟨[1, 40, 52, 53, 54, 55, 56, 57, 58, 59, 60, 61, 62, 63, 64, 65, 66, 67, 68, 69], []⟩
def f96c : Code := (.seq (.region 0 f96o0 false) (.seq (.block 0 (.seq (.region 1 f96o1 false) (.cond (.tmp 3) (.seq (.region 2 f96o2 false) .ret) (.seq (.region 3 f96o3 false) (.cond (.tmp 33) (.seq (.region 4 f96o4 false) .ret) (.seq (.region 5 f96o5 false) (.cond (.tmp 40) (.seq (.region 6 f96o6 false) .ret) .skip))))))) (.seq (.region 7 f96o7 true) .ret)))
def f96n : List (Nat × RAnn) := [(0, f96a0), (1, f96a1), (2, f96a2), (3, f96a3), (4, f96a4), (5, f96a5), (6, f96a6), (7, f96a7)]
noncomputable def f104o0 : Array Oper := cO (cL (cB f104))
def f104a0 : RAnn := ⟨[4], []⟩
noncomputable def f104o1 : Array Oper := cO (cL (cL (cR (cB f104))))
def f104a1 : RAnn := ⟨[6], []⟩
noncomputable def f104o2 : Array Oper := cO (cL (cL (cL (cR (cL (cR (cB f104)))))))
def f104a2 : RAnn := ⟨[], []⟩
noncomputable def f104o3 : Array Oper := cO (cL (cL (cL (cR (cR (cL (cL (cR (cL (cR (cB f104)))))))))))
def f104a3 : RAnn := ⟨[9, 10], []⟩
noncomputable def f104o4 : Array Oper := cO (cL (cR (cL (cL (cR (cR (cL (cL (cR (cL (cR (cB f104))))))))))))
def f104a4 : RAnn := ⟨[11, 12, 13, 14, 15], []⟩
noncomputable def f104o5 : Array Oper := cO (cL (cL (cR (cR (cL (cL (cR (cR (cL (cL (cR (cL (cR (cB f104))))))))))))))
def f104a5 : RAnn := ⟨[0, 1, 5, 7, 8, 16, 17], []⟩
noncomputable def f104o6 : Array Oper := cO (cR (cR (cR (cL (cL (cR (cL (cR (cB f104)))))))))
def f104a6 : RAnn := ⟨[5, 16, 18], []⟩
noncomputable def f104o7 : Array Oper := cO (cL (cR (cR (cB f104))))
def f104a7 : RAnn := ⟨[0, 1, 7, 8, 9], []⟩
def f104b0 : Code := (.seq (.region 2 f104o2 false) (.seq (.cond (.tmp 9) .skip (.exit 0)) (.seq (.block 1 (.seq (.region 3 f104o3 false) (.seq (.region 4 f104o4 false) (.cond (.tmp 16) (.seq (.region 5 f104o5 false) .ret) .skip)))) (.region 6 f104o6 false))))
def f104c : Code := (.seq (.region 0 f104o0 false) (.seq (.seq (.region 1 f104o1 false) (.block 0 (.loop f104b0))) (.seq (.region 7 f104o7 false) .ret)))
def f104n : List (Nat × RAnn) := [(0, f104a0), (1, f104a1), (2, f104a2), (3, f104a3), (4, f104a4), (5, f104a5), (6, f104a6), (7, f104a7)]
noncomputable def f97o0 : Array Oper := cO (cL (cB f97))
def f97a0 : RAnn := ⟨[4], []⟩
noncomputable def f97o1 : Array Oper := cO (cL (cR (cB f97)))
def f97a1 : RAnn := ⟨[0, 1, 5, 6, 7, 8], []⟩
def f97c : Code := (.seq (.region 0 f97o0 false) (.seq (.region 1 f97o1 false) .ret))
def f97n : List (Nat × RAnn) := [(0, f97a0), (1, f97a1)]
noncomputable def f98o0 : Array Oper := cO (cL (cB f98))
def f98a0 : RAnn := ⟨[0, 3], []⟩
noncomputable def f98o1 : Array Oper := cO (cL (cR (cB f98)))
def f98a1 : RAnn := ⟨[1, 2, 4, 5, 6, 7, 8], []⟩
def f98c : Code := (.seq (.region 0 f98o0 false) (.seq (.region 1 f98o1 false) .ret))
def f98n : List (Nat × RAnn) := [(0, f98a0), (1, f98a1)]
noncomputable def f99o0 : Array Oper := cO (cL (cB f99))
def f99a0 : RAnn := ⟨[4], []⟩
noncomputable def f99o1 : Array Oper := cO (cL (cL (cR (cB f99))))
def f99a1 : RAnn := ⟨[6], []⟩
noncomputable def f99o2 : Array Oper := cO (cL (cL (cL (cR (cL (cR (cB f99)))))))
def f99a2 : RAnn := ⟨[], []⟩
noncomputable def f99o3 : Array Oper := cO (cL (cL (cL (cR (cR (cL (cL (cR (cL (cR (cB f99)))))))))))
def f99a3 : RAnn := ⟨[9, 10], []⟩
noncomputable def f99o4 : Array Oper := cO (cL (cR (cL (cL (cR (cR (cL (cL (cR (cL (cR (cB f99))))))))))))
def f99a4 : RAnn := ⟨[11, 12, 13, 14, 15], []⟩
noncomputable def f99o5 : Array Oper := cO (cL (cL (cR (cR (cL (cL (cR (cR (cL (cL (cR (cL (cR (cB f99))))))))))))))
def f99a5 : RAnn := ⟨[0, 1, 5, 7, 8, 16, 17], []⟩
noncomputable def f99o6 : Array Oper := cO (cR (cR (cR (cL (cL (cR (cL (cR (cB f99)))))))))
def f99a6 : RAnn := ⟨[5, 16, 18], []⟩
noncomputable def f99o7 : Array Oper := cO (cL (cR (cR (cB f99))))
def f99a7 : RAnn := ⟨[0, 1, 7, 8, 9], []⟩
def f99b0 : Code := (.seq (.region 2 f99o2 false) (.seq (.cond (.tmp 9) .skip (.exit 0)) (.seq (.block 1 (.seq (.region 3 f99o3 false) (.seq (.region 4 f99o4 false) (.cond (.tmp 16) (.seq (.region 5 f99o5 false) .ret) .skip)))) (.region 6 f99o6 false))))
def f99c : Code := (.seq (.region 0 f99o0 false) (.seq (.seq (.region 1 f99o1 false) (.block 0 (.loop f99b0))) (.seq (.region 7 f99o7 false) .ret)))
def f99n : List (Nat × RAnn) := [(0, f99a0), (1, f99a1), (2, f99a2), (3, f99a3), (4, f99a4), (5, f99a5), (6, f99a6), (7, f99a7)]
noncomputable def f88o0 : Array Oper := cO (cL (cB f88))
def f88a0 : RAnn := ⟨[2], []⟩
noncomputable def f88o1 : Array Oper := cO (cL (cL (cR (cB f88))))
def f88a1 : RAnn := ⟨[7, 8, 9, 10, 11, 12, 13], []⟩
noncomputable def f88o2 : Array Oper := cO (cL (cL (cR (cL (cR (cB f88))))))
def f88a2 : RAnn := ⟨[0, 14], []⟩
noncomputable def f88o3 : Array Oper := cO (cL (cR (cR (cB f88))))
def f88a3 : RAnn := ⟨[14], [(0, { site := true })]⟩
noncomputable def f88o4 : Array Oper := cO (cL (cL (cR (cR (cR (cB f88))))))
def f88a4 : RAnn := ⟨[], []⟩
noncomputable def f88o5 : Array Oper := cO (cL (cL (cL (cR (cL (cR (cR (cR (cB f88)))))))))
def f88a5 : RAnn := ⟨[], []⟩
noncomputable def f88o6 : Array Oper := cO (cL (cL (cL (cR (cR (cL (cL (cR (cL (cR (cR (cR (cB f88)))))))))))))
def f88a6 : RAnn := ⟨[18, 19, 20, 21], []⟩
noncomputable def f88o7 : Array Oper := cO (cL (cL (cR (cL (cL (cR (cR (cL (cL (cR (cL (cR (cR (cR (cB f88)))))))))))))))
def f88a7 : RAnn := ⟨[22, 23, 24, 25, 26, 27, 28, 29, 30], []⟩
noncomputable def f88o8 : Array Oper := cO (cL (cL (cR (cL (cR (cL (cL (cR (cR (cL (cL (cR (cL (cR (cR (cR (cB f88)))))))))))))))))
def f88a8 : RAnn := ⟨[0, 3, 4, 5, 15, 16, 17, 31], []⟩
noncomputable def f88o9 : Array Oper := cO (cL (cR (cR (cL (cL (cR (cR (cL (cL (cR (cL (cR (cR (cR (cB f88)))))))))))))))
def f88a9 : RAnn := ⟨[31, 32, 33, 34, 35], []⟩
noncomputable def f88o10 : Array Oper := cO (cL (cL (cR (cR (cR (cL (cL (cR (cR (cL (cL (cR (cL (cR (cR (cR (cB f88)))))))))))))))))
def f88a10 : RAnn := ⟨[5, 36, 37, 38, 39, 40, 41, 42, 43, 44, 45, 46, 47, 48, 49, 50, 51, 52, 53, 54, 55, 56, 57, 58, 59, 60, 61, 62, 63, 64, 65, 66, 67, 68, 69], []⟩
noncomputable def f88o11 : Array Oper := cO (cL (cL (cR (cL (cR (cR (cR (cL (cL (cR (cR (cL (cL (cR (cL (cR (cR (cR (cB f88)))))))))))))))))))
def f88a11 : RAnn := ⟨[0, 3, 4, 6, 15, 16, 17, 70], []⟩
noncomputable def f88o12 : Array Oper := cO (cL (cR (cR (cR (cR (cL (cL (cR (cR (cL (cL (cR (cL (cR (cR (cR (cB f88)))))))))))))))))
def f88a12 : RAnn := ⟨[4, 6, 70, 71, 72, 73, 74, 75, 76, 77], []⟩
noncomputable def f88o13 : Array Oper := cO (cL (cR (cR (cR (cR (cR (cL (cL (cR (cR (cL (cL (cR (cL (cR (cR (cR (cB f88))))))))))))))))))
def f88a13 : RAnn := ⟨[78, 79], []⟩
noncomputable def f88o14 : Array Oper := cO (cL (cL (cR (cR (cR (cR (cR (cR (cL (cL (cR (cR (cL (cL (cR (cL (cR (cR (cR (cB f88))))))))))))))))))))
def f88a14 : RAnn := ⟨[0, 3, 15, 16, 17, 80], []⟩
noncomputable def f88o15 : Array Oper := cO (cR (cR (cR (cL (cL (cR (cL (cR (cR (cR (cB f88)))))))))))
def f88a15 : RAnn := ⟨[80, 81], []⟩
noncomputable def f88o16 : Array Oper := cO (cL (cR (cR (cR (cR (cB f88))))))
def f88a16 : RAnn := ⟨[0, 3, 15, 16, 17, 18], []⟩
def f88b0 : Code := (.seq (.region 5 f88o5 false) (.seq (.cond (.tmp 18) .skip (.exit 0)) (.seq (.block 1 (.seq (.region 6 f88o6 false) (.seq (.seq (.region 7 f88o7 false) (.cond (.tmp 31) (.seq (.region 8 f88o8 false) .ret) .skip)) (.seq (.region 9 f88o9 false) (.seq (.seq (.region 10 f88o10 false) (.cond (.tmp 70) (.seq (.region 11 f88o11 false) .ret) .skip)) (.seq (.region 12 f88o12 false) (.seq (.region 13 f88o13 false) (.cond (.tmp 80) (.seq (.region 14 f88o14 false) .ret) .skip)))))))) (.region 15 f88o15 false))))
def f88c : Code := (.seq (.region 0 f88o0 false) (.seq (.seq (.region 1 f88o1 false) (.cond (.tmp 14) (.seq (.region 2 f88o2 false) .ret) .skip)) (.seq (.region 3 f88o3 false) (.seq (.seq (.region 4 f88o4 false) (.block 0 (.loop f88b0))) (.seq (.region 16 f88o16 false) .ret)))))
def f88n : List (Nat × RAnn) := [(0, f88a0), (1, f88a1), (2, f88a2), (3, f88a3), (4, f88a4), (5, f88a5), (6, f88a6), (7, f88a7), (8, f88a8), (9, f88a9), (10, f88a10), (11, f88a11), (12, f88a12), (13, f88a13), (14, f88a14), (15, f88a15), (16, f88a16)]
noncomputable def f105o0 : Array Oper := cO (cL (cB f105))
def f105a0 : RAnn := ⟨[4], []⟩
noncomputable def f105o1 : Array Oper := cO (cL (cL (cR (cB f105))))
def f105a1 : RAnn := ⟨[6], []⟩
noncomputable def f105o2 : Array Oper := cO (cL (cL (cL (cR (cL (cR (cB f105)))))))
def f105a2 : RAnn := ⟨[], []⟩
noncomputable def f105o3 : Array Oper := cO (cL (cL (cL (cR (cR (cL (cL (cR (cL (cR (cB f105)))))))))))
def f105a3 : RAnn := ⟨[9, 10], []⟩
noncomputable def f105o4 : Array Oper := cO (cL (cR (cL (cL (cR (cR (cL (cL (cR (cL (cR (cB f105))))))))))))
def f105a4 : RAnn := ⟨[11, 12, 13, 14, 15], []⟩
noncomputable def f105o5 : Array Oper := cO (cL (cL (cR (cR (cL (cL (cR (cR (cL (cL (cR (cL (cR (cB f105))))))))))))))
def f105a5 : RAnn := ⟨[0, 1, 5, 7, 8, 16, 17], []⟩
noncomputable def f105o6 : Array Oper := cO (cR (cR (cR (cL (cL (cR (cL (cR (cB f105)))))))))
def f105a6 : RAnn := ⟨[5, 16, 18], []⟩
noncomputable def f105o7 : Array Oper := cO (cL (cR (cR (cB f105))))
def f105a7 : RAnn := ⟨[0, 1, 7, 8, 9], []⟩
def f105b0 : Code := (.seq (.region 2 f105o2 false) (.seq (.cond (.tmp 9) .skip (.exit 0)) (.seq (.block 1 (.seq (.region 3 f105o3 false) (.seq (.region 4 f105o4 false) (.cond (.tmp 16) (.seq (.region 5 f105o5 false) .ret) .skip)))) (.region 6 f105o6 false))))
def f105c : Code := (.seq (.region 0 f105o0 false) (.seq (.seq (.region 1 f105o1 false) (.block 0 (.loop f105b0))) (.seq (.region 7 f105o7 false) .ret)))
def f105n : List (Nat × RAnn) := [(0, f105a0), (1, f105a1), (2, f105a2), (3, f105a3), (4, f105a4), (5, f105a5), (6, f105a6), (7, f105a7)]
noncomputable def f100o0 : Array Oper := cO (cL (cB f100))
def f100a0 : RAnn := ⟨[4], []⟩
noncomputable def f100o1 : Array Oper := cO (cL (cR (cB f100)))
def f100a1 : RAnn := ⟨[0, 1, 5, 6, 7, 8], []⟩
def f100c : Code := (.seq (.region 0 f100o0 false) (.seq (.region 1 f100o1 false) .ret))
def f100n : List (Nat × RAnn) := [(0, f100a0), (1, f100a1)]
noncomputable def f101o0 : Array Oper := cO (cL (cB f101))
def f101a0 : RAnn := ⟨[0, 3], []⟩
noncomputable def f101o1 : Array Oper := cO (cL (cR (cB f101)))
def f101a1 : RAnn := ⟨[1, 2, 4, 5, 6, 7, 8], []⟩
def f101c : Code := (.seq (.region 0 f101o0 false) (.seq (.region 1 f101o1 false) .ret))
def f101n : List (Nat × RAnn) := [(0, f101a0), (1, f101a1)]
noncomputable def f89o0 : Array Oper := cO (cL (cB f89))
def f89a0 : RAnn := ⟨[4], []⟩
noncomputable def f89o1 : Array Oper := cO (cL (cL (cR (cB f89))))
def f89a1 : RAnn := ⟨[], []⟩
noncomputable def f89o2 : Array Oper := cO (cL (cL (cL (cR (cL (cR (cB f89)))))))
def f89a2 : RAnn := ⟨[], []⟩
noncomputable def f89o3 : Array Oper := cO (cL (cL (cL (cR (cR (cL (cL (cR (cL (cR (cB f89)))))))))))
def f89a3 : RAnn := ⟨[11, 12, 13, 14], []⟩
noncomputable def f89o4 : Array Oper := cO (cL (cL (cR (cL (cL (cR (cR (cL (cL (cR (cL (cR (cB f89)))))))))))))
def f89a4 : RAnn := ⟨[5, 15, 16, 17, 18, 19, 20, 21, 22, 23, 24, 25, 26, 27, 28, 29, 30, 31, 32, 33, 34, 35, 36, 37, 38, 39, 40, 41, 42], []⟩
noncomputable def f89o5 : Array Oper := cO (cL (cL (cR (cL (cR (cL (cL (cR (cR (cL (cL (cR (cL (cR (cB f89)))))))))))))))
def f89a5 : RAnn := ⟨[0, 1, 6, 8, 9, 10, 43], []⟩
noncomputable def f89o6 : Array Oper := cO (cL (cR (cR (cL (cL (cR (cR (cL (cL (cR (cL (cR (cB f89)))))))))))))
def f89a6 : RAnn := ⟨[43, 44, 45, 46, 47, 48, 49], []⟩
noncomputable def f89o7 : Array Oper := cO (cL (cR (cR (cR (cL (cL (cR (cR (cL (cL (cR (cL (cR (cB f89))))))))))))))
def f89a7 : RAnn := ⟨[6, 7, 50, 51, 52, 53, 54, 55, 56, 57, 58, 59, 60, 61, 62, 63, 64, 65, 66, 67], []⟩
noncomputable def f89o8 : Array Oper := cO (cL (cL (cR (cR (cR (cR (cL (cL (cR (cR (cL (cL (cR (cL (cR (cB f89))))))))))))))))
def f89a8 : RAnn := ⟨[0, 1, 8, 9, 10, 68], []⟩
noncomputable def f89o9 : Array Oper := cO (cR (cR (cR (cL (cL (cR (cL (cR (cB f89)))))))))
def f89a9 : RAnn := ⟨[68, 69], []⟩
noncomputable def f89o10 : Array Oper := cO (cL (cR (cR (cB f89))))
def f89a10 : RAnn := ⟨[0, 1, 8, 9, 10, 11, 70, 71, 72], []⟩
def f89b0 : Code := (.seq (.region 2 f89o2 false) (.seq (.cond (.tmp 11) .skip (.exit 0)) (.seq (.block 1 (.seq (.region 3 f89o3 false) (.seq (.seq (.region 4 f89o4 false) (.cond (.tmp 43) (.seq (.region 5 f89o5 false) .ret) .skip)) (.seq (.region 6 f89o6 false) (.seq (.region 7 f89o7 false) (.cond (.tmp 68) (.seq (.region 8 f89o8 false) .ret) .skip)))))) (.region 9 f89o9 false))))
def f89c : Code := (.seq (.region 0 f89o0 false) (.seq (.seq (.region 1 f89o1 false) (.block 0 (.loop f89b0))) (.seq (.region 10 f89o10 false) .ret)))
def f89n : List (Nat × RAnn) := [(0, f89a0), (1, f89a1), (2, f89a2), (3, f89a3), (4, f89a4), (5, f89a5), (6, f89a6), (7, f89a7), (8, f89a8), (9, f89a9), (10, f89a10)]
noncomputable def f79o0 : Array Oper := cO (cL (cB f79))
def f79a0 : RAnn := ⟨[0, 2], []⟩
noncomputable def f79o1 : Array Oper := cO (cL (cR (cB f79)))
def f79a1 : RAnn := ⟨[1, 3, 4, 5, 6, 7, 8, 9, 10, 11, 12, 13, 14, 15, 16, 17, 18, 19, 20, 21, 22, 23, 24, 25, 26, 27], []⟩
def f79c : Code := (.seq (.region 0 f79o0 false) (.seq (.region 1 f79o1 false) .ret))
def f79n : List (Nat × RAnn) := [(0, f79a0), (1, f79a1)]
noncomputable def f90o0 : Array Oper := cO (cL (cB f90))
def f90a0 : RAnn := ⟨[4], []⟩
noncomputable def f90o1 : Array Oper := cO (cL (cL (cR (cB f90))))
def f90a1 : RAnn := ⟨[6], []⟩
noncomputable def f90o2 : Array Oper := cO (cL (cL (cL (cR (cL (cR (cB f90)))))))
def f90a2 : RAnn := ⟨[], []⟩
noncomputable def f90o3 : Array Oper := cO (cL (cL (cL (cR (cR (cL (cL (cR (cL (cR (cB f90)))))))))))
def f90a3 : RAnn := ⟨[9, 10], []⟩
noncomputable def f90o4 : Array Oper := cO (cL (cR (cL (cL (cR (cR (cL (cL (cR (cL (cR (cB f90))))))))))))
def f90a4 : RAnn := ⟨[11, 12, 13, 14, 15], []⟩
noncomputable def f90o5 : Array Oper := cO (cL (cL (cR (cR (cL (cL (cR (cR (cL (cL (cR (cL (cR (cB f90))))))))))))))
def f90a5 : RAnn := ⟨[0, 1, 5, 7, 8, 16, 17], []⟩
noncomputable def f90o6 : Array Oper := cO (cR (cR (cR (cL (cL (cR (cL (cR (cB f90)))))))))
def f90a6 : RAnn := ⟨[5, 16, 18], []⟩
noncomputable def f90o7 : Array Oper := cO (cL (cR (cR (cB f90))))
def f90a7 : RAnn := ⟨[0, 1, 7, 8, 9], []⟩
def f90b0 : Code := (.seq (.region 2 f90o2 false) (.seq (.cond (.tmp 9) .skip (.exit 0)) (.seq (.block 1 (.seq (.region 3 f90o3 false) (.seq (.region 4 f90o4 false) (.cond (.tmp 16) (.seq (.region 5 f90o5 false) .ret) .skip)))) (.region 6 f90o6 false))))
def f90c : Code := (.seq (.region 0 f90o0 false) (.seq (.seq (.region 1 f90o1 false) (.block 0 (.loop f90b0))) (.seq (.region 7 f90o7 false) .ret)))
def f90n : List (Nat × RAnn) := [(0, f90a0), (1, f90a1), (2, f90a2), (3, f90a3), (4, f90a4), (5, f90a5), (6, f90a6), (7, f90a7)]
noncomputable def f80o0 : Array Oper := cO (cL (cB f80))
def f80a0 : RAnn := ⟨[4], []⟩
noncomputable def f80o1 : Array Oper := cO (cL (cR (cB f80)))
def f80a1 : RAnn := ⟨[0, 1, 5, 6, 7, 8], []⟩
def f80c : Code := (.seq (.region 0 f80o0 false) (.seq (.region 1 f80o1 false) .ret))
def f80n : List (Nat × RAnn) := [(0, f80a0), (1, f80a1)]
noncomputable def f81o0 : Array Oper := cO (cL (cB f81))
def f81a0 : RAnn := ⟨[3], []⟩
noncomputable def f81o1 : Array Oper := cO (cL (cR (cB f81)))
def f81a1 : RAnn := ⟨[0, 1, 4, 5, 6, 7, 8, 9, 10, 11, 12], []⟩
def f81c : Code := (.seq (.region 0 f81o0 false) (.seq (.region 1 f81o1 false) .ret))
def f81n : List (Nat × RAnn) := [(0, f81a0), (1, f81a1)]
noncomputable def f73o0 : Array Oper := cO (cL (cB f73))
def f73a0 : RAnn := ⟨[0, 4], []⟩
noncomputable def f73o1 : Array Oper := cO (cL (cL (cL (cR (cB f73)))))
def f73a1 : RAnn := ⟨[6, 7, 8], []⟩
noncomputable def f73o2 : Array Oper := cO (cL (cL (cR (cL (cL (cR (cB f73)))))))
def f73a2 : RAnn := ⟨[1, 2, 5], []⟩
noncomputable def f73o3 : Array Oper := cO (cL (cR (cR (cL (cL (cR (cB f73)))))))
def f73a3 : RAnn := ⟨[1, 2, 5, 10, 11, 12], []⟩
noncomputable def f73o4 : Array Oper := cO (cL (cL (cR (cR (cR (cL (cL (cR (cB f73)))))))))
def f73a4 : RAnn := ⟨[9], []⟩
noncomputable def f73o5 : Array Oper := cO (cL (cR (cR (cB f73))))
def f73a5 : RAnn := ⟨[9], []⟩
def f73c : Code := (.seq (.region 0 f73o0 false) (.seq (.block 0 (.seq (.region 1 f73o1 false) (.cond (.tmp 5) (.seq (.region 2 f73o2 false) .ret) (.seq (.region 3 f73o3 false) (.cond (.tmp 9) (.seq (.region 4 f73o4 false) .ret) .skip))))) (.seq (.region 5 f73o5 false) .ret)))
def f73n : List (Nat × RAnn) := [(0, f73a0), (1, f73a1), (2, f73a2), (3, f73a3), (4, f73a4), (5, f73a5)]
noncomputable def f74o0 : Array Oper := cO (cL (cB f74))
def f74a0 : RAnn := ⟨[0, 4], []⟩
noncomputable def f74o1 : Array Oper := cO (cL (cR (cB f74)))
def f74a1 : RAnn := ⟨[], [(0, { site := true })]⟩
noncomputable def f74o2 : Array Oper := cO (cL (cL (cL (cL (cL (cR (cR (cB f74))))))))
def f74a2 : RAnn := ⟨[6], []⟩
noncomputable def f74o3 : Array Oper := cO (cR (cR (cL (cL (cL (cR (cR (cB f74))))))))
def f74a3 : RAnn := ⟨[8, 9, 10, 11, 12, 13], []⟩
noncomputable def f74o4 : Array Oper := cO (cL (cL (cR (cL (cL (cL (cR (cR (cB f74)))))))))
def f74a4 : RAnn := ⟨[7, 14, 15, 16, 17], []⟩
noncomputable def f74o5 : Array Oper := cO (cL (cR (cR (cR (cB f74)))))
def f74a5 : RAnn := ⟨[1, 2, 7, 18, 19], [(1, { eff := true })]⟩
noncomputable def f74o6 : Array Oper := cO (cL (cR (cR (cR (cR (cB f74))))))
def f74a6 : RAnn := ⟨[5, 20], [(1, { close := true })]⟩
def f74b0 : Code := (.seq (.seq (.region 2 f74o2 false) (.cond (.tmp 7) .skip (.exit 0))) (.seq (.block 1 (.region 4 f74o4 false)) (.region 3 f74o3 false)))
def f74c : Code := (.seq (.region 0 f74o0 false) (.seq (.region 1 f74o1 false) (.seq (.block 0 (.loop f74b0)) (.seq (.region 5 f74o5 false) (.seq (.region 6 f74o6 false) .ret)))))
def f74n : List (Nat × RAnn) := [(0, f74a0), (1, f74a1), (2, f74a2), (3, f74a3), (4, f74a4), (5, f74a5), (6, f74a6)]
noncomputable def f57o0 : Array Oper := cO (cL (cB f57))
def f57a0 : RAnn := ⟨[0, 4, 5], []⟩
noncomputable def f57o1 : Array Oper := cO (cL (cL (cR (cB f57))))
def f57a1 : RAnn := ⟨[7, 8, 9, 10], []⟩
noncomputable def f57o2 : Array Oper := cO (cL (cR (cL (cR (cB f57)))))
def f57a2 : RAnn := ⟨[11], []⟩
noncomputable def f57o3 : Array Oper := cO (cL (cL (cR (cR (cL (cR (cB f57)))))))
def f57a3 : RAnn := ⟨[1, 2, 6, 12, 13], []⟩
noncomputable def f57o4 : Array Oper := cO (cL (cR (cR (cB f57))))
def f57a4 : RAnn := ⟨[1, 2, 6, 12, 14, 15, 16], []⟩
def f57c : Code := (.seq (.region 0 f57o0 false) (.seq (.seq (.region 1 f57o1 false) (.seq (.region 2 f57o2 false) (.cond (.tmp 12) (.seq (.region 3 f57o3 false) .ret) .skip))) (.seq (.region 4 f57o4 false) .ret)))
def f57n : List (Nat × RAnn) := [(0, f57a0), (1, f57a1), (2, f57a2), (3, f57a3), (4, f57a4)]
noncomputable def f40o0 : Array Oper := cO (cL (cB f40))
def f40a0 : RAnn := ⟨[0, 4, 5], []⟩
noncomputable def f40o1 : Array Oper := cO (cL (cR (cB f40)))
def f40a1 : RAnn := ⟨[1, 2, 8, 9, 10, 11, 12, 13], []⟩
noncomputable def f40o2 : Array Oper := cO (cL (cR (cR (cB f40))))
def f40a2 : RAnn := ⟨[6, 7, 14, 15, 16], []⟩
def f40c : Code := (.seq (.region 0 f40o0 false) (.seq (.region 1 f40o1 false) (.seq (.region 2 f40o2 false) .ret)))
def f40n : List (Nat × RAnn) := [(0, f40a0), (1, f40a1), (2, f40a2)]
noncomputable def f21o0 : Array Oper := cO (cL (cB f21))
def f21a0 : RAnn := ⟨[0, 4], []⟩
noncomputable def f21o1 : Array Oper := cO (cL (cR (cB f21)))
def f21a1 : RAnn := ⟨[1, 2, 5, 7, 8, 9, 10, 11, 12], []⟩
noncomputable def f21o2 : Array Oper := cO (cL (cR (cR (cB f21))))
def f21a2 : RAnn := ⟨[6, 13], []⟩
def f21c : Code := (.seq (.region 0 f21o0 false) (.seq (.region 1 f21o1 false) (.seq (.region 2 f21o2 false) .ret)))
def f21n : List (Nat × RAnn) := [(0, f21a0), (1, f21a1), (2, f21a2)]
noncomputable def f50o0 : Array Oper := cO (cL (cB f50))
def f50a0 : RAnn := ⟨[4], []⟩
noncomputable def f50o1 : Array Oper := cO (cL (cL (cR (cB f50))))
def f50a1 : RAnn := ⟨[6], []⟩
noncomputable def f50o2 : Array Oper := cO (cL (cL (cL (cR (cL (cR (cB f50)))))))
def f50a2 : RAnn := ⟨[], []⟩
noncomputable def f50o3 : Array Oper := cO (cL (cL (cL (cR (cR (cL (cL (cR (cL (cR (cB f50)))))))))))
def f50a3 : RAnn := ⟨[9, 10], []⟩
noncomputable def f50o4 : Array Oper := cO (cL (cR (cL (cL (cR (cR (cL (cL (cR (cL (cR (cB f50))))))))))))
def f50a4 : RAnn := ⟨[11, 12, 13, 14, 15], []⟩
noncomputable def f50o5 : Array Oper := cO (cL (cL (cR (cR (cL (cL (cR (cR (cL (cL (cR (cL (cR (cB f50))))))))))))))
def f50a5 : RAnn := ⟨[0, 1, 5, 7, 8, 16, 17], []⟩
noncomputable def f50o6 : Array Oper := cO (cR (cR (cR (cL (cL (cR (cL (cR (cB f50)))))))))
def f50a6 : RAnn := ⟨[5, 16, 18], []⟩
noncomputable def f50o7 : Array Oper := cO (cL (cR (cR (cB f50))))
def f50a7 : RAnn := ⟨[0, 1, 7, 8, 9], []⟩
def f50b0 : Code := (.seq (.region 2 f50o2 false) (.seq (.cond (.tmp 9) .skip (.exit 0)) (.seq (.block 1 (.seq (.region 3 f50o3 false) (.seq (.region 4 f50o4 false) (.cond (.tmp 16) (.seq (.region 5 f50o5 false) .ret) .skip)))) (.region 6 f50o6 false))))
def f50c : Code := (.seq (.region 0 f50o0 false) (.seq (.seq (.region 1 f50o1 false) (.block 0 (.loop f50b0))) (.seq (.region 7 f50o7 false) .ret)))
def f50n : List (Nat × RAnn) := [(0, f50a0), (1, f50a1), (2, f50a2), (3, f50a3), (4, f50a4), (5, f50a5), (6, f50a6), (7, f50a7)]
noncomputable def f29o0 : Array Oper := cO (cL (cB f29))
def f29a0 : RAnn := ⟨[4], []⟩
noncomputable def f29o1 : Array Oper := cO (cL (cR (cB f29)))
def f29a1 : RAnn := ⟨[0, 1, 5, 6, 7, 8], []⟩
def f29c : Code := (.seq (.region 0 f29o0 false) (.seq (.region 1 f29o1 false) .ret))
def f29n : List (Nat × RAnn) := [(0, f29a0), (1, f29a1)]
noncomputable def f64o0 : Array Oper := cO (cL (cB f64))
def f64a0 : RAnn := ⟨[4], []⟩
noncomputable def f64o1 : Array Oper := cO (cL (cL (cR (cB f64))))
def f64a1 : RAnn := ⟨[6], []⟩
noncomputable def f64o2 : Array Oper := cO (cL (cL (cL (cR (cL (cR (cB f64)))))))
def f64a2 : RAnn := ⟨[], []⟩
noncomputable def f64o3 : Array Oper := cO (cL (cL (cL (cR (cR (cL (cL (cR (cL (cR (cB f64)))))))))))
def f64a3 : RAnn := ⟨[9, 10], []⟩
noncomputable def f64o4 : Array Oper := cO (cL (cR (cL (cL (cR (cR (cL (cL (cR (cL (cR (cB f64))))))))))))
def f64a4 : RAnn := ⟨[11, 12, 13, 14, 15], []⟩
noncomputable def f64o5 : Array Oper := cO (cL (cL (cR (cR (cL (cL (cR (cR (cL (cL (cR (cL (cR (cB f64))))))))))))))
def f64a5 : RAnn := ⟨[0, 1, 5, 7, 8, 16, 17], []⟩
noncomputable def f64o6 : Array Oper := cO (cR (cR (cR (cL (cL (cR (cL (cR (cB f64)))))))))
def f64a6 : RAnn := ⟨[5, 16, 18], []⟩
noncomputable def f64o7 : Array Oper := cO (cL (cR (cR (cB f64))))
def f64a7 : RAnn := ⟨[0, 1, 7, 8, 9], []⟩
def f64b0 : Code := (.seq (.region 2 f64o2 false) (.seq (.cond (.tmp 9) .skip (.exit 0)) (.seq (.block 1 (.seq (.region 3 f64o3 false) (.seq (.region 4 f64o4 false) (.cond (.tmp 16) (.seq (.region 5 f64o5 false) .ret) .skip)))) (.region 6 f64o6 false))))
def f64c : Code := (.seq (.region 0 f64o0 false) (.seq (.seq (.region 1 f64o1 false) (.block 0 (.loop f64b0))) (.seq (.region 7 f64o7 false) .ret)))
def f64n : List (Nat × RAnn) := [(0, f64a0), (1, f64a1), (2, f64a2), (3, f64a3), (4, f64a4), (5, f64a5), (6, f64a6), (7, f64a7)]
noncomputable def f43o0 : Array Oper := cO (cL (cB f43))
def f43a0 : RAnn := ⟨[4], []⟩
noncomputable def f43o1 : Array Oper := cO (cL (cR (cB f43)))
def f43a1 : RAnn := ⟨[0, 1, 5, 6, 7, 8], []⟩
def f43c : Code := (.seq (.region 0 f43o0 false) (.seq (.region 1 f43o1 false) .ret))
def f43n : List (Nat × RAnn) := [(0, f43a0), (1, f43a1)]
noncomputable def f65o0 : Array Oper := cO (cL (cB f65))
def f65a0 : RAnn := ⟨[4], []⟩
noncomputable def f65o1 : Array Oper := cO (cL (cL (cR (cB f65))))
def f65a1 : RAnn := ⟨[6], []⟩
noncomputable def f65o2 : Array Oper := cO (cL (cL (cL (cR (cL (cR (cB f65)))))))
def f65a2 : RAnn := ⟨[], []⟩
noncomputable def f65o3 : Array Oper := cO (cL (cL (cL (cR (cR (cL (cL (cR (cL (cR (cB f65)))))))))))
def f65a3 : RAnn := ⟨[9, 10], []⟩
noncomputable def f65o4 : Array Oper := cO (cL (cR (cL (cL (cR (cR (cL (cL (cR (cL (cR (cB f65))))))))))))
def f65a4 : RAnn := ⟨[11, 12, 13, 14, 15], []⟩
noncomputable def f65o5 : Array Oper := cO (cL (cL (cR (cR (cL (cL (cR (cR (cL (cL (cR (cL (cR (cB f65))))))))))))))
def f65a5 : RAnn := ⟨[0, 1, 5, 7, 8, 16, 17], []⟩
noncomputable def f65o6 : Array Oper := cO (cR (cR (cR (cL (cL (cR (cL (cR (cB f65)))))))))
def f65a6 : RAnn := ⟨[5, 16, 18], []⟩
noncomputable def f65o7 : Array Oper := cO (cL (cR (cR (cB f65))))
def f65a7 : RAnn := ⟨[0, 1, 7, 8, 9], []⟩
def f65b0 : Code := (.seq (.region 2 f65o2 false) (.seq (.cond (.tmp 9) .skip (.exit 0)) (.seq (.block 1 (.seq (.region 3 f65o3 false) (.seq (.region 4 f65o4 false) (.cond (.tmp 16) (.seq (.region 5 f65o5 false) .ret) .skip)))) (.region 6 f65o6 false))))
def f65c : Code := (.seq (.region 0 f65o0 false) (.seq (.seq (.region 1 f65o1 false) (.block 0 (.loop f65b0))) (.seq (.region 7 f65o7 false) .ret)))
def f65n : List (Nat × RAnn) := [(0, f65a0), (1, f65a1), (2, f65a2), (3, f65a3), (4, f65a4), (5, f65a5), (6, f65a6), (7, f65a7)]
noncomputable def f45o0 : Array Oper := cO (cL (cB f45))
def f45a0 : RAnn := ⟨[4], []⟩
noncomputable def f45o1 : Array Oper := cO (cL (cR (cB f45)))
def f45a1 : RAnn := ⟨[0, 1, 5, 6, 7, 8], []⟩
def f45c : Code := (.seq (.region 0 f45o0 false) (.seq (.region 1 f45o1 false) .ret))
def f45n : List (Nat × RAnn) := [(0, f45a0), (1, f45a1)]
noncomputable def f63o0 : Array Oper := cO (cL (cB f63))
def f63a0 : RAnn := ⟨[0, 3], []⟩
noncomputable def f63o1 : Array Oper := cO (cL (cR (cB f63)))
def f63a1 : RAnn := ⟨[1, 2, 4, 5, 6, 7], []⟩
def f63c : Code := (.seq (.region 0 f63o0 false) (.seq (.region 1 f63o1 false) .ret))
def f63n : List (Nat × RAnn) := [(0, f63a0), (1, f63a1)]
noncomputable def f42o0 : Array Oper := cO (cL (cB f42))
def f42a0 : RAnn := ⟨[0, 1, 4, 5], []⟩
noncomputable def f42o1 : Array Oper := cO (cL (cR (cB f42)))
def f42a1 : RAnn := ⟨[2, 3, 7, 8, 9, 10], []⟩
noncomputable def f42o2 : Array Oper := cO (cL (cR (cR (cB f42))))
def f42a2 : RAnn := ⟨[6, 11, 12, 13], []⟩
def f42c : Code := (.seq (.region 0 f42o0 false) (.seq (.region 1 f42o1 false) (.seq (.region 2 f42o2 false) .ret)))
def f42n : List (Nat × RAnn) := [(0, f42a0), (1, f42a1), (2, f42a2)]
noncomputable def f47o0 : Array Oper := cO (cL (cB f47))
def f47a0 : RAnn := ⟨[0, 1, 4], []⟩
noncomputable def f47o1 : Array Oper := cO (cL (cR (cB f47)))
def f47a1 : RAnn := ⟨[7, 8, 9, 10, 11, 12, 13], []⟩
noncomputable def f47o2 : Array Oper := cO (cL (cR (cR (cB f47))))
def f47a2 : RAnn := ⟨[2, 3, 5, 6, 14, 15, 16, 17, 18, 19, 20, 21, 22, 23, 24, 25, 26, 27, 28, 29, 30, 31, 32, 33, 34, 35, 36], []⟩
def f47c : Code := (.seq (.region 0 f47o0 false) (.seq (.region 1 f47o1 false) (.seq (.region 2 f47o2 true) .ret)))
def f47n : List (Nat × RAnn) := [(0, f47a0), (1, f47a1), (2, f47a2)]
noncomputable def f46o0 : Array Oper := cO (cL (cB f46))
def f46a0 : RAnn := ⟨[0, 3], []⟩
noncomputable def f46o1 : Array Oper := cO (cL (cR (cB f46)))
def f46a1 : RAnn := ⟨[1, 2, 4, 5, 6, 7], []⟩
def f46c : Code := (.seq (.region 0 f46o0 false) (.seq (.region 1 f46o1 false) .ret))
def f46n : List (Nat × RAnn) := [(0, f46a0), (1, f46a1)]
noncomputable def f44o0 : Array Oper := cO (cL (cB f44))
def f44a0 : RAnn := ⟨[3], []⟩
noncomputable def f44o1 : Array Oper := cO (cL (cR (cB f44)))
def f44a1 : RAnn := ⟨[0, 1, 4, 5, 6, 7, 8, 9, 10, 11, 12, 13, 14, 15, 16], []⟩
def f44c : Code := (.seq (.region 0 f44o0 false) (.seq (.region 1 f44o1 false) .ret))
def f44n : List (Nat × RAnn) := [(0, f44a0), (1, f44a1)]
noncomputable def f23o0 : Array Oper := cO (cL (cB f23))
def f23a0 : RAnn := ⟨[0, 4], []⟩
noncomputable def f23o1 : Array Oper := cO (cL (cR (cB f23)))
def f23a1 : RAnn := ⟨[1, 2, 5, 6, 7, 8, 9, 10, 11, 12, 13], []⟩
def f23c : Code := (.seq (.region 0 f23o0 false) (.seq (.region 1 f23o1 false) .ret))
def f23n : List (Nat × RAnn) := [(0, f23a0), (1, f23a1)]
noncomputable def f30o0 : Array Oper := cO (cL (cB f30))
def f30a0 : RAnn := ⟨[3], []⟩
noncomputable def f30o1 : Array Oper := cO (cL (cR (cB f30)))
def f30a1 : RAnn := ⟨[0, 1, 4, 5, 6, 7], []⟩
def f30c : Code := (.seq (.region 0 f30o0 false) (.seq (.region 1 f30o1 false) .ret))
def f30n : List (Nat × RAnn) := [(0, f30a0), (1, f30a1)]
noncomputable def f15o0 : Array Oper := cO (cL (cB f15))
def f15a0 : RAnn := ⟨[0, 7], []⟩
noncomputable def f15o1 : Array Oper := cO (cL (cL (cR (cB f15))))
def f15a1 : RAnn := ⟨[10, 11, 12], []⟩
noncomputable def f15o2 : Array Oper := cO (cL (cR (cL (cR (cB f15)))))
def f15a2 : RAnn := ⟨[13], []⟩
noncomputable def f15o3 : Array Oper := cO (cL (cL (cR (cR (cL (cR (cB f15)))))))
def f15a3 : RAnn := ⟨[1, 2, 3, 8, 14, 15, 16], []⟩
noncomputable def f15o4 : Array Oper := cO (cL (cR (cR (cB f15))))
def f15a4 : RAnn := ⟨[1, 3, 8, 14, 17, 18, 19, 20, 21], []⟩
noncomputable def f15o5 : Array Oper := cO (cL (cL (cR (cR (cR (cB f15))))))
def f15a5 : RAnn := ⟨[2, 22, 23], []⟩
noncomputable def f15o6 : Array Oper := cO (cL (cL (cR (cL (cR (cR (cR (cB f15))))))))
def f15a6 : RAnn := ⟨[9, 24, 25], []⟩
noncomputable def f15o7 : Array Oper := cO (cL (cR (cR (cR (cR (cB f15))))))
def f15a7 : RAnn := ⟨[9, 24, 26], []⟩
def f15c : Code := (.seq (.region 0 f15o0 false) (.seq (.seq (.region 1 f15o1 false) (.seq (.region 2 f15o2 false) (.cond (.tmp 14) (.seq (.region 3 f15o3 false) .ret) .skip))) (.seq (.region 4 f15o4 false) (.seq (.seq (.region 5 f15o5 false) (.cond (.tmp 24) (.seq (.region 6 f15o6 false) .ret) .skip)) (.seq (.region 7 f15o7 false) .ret)))))
def f15n : List (Nat × RAnn) := [(0, f15a0), (1, f15a1), (2, f15a2), (3, f15a3), (4, f15a4), (5, f15a5), (6, f15a6), (7, f15a7)]
noncomputable def f17o0 : Array Oper := cO (cL (cB f17))
def f17a0 : RAnn := ⟨[2], []⟩
noncomputable def f17o1 : Array Oper := cO (cL (cR (cB f17)))
def f17a1 : RAnn := ⟨[0, 3, 4, 5, 6], []⟩
def f17c : Code := (.seq (.region 0 f17o0 false) (.seq (.region 1 f17o1 false) .ret))
def f17n : List (Nat × RAnn) := [(0, f17a0), (1, f17a1)]
noncomputable def f7o0 : Array Oper := cO (cL (cB f7))
def f7a0 : RAnn := ⟨[0, 6, 7], []⟩
noncomputable def f7o1 : Array Oper := cO (cL (cL (cR (cB f7))))
def f7a1 : RAnn := ⟨[1, 3, 8, 16, 17, 18, 19, 20, 21, 22, 23], []⟩
noncomputable def f7o2 : Array Oper := cO (cL (cR (cL (cR (cB f7)))))
def f7a2 : RAnn := ⟨[24], []⟩
noncomputable def f7o3 : Array Oper := cO (cL (cL (cR (cR (cL (cR (cB f7)))))))
def f7a3 : RAnn := ⟨[2, 9, 25, 26], []⟩
noncomputable def f7o4 : Array Oper := cO (cL (cR (cR (cB f7))))
def f7a4 : RAnn := ⟨[9, 25], [(0, { keep := [0] })]⟩
noncomputable def f7o5 : Array Oper := cO (cL (cL (cR (cR (cR (cB f7))))))
def f7a5 : RAnn := ⟨[2], []⟩
noncomputable def f7o6 : Array Oper := cO (cL (cL (cL (cR (cL (cR (cR (cR (cB f7)))))))))
def f7a6 : RAnn := ⟨[], []⟩
noncomputable def f7o7 : Array Oper := cO (cL (cL (cL (cR (cR (cL (cL (cR (cL (cR (cR (cR (cB f7)))))))))))))
def f7a7 : RAnn := ⟨[30, 31, 32], []⟩
noncomputable def f7o8 : Array Oper := cO (cL (cR (cL (cL (cR (cR (cL (cL (cR (cL (cR (cR (cR (cB f7))))))))))))))
def f7a8 : RAnn := ⟨[], [(0, { site := true })]⟩
noncomputable def f7o9 : Array Oper := cO (cL (cL (cR (cR (cL (cL (cR (cR (cL (cL (cR (cL (cR (cR (cR (cB f7))))))))))))))))
def f7a9 : RAnn := ⟨[12], []⟩
noncomputable def f7o10 : Array Oper := cO (cL (cL (cL (cR (cL (cR (cR (cL (cL (cR (cR (cL (cL (cR (cL (cR (cR (cR (cB f7)))))))))))))))))))
def f7a10 : RAnn := ⟨[], []⟩
noncomputable def f7o11 : Array Oper := cO (cL (cL (cL (cR (cR (cL (cL (cR (cL (cR (cR (cL (cL (cR (cR (cL (cL (cR (cL (cR (cR (cR (cB f7)))))))))))))))))))))))
def f7a11 : RAnn := ⟨[36, 37, 38], []⟩
noncomputable def f7o12 : Array Oper := cO (cR (cL (cL (cR (cR (cL (cL (cR (cL (cR (cR (cL (cL (cR (cR (cL (cL (cR (cL (cR (cR (cR (cB f7)))))))))))))))))))))))
def f7a12 : RAnn := ⟨[15, 39, 40, 41, 42, 43, 44, 45, 46, 47, 48, 49, 50, 51, 52, 53, 54, 55, 56], [(18, { eff := true })]⟩
noncomputable def f7o13 : Array Oper := cO (cR (cR (cR (cL (cL (cR (cL (cR (cR (cL (cL (cR (cR (cL (cL (cR (cL (cR (cR (cR (cB f7)))))))))))))))))))))
def f7a13 : RAnn := ⟨[57], []⟩
noncomputable def f7o14 : Array Oper := cO (cR (cR (cR (cL (cL (cR (cR (cL (cL (cR (cL (cR (cR (cR (cB f7)))))))))))))))
def f7a14 : RAnn := ⟨[13, 33, 34, 35, 36, 58, 59, 60, 61, 62], [(0, { tk := [10], keep := [0] }), (4, { tk := [58], keep := [0] }), (5, { tk := [62], keep := [0] })]⟩
noncomputable def f7o15 : Array Oper := cO (cR (cR (cR (cL (cL (cR (cL (cR (cR (cR (cB f7)))))))))))
def f7a15 : RAnn := ⟨[63], []⟩
noncomputable def f7o16 : Array Oper := cO (cL (cR (cR (cR (cR (cB f7))))))
def f7a16 : RAnn := ⟨[10, 27, 28, 29, 30, 64, 65], []⟩
def f7b0 : Code := (.seq (.region 10 f7o10 false) (.seq (.cond (.tmp 36) .skip (.exit 2)) (.seq (.block 3 (.seq (.region 11 f7o11 false) (.region 12 f7o12 true))) (.region 13 f7o13 false))))
def f7b1 : Code := (.seq (.region 6 f7o6 false) (.seq (.cond (.tmp 30) .skip (.exit 0)) (.seq (.block 1 (.seq (.region 7 f7o7 false) (.seq (.region 8 f7o8 false) (.seq (.seq (.region 9 f7o9 false) (.block 2 (.loop f7b0))) (.region 14 f7o14 false))))) (.region 15 f7o15 false))))
def f7c : Code := (.seq (.region 0 f7o0 false) (.seq (.seq (.region 1 f7o1 false) (.seq (.region 2 f7o2 false) (.cond (.tmp 25) (.seq (.region 3 f7o3 false) .ret) .skip))) (.seq (.region 4 f7o4 false) (.seq (.seq (.region 5 f7o5 false) (.block 0 (.loop f7b1))) (.seq (.region 16 f7o16 false) .ret)))))
def f7n : List (Nat × RAnn) := [(0, f7a0), (1, f7a1), (2, f7a2), (3, f7a3), (4, f7a4), (5, f7a5), (6, f7a6), (7, f7a7), (8, f7a8), (9, f7a9), (10, f7a10), (11, f7a11), (12, f7a12), (13, f7a13), (14, f7a14), (15, f7a15), (16, f7a16)]
noncomputable def f28o0 : Array Oper := cO (cL (cB f28))
def f28a0 : RAnn := ⟨[7], []⟩
noncomputable def f28o1 : Array Oper := cO (cL (cR (cB f28)))
def f28a1 : RAnn := ⟨[1, 10, 11], []⟩
noncomputable def f28o2 : Array Oper := cO (cL (cL (cR (cR (cB f28)))))
def f28a2 : RAnn := ⟨[2], []⟩
noncomputable def f28o3 : Array Oper := cO (cL (cL (cL (cR (cL (cR (cR (cB f28))))))))
def f28a3 : RAnn := ⟨[], []⟩
noncomputable def f28o4 : Array Oper := cO (cL (cL (cL (cR (cR (cL (cL (cR (cL (cR (cR (cB f28))))))))))))
def f28a4 : RAnn := ⟨[15, 16, 17], []⟩
noncomputable def f28o5 : Array Oper := cO (cL (cL (cR (cL (cL (cR (cR (cL (cL (cR (cL (cR (cR (cB f28))))))))))))))
def f28a5 : RAnn := ⟨[18, 19, 20], []⟩
noncomputable def f28o6 : Array Oper := cO (cL (cL (cR (cR (cL (cL (cR (cR (cL (cL (cR (cL (cR (cR (cB f28)))))))))))))))
def f28a6 : RAnn := ⟨[21, 22, 23, 24, 25, 26, 27, 28, 29, 30, 31, 32, 33], []⟩
noncomputable def f28o7 : Array Oper := cO (cL (cR (cL (cR (cR (cL (cL (cR (cR (cL (cL (cR (cL (cR (cR (cB f28))))))))))))))))
def f28a7 : RAnn := ⟨[34, 35, 36, 37, 38], []⟩
noncomputable def f28o8 : Array Oper := cO (cL (cR (cR (cR (cL (cL (cR (cR (cL (cL (cR (cL (cR (cR (cB f28)))))))))))))))
def f28a8 : RAnn := ⟨[34, 39, 40, 41, 42, 43, 44, 45, 46, 47, 48, 49, 50], []⟩
noncomputable def f28o9 : Array Oper := cO (cL (cR (cR (cR (cR (cL (cL (cR (cR (cL (cL (cR (cL (cR (cR (cB f28))))))))))))))))
def f28a9 : RAnn := ⟨[9, 51, 52, 53, 54, 55], []⟩
noncomputable def f28o10 : Array Oper := cO (cR (cR (cR (cL (cL (cR (cL (cR (cR (cB f28))))))))))
def f28a10 : RAnn := ⟨[9, 21, 51, 56], []⟩
noncomputable def f28o11 : Array Oper := cO (cL (cR (cR (cR (cB f28)))))
def f28a11 : RAnn := ⟨[0, 12, 13, 14, 15, 57, 58], []⟩
def f28b0 : Code := (.seq (.region 3 f28o3 false) (.seq (.cond (.tmp 15) .skip (.exit 0)) (.seq (.block 1 (.seq (.region 4 f28o4 false) (.seq (.seq (.region 5 f28o5 false) (.cond (.tmp 21) (.exit 1) .skip)) (.seq (.seq (.region 6 f28o6 false) (.cond (.tmp 34) (.region 7 f28o7 false) .skip)) (.seq (.region 8 f28o8 false) (.cond (.tmp 51) (.region 9 f28o9 false) .skip)))))) (.region 10 f28o10 false))))
def f28c : Code := (.seq (.region 0 f28o0 false) (.seq (.region 1 f28o1 false) (.seq (.seq (.region 2 f28o2 false) (.block 0 (.loop f28b0))) (.seq (.region 11 f28o11 false) .ret))))
def f28n : List (Nat × RAnn) := [(0, f28a0), (1, f28a1), (2, f28a2), (3, f28a3), (4, f28a4), (5, f28a5), (6, f28a6), (7, f28a7), (8, f28a8), (9, f28a9), (10, f28a10), (11, f28a11)]
noncomputable def f14o0 : Array Oper := cO (cL (cB f14))
def f14a0 : RAnn := ⟨[0, 8], []⟩
noncomputable def f14o1 : Array Oper := cO (cL (cR (cB f14)))
def f14a1 : RAnn := ⟨[1, 3, 16, 17, 18, 19, 20, 21, 22, 23], []⟩
noncomputable def f14o2 : Array Oper := cO (cL (cL (cL (cR (cR (cB f14))))))
def f14a2 : RAnn := ⟨[25, 26], []⟩
noncomputable def f14o3 : Array Oper := cO (cL (cL (cR (cL (cL (cR (cR (cB f14))))))))
def f14a3 : RAnn := ⟨[2, 9, 10, 24, 27], []⟩
noncomputable def f14o4 : Array Oper := cO (cL (cR (cR (cL (cL (cR (cR (cB f14))))))))
def f14a4 : RAnn := ⟨[10, 24, 29, 30, 31], []⟩
noncomputable def f14o5 : Array Oper := cO (cL (cL (cR (cR (cR (cL (cL (cR (cR (cB f14))))))))))
def f14a5 : RAnn := ⟨[2, 9, 28], []⟩
noncomputable def f14o6 : Array Oper := cO (cL (cR (cR (cR (cB f14)))))
def f14a6 : RAnn := ⟨[9, 28, 32, 33, 34, 35, 36, 37], []⟩
noncomputable def f14o7 : Array Oper := cO (cL (cL (cR (cR (cR (cR (cB f14)))))))
def f14a7 : RAnn := ⟨[], []⟩
noncomputable def f14o8 : Array Oper := cO (cL (cL (cL (cR (cL (cR (cR (cR (cR (cB f14))))))))))
def f14a8 : RAnn := ⟨[], []⟩
noncomputable def f14o9 : Array Oper := cO (cL (cL (cL (cR (cR (cL (cL (cR (cL (cR (cR (cR (cR (cB f14))))))))))))))
def f14a9 : RAnn := ⟨[41, 42, 43, 44], []⟩
noncomputable def f14o10 : Array Oper := cO (cL (cR (cL (cL (cR (cR (cL (cL (cR (cL (cR (cR (cR (cR (cB f14)))))))))))))))
def f14a10 : RAnn := ⟨[13, 45, 46, 47, 48, 49, 50, 51, 52, 53], []⟩
noncomputable def f14o11 : Array Oper := cO (cL (cL (cR (cR (cL (cL (cR (cR (cL (cL (cR (cL (cR (cR (cR (cR (cB f14)))))))))))))))))
def f14a11 : RAnn := ⟨[12, 54], []⟩
noncomputable def f14o12 : Array Oper := cO (cL (cR (cL (cR (cR (cL (cL (cR (cR (cL (cL (cR (cL (cR (cR (cR (cR (cB f14))))))))))))))))))
def f14a12 : RAnn := ⟨[55, 56, 57], []⟩
noncomputable def f14o13 : Array Oper := cO (cR (cR (cR (cL (cL (cR (cR (cL (cL (cR (cL (cR (cR (cR (cR (cB f14))))))))))))))))
def f14a13 : RAnn := ⟨[14, 15, 55, 58, 59, 60, 61, 62, 63], []⟩
noncomputable def f14o14 : Array Oper := cO (cR (cR (cR (cL (cL (cR (cL (cR (cR (cR (cR (cB f14))))))))))))
def f14a14 : RAnn := ⟨[64], []⟩
noncomputable def f14o15 : Array Oper := cO (cL (cL (cR (cR (cR (cR (cR (cB f14))))))))
def f14a15 : RAnn := ⟨[2, 38, 39, 40, 41, 65, 66], []⟩
noncomputable def f14o16 : Array Oper := cO (cL (cR (cL (cR (cR (cR (cR (cR (cB f14)))))))))
def f14a16 : RAnn := ⟨[11, 67, 68, 69, 70, 71, 72, 73, 74, 75], []⟩
noncomputable def f14o17 : Array Oper := cO (cL (cR (cR (cR (cR (cR (cR (cB f14))))))))
def f14a17 : RAnn := ⟨[11, 67, 76, 77], []⟩
def f14b0 : Code := (.seq (.region 8 f14o8 false) (.seq (.cond (.tmp 41) .skip (.exit 1)) (.seq (.block 2 (.seq (.region 9 f14o9 false) (.seq (.region 10 f14o10 false) (.seq (.seq (.region 11 f14o11 false) (.cond (.tmp 55) (.region 12 f14o12 false) .skip)) (.region 13 f14o13 false))))) (.region 14 f14o14 false))))
def f14c : Code := (.seq (.region 0 f14o0 false) (.seq (.region 1 f14o1 false) (.seq (.block 0 (.seq (.region 2 f14o2 false) (.cond (.tmp 24) (.seq (.region 3 f14o3 false) .ret) (.seq (.region 4 f14o4 false) (.cond (.tmp 28) (.seq (.region 5 f14o5 false) .ret) .skip))))) (.seq (.region 6 f14o6 false) (.seq (.seq (.region 7 f14o7 false) (.block 1 (.loop f14b0))) (.seq (.seq (.region 15 f14o15 false) (.cond (.tmp 67) (.region 16 f14o16 false) .skip)) (.seq (.region 17 f14o17 false) .ret)))))))
def f14n : List (Nat × RAnn) := [(0, f14a0), (1, f14a1), (2, f14a2), (3, f14a3), (4, f14a4), (5, f14a5), (6, f14a6), (7, f14a7), (8, f14a8), (9, f14a9), (10, f14a10), (11, f14a11), (12, f14a12), (13, f14a13), (14, f14a14), (15, f14a15), (16, f14a16), (17, f14a17)]
noncomputable def f6o0 : Array Oper := cO (cL (cB f6))
def f6a0 : RAnn := ⟨[0], []⟩
noncomputable def f6o1 : Array Oper := cO (cL (cR (cB f6)))
def f6a1 : RAnn := ⟨[7, 8, 9, 10], []⟩
noncomputable def f6o2 : Array Oper := cO (cL (cR (cR (cB f6))))
def f6a2 : RAnn := ⟨[11, 12, 13, 14, 15, 16], []⟩
noncomputable def f6o3 : Array Oper := cO (cL (cR (cR (cR (cB f6)))))
def f6a3 : RAnn := ⟨[1, 17, 18, 19, 20, 21, 22, 23], []⟩
noncomputable def f6o4 : Array Oper := cO (cL (cR (cR (cR (cR (cB f6))))))
def f6a4 : RAnn := ⟨[2, 3, 4, 5, 6, 24, 25, 26, 27, 28, 29, 30, 31, 32, 33, 34, 35, 36, 37, 38, 39, 40, 41], []⟩
def f6c : Code := (.seq (.region 0 f6o0 false) (.seq (.region 1 f6o1 false) (.seq (.region 2 f6o2 false) (.seq (.region 3 f6o3 false) (.seq (.region 4 f6o4 false) .ret)))))
def f6n : List (Nat × RAnn) := [(0, f6a0), (1, f6a1), (2, f6a2), (3, f6a3), (4, f6a4)]
noncomputable def f66o0 : Array Oper := cO (cL (cB f66))
def f66a0 : RAnn := ⟨[2], []⟩
noncomputable def f66o1 : Array Oper := cO (cL (cL (cR (cB f66))))
def f66a1 : RAnn := ⟨[], []⟩
noncomputable def f66o2 : Array Oper := cO (cL (cL (cL (cL (cR (cL (cR (cB f66))))))))
def f66a2 : RAnn := ⟨[5, 6, 7], []⟩
noncomputable def f66o3 : Array Oper := cO (cR (cR (cL (cL (cR (cL (cR (cB f66))))))))
def f66a3 : RAnn := ⟨[9, 10, 38], []⟩
noncomputable def f66o4 : Array Oper := cO (cL (cL (cL (cR (cL (cL (cR (cL (cR (cB f66))))))))))
def f66a4 : RAnn := ⟨[8, 11, 12, 13, 14, 15, 16, 17, 18, 19, 20], []⟩
noncomputable def f66o5 : Array Oper := cO (cL (cR (cL (cL (cR (cL (cL (cR (cL (cR (cB f66)))))))))))
def f66a5 : RAnn := ⟨[4, 21, 22, 23, 24, 25, 26, 27, 28, 29, 30, 31, 32, 33, 34, 35, 36, 37], []⟩
noncomputable def f66o6 : Array Oper := cO (cL (cL (cR (cR (cL (cL (cR (cL (cL (cR (cL (cR (cB f66)))))))))))))
def f66a6 : RAnn := ⟨[0, 3, 38], []⟩
noncomputable def f66o7 : Array Oper := cO (cL (cR (cR (cB f66))))
def f66a7 : RAnn := ⟨[0, 3, 8, 39, 40, 41, 42, 43, 44, 45, 46], []⟩
def f66b0 : Code := (.seq (.seq (.region 2 f66o2 false) (.cond (.tmp 8) .skip (.exit 0))) (.seq (.block 1 (.seq (.region 4 f66o4 false) (.seq (.region 5 f66o5 false) (.cond (.tmp 38) (.seq (.region 6 f66o6 false) .ret) .skip)))) (.region 3 f66o3 false)))
def f66c : Code := (.seq (.region 0 f66o0 false) (.seq (.seq (.region 1 f66o1 false) (.block 0 (.loop f66b0))) (.seq (.region 7 f66o7 false) .ret)))
def f66n : List (Nat × RAnn) := [(0, f66a0), (1, f66a1), (2, f66a2), (3, f66a3), (4, f66a4), (5, f66a5), (6, f66a6), (7, f66a7)]
noncomputable def f67o0 : Array Oper := cO (cL (cB f67))
def f67a0 : RAnn := ⟨[0, 2], []⟩
noncomputable def f67o1 : Array Oper := cO (cL (cL (cR (cB f67))))
def f67a1 : RAnn := ⟨[], []⟩
noncomputable def f67o2 : Array Oper := cO (cL (cL (cL (cL (cR (cL (cR (cB f67))))))))
def f67a2 : RAnn := ⟨[6, 7, 8, 9], []⟩
noncomputable def f67o3 : Array Oper := cO (cR (cR (cL (cL (cR (cL (cR (cB f67))))))))
def f67a3 : RAnn := ⟨[4, 5, 11, 12, 51], []⟩
noncomputable def f67o4 : Array Oper := cO (cL (cL (cL (cR (cL (cL (cR (cL (cR (cB f67))))))))))
def f67a4 : RAnn := ⟨[10, 13, 14, 15, 16, 17], []⟩
noncomputable def f67o5 : Array Oper := cO (cL (cL (cR (cL (cL (cR (cL (cL (cR (cL (cR (cB f67))))))))))))
def f67a5 : RAnn := ⟨[18, 19, 20, 21, 22, 23, 24, 25, 26, 27, 28, 29, 30, 31, 32, 33, 34, 35, 36, 37, 38, 39, 40, 41, 42, 43, 44, 45, 46, 47], []⟩
noncomputable def f67o6 : Array Oper := cO (cL (cL (cR (cL (cR (cL (cL (cR (cL (cL (cR (cL (cR (cB f67))))))))))))))
def f67a6 : RAnn := ⟨[1, 3, 4, 48], []⟩
noncomputable def f67o7 : Array Oper := cO (cL (cR (cR (cL (cL (cR (cL (cL (cR (cL (cR (cB f67))))))))))))
def f67a7 : RAnn := ⟨[48], []⟩
noncomputable def f67o8 : Array Oper := cO (cL (cL (cL (cL (cR (cR (cR (cL (cL (cR (cL (cL (cR (cL (cR (cB f67))))))))))))))))
def f67a8 : RAnn := ⟨[49, 50], []⟩
noncomputable def f67o9 : Array Oper := cO (cR (cR (cL (cL (cR (cR (cR (cL (cL (cR (cL (cL (cR (cL (cR (cB f67))))))))))))))))
def f67a9 : RAnn := ⟨[52, 53, 62], []⟩
noncomputable def f67o10 : Array Oper := cO (cL (cL (cL (cR (cL (cL (cR (cR (cR (cL (cL (cR (cL (cL (cR (cL (cR (cB f67))))))))))))))))))
def f67a10 : RAnn := ⟨[51, 54, 55, 56, 57, 58, 59, 60, 61], []⟩
noncomputable def f67o11 : Array Oper := cO (cL (cL (cR (cL (cL (cR (cL (cL (cR (cR (cR (cL (cL (cR (cL (cL (cR (cL (cR (cB f67))))))))))))))))))))
def f67a11 : RAnn := ⟨[1, 3, 4, 5, 62], []⟩
noncomputable def f67o12 : Array Oper := cO (cL (cL (cR (cR (cB f67)))))
def f67a12 : RAnn := ⟨[3, 10, 63, 64, 65, 66, 67, 68, 69, 70, 71, 72, 73, 74, 75, 76, 77, 78, 79, 80, 81], []⟩
noncomputable def f67o13 : Array Oper := cO (cL (cL (cR (cL (cR (cR (cB f67)))))))
def f67a13 : RAnn := ⟨[1, 82], []⟩
noncomputable def f67o14 : Array Oper := cO (cL (cR (cR (cR (cB f67)))))
def f67a14 : RAnn := ⟨[1, 82, 83, 84, 85, 86, 87, 88, 89, 90, 91, 92, 93, 94, 95, 96, 97, 98, 99, 100, 101, 102, 103, 104, 105, 106, 107, 108, 109, 110, 111], []⟩
def f67b0 : Code := (.seq (.seq (.region 8 f67o8 false) (.cond (.tmp 51) .skip (.exit 2))) (.seq (.block 3 (.seq (.region 10 f67o10 true) (.cond (.tmp 62) (.seq (.region 11 f67o11 false) .ret) .skip))) (.region 9 f67o9 false)))
def f67b1 : Code := (.seq (.seq (.region 2 f67o2 false) (.cond (.tmp 10) .skip (.exit 0))) (.seq (.block 1 (.seq (.region 4 f67o4 false) (.seq (.seq (.region 5 f67o5 false) (.cond (.tmp 48) (.seq (.region 6 f67o6 false) .ret) .skip)) (.seq (.region 7 f67o7 false) (.block 2 (.loop f67b0)))))) (.region 3 f67o3 false)))
def f67c : Code := (.seq (.region 0 f67o0 false) (.seq (.seq (.region 1 f67o1 false) (.block 0 (.loop f67b1))) (.seq (.seq (.region 12 f67o12 false) (.cond (.tmp 82) (.seq (.region 13 f67o13 false) .ret) .skip)) (.seq (.region 14 f67o14 true) .ret))))
def f67n : List (Nat × RAnn) := [(0, f67a0), (1, f67a1), (2, f67a2), (3, f67a3), (4, f67a4), (5, f67a5), (6, f67a6), (7, f67a7), (8, f67a8), (9, f67a9), (10, f67a10), (11, f67a11), (12, f67a12), (13, f67a13), (14, f67a14)]
noncomputable def f68o0 : Array Oper := cO (cL (cB f68))
def f68a0 : RAnn := ⟨[0, 6], []⟩
noncomputable def f68o1 : Array Oper := cO (cL (cL (cR (cB f68))))
def f68a1 : RAnn := ⟨[7, 8, 9, 10, 11, 12], []⟩
noncomputable def f68o2 : Array Oper := cO (cL (cL (cL (cL (cR (cL (cR (cB f68))))))))
def f68a2 : RAnn := ⟨[13], []⟩
noncomputable def f68o3 : Array Oper := cO (cR (cR (cL (cL (cR (cL (cR (cB f68))))))))
def f68a3 : RAnn := ⟨[15, 16, 17, 18, 19, 20, 23], []⟩
noncomputable def f68o4 : Array Oper := cO (cL (cL (cL (cR (cL (cL (cR (cL (cR (cB f68))))))))))
def f68a4 : RAnn := ⟨[14, 21, 22], []⟩
noncomputable def f68o5 : Array Oper := cO (cL (cL (cR (cL (cL (cR (cL (cL (cR (cL (cR (cB f68))))))))))))
def f68a5 : RAnn := ⟨[1, 2, 3, 23], []⟩
noncomputable def f68o6 : Array Oper := cO (cL (cR (cR (cB f68))))
def f68a6 : RAnn := ⟨[1, 2, 3, 14], []⟩
def f68b0 : Code := (.seq (.seq (.region 2 f68o2 false) (.cond (.tmp 14) .skip (.exit 0))) (.seq (.block 1 (.seq (.region 4 f68o4 false) (.cond (.tmp 23) (.seq (.region 5 f68o5 false) .ret) .skip))) (.region 3 f68o3 false)))
def f68c : Code := (.seq (.region 0 f68o0 false) (.seq (.seq (.region 1 f68o1 false) (.block 0 (.loop f68b0))) (.seq (.region 6 f68o6 false) .ret)))
def f68n : List (Nat × RAnn) := [(0, f68a0), (1, f68a1), (2, f68a2), (3, f68a3), (4, f68a4), (5, f68a5), (6, f68a6)]
noncomputable def f69o0 : Array Oper := cO (cL (cB f69))
def f69a0 : RAnn := ⟨[0, 4], []⟩
noncomputable def f69o1 : Array Oper := cO (cL (cR (cB f69)))
def f69a1 : RAnn := ⟨[], []⟩
noncomputable def f69o2 : Array Oper := cO (cL (cL (cL (cL (cL (cR (cR (cB f69))))))))
def f69a2 : RAnn := ⟨[6], []⟩
noncomputable def f69o3 : Array Oper := cO (cL (cL (cR (cL (cL (cL (cR (cR (cB f69)))))))))
def f69a3 : RAnn := ⟨[7, 8, 9, 10, 11], [(1, { keep := [0] }), (3, { tk := [9] })]⟩
noncomputable def f69o4 : Array Oper := cO (cR (cL (cR (cL (cL (cL (cR (cR (cB f69)))))))))
def f69a4 : RAnn := ⟨[12, 13, 14, 15, 16, 17], []⟩
noncomputable def f69o5 : Array Oper := cO (cL (cR (cR (cR (cB f69)))))
def f69a5 : RAnn := ⟨[1, 2, 5, 7, 18], []⟩
def f69b0 : Code := (.seq (.seq (.region 2 f69o2 false) (.cond (.tmp 7) .skip (.exit 0))) (.block 1 (.seq (.region 3 f69o3 false) (.region 4 f69o4 false))))
def f69c : Code := (.seq (.region 0 f69o0 false) (.seq (.region 1 f69o1 false) (.seq (.block 0 (.loop f69b0)) (.seq (.region 5 f69o5 false) .ret))))
def f69n : List (Nat × RAnn) := [(0, f69a0), (1, f69a1), (2, f69a2), (3, f69a3), (4, f69a4), (5, f69a5)]
noncomputable def f48o0 : Array Oper := cO (cL (cB f48))
def f48a0 : RAnn := ⟨[0, 2], []⟩
noncomputable def f48o1 : Array Oper := cO (cL (cL (cR (cB f48))))
def f48a1 : RAnn := ⟨[9, 10, 11, 12, 13, 14, 15, 16, 17, 18, 19, 20, 21, 22, 23, 24, 25, 26, 27, 28, 29, 30, 31, 32, 33, 34, 35, 36, 37, 38, 39], []⟩
noncomputable def f48o2 : Array Oper := cO (cL (cL (cR (cL (cR (cB f48))))))
def f48a2 : RAnn := ⟨[1, 40], []⟩
noncomputable def f48o3 : Array Oper := cO (cL (cL (cR (cR (cB f48)))))
def f48a3 : RAnn := ⟨[40], []⟩
noncomputable def f48o4 : Array Oper := cO (cL (cL (cL (cL (cR (cL (cR (cR (cB f48)))))))))
def f48a4 : RAnn := ⟨[41, 42, 43, 44], []⟩
noncomputable def f48o5 : Array Oper := cO (cR (cR (cL (cL (cR (cL (cR (cR (cB f48)))))))))
def f48a5 : RAnn := ⟨[46, 47, 117, 149], []⟩
noncomputable def f48o6 : Array Oper := cO (cL (cL (cL (cR (cL (cL (cR (cL (cR (cR (cB f48)))))))))))
def f48a6 : RAnn := ⟨[45, 48, 49, 50, 51, 52], []⟩
noncomputable def f48o7 : Array Oper := cO (cL (cL (cR (cL (cL (cR (cL (cL (cR (cL (cR (cR (cB f48)))))))))))))
def f48a7 : RAnn := ⟨[53, 54, 55, 56, 57, 58, 59, 60, 61, 62, 63, 64, 65, 66, 67, 68, 69, 70, 71, 72, 73, 74, 75, 76, 77], []⟩
noncomputable def f48o8 : Array Oper := cO (cL (cL (cR (cL (cR (cL (cL (cR (cL (cL (cR (cL (cR (cR (cB f48)))))))))))))))
def f48a8 : RAnn := ⟨[1, 3, 4, 78], []⟩
noncomputable def f48o9 : Array Oper := cO (cL (cL (cR (cR (cL (cL (cR (cL (cL (cR (cL (cR (cR (cB f48))))))))))))))
def f48a9 : RAnn := ⟨[78], []⟩
noncomputable def f48o10 : Array Oper := cO (cL (cL (cL (cL (cR (cL (cR (cR (cL (cL (cR (cL (cL (cR (cL (cR (cR (cB f48))))))))))))))))))
def f48a10 : RAnn := ⟨[79, 80], []⟩
noncomputable def f48o11 : Array Oper := cO (cR (cR (cL (cL (cR (cL (cR (cR (cL (cL (cR (cL (cL (cR (cL (cR (cR (cB f48))))))))))))))))))
def f48a11 : RAnn := ⟨[82, 83, 92], []⟩
noncomputable def f48o12 : Array Oper := cO (cL (cL (cL (cR (cL (cL (cR (cL (cR (cR (cL (cL (cR (cL (cL (cR (cL (cR (cR (cB f48))))))))))))))))))))
def f48a12 : RAnn := ⟨[81, 84, 85, 86, 87, 88, 89, 90, 91], []⟩
noncomputable def f48o13 : Array Oper := cO (cL (cL (cR (cL (cL (cR (cL (cL (cR (cL (cR (cR (cL (cL (cR (cL (cL (cR (cL (cR (cR (cB f48))))))))))))))))))))))
def f48a13 : RAnn := ⟨[1, 3, 4, 5, 92], []⟩
noncomputable def f48o14 : Array Oper := cO (cL (cL (cR (cR (cR (cL (cL (cR (cL (cL (cR (cL (cR (cR (cB f48)))))))))))))))
def f48a14 : RAnn := ⟨[5, 81, 93], []⟩
noncomputable def f48o15 : Array Oper := cO (cL (cL (cL (cR (cL (cR (cR (cR (cL (cL (cR (cL (cL (cR (cL (cR (cR (cB f48))))))))))))))))))
def f48a15 : RAnn := ⟨[4, 94, 95, 96, 97, 98, 99, 100, 101, 102, 103, 104, 105, 106, 107, 108, 109, 110, 111, 112, 113, 114, 115, 116], []⟩
noncomputable def f48o16 : Array Oper := cO (cL (cL (cR (cL (cL (cR (cL (cR (cR (cR (cL (cL (cR (cL (cL (cR (cL (cR (cR (cB f48))))))))))))))))))))
def f48a16 : RAnn := ⟨[1, 3, 117], []⟩
noncomputable def f48o17 : Array Oper := cO (cL (cR (cR (cR (cR (cL (cL (cR (cL (cL (cR (cL (cR (cR (cB f48)))))))))))))))
def f48a17 : RAnn := ⟨[4, 94, 118, 119, 120, 121, 122, 123, 124, 125, 126, 127, 128, 129, 130, 131, 132, 133, 134, 135, 136, 137, 138, 139, 140, 141, 142, 143, 144, 145, 146, 147, 148], []⟩
noncomputable def f48o18 : Array Oper := cO (cL (cL (cR (cR (cR (cR (cR (cL (cL (cR (cL (cL (cR (cL (cR (cR (cB f48)))))))))))))))))
def f48a18 : RAnn := ⟨[1, 3, 149], []⟩
noncomputable def f48o19 : Array Oper := cO (cL (cL (cR (cR (cR (cB f48))))))
def f48a19 : RAnn := ⟨[3, 45], []⟩
noncomputable def f48o20 : Array Oper := cO (cL (cL (cL (cL (cR (cL (cR (cR (cR (cB f48))))))))))
def f48a20 : RAnn := ⟨[150, 151, 152, 153], []⟩
noncomputable def f48o21 : Array Oper := cO (cR (cR (cL (cL (cR (cL (cR (cR (cR (cB f48))))))))))
def f48a21 : RAnn := ⟨[7, 8, 155, 156, 220], []⟩
noncomputable def f48o22 : Array Oper := cO (cL (cL (cL (cR (cL (cL (cR (cL (cR (cR (cR (cB f48))))))))))))
def f48a22 : RAnn := ⟨[154, 157, 158, 159, 160, 161], []⟩
noncomputable def f48o23 : Array Oper := cO (cL (cL (cR (cL (cL (cR (cL (cL (cR (cL (cR (cR (cR (cB f48))))))))))))))
def f48a23 : RAnn := ⟨[162, 163, 164, 165, 166, 167, 168, 169, 170, 171, 172, 173, 174, 175, 176, 177, 178, 179, 180, 181, 182, 183, 184, 185, 186, 187, 188, 189, 190, 191, 192, 193, 194, 195, 196, 197, 198, 199, 200, 201, 202, 203, 204, 205, 206, 207, 208, 209, 210, 211, 212, 213, 214, 215, 216], []⟩
noncomputable def f48o24 : Array Oper := cO (cL (cL (cR (cL (cR (cL (cL (cR (cL (cL (cR (cL (cR (cR (cR (cB f48))))))))))))))))
def f48a24 : RAnn := ⟨[1, 6, 7, 217], []⟩
noncomputable def f48o25 : Array Oper := cO (cL (cR (cR (cL (cL (cR (cL (cL (cR (cL (cR (cR (cR (cB f48))))))))))))))
def f48a25 : RAnn := ⟨[217], []⟩
noncomputable def f48o26 : Array Oper := cO (cL (cL (cL (cL (cR (cR (cR (cL (cL (cR (cL (cL (cR (cL (cR (cR (cR (cB f48))))))))))))))))))
def f48a26 : RAnn := ⟨[218, 219], []⟩
noncomputable def f48o27 : Array Oper := cO (cR (cR (cL (cL (cR (cR (cR (cL (cL (cR (cL (cL (cR (cL (cR (cR (cR (cB f48))))))))))))))))))
def f48a27 : RAnn := ⟨[221, 222, 231], []⟩
noncomputable def f48o28 : Array Oper := cO (cL (cL (cL (cR (cL (cL (cR (cR (cR (cL (cL (cR (cL (cL (cR (cL (cR (cR (cR (cB f48))))))))))))))))))))
def f48a28 : RAnn := ⟨[220, 223, 224, 225, 226, 227, 228, 229, 230], []⟩
noncomputable def f48o29 : Array Oper := cO (cL (cL (cR (cL (cL (cR (cL (cL (cR (cR (cR (cL (cL (cR (cL (cL (cR (cL (cR (cR (cR (cB f48))))))))))))))))))))))
def f48a29 : RAnn := ⟨[1, 6, 7, 8, 231], []⟩
noncomputable def f48o30 : Array Oper := cO (cL (cR (cR (cR (cR (cB f48))))))
def f48a30 : RAnn := ⟨[1, 6, 154], []⟩
def f48b0 : Code := (.seq (.seq (.region 10 f48o10 false) (.cond (.tmp 81) .skip (.exit 2))) (.seq (.block 3 (.seq (.region 12 f48o12 true) (.cond (.tmp 92) (.seq (.region 13 f48o13 false) .ret) .skip))) (.region 11 f48o11 false)))
def f48b1 : Code := (.seq (.seq (.region 4 f48o4 false) (.cond (.tmp 45) .skip (.exit 0))) (.seq (.block 1 (.seq (.region 6 f48o6 false) (.seq (.seq (.region 7 f48o7 false) (.cond (.tmp 78) (.seq (.region 8 f48o8 false) .ret) .skip)) (.seq (.seq (.region 9 f48o9 false) (.block 2 (.loop f48b0))) (.seq (.seq (.region 14 f48o14 false) (.cond (.tmp 94) (.seq (.seq (.region 15 f48o15 false) (.cond (.tmp 117) (.seq (.region 16 f48o16 false) .ret) .skip)) (.exit 1)) .skip)) (.seq (.region 17 f48o17 false) (.cond (.tmp 149) (.seq (.region 18 f48o18 false) .ret) .skip))))))) (.region 5 f48o5 false)))
def f48b2 : Code := (.seq (.seq (.region 26 f48o26 false) (.cond (.tmp 220) .skip (.exit 6))) (.seq (.block 7 (.seq (.region 28 f48o28 true) (.cond (.tmp 231) (.seq (.region 29 f48o29 false) .ret) .skip))) (.region 27 f48o27 false)))
def f48b3 : Code := (.seq (.seq (.region 20 f48o20 false) (.cond (.tmp 154) .skip (.exit 4))) (.seq (.block 5 (.seq (.region 22 f48o22 false) (.seq (.seq (.region 23 f48o23 true) (.cond (.tmp 217) (.seq (.region 24 f48o24 false) .ret) .skip)) (.seq (.region 25 f48o25 false) (.block 6 (.loop f48b2)))))) (.region 21 f48o21 false)))
def f48c : Code := (.seq (.region 0 f48o0 false) (.seq (.seq (.region 1 f48o1 false) (.cond (.tmp 40) (.seq (.region 2 f48o2 false) .ret) .skip)) (.seq (.seq (.region 3 f48o3 false) (.block 0 (.loop f48b1))) (.seq (.seq (.region 19 f48o19 false) (.block 4 (.loop f48b3))) (.seq (.region 30 f48o30 false) .ret)))))
def f48n : List (Nat × RAnn) := [(0, f48a0), (1, f48a1), (2, f48a2), (3, f48a3), (4, f48a4), (5, f48a5), (6, f48a6), (7, f48a7), (8, f48a8), (9, f48a9), (10, f48a10), (11, f48a11), (12, f48a12), (13, f48a13), (14, f48a14), (15, f48a15), (16, f48a16), (17, f48a17), (18, f48a18), (19, f48a19), (20, f48a20), (21, f48a21), (22, f48a22), (23, f48a23), (24, f48a24), (25, f48a25), (26, f48a26), (27, f48a27), (28, f48a28), (29, f48a29), (30, f48a30)]
noncomputable def f24o0 : Array Oper := cO (cL (cB f24))
def f24a0 : RAnn := ⟨[0, 4], []⟩
noncomputable def f24o1 : Array Oper := cO (cL (cL (cL (cR (cB f24)))))
def f24a1 : RAnn := ⟨[6, 7, 8], []⟩
noncomputable def f24o2 : Array Oper := cO (cL (cL (cR (cL (cL (cR (cB f24)))))))
def f24a2 : RAnn := ⟨[1, 2, 5], []⟩
noncomputable def f24o3 : Array Oper := cO (cL (cR (cR (cL (cL (cR (cB f24)))))))
def f24a3 : RAnn := ⟨[1, 2, 5, 10, 11, 12, 13, 14, 15, 16, 17, 18], []⟩
noncomputable def f24o4 : Array Oper := cO (cL (cL (cR (cR (cR (cL (cL (cR (cB f24)))))))))
def f24a4 : RAnn := ⟨[9], []⟩
noncomputable def f24o5 : Array Oper := cO (cL (cR (cR (cB f24))))
def f24a5 : RAnn := ⟨[9], []⟩
def f24c : Code := (.seq (.region 0 f24o0 false) (.seq (.block 0 (.seq (.region 1 f24o1 false) (.cond (.tmp 5) (.seq (.region 2 f24o2 false) .ret) (.seq (.region 3 f24o3 false) (.cond (.tmp 9) (.seq (.region 4 f24o4 false) .ret) .skip))))) (.seq (.region 5 f24o5 false) .ret)))
def f24n : List (Nat × RAnn) := [(0, f24a0), (1, f24a1), (2, f24a2), (3, f24a3), (4, f24a4), (5, f24a5)]
noncomputable def f86o0 : Array Oper := cO (cL (cB f86))
def f86a0 : RAnn := ⟨[0, 4], []⟩
noncomputable def f86o1 : Array Oper := cO (cL (cR (cB f86)))
def f86a1 : RAnn := ⟨[1, 2, 5, 6, 7, 8, 9, 10, 11, 12, 13], []⟩
def f86c : Code := (.seq (.region 0 f86o0 false) (.seq (.region 1 f86o1 false) .ret))
def f86n : List (Nat × RAnn) := [(0, f86a0), (1, f86a1)]
noncomputable def f78o0 : Array Oper := cO (cL (cB f78))
def f78a0 : RAnn := ⟨[0, 4], []⟩
noncomputable def f78o1 : Array Oper := cO (cL (cL (cR (cB f78))))
def f78a1 : RAnn := ⟨[6, 7], []⟩
noncomputable def f78o2 : Array Oper := cO (cL (cL (cR (cL (cR (cB f78))))))
def f78a2 : RAnn := ⟨[1, 2, 8], []⟩
noncomputable def f78o3 : Array Oper := cO (cL (cL (cR (cR (cB f78)))))
def f78a3 : RAnn := ⟨[8], []⟩
noncomputable def f78o4 : Array Oper := cO (cL (cL (cL (cL (cR (cL (cR (cR (cB f78)))))))))
def f78a4 : RAnn := ⟨[9, 10, 11], []⟩
noncomputable def f78o5 : Array Oper := cO (cR (cR (cL (cL (cR (cL (cR (cR (cB f78)))))))))
def f78a5 : RAnn := ⟨[13, 14, 21], []⟩
noncomputable def f78o6 : Array Oper := cO (cL (cL (cL (cR (cL (cL (cR (cL (cR (cR (cB f78)))))))))))
def f78a6 : RAnn := ⟨[12, 15, 16, 17, 18, 19, 20], []⟩
noncomputable def f78o7 : Array Oper := cO (cL (cL (cR (cL (cL (cR (cL (cL (cR (cL (cR (cR (cB f78)))))))))))))
def f78a7 : RAnn := ⟨[1, 2, 5, 21], []⟩
noncomputable def f78o8 : Array Oper := cO (cL (cR (cR (cR (cB f78)))))
def f78a8 : RAnn := ⟨[1, 2, 5, 12], []⟩
def f78b0 : Code := (.seq (.seq (.region 4 f78o4 false) (.cond (.tmp 12) .skip (.exit 0))) (.seq (.block 1 (.seq (.region 6 f78o6 true) (.cond (.tmp 21) (.seq (.region 7 f78o7 false) .ret) .skip))) (.region 5 f78o5 false)))
def f78c : Code := (.seq (.region 0 f78o0 false) (.seq (.seq (.region 1 f78o1 false) (.cond (.tmp 8) (.seq (.region 2 f78o2 false) .ret) .skip)) (.seq (.seq (.region 3 f78o3 false) (.block 0 (.loop f78b0))) (.seq (.region 8 f78o8 false) .ret))))
def f78n : List (Nat × RAnn) := [(0, f78a0), (1, f78a1), (2, f78a2), (3, f78a3), (4, f78a4), (5, f78a5), (6, f78a6), (7, f78a7), (8, f78a8)]
noncomputable def f72o0 : Array Oper := cO (cL (cB f72))
def f72a0 : RAnn := ⟨[0, 6, 7], []⟩
noncomputable def f72o1 : Array Oper := cO (cL (cL (cR (cB f72))))
def f72a1 : RAnn := ⟨[10, 11, 12, 13], []⟩
noncomputable def f72o2 : Array Oper := cO (cL (cR (cL (cR (cB f72)))))
def f72a2 : RAnn := ⟨[14], []⟩
noncomputable def f72o3 : Array Oper := cO (cL (cL (cR (cR (cL (cR (cB f72)))))))
def f72a3 : RAnn := ⟨[1, 2, 3, 8, 15, 16], []⟩
noncomputable def f72o4 : Array Oper := cO (cL (cL (cR (cR (cB f72)))))
def f72a4 : RAnn := ⟨[8, 15], []⟩
noncomputable def f72o5 : Array Oper := cO (cL (cL (cL (cL (cR (cL (cR (cR (cB f72)))))))))
def f72a5 : RAnn := ⟨[17, 18, 19, 20, 21, 22, 23, 24], []⟩
noncomputable def f72o6 : Array Oper := cO (cR (cR (cL (cL (cR (cL (cR (cR (cB f72)))))))))
def f72a6 : RAnn := ⟨[26, 27, 39], []⟩
noncomputable def f72o7 : Array Oper := cO (cL (cL (cL (cR (cL (cL (cR (cL (cR (cR (cB f72)))))))))))
def f72a7 : RAnn := ⟨[25, 28, 29, 30, 31, 32, 33, 34, 35, 36, 37, 38], []⟩
noncomputable def f72o8 : Array Oper := cO (cL (cL (cR (cL (cL (cR (cL (cL (cR (cL (cR (cR (cB f72)))))))))))))
def f72a8 : RAnn := ⟨[1, 2, 3, 9, 39, 40], []⟩
noncomputable def f72o9 : Array Oper := cO (cL (cR (cR (cR (cB f72)))))
def f72a9 : RAnn := ⟨[1, 2, 3, 9, 25], []⟩
def f72b0 : Code := (.seq (.seq (.region 5 f72o5 false) (.cond (.tmp 25) .skip (.exit 0))) (.seq (.block 1 (.seq (.region 7 f72o7 false) (.cond (.tmp 39) (.seq (.region 8 f72o8 false) .ret) .skip))) (.region 6 f72o6 false)))
def f72c : Code := (.seq (.region 0 f72o0 false) (.seq (.seq (.region 1 f72o1 false) (.seq (.region 2 f72o2 false) (.cond (.tmp 15) (.seq (.region 3 f72o3 false) .ret) .skip))) (.seq (.seq (.region 4 f72o4 false) (.block 0 (.loop f72b0))) (.seq (.region 9 f72o9 false) .ret))))
def f72n : List (Nat × RAnn) := [(0, f72a0), (1, f72a1), (2, f72a2), (3, f72a3), (4, f72a4), (5, f72a5), (6, f72a6), (7, f72a7), (8, f72a8), (9, f72a9)]
noncomputable def f56o0 : Array Oper := cO (cL (cB f56))
def f56a0 : RAnn := ⟨[0, 2, 6], []⟩
noncomputable def f56o1 : Array Oper := cO (cL (cR (cB f56)))
def f56a1 : RAnn := ⟨[9, 10, 11, 12, 13, 14, 15, 16], []⟩
noncomputable def f56o2 : Array Oper := cO (cL (cR (cR (cB f56))))
def f56a2 : RAnn := ⟨[1, 3, 5, 7, 8, 17, 18, 19, 20, 21, 22, 23, 24, 25, 26, 27, 28, 29, 30, 31, 32, 33, 34, 35, 36, 37, 38, 39, 40, 41, 42, 43, 44], []⟩
def f56c : Code := (.seq (.region 0 f56o0 false) (.seq (.region 1 f56o1 false) (.seq (.region 2 f56o2 true) .ret)))
def f56n : List (Nat × RAnn) := [(0, f56a0), (1, f56a1), (2, f56a2)]
noncomputable def f37o0 : Array Oper := cO (cL (cB f37))
def f37a0 : RAnn := ⟨[0, 6], []⟩
noncomputable def f37o1 : Array Oper := cO (cL (cL (cR (cB f37))))
def f37a1 : RAnn := ⟨[], []⟩
noncomputable def f37o2 : Array Oper := cO (cL (cL (cL (cL (cR (cL (cR (cB f37))))))))
def f37a2 : RAnn := ⟨[9, 10, 11], []⟩
noncomputable def f37o3 : Array Oper := cO (cR (cR (cL (cL (cR (cL (cR (cB f37))))))))
def f37a3 : RAnn := ⟨[8, 13, 14, 35], []⟩
noncomputable def f37o4 : Array Oper := cO (cL (cL (cL (cL (cR (cL (cL (cR (cL (cR (cB f37)))))))))))
def f37a4 : RAnn := ⟨[12, 15, 16, 17, 18, 19, 20, 21, 22, 23, 24, 25, 26, 27], []⟩
noncomputable def f37o5 : Array Oper := cO (cL (cL (cR (cL (cL (cL (cR (cL (cL (cR (cL (cR (cB f37)))))))))))))
def f37a5 : RAnn := ⟨[1, 2, 3, 7, 28], []⟩
noncomputable def f37o6 : Array Oper := cO (cL (cR (cL (cL (cR (cL (cL (cR (cL (cR (cB f37)))))))))))
def f37a6 : RAnn := ⟨[28], []⟩
noncomputable def f37o7 : Array Oper := cO (cL (cL (cL (cL (cR (cR (cL (cL (cR (cL (cL (cR (cL (cR (cB f37)))))))))))))))
def f37a7 : RAnn := ⟨[29, 30, 31, 32, 33, 34], []⟩
noncomputable def f37o8 : Array Oper := cO (cR (cR (cL (cL (cR (cR (cL (cL (cR (cL (cL (cR (cL (cR (cB f37)))))))))))))))
def f37a8 : RAnn := ⟨[36, 37, 48], []⟩
noncomputable def f37o9 : Array Oper := cO (cL (cL (cL (cR (cL (cL (cR (cR (cL (cL (cR (cL (cL (cR (cL (cR (cB f37)))))))))))))))))
def f37a9 : RAnn := ⟨[35, 38, 39, 40, 41, 42, 43, 44, 45, 46, 47], []⟩
noncomputable def f37o10 : Array Oper := cO (cL (cL (cR (cL (cL (cR (cL (cL (cR (cR (cL (cL (cR (cL (cL (cR (cL (cR (cB f37)))))))))))))))))))
def f37a10 : RAnn := ⟨[1, 2, 3, 7, 8, 48], []⟩
noncomputable def f37o11 : Array Oper := cO (cL (cR (cR (cB f37))))
def f37a11 : RAnn := ⟨[1, 2, 3, 7, 12, 49, 50, 51], []⟩
def f37b0 : Code := (.seq (.seq (.region 7 f37o7 false) (.cond (.tmp 35) .skip (.exit 2))) (.seq (.block 3 (.seq (.region 9 f37o9 true) (.cond (.tmp 48) (.seq (.region 10 f37o10 false) .ret) .skip))) (.region 8 f37o8 false)))
def f37b1 : Code := (.seq (.seq (.region 2 f37o2 false) (.cond (.tmp 12) .skip (.exit 0))) (.seq (.block 1 (.seq (.seq (.region 4 f37o4 false) (.cond (.tmp 28) (.seq (.region 5 f37o5 false) .ret) .skip)) (.seq (.region 6 f37o6 false) (.block 2 (.loop f37b0))))) (.region 3 f37o3 false)))
def f37c : Code := (.seq (.region 0 f37o0 false) (.seq (.seq (.region 1 f37o1 false) (.block 0 (.loop f37b1))) (.seq (.region 11 f37o11 false) .ret)))
def f37n : List (Nat × RAnn) := [(0, f37a0), (1, f37a1), (2, f37a2), (3, f37a3), (4, f37a4), (5, f37a5), (6, f37a6), (7, f37a7), (8, f37a8), (9, f37a9), (10, f37a10), (11, f37a11)]
noncomputable def f19o0 : Array Oper := cO (cL (cB f19))
def f19a0 : RAnn := ⟨[0, 8], []⟩
noncomputable def f19o1 : Array Oper := cO (cL (cR (cB f19)))
def f19a1 : RAnn := ⟨[10, 11, 12], []⟩
noncomputable def f19o2 : Array Oper := cO (cL (cL (cR (cR (cB f19)))))
def f19a2 : RAnn := ⟨[1, 2, 3, 4, 13, 14, 15, 16, 17, 18, 19, 20, 21, 22, 23, 24, 25, 26, 27], []⟩
noncomputable def f19o3 : Array Oper := cO (cL (cR (cL (cR (cR (cB f19))))))
def f19a3 : RAnn := ⟨[28], []⟩
noncomputable def f19o4 : Array Oper := cO (cL (cR (cR (cR (cB f19)))))
def f19a4 : RAnn := ⟨[9, 28, 29], []⟩
def f19c : Code := (.seq (.region 0 f19o0 false) (.seq (.region 1 f19o1 false) (.seq (.seq (.region 2 f19o2 false) (.cond (.tmp 28) (.region 3 f19o3 false) .skip)) (.seq (.region 4 f19o4 false) .ret))))
def f19n : List (Nat × RAnn) := [(0, f19a0), (1, f19a1), (2, f19a2), (3, f19a3), (4, f19a4)]
noncomputable def f38o0 : Array Oper := cO (cL (cB f38))
def f38a0 : RAnn := ⟨[2], []⟩
noncomputable def f38o1 : Array Oper := cO (cL (cL (cL (cL (cL (cR (cB f38)))))))
def f38a1 : RAnn := ⟨[3, 4], []⟩
noncomputable def f38o2 : Array Oper := cO (cL (cR (cL (cL (cL (cR (cB f38)))))))
def f38a2 : RAnn := ⟨[5, 6, 7], []⟩
noncomputable def f38o3 : Array Oper := cO (cL (cR (cR (cB f38))))
def f38a3 : RAnn := ⟨[0, 5, 8], []⟩
def f38b0 : Code := (.seq (.seq (.region 1 f38o1 false) (.cond (.tmp 5) .skip (.exit 0))) (.block 1 (.region 2 f38o2 false)))
def f38c : Code := (.seq (.region 0 f38o0 false) (.seq (.block 0 (.loop f38b0)) (.seq (.region 3 f38o3 false) .ret)))
def f38n : List (Nat × RAnn) := [(0, f38a0), (1, f38a1), (2, f38a2), (3, f38a3)]
noncomputable def f39o0 : Array Oper := cO (cL (cB f39))
def f39a0 : RAnn := ⟨[2], []⟩
noncomputable def f39o1 : Array Oper := cO (cL (cL (cR (cB f39))))
def f39a1 : RAnn := ⟨[0], []⟩
noncomputable def f39o2 : Array Oper := cO (cL (cL (cR (cL (cR (cB f39))))))
def f39a2 : RAnn := ⟨[5], []⟩
noncomputable def f39o3 : Array Oper := cO (cL (cL (cR (cL (cR (cL (cR (cB f39))))))))
def f39a3 : RAnn := ⟨[3, 4], []⟩
noncomputable def f39o4 : Array Oper := cO (cL (cR (cR (cL (cR (cL (cR (cB f39))))))))
def f39a4 : RAnn := ⟨[4, 7], []⟩
noncomputable def f39o5 : Array Oper := cO (cL (cL (cR (cR (cR (cL (cR (cL (cR (cB f39))))))))))
def f39a5 : RAnn := ⟨[3, 6], []⟩
noncomputable def f39o6 : Array Oper := cO (cL (cR (cR (cR (cR (cL (cR (cL (cR (cB f39))))))))))
def f39a6 : RAnn := ⟨[6, 9], []⟩
noncomputable def f39o7 : Array Oper := cO (cL (cL (cR (cR (cR (cR (cR (cL (cR (cL (cR (cB f39))))))))))))
def f39a7 : RAnn := ⟨[3, 8], []⟩
noncomputable def f39o8 : Array Oper := cO (cL (cR (cR (cR (cR (cR (cR (cL (cR (cL (cR (cB f39))))))))))))
def f39a8 : RAnn := ⟨[8, 11], []⟩
noncomputable def f39o9 : Array Oper := cO (cL (cL (cR (cR (cR (cR (cR (cR (cR (cL (cR (cL (cR (cB f39))))))))))))))
def f39a9 : RAnn := ⟨[3, 10], []⟩
noncomputable def f39o10 : Array Oper := cO (cL (cR (cR (cR (cR (cR (cR (cR (cR (cL (cR (cL (cR (cB f39))))))))))))))
def f39a10 : RAnn := ⟨[3, 10, 13], []⟩
noncomputable def f39o11 : Array Oper := cO (cL (cL (cR (cR (cR (cR (cR (cR (cR (cR (cR (cL (cR (cL (cR (cB f39))))))))))))))))
def f39a11 : RAnn := ⟨[12], []⟩
noncomputable def f39o12 : Array Oper := cO (cL (cR (cR (cB f39))))
def f39a12 : RAnn := ⟨[12], []⟩
def f39c : Code := (.seq (.region 0 f39o0 false) (.seq (.seq (.region 1 f39o1 false) (.block 0 (.seq (.region 2 f39o2 false) (.cond (.tmp 4) (.seq (.region 3 f39o3 false) .ret) (.seq (.region 4 f39o4 false) (.cond (.tmp 6) (.seq (.region 5 f39o5 false) .ret) (.seq (.region 6 f39o6 false) (.cond (.tmp 8) (.seq (.region 7 f39o7 false) .ret) (.seq (.region 8 f39o8 false) (.cond (.tmp 10) (.seq (.region 9 f39o9 false) .ret) (.seq (.region 10 f39o10 false) (.cond (.tmp 12) (.seq (.region 11 f39o11 false) .ret) .skip)))))))))))) (.seq (.region 12 f39o12 false) .ret)))
def f39n : List (Nat × RAnn) := [(0, f39a0), (1, f39a1), (2, f39a2), (3, f39a3), (4, f39a4), (5, f39a5), (6, f39a6), (7, f39a7), (8, f39a8), (9, f39a9), (10, f39a10), (11, f39a11), (12, f39a12)]
noncomputable def f20o0 : Array Oper := cO (cL (cB f20))
def f20a0 : RAnn := ⟨[2], []⟩
noncomputable def f20o1 : Array Oper := cO (cL (cR (cB f20)))
def f20a1 : RAnn := ⟨[], []⟩
noncomputable def f20o2 : Array Oper := cO (cL (cL (cR (cR (cB f20)))))
def f20a2 : RAnn := ⟨[], []⟩
noncomputable def f20o3 : Array Oper := cO (cL (cL (cL (cL (cR (cL (cR (cR (cB f20)))))))))
def f20a3 : RAnn := ⟨[6, 7, 8], []⟩
noncomputable def f20o4 : Array Oper := cO (cR (cR (cL (cL (cR (cL (cR (cR (cB f20)))))))))
def f20a4 : RAnn := ⟨[5, 10, 11, 22], []⟩
noncomputable def f20o5 : Array Oper := cO (cL (cL (cL (cL (cR (cL (cL (cR (cL (cR (cR (cB f20))))))))))))
def f20a5 : RAnn := ⟨[9, 12], []⟩
noncomputable def f20o6 : Array Oper := cO (cL (cR (cL (cL (cL (cR (cL (cL (cR (cL (cR (cR (cB f20)))))))))))))
def f20a6 : RAnn := ⟨[13, 14, 15], []⟩
noncomputable def f20o7 : Array Oper := cO (cL (cR (cL (cL (cR (cL (cL (cR (cL (cR (cR (cB f20))))))))))))
def f20a7 : RAnn := ⟨[13], []⟩
noncomputable def f20o8 : Array Oper := cO (cL (cL (cL (cL (cR (cR (cL (cL (cR (cL (cL (cR (cL (cR (cR (cB f20))))))))))))))))
def f20a8 : RAnn := ⟨[16, 17, 18, 19, 20, 21], []⟩
noncomputable def f20o9 : Array Oper := cO (cR (cR (cL (cL (cR (cR (cL (cL (cR (cL (cL (cR (cL (cR (cR (cB f20))))))))))))))))
def f20a9 : RAnn := ⟨[23, 24], []⟩
noncomputable def f20o10 : Array Oper := cO (cL (cL (cL (cL (cR (cL (cL (cR (cR (cL (cL (cR (cL (cL (cR (cL (cR (cR (cB f20)))))))))))))))))))
def f20a10 : RAnn := ⟨[22, 25], []⟩
noncomputable def f20o11 : Array Oper := cO (cL (cR (cL (cL (cL (cR (cL (cL (cR (cR (cL (cL (cR (cL (cL (cR (cL (cR (cR (cB f20))))))))))))))))))))
def f20a11 : RAnn := ⟨[26, 27, 28], []⟩
noncomputable def f20o12 : Array Oper := cO (cR (cL (cL (cR (cL (cL (cR (cR (cL (cL (cR (cL (cL (cR (cL (cR (cR (cB f20))))))))))))))))))
def f20a12 : RAnn := ⟨[26, 29, 30, 31, 32, 33, 34, 35, 36, 37, 38, 39, 40, 41, 42, 43, 44, 45, 46, 47, 48, 49, 50, 51, 52, 53, 54, 55, 56, 57, 58], [(30, { eff := true })]⟩
noncomputable def f20o13 : Array Oper := cO (cL (cR (cR (cR (cB f20)))))
def f20a13 : RAnn := ⟨[0, 3, 4, 9, 59], []⟩
def f20b0 : Code := (.seq (.seq (.region 8 f20o8 false) (.cond (.tmp 22) .skip (.exit 2))) (.seq (.block 3 (.seq (.seq (.region 10 f20o10 false) (.cond (.tmp 26) (.region 11 f20o11 false) .skip)) (.region 12 f20o12 true))) (.region 9 f20o9 false)))
def f20b1 : Code := (.seq (.seq (.region 3 f20o3 false) (.cond (.tmp 9) .skip (.exit 0))) (.seq (.block 1 (.seq (.seq (.region 5 f20o5 false) (.cond (.tmp 13) (.region 6 f20o6 false) .skip)) (.seq (.region 7 f20o7 false) (.block 2 (.loop f20b0))))) (.region 4 f20o4 false)))
def f20c : Code := (.seq (.region 0 f20o0 false) (.seq (.region 1 f20o1 false) (.seq (.seq (.region 2 f20o2 false) (.block 0 (.loop f20b1))) (.seq (.region 13 f20o13 false) .ret))))
def f20n : List (Nat × RAnn) := [(0, f20a0), (1, f20a1), (2, f20a2), (3, f20a3), (4, f20a4), (5, f20a5), (6, f20a6), (7, f20a7), (8, f20a8), (9, f20a9), (10, f20a10), (11, f20a11), (12, f20a12), (13, f20a13)]
noncomputable def f8o0 : Array Oper := cO (cL (cB f8))
def f8a0 : RAnn := ⟨[0, 6, 7], []⟩
noncomputable def f8o1 : Array Oper := cO (cL (cL (cR (cB f8))))
def f8a1 : RAnn := ⟨[1, 3, 9, 10, 11, 12], []⟩
noncomputable def f8o2 : Array Oper := cO (cL (cR (cL (cR (cB f8)))))
def f8a2 : RAnn := ⟨[13], []⟩
noncomputable def f8o3 : Array Oper := cO (cL (cL (cR (cR (cL (cR (cB f8)))))))
def f8a3 : RAnn := ⟨[2, 8, 14, 15], []⟩
noncomputable def f8o4 : Array Oper := cO (cL (cR (cR (cB f8))))
def f8a4 : RAnn := ⟨[2, 8, 14, 16, 17], []⟩
def f8c : Code := (.seq (.region 0 f8o0 false) (.seq (.seq (.region 1 f8o1 false) (.seq (.region 2 f8o2 false) (.cond (.tmp 14) (.seq (.region 3 f8o3 false) .ret) .skip))) (.seq (.region 4 f8o4 false) .ret)))
def f8n : List (Nat × RAnn) := [(0, f8a0), (1, f8a1), (2, f8a2), (3, f8a3), (4, f8a4)]
noncomputable def f22o0 : Array Oper := cO (cL (cB f22))
def f22a0 : RAnn := ⟨[0, 5, 6], []⟩
noncomputable def f22o1 : Array Oper := cO (cL (cL (cR (cB f22))))
def f22a1 : RAnn := ⟨[10, 11], []⟩
noncomputable def f22o2 : Array Oper := cO (cL (cL (cR (cL (cR (cB f22))))))
def f22a2 : RAnn := ⟨[1, 2, 12, 13], []⟩
noncomputable def f22o3 : Array Oper := cO (cL (cR (cR (cB f22))))
def f22a3 : RAnn := ⟨[12, 14, 15, 16, 17], []⟩
noncomputable def f22o4 : Array Oper := cO (cL (cR (cR (cR (cB f22)))))
def f22a4 : RAnn := ⟨[18], []⟩
noncomputable def f22o5 : Array Oper := cO (cL (cL (cL (cL (cL (cR (cR (cR (cR (cB f22))))))))))
def f22a5 : RAnn := ⟨[19, 20, 21, 22, 23, 24, 25, 26, 27, 28], []⟩
noncomputable def f22o6 : Array Oper := cO (cL (cR (cL (cL (cL (cR (cR (cR (cR (cB f22))))))))))
def f22a6 : RAnn := ⟨[29, 30, 31, 32, 33], []⟩
noncomputable def f22o7 : Array Oper := cO (cL (cR (cR (cR (cR (cR (cB f22)))))))
def f22a7 : RAnn := ⟨[29, 34, 35, 36, 37, 38, 39, 40], []⟩
noncomputable def f22o8 : Array Oper := cO (cL (cL (cR (cR (cR (cR (cR (cR (cB f22)))))))))
def f22a8 : RAnn := ⟨[8, 41, 42, 43, 44, 45, 46], []⟩
noncomputable def f22o9 : Array Oper := cO (cL (cL (cR (cL (cR (cR (cR (cR (cR (cR (cB f22)))))))))))
def f22a9 : RAnn := ⟨[1, 2, 7, 47, 48], []⟩
noncomputable def f22o10 : Array Oper := cO (cL (cR (cR (cR (cR (cR (cR (cR (cB f22)))))))))
def f22a10 : RAnn := ⟨[47, 49, 50], []⟩
noncomputable def f22o11 : Array Oper := cO (cL (cR (cR (cR (cR (cR (cR (cR (cR (cB f22))))))))))
def f22a11 : RAnn := ⟨[2, 7, 51, 52, 53, 54, 55, 56], []⟩
noncomputable def f22o12 : Array Oper := cO (cL (cL (cR (cR (cR (cR (cR (cR (cR (cR (cR (cB f22))))))))))))
def f22a12 : RAnn := ⟨[57, 58, 59], []⟩
noncomputable def f22o13 : Array Oper := cO (cL (cL (cR (cL (cR (cR (cR (cR (cR (cR (cR (cR (cR (cB f22))))))))))))))
def f22a13 : RAnn := ⟨[1, 9, 60, 61], []⟩
noncomputable def f22o14 : Array Oper := cO (cL (cR (cR (cR (cR (cR (cR (cR (cR (cR (cR (cB f22))))))))))))
def f22a14 : RAnn := ⟨[60, 62, 63, 64, 65], []⟩
noncomputable def f22o15 : Array Oper := cO (cL (cR (cR (cR (cR (cR (cR (cR (cR (cR (cR (cR (cB f22)))))))))))))
def f22a15 : RAnn := ⟨[1, 9, 66, 67, 68, 69], []⟩
def f22b0 : Code := (.seq (.seq (.region 5 f22o5 true) (.cond (.tmp 29) .skip (.exit 0))) (.block 1 (.region 6 f22o6 false)))
def f22c : Code := (.seq (.region 0 f22o0 false) (.seq (.seq (.region 1 f22o1 false) (.cond (.tmp 12) (.seq (.region 2 f22o2 false) .ret) .skip)) (.seq (.region 3 f22o3 false) (.seq (.region 4 f22o4 false) (.seq (.block 0 (.loop f22b0)) (.seq (.region 7 f22o7 false) (.seq (.seq (.region 8 f22o8 false) (.cond (.tmp 47) (.seq (.region 9 f22o9 false) .ret) .skip)) (.seq (.region 10 f22o10 false) (.seq (.region 11 f22o11 false) (.seq (.seq (.region 12 f22o12 false) (.cond (.tmp 60) (.seq (.region 13 f22o13 false) .ret) .skip)) (.seq (.region 14 f22o14 false) (.seq (.region 15 f22o15 true) .ret))))))))))))
def f22n : List (Nat × RAnn) := [(0, f22a0), (1, f22a1), (2, f22a2), (3, f22a3), (4, f22a4), (5, f22a5), (6, f22a6), (7, f22a7), (8, f22a8), (9, f22a9), (10, f22a10), (11, f22a11), (12, f22a12), (13, f22a13), (14, f22a14), (15, f22a15)]
noncomputable def f9o0 : Array Oper := cO (cL (cB f9))
def f9a0 : RAnn := ⟨[0, 6, 7], []⟩
noncomputable def f9o1 : Array Oper := cO (cL (cL (cR (cB f9))))
def f9a1 : RAnn := ⟨[14, 15, 16], []⟩
noncomputable def f9o2 : Array Oper := cO (cL (cR (cL (cR (cB f9)))))
def f9a2 : RAnn := ⟨[17], []⟩
noncomputable def f9o3 : Array Oper := cO (cL (cL (cR (cR (cL (cR (cB f9)))))))
def f9a3 : RAnn := ⟨[1, 2, 3, 8, 18, 19], []⟩
noncomputable def f9o4 : Array Oper := cO (cL (cL (cR (cR (cB f9)))))
def f9a4 : RAnn := ⟨[8, 18, 20], []⟩
noncomputable def f9o5 : Array Oper := cO (cL (cL (cR (cL (cR (cR (cB f9)))))))
def f9a5 : RAnn := ⟨[1, 2, 3, 21], []⟩
noncomputable def f9o6 : Array Oper := cO (cL (cR (cR (cR (cB f9)))))
def f9a6 : RAnn := ⟨[21], [(0, { site := true })]⟩
noncomputable def f9o7 : Array Oper := cO (cL (cL (cR (cR (cR (cR (cB f9)))))))
def f9a7 : RAnn := ⟨[2, 23], []⟩
noncomputable def f9o8 : Array Oper := cO (cL (cL (cL (cL (cR (cL (cR (cR (cR (cR (cB f9)))))))))))
def f9a8 : RAnn := ⟨[10, 24, 25, 26, 27, 28, 29, 30, 31, 32, 33, 34], []⟩
noncomputable def f9o9 : Array Oper := cO (cL (cL (cR (cL (cL (cL (cR (cL (cR (cR (cR (cR (cB f9)))))))))))))
def f9a9 : RAnn := ⟨[13, 35], []⟩
noncomputable def f9o10 : Array Oper := cO (cL (cL (cR (cL (cR (cL (cL (cL (cR (cL (cR (cR (cR (cR (cB f9)))))))))))))))
def f9a10 : RAnn := ⟨[1, 3, 9, 11, 12, 22, 36], []⟩
noncomputable def f9o11 : Array Oper := cO (cL (cR (cR (cL (cL (cL (cR (cL (cR (cR (cR (cR (cB f9)))))))))))))
def f9a11 : RAnn := ⟨[11, 36, 37, 38, 39, 40, 41, 42, 43, 44, 45, 46, 47, 48, 49, 50], [(0, { noio := true }), (1, { noio := true }), (2, { noio := true }), (3, { noio := true }), (4, { noio := true }), (5, { noio := true }), (6, { noio := true }), (7, { noio := true }), (8, { noio := true }), (9, { keep := [0], mem := true, noio := true }), (10, { noio := true }), (11, { noio := true }), (12, { tk := [46], keep := [0], noio := true }), (14, { tk := [49] })]⟩
noncomputable def f9o12 : Array Oper := cO (cL (cL (cR (cR (cR (cL (cL (cL (cR (cL (cR (cR (cR (cR (cB f9)))))))))))))))
def f9a12 : RAnn := ⟨[51], []⟩
noncomputable def f9o13 : Array Oper := cO (cL (cL (cR (cR (cR (cR (cL (cL (cL (cR (cL (cR (cR (cR (cR (cB f9))))))))))))))))
def f9a13 : RAnn := ⟨[52, 53], []⟩
noncomputable def f9o14 : Array Oper := cO (cL (cR (cR (cR (cR (cL (cR (cL (cR (cR (cR (cR (cL (cL (cL (cR (cL (cR (cR (cR (cR (cB f9))))))))))))))))))))))
def f9a14 : RAnn := ⟨[1, 3, 9, 12, 22, 57], []⟩
noncomputable def f9o15 : Array Oper := cO (cL (cL (cR (cL (cR (cR (cR (cR (cL (cL (cL (cR (cL (cR (cR (cR (cR (cB f9))))))))))))))))))
def f9a15 : RAnn := ⟨[56], []⟩
noncomputable def f9o16 : Array Oper := cO (cL (cR (cR (cL (cR (cL (cR (cR (cR (cR (cL (cL (cL (cR (cL (cR (cR (cR (cR (cB f9))))))))))))))))))))
def f9a16 : RAnn := ⟨[54, 55, 58], []⟩
noncomputable def f9o17 : Array Oper := cO (cL (cR (cR (cR (cL (cR (cL (cR (cR (cR (cR (cL (cL (cL (cR (cL (cR (cR (cR (cR (cB f9)))))))))))))))))))))
def f9a17 : RAnn := ⟨[57, 59, 60, 61], []⟩
noncomputable def f9o18 : Array Oper := cO (cR (cR (cR (cR (cR (cL (cL (cL (cR (cL (cR (cR (cR (cR (cB f9)))))))))))))))
def f9a18 : RAnn := ⟨[12, 54, 55, 62, 63], []⟩
noncomputable def f9o19 : Array Oper := cO (cL (cL (cR (cR (cR (cR (cR (cB f9))))))))
def f9a19 : RAnn := ⟨[1, 3, 12, 52, 64, 65, 66, 67, 68, 69, 70], []⟩
noncomputable def f9o20 : Array Oper := cO (cL (cL (cR (cL (cR (cR (cR (cR (cR (cB f9))))))))))
def f9a20 : RAnn := ⟨[9, 22, 71], []⟩
noncomputable def f9o21 : Array Oper := cO (cL (cR (cR (cR (cR (cR (cR (cB f9))))))))
def f9a21 : RAnn := ⟨[9, 71, 72], [(1, { close := true })]⟩
def f9b0 : Code := (.block 1 (.seq (.region 8 f9o8 false) (.seq (.seq (.region 9 f9o9 false) (.cond (.tmp 36) (.seq (.region 10 f9o10 false) .ret) .skip)) (.seq (.region 11 f9o11 true) (.seq (.seq (.region 12 f9o12 false) (.cond (.tmp 52) (.exit 0) .skip)) (.seq (.seq (.region 13 f9o13 false) (.block 2 (.seq (.region 15 f9o15 false) (.cond (.tmp 55) .skip (.seq (.region 16 f9o16 false) (.cond (.tmp 57) (.region 17 f9o17 false) (.seq (.region 14 f9o14 false) .ret))))))) (.region 18 f9o18 false)))))))
def f9c : Code := (.seq (.region 0 f9o0 false) (.seq (.seq (.region 1 f9o1 false) (.seq (.region 2 f9o2 false) (.cond (.tmp 18) (.seq (.region 3 f9o3 false) .ret) .skip))) (.seq (.seq (.region 4 f9o4 false) (.cond (.tmp 21) (.seq (.region 5 f9o5 false) .ret) .skip)) (.seq (.region 6 f9o6 false) (.seq (.seq (.region 7 f9o7 false) (.block 0 (.loop f9b0))) (.seq (.seq (.region 19 f9o19 false) (.cond (.tmp 71) (.seq (.region 20 f9o20 false) .ret) .skip)) (.seq (.region 21 f9o21 false) .ret)))))))
def f9n : List (Nat × RAnn) := [(0, f9a0), (1, f9a1), (2, f9a2), (3, f9a3), (4, f9a4), (5, f9a5), (6, f9a6), (7, f9a7), (8, f9a8), (9, f9a9), (10, f9a10), (11, f9a11), (12, f9a12), (13, f9a13), (14, f9a14), (15, f9a15), (16, f9a16), (17, f9a17), (18, f9a18), (19, f9a19), (20, f9a20), (21, f9a21), (200000, { kill := [], ops := [(22, {})] })]
noncomputable def f49o0 : Array Oper := cO (cL (cB f49))
def f49a0 : RAnn := ⟨[0, 7, 8], []⟩
noncomputable def f49o1 : Array Oper := cO (cL (cL (cR (cB f49))))
def f49a1 : RAnn := ⟨[], []⟩
noncomputable def f49o2 : Array Oper := cO (cL (cL (cL (cL (cR (cL (cR (cB f49))))))))
def f49a2 : RAnn := ⟨[14, 15, 16, 17, 18, 19, 20, 21], []⟩
noncomputable def f49o3 : Array Oper := cO (cR (cR (cL (cL (cR (cL (cR (cB f49))))))))
def f49a3 : RAnn := ⟨[10, 11, 23, 24, 35], []⟩
noncomputable def f49o4 : Array Oper := cO (cL (cL (cL (cR (cL (cL (cR (cL (cR (cB f49))))))))))
def f49a4 : RAnn := ⟨[22, 25, 26, 27, 28, 29, 30, 31, 32, 33], []⟩
noncomputable def f49o5 : Array Oper := cO (cL (cR (cL (cL (cR (cL (cL (cR (cL (cR (cB f49)))))))))))
def f49a5 : RAnn := ⟨[], []⟩
noncomputable def f49o6 : Array Oper := cO (cL (cL (cL (cL (cR (cR (cL (cL (cR (cL (cL (cR (cL (cR (cB f49)))))))))))))))
def f49a6 : RAnn := ⟨[34], []⟩
noncomputable def f49o7 : Array Oper := cO (cR (cR (cL (cL (cR (cR (cL (cL (cR (cL (cL (cR (cL (cR (cB f49)))))))))))))))
def f49a7 : RAnn := ⟨[12, 36, 37, 59], []⟩
noncomputable def f49o8 : Array Oper := cO (cL (cL (cL (cR (cL (cL (cR (cR (cL (cL (cR (cL (cL (cR (cL (cR (cB f49)))))))))))))))))
def f49a8 : RAnn := ⟨[35, 38, 39, 40, 41, 42, 43], []⟩
noncomputable def f49o9 : Array Oper := cO (cL (cR (cL (cL (cR (cL (cL (cR (cR (cL (cL (cR (cL (cL (cR (cL (cR (cB f49))))))))))))))))))
def f49a9 : RAnn := ⟨[44, 45, 46, 47, 48, 49, 50, 51, 52, 53, 54, 55, 56, 57, 58], []⟩
noncomputable def f49o10 : Array Oper := cO (cL (cL (cR (cR (cL (cL (cR (cL (cL (cR (cR (cL (cL (cR (cL (cL (cR (cL (cR (cB f49))))))))))))))))))))
def f49a10 : RAnn := ⟨[1, 3, 9, 59, 60, 61, 62, 63, 64], []⟩
noncomputable def f49o11 : Array Oper := cO (cL (cR (cL (cR (cR (cL (cL (cR (cL (cL (cR (cR (cL (cL (cR (cL (cL (cR (cL (cR (cB f49)))))))))))))))))))))
def f49a11 : RAnn := ⟨[2, 10, 11, 12, 13, 65, 66, 67, 68, 69, 70, 71, 72, 73, 74, 75, 76], []⟩
noncomputable def f49o12 : Array Oper := cO (cL (cR (cR (cB f49))))
def f49a12 : RAnn := ⟨[1, 2, 3, 9, 22, 77], []⟩
def f49b0 : Code := (.seq (.seq (.region 6 f49o6 false) (.cond (.tmp 35) .skip (.exit 2))) (.seq (.block 3 (.seq (.region 8 f49o8 false) (.seq (.region 9 f49o9 false) (.cond (.tmp 59) (.seq (.region 10 f49o10 false) (.seq (.region 11 f49o11 true) .ret)) .skip)))) (.region 7 f49o7 false)))
def f49b1 : Code := (.seq (.seq (.region 2 f49o2 false) (.cond (.tmp 22) .skip (.exit 0))) (.seq (.block 1 (.seq (.region 4 f49o4 false) (.seq (.region 5 f49o5 false) (.block 2 (.loop f49b0))))) (.region 3 f49o3 false)))
def f49c : Code := (.seq (.region 0 f49o0 false) (.seq (.seq (.region 1 f49o1 false) (.block 0 (.loop f49b1))) (.seq (.region 12 f49o12 false) .ret)))
def f49n : List (Nat × RAnn) := [(0, f49a0), (1, f49a1), (2, f49a2), (3, f49a3), (4, f49a4), (5, f49a5), (6, f49a6), (7, f49a7), (8, f49a8), (9, f49a9), (10, f49a10), (11, f49a11), (12, f49a12)]
noncomputable def f25o0 : Array Oper := cO (cL (cB f25))
def f25a0 : RAnn := ⟨[0, 6, 7, 8], []⟩
noncomputable def f25o1 : Array Oper := cO (cL (cR (cB f25)))
def f25a1 : RAnn := ⟨[], [(0, { keep := [0] })]⟩
noncomputable def f25o2 : Array Oper := cO (cL (cR (cR (cB f25))))
def f25a2 : RAnn := ⟨[], [(0, { keep := [0] })]⟩
noncomputable def f25o3 : Array Oper := cO (cL (cL (cL (cL (cR (cR (cR (cB f25))))))))
def f25a3 : RAnn := ⟨[2, 14, 15, 16, 17, 18, 19, 20, 21], []⟩
noncomputable def f25o4 : Array Oper := cO (cL (cL (cR (cL (cL (cL (cR (cR (cR (cB f25))))))))))
def f25a4 : RAnn := ⟨[13, 22], []⟩
noncomputable def f25o5 : Array Oper := cO (cL (cL (cR (cL (cR (cL (cL (cL (cR (cR (cR (cB f25))))))))))))
def f25a5 : RAnn := ⟨[1, 3, 9, 10, 11, 12, 23], []⟩
noncomputable def f25o6 : Array Oper := cO (cL (cR (cR (cL (cL (cL (cR (cR (cR (cB f25))))))))))
def f25a6 : RAnn := ⟨[11, 23, 24, 25, 26, 27], [(0, { tk := [10], keep := [0] }), (3, { tk := [24], keep := [0] }), (4, { tk := [27], keep := [0] })]⟩
noncomputable def f25o7 : Array Oper := cO (cL (cL (cR (cR (cR (cL (cL (cL (cR (cR (cR (cB f25))))))))))))
def f25a7 : RAnn := ⟨[28, 29, 30, 31, 32, 33], []⟩
noncomputable def f25o8 : Array Oper := cO (cL (cL (cR (cL (cR (cR (cR (cL (cL (cL (cR (cR (cR (cB f25))))))))))))))
def f25a8 : RAnn := ⟨[12, 34, 35, 36], []⟩
noncomputable def f25o9 : Array Oper := cO (cL (cR (cR (cR (cR (cL (cL (cL (cR (cR (cR (cB f25))))))))))))
def f25a9 : RAnn := ⟨[10, 34, 37, 38, 39, 40], [(0, { tk := [9], keep := [0] }), (3, { tk := [37], keep := [0] }), (4, { tk := [40], keep := [0] })]⟩
noncomputable def f25o10 : Array Oper := cO (cL (cR (cR (cR (cR (cR (cL (cL (cL (cR (cR (cR (cB f25)))))))))))))
def f25a10 : RAnn := ⟨[], [(0, { keep := [0] })]⟩
noncomputable def f25o11 : Array Oper := cO (cL (cL (cR (cR (cR (cR (cR (cR (cL (cL (cL (cR (cR (cR (cB f25)))))))))))))))
def f25a11 : RAnn := ⟨[41, 42, 43, 44, 45, 46], []⟩
noncomputable def f25o12 : Array Oper := cO (cL (cL (cR (cL (cR (cR (cR (cR (cR (cR (cL (cL (cL (cR (cR (cR (cB f25)))))))))))))))))
def f25a12 : RAnn := ⟨[1, 3, 9, 10, 12, 47, 48, 49, 50, 51, 52, 53], []⟩
noncomputable def f25o13 : Array Oper := cO (cR (cR (cR (cR (cR (cR (cR (cL (cL (cL (cR (cR (cR (cB f25))))))))))))))
def f25a13 : RAnn := ⟨[12, 47, 54, 55], []⟩
def f25b0 : Code := (.block 1 (.seq (.region 3 f25o3 false) (.seq (.seq (.region 4 f25o4 false) (.cond (.tmp 23) (.seq (.region 5 f25o5 false) .ret) .skip)) (.seq (.region 6 f25o6 false) (.seq (.seq (.region 7 f25o7 false) (.cond (.tmp 34) (.seq (.region 8 f25o8 false) (.exit 1)) .skip)) (.seq (.region 9 f25o9 false) (.seq (.region 10 f25o10 false) (.seq (.seq (.region 11 f25o11 false) (.cond (.tmp 47) (.seq (.region 12 f25o12 false) .ret) .skip)) (.region 13 f25o13 false)))))))))
def f25c : Code := (.seq (.region 0 f25o0 false) (.seq (.region 1 f25o1 false) (.seq (.region 2 f25o2 false) (.block 0 (.loop f25b0)))))
def f25n : List (Nat × RAnn) := [(0, f25a0), (1, f25a1), (2, f25a2), (3, f25a3), (4, f25a4), (5, f25a5), (6, f25a6), (7, f25a7), (8, f25a8), (9, f25a9), (10, f25a10), (11, f25a11), (12, f25a12), (13, f25a13)]
noncomputable def f10o0 : Array Oper := cO (cL (cB f10))
def f10a0 : RAnn := ⟨[0, 6, 7], []⟩
noncomputable def f10o1 : Array Oper := cO (cL (cL (cR (cB f10))))
def f10a1 : RAnn := ⟨[12, 13, 14], []⟩
noncomputable def f10o2 : Array Oper := cO (cL (cR (cL (cR (cB f10)))))
def f10a2 : RAnn := ⟨[15, 16, 17, 18, 19], []⟩
noncomputable def f10o3 : Array Oper := cO (cL (cL (cR (cR (cL (cR (cB f10)))))))
def f10a3 : RAnn := ⟨[1, 2, 3, 8, 20, 21], []⟩
noncomputable def f10o4 : Array Oper := cO (cL (cR (cR (cB f10))))
def f10a4 : RAnn := ⟨[1, 2, 3, 8, 20, 22, 23, 24, 25, 26, 27, 28, 29], []⟩
noncomputable def f10o5 : Array Oper := cO (cL (cL (cR (cR (cR (cB f10))))))
def f10a5 : RAnn := ⟨[10, 11, 30, 31, 32, 33, 34], []⟩
noncomputable def f10o6 : Array Oper := cO (cL (cL (cR (cL (cR (cR (cR (cB f10))))))))
def f10a6 : RAnn := ⟨[9, 35], []⟩
noncomputable def f10o7 : Array Oper := cO (cL (cR (cR (cR (cR (cB f10))))))
def f10a7 : RAnn := ⟨[9, 35, 36], []⟩
def f10c : Code := (.seq (.region 0 f10o0 false) (.seq (.seq (.region 1 f10o1 false) (.seq (.region 2 f10o2 false) (.cond (.tmp 20) (.seq (.region 3 f10o3 false) .ret) .skip))) (.seq (.region 4 f10o4 false) (.seq (.seq (.region 5 f10o5 false) (.cond (.tmp 35) (.seq (.region 6 f10o6 false) .ret) .skip)) (.seq (.region 7 f10o7 false) .ret)))))
def f10n : List (Nat × RAnn) := [(0, f10a0), (1, f10a1), (2, f10a2), (3, f10a3), (4, f10a4), (5, f10a5), (6, f10a6), (7, f10a7)]
noncomputable def f11o0 : Array Oper := cO (cL (cB f11))
def f11a0 : RAnn := ⟨[4], []⟩
noncomputable def f11o1 : Array Oper := cO (cL (cL (cR (cB f11))))
def f11a1 : RAnn := ⟨[7, 8, 9, 10], []⟩
noncomputable def f11o2 : Array Oper := cO (cL (cL (cR (cL (cR (cB f11))))))
def f11a2 : RAnn := ⟨[0, 1, 11], []⟩
noncomputable def f11o3 : Array Oper := cO (cL (cL (cR (cR (cB f11)))))
def f11a3 : RAnn := ⟨[11], []⟩
noncomputable def f11o4 : Array Oper := cO (cL (cL (cL (cL (cR (cL (cR (cR (cB f11)))))))))
def f11a4 : RAnn := ⟨[12, 13, 14], []⟩
noncomputable def f11o5 : Array Oper := cO (cR (cR (cL (cL (cR (cL (cR (cR (cB f11)))))))))
def f11a5 : RAnn := ⟨[6, 16, 17, 35], []⟩
noncomputable def f11o6 : Array Oper := cO (cL (cL (cL (cL (cR (cL (cL (cR (cL (cR (cR (cB f11))))))))))))
def f11a6 : RAnn := ⟨[15, 18, 19, 20, 21, 22, 23, 24, 25, 26, 27], []⟩
noncomputable def f11o7 : Array Oper := cO (cL (cL (cR (cL (cL (cL (cR (cL (cL (cR (cL (cR (cR (cB f11))))))))))))))
def f11a7 : RAnn := ⟨[0, 1, 5, 28], []⟩
noncomputable def f11o8 : Array Oper := cO (cL (cR (cL (cL (cR (cL (cL (cR (cL (cR (cR (cB f11))))))))))))
def f11a8 : RAnn := ⟨[28], []⟩
noncomputable def f11o9 : Array Oper := cO (cL (cL (cL (cL (cR (cR (cL (cL (cR (cL (cL (cR (cL (cR (cR (cB f11))))))))))))))))
def f11a9 : RAnn := ⟨[29, 30, 31, 32, 33, 34], []⟩
noncomputable def f11o10 : Array Oper := cO (cR (cR (cL (cL (cR (cR (cL (cL (cR (cL (cL (cR (cL (cR (cR (cB f11))))))))))))))))
def f11a10 : RAnn := ⟨[36, 37, 52], []⟩
noncomputable def f11o11 : Array Oper := cO (cL (cL (cL (cR (cL (cL (cR (cR (cL (cL (cR (cL (cL (cR (cL (cR (cR (cB f11))))))))))))))))))
def f11a11 : RAnn := ⟨[35, 38, 39, 40, 41, 42, 43, 44, 45, 46, 47, 48, 49, 50, 51], []⟩
noncomputable def f11o12 : Array Oper := cO (cL (cL (cR (cL (cL (cR (cL (cL (cR (cR (cL (cL (cR (cL (cL (cR (cL (cR (cR (cB f11))))))))))))))))))))
def f11a12 : RAnn := ⟨[0, 1, 5, 6, 52], []⟩
noncomputable def f11o13 : Array Oper := cO (cL (cR (cR (cR (cB f11)))))
def f11a13 : RAnn := ⟨[0, 1, 5, 15], []⟩
def f11b0 : Code := (.seq (.seq (.region 9 f11o9 false) (.cond (.tmp 35) .skip (.exit 2))) (.seq (.block 3 (.seq (.region 11 f11o11 true) (.cond (.tmp 52) (.seq (.region 12 f11o12 false) .ret) .skip))) (.region 10 f11o10 false)))
def f11b1 : Code := (.seq (.seq (.region 4 f11o4 false) (.cond (.tmp 15) .skip (.exit 0))) (.seq (.block 1 (.seq (.seq (.region 6 f11o6 true) (.cond (.tmp 28) (.seq (.region 7 f11o7 false) .ret) .skip)) (.seq (.region 8 f11o8 false) (.block 2 (.loop f11b0))))) (.region 5 f11o5 false)))
def f11c : Code := (.seq (.region 0 f11o0 false) (.seq (.seq (.region 1 f11o1 false) (.cond (.tmp 11) (.seq (.region 2 f11o2 false) .ret) .skip)) (.seq (.seq (.region 3 f11o3 false) (.block 0 (.loop f11b1))) (.seq (.region 13 f11o13 false) .ret))))
def f11n : List (Nat × RAnn) := [(0, f11a0), (1, f11a1), (2, f11a2), (3, f11a3), (4, f11a4), (5, f11a5), (6, f11a6), (7, f11a7), (8, f11a8), (9, f11a9), (10, f11a10), (11, f11a11), (12, f11a12), (13, f11a13)]
noncomputable def f26v20o0 : Array Oper := cO (cL (cB f26))
def f26v20a0 : RAnn := ⟨[6], []⟩
noncomputable def f26v20o1 : Array Oper := cO (cL (cL (cR (cB f26))))
def f26v20a1 : RAnn := ⟨[10, 11, 12, 13], []⟩
noncomputable def f26v20o2 : Array Oper := cO (cL (cL (cR (cL (cR (cB f26))))))
def f26v20a2 : RAnn := ⟨[0, 1, 2, 14], []⟩
noncomputable def f26v20o3 : Array Oper := cO (cL (cL (cR (cR (cB f26)))))
def f26v20a3 : RAnn := ⟨[0, 14], []⟩
noncomputable def f26v20o4 : Array Oper := cO (cL (cL (cL (cR (cL (cR (cR (cB f26))))))))
def f26v20a4 : RAnn := ⟨[], []⟩
noncomputable def f26v20o5 : Array Oper := cO (cL (cL (cL (cR (cR (cL (cL (cR (cL (cR (cR (cB f26))))))))))))
def f26v20a5 : RAnn := ⟨[18, 19, 20, 21], []⟩
noncomputable def f26v20o6 : Array Oper := cO (cL (cR (cL (cL (cR (cR (cL (cL (cR (cL (cR (cR (cB f26)))))))))))))
def f26v20a6 : RAnn := ⟨[7, 22, 23, 24, 25], []⟩
noncomputable def f26v20o7 : Array Oper := cO (cL (cR (cR (cL (cL (cR (cR (cL (cL (cR (cL (cR (cR (cB f26))))))))))))))
def f26v20a7 : RAnn := ⟨[8, 9, 26, 27, 28, 29], []⟩
noncomputable def f26v20o8 : Array Oper := cO (cL (cL (cR (cR (cR (cL (cL (cR (cR (cL (cL (cR (cL (cR (cR (cB f26))))))))))))))))
def f26v20a8 : RAnn := ⟨[1, 2, 15, 16, 17, 30], []⟩
noncomputable def f26v20o9 : Array Oper := cO (cR (cR (cR (cL (cL (cR (cL (cR (cR (cB f26))))))))))
def f26v20a9 : RAnn := ⟨[30, 31], []⟩
noncomputable def f26v20o10 : Array Oper := cO (cL (cR (cR (cR (cB f26)))))
def f26v20a10 : RAnn := ⟨[1, 2, 15, 16, 17, 18], []⟩
def f26v20b0 : Code := (.seq (.region 4 f26v20o4 false) (.seq (.cond (.tmp 18) .skip (.exit 0)) (.seq (.block 1 (.seq (.region 5 f26v20o5 false) (.seq (.region 6 f26v20o6 false) (.seq (.region 7 f26v20o7 false) (.cond (.tmp 30) (.seq (.region 8 f26v20o8 false) .ret) .skip))))) (.region 9 f26v20o9 false))))
def f26v20c : Code := (.seq (.region 0 f26v20o0 false) (.seq (.seq (.region 1 f26v20o1 false) (.cond (.tmp 14) (.seq (.region 2 f26v20o2 false) .ret) .skip)) (.seq (.seq (.region 3 f26v20o3 false) (.block 0 (.loop f26v20b0))) (.seq (.region 10 f26v20o10 false) .ret))))
def f26v20n : List (Nat × RAnn) := [(0, f26v20a0), (1, f26v20a1), (2, f26v20a2), (3, f26v20a3), (4, f26v20a4), (5, f26v20a5), (6, f26v20a6), (7, f26v20a7), (8, f26v20a8), (9, f26v20a9), (10, f26v20a10)]
noncomputable def f27o0 : Array Oper := cO (cL (cB f27))
def f27a0 : RAnn := ⟨[4], []⟩
noncomputable def f27o1 : Array Oper := cO (cL (cL (cR (cB f27))))
def f27a1 : RAnn := ⟨[6, 7, 8, 9], []⟩
noncomputable def f27o2 : Array Oper := cO (cL (cL (cR (cL (cR (cB f27))))))
def f27a2 : RAnn := ⟨[0, 1, 10], []⟩
noncomputable def f27o3 : Array Oper := cO (cL (cL (cR (cR (cB f27)))))
def f27a3 : RAnn := ⟨[10, 11], []⟩
noncomputable def f27o4 : Array Oper := cO (cL (cL (cL (cR (cL (cR (cR (cB f27))))))))
def f27a4 : RAnn := ⟨[], []⟩
noncomputable def f27o5 : Array Oper := cO (cL (cL (cL (cR (cR (cL (cL (cR (cL (cR (cR (cB f27))))))))))))
def f27a5 : RAnn := ⟨[14, 15], []⟩
noncomputable def f27o6 : Array Oper := cO (cL (cR (cL (cL (cR (cR (cL (cL (cR (cL (cR (cR (cB f27)))))))))))))
def f27a6 : RAnn := ⟨[5, 16, 17, 18, 19, 20, 21, 22, 23], []⟩
noncomputable def f27o7 : Array Oper := cO (cL (cL (cR (cR (cL (cL (cR (cR (cL (cL (cR (cL (cR (cR (cB f27)))))))))))))))
def f27a7 : RAnn := ⟨[0, 1, 12, 13, 24], []⟩
noncomputable def f27o8 : Array Oper := cO (cR (cR (cR (cL (cL (cR (cL (cR (cR (cB f27))))))))))
def f27a8 : RAnn := ⟨[24, 25], []⟩
noncomputable def f27o9 : Array Oper := cO (cL (cR (cR (cR (cB f27)))))
def f27a9 : RAnn := ⟨[0, 1, 12, 13, 14], []⟩
def f27b0 : Code := (.seq (.region 4 f27o4 false) (.seq (.cond (.tmp 14) .skip (.exit 0)) (.seq (.block 1 (.seq (.region 5 f27o5 false) (.seq (.region 6 f27o6 true) (.cond (.tmp 24) (.seq (.region 7 f27o7 false) .ret) .skip)))) (.region 8 f27o8 false))))
def f27c : Code := (.seq (.region 0 f27o0 false) (.seq (.seq (.region 1 f27o1 false) (.cond (.tmp 10) (.seq (.region 2 f27o2 false) .ret) .skip)) (.seq (.seq (.region 3 f27o3 false) (.block 0 (.loop f27b0))) (.seq (.region 9 f27o9 false) .ret))))
def f27n : List (Nat × RAnn) := [(0, f27a0), (1, f27a1), (2, f27a2), (3, f27a3), (4, f27a4), (5, f27a5), (6, f27a6), (7, f27a7), (8, f27a8), (9, f27a9)]
noncomputable def f12o0 : Array Oper := cO (cL (cB f12))
def f12a0 : RAnn := ⟨[4], []⟩
noncomputable def f12o1 : Array Oper := cO (cL (cR (cB f12)))
def f12a1 : RAnn := ⟨[0, 1, 5, 6, 7], []⟩
def f12c : Code := (.seq (.region 0 f12o0 false) (.seq (.region 1 f12o1 false) .ret))
def f12n : List (Nat × RAnn) := [(0, f12a0), (1, f12a1)]
noncomputable def f3o0 : Array Oper := cO (cL (cB f3))
def f3a0 : RAnn := ⟨[0, 4], []⟩
noncomputable def f3o1 : Array Oper := cO (cL (cL (cR (cB f3))))
def f3a1 : RAnn := ⟨[17, 18, 19, 20, 21, 22, 23, 24, 25, 26, 27, 28], []⟩
noncomputable def f3o2 : Array Oper := cO (cL (cL (cR (cL (cR (cB f3))))))
def f3a2 : RAnn := ⟨[1, 2, 29, 30], []⟩
noncomputable def f3o3 : Array Oper := cO (cL (cR (cR (cB f3))))
def f3a3 : RAnn := ⟨[29, 31, 32, 33, 34, 35, 36, 37, 38, 39, 40], []⟩
noncomputable def f3o4 : Array Oper := cO (cL (cR (cR (cR (cB f3)))))
def f3a4 : RAnn := ⟨[41, 42, 43, 44, 45, 46, 47, 48, 49, 50], []⟩
noncomputable def f3o5 : Array Oper := cO (cL (cR (cR (cR (cR (cB f3))))))
def f3a5 : RAnn := ⟨[51, 52, 53, 54, 55, 56, 57, 58, 59], []⟩
noncomputable def f3o6 : Array Oper := cO (cL (cR (cR (cR (cR (cR (cB f3)))))))
def f3a6 : RAnn := ⟨[60, 61, 62, 63, 64, 65, 66, 67, 68], []⟩
noncomputable def f3o7 : Array Oper := cO (cL (cL (cR (cR (cR (cR (cR (cR (cB f3)))))))))
def f3a7 : RAnn := ⟨[7, 8, 11, 12, 69, 70, 71, 72, 73, 74, 75, 76, 77, 78, 79, 80, 81, 82, 83, 84, 85, 86], []⟩
noncomputable def f3o8 : Array Oper := cO (cL (cL (cR (cL (cR (cR (cR (cR (cR (cR (cB f3)))))))))))
def f3a8 : RAnn := ⟨[1, 2, 5, 6, 9, 10, 87], []⟩
noncomputable def f3o9 : Array Oper := cO (cL (cL (cR (cR (cR (cR (cR (cR (cR (cB f3))))))))))
def f3a9 : RAnn := ⟨[6, 87, 88], []⟩
noncomputable def f3o10 : Array Oper := cO (cL (cL (cR (cL (cR (cR (cR (cR (cR (cR (cR (cB f3))))))))))))
def f3a10 : RAnn := ⟨[5, 89, 90, 91, 92, 93, 94, 95, 96, 97, 98], []⟩
noncomputable def f3o11 : Array Oper := cO (cL (cR (cL (cR (cL (cR (cR (cR (cR (cR (cR (cR (cB f3)))))))))))))
def f3a11 : RAnn := ⟨[13, 14, 99, 100, 101, 102, 103, 104, 105, 106], []⟩
noncomputable def f3o12 : Array Oper := cO (cL (cL (cR (cR (cL (cR (cL (cR (cR (cR (cR (cR (cR (cR (cB f3)))))))))))))))
def f3a12 : RAnn := ⟨[1, 2, 9, 10, 107], []⟩
noncomputable def f3o13 : Array Oper := cO (cL (cL (cR (cR (cR (cR (cR (cR (cR (cR (cB f3)))))))))))
def f3a13 : RAnn := ⟨[5, 10, 89, 107, 108], []⟩
noncomputable def f3o14 : Array Oper := cO (cL (cL (cR (cL (cR (cR (cR (cR (cR (cR (cR (cR (cB f3)))))))))))))
def f3a14 : RAnn := ⟨[2, 9, 109, 110, 111, 112, 113, 114, 115, 116, 117, 118], []⟩
noncomputable def f3o15 : Array Oper := cO (cL (cR (cL (cR (cL (cR (cR (cR (cR (cR (cR (cR (cR (cB f3))))))))))))))
def f3a15 : RAnn := ⟨[1, 15, 16, 119, 120, 121, 122, 123, 124], []⟩
noncomputable def f3o16 : Array Oper := cO (cL (cL (cR (cR (cL (cR (cL (cR (cR (cR (cR (cR (cR (cR (cR (cB f3))))))))))))))))
def f3a16 : RAnn := ⟨[125], []⟩
noncomputable def f3o17 : Array Oper := cO (cL (cR (cR (cR (cR (cR (cR (cR (cR (cR (cB f3)))))))))))
def f3a17 : RAnn := ⟨[1, 2, 9, 109, 125, 126], []⟩
def f3c : Code := (.seq (.region 0 f3o0 false) (.seq (.seq (.region 1 f3o1 false) (.cond (.tmp 29) (.seq (.region 2 f3o2 false) .ret) .skip)) (.seq (.region 3 f3o3 false) (.seq (.region 4 f3o4 false) (.seq (.region 5 f3o5 false) (.seq (.region 6 f3o6 false) (.seq (.seq (.region 7 f3o7 false) (.cond (.tmp 87) (.seq (.region 8 f3o8 false) .ret) .skip)) (.seq (.seq (.region 9 f3o9 false) (.cond (.tmp 89) (.seq (.region 10 f3o10 false) (.seq (.region 11 f3o11 false) (.cond (.tmp 107) (.seq (.region 12 f3o12 false) .ret) .skip))) .skip)) (.seq (.seq (.region 13 f3o13 false) (.cond (.tmp 109) (.seq (.region 14 f3o14 false) (.seq (.region 15 f3o15 false) (.cond (.tmp 125) (.seq (.region 16 f3o16 false) .ret) .skip))) .skip)) (.seq (.region 17 f3o17 false) .ret))))))))))
def f3n : List (Nat × RAnn) := [(0, f3a0), (1, f3a1), (2, f3a2), (3, f3a3), (4, f3a4), (5, f3a5), (6, f3a6), (7, f3a7), (8, f3a8), (9, f3a9), (10, f3a10), (11, f3a11), (12, f3a12), (13, f3a13), (14, f3a14), (15, f3a15), (16, f3a16), (17, f3a17)]
def ANNS : List (Nat × FAnn) := [(3, ⟨f3n, [], []⟩), (4, ⟨f4n, [], []⟩), (5, ⟨f5n, [], []⟩), (6, ⟨f6n, [], []⟩), (7, ⟨f7n, [], []⟩), (8, ⟨f8n, [], []⟩), (9, ⟨f9n, [], []⟩), (10, ⟨f10n, [], []⟩), (11, ⟨f11n, [], []⟩), (12, ⟨f12n, [], []⟩), (13, ⟨f13n, [], []⟩), (14, ⟨f14n, [], []⟩), (15, ⟨f15n, [], []⟩), (17, ⟨f17n, [], []⟩), (19, ⟨f19n, [], []⟩), (20, ⟨f20n, [], []⟩), (21, ⟨f21n, [], []⟩), (22, ⟨f22n, [], []⟩), (23, ⟨f23n, [], []⟩), (24, ⟨f24n, [], []⟩), (25, ⟨f25n, [], []⟩), (26, ⟨f26v20n, [], []⟩), (27, ⟨f27n, [], []⟩), (28, ⟨f28n, [], []⟩), (29, ⟨f29n, [], []⟩), (30, ⟨f30n, [], []⟩), (37, ⟨f37n, [], []⟩), (38, ⟨f38n, [], []⟩), (39, ⟨f39n, [], []⟩), (40, ⟨f40n, [], []⟩), (42, ⟨f42n, [], []⟩), (43, ⟨f43n, [], []⟩), (44, ⟨f44n, [], []⟩), (45, ⟨f45n, [], []⟩), (46, ⟨f46n, [], []⟩), (47, ⟨f47n, [], []⟩), (48, ⟨f48n, [], []⟩), (49, ⟨f49n, [], []⟩), (50, ⟨f50n, [], []⟩), (56, ⟨f56n, [], []⟩), (57, ⟨f57n, [], []⟩), (62, ⟨f62n, [], []⟩), (63, ⟨f63n, [], []⟩), (64, ⟨f64n, [], []⟩), (65, ⟨f65n, [], []⟩), (66, ⟨f66n, [], []⟩), (67, ⟨f67n, [], []⟩), (68, ⟨f68n, [], []⟩), (69, ⟨f69n, [], []⟩), (72, ⟨f72n, [], []⟩), (73, ⟨f73n, [], []⟩), (74, ⟨f74n, [], []⟩), (78, ⟨f78n, [], []⟩), (79, ⟨f79n, [], []⟩), (80, ⟨f80n, [], []⟩), (81, ⟨f81n, [], []⟩), (86, ⟨f86n, [], []⟩), (87, ⟨f87n, [], []⟩), (88, ⟨f88n, [], []⟩), (89, ⟨f89n, [], []⟩), (90, ⟨f90n, [], []⟩), (96, ⟨f96n, [], []⟩), (97, ⟨f97n, [], []⟩), (98, ⟨f98n, [], []⟩), (99, ⟨f99n, [], []⟩), (100, ⟨f100n, [], []⟩), (101, ⟨f101n, [], []⟩), (103, ⟨f103n, [], []⟩), (104, ⟨f104n, [], []⟩), (105, ⟨f105n, [], []⟩), (107, ⟨f107n, [], []⟩), (108, ⟨f108n, [], []⟩)]
def anns : FuncId → FAnn := fun f => (look f ANNS).getD {}
def ext : ExtH := fun f args => bif Nat.beq f 82 then some (extReverseInt args) else bif Nat.beq f 16 then some (extStrRep args) else bif Nat.beq f 18 then some (extStrJoin args) else bif Nat.beq f 41 then some (extTrimR args) else none
noncomputable abbrev EV (k : Nat) : CallH := evF prog anns ext k
noncomputable abbrev RE (k : Nat) (a : RAnn) (o : Array Oper) (d : Bool) (s : St) : Option St := regionE prog (EV k) a o d s
abbrev I (n : Int) : V := .int .i64 n
abbrev sType (l : List T_api_Type) : V := .sl 0 8 (List.map eType l)
abbrev sField (l : List T_api_Field) : V := .sl 0 3 (List.map eField l)
abbrev sSearch (l : List T_api_Search) : V := .sl 0 4 (List.map eSearch l)
abbrev sTerm (l : List T_api_Term) : V := .sl 0 3 (List.map eTerm l)
abbrev sI (l : List Int) : V := .sl 0 1 (List.map I l)
def law12_Large_fin : Bool → V × List V := fun r => ((Bo r), [])
theorem law12_Large_L2_ok (k : Nat) (a0 : T_api_Base) (x17 : Int)  (K0 : Int → Option Bool) (Kst : X × St → Option (V × List V)) (hK0 : ∀ (y0 : Int), Kst (X.exit 2, ⟨[(1, (Pt 1)), (3, (I x17)), (4, (I y0)), (55, (Bo false))], [(1, vS 4 (eBase a0))], 95⟩) = (K0 y0).map law12_Large_fin) (hret : ∀ s, Kst (X.ret, s) = endK prog 95 [(eBase a0)] [] [.tmp 2] (X.ret, s)) :
    ∀ (m : Nat) (x26 : Int), (iter (exec prog (EV k) f4n k f4b0) m ⟨[(1, (Pt 1)), (3, (I x17)), (4, (I x26))], [(1, vS 4 (eBase a0))], 95⟩).bind Kst = (law12_Large_L2 a0 x17 K0 m x26).map law12_Large_fin := by
  intro m
  induction m with
  | zero => intros; rfl
  | succ m ih =>
    intro x26
    unfold law12_Large_L2
    refine et k_round <| et k_assoc <| kga f4a9 rfl (fun (o28 : Bool) => [(55, (Bo o28))]) (rd 4 [(47, (I x26)), (48, (V.ptr 1 0 2)), (49, (sType a0.fTypes)), (50, (I x17))] rfl rfl <| rp rfl (p_index (e := eType) rfl rfl rfl underlying22 rfl (by decide)) fun v27 => bd 7 [(51, (Pr (eType v27))), (52, (Pr (sField v27.fFields))), (53, (sField v27.fFields))] rfl rfl <| rl rfl (p_len (e := eField) rfl rfl rfl rfl rfl rfl underlying39) <| bind_end rfl) fun o28 => kc rfl rfl (fun hc => ?_) fun hc => ?_
    · rw [hc]
      refine et k_skip <| et (k_block rfl) <| kg f4a11 rfl (fun (o31 : Bool) => ⟨[(1, (Pt 1)), (3, (I x17)), (4, (I x26)), (69, (Bo o31))], [(1, vS 4 (eBase a0))], 95⟩) (rd 3 [(58, (V.ptr 1 0 2)), (59, (sType a0.fTypes)), (60, (I x17))] rfl rfl <| rp rfl (p_index (e := eType) rfl rfl rfl underlying22 rfl (by decide)) fun v29 => bd 7 [(61, (Pr (eType v29))), (62, (Pr (sField v29.fFields))), (63, (sField v29.fFields)), (64, (I x26))] rfl rfl <| rp rfl (p_index (e := eField) rfl rfl rfl underlying39 rfl (by decide)) fun v30 => bind_end rfl) fun o31 => kcl rfl rfl (fun hc => ?_) fun hc => ?_
      · rw [hc]
        refine kr ⟨[(2, (Bo true))], [], 95⟩ rfl <| et k_lret <| et blk_ret <| et loop_ret <| et (hret _) ?_
        rfl
      · rw [hc]
        exact et k_lskip <| et blk_normal <| kl ⟨[(1, (Pt 1)), (3, (I x17)), (4, (I (Go.IntKind.wrap .i64 (x26 + 1))))], [(1, vS 4 (eBase a0))], 95⟩ rfl <| et loop_normal <| ih (Go.IntKind.wrap .i64 (x26 + 1))
    · rw [hc]
      exact et k_exit <| et loop_exit <| hK0 x26
theorem law12_Large_L1_ok (k : Nat) (a0 : T_api_Base)  (K0 : Int → Option Bool) (Kst : X × St → Option (V × List V)) (hK0 : ∀ (y0 : Int), Kst (X.exit 0, ⟨[(1, (Pt 1)), (3, (I y0)), (26, (Bo false))], [(1, vS 4 (eBase a0))], 95⟩) = (K0 y0).map law12_Large_fin) (hret : ∀ s, Kst (X.ret, s) = endK prog 95 [(eBase a0)] [] [.tmp 2] (X.ret, s)) :
    ∀ (m : Nat) (x17 : Int), (iter (exec prog (EV k) f4n k f4b1) m ⟨[(1, (Pt 1)), (3, (I x17))], [(1, vS 4 (eBase a0))], 95⟩).bind Kst = (law12_Large_L1 k a0 K0 m x17).map law12_Large_fin := by
  intro m
  induction m with
  | zero => intros; rfl
  | succ m ih =>
    intro x17
    unfold law12_Large_L1
    refine et k_round <| et k_assoc <| krp f4a4 rfl ⟨[(1, (Pt 1)), (3, (I x17)), (26, (Bo (decide (x17 < (a0.fTypes.length : Int)))))], [(1, vS 4 (eBase a0))], 95⟩ ?_ ?_
    · exact rd 3 [(22, (I x17)), (23, (V.ptr 1 0 2)), (24, (sType a0.fTypes))] rfl rfl <| rl rfl (p_len (e := eType) rfl rfl rfl rfl rfl rfl underlying22) <| bind_end rfl
    refine kc rfl rfl (fun hc => ?_) fun hc => ?_
    · rw [hc]
      refine et k_skip <| et (k_block rfl) <| et k_assoc <| kg f4a6 rfl (fun (o20 : Bool) => ⟨[(1, (Pt 1)), (3, (I x17)), (46, (Bo o20))], [(1, vS 4 (eBase a0))], 95⟩) ?_ fun o20 => ?_
      · refine rd 3 [(29, (V.ptr 1 0 2)), (30, (sType a0.fTypes)), (31, (I x17))] rfl rfl <| rp rfl (p_index (e := eType) rfl rfl rfl underlying22 rfl (by decide)) fun v18 => bd 6 [(32, (Pr (eType v18))), (33, (Pr (sField v18.fFields))), (34, (sField v18.fFields))] rfl rfl <| rl rfl (p_len (e := eField) rfl rfl rfl rfl rfl rfl underlying39) <| bd 9 [(35, (I (v18.fFields.length : Int))), (36, (Bo (decide ((v18.fFields.length : Int) > 20)))), (37, (Bo (decide ((v18.fFields.length : Int) > 20))))] rfl rfl <| bifE (fun hc => ?_) fun hc => ?_
        · rw [hc]
          exact reg_end rfl
        · rw [hc]
          exact rd 12 [(38, (V.ptr 1 0 2)), (39, (sType a0.fTypes)), (40, (I x17))] rfl rfl <| rp rfl (p_index (e := eType) rfl rfl rfl underlying22 rfl (by decide)) fun v19 => bind_end rfl
      refine kc rfl rfl (fun hc => ?_) fun hc => ?_
      · rw [hc]
        refine et k_assoc <| kr ⟨[(2, (Bo true))], [], 95⟩ rfl <| et k_ret <| et blk_ret <| et loop_ret <| et (hret _) ?_
        rfl
      · rw [hc]
        refine et k_skip <| kr ⟨[(1, (Pt 1)), (3, (I x17)), (4, (I 0))], [(1, vS 4 (eBase a0))], 95⟩ rfl <| et (k_lblock rfl) <| et k_loop ?_
        refine law12_Large_L2_ok k a0 x17 _ _ ?h_law12_Large_L2_0 ?hr_law12_Large_L2 k 0
        · intro y32
          exact et blk_exit <| et k_lskip <| et blk_normal <| kl ⟨[(1, (Pt 1)), (3, (I (Go.IntKind.wrap .i64 (x17 + 1))))], [(1, vS 4 (eBase a0))], 95⟩ rfl <| et loop_normal <| ih (Go.IntKind.wrap .i64 (x17 + 1))
        · intro s; exact hret s
    · rw [hc]
      exact et k_exit <| et loop_exit <| hK0 x17
theorem law12_Large_L3_ok (k : Nat) (a0 : T_api_Base)  (K0 : Int → Option Bool) (Kst : X × St → Option (V × List V)) (hK0 : ∀ (y0 : Int), Kst (X.exit 4, ⟨[(1, (Pt 1)), (5, (I y0)), (74, (Bo false))], [(1, vS 4 (eBase a0))], 95⟩) = (K0 y0).map law12_Large_fin) (hret : ∀ s, Kst (X.ret, s) = endK prog 95 [(eBase a0)] [] [.tmp 2] (X.ret, s)) :
    ∀ (m : Nat) (x37 : Int), (iter (exec prog (EV k) f4n k f4b2) m ⟨[(1, (Pt 1)), (5, (I x37))], [(1, vS 4 (eBase a0))], 95⟩).bind Kst = (law12_Large_L3 a0 K0 m x37).map law12_Large_fin := by
  intro m
  induction m with
  | zero => intros; rfl
  | succ m ih =>
    intro x37
    unfold law12_Large_L3
    refine et k_round <| et k_assoc <| krp f4a14 rfl ⟨[(1, (Pt 1)), (5, (I x37)), (74, (Bo (decide (x37 < (a0.fIndexes.length : Int)))))], [(1, vS 4 (eBase a0))], 95⟩ ?_ ?_
    · exact rd 3 [(70, (I x37)), (71, (V.ptr 1 0 3)), (72, (sSearch a0.fIndexes))] rfl rfl <| rl rfl (p_len (e := eSearch) rfl rfl rfl rfl rfl rfl underlying23) <| bind_end rfl
    refine kc rfl rfl (fun hc => ?_) fun hc => ?_
    · rw [hc]
      refine et k_skip <| et (k_block rfl) <| kg f4a16 rfl (fun (o40 : Bool) => ⟨[(1, (Pt 1)), (5, (I x37)), (94, (Bo o40))], [(1, vS 4 (eBase a0))], 95⟩) ?_ fun o40 => ?_
      · refine rd 3 [(77, (V.ptr 1 0 3)), (78, (sSearch a0.fIndexes)), (79, (I x37))] rfl rfl <| rp rfl (p_index (e := eSearch) rfl rfl rfl underlying23 rfl (by decide)) fun v38 => bd 9 [(80, (Pr (eSearch v38))), (81, (Pr (Sr v38.fName))), (82, (Sr v38.fName)), (83, (I (v38.fName.length : Int))), (84, (Bo (decide ((v38.fName.length : Int) > 40)))), (85, (Bo (decide ((v38.fName.length : Int) > 40))))] rfl rfl <| bifE (fun hc => ?_) fun hc => ?_
        · rw [hc]
          exact reg_end rfl
        · rw [hc]
          exact rd 12 [(86, (V.ptr 1 0 3)), (87, (sSearch a0.fIndexes)), (88, (I x37))] rfl rfl <| rp rfl (p_index (e := eSearch) rfl rfl rfl underlying23 rfl (by decide)) fun v39 => bind_end rfl
      refine kcl rfl rfl (fun hc => ?_) fun hc => ?_
      · rw [hc]
        refine kr ⟨[(2, (Bo true))], [], 95⟩ rfl <| et k_lret <| et blk_ret <| et loop_ret <| et (hret _) ?_
        rfl
      · rw [hc]
        exact et k_lskip <| et blk_normal <| kl ⟨[(1, (Pt 1)), (5, (I (Go.IntKind.wrap .i64 (x37 + 1))))], [(1, vS 4 (eBase a0))], 95⟩ rfl <| et loop_normal <| ih (Go.IntKind.wrap .i64 (x37 + 1))
    · rw [hc]
      exact et k_exit <| et loop_exit <| hK0 x37
theorem law12_Large_ok (k : Nat) (a0 : T_api_Base) : EV k 4 [(eBase a0)] = (law12_Large k a0).map law12_Large_fin := by
  cases k with
  | zero => rfl
  | succ k =>
    unfold law12_Large
    refine et (evF_succ (c := f4c) (N := 95) (regs := f4n) rfl func4 rfl (by decide) rfl rfl rfl) <| kr ⟨[(1, (Pt 1))], [(1, vS 4 (eBase a0))], 95⟩ rfl <| et k_assoc <| kga f4a1 rfl (fun (o1 : Bool) => [(21, (Bo o1))]) ?_ fun o1 => ?_
    · refine rd 2 [(6, (V.ptr 1 0 2)), (7, (sType a0.fTypes))] rfl rfl <| rl rfl (p_len (e := eType) rfl rfl rfl rfl rfl rfl underlying22) <| bd 5 [(8, (I (a0.fTypes.length : Int))), (9, (Bo (decide ((a0.fTypes.length : Int) > 20)))), (10, (Bo (decide ((a0.fTypes.length : Int) > 20))))] rfl rfl <| bifE (fun hc => ?_) fun hc => ?_
      · rw [hc]
        exact reg_end rfl
      · rw [hc]
        refine rd 7 [(11, (V.ptr 1 0 3)), (12, (sSearch a0.fIndexes))] rfl rfl <| rl rfl (p_len (e := eSearch) rfl rfl rfl rfl rfl rfl underlying23) <| bd 11 [(13, (I (a0.fIndexes.length : Int))), (14, (Bo (decide ((a0.fIndexes.length : Int) > 20)))), (15, (Bo (decide ((a0.fIndexes.length : Int) > 20)))), (16, (Bo (decide ((a0.fIndexes.length : Int) > 20))))] rfl rfl <| bifE (fun hc => ?_) fun hc => ?_
        · rw [hc]
          exact reg_end rfl
        · rw [hc]
          exact reg_end rfl
    refine kc rfl rfl (fun hc => ?_) fun hc => ?_
    · rw [hc]
      refine et k_assoc <| kr ⟨[(2, (Bo true))], [], 95⟩ rfl <| et k_ret ?_
      rfl
    · rw [hc]
      refine et k_skip <| et k_assoc <| kr ⟨[(1, (Pt 1)), (3, (I 0))], [(1, vS 4 (eBase a0))], 95⟩ rfl <| et (k_block rfl) <| et k_loop ?_
      refine law12_Large_L1_ok k a0 _ _ ?h_law12_Large_L1_0 ?hr_law12_Large_L1 k 0
      · intro y33
        refine et blk_exit <| et k_assoc <| kr ⟨[(1, (Pt 1)), (5, (I 0))], [(1, vS 4 (eBase a0))], 95⟩ rfl <| et (k_block rfl) <| et k_loop ?_
        refine law12_Large_L3_ok k a0 _ _ ?h_law12_Large_L3_0 ?hr_law12_Large_L3 k 0
        · intro y41
          refine et blk_exit <| kr ⟨[(2, (Bo false))], [], 95⟩ rfl <| et k_lret ?_
          rfl
        · intro s; exact rfl
      · intro s; exact rfl
def law12_Long_fin : Bool → V × List V := fun r => ((Bo r), [])
theorem law12_Long_L2_ok (k : Nat) (a0 : (List (List T_api_Term))) (x19 : Int)  (K0 : Int → Option Bool) (Kst : X × St → Option (V × List V)) (hK0 : ∀ (y0 : Int), Kst (X.exit 2, ⟨[(0, (V.sl 0 1 (List.map sTerm a0))), (3, (I x19)), (4, (I y0)), (23, (Bo false))], [], 51⟩) = (K0 y0).map law12_Long_fin) (hret : ∀ s, Kst (X.ret, s) = endK prog 51 [(V.sl 0 1 (List.map sTerm a0))] [] [.tmp 2] (X.ret, s)) :
    ∀ (m : Nat) (x29 : Int), (iter (exec prog (EV k) f5n k f5b0) m ⟨[(0, (V.sl 0 1 (List.map sTerm a0))), (3, (I x19)), (4, (I x29))], [], 51⟩).bind Kst = (law12_Long_L2 a0 x19 K0 m x29).map law12_Long_fin := by
  intro m
  induction m with
  | zero => intros; rfl
  | succ m ih =>
    intro x29
    unfold law12_Long_L2
    refine et k_round <| et k_assoc <| kga f5a7 rfl (fun (o31 : Bool) => [(23, (Bo o31))]) (rd 3 [(17, (I x29)), (18, (V.sl 0 1 (List.map sTerm a0))), (19, (I x19))] rfl rfl <| rp rfl (p_index (e := sTerm) rfl rfl rfl underlying26 rfl (by decide)) fun v30 => bd 5 [(20, (Pr (sTerm v30))), (21, (sTerm v30))] rfl rfl <| rl rfl (p_len (e := eTerm) rfl rfl rfl rfl rfl rfl underlying46) <| bind_end rfl) fun o31 => kc rfl rfl (fun hc => ?_) fun hc => ?_
    · rw [hc]
      refine et k_skip <| et (k_block rfl) <| kg f5a9 rfl (fun (o36 : Bool) => ⟨[(0, (V.sl 0 1 (List.map sTerm a0))), (3, (I x19)), (4, (I x29)), (47, (Bo o36))], [], 51⟩) ?_ fun o36 => ?_
      · refine rd 2 [(26, (V.sl 0 1 (List.map sTerm a0))), (27, (I x19))] rfl rfl <| rp rfl (p_index (e := sTerm) rfl rfl rfl underlying26 rfl (by decide)) fun v32 => bd 5 [(28, (Pr (sTerm v32))), (29, (sTerm v32)), (30, (I x29))] rfl rfl <| rp rfl (p_index (e := eTerm) rfl rfl rfl underlying46 rfl (by decide)) fun v33 => bd 11 [(31, (Pr (eTerm v33))), (32, (Pr (Sr v33.fField))), (33, (Sr v33.fField)), (34, (I (v33.fField.length : Int))), (35, (Bo (decide ((v33.fField.length : Int) > 100)))), (36, (Bo (decide ((v33.fField.length : Int) > 100))))] rfl rfl <| bifE (fun hc => ?_) fun hc => ?_
        · rw [hc]
          exact reg_end rfl
        · rw [hc]
          exact rd 13 [(37, (V.sl 0 1 (List.map sTerm a0))), (38, (I x19))] rfl rfl <| rp rfl (p_index (e := sTerm) rfl rfl rfl underlying26 rfl (by decide)) fun v34 => bd 16 [(39, (Pr (sTerm v34))), (40, (sTerm v34)), (41, (I x29))] rfl rfl <| rp rfl (p_index (e := eTerm) rfl rfl rfl underlying46 rfl (by decide)) fun v35 => bind_end rfl
      refine kcl rfl rfl (fun hc => ?_) fun hc => ?_
      · rw [hc]
        refine kr ⟨[(2, (Bo true))], [], 51⟩ rfl <| et k_lret <| et blk_ret <| et loop_ret <| et (hret _) ?_
        rfl
      · rw [hc]
        exact et k_lskip <| et blk_normal <| kl ⟨[(0, (V.sl 0 1 (List.map sTerm a0))), (3, (I x19)), (4, (I (Go.IntKind.wrap .i64 (x29 + 1))))], [], 51⟩ rfl <| et loop_normal <| ih (Go.IntKind.wrap .i64 (x29 + 1))
    · rw [hc]
      exact et k_exit <| et loop_exit <| hK0 x29
theorem law12_Long_L1_ok (k : Nat) (a0 : (List (List T_api_Term)))  (K0 : Int → Option Bool) (Kst : X × St → Option (V × List V)) (hK0 : ∀ (y0 : Int), Kst (X.exit 0, ⟨[(0, (V.sl 0 1 (List.map sTerm a0))), (3, (I y0)), (8, (Bo false))], [], 51⟩) = (K0 y0).map law12_Long_fin) (hret : ∀ s, Kst (X.ret, s) = endK prog 51 [(V.sl 0 1 (List.map sTerm a0))] [] [.tmp 2] (X.ret, s)) :
    ∀ (m : Nat) (x19 : Int), (iter (exec prog (EV k) f5n k f5b1) m ⟨[(0, (V.sl 0 1 (List.map sTerm a0))), (3, (I x19))], [], 51⟩).bind Kst = (law12_Long_L1 k a0 K0 m x19).map law12_Long_fin := by
  intro m
  induction m with
  | zero => intros; rfl
  | succ m ih =>
    intro x19
    unfold law12_Long_L1
    refine et k_round <| et k_assoc <| krp f5a2 rfl ⟨[(0, (V.sl 0 1 (List.map sTerm a0))), (3, (I x19)), (8, (Bo (decide (x19 < (a0.length : Int)))))], [], 51⟩ ?_ ?_
    · exact rd 2 [(5, (I x19)), (6, (V.sl 0 1 (List.map sTerm a0)))] rfl rfl <| rl rfl (p_len (e := sTerm) rfl rfl rfl rfl rfl rfl underlying26) <| bind_end rfl
    refine kc rfl rfl (fun hc => ?_) fun hc => ?_
    · rw [hc]
      refine et k_skip <| et (k_block rfl) <| et k_assoc <| kg f5a4 rfl (fun (o21 : Bool) => ⟨[(0, (V.sl 0 1 (List.map sTerm a0))), (3, (I x19)), (16, (Bo o21))], [], 51⟩) (rd 2 [(11, (V.sl 0 1 (List.map sTerm a0))), (12, (I x19))] rfl rfl <| rp rfl (p_index (e := sTerm) rfl rfl rfl underlying26 rfl (by decide)) fun v20 => bd 4 [(13, (Pr (sTerm v20))), (14, (sTerm v20))] rfl rfl <| rl rfl (p_len (e := eTerm) rfl rfl rfl rfl rfl rfl underlying46) <| bind_end rfl) fun o21 => kc rfl rfl (fun hc => ?_) fun hc => ?_
      · rw [hc]
        refine et k_assoc <| kr ⟨[(2, (Bo true))], [], 51⟩ rfl <| et k_ret <| et blk_ret <| et loop_ret <| et (hret _) ?_
        rfl
      · rw [hc]
        refine et k_skip <| kr ⟨[(0, (V.sl 0 1 (List.map sTerm a0))), (3, (I x19)), (4, (I 0))], [], 51⟩ rfl <| et (k_lblock rfl) <| et k_loop ?_
        refine law12_Long_L2_ok k a0 x19 _ _ ?h_law12_Long_L2_0 ?hr_law12_Long_L2 k 0
        · intro y37
          exact et blk_exit <| et k_lskip <| et blk_normal <| kl ⟨[(0, (V.sl 0 1 (List.map sTerm a0))), (3, (I (Go.IntKind.wrap .i64 (x19 + 1))))], [], 51⟩ rfl <| et loop_normal <| ih (Go.IntKind.wrap .i64 (x19 + 1))
        · intro s; exact hret s
    · rw [hc]
      exact et k_exit <| et loop_exit <| hK0 x19
theorem law12_Long_ok (k : Nat) (a0 : (List (List T_api_Term))) : EV k 5 [(V.sl 0 1 (List.map sTerm a0))] = (law12_Long k a0).map law12_Long_fin := by
  cases k with
  | zero => rfl
  | succ k =>
    unfold law12_Long
    refine et (evF_succ (c := f5c) (N := 51) (regs := f5n) rfl func5 rfl (by decide) rfl rfl rfl) <| kra [] rfl <| et k_assoc <| kra [(3, (I 0))] rfl <| et (k_block rfl) <| et k_loop ?_
    refine law12_Long_L1_ok k a0 _ _ ?h_law12_Long_L1_0 ?hr_law12_Long_L1 k 0
    · intro y38
      refine et blk_exit <| krp f5a11 rfl ⟨[(2, (Bo (decide ((a0.length : Int) > 20))))], [], 51⟩ ?_ ?_
      · exact rd 1 [(48, (V.sl 0 1 (List.map sTerm a0)))] rfl rfl <| rl rfl (p_len (e := sTerm) rfl rfl rfl rfl rfl rfl underlying26) <| bind_end rfl
      refine et k_lret ?_
      rfl
    · intro s; exact rfl
def law12_shop_fin : T_api_Base → V × List V := fun r => ((eBase r), [])
theorem law12_shop_ok (k : Nat)  : EV k 13 [] = (law12_shop k).map law12_shop_fin := by
  cases k with
  | zero => rfl
  | succ k =>
    unfold law12_shop
    refine et (evF_succ (c := f13c) (N := 6) (regs := f13n) rfl func13 rfl (by decide) rfl rfl rfl) <| kr ⟨[(0, (Pt 0))], [(0, ⟨false, 4, [(V.agg [(Sr []), (I 0), (V.sl 2 8 (List.map eType ([] : List T_api_Type))), (V.sl 2 4 (List.map eSearch ([] : List T_api_Search)))])]⟩)], 6⟩ rfl <| kr ⟨[(0, (Pt 0))], [(0, ⟨false, 4, [(eBase ({ fName := ([83, 72, 79, 80] : Str), fKind := 4, fTypes := ([({ fName := ([67, 85, 83, 84] : Str), fParent := (-1), fMin := 4, fSize := 10, fFields := ([({ fName := ([67, 85, 83, 84, 78, 79] : Str), fAt := 0, fBytes := 4 } : T_api_Field)] : List T_api_Field), fKey := 0, fUnique := true, fLast := false } : T_api_Type)] : List T_api_Type), fIndexes := ([] : List T_api_Search) } : T_api_Base))]⟩)], 6⟩ rfl <| et k_lret ?_
    rfl
def dbd_IsName_fin : Bool → V × List V := fun r => ((Bo r), [])
theorem dbd_IsName_L1_ok (k : Nat) (a0 : Str)  (K0 : Int → Option Bool) (Kst : X × St → Option (V × List V)) (hK0 : ∀ (y0 : Int), Kst (X.exit 0, ⟨[(0, (Sr a0)), (6, (I (a0.length : Int))), (7, (I y0)), (8, (Bo false))], [], 47⟩) = (K0 y0).map dbd_IsName_fin) (hret : ∀ s, Kst (X.ret, s) = endK prog 47 [(Sr a0)] [] [.tmp 2] (X.ret, s)) :
    ∀ (m : Nat) (x7 : Int), (iter (exec prog (EV k) f87n k f87b0) m ⟨[(0, (Sr a0)), (6, (I (a0.length : Int))), (7, (I x7))], [], 47⟩).bind Kst = (dbd_IsName_L1 a0 K0 m x7).map dbd_IsName_fin := by
  intro m
  induction m with
  | zero => intros; rfl
  | succ m ih =>
    intro x7
    unfold dbd_IsName_L1
    refine et k_round <| kra [(8, (Bo (decide (x7 < (a0.length : Int)))))] rfl <| kc rfl rfl (fun hc => ?_) fun hc => ?_
    · rw [hc]
      refine et k_skip <| et (k_block rfl) <| kr ⟨[(0, (Sr a0)), (3, (I x7)), (6, (I (a0.length : Int))), (7, (I x7))], [], 47⟩ rfl <| kg f87a4 rfl (fun (o10 : Bool) => ⟨[(0, (Sr a0)), (3, (I x7)), (4, (Bo o10)), (6, (I (a0.length : Int))), (7, (I x7))], [], 47⟩) ?_ fun o10 => ?_
      · refine rd 2 [(10, (Sr a0)), (11, (I x7))] rfl rfl <| rp rfl (p_indexS rfl rfl rfl underlying9) fun v8 => bd 5 [(12, (V.int .u8 v8)), (13, (Bo (decide (v8 ≥ 65)))), (14, (Bo (decide (v8 ≥ 65))))] rfl rfl <| bifE (fun hc => ?_) fun hc => ?_
        · rw [hc]
          exact rd 7 [(15, (Sr a0)), (16, (I x7))] rfl rfl <| rp rfl (p_indexS rfl rfl rfl underlying9) fun v9 => bind_end rfl
        · rw [hc]
          exact reg_end rfl
      refine kg f87a5 rfl (fun (o13 : Bool) => ⟨[(0, (Sr a0)), (6, (I (a0.length : Int))), (7, (I x7)), (37, (Bo o13))], [], 47⟩) ?_ fun o13 => ?_
      · refine rd 3 [(20, (Bo o10)), (21, (Bo (!o10))), (22, (Bo (!o10)))] rfl rfl <| bifE (fun hc => ?_) fun hc => ?_
        · rw [hc]
          refine rd 6 [(23, (I x7)), (24, (Bo (x7 == 0))), (25, (Bo (x7 == 0)))] rfl rfl <| bifE (fun hc => ?_) fun hc => ?_
          · rw [hc]
            exact reg_end rfl
          · rw [hc]
            refine rd 8 [(26, (Sr a0)), (27, (I x7))] rfl rfl <| rp rfl (p_indexS rfl rfl rfl underlying9) fun v11 => bd 12 [(28, (V.int .u8 v11)), (29, (Bo (decide (v11 < 48)))), (30, (Bo (decide (v11 < 48)))), (31, (Bo (decide (v11 < 48))))] rfl rfl <| bifE (fun hc => ?_) fun hc => ?_
            · rw [hc]
              exact reg_end rfl
            · rw [hc]
              exact rd 14 [(32, (Sr a0)), (33, (I x7))] rfl rfl <| rp rfl (p_indexS rfl rfl rfl underlying9) fun v12 => bind_end rfl
        · rw [hc]
          exact reg_end rfl
      refine kcl rfl rfl (fun hc => ?_) fun hc => ?_
      · rw [hc]
        refine kr ⟨[(2, (Bo false))], [], 47⟩ rfl <| et k_lret <| et blk_ret <| et loop_ret <| et (hret _) ?_
        rfl
      · rw [hc]
        exact et k_lskip <| et blk_normal <| kl ⟨[(0, (Sr a0)), (6, (I (a0.length : Int))), (7, (I (Go.IntKind.wrap .i64 (x7 + 1))))], [], 47⟩ rfl <| et loop_normal <| ih (Go.IntKind.wrap .i64 (x7 + 1))
    · rw [hc]
      exact et k_exit <| et loop_exit <| hK0 x7
theorem dbd_IsName_ok (k : Nat) (a0 : Str) : EV k 87 [(Sr a0)] = (dbd_IsName k a0).map dbd_IsName_fin := by
  cases k with
  | zero => rfl
  | succ k =>
    unfold dbd_IsName
    refine et (evF_succ (c := f87c) (N := 47) (regs := f87n) rfl func87 rfl (by decide) rfl rfl rfl) <| kra [] rfl <| et k_assoc <| kra [(6, (I (a0.length : Int))), (7, (I 0))] rfl <| et (k_block rfl) <| et k_loop ?_
    refine dbd_IsName_L1_ok k a0 _ _ ?h_dbd_IsName_L1_0 ?hr_dbd_IsName_L1 k 0
    · intro y14
      refine et blk_exit <| kg f87a8 rfl (fun (o15 : Bool) => ⟨[(2, (Bo o15))], [], 47⟩) ?_ fun o15 => ?_
      · refine rd 4 [(39, (Sr a0)), (40, (I (a0.length : Int))), (41, (Bo (decide ((a0.length : Int) ≥ 1)))), (42, (Bo (decide ((a0.length : Int) ≥ 1))))] rfl rfl <| bifE (fun hc => ?_) fun hc => ?_
        · rw [hc]
          exact reg_end rfl
        · rw [hc]
          exact reg_end rfl
      refine et k_lret ?_
      rfl
    · intro s; exact rfl
def slices_IndexFunc_Field_fin : Int → V × List V := fun r => ((I r), [])
theorem slices_IndexFunc_Field_L1_ok (k : Nat) (a0 : (List T_api_Field)) (a1 : Nat → T_api_Field → Option Bool) (a1_fid : Go.FuncId) (a1_c0 : V) (a1_hok : ∀ j x0, EV j a1_fid [(eField x0), V.pro a1_c0] = (a1 j x0).map fun b => ((Bo b), [])) (K0 : Int → Option Int) (Kst : X × St → Option (V × List V)) (hK0 : ∀ (y0 : Int), Kst (X.exit 0, ⟨[(0, (sField a0)), (1, (V.fn a1_fid [] [V.pro a1_c0])), (7, (I (a0.length : Int))), (8, (I y0)), (9, (Bo false))], [], 19⟩) = (K0 y0).map slices_IndexFunc_Field_fin) (hret : ∀ s, Kst (X.ret, s) = endK prog 19 [(sField a0), (V.fn a1_fid [] [V.pro a1_c0])] [] [.tmp 4] (X.ret, s)) :
    ∀ (m : Nat) (x4 : Int), (iter (exec prog (EV k) f62n k f62b0) m ⟨[(0, (sField a0)), (1, (V.fn a1_fid [] [V.pro a1_c0])), (7, (I (a0.length : Int))), (8, (I x4))], [], 19⟩).bind Kst = (slices_IndexFunc_Field_L1 k a0 a1 K0 m x4).map slices_IndexFunc_Field_fin := by
  intro m
  induction m with
  | zero => intros; rfl
  | succ m ih =>
    intro x4
    unfold slices_IndexFunc_Field_L1
    refine et k_round <| kra [(9, (Bo (decide (x4 < (a0.length : Int)))))] rfl <| kc rfl rfl (fun hc => ?_) fun hc => ?_
    · rw [hc]
      refine et k_skip <| et (k_block rfl) <| kr ⟨[(0, (sField a0)), (1, (V.fn a1_fid [] [V.pro a1_c0])), (5, (I x4)), (7, (I (a0.length : Int))), (8, (I x4))], [], 19⟩ rfl <| kga f62a4 rfl (fun (o7 : Bool) => [(16, (Bo o7))]) (rd 3 [(11, (V.fn a1_fid [] [V.pro a1_c0])), (12, (sField a0)), (13, (I x4))] rfl rfl <| rp rfl (p_index (e := eField) rfl rfl rfl underlying39 rfl (by decide)) fun v5 => bd 5 [(14, (Pr (eField v5))), (15, (eField v5))] rfl rfl <| rs rfl (p_call rfl rfl rfl rfl rfl (a1_hok k v5) (.inl rfl)) fun v6 => bind_end rfl) fun o7 => kcl rfl rfl (fun hc => ?_) fun hc => ?_
      · rw [hc]
        refine kr ⟨[(4, (I x4))], [], 19⟩ rfl <| et k_lret <| et blk_ret <| et loop_ret <| et (hret _) ?_
        rfl
      · rw [hc]
        exact et k_lskip <| et blk_normal <| kl ⟨[(0, (sField a0)), (1, (V.fn a1_fid [] [V.pro a1_c0])), (7, (I (a0.length : Int))), (8, (I (Go.IntKind.wrap .i64 (x4 + 1))))], [], 19⟩ rfl <| et loop_normal <| ih (Go.IntKind.wrap .i64 (x4 + 1))
    · rw [hc]
      exact et k_exit <| et loop_exit <| hK0 x4
theorem slices_IndexFunc_Field_ok (k : Nat) (a0 : (List T_api_Field)) (a1 : Nat → T_api_Field → Option Bool) (a1_fid : Go.FuncId) (a1_c0 : V) (a1_hok : ∀ j x0, EV j a1_fid [(eField x0), V.pro a1_c0] = (a1 j x0).map fun b => ((Bo b), [])) : EV k 62 [(sField a0), (V.fn a1_fid [] [V.pro a1_c0])] = (slices_IndexFunc_Field k a0 a1).map slices_IndexFunc_Field_fin := by
  cases k with
  | zero => rfl
  | succ k =>
    unfold slices_IndexFunc_Field
    refine et (evF_succ (c := f62c) (N := 19) (regs := f62n) rfl func62 rfl (by decide) rfl rfl rfl) <| kra [] rfl <| et k_assoc <| krp f62a1 rfl ⟨[(0, (sField a0)), (1, (V.fn a1_fid [] [V.pro a1_c0])), (7, (I (a0.length : Int))), (8, (I 0))], [], 19⟩ ?_ ?_
    · exact rd 1 [(6, (sField a0))] rfl rfl <| rl rfl (p_len (e := eField) rfl rfl rfl rfl rfl rfl underlying39) <| bind_end rfl
    refine et (k_block rfl) <| et k_loop ?_
    refine slices_IndexFunc_Field_L1_ok k a0 a1 a1_fid a1_c0 a1_hok _ _ ?h_slices_IndexFunc_Field_L1_0 ?hr_slices_IndexFunc_Field_L1 k 0
    · intro y8
      refine et blk_exit <| kr ⟨[(4, (I (-1)))], [], 19⟩ rfl <| et k_lret ?_
      rfl
    · intro s; exact rfl
def slices_ContainsFunc_Field_fin : Bool → V × List V := fun r => ((Bo r), [])
theorem slices_ContainsFunc_Field_ok (k : Nat) (a0 : (List T_api_Field)) (a1 : Nat → T_api_Field → Option Bool) (a1_fid : Go.FuncId) (a1_c0 : V) (a1_hok : ∀ j x0, EV j a1_fid [(eField x0), V.pro a1_c0] = (a1 j x0).map fun b => ((Bo b), [])) : EV k 107 [(sField a0), (V.fn a1_fid [] [V.pro a1_c0])] = (slices_ContainsFunc_Field k a0 a1).map slices_ContainsFunc_Field_fin := by
  cases k with
  | zero => rfl
  | succ k =>
    unfold slices_ContainsFunc_Field
    refine et (evF_succ (c := f107c) (N := 9) (regs := f107n) rfl func107 rfl (by decide) rfl rfl rfl) <| kra [] rfl <| kg f107a1 rfl (fun (o2 : Bool) => ⟨[(4, (Bo o2))], [], 9⟩) (rd 2 [(5, (sField a0)), (6, (V.fn a1_fid [] [V.pro a1_c0]))] rfl rfl <| rp rfl (p_call rfl rfl rfl rfl rfl (slices_IndexFunc_Field_ok k a0 a1 a1_fid a1_c0 a1_hok) (.inl rfl)) fun v1 => bind_end rfl) fun o2 => et k_lret ?_
    rfl
def dbd_areFields_1_fin : Bool → V × List V := fun r => ((Bo r), [])
theorem dbd_areFields_1_ok (k : Nat) (a0 : T_api_Field) (a1 : T_api_Field) : EV k 108 [(eField a0), (Pr (eField a1))] = (dbd_areFields_1 k a0 a1).map dbd_areFields_1_fin := by
  cases k with
  | zero => rfl
  | succ k =>
    unfold dbd_areFields_1
    refine et (evF_succ (c := f108c) (N := 9) (regs := f108n) rfl func108 rfl (by decide) rfl rfl rfl) <| kr ⟨[(1, (Pr (eField a1))), (2, (Pt 2))], [(2, vS 3 (eField a0))], 9⟩ rfl <| kr ⟨[(3, (Bo (a0.fName == a1.fName)))], [], 9⟩ rfl <| et k_lret ?_
    rfl
def dbd_areFields_fin : Bool → V × List V := fun r => ((Bo r), [])
theorem dbd_areFields_L1_ok (k : Nat) (a0 : (List T_api_Field)) (a1 : Int)  (K0 : Int → Option Bool) (Kst : X × St → Option (V × List V)) (hK0 : ∀ (y0 : Int), Kst (X.exit 0, ⟨[(0, (sField a0)), (1, (I a1)), (7, (sField a0)), (8, (I (a0.length : Int))), (9, (I y0)), (10, (Bo false))], [], 52⟩) = (K0 y0).map dbd_areFields_fin) (hret : ∀ s, Kst (X.ret, s) = endK prog 52 [(sField a0), (I a1)] [] [.tmp 4] (X.ret, s)) :
    ∀ (m : Nat) (x8 : Int), (iter (exec prog (EV k) f103n k f103b0) m ⟨[(0, (sField a0)), (1, (I a1)), (7, (sField a0)), (8, (I (a0.length : Int))), (9, (I x8))], [], 52⟩).bind Kst = (dbd_areFields_L1 k a0 a1 K0 m x8).map dbd_areFields_fin := by
  intro m
  induction m with
  | zero => intros; rfl
  | succ m ih =>
    intro x8
    unfold dbd_areFields_L1
    refine et k_round <| kra [(10, (Bo (decide (x8 < (a0.length : Int)))))] rfl <| kc rfl rfl (fun hc => ?_) fun hc => ?_
    · rw [hc]
      refine et k_skip <| et (k_block rfl) <| kg f103a3 rfl (fun (o10 : Int × T_api_Field) => ⟨[(0, (sField a0)), (1, (I a1)), (5, (I o10.1)), (6, (Pt 6)), (7, (sField a0)), (8, (I (a0.length : Int))), (9, (I x8))], [(6, vS 3 (eField o10.2))], 52⟩) (rd 1 [(11, (I x8))] rfl rfl <| rp rfl (p_index (e := eField) rfl rfl rfl underlying39 rfl (by decide)) fun v9 => bind_end rfl) fun o10 => et k_assoc <| kga f103a4 rfl (fun (o12 : Bool) => [(42, (Bo o12))]) ?_ fun o12 => ?_
      · refine rd 2 [(14, (Pt 6)), (15, (Sr o10.2.fName))] rfl rfl <| rp rfl (p_call rfl rfl rfl rfl rfl (dbd_IsName_ok k o10.2.fName) (.inl rfl)) fun v11 => bd 5 [(16, (Bo v11)), (17, (Bo (!v11))), (18, (Bo (!v11)))] rfl rfl <| bifE (fun hc => ?_) fun hc => ?_
        · rw [hc]
          exact reg_end rfl
        · rw [hc]
          refine rd 10 [(19, (V.ptr 6 0 1)), (20, (I o10.2.fAt)), (21, (Bo (decide (o10.2.fAt < 0)))), (22, (Bo (decide (o10.2.fAt < 0)))), (23, (Bo (decide (o10.2.fAt < 0))))] rfl rfl <| bifE (fun hc => ?_) fun hc => ?_
          · rw [hc]
            exact reg_end rfl
          · rw [hc]
            refine rd 16 [(24, (V.ptr 6 0 1)), (25, (I o10.2.fAt)), (26, (I a1)), (27, (Bo (decide (o10.2.fAt ≥ a1)))), (28, (Bo (decide (o10.2.fAt ≥ a1)))), (29, (Bo (decide (o10.2.fAt ≥ a1))))] rfl rfl <| bifE (fun hc => ?_) fun hc => ?_
            · rw [hc]
              exact reg_end rfl
            · rw [hc]
              refine rd 21 [(30, (V.ptr 6 0 2)), (31, (I o10.2.fBytes)), (32, (Bo (decide (o10.2.fBytes < 1)))), (33, (Bo (decide (o10.2.fBytes < 1)))), (34, (Bo (decide (o10.2.fBytes < 1))))] rfl rfl <| bifE (fun hc => ?_) fun hc => ?_
              · rw [hc]
                exact reg_end rfl
              · rw [hc]
                exact reg_end rfl
      refine kc rfl rfl (fun hc => ?_) fun hc => ?_
      · rw [hc]
        refine et k_assoc <| kr ⟨[(4, (Bo false))], [], 52⟩ rfl <| et k_ret <| et blk_ret <| et loop_ret <| et (hret _) ?_
        rfl
      · rw [hc]
        refine et k_skip <| kg f103a6 rfl (fun (o15 : Bool) => ⟨[(0, (sField a0)), (1, (I a1)), (7, (sField a0)), (8, (I (a0.length : Int))), (9, (I x8)), (47, (Bo o15))], [], 52⟩) (rd 2 [(43, (sField a0)), (44, (I o10.1))] rfl rfl <| rp rfl (p_slice (e := eField) rfl rfl rfl rfl rfl rfl underlying39 rfl (by decide)) fun v13 => bd 4 [(45, (sField v13)), (46, (V.fn 108 [] [(Pt 6)]))] rfl rfl <| rs rfl (p_call rfl rfl rfl rfl rfl (slices_ContainsFunc_Field_ok k v13 (fun j x0 => (dbd_areFields_1 j x0 o10.2)) 108 (eField o10.2) (fun j x0 => (dbd_areFields_1_ok j x0 o10.2))) (.inr (fun _ => rfl))) fun v14 => bind_end rfl) fun o15 => kcl rfl rfl (fun hc => ?_) fun hc => ?_
        · rw [hc]
          refine kr ⟨[(4, (Bo false))], [], 52⟩ rfl <| et k_lret <| et blk_ret <| et loop_ret <| et (hret _) ?_
          rfl
        · rw [hc]
          exact et k_lskip <| et blk_normal <| kl ⟨[(0, (sField a0)), (1, (I a1)), (7, (sField a0)), (8, (I (a0.length : Int))), (9, (I (Go.IntKind.wrap .i64 (x8 + 1))))], [], 52⟩ rfl <| et loop_normal <| ih (Go.IntKind.wrap .i64 (x8 + 1))
    · rw [hc]
      exact et k_exit <| et loop_exit <| hK0 x8
theorem dbd_areFields_ok (k : Nat) (a0 : (List T_api_Field)) (a1 : Int) : EV k 103 [(sField a0), (I a1)] = (dbd_areFields k a0 a1).map dbd_areFields_fin := by
  cases k with
  | zero => rfl
  | succ k =>
    unfold dbd_areFields
    refine et (evF_succ (c := f103c) (N := 52) (regs := f103n) rfl func103 rfl (by decide) rfl rfl rfl) <| kra [] rfl <| et k_assoc <| krp f103a1 rfl ⟨[(0, (sField a0)), (1, (I a1)), (7, (sField a0)), (8, (I (a0.length : Int))), (9, (I 0))], [], 52⟩ ?_ ?_
    · exact rd 1 [(7, (sField a0))] rfl rfl <| rl rfl (p_len (e := eField) rfl rfl rfl rfl rfl rfl underlying39) <| bind_end rfl
    refine et (k_block rfl) <| et k_loop ?_
    refine dbd_areFields_L1_ok k a0 a1 _ _ ?h_dbd_areFields_L1_0 ?hr_dbd_areFields_L1 k 0
    · intro y16
      refine et blk_exit <| krp f103a9 rfl ⟨[(4, (Bo (decide ((a0.length : Int) ≤ 5))))], [], 52⟩ ?_ ?_
      · exact rd 1 [(49, (sField a0))] rfl rfl <| rl rfl (p_len (e := eField) rfl rfl rfl rfl rfl rfl underlying39) <| bind_end rfl
      refine et k_lret ?_
      rfl
    · intro s; exact rfl
def dbd_isType_fin : Bool → V × List V := fun r => ((Bo r), [])
theorem dbd_isType_ok (k : Nat) (a0 : T_api_Type) : EV k 96 [(eType a0)] = (dbd_isType k a0).map dbd_isType_fin := by
  cases k with
  | zero => rfl
  | succ k =>
    unfold dbd_isType
    refine et (evF_succ (c := f96c) (N := 70) (regs := f96n) rfl func96 rfl (by decide) rfl rfl rfl) <| kr ⟨[(1, (Pt 1))], [(1, vS 8 (eType a0))], 70⟩ rfl <| et (k_block rfl) <| kga f96a1 rfl (fun (o3 : Bool) => [(3, (Bo o3))]) ?_ fun o3 => ?_
    · refine rd 2 [(4, (Pt 1)), (5, (Sr a0.fName))] rfl rfl <| rp rfl (p_call rfl rfl rfl rfl rfl (dbd_IsName_ok k a0.fName) (.inl rfl)) fun v1 => bd 5 [(6, (Bo v1)), (7, (Bo (!v1))), (8, (Bo (!v1)))] rfl rfl <| bifE (fun hc => ?_) fun hc => ?_
      · rw [hc]
        exact reg_end rfl
      · rw [hc]
        refine rd 10 [(9, (V.ptr 1 0 2)), (10, (I a0.fMin)), (11, (Bo (decide (a0.fMin < 1)))), (12, (Bo (decide (a0.fMin < 1)))), (13, (Bo (decide (a0.fMin < 1))))] rfl rfl <| bifE (fun hc => ?_) fun hc => ?_
        · rw [hc]
          exact reg_end rfl
        · rw [hc]
          refine rd 17 [(14, (V.ptr 1 0 2)), (15, (I a0.fMin)), (16, (V.ptr 1 0 3)), (17, (I a0.fSize)), (18, (Bo (decide (a0.fMin > a0.fSize)))), (19, (Bo (decide (a0.fMin > a0.fSize)))), (20, (Bo (decide (a0.fMin > a0.fSize))))] rfl rfl <| bifE (fun hc => ?_) fun hc => ?_
          · rw [hc]
            exact reg_end rfl
          · rw [hc]
            refine rd 22 [(21, (V.ptr 1 0 3)), (22, (I a0.fSize)), (23, (Bo (decide (a0.fSize > 40)))), (24, (Bo (decide (a0.fSize > 40)))), (25, (Bo (decide (a0.fSize > 40))))] rfl rfl <| bifE (fun hc => ?_) fun hc => ?_
            · rw [hc]
              exact reg_end rfl
            · rw [hc]
              exact rd 26 [(26, (V.ptr 1 0 4)), (27, (sField a0.fFields)), (28, (V.ptr 1 0 3)), (29, (I a0.fSize))] rfl rfl <| rp rfl (p_call rfl rfl rfl rfl rfl (dbd_areFields_ok k a0.fFields a0.fSize) (.inl rfl)) fun v2 => bind_end rfl
    refine kcl rfl rfl (fun hc => ?_) fun hc => ?_
    · rw [hc]
      refine kr ⟨[(2, (Bo false))], [], 70⟩ rfl <| et k_lret <| et blk_ret ?_
      rfl
    · rw [hc]
      refine kr ⟨[(1, (Pt 1)), (33, (Bo (a0.fKey == (-1))))], [(1, vS 8 (eType a0))], 70⟩ rfl <| kcl rfl rfl (fun hc => ?_) fun hc => ?_
      · rw [hc]
        refine kr ⟨[(2, (Bo (!a0.fUnique)))], [], 70⟩ rfl <| et k_lret <| et blk_ret ?_
        rfl
      · rw [hc]
        refine kg f96a5 rfl (fun (o4 : Bool) => ⟨[(1, (Pt 1)), (40, (Bo o4))], [(1, vS 8 (eType a0))], 70⟩) ?_ fun o4 => ?_
        · refine rd 4 [(41, (V.ptr 1 0 5)), (42, (I a0.fKey)), (43, (Bo (decide (a0.fKey < 0)))), (44, (Bo (decide (a0.fKey < 0))))] rfl rfl <| bifE (fun hc => ?_) fun hc => ?_
          · rw [hc]
            exact reg_end rfl
          · rw [hc]
            exact rd 8 [(45, (V.ptr 1 0 5)), (46, (I a0.fKey)), (47, (V.ptr 1 0 4)), (48, (sField a0.fFields))] rfl rfl <| rl rfl (p_len (e := eField) rfl rfl rfl rfl rfl rfl underlying39) <| bind_end rfl
        refine kcl rfl rfl (fun hc => ?_) fun hc => ?_
        · rw [hc]
          refine kr ⟨[(2, (Bo false))], [], 70⟩ rfl <| et k_lret <| et blk_ret ?_
          rfl
        · rw [hc]
          refine et k_lskip <| et blk_normal <| kd f96a7 rfl (fun (o7 : Bool) => ⟨[(2, (Bo o7))], [], 70⟩) (et (regionE_regp (p := 19) (dk := true) (t := [(1, (Pt 1)), (40, (Bo false))]) (σ := [(1, vS 8 (eType a0))]) (n := 70) rfl (by decide) (by decide) rfl) <| et (regp_adv (m := 4) (j := 4) (t' := [(1, (Pt 1)), (40, (Bo false)), (52, (V.ptr 1 0 4)), (53, (sField a0.fFields)), (54, (V.ptr 1 0 5)), (55, (I a0.fKey))]) rfl rfl rfl) <| et (regp_pure (x := (idx a0.fFields a0.fKey)) (w := fun v5 => (Pr (eField v5))) rfl rfl rfl rfl rfl (p_index (e := eField) rfl rfl rfl underlying39 rfl (by decide))) <| bindE fun v5 => et (putp_adv (m := 6) (j := 11) (t' := [(1, (Pt 1)), (40, (Bo false)), (52, (V.ptr 1 0 4)), (53, (sField a0.fFields)), (54, (V.ptr 1 0 5)), (55, (I a0.fKey)), (56, (Pr (eField v5))), (57, (Pr (I v5.fAt))), (58, (I v5.fAt)), (59, (V.ptr 1 0 4)), (60, (sField a0.fFields)), (61, (V.ptr 1 0 5)), (62, (I a0.fKey))]) rfl rfl rfl) <| et (regp_pure (x := (idx a0.fFields a0.fKey)) (w := fun v6 => (Pr (eField v6))) rfl rfl rfl rfl rfl (p_index (e := eField) rfl rfl rfl underlying39 rfl (by decide))) <| bindE fun v6 => regp_end rfl) fun o7 => et k_lret ?_
          rfl
def slices_IndexFunc_Type_fin : Int → V × List V := fun r => ((I r), [])
theorem slices_IndexFunc_Type_L1_ok (k : Nat) (a0 : (List T_api_Type)) (a1 : Nat → T_api_Type → Option Bool) (a1_fid : Go.FuncId) (a1_c0 : V) (a1_hok : ∀ j x0, EV j a1_fid [(eType x0), V.pro a1_c0] = (a1 j x0).map fun b => ((Bo b), [])) (K0 : Int → Option Int) (Kst : X × St → Option (V × List V)) (hK0 : ∀ (y0 : Int), Kst (X.exit 0, ⟨[(0, (sType a0)), (1, (V.fn a1_fid [] [V.pro a1_c0])), (7, (I (a0.length : Int))), (8, (I y0)), (9, (Bo false))], [], 19⟩) = (K0 y0).map slices_IndexFunc_Type_fin) (hret : ∀ s, Kst (X.ret, s) = endK prog 19 [(sType a0), (V.fn a1_fid [] [V.pro a1_c0])] [] [.tmp 4] (X.ret, s)) :
    ∀ (m : Nat) (x4 : Int), (iter (exec prog (EV k) f104n k f104b0) m ⟨[(0, (sType a0)), (1, (V.fn a1_fid [] [V.pro a1_c0])), (7, (I (a0.length : Int))), (8, (I x4))], [], 19⟩).bind Kst = (slices_IndexFunc_Type_L1 k a0 a1 K0 m x4).map slices_IndexFunc_Type_fin := by
  intro m
  induction m with
  | zero => intros; rfl
  | succ m ih =>
    intro x4
    unfold slices_IndexFunc_Type_L1
    refine et k_round <| kra [(9, (Bo (decide (x4 < (a0.length : Int)))))] rfl <| kc rfl rfl (fun hc => ?_) fun hc => ?_
    · rw [hc]
      refine et k_skip <| et (k_block rfl) <| kr ⟨[(0, (sType a0)), (1, (V.fn a1_fid [] [V.pro a1_c0])), (5, (I x4)), (7, (I (a0.length : Int))), (8, (I x4))], [], 19⟩ rfl <| kga f104a4 rfl (fun (o7 : Bool) => [(16, (Bo o7))]) (rd 3 [(11, (V.fn a1_fid [] [V.pro a1_c0])), (12, (sType a0)), (13, (I x4))] rfl rfl <| rp rfl (p_index (e := eType) rfl rfl rfl underlying22 rfl (by decide)) fun v5 => bd 5 [(14, (Pr (eType v5))), (15, (eType v5))] rfl rfl <| rs rfl (p_call rfl rfl rfl rfl rfl (a1_hok k v5) (.inl rfl)) fun v6 => bind_end rfl) fun o7 => kcl rfl rfl (fun hc => ?_) fun hc => ?_
      · rw [hc]
        refine kr ⟨[(4, (I x4))], [], 19⟩ rfl <| et k_lret <| et blk_ret <| et loop_ret <| et (hret _) ?_
        rfl
      · rw [hc]
        exact et k_lskip <| et blk_normal <| kl ⟨[(0, (sType a0)), (1, (V.fn a1_fid [] [V.pro a1_c0])), (7, (I (a0.length : Int))), (8, (I (Go.IntKind.wrap .i64 (x4 + 1))))], [], 19⟩ rfl <| et loop_normal <| ih (Go.IntKind.wrap .i64 (x4 + 1))
    · rw [hc]
      exact et k_exit <| et loop_exit <| hK0 x4
theorem slices_IndexFunc_Type_ok (k : Nat) (a0 : (List T_api_Type)) (a1 : Nat → T_api_Type → Option Bool) (a1_fid : Go.FuncId) (a1_c0 : V) (a1_hok : ∀ j x0, EV j a1_fid [(eType x0), V.pro a1_c0] = (a1 j x0).map fun b => ((Bo b), [])) : EV k 104 [(sType a0), (V.fn a1_fid [] [V.pro a1_c0])] = (slices_IndexFunc_Type k a0 a1).map slices_IndexFunc_Type_fin := by
  cases k with
  | zero => rfl
  | succ k =>
    unfold slices_IndexFunc_Type
    refine et (evF_succ (c := f104c) (N := 19) (regs := f104n) rfl func104 rfl (by decide) rfl rfl rfl) <| kra [] rfl <| et k_assoc <| krp f104a1 rfl ⟨[(0, (sType a0)), (1, (V.fn a1_fid [] [V.pro a1_c0])), (7, (I (a0.length : Int))), (8, (I 0))], [], 19⟩ ?_ ?_
    · exact rd 1 [(6, (sType a0))] rfl rfl <| rl rfl (p_len (e := eType) rfl rfl rfl rfl rfl rfl underlying22) <| bind_end rfl
    refine et (k_block rfl) <| et k_loop ?_
    refine slices_IndexFunc_Type_L1_ok k a0 a1 a1_fid a1_c0 a1_hok _ _ ?h_slices_IndexFunc_Type_L1_0 ?hr_slices_IndexFunc_Type_L1 k 0
    · intro y8
      refine et blk_exit <| kr ⟨[(4, (I (-1)))], [], 19⟩ rfl <| et k_lret ?_
      rfl
    · intro s; exact rfl
def slices_ContainsFunc_Type_fin : Bool → V × List V := fun r => ((Bo r), [])
theorem slices_ContainsFunc_Type_ok (k : Nat) (a0 : (List T_api_Type)) (a1 : Nat → T_api_Type → Option Bool) (a1_fid : Go.FuncId) (a1_c0 : V) (a1_hok : ∀ j x0, EV j a1_fid [(eType x0), V.pro a1_c0] = (a1 j x0).map fun b => ((Bo b), [])) : EV k 97 [(sType a0), (V.fn a1_fid [] [V.pro a1_c0])] = (slices_ContainsFunc_Type k a0 a1).map slices_ContainsFunc_Type_fin := by
  cases k with
  | zero => rfl
  | succ k =>
    unfold slices_ContainsFunc_Type
    refine et (evF_succ (c := f97c) (N := 9) (regs := f97n) rfl func97 rfl (by decide) rfl rfl rfl) <| kra [] rfl <| kg f97a1 rfl (fun (o2 : Bool) => ⟨[(4, (Bo o2))], [], 9⟩) (rd 2 [(5, (sType a0)), (6, (V.fn a1_fid [] [V.pro a1_c0]))] rfl rfl <| rp rfl (p_call rfl rfl rfl rfl rfl (slices_IndexFunc_Type_ok k a0 a1 a1_fid a1_c0 a1_hok) (.inl rfl)) fun v1 => bind_end rfl) fun o2 => et k_lret ?_
    rfl
def dbd_areTypes_1_fin : Bool → V × List V := fun r => ((Bo r), [])
theorem dbd_areTypes_1_ok (k : Nat) (a0 : T_api_Type) (a1 : T_api_Type) : EV k 98 [(eType a0), (Pr (eType a1))] = (dbd_areTypes_1 k a0 a1).map dbd_areTypes_1_fin := by
  cases k with
  | zero => rfl
  | succ k =>
    unfold dbd_areTypes_1
    refine et (evF_succ (c := f98c) (N := 9) (regs := f98n) rfl func98 rfl (by decide) rfl rfl rfl) <| kr ⟨[(1, (Pr (eType a1))), (2, (Pt 2))], [(2, vS 8 (eType a0))], 9⟩ rfl <| kr ⟨[(3, (Bo (a0.fName == a1.fName)))], [], 9⟩ rfl <| et k_lret ?_
    rfl
def slices_Index_int_fin : Int → V × List V := fun r => ((I r), [])
theorem slices_Index_int_L1_ok (k : Nat) (a0 : (List Int)) (a1 : Int)  (K0 : Int → Option Int) (Kst : X × St → Option (V × List V)) (hK0 : ∀ (y0 : Int), Kst (X.exit 0, ⟨[(0, (sI a0)), (1, (I a1)), (7, (I (a0.length : Int))), (8, (I y0)), (9, (Bo false))], [], 19⟩) = (K0 y0).map slices_Index_int_fin) (hret : ∀ s, Kst (X.ret, s) = endK prog 19 [(sI a0), (I a1)] [] [.tmp 4] (X.ret, s)) :
    ∀ (m : Nat) (x3 : Int), (iter (exec prog (EV k) f99n k f99b0) m ⟨[(0, (sI a0)), (1, (I a1)), (7, (I (a0.length : Int))), (8, (I x3))], [], 19⟩).bind Kst = (slices_Index_int_L1 a0 a1 K0 m x3).map slices_Index_int_fin := by
  intro m
  induction m with
  | zero => intros; rfl
  | succ m ih =>
    intro x3
    unfold slices_Index_int_L1
    refine et k_round <| kra [(9, (Bo (decide (x3 < (a0.length : Int)))))] rfl <| kc rfl rfl (fun hc => ?_) fun hc => ?_
    · rw [hc]
      refine et k_skip <| et (k_block rfl) <| kr ⟨[(0, (sI a0)), (1, (I a1)), (5, (I x3)), (7, (I (a0.length : Int))), (8, (I x3))], [], 19⟩ rfl <| kga f99a4 rfl (fun (o5 : Bool) => [(16, (Bo o5))]) (rd 3 [(11, (I a1)), (12, (sI a0)), (13, (I x3))] rfl rfl <| rp rfl (p_index (e := I) rfl rfl rfl underlying110 rfl (by decide)) fun v4 => bind_end rfl) fun o5 => kcl rfl rfl (fun hc => ?_) fun hc => ?_
      · rw [hc]
        refine kr ⟨[(4, (I x3))], [], 19⟩ rfl <| et k_lret <| et blk_ret <| et loop_ret <| et (hret _) ?_
        rfl
      · rw [hc]
        exact et k_lskip <| et blk_normal <| kl ⟨[(0, (sI a0)), (1, (I a1)), (7, (I (a0.length : Int))), (8, (I (Go.IntKind.wrap .i64 (x3 + 1))))], [], 19⟩ rfl <| et loop_normal <| ih (Go.IntKind.wrap .i64 (x3 + 1))
    · rw [hc]
      exact et k_exit <| et loop_exit <| hK0 x3
theorem slices_Index_int_ok (k : Nat) (a0 : (List Int)) (a1 : Int) : EV k 99 [(sI a0), (I a1)] = (slices_Index_int k a0 a1).map slices_Index_int_fin := by
  cases k with
  | zero => rfl
  | succ k =>
    unfold slices_Index_int
    refine et (evF_succ (c := f99c) (N := 19) (regs := f99n) rfl func99 rfl (by decide) rfl rfl rfl) <| kra [] rfl <| et k_assoc <| krp f99a1 rfl ⟨[(0, (sI a0)), (1, (I a1)), (7, (I (a0.length : Int))), (8, (I 0))], [], 19⟩ ?_ ?_
    · exact rd 1 [(6, (sI a0))] rfl rfl <| rl rfl (p_len (e := I) rfl rfl rfl rfl rfl rfl underlying110) <| bind_end rfl
    refine et (k_block rfl) <| et k_loop ?_
    refine slices_Index_int_L1_ok k a0 a1 _ _ ?h_slices_Index_int_L1_0 ?hr_slices_Index_int_L1 k 0
    · intro y6
      refine et blk_exit <| kr ⟨[(4, (I (-1)))], [], 19⟩ rfl <| et k_lret ?_
      rfl
    · intro s; exact rfl
def dbd_areTypes_fin : Bool → V × List V := fun r => ((Bo r), [])
theorem dbd_areTypes_L1_ok (k : Nat) (a0 : (List T_api_Type))  (K0 : Int → (List Int) → Option Bool) (Kst : X × St → Option (V × List V)) (hK0 : ∀ (y0 : Int) (y1 : (List Int)), Kst (X.exit 0, ⟨[(0, (sType a0)), (3, (aL 3 I y1)), (15, (sType a0)), (16, (I (a0.length : Int))), (17, (I y0)), (18, (Bo false))], [(3, ⟨true, 1, List.map I y1⟩)], 82⟩) = (K0 y0 y1).map dbd_areTypes_fin) (hret : ∀ s, Kst (X.ret, s) = endK prog 82 [(sType a0)] [] [.tmp 2] (X.ret, s)) :
    ∀ (m : Nat) (x15 : Int) (x16 : (List Int)), (iter (exec prog (EV k) f88n k f88b0) m ⟨[(0, (sType a0)), (3, (aL 3 I x16)), (15, (sType a0)), (16, (I (a0.length : Int))), (17, (I x15))], [(3, ⟨true, 1, List.map I x16⟩)], 82⟩).bind Kst = (dbd_areTypes_L1 k a0 K0 m x15 x16).map dbd_areTypes_fin := by
  intro m
  induction m with
  | zero => intros; rfl
  | succ m ih =>
    intro x15 x16
    unfold dbd_areTypes_L1
    refine et k_round <| kra [(18, (Bo (decide (x15 < (a0.length : Int)))))] rfl <| kc rfl rfl (fun hc => ?_) fun hc => ?_
    · rw [hc]
      refine et k_skip <| et (k_block rfl) <| kg f88a6 rfl (fun (o18 : Int × T_api_Type) => ⟨[(0, (sType a0)), (3, (aL 3 I x16)), (4, (I o18.1)), (5, (Pt 5)), (15, (sType a0)), (16, (I (a0.length : Int))), (17, (I x15))], [(3, ⟨true, 1, List.map I x16⟩), (5, vS 8 (eType o18.2))], 82⟩) (rd 1 [(19, (I x15))] rfl rfl <| rp rfl (p_index (e := eType) rfl rfl rfl underlying22 rfl (by decide)) fun v17 => bind_end rfl) fun o18 => et k_assoc <| kga f88a7 rfl (fun (o22 : Bool) => [(31, (Bo o22))]) ?_ fun o22 => ?_
      · refine rd 1 [(22, (eType o18.2))] rfl rfl <| rp rfl (p_call rfl rfl rfl rfl rfl (dbd_isType_ok k o18.2) (.inl rfl)) fun v19 => bd 4 [(23, (Bo v19)), (24, (Bo (!v19))), (25, (Bo (!v19)))] rfl rfl <| bifE (fun hc => ?_) fun hc => ?_
        · rw [hc]
          exact reg_end rfl
        · rw [hc]
          exact rd 6 [(26, (sType a0)), (27, (I o18.1))] rfl rfl <| rp rfl (p_slice (e := eType) rfl rfl rfl rfl rfl rfl underlying22 rfl (by decide)) fun v20 => bd 8 [(28, (sType v20)), (29, (V.fn 98 [] [(Pt 5)]))] rfl rfl <| rs rfl (p_call rfl rfl rfl rfl rfl (slices_ContainsFunc_Type_ok k v20 (fun j x0 => (dbd_areTypes_1 j x0 o18.2)) 98 (eType o18.2) (fun j x0 => (dbd_areTypes_1_ok j x0 o18.2))) (.inr (fun _ => rfl))) fun v21 => bind_end rfl
      refine kc rfl rfl (fun hc => ?_) fun hc => ?_
      · rw [hc]
        refine et k_assoc <| kr ⟨[(2, (Bo false))], [], 82⟩ rfl <| et k_ret <| et blk_ret <| et loop_ret <| et (hret _) ?_
        rfl
      · rw [hc]
        refine et k_skip <| kg f88a9 rfl (fun (o24 : Int) => ⟨[(0, (sType a0)), (3, (aL 3 I x16)), (4, (I o18.1)), (5, (Pt 5)), (6, (I o24)), (15, (sType a0)), (16, (I (a0.length : Int))), (17, (I x15))], [(3, ⟨true, 1, List.map I x16⟩), (5, vS 8 (eType o18.2))], 82⟩) (rd 3 [(32, (aL 3 I x16)), (33, (V.ptr 5 0 1)), (34, (I o18.2.fParent))] rfl rfl <| rs rfl (p_call rfl rfl rfl rfl (argsL (lendA (e := I) rfl) (by intro s i q h; cases h) (argsL rfl (by intro s i q h; cases h) rfl)) (slices_Index_int_ok k x16 o18.2.fParent) (.inr (fun _ => rfl))) fun v23 => bind_end rfl) fun o24 => et k_assoc <| kg f88a10 rfl (fun (o26 : Bool) => ⟨[(0, (sType a0)), (3, (aL 3 I x16)), (4, (I o18.1)), (6, (I o24)), (15, (sType a0)), (16, (I (a0.length : Int))), (17, (I x15)), (70, (Bo o26))], [(3, ⟨true, 1, List.map I x16⟩)], 82⟩) ?_ fun o26 => ?_
        · refine rd 3 [(36, (I o18.1)), (37, (Bo (o18.1 == 0))), (38, (Bo (o18.1 == 0)))] rfl rfl <| bifE (fun hc => ?_) fun hc => ?_
          · rw [hc]
            refine rd 7 [(39, (V.ptr 5 0 1)), (40, (I o18.2.fParent)), (41, (Bo (o18.2.fParent != (-1)))), (42, (Bo (o18.2.fParent != (-1))))] rfl rfl <| bifE (fun hc => ?_) fun hc => ?_
            · rw [hc]
              exact reg_end rfl
            · rw [hc]
              refine rd 12 [(43, (V.ptr 5 0 5)), (44, (I o18.2.fKey)), (45, (Bo (decide (o18.2.fKey < 0)))), (46, (Bo (decide (o18.2.fKey < 0)))), (47, (Bo (decide (o18.2.fKey < 0))))] rfl rfl <| bifE (fun hc => ?_) fun hc => ?_
              · rw [hc]
                exact reg_end rfl
              · rw [hc]
                refine rd 17 [(48, (V.ptr 5 0 6)), (49, (Bo o18.2.fUnique)), (50, (Bo (!o18.2.fUnique))), (51, (Bo (!o18.2.fUnique))), (52, (Bo (!o18.2.fUnique)))] rfl rfl <| bifE (fun hc => ?_) fun hc => ?_
                · rw [hc]
                  exact reg_end rfl
                · rw [hc]
                  refine rd 21 [(53, (V.ptr 5 0 4)), (54, (sField o18.2.fFields)), (55, (V.ptr 5 0 5)), (56, (I o18.2.fKey))] rfl rfl <| rp rfl (p_index (e := eField) rfl rfl rfl underlying39 rfl (by decide)) fun v25 => bd 28 [(57, (Pr (eField v25))), (58, (Pr (I v25.fBytes))), (59, (I v25.fBytes)), (60, (Bo (decide (v25.fBytes > 24)))), (61, (Bo (decide (v25.fBytes > 24)))), (62, (Bo (decide (v25.fBytes > 24)))), (63, (Bo (decide (v25.fBytes > 24))))] rfl rfl <| bifE (fun hc => ?_) fun hc => ?_
                  · rw [hc]
                    exact reg_end rfl
                  · rw [hc]
                    refine rd 31 [(64, (I o18.1)), (65, (Bo (decide (o18.1 > 0)))), (66, (Bo (decide (o18.1 > 0))))] rfl rfl <| bifE (fun hc => ?_) fun hc => ?_
                    · rw [hc]
                      exact reg_end rfl
                    · rw [hc]
                      exact reg_end rfl
          · rw [hc]
            refine rd 31 [(39, (V.tup [])), (40, (V.tup [])), (41, (V.tup [])), (42, (V.tup [])), (43, (V.tup [])), (44, (V.tup [])), (45, (V.tup [])), (46, (V.tup [])), (47, (V.tup [])), (48, (V.tup [])), (49, (V.tup [])), (50, (V.tup [])), (51, (V.tup [])), (52, (V.tup [])), (53, (V.tup [])), (54, (V.tup [])), (55, (V.tup [])), (56, (V.tup [])), (57, (V.tup [])), (58, (V.tup [])), (59, (V.tup [])), (60, (V.tup [])), (61, (V.tup [])), (62, (Bo false)), (63, (Bo false)), (64, (I o18.1)), (65, (Bo (decide (o18.1 > 0)))), (66, (Bo (decide (o18.1 > 0))))] rfl rfl <| bifE (fun hc => ?_) fun hc => ?_
            · rw [hc]
              exact reg_end rfl
            · rw [hc]
              exact reg_end rfl
        refine kc rfl rfl (fun hc => ?_) fun hc => ?_
        · rw [hc]
          refine et k_assoc <| kr ⟨[(2, (Bo false))], [], 82⟩ rfl <| et k_ret <| et blk_ret <| et loop_ret <| et (hret _) ?_
          rfl
        · rw [hc]
          refine et k_skip <| kg f88a12 rfl (fun (o29 : (List Int)) => ⟨[(0, (sType a0)), (3, (aL 3 I o29)), (15, (sType a0)), (16, (I (a0.length : Int))), (17, (I x15))], [(3, ⟨true, 1, List.map I o29⟩)], 82⟩) (rd 3 [(71, (aL 3 I x16)), (72, (I o24)), (73, (I (Go.IntKind.wrap .i64 (o24 + 1))))] rfl rfl <| rx rfl (p_sliceA (e := I) rfl rfl rfl underlying110 (by decide)) fun v27 hv27 => bd 6 [(74, (V.aref 3 0 v27)), (75, (I o18.1)), (76, (sI (([o18.1] : List Int))))] rfl rfl <| et (reg_eff (x := (app (List.take v27 x16) ([o18.1] : List Int))) (w := fun v28 => ((aL 3 I v28), _)) rfl rfl rfl rfl (p_appA (e := I) (l := x16) rfl rfl rfl rfl rfl rfl rfl rfl rfl rfl rfl (upTo_le hv27) (of_decide_eq_true rfl))) <| bind_self fun v28 => bind_end rfl) fun o29 => krp f88a13 rfl ⟨[(0, (sType a0)), (3, (aL 3 I o29)), (15, (sType a0)), (16, (I (a0.length : Int))), (17, (I x15)), (80, (Bo (decide ((o29.length : Int) > 5))))], [(3, ⟨true, 1, List.map I o29⟩)], 82⟩ ?_ ?_
          · exact rd 1 [(78, (aL 3 I o29))] rfl rfl <| rl rfl (p_lenA (e := I) rfl rfl rfl rfl rfl rfl underlying110) <| bind_end rfl
          refine kcl rfl rfl (fun hc => ?_) fun hc => ?_
          · rw [hc]
            refine kr ⟨[(2, (Bo false))], [], 82⟩ rfl <| et k_lret <| et blk_ret <| et loop_ret <| et (hret _) ?_
            rfl
          · rw [hc]
            exact et k_lskip <| et blk_normal <| kl ⟨[(0, (sType a0)), (3, (aL 3 I o29)), (15, (sType a0)), (16, (I (a0.length : Int))), (17, (I (Go.IntKind.wrap .i64 (x15 + 1))))], [(3, ⟨true, 1, List.map I o29⟩)], 82⟩ rfl <| et loop_normal <| ih (Go.IntKind.wrap .i64 (x15 + 1)) o29
    · rw [hc]
      exact et k_exit <| et loop_exit <| hK0 x15 x16
theorem dbd_areTypes_ok (k : Nat) (a0 : (List T_api_Type)) : EV k 88 [(sType a0)] = (dbd_areTypes k a0).map dbd_areTypes_fin := by
  cases k with
  | zero => rfl
  | succ k =>
    unfold dbd_areTypes
    refine et (evF_succ (c := f88c) (N := 82) (regs := f88n) rfl func88 rfl (by decide) rfl rfl rfl) <| kra [] rfl <| et k_assoc <| kga f88a1 rfl (fun (o1 : Bool) => [(14, (Bo o1))]) ?_ fun o1 => ?_
    · refine rd 1 [(7, (sType a0))] rfl rfl <| rl rfl (p_len (e := eType) rfl rfl rfl rfl rfl rfl underlying22) <| bd 4 [(8, (I (a0.length : Int))), (9, (Bo (decide ((a0.length : Int) < 1)))), (10, (Bo (decide ((a0.length : Int) < 1))))] rfl rfl <| bifE (fun hc => ?_) fun hc => ?_
      · rw [hc]
        exact reg_end rfl
      · rw [hc]
        exact rd 5 [(11, (sType a0))] rfl rfl <| rl rfl (p_len (e := eType) rfl rfl rfl rfl rfl rfl underlying22) <| bind_end rfl
    refine kc rfl rfl (fun hc => ?_) fun hc => ?_
    · rw [hc]
      refine et k_assoc <| kr ⟨[(2, (Bo false))], [], 82⟩ rfl <| et k_ret ?_
      rfl
    · rw [hc]
      refine et k_skip <| kr ⟨[(0, (sType a0)), (3, (aL 3 I ([] : List Int)))], [(3, ⟨true, 1, List.map I ([] : List Int)⟩)], 82⟩ rfl <| et k_assoc <| krp f88a4 rfl ⟨[(0, (sType a0)), (3, (aL 3 I ([] : List Int))), (15, (sType a0)), (16, (I (a0.length : Int))), (17, (I 0))], [(3, ⟨true, 1, List.map I ([] : List Int)⟩)], 82⟩ ?_ ?_
      · exact rd 1 [(15, (sType a0))] rfl rfl <| rl rfl (p_len (e := eType) rfl rfl rfl rfl rfl rfl underlying22) <| bind_end rfl
      refine et (k_block rfl) <| et k_loop ?_
      refine dbd_areTypes_L1_ok k a0 _ _ ?h_dbd_areTypes_L1_0 ?hr_dbd_areTypes_L1 k 0 ([] : List Int)
      · intro y30 y31
        refine et blk_exit <| kr ⟨[(2, (Bo true))], [], 82⟩ rfl <| et k_lret ?_
        rfl
      · intro s; exact rfl
def slices_IndexFunc_Search_fin : Int → V × List V := fun r => ((I r), [])
theorem slices_IndexFunc_Search_L1_ok (k : Nat) (a0 : (List T_api_Search)) (a1 : Nat → T_api_Search → Option Bool) (a1_fid : Go.FuncId) (a1_c0 : V) (a1_hok : ∀ j x0, EV j a1_fid [(eSearch x0), V.pro a1_c0] = (a1 j x0).map fun b => ((Bo b), [])) (K0 : Int → Option Int) (Kst : X × St → Option (V × List V)) (hK0 : ∀ (y0 : Int), Kst (X.exit 0, ⟨[(0, (sSearch a0)), (1, (V.fn a1_fid [] [V.pro a1_c0])), (7, (I (a0.length : Int))), (8, (I y0)), (9, (Bo false))], [], 19⟩) = (K0 y0).map slices_IndexFunc_Search_fin) (hret : ∀ s, Kst (X.ret, s) = endK prog 19 [(sSearch a0), (V.fn a1_fid [] [V.pro a1_c0])] [] [.tmp 4] (X.ret, s)) :
    ∀ (m : Nat) (x4 : Int), (iter (exec prog (EV k) f105n k f105b0) m ⟨[(0, (sSearch a0)), (1, (V.fn a1_fid [] [V.pro a1_c0])), (7, (I (a0.length : Int))), (8, (I x4))], [], 19⟩).bind Kst = (slices_IndexFunc_Search_L1 k a0 a1 K0 m x4).map slices_IndexFunc_Search_fin := by
  intro m
  induction m with
  | zero => intros; rfl
  | succ m ih =>
    intro x4
    unfold slices_IndexFunc_Search_L1
    refine et k_round <| kra [(9, (Bo (decide (x4 < (a0.length : Int)))))] rfl <| kc rfl rfl (fun hc => ?_) fun hc => ?_
    · rw [hc]
      refine et k_skip <| et (k_block rfl) <| kr ⟨[(0, (sSearch a0)), (1, (V.fn a1_fid [] [V.pro a1_c0])), (5, (I x4)), (7, (I (a0.length : Int))), (8, (I x4))], [], 19⟩ rfl <| kga f105a4 rfl (fun (o7 : Bool) => [(16, (Bo o7))]) (rd 3 [(11, (V.fn a1_fid [] [V.pro a1_c0])), (12, (sSearch a0)), (13, (I x4))] rfl rfl <| rp rfl (p_index (e := eSearch) rfl rfl rfl underlying23 rfl (by decide)) fun v5 => bd 5 [(14, (Pr (eSearch v5))), (15, (eSearch v5))] rfl rfl <| rs rfl (p_call rfl rfl rfl rfl rfl (a1_hok k v5) (.inl rfl)) fun v6 => bind_end rfl) fun o7 => kcl rfl rfl (fun hc => ?_) fun hc => ?_
      · rw [hc]
        refine kr ⟨[(4, (I x4))], [], 19⟩ rfl <| et k_lret <| et blk_ret <| et loop_ret <| et (hret _) ?_
        rfl
      · rw [hc]
        exact et k_lskip <| et blk_normal <| kl ⟨[(0, (sSearch a0)), (1, (V.fn a1_fid [] [V.pro a1_c0])), (7, (I (a0.length : Int))), (8, (I (Go.IntKind.wrap .i64 (x4 + 1))))], [], 19⟩ rfl <| et loop_normal <| ih (Go.IntKind.wrap .i64 (x4 + 1))
    · rw [hc]
      exact et k_exit <| et loop_exit <| hK0 x4
theorem slices_IndexFunc_Search_ok (k : Nat) (a0 : (List T_api_Search)) (a1 : Nat → T_api_Search → Option Bool) (a1_fid : Go.FuncId) (a1_c0 : V) (a1_hok : ∀ j x0, EV j a1_fid [(eSearch x0), V.pro a1_c0] = (a1 j x0).map fun b => ((Bo b), [])) : EV k 105 [(sSearch a0), (V.fn a1_fid [] [V.pro a1_c0])] = (slices_IndexFunc_Search k a0 a1).map slices_IndexFunc_Search_fin := by
  cases k with
  | zero => rfl
  | succ k =>
    unfold slices_IndexFunc_Search
    refine et (evF_succ (c := f105c) (N := 19) (regs := f105n) rfl func105 rfl (by decide) rfl rfl rfl) <| kra [] rfl <| et k_assoc <| krp f105a1 rfl ⟨[(0, (sSearch a0)), (1, (V.fn a1_fid [] [V.pro a1_c0])), (7, (I (a0.length : Int))), (8, (I 0))], [], 19⟩ ?_ ?_
    · exact rd 1 [(6, (sSearch a0))] rfl rfl <| rl rfl (p_len (e := eSearch) rfl rfl rfl rfl rfl rfl underlying23) <| bind_end rfl
    refine et (k_block rfl) <| et k_loop ?_
    refine slices_IndexFunc_Search_L1_ok k a0 a1 a1_fid a1_c0 a1_hok _ _ ?h_slices_IndexFunc_Search_L1_0 ?hr_slices_IndexFunc_Search_L1 k 0
    · intro y8
      refine et blk_exit <| kr ⟨[(4, (I (-1)))], [], 19⟩ rfl <| et k_lret ?_
      rfl
    · intro s; exact rfl
def slices_ContainsFunc_Search_fin : Bool → V × List V := fun r => ((Bo r), [])
theorem slices_ContainsFunc_Search_ok (k : Nat) (a0 : (List T_api_Search)) (a1 : Nat → T_api_Search → Option Bool) (a1_fid : Go.FuncId) (a1_c0 : V) (a1_hok : ∀ j x0, EV j a1_fid [(eSearch x0), V.pro a1_c0] = (a1 j x0).map fun b => ((Bo b), [])) : EV k 100 [(sSearch a0), (V.fn a1_fid [] [V.pro a1_c0])] = (slices_ContainsFunc_Search k a0 a1).map slices_ContainsFunc_Search_fin := by
  cases k with
  | zero => rfl
  | succ k =>
    unfold slices_ContainsFunc_Search
    refine et (evF_succ (c := f100c) (N := 9) (regs := f100n) rfl func100 rfl (by decide) rfl rfl rfl) <| kra [] rfl <| kg f100a1 rfl (fun (o2 : Bool) => ⟨[(4, (Bo o2))], [], 9⟩) (rd 2 [(5, (sSearch a0)), (6, (V.fn a1_fid [] [V.pro a1_c0]))] rfl rfl <| rp rfl (p_call rfl rfl rfl rfl rfl (slices_IndexFunc_Search_ok k a0 a1 a1_fid a1_c0 a1_hok) (.inl rfl)) fun v1 => bind_end rfl) fun o2 => et k_lret ?_
    rfl
def dbd_areIndexes_1_fin : Bool → V × List V := fun r => ((Bo r), [])
theorem dbd_areIndexes_1_ok (k : Nat) (a0 : T_api_Search) (a1 : T_api_Search) : EV k 101 [(eSearch a0), (Pr (eSearch a1))] = (dbd_areIndexes_1 k a0 a1).map dbd_areIndexes_1_fin := by
  cases k with
  | zero => rfl
  | succ k =>
    unfold dbd_areIndexes_1
    refine et (evF_succ (c := f101c) (N := 9) (regs := f101n) rfl func101 rfl (by decide) rfl rfl rfl) <| kr ⟨[(1, (Pr (eSearch a1))), (2, (Pt 2))], [(2, vS 4 (eSearch a0))], 9⟩ rfl <| kr ⟨[(3, (Bo (a0.fName == a1.fName)))], [], 9⟩ rfl <| et k_lret ?_
    rfl
def dbd_areIndexes_fin : Bool → V × List V := fun r => ((Bo r), [])
theorem dbd_areIndexes_L1_ok (k : Nat) (a0 : (List T_api_Search)) (a1 : (List T_api_Type))  (K0 : Int → Option Bool) (Kst : X × St → Option (V × List V)) (hK0 : ∀ (y0 : Int), Kst (X.exit 0, ⟨[(0, (sSearch a0)), (1, (sType a1)), (8, (sSearch a0)), (9, (I (a0.length : Int))), (10, (I y0)), (11, (Bo false))], [], 73⟩) = (K0 y0).map dbd_areIndexes_fin) (hret : ∀ s, Kst (X.ret, s) = endK prog 73 [(sSearch a0), (sType a1)] [] [.tmp 4] (X.ret, s)) :
    ∀ (m : Nat) (x11 : Int), (iter (exec prog (EV k) f89n k f89b0) m ⟨[(0, (sSearch a0)), (1, (sType a1)), (8, (sSearch a0)), (9, (I (a0.length : Int))), (10, (I x11))], [], 73⟩).bind Kst = (dbd_areIndexes_L1 k a0 a1 K0 m x11).map dbd_areIndexes_fin := by
  intro m
  induction m with
  | zero => intros; rfl
  | succ m ih =>
    intro x11
    unfold dbd_areIndexes_L1
    refine et k_round <| kra [(11, (Bo (decide (x11 < (a0.length : Int)))))] rfl <| kc rfl rfl (fun hc => ?_) fun hc => ?_
    · rw [hc]
      refine et k_skip <| et (k_block rfl) <| kg f89a3 rfl (fun (o13 : Int × T_api_Search) => ⟨[(0, (sSearch a0)), (1, (sType a1)), (5, (I o13.1)), (6, (Pt 6)), (8, (sSearch a0)), (9, (I (a0.length : Int))), (10, (I x11))], [(6, vS 4 (eSearch o13.2))], 73⟩) (rd 1 [(12, (I x11))] rfl rfl <| rp rfl (p_index (e := eSearch) rfl rfl rfl underlying23 rfl (by decide)) fun v12 => bind_end rfl) fun o13 => et k_assoc <| kg f89a4 rfl (fun (o17 : Bool) => ⟨[(0, (sSearch a0)), (1, (sType a1)), (6, (Pt 6)), (8, (sSearch a0)), (9, (I (a0.length : Int))), (10, (I x11)), (43, (Bo o17))], [(6, vS 4 (eSearch o13.2))], 73⟩) ?_ fun o17 => ?_
      · refine rd 2 [(15, (Pt 6)), (16, (Sr o13.2.fName))] rfl rfl <| rp rfl (p_call rfl rfl rfl rfl rfl (dbd_IsName_ok k o13.2.fName) (.inl rfl)) fun v14 => bd 5 [(17, (Bo v14)), (18, (Bo (!v14))), (19, (Bo (!v14)))] rfl rfl <| bifE (fun hc => ?_) fun hc => ?_
        · rw [hc]
          exact reg_end rfl
        · rw [hc]
          refine rd 10 [(20, (V.ptr 6 0 1)), (21, (I o13.2.fType)), (22, (Bo (decide (o13.2.fType < 0)))), (23, (Bo (decide (o13.2.fType < 0)))), (24, (Bo (decide (o13.2.fType < 0))))] rfl rfl <| bifE (fun hc => ?_) fun hc => ?_
          · rw [hc]
            exact reg_end rfl
          · rw [hc]
            refine rd 13 [(25, (V.ptr 6 0 1)), (26, (I o13.2.fType)), (27, (sType a1))] rfl rfl <| rl rfl (p_len (e := eType) rfl rfl rfl rfl rfl rfl underlying22) <| bd 17 [(28, (I (a1.length : Int))), (29, (Bo (decide (o13.2.fType ≥ (a1.length : Int))))), (30, (Bo (decide (o13.2.fType ≥ (a1.length : Int))))), (31, (Bo (decide (o13.2.fType ≥ (a1.length : Int)))))] rfl rfl <| bifE (fun hc => ?_) fun hc => ?_
            · rw [hc]
              exact reg_end rfl
            · rw [hc]
              refine rd 23 [(32, (V.ptr 6 0 3)), (33, (Sr o13.2.fSparse)), (34, (I (o13.2.fSparse.length : Int))), (35, (Bo (decide ((o13.2.fSparse.length : Int) > 1)))), (36, (Bo (decide ((o13.2.fSparse.length : Int) > 1)))), (37, (Bo (decide ((o13.2.fSparse.length : Int) > 1))))] rfl rfl <| bifE (fun hc => ?_) fun hc => ?_
              · rw [hc]
                exact reg_end rfl
              · rw [hc]
                exact rd 25 [(38, (sSearch a0)), (39, (I o13.1))] rfl rfl <| rp rfl (p_slice (e := eSearch) rfl rfl rfl rfl rfl rfl underlying23 rfl (by decide)) fun v15 => bd 27 [(40, (sSearch v15)), (41, (V.fn 101 [] [(Pt 6)]))] rfl rfl <| rs rfl (p_call rfl rfl rfl rfl rfl (slices_ContainsFunc_Search_ok k v15 (fun j x0 => (dbd_areIndexes_1 j x0 o13.2)) 101 (eSearch o13.2) (fun j x0 => (dbd_areIndexes_1_ok j x0 o13.2))) (.inr (fun _ => rfl))) fun v16 => bind_end rfl
      refine kc rfl rfl (fun hc => ?_) fun hc => ?_
      · rw [hc]
        refine et k_assoc <| kr ⟨[(4, (Bo false))], [], 73⟩ rfl <| et k_ret <| et blk_ret <| et loop_ret <| et (hret _) ?_
        rfl
      · rw [hc]
        refine et k_skip <| kg f89a6 rfl (fun (o19 : (List T_api_Field)) => ⟨[(0, (sSearch a0)), (1, (sType a1)), (6, (Pt 6)), (7, (sField o19)), (8, (sSearch a0)), (9, (I (a0.length : Int))), (10, (I x11))], [(6, vS 4 (eSearch o13.2))], 73⟩) (rd 3 [(44, (sType a1)), (45, (V.ptr 6 0 1)), (46, (I o13.2.fType))] rfl rfl <| rp rfl (p_index (e := eType) rfl rfl rfl underlying22 rfl (by decide)) fun v18 => bind_end rfl) fun o19 => kg f89a7 rfl (fun (o21 : Bool) => ⟨[(0, (sSearch a0)), (1, (sType a1)), (8, (sSearch a0)), (9, (I (a0.length : Int))), (10, (I x11)), (68, (Bo o21))], [], 73⟩) ?_ fun o21 => ?_
        · refine rd 4 [(50, (V.ptr 6 0 2)), (51, (I o13.2.fField)), (52, (Bo (decide (o13.2.fField < 0)))), (53, (Bo (decide (o13.2.fField < 0))))] rfl rfl <| bifE (fun hc => ?_) fun hc => ?_
          · rw [hc]
            exact reg_end rfl
          · rw [hc]
            refine rd 7 [(54, (V.ptr 6 0 2)), (55, (I o13.2.fField)), (56, (sField o19))] rfl rfl <| rl rfl (p_len (e := eField) rfl rfl rfl rfl rfl rfl underlying39) <| bd 11 [(57, (I (o19.length : Int))), (58, (Bo (decide (o13.2.fField ≥ (o19.length : Int))))), (59, (Bo (decide (o13.2.fField ≥ (o19.length : Int))))), (60, (Bo (decide (o13.2.fField ≥ (o19.length : Int)))))] rfl rfl <| bifE (fun hc => ?_) fun hc => ?_
            · rw [hc]
              exact reg_end rfl
            · rw [hc]
              exact rd 14 [(61, (sField o19)), (62, (V.ptr 6 0 2)), (63, (I o13.2.fField))] rfl rfl <| rp rfl (p_index (e := eField) rfl rfl rfl underlying39 rfl (by decide)) fun v20 => bind_end rfl
        refine kcl rfl rfl (fun hc => ?_) fun hc => ?_
        · rw [hc]
          refine kr ⟨[(4, (Bo false))], [], 73⟩ rfl <| et k_lret <| et blk_ret <| et loop_ret <| et (hret _) ?_
          rfl
        · rw [hc]
          exact et k_lskip <| et blk_normal <| kl ⟨[(0, (sSearch a0)), (1, (sType a1)), (8, (sSearch a0)), (9, (I (a0.length : Int))), (10, (I (Go.IntKind.wrap .i64 (x11 + 1))))], [], 73⟩ rfl <| et loop_normal <| ih (Go.IntKind.wrap .i64 (x11 + 1))
    · rw [hc]
      exact et k_exit <| et loop_exit <| hK0 x11
theorem dbd_areIndexes_ok (k : Nat) (a0 : (List T_api_Search)) (a1 : (List T_api_Type)) : EV k 89 [(sSearch a0), (sType a1)] = (dbd_areIndexes k a0 a1).map dbd_areIndexes_fin := by
  cases k with
  | zero => rfl
  | succ k =>
    unfold dbd_areIndexes
    refine et (evF_succ (c := f89c) (N := 73) (regs := f89n) rfl func89 rfl (by decide) rfl rfl rfl) <| kra [] rfl <| et k_assoc <| krp f89a1 rfl ⟨[(0, (sSearch a0)), (1, (sType a1)), (8, (sSearch a0)), (9, (I (a0.length : Int))), (10, (I 0))], [], 73⟩ ?_ ?_
    · exact rd 1 [(8, (sSearch a0))] rfl rfl <| rl rfl (p_len (e := eSearch) rfl rfl rfl rfl rfl rfl underlying23) <| bind_end rfl
    refine et (k_block rfl) <| et k_loop ?_
    refine dbd_areIndexes_L1_ok k a0 a1 _ _ ?h_dbd_areIndexes_L1_0 ?hr_dbd_areIndexes_L1 k 0
    · intro y22
      refine et blk_exit <| krp f89a10 rfl ⟨[(4, (Bo (decide ((a0.length : Int) ≤ 3))))], [], 73⟩ ?_ ?_
      · exact rd 1 [(70, (sSearch a0))] rfl rfl <| rl rfl (p_len (e := eSearch) rfl rfl rfl rfl rfl rfl underlying23) <| bind_end rfl
      refine et k_lret ?_
      rfl
    · intro s; exact rfl
def dbd_Valid_fin : Bool → V × List V := fun r => ((Bo r), [])
theorem dbd_Valid_ok (k : Nat) (a0 : T_api_Base) : EV k 79 [(eBase a0)] = (dbd_Valid k a0).map dbd_Valid_fin := by
  cases k with
  | zero => rfl
  | succ k =>
    unfold dbd_Valid
    refine et (evF_succ (c := f79c) (N := 28) (regs := f79n) rfl func79 rfl (by decide) rfl rfl rfl) <| kr ⟨[(1, (Pt 1))], [(1, vS 4 (eBase a0))], 28⟩ rfl <| kg f79a1 rfl (fun (o4 : Bool) => ⟨[(2, (Bo o4))], [], 28⟩) ?_ fun o4 => ?_
    · refine rd 2 [(3, (Pt 1)), (4, (Sr a0.fName))] rfl rfl <| rp rfl (p_call rfl rfl rfl rfl rfl (dbd_IsName_ok k a0.fName) (.inl rfl)) fun v1 => bd 4 [(5, (Bo v1)), (6, (Bo v1))] rfl rfl <| bifE (fun hc => ?_) fun hc => ?_
      · rw [hc]
        refine rd 9 [(7, (V.ptr 1 0 1)), (8, (I a0.fKind)), (9, (Bo (decide (a0.fKind ≥ 1)))), (10, (Bo (decide (a0.fKind ≥ 1)))), (11, (Bo (decide (a0.fKind ≥ 1))))] rfl rfl <| bifE (fun hc => ?_) fun hc => ?_
        · rw [hc]
          refine rd 14 [(12, (V.ptr 1 0 1)), (13, (I a0.fKind)), (14, (Bo (decide (a0.fKind ≤ 4)))), (15, (Bo (decide (a0.fKind ≤ 4)))), (16, (Bo (decide (a0.fKind ≤ 4))))] rfl rfl <| bifE (fun hc => ?_) fun hc => ?_
          · rw [hc]
            refine rd 16 [(17, (V.ptr 1 0 2)), (18, (sType a0.fTypes))] rfl rfl <| rp rfl (p_call rfl rfl rfl rfl rfl (dbd_areTypes_ok k a0.fTypes) (.inl rfl)) fun v2 => bd 19 [(19, (Bo v2)), (20, (Bo v2)), (21, (Bo v2))] rfl rfl <| bifE (fun hc => ?_) fun hc => ?_
            · rw [hc]
              exact rd 23 [(22, (V.ptr 1 0 3)), (23, (sSearch a0.fIndexes)), (24, (V.ptr 1 0 2)), (25, (sType a0.fTypes))] rfl rfl <| rs rfl (p_call rfl rfl rfl rfl rfl (dbd_areIndexes_ok k a0.fIndexes a0.fTypes) (.inl rfl)) fun v3 => bind_end rfl
            · rw [hc]
              exact reg_end rfl
          · rw [hc]
            exact reg_end rfl
        · rw [hc]
          exact reg_end rfl
      · rw [hc]
        exact reg_end rfl
    refine et k_lret ?_
    rfl
def slices_IndexFunc_int_fin : Int → V × List V := fun r => ((I r), [])
theorem slices_IndexFunc_int_L1_ok (k : Nat) (a0 : (List Int)) (a1 : Nat → Int → Option Bool) (a1_fid : Go.FuncId) (a1_c0 : V) (a1_hok : ∀ j x0, EV j a1_fid [(I x0), V.pro a1_c0] = (a1 j x0).map fun b => ((Bo b), [])) (K0 : Int → Option Int) (Kst : X × St → Option (V × List V)) (hK0 : ∀ (y0 : Int), Kst (X.exit 0, ⟨[(0, (sI a0)), (1, (V.fn a1_fid [] [V.pro a1_c0])), (7, (I (a0.length : Int))), (8, (I y0)), (9, (Bo false))], [], 19⟩) = (K0 y0).map slices_IndexFunc_int_fin) (hret : ∀ s, Kst (X.ret, s) = endK prog 19 [(sI a0), (V.fn a1_fid [] [V.pro a1_c0])] [] [.tmp 4] (X.ret, s)) :
    ∀ (m : Nat) (x4 : Int), (iter (exec prog (EV k) f90n k f90b0) m ⟨[(0, (sI a0)), (1, (V.fn a1_fid [] [V.pro a1_c0])), (7, (I (a0.length : Int))), (8, (I x4))], [], 19⟩).bind Kst = (slices_IndexFunc_int_L1 k a0 a1 K0 m x4).map slices_IndexFunc_int_fin := by
  intro m
  induction m with
  | zero => intros; rfl
  | succ m ih =>
    intro x4
    unfold slices_IndexFunc_int_L1
    refine et k_round <| kra [(9, (Bo (decide (x4 < (a0.length : Int)))))] rfl <| kc rfl rfl (fun hc => ?_) fun hc => ?_
    · rw [hc]
      refine et k_skip <| et (k_block rfl) <| kr ⟨[(0, (sI a0)), (1, (V.fn a1_fid [] [V.pro a1_c0])), (5, (I x4)), (7, (I (a0.length : Int))), (8, (I x4))], [], 19⟩ rfl <| kga f90a4 rfl (fun (o7 : Bool) => [(16, (Bo o7))]) (rd 3 [(11, (V.fn a1_fid [] [V.pro a1_c0])), (12, (sI a0)), (13, (I x4))] rfl rfl <| rp rfl (p_index (e := I) rfl rfl rfl underlying110 rfl (by decide)) fun v5 => bd 5 [(14, (Pr (I v5))), (15, (I v5))] rfl rfl <| rs rfl (p_call rfl rfl rfl rfl rfl (a1_hok k v5) (.inl rfl)) fun v6 => bind_end rfl) fun o7 => kcl rfl rfl (fun hc => ?_) fun hc => ?_
      · rw [hc]
        refine kr ⟨[(4, (I x4))], [], 19⟩ rfl <| et k_lret <| et blk_ret <| et loop_ret <| et (hret _) ?_
        rfl
      · rw [hc]
        exact et k_lskip <| et blk_normal <| kl ⟨[(0, (sI a0)), (1, (V.fn a1_fid [] [V.pro a1_c0])), (7, (I (a0.length : Int))), (8, (I (Go.IntKind.wrap .i64 (x4 + 1))))], [], 19⟩ rfl <| et loop_normal <| ih (Go.IntKind.wrap .i64 (x4 + 1))
    · rw [hc]
      exact et k_exit <| et loop_exit <| hK0 x4
theorem slices_IndexFunc_int_ok (k : Nat) (a0 : (List Int)) (a1 : Nat → Int → Option Bool) (a1_fid : Go.FuncId) (a1_c0 : V) (a1_hok : ∀ j x0, EV j a1_fid [(I x0), V.pro a1_c0] = (a1 j x0).map fun b => ((Bo b), [])) : EV k 90 [(sI a0), (V.fn a1_fid [] [V.pro a1_c0])] = (slices_IndexFunc_int k a0 a1).map slices_IndexFunc_int_fin := by
  cases k with
  | zero => rfl
  | succ k =>
    unfold slices_IndexFunc_int
    refine et (evF_succ (c := f90c) (N := 19) (regs := f90n) rfl func90 rfl (by decide) rfl rfl rfl) <| kra [] rfl <| et k_assoc <| krp f90a1 rfl ⟨[(0, (sI a0)), (1, (V.fn a1_fid [] [V.pro a1_c0])), (7, (I (a0.length : Int))), (8, (I 0))], [], 19⟩ ?_ ?_
    · exact rd 1 [(6, (sI a0))] rfl rfl <| rl rfl (p_len (e := I) rfl rfl rfl rfl rfl rfl underlying110) <| bind_end rfl
    refine et (k_block rfl) <| et k_loop ?_
    refine slices_IndexFunc_int_L1_ok k a0 a1 a1_fid a1_c0 a1_hok _ _ ?h_slices_IndexFunc_int_L1_0 ?hr_slices_IndexFunc_int_L1 k 0
    · intro y8
      refine et blk_exit <| kr ⟨[(4, (I (-1)))], [], 19⟩ rfl <| et k_lret ?_
      rfl
    · intro s; exact rfl
def slices_ContainsFunc_int_fin : Bool → V × List V := fun r => ((Bo r), [])
theorem slices_ContainsFunc_int_ok (k : Nat) (a0 : (List Int)) (a1 : Nat → Int → Option Bool) (a1_fid : Go.FuncId) (a1_c0 : V) (a1_hok : ∀ j x0, EV j a1_fid [(I x0), V.pro a1_c0] = (a1 j x0).map fun b => ((Bo b), [])) : EV k 80 [(sI a0), (V.fn a1_fid [] [V.pro a1_c0])] = (slices_ContainsFunc_int k a0 a1).map slices_ContainsFunc_int_fin := by
  cases k with
  | zero => rfl
  | succ k =>
    unfold slices_ContainsFunc_int
    refine et (evF_succ (c := f80c) (N := 9) (regs := f80n) rfl func80 rfl (by decide) rfl rfl rfl) <| kra [] rfl <| kg f80a1 rfl (fun (o2 : Bool) => ⟨[(4, (Bo o2))], [], 9⟩) (rd 2 [(5, (sI a0)), (6, (V.fn a1_fid [] [V.pro a1_c0]))] rfl rfl <| rp rfl (p_call rfl rfl rfl rfl rfl (slices_IndexFunc_int_ok k a0 a1 a1_fid a1_c0 a1_hok) (.inl rfl)) fun v1 => bind_end rfl) fun o2 => et k_lret ?_
    rfl
def dbd_asked_1_fin : Bool → V × List V := fun r => ((Bo r), [])
theorem dbd_asked_1_ok (k : Nat) (a0 : Int) (a1 : T_api_Base) : EV k 81 [(I a0), (Pr (eBase a1))] = (dbd_asked_1 k a0 a1).map dbd_asked_1_fin := by
  cases k with
  | zero => rfl
  | succ k =>
    unfold dbd_asked_1
    refine et (evF_succ (c := f81c) (N := 13) (regs := f81n) rfl func81 rfl (by decide) rfl rfl rfl) <| kra [] rfl <| kg f81a1 rfl (fun (o1 : Bool) => ⟨[(3, (Bo o1))], [], 13⟩) ?_ fun o1 => ?_
    · refine rd 3 [(4, (I a0)), (5, (Bo (decide (a0 < 0)))), (6, (Bo (decide (a0 < 0))))] rfl rfl <| bifE (fun hc => ?_) fun hc => ?_
      · rw [hc]
        exact reg_end rfl
      · rw [hc]
        exact rd 6 [(7, (I a0)), (8, (Pr (sType a1.fTypes))), (9, (sType a1.fTypes))] rfl rfl <| rl rfl (p_len (e := eType) rfl rfl rfl rfl rfl rfl underlying22) <| bind_end rfl
    refine et k_lret ?_
    rfl
def dbd_asked_fin : Int → V × List V := fun r => ((I r), [])
theorem dbd_asked_ok (k : Nat) (a0 : T_api_Base) (a1 : (List Int)) : EV k 73 [(eBase a0), (sI a1)] = (dbd_asked k a0 a1).map dbd_asked_fin := by
  cases k with
  | zero => rfl
  | succ k =>
    unfold dbd_asked
    refine et (evF_succ (c := f73c) (N := 13) (regs := f73n) rfl func73 rfl (by decide) rfl rfl rfl) <| kr ⟨[(1, (sI a1)), (2, (Pt 2))], [(2, vS 4 (eBase a0))], 13⟩ rfl <| et (k_block rfl) <| kga f73a1 rfl (fun (o2 : Bool) => [(5, (Bo o2))]) (rd 1 [(6, (eBase a0))] rfl rfl <| rp rfl (p_call rfl rfl rfl rfl rfl (dbd_Valid_ok k a0) (.inl rfl)) fun v1 => bind_end rfl) fun o2 => kcl rfl rfl (fun hc => ?_) fun hc => ?_
    · rw [hc]
      refine kr ⟨[(4, (I 100))], [], 13⟩ rfl <| et k_lret <| et blk_ret ?_
      rfl
    · rw [hc]
      refine kg f73a3 rfl (fun (o4 : Bool) => ⟨[(9, (Bo o4))], [], 13⟩) (rd 2 [(10, (sI a1)), (11, (V.fn 81 [] [(Pt 2)]))] rfl rfl <| rs rfl (p_call rfl rfl rfl rfl rfl (slices_ContainsFunc_int_ok k a1 (fun j x0 => (dbd_asked_1 j x0 a0)) 81 (eBase a0) (fun j x0 => (dbd_asked_1_ok j x0 a0))) (.inr (fun _ => rfl))) fun v3 => bind_end rfl) fun o4 => kcl rfl rfl (fun hc => ?_) fun hc => ?_
      · rw [hc]
        refine kr ⟨[(4, (I 2))], [], 13⟩ rfl <| et k_lret <| et blk_ret ?_
        rfl
      · rw [hc]
        refine et k_lskip <| et blk_normal <| kr ⟨[(4, (I 0))], [], 13⟩ rfl <| et k_lret ?_
        rfl
def slices_Reverse_int_fin : List Int → V × List V := fun r => (.tup [], [.sl 2 1 (List.map I r)])
theorem slices_Reverse_int_ok (k : Nat) (l : List Int) : EV k 82 [(V.sl 2 1 (List.map I l))] = (slices_Reverse_int k l).map slices_Reverse_int_fin := by
  cases k with
  | zero => rfl
  | succ k => exact (evF_ext (ext := ext) (f := 82) rfl).trans (extReverseInt_map l)
def dbd_way_fin : (List Int) → V × List V := fun r => ((sI r), [])
theorem dbd_way_L1_ok (k : Nat) (a0 : T_api_Base) (a1 : Int)  (K0 : Int → (List Int) → Option (List Int)) (Kst : X × St → Option (V × List V)) (hK0 : ∀ (y0 : Int) (y1 : (List Int)), Kst (X.exit 0, ⟨[(1, (I y0)), (2, (Pt 2)), (5, (aL 5 I y1)), (7, (Bo false))], [(2, vS 4 (eBase a0)), (5, ⟨true, 1, List.map I y1⟩)], 21⟩) = (K0 y0 y1).map dbd_way_fin) (hret : ∀ s, Kst (X.ret, s) = endK prog 21 [(eBase a0), (I a1)] [] [.tmp 4] (X.ret, s)) :
    ∀ (m : Nat) (x5 : Int) (x6 : (List Int)), (iter (exec prog (EV k) f74n k f74b0) m ⟨[(1, (I x5)), (2, (Pt 2)), (5, (aL 5 I x6))], [(2, vS 4 (eBase a0)), (5, ⟨true, 1, List.map I x6⟩)], 21⟩).bind Kst = (dbd_way_L1 a0 K0 m x5 x6).map dbd_way_fin := by
  intro m
  induction m with
  | zero => intros; rfl
  | succ m ih =>
    intro x5 x6
    unfold dbd_way_L1
    refine et k_round <| et k_assoc <| kra [(7, (Bo (decide (x5 ≥ 0))))] rfl <| kc rfl rfl (fun hc => ?_) fun hc => ?_
    · rw [hc]
      exact et k_skip <| et (k_block rfl) <| kgl f74a4 rfl (fun (o8 : (List Int)) => ⟨[(1, (I x5)), (2, (Pt 2)), (5, (aL 5 I o8))], [(2, vS 4 (eBase a0)), (5, ⟨true, 1, List.map I o8⟩)], 21⟩) (rd 3 [(14, (aL 5 I x6)), (15, (I x5)), (16, (sI (([x5] : List Int))))] rfl rfl <| et (reg_eff (x := (app x6 ([x5] : List Int))) (w := fun v7 => ((aL 5 I v7), _)) rfl rfl rfl rfl (p_appF (e := I) (l := x6) rfl rfl rfl rfl rfl rfl rfl rfl rfl rfl rfl (of_decide_eq_true rfl))) <| bind_self fun v7 => bind_end rfl) fun o8 => et blk_normal <| kgl f74a3 rfl (fun (o10 : Int) => ⟨[(1, (I o10)), (2, (Pt 2)), (5, (aL 5 I o8))], [(2, vS 4 (eBase a0)), (5, ⟨true, 1, List.map I o8⟩)], 21⟩) (rd 3 [(8, (V.ptr 2 0 2)), (9, (sType a0.fTypes)), (10, (I x5))] rfl rfl <| rp rfl (p_index (e := eType) rfl rfl rfl underlying22 rfl (by decide)) fun v9 => bind_end rfl) fun o10 => et loop_normal <| ih o10 o8
    · rw [hc]
      exact et k_exit <| et loop_exit <| hK0 x5 x6
theorem dbd_way_ok (k : Nat) (a0 : T_api_Base) (a1 : Int) : EV k 74 [(eBase a0), (I a1)] = (dbd_way k a0 a1).map dbd_way_fin := by
  cases k with
  | zero => rfl
  | succ k =>
    unfold dbd_way
    refine et (evF_succ (c := f74c) (N := 21) (regs := f74n) rfl func74 rfl (by decide) rfl rfl rfl) <| kr ⟨[(1, (I a1)), (2, (Pt 2))], [(2, vS 4 (eBase a0))], 21⟩ rfl <| kr ⟨[(1, (I a1)), (2, (Pt 2)), (5, (aL 5 I ([] : List Int)))], [(2, vS 4 (eBase a0)), (5, ⟨true, 1, List.map I ([] : List Int)⟩)], 21⟩ rfl <| et (k_block rfl) <| et k_loop ?_
    refine dbd_way_L1_ok k a0 a1 _ _ ?h_dbd_way_L1_0 ?hr_dbd_way_L1 k a1 ([] : List Int)
    · intro y11 y12
      refine et blk_exit <| kg f74a5 rfl (fun (o14 : (List Int)) => ⟨[(5, (aL 5 I o14))], [(5, ⟨true, 1, List.map I o14⟩)], 21⟩) (rd 1 [(18, (aL 5 I y12))] rfl rfl <| et (reg_eff (x := ((slices_Reverse_int k y12).bind (sameLen y12))) (w := fun v13 => (V.tup [], _)) rfl rfl rfl rfl (p_callL (S := (fun n_ => ⟨[(1, (I y11)), (2, (Pt 2)), (5, (V.aref 5 0 n_)), (7, (Bo false)), (18, (V.aref 5 0 n_))], [(2, vS 4 (eBase a0)), (5, ⟨true, 1, List.map I y12⟩)], 21⟩)) (e := I) rfl rfl rfl rfl rfl (argsA1 (e := I) rfl) rfl (slices_Reverse_int_ok k y12))) <| bind_self fun v13 => bind_end rfl) fun o14 => krp f74a6 rfl ⟨[(4, (sI o14))], [], 21⟩ ?_ ?_
      · exact rd 1 [(20, (aL 5 I o14))] rfl rfl <| et (reg_eff (x := some ()) (w := fun _ => ((V.sl 2 1 (List.map I o14)), _)) rfl rfl rfl rfl (p_close (e := I) rfl rfl rfl rfl rfl (of_decide_eq_true rfl))) <| et some_bind <| bind_end rfl
      refine et k_lret ?_
      rfl
    · intro s; exact rfl
def dbd_Way_fin : ((List Int) × Int) → V × List V := fun r => (.tup [(sI r.1), (I r.2)], [])
theorem dbd_Way_ok (k : Nat) (a0 : T_api_Base) (a1 : Int) : EV k 57 [(eBase a0), (I a1)] = (dbd_Way k a0 a1).map dbd_Way_fin := by
  cases k with
  | zero => rfl
  | succ k =>
    unfold dbd_Way
    refine et (evF_succ (c := f57c) (N := 17) (regs := f57n) rfl func57 rfl (by decide) rfl rfl rfl) <| kr ⟨[(1, (I a1)), (2, (Pt 2))], [(2, vS 4 (eBase a0))], 17⟩ rfl <| et k_assoc <| kga f57a1 rfl (fun (o2 : Int) => [(6, (I o2))]) (rd 3 [(7, (eBase a0)), (8, (I a1)), (9, (sI (([a1] : List Int))))] rfl rfl <| rs rfl (p_call rfl rfl rfl rfl rfl (dbd_asked_ok k a0 ([a1] : List Int)) (.inl rfl)) fun v1 => bind_end rfl) fun o2 => et k_assoc <| kra [(12, (Bo (o2 != 0)))] rfl <| kc rfl rfl (fun hc => ?_) fun hc => ?_
    · rw [hc]
      refine et k_assoc <| kr ⟨[(4, (sI (([] : List Int)))), (5, (I o2))], [], 17⟩ rfl <| et k_ret ?_
      rfl
    · rw [hc]
      refine et k_skip <| kg f57a4 rfl (fun (o4 : (List Int) × Int) => ⟨[(4, (sI o4.1)), (5, (I o4.2))], [], 17⟩) (rd 2 [(14, (eBase a0)), (15, (I a1))] rfl rfl <| rp rfl (p_call rfl rfl rfl rfl rfl (dbd_way_ok k a0 a1) (.inl rfl)) fun v3 => bind_end rfl) fun o4 => et k_lret ?_
      rfl
def dbd_Depth_fin : (Int × Int) → V × List V := fun r => (.tup [(I r.1), (I r.2)], [])
theorem dbd_Depth_ok (k : Nat) (a0 : T_api_Base) (a1 : Int) : EV k 40 [(eBase a0), (I a1)] = (dbd_Depth k a0 a1).map dbd_Depth_fin := by
  cases k with
  | zero => rfl
  | succ k =>
    unfold dbd_Depth
    refine et (evF_succ (c := f40c) (N := 17) (regs := f40n) rfl func40 rfl (by decide) rfl rfl rfl) <| kr ⟨[(1, (I a1)), (2, (Pt 2))], [(2, vS 4 (eBase a0))], 17⟩ rfl <| kg f40a1 rfl (fun (o2 : (List Int) × Int) => ⟨[(6, (sI o2.1)), (7, (I o2.2))], [], 17⟩) (rd 2 [(9, (eBase a0)), (10, (I a1))] rfl rfl <| rp rfl (p_call rfl rfl rfl rfl rfl (dbd_Way_ok k a0 a1) (.inl rfl)) fun v1 => bind_end rfl) fun o2 => krp f40a2 rfl ⟨[(4, (I (o2.1.length : Int))), (5, (I o2.2))], [], 17⟩ ?_ ?_
    · exact rd 1 [(14, (sI o2.1))] rfl rfl <| rl rfl (p_len (e := I) rfl rfl rfl rfl rfl rfl underlying110) <| bind_end rfl
    refine et k_lret ?_
    rfl
def match_asked_fin : Int → V × List V := fun r => ((I r), [])
theorem match_asked_ok (k : Nat) (a0 : T_api_Base) (a1 : Int) : EV k 21 [(eBase a0), (I a1)] = (match_asked k a0 a1).map match_asked_fin := by
  cases k with
  | zero => rfl
  | succ k =>
    unfold match_asked
    refine et (evF_succ (c := f21c) (N := 14) (regs := f21n) rfl func21 rfl (by decide) rfl rfl rfl) <| kr ⟨[(1, (I a1)), (2, (Pt 2))], [(2, vS 4 (eBase a0))], 14⟩ rfl <| kg f21a1 rfl (fun (o2 : Int) => ⟨[(6, (I o2))], [], 14⟩) (rd 2 [(8, (eBase a0)), (9, (I a1))] rfl rfl <| rp rfl (p_call rfl rfl rfl rfl rfl (dbd_Depth_ok k a0 a1) (.inl rfl)) fun v1 => bind_end rfl) fun o2 => kr ⟨[(4, (I o2))], [], 14⟩ rfl <| et k_lret ?_
    rfl
def slices_IndexFunc_TermLL_fin : Int → V × List V := fun r => ((I r), [])
theorem slices_IndexFunc_TermLL_L1_ok (k : Nat) (a0 : (List (List (List T_api_Term)))) (a1 : Nat → (List (List T_api_Term)) → Option Bool) (a1_fid : Go.FuncId) (a1_c0 : V) (a1_hok : ∀ j x0, EV j a1_fid [(V.sl 0 1 (List.map sTerm x0)), V.pro a1_c0] = (a1 j x0).map fun b => ((Bo b), [])) (K0 : Int → Option Int) (Kst : X × St → Option (V × List V)) (hK0 : ∀ (y0 : Int), Kst (X.exit 0, ⟨[(0, (V.sl 0 1 (List.map (fun x => (V.sl 0 1 (List.map sTerm x))) a0))), (1, (V.fn a1_fid [] [V.pro a1_c0])), (7, (I (a0.length : Int))), (8, (I y0)), (9, (Bo false))], [], 19⟩) = (K0 y0).map slices_IndexFunc_TermLL_fin) (hret : ∀ s, Kst (X.ret, s) = endK prog 19 [(V.sl 0 1 (List.map (fun x => (V.sl 0 1 (List.map sTerm x))) a0)), (V.fn a1_fid [] [V.pro a1_c0])] [] [.tmp 4] (X.ret, s)) :
    ∀ (m : Nat) (x4 : Int), (iter (exec prog (EV k) f50n k f50b0) m ⟨[(0, (V.sl 0 1 (List.map (fun x => (V.sl 0 1 (List.map sTerm x))) a0))), (1, (V.fn a1_fid [] [V.pro a1_c0])), (7, (I (a0.length : Int))), (8, (I x4))], [], 19⟩).bind Kst = (slices_IndexFunc_TermLL_L1 k a0 a1 K0 m x4).map slices_IndexFunc_TermLL_fin := by
  intro m
  induction m with
  | zero => intros; rfl
  | succ m ih =>
    intro x4
    unfold slices_IndexFunc_TermLL_L1
    refine et k_round <| kra [(9, (Bo (decide (x4 < (a0.length : Int)))))] rfl <| kc rfl rfl (fun hc => ?_) fun hc => ?_
    · rw [hc]
      refine et k_skip <| et (k_block rfl) <| kr ⟨[(0, (V.sl 0 1 (List.map (fun x => (V.sl 0 1 (List.map sTerm x))) a0))), (1, (V.fn a1_fid [] [V.pro a1_c0])), (5, (I x4)), (7, (I (a0.length : Int))), (8, (I x4))], [], 19⟩ rfl <| kga f50a4 rfl (fun (o7 : Bool) => [(16, (Bo o7))]) (rd 3 [(11, (V.fn a1_fid [] [V.pro a1_c0])), (12, (V.sl 0 1 (List.map (fun x => (V.sl 0 1 (List.map sTerm x))) a0))), (13, (I x4))] rfl rfl <| rp rfl (p_index (e := (fun x => (V.sl 0 1 (List.map sTerm x)))) rfl rfl rfl underlying70 rfl (by decide)) fun v5 => bd 5 [(14, (Pr (V.sl 0 1 (List.map sTerm v5)))), (15, (V.sl 0 1 (List.map sTerm v5)))] rfl rfl <| rs rfl (p_call rfl rfl rfl rfl rfl (a1_hok k v5) (.inl rfl)) fun v6 => bind_end rfl) fun o7 => kcl rfl rfl (fun hc => ?_) fun hc => ?_
      · rw [hc]
        refine kr ⟨[(4, (I x4))], [], 19⟩ rfl <| et k_lret <| et blk_ret <| et loop_ret <| et (hret _) ?_
        rfl
      · rw [hc]
        exact et k_lskip <| et blk_normal <| kl ⟨[(0, (V.sl 0 1 (List.map (fun x => (V.sl 0 1 (List.map sTerm x))) a0))), (1, (V.fn a1_fid [] [V.pro a1_c0])), (7, (I (a0.length : Int))), (8, (I (Go.IntKind.wrap .i64 (x4 + 1))))], [], 19⟩ rfl <| et loop_normal <| ih (Go.IntKind.wrap .i64 (x4 + 1))
    · rw [hc]
      exact et k_exit <| et loop_exit <| hK0 x4
theorem slices_IndexFunc_TermLL_ok (k : Nat) (a0 : (List (List (List T_api_Term)))) (a1 : Nat → (List (List T_api_Term)) → Option Bool) (a1_fid : Go.FuncId) (a1_c0 : V) (a1_hok : ∀ j x0, EV j a1_fid [(V.sl 0 1 (List.map sTerm x0)), V.pro a1_c0] = (a1 j x0).map fun b => ((Bo b), [])) : EV k 50 [(V.sl 0 1 (List.map (fun x => (V.sl 0 1 (List.map sTerm x))) a0)), (V.fn a1_fid [] [V.pro a1_c0])] = (slices_IndexFunc_TermLL k a0 a1).map slices_IndexFunc_TermLL_fin := by
  cases k with
  | zero => rfl
  | succ k =>
    unfold slices_IndexFunc_TermLL
    refine et (evF_succ (c := f50c) (N := 19) (regs := f50n) rfl func50 rfl (by decide) rfl rfl rfl) <| kra [] rfl <| et k_assoc <| krp f50a1 rfl ⟨[(0, (V.sl 0 1 (List.map (fun x => (V.sl 0 1 (List.map sTerm x))) a0))), (1, (V.fn a1_fid [] [V.pro a1_c0])), (7, (I (a0.length : Int))), (8, (I 0))], [], 19⟩ ?_ ?_
    · exact rd 1 [(6, (V.sl 0 1 (List.map (fun x => (V.sl 0 1 (List.map sTerm x))) a0)))] rfl rfl <| rl rfl (p_len (e := (fun x => (V.sl 0 1 (List.map sTerm x)))) rfl rfl rfl rfl rfl rfl underlying70) <| bind_end rfl
    refine et (k_block rfl) <| et k_loop ?_
    refine slices_IndexFunc_TermLL_L1_ok k a0 a1 a1_fid a1_c0 a1_hok _ _ ?h_slices_IndexFunc_TermLL_L1_0 ?hr_slices_IndexFunc_TermLL_L1 k 0
    · intro y8
      refine et blk_exit <| kr ⟨[(4, (I (-1)))], [], 19⟩ rfl <| et k_lret ?_
      rfl
    · intro s; exact rfl
def slices_ContainsFunc_TermLL_fin : Bool → V × List V := fun r => ((Bo r), [])
theorem slices_ContainsFunc_TermLL_ok (k : Nat) (a0 : (List (List (List T_api_Term)))) (a1 : Nat → (List (List T_api_Term)) → Option Bool) (a1_fid : Go.FuncId) (a1_c0 : V) (a1_hok : ∀ j x0, EV j a1_fid [(V.sl 0 1 (List.map sTerm x0)), V.pro a1_c0] = (a1 j x0).map fun b => ((Bo b), [])) : EV k 29 [(V.sl 0 1 (List.map (fun x => (V.sl 0 1 (List.map sTerm x))) a0)), (V.fn a1_fid [] [V.pro a1_c0])] = (slices_ContainsFunc_TermLL k a0 a1).map slices_ContainsFunc_TermLL_fin := by
  cases k with
  | zero => rfl
  | succ k =>
    unfold slices_ContainsFunc_TermLL
    refine et (evF_succ (c := f29c) (N := 9) (regs := f29n) rfl func29 rfl (by decide) rfl rfl rfl) <| kra [] rfl <| kg f29a1 rfl (fun (o2 : Bool) => ⟨[(4, (Bo o2))], [], 9⟩) (rd 2 [(5, (V.sl 0 1 (List.map (fun x => (V.sl 0 1 (List.map sTerm x))) a0))), (6, (V.fn a1_fid [] [V.pro a1_c0]))] rfl rfl <| rp rfl (p_call rfl rfl rfl rfl rfl (slices_IndexFunc_TermLL_ok k a0 a1 a1_fid a1_c0 a1_hok) (.inl rfl)) fun v1 => bind_end rfl) fun o2 => et k_lret ?_
    rfl
def slices_IndexFunc_TermL_fin : Int → V × List V := fun r => ((I r), [])
theorem slices_IndexFunc_TermL_L1_ok (k : Nat) (a0 : (List (List T_api_Term))) (a1 : Nat → (List T_api_Term) → Option Bool) (a1_fid : Go.FuncId) (a1_c0 : V) (a1_hok : ∀ j x0, EV j a1_fid [(sTerm x0), V.pro a1_c0] = (a1 j x0).map fun b => ((Bo b), [])) (K0 : Int → Option Int) (Kst : X × St → Option (V × List V)) (hK0 : ∀ (y0 : Int), Kst (X.exit 0, ⟨[(0, (V.sl 0 1 (List.map sTerm a0))), (1, (V.fn a1_fid [] [V.pro a1_c0])), (7, (I (a0.length : Int))), (8, (I y0)), (9, (Bo false))], [], 19⟩) = (K0 y0).map slices_IndexFunc_TermL_fin) (hret : ∀ s, Kst (X.ret, s) = endK prog 19 [(V.sl 0 1 (List.map sTerm a0)), (V.fn a1_fid [] [V.pro a1_c0])] [] [.tmp 4] (X.ret, s)) :
    ∀ (m : Nat) (x4 : Int), (iter (exec prog (EV k) f64n k f64b0) m ⟨[(0, (V.sl 0 1 (List.map sTerm a0))), (1, (V.fn a1_fid [] [V.pro a1_c0])), (7, (I (a0.length : Int))), (8, (I x4))], [], 19⟩).bind Kst = (slices_IndexFunc_TermL_L1 k a0 a1 K0 m x4).map slices_IndexFunc_TermL_fin := by
  intro m
  induction m with
  | zero => intros; rfl
  | succ m ih =>
    intro x4
    unfold slices_IndexFunc_TermL_L1
    refine et k_round <| kra [(9, (Bo (decide (x4 < (a0.length : Int)))))] rfl <| kc rfl rfl (fun hc => ?_) fun hc => ?_
    · rw [hc]
      refine et k_skip <| et (k_block rfl) <| kr ⟨[(0, (V.sl 0 1 (List.map sTerm a0))), (1, (V.fn a1_fid [] [V.pro a1_c0])), (5, (I x4)), (7, (I (a0.length : Int))), (8, (I x4))], [], 19⟩ rfl <| kga f64a4 rfl (fun (o7 : Bool) => [(16, (Bo o7))]) (rd 3 [(11, (V.fn a1_fid [] [V.pro a1_c0])), (12, (V.sl 0 1 (List.map sTerm a0))), (13, (I x4))] rfl rfl <| rp rfl (p_index (e := sTerm) rfl rfl rfl underlying26 rfl (by decide)) fun v5 => bd 5 [(14, (Pr (sTerm v5))), (15, (sTerm v5))] rfl rfl <| rs rfl (p_call rfl rfl rfl rfl rfl (a1_hok k v5) (.inl rfl)) fun v6 => bind_end rfl) fun o7 => kcl rfl rfl (fun hc => ?_) fun hc => ?_
      · rw [hc]
        refine kr ⟨[(4, (I x4))], [], 19⟩ rfl <| et k_lret <| et blk_ret <| et loop_ret <| et (hret _) ?_
        rfl
      · rw [hc]
        exact et k_lskip <| et blk_normal <| kl ⟨[(0, (V.sl 0 1 (List.map sTerm a0))), (1, (V.fn a1_fid [] [V.pro a1_c0])), (7, (I (a0.length : Int))), (8, (I (Go.IntKind.wrap .i64 (x4 + 1))))], [], 19⟩ rfl <| et loop_normal <| ih (Go.IntKind.wrap .i64 (x4 + 1))
    · rw [hc]
      exact et k_exit <| et loop_exit <| hK0 x4
theorem slices_IndexFunc_TermL_ok (k : Nat) (a0 : (List (List T_api_Term))) (a1 : Nat → (List T_api_Term) → Option Bool) (a1_fid : Go.FuncId) (a1_c0 : V) (a1_hok : ∀ j x0, EV j a1_fid [(sTerm x0), V.pro a1_c0] = (a1 j x0).map fun b => ((Bo b), [])) : EV k 64 [(V.sl 0 1 (List.map sTerm a0)), (V.fn a1_fid [] [V.pro a1_c0])] = (slices_IndexFunc_TermL k a0 a1).map slices_IndexFunc_TermL_fin := by
  cases k with
  | zero => rfl
  | succ k =>
    unfold slices_IndexFunc_TermL
    refine et (evF_succ (c := f64c) (N := 19) (regs := f64n) rfl func64 rfl (by decide) rfl rfl rfl) <| kra [] rfl <| et k_assoc <| krp f64a1 rfl ⟨[(0, (V.sl 0 1 (List.map sTerm a0))), (1, (V.fn a1_fid [] [V.pro a1_c0])), (7, (I (a0.length : Int))), (8, (I 0))], [], 19⟩ ?_ ?_
    · exact rd 1 [(6, (V.sl 0 1 (List.map sTerm a0)))] rfl rfl <| rl rfl (p_len (e := sTerm) rfl rfl rfl rfl rfl rfl underlying26) <| bind_end rfl
    refine et (k_block rfl) <| et k_loop ?_
    refine slices_IndexFunc_TermL_L1_ok k a0 a1 a1_fid a1_c0 a1_hok _ _ ?h_slices_IndexFunc_TermL_L1_0 ?hr_slices_IndexFunc_TermL_L1 k 0
    · intro y8
      refine et blk_exit <| kr ⟨[(4, (I (-1)))], [], 19⟩ rfl <| et k_lret ?_
      rfl
    · intro s; exact rfl
def slices_ContainsFunc_TermL_fin : Bool → V × List V := fun r => ((Bo r), [])
theorem slices_ContainsFunc_TermL_ok (k : Nat) (a0 : (List (List T_api_Term))) (a1 : Nat → (List T_api_Term) → Option Bool) (a1_fid : Go.FuncId) (a1_c0 : V) (a1_hok : ∀ j x0, EV j a1_fid [(sTerm x0), V.pro a1_c0] = (a1 j x0).map fun b => ((Bo b), [])) : EV k 43 [(V.sl 0 1 (List.map sTerm a0)), (V.fn a1_fid [] [V.pro a1_c0])] = (slices_ContainsFunc_TermL k a0 a1).map slices_ContainsFunc_TermL_fin := by
  cases k with
  | zero => rfl
  | succ k =>
    unfold slices_ContainsFunc_TermL
    refine et (evF_succ (c := f43c) (N := 9) (regs := f43n) rfl func43 rfl (by decide) rfl rfl rfl) <| kra [] rfl <| kg f43a1 rfl (fun (o2 : Bool) => ⟨[(4, (Bo o2))], [], 9⟩) (rd 2 [(5, (V.sl 0 1 (List.map sTerm a0))), (6, (V.fn a1_fid [] [V.pro a1_c0]))] rfl rfl <| rp rfl (p_call rfl rfl rfl rfl rfl (slices_IndexFunc_TermL_ok k a0 a1 a1_fid a1_c0 a1_hok) (.inl rfl)) fun v1 => bind_end rfl) fun o2 => et k_lret ?_
    rfl
def slices_IndexFunc_Term_fin : Int → V × List V := fun r => ((I r), [])
theorem slices_IndexFunc_Term_L1_ok (k : Nat) (a0 : (List T_api_Term)) (a1 : Nat → T_api_Term → Option Bool) (a1_fid : Go.FuncId) (a1_c0 : V) (a1_hok : ∀ j x0, EV j a1_fid [(eTerm x0), V.pro a1_c0] = (a1 j x0).map fun b => ((Bo b), [])) (K0 : Int → Option Int) (Kst : X × St → Option (V × List V)) (hK0 : ∀ (y0 : Int), Kst (X.exit 0, ⟨[(0, (sTerm a0)), (1, (V.fn a1_fid [] [V.pro a1_c0])), (7, (I (a0.length : Int))), (8, (I y0)), (9, (Bo false))], [], 19⟩) = (K0 y0).map slices_IndexFunc_Term_fin) (hret : ∀ s, Kst (X.ret, s) = endK prog 19 [(sTerm a0), (V.fn a1_fid [] [V.pro a1_c0])] [] [.tmp 4] (X.ret, s)) :
    ∀ (m : Nat) (x4 : Int), (iter (exec prog (EV k) f65n k f65b0) m ⟨[(0, (sTerm a0)), (1, (V.fn a1_fid [] [V.pro a1_c0])), (7, (I (a0.length : Int))), (8, (I x4))], [], 19⟩).bind Kst = (slices_IndexFunc_Term_L1 k a0 a1 K0 m x4).map slices_IndexFunc_Term_fin := by
  intro m
  induction m with
  | zero => intros; rfl
  | succ m ih =>
    intro x4
    unfold slices_IndexFunc_Term_L1
    refine et k_round <| kra [(9, (Bo (decide (x4 < (a0.length : Int)))))] rfl <| kc rfl rfl (fun hc => ?_) fun hc => ?_
    · rw [hc]
      refine et k_skip <| et (k_block rfl) <| kr ⟨[(0, (sTerm a0)), (1, (V.fn a1_fid [] [V.pro a1_c0])), (5, (I x4)), (7, (I (a0.length : Int))), (8, (I x4))], [], 19⟩ rfl <| kga f65a4 rfl (fun (o7 : Bool) => [(16, (Bo o7))]) (rd 3 [(11, (V.fn a1_fid [] [V.pro a1_c0])), (12, (sTerm a0)), (13, (I x4))] rfl rfl <| rp rfl (p_index (e := eTerm) rfl rfl rfl underlying46 rfl (by decide)) fun v5 => bd 5 [(14, (Pr (eTerm v5))), (15, (eTerm v5))] rfl rfl <| rs rfl (p_call rfl rfl rfl rfl rfl (a1_hok k v5) (.inl rfl)) fun v6 => bind_end rfl) fun o7 => kcl rfl rfl (fun hc => ?_) fun hc => ?_
      · rw [hc]
        refine kr ⟨[(4, (I x4))], [], 19⟩ rfl <| et k_lret <| et blk_ret <| et loop_ret <| et (hret _) ?_
        rfl
      · rw [hc]
        exact et k_lskip <| et blk_normal <| kl ⟨[(0, (sTerm a0)), (1, (V.fn a1_fid [] [V.pro a1_c0])), (7, (I (a0.length : Int))), (8, (I (Go.IntKind.wrap .i64 (x4 + 1))))], [], 19⟩ rfl <| et loop_normal <| ih (Go.IntKind.wrap .i64 (x4 + 1))
    · rw [hc]
      exact et k_exit <| et loop_exit <| hK0 x4
theorem slices_IndexFunc_Term_ok (k : Nat) (a0 : (List T_api_Term)) (a1 : Nat → T_api_Term → Option Bool) (a1_fid : Go.FuncId) (a1_c0 : V) (a1_hok : ∀ j x0, EV j a1_fid [(eTerm x0), V.pro a1_c0] = (a1 j x0).map fun b => ((Bo b), [])) : EV k 65 [(sTerm a0), (V.fn a1_fid [] [V.pro a1_c0])] = (slices_IndexFunc_Term k a0 a1).map slices_IndexFunc_Term_fin := by
  cases k with
  | zero => rfl
  | succ k =>
    unfold slices_IndexFunc_Term
    refine et (evF_succ (c := f65c) (N := 19) (regs := f65n) rfl func65 rfl (by decide) rfl rfl rfl) <| kra [] rfl <| et k_assoc <| krp f65a1 rfl ⟨[(0, (sTerm a0)), (1, (V.fn a1_fid [] [V.pro a1_c0])), (7, (I (a0.length : Int))), (8, (I 0))], [], 19⟩ ?_ ?_
    · exact rd 1 [(6, (sTerm a0))] rfl rfl <| rl rfl (p_len (e := eTerm) rfl rfl rfl rfl rfl rfl underlying46) <| bind_end rfl
    refine et (k_block rfl) <| et k_loop ?_
    refine slices_IndexFunc_Term_L1_ok k a0 a1 a1_fid a1_c0 a1_hok _ _ ?h_slices_IndexFunc_Term_L1_0 ?hr_slices_IndexFunc_Term_L1 k 0
    · intro y8
      refine et blk_exit <| kr ⟨[(4, (I (-1)))], [], 19⟩ rfl <| et k_lret ?_
      rfl
    · intro s; exact rfl
def slices_ContainsFunc_Term_fin : Bool → V × List V := fun r => ((Bo r), [])
theorem slices_ContainsFunc_Term_ok (k : Nat) (a0 : (List T_api_Term)) (a1 : Nat → T_api_Term → Option Bool) (a1_fid : Go.FuncId) (a1_c0 : V) (a1_hok : ∀ j x0, EV j a1_fid [(eTerm x0), V.pro a1_c0] = (a1 j x0).map fun b => ((Bo b), [])) : EV k 45 [(sTerm a0), (V.fn a1_fid [] [V.pro a1_c0])] = (slices_ContainsFunc_Term k a0 a1).map slices_ContainsFunc_Term_fin := by
  cases k with
  | zero => rfl
  | succ k =>
    unfold slices_ContainsFunc_Term
    refine et (evF_succ (c := f45c) (N := 9) (regs := f45n) rfl func45 rfl (by decide) rfl rfl rfl) <| kra [] rfl <| kg f45a1 rfl (fun (o2 : Bool) => ⟨[(4, (Bo o2))], [], 9⟩) (rd 2 [(5, (sTerm a0)), (6, (V.fn a1_fid [] [V.pro a1_c0]))] rfl rfl <| rp rfl (p_call rfl rfl rfl rfl rfl (slices_IndexFunc_Term_ok k a0 a1 a1_fid a1_c0 a1_hok) (.inl rfl)) fun v1 => bind_end rfl) fun o2 => et k_lret ?_
    rfl
def match_field_1_fin : Bool → V × List V := fun r => ((Bo r), [])
theorem match_field_1_ok (k : Nat) (a0 : T_api_Field) (a1 : Str) : EV k 63 [(eField a0), (Pr (Sr a1))] = (match_field_1 k a0 a1).map match_field_1_fin := by
  cases k with
  | zero => rfl
  | succ k =>
    unfold match_field_1
    refine et (evF_succ (c := f63c) (N := 8) (regs := f63n) rfl func63 rfl (by decide) rfl rfl rfl) <| kr ⟨[(1, (Pr (Sr a1))), (2, (Pt 2))], [(2, vS 3 (eField a0))], 8⟩ rfl <| kr ⟨[(3, (Bo (a0.fName == a1)))], [], 8⟩ rfl <| et k_lret ?_
    rfl
def match_field_fin : (Int × Bool) → V × List V := fun r => (.tup [(I r.1), (Bo r.2)], [])
theorem match_field_ok (k : Nat) (a0 : T_api_Type) (a1 : Str) : EV k 42 [(eType a0), (Sr a1)] = (match_field k a0 a1).map match_field_fin := by
  cases k with
  | zero => rfl
  | succ k =>
    unfold match_field
    refine et (evF_succ (c := f42c) (N := 14) (regs := f42n) rfl func42 rfl (by decide) rfl rfl rfl) <| kr ⟨[(2, (Pt 2)), (3, (Pt 3))], [(2, vS 8 (eType a0)), (3, vS 1 (Sr a1))], 14⟩ rfl <| kg f42a1 rfl (fun (o2 : Int) => ⟨[(6, (I o2))], [], 14⟩) (rd 3 [(7, (V.ptr 2 0 4)), (8, (sField a0.fFields)), (9, (V.fn 63 [] [(Pt 3)]))] rfl rfl <| rs rfl (p_call rfl rfl rfl rfl rfl (slices_IndexFunc_Field_ok k a0.fFields (fun j x0 => (match_field_1 j x0 a1)) 63 (Sr a1) (fun j x0 => (match_field_1_ok j x0 a1))) (.inr (fun _ => rfl))) fun v1 => bind_end rfl) fun o2 => kr ⟨[(4, (I o2)), (5, (Bo (decide (o2 ≥ 0))))], [], 14⟩ rfl <| et k_lret ?_
    rfl
def match_isTerm_fin : Bool → V × List V := fun r => ((Bo r), [])
theorem match_isTerm_ok (k : Nat) (a0 : T_api_Type) (a1 : T_api_Term) : EV k 47 [(eType a0), (eTerm a1)] = (match_isTerm k a0 a1).map match_isTerm_fin := by
  cases k with
  | zero => rfl
  | succ k =>
    unfold match_isTerm
    refine et (evF_succ (c := f47c) (N := 37) (regs := f47n) rfl func47 rfl (by decide) rfl rfl rfl) <| kr ⟨[(2, (Pt 2)), (3, (Pt 3))], [(2, vS 8 (eType a0)), (3, vS 3 (eTerm a1))], 37⟩ rfl <| kga f47a1 rfl (fun (o2 : Int × Bool) => [(5, (I o2.1)), (6, (Bo o2.2))]) (rd 3 [(8, (eType a0)), (9, (Pt 3)), (10, (Sr a1.fField))] rfl rfl <| rp rfl (p_call rfl rfl rfl rfl rfl (match_field_ok k a0 a1.fField) (.inl rfl)) fun v1 => bind_end rfl) fun o2 => kd f47a2 rfl (fun (o4 : Bool) => ⟨[(4, (Bo o4))], [], 37⟩) ?_ fun o4 => ?_
    · refine et (regionE_regp (p := 24) (dk := true) (t := [(2, (Pt 2)), (3, (Pt 3)), (5, (I o2.1)), (6, (Bo o2.2))]) (σ := [(2, vS 8 (eType a0)), (3, vS 3 (eTerm a1))]) (n := 37) rfl (by decide) (by decide) rfl) <| et (regp_adv (m := 2) (j := 2) (t' := [(2, (Pt 2)), (3, (Pt 3)), (5, (I o2.1)), (6, (Bo o2.2)), (14, (Bo o2.2)), (15, (Bo o2.2))]) rfl rfl rfl) <| bifE (fun hc => ?_) fun hc => ?_
      · rw [hc]
        refine et (regp_adv (m := 5) (j := 7) (t' := [(2, (Pt 2)), (3, (Pt 3)), (5, (I o2.1)), (6, (Bo true)), (14, (Bo true)), (15, (Bo true)), (16, (V.ptr 3 0 1)), (17, (I a1.fOp)), (18, (Bo (decide (a1.fOp ≥ 1)))), (19, (Bo (decide (a1.fOp ≥ 1)))), (20, (Bo (decide (a1.fOp ≥ 1))))]) rfl rfl rfl) <| bifE (fun hc => ?_) fun hc => ?_
        · rw [hc]
          refine et (regp_adv (m := 5) (j := 12) (t' := [(2, (Pt 2)), (3, (Pt 3)), (5, (I o2.1)), (6, (Bo true)), (14, (Bo true)), (15, (Bo true)), (16, (V.ptr 3 0 1)), (17, (I a1.fOp)), (18, (Bo true)), (19, (Bo true)), (20, (Bo true)), (21, (V.ptr 3 0 1)), (22, (I a1.fOp)), (23, (Bo (decide (a1.fOp ≤ 6)))), (24, (Bo (decide (a1.fOp ≤ 6)))), (25, (Bo (decide (a1.fOp ≤ 6))))]) rfl rfl rfl) <| bifE (fun hc => ?_) fun hc => ?_
          · rw [hc]
            exact et (regp_adv (m := 6) (j := 18) (t' := [(2, (Pt 2)), (3, (Pt 3)), (5, (I o2.1)), (6, (Bo true)), (14, (Bo true)), (15, (Bo true)), (16, (V.ptr 3 0 1)), (17, (I a1.fOp)), (18, (Bo true)), (19, (Bo true)), (20, (Bo true)), (21, (V.ptr 3 0 1)), (22, (I a1.fOp)), (23, (Bo true)), (24, (Bo true)), (25, (Bo true)), (26, (V.ptr 3 0 2)), (27, (Sr a1.fValue)), (28, (I (a1.fValue.length : Int))), (29, (V.ptr 2 0 4)), (30, (sField a0.fFields)), (31, (I o2.1))]) rfl rfl rfl) <| et (regp_pure (x := (idx a0.fFields o2.1)) (w := fun v3 => (Pr (eField v3))) rfl rfl rfl rfl rfl (p_index (e := eField) rfl rfl rfl underlying39 rfl (by decide))) <| bindE fun v3 => regp_end rfl
          · rw [hc]
            exact regp_end rfl
        · rw [hc]
          exact regp_end rfl
      · rw [hc]
        exact regp_end rfl
    refine et k_lret ?_
    rfl
def match_valid_1_1_fin : Bool → V × List V := fun r => ((Bo r), [])
theorem match_valid_1_1_ok (k : Nat) (a0 : T_api_Term) (a1 : T_api_Type) : EV k 46 [(eTerm a0), (Pr (eType a1))] = (match_valid_1_1 k a0 a1).map match_valid_1_1_fin := by
  cases k with
  | zero => rfl
  | succ k =>
    unfold match_valid_1_1
    refine et (evF_succ (c := f46c) (N := 8) (regs := f46n) rfl func46 rfl (by decide) rfl rfl rfl) <| kr ⟨[(1, (Pr (eType a1))), (2, (Pt 2))], [(2, vS 3 (eTerm a0))], 8⟩ rfl <| kg f46a1 rfl (fun (o2 : Bool) => ⟨[(3, (Bo o2))], [], 8⟩) (rd 2 [(4, (eType a1)), (5, (eTerm a0))] rfl rfl <| rp rfl (p_call rfl rfl rfl rfl rfl (match_isTerm_ok k a1 a0) (.inl rfl)) fun v1 => bind_end rfl) fun o2 => et k_lret ?_
    rfl
def match_valid_1_fin : Bool → V × List V := fun r => ((Bo r), [])
theorem match_valid_1_ok (k : Nat) (a0 : (List T_api_Term)) (a1 : T_api_Type) : EV k 44 [(sTerm a0), (Pr (eType a1))] = (match_valid_1 k a0 a1).map match_valid_1_fin := by
  cases k with
  | zero => rfl
  | succ k =>
    unfold match_valid_1
    refine et (evF_succ (c := f44c) (N := 17) (regs := f44n) rfl func44 rfl (by decide) rfl rfl rfl) <| kra [] rfl <| kg f44a1 rfl (fun (o2 : Bool) => ⟨[(3, (Bo o2))], [], 17⟩) ?_ fun o2 => ?_
    · refine rd 1 [(4, (sTerm a0))] rfl rfl <| rl rfl (p_len (e := eTerm) rfl rfl rfl rfl rfl rfl underlying46) <| bd 4 [(5, (I (a0.length : Int))), (6, (Bo (decide ((a0.length : Int) < 1)))), (7, (Bo (decide ((a0.length : Int) < 1))))] rfl rfl <| bifE (fun hc => ?_) fun hc => ?_
      · rw [hc]
        exact reg_end rfl
      · rw [hc]
        refine rd 5 [(8, (sTerm a0))] rfl rfl <| rl rfl (p_len (e := eTerm) rfl rfl rfl rfl rfl rfl underlying46) <| bd 9 [(9, (I (a0.length : Int))), (10, (Bo (decide ((a0.length : Int) > 4)))), (11, (Bo (decide ((a0.length : Int) > 4)))), (12, (Bo (decide ((a0.length : Int) > 4))))] rfl rfl <| bifE (fun hc => ?_) fun hc => ?_
        · rw [hc]
          exact reg_end rfl
        · rw [hc]
          exact rd 11 [(13, (sTerm a0)), (14, (V.fn 46 [] [(Pr (eType a1))]))] rfl rfl <| rs rfl (p_call rfl rfl rfl rfl rfl (slices_ContainsFunc_Term_ok k a0 (fun j x0 => (match_valid_1_1 j x0 a1)) 46 (eType a1) (fun j x0 => (match_valid_1_1_ok j x0 a1))) (.inl rfl)) fun v1 => bind_end rfl
    refine et k_lret ?_
    rfl
def match_valid_fin : Bool → V × List V := fun r => ((Bo r), [])
theorem match_valid_ok (k : Nat) (a0 : T_api_Type) (a1 : (List (List T_api_Term))) : EV k 23 [(eType a0), (V.sl 0 1 (List.map sTerm a1))] = (match_valid k a0 a1).map match_valid_fin := by
  cases k with
  | zero => rfl
  | succ k =>
    unfold match_valid
    refine et (evF_succ (c := f23c) (N := 14) (regs := f23n) rfl func23 rfl (by decide) rfl rfl rfl) <| kr ⟨[(1, (V.sl 0 1 (List.map sTerm a1))), (2, (Pt 2))], [(2, vS 8 (eType a0))], 14⟩ rfl <| kg f23a1 rfl (fun (o2 : Bool) => ⟨[(4, (Bo o2))], [], 14⟩) ?_ fun o2 => ?_
    · refine rd 1 [(5, (V.sl 0 1 (List.map sTerm a1)))] rfl rfl <| rl rfl (p_len (e := sTerm) rfl rfl rfl rfl rfl rfl underlying26) <| bd 4 [(6, (I (a1.length : Int))), (7, (Bo (decide ((a1.length : Int) ≤ 4)))), (8, (Bo (decide ((a1.length : Int) ≤ 4))))] rfl rfl <| bifE (fun hc => ?_) fun hc => ?_
      · rw [hc]
        exact rd 6 [(9, (V.sl 0 1 (List.map sTerm a1))), (10, (V.fn 44 [] [(Pt 2)]))] rfl rfl <| rp rfl (p_call rfl rfl rfl rfl rfl (slices_ContainsFunc_TermL_ok k a1 (fun j x0 => (match_valid_1 j x0 a0)) 44 (eType a0) (fun j x0 => (match_valid_1_ok j x0 a0))) (.inr (fun _ => rfl))) fun v1 => bind_end rfl
      · rw [hc]
        exact reg_end rfl
    refine et k_lret ?_
    rfl
def match_conditions_1_fin : Bool → V × List V := fun r => ((Bo r), [])
theorem match_conditions_1_ok (k : Nat) (a0 : (List (List T_api_Term))) (a1 : T_api_Type) : EV k 30 [(V.sl 0 1 (List.map sTerm a0)), (Pr (eType a1))] = (match_conditions_1 k a0 a1).map match_conditions_1_fin := by
  cases k with
  | zero => rfl
  | succ k =>
    unfold match_conditions_1
    refine et (evF_succ (c := f30c) (N := 8) (regs := f30n) rfl func30 rfl (by decide) rfl rfl rfl) <| kra [] rfl <| kg f30a1 rfl (fun (o2 : Bool) => ⟨[(3, (Bo o2))], [], 8⟩) (rd 2 [(4, (eType a1)), (5, (V.sl 0 1 (List.map sTerm a0)))] rfl rfl <| rp rfl (p_call rfl rfl rfl rfl rfl (match_valid_ok k a1 a0) (.inl rfl)) fun v1 => bind_end rfl) fun o2 => et k_lret ?_
    rfl
def match_conditions_fin : (T_api_Type × Int) → V × List V := fun r => (.tup [(eType r.1), (I r.2)], [])
theorem match_conditions_ok (k : Nat) (a0 : T_api_Base) (a1 : Int) (a2 : (List (List (List T_api_Term)))) : EV k 15 [(eBase a0), (I a1), (V.sl 0 1 (List.map (fun x => (V.sl 0 1 (List.map sTerm x))) a2))] = (match_conditions k a0 a1 a2).map match_conditions_fin := by
  cases k with
  | zero => rfl
  | succ k =>
    unfold match_conditions
    refine et (evF_succ (c := f15c) (N := 27) (regs := f15n) rfl func15 rfl (by decide) rfl rfl rfl) <| kr ⟨[(1, (I a1)), (2, (V.sl 0 1 (List.map (fun x => (V.sl 0 1 (List.map sTerm x))) a2))), (3, (Pt 3)), (6, (Pt 6))], [(3, vS 4 (eBase a0)), (6, ⟨false, 8, [(V.agg [(Sr []), (I 0), (I 0), (I 0), (V.sl 2 3 (List.map eField ([] : List T_api_Field))), (I 0), (Bo false), (Bo false)])]⟩)], 27⟩ rfl <| et k_assoc <| kga f15a1 rfl (fun (o2 : Int) => [(8, (I o2))]) (rd 2 [(10, (eBase a0)), (11, (I a1))] rfl rfl <| rs rfl (p_call rfl rfl rfl rfl rfl (match_asked_ok k a0 a1) (.inl rfl)) fun v1 => bind_end rfl) fun o2 => et k_assoc <| kra [(14, (Bo (o2 != 0)))] rfl <| kc rfl rfl (fun hc => ?_) fun hc => ?_
    · rw [hc]
      refine et k_assoc <| kr ⟨[(6, (Pt 6)), (7, (I o2))], [(6, ⟨false, 8, [(eType ({ fName := [], fParent := 0, fMin := 0, fSize := 0, fFields := ([] : List T_api_Field), fKey := 0, fUnique := false, fLast := false } : T_api_Type))]⟩)], 27⟩ rfl <| et k_ret ?_
      rfl
    · rw [hc]
      refine et k_skip <| kg f15a4 rfl (fun (o4 : T_api_Type) => ⟨[(2, (V.sl 0 1 (List.map (fun x => (V.sl 0 1 (List.map sTerm x))) a2))), (6, (Pt 6)), (9, (Pt 9))], [(6, ⟨false, 8, [(V.agg [(Sr []), (I 0), (I 0), (I 0), (V.sl 2 3 (List.map eField ([] : List T_api_Field))), (I 0), (Bo false), (Bo false)])]⟩), (9, vS 8 (eType o4))], 27⟩) (rd 3 [(17, (V.ptr 3 0 2)), (18, (sType a0.fTypes)), (19, (I a1))] rfl rfl <| rs rfl (p_index (e := eType) rfl rfl rfl underlying22 rfl (by decide)) fun v3 => bind_end rfl) fun o4 => et k_assoc <| kg f15a5 rfl (fun (o6 : Bool) => ⟨[(6, (Pt 6)), (9, (Pt 9)), (24, (Bo o6))], [(6, ⟨false, 8, [(V.agg [(Sr []), (I 0), (I 0), (I 0), (V.sl 2 3 (List.map eField ([] : List T_api_Field))), (I 0), (Bo false), (Bo false)])]⟩), (9, vS 8 (eType o4))], 27⟩) (rd 2 [(22, (V.sl 0 1 (List.map (fun x => (V.sl 0 1 (List.map sTerm x))) a2))), (23, (V.fn 30 [] [(Pt 9)]))] rfl rfl <| rs rfl (p_call rfl rfl rfl rfl rfl (slices_ContainsFunc_TermLL_ok k a2 (fun j x0 => (match_conditions_1 j x0 o4)) 30 (eType o4) (fun j x0 => (match_conditions_1_ok j x0 o4))) (.inr (fun _ => rfl))) fun v5 => bind_end rfl) fun o6 => kc rfl rfl (fun hc => ?_) fun hc => ?_
      · rw [hc]
        refine et k_assoc <| kr ⟨[(6, (Pt 6)), (7, (I 110))], [(6, ⟨false, 8, [(eType ({ fName := [], fParent := 0, fMin := 0, fSize := 0, fFields := ([] : List T_api_Field), fKey := 0, fUnique := false, fLast := false } : T_api_Type))]⟩)], 27⟩ rfl <| et k_ret ?_
        rfl
      · rw [hc]
        refine et k_skip <| kr ⟨[(6, (Pt 6)), (7, (I 0))], [(6, vS 8 (eType o4))], 27⟩ rfl <| et k_lret ?_
        rfl
def strings_Repeat_fin : Str → V × List V := fun r => ((Sr r), [])
theorem strings_Repeat_ok (k : Nat) (s : Str) (n : Int) : EV k 16 [(Sr s), (I n)] = (strings_Repeat k s n).map strings_Repeat_fin := by
  cases k with
  | zero => rfl
  | succ k => exact (evF_ext (ext := ext) (f := 16) rfl).trans rfl
def match_sign_fin : Str → V × List V := fun r => ((Sr r), [])
theorem match_sign_ok (k : Nat) (a0 : Int) : EV k 17 [(I a0)] = (match_sign k a0).map match_sign_fin := by
  cases k with
  | zero => rfl
  | succ k =>
    unfold match_sign
    refine et (evF_succ (c := f17c) (N := 7) (regs := f17n) rfl func17 rfl (by decide) rfl rfl rfl) <| kra [] rfl <| kg f17a1 rfl (fun (o2 : Str) => ⟨[(2, (Sr o2))], [], 7⟩) (rd 3 [(3, (eStr ({ e0 := ([61, 32] : Str), e1 := ([60, 62] : Str), e2 := ([60, 32] : Str), e3 := ([60, 61] : Str), e4 := ([62, 32] : Str), e5 := ([62, 61] : Str) } : T_arr6_Str))), (4, (I a0)), (5, (I (Go.IntKind.wrap .i64 (a0 - 1))))] rfl rfl <| rs rfl (p_indexArr (l := ([({ e0 := ([61, 32] : Str), e1 := ([60, 62] : Str), e2 := ([60, 32] : Str), e3 := ([60, 61] : Str), e4 := ([62, 32] : Str), e5 := ([62, 61] : Str) } : T_arr6_Str).e0, ({ e0 := ([61, 32] : Str), e1 := ([60, 62] : Str), e2 := ([60, 32] : Str), e3 := ([60, 61] : Str), e4 := ([62, 32] : Str), e5 := ([62, 61] : Str) } : T_arr6_Str).e1, ({ e0 := ([61, 32] : Str), e1 := ([60, 62] : Str), e2 := ([60, 32] : Str), e3 := ([60, 61] : Str), e4 := ([62, 32] : Str), e5 := ([62, 61] : Str) } : T_arr6_Str).e2, ({ e0 := ([61, 32] : Str), e1 := ([60, 62] : Str), e2 := ([60, 32] : Str), e3 := ([60, 61] : Str), e4 := ([62, 32] : Str), e5 := ([62, 61] : Str) } : T_arr6_Str).e3, ({ e0 := ([61, 32] : Str), e1 := ([60, 62] : Str), e2 := ([60, 32] : Str), e3 := ([60, 61] : Str), e4 := ([62, 32] : Str), e5 := ([62, 61] : Str) } : T_arr6_Str).e4, ({ e0 := ([61, 32] : Str), e1 := ([60, 62] : Str), e2 := ([60, 32] : Str), e3 := ([60, 61] : Str), e4 := ([62, 32] : Str), e5 := ([62, 61] : Str) } : T_arr6_Str).e5] : List Str)) (e := V.str) rfl rfl rfl underlying87 rfl rfl rfl rfl) fun v1 => bind_end rfl) fun o2 => et k_lret ?_
    rfl
def strings_Join_fin : Str → V × List V := fun r => (Sr r, [])
theorem strings_Join_ok (k : Nat) (s : List Str) (n : Str) : EV k 18 [(sS s), (Sr n)] = (strings_Join k s n).map strings_Join_fin := by
  cases k with
  | zero => rfl
  | succ k => exact (evF_ext (ext := ext) (f := 18) rfl).trans (extStrJoin_map s n)
def match_Format_fin : (Str × Int) → V × List V := fun r => (.tup [(Sr r.1), (I r.2)], [])
theorem match_Format_L2_ok (k : Nat) (a0 : T_api_Base) (a1 : Int) (a2 : (List (List T_api_Term))) (x30 : (List Str)) (x31 : Int) (o33 : (List T_api_Term))  (K0 : Int → (List Str) → Option (Str × Int)) (Kst : X × St → Option (V × List V)) (hK0 : ∀ (y0 : Int) (y1 : (List Str)), Kst (X.exit 2, ⟨[(10, (V.sl 1 1 (List.map V.str x30))), (13, (aL 13 V.str y1)), (27, (V.sl 0 1 (List.map sTerm a2))), (28, (I (a2.length : Int))), (29, (I x31)), (33, (sTerm o33)), (34, (I (o33.length : Int))), (35, (I y0)), (36, (Bo false))], [(13, ⟨true, 1, List.map V.str y1⟩)], 66⟩) = (K0 y0 y1).map match_Format_fin) (hret : ∀ s, Kst (X.ret, s) = endK prog 66 [(eBase a0), (I a1), (V.sl 0 1 (List.map sTerm a2))] [] [.tmp 6, .tmp 7] (X.ret, s)) :
    ∀ (m : Nat) (x43 : Int) (x44 : (List Str)), (iter (exec prog (EV k) f7n k f7b0) m ⟨[(10, (V.sl 1 1 (List.map V.str x30))), (13, (aL 13 V.str x44)), (27, (V.sl 0 1 (List.map sTerm a2))), (28, (I (a2.length : Int))), (29, (I x31)), (33, (sTerm o33)), (34, (I (o33.length : Int))), (35, (I x43))], [(13, ⟨true, 1, List.map V.str x44⟩)], 66⟩).bind Kst = (match_Format_L2 k o33 K0 m x43 x44).map match_Format_fin := by
  intro m
  induction m with
  | zero => intros; rfl
  | succ m ih =>
    intro x43 x44
    unfold match_Format_L2
    refine et k_round <| kra [(36, (Bo (decide (x43 < (o33.length : Int)))))] rfl <| kc rfl rfl (fun hc => ?_) fun hc => ?_
    · rw [hc]
      exact et k_skip <| et (k_block rfl) <| kg f7a11 rfl (fun (o46 : T_api_Term) => ⟨[(10, (V.sl 1 1 (List.map V.str x30))), (13, (aL 13 V.str x44)), (15, (Pt 15)), (27, (V.sl 0 1 (List.map sTerm a2))), (28, (I (a2.length : Int))), (29, (I x31)), (33, (sTerm o33)), (34, (I (o33.length : Int))), (35, (I x43))], [(13, ⟨true, 1, List.map V.str x44⟩), (15, vS 3 (eTerm o46))], 66⟩) (rs rfl (p_index (e := eTerm) rfl rfl rfl underlying46 rfl (by decide)) fun v45 => bind_end rfl) fun o46 => kdl f7a12 rfl (fun (o53 : (List Str)) => ⟨[(10, (V.sl 1 1 (List.map V.str x30))), (13, (aL 13 V.str o53)), (27, (V.sl 0 1 (List.map sTerm a2))), (28, (I (a2.length : Int))), (29, (I x31)), (33, (sTerm o33)), (34, (I (o33.length : Int))), (35, (I x43))], [(13, ⟨true, 1, List.map V.str o53⟩)], 66⟩) (et (regionE_regp (p := 17) (dk := true) (t := [(10, (V.sl 1 1 (List.map V.str x30))), (13, (aL 13 V.str x44)), (15, (Pt 15)), (27, (V.sl 0 1 (List.map sTerm a2))), (28, (I (a2.length : Int))), (29, (I x31)), (33, (sTerm o33)), (34, (I (o33.length : Int))), (35, (I x43))]) (σ := [(13, ⟨true, 1, List.map V.str x44⟩), (15, vS 3 (eTerm o46))]) (n := 66) rfl (by decide) (by decide) rfl) <| et (regp_adv (m := 7) (j := 7) (t' := [(10, (V.sl 1 1 (List.map V.str x30))), (13, (aL 13 V.str x44)), (15, (Pt 15)), (27, (V.sl 0 1 (List.map sTerm a2))), (28, (I (a2.length : Int))), (29, (I x31)), (33, (sTerm o33)), (34, (I (o33.length : Int))), (35, (I x43)), (39, (aL 13 V.str x44)), (40, (Pt 15)), (41, (Sr o46.fField)), (42, (Pt 15)), (43, (Sr o46.fField)), (44, (I (o46.fField.length : Int))), (45, (I (Go.IntKind.wrap .i64 (8 - (o46.fField.length : Int)))))]) rfl rfl rfl) <| et (regp_pure (x := (strings_Repeat k ([32] : Str) (Go.IntKind.wrap .i64 (8 - (o46.fField.length : Int))))) (w := fun v47 => (Sr v47)) rfl rfl rfl rfl rfl (p_call rfl rfl rfl rfl rfl (strings_Repeat_ok k ([32] : Str) (Go.IntKind.wrap .i64 (8 - (o46.fField.length : Int)))) (.inl rfl))) <| bindE fun v47 => et (putp_adv (m := 0) (j := 8) (t' := [(10, (V.sl 1 1 (List.map V.str x30))), (13, (aL 13 V.str x44)), (15, (Pt 15)), (27, (V.sl 0 1 (List.map sTerm a2))), (28, (I (a2.length : Int))), (29, (I x31)), (33, (sTerm o33)), (34, (I (o33.length : Int))), (35, (I x43)), (39, (aL 13 V.str x44)), (40, (Pt 15)), (41, (Sr o46.fField)), (42, (Pt 15)), (43, (Sr o46.fField)), (44, (I (o46.fField.length : Int))), (45, (I (Go.IntKind.wrap .i64 (8 - (o46.fField.length : Int))))), (46, (Sr v47))]) rfl rfl rfl) <| et (regp_pure (x := (cat o46.fField v47)) (w := fun v48 => (Sr v48)) rfl rfl rfl rfl rfl (p_cat rfl rfl rfl)) <| bindE fun v48 => et (putp_adv (m := 2) (j := 11) (t' := [(10, (V.sl 1 1 (List.map V.str x30))), (13, (aL 13 V.str x44)), (15, (Pt 15)), (27, (V.sl 0 1 (List.map sTerm a2))), (28, (I (a2.length : Int))), (29, (I x31)), (33, (sTerm o33)), (34, (I (o33.length : Int))), (35, (I x43)), (39, (aL 13 V.str x44)), (40, (Pt 15)), (41, (Sr o46.fField)), (42, (Pt 15)), (43, (Sr o46.fField)), (44, (I (o46.fField.length : Int))), (45, (I (Go.IntKind.wrap .i64 (8 - (o46.fField.length : Int))))), (46, (Sr v47)), (47, (Sr v48)), (48, (V.ptr 15 0 1)), (49, (I o46.fOp))]) rfl rfl rfl) <| et (regp_pure (x := (match_sign k o46.fOp)) (w := fun v49 => (Sr v49)) rfl rfl rfl rfl rfl (p_call rfl rfl rfl rfl rfl (match_sign_ok k o46.fOp) (.inl rfl))) <| bindE fun v49 => et (putp_adv (m := 0) (j := 12) (t' := [(10, (V.sl 1 1 (List.map V.str x30))), (13, (aL 13 V.str x44)), (15, (Pt 15)), (27, (V.sl 0 1 (List.map sTerm a2))), (28, (I (a2.length : Int))), (29, (I x31)), (33, (sTerm o33)), (34, (I (o33.length : Int))), (35, (I x43)), (39, (aL 13 V.str x44)), (40, (Pt 15)), (41, (Sr o46.fField)), (42, (Pt 15)), (43, (Sr o46.fField)), (44, (I (o46.fField.length : Int))), (45, (I (Go.IntKind.wrap .i64 (8 - (o46.fField.length : Int))))), (46, (Sr v47)), (47, (Sr v48)), (48, (V.ptr 15 0 1)), (49, (I o46.fOp)), (50, (Sr v49))]) rfl rfl rfl) <| et (regp_pure (x := (cat v48 v49)) (w := fun v50 => (Sr v50)) rfl rfl rfl rfl rfl (p_cat rfl rfl rfl)) <| bindE fun v50 => et (putp_adv (m := 2) (j := 15) (t' := [(10, (V.sl 1 1 (List.map V.str x30))), (13, (aL 13 V.str x44)), (15, (Pt 15)), (27, (V.sl 0 1 (List.map sTerm a2))), (28, (I (a2.length : Int))), (29, (I x31)), (33, (sTerm o33)), (34, (I (o33.length : Int))), (35, (I x43)), (39, (aL 13 V.str x44)), (40, (Pt 15)), (41, (Sr o46.fField)), (42, (Pt 15)), (43, (Sr o46.fField)), (44, (I (o46.fField.length : Int))), (45, (I (Go.IntKind.wrap .i64 (8 - (o46.fField.length : Int))))), (46, (Sr v47)), (47, (Sr v48)), (48, (V.ptr 15 0 1)), (49, (I o46.fOp)), (50, (Sr v49)), (51, (Sr v50)), (52, (V.ptr 15 0 2)), (53, (Sr o46.fValue))]) rfl rfl rfl) <| et (regp_pure (x := (cat v50 o46.fValue)) (w := fun v51 => (Sr v51)) rfl rfl rfl rfl rfl (p_cat rfl rfl rfl)) <| bindE fun v51 => et (regp_reg (m := 0) (j := 17) (st' := ⟨[(10, (V.sl 1 1 (List.map V.str x30))), (13, (aL 13 V.str x44)), (15, (Pt 15)), (27, (V.sl 0 1 (List.map sTerm a2))), (28, (I (a2.length : Int))), (29, (I x31)), (33, (sTerm o33)), (34, (I (o33.length : Int))), (35, (I x43)), (39, (aL 13 V.str x44)), (40, (Pt 15)), (41, (Sr o46.fField)), (42, (Pt 15)), (43, (Sr o46.fField)), (44, (I (o46.fField.length : Int))), (45, (I (Go.IntKind.wrap .i64 (8 - (o46.fField.length : Int))))), (46, (Sr v47)), (47, (Sr v48)), (48, (V.ptr 15 0 1)), (49, (I o46.fOp)), (50, (Sr v49)), (51, (Sr v50)), (52, (V.ptr 15 0 2)), (53, (Sr o46.fValue)), (54, (Sr v51)), (55, (sS (([v51] : List Str))))], [(13, ⟨true, 1, List.map V.str x44⟩), (15, vS 3 (eTerm o46))], 66⟩) rfl rfl rfl) <| et (reg_eff (x := (app x44 ([v51] : List Str))) (w := fun v52 => ((aL 13 V.str v52), _)) rfl rfl rfl rfl (p_appF (e := V.str) (l := x44) rfl rfl rfl rfl rfl rfl rfl rfl rfl rfl rfl (of_decide_eq_true rfl))) <| bind_self fun v52 => bind_end rfl) fun o53 => et blk_normal <| kl ⟨[(10, (V.sl 1 1 (List.map V.str x30))), (13, (aL 13 V.str o53)), (27, (V.sl 0 1 (List.map sTerm a2))), (28, (I (a2.length : Int))), (29, (I x31)), (33, (sTerm o33)), (34, (I (o33.length : Int))), (35, (I (Go.IntKind.wrap .i64 (x43 + 1))))], [(13, ⟨true, 1, List.map V.str o53⟩)], 66⟩ rfl <| et loop_normal <| ih (Go.IntKind.wrap .i64 (x43 + 1)) o53
    · rw [hc]
      exact et k_exit <| et loop_exit <| hK0 x43 x44
theorem match_Format_L1_ok (k : Nat) (a0 : T_api_Base) (a1 : Int) (a2 : (List (List T_api_Term)))  (K0 : (List Str) → Int → Option (Str × Int)) (Kst : X × St → Option (V × List V)) (hK0 : ∀ (y0 : (List Str)) (y1 : Int), Kst (X.exit 0, ⟨[(10, (V.sl 1 1 (List.map V.str y0))), (27, (V.sl 0 1 (List.map sTerm a2))), (28, (I (a2.length : Int))), (29, (I y1)), (30, (Bo false))], [], 66⟩) = (K0 y0 y1).map match_Format_fin) (hret : ∀ s, Kst (X.ret, s) = endK prog 66 [(eBase a0), (I a1), (V.sl 0 1 (List.map sTerm a2))] [] [.tmp 6, .tmp 7] (X.ret, s)) :
    ∀ (m : Nat) (x30 : (List Str)) (x31 : Int), (iter (exec prog (EV k) f7n k f7b1) m ⟨[(10, (V.sl 1 1 (List.map V.str x30))), (27, (V.sl 0 1 (List.map sTerm a2))), (28, (I (a2.length : Int))), (29, (I x31))], [], 66⟩).bind Kst = (match_Format_L1 k a2 K0 m x30 x31).map match_Format_fin := by
  intro m
  induction m with
  | zero => intros; rfl
  | succ m ih =>
    intro x30 x31
    unfold match_Format_L1
    refine et k_round <| kra [(30, (Bo (decide (x31 < (a2.length : Int)))))] rfl <| kc rfl rfl (fun hc => ?_) fun hc => ?_
    · rw [hc]
      refine et k_skip <| et (k_block rfl) <| kg f7a7 rfl (fun (o33 : (List T_api_Term)) => ⟨[(10, (V.sl 1 1 (List.map V.str x30))), (12, (sTerm o33)), (27, (V.sl 0 1 (List.map sTerm a2))), (28, (I (a2.length : Int))), (29, (I x31))], [], 66⟩) (rs rfl (p_index (e := sTerm) rfl rfl rfl underlying26 rfl (by decide)) fun v32 => bind_end rfl) fun o33 => kr ⟨[(10, (V.sl 1 1 (List.map V.str x30))), (12, (sTerm o33)), (13, (aL 13 V.str ([] : List Str))), (27, (V.sl 0 1 (List.map sTerm a2))), (28, (I (a2.length : Int))), (29, (I x31))], [(13, ⟨true, 1, List.map V.str ([] : List Str)⟩)], 66⟩ rfl <| et k_assoc <| krp f7a9 rfl ⟨[(10, (V.sl 1 1 (List.map V.str x30))), (13, (aL 13 V.str ([] : List Str))), (27, (V.sl 0 1 (List.map sTerm a2))), (28, (I (a2.length : Int))), (29, (I x31)), (33, (sTerm o33)), (34, (I (o33.length : Int))), (35, (I 0))], [(13, ⟨true, 1, List.map V.str ([] : List Str)⟩)], 66⟩ ?_ ?_
      · exact rd 1 [(33, (sTerm o33))] rfl rfl <| rl rfl (p_len (e := eTerm) rfl rfl rfl rfl rfl rfl underlying46) <| bind_end rfl
      refine et (k_block rfl) <| et k_loop ?_
      refine match_Format_L2_ok k a0 a1 a2 x30 x31 o33 _ _ ?h_match_Format_L2_0 ?hr_match_Format_L2 k 0 ([] : List Str)
      · intro y54 y55
        exact et blk_exit <| kgl f7a14 rfl (fun (o58 : (List Str)) => ⟨[(10, (V.sl 1 1 (List.map V.str o58))), (27, (V.sl 0 1 (List.map sTerm a2))), (28, (I (a2.length : Int))), (29, (I x31))], [], 66⟩) (ra 2 2 ⟨[(10, (sS x30)), (13, (aL 13 V.str y55)), (27, (V.sl 0 1 (List.map sTerm a2))), (28, (I (a2.length : Int))), (29, (I x31)), (33, (sTerm o33)), (34, (I (o33.length : Int))), (35, (I y54)), (36, (Bo false)), (58, (V.sl 1 1 (List.map V.str x30))), (59, (aL 13 V.str y55))], [(13, ⟨true, 1, List.map V.str y55⟩)], 66⟩ rfl rfl rfl <| rp rfl (p_call rfl rfl rfl rfl (argsL (lendA (e := V.str) rfl) (by intro s i q h; cases h) (argsL rfl (by intro s i q h; cases h) rfl)) (strings_Join_ok k y55 ([38] : Str)) (.inr (fun _ => rfl))) fun v56 => bd 4 [(60, (Sr v56)), (61, (sS (([v56] : List Str))))] rfl rfl <| et (reg_eff (x := (app x30 ([v56] : List Str))) (w := fun v57 => ((V.sl 1 1 (List.map V.str v57)), _)) rfl rfl rfl rfl (p_app (e := V.str) rfl rfl rfl rfl rfl rfl rfl rfl rfl rfl (by decide))) <| bind_self fun v57 => bind_end rfl) fun o58 => et blk_normal <| kl ⟨[(10, (V.sl 1 1 (List.map V.str o58))), (27, (V.sl 0 1 (List.map sTerm a2))), (28, (I (a2.length : Int))), (29, (I (Go.IntKind.wrap .i64 (x31 + 1))))], [], 66⟩ rfl <| et loop_normal <| ih o58 (Go.IntKind.wrap .i64 (x31 + 1))
      · intro s; exact hret s
    · rw [hc]
      exact et k_exit <| et loop_exit <| hK0 x30 x31
theorem match_Format_ok (k : Nat) (a0 : T_api_Base) (a1 : Int) (a2 : (List (List T_api_Term))) : EV k 7 [(eBase a0), (I a1), (V.sl 0 1 (List.map sTerm a2))] = (match_Format k a0 a1 a2).map match_Format_fin := by
  cases k with
  | zero => rfl
  | succ k =>
    unfold match_Format
    refine et (evF_succ (c := f7c) (N := 66) (regs := f7n) rfl func7 rfl (by decide) rfl rfl rfl) <| kr ⟨[(1, (I a1)), (2, (V.sl 0 1 (List.map sTerm a2))), (3, (Pt 3))], [(3, vS 4 (eBase a0))], 66⟩ rfl <| et k_assoc <| kg f7a1 rfl (fun (o2 : Int) => ⟨[(2, (V.sl 0 1 (List.map sTerm a2))), (9, (I o2))], [], 66⟩) (rd 4 [(17, (eBase a0)), (18, (I a1)), (19, (V.sl 0 1 (List.map sTerm a2))), (20, (V.sl 0 1 (List.map (fun x => (V.sl 0 1 (List.map sTerm x))) ([a2] : List (List (List T_api_Term))))))] rfl rfl <| rp rfl (p_call rfl rfl rfl rfl rfl (match_conditions_ok k a0 a1 ([a2] : List (List (List T_api_Term)))) (.inl rfl)) fun v1 => bind_end rfl) fun o2 => et k_assoc <| kra [(25, (Bo (o2 != 0)))] rfl <| kc rfl rfl (fun hc => ?_) fun hc => ?_
    · rw [hc]
      refine et k_assoc <| kr ⟨[(6, (Sr ([] : Str))), (7, (I o2))], [], 66⟩ rfl <| et k_ret ?_
      rfl
    · rw [hc]
      refine et k_skip <| kr ⟨[(2, (V.sl 0 1 (List.map sTerm a2))), (10, (V.sl 1 1 (List.map V.str ([] : List Str))))], [], 66⟩ rfl <| et k_assoc <| krp f7a5 rfl ⟨[(10, (V.sl 1 1 (List.map V.str ([] : List Str)))), (27, (V.sl 0 1 (List.map sTerm a2))), (28, (I (a2.length : Int))), (29, (I 0))], [], 66⟩ ?_ ?_
      · exact rd 1 [(27, (V.sl 0 1 (List.map sTerm a2)))] rfl rfl <| rl rfl (p_len (e := sTerm) rfl rfl rfl rfl rfl rfl underlying26) <| bind_end rfl
      refine et (k_block rfl) <| et k_loop ?_
      refine match_Format_L1_ok k a0 a1 a2 _ _ ?h_match_Format_L1_0 ?hr_match_Format_L1 k ([] : List Str) 0
      · intro y59 y60
        refine et blk_exit <| kg f7a16 rfl (fun (o62 : Str × Int) => ⟨[(6, (Sr o62.1)), (7, (I o62.2))], [], 66⟩) (rd 1 [(64, (sS y59))] rfl rfl <| rp rfl (p_call rfl rfl rfl rfl rfl (strings_Join_ok k y59 ([124] : Str)) (.inl rfl)) fun v61 => bind_end rfl) fun o62 => et k_lret ?_
        rfl
      · intro s; exact rfl
def match_span_fin : (Str × Str) → V × List V := fun r => (.tup [(Sr r.1), (Sr r.2)], [])
theorem match_span_L1_ok (k : Nat) (a0 : Str) (a1 : Int) (a2 : (List T_api_Term))  (K0 : Str → Str → Int → Option (Str × Str)) (Kst : X × St → Option (V × List V)) (hK0 : ∀ (y0 : Str) (y1 : Str) (y2 : Int), Kst (X.exit 0, ⟨[(0, (Sr a0)), (6, (Sr y0)), (7, (Sr y1)), (12, (sTerm a2)), (13, (I (a2.length : Int))), (14, (I y2)), (15, (Bo false))], [], 59⟩) = (K0 y0 y1 y2).map match_span_fin) (hret : ∀ s, Kst (X.ret, s) = endK prog 59 [(Sr a0), (I a1), (sTerm a2)] [] [.tmp 6, .tmp 7] (X.ret, s)) :
    ∀ (m : Nat) (x8 : Int) (x9 : Str) (x10 : Str), (iter (exec prog (EV k) f28n k f28b0) m ⟨[(0, (Sr a0)), (6, (Sr x9)), (7, (Sr x10)), (12, (sTerm a2)), (13, (I (a2.length : Int))), (14, (I x8))], [], 59⟩).bind Kst = (match_span_L1 a0 a2 K0 m x8 x9 x10).map match_span_fin := by
  intro m
  induction m with
  | zero => intros; rfl
  | succ m ih =>
    intro x8 x9 x10
    unfold match_span_L1
    refine et k_round <| kra [(15, (Bo (decide (x8 < (a2.length : Int)))))] rfl <| kc rfl rfl (fun hc => ?_) fun hc => ?_
    · rw [hc]
      refine et k_skip <| et (k_block rfl) <| kg f28a4 rfl (fun (o12 : T_api_Term) => ⟨[(0, (Sr a0)), (6, (Sr x9)), (7, (Sr x10)), (9, (Pt 9)), (12, (sTerm a2)), (13, (I (a2.length : Int))), (14, (I x8))], [(9, vS 3 (eTerm o12))], 59⟩) (rs rfl (p_index (e := eTerm) rfl rfl rfl underlying46 rfl (by decide)) fun v11 => bind_end rfl) fun o12 => et k_assoc <| kra [(21, (Bo (!(o12.fField == a0))))] rfl <| kc rfl rfl (fun hc => ?_) fun hc => ?_
      · rw [hc]
        exact et k_exit <| et blk_exit <| kl ⟨[(0, (Sr a0)), (6, (Sr x9)), (7, (Sr x10)), (12, (sTerm a2)), (13, (I (a2.length : Int))), (14, (I (Go.IntKind.wrap .i64 (x8 + 1))))], [], 59⟩ rfl <| et loop_normal <| ih (Go.IntKind.wrap .i64 (x8 + 1)) x9 x10
      · rw [hc]
        refine et k_skip <| et k_assoc <| kg f28a6 rfl (fun (o13 : Bool) => ⟨[(0, (Sr a0)), (6, (Sr x9)), (7, (Sr x10)), (9, (Pt 9)), (12, (sTerm a2)), (13, (I (a2.length : Int))), (14, (I x8)), (34, (Bo o13))], [(9, vS 3 (eTerm o12))], 59⟩) ?_ fun o13 => ?_
        · refine rd 4 [(22, (V.ptr 9 0 1)), (23, (I o12.fOp)), (24, (Bo (o12.fOp == 1))), (25, (Bo (o12.fOp == 1)))] rfl rfl <| bifE (fun hc => ?_) fun hc => ?_
          · rw [hc]
            exact reg_end rfl
          · rw [hc]
            refine rd 9 [(26, (V.ptr 9 0 1)), (27, (I o12.fOp)), (28, (Bo (o12.fOp == 5))), (29, (Bo (o12.fOp == 5))), (30, (Bo (o12.fOp == 5)))] rfl rfl <| bifE (fun hc => ?_) fun hc => ?_
            · rw [hc]
              exact reg_end rfl
            · rw [hc]
              exact reg_end rfl
        refine kc rfl rfl (fun hc => ?_) fun hc => ?_
        · rw [hc]
          refine kr ⟨[(0, (Sr a0)), (6, (Sr (Go.AE.maxS x9 o12.fValue))), (7, (Sr x10)), (9, (Pt 9)), (12, (sTerm a2)), (13, (I (a2.length : Int))), (14, (I x8))], [(9, vS 3 (eTerm o12))], 59⟩ rfl <| kga f28a8 rfl (fun (o14 : Bool) => [(51, (Bo o14))]) ?_ fun o14 => ?_
          · refine rd 4 [(39, (V.ptr 9 0 1)), (40, (I o12.fOp)), (41, (Bo (o12.fOp == 1))), (42, (Bo (o12.fOp == 1)))] rfl rfl <| bifE (fun hc => ?_) fun hc => ?_
            · rw [hc]
              exact reg_end rfl
            · rw [hc]
              refine rd 9 [(43, (V.ptr 9 0 1)), (44, (I o12.fOp)), (45, (Bo (o12.fOp == 3))), (46, (Bo (o12.fOp == 3))), (47, (Bo (o12.fOp == 3)))] rfl rfl <| bifE (fun hc => ?_) fun hc => ?_
              · rw [hc]
                exact reg_end rfl
              · rw [hc]
                exact reg_end rfl
          refine kcl rfl rfl (fun hc => ?_) fun hc => ?_
          · rw [hc]
            exact kl ⟨[(0, (Sr a0)), (6, (Sr (Go.AE.maxS x9 o12.fValue))), (7, (Sr (Go.AE.minS x10 o12.fValue))), (12, (sTerm a2)), (13, (I (a2.length : Int))), (14, (I x8))], [], 59⟩ rfl <| et blk_normal <| kl ⟨[(0, (Sr a0)), (6, (Sr (Go.AE.maxS x9 o12.fValue))), (7, (Sr (Go.AE.minS x10 o12.fValue))), (12, (sTerm a2)), (13, (I (a2.length : Int))), (14, (I (Go.IntKind.wrap .i64 (x8 + 1))))], [], 59⟩ rfl <| et loop_normal <| ih (Go.IntKind.wrap .i64 (x8 + 1)) (Go.AE.maxS x9 o12.fValue) (Go.AE.minS x10 o12.fValue)
          · rw [hc]
            exact et k_lskip <| et blk_normal <| kl ⟨[(0, (Sr a0)), (6, (Sr (Go.AE.maxS x9 o12.fValue))), (7, (Sr x10)), (12, (sTerm a2)), (13, (I (a2.length : Int))), (14, (I (Go.IntKind.wrap .i64 (x8 + 1))))], [], 59⟩ rfl <| et loop_normal <| ih (Go.IntKind.wrap .i64 (x8 + 1)) (Go.AE.maxS x9 o12.fValue) x10
        · rw [hc]
          refine et k_skip <| kg f28a8 rfl (fun (o15 : Bool) => ⟨[(0, (Sr a0)), (6, (Sr x9)), (7, (Sr x10)), (9, (Pt 9)), (12, (sTerm a2)), (13, (I (a2.length : Int))), (14, (I x8)), (51, (Bo o15))], [(9, vS 3 (eTerm o12))], 59⟩) ?_ fun o15 => ?_
          · refine rd 4 [(39, (V.ptr 9 0 1)), (40, (I o12.fOp)), (41, (Bo (o12.fOp == 1))), (42, (Bo (o12.fOp == 1)))] rfl rfl <| bifE (fun hc => ?_) fun hc => ?_
            · rw [hc]
              exact reg_end rfl
            · rw [hc]
              refine rd 9 [(43, (V.ptr 9 0 1)), (44, (I o12.fOp)), (45, (Bo (o12.fOp == 3))), (46, (Bo (o12.fOp == 3))), (47, (Bo (o12.fOp == 3)))] rfl rfl <| bifE (fun hc => ?_) fun hc => ?_
              · rw [hc]
                exact reg_end rfl
              · rw [hc]
                exact reg_end rfl
          refine kcl rfl rfl (fun hc => ?_) fun hc => ?_
          · rw [hc]
            exact kl ⟨[(0, (Sr a0)), (6, (Sr x9)), (7, (Sr (Go.AE.minS x10 o12.fValue))), (12, (sTerm a2)), (13, (I (a2.length : Int))), (14, (I x8))], [], 59⟩ rfl <| et blk_normal <| kl ⟨[(0, (Sr a0)), (6, (Sr x9)), (7, (Sr (Go.AE.minS x10 o12.fValue))), (12, (sTerm a2)), (13, (I (a2.length : Int))), (14, (I (Go.IntKind.wrap .i64 (x8 + 1))))], [], 59⟩ rfl <| et loop_normal <| ih (Go.IntKind.wrap .i64 (x8 + 1)) x9 (Go.AE.minS x10 o12.fValue)
          · rw [hc]
            exact et k_lskip <| et blk_normal <| kl ⟨[(0, (Sr a0)), (6, (Sr x9)), (7, (Sr x10)), (12, (sTerm a2)), (13, (I (a2.length : Int))), (14, (I (Go.IntKind.wrap .i64 (x8 + 1))))], [], 59⟩ rfl <| et loop_normal <| ih (Go.IntKind.wrap .i64 (x8 + 1)) x9 x10
    · rw [hc]
      exact et k_exit <| et loop_exit <| hK0 x9 x10 x8
theorem match_span_ok (k : Nat) (a0 : Str) (a1 : Int) (a2 : (List T_api_Term)) : EV k 28 [(Sr a0), (I a1), (sTerm a2)] = (match_span k a0 a1 a2).map match_span_fin := by
  cases k with
  | zero => rfl
  | succ k =>
    unfold match_span
    refine et (evF_succ (c := f28c) (N := 59) (regs := f28n) rfl func28 rfl (by decide) rfl rfl rfl) <| kra [(6, (Sr ([] : Str)))] rfl <| kg f28a1 rfl (fun (o2 : Str) => ⟨[(0, (Sr a0)), (2, (sTerm a2)), (6, (Sr ([] : Str))), (7, (Sr o2))], [], 59⟩) (rd 1 [(10, (I a1))] rfl rfl <| rs rfl (p_call rfl rfl rfl rfl rfl (strings_Repeat_ok k ([255] : Str) a1) (.inl rfl)) fun v1 => bind_end rfl) fun o2 => et k_assoc <| krp f28a2 rfl ⟨[(0, (Sr a0)), (6, (Sr ([] : Str))), (7, (Sr o2)), (12, (sTerm a2)), (13, (I (a2.length : Int))), (14, (I 0))], [], 59⟩ ?_ ?_
    · exact rd 1 [(12, (sTerm a2))] rfl rfl <| rl rfl (p_len (e := eTerm) rfl rfl rfl rfl rfl rfl underlying46) <| bind_end rfl
    refine et (k_block rfl) <| et k_loop ?_
    refine match_span_L1_ok k a0 a1 a2 _ _ ?h_match_span_L1_0 ?hr_match_span_L1 k 0 ([] : Str) o2
    · intro y16 y17 y18
      refine et blk_exit <| kr ⟨[(6, (Sr y16)), (7, (Sr y17))], [], 59⟩ rfl <| et k_lret ?_
      rfl
    · intro s; exact rfl
def match_Range_fin : (Str × Str × Int) → V × List V := fun r => (.tup [(Sr r.1), (Sr r.2.1), (I r.2.2)], [])
theorem match_Range_L1_ok (k : Nat) (a0 : T_api_Base) (a1 : Int) (a2 : (List (List T_api_Term))) (o4 : T_api_Field)  (K0 : Str → Str → Int → Option (Str × Str × Int)) (Kst : X × St → Option (V × List V)) (hK0 : ∀ (y0 : Str) (y1 : Str) (y2 : Int), Kst (X.exit 1, ⟨[(2, (V.sl 0 1 (List.map sTerm a2))), (6, (Sr y0)), (7, (Sr y1)), (11, (Pt 11)), (38, (V.sl 0 1 (List.map sTerm a2))), (39, (I (a2.length : Int))), (40, (I y2)), (41, (Bo false))], [(11, vS 3 (eField o4))], 78⟩) = (K0 y0 y1 y2).map match_Range_fin) (hret : ∀ s, Kst (X.ret, s) = endK prog 78 [(eBase a0), (I a1), (V.sl 0 1 (List.map sTerm a2))] [] [.tmp 6, .tmp 7, .tmp 8] (X.ret, s)) :
    ∀ (m : Nat) (x9 : Str) (x10 : Str) (x11 : Int), (iter (exec prog (EV k) f14n k f14b0) m ⟨[(2, (V.sl 0 1 (List.map sTerm a2))), (6, (Sr x9)), (7, (Sr x10)), (11, (Pt 11)), (38, (V.sl 0 1 (List.map sTerm a2))), (39, (I (a2.length : Int))), (40, (I x11))], [(11, vS 3 (eField o4))], 78⟩).bind Kst = (match_Range_L1 k a2 o4 K0 m x9 x10 x11).map match_Range_fin := by
  intro m
  induction m with
  | zero => intros; rfl
  | succ m ih =>
    intro x9 x10 x11
    unfold match_Range_L1
    refine et k_round <| kra [(41, (Bo (decide (x11 < (a2.length : Int)))))] rfl <| kc rfl rfl (fun hc => ?_) fun hc => ?_
    · rw [hc]
      refine et k_skip <| et (k_block rfl) <| kg f14a9 rfl (fun (o13 : Int × (List T_api_Term)) => ⟨[(2, (V.sl 0 1 (List.map sTerm a2))), (6, (Sr x9)), (7, (Sr x10)), (11, (Pt 11)), (12, (I o13.1)), (13, (sTerm o13.2)), (38, (V.sl 0 1 (List.map sTerm a2))), (39, (I (a2.length : Int))), (40, (I x11))], [(11, vS 3 (eField o4))], 78⟩) (rd 1 [(42, (I x11))] rfl rfl <| rp rfl (p_index (e := sTerm) rfl rfl rfl underlying26 rfl (by decide)) fun v12 => bind_end rfl) fun o13 => kg f14a10 rfl (fun (o15 : Str × Str) => ⟨[(2, (V.sl 0 1 (List.map sTerm a2))), (6, (Sr x9)), (7, (Sr x10)), (11, (Pt 11)), (12, (I o13.1)), (14, (Sr o15.1)), (15, (Sr o15.2)), (38, (V.sl 0 1 (List.map sTerm a2))), (39, (I (a2.length : Int))), (40, (I x11))], [(11, vS 3 (eField o4))], 78⟩) (rd 5 [(46, (Pt 11)), (47, (Sr o4.fName)), (48, (V.ptr 11 0 2)), (49, (I o4.fBytes)), (50, (sTerm o13.2))] rfl rfl <| rp rfl (p_call rfl rfl rfl rfl rfl (match_span_ok k o4.fName o4.fBytes o13.2) (.inl rfl)) fun v14 => bind_end rfl) fun o15 => et k_assoc <| kr ⟨[(2, (V.sl 0 1 (List.map sTerm a2))), (6, (Sr x9)), (7, (Sr x10)), (11, (Pt 11)), (14, (Sr o15.1)), (15, (Sr o15.2)), (38, (V.sl 0 1 (List.map sTerm a2))), (39, (I (a2.length : Int))), (40, (I x11)), (55, (Bo (o13.1 == 0)))], [(11, vS 3 (eField o4))], 78⟩ rfl <| kc rfl rfl (fun hc => ?_) fun hc => ?_
      · rw [hc]
        exact kr ⟨[(2, (V.sl 0 1 (List.map sTerm a2))), (6, (Sr o15.1)), (7, (Sr o15.2)), (11, (Pt 11)), (14, (Sr o15.1)), (15, (Sr o15.2)), (38, (V.sl 0 1 (List.map sTerm a2))), (39, (I (a2.length : Int))), (40, (I x11))], [(11, vS 3 (eField o4))], 78⟩ rfl <| kl ⟨[(2, (V.sl 0 1 (List.map sTerm a2))), (6, (Sr (Go.AE.minS o15.1 o15.1))), (7, (Sr (Go.AE.maxS o15.2 o15.2))), (11, (Pt 11)), (38, (V.sl 0 1 (List.map sTerm a2))), (39, (I (a2.length : Int))), (40, (I x11))], [(11, vS 3 (eField o4))], 78⟩ rfl <| et blk_normal <| kl ⟨[(2, (V.sl 0 1 (List.map sTerm a2))), (6, (Sr (Go.AE.minS o15.1 o15.1))), (7, (Sr (Go.AE.maxS o15.2 o15.2))), (11, (Pt 11)), (38, (V.sl 0 1 (List.map sTerm a2))), (39, (I (a2.length : Int))), (40, (I (Go.IntKind.wrap .i64 (x11 + 1))))], [(11, vS 3 (eField o4))], 78⟩ rfl <| et loop_normal <| ih (Go.AE.minS o15.1 o15.1) (Go.AE.maxS o15.2 o15.2) (Go.IntKind.wrap .i64 (x11 + 1))
      · rw [hc]
        exact et k_skip <| kl ⟨[(2, (V.sl 0 1 (List.map sTerm a2))), (6, (Sr (Go.AE.minS x9 o15.1))), (7, (Sr (Go.AE.maxS x10 o15.2))), (11, (Pt 11)), (38, (V.sl 0 1 (List.map sTerm a2))), (39, (I (a2.length : Int))), (40, (I x11))], [(11, vS 3 (eField o4))], 78⟩ rfl <| et blk_normal <| kl ⟨[(2, (V.sl 0 1 (List.map sTerm a2))), (6, (Sr (Go.AE.minS x9 o15.1))), (7, (Sr (Go.AE.maxS x10 o15.2))), (11, (Pt 11)), (38, (V.sl 0 1 (List.map sTerm a2))), (39, (I (a2.length : Int))), (40, (I (Go.IntKind.wrap .i64 (x11 + 1))))], [(11, vS 3 (eField o4))], 78⟩ rfl <| et loop_normal <| ih (Go.AE.minS x9 o15.1) (Go.AE.maxS x10 o15.2) (Go.IntKind.wrap .i64 (x11 + 1))
    · rw [hc]
      exact et k_exit <| et loop_exit <| hK0 x9 x10 x11
theorem match_Range_ok (k : Nat) (a0 : T_api_Base) (a1 : Int) (a2 : (List (List T_api_Term))) : EV k 14 [(eBase a0), (I a1), (V.sl 0 1 (List.map sTerm a2))] = (match_Range k a0 a1 a2).map match_Range_fin := by
  cases k with
  | zero => rfl
  | succ k =>
    unfold match_Range
    refine et (evF_succ (c := f14c) (N := 78) (regs := f14n) rfl func14 rfl (by decide) rfl rfl rfl) <| kr ⟨[(1, (I a1)), (2, (V.sl 0 1 (List.map sTerm a2))), (3, (Pt 3)), (6, (Sr ([] : Str))), (7, (Sr ([] : Str)))], [(3, vS 4 (eBase a0))], 78⟩ rfl <| kg f14a1 rfl (fun (o2 : Int × T_api_Type) => ⟨[(2, (V.sl 0 1 (List.map sTerm a2))), (6, (Sr ([] : Str))), (7, (Sr ([] : Str))), (9, (Pt 9)), (10, (I o2.1))], [(9, vS 8 (eType o2.2))], 78⟩) (rd 4 [(17, (eBase a0)), (18, (I a1)), (19, (V.sl 0 1 (List.map sTerm a2))), (20, (V.sl 0 1 (List.map (fun x => (V.sl 0 1 (List.map sTerm x))) ([a2] : List (List (List T_api_Term))))))] rfl rfl <| rp rfl (p_call rfl rfl rfl rfl rfl (match_conditions_ok k a0 a1 ([a2] : List (List (List T_api_Term)))) (.inl rfl)) fun v1 => bind_end rfl) fun o2 => et (k_block rfl) <| kra [(24, (Bo (o2.1 != 0)))] rfl <| kcl rfl rfl (fun hc => ?_) fun hc => ?_
    · rw [hc]
      refine kr ⟨[(6, (Sr ([] : Str))), (7, (Sr ([] : Str))), (8, (I o2.1))], [], 78⟩ rfl <| et k_lret <| et blk_ret ?_
      rfl
    · rw [hc]
      refine kr ⟨[(2, (V.sl 0 1 (List.map sTerm a2))), (6, (Sr ([] : Str))), (7, (Sr ([] : Str))), (9, (Pt 9)), (28, (Bo (decide (o2.2.fKey < 0))))], [(9, vS 8 (eType o2.2))], 78⟩ rfl <| kcl rfl rfl (fun hc => ?_) fun hc => ?_
      · rw [hc]
        refine kr ⟨[(6, (Sr ([] : Str))), (7, (Sr ([] : Str))), (8, (I 5))], [], 78⟩ rfl <| et k_lret <| et blk_ret ?_
        rfl
      · rw [hc]
        refine et k_lskip <| et blk_normal <| kg f14a6 rfl (fun (o4 : T_api_Field) => ⟨[(2, (V.sl 0 1 (List.map sTerm a2))), (6, (Sr ([] : Str))), (7, (Sr ([] : Str))), (11, (Pt 11))], [(11, vS 3 (eField o4))], 78⟩) (rd 4 [(32, (V.ptr 9 0 4)), (33, (sField o2.2.fFields)), (34, (V.ptr 9 0 5)), (35, (I o2.2.fKey))] rfl rfl <| rs rfl (p_index (e := eField) rfl rfl rfl underlying39 rfl (by decide)) fun v3 => bind_end rfl) fun o4 => et k_assoc <| krp f14a7 rfl ⟨[(2, (V.sl 0 1 (List.map sTerm a2))), (6, (Sr ([] : Str))), (7, (Sr ([] : Str))), (11, (Pt 11)), (38, (V.sl 0 1 (List.map sTerm a2))), (39, (I (a2.length : Int))), (40, (I 0))], [(11, vS 3 (eField o4))], 78⟩ ?_ ?_
        · exact rd 1 [(38, (V.sl 0 1 (List.map sTerm a2)))] rfl rfl <| rl rfl (p_len (e := sTerm) rfl rfl rfl rfl rfl rfl underlying26) <| bind_end rfl
        refine et (k_block rfl) <| et k_loop ?_
        refine match_Range_L1_ok k a0 a1 a2 o4 _ _ ?h_match_Range_L1_0 ?hr_match_Range_L1 k ([] : Str) ([] : Str) 0
        · intro y16 y17 y18
          refine et blk_exit <| et k_assoc <| krp f14a15 rfl ⟨[(6, (Sr y16)), (7, (Sr y17)), (11, (Pt 11)), (67, (Bo ((a2.length : Int) == 0)))], [(11, vS 3 (eField o4))], 78⟩ ?_ ?_
          · exact rd 1 [(65, (V.sl 0 1 (List.map sTerm a2)))] rfl rfl <| rl rfl (p_len (e := sTerm) rfl rfl rfl rfl rfl rfl underlying26) <| bind_end rfl
          refine kc rfl rfl (fun hc => ?_) fun hc => ?_
          · rw [hc]
            refine kg f14a16 rfl (fun (o20 : Str × Str) => ⟨[(6, (Sr o20.1)), (7, (Sr o20.2))], [], 78⟩) (rd 4 [(69, (Pt 11)), (70, (Sr o4.fName)), (71, (V.ptr 11 0 2)), (72, (I o4.fBytes))] rfl rfl <| rp rfl (p_call rfl rfl rfl rfl rfl (match_span_ok k o4.fName o4.fBytes ([] : List T_api_Term)) (.inl rfl)) fun v19 => bind_end rfl) fun o20 => kra [(8, (I 0))] rfl <| et k_lret ?_
            rfl
          · rw [hc]
            refine et k_skip <| kr ⟨[(6, (Sr y16)), (7, (Sr y17)), (8, (I 0))], [], 78⟩ rfl <| et k_lret ?_
            rfl
        · intro s; exact rfl
def law12_Awake_fin : Bool → V × List V := fun r => ((Bo r), [])
theorem law12_Awake_ok (k : Nat)  : EV k 6 [] = (law12_Awake k).map law12_Awake_fin := by
  cases k with
  | zero => rfl
  | succ k =>
    unfold law12_Awake
    refine et (evF_succ (c := f6c) (N := 42) (regs := f6n) rfl func6 rfl (by decide) rfl rfl rfl) <| kra [] rfl <| kra [(1, (V.sl 0 1 (List.map sTerm ([([({ fField := ([67, 85, 83, 84, 78, 79] : Str), fOp := 6, fValue := ([48, 49, 48, 48] : Str) } : T_api_Term), ({ fField := ([67, 85, 83, 84, 78, 79] : Str), fOp := 4, fValue := ([48, 49, 57, 57] : Str) } : T_api_Term)] : List T_api_Term)] : List (List T_api_Term)))))] rfl <| kga f6a2 rfl (fun (o3 : Str × Int) => [(2, (Sr o3.1)), (3, (I o3.2))]) (rp rfl (p_call rfl rfl rfl rfl rfl (law12_shop_ok k) (.inl rfl)) fun v1 => bd 2 [(12, (eBase v1)), (13, (V.sl 0 1 (List.map sTerm ([([({ fField := ([67, 85, 83, 84, 78, 79] : Str), fOp := 6, fValue := ([48, 49, 48, 48] : Str) } : T_api_Term), ({ fField := ([67, 85, 83, 84, 78, 79] : Str), fOp := 4, fValue := ([48, 49, 57, 57] : Str) } : T_api_Term)] : List T_api_Term)] : List (List T_api_Term)))))] rfl rfl <| rp rfl (p_call rfl rfl rfl rfl rfl (match_Format_ok k v1 0 ([([({ fField := ([67, 85, 83, 84, 78, 79] : Str), fOp := 6, fValue := ([48, 49, 48, 48] : Str) } : T_api_Term), ({ fField := ([67, 85, 83, 84, 78, 79] : Str), fOp := 4, fValue := ([48, 49, 57, 57] : Str) } : T_api_Term)] : List T_api_Term)] : List (List T_api_Term))) (.inl rfl)) fun v2 => bind_end rfl) fun o3 => kg f6a3 rfl (fun (o6 : Str × Str × Int) => ⟨[(2, (Sr o3.1)), (3, (I o3.2)), (4, (Sr o6.1)), (5, (Sr o6.2.1)), (6, (I o6.2.2))], [], 42⟩) (rp rfl (p_call rfl rfl rfl rfl rfl (law12_shop_ok k) (.inl rfl)) fun v4 => bd 2 [(18, (eBase v4)), (19, (V.sl 0 1 (List.map sTerm ([([({ fField := ([67, 85, 83, 84, 78, 79] : Str), fOp := 6, fValue := ([48, 49, 48, 48] : Str) } : T_api_Term), ({ fField := ([67, 85, 83, 84, 78, 79] : Str), fOp := 4, fValue := ([48, 49, 57, 57] : Str) } : T_api_Term)] : List T_api_Term)] : List (List T_api_Term)))))] rfl rfl <| rp rfl (p_call rfl rfl rfl rfl rfl (match_Range_ok k v4 0 ([([({ fField := ([67, 85, 83, 84, 78, 79] : Str), fOp := 6, fValue := ([48, 49, 48, 48] : Str) } : T_api_Term), ({ fField := ([67, 85, 83, 84, 78, 79] : Str), fOp := 4, fValue := ([48, 49, 57, 57] : Str) } : T_api_Term)] : List T_api_Term)] : List (List T_api_Term))) (.inl rfl)) fun v5 => bind_end rfl) fun o6 => kg f6a4 rfl (fun (o7 : Bool) => ⟨[(0, (Bo o7))], [], 42⟩) ?_ fun o7 => ?_
    · refine rd 3 [(24, (I o3.2)), (25, (Bo (o3.2 == 0))), (26, (Bo (o3.2 == 0)))] rfl rfl <| bifE (fun hc => ?_) fun hc => ?_
      · rw [hc]
        refine rd 7 [(27, (I o6.2.2)), (28, (Bo (o6.2.2 == 0))), (29, (Bo (o6.2.2 == 0))), (30, (Bo (o6.2.2 == 0)))] rfl rfl <| bifE (fun hc => ?_) fun hc => ?_
        · rw [hc]
          refine rd 11 [(31, (Sr o3.1)), (32, (Bo (o3.1 == ([67, 85, 83, 84, 78, 79, 32, 32, 62, 61, 48, 49, 48, 48, 38, 67, 85, 83, 84, 78, 79, 32, 32, 60, 61, 48, 49, 57, 57] : Str)))), (33, (Bo (o3.1 == ([67, 85, 83, 84, 78, 79, 32, 32, 62, 61, 48, 49, 48, 48, 38, 67, 85, 83, 84, 78, 79, 32, 32, 60, 61, 48, 49, 57, 57] : Str)))), (34, (Bo (o3.1 == ([67, 85, 83, 84, 78, 79, 32, 32, 62, 61, 48, 49, 48, 48, 38, 67, 85, 83, 84, 78, 79, 32, 32, 60, 61, 48, 49, 57, 57] : Str))))] rfl rfl <| bifE (fun hc => ?_) fun hc => ?_
          · rw [hc]
            refine rd 15 [(35, (Sr o6.1)), (36, (Bo (o6.1 == ([48, 49, 48, 48] : Str)))), (37, (Bo (o6.1 == ([48, 49, 48, 48] : Str)))), (38, (Bo (o6.1 == ([48, 49, 48, 48] : Str))))] rfl rfl <| bifE (fun hc => ?_) fun hc => ?_
            · rw [hc]
              exact reg_end rfl
            · rw [hc]
              exact reg_end rfl
          · rw [hc]
            exact reg_end rfl
        · rw [hc]
          exact reg_end rfl
      · rw [hc]
        exact reg_end rfl
    refine et k_lret ?_
    rfl
def ref11_IsName_fin : Bool → V × List V := fun r => ((Bo r), [])
theorem ref11_IsName_L1_ok (k : Nat) (a0 : Str)  (K0 : Int → Option Bool) (Kst : X × St → Option (V × List V)) (hK0 : ∀ (y0 : Int), Kst (X.exit 0, ⟨[(0, (Sr a0)), (3, (I y0)), (8, (Bo false))], [], 47⟩) = (K0 y0).map ref11_IsName_fin) (hret : ∀ s, Kst (X.ret, s) = endK prog 47 [(Sr a0)] [] [.tmp 2] (X.ret, s)) :
    ∀ (m : Nat) (x7 : Int), (iter (exec prog (EV k) f66n k f66b0) m ⟨[(0, (Sr a0)), (3, (I x7))], [], 47⟩).bind Kst = (ref11_IsName_L1 a0 K0 m x7).map ref11_IsName_fin := by
  intro m
  induction m with
  | zero => intros; rfl
  | succ m ih =>
    intro x7
    unfold ref11_IsName_L1
    refine et k_round <| et k_assoc <| kra [(8, (Bo (decide (x7 < (a0.length : Int)))))] rfl <| kc rfl rfl (fun hc => ?_) fun hc => ?_
    · rw [hc]
      refine et k_skip <| et (k_block rfl) <| kg f66a4 rfl (fun (o10 : Bool) => ⟨[(0, (Sr a0)), (3, (I x7)), (4, (Bo o10))], [], 47⟩) ?_ fun o10 => ?_
      · refine rd 2 [(11, (Sr a0)), (12, (I x7))] rfl rfl <| rp rfl (p_indexS rfl rfl rfl underlying9) fun v8 => bd 5 [(13, (V.int .u8 v8)), (14, (Bo (decide (v8 ≥ 65)))), (15, (Bo (decide (v8 ≥ 65))))] rfl rfl <| bifE (fun hc => ?_) fun hc => ?_
        · rw [hc]
          exact rd 7 [(16, (Sr a0)), (17, (I x7))] rfl rfl <| rp rfl (p_indexS rfl rfl rfl underlying9) fun v9 => bind_end rfl
        · rw [hc]
          exact reg_end rfl
      refine kg f66a5 rfl (fun (o13 : Bool) => ⟨[(0, (Sr a0)), (3, (I x7)), (38, (Bo o13))], [], 47⟩) ?_ fun o13 => ?_
      · refine rd 3 [(21, (Bo o10)), (22, (Bo (!o10))), (23, (Bo (!o10)))] rfl rfl <| bifE (fun hc => ?_) fun hc => ?_
        · rw [hc]
          refine rd 6 [(24, (I x7)), (25, (Bo (x7 == 0))), (26, (Bo (x7 == 0)))] rfl rfl <| bifE (fun hc => ?_) fun hc => ?_
          · rw [hc]
            exact reg_end rfl
          · rw [hc]
            refine rd 8 [(27, (Sr a0)), (28, (I x7))] rfl rfl <| rp rfl (p_indexS rfl rfl rfl underlying9) fun v11 => bd 12 [(29, (V.int .u8 v11)), (30, (Bo (decide (v11 < 48)))), (31, (Bo (decide (v11 < 48)))), (32, (Bo (decide (v11 < 48))))] rfl rfl <| bifE (fun hc => ?_) fun hc => ?_
            · rw [hc]
              exact reg_end rfl
            · rw [hc]
              exact rd 14 [(33, (Sr a0)), (34, (I x7))] rfl rfl <| rp rfl (p_indexS rfl rfl rfl underlying9) fun v12 => bind_end rfl
        · rw [hc]
          exact reg_end rfl
      refine kcl rfl rfl (fun hc => ?_) fun hc => ?_
      · rw [hc]
        refine kr ⟨[(2, (Bo false))], [], 47⟩ rfl <| et k_lret <| et blk_ret <| et loop_ret <| et (hret _) ?_
        rfl
      · rw [hc]
        exact et k_lskip <| et blk_normal <| kl ⟨[(0, (Sr a0)), (3, (I (Go.IntKind.wrap .i64 (x7 + 1))))], [], 47⟩ rfl <| et loop_normal <| ih (Go.IntKind.wrap .i64 (x7 + 1))
    · rw [hc]
      exact et k_exit <| et loop_exit <| hK0 x7
theorem ref11_IsName_ok (k : Nat) (a0 : Str) : EV k 66 [(Sr a0)] = (ref11_IsName k a0).map ref11_IsName_fin := by
  cases k with
  | zero => rfl
  | succ k =>
    unfold ref11_IsName
    refine et (evF_succ (c := f66c) (N := 47) (regs := f66n) rfl func66 rfl (by decide) rfl rfl rfl) <| kra [] rfl <| et k_assoc <| kra [(3, (I 0))] rfl <| et (k_block rfl) <| et k_loop ?_
    refine ref11_IsName_L1_ok k a0 _ _ ?h_ref11_IsName_L1_0 ?hr_ref11_IsName_L1 k 0
    · intro y14
      refine et blk_exit <| kg f66a7 rfl (fun (o15 : Bool) => ⟨[(2, (Bo o15))], [], 47⟩) ?_ fun o15 => ?_
      · refine rd 4 [(39, (Sr a0)), (40, (I (a0.length : Int))), (41, (Bo (decide ((a0.length : Int) ≥ 1)))), (42, (Bo (decide ((a0.length : Int) ≥ 1))))] rfl rfl <| bifE (fun hc => ?_) fun hc => ?_
        · rw [hc]
          exact reg_end rfl
        · rw [hc]
          exact reg_end rfl
      refine et k_lret ?_
      rfl
    · intro s; exact rfl
def ref11_fields_fin : Bool → V × List V := fun r => ((Bo r), [])
theorem ref11_fields_L2_ok (k : Nat) (a0 : T_api_Type) (x11 : Int) (o13 : T_api_Field)  (K0 : Int → Option Bool) (Kst : X × St → Option (V × List V)) (hK0 : ∀ (y0 : Int), Kst (X.exit 2, ⟨[(1, (Pt 1)), (3, (I x11)), (4, (Pt 4)), (5, (I y0)), (51, (Bo false))], [(1, vS 8 (eType a0)), (4, vS 3 (eField o13))], 112⟩) = (K0 y0).map ref11_fields_fin) (hret : ∀ s, Kst (X.ret, s) = endK prog 112 [(eType a0)] [] [.tmp 2] (X.ret, s)) :
    ∀ (m : Nat) (x18 : Int), (iter (exec prog (EV k) f67n k f67b0) m ⟨[(1, (Pt 1)), (3, (I x11)), (4, (Pt 4)), (5, (I x18))], [(1, vS 8 (eType a0)), (4, vS 3 (eField o13))], 112⟩).bind Kst = (ref11_fields_L2 a0 x11 o13 K0 m x18).map ref11_fields_fin := by
  intro m
  induction m with
  | zero => intros; rfl
  | succ m ih =>
    intro x18
    unfold ref11_fields_L2
    refine et k_round <| et k_assoc <| kra [(51, (Bo (decide (x18 < x11))))] rfl <| kc rfl rfl (fun hc => ?_) fun hc => ?_
    · rw [hc]
      refine et k_skip <| et (k_block rfl) <| kd f67a10 rfl (fun (o20 : Bool) => ⟨[(1, (Pt 1)), (3, (I x11)), (4, (Pt 4)), (5, (I x18)), (62, (Bo o20))], [(1, vS 8 (eType a0)), (4, vS 3 (eField o13))], 112⟩) (et (regionE_regp (p := 9) (dk := true) (t := [(1, (Pt 1)), (3, (I x11)), (4, (Pt 4)), (5, (I x18)), (51, (Bo true))]) (σ := [(1, vS 8 (eType a0)), (4, vS 3 (eField o13))]) (n := 112) rfl (by decide) (by decide) rfl) <| et (regp_adv (m := 3) (j := 3) (t' := [(1, (Pt 1)), (3, (I x11)), (4, (Pt 4)), (5, (I x18)), (51, (Bo true)), (54, (V.ptr 1 0 4)), (55, (sField a0.fFields)), (56, (I x18))]) rfl rfl rfl) <| et (regp_pure (x := (idx a0.fFields x18)) (w := fun v19 => (Pr (eField v19))) rfl rfl rfl rfl rfl (p_index (e := eField) rfl rfl rfl underlying39 rfl (by decide))) <| bindE fun v19 => regp_end rfl) fun o20 => kcl rfl rfl (fun hc => ?_) fun hc => ?_
      · rw [hc]
        refine kr ⟨[(2, (Bo false))], [], 112⟩ rfl <| et k_lret <| et blk_ret <| et loop_ret <| et (hret _) ?_
        rfl
      · rw [hc]
        exact et k_lskip <| et blk_normal <| kl ⟨[(1, (Pt 1)), (3, (I x11)), (4, (Pt 4)), (5, (I (Go.IntKind.wrap .i64 (x18 + 1))))], [(1, vS 8 (eType a0)), (4, vS 3 (eField o13))], 112⟩ rfl <| et loop_normal <| ih (Go.IntKind.wrap .i64 (x18 + 1))
    · rw [hc]
      exact et k_exit <| et loop_exit <| hK0 x18
theorem ref11_fields_L1_ok (k : Nat) (a0 : T_api_Type)  (K0 : Int → Option Bool) (Kst : X × St → Option (V × List V)) (hK0 : ∀ (y0 : Int), Kst (X.exit 0, ⟨[(1, (Pt 1)), (3, (I y0)), (10, (Bo false))], [(1, vS 8 (eType a0))], 112⟩) = (K0 y0).map ref11_fields_fin) (hret : ∀ s, Kst (X.ret, s) = endK prog 112 [(eType a0)] [] [.tmp 2] (X.ret, s)) :
    ∀ (m : Nat) (x11 : Int), (iter (exec prog (EV k) f67n k f67b1) m ⟨[(1, (Pt 1)), (3, (I x11))], [(1, vS 8 (eType a0))], 112⟩).bind Kst = (ref11_fields_L1 k a0 K0 m x11).map ref11_fields_fin := by
  intro m
  induction m with
  | zero => intros; rfl
  | succ m ih =>
    intro x11
    unfold ref11_fields_L1
    refine et k_round <| et k_assoc <| krp f67a2 rfl ⟨[(1, (Pt 1)), (3, (I x11)), (10, (Bo (decide (x11 < (a0.fFields.length : Int)))))], [(1, vS 8 (eType a0))], 112⟩ ?_ ?_
    · exact rd 3 [(6, (I x11)), (7, (V.ptr 1 0 4)), (8, (sField a0.fFields))] rfl rfl <| rl rfl (p_len (e := eField) rfl rfl rfl rfl rfl rfl underlying39) <| bind_end rfl
    refine kc rfl rfl (fun hc => ?_) fun hc => ?_
    · rw [hc]
      refine et k_skip <| et (k_block rfl) <| kg f67a4 rfl (fun (o13 : T_api_Field) => ⟨[(1, (Pt 1)), (3, (I x11)), (4, (Pt 4))], [(1, vS 8 (eType a0)), (4, vS 3 (eField o13))], 112⟩) (rd 3 [(13, (V.ptr 1 0 4)), (14, (sField a0.fFields)), (15, (I x11))] rfl rfl <| rs rfl (p_index (e := eField) rfl rfl rfl underlying39 rfl (by decide)) fun v12 => bind_end rfl) fun o13 => et k_assoc <| kga f67a5 rfl (fun (o15 : Bool) => [(48, (Bo o15))]) ?_ fun o15 => ?_
      · refine rd 2 [(18, (Pt 4)), (19, (Sr o13.fName))] rfl rfl <| rp rfl (p_call rfl rfl rfl rfl rfl (ref11_IsName_ok k o13.fName) (.inl rfl)) fun v14 => bd 5 [(20, (Bo v14)), (21, (Bo (!v14))), (22, (Bo (!v14)))] rfl rfl <| bifE (fun hc => ?_) fun hc => ?_
        · rw [hc]
          exact reg_end rfl
        · rw [hc]
          refine rd 10 [(23, (V.ptr 4 0 1)), (24, (I o13.fAt)), (25, (Bo (decide (o13.fAt < 0)))), (26, (Bo (decide (o13.fAt < 0)))), (27, (Bo (decide (o13.fAt < 0))))] rfl rfl <| bifE (fun hc => ?_) fun hc => ?_
          · rw [hc]
            exact reg_end rfl
          · rw [hc]
            refine rd 17 [(28, (V.ptr 4 0 1)), (29, (I o13.fAt)), (30, (V.ptr 1 0 3)), (31, (I a0.fSize)), (32, (Bo (decide (o13.fAt > a0.fSize)))), (33, (Bo (decide (o13.fAt > a0.fSize)))), (34, (Bo (decide (o13.fAt > a0.fSize))))] rfl rfl <| bifE (fun hc => ?_) fun hc => ?_
            · rw [hc]
              exact reg_end rfl
            · rw [hc]
              refine rd 22 [(35, (V.ptr 4 0 2)), (36, (I o13.fBytes)), (37, (Bo (decide (o13.fBytes < 1)))), (38, (Bo (decide (o13.fBytes < 1)))), (39, (Bo (decide (o13.fBytes < 1))))] rfl rfl <| bifE (fun hc => ?_) fun hc => ?_
              · rw [hc]
                exact reg_end rfl
              · rw [hc]
                exact reg_end rfl
      refine kc rfl rfl (fun hc => ?_) fun hc => ?_
      · rw [hc]
        refine et k_assoc <| kr ⟨[(2, (Bo false))], [], 112⟩ rfl <| et k_ret <| et blk_ret <| et loop_ret <| et (hret _) ?_
        rfl
      · rw [hc]
        refine et k_skip <| kr ⟨[(1, (Pt 1)), (3, (I x11)), (4, (Pt 4)), (5, (I 0))], [(1, vS 8 (eType a0)), (4, vS 3 (eField o13))], 112⟩ rfl <| et (k_lblock rfl) <| et k_loop ?_
        refine ref11_fields_L2_ok k a0 x11 o13 _ _ ?h_ref11_fields_L2_0 ?hr_ref11_fields_L2 k 0
        · intro y21
          exact et blk_exit <| et k_lskip <| et blk_normal <| kl ⟨[(1, (Pt 1)), (3, (I (Go.IntKind.wrap .i64 (x11 + 1))))], [(1, vS 8 (eType a0))], 112⟩ rfl <| et loop_normal <| ih (Go.IntKind.wrap .i64 (x11 + 1))
        · intro s; exact hret s
    · rw [hc]
      exact et k_exit <| et loop_exit <| hK0 x11
theorem ref11_fields_ok (k : Nat) (a0 : T_api_Type) : EV k 67 [(eType a0)] = (ref11_fields k a0).map ref11_fields_fin := by
  cases k with
  | zero => rfl
  | succ k =>
    unfold ref11_fields
    refine et (evF_succ (c := f67c) (N := 112) (regs := f67n) rfl func67 rfl (by decide) rfl rfl rfl) <| kr ⟨[(1, (Pt 1))], [(1, vS 8 (eType a0))], 112⟩ rfl <| et k_assoc <| kra [(3, (I 0))] rfl <| et (k_block rfl) <| et k_loop ?_
    refine ref11_fields_L1_ok k a0 _ _ ?h_ref11_fields_L1_0 ?hr_ref11_fields_L1 k 0
    · intro y22
      refine et blk_exit <| et k_assoc <| kg f67a12 rfl (fun (o23 : Bool) => ⟨[(1, (Pt 1)), (82, (Bo o23))], [(1, vS 8 (eType a0))], 112⟩) ?_ fun o23 => ?_
      · refine rd 4 [(63, (V.ptr 1 0 5)), (64, (I a0.fKey)), (65, (Bo (decide (a0.fKey < (-1))))), (66, (Bo (decide (a0.fKey < (-1)))))] rfl rfl <| bifE (fun hc => ?_) fun hc => ?_
        · rw [hc]
          exact reg_end rfl
        · rw [hc]
          refine rd 8 [(67, (V.ptr 1 0 5)), (68, (I a0.fKey)), (69, (V.ptr 1 0 4)), (70, (sField a0.fFields))] rfl rfl <| rl rfl (p_len (e := eField) rfl rfl rfl rfl rfl rfl underlying39) <| bd 12 [(71, (I (a0.fFields.length : Int))), (72, (Bo (decide (a0.fKey ≥ (a0.fFields.length : Int))))), (73, (Bo (decide (a0.fKey ≥ (a0.fFields.length : Int))))), (74, (Bo (decide (a0.fKey ≥ (a0.fFields.length : Int)))))] rfl rfl <| bifE (fun hc => ?_) fun hc => ?_
          · rw [hc]
            exact reg_end rfl
          · rw [hc]
            refine rd 16 [(75, (V.ptr 1 0 5)), (76, (I a0.fKey)), (77, (Bo (decide (a0.fKey < 0)))), (78, (Bo (decide (a0.fKey < 0))))] rfl rfl <| bifE (fun hc => ?_) fun hc => ?_
            · rw [hc]
              exact reg_end rfl
            · rw [hc]
              exact reg_end rfl
      refine kc rfl rfl (fun hc => ?_) fun hc => ?_
      · rw [hc]
        refine et k_assoc <| kr ⟨[(2, (Bo false))], [], 112⟩ rfl <| et k_ret ?_
        rfl
      · rw [hc]
        refine et k_skip <| kd f67a14 rfl (fun (o26 : Bool) => ⟨[(2, (Bo o26))], [], 112⟩) ?_ fun o26 => ?_
        · refine et (regionE_regp (p := 30) (dk := true) (t := [(1, (Pt 1)), (82, (Bo false))]) (σ := [(1, vS 8 (eType a0))]) (n := 112) rfl (by decide) (by decide) rfl) <| et (regp_adv (m := 2) (j := 2) (t' := [(1, (Pt 1)), (82, (Bo false)), (83, (V.ptr 1 0 4)), (84, (sField a0.fFields))]) rfl rfl rfl) <| et (regp_pure (x := some ()) (w := fun _ => (I (a0.fFields.length : Int))) rfl rfl rfl rfl rfl (p_len (e := eField) rfl rfl rfl rfl rfl rfl underlying39)) <| et some_bind <| et (putp_adv (m := 2) (j := 5) (t' := [(1, (Pt 1)), (82, (Bo false)), (83, (V.ptr 1 0 4)), (84, (sField a0.fFields)), (85, (I (a0.fFields.length : Int))), (86, (Bo (decide ((a0.fFields.length : Int) ≤ 5)))), (87, (Bo (decide ((a0.fFields.length : Int) ≤ 5))))]) rfl rfl rfl) <| bifE (fun hc => ?_) fun hc => ?_
          · rw [hc]
            refine et (regp_adv (m := 4) (j := 9) (t' := [(1, (Pt 1)), (82, (Bo false)), (83, (V.ptr 1 0 4)), (84, (sField a0.fFields)), (85, (I (a0.fFields.length : Int))), (86, (Bo true)), (87, (Bo true)), (88, (V.ptr 1 0 5)), (89, (I a0.fKey)), (90, (Bo (decide (a0.fKey < 0)))), (91, (Bo (decide (a0.fKey < 0))))]) rfl rfl rfl) <| bifE (fun hc => ?_) fun hc => ?_
            · rw [hc]
              exact regp_end rfl
            · rw [hc]
              exact et (regp_adv (m := 4) (j := 13) (t' := [(1, (Pt 1)), (82, (Bo false)), (83, (V.ptr 1 0 4)), (84, (sField a0.fFields)), (85, (I (a0.fFields.length : Int))), (86, (Bo true)), (87, (Bo true)), (88, (V.ptr 1 0 5)), (89, (I a0.fKey)), (90, (Bo false)), (91, (Bo false)), (92, (V.ptr 1 0 4)), (93, (sField a0.fFields)), (94, (V.ptr 1 0 5)), (95, (I a0.fKey))]) rfl rfl rfl) <| et (regp_pure (x := (idx a0.fFields a0.fKey)) (w := fun v24 => (Pr (eField v24))) rfl rfl rfl rfl rfl (p_index (e := eField) rfl rfl rfl underlying39 rfl (by decide))) <| bindE fun v24 => et (putp_adv (m := 6) (j := 20) (t' := [(1, (Pt 1)), (82, (Bo false)), (83, (V.ptr 1 0 4)), (84, (sField a0.fFields)), (85, (I (a0.fFields.length : Int))), (86, (Bo true)), (87, (Bo true)), (88, (V.ptr 1 0 5)), (89, (I a0.fKey)), (90, (Bo false)), (91, (Bo false)), (92, (V.ptr 1 0 4)), (93, (sField a0.fFields)), (94, (V.ptr 1 0 5)), (95, (I a0.fKey)), (96, (Pr (eField v24))), (97, (Pr (I v24.fAt))), (98, (I v24.fAt)), (99, (V.ptr 1 0 4)), (100, (sField a0.fFields)), (101, (V.ptr 1 0 5)), (102, (I a0.fKey))]) rfl rfl rfl) <| et (regp_pure (x := (idx a0.fFields a0.fKey)) (w := fun v25 => (Pr (eField v25))) rfl rfl rfl rfl rfl (p_index (e := eField) rfl rfl rfl underlying39 rfl (by decide))) <| bindE fun v25 => regp_end rfl
          · rw [hc]
            exact regp_end rfl
        refine et k_lret ?_
        rfl
    · intro s; exact rfl
def ref11_above_fin : Bool → V × List V := fun r => ((Bo r), [])
theorem ref11_above_L1_ok (k : Nat) (a0 : T_api_Base) (a1 : Int) (a2 : Int)  (K0 : Int → Option Bool) (Kst : X × St → Option (V × List V)) (hK0 : ∀ (y0 : Int), Kst (X.exit 0, ⟨[(1, (I a1)), (2, (I y0)), (3, (Pt 3)), (14, (Bo false))], [(3, vS 4 (eBase a0))], 24⟩) = (K0 y0).map ref11_above_fin) (hret : ∀ s, Kst (X.ret, s) = endK prog 24 [(eBase a0), (I a1), (I a2)] [] [.tmp 6] (X.ret, s)) :
    ∀ (m : Nat) (x5 : Int), (iter (exec prog (EV k) f68n k f68b0) m ⟨[(1, (I a1)), (2, (I x5)), (3, (Pt 3))], [(3, vS 4 (eBase a0))], 24⟩).bind Kst = (ref11_above_L1 a0 a1 K0 m x5).map ref11_above_fin := by
  intro m
  induction m with
  | zero => intros; rfl
  | succ m ih =>
    intro x5
    unfold ref11_above_L1
    refine et k_round <| et k_assoc <| kra [(14, (Bo (decide (x5 ≥ 0))))] rfl <| kc rfl rfl (fun hc => ?_) fun hc => ?_
    · rw [hc]
      refine et k_skip <| et (k_block rfl) <| kr ⟨[(1, (I a1)), (2, (I x5)), (3, (Pt 3)), (23, (Bo (x5 == a1)))], [(3, vS 4 (eBase a0))], 24⟩ rfl <| kcl rfl rfl (fun hc => ?_) fun hc => ?_
      · rw [hc]
        refine kr ⟨[(6, (Bo true))], [], 24⟩ rfl <| et k_lret <| et blk_ret <| et loop_ret <| et (hret _) ?_
        rfl
      · rw [hc]
        exact et k_lskip <| et blk_normal <| kgl f68a3 rfl (fun (o7 : Int) => ⟨[(1, (I a1)), (2, (I o7)), (3, (Pt 3))], [(3, vS 4 (eBase a0))], 24⟩) (ra 3 3 ⟨[(1, (I a1)), (2, (I x5)), (3, (Pt 3)), (15, (V.ptr 3 0 2)), (16, (sType a0.fTypes)), (17, (I x5)), (23, (Bo false))], [(3, vS 4 (eBase a0))], 24⟩ rfl rfl rfl <| rp rfl (p_index (e := eType) rfl rfl rfl underlying22 rfl (by decide)) fun v6 => bind_end rfl) fun o7 => et loop_normal <| ih o7
    · rw [hc]
      exact et k_exit <| et loop_exit <| hK0 x5
theorem ref11_above_ok (k : Nat) (a0 : T_api_Base) (a1 : Int) (a2 : Int) : EV k 68 [(eBase a0), (I a1), (I a2)] = (ref11_above k a0 a1 a2).map ref11_above_fin := by
  cases k with
  | zero => rfl
  | succ k =>
    unfold ref11_above
    refine et (evF_succ (c := f68c) (N := 24) (regs := f68n) rfl func68 rfl (by decide) rfl rfl rfl) <| kr ⟨[(1, (I a1)), (2, (I a2)), (3, (Pt 3))], [(3, vS 4 (eBase a0))], 24⟩ rfl <| et k_assoc <| kg f68a1 rfl (fun (o2 : Int) => ⟨[(1, (I a1)), (2, (I o2)), (3, (Pt 3))], [(3, vS 4 (eBase a0))], 24⟩) (rd 3 [(7, (V.ptr 3 0 2)), (8, (sType a0.fTypes)), (9, (I a2))] rfl rfl <| rp rfl (p_index (e := eType) rfl rfl rfl underlying22 rfl (by decide)) fun v1 => bind_end rfl) fun o2 => et (k_block rfl) <| et k_loop ?_
    refine ref11_above_L1_ok k a0 a1 a2 _ _ ?h_ref11_above_L1_0 ?hr_ref11_above_L1 k o2
    · intro y8
      refine et blk_exit <| kr ⟨[(6, (Bo false))], [], 24⟩ rfl <| et k_lret ?_
      rfl
    · intro s; exact rfl
def ref11_way_fin : (List Int) → V × List V := fun r => ((sI r), [])
theorem ref11_way_L1_ok (k : Nat) (a0 : T_api_Base) (a1 : Int)  (K0 : Int → (List Int) → Option (List Int)) (Kst : X × St → Option (V × List V)) (hK0 : ∀ (y0 : Int) (y1 : (List Int)), Kst (X.exit 0, ⟨[(1, (I y0)), (2, (Pt 2)), (5, (sI y1)), (7, (Bo false))], [(2, vS 4 (eBase a0))], 19⟩) = (K0 y0 y1).map ref11_way_fin) (hret : ∀ s, Kst (X.ret, s) = endK prog 19 [(eBase a0), (I a1)] [] [.tmp 4] (X.ret, s)) :
    ∀ (m : Nat) (x5 : Int) (x6 : (List Int)), (iter (exec prog (EV k) f69n k f69b0) m ⟨[(1, (I x5)), (2, (Pt 2)), (5, (sI x6))], [(2, vS 4 (eBase a0))], 19⟩).bind Kst = (ref11_way_L1 a0 K0 m x5 x6).map ref11_way_fin := by
  intro m
  induction m with
  | zero => intros; rfl
  | succ m ih =>
    intro x5 x6
    unfold ref11_way_L1
    refine et k_round <| et k_assoc <| kra [(7, (Bo (decide (x5 ≥ 0))))] rfl <| kc rfl rfl (fun hc => ?_) fun hc => ?_
    · rw [hc]
      exact et k_skip <| et (k_lblock rfl) <| kg f69a3 rfl (fun (o8 : (List Int)) => ⟨[(1, (I x5)), (2, (Pt 2)), (5, (sI o8))], [(2, vS 4 (eBase a0))], 19⟩) (rd 3 [(8, (I x5)), (9, (V.sl 1 1 (List.map I ([x5] : List Int)))), (10, (sI x6))] rfl rfl <| et (reg_eff (x := (app ([x5] : List Int) x6)) (w := fun v7 => ((V.sl 1 1 (List.map I v7)), _)) rfl rfl rfl rfl (p_app (e := I) rfl rfl rfl rfl rfl rfl rfl rfl rfl rfl (by decide))) <| bind_self fun v7 => bind_end rfl) fun o8 => kgl f69a4 rfl (fun (o10 : Int) => ⟨[(1, (I o10)), (2, (Pt 2)), (5, (sI o8))], [(2, vS 4 (eBase a0))], 19⟩) (rd 3 [(12, (V.ptr 2 0 2)), (13, (sType a0.fTypes)), (14, (I x5))] rfl rfl <| rp rfl (p_index (e := eType) rfl rfl rfl underlying22 rfl (by decide)) fun v9 => bind_end rfl) fun o10 => et blk_normal <| et k_lskip <| et loop_normal <| ih o10 o8
    · rw [hc]
      exact et k_exit <| et loop_exit <| hK0 x5 x6
theorem ref11_way_ok (k : Nat) (a0 : T_api_Base) (a1 : Int) : EV k 69 [(eBase a0), (I a1)] = (ref11_way k a0 a1).map ref11_way_fin := by
  cases k with
  | zero => rfl
  | succ k =>
    unfold ref11_way
    refine et (evF_succ (c := f69c) (N := 19) (regs := f69n) rfl func69 rfl (by decide) rfl rfl rfl) <| kr ⟨[(1, (I a1)), (2, (Pt 2))], [(2, vS 4 (eBase a0))], 19⟩ rfl <| kra [(5, (sI (([] : List Int))))] rfl <| et (k_block rfl) <| et k_loop ?_
    refine ref11_way_L1_ok k a0 a1 _ _ ?h_ref11_way_L1_0 ?hr_ref11_way_L1 k a1 ([] : List Int)
    · intro y11 y12
      refine et blk_exit <| kr ⟨[(4, (sI y12))], [], 19⟩ rfl <| et k_lret ?_
      rfl
    · intro s; exact rfl
def ref11_Valid_fin : Bool → V × List V := fun r => ((Bo r), [])
end
end Go.AE
