/- The program, function by function: the evaluator comes to the typed functions. Conditions: none. -/
import Derived.Test.YtgpblbjceghpjaaA3
import Derived.KernelRfl
import Derived.Test.YtgpblbjceghpjaaProg
import Derived.Test.YtgpblbjceghpjaaB1
namespace Go.AE
open Go.Proofs.Try Go.Sh
set_option linter.unusedSimpArgs false
set_option linter.unusedVariables false
set_option maxRecDepth 100000
set_option maxHeartbeats 4000000
noncomputable section
abbrev Pt (n : Nat) : V := .ptr n 0 0
abbrev Bo (b : Bool) : V := .bool b
abbrev Sr (s : Str) : V := .str s
abbrev Pr (v : V) : V := .pro v
abbrev sS (l : List Str) : V := .sl 0 1 (List.map V.str l)
abbrev vS (n : Nat) (v : V) : Site := ⟨false, n, [v]⟩
abbrev aL {α : Type} (d : Nat) (e : α → V) (l : List α) : V := .aref d 0 (List.map e l).length
def eField (a : T_api_Field) : V := .agg [(V.str a.fName), (V.int .i64 a.fAt), (V.int .i64 a.fBytes)]
def eType (a : T_api_Type) : V := .agg [(V.str a.fName), (V.int .i64 a.fParent), (V.int .i64 a.fMin), (V.int .i64 a.fSize), (V.sl 0 3 (List.map eField a.fFields)), (V.int .i64 a.fKey), (V.bool a.fUnique), (V.bool a.fLast)]
def eSearch (a : T_api_Search) : V := .agg [(V.str a.fName), (V.int .i64 a.fType), (V.int .i64 a.fField), (V.str a.fSparse)]
def eBase (a : T_api_Base) : V := .agg [(V.str a.fName), (V.int .i64 a.fKind), (V.sl 0 8 (List.map eType a.fTypes)), (V.sl 0 4 (List.map eSearch a.fIndexes))]
def eTerm (a : T_api_Term) : V := .agg [(V.str a.fField), (V.int .i64 a.fOp), (V.str a.fValue)]
def eCase (a : T_progenylaw12_Case) : V := .agg [(V.str a.fBase.fName), (V.int .i64 a.fBase.fKind), (V.sl 0 8 (List.map eType a.fBase.fTypes)), (V.sl 0 4 (List.map eSearch a.fBase.fIndexes)), (V.int .i64 a.fType), (V.sl 0 1 (List.map (fun x => (V.sl 0 3 (List.map eTerm x))) a.fWhen))]
def eStr (a : T_arr6_Str) : V := .agg [(V.str a.e0), (V.str a.e1), (V.str a.e2), (V.str a.e3), (V.str a.e4), (V.str a.e5)]
noncomputable def f8o0 : Array Oper := cO (cL (cB f8))
def f8a0 : RAnn := ⟨[0, 2], []⟩
noncomputable def f8o1 : Array Oper := cO (cL (cL (cR (cB f8))))
def f8a1 : RAnn := ⟨[6, 7, 8, 9, 10, 11, 12, 13, 14, 15, 16, 17, 18, 19, 20], []⟩
noncomputable def f8o2 : Array Oper := cO (cL (cL (cR (cL (cR (cB f8))))))
def f8a2 : RAnn := ⟨[1, 21], []⟩
noncomputable def f8o3 : Array Oper := cO (cL (cL (cR (cR (cB f8)))))
def f8a3 : RAnn := ⟨[21], []⟩
noncomputable def f8o4 : Array Oper := cO (cL (cL (cL (cL (cR (cL (cR (cR (cB f8)))))))))
def f8a4 : RAnn := ⟨[22, 23, 24, 25], []⟩
noncomputable def f8o5 : Array Oper := cO (cR (cR (cL (cL (cR (cL (cR (cR (cB f8)))))))))
def f8a5 : RAnn := ⟨[4, 27, 28, 55], []⟩
noncomputable def f8o6 : Array Oper := cO (cL (cL (cL (cL (cR (cL (cL (cR (cL (cR (cR (cB f8))))))))))))
def f8a6 : RAnn := ⟨[26, 29, 30, 31, 32, 33, 34, 35, 36, 37, 38, 39, 40, 41, 42, 43, 44, 45], []⟩
noncomputable def f8o7 : Array Oper := cO (cL (cL (cR (cL (cL (cL (cR (cL (cL (cR (cL (cR (cR (cB f8))))))))))))))
def f8a7 : RAnn := ⟨[1, 3, 46], []⟩
noncomputable def f8o8 : Array Oper := cO (cL (cR (cL (cL (cR (cL (cL (cR (cL (cR (cR (cB f8))))))))))))
def f8a8 : RAnn := ⟨[46], []⟩
noncomputable def f8o9 : Array Oper := cO (cL (cL (cL (cL (cR (cR (cL (cL (cR (cL (cL (cR (cL (cR (cR (cB f8))))))))))))))))
def f8a9 : RAnn := ⟨[47, 48, 49, 50, 51, 52, 53, 54], []⟩
noncomputable def f8o10 : Array Oper := cO (cR (cR (cL (cL (cR (cR (cL (cL (cR (cL (cL (cR (cL (cR (cR (cB f8))))))))))))))))
def f8a10 : RAnn := ⟨[56, 57, 69], []⟩
noncomputable def f8o11 : Array Oper := cO (cL (cL (cL (cR (cL (cL (cR (cR (cL (cL (cR (cL (cL (cR (cL (cR (cR (cB f8))))))))))))))))))
def f8a11 : RAnn := ⟨[55, 58, 59, 60, 61, 62, 63, 64, 65, 66, 67, 68], []⟩
noncomputable def f8o12 : Array Oper := cO (cL (cL (cR (cL (cL (cR (cL (cL (cR (cR (cL (cL (cR (cL (cL (cR (cL (cR (cR (cB f8))))))))))))))))))))
def f8a12 : RAnn := ⟨[1, 3, 4, 69], []⟩
noncomputable def f8o13 : Array Oper := cO (cL (cL (cR (cR (cR (cB f8))))))
def f8a13 : RAnn := ⟨[3, 26], []⟩
noncomputable def f8o14 : Array Oper := cO (cL (cL (cL (cL (cR (cL (cR (cR (cR (cB f8))))))))))
def f8a14 : RAnn := ⟨[70, 71, 72, 73], []⟩
noncomputable def f8o15 : Array Oper := cO (cR (cR (cL (cL (cR (cL (cR (cR (cR (cB f8))))))))))
def f8a15 : RAnn := ⟨[75, 76, 94], []⟩
noncomputable def f8o16 : Array Oper := cO (cL (cL (cL (cR (cL (cL (cR (cL (cR (cR (cR (cB f8))))))))))))
def f8a16 : RAnn := ⟨[74, 77, 78, 79, 80, 81, 82, 83, 84, 85, 86, 87, 88, 89, 90, 91, 92, 93], []⟩
noncomputable def f8o17 : Array Oper := cO (cL (cL (cR (cL (cL (cR (cL (cL (cR (cL (cR (cR (cR (cB f8))))))))))))))
def f8a17 : RAnn := ⟨[1, 5, 94], []⟩
noncomputable def f8o18 : Array Oper := cO (cL (cR (cR (cR (cR (cB f8))))))
def f8a18 : RAnn := ⟨[1, 5, 74], []⟩
def f8b0 : Code := (.seq (.seq (.region 9 f8o9 false) (.cond (.tmp 55) .skip (.exit 2))) (.seq (.block 3 (.seq (.region 11 f8o11 false) (.cond (.tmp 69) (.seq (.region 12 f8o12 false) .ret) .skip))) (.region 10 f8o10 false)))
def f8b1 : Code := (.seq (.seq (.region 4 f8o4 false) (.cond (.tmp 26) .skip (.exit 0))) (.seq (.block 1 (.seq (.seq (.region 6 f8o6 false) (.cond (.tmp 46) (.seq (.region 7 f8o7 false) .ret) .skip)) (.seq (.region 8 f8o8 false) (.block 2 (.loop f8b0))))) (.region 5 f8o5 false)))
def f8b2 : Code := (.seq (.seq (.region 14 f8o14 false) (.cond (.tmp 74) .skip (.exit 4))) (.seq (.block 5 (.seq (.region 16 f8o16 false) (.cond (.tmp 94) (.seq (.region 17 f8o17 false) .ret) .skip))) (.region 15 f8o15 false)))
def f8c : Code := (.seq (.region 0 f8o0 false) (.seq (.seq (.region 1 f8o1 false) (.cond (.tmp 21) (.seq (.region 2 f8o2 false) .ret) .skip)) (.seq (.seq (.region 3 f8o3 false) (.block 0 (.loop f8b1))) (.seq (.seq (.region 13 f8o13 false) (.block 4 (.loop f8b2))) (.seq (.region 18 f8o18 false) .ret)))))
def f8n : List (Nat × RAnn) := [(0, f8a0), (1, f8a1), (2, f8a2), (3, f8a3), (4, f8a4), (5, f8a5), (6, f8a6), (7, f8a7), (8, f8a8), (9, f8a9), (10, f8a10), (11, f8a11), (12, f8a12), (13, f8a13), (14, f8a14), (15, f8a15), (16, f8a16), (17, f8a17), (18, f8a18)]
noncomputable def f9o0 : Array Oper := cO (cL (cB f9))
def f9a0 : RAnn := ⟨[2], []⟩
noncomputable def f9o1 : Array Oper := cO (cL (cL (cR (cB f9))))
def f9a1 : RAnn := ⟨[], []⟩
noncomputable def f9o2 : Array Oper := cO (cL (cL (cL (cL (cR (cL (cR (cB f9))))))))
def f9a2 : RAnn := ⟨[5, 6, 7], []⟩
noncomputable def f9o3 : Array Oper := cO (cR (cR (cL (cL (cR (cL (cR (cB f9))))))))
def f9a3 : RAnn := ⟨[4, 9, 10, 23], []⟩
noncomputable def f9o4 : Array Oper := cO (cL (cL (cL (cL (cR (cL (cL (cR (cL (cR (cB f9)))))))))))
def f9a4 : RAnn := ⟨[8, 11, 12, 13, 14, 15], []⟩
noncomputable def f9o5 : Array Oper := cO (cL (cL (cR (cL (cL (cL (cR (cL (cL (cR (cL (cR (cB f9)))))))))))))
def f9a5 : RAnn := ⟨[0, 3, 16], []⟩
noncomputable def f9o6 : Array Oper := cO (cL (cR (cL (cL (cR (cL (cL (cR (cL (cR (cB f9)))))))))))
def f9a6 : RAnn := ⟨[16], []⟩
noncomputable def f9o7 : Array Oper := cO (cL (cL (cL (cL (cR (cR (cL (cL (cR (cL (cL (cR (cL (cR (cB f9)))))))))))))))
def f9a7 : RAnn := ⟨[17, 18, 19, 20, 21, 22], []⟩
noncomputable def f9o8 : Array Oper := cO (cR (cR (cL (cL (cR (cR (cL (cL (cR (cL (cL (cR (cL (cR (cB f9)))))))))))))))
def f9a8 : RAnn := ⟨[24, 25, 47], []⟩
noncomputable def f9o9 : Array Oper := cO (cL (cL (cL (cR (cL (cL (cR (cR (cL (cL (cR (cL (cL (cR (cL (cR (cB f9)))))))))))))))))
def f9a9 : RAnn := ⟨[23, 26, 27, 28, 29, 30, 31, 32, 33, 34, 35, 36, 37, 38, 39, 40, 41, 42, 43, 44, 45, 46], []⟩
noncomputable def f9o10 : Array Oper := cO (cL (cL (cR (cL (cL (cR (cL (cL (cR (cR (cL (cL (cR (cL (cL (cR (cL (cR (cB f9)))))))))))))))))))
def f9a10 : RAnn := ⟨[0, 3, 4, 47], []⟩
noncomputable def f9o11 : Array Oper := cO (cL (cR (cR (cB f9))))
def f9a11 : RAnn := ⟨[0, 3, 8, 48, 49, 50], []⟩
def f9b0 : Code := (.seq (.seq (.region 7 f9o7 false) (.cond (.tmp 23) .skip (.exit 2))) (.seq (.block 3 (.seq (.region 9 f9o9 false) (.cond (.tmp 47) (.seq (.region 10 f9o10 false) .ret) .skip))) (.region 8 f9o8 false)))
def f9b1 : Code := (.seq (.seq (.region 2 f9o2 false) (.cond (.tmp 8) .skip (.exit 0))) (.seq (.block 1 (.seq (.seq (.region 4 f9o4 false) (.cond (.tmp 16) (.seq (.region 5 f9o5 false) .ret) .skip)) (.seq (.region 6 f9o6 false) (.block 2 (.loop f9b0))))) (.region 3 f9o3 false)))
def f9c : Code := (.seq (.region 0 f9o0 false) (.seq (.seq (.region 1 f9o1 false) (.block 0 (.loop f9b1))) (.seq (.region 11 f9o11 false) .ret)))
def f9n : List (Nat × RAnn) := [(0, f9a0), (1, f9a1), (2, f9a2), (3, f9a3), (4, f9a4), (5, f9a5), (6, f9a6), (7, f9a7), (8, f9a8), (9, f9a9), (10, f9a10), (11, f9a11)]
noncomputable def f19o0 : Array Oper := cO (cL (cB f19))
def f19a0 : RAnn := ⟨[], []⟩
noncomputable def f19o1 : Array Oper := cO (cL (cR (cB f19)))
def f19a1 : RAnn := ⟨[1, 2, 3, 4, 5], []⟩
def f19c : Code := (.seq (.region 0 f19o0 false) (.seq (.region 1 f19o1 false) .ret))
def f19n : List (Nat × RAnn) := [(0, f19a0), (1, f19a1)]
noncomputable def f101o0 : Array Oper := cO (cL (cB f101))
def f101a0 : RAnn := ⟨[2], []⟩
noncomputable def f101o1 : Array Oper := cO (cL (cL (cR (cB f101))))
def f101a1 : RAnn := ⟨[5], []⟩
noncomputable def f101o2 : Array Oper := cO (cL (cL (cL (cR (cL (cR (cB f101)))))))
def f101a2 : RAnn := ⟨[], []⟩
noncomputable def f101o3 : Array Oper := cO (cL (cL (cL (cR (cR (cL (cL (cR (cL (cR (cB f101)))))))))))
def f101a3 : RAnn := ⟨[8, 9], []⟩
noncomputable def f101o4 : Array Oper := cO (cL (cR (cL (cL (cR (cR (cL (cL (cR (cL (cR (cB f101))))))))))))
def f101a4 : RAnn := ⟨[10, 11, 12, 13, 14, 15, 16, 17, 18, 19], []⟩
noncomputable def f101o5 : Array Oper := cO (cL (cR (cR (cL (cL (cR (cR (cL (cL (cR (cL (cR (cB f101)))))))))))))
def f101a5 : RAnn := ⟨[3, 4, 20, 21, 22, 23, 24, 25, 26, 27, 28, 29, 30, 31, 32, 33, 34, 35, 36], []⟩
noncomputable def f101o6 : Array Oper := cO (cL (cL (cR (cR (cR (cL (cL (cR (cR (cL (cL (cR (cL (cR (cB f101)))))))))))))))
def f101a6 : RAnn := ⟨[0, 6, 7, 37], []⟩
noncomputable def f101o7 : Array Oper := cO (cR (cR (cR (cL (cL (cR (cL (cR (cB f101)))))))))
def f101a7 : RAnn := ⟨[37, 38], []⟩
noncomputable def f101o8 : Array Oper := cO (cL (cR (cR (cB f101))))
def f101a8 : RAnn := ⟨[0, 6, 7, 8, 39, 40, 41, 42, 43, 44, 45, 46], []⟩
def f101b0 : Code := (.seq (.region 2 f101o2 false) (.seq (.cond (.tmp 8) .skip (.exit 0)) (.seq (.block 1 (.seq (.region 3 f101o3 false) (.seq (.region 4 f101o4 false) (.seq (.region 5 f101o5 false) (.cond (.tmp 37) (.seq (.region 6 f101o6 false) .ret) .skip))))) (.region 7 f101o7 false))))
def f101c : Code := (.seq (.region 0 f101o0 false) (.seq (.seq (.region 1 f101o1 false) (.block 0 (.loop f101b0))) (.seq (.region 8 f101o8 false) .ret)))
def f101n : List (Nat × RAnn) := [(0, f101a0), (1, f101a1), (2, f101a2), (3, f101a3), (4, f101a4), (5, f101a5), (6, f101a6), (7, f101a7), (8, f101a8)]
noncomputable def f68o0 : Array Oper := cO (cL (cB f68))
def f68a0 : RAnn := ⟨[4], []⟩
noncomputable def f68o1 : Array Oper := cO (cL (cL (cR (cB f68))))
def f68a1 : RAnn := ⟨[6], []⟩
noncomputable def f68o2 : Array Oper := cO (cL (cL (cL (cR (cL (cR (cB f68)))))))
def f68a2 : RAnn := ⟨[], []⟩
noncomputable def f68o3 : Array Oper := cO (cL (cL (cL (cR (cR (cL (cL (cR (cL (cR (cB f68)))))))))))
def f68a3 : RAnn := ⟨[9, 10], []⟩
noncomputable def f68o4 : Array Oper := cO (cL (cR (cL (cL (cR (cR (cL (cL (cR (cL (cR (cB f68))))))))))))
def f68a4 : RAnn := ⟨[11, 12, 13, 14, 15], []⟩
noncomputable def f68o5 : Array Oper := cO (cL (cL (cR (cR (cL (cL (cR (cR (cL (cL (cR (cL (cR (cB f68))))))))))))))
def f68a5 : RAnn := ⟨[0, 1, 5, 7, 8, 16, 17], []⟩
noncomputable def f68o6 : Array Oper := cO (cR (cR (cR (cL (cL (cR (cL (cR (cB f68)))))))))
def f68a6 : RAnn := ⟨[5, 16, 18], []⟩
noncomputable def f68o7 : Array Oper := cO (cL (cR (cR (cB f68))))
def f68a7 : RAnn := ⟨[0, 1, 7, 8, 9], []⟩
def f68b0 : Code := (.seq (.region 2 f68o2 false) (.seq (.cond (.tmp 9) .skip (.exit 0)) (.seq (.block 1 (.seq (.region 3 f68o3 false) (.seq (.region 4 f68o4 false) (.cond (.tmp 16) (.seq (.region 5 f68o5 false) .ret) .skip)))) (.region 6 f68o6 false))))
def f68c : Code := (.seq (.region 0 f68o0 false) (.seq (.seq (.region 1 f68o1 false) (.block 0 (.loop f68b0))) (.seq (.region 7 f68o7 false) .ret)))
def f68n : List (Nat × RAnn) := [(0, f68a0), (1, f68a1), (2, f68a2), (3, f68a3), (4, f68a4), (5, f68a5), (6, f68a6), (7, f68a7)]
noncomputable def f118o0 : Array Oper := cO (cL (cB f118))
def f118a0 : RAnn := ⟨[4], []⟩
noncomputable def f118o1 : Array Oper := cO (cL (cR (cB f118)))
def f118a1 : RAnn := ⟨[0, 1, 5, 6, 7, 8], []⟩
def f118c : Code := (.seq (.region 0 f118o0 false) (.seq (.region 1 f118o1 false) .ret))
def f118n : List (Nat × RAnn) := [(0, f118a0), (1, f118a1)]
noncomputable def f119o0 : Array Oper := cO (cL (cB f119))
def f119a0 : RAnn := ⟨[0, 3], []⟩
noncomputable def f119o1 : Array Oper := cO (cL (cR (cB f119)))
def f119a1 : RAnn := ⟨[1, 2, 4, 5, 6, 7, 8], []⟩
def f119c : Code := (.seq (.region 0 f119o0 false) (.seq (.region 1 f119o1 false) .ret))
def f119n : List (Nat × RAnn) := [(0, f119a0), (1, f119a1)]
noncomputable def f115o0 : Array Oper := cO (cL (cB f115))
def f115a0 : RAnn := ⟨[4], []⟩
noncomputable def f115o1 : Array Oper := cO (cL (cL (cR (cB f115))))
def f115a1 : RAnn := ⟨[], []⟩
noncomputable def f115o2 : Array Oper := cO (cL (cL (cL (cR (cL (cR (cB f115)))))))
def f115a2 : RAnn := ⟨[], []⟩
noncomputable def f115o3 : Array Oper := cO (cL (cL (cL (cR (cR (cL (cL (cR (cL (cR (cB f115)))))))))))
def f115a3 : RAnn := ⟨[10, 11, 12, 13], []⟩
noncomputable def f115o4 : Array Oper := cO (cL (cL (cR (cL (cL (cR (cR (cL (cL (cR (cL (cR (cB f115)))))))))))))
def f115a4 : RAnn := ⟨[14, 15, 16, 17, 18, 19, 20, 21, 22, 23, 24, 25, 26, 27, 28, 29, 30, 31, 32, 33, 34, 35, 36, 37, 38, 39, 40, 41], []⟩
noncomputable def f115o5 : Array Oper := cO (cL (cL (cR (cL (cR (cL (cL (cR (cR (cL (cL (cR (cL (cR (cB f115)))))))))))))))
def f115a5 : RAnn := ⟨[0, 1, 5, 6, 7, 8, 9, 42], []⟩
noncomputable def f115o6 : Array Oper := cO (cL (cR (cR (cL (cL (cR (cR (cL (cL (cR (cL (cR (cB f115)))))))))))))
def f115a6 : RAnn := ⟨[5, 6, 42, 43, 44, 45, 46], []⟩
noncomputable def f115o7 : Array Oper := cO (cL (cL (cR (cR (cR (cL (cL (cR (cR (cL (cL (cR (cL (cR (cB f115)))))))))))))))
def f115a7 : RAnn := ⟨[0, 1, 7, 8, 9, 47], []⟩
noncomputable def f115o8 : Array Oper := cO (cR (cR (cR (cL (cL (cR (cL (cR (cB f115)))))))))
def f115a8 : RAnn := ⟨[47, 48], []⟩
noncomputable def f115o9 : Array Oper := cO (cL (cR (cR (cB f115))))
def f115a9 : RAnn := ⟨[0, 1, 7, 8, 9, 10, 49, 50, 51], []⟩
def f115b0 : Code := (.seq (.region 2 f115o2 false) (.seq (.cond (.tmp 10) .skip (.exit 0)) (.seq (.block 1 (.seq (.region 3 f115o3 false) (.seq (.seq (.region 4 f115o4 false) (.cond (.tmp 42) (.seq (.region 5 f115o5 false) .ret) .skip)) (.seq (.region 6 f115o6 false) (.cond (.tmp 47) (.seq (.region 7 f115o7 false) .ret) .skip))))) (.region 8 f115o8 false))))
def f115c : Code := (.seq (.region 0 f115o0 false) (.seq (.seq (.region 1 f115o1 false) (.block 0 (.loop f115b0))) (.seq (.region 9 f115o9 false) .ret)))
def f115n : List (Nat × RAnn) := [(0, f115a0), (1, f115a1), (2, f115a2), (3, f115a3), (4, f115a4), (5, f115a5), (6, f115a6), (7, f115a7), (8, f115a8), (9, f115a9)]
noncomputable def f109o0 : Array Oper := cO (cL (cB f109))
def f109a0 : RAnn := ⟨[0, 2], []⟩
noncomputable def f109o1 : Array Oper := cO (cL (cL (cL (cR (cB f109)))))
def f109a1 : RAnn := ⟨[4, 5, 6, 7, 8, 9, 10, 11, 12, 13, 14, 15, 16, 17, 18, 19, 20, 21, 22, 23, 24, 25, 26, 27, 28, 29, 30, 31, 32], []⟩
noncomputable def f109o2 : Array Oper := cO (cL (cL (cR (cL (cL (cR (cB f109)))))))
def f109a2 : RAnn := ⟨[1, 3], []⟩
noncomputable def f109o3 : Array Oper := cO (cL (cR (cR (cL (cL (cR (cB f109)))))))
def f109a3 : RAnn := ⟨[3, 34, 35, 36], []⟩
noncomputable def f109o4 : Array Oper := cO (cL (cL (cR (cR (cR (cL (cL (cR (cB f109)))))))))
def f109a4 : RAnn := ⟨[1, 33, 37, 38, 39], []⟩
noncomputable def f109o5 : Array Oper := cO (cL (cR (cR (cR (cR (cL (cL (cR (cB f109)))))))))
def f109a5 : RAnn := ⟨[33, 41, 42, 43, 44, 45, 46, 47, 48, 49, 50, 51], []⟩
noncomputable def f109o6 : Array Oper := cO (cL (cL (cR (cR (cR (cR (cR (cL (cL (cR (cB f109)))))))))))
def f109a6 : RAnn := ⟨[1, 40], []⟩
noncomputable def f109o7 : Array Oper := cO (cL (cR (cR (cB f109))))
def f109a7 : RAnn := ⟨[1, 40, 52, 53, 54, 55, 56, 57, 58, 59, 60, 61, 62, 63, 64, 65, 66, 67, 68, 69], []⟩
def f109c : Code := (.seq (.region 0 f109o0 false) (.seq (.block 0 (.seq (.region 1 f109o1 false) (.cond (.tmp 3) (.seq (.region 2 f109o2 false) .ret) (.seq (.region 3 f109o3 false) (.cond (.tmp 33) (.seq (.region 4 f109o4 false) .ret) (.seq (.region 5 f109o5 false) (.cond (.tmp 40) (.seq (.region 6 f109o6 false) .ret) .skip))))))) (.seq (.region 7 f109o7 true) .ret)))
def f109n : List (Nat × RAnn) := [(0, f109a0), (1, f109a1), (2, f109a2), (3, f109a3), (4, f109a4), (5, f109a5), (6, f109a6), (7, f109a7)]
noncomputable def f116o0 : Array Oper := cO (cL (cB f116))
def f116a0 : RAnn := ⟨[4], []⟩
noncomputable def f116o1 : Array Oper := cO (cL (cL (cR (cB f116))))
def f116a1 : RAnn := ⟨[6], []⟩
noncomputable def f116o2 : Array Oper := cO (cL (cL (cL (cR (cL (cR (cB f116)))))))
def f116a2 : RAnn := ⟨[], []⟩
noncomputable def f116o3 : Array Oper := cO (cL (cL (cL (cR (cR (cL (cL (cR (cL (cR (cB f116)))))))))))
def f116a3 : RAnn := ⟨[9, 10], []⟩
noncomputable def f116o4 : Array Oper := cO (cL (cR (cL (cL (cR (cR (cL (cL (cR (cL (cR (cB f116))))))))))))
def f116a4 : RAnn := ⟨[11, 12, 13, 14, 15], []⟩
noncomputable def f116o5 : Array Oper := cO (cL (cL (cR (cR (cL (cL (cR (cR (cL (cL (cR (cL (cR (cB f116))))))))))))))
def f116a5 : RAnn := ⟨[0, 1, 5, 7, 8, 16, 17], []⟩
noncomputable def f116o6 : Array Oper := cO (cR (cR (cR (cL (cL (cR (cL (cR (cB f116)))))))))
def f116a6 : RAnn := ⟨[5, 16, 18], []⟩
noncomputable def f116o7 : Array Oper := cO (cL (cR (cR (cB f116))))
def f116a7 : RAnn := ⟨[0, 1, 7, 8, 9], []⟩
def f116b0 : Code := (.seq (.region 2 f116o2 false) (.seq (.cond (.tmp 9) .skip (.exit 0)) (.seq (.block 1 (.seq (.region 3 f116o3 false) (.seq (.region 4 f116o4 false) (.cond (.tmp 16) (.seq (.region 5 f116o5 false) .ret) .skip)))) (.region 6 f116o6 false))))
def f116c : Code := (.seq (.region 0 f116o0 false) (.seq (.seq (.region 1 f116o1 false) (.block 0 (.loop f116b0))) (.seq (.region 7 f116o7 false) .ret)))
def f116n : List (Nat × RAnn) := [(0, f116a0), (1, f116a1), (2, f116a2), (3, f116a3), (4, f116a4), (5, f116a5), (6, f116a6), (7, f116a7)]
noncomputable def f110o0 : Array Oper := cO (cL (cB f110))
def f110a0 : RAnn := ⟨[4], []⟩
noncomputable def f110o1 : Array Oper := cO (cL (cR (cB f110)))
def f110a1 : RAnn := ⟨[0, 1, 5, 6, 7, 8], []⟩
def f110c : Code := (.seq (.region 0 f110o0 false) (.seq (.region 1 f110o1 false) .ret))
def f110n : List (Nat × RAnn) := [(0, f110a0), (1, f110a1)]
noncomputable def f111o0 : Array Oper := cO (cL (cB f111))
def f111a0 : RAnn := ⟨[0, 3], []⟩
noncomputable def f111o1 : Array Oper := cO (cL (cR (cB f111)))
def f111a1 : RAnn := ⟨[1, 2, 4, 5, 6, 7, 8], []⟩
def f111c : Code := (.seq (.region 0 f111o0 false) (.seq (.region 1 f111o1 false) .ret))
def f111n : List (Nat × RAnn) := [(0, f111a0), (1, f111a1)]
noncomputable def f112o0 : Array Oper := cO (cL (cB f112))
def f112a0 : RAnn := ⟨[4], []⟩
noncomputable def f112o1 : Array Oper := cO (cL (cL (cR (cB f112))))
def f112a1 : RAnn := ⟨[6], []⟩
noncomputable def f112o2 : Array Oper := cO (cL (cL (cL (cR (cL (cR (cB f112)))))))
def f112a2 : RAnn := ⟨[], []⟩
noncomputable def f112o3 : Array Oper := cO (cL (cL (cL (cR (cR (cL (cL (cR (cL (cR (cB f112)))))))))))
def f112a3 : RAnn := ⟨[9, 10], []⟩
noncomputable def f112o4 : Array Oper := cO (cL (cR (cL (cL (cR (cR (cL (cL (cR (cL (cR (cB f112))))))))))))
def f112a4 : RAnn := ⟨[11, 12, 13, 14, 15], []⟩
noncomputable def f112o5 : Array Oper := cO (cL (cL (cR (cR (cL (cL (cR (cR (cL (cL (cR (cL (cR (cB f112))))))))))))))
def f112a5 : RAnn := ⟨[0, 1, 5, 7, 8, 16, 17], []⟩
noncomputable def f112o6 : Array Oper := cO (cR (cR (cR (cL (cL (cR (cL (cR (cB f112)))))))))
def f112a6 : RAnn := ⟨[5, 16, 18], []⟩
noncomputable def f112o7 : Array Oper := cO (cL (cR (cR (cB f112))))
def f112a7 : RAnn := ⟨[0, 1, 7, 8, 9], []⟩
def f112b0 : Code := (.seq (.region 2 f112o2 false) (.seq (.cond (.tmp 9) .skip (.exit 0)) (.seq (.block 1 (.seq (.region 3 f112o3 false) (.seq (.region 4 f112o4 false) (.cond (.tmp 16) (.seq (.region 5 f112o5 false) .ret) .skip)))) (.region 6 f112o6 false))))
def f112c : Code := (.seq (.region 0 f112o0 false) (.seq (.seq (.region 1 f112o1 false) (.block 0 (.loop f112b0))) (.seq (.region 7 f112o7 false) .ret)))
def f112n : List (Nat × RAnn) := [(0, f112a0), (1, f112a1), (2, f112a2), (3, f112a3), (4, f112a4), (5, f112a5), (6, f112a6), (7, f112a7)]
noncomputable def f102o0 : Array Oper := cO (cL (cB f102))
def f102a0 : RAnn := ⟨[2], []⟩
noncomputable def f102o1 : Array Oper := cO (cL (cL (cR (cB f102))))
def f102a1 : RAnn := ⟨[7, 8, 9, 10, 11, 12, 13], []⟩
noncomputable def f102o2 : Array Oper := cO (cL (cL (cR (cL (cR (cB f102))))))
def f102a2 : RAnn := ⟨[0, 14], []⟩
noncomputable def f102o3 : Array Oper := cO (cL (cR (cR (cB f102))))
def f102a3 : RAnn := ⟨[14], [(0, { site := true })]⟩
noncomputable def f102o4 : Array Oper := cO (cL (cL (cR (cR (cR (cB f102))))))
def f102a4 : RAnn := ⟨[], []⟩
noncomputable def f102o5 : Array Oper := cO (cL (cL (cL (cR (cL (cR (cR (cR (cB f102)))))))))
def f102a5 : RAnn := ⟨[], []⟩
noncomputable def f102o6 : Array Oper := cO (cL (cL (cL (cR (cR (cL (cL (cR (cL (cR (cR (cR (cB f102)))))))))))))
def f102a6 : RAnn := ⟨[18, 19, 20, 21], []⟩
noncomputable def f102o7 : Array Oper := cO (cL (cL (cR (cL (cL (cR (cR (cL (cL (cR (cL (cR (cR (cR (cB f102)))))))))))))))
def f102a7 : RAnn := ⟨[22, 23, 24, 25, 26, 27, 28, 29, 30], []⟩
noncomputable def f102o8 : Array Oper := cO (cL (cL (cR (cL (cR (cL (cL (cR (cR (cL (cL (cR (cL (cR (cR (cR (cB f102)))))))))))))))))
def f102a8 : RAnn := ⟨[0, 3, 4, 5, 15, 16, 17, 31], []⟩
noncomputable def f102o9 : Array Oper := cO (cL (cR (cR (cL (cL (cR (cR (cL (cL (cR (cL (cR (cR (cR (cB f102)))))))))))))))
def f102a9 : RAnn := ⟨[31, 32, 33, 34, 35], []⟩
noncomputable def f102o10 : Array Oper := cO (cL (cL (cR (cR (cR (cL (cL (cR (cR (cL (cL (cR (cL (cR (cR (cR (cB f102)))))))))))))))))
def f102a10 : RAnn := ⟨[5, 36, 37, 38, 39, 40, 41, 42, 43, 44, 45, 46, 47, 48, 49, 50, 51, 52, 53, 54, 55, 56, 57, 58, 59, 60, 61, 62, 63, 64, 65, 66, 67, 68, 69], []⟩
noncomputable def f102o11 : Array Oper := cO (cL (cL (cR (cL (cR (cR (cR (cL (cL (cR (cR (cL (cL (cR (cL (cR (cR (cR (cB f102)))))))))))))))))))
def f102a11 : RAnn := ⟨[0, 3, 4, 6, 15, 16, 17, 70], []⟩
noncomputable def f102o12 : Array Oper := cO (cL (cR (cR (cR (cR (cL (cL (cR (cR (cL (cL (cR (cL (cR (cR (cR (cB f102)))))))))))))))))
def f102a12 : RAnn := ⟨[4, 6, 70, 71, 72, 73, 74, 75, 76, 77], []⟩
noncomputable def f102o13 : Array Oper := cO (cL (cR (cR (cR (cR (cR (cL (cL (cR (cR (cL (cL (cR (cL (cR (cR (cR (cB f102))))))))))))))))))
def f102a13 : RAnn := ⟨[78, 79], []⟩
noncomputable def f102o14 : Array Oper := cO (cL (cL (cR (cR (cR (cR (cR (cR (cL (cL (cR (cR (cL (cL (cR (cL (cR (cR (cR (cB f102))))))))))))))))))))
def f102a14 : RAnn := ⟨[0, 3, 15, 16, 17, 80], []⟩
noncomputable def f102o15 : Array Oper := cO (cR (cR (cR (cL (cL (cR (cL (cR (cR (cR (cB f102)))))))))))
def f102a15 : RAnn := ⟨[80, 81], []⟩
noncomputable def f102o16 : Array Oper := cO (cL (cR (cR (cR (cR (cB f102))))))
def f102a16 : RAnn := ⟨[0, 3, 15, 16, 17, 18], []⟩
def f102b0 : Code := (.seq (.region 5 f102o5 false) (.seq (.cond (.tmp 18) .skip (.exit 0)) (.seq (.block 1 (.seq (.region 6 f102o6 false) (.seq (.seq (.region 7 f102o7 false) (.cond (.tmp 31) (.seq (.region 8 f102o8 false) .ret) .skip)) (.seq (.region 9 f102o9 false) (.seq (.seq (.region 10 f102o10 false) (.cond (.tmp 70) (.seq (.region 11 f102o11 false) .ret) .skip)) (.seq (.region 12 f102o12 false) (.seq (.region 13 f102o13 false) (.cond (.tmp 80) (.seq (.region 14 f102o14 false) .ret) .skip)))))))) (.region 15 f102o15 false))))
def f102c : Code := (.seq (.region 0 f102o0 false) (.seq (.seq (.region 1 f102o1 false) (.cond (.tmp 14) (.seq (.region 2 f102o2 false) .ret) .skip)) (.seq (.region 3 f102o3 false) (.seq (.seq (.region 4 f102o4 false) (.block 0 (.loop f102b0))) (.seq (.region 16 f102o16 false) .ret)))))
def f102n : List (Nat × RAnn) := [(0, f102a0), (1, f102a1), (2, f102a2), (3, f102a3), (4, f102a4), (5, f102a5), (6, f102a6), (7, f102a7), (8, f102a8), (9, f102a9), (10, f102a10), (11, f102a11), (12, f102a12), (13, f102a13), (14, f102a14), (15, f102a15), (16, f102a16)]
noncomputable def f117o0 : Array Oper := cO (cL (cB f117))
def f117a0 : RAnn := ⟨[4], []⟩
noncomputable def f117o1 : Array Oper := cO (cL (cL (cR (cB f117))))
def f117a1 : RAnn := ⟨[6], []⟩
noncomputable def f117o2 : Array Oper := cO (cL (cL (cL (cR (cL (cR (cB f117)))))))
def f117a2 : RAnn := ⟨[], []⟩
noncomputable def f117o3 : Array Oper := cO (cL (cL (cL (cR (cR (cL (cL (cR (cL (cR (cB f117)))))))))))
def f117a3 : RAnn := ⟨[9, 10], []⟩
noncomputable def f117o4 : Array Oper := cO (cL (cR (cL (cL (cR (cR (cL (cL (cR (cL (cR (cB f117))))))))))))
def f117a4 : RAnn := ⟨[11, 12, 13, 14, 15], []⟩
noncomputable def f117o5 : Array Oper := cO (cL (cL (cR (cR (cL (cL (cR (cR (cL (cL (cR (cL (cR (cB f117))))))))))))))
def f117a5 : RAnn := ⟨[0, 1, 5, 7, 8, 16, 17], []⟩
noncomputable def f117o6 : Array Oper := cO (cR (cR (cR (cL (cL (cR (cL (cR (cB f117)))))))))
def f117a6 : RAnn := ⟨[5, 16, 18], []⟩
noncomputable def f117o7 : Array Oper := cO (cL (cR (cR (cB f117))))
def f117a7 : RAnn := ⟨[0, 1, 7, 8, 9], []⟩
def f117b0 : Code := (.seq (.region 2 f117o2 false) (.seq (.cond (.tmp 9) .skip (.exit 0)) (.seq (.block 1 (.seq (.region 3 f117o3 false) (.seq (.region 4 f117o4 false) (.cond (.tmp 16) (.seq (.region 5 f117o5 false) .ret) .skip)))) (.region 6 f117o6 false))))
def f117c : Code := (.seq (.region 0 f117o0 false) (.seq (.seq (.region 1 f117o1 false) (.block 0 (.loop f117b0))) (.seq (.region 7 f117o7 false) .ret)))
def f117n : List (Nat × RAnn) := [(0, f117a0), (1, f117a1), (2, f117a2), (3, f117a3), (4, f117a4), (5, f117a5), (6, f117a6), (7, f117a7)]
noncomputable def f113o0 : Array Oper := cO (cL (cB f113))
def f113a0 : RAnn := ⟨[4], []⟩
noncomputable def f113o1 : Array Oper := cO (cL (cR (cB f113)))
def f113a1 : RAnn := ⟨[0, 1, 5, 6, 7, 8], []⟩
def f113c : Code := (.seq (.region 0 f113o0 false) (.seq (.region 1 f113o1 false) .ret))
def f113n : List (Nat × RAnn) := [(0, f113a0), (1, f113a1)]
noncomputable def f114o0 : Array Oper := cO (cL (cB f114))
def f114a0 : RAnn := ⟨[0, 3], []⟩
noncomputable def f114o1 : Array Oper := cO (cL (cR (cB f114)))
def f114a1 : RAnn := ⟨[1, 2, 4, 5, 6, 7, 8], []⟩
def f114c : Code := (.seq (.region 0 f114o0 false) (.seq (.region 1 f114o1 false) .ret))
def f114n : List (Nat × RAnn) := [(0, f114a0), (1, f114a1)]
noncomputable def f103o0 : Array Oper := cO (cL (cB f103))
def f103a0 : RAnn := ⟨[4], []⟩
noncomputable def f103o1 : Array Oper := cO (cL (cL (cR (cB f103))))
def f103a1 : RAnn := ⟨[], []⟩
noncomputable def f103o2 : Array Oper := cO (cL (cL (cL (cR (cL (cR (cB f103)))))))
def f103a2 : RAnn := ⟨[], []⟩
noncomputable def f103o3 : Array Oper := cO (cL (cL (cL (cR (cR (cL (cL (cR (cL (cR (cB f103)))))))))))
def f103a3 : RAnn := ⟨[11, 12, 13, 14], []⟩
noncomputable def f103o4 : Array Oper := cO (cL (cL (cR (cL (cL (cR (cR (cL (cL (cR (cL (cR (cB f103)))))))))))))
def f103a4 : RAnn := ⟨[5, 15, 16, 17, 18, 19, 20, 21, 22, 23, 24, 25, 26, 27, 28, 29, 30, 31, 32, 33, 34, 35, 36, 37, 38, 39, 40, 41, 42], []⟩
noncomputable def f103o5 : Array Oper := cO (cL (cL (cR (cL (cR (cL (cL (cR (cR (cL (cL (cR (cL (cR (cB f103)))))))))))))))
def f103a5 : RAnn := ⟨[0, 1, 6, 8, 9, 10, 43], []⟩
noncomputable def f103o6 : Array Oper := cO (cL (cR (cR (cL (cL (cR (cR (cL (cL (cR (cL (cR (cB f103)))))))))))))
def f103a6 : RAnn := ⟨[43, 44, 45, 46, 47, 48, 49], []⟩
noncomputable def f103o7 : Array Oper := cO (cL (cR (cR (cR (cL (cL (cR (cR (cL (cL (cR (cL (cR (cB f103))))))))))))))
def f103a7 : RAnn := ⟨[6, 7, 50, 51, 52, 53, 54, 55, 56, 57, 58, 59, 60, 61, 62, 63, 64, 65, 66, 67], []⟩
noncomputable def f103o8 : Array Oper := cO (cL (cL (cR (cR (cR (cR (cL (cL (cR (cR (cL (cL (cR (cL (cR (cB f103))))))))))))))))
def f103a8 : RAnn := ⟨[0, 1, 8, 9, 10, 68], []⟩
noncomputable def f103o9 : Array Oper := cO (cR (cR (cR (cL (cL (cR (cL (cR (cB f103)))))))))
def f103a9 : RAnn := ⟨[68, 69], []⟩
noncomputable def f103o10 : Array Oper := cO (cL (cR (cR (cB f103))))
def f103a10 : RAnn := ⟨[0, 1, 8, 9, 10, 11, 70, 71, 72], []⟩
def f103b0 : Code := (.seq (.region 2 f103o2 false) (.seq (.cond (.tmp 11) .skip (.exit 0)) (.seq (.block 1 (.seq (.region 3 f103o3 false) (.seq (.seq (.region 4 f103o4 false) (.cond (.tmp 43) (.seq (.region 5 f103o5 false) .ret) .skip)) (.seq (.region 6 f103o6 false) (.seq (.region 7 f103o7 false) (.cond (.tmp 68) (.seq (.region 8 f103o8 false) .ret) .skip)))))) (.region 9 f103o9 false))))
def f103c : Code := (.seq (.region 0 f103o0 false) (.seq (.seq (.region 1 f103o1 false) (.block 0 (.loop f103b0))) (.seq (.region 10 f103o10 false) .ret)))
def f103n : List (Nat × RAnn) := [(0, f103a0), (1, f103a1), (2, f103a2), (3, f103a3), (4, f103a4), (5, f103a5), (6, f103a6), (7, f103a7), (8, f103a8), (9, f103a9), (10, f103a10)]
noncomputable def f90o0 : Array Oper := cO (cL (cB f90))
def f90a0 : RAnn := ⟨[0, 2], []⟩
noncomputable def f90o1 : Array Oper := cO (cL (cR (cB f90)))
def f90a1 : RAnn := ⟨[1, 3, 4, 5, 6, 7, 8, 9, 10, 11, 12, 13, 14, 15, 16, 17, 18, 19, 20, 21, 22, 23, 24, 25, 26, 27], []⟩
def f90c : Code := (.seq (.region 0 f90o0 false) (.seq (.region 1 f90o1 false) .ret))
def f90n : List (Nat × RAnn) := [(0, f90a0), (1, f90a1)]
noncomputable def f104o0 : Array Oper := cO (cL (cB f104))
def f104a0 : RAnn := ⟨[4], []⟩
noncomputable def f104o1 : Array Oper := cO (cL (cL (cR (cB f104))))
def f104a1 : RAnn := ⟨[6], []⟩
noncomputable def f104o2 : Array Oper := cO (cL (cL (cL (cR (cL (cR (cB f104)))))))
def f104a2 : RAnn := ⟨[], []⟩
noncomputable def f104o3 : Array Oper := cO (cL (cL (cL (cR (cR (cL (cL (cR (cL (cR (cB f104)))))))))))
def f104a3 : RAnn := ⟨[9, 10], []⟩
noncomputable def f104o4 : Array Oper := cO (cL (cR (cL (cL (cR (cR (cL (cL (cR (cL (cR (cB f104))))))))))))
def f104a4 : RAnn := ⟨[11, 12, 13, 14, 15], []⟩
noncomputable def f104o5 : Array Oper := cO (cL (cL (cR (cR (cL (cL (cR (cR (cL (cL (cR (cL (cR (cB f104))))))))))))))
def f104a5 : RAnn := ⟨[0, 1, 5, 7, 8, 16, 17], []⟩
noncomputable def f104o6 : Array Oper := cO (cR (cR (cR (cL (cL (cR (cL (cR (cB f104)))))))))
def f104a6 : RAnn := ⟨[5, 16, 18], []⟩
noncomputable def f104o7 : Array Oper := cO (cL (cR (cR (cB f104))))
def f104a7 : RAnn := ⟨[0, 1, 7, 8, 9], []⟩
def f104b0 : Code := (.seq (.region 2 f104o2 false) (.seq (.cond (.tmp 9) .skip (.exit 0)) (.seq (.block 1 (.seq (.region 3 f104o3 false) (.seq (.region 4 f104o4 false) (.cond (.tmp 16) (.seq (.region 5 f104o5 false) .ret) .skip)))) (.region 6 f104o6 false))))
def f104c : Code := (.seq (.region 0 f104o0 false) (.seq (.seq (.region 1 f104o1 false) (.block 0 (.loop f104b0))) (.seq (.region 7 f104o7 false) .ret)))
def f104n : List (Nat × RAnn) := [(0, f104a0), (1, f104a1), (2, f104a2), (3, f104a3), (4, f104a4), (5, f104a5), (6, f104a6), (7, f104a7)]
noncomputable def f91o0 : Array Oper := cO (cL (cB f91))
def f91a0 : RAnn := ⟨[4], []⟩
noncomputable def f91o1 : Array Oper := cO (cL (cR (cB f91)))
def f91a1 : RAnn := ⟨[0, 1, 5, 6, 7, 8], []⟩
def f91c : Code := (.seq (.region 0 f91o0 false) (.seq (.region 1 f91o1 false) .ret))
def f91n : List (Nat × RAnn) := [(0, f91a0), (1, f91a1)]
noncomputable def f92o0 : Array Oper := cO (cL (cB f92))
def f92a0 : RAnn := ⟨[3], []⟩
noncomputable def f92o1 : Array Oper := cO (cL (cR (cB f92)))
def f92a1 : RAnn := ⟨[0, 1, 4, 5, 6, 7, 8, 9, 10, 11, 12], []⟩
def f92c : Code := (.seq (.region 0 f92o0 false) (.seq (.region 1 f92o1 false) .ret))
def f92n : List (Nat × RAnn) := [(0, f92a0), (1, f92a1)]
noncomputable def f66o0 : Array Oper := cO (cL (cB f66))
def f66a0 : RAnn := ⟨[0, 4], []⟩
noncomputable def f66o1 : Array Oper := cO (cL (cL (cL (cR (cB f66)))))
def f66a1 : RAnn := ⟨[6, 7, 8], []⟩
noncomputable def f66o2 : Array Oper := cO (cL (cL (cR (cL (cL (cR (cB f66)))))))
def f66a2 : RAnn := ⟨[1, 2, 5], []⟩
noncomputable def f66o3 : Array Oper := cO (cL (cR (cR (cL (cL (cR (cB f66)))))))
def f66a3 : RAnn := ⟨[1, 2, 5, 10, 11, 12], []⟩
noncomputable def f66o4 : Array Oper := cO (cL (cL (cR (cR (cR (cL (cL (cR (cB f66)))))))))
def f66a4 : RAnn := ⟨[9], []⟩
noncomputable def f66o5 : Array Oper := cO (cL (cR (cR (cB f66))))
def f66a5 : RAnn := ⟨[9], []⟩
def f66c : Code := (.seq (.region 0 f66o0 false) (.seq (.block 0 (.seq (.region 1 f66o1 false) (.cond (.tmp 5) (.seq (.region 2 f66o2 false) .ret) (.seq (.region 3 f66o3 false) (.cond (.tmp 9) (.seq (.region 4 f66o4 false) .ret) .skip))))) (.seq (.region 5 f66o5 false) .ret)))
def f66n : List (Nat × RAnn) := [(0, f66a0), (1, f66a1), (2, f66a2), (3, f66a3), (4, f66a4), (5, f66a5)]
noncomputable def f100o0 : Array Oper := cO (cL (cB f100))
def f100a0 : RAnn := ⟨[0, 4], []⟩
noncomputable def f100o1 : Array Oper := cO (cL (cR (cB f100)))
def f100a1 : RAnn := ⟨[], [(0, { site := true })]⟩
noncomputable def f100o2 : Array Oper := cO (cL (cL (cL (cL (cL (cR (cR (cB f100))))))))
def f100a2 : RAnn := ⟨[6], []⟩
noncomputable def f100o3 : Array Oper := cO (cR (cR (cL (cL (cL (cR (cR (cB f100))))))))
def f100a3 : RAnn := ⟨[8, 9, 10, 11, 12, 13], []⟩
noncomputable def f100o4 : Array Oper := cO (cL (cL (cR (cL (cL (cL (cR (cR (cB f100)))))))))
def f100a4 : RAnn := ⟨[7, 14, 15, 16, 17], []⟩
noncomputable def f100o5 : Array Oper := cO (cL (cR (cR (cR (cB f100)))))
def f100a5 : RAnn := ⟨[1, 2, 7, 18, 19], [(1, { eff := true })]⟩
noncomputable def f100o6 : Array Oper := cO (cL (cR (cR (cR (cR (cB f100))))))
def f100a6 : RAnn := ⟨[5, 20], [(1, { close := true })]⟩
def f100b0 : Code := (.seq (.seq (.region 2 f100o2 false) (.cond (.tmp 7) .skip (.exit 0))) (.seq (.block 1 (.region 4 f100o4 false)) (.region 3 f100o3 false)))
def f100c : Code := (.seq (.region 0 f100o0 false) (.seq (.region 1 f100o1 false) (.seq (.block 0 (.loop f100b0)) (.seq (.region 5 f100o5 false) (.seq (.region 6 f100o6 false) .ret)))))
def f100n : List (Nat × RAnn) := [(0, f100a0), (1, f100a1), (2, f100a2), (3, f100a3), (4, f100a4), (5, f100a5), (6, f100a6)]
noncomputable def f85o0 : Array Oper := cO (cL (cB f85))
def f85a0 : RAnn := ⟨[0, 4, 5], []⟩
noncomputable def f85o1 : Array Oper := cO (cL (cL (cR (cB f85))))
def f85a1 : RAnn := ⟨[7, 8, 9, 10], []⟩
noncomputable def f85o2 : Array Oper := cO (cL (cR (cL (cR (cB f85)))))
def f85a2 : RAnn := ⟨[11], []⟩
noncomputable def f85o3 : Array Oper := cO (cL (cL (cR (cR (cL (cR (cB f85)))))))
def f85a3 : RAnn := ⟨[1, 2, 6, 12, 13], []⟩
noncomputable def f85o4 : Array Oper := cO (cL (cR (cR (cB f85))))
def f85a4 : RAnn := ⟨[1, 2, 6, 12, 14, 15, 16], []⟩
def f85c : Code := (.seq (.region 0 f85o0 false) (.seq (.seq (.region 1 f85o1 false) (.seq (.region 2 f85o2 false) (.cond (.tmp 12) (.seq (.region 3 f85o3 false) .ret) .skip))) (.seq (.region 4 f85o4 false) .ret)))
def f85n : List (Nat × RAnn) := [(0, f85a0), (1, f85a1), (2, f85a2), (3, f85a3), (4, f85a4)]
noncomputable def f60o0 : Array Oper := cO (cL (cB f60))
def f60a0 : RAnn := ⟨[0, 4, 5], []⟩
noncomputable def f60o1 : Array Oper := cO (cL (cR (cB f60)))
def f60a1 : RAnn := ⟨[1, 2, 8, 9, 10, 11, 12, 13], []⟩
noncomputable def f60o2 : Array Oper := cO (cL (cR (cR (cB f60))))
def f60a2 : RAnn := ⟨[6, 7, 14, 15, 16], []⟩
def f60c : Code := (.seq (.region 0 f60o0 false) (.seq (.region 1 f60o1 false) (.seq (.region 2 f60o2 false) .ret)))
def f60n : List (Nat × RAnn) := [(0, f60a0), (1, f60a1), (2, f60a2)]
noncomputable def f33o0 : Array Oper := cO (cL (cB f33))
def f33a0 : RAnn := ⟨[0, 4], []⟩
noncomputable def f33o1 : Array Oper := cO (cL (cR (cB f33)))
def f33a1 : RAnn := ⟨[1, 2, 5, 7, 8, 9, 10, 11, 12], []⟩
noncomputable def f33o2 : Array Oper := cO (cL (cR (cR (cB f33))))
def f33a2 : RAnn := ⟨[6, 13], []⟩
def f33c : Code := (.seq (.region 0 f33o0 false) (.seq (.region 1 f33o1 false) (.seq (.region 2 f33o2 false) .ret)))
def f33n : List (Nat × RAnn) := [(0, f33a0), (1, f33a1), (2, f33a2)]
noncomputable def f84o0 : Array Oper := cO (cL (cB f84))
def f84a0 : RAnn := ⟨[4], []⟩
noncomputable def f84o1 : Array Oper := cO (cL (cL (cR (cB f84))))
def f84a1 : RAnn := ⟨[6], []⟩
noncomputable def f84o2 : Array Oper := cO (cL (cL (cL (cR (cL (cR (cB f84)))))))
def f84a2 : RAnn := ⟨[], []⟩
noncomputable def f84o3 : Array Oper := cO (cL (cL (cL (cR (cR (cL (cL (cR (cL (cR (cB f84)))))))))))
def f84a3 : RAnn := ⟨[9, 10], []⟩
noncomputable def f84o4 : Array Oper := cO (cL (cR (cL (cL (cR (cR (cL (cL (cR (cL (cR (cB f84))))))))))))
def f84a4 : RAnn := ⟨[11, 12, 13, 14, 15], []⟩
noncomputable def f84o5 : Array Oper := cO (cL (cL (cR (cR (cL (cL (cR (cR (cL (cL (cR (cL (cR (cB f84))))))))))))))
def f84a5 : RAnn := ⟨[0, 1, 5, 7, 8, 16, 17], []⟩
noncomputable def f84o6 : Array Oper := cO (cR (cR (cR (cL (cL (cR (cL (cR (cB f84)))))))))
def f84a6 : RAnn := ⟨[5, 16, 18], []⟩
noncomputable def f84o7 : Array Oper := cO (cL (cR (cR (cB f84))))
def f84a7 : RAnn := ⟨[0, 1, 7, 8, 9], []⟩
def f84b0 : Code := (.seq (.region 2 f84o2 false) (.seq (.cond (.tmp 9) .skip (.exit 0)) (.seq (.block 1 (.seq (.region 3 f84o3 false) (.seq (.region 4 f84o4 false) (.cond (.tmp 16) (.seq (.region 5 f84o5 false) .ret) .skip)))) (.region 6 f84o6 false))))
def f84c : Code := (.seq (.region 0 f84o0 false) (.seq (.seq (.region 1 f84o1 false) (.block 0 (.loop f84b0))) (.seq (.region 7 f84o7 false) .ret)))
def f84n : List (Nat × RAnn) := [(0, f84a0), (1, f84a1), (2, f84a2), (3, f84a3), (4, f84a4), (5, f84a5), (6, f84a6), (7, f84a7)]
noncomputable def f58o0 : Array Oper := cO (cL (cB f58))
def f58a0 : RAnn := ⟨[4], []⟩
noncomputable def f58o1 : Array Oper := cO (cL (cR (cB f58)))
def f58a1 : RAnn := ⟨[0, 1, 5, 6, 7, 8], []⟩
def f58c : Code := (.seq (.region 0 f58o0 false) (.seq (.region 1 f58o1 false) .ret))
def f58n : List (Nat × RAnn) := [(0, f58a0), (1, f58a1)]
noncomputable def f72o0 : Array Oper := cO (cL (cB f72))
def f72a0 : RAnn := ⟨[4], []⟩
noncomputable def f72o1 : Array Oper := cO (cL (cL (cR (cB f72))))
def f72a1 : RAnn := ⟨[6], []⟩
noncomputable def f72o2 : Array Oper := cO (cL (cL (cL (cR (cL (cR (cB f72)))))))
def f72a2 : RAnn := ⟨[], []⟩
noncomputable def f72o3 : Array Oper := cO (cL (cL (cL (cR (cR (cL (cL (cR (cL (cR (cB f72)))))))))))
def f72a3 : RAnn := ⟨[9, 10], []⟩
noncomputable def f72o4 : Array Oper := cO (cL (cR (cL (cL (cR (cR (cL (cL (cR (cL (cR (cB f72))))))))))))
def f72a4 : RAnn := ⟨[11, 12, 13, 14, 15], []⟩
noncomputable def f72o5 : Array Oper := cO (cL (cL (cR (cR (cL (cL (cR (cR (cL (cL (cR (cL (cR (cB f72))))))))))))))
def f72a5 : RAnn := ⟨[0, 1, 5, 7, 8, 16, 17], []⟩
noncomputable def f72o6 : Array Oper := cO (cR (cR (cR (cL (cL (cR (cL (cR (cB f72)))))))))
def f72a6 : RAnn := ⟨[5, 16, 18], []⟩
noncomputable def f72o7 : Array Oper := cO (cL (cR (cR (cB f72))))
def f72a7 : RAnn := ⟨[0, 1, 7, 8, 9], []⟩
def f72b0 : Code := (.seq (.region 2 f72o2 false) (.seq (.cond (.tmp 9) .skip (.exit 0)) (.seq (.block 1 (.seq (.region 3 f72o3 false) (.seq (.region 4 f72o4 false) (.cond (.tmp 16) (.seq (.region 5 f72o5 false) .ret) .skip)))) (.region 6 f72o6 false))))
def f72c : Code := (.seq (.region 0 f72o0 false) (.seq (.seq (.region 1 f72o1 false) (.block 0 (.loop f72b0))) (.seq (.region 7 f72o7 false) .ret)))
def f72n : List (Nat × RAnn) := [(0, f72a0), (1, f72a1), (2, f72a2), (3, f72a3), (4, f72a4), (5, f72a5), (6, f72a6), (7, f72a7)]
noncomputable def f44o0 : Array Oper := cO (cL (cB f44))
def f44a0 : RAnn := ⟨[4], []⟩
noncomputable def f44o1 : Array Oper := cO (cL (cR (cB f44)))
def f44a1 : RAnn := ⟨[0, 1, 5, 6, 7, 8], []⟩
def f44c : Code := (.seq (.region 0 f44o0 false) (.seq (.region 1 f44o1 false) .ret))
def f44n : List (Nat × RAnn) := [(0, f44a0), (1, f44a1)]
noncomputable def f71o0 : Array Oper := cO (cL (cB f71))
def f71a0 : RAnn := ⟨[4], []⟩
noncomputable def f71o1 : Array Oper := cO (cL (cL (cR (cB f71))))
def f71a1 : RAnn := ⟨[6], []⟩
noncomputable def f71o2 : Array Oper := cO (cL (cL (cL (cR (cL (cR (cB f71)))))))
def f71a2 : RAnn := ⟨[], []⟩
noncomputable def f71o3 : Array Oper := cO (cL (cL (cL (cR (cR (cL (cL (cR (cL (cR (cB f71)))))))))))
def f71a3 : RAnn := ⟨[9, 10], []⟩
noncomputable def f71o4 : Array Oper := cO (cL (cR (cL (cL (cR (cR (cL (cL (cR (cL (cR (cB f71))))))))))))
def f71a4 : RAnn := ⟨[11, 12, 13, 14, 15], []⟩
noncomputable def f71o5 : Array Oper := cO (cL (cL (cR (cR (cL (cL (cR (cR (cL (cL (cR (cL (cR (cB f71))))))))))))))
def f71a5 : RAnn := ⟨[0, 1, 5, 7, 8, 16, 17], []⟩
noncomputable def f71o6 : Array Oper := cO (cR (cR (cR (cL (cL (cR (cL (cR (cB f71)))))))))
def f71a6 : RAnn := ⟨[5, 16, 18], []⟩
noncomputable def f71o7 : Array Oper := cO (cL (cR (cR (cB f71))))
def f71a7 : RAnn := ⟨[0, 1, 7, 8, 9], []⟩
def f71b0 : Code := (.seq (.region 2 f71o2 false) (.seq (.cond (.tmp 9) .skip (.exit 0)) (.seq (.block 1 (.seq (.region 3 f71o3 false) (.seq (.region 4 f71o4 false) (.cond (.tmp 16) (.seq (.region 5 f71o5 false) .ret) .skip)))) (.region 6 f71o6 false))))
def f71c : Code := (.seq (.region 0 f71o0 false) (.seq (.seq (.region 1 f71o1 false) (.block 0 (.loop f71b0))) (.seq (.region 7 f71o7 false) .ret)))
def f71n : List (Nat × RAnn) := [(0, f71a0), (1, f71a1), (2, f71a2), (3, f71a3), (4, f71a4), (5, f71a5), (6, f71a6), (7, f71a7)]
noncomputable def f42o0 : Array Oper := cO (cL (cB f42))
def f42a0 : RAnn := ⟨[4], []⟩
noncomputable def f42o1 : Array Oper := cO (cL (cR (cB f42)))
def f42a1 : RAnn := ⟨[0, 1, 5, 6, 7, 8], []⟩
def f42c : Code := (.seq (.region 0 f42o0 false) (.seq (.region 1 f42o1 false) .ret))
def f42n : List (Nat × RAnn) := [(0, f42a0), (1, f42a1)]
noncomputable def f69o0 : Array Oper := cO (cL (cB f69))
def f69a0 : RAnn := ⟨[0, 3], []⟩
noncomputable def f69o1 : Array Oper := cO (cL (cR (cB f69)))
def f69a1 : RAnn := ⟨[1, 2, 4, 5, 6, 7], []⟩
def f69c : Code := (.seq (.region 0 f69o0 false) (.seq (.region 1 f69o1 false) .ret))
def f69n : List (Nat × RAnn) := [(0, f69a0), (1, f69a1)]
noncomputable def f39o0 : Array Oper := cO (cL (cB f39))
def f39a0 : RAnn := ⟨[0, 1, 4, 5], []⟩
noncomputable def f39o1 : Array Oper := cO (cL (cR (cB f39)))
def f39a1 : RAnn := ⟨[2, 3, 7, 8, 9, 10], []⟩
noncomputable def f39o2 : Array Oper := cO (cL (cR (cR (cB f39))))
def f39a2 : RAnn := ⟨[6, 11, 12, 13], []⟩
def f39c : Code := (.seq (.region 0 f39o0 false) (.seq (.region 1 f39o1 false) (.seq (.region 2 f39o2 false) .ret)))
def f39n : List (Nat × RAnn) := [(0, f39a0), (1, f39a1), (2, f39a2)]
noncomputable def f63o0 : Array Oper := cO (cL (cB f63))
def f63a0 : RAnn := ⟨[0, 1, 4], []⟩
noncomputable def f63o1 : Array Oper := cO (cL (cR (cB f63)))
def f63a1 : RAnn := ⟨[7, 8, 9, 10, 11, 12, 13], []⟩
noncomputable def f63o2 : Array Oper := cO (cL (cR (cR (cB f63))))
def f63a2 : RAnn := ⟨[2, 3, 5, 6, 14, 15, 16, 17, 18, 19, 20, 21, 22, 23, 24, 25, 26, 27, 28, 29, 30, 31, 32, 33, 34, 35, 36], []⟩
def f63c : Code := (.seq (.region 0 f63o0 false) (.seq (.region 1 f63o1 false) (.seq (.region 2 f63o2 true) .ret)))
def f63n : List (Nat × RAnn) := [(0, f63a0), (1, f63a1), (2, f63a2)]
noncomputable def f62o0 : Array Oper := cO (cL (cB f62))
def f62a0 : RAnn := ⟨[0, 3], []⟩
noncomputable def f62o1 : Array Oper := cO (cL (cR (cB f62)))
def f62a1 : RAnn := ⟨[1, 2, 4, 5, 6, 7], []⟩
def f62c : Code := (.seq (.region 0 f62o0 false) (.seq (.region 1 f62o1 false) .ret))
def f62n : List (Nat × RAnn) := [(0, f62a0), (1, f62a1)]
noncomputable def f61o0 : Array Oper := cO (cL (cB f61))
def f61a0 : RAnn := ⟨[3], []⟩
noncomputable def f61o1 : Array Oper := cO (cL (cR (cB f61)))
def f61a1 : RAnn := ⟨[0, 1, 4, 5, 6, 7, 8, 9, 10, 11, 12, 13, 14, 15, 16], []⟩
def f61c : Code := (.seq (.region 0 f61o0 false) (.seq (.region 1 f61o1 false) .ret))
def f61n : List (Nat × RAnn) := [(0, f61a0), (1, f61a1)]
noncomputable def f34o0 : Array Oper := cO (cL (cB f34))
def f34a0 : RAnn := ⟨[0, 4], []⟩
noncomputable def f34o1 : Array Oper := cO (cL (cR (cB f34)))
def f34a1 : RAnn := ⟨[1, 2, 5, 6, 7, 8, 9, 10, 11, 12, 13], []⟩
def f34c : Code := (.seq (.region 0 f34o0 false) (.seq (.region 1 f34o1 false) .ret))
def f34n : List (Nat × RAnn) := [(0, f34a0), (1, f34a1)]
noncomputable def f59o0 : Array Oper := cO (cL (cB f59))
def f59a0 : RAnn := ⟨[3], []⟩
noncomputable def f59o1 : Array Oper := cO (cL (cR (cB f59)))
def f59a1 : RAnn := ⟨[0, 1, 4, 5, 6, 7], []⟩
def f59c : Code := (.seq (.region 0 f59o0 false) (.seq (.region 1 f59o1 false) .ret))
def f59n : List (Nat × RAnn) := [(0, f59a0), (1, f59a1)]
noncomputable def f29o0 : Array Oper := cO (cL (cB f29))
def f29a0 : RAnn := ⟨[0, 7], []⟩
noncomputable def f29o1 : Array Oper := cO (cL (cL (cR (cB f29))))
def f29a1 : RAnn := ⟨[10, 11, 12], []⟩
noncomputable def f29o2 : Array Oper := cO (cL (cR (cL (cR (cB f29)))))
def f29a2 : RAnn := ⟨[13], []⟩
noncomputable def f29o3 : Array Oper := cO (cL (cL (cR (cR (cL (cR (cB f29)))))))
def f29a3 : RAnn := ⟨[1, 2, 3, 8, 14, 15, 16], []⟩
noncomputable def f29o4 : Array Oper := cO (cL (cR (cR (cB f29))))
def f29a4 : RAnn := ⟨[1, 3, 8, 14, 17, 18, 19, 20, 21], []⟩
noncomputable def f29o5 : Array Oper := cO (cL (cL (cR (cR (cR (cB f29))))))
def f29a5 : RAnn := ⟨[2, 22, 23], []⟩
noncomputable def f29o6 : Array Oper := cO (cL (cL (cR (cL (cR (cR (cR (cB f29))))))))
def f29a6 : RAnn := ⟨[9, 24, 25], []⟩
noncomputable def f29o7 : Array Oper := cO (cL (cR (cR (cR (cR (cB f29))))))
def f29a7 : RAnn := ⟨[9, 24, 26], []⟩
def f29c : Code := (.seq (.region 0 f29o0 false) (.seq (.seq (.region 1 f29o1 false) (.seq (.region 2 f29o2 false) (.cond (.tmp 14) (.seq (.region 3 f29o3 false) .ret) .skip))) (.seq (.region 4 f29o4 false) (.seq (.seq (.region 5 f29o5 false) (.cond (.tmp 24) (.seq (.region 6 f29o6 false) .ret) .skip)) (.seq (.region 7 f29o7 false) .ret)))))
def f29n : List (Nat × RAnn) := [(0, f29a0), (1, f29a1), (2, f29a2), (3, f29a3), (4, f29a4), (5, f29a5), (6, f29a6), (7, f29a7)]
noncomputable def f56o0 : Array Oper := cO (cL (cB f56))
def f56a0 : RAnn := ⟨[2], []⟩
noncomputable def f56o1 : Array Oper := cO (cL (cR (cB f56)))
def f56a1 : RAnn := ⟨[0, 3, 4, 5, 6], []⟩
def f56c : Code := (.seq (.region 0 f56o0 false) (.seq (.region 1 f56o1 false) .ret))
def f56n : List (Nat × RAnn) := [(0, f56a0), (1, f56a1)]
noncomputable def f28o0 : Array Oper := cO (cL (cB f28))
def f28a0 : RAnn := ⟨[0, 6, 7], []⟩
noncomputable def f28o1 : Array Oper := cO (cL (cL (cR (cB f28))))
def f28a1 : RAnn := ⟨[1, 3, 8, 16, 17, 18, 19, 20, 21, 22, 23], []⟩
noncomputable def f28o2 : Array Oper := cO (cL (cR (cL (cR (cB f28)))))
def f28a2 : RAnn := ⟨[24], []⟩
noncomputable def f28o3 : Array Oper := cO (cL (cL (cR (cR (cL (cR (cB f28)))))))
def f28a3 : RAnn := ⟨[2, 9, 25, 26], []⟩
noncomputable def f28o4 : Array Oper := cO (cL (cR (cR (cB f28))))
def f28a4 : RAnn := ⟨[9, 25], [(0, { keep := [0] })]⟩
noncomputable def f28o5 : Array Oper := cO (cL (cL (cR (cR (cR (cB f28))))))
def f28a5 : RAnn := ⟨[2], []⟩
noncomputable def f28o6 : Array Oper := cO (cL (cL (cL (cR (cL (cR (cR (cR (cB f28)))))))))
def f28a6 : RAnn := ⟨[], []⟩
noncomputable def f28o7 : Array Oper := cO (cL (cL (cL (cR (cR (cL (cL (cR (cL (cR (cR (cR (cB f28)))))))))))))
def f28a7 : RAnn := ⟨[30, 31, 32], []⟩
noncomputable def f28o8 : Array Oper := cO (cL (cR (cL (cL (cR (cR (cL (cL (cR (cL (cR (cR (cR (cB f28))))))))))))))
def f28a8 : RAnn := ⟨[], [(0, { site := true })]⟩
noncomputable def f28o9 : Array Oper := cO (cL (cL (cR (cR (cL (cL (cR (cR (cL (cL (cR (cL (cR (cR (cR (cB f28))))))))))))))))
def f28a9 : RAnn := ⟨[12], []⟩
noncomputable def f28o10 : Array Oper := cO (cL (cL (cL (cR (cL (cR (cR (cL (cL (cR (cR (cL (cL (cR (cL (cR (cR (cR (cB f28)))))))))))))))))))
def f28a10 : RAnn := ⟨[], []⟩
noncomputable def f28o11 : Array Oper := cO (cL (cL (cL (cR (cR (cL (cL (cR (cL (cR (cR (cL (cL (cR (cR (cL (cL (cR (cL (cR (cR (cR (cB f28)))))))))))))))))))))))
def f28a11 : RAnn := ⟨[36, 37, 38], []⟩
noncomputable def f28o12 : Array Oper := cO (cR (cL (cL (cR (cR (cL (cL (cR (cL (cR (cR (cL (cL (cR (cR (cL (cL (cR (cL (cR (cR (cR (cB f28)))))))))))))))))))))))
def f28a12 : RAnn := ⟨[15, 39, 40, 41, 42, 43, 44, 45, 46, 47, 48, 49, 50, 51, 52, 53, 54, 55, 56], [(18, { eff := true })]⟩
noncomputable def f28o13 : Array Oper := cO (cR (cR (cR (cL (cL (cR (cL (cR (cR (cL (cL (cR (cR (cL (cL (cR (cL (cR (cR (cR (cB f28)))))))))))))))))))))
def f28a13 : RAnn := ⟨[57], []⟩
noncomputable def f28o14 : Array Oper := cO (cR (cR (cR (cL (cL (cR (cR (cL (cL (cR (cL (cR (cR (cR (cB f28)))))))))))))))
def f28a14 : RAnn := ⟨[13, 33, 34, 35, 36, 58, 59, 60, 61, 62], [(0, { tk := [10], keep := [0] }), (4, { tk := [58], keep := [0] }), (5, { tk := [62], keep := [0] })]⟩
noncomputable def f28o15 : Array Oper := cO (cR (cR (cR (cL (cL (cR (cL (cR (cR (cR (cB f28)))))))))))
def f28a15 : RAnn := ⟨[63], []⟩
noncomputable def f28o16 : Array Oper := cO (cL (cR (cR (cR (cR (cB f28))))))
def f28a16 : RAnn := ⟨[10, 27, 28, 29, 30, 64, 65], []⟩
def f28b0 : Code := (.seq (.region 10 f28o10 false) (.seq (.cond (.tmp 36) .skip (.exit 2)) (.seq (.block 3 (.seq (.region 11 f28o11 false) (.region 12 f28o12 true))) (.region 13 f28o13 false))))
def f28b1 : Code := (.seq (.region 6 f28o6 false) (.seq (.cond (.tmp 30) .skip (.exit 0)) (.seq (.block 1 (.seq (.region 7 f28o7 false) (.seq (.region 8 f28o8 false) (.seq (.seq (.region 9 f28o9 false) (.block 2 (.loop f28b0))) (.region 14 f28o14 false))))) (.region 15 f28o15 false))))
def f28c : Code := (.seq (.region 0 f28o0 false) (.seq (.seq (.region 1 f28o1 false) (.seq (.region 2 f28o2 false) (.cond (.tmp 25) (.seq (.region 3 f28o3 false) .ret) .skip))) (.seq (.region 4 f28o4 false) (.seq (.seq (.region 5 f28o5 false) (.block 0 (.loop f28b1))) (.seq (.region 16 f28o16 false) .ret)))))
def f28n : List (Nat × RAnn) := [(0, f28a0), (1, f28a1), (2, f28a2), (3, f28a3), (4, f28a4), (5, f28a5), (6, f28a6), (7, f28a7), (8, f28a8), (9, f28a9), (10, f28a10), (11, f28a11), (12, f28a12), (13, f28a13), (14, f28a14), (15, f28a15), (16, f28a16)]
noncomputable def f30o0 : Array Oper := cO (cL (cB f30))
def f30a0 : RAnn := ⟨[7], []⟩
noncomputable def f30o1 : Array Oper := cO (cL (cR (cB f30)))
def f30a1 : RAnn := ⟨[1, 10, 11], []⟩
noncomputable def f30o2 : Array Oper := cO (cL (cL (cR (cR (cB f30)))))
def f30a2 : RAnn := ⟨[2], []⟩
noncomputable def f30o3 : Array Oper := cO (cL (cL (cL (cR (cL (cR (cR (cB f30))))))))
def f30a3 : RAnn := ⟨[], []⟩
noncomputable def f30o4 : Array Oper := cO (cL (cL (cL (cR (cR (cL (cL (cR (cL (cR (cR (cB f30))))))))))))
def f30a4 : RAnn := ⟨[15, 16, 17], []⟩
noncomputable def f30o5 : Array Oper := cO (cL (cL (cR (cL (cL (cR (cR (cL (cL (cR (cL (cR (cR (cB f30))))))))))))))
def f30a5 : RAnn := ⟨[18, 19, 20], []⟩
noncomputable def f30o6 : Array Oper := cO (cL (cL (cR (cR (cL (cL (cR (cR (cL (cL (cR (cL (cR (cR (cB f30)))))))))))))))
def f30a6 : RAnn := ⟨[21, 22, 23, 24, 25, 26, 27, 28, 29, 30, 31, 32, 33], []⟩
noncomputable def f30o7 : Array Oper := cO (cL (cR (cL (cR (cR (cL (cL (cR (cR (cL (cL (cR (cL (cR (cR (cB f30))))))))))))))))
def f30a7 : RAnn := ⟨[34, 35, 36, 37, 38], []⟩
noncomputable def f30o8 : Array Oper := cO (cL (cR (cR (cR (cL (cL (cR (cR (cL (cL (cR (cL (cR (cR (cB f30)))))))))))))))
def f30a8 : RAnn := ⟨[34, 39, 40, 41, 42, 43, 44, 45, 46, 47, 48, 49, 50], []⟩
noncomputable def f30o9 : Array Oper := cO (cL (cR (cR (cR (cR (cL (cL (cR (cR (cL (cL (cR (cL (cR (cR (cB f30))))))))))))))))
def f30a9 : RAnn := ⟨[9, 51, 52, 53, 54, 55], []⟩
noncomputable def f30o10 : Array Oper := cO (cR (cR (cR (cL (cL (cR (cL (cR (cR (cB f30))))))))))
def f30a10 : RAnn := ⟨[9, 21, 51, 56], []⟩
noncomputable def f30o11 : Array Oper := cO (cL (cR (cR (cR (cB f30)))))
def f30a11 : RAnn := ⟨[0, 12, 13, 14, 15, 57, 58], []⟩
def f30b0 : Code := (.seq (.region 3 f30o3 false) (.seq (.cond (.tmp 15) .skip (.exit 0)) (.seq (.block 1 (.seq (.region 4 f30o4 false) (.seq (.seq (.region 5 f30o5 false) (.cond (.tmp 21) (.exit 1) .skip)) (.seq (.seq (.region 6 f30o6 false) (.cond (.tmp 34) (.region 7 f30o7 false) .skip)) (.seq (.region 8 f30o8 false) (.cond (.tmp 51) (.region 9 f30o9 false) .skip)))))) (.region 10 f30o10 false))))
def f30c : Code := (.seq (.region 0 f30o0 false) (.seq (.region 1 f30o1 false) (.seq (.seq (.region 2 f30o2 false) (.block 0 (.loop f30b0))) (.seq (.region 11 f30o11 false) .ret))))
def f30n : List (Nat × RAnn) := [(0, f30a0), (1, f30a1), (2, f30a2), (3, f30a3), (4, f30a4), (5, f30a5), (6, f30a6), (7, f30a7), (8, f30a8), (9, f30a9), (10, f30a10), (11, f30a11)]
noncomputable def f11o0 : Array Oper := cO (cL (cB f11))
def f11a0 : RAnn := ⟨[0, 8], []⟩
noncomputable def f11o1 : Array Oper := cO (cL (cR (cB f11)))
def f11a1 : RAnn := ⟨[1, 3, 16, 17, 18, 19, 20, 21, 22, 23], []⟩
noncomputable def f11o2 : Array Oper := cO (cL (cL (cL (cR (cR (cB f11))))))
def f11a2 : RAnn := ⟨[25, 26], []⟩
noncomputable def f11o3 : Array Oper := cO (cL (cL (cR (cL (cL (cR (cR (cB f11))))))))
def f11a3 : RAnn := ⟨[2, 9, 10, 24, 27], []⟩
noncomputable def f11o4 : Array Oper := cO (cL (cR (cR (cL (cL (cR (cR (cB f11))))))))
def f11a4 : RAnn := ⟨[10, 24, 29, 30, 31], []⟩
noncomputable def f11o5 : Array Oper := cO (cL (cL (cR (cR (cR (cL (cL (cR (cR (cB f11))))))))))
def f11a5 : RAnn := ⟨[2, 9, 28], []⟩
noncomputable def f11o6 : Array Oper := cO (cL (cR (cR (cR (cB f11)))))
def f11a6 : RAnn := ⟨[9, 28, 32, 33, 34, 35, 36, 37], []⟩
noncomputable def f11o7 : Array Oper := cO (cL (cL (cR (cR (cR (cR (cB f11)))))))
def f11a7 : RAnn := ⟨[], []⟩
noncomputable def f11o8 : Array Oper := cO (cL (cL (cL (cR (cL (cR (cR (cR (cR (cB f11))))))))))
def f11a8 : RAnn := ⟨[], []⟩
noncomputable def f11o9 : Array Oper := cO (cL (cL (cL (cR (cR (cL (cL (cR (cL (cR (cR (cR (cR (cB f11))))))))))))))
def f11a9 : RAnn := ⟨[41, 42, 43, 44], []⟩
noncomputable def f11o10 : Array Oper := cO (cL (cR (cL (cL (cR (cR (cL (cL (cR (cL (cR (cR (cR (cR (cB f11)))))))))))))))
def f11a10 : RAnn := ⟨[13, 45, 46, 47, 48, 49, 50, 51, 52, 53], []⟩
noncomputable def f11o11 : Array Oper := cO (cL (cL (cR (cR (cL (cL (cR (cR (cL (cL (cR (cL (cR (cR (cR (cR (cB f11)))))))))))))))))
def f11a11 : RAnn := ⟨[12, 54], []⟩
noncomputable def f11o12 : Array Oper := cO (cL (cR (cL (cR (cR (cL (cL (cR (cR (cL (cL (cR (cL (cR (cR (cR (cR (cB f11))))))))))))))))))
def f11a12 : RAnn := ⟨[55, 56, 57], []⟩
noncomputable def f11o13 : Array Oper := cO (cR (cR (cR (cL (cL (cR (cR (cL (cL (cR (cL (cR (cR (cR (cR (cB f11))))))))))))))))
def f11a13 : RAnn := ⟨[14, 15, 55, 58, 59, 60, 61, 62, 63], []⟩
noncomputable def f11o14 : Array Oper := cO (cR (cR (cR (cL (cL (cR (cL (cR (cR (cR (cR (cB f11))))))))))))
def f11a14 : RAnn := ⟨[64], []⟩
noncomputable def f11o15 : Array Oper := cO (cL (cL (cR (cR (cR (cR (cR (cB f11))))))))
def f11a15 : RAnn := ⟨[2, 38, 39, 40, 41, 65, 66], []⟩
noncomputable def f11o16 : Array Oper := cO (cL (cR (cL (cR (cR (cR (cR (cR (cB f11)))))))))
def f11a16 : RAnn := ⟨[11, 67, 68, 69, 70, 71, 72, 73, 74, 75], []⟩
noncomputable def f11o17 : Array Oper := cO (cL (cR (cR (cR (cR (cR (cR (cB f11))))))))
def f11a17 : RAnn := ⟨[11, 67, 76, 77], []⟩
def f11b0 : Code := (.seq (.region 8 f11o8 false) (.seq (.cond (.tmp 41) .skip (.exit 1)) (.seq (.block 2 (.seq (.region 9 f11o9 false) (.seq (.region 10 f11o10 false) (.seq (.seq (.region 11 f11o11 false) (.cond (.tmp 55) (.region 12 f11o12 false) .skip)) (.region 13 f11o13 false))))) (.region 14 f11o14 false))))
def f11c : Code := (.seq (.region 0 f11o0 false) (.seq (.region 1 f11o1 false) (.seq (.block 0 (.seq (.region 2 f11o2 false) (.cond (.tmp 24) (.seq (.region 3 f11o3 false) .ret) (.seq (.region 4 f11o4 false) (.cond (.tmp 28) (.seq (.region 5 f11o5 false) .ret) .skip))))) (.seq (.region 6 f11o6 false) (.seq (.seq (.region 7 f11o7 false) (.block 1 (.loop f11b0))) (.seq (.seq (.region 15 f11o15 false) (.cond (.tmp 67) (.region 16 f11o16 false) .skip)) (.seq (.region 17 f11o17 false) .ret)))))))
def f11n : List (Nat × RAnn) := [(0, f11a0), (1, f11a1), (2, f11a2), (3, f11a3), (4, f11a4), (5, f11a5), (6, f11a6), (7, f11a7), (8, f11a8), (9, f11a9), (10, f11a10), (11, f11a11), (12, f11a12), (13, f11a13), (14, f11a14), (15, f11a15), (16, f11a16), (17, f11a17)]
noncomputable def f10o0 : Array Oper := cO (cL (cB f10))
def f10a0 : RAnn := ⟨[0], []⟩
noncomputable def f10o1 : Array Oper := cO (cL (cR (cB f10)))
def f10a1 : RAnn := ⟨[7, 8, 9, 10], []⟩
noncomputable def f10o2 : Array Oper := cO (cL (cR (cR (cB f10))))
def f10a2 : RAnn := ⟨[11, 12, 13, 14, 15, 16], []⟩
noncomputable def f10o3 : Array Oper := cO (cL (cR (cR (cR (cB f10)))))
def f10a3 : RAnn := ⟨[1, 17, 18, 19, 20, 21, 22, 23], []⟩
noncomputable def f10o4 : Array Oper := cO (cL (cR (cR (cR (cR (cB f10))))))
def f10a4 : RAnn := ⟨[2, 3, 4, 5, 6, 24, 25, 26, 27, 28, 29, 30, 31, 32, 33, 34, 35, 36, 37, 38, 39, 40, 41], []⟩
def f10c : Code := (.seq (.region 0 f10o0 false) (.seq (.region 1 f10o1 false) (.seq (.region 2 f10o2 false) (.seq (.region 3 f10o3 false) (.seq (.region 4 f10o4 false) .ret)))))
def f10n : List (Nat × RAnn) := [(0, f10a0), (1, f10a1), (2, f10a2), (3, f10a3), (4, f10a4)]
noncomputable def f15o0 : Array Oper := cO (cL (cB f15))
def f15a0 : RAnn := ⟨[0, 6, 7], []⟩
noncomputable def f15o1 : Array Oper := cO (cL (cL (cR (cB f15))))
def f15a1 : RAnn := ⟨[9, 10, 11], []⟩
noncomputable def f15o2 : Array Oper := cO (cL (cR (cL (cR (cB f15)))))
def f15a2 : RAnn := ⟨[12], []⟩
noncomputable def f15o3 : Array Oper := cO (cL (cL (cR (cR (cL (cR (cB f15)))))))
def f15a3 : RAnn := ⟨[1, 2, 3, 8, 13, 14], []⟩
noncomputable def f15o4 : Array Oper := cO (cL (cR (cR (cB f15))))
def f15a4 : RAnn := ⟨[1, 2, 3, 8, 13, 15, 16, 17, 18, 19, 20, 21], []⟩
def f15c : Code := (.seq (.region 0 f15o0 false) (.seq (.seq (.region 1 f15o1 false) (.seq (.region 2 f15o2 false) (.cond (.tmp 13) (.seq (.region 3 f15o3 false) .ret) .skip))) (.seq (.region 4 f15o4 false) .ret)))
def f15n : List (Nat × RAnn) := [(0, f15a0), (1, f15a1), (2, f15a2), (3, f15a3), (4, f15a4)]
noncomputable def f86o0 : Array Oper := cO (cL (cB f86))
def f86a0 : RAnn := ⟨[2], []⟩
noncomputable def f86o1 : Array Oper := cO (cL (cL (cR (cB f86))))
def f86a1 : RAnn := ⟨[], []⟩
noncomputable def f86o2 : Array Oper := cO (cL (cL (cL (cL (cR (cL (cR (cB f86))))))))
def f86a2 : RAnn := ⟨[5, 6, 7], []⟩
noncomputable def f86o3 : Array Oper := cO (cR (cR (cL (cL (cR (cL (cR (cB f86))))))))
def f86a3 : RAnn := ⟨[9, 10, 38], []⟩
noncomputable def f86o4 : Array Oper := cO (cL (cL (cL (cR (cL (cL (cR (cL (cR (cB f86))))))))))
def f86a4 : RAnn := ⟨[8, 11, 12, 13, 14, 15, 16, 17, 18, 19, 20], []⟩
noncomputable def f86o5 : Array Oper := cO (cL (cR (cL (cL (cR (cL (cL (cR (cL (cR (cB f86)))))))))))
def f86a5 : RAnn := ⟨[4, 21, 22, 23, 24, 25, 26, 27, 28, 29, 30, 31, 32, 33, 34, 35, 36, 37], []⟩
noncomputable def f86o6 : Array Oper := cO (cL (cL (cR (cR (cL (cL (cR (cL (cL (cR (cL (cR (cB f86)))))))))))))
def f86a6 : RAnn := ⟨[0, 3, 38], []⟩
noncomputable def f86o7 : Array Oper := cO (cL (cR (cR (cB f86))))
def f86a7 : RAnn := ⟨[0, 3, 8, 39, 40, 41, 42, 43, 44, 45, 46], []⟩
def f86b0 : Code := (.seq (.seq (.region 2 f86o2 false) (.cond (.tmp 8) .skip (.exit 0))) (.seq (.block 1 (.seq (.region 4 f86o4 false) (.seq (.region 5 f86o5 false) (.cond (.tmp 38) (.seq (.region 6 f86o6 false) .ret) .skip)))) (.region 3 f86o3 false)))
def f86c : Code := (.seq (.region 0 f86o0 false) (.seq (.seq (.region 1 f86o1 false) (.block 0 (.loop f86b0))) (.seq (.region 7 f86o7 false) .ret)))
def f86n : List (Nat × RAnn) := [(0, f86a0), (1, f86a1), (2, f86a2), (3, f86a3), (4, f86a4), (5, f86a5), (6, f86a6), (7, f86a7)]
noncomputable def f87o0 : Array Oper := cO (cL (cB f87))
def f87a0 : RAnn := ⟨[0, 2], []⟩
noncomputable def f87o1 : Array Oper := cO (cL (cL (cR (cB f87))))
def f87a1 : RAnn := ⟨[], []⟩
noncomputable def f87o2 : Array Oper := cO (cL (cL (cL (cL (cR (cL (cR (cB f87))))))))
def f87a2 : RAnn := ⟨[6, 7, 8, 9], []⟩
noncomputable def f87o3 : Array Oper := cO (cR (cR (cL (cL (cR (cL (cR (cB f87))))))))
def f87a3 : RAnn := ⟨[4, 5, 11, 12, 51], []⟩
noncomputable def f87o4 : Array Oper := cO (cL (cL (cL (cR (cL (cL (cR (cL (cR (cB f87))))))))))
def f87a4 : RAnn := ⟨[10, 13, 14, 15, 16, 17], []⟩
noncomputable def f87o5 : Array Oper := cO (cL (cL (cR (cL (cL (cR (cL (cL (cR (cL (cR (cB f87))))))))))))
def f87a5 : RAnn := ⟨[18, 19, 20, 21, 22, 23, 24, 25, 26, 27, 28, 29, 30, 31, 32, 33, 34, 35, 36, 37, 38, 39, 40, 41, 42, 43, 44, 45, 46, 47], []⟩
noncomputable def f87o6 : Array Oper := cO (cL (cL (cR (cL (cR (cL (cL (cR (cL (cL (cR (cL (cR (cB f87))))))))))))))
def f87a6 : RAnn := ⟨[1, 3, 4, 48], []⟩
noncomputable def f87o7 : Array Oper := cO (cL (cR (cR (cL (cL (cR (cL (cL (cR (cL (cR (cB f87))))))))))))
def f87a7 : RAnn := ⟨[48], []⟩
noncomputable def f87o8 : Array Oper := cO (cL (cL (cL (cL (cR (cR (cR (cL (cL (cR (cL (cL (cR (cL (cR (cB f87))))))))))))))))
def f87a8 : RAnn := ⟨[49, 50], []⟩
noncomputable def f87o9 : Array Oper := cO (cR (cR (cL (cL (cR (cR (cR (cL (cL (cR (cL (cL (cR (cL (cR (cB f87))))))))))))))))
def f87a9 : RAnn := ⟨[52, 53, 62], []⟩
noncomputable def f87o10 : Array Oper := cO (cL (cL (cL (cR (cL (cL (cR (cR (cR (cL (cL (cR (cL (cL (cR (cL (cR (cB f87))))))))))))))))))
def f87a10 : RAnn := ⟨[51, 54, 55, 56, 57, 58, 59, 60, 61], []⟩
noncomputable def f87o11 : Array Oper := cO (cL (cL (cR (cL (cL (cR (cL (cL (cR (cR (cR (cL (cL (cR (cL (cL (cR (cL (cR (cB f87))))))))))))))))))))
def f87a11 : RAnn := ⟨[1, 3, 4, 5, 62], []⟩
noncomputable def f87o12 : Array Oper := cO (cL (cL (cR (cR (cB f87)))))
def f87a12 : RAnn := ⟨[3, 10, 63, 64, 65, 66, 67, 68, 69, 70, 71, 72, 73, 74, 75, 76, 77, 78, 79, 80, 81], []⟩
noncomputable def f87o13 : Array Oper := cO (cL (cL (cR (cL (cR (cR (cB f87)))))))
def f87a13 : RAnn := ⟨[1, 82], []⟩
noncomputable def f87o14 : Array Oper := cO (cL (cR (cR (cR (cB f87)))))
def f87a14 : RAnn := ⟨[1, 82, 83, 84, 85, 86, 87, 88, 89, 90, 91, 92, 93, 94, 95, 96, 97, 98, 99, 100, 101, 102, 103, 104, 105, 106, 107, 108, 109, 110, 111], []⟩
def f87b0 : Code := (.seq (.seq (.region 8 f87o8 false) (.cond (.tmp 51) .skip (.exit 2))) (.seq (.block 3 (.seq (.region 10 f87o10 true) (.cond (.tmp 62) (.seq (.region 11 f87o11 false) .ret) .skip))) (.region 9 f87o9 false)))
def f87b1 : Code := (.seq (.seq (.region 2 f87o2 false) (.cond (.tmp 10) .skip (.exit 0))) (.seq (.block 1 (.seq (.region 4 f87o4 false) (.seq (.seq (.region 5 f87o5 false) (.cond (.tmp 48) (.seq (.region 6 f87o6 false) .ret) .skip)) (.seq (.region 7 f87o7 false) (.block 2 (.loop f87b0)))))) (.region 3 f87o3 false)))
def f87c : Code := (.seq (.region 0 f87o0 false) (.seq (.seq (.region 1 f87o1 false) (.block 0 (.loop f87b1))) (.seq (.seq (.region 12 f87o12 false) (.cond (.tmp 82) (.seq (.region 13 f87o13 false) .ret) .skip)) (.seq (.region 14 f87o14 true) .ret))))
def f87n : List (Nat × RAnn) := [(0, f87a0), (1, f87a1), (2, f87a2), (3, f87a3), (4, f87a4), (5, f87a5), (6, f87a6), (7, f87a7), (8, f87a8), (9, f87a9), (10, f87a10), (11, f87a11), (12, f87a12), (13, f87a13), (14, f87a14)]
noncomputable def f88o0 : Array Oper := cO (cL (cB f88))
def f88a0 : RAnn := ⟨[0, 6], []⟩
noncomputable def f88o1 : Array Oper := cO (cL (cL (cR (cB f88))))
def f88a1 : RAnn := ⟨[7, 8, 9, 10, 11, 12], []⟩
noncomputable def f88o2 : Array Oper := cO (cL (cL (cL (cL (cR (cL (cR (cB f88))))))))
def f88a2 : RAnn := ⟨[13], []⟩
noncomputable def f88o3 : Array Oper := cO (cR (cR (cL (cL (cR (cL (cR (cB f88))))))))
def f88a3 : RAnn := ⟨[15, 16, 17, 18, 19, 20, 23], []⟩
noncomputable def f88o4 : Array Oper := cO (cL (cL (cL (cR (cL (cL (cR (cL (cR (cB f88))))))))))
def f88a4 : RAnn := ⟨[14, 21, 22], []⟩
noncomputable def f88o5 : Array Oper := cO (cL (cL (cR (cL (cL (cR (cL (cL (cR (cL (cR (cB f88))))))))))))
def f88a5 : RAnn := ⟨[1, 2, 3, 23], []⟩
noncomputable def f88o6 : Array Oper := cO (cL (cR (cR (cB f88))))
def f88a6 : RAnn := ⟨[1, 2, 3, 14], []⟩
def f88b0 : Code := (.seq (.seq (.region 2 f88o2 false) (.cond (.tmp 14) .skip (.exit 0))) (.seq (.block 1 (.seq (.region 4 f88o4 false) (.cond (.tmp 23) (.seq (.region 5 f88o5 false) .ret) .skip))) (.region 3 f88o3 false)))
def f88c : Code := (.seq (.region 0 f88o0 false) (.seq (.seq (.region 1 f88o1 false) (.block 0 (.loop f88b0))) (.seq (.region 6 f88o6 false) .ret)))
def f88n : List (Nat × RAnn) := [(0, f88a0), (1, f88a1), (2, f88a2), (3, f88a3), (4, f88a4), (5, f88a5), (6, f88a6)]
noncomputable def f89o0 : Array Oper := cO (cL (cB f89))
def f89a0 : RAnn := ⟨[0, 4], []⟩
noncomputable def f89o1 : Array Oper := cO (cL (cR (cB f89)))
def f89a1 : RAnn := ⟨[], []⟩
noncomputable def f89o2 : Array Oper := cO (cL (cL (cL (cL (cL (cR (cR (cB f89))))))))
def f89a2 : RAnn := ⟨[6], []⟩
noncomputable def f89o3 : Array Oper := cO (cL (cL (cR (cL (cL (cL (cR (cR (cB f89)))))))))
def f89a3 : RAnn := ⟨[7, 8, 9, 10, 11], [(1, { keep := [0] }), (3, { tk := [9] })]⟩
noncomputable def f89o4 : Array Oper := cO (cR (cL (cR (cL (cL (cL (cR (cR (cB f89)))))))))
def f89a4 : RAnn := ⟨[12, 13, 14, 15, 16, 17], []⟩
noncomputable def f89o5 : Array Oper := cO (cL (cR (cR (cR (cB f89)))))
def f89a5 : RAnn := ⟨[1, 2, 5, 7, 18], []⟩
def f89b0 : Code := (.seq (.seq (.region 2 f89o2 false) (.cond (.tmp 7) .skip (.exit 0))) (.block 1 (.seq (.region 3 f89o3 false) (.region 4 f89o4 false))))
def f89c : Code := (.seq (.region 0 f89o0 false) (.seq (.region 1 f89o1 false) (.seq (.block 0 (.loop f89b0)) (.seq (.region 5 f89o5 false) .ret))))
def f89n : List (Nat × RAnn) := [(0, f89a0), (1, f89a1), (2, f89a2), (3, f89a3), (4, f89a4), (5, f89a5)]
noncomputable def f64o0 : Array Oper := cO (cL (cB f64))
def f64a0 : RAnn := ⟨[0, 2], []⟩
noncomputable def f64o1 : Array Oper := cO (cL (cL (cR (cB f64))))
def f64a1 : RAnn := ⟨[9, 10, 11, 12, 13, 14, 15, 16, 17, 18, 19, 20, 21, 22, 23, 24, 25, 26, 27, 28, 29, 30, 31, 32, 33, 34, 35, 36, 37, 38, 39], []⟩
noncomputable def f64o2 : Array Oper := cO (cL (cL (cR (cL (cR (cB f64))))))
def f64a2 : RAnn := ⟨[1, 40], []⟩
noncomputable def f64o3 : Array Oper := cO (cL (cL (cR (cR (cB f64)))))
def f64a3 : RAnn := ⟨[40], []⟩
noncomputable def f64o4 : Array Oper := cO (cL (cL (cL (cL (cR (cL (cR (cR (cB f64)))))))))
def f64a4 : RAnn := ⟨[41, 42, 43, 44], []⟩
noncomputable def f64o5 : Array Oper := cO (cR (cR (cL (cL (cR (cL (cR (cR (cB f64)))))))))
def f64a5 : RAnn := ⟨[46, 47, 117, 149], []⟩
noncomputable def f64o6 : Array Oper := cO (cL (cL (cL (cR (cL (cL (cR (cL (cR (cR (cB f64)))))))))))
def f64a6 : RAnn := ⟨[45, 48, 49, 50, 51, 52], []⟩
noncomputable def f64o7 : Array Oper := cO (cL (cL (cR (cL (cL (cR (cL (cL (cR (cL (cR (cR (cB f64)))))))))))))
def f64a7 : RAnn := ⟨[53, 54, 55, 56, 57, 58, 59, 60, 61, 62, 63, 64, 65, 66, 67, 68, 69, 70, 71, 72, 73, 74, 75, 76, 77], []⟩
noncomputable def f64o8 : Array Oper := cO (cL (cL (cR (cL (cR (cL (cL (cR (cL (cL (cR (cL (cR (cR (cB f64)))))))))))))))
def f64a8 : RAnn := ⟨[1, 3, 4, 78], []⟩
noncomputable def f64o9 : Array Oper := cO (cL (cL (cR (cR (cL (cL (cR (cL (cL (cR (cL (cR (cR (cB f64))))))))))))))
def f64a9 : RAnn := ⟨[78], []⟩
noncomputable def f64o10 : Array Oper := cO (cL (cL (cL (cL (cR (cL (cR (cR (cL (cL (cR (cL (cL (cR (cL (cR (cR (cB f64))))))))))))))))))
def f64a10 : RAnn := ⟨[79, 80], []⟩
noncomputable def f64o11 : Array Oper := cO (cR (cR (cL (cL (cR (cL (cR (cR (cL (cL (cR (cL (cL (cR (cL (cR (cR (cB f64))))))))))))))))))
def f64a11 : RAnn := ⟨[82, 83, 92], []⟩
noncomputable def f64o12 : Array Oper := cO (cL (cL (cL (cR (cL (cL (cR (cL (cR (cR (cL (cL (cR (cL (cL (cR (cL (cR (cR (cB f64))))))))))))))))))))
def f64a12 : RAnn := ⟨[81, 84, 85, 86, 87, 88, 89, 90, 91], []⟩
noncomputable def f64o13 : Array Oper := cO (cL (cL (cR (cL (cL (cR (cL (cL (cR (cL (cR (cR (cL (cL (cR (cL (cL (cR (cL (cR (cR (cB f64))))))))))))))))))))))
def f64a13 : RAnn := ⟨[1, 3, 4, 5, 92], []⟩
noncomputable def f64o14 : Array Oper := cO (cL (cL (cR (cR (cR (cL (cL (cR (cL (cL (cR (cL (cR (cR (cB f64)))))))))))))))
def f64a14 : RAnn := ⟨[5, 81, 93], []⟩
noncomputable def f64o15 : Array Oper := cO (cL (cL (cL (cR (cL (cR (cR (cR (cL (cL (cR (cL (cL (cR (cL (cR (cR (cB f64))))))))))))))))))
def f64a15 : RAnn := ⟨[4, 94, 95, 96, 97, 98, 99, 100, 101, 102, 103, 104, 105, 106, 107, 108, 109, 110, 111, 112, 113, 114, 115, 116], []⟩
noncomputable def f64o16 : Array Oper := cO (cL (cL (cR (cL (cL (cR (cL (cR (cR (cR (cL (cL (cR (cL (cL (cR (cL (cR (cR (cB f64))))))))))))))))))))
def f64a16 : RAnn := ⟨[1, 3, 117], []⟩
noncomputable def f64o17 : Array Oper := cO (cL (cR (cR (cR (cR (cL (cL (cR (cL (cL (cR (cL (cR (cR (cB f64)))))))))))))))
def f64a17 : RAnn := ⟨[4, 94, 118, 119, 120, 121, 122, 123, 124, 125, 126, 127, 128, 129, 130, 131, 132, 133, 134, 135, 136, 137, 138, 139, 140, 141, 142, 143, 144, 145, 146, 147, 148], []⟩
noncomputable def f64o18 : Array Oper := cO (cL (cL (cR (cR (cR (cR (cR (cL (cL (cR (cL (cL (cR (cL (cR (cR (cB f64)))))))))))))))))
def f64a18 : RAnn := ⟨[1, 3, 149], []⟩
noncomputable def f64o19 : Array Oper := cO (cL (cL (cR (cR (cR (cB f64))))))
def f64a19 : RAnn := ⟨[3, 45], []⟩
noncomputable def f64o20 : Array Oper := cO (cL (cL (cL (cL (cR (cL (cR (cR (cR (cB f64))))))))))
def f64a20 : RAnn := ⟨[150, 151, 152, 153], []⟩
noncomputable def f64o21 : Array Oper := cO (cR (cR (cL (cL (cR (cL (cR (cR (cR (cB f64))))))))))
def f64a21 : RAnn := ⟨[7, 8, 155, 156, 220], []⟩
noncomputable def f64o22 : Array Oper := cO (cL (cL (cL (cR (cL (cL (cR (cL (cR (cR (cR (cB f64))))))))))))
def f64a22 : RAnn := ⟨[154, 157, 158, 159, 160, 161], []⟩
noncomputable def f64o23 : Array Oper := cO (cL (cL (cR (cL (cL (cR (cL (cL (cR (cL (cR (cR (cR (cB f64))))))))))))))
def f64a23 : RAnn := ⟨[162, 163, 164, 165, 166, 167, 168, 169, 170, 171, 172, 173, 174, 175, 176, 177, 178, 179, 180, 181, 182, 183, 184, 185, 186, 187, 188, 189, 190, 191, 192, 193, 194, 195, 196, 197, 198, 199, 200, 201, 202, 203, 204, 205, 206, 207, 208, 209, 210, 211, 212, 213, 214, 215, 216], []⟩
noncomputable def f64o24 : Array Oper := cO (cL (cL (cR (cL (cR (cL (cL (cR (cL (cL (cR (cL (cR (cR (cR (cB f64))))))))))))))))
def f64a24 : RAnn := ⟨[1, 6, 7, 217], []⟩
noncomputable def f64o25 : Array Oper := cO (cL (cR (cR (cL (cL (cR (cL (cL (cR (cL (cR (cR (cR (cB f64))))))))))))))
def f64a25 : RAnn := ⟨[217], []⟩
noncomputable def f64o26 : Array Oper := cO (cL (cL (cL (cL (cR (cR (cR (cL (cL (cR (cL (cL (cR (cL (cR (cR (cR (cB f64))))))))))))))))))
def f64a26 : RAnn := ⟨[218, 219], []⟩
noncomputable def f64o27 : Array Oper := cO (cR (cR (cL (cL (cR (cR (cR (cL (cL (cR (cL (cL (cR (cL (cR (cR (cR (cB f64))))))))))))))))))
def f64a27 : RAnn := ⟨[221, 222, 231], []⟩
noncomputable def f64o28 : Array Oper := cO (cL (cL (cL (cR (cL (cL (cR (cR (cR (cL (cL (cR (cL (cL (cR (cL (cR (cR (cR (cB f64))))))))))))))))))))
def f64a28 : RAnn := ⟨[220, 223, 224, 225, 226, 227, 228, 229, 230], []⟩
noncomputable def f64o29 : Array Oper := cO (cL (cL (cR (cL (cL (cR (cL (cL (cR (cR (cR (cL (cL (cR (cL (cL (cR (cL (cR (cR (cR (cB f64))))))))))))))))))))))
def f64a29 : RAnn := ⟨[1, 6, 7, 8, 231], []⟩
noncomputable def f64o30 : Array Oper := cO (cL (cR (cR (cR (cR (cB f64))))))
def f64a30 : RAnn := ⟨[1, 6, 154], []⟩
def f64b0 : Code := (.seq (.seq (.region 10 f64o10 false) (.cond (.tmp 81) .skip (.exit 2))) (.seq (.block 3 (.seq (.region 12 f64o12 true) (.cond (.tmp 92) (.seq (.region 13 f64o13 false) .ret) .skip))) (.region 11 f64o11 false)))
def f64b1 : Code := (.seq (.seq (.region 4 f64o4 false) (.cond (.tmp 45) .skip (.exit 0))) (.seq (.block 1 (.seq (.region 6 f64o6 false) (.seq (.seq (.region 7 f64o7 false) (.cond (.tmp 78) (.seq (.region 8 f64o8 false) .ret) .skip)) (.seq (.seq (.region 9 f64o9 false) (.block 2 (.loop f64b0))) (.seq (.seq (.region 14 f64o14 false) (.cond (.tmp 94) (.seq (.seq (.region 15 f64o15 false) (.cond (.tmp 117) (.seq (.region 16 f64o16 false) .ret) .skip)) (.exit 1)) .skip)) (.seq (.region 17 f64o17 false) (.cond (.tmp 149) (.seq (.region 18 f64o18 false) .ret) .skip))))))) (.region 5 f64o5 false)))
def f64b2 : Code := (.seq (.seq (.region 26 f64o26 false) (.cond (.tmp 220) .skip (.exit 6))) (.seq (.block 7 (.seq (.region 28 f64o28 true) (.cond (.tmp 231) (.seq (.region 29 f64o29 false) .ret) .skip))) (.region 27 f64o27 false)))
def f64b3 : Code := (.seq (.seq (.region 20 f64o20 false) (.cond (.tmp 154) .skip (.exit 4))) (.seq (.block 5 (.seq (.region 22 f64o22 false) (.seq (.seq (.region 23 f64o23 true) (.cond (.tmp 217) (.seq (.region 24 f64o24 false) .ret) .skip)) (.seq (.region 25 f64o25 false) (.block 6 (.loop f64b2)))))) (.region 21 f64o21 false)))
def f64c : Code := (.seq (.region 0 f64o0 false) (.seq (.seq (.region 1 f64o1 false) (.cond (.tmp 40) (.seq (.region 2 f64o2 false) .ret) .skip)) (.seq (.seq (.region 3 f64o3 false) (.block 0 (.loop f64b1))) (.seq (.seq (.region 19 f64o19 false) (.block 4 (.loop f64b3))) (.seq (.region 30 f64o30 false) .ret)))))
def f64n : List (Nat × RAnn) := [(0, f64a0), (1, f64a1), (2, f64a2), (3, f64a3), (4, f64a4), (5, f64a5), (6, f64a6), (7, f64a7), (8, f64a8), (9, f64a9), (10, f64a10), (11, f64a11), (12, f64a12), (13, f64a13), (14, f64a14), (15, f64a15), (16, f64a16), (17, f64a17), (18, f64a18), (19, f64a19), (20, f64a20), (21, f64a21), (22, f64a22), (23, f64a23), (24, f64a24), (25, f64a25), (26, f64a26), (27, f64a27), (28, f64a28), (29, f64a29), (30, f64a30)]
noncomputable def f35o0 : Array Oper := cO (cL (cB f35))
def f35a0 : RAnn := ⟨[0, 4], []⟩
noncomputable def f35o1 : Array Oper := cO (cL (cL (cL (cR (cB f35)))))
def f35a1 : RAnn := ⟨[6, 7, 8], []⟩
noncomputable def f35o2 : Array Oper := cO (cL (cL (cR (cL (cL (cR (cB f35)))))))
def f35a2 : RAnn := ⟨[1, 2, 5], []⟩
noncomputable def f35o3 : Array Oper := cO (cL (cR (cR (cL (cL (cR (cB f35)))))))
def f35a3 : RAnn := ⟨[1, 2, 5, 10, 11, 12, 13, 14, 15, 16, 17, 18], []⟩
noncomputable def f35o4 : Array Oper := cO (cL (cL (cR (cR (cR (cL (cL (cR (cB f35)))))))))
def f35a4 : RAnn := ⟨[9], []⟩
noncomputable def f35o5 : Array Oper := cO (cL (cR (cR (cB f35))))
def f35a5 : RAnn := ⟨[9], []⟩
def f35c : Code := (.seq (.region 0 f35o0 false) (.seq (.block 0 (.seq (.region 1 f35o1 false) (.cond (.tmp 5) (.seq (.region 2 f35o2 false) .ret) (.seq (.region 3 f35o3 false) (.cond (.tmp 9) (.seq (.region 4 f35o4 false) .ret) .skip))))) (.seq (.region 5 f35o5 false) .ret)))
def f35n : List (Nat × RAnn) := [(0, f35a0), (1, f35a1), (2, f35a2), (3, f35a3), (4, f35a4), (5, f35a5)]
noncomputable def f94o0 : Array Oper := cO (cL (cB f94))
def f94a0 : RAnn := ⟨[0, 4], []⟩
noncomputable def f94o1 : Array Oper := cO (cL (cR (cB f94)))
def f94a1 : RAnn := ⟨[1, 2, 5, 6, 7, 8, 9, 10, 11, 12, 13], []⟩
def f94c : Code := (.seq (.region 0 f94o0 false) (.seq (.region 1 f94o1 false) .ret))
def f94n : List (Nat × RAnn) := [(0, f94a0), (1, f94a1)]
noncomputable def f73o0 : Array Oper := cO (cL (cB f73))
def f73a0 : RAnn := ⟨[0, 4], []⟩
noncomputable def f73o1 : Array Oper := cO (cL (cL (cR (cB f73))))
def f73a1 : RAnn := ⟨[6, 7], []⟩
noncomputable def f73o2 : Array Oper := cO (cL (cL (cR (cL (cR (cB f73))))))
def f73a2 : RAnn := ⟨[1, 2, 8], []⟩
noncomputable def f73o3 : Array Oper := cO (cL (cL (cR (cR (cB f73)))))
def f73a3 : RAnn := ⟨[8], []⟩
noncomputable def f73o4 : Array Oper := cO (cL (cL (cL (cL (cR (cL (cR (cR (cB f73)))))))))
def f73a4 : RAnn := ⟨[9, 10, 11], []⟩
noncomputable def f73o5 : Array Oper := cO (cR (cR (cL (cL (cR (cL (cR (cR (cB f73)))))))))
def f73a5 : RAnn := ⟨[13, 14, 21], []⟩
noncomputable def f73o6 : Array Oper := cO (cL (cL (cL (cR (cL (cL (cR (cL (cR (cR (cB f73)))))))))))
def f73a6 : RAnn := ⟨[12, 15, 16, 17, 18, 19, 20], []⟩
noncomputable def f73o7 : Array Oper := cO (cL (cL (cR (cL (cL (cR (cL (cL (cR (cL (cR (cR (cB f73)))))))))))))
def f73a7 : RAnn := ⟨[1, 2, 5, 21], []⟩
noncomputable def f73o8 : Array Oper := cO (cL (cR (cR (cR (cB f73)))))
def f73a8 : RAnn := ⟨[1, 2, 5, 12], []⟩
def f73b0 : Code := (.seq (.seq (.region 4 f73o4 false) (.cond (.tmp 12) .skip (.exit 0))) (.seq (.block 1 (.seq (.region 6 f73o6 true) (.cond (.tmp 21) (.seq (.region 7 f73o7 false) .ret) .skip))) (.region 5 f73o5 false)))
def f73c : Code := (.seq (.region 0 f73o0 false) (.seq (.seq (.region 1 f73o1 false) (.cond (.tmp 8) (.seq (.region 2 f73o2 false) .ret) .skip)) (.seq (.seq (.region 3 f73o3 false) (.block 0 (.loop f73b0))) (.seq (.region 8 f73o8 false) .ret))))
def f73n : List (Nat × RAnn) := [(0, f73a0), (1, f73a1), (2, f73a2), (3, f73a3), (4, f73a4), (5, f73a5), (6, f73a6), (7, f73a7), (8, f73a8)]
noncomputable def f53o0 : Array Oper := cO (cL (cB f53))
def f53a0 : RAnn := ⟨[0, 6, 7], []⟩
noncomputable def f53o1 : Array Oper := cO (cL (cL (cR (cB f53))))
def f53a1 : RAnn := ⟨[10, 11, 12, 13], []⟩
noncomputable def f53o2 : Array Oper := cO (cL (cR (cL (cR (cB f53)))))
def f53a2 : RAnn := ⟨[14], []⟩
noncomputable def f53o3 : Array Oper := cO (cL (cL (cR (cR (cL (cR (cB f53)))))))
def f53a3 : RAnn := ⟨[1, 2, 3, 8, 15, 16], []⟩
noncomputable def f53o4 : Array Oper := cO (cL (cL (cR (cR (cB f53)))))
def f53a4 : RAnn := ⟨[8, 15], []⟩
noncomputable def f53o5 : Array Oper := cO (cL (cL (cL (cL (cR (cL (cR (cR (cB f53)))))))))
def f53a5 : RAnn := ⟨[17, 18, 19, 20, 21, 22, 23, 24], []⟩
noncomputable def f53o6 : Array Oper := cO (cR (cR (cL (cL (cR (cL (cR (cR (cB f53)))))))))
def f53a6 : RAnn := ⟨[26, 27, 39], []⟩
noncomputable def f53o7 : Array Oper := cO (cL (cL (cL (cR (cL (cL (cR (cL (cR (cR (cB f53)))))))))))
def f53a7 : RAnn := ⟨[25, 28, 29, 30, 31, 32, 33, 34, 35, 36, 37, 38], []⟩
noncomputable def f53o8 : Array Oper := cO (cL (cL (cR (cL (cL (cR (cL (cL (cR (cL (cR (cR (cB f53)))))))))))))
def f53a8 : RAnn := ⟨[1, 2, 3, 9, 39, 40], []⟩
noncomputable def f53o9 : Array Oper := cO (cL (cR (cR (cR (cB f53)))))
def f53a9 : RAnn := ⟨[1, 2, 3, 9, 25], []⟩
def f53b0 : Code := (.seq (.seq (.region 5 f53o5 false) (.cond (.tmp 25) .skip (.exit 0))) (.seq (.block 1 (.seq (.region 7 f53o7 false) (.cond (.tmp 39) (.seq (.region 8 f53o8 false) .ret) .skip))) (.region 6 f53o6 false)))
def f53c : Code := (.seq (.region 0 f53o0 false) (.seq (.seq (.region 1 f53o1 false) (.seq (.region 2 f53o2 false) (.cond (.tmp 15) (.seq (.region 3 f53o3 false) .ret) .skip))) (.seq (.seq (.region 4 f53o4 false) (.block 0 (.loop f53b0))) (.seq (.region 9 f53o9 false) .ret))))
def f53n : List (Nat × RAnn) := [(0, f53a0), (1, f53a1), (2, f53a2), (3, f53a3), (4, f53a4), (5, f53a5), (6, f53a6), (7, f53a7), (8, f53a8), (9, f53a9)]
noncomputable def f65o0 : Array Oper := cO (cL (cB f65))
def f65a0 : RAnn := ⟨[0, 2, 6], []⟩
noncomputable def f65o1 : Array Oper := cO (cL (cR (cB f65)))
def f65a1 : RAnn := ⟨[9, 10, 11, 12, 13, 14, 15, 16], []⟩
noncomputable def f65o2 : Array Oper := cO (cL (cR (cR (cB f65))))
def f65a2 : RAnn := ⟨[1, 3, 5, 7, 8, 17, 18, 19, 20, 21, 22, 23, 24, 25, 26, 27, 28, 29, 30, 31, 32, 33, 34, 35, 36, 37, 38, 39, 40, 41, 42, 43, 44], []⟩
def f65c : Code := (.seq (.region 0 f65o0 false) (.seq (.region 1 f65o1 false) (.seq (.region 2 f65o2 true) .ret)))
def f65n : List (Nat × RAnn) := [(0, f65a0), (1, f65a1), (2, f65a2)]
noncomputable def f36o0 : Array Oper := cO (cL (cB f36))
def f36a0 : RAnn := ⟨[0, 6], []⟩
noncomputable def f36o1 : Array Oper := cO (cL (cL (cR (cB f36))))
def f36a1 : RAnn := ⟨[], []⟩
noncomputable def f36o2 : Array Oper := cO (cL (cL (cL (cL (cR (cL (cR (cB f36))))))))
def f36a2 : RAnn := ⟨[9, 10, 11], []⟩
noncomputable def f36o3 : Array Oper := cO (cR (cR (cL (cL (cR (cL (cR (cB f36))))))))
def f36a3 : RAnn := ⟨[8, 13, 14, 35], []⟩
noncomputable def f36o4 : Array Oper := cO (cL (cL (cL (cL (cR (cL (cL (cR (cL (cR (cB f36)))))))))))
def f36a4 : RAnn := ⟨[12, 15, 16, 17, 18, 19, 20, 21, 22, 23, 24, 25, 26, 27], []⟩
noncomputable def f36o5 : Array Oper := cO (cL (cL (cR (cL (cL (cL (cR (cL (cL (cR (cL (cR (cB f36)))))))))))))
def f36a5 : RAnn := ⟨[1, 2, 3, 7, 28], []⟩
noncomputable def f36o6 : Array Oper := cO (cL (cR (cL (cL (cR (cL (cL (cR (cL (cR (cB f36)))))))))))
def f36a6 : RAnn := ⟨[28], []⟩
noncomputable def f36o7 : Array Oper := cO (cL (cL (cL (cL (cR (cR (cL (cL (cR (cL (cL (cR (cL (cR (cB f36)))))))))))))))
def f36a7 : RAnn := ⟨[29, 30, 31, 32, 33, 34], []⟩
noncomputable def f36o8 : Array Oper := cO (cR (cR (cL (cL (cR (cR (cL (cL (cR (cL (cL (cR (cL (cR (cB f36)))))))))))))))
def f36a8 : RAnn := ⟨[36, 37, 48], []⟩
noncomputable def f36o9 : Array Oper := cO (cL (cL (cL (cR (cL (cL (cR (cR (cL (cL (cR (cL (cL (cR (cL (cR (cB f36)))))))))))))))))
def f36a9 : RAnn := ⟨[35, 38, 39, 40, 41, 42, 43, 44, 45, 46, 47], []⟩
noncomputable def f36o10 : Array Oper := cO (cL (cL (cR (cL (cL (cR (cL (cL (cR (cR (cL (cL (cR (cL (cL (cR (cL (cR (cB f36)))))))))))))))))))
def f36a10 : RAnn := ⟨[1, 2, 3, 7, 8, 48], []⟩
noncomputable def f36o11 : Array Oper := cO (cL (cR (cR (cB f36))))
def f36a11 : RAnn := ⟨[1, 2, 3, 7, 12, 49, 50, 51], []⟩
def f36b0 : Code := (.seq (.seq (.region 7 f36o7 false) (.cond (.tmp 35) .skip (.exit 2))) (.seq (.block 3 (.seq (.region 9 f36o9 true) (.cond (.tmp 48) (.seq (.region 10 f36o10 false) .ret) .skip))) (.region 8 f36o8 false)))
def f36b1 : Code := (.seq (.seq (.region 2 f36o2 false) (.cond (.tmp 12) .skip (.exit 0))) (.seq (.block 1 (.seq (.seq (.region 4 f36o4 false) (.cond (.tmp 28) (.seq (.region 5 f36o5 false) .ret) .skip)) (.seq (.region 6 f36o6 false) (.block 2 (.loop f36b0))))) (.region 3 f36o3 false)))
def f36c : Code := (.seq (.region 0 f36o0 false) (.seq (.seq (.region 1 f36o1 false) (.block 0 (.loop f36b1))) (.seq (.region 11 f36o11 false) .ret)))
def f36n : List (Nat × RAnn) := [(0, f36a0), (1, f36a1), (2, f36a2), (3, f36a3), (4, f36a4), (5, f36a5), (6, f36a6), (7, f36a7), (8, f36a8), (9, f36a9), (10, f36a10), (11, f36a11)]
noncomputable def f16o0 : Array Oper := cO (cL (cB f16))
def f16a0 : RAnn := ⟨[0, 6, 7], []⟩
noncomputable def f16o1 : Array Oper := cO (cL (cL (cR (cB f16))))
def f16a1 : RAnn := ⟨[9, 10, 11], []⟩
noncomputable def f16o2 : Array Oper := cO (cL (cR (cL (cR (cB f16)))))
def f16a2 : RAnn := ⟨[12], []⟩
noncomputable def f16o3 : Array Oper := cO (cL (cL (cR (cR (cL (cR (cB f16)))))))
def f16a3 : RAnn := ⟨[1, 2, 3, 8, 13, 14], []⟩
noncomputable def f16o4 : Array Oper := cO (cL (cR (cR (cB f16))))
def f16a4 : RAnn := ⟨[1, 2, 3, 8, 13, 15, 16, 17, 18], []⟩
def f16c : Code := (.seq (.region 0 f16o0 false) (.seq (.seq (.region 1 f16o1 false) (.seq (.region 2 f16o2 false) (.cond (.tmp 13) (.seq (.region 3 f16o3 false) .ret) .skip))) (.seq (.region 4 f16o4 false) .ret)))
def f16n : List (Nat × RAnn) := [(0, f16a0), (1, f16a1), (2, f16a2), (3, f16a3), (4, f16a4)]
noncomputable def f67o0 : Array Oper := cO (cL (cB f67))
def f67a0 : RAnn := ⟨[0, 4], []⟩
noncomputable def f67o1 : Array Oper := cO (cL (cR (cB f67)))
def f67a1 : RAnn := ⟨[1, 2, 5, 6, 7, 8, 9, 10, 11, 12, 13, 14, 15, 16], []⟩
def f67c : Code := (.seq (.region 0 f67o0 false) (.seq (.region 1 f67o1 false) .ret))
def f67n : List (Nat × RAnn) := [(0, f67a0), (1, f67a1)]
noncomputable def f37o0 : Array Oper := cO (cL (cB f37))
def f37a0 : RAnn := ⟨[0, 6, 7], []⟩
noncomputable def f37o1 : Array Oper := cO (cL (cL (cR (cB f37))))
def f37a1 : RAnn := ⟨[9, 10, 11, 12], []⟩
noncomputable def f37o2 : Array Oper := cO (cL (cR (cL (cR (cB f37)))))
def f37a2 : RAnn := ⟨[13], []⟩
noncomputable def f37o3 : Array Oper := cO (cL (cL (cR (cR (cL (cR (cB f37)))))))
def f37a3 : RAnn := ⟨[1, 2, 3, 8, 14, 15], []⟩
noncomputable def f37o4 : Array Oper := cO (cL (cR (cR (cB f37))))
def f37a4 : RAnn := ⟨[1, 2, 3, 8, 14, 16, 17, 18, 19, 20, 21, 22], []⟩
def f37c : Code := (.seq (.region 0 f37o0 false) (.seq (.seq (.region 1 f37o1 false) (.seq (.region 2 f37o2 false) (.cond (.tmp 14) (.seq (.region 3 f37o3 false) .ret) .skip))) (.seq (.region 4 f37o4 false) .ret)))
def f37n : List (Nat × RAnn) := [(0, f37a0), (1, f37a1), (2, f37a2), (3, f37a3), (4, f37a4)]
noncomputable def f43v12o0 : Array Oper := cO (cL (cB f43))
def f43v12a0 : RAnn := ⟨[0, 3], []⟩
noncomputable def f43v12o1 : Array Oper := cO (cL (cR (cB f43)))
def f43v12a1 : RAnn := ⟨[1, 2, 4, 5, 6, 7], []⟩
def f43v12c : Code := (.seq (.region 0 f43v12o0 false) (.seq (.region 1 f43v12o1 false) .ret))
def f43v12n : List (Nat × RAnn) := [(0, f43v12a0), (1, f43v12a1)]
noncomputable def f41v12o0 : Array Oper := cO (cL (cB f41))
def f41v12a0 : RAnn := ⟨[3], []⟩
noncomputable def f41v12o1 : Array Oper := cO (cL (cR (cB f41)))
def f41v12a1 : RAnn := ⟨[0, 1, 4, 5, 6, 7], []⟩
def f41v12c : Code := (.seq (.region 0 f41v12o0 false) (.seq (.region 1 f41v12o1 false) .ret))
def f41v12n : List (Nat × RAnn) := [(0, f41v12a0), (1, f41v12a1)]
noncomputable def f40o0 : Array Oper := cO (cL (cB f40))
def f40a0 : RAnn := ⟨[6], []⟩
noncomputable def f40o1 : Array Oper := cO (cL (cR (cB f40)))
def f40a1 : RAnn := ⟨[1, 2, 8, 9, 10], []⟩
noncomputable def f40o2 : Array Oper := cO (cL (cL (cR (cR (cB f40)))))
def f40a2 : RAnn := ⟨[0], []⟩
noncomputable def f40o3 : Array Oper := cO (cL (cL (cR (cL (cR (cR (cB f40)))))))
def f40a3 : RAnn := ⟨[13], []⟩
noncomputable def f40o4 : Array Oper := cO (cL (cL (cR (cL (cR (cL (cR (cR (cB f40)))))))))
def f40a4 : RAnn := ⟨[7, 11, 12, 14, 15], []⟩
noncomputable def f40o5 : Array Oper := cO (cL (cR (cR (cL (cR (cL (cR (cR (cB f40)))))))))
def f40a5 : RAnn := ⟨[12, 17], []⟩
noncomputable def f40o6 : Array Oper := cO (cL (cL (cR (cR (cR (cL (cR (cL (cR (cR (cB f40)))))))))))
def f40a6 : RAnn := ⟨[7, 11, 16, 18, 19], []⟩
noncomputable def f40o7 : Array Oper := cO (cL (cR (cR (cR (cR (cL (cR (cL (cR (cR (cB f40)))))))))))
def f40a7 : RAnn := ⟨[16, 21], []⟩
noncomputable def f40o8 : Array Oper := cO (cL (cL (cR (cR (cR (cR (cR (cL (cR (cL (cR (cR (cB f40)))))))))))))
def f40a8 : RAnn := ⟨[7, 11, 20, 22, 23], []⟩
noncomputable def f40o9 : Array Oper := cO (cL (cR (cR (cR (cR (cR (cR (cL (cR (cL (cR (cR (cB f40)))))))))))))
def f40a9 : RAnn := ⟨[20, 25], []⟩
noncomputable def f40o10 : Array Oper := cO (cL (cL (cR (cR (cR (cR (cR (cR (cR (cL (cR (cL (cR (cR (cB f40)))))))))))))))
def f40a10 : RAnn := ⟨[7, 11, 24, 26, 27], []⟩
noncomputable def f40o11 : Array Oper := cO (cL (cR (cR (cR (cR (cR (cR (cR (cR (cL (cR (cL (cR (cR (cB f40)))))))))))))))
def f40a11 : RAnn := ⟨[11, 24, 29], []⟩
noncomputable def f40o12 : Array Oper := cO (cL (cL (cR (cR (cR (cR (cR (cR (cR (cR (cR (cL (cR (cL (cR (cR (cB f40)))))))))))))))))
def f40a12 : RAnn := ⟨[7, 28, 30, 31], []⟩
noncomputable def f40o13 : Array Oper := cO (cL (cR (cR (cR (cB f40)))))
def f40a13 : RAnn := ⟨[7, 28, 32, 33], []⟩
def f40c : Code := (.seq (.region 0 f40o0 false) (.seq (.region 1 f40o1 false) (.seq (.seq (.region 2 f40o2 false) (.block 0 (.seq (.region 3 f40o3 false) (.cond (.tmp 12) (.seq (.region 4 f40o4 false) .ret) (.seq (.region 5 f40o5 false) (.cond (.tmp 16) (.seq (.region 6 f40o6 false) .ret) (.seq (.region 7 f40o7 false) (.cond (.tmp 20) (.seq (.region 8 f40o8 false) .ret) (.seq (.region 9 f40o9 false) (.cond (.tmp 24) (.seq (.region 10 f40o10 false) .ret) (.seq (.region 11 f40o11 false) (.cond (.tmp 28) (.seq (.region 12 f40o12 false) .ret) .skip)))))))))))) (.seq (.region 13 f40o13 false) .ret))))
def f40n : List (Nat × RAnn) := [(0, f40a0), (1, f40a1), (2, f40a2), (3, f40a3), (4, f40a4), (5, f40a5), (6, f40a6), (7, f40a7), (8, f40a8), (9, f40a9), (10, f40a10), (11, f40a11), (12, f40a12), (13, f40a13)]
noncomputable def f38o0 : Array Oper := cO (cL (cB f38))
def f38a0 : RAnn := ⟨[0, 4], []⟩
noncomputable def f38o1 : Array Oper := cO (cL (cR (cB f38)))
def f38a1 : RAnn := ⟨[6, 8, 9, 10, 11, 12, 13, 14], []⟩
noncomputable def f38o2 : Array Oper := cO (cL (cR (cR (cB f38))))
def f38a2 : RAnn := ⟨[1, 5, 15, 16, 17, 18, 19], []⟩
noncomputable def f38o3 : Array Oper := cO (cL (cR (cR (cR (cB f38)))))
def f38a3 : RAnn := ⟨[2, 3, 7, 20, 21, 22, 23, 24, 25, 26, 27, 28, 29, 30, 31, 32, 33, 34, 35, 36, 37, 38, 39, 40, 41, 42, 43], []⟩
def f38c : Code := (.seq (.region 0 f38o0 false) (.seq (.region 1 f38o1 false) (.seq (.region 2 f38o2 false) (.seq (.region 3 f38o3 true) .ret))))
def f38n : List (Nat × RAnn) := [(0, f38a0), (1, f38a1), (2, f38a2), (3, f38a3)]
noncomputable def f17o0 : Array Oper := cO (cL (cB f17))
def f17a0 : RAnn := ⟨[0, 3, 8, 9], []⟩
noncomputable def f17o1 : Array Oper := cO (cL (cR (cB f17)))
def f17a1 : RAnn := ⟨[15, 16, 17, 18, 19, 20, 21], []⟩
noncomputable def f17o2 : Array Oper := cO (cL (cL (cL (cR (cR (cB f17))))))
def f17a2 : RAnn := ⟨[23, 24], []⟩
noncomputable def f17o3 : Array Oper := cO (cL (cL (cR (cL (cL (cR (cR (cB f17))))))))
def f17a3 : RAnn := ⟨[1, 2, 4, 7, 10, 11, 22, 25], []⟩
noncomputable def f17o4 : Array Oper := cO (cL (cR (cR (cL (cL (cR (cR (cB f17))))))))
def f17a4 : RAnn := ⟨[10, 11, 22, 27, 28], []⟩
noncomputable def f17o5 : Array Oper := cO (cL (cL (cR (cR (cR (cL (cL (cR (cR (cB f17))))))))))
def f17a5 : RAnn := ⟨[1, 2, 4, 7, 26], []⟩
noncomputable def f17o6 : Array Oper := cO (cL (cR (cR (cR (cB f17)))))
def f17a6 : RAnn := ⟨[1, 4, 26, 29, 30, 31, 32, 33, 34, 35, 36], []⟩
noncomputable def f17o7 : Array Oper := cO (cL (cL (cR (cR (cR (cR (cB f17)))))))
def f17a7 : RAnn := ⟨[37], []⟩
noncomputable def f17o8 : Array Oper := cO (cL (cL (cR (cL (cR (cR (cR (cR (cB f17)))))))))
def f17a8 : RAnn := ⟨[2, 7, 11, 12, 38, 39], []⟩
noncomputable def f17o9 : Array Oper := cO (cL (cR (cR (cR (cR (cR (cB f17)))))))
def f17a9 : RAnn := ⟨[11, 38, 40], []⟩
noncomputable def f17o10 : Array Oper := cO (cL (cR (cR (cR (cR (cR (cR (cB f17))))))))
def f17a10 : RAnn := ⟨[41], []⟩
noncomputable def f17o11 : Array Oper := cO (cL (cR (cR (cR (cR (cR (cR (cR (cB f17)))))))))
def f17a11 : RAnn := ⟨[2, 7, 12, 13, 14, 42, 43, 44, 45, 46, 47, 48, 49], []⟩
def f17c : Code := (.seq (.region 0 f17o0 false) (.seq (.region 1 f17o1 false) (.seq (.block 0 (.seq (.region 2 f17o2 false) (.cond (.tmp 22) (.seq (.region 3 f17o3 false) .ret) (.seq (.region 4 f17o4 false) (.cond (.tmp 26) (.seq (.region 5 f17o5 false) .ret) .skip))))) (.seq (.region 6 f17o6 false) (.seq (.seq (.region 7 f17o7 false) (.cond (.tmp 38) (.seq (.region 8 f17o8 false) .ret) .skip)) (.seq (.region 9 f17o9 false) (.seq (.region 10 f17o10 false) (.seq (.region 11 f17o11 false) .ret))))))))
def f17n : List (Nat × RAnn) := [(0, f17a0), (1, f17a1), (2, f17a2), (3, f17a3), (4, f17a4), (5, f17a5), (6, f17a6), (7, f17a7), (8, f17a8), (9, f17a9), (10, f17a10), (11, f17a11)]
noncomputable def f45o0 : Array Oper := cO (cL (cB f45))
def f45a0 : RAnn := ⟨[0, 6, 7], []⟩
noncomputable def f45o1 : Array Oper := cO (cL (cL (cR (cB f45))))
def f45a1 : RAnn := ⟨[9, 10, 11, 12], []⟩
noncomputable def f45o2 : Array Oper := cO (cL (cR (cL (cR (cB f45)))))
def f45a2 : RAnn := ⟨[13], []⟩
noncomputable def f45o3 : Array Oper := cO (cL (cL (cR (cR (cL (cR (cB f45)))))))
def f45a3 : RAnn := ⟨[1, 2, 3, 8, 14, 15], []⟩
noncomputable def f45o4 : Array Oper := cO (cL (cR (cR (cB f45))))
def f45a4 : RAnn := ⟨[1, 2, 3, 8, 14, 16, 17, 18, 19, 20, 21, 22, 23, 24, 25, 26, 27, 28, 29, 30, 31, 32, 33, 34, 35], []⟩
def f45c : Code := (.seq (.region 0 f45o0 false) (.seq (.seq (.region 1 f45o1 false) (.seq (.region 2 f45o2 false) (.cond (.tmp 14) (.seq (.region 3 f45o3 false) .ret) .skip))) (.seq (.region 4 f45o4 false) .ret)))
def f45n : List (Nat × RAnn) := [(0, f45a0), (1, f45a1), (2, f45a2), (3, f45a3), (4, f45a4)]
noncomputable def f54o0 : Array Oper := cO (cL (cB f54))
def f54a0 : RAnn := ⟨[0, 8, 9, 10], []⟩
noncomputable def f54o1 : Array Oper := cO (cL (cR (cB f54)))
def f54a1 : RAnn := ⟨[14, 15, 16, 17, 18, 19, 20], []⟩
noncomputable def f54o2 : Array Oper := cO (cL (cL (cL (cR (cR (cB f54))))))
def f54a2 : RAnn := ⟨[22, 23], []⟩
noncomputable def f54o3 : Array Oper := cO (cL (cL (cR (cL (cL (cR (cR (cB f54))))))))
def f54a3 : RAnn := ⟨[1, 2, 3, 4, 11, 12, 21, 24], []⟩
noncomputable def f54o4 : Array Oper := cO (cL (cR (cR (cL (cL (cR (cR (cB f54))))))))
def f54a4 : RAnn := ⟨[11, 12, 21, 26, 27, 28, 29, 30, 31, 32, 33, 34, 35, 36, 37, 38, 39, 40, 41, 42], []⟩
noncomputable def f54o5 : Array Oper := cO (cL (cL (cR (cR (cR (cL (cL (cR (cR (cB f54))))))))))
def f54a5 : RAnn := ⟨[1, 2, 3, 4, 25], []⟩
noncomputable def f54o6 : Array Oper := cO (cL (cR (cR (cR (cB f54)))))
def f54a6 : RAnn := ⟨[1, 3, 4, 25, 43, 44, 45, 46, 47, 48, 49, 50, 51], []⟩
noncomputable def f54o7 : Array Oper := cO (cL (cL (cR (cR (cR (cR (cB f54)))))))
def f54a7 : RAnn := ⟨[52, 53, 54, 55, 56, 57, 58], []⟩
noncomputable def f54o8 : Array Oper := cO (cL (cL (cR (cL (cR (cR (cR (cR (cB f54)))))))))
def f54a8 : RAnn := ⟨[2, 13, 59], []⟩
noncomputable def f54o9 : Array Oper := cO (cL (cR (cR (cR (cR (cR (cB f54)))))))
def f54a9 : RAnn := ⟨[2, 13, 59, 60, 61, 62, 63, 64, 65, 66, 67, 68], []⟩
def f54c : Code := (.seq (.region 0 f54o0 false) (.seq (.region 1 f54o1 false) (.seq (.block 0 (.seq (.region 2 f54o2 false) (.cond (.tmp 21) (.seq (.region 3 f54o3 false) .ret) (.seq (.region 4 f54o4 false) (.cond (.tmp 25) (.seq (.region 5 f54o5 false) .ret) .skip))))) (.seq (.region 6 f54o6 false) (.seq (.seq (.region 7 f54o7 false) (.cond (.tmp 59) (.seq (.region 8 f54o8 false) .ret) .skip)) (.seq (.region 9 f54o9 false) .ret))))))
def f54n : List (Nat × RAnn) := [(0, f54a0), (1, f54a1), (2, f54a2), (3, f54a3), (4, f54a4), (5, f54a5), (6, f54a6), (7, f54a7), (8, f54a8), (9, f54a9)]
noncomputable def f74o0 : Array Oper := cO (cL (cB f74))
def f74a0 : RAnn := ⟨[6], []⟩
noncomputable def f74o1 : Array Oper := cO (cL (cL (cR (cB f74))))
def f74a1 : RAnn := ⟨[1], []⟩
noncomputable def f74o2 : Array Oper := cO (cL (cL (cR (cL (cR (cB f74))))))
def f74a2 : RAnn := ⟨[9], []⟩
noncomputable def f74o3 : Array Oper := cO (cL (cL (cR (cL (cR (cL (cR (cB f74))))))))
def f74a3 : RAnn := ⟨[0, 2, 7, 8, 10, 11, 12], []⟩
noncomputable def f74o4 : Array Oper := cO (cL (cR (cR (cL (cR (cL (cR (cB f74))))))))
def f74a4 : RAnn := ⟨[8, 14], []⟩
noncomputable def f74o5 : Array Oper := cO (cL (cL (cR (cR (cR (cL (cR (cL (cR (cB f74))))))))))
def f74a5 : RAnn := ⟨[0, 2, 7, 13, 15, 16, 17], []⟩
noncomputable def f74o6 : Array Oper := cO (cL (cR (cR (cR (cR (cL (cR (cL (cR (cB f74))))))))))
def f74a6 : RAnn := ⟨[13, 19], []⟩
noncomputable def f74o7 : Array Oper := cO (cL (cL (cR (cR (cR (cR (cR (cL (cR (cL (cR (cB f74))))))))))))
def f74a7 : RAnn := ⟨[0, 2, 7, 18, 20, 21, 22], []⟩
noncomputable def f74o8 : Array Oper := cO (cL (cR (cR (cR (cR (cR (cR (cL (cR (cL (cR (cB f74))))))))))))
def f74a8 : RAnn := ⟨[18, 24], []⟩
noncomputable def f74o9 : Array Oper := cO (cL (cL (cR (cR (cR (cR (cR (cR (cR (cL (cR (cL (cR (cB f74))))))))))))))
def f74a9 : RAnn := ⟨[0, 2, 7, 23, 25, 26, 27], []⟩
noncomputable def f74o10 : Array Oper := cO (cL (cR (cR (cR (cR (cR (cR (cR (cR (cL (cR (cL (cR (cB f74))))))))))))))
def f74a10 : RAnn := ⟨[7, 23, 29], []⟩
noncomputable def f74o11 : Array Oper := cO (cL (cL (cR (cR (cR (cR (cR (cR (cR (cR (cR (cL (cR (cL (cR (cB f74))))))))))))))))
def f74a11 : RAnn := ⟨[0, 2, 28, 30, 31, 32], []⟩
noncomputable def f74o12 : Array Oper := cO (cL (cR (cR (cB f74))))
def f74a12 : RAnn := ⟨[0, 2, 28, 33, 34, 35], []⟩
def f74c : Code := (.seq (.region 0 f74o0 false) (.seq (.seq (.region 1 f74o1 false) (.block 0 (.seq (.region 2 f74o2 false) (.cond (.tmp 8) (.seq (.region 3 f74o3 false) .ret) (.seq (.region 4 f74o4 false) (.cond (.tmp 13) (.seq (.region 5 f74o5 false) .ret) (.seq (.region 6 f74o6 false) (.cond (.tmp 18) (.seq (.region 7 f74o7 false) .ret) (.seq (.region 8 f74o8 false) (.cond (.tmp 23) (.seq (.region 9 f74o9 false) .ret) (.seq (.region 10 f74o10 false) (.cond (.tmp 28) (.seq (.region 11 f74o11 false) .ret) .skip)))))))))))) (.seq (.region 12 f74o12 false) .ret)))
def f74n : List (Nat × RAnn) := [(0, f74a0), (1, f74a1), (2, f74a2), (3, f74a3), (4, f74a4), (5, f74a5), (6, f74a6), (7, f74a7), (8, f74a8), (9, f74a9), (10, f74a10), (11, f74a11), (12, f74a12)]
noncomputable def f46o0 : Array Oper := cO (cL (cB f46))
def f46a0 : RAnn := ⟨[0, 2, 8], []⟩
noncomputable def f46o1 : Array Oper := cO (cL (cR (cB f46)))
def f46a1 : RAnn := ⟨[10, 14, 15, 16, 17, 18, 19, 20, 21], []⟩
noncomputable def f46o2 : Array Oper := cO (cL (cR (cR (cB f46))))
def f46a2 : RAnn := ⟨[1, 3, 4, 9, 22, 23, 24, 25, 26, 27, 28, 29, 30], []⟩
noncomputable def f46o3 : Array Oper := cO (cL (cR (cR (cR (cB f46)))))
def f46a3 : RAnn := ⟨[6, 11, 12, 13, 31, 32, 33, 34, 35, 36, 37, 38, 39, 40, 41, 42, 43], []⟩
def f46c : Code := (.seq (.region 0 f46o0 false) (.seq (.region 1 f46o1 false) (.seq (.region 2 f46o2 false) (.seq (.region 3 f46o3 false) .ret))))
def f46n : List (Nat × RAnn) := [(0, f46a0), (1, f46a1), (2, f46a2), (3, f46a3)]
noncomputable def f18o0 : Array Oper := cO (cL (cB f18))
def f18a0 : RAnn := ⟨[0, 8, 9], []⟩
noncomputable def f18o1 : Array Oper := cO (cL (cL (cR (cB f18))))
def f18a1 : RAnn := ⟨[17, 18, 19], []⟩
noncomputable def f18o2 : Array Oper := cO (cL (cR (cL (cR (cB f18)))))
def f18a2 : RAnn := ⟨[20], []⟩
noncomputable def f18o3 : Array Oper := cO (cL (cL (cR (cR (cL (cR (cB f18)))))))
def f18a3 : RAnn := ⟨[1, 2, 3, 4, 10, 21, 22], []⟩
noncomputable def f18o4 : Array Oper := cO (cL (cR (cR (cB f18))))
def f18a4 : RAnn := ⟨[10, 12, 21, 23, 24, 25, 26, 27, 28, 29], []⟩
noncomputable def f18o5 : Array Oper := cO (cL (cL (cL (cR (cR (cR (cB f18)))))))
def f18a5 : RAnn := ⟨[11, 31, 32], []⟩
noncomputable def f18o6 : Array Oper := cO (cL (cL (cR (cL (cL (cR (cR (cR (cB f18)))))))))
def f18a6 : RAnn := ⟨[1, 2, 3, 4, 30], []⟩
noncomputable def f18o7 : Array Oper := cO (cL (cR (cR (cL (cL (cR (cR (cR (cB f18)))))))))
def f18a7 : RAnn := ⟨[30, 34, 35, 36, 37, 38], []⟩
noncomputable def f18o8 : Array Oper := cO (cL (cL (cR (cR (cR (cL (cL (cR (cR (cR (cB f18)))))))))))
def f18a8 : RAnn := ⟨[1, 2, 3, 4, 33], []⟩
noncomputable def f18o9 : Array Oper := cO (cL (cR (cR (cR (cR (cB f18))))))
def f18a9 : RAnn := ⟨[33, 39, 40, 41], []⟩
noncomputable def f18o10 : Array Oper := cO (cL (cL (cR (cR (cR (cR (cR (cB f18))))))))
def f18a10 : RAnn := ⟨[], []⟩
noncomputable def f18o11 : Array Oper := cO (cL (cL (cL (cL (cR (cL (cR (cR (cR (cR (cR (cB f18))))))))))))
def f18a11 : RAnn := ⟨[42, 43, 44], []⟩
noncomputable def f18o12 : Array Oper := cO (cR (cR (cL (cL (cR (cL (cR (cR (cR (cR (cR (cB f18))))))))))))
def f18a12 : RAnn := ⟨[46, 47], []⟩
noncomputable def f18o13 : Array Oper := cO (cL (cL (cL (cR (cL (cL (cR (cL (cR (cR (cR (cR (cR (cB f18))))))))))))))
def f18a13 : RAnn := ⟨[45], []⟩
noncomputable def f18o14 : Array Oper := cO (cL (cL (cR (cL (cL (cR (cL (cL (cR (cL (cR (cR (cR (cR (cR (cB f18))))))))))))))))
def f18a14 : RAnn := ⟨[], []⟩
noncomputable def f18o15 : Array Oper := cO (cL (cL (cL (cL (cR (cL (cR (cL (cL (cR (cL (cL (cR (cL (cR (cR (cR (cR (cR (cB f18))))))))))))))))))))
def f18a15 : RAnn := ⟨[48, 49, 50, 51, 52, 53], []⟩
noncomputable def f18o16 : Array Oper := cO (cR (cR (cL (cL (cR (cL (cR (cL (cL (cR (cL (cL (cR (cL (cR (cR (cR (cR (cR (cB f18))))))))))))))))))))
def f18a16 : RAnn := ⟨[55, 56], []⟩
noncomputable def f18o17 : Array Oper := cO (cL (cL (cR (cL (cL (cR (cL (cR (cL (cL (cR (cL (cL (cR (cL (cR (cR (cR (cR (cR (cB f18)))))))))))))))))))))
def f18a17 : RAnn := ⟨[54, 57, 58, 59, 60, 61, 62, 63, 64, 65, 66, 67, 68, 69, 70], [(14, { eff := true })]⟩
noncomputable def f18o18 : Array Oper := cO (cR (cR (cL (cL (cR (cL (cL (cR (cL (cR (cR (cR (cR (cR (cB f18)))))))))))))))
def f18a18 : RAnn := ⟨[15, 16, 54, 71, 72, 73, 74], []⟩
noncomputable def f18o19 : Array Oper := cO (cL (cR (cR (cR (cR (cR (cR (cB f18))))))))
def f18a19 : RAnn := ⟨[1, 2, 3, 4, 13, 14, 45, 75], []⟩
def f18b0 : Code := (.seq (.seq (.region 15 f18o15 false) (.cond (.tmp 54) .skip (.exit 3))) (.seq (.block 4 (.region 17 f18o17 true)) (.region 16 f18o16 false)))
def f18b1 : Code := (.seq (.seq (.region 11 f18o11 false) (.cond (.tmp 45) .skip (.exit 1))) (.seq (.block 2 (.seq (.region 13 f18o13 false) (.seq (.seq (.region 14 f18o14 false) (.block 3 (.loop f18b0))) (.region 18 f18o18 false)))) (.region 12 f18o12 false)))
def f18c : Code := (.seq (.region 0 f18o0 false) (.seq (.seq (.region 1 f18o1 false) (.seq (.region 2 f18o2 false) (.cond (.tmp 21) (.seq (.region 3 f18o3 false) .ret) .skip))) (.seq (.region 4 f18o4 false) (.seq (.block 0 (.seq (.region 5 f18o5 false) (.cond (.tmp 30) (.seq (.region 6 f18o6 false) .ret) (.seq (.region 7 f18o7 false) (.cond (.tmp 33) (.seq (.region 8 f18o8 false) .ret) .skip))))) (.seq (.region 9 f18o9 false) (.seq (.seq (.region 10 f18o10 false) (.block 1 (.loop f18b1))) (.seq (.region 19 f18o19 false) .ret)))))))
def f18n : List (Nat × RAnn) := [(0, f18a0), (1, f18a1), (2, f18a2), (3, f18a3), (4, f18a4), (5, f18a5), (6, f18a6), (7, f18a7), (8, f18a8), (9, f18a9), (10, f18a10), (11, f18a11), (12, f18a12), (13, f18a13), (14, f18a14), (15, f18a15), (16, f18a16), (17, f18a17), (18, f18a18), (19, f18a19)]
noncomputable def f4o0 : Array Oper := cO (cL (cB f4))
def f4a0 : RAnn := ⟨[0, 4], []⟩
noncomputable def f4o1 : Array Oper := cO (cL (cL (cR (cB f4))))
def f4a1 : RAnn := ⟨[9, 10, 11, 12, 13, 14, 15, 16, 17, 18, 19, 20], []⟩
noncomputable def f4o2 : Array Oper := cO (cL (cL (cR (cL (cR (cB f4))))))
def f4a2 : RAnn := ⟨[1, 2, 21, 22], []⟩
noncomputable def f4o3 : Array Oper := cO (cL (cR (cR (cB f4))))
def f4a3 : RAnn := ⟨[21, 23, 24, 25, 26, 27, 28, 29, 30, 31, 32], []⟩
noncomputable def f4o4 : Array Oper := cO (cL (cR (cR (cR (cB f4)))))
def f4a4 : RAnn := ⟨[33, 34, 35, 36, 37, 38, 39, 40, 41, 42], []⟩
noncomputable def f4o5 : Array Oper := cO (cL (cL (cR (cR (cR (cR (cB f4)))))))
def f4a5 : RAnn := ⟨[5, 6, 7, 8, 43, 44, 45, 46, 47, 48, 49], []⟩
noncomputable def f4o6 : Array Oper := cO (cL (cL (cR (cL (cR (cR (cR (cR (cB f4)))))))))
def f4a6 : RAnn := ⟨[1, 2, 50], []⟩
noncomputable def f4o7 : Array Oper := cO (cL (cR (cR (cR (cR (cR (cB f4)))))))
def f4a7 : RAnn := ⟨[50, 51, 52, 53, 54, 55, 56, 57, 58, 59, 60, 61], []⟩
noncomputable def f4o8 : Array Oper := cO (cL (cR (cR (cR (cR (cR (cR (cB f4))))))))
def f4a8 : RAnn := ⟨[1, 2, 62, 63, 64, 65, 66, 67, 68, 69, 70, 71, 72], []⟩
noncomputable def f4o9 : Array Oper := cO (cL (cR (cR (cR (cR (cR (cR (cR (cB f4)))))))))
def f4a9 : RAnn := ⟨[5, 6, 7, 8, 73, 74, 75, 76, 77, 78, 79, 80, 81, 82, 83], []⟩
def f4c : Code := (.seq (.region 0 f4o0 false) (.seq (.seq (.region 1 f4o1 false) (.cond (.tmp 21) (.seq (.region 2 f4o2 false) .ret) .skip)) (.seq (.region 3 f4o3 false) (.seq (.region 4 f4o4 false) (.seq (.seq (.region 5 f4o5 false) (.cond (.tmp 50) (.seq (.region 6 f4o6 false) .ret) .skip)) (.seq (.region 7 f4o7 false) (.seq (.region 8 f4o8 false) (.seq (.region 9 f4o9 false) .ret))))))))
def f4n : List (Nat × RAnn) := [(0, f4a0), (1, f4a1), (2, f4a2), (3, f4a3), (4, f4a4), (5, f4a5), (6, f4a6), (7, f4a7), (8, f4a8), (9, f4a9)]
def ANNS : List (Nat × FAnn) := [(4, ⟨f4n, [], []⟩), (8, ⟨f8n, [], []⟩), (9, ⟨f9n, [], []⟩), (10, ⟨f10n, [], []⟩), (11, ⟨f11n, [], []⟩), (15, ⟨f15n, [], []⟩), (16, ⟨f16n, [], []⟩), (17, ⟨f17n, [], []⟩), (18, ⟨f18n, [], []⟩), (19, ⟨f19n, [], []⟩), (28, ⟨f28n, [], []⟩), (29, ⟨f29n, [], []⟩), (30, ⟨f30n, [], []⟩), (33, ⟨f33n, [], []⟩), (34, ⟨f34n, [], []⟩), (35, ⟨f35n, [], []⟩), (36, ⟨f36n, [], []⟩), (37, ⟨f37n, [], []⟩), (38, ⟨f38n, [], []⟩), (39, ⟨f39n, [], []⟩), (40, ⟨f40n, [], []⟩), (41, ⟨f41v12n, [], []⟩), (42, ⟨f42n, [], []⟩), (43, ⟨f43v12n, [], []⟩), (44, ⟨f44n, [], []⟩), (45, ⟨f45n, [], []⟩), (46, ⟨f46n, [], []⟩), (53, ⟨f53n, [], []⟩), (54, ⟨f54n, [], []⟩), (56, ⟨f56n, [], []⟩), (58, ⟨f58n, [], []⟩), (59, ⟨f59n, [], []⟩), (60, ⟨f60n, [], []⟩), (61, ⟨f61n, [], []⟩), (62, ⟨f62n, [], []⟩), (63, ⟨f63n, [], []⟩), (64, ⟨f64n, [], []⟩), (65, ⟨f65n, [], []⟩), (66, ⟨f66n, [], []⟩), (67, ⟨f67n, [], []⟩), (68, ⟨f68n, [], []⟩), (69, ⟨f69n, [], []⟩), (71, ⟨f71n, [], []⟩), (72, ⟨f72n, [], []⟩), (73, ⟨f73n, [], []⟩), (74, ⟨f74n, [], []⟩), (84, ⟨f84n, [], []⟩), (85, ⟨f85n, [], []⟩), (86, ⟨f86n, [], []⟩), (87, ⟨f87n, [], []⟩), (88, ⟨f88n, [], []⟩), (89, ⟨f89n, [], []⟩), (90, ⟨f90n, [], []⟩), (91, ⟨f91n, [], []⟩), (92, ⟨f92n, [], []⟩), (94, ⟨f94n, [], []⟩), (100, ⟨f100n, [], []⟩), (101, ⟨f101n, [], []⟩), (102, ⟨f102n, [], []⟩), (103, ⟨f103n, [], []⟩), (104, ⟨f104n, [], []⟩), (109, ⟨f109n, [], []⟩), (110, ⟨f110n, [], []⟩), (111, ⟨f111n, [], []⟩), (112, ⟨f112n, [], []⟩), (113, ⟨f113n, [], []⟩), (114, ⟨f114n, [], []⟩), (115, ⟨f115n, [], []⟩), (116, ⟨f116n, [], []⟩), (117, ⟨f117n, [], []⟩), (118, ⟨f118n, [], []⟩), (119, ⟨f119n, [], []⟩)]
def anns : FuncId → FAnn := fun f => (look f ANNS).getD {}
def ext : ExtH := fun f args => bif Nat.beq f 108 then some (extReverseInt args) else bif Nat.beq f 55 then some (extStrRep args) else bif Nat.beq f 57 then some (extStrJoin args) else bif Nat.beq f 70 then some (extStrCmp args) else none
noncomputable abbrev EV (k : Nat) : CallH := evF prog anns ext k
noncomputable abbrev RE (k : Nat) (a : RAnn) (o : Array Oper) (d : Bool) (s : St) : Option St := regionE prog (EV k) a o d s
abbrev I (n : Int) : V := .int .i64 n
abbrev sType (l : List T_api_Type) : V := .sl 0 8 (List.map eType l)
abbrev sField (l : List T_api_Field) : V := .sl 0 3 (List.map eField l)
abbrev sSearch (l : List T_api_Search) : V := .sl 0 4 (List.map eSearch l)
abbrev sTerm (l : List T_api_Term) : V := .sl 0 3 (List.map eTerm l)
abbrev sI (l : List Int) : V := .sl 0 1 (List.map I l)
def law12_Large_fin : Bool → V × List V := fun r => ((Bo r), [])
theorem f8r0 (k : Nat) (a0 : T_api_Base) : RE k f8a0 f8o0 false ⟨[(0, (eBase a0))], [], 95⟩ = some ⟨[(1, (Pt 1))], [(1, vS 4 (eBase a0))], 95⟩ :=
  rE rfl
theorem f8r1 (k : Nat) (a0 : T_api_Base) : RE k f8a1 f8o1 false ⟨[(1, (Pt 1))], [(1, vS 4 (eBase a0))], 95⟩ = ((bif (decide ((a0.fTypes.length : Int) > 20)) then (some (true)) else (bif (decide ((a0.fIndexes.length : Int) > 20)) then (some (true)) else (some ((decide ((a0.fName.length : Int) > 40))))))).map (fun (o : Bool) => (⟨[(1, (Pt 1)), (21, (Bo o))], [(1, vS 4 (eBase a0))], 95⟩ : St)) := by
  refine rg ?_
  refine ra 2 2 ⟨[(1, (Pt 1)), (6, (V.ptr 1 0 2)), (7, (sType a0.fTypes))], [(1, vS 4 (eBase a0))], 95⟩ rfl rfl rfl ?_
  refine et (reg_pure (x := some ()) (w := fun _ => (I (a0.fTypes.length : Int))) rfl rfl rfl rfl (p_len (e := eType) rfl rfl rfl rfl rfl rfl underlying22)) ?_
  refine et some_bind ?_
  refine ba 2 5 ⟨[(1, (Pt 1)), (6, (V.ptr 1 0 2)), (7, (sType a0.fTypes)), (8, (I (a0.fTypes.length : Int))), (9, (Bo (decide ((a0.fTypes.length : Int) > 20)))), (10, (Bo (decide ((a0.fTypes.length : Int) > 20))))], [(1, vS 4 (eBase a0))], 95⟩ rfl rfl rfl ?_
  refine bifE (c := (decide ((a0.fTypes.length : Int) > 20))) (fun hc => ?_) fun hc => ?_
  · rw [hc]
    exact reg_end rfl
  · rw [hc]
    refine ra 2 7 ⟨[(1, (Pt 1)), (6, (V.ptr 1 0 2)), (7, (sType a0.fTypes)), (8, (I (a0.fTypes.length : Int))), (9, (Bo false)), (10, (Bo false)), (11, (V.ptr 1 0 3)), (12, (sSearch a0.fIndexes))], [(1, vS 4 (eBase a0))], 95⟩ rfl rfl rfl ?_
    refine et (reg_pure (x := some ()) (w := fun _ => (I (a0.fIndexes.length : Int))) rfl rfl rfl rfl (p_len (e := eSearch) rfl rfl rfl rfl rfl rfl underlying23)) ?_
    refine et some_bind ?_
    refine ba 3 11 ⟨[(1, (Pt 1)), (6, (V.ptr 1 0 2)), (7, (sType a0.fTypes)), (8, (I (a0.fTypes.length : Int))), (9, (Bo false)), (10, (Bo false)), (11, (V.ptr 1 0 3)), (12, (sSearch a0.fIndexes)), (13, (I (a0.fIndexes.length : Int))), (14, (Bo (decide ((a0.fIndexes.length : Int) > 20)))), (15, (Bo (decide ((a0.fIndexes.length : Int) > 20)))), (16, (Bo (decide ((a0.fIndexes.length : Int) > 20))))], [(1, vS 4 (eBase a0))], 95⟩ rfl rfl rfl ?_
    refine bifE (c := (decide ((a0.fIndexes.length : Int) > 20))) (fun hc => ?_) fun hc => ?_
    · rw [hc]
      exact reg_end rfl
    · rw [hc]
      exact reg_end rfl
theorem f8r2 (k : Nat) (a0 : T_api_Base) : RE k f8a2 f8o2 false ⟨[(1, (Pt 1)), (21, (Bo true))], [(1, vS 4 (eBase a0))], 95⟩ = some ⟨[(2, (Bo true))], [], 95⟩ :=
  rE rfl
theorem f8r3 (k : Nat) (a0 : T_api_Base) : RE k f8a3 f8o3 false ⟨[(1, (Pt 1)), (21, (Bo false))], [(1, vS 4 (eBase a0))], 95⟩ = some ⟨[(1, (Pt 1)), (3, (I 0))], [(1, vS 4 (eBase a0))], 95⟩ :=
  rE rfl
theorem f8r4 (k : Nat) (a0 : T_api_Base) (x17 : Int) : RE k f8a4 f8o4 false ⟨[(1, (Pt 1)), (3, (I x17))], [(1, vS 4 (eBase a0))], 95⟩ = some ⟨[(1, (Pt 1)), (3, (I x17)), (26, (Bo (decide (x17 < (a0.fTypes.length : Int)))))], [(1, vS 4 (eBase a0))], 95⟩ := by
  refine rg ?_
  refine ra 3 3 ⟨[(1, (Pt 1)), (3, (I x17)), (22, (I x17)), (23, (V.ptr 1 0 2)), (24, (sType a0.fTypes))], [(1, vS 4 (eBase a0))], 95⟩ rfl rfl rfl ?_
  refine et (reg_pure (x := some ()) (w := fun _ => (I (a0.fTypes.length : Int))) rfl rfl rfl rfl (p_len (e := eType) rfl rfl rfl rfl rfl rfl underlying22)) ?_
  refine et some_bind ?_
  exact bind_end rfl
theorem f8r6 (k : Nat) (a0 : T_api_Base) (x17 : Int) : RE k f8a6 f8o6 false ⟨[(1, (Pt 1)), (3, (I x17)), (26, (Bo true))], [(1, vS 4 (eBase a0))], 95⟩ = (((idx a0.fTypes x17).bind fun v18 => (bif (decide ((v18.fFields.length : Int) > 20)) then (some (true)) else ((idx a0.fTypes x17).bind fun v19 => (some ((decide ((v19.fName.length : Int) > 40)))))))).map (fun (o : Bool) => (⟨[(1, (Pt 1)), (3, (I x17)), (46, (Bo o))], [(1, vS 4 (eBase a0))], 95⟩ : St)) := by
  refine rg ?_
  refine ra 3 3 ⟨[(1, (Pt 1)), (3, (I x17)), (26, (Bo true)), (29, (V.ptr 1 0 2)), (30, (sType a0.fTypes)), (31, (I x17))], [(1, vS 4 (eBase a0))], 95⟩ rfl rfl rfl ?_
  refine et (reg_pure (x := (idx a0.fTypes x17)) (w := fun v18 => (Pr (eType v18))) rfl rfl rfl rfl (p_index (e := eType) rfl rfl rfl underlying22 rfl (by decide))) ?_
  refine bindE (fun v18 => ?_)
  refine ba 2 6 ⟨[(1, (Pt 1)), (3, (I x17)), (26, (Bo true)), (29, (V.ptr 1 0 2)), (30, (sType a0.fTypes)), (31, (I x17)), (32, (Pr (eType v18))), (33, (Pr (sField v18.fFields))), (34, (sField v18.fFields))], [(1, vS 4 (eBase a0))], 95⟩ rfl rfl rfl ?_
  refine et (reg_pure (x := some ()) (w := fun _ => (I (v18.fFields.length : Int))) rfl rfl rfl rfl (p_len (e := eField) rfl rfl rfl rfl rfl rfl underlying43)) ?_
  refine et some_bind ?_
  refine ba 2 9 ⟨[(1, (Pt 1)), (3, (I x17)), (26, (Bo true)), (29, (V.ptr 1 0 2)), (30, (sType a0.fTypes)), (31, (I x17)), (32, (Pr (eType v18))), (33, (Pr (sField v18.fFields))), (34, (sField v18.fFields)), (35, (I (v18.fFields.length : Int))), (36, (Bo (decide ((v18.fFields.length : Int) > 20)))), (37, (Bo (decide ((v18.fFields.length : Int) > 20))))], [(1, vS 4 (eBase a0))], 95⟩ rfl rfl rfl ?_
  refine bifE (c := (decide ((v18.fFields.length : Int) > 20))) (fun hc => ?_) fun hc => ?_
  · rw [hc]
    exact reg_end rfl
  · rw [hc]
    refine ra 3 12 ⟨[(1, (Pt 1)), (3, (I x17)), (26, (Bo true)), (29, (V.ptr 1 0 2)), (30, (sType a0.fTypes)), (31, (I x17)), (32, (Pr (eType v18))), (33, (Pr (sField v18.fFields))), (34, (sField v18.fFields)), (35, (I (v18.fFields.length : Int))), (36, (Bo false)), (37, (Bo false)), (38, (V.ptr 1 0 2)), (39, (sType a0.fTypes)), (40, (I x17))], [(1, vS 4 (eBase a0))], 95⟩ rfl rfl rfl ?_
    refine et (reg_pure (x := (idx a0.fTypes x17)) (w := fun v19 => (Pr (eType v19))) rfl rfl rfl rfl (p_index (e := eType) rfl rfl rfl underlying22 rfl (by decide))) ?_
    refine bindE (fun v19 => ?_)
    exact bind_end rfl
theorem f8r7 (k : Nat) (a0 : T_api_Base) (x17 : Int) : RE k f8a7 f8o7 false ⟨[(1, (Pt 1)), (3, (I x17)), (46, (Bo true))], [(1, vS 4 (eBase a0))], 95⟩ = some ⟨[(2, (Bo true))], [], 95⟩ :=
  rE rfl
theorem f8r8 (k : Nat) (a0 : T_api_Base) (x17 : Int) : RE k f8a8 f8o8 false ⟨[(1, (Pt 1)), (3, (I x17)), (46, (Bo false))], [(1, vS 4 (eBase a0))], 95⟩ = some ⟨[(1, (Pt 1)), (3, (I x17)), (4, (I 0))], [(1, vS 4 (eBase a0))], 95⟩ :=
  rE rfl
theorem f8r9 (k : Nat) (a0 : T_api_Base) (x17 : Int) (x26 : Int) : RE k f8a9 f8o9 false ⟨[(1, (Pt 1)), (3, (I x17)), (4, (I x26))], [(1, vS 4 (eBase a0))], 95⟩ = (((idx a0.fTypes x17).bind fun v27 => (some ((decide (x26 < (v27.fFields.length : Int))))))).map (fun (o : Bool) => (⟨[(1, (Pt 1)), (3, (I x17)), (4, (I x26)), (55, (Bo o))], [(1, vS 4 (eBase a0))], 95⟩ : St)) := by
  refine rg ?_
  refine ra 4 4 ⟨[(1, (Pt 1)), (3, (I x17)), (4, (I x26)), (47, (I x26)), (48, (V.ptr 1 0 2)), (49, (sType a0.fTypes)), (50, (I x17))], [(1, vS 4 (eBase a0))], 95⟩ rfl rfl rfl ?_
  refine et (reg_pure (x := (idx a0.fTypes x17)) (w := fun v27 => (Pr (eType v27))) rfl rfl rfl rfl (p_index (e := eType) rfl rfl rfl underlying22 rfl (by decide))) ?_
  refine bindE (fun v27 => ?_)
  refine ba 2 7 ⟨[(1, (Pt 1)), (3, (I x17)), (4, (I x26)), (47, (I x26)), (48, (V.ptr 1 0 2)), (49, (sType a0.fTypes)), (50, (I x17)), (51, (Pr (eType v27))), (52, (Pr (sField v27.fFields))), (53, (sField v27.fFields))], [(1, vS 4 (eBase a0))], 95⟩ rfl rfl rfl ?_
  refine et (reg_pure (x := some ()) (w := fun _ => (I (v27.fFields.length : Int))) rfl rfl rfl rfl (p_len (e := eField) rfl rfl rfl rfl rfl rfl underlying43)) ?_
  refine et some_bind ?_
  exact bind_end rfl
theorem f8r11 (k : Nat) (a0 : T_api_Base) (x17 : Int) (x26 : Int) : RE k f8a11 f8o11 false ⟨[(1, (Pt 1)), (3, (I x17)), (4, (I x26)), (55, (Bo true))], [(1, vS 4 (eBase a0))], 95⟩ = (((idx a0.fTypes x17).bind fun v29 => ((idx v29.fFields x26).bind fun v30 => (some ((decide ((v30.fName.length : Int) > 40))))))).map (fun (o : Bool) => (⟨[(1, (Pt 1)), (3, (I x17)), (4, (I x26)), (69, (Bo o))], [(1, vS 4 (eBase a0))], 95⟩ : St)) := by
  refine rg ?_
  refine ra 3 3 ⟨[(1, (Pt 1)), (3, (I x17)), (4, (I x26)), (55, (Bo true)), (58, (V.ptr 1 0 2)), (59, (sType a0.fTypes)), (60, (I x17))], [(1, vS 4 (eBase a0))], 95⟩ rfl rfl rfl ?_
  refine et (reg_pure (x := (idx a0.fTypes x17)) (w := fun v29 => (Pr (eType v29))) rfl rfl rfl rfl (p_index (e := eType) rfl rfl rfl underlying22 rfl (by decide))) ?_
  refine bindE (fun v29 => ?_)
  refine ba 3 7 ⟨[(1, (Pt 1)), (3, (I x17)), (4, (I x26)), (55, (Bo true)), (58, (V.ptr 1 0 2)), (59, (sType a0.fTypes)), (60, (I x17)), (61, (Pr (eType v29))), (62, (Pr (sField v29.fFields))), (63, (sField v29.fFields)), (64, (I x26))], [(1, vS 4 (eBase a0))], 95⟩ rfl rfl rfl ?_
  refine et (reg_pure (x := (idx v29.fFields x26)) (w := fun v30 => (Pr (eField v30))) rfl rfl rfl rfl (p_index (e := eField) rfl rfl rfl underlying43 rfl (by decide))) ?_
  refine bindE (fun v30 => ?_)
  exact bind_end rfl
theorem f8r12 (k : Nat) (a0 : T_api_Base) (x17 : Int) (x26 : Int) : RE k f8a12 f8o12 false ⟨[(1, (Pt 1)), (3, (I x17)), (4, (I x26)), (69, (Bo true))], [(1, vS 4 (eBase a0))], 95⟩ = some ⟨[(2, (Bo true))], [], 95⟩ :=
  rE rfl
theorem f8r10 (k : Nat) (a0 : T_api_Base) (x17 : Int) (x26 : Int) : RE k f8a10 f8o10 false ⟨[(1, (Pt 1)), (3, (I x17)), (4, (I x26)), (69, (Bo false))], [(1, vS 4 (eBase a0))], 95⟩ = some ⟨[(1, (Pt 1)), (3, (I x17)), (4, (I (Go.IntKind.wrap .i64 (x26 + 1))))], [(1, vS 4 (eBase a0))], 95⟩ :=
  rE rfl
theorem law12_Large_L2_ok (k : Nat) (a0 : T_api_Base) (x17 : Int)  (K0 : Int → Option Bool) (Kst : X × St → Option (V × List V)) (hK0 : ∀ (y0 : Int), Kst (X.exit 2, ⟨[(1, (Pt 1)), (3, (I x17)), (4, (I y0)), (55, (Bo false))], [(1, vS 4 (eBase a0))], 95⟩) = (K0 y0).map law12_Large_fin) (hret : ∀ s, Kst (X.ret, s) = endK prog 95 [(eBase a0)] [] [.tmp 2] (X.ret, s)) :
    ∀ (m : Nat) (x26 : Int), (iter (exec prog (EV k) f8n k f8b0) m ⟨[(1, (Pt 1)), (3, (I x17)), (4, (I x26))], [(1, vS 4 (eBase a0))], 95⟩).bind Kst = (law12_Large_L2 a0 x17 K0 m x26).map law12_Large_fin := by
  intro m
  induction m with
  | zero => intros; rfl
  | succ m ih =>
    intro x26
    unfold law12_Large_L2
    refine et k_round ?_
    refine et k_assoc ?_
    refine et (k_region rfl (f8r9 k a0 x17 x26)) ?_
    refine bindE (fun o28 => ?_)
    refine et (k_cond (t := o28) rfl rfl) ?_
    refine bifE2 (fun hc => ?_) fun hc => ?_
    · rw [hc]
      refine et k_skip ?_
      refine et (k_block rfl) ?_
      refine et (k_region rfl (f8r11 k a0 x17 x26)) ?_
      refine bindE (fun o31 => ?_)
      refine et (k_lcond (t := o31) rfl rfl) ?_
      refine bifE2 (fun hc => ?_) fun hc => ?_
      · rw [hc]
        refine et (k_region0 rfl (f8r12 k a0 x17 x26)) ?_
        refine et k_lret ?_
        refine et blk_ret ?_
        refine et loop_ret ?_
        refine et (hret _) ?_
        rfl
      · rw [hc]
        refine et k_lskip ?_
        refine et blk_normal ?_
        refine et (k_lregion0 rfl (f8r10 k a0 x17 x26)) ?_
        refine et loop_normal ?_
        exact ih (Go.IntKind.wrap .i64 (x26 + 1))
    · rw [hc]
      refine et k_exit ?_
      refine et loop_exit ?_
      exact hK0 x26
theorem f8r5 (k : Nat) (a0 : T_api_Base) (x17 : Int) (y32 : Int) : RE k f8a5 f8o5 false ⟨[(1, (Pt 1)), (3, (I x17)), (4, (I y32)), (55, (Bo false))], [(1, vS 4 (eBase a0))], 95⟩ = some ⟨[(1, (Pt 1)), (3, (I (Go.IntKind.wrap .i64 (x17 + 1))))], [(1, vS 4 (eBase a0))], 95⟩ :=
  rE rfl
theorem law12_Large_L1_ok (k : Nat) (a0 : T_api_Base)  (K0 : Int → Option Bool) (Kst : X × St → Option (V × List V)) (hK0 : ∀ (y0 : Int), Kst (X.exit 0, ⟨[(1, (Pt 1)), (3, (I y0)), (26, (Bo false))], [(1, vS 4 (eBase a0))], 95⟩) = (K0 y0).map law12_Large_fin) (hret : ∀ s, Kst (X.ret, s) = endK prog 95 [(eBase a0)] [] [.tmp 2] (X.ret, s)) :
    ∀ (m : Nat) (x17 : Int), (iter (exec prog (EV k) f8n k f8b1) m ⟨[(1, (Pt 1)), (3, (I x17))], [(1, vS 4 (eBase a0))], 95⟩).bind Kst = (law12_Large_L1 k a0 K0 m x17).map law12_Large_fin := by
  intro m
  induction m with
  | zero => intros; rfl
  | succ m ih =>
    intro x17
    unfold law12_Large_L1
    refine et k_round ?_
    refine et k_assoc ?_
    refine et (k_region0 rfl (f8r4 k a0 x17)) ?_
    refine et (k_cond (t := (decide (x17 < (a0.fTypes.length : Int)))) rfl rfl) ?_
    refine bifE2 (fun hc => ?_) fun hc => ?_
    · rw [hc]
      refine et k_skip ?_
      refine et (k_block rfl) ?_
      refine et k_assoc ?_
      refine et (k_region rfl (f8r6 k a0 x17)) ?_
      refine bindE (fun o20 => ?_)
      refine et (k_cond (t := o20) rfl rfl) ?_
      refine bifE2 (fun hc => ?_) fun hc => ?_
      · rw [hc]
        refine et k_assoc ?_
        refine et (k_region0 rfl (f8r7 k a0 x17)) ?_
        refine et k_ret ?_
        refine et blk_ret ?_
        refine et loop_ret ?_
        refine et (hret _) ?_
        rfl
      · rw [hc]
        refine et k_skip ?_
        refine et (k_region0 rfl (f8r8 k a0 x17)) ?_
        refine et (k_lblock rfl) ?_
        refine et k_loop ?_
        refine law12_Large_L2_ok k a0 x17 _ _ ?h_law12_Large_L2_0 ?hr_law12_Large_L2 k 0
        · intro y32
          refine et blk_exit ?_
          refine et k_lskip ?_
          refine et blk_normal ?_
          refine et (k_lregion0 rfl (f8r5 k a0 x17 y32)) ?_
          refine et loop_normal ?_
          exact ih (Go.IntKind.wrap .i64 (x17 + 1))
        · intro s; exact hret s
    · rw [hc]
      refine et k_exit ?_
      refine et loop_exit ?_
      exact hK0 x17
theorem f8r13 (k : Nat) (a0 : T_api_Base) (y33 : Int) : RE k f8a13 f8o13 false ⟨[(1, (Pt 1)), (3, (I y33)), (26, (Bo false))], [(1, vS 4 (eBase a0))], 95⟩ = some ⟨[(1, (Pt 1)), (5, (I 0))], [(1, vS 4 (eBase a0))], 95⟩ :=
  rE rfl
theorem f8r14 (k : Nat) (a0 : T_api_Base) (x37 : Int) : RE k f8a14 f8o14 false ⟨[(1, (Pt 1)), (5, (I x37))], [(1, vS 4 (eBase a0))], 95⟩ = some ⟨[(1, (Pt 1)), (5, (I x37)), (74, (Bo (decide (x37 < (a0.fIndexes.length : Int)))))], [(1, vS 4 (eBase a0))], 95⟩ := by
  refine rg ?_
  refine ra 3 3 ⟨[(1, (Pt 1)), (5, (I x37)), (70, (I x37)), (71, (V.ptr 1 0 3)), (72, (sSearch a0.fIndexes))], [(1, vS 4 (eBase a0))], 95⟩ rfl rfl rfl ?_
  refine et (reg_pure (x := some ()) (w := fun _ => (I (a0.fIndexes.length : Int))) rfl rfl rfl rfl (p_len (e := eSearch) rfl rfl rfl rfl rfl rfl underlying23)) ?_
  refine et some_bind ?_
  exact bind_end rfl
theorem f8r16 (k : Nat) (a0 : T_api_Base) (x37 : Int) : RE k f8a16 f8o16 false ⟨[(1, (Pt 1)), (5, (I x37)), (74, (Bo true))], [(1, vS 4 (eBase a0))], 95⟩ = (((idx a0.fIndexes x37).bind fun v38 => (bif (decide ((v38.fName.length : Int) > 40)) then (some (true)) else ((idx a0.fIndexes x37).bind fun v39 => (some ((decide ((v39.fSparse.length : Int) > 40)))))))).map (fun (o : Bool) => (⟨[(1, (Pt 1)), (5, (I x37)), (94, (Bo o))], [(1, vS 4 (eBase a0))], 95⟩ : St)) := by
  refine rg ?_
  refine ra 3 3 ⟨[(1, (Pt 1)), (5, (I x37)), (74, (Bo true)), (77, (V.ptr 1 0 3)), (78, (sSearch a0.fIndexes)), (79, (I x37))], [(1, vS 4 (eBase a0))], 95⟩ rfl rfl rfl ?_
  refine et (reg_pure (x := (idx a0.fIndexes x37)) (w := fun v38 => (Pr (eSearch v38))) rfl rfl rfl rfl (p_index (e := eSearch) rfl rfl rfl underlying23 rfl (by decide))) ?_
  refine bindE (fun v38 => ?_)
  refine ba 5 9 ⟨[(1, (Pt 1)), (5, (I x37)), (74, (Bo true)), (77, (V.ptr 1 0 3)), (78, (sSearch a0.fIndexes)), (79, (I x37)), (80, (Pr (eSearch v38))), (81, (Pr (Sr v38.fName))), (82, (Sr v38.fName)), (83, (I (v38.fName.length : Int))), (84, (Bo (decide ((v38.fName.length : Int) > 40)))), (85, (Bo (decide ((v38.fName.length : Int) > 40))))], [(1, vS 4 (eBase a0))], 95⟩ rfl rfl rfl ?_
  refine bifE (c := (decide ((v38.fName.length : Int) > 40))) (fun hc => ?_) fun hc => ?_
  · rw [hc]
    exact reg_end rfl
  · rw [hc]
    refine ra 3 12 ⟨[(1, (Pt 1)), (5, (I x37)), (74, (Bo true)), (77, (V.ptr 1 0 3)), (78, (sSearch a0.fIndexes)), (79, (I x37)), (80, (Pr (eSearch v38))), (81, (Pr (Sr v38.fName))), (82, (Sr v38.fName)), (83, (I (v38.fName.length : Int))), (84, (Bo false)), (85, (Bo false)), (86, (V.ptr 1 0 3)), (87, (sSearch a0.fIndexes)), (88, (I x37))], [(1, vS 4 (eBase a0))], 95⟩ rfl rfl rfl ?_
    refine et (reg_pure (x := (idx a0.fIndexes x37)) (w := fun v39 => (Pr (eSearch v39))) rfl rfl rfl rfl (p_index (e := eSearch) rfl rfl rfl underlying23 rfl (by decide))) ?_
    refine bindE (fun v39 => ?_)
    exact bind_end rfl
theorem f8r17 (k : Nat) (a0 : T_api_Base) (x37 : Int) : RE k f8a17 f8o17 false ⟨[(1, (Pt 1)), (5, (I x37)), (94, (Bo true))], [(1, vS 4 (eBase a0))], 95⟩ = some ⟨[(2, (Bo true))], [], 95⟩ :=
  rE rfl
theorem f8r15 (k : Nat) (a0 : T_api_Base) (x37 : Int) : RE k f8a15 f8o15 false ⟨[(1, (Pt 1)), (5, (I x37)), (94, (Bo false))], [(1, vS 4 (eBase a0))], 95⟩ = some ⟨[(1, (Pt 1)), (5, (I (Go.IntKind.wrap .i64 (x37 + 1))))], [(1, vS 4 (eBase a0))], 95⟩ :=
  rE rfl
theorem law12_Large_L3_ok (k : Nat) (a0 : T_api_Base)  (K0 : Int → Option Bool) (Kst : X × St → Option (V × List V)) (hK0 : ∀ (y0 : Int), Kst (X.exit 4, ⟨[(1, (Pt 1)), (5, (I y0)), (74, (Bo false))], [(1, vS 4 (eBase a0))], 95⟩) = (K0 y0).map law12_Large_fin) (hret : ∀ s, Kst (X.ret, s) = endK prog 95 [(eBase a0)] [] [.tmp 2] (X.ret, s)) :
    ∀ (m : Nat) (x37 : Int), (iter (exec prog (EV k) f8n k f8b2) m ⟨[(1, (Pt 1)), (5, (I x37))], [(1, vS 4 (eBase a0))], 95⟩).bind Kst = (law12_Large_L3 a0 K0 m x37).map law12_Large_fin := by
  intro m
  induction m with
  | zero => intros; rfl
  | succ m ih =>
    intro x37
    unfold law12_Large_L3
    refine et k_round ?_
    refine et k_assoc ?_
    refine et (k_region0 rfl (f8r14 k a0 x37)) ?_
    refine et (k_cond (t := (decide (x37 < (a0.fIndexes.length : Int)))) rfl rfl) ?_
    refine bifE2 (fun hc => ?_) fun hc => ?_
    · rw [hc]
      refine et k_skip ?_
      refine et (k_block rfl) ?_
      refine et (k_region rfl (f8r16 k a0 x37)) ?_
      refine bindE (fun o40 => ?_)
      refine et (k_lcond (t := o40) rfl rfl) ?_
      refine bifE2 (fun hc => ?_) fun hc => ?_
      · rw [hc]
        refine et (k_region0 rfl (f8r17 k a0 x37)) ?_
        refine et k_lret ?_
        refine et blk_ret ?_
        refine et loop_ret ?_
        refine et (hret _) ?_
        rfl
      · rw [hc]
        refine et k_lskip ?_
        refine et blk_normal ?_
        refine et (k_lregion0 rfl (f8r15 k a0 x37)) ?_
        refine et loop_normal ?_
        exact ih (Go.IntKind.wrap .i64 (x37 + 1))
    · rw [hc]
      refine et k_exit ?_
      refine et loop_exit ?_
      exact hK0 x37
theorem f8r18 (k : Nat) (a0 : T_api_Base) (y41 : Int) : RE k f8a18 f8o18 false ⟨[(1, (Pt 1)), (5, (I y41)), (74, (Bo false))], [(1, vS 4 (eBase a0))], 95⟩ = some ⟨[(2, (Bo false))], [], 95⟩ :=
  rE rfl
theorem law12_Large_ok (k : Nat) (a0 : T_api_Base) : EV k 8 [(eBase a0)] = (law12_Large k a0).map law12_Large_fin := by
  cases k with
  | zero => rfl
  | succ k =>
    unfold law12_Large
    refine et (evF_succ (c := f8c) (N := 95) (regs := f8n) rfl func8 rfl (by decide) rfl rfl rfl) ?_
    refine et (k_region0 rfl (f8r0 k a0)) ?_
    refine et k_assoc ?_
    refine et (k_region rfl (f8r1 k a0)) ?_
    refine bindE (fun o1 => ?_)
    refine et (k_cond (t := o1) rfl rfl) ?_
    refine bifE2 (fun hc => ?_) fun hc => ?_
    · rw [hc]
      refine et k_assoc ?_
      refine et (k_region0 rfl (f8r2 k a0)) ?_
      refine et k_ret ?_
      rfl
    · rw [hc]
      refine et k_skip ?_
      refine et k_assoc ?_
      refine et (k_region0 rfl (f8r3 k a0)) ?_
      refine et (k_block rfl) ?_
      refine et k_loop ?_
      refine law12_Large_L1_ok k a0 _ _ ?h_law12_Large_L1_0 ?hr_law12_Large_L1 k 0
      · intro y33
        refine et blk_exit ?_
        refine et k_assoc ?_
        refine et (k_region0 rfl (f8r13 k a0 y33)) ?_
        refine et (k_block rfl) ?_
        refine et k_loop ?_
        refine law12_Large_L3_ok k a0 _ _ ?h_law12_Large_L3_0 ?hr_law12_Large_L3 k 0
        · intro y41
          refine et blk_exit ?_
          refine et (k_region0 rfl (f8r18 k a0 y41)) ?_
          refine et k_lret ?_
          rfl
        · intro s; exact rfl
      · intro s; exact rfl
def law12_Long_fin : Bool → V × List V := fun r => ((Bo r), [])
theorem f9r0 (k : Nat) (a0 : (List (List T_api_Term))) : RE k f9a0 f9o0 false ⟨[(0, (V.sl 0 1 (List.map sTerm a0)))], [], 51⟩ = some ⟨[(0, (V.sl 0 1 (List.map sTerm a0)))], [], 51⟩ :=
  rE rfl
theorem f9r1 (k : Nat) (a0 : (List (List T_api_Term))) : RE k f9a1 f9o1 false ⟨[(0, (V.sl 0 1 (List.map sTerm a0)))], [], 51⟩ = some ⟨[(0, (V.sl 0 1 (List.map sTerm a0))), (3, (I 0))], [], 51⟩ :=
  rE rfl
theorem f9r2 (k : Nat) (a0 : (List (List T_api_Term))) (x19 : Int) : RE k f9a2 f9o2 false ⟨[(0, (V.sl 0 1 (List.map sTerm a0))), (3, (I x19))], [], 51⟩ = some ⟨[(0, (V.sl 0 1 (List.map sTerm a0))), (3, (I x19)), (8, (Bo (decide (x19 < (a0.length : Int)))))], [], 51⟩ := by
  refine rg ?_
  refine ra 2 2 ⟨[(0, (V.sl 0 1 (List.map sTerm a0))), (3, (I x19)), (5, (I x19)), (6, (V.sl 0 1 (List.map sTerm a0)))], [], 51⟩ rfl rfl rfl ?_
  refine et (reg_pure (x := some ()) (w := fun _ => (I (a0.length : Int))) rfl rfl rfl rfl (p_len (e := sTerm) rfl rfl rfl rfl rfl rfl underlying26)) ?_
  refine et some_bind ?_
  exact bind_end rfl
theorem f9r4 (k : Nat) (a0 : (List (List T_api_Term))) (x19 : Int) : RE k f9a4 f9o4 false ⟨[(0, (V.sl 0 1 (List.map sTerm a0))), (3, (I x19)), (8, (Bo true))], [], 51⟩ = (((idx a0 x19).bind fun v20 => (some ((decide ((v20.length : Int) > 20)))))).map (fun (o : Bool) => (⟨[(0, (V.sl 0 1 (List.map sTerm a0))), (3, (I x19)), (16, (Bo o))], [], 51⟩ : St)) := by
  refine rg ?_
  refine ra 2 2 ⟨[(0, (V.sl 0 1 (List.map sTerm a0))), (3, (I x19)), (8, (Bo true)), (11, (V.sl 0 1 (List.map sTerm a0))), (12, (I x19))], [], 51⟩ rfl rfl rfl ?_
  refine et (reg_pure (x := (idx a0 x19)) (w := fun v20 => (Pr (sTerm v20))) rfl rfl rfl rfl (p_index (e := sTerm) rfl rfl rfl underlying26 rfl (by decide))) ?_
  refine bindE (fun v20 => ?_)
  refine ba 1 4 ⟨[(0, (V.sl 0 1 (List.map sTerm a0))), (3, (I x19)), (8, (Bo true)), (11, (V.sl 0 1 (List.map sTerm a0))), (12, (I x19)), (13, (Pr (sTerm v20))), (14, (sTerm v20))], [], 51⟩ rfl rfl rfl ?_
  refine et (reg_pure (x := some ()) (w := fun _ => (I (v20.length : Int))) rfl rfl rfl rfl (p_len (e := eTerm) rfl rfl rfl rfl rfl rfl underlying50)) ?_
  refine et some_bind ?_
  exact bind_end rfl
theorem f9r5 (k : Nat) (a0 : (List (List T_api_Term))) (x19 : Int) : RE k f9a5 f9o5 false ⟨[(0, (V.sl 0 1 (List.map sTerm a0))), (3, (I x19)), (16, (Bo true))], [], 51⟩ = some ⟨[(2, (Bo true))], [], 51⟩ :=
  rE rfl
theorem f9r6 (k : Nat) (a0 : (List (List T_api_Term))) (x19 : Int) : RE k f9a6 f9o6 false ⟨[(0, (V.sl 0 1 (List.map sTerm a0))), (3, (I x19)), (16, (Bo false))], [], 51⟩ = some ⟨[(0, (V.sl 0 1 (List.map sTerm a0))), (3, (I x19)), (4, (I 0))], [], 51⟩ :=
  rE rfl
theorem f9r7 (k : Nat) (a0 : (List (List T_api_Term))) (x19 : Int) (x29 : Int) : RE k f9a7 f9o7 false ⟨[(0, (V.sl 0 1 (List.map sTerm a0))), (3, (I x19)), (4, (I x29))], [], 51⟩ = (((idx a0 x19).bind fun v30 => (some ((decide (x29 < (v30.length : Int))))))).map (fun (o : Bool) => (⟨[(0, (V.sl 0 1 (List.map sTerm a0))), (3, (I x19)), (4, (I x29)), (23, (Bo o))], [], 51⟩ : St)) := by
  refine rg ?_
  refine ra 3 3 ⟨[(0, (V.sl 0 1 (List.map sTerm a0))), (3, (I x19)), (4, (I x29)), (17, (I x29)), (18, (V.sl 0 1 (List.map sTerm a0))), (19, (I x19))], [], 51⟩ rfl rfl rfl ?_
  refine et (reg_pure (x := (idx a0 x19)) (w := fun v30 => (Pr (sTerm v30))) rfl rfl rfl rfl (p_index (e := sTerm) rfl rfl rfl underlying26 rfl (by decide))) ?_
  refine bindE (fun v30 => ?_)
  refine ba 1 5 ⟨[(0, (V.sl 0 1 (List.map sTerm a0))), (3, (I x19)), (4, (I x29)), (17, (I x29)), (18, (V.sl 0 1 (List.map sTerm a0))), (19, (I x19)), (20, (Pr (sTerm v30))), (21, (sTerm v30))], [], 51⟩ rfl rfl rfl ?_
  refine et (reg_pure (x := some ()) (w := fun _ => (I (v30.length : Int))) rfl rfl rfl rfl (p_len (e := eTerm) rfl rfl rfl rfl rfl rfl underlying50)) ?_
  refine et some_bind ?_
  exact bind_end rfl
theorem f9r9 (k : Nat) (a0 : (List (List T_api_Term))) (x19 : Int) (x29 : Int) : RE k f9a9 f9o9 false ⟨[(0, (V.sl 0 1 (List.map sTerm a0))), (3, (I x19)), (4, (I x29)), (23, (Bo true))], [], 51⟩ = (((idx a0 x19).bind fun v32 => ((idx v32 x29).bind fun v33 => (bif (decide ((v33.fField.length : Int) > 100)) then (some (true)) else ((idx a0 x19).bind fun v34 => ((idx v34 x29).bind fun v35 => (some ((decide ((v35.fValue.length : Int) > 100)))))))))).map (fun (o : Bool) => (⟨[(0, (V.sl 0 1 (List.map sTerm a0))), (3, (I x19)), (4, (I x29)), (47, (Bo o))], [], 51⟩ : St)) := by
  refine rg ?_
  refine ra 2 2 ⟨[(0, (V.sl 0 1 (List.map sTerm a0))), (3, (I x19)), (4, (I x29)), (23, (Bo true)), (26, (V.sl 0 1 (List.map sTerm a0))), (27, (I x19))], [], 51⟩ rfl rfl rfl ?_
  refine et (reg_pure (x := (idx a0 x19)) (w := fun v32 => (Pr (sTerm v32))) rfl rfl rfl rfl (p_index (e := sTerm) rfl rfl rfl underlying26 rfl (by decide))) ?_
  refine bindE (fun v32 => ?_)
  refine ba 2 5 ⟨[(0, (V.sl 0 1 (List.map sTerm a0))), (3, (I x19)), (4, (I x29)), (23, (Bo true)), (26, (V.sl 0 1 (List.map sTerm a0))), (27, (I x19)), (28, (Pr (sTerm v32))), (29, (sTerm v32)), (30, (I x29))], [], 51⟩ rfl rfl rfl ?_
  refine et (reg_pure (x := (idx v32 x29)) (w := fun v33 => (Pr (eTerm v33))) rfl rfl rfl rfl (p_index (e := eTerm) rfl rfl rfl underlying50 rfl (by decide))) ?_
  refine bindE (fun v33 => ?_)
  refine ba 5 11 ⟨[(0, (V.sl 0 1 (List.map sTerm a0))), (3, (I x19)), (4, (I x29)), (23, (Bo true)), (26, (V.sl 0 1 (List.map sTerm a0))), (27, (I x19)), (28, (Pr (sTerm v32))), (29, (sTerm v32)), (30, (I x29)), (31, (Pr (eTerm v33))), (32, (Pr (Sr v33.fField))), (33, (Sr v33.fField)), (34, (I (v33.fField.length : Int))), (35, (Bo (decide ((v33.fField.length : Int) > 100)))), (36, (Bo (decide ((v33.fField.length : Int) > 100))))], [], 51⟩ rfl rfl rfl ?_
  refine bifE (c := (decide ((v33.fField.length : Int) > 100))) (fun hc => ?_) fun hc => ?_
  · rw [hc]
    exact reg_end rfl
  · rw [hc]
    refine ra 2 13 ⟨[(0, (V.sl 0 1 (List.map sTerm a0))), (3, (I x19)), (4, (I x29)), (23, (Bo true)), (26, (V.sl 0 1 (List.map sTerm a0))), (27, (I x19)), (28, (Pr (sTerm v32))), (29, (sTerm v32)), (30, (I x29)), (31, (Pr (eTerm v33))), (32, (Pr (Sr v33.fField))), (33, (Sr v33.fField)), (34, (I (v33.fField.length : Int))), (35, (Bo false)), (36, (Bo false)), (37, (V.sl 0 1 (List.map sTerm a0))), (38, (I x19))], [], 51⟩ rfl rfl rfl ?_
    refine et (reg_pure (x := (idx a0 x19)) (w := fun v34 => (Pr (sTerm v34))) rfl rfl rfl rfl (p_index (e := sTerm) rfl rfl rfl underlying26 rfl (by decide))) ?_
    refine bindE (fun v34 => ?_)
    refine ba 2 16 ⟨[(0, (V.sl 0 1 (List.map sTerm a0))), (3, (I x19)), (4, (I x29)), (23, (Bo true)), (26, (V.sl 0 1 (List.map sTerm a0))), (27, (I x19)), (28, (Pr (sTerm v32))), (29, (sTerm v32)), (30, (I x29)), (31, (Pr (eTerm v33))), (32, (Pr (Sr v33.fField))), (33, (Sr v33.fField)), (34, (I (v33.fField.length : Int))), (35, (Bo false)), (36, (Bo false)), (37, (V.sl 0 1 (List.map sTerm a0))), (38, (I x19)), (39, (Pr (sTerm v34))), (40, (sTerm v34)), (41, (I x29))], [], 51⟩ rfl rfl rfl ?_
    refine et (reg_pure (x := (idx v34 x29)) (w := fun v35 => (Pr (eTerm v35))) rfl rfl rfl rfl (p_index (e := eTerm) rfl rfl rfl underlying50 rfl (by decide))) ?_
    refine bindE (fun v35 => ?_)
    exact bind_end rfl
theorem f9r10 (k : Nat) (a0 : (List (List T_api_Term))) (x19 : Int) (x29 : Int) : RE k f9a10 f9o10 false ⟨[(0, (V.sl 0 1 (List.map sTerm a0))), (3, (I x19)), (4, (I x29)), (47, (Bo true))], [], 51⟩ = some ⟨[(2, (Bo true))], [], 51⟩ :=
  rE rfl
theorem f9r8 (k : Nat) (a0 : (List (List T_api_Term))) (x19 : Int) (x29 : Int) : RE k f9a8 f9o8 false ⟨[(0, (V.sl 0 1 (List.map sTerm a0))), (3, (I x19)), (4, (I x29)), (47, (Bo false))], [], 51⟩ = some ⟨[(0, (V.sl 0 1 (List.map sTerm a0))), (3, (I x19)), (4, (I (Go.IntKind.wrap .i64 (x29 + 1))))], [], 51⟩ :=
  rE rfl
theorem law12_Long_L2_ok (k : Nat) (a0 : (List (List T_api_Term))) (x19 : Int)  (K0 : Int → Option Bool) (Kst : X × St → Option (V × List V)) (hK0 : ∀ (y0 : Int), Kst (X.exit 2, ⟨[(0, (V.sl 0 1 (List.map sTerm a0))), (3, (I x19)), (4, (I y0)), (23, (Bo false))], [], 51⟩) = (K0 y0).map law12_Long_fin) (hret : ∀ s, Kst (X.ret, s) = endK prog 51 [(V.sl 0 1 (List.map sTerm a0))] [] [.tmp 2] (X.ret, s)) :
    ∀ (m : Nat) (x29 : Int), (iter (exec prog (EV k) f9n k f9b0) m ⟨[(0, (V.sl 0 1 (List.map sTerm a0))), (3, (I x19)), (4, (I x29))], [], 51⟩).bind Kst = (law12_Long_L2 a0 x19 K0 m x29).map law12_Long_fin := by
  intro m
  induction m with
  | zero => intros; rfl
  | succ m ih =>
    intro x29
    unfold law12_Long_L2
    refine et k_round ?_
    refine et k_assoc ?_
    refine et (k_region rfl (f9r7 k a0 x19 x29)) ?_
    refine bindE (fun o31 => ?_)
    refine et (k_cond (t := o31) rfl rfl) ?_
    refine bifE2 (fun hc => ?_) fun hc => ?_
    · rw [hc]
      refine et k_skip ?_
      refine et (k_block rfl) ?_
      refine et (k_region rfl (f9r9 k a0 x19 x29)) ?_
      refine bindE (fun o36 => ?_)
      refine et (k_lcond (t := o36) rfl rfl) ?_
      refine bifE2 (fun hc => ?_) fun hc => ?_
      · rw [hc]
        refine et (k_region0 rfl (f9r10 k a0 x19 x29)) ?_
        refine et k_lret ?_
        refine et blk_ret ?_
        refine et loop_ret ?_
        refine et (hret _) ?_
        rfl
      · rw [hc]
        refine et k_lskip ?_
        refine et blk_normal ?_
        refine et (k_lregion0 rfl (f9r8 k a0 x19 x29)) ?_
        refine et loop_normal ?_
        exact ih (Go.IntKind.wrap .i64 (x29 + 1))
    · rw [hc]
      refine et k_exit ?_
      refine et loop_exit ?_
      exact hK0 x29
theorem f9r3 (k : Nat) (a0 : (List (List T_api_Term))) (x19 : Int) (y37 : Int) : RE k f9a3 f9o3 false ⟨[(0, (V.sl 0 1 (List.map sTerm a0))), (3, (I x19)), (4, (I y37)), (23, (Bo false))], [], 51⟩ = some ⟨[(0, (V.sl 0 1 (List.map sTerm a0))), (3, (I (Go.IntKind.wrap .i64 (x19 + 1))))], [], 51⟩ :=
  rE rfl
theorem law12_Long_L1_ok (k : Nat) (a0 : (List (List T_api_Term)))  (K0 : Int → Option Bool) (Kst : X × St → Option (V × List V)) (hK0 : ∀ (y0 : Int), Kst (X.exit 0, ⟨[(0, (V.sl 0 1 (List.map sTerm a0))), (3, (I y0)), (8, (Bo false))], [], 51⟩) = (K0 y0).map law12_Long_fin) (hret : ∀ s, Kst (X.ret, s) = endK prog 51 [(V.sl 0 1 (List.map sTerm a0))] [] [.tmp 2] (X.ret, s)) :
    ∀ (m : Nat) (x19 : Int), (iter (exec prog (EV k) f9n k f9b1) m ⟨[(0, (V.sl 0 1 (List.map sTerm a0))), (3, (I x19))], [], 51⟩).bind Kst = (law12_Long_L1 k a0 K0 m x19).map law12_Long_fin := by
  intro m
  induction m with
  | zero => intros; rfl
  | succ m ih =>
    intro x19
    unfold law12_Long_L1
    refine et k_round ?_
    refine et k_assoc ?_
    refine et (k_region0 rfl (f9r2 k a0 x19)) ?_
    refine et (k_cond (t := (decide (x19 < (a0.length : Int)))) rfl rfl) ?_
    refine bifE2 (fun hc => ?_) fun hc => ?_
    · rw [hc]
      refine et k_skip ?_
      refine et (k_block rfl) ?_
      refine et k_assoc ?_
      refine et (k_region rfl (f9r4 k a0 x19)) ?_
      refine bindE (fun o21 => ?_)
      refine et (k_cond (t := o21) rfl rfl) ?_
      refine bifE2 (fun hc => ?_) fun hc => ?_
      · rw [hc]
        refine et k_assoc ?_
        refine et (k_region0 rfl (f9r5 k a0 x19)) ?_
        refine et k_ret ?_
        refine et blk_ret ?_
        refine et loop_ret ?_
        refine et (hret _) ?_
        rfl
      · rw [hc]
        refine et k_skip ?_
        refine et (k_region0 rfl (f9r6 k a0 x19)) ?_
        refine et (k_lblock rfl) ?_
        refine et k_loop ?_
        refine law12_Long_L2_ok k a0 x19 _ _ ?h_law12_Long_L2_0 ?hr_law12_Long_L2 k 0
        · intro y37
          refine et blk_exit ?_
          refine et k_lskip ?_
          refine et blk_normal ?_
          refine et (k_lregion0 rfl (f9r3 k a0 x19 y37)) ?_
          refine et loop_normal ?_
          exact ih (Go.IntKind.wrap .i64 (x19 + 1))
        · intro s; exact hret s
    · rw [hc]
      refine et k_exit ?_
      refine et loop_exit ?_
      exact hK0 x19
theorem f9r11 (k : Nat) (a0 : (List (List T_api_Term))) (y38 : Int) : RE k f9a11 f9o11 false ⟨[(0, (V.sl 0 1 (List.map sTerm a0))), (3, (I y38)), (8, (Bo false))], [], 51⟩ = some ⟨[(2, (Bo (decide ((a0.length : Int) > 20))))], [], 51⟩ := by
  refine rg ?_
  refine ra 1 1 ⟨[(0, (V.sl 0 1 (List.map sTerm a0))), (3, (I y38)), (8, (Bo false)), (48, (V.sl 0 1 (List.map sTerm a0)))], [], 51⟩ rfl rfl rfl ?_
  refine et (reg_pure (x := some ()) (w := fun _ => (I (a0.length : Int))) rfl rfl rfl rfl (p_len (e := sTerm) rfl rfl rfl rfl rfl rfl underlying26)) ?_
  refine et some_bind ?_
  exact bind_end rfl
theorem law12_Long_ok (k : Nat) (a0 : (List (List T_api_Term))) : EV k 9 [(V.sl 0 1 (List.map sTerm a0))] = (law12_Long k a0).map law12_Long_fin := by
  cases k with
  | zero => rfl
  | succ k =>
    unfold law12_Long
    refine et (evF_succ (c := f9c) (N := 51) (regs := f9n) rfl func9 rfl (by decide) rfl rfl rfl) ?_
    refine et (k_region0 rfl (f9r0 k a0)) ?_
    refine et k_assoc ?_
    refine et (k_region0 rfl (f9r1 k a0)) ?_
    refine et (k_block rfl) ?_
    refine et k_loop ?_
    refine law12_Long_L1_ok k a0 _ _ ?h_law12_Long_L1_0 ?hr_law12_Long_L1 k 0
    · intro y38
      refine et blk_exit ?_
      refine et (k_region0 rfl (f9r11 k a0 y38)) ?_
      refine et k_lret ?_
      rfl
    · intro s; exact rfl
def law12_shop_fin : T_api_Base → V × List V := fun r => ((eBase r), [])
theorem f19r0 (k : Nat)  : RE k f19a0 f19o0 false ⟨[], [], 6⟩ = some ⟨[(0, (Pt 0))], [(0, ⟨false, 4, [(V.agg [(Sr []), (I 0), (V.sl 2 8 (List.map eType ([] : List T_api_Type))), (V.sl 2 4 (List.map eSearch ([] : List T_api_Search)))])]⟩)], 6⟩ :=
  rE rfl
theorem f19r1 (k : Nat)  : RE k f19a1 f19o1 false ⟨[(0, (Pt 0))], [(0, ⟨false, 4, [(V.agg [(Sr []), (I 0), (V.sl 2 8 (List.map eType ([] : List T_api_Type))), (V.sl 2 4 (List.map eSearch ([] : List T_api_Search)))])]⟩)], 6⟩ = some ⟨[(0, (Pt 0))], [(0, ⟨false, 4, [(eBase ({ fName := ([83, 72, 79, 80] : Str), fKind := 4, fTypes := ([({ fName := ([67, 85, 83, 84] : Str), fParent := (-1), fMin := 4, fSize := 10, fFields := ([({ fName := ([67, 85, 83, 84, 78, 79] : Str), fAt := 0, fBytes := 4 } : T_api_Field)] : List T_api_Field), fKey := 0, fUnique := true, fLast := false } : T_api_Type)] : List T_api_Type), fIndexes := ([] : List T_api_Search) } : T_api_Base))]⟩)], 6⟩ :=
  rE rfl
theorem law12_shop_ok (k : Nat)  : EV k 19 [] = (law12_shop k).map law12_shop_fin := by
  cases k with
  | zero => rfl
  | succ k =>
    unfold law12_shop
    refine et (evF_succ (c := f19c) (N := 6) (regs := f19n) rfl func19 rfl (by decide) rfl rfl rfl) ?_
    refine et (k_region0 rfl (f19r0 k)) ?_
    refine et (k_region0 rfl (f19r1 k)) ?_
    refine et k_lret ?_
    rfl
def dbd_IsName_fin : Bool → V × List V := fun r => ((Bo r), [])
theorem f101r0 (k : Nat) (a0 : Str) : RE k f101a0 f101o0 false ⟨[(0, (Sr a0))], [], 47⟩ = some ⟨[(0, (Sr a0))], [], 47⟩ :=
  rE rfl
theorem f101r1 (k : Nat) (a0 : Str) : RE k f101a1 f101o1 false ⟨[(0, (Sr a0))], [], 47⟩ = some ⟨[(0, (Sr a0)), (6, (I (a0.length : Int))), (7, (I 0))], [], 47⟩ :=
  rE rfl
theorem f101r2 (k : Nat) (a0 : Str) (x7 : Int) : RE k f101a2 f101o2 false ⟨[(0, (Sr a0)), (6, (I (a0.length : Int))), (7, (I x7))], [], 47⟩ = some ⟨[(0, (Sr a0)), (6, (I (a0.length : Int))), (7, (I x7)), (8, (Bo (decide (x7 < (a0.length : Int)))))], [], 47⟩ :=
  rE rfl
theorem f101r3 (k : Nat) (a0 : Str) (x7 : Int) : RE k f101a3 f101o3 false ⟨[(0, (Sr a0)), (6, (I (a0.length : Int))), (7, (I x7)), (8, (Bo true))], [], 47⟩ = some ⟨[(0, (Sr a0)), (3, (I x7)), (6, (I (a0.length : Int))), (7, (I x7))], [], 47⟩ :=
  rE rfl
theorem f101r4 (k : Nat) (a0 : Str) (x7 : Int) : RE k f101a4 f101o4 false ⟨[(0, (Sr a0)), (3, (I x7)), (6, (I (a0.length : Int))), (7, (I x7))], [], 47⟩ = (((idxS a0 x7).bind fun v8 => (bif (decide (v8 ≥ 65)) then ((idxS a0 x7).bind fun v9 => (some ((decide (v9 ≤ 90))))) else (some (false))))).map (fun (o : Bool) => (⟨[(0, (Sr a0)), (3, (I x7)), (4, (Bo o)), (6, (I (a0.length : Int))), (7, (I x7))], [], 47⟩ : St)) := by
  refine rg ?_
  refine ra 2 2 ⟨[(0, (Sr a0)), (3, (I x7)), (6, (I (a0.length : Int))), (7, (I x7)), (10, (Sr a0)), (11, (I x7))], [], 47⟩ rfl rfl rfl ?_
  refine et (reg_pure (x := (idxS a0 x7)) (w := fun v8 => (V.int .u8 v8)) rfl rfl rfl rfl (p_indexS rfl rfl rfl underlying9)) ?_
  refine bindE (fun v8 => ?_)
  refine ba 2 5 ⟨[(0, (Sr a0)), (3, (I x7)), (6, (I (a0.length : Int))), (7, (I x7)), (10, (Sr a0)), (11, (I x7)), (12, (V.int .u8 v8)), (13, (Bo (decide (v8 ≥ 65)))), (14, (Bo (decide (v8 ≥ 65))))], [], 47⟩ rfl rfl rfl ?_
  refine bifE (c := (decide (v8 ≥ 65))) (fun hc => ?_) fun hc => ?_
  · rw [hc]
    refine ra 2 7 ⟨[(0, (Sr a0)), (3, (I x7)), (6, (I (a0.length : Int))), (7, (I x7)), (10, (Sr a0)), (11, (I x7)), (12, (V.int .u8 v8)), (13, (Bo true)), (14, (Bo true)), (15, (Sr a0)), (16, (I x7))], [], 47⟩ rfl rfl rfl ?_
    refine et (reg_pure (x := (idxS a0 x7)) (w := fun v9 => (V.int .u8 v9)) rfl rfl rfl rfl (p_indexS rfl rfl rfl underlying9)) ?_
    refine bindE (fun v9 => ?_)
    exact bind_end rfl
  · rw [hc]
    exact reg_end rfl
theorem f101r5 (k : Nat) (a0 : Str) (x7 : Int) (o10 : Bool) : RE k f101a5 f101o5 false ⟨[(0, (Sr a0)), (3, (I x7)), (4, (Bo o10)), (6, (I (a0.length : Int))), (7, (I x7))], [], 47⟩ = ((bif (!o10) then (bif (x7 == 0) then (some (true)) else ((idxS a0 x7).bind fun v11 => (bif (decide (v11 < 48)) then (some (true)) else ((idxS a0 x7).bind fun v12 => (some ((decide (v12 > 57)))))))) else (some (false)))).map (fun (o : Bool) => (⟨[(0, (Sr a0)), (6, (I (a0.length : Int))), (7, (I x7)), (37, (Bo o))], [], 47⟩ : St)) := by
  refine rg ?_
  refine ra 3 3 ⟨[(0, (Sr a0)), (3, (I x7)), (4, (Bo o10)), (6, (I (a0.length : Int))), (7, (I x7)), (20, (Bo o10)), (21, (Bo (!o10))), (22, (Bo (!o10)))], [], 47⟩ rfl rfl rfl ?_
  refine bifE (c := (!o10)) (fun hc => ?_) fun hc => ?_
  · rw [hc]
    refine ra 3 6 ⟨[(0, (Sr a0)), (3, (I x7)), (4, (Bo o10)), (6, (I (a0.length : Int))), (7, (I x7)), (20, (Bo o10)), (21, (Bo true)), (22, (Bo true)), (23, (I x7)), (24, (Bo (x7 == 0))), (25, (Bo (x7 == 0)))], [], 47⟩ rfl rfl rfl ?_
    refine bifE (c := (x7 == 0)) (fun hc => ?_) fun hc => ?_
    · rw [hc]
      exact reg_end rfl
    · rw [hc]
      refine ra 2 8 ⟨[(0, (Sr a0)), (3, (I x7)), (4, (Bo o10)), (6, (I (a0.length : Int))), (7, (I x7)), (20, (Bo o10)), (21, (Bo true)), (22, (Bo true)), (23, (I x7)), (24, (Bo false)), (25, (Bo false)), (26, (Sr a0)), (27, (I x7))], [], 47⟩ rfl rfl rfl ?_
      refine et (reg_pure (x := (idxS a0 x7)) (w := fun v11 => (V.int .u8 v11)) rfl rfl rfl rfl (p_indexS rfl rfl rfl underlying9)) ?_
      refine bindE (fun v11 => ?_)
      refine ba 3 12 ⟨[(0, (Sr a0)), (3, (I x7)), (4, (Bo o10)), (6, (I (a0.length : Int))), (7, (I x7)), (20, (Bo o10)), (21, (Bo true)), (22, (Bo true)), (23, (I x7)), (24, (Bo false)), (25, (Bo false)), (26, (Sr a0)), (27, (I x7)), (28, (V.int .u8 v11)), (29, (Bo (decide (v11 < 48)))), (30, (Bo (decide (v11 < 48)))), (31, (Bo (decide (v11 < 48))))], [], 47⟩ rfl rfl rfl ?_
      refine bifE (c := (decide (v11 < 48))) (fun hc => ?_) fun hc => ?_
      · rw [hc]
        exact reg_end rfl
      · rw [hc]
        refine ra 2 14 ⟨[(0, (Sr a0)), (3, (I x7)), (4, (Bo o10)), (6, (I (a0.length : Int))), (7, (I x7)), (20, (Bo o10)), (21, (Bo true)), (22, (Bo true)), (23, (I x7)), (24, (Bo false)), (25, (Bo false)), (26, (Sr a0)), (27, (I x7)), (28, (V.int .u8 v11)), (29, (Bo false)), (30, (Bo false)), (31, (Bo false)), (32, (Sr a0)), (33, (I x7))], [], 47⟩ rfl rfl rfl ?_
        refine et (reg_pure (x := (idxS a0 x7)) (w := fun v12 => (V.int .u8 v12)) rfl rfl rfl rfl (p_indexS rfl rfl rfl underlying9)) ?_
        refine bindE (fun v12 => ?_)
        exact bind_end rfl
  · rw [hc]
    exact reg_end rfl
theorem f101r6 (k : Nat) (a0 : Str) (x7 : Int) : RE k f101a6 f101o6 false ⟨[(0, (Sr a0)), (6, (I (a0.length : Int))), (7, (I x7)), (37, (Bo true))], [], 47⟩ = some ⟨[(2, (Bo false))], [], 47⟩ :=
  rE rfl
theorem f101r7 (k : Nat) (a0 : Str) (x7 : Int) : RE k f101a7 f101o7 false ⟨[(0, (Sr a0)), (6, (I (a0.length : Int))), (7, (I x7)), (37, (Bo false))], [], 47⟩ = some ⟨[(0, (Sr a0)), (6, (I (a0.length : Int))), (7, (I (Go.IntKind.wrap .i64 (x7 + 1))))], [], 47⟩ :=
  rE rfl
theorem dbd_IsName_L1_ok (k : Nat) (a0 : Str)  (K0 : Int → Option Bool) (Kst : X × St → Option (V × List V)) (hK0 : ∀ (y0 : Int), Kst (X.exit 0, ⟨[(0, (Sr a0)), (6, (I (a0.length : Int))), (7, (I y0)), (8, (Bo false))], [], 47⟩) = (K0 y0).map dbd_IsName_fin) (hret : ∀ s, Kst (X.ret, s) = endK prog 47 [(Sr a0)] [] [.tmp 2] (X.ret, s)) :
    ∀ (m : Nat) (x7 : Int), (iter (exec prog (EV k) f101n k f101b0) m ⟨[(0, (Sr a0)), (6, (I (a0.length : Int))), (7, (I x7))], [], 47⟩).bind Kst = (dbd_IsName_L1 a0 K0 m x7).map dbd_IsName_fin := by
  intro m
  induction m with
  | zero => intros; rfl
  | succ m ih =>
    intro x7
    unfold dbd_IsName_L1
    refine et k_round ?_
    refine et (k_region0 rfl (f101r2 k a0 x7)) ?_
    refine et (k_cond (t := (decide (x7 < (a0.length : Int)))) rfl rfl) ?_
    refine bifE2 (fun hc => ?_) fun hc => ?_
    · rw [hc]
      refine et k_skip ?_
      refine et (k_block rfl) ?_
      refine et (k_region0 rfl (f101r3 k a0 x7)) ?_
      refine et (k_region rfl (f101r4 k a0 x7)) ?_
      refine bindE (fun o10 => ?_)
      refine et (k_region rfl (f101r5 k a0 x7 o10)) ?_
      refine bindE (fun o13 => ?_)
      refine et (k_lcond (t := o13) rfl rfl) ?_
      refine bifE2 (fun hc => ?_) fun hc => ?_
      · rw [hc]
        refine et (k_region0 rfl (f101r6 k a0 x7)) ?_
        refine et k_lret ?_
        refine et blk_ret ?_
        refine et loop_ret ?_
        refine et (hret _) ?_
        rfl
      · rw [hc]
        refine et k_lskip ?_
        refine et blk_normal ?_
        refine et (k_lregion0 rfl (f101r7 k a0 x7)) ?_
        refine et loop_normal ?_
        exact ih (Go.IntKind.wrap .i64 (x7 + 1))
    · rw [hc]
      refine et k_exit ?_
      refine et loop_exit ?_
      exact hK0 x7
theorem f101r8 (k : Nat) (a0 : Str) (y14 : Int) : RE k f101a8 f101o8 false ⟨[(0, (Sr a0)), (6, (I (a0.length : Int))), (7, (I y14)), (8, (Bo false))], [], 47⟩ = ((bif (decide ((a0.length : Int) ≥ 1)) then (some ((decide ((a0.length : Int) ≤ 8)))) else (some (false)))).map (fun (o : Bool) => (⟨[(2, (Bo o))], [], 47⟩ : St)) := by
  refine rg ?_
  refine ra 4 4 ⟨[(0, (Sr a0)), (6, (I (a0.length : Int))), (7, (I y14)), (8, (Bo false)), (39, (Sr a0)), (40, (I (a0.length : Int))), (41, (Bo (decide ((a0.length : Int) ≥ 1)))), (42, (Bo (decide ((a0.length : Int) ≥ 1))))], [], 47⟩ rfl rfl rfl ?_
  refine bifE (c := (decide ((a0.length : Int) ≥ 1))) (fun hc => ?_) fun hc => ?_
  · rw [hc]
    exact reg_end rfl
  · rw [hc]
    exact reg_end rfl
theorem dbd_IsName_ok (k : Nat) (a0 : Str) : EV k 101 [(Sr a0)] = (dbd_IsName k a0).map dbd_IsName_fin := by
  cases k with
  | zero => rfl
  | succ k =>
    unfold dbd_IsName
    refine et (evF_succ (c := f101c) (N := 47) (regs := f101n) rfl func101 rfl (by decide) rfl rfl rfl) ?_
    refine et (k_region0 rfl (f101r0 k a0)) ?_
    refine et k_assoc ?_
    refine et (k_region0 rfl (f101r1 k a0)) ?_
    refine et (k_block rfl) ?_
    refine et k_loop ?_
    refine dbd_IsName_L1_ok k a0 _ _ ?h_dbd_IsName_L1_0 ?hr_dbd_IsName_L1 k 0
    · intro y14
      refine et blk_exit ?_
      refine et (k_region rfl (f101r8 k a0 y14)) ?_
      refine bindE (fun o15 => ?_)
      refine et k_lret ?_
      rfl
    · intro s; exact rfl
def slices_IndexFunc_Field_fin : Int → V × List V := fun r => ((I r), [])
theorem f68r0 (k : Nat) (a0 : (List T_api_Field)) (a1 : Nat → T_api_Field → Option Bool) (a1_fid : Go.FuncId) (a1_c0 : V) (a1_hok : ∀ j x0, EV j a1_fid [(eField x0), V.pro a1_c0] = (a1 j x0).map fun b => ((Bo b), [])) : RE k f68a0 f68o0 false ⟨[(0, (sField a0)), (1, (V.fn a1_fid [] [V.pro a1_c0]))], [], 19⟩ = some ⟨[(0, (sField a0)), (1, (V.fn a1_fid [] [V.pro a1_c0]))], [], 19⟩ :=
  rE rfl
theorem f68r1 (k : Nat) (a0 : (List T_api_Field)) (a1 : Nat → T_api_Field → Option Bool) (a1_fid : Go.FuncId) (a1_c0 : V) (a1_hok : ∀ j x0, EV j a1_fid [(eField x0), V.pro a1_c0] = (a1 j x0).map fun b => ((Bo b), [])) : RE k f68a1 f68o1 false ⟨[(0, (sField a0)), (1, (V.fn a1_fid [] [V.pro a1_c0]))], [], 19⟩ = some ⟨[(0, (sField a0)), (1, (V.fn a1_fid [] [V.pro a1_c0])), (7, (I (a0.length : Int))), (8, (I 0))], [], 19⟩ := by
  refine rg ?_
  refine ra 1 1 ⟨[(0, (sField a0)), (1, (V.fn a1_fid [] [V.pro a1_c0])), (6, (sField a0))], [], 19⟩ rfl rfl rfl ?_
  refine et (reg_pure (x := some ()) (w := fun _ => (I (a0.length : Int))) rfl rfl rfl rfl (p_len (e := eField) rfl rfl rfl rfl rfl rfl underlying43)) ?_
  refine et some_bind ?_
  exact bind_end rfl
theorem f68r2 (k : Nat) (a0 : (List T_api_Field)) (x4 : Int) (a1 : Nat → T_api_Field → Option Bool) (a1_fid : Go.FuncId) (a1_c0 : V) (a1_hok : ∀ j x0, EV j a1_fid [(eField x0), V.pro a1_c0] = (a1 j x0).map fun b => ((Bo b), [])) : RE k f68a2 f68o2 false ⟨[(0, (sField a0)), (1, (V.fn a1_fid [] [V.pro a1_c0])), (7, (I (a0.length : Int))), (8, (I x4))], [], 19⟩ = some ⟨[(0, (sField a0)), (1, (V.fn a1_fid [] [V.pro a1_c0])), (7, (I (a0.length : Int))), (8, (I x4)), (9, (Bo (decide (x4 < (a0.length : Int)))))], [], 19⟩ :=
  rE rfl
theorem f68r3 (k : Nat) (a0 : (List T_api_Field)) (x4 : Int) (a1 : Nat → T_api_Field → Option Bool) (a1_fid : Go.FuncId) (a1_c0 : V) (a1_hok : ∀ j x0, EV j a1_fid [(eField x0), V.pro a1_c0] = (a1 j x0).map fun b => ((Bo b), [])) : RE k f68a3 f68o3 false ⟨[(0, (sField a0)), (1, (V.fn a1_fid [] [V.pro a1_c0])), (7, (I (a0.length : Int))), (8, (I x4)), (9, (Bo true))], [], 19⟩ = some ⟨[(0, (sField a0)), (1, (V.fn a1_fid [] [V.pro a1_c0])), (5, (I x4)), (7, (I (a0.length : Int))), (8, (I x4))], [], 19⟩ :=
  rE rfl
theorem f68r4 (k : Nat) (a0 : (List T_api_Field)) (x4 : Int) (a1 : Nat → T_api_Field → Option Bool) (a1_fid : Go.FuncId) (a1_c0 : V) (a1_hok : ∀ j x0, EV j a1_fid [(eField x0), V.pro a1_c0] = (a1 j x0).map fun b => ((Bo b), [])) : RE k f68a4 f68o4 false ⟨[(0, (sField a0)), (1, (V.fn a1_fid [] [V.pro a1_c0])), (5, (I x4)), (7, (I (a0.length : Int))), (8, (I x4))], [], 19⟩ = (((idx a0 x4).bind fun v5 => (a1 k v5))).map (fun (o : Bool) => (⟨[(0, (sField a0)), (1, (V.fn a1_fid [] [V.pro a1_c0])), (5, (I x4)), (7, (I (a0.length : Int))), (8, (I x4)), (16, (Bo o))], [], 19⟩ : St)) := by
  refine rg ?_
  refine ra 3 3 ⟨[(0, (sField a0)), (1, (V.fn a1_fid [] [V.pro a1_c0])), (5, (I x4)), (7, (I (a0.length : Int))), (8, (I x4)), (11, (V.fn a1_fid [] [V.pro a1_c0])), (12, (sField a0)), (13, (I x4))], [], 19⟩ rfl rfl rfl ?_
  refine et (reg_pure (x := (idx a0 x4)) (w := fun v5 => (Pr (eField v5))) rfl rfl rfl rfl (p_index (e := eField) rfl rfl rfl underlying43 rfl (by decide))) ?_
  refine bindE (fun v5 => ?_)
  refine ba 1 5 ⟨[(0, (sField a0)), (1, (V.fn a1_fid [] [V.pro a1_c0])), (5, (I x4)), (7, (I (a0.length : Int))), (8, (I x4)), (11, (V.fn a1_fid [] [V.pro a1_c0])), (12, (sField a0)), (13, (I x4)), (14, (Pr (eField v5))), (15, (eField v5))], [], 19⟩ rfl rfl rfl ?_
  refine et (reg_pure (x := (a1 k v5)) (w := fun v6 => (Bo v6)) rfl rfl rfl rfl (p_call rfl rfl rfl rfl rfl (a1_hok k v5) (.inl rfl))) ?_
  refine bind_self (fun v6 => ?_)
  exact bind_end rfl
theorem f68r5 (k : Nat) (a0 : (List T_api_Field)) (x4 : Int) (a1 : Nat → T_api_Field → Option Bool) (a1_fid : Go.FuncId) (a1_c0 : V) (a1_hok : ∀ j x0, EV j a1_fid [(eField x0), V.pro a1_c0] = (a1 j x0).map fun b => ((Bo b), [])) : RE k f68a5 f68o5 false ⟨[(0, (sField a0)), (1, (V.fn a1_fid [] [V.pro a1_c0])), (5, (I x4)), (7, (I (a0.length : Int))), (8, (I x4)), (16, (Bo true))], [], 19⟩ = some ⟨[(4, (I x4))], [], 19⟩ :=
  rE rfl
theorem f68r6 (k : Nat) (a0 : (List T_api_Field)) (x4 : Int) (a1 : Nat → T_api_Field → Option Bool) (a1_fid : Go.FuncId) (a1_c0 : V) (a1_hok : ∀ j x0, EV j a1_fid [(eField x0), V.pro a1_c0] = (a1 j x0).map fun b => ((Bo b), [])) : RE k f68a6 f68o6 false ⟨[(0, (sField a0)), (1, (V.fn a1_fid [] [V.pro a1_c0])), (5, (I x4)), (7, (I (a0.length : Int))), (8, (I x4)), (16, (Bo false))], [], 19⟩ = some ⟨[(0, (sField a0)), (1, (V.fn a1_fid [] [V.pro a1_c0])), (7, (I (a0.length : Int))), (8, (I (Go.IntKind.wrap .i64 (x4 + 1))))], [], 19⟩ :=
  rE rfl
theorem slices_IndexFunc_Field_L1_ok (k : Nat) (a0 : (List T_api_Field)) (a1 : Nat → T_api_Field → Option Bool) (a1_fid : Go.FuncId) (a1_c0 : V) (a1_hok : ∀ j x0, EV j a1_fid [(eField x0), V.pro a1_c0] = (a1 j x0).map fun b => ((Bo b), [])) (K0 : Int → Option Int) (Kst : X × St → Option (V × List V)) (hK0 : ∀ (y0 : Int), Kst (X.exit 0, ⟨[(0, (sField a0)), (1, (V.fn a1_fid [] [V.pro a1_c0])), (7, (I (a0.length : Int))), (8, (I y0)), (9, (Bo false))], [], 19⟩) = (K0 y0).map slices_IndexFunc_Field_fin) (hret : ∀ s, Kst (X.ret, s) = endK prog 19 [(sField a0), (V.fn a1_fid [] [V.pro a1_c0])] [] [.tmp 4] (X.ret, s)) :
    ∀ (m : Nat) (x4 : Int), (iter (exec prog (EV k) f68n k f68b0) m ⟨[(0, (sField a0)), (1, (V.fn a1_fid [] [V.pro a1_c0])), (7, (I (a0.length : Int))), (8, (I x4))], [], 19⟩).bind Kst = (slices_IndexFunc_Field_L1 k a0 a1 K0 m x4).map slices_IndexFunc_Field_fin := by
  intro m
  induction m with
  | zero => intros; rfl
  | succ m ih =>
    intro x4
    unfold slices_IndexFunc_Field_L1
    refine et k_round ?_
    refine et (k_region0 rfl (f68r2 k a0 x4 a1 a1_fid a1_c0 a1_hok)) ?_
    refine et (k_cond (t := (decide (x4 < (a0.length : Int)))) rfl rfl) ?_
    refine bifE2 (fun hc => ?_) fun hc => ?_
    · rw [hc]
      refine et k_skip ?_
      refine et (k_block rfl) ?_
      refine et (k_region0 rfl (f68r3 k a0 x4 a1 a1_fid a1_c0 a1_hok)) ?_
      refine et (k_region rfl (f68r4 k a0 x4 a1 a1_fid a1_c0 a1_hok)) ?_
      refine bindE (fun o7 => ?_)
      refine et (k_lcond (t := o7) rfl rfl) ?_
      refine bifE2 (fun hc => ?_) fun hc => ?_
      · rw [hc]
        refine et (k_region0 rfl (f68r5 k a0 x4 a1 a1_fid a1_c0 a1_hok)) ?_
        refine et k_lret ?_
        refine et blk_ret ?_
        refine et loop_ret ?_
        refine et (hret _) ?_
        rfl
      · rw [hc]
        refine et k_lskip ?_
        refine et blk_normal ?_
        refine et (k_lregion0 rfl (f68r6 k a0 x4 a1 a1_fid a1_c0 a1_hok)) ?_
        refine et loop_normal ?_
        exact ih (Go.IntKind.wrap .i64 (x4 + 1))
    · rw [hc]
      refine et k_exit ?_
      refine et loop_exit ?_
      exact hK0 x4
theorem f68r7 (k : Nat) (a0 : (List T_api_Field)) (y8 : Int) (a1 : Nat → T_api_Field → Option Bool) (a1_fid : Go.FuncId) (a1_c0 : V) (a1_hok : ∀ j x0, EV j a1_fid [(eField x0), V.pro a1_c0] = (a1 j x0).map fun b => ((Bo b), [])) : RE k f68a7 f68o7 false ⟨[(0, (sField a0)), (1, (V.fn a1_fid [] [V.pro a1_c0])), (7, (I (a0.length : Int))), (8, (I y8)), (9, (Bo false))], [], 19⟩ = some ⟨[(4, (I (-1)))], [], 19⟩ :=
  rE rfl
theorem slices_IndexFunc_Field_ok (k : Nat) (a0 : (List T_api_Field)) (a1 : Nat → T_api_Field → Option Bool) (a1_fid : Go.FuncId) (a1_c0 : V) (a1_hok : ∀ j x0, EV j a1_fid [(eField x0), V.pro a1_c0] = (a1 j x0).map fun b => ((Bo b), [])) : EV k 68 [(sField a0), (V.fn a1_fid [] [V.pro a1_c0])] = (slices_IndexFunc_Field k a0 a1).map slices_IndexFunc_Field_fin := by
  cases k with
  | zero => rfl
  | succ k =>
    unfold slices_IndexFunc_Field
    refine et (evF_succ (c := f68c) (N := 19) (regs := f68n) rfl func68 rfl (by decide) rfl rfl rfl) ?_
    refine et (k_region0 rfl (f68r0 k a0 a1 a1_fid a1_c0 a1_hok)) ?_
    refine et k_assoc ?_
    refine et (k_region0 rfl (f68r1 k a0 a1 a1_fid a1_c0 a1_hok)) ?_
    refine et (k_block rfl) ?_
    refine et k_loop ?_
    refine slices_IndexFunc_Field_L1_ok k a0 a1 a1_fid a1_c0 a1_hok _ _ ?h_slices_IndexFunc_Field_L1_0 ?hr_slices_IndexFunc_Field_L1 k 0
    · intro y8
      refine et blk_exit ?_
      refine et (k_region0 rfl (f68r7 k a0 y8 a1 a1_fid a1_c0 a1_hok)) ?_
      refine et k_lret ?_
      rfl
    · intro s; exact rfl
def slices_ContainsFunc_Field_fin : Bool → V × List V := fun r => ((Bo r), [])
theorem f118r0 (k : Nat) (a0 : (List T_api_Field)) (a1 : Nat → T_api_Field → Option Bool) (a1_fid : Go.FuncId) (a1_c0 : V) (a1_hok : ∀ j x0, EV j a1_fid [(eField x0), V.pro a1_c0] = (a1 j x0).map fun b => ((Bo b), [])) : RE k f118a0 f118o0 false ⟨[(0, (sField a0)), (1, (V.fn a1_fid [] [V.pro a1_c0]))], [], 9⟩ = some ⟨[(0, (sField a0)), (1, (V.fn a1_fid [] [V.pro a1_c0]))], [], 9⟩ :=
  rE rfl
theorem f118r1 (k : Nat) (a0 : (List T_api_Field)) (a1 : Nat → T_api_Field → Option Bool) (a1_fid : Go.FuncId) (a1_c0 : V) (a1_hok : ∀ j x0, EV j a1_fid [(eField x0), V.pro a1_c0] = (a1 j x0).map fun b => ((Bo b), [])) : RE k f118a1 f118o1 false ⟨[(0, (sField a0)), (1, (V.fn a1_fid [] [V.pro a1_c0]))], [], 9⟩ = (((slices_IndexFunc_Field k a0 a1).bind fun v1 => (some ((decide (v1 ≥ 0)))))).map (fun (o : Bool) => (⟨[(4, (Bo o))], [], 9⟩ : St)) := by
  refine rg ?_
  refine ra 2 2 ⟨[(0, (sField a0)), (1, (V.fn a1_fid [] [V.pro a1_c0])), (5, (sField a0)), (6, (V.fn a1_fid [] [V.pro a1_c0]))], [], 9⟩ rfl rfl rfl ?_
  refine et (reg_pure (x := (slices_IndexFunc_Field k a0 a1)) (w := fun v1 => (I v1)) rfl rfl rfl rfl (p_call rfl rfl rfl rfl rfl (slices_IndexFunc_Field_ok k a0 a1 a1_fid a1_c0 a1_hok) (.inl rfl))) ?_
  refine bindE (fun v1 => ?_)
  exact bind_end rfl
theorem slices_ContainsFunc_Field_ok (k : Nat) (a0 : (List T_api_Field)) (a1 : Nat → T_api_Field → Option Bool) (a1_fid : Go.FuncId) (a1_c0 : V) (a1_hok : ∀ j x0, EV j a1_fid [(eField x0), V.pro a1_c0] = (a1 j x0).map fun b => ((Bo b), [])) : EV k 118 [(sField a0), (V.fn a1_fid [] [V.pro a1_c0])] = (slices_ContainsFunc_Field k a0 a1).map slices_ContainsFunc_Field_fin := by
  cases k with
  | zero => rfl
  | succ k =>
    unfold slices_ContainsFunc_Field
    refine et (evF_succ (c := f118c) (N := 9) (regs := f118n) rfl func118 rfl (by decide) rfl rfl rfl) ?_
    refine et (k_region0 rfl (f118r0 k a0 a1 a1_fid a1_c0 a1_hok)) ?_
    refine et (k_region rfl (f118r1 k a0 a1 a1_fid a1_c0 a1_hok)) ?_
    refine bindE (fun o2 => ?_)
    refine et k_lret ?_
    rfl
def dbd_areFields_1_fin : Bool → V × List V := fun r => ((Bo r), [])
theorem f119r0 (k : Nat) (a0 : T_api_Field) (a1 : T_api_Field) : RE k f119a0 f119o0 false ⟨[(0, (eField a0)), (1, (Pr (eField a1)))], [], 9⟩ = some ⟨[(1, (Pr (eField a1))), (2, (Pt 2))], [(2, vS 3 (eField a0))], 9⟩ :=
  rE rfl
theorem f119r1 (k : Nat) (a0 : T_api_Field) (a1 : T_api_Field) : RE k f119a1 f119o1 false ⟨[(1, (Pr (eField a1))), (2, (Pt 2))], [(2, vS 3 (eField a0))], 9⟩ = some ⟨[(3, (Bo (a0.fName == a1.fName)))], [], 9⟩ :=
  rE rfl
theorem dbd_areFields_1_ok (k : Nat) (a0 : T_api_Field) (a1 : T_api_Field) : EV k 119 [(eField a0), (Pr (eField a1))] = (dbd_areFields_1 k a0 a1).map dbd_areFields_1_fin := by
  cases k with
  | zero => rfl
  | succ k =>
    unfold dbd_areFields_1
    refine et (evF_succ (c := f119c) (N := 9) (regs := f119n) rfl func119 rfl (by decide) rfl rfl rfl) ?_
    refine et (k_region0 rfl (f119r0 k a0 a1)) ?_
    refine et (k_region0 rfl (f119r1 k a0 a1)) ?_
    refine et k_lret ?_
    rfl
def dbd_areFields_fin : Bool → V × List V := fun r => ((Bo r), [])
theorem f115r0 (k : Nat) (a0 : (List T_api_Field)) (a1 : Int) : RE k f115a0 f115o0 false ⟨[(0, (sField a0)), (1, (I a1))], [], 52⟩ = some ⟨[(0, (sField a0)), (1, (I a1))], [], 52⟩ :=
  rE rfl
theorem f115r1 (k : Nat) (a0 : (List T_api_Field)) (a1 : Int) : RE k f115a1 f115o1 false ⟨[(0, (sField a0)), (1, (I a1))], [], 52⟩ = some ⟨[(0, (sField a0)), (1, (I a1)), (7, (sField a0)), (8, (I (a0.length : Int))), (9, (I 0))], [], 52⟩ := by
  refine rg ?_
  refine ra 1 1 ⟨[(0, (sField a0)), (1, (I a1)), (7, (sField a0))], [], 52⟩ rfl rfl rfl ?_
  refine et (reg_pure (x := some ()) (w := fun _ => (I (a0.length : Int))) rfl rfl rfl rfl (p_len (e := eField) rfl rfl rfl rfl rfl rfl underlying43)) ?_
  refine et some_bind ?_
  exact bind_end rfl
theorem f115r2 (k : Nat) (a0 : (List T_api_Field)) (a1 : Int) (x8 : Int) : RE k f115a2 f115o2 false ⟨[(0, (sField a0)), (1, (I a1)), (7, (sField a0)), (8, (I (a0.length : Int))), (9, (I x8))], [], 52⟩ = some ⟨[(0, (sField a0)), (1, (I a1)), (7, (sField a0)), (8, (I (a0.length : Int))), (9, (I x8)), (10, (Bo (decide (x8 < (a0.length : Int)))))], [], 52⟩ :=
  rE rfl
theorem f115r3 (k : Nat) (a0 : (List T_api_Field)) (a1 : Int) (x8 : Int) : RE k f115a3 f115o3 false ⟨[(0, (sField a0)), (1, (I a1)), (7, (sField a0)), (8, (I (a0.length : Int))), (9, (I x8)), (10, (Bo true))], [], 52⟩ = (((idx a0 x8).bind fun v9 => (some (x8, v9)))).map (fun (o : Int × T_api_Field) => (⟨[(0, (sField a0)), (1, (I a1)), (5, (I o.1)), (6, (Pt 6)), (7, (sField a0)), (8, (I (a0.length : Int))), (9, (I x8))], [(6, vS 3 (eField o.2))], 52⟩ : St)) := by
  refine rg ?_
  refine ra 1 1 ⟨[(0, (sField a0)), (1, (I a1)), (7, (sField a0)), (8, (I (a0.length : Int))), (9, (I x8)), (10, (Bo true)), (11, (I x8))], [], 52⟩ rfl rfl rfl ?_
  refine et (reg_pure (x := (idx a0 x8)) (w := fun v9 => (Pr (eField v9))) rfl rfl rfl rfl (p_index (e := eField) rfl rfl rfl underlying43 rfl (by decide))) ?_
  refine bindE (fun v9 => ?_)
  exact bind_end rfl
theorem f115r4 (k : Nat) (a0 : (List T_api_Field)) (a1 : Int) (x8 : Int) (o10 : Int × T_api_Field) : RE k f115a4 f115o4 false ⟨[(0, (sField a0)), (1, (I a1)), (5, (I o10.1)), (6, (Pt 6)), (7, (sField a0)), (8, (I (a0.length : Int))), (9, (I x8))], [(6, vS 3 (eField o10.2))], 52⟩ = (((dbd_IsName k o10.2.fName).bind fun v11 => (bif (!v11) then (some (true)) else (bif (decide (o10.2.fAt < 0)) then (some (true)) else (bif (decide (o10.2.fAt ≥ a1)) then (some (true)) else (bif (decide (o10.2.fBytes < 1)) then (some (true)) else (some ((decide (o10.2.fBytes > (Go.IntKind.wrap .i64 (a1 - o10.2.fAt)))))))))))).map (fun (o : Bool) => (⟨[(0, (sField a0)), (1, (I a1)), (5, (I o10.1)), (6, (Pt 6)), (7, (sField a0)), (8, (I (a0.length : Int))), (9, (I x8)), (42, (Bo o))], [(6, vS 3 (eField o10.2))], 52⟩ : St)) := by
  refine rg ?_
  refine ra 2 2 ⟨[(0, (sField a0)), (1, (I a1)), (5, (I o10.1)), (6, (Pt 6)), (7, (sField a0)), (8, (I (a0.length : Int))), (9, (I x8)), (14, (Pt 6)), (15, (Sr o10.2.fName))], [(6, vS 3 (eField o10.2))], 52⟩ rfl rfl rfl ?_
  refine et (reg_pure (x := (dbd_IsName k o10.2.fName)) (w := fun v11 => (Bo v11)) rfl rfl rfl rfl (p_call rfl rfl rfl rfl rfl (dbd_IsName_ok k o10.2.fName) (.inl rfl))) ?_
  refine bindE (fun v11 => ?_)
  refine ba 2 5 ⟨[(0, (sField a0)), (1, (I a1)), (5, (I o10.1)), (6, (Pt 6)), (7, (sField a0)), (8, (I (a0.length : Int))), (9, (I x8)), (14, (Pt 6)), (15, (Sr o10.2.fName)), (16, (Bo v11)), (17, (Bo (!v11))), (18, (Bo (!v11)))], [(6, vS 3 (eField o10.2))], 52⟩ rfl rfl rfl ?_
  refine bifE (c := (!v11)) (fun hc => ?_) fun hc => ?_
  · rw [hc]
    exact reg_end rfl
  · rw [hc]
    refine ra 5 10 ⟨[(0, (sField a0)), (1, (I a1)), (5, (I o10.1)), (6, (Pt 6)), (7, (sField a0)), (8, (I (a0.length : Int))), (9, (I x8)), (14, (Pt 6)), (15, (Sr o10.2.fName)), (16, (Bo v11)), (17, (Bo false)), (18, (Bo false)), (19, (V.ptr 6 0 1)), (20, (I o10.2.fAt)), (21, (Bo (decide (o10.2.fAt < 0)))), (22, (Bo (decide (o10.2.fAt < 0)))), (23, (Bo (decide (o10.2.fAt < 0))))], [(6, vS 3 (eField o10.2))], 52⟩ rfl rfl rfl ?_
    refine bifE (c := (decide (o10.2.fAt < 0))) (fun hc => ?_) fun hc => ?_
    · rw [hc]
      exact reg_end rfl
    · rw [hc]
      refine ra 6 16 ⟨[(0, (sField a0)), (1, (I a1)), (5, (I o10.1)), (6, (Pt 6)), (7, (sField a0)), (8, (I (a0.length : Int))), (9, (I x8)), (14, (Pt 6)), (15, (Sr o10.2.fName)), (16, (Bo v11)), (17, (Bo false)), (18, (Bo false)), (19, (V.ptr 6 0 1)), (20, (I o10.2.fAt)), (21, (Bo false)), (22, (Bo false)), (23, (Bo false)), (24, (V.ptr 6 0 1)), (25, (I o10.2.fAt)), (26, (I a1)), (27, (Bo (decide (o10.2.fAt ≥ a1)))), (28, (Bo (decide (o10.2.fAt ≥ a1)))), (29, (Bo (decide (o10.2.fAt ≥ a1))))], [(6, vS 3 (eField o10.2))], 52⟩ rfl rfl rfl ?_
      refine bifE (c := (decide (o10.2.fAt ≥ a1))) (fun hc => ?_) fun hc => ?_
      · rw [hc]
        exact reg_end rfl
      · rw [hc]
        refine ra 5 21 ⟨[(0, (sField a0)), (1, (I a1)), (5, (I o10.1)), (6, (Pt 6)), (7, (sField a0)), (8, (I (a0.length : Int))), (9, (I x8)), (14, (Pt 6)), (15, (Sr o10.2.fName)), (16, (Bo v11)), (17, (Bo false)), (18, (Bo false)), (19, (V.ptr 6 0 1)), (20, (I o10.2.fAt)), (21, (Bo false)), (22, (Bo false)), (23, (Bo false)), (24, (V.ptr 6 0 1)), (25, (I o10.2.fAt)), (26, (I a1)), (27, (Bo false)), (28, (Bo false)), (29, (Bo false)), (30, (V.ptr 6 0 2)), (31, (I o10.2.fBytes)), (32, (Bo (decide (o10.2.fBytes < 1)))), (33, (Bo (decide (o10.2.fBytes < 1)))), (34, (Bo (decide (o10.2.fBytes < 1))))], [(6, vS 3 (eField o10.2))], 52⟩ rfl rfl rfl ?_
        refine bifE (c := (decide (o10.2.fBytes < 1))) (fun hc => ?_) fun hc => ?_
        · rw [hc]
          exact reg_end rfl
        · rw [hc]
          exact reg_end rfl
theorem f115r5 (k : Nat) (a0 : (List T_api_Field)) (a1 : Int) (x8 : Int) (o10 : Int × T_api_Field) : RE k f115a5 f115o5 false ⟨[(0, (sField a0)), (1, (I a1)), (5, (I o10.1)), (6, (Pt 6)), (7, (sField a0)), (8, (I (a0.length : Int))), (9, (I x8)), (42, (Bo true))], [(6, vS 3 (eField o10.2))], 52⟩ = some ⟨[(4, (Bo false))], [], 52⟩ :=
  rE rfl
theorem f115r6 (k : Nat) (a0 : (List T_api_Field)) (a1 : Int) (x8 : Int) (o10 : Int × T_api_Field) : RE k f115a6 f115o6 false ⟨[(0, (sField a0)), (1, (I a1)), (5, (I o10.1)), (6, (Pt 6)), (7, (sField a0)), (8, (I (a0.length : Int))), (9, (I x8)), (42, (Bo false))], [(6, vS 3 (eField o10.2))], 52⟩ = (((cut a0 0 o10.1).bind fun v13 => (slices_ContainsFunc_Field k v13 (fun j x0 => (dbd_areFields_1 j x0 o10.2))))).map (fun (o : Bool) => (⟨[(0, (sField a0)), (1, (I a1)), (7, (sField a0)), (8, (I (a0.length : Int))), (9, (I x8)), (47, (Bo o))], [], 52⟩ : St)) := by
  refine rg ?_
  refine ra 2 2 ⟨[(0, (sField a0)), (1, (I a1)), (5, (I o10.1)), (6, (Pt 6)), (7, (sField a0)), (8, (I (a0.length : Int))), (9, (I x8)), (42, (Bo false)), (43, (sField a0)), (44, (I o10.1))], [(6, vS 3 (eField o10.2))], 52⟩ rfl rfl rfl ?_
  refine et (reg_pure (x := (cut a0 0 o10.1)) (w := fun v13 => (sField v13)) rfl rfl rfl rfl (p_slice (e := eField) rfl rfl rfl rfl rfl rfl underlying43 rfl (by decide))) ?_
  refine bindE (fun v13 => ?_)
  refine ba 1 4 ⟨[(0, (sField a0)), (1, (I a1)), (5, (I o10.1)), (6, (Pt 6)), (7, (sField a0)), (8, (I (a0.length : Int))), (9, (I x8)), (42, (Bo false)), (43, (sField a0)), (44, (I o10.1)), (45, (sField v13)), (46, (V.fn 119 [] [(Pt 6)]))], [(6, vS 3 (eField o10.2))], 52⟩ rfl rfl rfl ?_
  refine et (reg_pure (x := (slices_ContainsFunc_Field k v13 (fun j x0 => (dbd_areFields_1 j x0 o10.2)))) (w := fun v14 => (Bo v14)) rfl rfl rfl rfl (p_call rfl rfl rfl rfl rfl (slices_ContainsFunc_Field_ok k v13 (fun j x0 => (dbd_areFields_1 j x0 o10.2)) 119 (eField o10.2) (fun j x0 => (dbd_areFields_1_ok j x0 o10.2))) (.inr (fun _ => rfl)))) ?_
  refine bind_self (fun v14 => ?_)
  exact bind_end rfl
theorem f115r7 (k : Nat) (a0 : (List T_api_Field)) (a1 : Int) (x8 : Int) : RE k f115a7 f115o7 false ⟨[(0, (sField a0)), (1, (I a1)), (7, (sField a0)), (8, (I (a0.length : Int))), (9, (I x8)), (47, (Bo true))], [], 52⟩ = some ⟨[(4, (Bo false))], [], 52⟩ :=
  rE rfl
theorem f115r8 (k : Nat) (a0 : (List T_api_Field)) (a1 : Int) (x8 : Int) : RE k f115a8 f115o8 false ⟨[(0, (sField a0)), (1, (I a1)), (7, (sField a0)), (8, (I (a0.length : Int))), (9, (I x8)), (47, (Bo false))], [], 52⟩ = some ⟨[(0, (sField a0)), (1, (I a1)), (7, (sField a0)), (8, (I (a0.length : Int))), (9, (I (Go.IntKind.wrap .i64 (x8 + 1))))], [], 52⟩ :=
  rE rfl
theorem dbd_areFields_L1_ok (k : Nat) (a0 : (List T_api_Field)) (a1 : Int)  (K0 : Int → Option Bool) (Kst : X × St → Option (V × List V)) (hK0 : ∀ (y0 : Int), Kst (X.exit 0, ⟨[(0, (sField a0)), (1, (I a1)), (7, (sField a0)), (8, (I (a0.length : Int))), (9, (I y0)), (10, (Bo false))], [], 52⟩) = (K0 y0).map dbd_areFields_fin) (hret : ∀ s, Kst (X.ret, s) = endK prog 52 [(sField a0), (I a1)] [] [.tmp 4] (X.ret, s)) :
    ∀ (m : Nat) (x8 : Int), (iter (exec prog (EV k) f115n k f115b0) m ⟨[(0, (sField a0)), (1, (I a1)), (7, (sField a0)), (8, (I (a0.length : Int))), (9, (I x8))], [], 52⟩).bind Kst = (dbd_areFields_L1 k a0 a1 K0 m x8).map dbd_areFields_fin := by
  intro m
  induction m with
  | zero => intros; rfl
  | succ m ih =>
    intro x8
    unfold dbd_areFields_L1
    refine et k_round ?_
    refine et (k_region0 rfl (f115r2 k a0 a1 x8)) ?_
    refine et (k_cond (t := (decide (x8 < (a0.length : Int)))) rfl rfl) ?_
    refine bifE2 (fun hc => ?_) fun hc => ?_
    · rw [hc]
      refine et k_skip ?_
      refine et (k_block rfl) ?_
      refine et (k_region rfl (f115r3 k a0 a1 x8)) ?_
      refine bindE (fun o10 => ?_)
      refine et k_assoc ?_
      refine et (k_region rfl (f115r4 k a0 a1 x8 o10)) ?_
      refine bindE (fun o12 => ?_)
      refine et (k_cond (t := o12) rfl rfl) ?_
      refine bifE2 (fun hc => ?_) fun hc => ?_
      · rw [hc]
        refine et k_assoc ?_
        refine et (k_region0 rfl (f115r5 k a0 a1 x8 o10)) ?_
        refine et k_ret ?_
        refine et blk_ret ?_
        refine et loop_ret ?_
        refine et (hret _) ?_
        rfl
      · rw [hc]
        refine et k_skip ?_
        refine et (k_region rfl (f115r6 k a0 a1 x8 o10)) ?_
        refine bindE (fun o15 => ?_)
        refine et (k_lcond (t := o15) rfl rfl) ?_
        refine bifE2 (fun hc => ?_) fun hc => ?_
        · rw [hc]
          refine et (k_region0 rfl (f115r7 k a0 a1 x8)) ?_
          refine et k_lret ?_
          refine et blk_ret ?_
          refine et loop_ret ?_
          refine et (hret _) ?_
          rfl
        · rw [hc]
          refine et k_lskip ?_
          refine et blk_normal ?_
          refine et (k_lregion0 rfl (f115r8 k a0 a1 x8)) ?_
          refine et loop_normal ?_
          exact ih (Go.IntKind.wrap .i64 (x8 + 1))
    · rw [hc]
      refine et k_exit ?_
      refine et loop_exit ?_
      exact hK0 x8
theorem f115r9 (k : Nat) (a0 : (List T_api_Field)) (a1 : Int) (y16 : Int) : RE k f115a9 f115o9 false ⟨[(0, (sField a0)), (1, (I a1)), (7, (sField a0)), (8, (I (a0.length : Int))), (9, (I y16)), (10, (Bo false))], [], 52⟩ = some ⟨[(4, (Bo (decide ((a0.length : Int) ≤ 5))))], [], 52⟩ := by
  refine rg ?_
  refine ra 1 1 ⟨[(0, (sField a0)), (1, (I a1)), (7, (sField a0)), (8, (I (a0.length : Int))), (9, (I y16)), (10, (Bo false)), (49, (sField a0))], [], 52⟩ rfl rfl rfl ?_
  refine et (reg_pure (x := some ()) (w := fun _ => (I (a0.length : Int))) rfl rfl rfl rfl (p_len (e := eField) rfl rfl rfl rfl rfl rfl underlying43)) ?_
  refine et some_bind ?_
  exact bind_end rfl
theorem dbd_areFields_ok (k : Nat) (a0 : (List T_api_Field)) (a1 : Int) : EV k 115 [(sField a0), (I a1)] = (dbd_areFields k a0 a1).map dbd_areFields_fin := by
  cases k with
  | zero => rfl
  | succ k =>
    unfold dbd_areFields
    refine et (evF_succ (c := f115c) (N := 52) (regs := f115n) rfl func115 rfl (by decide) rfl rfl rfl) ?_
    refine et (k_region0 rfl (f115r0 k a0 a1)) ?_
    refine et k_assoc ?_
    refine et (k_region0 rfl (f115r1 k a0 a1)) ?_
    refine et (k_block rfl) ?_
    refine et k_loop ?_
    refine dbd_areFields_L1_ok k a0 a1 _ _ ?h_dbd_areFields_L1_0 ?hr_dbd_areFields_L1 k 0
    · intro y16
      refine et blk_exit ?_
      refine et (k_region0 rfl (f115r9 k a0 a1 y16)) ?_
      refine et k_lret ?_
      rfl
    · intro s; exact rfl
def dbd_isType_fin : Bool → V × List V := fun r => ((Bo r), [])
theorem f109r0 (k : Nat) (a0 : T_api_Type) : RE k f109a0 f109o0 false ⟨[(0, (eType a0))], [], 70⟩ = some ⟨[(1, (Pt 1))], [(1, vS 8 (eType a0))], 70⟩ :=
  rE rfl
theorem f109r1 (k : Nat) (a0 : T_api_Type) : RE k f109a1 f109o1 false ⟨[(1, (Pt 1))], [(1, vS 8 (eType a0))], 70⟩ = (((dbd_IsName k a0.fName).bind fun v1 => (bif (!v1) then (some (true)) else (bif (decide (a0.fMin < 1)) then (some (true)) else (bif (decide (a0.fMin > a0.fSize)) then (some (true)) else (bif (decide (a0.fSize > 40)) then (some (true)) else ((dbd_areFields k a0.fFields a0.fSize).bind fun v2 => (some ((!v2)))))))))).map (fun (o : Bool) => (⟨[(1, (Pt 1)), (3, (Bo o))], [(1, vS 8 (eType a0))], 70⟩ : St)) := by
  refine rg ?_
  refine ra 2 2 ⟨[(1, (Pt 1)), (4, (Pt 1)), (5, (Sr a0.fName))], [(1, vS 8 (eType a0))], 70⟩ rfl rfl rfl ?_
  refine et (reg_pure (x := (dbd_IsName k a0.fName)) (w := fun v1 => (Bo v1)) rfl rfl rfl rfl (p_call rfl rfl rfl rfl rfl (dbd_IsName_ok k a0.fName) (.inl rfl))) ?_
  refine bindE (fun v1 => ?_)
  refine ba 2 5 ⟨[(1, (Pt 1)), (4, (Pt 1)), (5, (Sr a0.fName)), (6, (Bo v1)), (7, (Bo (!v1))), (8, (Bo (!v1)))], [(1, vS 8 (eType a0))], 70⟩ rfl rfl rfl ?_
  refine bifE (c := (!v1)) (fun hc => ?_) fun hc => ?_
  · rw [hc]
    exact reg_end rfl
  · rw [hc]
    refine ra 5 10 ⟨[(1, (Pt 1)), (4, (Pt 1)), (5, (Sr a0.fName)), (6, (Bo v1)), (7, (Bo false)), (8, (Bo false)), (9, (V.ptr 1 0 2)), (10, (I a0.fMin)), (11, (Bo (decide (a0.fMin < 1)))), (12, (Bo (decide (a0.fMin < 1)))), (13, (Bo (decide (a0.fMin < 1))))], [(1, vS 8 (eType a0))], 70⟩ rfl rfl rfl ?_
    refine bifE (c := (decide (a0.fMin < 1))) (fun hc => ?_) fun hc => ?_
    · rw [hc]
      exact reg_end rfl
    · rw [hc]
      refine ra 7 17 ⟨[(1, (Pt 1)), (4, (Pt 1)), (5, (Sr a0.fName)), (6, (Bo v1)), (7, (Bo false)), (8, (Bo false)), (9, (V.ptr 1 0 2)), (10, (I a0.fMin)), (11, (Bo false)), (12, (Bo false)), (13, (Bo false)), (14, (V.ptr 1 0 2)), (15, (I a0.fMin)), (16, (V.ptr 1 0 3)), (17, (I a0.fSize)), (18, (Bo (decide (a0.fMin > a0.fSize)))), (19, (Bo (decide (a0.fMin > a0.fSize)))), (20, (Bo (decide (a0.fMin > a0.fSize))))], [(1, vS 8 (eType a0))], 70⟩ rfl rfl rfl ?_
      refine bifE (c := (decide (a0.fMin > a0.fSize))) (fun hc => ?_) fun hc => ?_
      · rw [hc]
        exact reg_end rfl
      · rw [hc]
        refine ra 5 22 ⟨[(1, (Pt 1)), (4, (Pt 1)), (5, (Sr a0.fName)), (6, (Bo v1)), (7, (Bo false)), (8, (Bo false)), (9, (V.ptr 1 0 2)), (10, (I a0.fMin)), (11, (Bo false)), (12, (Bo false)), (13, (Bo false)), (14, (V.ptr 1 0 2)), (15, (I a0.fMin)), (16, (V.ptr 1 0 3)), (17, (I a0.fSize)), (18, (Bo false)), (19, (Bo false)), (20, (Bo false)), (21, (V.ptr 1 0 3)), (22, (I a0.fSize)), (23, (Bo (decide (a0.fSize > 40)))), (24, (Bo (decide (a0.fSize > 40)))), (25, (Bo (decide (a0.fSize > 40))))], [(1, vS 8 (eType a0))], 70⟩ rfl rfl rfl ?_
        refine bifE (c := (decide (a0.fSize > 40))) (fun hc => ?_) fun hc => ?_
        · rw [hc]
          exact reg_end rfl
        · rw [hc]
          refine ra 4 26 ⟨[(1, (Pt 1)), (4, (Pt 1)), (5, (Sr a0.fName)), (6, (Bo v1)), (7, (Bo false)), (8, (Bo false)), (9, (V.ptr 1 0 2)), (10, (I a0.fMin)), (11, (Bo false)), (12, (Bo false)), (13, (Bo false)), (14, (V.ptr 1 0 2)), (15, (I a0.fMin)), (16, (V.ptr 1 0 3)), (17, (I a0.fSize)), (18, (Bo false)), (19, (Bo false)), (20, (Bo false)), (21, (V.ptr 1 0 3)), (22, (I a0.fSize)), (23, (Bo false)), (24, (Bo false)), (25, (Bo false)), (26, (V.ptr 1 0 4)), (27, (sField a0.fFields)), (28, (V.ptr 1 0 3)), (29, (I a0.fSize))], [(1, vS 8 (eType a0))], 70⟩ rfl rfl rfl ?_
          refine et (reg_pure (x := (dbd_areFields k a0.fFields a0.fSize)) (w := fun v2 => (Bo v2)) rfl rfl rfl rfl (p_call rfl rfl rfl rfl rfl (dbd_areFields_ok k a0.fFields a0.fSize) (.inl rfl))) ?_
          refine bindE (fun v2 => ?_)
          exact bind_end rfl
theorem f109r2 (k : Nat) (a0 : T_api_Type) : RE k f109a2 f109o2 false ⟨[(1, (Pt 1)), (3, (Bo true))], [(1, vS 8 (eType a0))], 70⟩ = some ⟨[(2, (Bo false))], [], 70⟩ :=
  rE rfl
theorem f109r3 (k : Nat) (a0 : T_api_Type) : RE k f109a3 f109o3 false ⟨[(1, (Pt 1)), (3, (Bo false))], [(1, vS 8 (eType a0))], 70⟩ = some ⟨[(1, (Pt 1)), (33, (Bo (a0.fKey == (-1))))], [(1, vS 8 (eType a0))], 70⟩ :=
  rE rfl
theorem f109r4 (k : Nat) (a0 : T_api_Type) : RE k f109a4 f109o4 false ⟨[(1, (Pt 1)), (33, (Bo true))], [(1, vS 8 (eType a0))], 70⟩ = some ⟨[(2, (Bo (!a0.fUnique)))], [], 70⟩ :=
  rE rfl
theorem f109r5 (k : Nat) (a0 : T_api_Type) : RE k f109a5 f109o5 false ⟨[(1, (Pt 1)), (33, (Bo false))], [(1, vS 8 (eType a0))], 70⟩ = ((bif (decide (a0.fKey < 0)) then (some (true)) else (some ((decide (a0.fKey ≥ (a0.fFields.length : Int))))))).map (fun (o : Bool) => (⟨[(1, (Pt 1)), (40, (Bo o))], [(1, vS 8 (eType a0))], 70⟩ : St)) := by
  refine rg ?_
  refine ra 4 4 ⟨[(1, (Pt 1)), (33, (Bo false)), (41, (V.ptr 1 0 5)), (42, (I a0.fKey)), (43, (Bo (decide (a0.fKey < 0)))), (44, (Bo (decide (a0.fKey < 0))))], [(1, vS 8 (eType a0))], 70⟩ rfl rfl rfl ?_
  refine bifE (c := (decide (a0.fKey < 0))) (fun hc => ?_) fun hc => ?_
  · rw [hc]
    exact reg_end rfl
  · rw [hc]
    refine ra 4 8 ⟨[(1, (Pt 1)), (33, (Bo false)), (41, (V.ptr 1 0 5)), (42, (I a0.fKey)), (43, (Bo false)), (44, (Bo false)), (45, (V.ptr 1 0 5)), (46, (I a0.fKey)), (47, (V.ptr 1 0 4)), (48, (sField a0.fFields))], [(1, vS 8 (eType a0))], 70⟩ rfl rfl rfl ?_
    refine et (reg_pure (x := some ()) (w := fun _ => (I (a0.fFields.length : Int))) rfl rfl rfl rfl (p_len (e := eField) rfl rfl rfl rfl rfl rfl underlying43)) ?_
    refine et some_bind ?_
    exact bind_end rfl
theorem f109r6 (k : Nat) (a0 : T_api_Type) : RE k f109a6 f109o6 false ⟨[(1, (Pt 1)), (40, (Bo true))], [(1, vS 8 (eType a0))], 70⟩ = some ⟨[(2, (Bo false))], [], 70⟩ :=
  rE rfl
theorem f109r7 (k : Nat) (a0 : T_api_Type) : RE k f109a7 f109o7 true ⟨[(1, (Pt 1)), (40, (Bo false))], [(1, vS 8 (eType a0))], 70⟩ = (((idx a0.fFields a0.fKey).bind fun v5 => ((idx a0.fFields a0.fKey).bind fun v6 => (some ((decide ((Go.IntKind.wrap .i64 (v5.fAt + v6.fBytes)) ≤ a0.fMin))))))).map (fun (o : Bool) => (⟨[(2, (Bo o))], [], 70⟩ : St)) := by
  refine et (regionE_regp (p := 19) (dk := true) (t := [(1, (Pt 1)), (40, (Bo false))]) (σ := [(1, vS 8 (eType a0))]) (n := 70) rfl (by decide) (by decide) rfl) ?_
  refine et (regp_adv (m := 4) (j := 4) (t' := [(1, (Pt 1)), (40, (Bo false)), (52, (V.ptr 1 0 4)), (53, (sField a0.fFields)), (54, (V.ptr 1 0 5)), (55, (I a0.fKey))]) rfl rfl rfl) ?_
  refine et (regp_pure (x := (idx a0.fFields a0.fKey)) (w := fun v5 => (Pr (eField v5))) rfl rfl rfl rfl rfl (p_index (e := eField) rfl rfl rfl underlying43 rfl (by decide))) ?_
  refine bindE (fun v5 => ?_)
  refine et (putp_adv (m := 6) (j := 11) (t' := [(1, (Pt 1)), (40, (Bo false)), (52, (V.ptr 1 0 4)), (53, (sField a0.fFields)), (54, (V.ptr 1 0 5)), (55, (I a0.fKey)), (56, (Pr (eField v5))), (57, (Pr (I v5.fAt))), (58, (I v5.fAt)), (59, (V.ptr 1 0 4)), (60, (sField a0.fFields)), (61, (V.ptr 1 0 5)), (62, (I a0.fKey))]) rfl rfl rfl) ?_
  refine et (regp_pure (x := (idx a0.fFields a0.fKey)) (w := fun v6 => (Pr (eField v6))) rfl rfl rfl rfl rfl (p_index (e := eField) rfl rfl rfl underlying43 rfl (by decide))) ?_
  refine bindE (fun v6 => ?_)
  exact regp_end rfl
theorem dbd_isType_ok (k : Nat) (a0 : T_api_Type) : EV k 109 [(eType a0)] = (dbd_isType k a0).map dbd_isType_fin := by
  cases k with
  | zero => rfl
  | succ k =>
    unfold dbd_isType
    refine et (evF_succ (c := f109c) (N := 70) (regs := f109n) rfl func109 rfl (by decide) rfl rfl rfl) ?_
    refine et (k_region0 rfl (f109r0 k a0)) ?_
    refine et (k_block rfl) ?_
    refine et (k_region rfl (f109r1 k a0)) ?_
    refine bindE (fun o3 => ?_)
    refine et (k_lcond (t := o3) rfl rfl) ?_
    refine bifE2 (fun hc => ?_) fun hc => ?_
    · rw [hc]
      refine et (k_region0 rfl (f109r2 k a0)) ?_
      refine et k_lret ?_
      refine et blk_ret ?_
      rfl
    · rw [hc]
      refine et (k_region0 rfl (f109r3 k a0)) ?_
      refine et (k_lcond (t := (a0.fKey == (-1))) rfl rfl) ?_
      refine bifE2 (fun hc => ?_) fun hc => ?_
      · rw [hc]
        refine et (k_region0 rfl (f109r4 k a0)) ?_
        refine et k_lret ?_
        refine et blk_ret ?_
        rfl
      · rw [hc]
        refine et (k_region rfl (f109r5 k a0)) ?_
        refine bindE (fun o4 => ?_)
        refine et (k_lcond (t := o4) rfl rfl) ?_
        refine bifE2 (fun hc => ?_) fun hc => ?_
        · rw [hc]
          refine et (k_region0 rfl (f109r6 k a0)) ?_
          refine et k_lret ?_
          refine et blk_ret ?_
          rfl
        · rw [hc]
          refine et k_lskip ?_
          refine et blk_normal ?_
          refine et (k_region rfl (f109r7 k a0)) ?_
          refine bindE (fun o7 => ?_)
          refine et k_lret ?_
          rfl
def slices_IndexFunc_Type_fin : Int → V × List V := fun r => ((I r), [])
theorem f116r0 (k : Nat) (a0 : (List T_api_Type)) (a1 : Nat → T_api_Type → Option Bool) (a1_fid : Go.FuncId) (a1_c0 : V) (a1_hok : ∀ j x0, EV j a1_fid [(eType x0), V.pro a1_c0] = (a1 j x0).map fun b => ((Bo b), [])) : RE k f116a0 f116o0 false ⟨[(0, (sType a0)), (1, (V.fn a1_fid [] [V.pro a1_c0]))], [], 19⟩ = some ⟨[(0, (sType a0)), (1, (V.fn a1_fid [] [V.pro a1_c0]))], [], 19⟩ :=
  rE rfl
theorem f116r1 (k : Nat) (a0 : (List T_api_Type)) (a1 : Nat → T_api_Type → Option Bool) (a1_fid : Go.FuncId) (a1_c0 : V) (a1_hok : ∀ j x0, EV j a1_fid [(eType x0), V.pro a1_c0] = (a1 j x0).map fun b => ((Bo b), [])) : RE k f116a1 f116o1 false ⟨[(0, (sType a0)), (1, (V.fn a1_fid [] [V.pro a1_c0]))], [], 19⟩ = some ⟨[(0, (sType a0)), (1, (V.fn a1_fid [] [V.pro a1_c0])), (7, (I (a0.length : Int))), (8, (I 0))], [], 19⟩ := by
  refine rg ?_
  refine ra 1 1 ⟨[(0, (sType a0)), (1, (V.fn a1_fid [] [V.pro a1_c0])), (6, (sType a0))], [], 19⟩ rfl rfl rfl ?_
  refine et (reg_pure (x := some ()) (w := fun _ => (I (a0.length : Int))) rfl rfl rfl rfl (p_len (e := eType) rfl rfl rfl rfl rfl rfl underlying22)) ?_
  refine et some_bind ?_
  exact bind_end rfl
theorem f116r2 (k : Nat) (a0 : (List T_api_Type)) (x4 : Int) (a1 : Nat → T_api_Type → Option Bool) (a1_fid : Go.FuncId) (a1_c0 : V) (a1_hok : ∀ j x0, EV j a1_fid [(eType x0), V.pro a1_c0] = (a1 j x0).map fun b => ((Bo b), [])) : RE k f116a2 f116o2 false ⟨[(0, (sType a0)), (1, (V.fn a1_fid [] [V.pro a1_c0])), (7, (I (a0.length : Int))), (8, (I x4))], [], 19⟩ = some ⟨[(0, (sType a0)), (1, (V.fn a1_fid [] [V.pro a1_c0])), (7, (I (a0.length : Int))), (8, (I x4)), (9, (Bo (decide (x4 < (a0.length : Int)))))], [], 19⟩ :=
  rE rfl
theorem f116r3 (k : Nat) (a0 : (List T_api_Type)) (x4 : Int) (a1 : Nat → T_api_Type → Option Bool) (a1_fid : Go.FuncId) (a1_c0 : V) (a1_hok : ∀ j x0, EV j a1_fid [(eType x0), V.pro a1_c0] = (a1 j x0).map fun b => ((Bo b), [])) : RE k f116a3 f116o3 false ⟨[(0, (sType a0)), (1, (V.fn a1_fid [] [V.pro a1_c0])), (7, (I (a0.length : Int))), (8, (I x4)), (9, (Bo true))], [], 19⟩ = some ⟨[(0, (sType a0)), (1, (V.fn a1_fid [] [V.pro a1_c0])), (5, (I x4)), (7, (I (a0.length : Int))), (8, (I x4))], [], 19⟩ :=
  rE rfl
theorem f116r4 (k : Nat) (a0 : (List T_api_Type)) (x4 : Int) (a1 : Nat → T_api_Type → Option Bool) (a1_fid : Go.FuncId) (a1_c0 : V) (a1_hok : ∀ j x0, EV j a1_fid [(eType x0), V.pro a1_c0] = (a1 j x0).map fun b => ((Bo b), [])) : RE k f116a4 f116o4 false ⟨[(0, (sType a0)), (1, (V.fn a1_fid [] [V.pro a1_c0])), (5, (I x4)), (7, (I (a0.length : Int))), (8, (I x4))], [], 19⟩ = (((idx a0 x4).bind fun v5 => (a1 k v5))).map (fun (o : Bool) => (⟨[(0, (sType a0)), (1, (V.fn a1_fid [] [V.pro a1_c0])), (5, (I x4)), (7, (I (a0.length : Int))), (8, (I x4)), (16, (Bo o))], [], 19⟩ : St)) := by
  refine rg ?_
  refine ra 3 3 ⟨[(0, (sType a0)), (1, (V.fn a1_fid [] [V.pro a1_c0])), (5, (I x4)), (7, (I (a0.length : Int))), (8, (I x4)), (11, (V.fn a1_fid [] [V.pro a1_c0])), (12, (sType a0)), (13, (I x4))], [], 19⟩ rfl rfl rfl ?_
  refine et (reg_pure (x := (idx a0 x4)) (w := fun v5 => (Pr (eType v5))) rfl rfl rfl rfl (p_index (e := eType) rfl rfl rfl underlying22 rfl (by decide))) ?_
  refine bindE (fun v5 => ?_)
  refine ba 1 5 ⟨[(0, (sType a0)), (1, (V.fn a1_fid [] [V.pro a1_c0])), (5, (I x4)), (7, (I (a0.length : Int))), (8, (I x4)), (11, (V.fn a1_fid [] [V.pro a1_c0])), (12, (sType a0)), (13, (I x4)), (14, (Pr (eType v5))), (15, (eType v5))], [], 19⟩ rfl rfl rfl ?_
  refine et (reg_pure (x := (a1 k v5)) (w := fun v6 => (Bo v6)) rfl rfl rfl rfl (p_call rfl rfl rfl rfl rfl (a1_hok k v5) (.inl rfl))) ?_
  refine bind_self (fun v6 => ?_)
  exact bind_end rfl
theorem f116r5 (k : Nat) (a0 : (List T_api_Type)) (x4 : Int) (a1 : Nat → T_api_Type → Option Bool) (a1_fid : Go.FuncId) (a1_c0 : V) (a1_hok : ∀ j x0, EV j a1_fid [(eType x0), V.pro a1_c0] = (a1 j x0).map fun b => ((Bo b), [])) : RE k f116a5 f116o5 false ⟨[(0, (sType a0)), (1, (V.fn a1_fid [] [V.pro a1_c0])), (5, (I x4)), (7, (I (a0.length : Int))), (8, (I x4)), (16, (Bo true))], [], 19⟩ = some ⟨[(4, (I x4))], [], 19⟩ :=
  rE rfl
theorem f116r6 (k : Nat) (a0 : (List T_api_Type)) (x4 : Int) (a1 : Nat → T_api_Type → Option Bool) (a1_fid : Go.FuncId) (a1_c0 : V) (a1_hok : ∀ j x0, EV j a1_fid [(eType x0), V.pro a1_c0] = (a1 j x0).map fun b => ((Bo b), [])) : RE k f116a6 f116o6 false ⟨[(0, (sType a0)), (1, (V.fn a1_fid [] [V.pro a1_c0])), (5, (I x4)), (7, (I (a0.length : Int))), (8, (I x4)), (16, (Bo false))], [], 19⟩ = some ⟨[(0, (sType a0)), (1, (V.fn a1_fid [] [V.pro a1_c0])), (7, (I (a0.length : Int))), (8, (I (Go.IntKind.wrap .i64 (x4 + 1))))], [], 19⟩ :=
  rE rfl
theorem slices_IndexFunc_Type_L1_ok (k : Nat) (a0 : (List T_api_Type)) (a1 : Nat → T_api_Type → Option Bool) (a1_fid : Go.FuncId) (a1_c0 : V) (a1_hok : ∀ j x0, EV j a1_fid [(eType x0), V.pro a1_c0] = (a1 j x0).map fun b => ((Bo b), [])) (K0 : Int → Option Int) (Kst : X × St → Option (V × List V)) (hK0 : ∀ (y0 : Int), Kst (X.exit 0, ⟨[(0, (sType a0)), (1, (V.fn a1_fid [] [V.pro a1_c0])), (7, (I (a0.length : Int))), (8, (I y0)), (9, (Bo false))], [], 19⟩) = (K0 y0).map slices_IndexFunc_Type_fin) (hret : ∀ s, Kst (X.ret, s) = endK prog 19 [(sType a0), (V.fn a1_fid [] [V.pro a1_c0])] [] [.tmp 4] (X.ret, s)) :
    ∀ (m : Nat) (x4 : Int), (iter (exec prog (EV k) f116n k f116b0) m ⟨[(0, (sType a0)), (1, (V.fn a1_fid [] [V.pro a1_c0])), (7, (I (a0.length : Int))), (8, (I x4))], [], 19⟩).bind Kst = (slices_IndexFunc_Type_L1 k a0 a1 K0 m x4).map slices_IndexFunc_Type_fin := by
  intro m
  induction m with
  | zero => intros; rfl
  | succ m ih =>
    intro x4
    unfold slices_IndexFunc_Type_L1
    refine et k_round ?_
    refine et (k_region0 rfl (f116r2 k a0 x4 a1 a1_fid a1_c0 a1_hok)) ?_
    refine et (k_cond (t := (decide (x4 < (a0.length : Int)))) rfl rfl) ?_
    refine bifE2 (fun hc => ?_) fun hc => ?_
    · rw [hc]
      refine et k_skip ?_
      refine et (k_block rfl) ?_
      refine et (k_region0 rfl (f116r3 k a0 x4 a1 a1_fid a1_c0 a1_hok)) ?_
      refine et (k_region rfl (f116r4 k a0 x4 a1 a1_fid a1_c0 a1_hok)) ?_
      refine bindE (fun o7 => ?_)
      refine et (k_lcond (t := o7) rfl rfl) ?_
      refine bifE2 (fun hc => ?_) fun hc => ?_
      · rw [hc]
        refine et (k_region0 rfl (f116r5 k a0 x4 a1 a1_fid a1_c0 a1_hok)) ?_
        refine et k_lret ?_
        refine et blk_ret ?_
        refine et loop_ret ?_
        refine et (hret _) ?_
        rfl
      · rw [hc]
        refine et k_lskip ?_
        refine et blk_normal ?_
        refine et (k_lregion0 rfl (f116r6 k a0 x4 a1 a1_fid a1_c0 a1_hok)) ?_
        refine et loop_normal ?_
        exact ih (Go.IntKind.wrap .i64 (x4 + 1))
    · rw [hc]
      refine et k_exit ?_
      refine et loop_exit ?_
      exact hK0 x4
theorem f116r7 (k : Nat) (a0 : (List T_api_Type)) (y8 : Int) (a1 : Nat → T_api_Type → Option Bool) (a1_fid : Go.FuncId) (a1_c0 : V) (a1_hok : ∀ j x0, EV j a1_fid [(eType x0), V.pro a1_c0] = (a1 j x0).map fun b => ((Bo b), [])) : RE k f116a7 f116o7 false ⟨[(0, (sType a0)), (1, (V.fn a1_fid [] [V.pro a1_c0])), (7, (I (a0.length : Int))), (8, (I y8)), (9, (Bo false))], [], 19⟩ = some ⟨[(4, (I (-1)))], [], 19⟩ :=
  rE rfl
theorem slices_IndexFunc_Type_ok (k : Nat) (a0 : (List T_api_Type)) (a1 : Nat → T_api_Type → Option Bool) (a1_fid : Go.FuncId) (a1_c0 : V) (a1_hok : ∀ j x0, EV j a1_fid [(eType x0), V.pro a1_c0] = (a1 j x0).map fun b => ((Bo b), [])) : EV k 116 [(sType a0), (V.fn a1_fid [] [V.pro a1_c0])] = (slices_IndexFunc_Type k a0 a1).map slices_IndexFunc_Type_fin := by
  cases k with
  | zero => rfl
  | succ k =>
    unfold slices_IndexFunc_Type
    refine et (evF_succ (c := f116c) (N := 19) (regs := f116n) rfl func116 rfl (by decide) rfl rfl rfl) ?_
    refine et (k_region0 rfl (f116r0 k a0 a1 a1_fid a1_c0 a1_hok)) ?_
    refine et k_assoc ?_
    refine et (k_region0 rfl (f116r1 k a0 a1 a1_fid a1_c0 a1_hok)) ?_
    refine et (k_block rfl) ?_
    refine et k_loop ?_
    refine slices_IndexFunc_Type_L1_ok k a0 a1 a1_fid a1_c0 a1_hok _ _ ?h_slices_IndexFunc_Type_L1_0 ?hr_slices_IndexFunc_Type_L1 k 0
    · intro y8
      refine et blk_exit ?_
      refine et (k_region0 rfl (f116r7 k a0 y8 a1 a1_fid a1_c0 a1_hok)) ?_
      refine et k_lret ?_
      rfl
    · intro s; exact rfl
def slices_ContainsFunc_Type_fin : Bool → V × List V := fun r => ((Bo r), [])
theorem f110r0 (k : Nat) (a0 : (List T_api_Type)) (a1 : Nat → T_api_Type → Option Bool) (a1_fid : Go.FuncId) (a1_c0 : V) (a1_hok : ∀ j x0, EV j a1_fid [(eType x0), V.pro a1_c0] = (a1 j x0).map fun b => ((Bo b), [])) : RE k f110a0 f110o0 false ⟨[(0, (sType a0)), (1, (V.fn a1_fid [] [V.pro a1_c0]))], [], 9⟩ = some ⟨[(0, (sType a0)), (1, (V.fn a1_fid [] [V.pro a1_c0]))], [], 9⟩ :=
  rE rfl
theorem f110r1 (k : Nat) (a0 : (List T_api_Type)) (a1 : Nat → T_api_Type → Option Bool) (a1_fid : Go.FuncId) (a1_c0 : V) (a1_hok : ∀ j x0, EV j a1_fid [(eType x0), V.pro a1_c0] = (a1 j x0).map fun b => ((Bo b), [])) : RE k f110a1 f110o1 false ⟨[(0, (sType a0)), (1, (V.fn a1_fid [] [V.pro a1_c0]))], [], 9⟩ = (((slices_IndexFunc_Type k a0 a1).bind fun v1 => (some ((decide (v1 ≥ 0)))))).map (fun (o : Bool) => (⟨[(4, (Bo o))], [], 9⟩ : St)) := by
  refine rg ?_
  refine ra 2 2 ⟨[(0, (sType a0)), (1, (V.fn a1_fid [] [V.pro a1_c0])), (5, (sType a0)), (6, (V.fn a1_fid [] [V.pro a1_c0]))], [], 9⟩ rfl rfl rfl ?_
  refine et (reg_pure (x := (slices_IndexFunc_Type k a0 a1)) (w := fun v1 => (I v1)) rfl rfl rfl rfl (p_call rfl rfl rfl rfl rfl (slices_IndexFunc_Type_ok k a0 a1 a1_fid a1_c0 a1_hok) (.inl rfl))) ?_
  refine bindE (fun v1 => ?_)
  exact bind_end rfl
theorem slices_ContainsFunc_Type_ok (k : Nat) (a0 : (List T_api_Type)) (a1 : Nat → T_api_Type → Option Bool) (a1_fid : Go.FuncId) (a1_c0 : V) (a1_hok : ∀ j x0, EV j a1_fid [(eType x0), V.pro a1_c0] = (a1 j x0).map fun b => ((Bo b), [])) : EV k 110 [(sType a0), (V.fn a1_fid [] [V.pro a1_c0])] = (slices_ContainsFunc_Type k a0 a1).map slices_ContainsFunc_Type_fin := by
  cases k with
  | zero => rfl
  | succ k =>
    unfold slices_ContainsFunc_Type
    refine et (evF_succ (c := f110c) (N := 9) (regs := f110n) rfl func110 rfl (by decide) rfl rfl rfl) ?_
    refine et (k_region0 rfl (f110r0 k a0 a1 a1_fid a1_c0 a1_hok)) ?_
    refine et (k_region rfl (f110r1 k a0 a1 a1_fid a1_c0 a1_hok)) ?_
    refine bindE (fun o2 => ?_)
    refine et k_lret ?_
    rfl
def dbd_areTypes_1_fin : Bool → V × List V := fun r => ((Bo r), [])
theorem f111r0 (k : Nat) (a0 : T_api_Type) (a1 : T_api_Type) : RE k f111a0 f111o0 false ⟨[(0, (eType a0)), (1, (Pr (eType a1)))], [], 9⟩ = some ⟨[(1, (Pr (eType a1))), (2, (Pt 2))], [(2, vS 8 (eType a0))], 9⟩ :=
  rE rfl
theorem f111r1 (k : Nat) (a0 : T_api_Type) (a1 : T_api_Type) : RE k f111a1 f111o1 false ⟨[(1, (Pr (eType a1))), (2, (Pt 2))], [(2, vS 8 (eType a0))], 9⟩ = some ⟨[(3, (Bo (a0.fName == a1.fName)))], [], 9⟩ :=
  rE rfl
theorem dbd_areTypes_1_ok (k : Nat) (a0 : T_api_Type) (a1 : T_api_Type) : EV k 111 [(eType a0), (Pr (eType a1))] = (dbd_areTypes_1 k a0 a1).map dbd_areTypes_1_fin := by
  cases k with
  | zero => rfl
  | succ k =>
    unfold dbd_areTypes_1
    refine et (evF_succ (c := f111c) (N := 9) (regs := f111n) rfl func111 rfl (by decide) rfl rfl rfl) ?_
    refine et (k_region0 rfl (f111r0 k a0 a1)) ?_
    refine et (k_region0 rfl (f111r1 k a0 a1)) ?_
    refine et k_lret ?_
    rfl
def slices_Index_int_fin : Int → V × List V := fun r => ((I r), [])
theorem f112r0 (k : Nat) (a0 : (List Int)) (a1 : Int) : RE k f112a0 f112o0 false ⟨[(0, (sI a0)), (1, (I a1))], [], 19⟩ = some ⟨[(0, (sI a0)), (1, (I a1))], [], 19⟩ :=
  rE rfl
theorem f112r1 (k : Nat) (a0 : (List Int)) (a1 : Int) : RE k f112a1 f112o1 false ⟨[(0, (sI a0)), (1, (I a1))], [], 19⟩ = some ⟨[(0, (sI a0)), (1, (I a1)), (7, (I (a0.length : Int))), (8, (I 0))], [], 19⟩ := by
  refine rg ?_
  refine ra 1 1 ⟨[(0, (sI a0)), (1, (I a1)), (6, (sI a0))], [], 19⟩ rfl rfl rfl ?_
  refine et (reg_pure (x := some ()) (w := fun _ => (I (a0.length : Int))) rfl rfl rfl rfl (p_len (e := I) rfl rfl rfl rfl rfl rfl underlying87)) ?_
  refine et some_bind ?_
  exact bind_end rfl
theorem f112r2 (k : Nat) (a0 : (List Int)) (a1 : Int) (x3 : Int) : RE k f112a2 f112o2 false ⟨[(0, (sI a0)), (1, (I a1)), (7, (I (a0.length : Int))), (8, (I x3))], [], 19⟩ = some ⟨[(0, (sI a0)), (1, (I a1)), (7, (I (a0.length : Int))), (8, (I x3)), (9, (Bo (decide (x3 < (a0.length : Int)))))], [], 19⟩ :=
  rE rfl
theorem f112r3 (k : Nat) (a0 : (List Int)) (a1 : Int) (x3 : Int) : RE k f112a3 f112o3 false ⟨[(0, (sI a0)), (1, (I a1)), (7, (I (a0.length : Int))), (8, (I x3)), (9, (Bo true))], [], 19⟩ = some ⟨[(0, (sI a0)), (1, (I a1)), (5, (I x3)), (7, (I (a0.length : Int))), (8, (I x3))], [], 19⟩ :=
  rE rfl
theorem f112r4 (k : Nat) (a0 : (List Int)) (a1 : Int) (x3 : Int) : RE k f112a4 f112o4 false ⟨[(0, (sI a0)), (1, (I a1)), (5, (I x3)), (7, (I (a0.length : Int))), (8, (I x3))], [], 19⟩ = (((idx a0 x3).bind fun v4 => (some ((a1 == v4))))).map (fun (o : Bool) => (⟨[(0, (sI a0)), (1, (I a1)), (5, (I x3)), (7, (I (a0.length : Int))), (8, (I x3)), (16, (Bo o))], [], 19⟩ : St)) := by
  refine rg ?_
  refine ra 3 3 ⟨[(0, (sI a0)), (1, (I a1)), (5, (I x3)), (7, (I (a0.length : Int))), (8, (I x3)), (11, (I a1)), (12, (sI a0)), (13, (I x3))], [], 19⟩ rfl rfl rfl ?_
  refine et (reg_pure (x := (idx a0 x3)) (w := fun v4 => (Pr (I v4))) rfl rfl rfl rfl (p_index (e := I) rfl rfl rfl underlying87 rfl (by decide))) ?_
  refine bindE (fun v4 => ?_)
  exact bind_end rfl
theorem f112r5 (k : Nat) (a0 : (List Int)) (a1 : Int) (x3 : Int) : RE k f112a5 f112o5 false ⟨[(0, (sI a0)), (1, (I a1)), (5, (I x3)), (7, (I (a0.length : Int))), (8, (I x3)), (16, (Bo true))], [], 19⟩ = some ⟨[(4, (I x3))], [], 19⟩ :=
  rE rfl
theorem f112r6 (k : Nat) (a0 : (List Int)) (a1 : Int) (x3 : Int) : RE k f112a6 f112o6 false ⟨[(0, (sI a0)), (1, (I a1)), (5, (I x3)), (7, (I (a0.length : Int))), (8, (I x3)), (16, (Bo false))], [], 19⟩ = some ⟨[(0, (sI a0)), (1, (I a1)), (7, (I (a0.length : Int))), (8, (I (Go.IntKind.wrap .i64 (x3 + 1))))], [], 19⟩ :=
  rE rfl
theorem slices_Index_int_L1_ok (k : Nat) (a0 : (List Int)) (a1 : Int)  (K0 : Int → Option Int) (Kst : X × St → Option (V × List V)) (hK0 : ∀ (y0 : Int), Kst (X.exit 0, ⟨[(0, (sI a0)), (1, (I a1)), (7, (I (a0.length : Int))), (8, (I y0)), (9, (Bo false))], [], 19⟩) = (K0 y0).map slices_Index_int_fin) (hret : ∀ s, Kst (X.ret, s) = endK prog 19 [(sI a0), (I a1)] [] [.tmp 4] (X.ret, s)) :
    ∀ (m : Nat) (x3 : Int), (iter (exec prog (EV k) f112n k f112b0) m ⟨[(0, (sI a0)), (1, (I a1)), (7, (I (a0.length : Int))), (8, (I x3))], [], 19⟩).bind Kst = (slices_Index_int_L1 a0 a1 K0 m x3).map slices_Index_int_fin := by
  intro m
  induction m with
  | zero => intros; rfl
  | succ m ih =>
    intro x3
    unfold slices_Index_int_L1
    refine et k_round ?_
    refine et (k_region0 rfl (f112r2 k a0 a1 x3)) ?_
    refine et (k_cond (t := (decide (x3 < (a0.length : Int)))) rfl rfl) ?_
    refine bifE2 (fun hc => ?_) fun hc => ?_
    · rw [hc]
      refine et k_skip ?_
      refine et (k_block rfl) ?_
      refine et (k_region0 rfl (f112r3 k a0 a1 x3)) ?_
      refine et (k_region rfl (f112r4 k a0 a1 x3)) ?_
      refine bindE (fun o5 => ?_)
      refine et (k_lcond (t := o5) rfl rfl) ?_
      refine bifE2 (fun hc => ?_) fun hc => ?_
      · rw [hc]
        refine et (k_region0 rfl (f112r5 k a0 a1 x3)) ?_
        refine et k_lret ?_
        refine et blk_ret ?_
        refine et loop_ret ?_
        refine et (hret _) ?_
        rfl
      · rw [hc]
        refine et k_lskip ?_
        refine et blk_normal ?_
        refine et (k_lregion0 rfl (f112r6 k a0 a1 x3)) ?_
        refine et loop_normal ?_
        exact ih (Go.IntKind.wrap .i64 (x3 + 1))
    · rw [hc]
      refine et k_exit ?_
      refine et loop_exit ?_
      exact hK0 x3
theorem f112r7 (k : Nat) (a0 : (List Int)) (a1 : Int) (y6 : Int) : RE k f112a7 f112o7 false ⟨[(0, (sI a0)), (1, (I a1)), (7, (I (a0.length : Int))), (8, (I y6)), (9, (Bo false))], [], 19⟩ = some ⟨[(4, (I (-1)))], [], 19⟩ :=
  rE rfl
theorem slices_Index_int_ok (k : Nat) (a0 : (List Int)) (a1 : Int) : EV k 112 [(sI a0), (I a1)] = (slices_Index_int k a0 a1).map slices_Index_int_fin := by
  cases k with
  | zero => rfl
  | succ k =>
    unfold slices_Index_int
    refine et (evF_succ (c := f112c) (N := 19) (regs := f112n) rfl func112 rfl (by decide) rfl rfl rfl) ?_
    refine et (k_region0 rfl (f112r0 k a0 a1)) ?_
    refine et k_assoc ?_
    refine et (k_region0 rfl (f112r1 k a0 a1)) ?_
    refine et (k_block rfl) ?_
    refine et k_loop ?_
    refine slices_Index_int_L1_ok k a0 a1 _ _ ?h_slices_Index_int_L1_0 ?hr_slices_Index_int_L1 k 0
    · intro y6
      refine et blk_exit ?_
      refine et (k_region0 rfl (f112r7 k a0 a1 y6)) ?_
      refine et k_lret ?_
      rfl
    · intro s; exact rfl
def dbd_areTypes_fin : Bool → V × List V := fun r => ((Bo r), [])
theorem f102r0 (k : Nat) (a0 : (List T_api_Type)) : RE k f102a0 f102o0 false ⟨[(0, (sType a0))], [], 82⟩ = some ⟨[(0, (sType a0))], [], 82⟩ :=
  rE rfl
theorem f102r1 (k : Nat) (a0 : (List T_api_Type)) : RE k f102a1 f102o1 false ⟨[(0, (sType a0))], [], 82⟩ = ((bif (decide ((a0.length : Int) < 1)) then (some (true)) else (some ((decide ((a0.length : Int) > 8)))))).map (fun (o : Bool) => (⟨[(0, (sType a0)), (14, (Bo o))], [], 82⟩ : St)) := by
  refine rg ?_
  refine ra 1 1 ⟨[(0, (sType a0)), (7, (sType a0))], [], 82⟩ rfl rfl rfl ?_
  refine et (reg_pure (x := some ()) (w := fun _ => (I (a0.length : Int))) rfl rfl rfl rfl (p_len (e := eType) rfl rfl rfl rfl rfl rfl underlying22)) ?_
  refine et some_bind ?_
  refine ba 2 4 ⟨[(0, (sType a0)), (7, (sType a0)), (8, (I (a0.length : Int))), (9, (Bo (decide ((a0.length : Int) < 1)))), (10, (Bo (decide ((a0.length : Int) < 1))))], [], 82⟩ rfl rfl rfl ?_
  refine bifE (c := (decide ((a0.length : Int) < 1))) (fun hc => ?_) fun hc => ?_
  · rw [hc]
    exact reg_end rfl
  · rw [hc]
    refine ra 1 5 ⟨[(0, (sType a0)), (7, (sType a0)), (8, (I (a0.length : Int))), (9, (Bo false)), (10, (Bo false)), (11, (sType a0))], [], 82⟩ rfl rfl rfl ?_
    refine et (reg_pure (x := some ()) (w := fun _ => (I (a0.length : Int))) rfl rfl rfl rfl (p_len (e := eType) rfl rfl rfl rfl rfl rfl underlying22)) ?_
    refine et some_bind ?_
    exact bind_end rfl
theorem f102r2 (k : Nat) (a0 : (List T_api_Type)) : RE k f102a2 f102o2 false ⟨[(0, (sType a0)), (14, (Bo true))], [], 82⟩ = some ⟨[(2, (Bo false))], [], 82⟩ :=
  rE rfl
theorem f102r3 (k : Nat) (a0 : (List T_api_Type)) : RE k f102a3 f102o3 false ⟨[(0, (sType a0)), (14, (Bo false))], [], 82⟩ = some ⟨[(0, (sType a0)), (3, (aL 3 I ([] : List Int)))], [(3, ⟨true, 1, List.map I ([] : List Int)⟩)], 82⟩ :=
  rE rfl
theorem f102r4 (k : Nat) (a0 : (List T_api_Type)) : RE k f102a4 f102o4 false ⟨[(0, (sType a0)), (3, (aL 3 I ([] : List Int)))], [(3, ⟨true, 1, List.map I ([] : List Int)⟩)], 82⟩ = some ⟨[(0, (sType a0)), (3, (aL 3 I ([] : List Int))), (15, (sType a0)), (16, (I (a0.length : Int))), (17, (I 0))], [(3, ⟨true, 1, List.map I ([] : List Int)⟩)], 82⟩ := by
  refine rg ?_
  refine ra 1 1 ⟨[(0, (sType a0)), (3, (aL 3 I ([] : List Int))), (15, (sType a0))], [(3, ⟨true, 1, List.map I ([] : List Int)⟩)], 82⟩ rfl rfl rfl ?_
  refine et (reg_pure (x := some ()) (w := fun _ => (I (a0.length : Int))) rfl rfl rfl rfl (p_len (e := eType) rfl rfl rfl rfl rfl rfl underlying22)) ?_
  refine et some_bind ?_
  exact bind_end rfl
theorem f102r5 (k : Nat) (a0 : (List T_api_Type)) (x15 : Int) (x16 : (List Int)) : RE k f102a5 f102o5 false ⟨[(0, (sType a0)), (3, (aL 3 I x16)), (15, (sType a0)), (16, (I (a0.length : Int))), (17, (I x15))], [(3, ⟨true, 1, List.map I x16⟩)], 82⟩ = some ⟨[(0, (sType a0)), (3, (aL 3 I x16)), (15, (sType a0)), (16, (I (a0.length : Int))), (17, (I x15)), (18, (Bo (decide (x15 < (a0.length : Int)))))], [(3, ⟨true, 1, List.map I x16⟩)], 82⟩ :=
  rE rfl
theorem f102r6 (k : Nat) (a0 : (List T_api_Type)) (x15 : Int) (x16 : (List Int)) : RE k f102a6 f102o6 false ⟨[(0, (sType a0)), (3, (aL 3 I x16)), (15, (sType a0)), (16, (I (a0.length : Int))), (17, (I x15)), (18, (Bo true))], [(3, ⟨true, 1, List.map I x16⟩)], 82⟩ = (((idx a0 x15).bind fun v17 => (some (x15, v17)))).map (fun (o : Int × T_api_Type) => (⟨[(0, (sType a0)), (3, (aL 3 I x16)), (4, (I o.1)), (5, (Pt 5)), (15, (sType a0)), (16, (I (a0.length : Int))), (17, (I x15))], [(3, ⟨true, 1, List.map I x16⟩), (5, vS 8 (eType o.2))], 82⟩ : St)) := by
  refine rg ?_
  refine ra 1 1 ⟨[(0, (sType a0)), (3, (aL 3 I x16)), (15, (sType a0)), (16, (I (a0.length : Int))), (17, (I x15)), (18, (Bo true)), (19, (I x15))], [(3, ⟨true, 1, List.map I x16⟩)], 82⟩ rfl rfl rfl ?_
  refine et (reg_pure (x := (idx a0 x15)) (w := fun v17 => (Pr (eType v17))) rfl rfl rfl rfl (p_index (e := eType) rfl rfl rfl underlying22 rfl (by decide))) ?_
  refine bindE (fun v17 => ?_)
  exact bind_end rfl
theorem f102r7 (k : Nat) (a0 : (List T_api_Type)) (x15 : Int) (x16 : (List Int)) (o18 : Int × T_api_Type) : RE k f102a7 f102o7 false ⟨[(0, (sType a0)), (3, (aL 3 I x16)), (4, (I o18.1)), (5, (Pt 5)), (15, (sType a0)), (16, (I (a0.length : Int))), (17, (I x15))], [(3, ⟨true, 1, List.map I x16⟩), (5, vS 8 (eType o18.2))], 82⟩ = (((dbd_isType k o18.2).bind fun v19 => (bif (!v19) then (some (true)) else ((cut a0 0 o18.1).bind fun v20 => (slices_ContainsFunc_Type k v20 (fun j x0 => (dbd_areTypes_1 j x0 o18.2))))))).map (fun (o : Bool) => (⟨[(0, (sType a0)), (3, (aL 3 I x16)), (4, (I o18.1)), (5, (Pt 5)), (15, (sType a0)), (16, (I (a0.length : Int))), (17, (I x15)), (31, (Bo o))], [(3, ⟨true, 1, List.map I x16⟩), (5, vS 8 (eType o18.2))], 82⟩ : St)) := by
  refine rg ?_
  refine ra 1 1 ⟨[(0, (sType a0)), (3, (aL 3 I x16)), (4, (I o18.1)), (5, (Pt 5)), (15, (sType a0)), (16, (I (a0.length : Int))), (17, (I x15)), (22, (eType o18.2))], [(3, ⟨true, 1, List.map I x16⟩), (5, vS 8 (eType o18.2))], 82⟩ rfl rfl rfl ?_
  refine et (reg_pure (x := (dbd_isType k o18.2)) (w := fun v19 => (Bo v19)) rfl rfl rfl rfl (p_call rfl rfl rfl rfl rfl (dbd_isType_ok k o18.2) (.inl rfl))) ?_
  refine bindE (fun v19 => ?_)
  refine ba 2 4 ⟨[(0, (sType a0)), (3, (aL 3 I x16)), (4, (I o18.1)), (5, (Pt 5)), (15, (sType a0)), (16, (I (a0.length : Int))), (17, (I x15)), (22, (eType o18.2)), (23, (Bo v19)), (24, (Bo (!v19))), (25, (Bo (!v19)))], [(3, ⟨true, 1, List.map I x16⟩), (5, vS 8 (eType o18.2))], 82⟩ rfl rfl rfl ?_
  refine bifE (c := (!v19)) (fun hc => ?_) fun hc => ?_
  · rw [hc]
    exact reg_end rfl
  · rw [hc]
    refine ra 2 6 ⟨[(0, (sType a0)), (3, (aL 3 I x16)), (4, (I o18.1)), (5, (Pt 5)), (15, (sType a0)), (16, (I (a0.length : Int))), (17, (I x15)), (22, (eType o18.2)), (23, (Bo v19)), (24, (Bo false)), (25, (Bo false)), (26, (sType a0)), (27, (I o18.1))], [(3, ⟨true, 1, List.map I x16⟩), (5, vS 8 (eType o18.2))], 82⟩ rfl rfl rfl ?_
    refine et (reg_pure (x := (cut a0 0 o18.1)) (w := fun v20 => (sType v20)) rfl rfl rfl rfl (p_slice (e := eType) rfl rfl rfl rfl rfl rfl underlying22 rfl (by decide))) ?_
    refine bindE (fun v20 => ?_)
    refine ba 1 8 ⟨[(0, (sType a0)), (3, (aL 3 I x16)), (4, (I o18.1)), (5, (Pt 5)), (15, (sType a0)), (16, (I (a0.length : Int))), (17, (I x15)), (22, (eType o18.2)), (23, (Bo v19)), (24, (Bo false)), (25, (Bo false)), (26, (sType a0)), (27, (I o18.1)), (28, (sType v20)), (29, (V.fn 111 [] [(Pt 5)]))], [(3, ⟨true, 1, List.map I x16⟩), (5, vS 8 (eType o18.2))], 82⟩ rfl rfl rfl ?_
    refine et (reg_pure (x := (slices_ContainsFunc_Type k v20 (fun j x0 => (dbd_areTypes_1 j x0 o18.2)))) (w := fun v21 => (Bo v21)) rfl rfl rfl rfl (p_call rfl rfl rfl rfl rfl (slices_ContainsFunc_Type_ok k v20 (fun j x0 => (dbd_areTypes_1 j x0 o18.2)) 111 (eType o18.2) (fun j x0 => (dbd_areTypes_1_ok j x0 o18.2))) (.inr (fun _ => rfl)))) ?_
    refine bind_self (fun v21 => ?_)
    exact bind_end rfl
theorem f102r8 (k : Nat) (a0 : (List T_api_Type)) (x15 : Int) (x16 : (List Int)) (o18 : Int × T_api_Type) : RE k f102a8 f102o8 false ⟨[(0, (sType a0)), (3, (aL 3 I x16)), (4, (I o18.1)), (5, (Pt 5)), (15, (sType a0)), (16, (I (a0.length : Int))), (17, (I x15)), (31, (Bo true))], [(3, ⟨true, 1, List.map I x16⟩), (5, vS 8 (eType o18.2))], 82⟩ = some ⟨[(2, (Bo false))], [], 82⟩ :=
  rE rfl
theorem f102r9 (k : Nat) (a0 : (List T_api_Type)) (x15 : Int) (x16 : (List Int)) (o18 : Int × T_api_Type) : RE k f102a9 f102o9 false ⟨[(0, (sType a0)), (3, (aL 3 I x16)), (4, (I o18.1)), (5, (Pt 5)), (15, (sType a0)), (16, (I (a0.length : Int))), (17, (I x15)), (31, (Bo false))], [(3, ⟨true, 1, List.map I x16⟩), (5, vS 8 (eType o18.2))], 82⟩ = ((slices_Index_int k x16 o18.2.fParent)).map (fun (o : Int) => (⟨[(0, (sType a0)), (3, (aL 3 I x16)), (4, (I o18.1)), (5, (Pt 5)), (6, (I o)), (15, (sType a0)), (16, (I (a0.length : Int))), (17, (I x15))], [(3, ⟨true, 1, List.map I x16⟩), (5, vS 8 (eType o18.2))], 82⟩ : St)) := by
  refine rg ?_
  refine ra 3 3 ⟨[(0, (sType a0)), (3, (aL 3 I x16)), (4, (I o18.1)), (5, (Pt 5)), (15, (sType a0)), (16, (I (a0.length : Int))), (17, (I x15)), (31, (Bo false)), (32, (aL 3 I x16)), (33, (V.ptr 5 0 1)), (34, (I o18.2.fParent))], [(3, ⟨true, 1, List.map I x16⟩), (5, vS 8 (eType o18.2))], 82⟩ rfl rfl rfl ?_
  refine et (reg_pure (x := (slices_Index_int k x16 o18.2.fParent)) (w := fun v23 => (I v23)) rfl rfl rfl rfl (p_call rfl rfl rfl rfl (argsL (lendA (e := I) rfl) (by intro s i q h; cases h) (argsL rfl (by intro s i q h; cases h) rfl)) (slices_Index_int_ok k x16 o18.2.fParent) (.inr (fun _ => rfl)))) ?_
  refine bind_self (fun v23 => ?_)
  exact bind_end rfl
theorem f102r10 (k : Nat) (a0 : (List T_api_Type)) (x15 : Int) (x16 : (List Int)) (o18 : Int × T_api_Type) (o24 : Int) : RE k f102a10 f102o10 false ⟨[(0, (sType a0)), (3, (aL 3 I x16)), (4, (I o18.1)), (5, (Pt 5)), (6, (I o24)), (15, (sType a0)), (16, (I (a0.length : Int))), (17, (I x15))], [(3, ⟨true, 1, List.map I x16⟩), (5, vS 8 (eType o18.2))], 82⟩ = ((bif (o18.1 == 0) then (bif (o18.2.fParent != (-1)) then (some (true)) else (bif (decide (o18.2.fKey < 0)) then (some (true)) else (bif (!o18.2.fUnique) then (some (true)) else ((idx o18.2.fFields o18.2.fKey).bind fun v25 => (bif (decide (v25.fBytes > 24)) then (some (true)) else (bif (decide (o18.1 > 0)) then (some ((decide (o24 < 0)))) else (some (false)))))))) else (bif (decide (o18.1 > 0)) then (some ((decide (o24 < 0)))) else (some (false))))).map (fun (o : Bool) => (⟨[(0, (sType a0)), (3, (aL 3 I x16)), (4, (I o18.1)), (6, (I o24)), (15, (sType a0)), (16, (I (a0.length : Int))), (17, (I x15)), (70, (Bo o))], [(3, ⟨true, 1, List.map I x16⟩)], 82⟩ : St)) := by
  refine rg ?_
  refine ra 3 3 ⟨[(0, (sType a0)), (3, (aL 3 I x16)), (4, (I o18.1)), (5, (Pt 5)), (6, (I o24)), (15, (sType a0)), (16, (I (a0.length : Int))), (17, (I x15)), (36, (I o18.1)), (37, (Bo (o18.1 == 0))), (38, (Bo (o18.1 == 0)))], [(3, ⟨true, 1, List.map I x16⟩), (5, vS 8 (eType o18.2))], 82⟩ rfl rfl rfl ?_
  refine bifE (c := (o18.1 == 0)) (fun hc => ?_) fun hc => ?_
  · rw [hc]
    refine ra 4 7 ⟨[(0, (sType a0)), (3, (aL 3 I x16)), (4, (I o18.1)), (5, (Pt 5)), (6, (I o24)), (15, (sType a0)), (16, (I (a0.length : Int))), (17, (I x15)), (36, (I o18.1)), (37, (Bo true)), (38, (Bo true)), (39, (V.ptr 5 0 1)), (40, (I o18.2.fParent)), (41, (Bo (o18.2.fParent != (-1)))), (42, (Bo (o18.2.fParent != (-1))))], [(3, ⟨true, 1, List.map I x16⟩), (5, vS 8 (eType o18.2))], 82⟩ rfl rfl rfl ?_
    refine bifE (c := (o18.2.fParent != (-1))) (fun hc => ?_) fun hc => ?_
    · rw [hc]
      exact reg_end rfl
    · rw [hc]
      refine ra 5 12 ⟨[(0, (sType a0)), (3, (aL 3 I x16)), (4, (I o18.1)), (5, (Pt 5)), (6, (I o24)), (15, (sType a0)), (16, (I (a0.length : Int))), (17, (I x15)), (36, (I o18.1)), (37, (Bo true)), (38, (Bo true)), (39, (V.ptr 5 0 1)), (40, (I o18.2.fParent)), (41, (Bo false)), (42, (Bo false)), (43, (V.ptr 5 0 5)), (44, (I o18.2.fKey)), (45, (Bo (decide (o18.2.fKey < 0)))), (46, (Bo (decide (o18.2.fKey < 0)))), (47, (Bo (decide (o18.2.fKey < 0))))], [(3, ⟨true, 1, List.map I x16⟩), (5, vS 8 (eType o18.2))], 82⟩ rfl rfl rfl ?_
      refine bifE (c := (decide (o18.2.fKey < 0))) (fun hc => ?_) fun hc => ?_
      · rw [hc]
        exact reg_end rfl
      · rw [hc]
        refine ra 5 17 ⟨[(0, (sType a0)), (3, (aL 3 I x16)), (4, (I o18.1)), (5, (Pt 5)), (6, (I o24)), (15, (sType a0)), (16, (I (a0.length : Int))), (17, (I x15)), (36, (I o18.1)), (37, (Bo true)), (38, (Bo true)), (39, (V.ptr 5 0 1)), (40, (I o18.2.fParent)), (41, (Bo false)), (42, (Bo false)), (43, (V.ptr 5 0 5)), (44, (I o18.2.fKey)), (45, (Bo false)), (46, (Bo false)), (47, (Bo false)), (48, (V.ptr 5 0 6)), (49, (Bo o18.2.fUnique)), (50, (Bo (!o18.2.fUnique))), (51, (Bo (!o18.2.fUnique))), (52, (Bo (!o18.2.fUnique)))], [(3, ⟨true, 1, List.map I x16⟩), (5, vS 8 (eType o18.2))], 82⟩ rfl rfl rfl ?_
        refine bifE (c := (!o18.2.fUnique)) (fun hc => ?_) fun hc => ?_
        · rw [hc]
          exact reg_end rfl
        · rw [hc]
          refine ra 4 21 ⟨[(0, (sType a0)), (3, (aL 3 I x16)), (4, (I o18.1)), (5, (Pt 5)), (6, (I o24)), (15, (sType a0)), (16, (I (a0.length : Int))), (17, (I x15)), (36, (I o18.1)), (37, (Bo true)), (38, (Bo true)), (39, (V.ptr 5 0 1)), (40, (I o18.2.fParent)), (41, (Bo false)), (42, (Bo false)), (43, (V.ptr 5 0 5)), (44, (I o18.2.fKey)), (45, (Bo false)), (46, (Bo false)), (47, (Bo false)), (48, (V.ptr 5 0 6)), (49, (Bo o18.2.fUnique)), (50, (Bo false)), (51, (Bo false)), (52, (Bo false)), (53, (V.ptr 5 0 4)), (54, (sField o18.2.fFields)), (55, (V.ptr 5 0 5)), (56, (I o18.2.fKey))], [(3, ⟨true, 1, List.map I x16⟩), (5, vS 8 (eType o18.2))], 82⟩ rfl rfl rfl ?_
          refine et (reg_pure (x := (idx o18.2.fFields o18.2.fKey)) (w := fun v25 => (Pr (eField v25))) rfl rfl rfl rfl (p_index (e := eField) rfl rfl rfl underlying43 rfl (by decide))) ?_
          refine bindE (fun v25 => ?_)
          refine ba 6 28 ⟨[(0, (sType a0)), (3, (aL 3 I x16)), (4, (I o18.1)), (5, (Pt 5)), (6, (I o24)), (15, (sType a0)), (16, (I (a0.length : Int))), (17, (I x15)), (36, (I o18.1)), (37, (Bo true)), (38, (Bo true)), (39, (V.ptr 5 0 1)), (40, (I o18.2.fParent)), (41, (Bo false)), (42, (Bo false)), (43, (V.ptr 5 0 5)), (44, (I o18.2.fKey)), (45, (Bo false)), (46, (Bo false)), (47, (Bo false)), (48, (V.ptr 5 0 6)), (49, (Bo o18.2.fUnique)), (50, (Bo false)), (51, (Bo false)), (52, (Bo false)), (53, (V.ptr 5 0 4)), (54, (sField o18.2.fFields)), (55, (V.ptr 5 0 5)), (56, (I o18.2.fKey)), (57, (Pr (eField v25))), (58, (Pr (I v25.fBytes))), (59, (I v25.fBytes)), (60, (Bo (decide (v25.fBytes > 24)))), (61, (Bo (decide (v25.fBytes > 24)))), (62, (Bo (decide (v25.fBytes > 24)))), (63, (Bo (decide (v25.fBytes > 24))))], [(3, ⟨true, 1, List.map I x16⟩), (5, vS 8 (eType o18.2))], 82⟩ rfl rfl rfl ?_
          refine bifE (c := (decide (v25.fBytes > 24))) (fun hc => ?_) fun hc => ?_
          · rw [hc]
            exact reg_end rfl
          · rw [hc]
            refine ra 3 31 ⟨[(0, (sType a0)), (3, (aL 3 I x16)), (4, (I o18.1)), (5, (Pt 5)), (6, (I o24)), (15, (sType a0)), (16, (I (a0.length : Int))), (17, (I x15)), (36, (I o18.1)), (37, (Bo true)), (38, (Bo true)), (39, (V.ptr 5 0 1)), (40, (I o18.2.fParent)), (41, (Bo false)), (42, (Bo false)), (43, (V.ptr 5 0 5)), (44, (I o18.2.fKey)), (45, (Bo false)), (46, (Bo false)), (47, (Bo false)), (48, (V.ptr 5 0 6)), (49, (Bo o18.2.fUnique)), (50, (Bo false)), (51, (Bo false)), (52, (Bo false)), (53, (V.ptr 5 0 4)), (54, (sField o18.2.fFields)), (55, (V.ptr 5 0 5)), (56, (I o18.2.fKey)), (57, (Pr (eField v25))), (58, (Pr (I v25.fBytes))), (59, (I v25.fBytes)), (60, (Bo false)), (61, (Bo false)), (62, (Bo false)), (63, (Bo false)), (64, (I o18.1)), (65, (Bo (decide (o18.1 > 0)))), (66, (Bo (decide (o18.1 > 0))))], [(3, ⟨true, 1, List.map I x16⟩), (5, vS 8 (eType o18.2))], 82⟩ rfl rfl rfl ?_
            refine bifE (c := (decide (o18.1 > 0))) (fun hc => ?_) fun hc => ?_
            · rw [hc]
              exact reg_end rfl
            · rw [hc]
              exact reg_end rfl
  · rw [hc]
    refine ra 28 31 ⟨[(0, (sType a0)), (3, (aL 3 I x16)), (4, (I o18.1)), (5, (Pt 5)), (6, (I o24)), (15, (sType a0)), (16, (I (a0.length : Int))), (17, (I x15)), (36, (I o18.1)), (37, (Bo false)), (38, (Bo false)), (39, (V.tup [])), (40, (V.tup [])), (41, (V.tup [])), (42, (V.tup [])), (43, (V.tup [])), (44, (V.tup [])), (45, (V.tup [])), (46, (V.tup [])), (47, (V.tup [])), (48, (V.tup [])), (49, (V.tup [])), (50, (V.tup [])), (51, (V.tup [])), (52, (V.tup [])), (53, (V.tup [])), (54, (V.tup [])), (55, (V.tup [])), (56, (V.tup [])), (57, (V.tup [])), (58, (V.tup [])), (59, (V.tup [])), (60, (V.tup [])), (61, (V.tup [])), (62, (Bo false)), (63, (Bo false)), (64, (I o18.1)), (65, (Bo (decide (o18.1 > 0)))), (66, (Bo (decide (o18.1 > 0))))], [(3, ⟨true, 1, List.map I x16⟩), (5, vS 8 (eType o18.2))], 82⟩ rfl rfl rfl ?_
    refine bifE (c := (decide (o18.1 > 0))) (fun hc => ?_) fun hc => ?_
    · rw [hc]
      exact reg_end rfl
    · rw [hc]
      exact reg_end rfl
theorem f102r11 (k : Nat) (a0 : (List T_api_Type)) (x15 : Int) (x16 : (List Int)) (o18 : Int × T_api_Type) (o24 : Int) : RE k f102a11 f102o11 false ⟨[(0, (sType a0)), (3, (aL 3 I x16)), (4, (I o18.1)), (6, (I o24)), (15, (sType a0)), (16, (I (a0.length : Int))), (17, (I x15)), (70, (Bo true))], [(3, ⟨true, 1, List.map I x16⟩)], 82⟩ = some ⟨[(2, (Bo false))], [], 82⟩ :=
  rE rfl
theorem f102r12 (k : Nat) (a0 : (List T_api_Type)) (x15 : Int) (x16 : (List Int)) (o18 : Int × T_api_Type) (o24 : Int) : RE k f102a12 f102o12 false ⟨[(0, (sType a0)), (3, (aL 3 I x16)), (4, (I o18.1)), (6, (I o24)), (15, (sType a0)), (16, (I (a0.length : Int))), (17, (I x15)), (70, (Bo false))], [(3, ⟨true, 1, List.map I x16⟩)], 82⟩ = (((upTo x16 (Go.IntKind.wrap .i64 (o24 + 1))).bind fun v27 => (app (List.take v27 x16) ([o18.1] : List Int)))).map (fun (o : (List Int)) => (⟨[(0, (sType a0)), (3, (aL 3 I o)), (15, (sType a0)), (16, (I (a0.length : Int))), (17, (I x15))], [(3, ⟨true, 1, List.map I o⟩)], 82⟩ : St)) := by
  refine rg ?_
  refine ra 3 3 ⟨[(0, (sType a0)), (3, (aL 3 I x16)), (4, (I o18.1)), (6, (I o24)), (15, (sType a0)), (16, (I (a0.length : Int))), (17, (I x15)), (70, (Bo false)), (71, (aL 3 I x16)), (72, (I o24)), (73, (I (Go.IntKind.wrap .i64 (o24 + 1))))], [(3, ⟨true, 1, List.map I x16⟩)], 82⟩ rfl rfl rfl ?_
  refine et (reg_pure (x := (upTo x16 (Go.IntKind.wrap .i64 (o24 + 1)))) (w := fun v27 => (V.aref 3 0 v27)) rfl rfl rfl rfl (p_sliceA (e := I) rfl rfl rfl underlying87 (by decide))) ?_
  refine bindX (fun v27 hv27 => ?_)
  refine ba 2 6 ⟨[(0, (sType a0)), (3, (aL 3 I x16)), (4, (I o18.1)), (6, (I o24)), (15, (sType a0)), (16, (I (a0.length : Int))), (17, (I x15)), (70, (Bo false)), (71, (aL 3 I x16)), (72, (I o24)), (73, (I (Go.IntKind.wrap .i64 (o24 + 1)))), (74, (V.aref 3 0 v27)), (75, (I o18.1)), (76, (sI (([o18.1] : List Int))))], [(3, ⟨true, 1, List.map I x16⟩)], 82⟩ rfl rfl rfl ?_
  refine et (reg_eff (x := (app (List.take v27 x16) ([o18.1] : List Int))) (w := fun v28 => ((aL 3 I v28), _)) rfl rfl rfl rfl (p_appA (e := I) (l := x16) rfl rfl rfl rfl rfl rfl rfl rfl rfl rfl rfl (upTo_le hv27) (of_decide_eq_true rfl))) ?_
  refine bind_self (fun v28 => ?_)
  exact bind_end rfl
theorem f102r13 (k : Nat) (a0 : (List T_api_Type)) (x15 : Int) (o29 : (List Int)) : RE k f102a13 f102o13 false ⟨[(0, (sType a0)), (3, (aL 3 I o29)), (15, (sType a0)), (16, (I (a0.length : Int))), (17, (I x15))], [(3, ⟨true, 1, List.map I o29⟩)], 82⟩ = some ⟨[(0, (sType a0)), (3, (aL 3 I o29)), (15, (sType a0)), (16, (I (a0.length : Int))), (17, (I x15)), (80, (Bo (decide ((o29.length : Int) > 5))))], [(3, ⟨true, 1, List.map I o29⟩)], 82⟩ := by
  refine rg ?_
  refine ra 1 1 ⟨[(0, (sType a0)), (3, (aL 3 I o29)), (15, (sType a0)), (16, (I (a0.length : Int))), (17, (I x15)), (78, (aL 3 I o29))], [(3, ⟨true, 1, List.map I o29⟩)], 82⟩ rfl rfl rfl ?_
  refine et (reg_pure (x := some ()) (w := fun _ => (I (o29.length : Int))) rfl rfl rfl rfl (p_lenA (e := I) rfl rfl rfl rfl rfl rfl underlying87)) ?_
  refine et some_bind ?_
  exact bind_end rfl
theorem f102r14 (k : Nat) (a0 : (List T_api_Type)) (x15 : Int) (o29 : (List Int)) : RE k f102a14 f102o14 false ⟨[(0, (sType a0)), (3, (aL 3 I o29)), (15, (sType a0)), (16, (I (a0.length : Int))), (17, (I x15)), (80, (Bo true))], [(3, ⟨true, 1, List.map I o29⟩)], 82⟩ = some ⟨[(2, (Bo false))], [], 82⟩ :=
  rE rfl
theorem f102r15 (k : Nat) (a0 : (List T_api_Type)) (x15 : Int) (o29 : (List Int)) : RE k f102a15 f102o15 false ⟨[(0, (sType a0)), (3, (aL 3 I o29)), (15, (sType a0)), (16, (I (a0.length : Int))), (17, (I x15)), (80, (Bo false))], [(3, ⟨true, 1, List.map I o29⟩)], 82⟩ = some ⟨[(0, (sType a0)), (3, (aL 3 I o29)), (15, (sType a0)), (16, (I (a0.length : Int))), (17, (I (Go.IntKind.wrap .i64 (x15 + 1))))], [(3, ⟨true, 1, List.map I o29⟩)], 82⟩ :=
  rE rfl
theorem dbd_areTypes_L1_ok (k : Nat) (a0 : (List T_api_Type))  (K0 : Int → (List Int) → Option Bool) (Kst : X × St → Option (V × List V)) (hK0 : ∀ (y0 : Int) (y1 : (List Int)), Kst (X.exit 0, ⟨[(0, (sType a0)), (3, (aL 3 I y1)), (15, (sType a0)), (16, (I (a0.length : Int))), (17, (I y0)), (18, (Bo false))], [(3, ⟨true, 1, List.map I y1⟩)], 82⟩) = (K0 y0 y1).map dbd_areTypes_fin) (hret : ∀ s, Kst (X.ret, s) = endK prog 82 [(sType a0)] [] [.tmp 2] (X.ret, s)) :
    ∀ (m : Nat) (x15 : Int) (x16 : (List Int)), (iter (exec prog (EV k) f102n k f102b0) m ⟨[(0, (sType a0)), (3, (aL 3 I x16)), (15, (sType a0)), (16, (I (a0.length : Int))), (17, (I x15))], [(3, ⟨true, 1, List.map I x16⟩)], 82⟩).bind Kst = (dbd_areTypes_L1 k a0 K0 m x15 x16).map dbd_areTypes_fin := by
  intro m
  induction m with
  | zero => intros; rfl
  | succ m ih =>
    intro x15 x16
    unfold dbd_areTypes_L1
    refine et k_round ?_
    refine et (k_region0 rfl (f102r5 k a0 x15 x16)) ?_
    refine et (k_cond (t := (decide (x15 < (a0.length : Int)))) rfl rfl) ?_
    refine bifE2 (fun hc => ?_) fun hc => ?_
    · rw [hc]
      refine et k_skip ?_
      refine et (k_block rfl) ?_
      refine et (k_region rfl (f102r6 k a0 x15 x16)) ?_
      refine bindE (fun o18 => ?_)
      refine et k_assoc ?_
      refine et (k_region rfl (f102r7 k a0 x15 x16 o18)) ?_
      refine bindE (fun o22 => ?_)
      refine et (k_cond (t := o22) rfl rfl) ?_
      refine bifE2 (fun hc => ?_) fun hc => ?_
      · rw [hc]
        refine et k_assoc ?_
        refine et (k_region0 rfl (f102r8 k a0 x15 x16 o18)) ?_
        refine et k_ret ?_
        refine et blk_ret ?_
        refine et loop_ret ?_
        refine et (hret _) ?_
        rfl
      · rw [hc]
        refine et k_skip ?_
        refine et (k_region rfl (f102r9 k a0 x15 x16 o18)) ?_
        refine bindE (fun o24 => ?_)
        refine et k_assoc ?_
        refine et (k_region rfl (f102r10 k a0 x15 x16 o18 o24)) ?_
        refine bindE (fun o26 => ?_)
        refine et (k_cond (t := o26) rfl rfl) ?_
        refine bifE2 (fun hc => ?_) fun hc => ?_
        · rw [hc]
          refine et k_assoc ?_
          refine et (k_region0 rfl (f102r11 k a0 x15 x16 o18 o24)) ?_
          refine et k_ret ?_
          refine et blk_ret ?_
          refine et loop_ret ?_
          refine et (hret _) ?_
          rfl
        · rw [hc]
          refine et k_skip ?_
          refine et (k_region rfl (f102r12 k a0 x15 x16 o18 o24)) ?_
          refine bindE (fun o29 => ?_)
          refine et (k_region0 rfl (f102r13 k a0 x15 o29)) ?_
          refine et (k_lcond (t := (decide ((o29.length : Int) > 5))) rfl rfl) ?_
          refine bifE2 (fun hc => ?_) fun hc => ?_
          · rw [hc]
            refine et (k_region0 rfl (f102r14 k a0 x15 o29)) ?_
            refine et k_lret ?_
            refine et blk_ret ?_
            refine et loop_ret ?_
            refine et (hret _) ?_
            rfl
          · rw [hc]
            refine et k_lskip ?_
            refine et blk_normal ?_
            refine et (k_lregion0 rfl (f102r15 k a0 x15 o29)) ?_
            refine et loop_normal ?_
            exact ih (Go.IntKind.wrap .i64 (x15 + 1)) o29
    · rw [hc]
      refine et k_exit ?_
      refine et loop_exit ?_
      exact hK0 x15 x16
theorem f102r16 (k : Nat) (a0 : (List T_api_Type)) (y30 : Int) (y31 : (List Int)) : RE k f102a16 f102o16 false ⟨[(0, (sType a0)), (3, (aL 3 I y31)), (15, (sType a0)), (16, (I (a0.length : Int))), (17, (I y30)), (18, (Bo false))], [(3, ⟨true, 1, List.map I y31⟩)], 82⟩ = some ⟨[(2, (Bo true))], [], 82⟩ :=
  rE rfl
theorem dbd_areTypes_ok (k : Nat) (a0 : (List T_api_Type)) : EV k 102 [(sType a0)] = (dbd_areTypes k a0).map dbd_areTypes_fin := by
  cases k with
  | zero => rfl
  | succ k =>
    unfold dbd_areTypes
    refine et (evF_succ (c := f102c) (N := 82) (regs := f102n) rfl func102 rfl (by decide) rfl rfl rfl) ?_
    refine et (k_region0 rfl (f102r0 k a0)) ?_
    refine et k_assoc ?_
    refine et (k_region rfl (f102r1 k a0)) ?_
    refine bindE (fun o1 => ?_)
    refine et (k_cond (t := o1) rfl rfl) ?_
    refine bifE2 (fun hc => ?_) fun hc => ?_
    · rw [hc]
      refine et k_assoc ?_
      refine et (k_region0 rfl (f102r2 k a0)) ?_
      refine et k_ret ?_
      rfl
    · rw [hc]
      refine et k_skip ?_
      refine et (k_region0 rfl (f102r3 k a0)) ?_
      refine et k_assoc ?_
      refine et (k_region0 rfl (f102r4 k a0)) ?_
      refine et (k_block rfl) ?_
      refine et k_loop ?_
      refine dbd_areTypes_L1_ok k a0 _ _ ?h_dbd_areTypes_L1_0 ?hr_dbd_areTypes_L1 k 0 ([] : List Int)
      · intro y30 y31
        refine et blk_exit ?_
        refine et (k_region0 rfl (f102r16 k a0 y30 y31)) ?_
        refine et k_lret ?_
        rfl
      · intro s; exact rfl
def slices_IndexFunc_Search_fin : Int → V × List V := fun r => ((I r), [])
theorem f117r0 (k : Nat) (a0 : (List T_api_Search)) (a1 : Nat → T_api_Search → Option Bool) (a1_fid : Go.FuncId) (a1_c0 : V) (a1_hok : ∀ j x0, EV j a1_fid [(eSearch x0), V.pro a1_c0] = (a1 j x0).map fun b => ((Bo b), [])) : RE k f117a0 f117o0 false ⟨[(0, (sSearch a0)), (1, (V.fn a1_fid [] [V.pro a1_c0]))], [], 19⟩ = some ⟨[(0, (sSearch a0)), (1, (V.fn a1_fid [] [V.pro a1_c0]))], [], 19⟩ :=
  rE rfl
theorem f117r1 (k : Nat) (a0 : (List T_api_Search)) (a1 : Nat → T_api_Search → Option Bool) (a1_fid : Go.FuncId) (a1_c0 : V) (a1_hok : ∀ j x0, EV j a1_fid [(eSearch x0), V.pro a1_c0] = (a1 j x0).map fun b => ((Bo b), [])) : RE k f117a1 f117o1 false ⟨[(0, (sSearch a0)), (1, (V.fn a1_fid [] [V.pro a1_c0]))], [], 19⟩ = some ⟨[(0, (sSearch a0)), (1, (V.fn a1_fid [] [V.pro a1_c0])), (7, (I (a0.length : Int))), (8, (I 0))], [], 19⟩ := by
  refine rg ?_
  refine ra 1 1 ⟨[(0, (sSearch a0)), (1, (V.fn a1_fid [] [V.pro a1_c0])), (6, (sSearch a0))], [], 19⟩ rfl rfl rfl ?_
  refine et (reg_pure (x := some ()) (w := fun _ => (I (a0.length : Int))) rfl rfl rfl rfl (p_len (e := eSearch) rfl rfl rfl rfl rfl rfl underlying23)) ?_
  refine et some_bind ?_
  exact bind_end rfl
theorem f117r2 (k : Nat) (a0 : (List T_api_Search)) (x4 : Int) (a1 : Nat → T_api_Search → Option Bool) (a1_fid : Go.FuncId) (a1_c0 : V) (a1_hok : ∀ j x0, EV j a1_fid [(eSearch x0), V.pro a1_c0] = (a1 j x0).map fun b => ((Bo b), [])) : RE k f117a2 f117o2 false ⟨[(0, (sSearch a0)), (1, (V.fn a1_fid [] [V.pro a1_c0])), (7, (I (a0.length : Int))), (8, (I x4))], [], 19⟩ = some ⟨[(0, (sSearch a0)), (1, (V.fn a1_fid [] [V.pro a1_c0])), (7, (I (a0.length : Int))), (8, (I x4)), (9, (Bo (decide (x4 < (a0.length : Int)))))], [], 19⟩ :=
  rE rfl
theorem f117r3 (k : Nat) (a0 : (List T_api_Search)) (x4 : Int) (a1 : Nat → T_api_Search → Option Bool) (a1_fid : Go.FuncId) (a1_c0 : V) (a1_hok : ∀ j x0, EV j a1_fid [(eSearch x0), V.pro a1_c0] = (a1 j x0).map fun b => ((Bo b), [])) : RE k f117a3 f117o3 false ⟨[(0, (sSearch a0)), (1, (V.fn a1_fid [] [V.pro a1_c0])), (7, (I (a0.length : Int))), (8, (I x4)), (9, (Bo true))], [], 19⟩ = some ⟨[(0, (sSearch a0)), (1, (V.fn a1_fid [] [V.pro a1_c0])), (5, (I x4)), (7, (I (a0.length : Int))), (8, (I x4))], [], 19⟩ :=
  rE rfl
theorem f117r4 (k : Nat) (a0 : (List T_api_Search)) (x4 : Int) (a1 : Nat → T_api_Search → Option Bool) (a1_fid : Go.FuncId) (a1_c0 : V) (a1_hok : ∀ j x0, EV j a1_fid [(eSearch x0), V.pro a1_c0] = (a1 j x0).map fun b => ((Bo b), [])) : RE k f117a4 f117o4 false ⟨[(0, (sSearch a0)), (1, (V.fn a1_fid [] [V.pro a1_c0])), (5, (I x4)), (7, (I (a0.length : Int))), (8, (I x4))], [], 19⟩ = (((idx a0 x4).bind fun v5 => (a1 k v5))).map (fun (o : Bool) => (⟨[(0, (sSearch a0)), (1, (V.fn a1_fid [] [V.pro a1_c0])), (5, (I x4)), (7, (I (a0.length : Int))), (8, (I x4)), (16, (Bo o))], [], 19⟩ : St)) := by
  refine rg ?_
  refine ra 3 3 ⟨[(0, (sSearch a0)), (1, (V.fn a1_fid [] [V.pro a1_c0])), (5, (I x4)), (7, (I (a0.length : Int))), (8, (I x4)), (11, (V.fn a1_fid [] [V.pro a1_c0])), (12, (sSearch a0)), (13, (I x4))], [], 19⟩ rfl rfl rfl ?_
  refine et (reg_pure (x := (idx a0 x4)) (w := fun v5 => (Pr (eSearch v5))) rfl rfl rfl rfl (p_index (e := eSearch) rfl rfl rfl underlying23 rfl (by decide))) ?_
  refine bindE (fun v5 => ?_)
  refine ba 1 5 ⟨[(0, (sSearch a0)), (1, (V.fn a1_fid [] [V.pro a1_c0])), (5, (I x4)), (7, (I (a0.length : Int))), (8, (I x4)), (11, (V.fn a1_fid [] [V.pro a1_c0])), (12, (sSearch a0)), (13, (I x4)), (14, (Pr (eSearch v5))), (15, (eSearch v5))], [], 19⟩ rfl rfl rfl ?_
  refine et (reg_pure (x := (a1 k v5)) (w := fun v6 => (Bo v6)) rfl rfl rfl rfl (p_call rfl rfl rfl rfl rfl (a1_hok k v5) (.inl rfl))) ?_
  refine bind_self (fun v6 => ?_)
  exact bind_end rfl
theorem f117r5 (k : Nat) (a0 : (List T_api_Search)) (x4 : Int) (a1 : Nat → T_api_Search → Option Bool) (a1_fid : Go.FuncId) (a1_c0 : V) (a1_hok : ∀ j x0, EV j a1_fid [(eSearch x0), V.pro a1_c0] = (a1 j x0).map fun b => ((Bo b), [])) : RE k f117a5 f117o5 false ⟨[(0, (sSearch a0)), (1, (V.fn a1_fid [] [V.pro a1_c0])), (5, (I x4)), (7, (I (a0.length : Int))), (8, (I x4)), (16, (Bo true))], [], 19⟩ = some ⟨[(4, (I x4))], [], 19⟩ :=
  rE rfl
theorem f117r6 (k : Nat) (a0 : (List T_api_Search)) (x4 : Int) (a1 : Nat → T_api_Search → Option Bool) (a1_fid : Go.FuncId) (a1_c0 : V) (a1_hok : ∀ j x0, EV j a1_fid [(eSearch x0), V.pro a1_c0] = (a1 j x0).map fun b => ((Bo b), [])) : RE k f117a6 f117o6 false ⟨[(0, (sSearch a0)), (1, (V.fn a1_fid [] [V.pro a1_c0])), (5, (I x4)), (7, (I (a0.length : Int))), (8, (I x4)), (16, (Bo false))], [], 19⟩ = some ⟨[(0, (sSearch a0)), (1, (V.fn a1_fid [] [V.pro a1_c0])), (7, (I (a0.length : Int))), (8, (I (Go.IntKind.wrap .i64 (x4 + 1))))], [], 19⟩ :=
  rE rfl
theorem slices_IndexFunc_Search_L1_ok (k : Nat) (a0 : (List T_api_Search)) (a1 : Nat → T_api_Search → Option Bool) (a1_fid : Go.FuncId) (a1_c0 : V) (a1_hok : ∀ j x0, EV j a1_fid [(eSearch x0), V.pro a1_c0] = (a1 j x0).map fun b => ((Bo b), [])) (K0 : Int → Option Int) (Kst : X × St → Option (V × List V)) (hK0 : ∀ (y0 : Int), Kst (X.exit 0, ⟨[(0, (sSearch a0)), (1, (V.fn a1_fid [] [V.pro a1_c0])), (7, (I (a0.length : Int))), (8, (I y0)), (9, (Bo false))], [], 19⟩) = (K0 y0).map slices_IndexFunc_Search_fin) (hret : ∀ s, Kst (X.ret, s) = endK prog 19 [(sSearch a0), (V.fn a1_fid [] [V.pro a1_c0])] [] [.tmp 4] (X.ret, s)) :
    ∀ (m : Nat) (x4 : Int), (iter (exec prog (EV k) f117n k f117b0) m ⟨[(0, (sSearch a0)), (1, (V.fn a1_fid [] [V.pro a1_c0])), (7, (I (a0.length : Int))), (8, (I x4))], [], 19⟩).bind Kst = (slices_IndexFunc_Search_L1 k a0 a1 K0 m x4).map slices_IndexFunc_Search_fin := by
  intro m
  induction m with
  | zero => intros; rfl
  | succ m ih =>
    intro x4
    unfold slices_IndexFunc_Search_L1
    refine et k_round ?_
    refine et (k_region0 rfl (f117r2 k a0 x4 a1 a1_fid a1_c0 a1_hok)) ?_
    refine et (k_cond (t := (decide (x4 < (a0.length : Int)))) rfl rfl) ?_
    refine bifE2 (fun hc => ?_) fun hc => ?_
    · rw [hc]
      refine et k_skip ?_
      refine et (k_block rfl) ?_
      refine et (k_region0 rfl (f117r3 k a0 x4 a1 a1_fid a1_c0 a1_hok)) ?_
      refine et (k_region rfl (f117r4 k a0 x4 a1 a1_fid a1_c0 a1_hok)) ?_
      refine bindE (fun o7 => ?_)
      refine et (k_lcond (t := o7) rfl rfl) ?_
      refine bifE2 (fun hc => ?_) fun hc => ?_
      · rw [hc]
        refine et (k_region0 rfl (f117r5 k a0 x4 a1 a1_fid a1_c0 a1_hok)) ?_
        refine et k_lret ?_
        refine et blk_ret ?_
        refine et loop_ret ?_
        refine et (hret _) ?_
        rfl
      · rw [hc]
        refine et k_lskip ?_
        refine et blk_normal ?_
        refine et (k_lregion0 rfl (f117r6 k a0 x4 a1 a1_fid a1_c0 a1_hok)) ?_
        refine et loop_normal ?_
        exact ih (Go.IntKind.wrap .i64 (x4 + 1))
    · rw [hc]
      refine et k_exit ?_
      refine et loop_exit ?_
      exact hK0 x4
theorem f117r7 (k : Nat) (a0 : (List T_api_Search)) (y8 : Int) (a1 : Nat → T_api_Search → Option Bool) (a1_fid : Go.FuncId) (a1_c0 : V) (a1_hok : ∀ j x0, EV j a1_fid [(eSearch x0), V.pro a1_c0] = (a1 j x0).map fun b => ((Bo b), [])) : RE k f117a7 f117o7 false ⟨[(0, (sSearch a0)), (1, (V.fn a1_fid [] [V.pro a1_c0])), (7, (I (a0.length : Int))), (8, (I y8)), (9, (Bo false))], [], 19⟩ = some ⟨[(4, (I (-1)))], [], 19⟩ :=
  rE rfl
theorem slices_IndexFunc_Search_ok (k : Nat) (a0 : (List T_api_Search)) (a1 : Nat → T_api_Search → Option Bool) (a1_fid : Go.FuncId) (a1_c0 : V) (a1_hok : ∀ j x0, EV j a1_fid [(eSearch x0), V.pro a1_c0] = (a1 j x0).map fun b => ((Bo b), [])) : EV k 117 [(sSearch a0), (V.fn a1_fid [] [V.pro a1_c0])] = (slices_IndexFunc_Search k a0 a1).map slices_IndexFunc_Search_fin := by
  cases k with
  | zero => rfl
  | succ k =>
    unfold slices_IndexFunc_Search
    refine et (evF_succ (c := f117c) (N := 19) (regs := f117n) rfl func117 rfl (by decide) rfl rfl rfl) ?_
    refine et (k_region0 rfl (f117r0 k a0 a1 a1_fid a1_c0 a1_hok)) ?_
    refine et k_assoc ?_
    refine et (k_region0 rfl (f117r1 k a0 a1 a1_fid a1_c0 a1_hok)) ?_
    refine et (k_block rfl) ?_
    refine et k_loop ?_
    refine slices_IndexFunc_Search_L1_ok k a0 a1 a1_fid a1_c0 a1_hok _ _ ?h_slices_IndexFunc_Search_L1_0 ?hr_slices_IndexFunc_Search_L1 k 0
    · intro y8
      refine et blk_exit ?_
      refine et (k_region0 rfl (f117r7 k a0 y8 a1 a1_fid a1_c0 a1_hok)) ?_
      refine et k_lret ?_
      rfl
    · intro s; exact rfl
def slices_ContainsFunc_Search_fin : Bool → V × List V := fun r => ((Bo r), [])
theorem f113r0 (k : Nat) (a0 : (List T_api_Search)) (a1 : Nat → T_api_Search → Option Bool) (a1_fid : Go.FuncId) (a1_c0 : V) (a1_hok : ∀ j x0, EV j a1_fid [(eSearch x0), V.pro a1_c0] = (a1 j x0).map fun b => ((Bo b), [])) : RE k f113a0 f113o0 false ⟨[(0, (sSearch a0)), (1, (V.fn a1_fid [] [V.pro a1_c0]))], [], 9⟩ = some ⟨[(0, (sSearch a0)), (1, (V.fn a1_fid [] [V.pro a1_c0]))], [], 9⟩ :=
  rE rfl
theorem f113r1 (k : Nat) (a0 : (List T_api_Search)) (a1 : Nat → T_api_Search → Option Bool) (a1_fid : Go.FuncId) (a1_c0 : V) (a1_hok : ∀ j x0, EV j a1_fid [(eSearch x0), V.pro a1_c0] = (a1 j x0).map fun b => ((Bo b), [])) : RE k f113a1 f113o1 false ⟨[(0, (sSearch a0)), (1, (V.fn a1_fid [] [V.pro a1_c0]))], [], 9⟩ = (((slices_IndexFunc_Search k a0 a1).bind fun v1 => (some ((decide (v1 ≥ 0)))))).map (fun (o : Bool) => (⟨[(4, (Bo o))], [], 9⟩ : St)) := by
  refine rg ?_
  refine ra 2 2 ⟨[(0, (sSearch a0)), (1, (V.fn a1_fid [] [V.pro a1_c0])), (5, (sSearch a0)), (6, (V.fn a1_fid [] [V.pro a1_c0]))], [], 9⟩ rfl rfl rfl ?_
  refine et (reg_pure (x := (slices_IndexFunc_Search k a0 a1)) (w := fun v1 => (I v1)) rfl rfl rfl rfl (p_call rfl rfl rfl rfl rfl (slices_IndexFunc_Search_ok k a0 a1 a1_fid a1_c0 a1_hok) (.inl rfl))) ?_
  refine bindE (fun v1 => ?_)
  exact bind_end rfl
theorem slices_ContainsFunc_Search_ok (k : Nat) (a0 : (List T_api_Search)) (a1 : Nat → T_api_Search → Option Bool) (a1_fid : Go.FuncId) (a1_c0 : V) (a1_hok : ∀ j x0, EV j a1_fid [(eSearch x0), V.pro a1_c0] = (a1 j x0).map fun b => ((Bo b), [])) : EV k 113 [(sSearch a0), (V.fn a1_fid [] [V.pro a1_c0])] = (slices_ContainsFunc_Search k a0 a1).map slices_ContainsFunc_Search_fin := by
  cases k with
  | zero => rfl
  | succ k =>
    unfold slices_ContainsFunc_Search
    refine et (evF_succ (c := f113c) (N := 9) (regs := f113n) rfl func113 rfl (by decide) rfl rfl rfl) ?_
    refine et (k_region0 rfl (f113r0 k a0 a1 a1_fid a1_c0 a1_hok)) ?_
    refine et (k_region rfl (f113r1 k a0 a1 a1_fid a1_c0 a1_hok)) ?_
    refine bindE (fun o2 => ?_)
    refine et k_lret ?_
    rfl
def dbd_areIndexes_1_fin : Bool → V × List V := fun r => ((Bo r), [])
theorem f114r0 (k : Nat) (a0 : T_api_Search) (a1 : T_api_Search) : RE k f114a0 f114o0 false ⟨[(0, (eSearch a0)), (1, (Pr (eSearch a1)))], [], 9⟩ = some ⟨[(1, (Pr (eSearch a1))), (2, (Pt 2))], [(2, vS 4 (eSearch a0))], 9⟩ :=
  rE rfl
theorem f114r1 (k : Nat) (a0 : T_api_Search) (a1 : T_api_Search) : RE k f114a1 f114o1 false ⟨[(1, (Pr (eSearch a1))), (2, (Pt 2))], [(2, vS 4 (eSearch a0))], 9⟩ = some ⟨[(3, (Bo (a0.fName == a1.fName)))], [], 9⟩ :=
  rE rfl
theorem dbd_areIndexes_1_ok (k : Nat) (a0 : T_api_Search) (a1 : T_api_Search) : EV k 114 [(eSearch a0), (Pr (eSearch a1))] = (dbd_areIndexes_1 k a0 a1).map dbd_areIndexes_1_fin := by
  cases k with
  | zero => rfl
  | succ k =>
    unfold dbd_areIndexes_1
    refine et (evF_succ (c := f114c) (N := 9) (regs := f114n) rfl func114 rfl (by decide) rfl rfl rfl) ?_
    refine et (k_region0 rfl (f114r0 k a0 a1)) ?_
    refine et (k_region0 rfl (f114r1 k a0 a1)) ?_
    refine et k_lret ?_
    rfl
def dbd_areIndexes_fin : Bool → V × List V := fun r => ((Bo r), [])
theorem f103r0 (k : Nat) (a0 : (List T_api_Search)) (a1 : (List T_api_Type)) : RE k f103a0 f103o0 false ⟨[(0, (sSearch a0)), (1, (sType a1))], [], 73⟩ = some ⟨[(0, (sSearch a0)), (1, (sType a1))], [], 73⟩ :=
  rE rfl
theorem f103r1 (k : Nat) (a0 : (List T_api_Search)) (a1 : (List T_api_Type)) : RE k f103a1 f103o1 false ⟨[(0, (sSearch a0)), (1, (sType a1))], [], 73⟩ = some ⟨[(0, (sSearch a0)), (1, (sType a1)), (8, (sSearch a0)), (9, (I (a0.length : Int))), (10, (I 0))], [], 73⟩ := by
  refine rg ?_
  refine ra 1 1 ⟨[(0, (sSearch a0)), (1, (sType a1)), (8, (sSearch a0))], [], 73⟩ rfl rfl rfl ?_
  refine et (reg_pure (x := some ()) (w := fun _ => (I (a0.length : Int))) rfl rfl rfl rfl (p_len (e := eSearch) rfl rfl rfl rfl rfl rfl underlying23)) ?_
  refine et some_bind ?_
  exact bind_end rfl
theorem f103r2 (k : Nat) (a0 : (List T_api_Search)) (a1 : (List T_api_Type)) (x11 : Int) : RE k f103a2 f103o2 false ⟨[(0, (sSearch a0)), (1, (sType a1)), (8, (sSearch a0)), (9, (I (a0.length : Int))), (10, (I x11))], [], 73⟩ = some ⟨[(0, (sSearch a0)), (1, (sType a1)), (8, (sSearch a0)), (9, (I (a0.length : Int))), (10, (I x11)), (11, (Bo (decide (x11 < (a0.length : Int)))))], [], 73⟩ :=
  rE rfl
theorem f103r3 (k : Nat) (a0 : (List T_api_Search)) (a1 : (List T_api_Type)) (x11 : Int) : RE k f103a3 f103o3 false ⟨[(0, (sSearch a0)), (1, (sType a1)), (8, (sSearch a0)), (9, (I (a0.length : Int))), (10, (I x11)), (11, (Bo true))], [], 73⟩ = (((idx a0 x11).bind fun v12 => (some (x11, v12)))).map (fun (o : Int × T_api_Search) => (⟨[(0, (sSearch a0)), (1, (sType a1)), (5, (I o.1)), (6, (Pt 6)), (8, (sSearch a0)), (9, (I (a0.length : Int))), (10, (I x11))], [(6, vS 4 (eSearch o.2))], 73⟩ : St)) := by
  refine rg ?_
  refine ra 1 1 ⟨[(0, (sSearch a0)), (1, (sType a1)), (8, (sSearch a0)), (9, (I (a0.length : Int))), (10, (I x11)), (11, (Bo true)), (12, (I x11))], [], 73⟩ rfl rfl rfl ?_
  refine et (reg_pure (x := (idx a0 x11)) (w := fun v12 => (Pr (eSearch v12))) rfl rfl rfl rfl (p_index (e := eSearch) rfl rfl rfl underlying23 rfl (by decide))) ?_
  refine bindE (fun v12 => ?_)
  exact bind_end rfl
theorem f103r4 (k : Nat) (a0 : (List T_api_Search)) (a1 : (List T_api_Type)) (x11 : Int) (o13 : Int × T_api_Search) : RE k f103a4 f103o4 false ⟨[(0, (sSearch a0)), (1, (sType a1)), (5, (I o13.1)), (6, (Pt 6)), (8, (sSearch a0)), (9, (I (a0.length : Int))), (10, (I x11))], [(6, vS 4 (eSearch o13.2))], 73⟩ = (((dbd_IsName k o13.2.fName).bind fun v14 => (bif (!v14) then (some (true)) else (bif (decide (o13.2.fType < 0)) then (some (true)) else (bif (decide (o13.2.fType ≥ (a1.length : Int))) then (some (true)) else (bif (decide ((o13.2.fSparse.length : Int) > 1)) then (some (true)) else ((cut a0 0 o13.1).bind fun v15 => (slices_ContainsFunc_Search k v15 (fun j x0 => (dbd_areIndexes_1 j x0 o13.2)))))))))).map (fun (o : Bool) => (⟨[(0, (sSearch a0)), (1, (sType a1)), (6, (Pt 6)), (8, (sSearch a0)), (9, (I (a0.length : Int))), (10, (I x11)), (43, (Bo o))], [(6, vS 4 (eSearch o13.2))], 73⟩ : St)) := by
  refine rg ?_
  refine ra 2 2 ⟨[(0, (sSearch a0)), (1, (sType a1)), (5, (I o13.1)), (6, (Pt 6)), (8, (sSearch a0)), (9, (I (a0.length : Int))), (10, (I x11)), (15, (Pt 6)), (16, (Sr o13.2.fName))], [(6, vS 4 (eSearch o13.2))], 73⟩ rfl rfl rfl ?_
  refine et (reg_pure (x := (dbd_IsName k o13.2.fName)) (w := fun v14 => (Bo v14)) rfl rfl rfl rfl (p_call rfl rfl rfl rfl rfl (dbd_IsName_ok k o13.2.fName) (.inl rfl))) ?_
  refine bindE (fun v14 => ?_)
  refine ba 2 5 ⟨[(0, (sSearch a0)), (1, (sType a1)), (5, (I o13.1)), (6, (Pt 6)), (8, (sSearch a0)), (9, (I (a0.length : Int))), (10, (I x11)), (15, (Pt 6)), (16, (Sr o13.2.fName)), (17, (Bo v14)), (18, (Bo (!v14))), (19, (Bo (!v14)))], [(6, vS 4 (eSearch o13.2))], 73⟩ rfl rfl rfl ?_
  refine bifE (c := (!v14)) (fun hc => ?_) fun hc => ?_
  · rw [hc]
    exact reg_end rfl
  · rw [hc]
    refine ra 5 10 ⟨[(0, (sSearch a0)), (1, (sType a1)), (5, (I o13.1)), (6, (Pt 6)), (8, (sSearch a0)), (9, (I (a0.length : Int))), (10, (I x11)), (15, (Pt 6)), (16, (Sr o13.2.fName)), (17, (Bo v14)), (18, (Bo false)), (19, (Bo false)), (20, (V.ptr 6 0 1)), (21, (I o13.2.fType)), (22, (Bo (decide (o13.2.fType < 0)))), (23, (Bo (decide (o13.2.fType < 0)))), (24, (Bo (decide (o13.2.fType < 0))))], [(6, vS 4 (eSearch o13.2))], 73⟩ rfl rfl rfl ?_
    refine bifE (c := (decide (o13.2.fType < 0))) (fun hc => ?_) fun hc => ?_
    · rw [hc]
      exact reg_end rfl
    · rw [hc]
      refine ra 3 13 ⟨[(0, (sSearch a0)), (1, (sType a1)), (5, (I o13.1)), (6, (Pt 6)), (8, (sSearch a0)), (9, (I (a0.length : Int))), (10, (I x11)), (15, (Pt 6)), (16, (Sr o13.2.fName)), (17, (Bo v14)), (18, (Bo false)), (19, (Bo false)), (20, (V.ptr 6 0 1)), (21, (I o13.2.fType)), (22, (Bo false)), (23, (Bo false)), (24, (Bo false)), (25, (V.ptr 6 0 1)), (26, (I o13.2.fType)), (27, (sType a1))], [(6, vS 4 (eSearch o13.2))], 73⟩ rfl rfl rfl ?_
      refine et (reg_pure (x := some ()) (w := fun _ => (I (a1.length : Int))) rfl rfl rfl rfl (p_len (e := eType) rfl rfl rfl rfl rfl rfl underlying22)) ?_
      refine et some_bind ?_
      refine ba 3 17 ⟨[(0, (sSearch a0)), (1, (sType a1)), (5, (I o13.1)), (6, (Pt 6)), (8, (sSearch a0)), (9, (I (a0.length : Int))), (10, (I x11)), (15, (Pt 6)), (16, (Sr o13.2.fName)), (17, (Bo v14)), (18, (Bo false)), (19, (Bo false)), (20, (V.ptr 6 0 1)), (21, (I o13.2.fType)), (22, (Bo false)), (23, (Bo false)), (24, (Bo false)), (25, (V.ptr 6 0 1)), (26, (I o13.2.fType)), (27, (sType a1)), (28, (I (a1.length : Int))), (29, (Bo (decide (o13.2.fType ≥ (a1.length : Int))))), (30, (Bo (decide (o13.2.fType ≥ (a1.length : Int))))), (31, (Bo (decide (o13.2.fType ≥ (a1.length : Int)))))], [(6, vS 4 (eSearch o13.2))], 73⟩ rfl rfl rfl ?_
      refine bifE (c := (decide (o13.2.fType ≥ (a1.length : Int)))) (fun hc => ?_) fun hc => ?_
      · rw [hc]
        exact reg_end rfl
      · rw [hc]
        refine ra 6 23 ⟨[(0, (sSearch a0)), (1, (sType a1)), (5, (I o13.1)), (6, (Pt 6)), (8, (sSearch a0)), (9, (I (a0.length : Int))), (10, (I x11)), (15, (Pt 6)), (16, (Sr o13.2.fName)), (17, (Bo v14)), (18, (Bo false)), (19, (Bo false)), (20, (V.ptr 6 0 1)), (21, (I o13.2.fType)), (22, (Bo false)), (23, (Bo false)), (24, (Bo false)), (25, (V.ptr 6 0 1)), (26, (I o13.2.fType)), (27, (sType a1)), (28, (I (a1.length : Int))), (29, (Bo false)), (30, (Bo false)), (31, (Bo false)), (32, (V.ptr 6 0 3)), (33, (Sr o13.2.fSparse)), (34, (I (o13.2.fSparse.length : Int))), (35, (Bo (decide ((o13.2.fSparse.length : Int) > 1)))), (36, (Bo (decide ((o13.2.fSparse.length : Int) > 1)))), (37, (Bo (decide ((o13.2.fSparse.length : Int) > 1))))], [(6, vS 4 (eSearch o13.2))], 73⟩ rfl rfl rfl ?_
        refine bifE (c := (decide ((o13.2.fSparse.length : Int) > 1))) (fun hc => ?_) fun hc => ?_
        · rw [hc]
          exact reg_end rfl
        · rw [hc]
          refine ra 2 25 ⟨[(0, (sSearch a0)), (1, (sType a1)), (5, (I o13.1)), (6, (Pt 6)), (8, (sSearch a0)), (9, (I (a0.length : Int))), (10, (I x11)), (15, (Pt 6)), (16, (Sr o13.2.fName)), (17, (Bo v14)), (18, (Bo false)), (19, (Bo false)), (20, (V.ptr 6 0 1)), (21, (I o13.2.fType)), (22, (Bo false)), (23, (Bo false)), (24, (Bo false)), (25, (V.ptr 6 0 1)), (26, (I o13.2.fType)), (27, (sType a1)), (28, (I (a1.length : Int))), (29, (Bo false)), (30, (Bo false)), (31, (Bo false)), (32, (V.ptr 6 0 3)), (33, (Sr o13.2.fSparse)), (34, (I (o13.2.fSparse.length : Int))), (35, (Bo false)), (36, (Bo false)), (37, (Bo false)), (38, (sSearch a0)), (39, (I o13.1))], [(6, vS 4 (eSearch o13.2))], 73⟩ rfl rfl rfl ?_
          refine et (reg_pure (x := (cut a0 0 o13.1)) (w := fun v15 => (sSearch v15)) rfl rfl rfl rfl (p_slice (e := eSearch) rfl rfl rfl rfl rfl rfl underlying23 rfl (by decide))) ?_
          refine bindE (fun v15 => ?_)
          refine ba 1 27 ⟨[(0, (sSearch a0)), (1, (sType a1)), (5, (I o13.1)), (6, (Pt 6)), (8, (sSearch a0)), (9, (I (a0.length : Int))), (10, (I x11)), (15, (Pt 6)), (16, (Sr o13.2.fName)), (17, (Bo v14)), (18, (Bo false)), (19, (Bo false)), (20, (V.ptr 6 0 1)), (21, (I o13.2.fType)), (22, (Bo false)), (23, (Bo false)), (24, (Bo false)), (25, (V.ptr 6 0 1)), (26, (I o13.2.fType)), (27, (sType a1)), (28, (I (a1.length : Int))), (29, (Bo false)), (30, (Bo false)), (31, (Bo false)), (32, (V.ptr 6 0 3)), (33, (Sr o13.2.fSparse)), (34, (I (o13.2.fSparse.length : Int))), (35, (Bo false)), (36, (Bo false)), (37, (Bo false)), (38, (sSearch a0)), (39, (I o13.1)), (40, (sSearch v15)), (41, (V.fn 114 [] [(Pt 6)]))], [(6, vS 4 (eSearch o13.2))], 73⟩ rfl rfl rfl ?_
          refine et (reg_pure (x := (slices_ContainsFunc_Search k v15 (fun j x0 => (dbd_areIndexes_1 j x0 o13.2)))) (w := fun v16 => (Bo v16)) rfl rfl rfl rfl (p_call rfl rfl rfl rfl rfl (slices_ContainsFunc_Search_ok k v15 (fun j x0 => (dbd_areIndexes_1 j x0 o13.2)) 114 (eSearch o13.2) (fun j x0 => (dbd_areIndexes_1_ok j x0 o13.2))) (.inr (fun _ => rfl)))) ?_
          refine bind_self (fun v16 => ?_)
          exact bind_end rfl
theorem f103r5 (k : Nat) (a0 : (List T_api_Search)) (a1 : (List T_api_Type)) (x11 : Int) (o13 : Int × T_api_Search) : RE k f103a5 f103o5 false ⟨[(0, (sSearch a0)), (1, (sType a1)), (6, (Pt 6)), (8, (sSearch a0)), (9, (I (a0.length : Int))), (10, (I x11)), (43, (Bo true))], [(6, vS 4 (eSearch o13.2))], 73⟩ = some ⟨[(4, (Bo false))], [], 73⟩ :=
  rE rfl
theorem f103r6 (k : Nat) (a0 : (List T_api_Search)) (a1 : (List T_api_Type)) (x11 : Int) (o13 : Int × T_api_Search) : RE k f103a6 f103o6 false ⟨[(0, (sSearch a0)), (1, (sType a1)), (6, (Pt 6)), (8, (sSearch a0)), (9, (I (a0.length : Int))), (10, (I x11)), (43, (Bo false))], [(6, vS 4 (eSearch o13.2))], 73⟩ = (((idx a1 o13.2.fType).bind fun v18 => (some (v18.fFields)))).map (fun (o : (List T_api_Field)) => (⟨[(0, (sSearch a0)), (1, (sType a1)), (6, (Pt 6)), (7, (sField o)), (8, (sSearch a0)), (9, (I (a0.length : Int))), (10, (I x11))], [(6, vS 4 (eSearch o13.2))], 73⟩ : St)) := by
  refine rg ?_
  refine ra 3 3 ⟨[(0, (sSearch a0)), (1, (sType a1)), (6, (Pt 6)), (8, (sSearch a0)), (9, (I (a0.length : Int))), (10, (I x11)), (43, (Bo false)), (44, (sType a1)), (45, (V.ptr 6 0 1)), (46, (I o13.2.fType))], [(6, vS 4 (eSearch o13.2))], 73⟩ rfl rfl rfl ?_
  refine et (reg_pure (x := (idx a1 o13.2.fType)) (w := fun v18 => (Pr (eType v18))) rfl rfl rfl rfl (p_index (e := eType) rfl rfl rfl underlying22 rfl (by decide))) ?_
  refine bindE (fun v18 => ?_)
  exact bind_end rfl
theorem f103r7 (k : Nat) (a0 : (List T_api_Search)) (a1 : (List T_api_Type)) (x11 : Int) (o13 : Int × T_api_Search) (o19 : (List T_api_Field)) : RE k f103a7 f103o7 false ⟨[(0, (sSearch a0)), (1, (sType a1)), (6, (Pt 6)), (7, (sField o19)), (8, (sSearch a0)), (9, (I (a0.length : Int))), (10, (I x11))], [(6, vS 4 (eSearch o13.2))], 73⟩ = ((bif (decide (o13.2.fField < 0)) then (some (true)) else (bif (decide (o13.2.fField ≥ (o19.length : Int))) then (some (true)) else ((idx o19 o13.2.fField).bind fun v20 => (some ((decide (v20.fBytes > 20)))))))).map (fun (o : Bool) => (⟨[(0, (sSearch a0)), (1, (sType a1)), (8, (sSearch a0)), (9, (I (a0.length : Int))), (10, (I x11)), (68, (Bo o))], [], 73⟩ : St)) := by
  refine rg ?_
  refine ra 4 4 ⟨[(0, (sSearch a0)), (1, (sType a1)), (6, (Pt 6)), (7, (sField o19)), (8, (sSearch a0)), (9, (I (a0.length : Int))), (10, (I x11)), (50, (V.ptr 6 0 2)), (51, (I o13.2.fField)), (52, (Bo (decide (o13.2.fField < 0)))), (53, (Bo (decide (o13.2.fField < 0))))], [(6, vS 4 (eSearch o13.2))], 73⟩ rfl rfl rfl ?_
  refine bifE (c := (decide (o13.2.fField < 0))) (fun hc => ?_) fun hc => ?_
  · rw [hc]
    exact reg_end rfl
  · rw [hc]
    refine ra 3 7 ⟨[(0, (sSearch a0)), (1, (sType a1)), (6, (Pt 6)), (7, (sField o19)), (8, (sSearch a0)), (9, (I (a0.length : Int))), (10, (I x11)), (50, (V.ptr 6 0 2)), (51, (I o13.2.fField)), (52, (Bo false)), (53, (Bo false)), (54, (V.ptr 6 0 2)), (55, (I o13.2.fField)), (56, (sField o19))], [(6, vS 4 (eSearch o13.2))], 73⟩ rfl rfl rfl ?_
    refine et (reg_pure (x := some ()) (w := fun _ => (I (o19.length : Int))) rfl rfl rfl rfl (p_len (e := eField) rfl rfl rfl rfl rfl rfl underlying43)) ?_
    refine et some_bind ?_
    refine ba 3 11 ⟨[(0, (sSearch a0)), (1, (sType a1)), (6, (Pt 6)), (7, (sField o19)), (8, (sSearch a0)), (9, (I (a0.length : Int))), (10, (I x11)), (50, (V.ptr 6 0 2)), (51, (I o13.2.fField)), (52, (Bo false)), (53, (Bo false)), (54, (V.ptr 6 0 2)), (55, (I o13.2.fField)), (56, (sField o19)), (57, (I (o19.length : Int))), (58, (Bo (decide (o13.2.fField ≥ (o19.length : Int))))), (59, (Bo (decide (o13.2.fField ≥ (o19.length : Int))))), (60, (Bo (decide (o13.2.fField ≥ (o19.length : Int)))))], [(6, vS 4 (eSearch o13.2))], 73⟩ rfl rfl rfl ?_
    refine bifE (c := (decide (o13.2.fField ≥ (o19.length : Int)))) (fun hc => ?_) fun hc => ?_
    · rw [hc]
      exact reg_end rfl
    · rw [hc]
      refine ra 3 14 ⟨[(0, (sSearch a0)), (1, (sType a1)), (6, (Pt 6)), (7, (sField o19)), (8, (sSearch a0)), (9, (I (a0.length : Int))), (10, (I x11)), (50, (V.ptr 6 0 2)), (51, (I o13.2.fField)), (52, (Bo false)), (53, (Bo false)), (54, (V.ptr 6 0 2)), (55, (I o13.2.fField)), (56, (sField o19)), (57, (I (o19.length : Int))), (58, (Bo false)), (59, (Bo false)), (60, (Bo false)), (61, (sField o19)), (62, (V.ptr 6 0 2)), (63, (I o13.2.fField))], [(6, vS 4 (eSearch o13.2))], 73⟩ rfl rfl rfl ?_
      refine et (reg_pure (x := (idx o19 o13.2.fField)) (w := fun v20 => (Pr (eField v20))) rfl rfl rfl rfl (p_index (e := eField) rfl rfl rfl underlying43 rfl (by decide))) ?_
      refine bindE (fun v20 => ?_)
      exact bind_end rfl
theorem f103r8 (k : Nat) (a0 : (List T_api_Search)) (a1 : (List T_api_Type)) (x11 : Int) : RE k f103a8 f103o8 false ⟨[(0, (sSearch a0)), (1, (sType a1)), (8, (sSearch a0)), (9, (I (a0.length : Int))), (10, (I x11)), (68, (Bo true))], [], 73⟩ = some ⟨[(4, (Bo false))], [], 73⟩ :=
  rE rfl
theorem f103r9 (k : Nat) (a0 : (List T_api_Search)) (a1 : (List T_api_Type)) (x11 : Int) : RE k f103a9 f103o9 false ⟨[(0, (sSearch a0)), (1, (sType a1)), (8, (sSearch a0)), (9, (I (a0.length : Int))), (10, (I x11)), (68, (Bo false))], [], 73⟩ = some ⟨[(0, (sSearch a0)), (1, (sType a1)), (8, (sSearch a0)), (9, (I (a0.length : Int))), (10, (I (Go.IntKind.wrap .i64 (x11 + 1))))], [], 73⟩ :=
  rE rfl
theorem dbd_areIndexes_L1_ok (k : Nat) (a0 : (List T_api_Search)) (a1 : (List T_api_Type))  (K0 : Int → Option Bool) (Kst : X × St → Option (V × List V)) (hK0 : ∀ (y0 : Int), Kst (X.exit 0, ⟨[(0, (sSearch a0)), (1, (sType a1)), (8, (sSearch a0)), (9, (I (a0.length : Int))), (10, (I y0)), (11, (Bo false))], [], 73⟩) = (K0 y0).map dbd_areIndexes_fin) (hret : ∀ s, Kst (X.ret, s) = endK prog 73 [(sSearch a0), (sType a1)] [] [.tmp 4] (X.ret, s)) :
    ∀ (m : Nat) (x11 : Int), (iter (exec prog (EV k) f103n k f103b0) m ⟨[(0, (sSearch a0)), (1, (sType a1)), (8, (sSearch a0)), (9, (I (a0.length : Int))), (10, (I x11))], [], 73⟩).bind Kst = (dbd_areIndexes_L1 k a0 a1 K0 m x11).map dbd_areIndexes_fin := by
  intro m
  induction m with
  | zero => intros; rfl
  | succ m ih =>
    intro x11
    unfold dbd_areIndexes_L1
    refine et k_round ?_
    refine et (k_region0 rfl (f103r2 k a0 a1 x11)) ?_
    refine et (k_cond (t := (decide (x11 < (a0.length : Int)))) rfl rfl) ?_
    refine bifE2 (fun hc => ?_) fun hc => ?_
    · rw [hc]
      refine et k_skip ?_
      refine et (k_block rfl) ?_
      refine et (k_region rfl (f103r3 k a0 a1 x11)) ?_
      refine bindE (fun o13 => ?_)
      refine et k_assoc ?_
      refine et (k_region rfl (f103r4 k a0 a1 x11 o13)) ?_
      refine bindE (fun o17 => ?_)
      refine et (k_cond (t := o17) rfl rfl) ?_
      refine bifE2 (fun hc => ?_) fun hc => ?_
      · rw [hc]
        refine et k_assoc ?_
        refine et (k_region0 rfl (f103r5 k a0 a1 x11 o13)) ?_
        refine et k_ret ?_
        refine et blk_ret ?_
        refine et loop_ret ?_
        refine et (hret _) ?_
        rfl
      · rw [hc]
        refine et k_skip ?_
        refine et (k_region rfl (f103r6 k a0 a1 x11 o13)) ?_
        refine bindE (fun o19 => ?_)
        refine et (k_region rfl (f103r7 k a0 a1 x11 o13 o19)) ?_
        refine bindE (fun o21 => ?_)
        refine et (k_lcond (t := o21) rfl rfl) ?_
        refine bifE2 (fun hc => ?_) fun hc => ?_
        · rw [hc]
          refine et (k_region0 rfl (f103r8 k a0 a1 x11)) ?_
          refine et k_lret ?_
          refine et blk_ret ?_
          refine et loop_ret ?_
          refine et (hret _) ?_
          rfl
        · rw [hc]
          refine et k_lskip ?_
          refine et blk_normal ?_
          refine et (k_lregion0 rfl (f103r9 k a0 a1 x11)) ?_
          refine et loop_normal ?_
          exact ih (Go.IntKind.wrap .i64 (x11 + 1))
    · rw [hc]
      refine et k_exit ?_
      refine et loop_exit ?_
      exact hK0 x11
theorem f103r10 (k : Nat) (a0 : (List T_api_Search)) (a1 : (List T_api_Type)) (y22 : Int) : RE k f103a10 f103o10 false ⟨[(0, (sSearch a0)), (1, (sType a1)), (8, (sSearch a0)), (9, (I (a0.length : Int))), (10, (I y22)), (11, (Bo false))], [], 73⟩ = some ⟨[(4, (Bo (decide ((a0.length : Int) ≤ 3))))], [], 73⟩ := by
  refine rg ?_
  refine ra 1 1 ⟨[(0, (sSearch a0)), (1, (sType a1)), (8, (sSearch a0)), (9, (I (a0.length : Int))), (10, (I y22)), (11, (Bo false)), (70, (sSearch a0))], [], 73⟩ rfl rfl rfl ?_
  refine et (reg_pure (x := some ()) (w := fun _ => (I (a0.length : Int))) rfl rfl rfl rfl (p_len (e := eSearch) rfl rfl rfl rfl rfl rfl underlying23)) ?_
  refine et some_bind ?_
  exact bind_end rfl
theorem dbd_areIndexes_ok (k : Nat) (a0 : (List T_api_Search)) (a1 : (List T_api_Type)) : EV k 103 [(sSearch a0), (sType a1)] = (dbd_areIndexes k a0 a1).map dbd_areIndexes_fin := by
  cases k with
  | zero => rfl
  | succ k =>
    unfold dbd_areIndexes
    refine et (evF_succ (c := f103c) (N := 73) (regs := f103n) rfl func103 rfl (by decide) rfl rfl rfl) ?_
    refine et (k_region0 rfl (f103r0 k a0 a1)) ?_
    refine et k_assoc ?_
    refine et (k_region0 rfl (f103r1 k a0 a1)) ?_
    refine et (k_block rfl) ?_
    refine et k_loop ?_
    refine dbd_areIndexes_L1_ok k a0 a1 _ _ ?h_dbd_areIndexes_L1_0 ?hr_dbd_areIndexes_L1 k 0
    · intro y22
      refine et blk_exit ?_
      refine et (k_region0 rfl (f103r10 k a0 a1 y22)) ?_
      refine et k_lret ?_
      rfl
    · intro s; exact rfl
def dbd_Valid_fin : Bool → V × List V := fun r => ((Bo r), [])
theorem f90r0 (k : Nat) (a0 : T_api_Base) : RE k f90a0 f90o0 false ⟨[(0, (eBase a0))], [], 28⟩ = some ⟨[(1, (Pt 1))], [(1, vS 4 (eBase a0))], 28⟩ :=
  rE rfl
theorem f90r1 (k : Nat) (a0 : T_api_Base) : RE k f90a1 f90o1 false ⟨[(1, (Pt 1))], [(1, vS 4 (eBase a0))], 28⟩ = (((dbd_IsName k a0.fName).bind fun v1 => (bif v1 then (bif (decide (a0.fKind ≥ 1)) then (bif (decide (a0.fKind ≤ 4)) then ((dbd_areTypes k a0.fTypes).bind fun v2 => (bif v2 then (dbd_areIndexes k a0.fIndexes a0.fTypes) else (some (false)))) else (some (false))) else (some (false))) else (some (false))))).map (fun (o : Bool) => (⟨[(2, (Bo o))], [], 28⟩ : St)) := by
  refine rg ?_
  refine ra 2 2 ⟨[(1, (Pt 1)), (3, (Pt 1)), (4, (Sr a0.fName))], [(1, vS 4 (eBase a0))], 28⟩ rfl rfl rfl ?_
  refine et (reg_pure (x := (dbd_IsName k a0.fName)) (w := fun v1 => (Bo v1)) rfl rfl rfl rfl (p_call rfl rfl rfl rfl rfl (dbd_IsName_ok k a0.fName) (.inl rfl))) ?_
  refine bindE (fun v1 => ?_)
  refine ba 1 4 ⟨[(1, (Pt 1)), (3, (Pt 1)), (4, (Sr a0.fName)), (5, (Bo v1)), (6, (Bo v1))], [(1, vS 4 (eBase a0))], 28⟩ rfl rfl rfl ?_
  refine bifE (c := v1) (fun hc => ?_) fun hc => ?_
  · rw [hc]
    refine ra 5 9 ⟨[(1, (Pt 1)), (3, (Pt 1)), (4, (Sr a0.fName)), (5, (Bo true)), (6, (Bo true)), (7, (V.ptr 1 0 1)), (8, (I a0.fKind)), (9, (Bo (decide (a0.fKind ≥ 1)))), (10, (Bo (decide (a0.fKind ≥ 1)))), (11, (Bo (decide (a0.fKind ≥ 1))))], [(1, vS 4 (eBase a0))], 28⟩ rfl rfl rfl ?_
    refine bifE (c := (decide (a0.fKind ≥ 1))) (fun hc => ?_) fun hc => ?_
    · rw [hc]
      refine ra 5 14 ⟨[(1, (Pt 1)), (3, (Pt 1)), (4, (Sr a0.fName)), (5, (Bo true)), (6, (Bo true)), (7, (V.ptr 1 0 1)), (8, (I a0.fKind)), (9, (Bo true)), (10, (Bo true)), (11, (Bo true)), (12, (V.ptr 1 0 1)), (13, (I a0.fKind)), (14, (Bo (decide (a0.fKind ≤ 4)))), (15, (Bo (decide (a0.fKind ≤ 4)))), (16, (Bo (decide (a0.fKind ≤ 4))))], [(1, vS 4 (eBase a0))], 28⟩ rfl rfl rfl ?_
      refine bifE (c := (decide (a0.fKind ≤ 4))) (fun hc => ?_) fun hc => ?_
      · rw [hc]
        refine ra 2 16 ⟨[(1, (Pt 1)), (3, (Pt 1)), (4, (Sr a0.fName)), (5, (Bo true)), (6, (Bo true)), (7, (V.ptr 1 0 1)), (8, (I a0.fKind)), (9, (Bo true)), (10, (Bo true)), (11, (Bo true)), (12, (V.ptr 1 0 1)), (13, (I a0.fKind)), (14, (Bo true)), (15, (Bo true)), (16, (Bo true)), (17, (V.ptr 1 0 2)), (18, (sType a0.fTypes))], [(1, vS 4 (eBase a0))], 28⟩ rfl rfl rfl ?_
        refine et (reg_pure (x := (dbd_areTypes k a0.fTypes)) (w := fun v2 => (Bo v2)) rfl rfl rfl rfl (p_call rfl rfl rfl rfl rfl (dbd_areTypes_ok k a0.fTypes) (.inl rfl))) ?_
        refine bindE (fun v2 => ?_)
        refine ba 2 19 ⟨[(1, (Pt 1)), (3, (Pt 1)), (4, (Sr a0.fName)), (5, (Bo true)), (6, (Bo true)), (7, (V.ptr 1 0 1)), (8, (I a0.fKind)), (9, (Bo true)), (10, (Bo true)), (11, (Bo true)), (12, (V.ptr 1 0 1)), (13, (I a0.fKind)), (14, (Bo true)), (15, (Bo true)), (16, (Bo true)), (17, (V.ptr 1 0 2)), (18, (sType a0.fTypes)), (19, (Bo v2)), (20, (Bo v2)), (21, (Bo v2))], [(1, vS 4 (eBase a0))], 28⟩ rfl rfl rfl ?_
        refine bifE (c := v2) (fun hc => ?_) fun hc => ?_
        · rw [hc]
          refine ra 4 23 ⟨[(1, (Pt 1)), (3, (Pt 1)), (4, (Sr a0.fName)), (5, (Bo true)), (6, (Bo true)), (7, (V.ptr 1 0 1)), (8, (I a0.fKind)), (9, (Bo true)), (10, (Bo true)), (11, (Bo true)), (12, (V.ptr 1 0 1)), (13, (I a0.fKind)), (14, (Bo true)), (15, (Bo true)), (16, (Bo true)), (17, (V.ptr 1 0 2)), (18, (sType a0.fTypes)), (19, (Bo true)), (20, (Bo true)), (21, (Bo true)), (22, (V.ptr 1 0 3)), (23, (sSearch a0.fIndexes)), (24, (V.ptr 1 0 2)), (25, (sType a0.fTypes))], [(1, vS 4 (eBase a0))], 28⟩ rfl rfl rfl ?_
          refine et (reg_pure (x := (dbd_areIndexes k a0.fIndexes a0.fTypes)) (w := fun v3 => (Bo v3)) rfl rfl rfl rfl (p_call rfl rfl rfl rfl rfl (dbd_areIndexes_ok k a0.fIndexes a0.fTypes) (.inl rfl))) ?_
          refine bind_self (fun v3 => ?_)
          exact bind_end rfl
        · rw [hc]
          exact reg_end rfl
      · rw [hc]
        exact reg_end rfl
    · rw [hc]
      exact reg_end rfl
  · rw [hc]
    exact reg_end rfl
theorem dbd_Valid_ok (k : Nat) (a0 : T_api_Base) : EV k 90 [(eBase a0)] = (dbd_Valid k a0).map dbd_Valid_fin := by
  cases k with
  | zero => rfl
  | succ k =>
    unfold dbd_Valid
    refine et (evF_succ (c := f90c) (N := 28) (regs := f90n) rfl func90 rfl (by decide) rfl rfl rfl) ?_
    refine et (k_region0 rfl (f90r0 k a0)) ?_
    refine et (k_region rfl (f90r1 k a0)) ?_
    refine bindE (fun o4 => ?_)
    refine et k_lret ?_
    rfl
def slices_IndexFunc_int_fin : Int → V × List V := fun r => ((I r), [])
theorem f104r0 (k : Nat) (a0 : (List Int)) (a1 : Nat → Int → Option Bool) (a1_fid : Go.FuncId) (a1_c0 : V) (a1_hok : ∀ j x0, EV j a1_fid [(I x0), V.pro a1_c0] = (a1 j x0).map fun b => ((Bo b), [])) : RE k f104a0 f104o0 false ⟨[(0, (sI a0)), (1, (V.fn a1_fid [] [V.pro a1_c0]))], [], 19⟩ = some ⟨[(0, (sI a0)), (1, (V.fn a1_fid [] [V.pro a1_c0]))], [], 19⟩ :=
  rE rfl
theorem f104r1 (k : Nat) (a0 : (List Int)) (a1 : Nat → Int → Option Bool) (a1_fid : Go.FuncId) (a1_c0 : V) (a1_hok : ∀ j x0, EV j a1_fid [(I x0), V.pro a1_c0] = (a1 j x0).map fun b => ((Bo b), [])) : RE k f104a1 f104o1 false ⟨[(0, (sI a0)), (1, (V.fn a1_fid [] [V.pro a1_c0]))], [], 19⟩ = some ⟨[(0, (sI a0)), (1, (V.fn a1_fid [] [V.pro a1_c0])), (7, (I (a0.length : Int))), (8, (I 0))], [], 19⟩ := by
  refine rg ?_
  refine ra 1 1 ⟨[(0, (sI a0)), (1, (V.fn a1_fid [] [V.pro a1_c0])), (6, (sI a0))], [], 19⟩ rfl rfl rfl ?_
  refine et (reg_pure (x := some ()) (w := fun _ => (I (a0.length : Int))) rfl rfl rfl rfl (p_len (e := I) rfl rfl rfl rfl rfl rfl underlying87)) ?_
  refine et some_bind ?_
  exact bind_end rfl
theorem f104r2 (k : Nat) (a0 : (List Int)) (x4 : Int) (a1 : Nat → Int → Option Bool) (a1_fid : Go.FuncId) (a1_c0 : V) (a1_hok : ∀ j x0, EV j a1_fid [(I x0), V.pro a1_c0] = (a1 j x0).map fun b => ((Bo b), [])) : RE k f104a2 f104o2 false ⟨[(0, (sI a0)), (1, (V.fn a1_fid [] [V.pro a1_c0])), (7, (I (a0.length : Int))), (8, (I x4))], [], 19⟩ = some ⟨[(0, (sI a0)), (1, (V.fn a1_fid [] [V.pro a1_c0])), (7, (I (a0.length : Int))), (8, (I x4)), (9, (Bo (decide (x4 < (a0.length : Int)))))], [], 19⟩ :=
  rE rfl
theorem f104r3 (k : Nat) (a0 : (List Int)) (x4 : Int) (a1 : Nat → Int → Option Bool) (a1_fid : Go.FuncId) (a1_c0 : V) (a1_hok : ∀ j x0, EV j a1_fid [(I x0), V.pro a1_c0] = (a1 j x0).map fun b => ((Bo b), [])) : RE k f104a3 f104o3 false ⟨[(0, (sI a0)), (1, (V.fn a1_fid [] [V.pro a1_c0])), (7, (I (a0.length : Int))), (8, (I x4)), (9, (Bo true))], [], 19⟩ = some ⟨[(0, (sI a0)), (1, (V.fn a1_fid [] [V.pro a1_c0])), (5, (I x4)), (7, (I (a0.length : Int))), (8, (I x4))], [], 19⟩ :=
  rE rfl
theorem f104r4 (k : Nat) (a0 : (List Int)) (x4 : Int) (a1 : Nat → Int → Option Bool) (a1_fid : Go.FuncId) (a1_c0 : V) (a1_hok : ∀ j x0, EV j a1_fid [(I x0), V.pro a1_c0] = (a1 j x0).map fun b => ((Bo b), [])) : RE k f104a4 f104o4 false ⟨[(0, (sI a0)), (1, (V.fn a1_fid [] [V.pro a1_c0])), (5, (I x4)), (7, (I (a0.length : Int))), (8, (I x4))], [], 19⟩ = (((idx a0 x4).bind fun v5 => (a1 k v5))).map (fun (o : Bool) => (⟨[(0, (sI a0)), (1, (V.fn a1_fid [] [V.pro a1_c0])), (5, (I x4)), (7, (I (a0.length : Int))), (8, (I x4)), (16, (Bo o))], [], 19⟩ : St)) := by
  refine rg ?_
  refine ra 3 3 ⟨[(0, (sI a0)), (1, (V.fn a1_fid [] [V.pro a1_c0])), (5, (I x4)), (7, (I (a0.length : Int))), (8, (I x4)), (11, (V.fn a1_fid [] [V.pro a1_c0])), (12, (sI a0)), (13, (I x4))], [], 19⟩ rfl rfl rfl ?_
  refine et (reg_pure (x := (idx a0 x4)) (w := fun v5 => (Pr (I v5))) rfl rfl rfl rfl (p_index (e := I) rfl rfl rfl underlying87 rfl (by decide))) ?_
  refine bindE (fun v5 => ?_)
  refine ba 1 5 ⟨[(0, (sI a0)), (1, (V.fn a1_fid [] [V.pro a1_c0])), (5, (I x4)), (7, (I (a0.length : Int))), (8, (I x4)), (11, (V.fn a1_fid [] [V.pro a1_c0])), (12, (sI a0)), (13, (I x4)), (14, (Pr (I v5))), (15, (I v5))], [], 19⟩ rfl rfl rfl ?_
  refine et (reg_pure (x := (a1 k v5)) (w := fun v6 => (Bo v6)) rfl rfl rfl rfl (p_call rfl rfl rfl rfl rfl (a1_hok k v5) (.inl rfl))) ?_
  refine bind_self (fun v6 => ?_)
  exact bind_end rfl
theorem f104r5 (k : Nat) (a0 : (List Int)) (x4 : Int) (a1 : Nat → Int → Option Bool) (a1_fid : Go.FuncId) (a1_c0 : V) (a1_hok : ∀ j x0, EV j a1_fid [(I x0), V.pro a1_c0] = (a1 j x0).map fun b => ((Bo b), [])) : RE k f104a5 f104o5 false ⟨[(0, (sI a0)), (1, (V.fn a1_fid [] [V.pro a1_c0])), (5, (I x4)), (7, (I (a0.length : Int))), (8, (I x4)), (16, (Bo true))], [], 19⟩ = some ⟨[(4, (I x4))], [], 19⟩ :=
  rE rfl
theorem f104r6 (k : Nat) (a0 : (List Int)) (x4 : Int) (a1 : Nat → Int → Option Bool) (a1_fid : Go.FuncId) (a1_c0 : V) (a1_hok : ∀ j x0, EV j a1_fid [(I x0), V.pro a1_c0] = (a1 j x0).map fun b => ((Bo b), [])) : RE k f104a6 f104o6 false ⟨[(0, (sI a0)), (1, (V.fn a1_fid [] [V.pro a1_c0])), (5, (I x4)), (7, (I (a0.length : Int))), (8, (I x4)), (16, (Bo false))], [], 19⟩ = some ⟨[(0, (sI a0)), (1, (V.fn a1_fid [] [V.pro a1_c0])), (7, (I (a0.length : Int))), (8, (I (Go.IntKind.wrap .i64 (x4 + 1))))], [], 19⟩ :=
  rE rfl
theorem slices_IndexFunc_int_L1_ok (k : Nat) (a0 : (List Int)) (a1 : Nat → Int → Option Bool) (a1_fid : Go.FuncId) (a1_c0 : V) (a1_hok : ∀ j x0, EV j a1_fid [(I x0), V.pro a1_c0] = (a1 j x0).map fun b => ((Bo b), [])) (K0 : Int → Option Int) (Kst : X × St → Option (V × List V)) (hK0 : ∀ (y0 : Int), Kst (X.exit 0, ⟨[(0, (sI a0)), (1, (V.fn a1_fid [] [V.pro a1_c0])), (7, (I (a0.length : Int))), (8, (I y0)), (9, (Bo false))], [], 19⟩) = (K0 y0).map slices_IndexFunc_int_fin) (hret : ∀ s, Kst (X.ret, s) = endK prog 19 [(sI a0), (V.fn a1_fid [] [V.pro a1_c0])] [] [.tmp 4] (X.ret, s)) :
    ∀ (m : Nat) (x4 : Int), (iter (exec prog (EV k) f104n k f104b0) m ⟨[(0, (sI a0)), (1, (V.fn a1_fid [] [V.pro a1_c0])), (7, (I (a0.length : Int))), (8, (I x4))], [], 19⟩).bind Kst = (slices_IndexFunc_int_L1 k a0 a1 K0 m x4).map slices_IndexFunc_int_fin := by
  intro m
  induction m with
  | zero => intros; rfl
  | succ m ih =>
    intro x4
    unfold slices_IndexFunc_int_L1
    refine et k_round ?_
    refine et (k_region0 rfl (f104r2 k a0 x4 a1 a1_fid a1_c0 a1_hok)) ?_
    refine et (k_cond (t := (decide (x4 < (a0.length : Int)))) rfl rfl) ?_
    refine bifE2 (fun hc => ?_) fun hc => ?_
    · rw [hc]
      refine et k_skip ?_
      refine et (k_block rfl) ?_
      refine et (k_region0 rfl (f104r3 k a0 x4 a1 a1_fid a1_c0 a1_hok)) ?_
      refine et (k_region rfl (f104r4 k a0 x4 a1 a1_fid a1_c0 a1_hok)) ?_
      refine bindE (fun o7 => ?_)
      refine et (k_lcond (t := o7) rfl rfl) ?_
      refine bifE2 (fun hc => ?_) fun hc => ?_
      · rw [hc]
        refine et (k_region0 rfl (f104r5 k a0 x4 a1 a1_fid a1_c0 a1_hok)) ?_
        refine et k_lret ?_
        refine et blk_ret ?_
        refine et loop_ret ?_
        refine et (hret _) ?_
        rfl
      · rw [hc]
        refine et k_lskip ?_
        refine et blk_normal ?_
        refine et (k_lregion0 rfl (f104r6 k a0 x4 a1 a1_fid a1_c0 a1_hok)) ?_
        refine et loop_normal ?_
        exact ih (Go.IntKind.wrap .i64 (x4 + 1))
    · rw [hc]
      refine et k_exit ?_
      refine et loop_exit ?_
      exact hK0 x4
theorem f104r7 (k : Nat) (a0 : (List Int)) (y8 : Int) (a1 : Nat → Int → Option Bool) (a1_fid : Go.FuncId) (a1_c0 : V) (a1_hok : ∀ j x0, EV j a1_fid [(I x0), V.pro a1_c0] = (a1 j x0).map fun b => ((Bo b), [])) : RE k f104a7 f104o7 false ⟨[(0, (sI a0)), (1, (V.fn a1_fid [] [V.pro a1_c0])), (7, (I (a0.length : Int))), (8, (I y8)), (9, (Bo false))], [], 19⟩ = some ⟨[(4, (I (-1)))], [], 19⟩ :=
  rE rfl
theorem slices_IndexFunc_int_ok (k : Nat) (a0 : (List Int)) (a1 : Nat → Int → Option Bool) (a1_fid : Go.FuncId) (a1_c0 : V) (a1_hok : ∀ j x0, EV j a1_fid [(I x0), V.pro a1_c0] = (a1 j x0).map fun b => ((Bo b), [])) : EV k 104 [(sI a0), (V.fn a1_fid [] [V.pro a1_c0])] = (slices_IndexFunc_int k a0 a1).map slices_IndexFunc_int_fin := by
  cases k with
  | zero => rfl
  | succ k =>
    unfold slices_IndexFunc_int
    refine et (evF_succ (c := f104c) (N := 19) (regs := f104n) rfl func104 rfl (by decide) rfl rfl rfl) ?_
    refine et (k_region0 rfl (f104r0 k a0 a1 a1_fid a1_c0 a1_hok)) ?_
    refine et k_assoc ?_
    refine et (k_region0 rfl (f104r1 k a0 a1 a1_fid a1_c0 a1_hok)) ?_
    refine et (k_block rfl) ?_
    refine et k_loop ?_
    refine slices_IndexFunc_int_L1_ok k a0 a1 a1_fid a1_c0 a1_hok _ _ ?h_slices_IndexFunc_int_L1_0 ?hr_slices_IndexFunc_int_L1 k 0
    · intro y8
      refine et blk_exit ?_
      refine et (k_region0 rfl (f104r7 k a0 y8 a1 a1_fid a1_c0 a1_hok)) ?_
      refine et k_lret ?_
      rfl
    · intro s; exact rfl
def slices_ContainsFunc_int_fin : Bool → V × List V := fun r => ((Bo r), [])
theorem f91r0 (k : Nat) (a0 : (List Int)) (a1 : Nat → Int → Option Bool) (a1_fid : Go.FuncId) (a1_c0 : V) (a1_hok : ∀ j x0, EV j a1_fid [(I x0), V.pro a1_c0] = (a1 j x0).map fun b => ((Bo b), [])) : RE k f91a0 f91o0 false ⟨[(0, (sI a0)), (1, (V.fn a1_fid [] [V.pro a1_c0]))], [], 9⟩ = some ⟨[(0, (sI a0)), (1, (V.fn a1_fid [] [V.pro a1_c0]))], [], 9⟩ :=
  rE rfl
theorem f91r1 (k : Nat) (a0 : (List Int)) (a1 : Nat → Int → Option Bool) (a1_fid : Go.FuncId) (a1_c0 : V) (a1_hok : ∀ j x0, EV j a1_fid [(I x0), V.pro a1_c0] = (a1 j x0).map fun b => ((Bo b), [])) : RE k f91a1 f91o1 false ⟨[(0, (sI a0)), (1, (V.fn a1_fid [] [V.pro a1_c0]))], [], 9⟩ = (((slices_IndexFunc_int k a0 a1).bind fun v1 => (some ((decide (v1 ≥ 0)))))).map (fun (o : Bool) => (⟨[(4, (Bo o))], [], 9⟩ : St)) := by
  refine rg ?_
  refine ra 2 2 ⟨[(0, (sI a0)), (1, (V.fn a1_fid [] [V.pro a1_c0])), (5, (sI a0)), (6, (V.fn a1_fid [] [V.pro a1_c0]))], [], 9⟩ rfl rfl rfl ?_
  refine et (reg_pure (x := (slices_IndexFunc_int k a0 a1)) (w := fun v1 => (I v1)) rfl rfl rfl rfl (p_call rfl rfl rfl rfl rfl (slices_IndexFunc_int_ok k a0 a1 a1_fid a1_c0 a1_hok) (.inl rfl))) ?_
  refine bindE (fun v1 => ?_)
  exact bind_end rfl
theorem slices_ContainsFunc_int_ok (k : Nat) (a0 : (List Int)) (a1 : Nat → Int → Option Bool) (a1_fid : Go.FuncId) (a1_c0 : V) (a1_hok : ∀ j x0, EV j a1_fid [(I x0), V.pro a1_c0] = (a1 j x0).map fun b => ((Bo b), [])) : EV k 91 [(sI a0), (V.fn a1_fid [] [V.pro a1_c0])] = (slices_ContainsFunc_int k a0 a1).map slices_ContainsFunc_int_fin := by
  cases k with
  | zero => rfl
  | succ k =>
    unfold slices_ContainsFunc_int
    refine et (evF_succ (c := f91c) (N := 9) (regs := f91n) rfl func91 rfl (by decide) rfl rfl rfl) ?_
    refine et (k_region0 rfl (f91r0 k a0 a1 a1_fid a1_c0 a1_hok)) ?_
    refine et (k_region rfl (f91r1 k a0 a1 a1_fid a1_c0 a1_hok)) ?_
    refine bindE (fun o2 => ?_)
    refine et k_lret ?_
    rfl
def dbd_asked_1_fin : Bool → V × List V := fun r => ((Bo r), [])
theorem f92r0 (k : Nat) (a0 : Int) (a1 : T_api_Base) : RE k f92a0 f92o0 false ⟨[(0, (I a0)), (1, (Pr (eBase a1)))], [], 13⟩ = some ⟨[(0, (I a0)), (1, (Pr (eBase a1)))], [], 13⟩ :=
  rE rfl
theorem f92r1 (k : Nat) (a0 : Int) (a1 : T_api_Base) : RE k f92a1 f92o1 false ⟨[(0, (I a0)), (1, (Pr (eBase a1)))], [], 13⟩ = ((bif (decide (a0 < 0)) then (some (true)) else (some ((decide (a0 ≥ (a1.fTypes.length : Int))))))).map (fun (o : Bool) => (⟨[(3, (Bo o))], [], 13⟩ : St)) := by
  refine rg ?_
  refine ra 3 3 ⟨[(0, (I a0)), (1, (Pr (eBase a1))), (4, (I a0)), (5, (Bo (decide (a0 < 0)))), (6, (Bo (decide (a0 < 0))))], [], 13⟩ rfl rfl rfl ?_
  refine bifE (c := (decide (a0 < 0))) (fun hc => ?_) fun hc => ?_
  · rw [hc]
    exact reg_end rfl
  · rw [hc]
    refine ra 3 6 ⟨[(0, (I a0)), (1, (Pr (eBase a1))), (4, (I a0)), (5, (Bo false)), (6, (Bo false)), (7, (I a0)), (8, (Pr (sType a1.fTypes))), (9, (sType a1.fTypes))], [], 13⟩ rfl rfl rfl ?_
    refine et (reg_pure (x := some ()) (w := fun _ => (I (a1.fTypes.length : Int))) rfl rfl rfl rfl (p_len (e := eType) rfl rfl rfl rfl rfl rfl underlying22)) ?_
    refine et some_bind ?_
    exact bind_end rfl
theorem dbd_asked_1_ok (k : Nat) (a0 : Int) (a1 : T_api_Base) : EV k 92 [(I a0), (Pr (eBase a1))] = (dbd_asked_1 k a0 a1).map dbd_asked_1_fin := by
  cases k with
  | zero => rfl
  | succ k =>
    unfold dbd_asked_1
    refine et (evF_succ (c := f92c) (N := 13) (regs := f92n) rfl func92 rfl (by decide) rfl rfl rfl) ?_
    refine et (k_region0 rfl (f92r0 k a0 a1)) ?_
    refine et (k_region rfl (f92r1 k a0 a1)) ?_
    refine bindE (fun o1 => ?_)
    refine et k_lret ?_
    rfl
def dbd_asked_fin : Int → V × List V := fun r => ((I r), [])
theorem f66r0 (k : Nat) (a0 : T_api_Base) (a1 : (List Int)) : RE k f66a0 f66o0 false ⟨[(0, (eBase a0)), (1, (sI a1))], [], 13⟩ = some ⟨[(1, (sI a1)), (2, (Pt 2))], [(2, vS 4 (eBase a0))], 13⟩ :=
  rE rfl
theorem f66r1 (k : Nat) (a0 : T_api_Base) (a1 : (List Int)) : RE k f66a1 f66o1 false ⟨[(1, (sI a1)), (2, (Pt 2))], [(2, vS 4 (eBase a0))], 13⟩ = (((dbd_Valid k a0).bind fun v1 => (some ((!v1))))).map (fun (o : Bool) => (⟨[(1, (sI a1)), (2, (Pt 2)), (5, (Bo o))], [(2, vS 4 (eBase a0))], 13⟩ : St)) := by
  refine rg ?_
  refine ra 1 1 ⟨[(1, (sI a1)), (2, (Pt 2)), (6, (eBase a0))], [(2, vS 4 (eBase a0))], 13⟩ rfl rfl rfl ?_
  refine et (reg_pure (x := (dbd_Valid k a0)) (w := fun v1 => (Bo v1)) rfl rfl rfl rfl (p_call rfl rfl rfl rfl rfl (dbd_Valid_ok k a0) (.inl rfl))) ?_
  refine bindE (fun v1 => ?_)
  exact bind_end rfl
theorem f66r2 (k : Nat) (a0 : T_api_Base) (a1 : (List Int)) : RE k f66a2 f66o2 false ⟨[(1, (sI a1)), (2, (Pt 2)), (5, (Bo true))], [(2, vS 4 (eBase a0))], 13⟩ = some ⟨[(4, (I 100))], [], 13⟩ :=
  rE rfl
theorem f66r3 (k : Nat) (a0 : T_api_Base) (a1 : (List Int)) : RE k f66a3 f66o3 false ⟨[(1, (sI a1)), (2, (Pt 2)), (5, (Bo false))], [(2, vS 4 (eBase a0))], 13⟩ = ((slices_ContainsFunc_int k a1 (fun j x0 => (dbd_asked_1 j x0 a0)))).map (fun (o : Bool) => (⟨[(9, (Bo o))], [], 13⟩ : St)) := by
  refine rg ?_
  refine ra 2 2 ⟨[(1, (sI a1)), (2, (Pt 2)), (5, (Bo false)), (10, (sI a1)), (11, (V.fn 92 [] [(Pt 2)]))], [(2, vS 4 (eBase a0))], 13⟩ rfl rfl rfl ?_
  refine et (reg_pure (x := (slices_ContainsFunc_int k a1 (fun j x0 => (dbd_asked_1 j x0 a0)))) (w := fun v3 => (Bo v3)) rfl rfl rfl rfl (p_call rfl rfl rfl rfl rfl (slices_ContainsFunc_int_ok k a1 (fun j x0 => (dbd_asked_1 j x0 a0)) 92 (eBase a0) (fun j x0 => (dbd_asked_1_ok j x0 a0))) (.inr (fun _ => rfl)))) ?_
  refine bind_self (fun v3 => ?_)
  exact bind_end rfl
theorem f66r4 (k : Nat)  : RE k f66a4 f66o4 false ⟨[(9, (Bo true))], [], 13⟩ = some ⟨[(4, (I 2))], [], 13⟩ :=
  rE rfl
theorem f66r5 (k : Nat)  : RE k f66a5 f66o5 false ⟨[(9, (Bo false))], [], 13⟩ = some ⟨[(4, (I 0))], [], 13⟩ :=
  rE rfl
theorem dbd_asked_ok (k : Nat) (a0 : T_api_Base) (a1 : (List Int)) : EV k 66 [(eBase a0), (sI a1)] = (dbd_asked k a0 a1).map dbd_asked_fin := by
  cases k with
  | zero => rfl
  | succ k =>
    unfold dbd_asked
    refine et (evF_succ (c := f66c) (N := 13) (regs := f66n) rfl func66 rfl (by decide) rfl rfl rfl) ?_
    refine et (k_region0 rfl (f66r0 k a0 a1)) ?_
    refine et (k_block rfl) ?_
    refine et (k_region rfl (f66r1 k a0 a1)) ?_
    refine bindE (fun o2 => ?_)
    refine et (k_lcond (t := o2) rfl rfl) ?_
    refine bifE2 (fun hc => ?_) fun hc => ?_
    · rw [hc]
      refine et (k_region0 rfl (f66r2 k a0 a1)) ?_
      refine et k_lret ?_
      refine et blk_ret ?_
      rfl
    · rw [hc]
      refine et (k_region rfl (f66r3 k a0 a1)) ?_
      refine bindE (fun o4 => ?_)
      refine et (k_lcond (t := o4) rfl rfl) ?_
      refine bifE2 (fun hc => ?_) fun hc => ?_
      · rw [hc]
        refine et (k_region0 rfl (f66r4 k)) ?_
        refine et k_lret ?_
        refine et blk_ret ?_
        rfl
      · rw [hc]
        refine et k_lskip ?_
        refine et blk_normal ?_
        refine et (k_region0 rfl (f66r5 k)) ?_
        refine et k_lret ?_
        rfl
def slices_Reverse_int_fin : List Int → V × List V := fun r => (.tup [], [.sl 2 1 (List.map I r)])
theorem slices_Reverse_int_ok (k : Nat) (l : List Int) : EV k 108 [(V.sl 2 1 (List.map I l))] = (slices_Reverse_int k l).map slices_Reverse_int_fin := by
  cases k with
  | zero => rfl
  | succ k => exact (evF_ext (ext := ext) (f := 108) rfl).trans (extReverseInt_map l)
def dbd_way_fin : (List Int) → V × List V := fun r => ((sI r), [])
theorem f100r0 (k : Nat) (a0 : T_api_Base) (a1 : Int) : RE k f100a0 f100o0 false ⟨[(0, (eBase a0)), (1, (I a1))], [], 21⟩ = some ⟨[(1, (I a1)), (2, (Pt 2))], [(2, vS 4 (eBase a0))], 21⟩ :=
  rE rfl
theorem f100r1 (k : Nat) (a0 : T_api_Base) (a1 : Int) : RE k f100a1 f100o1 false ⟨[(1, (I a1)), (2, (Pt 2))], [(2, vS 4 (eBase a0))], 21⟩ = some ⟨[(1, (I a1)), (2, (Pt 2)), (5, (aL 5 I ([] : List Int)))], [(2, vS 4 (eBase a0)), (5, ⟨true, 1, List.map I ([] : List Int)⟩)], 21⟩ :=
  rE rfl
theorem f100r2 (k : Nat) (a0 : T_api_Base) (x5 : Int) (x6 : (List Int)) : RE k f100a2 f100o2 false ⟨[(1, (I x5)), (2, (Pt 2)), (5, (aL 5 I x6))], [(2, vS 4 (eBase a0)), (5, ⟨true, 1, List.map I x6⟩)], 21⟩ = some ⟨[(1, (I x5)), (2, (Pt 2)), (5, (aL 5 I x6)), (7, (Bo (decide (x5 ≥ 0))))], [(2, vS 4 (eBase a0)), (5, ⟨true, 1, List.map I x6⟩)], 21⟩ :=
  rE rfl
theorem f100r4 (k : Nat) (a0 : T_api_Base) (x5 : Int) (x6 : (List Int)) : RE k f100a4 f100o4 false ⟨[(1, (I x5)), (2, (Pt 2)), (5, (aL 5 I x6)), (7, (Bo true))], [(2, vS 4 (eBase a0)), (5, ⟨true, 1, List.map I x6⟩)], 21⟩ = ((app x6 ([x5] : List Int))).map (fun (o : (List Int)) => (⟨[(1, (I x5)), (2, (Pt 2)), (5, (aL 5 I o))], [(2, vS 4 (eBase a0)), (5, ⟨true, 1, List.map I o⟩)], 21⟩ : St)) := by
  refine rg ?_
  refine ra 3 3 ⟨[(1, (I x5)), (2, (Pt 2)), (5, (aL 5 I x6)), (7, (Bo true)), (14, (aL 5 I x6)), (15, (I x5)), (16, (sI (([x5] : List Int))))], [(2, vS 4 (eBase a0)), (5, ⟨true, 1, List.map I x6⟩)], 21⟩ rfl rfl rfl ?_
  refine et (reg_eff (x := (app x6 ([x5] : List Int))) (w := fun v7 => ((aL 5 I v7), _)) rfl rfl rfl rfl (p_appF (e := I) (l := x6) rfl rfl rfl rfl rfl rfl rfl rfl rfl rfl rfl (of_decide_eq_true rfl))) ?_
  refine bind_self (fun v7 => ?_)
  exact bind_end rfl
theorem f100r3 (k : Nat) (a0 : T_api_Base) (x5 : Int) (o8 : (List Int)) : RE k f100a3 f100o3 false ⟨[(1, (I x5)), (2, (Pt 2)), (5, (aL 5 I o8))], [(2, vS 4 (eBase a0)), (5, ⟨true, 1, List.map I o8⟩)], 21⟩ = (((idx a0.fTypes x5).bind fun v9 => (some (v9.fParent)))).map (fun (o : Int) => (⟨[(1, (I o)), (2, (Pt 2)), (5, (aL 5 I o8))], [(2, vS 4 (eBase a0)), (5, ⟨true, 1, List.map I o8⟩)], 21⟩ : St)) := by
  refine rg ?_
  refine ra 3 3 ⟨[(1, (I x5)), (2, (Pt 2)), (5, (aL 5 I o8)), (8, (V.ptr 2 0 2)), (9, (sType a0.fTypes)), (10, (I x5))], [(2, vS 4 (eBase a0)), (5, ⟨true, 1, List.map I o8⟩)], 21⟩ rfl rfl rfl ?_
  refine et (reg_pure (x := (idx a0.fTypes x5)) (w := fun v9 => (Pr (eType v9))) rfl rfl rfl rfl (p_index (e := eType) rfl rfl rfl underlying22 rfl (by decide))) ?_
  refine bindE (fun v9 => ?_)
  exact bind_end rfl
theorem dbd_way_L1_ok (k : Nat) (a0 : T_api_Base) (a1 : Int)  (K0 : Int → (List Int) → Option (List Int)) (Kst : X × St → Option (V × List V)) (hK0 : ∀ (y0 : Int) (y1 : (List Int)), Kst (X.exit 0, ⟨[(1, (I y0)), (2, (Pt 2)), (5, (aL 5 I y1)), (7, (Bo false))], [(2, vS 4 (eBase a0)), (5, ⟨true, 1, List.map I y1⟩)], 21⟩) = (K0 y0 y1).map dbd_way_fin) (hret : ∀ s, Kst (X.ret, s) = endK prog 21 [(eBase a0), (I a1)] [] [.tmp 4] (X.ret, s)) :
    ∀ (m : Nat) (x5 : Int) (x6 : (List Int)), (iter (exec prog (EV k) f100n k f100b0) m ⟨[(1, (I x5)), (2, (Pt 2)), (5, (aL 5 I x6))], [(2, vS 4 (eBase a0)), (5, ⟨true, 1, List.map I x6⟩)], 21⟩).bind Kst = (dbd_way_L1 a0 K0 m x5 x6).map dbd_way_fin := by
  intro m
  induction m with
  | zero => intros; rfl
  | succ m ih =>
    intro x5 x6
    unfold dbd_way_L1
    refine et k_round ?_
    refine et k_assoc ?_
    refine et (k_region0 rfl (f100r2 k a0 x5 x6)) ?_
    refine et (k_cond (t := (decide (x5 ≥ 0))) rfl rfl) ?_
    refine bifE2 (fun hc => ?_) fun hc => ?_
    · rw [hc]
      refine et k_skip ?_
      refine et (k_block rfl) ?_
      refine et (k_lregion rfl (f100r4 k a0 x5 x6)) ?_
      refine bindE (fun o8 => ?_)
      refine et blk_normal ?_
      refine et (k_lregion rfl (f100r3 k a0 x5 o8)) ?_
      refine bindE (fun o10 => ?_)
      refine et loop_normal ?_
      exact ih o10 o8
    · rw [hc]
      refine et k_exit ?_
      refine et loop_exit ?_
      exact hK0 x5 x6
theorem f100r5 (k : Nat) (a0 : T_api_Base) (y11 : Int) (y12 : (List Int)) : RE k f100a5 f100o5 false ⟨[(1, (I y11)), (2, (Pt 2)), (5, (aL 5 I y12)), (7, (Bo false))], [(2, vS 4 (eBase a0)), (5, ⟨true, 1, List.map I y12⟩)], 21⟩ = (((slices_Reverse_int k y12).bind (sameLen y12))).map (fun (o : (List Int)) => (⟨[(5, (aL 5 I o))], [(5, ⟨true, 1, List.map I o⟩)], 21⟩ : St)) := by
  refine rg ?_
  refine ra 1 1 ⟨[(1, (I y11)), (2, (Pt 2)), (5, (aL 5 I y12)), (7, (Bo false)), (18, (aL 5 I y12))], [(2, vS 4 (eBase a0)), (5, ⟨true, 1, List.map I y12⟩)], 21⟩ rfl rfl rfl ?_
  refine et (reg_eff (x := ((slices_Reverse_int k y12).bind (sameLen y12))) (w := fun v13 => (V.tup [], _)) rfl rfl rfl rfl (p_callL (S := (fun n_ => ⟨[(1, (I y11)), (2, (Pt 2)), (5, (V.aref 5 0 n_)), (7, (Bo false)), (18, (V.aref 5 0 n_))], [(2, vS 4 (eBase a0)), (5, ⟨true, 1, List.map I y12⟩)], 21⟩)) (e := I) rfl rfl rfl rfl rfl (argsA1 (e := I) rfl) rfl (slices_Reverse_int_ok k y12))) ?_
  refine bind_self (fun v13 => ?_)
  exact bind_end rfl
theorem f100r6 (k : Nat) (o14 : (List Int)) : RE k f100a6 f100o6 false ⟨[(5, (aL 5 I o14))], [(5, ⟨true, 1, List.map I o14⟩)], 21⟩ = some ⟨[(4, (sI o14))], [], 21⟩ := by
  refine rg ?_
  refine ra 1 1 ⟨[(5, (aL 5 I o14)), (20, (aL 5 I o14))], [(5, ⟨true, 1, List.map I o14⟩)], 21⟩ rfl rfl rfl ?_
  refine et (reg_eff (x := some ()) (w := fun _ => ((V.sl 2 1 (List.map I o14)), _)) rfl rfl rfl rfl (p_close (e := I) rfl rfl rfl rfl rfl (of_decide_eq_true rfl))) ?_
  refine et some_bind ?_
  exact bind_end rfl
theorem dbd_way_ok (k : Nat) (a0 : T_api_Base) (a1 : Int) : EV k 100 [(eBase a0), (I a1)] = (dbd_way k a0 a1).map dbd_way_fin := by
  cases k with
  | zero => rfl
  | succ k =>
    unfold dbd_way
    refine et (evF_succ (c := f100c) (N := 21) (regs := f100n) rfl func100 rfl (by decide) rfl rfl rfl) ?_
    refine et (k_region0 rfl (f100r0 k a0 a1)) ?_
    refine et (k_region0 rfl (f100r1 k a0 a1)) ?_
    refine et (k_block rfl) ?_
    refine et k_loop ?_
    refine dbd_way_L1_ok k a0 a1 _ _ ?h_dbd_way_L1_0 ?hr_dbd_way_L1 k a1 ([] : List Int)
    · intro y11 y12
      refine et blk_exit ?_
      refine et (k_region rfl (f100r5 k a0 y11 y12)) ?_
      refine bindE (fun o14 => ?_)
      refine et (k_region0 rfl (f100r6 k o14)) ?_
      refine et k_lret ?_
      rfl
    · intro s; exact rfl
def dbd_Way_fin : ((List Int) × Int) → V × List V := fun r => (.tup [(sI r.1), (I r.2)], [])
theorem f85r0 (k : Nat) (a0 : T_api_Base) (a1 : Int) : RE k f85a0 f85o0 false ⟨[(0, (eBase a0)), (1, (I a1))], [], 17⟩ = some ⟨[(1, (I a1)), (2, (Pt 2))], [(2, vS 4 (eBase a0))], 17⟩ :=
  rE rfl
theorem f85r1 (k : Nat) (a0 : T_api_Base) (a1 : Int) : RE k f85a1 f85o1 false ⟨[(1, (I a1)), (2, (Pt 2))], [(2, vS 4 (eBase a0))], 17⟩ = ((dbd_asked k a0 ([a1] : List Int))).map (fun (o : Int) => (⟨[(1, (I a1)), (2, (Pt 2)), (6, (I o))], [(2, vS 4 (eBase a0))], 17⟩ : St)) := by
  refine rg ?_
  refine ra 3 3 ⟨[(1, (I a1)), (2, (Pt 2)), (7, (eBase a0)), (8, (I a1)), (9, (sI (([a1] : List Int))))], [(2, vS 4 (eBase a0))], 17⟩ rfl rfl rfl ?_
  refine et (reg_pure (x := (dbd_asked k a0 ([a1] : List Int))) (w := fun v1 => (I v1)) rfl rfl rfl rfl (p_call rfl rfl rfl rfl rfl (dbd_asked_ok k a0 ([a1] : List Int)) (.inl rfl))) ?_
  refine bind_self (fun v1 => ?_)
  exact bind_end rfl
theorem f85r2 (k : Nat) (a0 : T_api_Base) (a1 : Int) (o2 : Int) : RE k f85a2 f85o2 false ⟨[(1, (I a1)), (2, (Pt 2)), (6, (I o2))], [(2, vS 4 (eBase a0))], 17⟩ = some ⟨[(1, (I a1)), (2, (Pt 2)), (6, (I o2)), (12, (Bo (o2 != 0)))], [(2, vS 4 (eBase a0))], 17⟩ :=
  rE rfl
end
end Go.AE
