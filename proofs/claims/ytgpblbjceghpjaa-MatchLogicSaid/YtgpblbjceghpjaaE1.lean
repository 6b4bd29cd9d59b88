/- The program, function by function: the evaluator comes to the typed functions. Conditions: none. -/
import Derived.Test.YtgpblbjceghpjaaA3
import Derived.KernelRfl
import Derived.Test.YtgpblbjceghpjaaProg
import Derived.Test.YtgpblbjceghpjaaB1
namespace Go.AE
open Go.Proofs.Try Go.Sh
set_option linter.unusedSimpArgs false
set_option linter.unusedVariables false
set_option maxRecDepth 100000
set_option maxHeartbeats 4000000
noncomputable section
abbrev Pt (n : Nat) : V := .ptr n 0 0
abbrev Bo (b : Bool) : V := .bool b
abbrev Sr (s : Str) : V := .str s
abbrev Pr (v : V) : V := .pro v
abbrev sS (l : List Str) : V := .sl 0 1 (List.map V.str l)
abbrev vS (n : Nat) (v : V) : Site := ⟨false, n, [v]⟩
abbrev aL {α : Type} (d : Nat) (e : α → V) (l : List α) : V := .aref d 0 (List.map e l).length
def eField (a : T_api_Field) : V := .agg [(V.str a.fName), (V.int .i64 a.fAt), (V.int .i64 a.fBytes)]
def eType (a : T_api_Type) : V := .agg [(V.str a.fName), (V.int .i64 a.fParent), (V.int .i64 a.fMin), (V.int .i64 a.fSize), (V.sl 0 3 (List.map eField a.fFields)), (V.int .i64 a.fKey), (V.bool a.fUnique), (V.bool a.fLast)]
def eSearch (a : T_api_Search) : V := .agg [(V.str a.fName), (V.int .i64 a.fType), (V.int .i64 a.fField), (V.str a.fSparse)]
def eBase (a : T_api_Base) : V := .agg [(V.str a.fName), (V.int .i64 a.fKind), (V.sl 0 8 (List.map eType a.fTypes)), (V.sl 0 4 (List.map eSearch a.fIndexes))]
def eTerm (a : T_api_Term) : V := .agg [(V.str a.fField), (V.int .i64 a.fOp), (V.str a.fValue)]
def eCase (a : T_progenylaw12_Case) : V := .agg [(V.str a.fBase.fName), (V.int .i64 a.fBase.fKind), (V.sl 0 8 (List.map eType a.fBase.fTypes)), (V.sl 0 4 (List.map eSearch a.fBase.fIndexes)), (V.int .i64 a.fType), (V.sl 0 1 (List.map (fun x => (V.sl 0 3 (List.map eTerm x))) a.fWhen))]
def eStr (a : T_arr6_Str) : V := .agg [(V.str a.e0), (V.str a.e1), (V.str a.e2), (V.str a.e3), (V.str a.e4), (V.str a.e5)]
noncomputable def f8o0 : Array Oper := cO (cL (cB f8))
def f8a0 : RAnn := ⟨[0, 2], []⟩
noncomputable def f8o1 : Array Oper := cO (cL (cL (cR (cB f8))))
def f8a1 : RAnn := ⟨[6, 7, 8, 9, 10, 11, 12, 13, 14, 15, 16, 17, 18, 19, 20], []⟩
noncomputable def f8o2 : Array Oper := cO (cL (cL (cR (cL (cR (cB f8))))))
def f8a2 : RAnn := ⟨[1, 21], []⟩
noncomputable def f8o3 : Array Oper := cO (cL (cL (cR (cR (cB f8)))))
def f8a3 : RAnn := ⟨[21], []⟩
noncomputable def f8o4 : Array Oper := cO (cL (cL (cL (cL (cR (cL (cR (cR (cB f8)))))))))
def f8a4 : RAnn := ⟨[22, 23, 24, 25], []⟩
noncomputable def f8o5 : Array Oper := cO (cR (cR (cL (cL (cR (cL (cR (cR (cB f8)))))))))
def f8a5 : RAnn := ⟨[4, 27, 28, 55], []⟩
noncomputable def f8o6 : Array Oper := cO (cL (cL (cL (cL (cR (cL (cL (cR (cL (cR (cR (cB f8))))))))))))
def f8a6 : RAnn := ⟨[26, 29, 30, 31, 32, 33, 34, 35, 36, 37, 38, 39, 40, 41, 42, 43, 44, 45], []⟩
noncomputable def f8o7 : Array Oper := cO (cL (cL (cR (cL (cL (cL (cR (cL (cL (cR (cL (cR (cR (cB f8))))))))))))))
def f8a7 : RAnn := ⟨[1, 3, 46], []⟩
noncomputable def f8o8 : Array Oper := cO (cL (cR (cL (cL (cR (cL (cL (cR (cL (cR (cR (cB f8))))))))))))
def f8a8 : RAnn := ⟨[46], []⟩
noncomputable def f8o9 : Array Oper := cO (cL (cL (cL (cL (cR (cR (cL (cL (cR (cL (cL (cR (cL (cR (cR (cB f8))))))))))))))))
def f8a9 : RAnn := ⟨[47, 48, 49, 50, 51, 52, 53, 54], []⟩
noncomputable def f8o10 : Array Oper := cO (cR (cR (cL (cL (cR (cR (cL (cL (cR (cL (cL (cR (cL (cR (cR (cB f8))))))))))))))))
def f8a10 : RAnn := ⟨[56, 57, 69], []⟩
noncomputable def f8o11 : Array Oper := cO (cL (cL (cL (cR (cL (cL (cR (cR (cL (cL (cR (cL (cL (cR (cL (cR (cR (cB f8))))))))))))))))))
def f8a11 : RAnn := ⟨[55, 58, 59, 60, 61, 62, 63, 64, 65, 66, 67, 68], []⟩
noncomputable def f8o12 : Array Oper := cO (cL (cL (cR (cL (cL (cR (cL (cL (cR (cR (cL (cL (cR (cL (cL (cR (cL (cR (cR (cB f8))))))))))))))))))))
def f8a12 : RAnn := ⟨[1, 3, 4, 69], []⟩
noncomputable def f8o13 : Array Oper := cO (cL (cL (cR (cR (cR (cB f8))))))
def f8a13 : RAnn := ⟨[3, 26], []⟩
noncomputable def f8o14 : Array Oper := cO (cL (cL (cL (cL (cR (cL (cR (cR (cR (cB f8))))))))))
def f8a14 : RAnn := ⟨[70, 71, 72, 73], []⟩
noncomputable def f8o15 : Array Oper := cO (cR (cR (cL (cL (cR (cL (cR (cR (cR (cB f8))))))))))
def f8a15 : RAnn := ⟨[75, 76, 94], []⟩
noncomputable def f8o16 : Array Oper := cO (cL (cL (cL (cR (cL (cL (cR (cL (cR (cR (cR (cB f8))))))))))))
def f8a16 : RAnn := ⟨[74, 77, 78, 79, 80, 81, 82, 83, 84, 85, 86, 87, 88, 89, 90, 91, 92, 93], []⟩
noncomputable def f8o17 : Array Oper := cO (cL (cL (cR (cL (cL (cR (cL (cL (cR (cL (cR (cR (cR (cB f8))))))))))))))
def f8a17 : RAnn := ⟨[1, 5, 94], []⟩
noncomputable def f8o18 : Array Oper := cO (cL (cR (cR (cR (cR (cB f8))))))
def f8a18 : RAnn := ⟨[1, 5, 74], []⟩
def f8b0 : Code := (.seq (.seq (.region 9 f8o9 false) (.cond (.tmp 55) .skip (.exit 2))) (.seq (.block 3 (.seq (.region 11 f8o11 false) (.cond (.tmp 69) (.seq (.region 12 f8o12 false) .ret) .skip))) (.region 10 f8o10 false)))
def f8b1 : Code := (.seq (.seq (.region 4 f8o4 false) (.cond (.tmp 26) .skip (.exit 0))) (.seq (.block 1 (.seq (.seq (.region 6 f8o6 false) (.cond (.tmp 46) (.seq (.region 7 f8o7 false) .ret) .skip)) (.seq (.region 8 f8o8 false) (.block 2 (.loop f8b0))))) (.region 5 f8o5 false)))
def f8b2 : Code := (.seq (.seq (.region 14 f8o14 false) (.cond (.tmp 74) .skip (.exit 4))) (.seq (.block 5 (.seq (.region 16 f8o16 false) (.cond (.tmp 94) (.seq (.region 17 f8o17 false) .ret) .skip))) (.region 15 f8o15 false)))
def f8c : Code := (.seq (.region 0 f8o0 false) (.seq (.seq (.region 1 f8o1 false) (.cond (.tmp 21) (.seq (.region 2 f8o2 false) .ret) .skip)) (.seq (.seq (.region 3 f8o3 false) (.block 0 (.loop f8b1))) (.seq (.seq (.region 13 f8o13 false) (.block 4 (.loop f8b2))) (.seq (.region 18 f8o18 false) .ret)))))
def f8n : List (Nat × RAnn) := [(0, f8a0), (1, f8a1), (2, f8a2), (3, f8a3), (4, f8a4), (5, f8a5), (6, f8a6), (7, f8a7), (8, f8a8), (9, f8a9), (10, f8a10), (11, f8a11), (12, f8a12), (13, f8a13), (14, f8a14), (15, f8a15), (16, f8a16), (17, f8a17), (18, f8a18)]
noncomputable def f9o0 : Array Oper := cO (cL (cB f9))
def f9a0 : RAnn := ⟨[2], []⟩
noncomputable def f9o1 : Array Oper := cO (cL (cL (cR (cB f9))))
def f9a1 : RAnn := ⟨[], []⟩
noncomputable def f9o2 : Array Oper := cO (cL (cL (cL (cL (cR (cL (cR (cB f9))))))))
def f9a2 : RAnn := ⟨[5, 6, 7], []⟩
noncomputable def f9o3 : Array Oper := cO (cR (cR (cL (cL (cR (cL (cR (cB f9))))))))
def f9a3 : RAnn := ⟨[4, 9, 10, 23], []⟩
noncomputable def f9o4 : Array Oper := cO (cL (cL (cL (cL (cR (cL (cL (cR (cL (cR (cB f9)))))))))))
def f9a4 : RAnn := ⟨[8, 11, 12, 13, 14, 15], []⟩
noncomputable def f9o5 : Array Oper := cO (cL (cL (cR (cL (cL (cL (cR (cL (cL (cR (cL (cR (cB f9)))))))))))))
def f9a5 : RAnn := ⟨[0, 3, 16], []⟩
noncomputable def f9o6 : Array Oper := cO (cL (cR (cL (cL (cR (cL (cL (cR (cL (cR (cB f9)))))))))))
def f9a6 : RAnn := ⟨[16], []⟩
noncomputable def f9o7 : Array Oper := cO (cL (cL (cL (cL (cR (cR (cL (cL (cR (cL (cL (cR (cL (cR (cB f9)))))))))))))))
def f9a7 : RAnn := ⟨[17, 18, 19, 20, 21, 22], []⟩
noncomputable def f9o8 : Array Oper := cO (cR (cR (cL (cL (cR (cR (cL (cL (cR (cL (cL (cR (cL (cR (cB f9)))))))))))))))
def f9a8 : RAnn := ⟨[24, 25, 47], []⟩
noncomputable def f9o9 : Array Oper := cO (cL (cL (cL (cR (cL (cL (cR (cR (cL (cL (cR (cL (cL (cR (cL (cR (cB f9)))))))))))))))))
def f9a9 : RAnn := ⟨[23, 26, 27, 28, 29, 30, 31, 32, 33, 34, 35, 36, 37, 38, 39, 40, 41, 42, 43, 44, 45, 46], []⟩
noncomputable def f9o10 : Array Oper := cO (cL (cL (cR (cL (cL (cR (cL (cL (cR (cR (cL (cL (cR (cL (cL (cR (cL (cR (cB f9)))))))))))))))))))
def f9a10 : RAnn := ⟨[0, 3, 4, 47], []⟩
noncomputable def f9o11 : Array Oper := cO (cL (cR (cR (cB f9))))
def f9a11 : RAnn := ⟨[0, 3, 8, 48, 49, 50], []⟩
def f9b0 : Code := (.seq (.seq (.region 7 f9o7 false) (.cond (.tmp 23) .skip (.exit 2))) (.seq (.block 3 (.seq (.region 9 f9o9 false) (.cond (.tmp 47) (.seq (.region 10 f9o10 false) .ret) .skip))) (.region 8 f9o8 false)))
def f9b1 : Code := (.seq (.seq (.region 2 f9o2 false) (.cond (.tmp 8) .skip (.exit 0))) (.seq (.block 1 (.seq (.seq (.region 4 f9o4 false) (.cond (.tmp 16) (.seq (.region 5 f9o5 false) .ret) .skip)) (.seq (.region 6 f9o6 false) (.block 2 (.loop f9b0))))) (.region 3 f9o3 false)))
def f9c : Code := (.seq (.region 0 f9o0 false) (.seq (.seq (.region 1 f9o1 false) (.block 0 (.loop f9b1))) (.seq (.region 11 f9o11 false) .ret)))
def f9n : List (Nat × RAnn) := [(0, f9a0), (1, f9a1), (2, f9a2), (3, f9a3), (4, f9a4), (5, f9a5), (6, f9a6), (7, f9a7), (8, f9a8), (9, f9a9), (10, f9a10), (11, f9a11)]
noncomputable def f19o0 : Array Oper := cO (cL (cB f19))
def f19a0 : RAnn := ⟨[], []⟩
noncomputable def f19o1 : Array Oper := cO (cL (cR (cB f19)))
def f19a1 : RAnn := ⟨[1, 2, 3, 4, 5], []⟩
def f19c : Code := (.seq (.region 0 f19o0 false) (.seq (.region 1 f19o1 false) .ret))
def f19n : List (Nat × RAnn) := [(0, f19a0), (1, f19a1)]
noncomputable def f101o0 : Array Oper := cO (cL (cB f101))
def f101a0 : RAnn := ⟨[2], []⟩
noncomputable def f101o1 : Array Oper := cO (cL (cL (cR (cB f101))))
def f101a1 : RAnn := ⟨[5], []⟩
noncomputable def f101o2 : Array Oper := cO (cL (cL (cL (cR (cL (cR (cB f101)))))))
def f101a2 : RAnn := ⟨[], []⟩
noncomputable def f101o3 : Array Oper := cO (cL (cL (cL (cR (cR (cL (cL (cR (cL (cR (cB f101)))))))))))
def f101a3 : RAnn := ⟨[8, 9], []⟩
noncomputable def f101o4 : Array Oper := cO (cL (cR (cL (cL (cR (cR (cL (cL (cR (cL (cR (cB f101))))))))))))
def f101a4 : RAnn := ⟨[10, 11, 12, 13, 14, 15, 16, 17, 18, 19], []⟩
noncomputable def f101o5 : Array Oper := cO (cL (cR (cR (cL (cL (cR (cR (cL (cL (cR (cL (cR (cB f101)))))))))))))
def f101a5 : RAnn := ⟨[3, 4, 20, 21, 22, 23, 24, 25, 26, 27, 28, 29, 30, 31, 32, 33, 34, 35, 36], []⟩
noncomputable def f101o6 : Array Oper := cO (cL (cL (cR (cR (cR (cL (cL (cR (cR (cL (cL (cR (cL (cR (cB f101)))))))))))))))
def f101a6 : RAnn := ⟨[0, 6, 7, 37], []⟩
noncomputable def f101o7 : Array Oper := cO (cR (cR (cR (cL (cL (cR (cL (cR (cB f101)))))))))
def f101a7 : RAnn := ⟨[37, 38], []⟩
noncomputable def f101o8 : Array Oper := cO (cL (cR (cR (cB f101))))
def f101a8 : RAnn := ⟨[0, 6, 7, 8, 39, 40, 41, 42, 43, 44, 45, 46], []⟩
def f101b0 : Code := (.seq (.region 2 f101o2 false) (.seq (.cond (.tmp 8) .skip (.exit 0)) (.seq (.block 1 (.seq (.region 3 f101o3 false) (.seq (.region 4 f101o4 false) (.seq (.region 5 f101o5 false) (.cond (.tmp 37) (.seq (.region 6 f101o6 false) .ret) .skip))))) (.region 7 f101o7 false))))
def f101c : Code := (.seq (.region 0 f101o0 false) (.seq (.seq (.region 1 f101o1 false) (.block 0 (.loop f101b0))) (.seq (.region 8 f101o8 false) .ret)))
def f101n : List (Nat × RAnn) := [(0, f101a0), (1, f101a1), (2, f101a2), (3, f101a3), (4, f101a4), (5, f101a5), (6, f101a6), (7, f101a7), (8, f101a8)]
noncomputable def f68o0 : Array Oper := cO (cL (cB f68))
def f68a0 : RAnn := ⟨[4], []⟩
noncomputable def f68o1 : Array Oper := cO (cL (cL (cR (cB f68))))
def f68a1 : RAnn := ⟨[6], []⟩
noncomputable def f68o2 : Array Oper := cO (cL (cL (cL (cR (cL (cR (cB f68)))))))
def f68a2 : RAnn := ⟨[], []⟩
noncomputable def f68o3 : Array Oper := cO (cL (cL (cL (cR (cR (cL (cL (cR (cL (cR (cB f68)))))))))))
def f68a3 : RAnn := ⟨[9, 10], []⟩
noncomputable def f68o4 : Array Oper := cO (cL (cR (cL (cL (cR (cR (cL (cL (cR (cL (cR (cB f68))))))))))))
def f68a4 : RAnn := ⟨[11, 12, 13, 14, 15], []⟩
noncomputable def f68o5 : Array Oper := cO (cL (cL (cR (cR (cL (cL (cR (cR (cL (cL (cR (cL (cR (cB f68))))))))))))))
def f68a5 : RAnn := ⟨[0, 1, 5, 7, 8, 16, 17], []⟩
noncomputable def f68o6 : Array Oper := cO (cR (cR (cR (cL (cL (cR (cL (cR (cB f68)))))))))
def f68a6 : RAnn := ⟨[5, 16, 18], []⟩
noncomputable def f68o7 : Array Oper := cO (cL (cR (cR (cB f68))))
def f68a7 : RAnn := ⟨[0, 1, 7, 8, 9], []⟩
def f68b0 : Code := (.seq (.region 2 f68o2 false) (.seq (.cond (.tmp 9) .skip (.exit 0)) (.seq (.block 1 (.seq (.region 3 f68o3 false) (.seq (.region 4 f68o4 false) (.cond (.tmp 16) (.seq (.region 5 f68o5 false) .ret) .skip)))) (.region 6 f68o6 false))))
def f68c : Code := (.seq (.region 0 f68o0 false) (.seq (.seq (.region 1 f68o1 false) (.block 0 (.loop f68b0))) (.seq (.region 7 f68o7 false) .ret)))
def f68n : List (Nat × RAnn) := [(0, f68a0), (1, f68a1), (2, f68a2), (3, f68a3), (4, f68a4), (5, f68a5), (6, f68a6), (7, f68a7)]
noncomputable def f118o0 : Array Oper := cO (cL (cB f118))
def f118a0 : RAnn := ⟨[4], []⟩
noncomputable def f118o1 : Array Oper := cO (cL (cR (cB f118)))
def f118a1 : RAnn := ⟨[0, 1, 5, 6, 7, 8], []⟩
def f118c : Code := (.seq (.region 0 f118o0 false) (.seq (.region 1 f118o1 false) .ret))
def f118n : List (Nat × RAnn) := [(0, f118a0), (1, f118a1)]
noncomputable def f119o0 : Array Oper := cO (cL (cB f119))
def f119a0 : RAnn := ⟨[0, 3], []⟩
noncomputable def f119o1 : Array Oper := cO (cL (cR (cB f119)))
def f119a1 : RAnn := ⟨[1, 2, 4, 5, 6, 7, 8], []⟩
def f119c : Code := (.seq (.region 0 f119o0 false) (.seq (.region 1 f119o1 false) .ret))
def f119n : List (Nat × RAnn) := [(0, f119a0), (1, f119a1)]
noncomputable def f115o0 : Array Oper := cO (cL (cB f115))
def f115a0 : RAnn := ⟨[4], []⟩
noncomputable def f115o1 : Array Oper := cO (cL (cL (cR (cB f115))))
def f115a1 : RAnn := ⟨[], []⟩
noncomputable def f115o2 : Array Oper := cO (cL (cL (cL (cR (cL (cR (cB f115)))))))
def f115a2 : RAnn := ⟨[], []⟩
noncomputable def f115o3 : Array Oper := cO (cL (cL (cL (cR (cR (cL (cL (cR (cL (cR (cB f115)))))))))))
def f115a3 : RAnn := ⟨[10, 11, 12, 13], []⟩
noncomputable def f115o4 : Array Oper := cO (cL (cL (cR (cL (cL (cR (cR (cL (cL (cR (cL (cR (cB f115)))))))))))))
def f115a4 : RAnn := ⟨[14, 15, 16, 17, 18, 19, 20, 21, 22, 23, 24, 25, 26, 27, 28, 29, 30, 31, 32, 33, 34, 35, 36, 37, 38, 39, 40, 41], []⟩
noncomputable def f115o5 : Array Oper := cO (cL (cL (cR (cL (cR (cL (cL (cR (cR (cL (cL (cR (cL (cR (cB f115)))))))))))))))
def f115a5 : RAnn := ⟨[0, 1, 5, 6, 7, 8, 9, 42], []⟩
noncomputable def f115o6 : Array Oper := cO (cL (cR (cR (cL (cL (cR (cR (cL (cL (cR (cL (cR (cB f115)))))))))))))
def f115a6 : RAnn := ⟨[5, 6, 42, 43, 44, 45, 46], []⟩
noncomputable def f115o7 : Array Oper := cO (cL (cL (cR (cR (cR (cL (cL (cR (cR (cL (cL (cR (cL (cR (cB f115)))))))))))))))
def f115a7 : RAnn := ⟨[0, 1, 7, 8, 9, 47], []⟩
noncomputable def f115o8 : Array Oper := cO (cR (cR (cR (cL (cL (cR (cL (cR (cB f115)))))))))
def f115a8 : RAnn := ⟨[47, 48], []⟩
noncomputable def f115o9 : Array Oper := cO (cL (cR (cR (cB f115))))
def f115a9 : RAnn := ⟨[0, 1, 7, 8, 9, 10, 49, 50, 51], []⟩
def f115b0 : Code := (.seq (.region 2 f115o2 false) (.seq (.cond (.tmp 10) .skip (.exit 0)) (.seq (.block 1 (.seq (.region 3 f115o3 false) (.seq (.seq (.region 4 f115o4 false) (.cond (.tmp 42) (.seq (.region 5 f115o5 false) .ret) .skip)) (.seq (.region 6 f115o6 false) (.cond (.tmp 47) (.seq (.region 7 f115o7 false) .ret) .skip))))) (.region 8 f115o8 false))))
def f115c : Code := (.seq (.region 0 f115o0 false) (.seq (.seq (.region 1 f115o1 false) (.block 0 (.loop f115b0))) (.seq (.region 9 f115o9 false) .ret)))
def f115n : List (Nat × RAnn) := [(0, f115a0), (1, f115a1), (2, f115a2), (3, f115a3), (4, f115a4), (5, f115a5), (6, f115a6), (7, f115a7), (8, f115a8), (9, f115a9)]
noncomputable def f109o0 : Array Oper := cO (cL (cB f109))
def f109a0 : RAnn := ⟨[0, 2], []⟩
noncomputable def f109o1 : Array Oper := cO (cL (cL (cL (cR (cB f109)))))
def f109a1 : RAnn := ⟨[4, 5, 6, 7, 8, 9, 10, 11, 12, 13, 14, 15, 16, 17, 18, 19, 20, 21, 22, 23, 24, 25, 26, 27, 28, 29, 30, 31, 32], []⟩
noncomputable def f109o2 : Array Oper := cO (cL (cL (cR (cL (cL (cR (cB f109)))))))
def f109a2 : RAnn := ⟨[1, 3], []⟩
noncomputable def f109o3 : Array Oper := cO (cL (cR (cR (cL (cL (cR (cB f109)))))))
def f109a3 : RAnn := ⟨[3, 34, 35, 36], []⟩
noncomputable def f109o4 : Array Oper := cO (cL (cL (cR (cR (cR (cL (cL (cR (cB f109)))))))))
def f109a4 : RAnn := ⟨[1, 33, 37, 38, 39], []⟩
noncomputable def f109o5 : Array Oper := cO (cL (cR (cR (cR (cR (cL (cL (cR (cB f109)))))))))
def f109a5 : RAnn := ⟨[33, 41, 42, 43, 44, 45, 46, 47, 48, 49, 50, 51], []⟩
noncomputable def f109o6 : Array Oper := cO (cL (cL (cR (cR (cR (cR (cR (cL (cL (cR (cB f109)))))))))))
def f109a6 : RAnn := ⟨[1, 40], []⟩
noncomputable def f109o7 : Array Oper := cO (cL (cR (cR (cB f109))))
def f109a7 : RAnn := ⟨[1, 40, 52, 53, 54, 55, 56, 57, 58, 59, 60, 61, 62, 63, 64, 65, 66, 67, 68, 69], []⟩
def f109c : Code := (.seq (.region 0 f109o0 false) (.seq (.block 0 (.seq (.region 1 f109o1 false) (.cond (.tmp 3) (.seq (.region 2 f109o2 false) .ret) (.seq (.region 3 f109o3 false) (.cond (.tmp 33) (.seq (.region 4 f109o4 false) .ret) (.seq (.region 5 f109o5 false) (.cond (.tmp 40) (.seq (.region 6 f109o6 false) .ret) .skip))))))) (.seq (.region 7 f109o7 true) .ret)))
def f109n : List (Nat × RAnn) := [(0, f109a0), (1, f109a1), (2, f109a2), (3, f109a3), (4, f109a4), (5, f109a5), (6, f109a6), (7, f109a7)]
noncomputable def f116o0 : Array Oper := cO (cL (cB f116))
def f116a0 : RAnn := ⟨[4], []⟩
noncomputable def f116o1 : Array Oper := cO (cL (cL (cR (cB f116))))
def f116a1 : RAnn := ⟨[6], []⟩
noncomputable def f116o2 : Array Oper := cO (cL (cL (cL (cR (cL (cR (cB f116)))))))
def f116a2 : RAnn := ⟨[], []⟩
noncomputable def f116o3 : Array Oper := cO (cL (cL (cL (cR (cR (cL (cL (cR (cL (cR (cB f116)))))))))))
def f116a3 : RAnn := ⟨[9, 10], []⟩
noncomputable def f116o4 : Array Oper := cO (cL (cR (cL (cL (cR (cR (cL (cL (cR (cL (cR (cB f116))))))))))))
def f116a4 : RAnn := ⟨[11, 12, 13, 14, 15], []⟩
noncomputable def f116o5 : Array Oper := cO (cL (cL (cR (cR (cL (cL (cR (cR (cL (cL (cR (cL (cR (cB f116))))))))))))))
def f116a5 : RAnn := ⟨[0, 1, 5, 7, 8, 16, 17], []⟩
noncomputable def f116o6 : Array Oper := cO (cR (cR (cR (cL (cL (cR (cL (cR (cB f116)))))))))
def f116a6 : RAnn := ⟨[5, 16, 18], []⟩
noncomputable def f116o7 : Array Oper := cO (cL (cR (cR (cB f116))))
def f116a7 : RAnn := ⟨[0, 1, 7, 8, 9], []⟩
def f116b0 : Code := (.seq (.region 2 f116o2 false) (.seq (.cond (.tmp 9) .skip (.exit 0)) (.seq (.block 1 (.seq (.region 3 f116o3 false) (.seq (.region 4 f116o4 false) (.cond (.tmp 16) (.seq (.region 5 f116o5 false) .ret) .skip)))) (.region 6 f116o6 false))))
def f116c : Code := (.seq (.region 0 f116o0 false) (.seq (.seq (.region 1 f116o1 false) (.block 0 (.loop f116b0))) (.seq (.region 7 f116o7 false) .ret)))
def f116n : List (Nat × RAnn) := [(0, f116a0), (1, f116a1), (2, f116a2), (3, f116a3), (4, f116a4), (5, f116a5), (6, f116a6), (7, f116a7)]
noncomputable def f110o0 : Array Oper := cO (cL (cB f110))
def f110a0 : RAnn := ⟨[4], []⟩
noncomputable def f110o1 : Array Oper := cO (cL (cR (cB f110)))
def f110a1 : RAnn := ⟨[0, 1, 5, 6, 7, 8], []⟩
def f110c : Code := (.seq (.region 0 f110o0 false) (.seq (.region 1 f110o1 false) .ret))
def f110n : List (Nat × RAnn) := [(0, f110a0), (1, f110a1)]
noncomputable def f111o0 : Array Oper := cO (cL (cB f111))
def f111a0 : RAnn := ⟨[0, 3], []⟩
noncomputable def f111o1 : Array Oper := cO (cL (cR (cB f111)))
def f111a1 : RAnn := ⟨[1, 2, 4, 5, 6, 7, 8], []⟩
def f111c : Code := (.seq (.region 0 f111o0 false) (.seq (.region 1 f111o1 false) .ret))
def f111n : List (Nat × RAnn) := [(0, f111a0), (1, f111a1)]
noncomputable def f112o0 : Array Oper := cO (cL (cB f112))
def f112a0 : RAnn := ⟨[4], []⟩
noncomputable def f112o1 : Array Oper := cO (cL (cL (cR (cB f112))))
def f112a1 : RAnn := ⟨[6], []⟩
noncomputable def f112o2 : Array Oper := cO (cL (cL (cL (cR (cL (cR (cB f112)))))))
def f112a2 : RAnn := ⟨[], []⟩
noncomputable def f112o3 : Array Oper := cO (cL (cL (cL (cR (cR (cL (cL (cR (cL (cR (cB f112)))))))))))
def f112a3 : RAnn := ⟨[9, 10], []⟩
noncomputable def f112o4 : Array Oper := cO (cL (cR (cL (cL (cR (cR (cL (cL (cR (cL (cR (cB f112))))))))))))
def f112a4 : RAnn := ⟨[11, 12, 13, 14, 15], []⟩
noncomputable def f112o5 : Array Oper := cO (cL (cL (cR (cR (cL (cL (cR (cR (cL (cL (cR (cL (cR (cB f112))))))))))))))
def f112a5 : RAnn := ⟨[0, 1, 5, 7, 8, 16, 17], []⟩
noncomputable def f112o6 : Array Oper := cO (cR (cR (cR (cL (cL (cR (cL (cR (cB f112)))))))))
def f112a6 : RAnn := ⟨[5, 16, 18], []⟩
noncomputable def f112o7 : Array Oper := cO (cL (cR (cR (cB f112))))
def f112a7 : RAnn := ⟨[0, 1, 7, 8, 9], []⟩
def f112b0 : Code := (.seq (.region 2 f112o2 false) (.seq (.cond (.tmp 9) .skip (.exit 0)) (.seq (.block 1 (.seq (.region 3 f112o3 false) (.seq (.region 4 f112o4 false) (.cond (.tmp 16) (.seq (.region 5 f112o5 false) .ret) .skip)))) (.region 6 f112o6 false))))
def f112c : Code := (.seq (.region 0 f112o0 false) (.seq (.seq (.region 1 f112o1 false) (.block 0 (.loop f112b0))) (.seq (.region 7 f112o7 false) .ret)))
def f112n : List (Nat × RAnn) := [(0, f112a0), (1, f112a1), (2, f112a2), (3, f112a3), (4, f112a4), (5, f112a5), (6, f112a6), (7, f112a7)]
noncomputable def f102o0 : Array Oper := cO (cL (cB f102))
def f102a0 : RAnn := ⟨[2], []⟩
noncomputable def f102o1 : Array Oper := cO (cL (cL (cR (cB f102))))
def f102a1 : RAnn := ⟨[7, 8, 9, 10, 11, 12, 13], []⟩
noncomputable def f102o2 : Array Oper := cO (cL (cL (cR (cL (cR (cB f102))))))
def f102a2 : RAnn := ⟨[0, 14], []⟩
noncomputable def f102o3 : Array Oper := cO (cL (cR (cR (cB f102))))
def f102a3 : RAnn := ⟨[14], [(0, { site := true })]⟩
noncomputable def f102o4 : Array Oper := cO (cL (cL (cR (cR (cR (cB f102))))))
def f102a4 : RAnn := ⟨[], []⟩
noncomputable def f102o5 : Array Oper := cO (cL (cL (cL (cR (cL (cR (cR (cR (cB f102)))))))))
def f102a5 : RAnn := ⟨[], []⟩
noncomputable def f102o6 : Array Oper := cO (cL (cL (cL (cR (cR (cL (cL (cR (cL (cR (cR (cR (cB f102)))))))))))))
def f102a6 : RAnn := ⟨[18, 19, 20, 21], []⟩
noncomputable def f102o7 : Array Oper := cO (cL (cL (cR (cL (cL (cR (cR (cL (cL (cR (cL (cR (cR (cR (cB f102)))))))))))))))
def f102a7 : RAnn := ⟨[22, 23, 24, 25, 26, 27, 28, 29, 30], []⟩
noncomputable def f102o8 : Array Oper := cO (cL (cL (cR (cL (cR (cL (cL (cR (cR (cL (cL (cR (cL (cR (cR (cR (cB f102)))))))))))))))))
def f102a8 : RAnn := ⟨[0, 3, 4, 5, 15, 16, 17, 31], []⟩
noncomputable def f102o9 : Array Oper := cO (cL (cR (cR (cL (cL (cR (cR (cL (cL (cR (cL (cR (cR (cR (cB f102)))))))))))))))
def f102a9 : RAnn := ⟨[31, 32, 33, 34, 35], []⟩
noncomputable def f102o10 : Array Oper := cO (cL (cL (cR (cR (cR (cL (cL (cR (cR (cL (cL (cR (cL (cR (cR (cR (cB f102)))))))))))))))))
def f102a10 : RAnn := ⟨[5, 36, 37, 38, 39, 40, 41, 42, 43, 44, 45, 46, 47, 48, 49, 50, 51, 52, 53, 54, 55, 56, 57, 58, 59, 60, 61, 62, 63, 64, 65, 66, 67, 68, 69], []⟩
noncomputable def f102o11 : Array Oper := cO (cL (cL (cR (cL (cR (cR (cR (cL (cL (cR (cR (cL (cL (cR (cL (cR (cR (cR (cB f102)))))))))))))))))))
def f102a11 : RAnn := ⟨[0, 3, 4, 6, 15, 16, 17, 70], []⟩
noncomputable def f102o12 : Array Oper := cO (cL (cR (cR (cR (cR (cL (cL (cR (cR (cL (cL (cR (cL (cR (cR (cR (cB f102)))))))))))))))))
def f102a12 : RAnn := ⟨[4, 6, 70, 71, 72, 73, 74, 75, 76, 77], []⟩
noncomputable def f102o13 : Array Oper := cO (cL (cR (cR (cR (cR (cR (cL (cL (cR (cR (cL (cL (cR (cL (cR (cR (cR (cB f102))))))))))))))))))
def f102a13 : RAnn := ⟨[78, 79], []⟩
noncomputable def f102o14 : Array Oper := cO (cL (cL (cR (cR (cR (cR (cR (cR (cL (cL (cR (cR (cL (cL (cR (cL (cR (cR (cR (cB f102))))))))))))))))))))
def f102a14 : RAnn := ⟨[0, 3, 15, 16, 17, 80], []⟩
noncomputable def f102o15 : Array Oper := cO (cR (cR (cR (cL (cL (cR (cL (cR (cR (cR (cB f102)))))))))))
def f102a15 : RAnn := ⟨[80, 81], []⟩
noncomputable def f102o16 : Array Oper := cO (cL (cR (cR (cR (cR (cB f102))))))
def f102a16 : RAnn := ⟨[0, 3, 15, 16, 17, 18], []⟩
def f102b0 : Code := (.seq (.region 5 f102o5 false) (.seq (.cond (.tmp 18) .skip (.exit 0)) (.seq (.block 1 (.seq (.region 6 f102o6 false) (.seq (.seq (.region 7 f102o7 false) (.cond (.tmp 31) (.seq (.region 8 f102o8 false) .ret) .skip)) (.seq (.region 9 f102o9 false) (.seq (.seq (.region 10 f102o10 false) (.cond (.tmp 70) (.seq (.region 11 f102o11 false) .ret) .skip)) (.seq (.region 12 f102o12 false) (.seq (.region 13 f102o13 false) (.cond (.tmp 80) (.seq (.region 14 f102o14 false) .ret) .skip)))))))) (.region 15 f102o15 false))))
def f102c : Code := (.seq (.region 0 f102o0 false) (.seq (.seq (.region 1 f102o1 false) (.cond (.tmp 14) (.seq (.region 2 f102o2 false) .ret) .skip)) (.seq (.region 3 f102o3 false) (.seq (.seq (.region 4 f102o4 false) (.block 0 (.loop f102b0))) (.seq (.region 16 f102o16 false) .ret)))))
def f102n : List (Nat × RAnn) := [(0, f102a0), (1, f102a1), (2, f102a2), (3, f102a3), (4, f102a4), (5, f102a5), (6, f102a6), (7, f102a7), (8, f102a8), (9, f102a9), (10, f102a10), (11, f102a11), (12, f102a12), (13, f102a13), (14, f102a14), (15, f102a15), (16, f102a16)]
noncomputable def f117o0 : Array Oper := cO (cL (cB f117))
def f117a0 : RAnn := ⟨[4], []⟩
noncomputable def f117o1 : Array Oper := cO (cL (cL (cR (cB f117))))
def f117a1 : RAnn := ⟨[6], []⟩
noncomputable def f117o2 : Array Oper := cO (cL (cL (cL (cR (cL (cR (cB f117)))))))
def f117a2 : RAnn := ⟨[], []⟩
noncomputable def f117o3 : Array Oper := cO (cL (cL (cL (cR (cR (cL (cL (cR (cL (cR (cB f117)))))))))))
def f117a3 : RAnn := ⟨[9, 10], []⟩
noncomputable def f117o4 : Array Oper := cO (cL (cR (cL (cL (cR (cR (cL (cL (cR (cL (cR (cB f117))))))))))))
def f117a4 : RAnn := ⟨[11, 12, 13, 14, 15], []⟩
noncomputable def f117o5 : Array Oper := cO (cL (cL (cR (cR (cL (cL (cR (cR (cL (cL (cR (cL (cR (cB f117))))))))))))))
def f117a5 : RAnn := ⟨[0, 1, 5, 7, 8, 16, 17], []⟩
noncomputable def f117o6 : Array Oper := cO (cR (cR (cR (cL (cL (cR (cL (cR (cB f117)))))))))
def f117a6 : RAnn := ⟨[5, 16, 18], []⟩
noncomputable def f117o7 : Array Oper := cO (cL (cR (cR (cB f117))))
def f117a7 : RAnn := ⟨[0, 1, 7, 8, 9], []⟩
def f117b0 : Code := (.seq (.region 2 f117o2 false) (.seq (.cond (.tmp 9) .skip (.exit 0)) (.seq (.block 1 (.seq (.region 3 f117o3 false) (.seq (.region 4 f117o4 false) (.cond (.tmp 16) (.seq (.region 5 f117o5 false) .ret) .skip)))) (.region 6 f117o6 false))))
def f117c : Code := (.seq (.region 0 f117o0 false) (.seq (.seq (.region 1 f117o1 false) (.block 0 (.loop f117b0))) (.seq (.region 7 f117o7 false) .ret)))
def f117n : List (Nat × RAnn) := [(0, f117a0), (1, f117a1), (2, f117a2), (3, f117a3), (4, f117a4), (5, f117a5), (6, f117a6), (7, f117a7)]
noncomputable def f113o0 : Array Oper := cO (cL (cB f113))
def f113a0 : RAnn := ⟨[4], []⟩
noncomputable def f113o1 : Array Oper := cO (cL (cR (cB f113)))
def f113a1 : RAnn := ⟨[0, 1, 5, 6, 7, 8], []⟩
def f113c : Code := (.seq (.region 0 f113o0 false) (.seq (.region 1 f113o1 false) .ret))
def f113n : List (Nat × RAnn) := [(0, f113a0), (1, f113a1)]
noncomputable def f114o0 : Array Oper := cO (cL (cB f114))
def f114a0 : RAnn := ⟨[0, 3], []⟩
noncomputable def f114o1 : Array Oper := cO (cL (cR (cB f114)))
def f114a1 : RAnn := ⟨[1, 2, 4, 5, 6, 7, 8], []⟩
def f114c : Code := (.seq (.region 0 f114o0 false) (.seq (.region 1 f114o1 false) .ret))
def f114n : List (Nat × RAnn) := [(0, f114a0), (1, f114a1)]
noncomputable def f103o0 : Array Oper := cO (cL (cB f103))
def f103a0 : RAnn := ⟨[4], []⟩
noncomputable def f103o1 : Array Oper := cO (cL (cL (cR (cB f103))))
def f103a1 : RAnn := ⟨[], []⟩
noncomputable def f103o2 : Array Oper := cO (cL (cL (cL (cR (cL (cR (cB f103)))))))
def f103a2 : RAnn := ⟨[], []⟩
noncomputable def f103o3 : Array Oper := cO (cL (cL (cL (cR (cR (cL (cL (cR (cL (cR (cB f103)))))))))))
def f103a3 : RAnn := ⟨[11, 12, 13, 14], []⟩
noncomputable def f103o4 : Array Oper := cO (cL (cL (cR (cL (cL (cR (cR (cL (cL (cR (cL (cR (cB f103)))))))))))))
def f103a4 : RAnn := ⟨[5, 15, 16, 17, 18, 19, 20, 21, 22, 23, 24, 25, 26, 27, 28, 29, 30, 31, 32, 33, 34, 35, 36, 37, 38, 39, 40, 41, 42], []⟩
noncomputable def f103o5 : Array Oper := cO (cL (cL (cR (cL (cR (cL (cL (cR (cR (cL (cL (cR (cL (cR (cB f103)))))))))))))))
def f103a5 : RAnn := ⟨[0, 1, 6, 8, 9, 10, 43], []⟩
noncomputable def f103o6 : Array Oper := cO (cL (cR (cR (cL (cL (cR (cR (cL (cL (cR (cL (cR (cB f103)))))))))))))
def f103a6 : RAnn := ⟨[43, 44, 45, 46, 47, 48, 49], []⟩
noncomputable def f103o7 : Array Oper := cO (cL (cR (cR (cR (cL (cL (cR (cR (cL (cL (cR (cL (cR (cB f103))))))))))))))
def f103a7 : RAnn := ⟨[6, 7, 50, 51, 52, 53, 54, 55, 56, 57, 58, 59, 60, 61, 62, 63, 64, 65, 66, 67], []⟩
noncomputable def f103o8 : Array Oper := cO (cL (cL (cR (cR (cR (cR (cL (cL (cR (cR (cL (cL (cR (cL (cR (cB f103))))))))))))))))
def f103a8 : RAnn := ⟨[0, 1, 8, 9, 10, 68], []⟩
noncomputable def f103o9 : Array Oper := cO (cR (cR (cR (cL (cL (cR (cL (cR (cB f103)))))))))
def f103a9 : RAnn := ⟨[68, 69], []⟩
noncomputable def f103o10 : Array Oper := cO (cL (cR (cR (cB f103))))
def f103a10 : RAnn := ⟨[0, 1, 8, 9, 10, 11, 70, 71, 72], []⟩
def f103b0 : Code := (.seq (.region 2 f103o2 false) (.seq (.cond (.tmp 11) .skip (.exit 0)) (.seq (.block 1 (.seq (.region 3 f103o3 false) (.seq (.seq (.region 4 f103o4 false) (.cond (.tmp 43) (.seq (.region 5 f103o5 false) .ret) .skip)) (.seq (.region 6 f103o6 false) (.seq (.region 7 f103o7 false) (.cond (.tmp 68) (.seq (.region 8 f103o8 false) .ret) .skip)))))) (.region 9 f103o9 false))))
def f103c : Code := (.seq (.region 0 f103o0 false) (.seq (.seq (.region 1 f103o1 false) (.block 0 (.loop f103b0))) (.seq (.region 10 f103o10 false) .ret)))
def f103n : List (Nat × RAnn) := [(0, f103a0), (1, f103a1), (2, f103a2), (3, f103a3), (4, f103a4), (5, f103a5), (6, f103a6), (7, f103a7), (8, f103a8), (9, f103a9), (10, f103a10)]
noncomputable def f90o0 : Array Oper := cO (cL (cB f90))
def f90a0 : RAnn := ⟨[0, 2], []⟩
noncomputable def f90o1 : Array Oper := cO (cL (cR (cB f90)))
def f90a1 : RAnn := ⟨[1, 3, 4, 5, 6, 7, 8, 9, 10, 11, 12, 13, 14, 15, 16, 17, 18, 19, 20, 21, 22, 23, 24, 25, 26, 27], []⟩
def f90c : Code := (.seq (.region 0 f90o0 false) (.seq (.region 1 f90o1 false) .ret))
def f90n : List (Nat × RAnn) := [(0, f90a0), (1, f90a1)]
noncomputable def f104o0 : Array Oper := cO (cL (cB f104))
def f104a0 : RAnn := ⟨[4], []⟩
noncomputable def f104o1 : Array Oper := cO (cL (cL (cR (cB f104))))
def f104a1 : RAnn := ⟨[6], []⟩
noncomputable def f104o2 : Array Oper := cO (cL (cL (cL (cR (cL (cR (cB f104)))))))
def f104a2 : RAnn := ⟨[], []⟩
noncomputable def f104o3 : Array Oper := cO (cL (cL (cL (cR (cR (cL (cL (cR (cL (cR (cB f104)))))))))))
def f104a3 : RAnn := ⟨[9, 10], []⟩
noncomputable def f104o4 : Array Oper := cO (cL (cR (cL (cL (cR (cR (cL (cL (cR (cL (cR (cB f104))))))))))))
def f104a4 : RAnn := ⟨[11, 12, 13, 14, 15], []⟩
noncomputable def f104o5 : Array Oper := cO (cL (cL (cR (cR (cL (cL (cR (cR (cL (cL (cR (cL (cR (cB f104))))))))))))))
def f104a5 : RAnn := ⟨[0, 1, 5, 7, 8, 16, 17], []⟩
noncomputable def f104o6 : Array Oper := cO (cR (cR (cR (cL (cL (cR (cL (cR (cB f104)))))))))
def f104a6 : RAnn := ⟨[5, 16, 18], []⟩
noncomputable def f104o7 : Array Oper := cO (cL (cR (cR (cB f104))))
def f104a7 : RAnn := ⟨[0, 1, 7, 8, 9], []⟩
def f104b0 : Code := (.seq (.region 2 f104o2 false) (.seq (.cond (.tmp 9) .skip (.exit 0)) (.seq (.block 1 (.seq (.region 3 f104o3 false) (.seq (.region 4 f104o4 false) (.cond (.tmp 16) (.seq (.region 5 f104o5 false) .ret) .skip)))) (.region 6 f104o6 false))))
def f104c : Code := (.seq (.region 0 f104o0 false) (.seq (.seq (.region 1 f104o1 false) (.block 0 (.loop f104b0))) (.seq (.region 7 f104o7 false) .ret)))
def f104n : List (Nat × RAnn) := [(0, f104a0), (1, f104a1), (2, f104a2), (3, f104a3), (4, f104a4), (5, f104a5), (6, f104a6), (7, f104a7)]
noncomputable def f91o0 : Array Oper := cO (cL (cB f91))
def f91a0 : RAnn := ⟨[4], []⟩
noncomputable def f91o1 : Array Oper := cO (cL (cR (cB f91)))
def f91a1 : RAnn := ⟨[0, 1, 5, 6, 7, 8], []⟩
def f91c : Code := (.seq (.region 0 f91o0 false) (.seq (.region 1 f91o1 false) .ret))
def f91n : List (Nat × RAnn) := [(0, f91a0), (1, f91a1)]
noncomputable def f92o0 : Array Oper := cO (cL (cB f92))
def f92a0 : RAnn := ⟨[3], []⟩
noncomputable def f92o1 : Array Oper := cO (cL (cR (cB f92)))
def f92a1 : RAnn := ⟨[0, 1, 4, 5, 6, 7, 8, 9, 10, 11, 12], []⟩
def f92c : Code := (.seq (.region 0 f92o0 false) (.seq (.region 1 f92o1 false) .ret))
def f92n : List (Nat × RAnn) := [(0, f92a0), (1, f92a1)]
noncomputable def f66o0 : Array Oper := cO (cL (cB f66))
def f66a0 : RAnn := ⟨[0, 4], []⟩
noncomputable def f66o1 : Array Oper := cO (cL (cL (cL (cR (cB f66)))))
def f66a1 : RAnn := ⟨[6, 7, 8], []⟩
noncomputable def f66o2 : Array Oper := cO (cL (cL (cR (cL (cL (cR (cB f66)))))))
def f66a2 : RAnn := ⟨[1, 2, 5], []⟩
noncomputable def f66o3 : Array Oper := cO (cL (cR (cR (cL (cL (cR (cB f66)))))))
def f66a3 : RAnn := ⟨[1, 2, 5, 10, 11, 12], []⟩
noncomputable def f66o4 : Array Oper := cO (cL (cL (cR (cR (cR (cL (cL (cR (cB f66)))))))))
def f66a4 : RAnn := ⟨[9], []⟩
noncomputable def f66o5 : Array Oper := cO (cL (cR (cR (cB f66))))
def f66a5 : RAnn := ⟨[9], []⟩
def f66c : Code := (.seq (.region 0 f66o0 false) (.seq (.block 0 (.seq (.region 1 f66o1 false) (.cond (.tmp 5) (.seq (.region 2 f66o2 false) .ret) (.seq (.region 3 f66o3 false) (.cond (.tmp 9) (.seq (.region 4 f66o4 false) .ret) .skip))))) (.seq (.region 5 f66o5 false) .ret)))
def f66n : List (Nat × RAnn) := [(0, f66a0), (1, f66a1), (2, f66a2), (3, f66a3), (4, f66a4), (5, f66a5)]
noncomputable def f100o0 : Array Oper := cO (cL (cB f100))
def f100a0 : RAnn := ⟨[0, 4], []⟩
noncomputable def f100o1 : Array Oper := cO (cL (cR (cB f100)))
def f100a1 : RAnn := ⟨[], [(0, { site := true })]⟩
noncomputable def f100o2 : Array Oper := cO (cL (cL (cL (cL (cL (cR (cR (cB f100))))))))
def f100a2 : RAnn := ⟨[6], []⟩
noncomputable def f100o3 : Array Oper := cO (cR (cR (cL (cL (cL (cR (cR (cB f100))))))))
def f100a3 : RAnn := ⟨[8, 9, 10, 11, 12, 13], []⟩
noncomputable def f100o4 : Array Oper := cO (cL (cL (cR (cL (cL (cL (cR (cR (cB f100)))))))))
def f100a4 : RAnn := ⟨[7, 14, 15, 16, 17], []⟩
noncomputable def f100o5 : Array Oper := cO (cL (cR (cR (cR (cB f100)))))
def f100a5 : RAnn := ⟨[1, 2, 7, 18, 19], [(1, { eff := true })]⟩
noncomputable def f100o6 : Array Oper := cO (cL (cR (cR (cR (cR (cB f100))))))
def f100a6 : RAnn := ⟨[5, 20], [(1, { close := true })]⟩
def f100b0 : Code := (.seq (.seq (.region 2 f100o2 false) (.cond (.tmp 7) .skip (.exit 0))) (.seq (.block 1 (.region 4 f100o4 false)) (.region 3 f100o3 false)))
def f100c : Code := (.seq (.region 0 f100o0 false) (.seq (.region 1 f100o1 false) (.seq (.block 0 (.loop f100b0)) (.seq (.region 5 f100o5 false) (.seq (.region 6 f100o6 false) .ret)))))
def f100n : List (Nat × RAnn) := [(0, f100a0), (1, f100a1), (2, f100a2), (3, f100a3), (4, f100a4), (5, f100a5), (6, f100a6)]
noncomputable def f85o0 : Array Oper := cO (cL (cB f85))
def f85a0 : RAnn := ⟨[0, 4, 5], []⟩
noncomputable def f85o1 : Array Oper := cO (cL (cL (cR (cB f85))))
def f85a1 : RAnn := ⟨[7, 8, 9, 10], []⟩
noncomputable def f85o2 : Array Oper := cO (cL (cR (cL (cR (cB f85)))))
def f85a2 : RAnn := ⟨[11], []⟩
noncomputable def f85o3 : Array Oper := cO (cL (cL (cR (cR (cL (cR (cB f85)))))))
def f85a3 : RAnn := ⟨[1, 2, 6, 12, 13], []⟩
noncomputable def f85o4 : Array Oper := cO (cL (cR (cR (cB f85))))
def f85a4 : RAnn := ⟨[1, 2, 6, 12, 14, 15, 16], []⟩
def f85c : Code := (.seq (.region 0 f85o0 false) (.seq (.seq (.region 1 f85o1 false) (.seq (.region 2 f85o2 false) (.cond (.tmp 12) (.seq (.region 3 f85o3 false) .ret) .skip))) (.seq (.region 4 f85o4 false) .ret)))
def f85n : List (Nat × RAnn) := [(0, f85a0), (1, f85a1), (2, f85a2), (3, f85a3), (4, f85a4)]
noncomputable def f60o0 : Array Oper := cO (cL (cB f60))
def f60a0 : RAnn := ⟨[0, 4, 5], []⟩
noncomputable def f60o1 : Array Oper := cO (cL (cR (cB f60)))
def f60a1 : RAnn := ⟨[1, 2, 8, 9, 10, 11, 12, 13], []⟩
noncomputable def f60o2 : Array Oper := cO (cL (cR (cR (cB f60))))
def f60a2 : RAnn := ⟨[6, 7, 14, 15, 16], []⟩
def f60c : Code := (.seq (.region 0 f60o0 false) (.seq (.region 1 f60o1 false) (.seq (.region 2 f60o2 false) .ret)))
def f60n : List (Nat × RAnn) := [(0, f60a0), (1, f60a1), (2, f60a2)]
noncomputable def f33o0 : Array Oper := cO (cL (cB f33))
def f33a0 : RAnn := ⟨[0, 4], []⟩
noncomputable def f33o1 : Array Oper := cO (cL (cR (cB f33)))
def f33a1 : RAnn := ⟨[1, 2, 5, 7, 8, 9, 10, 11, 12], []⟩
noncomputable def f33o2 : Array Oper := cO (cL (cR (cR (cB f33))))
def f33a2 : RAnn := ⟨[6, 13], []⟩
def f33c : Code := (.seq (.region 0 f33o0 false) (.seq (.region 1 f33o1 false) (.seq (.region 2 f33o2 false) .ret)))
def f33n : List (Nat × RAnn) := [(0, f33a0), (1, f33a1), (2, f33a2)]
noncomputable def f84o0 : Array Oper := cO (cL (cB f84))
def f84a0 : RAnn := ⟨[4], []⟩
noncomputable def f84o1 : Array Oper := cO (cL (cL (cR (cB f84))))
def f84a1 : RAnn := ⟨[6], []⟩
noncomputable def f84o2 : Array Oper := cO (cL (cL (cL (cR (cL (cR (cB f84)))))))
def f84a2 : RAnn := ⟨[], []⟩
noncomputable def f84o3 : Array Oper := cO (cL (cL (cL (cR (cR (cL (cL (cR (cL (cR (cB f84)))))))))))
def f84a3 : RAnn := ⟨[9, 10], []⟩
noncomputable def f84o4 : Array Oper := cO (cL (cR (cL (cL (cR (cR (cL (cL (cR (cL (cR (cB f84))))))))))))
def f84a4 : RAnn := ⟨[11, 12, 13, 14, 15], []⟩
noncomputable def f84o5 : Array Oper := cO (cL (cL (cR (cR (cL (cL (cR (cR (cL (cL (cR (cL (cR (cB f84))))))))))))))
def f84a5 : RAnn := ⟨[0, 1, 5, 7, 8, 16, 17], []⟩
noncomputable def f84o6 : Array Oper := cO (cR (cR (cR (cL (cL (cR (cL (cR (cB f84)))))))))
def f84a6 : RAnn := ⟨[5, 16, 18], []⟩
noncomputable def f84o7 : Array Oper := cO (cL (cR (cR (cB f84))))
def f84a7 : RAnn := ⟨[0, 1, 7, 8, 9], []⟩
def f84b0 : Code := (.seq (.region 2 f84o2 false) (.seq (.cond (.tmp 9) .skip (.exit 0)) (.seq (.block 1 (.seq (.region 3 f84o3 false) (.seq (.region 4 f84o4 false) (.cond (.tmp 16) (.seq (.region 5 f84o5 false) .ret) .skip)))) (.region 6 f84o6 false))))
def f84c : Code := (.seq (.region 0 f84o0 false) (.seq (.seq (.region 1 f84o1 false) (.block 0 (.loop f84b0))) (.seq (.region 7 f84o7 false) .ret)))
def f84n : List (Nat × RAnn) := [(0, f84a0), (1, f84a1), (2, f84a2), (3, f84a3), (4, f84a4), (5, f84a5), (6, f84a6), (7, f84a7)]
noncomputable def f58o0 : Array Oper := cO (cL (cB f58))
def f58a0 : RAnn := ⟨[4], []⟩
noncomputable def f58o1 : Array Oper := cO (cL (cR (cB f58)))
def f58a1 : RAnn := ⟨[0, 1, 5, 6, 7, 8], []⟩
def f58c : Code := (.seq (.region 0 f58o0 false) (.seq (.region 1 f58o1 false) .ret))
def f58n : List (Nat × RAnn) := [(0, f58a0), (1, f58a1)]
noncomputable def f72o0 : Array Oper := cO (cL (cB f72))
def f72a0 : RAnn := ⟨[4], []⟩
noncomputable def f72o1 : Array Oper := cO (cL (cL (cR (cB f72))))
def f72a1 : RAnn := ⟨[6], []⟩
noncomputable def f72o2 : Array Oper := cO (cL (cL (cL (cR (cL (cR (cB f72)))))))
def f72a2 : RAnn := ⟨[], []⟩
noncomputable def f72o3 : Array Oper := cO (cL (cL (cL (cR (cR (cL (cL (cR (cL (cR (cB f72)))))))))))
def f72a3 : RAnn := ⟨[9, 10], []⟩
noncomputable def f72o4 : Array Oper := cO (cL (cR (cL (cL (cR (cR (cL (cL (cR (cL (cR (cB f72))))))))))))
def f72a4 : RAnn := ⟨[11, 12, 13, 14, 15], []⟩
noncomputable def f72o5 : Array Oper := cO (cL (cL (cR (cR (cL (cL (cR (cR (cL (cL (cR (cL (cR (cB f72))))))))))))))
def f72a5 : RAnn := ⟨[0, 1, 5, 7, 8, 16, 17], []⟩
noncomputable def f72o6 : Array Oper := cO (cR (cR (cR (cL (cL (cR (cL (cR (cB f72)))))))))
def f72a6 : RAnn := ⟨[5, 16, 18], []⟩
noncomputable def f72o7 : Array Oper := cO (cL (cR (cR (cB f72))))
def f72a7 : RAnn := ⟨[0, 1, 7, 8, 9], []⟩
def f72b0 : Code := (.seq (.region 2 f72o2 false) (.seq (.cond (.tmp 9) .skip (.exit 0)) (.seq (.block 1 (.seq (.region 3 f72o3 false) (.seq (.region 4 f72o4 false) (.cond (.tmp 16) (.seq (.region 5 f72o5 false) .ret) .skip)))) (.region 6 f72o6 false))))
def f72c : Code := (.seq (.region 0 f72o0 false) (.seq (.seq (.region 1 f72o1 false) (.block 0 (.loop f72b0))) (.seq (.region 7 f72o7 false) .ret)))
def f72n : List (Nat × RAnn) := [(0, f72a0), (1, f72a1), (2, f72a2), (3, f72a3), (4, f72a4), (5, f72a5), (6, f72a6), (7, f72a7)]
noncomputable def f44o0 : Array Oper := cO (cL (cB f44))
def f44a0 : RAnn := ⟨[4], []⟩
noncomputable def f44o1 : Array Oper := cO (cL (cR (cB f44)))
def f44a1 : RAnn := ⟨[0, 1, 5, 6, 7, 8], []⟩
def f44c : Code := (.seq (.region 0 f44o0 false) (.seq (.region 1 f44o1 false) .ret))
def f44n : List (Nat × RAnn) := [(0, f44a0), (1, f44a1)]
noncomputable def f71o0 : Array Oper := cO (cL (cB f71))
def f71a0 : RAnn := ⟨[4], []⟩
noncomputable def f71o1 : Array Oper := cO (cL (cL (cR (cB f71))))
def f71a1 : RAnn := ⟨[6], []⟩
noncomputable def f71o2 : Array Oper := cO (cL (cL (cL (cR (cL (cR (cB f71)))))))
def f71a2 : RAnn := ⟨[], []⟩
noncomputable def f71o3 : Array Oper := cO (cL (cL (cL (cR (cR (cL (cL (cR (cL (cR (cB f71)))))))))))
def f71a3 : RAnn := ⟨[9, 10], []⟩
noncomputable def f71o4 : Array Oper := cO (cL (cR (cL (cL (cR (cR (cL (cL (cR (cL (cR (cB f71))))))))))))
def f71a4 : RAnn := ⟨[11, 12, 13, 14, 15], []⟩
noncomputable def f71o5 : Array Oper := cO (cL (cL (cR (cR (cL (cL (cR (cR (cL (cL (cR (cL (cR (cB f71))))))))))))))
def f71a5 : RAnn := ⟨[0, 1, 5, 7, 8, 16, 17], []⟩
noncomputable def f71o6 : Array Oper := cO (cR (cR (cR (cL (cL (cR (cL (cR (cB f71)))))))))
def f71a6 : RAnn := ⟨[5, 16, 18], []⟩
noncomputable def f71o7 : Array Oper := cO (cL (cR (cR (cB f71))))
def f71a7 : RAnn := ⟨[0, 1, 7, 8, 9], []⟩
def f71b0 : Code := (.seq (.region 2 f71o2 false) (.seq (.cond (.tmp 9) .skip (.exit 0)) (.seq (.block 1 (.seq (.region 3 f71o3 false) (.seq (.region 4 f71o4 false) (.cond (.tmp 16) (.seq (.region 5 f71o5 false) .ret) .skip)))) (.region 6 f71o6 false))))
def f71c : Code := (.seq (.region 0 f71o0 false) (.seq (.seq (.region 1 f71o1 false) (.block 0 (.loop f71b0))) (.seq (.region 7 f71o7 false) .ret)))
def f71n : List (Nat × RAnn) := [(0, f71a0), (1, f71a1), (2, f71a2), (3, f71a3), (4, f71a4), (5, f71a5), (6, f71a6), (7, f71a7)]
noncomputable def f42o0 : Array Oper := cO (cL (cB f42))
def f42a0 : RAnn := ⟨[4], []⟩
noncomputable def f42o1 : Array Oper := cO (cL (cR (cB f42)))
def f42a1 : RAnn := ⟨[0, 1, 5, 6, 7, 8], []⟩
def f42c : Code := (.seq (.region 0 f42o0 false) (.seq (.region 1 f42o1 false) .ret))
def f42n : List (Nat × RAnn) := [(0, f42a0), (1, f42a1)]
noncomputable def f69o0 : Array Oper := cO (cL (cB f69))
def f69a0 : RAnn := ⟨[0, 3], []⟩
noncomputable def f69o1 : Array Oper := cO (cL (cR (cB f69)))
def f69a1 : RAnn := ⟨[1, 2, 4, 5, 6, 7], []⟩
def f69c : Code := (.seq (.region 0 f69o0 false) (.seq (.region 1 f69o1 false) .ret))
def f69n : List (Nat × RAnn) := [(0, f69a0), (1, f69a1)]
noncomputable def f39o0 : Array Oper := cO (cL (cB f39))
def f39a0 : RAnn := ⟨[0, 1, 4, 5], []⟩
noncomputable def f39o1 : Array Oper := cO (cL (cR (cB f39)))
def f39a1 : RAnn := ⟨[2, 3, 7, 8, 9, 10], []⟩
noncomputable def f39o2 : Array Oper := cO (cL (cR (cR (cB f39))))
def f39a2 : RAnn := ⟨[6, 11, 12, 13], []⟩
def f39c : Code := (.seq (.region 0 f39o0 false) (.seq (.region 1 f39o1 false) (.seq (.region 2 f39o2 false) .ret)))
def f39n : List (Nat × RAnn) := [(0, f39a0), (1, f39a1), (2, f39a2)]
noncomputable def f63o0 : Array Oper := cO (cL (cB f63))
def f63a0 : RAnn := ⟨[0, 1, 4], []⟩
noncomputable def f63o1 : Array Oper := cO (cL (cR (cB f63)))
def f63a1 : RAnn := ⟨[7, 8, 9, 10, 11, 12, 13], []⟩
noncomputable def f63o2 : Array Oper := cO (cL (cR (cR (cB f63))))
def f63a2 : RAnn := ⟨[2, 3, 5, 6, 14, 15, 16, 17, 18, 19, 20, 21, 22, 23, 24, 25, 26, 27, 28, 29, 30, 31, 32, 33, 34, 35, 36], []⟩
def f63c : Code := (.seq (.region 0 f63o0 false) (.seq (.region 1 f63o1 false) (.seq (.region 2 f63o2 true) .ret)))
def f63n : List (Nat × RAnn) := [(0, f63a0), (1, f63a1), (2, f63a2)]
noncomputable def f62o0 : Array Oper := cO (cL (cB f62))
def f62a0 : RAnn := ⟨[0, 3], []⟩
noncomputable def f62o1 : Array Oper := cO (cL (cR (cB f62)))
def f62a1 : RAnn := ⟨[1, 2, 4, 5, 6, 7], []⟩
def f62c : Code := (.seq (.region 0 f62o0 false) (.seq (.region 1 f62o1 false) .ret))
def f62n : List (Nat × RAnn) := [(0, f62a0), (1, f62a1)]
noncomputable def f61o0 : Array Oper := cO (cL (cB f61))
def f61a0 : RAnn := ⟨[3], []⟩
noncomputable def f61o1 : Array Oper := cO (cL (cR (cB f61)))
def f61a1 : RAnn := ⟨[0, 1, 4, 5, 6, 7, 8, 9, 10, 11, 12, 13, 14, 15, 16], []⟩
def f61c : Code := (.seq (.region 0 f61o0 false) (.seq (.region 1 f61o1 false) .ret))
def f61n : List (Nat × RAnn) := [(0, f61a0), (1, f61a1)]
noncomputable def f34o0 : Array Oper := cO (cL (cB f34))
def f34a0 : RAnn := ⟨[0, 4], []⟩
noncomputable def f34o1 : Array Oper := cO (cL (cR (cB f34)))
def f34a1 : RAnn := ⟨[1, 2, 5, 6, 7, 8, 9, 10, 11, 12, 13], []⟩
def f34c : Code := (.seq (.region 0 f34o0 false) (.seq (.region 1 f34o1 false) .ret))
def f34n : List (Nat × RAnn) := [(0, f34a0), (1, f34a1)]
noncomputable def f59o0 : Array Oper := cO (cL (cB f59))
def f59a0 : RAnn := ⟨[3], []⟩
noncomputable def f59o1 : Array Oper := cO (cL (cR (cB f59)))
def f59a1 : RAnn := ⟨[0, 1, 4, 5, 6, 7], []⟩
def f59c : Code := (.seq (.region 0 f59o0 false) (.seq (.region 1 f59o1 false) .ret))
def f59n : List (Nat × RAnn) := [(0, f59a0), (1, f59a1)]
noncomputable def f29o0 : Array Oper := cO (cL (cB f29))
def f29a0 : RAnn := ⟨[0, 7], []⟩
noncomputable def f29o1 : Array Oper := cO (cL (cL (cR (cB f29))))
def f29a1 : RAnn := ⟨[10, 11, 12], []⟩
noncomputable def f29o2 : Array Oper := cO (cL (cR (cL (cR (cB f29)))))
def f29a2 : RAnn := ⟨[13], []⟩
noncomputable def f29o3 : Array Oper := cO (cL (cL (cR (cR (cL (cR (cB f29)))))))
def f29a3 : RAnn := ⟨[1, 2, 3, 8, 14, 15, 16], []⟩
noncomputable def f29o4 : Array Oper := cO (cL (cR (cR (cB f29))))
def f29a4 : RAnn := ⟨[1, 3, 8, 14, 17, 18, 19, 20, 21], []⟩
noncomputable def f29o5 : Array Oper := cO (cL (cL (cR (cR (cR (cB f29))))))
def f29a5 : RAnn := ⟨[2, 22, 23], []⟩
noncomputable def f29o6 : Array Oper := cO (cL (cL (cR (cL (cR (cR (cR (cB f29))))))))
def f29a6 : RAnn := ⟨[9, 24, 25], []⟩
noncomputable def f29o7 : Array Oper := cO (cL (cR (cR (cR (cR (cB f29))))))
def f29a7 : RAnn := ⟨[9, 24, 26], []⟩
def f29c : Code := (.seq (.region 0 f29o0 false) (.seq (.seq (.region 1 f29o1 false) (.seq (.region 2 f29o2 false) (.cond (.tmp 14) (.seq (.region 3 f29o3 false) .ret) .skip))) (.seq (.region 4 f29o4 false) (.seq (.seq (.region 5 f29o5 false) (.cond (.tmp 24) (.seq (.region 6 f29o6 false) .ret) .skip)) (.seq (.region 7 f29o7 false) .ret)))))
def f29n : List (Nat × RAnn) := [(0, f29a0), (1, f29a1), (2, f29a2), (3, f29a3), (4, f29a4), (5, f29a5), (6, f29a6), (7, f29a7)]
noncomputable def f56o0 : Array Oper := cO (cL (cB f56))
def f56a0 : RAnn := ⟨[2], []⟩
noncomputable def f56o1 : Array Oper := cO (cL (cR (cB f56)))
def f56a1 : RAnn := ⟨[0, 3, 4, 5, 6], []⟩
def f56c : Code := (.seq (.region 0 f56o0 false) (.seq (.region 1 f56o1 false) .ret))
def f56n : List (Nat × RAnn) := [(0, f56a0), (1, f56a1)]
noncomputable def f28o0 : Array Oper := cO (cL (cB f28))
def f28a0 : RAnn := ⟨[0, 6, 7], []⟩
noncomputable def f28o1 : Array Oper := cO (cL (cL (cR (cB f28))))
def f28a1 : RAnn := ⟨[1, 3, 8, 16, 17, 18, 19, 20, 21, 22, 23], []⟩
noncomputable def f28o2 : Array Oper := cO (cL (cR (cL (cR (cB f28)))))
def f28a2 : RAnn := ⟨[24], []⟩
noncomputable def f28o3 : Array Oper := cO (cL (cL (cR (cR (cL (cR (cB f28)))))))
def f28a3 : RAnn := ⟨[2, 9, 25, 26], []⟩
noncomputable def f28o4 : Array Oper := cO (cL (cR (cR (cB f28))))
def f28a4 : RAnn := ⟨[9, 25], [(0, { keep := [0] })]⟩
noncomputable def f28o5 : Array Oper := cO (cL (cL (cR (cR (cR (cB f28))))))
def f28a5 : RAnn := ⟨[2], []⟩
noncomputable def f28o6 : Array Oper := cO (cL (cL (cL (cR (cL (cR (cR (cR (cB f28)))))))))
def f28a6 : RAnn := ⟨[], []⟩
noncomputable def f28o7 : Array Oper := cO (cL (cL (cL (cR (cR (cL (cL (cR (cL (cR (cR (cR (cB f28)))))))))))))
def f28a7 : RAnn := ⟨[30, 31, 32], []⟩
noncomputable def f28o8 : Array Oper := cO (cL (cR (cL (cL (cR (cR (cL (cL (cR (cL (cR (cR (cR (cB f28))))))))))))))
def f28a8 : RAnn := ⟨[], [(0, { site := true })]⟩
noncomputable def f28o9 : Array Oper := cO (cL (cL (cR (cR (cL (cL (cR (cR (cL (cL (cR (cL (cR (cR (cR (cB f28))))))))))))))))
def f28a9 : RAnn := ⟨[12], []⟩
noncomputable def f28o10 : Array Oper := cO (cL (cL (cL (cR (cL (cR (cR (cL (cL (cR (cR (cL (cL (cR (cL (cR (cR (cR (cB f28)))))))))))))))))))
def f28a10 : RAnn := ⟨[], []⟩
noncomputable def f28o11 : Array Oper := cO (cL (cL (cL (cR (cR (cL (cL (cR (cL (cR (cR (cL (cL (cR (cR (cL (cL (cR (cL (cR (cR (cR (cB f28)))))))))))))))))))))))
def f28a11 : RAnn := ⟨[36, 37, 38], []⟩
noncomputable def f28o12 : Array Oper := cO (cR (cL (cL (cR (cR (cL (cL (cR (cL (cR (cR (cL (cL (cR (cR (cL (cL (cR (cL (cR (cR (cR (cB f28)))))))))))))))))))))))
def f28a12 : RAnn := ⟨[15, 39, 40, 41, 42, 43, 44, 45, 46, 47, 48, 49, 50, 51, 52, 53, 54, 55, 56], [(18, { eff := true })]⟩
noncomputable def f28o13 : Array Oper := cO (cR (cR (cR (cL (cL (cR (cL (cR (cR (cL (cL (cR (cR (cL (cL (cR (cL (cR (cR (cR (cB f28)))))))))))))))))))))
def f28a13 : RAnn := ⟨[57], []⟩
noncomputable def f28o14 : Array Oper := cO (cR (cR (cR (cL (cL (cR (cR (cL (cL (cR (cL (cR (cR (cR (cB f28)))))))))))))))
def f28a14 : RAnn := ⟨[13, 33, 34, 35, 36, 58, 59, 60, 61, 62], [(0, { tk := [10], keep := [0] }), (4, { tk := [58], keep := [0] }), (5, { tk := [62], keep := [0] })]⟩
noncomputable def f28o15 : Array Oper := cO (cR (cR (cR (cL (cL (cR (cL (cR (cR (cR (cB f28)))))))))))
def f28a15 : RAnn := ⟨[63], []⟩
noncomputable def f28o16 : Array Oper := cO (cL (cR (cR (cR (cR (cB f28))))))
def f28a16 : RAnn := ⟨[10, 27, 28, 29, 30, 64, 65], []⟩
def f28b0 : Code := (.seq (.region 10 f28o10 false) (.seq (.cond (.tmp 36) .skip (.exit 2)) (.seq (.block 3 (.seq (.region 11 f28o11 false) (.region 12 f28o12 true))) (.region 13 f28o13 false))))
def f28b1 : Code := (.seq (.region 6 f28o6 false) (.seq (.cond (.tmp 30) .skip (.exit 0)) (.seq (.block 1 (.seq (.region 7 f28o7 false) (.seq (.region 8 f28o8 false) (.seq (.seq (.region 9 f28o9 false) (.block 2 (.loop f28b0))) (.region 14 f28o14 false))))) (.region 15 f28o15 false))))
def f28c : Code := (.seq (.region 0 f28o0 false) (.seq (.seq (.region 1 f28o1 false) (.seq (.region 2 f28o2 false) (.cond (.tmp 25) (.seq (.region 3 f28o3 false) .ret) .skip))) (.seq (.region 4 f28o4 false) (.seq (.seq (.region 5 f28o5 false) (.block 0 (.loop f28b1))) (.seq (.region 16 f28o16 false) .ret)))))
def f28n : List (Nat × RAnn) := [(0, f28a0), (1, f28a1), (2, f28a2), (3, f28a3), (4, f28a4), (5, f28a5), (6, f28a6), (7, f28a7), (8, f28a8), (9, f28a9), (10, f28a10), (11, f28a11), (12, f28a12), (13, f28a13), (14, f28a14), (15, f28a15), (16, f28a16)]
noncomputable def f30o0 : Array Oper := cO (cL (cB f30))
def f30a0 : RAnn := ⟨[7], []⟩
noncomputable def f30o1 : Array Oper := cO (cL (cR (cB f30)))
def f30a1 : RAnn := ⟨[1, 10, 11], []⟩
noncomputable def f30o2 : Array Oper := cO (cL (cL (cR (cR (cB f30)))))
def f30a2 : RAnn := ⟨[2], []⟩
noncomputable def f30o3 : Array Oper := cO (cL (cL (cL (cR (cL (cR (cR (cB f30))))))))
def f30a3 : RAnn := ⟨[], []⟩
noncomputable def f30o4 : Array Oper := cO (cL (cL (cL (cR (cR (cL (cL (cR (cL (cR (cR (cB f30))))))))))))
def f30a4 : RAnn := ⟨[15, 16, 17], []⟩
noncomputable def f30o5 : Array Oper := cO (cL (cL (cR (cL (cL (cR (cR (cL (cL (cR (cL (cR (cR (cB f30))))))))))))))
def f30a5 : RAnn := ⟨[18, 19, 20], []⟩
noncomputable def f30o6 : Array Oper := cO (cL (cL (cR (cR (cL (cL (cR (cR (cL (cL (cR (cL (cR (cR (cB f30)))))))))))))))
def f30a6 : RAnn := ⟨[21, 22, 23, 24, 25, 26, 27, 28, 29, 30, 31, 32, 33], []⟩
noncomputable def f30o7 : Array Oper := cO (cL (cR (cL (cR (cR (cL (cL (cR (cR (cL (cL (cR (cL (cR (cR (cB f30))))))))))))))))
def f30a7 : RAnn := ⟨[34, 35, 36, 37, 38], []⟩
noncomputable def f30o8 : Array Oper := cO (cL (cR (cR (cR (cL (cL (cR (cR (cL (cL (cR (cL (cR (cR (cB f30)))))))))))))))
def f30a8 : RAnn := ⟨[34, 39, 40, 41, 42, 43, 44, 45, 46, 47, 48, 49, 50], []⟩
noncomputable def f30o9 : Array Oper := cO (cL (cR (cR (cR (cR (cL (cL (cR (cR (cL (cL (cR (cL (cR (cR (cB f30))))))))))))))))
def f30a9 : RAnn := ⟨[9, 51, 52, 53, 54, 55], []⟩
noncomputable def f30o10 : Array Oper := cO (cR (cR (cR (cL (cL (cR (cL (cR (cR (cB f30))))))))))
def f30a10 : RAnn := ⟨[9, 21, 51, 56], []⟩
noncomputable def f30o11 : Array Oper := cO (cL (cR (cR (cR (cB f30)))))
def f30a11 : RAnn := ⟨[0, 12, 13, 14, 15, 57, 58], []⟩
def f30b0 : Code := (.seq (.region 3 f30o3 false) (.seq (.cond (.tmp 15) .skip (.exit 0)) (.seq (.block 1 (.seq (.region 4 f30o4 false) (.seq (.seq (.region 5 f30o5 false) (.cond (.tmp 21) (.exit 1) .skip)) (.seq (.seq (.region 6 f30o6 false) (.cond (.tmp 34) (.region 7 f30o7 false) .skip)) (.seq (.region 8 f30o8 false) (.cond (.tmp 51) (.region 9 f30o9 false) .skip)))))) (.region 10 f30o10 false))))
def f30c : Code := (.seq (.region 0 f30o0 false) (.seq (.region 1 f30o1 false) (.seq (.seq (.region 2 f30o2 false) (.block 0 (.loop f30b0))) (.seq (.region 11 f30o11 false) .ret))))
def f30n : List (Nat × RAnn) := [(0, f30a0), (1, f30a1), (2, f30a2), (3, f30a3), (4, f30a4), (5, f30a5), (6, f30a6), (7, f30a7), (8, f30a8), (9, f30a9), (10, f30a10), (11, f30a11)]
noncomputable def f11o0 : Array Oper := cO (cL (cB f11))
def f11a0 : RAnn := ⟨[0, 8], []⟩
noncomputable def f11o1 : Array Oper := cO (cL (cR (cB f11)))
def f11a1 : RAnn := ⟨[1, 3, 16, 17, 18, 19, 20, 21, 22, 23], []⟩
noncomputable def f11o2 : Array Oper := cO (cL (cL (cL (cR (cR (cB f11))))))
def f11a2 : RAnn := ⟨[25, 26], []⟩
noncomputable def f11o3 : Array Oper := cO (cL (cL (cR (cL (cL (cR (cR (cB f11))))))))
def f11a3 : RAnn := ⟨[2, 9, 10, 24, 27], []⟩
noncomputable def f11o4 : Array Oper := cO (cL (cR (cR (cL (cL (cR (cR (cB f11))))))))
def f11a4 : RAnn := ⟨[10, 24, 29, 30, 31], []⟩
noncomputable def f11o5 : Array Oper := cO (cL (cL (cR (cR (cR (cL (cL (cR (cR (cB f11))))))))))
def f11a5 : RAnn := ⟨[2, 9, 28], []⟩
noncomputable def f11o6 : Array Oper := cO (cL (cR (cR (cR (cB f11)))))
def f11a6 : RAnn := ⟨[9, 28, 32, 33, 34, 35, 36, 37], []⟩
noncomputable def f11o7 : Array Oper := cO (cL (cL (cR (cR (cR (cR (cB f11)))))))
def f11a7 : RAnn := ⟨[], []⟩
noncomputable def f11o8 : Array Oper := cO (cL (cL (cL (cR (cL (cR (cR (cR (cR (cB f11))))))))))
def f11a8 : RAnn := ⟨[], []⟩
noncomputable def f11o9 : Array Oper := cO (cL (cL (cL (cR (cR (cL (cL (cR (cL (cR (cR (cR (cR (cB f11))))))))))))))
def f11a9 : RAnn := ⟨[41, 42, 43, 44], []⟩
noncomputable def f11o10 : Array Oper := cO (cL (cR (cL (cL (cR (cR (cL (cL (cR (cL (cR (cR (cR (cR (cB f11)))))))))))))))
def f11a10 : RAnn := ⟨[13, 45, 46, 47, 48, 49, 50, 51, 52, 53], []⟩
noncomputable def f11o11 : Array Oper := cO (cL (cL (cR (cR (cL (cL (cR (cR (cL (cL (cR (cL (cR (cR (cR (cR (cB f11)))))))))))))))))
def f11a11 : RAnn := ⟨[12, 54], []⟩
noncomputable def f11o12 : Array Oper := cO (cL (cR (cL (cR (cR (cL (cL (cR (cR (cL (cL (cR (cL (cR (cR (cR (cR (cB f11))))))))))))))))))
def f11a12 : RAnn := ⟨[55, 56, 57], []⟩
noncomputable def f11o13 : Array Oper := cO (cR (cR (cR (cL (cL (cR (cR (cL (cL (cR (cL (cR (cR (cR (cR (cB f11))))))))))))))))
def f11a13 : RAnn := ⟨[14, 15, 55, 58, 59, 60, 61, 62, 63], []⟩
noncomputable def f11o14 : Array Oper := cO (cR (cR (cR (cL (cL (cR (cL (cR (cR (cR (cR (cB f11))))))))))))
def f11a14 : RAnn := ⟨[64], []⟩
noncomputable def f11o15 : Array Oper := cO (cL (cL (cR (cR (cR (cR (cR (cB f11))))))))
def f11a15 : RAnn := ⟨[2, 38, 39, 40, 41, 65, 66], []⟩
noncomputable def f11o16 : Array Oper := cO (cL (cR (cL (cR (cR (cR (cR (cR (cB f11)))))))))
def f11a16 : RAnn := ⟨[11, 67, 68, 69, 70, 71, 72, 73, 74, 75], []⟩
noncomputable def f11o17 : Array Oper := cO (cL (cR (cR (cR (cR (cR (cR (cB f11))))))))
def f11a17 : RAnn := ⟨[11, 67, 76, 77], []⟩
def f11b0 : Code := (.seq (.region 8 f11o8 false) (.seq (.cond (.tmp 41) .skip (.exit 1)) (.seq (.block 2 (.seq (.region 9 f11o9 false) (.seq (.region 10 f11o10 false) (.seq (.seq (.region 11 f11o11 false) (.cond (.tmp 55) (.region 12 f11o12 false) .skip)) (.region 13 f11o13 false))))) (.region 14 f11o14 false))))
def f11c : Code := (.seq (.region 0 f11o0 false) (.seq (.region 1 f11o1 false) (.seq (.block 0 (.seq (.region 2 f11o2 false) (.cond (.tmp 24) (.seq (.region 3 f11o3 false) .ret) (.seq (.region 4 f11o4 false) (.cond (.tmp 28) (.seq (.region 5 f11o5 false) .ret) .skip))))) (.seq (.region 6 f11o6 false) (.seq (.seq (.region 7 f11o7 false) (.block 1 (.loop f11b0))) (.seq (.seq (.region 15 f11o15 false) (.cond (.tmp 67) (.region 16 f11o16 false) .skip)) (.seq (.region 17 f11o17 false) .ret)))))))
def f11n : List (Nat × RAnn) := [(0, f11a0), (1, f11a1), (2, f11a2), (3, f11a3), (4, f11a4), (5, f11a5), (6, f11a6), (7, f11a7), (8, f11a8), (9, f11a9), (10, f11a10), (11, f11a11), (12, f11a12), (13, f11a13), (14, f11a14), (15, f11a15), (16, f11a16), (17, f11a17)]
noncomputable def f10o0 : Array Oper := cO (cL (cB f10))
def f10a0 : RAnn := ⟨[0], []⟩
noncomputable def f10o1 : Array Oper := cO (cL (cR (cB f10)))
def f10a1 : RAnn := ⟨[7, 8, 9, 10], []⟩
noncomputable def f10o2 : Array Oper := cO (cL (cR (cR (cB f10))))
def f10a2 : RAnn := ⟨[11, 12, 13, 14, 15, 16], []⟩
noncomputable def f10o3 : Array Oper := cO (cL (cR (cR (cR (cB f10)))))
def f10a3 : RAnn := ⟨[1, 17, 18, 19, 20, 21, 22, 23], []⟩
noncomputable def f10o4 : Array Oper := cO (cL (cR (cR (cR (cR (cB f10))))))
def f10a4 : RAnn := ⟨[2, 3, 4, 5, 6, 24, 25, 26, 27, 28, 29, 30, 31, 32, 33, 34, 35, 36, 37, 38, 39, 40, 41], []⟩
def f10c : Code := (.seq (.region 0 f10o0 false) (.seq (.region 1 f10o1 false) (.seq (.region 2 f10o2 false) (.seq (.region 3 f10o3 false) (.seq (.region 4 f10o4 false) .ret)))))
def f10n : List (Nat × RAnn) := [(0, f10a0), (1, f10a1), (2, f10a2), (3, f10a3), (4, f10a4)]
noncomputable def f67o0 : Array Oper := cO (cL (cB f67))
def f67a0 : RAnn := ⟨[0, 4], []⟩
noncomputable def f67o1 : Array Oper := cO (cL (cR (cB f67)))
def f67a1 : RAnn := ⟨[1, 2, 5, 6, 7, 8, 9, 10, 11, 12, 13, 14, 15, 16], []⟩
def f67c : Code := (.seq (.region 0 f67o0 false) (.seq (.region 1 f67o1 false) .ret))
def f67n : List (Nat × RAnn) := [(0, f67a0), (1, f67a1)]
noncomputable def f37o0 : Array Oper := cO (cL (cB f37))
def f37a0 : RAnn := ⟨[0, 6, 7], []⟩
noncomputable def f37o1 : Array Oper := cO (cL (cL (cR (cB f37))))
def f37a1 : RAnn := ⟨[9, 10, 11, 12], []⟩
noncomputable def f37o2 : Array Oper := cO (cL (cR (cL (cR (cB f37)))))
def f37a2 : RAnn := ⟨[13], []⟩
noncomputable def f37o3 : Array Oper := cO (cL (cL (cR (cR (cL (cR (cB f37)))))))
def f37a3 : RAnn := ⟨[1, 2, 3, 8, 14, 15], []⟩
noncomputable def f37o4 : Array Oper := cO (cL (cR (cR (cB f37))))
def f37a4 : RAnn := ⟨[1, 2, 3, 8, 14, 16, 17, 18, 19, 20, 21, 22], []⟩
def f37c : Code := (.seq (.region 0 f37o0 false) (.seq (.seq (.region 1 f37o1 false) (.seq (.region 2 f37o2 false) (.cond (.tmp 14) (.seq (.region 3 f37o3 false) .ret) .skip))) (.seq (.region 4 f37o4 false) .ret)))
def f37n : List (Nat × RAnn) := [(0, f37a0), (1, f37a1), (2, f37a2), (3, f37a3), (4, f37a4)]
noncomputable def f43v12o0 : Array Oper := cO (cL (cB f43))
def f43v12a0 : RAnn := ⟨[0, 3], []⟩
noncomputable def f43v12o1 : Array Oper := cO (cL (cR (cB f43)))
def f43v12a1 : RAnn := ⟨[1, 2, 4, 5, 6, 7], []⟩
def f43v12c : Code := (.seq (.region 0 f43v12o0 false) (.seq (.region 1 f43v12o1 false) .ret))
def f43v12n : List (Nat × RAnn) := [(0, f43v12a0), (1, f43v12a1)]
noncomputable def f41v12o0 : Array Oper := cO (cL (cB f41))
def f41v12a0 : RAnn := ⟨[3], []⟩
noncomputable def f41v12o1 : Array Oper := cO (cL (cR (cB f41)))
def f41v12a1 : RAnn := ⟨[0, 1, 4, 5, 6, 7], []⟩
def f41v12c : Code := (.seq (.region 0 f41v12o0 false) (.seq (.region 1 f41v12o1 false) .ret))
def f41v12n : List (Nat × RAnn) := [(0, f41v12a0), (1, f41v12a1)]
noncomputable def f40o0 : Array Oper := cO (cL (cB f40))
def f40a0 : RAnn := ⟨[6], []⟩
noncomputable def f40o1 : Array Oper := cO (cL (cR (cB f40)))
def f40a1 : RAnn := ⟨[1, 2, 8, 9, 10], []⟩
noncomputable def f40o2 : Array Oper := cO (cL (cL (cR (cR (cB f40)))))
def f40a2 : RAnn := ⟨[0], []⟩
noncomputable def f40o3 : Array Oper := cO (cL (cL (cR (cL (cR (cR (cB f40)))))))
def f40a3 : RAnn := ⟨[13], []⟩
noncomputable def f40o4 : Array Oper := cO (cL (cL (cR (cL (cR (cL (cR (cR (cB f40)))))))))
def f40a4 : RAnn := ⟨[7, 11, 12, 14, 15], []⟩
noncomputable def f40o5 : Array Oper := cO (cL (cR (cR (cL (cR (cL (cR (cR (cB f40)))))))))
def f40a5 : RAnn := ⟨[12, 17], []⟩
noncomputable def f40o6 : Array Oper := cO (cL (cL (cR (cR (cR (cL (cR (cL (cR (cR (cB f40)))))))))))
def f40a6 : RAnn := ⟨[7, 11, 16, 18, 19], []⟩
noncomputable def f40o7 : Array Oper := cO (cL (cR (cR (cR (cR (cL (cR (cL (cR (cR (cB f40)))))))))))
def f40a7 : RAnn := ⟨[16, 21], []⟩
noncomputable def f40o8 : Array Oper := cO (cL (cL (cR (cR (cR (cR (cR (cL (cR (cL (cR (cR (cB f40)))))))))))))
def f40a8 : RAnn := ⟨[7, 11, 20, 22, 23], []⟩
noncomputable def f40o9 : Array Oper := cO (cL (cR (cR (cR (cR (cR (cR (cL (cR (cL (cR (cR (cB f40)))))))))))))
def f40a9 : RAnn := ⟨[20, 25], []⟩
noncomputable def f40o10 : Array Oper := cO (cL (cL (cR (cR (cR (cR (cR (cR (cR (cL (cR (cL (cR (cR (cB f40)))))))))))))))
def f40a10 : RAnn := ⟨[7, 11, 24, 26, 27], []⟩
noncomputable def f40o11 : Array Oper := cO (cL (cR (cR (cR (cR (cR (cR (cR (cR (cL (cR (cL (cR (cR (cB f40)))))))))))))))
def f40a11 : RAnn := ⟨[11, 24, 29], []⟩
noncomputable def f40o12 : Array Oper := cO (cL (cL (cR (cR (cR (cR (cR (cR (cR (cR (cR (cL (cR (cL (cR (cR (cB f40)))))))))))))))))
def f40a12 : RAnn := ⟨[7, 28, 30, 31], []⟩
noncomputable def f40o13 : Array Oper := cO (cL (cR (cR (cR (cB f40)))))
def f40a13 : RAnn := ⟨[7, 28, 32, 33], []⟩
def f40c : Code := (.seq (.region 0 f40o0 false) (.seq (.region 1 f40o1 false) (.seq (.seq (.region 2 f40o2 false) (.block 0 (.seq (.region 3 f40o3 false) (.cond (.tmp 12) (.seq (.region 4 f40o4 false) .ret) (.seq (.region 5 f40o5 false) (.cond (.tmp 16) (.seq (.region 6 f40o6 false) .ret) (.seq (.region 7 f40o7 false) (.cond (.tmp 20) (.seq (.region 8 f40o8 false) .ret) (.seq (.region 9 f40o9 false) (.cond (.tmp 24) (.seq (.region 10 f40o10 false) .ret) (.seq (.region 11 f40o11 false) (.cond (.tmp 28) (.seq (.region 12 f40o12 false) .ret) .skip)))))))))))) (.seq (.region 13 f40o13 false) .ret))))
def f40n : List (Nat × RAnn) := [(0, f40a0), (1, f40a1), (2, f40a2), (3, f40a3), (4, f40a4), (5, f40a5), (6, f40a6), (7, f40a7), (8, f40a8), (9, f40a9), (10, f40a10), (11, f40a11), (12, f40a12), (13, f40a13)]
noncomputable def f38o0 : Array Oper := cO (cL (cB f38))
def f38a0 : RAnn := ⟨[0, 4], []⟩
noncomputable def f38o1 : Array Oper := cO (cL (cR (cB f38)))
def f38a1 : RAnn := ⟨[6, 8, 9, 10, 11, 12, 13, 14], []⟩
noncomputable def f38o2 : Array Oper := cO (cL (cR (cR (cB f38))))
def f38a2 : RAnn := ⟨[1, 5, 15, 16, 17, 18, 19], []⟩
noncomputable def f38o3 : Array Oper := cO (cL (cR (cR (cR (cB f38)))))
def f38a3 : RAnn := ⟨[2, 3, 7, 20, 21, 22, 23, 24, 25, 26, 27, 28, 29, 30, 31, 32, 33, 34, 35, 36, 37, 38, 39, 40, 41, 42, 43], []⟩
def f38c : Code := (.seq (.region 0 f38o0 false) (.seq (.region 1 f38o1 false) (.seq (.region 2 f38o2 false) (.seq (.region 3 f38o3 true) .ret))))
def f38n : List (Nat × RAnn) := [(0, f38a0), (1, f38a1), (2, f38a2), (3, f38a3)]
noncomputable def f17o0 : Array Oper := cO (cL (cB f17))
def f17a0 : RAnn := ⟨[0, 3, 8, 9], []⟩
noncomputable def f17o1 : Array Oper := cO (cL (cR (cB f17)))
def f17a1 : RAnn := ⟨[15, 16, 17, 18, 19, 20, 21], []⟩
noncomputable def f17o2 : Array Oper := cO (cL (cL (cL (cR (cR (cB f17))))))
def f17a2 : RAnn := ⟨[23, 24], []⟩
noncomputable def f17o3 : Array Oper := cO (cL (cL (cR (cL (cL (cR (cR (cB f17))))))))
def f17a3 : RAnn := ⟨[1, 2, 4, 7, 10, 11, 22, 25], []⟩
noncomputable def f17o4 : Array Oper := cO (cL (cR (cR (cL (cL (cR (cR (cB f17))))))))
def f17a4 : RAnn := ⟨[10, 11, 22, 27, 28], []⟩
noncomputable def f17o5 : Array Oper := cO (cL (cL (cR (cR (cR (cL (cL (cR (cR (cB f17))))))))))
def f17a5 : RAnn := ⟨[1, 2, 4, 7, 26], []⟩
noncomputable def f17o6 : Array Oper := cO (cL (cR (cR (cR (cB f17)))))
def f17a6 : RAnn := ⟨[1, 4, 26, 29, 30, 31, 32, 33, 34, 35, 36], []⟩
noncomputable def f17o7 : Array Oper := cO (cL (cL (cR (cR (cR (cR (cB f17)))))))
def f17a7 : RAnn := ⟨[37], []⟩
noncomputable def f17o8 : Array Oper := cO (cL (cL (cR (cL (cR (cR (cR (cR (cB f17)))))))))
def f17a8 : RAnn := ⟨[2, 7, 11, 12, 38, 39], []⟩
noncomputable def f17o9 : Array Oper := cO (cL (cR (cR (cR (cR (cR (cB f17)))))))
def f17a9 : RAnn := ⟨[11, 38, 40], []⟩
noncomputable def f17o10 : Array Oper := cO (cL (cR (cR (cR (cR (cR (cR (cB f17))))))))
def f17a10 : RAnn := ⟨[41], []⟩
noncomputable def f17o11 : Array Oper := cO (cL (cR (cR (cR (cR (cR (cR (cR (cB f17)))))))))
def f17a11 : RAnn := ⟨[2, 7, 12, 13, 14, 42, 43, 44, 45, 46, 47, 48, 49], []⟩
def f17c : Code := (.seq (.region 0 f17o0 false) (.seq (.region 1 f17o1 false) (.seq (.block 0 (.seq (.region 2 f17o2 false) (.cond (.tmp 22) (.seq (.region 3 f17o3 false) .ret) (.seq (.region 4 f17o4 false) (.cond (.tmp 26) (.seq (.region 5 f17o5 false) .ret) .skip))))) (.seq (.region 6 f17o6 false) (.seq (.seq (.region 7 f17o7 false) (.cond (.tmp 38) (.seq (.region 8 f17o8 false) .ret) .skip)) (.seq (.region 9 f17o9 false) (.seq (.region 10 f17o10 false) (.seq (.region 11 f17o11 false) .ret))))))))
def f17n : List (Nat × RAnn) := [(0, f17a0), (1, f17a1), (2, f17a2), (3, f17a3), (4, f17a4), (5, f17a5), (6, f17a6), (7, f17a7), (8, f17a8), (9, f17a9), (10, f17a10), (11, f17a11)]
noncomputable def f75o0 : Array Oper := cO (cL (cB f75))
def f75a0 : RAnn := ⟨[2], []⟩
noncomputable def f75o1 : Array Oper := cO (cL (cL (cR (cB f75))))
def f75a1 : RAnn := ⟨[3], []⟩
noncomputable def f75o2 : Array Oper := cO (cL (cL (cR (cL (cR (cB f75))))))
def f75a2 : RAnn := ⟨[], []⟩
noncomputable def f75o3 : Array Oper := cO (cL (cR (cR (cB f75))))
def f75a3 : RAnn := ⟨[0, 4, 5, 6, 7], [(0, { keep := [0] }), (2, { tk := [5] })]⟩
def f75c : Code := (.seq (.region 0 f75o0 false) (.seq (.seq (.region 1 f75o1 false) (.cond (.tmp 4) (.seq (.region 2 f75o2 false) .ret) .skip)) (.seq (.region 3 f75o3 false) .ret)))
def f75n : List (Nat × RAnn) := [(0, f75a0), (1, f75a1), (2, f75a2), (3, f75a3)]
noncomputable def f47o0 : Array Oper := cO (cL (cB f47))
def f47a0 : RAnn := ⟨[2], []⟩
noncomputable def f47o1 : Array Oper := cO (cL (cR (cB f47)))
def f47a1 : RAnn := ⟨[], [(0, { keep := [0] })]⟩
noncomputable def f47o2 : Array Oper := cO (cL (cL (cR (cR (cB f47)))))
def f47a2 : RAnn := ⟨[0], []⟩
noncomputable def f47o3 : Array Oper := cO (cL (cL (cL (cR (cL (cR (cR (cB f47))))))))
def f47a3 : RAnn := ⟨[], []⟩
noncomputable def f47o4 : Array Oper := cO (cL (cL (cL (cR (cR (cL (cL (cR (cL (cR (cR (cB f47))))))))))))
def f47a4 : RAnn := ⟨[9, 10, 11], []⟩
noncomputable def f47o5 : Array Oper := cO (cR (cL (cL (cR (cR (cL (cL (cR (cL (cR (cR (cB f47))))))))))))
def f47a5 : RAnn := ⟨[5, 12, 13, 14, 15, 16], [(0, { tk := [3], keep := [0] }), (4, { tk := [12], keep := [0] }), (5, { tk := [16], keep := [0] })]⟩
noncomputable def f47o6 : Array Oper := cO (cR (cR (cR (cL (cL (cR (cL (cR (cR (cB f47))))))))))
def f47a6 : RAnn := ⟨[17], []⟩
noncomputable def f47o7 : Array Oper := cO (cL (cR (cR (cR (cB f47)))))
def f47a7 : RAnn := ⟨[3, 6, 7, 8, 9, 18], []⟩
def f47b0 : Code := (.seq (.region 3 f47o3 false) (.seq (.cond (.tmp 9) .skip (.exit 0)) (.seq (.block 1 (.seq (.region 4 f47o4 false) (.region 5 f47o5 false))) (.region 6 f47o6 false))))
def f47c : Code := (.seq (.region 0 f47o0 false) (.seq (.region 1 f47o1 false) (.seq (.seq (.region 2 f47o2 false) (.block 0 (.loop f47b0))) (.seq (.region 7 f47o7 false) .ret))))
def f47n : List (Nat × RAnn) := [(0, f47a0), (1, f47a1), (2, f47a2), (3, f47a3), (4, f47a4), (5, f47a5), (6, f47a6), (7, f47a7)]
noncomputable def f49o0 : Array Oper := cO (cL (cB f49))
def f49a0 : RAnn := ⟨[0, 4, 5], []⟩
noncomputable def f49o1 : Array Oper := cO (cL (cL (cR (cB f49))))
def f49a1 : RAnn := ⟨[2, 6, 7, 8], []⟩
noncomputable def f49o2 : Array Oper := cO (cL (cL (cR (cL (cR (cB f49))))))
def f49a2 : RAnn := ⟨[1, 9], []⟩
noncomputable def f49o3 : Array Oper := cO (cL (cR (cR (cB f49))))
def f49a3 : RAnn := ⟨[1, 9, 10], []⟩
def f49c : Code := (.seq (.region 0 f49o0 false) (.seq (.seq (.region 1 f49o1 false) (.cond (.tmp 9) (.seq (.region 2 f49o2 false) .ret) .skip)) (.seq (.region 3 f49o3 false) .ret)))
def f49n : List (Nat × RAnn) := [(0, f49a0), (1, f49a1), (2, f49a2), (3, f49a3)]
noncomputable def f20o0 : Array Oper := cO (cL (cB f20))
def f20a0 : RAnn := ⟨[0, 8, 9], []⟩
noncomputable def f20o1 : Array Oper := cO (cL (cR (cB f20)))
def f20a1 : RAnn := ⟨[1, 4, 17, 18, 19, 20, 21, 22, 23, 24, 25], []⟩
noncomputable def f20o2 : Array Oper := cO (cL (cL (cL (cR (cR (cB f20))))))
def f20a2 : RAnn := ⟨[27, 28], []⟩
noncomputable def f20o3 : Array Oper := cO (cL (cL (cR (cL (cL (cR (cR (cB f20))))))))
def f20a3 : RAnn := ⟨[2, 3, 10, 11, 26, 29], []⟩
noncomputable def f20o4 : Array Oper := cO (cL (cR (cR (cL (cL (cR (cR (cB f20))))))))
def f20a4 : RAnn := ⟨[11, 26, 31, 32, 33], []⟩
noncomputable def f20o5 : Array Oper := cO (cL (cL (cR (cR (cR (cL (cL (cR (cR (cB f20))))))))))
def f20a5 : RAnn := ⟨[2, 3, 10, 30, 34, 35], []⟩
noncomputable def f20o6 : Array Oper := cO (cL (cR (cR (cR (cR (cL (cL (cR (cR (cB f20))))))))))
def f20a6 : RAnn := ⟨[30, 37, 38, 39], []⟩
noncomputable def f20o7 : Array Oper := cO (cL (cL (cR (cR (cR (cR (cR (cL (cL (cR (cR (cB f20))))))))))))
def f20a7 : RAnn := ⟨[2, 3, 10, 36, 40, 41], []⟩
noncomputable def f20o8 : Array Oper := cO (cL (cR (cR (cR (cB f20)))))
def f20a8 : RAnn := ⟨[36], [(0, { keep := [0] })]⟩
noncomputable def f20o9 : Array Oper := cO (cL (cL (cR (cR (cR (cR (cB f20)))))))
def f20a9 : RAnn := ⟨[2], []⟩
noncomputable def f20o10 : Array Oper := cO (cL (cL (cL (cR (cL (cR (cR (cR (cR (cB f20))))))))))
def f20a10 : RAnn := ⟨[], []⟩
noncomputable def f20o11 : Array Oper := cO (cL (cL (cL (cR (cR (cL (cL (cR (cL (cR (cR (cR (cR (cB f20))))))))))))))
def f20a11 : RAnn := ⟨[45, 46, 47], []⟩
noncomputable def f20o12 : Array Oper := cO (cL (cR (cL (cL (cR (cR (cL (cL (cR (cL (cR (cR (cR (cR (cB f20)))))))))))))))
def f20a12 : RAnn := ⟨[], []⟩
noncomputable def f20o13 : Array Oper := cO (cL (cL (cL (cR (cR (cL (cL (cR (cR (cL (cL (cR (cL (cR (cR (cR (cR (cB f20))))))))))))))))))
def f20a13 : RAnn := ⟨[], []⟩
noncomputable def f20o14 : Array Oper := cO (cL (cL (cL (cR (cR (cL (cL (cR (cR (cL (cL (cR (cR (cL (cL (cR (cL (cR (cR (cR (cR (cB f20))))))))))))))))))))))
def f20a14 : RAnn := ⟨[51, 52, 53], []⟩
noncomputable def f20o15 : Array Oper := cO (cR (cL (cL (cR (cR (cL (cL (cR (cR (cL (cL (cR (cR (cL (cL (cR (cL (cR (cR (cR (cR (cB f20))))))))))))))))))))))
def f20a15 : RAnn := ⟨[16, 54, 55, 56, 57, 58, 59, 60], [(0, { tk := [12], keep := [0] }), (6, { tk := [54], keep := [0] }), (7, { tk := [60], keep := [0] })]⟩
noncomputable def f20o16 : Array Oper := cO (cR (cR (cR (cL (cL (cR (cR (cL (cL (cR (cR (cL (cL (cR (cL (cR (cR (cR (cR (cB f20))))))))))))))))))))
def f20a16 : RAnn := ⟨[61], []⟩
noncomputable def f20o17 : Array Oper := cO (cR (cR (cR (cL (cL (cR (cL (cR (cR (cR (cR (cB f20))))))))))))
def f20a17 : RAnn := ⟨[14, 48, 49, 50, 51, 62], []⟩
noncomputable def f20o18 : Array Oper := cO (cL (cR (cR (cR (cR (cR (cB f20)))))))
def f20a18 : RAnn := ⟨[3, 10, 12, 42, 43, 44, 45, 63, 64, 65, 66, 67], []⟩
def f20b0 : Code := (.seq (.region 13 f20o13 false) (.seq (.cond (.tmp 51) .skip (.exit 3)) (.seq (.block 4 (.seq (.region 14 f20o14 false) (.region 15 f20o15 false))) (.region 16 f20o16 false))))
def f20b1 : Code := (.seq (.region 10 f20o10 false) (.seq (.cond (.tmp 45) .skip (.exit 1)) (.seq (.block 2 (.seq (.region 11 f20o11 false) (.seq (.region 12 f20o12 false) (.block 3 (.loop f20b0))))) (.region 17 f20o17 false))))
def f20c : Code := (.seq (.region 0 f20o0 false) (.seq (.region 1 f20o1 false) (.seq (.block 0 (.seq (.region 2 f20o2 false) (.cond (.tmp 26) (.seq (.region 3 f20o3 false) .ret) (.seq (.region 4 f20o4 false) (.cond (.tmp 30) (.seq (.region 5 f20o5 false) .ret) (.seq (.region 6 f20o6 false) (.cond (.tmp 36) (.seq (.region 7 f20o7 false) .ret) .skip))))))) (.seq (.region 8 f20o8 false) (.seq (.seq (.region 9 f20o9 false) (.block 1 (.loop f20b1))) (.seq (.region 18 f20o18 false) .ret))))))
def f20n : List (Nat × RAnn) := [(0, f20a0), (1, f20a1), (2, f20a2), (3, f20a3), (4, f20a4), (5, f20a5), (6, f20a6), (7, f20a7), (8, f20a8), (9, f20a9), (10, f20a10), (11, f20a11), (12, f20a12), (13, f20a13), (14, f20a14), (15, f20a15), (16, f20a16), (17, f20a17), (18, f20a18)]
noncomputable def f23o0 : Array Oper := cO (cL (cB f23))
def f23a0 : RAnn := ⟨[0, 8, 9], []⟩
noncomputable def f23o1 : Array Oper := cO (cL (cR (cB f23)))
def f23a1 : RAnn := ⟨[1, 4, 12, 13, 14, 15, 16, 17, 18, 19, 20], []⟩
noncomputable def f23o2 : Array Oper := cO (cL (cL (cL (cR (cR (cB f23))))))
def f23a2 : RAnn := ⟨[22, 23], []⟩
noncomputable def f23o3 : Array Oper := cO (cL (cL (cR (cL (cL (cR (cR (cB f23))))))))
def f23a3 : RAnn := ⟨[2, 3, 10, 11, 21, 24], []⟩
noncomputable def f23o4 : Array Oper := cO (cL (cR (cR (cL (cL (cR (cR (cB f23))))))))
def f23a4 : RAnn := ⟨[11, 21, 26, 27, 28, 29, 30, 31, 32, 33], []⟩
noncomputable def f23o5 : Array Oper := cO (cL (cL (cR (cR (cR (cL (cL (cR (cR (cB f23))))))))))
def f23a5 : RAnn := ⟨[2, 3, 10, 25], []⟩
noncomputable def f23o6 : Array Oper := cO (cL (cR (cR (cR (cB f23)))))
def f23a6 : RAnn := ⟨[2, 3, 10, 25, 34, 35, 36, 37, 38, 39, 40, 41, 42], []⟩
def f23c : Code := (.seq (.region 0 f23o0 false) (.seq (.region 1 f23o1 false) (.seq (.block 0 (.seq (.region 2 f23o2 false) (.cond (.tmp 21) (.seq (.region 3 f23o3 false) .ret) (.seq (.region 4 f23o4 false) (.cond (.tmp 25) (.seq (.region 5 f23o5 false) .ret) .skip))))) (.seq (.region 6 f23o6 true) .ret))))
def f23n : List (Nat × RAnn) := [(0, f23a0), (1, f23a1), (2, f23a2), (3, f23a3), (4, f23a4), (5, f23a5), (6, f23a6)]
noncomputable def f86o0 : Array Oper := cO (cL (cB f86))
def f86a0 : RAnn := ⟨[2], []⟩
noncomputable def f86o1 : Array Oper := cO (cL (cL (cR (cB f86))))
def f86a1 : RAnn := ⟨[], []⟩
noncomputable def f86o2 : Array Oper := cO (cL (cL (cL (cL (cR (cL (cR (cB f86))))))))
def f86a2 : RAnn := ⟨[5, 6, 7], []⟩
noncomputable def f86o3 : Array Oper := cO (cR (cR (cL (cL (cR (cL (cR (cB f86))))))))
def f86a3 : RAnn := ⟨[9, 10, 38], []⟩
noncomputable def f86o4 : Array Oper := cO (cL (cL (cL (cR (cL (cL (cR (cL (cR (cB f86))))))))))
def f86a4 : RAnn := ⟨[8, 11, 12, 13, 14, 15, 16, 17, 18, 19, 20], []⟩
noncomputable def f86o5 : Array Oper := cO (cL (cR (cL (cL (cR (cL (cL (cR (cL (cR (cB f86)))))))))))
def f86a5 : RAnn := ⟨[4, 21, 22, 23, 24, 25, 26, 27, 28, 29, 30, 31, 32, 33, 34, 35, 36, 37], []⟩
noncomputable def f86o6 : Array Oper := cO (cL (cL (cR (cR (cL (cL (cR (cL (cL (cR (cL (cR (cB f86)))))))))))))
def f86a6 : RAnn := ⟨[0, 3, 38], []⟩
noncomputable def f86o7 : Array Oper := cO (cL (cR (cR (cB f86))))
def f86a7 : RAnn := ⟨[0, 3, 8, 39, 40, 41, 42, 43, 44, 45, 46], []⟩
def f86b0 : Code := (.seq (.seq (.region 2 f86o2 false) (.cond (.tmp 8) .skip (.exit 0))) (.seq (.block 1 (.seq (.region 4 f86o4 false) (.seq (.region 5 f86o5 false) (.cond (.tmp 38) (.seq (.region 6 f86o6 false) .ret) .skip)))) (.region 3 f86o3 false)))
def f86c : Code := (.seq (.region 0 f86o0 false) (.seq (.seq (.region 1 f86o1 false) (.block 0 (.loop f86b0))) (.seq (.region 7 f86o7 false) .ret)))
def f86n : List (Nat × RAnn) := [(0, f86a0), (1, f86a1), (2, f86a2), (3, f86a3), (4, f86a4), (5, f86a5), (6, f86a6), (7, f86a7)]
noncomputable def f87o0 : Array Oper := cO (cL (cB f87))
def f87a0 : RAnn := ⟨[0, 2], []⟩
noncomputable def f87o1 : Array Oper := cO (cL (cL (cR (cB f87))))
def f87a1 : RAnn := ⟨[], []⟩
noncomputable def f87o2 : Array Oper := cO (cL (cL (cL (cL (cR (cL (cR (cB f87))))))))
def f87a2 : RAnn := ⟨[6, 7, 8, 9], []⟩
noncomputable def f87o3 : Array Oper := cO (cR (cR (cL (cL (cR (cL (cR (cB f87))))))))
def f87a3 : RAnn := ⟨[4, 5, 11, 12, 51], []⟩
noncomputable def f87o4 : Array Oper := cO (cL (cL (cL (cR (cL (cL (cR (cL (cR (cB f87))))))))))
def f87a4 : RAnn := ⟨[10, 13, 14, 15, 16, 17], []⟩
noncomputable def f87o5 : Array Oper := cO (cL (cL (cR (cL (cL (cR (cL (cL (cR (cL (cR (cB f87))))))))))))
def f87a5 : RAnn := ⟨[18, 19, 20, 21, 22, 23, 24, 25, 26, 27, 28, 29, 30, 31, 32, 33, 34, 35, 36, 37, 38, 39, 40, 41, 42, 43, 44, 45, 46, 47], []⟩
noncomputable def f87o6 : Array Oper := cO (cL (cL (cR (cL (cR (cL (cL (cR (cL (cL (cR (cL (cR (cB f87))))))))))))))
def f87a6 : RAnn := ⟨[1, 3, 4, 48], []⟩
noncomputable def f87o7 : Array Oper := cO (cL (cR (cR (cL (cL (cR (cL (cL (cR (cL (cR (cB f87))))))))))))
def f87a7 : RAnn := ⟨[48], []⟩
noncomputable def f87o8 : Array Oper := cO (cL (cL (cL (cL (cR (cR (cR (cL (cL (cR (cL (cL (cR (cL (cR (cB f87))))))))))))))))
def f87a8 : RAnn := ⟨[49, 50], []⟩
noncomputable def f87o9 : Array Oper := cO (cR (cR (cL (cL (cR (cR (cR (cL (cL (cR (cL (cL (cR (cL (cR (cB f87))))))))))))))))
def f87a9 : RAnn := ⟨[52, 53, 62], []⟩
noncomputable def f87o10 : Array Oper := cO (cL (cL (cL (cR (cL (cL (cR (cR (cR (cL (cL (cR (cL (cL (cR (cL (cR (cB f87))))))))))))))))))
def f87a10 : RAnn := ⟨[51, 54, 55, 56, 57, 58, 59, 60, 61], []⟩
noncomputable def f87o11 : Array Oper := cO (cL (cL (cR (cL (cL (cR (cL (cL (cR (cR (cR (cL (cL (cR (cL (cL (cR (cL (cR (cB f87))))))))))))))))))))
def f87a11 : RAnn := ⟨[1, 3, 4, 5, 62], []⟩
noncomputable def f87o12 : Array Oper := cO (cL (cL (cR (cR (cB f87)))))
def f87a12 : RAnn := ⟨[3, 10, 63, 64, 65, 66, 67, 68, 69, 70, 71, 72, 73, 74, 75, 76, 77, 78, 79, 80, 81], []⟩
noncomputable def f87o13 : Array Oper := cO (cL (cL (cR (cL (cR (cR (cB f87)))))))
def f87a13 : RAnn := ⟨[1, 82], []⟩
noncomputable def f87o14 : Array Oper := cO (cL (cR (cR (cR (cB f87)))))
def f87a14 : RAnn := ⟨[1, 82, 83, 84, 85, 86, 87, 88, 89, 90, 91, 92, 93, 94, 95, 96, 97, 98, 99, 100, 101, 102, 103, 104, 105, 106, 107, 108, 109, 110, 111], []⟩
def f87b0 : Code := (.seq (.seq (.region 8 f87o8 false) (.cond (.tmp 51) .skip (.exit 2))) (.seq (.block 3 (.seq (.region 10 f87o10 true) (.cond (.tmp 62) (.seq (.region 11 f87o11 false) .ret) .skip))) (.region 9 f87o9 false)))
def f87b1 : Code := (.seq (.seq (.region 2 f87o2 false) (.cond (.tmp 10) .skip (.exit 0))) (.seq (.block 1 (.seq (.region 4 f87o4 false) (.seq (.seq (.region 5 f87o5 false) (.cond (.tmp 48) (.seq (.region 6 f87o6 false) .ret) .skip)) (.seq (.region 7 f87o7 false) (.block 2 (.loop f87b0)))))) (.region 3 f87o3 false)))
def f87c : Code := (.seq (.region 0 f87o0 false) (.seq (.seq (.region 1 f87o1 false) (.block 0 (.loop f87b1))) (.seq (.seq (.region 12 f87o12 false) (.cond (.tmp 82) (.seq (.region 13 f87o13 false) .ret) .skip)) (.seq (.region 14 f87o14 true) .ret))))
def f87n : List (Nat × RAnn) := [(0, f87a0), (1, f87a1), (2, f87a2), (3, f87a3), (4, f87a4), (5, f87a5), (6, f87a6), (7, f87a7), (8, f87a8), (9, f87a9), (10, f87a10), (11, f87a11), (12, f87a12), (13, f87a13), (14, f87a14)]
noncomputable def f88o0 : Array Oper := cO (cL (cB f88))
def f88a0 : RAnn := ⟨[0, 6], []⟩
noncomputable def f88o1 : Array Oper := cO (cL (cL (cR (cB f88))))
def f88a1 : RAnn := ⟨[7, 8, 9, 10, 11, 12], []⟩
noncomputable def f88o2 : Array Oper := cO (cL (cL (cL (cL (cR (cL (cR (cB f88))))))))
def f88a2 : RAnn := ⟨[13], []⟩
noncomputable def f88o3 : Array Oper := cO (cR (cR (cL (cL (cR (cL (cR (cB f88))))))))
def f88a3 : RAnn := ⟨[15, 16, 17, 18, 19, 20, 23], []⟩
noncomputable def f88o4 : Array Oper := cO (cL (cL (cL (cR (cL (cL (cR (cL (cR (cB f88))))))))))
def f88a4 : RAnn := ⟨[14, 21, 22], []⟩
noncomputable def f88o5 : Array Oper := cO (cL (cL (cR (cL (cL (cR (cL (cL (cR (cL (cR (cB f88))))))))))))
def f88a5 : RAnn := ⟨[1, 2, 3, 23], []⟩
noncomputable def f88o6 : Array Oper := cO (cL (cR (cR (cB f88))))
def f88a6 : RAnn := ⟨[1, 2, 3, 14], []⟩
def f88b0 : Code := (.seq (.seq (.region 2 f88o2 false) (.cond (.tmp 14) .skip (.exit 0))) (.seq (.block 1 (.seq (.region 4 f88o4 false) (.cond (.tmp 23) (.seq (.region 5 f88o5 false) .ret) .skip))) (.region 3 f88o3 false)))
def f88c : Code := (.seq (.region 0 f88o0 false) (.seq (.seq (.region 1 f88o1 false) (.block 0 (.loop f88b0))) (.seq (.region 6 f88o6 false) .ret)))
def f88n : List (Nat × RAnn) := [(0, f88a0), (1, f88a1), (2, f88a2), (3, f88a3), (4, f88a4), (5, f88a5), (6, f88a6)]
noncomputable def f89o0 : Array Oper := cO (cL (cB f89))
def f89a0 : RAnn := ⟨[0, 4], []⟩
noncomputable def f89o1 : Array Oper := cO (cL (cR (cB f89)))
def f89a1 : RAnn := ⟨[], []⟩
noncomputable def f89o2 : Array Oper := cO (cL (cL (cL (cL (cL (cR (cR (cB f89))))))))
def f89a2 : RAnn := ⟨[6], []⟩
noncomputable def f89o3 : Array Oper := cO (cL (cL (cR (cL (cL (cL (cR (cR (cB f89)))))))))
def f89a3 : RAnn := ⟨[7, 8, 9, 10, 11], [(1, { keep := [0] }), (3, { tk := [9] })]⟩
noncomputable def f89o4 : Array Oper := cO (cR (cL (cR (cL (cL (cL (cR (cR (cB f89)))))))))
def f89a4 : RAnn := ⟨[12, 13, 14, 15, 16, 17], []⟩
noncomputable def f89o5 : Array Oper := cO (cL (cR (cR (cR (cB f89)))))
def f89a5 : RAnn := ⟨[1, 2, 5, 7, 18], []⟩
def f89b0 : Code := (.seq (.seq (.region 2 f89o2 false) (.cond (.tmp 7) .skip (.exit 0))) (.block 1 (.seq (.region 3 f89o3 false) (.region 4 f89o4 false))))
def f89c : Code := (.seq (.region 0 f89o0 false) (.seq (.region 1 f89o1 false) (.seq (.block 0 (.loop f89b0)) (.seq (.region 5 f89o5 false) .ret))))
def f89n : List (Nat × RAnn) := [(0, f89a0), (1, f89a1), (2, f89a2), (3, f89a3), (4, f89a4), (5, f89a5)]
noncomputable def f64o0 : Array Oper := cO (cL (cB f64))
def f64a0 : RAnn := ⟨[0, 2], []⟩
noncomputable def f64o1 : Array Oper := cO (cL (cL (cR (cB f64))))
def f64a1 : RAnn := ⟨[9, 10, 11, 12, 13, 14, 15, 16, 17, 18, 19, 20, 21, 22, 23, 24, 25, 26, 27, 28, 29, 30, 31, 32, 33, 34, 35, 36, 37, 38, 39], []⟩
noncomputable def f64o2 : Array Oper := cO (cL (cL (cR (cL (cR (cB f64))))))
def f64a2 : RAnn := ⟨[1, 40], []⟩
noncomputable def f64o3 : Array Oper := cO (cL (cL (cR (cR (cB f64)))))
def f64a3 : RAnn := ⟨[40], []⟩
noncomputable def f64o4 : Array Oper := cO (cL (cL (cL (cL (cR (cL (cR (cR (cB f64)))))))))
def f64a4 : RAnn := ⟨[41, 42, 43, 44], []⟩
noncomputable def f64o5 : Array Oper := cO (cR (cR (cL (cL (cR (cL (cR (cR (cB f64)))))))))
def f64a5 : RAnn := ⟨[46, 47, 117, 149], []⟩
noncomputable def f64o6 : Array Oper := cO (cL (cL (cL (cR (cL (cL (cR (cL (cR (cR (cB f64)))))))))))
def f64a6 : RAnn := ⟨[45, 48, 49, 50, 51, 52], []⟩
noncomputable def f64o7 : Array Oper := cO (cL (cL (cR (cL (cL (cR (cL (cL (cR (cL (cR (cR (cB f64)))))))))))))
def f64a7 : RAnn := ⟨[53, 54, 55, 56, 57, 58, 59, 60, 61, 62, 63, 64, 65, 66, 67, 68, 69, 70, 71, 72, 73, 74, 75, 76, 77], []⟩
noncomputable def f64o8 : Array Oper := cO (cL (cL (cR (cL (cR (cL (cL (cR (cL (cL (cR (cL (cR (cR (cB f64)))))))))))))))
def f64a8 : RAnn := ⟨[1, 3, 4, 78], []⟩
noncomputable def f64o9 : Array Oper := cO (cL (cL (cR (cR (cL (cL (cR (cL (cL (cR (cL (cR (cR (cB f64))))))))))))))
def f64a9 : RAnn := ⟨[78], []⟩
noncomputable def f64o10 : Array Oper := cO (cL (cL (cL (cL (cR (cL (cR (cR (cL (cL (cR (cL (cL (cR (cL (cR (cR (cB f64))))))))))))))))))
def f64a10 : RAnn := ⟨[79, 80], []⟩
noncomputable def f64o11 : Array Oper := cO (cR (cR (cL (cL (cR (cL (cR (cR (cL (cL (cR (cL (cL (cR (cL (cR (cR (cB f64))))))))))))))))))
def f64a11 : RAnn := ⟨[82, 83, 92], []⟩
noncomputable def f64o12 : Array Oper := cO (cL (cL (cL (cR (cL (cL (cR (cL (cR (cR (cL (cL (cR (cL (cL (cR (cL (cR (cR (cB f64))))))))))))))))))))
def f64a12 : RAnn := ⟨[81, 84, 85, 86, 87, 88, 89, 90, 91], []⟩
noncomputable def f64o13 : Array Oper := cO (cL (cL (cR (cL (cL (cR (cL (cL (cR (cL (cR (cR (cL (cL (cR (cL (cL (cR (cL (cR (cR (cB f64))))))))))))))))))))))
def f64a13 : RAnn := ⟨[1, 3, 4, 5, 92], []⟩
noncomputable def f64o14 : Array Oper := cO (cL (cL (cR (cR (cR (cL (cL (cR (cL (cL (cR (cL (cR (cR (cB f64)))))))))))))))
def f64a14 : RAnn := ⟨[5, 81, 93], []⟩
noncomputable def f64o15 : Array Oper := cO (cL (cL (cL (cR (cL (cR (cR (cR (cL (cL (cR (cL (cL (cR (cL (cR (cR (cB f64))))))))))))))))))
def f64a15 : RAnn := ⟨[4, 94, 95, 96, 97, 98, 99, 100, 101, 102, 103, 104, 105, 106, 107, 108, 109, 110, 111, 112, 113, 114, 115, 116], []⟩
noncomputable def f64o16 : Array Oper := cO (cL (cL (cR (cL (cL (cR (cL (cR (cR (cR (cL (cL (cR (cL (cL (cR (cL (cR (cR (cB f64))))))))))))))))))))
def f64a16 : RAnn := ⟨[1, 3, 117], []⟩
noncomputable def f64o17 : Array Oper := cO (cL (cR (cR (cR (cR (cL (cL (cR (cL (cL (cR (cL (cR (cR (cB f64)))))))))))))))
def f64a17 : RAnn := ⟨[4, 94, 118, 119, 120, 121, 122, 123, 124, 125, 126, 127, 128, 129, 130, 131, 132, 133, 134, 135, 136, 137, 138, 139, 140, 141, 142, 143, 144, 145, 146, 147, 148], []⟩
noncomputable def f64o18 : Array Oper := cO (cL (cL (cR (cR (cR (cR (cR (cL (cL (cR (cL (cL (cR (cL (cR (cR (cB f64)))))))))))))))))
def f64a18 : RAnn := ⟨[1, 3, 149], []⟩
noncomputable def f64o19 : Array Oper := cO (cL (cL (cR (cR (cR (cB f64))))))
def f64a19 : RAnn := ⟨[3, 45], []⟩
noncomputable def f64o20 : Array Oper := cO (cL (cL (cL (cL (cR (cL (cR (cR (cR (cB f64))))))))))
def f64a20 : RAnn := ⟨[150, 151, 152, 153], []⟩
noncomputable def f64o21 : Array Oper := cO (cR (cR (cL (cL (cR (cL (cR (cR (cR (cB f64))))))))))
def f64a21 : RAnn := ⟨[7, 8, 155, 156, 220], []⟩
noncomputable def f64o22 : Array Oper := cO (cL (cL (cL (cR (cL (cL (cR (cL (cR (cR (cR (cB f64))))))))))))
def f64a22 : RAnn := ⟨[154, 157, 158, 159, 160, 161], []⟩
noncomputable def f64o23 : Array Oper := cO (cL (cL (cR (cL (cL (cR (cL (cL (cR (cL (cR (cR (cR (cB f64))))))))))))))
def f64a23 : RAnn := ⟨[162, 163, 164, 165, 166, 167, 168, 169, 170, 171, 172, 173, 174, 175, 176, 177, 178, 179, 180, 181, 182, 183, 184, 185, 186, 187, 188, 189, 190, 191, 192, 193, 194, 195, 196, 197, 198, 199, 200, 201, 202, 203, 204, 205, 206, 207, 208, 209, 210, 211, 212, 213, 214, 215, 216], []⟩
noncomputable def f64o24 : Array Oper := cO (cL (cL (cR (cL (cR (cL (cL (cR (cL (cL (cR (cL (cR (cR (cR (cB f64))))))))))))))))
def f64a24 : RAnn := ⟨[1, 6, 7, 217], []⟩
noncomputable def f64o25 : Array Oper := cO (cL (cR (cR (cL (cL (cR (cL (cL (cR (cL (cR (cR (cR (cB f64))))))))))))))
def f64a25 : RAnn := ⟨[217], []⟩
noncomputable def f64o26 : Array Oper := cO (cL (cL (cL (cL (cR (cR (cR (cL (cL (cR (cL (cL (cR (cL (cR (cR (cR (cB f64))))))))))))))))))
def f64a26 : RAnn := ⟨[218, 219], []⟩
noncomputable def f64o27 : Array Oper := cO (cR (cR (cL (cL (cR (cR (cR (cL (cL (cR (cL (cL (cR (cL (cR (cR (cR (cB f64))))))))))))))))))
def f64a27 : RAnn := ⟨[221, 222, 231], []⟩
noncomputable def f64o28 : Array Oper := cO (cL (cL (cL (cR (cL (cL (cR (cR (cR (cL (cL (cR (cL (cL (cR (cL (cR (cR (cR (cB f64))))))))))))))))))))
def f64a28 : RAnn := ⟨[220, 223, 224, 225, 226, 227, 228, 229, 230], []⟩
noncomputable def f64o29 : Array Oper := cO (cL (cL (cR (cL (cL (cR (cL (cL (cR (cR (cR (cL (cL (cR (cL (cL (cR (cL (cR (cR (cR (cB f64))))))))))))))))))))))
def f64a29 : RAnn := ⟨[1, 6, 7, 8, 231], []⟩
noncomputable def f64o30 : Array Oper := cO (cL (cR (cR (cR (cR (cB f64))))))
def f64a30 : RAnn := ⟨[1, 6, 154], []⟩
def f64b0 : Code := (.seq (.seq (.region 10 f64o10 false) (.cond (.tmp 81) .skip (.exit 2))) (.seq (.block 3 (.seq (.region 12 f64o12 true) (.cond (.tmp 92) (.seq (.region 13 f64o13 false) .ret) .skip))) (.region 11 f64o11 false)))
def f64b1 : Code := (.seq (.seq (.region 4 f64o4 false) (.cond (.tmp 45) .skip (.exit 0))) (.seq (.block 1 (.seq (.region 6 f64o6 false) (.seq (.seq (.region 7 f64o7 false) (.cond (.tmp 78) (.seq (.region 8 f64o8 false) .ret) .skip)) (.seq (.seq (.region 9 f64o9 false) (.block 2 (.loop f64b0))) (.seq (.seq (.region 14 f64o14 false) (.cond (.tmp 94) (.seq (.seq (.region 15 f64o15 false) (.cond (.tmp 117) (.seq (.region 16 f64o16 false) .ret) .skip)) (.exit 1)) .skip)) (.seq (.region 17 f64o17 false) (.cond (.tmp 149) (.seq (.region 18 f64o18 false) .ret) .skip))))))) (.region 5 f64o5 false)))
def f64b2 : Code := (.seq (.seq (.region 26 f64o26 false) (.cond (.tmp 220) .skip (.exit 6))) (.seq (.block 7 (.seq (.region 28 f64o28 true) (.cond (.tmp 231) (.seq (.region 29 f64o29 false) .ret) .skip))) (.region 27 f64o27 false)))
def f64b3 : Code := (.seq (.seq (.region 20 f64o20 false) (.cond (.tmp 154) .skip (.exit 4))) (.seq (.block 5 (.seq (.region 22 f64o22 false) (.seq (.seq (.region 23 f64o23 true) (.cond (.tmp 217) (.seq (.region 24 f64o24 false) .ret) .skip)) (.seq (.region 25 f64o25 false) (.block 6 (.loop f64b2)))))) (.region 21 f64o21 false)))
def f64c : Code := (.seq (.region 0 f64o0 false) (.seq (.seq (.region 1 f64o1 false) (.cond (.tmp 40) (.seq (.region 2 f64o2 false) .ret) .skip)) (.seq (.seq (.region 3 f64o3 false) (.block 0 (.loop f64b1))) (.seq (.seq (.region 19 f64o19 false) (.block 4 (.loop f64b3))) (.seq (.region 30 f64o30 false) .ret)))))
def f64n : List (Nat × RAnn) := [(0, f64a0), (1, f64a1), (2, f64a2), (3, f64a3), (4, f64a4), (5, f64a5), (6, f64a6), (7, f64a7), (8, f64a8), (9, f64a9), (10, f64a10), (11, f64a11), (12, f64a12), (13, f64a13), (14, f64a14), (15, f64a15), (16, f64a16), (17, f64a17), (18, f64a18), (19, f64a19), (20, f64a20), (21, f64a21), (22, f64a22), (23, f64a23), (24, f64a24), (25, f64a25), (26, f64a26), (27, f64a27), (28, f64a28), (29, f64a29), (30, f64a30)]
noncomputable def f94o0 : Array Oper := cO (cL (cB f94))
def f94a0 : RAnn := ⟨[0, 4], []⟩
noncomputable def f94o1 : Array Oper := cO (cL (cR (cB f94)))
def f94a1 : RAnn := ⟨[1, 2, 5, 6, 7, 8, 9, 10, 11, 12, 13], []⟩
def f94c : Code := (.seq (.region 0 f94o0 false) (.seq (.region 1 f94o1 false) .ret))
def f94n : List (Nat × RAnn) := [(0, f94a0), (1, f94a1)]
noncomputable def f73o0 : Array Oper := cO (cL (cB f73))
def f73a0 : RAnn := ⟨[0, 4], []⟩
noncomputable def f73o1 : Array Oper := cO (cL (cL (cR (cB f73))))
def f73a1 : RAnn := ⟨[6, 7], []⟩
noncomputable def f73o2 : Array Oper := cO (cL (cL (cR (cL (cR (cB f73))))))
def f73a2 : RAnn := ⟨[1, 2, 8], []⟩
noncomputable def f73o3 : Array Oper := cO (cL (cL (cR (cR (cB f73)))))
def f73a3 : RAnn := ⟨[8], []⟩
noncomputable def f73o4 : Array Oper := cO (cL (cL (cL (cL (cR (cL (cR (cR (cB f73)))))))))
def f73a4 : RAnn := ⟨[9, 10, 11], []⟩
noncomputable def f73o5 : Array Oper := cO (cR (cR (cL (cL (cR (cL (cR (cR (cB f73)))))))))
def f73a5 : RAnn := ⟨[13, 14, 21], []⟩
noncomputable def f73o6 : Array Oper := cO (cL (cL (cL (cR (cL (cL (cR (cL (cR (cR (cB f73)))))))))))
def f73a6 : RAnn := ⟨[12, 15, 16, 17, 18, 19, 20], []⟩
noncomputable def f73o7 : Array Oper := cO (cL (cL (cR (cL (cL (cR (cL (cL (cR (cL (cR (cR (cB f73)))))))))))))
def f73a7 : RAnn := ⟨[1, 2, 5, 21], []⟩
noncomputable def f73o8 : Array Oper := cO (cL (cR (cR (cR (cB f73)))))
def f73a8 : RAnn := ⟨[1, 2, 5, 12], []⟩
def f73b0 : Code := (.seq (.seq (.region 4 f73o4 false) (.cond (.tmp 12) .skip (.exit 0))) (.seq (.block 1 (.seq (.region 6 f73o6 true) (.cond (.tmp 21) (.seq (.region 7 f73o7 false) .ret) .skip))) (.region 5 f73o5 false)))
def f73c : Code := (.seq (.region 0 f73o0 false) (.seq (.seq (.region 1 f73o1 false) (.cond (.tmp 8) (.seq (.region 2 f73o2 false) .ret) .skip)) (.seq (.seq (.region 3 f73o3 false) (.block 0 (.loop f73b0))) (.seq (.region 8 f73o8 false) .ret))))
def f73n : List (Nat × RAnn) := [(0, f73a0), (1, f73a1), (2, f73a2), (3, f73a3), (4, f73a4), (5, f73a5), (6, f73a6), (7, f73a7), (8, f73a8)]
noncomputable def f53o0 : Array Oper := cO (cL (cB f53))
def f53a0 : RAnn := ⟨[0, 6, 7], []⟩
noncomputable def f53o1 : Array Oper := cO (cL (cL (cR (cB f53))))
def f53a1 : RAnn := ⟨[10, 11, 12, 13], []⟩
noncomputable def f53o2 : Array Oper := cO (cL (cR (cL (cR (cB f53)))))
def f53a2 : RAnn := ⟨[14], []⟩
noncomputable def f53o3 : Array Oper := cO (cL (cL (cR (cR (cL (cR (cB f53)))))))
def f53a3 : RAnn := ⟨[1, 2, 3, 8, 15, 16], []⟩
noncomputable def f53o4 : Array Oper := cO (cL (cL (cR (cR (cB f53)))))
def f53a4 : RAnn := ⟨[8, 15], []⟩
noncomputable def f53o5 : Array Oper := cO (cL (cL (cL (cL (cR (cL (cR (cR (cB f53)))))))))
def f53a5 : RAnn := ⟨[17, 18, 19, 20, 21, 22, 23, 24], []⟩
noncomputable def f53o6 : Array Oper := cO (cR (cR (cL (cL (cR (cL (cR (cR (cB f53)))))))))
def f53a6 : RAnn := ⟨[26, 27, 39], []⟩
noncomputable def f53o7 : Array Oper := cO (cL (cL (cL (cR (cL (cL (cR (cL (cR (cR (cB f53)))))))))))
def f53a7 : RAnn := ⟨[25, 28, 29, 30, 31, 32, 33, 34, 35, 36, 37, 38], []⟩
noncomputable def f53o8 : Array Oper := cO (cL (cL (cR (cL (cL (cR (cL (cL (cR (cL (cR (cR (cB f53)))))))))))))
def f53a8 : RAnn := ⟨[1, 2, 3, 9, 39, 40], []⟩
noncomputable def f53o9 : Array Oper := cO (cL (cR (cR (cR (cB f53)))))
def f53a9 : RAnn := ⟨[1, 2, 3, 9, 25], []⟩
def f53b0 : Code := (.seq (.seq (.region 5 f53o5 false) (.cond (.tmp 25) .skip (.exit 0))) (.seq (.block 1 (.seq (.region 7 f53o7 false) (.cond (.tmp 39) (.seq (.region 8 f53o8 false) .ret) .skip))) (.region 6 f53o6 false)))
def f53c : Code := (.seq (.region 0 f53o0 false) (.seq (.seq (.region 1 f53o1 false) (.seq (.region 2 f53o2 false) (.cond (.tmp 15) (.seq (.region 3 f53o3 false) .ret) .skip))) (.seq (.seq (.region 4 f53o4 false) (.block 0 (.loop f53b0))) (.seq (.region 9 f53o9 false) .ret))))
def f53n : List (Nat × RAnn) := [(0, f53a0), (1, f53a1), (2, f53a2), (3, f53a3), (4, f53a4), (5, f53a5), (6, f53a6), (7, f53a7), (8, f53a8), (9, f53a9)]
noncomputable def f45o0 : Array Oper := cO (cL (cB f45))
def f45a0 : RAnn := ⟨[0, 6, 7], []⟩
noncomputable def f45o1 : Array Oper := cO (cL (cL (cR (cB f45))))
def f45a1 : RAnn := ⟨[9, 10, 11, 12], []⟩
noncomputable def f45o2 : Array Oper := cO (cL (cR (cL (cR (cB f45)))))
def f45a2 : RAnn := ⟨[13], []⟩
noncomputable def f45o3 : Array Oper := cO (cL (cL (cR (cR (cL (cR (cB f45)))))))
def f45a3 : RAnn := ⟨[1, 2, 3, 8, 14, 15], []⟩
noncomputable def f45o4 : Array Oper := cO (cL (cR (cR (cB f45))))
def f45a4 : RAnn := ⟨[1, 2, 3, 8, 14, 16, 17, 18, 19, 20, 21, 22, 23, 24, 25, 26, 27, 28, 29, 30, 31, 32, 33, 34, 35], []⟩
def f45c : Code := (.seq (.region 0 f45o0 false) (.seq (.seq (.region 1 f45o1 false) (.seq (.region 2 f45o2 false) (.cond (.tmp 14) (.seq (.region 3 f45o3 false) .ret) .skip))) (.seq (.region 4 f45o4 false) .ret)))
def f45n : List (Nat × RAnn) := [(0, f45a0), (1, f45a1), (2, f45a2), (3, f45a3), (4, f45a4)]
noncomputable def f54o0 : Array Oper := cO (cL (cB f54))
def f54a0 : RAnn := ⟨[0, 8, 9, 10], []⟩
noncomputable def f54o1 : Array Oper := cO (cL (cR (cB f54)))
def f54a1 : RAnn := ⟨[14, 15, 16, 17, 18, 19, 20], []⟩
noncomputable def f54o2 : Array Oper := cO (cL (cL (cL (cR (cR (cB f54))))))
def f54a2 : RAnn := ⟨[22, 23], []⟩
noncomputable def f54o3 : Array Oper := cO (cL (cL (cR (cL (cL (cR (cR (cB f54))))))))
def f54a3 : RAnn := ⟨[1, 2, 3, 4, 11, 12, 21, 24], []⟩
noncomputable def f54o4 : Array Oper := cO (cL (cR (cR (cL (cL (cR (cR (cB f54))))))))
def f54a4 : RAnn := ⟨[11, 12, 21, 26, 27, 28, 29, 30, 31, 32, 33, 34, 35, 36, 37, 38, 39, 40, 41, 42], []⟩
noncomputable def f54o5 : Array Oper := cO (cL (cL (cR (cR (cR (cL (cL (cR (cR (cB f54))))))))))
def f54a5 : RAnn := ⟨[1, 2, 3, 4, 25], []⟩
noncomputable def f54o6 : Array Oper := cO (cL (cR (cR (cR (cB f54)))))
def f54a6 : RAnn := ⟨[1, 3, 4, 25, 43, 44, 45, 46, 47, 48, 49, 50, 51], []⟩
noncomputable def f54o7 : Array Oper := cO (cL (cL (cR (cR (cR (cR (cB f54)))))))
def f54a7 : RAnn := ⟨[52, 53, 54, 55, 56, 57, 58], []⟩
noncomputable def f54o8 : Array Oper := cO (cL (cL (cR (cL (cR (cR (cR (cR (cB f54)))))))))
def f54a8 : RAnn := ⟨[2, 13, 59], []⟩
noncomputable def f54o9 : Array Oper := cO (cL (cR (cR (cR (cR (cR (cB f54)))))))
def f54a9 : RAnn := ⟨[2, 13, 59, 60, 61, 62, 63, 64, 65, 66, 67, 68], []⟩
def f54c : Code := (.seq (.region 0 f54o0 false) (.seq (.region 1 f54o1 false) (.seq (.block 0 (.seq (.region 2 f54o2 false) (.cond (.tmp 21) (.seq (.region 3 f54o3 false) .ret) (.seq (.region 4 f54o4 false) (.cond (.tmp 25) (.seq (.region 5 f54o5 false) .ret) .skip))))) (.seq (.region 6 f54o6 false) (.seq (.seq (.region 7 f54o7 false) (.cond (.tmp 59) (.seq (.region 8 f54o8 false) .ret) .skip)) (.seq (.region 9 f54o9 false) .ret))))))
def f54n : List (Nat × RAnn) := [(0, f54a0), (1, f54a1), (2, f54a2), (3, f54a3), (4, f54a4), (5, f54a5), (6, f54a6), (7, f54a7), (8, f54a8), (9, f54a9)]
noncomputable def f26o0 : Array Oper := cO (cL (cB f26))
def f26a0 : RAnn := ⟨[0, 1, 6], []⟩
noncomputable def f26o1 : Array Oper := cO (cL (cL (cR (cB f26))))
def f26a1 : RAnn := ⟨[17, 18, 19, 20, 21, 22, 23], []⟩
noncomputable def f26o2 : Array Oper := cO (cL (cL (cR (cL (cR (cB f26))))))
def f26a2 : RAnn := ⟨[2, 3, 4, 24], []⟩
noncomputable def f26o3 : Array Oper := cO (cL (cR (cR (cB f26))))
def f26a3 : RAnn := ⟨[24, 25], []⟩
noncomputable def f26o4 : Array Oper := cO (cL (cR (cR (cR (cB f26)))))
def f26a4 : RAnn := ⟨[26, 27, 28, 29, 30, 31, 32], []⟩
noncomputable def f26o5 : Array Oper := cO (cL (cR (cR (cR (cR (cB f26))))))
def f26a5 : RAnn := ⟨[33, 34, 35, 36, 37, 38, 39, 40, 41, 42, 43, 44], []⟩
noncomputable def f26o6 : Array Oper := cO (cL (cR (cR (cR (cR (cR (cB f26)))))))
def f26a6 : RAnn := ⟨[7, 45, 46, 47, 48, 49, 50, 51, 52, 53, 54, 55, 56], []⟩
noncomputable def f26o7 : Array Oper := cO (cL (cR (cR (cR (cR (cR (cR (cB f26))))))))
def f26a7 : RAnn := ⟨[4, 57, 58, 59, 60, 61, 62, 63, 64, 65, 66], []⟩
noncomputable def f26o8 : Array Oper := cO (cL (cR (cR (cR (cR (cR (cR (cR (cB f26)))))))))
def f26a8 : RAnn := ⟨[2, 3, 12, 14, 67, 68, 69, 70, 71, 72, 73, 74, 75, 76, 77], []⟩
noncomputable def f26o9 : Array Oper := cO (cL (cR (cR (cR (cR (cR (cR (cR (cR (cB f26))))))))))
def f26a9 : RAnn := ⟨[8, 9, 10, 11, 13, 15, 16, 78, 79, 80, 81, 82, 83, 84, 85, 86, 87, 88, 89, 90, 91, 92, 93, 94, 95, 96, 97, 98, 99, 100, 101, 102, 103, 104, 105, 106], []⟩
def f26c : Code := (.seq (.region 0 f26o0 false) (.seq (.seq (.region 1 f26o1 false) (.cond (.tmp 24) (.seq (.region 2 f26o2 false) .ret) .skip)) (.seq (.region 3 f26o3 false) (.seq (.region 4 f26o4 false) (.seq (.region 5 f26o5 false) (.seq (.region 6 f26o6 false) (.seq (.region 7 f26o7 false) (.seq (.region 8 f26o8 false) (.seq (.region 9 f26o9 false) .ret)))))))))
def f26n : List (Nat × RAnn) := [(0, f26a0), (1, f26a1), (2, f26a2), (3, f26a3), (4, f26a4), (5, f26a5), (6, f26a6), (7, f26a7), (8, f26a8), (9, f26a9)]
noncomputable def f27o0 : Array Oper := cO (cL (cB f27))
def f27a0 : RAnn := ⟨[0, 6, 7], []⟩
noncomputable def f27o1 : Array Oper := cO (cL (cR (cB f27)))
def f27a1 : RAnn := ⟨[13, 14, 15, 16, 17, 18, 19], []⟩
noncomputable def f27o2 : Array Oper := cO (cL (cL (cL (cR (cR (cB f27))))))
def f27a2 : RAnn := ⟨[21, 22], []⟩
noncomputable def f27o3 : Array Oper := cO (cL (cL (cR (cL (cL (cR (cR (cB f27))))))))
def f27a3 : RAnn := ⟨[1, 2, 3, 8, 9, 20, 23], []⟩
noncomputable def f27o4 : Array Oper := cO (cL (cR (cR (cL (cL (cR (cR (cB f27))))))))
def f27a4 : RAnn := ⟨[8, 9, 20, 25, 26], []⟩
noncomputable def f27o5 : Array Oper := cO (cL (cL (cR (cR (cR (cL (cL (cR (cR (cB f27))))))))))
def f27a5 : RAnn := ⟨[1, 2, 3, 24], []⟩
noncomputable def f27o6 : Array Oper := cO (cL (cR (cR (cR (cR (cL (cL (cR (cR (cB f27))))))))))
def f27a6 : RAnn := ⟨[24, 28, 29, 30, 31, 32, 33, 34], []⟩
noncomputable def f27o7 : Array Oper := cO (cL (cL (cR (cR (cR (cR (cR (cL (cL (cR (cR (cB f27))))))))))))
def f27a7 : RAnn := ⟨[1, 2, 3, 27], []⟩
noncomputable def f27o8 : Array Oper := cO (cL (cR (cR (cR (cB f27)))))
def f27a8 : RAnn := ⟨[1, 2, 3, 11, 12, 27, 35, 36, 37, 38, 39, 40, 41, 42, 43, 44, 45, 46, 47, 48], []⟩
noncomputable def f27o9 : Array Oper := cO (cL (cR (cR (cR (cR (cB f27))))))
def f27a9 : RAnn := ⟨[10, 49], []⟩
def f27c : Code := (.seq (.region 0 f27o0 false) (.seq (.region 1 f27o1 false) (.seq (.block 0 (.seq (.region 2 f27o2 false) (.cond (.tmp 20) (.seq (.region 3 f27o3 false) .ret) (.seq (.region 4 f27o4 false) (.cond (.tmp 24) (.seq (.region 5 f27o5 false) .ret) (.seq (.region 6 f27o6 false) (.cond (.tmp 27) (.seq (.region 7 f27o7 false) .ret) .skip))))))) (.seq (.region 8 f27o8 true) (.seq (.region 9 f27o9 false) .ret)))))
def f27n : List (Nat × RAnn) := [(0, f27a0), (1, f27a1), (2, f27a2), (3, f27a3), (4, f27a4), (5, f27a5), (6, f27a6), (7, f27a7), (8, f27a8), (9, f27a9)]
noncomputable def f7o0 : Array Oper := cO (cL (cB f7))
def f7a0 : RAnn := ⟨[0, 6], []⟩
noncomputable def f7o1 : Array Oper := cO (cL (cL (cR (cB f7))))
def f7a1 : RAnn := ⟨[22, 23, 24, 25, 26, 27, 28, 29, 30, 31, 32, 33, 34, 35, 36, 37], []⟩
noncomputable def f7o2 : Array Oper := cO (cL (cL (cR (cL (cR (cB f7))))))
def f7a2 : RAnn := ⟨[1, 2, 3, 38, 39], []⟩
noncomputable def f7o3 : Array Oper := cO (cL (cR (cR (cB f7))))
def f7a3 : RAnn := ⟨[38, 40, 41, 42, 43, 44, 45, 46, 47, 48, 49, 50], []⟩
noncomputable def f7o4 : Array Oper := cO (cL (cR (cR (cR (cB f7)))))
def f7a4 : RAnn := ⟨[51, 52, 53, 54, 55, 56, 57, 58, 59, 60], []⟩
noncomputable def f7o5 : Array Oper := cO (cL (cL (cR (cR (cR (cR (cB f7)))))))
def f7a5 : RAnn := ⟨[8, 10, 61, 62, 63, 64, 65], []⟩
noncomputable def f7o6 : Array Oper := cO (cL (cL (cR (cL (cR (cR (cR (cR (cB f7)))))))))
def f7a6 : RAnn := ⟨[1, 2, 3, 7, 9, 66, 67], []⟩
noncomputable def f7o7 : Array Oper := cO (cL (cR (cR (cR (cR (cR (cB f7)))))))
def f7a7 : RAnn := ⟨[66, 68, 69, 70, 71, 72, 73, 74, 75, 76, 77, 78], []⟩
noncomputable def f7o8 : Array Oper := cO (cL (cL (cR (cR (cR (cR (cR (cR (cB f7)))))))))
def f7a8 : RAnn := ⟨[8, 79], []⟩
noncomputable def f7o9 : Array Oper := cO (cL (cL (cR (cL (cR (cR (cR (cR (cR (cR (cB f7)))))))))))
def f7a9 : RAnn := ⟨[11, 80, 81, 82, 83, 84, 85, 86, 87, 88, 89, 90], []⟩
noncomputable def f7o10 : Array Oper := cO (cL (cR (cL (cR (cL (cR (cR (cR (cR (cR (cR (cB f7))))))))))))
def f7a10 : RAnn := ⟨[12, 13, 91, 92, 93, 94, 95, 96, 97, 98, 99], []⟩
noncomputable def f7o11 : Array Oper := cO (cL (cL (cR (cR (cL (cR (cL (cR (cR (cR (cR (cR (cR (cB f7))))))))))))))
def f7a11 : RAnn := ⟨[1, 2, 3, 7, 9, 100], []⟩
noncomputable def f7o12 : Array Oper := cO (cL (cR (cR (cR (cR (cR (cR (cR (cB f7)))))))))
def f7a12 : RAnn := ⟨[1, 11, 80, 100, 101, 102, 103, 104, 105, 106, 107, 108, 109, 110, 111], []⟩
noncomputable def f7o13 : Array Oper := cO (cL (cL (cR (cR (cR (cR (cR (cR (cR (cR (cB f7)))))))))))
def f7a13 : RAnn := ⟨[8, 112], []⟩
noncomputable def f7o14 : Array Oper := cO (cL (cL (cR (cL (cR (cR (cR (cR (cR (cR (cR (cR (cB f7)))))))))))))
def f7a14 : RAnn := ⟨[14, 113, 114, 115, 116, 117, 118, 119, 120, 121, 122, 123], []⟩
noncomputable def f7o15 : Array Oper := cO (cL (cR (cL (cR (cL (cR (cR (cR (cR (cR (cR (cR (cR (cB f7))))))))))))))
def f7a15 : RAnn := ⟨[9, 15, 16, 124, 125, 126, 127, 128, 129, 130, 131, 132], []⟩
noncomputable def f7o16 : Array Oper := cO (cL (cL (cR (cR (cL (cR (cL (cR (cR (cR (cR (cR (cR (cR (cR (cB f7))))))))))))))))
def f7a16 : RAnn := ⟨[2, 3, 7, 133], []⟩
noncomputable def f7o17 : Array Oper := cO (cL (cL (cR (cR (cR (cR (cR (cR (cR (cR (cR (cB f7))))))))))))
def f7a17 : RAnn := ⟨[9, 14, 113, 133], []⟩
noncomputable def f7o18 : Array Oper := cO (cL (cL (cL (cL (cR (cL (cR (cR (cR (cR (cR (cR (cR (cR (cR (cB f7))))))))))))))))
def f7a18 : RAnn := ⟨[134, 135, 136, 137], []⟩
noncomputable def f7o19 : Array Oper := cO (cR (cR (cL (cL (cR (cL (cR (cR (cR (cR (cR (cR (cR (cR (cR (cB f7))))))))))))))))
def f7a19 : RAnn := ⟨[18, 139, 140, 148], []⟩
noncomputable def f7o20 : Array Oper := cO (cL (cL (cL (cR (cL (cL (cR (cL (cR (cR (cR (cR (cR (cR (cR (cR (cR (cB f7))))))))))))))))))
def f7a20 : RAnn := ⟨[138], []⟩
noncomputable def f7o21 : Array Oper := cO (cL (cL (cL (cL (cR (cL (cL (cR (cL (cL (cR (cL (cR (cR (cR (cR (cR (cR (cR (cR (cR (cB f7))))))))))))))))))))))
def f7a21 : RAnn := ⟨[141, 142, 143, 144, 145, 146, 147], []⟩
noncomputable def f7o22 : Array Oper := cO (cR (cR (cL (cL (cR (cL (cL (cR (cL (cL (cR (cL (cR (cR (cR (cR (cR (cR (cR (cR (cR (cB f7))))))))))))))))))))))
def f7a22 : RAnn := ⟨[149, 150, 162], []⟩
noncomputable def f7o23 : Array Oper := cO (cL (cL (cL (cR (cL (cL (cR (cL (cL (cR (cL (cL (cR (cL (cR (cR (cR (cR (cR (cR (cR (cR (cR (cB f7))))))))))))))))))))))))
def f7a23 : RAnn := ⟨[148, 151, 152, 153, 154, 155, 156, 157, 158, 159, 160, 161], []⟩
noncomputable def f7o24 : Array Oper := cO (cL (cL (cR (cL (cL (cR (cL (cL (cR (cL (cL (cR (cL (cL (cR (cL (cR (cR (cR (cR (cR (cR (cR (cR (cR (cB f7))))))))))))))))))))))))))
def f7a24 : RAnn := ⟨[2, 3, 7, 17, 18, 162], []⟩
noncomputable def f7o25 : Array Oper := cO (cL (cR (cR (cR (cR (cR (cR (cR (cR (cR (cR (cB f7))))))))))))
def f7a25 : RAnn := ⟨[17, 138, 163, 164, 165, 166, 167, 168, 169, 170, 171, 172, 173], []⟩
noncomputable def f7o26 : Array Oper := cO (cL (cR (cR (cR (cR (cR (cR (cR (cR (cR (cR (cR (cB f7)))))))))))))
def f7a26 : RAnn := ⟨[2, 3, 174, 175, 176, 177, 178, 179, 180, 181, 182], []⟩
noncomputable def f7o27 : Array Oper := cO (cL (cL (cR (cR (cR (cR (cR (cR (cR (cR (cR (cR (cR (cR (cB f7)))))))))))))))
def f7a27 : RAnn := ⟨[10, 183, 184, 185, 186, 187, 188, 189, 190, 191], []⟩
noncomputable def f7o28 : Array Oper := cO (cL (cL (cR (cL (cR (cR (cR (cR (cR (cR (cR (cR (cR (cR (cR (cR (cB f7)))))))))))))))))
def f7a28 : RAnn := ⟨[7, 8, 19, 20, 21, 192], []⟩
noncomputable def f7o29 : Array Oper := cO (cL (cR (cR (cR (cR (cR (cR (cR (cR (cR (cR (cR (cR (cR (cB f7)))))))))))))))
def f7a29 : RAnn := ⟨[7, 8, 19, 20, 21, 192, 193, 194, 195, 196, 197, 198, 199, 200, 201, 202, 203, 204, 205, 206, 207, 208, 209, 210, 211], []⟩
def f7b0 : Code := (.seq (.seq (.region 21 f7o21 false) (.cond (.tmp 148) .skip (.exit 2))) (.seq (.block 3 (.seq (.region 23 f7o23 true) (.cond (.tmp 162) (.seq (.region 24 f7o24 false) .ret) .skip))) (.region 22 f7o22 false)))
def f7b1 : Code := (.seq (.seq (.region 18 f7o18 false) (.cond (.tmp 138) .skip (.exit 0))) (.seq (.block 1 (.seq (.region 20 f7o20 false) (.block 2 (.loop f7b0)))) (.region 19 f7o19 false)))
def f7c : Code := (.seq (.region 0 f7o0 false) (.seq (.seq (.region 1 f7o1 false) (.cond (.tmp 38) (.seq (.region 2 f7o2 false) .ret) .skip)) (.seq (.region 3 f7o3 false) (.seq (.region 4 f7o4 false) (.seq (.seq (.region 5 f7o5 false) (.cond (.tmp 66) (.seq (.region 6 f7o6 false) .ret) .skip)) (.seq (.region 7 f7o7 false) (.seq (.seq (.region 8 f7o8 false) (.cond (.tmp 80) (.seq (.region 9 f7o9 false) (.seq (.region 10 f7o10 false) (.cond (.tmp 100) (.seq (.region 11 f7o11 false) .ret) .skip))) .skip)) (.seq (.region 12 f7o12 false) (.seq (.seq (.region 13 f7o13 false) (.cond (.tmp 113) (.seq (.region 14 f7o14 false) (.seq (.region 15 f7o15 false) (.cond (.tmp 133) (.seq (.region 16 f7o16 false) .ret) .skip))) .skip)) (.seq (.seq (.region 17 f7o17 false) (.block 0 (.loop f7b1))) (.seq (.region 25 f7o25 false) (.seq (.region 26 f7o26 false) (.seq (.seq (.region 27 f7o27 false) (.cond (.tmp 192) (.seq (.region 28 f7o28 false) .ret) .skip)) (.seq (.region 29 f7o29 false) .ret))))))))))))))
def f7n : List (Nat × RAnn) := [(0, f7a0), (1, f7a1), (2, f7a2), (3, f7a3), (4, f7a4), (5, f7a5), (6, f7a6), (7, f7a7), (8, f7a8), (9, f7a9), (10, f7a10), (11, f7a11), (12, f7a12), (13, f7a13), (14, f7a14), (15, f7a15), (16, f7a16), (17, f7a17), (18, f7a18), (19, f7a19), (20, f7a20), (21, f7a21), (22, f7a22), (23, f7a23), (24, f7a24), (25, f7a25), (26, f7a26), (27, f7a27), (28, f7a28), (29, f7a29)]
def ANNS : List (Nat × FAnn) := [(7, ⟨f7n, [], []⟩), (8, ⟨f8n, [], []⟩), (9, ⟨f9n, [], []⟩), (10, ⟨f10n, [], []⟩), (11, ⟨f11n, [], []⟩), (17, ⟨f17n, [], []⟩), (19, ⟨f19n, [], []⟩), (20, ⟨f20n, [], []⟩), (23, ⟨f23n, [], []⟩), (26, ⟨f26n, [], []⟩), (27, ⟨f27n, [], []⟩), (28, ⟨f28n, [], []⟩), (29, ⟨f29n, [], []⟩), (30, ⟨f30n, [], []⟩), (33, ⟨f33n, [], []⟩), (34, ⟨f34n, [], []⟩), (37, ⟨f37n, [], []⟩), (38, ⟨f38n, [], []⟩), (39, ⟨f39n, [], []⟩), (40, ⟨f40n, [], []⟩), (41, ⟨f41v12n, [], []⟩), (42, ⟨f42n, [], []⟩), (43, ⟨f43v12n, [], []⟩), (44, ⟨f44n, [], []⟩), (45, ⟨f45n, [], []⟩), (47, ⟨f47n, [], []⟩), (49, ⟨f49n, [], []⟩), (53, ⟨f53n, [], []⟩), (54, ⟨f54n, [], []⟩), (56, ⟨f56n, [], []⟩), (58, ⟨f58n, [], []⟩), (59, ⟨f59n, [], []⟩), (60, ⟨f60n, [], []⟩), (61, ⟨f61n, [], []⟩), (62, ⟨f62n, [], []⟩), (63, ⟨f63n, [], []⟩), (64, ⟨f64n, [], []⟩), (66, ⟨f66n, [], []⟩), (67, ⟨f67n, [], []⟩), (68, ⟨f68n, [], []⟩), (69, ⟨f69n, [], []⟩), (71, ⟨f71n, [], []⟩), (72, ⟨f72n, [], []⟩), (73, ⟨f73n, [], []⟩), (75, ⟨f75n, [], []⟩), (84, ⟨f84n, [], []⟩), (85, ⟨f85n, [], []⟩), (86, ⟨f86n, [], []⟩), (87, ⟨f87n, [], []⟩), (88, ⟨f88n, [], []⟩), (89, ⟨f89n, [], []⟩), (90, ⟨f90n, [], []⟩), (91, ⟨f91n, [], []⟩), (92, ⟨f92n, [], []⟩), (94, ⟨f94n, [], []⟩), (100, ⟨f100n, [], []⟩), (101, ⟨f101n, [], []⟩), (102, ⟨f102n, [], []⟩), (103, ⟨f103n, [], []⟩), (104, ⟨f104n, [], []⟩), (109, ⟨f109n, [], []⟩), (110, ⟨f110n, [], []⟩), (111, ⟨f111n, [], []⟩), (112, ⟨f112n, [], []⟩), (113, ⟨f113n, [], []⟩), (114, ⟨f114n, [], []⟩), (115, ⟨f115n, [], []⟩), (116, ⟨f116n, [], []⟩), (117, ⟨f117n, [], []⟩), (118, ⟨f118n, [], []⟩), (119, ⟨f119n, [], []⟩)]
def anns : FuncId → FAnn := fun f => (look f ANNS).getD {}
def ext : ExtH := fun f args => bif Nat.beq f 108 then some (extReverseInt args) else bif Nat.beq f 55 then some (extStrRep args) else bif Nat.beq f 57 then some (extStrJoin args) else bif Nat.beq f 70 then some (extStrCmp args) else bif Nat.beq f 75 && emptyArg args then some (match args with | [v] => some (v, []) | _ => none) else bif Nat.beq f 48 then some (extCat 3 args) else bif Nat.beq f 50 then some (extCat 1 args) else none
noncomputable abbrev EV (k : Nat) : CallH := evF prog anns ext k
noncomputable abbrev RE (k : Nat) (a : RAnn) (o : Array Oper) (d : Bool) (s : St) : Option St := regionE prog (EV k) a o d s
abbrev I (n : Int) : V := .int .i64 n
abbrev sType (l : List T_api_Type) : V := .sl 0 8 (List.map eType l)
abbrev sField (l : List T_api_Field) : V := .sl 0 3 (List.map eField l)
abbrev sSearch (l : List T_api_Search) : V := .sl 0 4 (List.map eSearch l)
abbrev sTerm (l : List T_api_Term) : V := .sl 0 3 (List.map eTerm l)
abbrev sI (l : List Int) : V := .sl 0 1 (List.map I l)
def law12_Large_fin : Bool → V × List V := fun r => ((Bo r), [])
theorem law12_Large_L2_ok (k : Nat) (a0 : T_api_Base) (x17 : Int)  (K0 : Int → Option Bool) (Kst : X × St → Option (V × List V)) (hK0 : ∀ (y0 : Int), Kst (X.exit 2, ⟨[(1, (Pt 1)), (3, (I x17)), (4, (I y0)), (55, (Bo false))], [(1, vS 4 (eBase a0))], 95⟩) = (K0 y0).map law12_Large_fin) (hret : ∀ s, Kst (X.ret, s) = endK prog 95 [(eBase a0)] [] [.tmp 2] (X.ret, s)) :
    ∀ (m : Nat) (x26 : Int), (iter (exec prog (EV k) f8n k f8b0) m ⟨[(1, (Pt 1)), (3, (I x17)), (4, (I x26))], [(1, vS 4 (eBase a0))], 95⟩).bind Kst = (law12_Large_L2 a0 x17 K0 m x26).map law12_Large_fin := by
  intro m
  induction m with
  | zero => intros; rfl
  | succ m ih =>
    intro x26
    unfold law12_Large_L2
    refine et k_round <| et k_assoc <| kga f8a9 rfl (fun (o28 : Bool) => [(55, (Bo o28))]) (rd 4 [(47, (I x26)), (48, (V.ptr 1 0 2)), (49, (sType a0.fTypes)), (50, (I x17))] rfl rfl <| rp rfl (p_index (e := eType) rfl rfl rfl underlying22 rfl (by decide)) fun v27 => bd 7 [(51, (Pr (eType v27))), (52, (Pr (sField v27.fFields))), (53, (sField v27.fFields))] rfl rfl <| rl rfl (p_len (e := eField) rfl rfl rfl rfl rfl rfl underlying43) <| bind_end rfl) fun o28 => kc rfl rfl (fun hc => ?_) fun hc => ?_
    · rw [hc]
      refine et k_skip <| et (k_block rfl) <| kg f8a11 rfl (fun (o31 : Bool) => ⟨[(1, (Pt 1)), (3, (I x17)), (4, (I x26)), (69, (Bo o31))], [(1, vS 4 (eBase a0))], 95⟩) (rd 3 [(58, (V.ptr 1 0 2)), (59, (sType a0.fTypes)), (60, (I x17))] rfl rfl <| rp rfl (p_index (e := eType) rfl rfl rfl underlying22 rfl (by decide)) fun v29 => bd 7 [(61, (Pr (eType v29))), (62, (Pr (sField v29.fFields))), (63, (sField v29.fFields)), (64, (I x26))] rfl rfl <| rp rfl (p_index (e := eField) rfl rfl rfl underlying43 rfl (by decide)) fun v30 => bind_end rfl) fun o31 => kcl rfl rfl (fun hc => ?_) fun hc => ?_
      · rw [hc]
        refine kr ⟨[(2, (Bo true))], [], 95⟩ rfl <| et k_lret <| et blk_ret <| et loop_ret <| et (hret _) ?_
        rfl
      · rw [hc]
        exact et k_lskip <| et blk_normal <| kl ⟨[(1, (Pt 1)), (3, (I x17)), (4, (I (Go.IntKind.wrap .i64 (x26 + 1))))], [(1, vS 4 (eBase a0))], 95⟩ rfl <| et loop_normal <| ih (Go.IntKind.wrap .i64 (x26 + 1))
    · rw [hc]
      exact et k_exit <| et loop_exit <| hK0 x26
theorem law12_Large_L1_ok (k : Nat) (a0 : T_api_Base)  (K0 : Int → Option Bool) (Kst : X × St → Option (V × List V)) (hK0 : ∀ (y0 : Int), Kst (X.exit 0, ⟨[(1, (Pt 1)), (3, (I y0)), (26, (Bo false))], [(1, vS 4 (eBase a0))], 95⟩) = (K0 y0).map law12_Large_fin) (hret : ∀ s, Kst (X.ret, s) = endK prog 95 [(eBase a0)] [] [.tmp 2] (X.ret, s)) :
    ∀ (m : Nat) (x17 : Int), (iter (exec prog (EV k) f8n k f8b1) m ⟨[(1, (Pt 1)), (3, (I x17))], [(1, vS 4 (eBase a0))], 95⟩).bind Kst = (law12_Large_L1 k a0 K0 m x17).map law12_Large_fin := by
  intro m
  induction m with
  | zero => intros; rfl
  | succ m ih =>
    intro x17
    unfold law12_Large_L1
    refine et k_round <| et k_assoc <| krp f8a4 rfl ⟨[(1, (Pt 1)), (3, (I x17)), (26, (Bo (decide (x17 < (a0.fTypes.length : Int)))))], [(1, vS 4 (eBase a0))], 95⟩ ?_ ?_
    · exact rd 3 [(22, (I x17)), (23, (V.ptr 1 0 2)), (24, (sType a0.fTypes))] rfl rfl <| rl rfl (p_len (e := eType) rfl rfl rfl rfl rfl rfl underlying22) <| bind_end rfl
    refine kc rfl rfl (fun hc => ?_) fun hc => ?_
    · rw [hc]
      refine et k_skip <| et (k_block rfl) <| et k_assoc <| kg f8a6 rfl (fun (o20 : Bool) => ⟨[(1, (Pt 1)), (3, (I x17)), (46, (Bo o20))], [(1, vS 4 (eBase a0))], 95⟩) ?_ fun o20 => ?_
      · refine rd 3 [(29, (V.ptr 1 0 2)), (30, (sType a0.fTypes)), (31, (I x17))] rfl rfl <| rp rfl (p_index (e := eType) rfl rfl rfl underlying22 rfl (by decide)) fun v18 => bd 6 [(32, (Pr (eType v18))), (33, (Pr (sField v18.fFields))), (34, (sField v18.fFields))] rfl rfl <| rl rfl (p_len (e := eField) rfl rfl rfl rfl rfl rfl underlying43) <| bd 9 [(35, (I (v18.fFields.length : Int))), (36, (Bo (decide ((v18.fFields.length : Int) > 20)))), (37, (Bo (decide ((v18.fFields.length : Int) > 20))))] rfl rfl <| bifE (fun hc => ?_) fun hc => ?_
        · rw [hc]
          exact reg_end rfl
        · rw [hc]
          exact rd 12 [(38, (V.ptr 1 0 2)), (39, (sType a0.fTypes)), (40, (I x17))] rfl rfl <| rp rfl (p_index (e := eType) rfl rfl rfl underlying22 rfl (by decide)) fun v19 => bind_end rfl
      refine kc rfl rfl (fun hc => ?_) fun hc => ?_
      · rw [hc]
        refine et k_assoc <| kr ⟨[(2, (Bo true))], [], 95⟩ rfl <| et k_ret <| et blk_ret <| et loop_ret <| et (hret _) ?_
        rfl
      · rw [hc]
        refine et k_skip <| kr ⟨[(1, (Pt 1)), (3, (I x17)), (4, (I 0))], [(1, vS 4 (eBase a0))], 95⟩ rfl <| et (k_lblock rfl) <| et k_loop ?_
        refine law12_Large_L2_ok k a0 x17 _ _ ?h_law12_Large_L2_0 ?hr_law12_Large_L2 k 0
        · intro y32
          exact et blk_exit <| et k_lskip <| et blk_normal <| kl ⟨[(1, (Pt 1)), (3, (I (Go.IntKind.wrap .i64 (x17 + 1))))], [(1, vS 4 (eBase a0))], 95⟩ rfl <| et loop_normal <| ih (Go.IntKind.wrap .i64 (x17 + 1))
        · intro s; exact hret s
    · rw [hc]
      exact et k_exit <| et loop_exit <| hK0 x17
theorem law12_Large_L3_ok (k : Nat) (a0 : T_api_Base)  (K0 : Int → Option Bool) (Kst : X × St → Option (V × List V)) (hK0 : ∀ (y0 : Int), Kst (X.exit 4, ⟨[(1, (Pt 1)), (5, (I y0)), (74, (Bo false))], [(1, vS 4 (eBase a0))], 95⟩) = (K0 y0).map law12_Large_fin) (hret : ∀ s, Kst (X.ret, s) = endK prog 95 [(eBase a0)] [] [.tmp 2] (X.ret, s)) :
    ∀ (m : Nat) (x37 : Int), (iter (exec prog (EV k) f8n k f8b2) m ⟨[(1, (Pt 1)), (5, (I x37))], [(1, vS 4 (eBase a0))], 95⟩).bind Kst = (law12_Large_L3 a0 K0 m x37).map law12_Large_fin := by
  intro m
  induction m with
  | zero => intros; rfl
  | succ m ih =>
    intro x37
    unfold law12_Large_L3
    refine et k_round <| et k_assoc <| krp f8a14 rfl ⟨[(1, (Pt 1)), (5, (I x37)), (74, (Bo (decide (x37 < (a0.fIndexes.length : Int)))))], [(1, vS 4 (eBase a0))], 95⟩ ?_ ?_
    · exact rd 3 [(70, (I x37)), (71, (V.ptr 1 0 3)), (72, (sSearch a0.fIndexes))] rfl rfl <| rl rfl (p_len (e := eSearch) rfl rfl rfl rfl rfl rfl underlying23) <| bind_end rfl
    refine kc rfl rfl (fun hc => ?_) fun hc => ?_
    · rw [hc]
      refine et k_skip <| et (k_block rfl) <| kg f8a16 rfl (fun (o40 : Bool) => ⟨[(1, (Pt 1)), (5, (I x37)), (94, (Bo o40))], [(1, vS 4 (eBase a0))], 95⟩) ?_ fun o40 => ?_
      · refine rd 3 [(77, (V.ptr 1 0 3)), (78, (sSearch a0.fIndexes)), (79, (I x37))] rfl rfl <| rp rfl (p_index (e := eSearch) rfl rfl rfl underlying23 rfl (by decide)) fun v38 => bd 9 [(80, (Pr (eSearch v38))), (81, (Pr (Sr v38.fName))), (82, (Sr v38.fName)), (83, (I (v38.fName.length : Int))), (84, (Bo (decide ((v38.fName.length : Int) > 40)))), (85, (Bo (decide ((v38.fName.length : Int) > 40))))] rfl rfl <| bifE (fun hc => ?_) fun hc => ?_
        · rw [hc]
          exact reg_end rfl
        · rw [hc]
          exact rd 12 [(86, (V.ptr 1 0 3)), (87, (sSearch a0.fIndexes)), (88, (I x37))] rfl rfl <| rp rfl (p_index (e := eSearch) rfl rfl rfl underlying23 rfl (by decide)) fun v39 => bind_end rfl
      refine kcl rfl rfl (fun hc => ?_) fun hc => ?_
      · rw [hc]
        refine kr ⟨[(2, (Bo true))], [], 95⟩ rfl <| et k_lret <| et blk_ret <| et loop_ret <| et (hret _) ?_
        rfl
      · rw [hc]
        exact et k_lskip <| et blk_normal <| kl ⟨[(1, (Pt 1)), (5, (I (Go.IntKind.wrap .i64 (x37 + 1))))], [(1, vS 4 (eBase a0))], 95⟩ rfl <| et loop_normal <| ih (Go.IntKind.wrap .i64 (x37 + 1))
    · rw [hc]
      exact et k_exit <| et loop_exit <| hK0 x37
theorem law12_Large_ok (k : Nat) (a0 : T_api_Base) : EV k 8 [(eBase a0)] = (law12_Large k a0).map law12_Large_fin := by
  cases k with
  | zero => rfl
  | succ k =>
    unfold law12_Large
    refine et (evF_succ (c := f8c) (N := 95) (regs := f8n) rfl func8 rfl (by decide) rfl rfl rfl) <| kr ⟨[(1, (Pt 1))], [(1, vS 4 (eBase a0))], 95⟩ rfl <| et k_assoc <| kga f8a1 rfl (fun (o1 : Bool) => [(21, (Bo o1))]) ?_ fun o1 => ?_
    · refine rd 2 [(6, (V.ptr 1 0 2)), (7, (sType a0.fTypes))] rfl rfl <| rl rfl (p_len (e := eType) rfl rfl rfl rfl rfl rfl underlying22) <| bd 5 [(8, (I (a0.fTypes.length : Int))), (9, (Bo (decide ((a0.fTypes.length : Int) > 20)))), (10, (Bo (decide ((a0.fTypes.length : Int) > 20))))] rfl rfl <| bifE (fun hc => ?_) fun hc => ?_
      · rw [hc]
        exact reg_end rfl
      · rw [hc]
        refine rd 7 [(11, (V.ptr 1 0 3)), (12, (sSearch a0.fIndexes))] rfl rfl <| rl rfl (p_len (e := eSearch) rfl rfl rfl rfl rfl rfl underlying23) <| bd 11 [(13, (I (a0.fIndexes.length : Int))), (14, (Bo (decide ((a0.fIndexes.length : Int) > 20)))), (15, (Bo (decide ((a0.fIndexes.length : Int) > 20)))), (16, (Bo (decide ((a0.fIndexes.length : Int) > 20))))] rfl rfl <| bifE (fun hc => ?_) fun hc => ?_
        · rw [hc]
          exact reg_end rfl
        · rw [hc]
          exact reg_end rfl
    refine kc rfl rfl (fun hc => ?_) fun hc => ?_
    · rw [hc]
      refine et k_assoc <| kr ⟨[(2, (Bo true))], [], 95⟩ rfl <| et k_ret ?_
      rfl
    · rw [hc]
      refine et k_skip <| et k_assoc <| kr ⟨[(1, (Pt 1)), (3, (I 0))], [(1, vS 4 (eBase a0))], 95⟩ rfl <| et (k_block rfl) <| et k_loop ?_
      refine law12_Large_L1_ok k a0 _ _ ?h_law12_Large_L1_0 ?hr_law12_Large_L1 k 0
      · intro y33
        refine et blk_exit <| et k_assoc <| kr ⟨[(1, (Pt 1)), (5, (I 0))], [(1, vS 4 (eBase a0))], 95⟩ rfl <| et (k_block rfl) <| et k_loop ?_
        refine law12_Large_L3_ok k a0 _ _ ?h_law12_Large_L3_0 ?hr_law12_Large_L3 k 0
        · intro y41
          refine et blk_exit <| kr ⟨[(2, (Bo false))], [], 95⟩ rfl <| et k_lret ?_
          rfl
        · intro s; exact rfl
      · intro s; exact rfl
def law12_Long_fin : Bool → V × List V := fun r => ((Bo r), [])
theorem law12_Long_L2_ok (k : Nat) (a0 : (List (List T_api_Term))) (x19 : Int)  (K0 : Int → Option Bool) (Kst : X × St → Option (V × List V)) (hK0 : ∀ (y0 : Int), Kst (X.exit 2, ⟨[(0, (V.sl 0 1 (List.map sTerm a0))), (3, (I x19)), (4, (I y0)), (23, (Bo false))], [], 51⟩) = (K0 y0).map law12_Long_fin) (hret : ∀ s, Kst (X.ret, s) = endK prog 51 [(V.sl 0 1 (List.map sTerm a0))] [] [.tmp 2] (X.ret, s)) :
    ∀ (m : Nat) (x29 : Int), (iter (exec prog (EV k) f9n k f9b0) m ⟨[(0, (V.sl 0 1 (List.map sTerm a0))), (3, (I x19)), (4, (I x29))], [], 51⟩).bind Kst = (law12_Long_L2 a0 x19 K0 m x29).map law12_Long_fin := by
  intro m
  induction m with
  | zero => intros; rfl
  | succ m ih =>
    intro x29
    unfold law12_Long_L2
    refine et k_round <| et k_assoc <| kga f9a7 rfl (fun (o31 : Bool) => [(23, (Bo o31))]) (rd 3 [(17, (I x29)), (18, (V.sl 0 1 (List.map sTerm a0))), (19, (I x19))] rfl rfl <| rp rfl (p_index (e := sTerm) rfl rfl rfl underlying26 rfl (by decide)) fun v30 => bd 5 [(20, (Pr (sTerm v30))), (21, (sTerm v30))] rfl rfl <| rl rfl (p_len (e := eTerm) rfl rfl rfl rfl rfl rfl underlying50) <| bind_end rfl) fun o31 => kc rfl rfl (fun hc => ?_) fun hc => ?_
    · rw [hc]
      refine et k_skip <| et (k_block rfl) <| kg f9a9 rfl (fun (o36 : Bool) => ⟨[(0, (V.sl 0 1 (List.map sTerm a0))), (3, (I x19)), (4, (I x29)), (47, (Bo o36))], [], 51⟩) ?_ fun o36 => ?_
      · refine rd 2 [(26, (V.sl 0 1 (List.map sTerm a0))), (27, (I x19))] rfl rfl <| rp rfl (p_index (e := sTerm) rfl rfl rfl underlying26 rfl (by decide)) fun v32 => bd 5 [(28, (Pr (sTerm v32))), (29, (sTerm v32)), (30, (I x29))] rfl rfl <| rp rfl (p_index (e := eTerm) rfl rfl rfl underlying50 rfl (by decide)) fun v33 => bd 11 [(31, (Pr (eTerm v33))), (32, (Pr (Sr v33.fField))), (33, (Sr v33.fField)), (34, (I (v33.fField.length : Int))), (35, (Bo (decide ((v33.fField.length : Int) > 100)))), (36, (Bo (decide ((v33.fField.length : Int) > 100))))] rfl rfl <| bifE (fun hc => ?_) fun hc => ?_
        · rw [hc]
          exact reg_end rfl
        · rw [hc]
          exact rd 13 [(37, (V.sl 0 1 (List.map sTerm a0))), (38, (I x19))] rfl rfl <| rp rfl (p_index (e := sTerm) rfl rfl rfl underlying26 rfl (by decide)) fun v34 => bd 16 [(39, (Pr (sTerm v34))), (40, (sTerm v34)), (41, (I x29))] rfl rfl <| rp rfl (p_index (e := eTerm) rfl rfl rfl underlying50 rfl (by decide)) fun v35 => bind_end rfl
      refine kcl rfl rfl (fun hc => ?_) fun hc => ?_
      · rw [hc]
        refine kr ⟨[(2, (Bo true))], [], 51⟩ rfl <| et k_lret <| et blk_ret <| et loop_ret <| et (hret _) ?_
        rfl
      · rw [hc]
        exact et k_lskip <| et blk_normal <| kl ⟨[(0, (V.sl 0 1 (List.map sTerm a0))), (3, (I x19)), (4, (I (Go.IntKind.wrap .i64 (x29 + 1))))], [], 51⟩ rfl <| et loop_normal <| ih (Go.IntKind.wrap .i64 (x29 + 1))
    · rw [hc]
      exact et k_exit <| et loop_exit <| hK0 x29
theorem law12_Long_L1_ok (k : Nat) (a0 : (List (List T_api_Term)))  (K0 : Int → Option Bool) (Kst : X × St → Option (V × List V)) (hK0 : ∀ (y0 : Int), Kst (X.exit 0, ⟨[(0, (V.sl 0 1 (List.map sTerm a0))), (3, (I y0)), (8, (Bo false))], [], 51⟩) = (K0 y0).map law12_Long_fin) (hret : ∀ s, Kst (X.ret, s) = endK prog 51 [(V.sl 0 1 (List.map sTerm a0))] [] [.tmp 2] (X.ret, s)) :
    ∀ (m : Nat) (x19 : Int), (iter (exec prog (EV k) f9n k f9b1) m ⟨[(0, (V.sl 0 1 (List.map sTerm a0))), (3, (I x19))], [], 51⟩).bind Kst = (law12_Long_L1 k a0 K0 m x19).map law12_Long_fin := by
  intro m
  induction m with
  | zero => intros; rfl
  | succ m ih =>
    intro x19
    unfold law12_Long_L1
    refine et k_round <| et k_assoc <| krp f9a2 rfl ⟨[(0, (V.sl 0 1 (List.map sTerm a0))), (3, (I x19)), (8, (Bo (decide (x19 < (a0.length : Int)))))], [], 51⟩ ?_ ?_
    · exact rd 2 [(5, (I x19)), (6, (V.sl 0 1 (List.map sTerm a0)))] rfl rfl <| rl rfl (p_len (e := sTerm) rfl rfl rfl rfl rfl rfl underlying26) <| bind_end rfl
    refine kc rfl rfl (fun hc => ?_) fun hc => ?_
    · rw [hc]
      refine et k_skip <| et (k_block rfl) <| et k_assoc <| kg f9a4 rfl (fun (o21 : Bool) => ⟨[(0, (V.sl 0 1 (List.map sTerm a0))), (3, (I x19)), (16, (Bo o21))], [], 51⟩) (rd 2 [(11, (V.sl 0 1 (List.map sTerm a0))), (12, (I x19))] rfl rfl <| rp rfl (p_index (e := sTerm) rfl rfl rfl underlying26 rfl (by decide)) fun v20 => bd 4 [(13, (Pr (sTerm v20))), (14, (sTerm v20))] rfl rfl <| rl rfl (p_len (e := eTerm) rfl rfl rfl rfl rfl rfl underlying50) <| bind_end rfl) fun o21 => kc rfl rfl (fun hc => ?_) fun hc => ?_
      · rw [hc]
        refine et k_assoc <| kr ⟨[(2, (Bo true))], [], 51⟩ rfl <| et k_ret <| et blk_ret <| et loop_ret <| et (hret _) ?_
        rfl
      · rw [hc]
        refine et k_skip <| kr ⟨[(0, (V.sl 0 1 (List.map sTerm a0))), (3, (I x19)), (4, (I 0))], [], 51⟩ rfl <| et (k_lblock rfl) <| et k_loop ?_
        refine law12_Long_L2_ok k a0 x19 _ _ ?h_law12_Long_L2_0 ?hr_law12_Long_L2 k 0
        · intro y37
          exact et blk_exit <| et k_lskip <| et blk_normal <| kl ⟨[(0, (V.sl 0 1 (List.map sTerm a0))), (3, (I (Go.IntKind.wrap .i64 (x19 + 1))))], [], 51⟩ rfl <| et loop_normal <| ih (Go.IntKind.wrap .i64 (x19 + 1))
        · intro s; exact hret s
    · rw [hc]
      exact et k_exit <| et loop_exit <| hK0 x19
theorem law12_Long_ok (k : Nat) (a0 : (List (List T_api_Term))) : EV k 9 [(V.sl 0 1 (List.map sTerm a0))] = (law12_Long k a0).map law12_Long_fin := by
  cases k with
  | zero => rfl
  | succ k =>
    unfold law12_Long
    refine et (evF_succ (c := f9c) (N := 51) (regs := f9n) rfl func9 rfl (by decide) rfl rfl rfl) <| kra [] rfl <| et k_assoc <| kra [(3, (I 0))] rfl <| et (k_block rfl) <| et k_loop ?_
    refine law12_Long_L1_ok k a0 _ _ ?h_law12_Long_L1_0 ?hr_law12_Long_L1 k 0
    · intro y38
      refine et blk_exit <| krp f9a11 rfl ⟨[(2, (Bo (decide ((a0.length : Int) > 20))))], [], 51⟩ ?_ ?_
      · exact rd 1 [(48, (V.sl 0 1 (List.map sTerm a0)))] rfl rfl <| rl rfl (p_len (e := sTerm) rfl rfl rfl rfl rfl rfl underlying26) <| bind_end rfl
      refine et k_lret ?_
      rfl
    · intro s; exact rfl
def law12_shop_fin : T_api_Base → V × List V := fun r => ((eBase r), [])
theorem law12_shop_ok (k : Nat)  : EV k 19 [] = (law12_shop k).map law12_shop_fin := by
  cases k with
  | zero => rfl
  | succ k =>
    unfold law12_shop
    refine et (evF_succ (c := f19c) (N := 6) (regs := f19n) rfl func19 rfl (by decide) rfl rfl rfl) <| kr ⟨[(0, (Pt 0))], [(0, ⟨false, 4, [(V.agg [(Sr []), (I 0), (V.sl 2 8 (List.map eType ([] : List T_api_Type))), (V.sl 2 4 (List.map eSearch ([] : List T_api_Search)))])]⟩)], 6⟩ rfl <| kr ⟨[(0, (Pt 0))], [(0, ⟨false, 4, [(eBase ({ fName := ([83, 72, 79, 80] : Str), fKind := 4, fTypes := ([({ fName := ([67, 85, 83, 84] : Str), fParent := (-1), fMin := 4, fSize := 10, fFields := ([({ fName := ([67, 85, 83, 84, 78, 79] : Str), fAt := 0, fBytes := 4 } : T_api_Field)] : List T_api_Field), fKey := 0, fUnique := true, fLast := false } : T_api_Type)] : List T_api_Type), fIndexes := ([] : List T_api_Search) } : T_api_Base))]⟩)], 6⟩ rfl <| et k_lret ?_
    rfl
def dbd_IsName_fin : Bool → V × List V := fun r => ((Bo r), [])
theorem dbd_IsName_L1_ok (k : Nat) (a0 : Str)  (K0 : Int → Option Bool) (Kst : X × St → Option (V × List V)) (hK0 : ∀ (y0 : Int), Kst (X.exit 0, ⟨[(0, (Sr a0)), (6, (I (a0.length : Int))), (7, (I y0)), (8, (Bo false))], [], 47⟩) = (K0 y0).map dbd_IsName_fin) (hret : ∀ s, Kst (X.ret, s) = endK prog 47 [(Sr a0)] [] [.tmp 2] (X.ret, s)) :
    ∀ (m : Nat) (x7 : Int), (iter (exec prog (EV k) f101n k f101b0) m ⟨[(0, (Sr a0)), (6, (I (a0.length : Int))), (7, (I x7))], [], 47⟩).bind Kst = (dbd_IsName_L1 a0 K0 m x7).map dbd_IsName_fin := by
  intro m
  induction m with
  | zero => intros; rfl
  | succ m ih =>
    intro x7
    unfold dbd_IsName_L1
    refine et k_round <| kra [(8, (Bo (decide (x7 < (a0.length : Int)))))] rfl <| kc rfl rfl (fun hc => ?_) fun hc => ?_
    · rw [hc]
      refine et k_skip <| et (k_block rfl) <| kr ⟨[(0, (Sr a0)), (3, (I x7)), (6, (I (a0.length : Int))), (7, (I x7))], [], 47⟩ rfl <| kg f101a4 rfl (fun (o10 : Bool) => ⟨[(0, (Sr a0)), (3, (I x7)), (4, (Bo o10)), (6, (I (a0.length : Int))), (7, (I x7))], [], 47⟩) ?_ fun o10 => ?_
      · refine rd 2 [(10, (Sr a0)), (11, (I x7))] rfl rfl <| rp rfl (p_indexS rfl rfl rfl underlying9) fun v8 => bd 5 [(12, (V.int .u8 v8)), (13, (Bo (decide (v8 ≥ 65)))), (14, (Bo (decide (v8 ≥ 65))))] rfl rfl <| bifE (fun hc => ?_) fun hc => ?_
        · rw [hc]
          exact rd 7 [(15, (Sr a0)), (16, (I x7))] rfl rfl <| rp rfl (p_indexS rfl rfl rfl underlying9) fun v9 => bind_end rfl
        · rw [hc]
          exact reg_end rfl
      refine kg f101a5 rfl (fun (o13 : Bool) => ⟨[(0, (Sr a0)), (6, (I (a0.length : Int))), (7, (I x7)), (37, (Bo o13))], [], 47⟩) ?_ fun o13 => ?_
      · refine rd 3 [(20, (Bo o10)), (21, (Bo (!o10))), (22, (Bo (!o10)))] rfl rfl <| bifE (fun hc => ?_) fun hc => ?_
        · rw [hc]
          refine rd 6 [(23, (I x7)), (24, (Bo (x7 == 0))), (25, (Bo (x7 == 0)))] rfl rfl <| bifE (fun hc => ?_) fun hc => ?_
          · rw [hc]
            exact reg_end rfl
          · rw [hc]
            refine rd 8 [(26, (Sr a0)), (27, (I x7))] rfl rfl <| rp rfl (p_indexS rfl rfl rfl underlying9) fun v11 => bd 12 [(28, (V.int .u8 v11)), (29, (Bo (decide (v11 < 48)))), (30, (Bo (decide (v11 < 48)))), (31, (Bo (decide (v11 < 48))))] rfl rfl <| bifE (fun hc => ?_) fun hc => ?_
            · rw [hc]
              exact reg_end rfl
            · rw [hc]
              exact rd 14 [(32, (Sr a0)), (33, (I x7))] rfl rfl <| rp rfl (p_indexS rfl rfl rfl underlying9) fun v12 => bind_end rfl
        · rw [hc]
          exact reg_end rfl
      refine kcl rfl rfl (fun hc => ?_) fun hc => ?_
      · rw [hc]
        refine kr ⟨[(2, (Bo false))], [], 47⟩ rfl <| et k_lret <| et blk_ret <| et loop_ret <| et (hret _) ?_
        rfl
      · rw [hc]
        exact et k_lskip <| et blk_normal <| kl ⟨[(0, (Sr a0)), (6, (I (a0.length : Int))), (7, (I (Go.IntKind.wrap .i64 (x7 + 1))))], [], 47⟩ rfl <| et loop_normal <| ih (Go.IntKind.wrap .i64 (x7 + 1))
    · rw [hc]
      exact et k_exit <| et loop_exit <| hK0 x7
theorem dbd_IsName_ok (k : Nat) (a0 : Str) : EV k 101 [(Sr a0)] = (dbd_IsName k a0).map dbd_IsName_fin := by
  cases k with
  | zero => rfl
  | succ k =>
    unfold dbd_IsName
    refine et (evF_succ (c := f101c) (N := 47) (regs := f101n) rfl func101 rfl (by decide) rfl rfl rfl) <| kra [] rfl <| et k_assoc <| kra [(6, (I (a0.length : Int))), (7, (I 0))] rfl <| et (k_block rfl) <| et k_loop ?_
    refine dbd_IsName_L1_ok k a0 _ _ ?h_dbd_IsName_L1_0 ?hr_dbd_IsName_L1 k 0
    · intro y14
      refine et blk_exit <| kg f101a8 rfl (fun (o15 : Bool) => ⟨[(2, (Bo o15))], [], 47⟩) ?_ fun o15 => ?_
      · refine rd 4 [(39, (Sr a0)), (40, (I (a0.length : Int))), (41, (Bo (decide ((a0.length : Int) ≥ 1)))), (42, (Bo (decide ((a0.length : Int) ≥ 1))))] rfl rfl <| bifE (fun hc => ?_) fun hc => ?_
        · rw [hc]
          exact reg_end rfl
        · rw [hc]
          exact reg_end rfl
      refine et k_lret ?_
      rfl
    · intro s; exact rfl
def slices_IndexFunc_Field_fin : Int → V × List V := fun r => ((I r), [])
theorem slices_IndexFunc_Field_L1_ok (k : Nat) (a0 : (List T_api_Field)) (a1 : Nat → T_api_Field → Option Bool) (a1_fid : Go.FuncId) (a1_c0 : V) (a1_hok : ∀ j x0, EV j a1_fid [(eField x0), V.pro a1_c0] = (a1 j x0).map fun b => ((Bo b), [])) (K0 : Int → Option Int) (Kst : X × St → Option (V × List V)) (hK0 : ∀ (y0 : Int), Kst (X.exit 0, ⟨[(0, (sField a0)), (1, (V.fn a1_fid [] [V.pro a1_c0])), (7, (I (a0.length : Int))), (8, (I y0)), (9, (Bo false))], [], 19⟩) = (K0 y0).map slices_IndexFunc_Field_fin) (hret : ∀ s, Kst (X.ret, s) = endK prog 19 [(sField a0), (V.fn a1_fid [] [V.pro a1_c0])] [] [.tmp 4] (X.ret, s)) :
    ∀ (m : Nat) (x4 : Int), (iter (exec prog (EV k) f68n k f68b0) m ⟨[(0, (sField a0)), (1, (V.fn a1_fid [] [V.pro a1_c0])), (7, (I (a0.length : Int))), (8, (I x4))], [], 19⟩).bind Kst = (slices_IndexFunc_Field_L1 k a0 a1 K0 m x4).map slices_IndexFunc_Field_fin := by
  intro m
  induction m with
  | zero => intros; rfl
  | succ m ih =>
    intro x4
    unfold slices_IndexFunc_Field_L1
    refine et k_round <| kra [(9, (Bo (decide (x4 < (a0.length : Int)))))] rfl <| kc rfl rfl (fun hc => ?_) fun hc => ?_
    · rw [hc]
      refine et k_skip <| et (k_block rfl) <| kr ⟨[(0, (sField a0)), (1, (V.fn a1_fid [] [V.pro a1_c0])), (5, (I x4)), (7, (I (a0.length : Int))), (8, (I x4))], [], 19⟩ rfl <| kga f68a4 rfl (fun (o7 : Bool) => [(16, (Bo o7))]) (rd 3 [(11, (V.fn a1_fid [] [V.pro a1_c0])), (12, (sField a0)), (13, (I x4))] rfl rfl <| rp rfl (p_index (e := eField) rfl rfl rfl underlying43 rfl (by decide)) fun v5 => bd 5 [(14, (Pr (eField v5))), (15, (eField v5))] rfl rfl <| rs rfl (p_call rfl rfl rfl rfl rfl (a1_hok k v5) (.inl rfl)) fun v6 => bind_end rfl) fun o7 => kcl rfl rfl (fun hc => ?_) fun hc => ?_
      · rw [hc]
        refine kr ⟨[(4, (I x4))], [], 19⟩ rfl <| et k_lret <| et blk_ret <| et loop_ret <| et (hret _) ?_
        rfl
      · rw [hc]
        exact et k_lskip <| et blk_normal <| kl ⟨[(0, (sField a0)), (1, (V.fn a1_fid [] [V.pro a1_c0])), (7, (I (a0.length : Int))), (8, (I (Go.IntKind.wrap .i64 (x4 + 1))))], [], 19⟩ rfl <| et loop_normal <| ih (Go.IntKind.wrap .i64 (x4 + 1))
    · rw [hc]
      exact et k_exit <| et loop_exit <| hK0 x4
theorem slices_IndexFunc_Field_ok (k : Nat) (a0 : (List T_api_Field)) (a1 : Nat → T_api_Field → Option Bool) (a1_fid : Go.FuncId) (a1_c0 : V) (a1_hok : ∀ j x0, EV j a1_fid [(eField x0), V.pro a1_c0] = (a1 j x0).map fun b => ((Bo b), [])) : EV k 68 [(sField a0), (V.fn a1_fid [] [V.pro a1_c0])] = (slices_IndexFunc_Field k a0 a1).map slices_IndexFunc_Field_fin := by
  cases k with
  | zero => rfl
  | succ k =>
    unfold slices_IndexFunc_Field
    refine et (evF_succ (c := f68c) (N := 19) (regs := f68n) rfl func68 rfl (by decide) rfl rfl rfl) <| kra [] rfl <| et k_assoc <| krp f68a1 rfl ⟨[(0, (sField a0)), (1, (V.fn a1_fid [] [V.pro a1_c0])), (7, (I (a0.length : Int))), (8, (I 0))], [], 19⟩ ?_ ?_
    · exact rd 1 [(6, (sField a0))] rfl rfl <| rl rfl (p_len (e := eField) rfl rfl rfl rfl rfl rfl underlying43) <| bind_end rfl
    refine et (k_block rfl) <| et k_loop ?_
    refine slices_IndexFunc_Field_L1_ok k a0 a1 a1_fid a1_c0 a1_hok _ _ ?h_slices_IndexFunc_Field_L1_0 ?hr_slices_IndexFunc_Field_L1 k 0
    · intro y8
      refine et blk_exit <| kr ⟨[(4, (I (-1)))], [], 19⟩ rfl <| et k_lret ?_
      rfl
    · intro s; exact rfl
def slices_ContainsFunc_Field_fin : Bool → V × List V := fun r => ((Bo r), [])
theorem slices_ContainsFunc_Field_ok (k : Nat) (a0 : (List T_api_Field)) (a1 : Nat → T_api_Field → Option Bool) (a1_fid : Go.FuncId) (a1_c0 : V) (a1_hok : ∀ j x0, EV j a1_fid [(eField x0), V.pro a1_c0] = (a1 j x0).map fun b => ((Bo b), [])) : EV k 118 [(sField a0), (V.fn a1_fid [] [V.pro a1_c0])] = (slices_ContainsFunc_Field k a0 a1).map slices_ContainsFunc_Field_fin := by
  cases k with
  | zero => rfl
  | succ k =>
    unfold slices_ContainsFunc_Field
    refine et (evF_succ (c := f118c) (N := 9) (regs := f118n) rfl func118 rfl (by decide) rfl rfl rfl) <| kra [] rfl <| kg f118a1 rfl (fun (o2 : Bool) => ⟨[(4, (Bo o2))], [], 9⟩) (rd 2 [(5, (sField a0)), (6, (V.fn a1_fid [] [V.pro a1_c0]))] rfl rfl <| rp rfl (p_call rfl rfl rfl rfl rfl (slices_IndexFunc_Field_ok k a0 a1 a1_fid a1_c0 a1_hok) (.inl rfl)) fun v1 => bind_end rfl) fun o2 => et k_lret ?_
    rfl
def dbd_areFields_1_fin : Bool → V × List V := fun r => ((Bo r), [])
theorem dbd_areFields_1_ok (k : Nat) (a0 : T_api_Field) (a1 : T_api_Field) : EV k 119 [(eField a0), (Pr (eField a1))] = (dbd_areFields_1 k a0 a1).map dbd_areFields_1_fin := by
  cases k with
  | zero => rfl
  | succ k =>
    unfold dbd_areFields_1
    refine et (evF_succ (c := f119c) (N := 9) (regs := f119n) rfl func119 rfl (by decide) rfl rfl rfl) <| kr ⟨[(1, (Pr (eField a1))), (2, (Pt 2))], [(2, vS 3 (eField a0))], 9⟩ rfl <| kr ⟨[(3, (Bo (a0.fName == a1.fName)))], [], 9⟩ rfl <| et k_lret ?_
    rfl
def dbd_areFields_fin : Bool → V × List V := fun r => ((Bo r), [])
theorem dbd_areFields_L1_ok (k : Nat) (a0 : (List T_api_Field)) (a1 : Int)  (K0 : Int → Option Bool) (Kst : X × St → Option (V × List V)) (hK0 : ∀ (y0 : Int), Kst (X.exit 0, ⟨[(0, (sField a0)), (1, (I a1)), (7, (sField a0)), (8, (I (a0.length : Int))), (9, (I y0)), (10, (Bo false))], [], 52⟩) = (K0 y0).map dbd_areFields_fin) (hret : ∀ s, Kst (X.ret, s) = endK prog 52 [(sField a0), (I a1)] [] [.tmp 4] (X.ret, s)) :
    ∀ (m : Nat) (x8 : Int), (iter (exec prog (EV k) f115n k f115b0) m ⟨[(0, (sField a0)), (1, (I a1)), (7, (sField a0)), (8, (I (a0.length : Int))), (9, (I x8))], [], 52⟩).bind Kst = (dbd_areFields_L1 k a0 a1 K0 m x8).map dbd_areFields_fin := by
  intro m
  induction m with
  | zero => intros; rfl
  | succ m ih =>
    intro x8
    unfold dbd_areFields_L1
    refine et k_round <| kra [(10, (Bo (decide (x8 < (a0.length : Int)))))] rfl <| kc rfl rfl (fun hc => ?_) fun hc => ?_
    · rw [hc]
      refine et k_skip <| et (k_block rfl) <| kg f115a3 rfl (fun (o10 : Int × T_api_Field) => ⟨[(0, (sField a0)), (1, (I a1)), (5, (I o10.1)), (6, (Pt 6)), (7, (sField a0)), (8, (I (a0.length : Int))), (9, (I x8))], [(6, vS 3 (eField o10.2))], 52⟩) (rd 1 [(11, (I x8))] rfl rfl <| rp rfl (p_index (e := eField) rfl rfl rfl underlying43 rfl (by decide)) fun v9 => bind_end rfl) fun o10 => et k_assoc <| kga f115a4 rfl (fun (o12 : Bool) => [(42, (Bo o12))]) ?_ fun o12 => ?_
      · refine rd 2 [(14, (Pt 6)), (15, (Sr o10.2.fName))] rfl rfl <| rp rfl (p_call rfl rfl rfl rfl rfl (dbd_IsName_ok k o10.2.fName) (.inl rfl)) fun v11 => bd 5 [(16, (Bo v11)), (17, (Bo (!v11))), (18, (Bo (!v11)))] rfl rfl <| bifE (fun hc => ?_) fun hc => ?_
        · rw [hc]
          exact reg_end rfl
        · rw [hc]
          refine rd 10 [(19, (V.ptr 6 0 1)), (20, (I o10.2.fAt)), (21, (Bo (decide (o10.2.fAt < 0)))), (22, (Bo (decide (o10.2.fAt < 0)))), (23, (Bo (decide (o10.2.fAt < 0))))] rfl rfl <| bifE (fun hc => ?_) fun hc => ?_
          · rw [hc]
            exact reg_end rfl
          · rw [hc]
            refine rd 16 [(24, (V.ptr 6 0 1)), (25, (I o10.2.fAt)), (26, (I a1)), (27, (Bo (decide (o10.2.fAt ≥ a1)))), (28, (Bo (decide (o10.2.fAt ≥ a1)))), (29, (Bo (decide (o10.2.fAt ≥ a1))))] rfl rfl <| bifE (fun hc => ?_) fun hc => ?_
            · rw [hc]
              exact reg_end rfl
            · rw [hc]
              refine rd 21 [(30, (V.ptr 6 0 2)), (31, (I o10.2.fBytes)), (32, (Bo (decide (o10.2.fBytes < 1)))), (33, (Bo (decide (o10.2.fBytes < 1)))), (34, (Bo (decide (o10.2.fBytes < 1))))] rfl rfl <| bifE (fun hc => ?_) fun hc => ?_
              · rw [hc]
                exact reg_end rfl
              · rw [hc]
                exact reg_end rfl
      refine kc rfl rfl (fun hc => ?_) fun hc => ?_
      · rw [hc]
        refine et k_assoc <| kr ⟨[(4, (Bo false))], [], 52⟩ rfl <| et k_ret <| et blk_ret <| et loop_ret <| et (hret _) ?_
        rfl
      · rw [hc]
        refine et k_skip <| kg f115a6 rfl (fun (o15 : Bool) => ⟨[(0, (sField a0)), (1, (I a1)), (7, (sField a0)), (8, (I (a0.length : Int))), (9, (I x8)), (47, (Bo o15))], [], 52⟩) (rd 2 [(43, (sField a0)), (44, (I o10.1))] rfl rfl <| rp rfl (p_slice (e := eField) rfl rfl rfl rfl rfl rfl underlying43 rfl (by decide)) fun v13 => bd 4 [(45, (sField v13)), (46, (V.fn 119 [] [(Pt 6)]))] rfl rfl <| rs rfl (p_call rfl rfl rfl rfl rfl (slices_ContainsFunc_Field_ok k v13 (fun j x0 => (dbd_areFields_1 j x0 o10.2)) 119 (eField o10.2) (fun j x0 => (dbd_areFields_1_ok j x0 o10.2))) (.inr (fun _ => rfl))) fun v14 => bind_end rfl) fun o15 => kcl rfl rfl (fun hc => ?_) fun hc => ?_
        · rw [hc]
          refine kr ⟨[(4, (Bo false))], [], 52⟩ rfl <| et k_lret <| et blk_ret <| et loop_ret <| et (hret _) ?_
          rfl
        · rw [hc]
          exact et k_lskip <| et blk_normal <| kl ⟨[(0, (sField a0)), (1, (I a1)), (7, (sField a0)), (8, (I (a0.length : Int))), (9, (I (Go.IntKind.wrap .i64 (x8 + 1))))], [], 52⟩ rfl <| et loop_normal <| ih (Go.IntKind.wrap .i64 (x8 + 1))
    · rw [hc]
      exact et k_exit <| et loop_exit <| hK0 x8
theorem dbd_areFields_ok (k : Nat) (a0 : (List T_api_Field)) (a1 : Int) : EV k 115 [(sField a0), (I a1)] = (dbd_areFields k a0 a1).map dbd_areFields_fin := by
  cases k with
  | zero => rfl
  | succ k =>
    unfold dbd_areFields
    refine et (evF_succ (c := f115c) (N := 52) (regs := f115n) rfl func115 rfl (by decide) rfl rfl rfl) <| kra [] rfl <| et k_assoc <| krp f115a1 rfl ⟨[(0, (sField a0)), (1, (I a1)), (7, (sField a0)), (8, (I (a0.length : Int))), (9, (I 0))], [], 52⟩ ?_ ?_
    · exact rd 1 [(7, (sField a0))] rfl rfl <| rl rfl (p_len (e := eField) rfl rfl rfl rfl rfl rfl underlying43) <| bind_end rfl
    refine et (k_block rfl) <| et k_loop ?_
    refine dbd_areFields_L1_ok k a0 a1 _ _ ?h_dbd_areFields_L1_0 ?hr_dbd_areFields_L1 k 0
    · intro y16
      refine et blk_exit <| krp f115a9 rfl ⟨[(4, (Bo (decide ((a0.length : Int) ≤ 5))))], [], 52⟩ ?_ ?_
      · exact rd 1 [(49, (sField a0))] rfl rfl <| rl rfl (p_len (e := eField) rfl rfl rfl rfl rfl rfl underlying43) <| bind_end rfl
      refine et k_lret ?_
      rfl
    · intro s; exact rfl
def dbd_isType_fin : Bool → V × List V := fun r => ((Bo r), [])
theorem dbd_isType_ok (k : Nat) (a0 : T_api_Type) : EV k 109 [(eType a0)] = (dbd_isType k a0).map dbd_isType_fin := by
  cases k with
  | zero => rfl
  | succ k =>
    unfold dbd_isType
    refine et (evF_succ (c := f109c) (N := 70) (regs := f109n) rfl func109 rfl (by decide) rfl rfl rfl) <| kr ⟨[(1, (Pt 1))], [(1, vS 8 (eType a0))], 70⟩ rfl <| et (k_block rfl) <| kga f109a1 rfl (fun (o3 : Bool) => [(3, (Bo o3))]) ?_ fun o3 => ?_
    · refine rd 2 [(4, (Pt 1)), (5, (Sr a0.fName))] rfl rfl <| rp rfl (p_call rfl rfl rfl rfl rfl (dbd_IsName_ok k a0.fName) (.inl rfl)) fun v1 => bd 5 [(6, (Bo v1)), (7, (Bo (!v1))), (8, (Bo (!v1)))] rfl rfl <| bifE (fun hc => ?_) fun hc => ?_
      · rw [hc]
        exact reg_end rfl
      · rw [hc]
        refine rd 10 [(9, (V.ptr 1 0 2)), (10, (I a0.fMin)), (11, (Bo (decide (a0.fMin < 1)))), (12, (Bo (decide (a0.fMin < 1)))), (13, (Bo (decide (a0.fMin < 1))))] rfl rfl <| bifE (fun hc => ?_) fun hc => ?_
        · rw [hc]
          exact reg_end rfl
        · rw [hc]
          refine rd 17 [(14, (V.ptr 1 0 2)), (15, (I a0.fMin)), (16, (V.ptr 1 0 3)), (17, (I a0.fSize)), (18, (Bo (decide (a0.fMin > a0.fSize)))), (19, (Bo (decide (a0.fMin > a0.fSize)))), (20, (Bo (decide (a0.fMin > a0.fSize))))] rfl rfl <| bifE (fun hc => ?_) fun hc => ?_
          · rw [hc]
            exact reg_end rfl
          · rw [hc]
            refine rd 22 [(21, (V.ptr 1 0 3)), (22, (I a0.fSize)), (23, (Bo (decide (a0.fSize > 40)))), (24, (Bo (decide (a0.fSize > 40)))), (25, (Bo (decide (a0.fSize > 40))))] rfl rfl <| bifE (fun hc => ?_) fun hc => ?_
            · rw [hc]
              exact reg_end rfl
            · rw [hc]
              exact rd 26 [(26, (V.ptr 1 0 4)), (27, (sField a0.fFields)), (28, (V.ptr 1 0 3)), (29, (I a0.fSize))] rfl rfl <| rp rfl (p_call rfl rfl rfl rfl rfl (dbd_areFields_ok k a0.fFields a0.fSize) (.inl rfl)) fun v2 => bind_end rfl
    refine kcl rfl rfl (fun hc => ?_) fun hc => ?_
    · rw [hc]
      refine kr ⟨[(2, (Bo false))], [], 70⟩ rfl <| et k_lret <| et blk_ret ?_
      rfl
    · rw [hc]
      refine kr ⟨[(1, (Pt 1)), (33, (Bo (a0.fKey == (-1))))], [(1, vS 8 (eType a0))], 70⟩ rfl <| kcl rfl rfl (fun hc => ?_) fun hc => ?_
      · rw [hc]
        refine kr ⟨[(2, (Bo (!a0.fUnique)))], [], 70⟩ rfl <| et k_lret <| et blk_ret ?_
        rfl
      · rw [hc]
        refine kg f109a5 rfl (fun (o4 : Bool) => ⟨[(1, (Pt 1)), (40, (Bo o4))], [(1, vS 8 (eType a0))], 70⟩) ?_ fun o4 => ?_
        · refine rd 4 [(41, (V.ptr 1 0 5)), (42, (I a0.fKey)), (43, (Bo (decide (a0.fKey < 0)))), (44, (Bo (decide (a0.fKey < 0))))] rfl rfl <| bifE (fun hc => ?_) fun hc => ?_
          · rw [hc]
            exact reg_end rfl
          · rw [hc]
            exact rd 8 [(45, (V.ptr 1 0 5)), (46, (I a0.fKey)), (47, (V.ptr 1 0 4)), (48, (sField a0.fFields))] rfl rfl <| rl rfl (p_len (e := eField) rfl rfl rfl rfl rfl rfl underlying43) <| bind_end rfl
        refine kcl rfl rfl (fun hc => ?_) fun hc => ?_
        · rw [hc]
          refine kr ⟨[(2, (Bo false))], [], 70⟩ rfl <| et k_lret <| et blk_ret ?_
          rfl
        · rw [hc]
          refine et k_lskip <| et blk_normal <| kd f109a7 rfl (fun (o7 : Bool) => ⟨[(2, (Bo o7))], [], 70⟩) (et (regionE_regp (p := 19) (dk := true) (t := [(1, (Pt 1)), (40, (Bo false))]) (σ := [(1, vS 8 (eType a0))]) (n := 70) rfl (by decide) (by decide) rfl) <| et (regp_adv (m := 4) (j := 4) (t' := [(1, (Pt 1)), (40, (Bo false)), (52, (V.ptr 1 0 4)), (53, (sField a0.fFields)), (54, (V.ptr 1 0 5)), (55, (I a0.fKey))]) rfl rfl rfl) <| et (regp_pure (x := (idx a0.fFields a0.fKey)) (w := fun v5 => (Pr (eField v5))) rfl rfl rfl rfl rfl (p_index (e := eField) rfl rfl rfl underlying43 rfl (by decide))) <| bindE fun v5 => et (putp_adv (m := 6) (j := 11) (t' := [(1, (Pt 1)), (40, (Bo false)), (52, (V.ptr 1 0 4)), (53, (sField a0.fFields)), (54, (V.ptr 1 0 5)), (55, (I a0.fKey)), (56, (Pr (eField v5))), (57, (Pr (I v5.fAt))), (58, (I v5.fAt)), (59, (V.ptr 1 0 4)), (60, (sField a0.fFields)), (61, (V.ptr 1 0 5)), (62, (I a0.fKey))]) rfl rfl rfl) <| et (regp_pure (x := (idx a0.fFields a0.fKey)) (w := fun v6 => (Pr (eField v6))) rfl rfl rfl rfl rfl (p_index (e := eField) rfl rfl rfl underlying43 rfl (by decide))) <| bindE fun v6 => regp_end rfl) fun o7 => et k_lret ?_
          rfl
def slices_IndexFunc_Type_fin : Int → V × List V := fun r => ((I r), [])
theorem slices_IndexFunc_Type_L1_ok (k : Nat) (a0 : (List T_api_Type)) (a1 : Nat → T_api_Type → Option Bool) (a1_fid : Go.FuncId) (a1_c0 : V) (a1_hok : ∀ j x0, EV j a1_fid [(eType x0), V.pro a1_c0] = (a1 j x0).map fun b => ((Bo b), [])) (K0 : Int → Option Int) (Kst : X × St → Option (V × List V)) (hK0 : ∀ (y0 : Int), Kst (X.exit 0, ⟨[(0, (sType a0)), (1, (V.fn a1_fid [] [V.pro a1_c0])), (7, (I (a0.length : Int))), (8, (I y0)), (9, (Bo false))], [], 19⟩) = (K0 y0).map slices_IndexFunc_Type_fin) (hret : ∀ s, Kst (X.ret, s) = endK prog 19 [(sType a0), (V.fn a1_fid [] [V.pro a1_c0])] [] [.tmp 4] (X.ret, s)) :
    ∀ (m : Nat) (x4 : Int), (iter (exec prog (EV k) f116n k f116b0) m ⟨[(0, (sType a0)), (1, (V.fn a1_fid [] [V.pro a1_c0])), (7, (I (a0.length : Int))), (8, (I x4))], [], 19⟩).bind Kst = (slices_IndexFunc_Type_L1 k a0 a1 K0 m x4).map slices_IndexFunc_Type_fin := by
  intro m
  induction m with
  | zero => intros; rfl
  | succ m ih =>
    intro x4
    unfold slices_IndexFunc_Type_L1
    refine et k_round <| kra [(9, (Bo (decide (x4 < (a0.length : Int)))))] rfl <| kc rfl rfl (fun hc => ?_) fun hc => ?_
    · rw [hc]
      refine et k_skip <| et (k_block rfl) <| kr ⟨[(0, (sType a0)), (1, (V.fn a1_fid [] [V.pro a1_c0])), (5, (I x4)), (7, (I (a0.length : Int))), (8, (I x4))], [], 19⟩ rfl <| kga f116a4 rfl (fun (o7 : Bool) => [(16, (Bo o7))]) (rd 3 [(11, (V.fn a1_fid [] [V.pro a1_c0])), (12, (sType a0)), (13, (I x4))] rfl rfl <| rp rfl (p_index (e := eType) rfl rfl rfl underlying22 rfl (by decide)) fun v5 => bd 5 [(14, (Pr (eType v5))), (15, (eType v5))] rfl rfl <| rs rfl (p_call rfl rfl rfl rfl rfl (a1_hok k v5) (.inl rfl)) fun v6 => bind_end rfl) fun o7 => kcl rfl rfl (fun hc => ?_) fun hc => ?_
      · rw [hc]
        refine kr ⟨[(4, (I x4))], [], 19⟩ rfl <| et k_lret <| et blk_ret <| et loop_ret <| et (hret _) ?_
        rfl
      · rw [hc]
        exact et k_lskip <| et blk_normal <| kl ⟨[(0, (sType a0)), (1, (V.fn a1_fid [] [V.pro a1_c0])), (7, (I (a0.length : Int))), (8, (I (Go.IntKind.wrap .i64 (x4 + 1))))], [], 19⟩ rfl <| et loop_normal <| ih (Go.IntKind.wrap .i64 (x4 + 1))
    · rw [hc]
      exact et k_exit <| et loop_exit <| hK0 x4
theorem slices_IndexFunc_Type_ok (k : Nat) (a0 : (List T_api_Type)) (a1 : Nat → T_api_Type → Option Bool) (a1_fid : Go.FuncId) (a1_c0 : V) (a1_hok : ∀ j x0, EV j a1_fid [(eType x0), V.pro a1_c0] = (a1 j x0).map fun b => ((Bo b), [])) : EV k 116 [(sType a0), (V.fn a1_fid [] [V.pro a1_c0])] = (slices_IndexFunc_Type k a0 a1).map slices_IndexFunc_Type_fin := by
  cases k with
  | zero => rfl
  | succ k =>
    unfold slices_IndexFunc_Type
    refine et (evF_succ (c := f116c) (N := 19) (regs := f116n) rfl func116 rfl (by decide) rfl rfl rfl) <| kra [] rfl <| et k_assoc <| krp f116a1 rfl ⟨[(0, (sType a0)), (1, (V.fn a1_fid [] [V.pro a1_c0])), (7, (I (a0.length : Int))), (8, (I 0))], [], 19⟩ ?_ ?_
    · exact rd 1 [(6, (sType a0))] rfl rfl <| rl rfl (p_len (e := eType) rfl rfl rfl rfl rfl rfl underlying22) <| bind_end rfl
    refine et (k_block rfl) <| et k_loop ?_
    refine slices_IndexFunc_Type_L1_ok k a0 a1 a1_fid a1_c0 a1_hok _ _ ?h_slices_IndexFunc_Type_L1_0 ?hr_slices_IndexFunc_Type_L1 k 0
    · intro y8
      refine et blk_exit <| kr ⟨[(4, (I (-1)))], [], 19⟩ rfl <| et k_lret ?_
      rfl
    · intro s; exact rfl
def slices_ContainsFunc_Type_fin : Bool → V × List V := fun r => ((Bo r), [])
theorem slices_ContainsFunc_Type_ok (k : Nat) (a0 : (List T_api_Type)) (a1 : Nat → T_api_Type → Option Bool) (a1_fid : Go.FuncId) (a1_c0 : V) (a1_hok : ∀ j x0, EV j a1_fid [(eType x0), V.pro a1_c0] = (a1 j x0).map fun b => ((Bo b), [])) : EV k 110 [(sType a0), (V.fn a1_fid [] [V.pro a1_c0])] = (slices_ContainsFunc_Type k a0 a1).map slices_ContainsFunc_Type_fin := by
  cases k with
  | zero => rfl
  | succ k =>
    unfold slices_ContainsFunc_Type
    refine et (evF_succ (c := f110c) (N := 9) (regs := f110n) rfl func110 rfl (by decide) rfl rfl rfl) <| kra [] rfl <| kg f110a1 rfl (fun (o2 : Bool) => ⟨[(4, (Bo o2))], [], 9⟩) (rd 2 [(5, (sType a0)), (6, (V.fn a1_fid [] [V.pro a1_c0]))] rfl rfl <| rp rfl (p_call rfl rfl rfl rfl rfl (slices_IndexFunc_Type_ok k a0 a1 a1_fid a1_c0 a1_hok) (.inl rfl)) fun v1 => bind_end rfl) fun o2 => et k_lret ?_
    rfl
def dbd_areTypes_1_fin : Bool → V × List V := fun r => ((Bo r), [])
theorem dbd_areTypes_1_ok (k : Nat) (a0 : T_api_Type) (a1 : T_api_Type) : EV k 111 [(eType a0), (Pr (eType a1))] = (dbd_areTypes_1 k a0 a1).map dbd_areTypes_1_fin := by
  cases k with
  | zero => rfl
  | succ k =>
    unfold dbd_areTypes_1
    refine et (evF_succ (c := f111c) (N := 9) (regs := f111n) rfl func111 rfl (by decide) rfl rfl rfl) <| kr ⟨[(1, (Pr (eType a1))), (2, (Pt 2))], [(2, vS 8 (eType a0))], 9⟩ rfl <| kr ⟨[(3, (Bo (a0.fName == a1.fName)))], [], 9⟩ rfl <| et k_lret ?_
    rfl
def slices_Index_int_fin : Int → V × List V := fun r => ((I r), [])
theorem slices_Index_int_L1_ok (k : Nat) (a0 : (List Int)) (a1 : Int)  (K0 : Int → Option Int) (Kst : X × St → Option (V × List V)) (hK0 : ∀ (y0 : Int), Kst (X.exit 0, ⟨[(0, (sI a0)), (1, (I a1)), (7, (I (a0.length : Int))), (8, (I y0)), (9, (Bo false))], [], 19⟩) = (K0 y0).map slices_Index_int_fin) (hret : ∀ s, Kst (X.ret, s) = endK prog 19 [(sI a0), (I a1)] [] [.tmp 4] (X.ret, s)) :
    ∀ (m : Nat) (x3 : Int), (iter (exec prog (EV k) f112n k f112b0) m ⟨[(0, (sI a0)), (1, (I a1)), (7, (I (a0.length : Int))), (8, (I x3))], [], 19⟩).bind Kst = (slices_Index_int_L1 a0 a1 K0 m x3).map slices_Index_int_fin := by
  intro m
  induction m with
  | zero => intros; rfl
  | succ m ih =>
    intro x3
    unfold slices_Index_int_L1
    refine et k_round <| kra [(9, (Bo (decide (x3 < (a0.length : Int)))))] rfl <| kc rfl rfl (fun hc => ?_) fun hc => ?_
    · rw [hc]
      refine et k_skip <| et (k_block rfl) <| kr ⟨[(0, (sI a0)), (1, (I a1)), (5, (I x3)), (7, (I (a0.length : Int))), (8, (I x3))], [], 19⟩ rfl <| kga f112a4 rfl (fun (o5 : Bool) => [(16, (Bo o5))]) (rd 3 [(11, (I a1)), (12, (sI a0)), (13, (I x3))] rfl rfl <| rp rfl (p_index (e := I) rfl rfl rfl underlying87 rfl (by decide)) fun v4 => bind_end rfl) fun o5 => kcl rfl rfl (fun hc => ?_) fun hc => ?_
      · rw [hc]
        refine kr ⟨[(4, (I x3))], [], 19⟩ rfl <| et k_lret <| et blk_ret <| et loop_ret <| et (hret _) ?_
        rfl
      · rw [hc]
        exact et k_lskip <| et blk_normal <| kl ⟨[(0, (sI a0)), (1, (I a1)), (7, (I (a0.length : Int))), (8, (I (Go.IntKind.wrap .i64 (x3 + 1))))], [], 19⟩ rfl <| et loop_normal <| ih (Go.IntKind.wrap .i64 (x3 + 1))
    · rw [hc]
      exact et k_exit <| et loop_exit <| hK0 x3
theorem slices_Index_int_ok (k : Nat) (a0 : (List Int)) (a1 : Int) : EV k 112 [(sI a0), (I a1)] = (slices_Index_int k a0 a1).map slices_Index_int_fin := by
  cases k with
  | zero => rfl
  | succ k =>
    unfold slices_Index_int
    refine et (evF_succ (c := f112c) (N := 19) (regs := f112n) rfl func112 rfl (by decide) rfl rfl rfl) <| kra [] rfl <| et k_assoc <| krp f112a1 rfl ⟨[(0, (sI a0)), (1, (I a1)), (7, (I (a0.length : Int))), (8, (I 0))], [], 19⟩ ?_ ?_
    · exact rd 1 [(6, (sI a0))] rfl rfl <| rl rfl (p_len (e := I) rfl rfl rfl rfl rfl rfl underlying87) <| bind_end rfl
    refine et (k_block rfl) <| et k_loop ?_
    refine slices_Index_int_L1_ok k a0 a1 _ _ ?h_slices_Index_int_L1_0 ?hr_slices_Index_int_L1 k 0
    · intro y6
      refine et blk_exit <| kr ⟨[(4, (I (-1)))], [], 19⟩ rfl <| et k_lret ?_
      rfl
    · intro s; exact rfl
def dbd_areTypes_fin : Bool → V × List V := fun r => ((Bo r), [])
theorem dbd_areTypes_L1_ok (k : Nat) (a0 : (List T_api_Type))  (K0 : Int → (List Int) → Option Bool) (Kst : X × St → Option (V × List V)) (hK0 : ∀ (y0 : Int) (y1 : (List Int)), Kst (X.exit 0, ⟨[(0, (sType a0)), (3, (aL 3 I y1)), (15, (sType a0)), (16, (I (a0.length : Int))), (17, (I y0)), (18, (Bo false))], [(3, ⟨true, 1, List.map I y1⟩)], 82⟩) = (K0 y0 y1).map dbd_areTypes_fin) (hret : ∀ s, Kst (X.ret, s) = endK prog 82 [(sType a0)] [] [.tmp 2] (X.ret, s)) :
    ∀ (m : Nat) (x15 : Int) (x16 : (List Int)), (iter (exec prog (EV k) f102n k f102b0) m ⟨[(0, (sType a0)), (3, (aL 3 I x16)), (15, (sType a0)), (16, (I (a0.length : Int))), (17, (I x15))], [(3, ⟨true, 1, List.map I x16⟩)], 82⟩).bind Kst = (dbd_areTypes_L1 k a0 K0 m x15 x16).map dbd_areTypes_fin := by
  intro m
  induction m with
  | zero => intros; rfl
  | succ m ih =>
    intro x15 x16
    unfold dbd_areTypes_L1
    refine et k_round <| kra [(18, (Bo (decide (x15 < (a0.length : Int)))))] rfl <| kc rfl rfl (fun hc => ?_) fun hc => ?_
    · rw [hc]
      refine et k_skip <| et (k_block rfl) <| kg f102a6 rfl (fun (o18 : Int × T_api_Type) => ⟨[(0, (sType a0)), (3, (aL 3 I x16)), (4, (I o18.1)), (5, (Pt 5)), (15, (sType a0)), (16, (I (a0.length : Int))), (17, (I x15))], [(3, ⟨true, 1, List.map I x16⟩), (5, vS 8 (eType o18.2))], 82⟩) (rd 1 [(19, (I x15))] rfl rfl <| rp rfl (p_index (e := eType) rfl rfl rfl underlying22 rfl (by decide)) fun v17 => bind_end rfl) fun o18 => et k_assoc <| kga f102a7 rfl (fun (o22 : Bool) => [(31, (Bo o22))]) ?_ fun o22 => ?_
      · refine rd 1 [(22, (eType o18.2))] rfl rfl <| rp rfl (p_call rfl rfl rfl rfl rfl (dbd_isType_ok k o18.2) (.inl rfl)) fun v19 => bd 4 [(23, (Bo v19)), (24, (Bo (!v19))), (25, (Bo (!v19)))] rfl rfl <| bifE (fun hc => ?_) fun hc => ?_
        · rw [hc]
          exact reg_end rfl
        · rw [hc]
          exact rd 6 [(26, (sType a0)), (27, (I o18.1))] rfl rfl <| rp rfl (p_slice (e := eType) rfl rfl rfl rfl rfl rfl underlying22 rfl (by decide)) fun v20 => bd 8 [(28, (sType v20)), (29, (V.fn 111 [] [(Pt 5)]))] rfl rfl <| rs rfl (p_call rfl rfl rfl rfl rfl (slices_ContainsFunc_Type_ok k v20 (fun j x0 => (dbd_areTypes_1 j x0 o18.2)) 111 (eType o18.2) (fun j x0 => (dbd_areTypes_1_ok j x0 o18.2))) (.inr (fun _ => rfl))) fun v21 => bind_end rfl
      refine kc rfl rfl (fun hc => ?_) fun hc => ?_
      · rw [hc]
        refine et k_assoc <| kr ⟨[(2, (Bo false))], [], 82⟩ rfl <| et k_ret <| et blk_ret <| et loop_ret <| et (hret _) ?_
        rfl
      · rw [hc]
        refine et k_skip <| kg f102a9 rfl (fun (o24 : Int) => ⟨[(0, (sType a0)), (3, (aL 3 I x16)), (4, (I o18.1)), (5, (Pt 5)), (6, (I o24)), (15, (sType a0)), (16, (I (a0.length : Int))), (17, (I x15))], [(3, ⟨true, 1, List.map I x16⟩), (5, vS 8 (eType o18.2))], 82⟩) (rd 3 [(32, (aL 3 I x16)), (33, (V.ptr 5 0 1)), (34, (I o18.2.fParent))] rfl rfl <| rs rfl (p_call rfl rfl rfl rfl (argsL (lendA (e := I) rfl) (by intro s i q h; cases h) (argsL rfl (by intro s i q h; cases h) rfl)) (slices_Index_int_ok k x16 o18.2.fParent) (.inr (fun _ => rfl))) fun v23 => bind_end rfl) fun o24 => et k_assoc <| kg f102a10 rfl (fun (o26 : Bool) => ⟨[(0, (sType a0)), (3, (aL 3 I x16)), (4, (I o18.1)), (6, (I o24)), (15, (sType a0)), (16, (I (a0.length : Int))), (17, (I x15)), (70, (Bo o26))], [(3, ⟨true, 1, List.map I x16⟩)], 82⟩) ?_ fun o26 => ?_
        · refine rd 3 [(36, (I o18.1)), (37, (Bo (o18.1 == 0))), (38, (Bo (o18.1 == 0)))] rfl rfl <| bifE (fun hc => ?_) fun hc => ?_
          · rw [hc]
            refine rd 7 [(39, (V.ptr 5 0 1)), (40, (I o18.2.fParent)), (41, (Bo (o18.2.fParent != (-1)))), (42, (Bo (o18.2.fParent != (-1))))] rfl rfl <| bifE (fun hc => ?_) fun hc => ?_
            · rw [hc]
              exact reg_end rfl
            · rw [hc]
              refine rd 12 [(43, (V.ptr 5 0 5)), (44, (I o18.2.fKey)), (45, (Bo (decide (o18.2.fKey < 0)))), (46, (Bo (decide (o18.2.fKey < 0)))), (47, (Bo (decide (o18.2.fKey < 0))))] rfl rfl <| bifE (fun hc => ?_) fun hc => ?_
              · rw [hc]
                exact reg_end rfl
              · rw [hc]
                refine rd 17 [(48, (V.ptr 5 0 6)), (49, (Bo o18.2.fUnique)), (50, (Bo (!o18.2.fUnique))), (51, (Bo (!o18.2.fUnique))), (52, (Bo (!o18.2.fUnique)))] rfl rfl <| bifE (fun hc => ?_) fun hc => ?_
                · rw [hc]
                  exact reg_end rfl
                · rw [hc]
                  refine rd 21 [(53, (V.ptr 5 0 4)), (54, (sField o18.2.fFields)), (55, (V.ptr 5 0 5)), (56, (I o18.2.fKey))] rfl rfl <| rp rfl (p_index (e := eField) rfl rfl rfl underlying43 rfl (by decide)) fun v25 => bd 28 [(57, (Pr (eField v25))), (58, (Pr (I v25.fBytes))), (59, (I v25.fBytes)), (60, (Bo (decide (v25.fBytes > 24)))), (61, (Bo (decide (v25.fBytes > 24)))), (62, (Bo (decide (v25.fBytes > 24)))), (63, (Bo (decide (v25.fBytes > 24))))] rfl rfl <| bifE (fun hc => ?_) fun hc => ?_
                  · rw [hc]
                    exact reg_end rfl
                  · rw [hc]
                    refine rd 31 [(64, (I o18.1)), (65, (Bo (decide (o18.1 > 0)))), (66, (Bo (decide (o18.1 > 0))))] rfl rfl <| bifE (fun hc => ?_) fun hc => ?_
                    · rw [hc]
                      exact reg_end rfl
                    · rw [hc]
                      exact reg_end rfl
          · rw [hc]
            refine rd 31 [(39, (V.tup [])), (40, (V.tup [])), (41, (V.tup [])), (42, (V.tup [])), (43, (V.tup [])), (44, (V.tup [])), (45, (V.tup [])), (46, (V.tup [])), (47, (V.tup [])), (48, (V.tup [])), (49, (V.tup [])), (50, (V.tup [])), (51, (V.tup [])), (52, (V.tup [])), (53, (V.tup [])), (54, (V.tup [])), (55, (V.tup [])), (56, (V.tup [])), (57, (V.tup [])), (58, (V.tup [])), (59, (V.tup [])), (60, (V.tup [])), (61, (V.tup [])), (62, (Bo false)), (63, (Bo false)), (64, (I o18.1)), (65, (Bo (decide (o18.1 > 0)))), (66, (Bo (decide (o18.1 > 0))))] rfl rfl <| bifE (fun hc => ?_) fun hc => ?_
            · rw [hc]
              exact reg_end rfl
            · rw [hc]
              exact reg_end rfl
        refine kc rfl rfl (fun hc => ?_) fun hc => ?_
        · rw [hc]
          refine et k_assoc <| kr ⟨[(2, (Bo false))], [], 82⟩ rfl <| et k_ret <| et blk_ret <| et loop_ret <| et (hret _) ?_
          rfl
        · rw [hc]
          refine et k_skip <| kg f102a12 rfl (fun (o29 : (List Int)) => ⟨[(0, (sType a0)), (3, (aL 3 I o29)), (15, (sType a0)), (16, (I (a0.length : Int))), (17, (I x15))], [(3, ⟨true, 1, List.map I o29⟩)], 82⟩) (rd 3 [(71, (aL 3 I x16)), (72, (I o24)), (73, (I (Go.IntKind.wrap .i64 (o24 + 1))))] rfl rfl <| rx rfl (p_sliceA (e := I) rfl rfl rfl underlying87 (by decide)) fun v27 hv27 => bd 6 [(74, (V.aref 3 0 v27)), (75, (I o18.1)), (76, (sI (([o18.1] : List Int))))] rfl rfl <| et (reg_eff (x := (app (List.take v27 x16) ([o18.1] : List Int))) (w := fun v28 => ((aL 3 I v28), _)) rfl rfl rfl rfl (p_appA (e := I) (l := x16) rfl rfl rfl rfl rfl rfl rfl rfl rfl rfl rfl (upTo_le hv27) (of_decide_eq_true rfl))) <| bind_self fun v28 => bind_end rfl) fun o29 => krp f102a13 rfl ⟨[(0, (sType a0)), (3, (aL 3 I o29)), (15, (sType a0)), (16, (I (a0.length : Int))), (17, (I x15)), (80, (Bo (decide ((o29.length : Int) > 5))))], [(3, ⟨true, 1, List.map I o29⟩)], 82⟩ ?_ ?_
          · exact rd 1 [(78, (aL 3 I o29))] rfl rfl <| rl rfl (p_lenA (e := I) rfl rfl rfl rfl rfl rfl underlying87) <| bind_end rfl
          refine kcl rfl rfl (fun hc => ?_) fun hc => ?_
          · rw [hc]
            refine kr ⟨[(2, (Bo false))], [], 82⟩ rfl <| et k_lret <| et blk_ret <| et loop_ret <| et (hret _) ?_
            rfl
          · rw [hc]
            exact et k_lskip <| et blk_normal <| kl ⟨[(0, (sType a0)), (3, (aL 3 I o29)), (15, (sType a0)), (16, (I (a0.length : Int))), (17, (I (Go.IntKind.wrap .i64 (x15 + 1))))], [(3, ⟨true, 1, List.map I o29⟩)], 82⟩ rfl <| et loop_normal <| ih (Go.IntKind.wrap .i64 (x15 + 1)) o29
    · rw [hc]
      exact et k_exit <| et loop_exit <| hK0 x15 x16
theorem dbd_areTypes_ok (k : Nat) (a0 : (List T_api_Type)) : EV k 102 [(sType a0)] = (dbd_areTypes k a0).map dbd_areTypes_fin := by
  cases k with
  | zero => rfl
  | succ k =>
    unfold dbd_areTypes
    refine et (evF_succ (c := f102c) (N := 82) (regs := f102n) rfl func102 rfl (by decide) rfl rfl rfl) <| kra [] rfl <| et k_assoc <| kga f102a1 rfl (fun (o1 : Bool) => [(14, (Bo o1))]) ?_ fun o1 => ?_
    · refine rd 1 [(7, (sType a0))] rfl rfl <| rl rfl (p_len (e := eType) rfl rfl rfl rfl rfl rfl underlying22) <| bd 4 [(8, (I (a0.length : Int))), (9, (Bo (decide ((a0.length : Int) < 1)))), (10, (Bo (decide ((a0.length : Int) < 1))))] rfl rfl <| bifE (fun hc => ?_) fun hc => ?_
      · rw [hc]
        exact reg_end rfl
      · rw [hc]
        exact rd 5 [(11, (sType a0))] rfl rfl <| rl rfl (p_len (e := eType) rfl rfl rfl rfl rfl rfl underlying22) <| bind_end rfl
    refine kc rfl rfl (fun hc => ?_) fun hc => ?_
    · rw [hc]
      refine et k_assoc <| kr ⟨[(2, (Bo false))], [], 82⟩ rfl <| et k_ret ?_
      rfl
    · rw [hc]
      refine et k_skip <| kr ⟨[(0, (sType a0)), (3, (aL 3 I ([] : List Int)))], [(3, ⟨true, 1, List.map I ([] : List Int)⟩)], 82⟩ rfl <| et k_assoc <| krp f102a4 rfl ⟨[(0, (sType a0)), (3, (aL 3 I ([] : List Int))), (15, (sType a0)), (16, (I (a0.length : Int))), (17, (I 0))], [(3, ⟨true, 1, List.map I ([] : List Int)⟩)], 82⟩ ?_ ?_
      · exact rd 1 [(15, (sType a0))] rfl rfl <| rl rfl (p_len (e := eType) rfl rfl rfl rfl rfl rfl underlying22) <| bind_end rfl
      refine et (k_block rfl) <| et k_loop ?_
      refine dbd_areTypes_L1_ok k a0 _ _ ?h_dbd_areTypes_L1_0 ?hr_dbd_areTypes_L1 k 0 ([] : List Int)
      · intro y30 y31
        refine et blk_exit <| kr ⟨[(2, (Bo true))], [], 82⟩ rfl <| et k_lret ?_
        rfl
      · intro s; exact rfl
def slices_IndexFunc_Search_fin : Int → V × List V := fun r => ((I r), [])
theorem slices_IndexFunc_Search_L1_ok (k : Nat) (a0 : (List T_api_Search)) (a1 : Nat → T_api_Search → Option Bool) (a1_fid : Go.FuncId) (a1_c0 : V) (a1_hok : ∀ j x0, EV j a1_fid [(eSearch x0), V.pro a1_c0] = (a1 j x0).map fun b => ((Bo b), [])) (K0 : Int → Option Int) (Kst : X × St → Option (V × List V)) (hK0 : ∀ (y0 : Int), Kst (X.exit 0, ⟨[(0, (sSearch a0)), (1, (V.fn a1_fid [] [V.pro a1_c0])), (7, (I (a0.length : Int))), (8, (I y0)), (9, (Bo false))], [], 19⟩) = (K0 y0).map slices_IndexFunc_Search_fin) (hret : ∀ s, Kst (X.ret, s) = endK prog 19 [(sSearch a0), (V.fn a1_fid [] [V.pro a1_c0])] [] [.tmp 4] (X.ret, s)) :
    ∀ (m : Nat) (x4 : Int), (iter (exec prog (EV k) f117n k f117b0) m ⟨[(0, (sSearch a0)), (1, (V.fn a1_fid [] [V.pro a1_c0])), (7, (I (a0.length : Int))), (8, (I x4))], [], 19⟩).bind Kst = (slices_IndexFunc_Search_L1 k a0 a1 K0 m x4).map slices_IndexFunc_Search_fin := by
  intro m
  induction m with
  | zero => intros; rfl
  | succ m ih =>
    intro x4
    unfold slices_IndexFunc_Search_L1
    refine et k_round <| kra [(9, (Bo (decide (x4 < (a0.length : Int)))))] rfl <| kc rfl rfl (fun hc => ?_) fun hc => ?_
    · rw [hc]
      refine et k_skip <| et (k_block rfl) <| kr ⟨[(0, (sSearch a0)), (1, (V.fn a1_fid [] [V.pro a1_c0])), (5, (I x4)), (7, (I (a0.length : Int))), (8, (I x4))], [], 19⟩ rfl <| kga f117a4 rfl (fun (o7 : Bool) => [(16, (Bo o7))]) (rd 3 [(11, (V.fn a1_fid [] [V.pro a1_c0])), (12, (sSearch a0)), (13, (I x4))] rfl rfl <| rp rfl (p_index (e := eSearch) rfl rfl rfl underlying23 rfl (by decide)) fun v5 => bd 5 [(14, (Pr (eSearch v5))), (15, (eSearch v5))] rfl rfl <| rs rfl (p_call rfl rfl rfl rfl rfl (a1_hok k v5) (.inl rfl)) fun v6 => bind_end rfl) fun o7 => kcl rfl rfl (fun hc => ?_) fun hc => ?_
      · rw [hc]
        refine kr ⟨[(4, (I x4))], [], 19⟩ rfl <| et k_lret <| et blk_ret <| et loop_ret <| et (hret _) ?_
        rfl
      · rw [hc]
        exact et k_lskip <| et blk_normal <| kl ⟨[(0, (sSearch a0)), (1, (V.fn a1_fid [] [V.pro a1_c0])), (7, (I (a0.length : Int))), (8, (I (Go.IntKind.wrap .i64 (x4 + 1))))], [], 19⟩ rfl <| et loop_normal <| ih (Go.IntKind.wrap .i64 (x4 + 1))
    · rw [hc]
      exact et k_exit <| et loop_exit <| hK0 x4
theorem slices_IndexFunc_Search_ok (k : Nat) (a0 : (List T_api_Search)) (a1 : Nat → T_api_Search → Option Bool) (a1_fid : Go.FuncId) (a1_c0 : V) (a1_hok : ∀ j x0, EV j a1_fid [(eSearch x0), V.pro a1_c0] = (a1 j x0).map fun b => ((Bo b), [])) : EV k 117 [(sSearch a0), (V.fn a1_fid [] [V.pro a1_c0])] = (slices_IndexFunc_Search k a0 a1).map slices_IndexFunc_Search_fin := by
  cases k with
  | zero => rfl
  | succ k =>
    unfold slices_IndexFunc_Search
    refine et (evF_succ (c := f117c) (N := 19) (regs := f117n) rfl func117 rfl (by decide) rfl rfl rfl) <| kra [] rfl <| et k_assoc <| krp f117a1 rfl ⟨[(0, (sSearch a0)), (1, (V.fn a1_fid [] [V.pro a1_c0])), (7, (I (a0.length : Int))), (8, (I 0))], [], 19⟩ ?_ ?_
    · exact rd 1 [(6, (sSearch a0))] rfl rfl <| rl rfl (p_len (e := eSearch) rfl rfl rfl rfl rfl rfl underlying23) <| bind_end rfl
    refine et (k_block rfl) <| et k_loop ?_
    refine slices_IndexFunc_Search_L1_ok k a0 a1 a1_fid a1_c0 a1_hok _ _ ?h_slices_IndexFunc_Search_L1_0 ?hr_slices_IndexFunc_Search_L1 k 0
    · intro y8
      refine et blk_exit <| kr ⟨[(4, (I (-1)))], [], 19⟩ rfl <| et k_lret ?_
      rfl
    · intro s; exact rfl
def slices_ContainsFunc_Search_fin : Bool → V × List V := fun r => ((Bo r), [])
theorem slices_ContainsFunc_Search_ok (k : Nat) (a0 : (List T_api_Search)) (a1 : Nat → T_api_Search → Option Bool) (a1_fid : Go.FuncId) (a1_c0 : V) (a1_hok : ∀ j x0, EV j a1_fid [(eSearch x0), V.pro a1_c0] = (a1 j x0).map fun b => ((Bo b), [])) : EV k 113 [(sSearch a0), (V.fn a1_fid [] [V.pro a1_c0])] = (slices_ContainsFunc_Search k a0 a1).map slices_ContainsFunc_Search_fin := by
  cases k with
  | zero => rfl
  | succ k =>
    unfold slices_ContainsFunc_Search
    refine et (evF_succ (c := f113c) (N := 9) (regs := f113n) rfl func113 rfl (by decide) rfl rfl rfl) <| kra [] rfl <| kg f113a1 rfl (fun (o2 : Bool) => ⟨[(4, (Bo o2))], [], 9⟩) (rd 2 [(5, (sSearch a0)), (6, (V.fn a1_fid [] [V.pro a1_c0]))] rfl rfl <| rp rfl (p_call rfl rfl rfl rfl rfl (slices_IndexFunc_Search_ok k a0 a1 a1_fid a1_c0 a1_hok) (.inl rfl)) fun v1 => bind_end rfl) fun o2 => et k_lret ?_
    rfl
def dbd_areIndexes_1_fin : Bool → V × List V := fun r => ((Bo r), [])
theorem dbd_areIndexes_1_ok (k : Nat) (a0 : T_api_Search) (a1 : T_api_Search) : EV k 114 [(eSearch a0), (Pr (eSearch a1))] = (dbd_areIndexes_1 k a0 a1).map dbd_areIndexes_1_fin := by
  cases k with
  | zero => rfl
  | succ k =>
    unfold dbd_areIndexes_1
    refine et (evF_succ (c := f114c) (N := 9) (regs := f114n) rfl func114 rfl (by decide) rfl rfl rfl) <| kr ⟨[(1, (Pr (eSearch a1))), (2, (Pt 2))], [(2, vS 4 (eSearch a0))], 9⟩ rfl <| kr ⟨[(3, (Bo (a0.fName == a1.fName)))], [], 9⟩ rfl <| et k_lret ?_
    rfl
def dbd_areIndexes_fin : Bool → V × List V := fun r => ((Bo r), [])
theorem dbd_areIndexes_L1_ok (k : Nat) (a0 : (List T_api_Search)) (a1 : (List T_api_Type))  (K0 : Int → Option Bool) (Kst : X × St → Option (V × List V)) (hK0 : ∀ (y0 : Int), Kst (X.exit 0, ⟨[(0, (sSearch a0)), (1, (sType a1)), (8, (sSearch a0)), (9, (I (a0.length : Int))), (10, (I y0)), (11, (Bo false))], [], 73⟩) = (K0 y0).map dbd_areIndexes_fin) (hret : ∀ s, Kst (X.ret, s) = endK prog 73 [(sSearch a0), (sType a1)] [] [.tmp 4] (X.ret, s)) :
    ∀ (m : Nat) (x11 : Int), (iter (exec prog (EV k) f103n k f103b0) m ⟨[(0, (sSearch a0)), (1, (sType a1)), (8, (sSearch a0)), (9, (I (a0.length : Int))), (10, (I x11))], [], 73⟩).bind Kst = (dbd_areIndexes_L1 k a0 a1 K0 m x11).map dbd_areIndexes_fin := by
  intro m
  induction m with
  | zero => intros; rfl
  | succ m ih =>
    intro x11
    unfold dbd_areIndexes_L1
    refine et k_round <| kra [(11, (Bo (decide (x11 < (a0.length : Int)))))] rfl <| kc rfl rfl (fun hc => ?_) fun hc => ?_
    · rw [hc]
      refine et k_skip <| et (k_block rfl) <| kg f103a3 rfl (fun (o13 : Int × T_api_Search) => ⟨[(0, (sSearch a0)), (1, (sType a1)), (5, (I o13.1)), (6, (Pt 6)), (8, (sSearch a0)), (9, (I (a0.length : Int))), (10, (I x11))], [(6, vS 4 (eSearch o13.2))], 73⟩) (rd 1 [(12, (I x11))] rfl rfl <| rp rfl (p_index (e := eSearch) rfl rfl rfl underlying23 rfl (by decide)) fun v12 => bind_end rfl) fun o13 => et k_assoc <| kg f103a4 rfl (fun (o17 : Bool) => ⟨[(0, (sSearch a0)), (1, (sType a1)), (6, (Pt 6)), (8, (sSearch a0)), (9, (I (a0.length : Int))), (10, (I x11)), (43, (Bo o17))], [(6, vS 4 (eSearch o13.2))], 73⟩) ?_ fun o17 => ?_
      · refine rd 2 [(15, (Pt 6)), (16, (Sr o13.2.fName))] rfl rfl <| rp rfl (p_call rfl rfl rfl rfl rfl (dbd_IsName_ok k o13.2.fName) (.inl rfl)) fun v14 => bd 5 [(17, (Bo v14)), (18, (Bo (!v14))), (19, (Bo (!v14)))] rfl rfl <| bifE (fun hc => ?_) fun hc => ?_
        · rw [hc]
          exact reg_end rfl
        · rw [hc]
          refine rd 10 [(20, (V.ptr 6 0 1)), (21, (I o13.2.fType)), (22, (Bo (decide (o13.2.fType < 0)))), (23, (Bo (decide (o13.2.fType < 0)))), (24, (Bo (decide (o13.2.fType < 0))))] rfl rfl <| bifE (fun hc => ?_) fun hc => ?_
          · rw [hc]
            exact reg_end rfl
          · rw [hc]
            refine rd 13 [(25, (V.ptr 6 0 1)), (26, (I o13.2.fType)), (27, (sType a1))] rfl rfl <| rl rfl (p_len (e := eType) rfl rfl rfl rfl rfl rfl underlying22) <| bd 17 [(28, (I (a1.length : Int))), (29, (Bo (decide (o13.2.fType ≥ (a1.length : Int))))), (30, (Bo (decide (o13.2.fType ≥ (a1.length : Int))))), (31, (Bo (decide (o13.2.fType ≥ (a1.length : Int)))))] rfl rfl <| bifE (fun hc => ?_) fun hc => ?_
            · rw [hc]
              exact reg_end rfl
            · rw [hc]
              refine rd 23 [(32, (V.ptr 6 0 3)), (33, (Sr o13.2.fSparse)), (34, (I (o13.2.fSparse.length : Int))), (35, (Bo (decide ((o13.2.fSparse.length : Int) > 1)))), (36, (Bo (decide ((o13.2.fSparse.length : Int) > 1)))), (37, (Bo (decide ((o13.2.fSparse.length : Int) > 1))))] rfl rfl <| bifE (fun hc => ?_) fun hc => ?_
              · rw [hc]
                exact reg_end rfl
              · rw [hc]
                exact rd 25 [(38, (sSearch a0)), (39, (I o13.1))] rfl rfl <| rp rfl (p_slice (e := eSearch) rfl rfl rfl rfl rfl rfl underlying23 rfl (by decide)) fun v15 => bd 27 [(40, (sSearch v15)), (41, (V.fn 114 [] [(Pt 6)]))] rfl rfl <| rs rfl (p_call rfl rfl rfl rfl rfl (slices_ContainsFunc_Search_ok k v15 (fun j x0 => (dbd_areIndexes_1 j x0 o13.2)) 114 (eSearch o13.2) (fun j x0 => (dbd_areIndexes_1_ok j x0 o13.2))) (.inr (fun _ => rfl))) fun v16 => bind_end rfl
      refine kc rfl rfl (fun hc => ?_) fun hc => ?_
      · rw [hc]
        refine et k_assoc <| kr ⟨[(4, (Bo false))], [], 73⟩ rfl <| et k_ret <| et blk_ret <| et loop_ret <| et (hret _) ?_
        rfl
      · rw [hc]
        refine et k_skip <| kg f103a6 rfl (fun (o19 : (List T_api_Field)) => ⟨[(0, (sSearch a0)), (1, (sType a1)), (6, (Pt 6)), (7, (sField o19)), (8, (sSearch a0)), (9, (I (a0.length : Int))), (10, (I x11))], [(6, vS 4 (eSearch o13.2))], 73⟩) (rd 3 [(44, (sType a1)), (45, (V.ptr 6 0 1)), (46, (I o13.2.fType))] rfl rfl <| rp rfl (p_index (e := eType) rfl rfl rfl underlying22 rfl (by decide)) fun v18 => bind_end rfl) fun o19 => kg f103a7 rfl (fun (o21 : Bool) => ⟨[(0, (sSearch a0)), (1, (sType a1)), (8, (sSearch a0)), (9, (I (a0.length : Int))), (10, (I x11)), (68, (Bo o21))], [], 73⟩) ?_ fun o21 => ?_
        · refine rd 4 [(50, (V.ptr 6 0 2)), (51, (I o13.2.fField)), (52, (Bo (decide (o13.2.fField < 0)))), (53, (Bo (decide (o13.2.fField < 0))))] rfl rfl <| bifE (fun hc => ?_) fun hc => ?_
          · rw [hc]
            exact reg_end rfl
          · rw [hc]
            refine rd 7 [(54, (V.ptr 6 0 2)), (55, (I o13.2.fField)), (56, (sField o19))] rfl rfl <| rl rfl (p_len (e := eField) rfl rfl rfl rfl rfl rfl underlying43) <| bd 11 [(57, (I (o19.length : Int))), (58, (Bo (decide (o13.2.fField ≥ (o19.length : Int))))), (59, (Bo (decide (o13.2.fField ≥ (o19.length : Int))))), (60, (Bo (decide (o13.2.fField ≥ (o19.length : Int)))))] rfl rfl <| bifE (fun hc => ?_) fun hc => ?_
            · rw [hc]
              exact reg_end rfl
            · rw [hc]
              exact rd 14 [(61, (sField o19)), (62, (V.ptr 6 0 2)), (63, (I o13.2.fField))] rfl rfl <| rp rfl (p_index (e := eField) rfl rfl rfl underlying43 rfl (by decide)) fun v20 => bind_end rfl
        refine kcl rfl rfl (fun hc => ?_) fun hc => ?_
        · rw [hc]
          refine kr ⟨[(4, (Bo false))], [], 73⟩ rfl <| et k_lret <| et blk_ret <| et loop_ret <| et (hret _) ?_
          rfl
        · rw [hc]
          exact et k_lskip <| et blk_normal <| kl ⟨[(0, (sSearch a0)), (1, (sType a1)), (8, (sSearch a0)), (9, (I (a0.length : Int))), (10, (I (Go.IntKind.wrap .i64 (x11 + 1))))], [], 73⟩ rfl <| et loop_normal <| ih (Go.IntKind.wrap .i64 (x11 + 1))
    · rw [hc]
      exact et k_exit <| et loop_exit <| hK0 x11
theorem dbd_areIndexes_ok (k : Nat) (a0 : (List T_api_Search)) (a1 : (List T_api_Type)) : EV k 103 [(sSearch a0), (sType a1)] = (dbd_areIndexes k a0 a1).map dbd_areIndexes_fin := by
  cases k with
  | zero => rfl
  | succ k =>
    unfold dbd_areIndexes
    refine et (evF_succ (c := f103c) (N := 73) (regs := f103n) rfl func103 rfl (by decide) rfl rfl rfl) <| kra [] rfl <| et k_assoc <| krp f103a1 rfl ⟨[(0, (sSearch a0)), (1, (sType a1)), (8, (sSearch a0)), (9, (I (a0.length : Int))), (10, (I 0))], [], 73⟩ ?_ ?_
    · exact rd 1 [(8, (sSearch a0))] rfl rfl <| rl rfl (p_len (e := eSearch) rfl rfl rfl rfl rfl rfl underlying23) <| bind_end rfl
    refine et (k_block rfl) <| et k_loop ?_
    refine dbd_areIndexes_L1_ok k a0 a1 _ _ ?h_dbd_areIndexes_L1_0 ?hr_dbd_areIndexes_L1 k 0
    · intro y22
      refine et blk_exit <| krp f103a10 rfl ⟨[(4, (Bo (decide ((a0.length : Int) ≤ 3))))], [], 73⟩ ?_ ?_
      · exact rd 1 [(70, (sSearch a0))] rfl rfl <| rl rfl (p_len (e := eSearch) rfl rfl rfl rfl rfl rfl underlying23) <| bind_end rfl
      refine et k_lret ?_
      rfl
    · intro s; exact rfl
def dbd_Valid_fin : Bool → V × List V := fun r => ((Bo r), [])
theorem dbd_Valid_ok (k : Nat) (a0 : T_api_Base) : EV k 90 [(eBase a0)] = (dbd_Valid k a0).map dbd_Valid_fin := by
  cases k with
  | zero => rfl
  | succ k =>
    unfold dbd_Valid
    refine et (evF_succ (c := f90c) (N := 28) (regs := f90n) rfl func90 rfl (by decide) rfl rfl rfl) <| kr ⟨[(1, (Pt 1))], [(1, vS 4 (eBase a0))], 28⟩ rfl <| kg f90a1 rfl (fun (o4 : Bool) => ⟨[(2, (Bo o4))], [], 28⟩) ?_ fun o4 => ?_
    · refine rd 2 [(3, (Pt 1)), (4, (Sr a0.fName))] rfl rfl <| rp rfl (p_call rfl rfl rfl rfl rfl (dbd_IsName_ok k a0.fName) (.inl rfl)) fun v1 => bd 4 [(5, (Bo v1)), (6, (Bo v1))] rfl rfl <| bifE (fun hc => ?_) fun hc => ?_
      · rw [hc]
        refine rd 9 [(7, (V.ptr 1 0 1)), (8, (I a0.fKind)), (9, (Bo (decide (a0.fKind ≥ 1)))), (10, (Bo (decide (a0.fKind ≥ 1)))), (11, (Bo (decide (a0.fKind ≥ 1))))] rfl rfl <| bifE (fun hc => ?_) fun hc => ?_
        · rw [hc]
          refine rd 14 [(12, (V.ptr 1 0 1)), (13, (I a0.fKind)), (14, (Bo (decide (a0.fKind ≤ 4)))), (15, (Bo (decide (a0.fKind ≤ 4)))), (16, (Bo (decide (a0.fKind ≤ 4))))] rfl rfl <| bifE (fun hc => ?_) fun hc => ?_
          · rw [hc]
            refine rd 16 [(17, (V.ptr 1 0 2)), (18, (sType a0.fTypes))] rfl rfl <| rp rfl (p_call rfl rfl rfl rfl rfl (dbd_areTypes_ok k a0.fTypes) (.inl rfl)) fun v2 => bd 19 [(19, (Bo v2)), (20, (Bo v2)), (21, (Bo v2))] rfl rfl <| bifE (fun hc => ?_) fun hc => ?_
            · rw [hc]
              exact rd 23 [(22, (V.ptr 1 0 3)), (23, (sSearch a0.fIndexes)), (24, (V.ptr 1 0 2)), (25, (sType a0.fTypes))] rfl rfl <| rs rfl (p_call rfl rfl rfl rfl rfl (dbd_areIndexes_ok k a0.fIndexes a0.fTypes) (.inl rfl)) fun v3 => bind_end rfl
            · rw [hc]
              exact reg_end rfl
          · rw [hc]
            exact reg_end rfl
        · rw [hc]
          exact reg_end rfl
      · rw [hc]
        exact reg_end rfl
    refine et k_lret ?_
    rfl
def slices_IndexFunc_int_fin : Int → V × List V := fun r => ((I r), [])
theorem slices_IndexFunc_int_L1_ok (k : Nat) (a0 : (List Int)) (a1 : Nat → Int → Option Bool) (a1_fid : Go.FuncId) (a1_c0 : V) (a1_hok : ∀ j x0, EV j a1_fid [(I x0), V.pro a1_c0] = (a1 j x0).map fun b => ((Bo b), [])) (K0 : Int → Option Int) (Kst : X × St → Option (V × List V)) (hK0 : ∀ (y0 : Int), Kst (X.exit 0, ⟨[(0, (sI a0)), (1, (V.fn a1_fid [] [V.pro a1_c0])), (7, (I (a0.length : Int))), (8, (I y0)), (9, (Bo false))], [], 19⟩) = (K0 y0).map slices_IndexFunc_int_fin) (hret : ∀ s, Kst (X.ret, s) = endK prog 19 [(sI a0), (V.fn a1_fid [] [V.pro a1_c0])] [] [.tmp 4] (X.ret, s)) :
    ∀ (m : Nat) (x4 : Int), (iter (exec prog (EV k) f104n k f104b0) m ⟨[(0, (sI a0)), (1, (V.fn a1_fid [] [V.pro a1_c0])), (7, (I (a0.length : Int))), (8, (I x4))], [], 19⟩).bind Kst = (slices_IndexFunc_int_L1 k a0 a1 K0 m x4).map slices_IndexFunc_int_fin := by
  intro m
  induction m with
  | zero => intros; rfl
  | succ m ih =>
    intro x4
    unfold slices_IndexFunc_int_L1
    refine et k_round <| kra [(9, (Bo (decide (x4 < (a0.length : Int)))))] rfl <| kc rfl rfl (fun hc => ?_) fun hc => ?_
    · rw [hc]
      refine et k_skip <| et (k_block rfl) <| kr ⟨[(0, (sI a0)), (1, (V.fn a1_fid [] [V.pro a1_c0])), (5, (I x4)), (7, (I (a0.length : Int))), (8, (I x4))], [], 19⟩ rfl <| kga f104a4 rfl (fun (o7 : Bool) => [(16, (Bo o7))]) (rd 3 [(11, (V.fn a1_fid [] [V.pro a1_c0])), (12, (sI a0)), (13, (I x4))] rfl rfl <| rp rfl (p_index (e := I) rfl rfl rfl underlying87 rfl (by decide)) fun v5 => bd 5 [(14, (Pr (I v5))), (15, (I v5))] rfl rfl <| rs rfl (p_call rfl rfl rfl rfl rfl (a1_hok k v5) (.inl rfl)) fun v6 => bind_end rfl) fun o7 => kcl rfl rfl (fun hc => ?_) fun hc => ?_
      · rw [hc]
        refine kr ⟨[(4, (I x4))], [], 19⟩ rfl <| et k_lret <| et blk_ret <| et loop_ret <| et (hret _) ?_
        rfl
      · rw [hc]
        exact et k_lskip <| et blk_normal <| kl ⟨[(0, (sI a0)), (1, (V.fn a1_fid [] [V.pro a1_c0])), (7, (I (a0.length : Int))), (8, (I (Go.IntKind.wrap .i64 (x4 + 1))))], [], 19⟩ rfl <| et loop_normal <| ih (Go.IntKind.wrap .i64 (x4 + 1))
    · rw [hc]
      exact et k_exit <| et loop_exit <| hK0 x4
theorem slices_IndexFunc_int_ok (k : Nat) (a0 : (List Int)) (a1 : Nat → Int → Option Bool) (a1_fid : Go.FuncId) (a1_c0 : V) (a1_hok : ∀ j x0, EV j a1_fid [(I x0), V.pro a1_c0] = (a1 j x0).map fun b => ((Bo b), [])) : EV k 104 [(sI a0), (V.fn a1_fid [] [V.pro a1_c0])] = (slices_IndexFunc_int k a0 a1).map slices_IndexFunc_int_fin := by
  cases k with
  | zero => rfl
  | succ k =>
    unfold slices_IndexFunc_int
    refine et (evF_succ (c := f104c) (N := 19) (regs := f104n) rfl func104 rfl (by decide) rfl rfl rfl) <| kra [] rfl <| et k_assoc <| krp f104a1 rfl ⟨[(0, (sI a0)), (1, (V.fn a1_fid [] [V.pro a1_c0])), (7, (I (a0.length : Int))), (8, (I 0))], [], 19⟩ ?_ ?_
    · exact rd 1 [(6, (sI a0))] rfl rfl <| rl rfl (p_len (e := I) rfl rfl rfl rfl rfl rfl underlying87) <| bind_end rfl
    refine et (k_block rfl) <| et k_loop ?_
    refine slices_IndexFunc_int_L1_ok k a0 a1 a1_fid a1_c0 a1_hok _ _ ?h_slices_IndexFunc_int_L1_0 ?hr_slices_IndexFunc_int_L1 k 0
    · intro y8
      refine et blk_exit <| kr ⟨[(4, (I (-1)))], [], 19⟩ rfl <| et k_lret ?_
      rfl
    · intro s; exact rfl
def slices_ContainsFunc_int_fin : Bool → V × List V := fun r => ((Bo r), [])
theorem slices_ContainsFunc_int_ok (k : Nat) (a0 : (List Int)) (a1 : Nat → Int → Option Bool) (a1_fid : Go.FuncId) (a1_c0 : V) (a1_hok : ∀ j x0, EV j a1_fid [(I x0), V.pro a1_c0] = (a1 j x0).map fun b => ((Bo b), [])) : EV k 91 [(sI a0), (V.fn a1_fid [] [V.pro a1_c0])] = (slices_ContainsFunc_int k a0 a1).map slices_ContainsFunc_int_fin := by
  cases k with
  | zero => rfl
  | succ k =>
    unfold slices_ContainsFunc_int
    refine et (evF_succ (c := f91c) (N := 9) (regs := f91n) rfl func91 rfl (by decide) rfl rfl rfl) <| kra [] rfl <| kg f91a1 rfl (fun (o2 : Bool) => ⟨[(4, (Bo o2))], [], 9⟩) (rd 2 [(5, (sI a0)), (6, (V.fn a1_fid [] [V.pro a1_c0]))] rfl rfl <| rp rfl (p_call rfl rfl rfl rfl rfl (slices_IndexFunc_int_ok k a0 a1 a1_fid a1_c0 a1_hok) (.inl rfl)) fun v1 => bind_end rfl) fun o2 => et k_lret ?_
    rfl
def dbd_asked_1_fin : Bool → V × List V := fun r => ((Bo r), [])
theorem dbd_asked_1_ok (k : Nat) (a0 : Int) (a1 : T_api_Base) : EV k 92 [(I a0), (Pr (eBase a1))] = (dbd_asked_1 k a0 a1).map dbd_asked_1_fin := by
  cases k with
  | zero => rfl
  | succ k =>
    unfold dbd_asked_1
    refine et (evF_succ (c := f92c) (N := 13) (regs := f92n) rfl func92 rfl (by decide) rfl rfl rfl) <| kra [] rfl <| kg f92a1 rfl (fun (o1 : Bool) => ⟨[(3, (Bo o1))], [], 13⟩) ?_ fun o1 => ?_
    · refine rd 3 [(4, (I a0)), (5, (Bo (decide (a0 < 0)))), (6, (Bo (decide (a0 < 0))))] rfl rfl <| bifE (fun hc => ?_) fun hc => ?_
      · rw [hc]
        exact reg_end rfl
      · rw [hc]
        exact rd 6 [(7, (I a0)), (8, (Pr (sType a1.fTypes))), (9, (sType a1.fTypes))] rfl rfl <| rl rfl (p_len (e := eType) rfl rfl rfl rfl rfl rfl underlying22) <| bind_end rfl
    refine et k_lret ?_
    rfl
def dbd_asked_fin : Int → V × List V := fun r => ((I r), [])
theorem dbd_asked_ok (k : Nat) (a0 : T_api_Base) (a1 : (List Int)) : EV k 66 [(eBase a0), (sI a1)] = (dbd_asked k a0 a1).map dbd_asked_fin := by
  cases k with
  | zero => rfl
  | succ k =>
    unfold dbd_asked
    refine et (evF_succ (c := f66c) (N := 13) (regs := f66n) rfl func66 rfl (by decide) rfl rfl rfl) <| kr ⟨[(1, (sI a1)), (2, (Pt 2))], [(2, vS 4 (eBase a0))], 13⟩ rfl <| et (k_block rfl) <| kga f66a1 rfl (fun (o2 : Bool) => [(5, (Bo o2))]) (rd 1 [(6, (eBase a0))] rfl rfl <| rp rfl (p_call rfl rfl rfl rfl rfl (dbd_Valid_ok k a0) (.inl rfl)) fun v1 => bind_end rfl) fun o2 => kcl rfl rfl (fun hc => ?_) fun hc => ?_
    · rw [hc]
      refine kr ⟨[(4, (I 100))], [], 13⟩ rfl <| et k_lret <| et blk_ret ?_
      rfl
    · rw [hc]
      refine kg f66a3 rfl (fun (o4 : Bool) => ⟨[(9, (Bo o4))], [], 13⟩) (rd 2 [(10, (sI a1)), (11, (V.fn 92 [] [(Pt 2)]))] rfl rfl <| rs rfl (p_call rfl rfl rfl rfl rfl (slices_ContainsFunc_int_ok k a1 (fun j x0 => (dbd_asked_1 j x0 a0)) 92 (eBase a0) (fun j x0 => (dbd_asked_1_ok j x0 a0))) (.inr (fun _ => rfl))) fun v3 => bind_end rfl) fun o4 => kcl rfl rfl (fun hc => ?_) fun hc => ?_
      · rw [hc]
        refine kr ⟨[(4, (I 2))], [], 13⟩ rfl <| et k_lret <| et blk_ret ?_
        rfl
      · rw [hc]
        refine et k_lskip <| et blk_normal <| kr ⟨[(4, (I 0))], [], 13⟩ rfl <| et k_lret ?_
        rfl
def slices_Reverse_int_fin : List Int → V × List V := fun r => (.tup [], [.sl 2 1 (List.map I r)])
theorem slices_Reverse_int_ok (k : Nat) (l : List Int) : EV k 108 [(V.sl 2 1 (List.map I l))] = (slices_Reverse_int k l).map slices_Reverse_int_fin := by
  cases k with
  | zero => rfl
  | succ k => exact (evF_ext (ext := ext) (f := 108) rfl).trans (extReverseInt_map l)
def dbd_way_fin : (List Int) → V × List V := fun r => ((sI r), [])
theorem dbd_way_L1_ok (k : Nat) (a0 : T_api_Base) (a1 : Int)  (K0 : Int → (List Int) → Option (List Int)) (Kst : X × St → Option (V × List V)) (hK0 : ∀ (y0 : Int) (y1 : (List Int)), Kst (X.exit 0, ⟨[(1, (I y0)), (2, (Pt 2)), (5, (aL 5 I y1)), (7, (Bo false))], [(2, vS 4 (eBase a0)), (5, ⟨true, 1, List.map I y1⟩)], 21⟩) = (K0 y0 y1).map dbd_way_fin) (hret : ∀ s, Kst (X.ret, s) = endK prog 21 [(eBase a0), (I a1)] [] [.tmp 4] (X.ret, s)) :
    ∀ (m : Nat) (x5 : Int) (x6 : (List Int)), (iter (exec prog (EV k) f100n k f100b0) m ⟨[(1, (I x5)), (2, (Pt 2)), (5, (aL 5 I x6))], [(2, vS 4 (eBase a0)), (5, ⟨true, 1, List.map I x6⟩)], 21⟩).bind Kst = (dbd_way_L1 a0 K0 m x5 x6).map dbd_way_fin := by
  intro m
  induction m with
  | zero => intros; rfl
  | succ m ih =>
    intro x5 x6
    unfold dbd_way_L1
    refine et k_round <| et k_assoc <| kra [(7, (Bo (decide (x5 ≥ 0))))] rfl <| kc rfl rfl (fun hc => ?_) fun hc => ?_
    · rw [hc]
      exact et k_skip <| et (k_block rfl) <| kgl f100a4 rfl (fun (o8 : (List Int)) => ⟨[(1, (I x5)), (2, (Pt 2)), (5, (aL 5 I o8))], [(2, vS 4 (eBase a0)), (5, ⟨true, 1, List.map I o8⟩)], 21⟩) (rd 3 [(14, (aL 5 I x6)), (15, (I x5)), (16, (sI (([x5] : List Int))))] rfl rfl <| et (reg_eff (x := (app x6 ([x5] : List Int))) (w := fun v7 => ((aL 5 I v7), _)) rfl rfl rfl rfl (p_appF (e := I) (l := x6) rfl rfl rfl rfl rfl rfl rfl rfl rfl rfl rfl (of_decide_eq_true rfl))) <| bind_self fun v7 => bind_end rfl) fun o8 => et blk_normal <| kgl f100a3 rfl (fun (o10 : Int) => ⟨[(1, (I o10)), (2, (Pt 2)), (5, (aL 5 I o8))], [(2, vS 4 (eBase a0)), (5, ⟨true, 1, List.map I o8⟩)], 21⟩) (rd 3 [(8, (V.ptr 2 0 2)), (9, (sType a0.fTypes)), (10, (I x5))] rfl rfl <| rp rfl (p_index (e := eType) rfl rfl rfl underlying22 rfl (by decide)) fun v9 => bind_end rfl) fun o10 => et loop_normal <| ih o10 o8
    · rw [hc]
      exact et k_exit <| et loop_exit <| hK0 x5 x6
theorem dbd_way_ok (k : Nat) (a0 : T_api_Base) (a1 : Int) : EV k 100 [(eBase a0), (I a1)] = (dbd_way k a0 a1).map dbd_way_fin := by
  cases k with
  | zero => rfl
  | succ k =>
    unfold dbd_way
    refine et (evF_succ (c := f100c) (N := 21) (regs := f100n) rfl func100 rfl (by decide) rfl rfl rfl) <| kr ⟨[(1, (I a1)), (2, (Pt 2))], [(2, vS 4 (eBase a0))], 21⟩ rfl <| kr ⟨[(1, (I a1)), (2, (Pt 2)), (5, (aL 5 I ([] : List Int)))], [(2, vS 4 (eBase a0)), (5, ⟨true, 1, List.map I ([] : List Int)⟩)], 21⟩ rfl <| et (k_block rfl) <| et k_loop ?_
    refine dbd_way_L1_ok k a0 a1 _ _ ?h_dbd_way_L1_0 ?hr_dbd_way_L1 k a1 ([] : List Int)
    · intro y11 y12
      refine et blk_exit <| kg f100a5 rfl (fun (o14 : (List Int)) => ⟨[(5, (aL 5 I o14))], [(5, ⟨true, 1, List.map I o14⟩)], 21⟩) (rd 1 [(18, (aL 5 I y12))] rfl rfl <| et (reg_eff (x := ((slices_Reverse_int k y12).bind (sameLen y12))) (w := fun v13 => (V.tup [], _)) rfl rfl rfl rfl (p_callL (S := (fun n_ => ⟨[(1, (I y11)), (2, (Pt 2)), (5, (V.aref 5 0 n_)), (7, (Bo false)), (18, (V.aref 5 0 n_))], [(2, vS 4 (eBase a0)), (5, ⟨true, 1, List.map I y12⟩)], 21⟩)) (e := I) rfl rfl rfl rfl rfl (argsA1 (e := I) rfl) rfl (slices_Reverse_int_ok k y12))) <| bind_self fun v13 => bind_end rfl) fun o14 => krp f100a6 rfl ⟨[(4, (sI o14))], [], 21⟩ ?_ ?_
      · exact rd 1 [(20, (aL 5 I o14))] rfl rfl <| et (reg_eff (x := some ()) (w := fun _ => ((V.sl 2 1 (List.map I o14)), _)) rfl rfl rfl rfl (p_close (e := I) rfl rfl rfl rfl rfl (of_decide_eq_true rfl))) <| et some_bind <| bind_end rfl
      refine et k_lret ?_
      rfl
    · intro s; exact rfl
def dbd_Way_fin : ((List Int) × Int) → V × List V := fun r => (.tup [(sI r.1), (I r.2)], [])
theorem dbd_Way_ok (k : Nat) (a0 : T_api_Base) (a1 : Int) : EV k 85 [(eBase a0), (I a1)] = (dbd_Way k a0 a1).map dbd_Way_fin := by
  cases k with
  | zero => rfl
  | succ k =>
    unfold dbd_Way
    refine et (evF_succ (c := f85c) (N := 17) (regs := f85n) rfl func85 rfl (by decide) rfl rfl rfl) <| kr ⟨[(1, (I a1)), (2, (Pt 2))], [(2, vS 4 (eBase a0))], 17⟩ rfl <| et k_assoc <| kga f85a1 rfl (fun (o2 : Int) => [(6, (I o2))]) (rd 3 [(7, (eBase a0)), (8, (I a1)), (9, (sI (([a1] : List Int))))] rfl rfl <| rs rfl (p_call rfl rfl rfl rfl rfl (dbd_asked_ok k a0 ([a1] : List Int)) (.inl rfl)) fun v1 => bind_end rfl) fun o2 => et k_assoc <| kra [(12, (Bo (o2 != 0)))] rfl <| kc rfl rfl (fun hc => ?_) fun hc => ?_
    · rw [hc]
      refine et k_assoc <| kr ⟨[(4, (sI (([] : List Int)))), (5, (I o2))], [], 17⟩ rfl <| et k_ret ?_
      rfl
    · rw [hc]
      refine et k_skip <| kg f85a4 rfl (fun (o4 : (List Int) × Int) => ⟨[(4, (sI o4.1)), (5, (I o4.2))], [], 17⟩) (rd 2 [(14, (eBase a0)), (15, (I a1))] rfl rfl <| rp rfl (p_call rfl rfl rfl rfl rfl (dbd_way_ok k a0 a1) (.inl rfl)) fun v3 => bind_end rfl) fun o4 => et k_lret ?_
      rfl
def dbd_Depth_fin : (Int × Int) → V × List V := fun r => (.tup [(I r.1), (I r.2)], [])
theorem dbd_Depth_ok (k : Nat) (a0 : T_api_Base) (a1 : Int) : EV k 60 [(eBase a0), (I a1)] = (dbd_Depth k a0 a1).map dbd_Depth_fin := by
  cases k with
  | zero => rfl
  | succ k =>
    unfold dbd_Depth
    refine et (evF_succ (c := f60c) (N := 17) (regs := f60n) rfl func60 rfl (by decide) rfl rfl rfl) <| kr ⟨[(1, (I a1)), (2, (Pt 2))], [(2, vS 4 (eBase a0))], 17⟩ rfl <| kg f60a1 rfl (fun (o2 : (List Int) × Int) => ⟨[(6, (sI o2.1)), (7, (I o2.2))], [], 17⟩) (rd 2 [(9, (eBase a0)), (10, (I a1))] rfl rfl <| rp rfl (p_call rfl rfl rfl rfl rfl (dbd_Way_ok k a0 a1) (.inl rfl)) fun v1 => bind_end rfl) fun o2 => krp f60a2 rfl ⟨[(4, (I (o2.1.length : Int))), (5, (I o2.2))], [], 17⟩ ?_ ?_
    · exact rd 1 [(14, (sI o2.1))] rfl rfl <| rl rfl (p_len (e := I) rfl rfl rfl rfl rfl rfl underlying87) <| bind_end rfl
    refine et k_lret ?_
    rfl
def match_asked_fin : Int → V × List V := fun r => ((I r), [])
theorem match_asked_ok (k : Nat) (a0 : T_api_Base) (a1 : Int) : EV k 33 [(eBase a0), (I a1)] = (match_asked k a0 a1).map match_asked_fin := by
  cases k with
  | zero => rfl
  | succ k =>
    unfold match_asked
    refine et (evF_succ (c := f33c) (N := 14) (regs := f33n) rfl func33 rfl (by decide) rfl rfl rfl) <| kr ⟨[(1, (I a1)), (2, (Pt 2))], [(2, vS 4 (eBase a0))], 14⟩ rfl <| kg f33a1 rfl (fun (o2 : Int) => ⟨[(6, (I o2))], [], 14⟩) (rd 2 [(8, (eBase a0)), (9, (I a1))] rfl rfl <| rp rfl (p_call rfl rfl rfl rfl rfl (dbd_Depth_ok k a0 a1) (.inl rfl)) fun v1 => bind_end rfl) fun o2 => kr ⟨[(4, (I o2))], [], 14⟩ rfl <| et k_lret ?_
    rfl
def slices_IndexFunc_TermLL_fin : Int → V × List V := fun r => ((I r), [])
theorem slices_IndexFunc_TermLL_L1_ok (k : Nat) (a0 : (List (List (List T_api_Term)))) (a1 : Nat → (List (List T_api_Term)) → Option Bool) (a1_fid : Go.FuncId) (a1_c0 : V) (a1_hok : ∀ j x0, EV j a1_fid [(V.sl 0 1 (List.map sTerm x0)), V.pro a1_c0] = (a1 j x0).map fun b => ((Bo b), [])) (K0 : Int → Option Int) (Kst : X × St → Option (V × List V)) (hK0 : ∀ (y0 : Int), Kst (X.exit 0, ⟨[(0, (V.sl 0 1 (List.map (fun x => (V.sl 0 1 (List.map sTerm x))) a0))), (1, (V.fn a1_fid [] [V.pro a1_c0])), (7, (I (a0.length : Int))), (8, (I y0)), (9, (Bo false))], [], 19⟩) = (K0 y0).map slices_IndexFunc_TermLL_fin) (hret : ∀ s, Kst (X.ret, s) = endK prog 19 [(V.sl 0 1 (List.map (fun x => (V.sl 0 1 (List.map sTerm x))) a0)), (V.fn a1_fid [] [V.pro a1_c0])] [] [.tmp 4] (X.ret, s)) :
    ∀ (m : Nat) (x4 : Int), (iter (exec prog (EV k) f84n k f84b0) m ⟨[(0, (V.sl 0 1 (List.map (fun x => (V.sl 0 1 (List.map sTerm x))) a0))), (1, (V.fn a1_fid [] [V.pro a1_c0])), (7, (I (a0.length : Int))), (8, (I x4))], [], 19⟩).bind Kst = (slices_IndexFunc_TermLL_L1 k a0 a1 K0 m x4).map slices_IndexFunc_TermLL_fin := by
  intro m
  induction m with
  | zero => intros; rfl
  | succ m ih =>
    intro x4
    unfold slices_IndexFunc_TermLL_L1
    refine et k_round <| kra [(9, (Bo (decide (x4 < (a0.length : Int)))))] rfl <| kc rfl rfl (fun hc => ?_) fun hc => ?_
    · rw [hc]
      refine et k_skip <| et (k_block rfl) <| kr ⟨[(0, (V.sl 0 1 (List.map (fun x => (V.sl 0 1 (List.map sTerm x))) a0))), (1, (V.fn a1_fid [] [V.pro a1_c0])), (5, (I x4)), (7, (I (a0.length : Int))), (8, (I x4))], [], 19⟩ rfl <| kga f84a4 rfl (fun (o7 : Bool) => [(16, (Bo o7))]) (rd 3 [(11, (V.fn a1_fid [] [V.pro a1_c0])), (12, (V.sl 0 1 (List.map (fun x => (V.sl 0 1 (List.map sTerm x))) a0))), (13, (I x4))] rfl rfl <| rp rfl (p_index (e := (fun x => (V.sl 0 1 (List.map sTerm x)))) rfl rfl rfl underlying95 rfl (by decide)) fun v5 => bd 5 [(14, (Pr (V.sl 0 1 (List.map sTerm v5)))), (15, (V.sl 0 1 (List.map sTerm v5)))] rfl rfl <| rs rfl (p_call rfl rfl rfl rfl rfl (a1_hok k v5) (.inl rfl)) fun v6 => bind_end rfl) fun o7 => kcl rfl rfl (fun hc => ?_) fun hc => ?_
      · rw [hc]
        refine kr ⟨[(4, (I x4))], [], 19⟩ rfl <| et k_lret <| et blk_ret <| et loop_ret <| et (hret _) ?_
        rfl
      · rw [hc]
        exact et k_lskip <| et blk_normal <| kl ⟨[(0, (V.sl 0 1 (List.map (fun x => (V.sl 0 1 (List.map sTerm x))) a0))), (1, (V.fn a1_fid [] [V.pro a1_c0])), (7, (I (a0.length : Int))), (8, (I (Go.IntKind.wrap .i64 (x4 + 1))))], [], 19⟩ rfl <| et loop_normal <| ih (Go.IntKind.wrap .i64 (x4 + 1))
    · rw [hc]
      exact et k_exit <| et loop_exit <| hK0 x4
theorem slices_IndexFunc_TermLL_ok (k : Nat) (a0 : (List (List (List T_api_Term)))) (a1 : Nat → (List (List T_api_Term)) → Option Bool) (a1_fid : Go.FuncId) (a1_c0 : V) (a1_hok : ∀ j x0, EV j a1_fid [(V.sl 0 1 (List.map sTerm x0)), V.pro a1_c0] = (a1 j x0).map fun b => ((Bo b), [])) : EV k 84 [(V.sl 0 1 (List.map (fun x => (V.sl 0 1 (List.map sTerm x))) a0)), (V.fn a1_fid [] [V.pro a1_c0])] = (slices_IndexFunc_TermLL k a0 a1).map slices_IndexFunc_TermLL_fin := by
  cases k with
  | zero => rfl
  | succ k =>
    unfold slices_IndexFunc_TermLL
    refine et (evF_succ (c := f84c) (N := 19) (regs := f84n) rfl func84 rfl (by decide) rfl rfl rfl) <| kra [] rfl <| et k_assoc <| krp f84a1 rfl ⟨[(0, (V.sl 0 1 (List.map (fun x => (V.sl 0 1 (List.map sTerm x))) a0))), (1, (V.fn a1_fid [] [V.pro a1_c0])), (7, (I (a0.length : Int))), (8, (I 0))], [], 19⟩ ?_ ?_
    · exact rd 1 [(6, (V.sl 0 1 (List.map (fun x => (V.sl 0 1 (List.map sTerm x))) a0)))] rfl rfl <| rl rfl (p_len (e := (fun x => (V.sl 0 1 (List.map sTerm x)))) rfl rfl rfl rfl rfl rfl underlying95) <| bind_end rfl
    refine et (k_block rfl) <| et k_loop ?_
    refine slices_IndexFunc_TermLL_L1_ok k a0 a1 a1_fid a1_c0 a1_hok _ _ ?h_slices_IndexFunc_TermLL_L1_0 ?hr_slices_IndexFunc_TermLL_L1 k 0
    · intro y8
      refine et blk_exit <| kr ⟨[(4, (I (-1)))], [], 19⟩ rfl <| et k_lret ?_
      rfl
    · intro s; exact rfl
def slices_ContainsFunc_TermLL_fin : Bool → V × List V := fun r => ((Bo r), [])
theorem slices_ContainsFunc_TermLL_ok (k : Nat) (a0 : (List (List (List T_api_Term)))) (a1 : Nat → (List (List T_api_Term)) → Option Bool) (a1_fid : Go.FuncId) (a1_c0 : V) (a1_hok : ∀ j x0, EV j a1_fid [(V.sl 0 1 (List.map sTerm x0)), V.pro a1_c0] = (a1 j x0).map fun b => ((Bo b), [])) : EV k 58 [(V.sl 0 1 (List.map (fun x => (V.sl 0 1 (List.map sTerm x))) a0)), (V.fn a1_fid [] [V.pro a1_c0])] = (slices_ContainsFunc_TermLL k a0 a1).map slices_ContainsFunc_TermLL_fin := by
  cases k with
  | zero => rfl
  | succ k =>
    unfold slices_ContainsFunc_TermLL
    refine et (evF_succ (c := f58c) (N := 9) (regs := f58n) rfl func58 rfl (by decide) rfl rfl rfl) <| kra [] rfl <| kg f58a1 rfl (fun (o2 : Bool) => ⟨[(4, (Bo o2))], [], 9⟩) (rd 2 [(5, (V.sl 0 1 (List.map (fun x => (V.sl 0 1 (List.map sTerm x))) a0))), (6, (V.fn a1_fid [] [V.pro a1_c0]))] rfl rfl <| rp rfl (p_call rfl rfl rfl rfl rfl (slices_IndexFunc_TermLL_ok k a0 a1 a1_fid a1_c0 a1_hok) (.inl rfl)) fun v1 => bind_end rfl) fun o2 => et k_lret ?_
    rfl
def slices_IndexFunc_TermL_fin : Int → V × List V := fun r => ((I r), [])
theorem slices_IndexFunc_TermL_L1_ok (k : Nat) (a0 : (List (List T_api_Term))) (a1 : Nat → (List T_api_Term) → Option Bool) (a1_fid : Go.FuncId) (a1_c0 : V) (a1_hok : ∀ j x0, EV j a1_fid [(sTerm x0), V.pro a1_c0] = (a1 j x0).map fun b => ((Bo b), [])) (K0 : Int → Option Int) (Kst : X × St → Option (V × List V)) (hK0 : ∀ (y0 : Int), Kst (X.exit 0, ⟨[(0, (V.sl 0 1 (List.map sTerm a0))), (1, (V.fn a1_fid [] [V.pro a1_c0])), (7, (I (a0.length : Int))), (8, (I y0)), (9, (Bo false))], [], 19⟩) = (K0 y0).map slices_IndexFunc_TermL_fin) (hret : ∀ s, Kst (X.ret, s) = endK prog 19 [(V.sl 0 1 (List.map sTerm a0)), (V.fn a1_fid [] [V.pro a1_c0])] [] [.tmp 4] (X.ret, s)) :
    ∀ (m : Nat) (x4 : Int), (iter (exec prog (EV k) f72n k f72b0) m ⟨[(0, (V.sl 0 1 (List.map sTerm a0))), (1, (V.fn a1_fid [] [V.pro a1_c0])), (7, (I (a0.length : Int))), (8, (I x4))], [], 19⟩).bind Kst = (slices_IndexFunc_TermL_L1 k a0 a1 K0 m x4).map slices_IndexFunc_TermL_fin := by
  intro m
  induction m with
  | zero => intros; rfl
  | succ m ih =>
    intro x4
    unfold slices_IndexFunc_TermL_L1
    refine et k_round <| kra [(9, (Bo (decide (x4 < (a0.length : Int)))))] rfl <| kc rfl rfl (fun hc => ?_) fun hc => ?_
    · rw [hc]
      refine et k_skip <| et (k_block rfl) <| kr ⟨[(0, (V.sl 0 1 (List.map sTerm a0))), (1, (V.fn a1_fid [] [V.pro a1_c0])), (5, (I x4)), (7, (I (a0.length : Int))), (8, (I x4))], [], 19⟩ rfl <| kga f72a4 rfl (fun (o7 : Bool) => [(16, (Bo o7))]) (rd 3 [(11, (V.fn a1_fid [] [V.pro a1_c0])), (12, (V.sl 0 1 (List.map sTerm a0))), (13, (I x4))] rfl rfl <| rp rfl (p_index (e := sTerm) rfl rfl rfl underlying26 rfl (by decide)) fun v5 => bd 5 [(14, (Pr (sTerm v5))), (15, (sTerm v5))] rfl rfl <| rs rfl (p_call rfl rfl rfl rfl rfl (a1_hok k v5) (.inl rfl)) fun v6 => bind_end rfl) fun o7 => kcl rfl rfl (fun hc => ?_) fun hc => ?_
      · rw [hc]
        refine kr ⟨[(4, (I x4))], [], 19⟩ rfl <| et k_lret <| et blk_ret <| et loop_ret <| et (hret _) ?_
        rfl
      · rw [hc]
        exact et k_lskip <| et blk_normal <| kl ⟨[(0, (V.sl 0 1 (List.map sTerm a0))), (1, (V.fn a1_fid [] [V.pro a1_c0])), (7, (I (a0.length : Int))), (8, (I (Go.IntKind.wrap .i64 (x4 + 1))))], [], 19⟩ rfl <| et loop_normal <| ih (Go.IntKind.wrap .i64 (x4 + 1))
    · rw [hc]
      exact et k_exit <| et loop_exit <| hK0 x4
theorem slices_IndexFunc_TermL_ok (k : Nat) (a0 : (List (List T_api_Term))) (a1 : Nat → (List T_api_Term) → Option Bool) (a1_fid : Go.FuncId) (a1_c0 : V) (a1_hok : ∀ j x0, EV j a1_fid [(sTerm x0), V.pro a1_c0] = (a1 j x0).map fun b => ((Bo b), [])) : EV k 72 [(V.sl 0 1 (List.map sTerm a0)), (V.fn a1_fid [] [V.pro a1_c0])] = (slices_IndexFunc_TermL k a0 a1).map slices_IndexFunc_TermL_fin := by
  cases k with
  | zero => rfl
  | succ k =>
    unfold slices_IndexFunc_TermL
    refine et (evF_succ (c := f72c) (N := 19) (regs := f72n) rfl func72 rfl (by decide) rfl rfl rfl) <| kra [] rfl <| et k_assoc <| krp f72a1 rfl ⟨[(0, (V.sl 0 1 (List.map sTerm a0))), (1, (V.fn a1_fid [] [V.pro a1_c0])), (7, (I (a0.length : Int))), (8, (I 0))], [], 19⟩ ?_ ?_
    · exact rd 1 [(6, (V.sl 0 1 (List.map sTerm a0)))] rfl rfl <| rl rfl (p_len (e := sTerm) rfl rfl rfl rfl rfl rfl underlying26) <| bind_end rfl
    refine et (k_block rfl) <| et k_loop ?_
    refine slices_IndexFunc_TermL_L1_ok k a0 a1 a1_fid a1_c0 a1_hok _ _ ?h_slices_IndexFunc_TermL_L1_0 ?hr_slices_IndexFunc_TermL_L1 k 0
    · intro y8
      refine et blk_exit <| kr ⟨[(4, (I (-1)))], [], 19⟩ rfl <| et k_lret ?_
      rfl
    · intro s; exact rfl
def slices_ContainsFunc_TermL_fin : Bool → V × List V := fun r => ((Bo r), [])
theorem slices_ContainsFunc_TermL_ok (k : Nat) (a0 : (List (List T_api_Term))) (a1 : Nat → (List T_api_Term) → Option Bool) (a1_fid : Go.FuncId) (a1_c0 : V) (a1_hok : ∀ j x0, EV j a1_fid [(sTerm x0), V.pro a1_c0] = (a1 j x0).map fun b => ((Bo b), [])) : EV k 44 [(V.sl 0 1 (List.map sTerm a0)), (V.fn a1_fid [] [V.pro a1_c0])] = (slices_ContainsFunc_TermL k a0 a1).map slices_ContainsFunc_TermL_fin := by
  cases k with
  | zero => rfl
  | succ k =>
    unfold slices_ContainsFunc_TermL
    refine et (evF_succ (c := f44c) (N := 9) (regs := f44n) rfl func44 rfl (by decide) rfl rfl rfl) <| kra [] rfl <| kg f44a1 rfl (fun (o2 : Bool) => ⟨[(4, (Bo o2))], [], 9⟩) (rd 2 [(5, (V.sl 0 1 (List.map sTerm a0))), (6, (V.fn a1_fid [] [V.pro a1_c0]))] rfl rfl <| rp rfl (p_call rfl rfl rfl rfl rfl (slices_IndexFunc_TermL_ok k a0 a1 a1_fid a1_c0 a1_hok) (.inl rfl)) fun v1 => bind_end rfl) fun o2 => et k_lret ?_
    rfl
def slices_IndexFunc_Term_fin : Int → V × List V := fun r => ((I r), [])
theorem slices_IndexFunc_Term_L1_ok (k : Nat) (a0 : (List T_api_Term)) (a1 : Nat → T_api_Term → Option Bool) (a1_fid : Go.FuncId) (a1_c0 : V) (a1_hok : ∀ j x0, EV j a1_fid [(eTerm x0), V.pro a1_c0] = (a1 j x0).map fun b => ((Bo b), [])) (K0 : Int → Option Int) (Kst : X × St → Option (V × List V)) (hK0 : ∀ (y0 : Int), Kst (X.exit 0, ⟨[(0, (sTerm a0)), (1, (V.fn a1_fid [] [V.pro a1_c0])), (7, (I (a0.length : Int))), (8, (I y0)), (9, (Bo false))], [], 19⟩) = (K0 y0).map slices_IndexFunc_Term_fin) (hret : ∀ s, Kst (X.ret, s) = endK prog 19 [(sTerm a0), (V.fn a1_fid [] [V.pro a1_c0])] [] [.tmp 4] (X.ret, s)) :
    ∀ (m : Nat) (x4 : Int), (iter (exec prog (EV k) f71n k f71b0) m ⟨[(0, (sTerm a0)), (1, (V.fn a1_fid [] [V.pro a1_c0])), (7, (I (a0.length : Int))), (8, (I x4))], [], 19⟩).bind Kst = (slices_IndexFunc_Term_L1 k a0 a1 K0 m x4).map slices_IndexFunc_Term_fin := by
  intro m
  induction m with
  | zero => intros; rfl
  | succ m ih =>
    intro x4
    unfold slices_IndexFunc_Term_L1
    refine et k_round <| kra [(9, (Bo (decide (x4 < (a0.length : Int)))))] rfl <| kc rfl rfl (fun hc => ?_) fun hc => ?_
    · rw [hc]
      refine et k_skip <| et (k_block rfl) <| kr ⟨[(0, (sTerm a0)), (1, (V.fn a1_fid [] [V.pro a1_c0])), (5, (I x4)), (7, (I (a0.length : Int))), (8, (I x4))], [], 19⟩ rfl <| kga f71a4 rfl (fun (o7 : Bool) => [(16, (Bo o7))]) (rd 3 [(11, (V.fn a1_fid [] [V.pro a1_c0])), (12, (sTerm a0)), (13, (I x4))] rfl rfl <| rp rfl (p_index (e := eTerm) rfl rfl rfl underlying50 rfl (by decide)) fun v5 => bd 5 [(14, (Pr (eTerm v5))), (15, (eTerm v5))] rfl rfl <| rs rfl (p_call rfl rfl rfl rfl rfl (a1_hok k v5) (.inl rfl)) fun v6 => bind_end rfl) fun o7 => kcl rfl rfl (fun hc => ?_) fun hc => ?_
      · rw [hc]
        refine kr ⟨[(4, (I x4))], [], 19⟩ rfl <| et k_lret <| et blk_ret <| et loop_ret <| et (hret _) ?_
        rfl
      · rw [hc]
        exact et k_lskip <| et blk_normal <| kl ⟨[(0, (sTerm a0)), (1, (V.fn a1_fid [] [V.pro a1_c0])), (7, (I (a0.length : Int))), (8, (I (Go.IntKind.wrap .i64 (x4 + 1))))], [], 19⟩ rfl <| et loop_normal <| ih (Go.IntKind.wrap .i64 (x4 + 1))
    · rw [hc]
      exact et k_exit <| et loop_exit <| hK0 x4
theorem slices_IndexFunc_Term_ok (k : Nat) (a0 : (List T_api_Term)) (a1 : Nat → T_api_Term → Option Bool) (a1_fid : Go.FuncId) (a1_c0 : V) (a1_hok : ∀ j x0, EV j a1_fid [(eTerm x0), V.pro a1_c0] = (a1 j x0).map fun b => ((Bo b), [])) : EV k 71 [(sTerm a0), (V.fn a1_fid [] [V.pro a1_c0])] = (slices_IndexFunc_Term k a0 a1).map slices_IndexFunc_Term_fin := by
  cases k with
  | zero => rfl
  | succ k =>
    unfold slices_IndexFunc_Term
    refine et (evF_succ (c := f71c) (N := 19) (regs := f71n) rfl func71 rfl (by decide) rfl rfl rfl) <| kra [] rfl <| et k_assoc <| krp f71a1 rfl ⟨[(0, (sTerm a0)), (1, (V.fn a1_fid [] [V.pro a1_c0])), (7, (I (a0.length : Int))), (8, (I 0))], [], 19⟩ ?_ ?_
    · exact rd 1 [(6, (sTerm a0))] rfl rfl <| rl rfl (p_len (e := eTerm) rfl rfl rfl rfl rfl rfl underlying50) <| bind_end rfl
    refine et (k_block rfl) <| et k_loop ?_
    refine slices_IndexFunc_Term_L1_ok k a0 a1 a1_fid a1_c0 a1_hok _ _ ?h_slices_IndexFunc_Term_L1_0 ?hr_slices_IndexFunc_Term_L1 k 0
    · intro y8
      refine et blk_exit <| kr ⟨[(4, (I (-1)))], [], 19⟩ rfl <| et k_lret ?_
      rfl
    · intro s; exact rfl
def slices_ContainsFunc_Term_fin : Bool → V × List V := fun r => ((Bo r), [])
theorem slices_ContainsFunc_Term_ok (k : Nat) (a0 : (List T_api_Term)) (a1 : Nat → T_api_Term → Option Bool) (a1_fid : Go.FuncId) (a1_c0 : V) (a1_hok : ∀ j x0, EV j a1_fid [(eTerm x0), V.pro a1_c0] = (a1 j x0).map fun b => ((Bo b), [])) : EV k 42 [(sTerm a0), (V.fn a1_fid [] [V.pro a1_c0])] = (slices_ContainsFunc_Term k a0 a1).map slices_ContainsFunc_Term_fin := by
  cases k with
  | zero => rfl
  | succ k =>
    unfold slices_ContainsFunc_Term
    refine et (evF_succ (c := f42c) (N := 9) (regs := f42n) rfl func42 rfl (by decide) rfl rfl rfl) <| kra [] rfl <| kg f42a1 rfl (fun (o2 : Bool) => ⟨[(4, (Bo o2))], [], 9⟩) (rd 2 [(5, (sTerm a0)), (6, (V.fn a1_fid [] [V.pro a1_c0]))] rfl rfl <| rp rfl (p_call rfl rfl rfl rfl rfl (slices_IndexFunc_Term_ok k a0 a1 a1_fid a1_c0 a1_hok) (.inl rfl)) fun v1 => bind_end rfl) fun o2 => et k_lret ?_
    rfl
def match_field_1_fin : Bool → V × List V := fun r => ((Bo r), [])
theorem match_field_1_ok (k : Nat) (a0 : T_api_Field) (a1 : Str) : EV k 69 [(eField a0), (Pr (Sr a1))] = (match_field_1 k a0 a1).map match_field_1_fin := by
  cases k with
  | zero => rfl
  | succ k =>
    unfold match_field_1
    refine et (evF_succ (c := f69c) (N := 8) (regs := f69n) rfl func69 rfl (by decide) rfl rfl rfl) <| kr ⟨[(1, (Pr (Sr a1))), (2, (Pt 2))], [(2, vS 3 (eField a0))], 8⟩ rfl <| kr ⟨[(3, (Bo (a0.fName == a1)))], [], 8⟩ rfl <| et k_lret ?_
    rfl
def match_field_fin : (Int × Bool) → V × List V := fun r => (.tup [(I r.1), (Bo r.2)], [])
theorem match_field_ok (k : Nat) (a0 : T_api_Type) (a1 : Str) : EV k 39 [(eType a0), (Sr a1)] = (match_field k a0 a1).map match_field_fin := by
  cases k with
  | zero => rfl
  | succ k =>
    unfold match_field
    refine et (evF_succ (c := f39c) (N := 14) (regs := f39n) rfl func39 rfl (by decide) rfl rfl rfl) <| kr ⟨[(2, (Pt 2)), (3, (Pt 3))], [(2, vS 8 (eType a0)), (3, vS 1 (Sr a1))], 14⟩ rfl <| kg f39a1 rfl (fun (o2 : Int) => ⟨[(6, (I o2))], [], 14⟩) (rd 3 [(7, (V.ptr 2 0 4)), (8, (sField a0.fFields)), (9, (V.fn 69 [] [(Pt 3)]))] rfl rfl <| rs rfl (p_call rfl rfl rfl rfl rfl (slices_IndexFunc_Field_ok k a0.fFields (fun j x0 => (match_field_1 j x0 a1)) 69 (Sr a1) (fun j x0 => (match_field_1_ok j x0 a1))) (.inr (fun _ => rfl))) fun v1 => bind_end rfl) fun o2 => kr ⟨[(4, (I o2)), (5, (Bo (decide (o2 ≥ 0))))], [], 14⟩ rfl <| et k_lret ?_
    rfl
def match_isTerm_fin : Bool → V × List V := fun r => ((Bo r), [])
theorem match_isTerm_ok (k : Nat) (a0 : T_api_Type) (a1 : T_api_Term) : EV k 63 [(eType a0), (eTerm a1)] = (match_isTerm k a0 a1).map match_isTerm_fin := by
  cases k with
  | zero => rfl
  | succ k =>
    unfold match_isTerm
    refine et (evF_succ (c := f63c) (N := 37) (regs := f63n) rfl func63 rfl (by decide) rfl rfl rfl) <| kr ⟨[(2, (Pt 2)), (3, (Pt 3))], [(2, vS 8 (eType a0)), (3, vS 3 (eTerm a1))], 37⟩ rfl <| kga f63a1 rfl (fun (o2 : Int × Bool) => [(5, (I o2.1)), (6, (Bo o2.2))]) (rd 3 [(8, (eType a0)), (9, (Pt 3)), (10, (Sr a1.fField))] rfl rfl <| rp rfl (p_call rfl rfl rfl rfl rfl (match_field_ok k a0 a1.fField) (.inl rfl)) fun v1 => bind_end rfl) fun o2 => kd f63a2 rfl (fun (o4 : Bool) => ⟨[(4, (Bo o4))], [], 37⟩) ?_ fun o4 => ?_
    · refine et (regionE_regp (p := 24) (dk := true) (t := [(2, (Pt 2)), (3, (Pt 3)), (5, (I o2.1)), (6, (Bo o2.2))]) (σ := [(2, vS 8 (eType a0)), (3, vS 3 (eTerm a1))]) (n := 37) rfl (by decide) (by decide) rfl) <| et (regp_adv (m := 2) (j := 2) (t' := [(2, (Pt 2)), (3, (Pt 3)), (5, (I o2.1)), (6, (Bo o2.2)), (14, (Bo o2.2)), (15, (Bo o2.2))]) rfl rfl rfl) <| bifE (fun hc => ?_) fun hc => ?_
      · rw [hc]
        refine et (regp_adv (m := 5) (j := 7) (t' := [(2, (Pt 2)), (3, (Pt 3)), (5, (I o2.1)), (6, (Bo true)), (14, (Bo true)), (15, (Bo true)), (16, (V.ptr 3 0 1)), (17, (I a1.fOp)), (18, (Bo (decide (a1.fOp ≥ 1)))), (19, (Bo (decide (a1.fOp ≥ 1)))), (20, (Bo (decide (a1.fOp ≥ 1))))]) rfl rfl rfl) <| bifE (fun hc => ?_) fun hc => ?_
        · rw [hc]
          refine et (regp_adv (m := 5) (j := 12) (t' := [(2, (Pt 2)), (3, (Pt 3)), (5, (I o2.1)), (6, (Bo true)), (14, (Bo true)), (15, (Bo true)), (16, (V.ptr 3 0 1)), (17, (I a1.fOp)), (18, (Bo true)), (19, (Bo true)), (20, (Bo true)), (21, (V.ptr 3 0 1)), (22, (I a1.fOp)), (23, (Bo (decide (a1.fOp ≤ 6)))), (24, (Bo (decide (a1.fOp ≤ 6)))), (25, (Bo (decide (a1.fOp ≤ 6))))]) rfl rfl rfl) <| bifE (fun hc => ?_) fun hc => ?_
          · rw [hc]
            exact et (regp_adv (m := 6) (j := 18) (t' := [(2, (Pt 2)), (3, (Pt 3)), (5, (I o2.1)), (6, (Bo true)), (14, (Bo true)), (15, (Bo true)), (16, (V.ptr 3 0 1)), (17, (I a1.fOp)), (18, (Bo true)), (19, (Bo true)), (20, (Bo true)), (21, (V.ptr 3 0 1)), (22, (I a1.fOp)), (23, (Bo true)), (24, (Bo true)), (25, (Bo true)), (26, (V.ptr 3 0 2)), (27, (Sr a1.fValue)), (28, (I (a1.fValue.length : Int))), (29, (V.ptr 2 0 4)), (30, (sField a0.fFields)), (31, (I o2.1))]) rfl rfl rfl) <| et (regp_pure (x := (idx a0.fFields o2.1)) (w := fun v3 => (Pr (eField v3))) rfl rfl rfl rfl rfl (p_index (e := eField) rfl rfl rfl underlying43 rfl (by decide))) <| bindE fun v3 => regp_end rfl
          · rw [hc]
            exact regp_end rfl
        · rw [hc]
          exact regp_end rfl
      · rw [hc]
        exact regp_end rfl
    refine et k_lret ?_
    rfl
def match_valid_1_1_fin : Bool → V × List V := fun r => ((Bo r), [])
theorem match_valid_1_1_ok (k : Nat) (a0 : T_api_Term) (a1 : T_api_Type) : EV k 62 [(eTerm a0), (Pr (eType a1))] = (match_valid_1_1 k a0 a1).map match_valid_1_1_fin := by
  cases k with
  | zero => rfl
  | succ k =>
    unfold match_valid_1_1
    refine et (evF_succ (c := f62c) (N := 8) (regs := f62n) rfl func62 rfl (by decide) rfl rfl rfl) <| kr ⟨[(1, (Pr (eType a1))), (2, (Pt 2))], [(2, vS 3 (eTerm a0))], 8⟩ rfl <| kg f62a1 rfl (fun (o2 : Bool) => ⟨[(3, (Bo o2))], [], 8⟩) (rd 2 [(4, (eType a1)), (5, (eTerm a0))] rfl rfl <| rp rfl (p_call rfl rfl rfl rfl rfl (match_isTerm_ok k a1 a0) (.inl rfl)) fun v1 => bind_end rfl) fun o2 => et k_lret ?_
    rfl
def match_valid_1_fin : Bool → V × List V := fun r => ((Bo r), [])
theorem match_valid_1_ok (k : Nat) (a0 : (List T_api_Term)) (a1 : T_api_Type) : EV k 61 [(sTerm a0), (Pr (eType a1))] = (match_valid_1 k a0 a1).map match_valid_1_fin := by
  cases k with
  | zero => rfl
  | succ k =>
    unfold match_valid_1
    refine et (evF_succ (c := f61c) (N := 17) (regs := f61n) rfl func61 rfl (by decide) rfl rfl rfl) <| kra [] rfl <| kg f61a1 rfl (fun (o2 : Bool) => ⟨[(3, (Bo o2))], [], 17⟩) ?_ fun o2 => ?_
    · refine rd 1 [(4, (sTerm a0))] rfl rfl <| rl rfl (p_len (e := eTerm) rfl rfl rfl rfl rfl rfl underlying50) <| bd 4 [(5, (I (a0.length : Int))), (6, (Bo (decide ((a0.length : Int) < 1)))), (7, (Bo (decide ((a0.length : Int) < 1))))] rfl rfl <| bifE (fun hc => ?_) fun hc => ?_
      · rw [hc]
        exact reg_end rfl
      · rw [hc]
        refine rd 5 [(8, (sTerm a0))] rfl rfl <| rl rfl (p_len (e := eTerm) rfl rfl rfl rfl rfl rfl underlying50) <| bd 9 [(9, (I (a0.length : Int))), (10, (Bo (decide ((a0.length : Int) > 4)))), (11, (Bo (decide ((a0.length : Int) > 4)))), (12, (Bo (decide ((a0.length : Int) > 4))))] rfl rfl <| bifE (fun hc => ?_) fun hc => ?_
        · rw [hc]
          exact reg_end rfl
        · rw [hc]
          exact rd 11 [(13, (sTerm a0)), (14, (V.fn 62 [] [(Pr (eType a1))]))] rfl rfl <| rs rfl (p_call rfl rfl rfl rfl rfl (slices_ContainsFunc_Term_ok k a0 (fun j x0 => (match_valid_1_1 j x0 a1)) 62 (eType a1) (fun j x0 => (match_valid_1_1_ok j x0 a1))) (.inl rfl)) fun v1 => bind_end rfl
    refine et k_lret ?_
    rfl
def match_valid_fin : Bool → V × List V := fun r => ((Bo r), [])
theorem match_valid_ok (k : Nat) (a0 : T_api_Type) (a1 : (List (List T_api_Term))) : EV k 34 [(eType a0), (V.sl 0 1 (List.map sTerm a1))] = (match_valid k a0 a1).map match_valid_fin := by
  cases k with
  | zero => rfl
  | succ k =>
    unfold match_valid
    refine et (evF_succ (c := f34c) (N := 14) (regs := f34n) rfl func34 rfl (by decide) rfl rfl rfl) <| kr ⟨[(1, (V.sl 0 1 (List.map sTerm a1))), (2, (Pt 2))], [(2, vS 8 (eType a0))], 14⟩ rfl <| kg f34a1 rfl (fun (o2 : Bool) => ⟨[(4, (Bo o2))], [], 14⟩) ?_ fun o2 => ?_
    · refine rd 1 [(5, (V.sl 0 1 (List.map sTerm a1)))] rfl rfl <| rl rfl (p_len (e := sTerm) rfl rfl rfl rfl rfl rfl underlying26) <| bd 4 [(6, (I (a1.length : Int))), (7, (Bo (decide ((a1.length : Int) ≤ 4)))), (8, (Bo (decide ((a1.length : Int) ≤ 4))))] rfl rfl <| bifE (fun hc => ?_) fun hc => ?_
      · rw [hc]
        exact rd 6 [(9, (V.sl 0 1 (List.map sTerm a1))), (10, (V.fn 61 [] [(Pt 2)]))] rfl rfl <| rp rfl (p_call rfl rfl rfl rfl rfl (slices_ContainsFunc_TermL_ok k a1 (fun j x0 => (match_valid_1 j x0 a0)) 61 (eType a0) (fun j x0 => (match_valid_1_ok j x0 a0))) (.inr (fun _ => rfl))) fun v1 => bind_end rfl
      · rw [hc]
        exact reg_end rfl
    refine et k_lret ?_
    rfl
def match_conditions_1_fin : Bool → V × List V := fun r => ((Bo r), [])
theorem match_conditions_1_ok (k : Nat) (a0 : (List (List T_api_Term))) (a1 : T_api_Type) : EV k 59 [(V.sl 0 1 (List.map sTerm a0)), (Pr (eType a1))] = (match_conditions_1 k a0 a1).map match_conditions_1_fin := by
  cases k with
  | zero => rfl
  | succ k =>
    unfold match_conditions_1
    refine et (evF_succ (c := f59c) (N := 8) (regs := f59n) rfl func59 rfl (by decide) rfl rfl rfl) <| kra [] rfl <| kg f59a1 rfl (fun (o2 : Bool) => ⟨[(3, (Bo o2))], [], 8⟩) (rd 2 [(4, (eType a1)), (5, (V.sl 0 1 (List.map sTerm a0)))] rfl rfl <| rp rfl (p_call rfl rfl rfl rfl rfl (match_valid_ok k a1 a0) (.inl rfl)) fun v1 => bind_end rfl) fun o2 => et k_lret ?_
    rfl
def match_conditions_fin : (T_api_Type × Int) → V × List V := fun r => (.tup [(eType r.1), (I r.2)], [])
theorem match_conditions_ok (k : Nat) (a0 : T_api_Base) (a1 : Int) (a2 : (List (List (List T_api_Term)))) : EV k 29 [(eBase a0), (I a1), (V.sl 0 1 (List.map (fun x => (V.sl 0 1 (List.map sTerm x))) a2))] = (match_conditions k a0 a1 a2).map match_conditions_fin := by
  cases k with
  | zero => rfl
  | succ k =>
    unfold match_conditions
    refine et (evF_succ (c := f29c) (N := 27) (regs := f29n) rfl func29 rfl (by decide) rfl rfl rfl) <| kr ⟨[(1, (I a1)), (2, (V.sl 0 1 (List.map (fun x => (V.sl 0 1 (List.map sTerm x))) a2))), (3, (Pt 3)), (6, (Pt 6))], [(3, vS 4 (eBase a0)), (6, ⟨false, 8, [(V.agg [(Sr []), (I 0), (I 0), (I 0), (V.sl 2 3 (List.map eField ([] : List T_api_Field))), (I 0), (Bo false), (Bo false)])]⟩)], 27⟩ rfl <| et k_assoc <| kga f29a1 rfl (fun (o2 : Int) => [(8, (I o2))]) (rd 2 [(10, (eBase a0)), (11, (I a1))] rfl rfl <| rs rfl (p_call rfl rfl rfl rfl rfl (match_asked_ok k a0 a1) (.inl rfl)) fun v1 => bind_end rfl) fun o2 => et k_assoc <| kra [(14, (Bo (o2 != 0)))] rfl <| kc rfl rfl (fun hc => ?_) fun hc => ?_
    · rw [hc]
      refine et k_assoc <| kr ⟨[(6, (Pt 6)), (7, (I o2))], [(6, ⟨false, 8, [(eType ({ fName := [], fParent := 0, fMin := 0, fSize := 0, fFields := ([] : List T_api_Field), fKey := 0, fUnique := false, fLast := false } : T_api_Type))]⟩)], 27⟩ rfl <| et k_ret ?_
      rfl
    · rw [hc]
      refine et k_skip <| kg f29a4 rfl (fun (o4 : T_api_Type) => ⟨[(2, (V.sl 0 1 (List.map (fun x => (V.sl 0 1 (List.map sTerm x))) a2))), (6, (Pt 6)), (9, (Pt 9))], [(6, ⟨false, 8, [(V.agg [(Sr []), (I 0), (I 0), (I 0), (V.sl 2 3 (List.map eField ([] : List T_api_Field))), (I 0), (Bo false), (Bo false)])]⟩), (9, vS 8 (eType o4))], 27⟩) (rd 3 [(17, (V.ptr 3 0 2)), (18, (sType a0.fTypes)), (19, (I a1))] rfl rfl <| rs rfl (p_index (e := eType) rfl rfl rfl underlying22 rfl (by decide)) fun v3 => bind_end rfl) fun o4 => et k_assoc <| kg f29a5 rfl (fun (o6 : Bool) => ⟨[(6, (Pt 6)), (9, (Pt 9)), (24, (Bo o6))], [(6, ⟨false, 8, [(V.agg [(Sr []), (I 0), (I 0), (I 0), (V.sl 2 3 (List.map eField ([] : List T_api_Field))), (I 0), (Bo false), (Bo false)])]⟩), (9, vS 8 (eType o4))], 27⟩) (rd 2 [(22, (V.sl 0 1 (List.map (fun x => (V.sl 0 1 (List.map sTerm x))) a2))), (23, (V.fn 59 [] [(Pt 9)]))] rfl rfl <| rs rfl (p_call rfl rfl rfl rfl rfl (slices_ContainsFunc_TermLL_ok k a2 (fun j x0 => (match_conditions_1 j x0 o4)) 59 (eType o4) (fun j x0 => (match_conditions_1_ok j x0 o4))) (.inr (fun _ => rfl))) fun v5 => bind_end rfl) fun o6 => kc rfl rfl (fun hc => ?_) fun hc => ?_
      · rw [hc]
        refine et k_assoc <| kr ⟨[(6, (Pt 6)), (7, (I 110))], [(6, ⟨false, 8, [(eType ({ fName := [], fParent := 0, fMin := 0, fSize := 0, fFields := ([] : List T_api_Field), fKey := 0, fUnique := false, fLast := false } : T_api_Type))]⟩)], 27⟩ rfl <| et k_ret ?_
        rfl
      · rw [hc]
        refine et k_skip <| kr ⟨[(6, (Pt 6)), (7, (I 0))], [(6, vS 8 (eType o4))], 27⟩ rfl <| et k_lret ?_
        rfl
def strings_Repeat_fin : Str → V × List V := fun r => ((Sr r), [])
theorem strings_Repeat_ok (k : Nat) (s : Str) (n : Int) : EV k 55 [(Sr s), (I n)] = (strings_Repeat k s n).map strings_Repeat_fin := by
  cases k with
  | zero => rfl
  | succ k => exact (evF_ext (ext := ext) (f := 55) rfl).trans rfl
def match_sign_fin : Str → V × List V := fun r => ((Sr r), [])
theorem match_sign_ok (k : Nat) (a0 : Int) : EV k 56 [(I a0)] = (match_sign k a0).map match_sign_fin := by
  cases k with
  | zero => rfl
  | succ k =>
    unfold match_sign
    refine et (evF_succ (c := f56c) (N := 7) (regs := f56n) rfl func56 rfl (by decide) rfl rfl rfl) <| kra [] rfl <| kg f56a1 rfl (fun (o2 : Str) => ⟨[(2, (Sr o2))], [], 7⟩) (rd 3 [(3, (eStr ({ e0 := ([61, 32] : Str), e1 := ([60, 62] : Str), e2 := ([60, 32] : Str), e3 := ([60, 61] : Str), e4 := ([62, 32] : Str), e5 := ([62, 61] : Str) } : T_arr6_Str))), (4, (I a0)), (5, (I (Go.IntKind.wrap .i64 (a0 - 1))))] rfl rfl <| rs rfl (p_indexArr (l := ([({ e0 := ([61, 32] : Str), e1 := ([60, 62] : Str), e2 := ([60, 32] : Str), e3 := ([60, 61] : Str), e4 := ([62, 32] : Str), e5 := ([62, 61] : Str) } : T_arr6_Str).e0, ({ e0 := ([61, 32] : Str), e1 := ([60, 62] : Str), e2 := ([60, 32] : Str), e3 := ([60, 61] : Str), e4 := ([62, 32] : Str), e5 := ([62, 61] : Str) } : T_arr6_Str).e1, ({ e0 := ([61, 32] : Str), e1 := ([60, 62] : Str), e2 := ([60, 32] : Str), e3 := ([60, 61] : Str), e4 := ([62, 32] : Str), e5 := ([62, 61] : Str) } : T_arr6_Str).e2, ({ e0 := ([61, 32] : Str), e1 := ([60, 62] : Str), e2 := ([60, 32] : Str), e3 := ([60, 61] : Str), e4 := ([62, 32] : Str), e5 := ([62, 61] : Str) } : T_arr6_Str).e3, ({ e0 := ([61, 32] : Str), e1 := ([60, 62] : Str), e2 := ([60, 32] : Str), e3 := ([60, 61] : Str), e4 := ([62, 32] : Str), e5 := ([62, 61] : Str) } : T_arr6_Str).e4, ({ e0 := ([61, 32] : Str), e1 := ([60, 62] : Str), e2 := ([60, 32] : Str), e3 := ([60, 61] : Str), e4 := ([62, 32] : Str), e5 := ([62, 61] : Str) } : T_arr6_Str).e5] : List Str)) (e := V.str) rfl rfl rfl underlying126 rfl rfl rfl rfl) fun v1 => bind_end rfl) fun o2 => et k_lret ?_
    rfl
def strings_Join_fin : Str → V × List V := fun r => (Sr r, [])
theorem strings_Join_ok (k : Nat) (s : List Str) (n : Str) : EV k 57 [(sS s), (Sr n)] = (strings_Join k s n).map strings_Join_fin := by
  cases k with
  | zero => rfl
  | succ k => exact (evF_ext (ext := ext) (f := 57) rfl).trans (extStrJoin_map s n)
def match_Format_fin : (Str × Int) → V × List V := fun r => (.tup [(Sr r.1), (I r.2)], [])
theorem match_Format_L2_ok (k : Nat) (a0 : T_api_Base) (a1 : Int) (a2 : (List (List T_api_Term))) (x30 : (List Str)) (x31 : Int) (o33 : (List T_api_Term))  (K0 : Int → (List Str) → Option (Str × Int)) (Kst : X × St → Option (V × List V)) (hK0 : ∀ (y0 : Int) (y1 : (List Str)), Kst (X.exit 2, ⟨[(10, (V.sl 1 1 (List.map V.str x30))), (13, (aL 13 V.str y1)), (27, (V.sl 0 1 (List.map sTerm a2))), (28, (I (a2.length : Int))), (29, (I x31)), (33, (sTerm o33)), (34, (I (o33.length : Int))), (35, (I y0)), (36, (Bo false))], [(13, ⟨true, 1, List.map V.str y1⟩)], 66⟩) = (K0 y0 y1).map match_Format_fin) (hret : ∀ s, Kst (X.ret, s) = endK prog 66 [(eBase a0), (I a1), (V.sl 0 1 (List.map sTerm a2))] [] [.tmp 6, .tmp 7] (X.ret, s)) :
    ∀ (m : Nat) (x43 : Int) (x44 : (List Str)), (iter (exec prog (EV k) f28n k f28b0) m ⟨[(10, (V.sl 1 1 (List.map V.str x30))), (13, (aL 13 V.str x44)), (27, (V.sl 0 1 (List.map sTerm a2))), (28, (I (a2.length : Int))), (29, (I x31)), (33, (sTerm o33)), (34, (I (o33.length : Int))), (35, (I x43))], [(13, ⟨true, 1, List.map V.str x44⟩)], 66⟩).bind Kst = (match_Format_L2 k o33 K0 m x43 x44).map match_Format_fin := by
  intro m
  induction m with
  | zero => intros; rfl
  | succ m ih =>
    intro x43 x44
    unfold match_Format_L2
    refine et k_round <| kra [(36, (Bo (decide (x43 < (o33.length : Int)))))] rfl <| kc rfl rfl (fun hc => ?_) fun hc => ?_
    · rw [hc]
      exact et k_skip <| et (k_block rfl) <| kg f28a11 rfl (fun (o46 : T_api_Term) => ⟨[(10, (V.sl 1 1 (List.map V.str x30))), (13, (aL 13 V.str x44)), (15, (Pt 15)), (27, (V.sl 0 1 (List.map sTerm a2))), (28, (I (a2.length : Int))), (29, (I x31)), (33, (sTerm o33)), (34, (I (o33.length : Int))), (35, (I x43))], [(13, ⟨true, 1, List.map V.str x44⟩), (15, vS 3 (eTerm o46))], 66⟩) (rs rfl (p_index (e := eTerm) rfl rfl rfl underlying50 rfl (by decide)) fun v45 => bind_end rfl) fun o46 => kdl f28a12 rfl (fun (o53 : (List Str)) => ⟨[(10, (V.sl 1 1 (List.map V.str x30))), (13, (aL 13 V.str o53)), (27, (V.sl 0 1 (List.map sTerm a2))), (28, (I (a2.length : Int))), (29, (I x31)), (33, (sTerm o33)), (34, (I (o33.length : Int))), (35, (I x43))], [(13, ⟨true, 1, List.map V.str o53⟩)], 66⟩) (et (regionE_regp (p := 17) (dk := true) (t := [(10, (V.sl 1 1 (List.map V.str x30))), (13, (aL 13 V.str x44)), (15, (Pt 15)), (27, (V.sl 0 1 (List.map sTerm a2))), (28, (I (a2.length : Int))), (29, (I x31)), (33, (sTerm o33)), (34, (I (o33.length : Int))), (35, (I x43))]) (σ := [(13, ⟨true, 1, List.map V.str x44⟩), (15, vS 3 (eTerm o46))]) (n := 66) rfl (by decide) (by decide) rfl) <| et (regp_adv (m := 7) (j := 7) (t' := [(10, (V.sl 1 1 (List.map V.str x30))), (13, (aL 13 V.str x44)), (15, (Pt 15)), (27, (V.sl 0 1 (List.map sTerm a2))), (28, (I (a2.length : Int))), (29, (I x31)), (33, (sTerm o33)), (34, (I (o33.length : Int))), (35, (I x43)), (39, (aL 13 V.str x44)), (40, (Pt 15)), (41, (Sr o46.fField)), (42, (Pt 15)), (43, (Sr o46.fField)), (44, (I (o46.fField.length : Int))), (45, (I (Go.IntKind.wrap .i64 (8 - (o46.fField.length : Int)))))]) rfl rfl rfl) <| et (regp_pure (x := (strings_Repeat k ([32] : Str) (Go.IntKind.wrap .i64 (8 - (o46.fField.length : Int))))) (w := fun v47 => (Sr v47)) rfl rfl rfl rfl rfl (p_call rfl rfl rfl rfl rfl (strings_Repeat_ok k ([32] : Str) (Go.IntKind.wrap .i64 (8 - (o46.fField.length : Int)))) (.inl rfl))) <| bindE fun v47 => et (putp_adv (m := 0) (j := 8) (t' := [(10, (V.sl 1 1 (List.map V.str x30))), (13, (aL 13 V.str x44)), (15, (Pt 15)), (27, (V.sl 0 1 (List.map sTerm a2))), (28, (I (a2.length : Int))), (29, (I x31)), (33, (sTerm o33)), (34, (I (o33.length : Int))), (35, (I x43)), (39, (aL 13 V.str x44)), (40, (Pt 15)), (41, (Sr o46.fField)), (42, (Pt 15)), (43, (Sr o46.fField)), (44, (I (o46.fField.length : Int))), (45, (I (Go.IntKind.wrap .i64 (8 - (o46.fField.length : Int))))), (46, (Sr v47))]) rfl rfl rfl) <| et (regp_pure (x := (cat o46.fField v47)) (w := fun v48 => (Sr v48)) rfl rfl rfl rfl rfl (p_cat rfl rfl rfl)) <| bindE fun v48 => et (putp_adv (m := 2) (j := 11) (t' := [(10, (V.sl 1 1 (List.map V.str x30))), (13, (aL 13 V.str x44)), (15, (Pt 15)), (27, (V.sl 0 1 (List.map sTerm a2))), (28, (I (a2.length : Int))), (29, (I x31)), (33, (sTerm o33)), (34, (I (o33.length : Int))), (35, (I x43)), (39, (aL 13 V.str x44)), (40, (Pt 15)), (41, (Sr o46.fField)), (42, (Pt 15)), (43, (Sr o46.fField)), (44, (I (o46.fField.length : Int))), (45, (I (Go.IntKind.wrap .i64 (8 - (o46.fField.length : Int))))), (46, (Sr v47)), (47, (Sr v48)), (48, (V.ptr 15 0 1)), (49, (I o46.fOp))]) rfl rfl rfl) <| et (regp_pure (x := (match_sign k o46.fOp)) (w := fun v49 => (Sr v49)) rfl rfl rfl rfl rfl (p_call rfl rfl rfl rfl rfl (match_sign_ok k o46.fOp) (.inl rfl))) <| bindE fun v49 => et (putp_adv (m := 0) (j := 12) (t' := [(10, (V.sl 1 1 (List.map V.str x30))), (13, (aL 13 V.str x44)), (15, (Pt 15)), (27, (V.sl 0 1 (List.map sTerm a2))), (28, (I (a2.length : Int))), (29, (I x31)), (33, (sTerm o33)), (34, (I (o33.length : Int))), (35, (I x43)), (39, (aL 13 V.str x44)), (40, (Pt 15)), (41, (Sr o46.fField)), (42, (Pt 15)), (43, (Sr o46.fField)), (44, (I (o46.fField.length : Int))), (45, (I (Go.IntKind.wrap .i64 (8 - (o46.fField.length : Int))))), (46, (Sr v47)), (47, (Sr v48)), (48, (V.ptr 15 0 1)), (49, (I o46.fOp)), (50, (Sr v49))]) rfl rfl rfl) <| et (regp_pure (x := (cat v48 v49)) (w := fun v50 => (Sr v50)) rfl rfl rfl rfl rfl (p_cat rfl rfl rfl)) <| bindE fun v50 => et (putp_adv (m := 2) (j := 15) (t' := [(10, (V.sl 1 1 (List.map V.str x30))), (13, (aL 13 V.str x44)), (15, (Pt 15)), (27, (V.sl 0 1 (List.map sTerm a2))), (28, (I (a2.length : Int))), (29, (I x31)), (33, (sTerm o33)), (34, (I (o33.length : Int))), (35, (I x43)), (39, (aL 13 V.str x44)), (40, (Pt 15)), (41, (Sr o46.fField)), (42, (Pt 15)), (43, (Sr o46.fField)), (44, (I (o46.fField.length : Int))), (45, (I (Go.IntKind.wrap .i64 (8 - (o46.fField.length : Int))))), (46, (Sr v47)), (47, (Sr v48)), (48, (V.ptr 15 0 1)), (49, (I o46.fOp)), (50, (Sr v49)), (51, (Sr v50)), (52, (V.ptr 15 0 2)), (53, (Sr o46.fValue))]) rfl rfl rfl) <| et (regp_pure (x := (cat v50 o46.fValue)) (w := fun v51 => (Sr v51)) rfl rfl rfl rfl rfl (p_cat rfl rfl rfl)) <| bindE fun v51 => et (regp_reg (m := 0) (j := 17) (st' := ⟨[(10, (V.sl 1 1 (List.map V.str x30))), (13, (aL 13 V.str x44)), (15, (Pt 15)), (27, (V.sl 0 1 (List.map sTerm a2))), (28, (I (a2.length : Int))), (29, (I x31)), (33, (sTerm o33)), (34, (I (o33.length : Int))), (35, (I x43)), (39, (aL 13 V.str x44)), (40, (Pt 15)), (41, (Sr o46.fField)), (42, (Pt 15)), (43, (Sr o46.fField)), (44, (I (o46.fField.length : Int))), (45, (I (Go.IntKind.wrap .i64 (8 - (o46.fField.length : Int))))), (46, (Sr v47)), (47, (Sr v48)), (48, (V.ptr 15 0 1)), (49, (I o46.fOp)), (50, (Sr v49)), (51, (Sr v50)), (52, (V.ptr 15 0 2)), (53, (Sr o46.fValue)), (54, (Sr v51)), (55, (sS (([v51] : List Str))))], [(13, ⟨true, 1, List.map V.str x44⟩), (15, vS 3 (eTerm o46))], 66⟩) rfl rfl rfl) <| et (reg_eff (x := (app x44 ([v51] : List Str))) (w := fun v52 => ((aL 13 V.str v52), _)) rfl rfl rfl rfl (p_appF (e := V.str) (l := x44) rfl rfl rfl rfl rfl rfl rfl rfl rfl rfl rfl (of_decide_eq_true rfl))) <| bind_self fun v52 => bind_end rfl) fun o53 => et blk_normal <| kl ⟨[(10, (V.sl 1 1 (List.map V.str x30))), (13, (aL 13 V.str o53)), (27, (V.sl 0 1 (List.map sTerm a2))), (28, (I (a2.length : Int))), (29, (I x31)), (33, (sTerm o33)), (34, (I (o33.length : Int))), (35, (I (Go.IntKind.wrap .i64 (x43 + 1))))], [(13, ⟨true, 1, List.map V.str o53⟩)], 66⟩ rfl <| et loop_normal <| ih (Go.IntKind.wrap .i64 (x43 + 1)) o53
    · rw [hc]
      exact et k_exit <| et loop_exit <| hK0 x43 x44
theorem match_Format_L1_ok (k : Nat) (a0 : T_api_Base) (a1 : Int) (a2 : (List (List T_api_Term)))  (K0 : (List Str) → Int → Option (Str × Int)) (Kst : X × St → Option (V × List V)) (hK0 : ∀ (y0 : (List Str)) (y1 : Int), Kst (X.exit 0, ⟨[(10, (V.sl 1 1 (List.map V.str y0))), (27, (V.sl 0 1 (List.map sTerm a2))), (28, (I (a2.length : Int))), (29, (I y1)), (30, (Bo false))], [], 66⟩) = (K0 y0 y1).map match_Format_fin) (hret : ∀ s, Kst (X.ret, s) = endK prog 66 [(eBase a0), (I a1), (V.sl 0 1 (List.map sTerm a2))] [] [.tmp 6, .tmp 7] (X.ret, s)) :
    ∀ (m : Nat) (x30 : (List Str)) (x31 : Int), (iter (exec prog (EV k) f28n k f28b1) m ⟨[(10, (V.sl 1 1 (List.map V.str x30))), (27, (V.sl 0 1 (List.map sTerm a2))), (28, (I (a2.length : Int))), (29, (I x31))], [], 66⟩).bind Kst = (match_Format_L1 k a2 K0 m x30 x31).map match_Format_fin := by
  intro m
  induction m with
  | zero => intros; rfl
  | succ m ih =>
    intro x30 x31
    unfold match_Format_L1
    refine et k_round <| kra [(30, (Bo (decide (x31 < (a2.length : Int)))))] rfl <| kc rfl rfl (fun hc => ?_) fun hc => ?_
    · rw [hc]
      refine et k_skip <| et (k_block rfl) <| kg f28a7 rfl (fun (o33 : (List T_api_Term)) => ⟨[(10, (V.sl 1 1 (List.map V.str x30))), (12, (sTerm o33)), (27, (V.sl 0 1 (List.map sTerm a2))), (28, (I (a2.length : Int))), (29, (I x31))], [], 66⟩) (rs rfl (p_index (e := sTerm) rfl rfl rfl underlying26 rfl (by decide)) fun v32 => bind_end rfl) fun o33 => kr ⟨[(10, (V.sl 1 1 (List.map V.str x30))), (12, (sTerm o33)), (13, (aL 13 V.str ([] : List Str))), (27, (V.sl 0 1 (List.map sTerm a2))), (28, (I (a2.length : Int))), (29, (I x31))], [(13, ⟨true, 1, List.map V.str ([] : List Str)⟩)], 66⟩ rfl <| et k_assoc <| krp f28a9 rfl ⟨[(10, (V.sl 1 1 (List.map V.str x30))), (13, (aL 13 V.str ([] : List Str))), (27, (V.sl 0 1 (List.map sTerm a2))), (28, (I (a2.length : Int))), (29, (I x31)), (33, (sTerm o33)), (34, (I (o33.length : Int))), (35, (I 0))], [(13, ⟨true, 1, List.map V.str ([] : List Str)⟩)], 66⟩ ?_ ?_
      · exact rd 1 [(33, (sTerm o33))] rfl rfl <| rl rfl (p_len (e := eTerm) rfl rfl rfl rfl rfl rfl underlying50) <| bind_end rfl
      refine et (k_block rfl) <| et k_loop ?_
      refine match_Format_L2_ok k a0 a1 a2 x30 x31 o33 _ _ ?h_match_Format_L2_0 ?hr_match_Format_L2 k 0 ([] : List Str)
      · intro y54 y55
        exact et blk_exit <| kgl f28a14 rfl (fun (o58 : (List Str)) => ⟨[(10, (V.sl 1 1 (List.map V.str o58))), (27, (V.sl 0 1 (List.map sTerm a2))), (28, (I (a2.length : Int))), (29, (I x31))], [], 66⟩) (ra 2 2 ⟨[(10, (sS x30)), (13, (aL 13 V.str y55)), (27, (V.sl 0 1 (List.map sTerm a2))), (28, (I (a2.length : Int))), (29, (I x31)), (33, (sTerm o33)), (34, (I (o33.length : Int))), (35, (I y54)), (36, (Bo false)), (58, (V.sl 1 1 (List.map V.str x30))), (59, (aL 13 V.str y55))], [(13, ⟨true, 1, List.map V.str y55⟩)], 66⟩ rfl rfl rfl <| rp rfl (p_call rfl rfl rfl rfl (argsL (lendA (e := V.str) rfl) (by intro s i q h; cases h) (argsL rfl (by intro s i q h; cases h) rfl)) (strings_Join_ok k y55 ([38] : Str)) (.inr (fun _ => rfl))) fun v56 => bd 4 [(60, (Sr v56)), (61, (sS (([v56] : List Str))))] rfl rfl <| et (reg_eff (x := (app x30 ([v56] : List Str))) (w := fun v57 => ((V.sl 1 1 (List.map V.str v57)), _)) rfl rfl rfl rfl (p_app (e := V.str) rfl rfl rfl rfl rfl rfl rfl rfl rfl rfl (by decide))) <| bind_self fun v57 => bind_end rfl) fun o58 => et blk_normal <| kl ⟨[(10, (V.sl 1 1 (List.map V.str o58))), (27, (V.sl 0 1 (List.map sTerm a2))), (28, (I (a2.length : Int))), (29, (I (Go.IntKind.wrap .i64 (x31 + 1))))], [], 66⟩ rfl <| et loop_normal <| ih o58 (Go.IntKind.wrap .i64 (x31 + 1))
      · intro s; exact hret s
    · rw [hc]
      exact et k_exit <| et loop_exit <| hK0 x30 x31
theorem match_Format_ok (k : Nat) (a0 : T_api_Base) (a1 : Int) (a2 : (List (List T_api_Term))) : EV k 28 [(eBase a0), (I a1), (V.sl 0 1 (List.map sTerm a2))] = (match_Format k a0 a1 a2).map match_Format_fin := by
  cases k with
  | zero => rfl
  | succ k =>
    unfold match_Format
    refine et (evF_succ (c := f28c) (N := 66) (regs := f28n) rfl func28 rfl (by decide) rfl rfl rfl) <| kr ⟨[(1, (I a1)), (2, (V.sl 0 1 (List.map sTerm a2))), (3, (Pt 3))], [(3, vS 4 (eBase a0))], 66⟩ rfl <| et k_assoc <| kg f28a1 rfl (fun (o2 : Int) => ⟨[(2, (V.sl 0 1 (List.map sTerm a2))), (9, (I o2))], [], 66⟩) (rd 4 [(17, (eBase a0)), (18, (I a1)), (19, (V.sl 0 1 (List.map sTerm a2))), (20, (V.sl 0 1 (List.map (fun x => (V.sl 0 1 (List.map sTerm x))) ([a2] : List (List (List T_api_Term))))))] rfl rfl <| rp rfl (p_call rfl rfl rfl rfl rfl (match_conditions_ok k a0 a1 ([a2] : List (List (List T_api_Term)))) (.inl rfl)) fun v1 => bind_end rfl) fun o2 => et k_assoc <| kra [(25, (Bo (o2 != 0)))] rfl <| kc rfl rfl (fun hc => ?_) fun hc => ?_
    · rw [hc]
      refine et k_assoc <| kr ⟨[(6, (Sr ([] : Str))), (7, (I o2))], [], 66⟩ rfl <| et k_ret ?_
      rfl
    · rw [hc]
      refine et k_skip <| kr ⟨[(2, (V.sl 0 1 (List.map sTerm a2))), (10, (V.sl 1 1 (List.map V.str ([] : List Str))))], [], 66⟩ rfl <| et k_assoc <| krp f28a5 rfl ⟨[(10, (V.sl 1 1 (List.map V.str ([] : List Str)))), (27, (V.sl 0 1 (List.map sTerm a2))), (28, (I (a2.length : Int))), (29, (I 0))], [], 66⟩ ?_ ?_
      · exact rd 1 [(27, (V.sl 0 1 (List.map sTerm a2)))] rfl rfl <| rl rfl (p_len (e := sTerm) rfl rfl rfl rfl rfl rfl underlying26) <| bind_end rfl
      refine et (k_block rfl) <| et k_loop ?_
      refine match_Format_L1_ok k a0 a1 a2 _ _ ?h_match_Format_L1_0 ?hr_match_Format_L1 k ([] : List Str) 0
      · intro y59 y60
        refine et blk_exit <| kg f28a16 rfl (fun (o62 : Str × Int) => ⟨[(6, (Sr o62.1)), (7, (I o62.2))], [], 66⟩) (rd 1 [(64, (sS y59))] rfl rfl <| rp rfl (p_call rfl rfl rfl rfl rfl (strings_Join_ok k y59 ([124] : Str)) (.inl rfl)) fun v61 => bind_end rfl) fun o62 => et k_lret ?_
        rfl
      · intro s; exact rfl
def match_span_fin : (Str × Str) → V × List V := fun r => (.tup [(Sr r.1), (Sr r.2)], [])
theorem match_span_L1_ok (k : Nat) (a0 : Str) (a1 : Int) (a2 : (List T_api_Term))  (K0 : Str → Str → Int → Option (Str × Str)) (Kst : X × St → Option (V × List V)) (hK0 : ∀ (y0 : Str) (y1 : Str) (y2 : Int), Kst (X.exit 0, ⟨[(0, (Sr a0)), (6, (Sr y0)), (7, (Sr y1)), (12, (sTerm a2)), (13, (I (a2.length : Int))), (14, (I y2)), (15, (Bo false))], [], 59⟩) = (K0 y0 y1 y2).map match_span_fin) (hret : ∀ s, Kst (X.ret, s) = endK prog 59 [(Sr a0), (I a1), (sTerm a2)] [] [.tmp 6, .tmp 7] (X.ret, s)) :
    ∀ (m : Nat) (x8 : Int) (x9 : Str) (x10 : Str), (iter (exec prog (EV k) f30n k f30b0) m ⟨[(0, (Sr a0)), (6, (Sr x9)), (7, (Sr x10)), (12, (sTerm a2)), (13, (I (a2.length : Int))), (14, (I x8))], [], 59⟩).bind Kst = (match_span_L1 a0 a2 K0 m x8 x9 x10).map match_span_fin := by
  intro m
  induction m with
  | zero => intros; rfl
  | succ m ih =>
    intro x8 x9 x10
    unfold match_span_L1
    refine et k_round <| kra [(15, (Bo (decide (x8 < (a2.length : Int)))))] rfl <| kc rfl rfl (fun hc => ?_) fun hc => ?_
    · rw [hc]
      refine et k_skip <| et (k_block rfl) <| kg f30a4 rfl (fun (o12 : T_api_Term) => ⟨[(0, (Sr a0)), (6, (Sr x9)), (7, (Sr x10)), (9, (Pt 9)), (12, (sTerm a2)), (13, (I (a2.length : Int))), (14, (I x8))], [(9, vS 3 (eTerm o12))], 59⟩) (rs rfl (p_index (e := eTerm) rfl rfl rfl underlying50 rfl (by decide)) fun v11 => bind_end rfl) fun o12 => et k_assoc <| kra [(21, (Bo (!(o12.fField == a0))))] rfl <| kc rfl rfl (fun hc => ?_) fun hc => ?_
      · rw [hc]
        exact et k_exit <| et blk_exit <| kl ⟨[(0, (Sr a0)), (6, (Sr x9)), (7, (Sr x10)), (12, (sTerm a2)), (13, (I (a2.length : Int))), (14, (I (Go.IntKind.wrap .i64 (x8 + 1))))], [], 59⟩ rfl <| et loop_normal <| ih (Go.IntKind.wrap .i64 (x8 + 1)) x9 x10
      · rw [hc]
        refine et k_skip <| et k_assoc <| kg f30a6 rfl (fun (o13 : Bool) => ⟨[(0, (Sr a0)), (6, (Sr x9)), (7, (Sr x10)), (9, (Pt 9)), (12, (sTerm a2)), (13, (I (a2.length : Int))), (14, (I x8)), (34, (Bo o13))], [(9, vS 3 (eTerm o12))], 59⟩) ?_ fun o13 => ?_
        · refine rd 4 [(22, (V.ptr 9 0 1)), (23, (I o12.fOp)), (24, (Bo (o12.fOp == 1))), (25, (Bo (o12.fOp == 1)))] rfl rfl <| bifE (fun hc => ?_) fun hc => ?_
          · rw [hc]
            exact reg_end rfl
          · rw [hc]
            refine rd 9 [(26, (V.ptr 9 0 1)), (27, (I o12.fOp)), (28, (Bo (o12.fOp == 5))), (29, (Bo (o12.fOp == 5))), (30, (Bo (o12.fOp == 5)))] rfl rfl <| bifE (fun hc => ?_) fun hc => ?_
            · rw [hc]
              exact reg_end rfl
            · rw [hc]
              exact reg_end rfl
        refine kc rfl rfl (fun hc => ?_) fun hc => ?_
        · rw [hc]
          refine kr ⟨[(0, (Sr a0)), (6, (Sr (Go.AE.maxS x9 o12.fValue))), (7, (Sr x10)), (9, (Pt 9)), (12, (sTerm a2)), (13, (I (a2.length : Int))), (14, (I x8))], [(9, vS 3 (eTerm o12))], 59⟩ rfl <| kga f30a8 rfl (fun (o14 : Bool) => [(51, (Bo o14))]) ?_ fun o14 => ?_
          · refine rd 4 [(39, (V.ptr 9 0 1)), (40, (I o12.fOp)), (41, (Bo (o12.fOp == 1))), (42, (Bo (o12.fOp == 1)))] rfl rfl <| bifE (fun hc => ?_) fun hc => ?_
            · rw [hc]
              exact reg_end rfl
            · rw [hc]
              refine rd 9 [(43, (V.ptr 9 0 1)), (44, (I o12.fOp)), (45, (Bo (o12.fOp == 3))), (46, (Bo (o12.fOp == 3))), (47, (Bo (o12.fOp == 3)))] rfl rfl <| bifE (fun hc => ?_) fun hc => ?_
              · rw [hc]
                exact reg_end rfl
              · rw [hc]
                exact reg_end rfl
          refine kcl rfl rfl (fun hc => ?_) fun hc => ?_
          · rw [hc]
            exact kl ⟨[(0, (Sr a0)), (6, (Sr (Go.AE.maxS x9 o12.fValue))), (7, (Sr (Go.AE.minS x10 o12.fValue))), (12, (sTerm a2)), (13, (I (a2.length : Int))), (14, (I x8))], [], 59⟩ rfl <| et blk_normal <| kl ⟨[(0, (Sr a0)), (6, (Sr (Go.AE.maxS x9 o12.fValue))), (7, (Sr (Go.AE.minS x10 o12.fValue))), (12, (sTerm a2)), (13, (I (a2.length : Int))), (14, (I (Go.IntKind.wrap .i64 (x8 + 1))))], [], 59⟩ rfl <| et loop_normal <| ih (Go.IntKind.wrap .i64 (x8 + 1)) (Go.AE.maxS x9 o12.fValue) (Go.AE.minS x10 o12.fValue)
          · rw [hc]
            exact et k_lskip <| et blk_normal <| kl ⟨[(0, (Sr a0)), (6, (Sr (Go.AE.maxS x9 o12.fValue))), (7, (Sr x10)), (12, (sTerm a2)), (13, (I (a2.length : Int))), (14, (I (Go.IntKind.wrap .i64 (x8 + 1))))], [], 59⟩ rfl <| et loop_normal <| ih (Go.IntKind.wrap .i64 (x8 + 1)) (Go.AE.maxS x9 o12.fValue) x10
        · rw [hc]
          refine et k_skip <| kg f30a8 rfl (fun (o15 : Bool) => ⟨[(0, (Sr a0)), (6, (Sr x9)), (7, (Sr x10)), (9, (Pt 9)), (12, (sTerm a2)), (13, (I (a2.length : Int))), (14, (I x8)), (51, (Bo o15))], [(9, vS 3 (eTerm o12))], 59⟩) ?_ fun o15 => ?_
          · refine rd 4 [(39, (V.ptr 9 0 1)), (40, (I o12.fOp)), (41, (Bo (o12.fOp == 1))), (42, (Bo (o12.fOp == 1)))] rfl rfl <| bifE (fun hc => ?_) fun hc => ?_
            · rw [hc]
              exact reg_end rfl
            · rw [hc]
              refine rd 9 [(43, (V.ptr 9 0 1)), (44, (I o12.fOp)), (45, (Bo (o12.fOp == 3))), (46, (Bo (o12.fOp == 3))), (47, (Bo (o12.fOp == 3)))] rfl rfl <| bifE (fun hc => ?_) fun hc => ?_
              · rw [hc]
                exact reg_end rfl
              · rw [hc]
                exact reg_end rfl
          refine kcl rfl rfl (fun hc => ?_) fun hc => ?_
          · rw [hc]
            exact kl ⟨[(0, (Sr a0)), (6, (Sr x9)), (7, (Sr (Go.AE.minS x10 o12.fValue))), (12, (sTerm a2)), (13, (I (a2.length : Int))), (14, (I x8))], [], 59⟩ rfl <| et blk_normal <| kl ⟨[(0, (Sr a0)), (6, (Sr x9)), (7, (Sr (Go.AE.minS x10 o12.fValue))), (12, (sTerm a2)), (13, (I (a2.length : Int))), (14, (I (Go.IntKind.wrap .i64 (x8 + 1))))], [], 59⟩ rfl <| et loop_normal <| ih (Go.IntKind.wrap .i64 (x8 + 1)) x9 (Go.AE.minS x10 o12.fValue)
          · rw [hc]
            exact et k_lskip <| et blk_normal <| kl ⟨[(0, (Sr a0)), (6, (Sr x9)), (7, (Sr x10)), (12, (sTerm a2)), (13, (I (a2.length : Int))), (14, (I (Go.IntKind.wrap .i64 (x8 + 1))))], [], 59⟩ rfl <| et loop_normal <| ih (Go.IntKind.wrap .i64 (x8 + 1)) x9 x10
    · rw [hc]
      exact et k_exit <| et loop_exit <| hK0 x9 x10 x8
theorem match_span_ok (k : Nat) (a0 : Str) (a1 : Int) (a2 : (List T_api_Term)) : EV k 30 [(Sr a0), (I a1), (sTerm a2)] = (match_span k a0 a1 a2).map match_span_fin := by
  cases k with
  | zero => rfl
  | succ k =>
    unfold match_span
    refine et (evF_succ (c := f30c) (N := 59) (regs := f30n) rfl func30 rfl (by decide) rfl rfl rfl) <| kra [(6, (Sr ([] : Str)))] rfl <| kg f30a1 rfl (fun (o2 : Str) => ⟨[(0, (Sr a0)), (2, (sTerm a2)), (6, (Sr ([] : Str))), (7, (Sr o2))], [], 59⟩) (rd 1 [(10, (I a1))] rfl rfl <| rs rfl (p_call rfl rfl rfl rfl rfl (strings_Repeat_ok k ([255] : Str) a1) (.inl rfl)) fun v1 => bind_end rfl) fun o2 => et k_assoc <| krp f30a2 rfl ⟨[(0, (Sr a0)), (6, (Sr ([] : Str))), (7, (Sr o2)), (12, (sTerm a2)), (13, (I (a2.length : Int))), (14, (I 0))], [], 59⟩ ?_ ?_
    · exact rd 1 [(12, (sTerm a2))] rfl rfl <| rl rfl (p_len (e := eTerm) rfl rfl rfl rfl rfl rfl underlying50) <| bind_end rfl
    refine et (k_block rfl) <| et k_loop ?_
    refine match_span_L1_ok k a0 a1 a2 _ _ ?h_match_span_L1_0 ?hr_match_span_L1 k 0 ([] : Str) o2
    · intro y16 y17 y18
      refine et blk_exit <| kr ⟨[(6, (Sr y16)), (7, (Sr y17))], [], 59⟩ rfl <| et k_lret ?_
      rfl
    · intro s; exact rfl
def match_Range_fin : (Str × Str × Int) → V × List V := fun r => (.tup [(Sr r.1), (Sr r.2.1), (I r.2.2)], [])
theorem match_Range_L1_ok (k : Nat) (a0 : T_api_Base) (a1 : Int) (a2 : (List (List T_api_Term))) (o4 : T_api_Field)  (K0 : Str → Str → Int → Option (Str × Str × Int)) (Kst : X × St → Option (V × List V)) (hK0 : ∀ (y0 : Str) (y1 : Str) (y2 : Int), Kst (X.exit 1, ⟨[(2, (V.sl 0 1 (List.map sTerm a2))), (6, (Sr y0)), (7, (Sr y1)), (11, (Pt 11)), (38, (V.sl 0 1 (List.map sTerm a2))), (39, (I (a2.length : Int))), (40, (I y2)), (41, (Bo false))], [(11, vS 3 (eField o4))], 78⟩) = (K0 y0 y1 y2).map match_Range_fin) (hret : ∀ s, Kst (X.ret, s) = endK prog 78 [(eBase a0), (I a1), (V.sl 0 1 (List.map sTerm a2))] [] [.tmp 6, .tmp 7, .tmp 8] (X.ret, s)) :
    ∀ (m : Nat) (x9 : Str) (x10 : Str) (x11 : Int), (iter (exec prog (EV k) f11n k f11b0) m ⟨[(2, (V.sl 0 1 (List.map sTerm a2))), (6, (Sr x9)), (7, (Sr x10)), (11, (Pt 11)), (38, (V.sl 0 1 (List.map sTerm a2))), (39, (I (a2.length : Int))), (40, (I x11))], [(11, vS 3 (eField o4))], 78⟩).bind Kst = (match_Range_L1 k a2 o4 K0 m x9 x10 x11).map match_Range_fin := by
  intro m
  induction m with
  | zero => intros; rfl
  | succ m ih =>
    intro x9 x10 x11
    unfold match_Range_L1
    refine et k_round <| kra [(41, (Bo (decide (x11 < (a2.length : Int)))))] rfl <| kc rfl rfl (fun hc => ?_) fun hc => ?_
    · rw [hc]
      refine et k_skip <| et (k_block rfl) <| kg f11a9 rfl (fun (o13 : Int × (List T_api_Term)) => ⟨[(2, (V.sl 0 1 (List.map sTerm a2))), (6, (Sr x9)), (7, (Sr x10)), (11, (Pt 11)), (12, (I o13.1)), (13, (sTerm o13.2)), (38, (V.sl 0 1 (List.map sTerm a2))), (39, (I (a2.length : Int))), (40, (I x11))], [(11, vS 3 (eField o4))], 78⟩) (rd 1 [(42, (I x11))] rfl rfl <| rp rfl (p_index (e := sTerm) rfl rfl rfl underlying26 rfl (by decide)) fun v12 => bind_end rfl) fun o13 => kg f11a10 rfl (fun (o15 : Str × Str) => ⟨[(2, (V.sl 0 1 (List.map sTerm a2))), (6, (Sr x9)), (7, (Sr x10)), (11, (Pt 11)), (12, (I o13.1)), (14, (Sr o15.1)), (15, (Sr o15.2)), (38, (V.sl 0 1 (List.map sTerm a2))), (39, (I (a2.length : Int))), (40, (I x11))], [(11, vS 3 (eField o4))], 78⟩) (rd 5 [(46, (Pt 11)), (47, (Sr o4.fName)), (48, (V.ptr 11 0 2)), (49, (I o4.fBytes)), (50, (sTerm o13.2))] rfl rfl <| rp rfl (p_call rfl rfl rfl rfl rfl (match_span_ok k o4.fName o4.fBytes o13.2) (.inl rfl)) fun v14 => bind_end rfl) fun o15 => et k_assoc <| kr ⟨[(2, (V.sl 0 1 (List.map sTerm a2))), (6, (Sr x9)), (7, (Sr x10)), (11, (Pt 11)), (14, (Sr o15.1)), (15, (Sr o15.2)), (38, (V.sl 0 1 (List.map sTerm a2))), (39, (I (a2.length : Int))), (40, (I x11)), (55, (Bo (o13.1 == 0)))], [(11, vS 3 (eField o4))], 78⟩ rfl <| kc rfl rfl (fun hc => ?_) fun hc => ?_
      · rw [hc]
        exact kr ⟨[(2, (V.sl 0 1 (List.map sTerm a2))), (6, (Sr o15.1)), (7, (Sr o15.2)), (11, (Pt 11)), (14, (Sr o15.1)), (15, (Sr o15.2)), (38, (V.sl 0 1 (List.map sTerm a2))), (39, (I (a2.length : Int))), (40, (I x11))], [(11, vS 3 (eField o4))], 78⟩ rfl <| kl ⟨[(2, (V.sl 0 1 (List.map sTerm a2))), (6, (Sr (Go.AE.minS o15.1 o15.1))), (7, (Sr (Go.AE.maxS o15.2 o15.2))), (11, (Pt 11)), (38, (V.sl 0 1 (List.map sTerm a2))), (39, (I (a2.length : Int))), (40, (I x11))], [(11, vS 3 (eField o4))], 78⟩ rfl <| et blk_normal <| kl ⟨[(2, (V.sl 0 1 (List.map sTerm a2))), (6, (Sr (Go.AE.minS o15.1 o15.1))), (7, (Sr (Go.AE.maxS o15.2 o15.2))), (11, (Pt 11)), (38, (V.sl 0 1 (List.map sTerm a2))), (39, (I (a2.length : Int))), (40, (I (Go.IntKind.wrap .i64 (x11 + 1))))], [(11, vS 3 (eField o4))], 78⟩ rfl <| et loop_normal <| ih (Go.AE.minS o15.1 o15.1) (Go.AE.maxS o15.2 o15.2) (Go.IntKind.wrap .i64 (x11 + 1))
      · rw [hc]
        exact et k_skip <| kl ⟨[(2, (V.sl 0 1 (List.map sTerm a2))), (6, (Sr (Go.AE.minS x9 o15.1))), (7, (Sr (Go.AE.maxS x10 o15.2))), (11, (Pt 11)), (38, (V.sl 0 1 (List.map sTerm a2))), (39, (I (a2.length : Int))), (40, (I x11))], [(11, vS 3 (eField o4))], 78⟩ rfl <| et blk_normal <| kl ⟨[(2, (V.sl 0 1 (List.map sTerm a2))), (6, (Sr (Go.AE.minS x9 o15.1))), (7, (Sr (Go.AE.maxS x10 o15.2))), (11, (Pt 11)), (38, (V.sl 0 1 (List.map sTerm a2))), (39, (I (a2.length : Int))), (40, (I (Go.IntKind.wrap .i64 (x11 + 1))))], [(11, vS 3 (eField o4))], 78⟩ rfl <| et loop_normal <| ih (Go.AE.minS x9 o15.1) (Go.AE.maxS x10 o15.2) (Go.IntKind.wrap .i64 (x11 + 1))
    · rw [hc]
      exact et k_exit <| et loop_exit <| hK0 x9 x10 x11
theorem match_Range_ok (k : Nat) (a0 : T_api_Base) (a1 : Int) (a2 : (List (List T_api_Term))) : EV k 11 [(eBase a0), (I a1), (V.sl 0 1 (List.map sTerm a2))] = (match_Range k a0 a1 a2).map match_Range_fin := by
  cases k with
  | zero => rfl
  | succ k =>
    unfold match_Range
    refine et (evF_succ (c := f11c) (N := 78) (regs := f11n) rfl func11 rfl (by decide) rfl rfl rfl) <| kr ⟨[(1, (I a1)), (2, (V.sl 0 1 (List.map sTerm a2))), (3, (Pt 3)), (6, (Sr ([] : Str))), (7, (Sr ([] : Str)))], [(3, vS 4 (eBase a0))], 78⟩ rfl <| kg f11a1 rfl (fun (o2 : Int × T_api_Type) => ⟨[(2, (V.sl 0 1 (List.map sTerm a2))), (6, (Sr ([] : Str))), (7, (Sr ([] : Str))), (9, (Pt 9)), (10, (I o2.1))], [(9, vS 8 (eType o2.2))], 78⟩) (rd 4 [(17, (eBase a0)), (18, (I a1)), (19, (V.sl 0 1 (List.map sTerm a2))), (20, (V.sl 0 1 (List.map (fun x => (V.sl 0 1 (List.map sTerm x))) ([a2] : List (List (List T_api_Term))))))] rfl rfl <| rp rfl (p_call rfl rfl rfl rfl rfl (match_conditions_ok k a0 a1 ([a2] : List (List (List T_api_Term)))) (.inl rfl)) fun v1 => bind_end rfl) fun o2 => et (k_block rfl) <| kra [(24, (Bo (o2.1 != 0)))] rfl <| kcl rfl rfl (fun hc => ?_) fun hc => ?_
    · rw [hc]
      refine kr ⟨[(6, (Sr ([] : Str))), (7, (Sr ([] : Str))), (8, (I o2.1))], [], 78⟩ rfl <| et k_lret <| et blk_ret ?_
      rfl
    · rw [hc]
      refine kr ⟨[(2, (V.sl 0 1 (List.map sTerm a2))), (6, (Sr ([] : Str))), (7, (Sr ([] : Str))), (9, (Pt 9)), (28, (Bo (decide (o2.2.fKey < 0))))], [(9, vS 8 (eType o2.2))], 78⟩ rfl <| kcl rfl rfl (fun hc => ?_) fun hc => ?_
      · rw [hc]
        refine kr ⟨[(6, (Sr ([] : Str))), (7, (Sr ([] : Str))), (8, (I 5))], [], 78⟩ rfl <| et k_lret <| et blk_ret ?_
        rfl
      · rw [hc]
        refine et k_lskip <| et blk_normal <| kg f11a6 rfl (fun (o4 : T_api_Field) => ⟨[(2, (V.sl 0 1 (List.map sTerm a2))), (6, (Sr ([] : Str))), (7, (Sr ([] : Str))), (11, (Pt 11))], [(11, vS 3 (eField o4))], 78⟩) (rd 4 [(32, (V.ptr 9 0 4)), (33, (sField o2.2.fFields)), (34, (V.ptr 9 0 5)), (35, (I o2.2.fKey))] rfl rfl <| rs rfl (p_index (e := eField) rfl rfl rfl underlying43 rfl (by decide)) fun v3 => bind_end rfl) fun o4 => et k_assoc <| krp f11a7 rfl ⟨[(2, (V.sl 0 1 (List.map sTerm a2))), (6, (Sr ([] : Str))), (7, (Sr ([] : Str))), (11, (Pt 11)), (38, (V.sl 0 1 (List.map sTerm a2))), (39, (I (a2.length : Int))), (40, (I 0))], [(11, vS 3 (eField o4))], 78⟩ ?_ ?_
        · exact rd 1 [(38, (V.sl 0 1 (List.map sTerm a2)))] rfl rfl <| rl rfl (p_len (e := sTerm) rfl rfl rfl rfl rfl rfl underlying26) <| bind_end rfl
        refine et (k_block rfl) <| et k_loop ?_
        refine match_Range_L1_ok k a0 a1 a2 o4 _ _ ?h_match_Range_L1_0 ?hr_match_Range_L1 k ([] : Str) ([] : Str) 0
        · intro y16 y17 y18
          refine et blk_exit <| et k_assoc <| krp f11a15 rfl ⟨[(6, (Sr y16)), (7, (Sr y17)), (11, (Pt 11)), (67, (Bo ((a2.length : Int) == 0)))], [(11, vS 3 (eField o4))], 78⟩ ?_ ?_
          · exact rd 1 [(65, (V.sl 0 1 (List.map sTerm a2)))] rfl rfl <| rl rfl (p_len (e := sTerm) rfl rfl rfl rfl rfl rfl underlying26) <| bind_end rfl
          refine kc rfl rfl (fun hc => ?_) fun hc => ?_
          · rw [hc]
            refine kg f11a16 rfl (fun (o20 : Str × Str) => ⟨[(6, (Sr o20.1)), (7, (Sr o20.2))], [], 78⟩) (rd 4 [(69, (Pt 11)), (70, (Sr o4.fName)), (71, (V.ptr 11 0 2)), (72, (I o4.fBytes))] rfl rfl <| rp rfl (p_call rfl rfl rfl rfl rfl (match_span_ok k o4.fName o4.fBytes ([] : List T_api_Term)) (.inl rfl)) fun v19 => bind_end rfl) fun o20 => kra [(8, (I 0))] rfl <| et k_lret ?_
            rfl
          · rw [hc]
            refine et k_skip <| kr ⟨[(6, (Sr y16)), (7, (Sr y17)), (8, (I 0))], [], 78⟩ rfl <| et k_lret ?_
            rfl
        · intro s; exact rfl
def law12_Awake_fin : Bool → V × List V := fun r => ((Bo r), [])
theorem law12_Awake_ok (k : Nat)  : EV k 10 [] = (law12_Awake k).map law12_Awake_fin := by
  cases k with
  | zero => rfl
  | succ k =>
    unfold law12_Awake
    refine et (evF_succ (c := f10c) (N := 42) (regs := f10n) rfl func10 rfl (by decide) rfl rfl rfl) <| kra [] rfl <| kra [(1, (V.sl 0 1 (List.map sTerm ([([({ fField := ([67, 85, 83, 84, 78, 79] : Str), fOp := 6, fValue := ([48, 49, 48, 48] : Str) } : T_api_Term), ({ fField := ([67, 85, 83, 84, 78, 79] : Str), fOp := 4, fValue := ([48, 49, 57, 57] : Str) } : T_api_Term)] : List T_api_Term)] : List (List T_api_Term)))))] rfl <| kga f10a2 rfl (fun (o3 : Str × Int) => [(2, (Sr o3.1)), (3, (I o3.2))]) (rp rfl (p_call rfl rfl rfl rfl rfl (law12_shop_ok k) (.inl rfl)) fun v1 => bd 2 [(12, (eBase v1)), (13, (V.sl 0 1 (List.map sTerm ([([({ fField := ([67, 85, 83, 84, 78, 79] : Str), fOp := 6, fValue := ([48, 49, 48, 48] : Str) } : T_api_Term), ({ fField := ([67, 85, 83, 84, 78, 79] : Str), fOp := 4, fValue := ([48, 49, 57, 57] : Str) } : T_api_Term)] : List T_api_Term)] : List (List T_api_Term)))))] rfl rfl <| rp rfl (p_call rfl rfl rfl rfl rfl (match_Format_ok k v1 0 ([([({ fField := ([67, 85, 83, 84, 78, 79] : Str), fOp := 6, fValue := ([48, 49, 48, 48] : Str) } : T_api_Term), ({ fField := ([67, 85, 83, 84, 78, 79] : Str), fOp := 4, fValue := ([48, 49, 57, 57] : Str) } : T_api_Term)] : List T_api_Term)] : List (List T_api_Term))) (.inl rfl)) fun v2 => bind_end rfl) fun o3 => kg f10a3 rfl (fun (o6 : Str × Str × Int) => ⟨[(2, (Sr o3.1)), (3, (I o3.2)), (4, (Sr o6.1)), (5, (Sr o6.2.1)), (6, (I o6.2.2))], [], 42⟩) (rp rfl (p_call rfl rfl rfl rfl rfl (law12_shop_ok k) (.inl rfl)) fun v4 => bd 2 [(18, (eBase v4)), (19, (V.sl 0 1 (List.map sTerm ([([({ fField := ([67, 85, 83, 84, 78, 79] : Str), fOp := 6, fValue := ([48, 49, 48, 48] : Str) } : T_api_Term), ({ fField := ([67, 85, 83, 84, 78, 79] : Str), fOp := 4, fValue := ([48, 49, 57, 57] : Str) } : T_api_Term)] : List T_api_Term)] : List (List T_api_Term)))))] rfl rfl <| rp rfl (p_call rfl rfl rfl rfl rfl (match_Range_ok k v4 0 ([([({ fField := ([67, 85, 83, 84, 78, 79] : Str), fOp := 6, fValue := ([48, 49, 48, 48] : Str) } : T_api_Term), ({ fField := ([67, 85, 83, 84, 78, 79] : Str), fOp := 4, fValue := ([48, 49, 57, 57] : Str) } : T_api_Term)] : List T_api_Term)] : List (List T_api_Term))) (.inl rfl)) fun v5 => bind_end rfl) fun o6 => kg f10a4 rfl (fun (o7 : Bool) => ⟨[(0, (Bo o7))], [], 42⟩) ?_ fun o7 => ?_
    · refine rd 3 [(24, (I o3.2)), (25, (Bo (o3.2 == 0))), (26, (Bo (o3.2 == 0)))] rfl rfl <| bifE (fun hc => ?_) fun hc => ?_
      · rw [hc]
        refine rd 7 [(27, (I o6.2.2)), (28, (Bo (o6.2.2 == 0))), (29, (Bo (o6.2.2 == 0))), (30, (Bo (o6.2.2 == 0)))] rfl rfl <| bifE (fun hc => ?_) fun hc => ?_
        · rw [hc]
          refine rd 11 [(31, (Sr o3.1)), (32, (Bo (o3.1 == ([67, 85, 83, 84, 78, 79, 32, 32, 62, 61, 48, 49, 48, 48, 38, 67, 85, 83, 84, 78, 79, 32, 32, 60, 61, 48, 49, 57, 57] : Str)))), (33, (Bo (o3.1 == ([67, 85, 83, 84, 78, 79, 32, 32, 62, 61, 48, 49, 48, 48, 38, 67, 85, 83, 84, 78, 79, 32, 32, 60, 61, 48, 49, 57, 57] : Str)))), (34, (Bo (o3.1 == ([67, 85, 83, 84, 78, 79, 32, 32, 62, 61, 48, 49, 48, 48, 38, 67, 85, 83, 84, 78, 79, 32, 32, 60, 61, 48, 49, 57, 57] : Str))))] rfl rfl <| bifE (fun hc => ?_) fun hc => ?_
          · rw [hc]
            refine rd 15 [(35, (Sr o6.1)), (36, (Bo (o6.1 == ([48, 49, 48, 48] : Str)))), (37, (Bo (o6.1 == ([48, 49, 48, 48] : Str)))), (38, (Bo (o6.1 == ([48, 49, 48, 48] : Str))))] rfl rfl <| bifE (fun hc => ?_) fun hc => ?_
            · rw [hc]
              exact reg_end rfl
            · rw [hc]
              exact reg_end rfl
          · rw [hc]
            exact reg_end rfl
        · rw [hc]
          exact reg_end rfl
      · rw [hc]
        exact reg_end rfl
    refine et k_lret ?_
    rfl
def dbd_fits_fin : Bool → V × List V := fun r => ((Bo r), [])
theorem dbd_fits_ok (k : Nat) (a0 : T_api_Type) (a1 : Str) : EV k 67 [(eType a0), (Sr a1)] = (dbd_fits k a0 a1).map dbd_fits_fin := by
  cases k with
  | zero => rfl
  | succ k =>
    unfold dbd_fits
    refine et (evF_succ (c := f67c) (N := 17) (regs := f67n) rfl func67 rfl (by decide) rfl rfl rfl) <| kr ⟨[(1, (Sr a1)), (2, (Pt 2))], [(2, vS 8 (eType a0))], 17⟩ rfl <| kg f67a1 rfl (fun (o1 : Bool) => ⟨[(4, (Bo o1))], [], 17⟩) ?_ fun o1 => ?_
    · refine rd 6 [(5, (Sr a1)), (6, (I (a1.length : Int))), (7, (V.ptr 2 0 2)), (8, (I a0.fMin)), (9, (Bo (decide ((a1.length : Int) ≥ a0.fMin)))), (10, (Bo (decide ((a1.length : Int) ≥ a0.fMin))))] rfl rfl <| bifE (fun hc => ?_) fun hc => ?_
      · rw [hc]
        exact reg_end rfl
      · rw [hc]
        exact reg_end rfl
    refine et k_lret ?_
    rfl
def dbd_Fits_fin : (Bool × Int) → V × List V := fun r => (.tup [(Bo r.1), (I r.2)], [])
theorem dbd_Fits_ok (k : Nat) (a0 : T_api_Base) (a1 : Int) (a2 : Str) : EV k 37 [(eBase a0), (I a1), (Sr a2)] = (dbd_Fits k a0 a1 a2).map dbd_Fits_fin := by
  cases k with
  | zero => rfl
  | succ k =>
    unfold dbd_Fits
    refine et (evF_succ (c := f37c) (N := 23) (regs := f37n) rfl func37 rfl (by decide) rfl rfl rfl) <| kr ⟨[(1, (I a1)), (2, (Sr a2)), (3, (Pt 3))], [(3, vS 4 (eBase a0))], 23⟩ rfl <| et k_assoc <| kga f37a1 rfl (fun (o2 : Int) => [(8, (I o2))]) (rd 3 [(9, (eBase a0)), (10, (I a1)), (11, (sI (([a1] : List Int))))] rfl rfl <| rs rfl (p_call rfl rfl rfl rfl rfl (dbd_asked_ok k a0 ([a1] : List Int)) (.inl rfl)) fun v1 => bind_end rfl) fun o2 => et k_assoc <| kra [(14, (Bo (o2 != 0)))] rfl <| kc rfl rfl (fun hc => ?_) fun hc => ?_
    · rw [hc]
      refine et k_assoc <| kr ⟨[(6, (Bo false)), (7, (I o2))], [], 23⟩ rfl <| et k_ret ?_
      rfl
    · rw [hc]
      refine et k_skip <| kg f37a4 rfl (fun (o5 : Bool × Int) => ⟨[(6, (Bo o5.1)), (7, (I o5.2))], [], 23⟩) (rd 3 [(16, (V.ptr 3 0 2)), (17, (sType a0.fTypes)), (18, (I a1))] rfl rfl <| rp rfl (p_index (e := eType) rfl rfl rfl underlying22 rfl (by decide)) fun v3 => bd 6 [(19, (Pr (eType v3))), (20, (eType v3)), (21, (Sr a2))] rfl rfl <| rp rfl (p_call rfl rfl rfl rfl rfl (dbd_fits_ok k v3 a2) (.inl rfl)) fun v4 => bind_end rfl) fun o5 => et k_lret ?_
      rfl
def match_Holds_2_1_v12_fin : Bool → V × List V := fun r => ((Bo r), [])
theorem match_Holds_2_1_v12_ok (k : Nat) (a0 : T_api_Term) (a1 : Nat → T_api_Term → Option Bool) (a1_fid : Go.FuncId) (a1_c0 : V) (a1_c1 : V) (a1_hok : ∀ j x0, EV j a1_fid [(eTerm x0), V.pro a1_c0, V.pro a1_c1] = (a1 j x0).map fun b => ((Bo b), [])) : EV k 43 [(eTerm a0), (Pr (V.fn a1_fid [] [V.pro a1_c0, V.pro a1_c1]))] = (match_Holds_2_1_v12 k a0 a1).map match_Holds_2_1_v12_fin := by
  cases k with
  | zero => rfl
  | succ k =>
    unfold match_Holds_2_1_v12
    refine et (evF_succ (c := f43v12c) (N := 8) (regs := f43v12n) rfl func43 rfl (by decide) rfl rfl rfl) <| kr ⟨[(1, (Pr (V.fn a1_fid [] [V.pro a1_c0, V.pro a1_c1]))), (2, (Pt 2))], [(2, vS 3 (eTerm a0))], 8⟩ rfl <| kg f43v12a1 rfl (fun (o2 : Bool) => ⟨[(3, (Bo o2))], [], 8⟩) (rd 2 [(4, (V.fn a1_fid [] [V.pro a1_c0, V.pro a1_c1])), (5, (eTerm a0))] rfl rfl <| rp rfl (p_call rfl rfl rfl rfl rfl (a1_hok k a0) (.inl rfl)) fun v1 => bind_end rfl) fun o2 => et k_lret ?_
    rfl
def match_Holds_2_v12_fin : Bool → V × List V := fun r => ((Bo r), [])
theorem match_Holds_2_v12_ok (k : Nat) (a0 : (List T_api_Term)) (a1 : Nat → T_api_Term → Option Bool) (a1_fid : Go.FuncId) (a1_c0 : V) (a1_c1 : V) (a1_hok : ∀ j x0, EV j a1_fid [(eTerm x0), V.pro a1_c0, V.pro a1_c1] = (a1 j x0).map fun b => ((Bo b), [])) : EV k 41 [(sTerm a0), (Pr (V.fn a1_fid [] [V.pro a1_c0, V.pro a1_c1]))] = (match_Holds_2_v12 k a0 a1).map match_Holds_2_v12_fin := by
  cases k with
  | zero => rfl
  | succ k =>
    unfold match_Holds_2_v12
    refine et (evF_succ (c := f41v12c) (N := 8) (regs := f41v12n) rfl func41 rfl (by decide) rfl rfl rfl) <| kra [] rfl <| kg f41v12a1 rfl (fun (o2 : Bool) => ⟨[(3, (Bo o2))], [], 8⟩) (rd 2 [(4, (sTerm a0)), (5, (V.fn 43 [] [(Pr (V.fn a1_fid [] [V.pro a1_c0, V.pro a1_c1]))]))] rfl rfl <| rp rfl (p_call rfl rfl rfl rfl rfl (slices_ContainsFunc_Term_ok k a0 (fun j x0 => (match_Holds_2_1_v12 j x0 a1)) 43 (V.fn a1_fid [] [V.pro a1_c0, V.pro a1_c1]) (fun j x0 => (match_Holds_2_1_v12_ok j x0 a1 a1_fid a1_c0 a1_c1 a1_hok))) (.inl rfl)) fun v1 => bind_end rfl) fun o2 => et k_lret ?_
    rfl
def strings_Compare_fin : Int → V × List V := fun r => (I r, [])
theorem strings_Compare_ok (k : Nat) (s n : Str) : EV k 70 [(Sr s), (Sr n)] = (strings_Compare k s n).map strings_Compare_fin := by
  cases k with
  | zero => rfl
  | succ k => exact (evF_ext (ext := ext) (f := 70) rfl).trans rfl
def match_holds_fin : Bool → V × List V := fun r => ((Bo r), [])
theorem match_holds_ok (k : Nat) (a0 : Int) (a1 : Str) (a2 : Str) : EV k 40 [(I a0), (Sr a1), (Sr a2)] = (match_holds k a0 a1 a2).map match_holds_fin := by
  cases k with
  | zero => rfl
  | succ k =>
    unfold match_holds
    refine et (evF_succ (c := f40c) (N := 34) (regs := f40n) rfl func40 rfl (by decide) rfl rfl rfl) <| kra [] rfl <| kg f40a1 rfl (fun (o2 : Int) => ⟨[(0, (I a0)), (7, (I o2))], [], 34⟩) (rd 2 [(8, (Sr a1)), (9, (Sr a2))] rfl rfl <| rs rfl (p_call rfl rfl rfl rfl rfl (strings_Compare_ok k a1 a2) (.inl rfl)) fun v1 => bind_end rfl) fun o2 => et k_assoc <| kr ⟨[(7, (I o2)), (11, (I a0))], [], 34⟩ rfl <| et (k_block rfl) <| kra [(12, (Bo (a0 == 1)))] rfl <| kcl rfl rfl (fun hc => ?_) fun hc => ?_
    · rw [hc]
      refine kr ⟨[(6, (Bo (o2 == 0)))], [], 34⟩ rfl <| et k_lret <| et blk_ret ?_
      rfl
    · rw [hc]
      refine kr ⟨[(7, (I o2)), (11, (I a0)), (16, (Bo (a0 == 2)))], [], 34⟩ rfl <| kcl rfl rfl (fun hc => ?_) fun hc => ?_
      · rw [hc]
        refine kr ⟨[(6, (Bo (o2 != 0)))], [], 34⟩ rfl <| et k_lret <| et blk_ret ?_
        rfl
      · rw [hc]
        refine kr ⟨[(7, (I o2)), (11, (I a0)), (20, (Bo (a0 == 3)))], [], 34⟩ rfl <| kcl rfl rfl (fun hc => ?_) fun hc => ?_
        · rw [hc]
          refine kr ⟨[(6, (Bo (decide (o2 < 0))))], [], 34⟩ rfl <| et k_lret <| et blk_ret ?_
          rfl
        · rw [hc]
          refine kr ⟨[(7, (I o2)), (11, (I a0)), (24, (Bo (a0 == 4)))], [], 34⟩ rfl <| kcl rfl rfl (fun hc => ?_) fun hc => ?_
          · rw [hc]
            refine kr ⟨[(6, (Bo (decide (o2 ≤ 0))))], [], 34⟩ rfl <| et k_lret <| et blk_ret ?_
            rfl
          · rw [hc]
            refine kr ⟨[(7, (I o2)), (28, (Bo (a0 == 5)))], [], 34⟩ rfl <| kcl rfl rfl (fun hc => ?_) fun hc => ?_
            · rw [hc]
              refine kr ⟨[(6, (Bo (decide (o2 > 0))))], [], 34⟩ rfl <| et k_lret <| et blk_ret ?_
              rfl
            · rw [hc]
              refine et k_lskip <| et blk_normal <| kr ⟨[(6, (Bo (decide (o2 ≥ 0))))], [], 34⟩ rfl <| et k_lret ?_
              rfl
def match_Holds_1_fin : Bool → V × List V := fun r => ((Bo r), [])
theorem match_Holds_1_ok (k : Nat) (a0 : T_api_Term) (a1 : T_api_Type) (a2 : Str) : EV k 38 [(eTerm a0), (Pr (eType a1)), (Pr (Sr a2))] = (match_Holds_1 k a0 a1 a2).map match_Holds_1_fin := by
  cases k with
  | zero => rfl
  | succ k =>
    unfold match_Holds_1
    refine et (evF_succ (c := f38c) (N := 44) (regs := f38n) rfl func38 rfl (by decide) rfl rfl rfl) <| kr ⟨[(1, (Pr (eType a1))), (2, (Pr (Sr a2))), (3, (Pt 3))], [(3, vS 3 (eTerm a0))], 44⟩ rfl <| kga f38a1 rfl (fun (o2 : Int) => [(5, (I o2))]) (rd 3 [(9, (eType a1)), (10, (Pt 3)), (11, (Sr a0.fField))] rfl rfl <| rp rfl (p_call rfl rfl rfl rfl rfl (match_field_ok k a1 a0.fField) (.inl rfl)) fun v1 => bind_end rfl) fun o2 => kg f38a2 rfl (fun (o4 : T_api_Field) => ⟨[(2, (Pr (Sr a2))), (3, (Pt 3)), (7, (Pt 7))], [(3, vS 3 (eTerm a0)), (7, vS 3 (eField o4))], 44⟩) (rd 3 [(15, (Pr (sField a1.fFields))), (16, (sField a1.fFields)), (17, (I o2))] rfl rfl <| rs rfl (p_index (e := eField) rfl rfl rfl underlying43 rfl (by decide)) fun v3 => bind_end rfl) fun o4 => kd f38a3 rfl (fun (o7 : Bool) => ⟨[(4, (Bo o7))], [], 44⟩) ?_ fun o7 => ?_
    · refine et (regionE_regp (p := 25) (dk := true) (t := [(2, (Pr (Sr a2))), (3, (Pt 3)), (7, (Pt 7))]) (σ := [(3, vS 3 (eTerm a0)), (7, vS 3 (eField o4))]) (n := 44) rfl (by decide) (by decide) rfl) <| et (regp_adv (m := 9) (j := 9) (t' := [(2, (Pr (Sr a2))), (3, (Pt 3)), (7, (Pt 7)), (20, (V.ptr 7 0 1)), (21, (I o4.fAt)), (22, (V.ptr 7 0 2)), (23, (I o4.fBytes)), (24, (I (Go.IntKind.wrap .i64 (o4.fAt + o4.fBytes)))), (25, (Sr a2)), (26, (I (a2.length : Int))), (27, (Bo (decide ((Go.IntKind.wrap .i64 (o4.fAt + o4.fBytes)) ≤ (a2.length : Int))))), (28, (Bo (decide ((Go.IntKind.wrap .i64 (o4.fAt + o4.fBytes)) ≤ (a2.length : Int)))))]) rfl rfl rfl) <| bifE (fun hc => ?_) fun hc => ?_
      · rw [hc]
        exact et (regp_adv (m := 10) (j := 19) (t' := [(2, (Pr (Sr a2))), (3, (Pt 3)), (7, (Pt 7)), (20, (V.ptr 7 0 1)), (21, (I o4.fAt)), (22, (V.ptr 7 0 2)), (23, (I o4.fBytes)), (24, (I (Go.IntKind.wrap .i64 (o4.fAt + o4.fBytes)))), (25, (Sr a2)), (26, (I (a2.length : Int))), (27, (Bo true)), (28, (Bo true)), (29, (V.ptr 3 0 1)), (30, (I a0.fOp)), (31, (Sr a2)), (32, (V.ptr 7 0 1)), (33, (I o4.fAt)), (34, (V.ptr 7 0 1)), (35, (I o4.fAt)), (36, (V.ptr 7 0 2)), (37, (I o4.fBytes)), (38, (I (Go.IntKind.wrap .i64 (o4.fAt + o4.fBytes))))]) rfl rfl rfl) <| et (regp_pure (x := (cut a2 o4.fAt (Go.IntKind.wrap .i64 (o4.fAt + o4.fBytes)))) (w := fun v5 => (Sr v5)) rfl rfl rfl rfl rfl (p_sliceS rfl rfl rfl rfl rfl rfl underlying9)) <| bindE fun v5 => et (putp_adv (m := 2) (j := 22) (t' := [(2, (Pr (Sr a2))), (3, (Pt 3)), (7, (Pt 7)), (20, (V.ptr 7 0 1)), (21, (I o4.fAt)), (22, (V.ptr 7 0 2)), (23, (I o4.fBytes)), (24, (I (Go.IntKind.wrap .i64 (o4.fAt + o4.fBytes)))), (25, (Sr a2)), (26, (I (a2.length : Int))), (27, (Bo true)), (28, (Bo true)), (29, (V.ptr 3 0 1)), (30, (I a0.fOp)), (31, (Sr a2)), (32, (V.ptr 7 0 1)), (33, (I o4.fAt)), (34, (V.ptr 7 0 1)), (35, (I o4.fAt)), (36, (V.ptr 7 0 2)), (37, (I o4.fBytes)), (38, (I (Go.IntKind.wrap .i64 (o4.fAt + o4.fBytes)))), (39, (Sr v5)), (40, (V.ptr 3 0 2)), (41, (Sr a0.fValue))]) rfl rfl rfl) <| et (regp_pure (x := (match_holds k a0.fOp v5 a0.fValue)) (w := fun v6 => (Bo v6)) rfl rfl rfl rfl rfl (p_call rfl rfl rfl rfl rfl (match_holds_ok k a0.fOp v5 a0.fValue) (.inl rfl))) <| bind_self fun v6 => regp_end rfl
      · rw [hc]
        exact regp_end rfl
    refine et k_lret ?_
    rfl
def match_Holds_fin : (Bool × Int) → V × List V := fun r => (.tup [(Bo r.1), (I r.2)], [])
theorem match_Holds_ok (k : Nat) (a0 : T_api_Base) (a1 : Int) (a2 : (List (List T_api_Term))) (a3 : Str) : EV k 17 [(eBase a0), (I a1), (V.sl 0 1 (List.map sTerm a2)), (Sr a3)] = (match_Holds k a0 a1 a2 a3).map match_Holds_fin := by
  cases k with
  | zero => rfl
  | succ k =>
    unfold match_Holds
    refine et (evF_succ (c := f17c) (N := 50) (regs := f17n) rfl func17 rfl (by decide) rfl rfl rfl) <| kr ⟨[(1, (I a1)), (2, (V.sl 0 1 (List.map sTerm a2))), (4, (Pt 4)), (7, (Pt 7))], [(4, vS 4 (eBase a0)), (7, vS 1 (Sr a3))], 50⟩ rfl <| kga f17a1 rfl (fun (o2 : Bool × Int) => [(10, (Bo o2.1)), (11, (I o2.2))]) (rd 3 [(16, (eBase a0)), (17, (I a1)), (18, (Sr a3))] rfl rfl <| rp rfl (p_call rfl rfl rfl rfl rfl (dbd_Fits_ok k a0 a1 a3) (.inl rfl)) fun v1 => bind_end rfl) fun o2 => et (k_block rfl) <| kra [(22, (Bo (o2.2 != 0)))] rfl <| kcl rfl rfl (fun hc => ?_) fun hc => ?_
    · rw [hc]
      refine kr ⟨[(8, (Bo false)), (9, (I o2.2))], [], 50⟩ rfl <| et k_lret <| et blk_ret ?_
      rfl
    · rw [hc]
      refine kr ⟨[(1, (I a1)), (2, (V.sl 0 1 (List.map sTerm a2))), (4, (Pt 4)), (7, (Pt 7)), (26, (Bo (!o2.1)))], [(4, vS 4 (eBase a0)), (7, vS 1 (Sr a3))], 50⟩ rfl <| kcl rfl rfl (fun hc => ?_) fun hc => ?_
      · rw [hc]
        refine kr ⟨[(8, (Bo false)), (9, (I 2))], [], 50⟩ rfl <| et k_lret <| et blk_ret ?_
        rfl
      · rw [hc]
        refine et k_lskip <| et blk_normal <| kg f17a6 rfl (fun (o4 : Int × T_api_Type) => ⟨[(2, (V.sl 0 1 (List.map sTerm a2))), (7, (Pt 7)), (11, (I o4.1)), (12, (Pt 12))], [(7, vS 1 (Sr a3)), (12, vS 8 (eType o4.2))], 50⟩) (rd 4 [(30, (eBase a0)), (31, (I a1)), (32, (V.sl 0 1 (List.map sTerm a2))), (33, (V.sl 0 1 (List.map (fun x => (V.sl 0 1 (List.map sTerm x))) ([a2] : List (List (List T_api_Term))))))] rfl rfl <| rp rfl (p_call rfl rfl rfl rfl rfl (match_conditions_ok k a0 a1 ([a2] : List (List (List T_api_Term)))) (.inl rfl)) fun v3 => bind_end rfl) fun o4 => et k_assoc <| kra [(38, (Bo (o4.1 != 0)))] rfl <| kc rfl rfl (fun hc => ?_) fun hc => ?_
        · rw [hc]
          refine et k_assoc <| kr ⟨[(8, (Bo false)), (9, (I o4.1))], [], 50⟩ rfl <| et k_ret ?_
          rfl
        · rw [hc]
          refine et k_skip <| kr ⟨[(2, (V.sl 0 1 (List.map sTerm a2))), (7, (Pt 7)), (12, (Pt 12)), (13, (Pt 13))], [(7, vS 1 (Sr a3)), (12, vS 8 (eType o4.2)), (13, ⟨false, 1, [(V.fn 38 [] [(Pt 12), (Pt 7)])]⟩)], 50⟩ rfl <| kra [(14, (V.fn 41 [] [(Pt 13)]))] rfl <| kg f17a11 rfl (fun (o6 : Bool × Int) => ⟨[(8, (Bo o6.1)), (9, (I o6.2))], [], 50⟩) ?_ fun o6 => ?_
          · refine rd 1 [(42, (V.sl 0 1 (List.map sTerm a2)))] rfl rfl <| rl rfl (p_len (e := sTerm) rfl rfl rfl rfl rfl rfl underlying26) <| bd 4 [(43, (I (a2.length : Int))), (44, (Bo ((a2.length : Int) == 0))), (45, (Bo ((a2.length : Int) == 0)))] rfl rfl <| bifE (fun hc => ?_) fun hc => ?_
            · rw [hc]
              exact reg_end rfl
            · rw [hc]
              exact rd 6 [(46, (V.sl 0 1 (List.map sTerm a2))), (47, (V.fn 41 [] [(Pt 13)]))] rfl rfl <| rp rfl (p_call rfl rfl rfl rfl rfl (slices_ContainsFunc_TermL_ok k a2 (fun j x0 => (match_Holds_2_v12 j x0 (fun j x0 => (match_Holds_1 j x0 o4.2 a3)))) 41 (V.fn 38 [] [(Pr (eType o4.2)), (Pr (Sr a3))]) (fun j x0 => (match_Holds_2_v12_ok j x0 (fun j x0 => (match_Holds_1 j x0 o4.2 a3)) 38 (eType o4.2) (Sr a3) (fun j x0 => (match_Holds_1_ok j x0 o4.2 a3))))) (.inr (fun _ => rfl))) fun v5 => bind_end rfl
          refine et k_lret ?_
          rfl
def slices_Clone_Term_c_fin : (List T_api_Term) → V × List V := fun r => ((sTerm r), [])
def slices_Clone_Term_fin : List T_api_Term → V × List V := fun r => ((sTerm r), [])
theorem slices_Clone_Term_c_ok (k : Nat) (y : T_api_Term) (l : (List T_api_Term)) : EV k 75 [(sTerm ((y :: l)))] = (slices_Clone_Term_c k y l).map slices_Clone_Term_c_fin := by
  cases k with
  | zero => rfl
  | succ k =>
    unfold slices_Clone_Term_c
    refine et (evF_succ (c := f75c) (N := 8) (regs := f75n) rfl func75 rfl (by decide) rfl rfl rfl) <| kra [] rfl <| et k_assoc <| kra [(4, (Bo false))] rfl <| et (k_cond (t := false) rfl rfl) <| et k_skip <| kg f75a3 rfl (fun (o2 : (List T_api_Term)) => ⟨[(2, (sTerm o2))], [], 8⟩) (rd 2 [(5, (V.sl 1 3 (List.map eTerm ([] : List T_api_Term)))), (6, (sTerm ((y :: l))))] rfl rfl <| et (reg_eff (x := (app ([] : List T_api_Term) (y :: l))) (w := fun v1 => ((V.sl 1 3 (List.map eTerm v1)), _)) rfl rfl rfl rfl (p_app (e := eTerm) rfl rfl rfl rfl rfl rfl rfl rfl rfl rfl (by decide))) <| bind_self fun v1 => bind_end rfl) fun o2 => et k_lret ?_
    rfl
theorem slices_Clone_Term_ok (k : Nat) (l : List T_api_Term) : EV k 75 [(sTerm l)] = (slices_Clone_Term k l).map slices_Clone_Term_fin := by
  cases k with
  | zero => rfl
  | succ k => cases l with
    | nil => exact evF_ext (ext := ext) (f := 75) rfl
    | cons y l => exact slices_Clone_Term_c_ok (k + 1) y l
def match_copied_fin : (List (List T_api_Term)) → V × List V := fun r => ((V.sl 0 1 (List.map sTerm r)), [])
theorem match_copied_L1_ok (k : Nat) (a0 : (List (List T_api_Term)))  (K0 : (List (List T_api_Term)) → Int → Option (List (List T_api_Term))) (Kst : X × St → Option (V × List V)) (hK0 : ∀ (y0 : (List (List T_api_Term))) (y1 : Int), Kst (X.exit 0, ⟨[(3, (V.sl 1 1 (List.map sTerm y0))), (6, (V.sl 0 1 (List.map sTerm a0))), (7, (I (a0.length : Int))), (8, (I y1)), (9, (Bo false))], [], 19⟩) = (K0 y0 y1).map match_copied_fin) (hret : ∀ s, Kst (X.ret, s) = endK prog 19 [(V.sl 0 1 (List.map sTerm a0))] [] [.tmp 2] (X.ret, s)) :
    ∀ (m : Nat) (x6 : (List (List T_api_Term))) (x7 : Int), (iter (exec prog (EV k) f47n k f47b0) m ⟨[(3, (V.sl 1 1 (List.map sTerm x6))), (6, (V.sl 0 1 (List.map sTerm a0))), (7, (I (a0.length : Int))), (8, (I x7))], [], 19⟩).bind Kst = (match_copied_L1 k a0 K0 m x6 x7).map match_copied_fin := by
  intro m
  induction m with
  | zero => intros; rfl
  | succ m ih =>
    intro x6 x7
    unfold match_copied_L1
    refine et k_round <| kra [(9, (Bo (decide (x7 < (a0.length : Int)))))] rfl <| kc rfl rfl (fun hc => ?_) fun hc => ?_
    · rw [hc]
      exact et k_skip <| et (k_block rfl) <| kg f47a4 rfl (fun (o9 : (List T_api_Term)) => ⟨[(3, (V.sl 1 1 (List.map sTerm x6))), (5, (sTerm o9)), (6, (V.sl 0 1 (List.map sTerm a0))), (7, (I (a0.length : Int))), (8, (I x7))], [], 19⟩) (rs rfl (p_index (e := sTerm) rfl rfl rfl underlying26 rfl (by decide)) fun v8 => bind_end rfl) fun o9 => kgl f47a5 rfl (fun (o12 : (List (List T_api_Term))) => ⟨[(3, (V.sl 1 1 (List.map sTerm o12))), (6, (V.sl 0 1 (List.map sTerm a0))), (7, (I (a0.length : Int))), (8, (I x7))], [], 19⟩) (ra 2 2 ⟨[(3, (V.sl 0 1 (List.map sTerm x6))), (5, (sTerm o9)), (6, (V.sl 0 1 (List.map sTerm a0))), (7, (I (a0.length : Int))), (8, (I x7)), (12, (V.sl 1 1 (List.map sTerm x6))), (13, (sTerm o9))], [], 19⟩ rfl rfl rfl <| rp rfl (p_call rfl rfl rfl rfl rfl (slices_Clone_Term_ok k o9) (.inl rfl)) fun v10 => bd 4 [(14, (sTerm v10)), (15, (V.sl 0 1 (List.map sTerm ([v10] : List (List T_api_Term)))))] rfl rfl <| et (reg_eff (x := (app x6 ([v10] : List (List T_api_Term)))) (w := fun v11 => ((V.sl 1 1 (List.map sTerm v11)), _)) rfl rfl rfl rfl (p_app (e := sTerm) rfl rfl rfl rfl rfl rfl rfl rfl rfl rfl (by decide))) <| bind_self fun v11 => bind_end rfl) fun o12 => et blk_normal <| kl ⟨[(3, (V.sl 1 1 (List.map sTerm o12))), (6, (V.sl 0 1 (List.map sTerm a0))), (7, (I (a0.length : Int))), (8, (I (Go.IntKind.wrap .i64 (x7 + 1))))], [], 19⟩ rfl <| et loop_normal <| ih o12 (Go.IntKind.wrap .i64 (x7 + 1))
    · rw [hc]
      exact et k_exit <| et loop_exit <| hK0 x6 x7
theorem match_copied_ok (k : Nat) (a0 : (List (List T_api_Term))) : EV k 47 [(V.sl 0 1 (List.map sTerm a0))] = (match_copied k a0).map match_copied_fin := by
  cases k with
  | zero => rfl
  | succ k =>
    unfold match_copied
    refine et (evF_succ (c := f47c) (N := 19) (regs := f47n) rfl func47 rfl (by decide) rfl rfl rfl) <| kra [] rfl <| kra [(3, (V.sl 1 1 (List.map sTerm ([] : List (List T_api_Term)))))] rfl <| et k_assoc <| krp f47a2 rfl ⟨[(3, (V.sl 1 1 (List.map sTerm ([] : List (List T_api_Term))))), (6, (V.sl 0 1 (List.map sTerm a0))), (7, (I (a0.length : Int))), (8, (I 0))], [], 19⟩ ?_ ?_
    · exact rd 1 [(6, (V.sl 0 1 (List.map sTerm a0)))] rfl rfl <| rl rfl (p_len (e := sTerm) rfl rfl rfl rfl rfl rfl underlying26) <| bind_end rfl
    refine et (k_block rfl) <| et k_loop ?_
    refine match_copied_L1_ok k a0 _ _ ?h_match_copied_L1_0 ?hr_match_copied_L1 k ([] : List (List T_api_Term)) 0
    · intro y13 y14
      refine et blk_exit <| kr ⟨[(2, (V.sl 0 1 (List.map sTerm y13)))], [], 19⟩ rfl <| et k_lret ?_
      rfl
    · intro s; exact rfl
def slices_Concat_Term_fin : (List T_api_Term) → V × List V := fun r => ((sTerm r), [])
theorem slices_Concat_Term_ok (k : Nat) (s : List (List T_api_Term)) : EV k 48 [(V.sl 0 1 (List.map sTerm s))] = (slices_Concat_Term k s).map slices_Concat_Term_fin := by
  cases k with
  | zero => rfl
  | succ k => exact (evF_ext (ext := ext) (f := 48) rfl).trans (extCat_map (e := eTerm) (sz := 3) s)
def match_limited_fin : ((List (List T_api_Term)) × Int) → V × List V := fun r => (.tup [(V.sl 0 1 (List.map sTerm r.1)), (I r.2)], [])
theorem match_limited_ok (k : Nat) (a0 : T_api_Type) (a1 : (List (List T_api_Term))) : EV k 49 [(eType a0), (V.sl 0 1 (List.map sTerm a1))] = (match_limited k a0 a1).map match_limited_fin := by
  cases k with
  | zero => rfl
  | succ k =>
    unfold match_limited
    refine et (evF_succ (c := f49c) (N := 11) (regs := f49n) rfl func49 rfl (by decide) rfl rfl rfl) <| kr ⟨[(1, (V.sl 0 1 (List.map sTerm a1))), (2, (Pt 2))], [(2, vS 8 (eType a0))], 11⟩ rfl <| et k_assoc <| kg f49a1 rfl (fun (o2 : Bool) => ⟨[(1, (V.sl 0 1 (List.map sTerm a1))), (9, (Bo o2))], [], 11⟩) (rd 2 [(6, (eType a0)), (7, (V.sl 0 1 (List.map sTerm a1)))] rfl rfl <| rp rfl (p_call rfl rfl rfl rfl rfl (match_valid_ok k a0 a1) (.inl rfl)) fun v1 => bind_end rfl) fun o2 => kc rfl rfl (fun hc => ?_) fun hc => ?_
    · rw [hc]
      refine et k_assoc <| kr ⟨[(4, (V.sl 0 1 (List.map sTerm ([] : List (List T_api_Term))))), (5, (I 4))], [], 11⟩ rfl <| et k_ret ?_
      rfl
    · rw [hc]
      refine et k_skip <| kr ⟨[(4, (V.sl 0 1 (List.map sTerm a1))), (5, (I 0))], [], 11⟩ rfl <| et k_lret ?_
      rfl
def match_And_fin : ((List (List T_api_Term)) × Int) → V × List V := fun r => (.tup [(V.sl 0 1 (List.map sTerm r.1)), (I r.2)], [])
theorem match_And_L2_ok (k : Nat) (a0 : T_api_Base) (a1 : Int) (a2 : (List (List T_api_Term))) (a3 : (List (List T_api_Term))) (o2 : Int × T_api_Type) (x24 : Int) (o26 : (List T_api_Term))  (K0 : (List (List T_api_Term)) → Int → Option ((List (List T_api_Term)) × Int)) (Kst : X × St → Option (V × List V)) (hK0 : ∀ (y0 : (List (List T_api_Term))) (y1 : Int), Kst (X.exit 3, ⟨[(3, (V.sl 0 1 (List.map sTerm a3))), (10, (Pt 10)), (12, (V.sl 1 1 (List.map sTerm y0))), (14, (sTerm o26)), (42, (V.sl 0 1 (List.map sTerm a2))), (43, (I (a2.length : Int))), (44, (I x24)), (48, (V.sl 0 1 (List.map sTerm a3))), (49, (I (a3.length : Int))), (50, (I y1)), (51, (Bo false))], [(10, vS 8 (eType o2.2))], 68⟩) = (K0 y0 y1).map match_And_fin) (hret : ∀ s, Kst (X.ret, s) = endK prog 68 [(eBase a0), (I a1), (V.sl 0 1 (List.map sTerm a2)), (V.sl 0 1 (List.map sTerm a3))] [] [.tmp 8, .tmp 9] (X.ret, s)) :
    ∀ (m : Nat) (x32 : (List (List T_api_Term))) (x33 : Int), (iter (exec prog (EV k) f20n k f20b0) m ⟨[(3, (V.sl 0 1 (List.map sTerm a3))), (10, (Pt 10)), (12, (V.sl 1 1 (List.map sTerm x32))), (14, (sTerm o26)), (42, (V.sl 0 1 (List.map sTerm a2))), (43, (I (a2.length : Int))), (44, (I x24)), (48, (V.sl 0 1 (List.map sTerm a3))), (49, (I (a3.length : Int))), (50, (I x33))], [(10, vS 8 (eType o2.2))], 68⟩).bind Kst = (match_And_L2 k a3 o26 K0 m x32 x33).map match_And_fin := by
  intro m
  induction m with
  | zero => intros; rfl
  | succ m ih =>
    intro x32 x33
    unfold match_And_L2
    refine et k_round <| kra [(51, (Bo (decide (x33 < (a3.length : Int)))))] rfl <| kc rfl rfl (fun hc => ?_) fun hc => ?_
    · rw [hc]
      exact et k_skip <| et (k_block rfl) <| kg f20a14 rfl (fun (o35 : (List T_api_Term)) => ⟨[(3, (V.sl 0 1 (List.map sTerm a3))), (10, (Pt 10)), (12, (V.sl 1 1 (List.map sTerm x32))), (14, (sTerm o26)), (16, (sTerm o35)), (42, (V.sl 0 1 (List.map sTerm a2))), (43, (I (a2.length : Int))), (44, (I x24)), (48, (V.sl 0 1 (List.map sTerm a3))), (49, (I (a3.length : Int))), (50, (I x33))], [(10, vS 8 (eType o2.2))], 68⟩) (rs rfl (p_index (e := sTerm) rfl rfl rfl underlying26 rfl (by decide)) fun v34 => bind_end rfl) fun o35 => kgl f20a15 rfl (fun (o38 : (List (List T_api_Term))) => ⟨[(3, (V.sl 0 1 (List.map sTerm a3))), (10, (Pt 10)), (12, (V.sl 1 1 (List.map sTerm o38))), (14, (sTerm o26)), (42, (V.sl 0 1 (List.map sTerm a2))), (43, (I (a2.length : Int))), (44, (I x24)), (48, (V.sl 0 1 (List.map sTerm a3))), (49, (I (a3.length : Int))), (50, (I x33))], [(10, vS 8 (eType o2.2))], 68⟩) (ra 4 4 ⟨[(3, (V.sl 0 1 (List.map sTerm a3))), (10, (Pt 10)), (12, (V.sl 0 1 (List.map sTerm x32))), (14, (sTerm o26)), (16, (sTerm o35)), (42, (V.sl 0 1 (List.map sTerm a2))), (43, (I (a2.length : Int))), (44, (I x24)), (48, (V.sl 0 1 (List.map sTerm a3))), (49, (I (a3.length : Int))), (50, (I x33)), (54, (V.sl 1 1 (List.map sTerm x32))), (55, (sTerm o26)), (56, (sTerm o35)), (57, (V.sl 0 1 (List.map sTerm ([o26, o35] : List (List T_api_Term)))))], [(10, vS 8 (eType o2.2))], 68⟩ rfl rfl rfl <| rp rfl (p_call rfl rfl rfl rfl rfl (slices_Concat_Term_ok k ([o26, o35] : List (List T_api_Term))) (.inl rfl)) fun v36 => bd 6 [(58, (sTerm v36)), (59, (V.sl 0 1 (List.map sTerm ([v36] : List (List T_api_Term)))))] rfl rfl <| et (reg_eff (x := (app x32 ([v36] : List (List T_api_Term)))) (w := fun v37 => ((V.sl 1 1 (List.map sTerm v37)), _)) rfl rfl rfl rfl (p_app (e := sTerm) rfl rfl rfl rfl rfl rfl rfl rfl rfl rfl (by decide))) <| bind_self fun v37 => bind_end rfl) fun o38 => et blk_normal <| kl ⟨[(3, (V.sl 0 1 (List.map sTerm a3))), (10, (Pt 10)), (12, (V.sl 1 1 (List.map sTerm o38))), (14, (sTerm o26)), (42, (V.sl 0 1 (List.map sTerm a2))), (43, (I (a2.length : Int))), (44, (I x24)), (48, (V.sl 0 1 (List.map sTerm a3))), (49, (I (a3.length : Int))), (50, (I (Go.IntKind.wrap .i64 (x33 + 1))))], [(10, vS 8 (eType o2.2))], 68⟩ rfl <| et loop_normal <| ih o38 (Go.IntKind.wrap .i64 (x33 + 1))
    · rw [hc]
      exact et k_exit <| et loop_exit <| hK0 x32 x33
theorem match_And_L1_ok (k : Nat) (a0 : T_api_Base) (a1 : Int) (a2 : (List (List T_api_Term))) (a3 : (List (List T_api_Term))) (o2 : Int × T_api_Type)  (K0 : (List (List T_api_Term)) → Int → Option ((List (List T_api_Term)) × Int)) (Kst : X × St → Option (V × List V)) (hK0 : ∀ (y0 : (List (List T_api_Term))) (y1 : Int), Kst (X.exit 1, ⟨[(3, (V.sl 0 1 (List.map sTerm a3))), (10, (Pt 10)), (12, (V.sl 1 1 (List.map sTerm y0))), (42, (V.sl 0 1 (List.map sTerm a2))), (43, (I (a2.length : Int))), (44, (I y1)), (45, (Bo false))], [(10, vS 8 (eType o2.2))], 68⟩) = (K0 y0 y1).map match_And_fin) (hret : ∀ s, Kst (X.ret, s) = endK prog 68 [(eBase a0), (I a1), (V.sl 0 1 (List.map sTerm a2)), (V.sl 0 1 (List.map sTerm a3))] [] [.tmp 8, .tmp 9] (X.ret, s)) :
    ∀ (m : Nat) (x23 : (List (List T_api_Term))) (x24 : Int), (iter (exec prog (EV k) f20n k f20b1) m ⟨[(3, (V.sl 0 1 (List.map sTerm a3))), (10, (Pt 10)), (12, (V.sl 1 1 (List.map sTerm x23))), (42, (V.sl 0 1 (List.map sTerm a2))), (43, (I (a2.length : Int))), (44, (I x24))], [(10, vS 8 (eType o2.2))], 68⟩).bind Kst = (match_And_L1 k a2 a3 K0 m x23 x24).map match_And_fin := by
  intro m
  induction m with
  | zero => intros; rfl
  | succ m ih =>
    intro x23 x24
    unfold match_And_L1
    refine et k_round <| kra [(45, (Bo (decide (x24 < (a2.length : Int)))))] rfl <| kc rfl rfl (fun hc => ?_) fun hc => ?_
    · rw [hc]
      refine et k_skip <| et (k_block rfl) <| kg f20a11 rfl (fun (o26 : (List T_api_Term)) => ⟨[(3, (V.sl 0 1 (List.map sTerm a3))), (10, (Pt 10)), (12, (V.sl 1 1 (List.map sTerm x23))), (14, (sTerm o26)), (42, (V.sl 0 1 (List.map sTerm a2))), (43, (I (a2.length : Int))), (44, (I x24))], [(10, vS 8 (eType o2.2))], 68⟩) (rs rfl (p_index (e := sTerm) rfl rfl rfl underlying26 rfl (by decide)) fun v25 => bind_end rfl) fun o26 => krp f20a12 rfl ⟨[(3, (V.sl 0 1 (List.map sTerm a3))), (10, (Pt 10)), (12, (V.sl 1 1 (List.map sTerm x23))), (14, (sTerm o26)), (42, (V.sl 0 1 (List.map sTerm a2))), (43, (I (a2.length : Int))), (44, (I x24)), (48, (V.sl 0 1 (List.map sTerm a3))), (49, (I (a3.length : Int))), (50, (I 0))], [(10, vS 8 (eType o2.2))], 68⟩ ?_ ?_
      · exact rd 1 [(48, (V.sl 0 1 (List.map sTerm a3)))] rfl rfl <| rl rfl (p_len (e := sTerm) rfl rfl rfl rfl rfl rfl underlying26) <| bind_end rfl
      refine et (k_lblock rfl) <| et k_loop ?_
      refine match_And_L2_ok k a0 a1 a2 a3 o2 x24 o26 _ _ ?h_match_And_L2_0 ?hr_match_And_L2 k x23 0
      · intro y39 y40
        exact et blk_exit <| et k_lskip <| et blk_normal <| kl ⟨[(3, (V.sl 0 1 (List.map sTerm a3))), (10, (Pt 10)), (12, (V.sl 1 1 (List.map sTerm y39))), (42, (V.sl 0 1 (List.map sTerm a2))), (43, (I (a2.length : Int))), (44, (I (Go.IntKind.wrap .i64 (x24 + 1))))], [(10, vS 8 (eType o2.2))], 68⟩ rfl <| et loop_normal <| ih y39 (Go.IntKind.wrap .i64 (x24 + 1))
      · intro s; exact hret s
    · rw [hc]
      exact et k_exit <| et loop_exit <| hK0 x23 x24
end
end Go.AE
