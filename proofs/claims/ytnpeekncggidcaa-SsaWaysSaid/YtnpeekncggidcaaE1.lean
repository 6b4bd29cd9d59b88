/- The program, function by function: the evaluator comes to the typed functions. Conditions: none. -/
import Derived.Test.YtnpeekncggidcaaA3
import Derived.KernelRfl
import Derived.Test.YtnpeekncggidcaaProg
import Derived.Test.YtnpeekncggidcaaB1
namespace Go.AE
open Go.Proofs.Try Go.Sh
set_option linter.unusedSimpArgs false
set_option linter.unusedVariables false
set_option maxRecDepth 100000
set_option maxHeartbeats 4000000
noncomputable section
abbrev Pt (n : Nat) : V := .ptr n 0 0
abbrev Bo (b : Bool) : V := .bool b
abbrev Sr (s : Str) : V := .str s
abbrev Pr (v : V) : V := .pro v
abbrev sS (l : List Str) : V := .sl 0 1 (List.map V.str l)
abbrev vS (n : Nat) (v : V) : Site := ⟨false, n, [v]⟩
abbrev aL {α : Type} (d : Nat) (e : α → V) (l : List α) : V := .aref d 0 (List.map e l).length
def eField (a : T_api_Field) : V := .agg [(V.str a.fName), (V.int .i64 a.fAt), (V.int .i64 a.fBytes)]
def eType (a : T_api_Type) : V := .agg [(V.str a.fName), (V.int .i64 a.fParent), (V.int .i64 a.fMin), (V.int .i64 a.fSize), (V.sl 0 3 (List.map eField a.fFields)), (V.int .i64 a.fKey), (V.bool a.fUnique), (V.bool a.fLast)]
def eSearch (a : T_api_Search) : V := .agg [(V.str a.fName), (V.int .i64 a.fType), (V.int .i64 a.fField), (V.str a.fSparse)]
def eBase (a : T_api_Base) : V := .agg [(V.str a.fName), (V.int .i64 a.fKind), (V.sl 0 8 (List.map eType a.fTypes)), (V.sl 0 4 (List.map eSearch a.fIndexes))]
def eTerm (a : T_api_Term) : V := .agg [(V.str a.fField), (V.int .i64 a.fOp), (V.str a.fValue)]
def eArg (a : T_api_Arg) : V := .agg [(V.str a.fSegment), (V.str a.fCodes), (V.sl 0 1 (List.map (fun x => (V.sl 0 3 (List.map eTerm x))) a.fWhen))]
def eStr (a : T_arr6_Str) : V := .agg [(V.str a.e0), (V.str a.e1), (V.str a.e2), (V.str a.e3), (V.str a.e4), (V.str a.e5)]
noncomputable def f6o0 : Array Oper := cO (cL (cB f6))
def f6a0 : RAnn := ⟨[0, 2], []⟩
noncomputable def f6o1 : Array Oper := cO (cL (cL (cR (cB f6))))
def f6a1 : RAnn := ⟨[6, 7, 8, 9, 10, 11, 12, 13, 14, 15, 16, 17, 18, 19, 20], []⟩
noncomputable def f6o2 : Array Oper := cO (cL (cL (cR (cL (cR (cB f6))))))
def f6a2 : RAnn := ⟨[1, 21], []⟩
noncomputable def f6o3 : Array Oper := cO (cL (cL (cR (cR (cB f6)))))
def f6a3 : RAnn := ⟨[21], []⟩
noncomputable def f6o4 : Array Oper := cO (cL (cL (cL (cL (cR (cL (cR (cR (cB f6)))))))))
def f6a4 : RAnn := ⟨[22, 23, 24, 25], []⟩
noncomputable def f6o5 : Array Oper := cO (cR (cR (cL (cL (cR (cL (cR (cR (cB f6)))))))))
def f6a5 : RAnn := ⟨[4, 27, 28, 55], []⟩
noncomputable def f6o6 : Array Oper := cO (cL (cL (cL (cL (cR (cL (cL (cR (cL (cR (cR (cB f6))))))))))))
def f6a6 : RAnn := ⟨[26, 29, 30, 31, 32, 33, 34, 35, 36, 37, 38, 39, 40, 41, 42, 43, 44, 45], []⟩
noncomputable def f6o7 : Array Oper := cO (cL (cL (cR (cL (cL (cL (cR (cL (cL (cR (cL (cR (cR (cB f6))))))))))))))
def f6a7 : RAnn := ⟨[1, 3, 46], []⟩
noncomputable def f6o8 : Array Oper := cO (cL (cR (cL (cL (cR (cL (cL (cR (cL (cR (cR (cB f6))))))))))))
def f6a8 : RAnn := ⟨[46], []⟩
noncomputable def f6o9 : Array Oper := cO (cL (cL (cL (cL (cR (cR (cL (cL (cR (cL (cL (cR (cL (cR (cR (cB f6))))))))))))))))
def f6a9 : RAnn := ⟨[47, 48, 49, 50, 51, 52, 53, 54], []⟩
noncomputable def f6o10 : Array Oper := cO (cR (cR (cL (cL (cR (cR (cL (cL (cR (cL (cL (cR (cL (cR (cR (cB f6))))))))))))))))
def f6a10 : RAnn := ⟨[56, 57, 69], []⟩
noncomputable def f6o11 : Array Oper := cO (cL (cL (cL (cR (cL (cL (cR (cR (cL (cL (cR (cL (cL (cR (cL (cR (cR (cB f6))))))))))))))))))
def f6a11 : RAnn := ⟨[55, 58, 59, 60, 61, 62, 63, 64, 65, 66, 67, 68], []⟩
noncomputable def f6o12 : Array Oper := cO (cL (cL (cR (cL (cL (cR (cL (cL (cR (cR (cL (cL (cR (cL (cL (cR (cL (cR (cR (cB f6))))))))))))))))))))
def f6a12 : RAnn := ⟨[1, 3, 4, 69], []⟩
noncomputable def f6o13 : Array Oper := cO (cL (cL (cR (cR (cR (cB f6))))))
def f6a13 : RAnn := ⟨[3, 26], []⟩
noncomputable def f6o14 : Array Oper := cO (cL (cL (cL (cL (cR (cL (cR (cR (cR (cB f6))))))))))
def f6a14 : RAnn := ⟨[70, 71, 72, 73], []⟩
noncomputable def f6o15 : Array Oper := cO (cR (cR (cL (cL (cR (cL (cR (cR (cR (cB f6))))))))))
def f6a15 : RAnn := ⟨[75, 76, 94], []⟩
noncomputable def f6o16 : Array Oper := cO (cL (cL (cL (cR (cL (cL (cR (cL (cR (cR (cR (cB f6))))))))))))
def f6a16 : RAnn := ⟨[74, 77, 78, 79, 80, 81, 82, 83, 84, 85, 86, 87, 88, 89, 90, 91, 92, 93], []⟩
noncomputable def f6o17 : Array Oper := cO (cL (cL (cR (cL (cL (cR (cL (cL (cR (cL (cR (cR (cR (cB f6))))))))))))))
def f6a17 : RAnn := ⟨[1, 5, 94], []⟩
noncomputable def f6o18 : Array Oper := cO (cL (cR (cR (cR (cR (cB f6))))))
def f6a18 : RAnn := ⟨[1, 5, 74], []⟩
def f6b0 : Code := (.seq (.seq (.region 9 f6o9 false) (.cond (.tmp 55) .skip (.exit 2))) (.seq (.block 3 (.seq (.region 11 f6o11 false) (.cond (.tmp 69) (.seq (.region 12 f6o12 false) .ret) .skip))) (.region 10 f6o10 false)))
def f6b1 : Code := (.seq (.seq (.region 4 f6o4 false) (.cond (.tmp 26) .skip (.exit 0))) (.seq (.block 1 (.seq (.seq (.region 6 f6o6 false) (.cond (.tmp 46) (.seq (.region 7 f6o7 false) .ret) .skip)) (.seq (.region 8 f6o8 false) (.block 2 (.loop f6b0))))) (.region 5 f6o5 false)))
def f6b2 : Code := (.seq (.seq (.region 14 f6o14 false) (.cond (.tmp 74) .skip (.exit 4))) (.seq (.block 5 (.seq (.region 16 f6o16 false) (.cond (.tmp 94) (.seq (.region 17 f6o17 false) .ret) .skip))) (.region 15 f6o15 false)))
def f6c : Code := (.seq (.region 0 f6o0 false) (.seq (.seq (.region 1 f6o1 false) (.cond (.tmp 21) (.seq (.region 2 f6o2 false) .ret) .skip)) (.seq (.seq (.region 3 f6o3 false) (.block 0 (.loop f6b1))) (.seq (.seq (.region 13 f6o13 false) (.block 4 (.loop f6b2))) (.seq (.region 18 f6o18 false) .ret)))))
def f6n : List (Nat × RAnn) := [(0, f6a0), (1, f6a1), (2, f6a2), (3, f6a3), (4, f6a4), (5, f6a5), (6, f6a6), (7, f6a7), (8, f6a8), (9, f6a9), (10, f6a10), (11, f6a11), (12, f6a12), (13, f6a13), (14, f6a14), (15, f6a15), (16, f6a16), (17, f6a17), (18, f6a18)]
noncomputable def f25o0 : Array Oper := cO (cL (cB f25))
def f25a0 : RAnn := ⟨[2], []⟩
noncomputable def f25o1 : Array Oper := cO (cL (cL (cR (cB f25))))
def f25a1 : RAnn := ⟨[], []⟩
noncomputable def f25o2 : Array Oper := cO (cL (cL (cL (cL (cR (cL (cR (cB f25))))))))
def f25a2 : RAnn := ⟨[5, 6, 7], []⟩
noncomputable def f25o3 : Array Oper := cO (cR (cR (cL (cL (cR (cL (cR (cB f25))))))))
def f25a3 : RAnn := ⟨[9, 10, 38], []⟩
noncomputable def f25o4 : Array Oper := cO (cL (cL (cL (cR (cL (cL (cR (cL (cR (cB f25))))))))))
def f25a4 : RAnn := ⟨[8, 11, 12, 13, 14, 15, 16, 17, 18, 19, 20], []⟩
noncomputable def f25o5 : Array Oper := cO (cL (cR (cL (cL (cR (cL (cL (cR (cL (cR (cB f25)))))))))))
def f25a5 : RAnn := ⟨[4, 21, 22, 23, 24, 25, 26, 27, 28, 29, 30, 31, 32, 33, 34, 35, 36, 37], []⟩
noncomputable def f25o6 : Array Oper := cO (cL (cL (cR (cR (cL (cL (cR (cL (cL (cR (cL (cR (cB f25)))))))))))))
def f25a6 : RAnn := ⟨[0, 3, 38], []⟩
noncomputable def f25o7 : Array Oper := cO (cL (cR (cR (cB f25))))
def f25a7 : RAnn := ⟨[0, 3, 8, 39, 40, 41, 42, 43, 44, 45, 46], []⟩
def f25b0 : Code := (.seq (.seq (.region 2 f25o2 false) (.cond (.tmp 8) .skip (.exit 0))) (.seq (.block 1 (.seq (.region 4 f25o4 false) (.seq (.region 5 f25o5 false) (.cond (.tmp 38) (.seq (.region 6 f25o6 false) .ret) .skip)))) (.region 3 f25o3 false)))
def f25c : Code := (.seq (.region 0 f25o0 false) (.seq (.seq (.region 1 f25o1 false) (.block 0 (.loop f25b0))) (.seq (.region 7 f25o7 false) .ret)))
def f25n : List (Nat × RAnn) := [(0, f25a0), (1, f25a1), (2, f25a2), (3, f25a3), (4, f25a4), (5, f25a5), (6, f25a6), (7, f25a7)]
noncomputable def f26o0 : Array Oper := cO (cL (cB f26))
def f26a0 : RAnn := ⟨[0, 2], []⟩
noncomputable def f26o1 : Array Oper := cO (cL (cL (cR (cB f26))))
def f26a1 : RAnn := ⟨[], []⟩
noncomputable def f26o2 : Array Oper := cO (cL (cL (cL (cL (cR (cL (cR (cB f26))))))))
def f26a2 : RAnn := ⟨[6, 7, 8, 9], []⟩
noncomputable def f26o3 : Array Oper := cO (cR (cR (cL (cL (cR (cL (cR (cB f26))))))))
def f26a3 : RAnn := ⟨[4, 5, 11, 12, 51], []⟩
noncomputable def f26o4 : Array Oper := cO (cL (cL (cL (cR (cL (cL (cR (cL (cR (cB f26))))))))))
def f26a4 : RAnn := ⟨[10, 13, 14, 15, 16, 17], []⟩
noncomputable def f26o5 : Array Oper := cO (cL (cL (cR (cL (cL (cR (cL (cL (cR (cL (cR (cB f26))))))))))))
def f26a5 : RAnn := ⟨[18, 19, 20, 21, 22, 23, 24, 25, 26, 27, 28, 29, 30, 31, 32, 33, 34, 35, 36, 37, 38, 39, 40, 41, 42, 43, 44, 45, 46, 47], []⟩
noncomputable def f26o6 : Array Oper := cO (cL (cL (cR (cL (cR (cL (cL (cR (cL (cL (cR (cL (cR (cB f26))))))))))))))
def f26a6 : RAnn := ⟨[1, 3, 4, 48], []⟩
noncomputable def f26o7 : Array Oper := cO (cL (cR (cR (cL (cL (cR (cL (cL (cR (cL (cR (cB f26))))))))))))
def f26a7 : RAnn := ⟨[48], []⟩
noncomputable def f26o8 : Array Oper := cO (cL (cL (cL (cL (cR (cR (cR (cL (cL (cR (cL (cL (cR (cL (cR (cB f26))))))))))))))))
def f26a8 : RAnn := ⟨[49, 50], []⟩
noncomputable def f26o9 : Array Oper := cO (cR (cR (cL (cL (cR (cR (cR (cL (cL (cR (cL (cL (cR (cL (cR (cB f26))))))))))))))))
def f26a9 : RAnn := ⟨[52, 53, 62], []⟩
noncomputable def f26o10 : Array Oper := cO (cL (cL (cL (cR (cL (cL (cR (cR (cR (cL (cL (cR (cL (cL (cR (cL (cR (cB f26))))))))))))))))))
def f26a10 : RAnn := ⟨[51, 54, 55, 56, 57, 58, 59, 60, 61], []⟩
noncomputable def f26o11 : Array Oper := cO (cL (cL (cR (cL (cL (cR (cL (cL (cR (cR (cR (cL (cL (cR (cL (cL (cR (cL (cR (cB f26))))))))))))))))))))
def f26a11 : RAnn := ⟨[1, 3, 4, 5, 62], []⟩
noncomputable def f26o12 : Array Oper := cO (cL (cL (cR (cR (cB f26)))))
def f26a12 : RAnn := ⟨[3, 10, 63, 64, 65, 66, 67, 68, 69, 70, 71, 72, 73, 74, 75, 76, 77, 78, 79, 80, 81], []⟩
noncomputable def f26o13 : Array Oper := cO (cL (cL (cR (cL (cR (cR (cB f26)))))))
def f26a13 : RAnn := ⟨[1, 82], []⟩
noncomputable def f26o14 : Array Oper := cO (cL (cR (cR (cR (cB f26)))))
def f26a14 : RAnn := ⟨[1, 82, 83, 84, 85, 86, 87, 88, 89, 90, 91, 92, 93, 94, 95, 96, 97, 98, 99, 100, 101, 102, 103, 104, 105, 106, 107, 108, 109, 110, 111], []⟩
def f26b0 : Code := (.seq (.seq (.region 8 f26o8 false) (.cond (.tmp 51) .skip (.exit 2))) (.seq (.block 3 (.seq (.region 10 f26o10 true) (.cond (.tmp 62) (.seq (.region 11 f26o11 false) .ret) .skip))) (.region 9 f26o9 false)))
def f26b1 : Code := (.seq (.seq (.region 2 f26o2 false) (.cond (.tmp 10) .skip (.exit 0))) (.seq (.block 1 (.seq (.region 4 f26o4 false) (.seq (.seq (.region 5 f26o5 false) (.cond (.tmp 48) (.seq (.region 6 f26o6 false) .ret) .skip)) (.seq (.region 7 f26o7 false) (.block 2 (.loop f26b0)))))) (.region 3 f26o3 false)))
def f26c : Code := (.seq (.region 0 f26o0 false) (.seq (.seq (.region 1 f26o1 false) (.block 0 (.loop f26b1))) (.seq (.seq (.region 12 f26o12 false) (.cond (.tmp 82) (.seq (.region 13 f26o13 false) .ret) .skip)) (.seq (.region 14 f26o14 true) .ret))))
def f26n : List (Nat × RAnn) := [(0, f26a0), (1, f26a1), (2, f26a2), (3, f26a3), (4, f26a4), (5, f26a5), (6, f26a6), (7, f26a7), (8, f26a8), (9, f26a9), (10, f26a10), (11, f26a11), (12, f26a12), (13, f26a13), (14, f26a14)]
noncomputable def f27o0 : Array Oper := cO (cL (cB f27))
def f27a0 : RAnn := ⟨[0, 6], []⟩
noncomputable def f27o1 : Array Oper := cO (cL (cL (cR (cB f27))))
def f27a1 : RAnn := ⟨[7, 8, 9, 10, 11, 12], []⟩
noncomputable def f27o2 : Array Oper := cO (cL (cL (cL (cL (cR (cL (cR (cB f27))))))))
def f27a2 : RAnn := ⟨[13], []⟩
noncomputable def f27o3 : Array Oper := cO (cR (cR (cL (cL (cR (cL (cR (cB f27))))))))
def f27a3 : RAnn := ⟨[15, 16, 17, 18, 19, 20, 23], []⟩
noncomputable def f27o4 : Array Oper := cO (cL (cL (cL (cR (cL (cL (cR (cL (cR (cB f27))))))))))
def f27a4 : RAnn := ⟨[14, 21, 22], []⟩
noncomputable def f27o5 : Array Oper := cO (cL (cL (cR (cL (cL (cR (cL (cL (cR (cL (cR (cB f27))))))))))))
def f27a5 : RAnn := ⟨[1, 2, 3, 23], []⟩
noncomputable def f27o6 : Array Oper := cO (cL (cR (cR (cB f27))))
def f27a6 : RAnn := ⟨[1, 2, 3, 14], []⟩
def f27b0 : Code := (.seq (.seq (.region 2 f27o2 false) (.cond (.tmp 14) .skip (.exit 0))) (.seq (.block 1 (.seq (.region 4 f27o4 false) (.cond (.tmp 23) (.seq (.region 5 f27o5 false) .ret) .skip))) (.region 3 f27o3 false)))
def f27c : Code := (.seq (.region 0 f27o0 false) (.seq (.seq (.region 1 f27o1 false) (.block 0 (.loop f27b0))) (.seq (.region 6 f27o6 false) .ret)))
def f27n : List (Nat × RAnn) := [(0, f27a0), (1, f27a1), (2, f27a2), (3, f27a3), (4, f27a4), (5, f27a5), (6, f27a6)]
noncomputable def f28o0 : Array Oper := cO (cL (cB f28))
def f28a0 : RAnn := ⟨[0, 4], []⟩
noncomputable def f28o1 : Array Oper := cO (cL (cR (cB f28)))
def f28a1 : RAnn := ⟨[], []⟩
noncomputable def f28o2 : Array Oper := cO (cL (cL (cL (cL (cL (cR (cR (cB f28))))))))
def f28a2 : RAnn := ⟨[6], []⟩
noncomputable def f28o3 : Array Oper := cO (cL (cL (cR (cL (cL (cL (cR (cR (cB f28)))))))))
def f28a3 : RAnn := ⟨[7, 8, 9, 10, 11], [(1, { keep := [0] }), (3, { tk := [9] })]⟩
noncomputable def f28o4 : Array Oper := cO (cR (cL (cR (cL (cL (cL (cR (cR (cB f28)))))))))
def f28a4 : RAnn := ⟨[12, 13, 14, 15, 16, 17], []⟩
noncomputable def f28o5 : Array Oper := cO (cL (cR (cR (cR (cB f28)))))
def f28a5 : RAnn := ⟨[1, 2, 5, 7, 18], []⟩
def f28b0 : Code := (.seq (.seq (.region 2 f28o2 false) (.cond (.tmp 7) .skip (.exit 0))) (.block 1 (.seq (.region 3 f28o3 false) (.region 4 f28o4 false))))
def f28c : Code := (.seq (.region 0 f28o0 false) (.seq (.region 1 f28o1 false) (.seq (.block 0 (.loop f28b0)) (.seq (.region 5 f28o5 false) .ret))))
def f28n : List (Nat × RAnn) := [(0, f28a0), (1, f28a1), (2, f28a2), (3, f28a3), (4, f28a4), (5, f28a5)]
noncomputable def f15o0 : Array Oper := cO (cL (cB f15))
def f15a0 : RAnn := ⟨[0, 2], []⟩
noncomputable def f15o1 : Array Oper := cO (cL (cL (cR (cB f15))))
def f15a1 : RAnn := ⟨[9, 10, 11, 12, 13, 14, 15, 16, 17, 18, 19, 20, 21, 22, 23, 24, 25, 26, 27, 28, 29, 30, 31, 32, 33, 34, 35, 36, 37, 38, 39], []⟩
noncomputable def f15o2 : Array Oper := cO (cL (cL (cR (cL (cR (cB f15))))))
def f15a2 : RAnn := ⟨[1, 40], []⟩
noncomputable def f15o3 : Array Oper := cO (cL (cL (cR (cR (cB f15)))))
def f15a3 : RAnn := ⟨[40], []⟩
noncomputable def f15o4 : Array Oper := cO (cL (cL (cL (cL (cR (cL (cR (cR (cB f15)))))))))
def f15a4 : RAnn := ⟨[41, 42, 43, 44], []⟩
noncomputable def f15o5 : Array Oper := cO (cR (cR (cL (cL (cR (cL (cR (cR (cB f15)))))))))
def f15a5 : RAnn := ⟨[46, 47, 117, 149], []⟩
noncomputable def f15o6 : Array Oper := cO (cL (cL (cL (cR (cL (cL (cR (cL (cR (cR (cB f15)))))))))))
def f15a6 : RAnn := ⟨[45, 48, 49, 50, 51, 52], []⟩
noncomputable def f15o7 : Array Oper := cO (cL (cL (cR (cL (cL (cR (cL (cL (cR (cL (cR (cR (cB f15)))))))))))))
def f15a7 : RAnn := ⟨[53, 54, 55, 56, 57, 58, 59, 60, 61, 62, 63, 64, 65, 66, 67, 68, 69, 70, 71, 72, 73, 74, 75, 76, 77], []⟩
noncomputable def f15o8 : Array Oper := cO (cL (cL (cR (cL (cR (cL (cL (cR (cL (cL (cR (cL (cR (cR (cB f15)))))))))))))))
def f15a8 : RAnn := ⟨[1, 3, 4, 78], []⟩
noncomputable def f15o9 : Array Oper := cO (cL (cL (cR (cR (cL (cL (cR (cL (cL (cR (cL (cR (cR (cB f15))))))))))))))
def f15a9 : RAnn := ⟨[78], []⟩
noncomputable def f15o10 : Array Oper := cO (cL (cL (cL (cL (cR (cL (cR (cR (cL (cL (cR (cL (cL (cR (cL (cR (cR (cB f15))))))))))))))))))
def f15a10 : RAnn := ⟨[79, 80], []⟩
noncomputable def f15o11 : Array Oper := cO (cR (cR (cL (cL (cR (cL (cR (cR (cL (cL (cR (cL (cL (cR (cL (cR (cR (cB f15))))))))))))))))))
def f15a11 : RAnn := ⟨[82, 83, 92], []⟩
noncomputable def f15o12 : Array Oper := cO (cL (cL (cL (cR (cL (cL (cR (cL (cR (cR (cL (cL (cR (cL (cL (cR (cL (cR (cR (cB f15))))))))))))))))))))
def f15a12 : RAnn := ⟨[81, 84, 85, 86, 87, 88, 89, 90, 91], []⟩
noncomputable def f15o13 : Array Oper := cO (cL (cL (cR (cL (cL (cR (cL (cL (cR (cL (cR (cR (cL (cL (cR (cL (cL (cR (cL (cR (cR (cB f15))))))))))))))))))))))
def f15a13 : RAnn := ⟨[1, 3, 4, 5, 92], []⟩
noncomputable def f15o14 : Array Oper := cO (cL (cL (cR (cR (cR (cL (cL (cR (cL (cL (cR (cL (cR (cR (cB f15)))))))))))))))
def f15a14 : RAnn := ⟨[5, 81, 93], []⟩
noncomputable def f15o15 : Array Oper := cO (cL (cL (cL (cR (cL (cR (cR (cR (cL (cL (cR (cL (cL (cR (cL (cR (cR (cB f15))))))))))))))))))
def f15a15 : RAnn := ⟨[4, 94, 95, 96, 97, 98, 99, 100, 101, 102, 103, 104, 105, 106, 107, 108, 109, 110, 111, 112, 113, 114, 115, 116], []⟩
noncomputable def f15o16 : Array Oper := cO (cL (cL (cR (cL (cL (cR (cL (cR (cR (cR (cL (cL (cR (cL (cL (cR (cL (cR (cR (cB f15))))))))))))))))))))
def f15a16 : RAnn := ⟨[1, 3, 117], []⟩
noncomputable def f15o17 : Array Oper := cO (cL (cR (cR (cR (cR (cL (cL (cR (cL (cL (cR (cL (cR (cR (cB f15)))))))))))))))
def f15a17 : RAnn := ⟨[4, 94, 118, 119, 120, 121, 122, 123, 124, 125, 126, 127, 128, 129, 130, 131, 132, 133, 134, 135, 136, 137, 138, 139, 140, 141, 142, 143, 144, 145, 146, 147, 148], []⟩
noncomputable def f15o18 : Array Oper := cO (cL (cL (cR (cR (cR (cR (cR (cL (cL (cR (cL (cL (cR (cL (cR (cR (cB f15)))))))))))))))))
def f15a18 : RAnn := ⟨[1, 3, 149], []⟩
noncomputable def f15o19 : Array Oper := cO (cL (cL (cR (cR (cR (cB f15))))))
def f15a19 : RAnn := ⟨[3, 45], []⟩
noncomputable def f15o20 : Array Oper := cO (cL (cL (cL (cL (cR (cL (cR (cR (cR (cB f15))))))))))
def f15a20 : RAnn := ⟨[150, 151, 152, 153], []⟩
noncomputable def f15o21 : Array Oper := cO (cR (cR (cL (cL (cR (cL (cR (cR (cR (cB f15))))))))))
def f15a21 : RAnn := ⟨[7, 8, 155, 156, 220], []⟩
noncomputable def f15o22 : Array Oper := cO (cL (cL (cL (cR (cL (cL (cR (cL (cR (cR (cR (cB f15))))))))))))
def f15a22 : RAnn := ⟨[154, 157, 158, 159, 160, 161], []⟩
noncomputable def f15o23 : Array Oper := cO (cL (cL (cR (cL (cL (cR (cL (cL (cR (cL (cR (cR (cR (cB f15))))))))))))))
def f15a23 : RAnn := ⟨[162, 163, 164, 165, 166, 167, 168, 169, 170, 171, 172, 173, 174, 175, 176, 177, 178, 179, 180, 181, 182, 183, 184, 185, 186, 187, 188, 189, 190, 191, 192, 193, 194, 195, 196, 197, 198, 199, 200, 201, 202, 203, 204, 205, 206, 207, 208, 209, 210, 211, 212, 213, 214, 215, 216], []⟩
noncomputable def f15o24 : Array Oper := cO (cL (cL (cR (cL (cR (cL (cL (cR (cL (cL (cR (cL (cR (cR (cR (cB f15))))))))))))))))
def f15a24 : RAnn := ⟨[1, 6, 7, 217], []⟩
noncomputable def f15o25 : Array Oper := cO (cL (cR (cR (cL (cL (cR (cL (cL (cR (cL (cR (cR (cR (cB f15))))))))))))))
def f15a25 : RAnn := ⟨[217], []⟩
noncomputable def f15o26 : Array Oper := cO (cL (cL (cL (cL (cR (cR (cR (cL (cL (cR (cL (cL (cR (cL (cR (cR (cR (cB f15))))))))))))))))))
def f15a26 : RAnn := ⟨[218, 219], []⟩
noncomputable def f15o27 : Array Oper := cO (cR (cR (cL (cL (cR (cR (cR (cL (cL (cR (cL (cL (cR (cL (cR (cR (cR (cB f15))))))))))))))))))
def f15a27 : RAnn := ⟨[221, 222, 231], []⟩
noncomputable def f15o28 : Array Oper := cO (cL (cL (cL (cR (cL (cL (cR (cR (cR (cL (cL (cR (cL (cL (cR (cL (cR (cR (cR (cB f15))))))))))))))))))))
def f15a28 : RAnn := ⟨[220, 223, 224, 225, 226, 227, 228, 229, 230], []⟩
noncomputable def f15o29 : Array Oper := cO (cL (cL (cR (cL (cL (cR (cL (cL (cR (cR (cR (cL (cL (cR (cL (cL (cR (cL (cR (cR (cR (cB f15))))))))))))))))))))))
def f15a29 : RAnn := ⟨[1, 6, 7, 8, 231], []⟩
noncomputable def f15o30 : Array Oper := cO (cL (cR (cR (cR (cR (cB f15))))))
def f15a30 : RAnn := ⟨[1, 6, 154], []⟩
def f15b0 : Code := (.seq (.seq (.region 10 f15o10 false) (.cond (.tmp 81) .skip (.exit 2))) (.seq (.block 3 (.seq (.region 12 f15o12 true) (.cond (.tmp 92) (.seq (.region 13 f15o13 false) .ret) .skip))) (.region 11 f15o11 false)))
def f15b1 : Code := (.seq (.seq (.region 4 f15o4 false) (.cond (.tmp 45) .skip (.exit 0))) (.seq (.block 1 (.seq (.region 6 f15o6 false) (.seq (.seq (.region 7 f15o7 false) (.cond (.tmp 78) (.seq (.region 8 f15o8 false) .ret) .skip)) (.seq (.seq (.region 9 f15o9 false) (.block 2 (.loop f15b0))) (.seq (.seq (.region 14 f15o14 false) (.cond (.tmp 94) (.seq (.seq (.region 15 f15o15 false) (.cond (.tmp 117) (.seq (.region 16 f15o16 false) .ret) .skip)) (.exit 1)) .skip)) (.seq (.region 17 f15o17 false) (.cond (.tmp 149) (.seq (.region 18 f15o18 false) .ret) .skip))))))) (.region 5 f15o5 false)))
def f15b2 : Code := (.seq (.seq (.region 26 f15o26 false) (.cond (.tmp 220) .skip (.exit 6))) (.seq (.block 7 (.seq (.region 28 f15o28 true) (.cond (.tmp 231) (.seq (.region 29 f15o29 false) .ret) .skip))) (.region 27 f15o27 false)))
def f15b3 : Code := (.seq (.seq (.region 20 f15o20 false) (.cond (.tmp 154) .skip (.exit 4))) (.seq (.block 5 (.seq (.region 22 f15o22 false) (.seq (.seq (.region 23 f15o23 true) (.cond (.tmp 217) (.seq (.region 24 f15o24 false) .ret) .skip)) (.seq (.region 25 f15o25 false) (.block 6 (.loop f15b2)))))) (.region 21 f15o21 false)))
def f15c : Code := (.seq (.region 0 f15o0 false) (.seq (.seq (.region 1 f15o1 false) (.cond (.tmp 40) (.seq (.region 2 f15o2 false) .ret) .skip)) (.seq (.seq (.region 3 f15o3 false) (.block 0 (.loop f15b1))) (.seq (.seq (.region 19 f15o19 false) (.block 4 (.loop f15b3))) (.seq (.region 30 f15o30 false) .ret)))))
def f15n : List (Nat × RAnn) := [(0, f15a0), (1, f15a1), (2, f15a2), (3, f15a3), (4, f15a4), (5, f15a5), (6, f15a6), (7, f15a7), (8, f15a8), (9, f15a9), (10, f15a10), (11, f15a11), (12, f15a12), (13, f15a13), (14, f15a14), (15, f15a15), (16, f15a16), (17, f15a17), (18, f15a18), (19, f15a19), (20, f15a20), (21, f15a21), (22, f15a22), (23, f15a23), (24, f15a24), (25, f15a25), (26, f15a26), (27, f15a27), (28, f15a28), (29, f15a29), (30, f15a30)]
noncomputable def f18o0 : Array Oper := cO (cL (cB f18))
def f18a0 : RAnn := ⟨[], []⟩
noncomputable def f18o1 : Array Oper := cO (cL (cR (cB f18)))
def f18a1 : RAnn := ⟨[1, 2, 3, 4, 5, 6, 7, 8], []⟩
def f18c : Code := (.seq (.region 0 f18o0 false) (.seq (.region 1 f18o1 false) .ret))
def f18n : List (Nat × RAnn) := [(0, f18a0), (1, f18a1)]
noncomputable def f30o0 : Array Oper := cO (cL (cB f30))
def f30a0 : RAnn := ⟨[2], []⟩
noncomputable def f30o1 : Array Oper := cO (cL (cL (cR (cB f30))))
def f30a1 : RAnn := ⟨[5], []⟩
noncomputable def f30o2 : Array Oper := cO (cL (cL (cL (cR (cL (cR (cB f30)))))))
def f30a2 : RAnn := ⟨[], []⟩
noncomputable def f30o3 : Array Oper := cO (cL (cL (cL (cR (cR (cL (cL (cR (cL (cR (cB f30)))))))))))
def f30a3 : RAnn := ⟨[8, 9], []⟩
noncomputable def f30o4 : Array Oper := cO (cL (cR (cL (cL (cR (cR (cL (cL (cR (cL (cR (cB f30))))))))))))
def f30a4 : RAnn := ⟨[10, 11, 12, 13, 14, 15, 16, 17, 18, 19], []⟩
noncomputable def f30o5 : Array Oper := cO (cL (cR (cR (cL (cL (cR (cR (cL (cL (cR (cL (cR (cB f30)))))))))))))
def f30a5 : RAnn := ⟨[3, 4, 20, 21, 22, 23, 24, 25, 26, 27, 28, 29, 30, 31, 32, 33, 34, 35, 36], []⟩
noncomputable def f30o6 : Array Oper := cO (cL (cL (cR (cR (cR (cL (cL (cR (cR (cL (cL (cR (cL (cR (cB f30)))))))))))))))
def f30a6 : RAnn := ⟨[0, 6, 7, 37], []⟩
noncomputable def f30o7 : Array Oper := cO (cR (cR (cR (cL (cL (cR (cL (cR (cB f30)))))))))
def f30a7 : RAnn := ⟨[37, 38], []⟩
noncomputable def f30o8 : Array Oper := cO (cL (cR (cR (cB f30))))
def f30a8 : RAnn := ⟨[0, 6, 7, 8, 39, 40, 41, 42, 43, 44, 45, 46], []⟩
def f30b0 : Code := (.seq (.region 2 f30o2 false) (.seq (.cond (.tmp 8) .skip (.exit 0)) (.seq (.block 1 (.seq (.region 3 f30o3 false) (.seq (.region 4 f30o4 false) (.seq (.region 5 f30o5 false) (.cond (.tmp 37) (.seq (.region 6 f30o6 false) .ret) .skip))))) (.region 7 f30o7 false))))
def f30c : Code := (.seq (.region 0 f30o0 false) (.seq (.seq (.region 1 f30o1 false) (.block 0 (.loop f30b0))) (.seq (.region 8 f30o8 false) .ret)))
def f30n : List (Nat × RAnn) := [(0, f30a0), (1, f30a1), (2, f30a2), (3, f30a3), (4, f30a4), (5, f30a5), (6, f30a6), (7, f30a7), (8, f30a8)]
noncomputable def f98o0 : Array Oper := cO (cL (cB f98))
def f98a0 : RAnn := ⟨[4], []⟩
noncomputable def f98o1 : Array Oper := cO (cL (cL (cR (cB f98))))
def f98a1 : RAnn := ⟨[6], []⟩
noncomputable def f98o2 : Array Oper := cO (cL (cL (cL (cR (cL (cR (cB f98)))))))
def f98a2 : RAnn := ⟨[], []⟩
noncomputable def f98o3 : Array Oper := cO (cL (cL (cL (cR (cR (cL (cL (cR (cL (cR (cB f98)))))))))))
def f98a3 : RAnn := ⟨[9, 10], []⟩
noncomputable def f98o4 : Array Oper := cO (cL (cR (cL (cL (cR (cR (cL (cL (cR (cL (cR (cB f98))))))))))))
def f98a4 : RAnn := ⟨[11, 12, 13, 14, 15], []⟩
noncomputable def f98o5 : Array Oper := cO (cL (cL (cR (cR (cL (cL (cR (cR (cL (cL (cR (cL (cR (cB f98))))))))))))))
def f98a5 : RAnn := ⟨[0, 1, 5, 7, 8, 16, 17], []⟩
noncomputable def f98o6 : Array Oper := cO (cR (cR (cR (cL (cL (cR (cL (cR (cB f98)))))))))
def f98a6 : RAnn := ⟨[5, 16, 18], []⟩
noncomputable def f98o7 : Array Oper := cO (cL (cR (cR (cB f98))))
def f98a7 : RAnn := ⟨[0, 1, 7, 8, 9], []⟩
def f98b0 : Code := (.seq (.region 2 f98o2 false) (.seq (.cond (.tmp 9) .skip (.exit 0)) (.seq (.block 1 (.seq (.region 3 f98o3 false) (.seq (.region 4 f98o4 false) (.cond (.tmp 16) (.seq (.region 5 f98o5 false) .ret) .skip)))) (.region 6 f98o6 false))))
def f98c : Code := (.seq (.region 0 f98o0 false) (.seq (.seq (.region 1 f98o1 false) (.block 0 (.loop f98b0))) (.seq (.region 7 f98o7 false) .ret)))
def f98n : List (Nat × RAnn) := [(0, f98a0), (1, f98a1), (2, f98a2), (3, f98a3), (4, f98a4), (5, f98a5), (6, f98a6), (7, f98a7)]
noncomputable def f87o0 : Array Oper := cO (cL (cB f87))
def f87a0 : RAnn := ⟨[4], []⟩
noncomputable def f87o1 : Array Oper := cO (cL (cR (cB f87)))
def f87a1 : RAnn := ⟨[0, 1, 5, 6, 7, 8], []⟩
def f87c : Code := (.seq (.region 0 f87o0 false) (.seq (.region 1 f87o1 false) .ret))
def f87n : List (Nat × RAnn) := [(0, f87a0), (1, f87a1)]
noncomputable def f88o0 : Array Oper := cO (cL (cB f88))
def f88a0 : RAnn := ⟨[0, 3], []⟩
noncomputable def f88o1 : Array Oper := cO (cL (cR (cB f88)))
def f88a1 : RAnn := ⟨[1, 2, 4, 5, 6, 7, 8], []⟩
def f88c : Code := (.seq (.region 0 f88o0 false) (.seq (.region 1 f88o1 false) .ret))
def f88n : List (Nat × RAnn) := [(0, f88a0), (1, f88a1)]
noncomputable def f68o0 : Array Oper := cO (cL (cB f68))
def f68a0 : RAnn := ⟨[4], []⟩
noncomputable def f68o1 : Array Oper := cO (cL (cL (cR (cB f68))))
def f68a1 : RAnn := ⟨[], []⟩
noncomputable def f68o2 : Array Oper := cO (cL (cL (cL (cR (cL (cR (cB f68)))))))
def f68a2 : RAnn := ⟨[], []⟩
noncomputable def f68o3 : Array Oper := cO (cL (cL (cL (cR (cR (cL (cL (cR (cL (cR (cB f68)))))))))))
def f68a3 : RAnn := ⟨[10, 11, 12, 13], []⟩
noncomputable def f68o4 : Array Oper := cO (cL (cL (cR (cL (cL (cR (cR (cL (cL (cR (cL (cR (cB f68)))))))))))))
def f68a4 : RAnn := ⟨[14, 15, 16, 17, 18, 19, 20, 21, 22, 23, 24, 25, 26, 27, 28, 29, 30, 31, 32, 33, 34, 35, 36, 37, 38, 39, 40, 41], []⟩
noncomputable def f68o5 : Array Oper := cO (cL (cL (cR (cL (cR (cL (cL (cR (cR (cL (cL (cR (cL (cR (cB f68)))))))))))))))
def f68a5 : RAnn := ⟨[0, 1, 5, 6, 7, 8, 9, 42], []⟩
noncomputable def f68o6 : Array Oper := cO (cL (cR (cR (cL (cL (cR (cR (cL (cL (cR (cL (cR (cB f68)))))))))))))
def f68a6 : RAnn := ⟨[5, 6, 42, 43, 44, 45, 46], []⟩
noncomputable def f68o7 : Array Oper := cO (cL (cL (cR (cR (cR (cL (cL (cR (cR (cL (cL (cR (cL (cR (cB f68)))))))))))))))
def f68a7 : RAnn := ⟨[0, 1, 7, 8, 9, 47], []⟩
noncomputable def f68o8 : Array Oper := cO (cR (cR (cR (cL (cL (cR (cL (cR (cB f68)))))))))
def f68a8 : RAnn := ⟨[47, 48], []⟩
noncomputable def f68o9 : Array Oper := cO (cL (cR (cR (cB f68))))
def f68a9 : RAnn := ⟨[0, 1, 7, 8, 9, 10, 49, 50, 51], []⟩
def f68b0 : Code := (.seq (.region 2 f68o2 false) (.seq (.cond (.tmp 10) .skip (.exit 0)) (.seq (.block 1 (.seq (.region 3 f68o3 false) (.seq (.seq (.region 4 f68o4 false) (.cond (.tmp 42) (.seq (.region 5 f68o5 false) .ret) .skip)) (.seq (.region 6 f68o6 false) (.cond (.tmp 47) (.seq (.region 7 f68o7 false) .ret) .skip))))) (.region 8 f68o8 false))))
def f68c : Code := (.seq (.region 0 f68o0 false) (.seq (.seq (.region 1 f68o1 false) (.block 0 (.loop f68b0))) (.seq (.region 9 f68o9 false) .ret)))
def f68n : List (Nat × RAnn) := [(0, f68a0), (1, f68a1), (2, f68a2), (3, f68a3), (4, f68a4), (5, f68a5), (6, f68a6), (7, f68a7), (8, f68a8), (9, f68a9)]
noncomputable def f47o0 : Array Oper := cO (cL (cB f47))
def f47a0 : RAnn := ⟨[0, 2], []⟩
noncomputable def f47o1 : Array Oper := cO (cL (cL (cL (cR (cB f47)))))
def f47a1 : RAnn := ⟨[4, 5, 6, 7, 8, 9, 10, 11, 12, 13, 14, 15, 16, 17, 18, 19, 20, 21, 22, 23, 24, 25, 26, 27, 28, 29, 30, 31, 32], []⟩
noncomputable def f47o2 : Array Oper := cO (cL (cL (cR (cL (cL (cR (cB f47)))))))
def f47a2 : RAnn := ⟨[1, 3], []⟩
noncomputable def f47o3 : Array Oper := cO (cL (cR (cR (cL (cL (cR (cB f47)))))))
def f47a3 : RAnn := ⟨[3, 34, 35, 36], []⟩
noncomputable def f47o4 : Array Oper := cO (cL (cL (cR (cR (cR (cL (cL (cR (cB f47)))))))))
def f47a4 : RAnn := ⟨[1, 33, 37, 38, 39], []⟩
noncomputable def f47o5 : Array Oper := cO (cL (cR (cR (cR (cR (cL (cL (cR (cB f47)))))))))
def f47a5 : RAnn := ⟨[33, 41, 42, 43, 44, 45, 46, 47, 48, 49, 50, 51], []⟩
noncomputable def f47o6 : Array Oper := cO (cL (cL (cR (cR (cR (cR (cR (cL (cL (cR (cB f47)))))))))))
def f47a6 : RAnn := ⟨[1, 40], []⟩
noncomputable def f47o7 : Array Oper := cO (cL (cR (cR (cB f47))))
def f47a7 : RAnn := ⟨[1, 40, 52, 53, 54, 55, 56, 57, 58, 59, 60, 61, 62, 63, 64, 65, 66, 67, 68, 69], []⟩
def f47c : Code := (.seq (.region 0 f47o0 false) (.seq (.block 0 (.seq (.region 1 f47o1 false) (.cond (.tmp 3) (.seq (.region 2 f47o2 false) .ret) (.seq (.region 3 f47o3 false) (.cond (.tmp 33) (.seq (.region 4 f47o4 false) .ret) (.seq (.region 5 f47o5 false) (.cond (.tmp 40) (.seq (.region 6 f47o6 false) .ret) .skip))))))) (.seq (.region 7 f47o7 true) .ret)))
def f47n : List (Nat × RAnn) := [(0, f47a0), (1, f47a1), (2, f47a2), (3, f47a3), (4, f47a4), (5, f47a5), (6, f47a6), (7, f47a7)]
noncomputable def f69o0 : Array Oper := cO (cL (cB f69))
def f69a0 : RAnn := ⟨[4], []⟩
noncomputable def f69o1 : Array Oper := cO (cL (cL (cR (cB f69))))
def f69a1 : RAnn := ⟨[6], []⟩
noncomputable def f69o2 : Array Oper := cO (cL (cL (cL (cR (cL (cR (cB f69)))))))
def f69a2 : RAnn := ⟨[], []⟩
noncomputable def f69o3 : Array Oper := cO (cL (cL (cL (cR (cR (cL (cL (cR (cL (cR (cB f69)))))))))))
def f69a3 : RAnn := ⟨[9, 10], []⟩
noncomputable def f69o4 : Array Oper := cO (cL (cR (cL (cL (cR (cR (cL (cL (cR (cL (cR (cB f69))))))))))))
def f69a4 : RAnn := ⟨[11, 12, 13, 14, 15], []⟩
noncomputable def f69o5 : Array Oper := cO (cL (cL (cR (cR (cL (cL (cR (cR (cL (cL (cR (cL (cR (cB f69))))))))))))))
def f69a5 : RAnn := ⟨[0, 1, 5, 7, 8, 16, 17], []⟩
noncomputable def f69o6 : Array Oper := cO (cR (cR (cR (cL (cL (cR (cL (cR (cB f69)))))))))
def f69a6 : RAnn := ⟨[5, 16, 18], []⟩
noncomputable def f69o7 : Array Oper := cO (cL (cR (cR (cB f69))))
def f69a7 : RAnn := ⟨[0, 1, 7, 8, 9], []⟩
def f69b0 : Code := (.seq (.region 2 f69o2 false) (.seq (.cond (.tmp 9) .skip (.exit 0)) (.seq (.block 1 (.seq (.region 3 f69o3 false) (.seq (.region 4 f69o4 false) (.cond (.tmp 16) (.seq (.region 5 f69o5 false) .ret) .skip)))) (.region 6 f69o6 false))))
def f69c : Code := (.seq (.region 0 f69o0 false) (.seq (.seq (.region 1 f69o1 false) (.block 0 (.loop f69b0))) (.seq (.region 7 f69o7 false) .ret)))
def f69n : List (Nat × RAnn) := [(0, f69a0), (1, f69a1), (2, f69a2), (3, f69a3), (4, f69a4), (5, f69a5), (6, f69a6), (7, f69a7)]
noncomputable def f48o0 : Array Oper := cO (cL (cB f48))
def f48a0 : RAnn := ⟨[4], []⟩
noncomputable def f48o1 : Array Oper := cO (cL (cR (cB f48)))
def f48a1 : RAnn := ⟨[0, 1, 5, 6, 7, 8], []⟩
def f48c : Code := (.seq (.region 0 f48o0 false) (.seq (.region 1 f48o1 false) .ret))
def f48n : List (Nat × RAnn) := [(0, f48a0), (1, f48a1)]
noncomputable def f49o0 : Array Oper := cO (cL (cB f49))
def f49a0 : RAnn := ⟨[0, 3], []⟩
noncomputable def f49o1 : Array Oper := cO (cL (cR (cB f49)))
def f49a1 : RAnn := ⟨[1, 2, 4, 5, 6, 7, 8], []⟩
def f49c : Code := (.seq (.region 0 f49o0 false) (.seq (.region 1 f49o1 false) .ret))
def f49n : List (Nat × RAnn) := [(0, f49a0), (1, f49a1)]
noncomputable def f50o0 : Array Oper := cO (cL (cB f50))
def f50a0 : RAnn := ⟨[4], []⟩
noncomputable def f50o1 : Array Oper := cO (cL (cL (cR (cB f50))))
def f50a1 : RAnn := ⟨[6], []⟩
noncomputable def f50o2 : Array Oper := cO (cL (cL (cL (cR (cL (cR (cB f50)))))))
def f50a2 : RAnn := ⟨[], []⟩
noncomputable def f50o3 : Array Oper := cO (cL (cL (cL (cR (cR (cL (cL (cR (cL (cR (cB f50)))))))))))
def f50a3 : RAnn := ⟨[9, 10], []⟩
noncomputable def f50o4 : Array Oper := cO (cL (cR (cL (cL (cR (cR (cL (cL (cR (cL (cR (cB f50))))))))))))
def f50a4 : RAnn := ⟨[11, 12, 13, 14, 15], []⟩
noncomputable def f50o5 : Array Oper := cO (cL (cL (cR (cR (cL (cL (cR (cR (cL (cL (cR (cL (cR (cB f50))))))))))))))
def f50a5 : RAnn := ⟨[0, 1, 5, 7, 8, 16, 17], []⟩
noncomputable def f50o6 : Array Oper := cO (cR (cR (cR (cL (cL (cR (cL (cR (cB f50)))))))))
def f50a6 : RAnn := ⟨[5, 16, 18], []⟩
noncomputable def f50o7 : Array Oper := cO (cL (cR (cR (cB f50))))
def f50a7 : RAnn := ⟨[0, 1, 7, 8, 9], []⟩
def f50b0 : Code := (.seq (.region 2 f50o2 false) (.seq (.cond (.tmp 9) .skip (.exit 0)) (.seq (.block 1 (.seq (.region 3 f50o3 false) (.seq (.region 4 f50o4 false) (.cond (.tmp 16) (.seq (.region 5 f50o5 false) .ret) .skip)))) (.region 6 f50o6 false))))
def f50c : Code := (.seq (.region 0 f50o0 false) (.seq (.seq (.region 1 f50o1 false) (.block 0 (.loop f50b0))) (.seq (.region 7 f50o7 false) .ret)))
def f50n : List (Nat × RAnn) := [(0, f50a0), (1, f50a1), (2, f50a2), (3, f50a3), (4, f50a4), (5, f50a5), (6, f50a6), (7, f50a7)]
noncomputable def f31o0 : Array Oper := cO (cL (cB f31))
def f31a0 : RAnn := ⟨[2], []⟩
noncomputable def f31o1 : Array Oper := cO (cL (cL (cR (cB f31))))
def f31a1 : RAnn := ⟨[7, 8, 9, 10, 11, 12, 13], []⟩
noncomputable def f31o2 : Array Oper := cO (cL (cL (cR (cL (cR (cB f31))))))
def f31a2 : RAnn := ⟨[0, 14], []⟩
noncomputable def f31o3 : Array Oper := cO (cL (cR (cR (cB f31))))
def f31a3 : RAnn := ⟨[14], [(0, { site := true })]⟩
noncomputable def f31o4 : Array Oper := cO (cL (cL (cR (cR (cR (cB f31))))))
def f31a4 : RAnn := ⟨[], []⟩
noncomputable def f31o5 : Array Oper := cO (cL (cL (cL (cR (cL (cR (cR (cR (cB f31)))))))))
def f31a5 : RAnn := ⟨[], []⟩
noncomputable def f31o6 : Array Oper := cO (cL (cL (cL (cR (cR (cL (cL (cR (cL (cR (cR (cR (cB f31)))))))))))))
def f31a6 : RAnn := ⟨[18, 19, 20, 21], []⟩
noncomputable def f31o7 : Array Oper := cO (cL (cL (cR (cL (cL (cR (cR (cL (cL (cR (cL (cR (cR (cR (cB f31)))))))))))))))
def f31a7 : RAnn := ⟨[22, 23, 24, 25, 26, 27, 28, 29, 30], []⟩
noncomputable def f31o8 : Array Oper := cO (cL (cL (cR (cL (cR (cL (cL (cR (cR (cL (cL (cR (cL (cR (cR (cR (cB f31)))))))))))))))))
def f31a8 : RAnn := ⟨[0, 3, 4, 5, 15, 16, 17, 31], []⟩
noncomputable def f31o9 : Array Oper := cO (cL (cR (cR (cL (cL (cR (cR (cL (cL (cR (cL (cR (cR (cR (cB f31)))))))))))))))
def f31a9 : RAnn := ⟨[31, 32, 33, 34, 35], []⟩
noncomputable def f31o10 : Array Oper := cO (cL (cL (cR (cR (cR (cL (cL (cR (cR (cL (cL (cR (cL (cR (cR (cR (cB f31)))))))))))))))))
def f31a10 : RAnn := ⟨[5, 36, 37, 38, 39, 40, 41, 42, 43, 44, 45, 46, 47, 48, 49, 50, 51, 52, 53, 54, 55, 56, 57, 58, 59, 60, 61, 62, 63, 64, 65, 66, 67, 68, 69], []⟩
noncomputable def f31o11 : Array Oper := cO (cL (cL (cR (cL (cR (cR (cR (cL (cL (cR (cR (cL (cL (cR (cL (cR (cR (cR (cB f31)))))))))))))))))))
def f31a11 : RAnn := ⟨[0, 3, 4, 6, 15, 16, 17, 70], []⟩
noncomputable def f31o12 : Array Oper := cO (cL (cR (cR (cR (cR (cL (cL (cR (cR (cL (cL (cR (cL (cR (cR (cR (cB f31)))))))))))))))))
def f31a12 : RAnn := ⟨[4, 6, 70, 71, 72, 73, 74, 75, 76, 77], []⟩
noncomputable def f31o13 : Array Oper := cO (cL (cR (cR (cR (cR (cR (cL (cL (cR (cR (cL (cL (cR (cL (cR (cR (cR (cB f31))))))))))))))))))
def f31a13 : RAnn := ⟨[78, 79], []⟩
noncomputable def f31o14 : Array Oper := cO (cL (cL (cR (cR (cR (cR (cR (cR (cL (cL (cR (cR (cL (cL (cR (cL (cR (cR (cR (cB f31))))))))))))))))))))
def f31a14 : RAnn := ⟨[0, 3, 15, 16, 17, 80], []⟩
noncomputable def f31o15 : Array Oper := cO (cR (cR (cR (cL (cL (cR (cL (cR (cR (cR (cB f31)))))))))))
def f31a15 : RAnn := ⟨[80, 81], []⟩
noncomputable def f31o16 : Array Oper := cO (cL (cR (cR (cR (cR (cB f31))))))
def f31a16 : RAnn := ⟨[0, 3, 15, 16, 17, 18], []⟩
def f31b0 : Code := (.seq (.region 5 f31o5 false) (.seq (.cond (.tmp 18) .skip (.exit 0)) (.seq (.block 1 (.seq (.region 6 f31o6 false) (.seq (.seq (.region 7 f31o7 false) (.cond (.tmp 31) (.seq (.region 8 f31o8 false) .ret) .skip)) (.seq (.region 9 f31o9 false) (.seq (.seq (.region 10 f31o10 false) (.cond (.tmp 70) (.seq (.region 11 f31o11 false) .ret) .skip)) (.seq (.region 12 f31o12 false) (.seq (.region 13 f31o13 false) (.cond (.tmp 80) (.seq (.region 14 f31o14 false) .ret) .skip)))))))) (.region 15 f31o15 false))))
def f31c : Code := (.seq (.region 0 f31o0 false) (.seq (.seq (.region 1 f31o1 false) (.cond (.tmp 14) (.seq (.region 2 f31o2 false) .ret) .skip)) (.seq (.region 3 f31o3 false) (.seq (.seq (.region 4 f31o4 false) (.block 0 (.loop f31b0))) (.seq (.region 16 f31o16 false) .ret)))))
def f31n : List (Nat × RAnn) := [(0, f31a0), (1, f31a1), (2, f31a2), (3, f31a3), (4, f31a4), (5, f31a5), (6, f31a6), (7, f31a7), (8, f31a8), (9, f31a9), (10, f31a10), (11, f31a11), (12, f31a12), (13, f31a13), (14, f31a14), (15, f31a15), (16, f31a16)]
noncomputable def f70o0 : Array Oper := cO (cL (cB f70))
def f70a0 : RAnn := ⟨[4], []⟩
noncomputable def f70o1 : Array Oper := cO (cL (cL (cR (cB f70))))
def f70a1 : RAnn := ⟨[6], []⟩
noncomputable def f70o2 : Array Oper := cO (cL (cL (cL (cR (cL (cR (cB f70)))))))
def f70a2 : RAnn := ⟨[], []⟩
noncomputable def f70o3 : Array Oper := cO (cL (cL (cL (cR (cR (cL (cL (cR (cL (cR (cB f70)))))))))))
def f70a3 : RAnn := ⟨[9, 10], []⟩
noncomputable def f70o4 : Array Oper := cO (cL (cR (cL (cL (cR (cR (cL (cL (cR (cL (cR (cB f70))))))))))))
def f70a4 : RAnn := ⟨[11, 12, 13, 14, 15], []⟩
noncomputable def f70o5 : Array Oper := cO (cL (cL (cR (cR (cL (cL (cR (cR (cL (cL (cR (cL (cR (cB f70))))))))))))))
def f70a5 : RAnn := ⟨[0, 1, 5, 7, 8, 16, 17], []⟩
noncomputable def f70o6 : Array Oper := cO (cR (cR (cR (cL (cL (cR (cL (cR (cB f70)))))))))
def f70a6 : RAnn := ⟨[5, 16, 18], []⟩
noncomputable def f70o7 : Array Oper := cO (cL (cR (cR (cB f70))))
def f70a7 : RAnn := ⟨[0, 1, 7, 8, 9], []⟩
def f70b0 : Code := (.seq (.region 2 f70o2 false) (.seq (.cond (.tmp 9) .skip (.exit 0)) (.seq (.block 1 (.seq (.region 3 f70o3 false) (.seq (.region 4 f70o4 false) (.cond (.tmp 16) (.seq (.region 5 f70o5 false) .ret) .skip)))) (.region 6 f70o6 false))))
def f70c : Code := (.seq (.region 0 f70o0 false) (.seq (.seq (.region 1 f70o1 false) (.block 0 (.loop f70b0))) (.seq (.region 7 f70o7 false) .ret)))
def f70n : List (Nat × RAnn) := [(0, f70a0), (1, f70a1), (2, f70a2), (3, f70a3), (4, f70a4), (5, f70a5), (6, f70a6), (7, f70a7)]
noncomputable def f51o0 : Array Oper := cO (cL (cB f51))
def f51a0 : RAnn := ⟨[4], []⟩
noncomputable def f51o1 : Array Oper := cO (cL (cR (cB f51)))
def f51a1 : RAnn := ⟨[0, 1, 5, 6, 7, 8], []⟩
def f51c : Code := (.seq (.region 0 f51o0 false) (.seq (.region 1 f51o1 false) .ret))
def f51n : List (Nat × RAnn) := [(0, f51a0), (1, f51a1)]
noncomputable def f52o0 : Array Oper := cO (cL (cB f52))
def f52a0 : RAnn := ⟨[0, 3], []⟩
noncomputable def f52o1 : Array Oper := cO (cL (cR (cB f52)))
def f52a1 : RAnn := ⟨[1, 2, 4, 5, 6, 7, 8], []⟩
def f52c : Code := (.seq (.region 0 f52o0 false) (.seq (.region 1 f52o1 false) .ret))
def f52n : List (Nat × RAnn) := [(0, f52a0), (1, f52a1)]
noncomputable def f32o0 : Array Oper := cO (cL (cB f32))
def f32a0 : RAnn := ⟨[4], []⟩
noncomputable def f32o1 : Array Oper := cO (cL (cL (cR (cB f32))))
def f32a1 : RAnn := ⟨[], []⟩
noncomputable def f32o2 : Array Oper := cO (cL (cL (cL (cR (cL (cR (cB f32)))))))
def f32a2 : RAnn := ⟨[], []⟩
noncomputable def f32o3 : Array Oper := cO (cL (cL (cL (cR (cR (cL (cL (cR (cL (cR (cB f32)))))))))))
def f32a3 : RAnn := ⟨[11, 12, 13, 14], []⟩
noncomputable def f32o4 : Array Oper := cO (cL (cL (cR (cL (cL (cR (cR (cL (cL (cR (cL (cR (cB f32)))))))))))))
def f32a4 : RAnn := ⟨[5, 15, 16, 17, 18, 19, 20, 21, 22, 23, 24, 25, 26, 27, 28, 29, 30, 31, 32, 33, 34, 35, 36, 37, 38, 39, 40, 41, 42], []⟩
noncomputable def f32o5 : Array Oper := cO (cL (cL (cR (cL (cR (cL (cL (cR (cR (cL (cL (cR (cL (cR (cB f32)))))))))))))))
def f32a5 : RAnn := ⟨[0, 1, 6, 8, 9, 10, 43], []⟩
noncomputable def f32o6 : Array Oper := cO (cL (cR (cR (cL (cL (cR (cR (cL (cL (cR (cL (cR (cB f32)))))))))))))
def f32a6 : RAnn := ⟨[43, 44, 45, 46, 47, 48, 49], []⟩
noncomputable def f32o7 : Array Oper := cO (cL (cR (cR (cR (cL (cL (cR (cR (cL (cL (cR (cL (cR (cB f32))))))))))))))
def f32a7 : RAnn := ⟨[6, 7, 50, 51, 52, 53, 54, 55, 56, 57, 58, 59, 60, 61, 62, 63, 64, 65, 66, 67], []⟩
noncomputable def f32o8 : Array Oper := cO (cL (cL (cR (cR (cR (cR (cL (cL (cR (cR (cL (cL (cR (cL (cR (cB f32))))))))))))))))
def f32a8 : RAnn := ⟨[0, 1, 8, 9, 10, 68], []⟩
noncomputable def f32o9 : Array Oper := cO (cR (cR (cR (cL (cL (cR (cL (cR (cB f32)))))))))
def f32a9 : RAnn := ⟨[68, 69], []⟩
noncomputable def f32o10 : Array Oper := cO (cL (cR (cR (cB f32))))
def f32a10 : RAnn := ⟨[0, 1, 8, 9, 10, 11, 70, 71, 72], []⟩
def f32b0 : Code := (.seq (.region 2 f32o2 false) (.seq (.cond (.tmp 11) .skip (.exit 0)) (.seq (.block 1 (.seq (.region 3 f32o3 false) (.seq (.seq (.region 4 f32o4 false) (.cond (.tmp 43) (.seq (.region 5 f32o5 false) .ret) .skip)) (.seq (.region 6 f32o6 false) (.seq (.region 7 f32o7 false) (.cond (.tmp 68) (.seq (.region 8 f32o8 false) .ret) .skip)))))) (.region 9 f32o9 false))))
def f32c : Code := (.seq (.region 0 f32o0 false) (.seq (.seq (.region 1 f32o1 false) (.block 0 (.loop f32b0))) (.seq (.region 10 f32o10 false) .ret)))
def f32n : List (Nat × RAnn) := [(0, f32a0), (1, f32a1), (2, f32a2), (3, f32a3), (4, f32a4), (5, f32a5), (6, f32a6), (7, f32a7), (8, f32a8), (9, f32a9), (10, f32a10)]
noncomputable def f19o0 : Array Oper := cO (cL (cB f19))
def f19a0 : RAnn := ⟨[0, 2], []⟩
noncomputable def f19o1 : Array Oper := cO (cL (cR (cB f19)))
def f19a1 : RAnn := ⟨[1, 3, 4, 5, 6, 7, 8, 9, 10, 11, 12, 13, 14, 15, 16, 17, 18, 19, 20, 21, 22, 23, 24, 25, 26, 27], []⟩
def f19c : Code := (.seq (.region 0 f19o0 false) (.seq (.region 1 f19o1 false) .ret))
def f19n : List (Nat × RAnn) := [(0, f19a0), (1, f19a1)]
noncomputable def f53o0 : Array Oper := cO (cL (cB f53))
def f53a0 : RAnn := ⟨[2], []⟩
noncomputable def f53o1 : Array Oper := cO (cL (cR (cB f53)))
def f53a1 : RAnn := ⟨[], []⟩
noncomputable def f53o2 : Array Oper := cO (cL (cL (cR (cR (cB f53)))))
def f53a2 : RAnn := ⟨[6], []⟩
noncomputable def f53o3 : Array Oper := cO (cL (cL (cL (cR (cL (cR (cR (cB f53))))))))
def f53a3 : RAnn := ⟨[], []⟩
noncomputable def f53o4 : Array Oper := cO (cL (cL (cL (cR (cR (cL (cL (cR (cL (cR (cR (cB f53))))))))))))
def f53a4 : RAnn := ⟨[9, 10], []⟩
noncomputable def f53o5 : Array Oper := cO (cL (cR (cL (cL (cR (cR (cL (cL (cR (cL (cR (cR (cB f53)))))))))))))
def f53a5 : RAnn := ⟨[4, 11, 12, 13, 14, 15, 16], []⟩
noncomputable def f53o6 : Array Oper := cO (cL (cL (cR (cR (cL (cL (cR (cR (cL (cL (cR (cL (cR (cR (cB f53)))))))))))))))
def f53a6 : RAnn := ⟨[17], []⟩
noncomputable def f53o7 : Array Oper := cO (cL (cL (cR (cL (cR (cR (cL (cL (cR (cR (cL (cL (cR (cL (cR (cR (cB f53)))))))))))))))))
def f53a7 : RAnn := ⟨[0, 3, 5, 7, 8, 18], []⟩
noncomputable def f53o8 : Array Oper := cO (cR (cR (cR (cL (cL (cR (cR (cL (cL (cR (cL (cR (cR (cB f53))))))))))))))
def f53a8 : RAnn := ⟨[5, 18, 19, 20, 21, 22], []⟩
noncomputable def f53o9 : Array Oper := cO (cR (cR (cR (cL (cL (cR (cL (cR (cR (cB f53))))))))))
def f53a9 : RAnn := ⟨[23], []⟩
noncomputable def f53o10 : Array Oper := cO (cL (cR (cR (cR (cB f53)))))
def f53a10 : RAnn := ⟨[0, 3, 7, 8, 9], []⟩
def f53b0 : Code := (.seq (.region 3 f53o3 false) (.seq (.cond (.tmp 9) .skip (.exit 0)) (.seq (.block 1 (.seq (.region 4 f53o4 false) (.seq (.region 5 f53o5 true) (.seq (.seq (.region 6 f53o6 false) (.cond (.tmp 18) (.seq (.region 7 f53o7 false) .ret) .skip)) (.region 8 f53o8 false))))) (.region 9 f53o9 false))))
def f53c : Code := (.seq (.region 0 f53o0 false) (.seq (.region 1 f53o1 false) (.seq (.seq (.region 2 f53o2 false) (.block 0 (.loop f53b0))) (.seq (.region 10 f53o10 false) .ret))))
def f53n : List (Nat × RAnn) := [(0, f53a0), (1, f53a1), (2, f53a2), (3, f53a3), (4, f53a4), (5, f53a5), (6, f53a6), (7, f53a7), (8, f53a8), (9, f53a9), (10, f53a10)]
noncomputable def f100o0 : Array Oper := cO (cL (cB f100))
def f100a0 : RAnn := ⟨[4], []⟩
noncomputable def f100o1 : Array Oper := cO (cL (cL (cR (cB f100))))
def f100a1 : RAnn := ⟨[6], []⟩
noncomputable def f100o2 : Array Oper := cO (cL (cL (cL (cR (cL (cR (cB f100)))))))
def f100a2 : RAnn := ⟨[], []⟩
noncomputable def f100o3 : Array Oper := cO (cL (cL (cL (cR (cR (cL (cL (cR (cL (cR (cB f100)))))))))))
def f100a3 : RAnn := ⟨[9, 10], []⟩
noncomputable def f100o4 : Array Oper := cO (cL (cR (cL (cL (cR (cR (cL (cL (cR (cL (cR (cB f100))))))))))))
def f100a4 : RAnn := ⟨[11, 12, 13, 14, 15], []⟩
noncomputable def f100o5 : Array Oper := cO (cL (cL (cR (cR (cL (cL (cR (cR (cL (cL (cR (cL (cR (cB f100))))))))))))))
def f100a5 : RAnn := ⟨[0, 1, 5, 7, 8, 16, 17], []⟩
noncomputable def f100o6 : Array Oper := cO (cR (cR (cR (cL (cL (cR (cL (cR (cB f100)))))))))
def f100a6 : RAnn := ⟨[5, 16, 18], []⟩
noncomputable def f100o7 : Array Oper := cO (cL (cR (cR (cB f100))))
def f100a7 : RAnn := ⟨[0, 1, 7, 8, 9], []⟩
def f100b0 : Code := (.seq (.region 2 f100o2 false) (.seq (.cond (.tmp 9) .skip (.exit 0)) (.seq (.block 1 (.seq (.region 3 f100o3 false) (.seq (.region 4 f100o4 false) (.cond (.tmp 16) (.seq (.region 5 f100o5 false) .ret) .skip)))) (.region 6 f100o6 false))))
def f100c : Code := (.seq (.region 0 f100o0 false) (.seq (.seq (.region 1 f100o1 false) (.block 0 (.loop f100b0))) (.seq (.region 7 f100o7 false) .ret)))
def f100n : List (Nat × RAnn) := [(0, f100a0), (1, f100a1), (2, f100a2), (3, f100a3), (4, f100a4), (5, f100a5), (6, f100a6), (7, f100a7)]
noncomputable def f90o0 : Array Oper := cO (cL (cB f90))
def f90a0 : RAnn := ⟨[4], []⟩
noncomputable def f90o1 : Array Oper := cO (cL (cR (cB f90)))
def f90a1 : RAnn := ⟨[0, 1, 5, 6, 7, 8], []⟩
def f90c : Code := (.seq (.region 0 f90o0 false) (.seq (.region 1 f90o1 false) .ret))
def f90n : List (Nat × RAnn) := [(0, f90a0), (1, f90a1)]
noncomputable def f91o0 : Array Oper := cO (cL (cB f91))
def f91a0 : RAnn := ⟨[3], []⟩
noncomputable def f91o1 : Array Oper := cO (cL (cR (cB f91)))
def f91a1 : RAnn := ⟨[0, 1, 4, 5, 6, 7, 8, 9, 10, 11, 12], []⟩
def f91c : Code := (.seq (.region 0 f91o0 false) (.seq (.region 1 f91o1 false) .ret))
def f91n : List (Nat × RAnn) := [(0, f91a0), (1, f91a1)]
noncomputable def f72o0 : Array Oper := cO (cL (cB f72))
def f72a0 : RAnn := ⟨[0, 4], []⟩
noncomputable def f72o1 : Array Oper := cO (cL (cL (cL (cR (cB f72)))))
def f72a1 : RAnn := ⟨[6, 7, 8], []⟩
noncomputable def f72o2 : Array Oper := cO (cL (cL (cR (cL (cL (cR (cB f72)))))))
def f72a2 : RAnn := ⟨[1, 2, 5], []⟩
noncomputable def f72o3 : Array Oper := cO (cL (cR (cR (cL (cL (cR (cB f72)))))))
def f72a3 : RAnn := ⟨[1, 2, 5, 10, 11, 12], []⟩
noncomputable def f72o4 : Array Oper := cO (cL (cL (cR (cR (cR (cL (cL (cR (cB f72)))))))))
def f72a4 : RAnn := ⟨[9], []⟩
noncomputable def f72o5 : Array Oper := cO (cL (cR (cR (cB f72))))
def f72a5 : RAnn := ⟨[9], []⟩
def f72c : Code := (.seq (.region 0 f72o0 false) (.seq (.block 0 (.seq (.region 1 f72o1 false) (.cond (.tmp 5) (.seq (.region 2 f72o2 false) .ret) (.seq (.region 3 f72o3 false) (.cond (.tmp 9) (.seq (.region 4 f72o4 false) .ret) .skip))))) (.seq (.region 5 f72o5 false) .ret)))
def f72n : List (Nat × RAnn) := [(0, f72a0), (1, f72a1), (2, f72a2), (3, f72a3), (4, f72a4), (5, f72a5)]
noncomputable def f74o0 : Array Oper := cO (cL (cB f74))
def f74a0 : RAnn := ⟨[0, 3], []⟩
noncomputable def f74o1 : Array Oper := cO (cL (cR (cB f74)))
def f74a1 : RAnn := ⟨[1, 2, 4, 5, 6, 7], []⟩
def f74c : Code := (.seq (.region 0 f74o0 false) (.seq (.region 1 f74o1 false) .ret))
def f74n : List (Nat × RAnn) := [(0, f74a0), (1, f74a1)]
noncomputable def f73o0 : Array Oper := cO (cL (cB f73))
def f73a0 : RAnn := ⟨[2, 3], []⟩
noncomputable def f73o1 : Array Oper := cO (cL (cL (cR (cB f73))))
def f73a1 : RAnn := ⟨[4], []⟩
noncomputable def f73o2 : Array Oper := cO (cL (cL (cR (cL (cR (cB f73))))))
def f73a2 : RAnn := ⟨[0, 5], []⟩
noncomputable def f73o3 : Array Oper := cO (cL (cR (cR (cB f73))))
def f73a3 : RAnn := ⟨[0, 5, 6], []⟩
def f73c : Code := (.seq (.region 0 f73o0 false) (.seq (.seq (.region 1 f73o1 false) (.cond (.tmp 5) (.seq (.region 2 f73o2 false) .ret) .skip)) (.seq (.region 3 f73o3 false) .ret)))
def f73n : List (Nat × RAnn) := [(0, f73a0), (1, f73a1), (2, f73a2), (3, f73a3)]
noncomputable def f54o0 : Array Oper := cO (cL (cB f54))
def f54a0 : RAnn := ⟨[0, 1, 4, 5], []⟩
noncomputable def f54o1 : Array Oper := cO (cL (cL (cR (cB f54))))
def f54a1 : RAnn := ⟨[7, 8], []⟩
noncomputable def f54o2 : Array Oper := cO (cL (cR (cL (cR (cB f54)))))
def f54a2 : RAnn := ⟨[9], []⟩
noncomputable def f54o3 : Array Oper := cO (cL (cL (cR (cR (cL (cR (cB f54)))))))
def f54a3 : RAnn := ⟨[2, 3, 6, 10, 11], []⟩
noncomputable def f54o4 : Array Oper := cO (cL (cR (cR (cB f54))))
def f54a4 : RAnn := ⟨[2, 3, 6, 10, 12, 13, 14, 15, 16, 17, 18], []⟩
def f54c : Code := (.seq (.region 0 f54o0 false) (.seq (.seq (.region 1 f54o1 false) (.seq (.region 2 f54o2 false) (.cond (.tmp 10) (.seq (.region 3 f54o3 false) .ret) .skip))) (.seq (.region 4 f54o4 false) .ret)))
def f54n : List (Nat × RAnn) := [(0, f54a0), (1, f54a1), (2, f54a2), (3, f54a3), (4, f54a4)]
noncomputable def f76o0 : Array Oper := cO (cL (cB f76))
def f76a0 : RAnn := ⟨[0, 4], []⟩
noncomputable def f76o1 : Array Oper := cO (cL (cR (cB f76)))
def f76a1 : RAnn := ⟨[], [(0, { site := true })]⟩
noncomputable def f76o2 : Array Oper := cO (cL (cL (cL (cL (cL (cR (cR (cB f76))))))))
def f76a2 : RAnn := ⟨[6], []⟩
noncomputable def f76o3 : Array Oper := cO (cR (cR (cL (cL (cL (cR (cR (cB f76))))))))
def f76a3 : RAnn := ⟨[8, 9, 10, 11, 12, 13], []⟩
noncomputable def f76o4 : Array Oper := cO (cL (cL (cR (cL (cL (cL (cR (cR (cB f76)))))))))
def f76a4 : RAnn := ⟨[7, 14, 15, 16, 17], []⟩
noncomputable def f76o5 : Array Oper := cO (cL (cR (cR (cR (cB f76)))))
def f76a5 : RAnn := ⟨[1, 2, 7, 18, 19], [(1, { eff := true })]⟩
noncomputable def f76o6 : Array Oper := cO (cL (cR (cR (cR (cR (cB f76))))))
def f76a6 : RAnn := ⟨[5, 20], [(1, { close := true })]⟩
def f76b0 : Code := (.seq (.seq (.region 2 f76o2 false) (.cond (.tmp 7) .skip (.exit 0))) (.seq (.block 1 (.region 4 f76o4 false)) (.region 3 f76o3 false)))
def f76c : Code := (.seq (.region 0 f76o0 false) (.seq (.region 1 f76o1 false) (.seq (.block 0 (.loop f76b0)) (.seq (.region 5 f76o5 false) (.seq (.region 6 f76o6 false) .ret)))))
def f76n : List (Nat × RAnn) := [(0, f76a0), (1, f76a1), (2, f76a2), (3, f76a3), (4, f76a4), (5, f76a5), (6, f76a6)]
noncomputable def f75o0 : Array Oper := cO (cL (cB f75))
def f75a0 : RAnn := ⟨[4], []⟩
noncomputable def f75o1 : Array Oper := cO (cL (cR (cB f75)))
def f75a1 : RAnn := ⟨[0, 1, 5, 6, 7, 8], []⟩
def f75c : Code := (.seq (.region 0 f75o0 false) (.seq (.region 1 f75o1 false) .ret))
def f75n : List (Nat × RAnn) := [(0, f75a0), (1, f75a1)]
noncomputable def f55o0 : Array Oper := cO (cL (cB f55))
def f55a0 : RAnn := ⟨[0, 6, 7], []⟩
noncomputable def f55o1 : Array Oper := cO (cL (cL (cR (cB f55))))
def f55a1 : RAnn := ⟨[9, 10, 11, 12, 13], []⟩
noncomputable def f55o2 : Array Oper := cO (cL (cR (cL (cR (cB f55)))))
def f55a2 : RAnn := ⟨[14], []⟩
noncomputable def f55o3 : Array Oper := cO (cL (cL (cR (cR (cL (cR (cB f55)))))))
def f55a3 : RAnn := ⟨[1, 2, 3, 8, 15, 16], []⟩
noncomputable def f55o4 : Array Oper := cO (cL (cR (cR (cB f55))))
def f55a4 : RAnn := ⟨[1, 2, 3, 8, 15, 17, 18, 19, 20, 21, 22, 23, 24, 25, 26], []⟩
def f55c : Code := (.seq (.region 0 f55o0 false) (.seq (.seq (.region 1 f55o1 false) (.seq (.region 2 f55o2 false) (.cond (.tmp 15) (.seq (.region 3 f55o3 false) .ret) .skip))) (.seq (.region 4 f55o4 false) .ret)))
def f55n : List (Nat × RAnn) := [(0, f55a0), (1, f55a1), (2, f55a2), (3, f55a3), (4, f55a4)]
noncomputable def f94o0 : Array Oper := cO (cL (cB f94))
def f94a0 : RAnn := ⟨[0, 4, 5], []⟩
noncomputable def f94o1 : Array Oper := cO (cL (cL (cR (cB f94))))
def f94a1 : RAnn := ⟨[7, 8, 9, 10], []⟩
noncomputable def f94o2 : Array Oper := cO (cL (cR (cL (cR (cB f94)))))
def f94a2 : RAnn := ⟨[11], []⟩
noncomputable def f94o3 : Array Oper := cO (cL (cL (cR (cR (cL (cR (cB f94)))))))
def f94a3 : RAnn := ⟨[1, 2, 6, 12, 13], []⟩
noncomputable def f94o4 : Array Oper := cO (cL (cR (cR (cB f94))))
def f94a4 : RAnn := ⟨[1, 2, 6, 12, 14, 15, 16], []⟩
def f94c : Code := (.seq (.region 0 f94o0 false) (.seq (.seq (.region 1 f94o1 false) (.seq (.region 2 f94o2 false) (.cond (.tmp 12) (.seq (.region 3 f94o3 false) .ret) .skip))) (.seq (.region 4 f94o4 false) .ret)))
def f94n : List (Nat × RAnn) := [(0, f94a0), (1, f94a1), (2, f94a2), (3, f94a3), (4, f94a4)]
noncomputable def f80o0 : Array Oper := cO (cL (cB f80))
def f80a0 : RAnn := ⟨[0, 4, 5], []⟩
noncomputable def f80o1 : Array Oper := cO (cL (cR (cB f80)))
def f80a1 : RAnn := ⟨[1, 2, 8, 9, 10, 11, 12, 13], []⟩
noncomputable def f80o2 : Array Oper := cO (cL (cR (cR (cB f80))))
def f80a2 : RAnn := ⟨[6, 7, 14, 15, 16], []⟩
def f80c : Code := (.seq (.region 0 f80o0 false) (.seq (.region 1 f80o1 false) (.seq (.region 2 f80o2 false) .ret)))
def f80n : List (Nat × RAnn) := [(0, f80a0), (1, f80a1), (2, f80a2)]
noncomputable def f64o0 : Array Oper := cO (cL (cB f64))
def f64a0 : RAnn := ⟨[0, 4], []⟩
noncomputable def f64o1 : Array Oper := cO (cL (cR (cB f64)))
def f64a1 : RAnn := ⟨[1, 2, 5, 7, 8, 9, 10, 11, 12], []⟩
noncomputable def f64o2 : Array Oper := cO (cL (cR (cR (cB f64))))
def f64a2 : RAnn := ⟨[6, 13], []⟩
def f64c : Code := (.seq (.region 0 f64o0 false) (.seq (.region 1 f64o1 false) (.seq (.region 2 f64o2 false) .ret)))
def f64n : List (Nat × RAnn) := [(0, f64a0), (1, f64a1), (2, f64a2)]
noncomputable def f95o0 : Array Oper := cO (cL (cB f95))
def f95a0 : RAnn := ⟨[4], []⟩
noncomputable def f95o1 : Array Oper := cO (cL (cL (cR (cB f95))))
def f95a1 : RAnn := ⟨[6], []⟩
noncomputable def f95o2 : Array Oper := cO (cL (cL (cL (cR (cL (cR (cB f95)))))))
def f95a2 : RAnn := ⟨[], []⟩
noncomputable def f95o3 : Array Oper := cO (cL (cL (cL (cR (cR (cL (cL (cR (cL (cR (cB f95)))))))))))
def f95a3 : RAnn := ⟨[9, 10], []⟩
noncomputable def f95o4 : Array Oper := cO (cL (cR (cL (cL (cR (cR (cL (cL (cR (cL (cR (cB f95))))))))))))
def f95a4 : RAnn := ⟨[11, 12, 13, 14, 15], []⟩
noncomputable def f95o5 : Array Oper := cO (cL (cL (cR (cR (cL (cL (cR (cR (cL (cL (cR (cL (cR (cB f95))))))))))))))
def f95a5 : RAnn := ⟨[0, 1, 5, 7, 8, 16, 17], []⟩
noncomputable def f95o6 : Array Oper := cO (cR (cR (cR (cL (cL (cR (cL (cR (cB f95)))))))))
def f95a6 : RAnn := ⟨[5, 16, 18], []⟩
noncomputable def f95o7 : Array Oper := cO (cL (cR (cR (cB f95))))
def f95a7 : RAnn := ⟨[0, 1, 7, 8, 9], []⟩
def f95b0 : Code := (.seq (.region 2 f95o2 false) (.seq (.cond (.tmp 9) .skip (.exit 0)) (.seq (.block 1 (.seq (.region 3 f95o3 false) (.seq (.region 4 f95o4 false) (.cond (.tmp 16) (.seq (.region 5 f95o5 false) .ret) .skip)))) (.region 6 f95o6 false))))
def f95c : Code := (.seq (.region 0 f95o0 false) (.seq (.seq (.region 1 f95o1 false) (.block 0 (.loop f95b0))) (.seq (.region 7 f95o7 false) .ret)))
def f95n : List (Nat × RAnn) := [(0, f95a0), (1, f95a1), (2, f95a2), (3, f95a3), (4, f95a4), (5, f95a5), (6, f95a6), (7, f95a7)]
noncomputable def f82o0 : Array Oper := cO (cL (cB f82))
def f82a0 : RAnn := ⟨[4], []⟩
noncomputable def f82o1 : Array Oper := cO (cL (cR (cB f82)))
def f82a1 : RAnn := ⟨[0, 1, 5, 6, 7, 8], []⟩
def f82c : Code := (.seq (.region 0 f82o0 false) (.seq (.region 1 f82o1 false) .ret))
def f82n : List (Nat × RAnn) := [(0, f82a0), (1, f82a1)]
noncomputable def f96o0 : Array Oper := cO (cL (cB f96))
def f96a0 : RAnn := ⟨[4], []⟩
noncomputable def f96o1 : Array Oper := cO (cL (cL (cR (cB f96))))
def f96a1 : RAnn := ⟨[6], []⟩
noncomputable def f96o2 : Array Oper := cO (cL (cL (cL (cR (cL (cR (cB f96)))))))
def f96a2 : RAnn := ⟨[], []⟩
noncomputable def f96o3 : Array Oper := cO (cL (cL (cL (cR (cR (cL (cL (cR (cL (cR (cB f96)))))))))))
def f96a3 : RAnn := ⟨[9, 10], []⟩
noncomputable def f96o4 : Array Oper := cO (cL (cR (cL (cL (cR (cR (cL (cL (cR (cL (cR (cB f96))))))))))))
def f96a4 : RAnn := ⟨[11, 12, 13, 14, 15], []⟩
noncomputable def f96o5 : Array Oper := cO (cL (cL (cR (cR (cL (cL (cR (cR (cL (cL (cR (cL (cR (cB f96))))))))))))))
def f96a5 : RAnn := ⟨[0, 1, 5, 7, 8, 16, 17], []⟩
noncomputable def f96o6 : Array Oper := cO (cR (cR (cR (cL (cL (cR (cL (cR (cB f96)))))))))
def f96a6 : RAnn := ⟨[5, 16, 18], []⟩
noncomputable def f96o7 : Array Oper := cO (cL (cR (cR (cB f96))))
def f96a7 : RAnn := ⟨[0, 1, 7, 8, 9], []⟩
def f96b0 : Code := (.seq (.region 2 f96o2 false) (.seq (.cond (.tmp 9) .skip (.exit 0)) (.seq (.block 1 (.seq (.region 3 f96o3 false) (.seq (.region 4 f96o4 false) (.cond (.tmp 16) (.seq (.region 5 f96o5 false) .ret) .skip)))) (.region 6 f96o6 false))))
def f96c : Code := (.seq (.region 0 f96o0 false) (.seq (.seq (.region 1 f96o1 false) (.block 0 (.loop f96b0))) (.seq (.region 7 f96o7 false) .ret)))
def f96n : List (Nat × RAnn) := [(0, f96a0), (1, f96a1), (2, f96a2), (3, f96a3), (4, f96a4), (5, f96a5), (6, f96a6), (7, f96a7)]
noncomputable def f84o0 : Array Oper := cO (cL (cB f84))
def f84a0 : RAnn := ⟨[4], []⟩
noncomputable def f84o1 : Array Oper := cO (cL (cR (cB f84)))
def f84a1 : RAnn := ⟨[0, 1, 5, 6, 7, 8], []⟩
def f84c : Code := (.seq (.region 0 f84o0 false) (.seq (.region 1 f84o1 false) .ret))
def f84n : List (Nat × RAnn) := [(0, f84a0), (1, f84a1)]
noncomputable def f101o0 : Array Oper := cO (cL (cB f101))
def f101a0 : RAnn := ⟨[0, 3], []⟩
noncomputable def f101o1 : Array Oper := cO (cL (cR (cB f101)))
def f101a1 : RAnn := ⟨[1, 2, 4, 5, 6, 7], []⟩
def f101c : Code := (.seq (.region 0 f101o0 false) (.seq (.region 1 f101o1 false) .ret))
def f101n : List (Nat × RAnn) := [(0, f101a0), (1, f101a1)]
noncomputable def f97o0 : Array Oper := cO (cL (cB f97))
def f97a0 : RAnn := ⟨[0, 1, 4, 5], []⟩
noncomputable def f97o1 : Array Oper := cO (cL (cR (cB f97)))
def f97a1 : RAnn := ⟨[2, 3, 7, 8, 9, 10], []⟩
noncomputable def f97o2 : Array Oper := cO (cL (cR (cR (cB f97))))
def f97a2 : RAnn := ⟨[6, 11, 12, 13], []⟩
def f97c : Code := (.seq (.region 0 f97o0 false) (.seq (.region 1 f97o1 false) (.seq (.region 2 f97o2 false) .ret)))
def f97n : List (Nat × RAnn) := [(0, f97a0), (1, f97a1), (2, f97a2)]
noncomputable def f86o0 : Array Oper := cO (cL (cB f86))
def f86a0 : RAnn := ⟨[0, 1, 4], []⟩
noncomputable def f86o1 : Array Oper := cO (cL (cR (cB f86)))
def f86a1 : RAnn := ⟨[7, 8, 9, 10, 11, 12, 13], []⟩
noncomputable def f86o2 : Array Oper := cO (cL (cR (cR (cB f86))))
def f86a2 : RAnn := ⟨[2, 3, 5, 6, 14, 15, 16, 17, 18, 19, 20, 21, 22, 23, 24, 25, 26, 27, 28, 29, 30, 31, 32, 33, 34, 35, 36], []⟩
def f86c : Code := (.seq (.region 0 f86o0 false) (.seq (.region 1 f86o1 false) (.seq (.region 2 f86o2 true) .ret)))
def f86n : List (Nat × RAnn) := [(0, f86a0), (1, f86a1), (2, f86a2)]
noncomputable def f85o0 : Array Oper := cO (cL (cB f85))
def f85a0 : RAnn := ⟨[0, 3], []⟩
noncomputable def f85o1 : Array Oper := cO (cL (cR (cB f85)))
def f85a1 : RAnn := ⟨[1, 2, 4, 5, 6, 7], []⟩
def f85c : Code := (.seq (.region 0 f85o0 false) (.seq (.region 1 f85o1 false) .ret))
def f85n : List (Nat × RAnn) := [(0, f85a0), (1, f85a1)]
noncomputable def f83o0 : Array Oper := cO (cL (cB f83))
def f83a0 : RAnn := ⟨[3], []⟩
noncomputable def f83o1 : Array Oper := cO (cL (cR (cB f83)))
def f83a1 : RAnn := ⟨[0, 1, 4, 5, 6, 7, 8, 9, 10, 11, 12, 13, 14, 15, 16], []⟩
def f83c : Code := (.seq (.region 0 f83o0 false) (.seq (.region 1 f83o1 false) .ret))
def f83n : List (Nat × RAnn) := [(0, f83a0), (1, f83a1)]
noncomputable def f67o0 : Array Oper := cO (cL (cB f67))
def f67a0 : RAnn := ⟨[0, 4], []⟩
noncomputable def f67o1 : Array Oper := cO (cL (cR (cB f67)))
def f67a1 : RAnn := ⟨[1, 2, 5, 6, 7, 8, 9, 10, 11, 12, 13], []⟩
def f67c : Code := (.seq (.region 0 f67o0 false) (.seq (.region 1 f67o1 false) .ret))
def f67n : List (Nat × RAnn) := [(0, f67a0), (1, f67a1)]
noncomputable def f56o0 : Array Oper := cO (cL (cB f56))
def f56a0 : RAnn := ⟨[0, 6, 7], []⟩
noncomputable def f56o1 : Array Oper := cO (cL (cL (cR (cB f56))))
def f56a1 : RAnn := ⟨[9, 10, 11], []⟩
noncomputable def f56o2 : Array Oper := cO (cL (cR (cL (cR (cB f56)))))
def f56a2 : RAnn := ⟨[12], []⟩
noncomputable def f56o3 : Array Oper := cO (cL (cL (cR (cR (cL (cR (cB f56)))))))
def f56a3 : RAnn := ⟨[1, 2, 3, 8, 13, 14], []⟩
noncomputable def f56o4 : Array Oper := cO (cL (cR (cR (cB f56))))
def f56a4 : RAnn := ⟨[1, 2, 3, 8, 13, 15, 16, 17, 18, 19, 20, 21], []⟩
def f56c : Code := (.seq (.region 0 f56o0 false) (.seq (.seq (.region 1 f56o1 false) (.seq (.region 2 f56o2 false) (.cond (.tmp 13) (.seq (.region 3 f56o3 false) .ret) .skip))) (.seq (.region 4 f56o4 false) .ret)))
def f56n : List (Nat × RAnn) := [(0, f56a0), (1, f56a1), (2, f56a2), (3, f56a3), (4, f56a4)]
noncomputable def f33o0 : Array Oper := cO (cL (cB f33))
def f33a0 : RAnn := ⟨[0, 2, 6, 7], []⟩
noncomputable def f33o1 : Array Oper := cO (cL (cL (cR (cB f33))))
def f33a1 : RAnn := ⟨[14, 15, 16], []⟩
noncomputable def f33o2 : Array Oper := cO (cL (cL (cR (cL (cR (cB f33))))))
def f33a2 : RAnn := ⟨[1, 3, 5, 17], []⟩
noncomputable def f33o3 : Array Oper := cO (cL (cR (cR (cB f33))))
def f33a3 : RAnn := ⟨[17, 18, 19, 20, 21, 22, 23, 24], []⟩
noncomputable def f33o4 : Array Oper := cO (cL (cL (cR (cR (cR (cB f33))))))
def f33a4 : RAnn := ⟨[9, 25], []⟩
noncomputable def f33o5 : Array Oper := cO (cL (cL (cR (cL (cR (cR (cR (cB f33))))))))
def f33a5 : RAnn := ⟨[1, 3, 5, 8, 26], []⟩
noncomputable def f33o6 : Array Oper := cO (cL (cL (cR (cR (cR (cR (cB f33)))))))
def f33a6 : RAnn := ⟨[26, 27], []⟩
noncomputable def f33o7 : Array Oper := cO (cL (cL (cR (cL (cR (cR (cR (cR (cB f33)))))))))
def f33a7 : RAnn := ⟨[1, 11, 28, 29, 30, 31, 32, 33, 34, 35], []⟩
noncomputable def f33o8 : Array Oper := cO (cL (cR (cL (cR (cL (cR (cR (cR (cR (cB f33))))))))))
def f33a8 : RAnn := ⟨[10, 36], []⟩
noncomputable def f33o9 : Array Oper := cO (cL (cL (cR (cR (cL (cR (cL (cR (cR (cR (cR (cB f33))))))))))))
def f33a9 : RAnn := ⟨[3, 5, 8, 37], []⟩
noncomputable def f33o10 : Array Oper := cO (cL (cL (cR (cR (cR (cR (cR (cB f33))))))))
def f33a10 : RAnn := ⟨[1, 3, 5, 13, 28, 37, 38, 39, 40, 41, 42, 43, 44, 45], []⟩
noncomputable def f33o11 : Array Oper := cO (cL (cR (cL (cR (cR (cR (cR (cR (cB f33)))))))))
def f33a11 : RAnn := ⟨[12, 46], []⟩
noncomputable def f33o12 : Array Oper := cO (cL (cL (cR (cR (cL (cR (cR (cR (cR (cR (cB f33)))))))))))
def f33a12 : RAnn := ⟨[8, 47], []⟩
noncomputable def f33o13 : Array Oper := cO (cL (cR (cR (cR (cR (cR (cR (cB f33))))))))
def f33a13 : RAnn := ⟨[8, 47, 48], []⟩
def f33c : Code := (.seq (.region 0 f33o0 false) (.seq (.seq (.region 1 f33o1 false) (.cond (.tmp 17) (.seq (.region 2 f33o2 false) .ret) .skip)) (.seq (.region 3 f33o3 false) (.seq (.seq (.region 4 f33o4 false) (.cond (.tmp 26) (.seq (.region 5 f33o5 false) .ret) .skip)) (.seq (.seq (.region 6 f33o6 false) (.cond (.tmp 28) (.seq (.region 7 f33o7 false) (.seq (.region 8 f33o8 false) (.cond (.tmp 37) (.seq (.region 9 f33o9 false) .ret) .skip))) .skip)) (.seq (.seq (.region 10 f33o10 false) (.seq (.region 11 f33o11 false) (.cond (.tmp 47) (.seq (.region 12 f33o12 false) .ret) .skip))) (.seq (.region 13 f33o13 false) .ret)))))))
def f33n : List (Nat × RAnn) := [(0, f33a0), (1, f33a1), (2, f33a2), (3, f33a3), (4, f33a4), (5, f33a5), (6, f33a6), (7, f33a7), (8, f33a8), (9, f33a9), (10, f33a10), (11, f33a11), (12, f33a12), (13, f33a13)]
noncomputable def f20o0 : Array Oper := cO (cL (cB f20))
def f20a0 : RAnn := ⟨[0, 4, 5], []⟩
noncomputable def f20o1 : Array Oper := cO (cL (cL (cR (cB f20))))
def f20a1 : RAnn := ⟨[12, 13], []⟩
noncomputable def f20o2 : Array Oper := cO (cL (cL (cR (cL (cR (cB f20))))))
def f20a2 : RAnn := ⟨[1, 2, 14], []⟩
noncomputable def f20o3 : Array Oper := cO (cL (cR (cR (cB f20))))
def f20a3 : RAnn := ⟨[14], []⟩
noncomputable def f20o4 : Array Oper := cO (cL (cR (cR (cR (cB f20)))))
def f20a4 : RAnn := ⟨[], [(0, { keep := [0] })]⟩
noncomputable def f20o5 : Array Oper := cO (cL (cL (cR (cR (cR (cR (cB f20)))))))
def f20a5 : RAnn := ⟨[1], []⟩
noncomputable def f20o6 : Array Oper := cO (cL (cL (cL (cR (cL (cR (cR (cR (cR (cB f20))))))))))
def f20a6 : RAnn := ⟨[], []⟩
noncomputable def f20o7 : Array Oper := cO (cL (cL (cL (cR (cR (cL (cL (cR (cL (cR (cR (cR (cR (cB f20))))))))))))))
def f20a7 : RAnn := ⟨[18, 19, 20], []⟩
noncomputable def f20o8 : Array Oper := cO (cL (cR (cL (cL (cR (cR (cL (cL (cR (cL (cR (cR (cR (cR (cB f20)))))))))))))))
def f20a8 : RAnn := ⟨[6, 9, 21, 22, 23, 24, 25, 26, 27], []⟩
noncomputable def f20o9 : Array Oper := cO (cL (cL (cR (cR (cL (cL (cR (cR (cL (cL (cR (cL (cR (cR (cR (cR (cB f20)))))))))))))))))
def f20a9 : RAnn := ⟨[28], []⟩
noncomputable def f20o10 : Array Oper := cO (cL (cL (cR (cL (cR (cR (cL (cL (cR (cR (cL (cL (cR (cL (cR (cR (cR (cR (cB f20)))))))))))))))))))
def f20a10 : RAnn := ⟨[2, 7, 10, 11, 15, 16, 17, 29, 30], []⟩
noncomputable def f20o11 : Array Oper := cO (cL (cR (cR (cR (cL (cL (cR (cR (cL (cL (cR (cL (cR (cR (cR (cR (cB f20)))))))))))))))))
def f20a11 : RAnn := ⟨[10, 29, 31], []⟩
noncomputable def f20o12 : Array Oper := cO (cR (cR (cR (cR (cL (cL (cR (cR (cL (cL (cR (cL (cR (cR (cR (cR (cB f20)))))))))))))))))
def f20a12 : RAnn := ⟨[11, 32, 33, 34, 35], [(0, { tk := [7], keep := [0] }), (3, { tk := [32], keep := [0] }), (4, { tk := [35], keep := [0] })]⟩
noncomputable def f20o13 : Array Oper := cO (cR (cR (cR (cL (cL (cR (cL (cR (cR (cR (cR (cB f20))))))))))))
def f20a13 : RAnn := ⟨[36], []⟩
noncomputable def f20o14 : Array Oper := cO (cL (cR (cR (cR (cR (cR (cB f20)))))))
def f20a14 : RAnn := ⟨[2, 6, 7, 15, 16, 17, 18, 37], []⟩
def f20b0 : Code := (.seq (.region 6 f20o6 false) (.seq (.cond (.tmp 18) .skip (.exit 0)) (.seq (.block 1 (.seq (.region 7 f20o7 false) (.seq (.region 8 f20o8 false) (.seq (.seq (.region 9 f20o9 false) (.cond (.tmp 29) (.seq (.region 10 f20o10 false) .ret) .skip)) (.seq (.region 11 f20o11 false) (.region 12 f20o12 false)))))) (.region 13 f20o13 false))))
def f20c : Code := (.seq (.region 0 f20o0 false) (.seq (.seq (.region 1 f20o1 false) (.cond (.tmp 14) (.seq (.region 2 f20o2 false) .ret) .skip)) (.seq (.region 3 f20o3 false) (.seq (.region 4 f20o4 false) (.seq (.seq (.region 5 f20o5 false) (.block 0 (.loop f20b0))) (.seq (.region 14 f20o14 false) .ret))))))
def f20n : List (Nat × RAnn) := [(0, f20a0), (1, f20a1), (2, f20a2), (3, f20a3), (4, f20a4), (5, f20a5), (6, f20a6), (7, f20a7), (8, f20a8), (9, f20a9), (10, f20a10), (11, f20a11), (12, f20a12), (13, f20a13), (14, f20a14)]
noncomputable def f11o0 : Array Oper := cO (cL (cB f11))
def f11a0 : RAnn := ⟨[0, 4, 5], []⟩
noncomputable def f11o1 : Array Oper := cO (cL (cL (cR (cB f11))))
def f11a1 : RAnn := ⟨[8, 9], []⟩
noncomputable def f11o2 : Array Oper := cO (cL (cL (cR (cL (cR (cB f11))))))
def f11a2 : RAnn := ⟨[1, 2, 10], []⟩
noncomputable def f11o3 : Array Oper := cO (cL (cR (cR (cB f11))))
def f11a3 : RAnn := ⟨[1, 2, 10, 11, 12, 13, 14, 15, 16], []⟩
noncomputable def f11o4 : Array Oper := cO (cL (cL (cR (cR (cR (cB f11))))))
def f11a4 : RAnn := ⟨[6, 17], []⟩
noncomputable def f11o5 : Array Oper := cO (cL (cL (cR (cL (cR (cR (cR (cB f11))))))))
def f11a5 : RAnn := ⟨[7, 18], []⟩
noncomputable def f11o6 : Array Oper := cO (cL (cR (cR (cR (cR (cB f11))))))
def f11a6 : RAnn := ⟨[7, 18, 19], []⟩
def f11c : Code := (.seq (.region 0 f11o0 false) (.seq (.seq (.region 1 f11o1 false) (.cond (.tmp 10) (.seq (.region 2 f11o2 false) .ret) .skip)) (.seq (.region 3 f11o3 false) (.seq (.seq (.region 4 f11o4 false) (.cond (.tmp 18) (.seq (.region 5 f11o5 false) .ret) .skip)) (.seq (.region 6 f11o6 false) .ret)))))
def f11n : List (Nat × RAnn) := [(0, f11a0), (1, f11a1), (2, f11a2), (3, f11a3), (4, f11a4), (5, f11a5), (6, f11a6)]
noncomputable def f81o0 : Array Oper := cO (cL (cB f81))
def f81a0 : RAnn := ⟨[4], []⟩
noncomputable def f81o1 : Array Oper := cO (cL (cL (cR (cB f81))))
def f81a1 : RAnn := ⟨[6], []⟩
noncomputable def f81o2 : Array Oper := cO (cL (cL (cL (cR (cL (cR (cB f81)))))))
def f81a2 : RAnn := ⟨[], []⟩
noncomputable def f81o3 : Array Oper := cO (cL (cL (cL (cR (cR (cL (cL (cR (cL (cR (cB f81)))))))))))
def f81a3 : RAnn := ⟨[9, 10], []⟩
noncomputable def f81o4 : Array Oper := cO (cL (cR (cL (cL (cR (cR (cL (cL (cR (cL (cR (cB f81))))))))))))
def f81a4 : RAnn := ⟨[11, 12, 13, 14, 15], []⟩
noncomputable def f81o5 : Array Oper := cO (cL (cL (cR (cR (cL (cL (cR (cR (cL (cL (cR (cL (cR (cB f81))))))))))))))
def f81a5 : RAnn := ⟨[0, 1, 5, 7, 8, 16, 17], []⟩
noncomputable def f81o6 : Array Oper := cO (cR (cR (cR (cL (cL (cR (cL (cR (cB f81)))))))))
def f81a6 : RAnn := ⟨[5, 16, 18], []⟩
noncomputable def f81o7 : Array Oper := cO (cL (cR (cR (cB f81))))
def f81a7 : RAnn := ⟨[0, 1, 7, 8, 9], []⟩
def f81b0 : Code := (.seq (.region 2 f81o2 false) (.seq (.cond (.tmp 9) .skip (.exit 0)) (.seq (.block 1 (.seq (.region 3 f81o3 false) (.seq (.region 4 f81o4 false) (.cond (.tmp 16) (.seq (.region 5 f81o5 false) .ret) .skip)))) (.region 6 f81o6 false))))
def f81c : Code := (.seq (.region 0 f81o0 false) (.seq (.seq (.region 1 f81o1 false) (.block 0 (.loop f81b0))) (.seq (.region 7 f81o7 false) .ret)))
def f81n : List (Nat × RAnn) := [(0, f81a0), (1, f81a1), (2, f81a2), (3, f81a3), (4, f81a4), (5, f81a5), (6, f81a6), (7, f81a7)]
noncomputable def f65o0 : Array Oper := cO (cL (cB f65))
def f65a0 : RAnn := ⟨[4], []⟩
noncomputable def f65o1 : Array Oper := cO (cL (cR (cB f65)))
def f65a1 : RAnn := ⟨[0, 1, 5, 6, 7, 8], []⟩
def f65c : Code := (.seq (.region 0 f65o0 false) (.seq (.region 1 f65o1 false) .ret))
def f65n : List (Nat × RAnn) := [(0, f65a0), (1, f65a1)]
noncomputable def f66o0 : Array Oper := cO (cL (cB f66))
def f66a0 : RAnn := ⟨[3], []⟩
noncomputable def f66o1 : Array Oper := cO (cL (cR (cB f66)))
def f66a1 : RAnn := ⟨[0, 1, 4, 5, 6, 7], []⟩
def f66c : Code := (.seq (.region 0 f66o0 false) (.seq (.region 1 f66o1 false) .ret))
def f66n : List (Nat × RAnn) := [(0, f66a0), (1, f66a1)]
noncomputable def f43o0 : Array Oper := cO (cL (cB f43))
def f43a0 : RAnn := ⟨[0, 7], []⟩
noncomputable def f43o1 : Array Oper := cO (cL (cL (cR (cB f43))))
def f43a1 : RAnn := ⟨[10, 11, 12], []⟩
noncomputable def f43o2 : Array Oper := cO (cL (cR (cL (cR (cB f43)))))
def f43a2 : RAnn := ⟨[13], []⟩
noncomputable def f43o3 : Array Oper := cO (cL (cL (cR (cR (cL (cR (cB f43)))))))
def f43a3 : RAnn := ⟨[1, 2, 3, 8, 14, 15, 16], []⟩
noncomputable def f43o4 : Array Oper := cO (cL (cR (cR (cB f43))))
def f43a4 : RAnn := ⟨[1, 3, 8, 14, 17, 18, 19, 20, 21], []⟩
noncomputable def f43o5 : Array Oper := cO (cL (cL (cR (cR (cR (cB f43))))))
def f43a5 : RAnn := ⟨[2, 22, 23], []⟩
noncomputable def f43o6 : Array Oper := cO (cL (cL (cR (cL (cR (cR (cR (cB f43))))))))
def f43a6 : RAnn := ⟨[9, 24, 25], []⟩
noncomputable def f43o7 : Array Oper := cO (cL (cR (cR (cR (cR (cB f43))))))
def f43a7 : RAnn := ⟨[9, 24, 26], []⟩
def f43c : Code := (.seq (.region 0 f43o0 false) (.seq (.seq (.region 1 f43o1 false) (.seq (.region 2 f43o2 false) (.cond (.tmp 14) (.seq (.region 3 f43o3 false) .ret) .skip))) (.seq (.region 4 f43o4 false) (.seq (.seq (.region 5 f43o5 false) (.cond (.tmp 24) (.seq (.region 6 f43o6 false) .ret) .skip)) (.seq (.region 7 f43o7 false) .ret)))))
def f43n : List (Nat × RAnn) := [(0, f43a0), (1, f43a1), (2, f43a2), (3, f43a3), (4, f43a4), (5, f43a5), (6, f43a6), (7, f43a7)]
noncomputable def f44o0 : Array Oper := cO (cL (cB f44))
def f44a0 : RAnn := ⟨[2], []⟩
noncomputable def f44o1 : Array Oper := cO (cL (cR (cB f44)))
def f44a1 : RAnn := ⟨[0, 3, 4, 5, 6], []⟩
def f44c : Code := (.seq (.region 0 f44o0 false) (.seq (.region 1 f44o1 false) .ret))
def f44n : List (Nat × RAnn) := [(0, f44a0), (1, f44a1)]
noncomputable def f24o0 : Array Oper := cO (cL (cB f24))
def f24a0 : RAnn := ⟨[0, 6, 7], []⟩
noncomputable def f24o1 : Array Oper := cO (cL (cL (cR (cB f24))))
def f24a1 : RAnn := ⟨[1, 3, 8, 16, 17, 18, 19, 20, 21, 22, 23], []⟩
noncomputable def f24o2 : Array Oper := cO (cL (cR (cL (cR (cB f24)))))
def f24a2 : RAnn := ⟨[24], []⟩
noncomputable def f24o3 : Array Oper := cO (cL (cL (cR (cR (cL (cR (cB f24)))))))
def f24a3 : RAnn := ⟨[2, 9, 25, 26], []⟩
noncomputable def f24o4 : Array Oper := cO (cL (cR (cR (cB f24))))
def f24a4 : RAnn := ⟨[9, 25], [(0, { keep := [0] })]⟩
noncomputable def f24o5 : Array Oper := cO (cL (cL (cR (cR (cR (cB f24))))))
def f24a5 : RAnn := ⟨[2], []⟩
noncomputable def f24o6 : Array Oper := cO (cL (cL (cL (cR (cL (cR (cR (cR (cB f24)))))))))
def f24a6 : RAnn := ⟨[], []⟩
noncomputable def f24o7 : Array Oper := cO (cL (cL (cL (cR (cR (cL (cL (cR (cL (cR (cR (cR (cB f24)))))))))))))
def f24a7 : RAnn := ⟨[30, 31, 32], []⟩
noncomputable def f24o8 : Array Oper := cO (cL (cR (cL (cL (cR (cR (cL (cL (cR (cL (cR (cR (cR (cB f24))))))))))))))
def f24a8 : RAnn := ⟨[], [(0, { site := true })]⟩
noncomputable def f24o9 : Array Oper := cO (cL (cL (cR (cR (cL (cL (cR (cR (cL (cL (cR (cL (cR (cR (cR (cB f24))))))))))))))))
def f24a9 : RAnn := ⟨[12], []⟩
noncomputable def f24o10 : Array Oper := cO (cL (cL (cL (cR (cL (cR (cR (cL (cL (cR (cR (cL (cL (cR (cL (cR (cR (cR (cB f24)))))))))))))))))))
def f24a10 : RAnn := ⟨[], []⟩
noncomputable def f24o11 : Array Oper := cO (cL (cL (cL (cR (cR (cL (cL (cR (cL (cR (cR (cL (cL (cR (cR (cL (cL (cR (cL (cR (cR (cR (cB f24)))))))))))))))))))))))
def f24a11 : RAnn := ⟨[36, 37, 38], []⟩
noncomputable def f24o12 : Array Oper := cO (cR (cL (cL (cR (cR (cL (cL (cR (cL (cR (cR (cL (cL (cR (cR (cL (cL (cR (cL (cR (cR (cR (cB f24)))))))))))))))))))))))
def f24a12 : RAnn := ⟨[15, 39, 40, 41, 42, 43, 44, 45, 46, 47, 48, 49, 50, 51, 52, 53, 54, 55, 56], [(18, { eff := true })]⟩
noncomputable def f24o13 : Array Oper := cO (cR (cR (cR (cL (cL (cR (cL (cR (cR (cL (cL (cR (cR (cL (cL (cR (cL (cR (cR (cR (cB f24)))))))))))))))))))))
def f24a13 : RAnn := ⟨[57], []⟩
noncomputable def f24o14 : Array Oper := cO (cR (cR (cR (cL (cL (cR (cR (cL (cL (cR (cL (cR (cR (cR (cB f24)))))))))))))))
def f24a14 : RAnn := ⟨[13, 33, 34, 35, 36, 58, 59, 60, 61, 62], [(0, { tk := [10], keep := [0] }), (4, { tk := [58], keep := [0] }), (5, { tk := [62], keep := [0] })]⟩
noncomputable def f24o15 : Array Oper := cO (cR (cR (cR (cL (cL (cR (cL (cR (cR (cR (cB f24)))))))))))
def f24a15 : RAnn := ⟨[63], []⟩
noncomputable def f24o16 : Array Oper := cO (cL (cR (cR (cR (cR (cB f24))))))
def f24a16 : RAnn := ⟨[10, 27, 28, 29, 30, 64, 65], []⟩
def f24b0 : Code := (.seq (.region 10 f24o10 false) (.seq (.cond (.tmp 36) .skip (.exit 2)) (.seq (.block 3 (.seq (.region 11 f24o11 false) (.region 12 f24o12 true))) (.region 13 f24o13 false))))
def f24b1 : Code := (.seq (.region 6 f24o6 false) (.seq (.cond (.tmp 30) .skip (.exit 0)) (.seq (.block 1 (.seq (.region 7 f24o7 false) (.seq (.region 8 f24o8 false) (.seq (.seq (.region 9 f24o9 false) (.block 2 (.loop f24b0))) (.region 14 f24o14 false))))) (.region 15 f24o15 false))))
def f24c : Code := (.seq (.region 0 f24o0 false) (.seq (.seq (.region 1 f24o1 false) (.seq (.region 2 f24o2 false) (.cond (.tmp 25) (.seq (.region 3 f24o3 false) .ret) .skip))) (.seq (.region 4 f24o4 false) (.seq (.seq (.region 5 f24o5 false) (.block 0 (.loop f24b1))) (.seq (.region 16 f24o16 false) .ret)))))
def f24n : List (Nat × RAnn) := [(0, f24a0), (1, f24a1), (2, f24a2), (3, f24a3), (4, f24a4), (5, f24a5), (6, f24a6), (7, f24a7), (8, f24a8), (9, f24a9), (10, f24a10), (11, f24a11), (12, f24a12), (13, f24a13), (14, f24a14), (15, f24a15), (16, f24a16)]
noncomputable def f14o0 : Array Oper := cO (cL (cB f14))
def f14a0 : RAnn := ⟨[0, 1, 4, 5], []⟩
noncomputable def f14o1 : Array Oper := cO (cL (cR (cB f14)))
def f14a1 : RAnn := ⟨[10, 11, 12, 13, 14, 15, 16], []⟩
noncomputable def f14o2 : Array Oper := cO (cL (cL (cR (cR (cB f14)))))
def f14a2 : RAnn := ⟨[17], []⟩
noncomputable def f14o3 : Array Oper := cO (cL (cL (cR (cL (cR (cR (cB f14)))))))
def f14a3 : RAnn := ⟨[2, 3, 6, 7, 18, 19], []⟩
noncomputable def f14o4 : Array Oper := cO (cL (cR (cR (cR (cB f14)))))
def f14a4 : RAnn := ⟨[7, 18, 20, 21, 22, 23, 24, 25, 26, 27], []⟩
noncomputable def f14o5 : Array Oper := cO (cL (cL (cR (cR (cR (cR (cB f14)))))))
def f14a5 : RAnn := ⟨[28, 29], []⟩
noncomputable def f14o6 : Array Oper := cO (cL (cR (cL (cR (cR (cR (cR (cB f14))))))))
def f14a6 : RAnn := ⟨[30, 31, 32, 33, 34, 35], []⟩
noncomputable def f14o7 : Array Oper := cO (cL (cL (cR (cR (cR (cR (cR (cB f14))))))))
def f14a7 : RAnn := ⟨[30, 36, 37, 38], []⟩
noncomputable def f14o8 : Array Oper := cO (cL (cL (cR (cL (cR (cR (cR (cR (cR (cB f14))))))))))
def f14a8 : RAnn := ⟨[2, 3, 6, 8, 39, 40, 41], []⟩
noncomputable def f14o9 : Array Oper := cO (cL (cR (cR (cR (cR (cR (cR (cB f14))))))))
def f14a9 : RAnn := ⟨[2, 3, 6, 39, 42, 43, 44, 45, 46, 47, 48, 49, 50, 51], []⟩
noncomputable def f14o10 : Array Oper := cO (cL (cL (cR (cR (cR (cR (cR (cR (cR (cB f14))))))))))
def f14a10 : RAnn := ⟨[52], []⟩
noncomputable def f14o11 : Array Oper := cO (cL (cL (cR (cL (cR (cR (cR (cR (cR (cR (cR (cB f14))))))))))))
def f14a11 : RAnn := ⟨[7, 8, 9, 53, 54], []⟩
noncomputable def f14o12 : Array Oper := cO (cL (cR (cR (cR (cR (cR (cR (cR (cR (cB f14))))))))))
def f14a12 : RAnn := ⟨[7, 8, 9, 53, 55, 56, 57, 58, 59], []⟩
def f14c : Code := (.seq (.region 0 f14o0 false) (.seq (.region 1 f14o1 false) (.seq (.seq (.region 2 f14o2 false) (.cond (.tmp 18) (.seq (.region 3 f14o3 false) .ret) .skip)) (.seq (.region 4 f14o4 true) (.seq (.seq (.region 5 f14o5 false) (.cond (.tmp 30) (.region 6 f14o6 false) .skip)) (.seq (.seq (.region 7 f14o7 false) (.cond (.tmp 39) (.seq (.region 8 f14o8 false) .ret) .skip)) (.seq (.region 9 f14o9 true) (.seq (.seq (.region 10 f14o10 false) (.cond (.tmp 53) (.seq (.region 11 f14o11 false) .ret) .skip)) (.seq (.region 12 f14o12 false) .ret)))))))))
def f14n : List (Nat × RAnn) := [(0, f14a0), (1, f14a1), (2, f14a2), (3, f14a3), (4, f14a4), (5, f14a5), (6, f14a6), (7, f14a7), (8, f14a8), (9, f14a9), (10, f14a10), (11, f14a11), (12, f14a12)]
noncomputable def f8o0 : Array Oper := cO (cL (cB f8))
def f8a0 : RAnn := ⟨[0], []⟩
noncomputable def f8o1 : Array Oper := cO (cL (cR (cB f8)))
def f8a1 : RAnn := ⟨[6, 7, 8, 9], []⟩
noncomputable def f8o2 : Array Oper := cO (cL (cR (cR (cB f8))))
def f8a2 : RAnn := ⟨[1, 10, 11, 12, 13, 14, 15], []⟩
noncomputable def f8o3 : Array Oper := cO (cL (cR (cR (cR (cB f8)))))
def f8a3 : RAnn := ⟨[16, 17, 18, 19, 20, 21], []⟩
noncomputable def f8o4 : Array Oper := cO (cL (cR (cR (cR (cR (cB f8))))))
def f8a4 : RAnn := ⟨[2, 3, 4, 5, 22, 23, 24, 25, 26, 27, 28, 29, 30, 31, 32, 33, 34, 35], []⟩
def f8c : Code := (.seq (.region 0 f8o0 false) (.seq (.region 1 f8o1 false) (.seq (.region 2 f8o2 true) (.seq (.region 3 f8o3 false) (.seq (.region 4 f8o4 false) .ret)))))
def f8n : List (Nat × RAnn) := [(0, f8a0), (1, f8a1), (2, f8a2), (3, f8a3), (4, f8a4)]
noncomputable def f46o0 : Array Oper := cO (cL (cB f46))
def f46a0 : RAnn := ⟨[0, 4], []⟩
noncomputable def f46o1 : Array Oper := cO (cL (cR (cB f46)))
def f46a1 : RAnn := ⟨[1, 2, 5, 6, 7, 8, 9, 10, 11, 12, 13], []⟩
def f46c : Code := (.seq (.region 0 f46o0 false) (.seq (.region 1 f46o1 false) .ret))
def f46n : List (Nat × RAnn) := [(0, f46a0), (1, f46a1)]
noncomputable def f29o0 : Array Oper := cO (cL (cB f29))
def f29a0 : RAnn := ⟨[0, 4], []⟩
noncomputable def f29o1 : Array Oper := cO (cL (cL (cR (cB f29))))
def f29a1 : RAnn := ⟨[6, 7], []⟩
noncomputable def f29o2 : Array Oper := cO (cL (cL (cR (cL (cR (cB f29))))))
def f29a2 : RAnn := ⟨[1, 2, 8], []⟩
noncomputable def f29o3 : Array Oper := cO (cL (cL (cR (cR (cB f29)))))
def f29a3 : RAnn := ⟨[8], []⟩
noncomputable def f29o4 : Array Oper := cO (cL (cL (cL (cL (cR (cL (cR (cR (cB f29)))))))))
def f29a4 : RAnn := ⟨[9, 10, 11], []⟩
noncomputable def f29o5 : Array Oper := cO (cR (cR (cL (cL (cR (cL (cR (cR (cB f29)))))))))
def f29a5 : RAnn := ⟨[13, 14, 21], []⟩
noncomputable def f29o6 : Array Oper := cO (cL (cL (cL (cR (cL (cL (cR (cL (cR (cR (cB f29)))))))))))
def f29a6 : RAnn := ⟨[12, 15, 16, 17, 18, 19, 20], []⟩
noncomputable def f29o7 : Array Oper := cO (cL (cL (cR (cL (cL (cR (cL (cL (cR (cL (cR (cR (cB f29)))))))))))))
def f29a7 : RAnn := ⟨[1, 2, 5, 21], []⟩
noncomputable def f29o8 : Array Oper := cO (cL (cR (cR (cR (cB f29)))))
def f29a8 : RAnn := ⟨[1, 2, 5, 12], []⟩
def f29b0 : Code := (.seq (.seq (.region 4 f29o4 false) (.cond (.tmp 12) .skip (.exit 0))) (.seq (.block 1 (.seq (.region 6 f29o6 true) (.cond (.tmp 21) (.seq (.region 7 f29o7 false) .ret) .skip))) (.region 5 f29o5 false)))
def f29c : Code := (.seq (.region 0 f29o0 false) (.seq (.seq (.region 1 f29o1 false) (.cond (.tmp 8) (.seq (.region 2 f29o2 false) .ret) .skip)) (.seq (.seq (.region 3 f29o3 false) (.block 0 (.loop f29b0))) (.seq (.region 8 f29o8 false) .ret))))
def f29n : List (Nat × RAnn) := [(0, f29a0), (1, f29a1), (2, f29a2), (3, f29a3), (4, f29a4), (5, f29a5), (6, f29a6), (7, f29a7), (8, f29a8)]
noncomputable def f16o0 : Array Oper := cO (cL (cB f16))
def f16a0 : RAnn := ⟨[0, 4, 5], []⟩
noncomputable def f16o1 : Array Oper := cO (cL (cL (cR (cB f16))))
def f16a1 : RAnn := ⟨[7, 8, 9, 10], []⟩
noncomputable def f16o2 : Array Oper := cO (cL (cR (cL (cR (cB f16)))))
def f16a2 : RAnn := ⟨[11], []⟩
noncomputable def f16o3 : Array Oper := cO (cL (cL (cR (cR (cL (cR (cB f16)))))))
def f16a3 : RAnn := ⟨[1, 2, 6, 12, 13], []⟩
noncomputable def f16o4 : Array Oper := cO (cL (cR (cR (cB f16))))
def f16a4 : RAnn := ⟨[1, 2, 6, 12, 14, 15, 16], []⟩
def f16c : Code := (.seq (.region 0 f16o0 false) (.seq (.seq (.region 1 f16o1 false) (.seq (.region 2 f16o2 false) (.cond (.tmp 12) (.seq (.region 3 f16o3 false) .ret) .skip))) (.seq (.region 4 f16o4 false) .ret)))
def f16n : List (Nat × RAnn) := [(0, f16a0), (1, f16a1), (2, f16a2), (3, f16a3), (4, f16a4)]
noncomputable def f9o0 : Array Oper := cO (cL (cB f9))
def f9a0 : RAnn := ⟨[0, 4, 5], []⟩
noncomputable def f9o1 : Array Oper := cO (cL (cL (cR (cB f9))))
def f9a1 : RAnn := ⟨[8, 9], []⟩
noncomputable def f9o2 : Array Oper := cO (cL (cL (cR (cL (cR (cB f9))))))
def f9a2 : RAnn := ⟨[1, 2, 10], []⟩
noncomputable def f9o3 : Array Oper := cO (cL (cR (cR (cB f9))))
def f9a3 : RAnn := ⟨[1, 2, 7, 10, 11, 12, 13, 14, 15, 16], []⟩
noncomputable def f9o4 : Array Oper := cO (cL (cR (cR (cR (cB f9)))))
def f9a4 : RAnn := ⟨[6, 17], []⟩
def f9c : Code := (.seq (.region 0 f9o0 false) (.seq (.seq (.region 1 f9o1 false) (.cond (.tmp 10) (.seq (.region 2 f9o2 false) .ret) .skip)) (.seq (.region 3 f9o3 false) (.seq (.region 4 f9o4 false) .ret))))
def f9n : List (Nat × RAnn) := [(0, f9a0), (1, f9a1), (2, f9a2), (3, f9a3), (4, f9a4)]
noncomputable def f5o0 : Array Oper := cO (cL (cB f5))
def f5a0 : RAnn := ⟨[0, 6], []⟩
noncomputable def f5o1 : Array Oper := cO (cL (cL (cR (cB f5))))
def f5a1 : RAnn := ⟨[21, 22, 23, 24, 25, 26], []⟩
noncomputable def f5o2 : Array Oper := cO (cL (cL (cR (cL (cR (cB f5))))))
def f5a2 : RAnn := ⟨[1, 2, 3, 27, 28], []⟩
noncomputable def f5o3 : Array Oper := cO (cL (cR (cR (cB f5))))
def f5a3 : RAnn := ⟨[1, 8, 27, 29, 30, 31, 32, 33, 34, 35, 36, 37, 38, 39], []⟩
noncomputable def f5o4 : Array Oper := cO (cL (cR (cR (cR (cB f5)))))
def f5a4 : RAnn := ⟨[], [(0, { keep := [0] })]⟩
noncomputable def f5o5 : Array Oper := cO (cL (cR (cR (cR (cR (cB f5))))))
def f5a5 : RAnn := ⟨[], [(0, { keep := [0] })]⟩
noncomputable def f5o6 : Array Oper := cO (cL (cL (cR (cR (cR (cR (cR (cB f5))))))))
def f5a6 : RAnn := ⟨[], []⟩
noncomputable def f5o7 : Array Oper := cO (cL (cL (cL (cL (cR (cL (cR (cR (cR (cR (cR (cB f5))))))))))))
def f5a7 : RAnn := ⟨[40, 41, 42], []⟩
noncomputable def f5o8 : Array Oper := cO (cR (cR (cL (cL (cR (cL (cR (cR (cR (cR (cR (cB f5))))))))))))
def f5a8 : RAnn := ⟨[44, 45, 50], []⟩
noncomputable def f5o9 : Array Oper := cO (cL (cL (cL (cL (cR (cL (cL (cR (cL (cR (cR (cR (cR (cR (cB f5)))))))))))))))
def f5a9 : RAnn := ⟨[43, 46, 47, 48, 49], []⟩
noncomputable def f5o10 : Array Oper := cO (cL (cR (cL (cL (cR (cL (cL (cR (cL (cR (cR (cR (cR (cR (cB f5)))))))))))))))
def f5a10 : RAnn := ⟨[50, 51, 52, 53, 54, 55, 56, 57, 58, 59, 60], []⟩
noncomputable def f5o11 : Array Oper := cO (cL (cR (cR (cL (cL (cR (cL (cL (cR (cL (cR (cR (cR (cR (cR (cB f5))))))))))))))))
def f5a11 : RAnn := ⟨[61, 62, 63, 64, 65, 66, 67, 68, 69, 70, 71], [(0, { tk := [9], keep := [0], noio := true }), (1, { noio := true }), (2, { noio := true }), (3, { tk := [61], keep := [0], noio := true }), (4, { tk := [11], keep := [0], noio := true }), (5, { noio := true }), (6, { noio := true }), (7, { noio := true }), (8, { noio := true }), (9, { noio := true }), (10, { tk := [65], keep := [0] }), (11, { tk := [64], keep := [0] }), (12, { tk := [71], keep := [0] })]⟩
noncomputable def f5o12 : Array Oper := cO (cR (cR (cR (cL (cL (cR (cL (cL (cR (cL (cR (cR (cR (cR (cR (cB f5))))))))))))))))
def f5a12 : RAnn := ⟨[13, 72, 73, 74, 75], [(1, { keep := [0] }), (3, { tk := [73] })]⟩
noncomputable def f5o13 : Array Oper := cO (cL (cR (cR (cR (cR (cR (cR (cB f5))))))))
def f5a13 : RAnn := ⟨[2, 7, 12, 43, 76, 77, 78, 79, 80, 81], []⟩
noncomputable def f5o14 : Array Oper := cO (cL (cR (cR (cR (cR (cR (cR (cR (cB f5)))))))))
def f5a14 : RAnn := ⟨[82, 83, 84, 85, 86, 87], []⟩
noncomputable def f5o15 : Array Oper := cO (cL (cR (cR (cR (cR (cR (cR (cR (cR (cB f5))))))))))
def f5a15 : RAnn := ⟨[3, 10, 88, 89, 90, 91, 92, 93], []⟩
noncomputable def f5o16 : Array Oper := cO (cL (cL (cR (cR (cR (cR (cR (cR (cR (cR (cR (cB f5))))))))))))
def f5a16 : RAnn := ⟨[9, 14, 15, 17, 18, 19, 94, 95, 96, 97, 98, 99, 100, 101, 102, 103, 104, 105, 106, 107, 108, 109, 110, 111, 112, 113, 114, 115, 116, 117, 118, 119, 120, 121], []⟩
noncomputable def f5o17 : Array Oper := cO (cL (cL (cR (cL (cR (cR (cR (cR (cR (cR (cR (cR (cR (cB f5))))))))))))))
def f5a17 : RAnn := ⟨[11, 16, 122], []⟩
noncomputable def f5o18 : Array Oper := cO (cL (cL (cR (cR (cR (cR (cR (cR (cR (cR (cR (cR (cB f5)))))))))))))
def f5a18 : RAnn := ⟨[122], []⟩
noncomputable def f5o19 : Array Oper := cO (cL (cL (cL (cL (cR (cL (cR (cR (cR (cR (cR (cR (cR (cR (cR (cR (cB f5)))))))))))))))))
def f5a19 : RAnn := ⟨[123, 124, 125], []⟩
noncomputable def f5o20 : Array Oper := cO (cR (cR (cL (cL (cR (cL (cR (cR (cR (cR (cR (cR (cR (cR (cR (cR (cB f5)))))))))))))))))
def f5a20 : RAnn := ⟨[127, 128, 137], []⟩
noncomputable def f5o21 : Array Oper := cO (cL (cL (cL (cR (cL (cL (cR (cL (cR (cR (cR (cR (cR (cR (cR (cR (cR (cR (cB f5)))))))))))))))))))
def f5a21 : RAnn := ⟨[126, 129, 130, 131, 132, 133, 134, 135, 136], []⟩
noncomputable def f5o22 : Array Oper := cO (cL (cL (cR (cL (cL (cR (cL (cL (cR (cL (cR (cR (cR (cR (cR (cR (cR (cR (cR (cR (cB f5)))))))))))))))))))))
def f5a22 : RAnn := ⟨[11, 16, 20, 137], []⟩
noncomputable def f5o23 : Array Oper := cO (cL (cR (cR (cR (cR (cR (cR (cR (cR (cR (cR (cR (cB f5)))))))))))))
def f5a23 : RAnn := ⟨[11, 16, 20, 126, 138], []⟩
def f5b0 : Code := (.seq (.seq (.region 7 f5o7 false) (.cond (.tmp 43) .skip (.exit 0))) (.seq (.block 1 (.seq (.seq (.region 9 f5o9 false) (.cond (.tmp 50) (.exit 1) .skip)) (.seq (.region 10 f5o10 true) (.seq (.region 11 f5o11 true) (.region 12 f5o12 false))))) (.region 8 f5o8 false)))
def f5b1 : Code := (.seq (.seq (.region 19 f5o19 false) (.cond (.tmp 126) .skip (.exit 2))) (.seq (.block 3 (.seq (.region 21 f5o21 true) (.cond (.tmp 137) (.seq (.region 22 f5o22 false) .ret) .skip))) (.region 20 f5o20 false)))
def f5c : Code := (.seq (.region 0 f5o0 false) (.seq (.seq (.region 1 f5o1 false) (.cond (.tmp 27) (.seq (.region 2 f5o2 false) .ret) .skip)) (.seq (.region 3 f5o3 true) (.seq (.region 4 f5o4 false) (.seq (.region 5 f5o5 false) (.seq (.seq (.region 6 f5o6 false) (.block 0 (.loop f5b0))) (.seq (.region 13 f5o13 false) (.seq (.region 14 f5o14 false) (.seq (.region 15 f5o15 false) (.seq (.seq (.region 16 f5o16 false) (.cond (.tmp 122) (.seq (.region 17 f5o17 false) .ret) .skip)) (.seq (.seq (.region 18 f5o18 false) (.block 2 (.loop f5b1))) (.seq (.region 23 f5o23 false) .ret))))))))))))
def f5n : List (Nat × RAnn) := [(0, f5a0), (1, f5a1), (2, f5a2), (3, f5a3), (4, f5a4), (5, f5a5), (6, f5a6), (7, f5a7), (8, f5a8), (9, f5a9), (10, f5a10), (11, f5a11), (12, f5a12), (13, f5a13), (14, f5a14), (15, f5a15), (16, f5a16), (17, f5a17), (18, f5a18), (19, f5a19), (20, f5a20), (21, f5a21), (22, f5a22), (23, f5a23)]
def ANNS : List (Nat × FAnn) := [(5, ⟨f5n, [], []⟩), (6, ⟨f6n, [], []⟩), (8, ⟨f8n, [], []⟩), (9, ⟨f9n, [], []⟩), (11, ⟨f11n, [], []⟩), (14, ⟨f14n, [], []⟩), (15, ⟨f15n, [], []⟩), (16, ⟨f16n, [], []⟩), (18, ⟨f18n, [], []⟩), (19, ⟨f19n, [], []⟩), (20, ⟨f20n, [], []⟩), (24, ⟨f24n, [], []⟩), (25, ⟨f25n, [], []⟩), (26, ⟨f26n, [], []⟩), (27, ⟨f27n, [], []⟩), (28, ⟨f28n, [], []⟩), (29, ⟨f29n, [], []⟩), (30, ⟨f30n, [], []⟩), (31, ⟨f31n, [], []⟩), (32, ⟨f32n, [], []⟩), (33, ⟨f33n, [], []⟩), (43, ⟨f43n, [], []⟩), (44, ⟨f44n, [], []⟩), (46, ⟨f46n, [], []⟩), (47, ⟨f47n, [], []⟩), (48, ⟨f48n, [], []⟩), (49, ⟨f49n, [], []⟩), (50, ⟨f50n, [], []⟩), (51, ⟨f51n, [], []⟩), (52, ⟨f52n, [], []⟩), (53, ⟨f53n, [], []⟩), (54, ⟨f54n, [], []⟩), (55, ⟨f55n, [], []⟩), (56, ⟨f56n, [], []⟩), (64, ⟨f64n, [], []⟩), (65, ⟨f65n, [], []⟩), (66, ⟨f66n, [], []⟩), (67, ⟨f67n, [], []⟩), (68, ⟨f68n, [], []⟩), (69, ⟨f69n, [], []⟩), (70, ⟨f70n, [], []⟩), (72, ⟨f72n, [], []⟩), (73, ⟨f73n, [], []⟩), (74, ⟨f74n, [], []⟩), (75, ⟨f75n, [], []⟩), (76, ⟨f76n, [], []⟩), (80, ⟨f80n, [], []⟩), (81, ⟨f81n, [], []⟩), (82, ⟨f82n, [], []⟩), (83, ⟨f83n, [], []⟩), (84, ⟨f84n, [], []⟩), (85, ⟨f85n, [], []⟩), (86, ⟨f86n, [], []⟩), (87, ⟨f87n, [], []⟩), (88, ⟨f88n, [], []⟩), (90, ⟨f90n, [], []⟩), (91, ⟨f91n, [], []⟩), (94, ⟨f94n, [], []⟩), (95, ⟨f95n, [], []⟩), (96, ⟨f96n, [], []⟩), (97, ⟨f97n, [], []⟩), (98, ⟨f98n, [], []⟩), (100, ⟨f100n, [], []⟩), (101, ⟨f101n, [], []⟩)]
def anns : FuncId → FAnn := fun f => (look f ANNS).getD {}
def ext : ExtH := fun f args => bif Nat.beq f 71 then some (extStrIdx args) else bif Nat.beq f 92 then some (extReverseInt args) else bif Nat.beq f 23 then some (extStrRep args) else bif Nat.beq f 45 then some (extStrJoin args) else none
noncomputable abbrev EV (k : Nat) : CallH := evF prog anns ext k
noncomputable abbrev RE (k : Nat) (a : RAnn) (o : Array Oper) (d : Bool) (s : St) : Option St := regionE prog (EV k) a o d s
abbrev I (n : Int) : V := .int .i64 n
abbrev sType (l : List T_api_Type) : V := .sl 0 8 (List.map eType l)
abbrev sField (l : List T_api_Field) : V := .sl 0 3 (List.map eField l)
abbrev sSearch (l : List T_api_Search) : V := .sl 0 4 (List.map eSearch l)
abbrev sTerm (l : List T_api_Term) : V := .sl 0 3 (List.map eTerm l)
abbrev sArg (l : List T_api_Arg) : V := .sl 0 3 (List.map eArg l)
abbrev sI (l : List Int) : V := .sl 0 1 (List.map I l)
def law12_Large_fin : Bool → V × List V := fun r => ((Bo r), [])
theorem law12_Large_L2_ok (k : Nat) (a0 : T_api_Base) (x17 : Int)  (K0 : Int → Option Bool) (Kst : X × St → Option (V × List V)) (hK0 : ∀ (y0 : Int), Kst (X.exit 2, ⟨[(1, (Pt 1)), (3, (I x17)), (4, (I y0)), (55, (Bo false))], [(1, vS 4 (eBase a0))], 95⟩) = (K0 y0).map law12_Large_fin) (hret : ∀ s, Kst (X.ret, s) = endK prog 95 [(eBase a0)] [] [.tmp 2] (X.ret, s)) :
    ∀ (m : Nat) (x26 : Int), (iter (exec prog (EV k) f6n k f6b0) m ⟨[(1, (Pt 1)), (3, (I x17)), (4, (I x26))], [(1, vS 4 (eBase a0))], 95⟩).bind Kst = (law12_Large_L2 a0 x17 K0 m x26).map law12_Large_fin := by
  intro m
  induction m with
  | zero => intros; rfl
  | succ m ih =>
    intro x26
    unfold law12_Large_L2
    refine et k_round <| et k_assoc <| kga f6a9 rfl (fun (o28 : Bool) => [(55, (Bo o28))]) (rd 4 [(47, (I x26)), (48, (V.ptr 1 0 2)), (49, (sType a0.fTypes)), (50, (I x17))] rfl rfl <| rp rfl (p_index (e := eType) rfl rfl rfl underlying22 rfl (by decide)) fun v27 => bd 7 [(51, (Pr (eType v27))), (52, (Pr (sField v27.fFields))), (53, (sField v27.fFields))] rfl rfl <| rl rfl (p_len (e := eField) rfl rfl rfl rfl rfl rfl underlying43) <| bind_end rfl) fun o28 => kc rfl rfl (fun hc => ?_) fun hc => ?_
    · rw [hc]
      refine et k_skip <| et (k_block rfl) <| kg f6a11 rfl (fun (o31 : Bool) => ⟨[(1, (Pt 1)), (3, (I x17)), (4, (I x26)), (69, (Bo o31))], [(1, vS 4 (eBase a0))], 95⟩) (rd 3 [(58, (V.ptr 1 0 2)), (59, (sType a0.fTypes)), (60, (I x17))] rfl rfl <| rp rfl (p_index (e := eType) rfl rfl rfl underlying22 rfl (by decide)) fun v29 => bd 7 [(61, (Pr (eType v29))), (62, (Pr (sField v29.fFields))), (63, (sField v29.fFields)), (64, (I x26))] rfl rfl <| rp rfl (p_index (e := eField) rfl rfl rfl underlying43 rfl (by decide)) fun v30 => bind_end rfl) fun o31 => kcl rfl rfl (fun hc => ?_) fun hc => ?_
      · rw [hc]
        refine kr ⟨[(2, (Bo true))], [], 95⟩ rfl <| et k_lret <| et blk_ret <| et loop_ret <| et (hret _) ?_
        rfl
      · rw [hc]
        exact et k_lskip <| et blk_normal <| kl ⟨[(1, (Pt 1)), (3, (I x17)), (4, (I (Go.IntKind.wrap .i64 (x26 + 1))))], [(1, vS 4 (eBase a0))], 95⟩ rfl <| et loop_normal <| ih (Go.IntKind.wrap .i64 (x26 + 1))
    · rw [hc]
      exact et k_exit <| et loop_exit <| hK0 x26
theorem law12_Large_L1_ok (k : Nat) (a0 : T_api_Base)  (K0 : Int → Option Bool) (Kst : X × St → Option (V × List V)) (hK0 : ∀ (y0 : Int), Kst (X.exit 0, ⟨[(1, (Pt 1)), (3, (I y0)), (26, (Bo false))], [(1, vS 4 (eBase a0))], 95⟩) = (K0 y0).map law12_Large_fin) (hret : ∀ s, Kst (X.ret, s) = endK prog 95 [(eBase a0)] [] [.tmp 2] (X.ret, s)) :
    ∀ (m : Nat) (x17 : Int), (iter (exec prog (EV k) f6n k f6b1) m ⟨[(1, (Pt 1)), (3, (I x17))], [(1, vS 4 (eBase a0))], 95⟩).bind Kst = (law12_Large_L1 k a0 K0 m x17).map law12_Large_fin := by
  intro m
  induction m with
  | zero => intros; rfl
  | succ m ih =>
    intro x17
    unfold law12_Large_L1
    refine et k_round <| et k_assoc <| krp f6a4 rfl ⟨[(1, (Pt 1)), (3, (I x17)), (26, (Bo (decide (x17 < (a0.fTypes.length : Int)))))], [(1, vS 4 (eBase a0))], 95⟩ ?_ ?_
    · exact rd 3 [(22, (I x17)), (23, (V.ptr 1 0 2)), (24, (sType a0.fTypes))] rfl rfl <| rl rfl (p_len (e := eType) rfl rfl rfl rfl rfl rfl underlying22) <| bind_end rfl
    refine kc rfl rfl (fun hc => ?_) fun hc => ?_
    · rw [hc]
      refine et k_skip <| et (k_block rfl) <| et k_assoc <| kg f6a6 rfl (fun (o20 : Bool) => ⟨[(1, (Pt 1)), (3, (I x17)), (46, (Bo o20))], [(1, vS 4 (eBase a0))], 95⟩) ?_ fun o20 => ?_
      · refine rd 3 [(29, (V.ptr 1 0 2)), (30, (sType a0.fTypes)), (31, (I x17))] rfl rfl <| rp rfl (p_index (e := eType) rfl rfl rfl underlying22 rfl (by decide)) fun v18 => bd 6 [(32, (Pr (eType v18))), (33, (Pr (sField v18.fFields))), (34, (sField v18.fFields))] rfl rfl <| rl rfl (p_len (e := eField) rfl rfl rfl rfl rfl rfl underlying43) <| bd 9 [(35, (I (v18.fFields.length : Int))), (36, (Bo (decide ((v18.fFields.length : Int) > 20)))), (37, (Bo (decide ((v18.fFields.length : Int) > 20))))] rfl rfl <| bifE (fun hc => ?_) fun hc => ?_
        · rw [hc]
          exact reg_end rfl
        · rw [hc]
          exact rd 12 [(38, (V.ptr 1 0 2)), (39, (sType a0.fTypes)), (40, (I x17))] rfl rfl <| rp rfl (p_index (e := eType) rfl rfl rfl underlying22 rfl (by decide)) fun v19 => bind_end rfl
      refine kc rfl rfl (fun hc => ?_) fun hc => ?_
      · rw [hc]
        refine et k_assoc <| kr ⟨[(2, (Bo true))], [], 95⟩ rfl <| et k_ret <| et blk_ret <| et loop_ret <| et (hret _) ?_
        rfl
      · rw [hc]
        refine et k_skip <| kr ⟨[(1, (Pt 1)), (3, (I x17)), (4, (I 0))], [(1, vS 4 (eBase a0))], 95⟩ rfl <| et (k_lblock rfl) <| et k_loop ?_
        refine law12_Large_L2_ok k a0 x17 _ _ ?h_law12_Large_L2_0 ?hr_law12_Large_L2 k 0
        · intro y32
          exact et blk_exit <| et k_lskip <| et blk_normal <| kl ⟨[(1, (Pt 1)), (3, (I (Go.IntKind.wrap .i64 (x17 + 1))))], [(1, vS 4 (eBase a0))], 95⟩ rfl <| et loop_normal <| ih (Go.IntKind.wrap .i64 (x17 + 1))
        · intro s; exact hret s
    · rw [hc]
      exact et k_exit <| et loop_exit <| hK0 x17
theorem law12_Large_L3_ok (k : Nat) (a0 : T_api_Base)  (K0 : Int → Option Bool) (Kst : X × St → Option (V × List V)) (hK0 : ∀ (y0 : Int), Kst (X.exit 4, ⟨[(1, (Pt 1)), (5, (I y0)), (74, (Bo false))], [(1, vS 4 (eBase a0))], 95⟩) = (K0 y0).map law12_Large_fin) (hret : ∀ s, Kst (X.ret, s) = endK prog 95 [(eBase a0)] [] [.tmp 2] (X.ret, s)) :
    ∀ (m : Nat) (x37 : Int), (iter (exec prog (EV k) f6n k f6b2) m ⟨[(1, (Pt 1)), (5, (I x37))], [(1, vS 4 (eBase a0))], 95⟩).bind Kst = (law12_Large_L3 a0 K0 m x37).map law12_Large_fin := by
  intro m
  induction m with
  | zero => intros; rfl
  | succ m ih =>
    intro x37
    unfold law12_Large_L3
    refine et k_round <| et k_assoc <| krp f6a14 rfl ⟨[(1, (Pt 1)), (5, (I x37)), (74, (Bo (decide (x37 < (a0.fIndexes.length : Int)))))], [(1, vS 4 (eBase a0))], 95⟩ ?_ ?_
    · exact rd 3 [(70, (I x37)), (71, (V.ptr 1 0 3)), (72, (sSearch a0.fIndexes))] rfl rfl <| rl rfl (p_len (e := eSearch) rfl rfl rfl rfl rfl rfl underlying23) <| bind_end rfl
    refine kc rfl rfl (fun hc => ?_) fun hc => ?_
    · rw [hc]
      refine et k_skip <| et (k_block rfl) <| kg f6a16 rfl (fun (o40 : Bool) => ⟨[(1, (Pt 1)), (5, (I x37)), (94, (Bo o40))], [(1, vS 4 (eBase a0))], 95⟩) ?_ fun o40 => ?_
      · refine rd 3 [(77, (V.ptr 1 0 3)), (78, (sSearch a0.fIndexes)), (79, (I x37))] rfl rfl <| rp rfl (p_index (e := eSearch) rfl rfl rfl underlying23 rfl (by decide)) fun v38 => bd 9 [(80, (Pr (eSearch v38))), (81, (Pr (Sr v38.fName))), (82, (Sr v38.fName)), (83, (I (v38.fName.length : Int))), (84, (Bo (decide ((v38.fName.length : Int) > 40)))), (85, (Bo (decide ((v38.fName.length : Int) > 40))))] rfl rfl <| bifE (fun hc => ?_) fun hc => ?_
        · rw [hc]
          exact reg_end rfl
        · rw [hc]
          exact rd 12 [(86, (V.ptr 1 0 3)), (87, (sSearch a0.fIndexes)), (88, (I x37))] rfl rfl <| rp rfl (p_index (e := eSearch) rfl rfl rfl underlying23 rfl (by decide)) fun v39 => bind_end rfl
      refine kcl rfl rfl (fun hc => ?_) fun hc => ?_
      · rw [hc]
        refine kr ⟨[(2, (Bo true))], [], 95⟩ rfl <| et k_lret <| et blk_ret <| et loop_ret <| et (hret _) ?_
        rfl
      · rw [hc]
        exact et k_lskip <| et blk_normal <| kl ⟨[(1, (Pt 1)), (5, (I (Go.IntKind.wrap .i64 (x37 + 1))))], [(1, vS 4 (eBase a0))], 95⟩ rfl <| et loop_normal <| ih (Go.IntKind.wrap .i64 (x37 + 1))
    · rw [hc]
      exact et k_exit <| et loop_exit <| hK0 x37
theorem law12_Large_ok (k : Nat) (a0 : T_api_Base) : EV k 6 [(eBase a0)] = (law12_Large k a0).map law12_Large_fin := by
  cases k with
  | zero => rfl
  | succ k =>
    unfold law12_Large
    refine et (evF_succ (c := f6c) (N := 95) (regs := f6n) rfl func6 rfl (by decide) rfl rfl rfl) <| kr ⟨[(1, (Pt 1))], [(1, vS 4 (eBase a0))], 95⟩ rfl <| et k_assoc <| kga f6a1 rfl (fun (o1 : Bool) => [(21, (Bo o1))]) ?_ fun o1 => ?_
    · refine rd 2 [(6, (V.ptr 1 0 2)), (7, (sType a0.fTypes))] rfl rfl <| rl rfl (p_len (e := eType) rfl rfl rfl rfl rfl rfl underlying22) <| bd 5 [(8, (I (a0.fTypes.length : Int))), (9, (Bo (decide ((a0.fTypes.length : Int) > 20)))), (10, (Bo (decide ((a0.fTypes.length : Int) > 20))))] rfl rfl <| bifE (fun hc => ?_) fun hc => ?_
      · rw [hc]
        exact reg_end rfl
      · rw [hc]
        refine rd 7 [(11, (V.ptr 1 0 3)), (12, (sSearch a0.fIndexes))] rfl rfl <| rl rfl (p_len (e := eSearch) rfl rfl rfl rfl rfl rfl underlying23) <| bd 11 [(13, (I (a0.fIndexes.length : Int))), (14, (Bo (decide ((a0.fIndexes.length : Int) > 20)))), (15, (Bo (decide ((a0.fIndexes.length : Int) > 20)))), (16, (Bo (decide ((a0.fIndexes.length : Int) > 20))))] rfl rfl <| bifE (fun hc => ?_) fun hc => ?_
        · rw [hc]
          exact reg_end rfl
        · rw [hc]
          exact reg_end rfl
    refine kc rfl rfl (fun hc => ?_) fun hc => ?_
    · rw [hc]
      refine et k_assoc <| kr ⟨[(2, (Bo true))], [], 95⟩ rfl <| et k_ret ?_
      rfl
    · rw [hc]
      refine et k_skip <| et k_assoc <| kr ⟨[(1, (Pt 1)), (3, (I 0))], [(1, vS 4 (eBase a0))], 95⟩ rfl <| et (k_block rfl) <| et k_loop ?_
      refine law12_Large_L1_ok k a0 _ _ ?h_law12_Large_L1_0 ?hr_law12_Large_L1 k 0
      · intro y33
        refine et blk_exit <| et k_assoc <| kr ⟨[(1, (Pt 1)), (5, (I 0))], [(1, vS 4 (eBase a0))], 95⟩ rfl <| et (k_block rfl) <| et k_loop ?_
        refine law12_Large_L3_ok k a0 _ _ ?h_law12_Large_L3_0 ?hr_law12_Large_L3 k 0
        · intro y41
          refine et blk_exit <| kr ⟨[(2, (Bo false))], [], 95⟩ rfl <| et k_lret ?_
          rfl
        · intro s; exact rfl
      · intro s; exact rfl
def ref11_IsName_fin : Bool → V × List V := fun r => ((Bo r), [])
theorem ref11_IsName_L1_ok (k : Nat) (a0 : Str)  (K0 : Int → Option Bool) (Kst : X × St → Option (V × List V)) (hK0 : ∀ (y0 : Int), Kst (X.exit 0, ⟨[(0, (Sr a0)), (3, (I y0)), (8, (Bo false))], [], 47⟩) = (K0 y0).map ref11_IsName_fin) (hret : ∀ s, Kst (X.ret, s) = endK prog 47 [(Sr a0)] [] [.tmp 2] (X.ret, s)) :
    ∀ (m : Nat) (x7 : Int), (iter (exec prog (EV k) f25n k f25b0) m ⟨[(0, (Sr a0)), (3, (I x7))], [], 47⟩).bind Kst = (ref11_IsName_L1 a0 K0 m x7).map ref11_IsName_fin := by
  intro m
  induction m with
  | zero => intros; rfl
  | succ m ih =>
    intro x7
    unfold ref11_IsName_L1
    refine et k_round <| et k_assoc <| kra [(8, (Bo (decide (x7 < (a0.length : Int)))))] rfl <| kc rfl rfl (fun hc => ?_) fun hc => ?_
    · rw [hc]
      refine et k_skip <| et (k_block rfl) <| kg f25a4 rfl (fun (o10 : Bool) => ⟨[(0, (Sr a0)), (3, (I x7)), (4, (Bo o10))], [], 47⟩) ?_ fun o10 => ?_
      · refine rd 2 [(11, (Sr a0)), (12, (I x7))] rfl rfl <| rp rfl (p_indexS rfl rfl rfl underlying9) fun v8 => bd 5 [(13, (V.int .u8 v8)), (14, (Bo (decide (v8 ≥ 65)))), (15, (Bo (decide (v8 ≥ 65))))] rfl rfl <| bifE (fun hc => ?_) fun hc => ?_
        · rw [hc]
          exact rd 7 [(16, (Sr a0)), (17, (I x7))] rfl rfl <| rp rfl (p_indexS rfl rfl rfl underlying9) fun v9 => bind_end rfl
        · rw [hc]
          exact reg_end rfl
      refine kg f25a5 rfl (fun (o13 : Bool) => ⟨[(0, (Sr a0)), (3, (I x7)), (38, (Bo o13))], [], 47⟩) ?_ fun o13 => ?_
      · refine rd 3 [(21, (Bo o10)), (22, (Bo (!o10))), (23, (Bo (!o10)))] rfl rfl <| bifE (fun hc => ?_) fun hc => ?_
        · rw [hc]
          refine rd 6 [(24, (I x7)), (25, (Bo (x7 == 0))), (26, (Bo (x7 == 0)))] rfl rfl <| bifE (fun hc => ?_) fun hc => ?_
          · rw [hc]
            exact reg_end rfl
          · rw [hc]
            refine rd 8 [(27, (Sr a0)), (28, (I x7))] rfl rfl <| rp rfl (p_indexS rfl rfl rfl underlying9) fun v11 => bd 12 [(29, (V.int .u8 v11)), (30, (Bo (decide (v11 < 48)))), (31, (Bo (decide (v11 < 48)))), (32, (Bo (decide (v11 < 48))))] rfl rfl <| bifE (fun hc => ?_) fun hc => ?_
            · rw [hc]
              exact reg_end rfl
            · rw [hc]
              exact rd 14 [(33, (Sr a0)), (34, (I x7))] rfl rfl <| rp rfl (p_indexS rfl rfl rfl underlying9) fun v12 => bind_end rfl
        · rw [hc]
          exact reg_end rfl
      refine kcl rfl rfl (fun hc => ?_) fun hc => ?_
      · rw [hc]
        refine kr ⟨[(2, (Bo false))], [], 47⟩ rfl <| et k_lret <| et blk_ret <| et loop_ret <| et (hret _) ?_
        rfl
      · rw [hc]
        exact et k_lskip <| et blk_normal <| kl ⟨[(0, (Sr a0)), (3, (I (Go.IntKind.wrap .i64 (x7 + 1))))], [], 47⟩ rfl <| et loop_normal <| ih (Go.IntKind.wrap .i64 (x7 + 1))
    · rw [hc]
      exact et k_exit <| et loop_exit <| hK0 x7
theorem ref11_IsName_ok (k : Nat) (a0 : Str) : EV k 25 [(Sr a0)] = (ref11_IsName k a0).map ref11_IsName_fin := by
  cases k with
  | zero => rfl
  | succ k =>
    unfold ref11_IsName
    refine et (evF_succ (c := f25c) (N := 47) (regs := f25n) rfl func25 rfl (by decide) rfl rfl rfl) <| kra [] rfl <| et k_assoc <| kra [(3, (I 0))] rfl <| et (k_block rfl) <| et k_loop ?_
    refine ref11_IsName_L1_ok k a0 _ _ ?h_ref11_IsName_L1_0 ?hr_ref11_IsName_L1 k 0
    · intro y14
      refine et blk_exit <| kg f25a7 rfl (fun (o15 : Bool) => ⟨[(2, (Bo o15))], [], 47⟩) ?_ fun o15 => ?_
      · refine rd 4 [(39, (Sr a0)), (40, (I (a0.length : Int))), (41, (Bo (decide ((a0.length : Int) ≥ 1)))), (42, (Bo (decide ((a0.length : Int) ≥ 1))))] rfl rfl <| bifE (fun hc => ?_) fun hc => ?_
        · rw [hc]
          exact reg_end rfl
        · rw [hc]
          exact reg_end rfl
      refine et k_lret ?_
      rfl
    · intro s; exact rfl
def ref11_fields_fin : Bool → V × List V := fun r => ((Bo r), [])
theorem ref11_fields_L2_ok (k : Nat) (a0 : T_api_Type) (x11 : Int) (o13 : T_api_Field)  (K0 : Int → Option Bool) (Kst : X × St → Option (V × List V)) (hK0 : ∀ (y0 : Int), Kst (X.exit 2, ⟨[(1, (Pt 1)), (3, (I x11)), (4, (Pt 4)), (5, (I y0)), (51, (Bo false))], [(1, vS 8 (eType a0)), (4, vS 3 (eField o13))], 112⟩) = (K0 y0).map ref11_fields_fin) (hret : ∀ s, Kst (X.ret, s) = endK prog 112 [(eType a0)] [] [.tmp 2] (X.ret, s)) :
    ∀ (m : Nat) (x18 : Int), (iter (exec prog (EV k) f26n k f26b0) m ⟨[(1, (Pt 1)), (3, (I x11)), (4, (Pt 4)), (5, (I x18))], [(1, vS 8 (eType a0)), (4, vS 3 (eField o13))], 112⟩).bind Kst = (ref11_fields_L2 a0 x11 o13 K0 m x18).map ref11_fields_fin := by
  intro m
  induction m with
  | zero => intros; rfl
  | succ m ih =>
    intro x18
    unfold ref11_fields_L2
    refine et k_round <| et k_assoc <| kra [(51, (Bo (decide (x18 < x11))))] rfl <| kc rfl rfl (fun hc => ?_) fun hc => ?_
    · rw [hc]
      refine et k_skip <| et (k_block rfl) <| kd f26a10 rfl (fun (o20 : Bool) => ⟨[(1, (Pt 1)), (3, (I x11)), (4, (Pt 4)), (5, (I x18)), (62, (Bo o20))], [(1, vS 8 (eType a0)), (4, vS 3 (eField o13))], 112⟩) (et (regionE_regp (p := 9) (dk := true) (t := [(1, (Pt 1)), (3, (I x11)), (4, (Pt 4)), (5, (I x18)), (51, (Bo true))]) (σ := [(1, vS 8 (eType a0)), (4, vS 3 (eField o13))]) (n := 112) rfl (by decide) (by decide) rfl) <| et (regp_adv (m := 3) (j := 3) (t' := [(1, (Pt 1)), (3, (I x11)), (4, (Pt 4)), (5, (I x18)), (51, (Bo true)), (54, (V.ptr 1 0 4)), (55, (sField a0.fFields)), (56, (I x18))]) rfl rfl rfl) <| et (regp_pure (x := (idx a0.fFields x18)) (w := fun v19 => (Pr (eField v19))) rfl rfl rfl rfl rfl (p_index (e := eField) rfl rfl rfl underlying43 rfl (by decide))) <| bindE fun v19 => regp_end rfl) fun o20 => kcl rfl rfl (fun hc => ?_) fun hc => ?_
      · rw [hc]
        refine kr ⟨[(2, (Bo false))], [], 112⟩ rfl <| et k_lret <| et blk_ret <| et loop_ret <| et (hret _) ?_
        rfl
      · rw [hc]
        exact et k_lskip <| et blk_normal <| kl ⟨[(1, (Pt 1)), (3, (I x11)), (4, (Pt 4)), (5, (I (Go.IntKind.wrap .i64 (x18 + 1))))], [(1, vS 8 (eType a0)), (4, vS 3 (eField o13))], 112⟩ rfl <| et loop_normal <| ih (Go.IntKind.wrap .i64 (x18 + 1))
    · rw [hc]
      exact et k_exit <| et loop_exit <| hK0 x18
theorem ref11_fields_L1_ok (k : Nat) (a0 : T_api_Type)  (K0 : Int → Option Bool) (Kst : X × St → Option (V × List V)) (hK0 : ∀ (y0 : Int), Kst (X.exit 0, ⟨[(1, (Pt 1)), (3, (I y0)), (10, (Bo false))], [(1, vS 8 (eType a0))], 112⟩) = (K0 y0).map ref11_fields_fin) (hret : ∀ s, Kst (X.ret, s) = endK prog 112 [(eType a0)] [] [.tmp 2] (X.ret, s)) :
    ∀ (m : Nat) (x11 : Int), (iter (exec prog (EV k) f26n k f26b1) m ⟨[(1, (Pt 1)), (3, (I x11))], [(1, vS 8 (eType a0))], 112⟩).bind Kst = (ref11_fields_L1 k a0 K0 m x11).map ref11_fields_fin := by
  intro m
  induction m with
  | zero => intros; rfl
  | succ m ih =>
    intro x11
    unfold ref11_fields_L1
    refine et k_round <| et k_assoc <| krp f26a2 rfl ⟨[(1, (Pt 1)), (3, (I x11)), (10, (Bo (decide (x11 < (a0.fFields.length : Int)))))], [(1, vS 8 (eType a0))], 112⟩ ?_ ?_
    · exact rd 3 [(6, (I x11)), (7, (V.ptr 1 0 4)), (8, (sField a0.fFields))] rfl rfl <| rl rfl (p_len (e := eField) rfl rfl rfl rfl rfl rfl underlying43) <| bind_end rfl
    refine kc rfl rfl (fun hc => ?_) fun hc => ?_
    · rw [hc]
      refine et k_skip <| et (k_block rfl) <| kg f26a4 rfl (fun (o13 : T_api_Field) => ⟨[(1, (Pt 1)), (3, (I x11)), (4, (Pt 4))], [(1, vS 8 (eType a0)), (4, vS 3 (eField o13))], 112⟩) (rd 3 [(13, (V.ptr 1 0 4)), (14, (sField a0.fFields)), (15, (I x11))] rfl rfl <| rs rfl (p_index (e := eField) rfl rfl rfl underlying43 rfl (by decide)) fun v12 => bind_end rfl) fun o13 => et k_assoc <| kga f26a5 rfl (fun (o15 : Bool) => [(48, (Bo o15))]) ?_ fun o15 => ?_
      · refine rd 2 [(18, (Pt 4)), (19, (Sr o13.fName))] rfl rfl <| rp rfl (p_call rfl rfl rfl rfl rfl (ref11_IsName_ok k o13.fName) (.inl rfl)) fun v14 => bd 5 [(20, (Bo v14)), (21, (Bo (!v14))), (22, (Bo (!v14)))] rfl rfl <| bifE (fun hc => ?_) fun hc => ?_
        · rw [hc]
          exact reg_end rfl
        · rw [hc]
          refine rd 10 [(23, (V.ptr 4 0 1)), (24, (I o13.fAt)), (25, (Bo (decide (o13.fAt < 0)))), (26, (Bo (decide (o13.fAt < 0)))), (27, (Bo (decide (o13.fAt < 0))))] rfl rfl <| bifE (fun hc => ?_) fun hc => ?_
          · rw [hc]
            exact reg_end rfl
          · rw [hc]
            refine rd 17 [(28, (V.ptr 4 0 1)), (29, (I o13.fAt)), (30, (V.ptr 1 0 3)), (31, (I a0.fSize)), (32, (Bo (decide (o13.fAt > a0.fSize)))), (33, (Bo (decide (o13.fAt > a0.fSize)))), (34, (Bo (decide (o13.fAt > a0.fSize))))] rfl rfl <| bifE (fun hc => ?_) fun hc => ?_
            · rw [hc]
              exact reg_end rfl
            · rw [hc]
              refine rd 22 [(35, (V.ptr 4 0 2)), (36, (I o13.fBytes)), (37, (Bo (decide (o13.fBytes < 1)))), (38, (Bo (decide (o13.fBytes < 1)))), (39, (Bo (decide (o13.fBytes < 1))))] rfl rfl <| bifE (fun hc => ?_) fun hc => ?_
              · rw [hc]
                exact reg_end rfl
              · rw [hc]
                exact reg_end rfl
      refine kc rfl rfl (fun hc => ?_) fun hc => ?_
      · rw [hc]
        refine et k_assoc <| kr ⟨[(2, (Bo false))], [], 112⟩ rfl <| et k_ret <| et blk_ret <| et loop_ret <| et (hret _) ?_
        rfl
      · rw [hc]
        refine et k_skip <| kr ⟨[(1, (Pt 1)), (3, (I x11)), (4, (Pt 4)), (5, (I 0))], [(1, vS 8 (eType a0)), (4, vS 3 (eField o13))], 112⟩ rfl <| et (k_lblock rfl) <| et k_loop ?_
        refine ref11_fields_L2_ok k a0 x11 o13 _ _ ?h_ref11_fields_L2_0 ?hr_ref11_fields_L2 k 0
        · intro y21
          exact et blk_exit <| et k_lskip <| et blk_normal <| kl ⟨[(1, (Pt 1)), (3, (I (Go.IntKind.wrap .i64 (x11 + 1))))], [(1, vS 8 (eType a0))], 112⟩ rfl <| et loop_normal <| ih (Go.IntKind.wrap .i64 (x11 + 1))
        · intro s; exact hret s
    · rw [hc]
      exact et k_exit <| et loop_exit <| hK0 x11
theorem ref11_fields_ok (k : Nat) (a0 : T_api_Type) : EV k 26 [(eType a0)] = (ref11_fields k a0).map ref11_fields_fin := by
  cases k with
  | zero => rfl
  | succ k =>
    unfold ref11_fields
    refine et (evF_succ (c := f26c) (N := 112) (regs := f26n) rfl func26 rfl (by decide) rfl rfl rfl) <| kr ⟨[(1, (Pt 1))], [(1, vS 8 (eType a0))], 112⟩ rfl <| et k_assoc <| kra [(3, (I 0))] rfl <| et (k_block rfl) <| et k_loop ?_
    refine ref11_fields_L1_ok k a0 _ _ ?h_ref11_fields_L1_0 ?hr_ref11_fields_L1 k 0
    · intro y22
      refine et blk_exit <| et k_assoc <| kg f26a12 rfl (fun (o23 : Bool) => ⟨[(1, (Pt 1)), (82, (Bo o23))], [(1, vS 8 (eType a0))], 112⟩) ?_ fun o23 => ?_
      · refine rd 4 [(63, (V.ptr 1 0 5)), (64, (I a0.fKey)), (65, (Bo (decide (a0.fKey < (-1))))), (66, (Bo (decide (a0.fKey < (-1)))))] rfl rfl <| bifE (fun hc => ?_) fun hc => ?_
        · rw [hc]
          exact reg_end rfl
        · rw [hc]
          refine rd 8 [(67, (V.ptr 1 0 5)), (68, (I a0.fKey)), (69, (V.ptr 1 0 4)), (70, (sField a0.fFields))] rfl rfl <| rl rfl (p_len (e := eField) rfl rfl rfl rfl rfl rfl underlying43) <| bd 12 [(71, (I (a0.fFields.length : Int))), (72, (Bo (decide (a0.fKey ≥ (a0.fFields.length : Int))))), (73, (Bo (decide (a0.fKey ≥ (a0.fFields.length : Int))))), (74, (Bo (decide (a0.fKey ≥ (a0.fFields.length : Int)))))] rfl rfl <| bifE (fun hc => ?_) fun hc => ?_
          · rw [hc]
            exact reg_end rfl
          · rw [hc]
            refine rd 16 [(75, (V.ptr 1 0 5)), (76, (I a0.fKey)), (77, (Bo (decide (a0.fKey < 0)))), (78, (Bo (decide (a0.fKey < 0))))] rfl rfl <| bifE (fun hc => ?_) fun hc => ?_
            · rw [hc]
              exact reg_end rfl
            · rw [hc]
              exact reg_end rfl
      refine kc rfl rfl (fun hc => ?_) fun hc => ?_
      · rw [hc]
        refine et k_assoc <| kr ⟨[(2, (Bo false))], [], 112⟩ rfl <| et k_ret ?_
        rfl
      · rw [hc]
        refine et k_skip <| kd f26a14 rfl (fun (o26 : Bool) => ⟨[(2, (Bo o26))], [], 112⟩) ?_ fun o26 => ?_
        · refine et (regionE_regp (p := 30) (dk := true) (t := [(1, (Pt 1)), (82, (Bo false))]) (σ := [(1, vS 8 (eType a0))]) (n := 112) rfl (by decide) (by decide) rfl) <| et (regp_adv (m := 2) (j := 2) (t' := [(1, (Pt 1)), (82, (Bo false)), (83, (V.ptr 1 0 4)), (84, (sField a0.fFields))]) rfl rfl rfl) <| et (regp_pure (x := some ()) (w := fun _ => (I (a0.fFields.length : Int))) rfl rfl rfl rfl rfl (p_len (e := eField) rfl rfl rfl rfl rfl rfl underlying43)) <| et some_bind <| et (putp_adv (m := 2) (j := 5) (t' := [(1, (Pt 1)), (82, (Bo false)), (83, (V.ptr 1 0 4)), (84, (sField a0.fFields)), (85, (I (a0.fFields.length : Int))), (86, (Bo (decide ((a0.fFields.length : Int) ≤ 5)))), (87, (Bo (decide ((a0.fFields.length : Int) ≤ 5))))]) rfl rfl rfl) <| bifE (fun hc => ?_) fun hc => ?_
          · rw [hc]
            refine et (regp_adv (m := 4) (j := 9) (t' := [(1, (Pt 1)), (82, (Bo false)), (83, (V.ptr 1 0 4)), (84, (sField a0.fFields)), (85, (I (a0.fFields.length : Int))), (86, (Bo true)), (87, (Bo true)), (88, (V.ptr 1 0 5)), (89, (I a0.fKey)), (90, (Bo (decide (a0.fKey < 0)))), (91, (Bo (decide (a0.fKey < 0))))]) rfl rfl rfl) <| bifE (fun hc => ?_) fun hc => ?_
            · rw [hc]
              exact regp_end rfl
            · rw [hc]
              exact et (regp_adv (m := 4) (j := 13) (t' := [(1, (Pt 1)), (82, (Bo false)), (83, (V.ptr 1 0 4)), (84, (sField a0.fFields)), (85, (I (a0.fFields.length : Int))), (86, (Bo true)), (87, (Bo true)), (88, (V.ptr 1 0 5)), (89, (I a0.fKey)), (90, (Bo false)), (91, (Bo false)), (92, (V.ptr 1 0 4)), (93, (sField a0.fFields)), (94, (V.ptr 1 0 5)), (95, (I a0.fKey))]) rfl rfl rfl) <| et (regp_pure (x := (idx a0.fFields a0.fKey)) (w := fun v24 => (Pr (eField v24))) rfl rfl rfl rfl rfl (p_index (e := eField) rfl rfl rfl underlying43 rfl (by decide))) <| bindE fun v24 => et (putp_adv (m := 6) (j := 20) (t' := [(1, (Pt 1)), (82, (Bo false)), (83, (V.ptr 1 0 4)), (84, (sField a0.fFields)), (85, (I (a0.fFields.length : Int))), (86, (Bo true)), (87, (Bo true)), (88, (V.ptr 1 0 5)), (89, (I a0.fKey)), (90, (Bo false)), (91, (Bo false)), (92, (V.ptr 1 0 4)), (93, (sField a0.fFields)), (94, (V.ptr 1 0 5)), (95, (I a0.fKey)), (96, (Pr (eField v24))), (97, (Pr (I v24.fAt))), (98, (I v24.fAt)), (99, (V.ptr 1 0 4)), (100, (sField a0.fFields)), (101, (V.ptr 1 0 5)), (102, (I a0.fKey))]) rfl rfl rfl) <| et (regp_pure (x := (idx a0.fFields a0.fKey)) (w := fun v25 => (Pr (eField v25))) rfl rfl rfl rfl rfl (p_index (e := eField) rfl rfl rfl underlying43 rfl (by decide))) <| bindE fun v25 => regp_end rfl
          · rw [hc]
            exact regp_end rfl
        refine et k_lret ?_
        rfl
    · intro s; exact rfl
def ref11_above_fin : Bool → V × List V := fun r => ((Bo r), [])
theorem ref11_above_L1_ok (k : Nat) (a0 : T_api_Base) (a1 : Int) (a2 : Int)  (K0 : Int → Option Bool) (Kst : X × St → Option (V × List V)) (hK0 : ∀ (y0 : Int), Kst (X.exit 0, ⟨[(1, (I a1)), (2, (I y0)), (3, (Pt 3)), (14, (Bo false))], [(3, vS 4 (eBase a0))], 24⟩) = (K0 y0).map ref11_above_fin) (hret : ∀ s, Kst (X.ret, s) = endK prog 24 [(eBase a0), (I a1), (I a2)] [] [.tmp 6] (X.ret, s)) :
    ∀ (m : Nat) (x5 : Int), (iter (exec prog (EV k) f27n k f27b0) m ⟨[(1, (I a1)), (2, (I x5)), (3, (Pt 3))], [(3, vS 4 (eBase a0))], 24⟩).bind Kst = (ref11_above_L1 a0 a1 K0 m x5).map ref11_above_fin := by
  intro m
  induction m with
  | zero => intros; rfl
  | succ m ih =>
    intro x5
    unfold ref11_above_L1
    refine et k_round <| et k_assoc <| kra [(14, (Bo (decide (x5 ≥ 0))))] rfl <| kc rfl rfl (fun hc => ?_) fun hc => ?_
    · rw [hc]
      refine et k_skip <| et (k_block rfl) <| kr ⟨[(1, (I a1)), (2, (I x5)), (3, (Pt 3)), (23, (Bo (x5 == a1)))], [(3, vS 4 (eBase a0))], 24⟩ rfl <| kcl rfl rfl (fun hc => ?_) fun hc => ?_
      · rw [hc]
        refine kr ⟨[(6, (Bo true))], [], 24⟩ rfl <| et k_lret <| et blk_ret <| et loop_ret <| et (hret _) ?_
        rfl
      · rw [hc]
        exact et k_lskip <| et blk_normal <| kgl f27a3 rfl (fun (o7 : Int) => ⟨[(1, (I a1)), (2, (I o7)), (3, (Pt 3))], [(3, vS 4 (eBase a0))], 24⟩) (ra 3 3 ⟨[(1, (I a1)), (2, (I x5)), (3, (Pt 3)), (15, (V.ptr 3 0 2)), (16, (sType a0.fTypes)), (17, (I x5)), (23, (Bo false))], [(3, vS 4 (eBase a0))], 24⟩ rfl rfl rfl <| rp rfl (p_index (e := eType) rfl rfl rfl underlying22 rfl (by decide)) fun v6 => bind_end rfl) fun o7 => et loop_normal <| ih o7
    · rw [hc]
      exact et k_exit <| et loop_exit <| hK0 x5
theorem ref11_above_ok (k : Nat) (a0 : T_api_Base) (a1 : Int) (a2 : Int) : EV k 27 [(eBase a0), (I a1), (I a2)] = (ref11_above k a0 a1 a2).map ref11_above_fin := by
  cases k with
  | zero => rfl
  | succ k =>
    unfold ref11_above
    refine et (evF_succ (c := f27c) (N := 24) (regs := f27n) rfl func27 rfl (by decide) rfl rfl rfl) <| kr ⟨[(1, (I a1)), (2, (I a2)), (3, (Pt 3))], [(3, vS 4 (eBase a0))], 24⟩ rfl <| et k_assoc <| kg f27a1 rfl (fun (o2 : Int) => ⟨[(1, (I a1)), (2, (I o2)), (3, (Pt 3))], [(3, vS 4 (eBase a0))], 24⟩) (rd 3 [(7, (V.ptr 3 0 2)), (8, (sType a0.fTypes)), (9, (I a2))] rfl rfl <| rp rfl (p_index (e := eType) rfl rfl rfl underlying22 rfl (by decide)) fun v1 => bind_end rfl) fun o2 => et (k_block rfl) <| et k_loop ?_
    refine ref11_above_L1_ok k a0 a1 a2 _ _ ?h_ref11_above_L1_0 ?hr_ref11_above_L1 k o2
    · intro y8
      refine et blk_exit <| kr ⟨[(6, (Bo false))], [], 24⟩ rfl <| et k_lret ?_
      rfl
    · intro s; exact rfl
def ref11_way_fin : (List Int) → V × List V := fun r => ((sI r), [])
theorem ref11_way_L1_ok (k : Nat) (a0 : T_api_Base) (a1 : Int)  (K0 : Int → (List Int) → Option (List Int)) (Kst : X × St → Option (V × List V)) (hK0 : ∀ (y0 : Int) (y1 : (List Int)), Kst (X.exit 0, ⟨[(1, (I y0)), (2, (Pt 2)), (5, (sI y1)), (7, (Bo false))], [(2, vS 4 (eBase a0))], 19⟩) = (K0 y0 y1).map ref11_way_fin) (hret : ∀ s, Kst (X.ret, s) = endK prog 19 [(eBase a0), (I a1)] [] [.tmp 4] (X.ret, s)) :
    ∀ (m : Nat) (x5 : Int) (x6 : (List Int)), (iter (exec prog (EV k) f28n k f28b0) m ⟨[(1, (I x5)), (2, (Pt 2)), (5, (sI x6))], [(2, vS 4 (eBase a0))], 19⟩).bind Kst = (ref11_way_L1 a0 K0 m x5 x6).map ref11_way_fin := by
  intro m
  induction m with
  | zero => intros; rfl
  | succ m ih =>
    intro x5 x6
    unfold ref11_way_L1
    refine et k_round <| et k_assoc <| kra [(7, (Bo (decide (x5 ≥ 0))))] rfl <| kc rfl rfl (fun hc => ?_) fun hc => ?_
    · rw [hc]
      exact et k_skip <| et (k_lblock rfl) <| kg f28a3 rfl (fun (o8 : (List Int)) => ⟨[(1, (I x5)), (2, (Pt 2)), (5, (sI o8))], [(2, vS 4 (eBase a0))], 19⟩) (rd 3 [(8, (I x5)), (9, (V.sl 1 1 (List.map I ([x5] : List Int)))), (10, (sI x6))] rfl rfl <| et (reg_eff (x := (app ([x5] : List Int) x6)) (w := fun v7 => ((V.sl 1 1 (List.map I v7)), _)) rfl rfl rfl rfl (p_app (e := I) rfl rfl rfl rfl rfl rfl rfl rfl rfl rfl (by decide))) <| bind_self fun v7 => bind_end rfl) fun o8 => kgl f28a4 rfl (fun (o10 : Int) => ⟨[(1, (I o10)), (2, (Pt 2)), (5, (sI o8))], [(2, vS 4 (eBase a0))], 19⟩) (rd 3 [(12, (V.ptr 2 0 2)), (13, (sType a0.fTypes)), (14, (I x5))] rfl rfl <| rp rfl (p_index (e := eType) rfl rfl rfl underlying22 rfl (by decide)) fun v9 => bind_end rfl) fun o10 => et blk_normal <| et k_lskip <| et loop_normal <| ih o10 o8
    · rw [hc]
      exact et k_exit <| et loop_exit <| hK0 x5 x6
theorem ref11_way_ok (k : Nat) (a0 : T_api_Base) (a1 : Int) : EV k 28 [(eBase a0), (I a1)] = (ref11_way k a0 a1).map ref11_way_fin := by
  cases k with
  | zero => rfl
  | succ k =>
    unfold ref11_way
    refine et (evF_succ (c := f28c) (N := 19) (regs := f28n) rfl func28 rfl (by decide) rfl rfl rfl) <| kr ⟨[(1, (I a1)), (2, (Pt 2))], [(2, vS 4 (eBase a0))], 19⟩ rfl <| kra [(5, (sI (([] : List Int))))] rfl <| et (k_block rfl) <| et k_loop ?_
    refine ref11_way_L1_ok k a0 a1 _ _ ?h_ref11_way_L1_0 ?hr_ref11_way_L1 k a1 ([] : List Int)
    · intro y11 y12
      refine et blk_exit <| kr ⟨[(4, (sI y12))], [], 19⟩ rfl <| et k_lret ?_
      rfl
    · intro s; exact rfl
def ref11_Valid_fin : Bool → V × List V := fun r => ((Bo r), [])
theorem ref11_Valid_L2_ok (k : Nat) (a0 : T_api_Base) (x20 : Int) (o22 : T_api_Type)  (K0 : Int → Option Bool) (Kst : X × St → Option (V × List V)) (hK0 : ∀ (y0 : Int), Kst (X.exit 2, ⟨[(1, (Pt 1)), (3, (I x20)), (4, (Pt 4)), (5, (I y0)), (81, (Bo false))], [(1, vS 4 (eBase a0)), (4, vS 8 (eType o22))], 232⟩) = (K0 y0).map ref11_Valid_fin) (hret : ∀ s, Kst (X.ret, s) = endK prog 232 [(eBase a0)] [] [.tmp 2] (X.ret, s)) :
    ∀ (m : Nat) (x28 : Int), (iter (exec prog (EV k) f15n k f15b0) m ⟨[(1, (Pt 1)), (3, (I x20)), (4, (Pt 4)), (5, (I x28))], [(1, vS 4 (eBase a0)), (4, vS 8 (eType o22))], 232⟩).bind Kst = (ref11_Valid_L2 a0 x20 o22 K0 m x28).map ref11_Valid_fin := by
  intro m
  induction m with
  | zero => intros; rfl
  | succ m ih =>
    intro x28
    unfold ref11_Valid_L2
    refine et k_round <| et k_assoc <| kra [(81, (Bo (decide (x28 < x20))))] rfl <| kc rfl rfl (fun hc => ?_) fun hc => ?_
    · rw [hc]
      refine et k_skip <| et (k_block rfl) <| kd f15a12 rfl (fun (o30 : Bool) => ⟨[(1, (Pt 1)), (3, (I x20)), (4, (Pt 4)), (5, (I x28)), (92, (Bo o30))], [(1, vS 4 (eBase a0)), (4, vS 8 (eType o22))], 232⟩) (et (regionE_regp (p := 9) (dk := true) (t := [(1, (Pt 1)), (3, (I x20)), (4, (Pt 4)), (5, (I x28)), (81, (Bo true))]) (σ := [(1, vS 4 (eBase a0)), (4, vS 8 (eType o22))]) (n := 232) rfl (by decide) (by decide) rfl) <| et (regp_adv (m := 3) (j := 3) (t' := [(1, (Pt 1)), (3, (I x20)), (4, (Pt 4)), (5, (I x28)), (81, (Bo true)), (84, (V.ptr 1 0 2)), (85, (sType a0.fTypes)), (86, (I x28))]) rfl rfl rfl) <| et (regp_pure (x := (idx a0.fTypes x28)) (w := fun v29 => (Pr (eType v29))) rfl rfl rfl rfl rfl (p_index (e := eType) rfl rfl rfl underlying22 rfl (by decide))) <| bindE fun v29 => regp_end rfl) fun o30 => kcl rfl rfl (fun hc => ?_) fun hc => ?_
      · rw [hc]
        refine kr ⟨[(2, (Bo false))], [], 232⟩ rfl <| et k_lret <| et blk_ret <| et loop_ret <| et (hret _) ?_
        rfl
      · rw [hc]
        exact et k_lskip <| et blk_normal <| kl ⟨[(1, (Pt 1)), (3, (I x20)), (4, (Pt 4)), (5, (I (Go.IntKind.wrap .i64 (x28 + 1))))], [(1, vS 4 (eBase a0)), (4, vS 8 (eType o22))], 232⟩ rfl <| et loop_normal <| ih (Go.IntKind.wrap .i64 (x28 + 1))
    · rw [hc]
      exact et k_exit <| et loop_exit <| hK0 x28
theorem ref11_Valid_L1_ok (k : Nat) (a0 : T_api_Base)  (K0 : Int → Option Bool) (Kst : X × St → Option (V × List V)) (hK0 : ∀ (y0 : Int), Kst (X.exit 0, ⟨[(1, (Pt 1)), (3, (I y0)), (45, (Bo false))], [(1, vS 4 (eBase a0))], 232⟩) = (K0 y0).map ref11_Valid_fin) (hret : ∀ s, Kst (X.ret, s) = endK prog 232 [(eBase a0)] [] [.tmp 2] (X.ret, s)) :
    ∀ (m : Nat) (x20 : Int), (iter (exec prog (EV k) f15n k f15b1) m ⟨[(1, (Pt 1)), (3, (I x20))], [(1, vS 4 (eBase a0))], 232⟩).bind Kst = (ref11_Valid_L1 k a0 K0 m x20).map ref11_Valid_fin := by
  intro m
  induction m with
  | zero => intros; rfl
  | succ m ih =>
    intro x20
    unfold ref11_Valid_L1
    refine et k_round <| et k_assoc <| krp f15a4 rfl ⟨[(1, (Pt 1)), (3, (I x20)), (45, (Bo (decide (x20 < (a0.fTypes.length : Int)))))], [(1, vS 4 (eBase a0))], 232⟩ ?_ ?_
    · exact rd 3 [(41, (I x20)), (42, (V.ptr 1 0 2)), (43, (sType a0.fTypes))] rfl rfl <| rl rfl (p_len (e := eType) rfl rfl rfl rfl rfl rfl underlying22) <| bind_end rfl
    refine kc rfl rfl (fun hc => ?_) fun hc => ?_
    · rw [hc]
      refine et k_skip <| et (k_block rfl) <| kg f15a6 rfl (fun (o22 : T_api_Type) => ⟨[(1, (Pt 1)), (3, (I x20)), (4, (Pt 4))], [(1, vS 4 (eBase a0)), (4, vS 8 (eType o22))], 232⟩) (rd 3 [(48, (V.ptr 1 0 2)), (49, (sType a0.fTypes)), (50, (I x20))] rfl rfl <| rs rfl (p_index (e := eType) rfl rfl rfl underlying22 rfl (by decide)) fun v21 => bind_end rfl) fun o22 => et k_assoc <| kga f15a7 rfl (fun (o25 : Bool) => [(78, (Bo o25))]) ?_ fun o25 => ?_
      · refine rd 2 [(53, (Pt 4)), (54, (Sr o22.fName))] rfl rfl <| rp rfl (p_call rfl rfl rfl rfl rfl (ref11_IsName_ok k o22.fName) (.inl rfl)) fun v23 => bd 5 [(55, (Bo v23)), (56, (Bo (!v23))), (57, (Bo (!v23)))] rfl rfl <| bifE (fun hc => ?_) fun hc => ?_
        · rw [hc]
          exact reg_end rfl
        · rw [hc]
          refine rd 10 [(58, (V.ptr 4 0 2)), (59, (I o22.fMin)), (60, (Bo (decide (o22.fMin < 1)))), (61, (Bo (decide (o22.fMin < 1)))), (62, (Bo (decide (o22.fMin < 1))))] rfl rfl <| bifE (fun hc => ?_) fun hc => ?_
          · rw [hc]
            exact reg_end rfl
          · rw [hc]
            refine rd 17 [(63, (V.ptr 4 0 2)), (64, (I o22.fMin)), (65, (V.ptr 4 0 3)), (66, (I o22.fSize)), (67, (Bo (decide (o22.fMin > o22.fSize)))), (68, (Bo (decide (o22.fMin > o22.fSize)))), (69, (Bo (decide (o22.fMin > o22.fSize))))] rfl rfl <| bifE (fun hc => ?_) fun hc => ?_
            · rw [hc]
              exact reg_end rfl
            · rw [hc]
              refine rd 22 [(70, (V.ptr 4 0 3)), (71, (I o22.fSize)), (72, (Bo (decide (o22.fSize > 40)))), (73, (Bo (decide (o22.fSize > 40)))), (74, (Bo (decide (o22.fSize > 40))))] rfl rfl <| bifE (fun hc => ?_) fun hc => ?_
              · rw [hc]
                exact reg_end rfl
              · rw [hc]
                exact rd 23 [(75, (eType o22))] rfl rfl <| rp rfl (p_call rfl rfl rfl rfl rfl (ref11_fields_ok k o22) (.inl rfl)) fun v24 => bind_end rfl
      refine kc rfl rfl (fun hc => ?_) fun hc => ?_
      · rw [hc]
        refine et k_assoc <| kr ⟨[(2, (Bo false))], [], 232⟩ rfl <| et k_ret <| et blk_ret <| et loop_ret <| et (hret _) ?_
        rfl
      · rw [hc]
        refine et k_skip <| et k_assoc <| kr ⟨[(1, (Pt 1)), (3, (I x20)), (4, (Pt 4)), (5, (I 0))], [(1, vS 4 (eBase a0)), (4, vS 8 (eType o22))], 232⟩ rfl <| et (k_block rfl) <| et k_loop ?_
        refine ref11_Valid_L2_ok k a0 x20 o22 _ _ ?h_ref11_Valid_L2_0 ?hr_ref11_Valid_L2 k 0
        · intro y31
          refine et blk_exit <| et k_assoc <| kr ⟨[(1, (Pt 1)), (3, (I x20)), (4, (Pt 4)), (94, (Bo (x20 == 0)))], [(1, vS 4 (eBase a0)), (4, vS 8 (eType o22))], 232⟩ rfl <| kc rfl rfl (fun hc => ?_) fun hc => ?_
          · rw [hc]
            refine et k_assoc <| et k_assoc <| kg f15a15 rfl (fun (o33 : Bool) => ⟨[(1, (Pt 1)), (3, (I x20)), (117, (Bo o33))], [(1, vS 4 (eBase a0))], 232⟩) ?_ fun o33 => ?_
            · refine rd 4 [(95, (V.ptr 4 0 1)), (96, (I o22.fParent)), (97, (Bo (o22.fParent != (-1)))), (98, (Bo (o22.fParent != (-1))))] rfl rfl <| bifE (fun hc => ?_) fun hc => ?_
              · rw [hc]
                exact reg_end rfl
              · rw [hc]
                refine rd 9 [(99, (V.ptr 4 0 5)), (100, (I o22.fKey)), (101, (Bo (decide (o22.fKey < 0)))), (102, (Bo (decide (o22.fKey < 0)))), (103, (Bo (decide (o22.fKey < 0))))] rfl rfl <| bifE (fun hc => ?_) fun hc => ?_
                · rw [hc]
                  exact reg_end rfl
                · rw [hc]
                  refine rd 14 [(104, (V.ptr 4 0 6)), (105, (Bo o22.fUnique)), (106, (Bo (!o22.fUnique))), (107, (Bo (!o22.fUnique))), (108, (Bo (!o22.fUnique)))] rfl rfl <| bifE (fun hc => ?_) fun hc => ?_
                  · rw [hc]
                    exact reg_end rfl
                  · rw [hc]
                    exact rd 18 [(109, (V.ptr 4 0 4)), (110, (sField o22.fFields)), (111, (V.ptr 4 0 5)), (112, (I o22.fKey))] rfl rfl <| rp rfl (p_index (e := eField) rfl rfl rfl underlying43 rfl (by decide)) fun v32 => bind_end rfl
            refine kc rfl rfl (fun hc => ?_) fun hc => ?_
            · rw [hc]
              refine et k_assoc <| kr ⟨[(2, (Bo false))], [], 232⟩ rfl <| et k_ret <| et blk_ret <| et loop_ret <| et (hret _) ?_
              rfl
            · rw [hc]
              exact et k_skip <| et k_exit <| et blk_exit <| kl ⟨[(1, (Pt 1)), (3, (I (Go.IntKind.wrap .i64 (x20 + 1))))], [(1, vS 4 (eBase a0))], 232⟩ rfl <| et loop_normal <| ih (Go.IntKind.wrap .i64 (x20 + 1))
          · rw [hc]
            refine et k_skip <| kg f15a17 rfl (fun (o37 : Bool) => ⟨[(1, (Pt 1)), (3, (I x20)), (149, (Bo o37))], [(1, vS 4 (eBase a0))], 232⟩) ?_ fun o37 => ?_
            · refine rd 4 [(118, (V.ptr 4 0 1)), (119, (I o22.fParent)), (120, (Bo (decide (o22.fParent < 0)))), (121, (Bo (decide (o22.fParent < 0))))] rfl rfl <| bifE (fun hc => ?_) fun hc => ?_
              · rw [hc]
                exact reg_end rfl
              · rw [hc]
                refine rd 10 [(122, (V.ptr 4 0 1)), (123, (I o22.fParent)), (124, (I x20)), (125, (Bo (decide (o22.fParent ≥ x20)))), (126, (Bo (decide (o22.fParent ≥ x20)))), (127, (Bo (decide (o22.fParent ≥ x20))))] rfl rfl <| bifE (fun hc => ?_) fun hc => ?_
                · rw [hc]
                  exact reg_end rfl
                · rw [hc]
                  refine rd 16 [(128, (V.ptr 4 0 1)), (129, (I o22.fParent)), (130, (I x20)), (131, (I (Go.IntKind.wrap .i64 (x20 - 1)))), (132, (Bo (o22.fParent != (Go.IntKind.wrap .i64 (x20 - 1))))), (133, (Bo (o22.fParent != (Go.IntKind.wrap .i64 (x20 - 1)))))] rfl rfl <| bifE (fun hc => ?_) fun hc => ?_
                  · rw [hc]
                    refine rd 21 [(134, (eBase a0)), (135, (V.ptr 4 0 1)), (136, (I o22.fParent)), (137, (I x20)), (138, (I (Go.IntKind.wrap .i64 (x20 - 1))))] rfl rfl <| rp rfl (p_call rfl rfl rfl rfl rfl (ref11_above_ok k a0 o22.fParent (Go.IntKind.wrap .i64 (x20 - 1))) (.inl rfl)) fun v34 => bd 26 [(139, (Bo v34)), (140, (Bo (!v34))), (141, (Bo (!v34))), (142, (Bo (!v34))), (143, (Bo (!v34)))] rfl rfl <| bifE (fun hc => ?_) fun hc => ?_
                    · rw [hc]
                      exact reg_end rfl
                    · rw [hc]
                      exact rd 28 [(144, (eBase a0)), (145, (I x20))] rfl rfl <| rp rfl (p_call rfl rfl rfl rfl rfl (ref11_way_ok k a0 x20) (.inl rfl)) fun v35 => bd 29 [(146, (sI v35))] rfl rfl <| rl rfl (p_len (e := I) rfl rfl rfl rfl rfl rfl underlying33) <| bind_end rfl
                  · rw [hc]
                    exact rd 28 [(134, (V.tup [])), (135, (V.tup [])), (136, (V.tup [])), (137, (V.tup [])), (138, (V.tup [])), (139, (V.tup [])), (140, (V.tup [])), (141, (Bo false)), (142, (Bo false)), (143, (Bo false)), (144, (eBase a0)), (145, (I x20))] rfl rfl <| rp rfl (p_call rfl rfl rfl rfl rfl (ref11_way_ok k a0 x20) (.inl rfl)) fun v36 => bd 29 [(146, (sI v36))] rfl rfl <| rl rfl (p_len (e := I) rfl rfl rfl rfl rfl rfl underlying33) <| bind_end rfl
            refine kcl rfl rfl (fun hc => ?_) fun hc => ?_
            · rw [hc]
              refine kr ⟨[(2, (Bo false))], [], 232⟩ rfl <| et k_lret <| et blk_ret <| et loop_ret <| et (hret _) ?_
              rfl
            · rw [hc]
              exact et k_lskip <| et blk_normal <| kl ⟨[(1, (Pt 1)), (3, (I (Go.IntKind.wrap .i64 (x20 + 1))))], [(1, vS 4 (eBase a0))], 232⟩ rfl <| et loop_normal <| ih (Go.IntKind.wrap .i64 (x20 + 1))
        · intro s; exact hret s
    · rw [hc]
      exact et k_exit <| et loop_exit <| hK0 x20
theorem ref11_Valid_L4_ok (k : Nat) (a0 : T_api_Base) (x52 : Int) (o54 : T_api_Search)  (K0 : Int → Option Bool) (Kst : X × St → Option (V × List V)) (hK0 : ∀ (y0 : Int), Kst (X.exit 6, ⟨[(1, (Pt 1)), (6, (I x52)), (7, (Pt 7)), (8, (I y0)), (220, (Bo false))], [(1, vS 4 (eBase a0)), (7, vS 4 (eSearch o54))], 232⟩) = (K0 y0).map ref11_Valid_fin) (hret : ∀ s, Kst (X.ret, s) = endK prog 232 [(eBase a0)] [] [.tmp 2] (X.ret, s)) :
    ∀ (m : Nat) (x62 : Int), (iter (exec prog (EV k) f15n k f15b2) m ⟨[(1, (Pt 1)), (6, (I x52)), (7, (Pt 7)), (8, (I x62))], [(1, vS 4 (eBase a0)), (7, vS 4 (eSearch o54))], 232⟩).bind Kst = (ref11_Valid_L4 a0 x52 o54 K0 m x62).map ref11_Valid_fin := by
  intro m
  induction m with
  | zero => intros; rfl
  | succ m ih =>
    intro x62
    unfold ref11_Valid_L4
    refine et k_round <| et k_assoc <| kra [(220, (Bo (decide (x62 < x52))))] rfl <| kc rfl rfl (fun hc => ?_) fun hc => ?_
    · rw [hc]
      refine et k_skip <| et (k_block rfl) <| kd f15a28 rfl (fun (o64 : Bool) => ⟨[(1, (Pt 1)), (6, (I x52)), (7, (Pt 7)), (8, (I x62)), (231, (Bo o64))], [(1, vS 4 (eBase a0)), (7, vS 4 (eSearch o54))], 232⟩) (et (regionE_regp (p := 9) (dk := true) (t := [(1, (Pt 1)), (6, (I x52)), (7, (Pt 7)), (8, (I x62)), (220, (Bo true))]) (σ := [(1, vS 4 (eBase a0)), (7, vS 4 (eSearch o54))]) (n := 232) rfl (by decide) (by decide) rfl) <| et (regp_adv (m := 3) (j := 3) (t' := [(1, (Pt 1)), (6, (I x52)), (7, (Pt 7)), (8, (I x62)), (220, (Bo true)), (223, (V.ptr 1 0 3)), (224, (sSearch a0.fIndexes)), (225, (I x62))]) rfl rfl rfl) <| et (regp_pure (x := (idx a0.fIndexes x62)) (w := fun v63 => (Pr (eSearch v63))) rfl rfl rfl rfl rfl (p_index (e := eSearch) rfl rfl rfl underlying23 rfl (by decide))) <| bindE fun v63 => regp_end rfl) fun o64 => kcl rfl rfl (fun hc => ?_) fun hc => ?_
      · rw [hc]
        refine kr ⟨[(2, (Bo false))], [], 232⟩ rfl <| et k_lret <| et blk_ret <| et loop_ret <| et (hret _) ?_
        rfl
      · rw [hc]
        exact et k_lskip <| et blk_normal <| kl ⟨[(1, (Pt 1)), (6, (I x52)), (7, (Pt 7)), (8, (I (Go.IntKind.wrap .i64 (x62 + 1))))], [(1, vS 4 (eBase a0)), (7, vS 4 (eSearch o54))], 232⟩ rfl <| et loop_normal <| ih (Go.IntKind.wrap .i64 (x62 + 1))
    · rw [hc]
      exact et k_exit <| et loop_exit <| hK0 x62
theorem ref11_Valid_L3_ok (k : Nat) (a0 : T_api_Base)  (K0 : Int → Option Bool) (Kst : X × St → Option (V × List V)) (hK0 : ∀ (y0 : Int), Kst (X.exit 4, ⟨[(1, (Pt 1)), (6, (I y0)), (154, (Bo false))], [(1, vS 4 (eBase a0))], 232⟩) = (K0 y0).map ref11_Valid_fin) (hret : ∀ s, Kst (X.ret, s) = endK prog 232 [(eBase a0)] [] [.tmp 2] (X.ret, s)) :
    ∀ (m : Nat) (x52 : Int), (iter (exec prog (EV k) f15n k f15b3) m ⟨[(1, (Pt 1)), (6, (I x52))], [(1, vS 4 (eBase a0))], 232⟩).bind Kst = (ref11_Valid_L3 k a0 K0 m x52).map ref11_Valid_fin := by
  intro m
  induction m with
  | zero => intros; rfl
  | succ m ih =>
    intro x52
    unfold ref11_Valid_L3
    refine et k_round <| et k_assoc <| krp f15a20 rfl ⟨[(1, (Pt 1)), (6, (I x52)), (154, (Bo (decide (x52 < (a0.fIndexes.length : Int)))))], [(1, vS 4 (eBase a0))], 232⟩ ?_ ?_
    · exact rd 3 [(150, (I x52)), (151, (V.ptr 1 0 3)), (152, (sSearch a0.fIndexes))] rfl rfl <| rl rfl (p_len (e := eSearch) rfl rfl rfl rfl rfl rfl underlying23) <| bind_end rfl
    refine kc rfl rfl (fun hc => ?_) fun hc => ?_
    · rw [hc]
      refine et k_skip <| et (k_block rfl) <| kg f15a22 rfl (fun (o54 : T_api_Search) => ⟨[(1, (Pt 1)), (6, (I x52)), (7, (Pt 7))], [(1, vS 4 (eBase a0)), (7, vS 4 (eSearch o54))], 232⟩) (rd 3 [(157, (V.ptr 1 0 3)), (158, (sSearch a0.fIndexes)), (159, (I x52))] rfl rfl <| rs rfl (p_index (e := eSearch) rfl rfl rfl underlying23 rfl (by decide)) fun v53 => bind_end rfl) fun o54 => et k_assoc <| kd f15a23 rfl (fun (o59 : Bool) => ⟨[(1, (Pt 1)), (6, (I x52)), (7, (Pt 7)), (217, (Bo o59))], [(1, vS 4 (eBase a0)), (7, vS 4 (eSearch o54))], 232⟩) ?_ fun o59 => ?_
      · refine et (regionE_regp (p := 56) (dk := true) (t := [(1, (Pt 1)), (6, (I x52)), (7, (Pt 7))]) (σ := [(1, vS 4 (eBase a0)), (7, vS 4 (eSearch o54))]) (n := 232) rfl (by decide) (by decide) rfl) <| et (regp_adv (m := 2) (j := 2) (t' := [(1, (Pt 1)), (6, (I x52)), (7, (Pt 7)), (162, (Pt 7)), (163, (Sr o54.fName))]) rfl rfl rfl) <| et (regp_pure (x := (ref11_IsName k o54.fName)) (w := fun v55 => (Bo v55)) rfl rfl rfl rfl rfl (p_call rfl rfl rfl rfl rfl (ref11_IsName_ok k o54.fName) (.inl rfl))) <| bindE fun v55 => et (putp_adv (m := 2) (j := 5) (t' := [(1, (Pt 1)), (6, (I x52)), (7, (Pt 7)), (162, (Pt 7)), (163, (Sr o54.fName)), (164, (Bo v55)), (165, (Bo (!v55))), (166, (Bo (!v55)))]) rfl rfl rfl) <| bifE (fun hc => ?_) fun hc => ?_
        · rw [hc]
          exact regp_end rfl
        · rw [hc]
          refine et (regp_adv (m := 5) (j := 10) (t' := [(1, (Pt 1)), (6, (I x52)), (7, (Pt 7)), (162, (Pt 7)), (163, (Sr o54.fName)), (164, (Bo v55)), (165, (Bo false)), (166, (Bo false)), (167, (V.ptr 7 0 1)), (168, (I o54.fType)), (169, (Bo (decide (o54.fType < 0)))), (170, (Bo (decide (o54.fType < 0)))), (171, (Bo (decide (o54.fType < 0))))]) rfl rfl rfl) <| bifE (fun hc => ?_) fun hc => ?_
          · rw [hc]
            exact regp_end rfl
          · rw [hc]
            refine et (regp_adv (m := 4) (j := 14) (t' := [(1, (Pt 1)), (6, (I x52)), (7, (Pt 7)), (162, (Pt 7)), (163, (Sr o54.fName)), (164, (Bo v55)), (165, (Bo false)), (166, (Bo false)), (167, (V.ptr 7 0 1)), (168, (I o54.fType)), (169, (Bo false)), (170, (Bo false)), (171, (Bo false)), (172, (V.ptr 7 0 1)), (173, (I o54.fType)), (174, (V.ptr 1 0 2)), (175, (sType a0.fTypes))]) rfl rfl rfl) <| et (regp_pure (x := some ()) (w := fun _ => (I (a0.fTypes.length : Int))) rfl rfl rfl rfl rfl (p_len (e := eType) rfl rfl rfl rfl rfl rfl underlying22)) <| et some_bind <| et (putp_adv (m := 3) (j := 18) (t' := [(1, (Pt 1)), (6, (I x52)), (7, (Pt 7)), (162, (Pt 7)), (163, (Sr o54.fName)), (164, (Bo v55)), (165, (Bo false)), (166, (Bo false)), (167, (V.ptr 7 0 1)), (168, (I o54.fType)), (169, (Bo false)), (170, (Bo false)), (171, (Bo false)), (172, (V.ptr 7 0 1)), (173, (I o54.fType)), (174, (V.ptr 1 0 2)), (175, (sType a0.fTypes)), (176, (I (a0.fTypes.length : Int))), (177, (Bo (decide (o54.fType ≥ (a0.fTypes.length : Int))))), (178, (Bo (decide (o54.fType ≥ (a0.fTypes.length : Int))))), (179, (Bo (decide (o54.fType ≥ (a0.fTypes.length : Int)))))]) rfl rfl rfl) <| bifE (fun hc => ?_) fun hc => ?_
            · rw [hc]
              exact regp_end rfl
            · rw [hc]
              refine et (regp_adv (m := 5) (j := 23) (t' := [(1, (Pt 1)), (6, (I x52)), (7, (Pt 7)), (162, (Pt 7)), (163, (Sr o54.fName)), (164, (Bo v55)), (165, (Bo false)), (166, (Bo false)), (167, (V.ptr 7 0 1)), (168, (I o54.fType)), (169, (Bo false)), (170, (Bo false)), (171, (Bo false)), (172, (V.ptr 7 0 1)), (173, (I o54.fType)), (174, (V.ptr 1 0 2)), (175, (sType a0.fTypes)), (176, (I (a0.fTypes.length : Int))), (177, (Bo false)), (178, (Bo false)), (179, (Bo false)), (180, (V.ptr 7 0 2)), (181, (I o54.fField)), (182, (Bo (decide (o54.fField < 0)))), (183, (Bo (decide (o54.fField < 0)))), (184, (Bo (decide (o54.fField < 0))))]) rfl rfl rfl) <| bifE (fun hc => ?_) fun hc => ?_
              · rw [hc]
                exact regp_end rfl
              · rw [hc]
                refine et (regp_adv (m := 6) (j := 29) (t' := [(1, (Pt 1)), (6, (I x52)), (7, (Pt 7)), (162, (Pt 7)), (163, (Sr o54.fName)), (164, (Bo v55)), (165, (Bo false)), (166, (Bo false)), (167, (V.ptr 7 0 1)), (168, (I o54.fType)), (169, (Bo false)), (170, (Bo false)), (171, (Bo false)), (172, (V.ptr 7 0 1)), (173, (I o54.fType)), (174, (V.ptr 1 0 2)), (175, (sType a0.fTypes)), (176, (I (a0.fTypes.length : Int))), (177, (Bo false)), (178, (Bo false)), (179, (Bo false)), (180, (V.ptr 7 0 2)), (181, (I o54.fField)), (182, (Bo false)), (183, (Bo false)), (184, (Bo false)), (185, (V.ptr 7 0 2)), (186, (I o54.fField)), (187, (V.ptr 1 0 2)), (188, (sType a0.fTypes)), (189, (V.ptr 7 0 1)), (190, (I o54.fType))]) rfl rfl rfl) <| et (regp_pure (x := (idx a0.fTypes o54.fType)) (w := fun v56 => (Pr (eType v56))) rfl rfl rfl rfl rfl (p_index (e := eType) rfl rfl rfl underlying22 rfl (by decide))) <| bindE fun v56 => et (putp_adv (m := 2) (j := 32) (t' := [(1, (Pt 1)), (6, (I x52)), (7, (Pt 7)), (162, (Pt 7)), (163, (Sr o54.fName)), (164, (Bo v55)), (165, (Bo false)), (166, (Bo false)), (167, (V.ptr 7 0 1)), (168, (I o54.fType)), (169, (Bo false)), (170, (Bo false)), (171, (Bo false)), (172, (V.ptr 7 0 1)), (173, (I o54.fType)), (174, (V.ptr 1 0 2)), (175, (sType a0.fTypes)), (176, (I (a0.fTypes.length : Int))), (177, (Bo false)), (178, (Bo false)), (179, (Bo false)), (180, (V.ptr 7 0 2)), (181, (I o54.fField)), (182, (Bo false)), (183, (Bo false)), (184, (Bo false)), (185, (V.ptr 7 0 2)), (186, (I o54.fField)), (187, (V.ptr 1 0 2)), (188, (sType a0.fTypes)), (189, (V.ptr 7 0 1)), (190, (I o54.fType)), (191, (Pr (eType v56))), (192, (Pr (sField v56.fFields))), (193, (sField v56.fFields))]) rfl rfl rfl) <| et (regp_pure (x := some ()) (w := fun _ => (I (v56.fFields.length : Int))) rfl rfl rfl rfl rfl (p_len (e := eField) rfl rfl rfl rfl rfl rfl underlying43)) <| et some_bind <| et (putp_adv (m := 3) (j := 36) (t' := [(1, (Pt 1)), (6, (I x52)), (7, (Pt 7)), (162, (Pt 7)), (163, (Sr o54.fName)), (164, (Bo v55)), (165, (Bo false)), (166, (Bo false)), (167, (V.ptr 7 0 1)), (168, (I o54.fType)), (169, (Bo false)), (170, (Bo false)), (171, (Bo false)), (172, (V.ptr 7 0 1)), (173, (I o54.fType)), (174, (V.ptr 1 0 2)), (175, (sType a0.fTypes)), (176, (I (a0.fTypes.length : Int))), (177, (Bo false)), (178, (Bo false)), (179, (Bo false)), (180, (V.ptr 7 0 2)), (181, (I o54.fField)), (182, (Bo false)), (183, (Bo false)), (184, (Bo false)), (185, (V.ptr 7 0 2)), (186, (I o54.fField)), (187, (V.ptr 1 0 2)), (188, (sType a0.fTypes)), (189, (V.ptr 7 0 1)), (190, (I o54.fType)), (191, (Pr (eType v56))), (192, (Pr (sField v56.fFields))), (193, (sField v56.fFields)), (194, (I (v56.fFields.length : Int))), (195, (Bo (decide (o54.fField ≥ (v56.fFields.length : Int))))), (196, (Bo (decide (o54.fField ≥ (v56.fFields.length : Int))))), (197, (Bo (decide (o54.fField ≥ (v56.fFields.length : Int)))))]) rfl rfl rfl) <| bifE (fun hc => ?_) fun hc => ?_
                · rw [hc]
                  exact regp_end rfl
                · rw [hc]
                  refine et (regp_adv (m := 4) (j := 40) (t' := [(1, (Pt 1)), (6, (I x52)), (7, (Pt 7)), (162, (Pt 7)), (163, (Sr o54.fName)), (164, (Bo v55)), (165, (Bo false)), (166, (Bo false)), (167, (V.ptr 7 0 1)), (168, (I o54.fType)), (169, (Bo false)), (170, (Bo false)), (171, (Bo false)), (172, (V.ptr 7 0 1)), (173, (I o54.fType)), (174, (V.ptr 1 0 2)), (175, (sType a0.fTypes)), (176, (I (a0.fTypes.length : Int))), (177, (Bo false)), (178, (Bo false)), (179, (Bo false)), (180, (V.ptr 7 0 2)), (181, (I o54.fField)), (182, (Bo false)), (183, (Bo false)), (184, (Bo false)), (185, (V.ptr 7 0 2)), (186, (I o54.fField)), (187, (V.ptr 1 0 2)), (188, (sType a0.fTypes)), (189, (V.ptr 7 0 1)), (190, (I o54.fType)), (191, (Pr (eType v56))), (192, (Pr (sField v56.fFields))), (193, (sField v56.fFields)), (194, (I (v56.fFields.length : Int))), (195, (Bo false)), (196, (Bo false)), (197, (Bo false)), (198, (V.ptr 1 0 2)), (199, (sType a0.fTypes)), (200, (V.ptr 7 0 1)), (201, (I o54.fType))]) rfl rfl rfl) <| et (regp_pure (x := (idx a0.fTypes o54.fType)) (w := fun v57 => (Pr (eType v57))) rfl rfl rfl rfl rfl (p_index (e := eType) rfl rfl rfl underlying22 rfl (by decide))) <| bindE fun v57 => et (putp_adv (m := 4) (j := 45) (t' := [(1, (Pt 1)), (6, (I x52)), (7, (Pt 7)), (162, (Pt 7)), (163, (Sr o54.fName)), (164, (Bo v55)), (165, (Bo false)), (166, (Bo false)), (167, (V.ptr 7 0 1)), (168, (I o54.fType)), (169, (Bo false)), (170, (Bo false)), (171, (Bo false)), (172, (V.ptr 7 0 1)), (173, (I o54.fType)), (174, (V.ptr 1 0 2)), (175, (sType a0.fTypes)), (176, (I (a0.fTypes.length : Int))), (177, (Bo false)), (178, (Bo false)), (179, (Bo false)), (180, (V.ptr 7 0 2)), (181, (I o54.fField)), (182, (Bo false)), (183, (Bo false)), (184, (Bo false)), (185, (V.ptr 7 0 2)), (186, (I o54.fField)), (187, (V.ptr 1 0 2)), (188, (sType a0.fTypes)), (189, (V.ptr 7 0 1)), (190, (I o54.fType)), (191, (Pr (eType v56))), (192, (Pr (sField v56.fFields))), (193, (sField v56.fFields)), (194, (I (v56.fFields.length : Int))), (195, (Bo false)), (196, (Bo false)), (197, (Bo false)), (198, (V.ptr 1 0 2)), (199, (sType a0.fTypes)), (200, (V.ptr 7 0 1)), (201, (I o54.fType)), (202, (Pr (eType v57))), (203, (Pr (sField v57.fFields))), (204, (sField v57.fFields)), (205, (V.ptr 7 0 2)), (206, (I o54.fField))]) rfl rfl rfl) <| et (regp_pure (x := (idx v57.fFields o54.fField)) (w := fun v58 => (Pr (eField v58))) rfl rfl rfl rfl rfl (p_index (e := eField) rfl rfl rfl underlying43 rfl (by decide))) <| bindE fun v58 => et (putp_adv (m := 5) (j := 51) (t' := [(1, (Pt 1)), (6, (I x52)), (7, (Pt 7)), (162, (Pt 7)), (163, (Sr o54.fName)), (164, (Bo v55)), (165, (Bo false)), (166, (Bo false)), (167, (V.ptr 7 0 1)), (168, (I o54.fType)), (169, (Bo false)), (170, (Bo false)), (171, (Bo false)), (172, (V.ptr 7 0 1)), (173, (I o54.fType)), (174, (V.ptr 1 0 2)), (175, (sType a0.fTypes)), (176, (I (a0.fTypes.length : Int))), (177, (Bo false)), (178, (Bo false)), (179, (Bo false)), (180, (V.ptr 7 0 2)), (181, (I o54.fField)), (182, (Bo false)), (183, (Bo false)), (184, (Bo false)), (185, (V.ptr 7 0 2)), (186, (I o54.fField)), (187, (V.ptr 1 0 2)), (188, (sType a0.fTypes)), (189, (V.ptr 7 0 1)), (190, (I o54.fType)), (191, (Pr (eType v56))), (192, (Pr (sField v56.fFields))), (193, (sField v56.fFields)), (194, (I (v56.fFields.length : Int))), (195, (Bo false)), (196, (Bo false)), (197, (Bo false)), (198, (V.ptr 1 0 2)), (199, (sType a0.fTypes)), (200, (V.ptr 7 0 1)), (201, (I o54.fType)), (202, (Pr (eType v57))), (203, (Pr (sField v57.fFields))), (204, (sField v57.fFields)), (205, (V.ptr 7 0 2)), (206, (I o54.fField)), (207, (Pr (eField v58))), (208, (Pr (I v58.fBytes))), (209, (I v58.fBytes)), (210, (Bo (decide (v58.fBytes > 20)))), (211, (Bo (decide (v58.fBytes > 20)))), (212, (Bo (decide (v58.fBytes > 20))))]) rfl rfl rfl) <| bifE (fun hc => ?_) fun hc => ?_
                  · rw [hc]
                    exact regp_end rfl
                  · rw [hc]
                    exact regp_end rfl
      refine kc rfl rfl (fun hc => ?_) fun hc => ?_
      · rw [hc]
        refine et k_assoc <| kr ⟨[(2, (Bo false))], [], 232⟩ rfl <| et k_ret <| et blk_ret <| et loop_ret <| et (hret _) ?_
        rfl
      · rw [hc]
        refine et k_skip <| kr ⟨[(1, (Pt 1)), (6, (I x52)), (7, (Pt 7)), (8, (I 0))], [(1, vS 4 (eBase a0)), (7, vS 4 (eSearch o54))], 232⟩ rfl <| et (k_lblock rfl) <| et k_loop ?_
        refine ref11_Valid_L4_ok k a0 x52 o54 _ _ ?h_ref11_Valid_L4_0 ?hr_ref11_Valid_L4 k 0
        · intro y65
          exact et blk_exit <| et k_lskip <| et blk_normal <| kl ⟨[(1, (Pt 1)), (6, (I (Go.IntKind.wrap .i64 (x52 + 1))))], [(1, vS 4 (eBase a0))], 232⟩ rfl <| et loop_normal <| ih (Go.IntKind.wrap .i64 (x52 + 1))
        · intro s; exact hret s
    · rw [hc]
      exact et k_exit <| et loop_exit <| hK0 x52
theorem ref11_Valid_ok (k : Nat) (a0 : T_api_Base) : EV k 15 [(eBase a0)] = (ref11_Valid k a0).map ref11_Valid_fin := by
  cases k with
  | zero => rfl
  | succ k =>
    unfold ref11_Valid
    refine et (evF_succ (c := f15c) (N := 232) (regs := f15n) rfl func15 rfl (by decide) rfl rfl rfl) <| kr ⟨[(1, (Pt 1))], [(1, vS 4 (eBase a0))], 232⟩ rfl <| et k_assoc <| kga f15a1 rfl (fun (o2 : Bool) => [(40, (Bo o2))]) ?_ fun o2 => ?_
    · refine rd 2 [(9, (Pt 1)), (10, (Sr a0.fName))] rfl rfl <| rp rfl (p_call rfl rfl rfl rfl rfl (ref11_IsName_ok k a0.fName) (.inl rfl)) fun v1 => bd 5 [(11, (Bo v1)), (12, (Bo (!v1))), (13, (Bo (!v1)))] rfl rfl <| bifE (fun hc => ?_) fun hc => ?_
      · rw [hc]
        exact reg_end rfl
      · rw [hc]
        refine rd 10 [(14, (V.ptr 1 0 1)), (15, (I a0.fKind)), (16, (Bo (decide (a0.fKind < 1)))), (17, (Bo (decide (a0.fKind < 1)))), (18, (Bo (decide (a0.fKind < 1))))] rfl rfl <| bifE (fun hc => ?_) fun hc => ?_
        · rw [hc]
          exact reg_end rfl
        · rw [hc]
          refine rd 15 [(19, (V.ptr 1 0 1)), (20, (I a0.fKind)), (21, (Bo (decide (a0.fKind > 4)))), (22, (Bo (decide (a0.fKind > 4)))), (23, (Bo (decide (a0.fKind > 4))))] rfl rfl <| bifE (fun hc => ?_) fun hc => ?_
          · rw [hc]
            exact reg_end rfl
          · rw [hc]
            refine rd 17 [(24, (V.ptr 1 0 2)), (25, (sType a0.fTypes))] rfl rfl <| rl rfl (p_len (e := eType) rfl rfl rfl rfl rfl rfl underlying22) <| bd 21 [(26, (I (a0.fTypes.length : Int))), (27, (Bo (decide ((a0.fTypes.length : Int) < 1)))), (28, (Bo (decide ((a0.fTypes.length : Int) < 1)))), (29, (Bo (decide ((a0.fTypes.length : Int) < 1))))] rfl rfl <| bifE (fun hc => ?_) fun hc => ?_
            · rw [hc]
              exact reg_end rfl
            · rw [hc]
              refine rd 23 [(30, (V.ptr 1 0 2)), (31, (sType a0.fTypes))] rfl rfl <| rl rfl (p_len (e := eType) rfl rfl rfl rfl rfl rfl underlying22) <| bd 27 [(32, (I (a0.fTypes.length : Int))), (33, (Bo (decide ((a0.fTypes.length : Int) > 8)))), (34, (Bo (decide ((a0.fTypes.length : Int) > 8)))), (35, (Bo (decide ((a0.fTypes.length : Int) > 8))))] rfl rfl <| bifE (fun hc => ?_) fun hc => ?_
              · rw [hc]
                exact reg_end rfl
              · rw [hc]
                exact rd 29 [(36, (V.ptr 1 0 3)), (37, (sSearch a0.fIndexes))] rfl rfl <| rl rfl (p_len (e := eSearch) rfl rfl rfl rfl rfl rfl underlying23) <| bind_end rfl
    refine kc rfl rfl (fun hc => ?_) fun hc => ?_
    · rw [hc]
      refine et k_assoc <| kr ⟨[(2, (Bo false))], [], 232⟩ rfl <| et k_ret ?_
      rfl
    · rw [hc]
      refine et k_skip <| et k_assoc <| kr ⟨[(1, (Pt 1)), (3, (I 0))], [(1, vS 4 (eBase a0))], 232⟩ rfl <| et (k_block rfl) <| et k_loop ?_
      refine ref11_Valid_L1_ok k a0 _ _ ?h_ref11_Valid_L1_0 ?hr_ref11_Valid_L1 k 0
      · intro y38
        refine et blk_exit <| et k_assoc <| kr ⟨[(1, (Pt 1)), (6, (I 0))], [(1, vS 4 (eBase a0))], 232⟩ rfl <| et (k_block rfl) <| et k_loop ?_
        refine ref11_Valid_L3_ok k a0 _ _ ?h_ref11_Valid_L3_0 ?hr_ref11_Valid_L3 k 0
        · intro y66
          refine et blk_exit <| kr ⟨[(2, (Bo true))], [], 232⟩ rfl <| et k_lret ?_
          rfl
        · intro s; exact rfl
      · intro s; exact rfl
def law14_shop_fin : T_api_Base → V × List V := fun r => ((eBase r), [])
theorem law14_shop_ok (k : Nat)  : EV k 18 [] = (law14_shop k).map law14_shop_fin := by
  cases k with
  | zero => rfl
  | succ k =>
    unfold law14_shop
    refine et (evF_succ (c := f18c) (N := 9) (regs := f18n) rfl func18 rfl (by decide) rfl rfl rfl) <| kr ⟨[(0, (Pt 0))], [(0, ⟨false, 4, [(V.agg [(Sr []), (I 0), (V.sl 2 8 (List.map eType ([] : List T_api_Type))), (V.sl 2 4 (List.map eSearch ([] : List T_api_Search)))])]⟩)], 9⟩ rfl <| kr ⟨[(0, (Pt 0))], [(0, ⟨false, 4, [(eBase ({ fName := ([83, 72, 79, 80] : Str), fKind := 4, fTypes := ([({ fName := ([67, 85, 83, 84] : Str), fParent := (-1), fMin := 4, fSize := 10, fFields := ([({ fName := ([67, 85, 83, 84, 78, 79] : Str), fAt := 0, fBytes := 4 } : T_api_Field)] : List T_api_Field), fKey := 0, fUnique := true, fLast := false } : T_api_Type), ({ fName := ([79, 82, 68, 69, 82] : Str), fParent := 0, fMin := 4, fSize := 8, fFields := ([({ fName := ([79, 82, 68, 78, 79] : Str), fAt := 0, fBytes := 4 } : T_api_Field)] : List T_api_Field), fKey := 0, fUnique := false, fLast := false } : T_api_Type)] : List T_api_Type), fIndexes := ([] : List T_api_Search) } : T_api_Base))]⟩)], 9⟩ rfl <| et k_lret ?_
    rfl
def dbd_IsName_fin : Bool → V × List V := fun r => ((Bo r), [])
theorem dbd_IsName_L1_ok (k : Nat) (a0 : Str)  (K0 : Int → Option Bool) (Kst : X × St → Option (V × List V)) (hK0 : ∀ (y0 : Int), Kst (X.exit 0, ⟨[(0, (Sr a0)), (6, (I (a0.length : Int))), (7, (I y0)), (8, (Bo false))], [], 47⟩) = (K0 y0).map dbd_IsName_fin) (hret : ∀ s, Kst (X.ret, s) = endK prog 47 [(Sr a0)] [] [.tmp 2] (X.ret, s)) :
    ∀ (m : Nat) (x7 : Int), (iter (exec prog (EV k) f30n k f30b0) m ⟨[(0, (Sr a0)), (6, (I (a0.length : Int))), (7, (I x7))], [], 47⟩).bind Kst = (dbd_IsName_L1 a0 K0 m x7).map dbd_IsName_fin := by
  intro m
  induction m with
  | zero => intros; rfl
  | succ m ih =>
    intro x7
    unfold dbd_IsName_L1
    refine et k_round <| kra [(8, (Bo (decide (x7 < (a0.length : Int)))))] rfl <| kc rfl rfl (fun hc => ?_) fun hc => ?_
    · rw [hc]
      refine et k_skip <| et (k_block rfl) <| kr ⟨[(0, (Sr a0)), (3, (I x7)), (6, (I (a0.length : Int))), (7, (I x7))], [], 47⟩ rfl <| kg f30a4 rfl (fun (o10 : Bool) => ⟨[(0, (Sr a0)), (3, (I x7)), (4, (Bo o10)), (6, (I (a0.length : Int))), (7, (I x7))], [], 47⟩) ?_ fun o10 => ?_
      · refine rd 2 [(10, (Sr a0)), (11, (I x7))] rfl rfl <| rp rfl (p_indexS rfl rfl rfl underlying9) fun v8 => bd 5 [(12, (V.int .u8 v8)), (13, (Bo (decide (v8 ≥ 65)))), (14, (Bo (decide (v8 ≥ 65))))] rfl rfl <| bifE (fun hc => ?_) fun hc => ?_
        · rw [hc]
          exact rd 7 [(15, (Sr a0)), (16, (I x7))] rfl rfl <| rp rfl (p_indexS rfl rfl rfl underlying9) fun v9 => bind_end rfl
        · rw [hc]
          exact reg_end rfl
      refine kg f30a5 rfl (fun (o13 : Bool) => ⟨[(0, (Sr a0)), (6, (I (a0.length : Int))), (7, (I x7)), (37, (Bo o13))], [], 47⟩) ?_ fun o13 => ?_
      · refine rd 3 [(20, (Bo o10)), (21, (Bo (!o10))), (22, (Bo (!o10)))] rfl rfl <| bifE (fun hc => ?_) fun hc => ?_
        · rw [hc]
          refine rd 6 [(23, (I x7)), (24, (Bo (x7 == 0))), (25, (Bo (x7 == 0)))] rfl rfl <| bifE (fun hc => ?_) fun hc => ?_
          · rw [hc]
            exact reg_end rfl
          · rw [hc]
            refine rd 8 [(26, (Sr a0)), (27, (I x7))] rfl rfl <| rp rfl (p_indexS rfl rfl rfl underlying9) fun v11 => bd 12 [(28, (V.int .u8 v11)), (29, (Bo (decide (v11 < 48)))), (30, (Bo (decide (v11 < 48)))), (31, (Bo (decide (v11 < 48))))] rfl rfl <| bifE (fun hc => ?_) fun hc => ?_
            · rw [hc]
              exact reg_end rfl
            · rw [hc]
              exact rd 14 [(32, (Sr a0)), (33, (I x7))] rfl rfl <| rp rfl (p_indexS rfl rfl rfl underlying9) fun v12 => bind_end rfl
        · rw [hc]
          exact reg_end rfl
      refine kcl rfl rfl (fun hc => ?_) fun hc => ?_
      · rw [hc]
        refine kr ⟨[(2, (Bo false))], [], 47⟩ rfl <| et k_lret <| et blk_ret <| et loop_ret <| et (hret _) ?_
        rfl
      · rw [hc]
        exact et k_lskip <| et blk_normal <| kl ⟨[(0, (Sr a0)), (6, (I (a0.length : Int))), (7, (I (Go.IntKind.wrap .i64 (x7 + 1))))], [], 47⟩ rfl <| et loop_normal <| ih (Go.IntKind.wrap .i64 (x7 + 1))
    · rw [hc]
      exact et k_exit <| et loop_exit <| hK0 x7
theorem dbd_IsName_ok (k : Nat) (a0 : Str) : EV k 30 [(Sr a0)] = (dbd_IsName k a0).map dbd_IsName_fin := by
  cases k with
  | zero => rfl
  | succ k =>
    unfold dbd_IsName
    refine et (evF_succ (c := f30c) (N := 47) (regs := f30n) rfl func30 rfl (by decide) rfl rfl rfl) <| kra [] rfl <| et k_assoc <| kra [(6, (I (a0.length : Int))), (7, (I 0))] rfl <| et (k_block rfl) <| et k_loop ?_
    refine dbd_IsName_L1_ok k a0 _ _ ?h_dbd_IsName_L1_0 ?hr_dbd_IsName_L1 k 0
    · intro y14
      refine et blk_exit <| kg f30a8 rfl (fun (o15 : Bool) => ⟨[(2, (Bo o15))], [], 47⟩) ?_ fun o15 => ?_
      · refine rd 4 [(39, (Sr a0)), (40, (I (a0.length : Int))), (41, (Bo (decide ((a0.length : Int) ≥ 1)))), (42, (Bo (decide ((a0.length : Int) ≥ 1))))] rfl rfl <| bifE (fun hc => ?_) fun hc => ?_
        · rw [hc]
          exact reg_end rfl
        · rw [hc]
          exact reg_end rfl
      refine et k_lret ?_
      rfl
    · intro s; exact rfl
def slices_IndexFunc_Field_fin : Int → V × List V := fun r => ((I r), [])
theorem slices_IndexFunc_Field_L1_ok (k : Nat) (a0 : (List T_api_Field)) (a1 : Nat → T_api_Field → Option Bool) (a1_fid : Go.FuncId) (a1_c0 : V) (a1_hok : ∀ j x0, EV j a1_fid [(eField x0), V.pro a1_c0] = (a1 j x0).map fun b => ((Bo b), [])) (K0 : Int → Option Int) (Kst : X × St → Option (V × List V)) (hK0 : ∀ (y0 : Int), Kst (X.exit 0, ⟨[(0, (sField a0)), (1, (V.fn a1_fid [] [V.pro a1_c0])), (7, (I (a0.length : Int))), (8, (I y0)), (9, (Bo false))], [], 19⟩) = (K0 y0).map slices_IndexFunc_Field_fin) (hret : ∀ s, Kst (X.ret, s) = endK prog 19 [(sField a0), (V.fn a1_fid [] [V.pro a1_c0])] [] [.tmp 4] (X.ret, s)) :
    ∀ (m : Nat) (x4 : Int), (iter (exec prog (EV k) f98n k f98b0) m ⟨[(0, (sField a0)), (1, (V.fn a1_fid [] [V.pro a1_c0])), (7, (I (a0.length : Int))), (8, (I x4))], [], 19⟩).bind Kst = (slices_IndexFunc_Field_L1 k a0 a1 K0 m x4).map slices_IndexFunc_Field_fin := by
  intro m
  induction m with
  | zero => intros; rfl
  | succ m ih =>
    intro x4
    unfold slices_IndexFunc_Field_L1
    refine et k_round <| kra [(9, (Bo (decide (x4 < (a0.length : Int)))))] rfl <| kc rfl rfl (fun hc => ?_) fun hc => ?_
    · rw [hc]
      refine et k_skip <| et (k_block rfl) <| kr ⟨[(0, (sField a0)), (1, (V.fn a1_fid [] [V.pro a1_c0])), (5, (I x4)), (7, (I (a0.length : Int))), (8, (I x4))], [], 19⟩ rfl <| kga f98a4 rfl (fun (o7 : Bool) => [(16, (Bo o7))]) (rd 3 [(11, (V.fn a1_fid [] [V.pro a1_c0])), (12, (sField a0)), (13, (I x4))] rfl rfl <| rp rfl (p_index (e := eField) rfl rfl rfl underlying43 rfl (by decide)) fun v5 => bd 5 [(14, (Pr (eField v5))), (15, (eField v5))] rfl rfl <| rs rfl (p_call rfl rfl rfl rfl rfl (a1_hok k v5) (.inl rfl)) fun v6 => bind_end rfl) fun o7 => kcl rfl rfl (fun hc => ?_) fun hc => ?_
      · rw [hc]
        refine kr ⟨[(4, (I x4))], [], 19⟩ rfl <| et k_lret <| et blk_ret <| et loop_ret <| et (hret _) ?_
        rfl
      · rw [hc]
        exact et k_lskip <| et blk_normal <| kl ⟨[(0, (sField a0)), (1, (V.fn a1_fid [] [V.pro a1_c0])), (7, (I (a0.length : Int))), (8, (I (Go.IntKind.wrap .i64 (x4 + 1))))], [], 19⟩ rfl <| et loop_normal <| ih (Go.IntKind.wrap .i64 (x4 + 1))
    · rw [hc]
      exact et k_exit <| et loop_exit <| hK0 x4
theorem slices_IndexFunc_Field_ok (k : Nat) (a0 : (List T_api_Field)) (a1 : Nat → T_api_Field → Option Bool) (a1_fid : Go.FuncId) (a1_c0 : V) (a1_hok : ∀ j x0, EV j a1_fid [(eField x0), V.pro a1_c0] = (a1 j x0).map fun b => ((Bo b), [])) : EV k 98 [(sField a0), (V.fn a1_fid [] [V.pro a1_c0])] = (slices_IndexFunc_Field k a0 a1).map slices_IndexFunc_Field_fin := by
  cases k with
  | zero => rfl
  | succ k =>
    unfold slices_IndexFunc_Field
    refine et (evF_succ (c := f98c) (N := 19) (regs := f98n) rfl func98 rfl (by decide) rfl rfl rfl) <| kra [] rfl <| et k_assoc <| krp f98a1 rfl ⟨[(0, (sField a0)), (1, (V.fn a1_fid [] [V.pro a1_c0])), (7, (I (a0.length : Int))), (8, (I 0))], [], 19⟩ ?_ ?_
    · exact rd 1 [(6, (sField a0))] rfl rfl <| rl rfl (p_len (e := eField) rfl rfl rfl rfl rfl rfl underlying43) <| bind_end rfl
    refine et (k_block rfl) <| et k_loop ?_
    refine slices_IndexFunc_Field_L1_ok k a0 a1 a1_fid a1_c0 a1_hok _ _ ?h_slices_IndexFunc_Field_L1_0 ?hr_slices_IndexFunc_Field_L1 k 0
    · intro y8
      refine et blk_exit <| kr ⟨[(4, (I (-1)))], [], 19⟩ rfl <| et k_lret ?_
      rfl
    · intro s; exact rfl
def slices_ContainsFunc_Field_fin : Bool → V × List V := fun r => ((Bo r), [])
theorem slices_ContainsFunc_Field_ok (k : Nat) (a0 : (List T_api_Field)) (a1 : Nat → T_api_Field → Option Bool) (a1_fid : Go.FuncId) (a1_c0 : V) (a1_hok : ∀ j x0, EV j a1_fid [(eField x0), V.pro a1_c0] = (a1 j x0).map fun b => ((Bo b), [])) : EV k 87 [(sField a0), (V.fn a1_fid [] [V.pro a1_c0])] = (slices_ContainsFunc_Field k a0 a1).map slices_ContainsFunc_Field_fin := by
  cases k with
  | zero => rfl
  | succ k =>
    unfold slices_ContainsFunc_Field
    refine et (evF_succ (c := f87c) (N := 9) (regs := f87n) rfl func87 rfl (by decide) rfl rfl rfl) <| kra [] rfl <| kg f87a1 rfl (fun (o2 : Bool) => ⟨[(4, (Bo o2))], [], 9⟩) (rd 2 [(5, (sField a0)), (6, (V.fn a1_fid [] [V.pro a1_c0]))] rfl rfl <| rp rfl (p_call rfl rfl rfl rfl rfl (slices_IndexFunc_Field_ok k a0 a1 a1_fid a1_c0 a1_hok) (.inl rfl)) fun v1 => bind_end rfl) fun o2 => et k_lret ?_
    rfl
def dbd_areFields_1_fin : Bool → V × List V := fun r => ((Bo r), [])
theorem dbd_areFields_1_ok (k : Nat) (a0 : T_api_Field) (a1 : T_api_Field) : EV k 88 [(eField a0), (Pr (eField a1))] = (dbd_areFields_1 k a0 a1).map dbd_areFields_1_fin := by
  cases k with
  | zero => rfl
  | succ k =>
    unfold dbd_areFields_1
    refine et (evF_succ (c := f88c) (N := 9) (regs := f88n) rfl func88 rfl (by decide) rfl rfl rfl) <| kr ⟨[(1, (Pr (eField a1))), (2, (Pt 2))], [(2, vS 3 (eField a0))], 9⟩ rfl <| kr ⟨[(3, (Bo (a0.fName == a1.fName)))], [], 9⟩ rfl <| et k_lret ?_
    rfl
def dbd_areFields_fin : Bool → V × List V := fun r => ((Bo r), [])
theorem dbd_areFields_L1_ok (k : Nat) (a0 : (List T_api_Field)) (a1 : Int)  (K0 : Int → Option Bool) (Kst : X × St → Option (V × List V)) (hK0 : ∀ (y0 : Int), Kst (X.exit 0, ⟨[(0, (sField a0)), (1, (I a1)), (7, (sField a0)), (8, (I (a0.length : Int))), (9, (I y0)), (10, (Bo false))], [], 52⟩) = (K0 y0).map dbd_areFields_fin) (hret : ∀ s, Kst (X.ret, s) = endK prog 52 [(sField a0), (I a1)] [] [.tmp 4] (X.ret, s)) :
    ∀ (m : Nat) (x8 : Int), (iter (exec prog (EV k) f68n k f68b0) m ⟨[(0, (sField a0)), (1, (I a1)), (7, (sField a0)), (8, (I (a0.length : Int))), (9, (I x8))], [], 52⟩).bind Kst = (dbd_areFields_L1 k a0 a1 K0 m x8).map dbd_areFields_fin := by
  intro m
  induction m with
  | zero => intros; rfl
  | succ m ih =>
    intro x8
    unfold dbd_areFields_L1
    refine et k_round <| kra [(10, (Bo (decide (x8 < (a0.length : Int)))))] rfl <| kc rfl rfl (fun hc => ?_) fun hc => ?_
    · rw [hc]
      refine et k_skip <| et (k_block rfl) <| kg f68a3 rfl (fun (o10 : Int × T_api_Field) => ⟨[(0, (sField a0)), (1, (I a1)), (5, (I o10.1)), (6, (Pt 6)), (7, (sField a0)), (8, (I (a0.length : Int))), (9, (I x8))], [(6, vS 3 (eField o10.2))], 52⟩) (rd 1 [(11, (I x8))] rfl rfl <| rp rfl (p_index (e := eField) rfl rfl rfl underlying43 rfl (by decide)) fun v9 => bind_end rfl) fun o10 => et k_assoc <| kga f68a4 rfl (fun (o12 : Bool) => [(42, (Bo o12))]) ?_ fun o12 => ?_
      · refine rd 2 [(14, (Pt 6)), (15, (Sr o10.2.fName))] rfl rfl <| rp rfl (p_call rfl rfl rfl rfl rfl (dbd_IsName_ok k o10.2.fName) (.inl rfl)) fun v11 => bd 5 [(16, (Bo v11)), (17, (Bo (!v11))), (18, (Bo (!v11)))] rfl rfl <| bifE (fun hc => ?_) fun hc => ?_
        · rw [hc]
          exact reg_end rfl
        · rw [hc]
          refine rd 10 [(19, (V.ptr 6 0 1)), (20, (I o10.2.fAt)), (21, (Bo (decide (o10.2.fAt < 0)))), (22, (Bo (decide (o10.2.fAt < 0)))), (23, (Bo (decide (o10.2.fAt < 0))))] rfl rfl <| bifE (fun hc => ?_) fun hc => ?_
          · rw [hc]
            exact reg_end rfl
          · rw [hc]
            refine rd 16 [(24, (V.ptr 6 0 1)), (25, (I o10.2.fAt)), (26, (I a1)), (27, (Bo (decide (o10.2.fAt ≥ a1)))), (28, (Bo (decide (o10.2.fAt ≥ a1)))), (29, (Bo (decide (o10.2.fAt ≥ a1))))] rfl rfl <| bifE (fun hc => ?_) fun hc => ?_
            · rw [hc]
              exact reg_end rfl
            · rw [hc]
              refine rd 21 [(30, (V.ptr 6 0 2)), (31, (I o10.2.fBytes)), (32, (Bo (decide (o10.2.fBytes < 1)))), (33, (Bo (decide (o10.2.fBytes < 1)))), (34, (Bo (decide (o10.2.fBytes < 1))))] rfl rfl <| bifE (fun hc => ?_) fun hc => ?_
              · rw [hc]
                exact reg_end rfl
              · rw [hc]
                exact reg_end rfl
      refine kc rfl rfl (fun hc => ?_) fun hc => ?_
      · rw [hc]
        refine et k_assoc <| kr ⟨[(4, (Bo false))], [], 52⟩ rfl <| et k_ret <| et blk_ret <| et loop_ret <| et (hret _) ?_
        rfl
      · rw [hc]
        refine et k_skip <| kg f68a6 rfl (fun (o15 : Bool) => ⟨[(0, (sField a0)), (1, (I a1)), (7, (sField a0)), (8, (I (a0.length : Int))), (9, (I x8)), (47, (Bo o15))], [], 52⟩) (rd 2 [(43, (sField a0)), (44, (I o10.1))] rfl rfl <| rp rfl (p_slice (e := eField) rfl rfl rfl rfl rfl rfl underlying43 rfl (by decide)) fun v13 => bd 4 [(45, (sField v13)), (46, (V.fn 88 [] [(Pt 6)]))] rfl rfl <| rs rfl (p_call rfl rfl rfl rfl rfl (slices_ContainsFunc_Field_ok k v13 (fun j x0 => (dbd_areFields_1 j x0 o10.2)) 88 (eField o10.2) (fun j x0 => (dbd_areFields_1_ok j x0 o10.2))) (.inr (fun _ => rfl))) fun v14 => bind_end rfl) fun o15 => kcl rfl rfl (fun hc => ?_) fun hc => ?_
        · rw [hc]
          refine kr ⟨[(4, (Bo false))], [], 52⟩ rfl <| et k_lret <| et blk_ret <| et loop_ret <| et (hret _) ?_
          rfl
        · rw [hc]
          exact et k_lskip <| et blk_normal <| kl ⟨[(0, (sField a0)), (1, (I a1)), (7, (sField a0)), (8, (I (a0.length : Int))), (9, (I (Go.IntKind.wrap .i64 (x8 + 1))))], [], 52⟩ rfl <| et loop_normal <| ih (Go.IntKind.wrap .i64 (x8 + 1))
    · rw [hc]
      exact et k_exit <| et loop_exit <| hK0 x8
theorem dbd_areFields_ok (k : Nat) (a0 : (List T_api_Field)) (a1 : Int) : EV k 68 [(sField a0), (I a1)] = (dbd_areFields k a0 a1).map dbd_areFields_fin := by
  cases k with
  | zero => rfl
  | succ k =>
    unfold dbd_areFields
    refine et (evF_succ (c := f68c) (N := 52) (regs := f68n) rfl func68 rfl (by decide) rfl rfl rfl) <| kra [] rfl <| et k_assoc <| krp f68a1 rfl ⟨[(0, (sField a0)), (1, (I a1)), (7, (sField a0)), (8, (I (a0.length : Int))), (9, (I 0))], [], 52⟩ ?_ ?_
    · exact rd 1 [(7, (sField a0))] rfl rfl <| rl rfl (p_len (e := eField) rfl rfl rfl rfl rfl rfl underlying43) <| bind_end rfl
    refine et (k_block rfl) <| et k_loop ?_
    refine dbd_areFields_L1_ok k a0 a1 _ _ ?h_dbd_areFields_L1_0 ?hr_dbd_areFields_L1 k 0
    · intro y16
      refine et blk_exit <| krp f68a9 rfl ⟨[(4, (Bo (decide ((a0.length : Int) ≤ 5))))], [], 52⟩ ?_ ?_
      · exact rd 1 [(49, (sField a0))] rfl rfl <| rl rfl (p_len (e := eField) rfl rfl rfl rfl rfl rfl underlying43) <| bind_end rfl
      refine et k_lret ?_
      rfl
    · intro s; exact rfl
def dbd_isType_fin : Bool → V × List V := fun r => ((Bo r), [])
theorem dbd_isType_ok (k : Nat) (a0 : T_api_Type) : EV k 47 [(eType a0)] = (dbd_isType k a0).map dbd_isType_fin := by
  cases k with
  | zero => rfl
  | succ k =>
    unfold dbd_isType
    refine et (evF_succ (c := f47c) (N := 70) (regs := f47n) rfl func47 rfl (by decide) rfl rfl rfl) <| kr ⟨[(1, (Pt 1))], [(1, vS 8 (eType a0))], 70⟩ rfl <| et (k_block rfl) <| kga f47a1 rfl (fun (o3 : Bool) => [(3, (Bo o3))]) ?_ fun o3 => ?_
    · refine rd 2 [(4, (Pt 1)), (5, (Sr a0.fName))] rfl rfl <| rp rfl (p_call rfl rfl rfl rfl rfl (dbd_IsName_ok k a0.fName) (.inl rfl)) fun v1 => bd 5 [(6, (Bo v1)), (7, (Bo (!v1))), (8, (Bo (!v1)))] rfl rfl <| bifE (fun hc => ?_) fun hc => ?_
      · rw [hc]
        exact reg_end rfl
      · rw [hc]
        refine rd 10 [(9, (V.ptr 1 0 2)), (10, (I a0.fMin)), (11, (Bo (decide (a0.fMin < 1)))), (12, (Bo (decide (a0.fMin < 1)))), (13, (Bo (decide (a0.fMin < 1))))] rfl rfl <| bifE (fun hc => ?_) fun hc => ?_
        · rw [hc]
          exact reg_end rfl
        · rw [hc]
          refine rd 17 [(14, (V.ptr 1 0 2)), (15, (I a0.fMin)), (16, (V.ptr 1 0 3)), (17, (I a0.fSize)), (18, (Bo (decide (a0.fMin > a0.fSize)))), (19, (Bo (decide (a0.fMin > a0.fSize)))), (20, (Bo (decide (a0.fMin > a0.fSize))))] rfl rfl <| bifE (fun hc => ?_) fun hc => ?_
          · rw [hc]
            exact reg_end rfl
          · rw [hc]
            refine rd 22 [(21, (V.ptr 1 0 3)), (22, (I a0.fSize)), (23, (Bo (decide (a0.fSize > 40)))), (24, (Bo (decide (a0.fSize > 40)))), (25, (Bo (decide (a0.fSize > 40))))] rfl rfl <| bifE (fun hc => ?_) fun hc => ?_
            · rw [hc]
              exact reg_end rfl
            · rw [hc]
              exact rd 26 [(26, (V.ptr 1 0 4)), (27, (sField a0.fFields)), (28, (V.ptr 1 0 3)), (29, (I a0.fSize))] rfl rfl <| rp rfl (p_call rfl rfl rfl rfl rfl (dbd_areFields_ok k a0.fFields a0.fSize) (.inl rfl)) fun v2 => bind_end rfl
    refine kcl rfl rfl (fun hc => ?_) fun hc => ?_
    · rw [hc]
      refine kr ⟨[(2, (Bo false))], [], 70⟩ rfl <| et k_lret <| et blk_ret ?_
      rfl
    · rw [hc]
      refine kr ⟨[(1, (Pt 1)), (33, (Bo (a0.fKey == (-1))))], [(1, vS 8 (eType a0))], 70⟩ rfl <| kcl rfl rfl (fun hc => ?_) fun hc => ?_
      · rw [hc]
        refine kr ⟨[(2, (Bo (!a0.fUnique)))], [], 70⟩ rfl <| et k_lret <| et blk_ret ?_
        rfl
      · rw [hc]
        refine kg f47a5 rfl (fun (o4 : Bool) => ⟨[(1, (Pt 1)), (40, (Bo o4))], [(1, vS 8 (eType a0))], 70⟩) ?_ fun o4 => ?_
        · refine rd 4 [(41, (V.ptr 1 0 5)), (42, (I a0.fKey)), (43, (Bo (decide (a0.fKey < 0)))), (44, (Bo (decide (a0.fKey < 0))))] rfl rfl <| bifE (fun hc => ?_) fun hc => ?_
          · rw [hc]
            exact reg_end rfl
          · rw [hc]
            exact rd 8 [(45, (V.ptr 1 0 5)), (46, (I a0.fKey)), (47, (V.ptr 1 0 4)), (48, (sField a0.fFields))] rfl rfl <| rl rfl (p_len (e := eField) rfl rfl rfl rfl rfl rfl underlying43) <| bind_end rfl
        refine kcl rfl rfl (fun hc => ?_) fun hc => ?_
        · rw [hc]
          refine kr ⟨[(2, (Bo false))], [], 70⟩ rfl <| et k_lret <| et blk_ret ?_
          rfl
        · rw [hc]
          refine et k_lskip <| et blk_normal <| kd f47a7 rfl (fun (o7 : Bool) => ⟨[(2, (Bo o7))], [], 70⟩) (et (regionE_regp (p := 19) (dk := true) (t := [(1, (Pt 1)), (40, (Bo false))]) (σ := [(1, vS 8 (eType a0))]) (n := 70) rfl (by decide) (by decide) rfl) <| et (regp_adv (m := 4) (j := 4) (t' := [(1, (Pt 1)), (40, (Bo false)), (52, (V.ptr 1 0 4)), (53, (sField a0.fFields)), (54, (V.ptr 1 0 5)), (55, (I a0.fKey))]) rfl rfl rfl) <| et (regp_pure (x := (idx a0.fFields a0.fKey)) (w := fun v5 => (Pr (eField v5))) rfl rfl rfl rfl rfl (p_index (e := eField) rfl rfl rfl underlying43 rfl (by decide))) <| bindE fun v5 => et (putp_adv (m := 6) (j := 11) (t' := [(1, (Pt 1)), (40, (Bo false)), (52, (V.ptr 1 0 4)), (53, (sField a0.fFields)), (54, (V.ptr 1 0 5)), (55, (I a0.fKey)), (56, (Pr (eField v5))), (57, (Pr (I v5.fAt))), (58, (I v5.fAt)), (59, (V.ptr 1 0 4)), (60, (sField a0.fFields)), (61, (V.ptr 1 0 5)), (62, (I a0.fKey))]) rfl rfl rfl) <| et (regp_pure (x := (idx a0.fFields a0.fKey)) (w := fun v6 => (Pr (eField v6))) rfl rfl rfl rfl rfl (p_index (e := eField) rfl rfl rfl underlying43 rfl (by decide))) <| bindE fun v6 => regp_end rfl) fun o7 => et k_lret ?_
          rfl
def slices_IndexFunc_Type_fin : Int → V × List V := fun r => ((I r), [])
theorem slices_IndexFunc_Type_L1_ok (k : Nat) (a0 : (List T_api_Type)) (a1 : Nat → T_api_Type → Option Bool) (a1_fid : Go.FuncId) (a1_c0 : V) (a1_hok : ∀ j x0, EV j a1_fid [(eType x0), V.pro a1_c0] = (a1 j x0).map fun b => ((Bo b), [])) (K0 : Int → Option Int) (Kst : X × St → Option (V × List V)) (hK0 : ∀ (y0 : Int), Kst (X.exit 0, ⟨[(0, (sType a0)), (1, (V.fn a1_fid [] [V.pro a1_c0])), (7, (I (a0.length : Int))), (8, (I y0)), (9, (Bo false))], [], 19⟩) = (K0 y0).map slices_IndexFunc_Type_fin) (hret : ∀ s, Kst (X.ret, s) = endK prog 19 [(sType a0), (V.fn a1_fid [] [V.pro a1_c0])] [] [.tmp 4] (X.ret, s)) :
    ∀ (m : Nat) (x4 : Int), (iter (exec prog (EV k) f69n k f69b0) m ⟨[(0, (sType a0)), (1, (V.fn a1_fid [] [V.pro a1_c0])), (7, (I (a0.length : Int))), (8, (I x4))], [], 19⟩).bind Kst = (slices_IndexFunc_Type_L1 k a0 a1 K0 m x4).map slices_IndexFunc_Type_fin := by
  intro m
  induction m with
  | zero => intros; rfl
  | succ m ih =>
    intro x4
    unfold slices_IndexFunc_Type_L1
    refine et k_round <| kra [(9, (Bo (decide (x4 < (a0.length : Int)))))] rfl <| kc rfl rfl (fun hc => ?_) fun hc => ?_
    · rw [hc]
      refine et k_skip <| et (k_block rfl) <| kr ⟨[(0, (sType a0)), (1, (V.fn a1_fid [] [V.pro a1_c0])), (5, (I x4)), (7, (I (a0.length : Int))), (8, (I x4))], [], 19⟩ rfl <| kga f69a4 rfl (fun (o7 : Bool) => [(16, (Bo o7))]) (rd 3 [(11, (V.fn a1_fid [] [V.pro a1_c0])), (12, (sType a0)), (13, (I x4))] rfl rfl <| rp rfl (p_index (e := eType) rfl rfl rfl underlying22 rfl (by decide)) fun v5 => bd 5 [(14, (Pr (eType v5))), (15, (eType v5))] rfl rfl <| rs rfl (p_call rfl rfl rfl rfl rfl (a1_hok k v5) (.inl rfl)) fun v6 => bind_end rfl) fun o7 => kcl rfl rfl (fun hc => ?_) fun hc => ?_
      · rw [hc]
        refine kr ⟨[(4, (I x4))], [], 19⟩ rfl <| et k_lret <| et blk_ret <| et loop_ret <| et (hret _) ?_
        rfl
      · rw [hc]
        exact et k_lskip <| et blk_normal <| kl ⟨[(0, (sType a0)), (1, (V.fn a1_fid [] [V.pro a1_c0])), (7, (I (a0.length : Int))), (8, (I (Go.IntKind.wrap .i64 (x4 + 1))))], [], 19⟩ rfl <| et loop_normal <| ih (Go.IntKind.wrap .i64 (x4 + 1))
    · rw [hc]
      exact et k_exit <| et loop_exit <| hK0 x4
theorem slices_IndexFunc_Type_ok (k : Nat) (a0 : (List T_api_Type)) (a1 : Nat → T_api_Type → Option Bool) (a1_fid : Go.FuncId) (a1_c0 : V) (a1_hok : ∀ j x0, EV j a1_fid [(eType x0), V.pro a1_c0] = (a1 j x0).map fun b => ((Bo b), [])) : EV k 69 [(sType a0), (V.fn a1_fid [] [V.pro a1_c0])] = (slices_IndexFunc_Type k a0 a1).map slices_IndexFunc_Type_fin := by
  cases k with
  | zero => rfl
  | succ k =>
    unfold slices_IndexFunc_Type
    refine et (evF_succ (c := f69c) (N := 19) (regs := f69n) rfl func69 rfl (by decide) rfl rfl rfl) <| kra [] rfl <| et k_assoc <| krp f69a1 rfl ⟨[(0, (sType a0)), (1, (V.fn a1_fid [] [V.pro a1_c0])), (7, (I (a0.length : Int))), (8, (I 0))], [], 19⟩ ?_ ?_
    · exact rd 1 [(6, (sType a0))] rfl rfl <| rl rfl (p_len (e := eType) rfl rfl rfl rfl rfl rfl underlying22) <| bind_end rfl
    refine et (k_block rfl) <| et k_loop ?_
    refine slices_IndexFunc_Type_L1_ok k a0 a1 a1_fid a1_c0 a1_hok _ _ ?h_slices_IndexFunc_Type_L1_0 ?hr_slices_IndexFunc_Type_L1 k 0
    · intro y8
      refine et blk_exit <| kr ⟨[(4, (I (-1)))], [], 19⟩ rfl <| et k_lret ?_
      rfl
    · intro s; exact rfl
def slices_ContainsFunc_Type_fin : Bool → V × List V := fun r => ((Bo r), [])
theorem slices_ContainsFunc_Type_ok (k : Nat) (a0 : (List T_api_Type)) (a1 : Nat → T_api_Type → Option Bool) (a1_fid : Go.FuncId) (a1_c0 : V) (a1_hok : ∀ j x0, EV j a1_fid [(eType x0), V.pro a1_c0] = (a1 j x0).map fun b => ((Bo b), [])) : EV k 48 [(sType a0), (V.fn a1_fid [] [V.pro a1_c0])] = (slices_ContainsFunc_Type k a0 a1).map slices_ContainsFunc_Type_fin := by
  cases k with
  | zero => rfl
  | succ k =>
    unfold slices_ContainsFunc_Type
    refine et (evF_succ (c := f48c) (N := 9) (regs := f48n) rfl func48 rfl (by decide) rfl rfl rfl) <| kra [] rfl <| kg f48a1 rfl (fun (o2 : Bool) => ⟨[(4, (Bo o2))], [], 9⟩) (rd 2 [(5, (sType a0)), (6, (V.fn a1_fid [] [V.pro a1_c0]))] rfl rfl <| rp rfl (p_call rfl rfl rfl rfl rfl (slices_IndexFunc_Type_ok k a0 a1 a1_fid a1_c0 a1_hok) (.inl rfl)) fun v1 => bind_end rfl) fun o2 => et k_lret ?_
    rfl
def dbd_areTypes_1_fin : Bool → V × List V := fun r => ((Bo r), [])
theorem dbd_areTypes_1_ok (k : Nat) (a0 : T_api_Type) (a1 : T_api_Type) : EV k 49 [(eType a0), (Pr (eType a1))] = (dbd_areTypes_1 k a0 a1).map dbd_areTypes_1_fin := by
  cases k with
  | zero => rfl
  | succ k =>
    unfold dbd_areTypes_1
    refine et (evF_succ (c := f49c) (N := 9) (regs := f49n) rfl func49 rfl (by decide) rfl rfl rfl) <| kr ⟨[(1, (Pr (eType a1))), (2, (Pt 2))], [(2, vS 8 (eType a0))], 9⟩ rfl <| kr ⟨[(3, (Bo (a0.fName == a1.fName)))], [], 9⟩ rfl <| et k_lret ?_
    rfl
def slices_Index_int_fin : Int → V × List V := fun r => ((I r), [])
theorem slices_Index_int_L1_ok (k : Nat) (a0 : (List Int)) (a1 : Int)  (K0 : Int → Option Int) (Kst : X × St → Option (V × List V)) (hK0 : ∀ (y0 : Int), Kst (X.exit 0, ⟨[(0, (sI a0)), (1, (I a1)), (7, (I (a0.length : Int))), (8, (I y0)), (9, (Bo false))], [], 19⟩) = (K0 y0).map slices_Index_int_fin) (hret : ∀ s, Kst (X.ret, s) = endK prog 19 [(sI a0), (I a1)] [] [.tmp 4] (X.ret, s)) :
    ∀ (m : Nat) (x3 : Int), (iter (exec prog (EV k) f50n k f50b0) m ⟨[(0, (sI a0)), (1, (I a1)), (7, (I (a0.length : Int))), (8, (I x3))], [], 19⟩).bind Kst = (slices_Index_int_L1 a0 a1 K0 m x3).map slices_Index_int_fin := by
  intro m
  induction m with
  | zero => intros; rfl
  | succ m ih =>
    intro x3
    unfold slices_Index_int_L1
    refine et k_round <| kra [(9, (Bo (decide (x3 < (a0.length : Int)))))] rfl <| kc rfl rfl (fun hc => ?_) fun hc => ?_
    · rw [hc]
      refine et k_skip <| et (k_block rfl) <| kr ⟨[(0, (sI a0)), (1, (I a1)), (5, (I x3)), (7, (I (a0.length : Int))), (8, (I x3))], [], 19⟩ rfl <| kga f50a4 rfl (fun (o5 : Bool) => [(16, (Bo o5))]) (rd 3 [(11, (I a1)), (12, (sI a0)), (13, (I x3))] rfl rfl <| rp rfl (p_index (e := I) rfl rfl rfl underlying33 rfl (by decide)) fun v4 => bind_end rfl) fun o5 => kcl rfl rfl (fun hc => ?_) fun hc => ?_
      · rw [hc]
        refine kr ⟨[(4, (I x3))], [], 19⟩ rfl <| et k_lret <| et blk_ret <| et loop_ret <| et (hret _) ?_
        rfl
      · rw [hc]
        exact et k_lskip <| et blk_normal <| kl ⟨[(0, (sI a0)), (1, (I a1)), (7, (I (a0.length : Int))), (8, (I (Go.IntKind.wrap .i64 (x3 + 1))))], [], 19⟩ rfl <| et loop_normal <| ih (Go.IntKind.wrap .i64 (x3 + 1))
    · rw [hc]
      exact et k_exit <| et loop_exit <| hK0 x3
theorem slices_Index_int_ok (k : Nat) (a0 : (List Int)) (a1 : Int) : EV k 50 [(sI a0), (I a1)] = (slices_Index_int k a0 a1).map slices_Index_int_fin := by
  cases k with
  | zero => rfl
  | succ k =>
    unfold slices_Index_int
    refine et (evF_succ (c := f50c) (N := 19) (regs := f50n) rfl func50 rfl (by decide) rfl rfl rfl) <| kra [] rfl <| et k_assoc <| krp f50a1 rfl ⟨[(0, (sI a0)), (1, (I a1)), (7, (I (a0.length : Int))), (8, (I 0))], [], 19⟩ ?_ ?_
    · exact rd 1 [(6, (sI a0))] rfl rfl <| rl rfl (p_len (e := I) rfl rfl rfl rfl rfl rfl underlying33) <| bind_end rfl
    refine et (k_block rfl) <| et k_loop ?_
    refine slices_Index_int_L1_ok k a0 a1 _ _ ?h_slices_Index_int_L1_0 ?hr_slices_Index_int_L1 k 0
    · intro y6
      refine et blk_exit <| kr ⟨[(4, (I (-1)))], [], 19⟩ rfl <| et k_lret ?_
      rfl
    · intro s; exact rfl
def dbd_areTypes_fin : Bool → V × List V := fun r => ((Bo r), [])
theorem dbd_areTypes_L1_ok (k : Nat) (a0 : (List T_api_Type))  (K0 : Int → (List Int) → Option Bool) (Kst : X × St → Option (V × List V)) (hK0 : ∀ (y0 : Int) (y1 : (List Int)), Kst (X.exit 0, ⟨[(0, (sType a0)), (3, (aL 3 I y1)), (15, (sType a0)), (16, (I (a0.length : Int))), (17, (I y0)), (18, (Bo false))], [(3, ⟨true, 1, List.map I y1⟩)], 82⟩) = (K0 y0 y1).map dbd_areTypes_fin) (hret : ∀ s, Kst (X.ret, s) = endK prog 82 [(sType a0)] [] [.tmp 2] (X.ret, s)) :
    ∀ (m : Nat) (x15 : Int) (x16 : (List Int)), (iter (exec prog (EV k) f31n k f31b0) m ⟨[(0, (sType a0)), (3, (aL 3 I x16)), (15, (sType a0)), (16, (I (a0.length : Int))), (17, (I x15))], [(3, ⟨true, 1, List.map I x16⟩)], 82⟩).bind Kst = (dbd_areTypes_L1 k a0 K0 m x15 x16).map dbd_areTypes_fin := by
  intro m
  induction m with
  | zero => intros; rfl
  | succ m ih =>
    intro x15 x16
    unfold dbd_areTypes_L1
    refine et k_round <| kra [(18, (Bo (decide (x15 < (a0.length : Int)))))] rfl <| kc rfl rfl (fun hc => ?_) fun hc => ?_
    · rw [hc]
      refine et k_skip <| et (k_block rfl) <| kg f31a6 rfl (fun (o18 : Int × T_api_Type) => ⟨[(0, (sType a0)), (3, (aL 3 I x16)), (4, (I o18.1)), (5, (Pt 5)), (15, (sType a0)), (16, (I (a0.length : Int))), (17, (I x15))], [(3, ⟨true, 1, List.map I x16⟩), (5, vS 8 (eType o18.2))], 82⟩) (rd 1 [(19, (I x15))] rfl rfl <| rp rfl (p_index (e := eType) rfl rfl rfl underlying22 rfl (by decide)) fun v17 => bind_end rfl) fun o18 => et k_assoc <| kga f31a7 rfl (fun (o22 : Bool) => [(31, (Bo o22))]) ?_ fun o22 => ?_
      · refine rd 1 [(22, (eType o18.2))] rfl rfl <| rp rfl (p_call rfl rfl rfl rfl rfl (dbd_isType_ok k o18.2) (.inl rfl)) fun v19 => bd 4 [(23, (Bo v19)), (24, (Bo (!v19))), (25, (Bo (!v19)))] rfl rfl <| bifE (fun hc => ?_) fun hc => ?_
        · rw [hc]
          exact reg_end rfl
        · rw [hc]
          exact rd 6 [(26, (sType a0)), (27, (I o18.1))] rfl rfl <| rp rfl (p_slice (e := eType) rfl rfl rfl rfl rfl rfl underlying22 rfl (by decide)) fun v20 => bd 8 [(28, (sType v20)), (29, (V.fn 49 [] [(Pt 5)]))] rfl rfl <| rs rfl (p_call rfl rfl rfl rfl rfl (slices_ContainsFunc_Type_ok k v20 (fun j x0 => (dbd_areTypes_1 j x0 o18.2)) 49 (eType o18.2) (fun j x0 => (dbd_areTypes_1_ok j x0 o18.2))) (.inr (fun _ => rfl))) fun v21 => bind_end rfl
      refine kc rfl rfl (fun hc => ?_) fun hc => ?_
      · rw [hc]
        refine et k_assoc <| kr ⟨[(2, (Bo false))], [], 82⟩ rfl <| et k_ret <| et blk_ret <| et loop_ret <| et (hret _) ?_
        rfl
      · rw [hc]
        refine et k_skip <| kg f31a9 rfl (fun (o24 : Int) => ⟨[(0, (sType a0)), (3, (aL 3 I x16)), (4, (I o18.1)), (5, (Pt 5)), (6, (I o24)), (15, (sType a0)), (16, (I (a0.length : Int))), (17, (I x15))], [(3, ⟨true, 1, List.map I x16⟩), (5, vS 8 (eType o18.2))], 82⟩) (rd 3 [(32, (aL 3 I x16)), (33, (V.ptr 5 0 1)), (34, (I o18.2.fParent))] rfl rfl <| rs rfl (p_call rfl rfl rfl rfl (argsL (lendA (e := I) rfl) (by intro s i q h; cases h) (argsL rfl (by intro s i q h; cases h) rfl)) (slices_Index_int_ok k x16 o18.2.fParent) (.inr (fun _ => rfl))) fun v23 => bind_end rfl) fun o24 => et k_assoc <| kg f31a10 rfl (fun (o26 : Bool) => ⟨[(0, (sType a0)), (3, (aL 3 I x16)), (4, (I o18.1)), (6, (I o24)), (15, (sType a0)), (16, (I (a0.length : Int))), (17, (I x15)), (70, (Bo o26))], [(3, ⟨true, 1, List.map I x16⟩)], 82⟩) ?_ fun o26 => ?_
        · refine rd 3 [(36, (I o18.1)), (37, (Bo (o18.1 == 0))), (38, (Bo (o18.1 == 0)))] rfl rfl <| bifE (fun hc => ?_) fun hc => ?_
          · rw [hc]
            refine rd 7 [(39, (V.ptr 5 0 1)), (40, (I o18.2.fParent)), (41, (Bo (o18.2.fParent != (-1)))), (42, (Bo (o18.2.fParent != (-1))))] rfl rfl <| bifE (fun hc => ?_) fun hc => ?_
            · rw [hc]
              exact reg_end rfl
            · rw [hc]
              refine rd 12 [(43, (V.ptr 5 0 5)), (44, (I o18.2.fKey)), (45, (Bo (decide (o18.2.fKey < 0)))), (46, (Bo (decide (o18.2.fKey < 0)))), (47, (Bo (decide (o18.2.fKey < 0))))] rfl rfl <| bifE (fun hc => ?_) fun hc => ?_
              · rw [hc]
                exact reg_end rfl
              · rw [hc]
                refine rd 17 [(48, (V.ptr 5 0 6)), (49, (Bo o18.2.fUnique)), (50, (Bo (!o18.2.fUnique))), (51, (Bo (!o18.2.fUnique))), (52, (Bo (!o18.2.fUnique)))] rfl rfl <| bifE (fun hc => ?_) fun hc => ?_
                · rw [hc]
                  exact reg_end rfl
                · rw [hc]
                  refine rd 21 [(53, (V.ptr 5 0 4)), (54, (sField o18.2.fFields)), (55, (V.ptr 5 0 5)), (56, (I o18.2.fKey))] rfl rfl <| rp rfl (p_index (e := eField) rfl rfl rfl underlying43 rfl (by decide)) fun v25 => bd 28 [(57, (Pr (eField v25))), (58, (Pr (I v25.fBytes))), (59, (I v25.fBytes)), (60, (Bo (decide (v25.fBytes > 24)))), (61, (Bo (decide (v25.fBytes > 24)))), (62, (Bo (decide (v25.fBytes > 24)))), (63, (Bo (decide (v25.fBytes > 24))))] rfl rfl <| bifE (fun hc => ?_) fun hc => ?_
                  · rw [hc]
                    exact reg_end rfl
                  · rw [hc]
                    refine rd 31 [(64, (I o18.1)), (65, (Bo (decide (o18.1 > 0)))), (66, (Bo (decide (o18.1 > 0))))] rfl rfl <| bifE (fun hc => ?_) fun hc => ?_
                    · rw [hc]
                      exact reg_end rfl
                    · rw [hc]
                      exact reg_end rfl
          · rw [hc]
            refine rd 31 [(39, (V.tup [])), (40, (V.tup [])), (41, (V.tup [])), (42, (V.tup [])), (43, (V.tup [])), (44, (V.tup [])), (45, (V.tup [])), (46, (V.tup [])), (47, (V.tup [])), (48, (V.tup [])), (49, (V.tup [])), (50, (V.tup [])), (51, (V.tup [])), (52, (V.tup [])), (53, (V.tup [])), (54, (V.tup [])), (55, (V.tup [])), (56, (V.tup [])), (57, (V.tup [])), (58, (V.tup [])), (59, (V.tup [])), (60, (V.tup [])), (61, (V.tup [])), (62, (Bo false)), (63, (Bo false)), (64, (I o18.1)), (65, (Bo (decide (o18.1 > 0)))), (66, (Bo (decide (o18.1 > 0))))] rfl rfl <| bifE (fun hc => ?_) fun hc => ?_
            · rw [hc]
              exact reg_end rfl
            · rw [hc]
              exact reg_end rfl
        refine kc rfl rfl (fun hc => ?_) fun hc => ?_
        · rw [hc]
          refine et k_assoc <| kr ⟨[(2, (Bo false))], [], 82⟩ rfl <| et k_ret <| et blk_ret <| et loop_ret <| et (hret _) ?_
          rfl
        · rw [hc]
          refine et k_skip <| kg f31a12 rfl (fun (o29 : (List Int)) => ⟨[(0, (sType a0)), (3, (aL 3 I o29)), (15, (sType a0)), (16, (I (a0.length : Int))), (17, (I x15))], [(3, ⟨true, 1, List.map I o29⟩)], 82⟩) (rd 3 [(71, (aL 3 I x16)), (72, (I o24)), (73, (I (Go.IntKind.wrap .i64 (o24 + 1))))] rfl rfl <| rx rfl (p_sliceA (e := I) rfl rfl rfl underlying33 (by decide)) fun v27 hv27 => bd 6 [(74, (V.aref 3 0 v27)), (75, (I o18.1)), (76, (sI (([o18.1] : List Int))))] rfl rfl <| et (reg_eff (x := (app (List.take v27 x16) ([o18.1] : List Int))) (w := fun v28 => ((aL 3 I v28), _)) rfl rfl rfl rfl (p_appA (e := I) (l := x16) rfl rfl rfl rfl rfl rfl rfl rfl rfl rfl rfl (upTo_le hv27) (of_decide_eq_true rfl))) <| bind_self fun v28 => bind_end rfl) fun o29 => krp f31a13 rfl ⟨[(0, (sType a0)), (3, (aL 3 I o29)), (15, (sType a0)), (16, (I (a0.length : Int))), (17, (I x15)), (80, (Bo (decide ((o29.length : Int) > 5))))], [(3, ⟨true, 1, List.map I o29⟩)], 82⟩ ?_ ?_
          · exact rd 1 [(78, (aL 3 I o29))] rfl rfl <| rl rfl (p_lenA (e := I) rfl rfl rfl rfl rfl rfl underlying33) <| bind_end rfl
          refine kcl rfl rfl (fun hc => ?_) fun hc => ?_
          · rw [hc]
            refine kr ⟨[(2, (Bo false))], [], 82⟩ rfl <| et k_lret <| et blk_ret <| et loop_ret <| et (hret _) ?_
            rfl
          · rw [hc]
            exact et k_lskip <| et blk_normal <| kl ⟨[(0, (sType a0)), (3, (aL 3 I o29)), (15, (sType a0)), (16, (I (a0.length : Int))), (17, (I (Go.IntKind.wrap .i64 (x15 + 1))))], [(3, ⟨true, 1, List.map I o29⟩)], 82⟩ rfl <| et loop_normal <| ih (Go.IntKind.wrap .i64 (x15 + 1)) o29
    · rw [hc]
      exact et k_exit <| et loop_exit <| hK0 x15 x16
theorem dbd_areTypes_ok (k : Nat) (a0 : (List T_api_Type)) : EV k 31 [(sType a0)] = (dbd_areTypes k a0).map dbd_areTypes_fin := by
  cases k with
  | zero => rfl
  | succ k =>
    unfold dbd_areTypes
    refine et (evF_succ (c := f31c) (N := 82) (regs := f31n) rfl func31 rfl (by decide) rfl rfl rfl) <| kra [] rfl <| et k_assoc <| kga f31a1 rfl (fun (o1 : Bool) => [(14, (Bo o1))]) ?_ fun o1 => ?_
    · refine rd 1 [(7, (sType a0))] rfl rfl <| rl rfl (p_len (e := eType) rfl rfl rfl rfl rfl rfl underlying22) <| bd 4 [(8, (I (a0.length : Int))), (9, (Bo (decide ((a0.length : Int) < 1)))), (10, (Bo (decide ((a0.length : Int) < 1))))] rfl rfl <| bifE (fun hc => ?_) fun hc => ?_
      · rw [hc]
        exact reg_end rfl
      · rw [hc]
        exact rd 5 [(11, (sType a0))] rfl rfl <| rl rfl (p_len (e := eType) rfl rfl rfl rfl rfl rfl underlying22) <| bind_end rfl
    refine kc rfl rfl (fun hc => ?_) fun hc => ?_
    · rw [hc]
      refine et k_assoc <| kr ⟨[(2, (Bo false))], [], 82⟩ rfl <| et k_ret ?_
      rfl
    · rw [hc]
      refine et k_skip <| kr ⟨[(0, (sType a0)), (3, (aL 3 I ([] : List Int)))], [(3, ⟨true, 1, List.map I ([] : List Int)⟩)], 82⟩ rfl <| et k_assoc <| krp f31a4 rfl ⟨[(0, (sType a0)), (3, (aL 3 I ([] : List Int))), (15, (sType a0)), (16, (I (a0.length : Int))), (17, (I 0))], [(3, ⟨true, 1, List.map I ([] : List Int)⟩)], 82⟩ ?_ ?_
      · exact rd 1 [(15, (sType a0))] rfl rfl <| rl rfl (p_len (e := eType) rfl rfl rfl rfl rfl rfl underlying22) <| bind_end rfl
      refine et (k_block rfl) <| et k_loop ?_
      refine dbd_areTypes_L1_ok k a0 _ _ ?h_dbd_areTypes_L1_0 ?hr_dbd_areTypes_L1 k 0 ([] : List Int)
      · intro y30 y31
        refine et blk_exit <| kr ⟨[(2, (Bo true))], [], 82⟩ rfl <| et k_lret ?_
        rfl
      · intro s; exact rfl
def slices_IndexFunc_Search_fin : Int → V × List V := fun r => ((I r), [])
theorem slices_IndexFunc_Search_L1_ok (k : Nat) (a0 : (List T_api_Search)) (a1 : Nat → T_api_Search → Option Bool) (a1_fid : Go.FuncId) (a1_c0 : V) (a1_hok : ∀ j x0, EV j a1_fid [(eSearch x0), V.pro a1_c0] = (a1 j x0).map fun b => ((Bo b), [])) (K0 : Int → Option Int) (Kst : X × St → Option (V × List V)) (hK0 : ∀ (y0 : Int), Kst (X.exit 0, ⟨[(0, (sSearch a0)), (1, (V.fn a1_fid [] [V.pro a1_c0])), (7, (I (a0.length : Int))), (8, (I y0)), (9, (Bo false))], [], 19⟩) = (K0 y0).map slices_IndexFunc_Search_fin) (hret : ∀ s, Kst (X.ret, s) = endK prog 19 [(sSearch a0), (V.fn a1_fid [] [V.pro a1_c0])] [] [.tmp 4] (X.ret, s)) :
    ∀ (m : Nat) (x4 : Int), (iter (exec prog (EV k) f70n k f70b0) m ⟨[(0, (sSearch a0)), (1, (V.fn a1_fid [] [V.pro a1_c0])), (7, (I (a0.length : Int))), (8, (I x4))], [], 19⟩).bind Kst = (slices_IndexFunc_Search_L1 k a0 a1 K0 m x4).map slices_IndexFunc_Search_fin := by
  intro m
  induction m with
  | zero => intros; rfl
  | succ m ih =>
    intro x4
    unfold slices_IndexFunc_Search_L1
    refine et k_round <| kra [(9, (Bo (decide (x4 < (a0.length : Int)))))] rfl <| kc rfl rfl (fun hc => ?_) fun hc => ?_
    · rw [hc]
      refine et k_skip <| et (k_block rfl) <| kr ⟨[(0, (sSearch a0)), (1, (V.fn a1_fid [] [V.pro a1_c0])), (5, (I x4)), (7, (I (a0.length : Int))), (8, (I x4))], [], 19⟩ rfl <| kga f70a4 rfl (fun (o7 : Bool) => [(16, (Bo o7))]) (rd 3 [(11, (V.fn a1_fid [] [V.pro a1_c0])), (12, (sSearch a0)), (13, (I x4))] rfl rfl <| rp rfl (p_index (e := eSearch) rfl rfl rfl underlying23 rfl (by decide)) fun v5 => bd 5 [(14, (Pr (eSearch v5))), (15, (eSearch v5))] rfl rfl <| rs rfl (p_call rfl rfl rfl rfl rfl (a1_hok k v5) (.inl rfl)) fun v6 => bind_end rfl) fun o7 => kcl rfl rfl (fun hc => ?_) fun hc => ?_
      · rw [hc]
        refine kr ⟨[(4, (I x4))], [], 19⟩ rfl <| et k_lret <| et blk_ret <| et loop_ret <| et (hret _) ?_
        rfl
      · rw [hc]
        exact et k_lskip <| et blk_normal <| kl ⟨[(0, (sSearch a0)), (1, (V.fn a1_fid [] [V.pro a1_c0])), (7, (I (a0.length : Int))), (8, (I (Go.IntKind.wrap .i64 (x4 + 1))))], [], 19⟩ rfl <| et loop_normal <| ih (Go.IntKind.wrap .i64 (x4 + 1))
    · rw [hc]
      exact et k_exit <| et loop_exit <| hK0 x4
theorem slices_IndexFunc_Search_ok (k : Nat) (a0 : (List T_api_Search)) (a1 : Nat → T_api_Search → Option Bool) (a1_fid : Go.FuncId) (a1_c0 : V) (a1_hok : ∀ j x0, EV j a1_fid [(eSearch x0), V.pro a1_c0] = (a1 j x0).map fun b => ((Bo b), [])) : EV k 70 [(sSearch a0), (V.fn a1_fid [] [V.pro a1_c0])] = (slices_IndexFunc_Search k a0 a1).map slices_IndexFunc_Search_fin := by
  cases k with
  | zero => rfl
  | succ k =>
    unfold slices_IndexFunc_Search
    refine et (evF_succ (c := f70c) (N := 19) (regs := f70n) rfl func70 rfl (by decide) rfl rfl rfl) <| kra [] rfl <| et k_assoc <| krp f70a1 rfl ⟨[(0, (sSearch a0)), (1, (V.fn a1_fid [] [V.pro a1_c0])), (7, (I (a0.length : Int))), (8, (I 0))], [], 19⟩ ?_ ?_
    · exact rd 1 [(6, (sSearch a0))] rfl rfl <| rl rfl (p_len (e := eSearch) rfl rfl rfl rfl rfl rfl underlying23) <| bind_end rfl
    refine et (k_block rfl) <| et k_loop ?_
    refine slices_IndexFunc_Search_L1_ok k a0 a1 a1_fid a1_c0 a1_hok _ _ ?h_slices_IndexFunc_Search_L1_0 ?hr_slices_IndexFunc_Search_L1 k 0
    · intro y8
      refine et blk_exit <| kr ⟨[(4, (I (-1)))], [], 19⟩ rfl <| et k_lret ?_
      rfl
    · intro s; exact rfl
def slices_ContainsFunc_Search_fin : Bool → V × List V := fun r => ((Bo r), [])
theorem slices_ContainsFunc_Search_ok (k : Nat) (a0 : (List T_api_Search)) (a1 : Nat → T_api_Search → Option Bool) (a1_fid : Go.FuncId) (a1_c0 : V) (a1_hok : ∀ j x0, EV j a1_fid [(eSearch x0), V.pro a1_c0] = (a1 j x0).map fun b => ((Bo b), [])) : EV k 51 [(sSearch a0), (V.fn a1_fid [] [V.pro a1_c0])] = (slices_ContainsFunc_Search k a0 a1).map slices_ContainsFunc_Search_fin := by
  cases k with
  | zero => rfl
  | succ k =>
    unfold slices_ContainsFunc_Search
    refine et (evF_succ (c := f51c) (N := 9) (regs := f51n) rfl func51 rfl (by decide) rfl rfl rfl) <| kra [] rfl <| kg f51a1 rfl (fun (o2 : Bool) => ⟨[(4, (Bo o2))], [], 9⟩) (rd 2 [(5, (sSearch a0)), (6, (V.fn a1_fid [] [V.pro a1_c0]))] rfl rfl <| rp rfl (p_call rfl rfl rfl rfl rfl (slices_IndexFunc_Search_ok k a0 a1 a1_fid a1_c0 a1_hok) (.inl rfl)) fun v1 => bind_end rfl) fun o2 => et k_lret ?_
    rfl
def dbd_areIndexes_1_fin : Bool → V × List V := fun r => ((Bo r), [])
theorem dbd_areIndexes_1_ok (k : Nat) (a0 : T_api_Search) (a1 : T_api_Search) : EV k 52 [(eSearch a0), (Pr (eSearch a1))] = (dbd_areIndexes_1 k a0 a1).map dbd_areIndexes_1_fin := by
  cases k with
  | zero => rfl
  | succ k =>
    unfold dbd_areIndexes_1
    refine et (evF_succ (c := f52c) (N := 9) (regs := f52n) rfl func52 rfl (by decide) rfl rfl rfl) <| kr ⟨[(1, (Pr (eSearch a1))), (2, (Pt 2))], [(2, vS 4 (eSearch a0))], 9⟩ rfl <| kr ⟨[(3, (Bo (a0.fName == a1.fName)))], [], 9⟩ rfl <| et k_lret ?_
    rfl
def dbd_areIndexes_fin : Bool → V × List V := fun r => ((Bo r), [])
theorem dbd_areIndexes_L1_ok (k : Nat) (a0 : (List T_api_Search)) (a1 : (List T_api_Type))  (K0 : Int → Option Bool) (Kst : X × St → Option (V × List V)) (hK0 : ∀ (y0 : Int), Kst (X.exit 0, ⟨[(0, (sSearch a0)), (1, (sType a1)), (8, (sSearch a0)), (9, (I (a0.length : Int))), (10, (I y0)), (11, (Bo false))], [], 73⟩) = (K0 y0).map dbd_areIndexes_fin) (hret : ∀ s, Kst (X.ret, s) = endK prog 73 [(sSearch a0), (sType a1)] [] [.tmp 4] (X.ret, s)) :
    ∀ (m : Nat) (x11 : Int), (iter (exec prog (EV k) f32n k f32b0) m ⟨[(0, (sSearch a0)), (1, (sType a1)), (8, (sSearch a0)), (9, (I (a0.length : Int))), (10, (I x11))], [], 73⟩).bind Kst = (dbd_areIndexes_L1 k a0 a1 K0 m x11).map dbd_areIndexes_fin := by
  intro m
  induction m with
  | zero => intros; rfl
  | succ m ih =>
    intro x11
    unfold dbd_areIndexes_L1
    refine et k_round <| kra [(11, (Bo (decide (x11 < (a0.length : Int)))))] rfl <| kc rfl rfl (fun hc => ?_) fun hc => ?_
    · rw [hc]
      refine et k_skip <| et (k_block rfl) <| kg f32a3 rfl (fun (o13 : Int × T_api_Search) => ⟨[(0, (sSearch a0)), (1, (sType a1)), (5, (I o13.1)), (6, (Pt 6)), (8, (sSearch a0)), (9, (I (a0.length : Int))), (10, (I x11))], [(6, vS 4 (eSearch o13.2))], 73⟩) (rd 1 [(12, (I x11))] rfl rfl <| rp rfl (p_index (e := eSearch) rfl rfl rfl underlying23 rfl (by decide)) fun v12 => bind_end rfl) fun o13 => et k_assoc <| kg f32a4 rfl (fun (o17 : Bool) => ⟨[(0, (sSearch a0)), (1, (sType a1)), (6, (Pt 6)), (8, (sSearch a0)), (9, (I (a0.length : Int))), (10, (I x11)), (43, (Bo o17))], [(6, vS 4 (eSearch o13.2))], 73⟩) ?_ fun o17 => ?_
      · refine rd 2 [(15, (Pt 6)), (16, (Sr o13.2.fName))] rfl rfl <| rp rfl (p_call rfl rfl rfl rfl rfl (dbd_IsName_ok k o13.2.fName) (.inl rfl)) fun v14 => bd 5 [(17, (Bo v14)), (18, (Bo (!v14))), (19, (Bo (!v14)))] rfl rfl <| bifE (fun hc => ?_) fun hc => ?_
        · rw [hc]
          exact reg_end rfl
        · rw [hc]
          refine rd 10 [(20, (V.ptr 6 0 1)), (21, (I o13.2.fType)), (22, (Bo (decide (o13.2.fType < 0)))), (23, (Bo (decide (o13.2.fType < 0)))), (24, (Bo (decide (o13.2.fType < 0))))] rfl rfl <| bifE (fun hc => ?_) fun hc => ?_
          · rw [hc]
            exact reg_end rfl
          · rw [hc]
            refine rd 13 [(25, (V.ptr 6 0 1)), (26, (I o13.2.fType)), (27, (sType a1))] rfl rfl <| rl rfl (p_len (e := eType) rfl rfl rfl rfl rfl rfl underlying22) <| bd 17 [(28, (I (a1.length : Int))), (29, (Bo (decide (o13.2.fType ≥ (a1.length : Int))))), (30, (Bo (decide (o13.2.fType ≥ (a1.length : Int))))), (31, (Bo (decide (o13.2.fType ≥ (a1.length : Int)))))] rfl rfl <| bifE (fun hc => ?_) fun hc => ?_
            · rw [hc]
              exact reg_end rfl
            · rw [hc]
              refine rd 23 [(32, (V.ptr 6 0 3)), (33, (Sr o13.2.fSparse)), (34, (I (o13.2.fSparse.length : Int))), (35, (Bo (decide ((o13.2.fSparse.length : Int) > 1)))), (36, (Bo (decide ((o13.2.fSparse.length : Int) > 1)))), (37, (Bo (decide ((o13.2.fSparse.length : Int) > 1))))] rfl rfl <| bifE (fun hc => ?_) fun hc => ?_
              · rw [hc]
                exact reg_end rfl
              · rw [hc]
                exact rd 25 [(38, (sSearch a0)), (39, (I o13.1))] rfl rfl <| rp rfl (p_slice (e := eSearch) rfl rfl rfl rfl rfl rfl underlying23 rfl (by decide)) fun v15 => bd 27 [(40, (sSearch v15)), (41, (V.fn 52 [] [(Pt 6)]))] rfl rfl <| rs rfl (p_call rfl rfl rfl rfl rfl (slices_ContainsFunc_Search_ok k v15 (fun j x0 => (dbd_areIndexes_1 j x0 o13.2)) 52 (eSearch o13.2) (fun j x0 => (dbd_areIndexes_1_ok j x0 o13.2))) (.inr (fun _ => rfl))) fun v16 => bind_end rfl
      refine kc rfl rfl (fun hc => ?_) fun hc => ?_
      · rw [hc]
        refine et k_assoc <| kr ⟨[(4, (Bo false))], [], 73⟩ rfl <| et k_ret <| et blk_ret <| et loop_ret <| et (hret _) ?_
        rfl
      · rw [hc]
        refine et k_skip <| kg f32a6 rfl (fun (o19 : (List T_api_Field)) => ⟨[(0, (sSearch a0)), (1, (sType a1)), (6, (Pt 6)), (7, (sField o19)), (8, (sSearch a0)), (9, (I (a0.length : Int))), (10, (I x11))], [(6, vS 4 (eSearch o13.2))], 73⟩) (rd 3 [(44, (sType a1)), (45, (V.ptr 6 0 1)), (46, (I o13.2.fType))] rfl rfl <| rp rfl (p_index (e := eType) rfl rfl rfl underlying22 rfl (by decide)) fun v18 => bind_end rfl) fun o19 => kg f32a7 rfl (fun (o21 : Bool) => ⟨[(0, (sSearch a0)), (1, (sType a1)), (8, (sSearch a0)), (9, (I (a0.length : Int))), (10, (I x11)), (68, (Bo o21))], [], 73⟩) ?_ fun o21 => ?_
        · refine rd 4 [(50, (V.ptr 6 0 2)), (51, (I o13.2.fField)), (52, (Bo (decide (o13.2.fField < 0)))), (53, (Bo (decide (o13.2.fField < 0))))] rfl rfl <| bifE (fun hc => ?_) fun hc => ?_
          · rw [hc]
            exact reg_end rfl
          · rw [hc]
            refine rd 7 [(54, (V.ptr 6 0 2)), (55, (I o13.2.fField)), (56, (sField o19))] rfl rfl <| rl rfl (p_len (e := eField) rfl rfl rfl rfl rfl rfl underlying43) <| bd 11 [(57, (I (o19.length : Int))), (58, (Bo (decide (o13.2.fField ≥ (o19.length : Int))))), (59, (Bo (decide (o13.2.fField ≥ (o19.length : Int))))), (60, (Bo (decide (o13.2.fField ≥ (o19.length : Int)))))] rfl rfl <| bifE (fun hc => ?_) fun hc => ?_
            · rw [hc]
              exact reg_end rfl
            · rw [hc]
              exact rd 14 [(61, (sField o19)), (62, (V.ptr 6 0 2)), (63, (I o13.2.fField))] rfl rfl <| rp rfl (p_index (e := eField) rfl rfl rfl underlying43 rfl (by decide)) fun v20 => bind_end rfl
        refine kcl rfl rfl (fun hc => ?_) fun hc => ?_
        · rw [hc]
          refine kr ⟨[(4, (Bo false))], [], 73⟩ rfl <| et k_lret <| et blk_ret <| et loop_ret <| et (hret _) ?_
          rfl
        · rw [hc]
          exact et k_lskip <| et blk_normal <| kl ⟨[(0, (sSearch a0)), (1, (sType a1)), (8, (sSearch a0)), (9, (I (a0.length : Int))), (10, (I (Go.IntKind.wrap .i64 (x11 + 1))))], [], 73⟩ rfl <| et loop_normal <| ih (Go.IntKind.wrap .i64 (x11 + 1))
    · rw [hc]
      exact et k_exit <| et loop_exit <| hK0 x11
theorem dbd_areIndexes_ok (k : Nat) (a0 : (List T_api_Search)) (a1 : (List T_api_Type)) : EV k 32 [(sSearch a0), (sType a1)] = (dbd_areIndexes k a0 a1).map dbd_areIndexes_fin := by
  cases k with
  | zero => rfl
  | succ k =>
    unfold dbd_areIndexes
    refine et (evF_succ (c := f32c) (N := 73) (regs := f32n) rfl func32 rfl (by decide) rfl rfl rfl) <| kra [] rfl <| et k_assoc <| krp f32a1 rfl ⟨[(0, (sSearch a0)), (1, (sType a1)), (8, (sSearch a0)), (9, (I (a0.length : Int))), (10, (I 0))], [], 73⟩ ?_ ?_
    · exact rd 1 [(8, (sSearch a0))] rfl rfl <| rl rfl (p_len (e := eSearch) rfl rfl rfl rfl rfl rfl underlying23) <| bind_end rfl
    refine et (k_block rfl) <| et k_loop ?_
    refine dbd_areIndexes_L1_ok k a0 a1 _ _ ?h_dbd_areIndexes_L1_0 ?hr_dbd_areIndexes_L1 k 0
    · intro y22
      refine et blk_exit <| krp f32a10 rfl ⟨[(4, (Bo (decide ((a0.length : Int) ≤ 3))))], [], 73⟩ ?_ ?_
      · exact rd 1 [(70, (sSearch a0))] rfl rfl <| rl rfl (p_len (e := eSearch) rfl rfl rfl rfl rfl rfl underlying23) <| bind_end rfl
      refine et k_lret ?_
      rfl
    · intro s; exact rfl
def dbd_Valid_fin : Bool → V × List V := fun r => ((Bo r), [])
theorem dbd_Valid_ok (k : Nat) (a0 : T_api_Base) : EV k 19 [(eBase a0)] = (dbd_Valid k a0).map dbd_Valid_fin := by
  cases k with
  | zero => rfl
  | succ k =>
    unfold dbd_Valid
    refine et (evF_succ (c := f19c) (N := 28) (regs := f19n) rfl func19 rfl (by decide) rfl rfl rfl) <| kr ⟨[(1, (Pt 1))], [(1, vS 4 (eBase a0))], 28⟩ rfl <| kg f19a1 rfl (fun (o4 : Bool) => ⟨[(2, (Bo o4))], [], 28⟩) ?_ fun o4 => ?_
    · refine rd 2 [(3, (Pt 1)), (4, (Sr a0.fName))] rfl rfl <| rp rfl (p_call rfl rfl rfl rfl rfl (dbd_IsName_ok k a0.fName) (.inl rfl)) fun v1 => bd 4 [(5, (Bo v1)), (6, (Bo v1))] rfl rfl <| bifE (fun hc => ?_) fun hc => ?_
      · rw [hc]
        refine rd 9 [(7, (V.ptr 1 0 1)), (8, (I a0.fKind)), (9, (Bo (decide (a0.fKind ≥ 1)))), (10, (Bo (decide (a0.fKind ≥ 1)))), (11, (Bo (decide (a0.fKind ≥ 1))))] rfl rfl <| bifE (fun hc => ?_) fun hc => ?_
        · rw [hc]
          refine rd 14 [(12, (V.ptr 1 0 1)), (13, (I a0.fKind)), (14, (Bo (decide (a0.fKind ≤ 4)))), (15, (Bo (decide (a0.fKind ≤ 4)))), (16, (Bo (decide (a0.fKind ≤ 4))))] rfl rfl <| bifE (fun hc => ?_) fun hc => ?_
          · rw [hc]
            refine rd 16 [(17, (V.ptr 1 0 2)), (18, (sType a0.fTypes))] rfl rfl <| rp rfl (p_call rfl rfl rfl rfl rfl (dbd_areTypes_ok k a0.fTypes) (.inl rfl)) fun v2 => bd 19 [(19, (Bo v2)), (20, (Bo v2)), (21, (Bo v2))] rfl rfl <| bifE (fun hc => ?_) fun hc => ?_
            · rw [hc]
              exact rd 23 [(22, (V.ptr 1 0 3)), (23, (sSearch a0.fIndexes)), (24, (V.ptr 1 0 2)), (25, (sType a0.fTypes))] rfl rfl <| rs rfl (p_call rfl rfl rfl rfl rfl (dbd_areIndexes_ok k a0.fIndexes a0.fTypes) (.inl rfl)) fun v3 => bind_end rfl
            · rw [hc]
              exact reg_end rfl
          · rw [hc]
            exact reg_end rfl
        · rw [hc]
          exact reg_end rfl
      · rw [hc]
        exact reg_end rfl
    refine et k_lret ?_
    rfl
def strings_IndexByte_fin : Int → V × List V := fun r => (I r, [])
theorem strings_IndexByte_ok (k : Nat) (s : Str) (n : Int) : EV k 71 [(Sr s), (V.int .u8 n)] = (strings_IndexByte k s n).map strings_IndexByte_fin := by
  cases k with
  | zero => rfl
  | succ k => exact (evF_ext (ext := ext) (f := 71) rfl).trans rfl
def ssa_areCodes_fin : Bool → V × List V := fun r => ((Bo r), [])
theorem ssa_areCodes_L1_ok (k : Nat) (a0 : Str)  (K0 : Int → Int → Option Bool) (Kst : X × St → Option (V × List V)) (hK0 : ∀ (y0 : Int) (y1 : Int), Kst (X.exit 0, ⟨[(0, (Sr a0)), (3, (I y0)), (7, (I (a0.length : Int))), (8, (I y1)), (9, (Bo false))], [], 24⟩) = (K0 y0 y1).map ssa_areCodes_fin) (hret : ∀ s, Kst (X.ret, s) = endK prog 24 [(Sr a0)] [] [.tmp 2] (X.ret, s)) :
    ∀ (m : Nat) (x5 : Int) (x6 : Int), (iter (exec prog (EV k) f53n k f53b0) m ⟨[(0, (Sr a0)), (3, (I x5)), (7, (I (a0.length : Int))), (8, (I x6))], [], 24⟩).bind Kst = (ssa_areCodes_L1 k a0 K0 m x5 x6).map ssa_areCodes_fin := by
  intro m
  induction m with
  | zero => intros; rfl
  | succ m ih =>
    intro x5 x6
    unfold ssa_areCodes_L1
    refine et k_round <| kra [(9, (Bo (decide (x6 < (a0.length : Int)))))] rfl <| kc rfl rfl (fun hc => ?_) fun hc => ?_
    · rw [hc]
      refine et k_skip <| et (k_block rfl) <| kr ⟨[(0, (Sr a0)), (3, (I x5)), (4, (I x6)), (7, (I (a0.length : Int))), (8, (I x6))], [], 24⟩ rfl <| kd f53a5 rfl (fun (o10 : Int) => ⟨[(0, (Sr a0)), (3, (I x5)), (5, (I o10)), (7, (I (a0.length : Int))), (8, (I x6))], [], 24⟩) (et (regionE_regp (p := 7) (dk := true) (t := [(0, (Sr a0)), (3, (I x5)), (4, (I x6)), (7, (I (a0.length : Int))), (8, (I x6))]) (σ := []) (n := 24) rfl (by decide) (by decide) rfl) <| et (regp_adv (m := 1) (j := 1) (t' := [(0, (Sr a0)), (3, (I x5)), (4, (I x6)), (7, (I (a0.length : Int))), (8, (I x6)), (11, (I x5))]) rfl rfl rfl) <| et (regp_pure (x := (cut ([68, 76, 80] : Str) x5 (([68, 76, 80] : Str).length : Int))) (w := fun v7 => (Sr v7)) rfl rfl rfl rfl rfl (p_sliceS rfl rfl rfl rfl rfl rfl underlying9)) <| bindE fun v7 => et (putp_adv (m := 2) (j := 4) (t' := [(0, (Sr a0)), (3, (I x5)), (4, (I x6)), (7, (I (a0.length : Int))), (8, (I x6)), (11, (I x5)), (12, (Sr v7)), (13, (Sr a0)), (14, (I x6))]) rfl rfl rfl) <| et (regp_pure (x := (idxS a0 x6)) (w := fun v8 => (V.int .u8 v8)) rfl rfl rfl rfl rfl (p_indexS rfl rfl rfl underlying9)) <| bindE fun v8 => et (putp_adv (m := 0) (j := 5) (t' := [(0, (Sr a0)), (3, (I x5)), (4, (I x6)), (7, (I (a0.length : Int))), (8, (I x6)), (11, (I x5)), (12, (Sr v7)), (13, (Sr a0)), (14, (I x6)), (15, (V.int .u8 v8))]) rfl rfl rfl) <| et (regp_pure (x := (strings_IndexByte k v7 v8)) (w := fun v9 => (I v9)) rfl rfl rfl rfl rfl (p_call rfl rfl rfl rfl rfl (strings_IndexByte_ok k v7 v8) (.inl rfl))) <| bind_self fun v9 => regp_end rfl) fun o10 => et k_assoc <| kra [(18, (Bo (decide (o10 < 0))))] rfl <| kc rfl rfl (fun hc => ?_) fun hc => ?_
      · rw [hc]
        refine et k_assoc <| kr ⟨[(2, (Bo false))], [], 24⟩ rfl <| et k_ret <| et blk_ret <| et loop_ret <| et (hret _) ?_
        rfl
      · rw [hc]
        exact et k_skip <| kl ⟨[(0, (Sr a0)), (3, (I (Go.IntKind.wrap .i64 (x5 + (Go.IntKind.wrap .i64 (o10 + 1)))))), (7, (I (a0.length : Int))), (8, (I x6))], [], 24⟩ rfl <| et blk_normal <| kl ⟨[(0, (Sr a0)), (3, (I (Go.IntKind.wrap .i64 (x5 + (Go.IntKind.wrap .i64 (o10 + 1)))))), (7, (I (a0.length : Int))), (8, (I (Go.IntKind.wrap .i64 (x6 + 1))))], [], 24⟩ rfl <| et loop_normal <| ih (Go.IntKind.wrap .i64 (x5 + (Go.IntKind.wrap .i64 (o10 + 1)))) (Go.IntKind.wrap .i64 (x6 + 1))
    · rw [hc]
      exact et k_exit <| et loop_exit <| hK0 x5 x6
theorem ssa_areCodes_ok (k : Nat) (a0 : Str) : EV k 53 [(Sr a0)] = (ssa_areCodes k a0).map ssa_areCodes_fin := by
  cases k with
  | zero => rfl
  | succ k =>
    unfold ssa_areCodes
    refine et (evF_succ (c := f53c) (N := 24) (regs := f53n) rfl func53 rfl (by decide) rfl rfl rfl) <| kra [] rfl <| kra [(3, (I 0))] rfl <| et k_assoc <| kra [(7, (I (a0.length : Int))), (8, (I 0))] rfl <| et (k_block rfl) <| et k_loop ?_
    refine ssa_areCodes_L1_ok k a0 _ _ ?h_ssa_areCodes_L1_0 ?hr_ssa_areCodes_L1 k 0 0
    · intro y11 y12
      refine et blk_exit <| kr ⟨[(2, (Bo true))], [], 24⟩ rfl <| et k_lret ?_
      rfl
    · intro s; exact rfl
def slices_IndexFunc_int_fin : Int → V × List V := fun r => ((I r), [])
theorem slices_IndexFunc_int_L1_ok (k : Nat) (a0 : (List Int)) (a1 : Nat → Int → Option Bool) (a1_fid : Go.FuncId) (a1_c0 : V) (a1_hok : ∀ j x0, EV j a1_fid [(I x0), V.pro a1_c0] = (a1 j x0).map fun b => ((Bo b), [])) (K0 : Int → Option Int) (Kst : X × St → Option (V × List V)) (hK0 : ∀ (y0 : Int), Kst (X.exit 0, ⟨[(0, (sI a0)), (1, (V.fn a1_fid [] [V.pro a1_c0])), (7, (I (a0.length : Int))), (8, (I y0)), (9, (Bo false))], [], 19⟩) = (K0 y0).map slices_IndexFunc_int_fin) (hret : ∀ s, Kst (X.ret, s) = endK prog 19 [(sI a0), (V.fn a1_fid [] [V.pro a1_c0])] [] [.tmp 4] (X.ret, s)) :
    ∀ (m : Nat) (x4 : Int), (iter (exec prog (EV k) f100n k f100b0) m ⟨[(0, (sI a0)), (1, (V.fn a1_fid [] [V.pro a1_c0])), (7, (I (a0.length : Int))), (8, (I x4))], [], 19⟩).bind Kst = (slices_IndexFunc_int_L1 k a0 a1 K0 m x4).map slices_IndexFunc_int_fin := by
  intro m
  induction m with
  | zero => intros; rfl
  | succ m ih =>
    intro x4
    unfold slices_IndexFunc_int_L1
    refine et k_round <| kra [(9, (Bo (decide (x4 < (a0.length : Int)))))] rfl <| kc rfl rfl (fun hc => ?_) fun hc => ?_
    · rw [hc]
      refine et k_skip <| et (k_block rfl) <| kr ⟨[(0, (sI a0)), (1, (V.fn a1_fid [] [V.pro a1_c0])), (5, (I x4)), (7, (I (a0.length : Int))), (8, (I x4))], [], 19⟩ rfl <| kga f100a4 rfl (fun (o7 : Bool) => [(16, (Bo o7))]) (rd 3 [(11, (V.fn a1_fid [] [V.pro a1_c0])), (12, (sI a0)), (13, (I x4))] rfl rfl <| rp rfl (p_index (e := I) rfl rfl rfl underlying33 rfl (by decide)) fun v5 => bd 5 [(14, (Pr (I v5))), (15, (I v5))] rfl rfl <| rs rfl (p_call rfl rfl rfl rfl rfl (a1_hok k v5) (.inl rfl)) fun v6 => bind_end rfl) fun o7 => kcl rfl rfl (fun hc => ?_) fun hc => ?_
      · rw [hc]
        refine kr ⟨[(4, (I x4))], [], 19⟩ rfl <| et k_lret <| et blk_ret <| et loop_ret <| et (hret _) ?_
        rfl
      · rw [hc]
        exact et k_lskip <| et blk_normal <| kl ⟨[(0, (sI a0)), (1, (V.fn a1_fid [] [V.pro a1_c0])), (7, (I (a0.length : Int))), (8, (I (Go.IntKind.wrap .i64 (x4 + 1))))], [], 19⟩ rfl <| et loop_normal <| ih (Go.IntKind.wrap .i64 (x4 + 1))
    · rw [hc]
      exact et k_exit <| et loop_exit <| hK0 x4
theorem slices_IndexFunc_int_ok (k : Nat) (a0 : (List Int)) (a1 : Nat → Int → Option Bool) (a1_fid : Go.FuncId) (a1_c0 : V) (a1_hok : ∀ j x0, EV j a1_fid [(I x0), V.pro a1_c0] = (a1 j x0).map fun b => ((Bo b), [])) : EV k 100 [(sI a0), (V.fn a1_fid [] [V.pro a1_c0])] = (slices_IndexFunc_int k a0 a1).map slices_IndexFunc_int_fin := by
  cases k with
  | zero => rfl
  | succ k =>
    unfold slices_IndexFunc_int
    refine et (evF_succ (c := f100c) (N := 19) (regs := f100n) rfl func100 rfl (by decide) rfl rfl rfl) <| kra [] rfl <| et k_assoc <| krp f100a1 rfl ⟨[(0, (sI a0)), (1, (V.fn a1_fid [] [V.pro a1_c0])), (7, (I (a0.length : Int))), (8, (I 0))], [], 19⟩ ?_ ?_
    · exact rd 1 [(6, (sI a0))] rfl rfl <| rl rfl (p_len (e := I) rfl rfl rfl rfl rfl rfl underlying33) <| bind_end rfl
    refine et (k_block rfl) <| et k_loop ?_
    refine slices_IndexFunc_int_L1_ok k a0 a1 a1_fid a1_c0 a1_hok _ _ ?h_slices_IndexFunc_int_L1_0 ?hr_slices_IndexFunc_int_L1 k 0
    · intro y8
      refine et blk_exit <| kr ⟨[(4, (I (-1)))], [], 19⟩ rfl <| et k_lret ?_
      rfl
    · intro s; exact rfl
def slices_ContainsFunc_int_fin : Bool → V × List V := fun r => ((Bo r), [])
theorem slices_ContainsFunc_int_ok (k : Nat) (a0 : (List Int)) (a1 : Nat → Int → Option Bool) (a1_fid : Go.FuncId) (a1_c0 : V) (a1_hok : ∀ j x0, EV j a1_fid [(I x0), V.pro a1_c0] = (a1 j x0).map fun b => ((Bo b), [])) : EV k 90 [(sI a0), (V.fn a1_fid [] [V.pro a1_c0])] = (slices_ContainsFunc_int k a0 a1).map slices_ContainsFunc_int_fin := by
  cases k with
  | zero => rfl
  | succ k =>
    unfold slices_ContainsFunc_int
    refine et (evF_succ (c := f90c) (N := 9) (regs := f90n) rfl func90 rfl (by decide) rfl rfl rfl) <| kra [] rfl <| kg f90a1 rfl (fun (o2 : Bool) => ⟨[(4, (Bo o2))], [], 9⟩) (rd 2 [(5, (sI a0)), (6, (V.fn a1_fid [] [V.pro a1_c0]))] rfl rfl <| rp rfl (p_call rfl rfl rfl rfl rfl (slices_IndexFunc_int_ok k a0 a1 a1_fid a1_c0 a1_hok) (.inl rfl)) fun v1 => bind_end rfl) fun o2 => et k_lret ?_
    rfl
def dbd_asked_1_fin : Bool → V × List V := fun r => ((Bo r), [])
theorem dbd_asked_1_ok (k : Nat) (a0 : Int) (a1 : T_api_Base) : EV k 91 [(I a0), (Pr (eBase a1))] = (dbd_asked_1 k a0 a1).map dbd_asked_1_fin := by
  cases k with
  | zero => rfl
  | succ k =>
    unfold dbd_asked_1
    refine et (evF_succ (c := f91c) (N := 13) (regs := f91n) rfl func91 rfl (by decide) rfl rfl rfl) <| kra [] rfl <| kg f91a1 rfl (fun (o1 : Bool) => ⟨[(3, (Bo o1))], [], 13⟩) ?_ fun o1 => ?_
    · refine rd 3 [(4, (I a0)), (5, (Bo (decide (a0 < 0)))), (6, (Bo (decide (a0 < 0))))] rfl rfl <| bifE (fun hc => ?_) fun hc => ?_
      · rw [hc]
        exact reg_end rfl
      · rw [hc]
        exact rd 6 [(7, (I a0)), (8, (Pr (sType a1.fTypes))), (9, (sType a1.fTypes))] rfl rfl <| rl rfl (p_len (e := eType) rfl rfl rfl rfl rfl rfl underlying22) <| bind_end rfl
    refine et k_lret ?_
    rfl
def dbd_asked_fin : Int → V × List V := fun r => ((I r), [])
theorem dbd_asked_ok (k : Nat) (a0 : T_api_Base) (a1 : (List Int)) : EV k 72 [(eBase a0), (sI a1)] = (dbd_asked k a0 a1).map dbd_asked_fin := by
  cases k with
  | zero => rfl
  | succ k =>
    unfold dbd_asked
    refine et (evF_succ (c := f72c) (N := 13) (regs := f72n) rfl func72 rfl (by decide) rfl rfl rfl) <| kr ⟨[(1, (sI a1)), (2, (Pt 2))], [(2, vS 4 (eBase a0))], 13⟩ rfl <| et (k_block rfl) <| kga f72a1 rfl (fun (o2 : Bool) => [(5, (Bo o2))]) (rd 1 [(6, (eBase a0))] rfl rfl <| rp rfl (p_call rfl rfl rfl rfl rfl (dbd_Valid_ok k a0) (.inl rfl)) fun v1 => bind_end rfl) fun o2 => kcl rfl rfl (fun hc => ?_) fun hc => ?_
    · rw [hc]
      refine kr ⟨[(4, (I 100))], [], 13⟩ rfl <| et k_lret <| et blk_ret ?_
      rfl
    · rw [hc]
      refine kg f72a3 rfl (fun (o4 : Bool) => ⟨[(9, (Bo o4))], [], 13⟩) (rd 2 [(10, (sI a1)), (11, (V.fn 91 [] [(Pt 2)]))] rfl rfl <| rs rfl (p_call rfl rfl rfl rfl rfl (slices_ContainsFunc_int_ok k a1 (fun j x0 => (dbd_asked_1 j x0 a0)) 91 (eBase a0) (fun j x0 => (dbd_asked_1_ok j x0 a0))) (.inr (fun _ => rfl))) fun v3 => bind_end rfl) fun o4 => kcl rfl rfl (fun hc => ?_) fun hc => ?_
      · rw [hc]
        refine kr ⟨[(4, (I 2))], [], 13⟩ rfl <| et k_lret <| et blk_ret ?_
        rfl
      · rw [hc]
        refine et k_lskip <| et blk_normal <| kr ⟨[(4, (I 0))], [], 13⟩ rfl <| et k_lret ?_
        rfl
def dbd_Type_1_fin : Bool → V × List V := fun r => ((Bo r), [])
theorem dbd_Type_1_ok (k : Nat) (a0 : T_api_Type) (a1 : Str) : EV k 74 [(eType a0), (Pr (Sr a1))] = (dbd_Type_1 k a0 a1).map dbd_Type_1_fin := by
  cases k with
  | zero => rfl
  | succ k =>
    unfold dbd_Type_1
    refine et (evF_succ (c := f74c) (N := 8) (regs := f74n) rfl func74 rfl (by decide) rfl rfl rfl) <| kr ⟨[(1, (Pr (Sr a1))), (2, (Pt 2))], [(2, vS 8 (eType a0))], 8⟩ rfl <| kr ⟨[(3, (Bo (a0.fName == a1)))], [], 8⟩ rfl <| et k_lret ?_
    rfl
def dbd_index_fin : (Int × Int) → V × List V := fun r => (.tup [(I r.1), (I r.2)], [])
theorem dbd_index_ok (k : Nat) (a0 : Int) : EV k 73 [(I a0)] = (dbd_index k a0).map dbd_index_fin := by
  cases k with
  | zero => rfl
  | succ k =>
    unfold dbd_index
    refine et (evF_succ (c := f73c) (N := 7) (regs := f73n) rfl func73 rfl (by decide) rfl rfl rfl) <| kra [] rfl <| et k_assoc <| kra [(5, (Bo (decide (a0 < 0))))] rfl <| kc rfl rfl (fun hc => ?_) fun hc => ?_
    · rw [hc]
      refine et k_assoc <| kr ⟨[(2, (I 0)), (3, (I 5))], [], 7⟩ rfl <| et k_ret ?_
      rfl
    · rw [hc]
      refine et k_skip <| kr ⟨[(2, (I a0)), (3, (I 0))], [], 7⟩ rfl <| et k_lret ?_
      rfl
def dbd_Type_fin : (Int × Int) → V × List V := fun r => (.tup [(I r.1), (I r.2)], [])
theorem dbd_Type_ok (k : Nat) (a0 : T_api_Base) (a1 : Str) : EV k 54 [(eBase a0), (Sr a1)] = (dbd_Type k a0 a1).map dbd_Type_fin := by
  cases k with
  | zero => rfl
  | succ k =>
    unfold dbd_Type
    refine et (evF_succ (c := f54c) (N := 19) (regs := f54n) rfl func54 rfl (by decide) rfl rfl rfl) <| kr ⟨[(2, (Pt 2)), (3, (Pt 3))], [(2, vS 4 (eBase a0)), (3, vS 1 (Sr a1))], 19⟩ rfl <| et k_assoc <| kga f54a1 rfl (fun (o2 : Int) => [(6, (I o2))]) (rd 1 [(7, (eBase a0))] rfl rfl <| rs rfl (p_call rfl rfl rfl rfl rfl (dbd_asked_ok k a0 ([] : List Int)) (.inl rfl)) fun v1 => bind_end rfl) fun o2 => et k_assoc <| kra [(10, (Bo (o2 != 0)))] rfl <| kc rfl rfl (fun hc => ?_) fun hc => ?_
    · rw [hc]
      refine et k_assoc <| kr ⟨[(4, (I 0)), (5, (I o2))], [], 19⟩ rfl <| et k_ret ?_
      rfl
    · rw [hc]
      refine et k_skip <| kg f54a4 rfl (fun (o5 : Int × Int) => ⟨[(4, (I o5.1)), (5, (I o5.2))], [], 19⟩) (rd 3 [(12, (V.ptr 2 0 2)), (13, (sType a0.fTypes)), (14, (V.fn 74 [] [(Pt 3)]))] rfl rfl <| rp rfl (p_call rfl rfl rfl rfl rfl (slices_IndexFunc_Type_ok k a0.fTypes (fun j x0 => (dbd_Type_1 j x0 a1)) 74 (Sr a1) (fun j x0 => (dbd_Type_1_ok j x0 a1))) (.inr (fun _ => rfl))) fun v3 => bd 4 [(15, (I v3))] rfl rfl <| rp rfl (p_call rfl rfl rfl rfl rfl (dbd_index_ok k v3) (.inl rfl)) fun v4 => bind_end rfl) fun o5 => et k_lret ?_
      rfl
def slices_Reverse_int_fin : List Int → V × List V := fun r => (.tup [], [.sl 2 1 (List.map I r)])
theorem slices_Reverse_int_ok (k : Nat) (l : List Int) : EV k 92 [(V.sl 2 1 (List.map I l))] = (slices_Reverse_int k l).map slices_Reverse_int_fin := by
  cases k with
  | zero => rfl
  | succ k => exact (evF_ext (ext := ext) (f := 92) rfl).trans (extReverseInt_map l)
def dbd_way_fin : (List Int) → V × List V := fun r => ((sI r), [])
theorem dbd_way_L1_ok (k : Nat) (a0 : T_api_Base) (a1 : Int)  (K0 : Int → (List Int) → Option (List Int)) (Kst : X × St → Option (V × List V)) (hK0 : ∀ (y0 : Int) (y1 : (List Int)), Kst (X.exit 0, ⟨[(1, (I y0)), (2, (Pt 2)), (5, (aL 5 I y1)), (7, (Bo false))], [(2, vS 4 (eBase a0)), (5, ⟨true, 1, List.map I y1⟩)], 21⟩) = (K0 y0 y1).map dbd_way_fin) (hret : ∀ s, Kst (X.ret, s) = endK prog 21 [(eBase a0), (I a1)] [] [.tmp 4] (X.ret, s)) :
    ∀ (m : Nat) (x5 : Int) (x6 : (List Int)), (iter (exec prog (EV k) f76n k f76b0) m ⟨[(1, (I x5)), (2, (Pt 2)), (5, (aL 5 I x6))], [(2, vS 4 (eBase a0)), (5, ⟨true, 1, List.map I x6⟩)], 21⟩).bind Kst = (dbd_way_L1 a0 K0 m x5 x6).map dbd_way_fin := by
  intro m
  induction m with
  | zero => intros; rfl
  | succ m ih =>
    intro x5 x6
    unfold dbd_way_L1
    refine et k_round <| et k_assoc <| kra [(7, (Bo (decide (x5 ≥ 0))))] rfl <| kc rfl rfl (fun hc => ?_) fun hc => ?_
    · rw [hc]
      exact et k_skip <| et (k_block rfl) <| kgl f76a4 rfl (fun (o8 : (List Int)) => ⟨[(1, (I x5)), (2, (Pt 2)), (5, (aL 5 I o8))], [(2, vS 4 (eBase a0)), (5, ⟨true, 1, List.map I o8⟩)], 21⟩) (rd 3 [(14, (aL 5 I x6)), (15, (I x5)), (16, (sI (([x5] : List Int))))] rfl rfl <| et (reg_eff (x := (app x6 ([x5] : List Int))) (w := fun v7 => ((aL 5 I v7), _)) rfl rfl rfl rfl (p_appF (e := I) (l := x6) rfl rfl rfl rfl rfl rfl rfl rfl rfl rfl rfl (of_decide_eq_true rfl))) <| bind_self fun v7 => bind_end rfl) fun o8 => et blk_normal <| kgl f76a3 rfl (fun (o10 : Int) => ⟨[(1, (I o10)), (2, (Pt 2)), (5, (aL 5 I o8))], [(2, vS 4 (eBase a0)), (5, ⟨true, 1, List.map I o8⟩)], 21⟩) (rd 3 [(8, (V.ptr 2 0 2)), (9, (sType a0.fTypes)), (10, (I x5))] rfl rfl <| rp rfl (p_index (e := eType) rfl rfl rfl underlying22 rfl (by decide)) fun v9 => bind_end rfl) fun o10 => et loop_normal <| ih o10 o8
    · rw [hc]
      exact et k_exit <| et loop_exit <| hK0 x5 x6
theorem dbd_way_ok (k : Nat) (a0 : T_api_Base) (a1 : Int) : EV k 76 [(eBase a0), (I a1)] = (dbd_way k a0 a1).map dbd_way_fin := by
  cases k with
  | zero => rfl
  | succ k =>
    unfold dbd_way
    refine et (evF_succ (c := f76c) (N := 21) (regs := f76n) rfl func76 rfl (by decide) rfl rfl rfl) <| kr ⟨[(1, (I a1)), (2, (Pt 2))], [(2, vS 4 (eBase a0))], 21⟩ rfl <| kr ⟨[(1, (I a1)), (2, (Pt 2)), (5, (aL 5 I ([] : List Int)))], [(2, vS 4 (eBase a0)), (5, ⟨true, 1, List.map I ([] : List Int)⟩)], 21⟩ rfl <| et (k_block rfl) <| et k_loop ?_
    refine dbd_way_L1_ok k a0 a1 _ _ ?h_dbd_way_L1_0 ?hr_dbd_way_L1 k a1 ([] : List Int)
    · intro y11 y12
      refine et blk_exit <| kg f76a5 rfl (fun (o14 : (List Int)) => ⟨[(5, (aL 5 I o14))], [(5, ⟨true, 1, List.map I o14⟩)], 21⟩) (rd 1 [(18, (aL 5 I y12))] rfl rfl <| et (reg_eff (x := ((slices_Reverse_int k y12).bind (sameLen y12))) (w := fun v13 => (V.tup [], _)) rfl rfl rfl rfl (p_callL (S := (fun n_ => ⟨[(1, (I y11)), (2, (Pt 2)), (5, (V.aref 5 0 n_)), (7, (Bo false)), (18, (V.aref 5 0 n_))], [(2, vS 4 (eBase a0)), (5, ⟨true, 1, List.map I y12⟩)], 21⟩)) (e := I) rfl rfl rfl rfl rfl (argsA1 (e := I) rfl) rfl (slices_Reverse_int_ok k y12))) <| bind_self fun v13 => bind_end rfl) fun o14 => krp f76a6 rfl ⟨[(4, (sI o14))], [], 21⟩ ?_ ?_
      · exact rd 1 [(20, (aL 5 I o14))] rfl rfl <| et (reg_eff (x := some ()) (w := fun _ => ((V.sl 2 1 (List.map I o14)), _)) rfl rfl rfl rfl (p_close (e := I) rfl rfl rfl rfl rfl (of_decide_eq_true rfl))) <| et some_bind <| bind_end rfl
      refine et k_lret ?_
      rfl
    · intro s; exact rfl
def slices_Contains_int_fin : Bool → V × List V := fun r => ((Bo r), [])
theorem slices_Contains_int_ok (k : Nat) (a0 : (List Int)) (a1 : Int) : EV k 75 [(sI a0), (I a1)] = (slices_Contains_int k a0 a1).map slices_Contains_int_fin := by
  cases k with
  | zero => rfl
  | succ k =>
    unfold slices_Contains_int
    refine et (evF_succ (c := f75c) (N := 9) (regs := f75n) rfl func75 rfl (by decide) rfl rfl rfl) <| kra [] rfl <| kg f75a1 rfl (fun (o2 : Bool) => ⟨[(4, (Bo o2))], [], 9⟩) (rd 2 [(5, (sI a0)), (6, (I a1))] rfl rfl <| rp rfl (p_call rfl rfl rfl rfl rfl (slices_Index_int_ok k a0 a1) (.inl rfl)) fun v1 => bind_end rfl) fun o2 => et k_lret ?_
    rfl
def dbd_IsAbove_fin : (Bool × Int) → V × List V := fun r => (.tup [(Bo r.1), (I r.2)], [])
theorem dbd_IsAbove_ok (k : Nat) (a0 : T_api_Base) (a1 : Int) (a2 : Int) : EV k 55 [(eBase a0), (I a1), (I a2)] = (dbd_IsAbove k a0 a1 a2).map dbd_IsAbove_fin := by
  cases k with
  | zero => rfl
  | succ k =>
    unfold dbd_IsAbove
    refine et (evF_succ (c := f55c) (N := 27) (regs := f55n) rfl func55 rfl (by decide) rfl rfl rfl) <| kr ⟨[(1, (I a1)), (2, (I a2)), (3, (Pt 3))], [(3, vS 4 (eBase a0))], 27⟩ rfl <| et k_assoc <| kga f55a1 rfl (fun (o2 : Int) => [(8, (I o2))]) (rd 4 [(9, (eBase a0)), (10, (I a1)), (11, (I a2)), (12, (sI (([a1, a2] : List Int))))] rfl rfl <| rs rfl (p_call rfl rfl rfl rfl rfl (dbd_asked_ok k a0 ([a1, a2] : List Int)) (.inl rfl)) fun v1 => bind_end rfl) fun o2 => et k_assoc <| kra [(15, (Bo (o2 != 0)))] rfl <| kc rfl rfl (fun hc => ?_) fun hc => ?_
    · rw [hc]
      refine et k_assoc <| kr ⟨[(6, (Bo false)), (7, (I o2))], [], 27⟩ rfl <| et k_ret ?_
      rfl
    · rw [hc]
      refine et k_skip <| kg f55a4 rfl (fun (o5 : Bool × Int) => ⟨[(6, (Bo o5.1)), (7, (I o5.2))], [], 27⟩) ?_ fun o5 => ?_
      · refine rd 4 [(17, (I a1)), (18, (I a2)), (19, (Bo (a1 != a2))), (20, (Bo (a1 != a2)))] rfl rfl <| bifE (fun hc => ?_) fun hc => ?_
        · rw [hc]
          exact rd 6 [(21, (eBase a0)), (22, (I a2))] rfl rfl <| rp rfl (p_call rfl rfl rfl rfl rfl (dbd_way_ok k a0 a2) (.inl rfl)) fun v3 => bd 8 [(23, (sI v3)), (24, (I a1))] rfl rfl <| rp rfl (p_call rfl rfl rfl rfl rfl (slices_Contains_int_ok k v3 a1) (.inl rfl)) fun v4 => bind_end rfl
        · rw [hc]
          exact reg_end rfl
      refine et k_lret ?_
      rfl
def dbd_Way_fin : ((List Int) × Int) → V × List V := fun r => (.tup [(sI r.1), (I r.2)], [])
theorem dbd_Way_ok (k : Nat) (a0 : T_api_Base) (a1 : Int) : EV k 94 [(eBase a0), (I a1)] = (dbd_Way k a0 a1).map dbd_Way_fin := by
  cases k with
  | zero => rfl
  | succ k =>
    unfold dbd_Way
    refine et (evF_succ (c := f94c) (N := 17) (regs := f94n) rfl func94 rfl (by decide) rfl rfl rfl) <| kr ⟨[(1, (I a1)), (2, (Pt 2))], [(2, vS 4 (eBase a0))], 17⟩ rfl <| et k_assoc <| kga f94a1 rfl (fun (o2 : Int) => [(6, (I o2))]) (rd 3 [(7, (eBase a0)), (8, (I a1)), (9, (sI (([a1] : List Int))))] rfl rfl <| rs rfl (p_call rfl rfl rfl rfl rfl (dbd_asked_ok k a0 ([a1] : List Int)) (.inl rfl)) fun v1 => bind_end rfl) fun o2 => et k_assoc <| kra [(12, (Bo (o2 != 0)))] rfl <| kc rfl rfl (fun hc => ?_) fun hc => ?_
    · rw [hc]
      refine et k_assoc <| kr ⟨[(4, (sI (([] : List Int)))), (5, (I o2))], [], 17⟩ rfl <| et k_ret ?_
      rfl
    · rw [hc]
      refine et k_skip <| kg f94a4 rfl (fun (o4 : (List Int) × Int) => ⟨[(4, (sI o4.1)), (5, (I o4.2))], [], 17⟩) (rd 2 [(14, (eBase a0)), (15, (I a1))] rfl rfl <| rp rfl (p_call rfl rfl rfl rfl rfl (dbd_way_ok k a0 a1) (.inl rfl)) fun v3 => bind_end rfl) fun o4 => et k_lret ?_
      rfl
def dbd_Depth_fin : (Int × Int) → V × List V := fun r => (.tup [(I r.1), (I r.2)], [])
theorem dbd_Depth_ok (k : Nat) (a0 : T_api_Base) (a1 : Int) : EV k 80 [(eBase a0), (I a1)] = (dbd_Depth k a0 a1).map dbd_Depth_fin := by
  cases k with
  | zero => rfl
  | succ k =>
    unfold dbd_Depth
    refine et (evF_succ (c := f80c) (N := 17) (regs := f80n) rfl func80 rfl (by decide) rfl rfl rfl) <| kr ⟨[(1, (I a1)), (2, (Pt 2))], [(2, vS 4 (eBase a0))], 17⟩ rfl <| kg f80a1 rfl (fun (o2 : (List Int) × Int) => ⟨[(6, (sI o2.1)), (7, (I o2.2))], [], 17⟩) (rd 2 [(9, (eBase a0)), (10, (I a1))] rfl rfl <| rp rfl (p_call rfl rfl rfl rfl rfl (dbd_Way_ok k a0 a1) (.inl rfl)) fun v1 => bind_end rfl) fun o2 => krp f80a2 rfl ⟨[(4, (I (o2.1.length : Int))), (5, (I o2.2))], [], 17⟩ ?_ ?_
    · exact rd 1 [(14, (sI o2.1))] rfl rfl <| rl rfl (p_len (e := I) rfl rfl rfl rfl rfl rfl underlying33) <| bind_end rfl
    refine et k_lret ?_
    rfl
def match_asked_fin : Int → V × List V := fun r => ((I r), [])
theorem match_asked_ok (k : Nat) (a0 : T_api_Base) (a1 : Int) : EV k 64 [(eBase a0), (I a1)] = (match_asked k a0 a1).map match_asked_fin := by
  cases k with
  | zero => rfl
  | succ k =>
    unfold match_asked
    refine et (evF_succ (c := f64c) (N := 14) (regs := f64n) rfl func64 rfl (by decide) rfl rfl rfl) <| kr ⟨[(1, (I a1)), (2, (Pt 2))], [(2, vS 4 (eBase a0))], 14⟩ rfl <| kg f64a1 rfl (fun (o2 : Int) => ⟨[(6, (I o2))], [], 14⟩) (rd 2 [(8, (eBase a0)), (9, (I a1))] rfl rfl <| rp rfl (p_call rfl rfl rfl rfl rfl (dbd_Depth_ok k a0 a1) (.inl rfl)) fun v1 => bind_end rfl) fun o2 => kr ⟨[(4, (I o2))], [], 14⟩ rfl <| et k_lret ?_
    rfl
def slices_IndexFunc_TermL_fin : Int → V × List V := fun r => ((I r), [])
theorem slices_IndexFunc_TermL_L1_ok (k : Nat) (a0 : (List (List T_api_Term))) (a1 : Nat → (List T_api_Term) → Option Bool) (a1_fid : Go.FuncId) (a1_c0 : V) (a1_hok : ∀ j x0, EV j a1_fid [(sTerm x0), V.pro a1_c0] = (a1 j x0).map fun b => ((Bo b), [])) (K0 : Int → Option Int) (Kst : X × St → Option (V × List V)) (hK0 : ∀ (y0 : Int), Kst (X.exit 0, ⟨[(0, (V.sl 0 1 (List.map sTerm a0))), (1, (V.fn a1_fid [] [V.pro a1_c0])), (7, (I (a0.length : Int))), (8, (I y0)), (9, (Bo false))], [], 19⟩) = (K0 y0).map slices_IndexFunc_TermL_fin) (hret : ∀ s, Kst (X.ret, s) = endK prog 19 [(V.sl 0 1 (List.map sTerm a0)), (V.fn a1_fid [] [V.pro a1_c0])] [] [.tmp 4] (X.ret, s)) :
    ∀ (m : Nat) (x4 : Int), (iter (exec prog (EV k) f95n k f95b0) m ⟨[(0, (V.sl 0 1 (List.map sTerm a0))), (1, (V.fn a1_fid [] [V.pro a1_c0])), (7, (I (a0.length : Int))), (8, (I x4))], [], 19⟩).bind Kst = (slices_IndexFunc_TermL_L1 k a0 a1 K0 m x4).map slices_IndexFunc_TermL_fin := by
  intro m
  induction m with
  | zero => intros; rfl
  | succ m ih =>
    intro x4
    unfold slices_IndexFunc_TermL_L1
    refine et k_round <| kra [(9, (Bo (decide (x4 < (a0.length : Int)))))] rfl <| kc rfl rfl (fun hc => ?_) fun hc => ?_
    · rw [hc]
      refine et k_skip <| et (k_block rfl) <| kr ⟨[(0, (V.sl 0 1 (List.map sTerm a0))), (1, (V.fn a1_fid [] [V.pro a1_c0])), (5, (I x4)), (7, (I (a0.length : Int))), (8, (I x4))], [], 19⟩ rfl <| kga f95a4 rfl (fun (o7 : Bool) => [(16, (Bo o7))]) (rd 3 [(11, (V.fn a1_fid [] [V.pro a1_c0])), (12, (V.sl 0 1 (List.map sTerm a0))), (13, (I x4))] rfl rfl <| rp rfl (p_index (e := sTerm) rfl rfl rfl underlying39 rfl (by decide)) fun v5 => bd 5 [(14, (Pr (sTerm v5))), (15, (sTerm v5))] rfl rfl <| rs rfl (p_call rfl rfl rfl rfl rfl (a1_hok k v5) (.inl rfl)) fun v6 => bind_end rfl) fun o7 => kcl rfl rfl (fun hc => ?_) fun hc => ?_
      · rw [hc]
        refine kr ⟨[(4, (I x4))], [], 19⟩ rfl <| et k_lret <| et blk_ret <| et loop_ret <| et (hret _) ?_
        rfl
      · rw [hc]
        exact et k_lskip <| et blk_normal <| kl ⟨[(0, (V.sl 0 1 (List.map sTerm a0))), (1, (V.fn a1_fid [] [V.pro a1_c0])), (7, (I (a0.length : Int))), (8, (I (Go.IntKind.wrap .i64 (x4 + 1))))], [], 19⟩ rfl <| et loop_normal <| ih (Go.IntKind.wrap .i64 (x4 + 1))
    · rw [hc]
      exact et k_exit <| et loop_exit <| hK0 x4
theorem slices_IndexFunc_TermL_ok (k : Nat) (a0 : (List (List T_api_Term))) (a1 : Nat → (List T_api_Term) → Option Bool) (a1_fid : Go.FuncId) (a1_c0 : V) (a1_hok : ∀ j x0, EV j a1_fid [(sTerm x0), V.pro a1_c0] = (a1 j x0).map fun b => ((Bo b), [])) : EV k 95 [(V.sl 0 1 (List.map sTerm a0)), (V.fn a1_fid [] [V.pro a1_c0])] = (slices_IndexFunc_TermL k a0 a1).map slices_IndexFunc_TermL_fin := by
  cases k with
  | zero => rfl
  | succ k =>
    unfold slices_IndexFunc_TermL
    refine et (evF_succ (c := f95c) (N := 19) (regs := f95n) rfl func95 rfl (by decide) rfl rfl rfl) <| kra [] rfl <| et k_assoc <| krp f95a1 rfl ⟨[(0, (V.sl 0 1 (List.map sTerm a0))), (1, (V.fn a1_fid [] [V.pro a1_c0])), (7, (I (a0.length : Int))), (8, (I 0))], [], 19⟩ ?_ ?_
    · exact rd 1 [(6, (V.sl 0 1 (List.map sTerm a0)))] rfl rfl <| rl rfl (p_len (e := sTerm) rfl rfl rfl rfl rfl rfl underlying39) <| bind_end rfl
    refine et (k_block rfl) <| et k_loop ?_
    refine slices_IndexFunc_TermL_L1_ok k a0 a1 a1_fid a1_c0 a1_hok _ _ ?h_slices_IndexFunc_TermL_L1_0 ?hr_slices_IndexFunc_TermL_L1 k 0
    · intro y8
      refine et blk_exit <| kr ⟨[(4, (I (-1)))], [], 19⟩ rfl <| et k_lret ?_
      rfl
    · intro s; exact rfl
def slices_ContainsFunc_TermL_fin : Bool → V × List V := fun r => ((Bo r), [])
theorem slices_ContainsFunc_TermL_ok (k : Nat) (a0 : (List (List T_api_Term))) (a1 : Nat → (List T_api_Term) → Option Bool) (a1_fid : Go.FuncId) (a1_c0 : V) (a1_hok : ∀ j x0, EV j a1_fid [(sTerm x0), V.pro a1_c0] = (a1 j x0).map fun b => ((Bo b), [])) : EV k 82 [(V.sl 0 1 (List.map sTerm a0)), (V.fn a1_fid [] [V.pro a1_c0])] = (slices_ContainsFunc_TermL k a0 a1).map slices_ContainsFunc_TermL_fin := by
  cases k with
  | zero => rfl
  | succ k =>
    unfold slices_ContainsFunc_TermL
    refine et (evF_succ (c := f82c) (N := 9) (regs := f82n) rfl func82 rfl (by decide) rfl rfl rfl) <| kra [] rfl <| kg f82a1 rfl (fun (o2 : Bool) => ⟨[(4, (Bo o2))], [], 9⟩) (rd 2 [(5, (V.sl 0 1 (List.map sTerm a0))), (6, (V.fn a1_fid [] [V.pro a1_c0]))] rfl rfl <| rp rfl (p_call rfl rfl rfl rfl rfl (slices_IndexFunc_TermL_ok k a0 a1 a1_fid a1_c0 a1_hok) (.inl rfl)) fun v1 => bind_end rfl) fun o2 => et k_lret ?_
    rfl
def slices_IndexFunc_Term_fin : Int → V × List V := fun r => ((I r), [])
theorem slices_IndexFunc_Term_L1_ok (k : Nat) (a0 : (List T_api_Term)) (a1 : Nat → T_api_Term → Option Bool) (a1_fid : Go.FuncId) (a1_c0 : V) (a1_hok : ∀ j x0, EV j a1_fid [(eTerm x0), V.pro a1_c0] = (a1 j x0).map fun b => ((Bo b), [])) (K0 : Int → Option Int) (Kst : X × St → Option (V × List V)) (hK0 : ∀ (y0 : Int), Kst (X.exit 0, ⟨[(0, (sTerm a0)), (1, (V.fn a1_fid [] [V.pro a1_c0])), (7, (I (a0.length : Int))), (8, (I y0)), (9, (Bo false))], [], 19⟩) = (K0 y0).map slices_IndexFunc_Term_fin) (hret : ∀ s, Kst (X.ret, s) = endK prog 19 [(sTerm a0), (V.fn a1_fid [] [V.pro a1_c0])] [] [.tmp 4] (X.ret, s)) :
    ∀ (m : Nat) (x4 : Int), (iter (exec prog (EV k) f96n k f96b0) m ⟨[(0, (sTerm a0)), (1, (V.fn a1_fid [] [V.pro a1_c0])), (7, (I (a0.length : Int))), (8, (I x4))], [], 19⟩).bind Kst = (slices_IndexFunc_Term_L1 k a0 a1 K0 m x4).map slices_IndexFunc_Term_fin := by
  intro m
  induction m with
  | zero => intros; rfl
  | succ m ih =>
    intro x4
    unfold slices_IndexFunc_Term_L1
    refine et k_round <| kra [(9, (Bo (decide (x4 < (a0.length : Int)))))] rfl <| kc rfl rfl (fun hc => ?_) fun hc => ?_
    · rw [hc]
      refine et k_skip <| et (k_block rfl) <| kr ⟨[(0, (sTerm a0)), (1, (V.fn a1_fid [] [V.pro a1_c0])), (5, (I x4)), (7, (I (a0.length : Int))), (8, (I x4))], [], 19⟩ rfl <| kga f96a4 rfl (fun (o7 : Bool) => [(16, (Bo o7))]) (rd 3 [(11, (V.fn a1_fid [] [V.pro a1_c0])), (12, (sTerm a0)), (13, (I x4))] rfl rfl <| rp rfl (p_index (e := eTerm) rfl rfl rfl underlying54 rfl (by decide)) fun v5 => bd 5 [(14, (Pr (eTerm v5))), (15, (eTerm v5))] rfl rfl <| rs rfl (p_call rfl rfl rfl rfl rfl (a1_hok k v5) (.inl rfl)) fun v6 => bind_end rfl) fun o7 => kcl rfl rfl (fun hc => ?_) fun hc => ?_
      · rw [hc]
        refine kr ⟨[(4, (I x4))], [], 19⟩ rfl <| et k_lret <| et blk_ret <| et loop_ret <| et (hret _) ?_
        rfl
      · rw [hc]
        exact et k_lskip <| et blk_normal <| kl ⟨[(0, (sTerm a0)), (1, (V.fn a1_fid [] [V.pro a1_c0])), (7, (I (a0.length : Int))), (8, (I (Go.IntKind.wrap .i64 (x4 + 1))))], [], 19⟩ rfl <| et loop_normal <| ih (Go.IntKind.wrap .i64 (x4 + 1))
    · rw [hc]
      exact et k_exit <| et loop_exit <| hK0 x4
theorem slices_IndexFunc_Term_ok (k : Nat) (a0 : (List T_api_Term)) (a1 : Nat → T_api_Term → Option Bool) (a1_fid : Go.FuncId) (a1_c0 : V) (a1_hok : ∀ j x0, EV j a1_fid [(eTerm x0), V.pro a1_c0] = (a1 j x0).map fun b => ((Bo b), [])) : EV k 96 [(sTerm a0), (V.fn a1_fid [] [V.pro a1_c0])] = (slices_IndexFunc_Term k a0 a1).map slices_IndexFunc_Term_fin := by
  cases k with
  | zero => rfl
  | succ k =>
    unfold slices_IndexFunc_Term
    refine et (evF_succ (c := f96c) (N := 19) (regs := f96n) rfl func96 rfl (by decide) rfl rfl rfl) <| kra [] rfl <| et k_assoc <| krp f96a1 rfl ⟨[(0, (sTerm a0)), (1, (V.fn a1_fid [] [V.pro a1_c0])), (7, (I (a0.length : Int))), (8, (I 0))], [], 19⟩ ?_ ?_
    · exact rd 1 [(6, (sTerm a0))] rfl rfl <| rl rfl (p_len (e := eTerm) rfl rfl rfl rfl rfl rfl underlying54) <| bind_end rfl
    refine et (k_block rfl) <| et k_loop ?_
    refine slices_IndexFunc_Term_L1_ok k a0 a1 a1_fid a1_c0 a1_hok _ _ ?h_slices_IndexFunc_Term_L1_0 ?hr_slices_IndexFunc_Term_L1 k 0
    · intro y8
      refine et blk_exit <| kr ⟨[(4, (I (-1)))], [], 19⟩ rfl <| et k_lret ?_
      rfl
    · intro s; exact rfl
def slices_ContainsFunc_Term_fin : Bool → V × List V := fun r => ((Bo r), [])
theorem slices_ContainsFunc_Term_ok (k : Nat) (a0 : (List T_api_Term)) (a1 : Nat → T_api_Term → Option Bool) (a1_fid : Go.FuncId) (a1_c0 : V) (a1_hok : ∀ j x0, EV j a1_fid [(eTerm x0), V.pro a1_c0] = (a1 j x0).map fun b => ((Bo b), [])) : EV k 84 [(sTerm a0), (V.fn a1_fid [] [V.pro a1_c0])] = (slices_ContainsFunc_Term k a0 a1).map slices_ContainsFunc_Term_fin := by
  cases k with
  | zero => rfl
  | succ k =>
    unfold slices_ContainsFunc_Term
    refine et (evF_succ (c := f84c) (N := 9) (regs := f84n) rfl func84 rfl (by decide) rfl rfl rfl) <| kra [] rfl <| kg f84a1 rfl (fun (o2 : Bool) => ⟨[(4, (Bo o2))], [], 9⟩) (rd 2 [(5, (sTerm a0)), (6, (V.fn a1_fid [] [V.pro a1_c0]))] rfl rfl <| rp rfl (p_call rfl rfl rfl rfl rfl (slices_IndexFunc_Term_ok k a0 a1 a1_fid a1_c0 a1_hok) (.inl rfl)) fun v1 => bind_end rfl) fun o2 => et k_lret ?_
    rfl
def match_field_1_fin : Bool → V × List V := fun r => ((Bo r), [])
theorem match_field_1_ok (k : Nat) (a0 : T_api_Field) (a1 : Str) : EV k 101 [(eField a0), (Pr (Sr a1))] = (match_field_1 k a0 a1).map match_field_1_fin := by
  cases k with
  | zero => rfl
  | succ k =>
    unfold match_field_1
    refine et (evF_succ (c := f101c) (N := 8) (regs := f101n) rfl func101 rfl (by decide) rfl rfl rfl) <| kr ⟨[(1, (Pr (Sr a1))), (2, (Pt 2))], [(2, vS 3 (eField a0))], 8⟩ rfl <| kr ⟨[(3, (Bo (a0.fName == a1)))], [], 8⟩ rfl <| et k_lret ?_
    rfl
def match_field_fin : (Int × Bool) → V × List V := fun r => (.tup [(I r.1), (Bo r.2)], [])
theorem match_field_ok (k : Nat) (a0 : T_api_Type) (a1 : Str) : EV k 97 [(eType a0), (Sr a1)] = (match_field k a0 a1).map match_field_fin := by
  cases k with
  | zero => rfl
  | succ k =>
    unfold match_field
    refine et (evF_succ (c := f97c) (N := 14) (regs := f97n) rfl func97 rfl (by decide) rfl rfl rfl) <| kr ⟨[(2, (Pt 2)), (3, (Pt 3))], [(2, vS 8 (eType a0)), (3, vS 1 (Sr a1))], 14⟩ rfl <| kg f97a1 rfl (fun (o2 : Int) => ⟨[(6, (I o2))], [], 14⟩) (rd 3 [(7, (V.ptr 2 0 4)), (8, (sField a0.fFields)), (9, (V.fn 101 [] [(Pt 3)]))] rfl rfl <| rs rfl (p_call rfl rfl rfl rfl rfl (slices_IndexFunc_Field_ok k a0.fFields (fun j x0 => (match_field_1 j x0 a1)) 101 (Sr a1) (fun j x0 => (match_field_1_ok j x0 a1))) (.inr (fun _ => rfl))) fun v1 => bind_end rfl) fun o2 => kr ⟨[(4, (I o2)), (5, (Bo (decide (o2 ≥ 0))))], [], 14⟩ rfl <| et k_lret ?_
    rfl
def match_isTerm_fin : Bool → V × List V := fun r => ((Bo r), [])
theorem match_isTerm_ok (k : Nat) (a0 : T_api_Type) (a1 : T_api_Term) : EV k 86 [(eType a0), (eTerm a1)] = (match_isTerm k a0 a1).map match_isTerm_fin := by
  cases k with
  | zero => rfl
  | succ k =>
    unfold match_isTerm
    refine et (evF_succ (c := f86c) (N := 37) (regs := f86n) rfl func86 rfl (by decide) rfl rfl rfl) <| kr ⟨[(2, (Pt 2)), (3, (Pt 3))], [(2, vS 8 (eType a0)), (3, vS 3 (eTerm a1))], 37⟩ rfl <| kga f86a1 rfl (fun (o2 : Int × Bool) => [(5, (I o2.1)), (6, (Bo o2.2))]) (rd 3 [(8, (eType a0)), (9, (Pt 3)), (10, (Sr a1.fField))] rfl rfl <| rp rfl (p_call rfl rfl rfl rfl rfl (match_field_ok k a0 a1.fField) (.inl rfl)) fun v1 => bind_end rfl) fun o2 => kd f86a2 rfl (fun (o4 : Bool) => ⟨[(4, (Bo o4))], [], 37⟩) ?_ fun o4 => ?_
    · refine et (regionE_regp (p := 24) (dk := true) (t := [(2, (Pt 2)), (3, (Pt 3)), (5, (I o2.1)), (6, (Bo o2.2))]) (σ := [(2, vS 8 (eType a0)), (3, vS 3 (eTerm a1))]) (n := 37) rfl (by decide) (by decide) rfl) <| et (regp_adv (m := 2) (j := 2) (t' := [(2, (Pt 2)), (3, (Pt 3)), (5, (I o2.1)), (6, (Bo o2.2)), (14, (Bo o2.2)), (15, (Bo o2.2))]) rfl rfl rfl) <| bifE (fun hc => ?_) fun hc => ?_
      · rw [hc]
        refine et (regp_adv (m := 5) (j := 7) (t' := [(2, (Pt 2)), (3, (Pt 3)), (5, (I o2.1)), (6, (Bo true)), (14, (Bo true)), (15, (Bo true)), (16, (V.ptr 3 0 1)), (17, (I a1.fOp)), (18, (Bo (decide (a1.fOp ≥ 1)))), (19, (Bo (decide (a1.fOp ≥ 1)))), (20, (Bo (decide (a1.fOp ≥ 1))))]) rfl rfl rfl) <| bifE (fun hc => ?_) fun hc => ?_
        · rw [hc]
          refine et (regp_adv (m := 5) (j := 12) (t' := [(2, (Pt 2)), (3, (Pt 3)), (5, (I o2.1)), (6, (Bo true)), (14, (Bo true)), (15, (Bo true)), (16, (V.ptr 3 0 1)), (17, (I a1.fOp)), (18, (Bo true)), (19, (Bo true)), (20, (Bo true)), (21, (V.ptr 3 0 1)), (22, (I a1.fOp)), (23, (Bo (decide (a1.fOp ≤ 6)))), (24, (Bo (decide (a1.fOp ≤ 6)))), (25, (Bo (decide (a1.fOp ≤ 6))))]) rfl rfl rfl) <| bifE (fun hc => ?_) fun hc => ?_
          · rw [hc]
            exact et (regp_adv (m := 6) (j := 18) (t' := [(2, (Pt 2)), (3, (Pt 3)), (5, (I o2.1)), (6, (Bo true)), (14, (Bo true)), (15, (Bo true)), (16, (V.ptr 3 0 1)), (17, (I a1.fOp)), (18, (Bo true)), (19, (Bo true)), (20, (Bo true)), (21, (V.ptr 3 0 1)), (22, (I a1.fOp)), (23, (Bo true)), (24, (Bo true)), (25, (Bo true)), (26, (V.ptr 3 0 2)), (27, (Sr a1.fValue)), (28, (I (a1.fValue.length : Int))), (29, (V.ptr 2 0 4)), (30, (sField a0.fFields)), (31, (I o2.1))]) rfl rfl rfl) <| et (regp_pure (x := (idx a0.fFields o2.1)) (w := fun v3 => (Pr (eField v3))) rfl rfl rfl rfl rfl (p_index (e := eField) rfl rfl rfl underlying43 rfl (by decide))) <| bindE fun v3 => regp_end rfl
          · rw [hc]
            exact regp_end rfl
        · rw [hc]
          exact regp_end rfl
      · rw [hc]
        exact regp_end rfl
    refine et k_lret ?_
    rfl
def match_valid_1_1_fin : Bool → V × List V := fun r => ((Bo r), [])
theorem match_valid_1_1_ok (k : Nat) (a0 : T_api_Term) (a1 : T_api_Type) : EV k 85 [(eTerm a0), (Pr (eType a1))] = (match_valid_1_1 k a0 a1).map match_valid_1_1_fin := by
  cases k with
  | zero => rfl
  | succ k =>
    unfold match_valid_1_1
    refine et (evF_succ (c := f85c) (N := 8) (regs := f85n) rfl func85 rfl (by decide) rfl rfl rfl) <| kr ⟨[(1, (Pr (eType a1))), (2, (Pt 2))], [(2, vS 3 (eTerm a0))], 8⟩ rfl <| kg f85a1 rfl (fun (o2 : Bool) => ⟨[(3, (Bo o2))], [], 8⟩) (rd 2 [(4, (eType a1)), (5, (eTerm a0))] rfl rfl <| rp rfl (p_call rfl rfl rfl rfl rfl (match_isTerm_ok k a1 a0) (.inl rfl)) fun v1 => bind_end rfl) fun o2 => et k_lret ?_
    rfl
def match_valid_1_fin : Bool → V × List V := fun r => ((Bo r), [])
theorem match_valid_1_ok (k : Nat) (a0 : (List T_api_Term)) (a1 : T_api_Type) : EV k 83 [(sTerm a0), (Pr (eType a1))] = (match_valid_1 k a0 a1).map match_valid_1_fin := by
  cases k with
  | zero => rfl
  | succ k =>
    unfold match_valid_1
    refine et (evF_succ (c := f83c) (N := 17) (regs := f83n) rfl func83 rfl (by decide) rfl rfl rfl) <| kra [] rfl <| kg f83a1 rfl (fun (o2 : Bool) => ⟨[(3, (Bo o2))], [], 17⟩) ?_ fun o2 => ?_
    · refine rd 1 [(4, (sTerm a0))] rfl rfl <| rl rfl (p_len (e := eTerm) rfl rfl rfl rfl rfl rfl underlying54) <| bd 4 [(5, (I (a0.length : Int))), (6, (Bo (decide ((a0.length : Int) < 1)))), (7, (Bo (decide ((a0.length : Int) < 1))))] rfl rfl <| bifE (fun hc => ?_) fun hc => ?_
      · rw [hc]
        exact reg_end rfl
      · rw [hc]
        refine rd 5 [(8, (sTerm a0))] rfl rfl <| rl rfl (p_len (e := eTerm) rfl rfl rfl rfl rfl rfl underlying54) <| bd 9 [(9, (I (a0.length : Int))), (10, (Bo (decide ((a0.length : Int) > 4)))), (11, (Bo (decide ((a0.length : Int) > 4)))), (12, (Bo (decide ((a0.length : Int) > 4))))] rfl rfl <| bifE (fun hc => ?_) fun hc => ?_
        · rw [hc]
          exact reg_end rfl
        · rw [hc]
          exact rd 11 [(13, (sTerm a0)), (14, (V.fn 85 [] [(Pr (eType a1))]))] rfl rfl <| rs rfl (p_call rfl rfl rfl rfl rfl (slices_ContainsFunc_Term_ok k a0 (fun j x0 => (match_valid_1_1 j x0 a1)) 85 (eType a1) (fun j x0 => (match_valid_1_1_ok j x0 a1))) (.inl rfl)) fun v1 => bind_end rfl
    refine et k_lret ?_
    rfl
def match_valid_fin : Bool → V × List V := fun r => ((Bo r), [])
theorem match_valid_ok (k : Nat) (a0 : T_api_Type) (a1 : (List (List T_api_Term))) : EV k 67 [(eType a0), (V.sl 0 1 (List.map sTerm a1))] = (match_valid k a0 a1).map match_valid_fin := by
  cases k with
  | zero => rfl
  | succ k =>
    unfold match_valid
    refine et (evF_succ (c := f67c) (N := 14) (regs := f67n) rfl func67 rfl (by decide) rfl rfl rfl) <| kr ⟨[(1, (V.sl 0 1 (List.map sTerm a1))), (2, (Pt 2))], [(2, vS 8 (eType a0))], 14⟩ rfl <| kg f67a1 rfl (fun (o2 : Bool) => ⟨[(4, (Bo o2))], [], 14⟩) ?_ fun o2 => ?_
    · refine rd 1 [(5, (V.sl 0 1 (List.map sTerm a1)))] rfl rfl <| rl rfl (p_len (e := sTerm) rfl rfl rfl rfl rfl rfl underlying39) <| bd 4 [(6, (I (a1.length : Int))), (7, (Bo (decide ((a1.length : Int) ≤ 4)))), (8, (Bo (decide ((a1.length : Int) ≤ 4))))] rfl rfl <| bifE (fun hc => ?_) fun hc => ?_
      · rw [hc]
        exact rd 6 [(9, (V.sl 0 1 (List.map sTerm a1))), (10, (V.fn 83 [] [(Pt 2)]))] rfl rfl <| rp rfl (p_call rfl rfl rfl rfl rfl (slices_ContainsFunc_TermL_ok k a1 (fun j x0 => (match_valid_1 j x0 a0)) 83 (eType a0) (fun j x0 => (match_valid_1_ok j x0 a0))) (.inr (fun _ => rfl))) fun v1 => bind_end rfl
      · rw [hc]
        exact reg_end rfl
    refine et k_lret ?_
    rfl
def match_Valid_fin : (Bool × Int) → V × List V := fun r => (.tup [(Bo r.1), (I r.2)], [])
theorem match_Valid_ok (k : Nat) (a0 : T_api_Base) (a1 : Int) (a2 : (List (List T_api_Term))) : EV k 56 [(eBase a0), (I a1), (V.sl 0 1 (List.map sTerm a2))] = (match_Valid k a0 a1 a2).map match_Valid_fin := by
  cases k with
  | zero => rfl
  | succ k =>
    unfold match_Valid
    refine et (evF_succ (c := f56c) (N := 22) (regs := f56n) rfl func56 rfl (by decide) rfl rfl rfl) <| kr ⟨[(1, (I a1)), (2, (V.sl 0 1 (List.map sTerm a2))), (3, (Pt 3))], [(3, vS 4 (eBase a0))], 22⟩ rfl <| et k_assoc <| kga f56a1 rfl (fun (o2 : Int) => [(8, (I o2))]) (rd 2 [(9, (eBase a0)), (10, (I a1))] rfl rfl <| rs rfl (p_call rfl rfl rfl rfl rfl (match_asked_ok k a0 a1) (.inl rfl)) fun v1 => bind_end rfl) fun o2 => et k_assoc <| kra [(13, (Bo (o2 != 0)))] rfl <| kc rfl rfl (fun hc => ?_) fun hc => ?_
    · rw [hc]
      refine et k_assoc <| kr ⟨[(6, (Bo false)), (7, (I o2))], [], 22⟩ rfl <| et k_ret ?_
      rfl
    · rw [hc]
      refine et k_skip <| kg f56a4 rfl (fun (o5 : Bool × Int) => ⟨[(6, (Bo o5.1)), (7, (I o5.2))], [], 22⟩) (rd 3 [(15, (V.ptr 3 0 2)), (16, (sType a0.fTypes)), (17, (I a1))] rfl rfl <| rp rfl (p_index (e := eType) rfl rfl rfl underlying22 rfl (by decide)) fun v3 => bd 6 [(18, (Pr (eType v3))), (19, (eType v3)), (20, (V.sl 0 1 (List.map sTerm a2)))] rfl rfl <| rp rfl (p_call rfl rfl rfl rfl rfl (match_valid_ok k v3 a2) (.inl rfl)) fun v4 => bind_end rfl) fun o5 => et k_lret ?_
      rfl
def ssa_status_fin : (Str × Int) → V × List V := fun r => (.tup [(Sr r.1), (I r.2)], [])
theorem ssa_status_ok (k : Nat) (a0 : T_api_Base) (a1 : Int) (a2 : T_api_Arg) : EV k 33 [(eBase a0), (I a1), (eArg a2)] = (ssa_status k a0 a1 a2).map ssa_status_fin := by
  cases k with
  | zero => rfl
  | succ k =>
    unfold ssa_status
    refine et (evF_succ (c := f33c) (N := 49) (regs := f33n) rfl func33 rfl (by decide) rfl rfl rfl) <| kr ⟨[(1, (I a1)), (3, (Pt 3)), (5, (Pt 5))], [(3, vS 4 (eBase a0)), (5, vS 3 (eArg a2))], 49⟩ rfl <| et k_assoc <| kga f33a1 rfl (fun (o2 : Bool) => [(17, (Bo o2))]) (rd 2 [(14, (V.ptr 5 0 1)), (15, (Sr a2.fCodes))] rfl rfl <| rp rfl (p_call rfl rfl rfl rfl rfl (ssa_areCodes_ok k a2.fCodes) (.inl rfl)) fun v1 => bind_end rfl) fun o2 => kc rfl rfl (fun hc => ?_) fun hc => ?_
    · rw [hc]
      refine et k_assoc <| kr ⟨[(6, (Sr ([65, 74] : Str))), (7, (I 0))], [], 49⟩ rfl <| et k_ret ?_
      rfl
    · rw [hc]
      refine et k_skip <| kg f33a3 rfl (fun (o4 : Int × Int) => ⟨[(1, (I a1)), (3, (Pt 3)), (5, (Pt 5)), (8, (I o4.1)), (9, (I o4.2))], [(3, vS 4 (eBase a0)), (5, vS 3 (eArg a2))], 49⟩) (rd 3 [(19, (eBase a0)), (20, (Pt 5)), (21, (Sr a2.fSegment))] rfl rfl <| rp rfl (p_call rfl rfl rfl rfl rfl (dbd_Type_ok k a0 a2.fSegment) (.inl rfl)) fun v3 => bind_end rfl) fun o4 => et k_assoc <| kr ⟨[(1, (I a1)), (3, (Pt 3)), (5, (Pt 5)), (8, (I o4.1)), (26, (Bo (o4.2 != 0)))], [(3, vS 4 (eBase a0)), (5, vS 3 (eArg a2))], 49⟩ rfl <| kc rfl rfl (fun hc => ?_) fun hc => ?_
      · rw [hc]
        refine et k_assoc <| kr ⟨[(6, (Sr ([65, 67] : Str))), (7, (I 0))], [], 49⟩ rfl <| et k_ret ?_
        rfl
      · rw [hc]
        refine et k_skip <| et k_assoc <| kr ⟨[(1, (I a1)), (3, (Pt 3)), (5, (Pt 5)), (8, (I o4.1)), (28, (Bo (decide (a1 ≥ 0))))], [(3, vS 4 (eBase a0)), (5, vS 3 (eArg a2))], 49⟩ rfl <| kc rfl rfl (fun hc => ?_) fun hc => ?_
        · rw [hc]
          refine et k_assoc <| kg f33a7 rfl (fun (o6 : Bool) => ⟨[(3, (Pt 3)), (5, (Pt 5)), (8, (I o4.1)), (10, (Bo o6))], [(3, vS 4 (eBase a0)), (5, vS 3 (eArg a2))], 49⟩) (rd 3 [(30, (eBase a0)), (31, (I a1)), (32, (I o4.1))] rfl rfl <| rp rfl (p_call rfl rfl rfl rfl rfl (dbd_IsAbove_ok k a0 a1 o4.1) (.inl rfl)) fun v5 => bind_end rfl) fun o6 => et k_assoc <| kr ⟨[(3, (Pt 3)), (5, (Pt 5)), (8, (I o4.1)), (37, (Bo (!o6)))], [(3, vS 4 (eBase a0)), (5, vS 3 (eArg a2))], 49⟩ rfl <| kc rfl rfl (fun hc => ?_) fun hc => ?_
          · rw [hc]
            refine et k_assoc <| kr ⟨[(6, (Sr ([65, 67] : Str))), (7, (I 0))], [], 49⟩ rfl <| et k_ret ?_
            rfl
          · rw [hc]
            refine et k_skip <| et k_assoc <| kg f33a10 rfl (fun (o8 : Bool) => ⟨[(8, (I o4.1)), (12, (Bo o8))], [], 49⟩) (rd 4 [(39, (eBase a0)), (40, (I o4.1)), (41, (V.ptr 5 0 2)), (42, (V.sl 0 1 (List.map sTerm a2.fWhen)))] rfl rfl <| rp rfl (p_call rfl rfl rfl rfl rfl (match_Valid_ok k a0 o4.1 a2.fWhen) (.inl rfl)) fun v7 => bind_end rfl) fun o8 => et k_assoc <| kr ⟨[(8, (I o4.1)), (47, (Bo (!o8)))], [], 49⟩ rfl <| kc rfl rfl (fun hc => ?_) fun hc => ?_
            · rw [hc]
              refine et k_assoc <| kr ⟨[(6, (Sr ([65, 75] : Str))), (7, (I 0))], [], 49⟩ rfl <| et k_ret ?_
              rfl
            · rw [hc]
              refine et k_skip <| kr ⟨[(6, (Sr ([32, 32] : Str))), (7, (I o4.1))], [], 49⟩ rfl <| et k_lret ?_
              rfl
        · rw [hc]
          refine et k_skip <| et k_assoc <| kg f33a10 rfl (fun (o10 : Bool) => ⟨[(8, (I o4.1)), (12, (Bo o10))], [], 49⟩) (rd 4 [(39, (eBase a0)), (40, (I o4.1)), (41, (V.ptr 5 0 2)), (42, (V.sl 0 1 (List.map sTerm a2.fWhen)))] rfl rfl <| rp rfl (p_call rfl rfl rfl rfl rfl (match_Valid_ok k a0 o4.1 a2.fWhen) (.inl rfl)) fun v9 => bind_end rfl) fun o10 => et k_assoc <| kr ⟨[(8, (I o4.1)), (47, (Bo (!o10)))], [], 49⟩ rfl <| kc rfl rfl (fun hc => ?_) fun hc => ?_
          · rw [hc]
            refine et k_assoc <| kr ⟨[(6, (Sr ([65, 75] : Str))), (7, (I 0))], [], 49⟩ rfl <| et k_ret ?_
            rfl
          · rw [hc]
            refine et k_skip <| kr ⟨[(6, (Sr ([32, 32] : Str))), (7, (I o4.1))], [], 49⟩ rfl <| et k_lret ?_
            rfl
def ssa_check_fin : (Str × (List Int)) → V × List V := fun r => (.tup [(Sr r.1), (sI r.2)], [])
theorem ssa_check_L1_ok (k : Nat) (a0 : T_api_Base) (a1 : (List T_api_Arg))  (K0 : Int → (List Int) → Int → Option (Str × (List Int))) (Kst : X × St → Option (V × List V)) (hK0 : ∀ (y0 : Int) (y1 : (List Int)) (y2 : Int), Kst (X.exit 0, ⟨[(2, (Pt 2)), (6, (I y0)), (7, (V.sl 1 1 (List.map I y1))), (15, (sArg a1)), (16, (I (a1.length : Int))), (17, (I y2)), (18, (Bo false))], [(2, vS 4 (eBase a0))], 38⟩) = (K0 y0 y1 y2).map ssa_check_fin) (hret : ∀ s, Kst (X.ret, s) = endK prog 38 [(eBase a0), (sArg a1)] [] [.tmp 4, .tmp 5] (X.ret, s)) :
    ∀ (m : Nat) (x7 : Int) (x8 : (List Int)) (x9 : Int), (iter (exec prog (EV k) f20n k f20b0) m ⟨[(2, (Pt 2)), (6, (I x7)), (7, (V.sl 1 1 (List.map I x8))), (15, (sArg a1)), (16, (I (a1.length : Int))), (17, (I x9))], [(2, vS 4 (eBase a0))], 38⟩).bind Kst = (ssa_check_L1 k a0 a1 K0 m x7 x8 x9).map ssa_check_fin := by
  intro m
  induction m with
  | zero => intros; rfl
  | succ m ih =>
    intro x7 x8 x9
    unfold ssa_check_L1
    refine et k_round <| kra [(18, (Bo (decide (x9 < (a1.length : Int)))))] rfl <| kc rfl rfl (fun hc => ?_) fun hc => ?_
    · rw [hc]
      refine et k_skip <| et (k_block rfl) <| kg f20a7 rfl (fun (o11 : T_api_Arg) => ⟨[(2, (Pt 2)), (6, (I x7)), (7, (V.sl 1 1 (List.map I x8))), (9, (Pt 9)), (15, (sArg a1)), (16, (I (a1.length : Int))), (17, (I x9))], [(2, vS 4 (eBase a0)), (9, vS 3 (eArg o11))], 38⟩) (rs rfl (p_index (e := eArg) rfl rfl rfl underlying26 rfl (by decide)) fun v10 => bind_end rfl) fun o11 => kg f20a8 rfl (fun (o13 : Str × Int) => ⟨[(2, (Pt 2)), (7, (V.sl 1 1 (List.map I x8))), (10, (Sr o13.1)), (11, (I o13.2)), (15, (sArg a1)), (16, (I (a1.length : Int))), (17, (I x9))], [(2, vS 4 (eBase a0))], 38⟩) (rd 3 [(22, (eBase a0)), (23, (I x7)), (24, (eArg o11))] rfl rfl <| rp rfl (p_call rfl rfl rfl rfl rfl (ssa_status_ok k a0 x7 o11) (.inl rfl)) fun v12 => bind_end rfl) fun o13 => et k_assoc <| kra [(29, (Bo (!(o13.1 == ([32, 32] : Str)))))] rfl <| kc rfl rfl (fun hc => ?_) fun hc => ?_
      · rw [hc]
        refine et k_assoc <| kr ⟨[(4, (Sr o13.1)), (5, (sI (([] : List Int))))], [], 38⟩ rfl <| et k_ret <| et blk_ret <| et loop_ret <| et (hret _) ?_
        rfl
      · rw [hc]
        exact et k_skip <| kr ⟨[(2, (Pt 2)), (6, (I o13.2)), (7, (V.sl 1 1 (List.map I x8))), (11, (I o13.2)), (15, (sArg a1)), (16, (I (a1.length : Int))), (17, (I x9))], [(2, vS 4 (eBase a0))], 38⟩ rfl <| kgl f20a12 rfl (fun (o15 : (List Int)) => ⟨[(2, (Pt 2)), (6, (I o13.2)), (7, (V.sl 1 1 (List.map I o15))), (15, (sArg a1)), (16, (I (a1.length : Int))), (17, (I x9))], [(2, vS 4 (eBase a0))], 38⟩) (ra 3 3 ⟨[(2, (Pt 2)), (6, (I o13.2)), (7, (sI x8)), (11, (I o13.2)), (15, (sArg a1)), (16, (I (a1.length : Int))), (17, (I x9)), (32, (V.sl 1 1 (List.map I x8))), (33, (I o13.2)), (34, (sI (([o13.2] : List Int))))], [(2, vS 4 (eBase a0))], 38⟩ rfl rfl rfl <| et (reg_eff (x := (app x8 ([o13.2] : List Int))) (w := fun v14 => ((V.sl 1 1 (List.map I v14)), _)) rfl rfl rfl rfl (p_app (e := I) rfl rfl rfl rfl rfl rfl rfl rfl rfl rfl (by decide))) <| bind_self fun v14 => bind_end rfl) fun o15 => et blk_normal <| kl ⟨[(2, (Pt 2)), (6, (I o13.2)), (7, (V.sl 1 1 (List.map I o15))), (15, (sArg a1)), (16, (I (a1.length : Int))), (17, (I (Go.IntKind.wrap .i64 (x9 + 1))))], [(2, vS 4 (eBase a0))], 38⟩ rfl <| et loop_normal <| ih o13.2 o15 (Go.IntKind.wrap .i64 (x9 + 1))
    · rw [hc]
      exact et k_exit <| et loop_exit <| hK0 x7 x8 x9
theorem ssa_check_ok (k : Nat) (a0 : T_api_Base) (a1 : (List T_api_Arg)) : EV k 20 [(eBase a0), (sArg a1)] = (ssa_check k a0 a1).map ssa_check_fin := by
  cases k with
  | zero => rfl
  | succ k =>
    unfold ssa_check
    refine et (evF_succ (c := f20c) (N := 38) (regs := f20n) rfl func20 rfl (by decide) rfl rfl rfl) <| kr ⟨[(1, (sArg a1)), (2, (Pt 2))], [(2, vS 4 (eBase a0))], 38⟩ rfl <| et k_assoc <| krp f20a1 rfl ⟨[(1, (sArg a1)), (2, (Pt 2)), (14, (Bo (decide ((a1.length : Int) > 5))))], [(2, vS 4 (eBase a0))], 38⟩ ?_ ?_
    · exact rd 1 [(12, (sArg a1))] rfl rfl <| rl rfl (p_len (e := eArg) rfl rfl rfl rfl rfl rfl underlying26) <| bind_end rfl
    refine kc rfl rfl (fun hc => ?_) fun hc => ?_
    · rw [hc]
      refine et k_assoc <| kr ⟨[(4, (Sr ([65, 74] : Str))), (5, (sI (([] : List Int))))], [], 38⟩ rfl <| et k_ret ?_
      rfl
    · rw [hc]
      refine et k_skip <| kr ⟨[(1, (sArg a1)), (2, (Pt 2)), (6, (I (-1)))], [(2, vS 4 (eBase a0))], 38⟩ rfl <| kra [(7, (V.sl 1 1 (List.map I ([] : List Int))))] rfl <| et k_assoc <| krp f20a5 rfl ⟨[(2, (Pt 2)), (6, (I (-1))), (7, (V.sl 1 1 (List.map I ([] : List Int)))), (15, (sArg a1)), (16, (I (a1.length : Int))), (17, (I 0))], [(2, vS 4 (eBase a0))], 38⟩ ?_ ?_
      · exact rd 1 [(15, (sArg a1))] rfl rfl <| rl rfl (p_len (e := eArg) rfl rfl rfl rfl rfl rfl underlying26) <| bind_end rfl
      refine et (k_block rfl) <| et k_loop ?_
      refine ssa_check_L1_ok k a0 a1 _ _ ?h_ssa_check_L1_0 ?hr_ssa_check_L1 k (-1) ([] : List Int) 0
      · intro y16 y17 y18
        refine et blk_exit <| kr ⟨[(4, (Sr ([32, 32] : Str))), (5, (sI y17))], [], 38⟩ rfl <| et k_lret ?_
        rfl
      · intro s; exact rfl
def ssa_Types_fin : ((List Int) × Int) → V × List V := fun r => (.tup [(sI r.1), (I r.2)], [])
theorem ssa_Types_ok (k : Nat) (a0 : T_api_Base) (a1 : (List T_api_Arg)) : EV k 11 [(eBase a0), (sArg a1)] = (ssa_Types k a0 a1).map ssa_Types_fin := by
  cases k with
  | zero => rfl
  | succ k =>
    unfold ssa_Types
    refine et (evF_succ (c := f11c) (N := 20) (regs := f11n) rfl func11 rfl (by decide) rfl rfl rfl) <| kr ⟨[(1, (sArg a1)), (2, (Pt 2))], [(2, vS 4 (eBase a0))], 20⟩ rfl <| et k_assoc <| kga f11a1 rfl (fun (o2 : Bool) => [(10, (Bo o2))]) (rd 1 [(8, (eBase a0))] rfl rfl <| rp rfl (p_call rfl rfl rfl rfl rfl (dbd_Valid_ok k a0) (.inl rfl)) fun v1 => bind_end rfl) fun o2 => kc rfl rfl (fun hc => ?_) fun hc => ?_
    · rw [hc]
      refine et k_assoc <| kr ⟨[(4, (sI (([] : List Int)))), (5, (I 100))], [], 20⟩ rfl <| et k_ret ?_
      rfl
    · rw [hc]
      refine et k_skip <| kg f11a3 rfl (fun (o4 : Str × (List Int)) => ⟨[(6, (Sr o4.1)), (7, (sI o4.2))], [], 20⟩) (rd 2 [(12, (eBase a0)), (13, (sArg a1))] rfl rfl <| rp rfl (p_call rfl rfl rfl rfl rfl (ssa_check_ok k a0 a1) (.inl rfl)) fun v3 => bind_end rfl) fun o4 => et k_assoc <| kr ⟨[(7, (sI o4.2)), (18, (Bo (!(o4.1 == ([32, 32] : Str)))))], [], 20⟩ rfl <| kc rfl rfl (fun hc => ?_) fun hc => ?_
      · rw [hc]
        refine et k_assoc <| kr ⟨[(4, (sI (([] : List Int)))), (5, (I 2))], [], 20⟩ rfl <| et k_ret ?_
        rfl
      · rw [hc]
        refine et k_skip <| kr ⟨[(4, (sI o4.2)), (5, (I 0))], [], 20⟩ rfl <| et k_lret ?_
        rfl
def strings_Repeat_fin : Str → V × List V := fun r => ((Sr r), [])
theorem strings_Repeat_ok (k : Nat) (s : Str) (n : Int) : EV k 23 [(Sr s), (I n)] = (strings_Repeat k s n).map strings_Repeat_fin := by
  cases k with
  | zero => rfl
  | succ k => exact (evF_ext (ext := ext) (f := 23) rfl).trans rfl
def slices_IndexFunc_TermLL_fin : Int → V × List V := fun r => ((I r), [])
theorem slices_IndexFunc_TermLL_L1_ok (k : Nat) (a0 : (List (List (List T_api_Term)))) (a1 : Nat → (List (List T_api_Term)) → Option Bool) (a1_fid : Go.FuncId) (a1_c0 : V) (a1_hok : ∀ j x0, EV j a1_fid [(V.sl 0 1 (List.map sTerm x0)), V.pro a1_c0] = (a1 j x0).map fun b => ((Bo b), [])) (K0 : Int → Option Int) (Kst : X × St → Option (V × List V)) (hK0 : ∀ (y0 : Int), Kst (X.exit 0, ⟨[(0, (V.sl 0 1 (List.map (fun x => (V.sl 0 1 (List.map sTerm x))) a0))), (1, (V.fn a1_fid [] [V.pro a1_c0])), (7, (I (a0.length : Int))), (8, (I y0)), (9, (Bo false))], [], 19⟩) = (K0 y0).map slices_IndexFunc_TermLL_fin) (hret : ∀ s, Kst (X.ret, s) = endK prog 19 [(V.sl 0 1 (List.map (fun x => (V.sl 0 1 (List.map sTerm x))) a0)), (V.fn a1_fid [] [V.pro a1_c0])] [] [.tmp 4] (X.ret, s)) :
    ∀ (m : Nat) (x4 : Int), (iter (exec prog (EV k) f81n k f81b0) m ⟨[(0, (V.sl 0 1 (List.map (fun x => (V.sl 0 1 (List.map sTerm x))) a0))), (1, (V.fn a1_fid [] [V.pro a1_c0])), (7, (I (a0.length : Int))), (8, (I x4))], [], 19⟩).bind Kst = (slices_IndexFunc_TermLL_L1 k a0 a1 K0 m x4).map slices_IndexFunc_TermLL_fin := by
  intro m
  induction m with
  | zero => intros; rfl
  | succ m ih =>
    intro x4
    unfold slices_IndexFunc_TermLL_L1
    refine et k_round <| kra [(9, (Bo (decide (x4 < (a0.length : Int)))))] rfl <| kc rfl rfl (fun hc => ?_) fun hc => ?_
    · rw [hc]
      refine et k_skip <| et (k_block rfl) <| kr ⟨[(0, (V.sl 0 1 (List.map (fun x => (V.sl 0 1 (List.map sTerm x))) a0))), (1, (V.fn a1_fid [] [V.pro a1_c0])), (5, (I x4)), (7, (I (a0.length : Int))), (8, (I x4))], [], 19⟩ rfl <| kga f81a4 rfl (fun (o7 : Bool) => [(16, (Bo o7))]) (rd 3 [(11, (V.fn a1_fid [] [V.pro a1_c0])), (12, (V.sl 0 1 (List.map (fun x => (V.sl 0 1 (List.map sTerm x))) a0))), (13, (I x4))] rfl rfl <| rp rfl (p_index (e := (fun x => (V.sl 0 1 (List.map sTerm x)))) rfl rfl rfl underlying109 rfl (by decide)) fun v5 => bd 5 [(14, (Pr (V.sl 0 1 (List.map sTerm v5)))), (15, (V.sl 0 1 (List.map sTerm v5)))] rfl rfl <| rs rfl (p_call rfl rfl rfl rfl rfl (a1_hok k v5) (.inl rfl)) fun v6 => bind_end rfl) fun o7 => kcl rfl rfl (fun hc => ?_) fun hc => ?_
      · rw [hc]
        refine kr ⟨[(4, (I x4))], [], 19⟩ rfl <| et k_lret <| et blk_ret <| et loop_ret <| et (hret _) ?_
        rfl
      · rw [hc]
        exact et k_lskip <| et blk_normal <| kl ⟨[(0, (V.sl 0 1 (List.map (fun x => (V.sl 0 1 (List.map sTerm x))) a0))), (1, (V.fn a1_fid [] [V.pro a1_c0])), (7, (I (a0.length : Int))), (8, (I (Go.IntKind.wrap .i64 (x4 + 1))))], [], 19⟩ rfl <| et loop_normal <| ih (Go.IntKind.wrap .i64 (x4 + 1))
    · rw [hc]
      exact et k_exit <| et loop_exit <| hK0 x4
theorem slices_IndexFunc_TermLL_ok (k : Nat) (a0 : (List (List (List T_api_Term)))) (a1 : Nat → (List (List T_api_Term)) → Option Bool) (a1_fid : Go.FuncId) (a1_c0 : V) (a1_hok : ∀ j x0, EV j a1_fid [(V.sl 0 1 (List.map sTerm x0)), V.pro a1_c0] = (a1 j x0).map fun b => ((Bo b), [])) : EV k 81 [(V.sl 0 1 (List.map (fun x => (V.sl 0 1 (List.map sTerm x))) a0)), (V.fn a1_fid [] [V.pro a1_c0])] = (slices_IndexFunc_TermLL k a0 a1).map slices_IndexFunc_TermLL_fin := by
  cases k with
  | zero => rfl
  | succ k =>
    unfold slices_IndexFunc_TermLL
    refine et (evF_succ (c := f81c) (N := 19) (regs := f81n) rfl func81 rfl (by decide) rfl rfl rfl) <| kra [] rfl <| et k_assoc <| krp f81a1 rfl ⟨[(0, (V.sl 0 1 (List.map (fun x => (V.sl 0 1 (List.map sTerm x))) a0))), (1, (V.fn a1_fid [] [V.pro a1_c0])), (7, (I (a0.length : Int))), (8, (I 0))], [], 19⟩ ?_ ?_
    · exact rd 1 [(6, (V.sl 0 1 (List.map (fun x => (V.sl 0 1 (List.map sTerm x))) a0)))] rfl rfl <| rl rfl (p_len (e := (fun x => (V.sl 0 1 (List.map sTerm x)))) rfl rfl rfl rfl rfl rfl underlying109) <| bind_end rfl
    refine et (k_block rfl) <| et k_loop ?_
    refine slices_IndexFunc_TermLL_L1_ok k a0 a1 a1_fid a1_c0 a1_hok _ _ ?h_slices_IndexFunc_TermLL_L1_0 ?hr_slices_IndexFunc_TermLL_L1 k 0
    · intro y8
      refine et blk_exit <| kr ⟨[(4, (I (-1)))], [], 19⟩ rfl <| et k_lret ?_
      rfl
    · intro s; exact rfl
def slices_ContainsFunc_TermLL_fin : Bool → V × List V := fun r => ((Bo r), [])
theorem slices_ContainsFunc_TermLL_ok (k : Nat) (a0 : (List (List (List T_api_Term)))) (a1 : Nat → (List (List T_api_Term)) → Option Bool) (a1_fid : Go.FuncId) (a1_c0 : V) (a1_hok : ∀ j x0, EV j a1_fid [(V.sl 0 1 (List.map sTerm x0)), V.pro a1_c0] = (a1 j x0).map fun b => ((Bo b), [])) : EV k 65 [(V.sl 0 1 (List.map (fun x => (V.sl 0 1 (List.map sTerm x))) a0)), (V.fn a1_fid [] [V.pro a1_c0])] = (slices_ContainsFunc_TermLL k a0 a1).map slices_ContainsFunc_TermLL_fin := by
  cases k with
  | zero => rfl
  | succ k =>
    unfold slices_ContainsFunc_TermLL
    refine et (evF_succ (c := f65c) (N := 9) (regs := f65n) rfl func65 rfl (by decide) rfl rfl rfl) <| kra [] rfl <| kg f65a1 rfl (fun (o2 : Bool) => ⟨[(4, (Bo o2))], [], 9⟩) (rd 2 [(5, (V.sl 0 1 (List.map (fun x => (V.sl 0 1 (List.map sTerm x))) a0))), (6, (V.fn a1_fid [] [V.pro a1_c0]))] rfl rfl <| rp rfl (p_call rfl rfl rfl rfl rfl (slices_IndexFunc_TermLL_ok k a0 a1 a1_fid a1_c0 a1_hok) (.inl rfl)) fun v1 => bind_end rfl) fun o2 => et k_lret ?_
    rfl
def match_conditions_1_fin : Bool → V × List V := fun r => ((Bo r), [])
theorem match_conditions_1_ok (k : Nat) (a0 : (List (List T_api_Term))) (a1 : T_api_Type) : EV k 66 [(V.sl 0 1 (List.map sTerm a0)), (Pr (eType a1))] = (match_conditions_1 k a0 a1).map match_conditions_1_fin := by
  cases k with
  | zero => rfl
  | succ k =>
    unfold match_conditions_1
    refine et (evF_succ (c := f66c) (N := 8) (regs := f66n) rfl func66 rfl (by decide) rfl rfl rfl) <| kra [] rfl <| kg f66a1 rfl (fun (o2 : Bool) => ⟨[(3, (Bo o2))], [], 8⟩) (rd 2 [(4, (eType a1)), (5, (V.sl 0 1 (List.map sTerm a0)))] rfl rfl <| rp rfl (p_call rfl rfl rfl rfl rfl (match_valid_ok k a1 a0) (.inl rfl)) fun v1 => bind_end rfl) fun o2 => et k_lret ?_
    rfl
def match_conditions_fin : (T_api_Type × Int) → V × List V := fun r => (.tup [(eType r.1), (I r.2)], [])
theorem match_conditions_ok (k : Nat) (a0 : T_api_Base) (a1 : Int) (a2 : (List (List (List T_api_Term)))) : EV k 43 [(eBase a0), (I a1), (V.sl 0 1 (List.map (fun x => (V.sl 0 1 (List.map sTerm x))) a2))] = (match_conditions k a0 a1 a2).map match_conditions_fin := by
  cases k with
  | zero => rfl
  | succ k =>
    unfold match_conditions
    refine et (evF_succ (c := f43c) (N := 27) (regs := f43n) rfl func43 rfl (by decide) rfl rfl rfl) <| kr ⟨[(1, (I a1)), (2, (V.sl 0 1 (List.map (fun x => (V.sl 0 1 (List.map sTerm x))) a2))), (3, (Pt 3)), (6, (Pt 6))], [(3, vS 4 (eBase a0)), (6, ⟨false, 8, [(V.agg [(Sr []), (I 0), (I 0), (I 0), (V.sl 2 3 (List.map eField ([] : List T_api_Field))), (I 0), (Bo false), (Bo false)])]⟩)], 27⟩ rfl <| et k_assoc <| kga f43a1 rfl (fun (o2 : Int) => [(8, (I o2))]) (rd 2 [(10, (eBase a0)), (11, (I a1))] rfl rfl <| rs rfl (p_call rfl rfl rfl rfl rfl (match_asked_ok k a0 a1) (.inl rfl)) fun v1 => bind_end rfl) fun o2 => et k_assoc <| kra [(14, (Bo (o2 != 0)))] rfl <| kc rfl rfl (fun hc => ?_) fun hc => ?_
    · rw [hc]
      refine et k_assoc <| kr ⟨[(6, (Pt 6)), (7, (I o2))], [(6, ⟨false, 8, [(eType ({ fName := [], fParent := 0, fMin := 0, fSize := 0, fFields := ([] : List T_api_Field), fKey := 0, fUnique := false, fLast := false } : T_api_Type))]⟩)], 27⟩ rfl <| et k_ret ?_
      rfl
    · rw [hc]
      refine et k_skip <| kg f43a4 rfl (fun (o4 : T_api_Type) => ⟨[(2, (V.sl 0 1 (List.map (fun x => (V.sl 0 1 (List.map sTerm x))) a2))), (6, (Pt 6)), (9, (Pt 9))], [(6, ⟨false, 8, [(V.agg [(Sr []), (I 0), (I 0), (I 0), (V.sl 2 3 (List.map eField ([] : List T_api_Field))), (I 0), (Bo false), (Bo false)])]⟩), (9, vS 8 (eType o4))], 27⟩) (rd 3 [(17, (V.ptr 3 0 2)), (18, (sType a0.fTypes)), (19, (I a1))] rfl rfl <| rs rfl (p_index (e := eType) rfl rfl rfl underlying22 rfl (by decide)) fun v3 => bind_end rfl) fun o4 => et k_assoc <| kg f43a5 rfl (fun (o6 : Bool) => ⟨[(6, (Pt 6)), (9, (Pt 9)), (24, (Bo o6))], [(6, ⟨false, 8, [(V.agg [(Sr []), (I 0), (I 0), (I 0), (V.sl 2 3 (List.map eField ([] : List T_api_Field))), (I 0), (Bo false), (Bo false)])]⟩), (9, vS 8 (eType o4))], 27⟩) (rd 2 [(22, (V.sl 0 1 (List.map (fun x => (V.sl 0 1 (List.map sTerm x))) a2))), (23, (V.fn 66 [] [(Pt 9)]))] rfl rfl <| rs rfl (p_call rfl rfl rfl rfl rfl (slices_ContainsFunc_TermLL_ok k a2 (fun j x0 => (match_conditions_1 j x0 o4)) 66 (eType o4) (fun j x0 => (match_conditions_1_ok j x0 o4))) (.inr (fun _ => rfl))) fun v5 => bind_end rfl) fun o6 => kc rfl rfl (fun hc => ?_) fun hc => ?_
      · rw [hc]
        refine et k_assoc <| kr ⟨[(6, (Pt 6)), (7, (I 110))], [(6, ⟨false, 8, [(eType ({ fName := [], fParent := 0, fMin := 0, fSize := 0, fFields := ([] : List T_api_Field), fKey := 0, fUnique := false, fLast := false } : T_api_Type))]⟩)], 27⟩ rfl <| et k_ret ?_
        rfl
      · rw [hc]
        refine et k_skip <| kr ⟨[(6, (Pt 6)), (7, (I 0))], [(6, vS 8 (eType o4))], 27⟩ rfl <| et k_lret ?_
        rfl
def match_sign_fin : Str → V × List V := fun r => ((Sr r), [])
theorem match_sign_ok (k : Nat) (a0 : Int) : EV k 44 [(I a0)] = (match_sign k a0).map match_sign_fin := by
  cases k with
  | zero => rfl
  | succ k =>
    unfold match_sign
    refine et (evF_succ (c := f44c) (N := 7) (regs := f44n) rfl func44 rfl (by decide) rfl rfl rfl) <| kra [] rfl <| kg f44a1 rfl (fun (o2 : Str) => ⟨[(2, (Sr o2))], [], 7⟩) (rd 3 [(3, (eStr ({ e0 := ([61, 32] : Str), e1 := ([60, 62] : Str), e2 := ([60, 32] : Str), e3 := ([60, 61] : Str), e4 := ([62, 32] : Str), e5 := ([62, 61] : Str) } : T_arr6_Str))), (4, (I a0)), (5, (I (Go.IntKind.wrap .i64 (a0 - 1))))] rfl rfl <| rs rfl (p_indexArr (l := ([({ e0 := ([61, 32] : Str), e1 := ([60, 62] : Str), e2 := ([60, 32] : Str), e3 := ([60, 61] : Str), e4 := ([62, 32] : Str), e5 := ([62, 61] : Str) } : T_arr6_Str).e0, ({ e0 := ([61, 32] : Str), e1 := ([60, 62] : Str), e2 := ([60, 32] : Str), e3 := ([60, 61] : Str), e4 := ([62, 32] : Str), e5 := ([62, 61] : Str) } : T_arr6_Str).e1, ({ e0 := ([61, 32] : Str), e1 := ([60, 62] : Str), e2 := ([60, 32] : Str), e3 := ([60, 61] : Str), e4 := ([62, 32] : Str), e5 := ([62, 61] : Str) } : T_arr6_Str).e2, ({ e0 := ([61, 32] : Str), e1 := ([60, 62] : Str), e2 := ([60, 32] : Str), e3 := ([60, 61] : Str), e4 := ([62, 32] : Str), e5 := ([62, 61] : Str) } : T_arr6_Str).e3, ({ e0 := ([61, 32] : Str), e1 := ([60, 62] : Str), e2 := ([60, 32] : Str), e3 := ([60, 61] : Str), e4 := ([62, 32] : Str), e5 := ([62, 61] : Str) } : T_arr6_Str).e4, ({ e0 := ([61, 32] : Str), e1 := ([60, 62] : Str), e2 := ([60, 32] : Str), e3 := ([60, 61] : Str), e4 := ([62, 32] : Str), e5 := ([62, 61] : Str) } : T_arr6_Str).e5] : List Str)) (e := V.str) rfl rfl rfl underlying112 rfl rfl rfl rfl) fun v1 => bind_end rfl) fun o2 => et k_lret ?_
    rfl
def strings_Join_fin : Str → V × List V := fun r => (Sr r, [])
theorem strings_Join_ok (k : Nat) (s : List Str) (n : Str) : EV k 45 [(sS s), (Sr n)] = (strings_Join k s n).map strings_Join_fin := by
  cases k with
  | zero => rfl
  | succ k => exact (evF_ext (ext := ext) (f := 45) rfl).trans (extStrJoin_map s n)
def match_Format_fin : (Str × Int) → V × List V := fun r => (.tup [(Sr r.1), (I r.2)], [])
theorem match_Format_L2_ok (k : Nat) (a0 : T_api_Base) (a1 : Int) (a2 : (List (List T_api_Term))) (x30 : (List Str)) (x31 : Int) (o33 : (List T_api_Term))  (K0 : Int → (List Str) → Option (Str × Int)) (Kst : X × St → Option (V × List V)) (hK0 : ∀ (y0 : Int) (y1 : (List Str)), Kst (X.exit 2, ⟨[(10, (V.sl 1 1 (List.map V.str x30))), (13, (aL 13 V.str y1)), (27, (V.sl 0 1 (List.map sTerm a2))), (28, (I (a2.length : Int))), (29, (I x31)), (33, (sTerm o33)), (34, (I (o33.length : Int))), (35, (I y0)), (36, (Bo false))], [(13, ⟨true, 1, List.map V.str y1⟩)], 66⟩) = (K0 y0 y1).map match_Format_fin) (hret : ∀ s, Kst (X.ret, s) = endK prog 66 [(eBase a0), (I a1), (V.sl 0 1 (List.map sTerm a2))] [] [.tmp 6, .tmp 7] (X.ret, s)) :
    ∀ (m : Nat) (x43 : Int) (x44 : (List Str)), (iter (exec prog (EV k) f24n k f24b0) m ⟨[(10, (V.sl 1 1 (List.map V.str x30))), (13, (aL 13 V.str x44)), (27, (V.sl 0 1 (List.map sTerm a2))), (28, (I (a2.length : Int))), (29, (I x31)), (33, (sTerm o33)), (34, (I (o33.length : Int))), (35, (I x43))], [(13, ⟨true, 1, List.map V.str x44⟩)], 66⟩).bind Kst = (match_Format_L2 k o33 K0 m x43 x44).map match_Format_fin := by
  intro m
  induction m with
  | zero => intros; rfl
  | succ m ih =>
    intro x43 x44
    unfold match_Format_L2
    refine et k_round <| kra [(36, (Bo (decide (x43 < (o33.length : Int)))))] rfl <| kc rfl rfl (fun hc => ?_) fun hc => ?_
    · rw [hc]
      exact et k_skip <| et (k_block rfl) <| kg f24a11 rfl (fun (o46 : T_api_Term) => ⟨[(10, (V.sl 1 1 (List.map V.str x30))), (13, (aL 13 V.str x44)), (15, (Pt 15)), (27, (V.sl 0 1 (List.map sTerm a2))), (28, (I (a2.length : Int))), (29, (I x31)), (33, (sTerm o33)), (34, (I (o33.length : Int))), (35, (I x43))], [(13, ⟨true, 1, List.map V.str x44⟩), (15, vS 3 (eTerm o46))], 66⟩) (rs rfl (p_index (e := eTerm) rfl rfl rfl underlying54 rfl (by decide)) fun v45 => bind_end rfl) fun o46 => kdl f24a12 rfl (fun (o53 : (List Str)) => ⟨[(10, (V.sl 1 1 (List.map V.str x30))), (13, (aL 13 V.str o53)), (27, (V.sl 0 1 (List.map sTerm a2))), (28, (I (a2.length : Int))), (29, (I x31)), (33, (sTerm o33)), (34, (I (o33.length : Int))), (35, (I x43))], [(13, ⟨true, 1, List.map V.str o53⟩)], 66⟩) (et (regionE_regp (p := 17) (dk := true) (t := [(10, (V.sl 1 1 (List.map V.str x30))), (13, (aL 13 V.str x44)), (15, (Pt 15)), (27, (V.sl 0 1 (List.map sTerm a2))), (28, (I (a2.length : Int))), (29, (I x31)), (33, (sTerm o33)), (34, (I (o33.length : Int))), (35, (I x43))]) (σ := [(13, ⟨true, 1, List.map V.str x44⟩), (15, vS 3 (eTerm o46))]) (n := 66) rfl (by decide) (by decide) rfl) <| et (regp_adv (m := 7) (j := 7) (t' := [(10, (V.sl 1 1 (List.map V.str x30))), (13, (aL 13 V.str x44)), (15, (Pt 15)), (27, (V.sl 0 1 (List.map sTerm a2))), (28, (I (a2.length : Int))), (29, (I x31)), (33, (sTerm o33)), (34, (I (o33.length : Int))), (35, (I x43)), (39, (aL 13 V.str x44)), (40, (Pt 15)), (41, (Sr o46.fField)), (42, (Pt 15)), (43, (Sr o46.fField)), (44, (I (o46.fField.length : Int))), (45, (I (Go.IntKind.wrap .i64 (8 - (o46.fField.length : Int)))))]) rfl rfl rfl) <| et (regp_pure (x := (strings_Repeat k ([32] : Str) (Go.IntKind.wrap .i64 (8 - (o46.fField.length : Int))))) (w := fun v47 => (Sr v47)) rfl rfl rfl rfl rfl (p_call rfl rfl rfl rfl rfl (strings_Repeat_ok k ([32] : Str) (Go.IntKind.wrap .i64 (8 - (o46.fField.length : Int)))) (.inl rfl))) <| bindE fun v47 => et (putp_adv (m := 0) (j := 8) (t' := [(10, (V.sl 1 1 (List.map V.str x30))), (13, (aL 13 V.str x44)), (15, (Pt 15)), (27, (V.sl 0 1 (List.map sTerm a2))), (28, (I (a2.length : Int))), (29, (I x31)), (33, (sTerm o33)), (34, (I (o33.length : Int))), (35, (I x43)), (39, (aL 13 V.str x44)), (40, (Pt 15)), (41, (Sr o46.fField)), (42, (Pt 15)), (43, (Sr o46.fField)), (44, (I (o46.fField.length : Int))), (45, (I (Go.IntKind.wrap .i64 (8 - (o46.fField.length : Int))))), (46, (Sr v47))]) rfl rfl rfl) <| et (regp_pure (x := (cat o46.fField v47)) (w := fun v48 => (Sr v48)) rfl rfl rfl rfl rfl (p_cat rfl rfl rfl)) <| bindE fun v48 => et (putp_adv (m := 2) (j := 11) (t' := [(10, (V.sl 1 1 (List.map V.str x30))), (13, (aL 13 V.str x44)), (15, (Pt 15)), (27, (V.sl 0 1 (List.map sTerm a2))), (28, (I (a2.length : Int))), (29, (I x31)), (33, (sTerm o33)), (34, (I (o33.length : Int))), (35, (I x43)), (39, (aL 13 V.str x44)), (40, (Pt 15)), (41, (Sr o46.fField)), (42, (Pt 15)), (43, (Sr o46.fField)), (44, (I (o46.fField.length : Int))), (45, (I (Go.IntKind.wrap .i64 (8 - (o46.fField.length : Int))))), (46, (Sr v47)), (47, (Sr v48)), (48, (V.ptr 15 0 1)), (49, (I o46.fOp))]) rfl rfl rfl) <| et (regp_pure (x := (match_sign k o46.fOp)) (w := fun v49 => (Sr v49)) rfl rfl rfl rfl rfl (p_call rfl rfl rfl rfl rfl (match_sign_ok k o46.fOp) (.inl rfl))) <| bindE fun v49 => et (putp_adv (m := 0) (j := 12) (t' := [(10, (V.sl 1 1 (List.map V.str x30))), (13, (aL 13 V.str x44)), (15, (Pt 15)), (27, (V.sl 0 1 (List.map sTerm a2))), (28, (I (a2.length : Int))), (29, (I x31)), (33, (sTerm o33)), (34, (I (o33.length : Int))), (35, (I x43)), (39, (aL 13 V.str x44)), (40, (Pt 15)), (41, (Sr o46.fField)), (42, (Pt 15)), (43, (Sr o46.fField)), (44, (I (o46.fField.length : Int))), (45, (I (Go.IntKind.wrap .i64 (8 - (o46.fField.length : Int))))), (46, (Sr v47)), (47, (Sr v48)), (48, (V.ptr 15 0 1)), (49, (I o46.fOp)), (50, (Sr v49))]) rfl rfl rfl) <| et (regp_pure (x := (cat v48 v49)) (w := fun v50 => (Sr v50)) rfl rfl rfl rfl rfl (p_cat rfl rfl rfl)) <| bindE fun v50 => et (putp_adv (m := 2) (j := 15) (t' := [(10, (V.sl 1 1 (List.map V.str x30))), (13, (aL 13 V.str x44)), (15, (Pt 15)), (27, (V.sl 0 1 (List.map sTerm a2))), (28, (I (a2.length : Int))), (29, (I x31)), (33, (sTerm o33)), (34, (I (o33.length : Int))), (35, (I x43)), (39, (aL 13 V.str x44)), (40, (Pt 15)), (41, (Sr o46.fField)), (42, (Pt 15)), (43, (Sr o46.fField)), (44, (I (o46.fField.length : Int))), (45, (I (Go.IntKind.wrap .i64 (8 - (o46.fField.length : Int))))), (46, (Sr v47)), (47, (Sr v48)), (48, (V.ptr 15 0 1)), (49, (I o46.fOp)), (50, (Sr v49)), (51, (Sr v50)), (52, (V.ptr 15 0 2)), (53, (Sr o46.fValue))]) rfl rfl rfl) <| et (regp_pure (x := (cat v50 o46.fValue)) (w := fun v51 => (Sr v51)) rfl rfl rfl rfl rfl (p_cat rfl rfl rfl)) <| bindE fun v51 => et (regp_reg (m := 0) (j := 17) (st' := ⟨[(10, (V.sl 1 1 (List.map V.str x30))), (13, (aL 13 V.str x44)), (15, (Pt 15)), (27, (V.sl 0 1 (List.map sTerm a2))), (28, (I (a2.length : Int))), (29, (I x31)), (33, (sTerm o33)), (34, (I (o33.length : Int))), (35, (I x43)), (39, (aL 13 V.str x44)), (40, (Pt 15)), (41, (Sr o46.fField)), (42, (Pt 15)), (43, (Sr o46.fField)), (44, (I (o46.fField.length : Int))), (45, (I (Go.IntKind.wrap .i64 (8 - (o46.fField.length : Int))))), (46, (Sr v47)), (47, (Sr v48)), (48, (V.ptr 15 0 1)), (49, (I o46.fOp)), (50, (Sr v49)), (51, (Sr v50)), (52, (V.ptr 15 0 2)), (53, (Sr o46.fValue)), (54, (Sr v51)), (55, (sS (([v51] : List Str))))], [(13, ⟨true, 1, List.map V.str x44⟩), (15, vS 3 (eTerm o46))], 66⟩) rfl rfl rfl) <| et (reg_eff (x := (app x44 ([v51] : List Str))) (w := fun v52 => ((aL 13 V.str v52), _)) rfl rfl rfl rfl (p_appF (e := V.str) (l := x44) rfl rfl rfl rfl rfl rfl rfl rfl rfl rfl rfl (of_decide_eq_true rfl))) <| bind_self fun v52 => bind_end rfl) fun o53 => et blk_normal <| kl ⟨[(10, (V.sl 1 1 (List.map V.str x30))), (13, (aL 13 V.str o53)), (27, (V.sl 0 1 (List.map sTerm a2))), (28, (I (a2.length : Int))), (29, (I x31)), (33, (sTerm o33)), (34, (I (o33.length : Int))), (35, (I (Go.IntKind.wrap .i64 (x43 + 1))))], [(13, ⟨true, 1, List.map V.str o53⟩)], 66⟩ rfl <| et loop_normal <| ih (Go.IntKind.wrap .i64 (x43 + 1)) o53
    · rw [hc]
      exact et k_exit <| et loop_exit <| hK0 x43 x44
theorem match_Format_L1_ok (k : Nat) (a0 : T_api_Base) (a1 : Int) (a2 : (List (List T_api_Term)))  (K0 : (List Str) → Int → Option (Str × Int)) (Kst : X × St → Option (V × List V)) (hK0 : ∀ (y0 : (List Str)) (y1 : Int), Kst (X.exit 0, ⟨[(10, (V.sl 1 1 (List.map V.str y0))), (27, (V.sl 0 1 (List.map sTerm a2))), (28, (I (a2.length : Int))), (29, (I y1)), (30, (Bo false))], [], 66⟩) = (K0 y0 y1).map match_Format_fin) (hret : ∀ s, Kst (X.ret, s) = endK prog 66 [(eBase a0), (I a1), (V.sl 0 1 (List.map sTerm a2))] [] [.tmp 6, .tmp 7] (X.ret, s)) :
    ∀ (m : Nat) (x30 : (List Str)) (x31 : Int), (iter (exec prog (EV k) f24n k f24b1) m ⟨[(10, (V.sl 1 1 (List.map V.str x30))), (27, (V.sl 0 1 (List.map sTerm a2))), (28, (I (a2.length : Int))), (29, (I x31))], [], 66⟩).bind Kst = (match_Format_L1 k a2 K0 m x30 x31).map match_Format_fin := by
  intro m
  induction m with
  | zero => intros; rfl
  | succ m ih =>
    intro x30 x31
    unfold match_Format_L1
    refine et k_round <| kra [(30, (Bo (decide (x31 < (a2.length : Int)))))] rfl <| kc rfl rfl (fun hc => ?_) fun hc => ?_
    · rw [hc]
      refine et k_skip <| et (k_block rfl) <| kg f24a7 rfl (fun (o33 : (List T_api_Term)) => ⟨[(10, (V.sl 1 1 (List.map V.str x30))), (12, (sTerm o33)), (27, (V.sl 0 1 (List.map sTerm a2))), (28, (I (a2.length : Int))), (29, (I x31))], [], 66⟩) (rs rfl (p_index (e := sTerm) rfl rfl rfl underlying39 rfl (by decide)) fun v32 => bind_end rfl) fun o33 => kr ⟨[(10, (V.sl 1 1 (List.map V.str x30))), (12, (sTerm o33)), (13, (aL 13 V.str ([] : List Str))), (27, (V.sl 0 1 (List.map sTerm a2))), (28, (I (a2.length : Int))), (29, (I x31))], [(13, ⟨true, 1, List.map V.str ([] : List Str)⟩)], 66⟩ rfl <| et k_assoc <| krp f24a9 rfl ⟨[(10, (V.sl 1 1 (List.map V.str x30))), (13, (aL 13 V.str ([] : List Str))), (27, (V.sl 0 1 (List.map sTerm a2))), (28, (I (a2.length : Int))), (29, (I x31)), (33, (sTerm o33)), (34, (I (o33.length : Int))), (35, (I 0))], [(13, ⟨true, 1, List.map V.str ([] : List Str)⟩)], 66⟩ ?_ ?_
      · exact rd 1 [(33, (sTerm o33))] rfl rfl <| rl rfl (p_len (e := eTerm) rfl rfl rfl rfl rfl rfl underlying54) <| bind_end rfl
      refine et (k_block rfl) <| et k_loop ?_
      refine match_Format_L2_ok k a0 a1 a2 x30 x31 o33 _ _ ?h_match_Format_L2_0 ?hr_match_Format_L2 k 0 ([] : List Str)
      · intro y54 y55
        exact et blk_exit <| kgl f24a14 rfl (fun (o58 : (List Str)) => ⟨[(10, (V.sl 1 1 (List.map V.str o58))), (27, (V.sl 0 1 (List.map sTerm a2))), (28, (I (a2.length : Int))), (29, (I x31))], [], 66⟩) (ra 2 2 ⟨[(10, (sS x30)), (13, (aL 13 V.str y55)), (27, (V.sl 0 1 (List.map sTerm a2))), (28, (I (a2.length : Int))), (29, (I x31)), (33, (sTerm o33)), (34, (I (o33.length : Int))), (35, (I y54)), (36, (Bo false)), (58, (V.sl 1 1 (List.map V.str x30))), (59, (aL 13 V.str y55))], [(13, ⟨true, 1, List.map V.str y55⟩)], 66⟩ rfl rfl rfl <| rp rfl (p_call rfl rfl rfl rfl (argsL (lendA (e := V.str) rfl) (by intro s i q h; cases h) (argsL rfl (by intro s i q h; cases h) rfl)) (strings_Join_ok k y55 ([38] : Str)) (.inr (fun _ => rfl))) fun v56 => bd 4 [(60, (Sr v56)), (61, (sS (([v56] : List Str))))] rfl rfl <| et (reg_eff (x := (app x30 ([v56] : List Str))) (w := fun v57 => ((V.sl 1 1 (List.map V.str v57)), _)) rfl rfl rfl rfl (p_app (e := V.str) rfl rfl rfl rfl rfl rfl rfl rfl rfl rfl (by decide))) <| bind_self fun v57 => bind_end rfl) fun o58 => et blk_normal <| kl ⟨[(10, (V.sl 1 1 (List.map V.str o58))), (27, (V.sl 0 1 (List.map sTerm a2))), (28, (I (a2.length : Int))), (29, (I (Go.IntKind.wrap .i64 (x31 + 1))))], [], 66⟩ rfl <| et loop_normal <| ih o58 (Go.IntKind.wrap .i64 (x31 + 1))
      · intro s; exact hret s
    · rw [hc]
      exact et k_exit <| et loop_exit <| hK0 x30 x31
theorem match_Format_ok (k : Nat) (a0 : T_api_Base) (a1 : Int) (a2 : (List (List T_api_Term))) : EV k 24 [(eBase a0), (I a1), (V.sl 0 1 (List.map sTerm a2))] = (match_Format k a0 a1 a2).map match_Format_fin := by
  cases k with
  | zero => rfl
  | succ k =>
    unfold match_Format
    refine et (evF_succ (c := f24c) (N := 66) (regs := f24n) rfl func24 rfl (by decide) rfl rfl rfl) <| kr ⟨[(1, (I a1)), (2, (V.sl 0 1 (List.map sTerm a2))), (3, (Pt 3))], [(3, vS 4 (eBase a0))], 66⟩ rfl <| et k_assoc <| kg f24a1 rfl (fun (o2 : Int) => ⟨[(2, (V.sl 0 1 (List.map sTerm a2))), (9, (I o2))], [], 66⟩) (rd 4 [(17, (eBase a0)), (18, (I a1)), (19, (V.sl 0 1 (List.map sTerm a2))), (20, (V.sl 0 1 (List.map (fun x => (V.sl 0 1 (List.map sTerm x))) ([a2] : List (List (List T_api_Term))))))] rfl rfl <| rp rfl (p_call rfl rfl rfl rfl rfl (match_conditions_ok k a0 a1 ([a2] : List (List (List T_api_Term)))) (.inl rfl)) fun v1 => bind_end rfl) fun o2 => et k_assoc <| kra [(25, (Bo (o2 != 0)))] rfl <| kc rfl rfl (fun hc => ?_) fun hc => ?_
    · rw [hc]
      refine et k_assoc <| kr ⟨[(6, (Sr ([] : Str))), (7, (I o2))], [], 66⟩ rfl <| et k_ret ?_
      rfl
    · rw [hc]
      refine et k_skip <| kr ⟨[(2, (V.sl 0 1 (List.map sTerm a2))), (10, (V.sl 1 1 (List.map V.str ([] : List Str))))], [], 66⟩ rfl <| et k_assoc <| krp f24a5 rfl ⟨[(10, (V.sl 1 1 (List.map V.str ([] : List Str)))), (27, (V.sl 0 1 (List.map sTerm a2))), (28, (I (a2.length : Int))), (29, (I 0))], [], 66⟩ ?_ ?_
      · exact rd 1 [(27, (V.sl 0 1 (List.map sTerm a2)))] rfl rfl <| rl rfl (p_len (e := sTerm) rfl rfl rfl rfl rfl rfl underlying39) <| bind_end rfl
      refine et (k_block rfl) <| et k_loop ?_
      refine match_Format_L1_ok k a0 a1 a2 _ _ ?h_match_Format_L1_0 ?hr_match_Format_L1 k ([] : List Str) 0
      · intro y59 y60
        refine et blk_exit <| kg f24a16 rfl (fun (o62 : Str × Int) => ⟨[(6, (Sr o62.1)), (7, (I o62.2))], [], 66⟩) (rd 1 [(64, (sS y59))] rfl rfl <| rp rfl (p_call rfl rfl rfl rfl rfl (strings_Join_ok k y59 ([124] : Str)) (.inl rfl)) fun v61 => bind_end rfl) fun o62 => et k_lret ?_
        rfl
      · intro s; exact rfl
def ssa_Format_fin : (Str × Int) → V × List V := fun r => (.tup [(Sr r.1), (I r.2)], [])
end
end Go.AE
