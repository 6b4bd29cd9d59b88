/- The program, function by function: the evaluator comes to the typed functions. Conditions: none. -/
import Derived.Test.YtgpblbjceghpjaaA3
import Derived.KernelRfl
import Derived.Test.YtgpblbjceghpjaaProg
import Derived.Test.YtgpblbjceghpjaaB1
namespace Go.AE
open Go.Proofs.Try Go.Sh
set_option linter.unusedSimpArgs false
set_option linter.unusedVariables false
set_option maxRecDepth 100000
set_option maxHeartbeats 4000000
noncomputable section
abbrev Pt (n : Nat) : V := .ptr n 0 0
abbrev Bo (b : Bool) : V := .bool b
abbrev Sr (s : Str) : V := .str s
abbrev Pr (v : V) : V := .pro v
abbrev sS (l : List Str) : V := .sl 0 1 (List.map V.str l)
abbrev vS (n : Nat) (v : V) : Site := ⟨false, n, [v]⟩
abbrev aL {α : Type} (d : Nat) (e : α → V) (l : List α) : V := .aref d 0 (List.map e l).length
def eTerm (a : T_api_Term) : V := .agg [(V.str a.fField), (V.int .i64 a.fOp), (V.str a.fValue)]
def eField (a : T_api_Field) : V := .agg [(V.str a.fName), (V.int .i64 a.fAt), (V.int .i64 a.fBytes)]
def eType (a : T_api_Type) : V := .agg [(V.str a.fName), (V.int .i64 a.fParent), (V.int .i64 a.fMin), (V.int .i64 a.fSize), (V.sl 0 3 (List.map eField a.fFields)), (V.int .i64 a.fKey), (V.bool a.fUnique), (V.bool a.fLast)]
def eSearch (a : T_api_Search) : V := .agg [(V.str a.fName), (V.int .i64 a.fType), (V.int .i64 a.fField), (V.str a.fSparse)]
def eBase (a : T_api_Base) : V := .agg [(V.str a.fName), (V.int .i64 a.fKind), (V.sl 0 8 (List.map eType a.fTypes)), (V.sl 0 4 (List.map eSearch a.fIndexes))]
def eStr (a : T_arr6_Str) : V := .agg [(V.str a.e0), (V.str a.e1), (V.str a.e2), (V.str a.e3), (V.str a.e4), (V.str a.e5)]
def f101a4 : RAnn := ⟨[10, 11, 12, 13, 14, 15, 16, 17, 18, 19], []⟩
def f101a5 : RAnn := ⟨[3, 4, 20, 21, 22, 23, 24, 25, 26, 27, 28, 29, 30, 31, 32, 33, 34, 35, 36], []⟩
def f101a8 : RAnn := ⟨[0, 6, 7, 8, 39, 40, 41, 42, 43, 44, 45, 46], []⟩
noncomputable def f101b0 : Code := (.seq (.region 2 (oN f101 69) false) (.seq (.cond (.tmp 8) .skip (.exit 0)) (.seq (.block 1 (.seq (.region 3 (oN f101 1125) false) (.seq (.region 4 (oN f101 2661) false) (.seq (.region 5 (oN f101 5733) false) (.cond (.tmp 37) (.seq (.region 6 (oN f101 20069) false) .ret) .skip))))) (.region 7 (oN f101 485) false))))
noncomputable def f101c : Code := (.seq (.region 0 (oN f101 2) false) (.seq (.seq (.region 1 (oN f101 9) false) (.block 0 (.loop f101b0))) (.seq (.region 8 (oN f101 11) false) .ret)))
def f101n : List (Nat × RAnn) := [(0, ⟨[2], []⟩), (1, ⟨[5], []⟩), (2, ⟨[], []⟩), (3, ⟨[8, 9], []⟩), (4, f101a4), (5, f101a5), (6, ⟨[0, 6, 7, 37], []⟩), (7, ⟨[37, 38], []⟩), (8, f101a8)]
def f68a1 : RAnn := ⟨[6], []⟩
def f68a4 : RAnn := ⟨[11, 12, 13, 14, 15], []⟩
noncomputable def f68b0 : Code := (.seq (.region 2 (oN f68 69) false) (.seq (.cond (.tmp 9) .skip (.exit 0)) (.seq (.block 1 (.seq (.region 3 (oN f68 1125) false) (.seq (.region 4 (oN f68 2661) false) (.cond (.tmp 16) (.seq (.region 5 (oN f68 9829) false) .ret) .skip)))) (.region 6 (oN f68 485) false))))
noncomputable def f68c : Code := (.seq (.region 0 (oN f68 2) false) (.seq (.seq (.region 1 (oN f68 9) false) (.block 0 (.loop f68b0))) (.seq (.region 7 (oN f68 11) false) .ret)))
def f68n : List (Nat × RAnn) := [(0, ⟨[4], []⟩), (1, f68a1), (2, ⟨[], []⟩), (3, ⟨[9, 10], []⟩), (4, f68a4), (5, ⟨[0, 1, 5, 7, 8, 16, 17], []⟩), (6, ⟨[5, 16, 18], []⟩), (7, ⟨[0, 1, 7, 8, 9], []⟩)]
def f118a1 : RAnn := ⟨[0, 1, 5, 6, 7, 8], []⟩
noncomputable def f118c : Code := (.seq (.region 0 (oN f118 2) false) (.seq (.region 1 (oN f118 5) false) .ret))
def f118n : List (Nat × RAnn) := [(0, ⟨[4], []⟩), (1, f118a1)]
noncomputable def f119c : Code := (.seq (.region 0 (oN f119 2) false) (.seq (.region 1 (oN f119 5) false) .ret))
def f119n : List (Nat × RAnn) := [(0, ⟨[0, 3], []⟩), (1, ⟨[1, 2, 4, 5, 6, 7, 8], []⟩)]
def f115a1 : RAnn := ⟨[], []⟩
def f115a3 : RAnn := ⟨[10, 11, 12, 13], []⟩
def f115a4 : RAnn := ⟨[14, 15, 16, 17, 18, 19, 20, 21, 22, 23, 24, 25, 26, 27, 28, 29, 30, 31, 32, 33, 34, 35, 36, 37, 38, 39, 40, 41], []⟩
def f115a6 : RAnn := ⟨[5, 6, 42, 43, 44, 45, 46], []⟩
def f115a9 : RAnn := ⟨[0, 1, 7, 8, 9, 10, 49, 50, 51], []⟩
noncomputable def f115b0 : Code := (.seq (.region 2 (oN f115 69) false) (.seq (.cond (.tmp 10) .skip (.exit 0)) (.seq (.block 1 (.seq (.region 3 (oN f115 1125) false) (.seq (.seq (.region 4 (oN f115 4709) false) (.cond (.tmp 42) (.seq (.region 5 (oN f115 19045) false) .ret) .skip)) (.seq (.region 6 (oN f115 5733) false) (.cond (.tmp 47) (.seq (.region 7 (oN f115 20069) false) .ret) .skip))))) (.region 8 (oN f115 485) false))))
noncomputable def f115c : Code := (.seq (.region 0 (oN f115 2) false) (.seq (.seq (.region 1 (oN f115 9) false) (.block 0 (.loop f115b0))) (.seq (.region 9 (oN f115 11) false) .ret)))
def f115n : List (Nat × RAnn) := [(0, ⟨[4], []⟩), (1, f115a1), (2, ⟨[], []⟩), (3, f115a3), (4, f115a4), (5, ⟨[0, 1, 5, 6, 7, 8, 9, 42], []⟩), (6, f115a6), (7, ⟨[0, 1, 7, 8, 9, 47], []⟩), (8, ⟨[47, 48], []⟩), (9, f115a9)]
def f109a1 : RAnn := ⟨[4, 5, 6, 7, 8, 9, 10, 11, 12, 13, 14, 15, 16, 17, 18, 19, 20, 21, 22, 23, 24, 25, 26, 27, 28, 29, 30, 31, 32], []⟩
def f109a5 : RAnn := ⟨[33, 41, 42, 43, 44, 45, 46, 47, 48, 49, 50, 51], []⟩
def f109a7 : RAnn := ⟨[1, 40, 52, 53, 54, 55, 56, 57, 58, 59, 60, 61, 62, 63, 64, 65, 66, 67, 68, 69], []⟩
noncomputable def f109c : Code := (.seq (.region 0 (oN f109 2) false) (.seq (.block 0 (.seq (.region 1 (oN f109 17) false) (.cond (.tmp 3) (.seq (.region 2 (oN f109 73) false) .ret) (.seq (.region 3 (oN f109 89) false) (.cond (.tmp 33) (.seq (.region 4 (oN f109 313) false) .ret) (.seq (.region 5 (oN f109 377) false) (.cond (.tmp 40) (.seq (.region 6 (oN f109 1273) false) .ret) .skip))))))) (.seq (.region 7 (oN f109 11) true) .ret)))
def f109n : List (Nat × RAnn) := [(0, ⟨[0, 2], []⟩), (1, f109a1), (2, ⟨[1, 3], []⟩), (3, ⟨[3, 34, 35, 36], []⟩), (4, ⟨[1, 33, 37, 38, 39], []⟩), (5, f109a5), (6, ⟨[1, 40], []⟩), (7, f109a7)]
def f116a1 : RAnn := ⟨[6], []⟩
def f116a4 : RAnn := ⟨[11, 12, 13, 14, 15], []⟩
noncomputable def f116b0 : Code := (.seq (.region 2 (oN f116 69) false) (.seq (.cond (.tmp 9) .skip (.exit 0)) (.seq (.block 1 (.seq (.region 3 (oN f116 1125) false) (.seq (.region 4 (oN f116 2661) false) (.cond (.tmp 16) (.seq (.region 5 (oN f116 9829) false) .ret) .skip)))) (.region 6 (oN f116 485) false))))
noncomputable def f116c : Code := (.seq (.region 0 (oN f116 2) false) (.seq (.seq (.region 1 (oN f116 9) false) (.block 0 (.loop f116b0))) (.seq (.region 7 (oN f116 11) false) .ret)))
def f116n : List (Nat × RAnn) := [(0, ⟨[4], []⟩), (1, f116a1), (2, ⟨[], []⟩), (3, ⟨[9, 10], []⟩), (4, f116a4), (5, ⟨[0, 1, 5, 7, 8, 16, 17], []⟩), (6, ⟨[5, 16, 18], []⟩), (7, ⟨[0, 1, 7, 8, 9], []⟩)]
def f110a1 : RAnn := ⟨[0, 1, 5, 6, 7, 8], []⟩
noncomputable def f110c : Code := (.seq (.region 0 (oN f110 2) false) (.seq (.region 1 (oN f110 5) false) .ret))
def f110n : List (Nat × RAnn) := [(0, ⟨[4], []⟩), (1, f110a1)]
noncomputable def f111c : Code := (.seq (.region 0 (oN f111 2) false) (.seq (.region 1 (oN f111 5) false) .ret))
def f111n : List (Nat × RAnn) := [(0, ⟨[0, 3], []⟩), (1, ⟨[1, 2, 4, 5, 6, 7, 8], []⟩)]
def f112a1 : RAnn := ⟨[6], []⟩
def f112a4 : RAnn := ⟨[11, 12, 13, 14, 15], []⟩
noncomputable def f112b0 : Code := (.seq (.region 2 (oN f112 69) false) (.seq (.cond (.tmp 9) .skip (.exit 0)) (.seq (.block 1 (.seq (.region 3 (oN f112 1125) false) (.seq (.region 4 (oN f112 2661) false) (.cond (.tmp 16) (.seq (.region 5 (oN f112 9829) false) .ret) .skip)))) (.region 6 (oN f112 485) false))))
noncomputable def f112c : Code := (.seq (.region 0 (oN f112 2) false) (.seq (.seq (.region 1 (oN f112 9) false) (.block 0 (.loop f112b0))) (.seq (.region 7 (oN f112 11) false) .ret)))
def f112n : List (Nat × RAnn) := [(0, ⟨[4], []⟩), (1, f112a1), (2, ⟨[], []⟩), (3, ⟨[9, 10], []⟩), (4, f112a4), (5, ⟨[0, 1, 5, 7, 8, 16, 17], []⟩), (6, ⟨[5, 16, 18], []⟩), (7, ⟨[0, 1, 7, 8, 9], []⟩)]
def f102a1 : RAnn := ⟨[7, 8, 9, 10, 11, 12, 13], []⟩
def f102a4 : RAnn := ⟨[], []⟩
def f102a6 : RAnn := ⟨[18, 19, 20, 21], []⟩
def f102a7 : RAnn := ⟨[22, 23, 24, 25, 26, 27, 28, 29, 30], []⟩
def f102a9 : RAnn := ⟨[31, 32, 33, 34, 35], []⟩
def f102a10 : RAnn := ⟨[5, 36, 37, 38, 39, 40, 41, 42, 43, 44, 45, 46, 47, 48, 49, 50, 51, 52, 53, 54, 55, 56, 57, 58, 59, 60, 61, 62, 63, 64, 65, 66, 67, 68, 69], []⟩
def f102a12 : RAnn := ⟨[4, 6, 70, 71, 72, 73, 74, 75, 76, 77], []⟩
def f102a13 : RAnn := ⟨[78, 79], []⟩
noncomputable def f102b0 : Code := (.seq (.region 5 (oN f102 279) false) (.seq (.cond (.tmp 18) .skip (.exit 0)) (.seq (.block 1 (.seq (.region 6 (oN f102 4503) false) (.seq (.seq (.region 7 (oN f102 18839) false) (.cond (.tmp 31) (.seq (.region 8 (oN f102 76183) false) .ret) .skip)) (.seq (.region 9 (oN f102 22935) false) (.seq (.seq (.region 10 (oN f102 80279) false) (.cond (.tmp 70) (.seq (.region 11 (oN f102 309655) false) .ret) .skip)) (.seq (.region 12 (oN f102 96663) false) (.seq (.region 13 (oN f102 194967) false) (.cond (.tmp 80) (.seq (.region 14 (oN f102 653719) false) .ret) .skip)))))))) (.region 15 (oN f102 1943) false))))
noncomputable def f102c : Code := (.seq (.region 0 (oN f102 2) false) (.seq (.seq (.region 1 (oN f102 9) false) (.cond (.tmp 14) (.seq (.region 2 (oN f102 37) false) .ret) .skip)) (.seq (.region 3 (oN f102 11) false) (.seq (.seq (.region 4 (oN f102 39) false) (.block 0 (.loop f102b0))) (.seq (.region 16 (oN f102 47) false) .ret)))))
def f102n : List (Nat × RAnn) := [(0, ⟨[2], []⟩), (1, f102a1), (2, ⟨[0, 14], []⟩), (3, ⟨[14], [(0, { site := true })]⟩), (4, f102a4), (5, ⟨[], []⟩), (6, f102a6), (7, f102a7), (8, ⟨[0, 3, 4, 5, 15, 16, 17, 31], []⟩), (9, f102a9), (10, f102a10), (11, ⟨[0, 3, 4, 6, 15, 16, 17, 70], []⟩), (12, f102a12), (13, f102a13), (14, ⟨[0, 3, 15, 16, 17, 80], []⟩), (15, ⟨[80, 81], []⟩), (16, ⟨[0, 3, 15, 16, 17, 18], []⟩)]
def f117a1 : RAnn := ⟨[6], []⟩
def f117a4 : RAnn := ⟨[11, 12, 13, 14, 15], []⟩
noncomputable def f117b0 : Code := (.seq (.region 2 (oN f117 69) false) (.seq (.cond (.tmp 9) .skip (.exit 0)) (.seq (.block 1 (.seq (.region 3 (oN f117 1125) false) (.seq (.region 4 (oN f117 2661) false) (.cond (.tmp 16) (.seq (.region 5 (oN f117 9829) false) .ret) .skip)))) (.region 6 (oN f117 485) false))))
noncomputable def f117c : Code := (.seq (.region 0 (oN f117 2) false) (.seq (.seq (.region 1 (oN f117 9) false) (.block 0 (.loop f117b0))) (.seq (.region 7 (oN f117 11) false) .ret)))
def f117n : List (Nat × RAnn) := [(0, ⟨[4], []⟩), (1, f117a1), (2, ⟨[], []⟩), (3, ⟨[9, 10], []⟩), (4, f117a4), (5, ⟨[0, 1, 5, 7, 8, 16, 17], []⟩), (6, ⟨[5, 16, 18], []⟩), (7, ⟨[0, 1, 7, 8, 9], []⟩)]
def f113a1 : RAnn := ⟨[0, 1, 5, 6, 7, 8], []⟩
noncomputable def f113c : Code := (.seq (.region 0 (oN f113 2) false) (.seq (.region 1 (oN f113 5) false) .ret))
def f113n : List (Nat × RAnn) := [(0, ⟨[4], []⟩), (1, f113a1)]
noncomputable def f114c : Code := (.seq (.region 0 (oN f114 2) false) (.seq (.region 1 (oN f114 5) false) .ret))
def f114n : List (Nat × RAnn) := [(0, ⟨[0, 3], []⟩), (1, ⟨[1, 2, 4, 5, 6, 7, 8], []⟩)]
def f103a1 : RAnn := ⟨[], []⟩
def f103a3 : RAnn := ⟨[11, 12, 13, 14], []⟩
def f103a4 : RAnn := ⟨[5, 15, 16, 17, 18, 19, 20, 21, 22, 23, 24, 25, 26, 27, 28, 29, 30, 31, 32, 33, 34, 35, 36, 37, 38, 39, 40, 41, 42], []⟩
def f103a6 : RAnn := ⟨[43, 44, 45, 46, 47, 48, 49], []⟩
def f103a7 : RAnn := ⟨[6, 7, 50, 51, 52, 53, 54, 55, 56, 57, 58, 59, 60, 61, 62, 63, 64, 65, 66, 67], []⟩
def f103a10 : RAnn := ⟨[0, 1, 8, 9, 10, 11, 70, 71, 72], []⟩
noncomputable def f103b0 : Code := (.seq (.region 2 (oN f103 69) false) (.seq (.cond (.tmp 11) .skip (.exit 0)) (.seq (.block 1 (.seq (.region 3 (oN f103 1125) false) (.seq (.seq (.region 4 (oN f103 4709) false) (.cond (.tmp 43) (.seq (.region 5 (oN f103 19045) false) .ret) .skip)) (.seq (.region 6 (oN f103 5733) false) (.seq (.region 7 (oN f103 11877) false) (.cond (.tmp 68) (.seq (.region 8 (oN f103 40549) false) .ret) .skip)))))) (.region 9 (oN f103 485) false))))
noncomputable def f103c : Code := (.seq (.region 0 (oN f103 2) false) (.seq (.seq (.region 1 (oN f103 9) false) (.block 0 (.loop f103b0))) (.seq (.region 10 (oN f103 11) false) .ret)))
def f103n : List (Nat × RAnn) := [(0, ⟨[4], []⟩), (1, f103a1), (2, ⟨[], []⟩), (3, f103a3), (4, f103a4), (5, ⟨[0, 1, 6, 8, 9, 10, 43], []⟩), (6, f103a6), (7, f103a7), (8, ⟨[0, 1, 8, 9, 10, 68], []⟩), (9, ⟨[68, 69], []⟩), (10, f103a10)]
def f90a1 : RAnn := ⟨[1, 3, 4, 5, 6, 7, 8, 9, 10, 11, 12, 13, 14, 15, 16, 17, 18, 19, 20, 21, 22, 23, 24, 25, 26, 27], []⟩
noncomputable def f90c : Code := (.seq (.region 0 (oN f90 2) false) (.seq (.region 1 (oN f90 5) false) .ret))
def f90n : List (Nat × RAnn) := [(0, ⟨[0, 2], []⟩), (1, f90a1)]
def f104a1 : RAnn := ⟨[6], []⟩
def f104a4 : RAnn := ⟨[11, 12, 13, 14, 15], []⟩
noncomputable def f104b0 : Code := (.seq (.region 2 (oN f104 69) false) (.seq (.cond (.tmp 9) .skip (.exit 0)) (.seq (.block 1 (.seq (.region 3 (oN f104 1125) false) (.seq (.region 4 (oN f104 2661) false) (.cond (.tmp 16) (.seq (.region 5 (oN f104 9829) false) .ret) .skip)))) (.region 6 (oN f104 485) false))))
noncomputable def f104c : Code := (.seq (.region 0 (oN f104 2) false) (.seq (.seq (.region 1 (oN f104 9) false) (.block 0 (.loop f104b0))) (.seq (.region 7 (oN f104 11) false) .ret)))
def f104n : List (Nat × RAnn) := [(0, ⟨[4], []⟩), (1, f104a1), (2, ⟨[], []⟩), (3, ⟨[9, 10], []⟩), (4, f104a4), (5, ⟨[0, 1, 5, 7, 8, 16, 17], []⟩), (6, ⟨[5, 16, 18], []⟩), (7, ⟨[0, 1, 7, 8, 9], []⟩)]
def f91a1 : RAnn := ⟨[0, 1, 5, 6, 7, 8], []⟩
noncomputable def f91c : Code := (.seq (.region 0 (oN f91 2) false) (.seq (.region 1 (oN f91 5) false) .ret))
def f91n : List (Nat × RAnn) := [(0, ⟨[4], []⟩), (1, f91a1)]
def f92a1 : RAnn := ⟨[0, 1, 4, 5, 6, 7, 8, 9, 10, 11, 12], []⟩
noncomputable def f92c : Code := (.seq (.region 0 (oN f92 2) false) (.seq (.region 1 (oN f92 5) false) .ret))
def f92n : List (Nat × RAnn) := [(0, ⟨[3], []⟩), (1, f92a1)]
def f66a1 : RAnn := ⟨[6, 7, 8], []⟩
def f66a3 : RAnn := ⟨[1, 2, 5, 10, 11, 12], []⟩
noncomputable def f66c : Code := (.seq (.region 0 (oN f66 2) false) (.seq (.block 0 (.seq (.region 1 (oN f66 17) false) (.cond (.tmp 5) (.seq (.region 2 (oN f66 73) false) .ret) (.seq (.region 3 (oN f66 89) false) (.cond (.tmp 9) (.seq (.region 4 (oN f66 313) false) .ret) .skip))))) (.seq (.region 5 (oN f66 11) false) .ret)))
def f66n : List (Nat × RAnn) := [(0, ⟨[0, 4], []⟩), (1, f66a1), (2, ⟨[1, 2, 5], []⟩), (3, f66a3), (4, ⟨[9], []⟩), (5, ⟨[9], []⟩)]
def f100a3 : RAnn := ⟨[8, 9, 10, 11, 12, 13], []⟩
def f100a4 : RAnn := ⟨[7, 14, 15, 16, 17], []⟩
def f100a5 : RAnn := ⟨[1, 2, 7, 18, 19], [(1, { eff := true })]⟩
def f100a6 : RAnn := ⟨[5, 20], [(1, { close := true })]⟩
noncomputable def f100b0 : Code := (.seq (.seq (.region 2 (oN f100 131) false) (.cond (.tmp 7) .skip (.exit 0))) (.seq (.block 1 (.region 4 (oN f100 291) false)) (.region 3 (oN f100 227) false)))
noncomputable def f100c : Code := (.seq (.region 0 (oN f100 2) false) (.seq (.region 1 (oN f100 5) false) (.seq (.block 0 (.loop f100b0)) (.seq (.region 5 (oN f100 23) false) (.seq (.region 6 (oN f100 47) false) .ret)))))
def f100n : List (Nat × RAnn) := [(0, ⟨[0, 4], []⟩), (1, ⟨[], [(0, { site := true })]⟩), (2, ⟨[6], []⟩), (3, f100a3), (4, f100a4), (5, f100a5), (6, f100a6)]
def f85a1 : RAnn := ⟨[7, 8, 9, 10], []⟩
def f85a4 : RAnn := ⟨[1, 2, 6, 12, 14, 15, 16], []⟩
noncomputable def f85c : Code := (.seq (.region 0 (oN f85 2) false) (.seq (.seq (.region 1 (oN f85 9) false) (.seq (.region 2 (oN f85 21) false) (.cond (.tmp 12) (.seq (.region 3 (oN f85 77) false) .ret) .skip))) (.seq (.region 4 (oN f85 11) false) .ret)))
def f85n : List (Nat × RAnn) := [(0, ⟨[0, 4, 5], []⟩), (1, f85a1), (2, ⟨[11], []⟩), (3, ⟨[1, 2, 6, 12, 13], []⟩), (4, f85a4)]
def f60a1 : RAnn := ⟨[1, 2, 8, 9, 10, 11, 12, 13], []⟩
def f60a2 : RAnn := ⟨[6, 7, 14, 15, 16], []⟩
noncomputable def f60c : Code := (.seq (.region 0 (oN f60 2) false) (.seq (.region 1 (oN f60 5) false) (.seq (.region 2 (oN f60 11) false) .ret)))
def f60n : List (Nat × RAnn) := [(0, ⟨[0, 4, 5], []⟩), (1, f60a1), (2, f60a2)]
def f33a1 : RAnn := ⟨[1, 2, 5, 7, 8, 9, 10, 11, 12], []⟩
noncomputable def f33c : Code := (.seq (.region 0 (oN f33 2) false) (.seq (.region 1 (oN f33 5) false) (.seq (.region 2 (oN f33 11) false) .ret)))
def f33n : List (Nat × RAnn) := [(0, ⟨[0, 4], []⟩), (1, f33a1), (2, ⟨[6, 13], []⟩)]
def f84a1 : RAnn := ⟨[6], []⟩
def f84a4 : RAnn := ⟨[11, 12, 13, 14, 15], []⟩
noncomputable def f84b0 : Code := (.seq (.region 2 (oN f84 69) false) (.seq (.cond (.tmp 9) .skip (.exit 0)) (.seq (.block 1 (.seq (.region 3 (oN f84 1125) false) (.seq (.region 4 (oN f84 2661) false) (.cond (.tmp 16) (.seq (.region 5 (oN f84 9829) false) .ret) .skip)))) (.region 6 (oN f84 485) false))))
noncomputable def f84c : Code := (.seq (.region 0 (oN f84 2) false) (.seq (.seq (.region 1 (oN f84 9) false) (.block 0 (.loop f84b0))) (.seq (.region 7 (oN f84 11) false) .ret)))
def f84n : List (Nat × RAnn) := [(0, ⟨[4], []⟩), (1, f84a1), (2, ⟨[], []⟩), (3, ⟨[9, 10], []⟩), (4, f84a4), (5, ⟨[0, 1, 5, 7, 8, 16, 17], []⟩), (6, ⟨[5, 16, 18], []⟩), (7, ⟨[0, 1, 7, 8, 9], []⟩)]
def f58a1 : RAnn := ⟨[0, 1, 5, 6, 7, 8], []⟩
noncomputable def f58c : Code := (.seq (.region 0 (oN f58 2) false) (.seq (.region 1 (oN f58 5) false) .ret))
def f58n : List (Nat × RAnn) := [(0, ⟨[4], []⟩), (1, f58a1)]
def f72a1 : RAnn := ⟨[6], []⟩
def f72a4 : RAnn := ⟨[11, 12, 13, 14, 15], []⟩
noncomputable def f72b0 : Code := (.seq (.region 2 (oN f72 69) false) (.seq (.cond (.tmp 9) .skip (.exit 0)) (.seq (.block 1 (.seq (.region 3 (oN f72 1125) false) (.seq (.region 4 (oN f72 2661) false) (.cond (.tmp 16) (.seq (.region 5 (oN f72 9829) false) .ret) .skip)))) (.region 6 (oN f72 485) false))))
noncomputable def f72c : Code := (.seq (.region 0 (oN f72 2) false) (.seq (.seq (.region 1 (oN f72 9) false) (.block 0 (.loop f72b0))) (.seq (.region 7 (oN f72 11) false) .ret)))
def f72n : List (Nat × RAnn) := [(0, ⟨[4], []⟩), (1, f72a1), (2, ⟨[], []⟩), (3, ⟨[9, 10], []⟩), (4, f72a4), (5, ⟨[0, 1, 5, 7, 8, 16, 17], []⟩), (6, ⟨[5, 16, 18], []⟩), (7, ⟨[0, 1, 7, 8, 9], []⟩)]
def f44a1 : RAnn := ⟨[0, 1, 5, 6, 7, 8], []⟩
noncomputable def f44c : Code := (.seq (.region 0 (oN f44 2) false) (.seq (.region 1 (oN f44 5) false) .ret))
def f44n : List (Nat × RAnn) := [(0, ⟨[4], []⟩), (1, f44a1)]
def f71a1 : RAnn := ⟨[6], []⟩
def f71a4 : RAnn := ⟨[11, 12, 13, 14, 15], []⟩
noncomputable def f71b0 : Code := (.seq (.region 2 (oN f71 69) false) (.seq (.cond (.tmp 9) .skip (.exit 0)) (.seq (.block 1 (.seq (.region 3 (oN f71 1125) false) (.seq (.region 4 (oN f71 2661) false) (.cond (.tmp 16) (.seq (.region 5 (oN f71 9829) false) .ret) .skip)))) (.region 6 (oN f71 485) false))))
noncomputable def f71c : Code := (.seq (.region 0 (oN f71 2) false) (.seq (.seq (.region 1 (oN f71 9) false) (.block 0 (.loop f71b0))) (.seq (.region 7 (oN f71 11) false) .ret)))
def f71n : List (Nat × RAnn) := [(0, ⟨[4], []⟩), (1, f71a1), (2, ⟨[], []⟩), (3, ⟨[9, 10], []⟩), (4, f71a4), (5, ⟨[0, 1, 5, 7, 8, 16, 17], []⟩), (6, ⟨[5, 16, 18], []⟩), (7, ⟨[0, 1, 7, 8, 9], []⟩)]
def f42a1 : RAnn := ⟨[0, 1, 5, 6, 7, 8], []⟩
noncomputable def f42c : Code := (.seq (.region 0 (oN f42 2) false) (.seq (.region 1 (oN f42 5) false) .ret))
def f42n : List (Nat × RAnn) := [(0, ⟨[4], []⟩), (1, f42a1)]
noncomputable def f69c : Code := (.seq (.region 0 (oN f69 2) false) (.seq (.region 1 (oN f69 5) false) .ret))
def f69n : List (Nat × RAnn) := [(0, ⟨[0, 3], []⟩), (1, ⟨[1, 2, 4, 5, 6, 7], []⟩)]
def f39a1 : RAnn := ⟨[2, 3, 7, 8, 9, 10], []⟩
noncomputable def f39c : Code := (.seq (.region 0 (oN f39 2) false) (.seq (.region 1 (oN f39 5) false) (.seq (.region 2 (oN f39 11) false) .ret)))
def f39n : List (Nat × RAnn) := [(0, ⟨[0, 1, 4, 5], []⟩), (1, f39a1), (2, ⟨[6, 11, 12, 13], []⟩)]
def f63a1 : RAnn := ⟨[7, 8, 9, 10, 11, 12, 13], []⟩
def f63a2 : RAnn := ⟨[2, 3, 5, 6, 14, 15, 16, 17, 18, 19, 20, 21, 22, 23, 24, 25, 26, 27, 28, 29, 30, 31, 32, 33, 34, 35, 36], []⟩
noncomputable def f63c : Code := (.seq (.region 0 (oN f63 2) false) (.seq (.region 1 (oN f63 5) false) (.seq (.region 2 (oN f63 11) true) .ret)))
def f63n : List (Nat × RAnn) := [(0, ⟨[0, 1, 4], []⟩), (1, f63a1), (2, f63a2)]
def f62a1 : RAnn := ⟨[1, 2, 4, 5, 6, 7], []⟩
noncomputable def f62c : Code := (.seq (.region 0 (oN f62 2) false) (.seq (.region 1 (oN f62 5) false) .ret))
def f62n : List (Nat × RAnn) := [(0, ⟨[0, 3], []⟩), (1, f62a1)]
def f61a1 : RAnn := ⟨[0, 1, 4, 5, 6, 7, 8, 9, 10, 11, 12, 13, 14, 15, 16], []⟩
noncomputable def f61c : Code := (.seq (.region 0 (oN f61 2) false) (.seq (.region 1 (oN f61 5) false) .ret))
def f61n : List (Nat × RAnn) := [(0, ⟨[3], []⟩), (1, f61a1)]
def f34a1 : RAnn := ⟨[1, 2, 5, 6, 7, 8, 9, 10, 11, 12, 13], []⟩
noncomputable def f34c : Code := (.seq (.region 0 (oN f34 2) false) (.seq (.region 1 (oN f34 5) false) .ret))
def f34n : List (Nat × RAnn) := [(0, ⟨[0, 4], []⟩), (1, f34a1)]
def f59a1 : RAnn := ⟨[0, 1, 4, 5, 6, 7], []⟩
noncomputable def f59c : Code := (.seq (.region 0 (oN f59 2) false) (.seq (.region 1 (oN f59 5) false) .ret))
def f59n : List (Nat × RAnn) := [(0, ⟨[3], []⟩), (1, f59a1)]
def f29a1 : RAnn := ⟨[10, 11, 12], []⟩
def f29a4 : RAnn := ⟨[1, 3, 8, 14, 17, 18, 19, 20, 21], []⟩
def f29a5 : RAnn := ⟨[2, 22, 23], []⟩
noncomputable def f29c : Code := (.seq (.region 0 (oN f29 2) false) (.seq (.seq (.region 1 (oN f29 9) false) (.seq (.region 2 (oN f29 21) false) (.cond (.tmp 14) (.seq (.region 3 (oN f29 77) false) .ret) .skip))) (.seq (.region 4 (oN f29 11) false) (.seq (.seq (.region 5 (oN f29 39) false) (.cond (.tmp 24) (.seq (.region 6 (oN f29 151) false) .ret) .skip)) (.seq (.region 7 (oN f29 47) false) .ret)))))
def f29n : List (Nat × RAnn) := [(0, ⟨[0, 7], []⟩), (1, f29a1), (2, ⟨[13], []⟩), (3, ⟨[1, 2, 3, 8, 14, 15, 16], []⟩), (4, f29a4), (5, f29a5), (6, ⟨[9, 24, 25], []⟩), (7, ⟨[9, 24, 26], []⟩)]
def f56a1 : RAnn := ⟨[0, 3, 4, 5, 6], []⟩
noncomputable def f56c : Code := (.seq (.region 0 (oN f56 2) false) (.seq (.region 1 (oN f56 5) false) .ret))
def f56n : List (Nat × RAnn) := [(0, ⟨[2], []⟩), (1, f56a1)]
def f28a1 : RAnn := ⟨[1, 3, 8, 16, 17, 18, 19, 20, 21, 22, 23], []⟩
def f28a5 : RAnn := ⟨[2], []⟩
def f28a7 : RAnn := ⟨[30, 31, 32], []⟩
def f28a9 : RAnn := ⟨[12], []⟩
def f28a11 : RAnn := ⟨[36, 37, 38], []⟩
def f28a12 : RAnn := ⟨[15, 39, 40, 41, 42, 43, 44, 45, 46, 47, 48, 49, 50, 51, 52, 53, 54, 55, 56], [(18, { eff := true })]⟩
def f28a14 : RAnn := ⟨[13, 33, 34, 35, 36, 58, 59, 60, 61, 62], [(0, { tk := [10], keep := [0] }), (4, { tk := [58], keep := [0] }), (5, { tk := [62], keep := [0] })]⟩
def f28a16 : RAnn := ⟨[10, 27, 28, 29, 30, 64, 65], []⟩
noncomputable def f28b0 : Code := (.seq (.region 10 (oN f28 285079) false) (.seq (.cond (.tmp 36) .skip (.exit 2)) (.seq (.block 3 (.seq (.region 11 (oN f28 4610455) false) (.region 12 (oN f28 6707607) true))) (.region 13 (oN f28 1989015) false))))
noncomputable def f28b1 : Code := (.seq (.region 6 (oN f28 279) false) (.seq (.cond (.tmp 30) .skip (.exit 0)) (.seq (.block 1 (.seq (.region 7 (oN f28 4503) false) (.seq (.region 8 (oN f28 10647) false) (.seq (.seq (.region 9 (oN f28 39319) false) (.block 2 (.loop f28b0))) (.region 14 (oN f28 31127) false))))) (.region 15 (oN f28 1943) false))))
noncomputable def f28c : Code := (.seq (.region 0 (oN f28 2) false) (.seq (.seq (.region 1 (oN f28 9) false) (.seq (.region 2 (oN f28 21) false) (.cond (.tmp 25) (.seq (.region 3 (oN f28 77) false) .ret) .skip))) (.seq (.region 4 (oN f28 11) false) (.seq (.seq (.region 5 (oN f28 39) false) (.block 0 (.loop f28b1))) (.seq (.region 16 (oN f28 47) false) .ret)))))
def f28n : List (Nat × RAnn) := [(0, ⟨[0, 6, 7], []⟩), (1, f28a1), (2, ⟨[24], []⟩), (3, ⟨[2, 9, 25, 26], []⟩), (4, ⟨[9, 25], [(0, { keep := [0] })]⟩), (5, f28a5), (6, ⟨[], []⟩), (7, f28a7), (8, ⟨[], [(0, { site := true })]⟩), (9, f28a9), (10, ⟨[], []⟩), (11, f28a11), (12, f28a12), (13, ⟨[57], []⟩), (14, f28a14), (15, ⟨[63], []⟩), (16, f28a16)]
def f30a1 : RAnn := ⟨[1, 10, 11], []⟩
def f30a2 : RAnn := ⟨[2], []⟩
def f30a4 : RAnn := ⟨[15, 16, 17], []⟩
def f30a6 : RAnn := ⟨[21, 22, 23, 24, 25, 26, 27, 28, 29, 30, 31, 32, 33], []⟩
def f30a8 : RAnn := ⟨[34, 39, 40, 41, 42, 43, 44, 45, 46, 47, 48, 49, 50], []⟩
noncomputable def f30b0 : Code := (.seq (.region 3 (oN f30 139) false) (.seq (.cond (.tmp 15) .skip (.exit 0)) (.seq (.block 1 (.seq (.region 4 (oN f30 2251) false) (.seq (.seq (.region 5 (oN f30 9419) false) (.cond (.tmp 21) (.exit 1) .skip)) (.seq (.seq (.region 6 (oN f30 19659) false) (.cond (.tmp 34) (.region 7 (oN f30 44235) false) .skip)) (.seq (.region 8 (oN f30 23755) false) (.cond (.tmp 51) (.region 9 (oN f30 48331) false) .skip)))))) (.region 10 (oN f30 971) false))))
noncomputable def f30c : Code := (.seq (.region 0 (oN f30 2) false) (.seq (.region 1 (oN f30 5) false) (.seq (.seq (.region 2 (oN f30 19) false) (.block 0 (.loop f30b0))) (.seq (.region 11 (oN f30 23) false) .ret))))
def f30n : List (Nat × RAnn) := [(0, ⟨[7], []⟩), (1, f30a1), (2, f30a2), (3, ⟨[], []⟩), (4, f30a4), (5, ⟨[18, 19, 20], []⟩), (6, f30a6), (7, ⟨[34, 35, 36, 37, 38], []⟩), (8, f30a8), (9, ⟨[9, 51, 52, 53, 54, 55], []⟩), (10, ⟨[9, 21, 51, 56], []⟩), (11, ⟨[0, 12, 13, 14, 15, 57, 58], []⟩)]
def f11a1 : RAnn := ⟨[1, 3, 16, 17, 18, 19, 20, 21, 22, 23], []⟩
def f11a6 : RAnn := ⟨[9, 28, 32, 33, 34, 35, 36, 37], []⟩
def f11a7 : RAnn := ⟨[], []⟩
def f11a9 : RAnn := ⟨[41, 42, 43, 44], []⟩
def f11a10 : RAnn := ⟨[13, 45, 46, 47, 48, 49, 50, 51, 52, 53], []⟩
def f11a15 : RAnn := ⟨[2, 38, 39, 40, 41, 65, 66], []⟩
def f11a16 : RAnn := ⟨[11, 67, 68, 69, 70, 71, 72, 73, 74, 75], []⟩
noncomputable def f11b0 : Code := (.seq (.region 8 (oN f11 559) false) (.seq (.cond (.tmp 41) .skip (.exit 1)) (.seq (.block 2 (.seq (.region 9 (oN f11 9007) false) (.seq (.region 10 (oN f11 21295) false) (.seq (.seq (.region 11 (oN f11 78639) false) (.cond (.tmp 55) (.region 12 (oN f11 176943) false) .skip)) (.region 13 (oN f11 62255) false))))) (.region 14 (oN f11 3887) false))))
noncomputable def f11c : Code := (.seq (.region 0 (oN f11 2) false) (.seq (.region 1 (oN f11 5) false) (.seq (.block 0 (.seq (.region 2 (oN f11 35) false) (.cond (.tmp 24) (.seq (.region 3 (oN f11 147) false) .ret) (.seq (.region 4 (oN f11 179) false) (.cond (.tmp 28) (.seq (.region 5 (oN f11 627) false) .ret) .skip))))) (.seq (.region 6 (oN f11 23) false) (.seq (.seq (.region 7 (oN f11 79) false) (.block 1 (.loop f11b0))) (.seq (.seq (.region 15 (oN f11 159) false) (.cond (.tmp 67) (.region 16 (oN f11 351) false) .skip)) (.seq (.region 17 (oN f11 191) false) .ret)))))))
def f11n : List (Nat × RAnn) := [(0, ⟨[0, 8], []⟩), (1, f11a1), (2, ⟨[25, 26], []⟩), (3, ⟨[2, 9, 10, 24, 27], []⟩), (4, ⟨[10, 24, 29, 30, 31], []⟩), (5, ⟨[2, 9, 28], []⟩), (6, f11a6), (7, f11a7), (8, ⟨[], []⟩), (9, f11a9), (10, f11a10), (11, ⟨[12, 54], []⟩), (12, ⟨[55, 56, 57], []⟩), (13, ⟨[14, 15, 55, 58, 59, 60, 61, 62, 63], []⟩), (14, ⟨[64], []⟩), (15, f11a15), (16, f11a16), (17, ⟨[11, 67, 76, 77], []⟩)]
def f10a2 : RAnn := ⟨[11, 12, 13, 14, 15, 16], []⟩
def f10a3 : RAnn := ⟨[1, 17, 18, 19, 20, 21, 22, 23], []⟩
def f10a4 : RAnn := ⟨[2, 3, 4, 5, 6, 24, 25, 26, 27, 28, 29, 30, 31, 32, 33, 34, 35, 36, 37, 38, 39, 40, 41], []⟩
noncomputable def f10c : Code := (.seq (.region 0 (oN f10 2) false) (.seq (.region 1 (oN f10 5) false) (.seq (.region 2 (oN f10 11) false) (.seq (.region 3 (oN f10 23) false) (.seq (.region 4 (oN f10 47) false) .ret)))))
def f10n : List (Nat × RAnn) := [(0, ⟨[0], []⟩), (1, ⟨[7, 8, 9, 10], []⟩), (2, f10a2), (3, f10a3), (4, f10a4)]
noncomputable def f13c : Code := (.seq (.region 0 (oN f13 2) false) (.seq (.seq (.region 1 (oN f13 9) false) (.block 0 (.seq (.seq (.region 2 (oN f13 69) false) (.cond (.tmp 5) .skip (.region 3 (oN f13 229) false))) (.cond (.tmp 5) (.seq (.region 4 (oN f13 149) false) .ret) (.seq (.seq (.region 5 (oN f13 309) false) (.cond (.tmp 9) .skip (.region 6 (oN f13 949) false))) (.cond (.tmp 9) (.seq (.region 7 (oN f13 629) false) .ret) (.seq (.seq (.region 8 (oN f13 1269) false) (.cond (.tmp 15) .skip (.region 9 (oN f13 3829) false))) (.cond (.tmp 15) (.seq (.region 10 (oN f13 2549) false) .ret) .skip)))))))) (.seq (.region 11 (oN f13 11) false) .ret)))
def f13n : List (Nat × RAnn) := [(0, ⟨[2, 3], []⟩), (1, ⟨[], []⟩), (2, ⟨[6], []⟩), (3, ⟨[7], []⟩), (4, ⟨[0, 4, 5, 8], []⟩), (5, ⟨[5, 10], []⟩), (6, ⟨[11], []⟩), (7, ⟨[0, 4, 9, 12, 13, 14], []⟩), (8, ⟨[9, 16], []⟩), (9, ⟨[4, 17], []⟩), (10, ⟨[0, 4, 15, 18, 19, 20], []⟩), (11, ⟨[0, 15], []⟩)]
def f67a1 : RAnn := ⟨[1, 2, 5, 6, 7, 8, 9, 10, 11, 12, 13, 14, 15, 16], []⟩
noncomputable def f67c : Code := (.seq (.region 0 (oN f67 2) false) (.seq (.region 1 (oN f67 5) false) .ret))
def f67n : List (Nat × RAnn) := [(0, ⟨[0, 4], []⟩), (1, f67a1)]
def f37a1 : RAnn := ⟨[9, 10, 11, 12], []⟩
def f37a4 : RAnn := ⟨[1, 2, 3, 8, 14, 16, 17, 18, 19, 20, 21, 22], []⟩
noncomputable def f37c : Code := (.seq (.region 0 (oN f37 2) false) (.seq (.seq (.region 1 (oN f37 9) false) (.seq (.region 2 (oN f37 21) false) (.cond (.tmp 14) (.seq (.region 3 (oN f37 77) false) .ret) .skip))) (.seq (.region 4 (oN f37 11) false) .ret)))
def f37n : List (Nat × RAnn) := [(0, ⟨[0, 6, 7], []⟩), (1, f37a1), (2, ⟨[13], []⟩), (3, ⟨[1, 2, 3, 8, 14, 15], []⟩), (4, f37a4)]
def f43v12a1 : RAnn := ⟨[1, 2, 4, 5, 6, 7], []⟩
noncomputable def f43v12c : Code := (.seq (.region 0 (oN f43 2) false) (.seq (.region 1 (oN f43 5) false) .ret))
def f43v12n : List (Nat × RAnn) := [(0, ⟨[0, 3], []⟩), (1, f43v12a1)]
def f41v12a1 : RAnn := ⟨[0, 1, 4, 5, 6, 7], []⟩
noncomputable def f41v12c : Code := (.seq (.region 0 (oN f41 2) false) (.seq (.region 1 (oN f41 5) false) .ret))
def f41v12n : List (Nat × RAnn) := [(0, ⟨[3], []⟩), (1, f41v12a1)]
def f40a1 : RAnn := ⟨[1, 2, 8, 9, 10], []⟩
noncomputable def f40c : Code := (.seq (.region 0 (oN f40 2) false) (.seq (.region 1 (oN f40 5) false) (.seq (.seq (.region 2 (oN f40 19) false) (.block 0 (.seq (.region 3 (oN f40 75) false) (.cond (.tmp 12) (.seq (.region 4 (oN f40 299) false) .ret) (.seq (.region 5 (oN f40 363) false) (.cond (.tmp 16) (.seq (.region 6 (oN f40 1259) false) .ret) (.seq (.region 7 (oN f40 1515) false) (.cond (.tmp 20) (.seq (.region 8 (oN f40 5099) false) .ret) (.seq (.region 9 (oN f40 6123) false) (.cond (.tmp 24) (.seq (.region 10 (oN f40 20459) false) .ret) (.seq (.region 11 (oN f40 24555) false) (.cond (.tmp 28) (.seq (.region 12 (oN f40 81899) false) .ret) .skip)))))))))))) (.seq (.region 13 (oN f40 23) false) .ret))))
def f40n : List (Nat × RAnn) := [(0, ⟨[6], []⟩), (1, f40a1), (2, ⟨[0], []⟩), (3, ⟨[13], []⟩), (4, ⟨[7, 11, 12, 14, 15], []⟩), (5, ⟨[12, 17], []⟩), (6, ⟨[7, 11, 16, 18, 19], []⟩), (7, ⟨[16, 21], []⟩), (8, ⟨[7, 11, 20, 22, 23], []⟩), (9, ⟨[20, 25], []⟩), (10, ⟨[7, 11, 24, 26, 27], []⟩), (11, ⟨[11, 24, 29], []⟩), (12, ⟨[7, 28, 30, 31], []⟩), (13, ⟨[7, 28, 32, 33], []⟩)]
def f38a1 : RAnn := ⟨[6, 8, 9, 10, 11, 12, 13, 14], []⟩
def f38a2 : RAnn := ⟨[1, 5, 15, 16, 17, 18, 19], []⟩
def f38a3 : RAnn := ⟨[2, 3, 7, 20, 21, 22, 23, 24, 25, 26, 27, 28, 29, 30, 31, 32, 33, 34, 35, 36, 37, 38, 39, 40, 41, 42, 43], []⟩
noncomputable def f38c : Code := (.seq (.region 0 (oN f38 2) false) (.seq (.region 1 (oN f38 5) false) (.seq (.region 2 (oN f38 11) false) (.seq (.region 3 (oN f38 23) true) .ret))))
def f38n : List (Nat × RAnn) := [(0, ⟨[0, 4], []⟩), (1, f38a1), (2, f38a2), (3, f38a3)]
def f17a1 : RAnn := ⟨[15, 16, 17, 18, 19, 20, 21], []⟩
def f17a6 : RAnn := ⟨[1, 4, 26, 29, 30, 31, 32, 33, 34, 35, 36], []⟩
def f17a11 : RAnn := ⟨[2, 7, 12, 13, 14, 42, 43, 44, 45, 46, 47, 48, 49], []⟩
noncomputable def f17c : Code := (.seq (.region 0 (oN f17 2) false) (.seq (.region 1 (oN f17 5) false) (.seq (.block 0 (.seq (.region 2 (oN f17 35) false) (.cond (.tmp 22) (.seq (.region 3 (oN f17 147) false) .ret) (.seq (.region 4 (oN f17 179) false) (.cond (.tmp 26) (.seq (.region 5 (oN f17 627) false) .ret) .skip))))) (.seq (.region 6 (oN f17 23) false) (.seq (.seq (.region 7 (oN f17 79) false) (.cond (.tmp 38) (.seq (.region 8 (oN f17 303) false) .ret) .skip)) (.seq (.region 9 (oN f17 95) false) (.seq (.region 10 (oN f17 191) false) (.seq (.region 11 (oN f17 383) false) .ret))))))))
def f17n : List (Nat × RAnn) := [(0, ⟨[0, 3, 8, 9], []⟩), (1, f17a1), (2, ⟨[23, 24], []⟩), (3, ⟨[1, 2, 4, 7, 10, 11, 22, 25], []⟩), (4, ⟨[10, 11, 22, 27, 28], []⟩), (5, ⟨[1, 2, 4, 7, 26], []⟩), (6, f17a6), (7, ⟨[37], []⟩), (8, ⟨[2, 7, 11, 12, 38, 39], []⟩), (9, ⟨[11, 38, 40], []⟩), (10, ⟨[41], []⟩), (11, f17a11)]
def f5a1 : RAnn := ⟨[15, 16, 17, 18, 19, 20, 21, 22, 23, 24, 25, 26, 27, 28], []⟩
def f5a2 : RAnn := ⟨[0, 1, 2, 29, 30], []⟩
def f5a3 : RAnn := ⟨[29], [(0, { site := true, keep := [2] })]⟩
def f5a4 : RAnn := ⟨[32, 33, 34, 35, 36, 37, 38, 39, 40, 41, 42, 43], []⟩
def f5a5 : RAnn := ⟨[44, 45, 46, 47, 48, 49, 50, 51], []⟩
def f5a6 : RAnn := ⟨[52, 53, 54, 55, 56], []⟩
def f5a8 : RAnn := ⟨[0, 1, 2, 7, 8, 9, 31, 58, 59, 60, 61, 62, 63, 64, 65, 66, 67, 68, 69, 70, 71], []⟩
def f5a9 : RAnn := ⟨[58, 72, 73, 74, 75, 76, 77, 78, 79, 80, 81, 82], []⟩
def f5a10 : RAnn := ⟨[0, 1, 7, 31, 83, 84, 85, 86, 87, 88, 89, 90, 91, 92, 93], []⟩
def f5a11 : RAnn := ⟨[8, 94, 95, 96, 97, 98], []⟩
def f5a12 : RAnn := ⟨[2, 9, 10, 11, 12, 13, 14, 99, 100, 101, 102, 103, 104, 105, 106, 107, 108, 109, 110, 111, 112, 113, 114, 115, 116, 117, 118, 119, 120, 121], []⟩
noncomputable def f5c : Code := (.seq (.region 0 (oN f5 2) false) (.seq (.seq (.region 1 (oN f5 9) false) (.cond (.tmp 29) (.seq (.region 2 (oN f5 37) false) .ret) .skip)) (.seq (.region 3 (oN f5 11) false) (.seq (.region 4 (oN f5 23) true) (.seq (.region 5 (oN f5 47) false) (.seq (.region 6 (oN f5 95) false) (.seq (.seq (.region 7 (oN f5 319) false) (.cond (.tmp 58) (.seq (.region 8 (oN f5 1215) false) .ret) .skip)) (.seq (.region 9 (oN f5 383) false) (.seq (.region 10 (oN f5 767) false) (.seq (.region 11 (oN f5 1535) false) (.seq (.region 12 (oN f5 3071) false) .ret)))))))))))
def f5n : List (Nat × RAnn) := [(0, ⟨[6], []⟩), (1, f5a1), (2, f5a2), (3, f5a3), (4, f5a4), (5, f5a5), (6, f5a6), (7, ⟨[57], []⟩), (8, f5a8), (9, f5a9), (10, f5a10), (11, f5a11), (12, f5a12)]
def ANNS : List (Nat × FAnn) := [(5, ⟨f5n, [], []⟩), (10, ⟨f10n, [], []⟩), (11, ⟨f11n, [], []⟩), (13, ⟨f13n, [], []⟩), (17, ⟨f17n, [], []⟩), (28, ⟨f28n, [], []⟩), (29, ⟨f29n, [], []⟩), (30, ⟨f30n, [], []⟩), (33, ⟨f33n, [], []⟩), (34, ⟨f34n, [], []⟩), (37, ⟨f37n, [], []⟩), (38, ⟨f38n, [], []⟩), (39, ⟨f39n, [], []⟩), (40, ⟨f40n, [], []⟩), (41, ⟨f41v12n, [], []⟩), (42, ⟨f42n, [], []⟩), (43, ⟨f43v12n, [], []⟩), (44, ⟨f44n, [], []⟩), (56, ⟨f56n, [], []⟩), (58, ⟨f58n, [], []⟩), (59, ⟨f59n, [], []⟩), (60, ⟨f60n, [], []⟩), (61, ⟨f61n, [], []⟩), (62, ⟨f62n, [], []⟩), (63, ⟨f63n, [], []⟩), (66, ⟨f66n, [], []⟩), (67, ⟨f67n, [], []⟩), (68, ⟨f68n, [], []⟩), (69, ⟨f69n, [], []⟩), (71, ⟨f71n, [], []⟩), (72, ⟨f72n, [], []⟩), (84, ⟨f84n, [], []⟩), (85, ⟨f85n, [], []⟩), (90, ⟨f90n, [], []⟩), (91, ⟨f91n, [], []⟩), (92, ⟨f92n, [], []⟩), (100, ⟨f100n, [], []⟩), (101, ⟨f101n, [], []⟩), (102, ⟨f102n, [], []⟩), (103, ⟨f103n, [], []⟩), (104, ⟨f104n, [], []⟩), (109, ⟨f109n, [], []⟩), (110, ⟨f110n, [], []⟩), (111, ⟨f111n, [], []⟩), (112, ⟨f112n, [], []⟩), (113, ⟨f113n, [], []⟩), (114, ⟨f114n, [], []⟩), (115, ⟨f115n, [], []⟩), (116, ⟨f116n, [], []⟩), (117, ⟨f117n, [], []⟩), (118, ⟨f118n, [], []⟩), (119, ⟨f119n, [], []⟩)]
def anns : FuncId → FAnn := fun f => (look f ANNS).getD {}
def ext : ExtH := fun f args => bif Nat.beq f 19 then some (match args with | [] => some ((V.agg [(V.str law12_shop_v.fName), (V.int .i64 law12_shop_v.fKind), (V.sl 2 8 (List.map eType law12_shop_v.fTypes)), (V.sl 0 4 (List.map eSearch law12_shop_v.fIndexes))]), []) | _ => none) else bif Nat.beq f 108 then some (extReverseInt args) else bif Nat.beq f 55 then some (extStrRep args) else bif Nat.beq f 57 then some (extStrJoin args) else bif Nat.beq f 70 then some (extStrCmp args) else none
noncomputable abbrev EV (k : Nat) : CallH := evF prog anns ext k
noncomputable abbrev RE (k : Nat) (a : RAnn) (o : Array Oper) (d : Bool) (s : St) : Option St := regionE prog (EV k) a o d s
abbrev I (n : Int) : V := .int .i64 n
abbrev sTerm (l : List T_api_Term) : V := .sl 0 3 (List.map eTerm l)
abbrev sType (l : List T_api_Type) : V := .sl 0 8 (List.map eType l)
abbrev sField (l : List T_api_Field) : V := .sl 0 3 (List.map eField l)
abbrev sSearch (l : List T_api_Search) : V := .sl 0 4 (List.map eSearch l)
abbrev sI (l : List Int) : V := .sl 0 1 (List.map I l)
def law12_shop_fin : T_api_Base → V × List V := fun r => ((V.agg [(Sr r.fName), (I r.fKind), (V.sl 2 8 (List.map eType r.fTypes)), (sSearch r.fIndexes)]), [])
theorem law12_shop_ok (k : Nat) : EV k 19 [] = (law12_shop k).map law12_shop_fin := by
 cases k with
 | zero => rfl
 | succ k => exact (evF_ext (ext := ext) (f := 19) rfl).trans rfl
def dbd_IsName_fin : Bool → V × List V := fun r => ((Bo r), [])
theorem dbd_IsName_L1_ok (k : Nat) (a0 : Str)  (K0 : Int → Option Bool) (Kst : X × St → Option (V × List V)) (hK0 : ∀ (y0 : Int), Kst (X.exit 0, ⟨[(0, (Sr a0)), (6, (I (a0.length : Int))), (7, (I y0)), (8, (Bo false))], [], 47⟩) = (K0 y0).map dbd_IsName_fin) (hret : ∀ s, Kst (X.ret, s) = endK prog 47 [(Sr a0)] [] [.tmp 2] (X.ret, s)) :
  ∀ (m : Nat) (x7 : Int), (iter (exec prog (EV k) f101n k f101b0) m ⟨[(0, (Sr a0)), (6, (I (a0.length : Int))), (7, (I x7))], [], 47⟩).bind Kst = (dbd_IsName_L1 a0 K0 m x7).map dbd_IsName_fin := by
 intro m
 induction m with
 | zero => intros; rfl
 | succ m ih =>
  intro x7
  unfold dbd_IsName_L1
  refine et k_round <| kra [(8, (Bo (decide (x7 < (a0.length : Int)))))] rfl <| kc rfl rfl (fun hc => ?_) fun hc => ?_
  ·rw [hc]
   refine et k_skip <| et (k_block rfl) <| kr ⟨[(0, (Sr a0)), (3, (I x7)), (6, (I (a0.length : Int))), (7, (I x7))], [], 47⟩ rfl <| kg f101a4 rfl (fun (o10 : Bool) => ⟨[(0, (Sr a0)), (3, (I x7)), (4, (Bo o10)), (6, (I (a0.length : Int))), (7, (I x7))], [], 47⟩) ?_ fun o10 => ?_
   ·refine rd 2 [(10, (Sr a0)), (11, (I x7))] rfl rfl <| rp rfl (p_indexS rfl rfl rfl underlying9) fun v8 => bd 5 [(12, (V.int .u8 v8)), (13, (Bo (decide (v8 ≥ 65)))), (14, (Bo (decide (v8 ≥ 65))))] rfl rfl <| bifE (fun hc => ?_) fun hc => ?_
    ·rw [hc]
     exact rd 7 [(15, (Sr a0)), (16, (I x7))] rfl rfl <| rp rfl (p_indexS rfl rfl rfl underlying9) fun v9 => bind_end rfl
    ·rw [hc]
     exact reg_end rfl
   refine kg f101a5 rfl (fun (o13 : Bool) => ⟨[(0, (Sr a0)), (6, (I (a0.length : Int))), (7, (I x7)), (37, (Bo o13))], [], 47⟩) ?_ fun o13 => ?_
   ·refine rd 3 [(20, (Bo o10)), (21, (Bo (!o10))), (22, (Bo (!o10)))] rfl rfl <| bifE (fun hc => ?_) fun hc => ?_
    ·rw [hc]
     refine rd 6 [(23, (I x7)), (24, (Bo (x7 == 0))), (25, (Bo (x7 == 0)))] rfl rfl <| bifE (fun hc => ?_) fun hc => ?_
     ·rw [hc]
      exact reg_end rfl
     ·rw [hc]
      refine rd 8 [(26, (Sr a0)), (27, (I x7))] rfl rfl <| rp rfl (p_indexS rfl rfl rfl underlying9) fun v11 => bd 12 [(28, (V.int .u8 v11)), (29, (Bo (decide (v11 < 48)))), (30, (Bo (decide (v11 < 48)))), (31, (Bo (decide (v11 < 48))))] rfl rfl <| bifE (fun hc => ?_) fun hc => ?_
      ·rw [hc]
       exact reg_end rfl
      ·rw [hc]
       exact rd 14 [(32, (Sr a0)), (33, (I x7))] rfl rfl <| rp rfl (p_indexS rfl rfl rfl underlying9) fun v12 => bind_end rfl
    ·rw [hc]
     exact reg_end rfl
   refine kcl rfl rfl (fun hc => ?_) fun hc => ?_
   ·rw [hc]
    refine kr ⟨[(2, (Bo false))], [], 47⟩ rfl <| et k_lret <| et blk_ret <| et loop_ret <| et (hret _) ?_
    rfl
   ·rw [hc]
    exact et k_lskip <| et blk_normal <| kl ⟨[(0, (Sr a0)), (6, (I (a0.length : Int))), (7, (I (Go.IntKind.wrap .i64 (x7 + 1))))], [], 47⟩ rfl <| et loop_normal <| ih (Go.IntKind.wrap .i64 (x7 + 1))
  ·rw [hc]
   exact et k_exit <| et loop_exit <| hK0 x7
theorem dbd_IsName_ok (k : Nat) (a0 : Str) : EV k 101 [(Sr a0)] = (dbd_IsName k a0).map dbd_IsName_fin := by
 cases k with
 | zero => rfl
 | succ k =>
  unfold dbd_IsName
  refine et (evF_succ (c := f101c) (N := 47) (regs := f101n) rfl func101 rfl (by decide) rfl rfl rfl) <| kra [] rfl <| et k_assoc <| kra [(6, (I (a0.length : Int))), (7, (I 0))] rfl <| et (k_block rfl) <| et k_loop ?_
  refine dbd_IsName_L1_ok k a0 _ _ ?h_dbd_IsName_L1_0 ?hr_dbd_IsName_L1 k 0
  ·intro y14
   refine et blk_exit <| kg f101a8 rfl (fun (o15 : Bool) => ⟨[(2, (Bo o15))], [], 47⟩) ?_ fun o15 => ?_
   ·refine rd 4 [(39, (Sr a0)), (40, (I (a0.length : Int))), (41, (Bo (decide ((a0.length : Int) ≥ 1)))), (42, (Bo (decide ((a0.length : Int) ≥ 1))))] rfl rfl <| bifE (fun hc => ?_) fun hc => ?_
    ·rw [hc]
     exact reg_end rfl
    ·rw [hc]
     exact reg_end rfl
   refine et k_lret ?_
   rfl
  ·intro s; exact rfl
def slices_IndexFunc_Field_fin : Int → V × List V := fun r => ((I r), [])
theorem slices_IndexFunc_Field_L1_ok (k : Nat) (a0 : (List T_api_Field)) (a1 : Nat → T_api_Field → Option Bool) (a1_fid : Go.FuncId) (a1_c0 : V) (a1_hok : ∀ j x0, EV j a1_fid [(eField x0), V.pro a1_c0] = (a1 j x0).map fun b => ((Bo b), [])) (K0 : Int → Option Int) (Kst : X × St → Option (V × List V)) (hK0 : ∀ (y0 : Int), Kst (X.exit 0, ⟨[(0, (sField a0)), (1, (V.fn a1_fid [] [V.pro a1_c0])), (7, (I (a0.length : Int))), (8, (I y0)), (9, (Bo false))], [], 19⟩) = (K0 y0).map slices_IndexFunc_Field_fin) (hret : ∀ s, Kst (X.ret, s) = endK prog 19 [(sField a0), (V.fn a1_fid [] [V.pro a1_c0])] [] [.tmp 4] (X.ret, s)) :
  ∀ (m : Nat) (x4 : Int), (iter (exec prog (EV k) f68n k f68b0) m ⟨[(0, (sField a0)), (1, (V.fn a1_fid [] [V.pro a1_c0])), (7, (I (a0.length : Int))), (8, (I x4))], [], 19⟩).bind Kst = (slices_IndexFunc_Field_L1 k a0 a1 K0 m x4).map slices_IndexFunc_Field_fin := by
 intro m
 induction m with
 | zero => intros; rfl
 | succ m ih =>
  intro x4
  unfold slices_IndexFunc_Field_L1
  refine et k_round <| kra [(9, (Bo (decide (x4 < (a0.length : Int)))))] rfl <| kc rfl rfl (fun hc => ?_) fun hc => ?_
  ·rw [hc]
   refine et k_skip <| et (k_block rfl) <| kr ⟨[(0, (sField a0)), (1, (V.fn a1_fid [] [V.pro a1_c0])), (5, (I x4)), (7, (I (a0.length : Int))), (8, (I x4))], [], 19⟩ rfl <| kga f68a4 rfl (fun (o7 : Bool) => [(16, (Bo o7))]) (rd 3 [(11, (V.fn a1_fid [] [V.pro a1_c0])), (12, (sField a0)), (13, (I x4))] rfl rfl <| rp rfl (p_index (e := eField) rfl rfl rfl underlying43 rfl (by decide)) fun v5 => bd 5 [(14, (Pr (eField v5))), (15, (eField v5))] rfl rfl <| rs rfl (p_call rfl rfl rfl rfl rfl (a1_hok k v5) (.inl rfl)) fun v6 => bind_end rfl) fun o7 => kcl rfl rfl (fun hc => ?_) fun hc => ?_
   ·rw [hc]
    refine kr ⟨[(4, (I x4))], [], 19⟩ rfl <| et k_lret <| et blk_ret <| et loop_ret <| et (hret _) ?_
    rfl
   ·rw [hc]
    exact et k_lskip <| et blk_normal <| kl ⟨[(0, (sField a0)), (1, (V.fn a1_fid [] [V.pro a1_c0])), (7, (I (a0.length : Int))), (8, (I (Go.IntKind.wrap .i64 (x4 + 1))))], [], 19⟩ rfl <| et loop_normal <| ih (Go.IntKind.wrap .i64 (x4 + 1))
  ·rw [hc]
   exact et k_exit <| et loop_exit <| hK0 x4
theorem slices_IndexFunc_Field_ok (k : Nat) (a0 : (List T_api_Field)) (a1 : Nat → T_api_Field → Option Bool) (a1_fid : Go.FuncId) (a1_c0 : V) (a1_hok : ∀ j x0, EV j a1_fid [(eField x0), V.pro a1_c0] = (a1 j x0).map fun b => ((Bo b), [])) : EV k 68 [(sField a0), (V.fn a1_fid [] [V.pro a1_c0])] = (slices_IndexFunc_Field k a0 a1).map slices_IndexFunc_Field_fin := by
 cases k with
 | zero => rfl
 | succ k =>
  unfold slices_IndexFunc_Field
  refine et (evF_succ (c := f68c) (N := 19) (regs := f68n) rfl func68 rfl (by decide) rfl rfl rfl) <| kra [] rfl <| et k_assoc <| krp f68a1 rfl ⟨[(0, (sField a0)), (1, (V.fn a1_fid [] [V.pro a1_c0])), (7, (I (a0.length : Int))), (8, (I 0))], [], 19⟩ ?_ ?_
  ·exact rd 1 [(6, (sField a0))] rfl rfl <| rl rfl (p_len (e := eField) rfl rfl rfl rfl rfl rfl underlying43) <| bind_end rfl
  refine et (k_block rfl) <| et k_loop ?_
  refine slices_IndexFunc_Field_L1_ok k a0 a1 a1_fid a1_c0 a1_hok _ _ ?h_slices_IndexFunc_Field_L1_0 ?hr_slices_IndexFunc_Field_L1 k 0
  ·intro y8
   refine et blk_exit <| kr ⟨[(4, (I (-1)))], [], 19⟩ rfl <| et k_lret ?_
   rfl
  ·intro s; exact rfl
def slices_ContainsFunc_Field_fin : Bool → V × List V := fun r => ((Bo r), [])
theorem slices_ContainsFunc_Field_ok (k : Nat) (a0 : (List T_api_Field)) (a1 : Nat → T_api_Field → Option Bool) (a1_fid : Go.FuncId) (a1_c0 : V) (a1_hok : ∀ j x0, EV j a1_fid [(eField x0), V.pro a1_c0] = (a1 j x0).map fun b => ((Bo b), [])) : EV k 118 [(sField a0), (V.fn a1_fid [] [V.pro a1_c0])] = (slices_ContainsFunc_Field k a0 a1).map slices_ContainsFunc_Field_fin := by
 cases k with
 | zero => rfl
 | succ k =>
  unfold slices_ContainsFunc_Field
  refine et (evF_succ (c := f118c) (N := 9) (regs := f118n) rfl func118 rfl (by decide) rfl rfl rfl) <| kra [] rfl <| kg f118a1 rfl (fun (o2 : Bool) => ⟨[(4, (Bo o2))], [], 9⟩) (rd 2 [(5, (sField a0)), (6, (V.fn a1_fid [] [V.pro a1_c0]))] rfl rfl <| rp rfl (p_call rfl rfl rfl rfl rfl (slices_IndexFunc_Field_ok k a0 a1 a1_fid a1_c0 a1_hok) (.inl rfl)) fun v1 => bind_end rfl) fun o2 => et k_lret ?_
  rfl
def dbd_areFields_1_fin : Bool → V × List V := fun r => ((Bo r), [])
theorem dbd_areFields_1_ok (k : Nat) (a0 : T_api_Field) (a1 : T_api_Field) : EV k 119 [(eField a0), (Pr (eField a1))] = (dbd_areFields_1 k a0 a1).map dbd_areFields_1_fin := by
 cases k with
 | zero => rfl
 | succ k =>
  unfold dbd_areFields_1
  refine et (evF_succ (c := f119c) (N := 9) (regs := f119n) rfl func119 rfl (by decide) rfl rfl rfl) <| kr ⟨[(1, (Pr (eField a1))), (2, (Pt 2))], [(2, vS 3 (eField a0))], 9⟩ rfl <| kr ⟨[(3, (Bo (a0.fName == a1.fName)))], [], 9⟩ rfl <| et k_lret ?_
  rfl
def dbd_areFields_fin : Bool → V × List V := fun r => ((Bo r), [])
theorem dbd_areFields_L1_ok (k : Nat) (a0 : (List T_api_Field)) (a1 : Int)  (K0 : Int → Option Bool) (Kst : X × St → Option (V × List V)) (hK0 : ∀ (y0 : Int), Kst (X.exit 0, ⟨[(0, (sField a0)), (1, (I a1)), (7, (sField a0)), (8, (I (a0.length : Int))), (9, (I y0)), (10, (Bo false))], [], 52⟩) = (K0 y0).map dbd_areFields_fin) (hret : ∀ s, Kst (X.ret, s) = endK prog 52 [(sField a0), (I a1)] [] [.tmp 4] (X.ret, s)) :
  ∀ (m : Nat) (x8 : Int), (iter (exec prog (EV k) f115n k f115b0) m ⟨[(0, (sField a0)), (1, (I a1)), (7, (sField a0)), (8, (I (a0.length : Int))), (9, (I x8))], [], 52⟩).bind Kst = (dbd_areFields_L1 k a0 a1 K0 m x8).map dbd_areFields_fin := by
 intro m
 induction m with
 | zero => intros; rfl
 | succ m ih =>
  intro x8
  unfold dbd_areFields_L1
  refine et k_round <| kra [(10, (Bo (decide (x8 < (a0.length : Int)))))] rfl <| kc rfl rfl (fun hc => ?_) fun hc => ?_
  ·rw [hc]
   refine et k_skip <| et (k_block rfl) <| kg f115a3 rfl (fun (o10 : Int × T_api_Field) => ⟨[(0, (sField a0)), (1, (I a1)), (5, (I o10.1)), (6, (Pt 6)), (7, (sField a0)), (8, (I (a0.length : Int))), (9, (I x8))], [(6, vS 3 (eField o10.2))], 52⟩) (rd 1 [(11, (I x8))] rfl rfl <| rp rfl (p_index (e := eField) rfl rfl rfl underlying43 rfl (by decide)) fun v9 => bind_end rfl) fun o10 => et k_assoc <| kga f115a4 rfl (fun (o12 : Bool) => [(42, (Bo o12))]) ?_ fun o12 => ?_
   ·refine rd 2 [(14, (Pt 6)), (15, (Sr o10.2.fName))] rfl rfl <| rp rfl (p_call rfl rfl rfl rfl rfl (dbd_IsName_ok k o10.2.fName) (.inl rfl)) fun v11 => bd 5 [(16, (Bo v11)), (17, (Bo (!v11))), (18, (Bo (!v11)))] rfl rfl <| bifE (fun hc => ?_) fun hc => ?_
    ·rw [hc]
     exact reg_end rfl
    ·rw [hc]
     refine rd 10 [(19, (V.ptr 6 0 1)), (20, (I o10.2.fAt)), (21, (Bo (decide (o10.2.fAt < 0)))), (22, (Bo (decide (o10.2.fAt < 0)))), (23, (Bo (decide (o10.2.fAt < 0))))] rfl rfl <| bifE (fun hc => ?_) fun hc => ?_
     ·rw [hc]
      exact reg_end rfl
     ·rw [hc]
      refine rd 16 [(24, (V.ptr 6 0 1)), (25, (I o10.2.fAt)), (26, (I a1)), (27, (Bo (decide (o10.2.fAt ≥ a1)))), (28, (Bo (decide (o10.2.fAt ≥ a1)))), (29, (Bo (decide (o10.2.fAt ≥ a1))))] rfl rfl <| bifE (fun hc => ?_) fun hc => ?_
      ·rw [hc]
       exact reg_end rfl
      ·rw [hc]
       refine rd 21 [(30, (V.ptr 6 0 2)), (31, (I o10.2.fBytes)), (32, (Bo (decide (o10.2.fBytes < 1)))), (33, (Bo (decide (o10.2.fBytes < 1)))), (34, (Bo (decide (o10.2.fBytes < 1))))] rfl rfl <| bifE (fun hc => ?_) fun hc => ?_
       ·rw [hc]
        exact reg_end rfl
       ·rw [hc]
        exact reg_end rfl
   refine kc rfl rfl (fun hc => ?_) fun hc => ?_
   ·rw [hc]
    refine et k_assoc <| kr ⟨[(4, (Bo false))], [], 52⟩ rfl <| et k_ret <| et blk_ret <| et loop_ret <| et (hret _) ?_
    rfl
   ·rw [hc]
    refine et k_skip <| kg f115a6 rfl (fun (o15 : Bool) => ⟨[(0, (sField a0)), (1, (I a1)), (7, (sField a0)), (8, (I (a0.length : Int))), (9, (I x8)), (47, (Bo o15))], [], 52⟩) (rd 2 [(43, (sField a0)), (44, (I o10.1))] rfl rfl <| rp rfl (p_slice (e := eField) rfl rfl rfl rfl rfl rfl underlying43 rfl (by decide)) fun v13 => bd 4 [(45, (sField v13)), (46, (V.fn 119 [] [(Pt 6)]))] rfl rfl <| rs rfl (p_call rfl rfl rfl rfl rfl (slices_ContainsFunc_Field_ok k v13 (fun j x0 => (dbd_areFields_1 j x0 o10.2)) 119 (eField o10.2) (fun j x0 => (dbd_areFields_1_ok j x0 o10.2))) (.inr (fun _ => rfl))) fun v14 => bind_end rfl) fun o15 => kcl rfl rfl (fun hc => ?_) fun hc => ?_
    ·rw [hc]
     refine kr ⟨[(4, (Bo false))], [], 52⟩ rfl <| et k_lret <| et blk_ret <| et loop_ret <| et (hret _) ?_
     rfl
    ·rw [hc]
     exact et k_lskip <| et blk_normal <| kl ⟨[(0, (sField a0)), (1, (I a1)), (7, (sField a0)), (8, (I (a0.length : Int))), (9, (I (Go.IntKind.wrap .i64 (x8 + 1))))], [], 52⟩ rfl <| et loop_normal <| ih (Go.IntKind.wrap .i64 (x8 + 1))
  ·rw [hc]
   exact et k_exit <| et loop_exit <| hK0 x8
theorem dbd_areFields_ok (k : Nat) (a0 : (List T_api_Field)) (a1 : Int) : EV k 115 [(sField a0), (I a1)] = (dbd_areFields k a0 a1).map dbd_areFields_fin := by
 cases k with
 | zero => rfl
 | succ k =>
  unfold dbd_areFields
  refine et (evF_succ (c := f115c) (N := 52) (regs := f115n) rfl func115 rfl (by decide) rfl rfl rfl) <| kra [] rfl <| et k_assoc <| krp f115a1 rfl ⟨[(0, (sField a0)), (1, (I a1)), (7, (sField a0)), (8, (I (a0.length : Int))), (9, (I 0))], [], 52⟩ ?_ ?_
  ·exact rd 1 [(7, (sField a0))] rfl rfl <| rl rfl (p_len (e := eField) rfl rfl rfl rfl rfl rfl underlying43) <| bind_end rfl
  refine et (k_block rfl) <| et k_loop ?_
  refine dbd_areFields_L1_ok k a0 a1 _ _ ?h_dbd_areFields_L1_0 ?hr_dbd_areFields_L1 k 0
  ·intro y16
   refine et blk_exit <| krp f115a9 rfl ⟨[(4, (Bo (decide ((a0.length : Int) ≤ 5))))], [], 52⟩ ?_ ?_
   ·exact rd 1 [(49, (sField a0))] rfl rfl <| rl rfl (p_len (e := eField) rfl rfl rfl rfl rfl rfl underlying43) <| bind_end rfl
   refine et k_lret ?_
   rfl
  ·intro s; exact rfl
def dbd_isType_fin : Bool → V × List V := fun r => ((Bo r), [])
theorem dbd_isType_ok (k : Nat) (a0 : T_api_Type) : EV k 109 [(eType a0)] = (dbd_isType k a0).map dbd_isType_fin := by
 cases k with
 | zero => rfl
 | succ k =>
  unfold dbd_isType
  refine et (evF_succ (c := f109c) (N := 70) (regs := f109n) rfl func109 rfl (by decide) rfl rfl rfl) <| kr ⟨[(1, (Pt 1))], [(1, vS 8 (eType a0))], 70⟩ rfl <| et (k_block rfl) <| kga f109a1 rfl (fun (o3 : Bool) => [(3, (Bo o3))]) ?_ fun o3 => ?_
  ·refine rd 2 [(4, (Pt 1)), (5, (Sr a0.fName))] rfl rfl <| rp rfl (p_call rfl rfl rfl rfl rfl (dbd_IsName_ok k a0.fName) (.inl rfl)) fun v1 => bd 5 [(6, (Bo v1)), (7, (Bo (!v1))), (8, (Bo (!v1)))] rfl rfl <| bifE (fun hc => ?_) fun hc => ?_
   ·rw [hc]
    exact reg_end rfl
   ·rw [hc]
    refine rd 10 [(9, (V.ptr 1 0 2)), (10, (I a0.fMin)), (11, (Bo (decide (a0.fMin < 1)))), (12, (Bo (decide (a0.fMin < 1)))), (13, (Bo (decide (a0.fMin < 1))))] rfl rfl <| bifE (fun hc => ?_) fun hc => ?_
    ·rw [hc]
     exact reg_end rfl
    ·rw [hc]
     refine rd 17 [(14, (V.ptr 1 0 2)), (15, (I a0.fMin)), (16, (V.ptr 1 0 3)), (17, (I a0.fSize)), (18, (Bo (decide (a0.fMin > a0.fSize)))), (19, (Bo (decide (a0.fMin > a0.fSize)))), (20, (Bo (decide (a0.fMin > a0.fSize))))] rfl rfl <| bifE (fun hc => ?_) fun hc => ?_
     ·rw [hc]
      exact reg_end rfl
     ·rw [hc]
      refine rd 22 [(21, (V.ptr 1 0 3)), (22, (I a0.fSize)), (23, (Bo (decide (a0.fSize > 40)))), (24, (Bo (decide (a0.fSize > 40)))), (25, (Bo (decide (a0.fSize > 40))))] rfl rfl <| bifE (fun hc => ?_) fun hc => ?_
      ·rw [hc]
       exact reg_end rfl
      ·rw [hc]
       exact rd 26 [(26, (V.ptr 1 0 4)), (27, (sField a0.fFields)), (28, (V.ptr 1 0 3)), (29, (I a0.fSize))] rfl rfl <| rp rfl (p_call rfl rfl rfl rfl rfl (dbd_areFields_ok k a0.fFields a0.fSize) (.inl rfl)) fun v2 => bind_end rfl
  refine kcl rfl rfl (fun hc => ?_) fun hc => ?_
  ·rw [hc]
   refine kr ⟨[(2, (Bo false))], [], 70⟩ rfl <| et k_lret <| et blk_ret ?_
   rfl
  ·rw [hc]
   refine kr ⟨[(1, (Pt 1)), (33, (Bo (a0.fKey == (-1))))], [(1, vS 8 (eType a0))], 70⟩ rfl <| kcl rfl rfl (fun hc => ?_) fun hc => ?_
   ·rw [hc]
    refine kr ⟨[(2, (Bo (!a0.fUnique)))], [], 70⟩ rfl <| et k_lret <| et blk_ret ?_
    rfl
   ·rw [hc]
    refine kg f109a5 rfl (fun (o4 : Bool) => ⟨[(1, (Pt 1)), (40, (Bo o4))], [(1, vS 8 (eType a0))], 70⟩) ?_ fun o4 => ?_
    ·refine rd 4 [(41, (V.ptr 1 0 5)), (42, (I a0.fKey)), (43, (Bo (decide (a0.fKey < 0)))), (44, (Bo (decide (a0.fKey < 0))))] rfl rfl <| bifE (fun hc => ?_) fun hc => ?_
     ·rw [hc]
      exact reg_end rfl
     ·rw [hc]
      exact rd 8 [(45, (V.ptr 1 0 5)), (46, (I a0.fKey)), (47, (V.ptr 1 0 4)), (48, (sField a0.fFields))] rfl rfl <| rl rfl (p_len (e := eField) rfl rfl rfl rfl rfl rfl underlying43) <| bind_end rfl
    refine kcl rfl rfl (fun hc => ?_) fun hc => ?_
    ·rw [hc]
     refine kr ⟨[(2, (Bo false))], [], 70⟩ rfl <| et k_lret <| et blk_ret ?_
     rfl
    ·rw [hc]
     refine et k_lskip <| et blk_normal <| kd f109a7 rfl (fun (o7 : Bool) => ⟨[(2, (Bo o7))], [], 70⟩) (et (regionE_regp (p := 19) (dk := true) (t := [(1, (Pt 1)), (40, (Bo false))]) (σ := [(1, vS 8 (eType a0))]) (n := 70) rfl (by decide) (by decide) rfl) <| et (regp_adv (m := 4) (j := 4) (t' := [(1, (Pt 1)), (40, (Bo false)), (52, (V.ptr 1 0 4)), (53, (sField a0.fFields)), (54, (V.ptr 1 0 5)), (55, (I a0.fKey))]) rfl rfl rfl) <| et (regp_pure (x := (idx a0.fFields a0.fKey)) (w := fun v5 => (Pr (eField v5))) rfl rfl rfl rfl rfl (p_index (e := eField) rfl rfl rfl underlying43 rfl (by decide))) <| bindE fun v5 => et (putp_adv (m := 6) (j := 11) (t' := [(1, (Pt 1)), (40, (Bo false)), (52, (V.ptr 1 0 4)), (53, (sField a0.fFields)), (54, (V.ptr 1 0 5)), (55, (I a0.fKey)), (56, (Pr (eField v5))), (57, (Pr (I v5.fAt))), (58, (I v5.fAt)), (59, (V.ptr 1 0 4)), (60, (sField a0.fFields)), (61, (V.ptr 1 0 5)), (62, (I a0.fKey))]) rfl rfl rfl) <| et (regp_pure (x := (idx a0.fFields a0.fKey)) (w := fun v6 => (Pr (eField v6))) rfl rfl rfl rfl rfl (p_index (e := eField) rfl rfl rfl underlying43 rfl (by decide))) <| bindE fun v6 => regp_end rfl) fun o7 => et k_lret ?_
     rfl
def slices_IndexFunc_Type_fin : Int → V × List V := fun r => ((I r), [])
theorem slices_IndexFunc_Type_L1_ok (k : Nat) (a0 : (List T_api_Type)) (a1 : Nat → T_api_Type → Option Bool) (a1_fid : Go.FuncId) (a1_c0 : V) (a1_hok : ∀ j x0, EV j a1_fid [(eType x0), V.pro a1_c0] = (a1 j x0).map fun b => ((Bo b), [])) (K0 : Int → Option Int) (Kst : X × St → Option (V × List V)) (hK0 : ∀ (y0 : Int), Kst (X.exit 0, ⟨[(0, (sType a0)), (1, (V.fn a1_fid [] [V.pro a1_c0])), (7, (I (a0.length : Int))), (8, (I y0)), (9, (Bo false))], [], 19⟩) = (K0 y0).map slices_IndexFunc_Type_fin) (hret : ∀ s, Kst (X.ret, s) = endK prog 19 [(sType a0), (V.fn a1_fid [] [V.pro a1_c0])] [] [.tmp 4] (X.ret, s)) :
  ∀ (m : Nat) (x4 : Int), (iter (exec prog (EV k) f116n k f116b0) m ⟨[(0, (sType a0)), (1, (V.fn a1_fid [] [V.pro a1_c0])), (7, (I (a0.length : Int))), (8, (I x4))], [], 19⟩).bind Kst = (slices_IndexFunc_Type_L1 k a0 a1 K0 m x4).map slices_IndexFunc_Type_fin := by
 intro m
 induction m with
 | zero => intros; rfl
 | succ m ih =>
  intro x4
  unfold slices_IndexFunc_Type_L1
  refine et k_round <| kra [(9, (Bo (decide (x4 < (a0.length : Int)))))] rfl <| kc rfl rfl (fun hc => ?_) fun hc => ?_
  ·rw [hc]
   refine et k_skip <| et (k_block rfl) <| kr ⟨[(0, (sType a0)), (1, (V.fn a1_fid [] [V.pro a1_c0])), (5, (I x4)), (7, (I (a0.length : Int))), (8, (I x4))], [], 19⟩ rfl <| kga f116a4 rfl (fun (o7 : Bool) => [(16, (Bo o7))]) (rd 3 [(11, (V.fn a1_fid [] [V.pro a1_c0])), (12, (sType a0)), (13, (I x4))] rfl rfl <| rp rfl (p_index (e := eType) rfl rfl rfl underlying22 rfl (by decide)) fun v5 => bd 5 [(14, (Pr (eType v5))), (15, (eType v5))] rfl rfl <| rs rfl (p_call rfl rfl rfl rfl rfl (a1_hok k v5) (.inl rfl)) fun v6 => bind_end rfl) fun o7 => kcl rfl rfl (fun hc => ?_) fun hc => ?_
   ·rw [hc]
    refine kr ⟨[(4, (I x4))], [], 19⟩ rfl <| et k_lret <| et blk_ret <| et loop_ret <| et (hret _) ?_
    rfl
   ·rw [hc]
    exact et k_lskip <| et blk_normal <| kl ⟨[(0, (sType a0)), (1, (V.fn a1_fid [] [V.pro a1_c0])), (7, (I (a0.length : Int))), (8, (I (Go.IntKind.wrap .i64 (x4 + 1))))], [], 19⟩ rfl <| et loop_normal <| ih (Go.IntKind.wrap .i64 (x4 + 1))
  ·rw [hc]
   exact et k_exit <| et loop_exit <| hK0 x4
theorem slices_IndexFunc_Type_ok (k : Nat) (a0 : (List T_api_Type)) (a1 : Nat → T_api_Type → Option Bool) (a1_fid : Go.FuncId) (a1_c0 : V) (a1_hok : ∀ j x0, EV j a1_fid [(eType x0), V.pro a1_c0] = (a1 j x0).map fun b => ((Bo b), [])) : EV k 116 [(sType a0), (V.fn a1_fid [] [V.pro a1_c0])] = (slices_IndexFunc_Type k a0 a1).map slices_IndexFunc_Type_fin := by
 cases k with
 | zero => rfl
 | succ k =>
  unfold slices_IndexFunc_Type
  refine et (evF_succ (c := f116c) (N := 19) (regs := f116n) rfl func116 rfl (by decide) rfl rfl rfl) <| kra [] rfl <| et k_assoc <| krp f116a1 rfl ⟨[(0, (sType a0)), (1, (V.fn a1_fid [] [V.pro a1_c0])), (7, (I (a0.length : Int))), (8, (I 0))], [], 19⟩ ?_ ?_
  ·exact rd 1 [(6, (sType a0))] rfl rfl <| rl rfl (p_len (e := eType) rfl rfl rfl rfl rfl rfl underlying22) <| bind_end rfl
  refine et (k_block rfl) <| et k_loop ?_
  refine slices_IndexFunc_Type_L1_ok k a0 a1 a1_fid a1_c0 a1_hok _ _ ?h_slices_IndexFunc_Type_L1_0 ?hr_slices_IndexFunc_Type_L1 k 0
  ·intro y8
   refine et blk_exit <| kr ⟨[(4, (I (-1)))], [], 19⟩ rfl <| et k_lret ?_
   rfl
  ·intro s; exact rfl
def slices_ContainsFunc_Type_fin : Bool → V × List V := fun r => ((Bo r), [])
theorem slices_ContainsFunc_Type_ok (k : Nat) (a0 : (List T_api_Type)) (a1 : Nat → T_api_Type → Option Bool) (a1_fid : Go.FuncId) (a1_c0 : V) (a1_hok : ∀ j x0, EV j a1_fid [(eType x0), V.pro a1_c0] = (a1 j x0).map fun b => ((Bo b), [])) : EV k 110 [(sType a0), (V.fn a1_fid [] [V.pro a1_c0])] = (slices_ContainsFunc_Type k a0 a1).map slices_ContainsFunc_Type_fin := by
 cases k with
 | zero => rfl
 | succ k =>
  unfold slices_ContainsFunc_Type
  refine et (evF_succ (c := f110c) (N := 9) (regs := f110n) rfl func110 rfl (by decide) rfl rfl rfl) <| kra [] rfl <| kg f110a1 rfl (fun (o2 : Bool) => ⟨[(4, (Bo o2))], [], 9⟩) (rd 2 [(5, (sType a0)), (6, (V.fn a1_fid [] [V.pro a1_c0]))] rfl rfl <| rp rfl (p_call rfl rfl rfl rfl rfl (slices_IndexFunc_Type_ok k a0 a1 a1_fid a1_c0 a1_hok) (.inl rfl)) fun v1 => bind_end rfl) fun o2 => et k_lret ?_
  rfl
def dbd_areTypes_1_fin : Bool → V × List V := fun r => ((Bo r), [])
theorem dbd_areTypes_1_ok (k : Nat) (a0 : T_api_Type) (a1 : T_api_Type) : EV k 111 [(eType a0), (Pr (eType a1))] = (dbd_areTypes_1 k a0 a1).map dbd_areTypes_1_fin := by
 cases k with
 | zero => rfl
 | succ k =>
  unfold dbd_areTypes_1
  refine et (evF_succ (c := f111c) (N := 9) (regs := f111n) rfl func111 rfl (by decide) rfl rfl rfl) <| kr ⟨[(1, (Pr (eType a1))), (2, (Pt 2))], [(2, vS 8 (eType a0))], 9⟩ rfl <| kr ⟨[(3, (Bo (a0.fName == a1.fName)))], [], 9⟩ rfl <| et k_lret ?_
  rfl
def slices_Index_int_fin : Int → V × List V := fun r => ((I r), [])
theorem slices_Index_int_L1_ok (k : Nat) (a0 : (List Int)) (a1 : Int)  (K0 : Int → Option Int) (Kst : X × St → Option (V × List V)) (hK0 : ∀ (y0 : Int), Kst (X.exit 0, ⟨[(0, (sI a0)), (1, (I a1)), (7, (I (a0.length : Int))), (8, (I y0)), (9, (Bo false))], [], 19⟩) = (K0 y0).map slices_Index_int_fin) (hret : ∀ s, Kst (X.ret, s) = endK prog 19 [(sI a0), (I a1)] [] [.tmp 4] (X.ret, s)) :
  ∀ (m : Nat) (x3 : Int), (iter (exec prog (EV k) f112n k f112b0) m ⟨[(0, (sI a0)), (1, (I a1)), (7, (I (a0.length : Int))), (8, (I x3))], [], 19⟩).bind Kst = (slices_Index_int_L1 a0 a1 K0 m x3).map slices_Index_int_fin := by
 intro m
 induction m with
 | zero => intros; rfl
 | succ m ih =>
  intro x3
  unfold slices_Index_int_L1
  refine et k_round <| kra [(9, (Bo (decide (x3 < (a0.length : Int)))))] rfl <| kc rfl rfl (fun hc => ?_) fun hc => ?_
  ·rw [hc]
   refine et k_skip <| et (k_block rfl) <| kr ⟨[(0, (sI a0)), (1, (I a1)), (5, (I x3)), (7, (I (a0.length : Int))), (8, (I x3))], [], 19⟩ rfl <| kga f112a4 rfl (fun (o5 : Bool) => [(16, (Bo o5))]) (rd 3 [(11, (I a1)), (12, (sI a0)), (13, (I x3))] rfl rfl <| rp rfl (p_index (e := I) rfl rfl rfl underlying87 rfl (by decide)) fun v4 => bind_end rfl) fun o5 => kcl rfl rfl (fun hc => ?_) fun hc => ?_
   ·rw [hc]
    refine kr ⟨[(4, (I x3))], [], 19⟩ rfl <| et k_lret <| et blk_ret <| et loop_ret <| et (hret _) ?_
    rfl
   ·rw [hc]
    exact et k_lskip <| et blk_normal <| kl ⟨[(0, (sI a0)), (1, (I a1)), (7, (I (a0.length : Int))), (8, (I (Go.IntKind.wrap .i64 (x3 + 1))))], [], 19⟩ rfl <| et loop_normal <| ih (Go.IntKind.wrap .i64 (x3 + 1))
  ·rw [hc]
   exact et k_exit <| et loop_exit <| hK0 x3
theorem slices_Index_int_ok (k : Nat) (a0 : (List Int)) (a1 : Int) : EV k 112 [(sI a0), (I a1)] = (slices_Index_int k a0 a1).map slices_Index_int_fin := by
 cases k with
 | zero => rfl
 | succ k =>
  unfold slices_Index_int
  refine et (evF_succ (c := f112c) (N := 19) (regs := f112n) rfl func112 rfl (by decide) rfl rfl rfl) <| kra [] rfl <| et k_assoc <| krp f112a1 rfl ⟨[(0, (sI a0)), (1, (I a1)), (7, (I (a0.length : Int))), (8, (I 0))], [], 19⟩ ?_ ?_
  ·exact rd 1 [(6, (sI a0))] rfl rfl <| rl rfl (p_len (e := I) rfl rfl rfl rfl rfl rfl underlying87) <| bind_end rfl
  refine et (k_block rfl) <| et k_loop ?_
  refine slices_Index_int_L1_ok k a0 a1 _ _ ?h_slices_Index_int_L1_0 ?hr_slices_Index_int_L1 k 0
  ·intro y6
   refine et blk_exit <| kr ⟨[(4, (I (-1)))], [], 19⟩ rfl <| et k_lret ?_
   rfl
  ·intro s; exact rfl
def dbd_areTypes_fin : Bool → V × List V := fun r => ((Bo r), [])
theorem dbd_areTypes_L1_ok (k : Nat) (a0 : (List T_api_Type))  (K0 : Int → (List Int) → Option Bool) (Kst : X × St → Option (V × List V)) (hK0 : ∀ (y0 : Int) (y1 : (List Int)), Kst (X.exit 0, ⟨[(0, (sType a0)), (3, (aL 3 I y1)), (15, (sType a0)), (16, (I (a0.length : Int))), (17, (I y0)), (18, (Bo false))], [(3, ⟨true, 1, List.map I y1⟩)], 82⟩) = (K0 y0 y1).map dbd_areTypes_fin) (hret : ∀ s, Kst (X.ret, s) = endK prog 82 [(sType a0)] [] [.tmp 2] (X.ret, s)) :
  ∀ (m : Nat) (x15 : Int) (x16 : (List Int)), (iter (exec prog (EV k) f102n k f102b0) m ⟨[(0, (sType a0)), (3, (aL 3 I x16)), (15, (sType a0)), (16, (I (a0.length : Int))), (17, (I x15))], [(3, ⟨true, 1, List.map I x16⟩)], 82⟩).bind Kst = (dbd_areTypes_L1 k a0 K0 m x15 x16).map dbd_areTypes_fin := by
 intro m
 induction m with
 | zero => intros; rfl
 | succ m ih =>
  intro x15 x16
  unfold dbd_areTypes_L1
  refine et k_round <| kra [(18, (Bo (decide (x15 < (a0.length : Int)))))] rfl <| kc rfl rfl (fun hc => ?_) fun hc => ?_
  ·rw [hc]
   refine et k_skip <| et (k_block rfl) <| kg f102a6 rfl (fun (o18 : Int × T_api_Type) => ⟨[(0, (sType a0)), (3, (aL 3 I x16)), (4, (I o18.1)), (5, (Pt 5)), (15, (sType a0)), (16, (I (a0.length : Int))), (17, (I x15))], [(3, ⟨true, 1, List.map I x16⟩), (5, vS 8 (eType o18.2))], 82⟩) (rd 1 [(19, (I x15))] rfl rfl <| rp rfl (p_index (e := eType) rfl rfl rfl underlying22 rfl (by decide)) fun v17 => bind_end rfl) fun o18 => et k_assoc <| kga f102a7 rfl (fun (o22 : Bool) => [(31, (Bo o22))]) ?_ fun o22 => ?_
   ·refine rd 1 [(22, (eType o18.2))] rfl rfl <| rp rfl (p_call rfl rfl rfl rfl rfl (dbd_isType_ok k o18.2) (.inl rfl)) fun v19 => bd 4 [(23, (Bo v19)), (24, (Bo (!v19))), (25, (Bo (!v19)))] rfl rfl <| bifE (fun hc => ?_) fun hc => ?_
    ·rw [hc]
     exact reg_end rfl
    ·rw [hc]
     exact rd 6 [(26, (sType a0)), (27, (I o18.1))] rfl rfl <| rp rfl (p_slice (e := eType) rfl rfl rfl rfl rfl rfl underlying22 rfl (by decide)) fun v20 => bd 8 [(28, (sType v20)), (29, (V.fn 111 [] [(Pt 5)]))] rfl rfl <| rs rfl (p_call rfl rfl rfl rfl rfl (slices_ContainsFunc_Type_ok k v20 (fun j x0 => (dbd_areTypes_1 j x0 o18.2)) 111 (eType o18.2) (fun j x0 => (dbd_areTypes_1_ok j x0 o18.2))) (.inr (fun _ => rfl))) fun v21 => bind_end rfl
   refine kc rfl rfl (fun hc => ?_) fun hc => ?_
   ·rw [hc]
    refine et k_assoc <| kr ⟨[(2, (Bo false))], [], 82⟩ rfl <| et k_ret <| et blk_ret <| et loop_ret <| et (hret _) ?_
    rfl
   ·rw [hc]
    refine et k_skip <| kg f102a9 rfl (fun (o24 : Int) => ⟨[(0, (sType a0)), (3, (aL 3 I x16)), (4, (I o18.1)), (5, (Pt 5)), (6, (I o24)), (15, (sType a0)), (16, (I (a0.length : Int))), (17, (I x15))], [(3, ⟨true, 1, List.map I x16⟩), (5, vS 8 (eType o18.2))], 82⟩) (rd 3 [(32, (aL 3 I x16)), (33, (V.ptr 5 0 1)), (34, (I o18.2.fParent))] rfl rfl <| rs rfl (p_call rfl rfl rfl rfl (argsL (lendA (e := I) rfl) (by intro s i q h; cases h) (argsL rfl (by intro s i q h; cases h) rfl)) (slices_Index_int_ok k x16 o18.2.fParent) (.inr (fun _ => rfl))) fun v23 => bind_end rfl) fun o24 => et k_assoc <| kg f102a10 rfl (fun (o26 : Bool) => ⟨[(0, (sType a0)), (3, (aL 3 I x16)), (4, (I o18.1)), (6, (I o24)), (15, (sType a0)), (16, (I (a0.length : Int))), (17, (I x15)), (70, (Bo o26))], [(3, ⟨true, 1, List.map I x16⟩)], 82⟩) ?_ fun o26 => ?_
    ·refine rd 3 [(36, (I o18.1)), (37, (Bo (o18.1 == 0))), (38, (Bo (o18.1 == 0)))] rfl rfl <| bifE (fun hc => ?_) fun hc => ?_
     ·rw [hc]
      refine rd 7 [(39, (V.ptr 5 0 1)), (40, (I o18.2.fParent)), (41, (Bo (o18.2.fParent != (-1)))), (42, (Bo (o18.2.fParent != (-1))))] rfl rfl <| bifE (fun hc => ?_) fun hc => ?_
      ·rw [hc]
       exact reg_end rfl
      ·rw [hc]
       refine rd 12 [(43, (V.ptr 5 0 5)), (44, (I o18.2.fKey)), (45, (Bo (decide (o18.2.fKey < 0)))), (46, (Bo (decide (o18.2.fKey < 0)))), (47, (Bo (decide (o18.2.fKey < 0))))] rfl rfl <| bifE (fun hc => ?_) fun hc => ?_
       ·rw [hc]
        exact reg_end rfl
       ·rw [hc]
        refine rd 17 [(48, (V.ptr 5 0 6)), (49, (Bo o18.2.fUnique)), (50, (Bo (!o18.2.fUnique))), (51, (Bo (!o18.2.fUnique))), (52, (Bo (!o18.2.fUnique)))] rfl rfl <| bifE (fun hc => ?_) fun hc => ?_
        ·rw [hc]
         exact reg_end rfl
        ·rw [hc]
         refine rd 21 [(53, (V.ptr 5 0 4)), (54, (sField o18.2.fFields)), (55, (V.ptr 5 0 5)), (56, (I o18.2.fKey))] rfl rfl <| rp rfl (p_index (e := eField) rfl rfl rfl underlying43 rfl (by decide)) fun v25 => bd 28 [(57, (Pr (eField v25))), (58, (Pr (I v25.fBytes))), (59, (I v25.fBytes)), (60, (Bo (decide (v25.fBytes > 24)))), (61, (Bo (decide (v25.fBytes > 24)))), (62, (Bo (decide (v25.fBytes > 24)))), (63, (Bo (decide (v25.fBytes > 24))))] rfl rfl <| bifE (fun hc => ?_) fun hc => ?_
         ·rw [hc]
          exact reg_end rfl
         ·rw [hc]
          refine rd 31 [(64, (I o18.1)), (65, (Bo (decide (o18.1 > 0)))), (66, (Bo (decide (o18.1 > 0))))] rfl rfl <| bifE (fun hc => ?_) fun hc => ?_
          ·rw [hc]
           exact reg_end rfl
          ·rw [hc]
           exact reg_end rfl
     ·rw [hc]
      refine rd 31 [(39, (V.tup [])), (40, (V.tup [])), (41, (V.tup [])), (42, (V.tup [])), (43, (V.tup [])), (44, (V.tup [])), (45, (V.tup [])), (46, (V.tup [])), (47, (V.tup [])), (48, (V.tup [])), (49, (V.tup [])), (50, (V.tup [])), (51, (V.tup [])), (52, (V.tup [])), (53, (V.tup [])), (54, (V.tup [])), (55, (V.tup [])), (56, (V.tup [])), (57, (V.tup [])), (58, (V.tup [])), (59, (V.tup [])), (60, (V.tup [])), (61, (V.tup [])), (62, (Bo false)), (63, (Bo false)), (64, (I o18.1)), (65, (Bo (decide (o18.1 > 0)))), (66, (Bo (decide (o18.1 > 0))))] rfl rfl <| bifE (fun hc => ?_) fun hc => ?_
      ·rw [hc]
       exact reg_end rfl
      ·rw [hc]
       exact reg_end rfl
    refine kc rfl rfl (fun hc => ?_) fun hc => ?_
    ·rw [hc]
     refine et k_assoc <| kr ⟨[(2, (Bo false))], [], 82⟩ rfl <| et k_ret <| et blk_ret <| et loop_ret <| et (hret _) ?_
     rfl
    ·rw [hc]
     refine et k_skip <| kg f102a12 rfl (fun (o29 : (List Int)) => ⟨[(0, (sType a0)), (3, (aL 3 I o29)), (15, (sType a0)), (16, (I (a0.length : Int))), (17, (I x15))], [(3, ⟨true, 1, List.map I o29⟩)], 82⟩) (rd 3 [(71, (aL 3 I x16)), (72, (I o24)), (73, (I (Go.IntKind.wrap .i64 (o24 + 1))))] rfl rfl <| rx rfl (p_sliceA (e := I) rfl rfl rfl underlying87 (by decide)) fun v27 hv27 => bd 6 [(74, (V.aref 3 0 v27)), (75, (I o18.1)), (76, (sI (([o18.1] : List Int))))] rfl rfl <| et (reg_eff (x := (app (List.take v27 x16) ([o18.1] : List Int))) (w := fun v28 => ((aL 3 I v28), _)) rfl rfl rfl rfl (p_appA (e := I) (l := x16) rfl rfl rfl rfl rfl rfl rfl rfl rfl rfl rfl (upTo_le hv27) (of_decide_eq_true rfl))) <| bind_self fun v28 => bind_end rfl) fun o29 => krp f102a13 rfl ⟨[(0, (sType a0)), (3, (aL 3 I o29)), (15, (sType a0)), (16, (I (a0.length : Int))), (17, (I x15)), (80, (Bo (decide ((o29.length : Int) > 5))))], [(3, ⟨true, 1, List.map I o29⟩)], 82⟩ ?_ ?_
     ·exact rd 1 [(78, (aL 3 I o29))] rfl rfl <| rl rfl (p_lenA (e := I) rfl rfl rfl rfl rfl rfl underlying87) <| bind_end rfl
     refine kcl rfl rfl (fun hc => ?_) fun hc => ?_
     ·rw [hc]
      refine kr ⟨[(2, (Bo false))], [], 82⟩ rfl <| et k_lret <| et blk_ret <| et loop_ret <| et (hret _) ?_
      rfl
     ·rw [hc]
      exact et k_lskip <| et blk_normal <| kl ⟨[(0, (sType a0)), (3, (aL 3 I o29)), (15, (sType a0)), (16, (I (a0.length : Int))), (17, (I (Go.IntKind.wrap .i64 (x15 + 1))))], [(3, ⟨true, 1, List.map I o29⟩)], 82⟩ rfl <| et loop_normal <| ih (Go.IntKind.wrap .i64 (x15 + 1)) o29
  ·rw [hc]
   exact et k_exit <| et loop_exit <| hK0 x15 x16
theorem dbd_areTypes_ok (k : Nat) (a0 : (List T_api_Type)) : EV k 102 [(sType a0)] = (dbd_areTypes k a0).map dbd_areTypes_fin := by
 cases k with
 | zero => rfl
 | succ k =>
  unfold dbd_areTypes
  refine et (evF_succ (c := f102c) (N := 82) (regs := f102n) rfl func102 rfl (by decide) rfl rfl rfl) <| kra [] rfl <| et k_assoc <| kga f102a1 rfl (fun (o1 : Bool) => [(14, (Bo o1))]) ?_ fun o1 => ?_
  ·refine rd 1 [(7, (sType a0))] rfl rfl <| rl rfl (p_len (e := eType) rfl rfl rfl rfl rfl rfl underlying22) <| bd 4 [(8, (I (a0.length : Int))), (9, (Bo (decide ((a0.length : Int) < 1)))), (10, (Bo (decide ((a0.length : Int) < 1))))] rfl rfl <| bifE (fun hc => ?_) fun hc => ?_
   ·rw [hc]
    exact reg_end rfl
   ·rw [hc]
    exact rd 5 [(11, (sType a0))] rfl rfl <| rl rfl (p_len (e := eType) rfl rfl rfl rfl rfl rfl underlying22) <| bind_end rfl
  refine kc rfl rfl (fun hc => ?_) fun hc => ?_
  ·rw [hc]
   refine et k_assoc <| kr ⟨[(2, (Bo false))], [], 82⟩ rfl <| et k_ret ?_
   rfl
  ·rw [hc]
   refine et k_skip <| kr ⟨[(0, (sType a0)), (3, (aL 3 I ([] : List Int)))], [(3, ⟨true, 1, List.map I ([] : List Int)⟩)], 82⟩ rfl <| et k_assoc <| krp f102a4 rfl ⟨[(0, (sType a0)), (3, (aL 3 I ([] : List Int))), (15, (sType a0)), (16, (I (a0.length : Int))), (17, (I 0))], [(3, ⟨true, 1, List.map I ([] : List Int)⟩)], 82⟩ ?_ ?_
   ·exact rd 1 [(15, (sType a0))] rfl rfl <| rl rfl (p_len (e := eType) rfl rfl rfl rfl rfl rfl underlying22) <| bind_end rfl
   refine et (k_block rfl) <| et k_loop ?_
   refine dbd_areTypes_L1_ok k a0 _ _ ?h_dbd_areTypes_L1_0 ?hr_dbd_areTypes_L1 k 0 ([] : List Int)
   ·intro y30 y31
    refine et blk_exit <| kr ⟨[(2, (Bo true))], [], 82⟩ rfl <| et k_lret ?_
    rfl
   ·intro s; exact rfl
def slices_IndexFunc_Search_fin : Int → V × List V := fun r => ((I r), [])
theorem slices_IndexFunc_Search_L1_ok (k : Nat) (a0 : (List T_api_Search)) (a1 : Nat → T_api_Search → Option Bool) (a1_fid : Go.FuncId) (a1_c0 : V) (a1_hok : ∀ j x0, EV j a1_fid [(eSearch x0), V.pro a1_c0] = (a1 j x0).map fun b => ((Bo b), [])) (K0 : Int → Option Int) (Kst : X × St → Option (V × List V)) (hK0 : ∀ (y0 : Int), Kst (X.exit 0, ⟨[(0, (sSearch a0)), (1, (V.fn a1_fid [] [V.pro a1_c0])), (7, (I (a0.length : Int))), (8, (I y0)), (9, (Bo false))], [], 19⟩) = (K0 y0).map slices_IndexFunc_Search_fin) (hret : ∀ s, Kst (X.ret, s) = endK prog 19 [(sSearch a0), (V.fn a1_fid [] [V.pro a1_c0])] [] [.tmp 4] (X.ret, s)) :
  ∀ (m : Nat) (x4 : Int), (iter (exec prog (EV k) f117n k f117b0) m ⟨[(0, (sSearch a0)), (1, (V.fn a1_fid [] [V.pro a1_c0])), (7, (I (a0.length : Int))), (8, (I x4))], [], 19⟩).bind Kst = (slices_IndexFunc_Search_L1 k a0 a1 K0 m x4).map slices_IndexFunc_Search_fin := by
 intro m
 induction m with
 | zero => intros; rfl
 | succ m ih =>
  intro x4
  unfold slices_IndexFunc_Search_L1
  refine et k_round <| kra [(9, (Bo (decide (x4 < (a0.length : Int)))))] rfl <| kc rfl rfl (fun hc => ?_) fun hc => ?_
  ·rw [hc]
   refine et k_skip <| et (k_block rfl) <| kr ⟨[(0, (sSearch a0)), (1, (V.fn a1_fid [] [V.pro a1_c0])), (5, (I x4)), (7, (I (a0.length : Int))), (8, (I x4))], [], 19⟩ rfl <| kga f117a4 rfl (fun (o7 : Bool) => [(16, (Bo o7))]) (rd 3 [(11, (V.fn a1_fid [] [V.pro a1_c0])), (12, (sSearch a0)), (13, (I x4))] rfl rfl <| rp rfl (p_index (e := eSearch) rfl rfl rfl underlying23 rfl (by decide)) fun v5 => bd 5 [(14, (Pr (eSearch v5))), (15, (eSearch v5))] rfl rfl <| rs rfl (p_call rfl rfl rfl rfl rfl (a1_hok k v5) (.inl rfl)) fun v6 => bind_end rfl) fun o7 => kcl rfl rfl (fun hc => ?_) fun hc => ?_
   ·rw [hc]
    refine kr ⟨[(4, (I x4))], [], 19⟩ rfl <| et k_lret <| et blk_ret <| et loop_ret <| et (hret _) ?_
    rfl
   ·rw [hc]
    exact et k_lskip <| et blk_normal <| kl ⟨[(0, (sSearch a0)), (1, (V.fn a1_fid [] [V.pro a1_c0])), (7, (I (a0.length : Int))), (8, (I (Go.IntKind.wrap .i64 (x4 + 1))))], [], 19⟩ rfl <| et loop_normal <| ih (Go.IntKind.wrap .i64 (x4 + 1))
  ·rw [hc]
   exact et k_exit <| et loop_exit <| hK0 x4
theorem slices_IndexFunc_Search_ok (k : Nat) (a0 : (List T_api_Search)) (a1 : Nat → T_api_Search → Option Bool) (a1_fid : Go.FuncId) (a1_c0 : V) (a1_hok : ∀ j x0, EV j a1_fid [(eSearch x0), V.pro a1_c0] = (a1 j x0).map fun b => ((Bo b), [])) : EV k 117 [(sSearch a0), (V.fn a1_fid [] [V.pro a1_c0])] = (slices_IndexFunc_Search k a0 a1).map slices_IndexFunc_Search_fin := by
 cases k with
 | zero => rfl
 | succ k =>
  unfold slices_IndexFunc_Search
  refine et (evF_succ (c := f117c) (N := 19) (regs := f117n) rfl func117 rfl (by decide) rfl rfl rfl) <| kra [] rfl <| et k_assoc <| krp f117a1 rfl ⟨[(0, (sSearch a0)), (1, (V.fn a1_fid [] [V.pro a1_c0])), (7, (I (a0.length : Int))), (8, (I 0))], [], 19⟩ ?_ ?_
  ·exact rd 1 [(6, (sSearch a0))] rfl rfl <| rl rfl (p_len (e := eSearch) rfl rfl rfl rfl rfl rfl underlying23) <| bind_end rfl
  refine et (k_block rfl) <| et k_loop ?_
  refine slices_IndexFunc_Search_L1_ok k a0 a1 a1_fid a1_c0 a1_hok _ _ ?h_slices_IndexFunc_Search_L1_0 ?hr_slices_IndexFunc_Search_L1 k 0
  ·intro y8
   refine et blk_exit <| kr ⟨[(4, (I (-1)))], [], 19⟩ rfl <| et k_lret ?_
   rfl
  ·intro s; exact rfl
def slices_ContainsFunc_Search_fin : Bool → V × List V := fun r => ((Bo r), [])
theorem slices_ContainsFunc_Search_ok (k : Nat) (a0 : (List T_api_Search)) (a1 : Nat → T_api_Search → Option Bool) (a1_fid : Go.FuncId) (a1_c0 : V) (a1_hok : ∀ j x0, EV j a1_fid [(eSearch x0), V.pro a1_c0] = (a1 j x0).map fun b => ((Bo b), [])) : EV k 113 [(sSearch a0), (V.fn a1_fid [] [V.pro a1_c0])] = (slices_ContainsFunc_Search k a0 a1).map slices_ContainsFunc_Search_fin := by
 cases k with
 | zero => rfl
 | succ k =>
  unfold slices_ContainsFunc_Search
  refine et (evF_succ (c := f113c) (N := 9) (regs := f113n) rfl func113 rfl (by decide) rfl rfl rfl) <| kra [] rfl <| kg f113a1 rfl (fun (o2 : Bool) => ⟨[(4, (Bo o2))], [], 9⟩) (rd 2 [(5, (sSearch a0)), (6, (V.fn a1_fid [] [V.pro a1_c0]))] rfl rfl <| rp rfl (p_call rfl rfl rfl rfl rfl (slices_IndexFunc_Search_ok k a0 a1 a1_fid a1_c0 a1_hok) (.inl rfl)) fun v1 => bind_end rfl) fun o2 => et k_lret ?_
  rfl
def dbd_areIndexes_1_fin : Bool → V × List V := fun r => ((Bo r), [])
theorem dbd_areIndexes_1_ok (k : Nat) (a0 : T_api_Search) (a1 : T_api_Search) : EV k 114 [(eSearch a0), (Pr (eSearch a1))] = (dbd_areIndexes_1 k a0 a1).map dbd_areIndexes_1_fin := by
 cases k with
 | zero => rfl
 | succ k =>
  unfold dbd_areIndexes_1
  refine et (evF_succ (c := f114c) (N := 9) (regs := f114n) rfl func114 rfl (by decide) rfl rfl rfl) <| kr ⟨[(1, (Pr (eSearch a1))), (2, (Pt 2))], [(2, vS 4 (eSearch a0))], 9⟩ rfl <| kr ⟨[(3, (Bo (a0.fName == a1.fName)))], [], 9⟩ rfl <| et k_lret ?_
  rfl
def dbd_areIndexes_fin : Bool → V × List V := fun r => ((Bo r), [])
theorem dbd_areIndexes_L1_ok (k : Nat) (a0 : (List T_api_Search)) (a1 : (List T_api_Type))  (K0 : Int → Option Bool) (Kst : X × St → Option (V × List V)) (hK0 : ∀ (y0 : Int), Kst (X.exit 0, ⟨[(0, (sSearch a0)), (1, (sType a1)), (8, (sSearch a0)), (9, (I (a0.length : Int))), (10, (I y0)), (11, (Bo false))], [], 73⟩) = (K0 y0).map dbd_areIndexes_fin) (hret : ∀ s, Kst (X.ret, s) = endK prog 73 [(sSearch a0), (sType a1)] [] [.tmp 4] (X.ret, s)) :
  ∀ (m : Nat) (x11 : Int), (iter (exec prog (EV k) f103n k f103b0) m ⟨[(0, (sSearch a0)), (1, (sType a1)), (8, (sSearch a0)), (9, (I (a0.length : Int))), (10, (I x11))], [], 73⟩).bind Kst = (dbd_areIndexes_L1 k a0 a1 K0 m x11).map dbd_areIndexes_fin := by
 intro m
 induction m with
 | zero => intros; rfl
 | succ m ih =>
  intro x11
  unfold dbd_areIndexes_L1
  refine et k_round <| kra [(11, (Bo (decide (x11 < (a0.length : Int)))))] rfl <| kc rfl rfl (fun hc => ?_) fun hc => ?_
  ·rw [hc]
   refine et k_skip <| et (k_block rfl) <| kg f103a3 rfl (fun (o13 : Int × T_api_Search) => ⟨[(0, (sSearch a0)), (1, (sType a1)), (5, (I o13.1)), (6, (Pt 6)), (8, (sSearch a0)), (9, (I (a0.length : Int))), (10, (I x11))], [(6, vS 4 (eSearch o13.2))], 73⟩) (rd 1 [(12, (I x11))] rfl rfl <| rp rfl (p_index (e := eSearch) rfl rfl rfl underlying23 rfl (by decide)) fun v12 => bind_end rfl) fun o13 => et k_assoc <| kg f103a4 rfl (fun (o17 : Bool) => ⟨[(0, (sSearch a0)), (1, (sType a1)), (6, (Pt 6)), (8, (sSearch a0)), (9, (I (a0.length : Int))), (10, (I x11)), (43, (Bo o17))], [(6, vS 4 (eSearch o13.2))], 73⟩) ?_ fun o17 => ?_
   ·refine rd 2 [(15, (Pt 6)), (16, (Sr o13.2.fName))] rfl rfl <| rp rfl (p_call rfl rfl rfl rfl rfl (dbd_IsName_ok k o13.2.fName) (.inl rfl)) fun v14 => bd 5 [(17, (Bo v14)), (18, (Bo (!v14))), (19, (Bo (!v14)))] rfl rfl <| bifE (fun hc => ?_) fun hc => ?_
    ·rw [hc]
     exact reg_end rfl
    ·rw [hc]
     refine rd 10 [(20, (V.ptr 6 0 1)), (21, (I o13.2.fType)), (22, (Bo (decide (o13.2.fType < 0)))), (23, (Bo (decide (o13.2.fType < 0)))), (24, (Bo (decide (o13.2.fType < 0))))] rfl rfl <| bifE (fun hc => ?_) fun hc => ?_
     ·rw [hc]
      exact reg_end rfl
     ·rw [hc]
      refine rd 13 [(25, (V.ptr 6 0 1)), (26, (I o13.2.fType)), (27, (sType a1))] rfl rfl <| rl rfl (p_len (e := eType) rfl rfl rfl rfl rfl rfl underlying22) <| bd 17 [(28, (I (a1.length : Int))), (29, (Bo (decide (o13.2.fType ≥ (a1.length : Int))))), (30, (Bo (decide (o13.2.fType ≥ (a1.length : Int))))), (31, (Bo (decide (o13.2.fType ≥ (a1.length : Int)))))] rfl rfl <| bifE (fun hc => ?_) fun hc => ?_
      ·rw [hc]
       exact reg_end rfl
      ·rw [hc]
       refine rd 23 [(32, (V.ptr 6 0 3)), (33, (Sr o13.2.fSparse)), (34, (I (o13.2.fSparse.length : Int))), (35, (Bo (decide ((o13.2.fSparse.length : Int) > 1)))), (36, (Bo (decide ((o13.2.fSparse.length : Int) > 1)))), (37, (Bo (decide ((o13.2.fSparse.length : Int) > 1))))] rfl rfl <| bifE (fun hc => ?_) fun hc => ?_
       ·rw [hc]
        exact reg_end rfl
       ·rw [hc]
        exact rd 25 [(38, (sSearch a0)), (39, (I o13.1))] rfl rfl <| rp rfl (p_slice (e := eSearch) rfl rfl rfl rfl rfl rfl underlying23 rfl (by decide)) fun v15 => bd 27 [(40, (sSearch v15)), (41, (V.fn 114 [] [(Pt 6)]))] rfl rfl <| rs rfl (p_call rfl rfl rfl rfl rfl (slices_ContainsFunc_Search_ok k v15 (fun j x0 => (dbd_areIndexes_1 j x0 o13.2)) 114 (eSearch o13.2) (fun j x0 => (dbd_areIndexes_1_ok j x0 o13.2))) (.inr (fun _ => rfl))) fun v16 => bind_end rfl
   refine kc rfl rfl (fun hc => ?_) fun hc => ?_
   ·rw [hc]
    refine et k_assoc <| kr ⟨[(4, (Bo false))], [], 73⟩ rfl <| et k_ret <| et blk_ret <| et loop_ret <| et (hret _) ?_
    rfl
   ·rw [hc]
    refine et k_skip <| kg f103a6 rfl (fun (o19 : (List T_api_Field)) => ⟨[(0, (sSearch a0)), (1, (sType a1)), (6, (Pt 6)), (7, (sField o19)), (8, (sSearch a0)), (9, (I (a0.length : Int))), (10, (I x11))], [(6, vS 4 (eSearch o13.2))], 73⟩) (rd 3 [(44, (sType a1)), (45, (V.ptr 6 0 1)), (46, (I o13.2.fType))] rfl rfl <| rp rfl (p_index (e := eType) rfl rfl rfl underlying22 rfl (by decide)) fun v18 => bind_end rfl) fun o19 => kg f103a7 rfl (fun (o21 : Bool) => ⟨[(0, (sSearch a0)), (1, (sType a1)), (8, (sSearch a0)), (9, (I (a0.length : Int))), (10, (I x11)), (68, (Bo o21))], [], 73⟩) ?_ fun o21 => ?_
    ·refine rd 4 [(50, (V.ptr 6 0 2)), (51, (I o13.2.fField)), (52, (Bo (decide (o13.2.fField < 0)))), (53, (Bo (decide (o13.2.fField < 0))))] rfl rfl <| bifE (fun hc => ?_) fun hc => ?_
     ·rw [hc]
      exact reg_end rfl
     ·rw [hc]
      refine rd 7 [(54, (V.ptr 6 0 2)), (55, (I o13.2.fField)), (56, (sField o19))] rfl rfl <| rl rfl (p_len (e := eField) rfl rfl rfl rfl rfl rfl underlying43) <| bd 11 [(57, (I (o19.length : Int))), (58, (Bo (decide (o13.2.fField ≥ (o19.length : Int))))), (59, (Bo (decide (o13.2.fField ≥ (o19.length : Int))))), (60, (Bo (decide (o13.2.fField ≥ (o19.length : Int)))))] rfl rfl <| bifE (fun hc => ?_) fun hc => ?_
      ·rw [hc]
       exact reg_end rfl
      ·rw [hc]
       exact rd 14 [(61, (sField o19)), (62, (V.ptr 6 0 2)), (63, (I o13.2.fField))] rfl rfl <| rp rfl (p_index (e := eField) rfl rfl rfl underlying43 rfl (by decide)) fun v20 => bind_end rfl
    refine kcl rfl rfl (fun hc => ?_) fun hc => ?_
    ·rw [hc]
     refine kr ⟨[(4, (Bo false))], [], 73⟩ rfl <| et k_lret <| et blk_ret <| et loop_ret <| et (hret _) ?_
     rfl
    ·rw [hc]
     exact et k_lskip <| et blk_normal <| kl ⟨[(0, (sSearch a0)), (1, (sType a1)), (8, (sSearch a0)), (9, (I (a0.length : Int))), (10, (I (Go.IntKind.wrap .i64 (x11 + 1))))], [], 73⟩ rfl <| et loop_normal <| ih (Go.IntKind.wrap .i64 (x11 + 1))
  ·rw [hc]
   exact et k_exit <| et loop_exit <| hK0 x11
theorem dbd_areIndexes_ok (k : Nat) (a0 : (List T_api_Search)) (a1 : (List T_api_Type)) : EV k 103 [(sSearch a0), (sType a1)] = (dbd_areIndexes k a0 a1).map dbd_areIndexes_fin := by
 cases k with
 | zero => rfl
 | succ k =>
  unfold dbd_areIndexes
  refine et (evF_succ (c := f103c) (N := 73) (regs := f103n) rfl func103 rfl (by decide) rfl rfl rfl) <| kra [] rfl <| et k_assoc <| krp f103a1 rfl ⟨[(0, (sSearch a0)), (1, (sType a1)), (8, (sSearch a0)), (9, (I (a0.length : Int))), (10, (I 0))], [], 73⟩ ?_ ?_
  ·exact rd 1 [(8, (sSearch a0))] rfl rfl <| rl rfl (p_len (e := eSearch) rfl rfl rfl rfl rfl rfl underlying23) <| bind_end rfl
  refine et (k_block rfl) <| et k_loop ?_
  refine dbd_areIndexes_L1_ok k a0 a1 _ _ ?h_dbd_areIndexes_L1_0 ?hr_dbd_areIndexes_L1 k 0
  ·intro y22
   refine et blk_exit <| krp f103a10 rfl ⟨[(4, (Bo (decide ((a0.length : Int) ≤ 3))))], [], 73⟩ ?_ ?_
   ·exact rd 1 [(70, (sSearch a0))] rfl rfl <| rl rfl (p_len (e := eSearch) rfl rfl rfl rfl rfl rfl underlying23) <| bind_end rfl
   refine et k_lret ?_
   rfl
  ·intro s; exact rfl
def dbd_Valid_fin : Bool → V × List V := fun r => ((Bo r), [])
theorem dbd_Valid_ok (k : Nat) (a0 : T_api_Base) : EV k 90 [(eBase a0)] = (dbd_Valid k a0).map dbd_Valid_fin := by
 cases k with
 | zero => rfl
 | succ k =>
  unfold dbd_Valid
  refine et (evF_succ (c := f90c) (N := 28) (regs := f90n) rfl func90 rfl (by decide) rfl rfl rfl) <| kr ⟨[(1, (Pt 1))], [(1, vS 4 (eBase a0))], 28⟩ rfl <| kg f90a1 rfl (fun (o4 : Bool) => ⟨[(2, (Bo o4))], [], 28⟩) ?_ fun o4 => ?_
  ·refine rd 2 [(3, (Pt 1)), (4, (Sr a0.fName))] rfl rfl <| rp rfl (p_call rfl rfl rfl rfl rfl (dbd_IsName_ok k a0.fName) (.inl rfl)) fun v1 => bd 4 [(5, (Bo v1)), (6, (Bo v1))] rfl rfl <| bifE (fun hc => ?_) fun hc => ?_
   ·rw [hc]
    refine rd 9 [(7, (V.ptr 1 0 1)), (8, (I a0.fKind)), (9, (Bo (decide (a0.fKind ≥ 1)))), (10, (Bo (decide (a0.fKind ≥ 1)))), (11, (Bo (decide (a0.fKind ≥ 1))))] rfl rfl <| bifE (fun hc => ?_) fun hc => ?_
    ·rw [hc]
     refine rd 14 [(12, (V.ptr 1 0 1)), (13, (I a0.fKind)), (14, (Bo (decide (a0.fKind ≤ 4)))), (15, (Bo (decide (a0.fKind ≤ 4)))), (16, (Bo (decide (a0.fKind ≤ 4))))] rfl rfl <| bifE (fun hc => ?_) fun hc => ?_
     ·rw [hc]
      refine rd 16 [(17, (V.ptr 1 0 2)), (18, (sType a0.fTypes))] rfl rfl <| rp rfl (p_call rfl rfl rfl rfl rfl (dbd_areTypes_ok k a0.fTypes) (.inl rfl)) fun v2 => bd 19 [(19, (Bo v2)), (20, (Bo v2)), (21, (Bo v2))] rfl rfl <| bifE (fun hc => ?_) fun hc => ?_
      ·rw [hc]
       exact rd 23 [(22, (V.ptr 1 0 3)), (23, (sSearch a0.fIndexes)), (24, (V.ptr 1 0 2)), (25, (sType a0.fTypes))] rfl rfl <| rs rfl (p_call rfl rfl rfl rfl rfl (dbd_areIndexes_ok k a0.fIndexes a0.fTypes) (.inl rfl)) fun v3 => bind_end rfl
      ·rw [hc]
       exact reg_end rfl
     ·rw [hc]
      exact reg_end rfl
    ·rw [hc]
     exact reg_end rfl
   ·rw [hc]
    exact reg_end rfl
  refine et k_lret ?_
  rfl
def slices_IndexFunc_int_fin : Int → V × List V := fun r => ((I r), [])
theorem slices_IndexFunc_int_L1_ok (k : Nat) (a0 : (List Int)) (a1 : Nat → Int → Option Bool) (a1_fid : Go.FuncId) (a1_c0 : V) (a1_hok : ∀ j x0, EV j a1_fid [(I x0), V.pro a1_c0] = (a1 j x0).map fun b => ((Bo b), [])) (K0 : Int → Option Int) (Kst : X × St → Option (V × List V)) (hK0 : ∀ (y0 : Int), Kst (X.exit 0, ⟨[(0, (sI a0)), (1, (V.fn a1_fid [] [V.pro a1_c0])), (7, (I (a0.length : Int))), (8, (I y0)), (9, (Bo false))], [], 19⟩) = (K0 y0).map slices_IndexFunc_int_fin) (hret : ∀ s, Kst (X.ret, s) = endK prog 19 [(sI a0), (V.fn a1_fid [] [V.pro a1_c0])] [] [.tmp 4] (X.ret, s)) :
  ∀ (m : Nat) (x4 : Int), (iter (exec prog (EV k) f104n k f104b0) m ⟨[(0, (sI a0)), (1, (V.fn a1_fid [] [V.pro a1_c0])), (7, (I (a0.length : Int))), (8, (I x4))], [], 19⟩).bind Kst = (slices_IndexFunc_int_L1 k a0 a1 K0 m x4).map slices_IndexFunc_int_fin := by
 intro m
 induction m with
 | zero => intros; rfl
 | succ m ih =>
  intro x4
  unfold slices_IndexFunc_int_L1
  refine et k_round <| kra [(9, (Bo (decide (x4 < (a0.length : Int)))))] rfl <| kc rfl rfl (fun hc => ?_) fun hc => ?_
  ·rw [hc]
   refine et k_skip <| et (k_block rfl) <| kr ⟨[(0, (sI a0)), (1, (V.fn a1_fid [] [V.pro a1_c0])), (5, (I x4)), (7, (I (a0.length : Int))), (8, (I x4))], [], 19⟩ rfl <| kga f104a4 rfl (fun (o7 : Bool) => [(16, (Bo o7))]) (rd 3 [(11, (V.fn a1_fid [] [V.pro a1_c0])), (12, (sI a0)), (13, (I x4))] rfl rfl <| rp rfl (p_index (e := I) rfl rfl rfl underlying87 rfl (by decide)) fun v5 => bd 5 [(14, (Pr (I v5))), (15, (I v5))] rfl rfl <| rs rfl (p_call rfl rfl rfl rfl rfl (a1_hok k v5) (.inl rfl)) fun v6 => bind_end rfl) fun o7 => kcl rfl rfl (fun hc => ?_) fun hc => ?_
   ·rw [hc]
    refine kr ⟨[(4, (I x4))], [], 19⟩ rfl <| et k_lret <| et blk_ret <| et loop_ret <| et (hret _) ?_
    rfl
   ·rw [hc]
    exact et k_lskip <| et blk_normal <| kl ⟨[(0, (sI a0)), (1, (V.fn a1_fid [] [V.pro a1_c0])), (7, (I (a0.length : Int))), (8, (I (Go.IntKind.wrap .i64 (x4 + 1))))], [], 19⟩ rfl <| et loop_normal <| ih (Go.IntKind.wrap .i64 (x4 + 1))
  ·rw [hc]
   exact et k_exit <| et loop_exit <| hK0 x4
theorem slices_IndexFunc_int_ok (k : Nat) (a0 : (List Int)) (a1 : Nat → Int → Option Bool) (a1_fid : Go.FuncId) (a1_c0 : V) (a1_hok : ∀ j x0, EV j a1_fid [(I x0), V.pro a1_c0] = (a1 j x0).map fun b => ((Bo b), [])) : EV k 104 [(sI a0), (V.fn a1_fid [] [V.pro a1_c0])] = (slices_IndexFunc_int k a0 a1).map slices_IndexFunc_int_fin := by
 cases k with
 | zero => rfl
 | succ k =>
  unfold slices_IndexFunc_int
  refine et (evF_succ (c := f104c) (N := 19) (regs := f104n) rfl func104 rfl (by decide) rfl rfl rfl) <| kra [] rfl <| et k_assoc <| krp f104a1 rfl ⟨[(0, (sI a0)), (1, (V.fn a1_fid [] [V.pro a1_c0])), (7, (I (a0.length : Int))), (8, (I 0))], [], 19⟩ ?_ ?_
  ·exact rd 1 [(6, (sI a0))] rfl rfl <| rl rfl (p_len (e := I) rfl rfl rfl rfl rfl rfl underlying87) <| bind_end rfl
  refine et (k_block rfl) <| et k_loop ?_
  refine slices_IndexFunc_int_L1_ok k a0 a1 a1_fid a1_c0 a1_hok _ _ ?h_slices_IndexFunc_int_L1_0 ?hr_slices_IndexFunc_int_L1 k 0
  ·intro y8
   refine et blk_exit <| kr ⟨[(4, (I (-1)))], [], 19⟩ rfl <| et k_lret ?_
   rfl
  ·intro s; exact rfl
def slices_ContainsFunc_int_fin : Bool → V × List V := fun r => ((Bo r), [])
theorem slices_ContainsFunc_int_ok (k : Nat) (a0 : (List Int)) (a1 : Nat → Int → Option Bool) (a1_fid : Go.FuncId) (a1_c0 : V) (a1_hok : ∀ j x0, EV j a1_fid [(I x0), V.pro a1_c0] = (a1 j x0).map fun b => ((Bo b), [])) : EV k 91 [(sI a0), (V.fn a1_fid [] [V.pro a1_c0])] = (slices_ContainsFunc_int k a0 a1).map slices_ContainsFunc_int_fin := by
 cases k with
 | zero => rfl
 | succ k =>
  unfold slices_ContainsFunc_int
  refine et (evF_succ (c := f91c) (N := 9) (regs := f91n) rfl func91 rfl (by decide) rfl rfl rfl) <| kra [] rfl <| kg f91a1 rfl (fun (o2 : Bool) => ⟨[(4, (Bo o2))], [], 9⟩) (rd 2 [(5, (sI a0)), (6, (V.fn a1_fid [] [V.pro a1_c0]))] rfl rfl <| rp rfl (p_call rfl rfl rfl rfl rfl (slices_IndexFunc_int_ok k a0 a1 a1_fid a1_c0 a1_hok) (.inl rfl)) fun v1 => bind_end rfl) fun o2 => et k_lret ?_
  rfl
def dbd_asked_1_fin : Bool → V × List V := fun r => ((Bo r), [])
theorem dbd_asked_1_ok (k : Nat) (a0 : Int) (a1 : T_api_Base) : EV k 92 [(I a0), (Pr (eBase a1))] = (dbd_asked_1 k a0 a1).map dbd_asked_1_fin := by
 cases k with
 | zero => rfl
 | succ k =>
  unfold dbd_asked_1
  refine et (evF_succ (c := f92c) (N := 13) (regs := f92n) rfl func92 rfl (by decide) rfl rfl rfl) <| kra [] rfl <| kg f92a1 rfl (fun (o1 : Bool) => ⟨[(3, (Bo o1))], [], 13⟩) ?_ fun o1 => ?_
  ·refine rd 3 [(4, (I a0)), (5, (Bo (decide (a0 < 0)))), (6, (Bo (decide (a0 < 0))))] rfl rfl <| bifE (fun hc => ?_) fun hc => ?_
   ·rw [hc]
    exact reg_end rfl
   ·rw [hc]
    exact rd 6 [(7, (I a0)), (8, (Pr (sType a1.fTypes))), (9, (sType a1.fTypes))] rfl rfl <| rl rfl (p_len (e := eType) rfl rfl rfl rfl rfl rfl underlying22) <| bind_end rfl
  refine et k_lret ?_
  rfl
def dbd_asked_fin : Int → V × List V := fun r => ((I r), [])
theorem dbd_asked_ok (k : Nat) (a0 : T_api_Base) (a1 : (List Int)) : EV k 66 [(eBase a0), (sI a1)] = (dbd_asked k a0 a1).map dbd_asked_fin := by
 cases k with
 | zero => rfl
 | succ k =>
  unfold dbd_asked
  refine et (evF_succ (c := f66c) (N := 13) (regs := f66n) rfl func66 rfl (by decide) rfl rfl rfl) <| kr ⟨[(1, (sI a1)), (2, (Pt 2))], [(2, vS 4 (eBase a0))], 13⟩ rfl <| et (k_block rfl) <| kga f66a1 rfl (fun (o2 : Bool) => [(5, (Bo o2))]) (rd 1 [(6, (eBase a0))] rfl rfl <| rp rfl (p_call rfl rfl rfl rfl rfl (dbd_Valid_ok k a0) (.inl rfl)) fun v1 => bind_end rfl) fun o2 => kcl rfl rfl (fun hc => ?_) fun hc => ?_
  ·rw [hc]
   refine kr ⟨[(4, (I 100))], [], 13⟩ rfl <| et k_lret <| et blk_ret ?_
   rfl
  ·rw [hc]
   refine kg f66a3 rfl (fun (o4 : Bool) => ⟨[(9, (Bo o4))], [], 13⟩) (rd 2 [(10, (sI a1)), (11, (V.fn 92 [] [(Pt 2)]))] rfl rfl <| rs rfl (p_call rfl rfl rfl rfl rfl (slices_ContainsFunc_int_ok k a1 (fun j x0 => (dbd_asked_1 j x0 a0)) 92 (eBase a0) (fun j x0 => (dbd_asked_1_ok j x0 a0))) (.inr (fun _ => rfl))) fun v3 => bind_end rfl) fun o4 => kcl rfl rfl (fun hc => ?_) fun hc => ?_
   ·rw [hc]
    refine kr ⟨[(4, (I 2))], [], 13⟩ rfl <| et k_lret <| et blk_ret ?_
    rfl
   ·rw [hc]
    refine et k_lskip <| et blk_normal <| kr ⟨[(4, (I 0))], [], 13⟩ rfl <| et k_lret ?_
    rfl
def slices_Reverse_int_fin : List Int → V × List V := fun r => (.tup [], [.sl 2 1 (List.map I r)])
theorem slices_Reverse_int_ok (k : Nat) (l : List Int) : EV k 108 [(V.sl 2 1 (List.map I l))] = (slices_Reverse_int k l).map slices_Reverse_int_fin := by
 cases k with
 | zero => rfl
 | succ k => exact (evF_ext (ext := ext) (f := 108) rfl).trans (extReverseInt_map l)
def dbd_way_fin : (List Int) → V × List V := fun r => ((sI r), [])
theorem dbd_way_L1_ok (k : Nat) (a0 : T_api_Base) (a1 : Int)  (K0 : Int → (List Int) → Option (List Int)) (Kst : X × St → Option (V × List V)) (hK0 : ∀ (y0 : Int) (y1 : (List Int)), Kst (X.exit 0, ⟨[(1, (I y0)), (2, (Pt 2)), (5, (aL 5 I y1)), (7, (Bo false))], [(2, vS 4 (eBase a0)), (5, ⟨true, 1, List.map I y1⟩)], 21⟩) = (K0 y0 y1).map dbd_way_fin) (hret : ∀ s, Kst (X.ret, s) = endK prog 21 [(eBase a0), (I a1)] [] [.tmp 4] (X.ret, s)) :
  ∀ (m : Nat) (x5 : Int) (x6 : (List Int)), (iter (exec prog (EV k) f100n k f100b0) m ⟨[(1, (I x5)), (2, (Pt 2)), (5, (aL 5 I x6))], [(2, vS 4 (eBase a0)), (5, ⟨true, 1, List.map I x6⟩)], 21⟩).bind Kst = (dbd_way_L1 a0 K0 m x5 x6).map dbd_way_fin := by
 intro m
 induction m with
 | zero => intros; rfl
 | succ m ih =>
  intro x5 x6
  unfold dbd_way_L1
  refine et k_round <| et k_assoc <| kra [(7, (Bo (decide (x5 ≥ 0))))] rfl <| kc rfl rfl (fun hc => ?_) fun hc => ?_
  ·rw [hc]
   exact et k_skip <| et (k_block rfl) <| kgl f100a4 rfl (fun (o8 : (List Int)) => ⟨[(1, (I x5)), (2, (Pt 2)), (5, (aL 5 I o8))], [(2, vS 4 (eBase a0)), (5, ⟨true, 1, List.map I o8⟩)], 21⟩) (rd 3 [(14, (aL 5 I x6)), (15, (I x5)), (16, (sI (([x5] : List Int))))] rfl rfl <| et (reg_eff (x := (app x6 ([x5] : List Int))) (w := fun v7 => ((aL 5 I v7), _)) rfl rfl rfl rfl (p_appF (e := I) (l := x6) rfl rfl rfl rfl rfl rfl rfl rfl rfl rfl rfl (of_decide_eq_true rfl))) <| bind_self fun v7 => bind_end rfl) fun o8 => et blk_normal <| kgl f100a3 rfl (fun (o10 : Int) => ⟨[(1, (I o10)), (2, (Pt 2)), (5, (aL 5 I o8))], [(2, vS 4 (eBase a0)), (5, ⟨true, 1, List.map I o8⟩)], 21⟩) (rd 3 [(8, (V.ptr 2 0 2)), (9, (sType a0.fTypes)), (10, (I x5))] rfl rfl <| rp rfl (p_index (e := eType) rfl rfl rfl underlying22 rfl (by decide)) fun v9 => bind_end rfl) fun o10 => et loop_normal <| ih o10 o8
  ·rw [hc]
   exact et k_exit <| et loop_exit <| hK0 x5 x6
theorem dbd_way_ok (k : Nat) (a0 : T_api_Base) (a1 : Int) : EV k 100 [(eBase a0), (I a1)] = (dbd_way k a0 a1).map dbd_way_fin := by
 cases k with
 | zero => rfl
 | succ k =>
  unfold dbd_way
  refine et (evF_succ (c := f100c) (N := 21) (regs := f100n) rfl func100 rfl (by decide) rfl rfl rfl) <| kr ⟨[(1, (I a1)), (2, (Pt 2))], [(2, vS 4 (eBase a0))], 21⟩ rfl <| kr ⟨[(1, (I a1)), (2, (Pt 2)), (5, (aL 5 I ([] : List Int)))], [(2, vS 4 (eBase a0)), (5, ⟨true, 1, List.map I ([] : List Int)⟩)], 21⟩ rfl <| et (k_block rfl) <| et k_loop ?_
  refine dbd_way_L1_ok k a0 a1 _ _ ?h_dbd_way_L1_0 ?hr_dbd_way_L1 k a1 ([] : List Int)
  ·intro y11 y12
   refine et blk_exit <| kg f100a5 rfl (fun (o14 : (List Int)) => ⟨[(5, (aL 5 I o14))], [(5, ⟨true, 1, List.map I o14⟩)], 21⟩) (rd 1 [(18, (aL 5 I y12))] rfl rfl <| et (reg_eff (x := ((slices_Reverse_int k y12).bind (sameLen y12))) (w := fun v13 => (V.tup [], _)) rfl rfl rfl rfl (p_callL (S := (fun n_ => ⟨[(1, (I y11)), (2, (Pt 2)), (5, (V.aref 5 0 n_)), (7, (Bo false)), (18, (V.aref 5 0 n_))], [(2, vS 4 (eBase a0)), (5, ⟨true, 1, List.map I y12⟩)], 21⟩)) (e := I) rfl rfl rfl rfl rfl (argsA1 (e := I) rfl) rfl (slices_Reverse_int_ok k y12))) <| bind_self fun v13 => bind_end rfl) fun o14 => krp f100a6 rfl ⟨[(4, (sI o14))], [], 21⟩ ?_ ?_
   ·exact rd 1 [(20, (aL 5 I o14))] rfl rfl <| et (reg_eff (x := some ()) (w := fun _ => ((V.sl 2 1 (List.map I o14)), _)) rfl rfl rfl rfl (p_close (e := I) rfl rfl rfl rfl rfl (of_decide_eq_true rfl))) <| et some_bind <| bind_end rfl
   refine et k_lret ?_
   rfl
  ·intro s; exact rfl
def dbd_Way_fin : ((List Int) × Int) → V × List V := fun r => (.tup [(sI r.1), (I r.2)], [])
theorem dbd_Way_ok (k : Nat) (a0 : T_api_Base) (a1 : Int) : EV k 85 [(eBase a0), (I a1)] = (dbd_Way k a0 a1).map dbd_Way_fin := by
 cases k with
 | zero => rfl
 | succ k =>
  unfold dbd_Way
  refine et (evF_succ (c := f85c) (N := 17) (regs := f85n) rfl func85 rfl (by decide) rfl rfl rfl) <| kr ⟨[(1, (I a1)), (2, (Pt 2))], [(2, vS 4 (eBase a0))], 17⟩ rfl <| et k_assoc <| kga f85a1 rfl (fun (o2 : Int) => [(6, (I o2))]) (rd 3 [(7, (eBase a0)), (8, (I a1)), (9, (sI (([a1] : List Int))))] rfl rfl <| rs rfl (p_call rfl rfl rfl rfl rfl (dbd_asked_ok k a0 ([a1] : List Int)) (.inl rfl)) fun v1 => bind_end rfl) fun o2 => et k_assoc <| kra [(12, (Bo (o2 != 0)))] rfl <| kc rfl rfl (fun hc => ?_) fun hc => ?_
  ·rw [hc]
   refine et k_assoc <| kr ⟨[(4, (sI (([] : List Int)))), (5, (I o2))], [], 17⟩ rfl <| et k_ret ?_
   rfl
  ·rw [hc]
   refine et k_skip <| kg f85a4 rfl (fun (o4 : (List Int) × Int) => ⟨[(4, (sI o4.1)), (5, (I o4.2))], [], 17⟩) (rd 2 [(14, (eBase a0)), (15, (I a1))] rfl rfl <| rp rfl (p_call rfl rfl rfl rfl rfl (dbd_way_ok k a0 a1) (.inl rfl)) fun v3 => bind_end rfl) fun o4 => et k_lret ?_
   rfl
def dbd_Depth_fin : (Int × Int) → V × List V := fun r => (.tup [(I r.1), (I r.2)], [])
theorem dbd_Depth_ok (k : Nat) (a0 : T_api_Base) (a1 : Int) : EV k 60 [(eBase a0), (I a1)] = (dbd_Depth k a0 a1).map dbd_Depth_fin := by
 cases k with
 | zero => rfl
 | succ k =>
  unfold dbd_Depth
  refine et (evF_succ (c := f60c) (N := 17) (regs := f60n) rfl func60 rfl (by decide) rfl rfl rfl) <| kr ⟨[(1, (I a1)), (2, (Pt 2))], [(2, vS 4 (eBase a0))], 17⟩ rfl <| kg f60a1 rfl (fun (o2 : (List Int) × Int) => ⟨[(6, (sI o2.1)), (7, (I o2.2))], [], 17⟩) (rd 2 [(9, (eBase a0)), (10, (I a1))] rfl rfl <| rp rfl (p_call rfl rfl rfl rfl rfl (dbd_Way_ok k a0 a1) (.inl rfl)) fun v1 => bind_end rfl) fun o2 => krp f60a2 rfl ⟨[(4, (I (o2.1.length : Int))), (5, (I o2.2))], [], 17⟩ ?_ ?_
  ·exact rd 1 [(14, (sI o2.1))] rfl rfl <| rl rfl (p_len (e := I) rfl rfl rfl rfl rfl rfl underlying87) <| bind_end rfl
  refine et k_lret ?_
  rfl
def match_asked_fin : Int → V × List V := fun r => ((I r), [])
theorem match_asked_ok (k : Nat) (a0 : T_api_Base) (a1 : Int) : EV k 33 [(eBase a0), (I a1)] = (match_asked k a0 a1).map match_asked_fin := by
 cases k with
 | zero => rfl
 | succ k =>
  unfold match_asked
  refine et (evF_succ (c := f33c) (N := 14) (regs := f33n) rfl func33 rfl (by decide) rfl rfl rfl) <| kr ⟨[(1, (I a1)), (2, (Pt 2))], [(2, vS 4 (eBase a0))], 14⟩ rfl <| kg f33a1 rfl (fun (o2 : Int) => ⟨[(6, (I o2))], [], 14⟩) (rd 2 [(8, (eBase a0)), (9, (I a1))] rfl rfl <| rp rfl (p_call rfl rfl rfl rfl rfl (dbd_Depth_ok k a0 a1) (.inl rfl)) fun v1 => bind_end rfl) fun o2 => kr ⟨[(4, (I o2))], [], 14⟩ rfl <| et k_lret ?_
  rfl
def slices_IndexFunc_TermLL_fin : Int → V × List V := fun r => ((I r), [])
theorem slices_IndexFunc_TermLL_L1_ok (k : Nat) (a0 : (List (List (List T_api_Term)))) (a1 : Nat → (List (List T_api_Term)) → Option Bool) (a1_fid : Go.FuncId) (a1_c0 : V) (a1_hok : ∀ j x0, EV j a1_fid [(V.sl 0 1 (List.map sTerm x0)), V.pro a1_c0] = (a1 j x0).map fun b => ((Bo b), [])) (K0 : Int → Option Int) (Kst : X × St → Option (V × List V)) (hK0 : ∀ (y0 : Int), Kst (X.exit 0, ⟨[(0, (V.sl 0 1 (List.map (fun x => (V.sl 0 1 (List.map sTerm x))) a0))), (1, (V.fn a1_fid [] [V.pro a1_c0])), (7, (I (a0.length : Int))), (8, (I y0)), (9, (Bo false))], [], 19⟩) = (K0 y0).map slices_IndexFunc_TermLL_fin) (hret : ∀ s, Kst (X.ret, s) = endK prog 19 [(V.sl 0 1 (List.map (fun x => (V.sl 0 1 (List.map sTerm x))) a0)), (V.fn a1_fid [] [V.pro a1_c0])] [] [.tmp 4] (X.ret, s)) :
  ∀ (m : Nat) (x4 : Int), (iter (exec prog (EV k) f84n k f84b0) m ⟨[(0, (V.sl 0 1 (List.map (fun x => (V.sl 0 1 (List.map sTerm x))) a0))), (1, (V.fn a1_fid [] [V.pro a1_c0])), (7, (I (a0.length : Int))), (8, (I x4))], [], 19⟩).bind Kst = (slices_IndexFunc_TermLL_L1 k a0 a1 K0 m x4).map slices_IndexFunc_TermLL_fin := by
 intro m
 induction m with
 | zero => intros; rfl
 | succ m ih =>
  intro x4
  unfold slices_IndexFunc_TermLL_L1
  refine et k_round <| kra [(9, (Bo (decide (x4 < (a0.length : Int)))))] rfl <| kc rfl rfl (fun hc => ?_) fun hc => ?_
  ·rw [hc]
   refine et k_skip <| et (k_block rfl) <| kr ⟨[(0, (V.sl 0 1 (List.map (fun x => (V.sl 0 1 (List.map sTerm x))) a0))), (1, (V.fn a1_fid [] [V.pro a1_c0])), (5, (I x4)), (7, (I (a0.length : Int))), (8, (I x4))], [], 19⟩ rfl <| kga f84a4 rfl (fun (o7 : Bool) => [(16, (Bo o7))]) (rd 3 [(11, (V.fn a1_fid [] [V.pro a1_c0])), (12, (V.sl 0 1 (List.map (fun x => (V.sl 0 1 (List.map sTerm x))) a0))), (13, (I x4))] rfl rfl <| rp rfl (p_index (e := (fun x => (V.sl 0 1 (List.map sTerm x)))) rfl rfl rfl underlying95 rfl (by decide)) fun v5 => bd 5 [(14, (Pr (V.sl 0 1 (List.map sTerm v5)))), (15, (V.sl 0 1 (List.map sTerm v5)))] rfl rfl <| rs rfl (p_call rfl rfl rfl rfl rfl (a1_hok k v5) (.inl rfl)) fun v6 => bind_end rfl) fun o7 => kcl rfl rfl (fun hc => ?_) fun hc => ?_
   ·rw [hc]
    refine kr ⟨[(4, (I x4))], [], 19⟩ rfl <| et k_lret <| et blk_ret <| et loop_ret <| et (hret _) ?_
    rfl
   ·rw [hc]
    exact et k_lskip <| et blk_normal <| kl ⟨[(0, (V.sl 0 1 (List.map (fun x => (V.sl 0 1 (List.map sTerm x))) a0))), (1, (V.fn a1_fid [] [V.pro a1_c0])), (7, (I (a0.length : Int))), (8, (I (Go.IntKind.wrap .i64 (x4 + 1))))], [], 19⟩ rfl <| et loop_normal <| ih (Go.IntKind.wrap .i64 (x4 + 1))
  ·rw [hc]
   exact et k_exit <| et loop_exit <| hK0 x4
theorem slices_IndexFunc_TermLL_ok (k : Nat) (a0 : (List (List (List T_api_Term)))) (a1 : Nat → (List (List T_api_Term)) → Option Bool) (a1_fid : Go.FuncId) (a1_c0 : V) (a1_hok : ∀ j x0, EV j a1_fid [(V.sl 0 1 (List.map sTerm x0)), V.pro a1_c0] = (a1 j x0).map fun b => ((Bo b), [])) : EV k 84 [(V.sl 0 1 (List.map (fun x => (V.sl 0 1 (List.map sTerm x))) a0)), (V.fn a1_fid [] [V.pro a1_c0])] = (slices_IndexFunc_TermLL k a0 a1).map slices_IndexFunc_TermLL_fin := by
 cases k with
 | zero => rfl
 | succ k =>
  unfold slices_IndexFunc_TermLL
  refine et (evF_succ (c := f84c) (N := 19) (regs := f84n) rfl func84 rfl (by decide) rfl rfl rfl) <| kra [] rfl <| et k_assoc <| krp f84a1 rfl ⟨[(0, (V.sl 0 1 (List.map (fun x => (V.sl 0 1 (List.map sTerm x))) a0))), (1, (V.fn a1_fid [] [V.pro a1_c0])), (7, (I (a0.length : Int))), (8, (I 0))], [], 19⟩ ?_ ?_
  ·exact rd 1 [(6, (V.sl 0 1 (List.map (fun x => (V.sl 0 1 (List.map sTerm x))) a0)))] rfl rfl <| rl rfl (p_len (e := (fun x => (V.sl 0 1 (List.map sTerm x)))) rfl rfl rfl rfl rfl rfl underlying95) <| bind_end rfl
  refine et (k_block rfl) <| et k_loop ?_
  refine slices_IndexFunc_TermLL_L1_ok k a0 a1 a1_fid a1_c0 a1_hok _ _ ?h_slices_IndexFunc_TermLL_L1_0 ?hr_slices_IndexFunc_TermLL_L1 k 0
  ·intro y8
   refine et blk_exit <| kr ⟨[(4, (I (-1)))], [], 19⟩ rfl <| et k_lret ?_
   rfl
  ·intro s; exact rfl
def slices_ContainsFunc_TermLL_fin : Bool → V × List V := fun r => ((Bo r), [])
theorem slices_ContainsFunc_TermLL_ok (k : Nat) (a0 : (List (List (List T_api_Term)))) (a1 : Nat → (List (List T_api_Term)) → Option Bool) (a1_fid : Go.FuncId) (a1_c0 : V) (a1_hok : ∀ j x0, EV j a1_fid [(V.sl 0 1 (List.map sTerm x0)), V.pro a1_c0] = (a1 j x0).map fun b => ((Bo b), [])) : EV k 58 [(V.sl 0 1 (List.map (fun x => (V.sl 0 1 (List.map sTerm x))) a0)), (V.fn a1_fid [] [V.pro a1_c0])] = (slices_ContainsFunc_TermLL k a0 a1).map slices_ContainsFunc_TermLL_fin := by
 cases k with
 | zero => rfl
 | succ k =>
  unfold slices_ContainsFunc_TermLL
  refine et (evF_succ (c := f58c) (N := 9) (regs := f58n) rfl func58 rfl (by decide) rfl rfl rfl) <| kra [] rfl <| kg f58a1 rfl (fun (o2 : Bool) => ⟨[(4, (Bo o2))], [], 9⟩) (rd 2 [(5, (V.sl 0 1 (List.map (fun x => (V.sl 0 1 (List.map sTerm x))) a0))), (6, (V.fn a1_fid [] [V.pro a1_c0]))] rfl rfl <| rp rfl (p_call rfl rfl rfl rfl rfl (slices_IndexFunc_TermLL_ok k a0 a1 a1_fid a1_c0 a1_hok) (.inl rfl)) fun v1 => bind_end rfl) fun o2 => et k_lret ?_
  rfl
def slices_IndexFunc_TermL_fin : Int → V × List V := fun r => ((I r), [])
theorem slices_IndexFunc_TermL_L1_ok (k : Nat) (a0 : (List (List T_api_Term))) (a1 : Nat → (List T_api_Term) → Option Bool) (a1_fid : Go.FuncId) (a1_c0 : V) (a1_hok : ∀ j x0, EV j a1_fid [(sTerm x0), V.pro a1_c0] = (a1 j x0).map fun b => ((Bo b), [])) (K0 : Int → Option Int) (Kst : X × St → Option (V × List V)) (hK0 : ∀ (y0 : Int), Kst (X.exit 0, ⟨[(0, (V.sl 0 1 (List.map sTerm a0))), (1, (V.fn a1_fid [] [V.pro a1_c0])), (7, (I (a0.length : Int))), (8, (I y0)), (9, (Bo false))], [], 19⟩) = (K0 y0).map slices_IndexFunc_TermL_fin) (hret : ∀ s, Kst (X.ret, s) = endK prog 19 [(V.sl 0 1 (List.map sTerm a0)), (V.fn a1_fid [] [V.pro a1_c0])] [] [.tmp 4] (X.ret, s)) :
  ∀ (m : Nat) (x4 : Int), (iter (exec prog (EV k) f72n k f72b0) m ⟨[(0, (V.sl 0 1 (List.map sTerm a0))), (1, (V.fn a1_fid [] [V.pro a1_c0])), (7, (I (a0.length : Int))), (8, (I x4))], [], 19⟩).bind Kst = (slices_IndexFunc_TermL_L1 k a0 a1 K0 m x4).map slices_IndexFunc_TermL_fin := by
 intro m
 induction m with
 | zero => intros; rfl
 | succ m ih =>
  intro x4
  unfold slices_IndexFunc_TermL_L1
  refine et k_round <| kra [(9, (Bo (decide (x4 < (a0.length : Int)))))] rfl <| kc rfl rfl (fun hc => ?_) fun hc => ?_
  ·rw [hc]
   refine et k_skip <| et (k_block rfl) <| kr ⟨[(0, (V.sl 0 1 (List.map sTerm a0))), (1, (V.fn a1_fid [] [V.pro a1_c0])), (5, (I x4)), (7, (I (a0.length : Int))), (8, (I x4))], [], 19⟩ rfl <| kga f72a4 rfl (fun (o7 : Bool) => [(16, (Bo o7))]) (rd 3 [(11, (V.fn a1_fid [] [V.pro a1_c0])), (12, (V.sl 0 1 (List.map sTerm a0))), (13, (I x4))] rfl rfl <| rp rfl (p_index (e := sTerm) rfl rfl rfl underlying26 rfl (by decide)) fun v5 => bd 5 [(14, (Pr (sTerm v5))), (15, (sTerm v5))] rfl rfl <| rs rfl (p_call rfl rfl rfl rfl rfl (a1_hok k v5) (.inl rfl)) fun v6 => bind_end rfl) fun o7 => kcl rfl rfl (fun hc => ?_) fun hc => ?_
   ·rw [hc]
    refine kr ⟨[(4, (I x4))], [], 19⟩ rfl <| et k_lret <| et blk_ret <| et loop_ret <| et (hret _) ?_
    rfl
   ·rw [hc]
    exact et k_lskip <| et blk_normal <| kl ⟨[(0, (V.sl 0 1 (List.map sTerm a0))), (1, (V.fn a1_fid [] [V.pro a1_c0])), (7, (I (a0.length : Int))), (8, (I (Go.IntKind.wrap .i64 (x4 + 1))))], [], 19⟩ rfl <| et loop_normal <| ih (Go.IntKind.wrap .i64 (x4 + 1))
  ·rw [hc]
   exact et k_exit <| et loop_exit <| hK0 x4
theorem slices_IndexFunc_TermL_ok (k : Nat) (a0 : (List (List T_api_Term))) (a1 : Nat → (List T_api_Term) → Option Bool) (a1_fid : Go.FuncId) (a1_c0 : V) (a1_hok : ∀ j x0, EV j a1_fid [(sTerm x0), V.pro a1_c0] = (a1 j x0).map fun b => ((Bo b), [])) : EV k 72 [(V.sl 0 1 (List.map sTerm a0)), (V.fn a1_fid [] [V.pro a1_c0])] = (slices_IndexFunc_TermL k a0 a1).map slices_IndexFunc_TermL_fin := by
 cases k with
 | zero => rfl
 | succ k =>
  unfold slices_IndexFunc_TermL
  refine et (evF_succ (c := f72c) (N := 19) (regs := f72n) rfl func72 rfl (by decide) rfl rfl rfl) <| kra [] rfl <| et k_assoc <| krp f72a1 rfl ⟨[(0, (V.sl 0 1 (List.map sTerm a0))), (1, (V.fn a1_fid [] [V.pro a1_c0])), (7, (I (a0.length : Int))), (8, (I 0))], [], 19⟩ ?_ ?_
  ·exact rd 1 [(6, (V.sl 0 1 (List.map sTerm a0)))] rfl rfl <| rl rfl (p_len (e := sTerm) rfl rfl rfl rfl rfl rfl underlying26) <| bind_end rfl
  refine et (k_block rfl) <| et k_loop ?_
  refine slices_IndexFunc_TermL_L1_ok k a0 a1 a1_fid a1_c0 a1_hok _ _ ?h_slices_IndexFunc_TermL_L1_0 ?hr_slices_IndexFunc_TermL_L1 k 0
  ·intro y8
   refine et blk_exit <| kr ⟨[(4, (I (-1)))], [], 19⟩ rfl <| et k_lret ?_
   rfl
  ·intro s; exact rfl
def slices_ContainsFunc_TermL_fin : Bool → V × List V := fun r => ((Bo r), [])
theorem slices_ContainsFunc_TermL_ok (k : Nat) (a0 : (List (List T_api_Term))) (a1 : Nat → (List T_api_Term) → Option Bool) (a1_fid : Go.FuncId) (a1_c0 : V) (a1_hok : ∀ j x0, EV j a1_fid [(sTerm x0), V.pro a1_c0] = (a1 j x0).map fun b => ((Bo b), [])) : EV k 44 [(V.sl 0 1 (List.map sTerm a0)), (V.fn a1_fid [] [V.pro a1_c0])] = (slices_ContainsFunc_TermL k a0 a1).map slices_ContainsFunc_TermL_fin := by
 cases k with
 | zero => rfl
 | succ k =>
  unfold slices_ContainsFunc_TermL
  refine et (evF_succ (c := f44c) (N := 9) (regs := f44n) rfl func44 rfl (by decide) rfl rfl rfl) <| kra [] rfl <| kg f44a1 rfl (fun (o2 : Bool) => ⟨[(4, (Bo o2))], [], 9⟩) (rd 2 [(5, (V.sl 0 1 (List.map sTerm a0))), (6, (V.fn a1_fid [] [V.pro a1_c0]))] rfl rfl <| rp rfl (p_call rfl rfl rfl rfl rfl (slices_IndexFunc_TermL_ok k a0 a1 a1_fid a1_c0 a1_hok) (.inl rfl)) fun v1 => bind_end rfl) fun o2 => et k_lret ?_
  rfl
def slices_IndexFunc_Term_fin : Int → V × List V := fun r => ((I r), [])
theorem slices_IndexFunc_Term_L1_ok (k : Nat) (a0 : (List T_api_Term)) (a1 : Nat → T_api_Term → Option Bool) (a1_fid : Go.FuncId) (a1_c0 : V) (a1_hok : ∀ j x0, EV j a1_fid [(eTerm x0), V.pro a1_c0] = (a1 j x0).map fun b => ((Bo b), [])) (K0 : Int → Option Int) (Kst : X × St → Option (V × List V)) (hK0 : ∀ (y0 : Int), Kst (X.exit 0, ⟨[(0, (sTerm a0)), (1, (V.fn a1_fid [] [V.pro a1_c0])), (7, (I (a0.length : Int))), (8, (I y0)), (9, (Bo false))], [], 19⟩) = (K0 y0).map slices_IndexFunc_Term_fin) (hret : ∀ s, Kst (X.ret, s) = endK prog 19 [(sTerm a0), (V.fn a1_fid [] [V.pro a1_c0])] [] [.tmp 4] (X.ret, s)) :
  ∀ (m : Nat) (x4 : Int), (iter (exec prog (EV k) f71n k f71b0) m ⟨[(0, (sTerm a0)), (1, (V.fn a1_fid [] [V.pro a1_c0])), (7, (I (a0.length : Int))), (8, (I x4))], [], 19⟩).bind Kst = (slices_IndexFunc_Term_L1 k a0 a1 K0 m x4).map slices_IndexFunc_Term_fin := by
 intro m
 induction m with
 | zero => intros; rfl
 | succ m ih =>
  intro x4
  unfold slices_IndexFunc_Term_L1
  refine et k_round <| kra [(9, (Bo (decide (x4 < (a0.length : Int)))))] rfl <| kc rfl rfl (fun hc => ?_) fun hc => ?_
  ·rw [hc]
   refine et k_skip <| et (k_block rfl) <| kr ⟨[(0, (sTerm a0)), (1, (V.fn a1_fid [] [V.pro a1_c0])), (5, (I x4)), (7, (I (a0.length : Int))), (8, (I x4))], [], 19⟩ rfl <| kga f71a4 rfl (fun (o7 : Bool) => [(16, (Bo o7))]) (rd 3 [(11, (V.fn a1_fid [] [V.pro a1_c0])), (12, (sTerm a0)), (13, (I x4))] rfl rfl <| rp rfl (p_index (e := eTerm) rfl rfl rfl underlying50 rfl (by decide)) fun v5 => bd 5 [(14, (Pr (eTerm v5))), (15, (eTerm v5))] rfl rfl <| rs rfl (p_call rfl rfl rfl rfl rfl (a1_hok k v5) (.inl rfl)) fun v6 => bind_end rfl) fun o7 => kcl rfl rfl (fun hc => ?_) fun hc => ?_
   ·rw [hc]
    refine kr ⟨[(4, (I x4))], [], 19⟩ rfl <| et k_lret <| et blk_ret <| et loop_ret <| et (hret _) ?_
    rfl
   ·rw [hc]
    exact et k_lskip <| et blk_normal <| kl ⟨[(0, (sTerm a0)), (1, (V.fn a1_fid [] [V.pro a1_c0])), (7, (I (a0.length : Int))), (8, (I (Go.IntKind.wrap .i64 (x4 + 1))))], [], 19⟩ rfl <| et loop_normal <| ih (Go.IntKind.wrap .i64 (x4 + 1))
  ·rw [hc]
   exact et k_exit <| et loop_exit <| hK0 x4
theorem slices_IndexFunc_Term_ok (k : Nat) (a0 : (List T_api_Term)) (a1 : Nat → T_api_Term → Option Bool) (a1_fid : Go.FuncId) (a1_c0 : V) (a1_hok : ∀ j x0, EV j a1_fid [(eTerm x0), V.pro a1_c0] = (a1 j x0).map fun b => ((Bo b), [])) : EV k 71 [(sTerm a0), (V.fn a1_fid [] [V.pro a1_c0])] = (slices_IndexFunc_Term k a0 a1).map slices_IndexFunc_Term_fin := by
 cases k with
 | zero => rfl
 | succ k =>
  unfold slices_IndexFunc_Term
  refine et (evF_succ (c := f71c) (N := 19) (regs := f71n) rfl func71 rfl (by decide) rfl rfl rfl) <| kra [] rfl <| et k_assoc <| krp f71a1 rfl ⟨[(0, (sTerm a0)), (1, (V.fn a1_fid [] [V.pro a1_c0])), (7, (I (a0.length : Int))), (8, (I 0))], [], 19⟩ ?_ ?_
  ·exact rd 1 [(6, (sTerm a0))] rfl rfl <| rl rfl (p_len (e := eTerm) rfl rfl rfl rfl rfl rfl underlying50) <| bind_end rfl
  refine et (k_block rfl) <| et k_loop ?_
  refine slices_IndexFunc_Term_L1_ok k a0 a1 a1_fid a1_c0 a1_hok _ _ ?h_slices_IndexFunc_Term_L1_0 ?hr_slices_IndexFunc_Term_L1 k 0
  ·intro y8
   refine et blk_exit <| kr ⟨[(4, (I (-1)))], [], 19⟩ rfl <| et k_lret ?_
   rfl
  ·intro s; exact rfl
def slices_ContainsFunc_Term_fin : Bool → V × List V := fun r => ((Bo r), [])
theorem slices_ContainsFunc_Term_ok (k : Nat) (a0 : (List T_api_Term)) (a1 : Nat → T_api_Term → Option Bool) (a1_fid : Go.FuncId) (a1_c0 : V) (a1_hok : ∀ j x0, EV j a1_fid [(eTerm x0), V.pro a1_c0] = (a1 j x0).map fun b => ((Bo b), [])) : EV k 42 [(sTerm a0), (V.fn a1_fid [] [V.pro a1_c0])] = (slices_ContainsFunc_Term k a0 a1).map slices_ContainsFunc_Term_fin := by
 cases k with
 | zero => rfl
 | succ k =>
  unfold slices_ContainsFunc_Term
  refine et (evF_succ (c := f42c) (N := 9) (regs := f42n) rfl func42 rfl (by decide) rfl rfl rfl) <| kra [] rfl <| kg f42a1 rfl (fun (o2 : Bool) => ⟨[(4, (Bo o2))], [], 9⟩) (rd 2 [(5, (sTerm a0)), (6, (V.fn a1_fid [] [V.pro a1_c0]))] rfl rfl <| rp rfl (p_call rfl rfl rfl rfl rfl (slices_IndexFunc_Term_ok k a0 a1 a1_fid a1_c0 a1_hok) (.inl rfl)) fun v1 => bind_end rfl) fun o2 => et k_lret ?_
  rfl
def match_field_1_fin : Bool → V × List V := fun r => ((Bo r), [])
theorem match_field_1_ok (k : Nat) (a0 : T_api_Field) (a1 : Str) : EV k 69 [(eField a0), (Pr (Sr a1))] = (match_field_1 k a0 a1).map match_field_1_fin := by
 cases k with
 | zero => rfl
 | succ k =>
  unfold match_field_1
  refine et (evF_succ (c := f69c) (N := 8) (regs := f69n) rfl func69 rfl (by decide) rfl rfl rfl) <| kr ⟨[(1, (Pr (Sr a1))), (2, (Pt 2))], [(2, vS 3 (eField a0))], 8⟩ rfl <| kr ⟨[(3, (Bo (a0.fName == a1)))], [], 8⟩ rfl <| et k_lret ?_
  rfl
def match_field_fin : (Int × Bool) → V × List V := fun r => (.tup [(I r.1), (Bo r.2)], [])
theorem match_field_ok (k : Nat) (a0 : T_api_Type) (a1 : Str) : EV k 39 [(eType a0), (Sr a1)] = (match_field k a0 a1).map match_field_fin := by
 cases k with
 | zero => rfl
 | succ k =>
  unfold match_field
  refine et (evF_succ (c := f39c) (N := 14) (regs := f39n) rfl func39 rfl (by decide) rfl rfl rfl) <| kr ⟨[(2, (Pt 2)), (3, (Pt 3))], [(2, vS 8 (eType a0)), (3, vS 1 (Sr a1))], 14⟩ rfl <| kg f39a1 rfl (fun (o2 : Int) => ⟨[(6, (I o2))], [], 14⟩) (rd 3 [(7, (V.ptr 2 0 4)), (8, (sField a0.fFields)), (9, (V.fn 69 [] [(Pt 3)]))] rfl rfl <| rs rfl (p_call rfl rfl rfl rfl rfl (slices_IndexFunc_Field_ok k a0.fFields (fun j x0 => (match_field_1 j x0 a1)) 69 (Sr a1) (fun j x0 => (match_field_1_ok j x0 a1))) (.inr (fun _ => rfl))) fun v1 => bind_end rfl) fun o2 => kr ⟨[(4, (I o2)), (5, (Bo (decide (o2 ≥ 0))))], [], 14⟩ rfl <| et k_lret ?_
  rfl
def match_isTerm_fin : Bool → V × List V := fun r => ((Bo r), [])
theorem match_isTerm_ok (k : Nat) (a0 : T_api_Type) (a1 : T_api_Term) : EV k 63 [(eType a0), (eTerm a1)] = (match_isTerm k a0 a1).map match_isTerm_fin := by
 cases k with
 | zero => rfl
 | succ k =>
  unfold match_isTerm
  refine et (evF_succ (c := f63c) (N := 37) (regs := f63n) rfl func63 rfl (by decide) rfl rfl rfl) <| kr ⟨[(2, (Pt 2)), (3, (Pt 3))], [(2, vS 8 (eType a0)), (3, vS 3 (eTerm a1))], 37⟩ rfl <| kga f63a1 rfl (fun (o2 : Int × Bool) => [(5, (I o2.1)), (6, (Bo o2.2))]) (rd 3 [(8, (eType a0)), (9, (Pt 3)), (10, (Sr a1.fField))] rfl rfl <| rp rfl (p_call rfl rfl rfl rfl rfl (match_field_ok k a0 a1.fField) (.inl rfl)) fun v1 => bind_end rfl) fun o2 => kd f63a2 rfl (fun (o4 : Bool) => ⟨[(4, (Bo o4))], [], 37⟩) ?_ fun o4 => ?_
  ·refine et (regionE_regp (p := 24) (dk := true) (t := [(2, (Pt 2)), (3, (Pt 3)), (5, (I o2.1)), (6, (Bo o2.2))]) (σ := [(2, vS 8 (eType a0)), (3, vS 3 (eTerm a1))]) (n := 37) rfl (by decide) (by decide) rfl) <| et (regp_adv (m := 2) (j := 2) (t' := [(2, (Pt 2)), (3, (Pt 3)), (5, (I o2.1)), (6, (Bo o2.2)), (14, (Bo o2.2)), (15, (Bo o2.2))]) rfl rfl rfl) <| bifE (fun hc => ?_) fun hc => ?_
   ·rw [hc]
    refine et (regp_adv (m := 5) (j := 7) (t' := [(2, (Pt 2)), (3, (Pt 3)), (5, (I o2.1)), (6, (Bo true)), (14, (Bo true)), (15, (Bo true)), (16, (V.ptr 3 0 1)), (17, (I a1.fOp)), (18, (Bo (decide (a1.fOp ≥ 1)))), (19, (Bo (decide (a1.fOp ≥ 1)))), (20, (Bo (decide (a1.fOp ≥ 1))))]) rfl rfl rfl) <| bifE (fun hc => ?_) fun hc => ?_
    ·rw [hc]
     refine et (regp_adv (m := 5) (j := 12) (t' := [(2, (Pt 2)), (3, (Pt 3)), (5, (I o2.1)), (6, (Bo true)), (14, (Bo true)), (15, (Bo true)), (16, (V.ptr 3 0 1)), (17, (I a1.fOp)), (18, (Bo true)), (19, (Bo true)), (20, (Bo true)), (21, (V.ptr 3 0 1)), (22, (I a1.fOp)), (23, (Bo (decide (a1.fOp ≤ 6)))), (24, (Bo (decide (a1.fOp ≤ 6)))), (25, (Bo (decide (a1.fOp ≤ 6))))]) rfl rfl rfl) <| bifE (fun hc => ?_) fun hc => ?_
     ·rw [hc]
      exact et (regp_adv (m := 6) (j := 18) (t' := [(2, (Pt 2)), (3, (Pt 3)), (5, (I o2.1)), (6, (Bo true)), (14, (Bo true)), (15, (Bo true)), (16, (V.ptr 3 0 1)), (17, (I a1.fOp)), (18, (Bo true)), (19, (Bo true)), (20, (Bo true)), (21, (V.ptr 3 0 1)), (22, (I a1.fOp)), (23, (Bo true)), (24, (Bo true)), (25, (Bo true)), (26, (V.ptr 3 0 2)), (27, (Sr a1.fValue)), (28, (I (a1.fValue.length : Int))), (29, (V.ptr 2 0 4)), (30, (sField a0.fFields)), (31, (I o2.1))]) rfl rfl rfl) <| et (regp_pure (x := (idx a0.fFields o2.1)) (w := fun v3 => (Pr (eField v3))) rfl rfl rfl rfl rfl (p_index (e := eField) rfl rfl rfl underlying43 rfl (by decide))) <| bindE fun v3 => regp_end rfl
     ·rw [hc]
      exact regp_end rfl
    ·rw [hc]
     exact regp_end rfl
   ·rw [hc]
    exact regp_end rfl
  refine et k_lret ?_
  rfl
def match_valid_1_1_fin : Bool → V × List V := fun r => ((Bo r), [])
theorem match_valid_1_1_ok (k : Nat) (a0 : T_api_Term) (a1 : T_api_Type) : EV k 62 [(eTerm a0), (Pr (eType a1))] = (match_valid_1_1 k a0 a1).map match_valid_1_1_fin := by
 cases k with
 | zero => rfl
 | succ k =>
  unfold match_valid_1_1
  refine et (evF_succ (c := f62c) (N := 8) (regs := f62n) rfl func62 rfl (by decide) rfl rfl rfl) <| kr ⟨[(1, (Pr (eType a1))), (2, (Pt 2))], [(2, vS 3 (eTerm a0))], 8⟩ rfl <| kg f62a1 rfl (fun (o2 : Bool) => ⟨[(3, (Bo o2))], [], 8⟩) (rd 2 [(4, (eType a1)), (5, (eTerm a0))] rfl rfl <| rp rfl (p_call rfl rfl rfl rfl rfl (match_isTerm_ok k a1 a0) (.inl rfl)) fun v1 => bind_end rfl) fun o2 => et k_lret ?_
  rfl
def match_valid_1_fin : Bool → V × List V := fun r => ((Bo r), [])
theorem match_valid_1_ok (k : Nat) (a0 : (List T_api_Term)) (a1 : T_api_Type) : EV k 61 [(sTerm a0), (Pr (eType a1))] = (match_valid_1 k a0 a1).map match_valid_1_fin := by
 cases k with
 | zero => rfl
 | succ k =>
  unfold match_valid_1
  refine et (evF_succ (c := f61c) (N := 17) (regs := f61n) rfl func61 rfl (by decide) rfl rfl rfl) <| kra [] rfl <| kg f61a1 rfl (fun (o2 : Bool) => ⟨[(3, (Bo o2))], [], 17⟩) ?_ fun o2 => ?_
  ·refine rd 1 [(4, (sTerm a0))] rfl rfl <| rl rfl (p_len (e := eTerm) rfl rfl rfl rfl rfl rfl underlying50) <| bd 4 [(5, (I (a0.length : Int))), (6, (Bo (decide ((a0.length : Int) < 1)))), (7, (Bo (decide ((a0.length : Int) < 1))))] rfl rfl <| bifE (fun hc => ?_) fun hc => ?_
   ·rw [hc]
    exact reg_end rfl
   ·rw [hc]
    refine rd 5 [(8, (sTerm a0))] rfl rfl <| rl rfl (p_len (e := eTerm) rfl rfl rfl rfl rfl rfl underlying50) <| bd 9 [(9, (I (a0.length : Int))), (10, (Bo (decide ((a0.length : Int) > 4)))), (11, (Bo (decide ((a0.length : Int) > 4)))), (12, (Bo (decide ((a0.length : Int) > 4))))] rfl rfl <| bifE (fun hc => ?_) fun hc => ?_
    ·rw [hc]
     exact reg_end rfl
    ·rw [hc]
     exact rd 11 [(13, (sTerm a0)), (14, (V.fn 62 [] [(Pr (eType a1))]))] rfl rfl <| rs rfl (p_call rfl rfl rfl rfl rfl (slices_ContainsFunc_Term_ok k a0 (fun j x0 => (match_valid_1_1 j x0 a1)) 62 (eType a1) (fun j x0 => (match_valid_1_1_ok j x0 a1))) (.inl rfl)) fun v1 => bind_end rfl
  refine et k_lret ?_
  rfl
def match_valid_fin : Bool → V × List V := fun r => ((Bo r), [])
theorem match_valid_ok (k : Nat) (a0 : T_api_Type) (a1 : (List (List T_api_Term))) : EV k 34 [(eType a0), (V.sl 0 1 (List.map sTerm a1))] = (match_valid k a0 a1).map match_valid_fin := by
 cases k with
 | zero => rfl
 | succ k =>
  unfold match_valid
  refine et (evF_succ (c := f34c) (N := 14) (regs := f34n) rfl func34 rfl (by decide) rfl rfl rfl) <| kr ⟨[(1, (V.sl 0 1 (List.map sTerm a1))), (2, (Pt 2))], [(2, vS 8 (eType a0))], 14⟩ rfl <| kg f34a1 rfl (fun (o2 : Bool) => ⟨[(4, (Bo o2))], [], 14⟩) ?_ fun o2 => ?_
  ·refine rd 1 [(5, (V.sl 0 1 (List.map sTerm a1)))] rfl rfl <| rl rfl (p_len (e := sTerm) rfl rfl rfl rfl rfl rfl underlying26) <| bd 4 [(6, (I (a1.length : Int))), (7, (Bo (decide ((a1.length : Int) ≤ 4)))), (8, (Bo (decide ((a1.length : Int) ≤ 4))))] rfl rfl <| bifE (fun hc => ?_) fun hc => ?_
   ·rw [hc]
    exact rd 6 [(9, (V.sl 0 1 (List.map sTerm a1))), (10, (V.fn 61 [] [(Pt 2)]))] rfl rfl <| rp rfl (p_call rfl rfl rfl rfl rfl (slices_ContainsFunc_TermL_ok k a1 (fun j x0 => (match_valid_1 j x0 a0)) 61 (eType a0) (fun j x0 => (match_valid_1_ok j x0 a0))) (.inr (fun _ => rfl))) fun v1 => bind_end rfl
   ·rw [hc]
    exact reg_end rfl
  refine et k_lret ?_
  rfl
def match_conditions_1_fin : Bool → V × List V := fun r => ((Bo r), [])
theorem match_conditions_1_ok (k : Nat) (a0 : (List (List T_api_Term))) (a1 : T_api_Type) : EV k 59 [(V.sl 0 1 (List.map sTerm a0)), (Pr (eType a1))] = (match_conditions_1 k a0 a1).map match_conditions_1_fin := by
 cases k with
 | zero => rfl
 | succ k =>
  unfold match_conditions_1
  refine et (evF_succ (c := f59c) (N := 8) (regs := f59n) rfl func59 rfl (by decide) rfl rfl rfl) <| kra [] rfl <| kg f59a1 rfl (fun (o2 : Bool) => ⟨[(3, (Bo o2))], [], 8⟩) (rd 2 [(4, (eType a1)), (5, (V.sl 0 1 (List.map sTerm a0)))] rfl rfl <| rp rfl (p_call rfl rfl rfl rfl rfl (match_valid_ok k a1 a0) (.inl rfl)) fun v1 => bind_end rfl) fun o2 => et k_lret ?_
  rfl
def match_conditions_fin : (T_api_Type × Int) → V × List V := fun r => (.tup [(eType r.1), (I r.2)], [])
theorem match_conditions_ok (k : Nat) (a0 : T_api_Base) (a1 : Int) (a2 : (List (List (List T_api_Term)))) : EV k 29 [(eBase a0), (I a1), (V.sl 0 1 (List.map (fun x => (V.sl 0 1 (List.map sTerm x))) a2))] = (match_conditions k a0 a1 a2).map match_conditions_fin := by
 cases k with
 | zero => rfl
 | succ k =>
  unfold match_conditions
  refine et (evF_succ (c := f29c) (N := 27) (regs := f29n) rfl func29 rfl (by decide) rfl rfl rfl) <| kr ⟨[(1, (I a1)), (2, (V.sl 0 1 (List.map (fun x => (V.sl 0 1 (List.map sTerm x))) a2))), (3, (Pt 3)), (6, (Pt 6))], [(3, vS 4 (eBase a0)), (6, ⟨false, 8, [(V.agg [(Sr []), (I 0), (I 0), (I 0), (V.sl 2 3 (List.map eField ([] : List T_api_Field))), (I 0), (Bo false), (Bo false)])]⟩)], 27⟩ rfl <| et k_assoc <| kga f29a1 rfl (fun (o2 : Int) => [(8, (I o2))]) (rd 2 [(10, (eBase a0)), (11, (I a1))] rfl rfl <| rs rfl (p_call rfl rfl rfl rfl rfl (match_asked_ok k a0 a1) (.inl rfl)) fun v1 => bind_end rfl) fun o2 => et k_assoc <| kra [(14, (Bo (o2 != 0)))] rfl <| kc rfl rfl (fun hc => ?_) fun hc => ?_
  ·rw [hc]
   refine et k_assoc <| kr ⟨[(6, (Pt 6)), (7, (I o2))], [(6, ⟨false, 8, [(eType ({ fName := [], fParent := 0, fMin := 0, fSize := 0, fFields := ([] : List T_api_Field), fKey := 0, fUnique := false, fLast := false } : T_api_Type))]⟩)], 27⟩ rfl <| et k_ret ?_
   rfl
  ·rw [hc]
   refine et k_skip <| kg f29a4 rfl (fun (o4 : T_api_Type) => ⟨[(2, (V.sl 0 1 (List.map (fun x => (V.sl 0 1 (List.map sTerm x))) a2))), (6, (Pt 6)), (9, (Pt 9))], [(6, ⟨false, 8, [(V.agg [(Sr []), (I 0), (I 0), (I 0), (V.sl 2 3 (List.map eField ([] : List T_api_Field))), (I 0), (Bo false), (Bo false)])]⟩), (9, vS 8 (eType o4))], 27⟩) (rd 3 [(17, (V.ptr 3 0 2)), (18, (sType a0.fTypes)), (19, (I a1))] rfl rfl <| rs rfl (p_index (e := eType) rfl rfl rfl underlying22 rfl (by decide)) fun v3 => bind_end rfl) fun o4 => et k_assoc <| kg f29a5 rfl (fun (o6 : Bool) => ⟨[(6, (Pt 6)), (9, (Pt 9)), (24, (Bo o6))], [(6, ⟨false, 8, [(V.agg [(Sr []), (I 0), (I 0), (I 0), (V.sl 2 3 (List.map eField ([] : List T_api_Field))), (I 0), (Bo false), (Bo false)])]⟩), (9, vS 8 (eType o4))], 27⟩) (rd 2 [(22, (V.sl 0 1 (List.map (fun x => (V.sl 0 1 (List.map sTerm x))) a2))), (23, (V.fn 59 [] [(Pt 9)]))] rfl rfl <| rs rfl (p_call rfl rfl rfl rfl rfl (slices_ContainsFunc_TermLL_ok k a2 (fun j x0 => (match_conditions_1 j x0 o4)) 59 (eType o4) (fun j x0 => (match_conditions_1_ok j x0 o4))) (.inr (fun _ => rfl))) fun v5 => bind_end rfl) fun o6 => kc rfl rfl (fun hc => ?_) fun hc => ?_
   ·rw [hc]
    refine et k_assoc <| kr ⟨[(6, (Pt 6)), (7, (I 110))], [(6, ⟨false, 8, [(eType ({ fName := [], fParent := 0, fMin := 0, fSize := 0, fFields := ([] : List T_api_Field), fKey := 0, fUnique := false, fLast := false } : T_api_Type))]⟩)], 27⟩ rfl <| et k_ret ?_
    rfl
   ·rw [hc]
    refine et k_skip <| kr ⟨[(6, (Pt 6)), (7, (I 0))], [(6, vS 8 (eType o4))], 27⟩ rfl <| et k_lret ?_
    rfl
def strings_Repeat_fin : Str → V × List V := fun r => ((Sr r), [])
theorem strings_Repeat_ok (k : Nat) (s : Str) (n : Int) : EV k 55 [(Sr s), (I n)] = (strings_Repeat k s n).map strings_Repeat_fin := by
 cases k with
 | zero => rfl
 | succ k => exact (evF_ext (ext := ext) (f := 55) rfl).trans rfl
def match_sign_fin : Str → V × List V := fun r => ((Sr r), [])
theorem match_sign_ok (k : Nat) (a0 : Int) : EV k 56 [(I a0)] = (match_sign k a0).map match_sign_fin := by
 cases k with
 | zero => rfl
 | succ k =>
  unfold match_sign
  refine et (evF_succ (c := f56c) (N := 7) (regs := f56n) rfl func56 rfl (by decide) rfl rfl rfl) <| kra [] rfl <| kg f56a1 rfl (fun (o2 : Str) => ⟨[(2, (Sr o2))], [], 7⟩) (rd 3 [(3, (eStr ({ e0 := ([61, 32] : Str), e1 := ([60, 62] : Str), e2 := ([60, 32] : Str), e3 := ([60, 61] : Str), e4 := ([62, 32] : Str), e5 := ([62, 61] : Str) } : T_arr6_Str))), (4, (I a0)), (5, (I (Go.IntKind.wrap .i64 (a0 - 1))))] rfl rfl <| rs rfl (p_indexArr (l := ([({ e0 := ([61, 32] : Str), e1 := ([60, 62] : Str), e2 := ([60, 32] : Str), e3 := ([60, 61] : Str), e4 := ([62, 32] : Str), e5 := ([62, 61] : Str) } : T_arr6_Str).e0, ({ e0 := ([61, 32] : Str), e1 := ([60, 62] : Str), e2 := ([60, 32] : Str), e3 := ([60, 61] : Str), e4 := ([62, 32] : Str), e5 := ([62, 61] : Str) } : T_arr6_Str).e1, ({ e0 := ([61, 32] : Str), e1 := ([60, 62] : Str), e2 := ([60, 32] : Str), e3 := ([60, 61] : Str), e4 := ([62, 32] : Str), e5 := ([62, 61] : Str) } : T_arr6_Str).e2, ({ e0 := ([61, 32] : Str), e1 := ([60, 62] : Str), e2 := ([60, 32] : Str), e3 := ([60, 61] : Str), e4 := ([62, 32] : Str), e5 := ([62, 61] : Str) } : T_arr6_Str).e3, ({ e0 := ([61, 32] : Str), e1 := ([60, 62] : Str), e2 := ([60, 32] : Str), e3 := ([60, 61] : Str), e4 := ([62, 32] : Str), e5 := ([62, 61] : Str) } : T_arr6_Str).e4, ({ e0 := ([61, 32] : Str), e1 := ([60, 62] : Str), e2 := ([60, 32] : Str), e3 := ([60, 61] : Str), e4 := ([62, 32] : Str), e5 := ([62, 61] : Str) } : T_arr6_Str).e5] : List Str)) (e := V.str) rfl rfl rfl underlying126 rfl rfl rfl rfl) fun v1 => bind_end rfl) fun o2 => et k_lret ?_
  rfl
def strings_Join_fin : Str → V × List V := fun r => (Sr r, [])
theorem strings_Join_ok (k : Nat) (s : List Str) (n : Str) : EV k 57 [(sS s), (Sr n)] = (strings_Join k s n).map strings_Join_fin := by
 cases k with
 | zero => rfl
 | succ k => exact (evF_ext (ext := ext) (f := 57) rfl).trans (extStrJoin_map s n)
def match_Format_fin : (Str × Int) → V × List V := fun r => (.tup [(Sr r.1), (I r.2)], [])
theorem match_Format_L2_ok (k : Nat) (a0 : T_api_Base) (a1 : Int) (a2 : (List (List T_api_Term))) (x30 : (List Str)) (x31 : Int) (o33 : (List T_api_Term))  (K0 : Int → (List Str) → Option (Str × Int)) (Kst : X × St → Option (V × List V)) (hK0 : ∀ (y0 : Int) (y1 : (List Str)), Kst (X.exit 2, ⟨[(10, (V.sl 1 1 (List.map V.str x30))), (13, (aL 13 V.str y1)), (27, (V.sl 0 1 (List.map sTerm a2))), (28, (I (a2.length : Int))), (29, (I x31)), (33, (sTerm o33)), (34, (I (o33.length : Int))), (35, (I y0)), (36, (Bo false))], [(13, ⟨true, 1, List.map V.str y1⟩)], 66⟩) = (K0 y0 y1).map match_Format_fin) (hret : ∀ s, Kst (X.ret, s) = endK prog 66 [(eBase a0), (I a1), (V.sl 0 1 (List.map sTerm a2))] [] [.tmp 6, .tmp 7] (X.ret, s)) :
  ∀ (m : Nat) (x43 : Int) (x44 : (List Str)), (iter (exec prog (EV k) f28n k f28b0) m ⟨[(10, (V.sl 1 1 (List.map V.str x30))), (13, (aL 13 V.str x44)), (27, (V.sl 0 1 (List.map sTerm a2))), (28, (I (a2.length : Int))), (29, (I x31)), (33, (sTerm o33)), (34, (I (o33.length : Int))), (35, (I x43))], [(13, ⟨true, 1, List.map V.str x44⟩)], 66⟩).bind Kst = (match_Format_L2 k o33 K0 m x43 x44).map match_Format_fin := by
 intro m
 induction m with
 | zero => intros; rfl
 | succ m ih =>
  intro x43 x44
  unfold match_Format_L2
  refine et k_round <| kra [(36, (Bo (decide (x43 < (o33.length : Int)))))] rfl <| kc rfl rfl (fun hc => ?_) fun hc => ?_
  ·rw [hc]
   exact et k_skip <| et (k_block rfl) <| kg f28a11 rfl (fun (o46 : T_api_Term) => ⟨[(10, (V.sl 1 1 (List.map V.str x30))), (13, (aL 13 V.str x44)), (15, (Pt 15)), (27, (V.sl 0 1 (List.map sTerm a2))), (28, (I (a2.length : Int))), (29, (I x31)), (33, (sTerm o33)), (34, (I (o33.length : Int))), (35, (I x43))], [(13, ⟨true, 1, List.map V.str x44⟩), (15, vS 3 (eTerm o46))], 66⟩) (rs rfl (p_index (e := eTerm) rfl rfl rfl underlying50 rfl (by decide)) fun v45 => bind_end rfl) fun o46 => kdl f28a12 rfl (fun (o53 : (List Str)) => ⟨[(10, (V.sl 1 1 (List.map V.str x30))), (13, (aL 13 V.str o53)), (27, (V.sl 0 1 (List.map sTerm a2))), (28, (I (a2.length : Int))), (29, (I x31)), (33, (sTerm o33)), (34, (I (o33.length : Int))), (35, (I x43))], [(13, ⟨true, 1, List.map V.str o53⟩)], 66⟩) (et (regionE_regp (p := 17) (dk := true) (t := [(10, (V.sl 1 1 (List.map V.str x30))), (13, (aL 13 V.str x44)), (15, (Pt 15)), (27, (V.sl 0 1 (List.map sTerm a2))), (28, (I (a2.length : Int))), (29, (I x31)), (33, (sTerm o33)), (34, (I (o33.length : Int))), (35, (I x43))]) (σ := [(13, ⟨true, 1, List.map V.str x44⟩), (15, vS 3 (eTerm o46))]) (n := 66) rfl (by decide) (by decide) rfl) <| et (regp_adv (m := 7) (j := 7) (t' := [(10, (V.sl 1 1 (List.map V.str x30))), (13, (aL 13 V.str x44)), (15, (Pt 15)), (27, (V.sl 0 1 (List.map sTerm a2))), (28, (I (a2.length : Int))), (29, (I x31)), (33, (sTerm o33)), (34, (I (o33.length : Int))), (35, (I x43)), (39, (aL 13 V.str x44)), (40, (Pt 15)), (41, (Sr o46.fField)), (42, (Pt 15)), (43, (Sr o46.fField)), (44, (I (o46.fField.length : Int))), (45, (I (Go.IntKind.wrap .i64 (8 - (o46.fField.length : Int)))))]) rfl rfl rfl) <| et (regp_pure (x := (strings_Repeat k ([32] : Str) (Go.IntKind.wrap .i64 (8 - (o46.fField.length : Int))))) (w := fun v47 => (Sr v47)) rfl rfl rfl rfl rfl (p_call rfl rfl rfl rfl rfl (strings_Repeat_ok k ([32] : Str) (Go.IntKind.wrap .i64 (8 - (o46.fField.length : Int)))) (.inl rfl))) <| bindE fun v47 => et (putp_adv (m := 0) (j := 8) (t' := [(10, (V.sl 1 1 (List.map V.str x30))), (13, (aL 13 V.str x44)), (15, (Pt 15)), (27, (V.sl 0 1 (List.map sTerm a2))), (28, (I (a2.length : Int))), (29, (I x31)), (33, (sTerm o33)), (34, (I (o33.length : Int))), (35, (I x43)), (39, (aL 13 V.str x44)), (40, (Pt 15)), (41, (Sr o46.fField)), (42, (Pt 15)), (43, (Sr o46.fField)), (44, (I (o46.fField.length : Int))), (45, (I (Go.IntKind.wrap .i64 (8 - (o46.fField.length : Int))))), (46, (Sr v47))]) rfl rfl rfl) <| et (regp_pure (x := (cat o46.fField v47)) (w := fun v48 => (Sr v48)) rfl rfl rfl rfl rfl (p_cat rfl rfl rfl)) <| bindE fun v48 => et (putp_adv (m := 2) (j := 11) (t' := [(10, (V.sl 1 1 (List.map V.str x30))), (13, (aL 13 V.str x44)), (15, (Pt 15)), (27, (V.sl 0 1 (List.map sTerm a2))), (28, (I (a2.length : Int))), (29, (I x31)), (33, (sTerm o33)), (34, (I (o33.length : Int))), (35, (I x43)), (39, (aL 13 V.str x44)), (40, (Pt 15)), (41, (Sr o46.fField)), (42, (Pt 15)), (43, (Sr o46.fField)), (44, (I (o46.fField.length : Int))), (45, (I (Go.IntKind.wrap .i64 (8 - (o46.fField.length : Int))))), (46, (Sr v47)), (47, (Sr v48)), (48, (V.ptr 15 0 1)), (49, (I o46.fOp))]) rfl rfl rfl) <| et (regp_pure (x := (match_sign k o46.fOp)) (w := fun v49 => (Sr v49)) rfl rfl rfl rfl rfl (p_call rfl rfl rfl rfl rfl (match_sign_ok k o46.fOp) (.inl rfl))) <| bindE fun v49 => et (putp_adv (m := 0) (j := 12) (t' := [(10, (V.sl 1 1 (List.map V.str x30))), (13, (aL 13 V.str x44)), (15, (Pt 15)), (27, (V.sl 0 1 (List.map sTerm a2))), (28, (I (a2.length : Int))), (29, (I x31)), (33, (sTerm o33)), (34, (I (o33.length : Int))), (35, (I x43)), (39, (aL 13 V.str x44)), (40, (Pt 15)), (41, (Sr o46.fField)), (42, (Pt 15)), (43, (Sr o46.fField)), (44, (I (o46.fField.length : Int))), (45, (I (Go.IntKind.wrap .i64 (8 - (o46.fField.length : Int))))), (46, (Sr v47)), (47, (Sr v48)), (48, (V.ptr 15 0 1)), (49, (I o46.fOp)), (50, (Sr v49))]) rfl rfl rfl) <| et (regp_pure (x := (cat v48 v49)) (w := fun v50 => (Sr v50)) rfl rfl rfl rfl rfl (p_cat rfl rfl rfl)) <| bindE fun v50 => et (putp_adv (m := 2) (j := 15) (t' := [(10, (V.sl 1 1 (List.map V.str x30))), (13, (aL 13 V.str x44)), (15, (Pt 15)), (27, (V.sl 0 1 (List.map sTerm a2))), (28, (I (a2.length : Int))), (29, (I x31)), (33, (sTerm o33)), (34, (I (o33.length : Int))), (35, (I x43)), (39, (aL 13 V.str x44)), (40, (Pt 15)), (41, (Sr o46.fField)), (42, (Pt 15)), (43, (Sr o46.fField)), (44, (I (o46.fField.length : Int))), (45, (I (Go.IntKind.wrap .i64 (8 - (o46.fField.length : Int))))), (46, (Sr v47)), (47, (Sr v48)), (48, (V.ptr 15 0 1)), (49, (I o46.fOp)), (50, (Sr v49)), (51, (Sr v50)), (52, (V.ptr 15 0 2)), (53, (Sr o46.fValue))]) rfl rfl rfl) <| et (regp_pure (x := (cat v50 o46.fValue)) (w := fun v51 => (Sr v51)) rfl rfl rfl rfl rfl (p_cat rfl rfl rfl)) <| bindE fun v51 => et (regp_reg (m := 0) (j := 17) (st' := ⟨[(10, (V.sl 1 1 (List.map V.str x30))), (13, (aL 13 V.str x44)), (15, (Pt 15)), (27, (V.sl 0 1 (List.map sTerm a2))), (28, (I (a2.length : Int))), (29, (I x31)), (33, (sTerm o33)), (34, (I (o33.length : Int))), (35, (I x43)), (39, (aL 13 V.str x44)), (40, (Pt 15)), (41, (Sr o46.fField)), (42, (Pt 15)), (43, (Sr o46.fField)), (44, (I (o46.fField.length : Int))), (45, (I (Go.IntKind.wrap .i64 (8 - (o46.fField.length : Int))))), (46, (Sr v47)), (47, (Sr v48)), (48, (V.ptr 15 0 1)), (49, (I o46.fOp)), (50, (Sr v49)), (51, (Sr v50)), (52, (V.ptr 15 0 2)), (53, (Sr o46.fValue)), (54, (Sr v51)), (55, (sS (([v51] : List Str))))], [(13, ⟨true, 1, List.map V.str x44⟩), (15, vS 3 (eTerm o46))], 66⟩) rfl rfl rfl) <| et (reg_eff (x := (app x44 ([v51] : List Str))) (w := fun v52 => ((aL 13 V.str v52), _)) rfl rfl rfl rfl (p_appF (e := V.str) (l := x44) rfl rfl rfl rfl rfl rfl rfl rfl rfl rfl rfl (of_decide_eq_true rfl))) <| bind_self fun v52 => bind_end rfl) fun o53 => et blk_normal <| kl ⟨[(10, (V.sl 1 1 (List.map V.str x30))), (13, (aL 13 V.str o53)), (27, (V.sl 0 1 (List.map sTerm a2))), (28, (I (a2.length : Int))), (29, (I x31)), (33, (sTerm o33)), (34, (I (o33.length : Int))), (35, (I (Go.IntKind.wrap .i64 (x43 + 1))))], [(13, ⟨true, 1, List.map V.str o53⟩)], 66⟩ rfl <| et loop_normal <| ih (Go.IntKind.wrap .i64 (x43 + 1)) o53
  ·rw [hc]
   exact et k_exit <| et loop_exit <| hK0 x43 x44
theorem match_Format_L1_ok (k : Nat) (a0 : T_api_Base) (a1 : Int) (a2 : (List (List T_api_Term)))  (K0 : (List Str) → Int → Option (Str × Int)) (Kst : X × St → Option (V × List V)) (hK0 : ∀ (y0 : (List Str)) (y1 : Int), Kst (X.exit 0, ⟨[(10, (V.sl 1 1 (List.map V.str y0))), (27, (V.sl 0 1 (List.map sTerm a2))), (28, (I (a2.length : Int))), (29, (I y1)), (30, (Bo false))], [], 66⟩) = (K0 y0 y1).map match_Format_fin) (hret : ∀ s, Kst (X.ret, s) = endK prog 66 [(eBase a0), (I a1), (V.sl 0 1 (List.map sTerm a2))] [] [.tmp 6, .tmp 7] (X.ret, s)) :
  ∀ (m : Nat) (x30 : (List Str)) (x31 : Int), (iter (exec prog (EV k) f28n k f28b1) m ⟨[(10, (V.sl 1 1 (List.map V.str x30))), (27, (V.sl 0 1 (List.map sTerm a2))), (28, (I (a2.length : Int))), (29, (I x31))], [], 66⟩).bind Kst = (match_Format_L1 k a2 K0 m x30 x31).map match_Format_fin := by
 intro m
 induction m with
 | zero => intros; rfl
 | succ m ih =>
  intro x30 x31
  unfold match_Format_L1
  refine et k_round <| kra [(30, (Bo (decide (x31 < (a2.length : Int)))))] rfl <| kc rfl rfl (fun hc => ?_) fun hc => ?_
  ·rw [hc]
   refine et k_skip <| et (k_block rfl) <| kg f28a7 rfl (fun (o33 : (List T_api_Term)) => ⟨[(10, (V.sl 1 1 (List.map V.str x30))), (12, (sTerm o33)), (27, (V.sl 0 1 (List.map sTerm a2))), (28, (I (a2.length : Int))), (29, (I x31))], [], 66⟩) (rs rfl (p_index (e := sTerm) rfl rfl rfl underlying26 rfl (by decide)) fun v32 => bind_end rfl) fun o33 => kr ⟨[(10, (V.sl 1 1 (List.map V.str x30))), (12, (sTerm o33)), (13, (aL 13 V.str ([] : List Str))), (27, (V.sl 0 1 (List.map sTerm a2))), (28, (I (a2.length : Int))), (29, (I x31))], [(13, ⟨true, 1, List.map V.str ([] : List Str)⟩)], 66⟩ rfl <| et k_assoc <| krp f28a9 rfl ⟨[(10, (V.sl 1 1 (List.map V.str x30))), (13, (aL 13 V.str ([] : List Str))), (27, (V.sl 0 1 (List.map sTerm a2))), (28, (I (a2.length : Int))), (29, (I x31)), (33, (sTerm o33)), (34, (I (o33.length : Int))), (35, (I 0))], [(13, ⟨true, 1, List.map V.str ([] : List Str)⟩)], 66⟩ ?_ ?_
   ·exact rd 1 [(33, (sTerm o33))] rfl rfl <| rl rfl (p_len (e := eTerm) rfl rfl rfl rfl rfl rfl underlying50) <| bind_end rfl
   refine et (k_block rfl) <| et k_loop ?_
   refine match_Format_L2_ok k a0 a1 a2 x30 x31 o33 _ _ ?h_match_Format_L2_0 ?hr_match_Format_L2 k 0 ([] : List Str)
   ·intro y54 y55
    exact et blk_exit <| kgl f28a14 rfl (fun (o58 : (List Str)) => ⟨[(10, (V.sl 1 1 (List.map V.str o58))), (27, (V.sl 0 1 (List.map sTerm a2))), (28, (I (a2.length : Int))), (29, (I x31))], [], 66⟩) (ra 2 2 ⟨[(10, (sS x30)), (13, (aL 13 V.str y55)), (27, (V.sl 0 1 (List.map sTerm a2))), (28, (I (a2.length : Int))), (29, (I x31)), (33, (sTerm o33)), (34, (I (o33.length : Int))), (35, (I y54)), (36, (Bo false)), (58, (V.sl 1 1 (List.map V.str x30))), (59, (aL 13 V.str y55))], [(13, ⟨true, 1, List.map V.str y55⟩)], 66⟩ rfl rfl rfl <| rp rfl (p_call rfl rfl rfl rfl (argsL (lendA (e := V.str) rfl) (by intro s i q h; cases h) (argsL rfl (by intro s i q h; cases h) rfl)) (strings_Join_ok k y55 ([38] : Str)) (.inr (fun _ => rfl))) fun v56 => bd 4 [(60, (Sr v56)), (61, (sS (([v56] : List Str))))] rfl rfl <| et (reg_eff (x := (app x30 ([v56] : List Str))) (w := fun v57 => ((V.sl 1 1 (List.map V.str v57)), _)) rfl rfl rfl rfl (p_app (e := V.str) rfl rfl rfl rfl rfl rfl rfl rfl rfl rfl (by decide))) <| bind_self fun v57 => bind_end rfl) fun o58 => et blk_normal <| kl ⟨[(10, (V.sl 1 1 (List.map V.str o58))), (27, (V.sl 0 1 (List.map sTerm a2))), (28, (I (a2.length : Int))), (29, (I (Go.IntKind.wrap .i64 (x31 + 1))))], [], 66⟩ rfl <| et loop_normal <| ih o58 (Go.IntKind.wrap .i64 (x31 + 1))
   ·intro s; exact hret s
  ·rw [hc]
   exact et k_exit <| et loop_exit <| hK0 x30 x31
theorem match_Format_ok (k : Nat) (a0 : T_api_Base) (a1 : Int) (a2 : (List (List T_api_Term))) : EV k 28 [(eBase a0), (I a1), (V.sl 0 1 (List.map sTerm a2))] = (match_Format k a0 a1 a2).map match_Format_fin := by
 cases k with
 | zero => rfl
 | succ k =>
  unfold match_Format
  refine et (evF_succ (c := f28c) (N := 66) (regs := f28n) rfl func28 rfl (by decide) rfl rfl rfl) <| kr ⟨[(1, (I a1)), (2, (V.sl 0 1 (List.map sTerm a2))), (3, (Pt 3))], [(3, vS 4 (eBase a0))], 66⟩ rfl <| et k_assoc <| kg f28a1 rfl (fun (o2 : Int) => ⟨[(2, (V.sl 0 1 (List.map sTerm a2))), (9, (I o2))], [], 66⟩) (rd 4 [(17, (eBase a0)), (18, (I a1)), (19, (V.sl 0 1 (List.map sTerm a2))), (20, (V.sl 0 1 (List.map (fun x => (V.sl 0 1 (List.map sTerm x))) ([a2] : List (List (List T_api_Term))))))] rfl rfl <| rp rfl (p_call rfl rfl rfl rfl rfl (match_conditions_ok k a0 a1 ([a2] : List (List (List T_api_Term)))) (.inl rfl)) fun v1 => bind_end rfl) fun o2 => et k_assoc <| kra [(25, (Bo (o2 != 0)))] rfl <| kc rfl rfl (fun hc => ?_) fun hc => ?_
  ·rw [hc]
   refine et k_assoc <| kr ⟨[(6, (Sr ([] : Str))), (7, (I o2))], [], 66⟩ rfl <| et k_ret ?_
   rfl
  ·rw [hc]
   refine et k_skip <| kr ⟨[(2, (V.sl 0 1 (List.map sTerm a2))), (10, (V.sl 1 1 (List.map V.str ([] : List Str))))], [], 66⟩ rfl <| et k_assoc <| krp f28a5 rfl ⟨[(10, (V.sl 1 1 (List.map V.str ([] : List Str)))), (27, (V.sl 0 1 (List.map sTerm a2))), (28, (I (a2.length : Int))), (29, (I 0))], [], 66⟩ ?_ ?_
   ·exact rd 1 [(27, (V.sl 0 1 (List.map sTerm a2)))] rfl rfl <| rl rfl (p_len (e := sTerm) rfl rfl rfl rfl rfl rfl underlying26) <| bind_end rfl
   refine et (k_block rfl) <| et k_loop ?_
   refine match_Format_L1_ok k a0 a1 a2 _ _ ?h_match_Format_L1_0 ?hr_match_Format_L1 k ([] : List Str) 0
   ·intro y59 y60
    refine et blk_exit <| kg f28a16 rfl (fun (o62 : Str × Int) => ⟨[(6, (Sr o62.1)), (7, (I o62.2))], [], 66⟩) (rd 1 [(64, (sS y59))] rfl rfl <| rp rfl (p_call rfl rfl rfl rfl rfl (strings_Join_ok k y59 ([124] : Str)) (.inl rfl)) fun v61 => bind_end rfl) fun o62 => et k_lret ?_
    rfl
   ·intro s; exact rfl
def match_span_fin : (Str × Str) → V × List V := fun r => (.tup [(Sr r.1), (Sr r.2)], [])
theorem match_span_L1_ok (k : Nat) (a0 : Str) (a1 : Int) (a2 : (List T_api_Term))  (K0 : Str → Str → Int → Option (Str × Str)) (Kst : X × St → Option (V × List V)) (hK0 : ∀ (y0 : Str) (y1 : Str) (y2 : Int), Kst (X.exit 0, ⟨[(0, (Sr a0)), (6, (Sr y0)), (7, (Sr y1)), (12, (sTerm a2)), (13, (I (a2.length : Int))), (14, (I y2)), (15, (Bo false))], [], 59⟩) = (K0 y0 y1 y2).map match_span_fin) (hret : ∀ s, Kst (X.ret, s) = endK prog 59 [(Sr a0), (I a1), (sTerm a2)] [] [.tmp 6, .tmp 7] (X.ret, s)) :
  ∀ (m : Nat) (x8 : Int) (x9 : Str) (x10 : Str), (iter (exec prog (EV k) f30n k f30b0) m ⟨[(0, (Sr a0)), (6, (Sr x9)), (7, (Sr x10)), (12, (sTerm a2)), (13, (I (a2.length : Int))), (14, (I x8))], [], 59⟩).bind Kst = (match_span_L1 a0 a2 K0 m x8 x9 x10).map match_span_fin := by
 intro m
 induction m with
 | zero => intros; rfl
 | succ m ih =>
  intro x8 x9 x10
  unfold match_span_L1
  refine et k_round <| kra [(15, (Bo (decide (x8 < (a2.length : Int)))))] rfl <| kc rfl rfl (fun hc => ?_) fun hc => ?_
  ·rw [hc]
   refine et k_skip <| et (k_block rfl) <| kg f30a4 rfl (fun (o12 : T_api_Term) => ⟨[(0, (Sr a0)), (6, (Sr x9)), (7, (Sr x10)), (9, (Pt 9)), (12, (sTerm a2)), (13, (I (a2.length : Int))), (14, (I x8))], [(9, vS 3 (eTerm o12))], 59⟩) (rs rfl (p_index (e := eTerm) rfl rfl rfl underlying50 rfl (by decide)) fun v11 => bind_end rfl) fun o12 => et k_assoc <| kra [(21, (Bo (!(o12.fField == a0))))] rfl <| kc rfl rfl (fun hc => ?_) fun hc => ?_
   ·rw [hc]
    exact et k_exit <| et blk_exit <| kl ⟨[(0, (Sr a0)), (6, (Sr x9)), (7, (Sr x10)), (12, (sTerm a2)), (13, (I (a2.length : Int))), (14, (I (Go.IntKind.wrap .i64 (x8 + 1))))], [], 59⟩ rfl <| et loop_normal <| ih (Go.IntKind.wrap .i64 (x8 + 1)) x9 x10
   ·rw [hc]
    refine et k_skip <| et k_assoc <| kg f30a6 rfl (fun (o13 : Bool) => ⟨[(0, (Sr a0)), (6, (Sr x9)), (7, (Sr x10)), (9, (Pt 9)), (12, (sTerm a2)), (13, (I (a2.length : Int))), (14, (I x8)), (34, (Bo o13))], [(9, vS 3 (eTerm o12))], 59⟩) ?_ fun o13 => ?_
    ·refine rd 4 [(22, (V.ptr 9 0 1)), (23, (I o12.fOp)), (24, (Bo (o12.fOp == 1))), (25, (Bo (o12.fOp == 1)))] rfl rfl <| bifE (fun hc => ?_) fun hc => ?_
     ·rw [hc]
      exact reg_end rfl
     ·rw [hc]
      refine rd 9 [(26, (V.ptr 9 0 1)), (27, (I o12.fOp)), (28, (Bo (o12.fOp == 5))), (29, (Bo (o12.fOp == 5))), (30, (Bo (o12.fOp == 5)))] rfl rfl <| bifE (fun hc => ?_) fun hc => ?_
      ·rw [hc]
       exact reg_end rfl
      ·rw [hc]
       exact reg_end rfl
    refine kc rfl rfl (fun hc => ?_) fun hc => ?_
    ·rw [hc]
     refine kr ⟨[(0, (Sr a0)), (6, (Sr (Go.AE.maxS x9 o12.fValue))), (7, (Sr x10)), (9, (Pt 9)), (12, (sTerm a2)), (13, (I (a2.length : Int))), (14, (I x8))], [(9, vS 3 (eTerm o12))], 59⟩ rfl <| kga f30a8 rfl (fun (o14 : Bool) => [(51, (Bo o14))]) ?_ fun o14 => ?_
     ·refine rd 4 [(39, (V.ptr 9 0 1)), (40, (I o12.fOp)), (41, (Bo (o12.fOp == 1))), (42, (Bo (o12.fOp == 1)))] rfl rfl <| bifE (fun hc => ?_) fun hc => ?_
      ·rw [hc]
       exact reg_end rfl
      ·rw [hc]
       refine rd 9 [(43, (V.ptr 9 0 1)), (44, (I o12.fOp)), (45, (Bo (o12.fOp == 3))), (46, (Bo (o12.fOp == 3))), (47, (Bo (o12.fOp == 3)))] rfl rfl <| bifE (fun hc => ?_) fun hc => ?_
       ·rw [hc]
        exact reg_end rfl
       ·rw [hc]
        exact reg_end rfl
     refine kcl rfl rfl (fun hc => ?_) fun hc => ?_
     ·rw [hc]
      exact kl ⟨[(0, (Sr a0)), (6, (Sr (Go.AE.maxS x9 o12.fValue))), (7, (Sr (Go.AE.minS x10 o12.fValue))), (12, (sTerm a2)), (13, (I (a2.length : Int))), (14, (I x8))], [], 59⟩ rfl <| et blk_normal <| kl ⟨[(0, (Sr a0)), (6, (Sr (Go.AE.maxS x9 o12.fValue))), (7, (Sr (Go.AE.minS x10 o12.fValue))), (12, (sTerm a2)), (13, (I (a2.length : Int))), (14, (I (Go.IntKind.wrap .i64 (x8 + 1))))], [], 59⟩ rfl <| et loop_normal <| ih (Go.IntKind.wrap .i64 (x8 + 1)) (Go.AE.maxS x9 o12.fValue) (Go.AE.minS x10 o12.fValue)
     ·rw [hc]
      exact et k_lskip <| et blk_normal <| kl ⟨[(0, (Sr a0)), (6, (Sr (Go.AE.maxS x9 o12.fValue))), (7, (Sr x10)), (12, (sTerm a2)), (13, (I (a2.length : Int))), (14, (I (Go.IntKind.wrap .i64 (x8 + 1))))], [], 59⟩ rfl <| et loop_normal <| ih (Go.IntKind.wrap .i64 (x8 + 1)) (Go.AE.maxS x9 o12.fValue) x10
    ·rw [hc]
     refine et k_skip <| kg f30a8 rfl (fun (o15 : Bool) => ⟨[(0, (Sr a0)), (6, (Sr x9)), (7, (Sr x10)), (9, (Pt 9)), (12, (sTerm a2)), (13, (I (a2.length : Int))), (14, (I x8)), (51, (Bo o15))], [(9, vS 3 (eTerm o12))], 59⟩) ?_ fun o15 => ?_
     ·refine rd 4 [(39, (V.ptr 9 0 1)), (40, (I o12.fOp)), (41, (Bo (o12.fOp == 1))), (42, (Bo (o12.fOp == 1)))] rfl rfl <| bifE (fun hc => ?_) fun hc => ?_
      ·rw [hc]
       exact reg_end rfl
      ·rw [hc]
       refine rd 9 [(43, (V.ptr 9 0 1)), (44, (I o12.fOp)), (45, (Bo (o12.fOp == 3))), (46, (Bo (o12.fOp == 3))), (47, (Bo (o12.fOp == 3)))] rfl rfl <| bifE (fun hc => ?_) fun hc => ?_
       ·rw [hc]
        exact reg_end rfl
       ·rw [hc]
        exact reg_end rfl
     refine kcl rfl rfl (fun hc => ?_) fun hc => ?_
     ·rw [hc]
      exact kl ⟨[(0, (Sr a0)), (6, (Sr x9)), (7, (Sr (Go.AE.minS x10 o12.fValue))), (12, (sTerm a2)), (13, (I (a2.length : Int))), (14, (I x8))], [], 59⟩ rfl <| et blk_normal <| kl ⟨[(0, (Sr a0)), (6, (Sr x9)), (7, (Sr (Go.AE.minS x10 o12.fValue))), (12, (sTerm a2)), (13, (I (a2.length : Int))), (14, (I (Go.IntKind.wrap .i64 (x8 + 1))))], [], 59⟩ rfl <| et loop_normal <| ih (Go.IntKind.wrap .i64 (x8 + 1)) x9 (Go.AE.minS x10 o12.fValue)
     ·rw [hc]
      exact et k_lskip <| et blk_normal <| kl ⟨[(0, (Sr a0)), (6, (Sr x9)), (7, (Sr x10)), (12, (sTerm a2)), (13, (I (a2.length : Int))), (14, (I (Go.IntKind.wrap .i64 (x8 + 1))))], [], 59⟩ rfl <| et loop_normal <| ih (Go.IntKind.wrap .i64 (x8 + 1)) x9 x10
  ·rw [hc]
   exact et k_exit <| et loop_exit <| hK0 x9 x10 x8
theorem match_span_ok (k : Nat) (a0 : Str) (a1 : Int) (a2 : (List T_api_Term)) : EV k 30 [(Sr a0), (I a1), (sTerm a2)] = (match_span k a0 a1 a2).map match_span_fin := by
 cases k with
 | zero => rfl
 | succ k =>
  unfold match_span
  refine et (evF_succ (c := f30c) (N := 59) (regs := f30n) rfl func30 rfl (by decide) rfl rfl rfl) <| kra [(6, (Sr ([] : Str)))] rfl <| kg f30a1 rfl (fun (o2 : Str) => ⟨[(0, (Sr a0)), (2, (sTerm a2)), (6, (Sr ([] : Str))), (7, (Sr o2))], [], 59⟩) (rd 1 [(10, (I a1))] rfl rfl <| rs rfl (p_call rfl rfl rfl rfl rfl (strings_Repeat_ok k ([255] : Str) a1) (.inl rfl)) fun v1 => bind_end rfl) fun o2 => et k_assoc <| krp f30a2 rfl ⟨[(0, (Sr a0)), (6, (Sr ([] : Str))), (7, (Sr o2)), (12, (sTerm a2)), (13, (I (a2.length : Int))), (14, (I 0))], [], 59⟩ ?_ ?_
  ·exact rd 1 [(12, (sTerm a2))] rfl rfl <| rl rfl (p_len (e := eTerm) rfl rfl rfl rfl rfl rfl underlying50) <| bind_end rfl
  refine et (k_block rfl) <| et k_loop ?_
  refine match_span_L1_ok k a0 a1 a2 _ _ ?h_match_span_L1_0 ?hr_match_span_L1 k 0 ([] : Str) o2
  ·intro y16 y17 y18
   refine et blk_exit <| kr ⟨[(6, (Sr y16)), (7, (Sr y17))], [], 59⟩ rfl <| et k_lret ?_
   rfl
  ·intro s; exact rfl
def match_Range_fin : (Str × Str × Int) → V × List V := fun r => (.tup [(Sr r.1), (Sr r.2.1), (I r.2.2)], [])
theorem match_Range_L1_ok (k : Nat) (a0 : T_api_Base) (a1 : Int) (a2 : (List (List T_api_Term))) (o4 : T_api_Field)  (K0 : Str → Str → Int → Option (Str × Str × Int)) (Kst : X × St → Option (V × List V)) (hK0 : ∀ (y0 : Str) (y1 : Str) (y2 : Int), Kst (X.exit 1, ⟨[(2, (V.sl 0 1 (List.map sTerm a2))), (6, (Sr y0)), (7, (Sr y1)), (11, (Pt 11)), (38, (V.sl 0 1 (List.map sTerm a2))), (39, (I (a2.length : Int))), (40, (I y2)), (41, (Bo false))], [(11, vS 3 (eField o4))], 78⟩) = (K0 y0 y1 y2).map match_Range_fin) (hret : ∀ s, Kst (X.ret, s) = endK prog 78 [(eBase a0), (I a1), (V.sl 0 1 (List.map sTerm a2))] [] [.tmp 6, .tmp 7, .tmp 8] (X.ret, s)) :
  ∀ (m : Nat) (x9 : Str) (x10 : Str) (x11 : Int), (iter (exec prog (EV k) f11n k f11b0) m ⟨[(2, (V.sl 0 1 (List.map sTerm a2))), (6, (Sr x9)), (7, (Sr x10)), (11, (Pt 11)), (38, (V.sl 0 1 (List.map sTerm a2))), (39, (I (a2.length : Int))), (40, (I x11))], [(11, vS 3 (eField o4))], 78⟩).bind Kst = (match_Range_L1 k a2 o4 K0 m x9 x10 x11).map match_Range_fin := by
 intro m
 induction m with
 | zero => intros; rfl
 | succ m ih =>
  intro x9 x10 x11
  unfold match_Range_L1
  refine et k_round <| kra [(41, (Bo (decide (x11 < (a2.length : Int)))))] rfl <| kc rfl rfl (fun hc => ?_) fun hc => ?_
  ·rw [hc]
   refine et k_skip <| et (k_block rfl) <| kg f11a9 rfl (fun (o13 : Int × (List T_api_Term)) => ⟨[(2, (V.sl 0 1 (List.map sTerm a2))), (6, (Sr x9)), (7, (Sr x10)), (11, (Pt 11)), (12, (I o13.1)), (13, (sTerm o13.2)), (38, (V.sl 0 1 (List.map sTerm a2))), (39, (I (a2.length : Int))), (40, (I x11))], [(11, vS 3 (eField o4))], 78⟩) (rd 1 [(42, (I x11))] rfl rfl <| rp rfl (p_index (e := sTerm) rfl rfl rfl underlying26 rfl (by decide)) fun v12 => bind_end rfl) fun o13 => kg f11a10 rfl (fun (o15 : Str × Str) => ⟨[(2, (V.sl 0 1 (List.map sTerm a2))), (6, (Sr x9)), (7, (Sr x10)), (11, (Pt 11)), (12, (I o13.1)), (14, (Sr o15.1)), (15, (Sr o15.2)), (38, (V.sl 0 1 (List.map sTerm a2))), (39, (I (a2.length : Int))), (40, (I x11))], [(11, vS 3 (eField o4))], 78⟩) (rd 5 [(46, (Pt 11)), (47, (Sr o4.fName)), (48, (V.ptr 11 0 2)), (49, (I o4.fBytes)), (50, (sTerm o13.2))] rfl rfl <| rp rfl (p_call rfl rfl rfl rfl rfl (match_span_ok k o4.fName o4.fBytes o13.2) (.inl rfl)) fun v14 => bind_end rfl) fun o15 => et k_assoc <| kr ⟨[(2, (V.sl 0 1 (List.map sTerm a2))), (6, (Sr x9)), (7, (Sr x10)), (11, (Pt 11)), (14, (Sr o15.1)), (15, (Sr o15.2)), (38, (V.sl 0 1 (List.map sTerm a2))), (39, (I (a2.length : Int))), (40, (I x11)), (55, (Bo (o13.1 == 0)))], [(11, vS 3 (eField o4))], 78⟩ rfl <| kc rfl rfl (fun hc => ?_) fun hc => ?_
   ·rw [hc]
    exact kr ⟨[(2, (V.sl 0 1 (List.map sTerm a2))), (6, (Sr o15.1)), (7, (Sr o15.2)), (11, (Pt 11)), (14, (Sr o15.1)), (15, (Sr o15.2)), (38, (V.sl 0 1 (List.map sTerm a2))), (39, (I (a2.length : Int))), (40, (I x11))], [(11, vS 3 (eField o4))], 78⟩ rfl <| kl ⟨[(2, (V.sl 0 1 (List.map sTerm a2))), (6, (Sr (Go.AE.minS o15.1 o15.1))), (7, (Sr (Go.AE.maxS o15.2 o15.2))), (11, (Pt 11)), (38, (V.sl 0 1 (List.map sTerm a2))), (39, (I (a2.length : Int))), (40, (I x11))], [(11, vS 3 (eField o4))], 78⟩ rfl <| et blk_normal <| kl ⟨[(2, (V.sl 0 1 (List.map sTerm a2))), (6, (Sr (Go.AE.minS o15.1 o15.1))), (7, (Sr (Go.AE.maxS o15.2 o15.2))), (11, (Pt 11)), (38, (V.sl 0 1 (List.map sTerm a2))), (39, (I (a2.length : Int))), (40, (I (Go.IntKind.wrap .i64 (x11 + 1))))], [(11, vS 3 (eField o4))], 78⟩ rfl <| et loop_normal <| ih (Go.AE.minS o15.1 o15.1) (Go.AE.maxS o15.2 o15.2) (Go.IntKind.wrap .i64 (x11 + 1))
   ·rw [hc]
    exact et k_skip <| kl ⟨[(2, (V.sl 0 1 (List.map sTerm a2))), (6, (Sr (Go.AE.minS x9 o15.1))), (7, (Sr (Go.AE.maxS x10 o15.2))), (11, (Pt 11)), (38, (V.sl 0 1 (List.map sTerm a2))), (39, (I (a2.length : Int))), (40, (I x11))], [(11, vS 3 (eField o4))], 78⟩ rfl <| et blk_normal <| kl ⟨[(2, (V.sl 0 1 (List.map sTerm a2))), (6, (Sr (Go.AE.minS x9 o15.1))), (7, (Sr (Go.AE.maxS x10 o15.2))), (11, (Pt 11)), (38, (V.sl 0 1 (List.map sTerm a2))), (39, (I (a2.length : Int))), (40, (I (Go.IntKind.wrap .i64 (x11 + 1))))], [(11, vS 3 (eField o4))], 78⟩ rfl <| et loop_normal <| ih (Go.AE.minS x9 o15.1) (Go.AE.maxS x10 o15.2) (Go.IntKind.wrap .i64 (x11 + 1))
  ·rw [hc]
   exact et k_exit <| et loop_exit <| hK0 x9 x10 x11
theorem match_Range_ok (k : Nat) (a0 : T_api_Base) (a1 : Int) (a2 : (List (List T_api_Term))) : EV k 11 [(eBase a0), (I a1), (V.sl 0 1 (List.map sTerm a2))] = (match_Range k a0 a1 a2).map match_Range_fin := by
 cases k with
 | zero => rfl
 | succ k =>
  unfold match_Range
  refine et (evF_succ (c := f11c) (N := 78) (regs := f11n) rfl func11 rfl (by decide) rfl rfl rfl) <| kr ⟨[(1, (I a1)), (2, (V.sl 0 1 (List.map sTerm a2))), (3, (Pt 3)), (6, (Sr ([] : Str))), (7, (Sr ([] : Str)))], [(3, vS 4 (eBase a0))], 78⟩ rfl <| kg f11a1 rfl (fun (o2 : Int × T_api_Type) => ⟨[(2, (V.sl 0 1 (List.map sTerm a2))), (6, (Sr ([] : Str))), (7, (Sr ([] : Str))), (9, (Pt 9)), (10, (I o2.1))], [(9, vS 8 (eType o2.2))], 78⟩) (rd 4 [(17, (eBase a0)), (18, (I a1)), (19, (V.sl 0 1 (List.map sTerm a2))), (20, (V.sl 0 1 (List.map (fun x => (V.sl 0 1 (List.map sTerm x))) ([a2] : List (List (List T_api_Term))))))] rfl rfl <| rp rfl (p_call rfl rfl rfl rfl rfl (match_conditions_ok k a0 a1 ([a2] : List (List (List T_api_Term)))) (.inl rfl)) fun v1 => bind_end rfl) fun o2 => et (k_block rfl) <| kra [(24, (Bo (o2.1 != 0)))] rfl <| kcl rfl rfl (fun hc => ?_) fun hc => ?_
  ·rw [hc]
   refine kr ⟨[(6, (Sr ([] : Str))), (7, (Sr ([] : Str))), (8, (I o2.1))], [], 78⟩ rfl <| et k_lret <| et blk_ret ?_
   rfl
  ·rw [hc]
   refine kr ⟨[(2, (V.sl 0 1 (List.map sTerm a2))), (6, (Sr ([] : Str))), (7, (Sr ([] : Str))), (9, (Pt 9)), (28, (Bo (decide (o2.2.fKey < 0))))], [(9, vS 8 (eType o2.2))], 78⟩ rfl <| kcl rfl rfl (fun hc => ?_) fun hc => ?_
   ·rw [hc]
    refine kr ⟨[(6, (Sr ([] : Str))), (7, (Sr ([] : Str))), (8, (I 5))], [], 78⟩ rfl <| et k_lret <| et blk_ret ?_
    rfl
   ·rw [hc]
    refine et k_lskip <| et blk_normal <| kg f11a6 rfl (fun (o4 : T_api_Field) => ⟨[(2, (V.sl 0 1 (List.map sTerm a2))), (6, (Sr ([] : Str))), (7, (Sr ([] : Str))), (11, (Pt 11))], [(11, vS 3 (eField o4))], 78⟩) (rd 4 [(32, (V.ptr 9 0 4)), (33, (sField o2.2.fFields)), (34, (V.ptr 9 0 5)), (35, (I o2.2.fKey))] rfl rfl <| rs rfl (p_index (e := eField) rfl rfl rfl underlying43 rfl (by decide)) fun v3 => bind_end rfl) fun o4 => et k_assoc <| krp f11a7 rfl ⟨[(2, (V.sl 0 1 (List.map sTerm a2))), (6, (Sr ([] : Str))), (7, (Sr ([] : Str))), (11, (Pt 11)), (38, (V.sl 0 1 (List.map sTerm a2))), (39, (I (a2.length : Int))), (40, (I 0))], [(11, vS 3 (eField o4))], 78⟩ ?_ ?_
    ·exact rd 1 [(38, (V.sl 0 1 (List.map sTerm a2)))] rfl rfl <| rl rfl (p_len (e := sTerm) rfl rfl rfl rfl rfl rfl underlying26) <| bind_end rfl
    refine et (k_block rfl) <| et k_loop ?_
    refine match_Range_L1_ok k a0 a1 a2 o4 _ _ ?h_match_Range_L1_0 ?hr_match_Range_L1 k ([] : Str) ([] : Str) 0
    ·intro y16 y17 y18
     refine et blk_exit <| et k_assoc <| krp f11a15 rfl ⟨[(6, (Sr y16)), (7, (Sr y17)), (11, (Pt 11)), (67, (Bo ((a2.length : Int) == 0)))], [(11, vS 3 (eField o4))], 78⟩ ?_ ?_
     ·exact rd 1 [(65, (V.sl 0 1 (List.map sTerm a2)))] rfl rfl <| rl rfl (p_len (e := sTerm) rfl rfl rfl rfl rfl rfl underlying26) <| bind_end rfl
     refine kc rfl rfl (fun hc => ?_) fun hc => ?_
     ·rw [hc]
      refine kg f11a16 rfl (fun (o20 : Str × Str) => ⟨[(6, (Sr o20.1)), (7, (Sr o20.2))], [], 78⟩) (rd 4 [(69, (Pt 11)), (70, (Sr o4.fName)), (71, (V.ptr 11 0 2)), (72, (I o4.fBytes))] rfl rfl <| rp rfl (p_call rfl rfl rfl rfl rfl (match_span_ok k o4.fName o4.fBytes ([] : List T_api_Term)) (.inl rfl)) fun v19 => bind_end rfl) fun o20 => kra [(8, (I 0))] rfl <| et k_lret ?_
      rfl
     ·rw [hc]
      refine et k_skip <| kr ⟨[(6, (Sr y16)), (7, (Sr y17)), (8, (I 0))], [], 78⟩ rfl <| et k_lret ?_
      rfl
    ·intro s; exact rfl
def law12_Awake_fin : Bool → V × List V := fun r => ((Bo r), [])
theorem law12_Awake_ok (k : Nat)  : EV k 10 [] = (law12_Awake k).map law12_Awake_fin := by
 cases k with
 | zero => rfl
 | succ k =>
  unfold law12_Awake
  refine et (evF_succ (c := f10c) (N := 42) (regs := f10n) rfl func10 rfl (by decide) rfl rfl rfl) <| kra [] rfl <| kra [(1, (V.sl 0 1 (List.map sTerm ([([({ fField := ([67, 85, 83, 84, 78, 79] : Str), fOp := 6, fValue := ([48, 49, 48, 48] : Str) } : T_api_Term), ({ fField := ([67, 85, 83, 84, 78, 79] : Str), fOp := 4, fValue := ([48, 49, 57, 57] : Str) } : T_api_Term)] : List T_api_Term)] : List (List T_api_Term)))))] rfl <| kga f10a2 rfl (fun (o3 : Str × Int) => [(2, (Sr o3.1)), (3, (I o3.2))]) (rp rfl (p_call rfl rfl rfl rfl rfl (law12_shop_ok k) (.inl rfl)) fun v1 => bd 2 [(12, (eBase v1)), (13, (V.sl 0 1 (List.map sTerm ([([({ fField := ([67, 85, 83, 84, 78, 79] : Str), fOp := 6, fValue := ([48, 49, 48, 48] : Str) } : T_api_Term), ({ fField := ([67, 85, 83, 84, 78, 79] : Str), fOp := 4, fValue := ([48, 49, 57, 57] : Str) } : T_api_Term)] : List T_api_Term)] : List (List T_api_Term)))))] rfl rfl <| rp rfl (p_call rfl rfl rfl rfl rfl (match_Format_ok k v1 0 ([([({ fField := ([67, 85, 83, 84, 78, 79] : Str), fOp := 6, fValue := ([48, 49, 48, 48] : Str) } : T_api_Term), ({ fField := ([67, 85, 83, 84, 78, 79] : Str), fOp := 4, fValue := ([48, 49, 57, 57] : Str) } : T_api_Term)] : List T_api_Term)] : List (List T_api_Term))) (.inl rfl)) fun v2 => bind_end rfl) fun o3 => kg f10a3 rfl (fun (o6 : Str × Str × Int) => ⟨[(2, (Sr o3.1)), (3, (I o3.2)), (4, (Sr o6.1)), (5, (Sr o6.2.1)), (6, (I o6.2.2))], [], 42⟩) (rp rfl (p_call rfl rfl rfl rfl rfl (law12_shop_ok k) (.inl rfl)) fun v4 => bd 2 [(18, (eBase v4)), (19, (V.sl 0 1 (List.map sTerm ([([({ fField := ([67, 85, 83, 84, 78, 79] : Str), fOp := 6, fValue := ([48, 49, 48, 48] : Str) } : T_api_Term), ({ fField := ([67, 85, 83, 84, 78, 79] : Str), fOp := 4, fValue := ([48, 49, 57, 57] : Str) } : T_api_Term)] : List T_api_Term)] : List (List T_api_Term)))))] rfl rfl <| rp rfl (p_call rfl rfl rfl rfl rfl (match_Range_ok k v4 0 ([([({ fField := ([67, 85, 83, 84, 78, 79] : Str), fOp := 6, fValue := ([48, 49, 48, 48] : Str) } : T_api_Term), ({ fField := ([67, 85, 83, 84, 78, 79] : Str), fOp := 4, fValue := ([48, 49, 57, 57] : Str) } : T_api_Term)] : List T_api_Term)] : List (List T_api_Term))) (.inl rfl)) fun v5 => bind_end rfl) fun o6 => kg f10a4 rfl (fun (o7 : Bool) => ⟨[(0, (Bo o7))], [], 42⟩) ?_ fun o7 => ?_
  ·refine rd 3 [(24, (I o3.2)), (25, (Bo (o3.2 == 0))), (26, (Bo (o3.2 == 0)))] rfl rfl <| bifE (fun hc => ?_) fun hc => ?_
   ·rw [hc]
    refine rd 7 [(27, (I o6.2.2)), (28, (Bo (o6.2.2 == 0))), (29, (Bo (o6.2.2 == 0))), (30, (Bo (o6.2.2 == 0)))] rfl rfl <| bifE (fun hc => ?_) fun hc => ?_
    ·rw [hc]
     refine rd 11 [(31, (Sr o3.1)), (32, (Bo (o3.1 == ([67, 85, 83, 84, 78, 79, 32, 32, 62, 61, 48, 49, 48, 48, 38, 67, 85, 83, 84, 78, 79, 32, 32, 60, 61, 48, 49, 57, 57] : Str)))), (33, (Bo (o3.1 == ([67, 85, 83, 84, 78, 79, 32, 32, 62, 61, 48, 49, 48, 48, 38, 67, 85, 83, 84, 78, 79, 32, 32, 60, 61, 48, 49, 57, 57] : Str)))), (34, (Bo (o3.1 == ([67, 85, 83, 84, 78, 79, 32, 32, 62, 61, 48, 49, 48, 48, 38, 67, 85, 83, 84, 78, 79, 32, 32, 60, 61, 48, 49, 57, 57] : Str))))] rfl rfl <| bifE (fun hc => ?_) fun hc => ?_
     ·rw [hc]
      refine rd 15 [(35, (Sr o6.1)), (36, (Bo (o6.1 == ([48, 49, 48, 48] : Str)))), (37, (Bo (o6.1 == ([48, 49, 48, 48] : Str)))), (38, (Bo (o6.1 == ([48, 49, 48, 48] : Str))))] rfl rfl <| bifE (fun hc => ?_) fun hc => ?_
      ·rw [hc]
       exact reg_end rfl
      ·rw [hc]
       exact reg_end rfl
     ·rw [hc]
      exact reg_end rfl
    ·rw [hc]
     exact reg_end rfl
   ·rw [hc]
    exact reg_end rfl
  refine et k_lret ?_
  rfl
def match_Turned_fin : (Int × Int) → V × List V := fun r => (.tup [(I r.1), (I r.2)], [])
theorem match_Turned_ok (k : Nat) (a0 : Int) : EV k 13 [(I a0)] = (match_Turned k a0).map match_Turned_fin := by
 cases k with
 | zero => rfl
 | succ k =>
  unfold match_Turned
  refine et (evF_succ (c := f13c) (N := 21) (regs := f13n) rfl func13 rfl (by decide) rfl rfl rfl) <| kra [] rfl <| et k_assoc <| kra [(4, (I a0))] rfl <| et (k_block rfl) <| et k_assoc <| kra [(5, (Bo (a0 == 1)))] rfl <| kc rfl rfl (fun hc => ?_) fun hc => ?_
  ·rw [hc]
   refine et k_skip <| et (k_lcond (t := true) rfl rfl) <| kr ⟨[(2, (I a0)), (3, (I 0))], [], 21⟩ rfl <| et k_lret <| et blk_ret ?_
   rfl
  ·rw [hc]
   refine kr ⟨[(0, (I a0)), (4, (I a0)), (5, (Bo (a0 == 2)))], [], 21⟩ rfl <| kcl rfl rfl (fun hc => ?_) fun hc => ?_
   ·rw [hc]
    refine kr ⟨[(2, (I a0)), (3, (I 0))], [], 21⟩ rfl <| et k_lret <| et blk_ret ?_
    rfl
   ·rw [hc]
    refine et k_assoc <| kr ⟨[(0, (I a0)), (4, (I a0)), (9, (Bo (a0 == 3)))], [], 21⟩ rfl <| kc rfl rfl (fun hc => ?_) fun hc => ?_
    ·rw [hc]
     refine et k_skip <| et (k_lcond (t := true) rfl rfl) <| kr ⟨[(2, (I (Go.IntKind.wrap .i64 ((Go.IntKind.wrap .i64 (a0 + 5)) - 3)))), (3, (I 0))], [], 21⟩ rfl <| et k_lret <| et blk_ret ?_
     rfl
    ·rw [hc]
     refine kr ⟨[(0, (I a0)), (4, (I a0)), (9, (Bo (a0 == 4)))], [], 21⟩ rfl <| kcl rfl rfl (fun hc => ?_) fun hc => ?_
     ·rw [hc]
      refine kr ⟨[(2, (I (Go.IntKind.wrap .i64 ((Go.IntKind.wrap .i64 (a0 + 5)) - 3)))), (3, (I 0))], [], 21⟩ rfl <| et k_lret <| et blk_ret ?_
      rfl
     ·rw [hc]
      refine et k_assoc <| kr ⟨[(0, (I a0)), (4, (I a0)), (15, (Bo (a0 == 5)))], [], 21⟩ rfl <| kc rfl rfl (fun hc => ?_) fun hc => ?_
      ·rw [hc]
       refine et k_skip <| et (k_lcond (t := true) rfl rfl) <| kr ⟨[(2, (I (Go.IntKind.wrap .i64 ((Go.IntKind.wrap .i64 (a0 + 3)) - 5)))), (3, (I 0))], [], 21⟩ rfl <| et k_lret <| et blk_ret ?_
       rfl
      ·rw [hc]
       refine kr ⟨[(0, (I a0)), (15, (Bo (a0 == 6)))], [], 21⟩ rfl <| kcl rfl rfl (fun hc => ?_) fun hc => ?_
       ·rw [hc]
        refine kr ⟨[(2, (I (Go.IntKind.wrap .i64 ((Go.IntKind.wrap .i64 (a0 + 3)) - 5)))), (3, (I 0))], [], 21⟩ rfl <| et k_lret <| et blk_ret ?_
        rfl
       ·rw [hc]
        refine et k_lskip <| et blk_normal <| kr ⟨[(2, (I 0)), (3, (I 2))], [], 21⟩ rfl <| et k_lret ?_
        rfl
def dbd_fits_fin : Bool → V × List V := fun r => ((Bo r), [])
theorem dbd_fits_ok (k : Nat) (a0 : T_api_Type) (a1 : Str) : EV k 67 [(eType a0), (Sr a1)] = (dbd_fits k a0 a1).map dbd_fits_fin := by
 cases k with
 | zero => rfl
 | succ k =>
  unfold dbd_fits
  refine et (evF_succ (c := f67c) (N := 17) (regs := f67n) rfl func67 rfl (by decide) rfl rfl rfl) <| kr ⟨[(1, (Sr a1)), (2, (Pt 2))], [(2, vS 8 (eType a0))], 17⟩ rfl <| kg f67a1 rfl (fun (o1 : Bool) => ⟨[(4, (Bo o1))], [], 17⟩) ?_ fun o1 => ?_
  ·refine rd 6 [(5, (Sr a1)), (6, (I (a1.length : Int))), (7, (V.ptr 2 0 2)), (8, (I a0.fMin)), (9, (Bo (decide ((a1.length : Int) ≥ a0.fMin)))), (10, (Bo (decide ((a1.length : Int) ≥ a0.fMin))))] rfl rfl <| bifE (fun hc => ?_) fun hc => ?_
   ·rw [hc]
    exact reg_end rfl
   ·rw [hc]
    exact reg_end rfl
  refine et k_lret ?_
  rfl
def dbd_Fits_fin : (Bool × Int) → V × List V := fun r => (.tup [(Bo r.1), (I r.2)], [])
theorem dbd_Fits_ok (k : Nat) (a0 : T_api_Base) (a1 : Int) (a2 : Str) : EV k 37 [(eBase a0), (I a1), (Sr a2)] = (dbd_Fits k a0 a1 a2).map dbd_Fits_fin := by
 cases k with
 | zero => rfl
 | succ k =>
  unfold dbd_Fits
  refine et (evF_succ (c := f37c) (N := 23) (regs := f37n) rfl func37 rfl (by decide) rfl rfl rfl) <| kr ⟨[(1, (I a1)), (2, (Sr a2)), (3, (Pt 3))], [(3, vS 4 (eBase a0))], 23⟩ rfl <| et k_assoc <| kga f37a1 rfl (fun (o2 : Int) => [(8, (I o2))]) (rd 3 [(9, (eBase a0)), (10, (I a1)), (11, (sI (([a1] : List Int))))] rfl rfl <| rs rfl (p_call rfl rfl rfl rfl rfl (dbd_asked_ok k a0 ([a1] : List Int)) (.inl rfl)) fun v1 => bind_end rfl) fun o2 => et k_assoc <| kra [(14, (Bo (o2 != 0)))] rfl <| kc rfl rfl (fun hc => ?_) fun hc => ?_
  ·rw [hc]
   refine et k_assoc <| kr ⟨[(6, (Bo false)), (7, (I o2))], [], 23⟩ rfl <| et k_ret ?_
   rfl
  ·rw [hc]
   refine et k_skip <| kg f37a4 rfl (fun (o5 : Bool × Int) => ⟨[(6, (Bo o5.1)), (7, (I o5.2))], [], 23⟩) (rd 3 [(16, (V.ptr 3 0 2)), (17, (sType a0.fTypes)), (18, (I a1))] rfl rfl <| rp rfl (p_index (e := eType) rfl rfl rfl underlying22 rfl (by decide)) fun v3 => bd 6 [(19, (Pr (eType v3))), (20, (eType v3)), (21, (Sr a2))] rfl rfl <| rp rfl (p_call rfl rfl rfl rfl rfl (dbd_fits_ok k v3 a2) (.inl rfl)) fun v4 => bind_end rfl) fun o5 => et k_lret ?_
   rfl
def match_Holds_2_1_v12_fin : Bool → V × List V := fun r => ((Bo r), [])
theorem match_Holds_2_1_v12_ok (k : Nat) (a0 : T_api_Term) (a1 : Nat → T_api_Term → Option Bool) (a1_fid : Go.FuncId) (a1_c0 : V) (a1_c1 : V) (a1_hok : ∀ j x0, EV j a1_fid [(eTerm x0), V.pro a1_c0, V.pro a1_c1] = (a1 j x0).map fun b => ((Bo b), [])) : EV k 43 [(eTerm a0), (Pr (V.fn a1_fid [] [V.pro a1_c0, V.pro a1_c1]))] = (match_Holds_2_1_v12 k a0 a1).map match_Holds_2_1_v12_fin := by
 cases k with
 | zero => rfl
 | succ k =>
  unfold match_Holds_2_1_v12
  refine et (evF_succ (c := f43v12c) (N := 8) (regs := f43v12n) rfl func43 rfl (by decide) rfl rfl rfl) <| kr ⟨[(1, (Pr (V.fn a1_fid [] [V.pro a1_c0, V.pro a1_c1]))), (2, (Pt 2))], [(2, vS 3 (eTerm a0))], 8⟩ rfl <| kg f43v12a1 rfl (fun (o2 : Bool) => ⟨[(3, (Bo o2))], [], 8⟩) (rd 2 [(4, (V.fn a1_fid [] [V.pro a1_c0, V.pro a1_c1])), (5, (eTerm a0))] rfl rfl <| rp rfl (p_call rfl rfl rfl rfl rfl (a1_hok k a0) (.inl rfl)) fun v1 => bind_end rfl) fun o2 => et k_lret ?_
  rfl
def match_Holds_2_v12_fin : Bool → V × List V := fun r => ((Bo r), [])
theorem match_Holds_2_v12_ok (k : Nat) (a0 : (List T_api_Term)) (a1 : Nat → T_api_Term → Option Bool) (a1_fid : Go.FuncId) (a1_c0 : V) (a1_c1 : V) (a1_hok : ∀ j x0, EV j a1_fid [(eTerm x0), V.pro a1_c0, V.pro a1_c1] = (a1 j x0).map fun b => ((Bo b), [])) : EV k 41 [(sTerm a0), (Pr (V.fn a1_fid [] [V.pro a1_c0, V.pro a1_c1]))] = (match_Holds_2_v12 k a0 a1).map match_Holds_2_v12_fin := by
 cases k with
 | zero => rfl
 | succ k =>
  unfold match_Holds_2_v12
  refine et (evF_succ (c := f41v12c) (N := 8) (regs := f41v12n) rfl func41 rfl (by decide) rfl rfl rfl) <| kra [] rfl <| kg f41v12a1 rfl (fun (o2 : Bool) => ⟨[(3, (Bo o2))], [], 8⟩) (rd 2 [(4, (sTerm a0)), (5, (V.fn 43 [] [(Pr (V.fn a1_fid [] [V.pro a1_c0, V.pro a1_c1]))]))] rfl rfl <| rp rfl (p_call rfl rfl rfl rfl rfl (slices_ContainsFunc_Term_ok k a0 (fun j x0 => (match_Holds_2_1_v12 j x0 a1)) 43 (V.fn a1_fid [] [V.pro a1_c0, V.pro a1_c1]) (fun j x0 => (match_Holds_2_1_v12_ok j x0 a1 a1_fid a1_c0 a1_c1 a1_hok))) (.inl rfl)) fun v1 => bind_end rfl) fun o2 => et k_lret ?_
  rfl
def strings_Compare_fin : Int → V × List V := fun r => (I r, [])
theorem strings_Compare_ok (k : Nat) (s n : Str) : EV k 70 [(Sr s), (Sr n)] = (strings_Compare k s n).map strings_Compare_fin := by
 cases k with
 | zero => rfl
 | succ k => exact (evF_ext (ext := ext) (f := 70) rfl).trans rfl
def match_holds_fin : Bool → V × List V := fun r => ((Bo r), [])
theorem match_holds_ok (k : Nat) (a0 : Int) (a1 : Str) (a2 : Str) : EV k 40 [(I a0), (Sr a1), (Sr a2)] = (match_holds k a0 a1 a2).map match_holds_fin := by
 cases k with
 | zero => rfl
 | succ k =>
  unfold match_holds
  refine et (evF_succ (c := f40c) (N := 34) (regs := f40n) rfl func40 rfl (by decide) rfl rfl rfl) <| kra [] rfl <| kg f40a1 rfl (fun (o2 : Int) => ⟨[(0, (I a0)), (7, (I o2))], [], 34⟩) (rd 2 [(8, (Sr a1)), (9, (Sr a2))] rfl rfl <| rs rfl (p_call rfl rfl rfl rfl rfl (strings_Compare_ok k a1 a2) (.inl rfl)) fun v1 => bind_end rfl) fun o2 => et k_assoc <| kr ⟨[(7, (I o2)), (11, (I a0))], [], 34⟩ rfl <| et (k_block rfl) <| kra [(12, (Bo (a0 == 1)))] rfl <| kcl rfl rfl (fun hc => ?_) fun hc => ?_
  ·rw [hc]
   refine kr ⟨[(6, (Bo (o2 == 0)))], [], 34⟩ rfl <| et k_lret <| et blk_ret ?_
   rfl
  ·rw [hc]
   refine kr ⟨[(7, (I o2)), (11, (I a0)), (16, (Bo (a0 == 2)))], [], 34⟩ rfl <| kcl rfl rfl (fun hc => ?_) fun hc => ?_
   ·rw [hc]
    refine kr ⟨[(6, (Bo (o2 != 0)))], [], 34⟩ rfl <| et k_lret <| et blk_ret ?_
    rfl
   ·rw [hc]
    refine kr ⟨[(7, (I o2)), (11, (I a0)), (20, (Bo (a0 == 3)))], [], 34⟩ rfl <| kcl rfl rfl (fun hc => ?_) fun hc => ?_
    ·rw [hc]
     refine kr ⟨[(6, (Bo (decide (o2 < 0))))], [], 34⟩ rfl <| et k_lret <| et blk_ret ?_
     rfl
    ·rw [hc]
     refine kr ⟨[(7, (I o2)), (11, (I a0)), (24, (Bo (a0 == 4)))], [], 34⟩ rfl <| kcl rfl rfl (fun hc => ?_) fun hc => ?_
     ·rw [hc]
      refine kr ⟨[(6, (Bo (decide (o2 ≤ 0))))], [], 34⟩ rfl <| et k_lret <| et blk_ret ?_
      rfl
     ·rw [hc]
      refine kr ⟨[(7, (I o2)), (28, (Bo (a0 == 5)))], [], 34⟩ rfl <| kcl rfl rfl (fun hc => ?_) fun hc => ?_
      ·rw [hc]
       refine kr ⟨[(6, (Bo (decide (o2 > 0))))], [], 34⟩ rfl <| et k_lret <| et blk_ret ?_
       rfl
      ·rw [hc]
       refine et k_lskip <| et blk_normal <| kr ⟨[(6, (Bo (decide (o2 ≥ 0))))], [], 34⟩ rfl <| et k_lret ?_
       rfl
def match_Holds_1_fin : Bool → V × List V := fun r => ((Bo r), [])
theorem match_Holds_1_ok (k : Nat) (a0 : T_api_Term) (a1 : T_api_Type) (a2 : Str) : EV k 38 [(eTerm a0), (Pr (eType a1)), (Pr (Sr a2))] = (match_Holds_1 k a0 a1 a2).map match_Holds_1_fin := by
 cases k with
 | zero => rfl
 | succ k =>
  unfold match_Holds_1
  refine et (evF_succ (c := f38c) (N := 44) (regs := f38n) rfl func38 rfl (by decide) rfl rfl rfl) <| kr ⟨[(1, (Pr (eType a1))), (2, (Pr (Sr a2))), (3, (Pt 3))], [(3, vS 3 (eTerm a0))], 44⟩ rfl <| kga f38a1 rfl (fun (o2 : Int) => [(5, (I o2))]) (rd 3 [(9, (eType a1)), (10, (Pt 3)), (11, (Sr a0.fField))] rfl rfl <| rp rfl (p_call rfl rfl rfl rfl rfl (match_field_ok k a1 a0.fField) (.inl rfl)) fun v1 => bind_end rfl) fun o2 => kg f38a2 rfl (fun (o4 : T_api_Field) => ⟨[(2, (Pr (Sr a2))), (3, (Pt 3)), (7, (Pt 7))], [(3, vS 3 (eTerm a0)), (7, vS 3 (eField o4))], 44⟩) (rd 3 [(15, (Pr (sField a1.fFields))), (16, (sField a1.fFields)), (17, (I o2))] rfl rfl <| rs rfl (p_index (e := eField) rfl rfl rfl underlying43 rfl (by decide)) fun v3 => bind_end rfl) fun o4 => kd f38a3 rfl (fun (o7 : Bool) => ⟨[(4, (Bo o7))], [], 44⟩) ?_ fun o7 => ?_
  ·refine et (regionE_regp (p := 25) (dk := true) (t := [(2, (Pr (Sr a2))), (3, (Pt 3)), (7, (Pt 7))]) (σ := [(3, vS 3 (eTerm a0)), (7, vS 3 (eField o4))]) (n := 44) rfl (by decide) (by decide) rfl) <| et (regp_adv (m := 9) (j := 9) (t' := [(2, (Pr (Sr a2))), (3, (Pt 3)), (7, (Pt 7)), (20, (V.ptr 7 0 1)), (21, (I o4.fAt)), (22, (V.ptr 7 0 2)), (23, (I o4.fBytes)), (24, (I (Go.IntKind.wrap .i64 (o4.fAt + o4.fBytes)))), (25, (Sr a2)), (26, (I (a2.length : Int))), (27, (Bo (decide ((Go.IntKind.wrap .i64 (o4.fAt + o4.fBytes)) ≤ (a2.length : Int))))), (28, (Bo (decide ((Go.IntKind.wrap .i64 (o4.fAt + o4.fBytes)) ≤ (a2.length : Int)))))]) rfl rfl rfl) <| bifE (fun hc => ?_) fun hc => ?_
   ·rw [hc]
    exact et (regp_adv (m := 10) (j := 19) (t' := [(2, (Pr (Sr a2))), (3, (Pt 3)), (7, (Pt 7)), (20, (V.ptr 7 0 1)), (21, (I o4.fAt)), (22, (V.ptr 7 0 2)), (23, (I o4.fBytes)), (24, (I (Go.IntKind.wrap .i64 (o4.fAt + o4.fBytes)))), (25, (Sr a2)), (26, (I (a2.length : Int))), (27, (Bo true)), (28, (Bo true)), (29, (V.ptr 3 0 1)), (30, (I a0.fOp)), (31, (Sr a2)), (32, (V.ptr 7 0 1)), (33, (I o4.fAt)), (34, (V.ptr 7 0 1)), (35, (I o4.fAt)), (36, (V.ptr 7 0 2)), (37, (I o4.fBytes)), (38, (I (Go.IntKind.wrap .i64 (o4.fAt + o4.fBytes))))]) rfl rfl rfl) <| et (regp_pure (x := (cut a2 o4.fAt (Go.IntKind.wrap .i64 (o4.fAt + o4.fBytes)))) (w := fun v5 => (Sr v5)) rfl rfl rfl rfl rfl (p_sliceS rfl rfl rfl rfl rfl rfl underlying9)) <| bindE fun v5 => et (putp_adv (m := 2) (j := 22) (t' := [(2, (Pr (Sr a2))), (3, (Pt 3)), (7, (Pt 7)), (20, (V.ptr 7 0 1)), (21, (I o4.fAt)), (22, (V.ptr 7 0 2)), (23, (I o4.fBytes)), (24, (I (Go.IntKind.wrap .i64 (o4.fAt + o4.fBytes)))), (25, (Sr a2)), (26, (I (a2.length : Int))), (27, (Bo true)), (28, (Bo true)), (29, (V.ptr 3 0 1)), (30, (I a0.fOp)), (31, (Sr a2)), (32, (V.ptr 7 0 1)), (33, (I o4.fAt)), (34, (V.ptr 7 0 1)), (35, (I o4.fAt)), (36, (V.ptr 7 0 2)), (37, (I o4.fBytes)), (38, (I (Go.IntKind.wrap .i64 (o4.fAt + o4.fBytes)))), (39, (Sr v5)), (40, (V.ptr 3 0 2)), (41, (Sr a0.fValue))]) rfl rfl rfl) <| et (regp_pure (x := (match_holds k a0.fOp v5 a0.fValue)) (w := fun v6 => (Bo v6)) rfl rfl rfl rfl rfl (p_call rfl rfl rfl rfl rfl (match_holds_ok k a0.fOp v5 a0.fValue) (.inl rfl))) <| bind_self fun v6 => regp_end rfl
   ·rw [hc]
    exact regp_end rfl
  refine et k_lret ?_
  rfl
def match_Holds_fin : (Bool × Int) → V × List V := fun r => (.tup [(Bo r.1), (I r.2)], [])
theorem match_Holds_ok (k : Nat) (a0 : T_api_Base) (a1 : Int) (a2 : (List (List T_api_Term))) (a3 : Str) : EV k 17 [(eBase a0), (I a1), (V.sl 0 1 (List.map sTerm a2)), (Sr a3)] = (match_Holds k a0 a1 a2 a3).map match_Holds_fin := by
 cases k with
 | zero => rfl
 | succ k =>
  unfold match_Holds
  refine et (evF_succ (c := f17c) (N := 50) (regs := f17n) rfl func17 rfl (by decide) rfl rfl rfl) <| kr ⟨[(1, (I a1)), (2, (V.sl 0 1 (List.map sTerm a2))), (4, (Pt 4)), (7, (Pt 7))], [(4, vS 4 (eBase a0)), (7, vS 1 (Sr a3))], 50⟩ rfl <| kga f17a1 rfl (fun (o2 : Bool × Int) => [(10, (Bo o2.1)), (11, (I o2.2))]) (rd 3 [(16, (eBase a0)), (17, (I a1)), (18, (Sr a3))] rfl rfl <| rp rfl (p_call rfl rfl rfl rfl rfl (dbd_Fits_ok k a0 a1 a3) (.inl rfl)) fun v1 => bind_end rfl) fun o2 => et (k_block rfl) <| kra [(22, (Bo (o2.2 != 0)))] rfl <| kcl rfl rfl (fun hc => ?_) fun hc => ?_
  ·rw [hc]
   refine kr ⟨[(8, (Bo false)), (9, (I o2.2))], [], 50⟩ rfl <| et k_lret <| et blk_ret ?_
   rfl
  ·rw [hc]
   refine kr ⟨[(1, (I a1)), (2, (V.sl 0 1 (List.map sTerm a2))), (4, (Pt 4)), (7, (Pt 7)), (26, (Bo (!o2.1)))], [(4, vS 4 (eBase a0)), (7, vS 1 (Sr a3))], 50⟩ rfl <| kcl rfl rfl (fun hc => ?_) fun hc => ?_
   ·rw [hc]
    refine kr ⟨[(8, (Bo false)), (9, (I 2))], [], 50⟩ rfl <| et k_lret <| et blk_ret ?_
    rfl
   ·rw [hc]
    refine et k_lskip <| et blk_normal <| kg f17a6 rfl (fun (o4 : Int × T_api_Type) => ⟨[(2, (V.sl 0 1 (List.map sTerm a2))), (7, (Pt 7)), (11, (I o4.1)), (12, (Pt 12))], [(7, vS 1 (Sr a3)), (12, vS 8 (eType o4.2))], 50⟩) (rd 4 [(30, (eBase a0)), (31, (I a1)), (32, (V.sl 0 1 (List.map sTerm a2))), (33, (V.sl 0 1 (List.map (fun x => (V.sl 0 1 (List.map sTerm x))) ([a2] : List (List (List T_api_Term))))))] rfl rfl <| rp rfl (p_call rfl rfl rfl rfl rfl (match_conditions_ok k a0 a1 ([a2] : List (List (List T_api_Term)))) (.inl rfl)) fun v3 => bind_end rfl) fun o4 => et k_assoc <| kra [(38, (Bo (o4.1 != 0)))] rfl <| kc rfl rfl (fun hc => ?_) fun hc => ?_
    ·rw [hc]
     refine et k_assoc <| kr ⟨[(8, (Bo false)), (9, (I o4.1))], [], 50⟩ rfl <| et k_ret ?_
     rfl
    ·rw [hc]
     refine et k_skip <| kr ⟨[(2, (V.sl 0 1 (List.map sTerm a2))), (7, (Pt 7)), (12, (Pt 12)), (13, (Pt 13))], [(7, vS 1 (Sr a3)), (12, vS 8 (eType o4.2)), (13, ⟨false, 1, [(V.fn 38 [] [(Pt 12), (Pt 7)])]⟩)], 50⟩ rfl <| kra [(14, (V.fn 41 [] [(Pt 13)]))] rfl <| kg f17a11 rfl (fun (o6 : Bool × Int) => ⟨[(8, (Bo o6.1)), (9, (I o6.2))], [], 50⟩) ?_ fun o6 => ?_
     ·refine rd 1 [(42, (V.sl 0 1 (List.map sTerm a2)))] rfl rfl <| rl rfl (p_len (e := sTerm) rfl rfl rfl rfl rfl rfl underlying26) <| bd 4 [(43, (I (a2.length : Int))), (44, (Bo ((a2.length : Int) == 0))), (45, (Bo ((a2.length : Int) == 0)))] rfl rfl <| bifE (fun hc => ?_) fun hc => ?_
      ·rw [hc]
       exact reg_end rfl
      ·rw [hc]
       exact rd 6 [(46, (V.sl 0 1 (List.map sTerm a2))), (47, (V.fn 41 [] [(Pt 13)]))] rfl rfl <| rp rfl (p_call rfl rfl rfl rfl rfl (slices_ContainsFunc_TermL_ok k a2 (fun j x0 => (match_Holds_2_v12 j x0 (fun j x0 => (match_Holds_1 j x0 o4.2 a3)))) 41 (V.fn 38 [] [(Pr (eType o4.2)), (Pr (Sr a3))]) (fun j x0 => (match_Holds_2_v12_ok j x0 (fun j x0 => (match_Holds_1 j x0 o4.2 a3)) 38 (eType o4.2) (Sr a3) (fun j x0 => (match_Holds_1_ok j x0 o4.2 a3))))) (.inr (fun _ => rfl))) fun v5 => bind_end rfl
     refine et k_lret ?_
     rfl
def law12_MatchTurns_fin : Bool → V × List V := fun r => ((Bo r), [])
theorem law12_MatchTurns_ok (k : Nat) (a0 : Str) (a1 : Str) (a2 : Int) : EV k 5 [(Sr a0), (Sr a1), (I a2)] = (law12_MatchTurns k a0 a1 a2).map law12_MatchTurns_fin := by
 cases k with
 | zero => rfl
 | succ k =>
  unfold law12_MatchTurns
  refine et (evF_succ (c := f5c) (N := 122) (regs := f5n) rfl func5 rfl (by decide) rfl rfl rfl) <| kra [] rfl <| et k_assoc <| kga f5a1 rfl (fun (o1 : Bool) => [(29, (Bo o1))]) ?_ fun o1 => ?_
  ·refine rd 4 [(15, (Sr a0)), (16, (I (a0.length : Int))), (17, (Bo (decide ((a0.length : Int) < 1)))), (18, (Bo (decide ((a0.length : Int) < 1))))] rfl rfl <| bifE (fun hc => ?_) fun hc => ?_
   ·rw [hc]
    exact reg_end rfl
   ·rw [hc]
    refine rd 9 [(19, (Sr a0)), (20, (I (a0.length : Int))), (21, (Bo (decide ((a0.length : Int) > 20)))), (22, (Bo (decide ((a0.length : Int) > 20)))), (23, (Bo (decide ((a0.length : Int) > 20))))] rfl rfl <| bifE (fun hc => ?_) fun hc => ?_
    ·rw [hc]
     exact reg_end rfl
    ·rw [hc]
     exact reg_end rfl
  refine kc rfl rfl (fun hc => ?_) fun hc => ?_
  ·rw [hc]
   refine et k_assoc <| kg f5a2 rfl (fun (o3 : Bool) => ⟨[(6, (Bo o3))], [], 122⟩) (rs rfl (p_call rfl rfl rfl rfl rfl (law12_Awake_ok k) (.inl rfl)) fun v2 => bind_end rfl) fun o3 => et k_ret ?_
   rfl
  ·rw [hc]
   refine et k_skip <| kg f5a3 rfl (fun (o5 : Str × Int × (List T_api_Search) × Str × Int × (List T_api_Search) × (List T_api_Type)) => ⟨[(0, (Sr a0)), (1, (Sr a1)), (2, (I a2)), (7, (Pt 7)), (31, (V.agg [(Sr o5.1), (I o5.2.1), (aL 31 eType o5.2.2.2.2.2.2), (sSearch o5.2.2.1)]))], [(7, ⟨false, 4, [(V.agg [(Sr o5.2.2.2.1), (I o5.2.2.2.2.1), (aL 31 eType o5.2.2.2.2.2.2), (sSearch o5.2.2.2.2.2.1)])]⟩), (31, ⟨true, 8, List.map eType o5.2.2.2.2.2.2⟩)], 122⟩) (et (reg_eff (x := (law12_shop k)) (w := fun v4 => ((V.agg [(Sr v4.fName), (I v4.fKind), (V.sl 2 8 (List.map eType v4.fTypes)), (sSearch v4.fIndexes)]), _)) rfl rfl rfl rfl (p_callS rfl rfl rfl rfl rfl rfl (law12_shop_ok k))) <| bindE fun v4 => bind_end rfl) fun o5 => kd f5a4 rfl (fun (o10 : (List T_api_Type)) => ⟨[(0, (Sr a0)), (1, (Sr a1)), (2, (I a2)), (7, (Pt 7)), (31, (V.agg [(Sr o5.1), (I o5.2.1), (aL 31 eType o10), (sSearch o5.2.2.1)]))], [(7, ⟨false, 4, [(V.agg [(Sr o5.2.2.2.1), (I o5.2.2.2.2.1), (aL 31 eType o10), (sSearch o5.2.2.2.2.2.1)])]⟩), (31, ⟨true, 8, List.map eType o10⟩)], 122⟩) ?_ fun o10 => ?_
   ·refine et (regionE_regp (p := 10) (dk := false) (t := [(0, (Sr a0)), (1, (Sr a1)), (2, (I a2)), (7, (Pt 7)), (31, (V.agg [(Sr o5.1), (I o5.2.1), (aL 31 eType o5.2.2.2.2.2.2), (sSearch o5.2.2.1)]))]) (σ := [(7, ⟨false, 4, [(V.agg [(Sr o5.2.2.2.1), (I o5.2.2.2.2.1), (aL 31 eType o5.2.2.2.2.2.2), (sSearch o5.2.2.2.2.2.1)])]⟩), (31, ⟨true, 8, List.map eType o5.2.2.2.2.2.2⟩)]) (n := 122) rfl (by decide) (by decide) rfl) <| et (regp_adv (m := 8) (j := 8) (t' := [(0, (Sr a0)), (1, (Sr a1)), (2, (I a2)), (7, (Pt 7)), (31, (V.agg [(Sr o5.1), (I o5.2.1), (aL 31 eType o5.2.2.2.2.2.2), (sSearch o5.2.2.1)])), (32, (V.ptr 7 0 2)), (33, (aL 31 eType o5.2.2.2.2.2.2)), (34, (V.ptr 7 0 2)), (35, (aL 31 eType o5.2.2.2.2.2.2)), (36, (Sr a0)), (37, (I (a0.length : Int))), (38, (Sr a0)), (39, (I (a0.length : Int)))]) rfl rfl rfl) <| et (regp_pure (x := (inB o5.2.2.2.2.2.2.length 0)) (w := fun v6 => (V.ptr 31 (0 + (0 : Int).toNat) 0)) rfl rfl rfl rfl rfl (p_indexF (e := eType) rfl rfl rfl underlying22 rfl rfl (by decide))) <| bindE fun v6 => et (regp_reg (m := 0) (j := 10) (st' := ⟨[(0, (Sr a0)), (1, (Sr a1)), (2, (I a2)), (7, (Pt 7)), (31, (V.agg [(Sr o5.1), (I o5.2.1), (aL 31 eType o5.2.2.2.2.2.2), (sSearch o5.2.2.1)])), (32, (V.ptr 7 0 2)), (33, (aL 31 eType o5.2.2.2.2.2.2)), (34, (V.ptr 7 0 2)), (35, (aL 31 eType o5.2.2.2.2.2.2)), (36, (Sr a0)), (37, (I (a0.length : Int))), (38, (Sr a0)), (39, (I (a0.length : Int))), (40, (V.ptr 31 (0 + (0 : Int).toNat) 0)), (41, (V.ptr 31 (0 + (0 : Int).toNat) 2))], [(7, ⟨false, 4, [(V.agg [(Sr o5.2.2.2.1), (I o5.2.2.2.2.1), (aL 31 eType o5.2.2.2.2.2.2), (sSearch o5.2.2.2.2.2.1)])]⟩), (31, ⟨true, 8, List.map eType o5.2.2.2.2.2.2⟩)], 122⟩) rfl rfl rfl) <| et (reg_eff (x := (o5.2.2.2.2.2.2[0 + (0 : Int).toNat]?)) (w := fun v7 => (V.tup [], _)) rfl rfl rfl rfl (p_storeP (S := (fun n_ => ⟨[(0, (Sr a0)), (1, (Sr a1)), (2, (I a2)), (7, (Pt 7)), (31, (V.agg [(Sr o5.1), (I o5.2.1), (V.aref 31 0 n_), (sSearch o5.2.2.1)])), (32, (V.ptr 7 0 2)), (33, (V.aref 31 0 n_)), (34, (V.ptr 7 0 2)), (35, (V.aref 31 0 n_)), (36, (Sr a0)), (37, (I (a0.length : Int))), (38, (Sr a0)), (39, (I (a0.length : Int))), (40, (V.ptr 31 (0 + (0 : Int).toNat) 0)), (41, (V.ptr 31 (0 + (0 : Int).toNat) 2))], [(7, ⟨false, 4, [(V.agg [(Sr o5.2.2.2.1), (I o5.2.2.2.2.1), (V.aref 31 0 n_), (sSearch o5.2.2.2.2.2.1)])]⟩), (31, ⟨true, 8, List.map eType o5.2.2.2.2.2.2⟩)], 122⟩)) (e := eType) (l := o5.2.2.2.2.2.2) (u := (I (a0.length : Int))) (upd := fun v7 => { v7 with fMin := (a0.length : Int) }) rfl rfl rfl rfl rfl rfl rfl rfl rfl rfl (fun _ => rfl))) ?_
    refine bindE fun v7 => ba 0 11 ⟨[(0, (Sr a0)), (1, (Sr a1)), (2, (I a2)), (7, (Pt 7)), (31, (V.agg [(Sr o5.1), (I o5.2.1), (V.aref 31 0 (List.map eType (o5.2.2.2.2.2.2.set (0 + (0 : Int).toNat) { v7 with fMin := (a0.length : Int) })).length), (sSearch o5.2.2.1)])), (32, (V.ptr 7 0 2)), (33, (V.aref 31 0 (List.map eType (o5.2.2.2.2.2.2.set (0 + (0 : Int).toNat) { v7 with fMin := (a0.length : Int) })).length)), (34, (V.ptr 7 0 2)), (35, (V.aref 31 0 (List.map eType (o5.2.2.2.2.2.2.set (0 + (0 : Int).toNat) { v7 with fMin := (a0.length : Int) })).length)), (36, (Sr a0)), (37, (I (a0.length : Int))), (38, (Sr a0)), (39, (I (a0.length : Int))), (40, (V.ptr 31 (0 + (0 : Int).toNat) 0)), (41, (V.ptr 31 (0 + (0 : Int).toNat) 2))], [(7, ⟨false, 4, [(V.agg [(Sr o5.2.2.2.1), (I o5.2.2.2.2.1), (V.aref 31 0 (List.map eType (o5.2.2.2.2.2.2.set (0 + (0 : Int).toNat) { v7 with fMin := (a0.length : Int) })).length), (sSearch o5.2.2.2.2.2.1)])]⟩), (31, ⟨true, 8, List.map eType (o5.2.2.2.2.2.2.set (0 + (0 : Int).toNat) { v7 with fMin := (a0.length : Int) })⟩)], 122⟩ rfl rfl rfl <| rp rfl (p_indexF (e := eType) rfl rfl rfl underlying22 rfl rfl (by decide)) fun v8 => bd 13 [(42, (V.ptr 31 (0 + (0 : Int).toNat) 0)), (43, (V.ptr 31 (0 + (0 : Int).toNat) 3))] rfl rfl <| et (reg_eff (x := ((o5.2.2.2.2.2.2.set (0 + (0 : Int).toNat) { v7 with fMin := (a0.length : Int) })[0 + (0 : Int).toNat]?)) (w := fun v9 => (V.tup [], _)) rfl rfl rfl rfl (p_storeP (S := (fun n_ => ⟨[(0, (Sr a0)), (1, (Sr a1)), (2, (I a2)), (7, (Pt 7)), (31, (V.agg [(Sr o5.1), (I o5.2.1), (V.aref 31 0 n_), (sSearch o5.2.2.1)])), (32, (V.ptr 7 0 2)), (33, (V.aref 31 0 n_)), (34, (V.ptr 7 0 2)), (35, (V.aref 31 0 n_)), (36, (Sr a0)), (37, (I (a0.length : Int))), (38, (Sr a0)), (39, (I (a0.length : Int))), (40, (V.ptr 31 (0 + (0 : Int).toNat) 0)), (41, (V.ptr 31 (0 + (0 : Int).toNat) 2)), (42, (V.ptr 31 (0 + (0 : Int).toNat) 0)), (43, (V.ptr 31 (0 + (0 : Int).toNat) 3))], [(7, ⟨false, 4, [(V.agg [(Sr o5.2.2.2.1), (I o5.2.2.2.2.1), (V.aref 31 0 n_), (sSearch o5.2.2.2.2.2.1)])]⟩), (31, ⟨true, 8, List.map eType (o5.2.2.2.2.2.2.set (0 + (0 : Int).toNat) { v7 with fMin := (a0.length : Int) })⟩)], 122⟩)) (e := eType) (l := (o5.2.2.2.2.2.2.set (0 + (0 : Int).toNat) { v7 with fMin := (a0.length : Int) })) (u := (I (a0.length : Int))) (upd := fun v9 => { v9 with fSize := (a0.length : Int) }) rfl rfl rfl rfl rfl rfl rfl rfl rfl rfl (fun _ => rfl))) ?_
    exact bindE fun v9 => bind_end rfl
   refine kg f5a5 rfl (fun (o13 : (List T_api_Type)) => ⟨[(0, (Sr a0)), (1, (Sr a1)), (2, (I a2)), (7, (Pt 7)), (31, (V.agg [(Sr o5.1), (I o5.2.1), (aL 31 eType o13), (sSearch o5.2.2.1)]))], [(7, ⟨false, 4, [(V.agg [(Sr o5.2.2.2.1), (I o5.2.2.2.2.1), (aL 31 eType o13), (sSearch o5.2.2.2.2.2.1)])]⟩), (31, ⟨true, 8, List.map eType o13⟩)], 122⟩) ?_ fun o13 => ?_
   ·refine rd 6 [(44, (V.ptr 7 0 2)), (45, (aL 31 eType o10)), (46, (Sr a0)), (47, (I (a0.length : Int))), (48, (eField ({ fName := ([75, 69, 89] : Str), fAt := 0, fBytes := (a0.length : Int) } : T_api_Field))), (49, (sField (([({ fName := ([75, 69, 89] : Str), fAt := 0, fBytes := (a0.length : Int) } : T_api_Field)] : List T_api_Field))))] rfl rfl <| rp rfl (p_indexF (e := eType) rfl rfl rfl underlying22 rfl rfl (by decide)) fun v11 => bd 8 [(50, (V.ptr 31 (0 + (0 : Int).toNat) 0)), (51, (V.ptr 31 (0 + (0 : Int).toNat) 4))] rfl rfl <| et (reg_eff (x := (o10[0 + (0 : Int).toNat]?)) (w := fun v12 => (V.tup [], _)) rfl rfl rfl rfl (p_storeP (S := (fun n_ => ⟨[(0, (Sr a0)), (1, (Sr a1)), (2, (I a2)), (7, (Pt 7)), (31, (V.agg [(Sr o5.1), (I o5.2.1), (V.aref 31 0 n_), (sSearch o5.2.2.1)])), (44, (V.ptr 7 0 2)), (45, (V.aref 31 0 n_)), (46, (Sr a0)), (47, (I (a0.length : Int))), (48, (eField ({ fName := ([75, 69, 89] : Str), fAt := 0, fBytes := (a0.length : Int) } : T_api_Field))), (49, (sField (([({ fName := ([75, 69, 89] : Str), fAt := 0, fBytes := (a0.length : Int) } : T_api_Field)] : List T_api_Field)))), (50, (V.ptr 31 (0 + (0 : Int).toNat) 0)), (51, (V.ptr 31 (0 + (0 : Int).toNat) 4))], [(7, ⟨false, 4, [(V.agg [(Sr o5.2.2.2.1), (I o5.2.2.2.2.1), (V.aref 31 0 n_), (sSearch o5.2.2.2.2.2.1)])]⟩), (31, ⟨true, 8, List.map eType o10⟩)], 122⟩)) (e := eType) (l := o10) (u := (sField (([({ fName := ([75, 69, 89] : Str), fAt := 0, fBytes := (a0.length : Int) } : T_api_Field)] : List T_api_Field)))) (upd := fun v12 => { v12 with fFields := ([({ fName := ([75, 69, 89] : Str), fAt := 0, fBytes := (a0.length : Int) } : T_api_Field)] : List T_api_Field) }) rfl rfl rfl rfl rfl rfl rfl rfl rfl rfl (fun _ => rfl))) ?_
    exact bindE fun v12 => bind_end rfl
   refine kg f5a6 rfl (fun (o15 : Int × Int) => ⟨[(0, (Sr a0)), (1, (Sr a1)), (2, (I a2)), (7, (Pt 7)), (8, (I o15.1)), (9, (I o15.2)), (31, (V.agg [(Sr o5.1), (I o5.2.1), (aL 31 eType o13), (sSearch o5.2.2.1)]))], [(7, ⟨false, 4, [(V.agg [(Sr o5.2.2.2.1), (I o5.2.2.2.2.1), (aL 31 eType o13), (sSearch o5.2.2.2.2.2.1)])]⟩), (31, ⟨true, 8, List.map eType o13⟩)], 122⟩) (rd 1 [(53, (I a2))] rfl rfl <| rp rfl (p_call rfl rfl rfl rfl rfl (match_Turned_ok k a2) (.inl rfl)) fun v14 => bind_end rfl) fun o15 => et k_assoc <| kra [(58, (Bo (o15.2 != 0)))] rfl <| kc rfl rfl (fun hc => ?_) fun hc => ?_
   ·rw [hc]
    refine et k_assoc <| kg f5a8 rfl (fun (o18 : Bool) => ⟨[(6, (Bo o18))], [], 122⟩) ?_ fun o18 => ?_
    ·refine rd 3 [(59, (I o15.2)), (60, (Bo (o15.2 == 2))), (61, (Bo (o15.2 == 2)))] rfl rfl <| bifE (fun hc => ?_) fun hc => ?_
     ·rw [hc]
      refine rd 6 [(62, (I a2)), (63, (Bo (decide (a2 < 1)))), (64, (Bo (decide (a2 < 1))))] rfl rfl <| bifE (fun hc => ?_) fun hc => ?_
      ·rw [hc]
       exact rd 11 [(65, (V.tup [])), (66, (V.tup [])), (67, (Bo true)), (68, (Bo true)), (69, (Bo true))] rfl rfl <| rs rfl (p_call rfl rfl rfl rfl rfl (law12_Awake_ok k) (.inl rfl)) fun v16 => bind_end rfl
      ·rw [hc]
       refine rd 11 [(65, (I a2)), (66, (Bo (decide (a2 > 6)))), (67, (Bo (decide (a2 > 6)))), (68, (Bo (decide (a2 > 6)))), (69, (Bo (decide (a2 > 6))))] rfl rfl <| bifE (fun hc => ?_) fun hc => ?_
       ·rw [hc]
        exact rs rfl (p_call rfl rfl rfl rfl rfl (law12_Awake_ok k) (.inl rfl)) fun v17 => bind_end rfl
       ·rw [hc]
        exact reg_end rfl
     ·rw [hc]
      exact reg_end rfl
    refine et k_ret ?_
    rfl
   ·rw [hc]
    refine et k_skip <| kg f5a9 rfl (fun (o20 : Int × Bool) => ⟨[(0, (Sr a0)), (1, (Sr a1)), (2, (I a2)), (7, (Pt 7)), (8, (I o15.1)), (9, (I o20.1)), (10, (Bo o20.2)), (31, (V.agg [(Sr o5.1), (I o5.2.1), (aL 31 eType o13), (sSearch o5.2.2.1)]))], [(7, ⟨false, 4, [(V.agg [(Sr o5.2.2.2.1), (I o5.2.2.2.2.1), (aL 31 eType o13), (sSearch o5.2.2.2.2.2.1)])]⟩), (31, ⟨true, 8, List.map eType o13⟩)], 122⟩) (rd 7 [(73, (V.agg [(Sr o5.2.2.2.1), (I o5.2.2.2.2.1), (aL 31 eType o13), (sSearch o5.2.2.2.2.2.1)])), (74, (I a2)), (75, (Sr a1)), (76, (eTerm ({ fField := ([75, 69, 89] : Str), fOp := a2, fValue := a1 } : T_api_Term))), (77, (sTerm (([({ fField := ([75, 69, 89] : Str), fOp := a2, fValue := a1 } : T_api_Term)] : List T_api_Term)))), (78, (V.sl 0 1 (List.map sTerm ([([({ fField := ([75, 69, 89] : Str), fOp := a2, fValue := a1 } : T_api_Term)] : List T_api_Term)] : List (List T_api_Term))))), (79, (Sr a0))] rfl rfl <| rp rfl (p_call rfl rfl rfl rfl (argsL (lendG rfl (lendL_c rfl (lendL_c rfl (lendL_c (lendD (e := eType) (e' := eType) (fun _ => rfl) rfl) (lendL_c rfl rfl)))) rfl) (by intro s i q h; cases h) (argsL rfl (by intro s i q h; cases h) (argsL rfl (by intro s i q h; cases h) (argsL rfl (by intro s i q h; cases h) rfl)))) (match_Holds_ok k ({ fName := o5.2.2.2.1, fKind := o5.2.2.2.2.1, fTypes := o13, fIndexes := o5.2.2.2.2.2.1 } : T_api_Base) 0 ([([({ fField := ([75, 69, 89] : Str), fOp := a2, fValue := a1 } : T_api_Term)] : List T_api_Term)] : List (List T_api_Term)) a0) (.inr (fun _ => rfl))) fun v19 => bind_end rfl) fun o20 => kg f5a10 rfl (fun (o22 : Bool × Int) => ⟨[(2, (I a2)), (8, (I o15.1)), (9, (I o20.1)), (10, (Bo o20.2)), (11, (Bo o22.1)), (12, (I o22.2))], [], 122⟩) (rd 7 [(84, (V.agg [(Sr o5.2.2.2.1), (I o5.2.2.2.2.1), (aL 31 eType o13), (sSearch o5.2.2.2.2.2.1)])), (85, (I o15.1)), (86, (Sr a0)), (87, (eTerm ({ fField := ([75, 69, 89] : Str), fOp := o15.1, fValue := a0 } : T_api_Term))), (88, (sTerm (([({ fField := ([75, 69, 89] : Str), fOp := o15.1, fValue := a0 } : T_api_Term)] : List T_api_Term)))), (89, (V.sl 0 1 (List.map sTerm ([([({ fField := ([75, 69, 89] : Str), fOp := o15.1, fValue := a0 } : T_api_Term)] : List T_api_Term)] : List (List T_api_Term))))), (90, (Sr a1))] rfl rfl <| rp rfl (p_call rfl rfl rfl rfl (argsL (lendG rfl (lendL_c rfl (lendL_c rfl (lendL_c (lendD (e := eType) (e' := eType) (fun _ => rfl) rfl) (lendL_c rfl rfl)))) rfl) (by intro s i q h; cases h) (argsL rfl (by intro s i q h; cases h) (argsL rfl (by intro s i q h; cases h) (argsL rfl (by intro s i q h; cases h) rfl)))) (match_Holds_ok k ({ fName := o5.2.2.2.1, fKind := o5.2.2.2.2.1, fTypes := o13, fIndexes := o5.2.2.2.2.2.1 } : T_api_Base) 0 ([([({ fField := ([75, 69, 89] : Str), fOp := o15.1, fValue := a0 } : T_api_Term)] : List T_api_Term)] : List (List T_api_Term)) a1) (.inr (fun _ => rfl))) fun v21 => bind_end rfl) fun o22 => kg f5a11 rfl (fun (o24 : Int × Int) => ⟨[(2, (I a2)), (9, (I o20.1)), (10, (Bo o20.2)), (11, (Bo o22.1)), (12, (I o22.2)), (13, (I o24.1)), (14, (I o24.2))], [], 122⟩) (rd 1 [(95, (I o15.1))] rfl rfl <| rp rfl (p_call rfl rfl rfl rfl rfl (match_Turned_ok k o15.1) (.inl rfl)) fun v23 => bind_end rfl) fun o24 => kg f5a12 rfl (fun (o26 : Bool) => ⟨[(6, (Bo o26))], [], 122⟩) ?_ fun o26 => ?_
    ·refine rd 3 [(99, (I o20.1)), (100, (Bo (o20.1 == 0))), (101, (Bo (o20.1 == 0)))] rfl rfl <| bifE (fun hc => ?_) fun hc => ?_
     ·rw [hc]
      refine rd 7 [(102, (I o22.2)), (103, (Bo (o22.2 == 0))), (104, (Bo (o22.2 == 0))), (105, (Bo (o22.2 == 0)))] rfl rfl <| bifE (fun hc => ?_) fun hc => ?_
      ·rw [hc]
       refine rd 11 [(106, (I o24.2)), (107, (Bo (o24.2 == 0))), (108, (Bo (o24.2 == 0))), (109, (Bo (o24.2 == 0)))] rfl rfl <| bifE (fun hc => ?_) fun hc => ?_
       ·rw [hc]
        refine rd 16 [(110, (Bo o20.2)), (111, (Bo o22.1)), (112, (Bo (o20.2 == o22.1))), (113, (Bo (o20.2 == o22.1))), (114, (Bo (o20.2 == o22.1)))] rfl rfl <| bifE (fun hc => ?_) fun hc => ?_
        ·rw [hc]
         refine rd 21 [(115, (I o24.1)), (116, (I a2)), (117, (Bo (o24.1 == a2))), (118, (Bo (o24.1 == a2))), (119, (Bo (o24.1 == a2)))] rfl rfl <| bifE (fun hc => ?_) fun hc => ?_
         ·rw [hc]
          exact rs rfl (p_call rfl rfl rfl rfl rfl (law12_Awake_ok k) (.inl rfl)) fun v25 => bind_end rfl
         ·rw [hc]
          exact reg_end rfl
        ·rw [hc]
         exact reg_end rfl
       ·rw [hc]
        exact reg_end rfl
      ·rw [hc]
       exact reg_end rfl
     ·rw [hc]
      exact reg_end rfl
    refine et k_lret ?_
    rfl
end
end Go.AE
