/- The program, function by function: the evaluator comes to the typed functions. Conditions: none. -/
import Derived.Test.YtnpeekncggidcaaGreatDoorA3
import Derived.KernelRfl
import Derived.Test.YtnpeekncggidcaaGreatDoorProg
import Derived.Test.YtnpeekncggidcaaGreatDoorB1
namespace Go.AE
open Go.Proofs.Tryz Go.Sh
set_option linter.unusedSimpArgs false
set_option linter.unusedVariables false
set_option maxRecDepth 100000
set_option maxHeartbeats 4000000
noncomputable section
abbrev Pt (n : Nat) : V := .ptr n 0 0
abbrev Bo (b : Bool) : V := .bool b
abbrev Sr (s : Str) : V := .str s
abbrev Pr (v : V) : V := .pro v
abbrev sS (l : List Str) : V := .sl 0 1 (List.map V.str l)
abbrev vS (n : Nat) (v : V) : r8 := ⟨false, n, [v]⟩
abbrev aL {α : Type} (d : Nat) (e : α → V) (l : List α) : V := .aref d 0 (List.map e l).length
theorem AA : prog.eqGuardType prog.depth 55 = false := by kernel_rfl
theorem EB : prog.stoodInHeld 55 = false := by kernel_rfl
def j9 (a : d6) : V := .agg [(V.str a.fName), (V.int .i64 a.fAt), (V.int .i64 a.fBytes)]
def i9 (a : b7) : V := .agg [(V.str a.fName), (V.int .i64 a.fParent), (V.int .i64 a.fMin), (V.int .i64 a.fSize), (V.sl 0 3 (List.map j9 a.fFields)), (V.int .i64 a.fKey), (V.bool a.fUnique), (V.bool a.fLast)]
def p9 (a : j0) : V := .agg [(V.str a.fName), (V.int .i64 a.fType), (V.int .i64 a.fField), (V.str a.fSparse)]
def b8 (a : a7) : V := .agg [(V.str a.fName), (V.int .i64 a.fKind), (V.sl 0 8 (List.map i9 a.fTypes)), (V.sl 0 4 (List.map p9 a.fIndexes))]
def i5 (a : a6) : V := .agg [(V.str a.fField), (V.int .i64 a.fOp), (V.str a.fValue)]
def i7 (a : a8) : V := .agg [(V.str a.fSegment), (V.str a.fCodes), (V.sl 0 1 (List.map (fun x => (V.sl 0 3 (List.map i5 x))) a.fWhen))]
def eStr (a : D0) : V := .agg [(V.str a.e0), (V.str a.e1), (V.str a.e2), (V.str a.e3), (V.str a.e4), (V.str a.e5)]
def Gu : c8 := ⟨[6, 7, 8, 9, 10, 11, 12, 13, 14, 15, 16, 17, 18, 19, 20], []⟩
def Gv : c8 := ⟨[22, 23, 24, 25], []⟩
def Gw : c8 := ⟨[26, 29, 30, 31, 32, 33, 34, 35, 36, 37, 38, 39, 40, 41, 42, 43, 44, 45], []⟩
def Gx : c8 := ⟨[47, 48, 49, 50, 51, 52, 53, 54], []⟩
def Dj : c8 := ⟨[55, 58, 59, 60, 61, 62, 63, 64, 65, 66, 67, 68], []⟩
def Dk : c8 := ⟨[70, 71, 72, 73], []⟩
def Dl : c8 := ⟨[74, 77, 78, 79, 80, 81, 82, 83, 84, 85, 86, 87, 88, 89, 90, 91, 92, 93], []⟩
noncomputable def Gy : Code := (.seq (.seq (.region 9 (oN f5 34379) false) (.cond (.tmp 55) .skip (.exit 2))) (.seq (.block 3 (.seq (.region 11 (oN f5 140875) false) (.cond (.tmp 69) (.seq (.region 12 (oN f5 599627) false) .ret) .skip))) (.region 10 (oN f5 58955) false)))
noncomputable def Gz : Code := (.seq (.seq (.region 4 (oN f5 267) false) (.cond (.tmp 26) .skip (.exit 0))) (.seq (.block 1 (.seq (.seq (.region 6 (oN f5 2123) false) (.cond (.tmp 46) (.seq (.region 7 (oN f5 9291) false) .ret) .skip)) (.seq (.region 8 (oN f5 2635) false) (.block 2 (.loop Gy))))) (.region 5 (oN f5 459) false)))
noncomputable def GA : Code := (.seq (.seq (.region 14 (oN f5 535) false) (.cond (.tmp 74) .skip (.exit 4))) (.seq (.block 5 (.seq (.region 16 (oN f5 2199) false) (.cond (.tmp 94) (.seq (.region 17 (oN f5 9367) false) .ret) .skip))) (.region 15 (oN f5 919) false)))
noncomputable def f5c : Code := (.seq (.region 0 (oN f5 2) false) (.seq (.seq (.region 1 (oN f5 9) false) (.cond (.tmp 21) (.seq (.region 2 (oN f5 37) false) .ret) .skip)) (.seq (.seq (.region 3 (oN f5 19) false) (.block 0 (.loop Gz))) (.seq (.seq (.region 13 (oN f5 39) false) (.block 4 (.loop GA))) (.seq (.region 18 (oN f5 47) false) .ret)))))
def f5n : List (Nat × c8) := [(0, ⟨[0, 2], []⟩), (1, Gu), (2, ⟨[1, 21], []⟩), (3, ⟨[21], []⟩), (4, Gv), (5, ⟨[4, 27, 28, 55], []⟩), (6, Gw), (7, ⟨[1, 3, 46], []⟩), (8, ⟨[46], []⟩), (9, Gx), (10, ⟨[56, 57, 69], []⟩), (11, Dj), (12, ⟨[1, 3, 4, 69], []⟩), (13, ⟨[3, 26], []⟩), (14, Dk), (15, ⟨[75, 76, 94], []⟩), (16, Dl), (17, ⟨[1, 5, 94], []⟩), (18, ⟨[1, 5, 74], []⟩)]
def Bs : c8 := ⟨[5, 6, 7], []⟩
def Bt : c8 := ⟨[8, 11, 12, 13, 14, 15], []⟩
def Bu : c8 := ⟨[17, 18, 19, 20, 21, 22], []⟩
def Bv : c8 := ⟨[23, 26, 27, 28, 29, 30, 31, 32, 33, 34, 35, 36, 37, 38, 39, 40, 41, 42, 43, 44, 45, 46], []⟩
def xM : c8 := ⟨[0, 3, 8, 48, 49, 50], []⟩
noncomputable def Bw : Code := (.seq (.seq (.region 7 (oN f20 17189) false) (.cond (.tmp 23) .skip (.exit 2))) (.seq (.block 3 (.seq (.region 9 (oN f20 70437) false) (.cond (.tmp 47) (.seq (.region 10 (oN f20 299813) false) .ret) .skip))) (.region 8 (oN f20 29477) false)))
noncomputable def Bx : Code := (.seq (.seq (.region 2 (oN f20 133) false) (.cond (.tmp 8) .skip (.exit 0))) (.seq (.block 1 (.seq (.seq (.region 4 (oN f20 1061) false) (.cond (.tmp 16) (.seq (.region 5 (oN f20 4645) false) .ret) .skip)) (.seq (.region 6 (oN f20 1317) false) (.block 2 (.loop Bw))))) (.region 3 (oN f20 229) false)))
noncomputable def f20c : Code := (.seq (.region 0 (oN f20 2) false) (.seq (.seq (.region 1 (oN f20 9) false) (.block 0 (.loop Bx))) (.seq (.region 11 (oN f20 11) false) .ret)))
def zY : List (Nat × c8) := [(0, ⟨[2], []⟩), (1, ⟨[], []⟩), (2, Bs), (3, ⟨[4, 9, 10, 23], []⟩), (4, Bt), (5, ⟨[0, 3, 16], []⟩), (6, ⟨[16], []⟩), (7, Bu), (8, ⟨[24, 25, 47], []⟩), (9, Bv), (10, ⟨[0, 3, 4, 47], []⟩), (11, xM)]
def GC : c8 := ⟨[4, 5, 6], []⟩
def GD : c8 := ⟨[7, 10, 11, 12, 13, 14, 15, 16, 17, 18, 19, 20, 21, 22, 23, 24, 25, 26, 27, 28, 29, 30, 31, 32], []⟩
def GE : c8 := ⟨[0, 3, 7, 34, 35, 36], []⟩
noncomputable def GF : Code := (.seq (.seq (.region 2 (oN f6 133) false) (.cond (.tmp 7) .skip (.exit 0))) (.seq (.block 1 (.seq (.region 4 (oN f6 549) false) (.cond (.tmp 33) (.seq (.region 5 (oN f6 2341) false) .ret) .skip))) (.region 3 (oN f6 229) false)))
noncomputable def f6c : Code := (.seq (.region 0 (oN f6 2) false) (.seq (.seq (.region 1 (oN f6 9) false) (.block 0 (.loop GF))) (.seq (.region 6 (oN f6 11) false) .ret)))
def f6n : List (Nat × c8) := [(0, ⟨[2], []⟩), (1, ⟨[], []⟩), (2, GC), (3, ⟨[8, 9, 33], []⟩), (4, GD), (5, ⟨[0, 3, 33], []⟩), (6, GE)]
noncomputable def f21c : Code := (.seq (.region 0 (oN f21 2) false) (.seq (.region 1 (oN f21 5) false) .ret))
def Gc : List (Nat × c8) := [(0, ⟨[], []⟩), (1, ⟨[1, 2, 3, 4, 5, 6, 7, 8], []⟩)]
def Cz : c8 := ⟨[10, 11, 12, 13, 14, 15, 16, 17, 18, 19], []⟩
def CA : c8 := ⟨[3, 4, 20, 21, 22, 23, 24, 25, 26, 27, 28, 29, 30, 31, 32, 33, 34, 35, 36], []⟩
def CB : c8 := ⟨[0, 6, 7, 8, 39, 40, 41, 42, 43, 44, 45, 46], []⟩
noncomputable def CC : Code := (.seq (.region 2 (oN f50 69) false) (.seq (.cond (.tmp 8) .skip (.exit 0)) (.seq (.block 1 (.seq (.region 3 (oN f50 1125) false) (.seq (.region 4 (oN f50 2661) false) (.seq (.region 5 (oN f50 5733) false) (.cond (.tmp 37) (.seq (.region 6 (oN f50 20069) false) .ret) .skip))))) (.region 7 (oN f50 485) false))))
noncomputable def f50c : Code := (.seq (.region 0 (oN f50 2) false) (.seq (.seq (.region 1 (oN f50 9) false) (.block 0 (.loop CC))) (.seq (.region 8 (oN f50 11) false) .ret)))
def EO : List (Nat × c8) := [(0, ⟨[2], []⟩), (1, ⟨[5], []⟩), (2, ⟨[], []⟩), (3, ⟨[8, 9], []⟩), (4, Cz), (5, CA), (6, ⟨[0, 6, 7, 37], []⟩), (7, ⟨[37, 38], []⟩), (8, CB)]
def xG : c8 := ⟨[6], []⟩
def xH : c8 := ⟨[11, 12, 13, 14, 15], []⟩
noncomputable def xI : Code := (.seq (.region 2 (oN f133 69) false) (.seq (.cond (.tmp 9) .skip (.exit 0)) (.seq (.block 1 (.seq (.region 3 (oN f133 1125) false) (.seq (.region 4 (oN f133 2661) false) (.cond (.tmp 16) (.seq (.region 5 (oN f133 9829) false) .ret) .skip)))) (.region 6 (oN f133 485) false))))
noncomputable def FX : Code := (.seq (.region 0 (oN f133 2) false) (.seq (.seq (.region 1 (oN f133 9) false) (.block 0 (.loop xI))) (.seq (.region 7 (oN f133 11) false) .ret)))
def xJ : List (Nat × c8) := [(0, ⟨[4], []⟩), (1, xG), (2, ⟨[], []⟩), (3, ⟨[9, 10], []⟩), (4, xH), (5, ⟨[0, 1, 5, 7, 8, 16, 17], []⟩), (6, ⟨[5, 16, 18], []⟩), (7, ⟨[0, 1, 7, 8, 9], []⟩)]
def xB : c8 := ⟨[0, 1, 5, 6, 7, 8], []⟩
noncomputable def FT : Code := (.seq (.region 0 (oN f127 2) false) (.seq (.region 1 (oN f127 5) false) .ret))
def AV : List (Nat × c8) := [(0, ⟨[4], []⟩), (1, xB)]
noncomputable def FU : Code := (.seq (.region 0 (oN f128 2) false) (.seq (.region 1 (oN f128 5) false) .ret))
def AW : List (Nat × c8) := [(0, ⟨[0, 3], []⟩), (1, ⟨[1, 2, 4, 5, 6, 7, 8], []⟩)]
def wN : c8 := ⟨[], []⟩
def wO : c8 := ⟨[10, 11, 12, 13], []⟩
def wP : c8 := ⟨[14, 15, 16, 17, 18, 19, 20, 21, 22, 23, 24, 25, 26, 27, 28, 29, 30, 31, 32, 33, 34, 35, 36, 37, 38, 39, 40, 41], []⟩
def wQ : c8 := ⟨[5, 6, 42, 43, 44, 45, 46], []⟩
def wR : c8 := ⟨[0, 1, 7, 8, 9, 10, 49, 50, 51], []⟩
noncomputable def wS : Code := (.seq (.region 2 (oN f113 69) false) (.seq (.cond (.tmp 10) .skip (.exit 0)) (.seq (.block 1 (.seq (.region 3 (oN f113 1125) false) (.seq (.seq (.region 4 (oN f113 4709) false) (.cond (.tmp 42) (.seq (.region 5 (oN f113 19045) false) .ret) .skip)) (.seq (.region 6 (oN f113 5733) false) (.cond (.tmp 47) (.seq (.region 7 (oN f113 20069) false) .ret) .skip))))) (.region 8 (oN f113 485) false))))
noncomputable def FH : Code := (.seq (.region 0 (oN f113 2) false) (.seq (.seq (.region 1 (oN f113 9) false) (.block 0 (.loop wS))) (.seq (.region 9 (oN f113 11) false) .ret)))
def wT : List (Nat × c8) := [(0, ⟨[4], []⟩), (1, wN), (2, ⟨[], []⟩), (3, wO), (4, wP), (5, ⟨[0, 1, 5, 6, 7, 8, 9, 42], []⟩), (6, wQ), (7, ⟨[0, 1, 7, 8, 9, 47], []⟩), (8, ⟨[47, 48], []⟩), (9, wR)]
def DQ : c8 := ⟨[4, 5, 6, 7, 8, 9, 10, 11, 12, 13, 14, 15, 16, 17, 18, 19, 20, 21, 22, 23, 24, 25, 26, 27, 28, 29, 30, 31, 32], []⟩
def DR : c8 := ⟨[33, 41, 42, 43, 44, 45, 46, 47, 48, 49, 50, 51], []⟩
def DS : c8 := ⟨[1, 40, 52, 53, 54, 55, 56, 57, 58, 59, 60, 61, 62, 63, 64, 65, 66, 67, 68, 69], []⟩
noncomputable def f80c : Code := (.seq (.region 0 (oN f80 2) false) (.seq (.block 0 (.seq (.region 1 (oN f80 17) false) (.cond (.tmp 3) (.seq (.region 2 (oN f80 73) false) .ret) (.seq (.region 3 (oN f80 89) false) (.cond (.tmp 33) (.seq (.region 4 (oN f80 313) false) .ret) (.seq (.region 5 (oN f80 377) false) (.cond (.tmp 40) (.seq (.region 6 (oN f80 1273) false) .ret) .skip))))))) (.seq (.region 7 (oN f80 11) true) .ret)))
def GO : List (Nat × c8) := [(0, ⟨[0, 2], []⟩), (1, DQ), (2, ⟨[1, 3], []⟩), (3, ⟨[3, 34, 35, 36], []⟩), (4, ⟨[1, 33, 37, 38, 39], []⟩), (5, DR), (6, ⟨[1, 40], []⟩), (7, DS)]
def Ea : c8 := ⟨[6], []⟩
def Eb : c8 := ⟨[11, 12, 13, 14, 15], []⟩
noncomputable def Ec : Code := (.seq (.region 2 (oN f92 69) false) (.seq (.cond (.tmp 9) .skip (.exit 0)) (.seq (.block 1 (.seq (.region 3 (oN f92 1125) false) (.seq (.region 4 (oN f92 2661) false) (.cond (.tmp 16) (.seq (.region 5 (oN f92 9829) false) .ret) .skip)))) (.region 6 (oN f92 485) false))))
noncomputable def f92c : Code := (.seq (.region 0 (oN f92 2) false) (.seq (.seq (.region 1 (oN f92 9) false) (.block 0 (.loop Ec))) (.seq (.region 7 (oN f92 11) false) .ret)))
def Fd : List (Nat × c8) := [(0, ⟨[4], []⟩), (1, Ea), (2, ⟨[], []⟩), (3, ⟨[9, 10], []⟩), (4, Eb), (5, ⟨[0, 1, 5, 7, 8, 16, 17], []⟩), (6, ⟨[5, 16, 18], []⟩), (7, ⟨[0, 1, 7, 8, 9], []⟩)]
def DT : c8 := ⟨[0, 1, 5, 6, 7, 8], []⟩
noncomputable def f81c : Code := (.seq (.region 0 (oN f81 2) false) (.seq (.region 1 (oN f81 5) false) .ret))
def GP : List (Nat × c8) := [(0, ⟨[4], []⟩), (1, DT)]
noncomputable def f82c : Code := (.seq (.region 0 (oN f82 2) false) (.seq (.region 1 (oN f82 5) false) .ret))
def GQ : List (Nat × c8) := [(0, ⟨[0, 3], []⟩), (1, ⟨[1, 2, 4, 5, 6, 7, 8], []⟩)]
def DU : c8 := ⟨[6], []⟩
def DV : c8 := ⟨[11, 12, 13, 14, 15], []⟩
noncomputable def DW : Code := (.seq (.region 2 (oN f83 69) false) (.seq (.cond (.tmp 9) .skip (.exit 0)) (.seq (.block 1 (.seq (.region 3 (oN f83 1125) false) (.seq (.region 4 (oN f83 2661) false) (.cond (.tmp 16) (.seq (.region 5 (oN f83 9829) false) .ret) .skip)))) (.region 6 (oN f83 485) false))))
noncomputable def f83c : Code := (.seq (.region 0 (oN f83 2) false) (.seq (.seq (.region 1 (oN f83 9) false) (.block 0 (.loop DW))) (.seq (.region 7 (oN f83 11) false) .ret)))
def EZ : List (Nat × c8) := [(0, ⟨[4], []⟩), (1, DU), (2, ⟨[], []⟩), (3, ⟨[9, 10], []⟩), (4, DV), (5, ⟨[0, 1, 5, 7, 8, 16, 17], []⟩), (6, ⟨[5, 16, 18], []⟩), (7, ⟨[0, 1, 7, 8, 9], []⟩)]
def CD : c8 := ⟨[7, 8, 9, 10, 11, 12, 13], []⟩
def CE : c8 := ⟨[], []⟩
def CF : c8 := ⟨[18, 19, 20, 21], []⟩
def CG : c8 := ⟨[22, 23, 24, 25, 26, 27, 28, 29, 30], []⟩
def CH : c8 := ⟨[31, 32, 33, 34, 35], []⟩
def yi : c8 := ⟨[5, 36, 37, 38, 39, 40, 41, 42, 43, 44, 45, 46, 47, 48, 49, 50, 51, 52, 53, 54, 55, 56, 57, 58, 59, 60, 61, 62, 63, 64, 65, 66, 67, 68, 69], []⟩
def yj : c8 := ⟨[4, 6, 70, 71, 72, 73, 74, 75, 76, 77], []⟩
def yk : c8 := ⟨[78, 79], []⟩
noncomputable def CI : Code := (.seq (.region 5 (oN f51 279) false) (.seq (.cond (.tmp 18) .skip (.exit 0)) (.seq (.block 1 (.seq (.region 6 (oN f51 4503) false) (.seq (.seq (.region 7 (oN f51 18839) false) (.cond (.tmp 31) (.seq (.region 8 (oN f51 76183) false) .ret) .skip)) (.seq (.region 9 (oN f51 22935) false) (.seq (.seq (.region 10 (oN f51 80279) false) (.cond (.tmp 70) (.seq (.region 11 (oN f51 309655) false) .ret) .skip)) (.seq (.region 12 (oN f51 96663) false) (.seq (.region 13 (oN f51 194967) false) (.cond (.tmp 80) (.seq (.region 14 (oN f51 653719) false) .ret) .skip)))))))) (.region 15 (oN f51 1943) false))))
noncomputable def f51c : Code := (.seq (.region 0 (oN f51 2) false) (.seq (.seq (.region 1 (oN f51 9) false) (.cond (.tmp 14) (.seq (.region 2 (oN f51 37) false) .ret) .skip)) (.seq (.region 3 (oN f51 11) false) (.seq (.seq (.region 4 (oN f51 39) false) (.block 0 (.loop CI))) (.seq (.region 16 (oN f51 47) false) .ret)))))
def EP : List (Nat × c8) := [(0, ⟨[2], []⟩), (1, CD), (2, ⟨[0, 14], []⟩), (3, ⟨[14], [(0, { site := true })]⟩), (4, CE), (5, ⟨[], []⟩), (6, CF), (7, CG), (8, ⟨[0, 3, 4, 5, 15, 16, 17, 31], []⟩), (9, CH), (10, yi), (11, ⟨[0, 3, 4, 6, 15, 16, 17, 70], []⟩), (12, yj), (13, yk), (14, ⟨[0, 3, 15, 16, 17, 80], []⟩), (15, ⟨[80, 81], []⟩), (16, ⟨[0, 3, 15, 16, 17, 18], []⟩)]
def wU : c8 := ⟨[6], []⟩
def wV : c8 := ⟨[11, 12, 13, 14, 15], []⟩
noncomputable def wW : Code := (.seq (.region 2 (oN f114 69) false) (.seq (.cond (.tmp 9) .skip (.exit 0)) (.seq (.block 1 (.seq (.region 3 (oN f114 1125) false) (.seq (.region 4 (oN f114 2661) false) (.cond (.tmp 16) (.seq (.region 5 (oN f114 9829) false) .ret) .skip)))) (.region 6 (oN f114 485) false))))
noncomputable def FI : Code := (.seq (.region 0 (oN f114 2) false) (.seq (.seq (.region 1 (oN f114 9) false) (.block 0 (.loop wW))) (.seq (.region 7 (oN f114 11) false) .ret)))
def wX : List (Nat × c8) := [(0, ⟨[4], []⟩), (1, wU), (2, ⟨[], []⟩), (3, ⟨[9, 10], []⟩), (4, wV), (5, ⟨[0, 1, 5, 7, 8, 16, 17], []⟩), (6, ⟨[5, 16, 18], []⟩), (7, ⟨[0, 1, 7, 8, 9], []⟩)]
def DX : c8 := ⟨[0, 1, 5, 6, 7, 8], []⟩
noncomputable def f84c : Code := (.seq (.region 0 (oN f84 2) false) (.seq (.region 1 (oN f84 5) false) .ret))
def GR : List (Nat × c8) := [(0, ⟨[4], []⟩), (1, DX)]
noncomputable def f85c : Code := (.seq (.region 0 (oN f85 2) false) (.seq (.region 1 (oN f85 5) false) .ret))
def GS : List (Nat × c8) := [(0, ⟨[0, 3], []⟩), (1, ⟨[1, 2, 4, 5, 6, 7, 8], []⟩)]
def CJ : c8 := ⟨[], []⟩
def CK : c8 := ⟨[11, 12, 13, 14], []⟩
def CL : c8 := ⟨[5, 15, 16, 17, 18, 19, 20, 21, 22, 23, 24, 25, 26, 27, 28, 29, 30, 31, 32, 33, 34, 35, 36, 37, 38, 39, 40, 41, 42], []⟩
def CM : c8 := ⟨[43, 44, 45, 46, 47, 48, 49], []⟩
def CN : c8 := ⟨[6, 7, 50, 51, 52, 53, 54, 55, 56, 57, 58, 59, 60, 61, 62, 63, 64, 65, 66, 67], []⟩
def yl : c8 := ⟨[0, 1, 8, 9, 10, 11, 70, 71, 72], []⟩
noncomputable def CO : Code := (.seq (.region 2 (oN f52 69) false) (.seq (.cond (.tmp 11) .skip (.exit 0)) (.seq (.block 1 (.seq (.region 3 (oN f52 1125) false) (.seq (.seq (.region 4 (oN f52 4709) false) (.cond (.tmp 43) (.seq (.region 5 (oN f52 19045) false) .ret) .skip)) (.seq (.region 6 (oN f52 5733) false) (.seq (.region 7 (oN f52 11877) false) (.cond (.tmp 68) (.seq (.region 8 (oN f52 40549) false) .ret) .skip)))))) (.region 9 (oN f52 485) false))))
noncomputable def f52c : Code := (.seq (.region 0 (oN f52 2) false) (.seq (.seq (.region 1 (oN f52 9) false) (.block 0 (.loop CO))) (.seq (.region 10 (oN f52 11) false) .ret)))
def EQ : List (Nat × c8) := [(0, ⟨[4], []⟩), (1, CJ), (2, ⟨[], []⟩), (3, CK), (4, CL), (5, ⟨[0, 1, 6, 8, 9, 10, 43], []⟩), (6, CM), (7, CN), (8, ⟨[0, 1, 8, 9, 10, 68], []⟩), (9, ⟨[68, 69], []⟩), (10, yl)]
def BJ : c8 := ⟨[1, 3, 4, 5, 6, 7, 8, 9, 10, 11, 12, 13, 14, 15, 16, 17, 18, 19, 20, 21, 22, 23, 24, 25, 26, 27], []⟩
noncomputable def f28c : Code := (.seq (.region 0 (oN f28 2) false) (.seq (.region 1 (oN f28 5) false) .ret))
def Ge : List (Nat × c8) := [(0, ⟨[0, 2], []⟩), (1, BJ)]
def Er : c8 := ⟨[4, 11, 12, 13, 14, 15, 16], []⟩
noncomputable def Es : Code := (.seq (.region 3 (oN f97 139) false) (.seq (.cond (.tmp 9) .skip (.exit 0)) (.seq (.block 1 (.seq (.region 4 (oN f97 2251) false) (.seq (.region 5 (oN f97 5323) true) (.seq (.seq (.region 6 (oN f97 19659) false) (.cond (.tmp 18) (.seq (.region 7 (oN f97 77003) false) .ret) .skip)) (.region 8 (oN f97 15563) false))))) (.region 9 (oN f97 971) false))))
noncomputable def f97c : Code := (.seq (.region 0 (oN f97 2) false) (.seq (.region 1 (oN f97 5) false) (.seq (.seq (.region 2 (oN f97 19) false) (.block 0 (.loop Es))) (.seq (.region 10 (oN f97 23) false) .ret))))
def Ff : List (Nat × c8) := [(0, ⟨[2], []⟩), (1, ⟨[], []⟩), (2, ⟨[6], []⟩), (3, ⟨[], []⟩), (4, ⟨[9, 10], []⟩), (5, Er), (6, ⟨[17], []⟩), (7, ⟨[0, 3, 5, 7, 8, 18], []⟩), (8, ⟨[5, 18, 19, 20, 21, 22], []⟩), (9, ⟨[23], []⟩), (10, ⟨[0, 3, 7, 8, 9], []⟩)]
def xC : c8 := ⟨[6], []⟩
def xD : c8 := ⟨[11, 12, 13, 14, 15], []⟩
noncomputable def xE : Code := (.seq (.region 2 (oN f132 69) false) (.seq (.cond (.tmp 9) .skip (.exit 0)) (.seq (.block 1 (.seq (.region 3 (oN f132 1125) false) (.seq (.region 4 (oN f132 2661) false) (.cond (.tmp 16) (.seq (.region 5 (oN f132 9829) false) .ret) .skip)))) (.region 6 (oN f132 485) false))))
noncomputable def FW : Code := (.seq (.region 0 (oN f132 2) false) (.seq (.seq (.region 1 (oN f132 9) false) (.block 0 (.loop xE))) (.seq (.region 7 (oN f132 11) false) .ret)))
def xF : List (Nat × c8) := [(0, ⟨[4], []⟩), (1, xC), (2, ⟨[], []⟩), (3, ⟨[9, 10], []⟩), (4, xD), (5, ⟨[0, 1, 5, 7, 8, 16, 17], []⟩), (6, ⟨[5, 16, 18], []⟩), (7, ⟨[0, 1, 7, 8, 9], []⟩)]
def wY : c8 := ⟨[0, 1, 5, 6, 7, 8], []⟩
noncomputable def FJ : Code := (.seq (.region 0 (oN f118 2) false) (.seq (.region 1 (oN f118 5) false) .ret))
def AL : List (Nat × c8) := [(0, ⟨[4], []⟩), (1, wY)]
def wZ : c8 := ⟨[0, 1, 4, 5, 6, 7, 8, 9, 10, 11, 12], []⟩
noncomputable def FK : Code := (.seq (.region 0 (oN f119 2) false) (.seq (.region 1 (oN f119 5) false) .ret))
def AM : List (Nat × c8) := [(0, ⟨[3], []⟩), (1, wZ)]
def DY : c8 := ⟨[6, 7, 8], []⟩
def DZ : c8 := ⟨[1, 2, 5, 10, 11, 12], []⟩
noncomputable def f90c : Code := (.seq (.region 0 (oN f90 2) false) (.seq (.block 0 (.seq (.region 1 (oN f90 17) false) (.cond (.tmp 5) (.seq (.region 2 (oN f90 73) false) .ret) (.seq (.region 3 (oN f90 89) false) (.cond (.tmp 9) (.seq (.region 4 (oN f90 313) false) .ret) .skip))))) (.seq (.region 5 (oN f90 11) false) .ret)))
def GW : List (Nat × c8) := [(0, ⟨[0, 4], []⟩), (1, DY), (2, ⟨[1, 2, 5], []⟩), (3, DZ), (4, ⟨[9], []⟩), (5, ⟨[9], []⟩)]
noncomputable def f93c : Code := (.seq (.region 0 (oN f93 2) false) (.seq (.region 1 (oN f93 5) false) .ret))
def GY : List (Nat × c8) := [(0, ⟨[0, 3], []⟩), (1, ⟨[1, 2, 4, 5, 6, 7], []⟩)]
noncomputable def f91c : Code := (.seq (.region 0 (oN f91 2) false) (.seq (.seq (.region 1 (oN f91 9) false) (.cond (.tmp 5) (.seq (.region 2 (oN f91 37) false) .ret) .skip)) (.seq (.region 3 (oN f91 11) false) .ret)))
def GX : List (Nat × c8) := [(0, ⟨[2, 3], []⟩), (1, ⟨[4], []⟩), (2, ⟨[0, 5], []⟩), (3, ⟨[0, 5, 6], []⟩)]
def CP : c8 := ⟨[7, 8], []⟩
def CQ : c8 := ⟨[2, 3, 6, 10, 12, 13, 14, 15, 16, 17, 18], []⟩
noncomputable def f54c : Code := (.seq (.region 0 (oN f54 2) false) (.seq (.seq (.region 1 (oN f54 9) false) (.seq (.region 2 (oN f54 21) false) (.cond (.tmp 10) (.seq (.region 3 (oN f54 77) false) .ret) .skip))) (.seq (.region 4 (oN f54 11) false) .ret)))
def Gt : List (Nat × c8) := [(0, ⟨[0, 1, 4, 5], []⟩), (1, CP), (2, ⟨[9], []⟩), (3, ⟨[2, 3, 6, 10, 11], []⟩), (4, CQ)]
def xd : c8 := ⟨[8, 9, 10, 11, 12, 13], []⟩
def xe : c8 := ⟨[7, 14, 15, 16, 17], []⟩
def xf : c8 := ⟨[1, 2, 7, 18, 19], [(1, { eff := true })]⟩
def xg : c8 := ⟨[5, 20], [(1, { close := true })]⟩
noncomputable def xh : Code := (.seq (.seq (.region 2 (oN f122 131) false) (.cond (.tmp 7) .skip (.exit 0))) (.seq (.block 1 (.region 4 (oN f122 291) false)) (.region 3 (oN f122 227) false)))
noncomputable def FO : Code := (.seq (.region 0 (oN f122 2) false) (.seq (.region 1 (oN f122 5) false) (.seq (.block 0 (.loop xh)) (.seq (.region 5 (oN f122 23) false) (.seq (.region 6 (oN f122 47) false) .ret)))))
def xi : List (Nat × c8) := [(0, ⟨[0, 4], []⟩), (1, ⟨[], [(0, { site := true })]⟩), (2, ⟨[6], []⟩), (3, xd), (4, xe), (5, xf), (6, xg)]
def xc : c8 := ⟨[0, 1, 5, 6, 7, 8], []⟩
noncomputable def FN : Code := (.seq (.region 0 (oN f121 2) false) (.seq (.region 1 (oN f121 5) false) .ret))
def AR : List (Nat × c8) := [(0, ⟨[4], []⟩), (1, xc)]
def Et : c8 := ⟨[9, 10, 11, 12, 13], []⟩
def Eu : c8 := ⟨[1, 2, 3, 8, 15, 17, 18, 19, 20, 21, 22, 23, 24, 25, 26], []⟩
noncomputable def f98c : Code := (.seq (.region 0 (oN f98 2) false) (.seq (.seq (.region 1 (oN f98 9) false) (.seq (.region 2 (oN f98 21) false) (.cond (.tmp 15) (.seq (.region 3 (oN f98 77) false) .ret) .skip))) (.seq (.region 4 (oN f98 11) false) .ret)))
def GZ : List (Nat × c8) := [(0, ⟨[0, 6, 7], []⟩), (1, Et), (2, ⟨[14], []⟩), (3, ⟨[1, 2, 3, 8, 15, 16], []⟩), (4, Eu)]
def xj : c8 := ⟨[7, 8, 9, 10], []⟩
def xk : c8 := ⟨[1, 2, 6, 12, 14, 15, 16], []⟩
noncomputable def FP : Code := (.seq (.region 0 (oN f123 2) false) (.seq (.seq (.region 1 (oN f123 9) false) (.seq (.region 2 (oN f123 21) false) (.cond (.tmp 12) (.seq (.region 3 (oN f123 77) false) .ret) .skip))) (.seq (.region 4 (oN f123 11) false) .ret)))
def AU : List (Nat × c8) := [(0, ⟨[0, 4, 5], []⟩), (1, xj), (2, ⟨[11], []⟩), (3, ⟨[1, 2, 6, 12, 13], []⟩), (4, xk)]
def ww : c8 := ⟨[1, 2, 8, 9, 10, 11, 12, 13], []⟩
def wx : c8 := ⟨[6, 7, 14, 15, 16], []⟩
noncomputable def Fy : Code := (.seq (.region 0 (oN f102 2) false) (.seq (.region 1 (oN f102 5) false) (.seq (.region 2 (oN f102 11) false) .ret)))
def AB : List (Nat × c8) := [(0, ⟨[0, 4, 5], []⟩), (1, ww), (2, wx)]
def DC : c8 := ⟨[1, 2, 5, 7, 8, 9, 10, 11, 12], []⟩
noncomputable def f71c : Code := (.seq (.region 0 (oN f71 2) false) (.seq (.region 1 (oN f71 5) false) (.seq (.region 2 (oN f71 11) false) .ret)))
def GG : List (Nat × c8) := [(0, ⟨[0, 4], []⟩), (1, DC), (2, ⟨[6, 13], []⟩)]
def xl : c8 := ⟨[6], []⟩
def xm : c8 := ⟨[11, 12, 13, 14, 15], []⟩
noncomputable def xn : Code := (.seq (.region 2 (oN f124 69) false) (.seq (.cond (.tmp 9) .skip (.exit 0)) (.seq (.block 1 (.seq (.region 3 (oN f124 1125) false) (.seq (.region 4 (oN f124 2661) false) (.cond (.tmp 16) (.seq (.region 5 (oN f124 9829) false) .ret) .skip)))) (.region 6 (oN f124 485) false))))
noncomputable def FQ : Code := (.seq (.region 0 (oN f124 2) false) (.seq (.seq (.region 1 (oN f124 9) false) (.block 0 (.loop xn))) (.seq (.region 7 (oN f124 11) false) .ret)))
def xo : List (Nat × c8) := [(0, ⟨[4], []⟩), (1, xl), (2, ⟨[], []⟩), (3, ⟨[9, 10], []⟩), (4, xm), (5, ⟨[0, 1, 5, 7, 8, 16, 17], []⟩), (6, ⟨[5, 16, 18], []⟩), (7, ⟨[0, 1, 7, 8, 9], []⟩)]
def wE : c8 := ⟨[0, 1, 5, 6, 7, 8], []⟩
noncomputable def FA : Code := (.seq (.region 0 (oN f104 2) false) (.seq (.region 1 (oN f104 5) false) .ret))
def AC : List (Nat × c8) := [(0, ⟨[4], []⟩), (1, wE)]
def xp : c8 := ⟨[6], []⟩
def xq : c8 := ⟨[11, 12, 13, 14, 15], []⟩
noncomputable def xr : Code := (.seq (.region 2 (oN f125 69) false) (.seq (.cond (.tmp 9) .skip (.exit 0)) (.seq (.block 1 (.seq (.region 3 (oN f125 1125) false) (.seq (.region 4 (oN f125 2661) false) (.cond (.tmp 16) (.seq (.region 5 (oN f125 9829) false) .ret) .skip)))) (.region 6 (oN f125 485) false))))
noncomputable def FR : Code := (.seq (.region 0 (oN f125 2) false) (.seq (.seq (.region 1 (oN f125 9) false) (.block 0 (.loop xr))) (.seq (.region 7 (oN f125 11) false) .ret)))
def xu : List (Nat × c8) := [(0, ⟨[4], []⟩), (1, xp), (2, ⟨[], []⟩), (3, ⟨[9, 10], []⟩), (4, xq), (5, ⟨[0, 1, 5, 7, 8, 16, 17], []⟩), (6, ⟨[5, 16, 18], []⟩), (7, ⟨[0, 1, 7, 8, 9], []⟩)]
def wG : c8 := ⟨[0, 1, 5, 6, 7, 8], []⟩
noncomputable def FC : Code := (.seq (.region 0 (oN f106 2) false) (.seq (.region 1 (oN f106 5) false) .ret))
def AF : List (Nat × c8) := [(0, ⟨[4], []⟩), (1, wG)]
noncomputable def FY : Code := (.seq (.region 0 (oN f134 2) false) (.seq (.region 1 (oN f134 5) false) .ret))
def AY : List (Nat × c8) := [(0, ⟨[0, 3], []⟩), (1, ⟨[1, 2, 4, 5, 6, 7], []⟩)]
def xb : c8 := ⟨[2, 3, 7, 8, 9, 10], []⟩
noncomputable def FM : Code := (.seq (.region 0 (oN f120 2) false) (.seq (.region 1 (oN f120 5) false) (.seq (.region 2 (oN f120 11) false) .ret)))
def AQ : List (Nat × c8) := [(0, ⟨[0, 1, 4, 5], []⟩), (1, xb), (2, ⟨[6, 11, 12, 13], []⟩)]
def wI : c8 := ⟨[7, 8, 9, 10, 11, 12, 13], []⟩
def wJ : c8 := ⟨[2, 3, 5, 6, 14, 15, 16, 17, 18, 19, 20, 21, 22, 23, 24, 25, 26, 27, 28, 29, 30, 31, 32, 33, 34, 35, 36], []⟩
noncomputable def FE : Code := (.seq (.region 0 (oN f108 2) false) (.seq (.region 1 (oN f108 5) false) (.seq (.region 2 (oN f108 11) true) .ret)))
def AH : List (Nat × c8) := [(0, ⟨[0, 1, 4], []⟩), (1, wI), (2, wJ)]
def wH : c8 := ⟨[1, 2, 4, 5, 6, 7], []⟩
noncomputable def FD : Code := (.seq (.region 0 (oN f107 2) false) (.seq (.region 1 (oN f107 5) false) .ret))
def AG : List (Nat × c8) := [(0, ⟨[0, 3], []⟩), (1, wH)]
def wF : c8 := ⟨[0, 1, 4, 5, 6, 7, 8, 9, 10, 11, 12, 13, 14, 15, 16], []⟩
noncomputable def FB : Code := (.seq (.region 0 (oN f105 2) false) (.seq (.region 1 (oN f105 5) false) .ret))
def AD : List (Nat × c8) := [(0, ⟨[3], []⟩), (1, wF)]
def DF : c8 := ⟨[1, 2, 5, 6, 7, 8, 9, 10, 11, 12, 13], []⟩
noncomputable def f74c : Code := (.seq (.region 0 (oN f74 2) false) (.seq (.region 1 (oN f74 5) false) .ret))
def GJ : List (Nat × c8) := [(0, ⟨[0, 4], []⟩), (1, DF)]
def Ev : c8 := ⟨[9, 10, 11], []⟩
def Ew : c8 := ⟨[1, 2, 3, 8, 13, 15, 16, 17, 18, 19, 20, 21], []⟩
noncomputable def f99c : Code := (.seq (.region 0 (oN f99 2) false) (.seq (.seq (.region 1 (oN f99 9) false) (.seq (.region 2 (oN f99 21) false) (.cond (.tmp 13) (.seq (.region 3 (oN f99 77) false) .ret) .skip))) (.seq (.region 4 (oN f99 11) false) .ret)))
def Ha : List (Nat × c8) := [(0, ⟨[0, 6, 7], []⟩), (1, Ev), (2, ⟨[12], []⟩), (3, ⟨[1, 2, 3, 8, 13, 14], []⟩), (4, Ew)]
def Dz : c8 := ⟨[14, 15, 16], []⟩
def DA : c8 := ⟨[17, 18, 19, 20, 21, 22, 23, 24], []⟩
def DB : c8 := ⟨[1, 11, 28, 29, 30, 31, 32, 33, 34, 35], []⟩
def tR : c8 := ⟨[1, 3, 5, 13, 28, 37, 38, 39, 40, 41, 42, 43, 44, 45], []⟩
noncomputable def f65c : Code := (.seq (.region 0 (oN f65 2) false) (.seq (.seq (.region 1 (oN f65 9) false) (.cond (.tmp 17) (.seq (.region 2 (oN f65 37) false) .ret) .skip)) (.seq (.region 3 (oN f65 11) false) (.seq (.seq (.region 4 (oN f65 39) false) (.cond (.tmp 26) (.seq (.region 5 (oN f65 151) false) .ret) .skip)) (.seq (.seq (.region 6 (oN f65 79) false) (.cond (.tmp 28) (.seq (.region 7 (oN f65 303) false) (.seq (.region 8 (oN f65 687) false) (.cond (.tmp 37) (.seq (.region 9 (oN f65 2479) false) .ret) .skip))) .skip)) (.seq (.seq (.region 10 (oN f65 159) false) (.seq (.region 11 (oN f65 351) false) (.cond (.tmp 47) (.seq (.region 12 (oN f65 1247) false) .ret) .skip))) (.seq (.region 13 (oN f65 191) false) .ret)))))))
def GB : List (Nat × c8) := [(0, ⟨[0, 2, 6, 7], []⟩), (1, Dz), (2, ⟨[1, 3, 5, 17], []⟩), (3, DA), (4, ⟨[9, 25], []⟩), (5, ⟨[1, 3, 5, 8, 26], []⟩), (6, ⟨[26, 27], []⟩), (7, DB), (8, ⟨[10, 36], []⟩), (9, ⟨[3, 5, 8, 37], []⟩), (10, tR), (11, ⟨[12, 46], []⟩), (12, ⟨[8, 47], []⟩), (13, ⟨[8, 47, 48], []⟩)]
def Cl : c8 := ⟨[12, 13], []⟩
def Cm : c8 := ⟨[1], []⟩
def Cn : c8 := ⟨[18, 19, 20], []⟩
def Co : c8 := ⟨[6, 9, 21, 22, 23, 24, 25, 26, 27], []⟩
def yh : c8 := ⟨[11, 32, 33, 34, 35], [(0, { tk := [7], keep := [0] }), (3, { tk := [32], keep := [0] }), (4, { tk := [35], keep := [0] })]⟩
noncomputable def Cp : Code := (.seq (.region 6 (oN f36 559) false) (.seq (.cond (.tmp 18) .skip (.exit 0)) (.seq (.block 1 (.seq (.region 7 (oN f36 9007) false) (.seq (.region 8 (oN f36 21295) false) (.seq (.seq (.region 9 (oN f36 78639) false) (.cond (.tmp 29) (.seq (.region 10 (oN f36 308015) false) .ret) .skip)) (.seq (.region 11 (oN f36 95023) false) (.region 12 (oN f36 127791) false)))))) (.region 13 (oN f36 3887) false))))
noncomputable def f36c : Code := (.seq (.region 0 (oN f36 2) false) (.seq (.seq (.region 1 (oN f36 9) false) (.cond (.tmp 14) (.seq (.region 2 (oN f36 37) false) .ret) .skip)) (.seq (.region 3 (oN f36 11) false) (.seq (.region 4 (oN f36 23) false) (.seq (.seq (.region 5 (oN f36 79) false) (.block 0 (.loop Cp))) (.seq (.region 14 (oN f36 95) false) .ret))))))
def EN : List (Nat × c8) := [(0, ⟨[0, 4, 5], []⟩), (1, Cl), (2, ⟨[1, 2, 14], []⟩), (3, ⟨[14], []⟩), (4, ⟨[], [(0, { keep := [0] })]⟩), (5, Cm), (6, ⟨[], []⟩), (7, Cn), (8, Co), (9, ⟨[28], []⟩), (10, ⟨[2, 7, 10, 11, 15, 16, 17, 29, 30], []⟩), (11, ⟨[10, 29, 31], []⟩), (12, yh), (13, ⟨[36], []⟩), (14, ⟨[2, 6, 7, 15, 16, 17, 18, 37], []⟩)]
def Bz : c8 := ⟨[8, 9], []⟩
def BA : c8 := ⟨[1, 2, 10, 11, 12, 13, 14, 15, 16], []⟩
noncomputable def f22c : Code := (.seq (.region 0 (oN f22 2) false) (.seq (.seq (.region 1 (oN f22 9) false) (.cond (.tmp 10) (.seq (.region 2 (oN f22 37) false) .ret) .skip)) (.seq (.region 3 (oN f22 11) false) (.seq (.seq (.region 4 (oN f22 39) false) (.cond (.tmp 18) (.seq (.region 5 (oN f22 151) false) .ret) .skip)) (.seq (.region 6 (oN f22 47) false) .ret)))))
def Gd : List (Nat × c8) := [(0, ⟨[0, 4, 5], []⟩), (1, Bz), (2, ⟨[1, 2, 10], []⟩), (3, BA), (4, ⟨[6, 17], []⟩), (5, ⟨[7, 18], []⟩), (6, ⟨[7, 18, 19], []⟩)]
def wy : c8 := ⟨[6], []⟩
def wz : c8 := ⟨[11, 12, 13, 14, 15], []⟩
noncomputable def wC : Code := (.seq (.region 2 (oN f103 69) false) (.seq (.cond (.tmp 9) .skip (.exit 0)) (.seq (.block 1 (.seq (.region 3 (oN f103 1125) false) (.seq (.region 4 (oN f103 2661) false) (.cond (.tmp 16) (.seq (.region 5 (oN f103 9829) false) .ret) .skip)))) (.region 6 (oN f103 485) false))))
noncomputable def Fz : Code := (.seq (.region 0 (oN f103 2) false) (.seq (.seq (.region 1 (oN f103 9) false) (.block 0 (.loop wC))) (.seq (.region 7 (oN f103 11) false) .ret)))
def wD : List (Nat × c8) := [(0, ⟨[4], []⟩), (1, wy), (2, ⟨[], []⟩), (3, ⟨[9, 10], []⟩), (4, wz), (5, ⟨[0, 1, 5, 7, 8, 16, 17], []⟩), (6, ⟨[5, 16, 18], []⟩), (7, ⟨[0, 1, 7, 8, 9], []⟩)]
def DD : c8 := ⟨[0, 1, 5, 6, 7, 8], []⟩
noncomputable def f72c : Code := (.seq (.region 0 (oN f72 2) false) (.seq (.region 1 (oN f72 5) false) .ret))
def GH : List (Nat × c8) := [(0, ⟨[4], []⟩), (1, DD)]
def DE : c8 := ⟨[0, 1, 4, 5, 6, 7], []⟩
noncomputable def f73c : Code := (.seq (.region 0 (oN f73 2) false) (.seq (.region 1 (oN f73 5) false) .ret))
def GI : List (Nat × c8) := [(0, ⟨[3], []⟩), (1, DE)]
def Cq : c8 := ⟨[10, 11, 12], []⟩
def Cr : c8 := ⟨[1, 3, 8, 14, 17, 18, 19, 20, 21], []⟩
def Cs : c8 := ⟨[2, 22, 23], []⟩
noncomputable def f43c : Code := (.seq (.region 0 (oN f43 2) false) (.seq (.seq (.region 1 (oN f43 9) false) (.seq (.region 2 (oN f43 21) false) (.cond (.tmp 14) (.seq (.region 3 (oN f43 77) false) .ret) .skip))) (.seq (.region 4 (oN f43 11) false) (.seq (.seq (.region 5 (oN f43 39) false) (.cond (.tmp 24) (.seq (.region 6 (oN f43 151) false) .ret) .skip)) (.seq (.region 7 (oN f43 47) false) .ret)))))
def Gg : List (Nat × c8) := [(0, ⟨[0, 7], []⟩), (1, Cq), (2, ⟨[13], []⟩), (3, ⟨[1, 2, 3, 8, 14, 15, 16], []⟩), (4, Cr), (5, Cs), (6, ⟨[9, 24, 25], []⟩), (7, ⟨[9, 24, 26], []⟩)]
def Ct : c8 := ⟨[0, 3, 4, 5, 6], []⟩
noncomputable def f44c : Code := (.seq (.region 0 (oN f44 2) false) (.seq (.region 1 (oN f44 5) false) .ret))
def Gh : List (Nat × c8) := [(0, ⟨[2], []⟩), (1, Ct)]
def BB : c8 := ⟨[1, 3, 8, 16, 17, 18, 19, 20, 21, 22, 23], []⟩
def BC : c8 := ⟨[2], []⟩
def BD : c8 := ⟨[30, 31, 32], []⟩
def BE : c8 := ⟨[12], []⟩
def xN : c8 := ⟨[36, 37, 38], []⟩
def xO : c8 := ⟨[15, 39, 40, 41, 42, 43, 44, 45, 46, 47, 48, 49, 50, 51, 52, 53, 54, 55, 56], [(18, { eff := true })]⟩
def xP : c8 := ⟨[13, 33, 34, 35, 36, 58, 59, 60, 61, 62], [(0, { tk := [10], keep := [0] }), (4, { tk := [58], keep := [0] }), (5, { tk := [62], keep := [0] })]⟩
def xQ : c8 := ⟨[10, 27, 28, 29, 30, 64, 65], []⟩
noncomputable def BF : Code := (.seq (.region 10 (oN f24 285079) false) (.seq (.cond (.tmp 36) .skip (.exit 2)) (.seq (.block 3 (.seq (.region 11 (oN f24 4610455) false) (.region 12 (oN f24 6707607) true))) (.region 13 (oN f24 1989015) false))))
noncomputable def BG : Code := (.seq (.region 6 (oN f24 279) false) (.seq (.cond (.tmp 30) .skip (.exit 0)) (.seq (.block 1 (.seq (.region 7 (oN f24 4503) false) (.seq (.region 8 (oN f24 10647) false) (.seq (.seq (.region 9 (oN f24 39319) false) (.block 2 (.loop BF))) (.region 14 (oN f24 31127) false))))) (.region 15 (oN f24 1943) false))))
noncomputable def f24c : Code := (.seq (.region 0 (oN f24 2) false) (.seq (.seq (.region 1 (oN f24 9) false) (.seq (.region 2 (oN f24 21) false) (.cond (.tmp 25) (.seq (.region 3 (oN f24 77) false) .ret) .skip))) (.seq (.region 4 (oN f24 11) false) (.seq (.seq (.region 5 (oN f24 39) false) (.block 0 (.loop BG))) (.seq (.region 16 (oN f24 47) false) .ret)))))
def zZ : List (Nat × c8) := [(0, ⟨[0, 6, 7], []⟩), (1, BB), (2, ⟨[24], []⟩), (3, ⟨[2, 9, 25, 26], []⟩), (4, ⟨[9, 25], [(0, { keep := [0] })]⟩), (5, BC), (6, ⟨[], []⟩), (7, BD), (8, ⟨[], [(0, { site := true })]⟩), (9, BE), (10, ⟨[], []⟩), (11, xN), (12, xO), (13, ⟨[57], []⟩), (14, xP), (15, ⟨[63], []⟩), (16, xQ)]
def GT : c8 := ⟨[10, 11, 12, 13, 14, 15, 16], []⟩
def GU : c8 := ⟨[7, 18, 20, 21, 22, 23, 24, 25, 26, 27], []⟩
def GV : c8 := ⟨[30, 31, 32, 33, 34, 35], []⟩
def Fa : c8 := ⟨[30, 36, 37, 38], []⟩
def Fb : c8 := ⟨[2, 3, 6, 8, 39, 40, 41], []⟩
def Fc : c8 := ⟨[2, 3, 6, 39, 42, 43, 44, 45, 46, 47, 48, 49, 50, 51], []⟩
def yA : c8 := ⟨[7, 8, 9, 53, 55, 56, 57, 58, 59], []⟩
noncomputable def f8c : Code := (.seq (.region 0 (oN f8 2) false) (.seq (.region 1 (oN f8 5) false) (.seq (.seq (.region 2 (oN f8 19) false) (.cond (.tmp 18) (.seq (.region 3 (oN f8 75) false) .ret) .skip)) (.seq (.region 4 (oN f8 23) true) (.seq (.seq (.region 5 (oN f8 79) false) (.cond (.tmp 30) (.region 6 (oN f8 175) false) .skip)) (.seq (.seq (.region 7 (oN f8 159) false) (.cond (.tmp 39) (.seq (.region 8 (oN f8 607) false) .ret) .skip)) (.seq (.region 9 (oN f8 191) true) (.seq (.seq (.region 10 (oN f8 639) false) (.cond (.tmp 53) (.seq (.region 11 (oN f8 2431) false) .ret) .skip)) (.seq (.region 12 (oN f8 767) false) .ret)))))))))
def f8n : List (Nat × c8) := [(0, ⟨[0, 1, 4, 5], []⟩), (1, GT), (2, ⟨[17], []⟩), (3, ⟨[2, 3, 6, 7, 18, 19], []⟩), (4, GU), (5, ⟨[28, 29], []⟩), (6, GV), (7, Fa), (8, Fb), (9, Fc), (10, ⟨[52], []⟩), (11, ⟨[7, 8, 9, 53, 54], []⟩), (12, yA)]
def GL : c8 := ⟨[1, 10, 11, 12, 13, 14, 15], []⟩
def GM : c8 := ⟨[16, 17, 18, 19, 20, 21], []⟩
def GN : c8 := ⟨[2, 3, 4, 5, 22, 23, 24, 25, 26, 27, 28, 29, 30, 31, 32, 33, 34, 35], []⟩
noncomputable def f7c : Code := (.seq (.region 0 (oN f7 2) false) (.seq (.region 1 (oN f7 5) false) (.seq (.region 2 (oN f7 11) true) (.seq (.region 3 (oN f7 23) false) (.seq (.region 4 (oN f7 47) false) .ret)))))
def f7n : List (Nat × c8) := [(0, ⟨[0], []⟩), (1, ⟨[6, 7, 8, 9], []⟩), (2, GL), (3, GM), (4, GN)]
def Ed : c8 := ⟨[12, 14, 15, 16, 17], []⟩
def Ee : c8 := ⟨[19, 20, 21, 22, 23, 24, 25, 26, 27, 28], []⟩
def Eh : c8 := ⟨[29, 34, 35, 36, 37, 38, 39, 40], []⟩
def Ei : c8 := ⟨[8, 41, 42, 43, 44, 45, 46], []⟩
def yB : c8 := ⟨[47, 49, 50], []⟩
def yC : c8 := ⟨[2, 7, 51, 52, 53, 54, 55, 56], []⟩
def yD : c8 := ⟨[60, 62, 63, 64, 65], []⟩
def yE : c8 := ⟨[1, 9, 66, 67, 68, 69], []⟩
noncomputable def Ej : Code := (.seq (.seq (.region 5 (oN f94 527) true) (.cond (.tmp 29) .skip (.exit 0))) (.block 1 (.region 6 (oN f94 655) false)))
noncomputable def f94c : Code := (.seq (.region 0 (oN f94 2) false) (.seq (.seq (.region 1 (oN f94 9) false) (.cond (.tmp 12) (.seq (.region 2 (oN f94 37) false) .ret) .skip)) (.seq (.region 3 (oN f94 11) false) (.seq (.region 4 (oN f94 23) false) (.seq (.block 0 (.loop Ej)) (.seq (.region 7 (oN f94 95) false) (.seq (.seq (.region 8 (oN f94 319) false) (.cond (.tmp 47) (.seq (.region 9 (oN f94 1215) false) .ret) .skip)) (.seq (.region 10 (oN f94 383) false) (.seq (.region 11 (oN f94 767) false) (.seq (.seq (.region 12 (oN f94 2559) false) (.cond (.tmp 60) (.seq (.region 13 (oN f94 9727) false) .ret) .skip)) (.seq (.region 14 (oN f94 3071) false) (.seq (.region 15 (oN f94 6143) true) .ret))))))))))))
def Fe : List (Nat × c8) := [(0, ⟨[0, 5, 6], []⟩), (1, ⟨[10, 11], []⟩), (2, ⟨[1, 2, 12, 13], []⟩), (3, Ed), (4, ⟨[18], []⟩), (5, Ee), (6, ⟨[29, 30, 31, 32, 33], []⟩), (7, Eh), (8, Ei), (9, ⟨[1, 2, 7, 47, 48], []⟩), (10, yB), (11, yC), (12, ⟨[57, 58, 59], []⟩), (13, ⟨[1, 9, 60, 61], []⟩), (14, yD), (15, yE)]
def CR : c8 := ⟨[14, 15, 16], []⟩
def CS : c8 := ⟨[10, 24, 25, 26, 27, 28, 29, 30, 31, 32, 33, 34], []⟩
def ym : c8 := ⟨[11, 36, 37, 38, 39, 40, 41, 42, 43, 44, 45, 46, 47, 48, 49, 50], [(0, { noio := true }), (1, { noio := true }), (2, { noio := true }), (3, { noio := true }), (4, { noio := true }), (5, { noio := true }), (6, { noio := true }), (7, { noio := true }), (8, { noio := true }), (9, { keep := [0], mem := true, noio := true }), (10, { noio := true }), (11, { noio := true }), (12, { tk := [46], keep := [0], noio := true }), (14, { tk := [49] })]⟩
def yn : c8 := ⟨[52, 53], []⟩
def yo : c8 := ⟨[57, 59, 60, 61], []⟩
def tQ : c8 := ⟨[12, 54, 55, 62, 63], []⟩
def yp : c8 := ⟨[1, 3, 12, 52, 64, 65, 66, 67, 68, 69, 70], []⟩
def yq : c8 := ⟨[9, 71, 72], [(1, { close := true })]⟩
noncomputable def CT : Code := (.block 1 (.seq (.region 8 (oN f55 1071) false) (.seq (.seq (.region 9 (oN f55 4655) false) (.cond (.tmp 36) (.seq (.region 10 (oN f55 18991) false) .ret) .skip)) (.seq (.region 11 (oN f55 5679) true) (.seq (.seq (.region 12 (oN f55 20015) false) (.cond (.tmp 52) (.exit 0) .skip)) (.seq (.seq (.region 13 (oN f55 40495) false) (.block 2 (.seq (.region 15 (oN f55 155183) false) (.cond (.tmp 55) .skip (.seq (.region 16 (oN f55 745007) false) (.cond (.tmp 57) (.region 17 (oN f55 1531439) false) (.seq (.region 14 (oN f55 3104303) false) .ret))))))) (.region 18 (oN f55 32303) false)))))))
noncomputable def f55c : Code := (.seq (.region 0 (oN f55 2) false) (.seq (.seq (.region 1 (oN f55 9) false) (.seq (.region 2 (oN f55 21) false) (.cond (.tmp 18) (.seq (.region 3 (oN f55 77) false) .ret) .skip))) (.seq (.seq (.region 4 (oN f55 19) false) (.cond (.tmp 21) (.seq (.region 5 (oN f55 75) false) .ret) .skip)) (.seq (.region 6 (oN f55 23) false) (.seq (.seq (.region 7 (oN f55 79) false) (.block 0 (.loop CT))) (.seq (.seq (.region 19 (oN f55 159) false) (.cond (.tmp 71) (.seq (.region 20 (oN f55 607) false) .ret) .skip)) (.seq (.region 21 (oN f55 191) false) .ret)))))))
def ER : List (Nat × c8) := [(0, ⟨[0, 6, 7], []⟩), (1, CR), (2, ⟨[17], []⟩), (3, ⟨[1, 2, 3, 8, 18, 19], []⟩), (4, ⟨[8, 18, 20], []⟩), (5, ⟨[1, 2, 3, 21], []⟩), (6, ⟨[21], [(0, { site := true })]⟩), (7, ⟨[2, 23], []⟩), (8, CS), (9, ⟨[13, 35], []⟩), (10, ⟨[1, 3, 9, 11, 12, 22, 36], []⟩), (11, ym), (12, ⟨[51], []⟩), (13, yn), (14, ⟨[1, 3, 9, 12, 22, 57], []⟩), (15, ⟨[56], []⟩), (16, ⟨[54, 55, 58], []⟩), (17, yo), (18, tQ), (19, yp), (20, ⟨[9, 22, 71], []⟩), (21, yq), (200000, { kill := [], ops := [(22, {})] })]
def BK : c8 := ⟨[15, 17, 18, 19, 20], []⟩
def BL : c8 := ⟨[21, 22], []⟩
def BM : c8 := ⟨[23, 24], []⟩
def BN : c8 := ⟨[26, 27, 28, 29, 30, 31, 32, 33, 34, 35], []⟩
def BO : c8 := ⟨[36, 39, 40, 41, 42], []⟩
def xR : c8 := ⟨[8, 43, 44, 45], []⟩
def tI : c8 := ⟨[25, 46, 47, 48, 49, 50, 51, 52], []⟩
def tJ : c8 := ⟨[58, 59, 60, 61, 62, 63, 64, 65, 66, 67, 68, 69, 70], []⟩
def tK : c8 := ⟨[7, 9, 11, 71, 72, 73, 74, 75, 76, 77, 78, 79, 80, 81, 82], []⟩
def ol : c8 := ⟨[2, 84, 86, 87, 88, 89, 90, 91], []⟩
def om : c8 := ⟨[1, 6, 10, 12, 92, 93, 94, 95, 96, 97, 98, 99], []⟩
noncomputable def BP : Code := (.seq (.seq (.region 7 (oN f29 8367) false) (.cond (.tmp 36) .skip (.exit 0))) (.block 1 (.region 8 (oN f29 10415) false)))
noncomputable def f29c : Code := (.seq (.region 0 (oN f29 2) false) (.seq (.seq (.region 1 (oN f29 9) false) (.cond (.tmp 15) (.seq (.region 2 (oN f29 37) false) .ret) .skip)) (.seq (.region 3 (oN f29 11) false) (.seq (.region 4 (oN f29 23) false) (.seq (.seq (.region 5 (oN f29 79) false) (.cond (.tmp 25) (.seq (.region 6 (oN f29 303) false) (.seq (.block 0 (.loop BP)) (.seq (.region 9 (oN f29 1455) false) (.region 10 (oN f29 1967) false)))) .skip)) (.seq (.region 11 (oN f29 95) false) (.seq (.seq (.region 12 (oN f29 319) false) (.cond (.tmp 54) (.seq (.region 13 (oN f29 1215) false) .ret) .skip)) (.seq (.seq (.region 14 (oN f29 639) false) (.seq (.region 15 (oN f29 1407) false) (.cond (.tmp 71) (.region 16 (oN f29 2943) true) .skip))) (.seq (.seq (.region 17 (oN f29 1279) false) (.cond (.tmp 84) (.seq (.region 18 (oN f29 4863) false) .ret) .skip)) (.seq (.region 19 (oN f29 1535) false) (.seq (.region 20 (oN f29 3071) false) .ret)))))))))))
def EM : List (Nat × c8) := [(0, ⟨[0, 5], []⟩), (1, ⟨[13, 14], []⟩), (2, ⟨[1, 2, 15, 16], []⟩), (3, BK), (4, BL), (5, BM), (6, ⟨[25], []⟩), (7, BN), (8, ⟨[36, 37, 38], []⟩), (9, BO), (10, xR), (11, tI), (12, ⟨[53], []⟩), (13, ⟨[1, 2, 6, 7, 9, 10, 54, 55], []⟩), (14, ⟨[54, 56, 57], []⟩), (15, tJ), (16, tK), (17, ⟨[7, 9, 10, 11, 71, 83], []⟩), (18, ⟨[1, 2, 6, 84, 85], []⟩), (19, ol), (20, om)]
def Ba : c8 := ⟨[11, 12], []⟩
def Bb : c8 := ⟨[1], []⟩
def Bc : c8 := ⟨[17, 18, 19], []⟩
def Bd : c8 := ⟨[8, 20, 21, 22, 23, 24, 25], []⟩
def xK : c8 := ⟨[9, 27, 28, 29, 30, 31], [(0, { tk := [6], keep := [0] }), (3, { tk := [28], keep := [0] }), (4, { tk := [31], keep := [0] })]⟩
noncomputable def Be : Code := (.seq (.region 5 (oN f14 279) false) (.seq (.cond (.tmp 17) .skip (.exit 0)) (.seq (.block 1 (.seq (.region 6 (oN f14 4503) false) (.seq (.region 7 (oN f14 10647) false) (.seq (.seq (.region 8 (oN f14 39319) false) (.cond (.tmp 27) (.seq (.region 9 (oN f14 154007) false) .ret) .skip)) (.region 10 (oN f14 31127) false))))) (.region 11 (oN f14 1943) false))))
noncomputable def f14c : Code := (.seq (.region 0 (oN f14 2) false) (.seq (.seq (.region 1 (oN f14 9) false) (.cond (.tmp 13) (.seq (.region 2 (oN f14 37) false) .ret) .skip)) (.seq (.region 3 (oN f14 11) false) (.seq (.seq (.region 4 (oN f14 39) false) (.block 0 (.loop Be))) (.seq (.region 12 (oN f14 47) false) .ret)))))
def EH : List (Nat × c8) := [(0, ⟨[0, 4, 5], []⟩), (1, Ba), (2, ⟨[1, 2, 13], []⟩), (3, ⟨[13], [(0, { keep := [0] })]⟩), (4, Bb), (5, ⟨[], []⟩), (6, Bc), (7, Bd), (8, ⟨[10, 26], []⟩), (9, ⟨[2, 6, 9, 14, 15, 16, 27], []⟩), (10, xK), (11, ⟨[32], []⟩), (12, ⟨[2, 6, 14, 15, 16, 17, 33], []⟩)]
def CU : c8 := ⟨[8, 11, 12, 13, 14, 15, 16, 17, 18, 19, 20], []⟩
def CV : c8 := ⟨[4, 21, 22, 23, 24, 25, 26, 27, 28, 29, 30, 31, 32, 33, 34, 35, 36, 37], []⟩
def CW : c8 := ⟨[0, 3, 8, 39, 40, 41, 42, 43, 44, 45, 46], []⟩
noncomputable def CX : Code := (.seq (.seq (.region 2 (oN f56 133) false) (.cond (.tmp 8) .skip (.exit 0))) (.seq (.block 1 (.seq (.region 4 (oN f56 549) false) (.seq (.region 5 (oN f56 1317) false) (.cond (.tmp 38) (.seq (.region 6 (oN f56 4901) false) .ret) .skip)))) (.region 3 (oN f56 229) false)))
noncomputable def f56c : Code := (.seq (.region 0 (oN f56 2) false) (.seq (.seq (.region 1 (oN f56 9) false) (.block 0 (.loop CX))) (.seq (.region 7 (oN f56 11) false) .ret)))
def ES : List (Nat × c8) := [(0, ⟨[2], []⟩), (1, ⟨[], []⟩), (2, ⟨[5, 6, 7], []⟩), (3, ⟨[9, 10, 38], []⟩), (4, CU), (5, CV), (6, ⟨[0, 3, 38], []⟩), (7, CW)]
def CY : c8 := ⟨[6, 7, 8, 9], []⟩
def CZ : c8 := ⟨[10, 13, 14, 15, 16, 17], []⟩
def Da : c8 := ⟨[18, 19, 20, 21, 22, 23, 24, 25, 26, 27, 28, 29, 30, 31, 32, 33, 34, 35, 36, 37, 38, 39, 40, 41, 42, 43, 44, 45, 46, 47], []⟩
def yr : c8 := ⟨[51, 54, 55, 56, 57, 58, 59, 60, 61], []⟩
def yu : c8 := ⟨[3, 10, 63, 64, 65, 66, 67, 68, 69, 70, 71, 72, 73, 74, 75, 76, 77, 78, 79, 80, 81], []⟩
def yv : c8 := ⟨[1, 82, 83, 84, 85, 86, 87, 88, 89, 90, 91, 92, 93, 94, 95, 96, 97, 98, 99, 100, 101, 102, 103, 104, 105, 106, 107, 108, 109, 110, 111], []⟩
noncomputable def Db : Code := (.seq (.seq (.region 8 (oN f57 34597) false) (.cond (.tmp 51) .skip (.exit 2))) (.seq (.block 3 (.seq (.region 10 (oN f57 141093) true) (.cond (.tmp 62) (.seq (.region 11 (oN f57 599845) false) .ret) .skip))) (.region 9 (oN f57 59173) false)))
noncomputable def Dc : Code := (.seq (.seq (.region 2 (oN f57 133) false) (.cond (.tmp 10) .skip (.exit 0))) (.seq (.block 1 (.seq (.region 4 (oN f57 549) false) (.seq (.seq (.region 5 (oN f57 2341) false) (.cond (.tmp 48) (.seq (.region 6 (oN f57 9509) false) .ret) .skip)) (.seq (.region 7 (oN f57 2853) false) (.block 2 (.loop Db)))))) (.region 3 (oN f57 229) false)))
noncomputable def f57c : Code := (.seq (.region 0 (oN f57 2) false) (.seq (.seq (.region 1 (oN f57 9) false) (.block 0 (.loop Dc))) (.seq (.seq (.region 12 (oN f57 19) false) (.cond (.tmp 82) (.seq (.region 13 (oN f57 75) false) .ret) .skip)) (.seq (.region 14 (oN f57 23) true) .ret))))
def Ad : List (Nat × c8) := [(0, ⟨[0, 2], []⟩), (1, ⟨[], []⟩), (2, CY), (3, ⟨[4, 5, 11, 12, 51], []⟩), (4, CZ), (5, Da), (6, ⟨[1, 3, 4, 48], []⟩), (7, ⟨[48], []⟩), (8, ⟨[49, 50], []⟩), (9, ⟨[52, 53, 62], []⟩), (10, yr), (11, ⟨[1, 3, 4, 5, 62], []⟩), (12, yu), (13, ⟨[1, 82], []⟩), (14, yv)]
def Dd : c8 := ⟨[7, 8, 9, 10, 11, 12], []⟩
def De : c8 := ⟨[15, 16, 17, 18, 19, 20, 23], []⟩
noncomputable def Df : Code := (.seq (.seq (.region 2 (oN f58 133) false) (.cond (.tmp 14) .skip (.exit 0))) (.seq (.block 1 (.seq (.region 4 (oN f58 549) false) (.cond (.tmp 23) (.seq (.region 5 (oN f58 2341) false) .ret) .skip))) (.region 3 (oN f58 229) false)))
noncomputable def f58c : Code := (.seq (.region 0 (oN f58 2) false) (.seq (.seq (.region 1 (oN f58 9) false) (.block 0 (.loop Df))) (.seq (.region 6 (oN f58 11) false) .ret)))
def ET : List (Nat × c8) := [(0, ⟨[0, 6], []⟩), (1, Dd), (2, ⟨[13], []⟩), (3, De), (4, ⟨[14, 21, 22], []⟩), (5, ⟨[1, 2, 3, 23], []⟩), (6, ⟨[1, 2, 3, 14], []⟩)]
def Dg : c8 := ⟨[7, 8, 9, 10, 11], [(1, { keep := [0] }), (3, { tk := [9] })]⟩
def Dh : c8 := ⟨[12, 13, 14, 15, 16, 17], []⟩
noncomputable def Di : Code := (.seq (.seq (.region 2 (oN f59 131) false) (.cond (.tmp 7) .skip (.exit 0))) (.block 1 (.seq (.region 3 (oN f59 291) false) (.region 4 (oN f59 419) false))))
noncomputable def f59c : Code := (.seq (.region 0 (oN f59 2) false) (.seq (.region 1 (oN f59 5) false) (.seq (.block 0 (.loop Di)) (.seq (.region 5 (oN f59 23) false) .ret))))
def EU : List (Nat × c8) := [(0, ⟨[0, 4], []⟩), (1, ⟨[], []⟩), (2, ⟨[6], []⟩), (3, Dg), (4, Dh), (5, ⟨[1, 2, 5, 7, 18], []⟩)]
def BQ : c8 := ⟨[9, 10, 11, 12, 13, 14, 15, 16, 17, 18, 19, 20, 21, 22, 23, 24, 25, 26, 27, 28, 29, 30, 31, 32, 33, 34, 35, 36, 37, 38, 39], []⟩
def BR : c8 := ⟨[41, 42, 43, 44], []⟩
def BS : c8 := ⟨[45, 48, 49, 50, 51, 52], []⟩
def BT : c8 := ⟨[53, 54, 55, 56, 57, 58, 59, 60, 61, 62, 63, 64, 65, 66, 67, 68, 69, 70, 71, 72, 73, 74, 75, 76, 77], []⟩
def xS : c8 := ⟨[81, 84, 85, 86, 87, 88, 89, 90, 91], []⟩
def xT : c8 := ⟨[4, 94, 95, 96, 97, 98, 99, 100, 101, 102, 103, 104, 105, 106, 107, 108, 109, 110, 111, 112, 113, 114, 115, 116], []⟩
def xU : c8 := ⟨[4, 94, 118, 119, 120, 121, 122, 123, 124, 125, 126, 127, 128, 129, 130, 131, 132, 133, 134, 135, 136, 137, 138, 139, 140, 141, 142, 143, 144, 145, 146, 147, 148], []⟩
def xV : c8 := ⟨[150, 151, 152, 153], []⟩
def xW : c8 := ⟨[154, 157, 158, 159, 160, 161], []⟩
def xX : c8 := ⟨[162, 163, 164, 165, 166, 167, 168, 169, 170, 171, 172, 173, 174, 175, 176, 177, 178, 179, 180, 181, 182, 183, 184, 185, 186, 187, 188, 189, 190, 191, 192, 193, 194, 195, 196, 197, 198, 199, 200, 201, 202, 203, 204, 205, 206, 207, 208, 209, 210, 211, 212, 213, 214, 215, 216], []⟩
def xY : c8 := ⟨[220, 223, 224, 225, 226, 227, 228, 229, 230], []⟩
noncomputable def BU : Code := (.seq (.seq (.region 10 (oN f30 136779) false) (.cond (.tmp 81) .skip (.exit 2))) (.seq (.block 3 (.seq (.region 12 (oN f30 562763) true) (.cond (.tmp 92) (.seq (.region 13 (oN f30 2397771) false) .ret) .skip))) (.region 11 (oN f30 235083) false)))
noncomputable def BV : Code := (.seq (.seq (.region 4 (oN f30 267) false) (.cond (.tmp 45) .skip (.exit 0))) (.seq (.block 1 (.seq (.region 6 (oN f30 1099) false) (.seq (.seq (.region 7 (oN f30 4683) false) (.cond (.tmp 78) (.seq (.region 8 (oN f30 19019) false) .ret) .skip)) (.seq (.seq (.region 9 (oN f30 9803) false) (.block 2 (.loop BU))) (.seq (.seq (.region 14 (oN f30 20043) false) (.cond (.tmp 94) (.seq (.seq (.region 15 (oN f30 142923) false) (.cond (.tmp 117) (.seq (.region 16 (oN f30 601675) false) .ret) .skip)) (.exit 1)) .skip)) (.seq (.region 17 (oN f30 24139) false) (.cond (.tmp 149) (.seq (.region 18 (oN f30 81483) false) .ret) .skip))))))) (.region 5 (oN f30 459) false)))
noncomputable def BW : Code := (.seq (.seq (.region 26 (oN f30 138391) false) (.cond (.tmp 220) .skip (.exit 6))) (.seq (.block 7 (.seq (.region 28 (oN f30 564375) true) (.cond (.tmp 231) (.seq (.region 29 (oN f30 2399383) false) .ret) .skip))) (.region 27 (oN f30 236695) false)))
noncomputable def BX : Code := (.seq (.seq (.region 20 (oN f30 535) false) (.cond (.tmp 154) .skip (.exit 4))) (.seq (.block 5 (.seq (.region 22 (oN f30 2199) false) (.seq (.seq (.region 23 (oN f30 9367) true) (.cond (.tmp 217) (.seq (.region 24 (oN f30 38039) false) .ret) .skip)) (.seq (.region 25 (oN f30 11415) false) (.block 6 (.loop BW)))))) (.region 21 (oN f30 919) false)))
noncomputable def f30c : Code := (.seq (.region 0 (oN f30 2) false) (.seq (.seq (.region 1 (oN f30 9) false) (.cond (.tmp 40) (.seq (.region 2 (oN f30 37) false) .ret) .skip)) (.seq (.seq (.region 3 (oN f30 19) false) (.block 0 (.loop BV))) (.seq (.seq (.region 19 (oN f30 39) false) (.block 4 (.loop BX))) (.seq (.region 30 (oN f30 47) false) .ret)))))
def vA : List (Nat × c8) := [(0, ⟨[0, 2], []⟩), (1, BQ), (2, ⟨[1, 40], []⟩), (3, ⟨[40], []⟩), (4, BR), (5, ⟨[46, 47, 117, 149], []⟩), (6, BS), (7, BT), (8, ⟨[1, 3, 4, 78], []⟩), (9, ⟨[78], []⟩), (10, ⟨[79, 80], []⟩), (11, ⟨[82, 83, 92], []⟩), (12, xS), (13, ⟨[1, 3, 4, 5, 92], []⟩), (14, ⟨[5, 81, 93], []⟩), (15, xT), (16, ⟨[1, 3, 117], []⟩), (17, xU), (18, ⟨[1, 3, 149], []⟩), (19, ⟨[3, 45], []⟩), (20, xV), (21, ⟨[7, 8, 155, 156, 220], []⟩), (22, xW), (23, xX), (24, ⟨[1, 6, 7, 217], []⟩), (25, ⟨[217], []⟩), (26, ⟨[218, 219], []⟩), (27, ⟨[221, 222, 231], []⟩), (28, xY), (29, ⟨[1, 6, 7, 8, 231], []⟩), (30, ⟨[1, 6, 154], []⟩)]
def BH : c8 := ⟨[5, 6, 7], []⟩
noncomputable def BI : Code := (.seq (.seq (.region 1 (oN f26 65) false) (.cond (.tmp 5) .skip (.exit 0))) (.block 1 (.region 2 (oN f26 81) false)))
noncomputable def f26c : Code := (.seq (.region 0 (oN f26 2) false) (.seq (.block 0 (.loop BI)) (.seq (.region 3 (oN f26 11) false) .ret)))
def EL : List (Nat × c8) := [(0, ⟨[2], []⟩), (1, ⟨[3, 4], []⟩), (2, BH), (3, ⟨[0, 5, 8], []⟩)]
def Dm : c8 := ⟨[11, 12, 13, 14, 15, 16, 17, 18, 19], []⟩
noncomputable def Dn : Code := (.seq (.seq (.region 5 (oN f60 16459) true) (.cond (.tmp 20) .skip (.exit 2))) (.block 3 (.region 6 (oN f60 20555) false)))
noncomputable def Do : Code := (.seq (.seq (.region 3 (oN f60 267) false) (.cond (.tmp 8) .skip (.exit 0))) (.seq (.block 1 (.seq (.block 2 (.loop Dn)) (.seq (.seq (.region 7 (oN f60 4683) false) (.cond (.tmp 24) (.seq (.region 8 (oN f60 19019) false) .ret) .skip)) (.region 9 (oN f60 3659) false)))) (.region 4 (oN f60 459) false)))
noncomputable def f60c : Code := (.seq (.region 0 (oN f60 2) false) (.seq (.region 1 (oN f60 5) false) (.seq (.seq (.region 2 (oN f60 19) false) (.block 0 (.loop Do))) (.seq (.region 10 (oN f60 23) false) .ret))))
def Ae : List (Nat × c8) := [(0, ⟨[2], []⟩), (1, ⟨[], []⟩), (2, ⟨[], []⟩), (3, ⟨[5, 6, 7], []⟩), (4, ⟨[9, 10], []⟩), (5, Dm), (6, ⟨[20, 21, 22], []⟩), (7, ⟨[20, 23], []⟩), (8, ⟨[0, 3, 4, 24], []⟩), (9, ⟨[24, 25, 26], []⟩), (10, ⟨[0, 3, 4], []⟩), (100008, {})]
noncomputable def f79c : Code := (.seq (.region 0 (oN f79 2) false) (.seq (.seq (.region 1 (oN f79 9) false) (.block 0 (.seq (.region 2 (oN f79 37) false) (.cond (.tmp 4) (.seq (.region 3 (oN f79 149) false) .ret) (.seq (.region 4 (oN f79 181) false) (.cond (.tmp 6) (.seq (.region 5 (oN f79 629) false) .ret) (.seq (.region 6 (oN f79 757) false) (.cond (.tmp 8) (.seq (.region 7 (oN f79 2549) false) .ret) (.seq (.region 8 (oN f79 3061) false) (.cond (.tmp 10) (.seq (.region 9 (oN f79 10229) false) .ret) (.seq (.region 10 (oN f79 12277) false) (.cond (.tmp 12) (.seq (.region 11 (oN f79 40949) false) .ret) .skip)))))))))))) (.seq (.region 12 (oN f79 11) false) .ret)))
def GK : List (Nat × c8) := [(0, ⟨[2], []⟩), (1, ⟨[0], []⟩), (2, ⟨[5], []⟩), (3, ⟨[3, 4], []⟩), (4, ⟨[4, 7], []⟩), (5, ⟨[3, 6], []⟩), (6, ⟨[6, 9], []⟩), (7, ⟨[3, 8], []⟩), (8, ⟨[8, 11], []⟩), (9, ⟨[3, 10], []⟩), (10, ⟨[3, 10, 13], []⟩), (11, ⟨[12], []⟩), (12, ⟨[12], []⟩)]
def Ek : c8 := ⟨[14, 15, 16, 17, 18, 19, 20, 21], []⟩
def El : c8 := ⟨[22, 25, 26, 27, 28, 29, 30, 31, 32, 33], []⟩
def Em : c8 := ⟨[35, 38, 39, 40, 41, 42, 43], []⟩
def En : c8 := ⟨[44, 45, 46, 47, 48, 49, 50, 51, 52, 53, 54, 55, 56, 57, 58], []⟩
def yF : c8 := ⟨[2, 10, 11, 12, 13, 65, 66, 67, 68, 69, 70, 71, 72, 73, 74, 75, 76], []⟩
noncomputable def Eo : Code := (.seq (.seq (.region 6 (oN f95 17189) false) (.cond (.tmp 35) .skip (.exit 2))) (.seq (.block 3 (.seq (.region 8 (oN f95 70437) false) (.seq (.region 9 (oN f95 168741) false) (.cond (.tmp 59) (.seq (.region 10 (oN f95 627493) false) (.seq (.region 11 (oN f95 1413925) true) .ret)) .skip)))) (.region 7 (oN f95 29477) false)))
noncomputable def Ep : Code := (.seq (.seq (.region 2 (oN f95 133) false) (.cond (.tmp 22) .skip (.exit 0))) (.seq (.block 1 (.seq (.region 4 (oN f95 549) false) (.seq (.region 5 (oN f95 1317) false) (.block 2 (.loop Eo))))) (.region 3 (oN f95 229) false)))
noncomputable def f95c : Code := (.seq (.region 0 (oN f95 2) false) (.seq (.seq (.region 1 (oN f95 9) false) (.block 0 (.loop Ep))) (.seq (.region 12 (oN f95 11) false) .ret)))
def Ah : List (Nat × c8) := [(0, ⟨[0, 7, 8], []⟩), (1, ⟨[], []⟩), (2, Ek), (3, ⟨[10, 11, 23, 24, 35], []⟩), (4, El), (5, ⟨[], []⟩), (6, ⟨[34], []⟩), (7, ⟨[12, 36, 37, 59], []⟩), (8, Em), (9, En), (10, ⟨[1, 3, 9, 59, 60, 61, 62, 63, 64], []⟩), (11, yF), (12, ⟨[1, 2, 3, 9, 22, 77], []⟩)]
def wK : c8 := ⟨[1, 2, 5, 6, 7, 8, 9, 10, 11, 12, 13], []⟩
noncomputable def FF : Code := (.seq (.region 0 (oN f111 2) false) (.seq (.region 1 (oN f111 5) false) .ret))
def AJ : List (Nat × c8) := [(0, ⟨[0, 4], []⟩), (1, wK)]
def DG : c8 := ⟨[6, 7], []⟩
def DH : c8 := ⟨[9, 10, 11], []⟩
def DI : c8 := ⟨[12, 15, 16, 17, 18, 19, 20], []⟩
noncomputable def DJ : Code := (.seq (.seq (.region 4 (oN f76 267) false) (.cond (.tmp 12) .skip (.exit 0))) (.seq (.block 1 (.seq (.region 6 (oN f76 1099) true) (.cond (.tmp 21) (.seq (.region 7 (oN f76 4683) false) .ret) .skip))) (.region 5 (oN f76 459) false)))
noncomputable def f76c : Code := (.seq (.region 0 (oN f76 2) false) (.seq (.seq (.region 1 (oN f76 9) false) (.cond (.tmp 8) (.seq (.region 2 (oN f76 37) false) .ret) .skip)) (.seq (.seq (.region 3 (oN f76 19) false) (.block 0 (.loop DJ))) (.seq (.region 8 (oN f76 23) false) .ret))))
def EY : List (Nat × c8) := [(0, ⟨[0, 4], []⟩), (1, DG), (2, ⟨[1, 2, 8], []⟩), (3, ⟨[8], []⟩), (4, DH), (5, ⟨[13, 14, 21], []⟩), (6, DI), (7, ⟨[1, 2, 5, 21], []⟩), (8, ⟨[1, 2, 5, 12], []⟩)]
def xw : c8 := ⟨[10, 11, 12, 13], []⟩
def xx : c8 := ⟨[17, 18, 19, 20, 21, 22, 23, 24], []⟩
def xy : c8 := ⟨[25, 28, 29, 30, 31, 32, 33, 34, 35, 36, 37, 38], []⟩
noncomputable def xz : Code := (.seq (.seq (.region 5 (oN f126 267) false) (.cond (.tmp 25) .skip (.exit 0))) (.seq (.block 1 (.seq (.region 7 (oN f126 1099) false) (.cond (.tmp 39) (.seq (.region 8 (oN f126 4683) false) .ret) .skip))) (.region 6 (oN f126 459) false)))
noncomputable def FS : Code := (.seq (.region 0 (oN f126 2) false) (.seq (.seq (.region 1 (oN f126 9) false) (.seq (.region 2 (oN f126 21) false) (.cond (.tmp 15) (.seq (.region 3 (oN f126 77) false) .ret) .skip))) (.seq (.seq (.region 4 (oN f126 19) false) (.block 0 (.loop xz))) (.seq (.region 9 (oN f126 23) false) .ret))))
def xA : List (Nat × c8) := [(0, ⟨[0, 6, 7], []⟩), (1, xw), (2, ⟨[14], []⟩), (3, ⟨[1, 2, 3, 8, 15, 16], []⟩), (4, ⟨[8, 15], []⟩), (5, xx), (6, ⟨[26, 27, 39], []⟩), (7, xy), (8, ⟨[1, 2, 3, 9, 39, 40], []⟩), (9, ⟨[1, 2, 3, 9, 25], []⟩)]
def wL : c8 := ⟨[9, 10, 11, 12, 13, 14, 15, 16], []⟩
def wM : c8 := ⟨[1, 3, 5, 7, 8, 17, 18, 19, 20, 21, 22, 23, 24, 25, 26, 27, 28, 29, 30, 31, 32, 33, 34, 35, 36, 37, 38, 39, 40, 41, 42, 43, 44], []⟩
noncomputable def FG : Code := (.seq (.region 0 (oN f112 2) false) (.seq (.region 1 (oN f112 5) false) (.seq (.region 2 (oN f112 11) true) .ret)))
def AK : List (Nat × c8) := [(0, ⟨[0, 2, 6], []⟩), (1, wL), (2, wM)]
def DK : c8 := ⟨[9, 10, 11], []⟩
def DL : c8 := ⟨[12, 15, 16, 17, 18, 19, 20, 21, 22, 23, 24, 25, 26, 27], []⟩
def DM : c8 := ⟨[29, 30, 31, 32, 33, 34], []⟩
def DN : c8 := ⟨[35, 38, 39, 40, 41, 42, 43, 44, 45, 46, 47], []⟩
def yz : c8 := ⟨[1, 2, 3, 7, 12, 49, 50, 51], []⟩
noncomputable def DO : Code := (.seq (.seq (.region 7 (oN f78 17189) false) (.cond (.tmp 35) .skip (.exit 2))) (.seq (.block 3 (.seq (.region 9 (oN f78 70437) true) (.cond (.tmp 48) (.seq (.region 10 (oN f78 299813) false) .ret) .skip))) (.region 8 (oN f78 29477) false)))
noncomputable def DP : Code := (.seq (.seq (.region 2 (oN f78 133) false) (.cond (.tmp 12) .skip (.exit 0))) (.seq (.block 1 (.seq (.seq (.region 4 (oN f78 1061) false) (.cond (.tmp 28) (.seq (.region 5 (oN f78 4645) false) .ret) .skip)) (.seq (.region 6 (oN f78 1317) false) (.block 2 (.loop DO))))) (.region 3 (oN f78 229) false)))
noncomputable def f78c : Code := (.seq (.region 0 (oN f78 2) false) (.seq (.seq (.region 1 (oN f78 9) false) (.block 0 (.loop DP))) (.seq (.region 11 (oN f78 11) false) .ret)))
def Ag : List (Nat × c8) := [(0, ⟨[0, 6], []⟩), (1, ⟨[], []⟩), (2, DK), (3, ⟨[8, 13, 14, 35], []⟩), (4, DL), (5, ⟨[1, 2, 3, 7, 28], []⟩), (6, ⟨[28], []⟩), (7, DM), (8, ⟨[36, 37, 48], []⟩), (9, DN), (10, ⟨[1, 2, 3, 7, 8, 48], []⟩), (11, yz)]
def Dp : c8 := ⟨[2, 14, 15, 16, 17, 18, 19, 20, 21], []⟩
def Dq : c8 := ⟨[11, 23, 24, 25, 26, 27], [(0, { tk := [10], keep := [0] }), (3, { tk := [24], keep := [0] }), (4, { tk := [27], keep := [0] })]⟩
def Dr : c8 := ⟨[28, 29, 30, 31, 32, 33], []⟩
def Ds : c8 := ⟨[12, 34, 35, 36], []⟩
def Dt : c8 := ⟨[10, 34, 37, 38, 39, 40], [(0, { tk := [9], keep := [0] }), (3, { tk := [37], keep := [0] }), (4, { tk := [40], keep := [0] })]⟩
def yw : c8 := ⟨[41, 42, 43, 44, 45, 46], []⟩
def yx : c8 := ⟨[1, 3, 9, 10, 12, 47, 48, 49, 50, 51, 52, 53], []⟩
def yy : c8 := ⟨[12, 47, 54, 55], []⟩
noncomputable def Du : Code := (.block 1 (.seq (.region 3 (oN f61 135) false) (.seq (.seq (.region 4 (oN f61 583) false) (.cond (.tmp 23) (.seq (.region 5 (oN f61 2375) false) .ret) .skip)) (.seq (.region 6 (oN f61 711) false) (.seq (.seq (.region 7 (oN f61 2503) false) (.cond (.tmp 34) (.seq (.region 8 (oN f61 9671) false) (.exit 1)) .skip)) (.seq (.region 9 (oN f61 3015) false) (.seq (.region 10 (oN f61 6087) false) (.seq (.seq (.region 11 (oN f61 20423) false) (.cond (.tmp 47) (.seq (.region 12 (oN f61 77767) false) .ret) .skip)) (.region 13 (oN f61 16327) false)))))))))
noncomputable def f61c : Code := (.seq (.region 0 (oN f61 2) false) (.seq (.region 1 (oN f61 5) false) (.seq (.region 2 (oN f61 11) false) (.block 0 (.loop Du)))))
def EW : List (Nat × c8) := [(0, ⟨[0, 6, 7, 8], []⟩), (1, ⟨[], [(0, { keep := [0] })]⟩), (2, ⟨[], [(0, { keep := [0] })]⟩), (3, Dp), (4, ⟨[13, 22], []⟩), (5, ⟨[1, 3, 9, 10, 11, 12, 23], []⟩), (6, Dq), (7, Dr), (8, Ds), (9, Dt), (10, ⟨[], [(0, { keep := [0] })]⟩), (11, yw), (12, yx), (13, yy)]
def BZ : c8 := ⟨[15, 16, 17, 18], []⟩
def Ca : c8 := ⟨[19, 22, 23, 24, 25, 26, 27, 28], []⟩
def Cb : c8 := ⟨[9, 29, 30, 31, 32, 33, 34, 35, 36], []⟩
def xZ : c8 := ⟨[40, 42, 43, 44, 45, 46, 47, 48], []⟩
def ya : c8 := ⟨[49, 50], []⟩
def yb : c8 := ⟨[51, 52], []⟩
def yc : c8 := ⟨[54, 55, 56, 57, 58, 59, 60, 61, 62, 63, 64, 65, 66, 67, 68], []⟩
def yd : c8 := ⟨[69, 72, 73, 74, 75], []⟩
def ye : c8 := ⟨[11, 76, 77, 78], []⟩
def yf : c8 := ⟨[79, 80, 81, 82, 83, 84, 85, 86, 87, 88, 89, 90], []⟩
def tL : c8 := ⟨[53, 91, 93, 94], []⟩
def tM : c8 := ⟨[1, 2, 7, 10, 95, 96, 97, 98], []⟩
def tN : c8 := ⟨[2, 7, 95, 99, 100, 101, 102, 103, 104, 105, 106, 107], []⟩
def tO : c8 := ⟨[1, 14, 108, 109, 110, 111, 112, 113, 114, 115, 116, 117, 118, 119, 120, 121, 122], []⟩
def tP : c8 := ⟨[10, 13, 127, 128, 129], []⟩
noncomputable def Cc : Code := (.seq (.seq (.region 3 (oN f31 267) false) (.cond (.tmp 19) .skip (.exit 0))) (.seq (.block 1 (.seq (.region 5 (oN f31 1099) false) (.seq (.region 6 (oN f31 2635) false) (.cond (.tmp 37) (.region 7 (oN f31 5707) false) .skip)))) (.region 4 (oN f31 459) false)))
noncomputable def Cd : Code := (.seq (.seq (.region 14 (oN f31 33471) false) (.cond (.tmp 69) .skip (.exit 2))) (.block 3 (.region 15 (oN f31 41663) false)))
noncomputable def f31c : Code := (.seq (.region 0 (oN f31 2) false) (.seq (.region 1 (oN f31 5) false) (.seq (.seq (.region 2 (oN f31 19) false) (.block 0 (.loop Cc))) (.seq (.seq (.region 8 (oN f31 39) false) (.cond (.tmp 40) (.seq (.region 9 (oN f31 151) false) .ret) .skip)) (.seq (.region 10 (oN f31 47) false) (.seq (.region 11 (oN f31 95) false) (.seq (.seq (.region 12 (oN f31 319) false) (.cond (.tmp 53) (.seq (.region 13 (oN f31 1215) false) (.seq (.block 2 (.loop Cd)) (.seq (.region 16 (oN f31 5823) false) (.seq (.region 17 (oN f31 11967) false) (.seq (.region 18 (oN f31 24255) false) (.cond (.tmp 91) (.seq (.region 19 (oN f31 81599) false) .ret) .skip)))))) .skip)) (.seq (.seq (.region 20 (oN f31 639) false) (.cond (.tmp 95) (.seq (.region 21 (oN f31 2431) true) .ret) .skip)) (.seq (.region 22 (oN f31 767) true) (.seq (.seq (.region 23 (oN f31 2559) false) (.cond (.tmp 123) (.seq (.region 24 (oN f31 9727) false) .ret) .skip)) (.seq (.region 25 (oN f31 3071) false) (.seq (.region 26 (oN f31 6143) true) .ret))))))))))))
def Aa : List (Nat × c8) := [(0, ⟨[0, 5, 6], []⟩), (1, ⟨[], []⟩), (2, ⟨[], []⟩), (3, BZ), (4, ⟨[20, 21, 37], []⟩), (5, Ca), (6, Cb), (7, ⟨[37, 38], []⟩), (8, ⟨[8, 19, 39], []⟩), (9, ⟨[1, 2, 7, 40, 41], []⟩), (10, xZ), (11, ya), (12, yb), (13, ⟨[53], []⟩), (14, yc), (15, ⟨[69, 70, 71], []⟩), (16, yd), (17, ye), (18, yf), (19, ⟨[1, 2, 7, 10, 91, 92], []⟩), (20, tL), (21, tM), (22, tN), (23, tO), (24, ⟨[10, 12, 13, 123, 124], []⟩), (25, ⟨[12, 123, 125, 126], []⟩), (26, tP)]
def AN : c8 := ⟨[9, 10], []⟩
def AO : c8 := ⟨[1, 2, 11, 13, 14, 15, 16, 17, 18, 19], []⟩
def AP : c8 := ⟨[7, 8, 20, 21, 22, 23, 24], []⟩
noncomputable def f11c : Code := (.seq (.region 0 (oN f11 2) false) (.seq (.seq (.region 1 (oN f11 9) false) (.cond (.tmp 11) (.seq (.region 2 (oN f11 37) false) .ret) .skip)) (.seq (.region 3 (oN f11 11) false) (.seq (.seq (.region 4 (oN f11 39) false) (.cond (.tmp 25) (.seq (.region 5 (oN f11 151) false) .ret) .skip)) (.seq (.region 6 (oN f11 47) false) .ret)))))
def FL : List (Nat × c8) := [(0, ⟨[0, 5], []⟩), (1, AN), (2, ⟨[1, 2, 11, 12], []⟩), (3, AO), (4, AP), (5, ⟨[6, 25, 26], []⟩), (6, ⟨[6, 25, 27], []⟩)]
def Bf : c8 := ⟨[10, 11], []⟩
def Bg : c8 := ⟨[13, 14, 15], []⟩
def Bh : c8 := ⟨[16, 19, 20, 21, 22, 23, 24, 25, 26, 27], []⟩
def xL : c8 := ⟨[8, 9, 29, 31, 32, 33, 34], [(0, { tk := [6], keep := [0] }), (3, { tk := [31], keep := [0] }), (4, { tk := [34], keep := [0] })]⟩
noncomputable def Bi : Code := (.seq (.seq (.region 5 (oN f15 535) false) (.cond (.tmp 16) .skip (.exit 0))) (.seq (.block 1 (.seq (.region 7 (oN f15 2199) true) (.seq (.seq (.region 8 (oN f15 9367) false) (.cond (.tmp 29) (.seq (.region 9 (oN f15 38039) false) .ret) .skip)) (.region 10 (oN f15 7319) false)))) (.region 6 (oN f15 919) false)))
noncomputable def f15c : Code := (.seq (.region 0 (oN f15 2) false) (.seq (.seq (.region 1 (oN f15 9) false) (.cond (.tmp 12) (.seq (.region 2 (oN f15 37) false) .ret) .skip)) (.seq (.region 3 (oN f15 11) false) (.seq (.seq (.region 4 (oN f15 39) false) (.block 0 (.loop Bi))) (.seq (.region 11 (oN f15 47) false) .ret)))))
def EI : List (Nat × c8) := [(0, ⟨[0, 4, 5], []⟩), (1, Bf), (2, ⟨[1, 2, 12], []⟩), (3, ⟨[12], [(0, { keep := [0] })]⟩), (4, ⟨[], []⟩), (5, Bg), (6, ⟨[17, 18], []⟩), (7, Bh), (8, ⟨[28], []⟩), (9, ⟨[1, 2, 6, 7, 8, 9, 29, 30], []⟩), (10, xL), (11, ⟨[1, 2, 6, 7, 16, 35], []⟩)]
def Ce : c8 := ⟨[7, 8, 9, 10], []⟩
def Cf : c8 := ⟨[12, 13, 14], []⟩
def Cg : c8 := ⟨[15, 18, 19, 20, 21, 22, 23, 24, 25, 26, 27], []⟩
def Ch : c8 := ⟨[29, 30, 31, 32, 33, 34], []⟩
def yg : c8 := ⟨[35, 38, 39, 40, 41, 42, 43, 44, 45, 46, 47, 48, 49, 50, 51], []⟩
noncomputable def Ci : Code := (.seq (.seq (.region 9 (oN f32 34379) false) (.cond (.tmp 35) .skip (.exit 2))) (.seq (.block 3 (.seq (.region 11 (oN f32 140875) true) (.cond (.tmp 52) (.seq (.region 12 (oN f32 599627) false) .ret) .skip))) (.region 10 (oN f32 58955) false)))
noncomputable def Cj : Code := (.seq (.seq (.region 4 (oN f32 267) false) (.cond (.tmp 15) .skip (.exit 0))) (.seq (.block 1 (.seq (.seq (.region 6 (oN f32 2123) true) (.cond (.tmp 28) (.seq (.region 7 (oN f32 9291) false) .ret) .skip)) (.seq (.region 8 (oN f32 2635) false) (.block 2 (.loop Ci))))) (.region 5 (oN f32 459) false)))
noncomputable def f32c : Code := (.seq (.region 0 (oN f32 2) false) (.seq (.seq (.region 1 (oN f32 9) false) (.cond (.tmp 11) (.seq (.region 2 (oN f32 37) false) .ret) .skip)) (.seq (.seq (.region 3 (oN f32 19) false) (.block 0 (.loop Cj))) (.seq (.region 13 (oN f32 23) false) .ret))))
def Ab : List (Nat × c8) := [(0, ⟨[4], []⟩), (1, Ce), (2, ⟨[0, 1, 11], []⟩), (3, ⟨[11], []⟩), (4, Cf), (5, ⟨[6, 16, 17, 35], []⟩), (6, Cg), (7, ⟨[0, 1, 5, 28], []⟩), (8, ⟨[28], []⟩), (9, Ch), (10, ⟨[36, 37, 52], []⟩), (11, yg), (12, ⟨[0, 1, 5, 6, 52], []⟩), (13, ⟨[0, 1, 5, 15], []⟩)]
def AX : c8 := ⟨[2, 3, 5, 6, 7, 8, 9, 10, 11, 12, 13, 14, 15, 16, 17, 18, 19, 20, 21, 22, 23], []⟩
noncomputable def f12c : Code := (.seq (.region 0 (oN f12 2) false) (.seq (.region 1 (oN f12 5) false) .ret))
def FV : List (Nat × c8) := [(0, ⟨[0, 1, 4], []⟩), (1, AX)]
def Bj : c8 := ⟨[6, 7, 8, 9], []⟩
def Bk : c8 := ⟨[11, 12, 13], []⟩
def Bl : c8 := ⟨[14, 17, 18, 19, 20, 21, 22, 23, 24, 25], []⟩
noncomputable def Bm : Code := (.seq (.seq (.region 4 (oN f16 267) false) (.cond (.tmp 14) .skip (.exit 0))) (.seq (.block 1 (.seq (.region 6 (oN f16 1099) true) (.cond (.tmp 26) (.seq (.region 7 (oN f16 4683) false) .ret) .skip))) (.region 5 (oN f16 459) false)))
noncomputable def f16c : Code := (.seq (.region 0 (oN f16 2) false) (.seq (.seq (.region 1 (oN f16 9) false) (.cond (.tmp 10) (.seq (.region 2 (oN f16 37) false) .ret) .skip)) (.seq (.seq (.region 3 (oN f16 19) false) (.block 0 (.loop Bm))) (.seq (.region 8 (oN f16 23) false) .ret))))
def EJ : List (Nat × c8) := [(0, ⟨[4], []⟩), (1, Bj), (2, ⟨[0, 1, 10], []⟩), (3, ⟨[10], []⟩), (4, Bk), (5, ⟨[15, 16, 26], []⟩), (6, Bl), (7, ⟨[0, 1, 5, 26], []⟩), (8, ⟨[0, 1, 5, 14], []⟩)]
def sa : c8 := ⟨[10, 11, 12, 13], []⟩
def sc : c8 := ⟨[0, 14], []⟩
def sd : c8 := ⟨[18, 19, 20, 21], []⟩
def se : c8 := ⟨[7, 22, 23, 24, 25], []⟩
def sf : c8 := ⟨[8, 9, 26, 27, 28, 29], []⟩
noncomputable def sg : Code := (.seq (.region 4 (oN f34 139) false) (.seq (.cond (.tmp 18) .skip (.exit 0)) (.seq (.block 1 (.seq (.region 5 (oN f34 2251) false) (.seq (.region 6 (oN f34 5323) false) (.seq (.region 7 (oN f34 11467) false) (.cond (.tmp 30) (.seq (.region 8 (oN f34 40139) false) .ret) .skip))))) (.region 9 (oN f34 971) false))))
noncomputable def Ac : Code := (.seq (.region 0 (oN f34 2) false) (.seq (.seq (.region 1 (oN f34 9) false) (.cond (.tmp 14) (.seq (.region 2 (oN f34 37) false) .ret) .skip)) (.seq (.seq (.region 3 (oN f34 19) false) (.block 0 (.loop sg))) (.seq (.region 10 (oN f34 23) false) .ret))))
def qW : List (Nat × c8) := [(0, ⟨[6], []⟩), (1, sa), (2, ⟨[0, 1, 2, 14], []⟩), (3, sc), (4, ⟨[], []⟩), (5, sd), (6, se), (7, sf), (8, ⟨[1, 2, 15, 16, 17, 30], []⟩), (9, ⟨[30, 31], []⟩), (10, ⟨[1, 2, 15, 16, 17, 18], []⟩)]
def si : c8 := ⟨[10, 11, 12, 13], []⟩
def sj : c8 := ⟨[0, 14], []⟩
def sk : c8 := ⟨[18, 19, 20, 21], []⟩
def sm : c8 := ⟨[7, 22, 23, 24, 25], []⟩
def sn : c8 := ⟨[8, 9, 26, 27, 28, 29], []⟩
noncomputable def so : Code := (.seq (.region 4 (oN f62 139) false) (.seq (.cond (.tmp 18) .skip (.exit 0)) (.seq (.block 1 (.seq (.region 5 (oN f62 2251) false) (.seq (.region 6 (oN f62 5323) false) (.seq (.region 7 (oN f62 11467) false) (.cond (.tmp 30) (.seq (.region 8 (oN f62 40139) false) .ret) .skip))))) (.region 9 (oN f62 971) false))))
noncomputable def Af : Code := (.seq (.region 0 (oN f62 2) false) (.seq (.seq (.region 1 (oN f62 9) false) (.cond (.tmp 14) (.seq (.region 2 (oN f62 37) false) .ret) .skip)) (.seq (.seq (.region 3 (oN f62 19) false) (.block 0 (.loop so))) (.seq (.region 10 (oN f62 23) false) .ret))))
def qX : List (Nat × c8) := [(0, ⟨[6], []⟩), (1, si), (2, ⟨[0, 1, 2, 14], []⟩), (3, sj), (4, ⟨[], []⟩), (5, sk), (6, sm), (7, sn), (8, ⟨[1, 2, 15, 16, 17, 30], []⟩), (9, ⟨[30, 31], []⟩), (10, ⟨[1, 2, 15, 16, 17, 18], []⟩)]
def Dv : c8 := ⟨[6, 7, 8, 9], []⟩
def Dw : c8 := ⟨[10, 11], []⟩
def Dx : c8 := ⟨[5, 16, 17, 18, 19, 20, 21, 22, 23], []⟩
noncomputable def Dy : Code := (.seq (.region 4 (oN f63 139) false) (.seq (.cond (.tmp 14) .skip (.exit 0)) (.seq (.block 1 (.seq (.region 5 (oN f63 2251) false) (.seq (.region 6 (oN f63 5323) true) (.cond (.tmp 24) (.seq (.region 7 (oN f63 19659) false) .ret) .skip)))) (.region 8 (oN f63 971) false))))
noncomputable def f63c : Code := (.seq (.region 0 (oN f63 2) false) (.seq (.seq (.region 1 (oN f63 9) false) (.cond (.tmp 10) (.seq (.region 2 (oN f63 37) false) .ret) .skip)) (.seq (.seq (.region 3 (oN f63 19) false) (.block 0 (.loop Dy))) (.seq (.region 9 (oN f63 23) false) .ret))))
def EX : List (Nat × c8) := [(0, ⟨[4], []⟩), (1, Dv), (2, ⟨[0, 1, 10], []⟩), (3, Dw), (4, ⟨[], []⟩), (5, ⟨[14, 15], []⟩), (6, Dx), (7, ⟨[0, 1, 12, 13, 24], []⟩), (8, ⟨[24, 25], []⟩), (9, ⟨[0, 1, 12, 13, 14], []⟩)]
def Ck : c8 := ⟨[0, 1, 5, 6, 7], []⟩
noncomputable def f33c : Code := (.seq (.region 0 (oN f33 2) false) (.seq (.region 1 (oN f33 5) false) .ret))
def Gf : List (Nat × c8) := [(0, ⟨[4], []⟩), (1, Ck)]
def AZ : c8 := ⟨[2, 3, 5, 6, 7, 8, 9, 10, 11, 12, 13, 14, 15, 16, 17, 18, 19, 20, 21, 22, 23], []⟩
noncomputable def f13c : Code := (.seq (.region 0 (oN f13 2) false) (.seq (.region 1 (oN f13 5) false) .ret))
def FZ : List (Nat × c8) := [(0, ⟨[0, 1, 4], []⟩), (1, AZ)]
def Bn : c8 := ⟨[0, 1, 5, 6, 7], []⟩
noncomputable def f17c : Code := (.seq (.region 0 (oN f17 2) false) (.seq (.region 1 (oN f17 5) false) .ret))
def Ga : List (Nat × c8) := [(0, ⟨[4], []⟩), (1, Bn)]
def Bp : c8 := ⟨[1, 2, 5, 6, 7, 8, 9], []⟩
noncomputable def f18c : Code := (.seq (.region 0 (oN f18 2) false) (.seq (.region 1 (oN f18 5) false) .ret))
def Gb : List (Nat × c8) := [(0, ⟨[0, 4], []⟩), (1, Bp)]
def Bq : c8 := ⟨[10, 13, 14, 15, 16, 17], []⟩
noncomputable def Br : Code := (.seq (.seq (.region 2 (oN f19 133) false) (.cond (.tmp 10) .skip (.exit 0))) (.seq (.block 1 (.seq (.region 4 (oN f19 549) false) (.cond (.tmp 18) (.seq (.region 5 (oN f19 2341) false) .ret) .skip))) (.region 3 (oN f19 229) false)))
noncomputable def f19c : Code := (.seq (.region 0 (oN f19 2) false) (.seq (.seq (.region 1 (oN f19 9) false) (.block 0 (.loop Br))) (.seq (.region 6 (oN f19 11) false) .ret)))
def EK : List (Nat × c8) := [(0, ⟨[0, 4], []⟩), (1, ⟨[], []⟩), (2, ⟨[6, 7, 8, 9], []⟩), (3, ⟨[11, 12, 18], []⟩), (4, Bq), (5, ⟨[1, 2, 5, 18], []⟩), (6, ⟨[1, 2, 5, 10], []⟩)]
def Gi : c8 := ⟨[14, 15, 16, 17, 18, 19, 20, 21, 22, 23], []⟩
def Gj : c8 := ⟨[1, 2, 3, 24, 25], []⟩
def Gk : c8 := ⟨[26, 27, 28], []⟩
def Gl : c8 := ⟨[29, 32, 33, 34, 35, 36], []⟩
def Gm : c8 := ⟨[1, 2, 3, 7, 37, 38], []⟩
def Gn : c8 := ⟨[7, 29, 39, 40, 41, 42, 43, 44], []⟩
def Gp : c8 := ⟨[1, 3, 45, 46, 47, 48, 49, 50], []⟩
def Cu : c8 := ⟨[8, 9, 10, 11, 51, 52, 53, 54, 55, 56, 57, 58, 59, 60, 61, 62, 63, 64, 65, 66, 67, 68, 69, 70, 71, 72, 73], []⟩
def Cv : c8 := ⟨[75, 76, 77], []⟩
def Cw : c8 := ⟨[82, 85, 86, 87, 88, 89, 90, 91, 92, 93, 94, 95, 96, 97, 98], []⟩
def Cx : c8 := ⟨[13, 82, 100, 101, 102, 103, 104, 105, 106, 107, 108, 109, 110, 111, 112, 113, 114, 115], []⟩
def Cy : c8 := ⟨[2, 12, 78, 117], []⟩
noncomputable def Gq : Code := (.seq (.seq (.region 4 (oN f4 267) false) (.cond (.tmp 29) .skip (.exit 0))) (.seq (.block 1 (.seq (.region 6 (oN f4 1099) false) (.cond (.tmp 37) (.seq (.region 7 (oN f4 4683) false) .ret) .skip))) (.region 5 (oN f4 459) false)))
noncomputable def Gr : Code := (.seq (.seq (.region 16 (oN f4 541887) false) (.cond (.tmp 82) .skip (.exit 4))) (.seq (.block 5 (.seq (.region 18 (oN f4 2245823) true) (.cond (.tmp 99) (.seq (.region 19 (oN f4 9585855) false) .ret) .skip))) (.region 17 (oN f4 935103) false)))
noncomputable def Gs : Code := (.seq (.seq (.region 13 (oN f4 4287) false) (.cond (.tmp 78) .skip (.exit 2))) (.seq (.block 3 (.seq (.seq (.region 15 (oN f4 33983) false) (.block 4 (.loop Gr))) (.seq (.region 20 (oN f4 42175) true) (.cond (.tmp 116) (.seq (.region 21 (oN f4 156863) false) .ret) .skip)))) (.region 14 (oN f4 7359) false)))
noncomputable def f4c : Code := (.seq (.region 0 (oN f4 2) false) (.seq (.seq (.region 1 (oN f4 9) false) (.cond (.tmp 24) (.seq (.region 2 (oN f4 37) false) .ret) .skip)) (.seq (.seq (.region 3 (oN f4 19) false) (.block 0 (.loop Gq))) (.seq (.region 8 (oN f4 23) false) (.seq (.region 9 (oN f4 47) false) (.seq (.seq (.region 10 (oN f4 159) false) (.cond (.tmp 74) (.seq (.region 11 (oN f4 607) false) .ret) .skip)) (.seq (.seq (.region 12 (oN f4 319) false) (.block 2 (.loop Gs))) (.seq (.region 22 (oN f4 383) false) .ret))))))))
def f4n : List (Nat × c8) := [(0, ⟨[0, 6], []⟩), (1, Gi), (2, Gj), (3, ⟨[24], []⟩), (4, Gk), (5, ⟨[30, 31, 37], []⟩), (6, Gl), (7, Gm), (8, Gn), (9, Gp), (10, Cu), (11, ⟨[2, 74], []⟩), (12, ⟨[74], []⟩), (13, Cv), (14, ⟨[79, 80, 116], []⟩), (15, ⟨[78], []⟩), (16, ⟨[81], []⟩), (17, ⟨[83, 84, 99], []⟩), (18, Cw), (19, ⟨[2, 12, 13, 99], []⟩), (20, Cx), (21, ⟨[2, 12, 116], []⟩), (22, Cy)]
def ANNS : List (Nat × tl) := [(4, ⟨f4n, [], []⟩), (5, ⟨f5n, [], []⟩), (6, ⟨f6n, [], []⟩), (7, ⟨f7n, [], []⟩), (8, ⟨f8n, [], []⟩), (11, ⟨FL, [], []⟩), (12, ⟨FV, [], []⟩), (13, ⟨FZ, [], []⟩), (14, ⟨EH, [], []⟩), (15, ⟨EI, [], []⟩), (16, ⟨EJ, [], []⟩), (17, ⟨Ga, [], []⟩), (18, ⟨Gb, [], []⟩), (19, ⟨EK, [], []⟩), (20, ⟨zY, [], []⟩), (21, ⟨Gc, [], []⟩), (22, ⟨Gd, [], []⟩), (24, ⟨zZ, [], []⟩), (26, ⟨EL, [], []⟩), (28, ⟨Ge, [], []⟩), (29, ⟨EM, [], []⟩), (30, ⟨vA, [], []⟩), (31, ⟨Aa, [], []⟩), (32, ⟨Ab, [], []⟩), (33, ⟨Gf, [], []⟩), (34, ⟨qW, [], []⟩), (36, ⟨EN, [], []⟩), (43, ⟨Gg, [], []⟩), (44, ⟨Gh, [], []⟩), (50, ⟨EO, [], []⟩), (51, ⟨EP, [], []⟩), (52, ⟨EQ, [], []⟩), (54, ⟨Gt, [], []⟩), (55, ⟨ER, [], []⟩), (56, ⟨ES, [], []⟩), (57, ⟨Ad, [], []⟩), (58, ⟨ET, [], []⟩), (59, ⟨EU, [], []⟩), (60, ⟨Ae, [], []⟩), (61, ⟨EW, [], []⟩), (62, ⟨qX, [], []⟩), (63, ⟨EX, [], []⟩), (65, ⟨GB, [], []⟩), (71, ⟨GG, [], []⟩), (72, ⟨GH, [], []⟩), (73, ⟨GI, [], []⟩), (74, ⟨GJ, [], []⟩), (76, ⟨EY, [], []⟩), (78, ⟨Ag, [], []⟩), (79, ⟨GK, [], []⟩), (80, ⟨GO, [], []⟩), (81, ⟨GP, [], []⟩), (82, ⟨GQ, [], []⟩), (83, ⟨EZ, [], []⟩), (84, ⟨GR, [], []⟩), (85, ⟨GS, [], []⟩), (90, ⟨GW, [], []⟩), (91, ⟨GX, [], []⟩), (92, ⟨Fd, [], []⟩), (93, ⟨GY, [], []⟩), (94, ⟨Fe, [], []⟩), (95, ⟨Ah, [], []⟩), (97, ⟨Ff, [], []⟩), (98, ⟨GZ, [], []⟩), (99, ⟨Ha, [], []⟩), (102, ⟨AB, [], []⟩), (103, ⟨wD, [], []⟩), (104, ⟨AC, [], []⟩), (105, ⟨AD, [], []⟩), (106, ⟨AF, [], []⟩), (107, ⟨AG, [], []⟩), (108, ⟨AH, [], []⟩), (111, ⟨AJ, [], []⟩), (112, ⟨AK, [], []⟩), (113, ⟨wT, [], []⟩), (114, ⟨wX, [], []⟩), (118, ⟨AL, [], []⟩), (119, ⟨AM, [], []⟩), (120, ⟨AQ, [], []⟩), (121, ⟨AR, [], []⟩), (122, ⟨xi, [], []⟩), (123, ⟨AU, [], []⟩), (124, ⟨xo, [], []⟩), (125, ⟨xu, [], []⟩), (126, ⟨xA, [], []⟩), (127, ⟨AV, [], []⟩), (128, ⟨AW, [], []⟩), (132, ⟨xF, [], []⟩), (133, ⟨xJ, [], []⟩), (134, ⟨AY, [], []⟩)]
def b9 : FuncId → tl := fun f => (d4 f ANNS).getD {}
def ext : vi := fun f args => bif Nat.beq f 35 then some (ma args) else bif Nat.beq f 135 then some (bS args) else bif Nat.beq f 23 then some (mb args) else bif Nat.beq f 45 then some (dW args) else bif Nat.beq f 53 then some (oj args) else none
noncomputable abbrev EV (k : Nat) : Q3 := evF prog b9 ext k
noncomputable abbrev RE (k : Nat) (a : c8) (o : Array Oper) (d : Bool) (s : St) : Option St := Q2 prog (EV k) a o d s
abbrev I (n : Int) : V := .int .i64 n
abbrev l7 (l : List b7) : V := .sl 0 8 (List.map i9 l)
abbrev j8 (l : List d6) : V := .sl 0 3 (List.map j9 l)
abbrev r9 (l : List j0) : V := .sl 0 4 (List.map p9 l)
abbrev j2 (l : List a8) : V := .sl 0 3 (List.map i7 l)
abbrev b4 (l : List a6) : V := .sl 0 3 (List.map i5 l)
abbrev sI (l : List Int) : V := .sl 0 1 (List.map I l)
def H8 : Bool → V × List V := fun r => ((Bo r), [])
theorem kU (k : Nat) (a0 : a7) (x17 : Int)  (K0 : Int → Option Bool) (Kst : X × St → Option (V × List V)) (hK0 : ∀ (y0 : Int), Kst (X.exit 2, ⟨[(1, (Pt 1)), (3, (I x17)), (4, (I y0)), (55, (Bo false))], [(1, vS 4 (b8 a0))], 95⟩) = (K0 y0).map H8) (hret : ∀ s, Kst (X.ret, s) = D4 prog 95 [(b8 a0)] [] [.tmp 2] (X.ret, s)) :
  ∀ (m : Nat) (x26 : Int), (B5 (s7 prog (EV k) f5n k Gy) m ⟨[(1, (Pt 1)), (3, (I x17)), (4, (I x26))], [(1, vS 4 (b8 a0))], 95⟩).bind Kst = (L4 a0 x17 K0 m x26).map H8 := by
 intro m
 induction m with
 | zero => intros; rfl
 | succ m ih =>
  intro x26
  unfold L4
  refine et l8 <| et b6 <| kga Gx rfl (fun (o28 : Bool) => [(55, (Bo o28))]) (rd 4 [(47, (I x26)), (48, (V.ptr 1 0 2)), (49, (l7 a0.fTypes)), (50, (I x17))] rfl rfl <| rp rfl (i6 (e := i9) rfl rfl rfl underlying22 rfl (by decide)) fun v27 => bd 7 [(51, (Pr (i9 v27))), (52, (Pr (j8 v27.fFields))), (53, (j8 v27.fFields))] rfl rfl <| rl rfl (m8 (e := j9) rfl rfl rfl rfl rfl rfl underlying46) <| b5 rfl) fun o28 => kc rfl rfl (fun hc => ?_) fun hc => ?_
  ·rw [hc]
   refine et d7 <| et (i4 rfl) <| kg Dj rfl (fun (o31 : Bool) => ⟨[(1, (Pt 1)), (3, (I x17)), (4, (I x26)), (69, (Bo o31))], [(1, vS 4 (b8 a0))], 95⟩) (rd 3 [(58, (V.ptr 1 0 2)), (59, (l7 a0.fTypes)), (60, (I x17))] rfl rfl <| rp rfl (i6 (e := i9) rfl rfl rfl underlying22 rfl (by decide)) fun v29 => bd 7 [(61, (Pr (i9 v29))), (62, (Pr (j8 v29.fFields))), (63, (j8 v29.fFields)), (64, (I x26))] rfl rfl <| rp rfl (i6 (e := j9) rfl rfl rfl underlying46 rfl (by decide)) fun v30 => b5 rfl) fun o31 => kcl rfl rfl (fun hc => ?_) fun hc => ?_
   ·rw [hc]
    refine kr ⟨[(2, (Bo true))], [], 95⟩ rfl <| et d9 <| et j7 <| et j6 <| et (hret _) ?_
    rfl
   ·rw [hc]
    exact et l9 <| et i3 <| kl ⟨[(1, (Pt 1)), (3, (I x17)), (4, (I (Go.IntKind.wrap .i64 (x26 + 1))))], [(1, vS 4 (b8 a0))], 95⟩ rfl <| et d8 <| ih (Go.IntKind.wrap .i64 (x26 + 1))
  ·rw [hc]
   exact et n8 <| et j1 <| hK0 x26
theorem kT (k : Nat) (a0 : a7)  (K0 : Int → Option Bool) (Kst : X × St → Option (V × List V)) (hK0 : ∀ (y0 : Int), Kst (X.exit 0, ⟨[(1, (Pt 1)), (3, (I y0)), (26, (Bo false))], [(1, vS 4 (b8 a0))], 95⟩) = (K0 y0).map H8) (hret : ∀ s, Kst (X.ret, s) = D4 prog 95 [(b8 a0)] [] [.tmp 2] (X.ret, s)) :
  ∀ (m : Nat) (x17 : Int), (B5 (s7 prog (EV k) f5n k Gz) m ⟨[(1, (Pt 1)), (3, (I x17))], [(1, vS 4 (b8 a0))], 95⟩).bind Kst = (L3 k a0 K0 m x17).map H8 := by
 intro m
 induction m with
 | zero => intros; rfl
 | succ m ih =>
  intro x17
  unfold L3
  refine et l8 <| et b6 <| krp Gv rfl ⟨[(1, (Pt 1)), (3, (I x17)), (26, (Bo (decide (x17 < (a0.fTypes.length : Int)))))], [(1, vS 4 (b8 a0))], 95⟩ ?_ ?_
  ·exact rd 3 [(22, (I x17)), (23, (V.ptr 1 0 2)), (24, (l7 a0.fTypes))] rfl rfl <| rl rfl (m8 (e := i9) rfl rfl rfl rfl rfl rfl underlying22) <| b5 rfl
  refine kc rfl rfl (fun hc => ?_) fun hc => ?_
  ·rw [hc]
   refine et d7 <| et (i4 rfl) <| et b6 <| kg Gw rfl (fun (o20 : Bool) => ⟨[(1, (Pt 1)), (3, (I x17)), (46, (Bo o20))], [(1, vS 4 (b8 a0))], 95⟩) ?_ fun o20 => ?_
   ·refine rd 3 [(29, (V.ptr 1 0 2)), (30, (l7 a0.fTypes)), (31, (I x17))] rfl rfl <| rp rfl (i6 (e := i9) rfl rfl rfl underlying22 rfl (by decide)) fun v18 => bd 6 [(32, (Pr (i9 v18))), (33, (Pr (j8 v18.fFields))), (34, (j8 v18.fFields))] rfl rfl <| rl rfl (m8 (e := j9) rfl rfl rfl rfl rfl rfl underlying46) <| bd 9 [(35, (I (v18.fFields.length : Int))), (36, (Bo (decide ((v18.fFields.length : Int) > 20)))), (37, (Bo (decide ((v18.fFields.length : Int) > 20))))] rfl rfl <| m9 (fun hc => ?_) fun hc => ?_
    ·rw [hc]
     exact c9 rfl
    ·rw [hc]
     exact rd 12 [(38, (V.ptr 1 0 2)), (39, (l7 a0.fTypes)), (40, (I x17))] rfl rfl <| rp rfl (i6 (e := i9) rfl rfl rfl underlying22 rfl (by decide)) fun v19 => b5 rfl
   refine kc rfl rfl (fun hc => ?_) fun hc => ?_
   ·rw [hc]
    refine et b6 <| kr ⟨[(2, (Bo true))], [], 95⟩ rfl <| et p8 <| et j7 <| et j6 <| et (hret _) ?_
    rfl
   ·rw [hc]
    refine et d7 <| kr ⟨[(1, (Pt 1)), (3, (I x17)), (4, (I 0))], [(1, vS 4 (b8 a0))], 95⟩ rfl <| et (I5 rfl) <| et p3 ?_
    refine kU k a0 x17 _ _ ?h_law12_Large_L2_0 ?hr_law12_Large_L2 k 0
    ·intro y32
     exact et j3 <| et l9 <| et i3 <| kl ⟨[(1, (Pt 1)), (3, (I (Go.IntKind.wrap .i64 (x17 + 1))))], [(1, vS 4 (b8 a0))], 95⟩ rfl <| et d8 <| ih (Go.IntKind.wrap .i64 (x17 + 1))
    ·intro s; exact hret s
  ·rw [hc]
   exact et n8 <| et j1 <| hK0 x17
theorem kV (k : Nat) (a0 : a7)  (K0 : Int → Option Bool) (Kst : X × St → Option (V × List V)) (hK0 : ∀ (y0 : Int), Kst (X.exit 4, ⟨[(1, (Pt 1)), (5, (I y0)), (74, (Bo false))], [(1, vS 4 (b8 a0))], 95⟩) = (K0 y0).map H8) (hret : ∀ s, Kst (X.ret, s) = D4 prog 95 [(b8 a0)] [] [.tmp 2] (X.ret, s)) :
  ∀ (m : Nat) (x37 : Int), (B5 (s7 prog (EV k) f5n k GA) m ⟨[(1, (Pt 1)), (5, (I x37))], [(1, vS 4 (b8 a0))], 95⟩).bind Kst = (L5 a0 K0 m x37).map H8 := by
 intro m
 induction m with
 | zero => intros; rfl
 | succ m ih =>
  intro x37
  unfold L5
  refine et l8 <| et b6 <| krp Dk rfl ⟨[(1, (Pt 1)), (5, (I x37)), (74, (Bo (decide (x37 < (a0.fIndexes.length : Int)))))], [(1, vS 4 (b8 a0))], 95⟩ ?_ ?_
  ·exact rd 3 [(70, (I x37)), (71, (V.ptr 1 0 3)), (72, (r9 a0.fIndexes))] rfl rfl <| rl rfl (m8 (e := p9) rfl rfl rfl rfl rfl rfl underlying23) <| b5 rfl
  refine kc rfl rfl (fun hc => ?_) fun hc => ?_
  ·rw [hc]
   refine et d7 <| et (i4 rfl) <| kg Dl rfl (fun (o40 : Bool) => ⟨[(1, (Pt 1)), (5, (I x37)), (94, (Bo o40))], [(1, vS 4 (b8 a0))], 95⟩) ?_ fun o40 => ?_
   ·refine rd 3 [(77, (V.ptr 1 0 3)), (78, (r9 a0.fIndexes)), (79, (I x37))] rfl rfl <| rp rfl (i6 (e := p9) rfl rfl rfl underlying23 rfl (by decide)) fun v38 => bd 9 [(80, (Pr (p9 v38))), (81, (Pr (Sr v38.fName))), (82, (Sr v38.fName)), (83, (I (v38.fName.length : Int))), (84, (Bo (decide ((v38.fName.length : Int) > 40)))), (85, (Bo (decide ((v38.fName.length : Int) > 40))))] rfl rfl <| m9 (fun hc => ?_) fun hc => ?_
    ·rw [hc]
     exact c9 rfl
    ·rw [hc]
     exact rd 12 [(86, (V.ptr 1 0 3)), (87, (r9 a0.fIndexes)), (88, (I x37))] rfl rfl <| rp rfl (i6 (e := p9) rfl rfl rfl underlying23 rfl (by decide)) fun v39 => b5 rfl
   refine kcl rfl rfl (fun hc => ?_) fun hc => ?_
   ·rw [hc]
    refine kr ⟨[(2, (Bo true))], [], 95⟩ rfl <| et d9 <| et j7 <| et j6 <| et (hret _) ?_
    rfl
   ·rw [hc]
    exact et l9 <| et i3 <| kl ⟨[(1, (Pt 1)), (5, (I (Go.IntKind.wrap .i64 (x37 + 1))))], [(1, vS 4 (b8 a0))], 95⟩ rfl <| et d8 <| ih (Go.IntKind.wrap .i64 (x37 + 1))
  ·rw [hc]
   exact et n8 <| et j1 <| hK0 x37
theorem oG (k : Nat) (a0 : a7) : EV k 5 [(b8 a0)] = (ck k a0).map H8 := by
 cases k with
 | zero => rfl
 | succ k =>
  unfold ck
  refine et (i2 (c := f5c) (N := 95) (regs := f5n) rfl func5 rfl (by decide) rfl rfl rfl) <| kr ⟨[(1, (Pt 1))], [(1, vS 4 (b8 a0))], 95⟩ rfl <| et b6 <| kga Gu rfl (fun (o1 : Bool) => [(21, (Bo o1))]) ?_ fun o1 => ?_
  ·refine rd 2 [(6, (V.ptr 1 0 2)), (7, (l7 a0.fTypes))] rfl rfl <| rl rfl (m8 (e := i9) rfl rfl rfl rfl rfl rfl underlying22) <| bd 5 [(8, (I (a0.fTypes.length : Int))), (9, (Bo (decide ((a0.fTypes.length : Int) > 20)))), (10, (Bo (decide ((a0.fTypes.length : Int) > 20))))] rfl rfl <| m9 (fun hc => ?_) fun hc => ?_
   ·rw [hc]
    exact c9 rfl
   ·rw [hc]
    refine rd 7 [(11, (V.ptr 1 0 3)), (12, (r9 a0.fIndexes))] rfl rfl <| rl rfl (m8 (e := p9) rfl rfl rfl rfl rfl rfl underlying23) <| bd 11 [(13, (I (a0.fIndexes.length : Int))), (14, (Bo (decide ((a0.fIndexes.length : Int) > 20)))), (15, (Bo (decide ((a0.fIndexes.length : Int) > 20)))), (16, (Bo (decide ((a0.fIndexes.length : Int) > 20))))] rfl rfl <| m9 (fun hc => ?_) fun hc => ?_
    ·rw [hc]
     exact c9 rfl
    ·rw [hc]
     exact c9 rfl
  refine kc rfl rfl (fun hc => ?_) fun hc => ?_
  ·rw [hc]
   refine et b6 <| kr ⟨[(2, (Bo true))], [], 95⟩ rfl <| et p8 ?_
   rfl
  ·rw [hc]
   refine et d7 <| et b6 <| kr ⟨[(1, (Pt 1)), (3, (I 0))], [(1, vS 4 (b8 a0))], 95⟩ rfl <| et (i4 rfl) <| et p3 ?_
   refine kT k a0 _ _ ?h_law12_Large_L1_0 ?hr_law12_Large_L1 k 0
   ·intro y33
    refine et j3 <| et b6 <| kr ⟨[(1, (Pt 1)), (5, (I 0))], [(1, vS 4 (b8 a0))], 95⟩ rfl <| et (i4 rfl) <| et p3 ?_
    refine kV k a0 _ _ ?h_law12_Large_L3_0 ?hr_law12_Large_L3 k 0
    ·intro y41
     refine et j3 <| kr ⟨[(2, (Bo false))], [], 95⟩ rfl <| et d9 ?_
     rfl
    ·intro s; exact rfl
   ·intro s; exact rfl
def V4 : Bool → V × List V := fun r => ((Bo r), [])
theorem mo (k : Nat) (a0 : (List (List a6))) (x19 : Int)  (K0 : Int → Option Bool) (Kst : X × St → Option (V × List V)) (hK0 : ∀ (y0 : Int), Kst (X.exit 2, ⟨[(0, (V.sl 0 1 (List.map b4 a0))), (3, (I x19)), (4, (I y0)), (23, (Bo false))], [], 51⟩) = (K0 y0).map V4) (hret : ∀ s, Kst (X.ret, s) = D4 prog 51 [(V.sl 0 1 (List.map b4 a0))] [] [.tmp 2] (X.ret, s)) :
  ∀ (m : Nat) (x29 : Int), (B5 (s7 prog (EV k) zY k Bw) m ⟨[(0, (V.sl 0 1 (List.map b4 a0))), (3, (I x19)), (4, (I x29))], [], 51⟩).bind Kst = (P4 a0 x19 K0 m x29).map V4 := by
 intro m
 induction m with
 | zero => intros; rfl
 | succ m ih =>
  intro x29
  unfold P4
  refine et l8 <| et b6 <| kga Bu rfl (fun (o31 : Bool) => [(23, (Bo o31))]) (rd 3 [(17, (I x29)), (18, (V.sl 0 1 (List.map b4 a0))), (19, (I x19))] rfl rfl <| rp rfl (i6 (e := b4) rfl rfl rfl underlying26 rfl (by decide)) fun v30 => bd 5 [(20, (Pr (b4 v30))), (21, (b4 v30))] rfl rfl <| rl rfl (m8 (e := i5) rfl rfl rfl rfl rfl rfl underlying56) <| b5 rfl) fun o31 => kc rfl rfl (fun hc => ?_) fun hc => ?_
  ·rw [hc]
   refine et d7 <| et (i4 rfl) <| kg Bv rfl (fun (o36 : Bool) => ⟨[(0, (V.sl 0 1 (List.map b4 a0))), (3, (I x19)), (4, (I x29)), (47, (Bo o36))], [], 51⟩) ?_ fun o36 => ?_
   ·refine rd 2 [(26, (V.sl 0 1 (List.map b4 a0))), (27, (I x19))] rfl rfl <| rp rfl (i6 (e := b4) rfl rfl rfl underlying26 rfl (by decide)) fun v32 => bd 5 [(28, (Pr (b4 v32))), (29, (b4 v32)), (30, (I x29))] rfl rfl <| rp rfl (i6 (e := i5) rfl rfl rfl underlying56 rfl (by decide)) fun v33 => bd 11 [(31, (Pr (i5 v33))), (32, (Pr (Sr v33.fField))), (33, (Sr v33.fField)), (34, (I (v33.fField.length : Int))), (35, (Bo (decide ((v33.fField.length : Int) > 100)))), (36, (Bo (decide ((v33.fField.length : Int) > 100))))] rfl rfl <| m9 (fun hc => ?_) fun hc => ?_
    ·rw [hc]
     exact c9 rfl
    ·rw [hc]
     exact rd 13 [(37, (V.sl 0 1 (List.map b4 a0))), (38, (I x19))] rfl rfl <| rp rfl (i6 (e := b4) rfl rfl rfl underlying26 rfl (by decide)) fun v34 => bd 16 [(39, (Pr (b4 v34))), (40, (b4 v34)), (41, (I x29))] rfl rfl <| rp rfl (i6 (e := i5) rfl rfl rfl underlying56 rfl (by decide)) fun v35 => b5 rfl
   refine kcl rfl rfl (fun hc => ?_) fun hc => ?_
   ·rw [hc]
    refine kr ⟨[(2, (Bo true))], [], 51⟩ rfl <| et d9 <| et j7 <| et j6 <| et (hret _) ?_
    rfl
   ·rw [hc]
    exact et l9 <| et i3 <| kl ⟨[(0, (V.sl 0 1 (List.map b4 a0))), (3, (I x19)), (4, (I (Go.IntKind.wrap .i64 (x29 + 1))))], [], 51⟩ rfl <| et d8 <| ih (Go.IntKind.wrap .i64 (x29 + 1))
  ·rw [hc]
   exact et n8 <| et j1 <| hK0 x29
theorem mn (k : Nat) (a0 : (List (List a6)))  (K0 : Int → Option Bool) (Kst : X × St → Option (V × List V)) (hK0 : ∀ (y0 : Int), Kst (X.exit 0, ⟨[(0, (V.sl 0 1 (List.map b4 a0))), (3, (I y0)), (8, (Bo false))], [], 51⟩) = (K0 y0).map V4) (hret : ∀ s, Kst (X.ret, s) = D4 prog 51 [(V.sl 0 1 (List.map b4 a0))] [] [.tmp 2] (X.ret, s)) :
  ∀ (m : Nat) (x19 : Int), (B5 (s7 prog (EV k) zY k Bx) m ⟨[(0, (V.sl 0 1 (List.map b4 a0))), (3, (I x19))], [], 51⟩).bind Kst = (P3 k a0 K0 m x19).map V4 := by
 intro m
 induction m with
 | zero => intros; rfl
 | succ m ih =>
  intro x19
  unfold P3
  refine et l8 <| et b6 <| krp Bs rfl ⟨[(0, (V.sl 0 1 (List.map b4 a0))), (3, (I x19)), (8, (Bo (decide (x19 < (a0.length : Int)))))], [], 51⟩ ?_ ?_
  ·exact rd 2 [(5, (I x19)), (6, (V.sl 0 1 (List.map b4 a0)))] rfl rfl <| rl rfl (m8 (e := b4) rfl rfl rfl rfl rfl rfl underlying26) <| b5 rfl
  refine kc rfl rfl (fun hc => ?_) fun hc => ?_
  ·rw [hc]
   refine et d7 <| et (i4 rfl) <| et b6 <| kg Bt rfl (fun (o21 : Bool) => ⟨[(0, (V.sl 0 1 (List.map b4 a0))), (3, (I x19)), (16, (Bo o21))], [], 51⟩) (rd 2 [(11, (V.sl 0 1 (List.map b4 a0))), (12, (I x19))] rfl rfl <| rp rfl (i6 (e := b4) rfl rfl rfl underlying26 rfl (by decide)) fun v20 => bd 4 [(13, (Pr (b4 v20))), (14, (b4 v20))] rfl rfl <| rl rfl (m8 (e := i5) rfl rfl rfl rfl rfl rfl underlying56) <| b5 rfl) fun o21 => kc rfl rfl (fun hc => ?_) fun hc => ?_
   ·rw [hc]
    refine et b6 <| kr ⟨[(2, (Bo true))], [], 51⟩ rfl <| et p8 <| et j7 <| et j6 <| et (hret _) ?_
    rfl
   ·rw [hc]
    refine et d7 <| kr ⟨[(0, (V.sl 0 1 (List.map b4 a0))), (3, (I x19)), (4, (I 0))], [], 51⟩ rfl <| et (I5 rfl) <| et p3 ?_
    refine mo k a0 x19 _ _ ?h_law12_Long_L2_0 ?hr_law12_Long_L2 k 0
    ·intro y37
     exact et j3 <| et l9 <| et i3 <| kl ⟨[(0, (V.sl 0 1 (List.map b4 a0))), (3, (I (Go.IntKind.wrap .i64 (x19 + 1))))], [], 51⟩ rfl <| et d8 <| ih (Go.IntKind.wrap .i64 (x19 + 1))
    ·intro s; exact hret s
  ·rw [hc]
   exact et n8 <| et j1 <| hK0 x19
theorem pH (k : Nat) (a0 : (List (List a6))) : EV k 20 [(V.sl 0 1 (List.map b4 a0))] = (eb k a0).map V4 := by
 cases k with
 | zero => rfl
 | succ k =>
  unfold eb
  refine et (i2 (c := f20c) (N := 51) (regs := zY) rfl func20 rfl (by decide) rfl rfl rfl) <| kra [] rfl <| et b6 <| kra [(3, (I 0))] rfl <| et (i4 rfl) <| et p3 ?_
  refine mn k a0 _ _ ?h_law12_Long_L1_0 ?hr_law12_Long_L1 k 0
  ·intro y38
   refine et j3 <| krp xM rfl ⟨[(2, (Bo (decide ((a0.length : Int) > 20))))], [], 51⟩ ?_ ?_
   ·exact rd 1 [(48, (V.sl 0 1 (List.map b4 a0)))] rfl rfl <| rl rfl (m8 (e := b4) rfl rfl rfl rfl rfl rfl underlying26) <| b5 rfl
   refine et d9 ?_
   rfl
  ·intro s; exact rfl
def eg : Bool → V × List V := fun r => ((Bo r), [])
theorem mp (k : Nat) (a0 : (List a8))  (K0 : Int → Option Bool) (Kst : X × St → Option (V × List V)) (hK0 : ∀ (y0 : Int), Kst (X.exit 0, ⟨[(0, (j2 a0)), (3, (I y0)), (7, (Bo false))], [], 37⟩) = (K0 y0).map eg) (hret : ∀ s, Kst (X.ret, s) = D4 prog 37 [(j2 a0)] [] [.tmp 2] (X.ret, s)) :
  ∀ (m : Nat) (x6 : Int), (B5 (s7 prog (EV k) f6n k GF) m ⟨[(0, (j2 a0)), (3, (I x6))], [], 37⟩).bind Kst = (P5 k a0 K0 m x6).map eg := by
 intro m
 induction m with
 | zero => intros; rfl
 | succ m ih =>
  intro x6
  unfold P5
  refine et l8 <| et b6 <| krp GC rfl ⟨[(0, (j2 a0)), (3, (I x6)), (7, (Bo (decide (x6 < (a0.length : Int)))))], [], 37⟩ ?_ ?_
  ·exact rd 2 [(4, (I x6)), (5, (j2 a0))] rfl rfl <| rl rfl (m8 (e := i7) rfl rfl rfl rfl rfl rfl underlying31) <| b5 rfl
  refine kc rfl rfl (fun hc => ?_) fun hc => ?_
  ·rw [hc]
   refine et d7 <| et (i4 rfl) <| kg GD rfl (fun (o11 : Bool) => ⟨[(0, (j2 a0)), (3, (I x6)), (33, (Bo o11))], [], 37⟩) ?_ fun o11 => ?_
   ·refine rd 2 [(10, (j2 a0)), (11, (I x6))] rfl rfl <| rp rfl (i6 (e := i7) rfl rfl rfl underlying31 rfl (by decide)) fun v7 => bd 8 [(12, (Pr (i7 v7))), (13, (Pr (Sr v7.fSegment))), (14, (Sr v7.fSegment)), (15, (I (v7.fSegment.length : Int))), (16, (Bo (decide ((v7.fSegment.length : Int) > 100)))), (17, (Bo (decide ((v7.fSegment.length : Int) > 100))))] rfl rfl <| m9 (fun hc => ?_) fun hc => ?_
    ·rw [hc]
     exact c9 rfl
    ·rw [hc]
     refine rd 10 [(18, (j2 a0)), (19, (I x6))] rfl rfl <| rp rfl (i6 (e := i7) rfl rfl rfl underlying31 rfl (by decide)) fun v8 => bd 17 [(20, (Pr (i7 v8))), (21, (Pr (Sr v8.fCodes))), (22, (Sr v8.fCodes)), (23, (I (v8.fCodes.length : Int))), (24, (Bo (decide ((v8.fCodes.length : Int) > 100)))), (25, (Bo (decide ((v8.fCodes.length : Int) > 100)))), (26, (Bo (decide ((v8.fCodes.length : Int) > 100))))] rfl rfl <| m9 (fun hc => ?_) fun hc => ?_
     ·rw [hc]
      exact c9 rfl
     ·rw [hc]
      exact rd 19 [(27, (j2 a0)), (28, (I x6))] rfl rfl <| rp rfl (i6 (e := i7) rfl rfl rfl underlying31 rfl (by decide)) fun v9 => bd 22 [(29, (Pr (i7 v9))), (30, (Pr (V.sl 0 1 (List.map b4 v9.fWhen)))), (31, (V.sl 0 1 (List.map b4 v9.fWhen)))] rfl rfl <| rs rfl (f9 rfl rfl rfl rfl rfl (pH k v9.fWhen) (.inl rfl)) fun v10 => b5 rfl
   refine kcl rfl rfl (fun hc => ?_) fun hc => ?_
   ·rw [hc]
    refine kr ⟨[(2, (Bo true))], [], 37⟩ rfl <| et d9 <| et j7 <| et j6 <| et (hret _) ?_
    rfl
   ·rw [hc]
    exact et l9 <| et i3 <| kl ⟨[(0, (j2 a0)), (3, (I (Go.IntKind.wrap .i64 (x6 + 1))))], [], 37⟩ rfl <| et d8 <| ih (Go.IntKind.wrap .i64 (x6 + 1))
  ·rw [hc]
   exact et n8 <| et j1 <| hK0 x6
theorem pI (k : Nat) (a0 : (List a8)) : EV k 6 [(j2 a0)] = (ef k a0).map eg := by
 cases k with
 | zero => rfl
 | succ k =>
  unfold ef
  refine et (i2 (c := f6c) (N := 37) (regs := f6n) rfl func6 rfl (by decide) rfl rfl rfl) <| kra [] rfl <| et b6 <| kra [(3, (I 0))] rfl <| et (i4 rfl) <| et p3 ?_
  refine mp k a0 _ _ ?h_law14_Long_L1_0 ?hr_law14_Long_L1 k 0
  ·intro y12
   refine et j3 <| krp GE rfl ⟨[(2, (Bo (decide ((a0.length : Int) > 20))))], [], 37⟩ ?_ ?_
   ·exact rd 1 [(34, (j2 a0))] rfl rfl <| rl rfl (m8 (e := i7) rfl rfl rfl rfl rfl rfl underlying31) <| b5 rfl
   refine et d9 ?_
   rfl
  ·intro s; exact rfl
def oH : a7 → V × List V := fun r => ((b8 r), [])
theorem jB (k : Nat)  : EV k 21 [] = (bu k).map oH := by
 cases k with
 | zero => rfl
 | succ k =>
  unfold bu
  refine et (i2 (c := f21c) (N := 9) (regs := Gc) rfl func21 rfl (by decide) rfl rfl rfl) <| kr ⟨[(0, (Pt 0))], [(0, ⟨false, 4, [(V.agg [(Sr []), (I 0), (V.sl 2 8 (List.map i9 ([] : List b7))), (V.sl 2 4 (List.map p9 ([] : List j0)))])]⟩)], 9⟩ rfl <| kr ⟨[(0, (Pt 0))], [(0, ⟨false, 4, [(b8 ({ fName := ([83, 72, 79, 80] : Str), fKind := 4, fTypes := ([({ fName := ([67, 85, 83, 84] : Str), fParent := (-1), fMin := 4, fSize := 10, fFields := ([({ fName := ([67, 85, 83, 84, 78, 79] : Str), fAt := 0, fBytes := 4 } : d6)] : List d6), fKey := 0, fUnique := true, fLast := false } : b7), ({ fName := ([79, 82, 68, 69, 82] : Str), fParent := 0, fMin := 4, fSize := 8, fFields := ([({ fName := ([79, 82, 68, 78, 79] : Str), fAt := 0, fBytes := 4 } : d6)] : List d6), fKey := 0, fUnique := false, fLast := false } : b7)] : List b7), fIndexes := ([] : List j0) } : a7))]⟩)], 9⟩ rfl <| et d9 ?_
  rfl
def dR : Bool → V × List V := fun r => ((Bo r), [])
theorem lV (k : Nat) (a0 : Str)  (K0 : Int → Option Bool) (Kst : X × St → Option (V × List V)) (hK0 : ∀ (y0 : Int), Kst (X.exit 0, ⟨[(0, (Sr a0)), (6, (I (a0.length : Int))), (7, (I y0)), (8, (Bo false))], [], 47⟩) = (K0 y0).map dR) (hret : ∀ s, Kst (X.ret, s) = D4 prog 47 [(Sr a0)] [] [.tmp 2] (X.ret, s)) :
  ∀ (m : Nat) (x7 : Int), (B5 (s7 prog (EV k) EO k CC) m ⟨[(0, (Sr a0)), (6, (I (a0.length : Int))), (7, (I x7))], [], 47⟩).bind Kst = (G6 a0 K0 m x7).map dR := by
 intro m
 induction m with
 | zero => intros; rfl
 | succ m ih =>
  intro x7
  unfold G6
  refine et l8 <| kra [(8, (Bo (decide (x7 < (a0.length : Int)))))] rfl <| kc rfl rfl (fun hc => ?_) fun hc => ?_
  ·rw [hc]
   refine et d7 <| et (i4 rfl) <| kr ⟨[(0, (Sr a0)), (3, (I x7)), (6, (I (a0.length : Int))), (7, (I x7))], [], 47⟩ rfl <| kg Cz rfl (fun (o10 : Bool) => ⟨[(0, (Sr a0)), (3, (I x7)), (4, (Bo o10)), (6, (I (a0.length : Int))), (7, (I x7))], [], 47⟩) ?_ fun o10 => ?_
   ·refine rd 2 [(10, (Sr a0)), (11, (I x7))] rfl rfl <| rp rfl (s9 rfl rfl rfl underlying9) fun v8 => bd 5 [(12, (V.int .u8 v8)), (13, (Bo (decide (v8 ≥ 65)))), (14, (Bo (decide (v8 ≥ 65))))] rfl rfl <| m9 (fun hc => ?_) fun hc => ?_
    ·rw [hc]
     exact rd 7 [(15, (Sr a0)), (16, (I x7))] rfl rfl <| rp rfl (s9 rfl rfl rfl underlying9) fun v9 => b5 rfl
    ·rw [hc]
     exact c9 rfl
   refine kg CA rfl (fun (o13 : Bool) => ⟨[(0, (Sr a0)), (6, (I (a0.length : Int))), (7, (I x7)), (37, (Bo o13))], [], 47⟩) ?_ fun o13 => ?_
   ·refine rd 3 [(20, (Bo o10)), (21, (Bo (!o10))), (22, (Bo (!o10)))] rfl rfl <| m9 (fun hc => ?_) fun hc => ?_
    ·rw [hc]
     refine rd 6 [(23, (I x7)), (24, (Bo (x7 == 0))), (25, (Bo (x7 == 0)))] rfl rfl <| m9 (fun hc => ?_) fun hc => ?_
     ·rw [hc]
      exact c9 rfl
     ·rw [hc]
      refine rd 8 [(26, (Sr a0)), (27, (I x7))] rfl rfl <| rp rfl (s9 rfl rfl rfl underlying9) fun v11 => bd 12 [(28, (V.int .u8 v11)), (29, (Bo (decide (v11 < 48)))), (30, (Bo (decide (v11 < 48)))), (31, (Bo (decide (v11 < 48))))] rfl rfl <| m9 (fun hc => ?_) fun hc => ?_
      ·rw [hc]
       exact c9 rfl
      ·rw [hc]
       exact rd 14 [(32, (Sr a0)), (33, (I x7))] rfl rfl <| rp rfl (s9 rfl rfl rfl underlying9) fun v12 => b5 rfl
    ·rw [hc]
     exact c9 rfl
   refine kcl rfl rfl (fun hc => ?_) fun hc => ?_
   ·rw [hc]
    refine kr ⟨[(2, (Bo false))], [], 47⟩ rfl <| et d9 <| et j7 <| et j6 <| et (hret _) ?_
    rfl
   ·rw [hc]
    exact et l9 <| et i3 <| kl ⟨[(0, (Sr a0)), (6, (I (a0.length : Int))), (7, (I (Go.IntKind.wrap .i64 (x7 + 1))))], [], 47⟩ rfl <| et d8 <| ih (Go.IntKind.wrap .i64 (x7 + 1))
  ·rw [hc]
   exact et n8 <| et j1 <| hK0 x7
theorem bR (k : Nat) (a0 : Str) : EV k 50 [(Sr a0)] = (R7 k a0).map dR := by
 cases k with
 | zero => rfl
 | succ k =>
  unfold R7
  refine et (i2 (c := f50c) (N := 47) (regs := EO) rfl func50 rfl (by decide) rfl rfl rfl) <| kra [] rfl <| et b6 <| kra [(6, (I (a0.length : Int))), (7, (I 0))] rfl <| et (i4 rfl) <| et p3 ?_
  refine lV k a0 _ _ ?h_dbd_IsName_L1_0 ?hr_dbd_IsName_L1 k 0
  ·intro y14
   refine et j3 <| kg CB rfl (fun (o15 : Bool) => ⟨[(2, (Bo o15))], [], 47⟩) ?_ fun o15 => ?_
   ·refine rd 4 [(39, (Sr a0)), (40, (I (a0.length : Int))), (41, (Bo (decide ((a0.length : Int) ≥ 1)))), (42, (Bo (decide ((a0.length : Int) ≥ 1))))] rfl rfl <| m9 (fun hc => ?_) fun hc => ?_
    ·rw [hc]
     exact c9 rfl
    ·rw [hc]
     exact c9 rfl
   refine et d9 ?_
   rfl
  ·intro s; exact rfl
def M3 : Int → V × List V := fun r => ((I r), [])
theorem dc (k : Nat) (a0 : (List d6)) (a1 : Nat → d6 → Option Bool) (a1_fid : Go.FuncId) (a1_c0 : V) (a1_hok : ∀ j x0, EV j a1_fid [(j9 x0), V.pro a1_c0] = (a1 j x0).map fun b => ((Bo b), [])) (K0 : Int → Option Int) (Kst : X × St → Option (V × List V)) (hK0 : ∀ (y0 : Int), Kst (X.exit 0, ⟨[(0, (j8 a0)), (1, (V.fn a1_fid [] [V.pro a1_c0])), (7, (I (a0.length : Int))), (8, (I y0)), (9, (Bo false))], [], 19⟩) = (K0 y0).map M3) (hret : ∀ s, Kst (X.ret, s) = D4 prog 19 [(j8 a0), (V.fn a1_fid [] [V.pro a1_c0])] [] [.tmp 4] (X.ret, s)) :
  ∀ (m : Nat) (x4 : Int), (B5 (s7 prog (EV k) xJ k xI) m ⟨[(0, (j8 a0)), (1, (V.fn a1_fid [] [V.pro a1_c0])), (7, (I (a0.length : Int))), (8, (I x4))], [], 19⟩).bind Kst = (B6 k a0 a1 K0 m x4).map M3 := by
 intro m
 induction m with
 | zero => intros; rfl
 | succ m ih =>
  intro x4
  unfold B6
  refine et l8 <| kra [(9, (Bo (decide (x4 < (a0.length : Int)))))] rfl <| kc rfl rfl (fun hc => ?_) fun hc => ?_
  ·rw [hc]
   refine et d7 <| et (i4 rfl) <| kr ⟨[(0, (j8 a0)), (1, (V.fn a1_fid [] [V.pro a1_c0])), (5, (I x4)), (7, (I (a0.length : Int))), (8, (I x4))], [], 19⟩ rfl <| kga xH rfl (fun (o7 : Bool) => [(16, (Bo o7))]) (rd 3 [(11, (V.fn a1_fid [] [V.pro a1_c0])), (12, (j8 a0)), (13, (I x4))] rfl rfl <| rp rfl (i6 (e := j9) rfl rfl rfl underlying46 rfl (by decide)) fun v5 => bd 5 [(14, (Pr (j9 v5))), (15, (j9 v5))] rfl rfl <| rs rfl (f9 rfl rfl rfl rfl rfl (a1_hok k v5) (.inl rfl)) fun v6 => b5 rfl) fun o7 => kcl rfl rfl (fun hc => ?_) fun hc => ?_
   ·rw [hc]
    refine kr ⟨[(4, (I x4))], [], 19⟩ rfl <| et d9 <| et j7 <| et j6 <| et (hret _) ?_
    rfl
   ·rw [hc]
    exact et l9 <| et i3 <| kl ⟨[(0, (j8 a0)), (1, (V.fn a1_fid [] [V.pro a1_c0])), (7, (I (a0.length : Int))), (8, (I (Go.IntKind.wrap .i64 (x4 + 1))))], [], 19⟩ rfl <| et d8 <| ih (Go.IntKind.wrap .i64 (x4 + 1))
  ·rw [hc]
   exact et n8 <| et j1 <| hK0 x4
theorem Y8 (k : Nat) (a0 : (List d6)) (a1 : Nat → d6 → Option Bool) (a1_fid : Go.FuncId) (a1_c0 : V) (a1_hok : ∀ j x0, EV j a1_fid [(j9 x0), V.pro a1_c0] = (a1 j x0).map fun b => ((Bo b), [])) : EV k 133 [(j8 a0), (V.fn a1_fid [] [V.pro a1_c0])] = (B4 k a0 a1).map M3 := by
 cases k with
 | zero => rfl
 | succ k =>
  unfold B4
  refine et (i2 (c := FX) (N := 19) (regs := xJ) rfl func133 rfl (by decide) rfl rfl rfl) <| kra [] rfl <| et b6 <| krp xG rfl ⟨[(0, (j8 a0)), (1, (V.fn a1_fid [] [V.pro a1_c0])), (7, (I (a0.length : Int))), (8, (I 0))], [], 19⟩ ?_ ?_
  ·exact rd 1 [(6, (j8 a0))] rfl rfl <| rl rfl (m8 (e := j9) rfl rfl rfl rfl rfl rfl underlying46) <| b5 rfl
  refine et (i4 rfl) <| et p3 ?_
  refine dc k a0 a1 a1_fid a1_c0 a1_hok _ _ ?h_slices_IndexFunc_Field_L1_0 ?hr_slices_IndexFunc_Field_L1 k 0
  ·intro y8
   refine et j3 <| kr ⟨[(4, (I (-1)))], [], 19⟩ rfl <| et d9 ?_
   rfl
  ·intro s; exact rfl
def cu : Bool → V × List V := fun r => ((Bo r), [])
theorem cY (k : Nat) (a0 : (List d6)) (a1 : Nat → d6 → Option Bool) (a1_fid : Go.FuncId) (a1_c0 : V) (a1_hok : ∀ j x0, EV j a1_fid [(j9 x0), V.pro a1_c0] = (a1 j x0).map fun b => ((Bo b), [])) : EV k 127 [(j8 a0), (V.fn a1_fid [] [V.pro a1_c0])] = (y9 k a0 a1).map cu := by
 cases k with
 | zero => rfl
 | succ k =>
  unfold y9
  refine et (i2 (c := FT) (N := 9) (regs := AV) rfl func127 rfl (by decide) rfl rfl rfl) <| kra [] rfl <| kg xB rfl (fun (o2 : Bool) => ⟨[(4, (Bo o2))], [], 9⟩) (rd 2 [(5, (j8 a0)), (6, (V.fn a1_fid [] [V.pro a1_c0]))] rfl rfl <| rp rfl (f9 rfl rfl rfl rfl rfl (Y8 k a0 a1 a1_fid a1_c0 a1_hok) (.inl rfl)) fun v1 => b5 rfl) fun o2 => et d9 ?_
  rfl
def jl : Bool → V × List V := fun r => ((Bo r), [])
theorem jJ (k : Nat) (a0 : d6) (a1 : d6) : EV k 128 [(j9 a0), (Pr (j9 a1))] = (S7 k a0 a1).map jl := by
 cases k with
 | zero => rfl
 | succ k =>
  unfold S7
  refine et (i2 (c := FU) (N := 9) (regs := AW) rfl func128 rfl (by decide) rfl rfl rfl) <| kr ⟨[(1, (Pr (j9 a1))), (2, (Pt 2))], [(2, vS 3 (j9 a0))], 9⟩ rfl <| kr ⟨[(3, (Bo (a0.fName == a1.fName)))], [], 9⟩ rfl <| et d9 ?_
  rfl
def aK : Bool → V × List V := fun r => ((Bo r), [])
theorem jm (k : Nat) (a0 : (List d6)) (a1 : Int)  (K0 : Int → Option Bool) (Kst : X × St → Option (V × List V)) (hK0 : ∀ (y0 : Int), Kst (X.exit 0, ⟨[(0, (j8 a0)), (1, (I a1)), (7, (j8 a0)), (8, (I (a0.length : Int))), (9, (I y0)), (10, (Bo false))], [], 52⟩) = (K0 y0).map aK) (hret : ∀ s, Kst (X.ret, s) = D4 prog 52 [(j8 a0), (I a1)] [] [.tmp 4] (X.ret, s)) :
  ∀ (m : Nat) (x8 : Int), (B5 (s7 prog (EV k) wT k wS) m ⟨[(0, (j8 a0)), (1, (I a1)), (7, (j8 a0)), (8, (I (a0.length : Int))), (9, (I x8))], [], 52⟩).bind Kst = (F9 k a0 a1 K0 m x8).map aK := by
 intro m
 induction m with
 | zero => intros; rfl
 | succ m ih =>
  intro x8
  unfold F9
  refine et l8 <| kra [(10, (Bo (decide (x8 < (a0.length : Int)))))] rfl <| kc rfl rfl (fun hc => ?_) fun hc => ?_
  ·rw [hc]
   refine et d7 <| et (i4 rfl) <| kg wO rfl (fun (o10 : Int × d6) => ⟨[(0, (j8 a0)), (1, (I a1)), (5, (I o10.1)), (6, (Pt 6)), (7, (j8 a0)), (8, (I (a0.length : Int))), (9, (I x8))], [(6, vS 3 (j9 o10.2))], 52⟩) (rd 1 [(11, (I x8))] rfl rfl <| rp rfl (i6 (e := j9) rfl rfl rfl underlying46 rfl (by decide)) fun v9 => b5 rfl) fun o10 => et b6 <| kga wP rfl (fun (o12 : Bool) => [(42, (Bo o12))]) ?_ fun o12 => ?_
   ·refine rd 2 [(14, (Pt 6)), (15, (Sr o10.2.fName))] rfl rfl <| rp rfl (f9 rfl rfl rfl rfl rfl (bR k o10.2.fName) (.inl rfl)) fun v11 => bd 5 [(16, (Bo v11)), (17, (Bo (!v11))), (18, (Bo (!v11)))] rfl rfl <| m9 (fun hc => ?_) fun hc => ?_
    ·rw [hc]
     exact c9 rfl
    ·rw [hc]
     refine rd 10 [(19, (V.ptr 6 0 1)), (20, (I o10.2.fAt)), (21, (Bo (decide (o10.2.fAt < 0)))), (22, (Bo (decide (o10.2.fAt < 0)))), (23, (Bo (decide (o10.2.fAt < 0))))] rfl rfl <| m9 (fun hc => ?_) fun hc => ?_
     ·rw [hc]
      exact c9 rfl
     ·rw [hc]
      refine rd 16 [(24, (V.ptr 6 0 1)), (25, (I o10.2.fAt)), (26, (I a1)), (27, (Bo (decide (o10.2.fAt ≥ a1)))), (28, (Bo (decide (o10.2.fAt ≥ a1)))), (29, (Bo (decide (o10.2.fAt ≥ a1))))] rfl rfl <| m9 (fun hc => ?_) fun hc => ?_
      ·rw [hc]
       exact c9 rfl
      ·rw [hc]
       refine rd 21 [(30, (V.ptr 6 0 2)), (31, (I o10.2.fBytes)), (32, (Bo (decide (o10.2.fBytes < 1)))), (33, (Bo (decide (o10.2.fBytes < 1)))), (34, (Bo (decide (o10.2.fBytes < 1))))] rfl rfl <| m9 (fun hc => ?_) fun hc => ?_
       ·rw [hc]
        exact c9 rfl
       ·rw [hc]
        exact c9 rfl
   refine kc rfl rfl (fun hc => ?_) fun hc => ?_
   ·rw [hc]
    refine et b6 <| kr ⟨[(4, (Bo false))], [], 52⟩ rfl <| et p8 <| et j7 <| et j6 <| et (hret _) ?_
    rfl
   ·rw [hc]
    refine et d7 <| kg wQ rfl (fun (o15 : Bool) => ⟨[(0, (j8 a0)), (1, (I a1)), (7, (j8 a0)), (8, (I (a0.length : Int))), (9, (I x8)), (47, (Bo o15))], [], 52⟩) (rd 2 [(43, (j8 a0)), (44, (I o10.1))] rfl rfl <| rp rfl (ru (e := j9) rfl rfl rfl rfl rfl rfl underlying46 rfl (by decide)) fun v13 => bd 4 [(45, (j8 v13)), (46, (V.fn 128 [] [(Pt 6)]))] rfl rfl <| rs rfl (f9 rfl rfl rfl rfl rfl (cY k v13 (fun j x0 => (S7 j x0 o10.2)) 128 (j9 o10.2) (fun j x0 => (jJ j x0 o10.2))) (.inr (fun _ => rfl))) fun v14 => b5 rfl) fun o15 => kcl rfl rfl (fun hc => ?_) fun hc => ?_
    ·rw [hc]
     refine kr ⟨[(4, (Bo false))], [], 52⟩ rfl <| et d9 <| et j7 <| et j6 <| et (hret _) ?_
     rfl
    ·rw [hc]
     exact et l9 <| et i3 <| kl ⟨[(0, (j8 a0)), (1, (I a1)), (7, (j8 a0)), (8, (I (a0.length : Int))), (9, (I (Go.IntKind.wrap .i64 (x8 + 1))))], [], 52⟩ rfl <| et d8 <| ih (Go.IntKind.wrap .i64 (x8 + 1))
  ·rw [hc]
   exact et n8 <| et j1 <| hK0 x8
theorem lW (k : Nat) (a0 : (List d6)) (a1 : Int) : EV k 113 [(j8 a0), (I a1)] = (Z1 k a0 a1).map aK := by
 cases k with
 | zero => rfl
 | succ k =>
  unfold Z1
  refine et (i2 (c := FH) (N := 52) (regs := wT) rfl func113 rfl (by decide) rfl rfl rfl) <| kra [] rfl <| et b6 <| krp wN rfl ⟨[(0, (j8 a0)), (1, (I a1)), (7, (j8 a0)), (8, (I (a0.length : Int))), (9, (I 0))], [], 52⟩ ?_ ?_
  ·exact rd 1 [(7, (j8 a0))] rfl rfl <| rl rfl (m8 (e := j9) rfl rfl rfl rfl rfl rfl underlying46) <| b5 rfl
  refine et (i4 rfl) <| et p3 ?_
  refine jm k a0 a1 _ _ ?h_dbd_areFields_L1_0 ?hr_dbd_areFields_L1 k 0
  ·intro y16
   refine et j3 <| krp wR rfl ⟨[(4, (Bo (decide ((a0.length : Int) ≤ 5))))], [], 52⟩ ?_ ?_
   ·exact rd 1 [(49, (j8 a0))] rfl rfl <| rl rfl (m8 (e := j9) rfl rfl rfl rfl rfl rfl underlying46) <| b5 rfl
   refine et d9 ?_
   rfl
  ·intro s; exact rfl
def ob : Bool → V × List V := fun r => ((Bo r), [])
theorem pC (k : Nat) (a0 : b7) : EV k 80 [(i9 a0)] = (dV k a0).map ob := by
 cases k with
 | zero => rfl
 | succ k =>
  unfold dV
  refine et (i2 (c := f80c) (N := 70) (regs := GO) rfl func80 rfl (by decide) rfl rfl rfl) <| kr ⟨[(1, (Pt 1))], [(1, vS 8 (i9 a0))], 70⟩ rfl <| et (i4 rfl) <| kga DQ rfl (fun (o3 : Bool) => [(3, (Bo o3))]) ?_ fun o3 => ?_
  ·refine rd 2 [(4, (Pt 1)), (5, (Sr a0.fName))] rfl rfl <| rp rfl (f9 rfl rfl rfl rfl rfl (bR k a0.fName) (.inl rfl)) fun v1 => bd 5 [(6, (Bo v1)), (7, (Bo (!v1))), (8, (Bo (!v1)))] rfl rfl <| m9 (fun hc => ?_) fun hc => ?_
   ·rw [hc]
    exact c9 rfl
   ·rw [hc]
    refine rd 10 [(9, (V.ptr 1 0 2)), (10, (I a0.fMin)), (11, (Bo (decide (a0.fMin < 1)))), (12, (Bo (decide (a0.fMin < 1)))), (13, (Bo (decide (a0.fMin < 1))))] rfl rfl <| m9 (fun hc => ?_) fun hc => ?_
    ·rw [hc]
     exact c9 rfl
    ·rw [hc]
     refine rd 17 [(14, (V.ptr 1 0 2)), (15, (I a0.fMin)), (16, (V.ptr 1 0 3)), (17, (I a0.fSize)), (18, (Bo (decide (a0.fMin > a0.fSize)))), (19, (Bo (decide (a0.fMin > a0.fSize)))), (20, (Bo (decide (a0.fMin > a0.fSize))))] rfl rfl <| m9 (fun hc => ?_) fun hc => ?_
     ·rw [hc]
      exact c9 rfl
     ·rw [hc]
      refine rd 22 [(21, (V.ptr 1 0 3)), (22, (I a0.fSize)), (23, (Bo (decide (a0.fSize > 40)))), (24, (Bo (decide (a0.fSize > 40)))), (25, (Bo (decide (a0.fSize > 40))))] rfl rfl <| m9 (fun hc => ?_) fun hc => ?_
      ·rw [hc]
       exact c9 rfl
      ·rw [hc]
       exact rd 26 [(26, (V.ptr 1 0 4)), (27, (j8 a0.fFields)), (28, (V.ptr 1 0 3)), (29, (I a0.fSize))] rfl rfl <| rp rfl (f9 rfl rfl rfl rfl rfl (lW k a0.fFields a0.fSize) (.inl rfl)) fun v2 => b5 rfl
  refine kcl rfl rfl (fun hc => ?_) fun hc => ?_
  ·rw [hc]
   refine kr ⟨[(2, (Bo false))], [], 70⟩ rfl <| et d9 <| et j7 ?_
   rfl
  ·rw [hc]
   refine kr ⟨[(1, (Pt 1)), (33, (Bo (a0.fKey == (-1))))], [(1, vS 8 (i9 a0))], 70⟩ rfl <| kcl rfl rfl (fun hc => ?_) fun hc => ?_
   ·rw [hc]
    refine kr ⟨[(2, (Bo (!a0.fUnique)))], [], 70⟩ rfl <| et d9 <| et j7 ?_
    rfl
   ·rw [hc]
    refine kg DR rfl (fun (o4 : Bool) => ⟨[(1, (Pt 1)), (40, (Bo o4))], [(1, vS 8 (i9 a0))], 70⟩) ?_ fun o4 => ?_
    ·refine rd 4 [(41, (V.ptr 1 0 5)), (42, (I a0.fKey)), (43, (Bo (decide (a0.fKey < 0)))), (44, (Bo (decide (a0.fKey < 0))))] rfl rfl <| m9 (fun hc => ?_) fun hc => ?_
     ·rw [hc]
      exact c9 rfl
     ·rw [hc]
      exact rd 8 [(45, (V.ptr 1 0 5)), (46, (I a0.fKey)), (47, (V.ptr 1 0 4)), (48, (j8 a0.fFields))] rfl rfl <| rl rfl (m8 (e := j9) rfl rfl rfl rfl rfl rfl underlying46) <| b5 rfl
    refine kcl rfl rfl (fun hc => ?_) fun hc => ?_
    ·rw [hc]
     refine kr ⟨[(2, (Bo false))], [], 70⟩ rfl <| et d9 <| et j7 ?_
     rfl
    ·rw [hc]
     refine et l9 <| et i3 <| kd DS rfl (fun (o7 : Bool) => ⟨[(2, (Bo o7))], [], 70⟩) (et (j4 (p := 19) (dk := true) (t := [(1, (Pt 1)), (40, (Bo false))]) (σ := [(1, vS 8 (i9 a0))]) (n := 70) rfl (by decide) (by decide) rfl) <| et (l5 (m := 4) (j := 4) (t' := [(1, (Pt 1)), (40, (Bo false)), (52, (V.ptr 1 0 4)), (53, (j8 a0.fFields)), (54, (V.ptr 1 0 5)), (55, (I a0.fKey))]) rfl rfl rfl) <| et (d5 (x := (idx a0.fFields a0.fKey)) (w := fun v5 => (Pr (j9 v5))) rfl rfl rfl rfl rfl (i6 (e := j9) rfl rfl rfl underlying46 rfl (by decide))) <| n5 fun v5 => et (k0 (m := 6) (j := 11) (t' := [(1, (Pt 1)), (40, (Bo false)), (52, (V.ptr 1 0 4)), (53, (j8 a0.fFields)), (54, (V.ptr 1 0 5)), (55, (I a0.fKey)), (56, (Pr (j9 v5))), (57, (Pr (I v5.fAt))), (58, (I v5.fAt)), (59, (V.ptr 1 0 4)), (60, (j8 a0.fFields)), (61, (V.ptr 1 0 5)), (62, (I a0.fKey))]) rfl rfl rfl) <| et (d5 (x := (idx a0.fFields a0.fKey)) (w := fun v6 => (Pr (j9 v6))) rfl rfl rfl rfl rfl (i6 (e := j9) rfl rfl rfl underlying46 rfl (by decide))) <| n5 fun v6 => l6 rfl) fun o7 => et d9 ?_
     rfl
def N0 : Int → V × List V := fun r => ((I r), [])
theorem dF (k : Nat) (a0 : (List b7)) (a1 : Nat → b7 → Option Bool) (a1_fid : Go.FuncId) (a1_c0 : V) (a1_hok : ∀ j x0, EV j a1_fid [(i9 x0), V.pro a1_c0] = (a1 j x0).map fun b => ((Bo b), [])) (K0 : Int → Option Int) (Kst : X × St → Option (V × List V)) (hK0 : ∀ (y0 : Int), Kst (X.exit 0, ⟨[(0, (l7 a0)), (1, (V.fn a1_fid [] [V.pro a1_c0])), (7, (I (a0.length : Int))), (8, (I y0)), (9, (Bo false))], [], 19⟩) = (K0 y0).map N0) (hret : ∀ s, Kst (X.ret, s) = D4 prog 19 [(l7 a0), (V.fn a1_fid [] [V.pro a1_c0])] [] [.tmp 4] (X.ret, s)) :
  ∀ (m : Nat) (x4 : Int), (B5 (s7 prog (EV k) Fd k Ec) m ⟨[(0, (l7 a0)), (1, (V.fn a1_fid [] [V.pro a1_c0])), (7, (I (a0.length : Int))), (8, (I x4))], [], 19⟩).bind Kst = (C5 k a0 a1 K0 m x4).map N0 := by
 intro m
 induction m with
 | zero => intros; rfl
 | succ m ih =>
  intro x4
  unfold C5
  refine et l8 <| kra [(9, (Bo (decide (x4 < (a0.length : Int)))))] rfl <| kc rfl rfl (fun hc => ?_) fun hc => ?_
  ·rw [hc]
   refine et d7 <| et (i4 rfl) <| kr ⟨[(0, (l7 a0)), (1, (V.fn a1_fid [] [V.pro a1_c0])), (5, (I x4)), (7, (I (a0.length : Int))), (8, (I x4))], [], 19⟩ rfl <| kga Eb rfl (fun (o7 : Bool) => [(16, (Bo o7))]) (rd 3 [(11, (V.fn a1_fid [] [V.pro a1_c0])), (12, (l7 a0)), (13, (I x4))] rfl rfl <| rp rfl (i6 (e := i9) rfl rfl rfl underlying22 rfl (by decide)) fun v5 => bd 5 [(14, (Pr (i9 v5))), (15, (i9 v5))] rfl rfl <| rs rfl (f9 rfl rfl rfl rfl rfl (a1_hok k v5) (.inl rfl)) fun v6 => b5 rfl) fun o7 => kcl rfl rfl (fun hc => ?_) fun hc => ?_
   ·rw [hc]
    refine kr ⟨[(4, (I x4))], [], 19⟩ rfl <| et d9 <| et j7 <| et j6 <| et (hret _) ?_
    rfl
   ·rw [hc]
    exact et l9 <| et i3 <| kl ⟨[(0, (l7 a0)), (1, (V.fn a1_fid [] [V.pro a1_c0])), (7, (I (a0.length : Int))), (8, (I (Go.IntKind.wrap .i64 (x4 + 1))))], [], 19⟩ rfl <| et d8 <| ih (Go.IntKind.wrap .i64 (x4 + 1))
  ·rw [hc]
   exact et n8 <| et j1 <| hK0 x4
theorem Z9 (k : Nat) (a0 : (List b7)) (a1 : Nat → b7 → Option Bool) (a1_fid : Go.FuncId) (a1_c0 : V) (a1_hok : ∀ j x0, EV j a1_fid [(i9 x0), V.pro a1_c0] = (a1 j x0).map fun b => ((Bo b), [])) : EV k 92 [(l7 a0), (V.fn a1_fid [] [V.pro a1_c0])] = (C2 k a0 a1).map N0 := by
 cases k with
 | zero => rfl
 | succ k =>
  unfold C2
  refine et (i2 (c := f92c) (N := 19) (regs := Fd) rfl func92 rfl (by decide) rfl rfl rfl) <| kra [] rfl <| et b6 <| krp Ea rfl ⟨[(0, (l7 a0)), (1, (V.fn a1_fid [] [V.pro a1_c0])), (7, (I (a0.length : Int))), (8, (I 0))], [], 19⟩ ?_ ?_
  ·exact rd 1 [(6, (l7 a0))] rfl rfl <| rl rfl (m8 (e := i9) rfl rfl rfl rfl rfl rfl underlying22) <| b5 rfl
  refine et (i4 rfl) <| et p3 ?_
  refine dF k a0 a1 a1_fid a1_c0 a1_hok _ _ ?h_slices_IndexFunc_Type_L1_0 ?hr_slices_IndexFunc_Type_L1 k 0
  ·intro y8
   refine et j3 <| kr ⟨[(4, (I (-1)))], [], 19⟩ rfl <| et d9 ?_
   rfl
  ·intro s; exact rfl
def db : Bool → V × List V := fun r => ((Bo r), [])
theorem dB (k : Nat) (a0 : (List b7)) (a1 : Nat → b7 → Option Bool) (a1_fid : Go.FuncId) (a1_c0 : V) (a1_hok : ∀ j x0, EV j a1_fid [(i9 x0), V.pro a1_c0] = (a1 j x0).map fun b => ((Bo b), [])) : EV k 81 [(l7 a0), (V.fn a1_fid [] [V.pro a1_c0])] = (A1 k a0 a1).map db := by
 cases k with
 | zero => rfl
 | succ k =>
  unfold A1
  refine et (i2 (c := f81c) (N := 9) (regs := GP) rfl func81 rfl (by decide) rfl rfl rfl) <| kra [] rfl <| kg DT rfl (fun (o2 : Bool) => ⟨[(4, (Bo o2))], [], 9⟩) (rd 2 [(5, (l7 a0)), (6, (V.fn a1_fid [] [V.pro a1_c0]))] rfl rfl <| rp rfl (f9 rfl rfl rfl rfl rfl (Z9 k a0 a1 a1_fid a1_c0 a1_hok) (.inl rfl)) fun v1 => b5 rfl) fun o2 => et d9 ?_
  rfl
def jL : Bool → V × List V := fun r => ((Bo r), [])
theorem kJ (k : Nat) (a0 : b7) (a1 : b7) : EV k 82 [(i9 a0), (Pr (i9 a1))] = (V0 k a0 a1).map jL := by
 cases k with
 | zero => rfl
 | succ k =>
  unfold V0
  refine et (i2 (c := f82c) (N := 9) (regs := GQ) rfl func82 rfl (by decide) rfl rfl rfl) <| kr ⟨[(1, (Pr (i9 a1))), (2, (Pt 2))], [(2, vS 8 (i9 a0))], 9⟩ rfl <| kr ⟨[(3, (Bo (a0.fName == a1.fName)))], [], 9⟩ rfl <| et d9 ?_
  rfl
def W8 : Int → V × List V := fun r => ((I r), [])
theorem gG (k : Nat) (a0 : (List Int)) (a1 : Int)  (K0 : Int → Option Int) (Kst : X × St → Option (V × List V)) (hK0 : ∀ (y0 : Int), Kst (X.exit 0, ⟨[(0, (sI a0)), (1, (I a1)), (7, (I (a0.length : Int))), (8, (I y0)), (9, (Bo false))], [], 19⟩) = (K0 y0).map W8) (hret : ∀ s, Kst (X.ret, s) = D4 prog 19 [(sI a0), (I a1)] [] [.tmp 4] (X.ret, s)) :
  ∀ (m : Nat) (x3 : Int), (B5 (s7 prog (EV k) EZ k DW) m ⟨[(0, (sI a0)), (1, (I a1)), (7, (I (a0.length : Int))), (8, (I x3))], [], 19⟩).bind Kst = (I8 a0 a1 K0 m x3).map W8 := by
 intro m
 induction m with
 | zero => intros; rfl
 | succ m ih =>
  intro x3
  unfold I8
  refine et l8 <| kra [(9, (Bo (decide (x3 < (a0.length : Int)))))] rfl <| kc rfl rfl (fun hc => ?_) fun hc => ?_
  ·rw [hc]
   refine et d7 <| et (i4 rfl) <| kr ⟨[(0, (sI a0)), (1, (I a1)), (5, (I x3)), (7, (I (a0.length : Int))), (8, (I x3))], [], 19⟩ rfl <| kga DV rfl (fun (o5 : Bool) => [(16, (Bo o5))]) (rd 3 [(11, (I a1)), (12, (sI a0)), (13, (I x3))] rfl rfl <| rp rfl (i6 (e := I) rfl rfl rfl underlying58 rfl (by decide)) fun v4 => b5 rfl) fun o5 => kcl rfl rfl (fun hc => ?_) fun hc => ?_
   ·rw [hc]
    refine kr ⟨[(4, (I x3))], [], 19⟩ rfl <| et d9 <| et j7 <| et j6 <| et (hret _) ?_
    rfl
   ·rw [hc]
    exact et l9 <| et i3 <| kl ⟨[(0, (sI a0)), (1, (I a1)), (7, (I (a0.length : Int))), (8, (I (Go.IntKind.wrap .i64 (x3 + 1))))], [], 19⟩ rfl <| et d8 <| ih (Go.IntKind.wrap .i64 (x3 + 1))
  ·rw [hc]
   exact et n8 <| et j1 <| hK0 x3
theorem dp (k : Nat) (a0 : (List Int)) (a1 : Int) : EV k 83 [(sI a0), (I a1)] = (R3 k a0 a1).map W8 := by
 cases k with
 | zero => rfl
 | succ k =>
  unfold R3
  refine et (i2 (c := f83c) (N := 19) (regs := EZ) rfl func83 rfl (by decide) rfl rfl rfl) <| kra [] rfl <| et b6 <| krp DU rfl ⟨[(0, (sI a0)), (1, (I a1)), (7, (I (a0.length : Int))), (8, (I 0))], [], 19⟩ ?_ ?_
  ·exact rd 1 [(6, (sI a0))] rfl rfl <| rl rfl (m8 (e := I) rfl rfl rfl rfl rfl rfl underlying58) <| b5 rfl
  refine et (i4 rfl) <| et p3 ?_
  refine gG k a0 a1 _ _ ?h_slices_Index_int_L1_0 ?hr_slices_Index_int_L1 k 0
  ·intro y6
   refine et j3 <| kr ⟨[(4, (I (-1)))], [], 19⟩ rfl <| et d9 ?_
   rfl
  ·intro s; exact rfl
def bq : Bool → V × List V := fun r => ((Bo r), [])
theorem jM (k : Nat) (a0 : (List b7))  (K0 : Int → (List Int) → Option Bool) (Kst : X × St → Option (V × List V)) (hK0 : ∀ (y0 : Int) (y1 : (List Int)), Kst (X.exit 0, ⟨[(0, (l7 a0)), (3, (aL 3 I y1)), (15, (l7 a0)), (16, (I (a0.length : Int))), (17, (I y0)), (18, (Bo false))], [(3, ⟨true, 1, List.map I y1⟩)], 82⟩) = (K0 y0 y1).map bq) (hret : ∀ s, Kst (X.ret, s) = D4 prog 82 [(l7 a0)] [] [.tmp 2] (X.ret, s)) :
  ∀ (m : Nat) (x15 : Int) (x16 : (List Int)), (B5 (s7 prog (EV k) EP k CI) m ⟨[(0, (l7 a0)), (3, (aL 3 I x16)), (15, (l7 a0)), (16, (I (a0.length : Int))), (17, (I x15))], [(3, ⟨true, 1, List.map I x16⟩)], 82⟩).bind Kst = (H6 k a0 K0 m x15 x16).map bq := by
 intro m
 induction m with
 | zero => intros; rfl
 | succ m ih =>
  intro x15 x16
  unfold H6
  refine et l8 <| kra [(18, (Bo (decide (x15 < (a0.length : Int)))))] rfl <| kc rfl rfl (fun hc => ?_) fun hc => ?_
  ·rw [hc]
   refine et d7 <| et (i4 rfl) <| kg CF rfl (fun (o18 : Int × b7) => ⟨[(0, (l7 a0)), (3, (aL 3 I x16)), (4, (I o18.1)), (5, (Pt 5)), (15, (l7 a0)), (16, (I (a0.length : Int))), (17, (I x15))], [(3, ⟨true, 1, List.map I x16⟩), (5, vS 8 (i9 o18.2))], 82⟩) (rd 1 [(19, (I x15))] rfl rfl <| rp rfl (i6 (e := i9) rfl rfl rfl underlying22 rfl (by decide)) fun v17 => b5 rfl) fun o18 => et b6 <| kga CG rfl (fun (o22 : Bool) => [(31, (Bo o22))]) ?_ fun o22 => ?_
   ·refine rd 1 [(22, (i9 o18.2))] rfl rfl <| rp rfl (f9 rfl rfl rfl rfl rfl (pC k o18.2) (.inl rfl)) fun v19 => bd 4 [(23, (Bo v19)), (24, (Bo (!v19))), (25, (Bo (!v19)))] rfl rfl <| m9 (fun hc => ?_) fun hc => ?_
    ·rw [hc]
     exact c9 rfl
    ·rw [hc]
     exact rd 6 [(26, (l7 a0)), (27, (I o18.1))] rfl rfl <| rp rfl (ru (e := i9) rfl rfl rfl rfl rfl rfl underlying22 rfl (by decide)) fun v20 => bd 8 [(28, (l7 v20)), (29, (V.fn 82 [] [(Pt 5)]))] rfl rfl <| rs rfl (f9 rfl rfl rfl rfl rfl (dB k v20 (fun j x0 => (V0 j x0 o18.2)) 82 (i9 o18.2) (fun j x0 => (kJ j x0 o18.2))) (.inr (fun _ => rfl))) fun v21 => b5 rfl
   refine kc rfl rfl (fun hc => ?_) fun hc => ?_
   ·rw [hc]
    refine et b6 <| kr ⟨[(2, (Bo false))], [], 82⟩ rfl <| et p8 <| et j7 <| et j6 <| et (hret _) ?_
    rfl
   ·rw [hc]
    refine et d7 <| kg CH rfl (fun (o24 : Int) => ⟨[(0, (l7 a0)), (3, (aL 3 I x16)), (4, (I o18.1)), (5, (Pt 5)), (6, (I o24)), (15, (l7 a0)), (16, (I (a0.length : Int))), (17, (I x15))], [(3, ⟨true, 1, List.map I x16⟩), (5, vS 8 (i9 o18.2))], 82⟩) (rd 3 [(32, (aL 3 I x16)), (33, (V.ptr 5 0 1)), (34, (I o18.2.fParent))] rfl rfl <| rs rfl (f9 rfl rfl rfl rfl (pQ (Ex (e := I) rfl) (by intro s i q h; cases h) (pQ rfl (by intro s i q h; cases h) rfl)) (dp k x16 o18.2.fParent) (.inr (fun _ => rfl))) fun v23 => b5 rfl) fun o24 => et b6 <| kg yi rfl (fun (o26 : Bool) => ⟨[(0, (l7 a0)), (3, (aL 3 I x16)), (4, (I o18.1)), (6, (I o24)), (15, (l7 a0)), (16, (I (a0.length : Int))), (17, (I x15)), (70, (Bo o26))], [(3, ⟨true, 1, List.map I x16⟩)], 82⟩) ?_ fun o26 => ?_
    ·refine rd 3 [(36, (I o18.1)), (37, (Bo (o18.1 == 0))), (38, (Bo (o18.1 == 0)))] rfl rfl <| m9 (fun hc => ?_) fun hc => ?_
     ·rw [hc]
      refine rd 7 [(39, (V.ptr 5 0 1)), (40, (I o18.2.fParent)), (41, (Bo (o18.2.fParent != (-1)))), (42, (Bo (o18.2.fParent != (-1))))] rfl rfl <| m9 (fun hc => ?_) fun hc => ?_
      ·rw [hc]
       exact c9 rfl
      ·rw [hc]
       refine rd 12 [(43, (V.ptr 5 0 5)), (44, (I o18.2.fKey)), (45, (Bo (decide (o18.2.fKey < 0)))), (46, (Bo (decide (o18.2.fKey < 0)))), (47, (Bo (decide (o18.2.fKey < 0))))] rfl rfl <| m9 (fun hc => ?_) fun hc => ?_
       ·rw [hc]
        exact c9 rfl
       ·rw [hc]
        refine rd 17 [(48, (V.ptr 5 0 6)), (49, (Bo o18.2.fUnique)), (50, (Bo (!o18.2.fUnique))), (51, (Bo (!o18.2.fUnique))), (52, (Bo (!o18.2.fUnique)))] rfl rfl <| m9 (fun hc => ?_) fun hc => ?_
        ·rw [hc]
         exact c9 rfl
        ·rw [hc]
         refine rd 21 [(53, (V.ptr 5 0 4)), (54, (j8 o18.2.fFields)), (55, (V.ptr 5 0 5)), (56, (I o18.2.fKey))] rfl rfl <| rp rfl (i6 (e := j9) rfl rfl rfl underlying46 rfl (by decide)) fun v25 => bd 28 [(57, (Pr (j9 v25))), (58, (Pr (I v25.fBytes))), (59, (I v25.fBytes)), (60, (Bo (decide (v25.fBytes > 24)))), (61, (Bo (decide (v25.fBytes > 24)))), (62, (Bo (decide (v25.fBytes > 24)))), (63, (Bo (decide (v25.fBytes > 24))))] rfl rfl <| m9 (fun hc => ?_) fun hc => ?_
         ·rw [hc]
          exact c9 rfl
         ·rw [hc]
          refine rd 31 [(64, (I o18.1)), (65, (Bo (decide (o18.1 > 0)))), (66, (Bo (decide (o18.1 > 0))))] rfl rfl <| m9 (fun hc => ?_) fun hc => ?_
          ·rw [hc]
           exact c9 rfl
          ·rw [hc]
           exact c9 rfl
     ·rw [hc]
      refine rd 31 [(39, (V.tup [])), (40, (V.tup [])), (41, (V.tup [])), (42, (V.tup [])), (43, (V.tup [])), (44, (V.tup [])), (45, (V.tup [])), (46, (V.tup [])), (47, (V.tup [])), (48, (V.tup [])), (49, (V.tup [])), (50, (V.tup [])), (51, (V.tup [])), (52, (V.tup [])), (53, (V.tup [])), (54, (V.tup [])), (55, (V.tup [])), (56, (V.tup [])), (57, (V.tup [])), (58, (V.tup [])), (59, (V.tup [])), (60, (V.tup [])), (61, (V.tup [])), (62, (Bo false)), (63, (Bo false)), (64, (I o18.1)), (65, (Bo (decide (o18.1 > 0)))), (66, (Bo (decide (o18.1 > 0))))] rfl rfl <| m9 (fun hc => ?_) fun hc => ?_
      ·rw [hc]
       exact c9 rfl
      ·rw [hc]
       exact c9 rfl
    refine kc rfl rfl (fun hc => ?_) fun hc => ?_
    ·rw [hc]
     refine et b6 <| kr ⟨[(2, (Bo false))], [], 82⟩ rfl <| et p8 <| et j7 <| et j6 <| et (hret _) ?_
     rfl
    ·rw [hc]
     refine et d7 <| kg yj rfl (fun (o29 : (List Int)) => ⟨[(0, (l7 a0)), (3, (aL 3 I o29)), (15, (l7 a0)), (16, (I (a0.length : Int))), (17, (I x15))], [(3, ⟨true, 1, List.map I o29⟩)], 82⟩) (rd 3 [(71, (aL 3 I x16)), (72, (I o24)), (73, (I (Go.IntKind.wrap .i64 (o24 + 1))))] rfl rfl <| rx rfl (zn (e := I) rfl rfl rfl underlying58 (by decide)) fun v27 hv27 => bd 6 [(74, (V.aref 3 0 v27)), (75, (I o18.1)), (76, (sI (([o18.1] : List Int))))] rfl rfl <| et (O6 (x := (app (List.take v27 x16) ([o18.1] : List Int))) (w := fun v28 => ((aL 3 I v28), _)) rfl rfl rfl rfl (zi (e := I) (l := x16) rfl rfl rfl rfl rfl rfl rfl rfl rfl rfl rfl (Az hv27) (of_decide_eq_true rfl))) <| F8 fun v28 => b5 rfl) fun o29 => krp yk rfl ⟨[(0, (l7 a0)), (3, (aL 3 I o29)), (15, (l7 a0)), (16, (I (a0.length : Int))), (17, (I x15)), (80, (Bo (decide ((o29.length : Int) > 5))))], [(3, ⟨true, 1, List.map I o29⟩)], 82⟩ ?_ ?_
     ·exact rd 1 [(78, (aL 3 I o29))] rfl rfl <| rl rfl (uo (e := I) rfl rfl rfl rfl rfl rfl underlying58) <| b5 rfl
     refine kcl rfl rfl (fun hc => ?_) fun hc => ?_
     ·rw [hc]
      refine kr ⟨[(2, (Bo false))], [], 82⟩ rfl <| et d9 <| et j7 <| et j6 <| et (hret _) ?_
      rfl
     ·rw [hc]
      exact et l9 <| et i3 <| kl ⟨[(0, (l7 a0)), (3, (aL 3 I o29)), (15, (l7 a0)), (16, (I (a0.length : Int))), (17, (I (Go.IntKind.wrap .i64 (x15 + 1))))], [(3, ⟨true, 1, List.map I o29⟩)], 82⟩ rfl <| et d8 <| ih (Go.IntKind.wrap .i64 (x15 + 1)) o29
  ·rw [hc]
   exact et n8 <| et j1 <| hK0 x15 x16
theorem nr (k : Nat) (a0 : (List b7)) : EV k 51 [(l7 a0)] = (aM k a0).map bq := by
 cases k with
 | zero => rfl
 | succ k =>
  unfold aM
  refine et (i2 (c := f51c) (N := 82) (regs := EP) rfl func51 rfl (by decide) rfl rfl rfl) <| kra [] rfl <| et b6 <| kga CD rfl (fun (o1 : Bool) => [(14, (Bo o1))]) ?_ fun o1 => ?_
  ·refine rd 1 [(7, (l7 a0))] rfl rfl <| rl rfl (m8 (e := i9) rfl rfl rfl rfl rfl rfl underlying22) <| bd 4 [(8, (I (a0.length : Int))), (9, (Bo (decide ((a0.length : Int) < 1)))), (10, (Bo (decide ((a0.length : Int) < 1))))] rfl rfl <| m9 (fun hc => ?_) fun hc => ?_
   ·rw [hc]
    exact c9 rfl
   ·rw [hc]
    exact rd 5 [(11, (l7 a0))] rfl rfl <| rl rfl (m8 (e := i9) rfl rfl rfl rfl rfl rfl underlying22) <| b5 rfl
  refine kc rfl rfl (fun hc => ?_) fun hc => ?_
  ·rw [hc]
   refine et b6 <| kr ⟨[(2, (Bo false))], [], 82⟩ rfl <| et p8 ?_
   rfl
  ·rw [hc]
   refine et d7 <| kr ⟨[(0, (l7 a0)), (3, (aL 3 I ([] : List Int)))], [(3, ⟨true, 1, List.map I ([] : List Int)⟩)], 82⟩ rfl <| et b6 <| krp CE rfl ⟨[(0, (l7 a0)), (3, (aL 3 I ([] : List Int))), (15, (l7 a0)), (16, (I (a0.length : Int))), (17, (I 0))], [(3, ⟨true, 1, List.map I ([] : List Int)⟩)], 82⟩ ?_ ?_
   ·exact rd 1 [(15, (l7 a0))] rfl rfl <| rl rfl (m8 (e := i9) rfl rfl rfl rfl rfl rfl underlying22) <| b5 rfl
   refine et (i4 rfl) <| et p3 ?_
   refine jM k a0 _ _ ?h_dbd_areTypes_L1_0 ?hr_dbd_areTypes_L1 k 0 ([] : List Int)
   ·intro y30 y31
    refine et j3 <| kr ⟨[(2, (Bo true))], [], 82⟩ rfl <| et d9 ?_
    rfl
   ·intro s; exact rfl
def J2 : Int → V × List V := fun r => ((I r), [])
theorem cC (k : Nat) (a0 : (List j0)) (a1 : Nat → j0 → Option Bool) (a1_fid : Go.FuncId) (a1_c0 : V) (a1_hok : ∀ j x0, EV j a1_fid [(p9 x0), V.pro a1_c0] = (a1 j x0).map fun b => ((Bo b), [])) (K0 : Int → Option Int) (Kst : X × St → Option (V × List V)) (hK0 : ∀ (y0 : Int), Kst (X.exit 0, ⟨[(0, (r9 a0)), (1, (V.fn a1_fid [] [V.pro a1_c0])), (7, (I (a0.length : Int))), (8, (I y0)), (9, (Bo false))], [], 19⟩) = (K0 y0).map J2) (hret : ∀ s, Kst (X.ret, s) = D4 prog 19 [(r9 a0), (V.fn a1_fid [] [V.pro a1_c0])] [] [.tmp 4] (X.ret, s)) :
  ∀ (m : Nat) (x4 : Int), (B5 (s7 prog (EV k) wX k wW) m ⟨[(0, (r9 a0)), (1, (V.fn a1_fid [] [V.pro a1_c0])), (7, (I (a0.length : Int))), (8, (I x4))], [], 19⟩).bind Kst = (B0 k a0 a1 K0 m x4).map J2 := by
 intro m
 induction m with
 | zero => intros; rfl
 | succ m ih =>
  intro x4
  unfold B0
  refine et l8 <| kra [(9, (Bo (decide (x4 < (a0.length : Int)))))] rfl <| kc rfl rfl (fun hc => ?_) fun hc => ?_
  ·rw [hc]
   refine et d7 <| et (i4 rfl) <| kr ⟨[(0, (r9 a0)), (1, (V.fn a1_fid [] [V.pro a1_c0])), (5, (I x4)), (7, (I (a0.length : Int))), (8, (I x4))], [], 19⟩ rfl <| kga wV rfl (fun (o7 : Bool) => [(16, (Bo o7))]) (rd 3 [(11, (V.fn a1_fid [] [V.pro a1_c0])), (12, (r9 a0)), (13, (I x4))] rfl rfl <| rp rfl (i6 (e := p9) rfl rfl rfl underlying23 rfl (by decide)) fun v5 => bd 5 [(14, (Pr (p9 v5))), (15, (p9 v5))] rfl rfl <| rs rfl (f9 rfl rfl rfl rfl rfl (a1_hok k v5) (.inl rfl)) fun v6 => b5 rfl) fun o7 => kcl rfl rfl (fun hc => ?_) fun hc => ?_
   ·rw [hc]
    refine kr ⟨[(4, (I x4))], [], 19⟩ rfl <| et d9 <| et j7 <| et j6 <| et (hret _) ?_
    rfl
   ·rw [hc]
    exact et l9 <| et i3 <| kl ⟨[(0, (r9 a0)), (1, (V.fn a1_fid [] [V.pro a1_c0])), (7, (I (a0.length : Int))), (8, (I (Go.IntKind.wrap .i64 (x4 + 1))))], [], 19⟩ rfl <| et d8 <| ih (Go.IntKind.wrap .i64 (x4 + 1))
  ·rw [hc]
   exact et n8 <| et j1 <| hK0 x4
theorem eF (k : Nat) (a0 : (List j0)) (a1 : Nat → j0 → Option Bool) (a1_fid : Go.FuncId) (a1_c0 : V) (a1_hok : ∀ j x0, EV j a1_fid [(p9 x0), V.pro a1_c0] = (a1 j x0).map fun b => ((Bo b), [])) : EV k 114 [(r9 a0), (V.fn a1_fid [] [V.pro a1_c0])] = (H4 k a0 a1).map J2 := by
 cases k with
 | zero => rfl
 | succ k =>
  unfold H4
  refine et (i2 (c := FI) (N := 19) (regs := wX) rfl func114 rfl (by decide) rfl rfl rfl) <| kra [] rfl <| et b6 <| krp wU rfl ⟨[(0, (r9 a0)), (1, (V.fn a1_fid [] [V.pro a1_c0])), (7, (I (a0.length : Int))), (8, (I 0))], [], 19⟩ ?_ ?_
  ·exact rd 1 [(6, (r9 a0))] rfl rfl <| rl rfl (m8 (e := p9) rfl rfl rfl rfl rfl rfl underlying23) <| b5 rfl
  refine et (i4 rfl) <| et p3 ?_
  refine cC k a0 a1 a1_fid a1_c0 a1_hok _ _ ?h_slices_IndexFunc_Search_L1_0 ?hr_slices_IndexFunc_Search_L1 k 0
  ·intro y8
   refine et j3 <| kr ⟨[(4, (I (-1)))], [], 19⟩ rfl <| et d9 ?_
   rfl
  ·intro s; exact rfl
def bI : Bool → V × List V := fun r => ((Bo r), [])
theorem cw (k : Nat) (a0 : (List j0)) (a1 : Nat → j0 → Option Bool) (a1_fid : Go.FuncId) (a1_c0 : V) (a1_hok : ∀ j x0, EV j a1_fid [(p9 x0), V.pro a1_c0] = (a1 j x0).map fun b => ((Bo b), [])) : EV k 84 [(r9 a0), (V.fn a1_fid [] [V.pro a1_c0])] = (w7 k a0 a1).map bI := by
 cases k with
 | zero => rfl
 | succ k =>
  unfold w7
  refine et (i2 (c := f84c) (N := 9) (regs := GR) rfl func84 rfl (by decide) rfl rfl rfl) <| kra [] rfl <| kg DX rfl (fun (o2 : Bool) => ⟨[(4, (Bo o2))], [], 9⟩) (rd 2 [(5, (r9 a0)), (6, (V.fn a1_fid [] [V.pro a1_c0]))] rfl rfl <| rp rfl (f9 rfl rfl rfl rfl rfl (eF k a0 a1 a1_fid a1_c0 a1_hok) (.inl rfl)) fun v1 => b5 rfl) fun o2 => et d9 ?_
  rfl
def im : Bool → V × List V := fun r => ((Bo r), [])
theorem jn (k : Nat) (a0 : j0) (a1 : j0) : EV k 85 [(p9 a0), (Pr (p9 a1))] = (Q5 k a0 a1).map im := by
 cases k with
 | zero => rfl
 | succ k =>
  unfold Q5
  refine et (i2 (c := f85c) (N := 9) (regs := GS) rfl func85 rfl (by decide) rfl rfl rfl) <| kr ⟨[(1, (Pr (p9 a1))), (2, (Pt 2))], [(2, vS 4 (p9 a0))], 9⟩ rfl <| kr ⟨[(3, (Bo (a0.fName == a1.fName)))], [], 9⟩ rfl <| et d9 ?_
  rfl
def al : Bool → V × List V := fun r => ((Bo r), [])
theorem ip (k : Nat) (a0 : (List j0)) (a1 : (List b7))  (K0 : Int → Option Bool) (Kst : X × St → Option (V × List V)) (hK0 : ∀ (y0 : Int), Kst (X.exit 0, ⟨[(0, (r9 a0)), (1, (l7 a1)), (8, (r9 a0)), (9, (I (a0.length : Int))), (10, (I y0)), (11, (Bo false))], [], 73⟩) = (K0 y0).map al) (hret : ∀ s, Kst (X.ret, s) = D4 prog 73 [(r9 a0), (l7 a1)] [] [.tmp 4] (X.ret, s)) :
  ∀ (m : Nat) (x11 : Int), (B5 (s7 prog (EV k) EQ k CO) m ⟨[(0, (r9 a0)), (1, (l7 a1)), (8, (r9 a0)), (9, (I (a0.length : Int))), (10, (I x11))], [], 73⟩).bind Kst = (D6 k a0 a1 K0 m x11).map al := by
 intro m
 induction m with
 | zero => intros; rfl
 | succ m ih =>
  intro x11
  unfold D6
  refine et l8 <| kra [(11, (Bo (decide (x11 < (a0.length : Int)))))] rfl <| kc rfl rfl (fun hc => ?_) fun hc => ?_
  ·rw [hc]
   refine et d7 <| et (i4 rfl) <| kg CK rfl (fun (o13 : Int × j0) => ⟨[(0, (r9 a0)), (1, (l7 a1)), (5, (I o13.1)), (6, (Pt 6)), (8, (r9 a0)), (9, (I (a0.length : Int))), (10, (I x11))], [(6, vS 4 (p9 o13.2))], 73⟩) (rd 1 [(12, (I x11))] rfl rfl <| rp rfl (i6 (e := p9) rfl rfl rfl underlying23 rfl (by decide)) fun v12 => b5 rfl) fun o13 => et b6 <| kg CL rfl (fun (o17 : Bool) => ⟨[(0, (r9 a0)), (1, (l7 a1)), (6, (Pt 6)), (8, (r9 a0)), (9, (I (a0.length : Int))), (10, (I x11)), (43, (Bo o17))], [(6, vS 4 (p9 o13.2))], 73⟩) ?_ fun o17 => ?_
   ·refine rd 2 [(15, (Pt 6)), (16, (Sr o13.2.fName))] rfl rfl <| rp rfl (f9 rfl rfl rfl rfl rfl (bR k o13.2.fName) (.inl rfl)) fun v14 => bd 5 [(17, (Bo v14)), (18, (Bo (!v14))), (19, (Bo (!v14)))] rfl rfl <| m9 (fun hc => ?_) fun hc => ?_
    ·rw [hc]
     exact c9 rfl
    ·rw [hc]
     refine rd 10 [(20, (V.ptr 6 0 1)), (21, (I o13.2.fType)), (22, (Bo (decide (o13.2.fType < 0)))), (23, (Bo (decide (o13.2.fType < 0)))), (24, (Bo (decide (o13.2.fType < 0))))] rfl rfl <| m9 (fun hc => ?_) fun hc => ?_
     ·rw [hc]
      exact c9 rfl
     ·rw [hc]
      refine rd 13 [(25, (V.ptr 6 0 1)), (26, (I o13.2.fType)), (27, (l7 a1))] rfl rfl <| rl rfl (m8 (e := i9) rfl rfl rfl rfl rfl rfl underlying22) <| bd 17 [(28, (I (a1.length : Int))), (29, (Bo (decide (o13.2.fType ≥ (a1.length : Int))))), (30, (Bo (decide (o13.2.fType ≥ (a1.length : Int))))), (31, (Bo (decide (o13.2.fType ≥ (a1.length : Int)))))] rfl rfl <| m9 (fun hc => ?_) fun hc => ?_
      ·rw [hc]
       exact c9 rfl
      ·rw [hc]
       refine rd 23 [(32, (V.ptr 6 0 3)), (33, (Sr o13.2.fSparse)), (34, (I (o13.2.fSparse.length : Int))), (35, (Bo (decide ((o13.2.fSparse.length : Int) > 1)))), (36, (Bo (decide ((o13.2.fSparse.length : Int) > 1)))), (37, (Bo (decide ((o13.2.fSparse.length : Int) > 1))))] rfl rfl <| m9 (fun hc => ?_) fun hc => ?_
       ·rw [hc]
        exact c9 rfl
       ·rw [hc]
        exact rd 25 [(38, (r9 a0)), (39, (I o13.1))] rfl rfl <| rp rfl (ru (e := p9) rfl rfl rfl rfl rfl rfl underlying23 rfl (by decide)) fun v15 => bd 27 [(40, (r9 v15)), (41, (V.fn 85 [] [(Pt 6)]))] rfl rfl <| rs rfl (f9 rfl rfl rfl rfl rfl (cw k v15 (fun j x0 => (Q5 j x0 o13.2)) 85 (p9 o13.2) (fun j x0 => (jn j x0 o13.2))) (.inr (fun _ => rfl))) fun v16 => b5 rfl
   refine kc rfl rfl (fun hc => ?_) fun hc => ?_
   ·rw [hc]
    refine et b6 <| kr ⟨[(4, (Bo false))], [], 73⟩ rfl <| et p8 <| et j7 <| et j6 <| et (hret _) ?_
    rfl
   ·rw [hc]
    refine et d7 <| kg CM rfl (fun (o19 : (List d6)) => ⟨[(0, (r9 a0)), (1, (l7 a1)), (6, (Pt 6)), (7, (j8 o19)), (8, (r9 a0)), (9, (I (a0.length : Int))), (10, (I x11))], [(6, vS 4 (p9 o13.2))], 73⟩) (rd 3 [(44, (l7 a1)), (45, (V.ptr 6 0 1)), (46, (I o13.2.fType))] rfl rfl <| rp rfl (i6 (e := i9) rfl rfl rfl underlying22 rfl (by decide)) fun v18 => b5 rfl) fun o19 => kg CN rfl (fun (o21 : Bool) => ⟨[(0, (r9 a0)), (1, (l7 a1)), (8, (r9 a0)), (9, (I (a0.length : Int))), (10, (I x11)), (68, (Bo o21))], [], 73⟩) ?_ fun o21 => ?_
    ·refine rd 4 [(50, (V.ptr 6 0 2)), (51, (I o13.2.fField)), (52, (Bo (decide (o13.2.fField < 0)))), (53, (Bo (decide (o13.2.fField < 0))))] rfl rfl <| m9 (fun hc => ?_) fun hc => ?_
     ·rw [hc]
      exact c9 rfl
     ·rw [hc]
      refine rd 7 [(54, (V.ptr 6 0 2)), (55, (I o13.2.fField)), (56, (j8 o19))] rfl rfl <| rl rfl (m8 (e := j9) rfl rfl rfl rfl rfl rfl underlying46) <| bd 11 [(57, (I (o19.length : Int))), (58, (Bo (decide (o13.2.fField ≥ (o19.length : Int))))), (59, (Bo (decide (o13.2.fField ≥ (o19.length : Int))))), (60, (Bo (decide (o13.2.fField ≥ (o19.length : Int)))))] rfl rfl <| m9 (fun hc => ?_) fun hc => ?_
      ·rw [hc]
       exact c9 rfl
      ·rw [hc]
       exact rd 14 [(61, (j8 o19)), (62, (V.ptr 6 0 2)), (63, (I o13.2.fField))] rfl rfl <| rp rfl (i6 (e := j9) rfl rfl rfl underlying46 rfl (by decide)) fun v20 => b5 rfl
    refine kcl rfl rfl (fun hc => ?_) fun hc => ?_
    ·rw [hc]
     refine kr ⟨[(4, (Bo false))], [], 73⟩ rfl <| et d9 <| et j7 <| et j6 <| et (hret _) ?_
     rfl
    ·rw [hc]
     exact et l9 <| et i3 <| kl ⟨[(0, (r9 a0)), (1, (l7 a1)), (8, (r9 a0)), (9, (I (a0.length : Int))), (10, (I (Go.IntKind.wrap .i64 (x11 + 1))))], [], 73⟩ rfl <| et d8 <| ih (Go.IntKind.wrap .i64 (x11 + 1))
  ·rw [hc]
   exact et n8 <| et j1 <| hK0 x11
theorem kI (k : Nat) (a0 : (List j0)) (a1 : (List b7)) : EV k 52 [(r9 a0), (l7 a1)] = (U9 k a0 a1).map al := by
 cases k with
 | zero => rfl
 | succ k =>
  unfold U9
  refine et (i2 (c := f52c) (N := 73) (regs := EQ) rfl func52 rfl (by decide) rfl rfl rfl) <| kra [] rfl <| et b6 <| krp CJ rfl ⟨[(0, (r9 a0)), (1, (l7 a1)), (8, (r9 a0)), (9, (I (a0.length : Int))), (10, (I 0))], [], 73⟩ ?_ ?_
  ·exact rd 1 [(8, (r9 a0))] rfl rfl <| rl rfl (m8 (e := p9) rfl rfl rfl rfl rfl rfl underlying23) <| b5 rfl
  refine et (i4 rfl) <| et p3 ?_
  refine ip k a0 a1 _ _ ?h_dbd_areIndexes_L1_0 ?hr_dbd_areIndexes_L1 k 0
  ·intro y22
   refine et j3 <| krp yl rfl ⟨[(4, (Bo (decide ((a0.length : Int) ≤ 3))))], [], 73⟩ ?_ ?_
   ·exact rd 1 [(70, (r9 a0))] rfl rfl <| rl rfl (m8 (e := p9) rfl rfl rfl rfl rfl rfl underlying23) <| b5 rfl
   refine et d9 ?_
   rfl
  ·intro s; exact rfl
def pz : Bool → V × List V := fun r => ((Bo r), [])
theorem gf (k : Nat) (a0 : a7) : EV k 28 [(b8 a0)] = (bp k a0).map pz := by
 cases k with
 | zero => rfl
 | succ k =>
  unfold bp
  refine et (i2 (c := f28c) (N := 28) (regs := Ge) rfl func28 rfl (by decide) rfl rfl rfl) <| kr ⟨[(1, (Pt 1))], [(1, vS 4 (b8 a0))], 28⟩ rfl <| kg BJ rfl (fun (o4 : Bool) => ⟨[(2, (Bo o4))], [], 28⟩) ?_ fun o4 => ?_
  ·refine rd 2 [(3, (Pt 1)), (4, (Sr a0.fName))] rfl rfl <| rp rfl (f9 rfl rfl rfl rfl rfl (bR k a0.fName) (.inl rfl)) fun v1 => bd 4 [(5, (Bo v1)), (6, (Bo v1))] rfl rfl <| m9 (fun hc => ?_) fun hc => ?_
   ·rw [hc]
    refine rd 9 [(7, (V.ptr 1 0 1)), (8, (I a0.fKind)), (9, (Bo (decide (a0.fKind ≥ 1)))), (10, (Bo (decide (a0.fKind ≥ 1)))), (11, (Bo (decide (a0.fKind ≥ 1))))] rfl rfl <| m9 (fun hc => ?_) fun hc => ?_
    ·rw [hc]
     refine rd 14 [(12, (V.ptr 1 0 1)), (13, (I a0.fKind)), (14, (Bo (decide (a0.fKind ≤ 4)))), (15, (Bo (decide (a0.fKind ≤ 4)))), (16, (Bo (decide (a0.fKind ≤ 4))))] rfl rfl <| m9 (fun hc => ?_) fun hc => ?_
     ·rw [hc]
      refine rd 16 [(17, (V.ptr 1 0 2)), (18, (l7 a0.fTypes))] rfl rfl <| rp rfl (f9 rfl rfl rfl rfl rfl (nr k a0.fTypes) (.inl rfl)) fun v2 => bd 19 [(19, (Bo v2)), (20, (Bo v2)), (21, (Bo v2))] rfl rfl <| m9 (fun hc => ?_) fun hc => ?_
      ·rw [hc]
       exact rd 23 [(22, (V.ptr 1 0 3)), (23, (r9 a0.fIndexes)), (24, (V.ptr 1 0 2)), (25, (l7 a0.fTypes))] rfl rfl <| rs rfl (f9 rfl rfl rfl rfl rfl (kI k a0.fIndexes a0.fTypes) (.inl rfl)) fun v3 => b5 rfl
      ·rw [hc]
       exact c9 rfl
     ·rw [hc]
      exact c9 rfl
    ·rw [hc]
     exact c9 rfl
   ·rw [hc]
    exact c9 rfl
  refine et d9 ?_
  rfl
def gY : Int → V × List V := fun r => (I r, [])
theorem X0 (k : Nat) (s : Str) (n : Int) : EV k 35 [(Sr s), (V.int .u8 n)] = (strings_IndexByte k s n).map gY := by
 cases k with
 | zero => rfl
 | succ k => exact (kM (ext := ext) (f := 35) rfl).trans rfl
def bN : Bool → V × List V := fun r => ((Bo r), [])
theorem kp (k : Nat) (a0 : Str)  (K0 : Int → Int → Option Bool) (Kst : X × St → Option (V × List V)) (hK0 : ∀ (y0 : Int) (y1 : Int), Kst (X.exit 0, ⟨[(0, (Sr a0)), (3, (I y0)), (7, (I (a0.length : Int))), (8, (I y1)), (9, (Bo false))], [], 24⟩) = (K0 y0 y1).map bN) (hret : ∀ s, Kst (X.ret, s) = D4 prog 24 [(Sr a0)] [] [.tmp 2] (X.ret, s)) :
  ∀ (m : Nat) (x5 : Int) (x6 : Int), (B5 (s7 prog (EV k) Ff k Es) m ⟨[(0, (Sr a0)), (3, (I x5)), (7, (I (a0.length : Int))), (8, (I x6))], [], 24⟩).bind Kst = (I4 k a0 K0 m x5 x6).map bN := by
 intro m
 induction m with
 | zero => intros; rfl
 | succ m ih =>
  intro x5 x6
  unfold I4
  refine et l8 <| kra [(9, (Bo (decide (x6 < (a0.length : Int)))))] rfl <| kc rfl rfl (fun hc => ?_) fun hc => ?_
  ·rw [hc]
   refine et d7 <| et (i4 rfl) <| kr ⟨[(0, (Sr a0)), (3, (I x5)), (4, (I x6)), (7, (I (a0.length : Int))), (8, (I x6))], [], 24⟩ rfl <| kd Er rfl (fun (o10 : Int) => ⟨[(0, (Sr a0)), (3, (I x5)), (5, (I o10)), (7, (I (a0.length : Int))), (8, (I x6))], [], 24⟩) (et (j4 (p := 7) (dk := true) (t := [(0, (Sr a0)), (3, (I x5)), (4, (I x6)), (7, (I (a0.length : Int))), (8, (I x6))]) (σ := []) (n := 24) rfl (by decide) (by decide) rfl) <| et (l5 (m := 1) (j := 1) (t' := [(0, (Sr a0)), (3, (I x5)), (4, (I x6)), (7, (I (a0.length : Int))), (8, (I x6)), (11, (I x5))]) rfl rfl rfl) <| et (d5 (x := (cut ([68, 76, 80] : Str) x5 (([68, 76, 80] : Str).length : Int))) (w := fun v7 => (Sr v7)) rfl rfl rfl rfl rfl (u6 rfl rfl rfl rfl rfl rfl underlying9)) <| n5 fun v7 => et (k0 (m := 2) (j := 4) (t' := [(0, (Sr a0)), (3, (I x5)), (4, (I x6)), (7, (I (a0.length : Int))), (8, (I x6)), (11, (I x5)), (12, (Sr v7)), (13, (Sr a0)), (14, (I x6))]) rfl rfl rfl) <| et (d5 (x := (G0 a0 x6)) (w := fun v8 => (V.int .u8 v8)) rfl rfl rfl rfl rfl (s9 rfl rfl rfl underlying9)) <| n5 fun v8 => et (k0 (m := 0) (j := 5) (t' := [(0, (Sr a0)), (3, (I x5)), (4, (I x6)), (7, (I (a0.length : Int))), (8, (I x6)), (11, (I x5)), (12, (Sr v7)), (13, (Sr a0)), (14, (I x6)), (15, (V.int .u8 v8))]) rfl rfl rfl) <| et (d5 (x := (strings_IndexByte k v7 v8)) (w := fun v9 => (I v9)) rfl rfl rfl rfl rfl (f9 rfl rfl rfl rfl rfl (X0 k v7 v8) (.inl rfl))) <| F8 fun v9 => l6 rfl) fun o10 => et b6 <| kra [(18, (Bo (decide (o10 < 0))))] rfl <| kc rfl rfl (fun hc => ?_) fun hc => ?_
   ·rw [hc]
    refine et b6 <| kr ⟨[(2, (Bo false))], [], 24⟩ rfl <| et p8 <| et j7 <| et j6 <| et (hret _) ?_
    rfl
   ·rw [hc]
    exact et d7 <| kl ⟨[(0, (Sr a0)), (3, (I (Go.IntKind.wrap .i64 (x5 + (Go.IntKind.wrap .i64 (o10 + 1)))))), (7, (I (a0.length : Int))), (8, (I x6))], [], 24⟩ rfl <| et i3 <| kl ⟨[(0, (Sr a0)), (3, (I (Go.IntKind.wrap .i64 (x5 + (Go.IntKind.wrap .i64 (o10 + 1)))))), (7, (I (a0.length : Int))), (8, (I (Go.IntKind.wrap .i64 (x6 + 1))))], [], 24⟩ rfl <| et d8 <| ih (Go.IntKind.wrap .i64 (x5 + (Go.IntKind.wrap .i64 (o10 + 1)))) (Go.IntKind.wrap .i64 (x6 + 1))
  ·rw [hc]
   exact et n8 <| et j1 <| hK0 x5 x6
theorem dg (k : Nat) (a0 : Str) : EV k 97 [(Sr a0)] = (dG k a0).map bN := by
 cases k with
 | zero => rfl
 | succ k =>
  unfold dG
  refine et (i2 (c := f97c) (N := 24) (regs := Ff) rfl func97 rfl (by decide) rfl rfl rfl) <| kra [] rfl <| kra [(3, (I 0))] rfl <| et b6 <| kra [(7, (I (a0.length : Int))), (8, (I 0))] rfl <| et (i4 rfl) <| et p3 ?_
  refine kp k a0 _ _ ?h_ssa_areCodes_L1_0 ?hr_ssa_areCodes_L1 k 0 0
  ·intro y11 y12
   refine et j3 <| kr ⟨[(2, (Bo true))], [], 24⟩ rfl <| et d9 ?_
   rfl
  ·intro s; exact rfl
def P8 : Int → V × List V := fun r => ((I r), [])
theorem eH (k : Nat) (a0 : (List Int)) (a1 : Nat → Int → Option Bool) (a1_fid : Go.FuncId) (a1_c0 : V) (a1_hok : ∀ j x0, EV j a1_fid [(I x0), V.pro a1_c0] = (a1 j x0).map fun b => ((Bo b), [])) (K0 : Int → Option Int) (Kst : X × St → Option (V × List V)) (hK0 : ∀ (y0 : Int), Kst (X.exit 0, ⟨[(0, (sI a0)), (1, (V.fn a1_fid [] [V.pro a1_c0])), (7, (I (a0.length : Int))), (8, (I y0)), (9, (Bo false))], [], 19⟩) = (K0 y0).map P8) (hret : ∀ s, Kst (X.ret, s) = D4 prog 19 [(sI a0), (V.fn a1_fid [] [V.pro a1_c0])] [] [.tmp 4] (X.ret, s)) :
  ∀ (m : Nat) (x4 : Int), (B5 (s7 prog (EV k) xF k xE) m ⟨[(0, (sI a0)), (1, (V.fn a1_fid [] [V.pro a1_c0])), (7, (I (a0.length : Int))), (8, (I x4))], [], 19⟩).bind Kst = (D3 k a0 a1 K0 m x4).map P8 := by
 intro m
 induction m with
 | zero => intros; rfl
 | succ m ih =>
  intro x4
  unfold D3
  refine et l8 <| kra [(9, (Bo (decide (x4 < (a0.length : Int)))))] rfl <| kc rfl rfl (fun hc => ?_) fun hc => ?_
  ·rw [hc]
   refine et d7 <| et (i4 rfl) <| kr ⟨[(0, (sI a0)), (1, (V.fn a1_fid [] [V.pro a1_c0])), (5, (I x4)), (7, (I (a0.length : Int))), (8, (I x4))], [], 19⟩ rfl <| kga xD rfl (fun (o7 : Bool) => [(16, (Bo o7))]) (rd 3 [(11, (V.fn a1_fid [] [V.pro a1_c0])), (12, (sI a0)), (13, (I x4))] rfl rfl <| rp rfl (i6 (e := I) rfl rfl rfl underlying58 rfl (by decide)) fun v5 => bd 5 [(14, (Pr (I v5))), (15, (I v5))] rfl rfl <| rs rfl (f9 rfl rfl rfl rfl rfl (a1_hok k v5) (.inl rfl)) fun v6 => b5 rfl) fun o7 => kcl rfl rfl (fun hc => ?_) fun hc => ?_
   ·rw [hc]
    refine kr ⟨[(4, (I x4))], [], 19⟩ rfl <| et d9 <| et j7 <| et j6 <| et (hret _) ?_
    rfl
   ·rw [hc]
    exact et l9 <| et i3 <| kl ⟨[(0, (sI a0)), (1, (V.fn a1_fid [] [V.pro a1_c0])), (7, (I (a0.length : Int))), (8, (I (Go.IntKind.wrap .i64 (x4 + 1))))], [], 19⟩ rfl <| et d8 <| ih (Go.IntKind.wrap .i64 (x4 + 1))
  ·rw [hc]
   exact et n8 <| et j1 <| hK0 x4
theorem fS (k : Nat) (a0 : (List Int)) (a1 : Nat → Int → Option Bool) (a1_fid : Go.FuncId) (a1_c0 : V) (a1_hok : ∀ j x0, EV j a1_fid [(I x0), V.pro a1_c0] = (a1 j x0).map fun b => ((Bo b), [])) : EV k 132 [(sI a0), (V.fn a1_fid [] [V.pro a1_c0])] = (O7 k a0 a1).map P8 := by
 cases k with
 | zero => rfl
 | succ k =>
  unfold O7
  refine et (i2 (c := FW) (N := 19) (regs := xF) rfl func132 rfl (by decide) rfl rfl rfl) <| kra [] rfl <| et b6 <| krp xC rfl ⟨[(0, (sI a0)), (1, (V.fn a1_fid [] [V.pro a1_c0])), (7, (I (a0.length : Int))), (8, (I 0))], [], 19⟩ ?_ ?_
  ·exact rd 1 [(6, (sI a0))] rfl rfl <| rl rfl (m8 (e := I) rfl rfl rfl rfl rfl rfl underlying58) <| b5 rfl
  refine et (i4 rfl) <| et p3 ?_
  refine eH k a0 a1 a1_fid a1_c0 a1_hok _ _ ?h_slices_IndexFunc_int_L1_0 ?hr_slices_IndexFunc_int_L1 k 0
  ·intro y8
   refine et j3 <| kr ⟨[(4, (I (-1)))], [], 19⟩ rfl <| et d9 ?_
   rfl
  ·intro s; exact rfl
def dC : Bool → V × List V := fun r => ((Bo r), [])
theorem eE (k : Nat) (a0 : (List Int)) (a1 : Nat → Int → Option Bool) (a1_fid : Go.FuncId) (a1_c0 : V) (a1_hok : ∀ j x0, EV j a1_fid [(I x0), V.pro a1_c0] = (a1 j x0).map fun b => ((Bo b), [])) : EV k 118 [(sI a0), (V.fn a1_fid [] [V.pro a1_c0])] = (A4 k a0 a1).map dC := by
 cases k with
 | zero => rfl
 | succ k =>
  unfold A4
  refine et (i2 (c := FJ) (N := 9) (regs := AL) rfl func118 rfl (by decide) rfl rfl rfl) <| kra [] rfl <| kg wY rfl (fun (o2 : Bool) => ⟨[(4, (Bo o2))], [], 9⟩) (rd 2 [(5, (sI a0)), (6, (V.fn a1_fid [] [V.pro a1_c0]))] rfl rfl <| rp rfl (f9 rfl rfl rfl rfl rfl (fS k a0 a1 a1_fid a1_c0 a1_hok) (.inl rfl)) fun v1 => b5 rfl) fun o2 => et d9 ?_
  rfl
def ns : Bool → V × List V := fun r => ((Bo r), [])
theorem nY (k : Nat) (a0 : Int) (a1 : a7) : EV k 119 [(I a0), (Pr (b8 a1))] = (ax k a0 a1).map ns := by
 cases k with
 | zero => rfl
 | succ k =>
  unfold ax
  refine et (i2 (c := FK) (N := 13) (regs := AM) rfl func119 rfl (by decide) rfl rfl rfl) <| kra [] rfl <| kg wZ rfl (fun (o1 : Bool) => ⟨[(3, (Bo o1))], [], 13⟩) ?_ fun o1 => ?_
  ·refine rd 3 [(4, (I a0)), (5, (Bo (decide (a0 < 0)))), (6, (Bo (decide (a0 < 0))))] rfl rfl <| m9 (fun hc => ?_) fun hc => ?_
   ·rw [hc]
    exact c9 rfl
   ·rw [hc]
    exact rd 6 [(7, (I a0)), (8, (Pr (l7 a1.fTypes))), (9, (l7 a1.fTypes))] rfl rfl <| rl rfl (m8 (e := i9) rfl rfl rfl rfl rfl rfl underlying22) <| b5 rfl
  refine et d9 ?_
  rfl
def pA : Int → V × List V := fun r => ((I r), [])
theorem gg (k : Nat) (a0 : a7) (a1 : (List Int)) : EV k 90 [(b8 a0), (sI a1)] = (br k a0 a1).map pA := by
 cases k with
 | zero => rfl
 | succ k =>
  unfold br
  refine et (i2 (c := f90c) (N := 13) (regs := GW) rfl func90 rfl (by decide) rfl rfl rfl) <| kr ⟨[(1, (sI a1)), (2, (Pt 2))], [(2, vS 4 (b8 a0))], 13⟩ rfl <| et (i4 rfl) <| kga DY rfl (fun (o2 : Bool) => [(5, (Bo o2))]) (rd 1 [(6, (b8 a0))] rfl rfl <| rp rfl (f9 rfl rfl rfl rfl rfl (gf k a0) (.inl rfl)) fun v1 => b5 rfl) fun o2 => kcl rfl rfl (fun hc => ?_) fun hc => ?_
  ·rw [hc]
   refine kr ⟨[(4, (I 100))], [], 13⟩ rfl <| et d9 <| et j7 ?_
   rfl
  ·rw [hc]
   refine kg DZ rfl (fun (o4 : Bool) => ⟨[(9, (Bo o4))], [], 13⟩) (rd 2 [(10, (sI a1)), (11, (V.fn 119 [] [(Pt 2)]))] rfl rfl <| rs rfl (f9 rfl rfl rfl rfl rfl (eE k a1 (fun j x0 => (ax j x0 a0)) 119 (b8 a0) (fun j x0 => (nY j x0 a0))) (.inr (fun _ => rfl))) fun v3 => b5 rfl) fun o4 => kcl rfl rfl (fun hc => ?_) fun hc => ?_
   ·rw [hc]
    refine kr ⟨[(4, (I 2))], [], 13⟩ rfl <| et d9 <| et j7 ?_
    rfl
   ·rw [hc]
    refine et l9 <| et i3 <| kr ⟨[(4, (I 0))], [], 13⟩ rfl <| et d9 ?_
    rfl
def nX : Bool → V × List V := fun r => ((Bo r), [])
theorem py (k : Nat) (a0 : b7) (a1 : Str) : EV k 93 [(i9 a0), (Pr (Sr a1))] = (dS k a0 a1).map nX := by
 cases k with
 | zero => rfl
 | succ k =>
  unfold dS
  refine et (i2 (c := f93c) (N := 8) (regs := GY) rfl func93 rfl (by decide) rfl rfl rfl) <| kr ⟨[(1, (Pr (Sr a1))), (2, (Pt 2))], [(2, vS 8 (i9 a0))], 8⟩ rfl <| kr ⟨[(3, (Bo (a0.fName == a1)))], [], 8⟩ rfl <| et d9 ?_
  rfl
def pB : (Int × Int) → V × List V := fun r => (.tup [(I r.1), (I r.2)], [])
theorem qS (k : Nat) (a0 : Int) : EV k 91 [(I a0)] = (fH k a0).map pB := by
 cases k with
 | zero => rfl
 | succ k =>
  unfold fH
  refine et (i2 (c := f91c) (N := 7) (regs := GX) rfl func91 rfl (by decide) rfl rfl rfl) <| kra [] rfl <| et b6 <| kra [(5, (Bo (decide (a0 < 0))))] rfl <| kc rfl rfl (fun hc => ?_) fun hc => ?_
  ·rw [hc]
   refine et b6 <| kr ⟨[(2, (I 0)), (3, (I 5))], [], 7⟩ rfl <| et p8 ?_
   rfl
  ·rw [hc]
   refine et d7 <| kr ⟨[(2, (I a0)), (3, (I 0))], [], 7⟩ rfl <| et d9 ?_
   rfl
def qQ : (Int × Int) → V × List V := fun r => (.tup [(I r.1), (I r.2)], [])
theorem ik (k : Nat) (a0 : a7) (a1 : Str) : EV k 54 [(b8 a0), (Sr a1)] = (cd k a0 a1).map qQ := by
 cases k with
 | zero => rfl
 | succ k =>
  unfold cd
  refine et (i2 (c := f54c) (N := 19) (regs := Gt) rfl func54 rfl (by decide) rfl rfl rfl) <| kr ⟨[(2, (Pt 2)), (3, (Pt 3))], [(2, vS 4 (b8 a0)), (3, vS 1 (Sr a1))], 19⟩ rfl <| et b6 <| kga CP rfl (fun (o2 : Int) => [(6, (I o2))]) (rd 1 [(7, (b8 a0))] rfl rfl <| rs rfl (f9 rfl rfl rfl rfl rfl (gg k a0 ([] : List Int)) (.inl rfl)) fun v1 => b5 rfl) fun o2 => et b6 <| kra [(10, (Bo (o2 != 0)))] rfl <| kc rfl rfl (fun hc => ?_) fun hc => ?_
  ·rw [hc]
   refine et b6 <| kr ⟨[(4, (I 0)), (5, (I o2))], [], 19⟩ rfl <| et p8 ?_
   rfl
  ·rw [hc]
   refine et d7 <| kg CQ rfl (fun (o5 : Int × Int) => ⟨[(4, (I o5.1)), (5, (I o5.2))], [], 19⟩) (rd 3 [(12, (V.ptr 2 0 2)), (13, (l7 a0.fTypes)), (14, (V.fn 93 [] [(Pt 3)]))] rfl rfl <| rp rfl (f9 rfl rfl rfl rfl rfl (Z9 k a0.fTypes (fun j x0 => (dS j x0 a1)) 93 (Sr a1) (fun j x0 => (py j x0 a1))) (.inr (fun _ => rfl))) fun v3 => bd 4 [(15, (I v3))] rfl rfl <| rp rfl (f9 rfl rfl rfl rfl rfl (qS k v3) (.inl rfl)) fun v4 => b5 rfl) fun o5 => et d9 ?_
   rfl
def gH : List Int → V × List V := fun r => (.tup [], [.sl 2 1 (List.map I r)])
theorem gX (k : Nat) (l : List Int) : EV k 135 [(V.sl 2 1 (List.map I l))] = (slices_Reverse_int k l).map gH := by
 cases k with
 | zero => rfl
 | succ k => exact (kM (ext := ext) (f := 135) rfl).trans (kN l)
def iq : (List Int) → V × List V := fun r => ((sI r), [])
theorem pD (k : Nat) (a0 : a7) (a1 : Int)  (K0 : Int → (List Int) → Option (List Int)) (Kst : X × St → Option (V × List V)) (hK0 : ∀ (y0 : Int) (y1 : (List Int)), Kst (X.exit 0, ⟨[(1, (I y0)), (2, (Pt 2)), (5, (aL 5 I y1)), (7, (Bo false))], [(2, vS 4 (b8 a0)), (5, ⟨true, 1, List.map I y1⟩)], 21⟩) = (K0 y0 y1).map iq) (hret : ∀ s, Kst (X.ret, s) = D4 prog 21 [(b8 a0), (I a1)] [] [.tmp 4] (X.ret, s)) :
  ∀ (m : Nat) (x5 : Int) (x6 : (List Int)), (B5 (s7 prog (EV k) xi k xh) m ⟨[(1, (I x5)), (2, (Pt 2)), (5, (aL 5 I x6))], [(2, vS 4 (b8 a0)), (5, ⟨true, 1, List.map I x6⟩)], 21⟩).bind Kst = (am a0 K0 m x5 x6).map iq := by
 intro m
 induction m with
 | zero => intros; rfl
 | succ m ih =>
  intro x5 x6
  unfold am
  refine et l8 <| et b6 <| kra [(7, (Bo (decide (x5 ≥ 0))))] rfl <| kc rfl rfl (fun hc => ?_) fun hc => ?_
  ·rw [hc]
   exact et d7 <| et (i4 rfl) <| kgl xe rfl (fun (o8 : (List Int)) => ⟨[(1, (I x5)), (2, (Pt 2)), (5, (aL 5 I o8))], [(2, vS 4 (b8 a0)), (5, ⟨true, 1, List.map I o8⟩)], 21⟩) (rd 3 [(14, (aL 5 I x6)), (15, (I x5)), (16, (sI (([x5] : List Int))))] rfl rfl <| et (O6 (x := (app x6 ([x5] : List Int))) (w := fun v7 => ((aL 5 I v7), _)) rfl rfl rfl rfl (ul (e := I) (l := x6) rfl rfl rfl rfl rfl rfl rfl rfl rfl rfl rfl (of_decide_eq_true rfl))) <| F8 fun v7 => b5 rfl) fun o8 => et i3 <| kgl xd rfl (fun (o10 : Int) => ⟨[(1, (I o10)), (2, (Pt 2)), (5, (aL 5 I o8))], [(2, vS 4 (b8 a0)), (5, ⟨true, 1, List.map I o8⟩)], 21⟩) (rd 3 [(8, (V.ptr 2 0 2)), (9, (l7 a0.fTypes)), (10, (I x5))] rfl rfl <| rp rfl (i6 (e := i9) rfl rfl rfl underlying22 rfl (by decide)) fun v9 => b5 rfl) fun o10 => et d8 <| ih o10 o8
  ·rw [hc]
   exact et n8 <| et j1 <| hK0 x5 x6
theorem oc (k : Nat) (a0 : a7) (a1 : Int) : EV k 122 [(b8 a0), (I a1)] = (ja k a0 a1).map iq := by
 cases k with
 | zero => rfl
 | succ k =>
  unfold ja
  refine et (i2 (c := FO) (N := 21) (regs := xi) rfl func122 rfl (by decide) rfl rfl rfl) <| kr ⟨[(1, (I a1)), (2, (Pt 2))], [(2, vS 4 (b8 a0))], 21⟩ rfl <| kr ⟨[(1, (I a1)), (2, (Pt 2)), (5, (aL 5 I ([] : List Int)))], [(2, vS 4 (b8 a0)), (5, ⟨true, 1, List.map I ([] : List Int)⟩)], 21⟩ rfl <| et (i4 rfl) <| et p3 ?_
  refine pD k a0 a1 _ _ ?h_dbd_way_L1_0 ?hr_dbd_way_L1 k a1 ([] : List Int)
  ·intro y11 y12
   refine et j3 <| kg xf rfl (fun (o14 : (List Int)) => ⟨[(5, (aL 5 I o14))], [(5, ⟨true, 1, List.map I o14⟩)], 21⟩) (rd 1 [(18, (aL 5 I y12))] rfl rfl <| et (O6 (x := ((slices_Reverse_int k y12).bind (bX y12))) (w := fun v13 => (V.tup [], _)) rfl rfl rfl rfl (As (S := (fun n_ => ⟨[(1, (I y11)), (2, (Pt 2)), (5, (V.aref 5 0 n_)), (7, (Bo false)), (18, (V.aref 5 0 n_))], [(2, vS 4 (b8 a0)), (5, ⟨true, 1, List.map I y12⟩)], 21⟩)) (e := I) rfl rfl rfl rfl rfl (ED (e := I) rfl) rfl (gX k y12))) <| F8 fun v13 => b5 rfl) fun o14 => krp xg rfl ⟨[(4, (sI o14))], [], 21⟩ ?_ ?_
   ·exact rd 1 [(20, (aL 5 I o14))] rfl rfl <| et (O6 (x := some ()) (w := fun _ => ((V.sl 2 1 (List.map I o14)), _)) rfl rfl rfl rfl (At (e := I) rfl rfl rfl rfl rfl (of_decide_eq_true rfl))) <| et Y5 <| b5 rfl
   refine et d9 ?_
   rfl
  ·intro s; exact rfl
def fQ : Bool → V × List V := fun r => ((Bo r), [])
theorem gF (k : Nat) (a0 : (List Int)) (a1 : Int) : EV k 121 [(sI a0), (I a1)] = (I7 k a0 a1).map fQ := by
 cases k with
 | zero => rfl
 | succ k =>
  unfold I7
  refine et (i2 (c := FN) (N := 9) (regs := AR) rfl func121 rfl (by decide) rfl rfl rfl) <| kra [] rfl <| kg xc rfl (fun (o2 : Bool) => ⟨[(4, (Bo o2))], [], 9⟩) (rd 2 [(5, (sI a0)), (6, (I a1))] rfl rfl <| rp rfl (f9 rfl rfl rfl rfl rfl (dp k a0 a1) (.inl rfl)) fun v1 => b5 rfl) fun o2 => et d9 ?_
  rfl
def nq : (Bool × Int) → V × List V := fun r => (.tup [(Bo r.1), (I r.2)], [])
theorem nW (k : Nat) (a0 : a7) (a1 : Int) (a2 : Int) : EV k 98 [(b8 a0), (I a1), (I a2)] = (cb k a0 a1 a2).map nq := by
 cases k with
 | zero => rfl
 | succ k =>
  unfold cb
  refine et (i2 (c := f98c) (N := 27) (regs := GZ) rfl func98 rfl (by decide) rfl rfl rfl) <| kr ⟨[(1, (I a1)), (2, (I a2)), (3, (Pt 3))], [(3, vS 4 (b8 a0))], 27⟩ rfl <| et b6 <| kga Et rfl (fun (o2 : Int) => [(8, (I o2))]) (rd 4 [(9, (b8 a0)), (10, (I a1)), (11, (I a2)), (12, (sI (([a1, a2] : List Int))))] rfl rfl <| rs rfl (f9 rfl rfl rfl rfl rfl (gg k a0 ([a1, a2] : List Int)) (.inl rfl)) fun v1 => b5 rfl) fun o2 => et b6 <| kra [(15, (Bo (o2 != 0)))] rfl <| kc rfl rfl (fun hc => ?_) fun hc => ?_
  ·rw [hc]
   refine et b6 <| kr ⟨[(6, (Bo false)), (7, (I o2))], [], 27⟩ rfl <| et p8 ?_
   rfl
  ·rw [hc]
   refine et d7 <| kg Eu rfl (fun (o5 : Bool × Int) => ⟨[(6, (Bo o5.1)), (7, (I o5.2))], [], 27⟩) ?_ fun o5 => ?_
   ·refine rd 4 [(17, (I a1)), (18, (I a2)), (19, (Bo (a1 != a2))), (20, (Bo (a1 != a2)))] rfl rfl <| m9 (fun hc => ?_) fun hc => ?_
    ·rw [hc]
     exact rd 6 [(21, (b8 a0)), (22, (I a2))] rfl rfl <| rp rfl (f9 rfl rfl rfl rfl rfl (oc k a0 a2) (.inl rfl)) fun v3 => bd 8 [(23, (sI v3)), (24, (I a1))] rfl rfl <| rp rfl (f9 rfl rfl rfl rfl rfl (gF k v3 a1) (.inl rfl)) fun v4 => b5 rfl
    ·rw [hc]
     exact c9 rfl
   refine et d9 ?_
   rfl
def rV : ((List Int) × Int) → V × List V := fun r => (.tup [(sI r.1), (I r.2)], [])
theorem tD (k : Nat) (a0 : a7) (a1 : Int) : EV k 123 [(b8 a0), (I a1)] = (kH k a0 a1).map rV := by
 cases k with
 | zero => rfl
 | succ k =>
  unfold kH
  refine et (i2 (c := FP) (N := 17) (regs := AU) rfl func123 rfl (by decide) rfl rfl rfl) <| kr ⟨[(1, (I a1)), (2, (Pt 2))], [(2, vS 4 (b8 a0))], 17⟩ rfl <| et b6 <| kga xj rfl (fun (o2 : Int) => [(6, (I o2))]) (rd 3 [(7, (b8 a0)), (8, (I a1)), (9, (sI (([a1] : List Int))))] rfl rfl <| rs rfl (f9 rfl rfl rfl rfl rfl (gg k a0 ([a1] : List Int)) (.inl rfl)) fun v1 => b5 rfl) fun o2 => et b6 <| kra [(12, (Bo (o2 != 0)))] rfl <| kc rfl rfl (fun hc => ?_) fun hc => ?_
  ·rw [hc]
   refine et b6 <| kr ⟨[(4, (sI (([] : List Int)))), (5, (I o2))], [], 17⟩ rfl <| et p8 ?_
   rfl
  ·rw [hc]
   refine et d7 <| kg xk rfl (fun (o4 : (List Int) × Int) => ⟨[(4, (sI o4.1)), (5, (I o4.2))], [], 17⟩) (rd 2 [(14, (b8 a0)), (15, (I a1))] rfl rfl <| rp rfl (f9 rfl rfl rfl rfl rfl (oc k a0 a1) (.inl rfl)) fun v3 => b5 rfl) fun o4 => et d9 ?_
   rfl
def pw : (Int × Int) → V × List V := fun r => (.tup [(I r.1), (I r.2)], [])
theorem qP (k : Nat) (a0 : a7) (a1 : Int) : EV k 102 [(b8 a0), (I a1)] = (fG k a0 a1).map pw := by
 cases k with
 | zero => rfl
 | succ k =>
  unfold fG
  refine et (i2 (c := Fy) (N := 17) (regs := AB) rfl func102 rfl (by decide) rfl rfl rfl) <| kr ⟨[(1, (I a1)), (2, (Pt 2))], [(2, vS 4 (b8 a0))], 17⟩ rfl <| kg ww rfl (fun (o2 : (List Int) × Int) => ⟨[(6, (sI o2.1)), (7, (I o2.2))], [], 17⟩) (rd 2 [(9, (b8 a0)), (10, (I a1))] rfl rfl <| rp rfl (f9 rfl rfl rfl rfl rfl (tD k a0 a1) (.inl rfl)) fun v1 => b5 rfl) fun o2 => krp wx rfl ⟨[(4, (I (o2.1.length : Int))), (5, (I o2.2))], [], 17⟩ ?_ ?_
  ·exact rd 1 [(14, (sI o2.1))] rfl rfl <| rl rfl (m8 (e := I) rfl rfl rfl rfl rfl rfl underlying58) <| b5 rfl
  refine et d9 ?_
  rfl
def nx : Int → V × List V := fun r => ((I r), [])
theorem L7 (k : Nat) (a0 : a7) (a1 : Int) : EV k 71 [(b8 a0), (I a1)] = (V9 k a0 a1).map nx := by
 cases k with
 | zero => rfl
 | succ k =>
  unfold V9
  refine et (i2 (c := f71c) (N := 14) (regs := GG) rfl func71 rfl (by decide) rfl rfl rfl) <| kr ⟨[(1, (I a1)), (2, (Pt 2))], [(2, vS 4 (b8 a0))], 14⟩ rfl <| kg DC rfl (fun (o2 : Int) => ⟨[(6, (I o2))], [], 14⟩) (rd 2 [(8, (b8 a0)), (9, (I a1))] rfl rfl <| rp rfl (f9 rfl rfl rfl rfl rfl (qP k a0 a1) (.inl rfl)) fun v1 => b5 rfl) fun o2 => kr ⟨[(4, (I o2))], [], 14⟩ rfl <| et d9 ?_
  rfl
def M4 : Int → V × List V := fun r => ((I r), [])
theorem dd (k : Nat) (a0 : (List (List a6))) (a1 : Nat → (List a6) → Option Bool) (a1_fid : Go.FuncId) (a1_c0 : V) (a1_hok : ∀ j x0, EV j a1_fid [(b4 x0), V.pro a1_c0] = (a1 j x0).map fun b => ((Bo b), [])) (K0 : Int → Option Int) (Kst : X × St → Option (V × List V)) (hK0 : ∀ (y0 : Int), Kst (X.exit 0, ⟨[(0, (V.sl 0 1 (List.map b4 a0))), (1, (V.fn a1_fid [] [V.pro a1_c0])), (7, (I (a0.length : Int))), (8, (I y0)), (9, (Bo false))], [], 19⟩) = (K0 y0).map M4) (hret : ∀ s, Kst (X.ret, s) = D4 prog 19 [(V.sl 0 1 (List.map b4 a0)), (V.fn a1_fid [] [V.pro a1_c0])] [] [.tmp 4] (X.ret, s)) :
  ∀ (m : Nat) (x4 : Int), (B5 (s7 prog (EV k) xo k xn) m ⟨[(0, (V.sl 0 1 (List.map b4 a0))), (1, (V.fn a1_fid [] [V.pro a1_c0])), (7, (I (a0.length : Int))), (8, (I x4))], [], 19⟩).bind Kst = (B7 k a0 a1 K0 m x4).map M4 := by
 intro m
 induction m with
 | zero => intros; rfl
 | succ m ih =>
  intro x4
  unfold B7
  refine et l8 <| kra [(9, (Bo (decide (x4 < (a0.length : Int)))))] rfl <| kc rfl rfl (fun hc => ?_) fun hc => ?_
  ·rw [hc]
   refine et d7 <| et (i4 rfl) <| kr ⟨[(0, (V.sl 0 1 (List.map b4 a0))), (1, (V.fn a1_fid [] [V.pro a1_c0])), (5, (I x4)), (7, (I (a0.length : Int))), (8, (I x4))], [], 19⟩ rfl <| kga xm rfl (fun (o7 : Bool) => [(16, (Bo o7))]) (rd 3 [(11, (V.fn a1_fid [] [V.pro a1_c0])), (12, (V.sl 0 1 (List.map b4 a0))), (13, (I x4))] rfl rfl <| rp rfl (i6 (e := b4) rfl rfl rfl underlying26 rfl (by decide)) fun v5 => bd 5 [(14, (Pr (b4 v5))), (15, (b4 v5))] rfl rfl <| rs rfl (f9 rfl rfl rfl rfl rfl (a1_hok k v5) (.inl rfl)) fun v6 => b5 rfl) fun o7 => kcl rfl rfl (fun hc => ?_) fun hc => ?_
   ·rw [hc]
    refine kr ⟨[(4, (I x4))], [], 19⟩ rfl <| et d9 <| et j7 <| et j6 <| et (hret _) ?_
    rfl
   ·rw [hc]
    exact et l9 <| et i3 <| kl ⟨[(0, (V.sl 0 1 (List.map b4 a0))), (1, (V.fn a1_fid [] [V.pro a1_c0])), (7, (I (a0.length : Int))), (8, (I (Go.IntKind.wrap .i64 (x4 + 1))))], [], 19⟩ rfl <| et d8 <| ih (Go.IntKind.wrap .i64 (x4 + 1))
  ·rw [hc]
   exact et n8 <| et j1 <| hK0 x4
theorem eK (k : Nat) (a0 : (List (List a6))) (a1 : Nat → (List a6) → Option Bool) (a1_fid : Go.FuncId) (a1_c0 : V) (a1_hok : ∀ j x0, EV j a1_fid [(b4 x0), V.pro a1_c0] = (a1 j x0).map fun b => ((Bo b), [])) : EV k 124 [(V.sl 0 1 (List.map b4 a0)), (V.fn a1_fid [] [V.pro a1_c0])] = (J3 k a0 a1).map M4 := by
 cases k with
 | zero => rfl
 | succ k =>
  unfold J3
  refine et (i2 (c := FQ) (N := 19) (regs := xo) rfl func124 rfl (by decide) rfl rfl rfl) <| kra [] rfl <| et b6 <| krp xl rfl ⟨[(0, (V.sl 0 1 (List.map b4 a0))), (1, (V.fn a1_fid [] [V.pro a1_c0])), (7, (I (a0.length : Int))), (8, (I 0))], [], 19⟩ ?_ ?_
  ·exact rd 1 [(6, (V.sl 0 1 (List.map b4 a0)))] rfl rfl <| rl rfl (m8 (e := b4) rfl rfl rfl rfl rfl rfl underlying26) <| b5 rfl
  refine et (i4 rfl) <| et p3 ?_
  refine dd k a0 a1 a1_fid a1_c0 a1_hok _ _ ?h_slices_IndexFunc_TermL_L1_0 ?hr_slices_IndexFunc_TermL_L1 k 0
  ·intro y8
   refine et j3 <| kr ⟨[(4, (I (-1)))], [], 19⟩ rfl <| et d9 ?_
   rfl
  ·intro s; exact rfl
def cy : Bool → V × List V := fun r => ((Bo r), [])
theorem cZ (k : Nat) (a0 : (List (List a6))) (a1 : Nat → (List a6) → Option Bool) (a1_fid : Go.FuncId) (a1_c0 : V) (a1_hok : ∀ j x0, EV j a1_fid [(b4 x0), V.pro a1_c0] = (a1 j x0).map fun b => ((Bo b), [])) : EV k 104 [(V.sl 0 1 (List.map b4 a0)), (V.fn a1_fid [] [V.pro a1_c0])] = (z6 k a0 a1).map cy := by
 cases k with
 | zero => rfl
 | succ k =>
  unfold z6
  refine et (i2 (c := FA) (N := 9) (regs := AC) rfl func104 rfl (by decide) rfl rfl rfl) <| kra [] rfl <| kg wE rfl (fun (o2 : Bool) => ⟨[(4, (Bo o2))], [], 9⟩) (rd 2 [(5, (V.sl 0 1 (List.map b4 a0))), (6, (V.fn a1_fid [] [V.pro a1_c0]))] rfl rfl <| rp rfl (f9 rfl rfl rfl rfl rfl (eK k a0 a1 a1_fid a1_c0 a1_hok) (.inl rfl)) fun v1 => b5 rfl) fun o2 => et d9 ?_
  rfl
def M9 : Int → V × List V := fun r => ((I r), [])
theorem dE (k : Nat) (a0 : (List a6)) (a1 : Nat → a6 → Option Bool) (a1_fid : Go.FuncId) (a1_c0 : V) (a1_hok : ∀ j x0, EV j a1_fid [(i5 x0), V.pro a1_c0] = (a1 j x0).map fun b => ((Bo b), [])) (K0 : Int → Option Int) (Kst : X × St → Option (V × List V)) (hK0 : ∀ (y0 : Int), Kst (X.exit 0, ⟨[(0, (b4 a0)), (1, (V.fn a1_fid [] [V.pro a1_c0])), (7, (I (a0.length : Int))), (8, (I y0)), (9, (Bo false))], [], 19⟩) = (K0 y0).map M9) (hret : ∀ s, Kst (X.ret, s) = D4 prog 19 [(b4 a0), (V.fn a1_fid [] [V.pro a1_c0])] [] [.tmp 4] (X.ret, s)) :
  ∀ (m : Nat) (x4 : Int), (B5 (s7 prog (EV k) xu k xr) m ⟨[(0, (b4 a0)), (1, (V.fn a1_fid [] [V.pro a1_c0])), (7, (I (a0.length : Int))), (8, (I x4))], [], 19⟩).bind Kst = (C4 k a0 a1 K0 m x4).map M9 := by
 intro m
 induction m with
 | zero => intros; rfl
 | succ m ih =>
  intro x4
  unfold C4
  refine et l8 <| kra [(9, (Bo (decide (x4 < (a0.length : Int)))))] rfl <| kc rfl rfl (fun hc => ?_) fun hc => ?_
  ·rw [hc]
   refine et d7 <| et (i4 rfl) <| kr ⟨[(0, (b4 a0)), (1, (V.fn a1_fid [] [V.pro a1_c0])), (5, (I x4)), (7, (I (a0.length : Int))), (8, (I x4))], [], 19⟩ rfl <| kga xq rfl (fun (o7 : Bool) => [(16, (Bo o7))]) (rd 3 [(11, (V.fn a1_fid [] [V.pro a1_c0])), (12, (b4 a0)), (13, (I x4))] rfl rfl <| rp rfl (i6 (e := i5) rfl rfl rfl underlying56 rfl (by decide)) fun v5 => bd 5 [(14, (Pr (i5 v5))), (15, (i5 v5))] rfl rfl <| rs rfl (f9 rfl rfl rfl rfl rfl (a1_hok k v5) (.inl rfl)) fun v6 => b5 rfl) fun o7 => kcl rfl rfl (fun hc => ?_) fun hc => ?_
   ·rw [hc]
    refine kr ⟨[(4, (I x4))], [], 19⟩ rfl <| et d9 <| et j7 <| et j6 <| et (hret _) ?_
    rfl
   ·rw [hc]
    exact et l9 <| et i3 <| kl ⟨[(0, (b4 a0)), (1, (V.fn a1_fid [] [V.pro a1_c0])), (7, (I (a0.length : Int))), (8, (I (Go.IntKind.wrap .i64 (x4 + 1))))], [], 19⟩ rfl <| et d8 <| ih (Go.IntKind.wrap .i64 (x4 + 1))
  ·rw [hc]
   exact et n8 <| et j1 <| hK0 x4
theorem fw (k : Nat) (a0 : (List a6)) (a1 : Nat → a6 → Option Bool) (a1_fid : Go.FuncId) (a1_c0 : V) (a1_hok : ∀ j x0, EV j a1_fid [(i5 x0), V.pro a1_c0] = (a1 j x0).map fun b => ((Bo b), [])) : EV k 125 [(b4 a0), (V.fn a1_fid [] [V.pro a1_c0])] = (M5 k a0 a1).map M9 := by
 cases k with
 | zero => rfl
 | succ k =>
  unfold M5
  refine et (i2 (c := FR) (N := 19) (regs := xu) rfl func125 rfl (by decide) rfl rfl rfl) <| kra [] rfl <| et b6 <| krp xp rfl ⟨[(0, (b4 a0)), (1, (V.fn a1_fid [] [V.pro a1_c0])), (7, (I (a0.length : Int))), (8, (I 0))], [], 19⟩ ?_ ?_
  ·exact rd 1 [(6, (b4 a0))] rfl rfl <| rl rfl (m8 (e := i5) rfl rfl rfl rfl rfl rfl underlying56) <| b5 rfl
  refine et (i4 rfl) <| et p3 ?_
  refine dE k a0 a1 a1_fid a1_c0 a1_hok _ _ ?h_slices_IndexFunc_Term_L1_0 ?hr_slices_IndexFunc_Term_L1 k 0
  ·intro y8
   refine et j3 <| kr ⟨[(4, (I (-1)))], [], 19⟩ rfl <| et d9 ?_
   rfl
  ·intro s; exact rfl
def da : Bool → V × List V := fun r => ((Bo r), [])
theorem dA (k : Nat) (a0 : (List a6)) (a1 : Nat → a6 → Option Bool) (a1_fid : Go.FuncId) (a1_c0 : V) (a1_hok : ∀ j x0, EV j a1_fid [(i5 x0), V.pro a1_c0] = (a1 j x0).map fun b => ((Bo b), [])) : EV k 106 [(b4 a0), (V.fn a1_fid [] [V.pro a1_c0])] = (A0 k a0 a1).map da := by
 cases k with
 | zero => rfl
 | succ k =>
  unfold A0
  refine et (i2 (c := FC) (N := 9) (regs := AF) rfl func106 rfl (by decide) rfl rfl rfl) <| kra [] rfl <| kg wG rfl (fun (o2 : Bool) => ⟨[(4, (Bo o2))], [], 9⟩) (rd 2 [(5, (b4 a0)), (6, (V.fn a1_fid [] [V.pro a1_c0]))] rfl rfl <| rp rfl (f9 rfl rfl rfl rfl rfl (fw k a0 a1 a1_fid a1_c0 a1_hok) (.inl rfl)) fun v1 => b5 rfl) fun o2 => et d9 ?_
  rfl
def ld : Bool → V × List V := fun r => ((Bo r), [])
theorem mv (k : Nat) (a0 : d6) (a1 : Str) : EV k 134 [(j9 a0), (Pr (Sr a1))] = (Z3 k a0 a1).map ld := by
 cases k with
 | zero => rfl
 | succ k =>
  unfold Z3
  refine et (i2 (c := FY) (N := 8) (regs := AY) rfl func134 rfl (by decide) rfl rfl rfl) <| kr ⟨[(1, (Pr (Sr a1))), (2, (Pt 2))], [(2, vS 3 (j9 a0))], 8⟩ rfl <| kr ⟨[(3, (Bo (a0.fName == a1)))], [], 8⟩ rfl <| et d9 ?_
  rfl
def ny : (Int × Bool) → V × List V := fun r => (.tup [(I r.1), (Bo r.2)], [])
theorem W0 (k : Nat) (a0 : b7) (a1 : Str) : EV k 120 [(i9 a0), (Sr a1)] = (az k a0 a1).map ny := by
 cases k with
 | zero => rfl
 | succ k =>
  unfold az
  refine et (i2 (c := FM) (N := 14) (regs := AQ) rfl func120 rfl (by decide) rfl rfl rfl) <| kr ⟨[(2, (Pt 2)), (3, (Pt 3))], [(2, vS 8 (i9 a0)), (3, vS 1 (Sr a1))], 14⟩ rfl <| kg xb rfl (fun (o2 : Int) => ⟨[(6, (I o2))], [], 14⟩) (rd 3 [(7, (V.ptr 2 0 4)), (8, (j8 a0.fFields)), (9, (V.fn 134 [] [(Pt 3)]))] rfl rfl <| rs rfl (f9 rfl rfl rfl rfl rfl (Y8 k a0.fFields (fun j x0 => (Z3 j x0 a1)) 134 (Sr a1) (fun j x0 => (mv j x0 a1))) (.inr (fun _ => rfl))) fun v1 => b5 rfl) fun o2 => kr ⟨[(4, (I o2)), (5, (Bo (decide (o2 ≥ 0))))], [], 14⟩ rfl <| et d9 ?_
  rfl
def mw : Bool → V × List V := fun r => ((Bo r), [])
theorem cM (k : Nat) (a0 : b7) (a1 : a6) : EV k 108 [(i9 a0), (i5 a1)] = (aS k a0 a1).map mw := by
 cases k with
 | zero => rfl
 | succ k =>
  unfold aS
  refine et (i2 (c := FE) (N := 37) (regs := AH) rfl func108 rfl (by decide) rfl rfl rfl) <| kr ⟨[(2, (Pt 2)), (3, (Pt 3))], [(2, vS 8 (i9 a0)), (3, vS 3 (i5 a1))], 37⟩ rfl <| kga wI rfl (fun (o2 : Int × Bool) => [(5, (I o2.1)), (6, (Bo o2.2))]) (rd 3 [(8, (i9 a0)), (9, (Pt 3)), (10, (Sr a1.fField))] rfl rfl <| rp rfl (f9 rfl rfl rfl rfl rfl (W0 k a0 a1.fField) (.inl rfl)) fun v1 => b5 rfl) fun o2 => kd wJ rfl (fun (o4 : Bool) => ⟨[(4, (Bo o4))], [], 37⟩) ?_ fun o4 => ?_
  ·refine et (j4 (p := 24) (dk := true) (t := [(2, (Pt 2)), (3, (Pt 3)), (5, (I o2.1)), (6, (Bo o2.2))]) (σ := [(2, vS 8 (i9 a0)), (3, vS 3 (i5 a1))]) (n := 37) rfl (by decide) (by decide) rfl) <| et (l5 (m := 2) (j := 2) (t' := [(2, (Pt 2)), (3, (Pt 3)), (5, (I o2.1)), (6, (Bo o2.2)), (14, (Bo o2.2)), (15, (Bo o2.2))]) rfl rfl rfl) <| m9 (fun hc => ?_) fun hc => ?_
   ·rw [hc]
    refine et (l5 (m := 5) (j := 7) (t' := [(2, (Pt 2)), (3, (Pt 3)), (5, (I o2.1)), (6, (Bo true)), (14, (Bo true)), (15, (Bo true)), (16, (V.ptr 3 0 1)), (17, (I a1.fOp)), (18, (Bo (decide (a1.fOp ≥ 1)))), (19, (Bo (decide (a1.fOp ≥ 1)))), (20, (Bo (decide (a1.fOp ≥ 1))))]) rfl rfl rfl) <| m9 (fun hc => ?_) fun hc => ?_
    ·rw [hc]
     refine et (l5 (m := 5) (j := 12) (t' := [(2, (Pt 2)), (3, (Pt 3)), (5, (I o2.1)), (6, (Bo true)), (14, (Bo true)), (15, (Bo true)), (16, (V.ptr 3 0 1)), (17, (I a1.fOp)), (18, (Bo true)), (19, (Bo true)), (20, (Bo true)), (21, (V.ptr 3 0 1)), (22, (I a1.fOp)), (23, (Bo (decide (a1.fOp ≤ 6)))), (24, (Bo (decide (a1.fOp ≤ 6)))), (25, (Bo (decide (a1.fOp ≤ 6))))]) rfl rfl rfl) <| m9 (fun hc => ?_) fun hc => ?_
     ·rw [hc]
      exact et (l5 (m := 6) (j := 18) (t' := [(2, (Pt 2)), (3, (Pt 3)), (5, (I o2.1)), (6, (Bo true)), (14, (Bo true)), (15, (Bo true)), (16, (V.ptr 3 0 1)), (17, (I a1.fOp)), (18, (Bo true)), (19, (Bo true)), (20, (Bo true)), (21, (V.ptr 3 0 1)), (22, (I a1.fOp)), (23, (Bo true)), (24, (Bo true)), (25, (Bo true)), (26, (V.ptr 3 0 2)), (27, (Sr a1.fValue)), (28, (I (a1.fValue.length : Int))), (29, (V.ptr 2 0 4)), (30, (j8 a0.fFields)), (31, (I o2.1))]) rfl rfl rfl) <| et (d5 (x := (idx a0.fFields o2.1)) (w := fun v3 => (Pr (j9 v3))) rfl rfl rfl rfl rfl (i6 (e := j9) rfl rfl rfl underlying46 rfl (by decide))) <| n5 fun v3 => l6 rfl
     ·rw [hc]
      exact l6 rfl
    ·rw [hc]
     exact l6 rfl
   ·rw [hc]
    exact l6 rfl
  refine et d9 ?_
  rfl
def jp : Bool → V × List V := fun r => ((Bo r), [])
theorem jZ (k : Nat) (a0 : a6) (a1 : b7) : EV k 107 [(i5 a0), (Pr (i9 a1))] = (N1 k a0 a1).map jp := by
 cases k with
 | zero => rfl
 | succ k =>
  unfold N1
  refine et (i2 (c := FD) (N := 8) (regs := AG) rfl func107 rfl (by decide) rfl rfl rfl) <| kr ⟨[(1, (Pr (i9 a1))), (2, (Pt 2))], [(2, vS 3 (i5 a0))], 8⟩ rfl <| kg wH rfl (fun (o2 : Bool) => ⟨[(3, (Bo o2))], [], 8⟩) (rd 2 [(4, (i9 a1)), (5, (i5 a0))] rfl rfl <| rp rfl (f9 rfl rfl rfl rfl rfl (cM k a1 a0) (.inl rfl)) fun v1 => b5 rfl) fun o2 => et d9 ?_
  rfl
def lf : Bool → V × List V := fun r => ((Bo r), [])
theorem bA (k : Nat) (a0 : (List a6)) (a1 : b7) : EV k 105 [(b4 a0), (Pr (i9 a1))] = (P6 k a0 a1).map lf := by
 cases k with
 | zero => rfl
 | succ k =>
  unfold P6
  refine et (i2 (c := FB) (N := 17) (regs := AD) rfl func105 rfl (by decide) rfl rfl rfl) <| kra [] rfl <| kg wF rfl (fun (o2 : Bool) => ⟨[(3, (Bo o2))], [], 17⟩) ?_ fun o2 => ?_
  ·refine rd 1 [(4, (b4 a0))] rfl rfl <| rl rfl (m8 (e := i5) rfl rfl rfl rfl rfl rfl underlying56) <| bd 4 [(5, (I (a0.length : Int))), (6, (Bo (decide ((a0.length : Int) < 1)))), (7, (Bo (decide ((a0.length : Int) < 1))))] rfl rfl <| m9 (fun hc => ?_) fun hc => ?_
   ·rw [hc]
    exact c9 rfl
   ·rw [hc]
    refine rd 5 [(8, (b4 a0))] rfl rfl <| rl rfl (m8 (e := i5) rfl rfl rfl rfl rfl rfl underlying56) <| bd 9 [(9, (I (a0.length : Int))), (10, (Bo (decide ((a0.length : Int) > 4)))), (11, (Bo (decide ((a0.length : Int) > 4)))), (12, (Bo (decide ((a0.length : Int) > 4))))] rfl rfl <| m9 (fun hc => ?_) fun hc => ?_
    ·rw [hc]
     exact c9 rfl
    ·rw [hc]
     exact rd 11 [(13, (b4 a0)), (14, (V.fn 107 [] [(Pr (i9 a1))]))] rfl rfl <| rs rfl (f9 rfl rfl rfl rfl rfl (dA k a0 (fun j x0 => (N1 j x0 a1)) 107 (i9 a1) (fun j x0 => (jZ j x0 a1))) (.inl rfl)) fun v1 => b5 rfl
  refine et d9 ?_
  rfl
def nz : Bool → V × List V := fun r => ((Bo r), [])
theorem L8 (k : Nat) (a0 : b7) (a1 : (List (List a6))) : EV k 74 [(i9 a0), (V.sl 0 1 (List.map b4 a1))] = (R5 k a0 a1).map nz := by
 cases k with
 | zero => rfl
 | succ k =>
  unfold R5
  refine et (i2 (c := f74c) (N := 14) (regs := GJ) rfl func74 rfl (by decide) rfl rfl rfl) <| kr ⟨[(1, (V.sl 0 1 (List.map b4 a1))), (2, (Pt 2))], [(2, vS 8 (i9 a0))], 14⟩ rfl <| kg DF rfl (fun (o2 : Bool) => ⟨[(4, (Bo o2))], [], 14⟩) ?_ fun o2 => ?_
  ·refine rd 1 [(5, (V.sl 0 1 (List.map b4 a1)))] rfl rfl <| rl rfl (m8 (e := b4) rfl rfl rfl rfl rfl rfl underlying26) <| bd 4 [(6, (I (a1.length : Int))), (7, (Bo (decide ((a1.length : Int) ≤ 4)))), (8, (Bo (decide ((a1.length : Int) ≤ 4))))] rfl rfl <| m9 (fun hc => ?_) fun hc => ?_
   ·rw [hc]
    exact rd 6 [(9, (V.sl 0 1 (List.map b4 a1))), (10, (V.fn 105 [] [(Pt 2)]))] rfl rfl <| rp rfl (f9 rfl rfl rfl rfl rfl (cZ k a1 (fun j x0 => (P6 j x0 a0)) 105 (i9 a0) (fun j x0 => (bA j x0 a0))) (.inr (fun _ => rfl))) fun v1 => b5 rfl
   ·rw [hc]
    exact c9 rfl
  refine et d9 ?_
  rfl
def nw : (Bool × Int) → V × List V := fun r => (.tup [(Bo r.1), (I r.2)], [])
theorem iH (k : Nat) (a0 : a7) (a1 : Int) (a2 : (List (List a6))) : EV k 99 [(b8 a0), (I a1), (V.sl 0 1 (List.map b4 a2))] = (ay k a0 a1 a2).map nw := by
 cases k with
 | zero => rfl
 | succ k =>
  unfold ay
  refine et (i2 (c := f99c) (N := 22) (regs := Ha) rfl func99 rfl (by decide) rfl rfl rfl) <| kr ⟨[(1, (I a1)), (2, (V.sl 0 1 (List.map b4 a2))), (3, (Pt 3))], [(3, vS 4 (b8 a0))], 22⟩ rfl <| et b6 <| kga Ev rfl (fun (o2 : Int) => [(8, (I o2))]) (rd 2 [(9, (b8 a0)), (10, (I a1))] rfl rfl <| rs rfl (f9 rfl rfl rfl rfl rfl (L7 k a0 a1) (.inl rfl)) fun v1 => b5 rfl) fun o2 => et b6 <| kra [(13, (Bo (o2 != 0)))] rfl <| kc rfl rfl (fun hc => ?_) fun hc => ?_
  ·rw [hc]
   refine et b6 <| kr ⟨[(6, (Bo false)), (7, (I o2))], [], 22⟩ rfl <| et p8 ?_
   rfl
  ·rw [hc]
   refine et d7 <| kg Ew rfl (fun (o5 : Bool × Int) => ⟨[(6, (Bo o5.1)), (7, (I o5.2))], [], 22⟩) (rd 3 [(15, (V.ptr 3 0 2)), (16, (l7 a0.fTypes)), (17, (I a1))] rfl rfl <| rp rfl (i6 (e := i9) rfl rfl rfl underlying22 rfl (by decide)) fun v3 => bd 6 [(18, (Pr (i9 v3))), (19, (i9 v3)), (20, (V.sl 0 1 (List.map b4 a2)))] rfl rfl <| rp rfl (f9 rfl rfl rfl rfl rfl (L8 k v3 a2) (.inl rfl)) fun v4 => b5 rfl) fun o5 => et d9 ?_
   rfl
def pk : (Str × Int) → V × List V := fun r => (.tup [(Sr r.1), (I r.2)], [])
theorem fz (k : Nat) (a0 : a7) (a1 : Int) (a2 : a8) : EV k 65 [(b8 a0), (I a1), (i7 a2)] = (eJ k a0 a1 a2).map pk := by
 cases k with
 | zero => rfl
 | succ k =>
  unfold eJ
  refine et (i2 (c := f65c) (N := 49) (regs := GB) rfl func65 rfl (by decide) rfl rfl rfl) <| kr ⟨[(1, (I a1)), (3, (Pt 3)), (5, (Pt 5))], [(3, vS 4 (b8 a0)), (5, vS 3 (i7 a2))], 49⟩ rfl <| et b6 <| kga Dz rfl (fun (o2 : Bool) => [(17, (Bo o2))]) (rd 2 [(14, (V.ptr 5 0 1)), (15, (Sr a2.fCodes))] rfl rfl <| rp rfl (f9 rfl rfl rfl rfl rfl (dg k a2.fCodes) (.inl rfl)) fun v1 => b5 rfl) fun o2 => kc rfl rfl (fun hc => ?_) fun hc => ?_
  ·rw [hc]
   refine et b6 <| kr ⟨[(6, (Sr ([65, 74] : Str))), (7, (I 0))], [], 49⟩ rfl <| et p8 ?_
   rfl
  ·rw [hc]
   refine et d7 <| kg DA rfl (fun (o4 : Int × Int) => ⟨[(1, (I a1)), (3, (Pt 3)), (5, (Pt 5)), (8, (I o4.1)), (9, (I o4.2))], [(3, vS 4 (b8 a0)), (5, vS 3 (i7 a2))], 49⟩) (rd 3 [(19, (b8 a0)), (20, (Pt 5)), (21, (Sr a2.fSegment))] rfl rfl <| rp rfl (f9 rfl rfl rfl rfl rfl (ik k a0 a2.fSegment) (.inl rfl)) fun v3 => b5 rfl) fun o4 => et b6 <| kr ⟨[(1, (I a1)), (3, (Pt 3)), (5, (Pt 5)), (8, (I o4.1)), (26, (Bo (o4.2 != 0)))], [(3, vS 4 (b8 a0)), (5, vS 3 (i7 a2))], 49⟩ rfl <| kc rfl rfl (fun hc => ?_) fun hc => ?_
   ·rw [hc]
    refine et b6 <| kr ⟨[(6, (Sr ([65, 67] : Str))), (7, (I 0))], [], 49⟩ rfl <| et p8 ?_
    rfl
   ·rw [hc]
    refine et d7 <| et b6 <| kr ⟨[(1, (I a1)), (3, (Pt 3)), (5, (Pt 5)), (8, (I o4.1)), (28, (Bo (decide (a1 ≥ 0))))], [(3, vS 4 (b8 a0)), (5, vS 3 (i7 a2))], 49⟩ rfl <| kc rfl rfl (fun hc => ?_) fun hc => ?_
    ·rw [hc]
     refine et b6 <| kg DB rfl (fun (o6 : Bool) => ⟨[(3, (Pt 3)), (5, (Pt 5)), (8, (I o4.1)), (10, (Bo o6))], [(3, vS 4 (b8 a0)), (5, vS 3 (i7 a2))], 49⟩) (rd 3 [(30, (b8 a0)), (31, (I a1)), (32, (I o4.1))] rfl rfl <| rp rfl (f9 rfl rfl rfl rfl rfl (nW k a0 a1 o4.1) (.inl rfl)) fun v5 => b5 rfl) fun o6 => et b6 <| kr ⟨[(3, (Pt 3)), (5, (Pt 5)), (8, (I o4.1)), (37, (Bo (!o6)))], [(3, vS 4 (b8 a0)), (5, vS 3 (i7 a2))], 49⟩ rfl <| kc rfl rfl (fun hc => ?_) fun hc => ?_
     ·rw [hc]
      refine et b6 <| kr ⟨[(6, (Sr ([65, 67] : Str))), (7, (I 0))], [], 49⟩ rfl <| et p8 ?_
      rfl
     ·rw [hc]
      refine et d7 <| et b6 <| kg tR rfl (fun (o8 : Bool) => ⟨[(8, (I o4.1)), (12, (Bo o8))], [], 49⟩) (rd 4 [(39, (b8 a0)), (40, (I o4.1)), (41, (V.ptr 5 0 2)), (42, (V.sl 0 1 (List.map b4 a2.fWhen)))] rfl rfl <| rp rfl (f9 rfl rfl rfl rfl rfl (iH k a0 o4.1 a2.fWhen) (.inl rfl)) fun v7 => b5 rfl) fun o8 => et b6 <| kr ⟨[(8, (I o4.1)), (47, (Bo (!o8)))], [], 49⟩ rfl <| kc rfl rfl (fun hc => ?_) fun hc => ?_
      ·rw [hc]
       refine et b6 <| kr ⟨[(6, (Sr ([65, 75] : Str))), (7, (I 0))], [], 49⟩ rfl <| et p8 ?_
       rfl
      ·rw [hc]
       refine et d7 <| kr ⟨[(6, (Sr ([32, 32] : Str))), (7, (I o4.1))], [], 49⟩ rfl <| et d9 ?_
       rfl
    ·rw [hc]
     refine et d7 <| et b6 <| kg tR rfl (fun (o10 : Bool) => ⟨[(8, (I o4.1)), (12, (Bo o10))], [], 49⟩) (rd 4 [(39, (b8 a0)), (40, (I o4.1)), (41, (V.ptr 5 0 2)), (42, (V.sl 0 1 (List.map b4 a2.fWhen)))] rfl rfl <| rp rfl (f9 rfl rfl rfl rfl rfl (iH k a0 o4.1 a2.fWhen) (.inl rfl)) fun v9 => b5 rfl) fun o10 => et b6 <| kr ⟨[(8, (I o4.1)), (47, (Bo (!o10)))], [], 49⟩ rfl <| kc rfl rfl (fun hc => ?_) fun hc => ?_
     ·rw [hc]
      refine et b6 <| kr ⟨[(6, (Sr ([65, 75] : Str))), (7, (I 0))], [], 49⟩ rfl <| et p8 ?_
      rfl
     ·rw [hc]
      refine et d7 <| kr ⟨[(6, (Sr ([32, 32] : Str))), (7, (I o4.1))], [], 49⟩ rfl <| et d9 ?_
      rfl
def fx : (Str × (List Int)) → V × List V := fun r => (.tup [(Sr r.1), (sI r.2)], [])
theorem ai (k : Nat) (a0 : a7) (a1 : (List a8))  (K0 : Int → (List Int) → Int → Option (Str × (List Int))) (Kst : X × St → Option (V × List V)) (hK0 : ∀ (y0 : Int) (y1 : (List Int)) (y2 : Int), Kst (X.exit 0, ⟨[(2, (Pt 2)), (6, (I y0)), (7, (V.sl 1 1 (List.map I y1))), (15, (j2 a1)), (16, (I (a1.length : Int))), (17, (I y2)), (18, (Bo false))], [(2, vS 4 (b8 a0))], 38⟩) = (K0 y0 y1 y2).map fx) (hret : ∀ s, Kst (X.ret, s) = D4 prog 38 [(b8 a0), (j2 a1)] [] [.tmp 4, .tmp 5] (X.ret, s)) :
  ∀ (m : Nat) (x7 : Int) (x8 : (List Int)) (x9 : Int), (B5 (s7 prog (EV k) EN k Cp) m ⟨[(2, (Pt 2)), (6, (I x7)), (7, (V.sl 1 1 (List.map I x8))), (15, (j2 a1)), (16, (I (a1.length : Int))), (17, (I x9))], [(2, vS 4 (b8 a0))], 38⟩).bind Kst = (S4 k a0 a1 K0 m x7 x8 x9).map fx := by
 intro m
 induction m with
 | zero => intros; rfl
 | succ m ih =>
  intro x7 x8 x9
  unfold S4
  refine et l8 <| kra [(18, (Bo (decide (x9 < (a1.length : Int)))))] rfl <| kc rfl rfl (fun hc => ?_) fun hc => ?_
  ·rw [hc]
   refine et d7 <| et (i4 rfl) <| kg Cn rfl (fun (o11 : a8) => ⟨[(2, (Pt 2)), (6, (I x7)), (7, (V.sl 1 1 (List.map I x8))), (9, (Pt 9)), (15, (j2 a1)), (16, (I (a1.length : Int))), (17, (I x9))], [(2, vS 4 (b8 a0)), (9, vS 3 (i7 o11))], 38⟩) (rs rfl (i6 (e := i7) rfl rfl rfl underlying31 rfl (by decide)) fun v10 => b5 rfl) fun o11 => kg Co rfl (fun (o13 : Str × Int) => ⟨[(2, (Pt 2)), (7, (V.sl 1 1 (List.map I x8))), (10, (Sr o13.1)), (11, (I o13.2)), (15, (j2 a1)), (16, (I (a1.length : Int))), (17, (I x9))], [(2, vS 4 (b8 a0))], 38⟩) (rd 3 [(22, (b8 a0)), (23, (I x7)), (24, (i7 o11))] rfl rfl <| rp rfl (f9 rfl rfl rfl rfl rfl (fz k a0 x7 o11) (.inl rfl)) fun v12 => b5 rfl) fun o13 => et b6 <| kra [(29, (Bo (!(o13.1 == ([32, 32] : Str)))))] rfl <| kc rfl rfl (fun hc => ?_) fun hc => ?_
   ·rw [hc]
    refine et b6 <| kr ⟨[(4, (Sr o13.1)), (5, (sI (([] : List Int))))], [], 38⟩ rfl <| et p8 <| et j7 <| et j6 <| et (hret _) ?_
    rfl
   ·rw [hc]
    exact et d7 <| kr ⟨[(2, (Pt 2)), (6, (I o13.2)), (7, (V.sl 1 1 (List.map I x8))), (11, (I o13.2)), (15, (j2 a1)), (16, (I (a1.length : Int))), (17, (I x9))], [(2, vS 4 (b8 a0))], 38⟩ rfl <| kgl yh rfl (fun (o15 : (List Int)) => ⟨[(2, (Pt 2)), (6, (I o13.2)), (7, (V.sl 1 1 (List.map I o15))), (15, (j2 a1)), (16, (I (a1.length : Int))), (17, (I x9))], [(2, vS 4 (b8 a0))], 38⟩) (ra 3 3 ⟨[(2, (Pt 2)), (6, (I o13.2)), (7, (sI x8)), (11, (I o13.2)), (15, (j2 a1)), (16, (I (a1.length : Int))), (17, (I x9)), (32, (V.sl 1 1 (List.map I x8))), (33, (I o13.2)), (34, (sI (([o13.2] : List Int))))], [(2, vS 4 (b8 a0))], 38⟩ rfl rfl rfl <| et (O6 (x := (app x8 ([o13.2] : List Int))) (w := fun v14 => ((V.sl 1 1 (List.map I v14)), _)) rfl rfl rfl rfl (nh (e := I) rfl rfl rfl rfl rfl rfl rfl rfl rfl rfl (by decide))) <| F8 fun v14 => b5 rfl) fun o15 => et i3 <| kl ⟨[(2, (Pt 2)), (6, (I o13.2)), (7, (V.sl 1 1 (List.map I o15))), (15, (j2 a1)), (16, (I (a1.length : Int))), (17, (I (Go.IntKind.wrap .i64 (x9 + 1))))], [(2, vS 4 (b8 a0))], 38⟩ rfl <| et d8 <| ih o13.2 o15 (Go.IntKind.wrap .i64 (x9 + 1))
  ·rw [hc]
   exact et n8 <| et j1 <| hK0 x7 x8 x9
theorem gI (k : Nat) (a0 : a7) (a1 : (List a8)) : EV k 36 [(b8 a0), (j2 a1)] = (fT k a0 a1).map fx := by
 cases k with
 | zero => rfl
 | succ k =>
  unfold fT
  refine et (i2 (c := f36c) (N := 38) (regs := EN) rfl func36 rfl (by decide) rfl rfl rfl) <| kr ⟨[(1, (j2 a1)), (2, (Pt 2))], [(2, vS 4 (b8 a0))], 38⟩ rfl <| et b6 <| krp Cl rfl ⟨[(1, (j2 a1)), (2, (Pt 2)), (14, (Bo (decide ((a1.length : Int) > 5))))], [(2, vS 4 (b8 a0))], 38⟩ ?_ ?_
  ·exact rd 1 [(12, (j2 a1))] rfl rfl <| rl rfl (m8 (e := i7) rfl rfl rfl rfl rfl rfl underlying31) <| b5 rfl
  refine kc rfl rfl (fun hc => ?_) fun hc => ?_
  ·rw [hc]
   refine et b6 <| kr ⟨[(4, (Sr ([65, 74] : Str))), (5, (sI (([] : List Int))))], [], 38⟩ rfl <| et p8 ?_
   rfl
  ·rw [hc]
   refine et d7 <| kr ⟨[(1, (j2 a1)), (2, (Pt 2)), (6, (I (-1)))], [(2, vS 4 (b8 a0))], 38⟩ rfl <| kra [(7, (V.sl 1 1 (List.map I ([] : List Int))))] rfl <| et b6 <| krp Cm rfl ⟨[(2, (Pt 2)), (6, (I (-1))), (7, (V.sl 1 1 (List.map I ([] : List Int)))), (15, (j2 a1)), (16, (I (a1.length : Int))), (17, (I 0))], [(2, vS 4 (b8 a0))], 38⟩ ?_ ?_
   ·exact rd 1 [(15, (j2 a1))] rfl rfl <| rl rfl (m8 (e := i7) rfl rfl rfl rfl rfl rfl underlying31) <| b5 rfl
   refine et (i4 rfl) <| et p3 ?_
   refine ai k a0 a1 _ _ ?h_ssa_check_L1_0 ?hr_ssa_check_L1 k (-1) ([] : List Int) 0
   ·intro y16 y17 y18
    refine et j3 <| kr ⟨[(4, (Sr ([32, 32] : Str))), (5, (sI y17))], [], 38⟩ rfl <| et d9 ?_
    rfl
   ·intro s; exact rfl
def pM : ((List Int) × Int) → V × List V := fun r => (.tup [(sI r.1), (I r.2)], [])
theorem bj (k : Nat) (a0 : a7) (a1 : (List a8)) : EV k 22 [(b8 a0), (j2 a1)] = (bM k a0 a1).map pM := by
 cases k with
 | zero => rfl
 | succ k =>
  unfold bM
  refine et (i2 (c := f22c) (N := 20) (regs := Gd) rfl func22 rfl (by decide) rfl rfl rfl) <| kr ⟨[(1, (j2 a1)), (2, (Pt 2))], [(2, vS 4 (b8 a0))], 20⟩ rfl <| et b6 <| kga Bz rfl (fun (o2 : Bool) => [(10, (Bo o2))]) (rd 1 [(8, (b8 a0))] rfl rfl <| rp rfl (f9 rfl rfl rfl rfl rfl (gf k a0) (.inl rfl)) fun v1 => b5 rfl) fun o2 => kc rfl rfl (fun hc => ?_) fun hc => ?_
  ·rw [hc]
   refine et b6 <| kr ⟨[(4, (sI (([] : List Int)))), (5, (I 100))], [], 20⟩ rfl <| et p8 ?_
   rfl
  ·rw [hc]
   refine et d7 <| kg BA rfl (fun (o4 : Str × (List Int)) => ⟨[(6, (Sr o4.1)), (7, (sI o4.2))], [], 20⟩) (rd 2 [(12, (b8 a0)), (13, (j2 a1))] rfl rfl <| rp rfl (f9 rfl rfl rfl rfl rfl (gI k a0 a1) (.inl rfl)) fun v3 => b5 rfl) fun o4 => et b6 <| kr ⟨[(7, (sI o4.2)), (18, (Bo (!(o4.1 == ([32, 32] : Str)))))], [], 20⟩ rfl <| kc rfl rfl (fun hc => ?_) fun hc => ?_
   ·rw [hc]
    refine et b6 <| kr ⟨[(4, (sI (([] : List Int)))), (5, (I 2))], [], 20⟩ rfl <| et p8 ?_
    rfl
   ·rw [hc]
    refine et d7 <| kr ⟨[(4, (sI o4.2)), (5, (I 0))], [], 20⟩ rfl <| et d9 ?_
    rfl
def ku : Str → V × List V := fun r => ((Sr r), [])
theorem ff (k : Nat) (s : Str) (n : Int) : EV k 23 [(Sr s), (I n)] = (strings_Repeat k s n).map ku := by
 cases k with
 | zero => rfl
 | succ k => exact (kM (ext := ext) (f := 23) rfl).trans rfl
def J4 : Int → V × List V := fun r => ((I r), [])
theorem cD (k : Nat) (a0 : (List (List (List a6)))) (a1 : Nat → (List (List a6)) → Option Bool) (a1_fid : Go.FuncId) (a1_c0 : V) (a1_hok : ∀ j x0, EV j a1_fid [(V.sl 0 1 (List.map b4 x0)), V.pro a1_c0] = (a1 j x0).map fun b => ((Bo b), [])) (K0 : Int → Option Int) (Kst : X × St → Option (V × List V)) (hK0 : ∀ (y0 : Int), Kst (X.exit 0, ⟨[(0, (V.sl 0 1 (List.map (fun x => (V.sl 0 1 (List.map b4 x))) a0))), (1, (V.fn a1_fid [] [V.pro a1_c0])), (7, (I (a0.length : Int))), (8, (I y0)), (9, (Bo false))], [], 19⟩) = (K0 y0).map J4) (hret : ∀ s, Kst (X.ret, s) = D4 prog 19 [(V.sl 0 1 (List.map (fun x => (V.sl 0 1 (List.map b4 x))) a0)), (V.fn a1_fid [] [V.pro a1_c0])] [] [.tmp 4] (X.ret, s)) :
  ∀ (m : Nat) (x4 : Int), (B5 (s7 prog (EV k) wD k wC) m ⟨[(0, (V.sl 0 1 (List.map (fun x => (V.sl 0 1 (List.map b4 x))) a0))), (1, (V.fn a1_fid [] [V.pro a1_c0])), (7, (I (a0.length : Int))), (8, (I x4))], [], 19⟩).bind Kst = (B1 k a0 a1 K0 m x4).map J4 := by
 intro m
 induction m with
 | zero => intros; rfl
 | succ m ih =>
  intro x4
  unfold B1
  refine et l8 <| kra [(9, (Bo (decide (x4 < (a0.length : Int)))))] rfl <| kc rfl rfl (fun hc => ?_) fun hc => ?_
  ·rw [hc]
   refine et d7 <| et (i4 rfl) <| kr ⟨[(0, (V.sl 0 1 (List.map (fun x => (V.sl 0 1 (List.map b4 x))) a0))), (1, (V.fn a1_fid [] [V.pro a1_c0])), (5, (I x4)), (7, (I (a0.length : Int))), (8, (I x4))], [], 19⟩ rfl <| kga wz rfl (fun (o7 : Bool) => [(16, (Bo o7))]) (rd 3 [(11, (V.fn a1_fid [] [V.pro a1_c0])), (12, (V.sl 0 1 (List.map (fun x => (V.sl 0 1 (List.map b4 x))) a0))), (13, (I x4))] rfl rfl <| rp rfl (i6 (e := (fun x => (V.sl 0 1 (List.map b4 x)))) rfl rfl rfl underlying119 rfl (by decide)) fun v5 => bd 5 [(14, (Pr (V.sl 0 1 (List.map b4 v5)))), (15, (V.sl 0 1 (List.map b4 v5)))] rfl rfl <| rs rfl (f9 rfl rfl rfl rfl rfl (a1_hok k v5) (.inl rfl)) fun v6 => b5 rfl) fun o7 => kcl rfl rfl (fun hc => ?_) fun hc => ?_
   ·rw [hc]
    refine kr ⟨[(4, (I x4))], [], 19⟩ rfl <| et d9 <| et j7 <| et j6 <| et (hret _) ?_
    rfl
   ·rw [hc]
    exact et l9 <| et i3 <| kl ⟨[(0, (V.sl 0 1 (List.map (fun x => (V.sl 0 1 (List.map b4 x))) a0))), (1, (V.fn a1_fid [] [V.pro a1_c0])), (7, (I (a0.length : Int))), (8, (I (Go.IntKind.wrap .i64 (x4 + 1))))], [], 19⟩ rfl <| et d8 <| ih (Go.IntKind.wrap .i64 (x4 + 1))
  ·rw [hc]
   exact et n8 <| et j1 <| hK0 x4
theorem eG (k : Nat) (a0 : (List (List (List a6)))) (a1 : Nat → (List (List a6)) → Option Bool) (a1_fid : Go.FuncId) (a1_c0 : V) (a1_hok : ∀ j x0, EV j a1_fid [(V.sl 0 1 (List.map b4 x0)), V.pro a1_c0] = (a1 j x0).map fun b => ((Bo b), [])) : EV k 103 [(V.sl 0 1 (List.map (fun x => (V.sl 0 1 (List.map b4 x))) a0)), (V.fn a1_fid [] [V.pro a1_c0])] = (H5 k a0 a1).map J4 := by
 cases k with
 | zero => rfl
 | succ k =>
  unfold H5
  refine et (i2 (c := Fz) (N := 19) (regs := wD) rfl func103 rfl (by decide) rfl rfl rfl) <| kra [] rfl <| et b6 <| krp wy rfl ⟨[(0, (V.sl 0 1 (List.map (fun x => (V.sl 0 1 (List.map b4 x))) a0))), (1, (V.fn a1_fid [] [V.pro a1_c0])), (7, (I (a0.length : Int))), (8, (I 0))], [], 19⟩ ?_ ?_
  ·exact rd 1 [(6, (V.sl 0 1 (List.map (fun x => (V.sl 0 1 (List.map b4 x))) a0)))] rfl rfl <| rl rfl (m8 (e := (fun x => (V.sl 0 1 (List.map b4 x)))) rfl rfl rfl rfl rfl rfl underlying119) <| b5 rfl
  refine et (i4 rfl) <| et p3 ?_
  refine cD k a0 a1 a1_fid a1_c0 a1_hok _ _ ?h_slices_IndexFunc_TermLL_L1_0 ?hr_slices_IndexFunc_TermLL_L1 k 0
  ·intro y8
   refine et j3 <| kr ⟨[(4, (I (-1)))], [], 19⟩ rfl <| et d9 ?_
   rfl
  ·intro s; exact rfl
def bJ : Bool → V × List V := fun r => ((Bo r), [])
theorem cx (k : Nat) (a0 : (List (List (List a6)))) (a1 : Nat → (List (List a6)) → Option Bool) (a1_fid : Go.FuncId) (a1_c0 : V) (a1_hok : ∀ j x0, EV j a1_fid [(V.sl 0 1 (List.map b4 x0)), V.pro a1_c0] = (a1 j x0).map fun b => ((Bo b), [])) : EV k 72 [(V.sl 0 1 (List.map (fun x => (V.sl 0 1 (List.map b4 x))) a0)), (V.fn a1_fid [] [V.pro a1_c0])] = (w8 k a0 a1).map bJ := by
 cases k with
 | zero => rfl
 | succ k =>
  unfold w8
  refine et (i2 (c := f72c) (N := 9) (regs := GH) rfl func72 rfl (by decide) rfl rfl rfl) <| kra [] rfl <| kg DD rfl (fun (o2 : Bool) => ⟨[(4, (Bo o2))], [], 9⟩) (rd 2 [(5, (V.sl 0 1 (List.map (fun x => (V.sl 0 1 (List.map b4 x))) a0))), (6, (V.fn a1_fid [] [V.pro a1_c0]))] rfl rfl <| rp rfl (f9 rfl rfl rfl rfl rfl (eG k a0 a1 a1_fid a1_c0 a1_hok) (.inl rfl)) fun v1 => b5 rfl) fun o2 => et d9 ?_
  rfl
def gw : Bool → V × List V := fun r => ((Bo r), [])
theorem gV (k : Nat) (a0 : (List (List a6))) (a1 : b7) : EV k 73 [(V.sl 0 1 (List.map b4 a0)), (Pr (i9 a1))] = (G1 k a0 a1).map gw := by
 cases k with
 | zero => rfl
 | succ k =>
  unfold G1
  refine et (i2 (c := f73c) (N := 8) (regs := GI) rfl func73 rfl (by decide) rfl rfl rfl) <| kra [] rfl <| kg DE rfl (fun (o2 : Bool) => ⟨[(3, (Bo o2))], [], 8⟩) (rd 2 [(4, (i9 a1)), (5, (V.sl 0 1 (List.map b4 a0)))] rfl rfl <| rp rfl (f9 rfl rfl rfl rfl rfl (L8 k a1 a0) (.inl rfl)) fun v1 => b5 rfl) fun o2 => et d9 ?_
  rfl
def iI : (b7 × Int) → V × List V := fun r => (.tup [(i9 r.1), (I r.2)], [])
theorem Q1 (k : Nat) (a0 : a7) (a1 : Int) (a2 : (List (List (List a6)))) : EV k 43 [(b8 a0), (I a1), (V.sl 0 1 (List.map (fun x => (V.sl 0 1 (List.map b4 x))) a2))] = (J9 k a0 a1 a2).map iI := by
 cases k with
 | zero => rfl
 | succ k =>
  unfold J9
  refine et (i2 (c := f43c) (N := 27) (regs := Gg) rfl func43 rfl (by decide) rfl rfl rfl) <| kr ⟨[(1, (I a1)), (2, (V.sl 0 1 (List.map (fun x => (V.sl 0 1 (List.map b4 x))) a2))), (3, (Pt 3)), (6, (Pt 6))], [(3, vS 4 (b8 a0)), (6, ⟨false, 8, [(V.agg [(Sr []), (I 0), (I 0), (I 0), (V.sl 2 3 (List.map j9 ([] : List d6))), (I 0), (Bo false), (Bo false)])]⟩)], 27⟩ rfl <| et b6 <| kga Cq rfl (fun (o2 : Int) => [(8, (I o2))]) (rd 2 [(10, (b8 a0)), (11, (I a1))] rfl rfl <| rs rfl (f9 rfl rfl rfl rfl rfl (L7 k a0 a1) (.inl rfl)) fun v1 => b5 rfl) fun o2 => et b6 <| kra [(14, (Bo (o2 != 0)))] rfl <| kc rfl rfl (fun hc => ?_) fun hc => ?_
  ·rw [hc]
   refine et b6 <| kr ⟨[(6, (Pt 6)), (7, (I o2))], [(6, ⟨false, 8, [(i9 ({ fName := [], fParent := 0, fMin := 0, fSize := 0, fFields := ([] : List d6), fKey := 0, fUnique := false, fLast := false } : b7))]⟩)], 27⟩ rfl <| et p8 ?_
   rfl
  ·rw [hc]
   refine et d7 <| kg Cr rfl (fun (o4 : b7) => ⟨[(2, (V.sl 0 1 (List.map (fun x => (V.sl 0 1 (List.map b4 x))) a2))), (6, (Pt 6)), (9, (Pt 9))], [(6, ⟨false, 8, [(V.agg [(Sr []), (I 0), (I 0), (I 0), (V.sl 2 3 (List.map j9 ([] : List d6))), (I 0), (Bo false), (Bo false)])]⟩), (9, vS 8 (i9 o4))], 27⟩) (rd 3 [(17, (V.ptr 3 0 2)), (18, (l7 a0.fTypes)), (19, (I a1))] rfl rfl <| rs rfl (i6 (e := i9) rfl rfl rfl underlying22 rfl (by decide)) fun v3 => b5 rfl) fun o4 => et b6 <| kg Cs rfl (fun (o6 : Bool) => ⟨[(6, (Pt 6)), (9, (Pt 9)), (24, (Bo o6))], [(6, ⟨false, 8, [(V.agg [(Sr []), (I 0), (I 0), (I 0), (V.sl 2 3 (List.map j9 ([] : List d6))), (I 0), (Bo false), (Bo false)])]⟩), (9, vS 8 (i9 o4))], 27⟩) (rd 2 [(22, (V.sl 0 1 (List.map (fun x => (V.sl 0 1 (List.map b4 x))) a2))), (23, (V.fn 73 [] [(Pt 9)]))] rfl rfl <| rs rfl (f9 rfl rfl rfl rfl rfl (cx k a2 (fun j x0 => (G1 j x0 o4)) 73 (i9 o4) (fun j x0 => (gV j x0 o4))) (.inr (fun _ => rfl))) fun v5 => b5 rfl) fun o6 => kc rfl rfl (fun hc => ?_) fun hc => ?_
   ·rw [hc]
    refine et b6 <| kr ⟨[(6, (Pt 6)), (7, (I 110))], [(6, ⟨false, 8, [(i9 ({ fName := [], fParent := 0, fMin := 0, fSize := 0, fFields := ([] : List d6), fKey := 0, fUnique := false, fLast := false } : b7))]⟩)], 27⟩ rfl <| et p8 ?_
    rfl
   ·rw [hc]
    refine et d7 <| kr ⟨[(6, (Pt 6)), (7, (I 0))], [(6, vS 8 (i9 o4))], 27⟩ rfl <| et d9 ?_
    rfl
def oP : Str → V × List V := fun r => ((Sr r), [])
theorem Z4 (k : Nat) (a0 : Int) : EV k 44 [(I a0)] = (ao k a0).map oP := by
 cases k with
 | zero => rfl
 | succ k =>
  unfold ao
  refine et (i2 (c := f44c) (N := 7) (regs := Gh) rfl func44 rfl (by decide) rfl rfl rfl) <| kra [] rfl <| kg Ct rfl (fun (o2 : Str) => ⟨[(2, (Sr o2))], [], 7⟩) (rd 3 [(3, (eStr ({ e0 := ([61, 32] : Str), e1 := ([60, 62] : Str), e2 := ([60, 32] : Str), e3 := ([60, 61] : Str), e4 := ([62, 32] : Str), e5 := ([62, 61] : Str) } : D0))), (4, (I a0)), (5, (I (Go.IntKind.wrap .i64 (a0 - 1))))] rfl rfl <| rs rfl (um (l := ([({ e0 := ([61, 32] : Str), e1 := ([60, 62] : Str), e2 := ([60, 32] : Str), e3 := ([60, 61] : Str), e4 := ([62, 32] : Str), e5 := ([62, 61] : Str) } : D0).e0, ({ e0 := ([61, 32] : Str), e1 := ([60, 62] : Str), e2 := ([60, 32] : Str), e3 := ([60, 61] : Str), e4 := ([62, 32] : Str), e5 := ([62, 61] : Str) } : D0).e1, ({ e0 := ([61, 32] : Str), e1 := ([60, 62] : Str), e2 := ([60, 32] : Str), e3 := ([60, 61] : Str), e4 := ([62, 32] : Str), e5 := ([62, 61] : Str) } : D0).e2, ({ e0 := ([61, 32] : Str), e1 := ([60, 62] : Str), e2 := ([60, 32] : Str), e3 := ([60, 61] : Str), e4 := ([62, 32] : Str), e5 := ([62, 61] : Str) } : D0).e3, ({ e0 := ([61, 32] : Str), e1 := ([60, 62] : Str), e2 := ([60, 32] : Str), e3 := ([60, 61] : Str), e4 := ([62, 32] : Str), e5 := ([62, 61] : Str) } : D0).e4, ({ e0 := ([61, 32] : Str), e1 := ([60, 62] : Str), e2 := ([60, 32] : Str), e3 := ([60, 61] : Str), e4 := ([62, 32] : Str), e5 := ([62, 61] : Str) } : D0).e5] : List Str)) (e := V.str) rfl rfl rfl underlying123 rfl rfl rfl rfl) fun v1 => b5 rfl) fun o2 => et d9 ?_
  rfl
def mT : Str → V × List V := fun r => (Sr r, [])
theorem gS (k : Nat) (s : List Str) (n : Str) : EV k 45 [(sS s), (Sr n)] = (strings_Join k s n).map mT := by
 cases k with
 | zero => rfl
 | succ k => exact (kM (ext := ext) (f := 45) rfl).trans (oi s n)
def Q6 : (Str × Int) → V × List V := fun r => (.tup [(Sr r.1), (I r.2)], [])
theorem jY (k : Nat) (a0 : a7) (a1 : Int) (a2 : (List (List a6))) (x30 : (List Str)) (x31 : Int) (o33 : (List a6))  (K0 : Int → (List Str) → Option (Str × Int)) (Kst : X × St → Option (V × List V)) (hK0 : ∀ (y0 : Int) (y1 : (List Str)), Kst (X.exit 2, ⟨[(10, (V.sl 1 1 (List.map V.str x30))), (13, (aL 13 V.str y1)), (27, (V.sl 0 1 (List.map b4 a2))), (28, (I (a2.length : Int))), (29, (I x31)), (33, (b4 o33)), (34, (I (o33.length : Int))), (35, (I y0)), (36, (Bo false))], [(13, ⟨true, 1, List.map V.str y1⟩)], 66⟩) = (K0 y0 y1).map Q6) (hret : ∀ s, Kst (X.ret, s) = D4 prog 66 [(b8 a0), (I a1), (V.sl 0 1 (List.map b4 a2))] [] [.tmp 6, .tmp 7] (X.ret, s)) :
  ∀ (m : Nat) (x43 : Int) (x44 : (List Str)), (B5 (s7 prog (EV k) zZ k BF) m ⟨[(10, (V.sl 1 1 (List.map V.str x30))), (13, (aL 13 V.str x44)), (27, (V.sl 0 1 (List.map b4 a2))), (28, (I (a2.length : Int))), (29, (I x31)), (33, (b4 o33)), (34, (I (o33.length : Int))), (35, (I x43))], [(13, ⟨true, 1, List.map V.str x44⟩)], 66⟩).bind Kst = (H9 k o33 K0 m x43 x44).map Q6 := by
 intro m
 induction m with
 | zero => intros; rfl
 | succ m ih =>
  intro x43 x44
  unfold H9
  refine et l8 <| kra [(36, (Bo (decide (x43 < (o33.length : Int)))))] rfl <| kc rfl rfl (fun hc => ?_) fun hc => ?_
  ·rw [hc]
   exact et d7 <| et (i4 rfl) <| kg xN rfl (fun (o46 : a6) => ⟨[(10, (V.sl 1 1 (List.map V.str x30))), (13, (aL 13 V.str x44)), (15, (Pt 15)), (27, (V.sl 0 1 (List.map b4 a2))), (28, (I (a2.length : Int))), (29, (I x31)), (33, (b4 o33)), (34, (I (o33.length : Int))), (35, (I x43))], [(13, ⟨true, 1, List.map V.str x44⟩), (15, vS 3 (i5 o46))], 66⟩) (rs rfl (i6 (e := i5) rfl rfl rfl underlying56 rfl (by decide)) fun v45 => b5 rfl) fun o46 => kdl xO rfl (fun (o53 : (List Str)) => ⟨[(10, (V.sl 1 1 (List.map V.str x30))), (13, (aL 13 V.str o53)), (27, (V.sl 0 1 (List.map b4 a2))), (28, (I (a2.length : Int))), (29, (I x31)), (33, (b4 o33)), (34, (I (o33.length : Int))), (35, (I x43))], [(13, ⟨true, 1, List.map V.str o53⟩)], 66⟩) (et (j4 (p := 17) (dk := true) (t := [(10, (V.sl 1 1 (List.map V.str x30))), (13, (aL 13 V.str x44)), (15, (Pt 15)), (27, (V.sl 0 1 (List.map b4 a2))), (28, (I (a2.length : Int))), (29, (I x31)), (33, (b4 o33)), (34, (I (o33.length : Int))), (35, (I x43))]) (σ := [(13, ⟨true, 1, List.map V.str x44⟩), (15, vS 3 (i5 o46))]) (n := 66) rfl (by decide) (by decide) rfl) <| et (l5 (m := 7) (j := 7) (t' := [(10, (V.sl 1 1 (List.map V.str x30))), (13, (aL 13 V.str x44)), (15, (Pt 15)), (27, (V.sl 0 1 (List.map b4 a2))), (28, (I (a2.length : Int))), (29, (I x31)), (33, (b4 o33)), (34, (I (o33.length : Int))), (35, (I x43)), (39, (aL 13 V.str x44)), (40, (Pt 15)), (41, (Sr o46.fField)), (42, (Pt 15)), (43, (Sr o46.fField)), (44, (I (o46.fField.length : Int))), (45, (I (Go.IntKind.wrap .i64 (8 - (o46.fField.length : Int)))))]) rfl rfl rfl) <| et (d5 (x := (strings_Repeat k ([32] : Str) (Go.IntKind.wrap .i64 (8 - (o46.fField.length : Int))))) (w := fun v47 => (Sr v47)) rfl rfl rfl rfl rfl (f9 rfl rfl rfl rfl rfl (ff k ([32] : Str) (Go.IntKind.wrap .i64 (8 - (o46.fField.length : Int)))) (.inl rfl))) <| n5 fun v47 => et (k0 (m := 0) (j := 8) (t' := [(10, (V.sl 1 1 (List.map V.str x30))), (13, (aL 13 V.str x44)), (15, (Pt 15)), (27, (V.sl 0 1 (List.map b4 a2))), (28, (I (a2.length : Int))), (29, (I x31)), (33, (b4 o33)), (34, (I (o33.length : Int))), (35, (I x43)), (39, (aL 13 V.str x44)), (40, (Pt 15)), (41, (Sr o46.fField)), (42, (Pt 15)), (43, (Sr o46.fField)), (44, (I (o46.fField.length : Int))), (45, (I (Go.IntKind.wrap .i64 (8 - (o46.fField.length : Int))))), (46, (Sr v47))]) rfl rfl rfl) <| et (d5 (x := (cat o46.fField v47)) (w := fun v48 => (Sr v48)) rfl rfl rfl rfl rfl (dm rfl rfl rfl)) <| n5 fun v48 => et (k0 (m := 2) (j := 11) (t' := [(10, (V.sl 1 1 (List.map V.str x30))), (13, (aL 13 V.str x44)), (15, (Pt 15)), (27, (V.sl 0 1 (List.map b4 a2))), (28, (I (a2.length : Int))), (29, (I x31)), (33, (b4 o33)), (34, (I (o33.length : Int))), (35, (I x43)), (39, (aL 13 V.str x44)), (40, (Pt 15)), (41, (Sr o46.fField)), (42, (Pt 15)), (43, (Sr o46.fField)), (44, (I (o46.fField.length : Int))), (45, (I (Go.IntKind.wrap .i64 (8 - (o46.fField.length : Int))))), (46, (Sr v47)), (47, (Sr v48)), (48, (V.ptr 15 0 1)), (49, (I o46.fOp))]) rfl rfl rfl) <| et (d5 (x := (ao k o46.fOp)) (w := fun v49 => (Sr v49)) rfl rfl rfl rfl rfl (f9 rfl rfl rfl rfl rfl (Z4 k o46.fOp) (.inl rfl))) <| n5 fun v49 => et (k0 (m := 0) (j := 12) (t' := [(10, (V.sl 1 1 (List.map V.str x30))), (13, (aL 13 V.str x44)), (15, (Pt 15)), (27, (V.sl 0 1 (List.map b4 a2))), (28, (I (a2.length : Int))), (29, (I x31)), (33, (b4 o33)), (34, (I (o33.length : Int))), (35, (I x43)), (39, (aL 13 V.str x44)), (40, (Pt 15)), (41, (Sr o46.fField)), (42, (Pt 15)), (43, (Sr o46.fField)), (44, (I (o46.fField.length : Int))), (45, (I (Go.IntKind.wrap .i64 (8 - (o46.fField.length : Int))))), (46, (Sr v47)), (47, (Sr v48)), (48, (V.ptr 15 0 1)), (49, (I o46.fOp)), (50, (Sr v49))]) rfl rfl rfl) <| et (d5 (x := (cat v48 v49)) (w := fun v50 => (Sr v50)) rfl rfl rfl rfl rfl (dm rfl rfl rfl)) <| n5 fun v50 => et (k0 (m := 2) (j := 15) (t' := [(10, (V.sl 1 1 (List.map V.str x30))), (13, (aL 13 V.str x44)), (15, (Pt 15)), (27, (V.sl 0 1 (List.map b4 a2))), (28, (I (a2.length : Int))), (29, (I x31)), (33, (b4 o33)), (34, (I (o33.length : Int))), (35, (I x43)), (39, (aL 13 V.str x44)), (40, (Pt 15)), (41, (Sr o46.fField)), (42, (Pt 15)), (43, (Sr o46.fField)), (44, (I (o46.fField.length : Int))), (45, (I (Go.IntKind.wrap .i64 (8 - (o46.fField.length : Int))))), (46, (Sr v47)), (47, (Sr v48)), (48, (V.ptr 15 0 1)), (49, (I o46.fOp)), (50, (Sr v49)), (51, (Sr v50)), (52, (V.ptr 15 0 2)), (53, (Sr o46.fValue))]) rfl rfl rfl) <| et (d5 (x := (cat v50 o46.fValue)) (w := fun v51 => (Sr v51)) rfl rfl rfl rfl rfl (dm rfl rfl rfl)) <| n5 fun v51 => et (zw (m := 0) (j := 17) (st' := ⟨[(10, (V.sl 1 1 (List.map V.str x30))), (13, (aL 13 V.str x44)), (15, (Pt 15)), (27, (V.sl 0 1 (List.map b4 a2))), (28, (I (a2.length : Int))), (29, (I x31)), (33, (b4 o33)), (34, (I (o33.length : Int))), (35, (I x43)), (39, (aL 13 V.str x44)), (40, (Pt 15)), (41, (Sr o46.fField)), (42, (Pt 15)), (43, (Sr o46.fField)), (44, (I (o46.fField.length : Int))), (45, (I (Go.IntKind.wrap .i64 (8 - (o46.fField.length : Int))))), (46, (Sr v47)), (47, (Sr v48)), (48, (V.ptr 15 0 1)), (49, (I o46.fOp)), (50, (Sr v49)), (51, (Sr v50)), (52, (V.ptr 15 0 2)), (53, (Sr o46.fValue)), (54, (Sr v51)), (55, (sS (([v51] : List Str))))], [(13, ⟨true, 1, List.map V.str x44⟩), (15, vS 3 (i5 o46))], 66⟩) rfl rfl rfl) <| et (O6 (x := (app x44 ([v51] : List Str))) (w := fun v52 => ((aL 13 V.str v52), _)) rfl rfl rfl rfl (ul (e := V.str) (l := x44) rfl rfl rfl rfl rfl rfl rfl rfl rfl rfl rfl (of_decide_eq_true rfl))) <| F8 fun v52 => b5 rfl) fun o53 => et i3 <| kl ⟨[(10, (V.sl 1 1 (List.map V.str x30))), (13, (aL 13 V.str o53)), (27, (V.sl 0 1 (List.map b4 a2))), (28, (I (a2.length : Int))), (29, (I x31)), (33, (b4 o33)), (34, (I (o33.length : Int))), (35, (I (Go.IntKind.wrap .i64 (x43 + 1))))], [(13, ⟨true, 1, List.map V.str o53⟩)], 66⟩ rfl <| et d8 <| ih (Go.IntKind.wrap .i64 (x43 + 1)) o53
  ·rw [hc]
   exact et n8 <| et j1 <| hK0 x43 x44
theorem jX (k : Nat) (a0 : a7) (a1 : Int) (a2 : (List (List a6)))  (K0 : (List Str) → Int → Option (Str × Int)) (Kst : X × St → Option (V × List V)) (hK0 : ∀ (y0 : (List Str)) (y1 : Int), Kst (X.exit 0, ⟨[(10, (V.sl 1 1 (List.map V.str y0))), (27, (V.sl 0 1 (List.map b4 a2))), (28, (I (a2.length : Int))), (29, (I y1)), (30, (Bo false))], [], 66⟩) = (K0 y0 y1).map Q6) (hret : ∀ s, Kst (X.ret, s) = D4 prog 66 [(b8 a0), (I a1), (V.sl 0 1 (List.map b4 a2))] [] [.tmp 6, .tmp 7] (X.ret, s)) :
  ∀ (m : Nat) (x30 : (List Str)) (x31 : Int), (B5 (s7 prog (EV k) zZ k BG) m ⟨[(10, (V.sl 1 1 (List.map V.str x30))), (27, (V.sl 0 1 (List.map b4 a2))), (28, (I (a2.length : Int))), (29, (I x31))], [], 66⟩).bind Kst = (F2 k a2 K0 m x30 x31).map Q6 := by
 intro m
 induction m with
 | zero => intros; rfl
 | succ m ih =>
  intro x30 x31
  unfold F2
  refine et l8 <| kra [(30, (Bo (decide (x31 < (a2.length : Int)))))] rfl <| kc rfl rfl (fun hc => ?_) fun hc => ?_
  ·rw [hc]
   refine et d7 <| et (i4 rfl) <| kg BD rfl (fun (o33 : (List a6)) => ⟨[(10, (V.sl 1 1 (List.map V.str x30))), (12, (b4 o33)), (27, (V.sl 0 1 (List.map b4 a2))), (28, (I (a2.length : Int))), (29, (I x31))], [], 66⟩) (rs rfl (i6 (e := b4) rfl rfl rfl underlying26 rfl (by decide)) fun v32 => b5 rfl) fun o33 => kr ⟨[(10, (V.sl 1 1 (List.map V.str x30))), (12, (b4 o33)), (13, (aL 13 V.str ([] : List Str))), (27, (V.sl 0 1 (List.map b4 a2))), (28, (I (a2.length : Int))), (29, (I x31))], [(13, ⟨true, 1, List.map V.str ([] : List Str)⟩)], 66⟩ rfl <| et b6 <| krp BE rfl ⟨[(10, (V.sl 1 1 (List.map V.str x30))), (13, (aL 13 V.str ([] : List Str))), (27, (V.sl 0 1 (List.map b4 a2))), (28, (I (a2.length : Int))), (29, (I x31)), (33, (b4 o33)), (34, (I (o33.length : Int))), (35, (I 0))], [(13, ⟨true, 1, List.map V.str ([] : List Str)⟩)], 66⟩ ?_ ?_
   ·exact rd 1 [(33, (b4 o33))] rfl rfl <| rl rfl (m8 (e := i5) rfl rfl rfl rfl rfl rfl underlying56) <| b5 rfl
   refine et (i4 rfl) <| et p3 ?_
   refine jY k a0 a1 a2 x30 x31 o33 _ _ ?h_match_Format_L2_0 ?hr_match_Format_L2 k 0 ([] : List Str)
   ·intro y54 y55
    exact et j3 <| kgl xP rfl (fun (o58 : (List Str)) => ⟨[(10, (V.sl 1 1 (List.map V.str o58))), (27, (V.sl 0 1 (List.map b4 a2))), (28, (I (a2.length : Int))), (29, (I x31))], [], 66⟩) (ra 2 2 ⟨[(10, (sS x30)), (13, (aL 13 V.str y55)), (27, (V.sl 0 1 (List.map b4 a2))), (28, (I (a2.length : Int))), (29, (I x31)), (33, (b4 o33)), (34, (I (o33.length : Int))), (35, (I y54)), (36, (Bo false)), (58, (V.sl 1 1 (List.map V.str x30))), (59, (aL 13 V.str y55))], [(13, ⟨true, 1, List.map V.str y55⟩)], 66⟩ rfl rfl rfl <| rp rfl (f9 rfl rfl rfl rfl (pQ (Ex (e := V.str) rfl) (by intro s i q h; cases h) (pQ rfl (by intro s i q h; cases h) rfl)) (gS k y55 ([38] : Str)) (.inr (fun _ => rfl))) fun v56 => bd 4 [(60, (Sr v56)), (61, (sS (([v56] : List Str))))] rfl rfl <| et (O6 (x := (app x30 ([v56] : List Str))) (w := fun v57 => ((V.sl 1 1 (List.map V.str v57)), _)) rfl rfl rfl rfl (nh (e := V.str) rfl rfl rfl rfl rfl rfl rfl rfl rfl rfl (by decide))) <| F8 fun v57 => b5 rfl) fun o58 => et i3 <| kl ⟨[(10, (V.sl 1 1 (List.map V.str o58))), (27, (V.sl 0 1 (List.map b4 a2))), (28, (I (a2.length : Int))), (29, (I (Go.IntKind.wrap .i64 (x31 + 1))))], [], 66⟩ rfl <| et d8 <| ih o58 (Go.IntKind.wrap .i64 (x31 + 1))
   ·intro s; exact hret s
  ·rw [hc]
   exact et n8 <| et j1 <| hK0 x30 x31
theorem gP (k : Nat) (a0 : a7) (a1 : Int) (a2 : (List (List a6))) : EV k 24 [(b8 a0), (I a1), (V.sl 0 1 (List.map b4 a2))] = (E4 k a0 a1 a2).map Q6 := by
 cases k with
 | zero => rfl
 | succ k =>
  unfold E4
  refine et (i2 (c := f24c) (N := 66) (regs := zZ) rfl func24 rfl (by decide) rfl rfl rfl) <| kr ⟨[(1, (I a1)), (2, (V.sl 0 1 (List.map b4 a2))), (3, (Pt 3))], [(3, vS 4 (b8 a0))], 66⟩ rfl <| et b6 <| kg BB rfl (fun (o2 : Int) => ⟨[(2, (V.sl 0 1 (List.map b4 a2))), (9, (I o2))], [], 66⟩) (rd 4 [(17, (b8 a0)), (18, (I a1)), (19, (V.sl 0 1 (List.map b4 a2))), (20, (V.sl 0 1 (List.map (fun x => (V.sl 0 1 (List.map b4 x))) ([a2] : List (List (List a6))))))] rfl rfl <| rp rfl (f9 rfl rfl rfl rfl rfl (Q1 k a0 a1 ([a2] : List (List (List a6)))) (.inl rfl)) fun v1 => b5 rfl) fun o2 => et b6 <| kra [(25, (Bo (o2 != 0)))] rfl <| kc rfl rfl (fun hc => ?_) fun hc => ?_
  ·rw [hc]
   refine et b6 <| kr ⟨[(6, (Sr ([] : Str))), (7, (I o2))], [], 66⟩ rfl <| et p8 ?_
   rfl
  ·rw [hc]
   refine et d7 <| kr ⟨[(2, (V.sl 0 1 (List.map b4 a2))), (10, (V.sl 1 1 (List.map V.str ([] : List Str))))], [], 66⟩ rfl <| et b6 <| krp BC rfl ⟨[(10, (V.sl 1 1 (List.map V.str ([] : List Str)))), (27, (V.sl 0 1 (List.map b4 a2))), (28, (I (a2.length : Int))), (29, (I 0))], [], 66⟩ ?_ ?_
   ·exact rd 1 [(27, (V.sl 0 1 (List.map b4 a2)))] rfl rfl <| rl rfl (m8 (e := b4) rfl rfl rfl rfl rfl rfl underlying26) <| b5 rfl
   refine et (i4 rfl) <| et p3 ?_
   refine jX k a0 a1 a2 _ _ ?h_match_Format_L1_0 ?hr_match_Format_L1 k ([] : List Str) 0
   ·intro y59 y60
    refine et j3 <| kg xQ rfl (fun (o62 : Str × Int) => ⟨[(6, (Sr o62.1)), (7, (I o62.2))], [], 66⟩) (rd 1 [(64, (sS y59))] rfl rfl <| rp rfl (f9 rfl rfl rfl rfl rfl (gS k y59 ([124] : Str)) (.inl rfl)) fun v61 => b5 rfl) fun o62 => et d9 ?_
    rfl
   ·intro s; exact rfl
def ph : (Str × Int) → V × List V := fun r => (.tup [(Sr r.1), (I r.2)], [])
theorem U2 (k : Nat) (a0 : a7) (a1 : a8) : EV k 8 [(b8 a0), (i7 a1)] = (B2 k a0 a1).map ph := by
 cases k with
 | zero => rfl
 | succ k =>
  unfold B2
  refine et (i2 (c := f8c) (N := 60) (regs := f8n) rfl func8 rfl (by decide) rfl rfl rfl) <| kr ⟨[(2, (Pt 2)), (3, (Pt 3))], [(2, vS 4 (b8 a0)), (3, vS 3 (i7 a1))], 60⟩ rfl <| kga GT rfl (fun (o2 : (List Int) × Int) => [(6, (sI o2.1)), (7, (I o2.2))]) (rd 3 [(11, (b8 a0)), (12, (i7 a1)), (13, (j2 (([a1] : List a8))))] rfl rfl <| rp rfl (f9 rfl rfl rfl rfl rfl (bj k a0 ([a1] : List a8)) (.inl rfl)) fun v1 => b5 rfl) fun o2 => et b6 <| kra [(18, (Bo (o2.2 != 0)))] rfl <| kc rfl rfl (fun hc => ?_) fun hc => ?_
  ·rw [hc]
   refine et b6 <| kr ⟨[(4, (Sr ([] : Str))), (5, (I o2.2))], [], 60⟩ rfl <| et p8 ?_
   rfl
  ·rw [hc]
   refine et d7 <| kd GU rfl (fun (o5 : Str) => ⟨[(2, (Pt 2)), (3, (Pt 3)), (6, (sI o2.1)), (8, (Sr o5))], [(2, vS 4 (b8 a0)), (3, vS 3 (i7 a1))], 60⟩) (et (j4 (p := 9) (dk := true) (t := [(2, (Pt 2)), (3, (Pt 3)), (6, (sI o2.1)), (7, (I o2.2)), (18, (Bo false))]) (σ := [(2, vS 4 (b8 a0)), (3, vS 3 (i7 a1))]) (n := 60) rfl (by decide) (by decide) rfl) <| et (l5 (m := 6) (j := 6) (t' := [(2, (Pt 2)), (3, (Pt 3)), (6, (sI o2.1)), (7, (I o2.2)), (18, (Bo false)), (20, (Pt 3)), (21, (Sr a1.fSegment)), (22, (Pt 3)), (23, (Sr a1.fSegment)), (24, (I (a1.fSegment.length : Int))), (25, (I (Go.IntKind.wrap .i64 (8 - (a1.fSegment.length : Int)))))]) rfl rfl rfl) <| et (d5 (x := (strings_Repeat k ([32] : Str) (Go.IntKind.wrap .i64 (8 - (a1.fSegment.length : Int))))) (w := fun v3 => (Sr v3)) rfl rfl rfl rfl rfl (f9 rfl rfl rfl rfl rfl (ff k ([32] : Str) (Go.IntKind.wrap .i64 (8 - (a1.fSegment.length : Int)))) (.inl rfl))) <| n5 fun v3 => et (k0 (m := 0) (j := 7) (t' := [(2, (Pt 2)), (3, (Pt 3)), (6, (sI o2.1)), (7, (I o2.2)), (18, (Bo false)), (20, (Pt 3)), (21, (Sr a1.fSegment)), (22, (Pt 3)), (23, (Sr a1.fSegment)), (24, (I (a1.fSegment.length : Int))), (25, (I (Go.IntKind.wrap .i64 (8 - (a1.fSegment.length : Int))))), (26, (Sr v3))]) rfl rfl rfl) <| et (d5 (x := (cat a1.fSegment v3)) (w := fun v4 => (Sr v4)) rfl rfl rfl rfl rfl (dm rfl rfl rfl)) <| F8 fun v4 => l6 rfl) fun o5 => et b6 <| kra [(30, (Bo (!(a1.fCodes == ([] : Str)))))] rfl <| kc rfl rfl (fun hc => ?_) fun hc => ?_
   ·rw [hc]
    refine kg GV rfl (fun (o8 : Str) => ⟨[(2, (Pt 2)), (3, (Pt 3)), (6, (sI o2.1)), (8, (Sr o8))], [(2, vS 4 (b8 a0)), (3, vS 3 (i7 a1))], 60⟩) (rd 3 [(31, (Sr o5)), (32, (V.ptr 3 0 1)), (33, (Sr a1.fCodes))] rfl rfl <| rp rfl (dm rfl rfl rfl) fun v6 => bd 4 [(34, (Sr v6))] rfl rfl <| rs rfl (dm rfl rfl rfl) fun v7 => b5 rfl) fun o8 => et b6 <| krp Fa rfl ⟨[(2, (Pt 2)), (3, (Pt 3)), (6, (sI o2.1)), (8, (Sr o8)), (39, (Bo ((a1.fWhen.length : Int) == 0)))], [(2, vS 4 (b8 a0)), (3, vS 3 (i7 a1))], 60⟩ ?_ ?_
    ·exact rd 2 [(36, (V.ptr 3 0 2)), (37, (V.sl 0 1 (List.map b4 a1.fWhen)))] rfl rfl <| rl rfl (m8 (e := b4) rfl rfl rfl rfl rfl rfl underlying26) <| b5 rfl
    refine kc rfl rfl (fun hc => ?_) fun hc => ?_
    ·rw [hc]
     refine et b6 <| kg Fb rfl (fun (o10 : Str × Int) => ⟨[(4, (Sr o10.1)), (5, (I o10.2))], [], 60⟩) (rd 1 [(40, (Sr o8))] rfl rfl <| rp rfl (dm rfl rfl rfl) fun v9 => b5 rfl) fun o10 => et p8 ?_
     rfl
    ·rw [hc]
     refine et d7 <| kd Fc rfl (fun (o13 : Int × Str) => ⟨[(7, (I o13.1)), (8, (Sr o8)), (9, (Sr o13.2))], [], 60⟩) (et (j4 (p := 12) (dk := true) (t := [(2, (Pt 2)), (3, (Pt 3)), (6, (sI o2.1)), (8, (Sr o8)), (39, (Bo false))]) (σ := [(2, vS 4 (b8 a0)), (3, vS 3 (i7 a1))]) (n := 60) rfl (by decide) (by decide) rfl) <| et (l5 (m := 2) (j := 2) (t' := [(2, (Pt 2)), (3, (Pt 3)), (6, (sI o2.1)), (8, (Sr o8)), (39, (Bo false)), (43, (b8 a0)), (44, (sI o2.1))]) rfl rfl rfl) <| et (d5 (x := (idx o2.1 0)) (w := fun v11 => (Pr (I v11))) rfl rfl rfl rfl rfl (i6 (e := I) rfl rfl rfl underlying58 rfl (by decide))) <| n5 fun v11 => et (k0 (m := 3) (j := 6) (t' := [(2, (Pt 2)), (3, (Pt 3)), (6, (sI o2.1)), (8, (Sr o8)), (39, (Bo false)), (43, (b8 a0)), (44, (sI o2.1)), (45, (Pr (I v11))), (46, (I v11)), (47, (V.ptr 3 0 2)), (48, (V.sl 0 1 (List.map b4 a1.fWhen)))]) rfl rfl rfl) <| et (d5 (x := (E4 k a0 v11 a1.fWhen)) (w := fun v12 => (V.tup [(Sr v12.1), (I v12.2)])) rfl rfl rfl rfl rfl (f9 rfl rfl rfl rfl rfl (gP k a0 v11 a1.fWhen) (.inl rfl))) <| n5 fun v12 => l6 rfl) fun o13 => et b6 <| kra [(53, (Bo (o13.1 != 0)))] rfl <| kc rfl rfl (fun hc => ?_) fun hc => ?_
     ·rw [hc]
      refine et b6 <| kr ⟨[(4, (Sr ([] : Str))), (5, (I o13.1))], [], 60⟩ rfl <| et p8 ?_
      rfl
     ·rw [hc]
      refine et d7 <| kg yA rfl (fun (o17 : Str × Int) => ⟨[(4, (Sr o17.1)), (5, (I o17.2))], [], 60⟩) (rd 1 [(55, (Sr o8))] rfl rfl <| rp rfl (dm rfl rfl rfl) fun v14 => bd 3 [(56, (Sr v14)), (57, (Sr o13.2))] rfl rfl <| rp rfl (dm rfl rfl rfl) fun v15 => bd 4 [(58, (Sr v15))] rfl rfl <| rp rfl (dm rfl rfl rfl) fun v16 => b5 rfl) fun o17 => et d9 ?_
      rfl
   ·rw [hc]
    refine et d7 <| et b6 <| krp Fa rfl ⟨[(2, (Pt 2)), (3, (Pt 3)), (6, (sI o2.1)), (8, (Sr o5)), (39, (Bo ((a1.fWhen.length : Int) == 0)))], [(2, vS 4 (b8 a0)), (3, vS 3 (i7 a1))], 60⟩ ?_ ?_
    ·exact rd 2 [(36, (V.ptr 3 0 2)), (37, (V.sl 0 1 (List.map b4 a1.fWhen)))] rfl rfl <| rl rfl (m8 (e := b4) rfl rfl rfl rfl rfl rfl underlying26) <| b5 rfl
    refine kc rfl rfl (fun hc => ?_) fun hc => ?_
    ·rw [hc]
     refine et b6 <| kg Fb rfl (fun (o19 : Str × Int) => ⟨[(4, (Sr o19.1)), (5, (I o19.2))], [], 60⟩) (rd 1 [(40, (Sr o5))] rfl rfl <| rp rfl (dm rfl rfl rfl) fun v18 => b5 rfl) fun o19 => et p8 ?_
     rfl
    ·rw [hc]
     refine et d7 <| kd Fc rfl (fun (o22 : Int × Str) => ⟨[(7, (I o22.1)), (8, (Sr o5)), (9, (Sr o22.2))], [], 60⟩) (et (j4 (p := 12) (dk := true) (t := [(2, (Pt 2)), (3, (Pt 3)), (6, (sI o2.1)), (8, (Sr o5)), (39, (Bo false))]) (σ := [(2, vS 4 (b8 a0)), (3, vS 3 (i7 a1))]) (n := 60) rfl (by decide) (by decide) rfl) <| et (l5 (m := 2) (j := 2) (t' := [(2, (Pt 2)), (3, (Pt 3)), (6, (sI o2.1)), (8, (Sr o5)), (39, (Bo false)), (43, (b8 a0)), (44, (sI o2.1))]) rfl rfl rfl) <| et (d5 (x := (idx o2.1 0)) (w := fun v20 => (Pr (I v20))) rfl rfl rfl rfl rfl (i6 (e := I) rfl rfl rfl underlying58 rfl (by decide))) <| n5 fun v20 => et (k0 (m := 3) (j := 6) (t' := [(2, (Pt 2)), (3, (Pt 3)), (6, (sI o2.1)), (8, (Sr o5)), (39, (Bo false)), (43, (b8 a0)), (44, (sI o2.1)), (45, (Pr (I v20))), (46, (I v20)), (47, (V.ptr 3 0 2)), (48, (V.sl 0 1 (List.map b4 a1.fWhen)))]) rfl rfl rfl) <| et (d5 (x := (E4 k a0 v20 a1.fWhen)) (w := fun v21 => (V.tup [(Sr v21.1), (I v21.2)])) rfl rfl rfl rfl rfl (f9 rfl rfl rfl rfl rfl (gP k a0 v20 a1.fWhen) (.inl rfl))) <| n5 fun v21 => l6 rfl) fun o22 => et b6 <| kra [(53, (Bo (o22.1 != 0)))] rfl <| kc rfl rfl (fun hc => ?_) fun hc => ?_
     ·rw [hc]
      refine et b6 <| kr ⟨[(4, (Sr ([] : Str))), (5, (I o22.1))], [], 60⟩ rfl <| et p8 ?_
      rfl
     ·rw [hc]
      refine et d7 <| kg yA rfl (fun (o26 : Str × Int) => ⟨[(4, (Sr o26.1)), (5, (I o26.2))], [], 60⟩) (rd 1 [(55, (Sr o5))] rfl rfl <| rp rfl (dm rfl rfl rfl) fun v23 => bd 3 [(56, (Sr v23)), (57, (Sr o22.2))] rfl rfl <| rp rfl (dm rfl rfl rfl) fun v24 => bd 4 [(58, (Sr v24))] rfl rfl <| rp rfl (dm rfl rfl rfl) fun v25 => b5 rfl) fun o26 => et d9 ?_
      rfl
def nv : Bool → V × List V := fun r => ((Bo r), [])
theorem ec (k : Nat)  : EV k 7 [] = (V5 k).map nv := by
 cases k with
 | zero => rfl
 | succ k =>
  unfold V5
  refine et (i2 (c := f7c) (N := 36) (regs := f7n) rfl func7 rfl (by decide) rfl rfl rfl) <| kra [] rfl <| kr ⟨[(1, (Pt 1))], [(1, ⟨false, 3, [(i7 ({ fSegment := ([79, 82, 68, 69, 82] : Str), fCodes := ([68] : Str), fWhen := ([([({ fField := ([79, 82, 68, 78, 79] : Str), fOp := 1, fValue := ([48, 48, 48, 53] : Str) } : a6)] : List a6)] : List (List a6)) } : a8))]⟩)], 36⟩ rfl <| kd GL rfl (fun (o3 : Str × Int) => ⟨[(2, (Sr o3.1)), (3, (I o3.2))], [], 36⟩) (et (j4 (p := 8) (dk := true) (t := [(1, (Pt 1))]) (σ := [(1, ⟨false, 3, [(i7 ({ fSegment := ([79, 82, 68, 69, 82] : Str), fCodes := ([68] : Str), fWhen := ([([({ fField := ([79, 82, 68, 78, 79] : Str), fOp := 1, fValue := ([48, 48, 48, 53] : Str) } : a6)] : List a6)] : List (List a6)) } : a8))]⟩)]) (n := 36) rfl (by decide) (by decide) rfl) <| et (d5 (x := (bu k)) (w := fun v1 => (b8 v1)) rfl rfl rfl rfl rfl (f9 rfl rfl rfl rfl rfl (jB k) (.inl rfl))) <| n5 fun v1 => et (k0 (m := 1) (j := 2) (t' := [(1, (Pt 1)), (11, (b8 v1)), (12, (i7 ({ fSegment := ([79, 82, 68, 69, 82] : Str), fCodes := ([68] : Str), fWhen := ([([({ fField := ([79, 82, 68, 78, 79] : Str), fOp := 1, fValue := ([48, 48, 48, 53] : Str) } : a6)] : List a6)] : List (List a6)) } : a8)))]) rfl rfl rfl) <| et (d5 (x := (B2 k v1 ({ fSegment := ([79, 82, 68, 69, 82] : Str), fCodes := ([68] : Str), fWhen := ([([({ fField := ([79, 82, 68, 78, 79] : Str), fOp := 1, fValue := ([48, 48, 48, 53] : Str) } : a6)] : List a6)] : List (List a6)) } : a8))) (w := fun v2 => (V.tup [(Sr v2.1), (I v2.2)])) rfl rfl rfl rfl rfl (f9 rfl rfl rfl rfl rfl (U2 k v1 ({ fSegment := ([79, 82, 68, 69, 82] : Str), fCodes := ([68] : Str), fWhen := ([([({ fField := ([79, 82, 68, 78, 79] : Str), fOp := 1, fValue := ([48, 48, 48, 53] : Str) } : a6)] : List a6)] : List (List a6)) } : a8)) (.inl rfl))) <| n5 fun v2 => l6 rfl) fun o3 => kga GM rfl (fun (o6 : Str × Int) => [(4, (Sr o6.1)), (5, (I o6.2))]) (rp rfl (f9 rfl rfl rfl rfl rfl (jB k) (.inl rfl)) fun v4 => bd 2 [(17, (b8 v4)), (18, (i7 ({ fSegment := ([67, 85, 83, 84] : Str), fCodes := [], fWhen := ([] : List (List a6)) } : a8)))] rfl rfl <| rp rfl (f9 rfl rfl rfl rfl rfl (U2 k v4 ({ fSegment := ([67, 85, 83, 84] : Str), fCodes := [], fWhen := ([] : List (List a6)) } : a8)) (.inl rfl)) fun v5 => b5 rfl) fun o6 => kg GN rfl (fun (o7 : Bool) => ⟨[(0, (Bo o7))], [], 36⟩) ?_ fun o7 => ?_
  ·refine rd 3 [(22, (I o3.2)), (23, (Bo (o3.2 == 0))), (24, (Bo (o3.2 == 0)))] rfl rfl <| m9 (fun hc => ?_) fun hc => ?_
   ·rw [hc]
    refine rd 7 [(25, (I o6.2)), (26, (Bo (o6.2 == 0))), (27, (Bo (o6.2 == 0))), (28, (Bo (o6.2 == 0)))] rfl rfl <| m9 (fun hc => ?_) fun hc => ?_
    ·rw [hc]
     refine rd 11 [(29, (Sr o3.1)), (30, (Bo (o3.1 == ([79, 82, 68, 69, 82, 32, 32, 32, 42, 68, 40, 79, 82, 68, 78, 79, 32, 32, 32, 61, 32, 48, 48, 48, 53, 41] : Str)))), (31, (Bo (o3.1 == ([79, 82, 68, 69, 82, 32, 32, 32, 42, 68, 40, 79, 82, 68, 78, 79, 32, 32, 32, 61, 32, 48, 48, 48, 53, 41] : Str)))), (32, (Bo (o3.1 == ([79, 82, 68, 69, 82, 32, 32, 32, 42, 68, 40, 79, 82, 68, 78, 79, 32, 32, 32, 61, 32, 48, 48, 48, 53, 41] : Str))))] rfl rfl <| m9 (fun hc => ?_) fun hc => ?_
     ·rw [hc]
      exact c9 rfl
     ·rw [hc]
      exact c9 rfl
    ·rw [hc]
     exact c9 rfl
   ·rw [hc]
    exact c9 rfl
  refine et d9 ?_
  rfl
def gZ : Str → V × List V := fun r => (Sr r, [])
theorem cF (k : Nat) (s n : Str) : EV k 53 [(Sr s), (Sr n)] = (F0 k s n).map gZ := by
 cases k with
 | zero => rfl
 | succ k => exact (kM (ext := ext) (f := 53) rfl).trans rfl
def eo : (a6 × Str × Bool) → V × List V := fun r => (.tup [(i5 r.1), (Sr r.2.1), (Bo r.2.2)], [])
theorem my (k : Nat) (a0 : b7) (a1 : Str) (o3 : Str)  (K0 : Int → Option (a6 × Str × Bool)) (Kst : X × St → Option (V × List V)) (hK0 : ∀ (y0 : Int), Kst (X.exit 0, ⟨[(1, (Sr a1)), (2, (Pt 2)), (4, (Pt 4)), (29, (Bo false))], [(2, vS 8 (i9 a0)), (4, ⟨false, 3, [(V.agg [(Sr o3), (I y0), (Sr [])])]⟩)], 70⟩) = (K0 y0).map eo) (hret : ∀ s, Kst (X.ret, s) = D4 prog 70 [(i9 a0), (Sr a1)] [] [.cell 4 55, .tmp 5, .tmp 6] (X.ret, s)) :
  ∀ (m : Nat) (x7 : Int), (B5 (s7 prog (EV k) Fe k Ej) m ⟨[(1, (Sr a1)), (2, (Pt 2)), (4, (Pt 4))], [(2, vS 8 (i9 a0)), (4, ⟨false, 3, [(V.agg [(Sr o3), (I x7), (Sr [])])]⟩)], 70⟩).bind Kst = (G7 k a1 K0 m x7).map eo := by
 intro m
 induction m with
 | zero => intros; rfl
 | succ m ih =>
  intro x7
  unfold G7
  refine et l8 <| et b6 <| kd Ee rfl (fun (o10 : Bool) => ⟨[(1, (Sr a1)), (2, (Pt 2)), (4, (Pt 4)), (29, (Bo o10))], [(2, vS 8 (i9 a0)), (4, ⟨false, 3, [(V.agg [(Sr o3), (I x7), (Sr [])])]⟩)], 70⟩) ?_ fun o10 => ?_
  ·refine et (j4 (p := 11) (dk := true) (t := [(1, (Sr a1)), (2, (Pt 2)), (4, (Pt 4))]) (σ := [(2, vS 8 (i9 a0)), (4, ⟨false, 3, [(V.agg [(Sr o3), (I x7), (Sr [])])]⟩)]) (n := 70) rfl (by decide) (by decide) rfl) <| et (l5 (m := 4) (j := 4) (t' := [(1, (Sr a1)), (2, (Pt 2)), (4, (Pt 4)), (19, (V.ptr 4 0 1)), (20, (I x7)), (21, (Bo (decide (x7 ≤ 6)))), (22, (Bo (decide (x7 ≤ 6))))]) rfl rfl rfl) <| m9 (fun hc => ?_) fun hc => ?_
   ·rw [hc]
    exact et (l5 (m := 2) (j := 6) (t' := [(1, (Sr a1)), (2, (Pt 2)), (4, (Pt 4)), (19, (V.ptr 4 0 1)), (20, (I x7)), (21, (Bo true)), (22, (Bo true)), (23, (V.ptr 4 0 1)), (24, (I x7))]) rfl rfl rfl) <| et (d5 (x := (ao k x7)) (w := fun v8 => (Sr v8)) rfl rfl rfl rfl rfl (f9 rfl rfl rfl rfl rfl (Z4 k x7) (.inl rfl))) <| n5 fun v8 => et (k0 (m := 1) (j := 8) (t' := [(1, (Sr a1)), (2, (Pt 2)), (4, (Pt 4)), (19, (V.ptr 4 0 1)), (20, (I x7)), (21, (Bo true)), (22, (Bo true)), (23, (V.ptr 4 0 1)), (24, (I x7)), (25, (Sr v8)), (26, (Sr a1))]) rfl rfl rfl) <| et (d5 (x := (cut a1 8 10)) (w := fun v9 => (Sr v9)) rfl rfl rfl rfl rfl (u6 rfl rfl rfl rfl rfl rfl underlying9)) <| n5 fun v9 => l6 rfl
   ·rw [hc]
    exact l6 rfl
  refine kc rfl rfl (fun hc => ?_) fun hc => ?_
  ·rw [hc]
   exact et d7 <| et (I5 rfl) <| kl ⟨[(1, (Sr a1)), (2, (Pt 2)), (4, (Pt 4))], [(2, vS 8 (i9 a0)), (4, ⟨false, 3, [(V.agg [(Sr o3), (I (Go.IntKind.wrap .i64 (x7 + 1))), (Sr [])])]⟩)], 70⟩ rfl <| et i3 <| et l9 <| et d8 <| ih (Go.IntKind.wrap .i64 (x7 + 1))
  ·rw [hc]
   exact et n8 <| et j1 <| hK0 x7
theorem fl (k : Nat) (a0 : b7) (a1 : Str) : EV k 94 [(i9 a0), (Sr a1)] = (en k a0 a1).map eo := by
 cases k with
 | zero => rfl
 | succ k =>
  unfold en
  refine et (i2 (c := f94c) (N := 70) (regs := Fe) rfl func94 rfl (by decide) rfl rfl rfl) <| kr ⟨[(1, (Sr a1)), (2, (Pt 2)), (4, (Pt 4))], [(2, vS 8 (i9 a0)), (4, ⟨false, 3, [(V.agg [(Sr []), (I 0), (Sr [])])]⟩)], 70⟩ rfl <| et b6 <| kra [(12, (Bo (decide ((a1.length : Int) < 10))))] rfl <| kc rfl rfl (fun hc => ?_) fun hc => ?_
  ·rw [hc]
   refine et b6 <| kr ⟨[(4, (Pt 4)), (5, (Sr ([] : Str))), (6, (Bo false))], [(4, ⟨false, 3, [(i5 ({ fField := [], fOp := 0, fValue := [] } : a6))]⟩)], 70⟩ rfl <| et p8 ?_
   rfl
  ·rw [hc]
   refine et d7 <| kg Ed rfl (fun (o3 : Str) => ⟨[(1, (Sr a1)), (2, (Pt 2)), (4, (Pt 4))], [(2, vS 8 (i9 a0)), (4, ⟨false, 3, [(V.agg [(Sr o3), (I 0), (Sr [])])]⟩)], 70⟩) (rd 1 [(14, (Sr a1))] rfl rfl <| rp rfl (u6 rfl rfl rfl rfl rfl rfl underlying9) fun v1 => bd 2 [(15, (Sr v1))] rfl rfl <| rs rfl (f9 rfl rfl rfl rfl rfl (cF k v1 ([32] : Str)) (.inl rfl)) fun v2 => b5 rfl) fun o3 => kr ⟨[(1, (Sr a1)), (2, (Pt 2)), (4, (Pt 4))], [(2, vS 8 (i9 a0)), (4, ⟨false, 3, [(V.agg [(Sr o3), (I 1), (Sr [])])]⟩)], 70⟩ rfl <| et (i4 rfl) <| et p3 ?_
   refine my k a0 a1 o3 _ _ ?h_match_take_L1_0 ?hr_match_take_L1 k 1
   ·intro y11
    refine et j3 <| kg Eh rfl (fun (o13 : Int × Bool) => ⟨[(1, (Sr a1)), (2, (Pt 2)), (4, (Pt 4)), (7, (I o13.1)), (8, (Bo o13.2))], [(2, vS 8 (i9 a0)), (4, ⟨false, 3, [(V.agg [(Sr o3), (I y11), (Sr [])])]⟩)], 70⟩) (rd 3 [(35, (i9 a0)), (36, (Pt 4)), (37, (Sr o3))] rfl rfl <| rp rfl (f9 rfl rfl rfl rfl rfl (W0 k a0 o3) (.inl rfl)) fun v12 => b5 rfl) fun o13 => et b6 <| kg Ei rfl (fun (o14 : Bool) => ⟨[(1, (Sr a1)), (2, (Pt 2)), (4, (Pt 4)), (7, (I o13.1)), (47, (Bo o14))], [(2, vS 8 (i9 a0)), (4, ⟨false, 3, [(V.agg [(Sr o3), (I y11), (Sr [])])]⟩)], 70⟩) ?_ fun o14 => ?_
    ·refine rd 3 [(41, (Bo o13.2)), (42, (Bo (!o13.2))), (43, (Bo (!o13.2)))] rfl rfl <| m9 (fun hc => ?_) fun hc => ?_
     ·rw [hc]
      exact c9 rfl
     ·rw [hc]
      exact c9 rfl
    refine kc rfl rfl (fun hc => ?_) fun hc => ?_
    ·rw [hc]
     refine et b6 <| kr ⟨[(4, (Pt 4)), (5, (Sr ([] : Str))), (6, (Bo false))], [(4, ⟨false, 3, [(i5 ({ fField := [], fOp := 0, fValue := [] } : a6))]⟩)], 70⟩ rfl <| et p8 ?_
     rfl
    ·rw [hc]
     refine et d7 <| kg yB rfl (fun (o16 : Str) => ⟨[(1, (Sr o16)), (2, (Pt 2)), (4, (Pt 4)), (7, (I o13.1))], [(2, vS 8 (i9 a0)), (4, ⟨false, 3, [(V.agg [(Sr o3), (I y11), (Sr [])])]⟩)], 70⟩) (rd 1 [(49, (Sr a1))] rfl rfl <| rs rfl (u6 rfl rfl rfl rfl rfl rfl underlying9) fun v15 => b5 rfl) fun o16 => kg yC rfl (fun (o18 : Int) => ⟨[(1, (Sr o16)), (4, (Pt 4)), (9, (I o18))], [(4, ⟨false, 3, [(V.agg [(Sr o3), (I y11), (Sr [])])]⟩)], 70⟩) (rd 3 [(51, (V.ptr 2 0 4)), (52, (j8 a0.fFields)), (53, (I o13.1))] rfl rfl <| rp rfl (i6 (e := j9) rfl rfl rfl underlying46 rfl (by decide)) fun v17 => b5 rfl) fun o18 => et b6 <| kra [(60, (Bo (decide ((o16.length : Int) < o18))))] rfl <| kc rfl rfl (fun hc => ?_) fun hc => ?_
     ·rw [hc]
      refine et b6 <| kr ⟨[(4, (Pt 4)), (5, (Sr ([] : Str))), (6, (Bo false))], [(4, ⟨false, 3, [(i5 ({ fField := [], fOp := 0, fValue := [] } : a6))]⟩)], 70⟩ rfl <| et p8 ?_
      rfl
     ·rw [hc]
      refine et d7 <| kg yD rfl (fun (o20 : Str) => ⟨[(1, (Sr o16)), (4, (Pt 4)), (9, (I o18))], [(4, ⟨false, 3, [(V.agg [(Sr o3), (I y11), (Sr o20)])]⟩)], 70⟩) (rd 2 [(62, (Sr o16)), (63, (I o18))] rfl rfl <| rs rfl (u6 rfl rfl rfl rfl rfl rfl underlying9) fun v19 => b5 rfl) fun o20 => kd yE rfl (fun (o22 : Str × Bool × a6) => ⟨[(4, (Pt 4)), (5, (Sr o22.1)), (6, (Bo o22.2.1))], [(4, vS 3 (i5 o22.2.2))], 70⟩) (et (j4 (p := 4) (dk := false) (t := [(1, (Sr o16)), (4, (Pt 4)), (9, (I o18))]) (σ := [(4, ⟨false, 3, [(V.agg [(Sr o3), (I y11), (Sr o20)])]⟩)]) (n := 70) rfl (by decide) (by decide) rfl) <| et (l5 (m := 3) (j := 3) (t' := [(1, (Sr o16)), (4, (Pt 4)), (9, (I o18)), (66, (i5 ({ fField := o3, fOp := y11, fValue := o20 } : a6))), (67, (Sr o16)), (68, (I o18))]) rfl rfl rfl) <| et (d5 (x := (cut o16 o18 (o16.length : Int))) (w := fun v21 => (Sr v21)) rfl rfl rfl rfl rfl (u6 rfl rfl rfl rfl rfl rfl underlying9)) <| n5 fun v21 => l6 rfl) fun o22 => et d9 ?_
      rfl
   ·intro s; exact rfl
def cK : ((List (List a6)) × Int) → V × List V := fun r => (.tup [(V.sl 0 1 (List.map b4 r.1)), (I r.2)], [])
theorem lc (k : Nat) (a0 : a7) (a1 : Int) (a2 : Str)  (K0 : Str → (List (List a6)) → Option ((List (List a6)) × Int)) (Kst : X × St → Option (V × List V)) (hK0 : ∀ (y0 : Str) (y1 : (List (List a6))), Kst (X.exit 0, ⟨[(1, (I a1)), (3, (Pt 3)), (9, (V.aref 22 0 (List.map (fun x => (V.sl 1 3 (List.map i5 x))) y1).length)), (12, (Sr y0)), (52, (Bo true))], [(3, vS 4 (b8 a0)), (22, ⟨true, 1, List.map (fun x => (V.sl 1 3 (List.map i5 x))) y1⟩)], 73⟩) = (K0 y0 y1).map cK) (hret : ∀ s, Kst (X.ret, s) = D4 prog 73 [(b8 a0), (I a1), (Sr a2)] [] [.tmp 6, .tmp 7] (X.ret, s)) :
  ∀ (m : Nat) (x20 : Str) (x21 : (List (List a6))), (B5 (s7 prog (EV k) ER k CT) m ⟨[(1, (I a1)), (3, (Pt 3)), (9, (V.aref 22 0 (List.map (fun x => (V.sl 1 3 (List.map i5 x))) x21).length)), (10, (Sr x20))], [(3, vS 4 (b8 a0)), (22, ⟨true, 1, List.map (fun x => (V.sl 1 3 (List.map i5 x))) x21⟩)], 73⟩).bind Kst = (L6 k a0 a1 K0 m x20 x21).map cK := by
 intro m
 induction m with
 | zero => intros; rfl
 | succ m ih =>
  intro x20 x21
  unfold L6
  refine et l8 <| et (I5 rfl) <| kg CS rfl (fun (o24 : Str × Bool × a6) => ⟨[(1, (I a1)), (3, (Pt 3)), (9, (V.aref 22 0 (List.map (fun x => (V.sl 1 3 (List.map i5 x))) x21).length)), (11, (Pt 11)), (12, (Sr o24.1)), (13, (Bo o24.2.1))], [(3, vS 4 (b8 a0)), (11, vS 3 (i5 o24.2.2)), (22, ⟨true, 1, List.map (fun x => (V.sl 1 3 (List.map i5 x))) x21⟩)], 73⟩) (rd 3 [(25, (V.ptr 3 0 2)), (26, (l7 a0.fTypes)), (27, (I a1))] rfl rfl <| rp rfl (i6 (e := i9) rfl rfl rfl underlying22 rfl (by decide)) fun v22 => bd 6 [(28, (Pr (i9 v22))), (29, (i9 v22)), (30, (Sr x20))] rfl rfl <| rp rfl (f9 rfl rfl rfl rfl rfl (fl k v22 x20) (.inl rfl)) fun v23 => b5 rfl) fun o24 => et b6 <| kr ⟨[(1, (I a1)), (3, (Pt 3)), (9, (V.aref 22 0 (List.map (fun x => (V.sl 1 3 (List.map i5 x))) x21).length)), (11, (Pt 11)), (12, (Sr o24.1)), (36, (Bo (!o24.2.1)))], [(3, vS 4 (b8 a0)), (11, vS 3 (i5 o24.2.2)), (22, ⟨true, 1, List.map (fun x => (V.sl 1 3 (List.map i5 x))) x21⟩)], 73⟩ rfl <| kc rfl rfl (fun hc => ?_) fun hc => ?_
  ·rw [hc]
   refine et b6 <| kr ⟨[(6, (V.sl 0 1 (List.map b4 ([] : List (List a6))))), (7, (I 3))], [], 73⟩ rfl <| et p8 <| et j7 <| et j6 <| et (hret _) ?_
   rfl
  ·rw [hc]
   refine et d7 <| kd ym rfl (fun (o30 : (List (List a6))) => ⟨[(1, (I a1)), (3, (Pt 3)), (9, (V.aref 22 0 (List.map (fun x => (V.sl 1 3 (List.map i5 x))) o30).length)), (12, (Sr o24.1))], [(3, vS 4 (b8 a0)), (22, ⟨true, 1, List.map (fun x => (V.sl 1 3 (List.map i5 x))) o30⟩)], 73⟩) ?_ fun o30 => ?_
   ·refine et (rG (by decide)) <| rd 2 [(37, (V.aref 22 0 (List.map (fun x => (V.sl 1 3 (List.map i5 x))) x21).length)), (38, (V.aref 22 0 (List.map (fun x => (V.sl 1 3 (List.map i5 x))) x21).length))] rfl rfl <| rl rfl (uo (e := (fun x => (V.sl 1 3 (List.map i5 x)))) rfl rfl rfl rfl rfl rfl underlying26) <| bd 6 [(39, (I (x21.length : Int))), (40, (I (Go.IntKind.wrap .i64 ((x21.length : Int) - 1)))), (41, (V.aref 22 0 (List.map (fun x => (V.sl 1 3 (List.map i5 x))) x21).length)), (42, (V.aref 22 0 (List.map (fun x => (V.sl 1 3 (List.map i5 x))) x21).length))] rfl rfl <| rl rfl (uo (e := (fun x => (V.sl 1 3 (List.map i5 x)))) rfl rfl rfl rfl rfl rfl underlying26) <| bd 8 [(43, (I (x21.length : Int))), (44, (I (Go.IntKind.wrap .i64 ((x21.length : Int) - 1))))] rfl rfl <| rp rfl (zl (e := (fun x => (V.sl 1 3 (List.map i5 x)))) rfl rfl rfl underlying26 rfl rfl (by decide)) fun v25 => bd 9 [(45, (V.ptr 22 (0 + (Go.IntKind.wrap .i64 ((x21.length : Int) - 1)).toNat) 0))] rfl rfl <| et (O6 (x := (x21[0 + (Go.IntKind.wrap .i64 ((x21.length : Int) - 1)).toNat]?)) (w := fun v26 => ((V.sl 1 3 (List.map i5 v26)), _)) rfl rfl rfl rfl (Au (e := (fun x => (V.sl 1 3 (List.map i5 x)))) (e' := b4) rfl rfl rfl rfl (fun _ => rfl) (fun _ => rfl))) ?_
    refine n5 fun v26 => ba 2 12 ⟨[(1, (I a1)), (3, (Pt 3)), (9, (V.aref 22 0 (List.map (fun x => (V.sl 1 3 (List.map i5 x))) x21).length)), (11, (Pt 11)), (12, (Sr o24.1)), (36, (Bo false)), (37, (V.aref 22 0 (List.map (fun x => (V.sl 1 3 (List.map i5 x))) x21).length)), (38, (V.aref 22 0 (List.map (fun x => (V.sl 1 3 (List.map i5 x))) x21).length)), (39, (I (x21.length : Int))), (40, (I (Go.IntKind.wrap .i64 ((x21.length : Int) - 1)))), (41, (V.aref 22 0 (List.map (fun x => (V.sl 1 3 (List.map i5 x))) x21).length)), (42, (V.aref 22 0 (List.map (fun x => (V.sl 1 3 (List.map i5 x))) x21).length)), (43, (I (x21.length : Int))), (44, (I (Go.IntKind.wrap .i64 ((x21.length : Int) - 1)))), (45, (V.ptr 22 (0 + (Go.IntKind.wrap .i64 ((x21.length : Int) - 1)).toNat) 0)), (46, (V.sl 1 3 (List.map i5 v26))), (47, (i5 o24.2.2)), (48, (b4 (([o24.2.2] : List a6))))], [(3, vS 4 (b8 a0)), (11, vS 3 (i5 o24.2.2)), (22, ⟨true, 1, (List.map (fun x => (V.sl 1 3 (List.map i5 x))) x21).set (0 + (Go.IntKind.wrap .i64 ((x21.length : Int) - 1)).toNat) (b4 v26)⟩)], 73⟩ rfl rfl rfl <| et (O6 (x := (app v26 ([o24.2.2] : List a6))) (w := fun v27 => ((V.sl 1 3 (List.map i5 v27)), _)) rfl rfl rfl rfl (nh (e := i5) rfl rfl rfl rfl rfl rfl rfl rfl rfl rfl (by decide))) <| n5 fun v27 => ba 0 13 ⟨[(1, (I a1)), (3, (Pt 3)), (9, (V.aref 22 0 (List.map (fun x => (V.sl 1 3 (List.map i5 x))) x21).length)), (11, (Pt 11)), (12, (Sr o24.1)), (36, (Bo false)), (37, (V.aref 22 0 (List.map (fun x => (V.sl 1 3 (List.map i5 x))) x21).length)), (38, (V.aref 22 0 (List.map (fun x => (V.sl 1 3 (List.map i5 x))) x21).length)), (39, (I (x21.length : Int))), (40, (I (Go.IntKind.wrap .i64 ((x21.length : Int) - 1)))), (41, (V.aref 22 0 (List.map (fun x => (V.sl 1 3 (List.map i5 x))) x21).length)), (42, (V.aref 22 0 (List.map (fun x => (V.sl 1 3 (List.map i5 x))) x21).length)), (43, (I (x21.length : Int))), (44, (I (Go.IntKind.wrap .i64 ((x21.length : Int) - 1)))), (45, (V.ptr 22 (0 + (Go.IntKind.wrap .i64 ((x21.length : Int) - 1)).toNat) 0)), (46, (b4 v26)), (47, (i5 o24.2.2)), (48, (b4 (([o24.2.2] : List a6)))), (49, (V.sl 1 3 (List.map i5 v27)))], [(3, vS 4 (b8 a0)), (11, vS 3 (i5 o24.2.2)), (22, ⟨true, 1, (List.map (fun x => (V.sl 1 3 (List.map i5 x))) x21).set (0 + (Go.IntKind.wrap .i64 ((x21.length : Int) - 1)).toNat) (b4 v26)⟩)], 73⟩ rfl rfl rfl <| rp rfl (zm (l := x21) (e := (fun x => (V.sl 1 3 (List.map i5 x)))) rfl rfl rfl underlying26 rfl rfl (by decide)) fun v28 => bd 14 [(50, (V.ptr 22 (0 + (Go.IntKind.wrap .i64 ((x21.length : Int) - 1)).toNat) 0))] rfl rfl <| et (O6 (x := (x21[0 + (Go.IntKind.wrap .i64 ((x21.length : Int) - 1)).toNat]?)) (w := fun _ => (V.tup [], _)) rfl rfl rfl rfl (zo (S := (fun n_ => ⟨[(1, (I a1)), (3, (Pt 3)), (9, (V.aref 22 0 n_)), (11, (Pt 11)), (12, (Sr o24.1)), (36, (Bo false)), (37, (V.aref 22 0 n_)), (38, (V.aref 22 0 n_)), (39, (I (x21.length : Int))), (40, (I (Go.IntKind.wrap .i64 ((x21.length : Int) - 1)))), (41, (V.aref 22 0 n_)), (42, (V.aref 22 0 n_)), (43, (I (x21.length : Int))), (44, (I (Go.IntKind.wrap .i64 ((x21.length : Int) - 1)))), (45, (V.ptr 22 (0 + (Go.IntKind.wrap .i64 ((x21.length : Int) - 1)).toNat) 0)), (46, (b4 v26)), (47, (i5 o24.2.2)), (48, (b4 (([o24.2.2] : List a6)))), (49, (V.sl 1 3 (List.map i5 v27))), (50, (V.ptr 22 (0 + (Go.IntKind.wrap .i64 ((x21.length : Int) - 1)).toNat) 0))], [(3, vS 4 (b8 a0)), (11, vS 3 (i5 o24.2.2)), (22, ⟨true, 1, (List.map (fun x => (V.sl 1 3 (List.map i5 x))) x21).set (0 + (Go.IntKind.wrap .i64 ((x21.length : Int) - 1)).toNat) (b4 v26)⟩)], 73⟩)) (e := (fun x => (V.sl 1 3 (List.map i5 x)))) (l := x21) (v := v27) rfl rfl rfl rfl rfl rfl rfl rfl rfl rfl rfl)) ?_
    exact n5 fun v29 => b5 rfl
   refine et b6 <| kra [(52, (Bo (o24.1 == ([] : Str))))] rfl <| kc rfl rfl (fun hc => ?_) fun hc => ?_
   ·rw [hc]
    exact et n8 <| et (vo rfl) <| et j1 <| hK0 o24.1 o30
   ·rw [hc]
    refine et d7 <| et b6 <| kg yn rfl (fun (o32 : Int) => ⟨[(1, (I a1)), (3, (Pt 3)), (9, (V.aref 22 0 (List.map (fun x => (V.sl 1 3 (List.map i5 x))) o30).length)), (12, (Sr o24.1)), (54, (V.int .u8 o32))], [(3, vS 4 (b8 a0)), (22, ⟨true, 1, List.map (fun x => (V.sl 1 3 (List.map i5 x))) o30⟩)], 73⟩) (rd 1 [(53, (Sr o24.1))] rfl rfl <| rs rfl (s9 rfl rfl rfl underlying9) fun v31 => b5 rfl) fun o32 => et (i4 rfl) <| kra [(55, (Bo (o32 == 38)))] rfl <| kcl rfl rfl (fun hc => ?_) fun hc => ?_
    ·rw [hc]
     exact et l9 <| et i3 <| kgl tQ rfl (fun (o34 : Str) => ⟨[(1, (I a1)), (3, (Pt 3)), (9, (V.aref 22 0 (List.map (fun x => (V.sl 1 3 (List.map i5 x))) o30).length)), (10, (Sr o34))], [(3, vS 4 (b8 a0)), (22, ⟨true, 1, List.map (fun x => (V.sl 1 3 (List.map i5 x))) o30⟩)], 73⟩) (rd 1 [(62, (Sr o24.1))] rfl rfl <| rs rfl (u6 rfl rfl rfl rfl rfl rfl underlying9) fun v33 => b5 rfl) fun o34 => et i3 <| et l9 <| et d8 <| ih o34 o30
    ·rw [hc]
     refine kr ⟨[(1, (I a1)), (3, (Pt 3)), (9, (V.aref 22 0 (List.map (fun x => (V.sl 1 3 (List.map i5 x))) o30).length)), (12, (Sr o24.1)), (57, (Bo (o32 == 124)))], [(3, vS 4 (b8 a0)), (22, ⟨true, 1, List.map (fun x => (V.sl 1 3 (List.map i5 x))) o30⟩)], 73⟩ rfl <| kcl rfl rfl (fun hc => ?_) fun hc => ?_
     ·rw [hc]
      exact kgl yo rfl (fun (o36 : (List (List a6))) => ⟨[(1, (I a1)), (3, (Pt 3)), (9, (V.aref 22 0 (List.map (fun x => (V.sl 1 3 (List.map i5 x))) o36).length)), (12, (Sr o24.1))], [(3, vS 4 (b8 a0)), (22, ⟨true, 1, List.map (fun x => (V.sl 1 3 (List.map i5 x))) o36⟩)], 73⟩) (rd 2 [(59, (V.aref 22 0 (List.map (fun x => (V.sl 1 3 (List.map i5 x))) o30).length)), (60, (V.sl 0 1 (List.map (fun x => (V.sl 1 3 (List.map i5 x))) ([([] : List a6)] : List (List a6)))))] rfl rfl <| et (O6 (x := (app o30 ([([] : List a6)] : List (List a6)))) (w := fun v35 => ((V.aref 22 0 (List.map (fun x => (V.sl 1 3 (List.map i5 x))) v35).length), _)) rfl rfl rfl rfl (ul (e := (fun x => (V.sl 1 3 (List.map i5 x)))) (l := o30) rfl rfl rfl rfl rfl rfl rfl rfl rfl rfl rfl (of_decide_eq_true rfl))) <| F8 fun v35 => b5 rfl) fun o36 => et i3 <| kgl tQ rfl (fun (o38 : Str) => ⟨[(1, (I a1)), (3, (Pt 3)), (9, (V.aref 22 0 (List.map (fun x => (V.sl 1 3 (List.map i5 x))) o36).length)), (10, (Sr o38))], [(3, vS 4 (b8 a0)), (22, ⟨true, 1, List.map (fun x => (V.sl 1 3 (List.map i5 x))) o36⟩)], 73⟩) (rd 1 [(62, (Sr o24.1))] rfl rfl <| rs rfl (u6 rfl rfl rfl rfl rfl rfl underlying9) fun v37 => b5 rfl) fun o38 => et i3 <| et l9 <| et d8 <| ih o38 o36
     ·rw [hc]
      refine kr ⟨[(6, (V.sl 0 1 (List.map b4 ([] : List (List a6))))), (7, (I 3))], [], 73⟩ rfl <| et d9 <| et j7 <| et j7 <| et j6 <| et (hret _) ?_
      rfl
theorem iG (k : Nat) (a0 : a7) (a1 : Int) (a2 : Str) : EV k 55 [(b8 a0), (I a1), (Sr a2)] = (N9 k a0 a1 a2).map cK := by
 cases k with
 | zero => rfl
 | succ k =>
  unfold N9
  refine et (i2 (c := f55c) (N := 73) (regs := ER) rfl func55 rfl (by decide) rfl rfl rfl) <| kr ⟨[(1, (I a1)), (2, (Sr a2)), (3, (Pt 3))], [(3, vS 4 (b8 a0))], 73⟩ rfl <| et b6 <| kga CR rfl (fun (o2 : Int) => [(8, (I o2))]) (rd 2 [(14, (b8 a0)), (15, (I a1))] rfl rfl <| rs rfl (f9 rfl rfl rfl rfl rfl (L7 k a0 a1) (.inl rfl)) fun v1 => b5 rfl) fun o2 => et b6 <| kra [(18, (Bo (o2 != 0)))] rfl <| kc rfl rfl (fun hc => ?_) fun hc => ?_
  ·rw [hc]
   refine et b6 <| kr ⟨[(6, (V.sl 0 1 (List.map b4 ([] : List (List a6))))), (7, (I o2))], [], 73⟩ rfl <| et p8 ?_
   rfl
  ·rw [hc]
   refine et d7 <| et b6 <| kr ⟨[(1, (I a1)), (2, (Sr a2)), (3, (Pt 3)), (21, (Bo (a2 == ([] : Str))))], [(3, vS 4 (b8 a0))], 73⟩ rfl <| kc rfl rfl (fun hc => ?_) fun hc => ?_
   ·rw [hc]
    refine et b6 <| kr ⟨[(6, (V.sl 0 1 (List.map b4 ([] : List (List a6))))), (7, (I 0))], [], 73⟩ rfl <| et p8 ?_
    rfl
   ·rw [hc]
    refine et d7 <| kr ⟨[(1, (I a1)), (2, (Sr a2)), (3, (Pt 3)), (9, (V.aref 22 0 (List.map (fun x => (V.sl 1 3 (List.map i5 x))) ([([] : List a6)] : List (List a6))).length)), (22, (V.aref 22 0 (List.map (fun x => (V.sl 1 3 (List.map i5 x))) ([([] : List a6)] : List (List a6))).length))], [(3, vS 4 (b8 a0)), (22, ⟨true, 1, List.map (fun x => (V.sl 1 3 (List.map i5 x))) ([([] : List a6)] : List (List a6))⟩)], 73⟩ rfl <| et b6 <| kr ⟨[(1, (I a1)), (3, (Pt 3)), (9, (V.aref 22 0 (List.map (fun x => (V.sl 1 3 (List.map i5 x))) ([([] : List a6)] : List (List a6))).length)), (10, (Sr a2)), (22, (V.aref 22 0 (List.map (fun x => (V.sl 1 3 (List.map i5 x))) ([([] : List a6)] : List (List a6))).length))], [(3, vS 4 (b8 a0)), (22, ⟨true, 1, List.map (fun x => (V.sl 1 3 (List.map i5 x))) ([([] : List a6)] : List (List a6))⟩)], 73⟩ rfl <| et (sE (st' := ⟨[(1, (I a1)), (3, (Pt 3)), (9, (V.aref 22 0 (List.map (fun x => (V.sl 1 3 (List.map i5 x))) ([([] : List a6)] : List (List a6))).length)), (10, (Sr a2))], [(3, vS 4 (b8 a0)), (22, ⟨true, 1, List.map (fun x => (V.sl 1 3 (List.map i5 x))) ([([] : List a6)] : List (List a6))⟩)], 73⟩) rfl) <| et p3 ?_
    refine lc k a0 a1 a2 _ _ ?h_match_Parse_L1_0 ?hr_match_Parse_L1 k a2 ([([] : List a6)] : List (List a6))
    ·intro y39 y40
     refine et j3 <| et b6 <| kg yp rfl (fun (o43 : Bool) => ⟨[(9, (V.aref 22 0 (List.map (fun x => (V.sl 1 3 (List.map i5 x))) y40).length)), (71, (Bo o43))], [(22, ⟨true, 1, List.map (fun x => (V.sl 1 3 (List.map i5 x))) y40⟩)], 73⟩) (rd 3 [(64, (V.ptr 3 0 2)), (65, (l7 a0.fTypes)), (66, (I a1))] rfl rfl <| rp rfl (i6 (e := i9) rfl rfl rfl underlying22 rfl (by decide)) fun v41 => bd 6 [(67, (Pr (i9 v41))), (68, (i9 v41)), (69, (V.aref 22 0 (List.map (fun x => (V.sl 1 3 (List.map i5 x))) y40).length))] rfl rfl <| rp rfl (f9 rfl rfl rfl rfl (pQ rfl (by intro s i q h; cases h) (pQ (Ey (e := (fun x => (V.sl 1 3 (List.map i5 x)))) (e' := b4) (fun _ => rfl) rfl) (by intro s i q h; cases h) rfl)) (L8 k v41 y40) (.inr (fun _ => rfl))) fun v42 => b5 rfl) fun o43 => kc rfl rfl (fun hc => ?_) fun hc => ?_
     ·rw [hc]
      refine et b6 <| kr ⟨[(6, (V.sl 0 1 (List.map b4 ([] : List (List a6))))), (7, (I 3))], [], 73⟩ rfl <| et p8 ?_
      rfl
     ·rw [hc]
      refine et d7 <| krp yq rfl ⟨[(6, (V.sl 0 1 (List.map b4 y40))), (7, (I 0))], [], 73⟩ ?_ ?_
      ·exact rd 1 [(72, (V.aref 22 0 (List.map (fun x => (V.sl 1 3 (List.map i5 x))) y40).length))] rfl rfl <| et (O6 (x := some ()) (w := fun _ => ((V.sl 2 1 (List.map b4 y40)), _)) rfl rfl rfl rfl (zj (e := (fun x => (V.sl 1 3 (List.map i5 x)))) (e' := b4) rfl rfl rfl rfl rfl (of_decide_eq_true rfl) (fun _ => rfl))) <| et Y5 <| b5 rfl
      refine et d9 ?_
      rfl
    ·intro s; exact rfl
def fy : (a8 × Bool) → V × List V := fun r => (.tup [(i7 r.1), (Bo r.2)], [])
theorem nI (k : Nat) (a0 : a7) (a1 : Str) (o3 : a8) (o5 : Str)  (K0 : Int → Option (a8 × Bool)) (Kst : X × St → Option (V × List V)) (hK0 : ∀ (y0 : Int), Kst (X.exit 0, ⟨[(1, (Sr a1)), (2, (Pt 2)), (4, (Pt 4)), (6, (Pt 6)), (7, (Sr o5)), (8, (I y0)), (36, (Bo false))], [(2, vS 4 (b8 a0)), (4, ⟨false, 3, [(V.agg [(Sr []), (Sr []), (V.sl 2 1 (List.map b4 ([] : List (List a6))))])]⟩), (6, vS 3 (i7 o3))], 100⟩) = (K0 y0).map fy) (hret : ∀ s, Kst (X.ret, s) = D4 prog 100 [(b8 a0), (Sr a1)] [] [.cell 4 28, .tmp 5] (X.ret, s)) :
  ∀ (m : Nat) (x11 : Int), (B5 (s7 prog (EV k) EM k BP) m ⟨[(1, (Sr a1)), (2, (Pt 2)), (4, (Pt 4)), (6, (Pt 6)), (7, (Sr o5)), (8, (I x11))], [(2, vS 4 (b8 a0)), (4, ⟨false, 3, [(V.agg [(Sr []), (Sr []), (V.sl 2 1 (List.map b4 ([] : List (List a6))))])]⟩), (6, vS 3 (i7 o3))], 100⟩).bind Kst = (O8 k o5 K0 m x11).map fy := by
 intro m
 induction m with
 | zero => intros; rfl
 | succ m ih =>
  intro x11
  unfold O8
  refine et l8 <| et b6 <| kga BN rfl (fun (o14 : Bool) => [(36, (Bo o14))]) ?_ fun o14 => ?_
  ·refine rd 5 [(26, (I x11)), (27, (Sr o5)), (28, (I (o5.length : Int))), (29, (Bo (decide (x11 < (o5.length : Int))))), (30, (Bo (decide (x11 < (o5.length : Int)))))] rfl rfl <| m9 (fun hc => ?_) fun hc => ?_
   ·rw [hc]
    exact rd 7 [(31, (Sr o5)), (32, (I x11))] rfl rfl <| rp rfl (s9 rfl rfl rfl underlying9) fun v12 => bd 8 [(33, (V.int .u8 v12))] rfl rfl <| rp rfl (f9 rfl rfl rfl rfl rfl (X0 k ([68, 76, 80] : Str) v12) (.inl rfl)) fun v13 => b5 rfl
   ·rw [hc]
    exact c9 rfl
  refine kc rfl rfl (fun hc => ?_) fun hc => ?_
  ·rw [hc]
   exact et d7 <| et (I5 rfl) <| kl ⟨[(1, (Sr a1)), (2, (Pt 2)), (4, (Pt 4)), (6, (Pt 6)), (7, (Sr o5)), (8, (I (Go.IntKind.wrap .i64 (x11 + 1))))], [(2, vS 4 (b8 a0)), (4, ⟨false, 3, [(V.agg [(Sr []), (Sr []), (V.sl 2 1 (List.map b4 ([] : List (List a6))))])]⟩), (6, vS 3 (i7 o3))], 100⟩ rfl <| et i3 <| et l9 <| et d8 <| ih (Go.IntKind.wrap .i64 (x11 + 1))
  ·rw [hc]
   exact et n8 <| et j1 <| hK0 x11
end
end Go.AE
