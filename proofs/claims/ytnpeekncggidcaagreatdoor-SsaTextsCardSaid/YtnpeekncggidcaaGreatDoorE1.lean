/- The program, function by function: the evaluator comes to the typed functions. Conditions: none. -/
import Derived.Test.YtnpeekncggidcaaGreatDoorA3
import Derived.KernelRfl
import Derived.Test.YtnpeekncggidcaaGreatDoorProg
import Derived.Test.YtnpeekncggidcaaGreatDoorB1
namespace Go.AE
open Go.Proofs.Tryz Go.Sh
set_option linter.unusedSimpArgs false
set_option linter.unusedVariables false
set_option maxRecDepth 100000
set_option maxHeartbeats 4000000
noncomputable section
abbrev Pt (n : Nat) : V := .ptr n 0 0
abbrev Bo (b : Bool) : V := .bool b
abbrev Sr (s : Str) : V := .str s
abbrev Pr (v : V) : V := .pro v
abbrev sS (l : List Str) : V := .sl 0 1 (List.map V.str l)
abbrev vS (n : Nat) (v : V) : s7 := ⟨false, n, [v]⟩
abbrev aL {α : Type} (d : Nat) (e : α → V) (l : List α) : V := .aref d 0 (List.map e l).length
theorem Bn : prog.eqGuardType prog.depth 55 = false := by kernel_rfl
theorem Ft : prog.stoodInHeld 55 = false := by kernel_rfl
def l6 (a : i4) : V := .agg [(V.str a.fName), (V.int .i64 a.fAt), (V.int .i64 a.fBytes)]
def j0 (a : b8) : V := .agg [(V.str a.fName), (V.int .i64 a.fParent), (V.int .i64 a.fMin), (V.int .i64 a.fSize), (V.sl 0 3 (List.map l6 a.fFields)), (V.int .i64 a.fKey), (V.bool a.fUnique), (V.bool a.fLast)]
def s5 (a : j1) : V := .agg [(V.str a.fName), (V.int .i64 a.fType), (V.int .i64 a.fField), (V.str a.fSparse)]
def b6 (a : a8) : V := .agg [(V.str a.fName), (V.int .i64 a.fKind), (V.sl 0 8 (List.map j0 a.fTypes)), (V.sl 0 4 (List.map s5 a.fIndexes))]
def d4 (a : a6) : V := .agg [(V.str a.fField), (V.int .i64 a.fOp), (V.str a.fValue)]
def j4 (a : b7) : V := .agg [(V.str a.fSegment), (V.str a.fCodes), (V.sl 0 1 (List.map (fun x => (V.sl 0 3 (List.map d4 x))) a.fWhen))]
def eStr (a : E5) : V := .agg [(V.str a.e0), (V.str a.e1), (V.str a.e2), (V.str a.e3), (V.str a.e4), (V.str a.e5)]
def Hl : c9 := ⟨[6, 7, 8, 9, 10, 11, 12, 13, 14, 15, 16, 17, 18, 19, 20], []⟩
def Hm : c9 := ⟨[22, 23, 24, 25], []⟩
def Hn : c9 := ⟨[26, 29, 30, 31, 32, 33, 34, 35, 36, 37, 38, 39, 40, 41, 42, 43, 44, 45], []⟩
def Ho : c9 := ⟨[47, 48, 49, 50, 51, 52, 53, 54], []⟩
def DU : c9 := ⟨[55, 58, 59, 60, 61, 62, 63, 64, 65, 66, 67, 68], []⟩
def DV : c9 := ⟨[70, 71, 72, 73], []⟩
def DW : c9 := ⟨[74, 77, 78, 79, 80, 81, 82, 83, 84, 85, 86, 87, 88, 89, 90, 91, 92, 93], []⟩
noncomputable def Hp : Code := (.seq (.seq (.region 9 (oN f5 34379) false) (.cond (.tmp 55) .skip (.exit 2))) (.seq (.block 3 (.seq (.region 11 (oN f5 140875) false) (.cond (.tmp 69) (.seq (.region 12 (oN f5 599627) false) .ret) .skip))) (.region 10 (oN f5 58955) false)))
noncomputable def Hq : Code := (.seq (.seq (.region 4 (oN f5 267) false) (.cond (.tmp 26) .skip (.exit 0))) (.seq (.block 1 (.seq (.seq (.region 6 (oN f5 2123) false) (.cond (.tmp 46) (.seq (.region 7 (oN f5 9291) false) .ret) .skip)) (.seq (.region 8 (oN f5 2635) false) (.block 2 (.loop Hp))))) (.region 5 (oN f5 459) false)))
noncomputable def Hr : Code := (.seq (.seq (.region 14 (oN f5 535) false) (.cond (.tmp 74) .skip (.exit 4))) (.seq (.block 5 (.seq (.region 16 (oN f5 2199) false) (.cond (.tmp 94) (.seq (.region 17 (oN f5 9367) false) .ret) .skip))) (.region 15 (oN f5 919) false)))
noncomputable def f5c : Code := (.seq (.region 0 (oN f5 2) false) (.seq (.seq (.region 1 (oN f5 9) false) (.cond (.tmp 21) (.seq (.region 2 (oN f5 37) false) .ret) .skip)) (.seq (.seq (.region 3 (oN f5 19) false) (.block 0 (.loop Hq))) (.seq (.seq (.region 13 (oN f5 39) false) (.block 4 (.loop Hr))) (.seq (.region 18 (oN f5 47) false) .ret)))))
def f5n : List (Nat × c9) := [(0, ⟨[0, 2], []⟩), (1, Hl), (2, ⟨[1, 21], []⟩), (3, ⟨[21], []⟩), (4, Hm), (5, ⟨[4, 27, 28, 55], []⟩), (6, Hn), (7, ⟨[1, 3, 46], []⟩), (8, ⟨[46], []⟩), (9, Ho), (10, ⟨[56, 57, 69], []⟩), (11, DU), (12, ⟨[1, 3, 4, 69], []⟩), (13, ⟨[3, 26], []⟩), (14, DV), (15, ⟨[75, 76, 94], []⟩), (16, DW), (17, ⟨[1, 5, 94], []⟩), (18, ⟨[1, 5, 74], []⟩)]
def BP : c9 := ⟨[5, 6, 7], []⟩
def BQ : c9 := ⟨[8, 11, 12, 13, 14, 15], []⟩
def BR : c9 := ⟨[17, 18, 19, 20, 21, 22], []⟩
def BS : c9 := ⟨[23, 26, 27, 28, 29, 30, 31, 32, 33, 34, 35, 36, 37, 38, 39, 40, 41, 42, 43, 44, 45, 46], []⟩
def yn : c9 := ⟨[0, 3, 8, 48, 49, 50], []⟩
noncomputable def BT : Code := (.seq (.seq (.region 7 (oN f20 17189) false) (.cond (.tmp 23) .skip (.exit 2))) (.seq (.block 3 (.seq (.region 9 (oN f20 70437) false) (.cond (.tmp 47) (.seq (.region 10 (oN f20 299813) false) .ret) .skip))) (.region 8 (oN f20 29477) false)))
noncomputable def BU : Code := (.seq (.seq (.region 2 (oN f20 133) false) (.cond (.tmp 8) .skip (.exit 0))) (.seq (.block 1 (.seq (.seq (.region 4 (oN f20 1061) false) (.cond (.tmp 16) (.seq (.region 5 (oN f20 4645) false) .ret) .skip)) (.seq (.region 6 (oN f20 1317) false) (.block 2 (.loop BT))))) (.region 3 (oN f20 229) false)))
noncomputable def f20c : Code := (.seq (.region 0 (oN f20 2) false) (.seq (.seq (.region 1 (oN f20 9) false) (.block 0 (.loop BU))) (.seq (.region 11 (oN f20 11) false) .ret)))
def AH : List (Nat × c9) := [(0, ⟨[2], []⟩), (1, ⟨[], []⟩), (2, BP), (3, ⟨[4, 9, 10, 23], []⟩), (4, BQ), (5, ⟨[0, 3, 16], []⟩), (6, ⟨[16], []⟩), (7, BR), (8, ⟨[24, 25, 47], []⟩), (9, BS), (10, ⟨[0, 3, 4, 47], []⟩), (11, yn)]
def Ht : c9 := ⟨[4, 5, 6], []⟩
def Hu : c9 := ⟨[7, 10, 11, 12, 13, 14, 15, 16, 17, 18, 19, 20, 21, 22, 23, 24, 25, 26, 27, 28, 29, 30, 31, 32], []⟩
def Hv : c9 := ⟨[0, 3, 7, 34, 35, 36], []⟩
noncomputable def Hw : Code := (.seq (.seq (.region 2 (oN f6 133) false) (.cond (.tmp 7) .skip (.exit 0))) (.seq (.block 1 (.seq (.region 4 (oN f6 549) false) (.cond (.tmp 33) (.seq (.region 5 (oN f6 2341) false) .ret) .skip))) (.region 3 (oN f6 229) false)))
noncomputable def f6c : Code := (.seq (.region 0 (oN f6 2) false) (.seq (.seq (.region 1 (oN f6 9) false) (.block 0 (.loop Hw))) (.seq (.region 6 (oN f6 11) false) .ret)))
def f6n : List (Nat × c9) := [(0, ⟨[2], []⟩), (1, ⟨[], []⟩), (2, Ht), (3, ⟨[8, 9, 33], []⟩), (4, Hu), (5, ⟨[0, 3, 33], []⟩), (6, Hv)]
noncomputable def f21c : Code := (.seq (.region 0 (oN f21 2) false) (.seq (.region 1 (oN f21 5) false) .ret))
def GV : List (Nat × c9) := [(0, ⟨[], []⟩), (1, ⟨[1, 2, 3, 4, 5, 6, 7, 8], []⟩)]
def Dk : c9 := ⟨[10, 11, 12, 13, 14, 15, 16, 17, 18, 19], []⟩
def Dl : c9 := ⟨[3, 4, 20, 21, 22, 23, 24, 25, 26, 27, 28, 29, 30, 31, 32, 33, 34, 35, 36], []⟩
def Dm : c9 := ⟨[0, 6, 7, 8, 39, 40, 41, 42, 43, 44, 45, 46], []⟩
noncomputable def Dn : Code := (.seq (.region 2 (oN f50 69) false) (.seq (.cond (.tmp 8) .skip (.exit 0)) (.seq (.block 1 (.seq (.region 3 (oN f50 1125) false) (.seq (.region 4 (oN f50 2661) false) (.seq (.region 5 (oN f50 5733) false) (.cond (.tmp 37) (.seq (.region 6 (oN f50 20069) false) .ret) .skip))))) (.region 7 (oN f50 485) false))))
noncomputable def f50c : Code := (.seq (.region 0 (oN f50 2) false) (.seq (.seq (.region 1 (oN f50 9) false) (.block 0 (.loop Dn))) (.seq (.region 8 (oN f50 11) false) .ret)))
def FE : List (Nat × c9) := [(0, ⟨[2], []⟩), (1, ⟨[5], []⟩), (2, ⟨[], []⟩), (3, ⟨[8, 9], []⟩), (4, Dk), (5, Dl), (6, ⟨[0, 6, 7, 37], []⟩), (7, ⟨[37, 38], []⟩), (8, Dm)]
def yj : c9 := ⟨[6], []⟩
def yk : c9 := ⟨[11, 12, 13, 14, 15], []⟩
noncomputable def yl : Code := (.seq (.region 2 (oN f133 69) false) (.seq (.cond (.tmp 9) .skip (.exit 0)) (.seq (.block 1 (.seq (.region 3 (oN f133 1125) false) (.seq (.region 4 (oN f133 2661) false) (.cond (.tmp 16) (.seq (.region 5 (oN f133 9829) false) .ret) .skip)))) (.region 6 (oN f133 485) false))))
noncomputable def GS : Code := (.seq (.region 0 (oN f133 2) false) (.seq (.seq (.region 1 (oN f133 9) false) (.block 0 (.loop yl))) (.seq (.region 7 (oN f133 11) false) .ret)))
def ym : List (Nat × c9) := [(0, ⟨[4], []⟩), (1, yj), (2, ⟨[], []⟩), (3, ⟨[9, 10], []⟩), (4, yk), (5, ⟨[0, 1, 5, 7, 8, 16, 17], []⟩), (6, ⟨[5, 16, 18], []⟩), (7, ⟨[0, 1, 7, 8, 9], []⟩)]
def ye : c9 := ⟨[0, 1, 5, 6, 7, 8], []⟩
noncomputable def GO : Code := (.seq (.region 0 (oN f127 2) false) (.seq (.region 1 (oN f127 5) false) .ret))
def BK : List (Nat × c9) := [(0, ⟨[4], []⟩), (1, ye)]
noncomputable def GP : Code := (.seq (.region 0 (oN f128 2) false) (.seq (.region 1 (oN f128 5) false) .ret))
def BL : List (Nat × c9) := [(0, ⟨[0, 3], []⟩), (1, ⟨[1, 2, 4, 5, 6, 7, 8], []⟩)]
def xr : c9 := ⟨[], []⟩
def xu : c9 := ⟨[10, 11, 12, 13], []⟩
def xw : c9 := ⟨[14, 15, 16, 17, 18, 19, 20, 21, 22, 23, 24, 25, 26, 27, 28, 29, 30, 31, 32, 33, 34, 35, 36, 37, 38, 39, 40, 41], []⟩
def xx : c9 := ⟨[5, 6, 42, 43, 44, 45, 46], []⟩
def xy : c9 := ⟨[0, 1, 7, 8, 9, 10, 49, 50, 51], []⟩
noncomputable def xz : Code := (.seq (.region 2 (oN f113 69) false) (.seq (.cond (.tmp 10) .skip (.exit 0)) (.seq (.block 1 (.seq (.region 3 (oN f113 1125) false) (.seq (.seq (.region 4 (oN f113 4709) false) (.cond (.tmp 42) (.seq (.region 5 (oN f113 19045) false) .ret) .skip)) (.seq (.region 6 (oN f113 5733) false) (.cond (.tmp 47) (.seq (.region 7 (oN f113 20069) false) .ret) .skip))))) (.region 8 (oN f113 485) false))))
noncomputable def GC : Code := (.seq (.region 0 (oN f113 2) false) (.seq (.seq (.region 1 (oN f113 9) false) (.block 0 (.loop xz))) (.seq (.region 9 (oN f113 11) false) .ret)))
def xA : List (Nat × c9) := [(0, ⟨[4], []⟩), (1, xr), (2, ⟨[], []⟩), (3, xu), (4, xw), (5, ⟨[0, 1, 5, 6, 7, 8, 9, 42], []⟩), (6, xx), (7, ⟨[0, 1, 7, 8, 9, 47], []⟩), (8, ⟨[47, 48], []⟩), (9, xy)]
def EK : c9 := ⟨[4, 5, 6, 7, 8, 9, 10, 11, 12, 13, 14, 15, 16, 17, 18, 19, 20, 21, 22, 23, 24, 25, 26, 27, 28, 29, 30, 31, 32], []⟩
def EL : c9 := ⟨[33, 41, 42, 43, 44, 45, 46, 47, 48, 49, 50, 51], []⟩
def EM : c9 := ⟨[1, 40, 52, 53, 54, 55, 56, 57, 58, 59, 60, 61, 62, 63, 64, 65, 66, 67, 68, 69], []⟩
noncomputable def f80c : Code := (.seq (.region 0 (oN f80 2) false) (.seq (.block 0 (.seq (.region 1 (oN f80 17) false) (.cond (.tmp 3) (.seq (.region 2 (oN f80 73) false) .ret) (.seq (.region 3 (oN f80 89) false) (.cond (.tmp 33) (.seq (.region 4 (oN f80 313) false) .ret) (.seq (.region 5 (oN f80 377) false) (.cond (.tmp 40) (.seq (.region 6 (oN f80 1273) false) .ret) .skip))))))) (.seq (.region 7 (oN f80 11) true) .ret)))
def HH : List (Nat × c9) := [(0, ⟨[0, 2], []⟩), (1, EK), (2, ⟨[1, 3], []⟩), (3, ⟨[3, 34, 35, 36], []⟩), (4, ⟨[1, 33, 37, 38, 39], []⟩), (5, EL), (6, ⟨[1, 40], []⟩), (7, EM)]
def EU : c9 := ⟨[6], []⟩
def EW : c9 := ⟨[11, 12, 13, 14, 15], []⟩
noncomputable def EX : Code := (.seq (.region 2 (oN f92 69) false) (.seq (.cond (.tmp 9) .skip (.exit 0)) (.seq (.block 1 (.seq (.region 3 (oN f92 1125) false) (.seq (.region 4 (oN f92 2661) false) (.cond (.tmp 16) (.seq (.region 5 (oN f92 9829) false) .ret) .skip)))) (.region 6 (oN f92 485) false))))
noncomputable def f92c : Code := (.seq (.region 0 (oN f92 2) false) (.seq (.seq (.region 1 (oN f92 9) false) (.block 0 (.loop EX))) (.seq (.region 7 (oN f92 11) false) .ret)))
def FS : List (Nat × c9) := [(0, ⟨[4], []⟩), (1, EU), (2, ⟨[], []⟩), (3, ⟨[9, 10], []⟩), (4, EW), (5, ⟨[0, 1, 5, 7, 8, 16, 17], []⟩), (6, ⟨[5, 16, 18], []⟩), (7, ⟨[0, 1, 7, 8, 9], []⟩)]
def EN : c9 := ⟨[0, 1, 5, 6, 7, 8], []⟩
noncomputable def f81c : Code := (.seq (.region 0 (oN f81 2) false) (.seq (.region 1 (oN f81 5) false) .ret))
def HI : List (Nat × c9) := [(0, ⟨[4], []⟩), (1, EN)]
noncomputable def f82c : Code := (.seq (.region 0 (oN f82 2) false) (.seq (.region 1 (oN f82 5) false) .ret))
def HJ : List (Nat × c9) := [(0, ⟨[0, 3], []⟩), (1, ⟨[1, 2, 4, 5, 6, 7, 8], []⟩)]
def EO : c9 := ⟨[6], []⟩
def EP : c9 := ⟨[11, 12, 13, 14, 15], []⟩
noncomputable def EQ : Code := (.seq (.region 2 (oN f83 69) false) (.seq (.cond (.tmp 9) .skip (.exit 0)) (.seq (.block 1 (.seq (.region 3 (oN f83 1125) false) (.seq (.region 4 (oN f83 2661) false) (.cond (.tmp 16) (.seq (.region 5 (oN f83 9829) false) .ret) .skip)))) (.region 6 (oN f83 485) false))))
noncomputable def f83c : Code := (.seq (.region 0 (oN f83 2) false) (.seq (.seq (.region 1 (oN f83 9) false) (.block 0 (.loop EQ))) (.seq (.region 7 (oN f83 11) false) .ret)))
def FO : List (Nat × c9) := [(0, ⟨[4], []⟩), (1, EO), (2, ⟨[], []⟩), (3, ⟨[9, 10], []⟩), (4, EP), (5, ⟨[0, 1, 5, 7, 8, 16, 17], []⟩), (6, ⟨[5, 16, 18], []⟩), (7, ⟨[0, 1, 7, 8, 9], []⟩)]
def Do : c9 := ⟨[7, 8, 9, 10, 11, 12, 13], []⟩
def Dp : c9 := ⟨[], []⟩
def Dq : c9 := ⟨[18, 19, 20, 21], []⟩
def Dr : c9 := ⟨[22, 23, 24, 25, 26, 27, 28, 29, 30], []⟩
def Ds : c9 := ⟨[31, 32, 33, 34, 35], []⟩
def yT : c9 := ⟨[5, 36, 37, 38, 39, 40, 41, 42, 43, 44, 45, 46, 47, 48, 49, 50, 51, 52, 53, 54, 55, 56, 57, 58, 59, 60, 61, 62, 63, 64, 65, 66, 67, 68, 69], []⟩
def yU : c9 := ⟨[4, 6, 70, 71, 72, 73, 74, 75, 76, 77], []⟩
def yV : c9 := ⟨[78, 79], []⟩
noncomputable def Dt : Code := (.seq (.region 5 (oN f51 279) false) (.seq (.cond (.tmp 18) .skip (.exit 0)) (.seq (.block 1 (.seq (.region 6 (oN f51 4503) false) (.seq (.seq (.region 7 (oN f51 18839) false) (.cond (.tmp 31) (.seq (.region 8 (oN f51 76183) false) .ret) .skip)) (.seq (.region 9 (oN f51 22935) false) (.seq (.seq (.region 10 (oN f51 80279) false) (.cond (.tmp 70) (.seq (.region 11 (oN f51 309655) false) .ret) .skip)) (.seq (.region 12 (oN f51 96663) false) (.seq (.region 13 (oN f51 194967) false) (.cond (.tmp 80) (.seq (.region 14 (oN f51 653719) false) .ret) .skip)))))))) (.region 15 (oN f51 1943) false))))
noncomputable def f51c : Code := (.seq (.region 0 (oN f51 2) false) (.seq (.seq (.region 1 (oN f51 9) false) (.cond (.tmp 14) (.seq (.region 2 (oN f51 37) false) .ret) .skip)) (.seq (.region 3 (oN f51 11) false) (.seq (.seq (.region 4 (oN f51 39) false) (.block 0 (.loop Dt))) (.seq (.region 16 (oN f51 47) false) .ret)))))
def FF : List (Nat × c9) := [(0, ⟨[2], []⟩), (1, Do), (2, ⟨[0, 14], []⟩), (3, ⟨[14], [(0, { site := true })]⟩), (4, Dp), (5, ⟨[], []⟩), (6, Dq), (7, Dr), (8, ⟨[0, 3, 4, 5, 15, 16, 17, 31], []⟩), (9, Ds), (10, yT), (11, ⟨[0, 3, 4, 6, 15, 16, 17, 70], []⟩), (12, yU), (13, yV), (14, ⟨[0, 3, 15, 16, 17, 80], []⟩), (15, ⟨[80, 81], []⟩), (16, ⟨[0, 3, 15, 16, 17, 18], []⟩)]
def xB : c9 := ⟨[6], []⟩
def xC : c9 := ⟨[11, 12, 13, 14, 15], []⟩
noncomputable def xD : Code := (.seq (.region 2 (oN f114 69) false) (.seq (.cond (.tmp 9) .skip (.exit 0)) (.seq (.block 1 (.seq (.region 3 (oN f114 1125) false) (.seq (.region 4 (oN f114 2661) false) (.cond (.tmp 16) (.seq (.region 5 (oN f114 9829) false) .ret) .skip)))) (.region 6 (oN f114 485) false))))
noncomputable def GD : Code := (.seq (.region 0 (oN f114 2) false) (.seq (.seq (.region 1 (oN f114 9) false) (.block 0 (.loop xD))) (.seq (.region 7 (oN f114 11) false) .ret)))
def xE : List (Nat × c9) := [(0, ⟨[4], []⟩), (1, xB), (2, ⟨[], []⟩), (3, ⟨[9, 10], []⟩), (4, xC), (5, ⟨[0, 1, 5, 7, 8, 16, 17], []⟩), (6, ⟨[5, 16, 18], []⟩), (7, ⟨[0, 1, 7, 8, 9], []⟩)]
def ER : c9 := ⟨[0, 1, 5, 6, 7, 8], []⟩
noncomputable def f84c : Code := (.seq (.region 0 (oN f84 2) false) (.seq (.region 1 (oN f84 5) false) .ret))
def HK : List (Nat × c9) := [(0, ⟨[4], []⟩), (1, ER)]
noncomputable def f85c : Code := (.seq (.region 0 (oN f85 2) false) (.seq (.region 1 (oN f85 5) false) .ret))
def HL : List (Nat × c9) := [(0, ⟨[0, 3], []⟩), (1, ⟨[1, 2, 4, 5, 6, 7, 8], []⟩)]
def Du : c9 := ⟨[], []⟩
def Dv : c9 := ⟨[11, 12, 13, 14], []⟩
def Dw : c9 := ⟨[5, 15, 16, 17, 18, 19, 20, 21, 22, 23, 24, 25, 26, 27, 28, 29, 30, 31, 32, 33, 34, 35, 36, 37, 38, 39, 40, 41, 42], []⟩
def Dx : c9 := ⟨[43, 44, 45, 46, 47, 48, 49], []⟩
def Dy : c9 := ⟨[6, 7, 50, 51, 52, 53, 54, 55, 56, 57, 58, 59, 60, 61, 62, 63, 64, 65, 66, 67], []⟩
def yW : c9 := ⟨[0, 1, 8, 9, 10, 11, 70, 71, 72], []⟩
noncomputable def Dz : Code := (.seq (.region 2 (oN f52 69) false) (.seq (.cond (.tmp 11) .skip (.exit 0)) (.seq (.block 1 (.seq (.region 3 (oN f52 1125) false) (.seq (.seq (.region 4 (oN f52 4709) false) (.cond (.tmp 43) (.seq (.region 5 (oN f52 19045) false) .ret) .skip)) (.seq (.region 6 (oN f52 5733) false) (.seq (.region 7 (oN f52 11877) false) (.cond (.tmp 68) (.seq (.region 8 (oN f52 40549) false) .ret) .skip)))))) (.region 9 (oN f52 485) false))))
noncomputable def f52c : Code := (.seq (.region 0 (oN f52 2) false) (.seq (.seq (.region 1 (oN f52 9) false) (.block 0 (.loop Dz))) (.seq (.region 10 (oN f52 11) false) .ret)))
def FG : List (Nat × c9) := [(0, ⟨[4], []⟩), (1, Du), (2, ⟨[], []⟩), (3, Dv), (4, Dw), (5, ⟨[0, 1, 6, 8, 9, 10, 43], []⟩), (6, Dx), (7, Dy), (8, ⟨[0, 1, 8, 9, 10, 68], []⟩), (9, ⟨[68, 69], []⟩), (10, yW)]
def Ck : c9 := ⟨[1, 3, 4, 5, 6, 7, 8, 9, 10, 11, 12, 13, 14, 15, 16, 17, 18, 19, 20, 21, 22, 23, 24, 25, 26, 27], []⟩
noncomputable def f28c : Code := (.seq (.region 0 (oN f28 2) false) (.seq (.region 1 (oN f28 5) false) .ret))
def GY : List (Nat × c9) := [(0, ⟨[0, 2], []⟩), (1, Ck)]
def Fj : c9 := ⟨[4, 11, 12, 13, 14, 15, 16], []⟩
noncomputable def Fk : Code := (.seq (.region 3 (oN f97 139) false) (.seq (.cond (.tmp 9) .skip (.exit 0)) (.seq (.block 1 (.seq (.region 4 (oN f97 2251) false) (.seq (.region 5 (oN f97 5323) true) (.seq (.seq (.region 6 (oN f97 19659) false) (.cond (.tmp 18) (.seq (.region 7 (oN f97 77003) false) .ret) .skip)) (.region 8 (oN f97 15563) false))))) (.region 9 (oN f97 971) false))))
noncomputable def f97c : Code := (.seq (.region 0 (oN f97 2) false) (.seq (.region 1 (oN f97 5) false) (.seq (.seq (.region 2 (oN f97 19) false) (.block 0 (.loop Fk))) (.seq (.region 10 (oN f97 23) false) .ret))))
def FU : List (Nat × c9) := [(0, ⟨[2], []⟩), (1, ⟨[], []⟩), (2, ⟨[6], []⟩), (3, ⟨[], []⟩), (4, ⟨[9, 10], []⟩), (5, Fj), (6, ⟨[17], []⟩), (7, ⟨[0, 3, 5, 7, 8, 18], []⟩), (8, ⟨[5, 18, 19, 20, 21, 22], []⟩), (9, ⟨[23], []⟩), (10, ⟨[0, 3, 7, 8, 9], []⟩)]
def yf : c9 := ⟨[6], []⟩
def yg : c9 := ⟨[11, 12, 13, 14, 15], []⟩
noncomputable def yh : Code := (.seq (.region 2 (oN f132 69) false) (.seq (.cond (.tmp 9) .skip (.exit 0)) (.seq (.block 1 (.seq (.region 3 (oN f132 1125) false) (.seq (.region 4 (oN f132 2661) false) (.cond (.tmp 16) (.seq (.region 5 (oN f132 9829) false) .ret) .skip)))) (.region 6 (oN f132 485) false))))
noncomputable def GR : Code := (.seq (.region 0 (oN f132 2) false) (.seq (.seq (.region 1 (oN f132 9) false) (.block 0 (.loop yh))) (.seq (.region 7 (oN f132 11) false) .ret)))
def yi : List (Nat × c9) := [(0, ⟨[4], []⟩), (1, yf), (2, ⟨[], []⟩), (3, ⟨[9, 10], []⟩), (4, yg), (5, ⟨[0, 1, 5, 7, 8, 16, 17], []⟩), (6, ⟨[5, 16, 18], []⟩), (7, ⟨[0, 1, 7, 8, 9], []⟩)]
def xF : c9 := ⟨[0, 1, 5, 6, 7, 8], []⟩
noncomputable def GE : Code := (.seq (.region 0 (oN f118 2) false) (.seq (.region 1 (oN f118 5) false) .ret))
def BC : List (Nat × c9) := [(0, ⟨[4], []⟩), (1, xF)]
def xG : c9 := ⟨[0, 1, 4, 5, 6, 7, 8, 9, 10, 11, 12], []⟩
noncomputable def GF : Code := (.seq (.region 0 (oN f119 2) false) (.seq (.region 1 (oN f119 5) false) .ret))
def BD : List (Nat × c9) := [(0, ⟨[3], []⟩), (1, xG)]
def ES : c9 := ⟨[6, 7, 8], []⟩
def ET : c9 := ⟨[1, 2, 5, 10, 11, 12], []⟩
noncomputable def f90c : Code := (.seq (.region 0 (oN f90 2) false) (.seq (.block 0 (.seq (.region 1 (oN f90 17) false) (.cond (.tmp 5) (.seq (.region 2 (oN f90 73) false) .ret) (.seq (.region 3 (oN f90 89) false) (.cond (.tmp 9) (.seq (.region 4 (oN f90 313) false) .ret) .skip))))) (.seq (.region 5 (oN f90 11) false) .ret)))
def HP : List (Nat × c9) := [(0, ⟨[0, 4], []⟩), (1, ES), (2, ⟨[1, 2, 5], []⟩), (3, ET), (4, ⟨[9], []⟩), (5, ⟨[9], []⟩)]
noncomputable def f93c : Code := (.seq (.region 0 (oN f93 2) false) (.seq (.region 1 (oN f93 5) false) .ret))
def HR : List (Nat × c9) := [(0, ⟨[0, 3], []⟩), (1, ⟨[1, 2, 4, 5, 6, 7], []⟩)]
noncomputable def f91c : Code := (.seq (.region 0 (oN f91 2) false) (.seq (.seq (.region 1 (oN f91 9) false) (.cond (.tmp 5) (.seq (.region 2 (oN f91 37) false) .ret) .skip)) (.seq (.region 3 (oN f91 11) false) .ret)))
def HQ : List (Nat × c9) := [(0, ⟨[2, 3], []⟩), (1, ⟨[4], []⟩), (2, ⟨[0, 5], []⟩), (3, ⟨[0, 5, 6], []⟩)]
def DA : c9 := ⟨[7, 8], []⟩
def DB : c9 := ⟨[2, 3, 6, 10, 12, 13, 14, 15, 16, 17, 18], []⟩
noncomputable def f54c : Code := (.seq (.region 0 (oN f54 2) false) (.seq (.seq (.region 1 (oN f54 9) false) (.seq (.region 2 (oN f54 21) false) (.cond (.tmp 10) (.seq (.region 3 (oN f54 77) false) .ret) .skip))) (.seq (.region 4 (oN f54 11) false) .ret)))
def Hk : List (Nat × c9) := [(0, ⟨[0, 1, 4, 5], []⟩), (1, DA), (2, ⟨[9], []⟩), (3, ⟨[2, 3, 6, 10, 11], []⟩), (4, DB)]
def xJ : c9 := ⟨[8, 9, 10, 11, 12, 13], []⟩
def xK : c9 := ⟨[7, 14, 15, 16, 17], []⟩
def xL : c9 := ⟨[1, 2, 7, 18, 19], [(1, { eff := true })]⟩
def xM : c9 := ⟨[5, 20], [(1, { close := true })]⟩
noncomputable def xN : Code := (.seq (.seq (.region 2 (oN f122 131) false) (.cond (.tmp 7) .skip (.exit 0))) (.seq (.block 1 (.region 4 (oN f122 291) false)) (.region 3 (oN f122 227) false)))
noncomputable def GJ : Code := (.seq (.region 0 (oN f122 2) false) (.seq (.region 1 (oN f122 5) false) (.seq (.block 0 (.loop xN)) (.seq (.region 5 (oN f122 23) false) (.seq (.region 6 (oN f122 47) false) .ret)))))
def xO : List (Nat × c9) := [(0, ⟨[0, 4], []⟩), (1, ⟨[], [(0, { site := true })]⟩), (2, ⟨[6], []⟩), (3, xJ), (4, xK), (5, xL), (6, xM)]
def xI : c9 := ⟨[0, 1, 5, 6, 7, 8], []⟩
noncomputable def GI : Code := (.seq (.region 0 (oN f121 2) false) (.seq (.region 1 (oN f121 5) false) .ret))
def BI : List (Nat × c9) := [(0, ⟨[4], []⟩), (1, xI)]
def Fl : c9 := ⟨[9, 10, 11, 12, 13], []⟩
def Fm : c9 := ⟨[1, 2, 3, 8, 15, 17, 18, 19, 20, 21, 22, 23, 24, 25, 26], []⟩
noncomputable def f98c : Code := (.seq (.region 0 (oN f98 2) false) (.seq (.seq (.region 1 (oN f98 9) false) (.seq (.region 2 (oN f98 21) false) (.cond (.tmp 15) (.seq (.region 3 (oN f98 77) false) .ret) .skip))) (.seq (.region 4 (oN f98 11) false) .ret)))
def HS : List (Nat × c9) := [(0, ⟨[0, 6, 7], []⟩), (1, Fl), (2, ⟨[14], []⟩), (3, ⟨[1, 2, 3, 8, 15, 16], []⟩), (4, Fm)]
def xP : c9 := ⟨[7, 8, 9, 10], []⟩
def xQ : c9 := ⟨[1, 2, 6, 12, 14, 15, 16], []⟩
noncomputable def GK : Code := (.seq (.region 0 (oN f123 2) false) (.seq (.seq (.region 1 (oN f123 9) false) (.seq (.region 2 (oN f123 21) false) (.cond (.tmp 12) (.seq (.region 3 (oN f123 77) false) .ret) .skip))) (.seq (.region 4 (oN f123 11) false) .ret)))
def BJ : List (Nat × c9) := [(0, ⟨[0, 4, 5], []⟩), (1, xP), (2, ⟨[11], []⟩), (3, ⟨[1, 2, 6, 12, 13], []⟩), (4, xQ)]
def wX : c9 := ⟨[1, 2, 8, 9, 10, 11, 12, 13], []⟩
def wY : c9 := ⟨[6, 7, 14, 15, 16], []⟩
noncomputable def Gq : Code := (.seq (.region 0 (oN f102 2) false) (.seq (.region 1 (oN f102 5) false) (.seq (.region 2 (oN f102 11) false) .ret)))
def Bp : List (Nat × c9) := [(0, ⟨[0, 4, 5], []⟩), (1, wX), (2, wY)]
def Ep : c9 := ⟨[1, 2, 5, 7, 8, 9, 10, 11, 12], []⟩
noncomputable def f71c : Code := (.seq (.region 0 (oN f71 2) false) (.seq (.region 1 (oN f71 5) false) (.seq (.region 2 (oN f71 11) false) .ret)))
def Hx : List (Nat × c9) := [(0, ⟨[0, 4], []⟩), (1, Ep), (2, ⟨[6, 13], []⟩)]
def xR : c9 := ⟨[6], []⟩
def xS : c9 := ⟨[11, 12, 13, 14, 15], []⟩
noncomputable def xT : Code := (.seq (.region 2 (oN f124 69) false) (.seq (.cond (.tmp 9) .skip (.exit 0)) (.seq (.block 1 (.seq (.region 3 (oN f124 1125) false) (.seq (.region 4 (oN f124 2661) false) (.cond (.tmp 16) (.seq (.region 5 (oN f124 9829) false) .ret) .skip)))) (.region 6 (oN f124 485) false))))
noncomputable def GL : Code := (.seq (.region 0 (oN f124 2) false) (.seq (.seq (.region 1 (oN f124 9) false) (.block 0 (.loop xT))) (.seq (.region 7 (oN f124 11) false) .ret)))
def xU : List (Nat × c9) := [(0, ⟨[4], []⟩), (1, xR), (2, ⟨[], []⟩), (3, ⟨[9, 10], []⟩), (4, xS), (5, ⟨[0, 1, 5, 7, 8, 16, 17], []⟩), (6, ⟨[5, 16, 18], []⟩), (7, ⟨[0, 1, 7, 8, 9], []⟩)]
def xe : c9 := ⟨[0, 1, 5, 6, 7, 8], []⟩
noncomputable def Gs : Code := (.seq (.region 0 (oN f104 2) false) (.seq (.region 1 (oN f104 5) false) .ret))
def Bq : List (Nat × c9) := [(0, ⟨[4], []⟩), (1, xe)]
def xV : c9 := ⟨[6], []⟩
def xW : c9 := ⟨[11, 12, 13, 14, 15], []⟩
noncomputable def xX : Code := (.seq (.region 2 (oN f125 69) false) (.seq (.cond (.tmp 9) .skip (.exit 0)) (.seq (.block 1 (.seq (.region 3 (oN f125 1125) false) (.seq (.region 4 (oN f125 2661) false) (.cond (.tmp 16) (.seq (.region 5 (oN f125 9829) false) .ret) .skip)))) (.region 6 (oN f125 485) false))))
noncomputable def GM : Code := (.seq (.region 0 (oN f125 2) false) (.seq (.seq (.region 1 (oN f125 9) false) (.block 0 (.loop xX))) (.seq (.region 7 (oN f125 11) false) .ret)))
def xY : List (Nat × c9) := [(0, ⟨[4], []⟩), (1, xV), (2, ⟨[], []⟩), (3, ⟨[9, 10], []⟩), (4, xW), (5, ⟨[0, 1, 5, 7, 8, 16, 17], []⟩), (6, ⟨[5, 16, 18], []⟩), (7, ⟨[0, 1, 7, 8, 9], []⟩)]
def xg : c9 := ⟨[0, 1, 5, 6, 7, 8], []⟩
noncomputable def Gu : Code := (.seq (.region 0 (oN f106 2) false) (.seq (.region 1 (oN f106 5) false) .ret))
def Bs : List (Nat × c9) := [(0, ⟨[4], []⟩), (1, xg)]
noncomputable def GT : Code := (.seq (.region 0 (oN f134 2) false) (.seq (.region 1 (oN f134 5) false) .ret))
def BN : List (Nat × c9) := [(0, ⟨[0, 3], []⟩), (1, ⟨[1, 2, 4, 5, 6, 7], []⟩)]
def xH : c9 := ⟨[2, 3, 7, 8, 9, 10], []⟩
noncomputable def GH : Code := (.seq (.region 0 (oN f120 2) false) (.seq (.region 1 (oN f120 5) false) (.seq (.region 2 (oN f120 11) false) .ret)))
def BH : List (Nat × c9) := [(0, ⟨[0, 1, 4, 5], []⟩), (1, xH), (2, ⟨[6, 11, 12, 13], []⟩)]
def xi : c9 := ⟨[7, 8, 9, 10, 11, 12, 13], []⟩
def xj : c9 := ⟨[2, 3, 5, 6, 14, 15, 16, 17, 18, 19, 20, 21, 22, 23, 24, 25, 26, 27, 28, 29, 30, 31, 32, 33, 34, 35, 36], []⟩
noncomputable def Gw : Code := (.seq (.region 0 (oN f108 2) false) (.seq (.region 1 (oN f108 5) false) (.seq (.region 2 (oN f108 11) true) .ret)))
def Bu : List (Nat × c9) := [(0, ⟨[0, 1, 4], []⟩), (1, xi), (2, xj)]
def xh : c9 := ⟨[1, 2, 4, 5, 6, 7], []⟩
noncomputable def Gv : Code := (.seq (.region 0 (oN f107 2) false) (.seq (.region 1 (oN f107 5) false) .ret))
def Bt : List (Nat × c9) := [(0, ⟨[0, 3], []⟩), (1, xh)]
def xf : c9 := ⟨[0, 1, 4, 5, 6, 7, 8, 9, 10, 11, 12, 13, 14, 15, 16], []⟩
noncomputable def Gt : Code := (.seq (.region 0 (oN f105 2) false) (.seq (.region 1 (oN f105 5) false) .ret))
def Br : List (Nat × c9) := [(0, ⟨[3], []⟩), (1, xf)]
def Et : c9 := ⟨[1, 2, 5, 6, 7, 8, 9, 10, 11, 12, 13], []⟩
noncomputable def f74c : Code := (.seq (.region 0 (oN f74 2) false) (.seq (.region 1 (oN f74 5) false) .ret))
def HA : List (Nat × c9) := [(0, ⟨[0, 4], []⟩), (1, Et)]
def Fn : c9 := ⟨[9, 10, 11], []⟩
def Fo : c9 := ⟨[1, 2, 3, 8, 13, 15, 16, 17, 18, 19, 20, 21], []⟩
noncomputable def f99c : Code := (.seq (.region 0 (oN f99 2) false) (.seq (.seq (.region 1 (oN f99 9) false) (.seq (.region 2 (oN f99 21) false) (.cond (.tmp 13) (.seq (.region 3 (oN f99 77) false) .ret) .skip))) (.seq (.region 4 (oN f99 11) false) .ret)))
def HT : List (Nat × c9) := [(0, ⟨[0, 6, 7], []⟩), (1, Fn), (2, ⟨[12], []⟩), (3, ⟨[1, 2, 3, 8, 13, 14], []⟩), (4, Fo)]
def Em : c9 := ⟨[14, 15, 16], []⟩
def En : c9 := ⟨[17, 18, 19, 20, 21, 22, 23, 24], []⟩
def Eo : c9 := ⟨[1, 11, 28, 29, 30, 31, 32, 33, 34, 35], []⟩
def uB : c9 := ⟨[1, 3, 5, 13, 28, 37, 38, 39, 40, 41, 42, 43, 44, 45], []⟩
noncomputable def f65c : Code := (.seq (.region 0 (oN f65 2) false) (.seq (.seq (.region 1 (oN f65 9) false) (.cond (.tmp 17) (.seq (.region 2 (oN f65 37) false) .ret) .skip)) (.seq (.region 3 (oN f65 11) false) (.seq (.seq (.region 4 (oN f65 39) false) (.cond (.tmp 26) (.seq (.region 5 (oN f65 151) false) .ret) .skip)) (.seq (.seq (.region 6 (oN f65 79) false) (.cond (.tmp 28) (.seq (.region 7 (oN f65 303) false) (.seq (.region 8 (oN f65 687) false) (.cond (.tmp 37) (.seq (.region 9 (oN f65 2479) false) .ret) .skip))) .skip)) (.seq (.seq (.region 10 (oN f65 159) false) (.seq (.region 11 (oN f65 351) false) (.cond (.tmp 47) (.seq (.region 12 (oN f65 1247) false) .ret) .skip))) (.seq (.region 13 (oN f65 191) false) .ret)))))))
def Hs : List (Nat × c9) := [(0, ⟨[0, 2, 6, 7], []⟩), (1, Em), (2, ⟨[1, 3, 5, 17], []⟩), (3, En), (4, ⟨[9, 25], []⟩), (5, ⟨[1, 3, 5, 8, 26], []⟩), (6, ⟨[26, 27], []⟩), (7, Eo), (8, ⟨[10, 36], []⟩), (9, ⟨[3, 5, 8, 37], []⟩), (10, uB), (11, ⟨[12, 46], []⟩), (12, ⟨[8, 47], []⟩), (13, ⟨[8, 47, 48], []⟩)]
def CL : c9 := ⟨[12, 13], []⟩
def CM : c9 := ⟨[1], []⟩
def CN : c9 := ⟨[18, 19, 20], []⟩
def CO : c9 := ⟨[6, 9, 21, 22, 23, 24, 25, 26, 27], []⟩
def yM : c9 := ⟨[11, 32, 33, 34, 35], [(0, { tk := [7], keep := [0] }), (3, { tk := [32], keep := [0] }), (4, { tk := [35], keep := [0] })]⟩
noncomputable def CP : Code := (.seq (.region 6 (oN f36 559) false) (.seq (.cond (.tmp 18) .skip (.exit 0)) (.seq (.block 1 (.seq (.region 7 (oN f36 9007) false) (.seq (.region 8 (oN f36 21295) false) (.seq (.seq (.region 9 (oN f36 78639) false) (.cond (.tmp 29) (.seq (.region 10 (oN f36 308015) false) .ret) .skip)) (.seq (.region 11 (oN f36 95023) false) (.region 12 (oN f36 127791) false)))))) (.region 13 (oN f36 3887) false))))
noncomputable def f36c : Code := (.seq (.region 0 (oN f36 2) false) (.seq (.seq (.region 1 (oN f36 9) false) (.cond (.tmp 14) (.seq (.region 2 (oN f36 37) false) .ret) .skip)) (.seq (.region 3 (oN f36 11) false) (.seq (.region 4 (oN f36 23) false) (.seq (.seq (.region 5 (oN f36 79) false) (.block 0 (.loop CP))) (.seq (.region 14 (oN f36 95) false) .ret))))))
def FB : List (Nat × c9) := [(0, ⟨[0, 4, 5], []⟩), (1, CL), (2, ⟨[1, 2, 14], []⟩), (3, ⟨[14], []⟩), (4, ⟨[], [(0, { keep := [0] })]⟩), (5, CM), (6, ⟨[], []⟩), (7, CN), (8, CO), (9, ⟨[28], []⟩), (10, ⟨[2, 7, 10, 11, 15, 16, 17, 29, 30], []⟩), (11, ⟨[10, 29, 31], []⟩), (12, yM), (13, ⟨[36], []⟩), (14, ⟨[2, 6, 7, 15, 16, 17, 18, 37], []⟩)]
def BV : c9 := ⟨[8, 9], []⟩
def BW : c9 := ⟨[1, 2, 10, 11, 12, 13, 14, 15, 16], []⟩
noncomputable def f22c : Code := (.seq (.region 0 (oN f22 2) false) (.seq (.seq (.region 1 (oN f22 9) false) (.cond (.tmp 10) (.seq (.region 2 (oN f22 37) false) .ret) .skip)) (.seq (.region 3 (oN f22 11) false) (.seq (.seq (.region 4 (oN f22 39) false) (.cond (.tmp 18) (.seq (.region 5 (oN f22 151) false) .ret) .skip)) (.seq (.region 6 (oN f22 47) false) .ret)))))
def GW : List (Nat × c9) := [(0, ⟨[0, 4, 5], []⟩), (1, BV), (2, ⟨[1, 2, 10], []⟩), (3, BW), (4, ⟨[6, 17], []⟩), (5, ⟨[7, 18], []⟩), (6, ⟨[7, 18, 19], []⟩)]
def wZ : c9 := ⟨[6], []⟩
def xb : c9 := ⟨[11, 12, 13, 14, 15], []⟩
noncomputable def xc : Code := (.seq (.region 2 (oN f103 69) false) (.seq (.cond (.tmp 9) .skip (.exit 0)) (.seq (.block 1 (.seq (.region 3 (oN f103 1125) false) (.seq (.region 4 (oN f103 2661) false) (.cond (.tmp 16) (.seq (.region 5 (oN f103 9829) false) .ret) .skip)))) (.region 6 (oN f103 485) false))))
noncomputable def Gr : Code := (.seq (.region 0 (oN f103 2) false) (.seq (.seq (.region 1 (oN f103 9) false) (.block 0 (.loop xc))) (.seq (.region 7 (oN f103 11) false) .ret)))
def xd : List (Nat × c9) := [(0, ⟨[4], []⟩), (1, wZ), (2, ⟨[], []⟩), (3, ⟨[9, 10], []⟩), (4, xb), (5, ⟨[0, 1, 5, 7, 8, 16, 17], []⟩), (6, ⟨[5, 16, 18], []⟩), (7, ⟨[0, 1, 7, 8, 9], []⟩)]
def Er : c9 := ⟨[0, 1, 5, 6, 7, 8], []⟩
noncomputable def f72c : Code := (.seq (.region 0 (oN f72 2) false) (.seq (.region 1 (oN f72 5) false) .ret))
def Hy : List (Nat × c9) := [(0, ⟨[4], []⟩), (1, Er)]
def Es : c9 := ⟨[0, 1, 4, 5, 6, 7], []⟩
noncomputable def f73c : Code := (.seq (.region 0 (oN f73 2) false) (.seq (.region 1 (oN f73 5) false) .ret))
def Hz : List (Nat × c9) := [(0, ⟨[3], []⟩), (1, Es)]
def CS : c9 := ⟨[10, 11, 12], []⟩
def CT : c9 := ⟨[1, 3, 8, 14, 17, 18, 19, 20, 21], []⟩
def CU : c9 := ⟨[2, 22, 23], []⟩
noncomputable def f43c : Code := (.seq (.region 0 (oN f43 2) false) (.seq (.seq (.region 1 (oN f43 9) false) (.seq (.region 2 (oN f43 21) false) (.cond (.tmp 14) (.seq (.region 3 (oN f43 77) false) .ret) .skip))) (.seq (.region 4 (oN f43 11) false) (.seq (.seq (.region 5 (oN f43 39) false) (.cond (.tmp 24) (.seq (.region 6 (oN f43 151) false) .ret) .skip)) (.seq (.region 7 (oN f43 47) false) .ret)))))
def Hh : List (Nat × c9) := [(0, ⟨[0, 7], []⟩), (1, CS), (2, ⟨[13], []⟩), (3, ⟨[1, 2, 3, 8, 14, 15, 16], []⟩), (4, CT), (5, CU), (6, ⟨[9, 24, 25], []⟩), (7, ⟨[9, 24, 26], []⟩)]
def CV : c9 := ⟨[0, 3, 4, 5, 6], []⟩
noncomputable def f44c : Code := (.seq (.region 0 (oN f44 2) false) (.seq (.region 1 (oN f44 5) false) .ret))
def Hi : List (Nat × c9) := [(0, ⟨[2], []⟩), (1, CV)]
def BX : c9 := ⟨[1, 3, 8, 16, 17, 18, 19, 20, 21, 22, 23], []⟩
def BZ : c9 := ⟨[2], []⟩
def Ca : c9 := ⟨[30, 31, 32], []⟩
def Cb : c9 := ⟨[12], []⟩
def yo : c9 := ⟨[36, 37, 38], []⟩
def yp : c9 := ⟨[15, 39, 40, 41, 42, 43, 44, 45, 46, 47, 48, 49, 50, 51, 52, 53, 54, 55, 56], [(18, { eff := true })]⟩
def yq : c9 := ⟨[13, 33, 34, 35, 36, 58, 59, 60, 61, 62], [(0, { tk := [10], keep := [0] }), (4, { tk := [58], keep := [0] }), (5, { tk := [62], keep := [0] })]⟩
def yr : c9 := ⟨[10, 27, 28, 29, 30, 64, 65], []⟩
noncomputable def Cc : Code := (.seq (.region 10 (oN f24 285079) false) (.seq (.cond (.tmp 36) .skip (.exit 2)) (.seq (.block 3 (.seq (.region 11 (oN f24 4610455) false) (.region 12 (oN f24 6707607) true))) (.region 13 (oN f24 1989015) false))))
noncomputable def Cd : Code := (.seq (.region 6 (oN f24 279) false) (.seq (.cond (.tmp 30) .skip (.exit 0)) (.seq (.block 1 (.seq (.region 7 (oN f24 4503) false) (.seq (.region 8 (oN f24 10647) false) (.seq (.seq (.region 9 (oN f24 39319) false) (.block 2 (.loop Cc))) (.region 14 (oN f24 31127) false))))) (.region 15 (oN f24 1943) false))))
noncomputable def f24c : Code := (.seq (.region 0 (oN f24 2) false) (.seq (.seq (.region 1 (oN f24 9) false) (.seq (.region 2 (oN f24 21) false) (.cond (.tmp 25) (.seq (.region 3 (oN f24 77) false) .ret) .skip))) (.seq (.region 4 (oN f24 11) false) (.seq (.seq (.region 5 (oN f24 39) false) (.block 0 (.loop Cd))) (.seq (.region 16 (oN f24 47) false) .ret)))))
def AJ : List (Nat × c9) := [(0, ⟨[0, 6, 7], []⟩), (1, BX), (2, ⟨[24], []⟩), (3, ⟨[2, 9, 25, 26], []⟩), (4, ⟨[9, 25], [(0, { keep := [0] })]⟩), (5, BZ), (6, ⟨[], []⟩), (7, Ca), (8, ⟨[], [(0, { site := true })]⟩), (9, Cb), (10, ⟨[], []⟩), (11, yo), (12, yp), (13, ⟨[57], []⟩), (14, yq), (15, ⟨[63], []⟩), (16, yr)]
def HM : c9 := ⟨[10, 11, 12, 13, 14, 15, 16], []⟩
def HN : c9 := ⟨[7, 18, 20, 21, 22, 23, 24, 25, 26, 27], []⟩
def HO : c9 := ⟨[30, 31, 32, 33, 34, 35], []⟩
def FP : c9 := ⟨[30, 36, 37, 38], []⟩
def FQ : c9 := ⟨[2, 3, 6, 8, 39, 40, 41], []⟩
def FR : c9 := ⟨[2, 3, 6, 39, 42, 43, 44, 45, 46, 47, 48, 49, 50, 51], []⟩
def zk : c9 := ⟨[7, 8, 9, 53, 55, 56, 57, 58, 59], []⟩
noncomputable def f8c : Code := (.seq (.region 0 (oN f8 2) false) (.seq (.region 1 (oN f8 5) false) (.seq (.seq (.region 2 (oN f8 19) false) (.cond (.tmp 18) (.seq (.region 3 (oN f8 75) false) .ret) .skip)) (.seq (.region 4 (oN f8 23) true) (.seq (.seq (.region 5 (oN f8 79) false) (.cond (.tmp 30) (.region 6 (oN f8 175) false) .skip)) (.seq (.seq (.region 7 (oN f8 159) false) (.cond (.tmp 39) (.seq (.region 8 (oN f8 607) false) .ret) .skip)) (.seq (.region 9 (oN f8 191) true) (.seq (.seq (.region 10 (oN f8 639) false) (.cond (.tmp 53) (.seq (.region 11 (oN f8 2431) false) .ret) .skip)) (.seq (.region 12 (oN f8 767) false) .ret)))))))))
def f8n : List (Nat × c9) := [(0, ⟨[0, 1, 4, 5], []⟩), (1, HM), (2, ⟨[17], []⟩), (3, ⟨[2, 3, 6, 7, 18, 19], []⟩), (4, HN), (5, ⟨[28, 29], []⟩), (6, HO), (7, FP), (8, FQ), (9, FR), (10, ⟨[52], []⟩), (11, ⟨[7, 8, 9, 53, 54], []⟩), (12, zk)]
def HE : c9 := ⟨[1, 10, 11, 12, 13, 14, 15], []⟩
def HF : c9 := ⟨[16, 17, 18, 19, 20, 21], []⟩
def HG : c9 := ⟨[2, 3, 4, 5, 22, 23, 24, 25, 26, 27, 28, 29, 30, 31, 32, 33, 34, 35], []⟩
noncomputable def f7c : Code := (.seq (.region 0 (oN f7 2) false) (.seq (.region 1 (oN f7 5) false) (.seq (.region 2 (oN f7 11) true) (.seq (.region 3 (oN f7 23) false) (.seq (.region 4 (oN f7 47) false) .ret)))))
def f7n : List (Nat × c9) := [(0, ⟨[0], []⟩), (1, ⟨[6, 7, 8, 9], []⟩), (2, HE), (3, HF), (4, HG)]
def DF : c9 := ⟨[8, 11, 12, 13, 14, 15, 16, 17, 18, 19, 20], []⟩
def DG : c9 := ⟨[4, 21, 22, 23, 24, 25, 26, 27, 28, 29, 30, 31, 32, 33, 34, 35, 36, 37], []⟩
def DH : c9 := ⟨[0, 3, 8, 39, 40, 41, 42, 43, 44, 45, 46], []⟩
noncomputable def DI : Code := (.seq (.seq (.region 2 (oN f56 133) false) (.cond (.tmp 8) .skip (.exit 0))) (.seq (.block 1 (.seq (.region 4 (oN f56 549) false) (.seq (.region 5 (oN f56 1317) false) (.cond (.tmp 38) (.seq (.region 6 (oN f56 4901) false) .ret) .skip)))) (.region 3 (oN f56 229) false)))
noncomputable def f56c : Code := (.seq (.region 0 (oN f56 2) false) (.seq (.seq (.region 1 (oN f56 9) false) (.block 0 (.loop DI))) (.seq (.region 7 (oN f56 11) false) .ret)))
def FI : List (Nat × c9) := [(0, ⟨[2], []⟩), (1, ⟨[], []⟩), (2, ⟨[5, 6, 7], []⟩), (3, ⟨[9, 10, 38], []⟩), (4, DF), (5, DG), (6, ⟨[0, 3, 38], []⟩), (7, DH)]
def DJ : c9 := ⟨[6, 7, 8, 9], []⟩
def DK : c9 := ⟨[10, 13, 14, 15, 16, 17], []⟩
def DL : c9 := ⟨[18, 19, 20, 21, 22, 23, 24, 25, 26, 27, 28, 29, 30, 31, 32, 33, 34, 35, 36, 37, 38, 39, 40, 41, 42, 43, 44, 45, 46, 47], []⟩
def zd : c9 := ⟨[51, 54, 55, 56, 57, 58, 59, 60, 61], []⟩
def ze : c9 := ⟨[3, 10, 63, 64, 65, 66, 67, 68, 69, 70, 71, 72, 73, 74, 75, 76, 77, 78, 79, 80, 81], []⟩
def zf : c9 := ⟨[1, 82, 83, 84, 85, 86, 87, 88, 89, 90, 91, 92, 93, 94, 95, 96, 97, 98, 99, 100, 101, 102, 103, 104, 105, 106, 107, 108, 109, 110, 111], []⟩
noncomputable def DM : Code := (.seq (.seq (.region 8 (oN f57 34597) false) (.cond (.tmp 51) .skip (.exit 2))) (.seq (.block 3 (.seq (.region 10 (oN f57 141093) true) (.cond (.tmp 62) (.seq (.region 11 (oN f57 599845) false) .ret) .skip))) (.region 9 (oN f57 59173) false)))
noncomputable def DN : Code := (.seq (.seq (.region 2 (oN f57 133) false) (.cond (.tmp 10) .skip (.exit 0))) (.seq (.block 1 (.seq (.region 4 (oN f57 549) false) (.seq (.seq (.region 5 (oN f57 2341) false) (.cond (.tmp 48) (.seq (.region 6 (oN f57 9509) false) .ret) .skip)) (.seq (.region 7 (oN f57 2853) false) (.block 2 (.loop DM)))))) (.region 3 (oN f57 229) false)))
noncomputable def f57c : Code := (.seq (.region 0 (oN f57 2) false) (.seq (.seq (.region 1 (oN f57 9) false) (.block 0 (.loop DN))) (.seq (.seq (.region 12 (oN f57 19) false) (.cond (.tmp 82) (.seq (.region 13 (oN f57 75) false) .ret) .skip)) (.seq (.region 14 (oN f57 23) true) .ret))))
def AN : List (Nat × c9) := [(0, ⟨[0, 2], []⟩), (1, ⟨[], []⟩), (2, DJ), (3, ⟨[4, 5, 11, 12, 51], []⟩), (4, DK), (5, DL), (6, ⟨[1, 3, 4, 48], []⟩), (7, ⟨[48], []⟩), (8, ⟨[49, 50], []⟩), (9, ⟨[52, 53, 62], []⟩), (10, zd), (11, ⟨[1, 3, 4, 5, 62], []⟩), (12, ze), (13, ⟨[1, 82], []⟩), (14, zf)]
def DO : c9 := ⟨[7, 8, 9, 10, 11, 12], []⟩
def DP : c9 := ⟨[15, 16, 17, 18, 19, 20, 23], []⟩
noncomputable def DQ : Code := (.seq (.seq (.region 2 (oN f58 133) false) (.cond (.tmp 14) .skip (.exit 0))) (.seq (.block 1 (.seq (.region 4 (oN f58 549) false) (.cond (.tmp 23) (.seq (.region 5 (oN f58 2341) false) .ret) .skip))) (.region 3 (oN f58 229) false)))
noncomputable def f58c : Code := (.seq (.region 0 (oN f58 2) false) (.seq (.seq (.region 1 (oN f58 9) false) (.block 0 (.loop DQ))) (.seq (.region 6 (oN f58 11) false) .ret)))
def FJ : List (Nat × c9) := [(0, ⟨[0, 6], []⟩), (1, DO), (2, ⟨[13], []⟩), (3, DP), (4, ⟨[14, 21, 22], []⟩), (5, ⟨[1, 2, 3, 23], []⟩), (6, ⟨[1, 2, 3, 14], []⟩)]
def DR : c9 := ⟨[7, 8, 9, 10, 11], [(1, { keep := [0] }), (3, { tk := [9] })]⟩
def DS : c9 := ⟨[12, 13, 14, 15, 16, 17], []⟩
noncomputable def DT : Code := (.seq (.seq (.region 2 (oN f59 131) false) (.cond (.tmp 7) .skip (.exit 0))) (.block 1 (.seq (.region 3 (oN f59 291) false) (.region 4 (oN f59 419) false))))
noncomputable def f59c : Code := (.seq (.region 0 (oN f59 2) false) (.seq (.region 1 (oN f59 5) false) (.seq (.block 0 (.loop DT)) (.seq (.region 5 (oN f59 23) false) .ret))))
def FK : List (Nat × c9) := [(0, ⟨[0, 4], []⟩), (1, ⟨[], []⟩), (2, ⟨[6], []⟩), (3, DR), (4, DS), (5, ⟨[1, 2, 5, 7, 18], []⟩)]
def Cr : c9 := ⟨[9, 10, 11, 12, 13, 14, 15, 16, 17, 18, 19, 20, 21, 22, 23, 24, 25, 26, 27, 28, 29, 30, 31, 32, 33, 34, 35, 36, 37, 38, 39], []⟩
def Cs : c9 := ⟨[41, 42, 43, 44], []⟩
def Ct : c9 := ⟨[45, 48, 49, 50, 51, 52], []⟩
def Cu : c9 := ⟨[53, 54, 55, 56, 57, 58, 59, 60, 61, 62, 63, 64, 65, 66, 67, 68, 69, 70, 71, 72, 73, 74, 75, 76, 77], []⟩
def yx : c9 := ⟨[81, 84, 85, 86, 87, 88, 89, 90, 91], []⟩
def yy : c9 := ⟨[4, 94, 95, 96, 97, 98, 99, 100, 101, 102, 103, 104, 105, 106, 107, 108, 109, 110, 111, 112, 113, 114, 115, 116], []⟩
def yz : c9 := ⟨[4, 94, 118, 119, 120, 121, 122, 123, 124, 125, 126, 127, 128, 129, 130, 131, 132, 133, 134, 135, 136, 137, 138, 139, 140, 141, 142, 143, 144, 145, 146, 147, 148], []⟩
def yA : c9 := ⟨[150, 151, 152, 153], []⟩
def yB : c9 := ⟨[154, 157, 158, 159, 160, 161], []⟩
def yC : c9 := ⟨[162, 163, 164, 165, 166, 167, 168, 169, 170, 171, 172, 173, 174, 175, 176, 177, 178, 179, 180, 181, 182, 183, 184, 185, 186, 187, 188, 189, 190, 191, 192, 193, 194, 195, 196, 197, 198, 199, 200, 201, 202, 203, 204, 205, 206, 207, 208, 209, 210, 211, 212, 213, 214, 215, 216], []⟩
def yD : c9 := ⟨[220, 223, 224, 225, 226, 227, 228, 229, 230], []⟩
noncomputable def Cv : Code := (.seq (.seq (.region 10 (oN f30 136779) false) (.cond (.tmp 81) .skip (.exit 2))) (.seq (.block 3 (.seq (.region 12 (oN f30 562763) true) (.cond (.tmp 92) (.seq (.region 13 (oN f30 2397771) false) .ret) .skip))) (.region 11 (oN f30 235083) false)))
noncomputable def Cw : Code := (.seq (.seq (.region 4 (oN f30 267) false) (.cond (.tmp 45) .skip (.exit 0))) (.seq (.block 1 (.seq (.region 6 (oN f30 1099) false) (.seq (.seq (.region 7 (oN f30 4683) false) (.cond (.tmp 78) (.seq (.region 8 (oN f30 19019) false) .ret) .skip)) (.seq (.seq (.region 9 (oN f30 9803) false) (.block 2 (.loop Cv))) (.seq (.seq (.region 14 (oN f30 20043) false) (.cond (.tmp 94) (.seq (.seq (.region 15 (oN f30 142923) false) (.cond (.tmp 117) (.seq (.region 16 (oN f30 601675) false) .ret) .skip)) (.exit 1)) .skip)) (.seq (.region 17 (oN f30 24139) false) (.cond (.tmp 149) (.seq (.region 18 (oN f30 81483) false) .ret) .skip))))))) (.region 5 (oN f30 459) false)))
noncomputable def Cx : Code := (.seq (.seq (.region 26 (oN f30 138391) false) (.cond (.tmp 220) .skip (.exit 6))) (.seq (.block 7 (.seq (.region 28 (oN f30 564375) true) (.cond (.tmp 231) (.seq (.region 29 (oN f30 2399383) false) .ret) .skip))) (.region 27 (oN f30 236695) false)))
noncomputable def Cy : Code := (.seq (.seq (.region 20 (oN f30 535) false) (.cond (.tmp 154) .skip (.exit 4))) (.seq (.block 5 (.seq (.region 22 (oN f30 2199) false) (.seq (.seq (.region 23 (oN f30 9367) true) (.cond (.tmp 217) (.seq (.region 24 (oN f30 38039) false) .ret) .skip)) (.seq (.region 25 (oN f30 11415) false) (.block 6 (.loop Cx)))))) (.region 21 (oN f30 919) false)))
noncomputable def f30c : Code := (.seq (.region 0 (oN f30 2) false) (.seq (.seq (.region 1 (oN f30 9) false) (.cond (.tmp 40) (.seq (.region 2 (oN f30 37) false) .ret) .skip)) (.seq (.seq (.region 3 (oN f30 19) false) (.block 0 (.loop Cw))) (.seq (.seq (.region 19 (oN f30 39) false) (.block 4 (.loop Cy))) (.seq (.region 30 (oN f30 47) false) .ret)))))
def wg : List (Nat × c9) := [(0, ⟨[0, 2], []⟩), (1, Cr), (2, ⟨[1, 40], []⟩), (3, ⟨[40], []⟩), (4, Cs), (5, ⟨[46, 47, 117, 149], []⟩), (6, Ct), (7, Cu), (8, ⟨[1, 3, 4, 78], []⟩), (9, ⟨[78], []⟩), (10, ⟨[79, 80], []⟩), (11, ⟨[82, 83, 92], []⟩), (12, yx), (13, ⟨[1, 3, 4, 5, 92], []⟩), (14, ⟨[5, 81, 93], []⟩), (15, yy), (16, ⟨[1, 3, 117], []⟩), (17, yz), (18, ⟨[1, 3, 149], []⟩), (19, ⟨[3, 45], []⟩), (20, yA), (21, ⟨[7, 8, 155, 156, 220], []⟩), (22, yB), (23, yC), (24, ⟨[1, 6, 7, 217], []⟩), (25, ⟨[217], []⟩), (26, ⟨[218, 219], []⟩), (27, ⟨[221, 222, 231], []⟩), (28, yD), (29, ⟨[1, 6, 7, 8, 231], []⟩), (30, ⟨[1, 6, 154], []⟩)]
def DX : c9 := ⟨[11, 12, 13, 14, 15, 16, 17, 18, 19], []⟩
noncomputable def DY : Code := (.seq (.seq (.region 5 (oN f60 16459) true) (.cond (.tmp 20) .skip (.exit 2))) (.block 3 (.region 6 (oN f60 20555) false)))
noncomputable def DZ : Code := (.seq (.seq (.region 3 (oN f60 267) false) (.cond (.tmp 8) .skip (.exit 0))) (.seq (.block 1 (.seq (.block 2 (.loop DY)) (.seq (.seq (.region 7 (oN f60 4683) false) (.cond (.tmp 24) (.seq (.region 8 (oN f60 19019) false) .ret) .skip)) (.region 9 (oN f60 3659) false)))) (.region 4 (oN f60 459) false)))
noncomputable def f60c : Code := (.seq (.region 0 (oN f60 2) false) (.seq (.region 1 (oN f60 5) false) (.seq (.seq (.region 2 (oN f60 19) false) (.block 0 (.loop DZ))) (.seq (.region 10 (oN f60 23) false) .ret))))
def AO : List (Nat × c9) := [(0, ⟨[2], []⟩), (1, ⟨[], []⟩), (2, ⟨[], []⟩), (3, ⟨[5, 6, 7], []⟩), (4, ⟨[9, 10], []⟩), (5, DX), (6, ⟨[20, 21, 22], []⟩), (7, ⟨[20, 23], []⟩), (8, ⟨[0, 3, 4, 24], []⟩), (9, ⟨[24, 25, 26], []⟩), (10, ⟨[0, 3, 4], []⟩), (100008, {})]
def xo : c9 := ⟨[1, 2, 5, 6, 7, 8, 9, 10, 11, 12, 13], []⟩
noncomputable def GA : Code := (.seq (.region 0 (oN f111 2) false) (.seq (.region 1 (oN f111 5) false) .ret))
def BA : List (Nat × c9) := [(0, ⟨[0, 4], []⟩), (1, xo)]
def Ey : c9 := ⟨[6, 7], []⟩
def Ez : c9 := ⟨[9, 10, 11], []⟩
def EA : c9 := ⟨[12, 15, 16, 17, 18, 19, 20], []⟩
noncomputable def EB : Code := (.seq (.seq (.region 4 (oN f76 267) false) (.cond (.tmp 12) .skip (.exit 0))) (.seq (.block 1 (.seq (.region 6 (oN f76 1099) true) (.cond (.tmp 21) (.seq (.region 7 (oN f76 4683) false) .ret) .skip))) (.region 5 (oN f76 459) false)))
noncomputable def f76c : Code := (.seq (.region 0 (oN f76 2) false) (.seq (.seq (.region 1 (oN f76 9) false) (.cond (.tmp 8) (.seq (.region 2 (oN f76 37) false) .ret) .skip)) (.seq (.seq (.region 3 (oN f76 19) false) (.block 0 (.loop EB))) (.seq (.region 8 (oN f76 23) false) .ret))))
def FN : List (Nat × c9) := [(0, ⟨[0, 4], []⟩), (1, Ey), (2, ⟨[1, 2, 8], []⟩), (3, ⟨[8], []⟩), (4, Ez), (5, ⟨[13, 14, 21], []⟩), (6, EA), (7, ⟨[1, 2, 5, 21], []⟩), (8, ⟨[1, 2, 5, 12], []⟩)]
def Db : c9 := ⟨[8, 9], []⟩
def Dc : c9 := ⟨[13, 14, 15, 16], []⟩
def Dd : c9 := ⟨[17, 20, 21, 22, 23, 24, 25, 26], []⟩
noncomputable def De : Code := (.seq (.seq (.region 5 (oN f47 267) false) (.cond (.tmp 17) .skip (.exit 0))) (.seq (.block 1 (.seq (.region 7 (oN f47 1099) false) (.cond (.tmp 27) (.seq (.region 8 (oN f47 4683) false) .ret) .skip))) (.region 6 (oN f47 459) false)))
noncomputable def f47c : Code := (.seq (.region 0 (oN f47 2) false) (.seq (.seq (.region 1 (oN f47 9) false) (.seq (.region 2 (oN f47 21) false) (.cond (.tmp 11) (.seq (.region 3 (oN f47 77) false) .ret) .skip))) (.seq (.seq (.region 4 (oN f47 19) false) (.block 0 (.loop De))) (.seq (.region 9 (oN f47 23) false) .ret))))
def FD : List (Nat × c9) := [(0, ⟨[0, 4, 5], []⟩), (1, Db), (2, ⟨[10], []⟩), (3, ⟨[1, 2, 6, 11, 12], []⟩), (4, ⟨[6, 11], []⟩), (5, Dc), (6, ⟨[18, 19, 27], []⟩), (7, Dd), (8, ⟨[1, 2, 7, 27, 28], []⟩), (9, ⟨[1, 2, 7, 17], []⟩)]
def xk : c9 := ⟨[9, 10, 11, 12, 13], []⟩
def xl : c9 := ⟨[1, 2, 3, 8, 15, 17, 18, 19, 20], []⟩
noncomputable def Gx : Code := (.seq (.region 0 (oN f109 2) false) (.seq (.seq (.region 1 (oN f109 9) false) (.seq (.region 2 (oN f109 21) false) (.cond (.tmp 15) (.seq (.region 3 (oN f109 77) false) .ret) .skip))) (.seq (.region 4 (oN f109 11) false) .ret)))
def Bv : List (Nat × c9) := [(0, ⟨[0, 6, 7], []⟩), (1, xk), (2, ⟨[14], []⟩), (3, ⟨[1, 2, 3, 8, 15, 16], []⟩), (4, xl)]
def EC : c9 := ⟨[6, 7, 8], []⟩
def ED : c9 := ⟨[1, 2, 5, 10, 11, 12, 13, 14, 15, 16, 17, 18], []⟩
noncomputable def f77c : Code := (.seq (.region 0 (oN f77 2) false) (.seq (.block 0 (.seq (.region 1 (oN f77 17) false) (.cond (.tmp 5) (.seq (.region 2 (oN f77 73) false) .ret) (.seq (.region 3 (oN f77 89) false) (.cond (.tmp 9) (.seq (.region 4 (oN f77 313) false) .ret) .skip))))) (.seq (.region 5 (oN f77 11) false) .ret)))
def HC : List (Nat × c9) := [(0, ⟨[0, 4], []⟩), (1, EC), (2, ⟨[1, 2, 5], []⟩), (3, ED), (4, ⟨[9], []⟩), (5, ⟨[9], []⟩)]
def xZ : c9 := ⟨[10, 11, 12, 13], []⟩
def ya : c9 := ⟨[17, 18, 19, 20, 21, 22, 23, 24], []⟩
def yb : c9 := ⟨[25, 28, 29, 30, 31, 32, 33, 34, 35, 36, 37, 38], []⟩
noncomputable def yc : Code := (.seq (.seq (.region 5 (oN f126 267) false) (.cond (.tmp 25) .skip (.exit 0))) (.seq (.block 1 (.seq (.region 7 (oN f126 1099) false) (.cond (.tmp 39) (.seq (.region 8 (oN f126 4683) false) .ret) .skip))) (.region 6 (oN f126 459) false)))
noncomputable def GN : Code := (.seq (.region 0 (oN f126 2) false) (.seq (.seq (.region 1 (oN f126 9) false) (.seq (.region 2 (oN f126 21) false) (.cond (.tmp 15) (.seq (.region 3 (oN f126 77) false) .ret) .skip))) (.seq (.seq (.region 4 (oN f126 19) false) (.block 0 (.loop yc))) (.seq (.region 9 (oN f126 23) false) .ret))))
def yd : List (Nat × c9) := [(0, ⟨[0, 6, 7], []⟩), (1, xZ), (2, ⟨[14], []⟩), (3, ⟨[1, 2, 3, 8, 15, 16], []⟩), (4, ⟨[8, 15], []⟩), (5, ya), (6, ⟨[26, 27, 39], []⟩), (7, yb), (8, ⟨[1, 2, 3, 9, 39, 40], []⟩), (9, ⟨[1, 2, 3, 9, 25], []⟩)]
def xp : c9 := ⟨[9, 10, 11, 12, 13, 14, 15, 16], []⟩
def xq : c9 := ⟨[1, 3, 5, 7, 8, 17, 18, 19, 20, 21, 22, 23, 24, 25, 26, 27, 28, 29, 30, 31, 32, 33, 34, 35, 36, 37, 38, 39, 40, 41, 42, 43, 44], []⟩
noncomputable def GB : Code := (.seq (.region 0 (oN f112 2) false) (.seq (.region 1 (oN f112 5) false) (.seq (.region 2 (oN f112 11) true) .ret)))
def BB : List (Nat × c9) := [(0, ⟨[0, 2, 6], []⟩), (1, xp), (2, xq)]
def EE : c9 := ⟨[9, 10, 11], []⟩
def EF : c9 := ⟨[12, 15, 16, 17, 18, 19, 20, 21, 22, 23, 24, 25, 26, 27], []⟩
def EG : c9 := ⟨[29, 30, 31, 32, 33, 34], []⟩
def EH : c9 := ⟨[35, 38, 39, 40, 41, 42, 43, 44, 45, 46, 47], []⟩
def zj : c9 := ⟨[1, 2, 3, 7, 12, 49, 50, 51], []⟩
noncomputable def EI : Code := (.seq (.seq (.region 7 (oN f78 17189) false) (.cond (.tmp 35) .skip (.exit 2))) (.seq (.block 3 (.seq (.region 9 (oN f78 70437) true) (.cond (.tmp 48) (.seq (.region 10 (oN f78 299813) false) .ret) .skip))) (.region 8 (oN f78 29477) false)))
noncomputable def EJ : Code := (.seq (.seq (.region 2 (oN f78 133) false) (.cond (.tmp 12) .skip (.exit 0))) (.seq (.block 1 (.seq (.seq (.region 4 (oN f78 1061) false) (.cond (.tmp 28) (.seq (.region 5 (oN f78 4645) false) .ret) .skip)) (.seq (.region 6 (oN f78 1317) false) (.block 2 (.loop EI))))) (.region 3 (oN f78 229) false)))
noncomputable def f78c : Code := (.seq (.region 0 (oN f78 2) false) (.seq (.seq (.region 1 (oN f78 9) false) (.block 0 (.loop EJ))) (.seq (.region 11 (oN f78 11) false) .ret)))
def AQ : List (Nat × c9) := [(0, ⟨[0, 6], []⟩), (1, ⟨[], []⟩), (2, EE), (3, ⟨[8, 13, 14, 35], []⟩), (4, EF), (5, ⟨[1, 2, 3, 7, 28], []⟩), (6, ⟨[28], []⟩), (7, EG), (8, ⟨[36, 37, 48], []⟩), (9, EH), (10, ⟨[1, 2, 3, 7, 8, 48], []⟩), (11, zj)]
def xm : c9 := ⟨[9, 10, 11], []⟩
def xn : c9 := ⟨[1, 2, 3, 8, 13, 15, 16, 17, 18], []⟩
noncomputable def Gz : Code := (.seq (.region 0 (oN f110 2) false) (.seq (.seq (.region 1 (oN f110 9) false) (.seq (.region 2 (oN f110 21) false) (.cond (.tmp 13) (.seq (.region 3 (oN f110 77) false) .ret) .skip))) (.seq (.region 4 (oN f110 11) false) .ret)))
def Bz : List (Nat × c9) := [(0, ⟨[0, 6, 7], []⟩), (1, xm), (2, ⟨[12], []⟩), (3, ⟨[1, 2, 3, 8, 13, 14], []⟩), (4, xn)]
def Eu : c9 := ⟨[13, 14, 15], []⟩
def Ev : c9 := ⟨[16, 17, 18, 19, 20, 21, 22, 23], []⟩
def Ew : c9 := ⟨[1, 27, 28, 29, 30, 31, 32, 33, 34], []⟩
def Ex : c9 := ⟨[9, 10, 35, 36, 37, 38, 39], []⟩
def uC : c9 := ⟨[1, 3, 5, 7, 27, 40, 41, 42, 43, 44, 45, 46, 47, 48], []⟩
def uD : c9 := ⟨[11, 12, 49, 50, 51, 52, 53], []⟩
noncomputable def f75c : Code := (.seq (.region 0 (oN f75 2) false) (.seq (.seq (.region 1 (oN f75 9) false) (.cond (.tmp 16) (.seq (.region 2 (oN f75 37) false) .ret) .skip)) (.seq (.region 3 (oN f75 11) false) (.seq (.seq (.region 4 (oN f75 39) false) (.cond (.tmp 25) (.seq (.region 5 (oN f75 151) false) .ret) .skip)) (.seq (.seq (.region 6 (oN f75 79) false) (.cond (.tmp 27) (.seq (.region 7 (oN f75 303) false) (.seq (.region 8 (oN f75 687) false) (.cond (.tmp 40) (.seq (.region 9 (oN f75 2479) false) .ret) .skip))) .skip)) (.seq (.seq (.region 10 (oN f75 159) false) (.seq (.region 11 (oN f75 351) false) (.cond (.tmp 54) (.seq (.region 12 (oN f75 1247) false) .ret) .skip))) (.seq (.region 13 (oN f75 191) false) .ret)))))))
def HB : List (Nat × c9) := [(0, ⟨[0, 2, 6], []⟩), (1, Eu), (2, ⟨[1, 3, 5, 16], []⟩), (3, Ev), (4, ⟨[8, 24], []⟩), (5, ⟨[1, 3, 5, 7, 25], []⟩), (6, ⟨[25, 26], []⟩), (7, Ew), (8, Ex), (9, ⟨[3, 5, 7, 40], []⟩), (10, uC), (11, uD), (12, ⟨[54], []⟩), (13, ⟨[54], []⟩)]
def CW : c9 := ⟨[9, 10], []⟩
def CX : c9 := ⟨[11, 12, 13], []⟩
def CY : c9 := ⟨[15, 16, 17], []⟩
def CZ : c9 := ⟨[6, 18, 21, 22, 23, 24, 25, 26, 27], []⟩
def yP : c9 := ⟨[8, 29, 31, 32, 33, 34, 35, 36, 37, 38, 39, 40], []⟩
noncomputable def Da : Code := (.seq (.seq (.region 7 (oN f46 1071) false) (.cond (.tmp 18) .skip (.exit 0))) (.seq (.block 1 (.seq (.seq (.region 9 (oN f46 8495) true) (.seq (.region 10 (oN f46 20783) false) (.cond (.tmp 29) (.seq (.region 11 (oN f46 78127) false) .ret) .skip))) (.region 12 (oN f46 6447) true))) (.region 8 (oN f46 1839) false)))
noncomputable def f46c : Code := (.seq (.region 0 (oN f46 2) false) (.seq (.seq (.region 1 (oN f46 9) false) (.cond (.tmp 11) (.seq (.region 2 (oN f46 37) false) .ret) .skip)) (.seq (.seq (.region 3 (oN f46 19) false) (.cond (.tmp 14) (.seq (.region 4 (oN f46 75) false) .ret) .skip)) (.seq (.region 5 (oN f46 23) false) (.seq (.seq (.region 6 (oN f46 79) false) (.block 0 (.loop Da))) (.seq (.region 13 (oN f46 95) false) .ret))))))
def FC : List (Nat × c9) := [(0, ⟨[0, 4, 5], []⟩), (1, CW), (2, ⟨[1, 2, 11], []⟩), (3, CX), (4, ⟨[1, 2, 14], []⟩), (5, ⟨[14], []⟩), (6, ⟨[], []⟩), (7, CY), (8, ⟨[19, 20], []⟩), (9, CZ), (10, ⟨[28], []⟩), (11, ⟨[1, 2, 7, 8, 29, 30], []⟩), (12, yP), (13, ⟨[1, 2, 6, 7, 18], []⟩)]
def Ce : c9 := ⟨[12, 13, 14, 15, 16, 17], []⟩
def Cf : c9 := ⟨[6, 18, 19, 20, 21, 22], []⟩
def yu : c9 := ⟨[27, 28, 29], []⟩
def um : c9 := ⟨[11, 30, 33, 34, 35, 36, 37, 38, 39, 40, 41, 42], []⟩
def uo : c9 := ⟨[10, 43, 44, 45, 46], [(0, { tk := [8], keep := [0] }), (3, { tk := [43], keep := [0] }), (4, { tk := [46], keep := [0] })]⟩
noncomputable def yv : Code := (.seq (.seq (.region 8 (oN f25 2143) false) (.cond (.tmp 30) .skip (.exit 0))) (.seq (.block 1 (.seq (.region 10 (oN f25 8799) true) (.region 11 (oN f25 12895) false))) (.region 9 (oN f25 3679) false)))
noncomputable def f25c : Code := (.seq (.region 0 (oN f25 2) false) (.seq (.region 1 (oN f25 5) false) (.seq (.seq (.region 2 (oN f25 19) false) (.cond (.tmp 23) (.region 3 (oN f25 43) false) .skip)) (.seq (.seq (.region 4 (oN f25 39) false) (.cond (.tmp 25) (.seq (.region 5 (oN f25 151) false) .ret) .skip)) (.seq (.region 6 (oN f25 47) false) (.seq (.seq (.region 7 (oN f25 159) false) (.block 0 (.loop yv))) (.seq (.region 12 (oN f25 191) false) .ret)))))))
def AK : List (Nat × c9) := [(0, ⟨[0, 4, 5], []⟩), (1, Ce), (2, Cf), (3, ⟨[23], []⟩), (4, ⟨[23, 24], []⟩), (5, ⟨[1, 2, 7, 25, 26], []⟩), (6, ⟨[7, 25], [(0, { keep := [0] })]⟩), (7, ⟨[], []⟩), (8, yu), (9, ⟨[31, 32], []⟩), (10, um), (11, uo), (12, ⟨[1, 2, 8, 9, 30, 47], []⟩)]
def Cg : c9 := ⟨[5, 6, 7], []⟩
noncomputable def Ch : Code := (.seq (.seq (.region 1 (oN f26 65) false) (.cond (.tmp 5) .skip (.exit 0))) (.block 1 (.region 2 (oN f26 81) false)))
noncomputable def f26c : Code := (.seq (.region 0 (oN f26 2) false) (.seq (.block 0 (.loop Ch)) (.seq (.region 3 (oN f26 11) false) .ret)))
def Fz : List (Nat × c9) := [(0, ⟨[2], []⟩), (1, ⟨[3, 4], []⟩), (2, Cg), (3, ⟨[0, 5, 8], []⟩)]
def Df : c9 := ⟨[10, 11, 12], []⟩
def Dg : c9 := ⟨[1, 2, 3, 4, 13, 14, 15, 16, 17, 18, 19, 20, 21, 22, 23, 24, 25, 26, 27], []⟩
noncomputable def f48c : Code := (.seq (.region 0 (oN f48 2) false) (.seq (.region 1 (oN f48 5) false) (.seq (.seq (.region 2 (oN f48 19) false) (.cond (.tmp 28) (.region 3 (oN f48 43) false) .skip)) (.seq (.region 4 (oN f48 23) false) .ret))))
def Hj : List (Nat × c9) := [(0, ⟨[0, 8], []⟩), (1, Df), (2, Dg), (3, ⟨[28], []⟩), (4, ⟨[9, 28, 29], []⟩)]
noncomputable def f79c : Code := (.seq (.region 0 (oN f79 2) false) (.seq (.seq (.region 1 (oN f79 9) false) (.block 0 (.seq (.region 2 (oN f79 37) false) (.cond (.tmp 4) (.seq (.region 3 (oN f79 149) false) .ret) (.seq (.region 4 (oN f79 181) false) (.cond (.tmp 6) (.seq (.region 5 (oN f79 629) false) .ret) (.seq (.region 6 (oN f79 757) false) (.cond (.tmp 8) (.seq (.region 7 (oN f79 2549) false) .ret) (.seq (.region 8 (oN f79 3061) false) (.cond (.tmp 10) (.seq (.region 9 (oN f79 10229) false) .ret) (.seq (.region 10 (oN f79 12277) false) (.cond (.tmp 12) (.seq (.region 11 (oN f79 40949) false) .ret) .skip)))))))))))) (.seq (.region 12 (oN f79 11) false) .ret)))
def HD : List (Nat × c9) := [(0, ⟨[2], []⟩), (1, ⟨[0], []⟩), (2, ⟨[5], []⟩), (3, ⟨[3, 4], []⟩), (4, ⟨[4, 7], []⟩), (5, ⟨[3, 6], []⟩), (6, ⟨[6, 9], []⟩), (7, ⟨[3, 8], []⟩), (8, ⟨[8, 11], []⟩), (9, ⟨[3, 10], []⟩), (10, ⟨[3, 10, 13], []⟩), (11, ⟨[12], []⟩), (12, ⟨[12], []⟩)]
def Dh : c9 := ⟨[6, 7, 8], []⟩
def Di : c9 := ⟨[13, 14, 15], []⟩
def yQ : c9 := ⟨[16, 17, 18, 19, 20, 21], []⟩
def uz : c9 := ⟨[26, 27, 28], []⟩
def oX : c9 := ⟨[26, 29, 30, 31, 32, 33, 34, 35, 36, 37, 38, 39, 40, 41, 42, 43, 44, 45, 46, 47, 48, 49, 50, 51, 52, 53, 54, 55, 56, 57, 58], [(30, { eff := true })]⟩
noncomputable def yR : Code := (.seq (.seq (.region 8 (oN f49 34379) false) (.cond (.tmp 22) .skip (.exit 2))) (.seq (.block 3 (.seq (.seq (.region 10 (oN f49 271947) false) (.cond (.tmp 26) (.region 11 (oN f49 665163) false) .skip)) (.region 12 (oN f49 206411) true))) (.region 9 (oN f49 58955) false)))
noncomputable def Dj : Code := (.seq (.seq (.region 3 (oN f49 267) false) (.cond (.tmp 9) .skip (.exit 0))) (.seq (.block 1 (.seq (.seq (.region 5 (oN f49 2123) false) (.cond (.tmp 13) (.region 6 (oN f49 5195) false) .skip)) (.seq (.region 7 (oN f49 2635) false) (.block 2 (.loop yR))))) (.region 4 (oN f49 459) false)))
noncomputable def f49c : Code := (.seq (.region 0 (oN f49 2) false) (.seq (.region 1 (oN f49 5) false) (.seq (.seq (.region 2 (oN f49 19) false) (.block 0 (.loop Dj))) (.seq (.region 13 (oN f49 23) false) .ret))))
def yS : List (Nat × c9) := [(0, ⟨[2], []⟩), (1, ⟨[], []⟩), (2, ⟨[], []⟩), (3, Dh), (4, ⟨[5, 10, 11, 22], []⟩), (5, ⟨[9, 12], []⟩), (6, Di), (7, ⟨[13], []⟩), (8, yQ), (9, ⟨[23, 24], []⟩), (10, ⟨[22, 25], []⟩), (11, uz), (12, oX), (13, ⟨[0, 3, 4, 9, 59], []⟩)]
def Ci : c9 := ⟨[1, 3, 9, 10, 11, 12], []⟩
def Cj : c9 := ⟨[2, 8, 14, 16, 17], []⟩
noncomputable def f27c : Code := (.seq (.region 0 (oN f27 2) false) (.seq (.seq (.region 1 (oN f27 9) false) (.seq (.region 2 (oN f27 21) false) (.cond (.tmp 14) (.seq (.region 3 (oN f27 77) false) .ret) .skip))) (.seq (.region 4 (oN f27 11) false) .ret)))
def GX : List (Nat × c9) := [(0, ⟨[0, 6, 7], []⟩), (1, Ci), (2, ⟨[13], []⟩), (3, ⟨[2, 8, 14, 15], []⟩), (4, Cj)]
def HU : c9 := ⟨[11, 12, 13, 14, 15, 16, 17], []⟩
def HV : c9 := ⟨[7, 19, 21, 22, 23], []⟩
def HW : c9 := ⟨[26, 27, 28, 29, 30, 31], []⟩
def FV : c9 := ⟨[26, 32, 33, 34], []⟩
def FW : c9 := ⟨[2, 3, 6, 8, 35, 36, 37], []⟩
def FX : c9 := ⟨[2, 3, 6, 10, 35, 38, 39, 40, 41, 42, 43, 44, 45, 46, 47], []⟩
def zq : c9 := ⟨[8, 9, 48, 49, 50, 51, 52], []⟩
noncomputable def f9c : Code := (.seq (.region 0 (oN f9 2) false) (.seq (.region 1 (oN f9 5) false) (.seq (.seq (.region 2 (oN f9 19) false) (.cond (.tmp 19) (.seq (.region 3 (oN f9 75) false) .ret) .skip)) (.seq (.region 4 (oN f9 23) false) (.seq (.seq (.region 5 (oN f9 79) false) (.cond (.tmp 26) (.region 6 (oN f9 175) false) .skip)) (.seq (.seq (.region 7 (oN f9 159) false) (.cond (.tmp 35) (.seq (.region 8 (oN f9 607) false) .ret) .skip)) (.seq (.region 9 (oN f9 191) true) (.seq (.region 10 (oN f9 383) false) .ret))))))))
def f9n : List (Nat × c9) := [(0, ⟨[0, 1, 4, 5], []⟩), (1, HU), (2, ⟨[18], []⟩), (3, ⟨[2, 3, 6, 7, 19, 20], []⟩), (4, HV), (5, ⟨[24, 25], []⟩), (6, HW), (7, FV), (8, FW), (9, FX), (10, zq)]
def EY : c9 := ⟨[12, 14, 15, 16, 17], []⟩
def EZ : c9 := ⟨[19, 20, 21, 22, 23, 24, 25, 26, 27, 28], []⟩
def Fa : c9 := ⟨[29, 34, 35, 36, 37, 38, 39, 40], []⟩
def Fb : c9 := ⟨[8, 41, 42, 43, 44, 45, 46], []⟩
def zl : c9 := ⟨[47, 49, 50], []⟩
def zm : c9 := ⟨[2, 7, 51, 52, 53, 54, 55, 56], []⟩
def zn : c9 := ⟨[60, 62, 63, 64, 65], []⟩
def zo : c9 := ⟨[1, 9, 66, 67, 68, 69], []⟩
noncomputable def Fc : Code := (.seq (.seq (.region 5 (oN f94 527) true) (.cond (.tmp 29) .skip (.exit 0))) (.block 1 (.region 6 (oN f94 655) false)))
noncomputable def f94c : Code := (.seq (.region 0 (oN f94 2) false) (.seq (.seq (.region 1 (oN f94 9) false) (.cond (.tmp 12) (.seq (.region 2 (oN f94 37) false) .ret) .skip)) (.seq (.region 3 (oN f94 11) false) (.seq (.region 4 (oN f94 23) false) (.seq (.block 0 (.loop Fc)) (.seq (.region 7 (oN f94 95) false) (.seq (.seq (.region 8 (oN f94 319) false) (.cond (.tmp 47) (.seq (.region 9 (oN f94 1215) false) .ret) .skip)) (.seq (.region 10 (oN f94 383) false) (.seq (.region 11 (oN f94 767) false) (.seq (.seq (.region 12 (oN f94 2559) false) (.cond (.tmp 60) (.seq (.region 13 (oN f94 9727) false) .ret) .skip)) (.seq (.region 14 (oN f94 3071) false) (.seq (.region 15 (oN f94 6143) true) .ret))))))))))))
def FT : List (Nat × c9) := [(0, ⟨[0, 5, 6], []⟩), (1, ⟨[10, 11], []⟩), (2, ⟨[1, 2, 12, 13], []⟩), (3, EY), (4, ⟨[18], []⟩), (5, EZ), (6, ⟨[29, 30, 31, 32, 33], []⟩), (7, Fa), (8, Fb), (9, ⟨[1, 2, 7, 47, 48], []⟩), (10, zl), (11, zm), (12, ⟨[57, 58, 59], []⟩), (13, ⟨[1, 9, 60, 61], []⟩), (14, zn), (15, zo)]
def DC : c9 := ⟨[14, 15, 16], []⟩
def DD : c9 := ⟨[10, 24, 25, 26, 27, 28, 29, 30, 31, 32, 33, 34], []⟩
def yX : c9 := ⟨[11, 36, 37, 38, 39, 40, 41, 42, 43, 44, 45, 46, 47, 48, 49, 50], [(0, { noio := true }), (1, { noio := true }), (2, { noio := true }), (3, { noio := true }), (4, { noio := true }), (5, { noio := true }), (6, { noio := true }), (7, { noio := true }), (8, { noio := true }), (9, { keep := [0], mem := true, noio := true }), (10, { noio := true }), (11, { noio := true }), (12, { tk := [46], keep := [0], noio := true }), (14, { tk := [49] })]⟩
def yY : c9 := ⟨[52, 53], []⟩
def yZ : c9 := ⟨[57, 59, 60, 61], []⟩
def uA : c9 := ⟨[12, 54, 55, 62, 63], []⟩
def za : c9 := ⟨[1, 3, 12, 52, 64, 65, 66, 67, 68, 69, 70], []⟩
def zb : c9 := ⟨[9, 71, 72], [(1, { close := true })]⟩
noncomputable def DE : Code := (.block 1 (.seq (.region 8 (oN f55 1071) false) (.seq (.seq (.region 9 (oN f55 4655) false) (.cond (.tmp 36) (.seq (.region 10 (oN f55 18991) false) .ret) .skip)) (.seq (.region 11 (oN f55 5679) true) (.seq (.seq (.region 12 (oN f55 20015) false) (.cond (.tmp 52) (.exit 0) .skip)) (.seq (.seq (.region 13 (oN f55 40495) false) (.block 2 (.seq (.region 15 (oN f55 155183) false) (.cond (.tmp 55) .skip (.seq (.region 16 (oN f55 745007) false) (.cond (.tmp 57) (.region 17 (oN f55 1531439) false) (.seq (.region 14 (oN f55 3104303) false) .ret))))))) (.region 18 (oN f55 32303) false)))))))
noncomputable def f55c : Code := (.seq (.region 0 (oN f55 2) false) (.seq (.seq (.region 1 (oN f55 9) false) (.seq (.region 2 (oN f55 21) false) (.cond (.tmp 18) (.seq (.region 3 (oN f55 77) false) .ret) .skip))) (.seq (.seq (.region 4 (oN f55 19) false) (.cond (.tmp 21) (.seq (.region 5 (oN f55 75) false) .ret) .skip)) (.seq (.region 6 (oN f55 23) false) (.seq (.seq (.region 7 (oN f55 79) false) (.block 0 (.loop DE))) (.seq (.seq (.region 19 (oN f55 159) false) (.cond (.tmp 71) (.seq (.region 20 (oN f55 607) false) .ret) .skip)) (.seq (.region 21 (oN f55 191) false) .ret)))))))
def FH : List (Nat × c9) := [(0, ⟨[0, 6, 7], []⟩), (1, DC), (2, ⟨[17], []⟩), (3, ⟨[1, 2, 3, 8, 18, 19], []⟩), (4, ⟨[8, 18, 20], []⟩), (5, ⟨[1, 2, 3, 21], []⟩), (6, ⟨[21], [(0, { site := true })]⟩), (7, ⟨[2, 23], []⟩), (8, DD), (9, ⟨[13, 35], []⟩), (10, ⟨[1, 3, 9, 11, 12, 22, 36], []⟩), (11, yX), (12, ⟨[51], []⟩), (13, yY), (14, ⟨[1, 3, 9, 12, 22, 57], []⟩), (15, ⟨[56], []⟩), (16, ⟨[54, 55, 58], []⟩), (17, yZ), (18, uA), (19, za), (20, ⟨[9, 22, 71], []⟩), (21, zb), (200000, { kill := [], ops := [(22, {})] })]
def Cl : c9 := ⟨[15, 17, 18, 19, 20], []⟩
def Cm : c9 := ⟨[21, 22], []⟩
def Cn : c9 := ⟨[23, 24], []⟩
def Co : c9 := ⟨[26, 27, 28, 29, 30, 31, 32, 33, 34, 35], []⟩
def Cp : c9 := ⟨[36, 39, 40, 41, 42], []⟩
def yw : c9 := ⟨[8, 43, 44, 45], []⟩
def uq : c9 := ⟨[25, 46, 47, 48, 49, 50, 51, 52], []⟩
def ur : c9 := ⟨[58, 59, 60, 61, 62, 63, 64, 65, 66, 67, 68, 69, 70], []⟩
def ut : c9 := ⟨[7, 9, 11, 71, 72, 73, 74, 75, 76, 77, 78, 79, 80, 81, 82], []⟩
def oV : c9 := ⟨[2, 84, 86, 87, 88, 89, 90, 91], []⟩
def oW : c9 := ⟨[1, 6, 10, 12, 92, 93, 94, 95, 96, 97, 98, 99], []⟩
noncomputable def Cq : Code := (.seq (.seq (.region 7 (oN f29 8367) false) (.cond (.tmp 36) .skip (.exit 0))) (.block 1 (.region 8 (oN f29 10415) false)))
noncomputable def f29c : Code := (.seq (.region 0 (oN f29 2) false) (.seq (.seq (.region 1 (oN f29 9) false) (.cond (.tmp 15) (.seq (.region 2 (oN f29 37) false) .ret) .skip)) (.seq (.region 3 (oN f29 11) false) (.seq (.region 4 (oN f29 23) false) (.seq (.seq (.region 5 (oN f29 79) false) (.cond (.tmp 25) (.seq (.region 6 (oN f29 303) false) (.seq (.block 0 (.loop Cq)) (.seq (.region 9 (oN f29 1455) false) (.region 10 (oN f29 1967) false)))) .skip)) (.seq (.region 11 (oN f29 95) false) (.seq (.seq (.region 12 (oN f29 319) false) (.cond (.tmp 54) (.seq (.region 13 (oN f29 1215) false) .ret) .skip)) (.seq (.seq (.region 14 (oN f29 639) false) (.seq (.region 15 (oN f29 1407) false) (.cond (.tmp 71) (.region 16 (oN f29 2943) true) .skip))) (.seq (.seq (.region 17 (oN f29 1279) false) (.cond (.tmp 84) (.seq (.region 18 (oN f29 4863) false) .ret) .skip)) (.seq (.region 19 (oN f29 1535) false) (.seq (.region 20 (oN f29 3071) false) .ret)))))))))))
def FA : List (Nat × c9) := [(0, ⟨[0, 5], []⟩), (1, ⟨[13, 14], []⟩), (2, ⟨[1, 2, 15, 16], []⟩), (3, Cl), (4, Cm), (5, Cn), (6, ⟨[25], []⟩), (7, Co), (8, ⟨[36, 37, 38], []⟩), (9, Cp), (10, yw), (11, uq), (12, ⟨[53], []⟩), (13, ⟨[1, 2, 6, 7, 9, 10, 54, 55], []⟩), (14, ⟨[54, 56, 57], []⟩), (15, ur), (16, ut), (17, ⟨[7, 9, 10, 11, 71, 83], []⟩), (18, ⟨[1, 2, 6, 84, 85], []⟩), (19, oV), (20, oW)]
def Bw : c9 := ⟨[8, 9], []⟩
def Bx : c9 := ⟨[1, 2, 10, 12, 13, 14, 15, 16, 17], []⟩
noncomputable def f10c : Code := (.seq (.region 0 (oN f10 2) false) (.seq (.seq (.region 1 (oN f10 9) false) (.cond (.tmp 10) (.seq (.region 2 (oN f10 37) false) .ret) .skip)) (.seq (.region 3 (oN f10 11) false) (.seq (.seq (.region 4 (oN f10 39) false) (.cond (.tmp 19) (.seq (.region 5 (oN f10 151) false) .ret) .skip)) (.seq (.region 6 (oN f10 47) false) .ret)))))
def Gy : List (Nat × c9) := [(0, ⟨[0, 5], []⟩), (1, Bw), (2, ⟨[1, 2, 10, 11], []⟩), (3, Bx), (4, ⟨[7, 18], []⟩), (5, ⟨[6, 19, 20], []⟩), (6, ⟨[6, 19, 21], []⟩)]
def Fd : c9 := ⟨[14, 15, 16, 17, 18, 19, 20, 21], []⟩
def Fe : c9 := ⟨[22, 25, 26, 27, 28, 29, 30, 31, 32, 33], []⟩
def Ff : c9 := ⟨[35, 38, 39, 40, 41, 42, 43], []⟩
def Fg : c9 := ⟨[44, 45, 46, 47, 48, 49, 50, 51, 52, 53, 54, 55, 56, 57, 58], []⟩
def zp : c9 := ⟨[2, 10, 11, 12, 13, 65, 66, 67, 68, 69, 70, 71, 72, 73, 74, 75, 76], []⟩
noncomputable def Fh : Code := (.seq (.seq (.region 6 (oN f95 17189) false) (.cond (.tmp 35) .skip (.exit 2))) (.seq (.block 3 (.seq (.region 8 (oN f95 70437) false) (.seq (.region 9 (oN f95 168741) false) (.cond (.tmp 59) (.seq (.region 10 (oN f95 627493) false) (.seq (.region 11 (oN f95 1413925) true) .ret)) .skip)))) (.region 7 (oN f95 29477) false)))
noncomputable def Fi : Code := (.seq (.seq (.region 2 (oN f95 133) false) (.cond (.tmp 22) .skip (.exit 0))) (.seq (.block 1 (.seq (.region 4 (oN f95 549) false) (.seq (.region 5 (oN f95 1317) false) (.block 2 (.loop Fh))))) (.region 3 (oN f95 229) false)))
noncomputable def f95c : Code := (.seq (.region 0 (oN f95 2) false) (.seq (.seq (.region 1 (oN f95 9) false) (.block 0 (.loop Fi))) (.seq (.region 12 (oN f95 11) false) .ret)))
def AR : List (Nat × c9) := [(0, ⟨[0, 7, 8], []⟩), (1, ⟨[], []⟩), (2, Fd), (3, ⟨[10, 11, 23, 24, 35], []⟩), (4, Fe), (5, ⟨[], []⟩), (6, ⟨[34], []⟩), (7, ⟨[12, 36, 37, 59], []⟩), (8, Ff), (9, Fg), (10, ⟨[1, 3, 9, 59, 60, 61, 62, 63, 64], []⟩), (11, zp), (12, ⟨[1, 2, 3, 9, 22, 77], []⟩)]
def Ea : c9 := ⟨[2, 14, 15, 16, 17, 18, 19, 20, 21], []⟩
def Eb : c9 := ⟨[11, 23, 24, 25, 26, 27], [(0, { tk := [10], keep := [0] }), (3, { tk := [24], keep := [0] }), (4, { tk := [27], keep := [0] })]⟩
def Ec : c9 := ⟨[28, 29, 30, 31, 32, 33], []⟩
def Ed : c9 := ⟨[12, 34, 35, 36], []⟩
def Ee : c9 := ⟨[10, 34, 37, 38, 39, 40], [(0, { tk := [9], keep := [0] }), (3, { tk := [37], keep := [0] }), (4, { tk := [40], keep := [0] })]⟩
def zg : c9 := ⟨[41, 42, 43, 44, 45, 46], []⟩
def zh : c9 := ⟨[1, 3, 9, 10, 12, 47, 48, 49, 50, 51, 52, 53], []⟩
def zi : c9 := ⟨[12, 47, 54, 55], []⟩
noncomputable def Eh : Code := (.block 1 (.seq (.region 3 (oN f61 135) false) (.seq (.seq (.region 4 (oN f61 583) false) (.cond (.tmp 23) (.seq (.region 5 (oN f61 2375) false) .ret) .skip)) (.seq (.region 6 (oN f61 711) false) (.seq (.seq (.region 7 (oN f61 2503) false) (.cond (.tmp 34) (.seq (.region 8 (oN f61 9671) false) (.exit 1)) .skip)) (.seq (.region 9 (oN f61 3015) false) (.seq (.region 10 (oN f61 6087) false) (.seq (.seq (.region 11 (oN f61 20423) false) (.cond (.tmp 47) (.seq (.region 12 (oN f61 77767) false) .ret) .skip)) (.region 13 (oN f61 16327) false)))))))))
noncomputable def f61c : Code := (.seq (.region 0 (oN f61 2) false) (.seq (.region 1 (oN f61 5) false) (.seq (.region 2 (oN f61 11) false) (.block 0 (.loop Eh)))))
def FL : List (Nat × c9) := [(0, ⟨[0, 6, 7, 8], []⟩), (1, ⟨[], [(0, { keep := [0] })]⟩), (2, ⟨[], [(0, { keep := [0] })]⟩), (3, Ea), (4, ⟨[13, 22], []⟩), (5, ⟨[1, 3, 9, 10, 11, 12, 23], []⟩), (6, Eb), (7, Ec), (8, Ed), (9, Ee), (10, ⟨[], [(0, { keep := [0] })]⟩), (11, zg), (12, zh), (13, zi)]
def Cz : c9 := ⟨[15, 16, 17, 18], []⟩
def CA : c9 := ⟨[19, 22, 23, 24, 25, 26, 27, 28], []⟩
def CB : c9 := ⟨[9, 29, 30, 31, 32, 33, 34, 35, 36], []⟩
def yE : c9 := ⟨[40, 42, 43, 44, 45, 46, 47, 48], []⟩
def yF : c9 := ⟨[49, 50], []⟩
def yG : c9 := ⟨[51, 52], []⟩
def yH : c9 := ⟨[54, 55, 56, 57, 58, 59, 60, 61, 62, 63, 64, 65, 66, 67, 68], []⟩
def yI : c9 := ⟨[69, 72, 73, 74, 75], []⟩
def yJ : c9 := ⟨[11, 76, 77, 78], []⟩
def yK : c9 := ⟨[79, 80, 81, 82, 83, 84, 85, 86, 87, 88, 89, 90], []⟩
def uu : c9 := ⟨[53, 91, 93, 94], []⟩
def uv : c9 := ⟨[1, 2, 7, 10, 95, 96, 97, 98], []⟩
def uw : c9 := ⟨[2, 7, 95, 99, 100, 101, 102, 103, 104, 105, 106, 107], []⟩
def ux : c9 := ⟨[1, 14, 108, 109, 110, 111, 112, 113, 114, 115, 116, 117, 118, 119, 120, 121, 122], []⟩
def uy : c9 := ⟨[10, 13, 127, 128, 129], []⟩
noncomputable def CC : Code := (.seq (.seq (.region 3 (oN f31 267) false) (.cond (.tmp 19) .skip (.exit 0))) (.seq (.block 1 (.seq (.region 5 (oN f31 1099) false) (.seq (.region 6 (oN f31 2635) false) (.cond (.tmp 37) (.region 7 (oN f31 5707) false) .skip)))) (.region 4 (oN f31 459) false)))
noncomputable def CD : Code := (.seq (.seq (.region 14 (oN f31 33471) false) (.cond (.tmp 69) .skip (.exit 2))) (.block 3 (.region 15 (oN f31 41663) false)))
noncomputable def f31c : Code := (.seq (.region 0 (oN f31 2) false) (.seq (.region 1 (oN f31 5) false) (.seq (.seq (.region 2 (oN f31 19) false) (.block 0 (.loop CC))) (.seq (.seq (.region 8 (oN f31 39) false) (.cond (.tmp 40) (.seq (.region 9 (oN f31 151) false) .ret) .skip)) (.seq (.region 10 (oN f31 47) false) (.seq (.region 11 (oN f31 95) false) (.seq (.seq (.region 12 (oN f31 319) false) (.cond (.tmp 53) (.seq (.region 13 (oN f31 1215) false) (.seq (.block 2 (.loop CD)) (.seq (.region 16 (oN f31 5823) false) (.seq (.region 17 (oN f31 11967) false) (.seq (.region 18 (oN f31 24255) false) (.cond (.tmp 91) (.seq (.region 19 (oN f31 81599) false) .ret) .skip)))))) .skip)) (.seq (.seq (.region 20 (oN f31 639) false) (.cond (.tmp 95) (.seq (.region 21 (oN f31 2431) true) .ret) .skip)) (.seq (.region 22 (oN f31 767) true) (.seq (.seq (.region 23 (oN f31 2559) false) (.cond (.tmp 123) (.seq (.region 24 (oN f31 9727) false) .ret) .skip)) (.seq (.region 25 (oN f31 3071) false) (.seq (.region 26 (oN f31 6143) true) .ret))))))))))))
def AL : List (Nat × c9) := [(0, ⟨[0, 5, 6], []⟩), (1, ⟨[], []⟩), (2, ⟨[], []⟩), (3, Cz), (4, ⟨[20, 21, 37], []⟩), (5, CA), (6, CB), (7, ⟨[37, 38], []⟩), (8, ⟨[8, 19, 39], []⟩), (9, ⟨[1, 2, 7, 40, 41], []⟩), (10, yE), (11, yF), (12, yG), (13, ⟨[53], []⟩), (14, yH), (15, ⟨[69, 70, 71], []⟩), (16, yI), (17, yJ), (18, yK), (19, ⟨[1, 2, 7, 10, 91, 92], []⟩), (20, uu), (21, uv), (22, uw), (23, ux), (24, ⟨[10, 12, 13, 123, 124], []⟩), (25, ⟨[12, 123, 125, 126], []⟩), (26, uy)]
def BE : c9 := ⟨[9, 10], []⟩
def BF : c9 := ⟨[1, 2, 11, 13, 14, 15, 16, 17, 18, 19], []⟩
def BG : c9 := ⟨[7, 8, 20, 21, 22, 23, 24], []⟩
noncomputable def f11c : Code := (.seq (.region 0 (oN f11 2) false) (.seq (.seq (.region 1 (oN f11 9) false) (.cond (.tmp 11) (.seq (.region 2 (oN f11 37) false) .ret) .skip)) (.seq (.region 3 (oN f11 11) false) (.seq (.seq (.region 4 (oN f11 39) false) (.cond (.tmp 25) (.seq (.region 5 (oN f11 151) false) .ret) .skip)) (.seq (.region 6 (oN f11 47) false) .ret)))))
def GG : List (Nat × c9) := [(0, ⟨[0, 5], []⟩), (1, BE), (2, ⟨[1, 2, 11, 12], []⟩), (3, BF), (4, BG), (5, ⟨[6, 25, 26], []⟩), (6, ⟨[6, 25, 27], []⟩)]
def CE : c9 := ⟨[7, 8, 9, 10], []⟩
def CF : c9 := ⟨[12, 13, 14], []⟩
def CG : c9 := ⟨[15, 18, 19, 20, 21, 22, 23, 24, 25, 26, 27], []⟩
def CH : c9 := ⟨[29, 30, 31, 32, 33, 34], []⟩
def yL : c9 := ⟨[35, 38, 39, 40, 41, 42, 43, 44, 45, 46, 47, 48, 49, 50, 51], []⟩
noncomputable def CI : Code := (.seq (.seq (.region 9 (oN f32 34379) false) (.cond (.tmp 35) .skip (.exit 2))) (.seq (.block 3 (.seq (.region 11 (oN f32 140875) true) (.cond (.tmp 52) (.seq (.region 12 (oN f32 599627) false) .ret) .skip))) (.region 10 (oN f32 58955) false)))
noncomputable def CJ : Code := (.seq (.seq (.region 4 (oN f32 267) false) (.cond (.tmp 15) .skip (.exit 0))) (.seq (.block 1 (.seq (.seq (.region 6 (oN f32 2123) true) (.cond (.tmp 28) (.seq (.region 7 (oN f32 9291) false) .ret) .skip)) (.seq (.region 8 (oN f32 2635) false) (.block 2 (.loop CI))))) (.region 5 (oN f32 459) false)))
noncomputable def f32c : Code := (.seq (.region 0 (oN f32 2) false) (.seq (.seq (.region 1 (oN f32 9) false) (.cond (.tmp 11) (.seq (.region 2 (oN f32 37) false) .ret) .skip)) (.seq (.seq (.region 3 (oN f32 19) false) (.block 0 (.loop CJ))) (.seq (.region 13 (oN f32 23) false) .ret))))
def AM : List (Nat × c9) := [(0, ⟨[4], []⟩), (1, CE), (2, ⟨[0, 1, 11], []⟩), (3, ⟨[11], []⟩), (4, CF), (5, ⟨[6, 16, 17, 35], []⟩), (6, CG), (7, ⟨[0, 1, 5, 28], []⟩), (8, ⟨[28], []⟩), (9, CH), (10, ⟨[36, 37, 52], []⟩), (11, yL), (12, ⟨[0, 1, 5, 6, 52], []⟩), (13, ⟨[0, 1, 5, 15], []⟩)]
def BM : c9 := ⟨[2, 3, 5, 6, 7, 8, 9, 10, 11, 12, 13, 14, 15, 16, 17, 18, 19, 20, 21, 22, 23], []⟩
noncomputable def f12c : Code := (.seq (.region 0 (oN f12 2) false) (.seq (.region 1 (oN f12 5) false) .ret))
def GQ : List (Nat × c9) := [(0, ⟨[0, 1, 4], []⟩), (1, BM)]
def sY : c9 := ⟨[10, 11, 12, 13], []⟩
def sZ : c9 := ⟨[0, 14], []⟩
def ta : c9 := ⟨[18, 19, 20, 21], []⟩
def tb : c9 := ⟨[7, 22, 23, 24, 25], []⟩
def tc : c9 := ⟨[8, 9, 26, 27, 28, 29], []⟩
noncomputable def td : Code := (.seq (.region 4 (oN f62 139) false) (.seq (.cond (.tmp 18) .skip (.exit 0)) (.seq (.block 1 (.seq (.region 5 (oN f62 2251) false) (.seq (.region 6 (oN f62 5323) false) (.seq (.region 7 (oN f62 11467) false) (.cond (.tmp 30) (.seq (.region 8 (oN f62 40139) false) .ret) .skip))))) (.region 9 (oN f62 971) false))))
noncomputable def AP : Code := (.seq (.region 0 (oN f62 2) false) (.seq (.seq (.region 1 (oN f62 9) false) (.cond (.tmp 14) (.seq (.region 2 (oN f62 37) false) .ret) .skip)) (.seq (.seq (.region 3 (oN f62 19) false) (.block 0 (.loop td))) (.seq (.region 10 (oN f62 23) false) .ret))))
def rR : List (Nat × c9) := [(0, ⟨[6], []⟩), (1, sY), (2, ⟨[0, 1, 2, 14], []⟩), (3, sZ), (4, ⟨[], []⟩), (5, ta), (6, tb), (7, tc), (8, ⟨[1, 2, 15, 16, 17, 30], []⟩), (9, ⟨[30, 31], []⟩), (10, ⟨[1, 2, 15, 16, 17, 18], []⟩)]
def Ei : c9 := ⟨[6, 7, 8, 9], []⟩
def Ej : c9 := ⟨[10, 11], []⟩
def Ek : c9 := ⟨[5, 16, 17, 18, 19, 20, 21, 22, 23], []⟩
noncomputable def El : Code := (.seq (.region 4 (oN f63 139) false) (.seq (.cond (.tmp 14) .skip (.exit 0)) (.seq (.block 1 (.seq (.region 5 (oN f63 2251) false) (.seq (.region 6 (oN f63 5323) true) (.cond (.tmp 24) (.seq (.region 7 (oN f63 19659) false) .ret) .skip)))) (.region 8 (oN f63 971) false))))
noncomputable def f63c : Code := (.seq (.region 0 (oN f63 2) false) (.seq (.seq (.region 1 (oN f63 9) false) (.cond (.tmp 10) (.seq (.region 2 (oN f63 37) false) .ret) .skip)) (.seq (.seq (.region 3 (oN f63 19) false) (.block 0 (.loop El))) (.seq (.region 9 (oN f63 23) false) .ret))))
def FM : List (Nat × c9) := [(0, ⟨[4], []⟩), (1, Ei), (2, ⟨[0, 1, 10], []⟩), (3, Ej), (4, ⟨[], []⟩), (5, ⟨[14, 15], []⟩), (6, Ek), (7, ⟨[0, 1, 12, 13, 24], []⟩), (8, ⟨[24, 25], []⟩), (9, ⟨[0, 1, 12, 13, 14], []⟩)]
def CK : c9 := ⟨[0, 1, 5, 6, 7], []⟩
noncomputable def f33c : Code := (.seq (.region 0 (oN f33 2) false) (.seq (.region 1 (oN f33 5) false) .ret))
def GZ : List (Nat × c9) := [(0, ⟨[4], []⟩), (1, CK)]
def BO : c9 := ⟨[2, 3, 5, 6, 7, 8, 9, 10, 11, 12, 13, 14, 15, 16, 17, 18, 19, 20, 21, 22, 23], []⟩
noncomputable def f13c : Code := (.seq (.region 0 (oN f13 2) false) (.seq (.region 1 (oN f13 5) false) .ret))
def GU : List (Nat × c9) := [(0, ⟨[0, 1, 4], []⟩), (1, BO)]
def Ha : c9 := ⟨[19, 20, 21, 22, 23, 24, 25, 26, 27, 28, 29], []⟩
def Hb : c9 := ⟨[2, 3, 4, 30, 31], []⟩
def Hc : c9 := ⟨[30, 32, 33, 34, 35, 36, 37], []⟩
def Hd : c9 := ⟨[38, 39, 40, 41, 42, 43], []⟩
def He : c9 := ⟨[44, 45, 46, 47, 48, 49], []⟩
def Hf : c9 := ⟨[50, 51, 52, 53, 54, 55], []⟩
def Hg : c9 := ⟨[9, 10, 13, 14, 56, 57, 58, 59, 60, 61, 62, 63, 64, 65, 66, 67, 68, 69, 70, 71, 72, 73], []⟩
def CQ : c9 := ⟨[7, 76, 77, 78, 79, 80, 81, 82], []⟩
def CR : c9 := ⟨[4, 15, 16, 83, 84, 85, 86, 87, 88, 89], []⟩
def yN : c9 := ⟨[3, 11, 92, 93, 94, 95, 96, 97, 98], []⟩
def yO : c9 := ⟨[2, 17, 18, 99, 100, 101, 102, 103, 104], []⟩
def sX : c9 := ⟨[2, 3, 11, 92, 105, 106], []⟩
noncomputable def f3c : Code := (.seq (.region 0 (oN f3 2) false) (.seq (.seq (.region 1 (oN f3 9) false) (.cond (.tmp 30) (.seq (.region 2 (oN f3 37) false) .ret) .skip)) (.seq (.region 3 (oN f3 11) false) (.seq (.region 4 (oN f3 23) false) (.seq (.region 5 (oN f3 47) false) (.seq (.region 6 (oN f3 95) false) (.seq (.seq (.region 7 (oN f3 319) false) (.cond (.tmp 74) (.seq (.region 8 (oN f3 1215) false) .ret) .skip)) (.seq (.seq (.region 9 (oN f3 639) false) (.cond (.tmp 76) (.seq (.region 10 (oN f3 2431) false) (.seq (.region 11 (oN f3 5503) false) (.cond (.tmp 90) (.seq (.region 12 (oN f3 19839) false) .ret) .skip))) .skip)) (.seq (.seq (.region 13 (oN f3 1279) false) (.cond (.tmp 92) (.seq (.region 14 (oN f3 4863) false) (.seq (.region 15 (oN f3 11007) false) (.cond (.tmp 105) (.seq (.region 16 (oN f3 39679) false) .ret) .skip))) .skip)) (.seq (.region 17 (oN f3 1535) false) .ret))))))))))
def f3n : List (Nat × c9) := [(0, ⟨[0, 1, 6], []⟩), (1, Ha), (2, Hb), (3, Hc), (4, Hd), (5, He), (6, Hf), (7, Hg), (8, ⟨[2, 3, 4, 7, 8, 11, 12, 74], []⟩), (9, ⟨[8, 74, 75], []⟩), (10, CQ), (11, CR), (12, ⟨[2, 3, 11, 12, 90], []⟩), (13, ⟨[4, 7, 12, 76, 90, 91], []⟩), (14, yN), (15, yO), (16, ⟨[105], []⟩), (17, sX)]
def ANNS : List (Nat × tT) := [(3, ⟨f3n, [], []⟩), (5, ⟨f5n, [], []⟩), (6, ⟨f6n, [], []⟩), (7, ⟨f7n, [], []⟩), (8, ⟨f8n, [], []⟩), (9, ⟨f9n, [], []⟩), (10, ⟨Gy, [], []⟩), (11, ⟨GG, [], []⟩), (12, ⟨GQ, [], []⟩), (13, ⟨GU, [], []⟩), (20, ⟨AH, [], []⟩), (21, ⟨GV, [], []⟩), (22, ⟨GW, [], []⟩), (24, ⟨AJ, [], []⟩), (25, ⟨AK, [], []⟩), (26, ⟨Fz, [], []⟩), (27, ⟨GX, [], []⟩), (28, ⟨GY, [], []⟩), (29, ⟨FA, [], []⟩), (30, ⟨wg, [], []⟩), (31, ⟨AL, [], []⟩), (32, ⟨AM, [], []⟩), (33, ⟨GZ, [], []⟩), (36, ⟨FB, [], []⟩), (43, ⟨Hh, [], []⟩), (44, ⟨Hi, [], []⟩), (46, ⟨FC, [], []⟩), (47, ⟨FD, [], []⟩), (48, ⟨Hj, [], []⟩), (49, ⟨yS, [], []⟩), (50, ⟨FE, [], []⟩), (51, ⟨FF, [], []⟩), (52, ⟨FG, [], []⟩), (54, ⟨Hk, [], []⟩), (55, ⟨FH, [], []⟩), (56, ⟨FI, [], []⟩), (57, ⟨AN, [], []⟩), (58, ⟨FJ, [], []⟩), (59, ⟨FK, [], []⟩), (60, ⟨AO, [], []⟩), (61, ⟨FL, [], []⟩), (62, ⟨rR, [], []⟩), (63, ⟨FM, [], []⟩), (65, ⟨Hs, [], []⟩), (71, ⟨Hx, [], []⟩), (72, ⟨Hy, [], []⟩), (73, ⟨Hz, [], []⟩), (74, ⟨HA, [], []⟩), (75, ⟨HB, [], []⟩), (76, ⟨FN, [], []⟩), (77, ⟨HC, [], []⟩), (78, ⟨AQ, [], []⟩), (79, ⟨HD, [], []⟩), (80, ⟨HH, [], []⟩), (81, ⟨HI, [], []⟩), (82, ⟨HJ, [], []⟩), (83, ⟨FO, [], []⟩), (84, ⟨HK, [], []⟩), (85, ⟨HL, [], []⟩), (90, ⟨HP, [], []⟩), (91, ⟨HQ, [], []⟩), (92, ⟨FS, [], []⟩), (93, ⟨HR, [], []⟩), (94, ⟨FT, [], []⟩), (95, ⟨AR, [], []⟩), (97, ⟨FU, [], []⟩), (98, ⟨HS, [], []⟩), (99, ⟨HT, [], []⟩), (102, ⟨Bp, [], []⟩), (103, ⟨xd, [], []⟩), (104, ⟨Bq, [], []⟩), (105, ⟨Br, [], []⟩), (106, ⟨Bs, [], []⟩), (107, ⟨Bt, [], []⟩), (108, ⟨Bu, [], []⟩), (109, ⟨Bv, [], []⟩), (110, ⟨Bz, [], []⟩), (111, ⟨BA, [], []⟩), (112, ⟨BB, [], []⟩), (113, ⟨xA, [], []⟩), (114, ⟨xE, [], []⟩), (118, ⟨BC, [], []⟩), (119, ⟨BD, [], []⟩), (120, ⟨BH, [], []⟩), (121, ⟨BI, [], []⟩), (122, ⟨xO, [], []⟩), (123, ⟨BJ, [], []⟩), (124, ⟨xU, [], []⟩), (125, ⟨xY, [], []⟩), (126, ⟨yd, [], []⟩), (127, ⟨BK, [], []⟩), (128, ⟨BL, [], []⟩), (132, ⟨yi, [], []⟩), (133, ⟨ym, [], []⟩), (134, ⟨BN, [], []⟩)]
def b9 : FuncId → tT := fun f => (d9 f ANNS).getD {}
def ext : vU := fun f args => bif Nat.beq f 35 then some (mB args) else bif Nat.beq f 135 then some (cl args) else bif Nat.beq f 23 then some (mC args) else bif Nat.beq f 45 then some (eB args) else bif Nat.beq f 53 then some (oU args) else none
noncomputable abbrev EV (k : Nat) : S0 := evF prog b9 ext k
noncomputable abbrev RE (k : Nat) (a : c9) (o : Array Oper) (d : Bool) (s : St) : Option St := R9 prog (EV k) a o d s
abbrev I (n : Int) : V := .int .i64 n
abbrev l7 (l : List b8) : V := .sl 0 8 (List.map j0 l)
abbrev k0 (l : List i4) : V := .sl 0 3 (List.map l6 l)
abbrev s8 (l : List j1) : V := .sl 0 4 (List.map s5 l)
abbrev u5 (l : List b7) : V := .sl 0 3 (List.map j4 l)
abbrev a7 (l : List a6) : V := .sl 0 3 (List.map d4 l)
abbrev sI (l : List Int) : V := .sl 0 1 (List.map I l)
def I9 : Bool → V × List V := fun r => ((Bo r), [])
theorem lp (k : Nat) (a0 : a8) (x17 : Int)  (K0 : Int → Option Bool) (Kst : X × St → Option (V × List V)) (hK0 : ∀ (y0 : Int), Kst (X.exit 2, ⟨[(1, (Pt 1)), (3, (I x17)), (4, (I y0)), (55, (Bo false))], [(1, vS 4 (b6 a0))], 95⟩) = (K0 y0).map I9) (hret : ∀ s, Kst (X.ret, s) = F3 prog 95 [(b6 a0)] [] [.tmp 2] (X.ret, s)) :
  ∀ (m : Nat) (x26 : Int), (D1 (u0 prog (EV k) f5n k Hp) m ⟨[(1, (Pt 1)), (3, (I x17)), (4, (I x26))], [(1, vS 4 (b6 a0))], 95⟩).bind Kst = (M3 a0 x17 K0 m x26).map I9 := by
 intro m
 induction m with
 | zero => intros; rfl
 | succ m ih =>
  intro x26
  unfold M3
  refine et l9 <| et b5 <| kga Ho rfl (fun (o28 : Bool) => [(55, (Bo o28))]) (rd 4 [(47, (I x26)), (48, (V.ptr 1 0 2)), (49, (l7 a0.fTypes)), (50, (I x17))] rfl rfl <| rp rfl (i2 (e := j0) rfl rfl rfl underlying22 rfl (by decide)) fun v27 => bd 7 [(51, (Pr (j0 v27))), (52, (Pr (k0 v27.fFields))), (53, (k0 v27.fFields))] rfl rfl <| rl rfl (n7 (e := l6) rfl rfl rfl rfl rfl rfl underlying46) <| b4 rfl) fun o28 => kc rfl rfl (fun hc => ?_) fun hc => ?_
  ·rw [hc]
   refine et d6 <| et (i8 rfl) <| kg DU rfl (fun (o31 : Bool) => ⟨[(1, (Pt 1)), (3, (I x17)), (4, (I x26)), (69, (Bo o31))], [(1, vS 4 (b6 a0))], 95⟩) (rd 3 [(58, (V.ptr 1 0 2)), (59, (l7 a0.fTypes)), (60, (I x17))] rfl rfl <| rp rfl (i2 (e := j0) rfl rfl rfl underlying22 rfl (by decide)) fun v29 => bd 7 [(61, (Pr (j0 v29))), (62, (Pr (k0 v29.fFields))), (63, (k0 v29.fFields)), (64, (I x26))] rfl rfl <| rp rfl (i2 (e := l6) rfl rfl rfl underlying46 rfl (by decide)) fun v30 => b4 rfl) fun o31 => kcl rfl rfl (fun hc => ?_) fun hc => ?_
   ·rw [hc]
    refine kr ⟨[(2, (Bo true))], [], 95⟩ rfl <| et i1 <| et l5 <| et l8 <| et (hret _) ?_
    rfl
   ·rw [hc]
    exact et m9 <| et i6 <| kl ⟨[(1, (Pt 1)), (3, (I x17)), (4, (I (Go.IntKind.wrap .i64 (x26 + 1))))], [(1, vS 4 (b6 a0))], 95⟩ rfl <| et i3 <| ih (Go.IntKind.wrap .i64 (x26 + 1))
  ·rw [hc]
   exact et p7 <| et j3 <| hK0 x26
theorem ln (k : Nat) (a0 : a8)  (K0 : Int → Option Bool) (Kst : X × St → Option (V × List V)) (hK0 : ∀ (y0 : Int), Kst (X.exit 0, ⟨[(1, (Pt 1)), (3, (I y0)), (26, (Bo false))], [(1, vS 4 (b6 a0))], 95⟩) = (K0 y0).map I9) (hret : ∀ s, Kst (X.ret, s) = F3 prog 95 [(b6 a0)] [] [.tmp 2] (X.ret, s)) :
  ∀ (m : Nat) (x17 : Int), (D1 (u0 prog (EV k) f5n k Hq) m ⟨[(1, (Pt 1)), (3, (I x17))], [(1, vS 4 (b6 a0))], 95⟩).bind Kst = (M2 k a0 K0 m x17).map I9 := by
 intro m
 induction m with
 | zero => intros; rfl
 | succ m ih =>
  intro x17
  unfold M2
  refine et l9 <| et b5 <| krp Hm rfl ⟨[(1, (Pt 1)), (3, (I x17)), (26, (Bo (decide (x17 < (a0.fTypes.length : Int)))))], [(1, vS 4 (b6 a0))], 95⟩ ?_ ?_
  ·exact rd 3 [(22, (I x17)), (23, (V.ptr 1 0 2)), (24, (l7 a0.fTypes))] rfl rfl <| rl rfl (n7 (e := j0) rfl rfl rfl rfl rfl rfl underlying22) <| b4 rfl
  refine kc rfl rfl (fun hc => ?_) fun hc => ?_
  ·rw [hc]
   refine et d6 <| et (i8 rfl) <| et b5 <| kg Hn rfl (fun (o20 : Bool) => ⟨[(1, (Pt 1)), (3, (I x17)), (46, (Bo o20))], [(1, vS 4 (b6 a0))], 95⟩) ?_ fun o20 => ?_
   ·refine rd 3 [(29, (V.ptr 1 0 2)), (30, (l7 a0.fTypes)), (31, (I x17))] rfl rfl <| rp rfl (i2 (e := j0) rfl rfl rfl underlying22 rfl (by decide)) fun v18 => bd 6 [(32, (Pr (j0 v18))), (33, (Pr (k0 v18.fFields))), (34, (k0 v18.fFields))] rfl rfl <| rl rfl (n7 (e := l6) rfl rfl rfl rfl rfl rfl underlying46) <| bd 9 [(35, (I (v18.fFields.length : Int))), (36, (Bo (decide ((v18.fFields.length : Int) > 20)))), (37, (Bo (decide ((v18.fFields.length : Int) > 20))))] rfl rfl <| n5 (fun hc => ?_) fun hc => ?_
    ·rw [hc]
     exact d5 rfl
    ·rw [hc]
     exact rd 12 [(38, (V.ptr 1 0 2)), (39, (l7 a0.fTypes)), (40, (I x17))] rfl rfl <| rp rfl (i2 (e := j0) rfl rfl rfl underlying22 rfl (by decide)) fun v19 => b4 rfl
   refine kc rfl rfl (fun hc => ?_) fun hc => ?_
   ·rw [hc]
    refine et b5 <| kr ⟨[(2, (Bo true))], [], 95⟩ rfl <| et n6 <| et l5 <| et l8 <| et (hret _) ?_
    rfl
   ·rw [hc]
    refine et d6 <| kr ⟨[(1, (Pt 1)), (3, (I x17)), (4, (I 0))], [(1, vS 4 (b6 a0))], 95⟩ rfl <| et (G7 rfl) <| et p8 ?_
    refine lp k a0 x17 _ _ ?h_law12_Large_L2_0 ?hr_law12_Large_L2 k 0
    ·intro y32
     exact et j6 <| et m9 <| et i6 <| kl ⟨[(1, (Pt 1)), (3, (I (Go.IntKind.wrap .i64 (x17 + 1))))], [(1, vS 4 (b6 a0))], 95⟩ rfl <| et i3 <| ih (Go.IntKind.wrap .i64 (x17 + 1))
    ·intro s; exact hret s
  ·rw [hc]
   exact et p7 <| et j3 <| hK0 x17
theorem lq (k : Nat) (a0 : a8)  (K0 : Int → Option Bool) (Kst : X × St → Option (V × List V)) (hK0 : ∀ (y0 : Int), Kst (X.exit 4, ⟨[(1, (Pt 1)), (5, (I y0)), (74, (Bo false))], [(1, vS 4 (b6 a0))], 95⟩) = (K0 y0).map I9) (hret : ∀ s, Kst (X.ret, s) = F3 prog 95 [(b6 a0)] [] [.tmp 2] (X.ret, s)) :
  ∀ (m : Nat) (x37 : Int), (D1 (u0 prog (EV k) f5n k Hr) m ⟨[(1, (Pt 1)), (5, (I x37))], [(1, vS 4 (b6 a0))], 95⟩).bind Kst = (M4 a0 K0 m x37).map I9 := by
 intro m
 induction m with
 | zero => intros; rfl
 | succ m ih =>
  intro x37
  unfold M4
  refine et l9 <| et b5 <| krp DV rfl ⟨[(1, (Pt 1)), (5, (I x37)), (74, (Bo (decide (x37 < (a0.fIndexes.length : Int)))))], [(1, vS 4 (b6 a0))], 95⟩ ?_ ?_
  ·exact rd 3 [(70, (I x37)), (71, (V.ptr 1 0 3)), (72, (s8 a0.fIndexes))] rfl rfl <| rl rfl (n7 (e := s5) rfl rfl rfl rfl rfl rfl underlying23) <| b4 rfl
  refine kc rfl rfl (fun hc => ?_) fun hc => ?_
  ·rw [hc]
   refine et d6 <| et (i8 rfl) <| kg DW rfl (fun (o40 : Bool) => ⟨[(1, (Pt 1)), (5, (I x37)), (94, (Bo o40))], [(1, vS 4 (b6 a0))], 95⟩) ?_ fun o40 => ?_
   ·refine rd 3 [(77, (V.ptr 1 0 3)), (78, (s8 a0.fIndexes)), (79, (I x37))] rfl rfl <| rp rfl (i2 (e := s5) rfl rfl rfl underlying23 rfl (by decide)) fun v38 => bd 9 [(80, (Pr (s5 v38))), (81, (Pr (Sr v38.fName))), (82, (Sr v38.fName)), (83, (I (v38.fName.length : Int))), (84, (Bo (decide ((v38.fName.length : Int) > 40)))), (85, (Bo (decide ((v38.fName.length : Int) > 40))))] rfl rfl <| n5 (fun hc => ?_) fun hc => ?_
    ·rw [hc]
     exact d5 rfl
    ·rw [hc]
     exact rd 12 [(86, (V.ptr 1 0 3)), (87, (s8 a0.fIndexes)), (88, (I x37))] rfl rfl <| rp rfl (i2 (e := s5) rfl rfl rfl underlying23 rfl (by decide)) fun v39 => b4 rfl
   refine kcl rfl rfl (fun hc => ?_) fun hc => ?_
   ·rw [hc]
    refine kr ⟨[(2, (Bo true))], [], 95⟩ rfl <| et i1 <| et l5 <| et l8 <| et (hret _) ?_
    rfl
   ·rw [hc]
    exact et m9 <| et i6 <| kl ⟨[(1, (Pt 1)), (5, (I (Go.IntKind.wrap .i64 (x37 + 1))))], [(1, vS 4 (b6 a0))], 95⟩ rfl <| et i3 <| ih (Go.IntKind.wrap .i64 (x37 + 1))
  ·rw [hc]
   exact et p7 <| et j3 <| hK0 x37
theorem pm (k : Nat) (a0 : a8) : EV k 5 [(b6 a0)] = (cG k a0).map I9 := by
 cases k with
 | zero => rfl
 | succ k =>
  unfold cG
  refine et (i5 (c := f5c) (N := 95) (regs := f5n) rfl func5 rfl (by decide) rfl rfl rfl) <| kr ⟨[(1, (Pt 1))], [(1, vS 4 (b6 a0))], 95⟩ rfl <| et b5 <| kga Hl rfl (fun (o1 : Bool) => [(21, (Bo o1))]) ?_ fun o1 => ?_
  ·refine rd 2 [(6, (V.ptr 1 0 2)), (7, (l7 a0.fTypes))] rfl rfl <| rl rfl (n7 (e := j0) rfl rfl rfl rfl rfl rfl underlying22) <| bd 5 [(8, (I (a0.fTypes.length : Int))), (9, (Bo (decide ((a0.fTypes.length : Int) > 20)))), (10, (Bo (decide ((a0.fTypes.length : Int) > 20))))] rfl rfl <| n5 (fun hc => ?_) fun hc => ?_
   ·rw [hc]
    exact d5 rfl
   ·rw [hc]
    refine rd 7 [(11, (V.ptr 1 0 3)), (12, (s8 a0.fIndexes))] rfl rfl <| rl rfl (n7 (e := s5) rfl rfl rfl rfl rfl rfl underlying23) <| bd 11 [(13, (I (a0.fIndexes.length : Int))), (14, (Bo (decide ((a0.fIndexes.length : Int) > 20)))), (15, (Bo (decide ((a0.fIndexes.length : Int) > 20)))), (16, (Bo (decide ((a0.fIndexes.length : Int) > 20))))] rfl rfl <| n5 (fun hc => ?_) fun hc => ?_
    ·rw [hc]
     exact d5 rfl
    ·rw [hc]
     exact d5 rfl
  refine kc rfl rfl (fun hc => ?_) fun hc => ?_
  ·rw [hc]
   refine et b5 <| kr ⟨[(2, (Bo true))], [], 95⟩ rfl <| et n6 ?_
   rfl
  ·rw [hc]
   refine et d6 <| et b5 <| kr ⟨[(1, (Pt 1)), (3, (I 0))], [(1, vS 4 (b6 a0))], 95⟩ rfl <| et (i8 rfl) <| et p8 ?_
   refine ln k a0 _ _ ?h_law12_Large_L1_0 ?hr_law12_Large_L1 k 0
   ·intro y33
    refine et j6 <| et b5 <| kr ⟨[(1, (Pt 1)), (5, (I 0))], [(1, vS 4 (b6 a0))], 95⟩ rfl <| et (i8 rfl) <| et p8 ?_
    refine lq k a0 _ _ ?h_law12_Large_L3_0 ?hr_law12_Large_L3 k 0
    ·intro y41
     refine et j6 <| kr ⟨[(2, (Bo false))], [], 95⟩ rfl <| et i1 ?_
     rfl
    ·intro s; exact rfl
   ·intro s; exact rfl
def X4 : Bool → V × List V := fun r => ((Bo r), [])
theorem mO (k : Nat) (a0 : (List (List a6))) (x19 : Int)  (K0 : Int → Option Bool) (Kst : X × St → Option (V × List V)) (hK0 : ∀ (y0 : Int), Kst (X.exit 2, ⟨[(0, (V.sl 0 1 (List.map a7 a0))), (3, (I x19)), (4, (I y0)), (23, (Bo false))], [], 51⟩) = (K0 y0).map X4) (hret : ∀ s, Kst (X.ret, s) = F3 prog 51 [(V.sl 0 1 (List.map a7 a0))] [] [.tmp 2] (X.ret, s)) :
  ∀ (m : Nat) (x29 : Int), (D1 (u0 prog (EV k) AH k BT) m ⟨[(0, (V.sl 0 1 (List.map a7 a0))), (3, (I x19)), (4, (I x29))], [], 51⟩).bind Kst = (Q7 a0 x19 K0 m x29).map X4 := by
 intro m
 induction m with
 | zero => intros; rfl
 | succ m ih =>
  intro x29
  unfold Q7
  refine et l9 <| et b5 <| kga BR rfl (fun (o31 : Bool) => [(23, (Bo o31))]) (rd 3 [(17, (I x29)), (18, (V.sl 0 1 (List.map a7 a0))), (19, (I x19))] rfl rfl <| rp rfl (i2 (e := a7) rfl rfl rfl underlying26 rfl (by decide)) fun v30 => bd 5 [(20, (Pr (a7 v30))), (21, (a7 v30))] rfl rfl <| rl rfl (n7 (e := d4) rfl rfl rfl rfl rfl rfl underlying56) <| b4 rfl) fun o31 => kc rfl rfl (fun hc => ?_) fun hc => ?_
  ·rw [hc]
   refine et d6 <| et (i8 rfl) <| kg BS rfl (fun (o36 : Bool) => ⟨[(0, (V.sl 0 1 (List.map a7 a0))), (3, (I x19)), (4, (I x29)), (47, (Bo o36))], [], 51⟩) ?_ fun o36 => ?_
   ·refine rd 2 [(26, (V.sl 0 1 (List.map a7 a0))), (27, (I x19))] rfl rfl <| rp rfl (i2 (e := a7) rfl rfl rfl underlying26 rfl (by decide)) fun v32 => bd 5 [(28, (Pr (a7 v32))), (29, (a7 v32)), (30, (I x29))] rfl rfl <| rp rfl (i2 (e := d4) rfl rfl rfl underlying56 rfl (by decide)) fun v33 => bd 11 [(31, (Pr (d4 v33))), (32, (Pr (Sr v33.fField))), (33, (Sr v33.fField)), (34, (I (v33.fField.length : Int))), (35, (Bo (decide ((v33.fField.length : Int) > 100)))), (36, (Bo (decide ((v33.fField.length : Int) > 100))))] rfl rfl <| n5 (fun hc => ?_) fun hc => ?_
    ·rw [hc]
     exact d5 rfl
    ·rw [hc]
     exact rd 13 [(37, (V.sl 0 1 (List.map a7 a0))), (38, (I x19))] rfl rfl <| rp rfl (i2 (e := a7) rfl rfl rfl underlying26 rfl (by decide)) fun v34 => bd 16 [(39, (Pr (a7 v34))), (40, (a7 v34)), (41, (I x29))] rfl rfl <| rp rfl (i2 (e := d4) rfl rfl rfl underlying56 rfl (by decide)) fun v35 => b4 rfl
   refine kcl rfl rfl (fun hc => ?_) fun hc => ?_
   ·rw [hc]
    refine kr ⟨[(2, (Bo true))], [], 51⟩ rfl <| et i1 <| et l5 <| et l8 <| et (hret _) ?_
    rfl
   ·rw [hc]
    exact et m9 <| et i6 <| kl ⟨[(0, (V.sl 0 1 (List.map a7 a0))), (3, (I x19)), (4, (I (Go.IntKind.wrap .i64 (x29 + 1))))], [], 51⟩ rfl <| et i3 <| ih (Go.IntKind.wrap .i64 (x29 + 1))
  ·rw [hc]
   exact et p7 <| et j3 <| hK0 x29
theorem mN (k : Nat) (a0 : (List (List a6)))  (K0 : Int → Option Bool) (Kst : X × St → Option (V × List V)) (hK0 : ∀ (y0 : Int), Kst (X.exit 0, ⟨[(0, (V.sl 0 1 (List.map a7 a0))), (3, (I y0)), (8, (Bo false))], [], 51⟩) = (K0 y0).map X4) (hret : ∀ s, Kst (X.ret, s) = F3 prog 51 [(V.sl 0 1 (List.map a7 a0))] [] [.tmp 2] (X.ret, s)) :
  ∀ (m : Nat) (x19 : Int), (D1 (u0 prog (EV k) AH k BU) m ⟨[(0, (V.sl 0 1 (List.map a7 a0))), (3, (I x19))], [], 51⟩).bind Kst = (Q6 k a0 K0 m x19).map X4 := by
 intro m
 induction m with
 | zero => intros; rfl
 | succ m ih =>
  intro x19
  unfold Q6
  refine et l9 <| et b5 <| krp BP rfl ⟨[(0, (V.sl 0 1 (List.map a7 a0))), (3, (I x19)), (8, (Bo (decide (x19 < (a0.length : Int)))))], [], 51⟩ ?_ ?_
  ·exact rd 2 [(5, (I x19)), (6, (V.sl 0 1 (List.map a7 a0)))] rfl rfl <| rl rfl (n7 (e := a7) rfl rfl rfl rfl rfl rfl underlying26) <| b4 rfl
  refine kc rfl rfl (fun hc => ?_) fun hc => ?_
  ·rw [hc]
   refine et d6 <| et (i8 rfl) <| et b5 <| kg BQ rfl (fun (o21 : Bool) => ⟨[(0, (V.sl 0 1 (List.map a7 a0))), (3, (I x19)), (16, (Bo o21))], [], 51⟩) (rd 2 [(11, (V.sl 0 1 (List.map a7 a0))), (12, (I x19))] rfl rfl <| rp rfl (i2 (e := a7) rfl rfl rfl underlying26 rfl (by decide)) fun v20 => bd 4 [(13, (Pr (a7 v20))), (14, (a7 v20))] rfl rfl <| rl rfl (n7 (e := d4) rfl rfl rfl rfl rfl rfl underlying56) <| b4 rfl) fun o21 => kc rfl rfl (fun hc => ?_) fun hc => ?_
   ·rw [hc]
    refine et b5 <| kr ⟨[(2, (Bo true))], [], 51⟩ rfl <| et n6 <| et l5 <| et l8 <| et (hret _) ?_
    rfl
   ·rw [hc]
    refine et d6 <| kr ⟨[(0, (V.sl 0 1 (List.map a7 a0))), (3, (I x19)), (4, (I 0))], [], 51⟩ rfl <| et (G7 rfl) <| et p8 ?_
    refine mO k a0 x19 _ _ ?h_law12_Long_L2_0 ?hr_law12_Long_L2 k 0
    ·intro y37
     exact et j6 <| et m9 <| et i6 <| kl ⟨[(0, (V.sl 0 1 (List.map a7 a0))), (3, (I (Go.IntKind.wrap .i64 (x19 + 1))))], [], 51⟩ rfl <| et i3 <| ih (Go.IntKind.wrap .i64 (x19 + 1))
    ·intro s; exact hret s
  ·rw [hc]
   exact et p7 <| et j3 <| hK0 x19
theorem ql (k : Nat) (a0 : (List (List a6))) : EV k 20 [(V.sl 0 1 (List.map a7 a0))] = (eF k a0).map X4 := by
 cases k with
 | zero => rfl
 | succ k =>
  unfold eF
  refine et (i5 (c := f20c) (N := 51) (regs := AH) rfl func20 rfl (by decide) rfl rfl rfl) <| kra [] rfl <| et b5 <| kra [(3, (I 0))] rfl <| et (i8 rfl) <| et p8 ?_
  refine mN k a0 _ _ ?h_law12_Long_L1_0 ?hr_law12_Long_L1 k 0
  ·intro y38
   refine et j6 <| krp yn rfl ⟨[(2, (Bo (decide ((a0.length : Int) > 20))))], [], 51⟩ ?_ ?_
   ·exact rd 1 [(48, (V.sl 0 1 (List.map a7 a0)))] rfl rfl <| rl rfl (n7 (e := a7) rfl rfl rfl rfl rfl rfl underlying26) <| b4 rfl
   refine et i1 ?_
   rfl
  ·intro s; exact rfl
def eH : Bool → V × List V := fun r => ((Bo r), [])
theorem mP (k : Nat) (a0 : (List b7))  (K0 : Int → Option Bool) (Kst : X × St → Option (V × List V)) (hK0 : ∀ (y0 : Int), Kst (X.exit 0, ⟨[(0, (u5 a0)), (3, (I y0)), (7, (Bo false))], [], 37⟩) = (K0 y0).map eH) (hret : ∀ s, Kst (X.ret, s) = F3 prog 37 [(u5 a0)] [] [.tmp 2] (X.ret, s)) :
  ∀ (m : Nat) (x6 : Int), (D1 (u0 prog (EV k) f6n k Hw) m ⟨[(0, (u5 a0)), (3, (I x6))], [], 37⟩).bind Kst = (Q8 k a0 K0 m x6).map eH := by
 intro m
 induction m with
 | zero => intros; rfl
 | succ m ih =>
  intro x6
  unfold Q8
  refine et l9 <| et b5 <| krp Ht rfl ⟨[(0, (u5 a0)), (3, (I x6)), (7, (Bo (decide (x6 < (a0.length : Int)))))], [], 37⟩ ?_ ?_
  ·exact rd 2 [(4, (I x6)), (5, (u5 a0))] rfl rfl <| rl rfl (n7 (e := j4) rfl rfl rfl rfl rfl rfl underlying31) <| b4 rfl
  refine kc rfl rfl (fun hc => ?_) fun hc => ?_
  ·rw [hc]
   refine et d6 <| et (i8 rfl) <| kg Hu rfl (fun (o11 : Bool) => ⟨[(0, (u5 a0)), (3, (I x6)), (33, (Bo o11))], [], 37⟩) ?_ fun o11 => ?_
   ·refine rd 2 [(10, (u5 a0)), (11, (I x6))] rfl rfl <| rp rfl (i2 (e := j4) rfl rfl rfl underlying31 rfl (by decide)) fun v7 => bd 8 [(12, (Pr (j4 v7))), (13, (Pr (Sr v7.fSegment))), (14, (Sr v7.fSegment)), (15, (I (v7.fSegment.length : Int))), (16, (Bo (decide ((v7.fSegment.length : Int) > 100)))), (17, (Bo (decide ((v7.fSegment.length : Int) > 100))))] rfl rfl <| n5 (fun hc => ?_) fun hc => ?_
    ·rw [hc]
     exact d5 rfl
    ·rw [hc]
     refine rd 10 [(18, (u5 a0)), (19, (I x6))] rfl rfl <| rp rfl (i2 (e := j4) rfl rfl rfl underlying31 rfl (by decide)) fun v8 => bd 17 [(20, (Pr (j4 v8))), (21, (Pr (Sr v8.fCodes))), (22, (Sr v8.fCodes)), (23, (I (v8.fCodes.length : Int))), (24, (Bo (decide ((v8.fCodes.length : Int) > 100)))), (25, (Bo (decide ((v8.fCodes.length : Int) > 100)))), (26, (Bo (decide ((v8.fCodes.length : Int) > 100))))] rfl rfl <| n5 (fun hc => ?_) fun hc => ?_
     ·rw [hc]
      exact d5 rfl
     ·rw [hc]
      exact rd 19 [(27, (u5 a0)), (28, (I x6))] rfl rfl <| rp rfl (i2 (e := j4) rfl rfl rfl underlying31 rfl (by decide)) fun v9 => bd 22 [(29, (Pr (j4 v9))), (30, (Pr (V.sl 0 1 (List.map a7 v9.fWhen)))), (31, (V.sl 0 1 (List.map a7 v9.fWhen)))] rfl rfl <| rs rfl (d7 rfl rfl rfl rfl rfl (ql k v9.fWhen) (.inl rfl)) fun v10 => b4 rfl
   refine kcl rfl rfl (fun hc => ?_) fun hc => ?_
   ·rw [hc]
    refine kr ⟨[(2, (Bo true))], [], 37⟩ rfl <| et i1 <| et l5 <| et l8 <| et (hret _) ?_
    rfl
   ·rw [hc]
    exact et m9 <| et i6 <| kl ⟨[(0, (u5 a0)), (3, (I (Go.IntKind.wrap .i64 (x6 + 1))))], [], 37⟩ rfl <| et i3 <| ih (Go.IntKind.wrap .i64 (x6 + 1))
  ·rw [hc]
   exact et p7 <| et j3 <| hK0 x6
theorem qm (k : Nat) (a0 : (List b7)) : EV k 6 [(u5 a0)] = (eG k a0).map eH := by
 cases k with
 | zero => rfl
 | succ k =>
  unfold eG
  refine et (i5 (c := f6c) (N := 37) (regs := f6n) rfl func6 rfl (by decide) rfl rfl rfl) <| kra [] rfl <| et b5 <| kra [(3, (I 0))] rfl <| et (i8 rfl) <| et p8 ?_
  refine mP k a0 _ _ ?h_law14_Long_L1_0 ?hr_law14_Long_L1 k 0
  ·intro y12
   refine et j6 <| krp Hv rfl ⟨[(2, (Bo (decide ((a0.length : Int) > 20))))], [], 37⟩ ?_ ?_
   ·exact rd 1 [(34, (u5 a0))] rfl rfl <| rl rfl (n7 (e := j4) rfl rfl rfl rfl rfl rfl underlying31) <| b4 rfl
   refine et i1 ?_
   rfl
  ·intro s; exact rfl
def pn : a8 → V × List V := fun r => ((b6 r), [])
theorem jP (k : Nat)  : EV k 21 [] = (bP k).map pn := by
 cases k with
 | zero => rfl
 | succ k =>
  unfold bP
  refine et (i5 (c := f21c) (N := 9) (regs := GV) rfl func21 rfl (by decide) rfl rfl rfl) <| kr ⟨[(0, (Pt 0))], [(0, ⟨false, 4, [(V.agg [(Sr []), (I 0), (V.sl 2 8 (List.map j0 ([] : List b8))), (V.sl 2 4 (List.map s5 ([] : List j1)))])]⟩)], 9⟩ rfl <| kr ⟨[(0, (Pt 0))], [(0, ⟨false, 4, [(b6 ({ fName := ([83, 72, 79, 80] : Str), fKind := 4, fTypes := ([({ fName := ([67, 85, 83, 84] : Str), fParent := (-1), fMin := 4, fSize := 10, fFields := ([({ fName := ([67, 85, 83, 84, 78, 79] : Str), fAt := 0, fBytes := 4 } : i4)] : List i4), fKey := 0, fUnique := true, fLast := false } : b8), ({ fName := ([79, 82, 68, 69, 82] : Str), fParent := 0, fMin := 4, fSize := 8, fFields := ([({ fName := ([79, 82, 68, 78, 79] : Str), fAt := 0, fBytes := 4 } : i4)] : List i4), fKey := 0, fUnique := false, fLast := false } : b8)] : List b8), fIndexes := ([] : List j1) } : a8))]⟩)], 9⟩ rfl <| et i1 ?_
  rfl
def ew : Bool → V × List V := fun r => ((Bo r), [])
theorem mv (k : Nat) (a0 : Str)  (K0 : Int → Option Bool) (Kst : X × St → Option (V × List V)) (hK0 : ∀ (y0 : Int), Kst (X.exit 0, ⟨[(0, (Sr a0)), (6, (I (a0.length : Int))), (7, (I y0)), (8, (Bo false))], [], 47⟩) = (K0 y0).map ew) (hret : ∀ s, Kst (X.ret, s) = F3 prog 47 [(Sr a0)] [] [.tmp 2] (X.ret, s)) :
  ∀ (m : Nat) (x7 : Int), (D1 (u0 prog (EV k) FE k Dn) m ⟨[(0, (Sr a0)), (6, (I (a0.length : Int))), (7, (I x7))], [], 47⟩).bind Kst = (H7 a0 K0 m x7).map ew := by
 intro m
 induction m with
 | zero => intros; rfl
 | succ m ih =>
  intro x7
  unfold H7
  refine et l9 <| kra [(8, (Bo (decide (x7 < (a0.length : Int)))))] rfl <| kc rfl rfl (fun hc => ?_) fun hc => ?_
  ·rw [hc]
   refine et d6 <| et (i8 rfl) <| kr ⟨[(0, (Sr a0)), (3, (I x7)), (6, (I (a0.length : Int))), (7, (I x7))], [], 47⟩ rfl <| kg Dk rfl (fun (o10 : Bool) => ⟨[(0, (Sr a0)), (3, (I x7)), (4, (Bo o10)), (6, (I (a0.length : Int))), (7, (I x7))], [], 47⟩) ?_ fun o10 => ?_
   ·refine rd 2 [(10, (Sr a0)), (11, (I x7))] rfl rfl <| rp rfl (w5 rfl rfl rfl underlying9) fun v8 => bd 5 [(12, (V.int .u8 v8)), (13, (Bo (decide (v8 ≥ 65)))), (14, (Bo (decide (v8 ≥ 65))))] rfl rfl <| n5 (fun hc => ?_) fun hc => ?_
    ·rw [hc]
     exact rd 7 [(15, (Sr a0)), (16, (I x7))] rfl rfl <| rp rfl (w5 rfl rfl rfl underlying9) fun v9 => b4 rfl
    ·rw [hc]
     exact d5 rfl
   refine kg Dl rfl (fun (o13 : Bool) => ⟨[(0, (Sr a0)), (6, (I (a0.length : Int))), (7, (I x7)), (37, (Bo o13))], [], 47⟩) ?_ fun o13 => ?_
   ·refine rd 3 [(20, (Bo o10)), (21, (Bo (!o10))), (22, (Bo (!o10)))] rfl rfl <| n5 (fun hc => ?_) fun hc => ?_
    ·rw [hc]
     refine rd 6 [(23, (I x7)), (24, (Bo (x7 == 0))), (25, (Bo (x7 == 0)))] rfl rfl <| n5 (fun hc => ?_) fun hc => ?_
     ·rw [hc]
      exact d5 rfl
     ·rw [hc]
      refine rd 8 [(26, (Sr a0)), (27, (I x7))] rfl rfl <| rp rfl (w5 rfl rfl rfl underlying9) fun v11 => bd 12 [(28, (V.int .u8 v11)), (29, (Bo (decide (v11 < 48)))), (30, (Bo (decide (v11 < 48)))), (31, (Bo (decide (v11 < 48))))] rfl rfl <| n5 (fun hc => ?_) fun hc => ?_
      ·rw [hc]
       exact d5 rfl
      ·rw [hc]
       exact rd 14 [(32, (Sr a0)), (33, (I x7))] rfl rfl <| rp rfl (w5 rfl rfl rfl underlying9) fun v12 => b4 rfl
    ·rw [hc]
     exact d5 rfl
   refine kcl rfl rfl (fun hc => ?_) fun hc => ?_
   ·rw [hc]
    refine kr ⟨[(2, (Bo false))], [], 47⟩ rfl <| et i1 <| et l5 <| et l8 <| et (hret _) ?_
    rfl
   ·rw [hc]
    exact et m9 <| et i6 <| kl ⟨[(0, (Sr a0)), (6, (I (a0.length : Int))), (7, (I (Go.IntKind.wrap .i64 (x7 + 1))))], [], 47⟩ rfl <| et i3 <| ih (Go.IntKind.wrap .i64 (x7 + 1))
  ·rw [hc]
   exact et p7 <| et j3 <| hK0 x7
theorem ck (k : Nat) (a0 : Str) : EV k 50 [(Sr a0)] = (T9 k a0).map ew := by
 cases k with
 | zero => rfl
 | succ k =>
  unfold T9
  refine et (i5 (c := f50c) (N := 47) (regs := FE) rfl func50 rfl (by decide) rfl rfl rfl) <| kra [] rfl <| et b5 <| kra [(6, (I (a0.length : Int))), (7, (I 0))] rfl <| et (i8 rfl) <| et p8 ?_
  refine mv k a0 _ _ ?h_dbd_IsName_L1_0 ?hr_dbd_IsName_L1 k 0
  ·intro y14
   refine et j6 <| kg Dm rfl (fun (o15 : Bool) => ⟨[(2, (Bo o15))], [], 47⟩) ?_ fun o15 => ?_
   ·refine rd 4 [(39, (Sr a0)), (40, (I (a0.length : Int))), (41, (Bo (decide ((a0.length : Int) ≥ 1)))), (42, (Bo (decide ((a0.length : Int) ≥ 1))))] rfl rfl <| n5 (fun hc => ?_) fun hc => ?_
    ·rw [hc]
     exact d5 rfl
    ·rw [hc]
     exact d5 rfl
   refine et i1 ?_
   rfl
  ·intro s; exact rfl
def N5 : Int → V × List V := fun r => ((I r), [])
theorem dF (k : Nat) (a0 : (List i4)) (a1 : Nat → i4 → Option Bool) (a1_fid : Go.FuncId) (a1_c0 : V) (a1_hok : ∀ j x0, EV j a1_fid [(l6 x0), V.pro a1_c0] = (a1 j x0).map fun b => ((Bo b), [])) (K0 : Int → Option Int) (Kst : X × St → Option (V × List V)) (hK0 : ∀ (y0 : Int), Kst (X.exit 0, ⟨[(0, (k0 a0)), (1, (V.fn a1_fid [] [V.pro a1_c0])), (7, (I (a0.length : Int))), (8, (I y0)), (9, (Bo false))], [], 19⟩) = (K0 y0).map N5) (hret : ∀ s, Kst (X.ret, s) = F3 prog 19 [(k0 a0), (V.fn a1_fid [] [V.pro a1_c0])] [] [.tmp 4] (X.ret, s)) :
  ∀ (m : Nat) (x4 : Int), (D1 (u0 prog (EV k) ym k yl) m ⟨[(0, (k0 a0)), (1, (V.fn a1_fid [] [V.pro a1_c0])), (7, (I (a0.length : Int))), (8, (I x4))], [], 19⟩).bind Kst = (C8 k a0 a1 K0 m x4).map N5 := by
 intro m
 induction m with
 | zero => intros; rfl
 | succ m ih =>
  intro x4
  unfold C8
  refine et l9 <| kra [(9, (Bo (decide (x4 < (a0.length : Int)))))] rfl <| kc rfl rfl (fun hc => ?_) fun hc => ?_
  ·rw [hc]
   refine et d6 <| et (i8 rfl) <| kr ⟨[(0, (k0 a0)), (1, (V.fn a1_fid [] [V.pro a1_c0])), (5, (I x4)), (7, (I (a0.length : Int))), (8, (I x4))], [], 19⟩ rfl <| kga yk rfl (fun (o7 : Bool) => [(16, (Bo o7))]) (rd 3 [(11, (V.fn a1_fid [] [V.pro a1_c0])), (12, (k0 a0)), (13, (I x4))] rfl rfl <| rp rfl (i2 (e := l6) rfl rfl rfl underlying46 rfl (by decide)) fun v5 => bd 5 [(14, (Pr (l6 v5))), (15, (l6 v5))] rfl rfl <| rs rfl (d7 rfl rfl rfl rfl rfl (a1_hok k v5) (.inl rfl)) fun v6 => b4 rfl) fun o7 => kcl rfl rfl (fun hc => ?_) fun hc => ?_
   ·rw [hc]
    refine kr ⟨[(4, (I x4))], [], 19⟩ rfl <| et i1 <| et l5 <| et l8 <| et (hret _) ?_
    rfl
   ·rw [hc]
    exact et m9 <| et i6 <| kl ⟨[(0, (k0 a0)), (1, (V.fn a1_fid [] [V.pro a1_c0])), (7, (I (a0.length : Int))), (8, (I (Go.IntKind.wrap .i64 (x4 + 1))))], [], 19⟩ rfl <| et i3 <| ih (Go.IntKind.wrap .i64 (x4 + 1))
  ·rw [hc]
   exact et p7 <| et j3 <| hK0 x4
theorem ai (k : Nat) (a0 : (List i4)) (a1 : Nat → i4 → Option Bool) (a1_fid : Go.FuncId) (a1_c0 : V) (a1_hok : ∀ j x0, EV j a1_fid [(l6 x0), V.pro a1_c0] = (a1 j x0).map fun b => ((Bo b), [])) : EV k 133 [(k0 a0), (V.fn a1_fid [] [V.pro a1_c0])] = (C6 k a0 a1).map N5 := by
 cases k with
 | zero => rfl
 | succ k =>
  unfold C6
  refine et (i5 (c := GS) (N := 19) (regs := ym) rfl func133 rfl (by decide) rfl rfl rfl) <| kra [] rfl <| et b5 <| krp yj rfl ⟨[(0, (k0 a0)), (1, (V.fn a1_fid [] [V.pro a1_c0])), (7, (I (a0.length : Int))), (8, (I 0))], [], 19⟩ ?_ ?_
  ·exact rd 1 [(6, (k0 a0))] rfl rfl <| rl rfl (n7 (e := l6) rfl rfl rfl rfl rfl rfl underlying46) <| b4 rfl
  refine et (i8 rfl) <| et p8 ?_
  refine dF k a0 a1 a1_fid a1_c0 a1_hok _ _ ?h_slices_IndexFunc_Field_L1_0 ?hr_slices_IndexFunc_Field_L1 k 0
  ·intro y8
   refine et j6 <| kr ⟨[(4, (I (-1)))], [], 19⟩ rfl <| et i1 ?_
   rfl
  ·intro s; exact rfl
def cV : Bool → V × List V := fun r => ((Bo r), [])
theorem dB (k : Nat) (a0 : (List i4)) (a1 : Nat → i4 → Option Bool) (a1_fid : Go.FuncId) (a1_c0 : V) (a1_hok : ∀ j x0, EV j a1_fid [(l6 x0), V.pro a1_c0] = (a1 j x0).map fun b => ((Bo b), [])) : EV k 127 [(k0 a0), (V.fn a1_fid [] [V.pro a1_c0])] = (A5 k a0 a1).map cV := by
 cases k with
 | zero => rfl
 | succ k =>
  unfold A5
  refine et (i5 (c := GO) (N := 9) (regs := BK) rfl func127 rfl (by decide) rfl rfl rfl) <| kra [] rfl <| kg ye rfl (fun (o2 : Bool) => ⟨[(4, (Bo o2))], [], 9⟩) (rd 2 [(5, (k0 a0)), (6, (V.fn a1_fid [] [V.pro a1_c0]))] rfl rfl <| rp rfl (d7 rfl rfl rfl rfl rfl (ai k a0 a1 a1_fid a1_c0 a1_hok) (.inl rfl)) fun v1 => b4 rfl) fun o2 => et i1 ?_
  rfl
def jz : Bool → V × List V := fun r => ((Bo r), [])
theorem jX (k : Nat) (a0 : i4) (a1 : i4) : EV k 128 [(l6 a0), (Pr (l6 a1))] = (U5 k a0 a1).map jz := by
 cases k with
 | zero => rfl
 | succ k =>
  unfold U5
  refine et (i5 (c := GP) (N := 9) (regs := BL) rfl func128 rfl (by decide) rfl rfl rfl) <| kr ⟨[(1, (Pr (l6 a1))), (2, (Pt 2))], [(2, vS 3 (l6 a0))], 9⟩ rfl <| kr ⟨[(3, (Bo (a0.fName == a1.fName)))], [], 9⟩ rfl <| et i1 ?_
  rfl
def bh : Bool → V × List V := fun r => ((Bo r), [])
theorem jA (k : Nat) (a0 : (List i4)) (a1 : Int)  (K0 : Int → Option Bool) (Kst : X × St → Option (V × List V)) (hK0 : ∀ (y0 : Int), Kst (X.exit 0, ⟨[(0, (k0 a0)), (1, (I a1)), (7, (k0 a0)), (8, (I (a0.length : Int))), (9, (I y0)), (10, (Bo false))], [], 52⟩) = (K0 y0).map bh) (hret : ∀ s, Kst (X.ret, s) = F3 prog 52 [(k0 a0), (I a1)] [] [.tmp 4] (X.ret, s)) :
  ∀ (m : Nat) (x8 : Int), (D1 (u0 prog (EV k) xA k xz) m ⟨[(0, (k0 a0)), (1, (I a1)), (7, (k0 a0)), (8, (I (a0.length : Int))), (9, (I x8))], [], 52⟩).bind Kst = (H0 k a0 a1 K0 m x8).map bh := by
 intro m
 induction m with
 | zero => intros; rfl
 | succ m ih =>
  intro x8
  unfold H0
  refine et l9 <| kra [(10, (Bo (decide (x8 < (a0.length : Int)))))] rfl <| kc rfl rfl (fun hc => ?_) fun hc => ?_
  ·rw [hc]
   refine et d6 <| et (i8 rfl) <| kg xu rfl (fun (o10 : Int × i4) => ⟨[(0, (k0 a0)), (1, (I a1)), (5, (I o10.1)), (6, (Pt 6)), (7, (k0 a0)), (8, (I (a0.length : Int))), (9, (I x8))], [(6, vS 3 (l6 o10.2))], 52⟩) (rd 1 [(11, (I x8))] rfl rfl <| rp rfl (i2 (e := l6) rfl rfl rfl underlying46 rfl (by decide)) fun v9 => b4 rfl) fun o10 => et b5 <| kga xw rfl (fun (o12 : Bool) => [(42, (Bo o12))]) ?_ fun o12 => ?_
   ·refine rd 2 [(14, (Pt 6)), (15, (Sr o10.2.fName))] rfl rfl <| rp rfl (d7 rfl rfl rfl rfl rfl (ck k o10.2.fName) (.inl rfl)) fun v11 => bd 5 [(16, (Bo v11)), (17, (Bo (!v11))), (18, (Bo (!v11)))] rfl rfl <| n5 (fun hc => ?_) fun hc => ?_
    ·rw [hc]
     exact d5 rfl
    ·rw [hc]
     refine rd 10 [(19, (V.ptr 6 0 1)), (20, (I o10.2.fAt)), (21, (Bo (decide (o10.2.fAt < 0)))), (22, (Bo (decide (o10.2.fAt < 0)))), (23, (Bo (decide (o10.2.fAt < 0))))] rfl rfl <| n5 (fun hc => ?_) fun hc => ?_
     ·rw [hc]
      exact d5 rfl
     ·rw [hc]
      refine rd 16 [(24, (V.ptr 6 0 1)), (25, (I o10.2.fAt)), (26, (I a1)), (27, (Bo (decide (o10.2.fAt ≥ a1)))), (28, (Bo (decide (o10.2.fAt ≥ a1)))), (29, (Bo (decide (o10.2.fAt ≥ a1))))] rfl rfl <| n5 (fun hc => ?_) fun hc => ?_
      ·rw [hc]
       exact d5 rfl
      ·rw [hc]
       refine rd 21 [(30, (V.ptr 6 0 2)), (31, (I o10.2.fBytes)), (32, (Bo (decide (o10.2.fBytes < 1)))), (33, (Bo (decide (o10.2.fBytes < 1)))), (34, (Bo (decide (o10.2.fBytes < 1))))] rfl rfl <| n5 (fun hc => ?_) fun hc => ?_
       ·rw [hc]
        exact d5 rfl
       ·rw [hc]
        exact d5 rfl
   refine kc rfl rfl (fun hc => ?_) fun hc => ?_
   ·rw [hc]
    refine et b5 <| kr ⟨[(4, (Bo false))], [], 52⟩ rfl <| et n6 <| et l5 <| et l8 <| et (hret _) ?_
    rfl
   ·rw [hc]
    refine et d6 <| kg xx rfl (fun (o15 : Bool) => ⟨[(0, (k0 a0)), (1, (I a1)), (7, (k0 a0)), (8, (I (a0.length : Int))), (9, (I x8)), (47, (Bo o15))], [], 52⟩) (rd 2 [(43, (k0 a0)), (44, (I o10.1))] rfl rfl <| rp rfl (sm (e := l6) rfl rfl rfl rfl rfl rfl underlying46 rfl (by decide)) fun v13 => bd 4 [(45, (k0 v13)), (46, (V.fn 128 [] [(Pt 6)]))] rfl rfl <| rs rfl (d7 rfl rfl rfl rfl rfl (dB k v13 (fun j x0 => (U5 j x0 o10.2)) 128 (l6 o10.2) (fun j x0 => (jX j x0 o10.2))) (.inr (fun _ => rfl))) fun v14 => b4 rfl) fun o15 => kcl rfl rfl (fun hc => ?_) fun hc => ?_
    ·rw [hc]
     refine kr ⟨[(4, (Bo false))], [], 52⟩ rfl <| et i1 <| et l5 <| et l8 <| et (hret _) ?_
     rfl
    ·rw [hc]
     exact et m9 <| et i6 <| kl ⟨[(0, (k0 a0)), (1, (I a1)), (7, (k0 a0)), (8, (I (a0.length : Int))), (9, (I (Go.IntKind.wrap .i64 (x8 + 1))))], [], 52⟩ rfl <| et i3 <| ih (Go.IntKind.wrap .i64 (x8 + 1))
  ·rw [hc]
   exact et p7 <| et j3 <| hK0 x8
theorem mw (k : Nat) (a0 : (List i4)) (a1 : Int) : EV k 113 [(k0 a0), (I a1)] = (al k a0 a1).map bh := by
 cases k with
 | zero => rfl
 | succ k =>
  unfold al
  refine et (i5 (c := GC) (N := 52) (regs := xA) rfl func113 rfl (by decide) rfl rfl rfl) <| kra [] rfl <| et b5 <| krp xr rfl ⟨[(0, (k0 a0)), (1, (I a1)), (7, (k0 a0)), (8, (I (a0.length : Int))), (9, (I 0))], [], 52⟩ ?_ ?_
  ·exact rd 1 [(7, (k0 a0))] rfl rfl <| rl rfl (n7 (e := l6) rfl rfl rfl rfl rfl rfl underlying46) <| b4 rfl
  refine et (i8 rfl) <| et p8 ?_
  refine jA k a0 a1 _ _ ?h_dbd_areFields_L1_0 ?hr_dbd_areFields_L1 k 0
  ·intro y16
   refine et j6 <| krp xy rfl ⟨[(4, (Bo (decide ((a0.length : Int) ≤ 5))))], [], 52⟩ ?_ ?_
   ·exact rd 1 [(49, (k0 a0))] rfl rfl <| rl rfl (n7 (e := l6) rfl rfl rfl rfl rfl rfl underlying46) <| b4 rfl
   refine et i1 ?_
   rfl
  ·intro s; exact rfl
def oM : Bool → V × List V := fun r => ((Bo r), [])
theorem qg (k : Nat) (a0 : b8) : EV k 80 [(j0 a0)] = (eA k a0).map oM := by
 cases k with
 | zero => rfl
 | succ k =>
  unfold eA
  refine et (i5 (c := f80c) (N := 70) (regs := HH) rfl func80 rfl (by decide) rfl rfl rfl) <| kr ⟨[(1, (Pt 1))], [(1, vS 8 (j0 a0))], 70⟩ rfl <| et (i8 rfl) <| kga EK rfl (fun (o3 : Bool) => [(3, (Bo o3))]) ?_ fun o3 => ?_
  ·refine rd 2 [(4, (Pt 1)), (5, (Sr a0.fName))] rfl rfl <| rp rfl (d7 rfl rfl rfl rfl rfl (ck k a0.fName) (.inl rfl)) fun v1 => bd 5 [(6, (Bo v1)), (7, (Bo (!v1))), (8, (Bo (!v1)))] rfl rfl <| n5 (fun hc => ?_) fun hc => ?_
   ·rw [hc]
    exact d5 rfl
   ·rw [hc]
    refine rd 10 [(9, (V.ptr 1 0 2)), (10, (I a0.fMin)), (11, (Bo (decide (a0.fMin < 1)))), (12, (Bo (decide (a0.fMin < 1)))), (13, (Bo (decide (a0.fMin < 1))))] rfl rfl <| n5 (fun hc => ?_) fun hc => ?_
    ·rw [hc]
     exact d5 rfl
    ·rw [hc]
     refine rd 17 [(14, (V.ptr 1 0 2)), (15, (I a0.fMin)), (16, (V.ptr 1 0 3)), (17, (I a0.fSize)), (18, (Bo (decide (a0.fMin > a0.fSize)))), (19, (Bo (decide (a0.fMin > a0.fSize)))), (20, (Bo (decide (a0.fMin > a0.fSize))))] rfl rfl <| n5 (fun hc => ?_) fun hc => ?_
     ·rw [hc]
      exact d5 rfl
     ·rw [hc]
      refine rd 22 [(21, (V.ptr 1 0 3)), (22, (I a0.fSize)), (23, (Bo (decide (a0.fSize > 40)))), (24, (Bo (decide (a0.fSize > 40)))), (25, (Bo (decide (a0.fSize > 40))))] rfl rfl <| n5 (fun hc => ?_) fun hc => ?_
      ·rw [hc]
       exact d5 rfl
      ·rw [hc]
       exact rd 26 [(26, (V.ptr 1 0 4)), (27, (k0 a0.fFields)), (28, (V.ptr 1 0 3)), (29, (I a0.fSize))] rfl rfl <| rp rfl (d7 rfl rfl rfl rfl rfl (mw k a0.fFields a0.fSize) (.inl rfl)) fun v2 => b4 rfl
  refine kcl rfl rfl (fun hc => ?_) fun hc => ?_
  ·rw [hc]
   refine kr ⟨[(2, (Bo false))], [], 70⟩ rfl <| et i1 <| et l5 ?_
   rfl
  ·rw [hc]
   refine kr ⟨[(1, (Pt 1)), (33, (Bo (a0.fKey == (-1))))], [(1, vS 8 (j0 a0))], 70⟩ rfl <| kcl rfl rfl (fun hc => ?_) fun hc => ?_
   ·rw [hc]
    refine kr ⟨[(2, (Bo (!a0.fUnique)))], [], 70⟩ rfl <| et i1 <| et l5 ?_
    rfl
   ·rw [hc]
    refine kg EL rfl (fun (o4 : Bool) => ⟨[(1, (Pt 1)), (40, (Bo o4))], [(1, vS 8 (j0 a0))], 70⟩) ?_ fun o4 => ?_
    ·refine rd 4 [(41, (V.ptr 1 0 5)), (42, (I a0.fKey)), (43, (Bo (decide (a0.fKey < 0)))), (44, (Bo (decide (a0.fKey < 0))))] rfl rfl <| n5 (fun hc => ?_) fun hc => ?_
     ·rw [hc]
      exact d5 rfl
     ·rw [hc]
      exact rd 8 [(45, (V.ptr 1 0 5)), (46, (I a0.fKey)), (47, (V.ptr 1 0 4)), (48, (k0 a0.fFields))] rfl rfl <| rl rfl (n7 (e := l6) rfl rfl rfl rfl rfl rfl underlying46) <| b4 rfl
    refine kcl rfl rfl (fun hc => ?_) fun hc => ?_
    ·rw [hc]
     refine kr ⟨[(2, (Bo false))], [], 70⟩ rfl <| et i1 <| et l5 ?_
     rfl
    ·rw [hc]
     refine et m9 <| et i6 <| kd EM rfl (fun (o7 : Bool) => ⟨[(2, (Bo o7))], [], 70⟩) (et (j2 (p := 19) (dk := true) (t := [(1, (Pt 1)), (40, (Bo false))]) (σ := [(1, vS 8 (j0 a0))]) (n := 70) rfl (by decide) (by decide) rfl) <| et (j8 (m := 4) (j := 4) (t' := [(1, (Pt 1)), (40, (Bo false)), (52, (V.ptr 1 0 4)), (53, (k0 a0.fFields)), (54, (V.ptr 1 0 5)), (55, (I a0.fKey))]) rfl rfl rfl) <| et (c8 (x := (idx a0.fFields a0.fKey)) (w := fun v5 => (Pr (l6 v5))) rfl rfl rfl rfl rfl (i2 (e := l6) rfl rfl rfl underlying46 rfl (by decide))) <| j5 fun v5 => et (i7 (m := 6) (j := 11) (t' := [(1, (Pt 1)), (40, (Bo false)), (52, (V.ptr 1 0 4)), (53, (k0 a0.fFields)), (54, (V.ptr 1 0 5)), (55, (I a0.fKey)), (56, (Pr (l6 v5))), (57, (Pr (I v5.fAt))), (58, (I v5.fAt)), (59, (V.ptr 1 0 4)), (60, (k0 a0.fFields)), (61, (V.ptr 1 0 5)), (62, (I a0.fKey))]) rfl rfl rfl) <| et (c8 (x := (idx a0.fFields a0.fKey)) (w := fun v6 => (Pr (l6 v6))) rfl rfl rfl rfl rfl (i2 (e := l6) rfl rfl rfl underlying46 rfl (by decide))) <| j5 fun v6 => j9 rfl) fun o7 => et i1 ?_
     rfl
def O6 : Int → V × List V := fun r => ((I r), [])
theorem dW (k : Nat) (a0 : (List b8)) (a1 : Nat → b8 → Option Bool) (a1_fid : Go.FuncId) (a1_c0 : V) (a1_hok : ∀ j x0, EV j a1_fid [(j0 x0), V.pro a1_c0] = (a1 j x0).map fun b => ((Bo b), [])) (K0 : Int → Option Int) (Kst : X × St → Option (V × List V)) (hK0 : ∀ (y0 : Int), Kst (X.exit 0, ⟨[(0, (l7 a0)), (1, (V.fn a1_fid [] [V.pro a1_c0])), (7, (I (a0.length : Int))), (8, (I y0)), (9, (Bo false))], [], 19⟩) = (K0 y0).map O6) (hret : ∀ s, Kst (X.ret, s) = F3 prog 19 [(l7 a0), (V.fn a1_fid [] [V.pro a1_c0])] [] [.tmp 4] (X.ret, s)) :
  ∀ (m : Nat) (x4 : Int), (D1 (u0 prog (EV k) FS k EX) m ⟨[(0, (l7 a0)), (1, (V.fn a1_fid [] [V.pro a1_c0])), (7, (I (a0.length : Int))), (8, (I x4))], [], 19⟩).bind Kst = (D7 k a0 a1 K0 m x4).map O6 := by
 intro m
 induction m with
 | zero => intros; rfl
 | succ m ih =>
  intro x4
  unfold D7
  refine et l9 <| kra [(9, (Bo (decide (x4 < (a0.length : Int)))))] rfl <| kc rfl rfl (fun hc => ?_) fun hc => ?_
  ·rw [hc]
   refine et d6 <| et (i8 rfl) <| kr ⟨[(0, (l7 a0)), (1, (V.fn a1_fid [] [V.pro a1_c0])), (5, (I x4)), (7, (I (a0.length : Int))), (8, (I x4))], [], 19⟩ rfl <| kga EW rfl (fun (o7 : Bool) => [(16, (Bo o7))]) (rd 3 [(11, (V.fn a1_fid [] [V.pro a1_c0])), (12, (l7 a0)), (13, (I x4))] rfl rfl <| rp rfl (i2 (e := j0) rfl rfl rfl underlying22 rfl (by decide)) fun v5 => bd 5 [(14, (Pr (j0 v5))), (15, (j0 v5))] rfl rfl <| rs rfl (d7 rfl rfl rfl rfl rfl (a1_hok k v5) (.inl rfl)) fun v6 => b4 rfl) fun o7 => kcl rfl rfl (fun hc => ?_) fun hc => ?_
   ·rw [hc]
    refine kr ⟨[(4, (I x4))], [], 19⟩ rfl <| et i1 <| et l5 <| et l8 <| et (hret _) ?_
    rfl
   ·rw [hc]
    exact et m9 <| et i6 <| kl ⟨[(0, (l7 a0)), (1, (V.fn a1_fid [] [V.pro a1_c0])), (7, (I (a0.length : Int))), (8, (I (Go.IntKind.wrap .i64 (x4 + 1))))], [], 19⟩ rfl <| et i3 <| ih (Go.IntKind.wrap .i64 (x4 + 1))
  ·rw [hc]
   exact et p7 <| et j3 <| hK0 x4
theorem ax (k : Nat) (a0 : (List b8)) (a1 : Nat → b8 → Option Bool) (a1_fid : Go.FuncId) (a1_c0 : V) (a1_hok : ∀ j x0, EV j a1_fid [(j0 x0), V.pro a1_c0] = (a1 j x0).map fun b => ((Bo b), [])) : EV k 92 [(l7 a0), (V.fn a1_fid [] [V.pro a1_c0])] = (D4 k a0 a1).map O6 := by
 cases k with
 | zero => rfl
 | succ k =>
  unfold D4
  refine et (i5 (c := f92c) (N := 19) (regs := FS) rfl func92 rfl (by decide) rfl rfl rfl) <| kra [] rfl <| et b5 <| krp EU rfl ⟨[(0, (l7 a0)), (1, (V.fn a1_fid [] [V.pro a1_c0])), (7, (I (a0.length : Int))), (8, (I 0))], [], 19⟩ ?_ ?_
  ·exact rd 1 [(6, (l7 a0))] rfl rfl <| rl rfl (n7 (e := j0) rfl rfl rfl rfl rfl rfl underlying22) <| b4 rfl
  refine et (i8 rfl) <| et p8 ?_
  refine dW k a0 a1 a1_fid a1_c0 a1_hok _ _ ?h_slices_IndexFunc_Type_L1_0 ?hr_slices_IndexFunc_Type_L1 k 0
  ·intro y8
   refine et j6 <| kr ⟨[(4, (I (-1)))], [], 19⟩ rfl <| et i1 ?_
   rfl
  ·intro s; exact rfl
def dE : Bool → V × List V := fun r => ((Bo r), [])
theorem dT (k : Nat) (a0 : (List b8)) (a1 : Nat → b8 → Option Bool) (a1_fid : Go.FuncId) (a1_c0 : V) (a1_hok : ∀ j x0, EV j a1_fid [(j0 x0), V.pro a1_c0] = (a1 j x0).map fun b => ((Bo b), [])) : EV k 81 [(l7 a0), (V.fn a1_fid [] [V.pro a1_c0])] = (B2 k a0 a1).map dE := by
 cases k with
 | zero => rfl
 | succ k =>
  unfold B2
  refine et (i5 (c := f81c) (N := 9) (regs := HI) rfl func81 rfl (by decide) rfl rfl rfl) <| kra [] rfl <| kg EN rfl (fun (o2 : Bool) => ⟨[(4, (Bo o2))], [], 9⟩) (rd 2 [(5, (l7 a0)), (6, (V.fn a1_fid [] [V.pro a1_c0]))] rfl rfl <| rp rfl (d7 rfl rfl rfl rfl rfl (ax k a0 a1 a1_fid a1_c0 a1_hok) (.inl rfl)) fun v1 => b4 rfl) fun o2 => et i1 ?_
  rfl
def jZ : Bool → V × List V := fun r => ((Bo r), [])
theorem lb (k : Nat) (a0 : b8) (a1 : b8) : EV k 82 [(j0 a0), (Pr (j0 a1))] = (X0 k a0 a1).map jZ := by
 cases k with
 | zero => rfl
 | succ k =>
  unfold X0
  refine et (i5 (c := f82c) (N := 9) (regs := HJ) rfl func82 rfl (by decide) rfl rfl rfl) <| kr ⟨[(1, (Pr (j0 a1))), (2, (Pt 2))], [(2, vS 8 (j0 a0))], 9⟩ rfl <| kr ⟨[(3, (Bo (a0.fName == a1.fName)))], [], 9⟩ rfl <| et i1 ?_
  rfl
def Y6 : Int → V × List V := fun r => ((I r), [])
theorem hD (k : Nat) (a0 : (List Int)) (a1 : Int)  (K0 : Int → Option Int) (Kst : X × St → Option (V × List V)) (hK0 : ∀ (y0 : Int), Kst (X.exit 0, ⟨[(0, (sI a0)), (1, (I a1)), (7, (I (a0.length : Int))), (8, (I y0)), (9, (Bo false))], [], 19⟩) = (K0 y0).map Y6) (hret : ∀ s, Kst (X.ret, s) = F3 prog 19 [(sI a0), (I a1)] [] [.tmp 4] (X.ret, s)) :
  ∀ (m : Nat) (x3 : Int), (D1 (u0 prog (EV k) FO k EQ) m ⟨[(0, (sI a0)), (1, (I a1)), (7, (I (a0.length : Int))), (8, (I x3))], [], 19⟩).bind Kst = (J8 a0 a1 K0 m x3).map Y6 := by
 intro m
 induction m with
 | zero => intros; rfl
 | succ m ih =>
  intro x3
  unfold J8
  refine et l9 <| kra [(9, (Bo (decide (x3 < (a0.length : Int)))))] rfl <| kc rfl rfl (fun hc => ?_) fun hc => ?_
  ·rw [hc]
   refine et d6 <| et (i8 rfl) <| kr ⟨[(0, (sI a0)), (1, (I a1)), (5, (I x3)), (7, (I (a0.length : Int))), (8, (I x3))], [], 19⟩ rfl <| kga EP rfl (fun (o5 : Bool) => [(16, (Bo o5))]) (rd 3 [(11, (I a1)), (12, (sI a0)), (13, (I x3))] rfl rfl <| rp rfl (i2 (e := I) rfl rfl rfl underlying58 rfl (by decide)) fun v4 => b4 rfl) fun o5 => kcl rfl rfl (fun hc => ?_) fun hc => ?_
   ·rw [hc]
    refine kr ⟨[(4, (I x3))], [], 19⟩ rfl <| et i1 <| et l5 <| et l8 <| et (hret _) ?_
    rfl
   ·rw [hc]
    exact et m9 <| et i6 <| kl ⟨[(0, (sI a0)), (1, (I a1)), (7, (I (a0.length : Int))), (8, (I (Go.IntKind.wrap .i64 (x3 + 1))))], [], 19⟩ rfl <| et i3 <| ih (Go.IntKind.wrap .i64 (x3 + 1))
  ·rw [hc]
   exact et p7 <| et j3 <| hK0 x3
theorem dL (k : Nat) (a0 : (List Int)) (a1 : Int) : EV k 83 [(sI a0), (I a1)] = (T0 k a0 a1).map Y6 := by
 cases k with
 | zero => rfl
 | succ k =>
  unfold T0
  refine et (i5 (c := f83c) (N := 19) (regs := FO) rfl func83 rfl (by decide) rfl rfl rfl) <| kra [] rfl <| et b5 <| krp EO rfl ⟨[(0, (sI a0)), (1, (I a1)), (7, (I (a0.length : Int))), (8, (I 0))], [], 19⟩ ?_ ?_
  ·exact rd 1 [(6, (sI a0))] rfl rfl <| rl rfl (n7 (e := I) rfl rfl rfl rfl rfl rfl underlying58) <| b4 rfl
  refine et (i8 rfl) <| et p8 ?_
  refine hD k a0 a1 _ _ ?h_slices_Index_int_L1_0 ?hr_slices_Index_int_L1 k 0
  ·intro y6
   refine et j6 <| kr ⟨[(4, (I (-1)))], [], 19⟩ rfl <| et i1 ?_
   rfl
  ·intro s; exact rfl
def bL : Bool → V × List V := fun r => ((Bo r), [])
theorem ka (k : Nat) (a0 : (List b8))  (K0 : Int → (List Int) → Option Bool) (Kst : X × St → Option (V × List V)) (hK0 : ∀ (y0 : Int) (y1 : (List Int)), Kst (X.exit 0, ⟨[(0, (l7 a0)), (3, (aL 3 I y1)), (15, (l7 a0)), (16, (I (a0.length : Int))), (17, (I y0)), (18, (Bo false))], [(3, ⟨true, 1, List.map I y1⟩)], 82⟩) = (K0 y0 y1).map bL) (hret : ∀ s, Kst (X.ret, s) = F3 prog 82 [(l7 a0)] [] [.tmp 2] (X.ret, s)) :
  ∀ (m : Nat) (x15 : Int) (x16 : (List Int)), (D1 (u0 prog (EV k) FF k Dt) m ⟨[(0, (l7 a0)), (3, (aL 3 I x16)), (15, (l7 a0)), (16, (I (a0.length : Int))), (17, (I x15))], [(3, ⟨true, 1, List.map I x16⟩)], 82⟩).bind Kst = (I7 k a0 K0 m x15 x16).map bL := by
 intro m
 induction m with
 | zero => intros; rfl
 | succ m ih =>
  intro x15 x16
  unfold I7
  refine et l9 <| kra [(18, (Bo (decide (x15 < (a0.length : Int)))))] rfl <| kc rfl rfl (fun hc => ?_) fun hc => ?_
  ·rw [hc]
   refine et d6 <| et (i8 rfl) <| kg Dq rfl (fun (o18 : Int × b8) => ⟨[(0, (l7 a0)), (3, (aL 3 I x16)), (4, (I o18.1)), (5, (Pt 5)), (15, (l7 a0)), (16, (I (a0.length : Int))), (17, (I x15))], [(3, ⟨true, 1, List.map I x16⟩), (5, vS 8 (j0 o18.2))], 82⟩) (rd 1 [(19, (I x15))] rfl rfl <| rp rfl (i2 (e := j0) rfl rfl rfl underlying22 rfl (by decide)) fun v17 => b4 rfl) fun o18 => et b5 <| kga Dr rfl (fun (o22 : Bool) => [(31, (Bo o22))]) ?_ fun o22 => ?_
   ·refine rd 1 [(22, (j0 o18.2))] rfl rfl <| rp rfl (d7 rfl rfl rfl rfl rfl (qg k o18.2) (.inl rfl)) fun v19 => bd 4 [(23, (Bo v19)), (24, (Bo (!v19))), (25, (Bo (!v19)))] rfl rfl <| n5 (fun hc => ?_) fun hc => ?_
    ·rw [hc]
     exact d5 rfl
    ·rw [hc]
     exact rd 6 [(26, (l7 a0)), (27, (I o18.1))] rfl rfl <| rp rfl (sm (e := j0) rfl rfl rfl rfl rfl rfl underlying22 rfl (by decide)) fun v20 => bd 8 [(28, (l7 v20)), (29, (V.fn 82 [] [(Pt 5)]))] rfl rfl <| rs rfl (d7 rfl rfl rfl rfl rfl (dT k v20 (fun j x0 => (X0 j x0 o18.2)) 82 (j0 o18.2) (fun j x0 => (lb j x0 o18.2))) (.inr (fun _ => rfl))) fun v21 => b4 rfl
   refine kc rfl rfl (fun hc => ?_) fun hc => ?_
   ·rw [hc]
    refine et b5 <| kr ⟨[(2, (Bo false))], [], 82⟩ rfl <| et n6 <| et l5 <| et l8 <| et (hret _) ?_
    rfl
   ·rw [hc]
    refine et d6 <| kg Ds rfl (fun (o24 : Int) => ⟨[(0, (l7 a0)), (3, (aL 3 I x16)), (4, (I o18.1)), (5, (Pt 5)), (6, (I o24)), (15, (l7 a0)), (16, (I (a0.length : Int))), (17, (I x15))], [(3, ⟨true, 1, List.map I x16⟩), (5, vS 8 (j0 o18.2))], 82⟩) (rd 3 [(32, (aL 3 I x16)), (33, (V.ptr 5 0 1)), (34, (I o18.2.fParent))] rfl rfl <| rs rfl (d7 rfl rfl rfl rfl (qx (Fp (e := I) rfl) (by intro s i q h; cases h) (qx rfl (by intro s i q h; cases h) rfl)) (dL k x16 o18.2.fParent) (.inr (fun _ => rfl))) fun v23 => b4 rfl) fun o24 => et b5 <| kg yT rfl (fun (o26 : Bool) => ⟨[(0, (l7 a0)), (3, (aL 3 I x16)), (4, (I o18.1)), (6, (I o24)), (15, (l7 a0)), (16, (I (a0.length : Int))), (17, (I x15)), (70, (Bo o26))], [(3, ⟨true, 1, List.map I x16⟩)], 82⟩) ?_ fun o26 => ?_
    ·refine rd 3 [(36, (I o18.1)), (37, (Bo (o18.1 == 0))), (38, (Bo (o18.1 == 0)))] rfl rfl <| n5 (fun hc => ?_) fun hc => ?_
     ·rw [hc]
      refine rd 7 [(39, (V.ptr 5 0 1)), (40, (I o18.2.fParent)), (41, (Bo (o18.2.fParent != (-1)))), (42, (Bo (o18.2.fParent != (-1))))] rfl rfl <| n5 (fun hc => ?_) fun hc => ?_
      ·rw [hc]
       exact d5 rfl
      ·rw [hc]
       refine rd 12 [(43, (V.ptr 5 0 5)), (44, (I o18.2.fKey)), (45, (Bo (decide (o18.2.fKey < 0)))), (46, (Bo (decide (o18.2.fKey < 0)))), (47, (Bo (decide (o18.2.fKey < 0))))] rfl rfl <| n5 (fun hc => ?_) fun hc => ?_
       ·rw [hc]
        exact d5 rfl
       ·rw [hc]
        refine rd 17 [(48, (V.ptr 5 0 6)), (49, (Bo o18.2.fUnique)), (50, (Bo (!o18.2.fUnique))), (51, (Bo (!o18.2.fUnique))), (52, (Bo (!o18.2.fUnique)))] rfl rfl <| n5 (fun hc => ?_) fun hc => ?_
        ·rw [hc]
         exact d5 rfl
        ·rw [hc]
         refine rd 21 [(53, (V.ptr 5 0 4)), (54, (k0 o18.2.fFields)), (55, (V.ptr 5 0 5)), (56, (I o18.2.fKey))] rfl rfl <| rp rfl (i2 (e := l6) rfl rfl rfl underlying46 rfl (by decide)) fun v25 => bd 28 [(57, (Pr (l6 v25))), (58, (Pr (I v25.fBytes))), (59, (I v25.fBytes)), (60, (Bo (decide (v25.fBytes > 24)))), (61, (Bo (decide (v25.fBytes > 24)))), (62, (Bo (decide (v25.fBytes > 24)))), (63, (Bo (decide (v25.fBytes > 24))))] rfl rfl <| n5 (fun hc => ?_) fun hc => ?_
         ·rw [hc]
          exact d5 rfl
         ·rw [hc]
          refine rd 31 [(64, (I o18.1)), (65, (Bo (decide (o18.1 > 0)))), (66, (Bo (decide (o18.1 > 0))))] rfl rfl <| n5 (fun hc => ?_) fun hc => ?_
          ·rw [hc]
           exact d5 rfl
          ·rw [hc]
           exact d5 rfl
     ·rw [hc]
      refine rd 31 [(39, (V.tup [])), (40, (V.tup [])), (41, (V.tup [])), (42, (V.tup [])), (43, (V.tup [])), (44, (V.tup [])), (45, (V.tup [])), (46, (V.tup [])), (47, (V.tup [])), (48, (V.tup [])), (49, (V.tup [])), (50, (V.tup [])), (51, (V.tup [])), (52, (V.tup [])), (53, (V.tup [])), (54, (V.tup [])), (55, (V.tup [])), (56, (V.tup [])), (57, (V.tup [])), (58, (V.tup [])), (59, (V.tup [])), (60, (V.tup [])), (61, (V.tup [])), (62, (Bo false)), (63, (Bo false)), (64, (I o18.1)), (65, (Bo (decide (o18.1 > 0)))), (66, (Bo (decide (o18.1 > 0))))] rfl rfl <| n5 (fun hc => ?_) fun hc => ?_
      ·rw [hc]
       exact d5 rfl
      ·rw [hc]
       exact d5 rfl
    refine kc rfl rfl (fun hc => ?_) fun hc => ?_
    ·rw [hc]
     refine et b5 <| kr ⟨[(2, (Bo false))], [], 82⟩ rfl <| et n6 <| et l5 <| et l8 <| et (hret _) ?_
     rfl
    ·rw [hc]
     refine et d6 <| kg yU rfl (fun (o29 : (List Int)) => ⟨[(0, (l7 a0)), (3, (aL 3 I o29)), (15, (l7 a0)), (16, (I (a0.length : Int))), (17, (I x15))], [(3, ⟨true, 1, List.map I o29⟩)], 82⟩) (rd 3 [(71, (aL 3 I x16)), (72, (I o24)), (73, (I (Go.IntKind.wrap .i64 (o24 + 1))))] rfl rfl <| rx rfl (zY (e := I) rfl rfl rfl underlying58 (by decide)) fun v27 hv27 => bd 6 [(74, (V.aref 3 0 v27)), (75, (I o18.1)), (76, (sI (([o18.1] : List Int))))] rfl rfl <| et (Q1 (x := (app (List.take v27 x16) ([o18.1] : List Int))) (w := fun v28 => ((aL 3 I v28), _)) rfl rfl rfl rfl (zT (e := I) (l := x16) rfl rfl rfl rfl rfl rfl rfl rfl rfl rfl rfl (Bm hv27) (of_decide_eq_true rfl))) <| B6 fun v28 => b4 rfl) fun o29 => krp yV rfl ⟨[(0, (l7 a0)), (3, (aL 3 I o29)), (15, (l7 a0)), (16, (I (a0.length : Int))), (17, (I x15)), (80, (Bo (decide ((o29.length : Int) > 5))))], [(3, ⟨true, 1, List.map I o29⟩)], 82⟩ ?_ ?_
     ·exact rd 1 [(78, (aL 3 I o29))] rfl rfl <| rl rfl (uZ (e := I) rfl rfl rfl rfl rfl rfl underlying58) <| b4 rfl
     refine kcl rfl rfl (fun hc => ?_) fun hc => ?_
     ·rw [hc]
      refine kr ⟨[(2, (Bo false))], [], 82⟩ rfl <| et i1 <| et l5 <| et l8 <| et (hret _) ?_
      rfl
     ·rw [hc]
      exact et m9 <| et i6 <| kl ⟨[(0, (l7 a0)), (3, (aL 3 I o29)), (15, (l7 a0)), (16, (I (a0.length : Int))), (17, (I (Go.IntKind.wrap .i64 (x15 + 1))))], [(3, ⟨true, 1, List.map I o29⟩)], 82⟩ rfl <| et i3 <| ih (Go.IntKind.wrap .i64 (x15 + 1)) o29
  ·rw [hc]
   exact et p7 <| et j3 <| hK0 x15 x16
theorem nT (k : Nat) (a0 : (List b8)) : EV k 51 [(l7 a0)] = (bi k a0).map bL := by
 cases k with
 | zero => rfl
 | succ k =>
  unfold bi
  refine et (i5 (c := f51c) (N := 82) (regs := FF) rfl func51 rfl (by decide) rfl rfl rfl) <| kra [] rfl <| et b5 <| kga Do rfl (fun (o1 : Bool) => [(14, (Bo o1))]) ?_ fun o1 => ?_
  ·refine rd 1 [(7, (l7 a0))] rfl rfl <| rl rfl (n7 (e := j0) rfl rfl rfl rfl rfl rfl underlying22) <| bd 4 [(8, (I (a0.length : Int))), (9, (Bo (decide ((a0.length : Int) < 1)))), (10, (Bo (decide ((a0.length : Int) < 1))))] rfl rfl <| n5 (fun hc => ?_) fun hc => ?_
   ·rw [hc]
    exact d5 rfl
   ·rw [hc]
    exact rd 5 [(11, (l7 a0))] rfl rfl <| rl rfl (n7 (e := j0) rfl rfl rfl rfl rfl rfl underlying22) <| b4 rfl
  refine kc rfl rfl (fun hc => ?_) fun hc => ?_
  ·rw [hc]
   refine et b5 <| kr ⟨[(2, (Bo false))], [], 82⟩ rfl <| et n6 ?_
   rfl
  ·rw [hc]
   refine et d6 <| kr ⟨[(0, (l7 a0)), (3, (aL 3 I ([] : List Int)))], [(3, ⟨true, 1, List.map I ([] : List Int)⟩)], 82⟩ rfl <| et b5 <| krp Dp rfl ⟨[(0, (l7 a0)), (3, (aL 3 I ([] : List Int))), (15, (l7 a0)), (16, (I (a0.length : Int))), (17, (I 0))], [(3, ⟨true, 1, List.map I ([] : List Int)⟩)], 82⟩ ?_ ?_
   ·exact rd 1 [(15, (l7 a0))] rfl rfl <| rl rfl (n7 (e := j0) rfl rfl rfl rfl rfl rfl underlying22) <| b4 rfl
   refine et (i8 rfl) <| et p8 ?_
   refine ka k a0 _ _ ?h_dbd_areTypes_L1_0 ?hr_dbd_areTypes_L1 k 0 ([] : List Int)
   ·intro y30 y31
    refine et j6 <| kr ⟨[(2, (Bo true))], [], 82⟩ rfl <| et i1 ?_
    rfl
   ·intro s; exact rfl
def K5 : Int → V × List V := fun r => ((I r), [])
theorem db (k : Nat) (a0 : (List j1)) (a1 : Nat → j1 → Option Bool) (a1_fid : Go.FuncId) (a1_c0 : V) (a1_hok : ∀ j x0, EV j a1_fid [(s5 x0), V.pro a1_c0] = (a1 j x0).map fun b => ((Bo b), [])) (K0 : Int → Option Int) (Kst : X × St → Option (V × List V)) (hK0 : ∀ (y0 : Int), Kst (X.exit 0, ⟨[(0, (s8 a0)), (1, (V.fn a1_fid [] [V.pro a1_c0])), (7, (I (a0.length : Int))), (8, (I y0)), (9, (Bo false))], [], 19⟩) = (K0 y0).map K5) (hret : ∀ s, Kst (X.ret, s) = F3 prog 19 [(s8 a0), (V.fn a1_fid [] [V.pro a1_c0])] [] [.tmp 4] (X.ret, s)) :
  ∀ (m : Nat) (x4 : Int), (D1 (u0 prog (EV k) xE k xD) m ⟨[(0, (s8 a0)), (1, (V.fn a1_fid [] [V.pro a1_c0])), (7, (I (a0.length : Int))), (8, (I x4))], [], 19⟩).bind Kst = (C3 k a0 a1 K0 m x4).map K5 := by
 intro m
 induction m with
 | zero => intros; rfl
 | succ m ih =>
  intro x4
  unfold C3
  refine et l9 <| kra [(9, (Bo (decide (x4 < (a0.length : Int)))))] rfl <| kc rfl rfl (fun hc => ?_) fun hc => ?_
  ·rw [hc]
   refine et d6 <| et (i8 rfl) <| kr ⟨[(0, (s8 a0)), (1, (V.fn a1_fid [] [V.pro a1_c0])), (5, (I x4)), (7, (I (a0.length : Int))), (8, (I x4))], [], 19⟩ rfl <| kga xC rfl (fun (o7 : Bool) => [(16, (Bo o7))]) (rd 3 [(11, (V.fn a1_fid [] [V.pro a1_c0])), (12, (s8 a0)), (13, (I x4))] rfl rfl <| rp rfl (i2 (e := s5) rfl rfl rfl underlying23 rfl (by decide)) fun v5 => bd 5 [(14, (Pr (s5 v5))), (15, (s5 v5))] rfl rfl <| rs rfl (d7 rfl rfl rfl rfl rfl (a1_hok k v5) (.inl rfl)) fun v6 => b4 rfl) fun o7 => kcl rfl rfl (fun hc => ?_) fun hc => ?_
   ·rw [hc]
    refine kr ⟨[(4, (I x4))], [], 19⟩ rfl <| et i1 <| et l5 <| et l8 <| et (hret _) ?_
    rfl
   ·rw [hc]
    exact et m9 <| et i6 <| kl ⟨[(0, (s8 a0)), (1, (V.fn a1_fid [] [V.pro a1_c0])), (7, (I (a0.length : Int))), (8, (I (Go.IntKind.wrap .i64 (x4 + 1))))], [], 19⟩ rfl <| et i3 <| ih (Go.IntKind.wrap .i64 (x4 + 1))
  ·rw [hc]
   exact et p7 <| et j3 <| hK0 x4
theorem fe (k : Nat) (a0 : (List j1)) (a1 : Nat → j1 → Option Bool) (a1_fid : Go.FuncId) (a1_c0 : V) (a1_hok : ∀ j x0, EV j a1_fid [(s5 x0), V.pro a1_c0] = (a1 j x0).map fun b => ((Bo b), [])) : EV k 114 [(s8 a0), (V.fn a1_fid [] [V.pro a1_c0])] = (I5 k a0 a1).map K5 := by
 cases k with
 | zero => rfl
 | succ k =>
  unfold I5
  refine et (i5 (c := GD) (N := 19) (regs := xE) rfl func114 rfl (by decide) rfl rfl rfl) <| kra [] rfl <| et b5 <| krp xB rfl ⟨[(0, (s8 a0)), (1, (V.fn a1_fid [] [V.pro a1_c0])), (7, (I (a0.length : Int))), (8, (I 0))], [], 19⟩ ?_ ?_
  ·exact rd 1 [(6, (s8 a0))] rfl rfl <| rl rfl (n7 (e := s5) rfl rfl rfl rfl rfl rfl underlying23) <| b4 rfl
  refine et (i8 rfl) <| et p8 ?_
  refine db k a0 a1 a1_fid a1_c0 a1_hok _ _ ?h_slices_IndexFunc_Search_L1_0 ?hr_slices_IndexFunc_Search_L1 k 0
  ·intro y8
   refine et j6 <| kr ⟨[(4, (I (-1)))], [], 19⟩ rfl <| et i1 ?_
   rfl
  ·intro s; exact rfl
def cd : Bool → V × List V := fun r => ((Bo r), [])
theorem cX (k : Nat) (a0 : (List j1)) (a1 : Nat → j1 → Option Bool) (a1_fid : Go.FuncId) (a1_c0 : V) (a1_hok : ∀ j x0, EV j a1_fid [(s5 x0), V.pro a1_c0] = (a1 j x0).map fun b => ((Bo b), [])) : EV k 84 [(s8 a0), (V.fn a1_fid [] [V.pro a1_c0])] = (z6 k a0 a1).map cd := by
 cases k with
 | zero => rfl
 | succ k =>
  unfold z6
  refine et (i5 (c := f84c) (N := 9) (regs := HK) rfl func84 rfl (by decide) rfl rfl rfl) <| kra [] rfl <| kg ER rfl (fun (o2 : Bool) => ⟨[(4, (Bo o2))], [], 9⟩) (rd 2 [(5, (s8 a0)), (6, (V.fn a1_fid [] [V.pro a1_c0]))] rfl rfl <| rp rfl (d7 rfl rfl rfl rfl rfl (fe k a0 a1 a1_fid a1_c0 a1_hok) (.inl rfl)) fun v1 => b4 rfl) fun o2 => et i1 ?_
  rfl
def iJ : Bool → V × List V := fun r => ((Bo r), [])
theorem jB (k : Nat) (a0 : j1) (a1 : j1) : EV k 85 [(s5 a0), (Pr (s5 a1))] = (S4 k a0 a1).map iJ := by
 cases k with
 | zero => rfl
 | succ k =>
  unfold S4
  refine et (i5 (c := f85c) (N := 9) (regs := HL) rfl func85 rfl (by decide) rfl rfl rfl) <| kr ⟨[(1, (Pr (s5 a1))), (2, (Pt 2))], [(2, vS 4 (s5 a0))], 9⟩ rfl <| kr ⟨[(3, (Bo (a0.fName == a1.fName)))], [], 9⟩ rfl <| et i1 ?_
  rfl
def aJ : Bool → V × List V := fun r => ((Bo r), [])
theorem iK (k : Nat) (a0 : (List j1)) (a1 : (List b8))  (K0 : Int → Option Bool) (Kst : X × St → Option (V × List V)) (hK0 : ∀ (y0 : Int), Kst (X.exit 0, ⟨[(0, (s8 a0)), (1, (l7 a1)), (8, (s8 a0)), (9, (I (a0.length : Int))), (10, (I y0)), (11, (Bo false))], [], 73⟩) = (K0 y0).map aJ) (hret : ∀ s, Kst (X.ret, s) = F3 prog 73 [(s8 a0), (l7 a1)] [] [.tmp 4] (X.ret, s)) :
  ∀ (m : Nat) (x11 : Int), (D1 (u0 prog (EV k) FG k Dz) m ⟨[(0, (s8 a0)), (1, (l7 a1)), (8, (s8 a0)), (9, (I (a0.length : Int))), (10, (I x11))], [], 73⟩).bind Kst = (F1 k a0 a1 K0 m x11).map aJ := by
 intro m
 induction m with
 | zero => intros; rfl
 | succ m ih =>
  intro x11
  unfold F1
  refine et l9 <| kra [(11, (Bo (decide (x11 < (a0.length : Int)))))] rfl <| kc rfl rfl (fun hc => ?_) fun hc => ?_
  ·rw [hc]
   refine et d6 <| et (i8 rfl) <| kg Dv rfl (fun (o13 : Int × j1) => ⟨[(0, (s8 a0)), (1, (l7 a1)), (5, (I o13.1)), (6, (Pt 6)), (8, (s8 a0)), (9, (I (a0.length : Int))), (10, (I x11))], [(6, vS 4 (s5 o13.2))], 73⟩) (rd 1 [(12, (I x11))] rfl rfl <| rp rfl (i2 (e := s5) rfl rfl rfl underlying23 rfl (by decide)) fun v12 => b4 rfl) fun o13 => et b5 <| kg Dw rfl (fun (o17 : Bool) => ⟨[(0, (s8 a0)), (1, (l7 a1)), (6, (Pt 6)), (8, (s8 a0)), (9, (I (a0.length : Int))), (10, (I x11)), (43, (Bo o17))], [(6, vS 4 (s5 o13.2))], 73⟩) ?_ fun o17 => ?_
   ·refine rd 2 [(15, (Pt 6)), (16, (Sr o13.2.fName))] rfl rfl <| rp rfl (d7 rfl rfl rfl rfl rfl (ck k o13.2.fName) (.inl rfl)) fun v14 => bd 5 [(17, (Bo v14)), (18, (Bo (!v14))), (19, (Bo (!v14)))] rfl rfl <| n5 (fun hc => ?_) fun hc => ?_
    ·rw [hc]
     exact d5 rfl
    ·rw [hc]
     refine rd 10 [(20, (V.ptr 6 0 1)), (21, (I o13.2.fType)), (22, (Bo (decide (o13.2.fType < 0)))), (23, (Bo (decide (o13.2.fType < 0)))), (24, (Bo (decide (o13.2.fType < 0))))] rfl rfl <| n5 (fun hc => ?_) fun hc => ?_
     ·rw [hc]
      exact d5 rfl
     ·rw [hc]
      refine rd 13 [(25, (V.ptr 6 0 1)), (26, (I o13.2.fType)), (27, (l7 a1))] rfl rfl <| rl rfl (n7 (e := j0) rfl rfl rfl rfl rfl rfl underlying22) <| bd 17 [(28, (I (a1.length : Int))), (29, (Bo (decide (o13.2.fType ≥ (a1.length : Int))))), (30, (Bo (decide (o13.2.fType ≥ (a1.length : Int))))), (31, (Bo (decide (o13.2.fType ≥ (a1.length : Int)))))] rfl rfl <| n5 (fun hc => ?_) fun hc => ?_
      ·rw [hc]
       exact d5 rfl
      ·rw [hc]
       refine rd 23 [(32, (V.ptr 6 0 3)), (33, (Sr o13.2.fSparse)), (34, (I (o13.2.fSparse.length : Int))), (35, (Bo (decide ((o13.2.fSparse.length : Int) > 1)))), (36, (Bo (decide ((o13.2.fSparse.length : Int) > 1)))), (37, (Bo (decide ((o13.2.fSparse.length : Int) > 1))))] rfl rfl <| n5 (fun hc => ?_) fun hc => ?_
       ·rw [hc]
        exact d5 rfl
       ·rw [hc]
        exact rd 25 [(38, (s8 a0)), (39, (I o13.1))] rfl rfl <| rp rfl (sm (e := s5) rfl rfl rfl rfl rfl rfl underlying23 rfl (by decide)) fun v15 => bd 27 [(40, (s8 v15)), (41, (V.fn 85 [] [(Pt 6)]))] rfl rfl <| rs rfl (d7 rfl rfl rfl rfl rfl (cX k v15 (fun j x0 => (S4 j x0 o13.2)) 85 (s5 o13.2) (fun j x0 => (jB j x0 o13.2))) (.inr (fun _ => rfl))) fun v16 => b4 rfl
   refine kc rfl rfl (fun hc => ?_) fun hc => ?_
   ·rw [hc]
    refine et b5 <| kr ⟨[(4, (Bo false))], [], 73⟩ rfl <| et n6 <| et l5 <| et l8 <| et (hret _) ?_
    rfl
   ·rw [hc]
    refine et d6 <| kg Dx rfl (fun (o19 : (List i4)) => ⟨[(0, (s8 a0)), (1, (l7 a1)), (6, (Pt 6)), (7, (k0 o19)), (8, (s8 a0)), (9, (I (a0.length : Int))), (10, (I x11))], [(6, vS 4 (s5 o13.2))], 73⟩) (rd 3 [(44, (l7 a1)), (45, (V.ptr 6 0 1)), (46, (I o13.2.fType))] rfl rfl <| rp rfl (i2 (e := j0) rfl rfl rfl underlying22 rfl (by decide)) fun v18 => b4 rfl) fun o19 => kg Dy rfl (fun (o21 : Bool) => ⟨[(0, (s8 a0)), (1, (l7 a1)), (8, (s8 a0)), (9, (I (a0.length : Int))), (10, (I x11)), (68, (Bo o21))], [], 73⟩) ?_ fun o21 => ?_
    ·refine rd 4 [(50, (V.ptr 6 0 2)), (51, (I o13.2.fField)), (52, (Bo (decide (o13.2.fField < 0)))), (53, (Bo (decide (o13.2.fField < 0))))] rfl rfl <| n5 (fun hc => ?_) fun hc => ?_
     ·rw [hc]
      exact d5 rfl
     ·rw [hc]
      refine rd 7 [(54, (V.ptr 6 0 2)), (55, (I o13.2.fField)), (56, (k0 o19))] rfl rfl <| rl rfl (n7 (e := l6) rfl rfl rfl rfl rfl rfl underlying46) <| bd 11 [(57, (I (o19.length : Int))), (58, (Bo (decide (o13.2.fField ≥ (o19.length : Int))))), (59, (Bo (decide (o13.2.fField ≥ (o19.length : Int))))), (60, (Bo (decide (o13.2.fField ≥ (o19.length : Int)))))] rfl rfl <| n5 (fun hc => ?_) fun hc => ?_
      ·rw [hc]
       exact d5 rfl
      ·rw [hc]
       exact rd 14 [(61, (k0 o19)), (62, (V.ptr 6 0 2)), (63, (I o13.2.fField))] rfl rfl <| rp rfl (i2 (e := l6) rfl rfl rfl underlying46 rfl (by decide)) fun v20 => b4 rfl
    refine kcl rfl rfl (fun hc => ?_) fun hc => ?_
    ·rw [hc]
     refine kr ⟨[(4, (Bo false))], [], 73⟩ rfl <| et i1 <| et l5 <| et l8 <| et (hret _) ?_
     rfl
    ·rw [hc]
     exact et m9 <| et i6 <| kl ⟨[(0, (s8 a0)), (1, (l7 a1)), (8, (s8 a0)), (9, (I (a0.length : Int))), (10, (I (Go.IntKind.wrap .i64 (x11 + 1))))], [], 73⟩ rfl <| et i3 <| ih (Go.IntKind.wrap .i64 (x11 + 1))
  ·rw [hc]
   exact et p7 <| et j3 <| hK0 x11
theorem la (k : Nat) (a0 : (List j1)) (a1 : (List b8)) : EV k 52 [(s8 a0), (l7 a1)] = (W9 k a0 a1).map aJ := by
 cases k with
 | zero => rfl
 | succ k =>
  unfold W9
  refine et (i5 (c := f52c) (N := 73) (regs := FG) rfl func52 rfl (by decide) rfl rfl rfl) <| kra [] rfl <| et b5 <| krp Du rfl ⟨[(0, (s8 a0)), (1, (l7 a1)), (8, (s8 a0)), (9, (I (a0.length : Int))), (10, (I 0))], [], 73⟩ ?_ ?_
  ·exact rd 1 [(8, (s8 a0))] rfl rfl <| rl rfl (n7 (e := s5) rfl rfl rfl rfl rfl rfl underlying23) <| b4 rfl
  refine et (i8 rfl) <| et p8 ?_
  refine iK k a0 a1 _ _ ?h_dbd_areIndexes_L1_0 ?hr_dbd_areIndexes_L1 k 0
  ·intro y22
   refine et j6 <| krp yW rfl ⟨[(4, (Bo (decide ((a0.length : Int) ≤ 3))))], [], 73⟩ ?_ ?_
   ·exact rd 1 [(70, (s8 a0))] rfl rfl <| rl rfl (n7 (e := s5) rfl rfl rfl rfl rfl rfl underlying23) <| b4 rfl
   refine et i1 ?_
   rfl
  ·intro s; exact rfl
def qd : Bool → V × List V := fun r => ((Bo r), [])
theorem gD (k : Nat) (a0 : a8) : EV k 28 [(b6 a0)] = (bK k a0).map qd := by
 cases k with
 | zero => rfl
 | succ k =>
  unfold bK
  refine et (i5 (c := f28c) (N := 28) (regs := GY) rfl func28 rfl (by decide) rfl rfl rfl) <| kr ⟨[(1, (Pt 1))], [(1, vS 4 (b6 a0))], 28⟩ rfl <| kg Ck rfl (fun (o4 : Bool) => ⟨[(2, (Bo o4))], [], 28⟩) ?_ fun o4 => ?_
  ·refine rd 2 [(3, (Pt 1)), (4, (Sr a0.fName))] rfl rfl <| rp rfl (d7 rfl rfl rfl rfl rfl (ck k a0.fName) (.inl rfl)) fun v1 => bd 4 [(5, (Bo v1)), (6, (Bo v1))] rfl rfl <| n5 (fun hc => ?_) fun hc => ?_
   ·rw [hc]
    refine rd 9 [(7, (V.ptr 1 0 1)), (8, (I a0.fKind)), (9, (Bo (decide (a0.fKind ≥ 1)))), (10, (Bo (decide (a0.fKind ≥ 1)))), (11, (Bo (decide (a0.fKind ≥ 1))))] rfl rfl <| n5 (fun hc => ?_) fun hc => ?_
    ·rw [hc]
     refine rd 14 [(12, (V.ptr 1 0 1)), (13, (I a0.fKind)), (14, (Bo (decide (a0.fKind ≤ 4)))), (15, (Bo (decide (a0.fKind ≤ 4)))), (16, (Bo (decide (a0.fKind ≤ 4))))] rfl rfl <| n5 (fun hc => ?_) fun hc => ?_
     ·rw [hc]
      refine rd 16 [(17, (V.ptr 1 0 2)), (18, (l7 a0.fTypes))] rfl rfl <| rp rfl (d7 rfl rfl rfl rfl rfl (nT k a0.fTypes) (.inl rfl)) fun v2 => bd 19 [(19, (Bo v2)), (20, (Bo v2)), (21, (Bo v2))] rfl rfl <| n5 (fun hc => ?_) fun hc => ?_
      ·rw [hc]
       exact rd 23 [(22, (V.ptr 1 0 3)), (23, (s8 a0.fIndexes)), (24, (V.ptr 1 0 2)), (25, (l7 a0.fTypes))] rfl rfl <| rs rfl (d7 rfl rfl rfl rfl rfl (la k a0.fIndexes a0.fTypes) (.inl rfl)) fun v3 => b4 rfl
      ·rw [hc]
       exact d5 rfl
     ·rw [hc]
      exact d5 rfl
    ·rw [hc]
     exact d5 rfl
   ·rw [hc]
    exact d5 rfl
  refine et i1 ?_
  rfl
def iw : Int → V × List V := fun r => (I r, [])
theorem dd (k : Nat) (s : Str) (n : Int) : EV k 35 [(Sr s), (V.int .u8 n)] = (strings_IndexByte k s n).map iw := by
 cases k with
 | zero => rfl
 | succ k => exact (lf (ext := ext) (f := 35) rfl).trans rfl
def ch : Bool → V × List V := fun r => ((Bo r), [])
theorem kJ (k : Nat) (a0 : Str)  (K0 : Int → Int → Option Bool) (Kst : X × St → Option (V × List V)) (hK0 : ∀ (y0 : Int) (y1 : Int), Kst (X.exit 0, ⟨[(0, (Sr a0)), (3, (I y0)), (7, (I (a0.length : Int))), (8, (I y1)), (9, (Bo false))], [], 24⟩) = (K0 y0 y1).map ch) (hret : ∀ s, Kst (X.ret, s) = F3 prog 24 [(Sr a0)] [] [.tmp 2] (X.ret, s)) :
  ∀ (m : Nat) (x5 : Int) (x6 : Int), (D1 (u0 prog (EV k) FU k Fk) m ⟨[(0, (Sr a0)), (3, (I x5)), (7, (I (a0.length : Int))), (8, (I x6))], [], 24⟩).bind Kst = (J4 k a0 K0 m x5 x6).map ch := by
 intro m
 induction m with
 | zero => intros; rfl
 | succ m ih =>
  intro x5 x6
  unfold J4
  refine et l9 <| kra [(9, (Bo (decide (x6 < (a0.length : Int)))))] rfl <| kc rfl rfl (fun hc => ?_) fun hc => ?_
  ·rw [hc]
   refine et d6 <| et (i8 rfl) <| kr ⟨[(0, (Sr a0)), (3, (I x5)), (4, (I x6)), (7, (I (a0.length : Int))), (8, (I x6))], [], 24⟩ rfl <| kd Fj rfl (fun (o10 : Int) => ⟨[(0, (Sr a0)), (3, (I x5)), (5, (I o10)), (7, (I (a0.length : Int))), (8, (I x6))], [], 24⟩) (et (j2 (p := 7) (dk := true) (t := [(0, (Sr a0)), (3, (I x5)), (4, (I x6)), (7, (I (a0.length : Int))), (8, (I x6))]) (σ := []) (n := 24) rfl (by decide) (by decide) rfl) <| et (j8 (m := 1) (j := 1) (t' := [(0, (Sr a0)), (3, (I x5)), (4, (I x6)), (7, (I (a0.length : Int))), (8, (I x6)), (11, (I x5))]) rfl rfl rfl) <| et (c8 (x := (cut ([68, 76, 80] : Str) x5 (([68, 76, 80] : Str).length : Int))) (w := fun v7 => (Sr v7)) rfl rfl rfl rfl rfl (w6 rfl rfl rfl rfl rfl rfl underlying9)) <| j5 fun v7 => et (i7 (m := 2) (j := 4) (t' := [(0, (Sr a0)), (3, (I x5)), (4, (I x6)), (7, (I (a0.length : Int))), (8, (I x6)), (11, (I x5)), (12, (Sr v7)), (13, (Sr a0)), (14, (I x6))]) rfl rfl rfl) <| et (c8 (x := (J5 a0 x6)) (w := fun v8 => (V.int .u8 v8)) rfl rfl rfl rfl rfl (w5 rfl rfl rfl underlying9)) <| j5 fun v8 => et (i7 (m := 0) (j := 5) (t' := [(0, (Sr a0)), (3, (I x5)), (4, (I x6)), (7, (I (a0.length : Int))), (8, (I x6)), (11, (I x5)), (12, (Sr v7)), (13, (Sr a0)), (14, (I x6)), (15, (V.int .u8 v8))]) rfl rfl rfl) <| et (c8 (x := (strings_IndexByte k v7 v8)) (w := fun v9 => (I v9)) rfl rfl rfl rfl rfl (d7 rfl rfl rfl rfl rfl (dd k v7 v8) (.inl rfl))) <| B6 fun v9 => j9 rfl) fun o10 => et b5 <| kra [(18, (Bo (decide (o10 < 0))))] rfl <| kc rfl rfl (fun hc => ?_) fun hc => ?_
   ·rw [hc]
    refine et b5 <| kr ⟨[(2, (Bo false))], [], 24⟩ rfl <| et n6 <| et l5 <| et l8 <| et (hret _) ?_
    rfl
   ·rw [hc]
    exact et d6 <| kl ⟨[(0, (Sr a0)), (3, (I (Go.IntKind.wrap .i64 (x5 + (Go.IntKind.wrap .i64 (o10 + 1)))))), (7, (I (a0.length : Int))), (8, (I x6))], [], 24⟩ rfl <| et i6 <| kl ⟨[(0, (Sr a0)), (3, (I (Go.IntKind.wrap .i64 (x5 + (Go.IntKind.wrap .i64 (o10 + 1)))))), (7, (I (a0.length : Int))), (8, (I (Go.IntKind.wrap .i64 (x6 + 1))))], [], 24⟩ rfl <| et i3 <| ih (Go.IntKind.wrap .i64 (x5 + (Go.IntKind.wrap .i64 (o10 + 1)))) (Go.IntKind.wrap .i64 (x6 + 1))
  ·rw [hc]
   exact et p7 <| et j3 <| hK0 x5 x6
theorem dH (k : Nat) (a0 : Str) : EV k 97 [(Sr a0)] = (dX k a0).map ch := by
 cases k with
 | zero => rfl
 | succ k =>
  unfold dX
  refine et (i5 (c := f97c) (N := 24) (regs := FU) rfl func97 rfl (by decide) rfl rfl rfl) <| kra [] rfl <| kra [(3, (I 0))] rfl <| et b5 <| kra [(7, (I (a0.length : Int))), (8, (I 0))] rfl <| et (i8 rfl) <| et p8 ?_
  refine kJ k a0 _ _ ?h_ssa_areCodes_L1_0 ?hr_ssa_areCodes_L1 k 0 0
  ·intro y11 y12
   refine et j6 <| kr ⟨[(2, (Bo true))], [], 24⟩ rfl <| et i1 ?_
   rfl
  ·intro s; exact rfl
def R4 : Int → V × List V := fun r => ((I r), [])
theorem fg (k : Nat) (a0 : (List Int)) (a1 : Nat → Int → Option Bool) (a1_fid : Go.FuncId) (a1_c0 : V) (a1_hok : ∀ j x0, EV j a1_fid [(I x0), V.pro a1_c0] = (a1 j x0).map fun b => ((Bo b), [])) (K0 : Int → Option Int) (Kst : X × St → Option (V × List V)) (hK0 : ∀ (y0 : Int), Kst (X.exit 0, ⟨[(0, (sI a0)), (1, (V.fn a1_fid [] [V.pro a1_c0])), (7, (I (a0.length : Int))), (8, (I y0)), (9, (Bo false))], [], 19⟩) = (K0 y0).map R4) (hret : ∀ s, Kst (X.ret, s) = F3 prog 19 [(sI a0), (V.fn a1_fid [] [V.pro a1_c0])] [] [.tmp 4] (X.ret, s)) :
  ∀ (m : Nat) (x4 : Int), (D1 (u0 prog (EV k) yi k yh) m ⟨[(0, (sI a0)), (1, (V.fn a1_fid [] [V.pro a1_c0])), (7, (I (a0.length : Int))), (8, (I x4))], [], 19⟩).bind Kst = (E8 k a0 a1 K0 m x4).map R4 := by
 intro m
 induction m with
 | zero => intros; rfl
 | succ m ih =>
  intro x4
  unfold E8
  refine et l9 <| kra [(9, (Bo (decide (x4 < (a0.length : Int)))))] rfl <| kc rfl rfl (fun hc => ?_) fun hc => ?_
  ·rw [hc]
   refine et d6 <| et (i8 rfl) <| kr ⟨[(0, (sI a0)), (1, (V.fn a1_fid [] [V.pro a1_c0])), (5, (I x4)), (7, (I (a0.length : Int))), (8, (I x4))], [], 19⟩ rfl <| kga yg rfl (fun (o7 : Bool) => [(16, (Bo o7))]) (rd 3 [(11, (V.fn a1_fid [] [V.pro a1_c0])), (12, (sI a0)), (13, (I x4))] rfl rfl <| rp rfl (i2 (e := I) rfl rfl rfl underlying58 rfl (by decide)) fun v5 => bd 5 [(14, (Pr (I v5))), (15, (I v5))] rfl rfl <| rs rfl (d7 rfl rfl rfl rfl rfl (a1_hok k v5) (.inl rfl)) fun v6 => b4 rfl) fun o7 => kcl rfl rfl (fun hc => ?_) fun hc => ?_
   ·rw [hc]
    refine kr ⟨[(4, (I x4))], [], 19⟩ rfl <| et i1 <| et l5 <| et l8 <| et (hret _) ?_
    rfl
   ·rw [hc]
    exact et m9 <| et i6 <| kl ⟨[(0, (sI a0)), (1, (V.fn a1_fid [] [V.pro a1_c0])), (7, (I (a0.length : Int))), (8, (I (Go.IntKind.wrap .i64 (x4 + 1))))], [], 19⟩ rfl <| et i3 <| ih (Go.IntKind.wrap .i64 (x4 + 1))
  ·rw [hc]
   exact et p7 <| et j3 <| hK0 x4
theorem gr (k : Nat) (a0 : (List Int)) (a1 : Nat → Int → Option Bool) (a1_fid : Go.FuncId) (a1_c0 : V) (a1_hok : ∀ j x0, EV j a1_fid [(I x0), V.pro a1_c0] = (a1 j x0).map fun b => ((Bo b), [])) : EV k 132 [(sI a0), (V.fn a1_fid [] [V.pro a1_c0])] = (Q2 k a0 a1).map R4 := by
 cases k with
 | zero => rfl
 | succ k =>
  unfold Q2
  refine et (i5 (c := GR) (N := 19) (regs := yi) rfl func132 rfl (by decide) rfl rfl rfl) <| kra [] rfl <| et b5 <| krp yf rfl ⟨[(0, (sI a0)), (1, (V.fn a1_fid [] [V.pro a1_c0])), (7, (I (a0.length : Int))), (8, (I 0))], [], 19⟩ ?_ ?_
  ·exact rd 1 [(6, (sI a0))] rfl rfl <| rl rfl (n7 (e := I) rfl rfl rfl rfl rfl rfl underlying58) <| b4 rfl
  refine et (i8 rfl) <| et p8 ?_
  refine fg k a0 a1 a1_fid a1_c0 a1_hok _ _ ?h_slices_IndexFunc_int_L1_0 ?hr_slices_IndexFunc_int_L1 k 0
  ·intro y8
   refine et j6 <| kr ⟨[(4, (I (-1)))], [], 19⟩ rfl <| et i1 ?_
   rfl
  ·intro s; exact rfl
def dU : Bool → V × List V := fun r => ((Bo r), [])
theorem fc (k : Nat) (a0 : (List Int)) (a1 : Nat → Int → Option Bool) (a1_fid : Go.FuncId) (a1_c0 : V) (a1_hok : ∀ j x0, EV j a1_fid [(I x0), V.pro a1_c0] = (a1 j x0).map fun b => ((Bo b), [])) : EV k 118 [(sI a0), (V.fn a1_fid [] [V.pro a1_c0])] = (B7 k a0 a1).map dU := by
 cases k with
 | zero => rfl
 | succ k =>
  unfold B7
  refine et (i5 (c := GE) (N := 9) (regs := BC) rfl func118 rfl (by decide) rfl rfl rfl) <| kra [] rfl <| kg xF rfl (fun (o2 : Bool) => ⟨[(4, (Bo o2))], [], 9⟩) (rd 2 [(5, (sI a0)), (6, (V.fn a1_fid [] [V.pro a1_c0]))] rfl rfl <| rp rfl (d7 rfl rfl rfl rfl rfl (gr k a0 a1 a1_fid a1_c0 a1_hok) (.inl rfl)) fun v1 => b4 rfl) fun o2 => et i1 ?_
  rfl
def nU : Bool → V × List V := fun r => ((Bo r), [])
theorem oK (k : Nat) (a0 : Int) (a1 : a8) : EV k 119 [(I a0), (Pr (b6 a1))] = (aP k a0 a1).map nU := by
 cases k with
 | zero => rfl
 | succ k =>
  unfold aP
  refine et (i5 (c := GF) (N := 13) (regs := BD) rfl func119 rfl (by decide) rfl rfl rfl) <| kra [] rfl <| kg xG rfl (fun (o1 : Bool) => ⟨[(3, (Bo o1))], [], 13⟩) ?_ fun o1 => ?_
  ·refine rd 3 [(4, (I a0)), (5, (Bo (decide (a0 < 0)))), (6, (Bo (decide (a0 < 0))))] rfl rfl <| n5 (fun hc => ?_) fun hc => ?_
   ·rw [hc]
    exact d5 rfl
   ·rw [hc]
    exact rd 6 [(7, (I a0)), (8, (Pr (l7 a1.fTypes))), (9, (l7 a1.fTypes))] rfl rfl <| rl rfl (n7 (e := j0) rfl rfl rfl rfl rfl rfl underlying22) <| b4 rfl
  refine et i1 ?_
  rfl
def qe : Int → V × List V := fun r => ((I r), [])
theorem gE (k : Nat) (a0 : a8) (a1 : (List Int)) : EV k 90 [(b6 a0), (sI a1)] = (bM k a0 a1).map qe := by
 cases k with
 | zero => rfl
 | succ k =>
  unfold bM
  refine et (i5 (c := f90c) (N := 13) (regs := HP) rfl func90 rfl (by decide) rfl rfl rfl) <| kr ⟨[(1, (sI a1)), (2, (Pt 2))], [(2, vS 4 (b6 a0))], 13⟩ rfl <| et (i8 rfl) <| kga ES rfl (fun (o2 : Bool) => [(5, (Bo o2))]) (rd 1 [(6, (b6 a0))] rfl rfl <| rp rfl (d7 rfl rfl rfl rfl rfl (gD k a0) (.inl rfl)) fun v1 => b4 rfl) fun o2 => kcl rfl rfl (fun hc => ?_) fun hc => ?_
  ·rw [hc]
   refine kr ⟨[(4, (I 100))], [], 13⟩ rfl <| et i1 <| et l5 ?_
   rfl
  ·rw [hc]
   refine kg ET rfl (fun (o4 : Bool) => ⟨[(9, (Bo o4))], [], 13⟩) (rd 2 [(10, (sI a1)), (11, (V.fn 119 [] [(Pt 2)]))] rfl rfl <| rs rfl (d7 rfl rfl rfl rfl rfl (fc k a1 (fun j x0 => (aP j x0 a0)) 119 (b6 a0) (fun j x0 => (oK j x0 a0))) (.inr (fun _ => rfl))) fun v3 => b4 rfl) fun o4 => kcl rfl rfl (fun hc => ?_) fun hc => ?_
   ·rw [hc]
    refine kr ⟨[(4, (I 2))], [], 13⟩ rfl <| et i1 <| et l5 ?_
    rfl
   ·rw [hc]
    refine et m9 <| et i6 <| kr ⟨[(4, (I 0))], [], 13⟩ rfl <| et i1 ?_
    rfl
def oJ : Bool → V × List V := fun r => ((Bo r), [])
theorem qc (k : Nat) (a0 : b8) (a1 : Str) : EV k 93 [(j0 a0), (Pr (Sr a1))] = (ex k a0 a1).map oJ := by
 cases k with
 | zero => rfl
 | succ k =>
  unfold ex
  refine et (i5 (c := f93c) (N := 8) (regs := HR) rfl func93 rfl (by decide) rfl rfl rfl) <| kr ⟨[(1, (Pr (Sr a1))), (2, (Pt 2))], [(2, vS 8 (j0 a0))], 8⟩ rfl <| kr ⟨[(3, (Bo (a0.fName == a1)))], [], 8⟩ rfl <| et i1 ?_
  rfl
def qf : (Int × Int) → V × List V := fun r => (.tup [(I r.1), (I r.2)], [])
theorem rN (k : Nat) (a0 : Int) : EV k 91 [(I a0)] = (ge k a0).map qf := by
 cases k with
 | zero => rfl
 | succ k =>
  unfold ge
  refine et (i5 (c := f91c) (N := 7) (regs := HQ) rfl func91 rfl (by decide) rfl rfl rfl) <| kra [] rfl <| et b5 <| kra [(5, (Bo (decide (a0 < 0))))] rfl <| kc rfl rfl (fun hc => ?_) fun hc => ?_
  ·rw [hc]
   refine et b5 <| kr ⟨[(2, (I 0)), (3, (I 5))], [], 7⟩ rfl <| et n6 ?_
   rfl
  ·rw [hc]
   refine et d6 <| kr ⟨[(2, (I a0)), (3, (I 0))], [], 7⟩ rfl <| et i1 ?_
   rfl
def rL : (Int × Int) → V × List V := fun r => (.tup [(I r.1), (I r.2)], [])
theorem iI (k : Nat) (a0 : a8) (a1 : Str) : EV k 54 [(b6 a0), (Sr a1)] = (cy k a0 a1).map rL := by
 cases k with
 | zero => rfl
 | succ k =>
  unfold cy
  refine et (i5 (c := f54c) (N := 19) (regs := Hk) rfl func54 rfl (by decide) rfl rfl rfl) <| kr ⟨[(2, (Pt 2)), (3, (Pt 3))], [(2, vS 4 (b6 a0)), (3, vS 1 (Sr a1))], 19⟩ rfl <| et b5 <| kga DA rfl (fun (o2 : Int) => [(6, (I o2))]) (rd 1 [(7, (b6 a0))] rfl rfl <| rs rfl (d7 rfl rfl rfl rfl rfl (gE k a0 ([] : List Int)) (.inl rfl)) fun v1 => b4 rfl) fun o2 => et b5 <| kra [(10, (Bo (o2 != 0)))] rfl <| kc rfl rfl (fun hc => ?_) fun hc => ?_
  ·rw [hc]
   refine et b5 <| kr ⟨[(4, (I 0)), (5, (I o2))], [], 19⟩ rfl <| et n6 ?_
   rfl
  ·rw [hc]
   refine et d6 <| kg DB rfl (fun (o5 : Int × Int) => ⟨[(4, (I o5.1)), (5, (I o5.2))], [], 19⟩) (rd 3 [(12, (V.ptr 2 0 2)), (13, (l7 a0.fTypes)), (14, (V.fn 93 [] [(Pt 3)]))] rfl rfl <| rp rfl (d7 rfl rfl rfl rfl rfl (ax k a0.fTypes (fun j x0 => (ex j x0 a1)) 93 (Sr a1) (fun j x0 => (qc j x0 a1))) (.inr (fun _ => rfl))) fun v3 => bd 4 [(15, (I v3))] rfl rfl <| rp rfl (d7 rfl rfl rfl rfl rfl (rN k v3) (.inl rfl)) fun v4 => b4 rfl) fun o5 => et i1 ?_
   rfl
def hG : List Int → V × List V := fun r => (.tup [], [.sl 2 1 (List.map I r)])
theorem iv (k : Nat) (l : List Int) : EV k 135 [(V.sl 2 1 (List.map I l))] = (slices_Reverse_int k l).map hG := by
 cases k with
 | zero => rfl
 | succ k => exact (lf (ext := ext) (f := 135) rfl).trans (lg l)
def iL : (List Int) → V × List V := fun r => ((sI r), [])
theorem qh (k : Nat) (a0 : a8) (a1 : Int)  (K0 : Int → (List Int) → Option (List Int)) (Kst : X × St → Option (V × List V)) (hK0 : ∀ (y0 : Int) (y1 : (List Int)), Kst (X.exit 0, ⟨[(1, (I y0)), (2, (Pt 2)), (5, (aL 5 I y1)), (7, (Bo false))], [(2, vS 4 (b6 a0)), (5, ⟨true, 1, List.map I y1⟩)], 21⟩) = (K0 y0 y1).map iL) (hret : ∀ s, Kst (X.ret, s) = F3 prog 21 [(b6 a0), (I a1)] [] [.tmp 4] (X.ret, s)) :
  ∀ (m : Nat) (x5 : Int) (x6 : (List Int)), (D1 (u0 prog (EV k) xO k xN) m ⟨[(1, (I x5)), (2, (Pt 2)), (5, (aL 5 I x6))], [(2, vS 4 (b6 a0)), (5, ⟨true, 1, List.map I x6⟩)], 21⟩).bind Kst = (aK a0 K0 m x5 x6).map iL := by
 intro m
 induction m with
 | zero => intros; rfl
 | succ m ih =>
  intro x5 x6
  unfold aK
  refine et l9 <| et b5 <| kra [(7, (Bo (decide (x5 ≥ 0))))] rfl <| kc rfl rfl (fun hc => ?_) fun hc => ?_
  ·rw [hc]
   exact et d6 <| et (i8 rfl) <| kgl xK rfl (fun (o8 : (List Int)) => ⟨[(1, (I x5)), (2, (Pt 2)), (5, (aL 5 I o8))], [(2, vS 4 (b6 a0)), (5, ⟨true, 1, List.map I o8⟩)], 21⟩) (rd 3 [(14, (aL 5 I x6)), (15, (I x5)), (16, (sI (([x5] : List Int))))] rfl rfl <| et (Q1 (x := (app x6 ([x5] : List Int))) (w := fun v7 => ((aL 5 I v7), _)) rfl rfl rfl rfl (uX (e := I) (l := x6) rfl rfl rfl rfl rfl rfl rfl rfl rfl rfl rfl (of_decide_eq_true rfl))) <| B6 fun v7 => b4 rfl) fun o8 => et i6 <| kgl xJ rfl (fun (o10 : Int) => ⟨[(1, (I o10)), (2, (Pt 2)), (5, (aL 5 I o8))], [(2, vS 4 (b6 a0)), (5, ⟨true, 1, List.map I o8⟩)], 21⟩) (rd 3 [(8, (V.ptr 2 0 2)), (9, (l7 a0.fTypes)), (10, (I x5))] rfl rfl <| rp rfl (i2 (e := j0) rfl rfl rfl underlying22 rfl (by decide)) fun v9 => b4 rfl) fun o10 => et i3 <| ih o10 o8
  ·rw [hc]
   exact et p7 <| et j3 <| hK0 x5 x6
theorem oO (k : Nat) (a0 : a8) (a1 : Int) : EV k 122 [(b6 a0), (I a1)] = (js k a0 a1).map iL := by
 cases k with
 | zero => rfl
 | succ k =>
  unfold js
  refine et (i5 (c := GJ) (N := 21) (regs := xO) rfl func122 rfl (by decide) rfl rfl rfl) <| kr ⟨[(1, (I a1)), (2, (Pt 2))], [(2, vS 4 (b6 a0))], 21⟩ rfl <| kr ⟨[(1, (I a1)), (2, (Pt 2)), (5, (aL 5 I ([] : List Int)))], [(2, vS 4 (b6 a0)), (5, ⟨true, 1, List.map I ([] : List Int)⟩)], 21⟩ rfl <| et (i8 rfl) <| et p8 ?_
  refine qh k a0 a1 _ _ ?h_dbd_way_L1_0 ?hr_dbd_way_L1 k a1 ([] : List Int)
  ·intro y11 y12
   refine et j6 <| kg xL rfl (fun (o14 : (List Int)) => ⟨[(5, (aL 5 I o14))], [(5, ⟨true, 1, List.map I o14⟩)], 21⟩) (rd 1 [(18, (aL 5 I y12))] rfl rfl <| et (Q1 (x := ((slices_Reverse_int k y12).bind (cq y12))) (w := fun v13 => (V.tup [], _)) rfl rfl rfl rfl (Bd (S := (fun n_ => ⟨[(1, (I y11)), (2, (Pt 2)), (5, (V.aref 5 0 n_)), (7, (Bo false)), (18, (V.aref 5 0 n_))], [(2, vS 4 (b6 a0)), (5, ⟨true, 1, List.map I y12⟩)], 21⟩)) (e := I) rfl rfl rfl rfl rfl (Fv (e := I) rfl) rfl (iv k y12))) <| B6 fun v13 => b4 rfl) fun o14 => krp xM rfl ⟨[(4, (sI o14))], [], 21⟩ ?_ ?_
   ·exact rd 1 [(20, (aL 5 I o14))] rfl rfl <| et (Q1 (x := some ()) (w := fun _ => ((V.sl 2 1 (List.map I o14)), _)) rfl rfl rfl rfl (Be (e := I) rfl rfl rfl rfl rfl (of_decide_eq_true rfl))) <| et ag <| b4 rfl
   refine et i1 ?_
   rfl
  ·intro s; exact rfl
def gp : Bool → V × List V := fun r => ((Bo r), [])
theorem gZ (k : Nat) (a0 : (List Int)) (a1 : Int) : EV k 121 [(sI a0), (I a1)] = (J7 k a0 a1).map gp := by
 cases k with
 | zero => rfl
 | succ k =>
  unfold J7
  refine et (i5 (c := GI) (N := 9) (regs := BI) rfl func121 rfl (by decide) rfl rfl rfl) <| kra [] rfl <| kg xI rfl (fun (o2 : Bool) => ⟨[(4, (Bo o2))], [], 9⟩) (rd 2 [(5, (sI a0)), (6, (I a1))] rfl rfl <| rp rfl (d7 rfl rfl rfl rfl rfl (dL k a0 a1) (.inl rfl)) fun v1 => b4 rfl) fun o2 => et i1 ?_
  rfl
def nS : (Bool × Int) → V × List V := fun r => (.tup [(Bo r.1), (I r.2)], [])
theorem oI (k : Nat) (a0 : a8) (a1 : Int) (a2 : Int) : EV k 98 [(b6 a0), (I a1), (I a2)] = (cx k a0 a1 a2).map nS := by
 cases k with
 | zero => rfl
 | succ k =>
  unfold cx
  refine et (i5 (c := f98c) (N := 27) (regs := HS) rfl func98 rfl (by decide) rfl rfl rfl) <| kr ⟨[(1, (I a1)), (2, (I a2)), (3, (Pt 3))], [(3, vS 4 (b6 a0))], 27⟩ rfl <| et b5 <| kga Fl rfl (fun (o2 : Int) => [(8, (I o2))]) (rd 4 [(9, (b6 a0)), (10, (I a1)), (11, (I a2)), (12, (sI (([a1, a2] : List Int))))] rfl rfl <| rs rfl (d7 rfl rfl rfl rfl rfl (gE k a0 ([a1, a2] : List Int)) (.inl rfl)) fun v1 => b4 rfl) fun o2 => et b5 <| kra [(15, (Bo (o2 != 0)))] rfl <| kc rfl rfl (fun hc => ?_) fun hc => ?_
  ·rw [hc]
   refine et b5 <| kr ⟨[(6, (Bo false)), (7, (I o2))], [], 27⟩ rfl <| et n6 ?_
   rfl
  ·rw [hc]
   refine et d6 <| kg Fm rfl (fun (o5 : Bool × Int) => ⟨[(6, (Bo o5.1)), (7, (I o5.2))], [], 27⟩) ?_ fun o5 => ?_
   ·refine rd 4 [(17, (I a1)), (18, (I a2)), (19, (Bo (a1 != a2))), (20, (Bo (a1 != a2)))] rfl rfl <| n5 (fun hc => ?_) fun hc => ?_
    ·rw [hc]
     exact rd 6 [(21, (b6 a0)), (22, (I a2))] rfl rfl <| rp rfl (d7 rfl rfl rfl rfl rfl (oO k a0 a2) (.inl rfl)) fun v3 => bd 8 [(23, (sI v3)), (24, (I a1))] rfl rfl <| rp rfl (d7 rfl rfl rfl rfl rfl (gZ k v3 a1) (.inl rfl)) fun v4 => b4 rfl
    ·rw [hc]
     exact d5 rfl
   refine et i1 ?_
   rfl
def sR : ((List Int) × Int) → V × List V := fun r => (.tup [(sI r.1), (I r.2)], [])
theorem uh (k : Nat) (a0 : a8) (a1 : Int) : EV k 123 [(b6 a0), (I a1)] = (kZ k a0 a1).map sR := by
 cases k with
 | zero => rfl
 | succ k =>
  unfold kZ
  refine et (i5 (c := GK) (N := 17) (regs := BJ) rfl func123 rfl (by decide) rfl rfl rfl) <| kr ⟨[(1, (I a1)), (2, (Pt 2))], [(2, vS 4 (b6 a0))], 17⟩ rfl <| et b5 <| kga xP rfl (fun (o2 : Int) => [(6, (I o2))]) (rd 3 [(7, (b6 a0)), (8, (I a1)), (9, (sI (([a1] : List Int))))] rfl rfl <| rs rfl (d7 rfl rfl rfl rfl rfl (gE k a0 ([a1] : List Int)) (.inl rfl)) fun v1 => b4 rfl) fun o2 => et b5 <| kra [(12, (Bo (o2 != 0)))] rfl <| kc rfl rfl (fun hc => ?_) fun hc => ?_
  ·rw [hc]
   refine et b5 <| kr ⟨[(4, (sI (([] : List Int)))), (5, (I o2))], [], 17⟩ rfl <| et n6 ?_
   rfl
  ·rw [hc]
   refine et d6 <| kg xQ rfl (fun (o4 : (List Int) × Int) => ⟨[(4, (sI o4.1)), (5, (I o4.2))], [], 17⟩) (rd 2 [(14, (b6 a0)), (15, (I a1))] rfl rfl <| rp rfl (d7 rfl rfl rfl rfl rfl (oO k a0 a1) (.inl rfl)) fun v3 => b4 rfl) fun o4 => et i1 ?_
   rfl
def qb : (Int × Int) → V × List V := fun r => (.tup [(I r.1), (I r.2)], [])
theorem rK (k : Nat) (a0 : a8) (a1 : Int) : EV k 102 [(b6 a0), (I a1)] = (gd k a0 a1).map qb := by
 cases k with
 | zero => rfl
 | succ k =>
  unfold gd
  refine et (i5 (c := Gq) (N := 17) (regs := Bp) rfl func102 rfl (by decide) rfl rfl rfl) <| kr ⟨[(1, (I a1)), (2, (Pt 2))], [(2, vS 4 (b6 a0))], 17⟩ rfl <| kg wX rfl (fun (o2 : (List Int) × Int) => ⟨[(6, (sI o2.1)), (7, (I o2.2))], [], 17⟩) (rd 2 [(9, (b6 a0)), (10, (I a1))] rfl rfl <| rp rfl (d7 rfl rfl rfl rfl rfl (uh k a0 a1) (.inl rfl)) fun v1 => b4 rfl) fun o2 => krp wY rfl ⟨[(4, (I (o2.1.length : Int))), (5, (I o2.2))], [], 17⟩ ?_ ?_
  ·exact rd 1 [(14, (sI o2.1))] rfl rfl <| rl rfl (n7 (e := I) rfl rfl rfl rfl rfl rfl underlying58) <| b4 rfl
  refine et i1 ?_
  rfl
def nZ : Int → V × List V := fun r => ((I r), [])
theorem M6 (k : Nat) (a0 : a8) (a1 : Int) : EV k 71 [(b6 a0), (I a1)] = (X9 k a0 a1).map nZ := by
 cases k with
 | zero => rfl
 | succ k =>
  unfold X9
  refine et (i5 (c := f71c) (N := 14) (regs := Hx) rfl func71 rfl (by decide) rfl rfl rfl) <| kr ⟨[(1, (I a1)), (2, (Pt 2))], [(2, vS 4 (b6 a0))], 14⟩ rfl <| kg Ep rfl (fun (o2 : Int) => ⟨[(6, (I o2))], [], 14⟩) (rd 2 [(8, (b6 a0)), (9, (I a1))] rfl rfl <| rp rfl (d7 rfl rfl rfl rfl rfl (rK k a0 a1) (.inl rfl)) fun v1 => b4 rfl) fun o2 => kr ⟨[(4, (I o2))], [], 14⟩ rfl <| et i1 ?_
  rfl
def N6 : Int → V × List V := fun r => ((I r), [])
theorem dG (k : Nat) (a0 : (List (List a6))) (a1 : Nat → (List a6) → Option Bool) (a1_fid : Go.FuncId) (a1_c0 : V) (a1_hok : ∀ j x0, EV j a1_fid [(a7 x0), V.pro a1_c0] = (a1 j x0).map fun b => ((Bo b), [])) (K0 : Int → Option Int) (Kst : X × St → Option (V × List V)) (hK0 : ∀ (y0 : Int), Kst (X.exit 0, ⟨[(0, (V.sl 0 1 (List.map a7 a0))), (1, (V.fn a1_fid [] [V.pro a1_c0])), (7, (I (a0.length : Int))), (8, (I y0)), (9, (Bo false))], [], 19⟩) = (K0 y0).map N6) (hret : ∀ s, Kst (X.ret, s) = F3 prog 19 [(V.sl 0 1 (List.map a7 a0)), (V.fn a1_fid [] [V.pro a1_c0])] [] [.tmp 4] (X.ret, s)) :
  ∀ (m : Nat) (x4 : Int), (D1 (u0 prog (EV k) xU k xT) m ⟨[(0, (V.sl 0 1 (List.map a7 a0))), (1, (V.fn a1_fid [] [V.pro a1_c0])), (7, (I (a0.length : Int))), (8, (I x4))], [], 19⟩).bind Kst = (C9 k a0 a1 K0 m x4).map N6 := by
 intro m
 induction m with
 | zero => intros; rfl
 | succ m ih =>
  intro x4
  unfold C9
  refine et l9 <| kra [(9, (Bo (decide (x4 < (a0.length : Int)))))] rfl <| kc rfl rfl (fun hc => ?_) fun hc => ?_
  ·rw [hc]
   refine et d6 <| et (i8 rfl) <| kr ⟨[(0, (V.sl 0 1 (List.map a7 a0))), (1, (V.fn a1_fid [] [V.pro a1_c0])), (5, (I x4)), (7, (I (a0.length : Int))), (8, (I x4))], [], 19⟩ rfl <| kga xS rfl (fun (o7 : Bool) => [(16, (Bo o7))]) (rd 3 [(11, (V.fn a1_fid [] [V.pro a1_c0])), (12, (V.sl 0 1 (List.map a7 a0))), (13, (I x4))] rfl rfl <| rp rfl (i2 (e := a7) rfl rfl rfl underlying26 rfl (by decide)) fun v5 => bd 5 [(14, (Pr (a7 v5))), (15, (a7 v5))] rfl rfl <| rs rfl (d7 rfl rfl rfl rfl rfl (a1_hok k v5) (.inl rfl)) fun v6 => b4 rfl) fun o7 => kcl rfl rfl (fun hc => ?_) fun hc => ?_
   ·rw [hc]
    refine kr ⟨[(4, (I x4))], [], 19⟩ rfl <| et i1 <| et l5 <| et l8 <| et (hret _) ?_
    rfl
   ·rw [hc]
    exact et m9 <| et i6 <| kl ⟨[(0, (V.sl 0 1 (List.map a7 a0))), (1, (V.fn a1_fid [] [V.pro a1_c0])), (7, (I (a0.length : Int))), (8, (I (Go.IntKind.wrap .i64 (x4 + 1))))], [], 19⟩ rfl <| et i3 <| ih (Go.IntKind.wrap .i64 (x4 + 1))
  ·rw [hc]
   exact et p7 <| et j3 <| hK0 x4
theorem fj (k : Nat) (a0 : (List (List a6))) (a1 : Nat → (List a6) → Option Bool) (a1_fid : Go.FuncId) (a1_c0 : V) (a1_hok : ∀ j x0, EV j a1_fid [(a7 x0), V.pro a1_c0] = (a1 j x0).map fun b => ((Bo b), [])) : EV k 124 [(V.sl 0 1 (List.map a7 a0)), (V.fn a1_fid [] [V.pro a1_c0])] = (K6 k a0 a1).map N6 := by
 cases k with
 | zero => rfl
 | succ k =>
  unfold K6
  refine et (i5 (c := GL) (N := 19) (regs := xU) rfl func124 rfl (by decide) rfl rfl rfl) <| kra [] rfl <| et b5 <| krp xR rfl ⟨[(0, (V.sl 0 1 (List.map a7 a0))), (1, (V.fn a1_fid [] [V.pro a1_c0])), (7, (I (a0.length : Int))), (8, (I 0))], [], 19⟩ ?_ ?_
  ·exact rd 1 [(6, (V.sl 0 1 (List.map a7 a0)))] rfl rfl <| rl rfl (n7 (e := a7) rfl rfl rfl rfl rfl rfl underlying26) <| b4 rfl
  refine et (i8 rfl) <| et p8 ?_
  refine dG k a0 a1 a1_fid a1_c0 a1_hok _ _ ?h_slices_IndexFunc_TermL_L1_0 ?hr_slices_IndexFunc_TermL_L1 k 0
  ·intro y8
   refine et j6 <| kr ⟨[(4, (I (-1)))], [], 19⟩ rfl <| et i1 ?_
   rfl
  ·intro s; exact rfl
def cZ : Bool → V × List V := fun r => ((Bo r), [])
theorem dC (k : Nat) (a0 : (List (List a6))) (a1 : Nat → (List a6) → Option Bool) (a1_fid : Go.FuncId) (a1_c0 : V) (a1_hok : ∀ j x0, EV j a1_fid [(a7 x0), V.pro a1_c0] = (a1 j x0).map fun b => ((Bo b), [])) : EV k 104 [(V.sl 0 1 (List.map a7 a0)), (V.fn a1_fid [] [V.pro a1_c0])] = (A6 k a0 a1).map cZ := by
 cases k with
 | zero => rfl
 | succ k =>
  unfold A6
  refine et (i5 (c := Gs) (N := 9) (regs := Bq) rfl func104 rfl (by decide) rfl rfl rfl) <| kra [] rfl <| kg xe rfl (fun (o2 : Bool) => ⟨[(4, (Bo o2))], [], 9⟩) (rd 2 [(5, (V.sl 0 1 (List.map a7 a0))), (6, (V.fn a1_fid [] [V.pro a1_c0]))] rfl rfl <| rp rfl (d7 rfl rfl rfl rfl rfl (fj k a0 a1 a1_fid a1_c0 a1_hok) (.inl rfl)) fun v1 => b4 rfl) fun o2 => et i1 ?_
  rfl
def O5 : Int → V × List V := fun r => ((I r), [])
theorem dV (k : Nat) (a0 : (List a6)) (a1 : Nat → a6 → Option Bool) (a1_fid : Go.FuncId) (a1_c0 : V) (a1_hok : ∀ j x0, EV j a1_fid [(d4 x0), V.pro a1_c0] = (a1 j x0).map fun b => ((Bo b), [])) (K0 : Int → Option Int) (Kst : X × St → Option (V × List V)) (hK0 : ∀ (y0 : Int), Kst (X.exit 0, ⟨[(0, (a7 a0)), (1, (V.fn a1_fid [] [V.pro a1_c0])), (7, (I (a0.length : Int))), (8, (I y0)), (9, (Bo false))], [], 19⟩) = (K0 y0).map O5) (hret : ∀ s, Kst (X.ret, s) = F3 prog 19 [(a7 a0), (V.fn a1_fid [] [V.pro a1_c0])] [] [.tmp 4] (X.ret, s)) :
  ∀ (m : Nat) (x4 : Int), (D1 (u0 prog (EV k) xY k xX) m ⟨[(0, (a7 a0)), (1, (V.fn a1_fid [] [V.pro a1_c0])), (7, (I (a0.length : Int))), (8, (I x4))], [], 19⟩).bind Kst = (D6 k a0 a1 K0 m x4).map O5 := by
 intro m
 induction m with
 | zero => intros; rfl
 | succ m ih =>
  intro x4
  unfold D6
  refine et l9 <| kra [(9, (Bo (decide (x4 < (a0.length : Int)))))] rfl <| kc rfl rfl (fun hc => ?_) fun hc => ?_
  ·rw [hc]
   refine et d6 <| et (i8 rfl) <| kr ⟨[(0, (a7 a0)), (1, (V.fn a1_fid [] [V.pro a1_c0])), (5, (I x4)), (7, (I (a0.length : Int))), (8, (I x4))], [], 19⟩ rfl <| kga xW rfl (fun (o7 : Bool) => [(16, (Bo o7))]) (rd 3 [(11, (V.fn a1_fid [] [V.pro a1_c0])), (12, (a7 a0)), (13, (I x4))] rfl rfl <| rp rfl (i2 (e := d4) rfl rfl rfl underlying56 rfl (by decide)) fun v5 => bd 5 [(14, (Pr (d4 v5))), (15, (d4 v5))] rfl rfl <| rs rfl (d7 rfl rfl rfl rfl rfl (a1_hok k v5) (.inl rfl)) fun v6 => b4 rfl) fun o7 => kcl rfl rfl (fun hc => ?_) fun hc => ?_
   ·rw [hc]
    refine kr ⟨[(4, (I x4))], [], 19⟩ rfl <| et i1 <| et l5 <| et l8 <| et (hret _) ?_
    rfl
   ·rw [hc]
    exact et m9 <| et i6 <| kl ⟨[(0, (a7 a0)), (1, (V.fn a1_fid [] [V.pro a1_c0])), (7, (I (a0.length : Int))), (8, (I (Go.IntKind.wrap .i64 (x4 + 1))))], [], 19⟩ rfl <| et i3 <| ih (Go.IntKind.wrap .i64 (x4 + 1))
  ·rw [hc]
   exact et p7 <| et j3 <| hK0 x4
theorem fS (k : Nat) (a0 : (List a6)) (a1 : Nat → a6 → Option Bool) (a1_fid : Go.FuncId) (a1_c0 : V) (a1_hok : ∀ j x0, EV j a1_fid [(d4 x0), V.pro a1_c0] = (a1 j x0).map fun b => ((Bo b), [])) : EV k 125 [(a7 a0), (V.fn a1_fid [] [V.pro a1_c0])] = (N7 k a0 a1).map O5 := by
 cases k with
 | zero => rfl
 | succ k =>
  unfold N7
  refine et (i5 (c := GM) (N := 19) (regs := xY) rfl func125 rfl (by decide) rfl rfl rfl) <| kra [] rfl <| et b5 <| krp xV rfl ⟨[(0, (a7 a0)), (1, (V.fn a1_fid [] [V.pro a1_c0])), (7, (I (a0.length : Int))), (8, (I 0))], [], 19⟩ ?_ ?_
  ·exact rd 1 [(6, (a7 a0))] rfl rfl <| rl rfl (n7 (e := d4) rfl rfl rfl rfl rfl rfl underlying56) <| b4 rfl
  refine et (i8 rfl) <| et p8 ?_
  refine dV k a0 a1 a1_fid a1_c0 a1_hok _ _ ?h_slices_IndexFunc_Term_L1_0 ?hr_slices_IndexFunc_Term_L1 k 0
  ·intro y8
   refine et j6 <| kr ⟨[(4, (I (-1)))], [], 19⟩ rfl <| et i1 ?_
   rfl
  ·intro s; exact rfl
def dD : Bool → V × List V := fun r => ((Bo r), [])
theorem dS (k : Nat) (a0 : (List a6)) (a1 : Nat → a6 → Option Bool) (a1_fid : Go.FuncId) (a1_c0 : V) (a1_hok : ∀ j x0, EV j a1_fid [(d4 x0), V.pro a1_c0] = (a1 j x0).map fun b => ((Bo b), [])) : EV k 106 [(a7 a0), (V.fn a1_fid [] [V.pro a1_c0])] = (B1 k a0 a1).map dD := by
 cases k with
 | zero => rfl
 | succ k =>
  unfold B1
  refine et (i5 (c := Gu) (N := 9) (regs := Bs) rfl func106 rfl (by decide) rfl rfl rfl) <| kra [] rfl <| kg xg rfl (fun (o2 : Bool) => ⟨[(4, (Bo o2))], [], 9⟩) (rd 2 [(5, (a7 a0)), (6, (V.fn a1_fid [] [V.pro a1_c0]))] rfl rfl <| rp rfl (d7 rfl rfl rfl rfl rfl (fS k a0 a1 a1_fid a1_c0 a1_hok) (.inl rfl)) fun v1 => b4 rfl) fun o2 => et i1 ?_
  rfl
def lB : Bool → V × List V := fun r => ((Bo r), [])
theorem mU (k : Nat) (a0 : i4) (a1 : Str) : EV k 134 [(l6 a0), (Pr (Sr a1))] = (ao k a0 a1).map lB := by
 cases k with
 | zero => rfl
 | succ k =>
  unfold ao
  refine et (i5 (c := GT) (N := 8) (regs := BN) rfl func134 rfl (by decide) rfl rfl rfl) <| kr ⟨[(1, (Pr (Sr a1))), (2, (Pt 2))], [(2, vS 3 (l6 a0))], 8⟩ rfl <| kr ⟨[(3, (Bo (a0.fName == a1)))], [], 8⟩ rfl <| et i1 ?_
  rfl
def ob : (Int × Bool) → V × List V := fun r => (.tup [(I r.1), (Bo r.2)], [])
theorem Y0 (k : Nat) (a0 : b8) (a1 : Str) : EV k 120 [(j0 a0), (Sr a1)] = (aS k a0 a1).map ob := by
 cases k with
 | zero => rfl
 | succ k =>
  unfold aS
  refine et (i5 (c := GH) (N := 14) (regs := BH) rfl func120 rfl (by decide) rfl rfl rfl) <| kr ⟨[(2, (Pt 2)), (3, (Pt 3))], [(2, vS 8 (j0 a0)), (3, vS 1 (Sr a1))], 14⟩ rfl <| kg xH rfl (fun (o2 : Int) => ⟨[(6, (I o2))], [], 14⟩) (rd 3 [(7, (V.ptr 2 0 4)), (8, (k0 a0.fFields)), (9, (V.fn 134 [] [(Pt 3)]))] rfl rfl <| rs rfl (d7 rfl rfl rfl rfl rfl (ai k a0.fFields (fun j x0 => (ao j x0 a1)) 134 (Sr a1) (fun j x0 => (mU j x0 a1))) (.inr (fun _ => rfl))) fun v1 => b4 rfl) fun o2 => kr ⟨[(4, (I o2)), (5, (Bo (decide (o2 ≥ 0))))], [], 14⟩ rfl <| et i1 ?_
  rfl
def mV : Bool → V × List V := fun r => ((Bo r), [])
theorem dl (k : Nat) (a0 : b8) (a1 : a6) : EV k 108 [(j0 a0), (d4 a1)] = (bm k a0 a1).map mV := by
 cases k with
 | zero => rfl
 | succ k =>
  unfold bm
  refine et (i5 (c := Gw) (N := 37) (regs := Bu) rfl func108 rfl (by decide) rfl rfl rfl) <| kr ⟨[(2, (Pt 2)), (3, (Pt 3))], [(2, vS 8 (j0 a0)), (3, vS 3 (d4 a1))], 37⟩ rfl <| kga xi rfl (fun (o2 : Int × Bool) => [(5, (I o2.1)), (6, (Bo o2.2))]) (rd 3 [(8, (j0 a0)), (9, (Pt 3)), (10, (Sr a1.fField))] rfl rfl <| rp rfl (d7 rfl rfl rfl rfl rfl (Y0 k a0 a1.fField) (.inl rfl)) fun v1 => b4 rfl) fun o2 => kd xj rfl (fun (o4 : Bool) => ⟨[(4, (Bo o4))], [], 37⟩) ?_ fun o4 => ?_
  ·refine et (j2 (p := 24) (dk := true) (t := [(2, (Pt 2)), (3, (Pt 3)), (5, (I o2.1)), (6, (Bo o2.2))]) (σ := [(2, vS 8 (j0 a0)), (3, vS 3 (d4 a1))]) (n := 37) rfl (by decide) (by decide) rfl) <| et (j8 (m := 2) (j := 2) (t' := [(2, (Pt 2)), (3, (Pt 3)), (5, (I o2.1)), (6, (Bo o2.2)), (14, (Bo o2.2)), (15, (Bo o2.2))]) rfl rfl rfl) <| n5 (fun hc => ?_) fun hc => ?_
   ·rw [hc]
    refine et (j8 (m := 5) (j := 7) (t' := [(2, (Pt 2)), (3, (Pt 3)), (5, (I o2.1)), (6, (Bo true)), (14, (Bo true)), (15, (Bo true)), (16, (V.ptr 3 0 1)), (17, (I a1.fOp)), (18, (Bo (decide (a1.fOp ≥ 1)))), (19, (Bo (decide (a1.fOp ≥ 1)))), (20, (Bo (decide (a1.fOp ≥ 1))))]) rfl rfl rfl) <| n5 (fun hc => ?_) fun hc => ?_
    ·rw [hc]
     refine et (j8 (m := 5) (j := 12) (t' := [(2, (Pt 2)), (3, (Pt 3)), (5, (I o2.1)), (6, (Bo true)), (14, (Bo true)), (15, (Bo true)), (16, (V.ptr 3 0 1)), (17, (I a1.fOp)), (18, (Bo true)), (19, (Bo true)), (20, (Bo true)), (21, (V.ptr 3 0 1)), (22, (I a1.fOp)), (23, (Bo (decide (a1.fOp ≤ 6)))), (24, (Bo (decide (a1.fOp ≤ 6)))), (25, (Bo (decide (a1.fOp ≤ 6))))]) rfl rfl rfl) <| n5 (fun hc => ?_) fun hc => ?_
     ·rw [hc]
      exact et (j8 (m := 6) (j := 18) (t' := [(2, (Pt 2)), (3, (Pt 3)), (5, (I o2.1)), (6, (Bo true)), (14, (Bo true)), (15, (Bo true)), (16, (V.ptr 3 0 1)), (17, (I a1.fOp)), (18, (Bo true)), (19, (Bo true)), (20, (Bo true)), (21, (V.ptr 3 0 1)), (22, (I a1.fOp)), (23, (Bo true)), (24, (Bo true)), (25, (Bo true)), (26, (V.ptr 3 0 2)), (27, (Sr a1.fValue)), (28, (I (a1.fValue.length : Int))), (29, (V.ptr 2 0 4)), (30, (k0 a0.fFields)), (31, (I o2.1))]) rfl rfl rfl) <| et (c8 (x := (idx a0.fFields o2.1)) (w := fun v3 => (Pr (l6 v3))) rfl rfl rfl rfl rfl (i2 (e := l6) rfl rfl rfl underlying46 rfl (by decide))) <| j5 fun v3 => j9 rfl
     ·rw [hc]
      exact j9 rfl
    ·rw [hc]
     exact j9 rfl
   ·rw [hc]
    exact j9 rfl
  refine et i1 ?_
  rfl
def jD : Bool → V × List V := fun r => ((Bo r), [])
theorem kx (k : Nat) (a0 : a6) (a1 : b8) : EV k 107 [(d4 a0), (Pr (j0 a1))] = (O7 k a0 a1).map jD := by
 cases k with
 | zero => rfl
 | succ k =>
  unfold O7
  refine et (i5 (c := Gv) (N := 8) (regs := Bt) rfl func107 rfl (by decide) rfl rfl rfl) <| kr ⟨[(1, (Pr (j0 a1))), (2, (Pt 2))], [(2, vS 3 (d4 a0))], 8⟩ rfl <| kg xh rfl (fun (o2 : Bool) => ⟨[(3, (Bo o2))], [], 8⟩) (rd 2 [(4, (j0 a1)), (5, (d4 a0))] rfl rfl <| rp rfl (d7 rfl rfl rfl rfl rfl (dl k a1 a0) (.inl rfl)) fun v1 => b4 rfl) fun o2 => et i1 ?_
  rfl
def lC : Bool → V × List V := fun r => ((Bo r), [])
theorem bT (k : Nat) (a0 : (List a6)) (a1 : b8) : EV k 105 [(a7 a0), (Pr (j0 a1))] = (Q9 k a0 a1).map lC := by
 cases k with
 | zero => rfl
 | succ k =>
  unfold Q9
  refine et (i5 (c := Gt) (N := 17) (regs := Br) rfl func105 rfl (by decide) rfl rfl rfl) <| kra [] rfl <| kg xf rfl (fun (o2 : Bool) => ⟨[(3, (Bo o2))], [], 17⟩) ?_ fun o2 => ?_
  ·refine rd 1 [(4, (a7 a0))] rfl rfl <| rl rfl (n7 (e := d4) rfl rfl rfl rfl rfl rfl underlying56) <| bd 4 [(5, (I (a0.length : Int))), (6, (Bo (decide ((a0.length : Int) < 1)))), (7, (Bo (decide ((a0.length : Int) < 1))))] rfl rfl <| n5 (fun hc => ?_) fun hc => ?_
   ·rw [hc]
    exact d5 rfl
   ·rw [hc]
    refine rd 5 [(8, (a7 a0))] rfl rfl <| rl rfl (n7 (e := d4) rfl rfl rfl rfl rfl rfl underlying56) <| bd 9 [(9, (I (a0.length : Int))), (10, (Bo (decide ((a0.length : Int) > 4)))), (11, (Bo (decide ((a0.length : Int) > 4)))), (12, (Bo (decide ((a0.length : Int) > 4))))] rfl rfl <| n5 (fun hc => ?_) fun hc => ?_
    ·rw [hc]
     exact d5 rfl
    ·rw [hc]
     exact rd 11 [(13, (a7 a0)), (14, (V.fn 107 [] [(Pr (j0 a1))]))] rfl rfl <| rs rfl (d7 rfl rfl rfl rfl rfl (dS k a0 (fun j x0 => (O7 j x0 a1)) 107 (j0 a1) (fun j x0 => (kx j x0 a1))) (.inl rfl)) fun v1 => b4 rfl
  refine et i1 ?_
  rfl
def oc : Bool → V × List V := fun r => ((Bo r), [])
theorem M7 (k : Nat) (a0 : b8) (a1 : (List (List a6))) : EV k 74 [(j0 a0), (V.sl 0 1 (List.map a7 a1))] = (T3 k a0 a1).map oc := by
 cases k with
 | zero => rfl
 | succ k =>
  unfold T3
  refine et (i5 (c := f74c) (N := 14) (regs := HA) rfl func74 rfl (by decide) rfl rfl rfl) <| kr ⟨[(1, (V.sl 0 1 (List.map a7 a1))), (2, (Pt 2))], [(2, vS 8 (j0 a0))], 14⟩ rfl <| kg Et rfl (fun (o2 : Bool) => ⟨[(4, (Bo o2))], [], 14⟩) ?_ fun o2 => ?_
  ·refine rd 1 [(5, (V.sl 0 1 (List.map a7 a1)))] rfl rfl <| rl rfl (n7 (e := a7) rfl rfl rfl rfl rfl rfl underlying26) <| bd 4 [(6, (I (a1.length : Int))), (7, (Bo (decide ((a1.length : Int) ≤ 4)))), (8, (Bo (decide ((a1.length : Int) ≤ 4))))] rfl rfl <| n5 (fun hc => ?_) fun hc => ?_
   ·rw [hc]
    exact rd 6 [(9, (V.sl 0 1 (List.map a7 a1))), (10, (V.fn 105 [] [(Pt 2)]))] rfl rfl <| rp rfl (d7 rfl rfl rfl rfl rfl (dC k a1 (fun j x0 => (Q9 j x0 a0)) 105 (j0 a0) (fun j x0 => (bT j x0 a0))) (.inr (fun _ => rfl))) fun v1 => b4 rfl
   ·rw [hc]
    exact d5 rfl
  refine et i1 ?_
  rfl
def nY : (Bool × Int) → V × List V := fun r => (.tup [(Bo r.1), (I r.2)], [])
theorem iW (k : Nat) (a0 : a8) (a1 : Int) (a2 : (List (List a6))) : EV k 99 [(b6 a0), (I a1), (V.sl 0 1 (List.map a7 a2))] = (aR k a0 a1 a2).map nY := by
 cases k with
 | zero => rfl
 | succ k =>
  unfold aR
  refine et (i5 (c := f99c) (N := 22) (regs := HT) rfl func99 rfl (by decide) rfl rfl rfl) <| kr ⟨[(1, (I a1)), (2, (V.sl 0 1 (List.map a7 a2))), (3, (Pt 3))], [(3, vS 4 (b6 a0))], 22⟩ rfl <| et b5 <| kga Fn rfl (fun (o2 : Int) => [(8, (I o2))]) (rd 2 [(9, (b6 a0)), (10, (I a1))] rfl rfl <| rs rfl (d7 rfl rfl rfl rfl rfl (M6 k a0 a1) (.inl rfl)) fun v1 => b4 rfl) fun o2 => et b5 <| kra [(13, (Bo (o2 != 0)))] rfl <| kc rfl rfl (fun hc => ?_) fun hc => ?_
  ·rw [hc]
   refine et b5 <| kr ⟨[(6, (Bo false)), (7, (I o2))], [], 22⟩ rfl <| et n6 ?_
   rfl
  ·rw [hc]
   refine et d6 <| kg Fo rfl (fun (o5 : Bool × Int) => ⟨[(6, (Bo o5.1)), (7, (I o5.2))], [], 22⟩) (rd 3 [(15, (V.ptr 3 0 2)), (16, (l7 a0.fTypes)), (17, (I a1))] rfl rfl <| rp rfl (i2 (e := j0) rfl rfl rfl underlying22 rfl (by decide)) fun v3 => bd 6 [(18, (Pr (j0 v3))), (19, (j0 v3)), (20, (V.sl 0 1 (List.map a7 a2)))] rfl rfl <| rp rfl (d7 rfl rfl rfl rfl rfl (M7 k v3 a2) (.inl rfl)) fun v4 => b4 rfl) fun o5 => et i1 ?_
   rfl
def pR : (Str × Int) → V × List V := fun r => (.tup [(Sr r.1), (I r.2)], [])
theorem fV (k : Nat) (a0 : a8) (a1 : Int) (a2 : b7) : EV k 65 [(b6 a0), (I a1), (j4 a2)] = (fi k a0 a1 a2).map pR := by
 cases k with
 | zero => rfl
 | succ k =>
  unfold fi
  refine et (i5 (c := f65c) (N := 49) (regs := Hs) rfl func65 rfl (by decide) rfl rfl rfl) <| kr ⟨[(1, (I a1)), (3, (Pt 3)), (5, (Pt 5))], [(3, vS 4 (b6 a0)), (5, vS 3 (j4 a2))], 49⟩ rfl <| et b5 <| kga Em rfl (fun (o2 : Bool) => [(17, (Bo o2))]) (rd 2 [(14, (V.ptr 5 0 1)), (15, (Sr a2.fCodes))] rfl rfl <| rp rfl (d7 rfl rfl rfl rfl rfl (dH k a2.fCodes) (.inl rfl)) fun v1 => b4 rfl) fun o2 => kc rfl rfl (fun hc => ?_) fun hc => ?_
  ·rw [hc]
   refine et b5 <| kr ⟨[(6, (Sr ([65, 74] : Str))), (7, (I 0))], [], 49⟩ rfl <| et n6 ?_
   rfl
  ·rw [hc]
   refine et d6 <| kg En rfl (fun (o4 : Int × Int) => ⟨[(1, (I a1)), (3, (Pt 3)), (5, (Pt 5)), (8, (I o4.1)), (9, (I o4.2))], [(3, vS 4 (b6 a0)), (5, vS 3 (j4 a2))], 49⟩) (rd 3 [(19, (b6 a0)), (20, (Pt 5)), (21, (Sr a2.fSegment))] rfl rfl <| rp rfl (d7 rfl rfl rfl rfl rfl (iI k a0 a2.fSegment) (.inl rfl)) fun v3 => b4 rfl) fun o4 => et b5 <| kr ⟨[(1, (I a1)), (3, (Pt 3)), (5, (Pt 5)), (8, (I o4.1)), (26, (Bo (o4.2 != 0)))], [(3, vS 4 (b6 a0)), (5, vS 3 (j4 a2))], 49⟩ rfl <| kc rfl rfl (fun hc => ?_) fun hc => ?_
   ·rw [hc]
    refine et b5 <| kr ⟨[(6, (Sr ([65, 67] : Str))), (7, (I 0))], [], 49⟩ rfl <| et n6 ?_
    rfl
   ·rw [hc]
    refine et d6 <| et b5 <| kr ⟨[(1, (I a1)), (3, (Pt 3)), (5, (Pt 5)), (8, (I o4.1)), (28, (Bo (decide (a1 ≥ 0))))], [(3, vS 4 (b6 a0)), (5, vS 3 (j4 a2))], 49⟩ rfl <| kc rfl rfl (fun hc => ?_) fun hc => ?_
    ·rw [hc]
     refine et b5 <| kg Eo rfl (fun (o6 : Bool) => ⟨[(3, (Pt 3)), (5, (Pt 5)), (8, (I o4.1)), (10, (Bo o6))], [(3, vS 4 (b6 a0)), (5, vS 3 (j4 a2))], 49⟩) (rd 3 [(30, (b6 a0)), (31, (I a1)), (32, (I o4.1))] rfl rfl <| rp rfl (d7 rfl rfl rfl rfl rfl (oI k a0 a1 o4.1) (.inl rfl)) fun v5 => b4 rfl) fun o6 => et b5 <| kr ⟨[(3, (Pt 3)), (5, (Pt 5)), (8, (I o4.1)), (37, (Bo (!o6)))], [(3, vS 4 (b6 a0)), (5, vS 3 (j4 a2))], 49⟩ rfl <| kc rfl rfl (fun hc => ?_) fun hc => ?_
     ·rw [hc]
      refine et b5 <| kr ⟨[(6, (Sr ([65, 67] : Str))), (7, (I 0))], [], 49⟩ rfl <| et n6 ?_
      rfl
     ·rw [hc]
      refine et d6 <| et b5 <| kg uB rfl (fun (o8 : Bool) => ⟨[(8, (I o4.1)), (12, (Bo o8))], [], 49⟩) (rd 4 [(39, (b6 a0)), (40, (I o4.1)), (41, (V.ptr 5 0 2)), (42, (V.sl 0 1 (List.map a7 a2.fWhen)))] rfl rfl <| rp rfl (d7 rfl rfl rfl rfl rfl (iW k a0 o4.1 a2.fWhen) (.inl rfl)) fun v7 => b4 rfl) fun o8 => et b5 <| kr ⟨[(8, (I o4.1)), (47, (Bo (!o8)))], [], 49⟩ rfl <| kc rfl rfl (fun hc => ?_) fun hc => ?_
      ·rw [hc]
       refine et b5 <| kr ⟨[(6, (Sr ([65, 75] : Str))), (7, (I 0))], [], 49⟩ rfl <| et n6 ?_
       rfl
      ·rw [hc]
       refine et d6 <| kr ⟨[(6, (Sr ([32, 32] : Str))), (7, (I o4.1))], [], 49⟩ rfl <| et i1 ?_
       rfl
    ·rw [hc]
     refine et d6 <| et b5 <| kg uB rfl (fun (o10 : Bool) => ⟨[(8, (I o4.1)), (12, (Bo o10))], [], 49⟩) (rd 4 [(39, (b6 a0)), (40, (I o4.1)), (41, (V.ptr 5 0 2)), (42, (V.sl 0 1 (List.map a7 a2.fWhen)))] rfl rfl <| rp rfl (d7 rfl rfl rfl rfl rfl (iW k a0 o4.1 a2.fWhen) (.inl rfl)) fun v9 => b4 rfl) fun o10 => et b5 <| kr ⟨[(8, (I o4.1)), (47, (Bo (!o10)))], [], 49⟩ rfl <| kc rfl rfl (fun hc => ?_) fun hc => ?_
     ·rw [hc]
      refine et b5 <| kr ⟨[(6, (Sr ([65, 75] : Str))), (7, (I 0))], [], 49⟩ rfl <| et n6 ?_
      rfl
     ·rw [hc]
      refine et d6 <| kr ⟨[(6, (Sr ([32, 32] : Str))), (7, (I o4.1))], [], 49⟩ rfl <| et i1 ?_
      rfl
def fT : (Str × (List Int)) → V × List V := fun r => (.tup [(Sr r.1), (sI r.2)], [])
theorem aF (k : Nat) (a0 : a8) (a1 : (List b7))  (K0 : Int → (List Int) → Int → Option (Str × (List Int))) (Kst : X × St → Option (V × List V)) (hK0 : ∀ (y0 : Int) (y1 : (List Int)) (y2 : Int), Kst (X.exit 0, ⟨[(2, (Pt 2)), (6, (I y0)), (7, (V.sl 1 1 (List.map I y1))), (15, (u5 a1)), (16, (I (a1.length : Int))), (17, (I y2)), (18, (Bo false))], [(2, vS 4 (b6 a0))], 38⟩) = (K0 y0 y1 y2).map fT) (hret : ∀ s, Kst (X.ret, s) = F3 prog 38 [(b6 a0), (u5 a1)] [] [.tmp 4, .tmp 5] (X.ret, s)) :
  ∀ (m : Nat) (x7 : Int) (x8 : (List Int)) (x9 : Int), (D1 (u0 prog (EV k) FB k CP) m ⟨[(2, (Pt 2)), (6, (I x7)), (7, (V.sl 1 1 (List.map I x8))), (15, (u5 a1)), (16, (I (a1.length : Int))), (17, (I x9))], [(2, vS 4 (b6 a0))], 38⟩).bind Kst = (U3 k a0 a1 K0 m x7 x8 x9).map fT := by
 intro m
 induction m with
 | zero => intros; rfl
 | succ m ih =>
  intro x7 x8 x9
  unfold U3
  refine et l9 <| kra [(18, (Bo (decide (x9 < (a1.length : Int)))))] rfl <| kc rfl rfl (fun hc => ?_) fun hc => ?_
  ·rw [hc]
   refine et d6 <| et (i8 rfl) <| kg CN rfl (fun (o11 : b7) => ⟨[(2, (Pt 2)), (6, (I x7)), (7, (V.sl 1 1 (List.map I x8))), (9, (Pt 9)), (15, (u5 a1)), (16, (I (a1.length : Int))), (17, (I x9))], [(2, vS 4 (b6 a0)), (9, vS 3 (j4 o11))], 38⟩) (rs rfl (i2 (e := j4) rfl rfl rfl underlying31 rfl (by decide)) fun v10 => b4 rfl) fun o11 => kg CO rfl (fun (o13 : Str × Int) => ⟨[(2, (Pt 2)), (7, (V.sl 1 1 (List.map I x8))), (10, (Sr o13.1)), (11, (I o13.2)), (15, (u5 a1)), (16, (I (a1.length : Int))), (17, (I x9))], [(2, vS 4 (b6 a0))], 38⟩) (rd 3 [(22, (b6 a0)), (23, (I x7)), (24, (j4 o11))] rfl rfl <| rp rfl (d7 rfl rfl rfl rfl rfl (fV k a0 x7 o11) (.inl rfl)) fun v12 => b4 rfl) fun o13 => et b5 <| kra [(29, (Bo (!(o13.1 == ([32, 32] : Str)))))] rfl <| kc rfl rfl (fun hc => ?_) fun hc => ?_
   ·rw [hc]
    refine et b5 <| kr ⟨[(4, (Sr o13.1)), (5, (sI (([] : List Int))))], [], 38⟩ rfl <| et n6 <| et l5 <| et l8 <| et (hret _) ?_
    rfl
   ·rw [hc]
    exact et d6 <| kr ⟨[(2, (Pt 2)), (6, (I o13.2)), (7, (V.sl 1 1 (List.map I x8))), (11, (I o13.2)), (15, (u5 a1)), (16, (I (a1.length : Int))), (17, (I x9))], [(2, vS 4 (b6 a0))], 38⟩ rfl <| kgl yM rfl (fun (o15 : (List Int)) => ⟨[(2, (Pt 2)), (6, (I o13.2)), (7, (V.sl 1 1 (List.map I o15))), (15, (u5 a1)), (16, (I (a1.length : Int))), (17, (I x9))], [(2, vS 4 (b6 a0))], 38⟩) (ra 3 3 ⟨[(2, (Pt 2)), (6, (I o13.2)), (7, (sI x8)), (11, (I o13.2)), (15, (u5 a1)), (16, (I (a1.length : Int))), (17, (I x9)), (32, (V.sl 1 1 (List.map I x8))), (33, (I o13.2)), (34, (sI (([o13.2] : List Int))))], [(2, vS 4 (b6 a0))], 38⟩ rfl rfl rfl <| et (Q1 (x := (app x8 ([o13.2] : List Int))) (w := fun v14 => ((V.sl 1 1 (List.map I v14)), _)) rfl rfl rfl rfl (nL (e := I) rfl rfl rfl rfl rfl rfl rfl rfl rfl rfl (by decide))) <| B6 fun v14 => b4 rfl) fun o15 => et i6 <| kl ⟨[(2, (Pt 2)), (6, (I o13.2)), (7, (V.sl 1 1 (List.map I o15))), (15, (u5 a1)), (16, (I (a1.length : Int))), (17, (I (Go.IntKind.wrap .i64 (x9 + 1))))], [(2, vS 4 (b6 a0))], 38⟩ rfl <| et i3 <| ih o13.2 o15 (Go.IntKind.wrap .i64 (x9 + 1))
  ·rw [hc]
   exact et p7 <| et j3 <| hK0 x7 x8 x9
theorem hI (k : Nat) (a0 : a8) (a1 : (List b7)) : EV k 36 [(b6 a0), (u5 a1)] = (gt k a0 a1).map fT := by
 cases k with
 | zero => rfl
 | succ k =>
  unfold gt
  refine et (i5 (c := f36c) (N := 38) (regs := FB) rfl func36 rfl (by decide) rfl rfl rfl) <| kr ⟨[(1, (u5 a1)), (2, (Pt 2))], [(2, vS 4 (b6 a0))], 38⟩ rfl <| et b5 <| krp CL rfl ⟨[(1, (u5 a1)), (2, (Pt 2)), (14, (Bo (decide ((a1.length : Int) > 5))))], [(2, vS 4 (b6 a0))], 38⟩ ?_ ?_
  ·exact rd 1 [(12, (u5 a1))] rfl rfl <| rl rfl (n7 (e := j4) rfl rfl rfl rfl rfl rfl underlying31) <| b4 rfl
  refine kc rfl rfl (fun hc => ?_) fun hc => ?_
  ·rw [hc]
   refine et b5 <| kr ⟨[(4, (Sr ([65, 74] : Str))), (5, (sI (([] : List Int))))], [], 38⟩ rfl <| et n6 ?_
   rfl
  ·rw [hc]
   refine et d6 <| kr ⟨[(1, (u5 a1)), (2, (Pt 2)), (6, (I (-1)))], [(2, vS 4 (b6 a0))], 38⟩ rfl <| kra [(7, (V.sl 1 1 (List.map I ([] : List Int))))] rfl <| et b5 <| krp CM rfl ⟨[(2, (Pt 2)), (6, (I (-1))), (7, (V.sl 1 1 (List.map I ([] : List Int)))), (15, (u5 a1)), (16, (I (a1.length : Int))), (17, (I 0))], [(2, vS 4 (b6 a0))], 38⟩ ?_ ?_
   ·exact rd 1 [(15, (u5 a1))] rfl rfl <| rl rfl (n7 (e := j4) rfl rfl rfl rfl rfl rfl underlying31) <| b4 rfl
   refine et (i8 rfl) <| et p8 ?_
   refine aF k a0 a1 _ _ ?h_ssa_check_L1_0 ?hr_ssa_check_L1 k (-1) ([] : List Int) 0
   ·intro y16 y17 y18
    refine et j6 <| kr ⟨[(4, (Sr ([32, 32] : Str))), (5, (sI y17))], [], 38⟩ rfl <| et i1 ?_
    rfl
   ·intro s; exact rfl
def qu : ((List Int) × Int) → V × List V := fun r => (.tup [(sI r.1), (I r.2)], [])
theorem bD (k : Nat) (a0 : a8) (a1 : (List b7)) : EV k 22 [(b6 a0), (u5 a1)] = (cg k a0 a1).map qu := by
 cases k with
 | zero => rfl
 | succ k =>
  unfold cg
  refine et (i5 (c := f22c) (N := 20) (regs := GW) rfl func22 rfl (by decide) rfl rfl rfl) <| kr ⟨[(1, (u5 a1)), (2, (Pt 2))], [(2, vS 4 (b6 a0))], 20⟩ rfl <| et b5 <| kga BV rfl (fun (o2 : Bool) => [(10, (Bo o2))]) (rd 1 [(8, (b6 a0))] rfl rfl <| rp rfl (d7 rfl rfl rfl rfl rfl (gD k a0) (.inl rfl)) fun v1 => b4 rfl) fun o2 => kc rfl rfl (fun hc => ?_) fun hc => ?_
  ·rw [hc]
   refine et b5 <| kr ⟨[(4, (sI (([] : List Int)))), (5, (I 100))], [], 20⟩ rfl <| et n6 ?_
   rfl
  ·rw [hc]
   refine et d6 <| kg BW rfl (fun (o4 : Str × (List Int)) => ⟨[(6, (Sr o4.1)), (7, (sI o4.2))], [], 20⟩) (rd 2 [(12, (b6 a0)), (13, (u5 a1))] rfl rfl <| rp rfl (d7 rfl rfl rfl rfl rfl (hI k a0 a1) (.inl rfl)) fun v3 => b4 rfl) fun o4 => et b5 <| kr ⟨[(7, (sI o4.2)), (18, (Bo (!(o4.1 == ([32, 32] : Str)))))], [], 20⟩ rfl <| kc rfl rfl (fun hc => ?_) fun hc => ?_
   ·rw [hc]
    refine et b5 <| kr ⟨[(4, (sI (([] : List Int)))), (5, (I 2))], [], 20⟩ rfl <| et n6 ?_
    rfl
   ·rw [hc]
    refine et d6 <| kr ⟨[(4, (sI o4.2)), (5, (I 0))], [], 20⟩ rfl <| et i1 ?_
    rfl
def kM : Str → V × List V := fun r => ((Sr r), [])
theorem fJ (k : Nat) (s : Str) (n : Int) : EV k 23 [(Sr s), (I n)] = (strings_Repeat k s n).map kM := by
 cases k with
 | zero => rfl
 | succ k => exact (lf (ext := ext) (f := 23) rfl).trans rfl
def K7 : Int → V × List V := fun r => ((I r), [])
theorem dc (k : Nat) (a0 : (List (List (List a6)))) (a1 : Nat → (List (List a6)) → Option Bool) (a1_fid : Go.FuncId) (a1_c0 : V) (a1_hok : ∀ j x0, EV j a1_fid [(V.sl 0 1 (List.map a7 x0)), V.pro a1_c0] = (a1 j x0).map fun b => ((Bo b), [])) (K0 : Int → Option Int) (Kst : X × St → Option (V × List V)) (hK0 : ∀ (y0 : Int), Kst (X.exit 0, ⟨[(0, (V.sl 0 1 (List.map (fun x => (V.sl 0 1 (List.map a7 x))) a0))), (1, (V.fn a1_fid [] [V.pro a1_c0])), (7, (I (a0.length : Int))), (8, (I y0)), (9, (Bo false))], [], 19⟩) = (K0 y0).map K7) (hret : ∀ s, Kst (X.ret, s) = F3 prog 19 [(V.sl 0 1 (List.map (fun x => (V.sl 0 1 (List.map a7 x))) a0)), (V.fn a1_fid [] [V.pro a1_c0])] [] [.tmp 4] (X.ret, s)) :
  ∀ (m : Nat) (x4 : Int), (D1 (u0 prog (EV k) xd k xc) m ⟨[(0, (V.sl 0 1 (List.map (fun x => (V.sl 0 1 (List.map a7 x))) a0))), (1, (V.fn a1_fid [] [V.pro a1_c0])), (7, (I (a0.length : Int))), (8, (I x4))], [], 19⟩).bind Kst = (C4 k a0 a1 K0 m x4).map K7 := by
 intro m
 induction m with
 | zero => intros; rfl
 | succ m ih =>
  intro x4
  unfold C4
  refine et l9 <| kra [(9, (Bo (decide (x4 < (a0.length : Int)))))] rfl <| kc rfl rfl (fun hc => ?_) fun hc => ?_
  ·rw [hc]
   refine et d6 <| et (i8 rfl) <| kr ⟨[(0, (V.sl 0 1 (List.map (fun x => (V.sl 0 1 (List.map a7 x))) a0))), (1, (V.fn a1_fid [] [V.pro a1_c0])), (5, (I x4)), (7, (I (a0.length : Int))), (8, (I x4))], [], 19⟩ rfl <| kga xb rfl (fun (o7 : Bool) => [(16, (Bo o7))]) (rd 3 [(11, (V.fn a1_fid [] [V.pro a1_c0])), (12, (V.sl 0 1 (List.map (fun x => (V.sl 0 1 (List.map a7 x))) a0))), (13, (I x4))] rfl rfl <| rp rfl (i2 (e := (fun x => (V.sl 0 1 (List.map a7 x)))) rfl rfl rfl underlying119 rfl (by decide)) fun v5 => bd 5 [(14, (Pr (V.sl 0 1 (List.map a7 v5)))), (15, (V.sl 0 1 (List.map a7 v5)))] rfl rfl <| rs rfl (d7 rfl rfl rfl rfl rfl (a1_hok k v5) (.inl rfl)) fun v6 => b4 rfl) fun o7 => kcl rfl rfl (fun hc => ?_) fun hc => ?_
   ·rw [hc]
    refine kr ⟨[(4, (I x4))], [], 19⟩ rfl <| et i1 <| et l5 <| et l8 <| et (hret _) ?_
    rfl
   ·rw [hc]
    exact et m9 <| et i6 <| kl ⟨[(0, (V.sl 0 1 (List.map (fun x => (V.sl 0 1 (List.map a7 x))) a0))), (1, (V.fn a1_fid [] [V.pro a1_c0])), (7, (I (a0.length : Int))), (8, (I (Go.IntKind.wrap .i64 (x4 + 1))))], [], 19⟩ rfl <| et i3 <| ih (Go.IntKind.wrap .i64 (x4 + 1))
  ·rw [hc]
   exact et p7 <| et j3 <| hK0 x4
theorem ff (k : Nat) (a0 : (List (List (List a6)))) (a1 : Nat → (List (List a6)) → Option Bool) (a1_fid : Go.FuncId) (a1_c0 : V) (a1_hok : ∀ j x0, EV j a1_fid [(V.sl 0 1 (List.map a7 x0)), V.pro a1_c0] = (a1 j x0).map fun b => ((Bo b), [])) : EV k 103 [(V.sl 0 1 (List.map (fun x => (V.sl 0 1 (List.map a7 x))) a0)), (V.fn a1_fid [] [V.pro a1_c0])] = (I6 k a0 a1).map K7 := by
 cases k with
 | zero => rfl
 | succ k =>
  unfold I6
  refine et (i5 (c := Gr) (N := 19) (regs := xd) rfl func103 rfl (by decide) rfl rfl rfl) <| kra [] rfl <| et b5 <| krp wZ rfl ⟨[(0, (V.sl 0 1 (List.map (fun x => (V.sl 0 1 (List.map a7 x))) a0))), (1, (V.fn a1_fid [] [V.pro a1_c0])), (7, (I (a0.length : Int))), (8, (I 0))], [], 19⟩ ?_ ?_
  ·exact rd 1 [(6, (V.sl 0 1 (List.map (fun x => (V.sl 0 1 (List.map a7 x))) a0)))] rfl rfl <| rl rfl (n7 (e := (fun x => (V.sl 0 1 (List.map a7 x)))) rfl rfl rfl rfl rfl rfl underlying119) <| b4 rfl
  refine et (i8 rfl) <| et p8 ?_
  refine dc k a0 a1 a1_fid a1_c0 a1_hok _ _ ?h_slices_IndexFunc_TermLL_L1_0 ?hr_slices_IndexFunc_TermLL_L1 k 0
  ·intro y8
   refine et j6 <| kr ⟨[(4, (I (-1)))], [], 19⟩ rfl <| et i1 ?_
   rfl
  ·intro s; exact rfl
def ce : Bool → V × List V := fun r => ((Bo r), [])
theorem cY (k : Nat) (a0 : (List (List (List a6)))) (a1 : Nat → (List (List a6)) → Option Bool) (a1_fid : Go.FuncId) (a1_c0 : V) (a1_hok : ∀ j x0, EV j a1_fid [(V.sl 0 1 (List.map a7 x0)), V.pro a1_c0] = (a1 j x0).map fun b => ((Bo b), [])) : EV k 72 [(V.sl 0 1 (List.map (fun x => (V.sl 0 1 (List.map a7 x))) a0)), (V.fn a1_fid [] [V.pro a1_c0])] = (z7 k a0 a1).map ce := by
 cases k with
 | zero => rfl
 | succ k =>
  unfold z7
  refine et (i5 (c := f72c) (N := 9) (regs := Hy) rfl func72 rfl (by decide) rfl rfl rfl) <| kra [] rfl <| kg Er rfl (fun (o2 : Bool) => ⟨[(4, (Bo o2))], [], 9⟩) (rd 2 [(5, (V.sl 0 1 (List.map (fun x => (V.sl 0 1 (List.map a7 x))) a0))), (6, (V.fn a1_fid [] [V.pro a1_c0]))] rfl rfl <| rp rfl (d7 rfl rfl rfl rfl rfl (ff k a0 a1 a1_fid a1_c0 a1_hok) (.inl rfl)) fun v1 => b4 rfl) fun o2 => et i1 ?_
  rfl
def gR : Bool → V × List V := fun r => ((Bo r), [])
theorem ir (k : Nat) (a0 : (List (List a6))) (a1 : b8) : EV k 73 [(V.sl 0 1 (List.map a7 a0)), (Pr (j0 a1))] = (H1 k a0 a1).map gR := by
 cases k with
 | zero => rfl
 | succ k =>
  unfold H1
  refine et (i5 (c := f73c) (N := 8) (regs := Hz) rfl func73 rfl (by decide) rfl rfl rfl) <| kra [] rfl <| kg Es rfl (fun (o2 : Bool) => ⟨[(3, (Bo o2))], [], 8⟩) (rd 2 [(4, (j0 a1)), (5, (V.sl 0 1 (List.map a7 a0)))] rfl rfl <| rp rfl (d7 rfl rfl rfl rfl rfl (M7 k a1 a0) (.inl rfl)) fun v1 => b4 rfl) fun o2 => et i1 ?_
  rfl
def iX : (b8 × Int) → V × List V := fun r => (.tup [(j0 r.1), (I r.2)], [])
theorem R8 (k : Nat) (a0 : a8) (a1 : Int) (a2 : (List (List (List a6)))) : EV k 43 [(b6 a0), (I a1), (V.sl 0 1 (List.map (fun x => (V.sl 0 1 (List.map a7 x))) a2))] = (L4 k a0 a1 a2).map iX := by
 cases k with
 | zero => rfl
 | succ k =>
  unfold L4
  refine et (i5 (c := f43c) (N := 27) (regs := Hh) rfl func43 rfl (by decide) rfl rfl rfl) <| kr ⟨[(1, (I a1)), (2, (V.sl 0 1 (List.map (fun x => (V.sl 0 1 (List.map a7 x))) a2))), (3, (Pt 3)), (6, (Pt 6))], [(3, vS 4 (b6 a0)), (6, ⟨false, 8, [(V.agg [(Sr []), (I 0), (I 0), (I 0), (V.sl 2 3 (List.map l6 ([] : List i4))), (I 0), (Bo false), (Bo false)])]⟩)], 27⟩ rfl <| et b5 <| kga CS rfl (fun (o2 : Int) => [(8, (I o2))]) (rd 2 [(10, (b6 a0)), (11, (I a1))] rfl rfl <| rs rfl (d7 rfl rfl rfl rfl rfl (M6 k a0 a1) (.inl rfl)) fun v1 => b4 rfl) fun o2 => et b5 <| kra [(14, (Bo (o2 != 0)))] rfl <| kc rfl rfl (fun hc => ?_) fun hc => ?_
  ·rw [hc]
   refine et b5 <| kr ⟨[(6, (Pt 6)), (7, (I o2))], [(6, ⟨false, 8, [(j0 ({ fName := [], fParent := 0, fMin := 0, fSize := 0, fFields := ([] : List i4), fKey := 0, fUnique := false, fLast := false } : b8))]⟩)], 27⟩ rfl <| et n6 ?_
   rfl
  ·rw [hc]
   refine et d6 <| kg CT rfl (fun (o4 : b8) => ⟨[(2, (V.sl 0 1 (List.map (fun x => (V.sl 0 1 (List.map a7 x))) a2))), (6, (Pt 6)), (9, (Pt 9))], [(6, ⟨false, 8, [(V.agg [(Sr []), (I 0), (I 0), (I 0), (V.sl 2 3 (List.map l6 ([] : List i4))), (I 0), (Bo false), (Bo false)])]⟩), (9, vS 8 (j0 o4))], 27⟩) (rd 3 [(17, (V.ptr 3 0 2)), (18, (l7 a0.fTypes)), (19, (I a1))] rfl rfl <| rs rfl (i2 (e := j0) rfl rfl rfl underlying22 rfl (by decide)) fun v3 => b4 rfl) fun o4 => et b5 <| kg CU rfl (fun (o6 : Bool) => ⟨[(6, (Pt 6)), (9, (Pt 9)), (24, (Bo o6))], [(6, ⟨false, 8, [(V.agg [(Sr []), (I 0), (I 0), (I 0), (V.sl 2 3 (List.map l6 ([] : List i4))), (I 0), (Bo false), (Bo false)])]⟩), (9, vS 8 (j0 o4))], 27⟩) (rd 2 [(22, (V.sl 0 1 (List.map (fun x => (V.sl 0 1 (List.map a7 x))) a2))), (23, (V.fn 73 [] [(Pt 9)]))] rfl rfl <| rs rfl (d7 rfl rfl rfl rfl rfl (cY k a2 (fun j x0 => (H1 j x0 o4)) 73 (j0 o4) (fun j x0 => (ir j x0 o4))) (.inr (fun _ => rfl))) fun v5 => b4 rfl) fun o6 => kc rfl rfl (fun hc => ?_) fun hc => ?_
   ·rw [hc]
    refine et b5 <| kr ⟨[(6, (Pt 6)), (7, (I 110))], [(6, ⟨false, 8, [(j0 ({ fName := [], fParent := 0, fMin := 0, fSize := 0, fFields := ([] : List i4), fKey := 0, fUnique := false, fLast := false } : b8))]⟩)], 27⟩ rfl <| et n6 ?_
    rfl
   ·rw [hc]
    refine et d6 <| kr ⟨[(6, (Pt 6)), (7, (I 0))], [(6, vS 8 (j0 o4))], 27⟩ rfl <| et i1 ?_
    rfl
def pv : Str → V × List V := fun r => ((Sr r), [])
theorem ap (k : Nat) (a0 : Int) : EV k 44 [(I a0)] = (aM k a0).map pv := by
 cases k with
 | zero => rfl
 | succ k =>
  unfold aM
  refine et (i5 (c := f44c) (N := 7) (regs := Hi) rfl func44 rfl (by decide) rfl rfl rfl) <| kra [] rfl <| kg CV rfl (fun (o2 : Str) => ⟨[(2, (Sr o2))], [], 7⟩) (rd 3 [(3, (eStr ({ e0 := ([61, 32] : Str), e1 := ([60, 62] : Str), e2 := ([60, 32] : Str), e3 := ([60, 61] : Str), e4 := ([62, 32] : Str), e5 := ([62, 61] : Str) } : E5))), (4, (I a0)), (5, (I (Go.IntKind.wrap .i64 (a0 - 1))))] rfl rfl <| rs rfl (uY (l := ([({ e0 := ([61, 32] : Str), e1 := ([60, 62] : Str), e2 := ([60, 32] : Str), e3 := ([60, 61] : Str), e4 := ([62, 32] : Str), e5 := ([62, 61] : Str) } : E5).e0, ({ e0 := ([61, 32] : Str), e1 := ([60, 62] : Str), e2 := ([60, 32] : Str), e3 := ([60, 61] : Str), e4 := ([62, 32] : Str), e5 := ([62, 61] : Str) } : E5).e1, ({ e0 := ([61, 32] : Str), e1 := ([60, 62] : Str), e2 := ([60, 32] : Str), e3 := ([60, 61] : Str), e4 := ([62, 32] : Str), e5 := ([62, 61] : Str) } : E5).e2, ({ e0 := ([61, 32] : Str), e1 := ([60, 62] : Str), e2 := ([60, 32] : Str), e3 := ([60, 61] : Str), e4 := ([62, 32] : Str), e5 := ([62, 61] : Str) } : E5).e3, ({ e0 := ([61, 32] : Str), e1 := ([60, 62] : Str), e2 := ([60, 32] : Str), e3 := ([60, 61] : Str), e4 := ([62, 32] : Str), e5 := ([62, 61] : Str) } : E5).e4, ({ e0 := ([61, 32] : Str), e1 := ([60, 62] : Str), e2 := ([60, 32] : Str), e3 := ([60, 61] : Str), e4 := ([62, 32] : Str), e5 := ([62, 61] : Str) } : E5).e5] : List Str)) (e := V.str) rfl rfl rfl underlying123 rfl rfl rfl rfl) fun v1 => b4 rfl) fun o2 => et i1 ?_
  rfl
def nw : Str → V × List V := fun r => (Sr r, [])
theorem im (k : Nat) (s : List Str) (n : Str) : EV k 45 [(sS s), (Sr n)] = (strings_Join k s n).map nw := by
 cases k with
 | zero => rfl
 | succ k => exact (lf (ext := ext) (f := 45) rfl).trans (oT s n)
def S5 : (Str × Int) → V × List V := fun r => (.tup [(Sr r.1), (I r.2)], [])
theorem kw (k : Nat) (a0 : a8) (a1 : Int) (a2 : (List (List a6))) (x30 : (List Str)) (x31 : Int) (o33 : (List a6))  (K0 : Int → (List Str) → Option (Str × Int)) (Kst : X × St → Option (V × List V)) (hK0 : ∀ (y0 : Int) (y1 : (List Str)), Kst (X.exit 2, ⟨[(10, (V.sl 1 1 (List.map V.str x30))), (13, (aL 13 V.str y1)), (27, (V.sl 0 1 (List.map a7 a2))), (28, (I (a2.length : Int))), (29, (I x31)), (33, (a7 o33)), (34, (I (o33.length : Int))), (35, (I y0)), (36, (Bo false))], [(13, ⟨true, 1, List.map V.str y1⟩)], 66⟩) = (K0 y0 y1).map S5) (hret : ∀ s, Kst (X.ret, s) = F3 prog 66 [(b6 a0), (I a1), (V.sl 0 1 (List.map a7 a2))] [] [.tmp 6, .tmp 7] (X.ret, s)) :
  ∀ (m : Nat) (x43 : Int) (x44 : (List Str)), (D1 (u0 prog (EV k) AJ k Cc) m ⟨[(10, (V.sl 1 1 (List.map V.str x30))), (13, (aL 13 V.str x44)), (27, (V.sl 0 1 (List.map a7 a2))), (28, (I (a2.length : Int))), (29, (I x31)), (33, (a7 o33)), (34, (I (o33.length : Int))), (35, (I x43))], [(13, ⟨true, 1, List.map V.str x44⟩)], 66⟩).bind Kst = (J0 k o33 K0 m x43 x44).map S5 := by
 intro m
 induction m with
 | zero => intros; rfl
 | succ m ih =>
  intro x43 x44
  unfold J0
  refine et l9 <| kra [(36, (Bo (decide (x43 < (o33.length : Int)))))] rfl <| kc rfl rfl (fun hc => ?_) fun hc => ?_
  ·rw [hc]
   exact et d6 <| et (i8 rfl) <| kg yo rfl (fun (o46 : a6) => ⟨[(10, (V.sl 1 1 (List.map V.str x30))), (13, (aL 13 V.str x44)), (15, (Pt 15)), (27, (V.sl 0 1 (List.map a7 a2))), (28, (I (a2.length : Int))), (29, (I x31)), (33, (a7 o33)), (34, (I (o33.length : Int))), (35, (I x43))], [(13, ⟨true, 1, List.map V.str x44⟩), (15, vS 3 (d4 o46))], 66⟩) (rs rfl (i2 (e := d4) rfl rfl rfl underlying56 rfl (by decide)) fun v45 => b4 rfl) fun o46 => kdl yp rfl (fun (o53 : (List Str)) => ⟨[(10, (V.sl 1 1 (List.map V.str x30))), (13, (aL 13 V.str o53)), (27, (V.sl 0 1 (List.map a7 a2))), (28, (I (a2.length : Int))), (29, (I x31)), (33, (a7 o33)), (34, (I (o33.length : Int))), (35, (I x43))], [(13, ⟨true, 1, List.map V.str o53⟩)], 66⟩) (et (j2 (p := 17) (dk := true) (t := [(10, (V.sl 1 1 (List.map V.str x30))), (13, (aL 13 V.str x44)), (15, (Pt 15)), (27, (V.sl 0 1 (List.map a7 a2))), (28, (I (a2.length : Int))), (29, (I x31)), (33, (a7 o33)), (34, (I (o33.length : Int))), (35, (I x43))]) (σ := [(13, ⟨true, 1, List.map V.str x44⟩), (15, vS 3 (d4 o46))]) (n := 66) rfl (by decide) (by decide) rfl) <| et (j8 (m := 7) (j := 7) (t' := [(10, (V.sl 1 1 (List.map V.str x30))), (13, (aL 13 V.str x44)), (15, (Pt 15)), (27, (V.sl 0 1 (List.map a7 a2))), (28, (I (a2.length : Int))), (29, (I x31)), (33, (a7 o33)), (34, (I (o33.length : Int))), (35, (I x43)), (39, (aL 13 V.str x44)), (40, (Pt 15)), (41, (Sr o46.fField)), (42, (Pt 15)), (43, (Sr o46.fField)), (44, (I (o46.fField.length : Int))), (45, (I (Go.IntKind.wrap .i64 (8 - (o46.fField.length : Int)))))]) rfl rfl rfl) <| et (c8 (x := (strings_Repeat k ([32] : Str) (Go.IntKind.wrap .i64 (8 - (o46.fField.length : Int))))) (w := fun v47 => (Sr v47)) rfl rfl rfl rfl rfl (d7 rfl rfl rfl rfl rfl (fJ k ([32] : Str) (Go.IntKind.wrap .i64 (8 - (o46.fField.length : Int)))) (.inl rfl))) <| j5 fun v47 => et (i7 (m := 0) (j := 8) (t' := [(10, (V.sl 1 1 (List.map V.str x30))), (13, (aL 13 V.str x44)), (15, (Pt 15)), (27, (V.sl 0 1 (List.map a7 a2))), (28, (I (a2.length : Int))), (29, (I x31)), (33, (a7 o33)), (34, (I (o33.length : Int))), (35, (I x43)), (39, (aL 13 V.str x44)), (40, (Pt 15)), (41, (Sr o46.fField)), (42, (Pt 15)), (43, (Sr o46.fField)), (44, (I (o46.fField.length : Int))), (45, (I (Go.IntKind.wrap .i64 (8 - (o46.fField.length : Int))))), (46, (Sr v47))]) rfl rfl rfl) <| et (c8 (x := (cat o46.fField v47)) (w := fun v48 => (Sr v48)) rfl rfl rfl rfl rfl (E7 rfl rfl rfl)) <| j5 fun v48 => et (i7 (m := 2) (j := 11) (t' := [(10, (V.sl 1 1 (List.map V.str x30))), (13, (aL 13 V.str x44)), (15, (Pt 15)), (27, (V.sl 0 1 (List.map a7 a2))), (28, (I (a2.length : Int))), (29, (I x31)), (33, (a7 o33)), (34, (I (o33.length : Int))), (35, (I x43)), (39, (aL 13 V.str x44)), (40, (Pt 15)), (41, (Sr o46.fField)), (42, (Pt 15)), (43, (Sr o46.fField)), (44, (I (o46.fField.length : Int))), (45, (I (Go.IntKind.wrap .i64 (8 - (o46.fField.length : Int))))), (46, (Sr v47)), (47, (Sr v48)), (48, (V.ptr 15 0 1)), (49, (I o46.fOp))]) rfl rfl rfl) <| et (c8 (x := (aM k o46.fOp)) (w := fun v49 => (Sr v49)) rfl rfl rfl rfl rfl (d7 rfl rfl rfl rfl rfl (ap k o46.fOp) (.inl rfl))) <| j5 fun v49 => et (i7 (m := 0) (j := 12) (t' := [(10, (V.sl 1 1 (List.map V.str x30))), (13, (aL 13 V.str x44)), (15, (Pt 15)), (27, (V.sl 0 1 (List.map a7 a2))), (28, (I (a2.length : Int))), (29, (I x31)), (33, (a7 o33)), (34, (I (o33.length : Int))), (35, (I x43)), (39, (aL 13 V.str x44)), (40, (Pt 15)), (41, (Sr o46.fField)), (42, (Pt 15)), (43, (Sr o46.fField)), (44, (I (o46.fField.length : Int))), (45, (I (Go.IntKind.wrap .i64 (8 - (o46.fField.length : Int))))), (46, (Sr v47)), (47, (Sr v48)), (48, (V.ptr 15 0 1)), (49, (I o46.fOp)), (50, (Sr v49))]) rfl rfl rfl) <| et (c8 (x := (cat v48 v49)) (w := fun v50 => (Sr v50)) rfl rfl rfl rfl rfl (E7 rfl rfl rfl)) <| j5 fun v50 => et (i7 (m := 2) (j := 15) (t' := [(10, (V.sl 1 1 (List.map V.str x30))), (13, (aL 13 V.str x44)), (15, (Pt 15)), (27, (V.sl 0 1 (List.map a7 a2))), (28, (I (a2.length : Int))), (29, (I x31)), (33, (a7 o33)), (34, (I (o33.length : Int))), (35, (I x43)), (39, (aL 13 V.str x44)), (40, (Pt 15)), (41, (Sr o46.fField)), (42, (Pt 15)), (43, (Sr o46.fField)), (44, (I (o46.fField.length : Int))), (45, (I (Go.IntKind.wrap .i64 (8 - (o46.fField.length : Int))))), (46, (Sr v47)), (47, (Sr v48)), (48, (V.ptr 15 0 1)), (49, (I o46.fOp)), (50, (Sr v49)), (51, (Sr v50)), (52, (V.ptr 15 0 2)), (53, (Sr o46.fValue))]) rfl rfl rfl) <| et (c8 (x := (cat v50 o46.fValue)) (w := fun v51 => (Sr v51)) rfl rfl rfl rfl rfl (E7 rfl rfl rfl)) <| j5 fun v51 => et (Af (m := 0) (j := 17) (st' := ⟨[(10, (V.sl 1 1 (List.map V.str x30))), (13, (aL 13 V.str x44)), (15, (Pt 15)), (27, (V.sl 0 1 (List.map a7 a2))), (28, (I (a2.length : Int))), (29, (I x31)), (33, (a7 o33)), (34, (I (o33.length : Int))), (35, (I x43)), (39, (aL 13 V.str x44)), (40, (Pt 15)), (41, (Sr o46.fField)), (42, (Pt 15)), (43, (Sr o46.fField)), (44, (I (o46.fField.length : Int))), (45, (I (Go.IntKind.wrap .i64 (8 - (o46.fField.length : Int))))), (46, (Sr v47)), (47, (Sr v48)), (48, (V.ptr 15 0 1)), (49, (I o46.fOp)), (50, (Sr v49)), (51, (Sr v50)), (52, (V.ptr 15 0 2)), (53, (Sr o46.fValue)), (54, (Sr v51)), (55, (sS (([v51] : List Str))))], [(13, ⟨true, 1, List.map V.str x44⟩), (15, vS 3 (d4 o46))], 66⟩) rfl rfl rfl) <| et (Q1 (x := (app x44 ([v51] : List Str))) (w := fun v52 => ((aL 13 V.str v52), _)) rfl rfl rfl rfl (uX (e := V.str) (l := x44) rfl rfl rfl rfl rfl rfl rfl rfl rfl rfl rfl (of_decide_eq_true rfl))) <| B6 fun v52 => b4 rfl) fun o53 => et i6 <| kl ⟨[(10, (V.sl 1 1 (List.map V.str x30))), (13, (aL 13 V.str o53)), (27, (V.sl 0 1 (List.map a7 a2))), (28, (I (a2.length : Int))), (29, (I x31)), (33, (a7 o33)), (34, (I (o33.length : Int))), (35, (I (Go.IntKind.wrap .i64 (x43 + 1))))], [(13, ⟨true, 1, List.map V.str o53⟩)], 66⟩ rfl <| et i3 <| ih (Go.IntKind.wrap .i64 (x43 + 1)) o53
  ·rw [hc]
   exact et p7 <| et j3 <| hK0 x43 x44
theorem kv (k : Nat) (a0 : a8) (a1 : Int) (a2 : (List (List a6)))  (K0 : (List Str) → Int → Option (Str × Int)) (Kst : X × St → Option (V × List V)) (hK0 : ∀ (y0 : (List Str)) (y1 : Int), Kst (X.exit 0, ⟨[(10, (V.sl 1 1 (List.map V.str y0))), (27, (V.sl 0 1 (List.map a7 a2))), (28, (I (a2.length : Int))), (29, (I y1)), (30, (Bo false))], [], 66⟩) = (K0 y0 y1).map S5) (hret : ∀ s, Kst (X.ret, s) = F3 prog 66 [(b6 a0), (I a1), (V.sl 0 1 (List.map a7 a2))] [] [.tmp 6, .tmp 7] (X.ret, s)) :
  ∀ (m : Nat) (x30 : (List Str)) (x31 : Int), (D1 (u0 prog (EV k) AJ k Cd) m ⟨[(10, (V.sl 1 1 (List.map V.str x30))), (27, (V.sl 0 1 (List.map a7 a2))), (28, (I (a2.length : Int))), (29, (I x31))], [], 66⟩).bind Kst = (G4 k a2 K0 m x30 x31).map S5 := by
 intro m
 induction m with
 | zero => intros; rfl
 | succ m ih =>
  intro x30 x31
  unfold G4
  refine et l9 <| kra [(30, (Bo (decide (x31 < (a2.length : Int)))))] rfl <| kc rfl rfl (fun hc => ?_) fun hc => ?_
  ·rw [hc]
   refine et d6 <| et (i8 rfl) <| kg Ca rfl (fun (o33 : (List a6)) => ⟨[(10, (V.sl 1 1 (List.map V.str x30))), (12, (a7 o33)), (27, (V.sl 0 1 (List.map a7 a2))), (28, (I (a2.length : Int))), (29, (I x31))], [], 66⟩) (rs rfl (i2 (e := a7) rfl rfl rfl underlying26 rfl (by decide)) fun v32 => b4 rfl) fun o33 => kr ⟨[(10, (V.sl 1 1 (List.map V.str x30))), (12, (a7 o33)), (13, (aL 13 V.str ([] : List Str))), (27, (V.sl 0 1 (List.map a7 a2))), (28, (I (a2.length : Int))), (29, (I x31))], [(13, ⟨true, 1, List.map V.str ([] : List Str)⟩)], 66⟩ rfl <| et b5 <| krp Cb rfl ⟨[(10, (V.sl 1 1 (List.map V.str x30))), (13, (aL 13 V.str ([] : List Str))), (27, (V.sl 0 1 (List.map a7 a2))), (28, (I (a2.length : Int))), (29, (I x31)), (33, (a7 o33)), (34, (I (o33.length : Int))), (35, (I 0))], [(13, ⟨true, 1, List.map V.str ([] : List Str)⟩)], 66⟩ ?_ ?_
   ·exact rd 1 [(33, (a7 o33))] rfl rfl <| rl rfl (n7 (e := d4) rfl rfl rfl rfl rfl rfl underlying56) <| b4 rfl
   refine et (i8 rfl) <| et p8 ?_
   refine kw k a0 a1 a2 x30 x31 o33 _ _ ?h_match_Format_L2_0 ?hr_match_Format_L2 k 0 ([] : List Str)
   ·intro y54 y55
    exact et j6 <| kgl yq rfl (fun (o58 : (List Str)) => ⟨[(10, (V.sl 1 1 (List.map V.str o58))), (27, (V.sl 0 1 (List.map a7 a2))), (28, (I (a2.length : Int))), (29, (I x31))], [], 66⟩) (ra 2 2 ⟨[(10, (sS x30)), (13, (aL 13 V.str y55)), (27, (V.sl 0 1 (List.map a7 a2))), (28, (I (a2.length : Int))), (29, (I x31)), (33, (a7 o33)), (34, (I (o33.length : Int))), (35, (I y54)), (36, (Bo false)), (58, (V.sl 1 1 (List.map V.str x30))), (59, (aL 13 V.str y55))], [(13, ⟨true, 1, List.map V.str y55⟩)], 66⟩ rfl rfl rfl <| rp rfl (d7 rfl rfl rfl rfl (qx (Fp (e := V.str) rfl) (by intro s i q h; cases h) (qx rfl (by intro s i q h; cases h) rfl)) (im k y55 ([38] : Str)) (.inr (fun _ => rfl))) fun v56 => bd 4 [(60, (Sr v56)), (61, (sS (([v56] : List Str))))] rfl rfl <| et (Q1 (x := (app x30 ([v56] : List Str))) (w := fun v57 => ((V.sl 1 1 (List.map V.str v57)), _)) rfl rfl rfl rfl (nL (e := V.str) rfl rfl rfl rfl rfl rfl rfl rfl rfl rfl (by decide))) <| B6 fun v57 => b4 rfl) fun o58 => et i6 <| kl ⟨[(10, (V.sl 1 1 (List.map V.str o58))), (27, (V.sl 0 1 (List.map a7 a2))), (28, (I (a2.length : Int))), (29, (I (Go.IntKind.wrap .i64 (x31 + 1))))], [], 66⟩ rfl <| et i3 <| ih o58 (Go.IntKind.wrap .i64 (x31 + 1))
   ·intro s; exact hret s
  ·rw [hc]
   exact et p7 <| et j3 <| hK0 x30 x31
theorem ic (k : Nat) (a0 : a8) (a1 : Int) (a2 : (List (List a6))) : EV k 24 [(b6 a0), (I a1), (V.sl 0 1 (List.map a7 a2))] = (F7 k a0 a1 a2).map S5 := by
 cases k with
 | zero => rfl
 | succ k =>
  unfold F7
  refine et (i5 (c := f24c) (N := 66) (regs := AJ) rfl func24 rfl (by decide) rfl rfl rfl) <| kr ⟨[(1, (I a1)), (2, (V.sl 0 1 (List.map a7 a2))), (3, (Pt 3))], [(3, vS 4 (b6 a0))], 66⟩ rfl <| et b5 <| kg BX rfl (fun (o2 : Int) => ⟨[(2, (V.sl 0 1 (List.map a7 a2))), (9, (I o2))], [], 66⟩) (rd 4 [(17, (b6 a0)), (18, (I a1)), (19, (V.sl 0 1 (List.map a7 a2))), (20, (V.sl 0 1 (List.map (fun x => (V.sl 0 1 (List.map a7 x))) ([a2] : List (List (List a6))))))] rfl rfl <| rp rfl (d7 rfl rfl rfl rfl rfl (R8 k a0 a1 ([a2] : List (List (List a6)))) (.inl rfl)) fun v1 => b4 rfl) fun o2 => et b5 <| kra [(25, (Bo (o2 != 0)))] rfl <| kc rfl rfl (fun hc => ?_) fun hc => ?_
  ·rw [hc]
   refine et b5 <| kr ⟨[(6, (Sr ([] : Str))), (7, (I o2))], [], 66⟩ rfl <| et n6 ?_
   rfl
  ·rw [hc]
   refine et d6 <| kr ⟨[(2, (V.sl 0 1 (List.map a7 a2))), (10, (V.sl 1 1 (List.map V.str ([] : List Str))))], [], 66⟩ rfl <| et b5 <| krp BZ rfl ⟨[(10, (V.sl 1 1 (List.map V.str ([] : List Str)))), (27, (V.sl 0 1 (List.map a7 a2))), (28, (I (a2.length : Int))), (29, (I 0))], [], 66⟩ ?_ ?_
   ·exact rd 1 [(27, (V.sl 0 1 (List.map a7 a2)))] rfl rfl <| rl rfl (n7 (e := a7) rfl rfl rfl rfl rfl rfl underlying26) <| b4 rfl
   refine et (i8 rfl) <| et p8 ?_
   refine kv k a0 a1 a2 _ _ ?h_match_Format_L1_0 ?hr_match_Format_L1 k ([] : List Str) 0
   ·intro y59 y60
    refine et j6 <| kg yr rfl (fun (o62 : Str × Int) => ⟨[(6, (Sr o62.1)), (7, (I o62.2))], [], 66⟩) (rd 1 [(64, (sS y59))] rfl rfl <| rp rfl (d7 rfl rfl rfl rfl rfl (im k y59 ([124] : Str)) (.inl rfl)) fun v61 => b4 rfl) fun o62 => et i1 ?_
    rfl
   ·intro s; exact rfl
def pP : (Str × Int) → V × List V := fun r => (.tup [(Sr r.1), (I r.2)], [])
theorem I0 (k : Nat) (a0 : a8) (a1 : b7) : EV k 8 [(b6 a0), (j4 a1)] = (z8 k a0 a1).map pP := by
 cases k with
 | zero => rfl
 | succ k =>
  unfold z8
  refine et (i5 (c := f8c) (N := 60) (regs := f8n) rfl func8 rfl (by decide) rfl rfl rfl) <| kr ⟨[(2, (Pt 2)), (3, (Pt 3))], [(2, vS 4 (b6 a0)), (3, vS 3 (j4 a1))], 60⟩ rfl <| kga HM rfl (fun (o2 : (List Int) × Int) => [(6, (sI o2.1)), (7, (I o2.2))]) (rd 3 [(11, (b6 a0)), (12, (j4 a1)), (13, (u5 (([a1] : List b7))))] rfl rfl <| rp rfl (d7 rfl rfl rfl rfl rfl (bD k a0 ([a1] : List b7)) (.inl rfl)) fun v1 => b4 rfl) fun o2 => et b5 <| kra [(18, (Bo (o2.2 != 0)))] rfl <| kc rfl rfl (fun hc => ?_) fun hc => ?_
  ·rw [hc]
   refine et b5 <| kr ⟨[(4, (Sr ([] : Str))), (5, (I o2.2))], [], 60⟩ rfl <| et n6 ?_
   rfl
  ·rw [hc]
   refine et d6 <| kd HN rfl (fun (o5 : Str) => ⟨[(2, (Pt 2)), (3, (Pt 3)), (6, (sI o2.1)), (8, (Sr o5))], [(2, vS 4 (b6 a0)), (3, vS 3 (j4 a1))], 60⟩) (et (j2 (p := 9) (dk := true) (t := [(2, (Pt 2)), (3, (Pt 3)), (6, (sI o2.1)), (7, (I o2.2)), (18, (Bo false))]) (σ := [(2, vS 4 (b6 a0)), (3, vS 3 (j4 a1))]) (n := 60) rfl (by decide) (by decide) rfl) <| et (j8 (m := 6) (j := 6) (t' := [(2, (Pt 2)), (3, (Pt 3)), (6, (sI o2.1)), (7, (I o2.2)), (18, (Bo false)), (20, (Pt 3)), (21, (Sr a1.fSegment)), (22, (Pt 3)), (23, (Sr a1.fSegment)), (24, (I (a1.fSegment.length : Int))), (25, (I (Go.IntKind.wrap .i64 (8 - (a1.fSegment.length : Int)))))]) rfl rfl rfl) <| et (c8 (x := (strings_Repeat k ([32] : Str) (Go.IntKind.wrap .i64 (8 - (a1.fSegment.length : Int))))) (w := fun v3 => (Sr v3)) rfl rfl rfl rfl rfl (d7 rfl rfl rfl rfl rfl (fJ k ([32] : Str) (Go.IntKind.wrap .i64 (8 - (a1.fSegment.length : Int)))) (.inl rfl))) <| j5 fun v3 => et (i7 (m := 0) (j := 7) (t' := [(2, (Pt 2)), (3, (Pt 3)), (6, (sI o2.1)), (7, (I o2.2)), (18, (Bo false)), (20, (Pt 3)), (21, (Sr a1.fSegment)), (22, (Pt 3)), (23, (Sr a1.fSegment)), (24, (I (a1.fSegment.length : Int))), (25, (I (Go.IntKind.wrap .i64 (8 - (a1.fSegment.length : Int))))), (26, (Sr v3))]) rfl rfl rfl) <| et (c8 (x := (cat a1.fSegment v3)) (w := fun v4 => (Sr v4)) rfl rfl rfl rfl rfl (E7 rfl rfl rfl)) <| B6 fun v4 => j9 rfl) fun o5 => et b5 <| kra [(30, (Bo (!(a1.fCodes == ([] : Str)))))] rfl <| kc rfl rfl (fun hc => ?_) fun hc => ?_
   ·rw [hc]
    refine kg HO rfl (fun (o8 : Str) => ⟨[(2, (Pt 2)), (3, (Pt 3)), (6, (sI o2.1)), (8, (Sr o8))], [(2, vS 4 (b6 a0)), (3, vS 3 (j4 a1))], 60⟩) (rd 3 [(31, (Sr o5)), (32, (V.ptr 3 0 1)), (33, (Sr a1.fCodes))] rfl rfl <| rp rfl (E7 rfl rfl rfl) fun v6 => bd 4 [(34, (Sr v6))] rfl rfl <| rs rfl (E7 rfl rfl rfl) fun v7 => b4 rfl) fun o8 => et b5 <| krp FP rfl ⟨[(2, (Pt 2)), (3, (Pt 3)), (6, (sI o2.1)), (8, (Sr o8)), (39, (Bo ((a1.fWhen.length : Int) == 0)))], [(2, vS 4 (b6 a0)), (3, vS 3 (j4 a1))], 60⟩ ?_ ?_
    ·exact rd 2 [(36, (V.ptr 3 0 2)), (37, (V.sl 0 1 (List.map a7 a1.fWhen)))] rfl rfl <| rl rfl (n7 (e := a7) rfl rfl rfl rfl rfl rfl underlying26) <| b4 rfl
    refine kc rfl rfl (fun hc => ?_) fun hc => ?_
    ·rw [hc]
     refine et b5 <| kg FQ rfl (fun (o10 : Str × Int) => ⟨[(4, (Sr o10.1)), (5, (I o10.2))], [], 60⟩) (rd 1 [(40, (Sr o8))] rfl rfl <| rp rfl (E7 rfl rfl rfl) fun v9 => b4 rfl) fun o10 => et n6 ?_
     rfl
    ·rw [hc]
     refine et d6 <| kd FR rfl (fun (o13 : Int × Str) => ⟨[(7, (I o13.1)), (8, (Sr o8)), (9, (Sr o13.2))], [], 60⟩) (et (j2 (p := 12) (dk := true) (t := [(2, (Pt 2)), (3, (Pt 3)), (6, (sI o2.1)), (8, (Sr o8)), (39, (Bo false))]) (σ := [(2, vS 4 (b6 a0)), (3, vS 3 (j4 a1))]) (n := 60) rfl (by decide) (by decide) rfl) <| et (j8 (m := 2) (j := 2) (t' := [(2, (Pt 2)), (3, (Pt 3)), (6, (sI o2.1)), (8, (Sr o8)), (39, (Bo false)), (43, (b6 a0)), (44, (sI o2.1))]) rfl rfl rfl) <| et (c8 (x := (idx o2.1 0)) (w := fun v11 => (Pr (I v11))) rfl rfl rfl rfl rfl (i2 (e := I) rfl rfl rfl underlying58 rfl (by decide))) <| j5 fun v11 => et (i7 (m := 3) (j := 6) (t' := [(2, (Pt 2)), (3, (Pt 3)), (6, (sI o2.1)), (8, (Sr o8)), (39, (Bo false)), (43, (b6 a0)), (44, (sI o2.1)), (45, (Pr (I v11))), (46, (I v11)), (47, (V.ptr 3 0 2)), (48, (V.sl 0 1 (List.map a7 a1.fWhen)))]) rfl rfl rfl) <| et (c8 (x := (F7 k a0 v11 a1.fWhen)) (w := fun v12 => (V.tup [(Sr v12.1), (I v12.2)])) rfl rfl rfl rfl rfl (d7 rfl rfl rfl rfl rfl (ic k a0 v11 a1.fWhen) (.inl rfl))) <| j5 fun v12 => j9 rfl) fun o13 => et b5 <| kra [(53, (Bo (o13.1 != 0)))] rfl <| kc rfl rfl (fun hc => ?_) fun hc => ?_
     ·rw [hc]
      refine et b5 <| kr ⟨[(4, (Sr ([] : Str))), (5, (I o13.1))], [], 60⟩ rfl <| et n6 ?_
      rfl
     ·rw [hc]
      refine et d6 <| kg zk rfl (fun (o17 : Str × Int) => ⟨[(4, (Sr o17.1)), (5, (I o17.2))], [], 60⟩) (rd 1 [(55, (Sr o8))] rfl rfl <| rp rfl (E7 rfl rfl rfl) fun v14 => bd 3 [(56, (Sr v14)), (57, (Sr o13.2))] rfl rfl <| rp rfl (E7 rfl rfl rfl) fun v15 => bd 4 [(58, (Sr v15))] rfl rfl <| rp rfl (E7 rfl rfl rfl) fun v16 => b4 rfl) fun o17 => et i1 ?_
      rfl
   ·rw [hc]
    refine et d6 <| et b5 <| krp FP rfl ⟨[(2, (Pt 2)), (3, (Pt 3)), (6, (sI o2.1)), (8, (Sr o5)), (39, (Bo ((a1.fWhen.length : Int) == 0)))], [(2, vS 4 (b6 a0)), (3, vS 3 (j4 a1))], 60⟩ ?_ ?_
    ·exact rd 2 [(36, (V.ptr 3 0 2)), (37, (V.sl 0 1 (List.map a7 a1.fWhen)))] rfl rfl <| rl rfl (n7 (e := a7) rfl rfl rfl rfl rfl rfl underlying26) <| b4 rfl
    refine kc rfl rfl (fun hc => ?_) fun hc => ?_
    ·rw [hc]
     refine et b5 <| kg FQ rfl (fun (o19 : Str × Int) => ⟨[(4, (Sr o19.1)), (5, (I o19.2))], [], 60⟩) (rd 1 [(40, (Sr o5))] rfl rfl <| rp rfl (E7 rfl rfl rfl) fun v18 => b4 rfl) fun o19 => et n6 ?_
     rfl
    ·rw [hc]
     refine et d6 <| kd FR rfl (fun (o22 : Int × Str) => ⟨[(7, (I o22.1)), (8, (Sr o5)), (9, (Sr o22.2))], [], 60⟩) (et (j2 (p := 12) (dk := true) (t := [(2, (Pt 2)), (3, (Pt 3)), (6, (sI o2.1)), (8, (Sr o5)), (39, (Bo false))]) (σ := [(2, vS 4 (b6 a0)), (3, vS 3 (j4 a1))]) (n := 60) rfl (by decide) (by decide) rfl) <| et (j8 (m := 2) (j := 2) (t' := [(2, (Pt 2)), (3, (Pt 3)), (6, (sI o2.1)), (8, (Sr o5)), (39, (Bo false)), (43, (b6 a0)), (44, (sI o2.1))]) rfl rfl rfl) <| et (c8 (x := (idx o2.1 0)) (w := fun v20 => (Pr (I v20))) rfl rfl rfl rfl rfl (i2 (e := I) rfl rfl rfl underlying58 rfl (by decide))) <| j5 fun v20 => et (i7 (m := 3) (j := 6) (t' := [(2, (Pt 2)), (3, (Pt 3)), (6, (sI o2.1)), (8, (Sr o5)), (39, (Bo false)), (43, (b6 a0)), (44, (sI o2.1)), (45, (Pr (I v20))), (46, (I v20)), (47, (V.ptr 3 0 2)), (48, (V.sl 0 1 (List.map a7 a1.fWhen)))]) rfl rfl rfl) <| et (c8 (x := (F7 k a0 v20 a1.fWhen)) (w := fun v21 => (V.tup [(Sr v21.1), (I v21.2)])) rfl rfl rfl rfl rfl (d7 rfl rfl rfl rfl rfl (ic k a0 v20 a1.fWhen) (.inl rfl))) <| j5 fun v21 => j9 rfl) fun o22 => et b5 <| kra [(53, (Bo (o22.1 != 0)))] rfl <| kc rfl rfl (fun hc => ?_) fun hc => ?_
     ·rw [hc]
      refine et b5 <| kr ⟨[(4, (Sr ([] : Str))), (5, (I o22.1))], [], 60⟩ rfl <| et n6 ?_
      rfl
     ·rw [hc]
      refine et d6 <| kg zk rfl (fun (o26 : Str × Int) => ⟨[(4, (Sr o26.1)), (5, (I o26.2))], [], 60⟩) (rd 1 [(55, (Sr o5))] rfl rfl <| rp rfl (E7 rfl rfl rfl) fun v23 => bd 3 [(56, (Sr v23)), (57, (Sr o22.2))] rfl rfl <| rp rfl (E7 rfl rfl rfl) fun v24 => bd 4 [(58, (Sr v24))] rfl rfl <| rp rfl (E7 rfl rfl rfl) fun v25 => b4 rfl) fun o26 => et i1 ?_
      rfl
def nX : Bool → V × List V := fun r => ((Bo r), [])
theorem X5 (k : Nat)  : EV k 7 [] = (P4 k).map nX := by
 cases k with
 | zero => rfl
 | succ k =>
  unfold P4
  refine et (i5 (c := f7c) (N := 36) (regs := f7n) rfl func7 rfl (by decide) rfl rfl rfl) <| kra [] rfl <| kr ⟨[(1, (Pt 1))], [(1, ⟨false, 3, [(j4 ({ fSegment := ([79, 82, 68, 69, 82] : Str), fCodes := ([68] : Str), fWhen := ([([({ fField := ([79, 82, 68, 78, 79] : Str), fOp := 1, fValue := ([48, 48, 48, 53] : Str) } : a6)] : List a6)] : List (List a6)) } : b7))]⟩)], 36⟩ rfl <| kd HE rfl (fun (o3 : Str × Int) => ⟨[(2, (Sr o3.1)), (3, (I o3.2))], [], 36⟩) (et (j2 (p := 8) (dk := true) (t := [(1, (Pt 1))]) (σ := [(1, ⟨false, 3, [(j4 ({ fSegment := ([79, 82, 68, 69, 82] : Str), fCodes := ([68] : Str), fWhen := ([([({ fField := ([79, 82, 68, 78, 79] : Str), fOp := 1, fValue := ([48, 48, 48, 53] : Str) } : a6)] : List a6)] : List (List a6)) } : b7))]⟩)]) (n := 36) rfl (by decide) (by decide) rfl) <| et (c8 (x := (bP k)) (w := fun v1 => (b6 v1)) rfl rfl rfl rfl rfl (d7 rfl rfl rfl rfl rfl (jP k) (.inl rfl))) <| j5 fun v1 => et (i7 (m := 1) (j := 2) (t' := [(1, (Pt 1)), (11, (b6 v1)), (12, (j4 ({ fSegment := ([79, 82, 68, 69, 82] : Str), fCodes := ([68] : Str), fWhen := ([([({ fField := ([79, 82, 68, 78, 79] : Str), fOp := 1, fValue := ([48, 48, 48, 53] : Str) } : a6)] : List a6)] : List (List a6)) } : b7)))]) rfl rfl rfl) <| et (c8 (x := (z8 k v1 ({ fSegment := ([79, 82, 68, 69, 82] : Str), fCodes := ([68] : Str), fWhen := ([([({ fField := ([79, 82, 68, 78, 79] : Str), fOp := 1, fValue := ([48, 48, 48, 53] : Str) } : a6)] : List a6)] : List (List a6)) } : b7))) (w := fun v2 => (V.tup [(Sr v2.1), (I v2.2)])) rfl rfl rfl rfl rfl (d7 rfl rfl rfl rfl rfl (I0 k v1 ({ fSegment := ([79, 82, 68, 69, 82] : Str), fCodes := ([68] : Str), fWhen := ([([({ fField := ([79, 82, 68, 78, 79] : Str), fOp := 1, fValue := ([48, 48, 48, 53] : Str) } : a6)] : List a6)] : List (List a6)) } : b7)) (.inl rfl))) <| j5 fun v2 => j9 rfl) fun o3 => kga HF rfl (fun (o6 : Str × Int) => [(4, (Sr o6.1)), (5, (I o6.2))]) (rp rfl (d7 rfl rfl rfl rfl rfl (jP k) (.inl rfl)) fun v4 => bd 2 [(17, (b6 v4)), (18, (j4 ({ fSegment := ([67, 85, 83, 84] : Str), fCodes := [], fWhen := ([] : List (List a6)) } : b7)))] rfl rfl <| rp rfl (d7 rfl rfl rfl rfl rfl (I0 k v4 ({ fSegment := ([67, 85, 83, 84] : Str), fCodes := [], fWhen := ([] : List (List a6)) } : b7)) (.inl rfl)) fun v5 => b4 rfl) fun o6 => kg HG rfl (fun (o7 : Bool) => ⟨[(0, (Bo o7))], [], 36⟩) ?_ fun o7 => ?_
  ·refine rd 3 [(22, (I o3.2)), (23, (Bo (o3.2 == 0))), (24, (Bo (o3.2 == 0)))] rfl rfl <| n5 (fun hc => ?_) fun hc => ?_
   ·rw [hc]
    refine rd 7 [(25, (I o6.2)), (26, (Bo (o6.2 == 0))), (27, (Bo (o6.2 == 0))), (28, (Bo (o6.2 == 0)))] rfl rfl <| n5 (fun hc => ?_) fun hc => ?_
    ·rw [hc]
     refine rd 11 [(29, (Sr o3.1)), (30, (Bo (o3.1 == ([79, 82, 68, 69, 82, 32, 32, 32, 42, 68, 40, 79, 82, 68, 78, 79, 32, 32, 32, 61, 32, 48, 48, 48, 53, 41] : Str)))), (31, (Bo (o3.1 == ([79, 82, 68, 69, 82, 32, 32, 32, 42, 68, 40, 79, 82, 68, 78, 79, 32, 32, 32, 61, 32, 48, 48, 48, 53, 41] : Str)))), (32, (Bo (o3.1 == ([79, 82, 68, 69, 82, 32, 32, 32, 42, 68, 40, 79, 82, 68, 78, 79, 32, 32, 32, 61, 32, 48, 48, 48, 53, 41] : Str))))] rfl rfl <| n5 (fun hc => ?_) fun hc => ?_
     ·rw [hc]
      exact d5 rfl
     ·rw [hc]
      exact d5 rfl
    ·rw [hc]
     exact d5 rfl
   ·rw [hc]
    exact d5 rfl
  refine et i1 ?_
  rfl
def bX : Bool → V × List V := fun r => ((Bo r), [])
theorem kB (k : Nat) (a0 : Str)  (K0 : Int → Option Bool) (Kst : X × St → Option (V × List V)) (hK0 : ∀ (y0 : Int), Kst (X.exit 0, ⟨[(0, (Sr a0)), (3, (I y0)), (8, (Bo false))], [], 47⟩) = (K0 y0).map bX) (hret : ∀ s, Kst (X.ret, s) = F3 prog 47 [(Sr a0)] [] [.tmp 2] (X.ret, s)) :
  ∀ (m : Nat) (x7 : Int), (D1 (u0 prog (EV k) FI k DI) m ⟨[(0, (Sr a0)), (3, (I x7))], [], 47⟩).bind Kst = (O9 a0 K0 m x7).map bX := by
 intro m
 induction m with
 | zero => intros; rfl
 | succ m ih =>
  intro x7
  unfold O9
  refine et l9 <| et b5 <| kra [(8, (Bo (decide (x7 < (a0.length : Int)))))] rfl <| kc rfl rfl (fun hc => ?_) fun hc => ?_
  ·rw [hc]
   refine et d6 <| et (i8 rfl) <| kg DF rfl (fun (o10 : Bool) => ⟨[(0, (Sr a0)), (3, (I x7)), (4, (Bo o10))], [], 47⟩) ?_ fun o10 => ?_
   ·refine rd 2 [(11, (Sr a0)), (12, (I x7))] rfl rfl <| rp rfl (w5 rfl rfl rfl underlying9) fun v8 => bd 5 [(13, (V.int .u8 v8)), (14, (Bo (decide (v8 ≥ 65)))), (15, (Bo (decide (v8 ≥ 65))))] rfl rfl <| n5 (fun hc => ?_) fun hc => ?_
    ·rw [hc]
     exact rd 7 [(16, (Sr a0)), (17, (I x7))] rfl rfl <| rp rfl (w5 rfl rfl rfl underlying9) fun v9 => b4 rfl
    ·rw [hc]
     exact d5 rfl
   refine kg DG rfl (fun (o13 : Bool) => ⟨[(0, (Sr a0)), (3, (I x7)), (38, (Bo o13))], [], 47⟩) ?_ fun o13 => ?_
   ·refine rd 3 [(21, (Bo o10)), (22, (Bo (!o10))), (23, (Bo (!o10)))] rfl rfl <| n5 (fun hc => ?_) fun hc => ?_
    ·rw [hc]
     refine rd 6 [(24, (I x7)), (25, (Bo (x7 == 0))), (26, (Bo (x7 == 0)))] rfl rfl <| n5 (fun hc => ?_) fun hc => ?_
     ·rw [hc]
      exact d5 rfl
     ·rw [hc]
      refine rd 8 [(27, (Sr a0)), (28, (I x7))] rfl rfl <| rp rfl (w5 rfl rfl rfl underlying9) fun v11 => bd 12 [(29, (V.int .u8 v11)), (30, (Bo (decide (v11 < 48)))), (31, (Bo (decide (v11 < 48)))), (32, (Bo (decide (v11 < 48))))] rfl rfl <| n5 (fun hc => ?_) fun hc => ?_
      ·rw [hc]
       exact d5 rfl
      ·rw [hc]
       exact rd 14 [(33, (Sr a0)), (34, (I x7))] rfl rfl <| rp rfl (w5 rfl rfl rfl underlying9) fun v12 => b4 rfl
    ·rw [hc]
     exact d5 rfl
   refine kcl rfl rfl (fun hc => ?_) fun hc => ?_
   ·rw [hc]
    refine kr ⟨[(2, (Bo false))], [], 47⟩ rfl <| et i1 <| et l5 <| et l8 <| et (hret _) ?_
    rfl
   ·rw [hc]
    exact et m9 <| et i6 <| kl ⟨[(0, (Sr a0)), (3, (I (Go.IntKind.wrap .i64 (x7 + 1))))], [], 47⟩ rfl <| et i3 <| ih (Go.IntKind.wrap .i64 (x7 + 1))
  ·rw [hc]
   exact et p7 <| et j3 <| hK0 x7
theorem aE (k : Nat) (a0 : Str) : EV k 56 [(Sr a0)] = (K3 k a0).map bX := by
 cases k with
 | zero => rfl
 | succ k =>
  unfold K3
  refine et (i5 (c := f56c) (N := 47) (regs := FI) rfl func56 rfl (by decide) rfl rfl rfl) <| kra [] rfl <| et b5 <| kra [(3, (I 0))] rfl <| et (i8 rfl) <| et p8 ?_
  refine kB k a0 _ _ ?h_ref11_IsName_L1_0 ?hr_ref11_IsName_L1 k 0
  ·intro y14
   refine et j6 <| kg DH rfl (fun (o15 : Bool) => ⟨[(2, (Bo o15))], [], 47⟩) ?_ fun o15 => ?_
   ·refine rd 4 [(39, (Sr a0)), (40, (I (a0.length : Int))), (41, (Bo (decide ((a0.length : Int) ≥ 1)))), (42, (Bo (decide ((a0.length : Int) ≥ 1))))] rfl rfl <| n5 (fun hc => ?_) fun hc => ?_
    ·rw [hc]
     exact d5 rfl
    ·rw [hc]
     exact d5 rfl
   refine et i1 ?_
   rfl
  ·intro s; exact rfl
def S8 : Bool → V × List V := fun r => ((Bo r), [])
theorem kD (k : Nat) (a0 : b8) (x11 : Int) (o13 : i4)  (K0 : Int → Option Bool) (Kst : X × St → Option (V × List V)) (hK0 : ∀ (y0 : Int), Kst (X.exit 2, ⟨[(1, (Pt 1)), (3, (I x11)), (4, (Pt 4)), (5, (I y0)), (51, (Bo false))], [(1, vS 8 (j0 a0)), (4, vS 3 (l6 o13))], 112⟩) = (K0 y0).map S8) (hret : ∀ s, Kst (X.ret, s) = F3 prog 112 [(j0 a0)] [] [.tmp 2] (X.ret, s)) :
  ∀ (m : Nat) (x18 : Int), (D1 (u0 prog (EV k) AN k DM) m ⟨[(1, (Pt 1)), (3, (I x11)), (4, (Pt 4)), (5, (I x18))], [(1, vS 8 (j0 a0)), (4, vS 3 (l6 o13))], 112⟩).bind Kst = (G5 a0 x11 o13 K0 m x18).map S8 := by
 intro m
 induction m with
 | zero => intros; rfl
 | succ m ih =>
  intro x18
  unfold G5
  refine et l9 <| et b5 <| kra [(51, (Bo (decide (x18 < x11))))] rfl <| kc rfl rfl (fun hc => ?_) fun hc => ?_
  ·rw [hc]
   refine et d6 <| et (i8 rfl) <| kd zd rfl (fun (o20 : Bool) => ⟨[(1, (Pt 1)), (3, (I x11)), (4, (Pt 4)), (5, (I x18)), (62, (Bo o20))], [(1, vS 8 (j0 a0)), (4, vS 3 (l6 o13))], 112⟩) (et (j2 (p := 9) (dk := true) (t := [(1, (Pt 1)), (3, (I x11)), (4, (Pt 4)), (5, (I x18)), (51, (Bo true))]) (σ := [(1, vS 8 (j0 a0)), (4, vS 3 (l6 o13))]) (n := 112) rfl (by decide) (by decide) rfl) <| et (j8 (m := 3) (j := 3) (t' := [(1, (Pt 1)), (3, (I x11)), (4, (Pt 4)), (5, (I x18)), (51, (Bo true)), (54, (V.ptr 1 0 4)), (55, (k0 a0.fFields)), (56, (I x18))]) rfl rfl rfl) <| et (c8 (x := (idx a0.fFields x18)) (w := fun v19 => (Pr (l6 v19))) rfl rfl rfl rfl rfl (i2 (e := l6) rfl rfl rfl underlying46 rfl (by decide))) <| j5 fun v19 => j9 rfl) fun o20 => kcl rfl rfl (fun hc => ?_) fun hc => ?_
   ·rw [hc]
    refine kr ⟨[(2, (Bo false))], [], 112⟩ rfl <| et i1 <| et l5 <| et l8 <| et (hret _) ?_
    rfl
   ·rw [hc]
    exact et m9 <| et i6 <| kl ⟨[(1, (Pt 1)), (3, (I x11)), (4, (Pt 4)), (5, (I (Go.IntKind.wrap .i64 (x18 + 1))))], [(1, vS 8 (j0 a0)), (4, vS 3 (l6 o13))], 112⟩ rfl <| et i3 <| ih (Go.IntKind.wrap .i64 (x18 + 1))
  ·rw [hc]
   exact et p7 <| et j3 <| hK0 x18
theorem kC (k : Nat) (a0 : b8)  (K0 : Int → Option Bool) (Kst : X × St → Option (V × List V)) (hK0 : ∀ (y0 : Int), Kst (X.exit 0, ⟨[(1, (Pt 1)), (3, (I y0)), (10, (Bo false))], [(1, vS 8 (j0 a0))], 112⟩) = (K0 y0).map S8) (hret : ∀ s, Kst (X.ret, s) = F3 prog 112 [(j0 a0)] [] [.tmp 2] (X.ret, s)) :
  ∀ (m : Nat) (x11 : Int), (D1 (u0 prog (EV k) AN k DN) m ⟨[(1, (Pt 1)), (3, (I x11))], [(1, vS 8 (j0 a0))], 112⟩).bind Kst = (J1 k a0 K0 m x11).map S8 := by
 intro m
 induction m with
 | zero => intros; rfl
 | succ m ih =>
  intro x11
  unfold J1
  refine et l9 <| et b5 <| krp DJ rfl ⟨[(1, (Pt 1)), (3, (I x11)), (10, (Bo (decide (x11 < (a0.fFields.length : Int)))))], [(1, vS 8 (j0 a0))], 112⟩ ?_ ?_
  ·exact rd 3 [(6, (I x11)), (7, (V.ptr 1 0 4)), (8, (k0 a0.fFields))] rfl rfl <| rl rfl (n7 (e := l6) rfl rfl rfl rfl rfl rfl underlying46) <| b4 rfl
  refine kc rfl rfl (fun hc => ?_) fun hc => ?_
  ·rw [hc]
   refine et d6 <| et (i8 rfl) <| kg DK rfl (fun (o13 : i4) => ⟨[(1, (Pt 1)), (3, (I x11)), (4, (Pt 4))], [(1, vS 8 (j0 a0)), (4, vS 3 (l6 o13))], 112⟩) (rd 3 [(13, (V.ptr 1 0 4)), (14, (k0 a0.fFields)), (15, (I x11))] rfl rfl <| rs rfl (i2 (e := l6) rfl rfl rfl underlying46 rfl (by decide)) fun v12 => b4 rfl) fun o13 => et b5 <| kga DL rfl (fun (o15 : Bool) => [(48, (Bo o15))]) ?_ fun o15 => ?_
   ·refine rd 2 [(18, (Pt 4)), (19, (Sr o13.fName))] rfl rfl <| rp rfl (d7 rfl rfl rfl rfl rfl (aE k o13.fName) (.inl rfl)) fun v14 => bd 5 [(20, (Bo v14)), (21, (Bo (!v14))), (22, (Bo (!v14)))] rfl rfl <| n5 (fun hc => ?_) fun hc => ?_
    ·rw [hc]
     exact d5 rfl
    ·rw [hc]
     refine rd 10 [(23, (V.ptr 4 0 1)), (24, (I o13.fAt)), (25, (Bo (decide (o13.fAt < 0)))), (26, (Bo (decide (o13.fAt < 0)))), (27, (Bo (decide (o13.fAt < 0))))] rfl rfl <| n5 (fun hc => ?_) fun hc => ?_
     ·rw [hc]
      exact d5 rfl
     ·rw [hc]
      refine rd 17 [(28, (V.ptr 4 0 1)), (29, (I o13.fAt)), (30, (V.ptr 1 0 3)), (31, (I a0.fSize)), (32, (Bo (decide (o13.fAt > a0.fSize)))), (33, (Bo (decide (o13.fAt > a0.fSize)))), (34, (Bo (decide (o13.fAt > a0.fSize))))] rfl rfl <| n5 (fun hc => ?_) fun hc => ?_
      ·rw [hc]
       exact d5 rfl
      ·rw [hc]
       refine rd 22 [(35, (V.ptr 4 0 2)), (36, (I o13.fBytes)), (37, (Bo (decide (o13.fBytes < 1)))), (38, (Bo (decide (o13.fBytes < 1)))), (39, (Bo (decide (o13.fBytes < 1))))] rfl rfl <| n5 (fun hc => ?_) fun hc => ?_
       ·rw [hc]
        exact d5 rfl
       ·rw [hc]
        exact d5 rfl
   refine kc rfl rfl (fun hc => ?_) fun hc => ?_
   ·rw [hc]
    refine et b5 <| kr ⟨[(2, (Bo false))], [], 112⟩ rfl <| et n6 <| et l5 <| et l8 <| et (hret _) ?_
    rfl
   ·rw [hc]
    refine et d6 <| kr ⟨[(1, (Pt 1)), (3, (I x11)), (4, (Pt 4)), (5, (I 0))], [(1, vS 8 (j0 a0)), (4, vS 3 (l6 o13))], 112⟩ rfl <| et (G7 rfl) <| et p8 ?_
    refine kD k a0 x11 o13 _ _ ?h_ref11_fields_L2_0 ?hr_ref11_fields_L2 k 0
    ·intro y21
     exact et j6 <| et m9 <| et i6 <| kl ⟨[(1, (Pt 1)), (3, (I (Go.IntKind.wrap .i64 (x11 + 1))))], [(1, vS 8 (j0 a0))], 112⟩ rfl <| et i3 <| ih (Go.IntKind.wrap .i64 (x11 + 1))
    ·intro s; exact hret s
  ·rw [hc]
   exact et p7 <| et j3 <| hK0 x11
theorem oe (k : Nat) (a0 : b8) : EV k 57 [(j0 a0)] = (bt k a0).map S8 := by
 cases k with
 | zero => rfl
 | succ k =>
  unfold bt
  refine et (i5 (c := f57c) (N := 112) (regs := AN) rfl func57 rfl (by decide) rfl rfl rfl) <| kr ⟨[(1, (Pt 1))], [(1, vS 8 (j0 a0))], 112⟩ rfl <| et b5 <| kra [(3, (I 0))] rfl <| et (i8 rfl) <| et p8 ?_
  refine kC k a0 _ _ ?h_ref11_fields_L1_0 ?hr_ref11_fields_L1 k 0
  ·intro y22
   refine et j6 <| et b5 <| kg ze rfl (fun (o23 : Bool) => ⟨[(1, (Pt 1)), (82, (Bo o23))], [(1, vS 8 (j0 a0))], 112⟩) ?_ fun o23 => ?_
   ·refine rd 4 [(63, (V.ptr 1 0 5)), (64, (I a0.fKey)), (65, (Bo (decide (a0.fKey < (-1))))), (66, (Bo (decide (a0.fKey < (-1)))))] rfl rfl <| n5 (fun hc => ?_) fun hc => ?_
    ·rw [hc]
     exact d5 rfl
    ·rw [hc]
     refine rd 8 [(67, (V.ptr 1 0 5)), (68, (I a0.fKey)), (69, (V.ptr 1 0 4)), (70, (k0 a0.fFields))] rfl rfl <| rl rfl (n7 (e := l6) rfl rfl rfl rfl rfl rfl underlying46) <| bd 12 [(71, (I (a0.fFields.length : Int))), (72, (Bo (decide (a0.fKey ≥ (a0.fFields.length : Int))))), (73, (Bo (decide (a0.fKey ≥ (a0.fFields.length : Int))))), (74, (Bo (decide (a0.fKey ≥ (a0.fFields.length : Int)))))] rfl rfl <| n5 (fun hc => ?_) fun hc => ?_
     ·rw [hc]
      exact d5 rfl
     ·rw [hc]
      refine rd 16 [(75, (V.ptr 1 0 5)), (76, (I a0.fKey)), (77, (Bo (decide (a0.fKey < 0)))), (78, (Bo (decide (a0.fKey < 0))))] rfl rfl <| n5 (fun hc => ?_) fun hc => ?_
      ·rw [hc]
       exact d5 rfl
      ·rw [hc]
       exact d5 rfl
   refine kc rfl rfl (fun hc => ?_) fun hc => ?_
   ·rw [hc]
    refine et b5 <| kr ⟨[(2, (Bo false))], [], 112⟩ rfl <| et n6 ?_
    rfl
   ·rw [hc]
    refine et d6 <| kd zf rfl (fun (o26 : Bool) => ⟨[(2, (Bo o26))], [], 112⟩) ?_ fun o26 => ?_
    ·refine et (j2 (p := 30) (dk := true) (t := [(1, (Pt 1)), (82, (Bo false))]) (σ := [(1, vS 8 (j0 a0))]) (n := 112) rfl (by decide) (by decide) rfl) <| et (j8 (m := 2) (j := 2) (t' := [(1, (Pt 1)), (82, (Bo false)), (83, (V.ptr 1 0 4)), (84, (k0 a0.fFields))]) rfl rfl rfl) <| et (c8 (x := some ()) (w := fun _ => (I (a0.fFields.length : Int))) rfl rfl rfl rfl rfl (n7 (e := l6) rfl rfl rfl rfl rfl rfl underlying46)) <| et ag <| et (i7 (m := 2) (j := 5) (t' := [(1, (Pt 1)), (82, (Bo false)), (83, (V.ptr 1 0 4)), (84, (k0 a0.fFields)), (85, (I (a0.fFields.length : Int))), (86, (Bo (decide ((a0.fFields.length : Int) ≤ 5)))), (87, (Bo (decide ((a0.fFields.length : Int) ≤ 5))))]) rfl rfl rfl) <| n5 (fun hc => ?_) fun hc => ?_
     ·rw [hc]
      refine et (j8 (m := 4) (j := 9) (t' := [(1, (Pt 1)), (82, (Bo false)), (83, (V.ptr 1 0 4)), (84, (k0 a0.fFields)), (85, (I (a0.fFields.length : Int))), (86, (Bo true)), (87, (Bo true)), (88, (V.ptr 1 0 5)), (89, (I a0.fKey)), (90, (Bo (decide (a0.fKey < 0)))), (91, (Bo (decide (a0.fKey < 0))))]) rfl rfl rfl) <| n5 (fun hc => ?_) fun hc => ?_
      ·rw [hc]
       exact j9 rfl
      ·rw [hc]
       exact et (j8 (m := 4) (j := 13) (t' := [(1, (Pt 1)), (82, (Bo false)), (83, (V.ptr 1 0 4)), (84, (k0 a0.fFields)), (85, (I (a0.fFields.length : Int))), (86, (Bo true)), (87, (Bo true)), (88, (V.ptr 1 0 5)), (89, (I a0.fKey)), (90, (Bo false)), (91, (Bo false)), (92, (V.ptr 1 0 4)), (93, (k0 a0.fFields)), (94, (V.ptr 1 0 5)), (95, (I a0.fKey))]) rfl rfl rfl) <| et (c8 (x := (idx a0.fFields a0.fKey)) (w := fun v24 => (Pr (l6 v24))) rfl rfl rfl rfl rfl (i2 (e := l6) rfl rfl rfl underlying46 rfl (by decide))) <| j5 fun v24 => et (i7 (m := 6) (j := 20) (t' := [(1, (Pt 1)), (82, (Bo false)), (83, (V.ptr 1 0 4)), (84, (k0 a0.fFields)), (85, (I (a0.fFields.length : Int))), (86, (Bo true)), (87, (Bo true)), (88, (V.ptr 1 0 5)), (89, (I a0.fKey)), (90, (Bo false)), (91, (Bo false)), (92, (V.ptr 1 0 4)), (93, (k0 a0.fFields)), (94, (V.ptr 1 0 5)), (95, (I a0.fKey)), (96, (Pr (l6 v24))), (97, (Pr (I v24.fAt))), (98, (I v24.fAt)), (99, (V.ptr 1 0 4)), (100, (k0 a0.fFields)), (101, (V.ptr 1 0 5)), (102, (I a0.fKey))]) rfl rfl rfl) <| et (c8 (x := (idx a0.fFields a0.fKey)) (w := fun v25 => (Pr (l6 v25))) rfl rfl rfl rfl rfl (i2 (e := l6) rfl rfl rfl underlying46 rfl (by decide))) <| j5 fun v25 => j9 rfl
     ·rw [hc]
      exact j9 rfl
    refine et i1 ?_
    rfl
  ·intro s; exact rfl
def dt : Bool → V × List V := fun r => ((Bo r), [])
theorem lR (k : Nat) (a0 : a8) (a1 : Int) (a2 : Int)  (K0 : Int → Option Bool) (Kst : X × St → Option (V × List V)) (hK0 : ∀ (y0 : Int), Kst (X.exit 0, ⟨[(1, (I a1)), (2, (I y0)), (3, (Pt 3)), (14, (Bo false))], [(3, vS 4 (b6 a0))], 24⟩) = (K0 y0).map dt) (hret : ∀ s, Kst (X.ret, s) = F3 prog 24 [(b6 a0), (I a1), (I a2)] [] [.tmp 6] (X.ret, s)) :
  ∀ (m : Nat) (x5 : Int), (D1 (u0 prog (EV k) FJ k DQ) m ⟨[(1, (I a1)), (2, (I x5)), (3, (Pt 3))], [(3, vS 4 (b6 a0))], 24⟩).bind Kst = (S7 a0 a1 K0 m x5).map dt := by
 intro m
 induction m with
 | zero => intros; rfl
 | succ m ih =>
  intro x5
  unfold S7
  refine et l9 <| et b5 <| kra [(14, (Bo (decide (x5 ≥ 0))))] rfl <| kc rfl rfl (fun hc => ?_) fun hc => ?_
  ·rw [hc]
   refine et d6 <| et (i8 rfl) <| kr ⟨[(1, (I a1)), (2, (I x5)), (3, (Pt 3)), (23, (Bo (x5 == a1)))], [(3, vS 4 (b6 a0))], 24⟩ rfl <| kcl rfl rfl (fun hc => ?_) fun hc => ?_
   ·rw [hc]
    refine kr ⟨[(6, (Bo true))], [], 24⟩ rfl <| et i1 <| et l5 <| et l8 <| et (hret _) ?_
    rfl
   ·rw [hc]
    exact et m9 <| et i6 <| kgl DP rfl (fun (o7 : Int) => ⟨[(1, (I a1)), (2, (I o7)), (3, (Pt 3))], [(3, vS 4 (b6 a0))], 24⟩) (ra 3 3 ⟨[(1, (I a1)), (2, (I x5)), (3, (Pt 3)), (15, (V.ptr 3 0 2)), (16, (l7 a0.fTypes)), (17, (I x5)), (23, (Bo false))], [(3, vS 4 (b6 a0))], 24⟩ rfl rfl rfl <| rp rfl (i2 (e := j0) rfl rfl rfl underlying22 rfl (by decide)) fun v6 => b4 rfl) fun o7 => et i3 <| ih o7
  ·rw [hc]
   exact et p7 <| et j3 <| hK0 x5
theorem jc (k : Nat) (a0 : a8) (a1 : Int) (a2 : Int) : EV k 58 [(b6 a0), (I a1), (I a2)] = (aU k a0 a1 a2).map dt := by
 cases k with
 | zero => rfl
 | succ k =>
  unfold aU
  refine et (i5 (c := f58c) (N := 24) (regs := FJ) rfl func58 rfl (by decide) rfl rfl rfl) <| kr ⟨[(1, (I a1)), (2, (I a2)), (3, (Pt 3))], [(3, vS 4 (b6 a0))], 24⟩ rfl <| et b5 <| kg DO rfl (fun (o2 : Int) => ⟨[(1, (I a1)), (2, (I o2)), (3, (Pt 3))], [(3, vS 4 (b6 a0))], 24⟩) (rd 3 [(7, (V.ptr 3 0 2)), (8, (l7 a0.fTypes)), (9, (I a2))] rfl rfl <| rp rfl (i2 (e := j0) rfl rfl rfl underlying22 rfl (by decide)) fun v1 => b4 rfl) fun o2 => et (i8 rfl) <| et p8 ?_
  refine lR k a0 a1 a2 _ _ ?h_ref11_above_L1_0 ?hr_ref11_above_L1 k o2
  ·intro y8
   refine et j6 <| kr ⟨[(6, (Bo false))], [], 24⟩ rfl <| et i1 ?_
   rfl
  ·intro s; exact rfl
def fP : (List Int) → V × List V := fun r => ((sI r), [])
theorem oh (k : Nat) (a0 : a8) (a1 : Int)  (K0 : Int → (List Int) → Option (List Int)) (Kst : X × St → Option (V × List V)) (hK0 : ∀ (y0 : Int) (y1 : (List Int)), Kst (X.exit 0, ⟨[(1, (I y0)), (2, (Pt 2)), (5, (sI y1)), (7, (Bo false))], [(2, vS 4 (b6 a0))], 19⟩) = (K0 y0 y1).map fP) (hret : ∀ s, Kst (X.ret, s) = F3 prog 19 [(b6 a0), (I a1)] [] [.tmp 4] (X.ret, s)) :
  ∀ (m : Nat) (x5 : Int) (x6 : (List Int)), (D1 (u0 prog (EV k) FK k DT) m ⟨[(1, (I x5)), (2, (Pt 2)), (5, (sI x6))], [(2, vS 4 (b6 a0))], 19⟩).bind Kst = (U1 a0 K0 m x5 x6).map fP := by
 intro m
 induction m with
 | zero => intros; rfl
 | succ m ih =>
  intro x5 x6
  unfold U1
  refine et l9 <| et b5 <| kra [(7, (Bo (decide (x5 ≥ 0))))] rfl <| kc rfl rfl (fun hc => ?_) fun hc => ?_
  ·rw [hc]
   exact et d6 <| et (G7 rfl) <| kg DR rfl (fun (o8 : (List Int)) => ⟨[(1, (I x5)), (2, (Pt 2)), (5, (sI o8))], [(2, vS 4 (b6 a0))], 19⟩) (rd 3 [(8, (I x5)), (9, (V.sl 1 1 (List.map I ([x5] : List Int)))), (10, (sI x6))] rfl rfl <| et (Q1 (x := (app ([x5] : List Int) x6)) (w := fun v7 => ((V.sl 1 1 (List.map I v7)), _)) rfl rfl rfl rfl (nL (e := I) rfl rfl rfl rfl rfl rfl rfl rfl rfl rfl (by decide))) <| B6 fun v7 => b4 rfl) fun o8 => kgl DS rfl (fun (o10 : Int) => ⟨[(1, (I o10)), (2, (Pt 2)), (5, (sI o8))], [(2, vS 4 (b6 a0))], 19⟩) (rd 3 [(12, (V.ptr 2 0 2)), (13, (l7 a0.fTypes)), (14, (I x5))] rfl rfl <| rp rfl (i2 (e := j0) rfl rfl rfl underlying22 rfl (by decide)) fun v9 => b4 rfl) fun o10 => et i6 <| et m9 <| et i3 <| ih o10 o8
  ·rw [hc]
   exact et p7 <| et j3 <| hK0 x5 x6
theorem lU (k : Nat) (a0 : a8) (a1 : Int) : EV k 59 [(b6 a0), (I a1)] = (eg k a0 a1).map fP := by
 cases k with
 | zero => rfl
 | succ k =>
  unfold eg
  refine et (i5 (c := f59c) (N := 19) (regs := FK) rfl func59 rfl (by decide) rfl rfl rfl) <| kr ⟨[(1, (I a1)), (2, (Pt 2))], [(2, vS 4 (b6 a0))], 19⟩ rfl <| kra [(5, (sI (([] : List Int))))] rfl <| et (i8 rfl) <| et p8 ?_
  refine oh k a0 a1 _ _ ?h_ref11_way_L1_0 ?hr_ref11_way_L1 k a1 ([] : List Int)
  ·intro y11 y12
   refine et j6 <| kr ⟨[(4, (sI y12))], [], 19⟩ rfl <| et i1 ?_
   rfl
  ·intro s; exact rfl
def E0 : Bool → V × List V := fun r => ((Bo r), [])
theorem lO (k : Nat) (a0 : a8) (x20 : Int) (o22 : b8)  (K0 : Int → Option Bool) (Kst : X × St → Option (V × List V)) (hK0 : ∀ (y0 : Int), Kst (X.exit 2, ⟨[(1, (Pt 1)), (3, (I x20)), (4, (Pt 4)), (5, (I y0)), (81, (Bo false))], [(1, vS 4 (b6 a0)), (4, vS 8 (j0 o22))], 232⟩) = (K0 y0).map E0) (hret : ∀ s, Kst (X.ret, s) = F3 prog 232 [(b6 a0)] [] [.tmp 2] (X.ret, s)) :
  ∀ (m : Nat) (x28 : Int), (D1 (u0 prog (EV k) wg k Cv) m ⟨[(1, (Pt 1)), (3, (I x20)), (4, (Pt 4)), (5, (I x28))], [(1, vS 4 (b6 a0)), (4, vS 8 (j0 o22))], 232⟩).bind Kst = (I1 a0 x20 o22 K0 m x28).map E0 := by
 intro m
 induction m with
 | zero => intros; rfl
 | succ m ih =>
  intro x28
  unfold I1
  refine et l9 <| et b5 <| kra [(81, (Bo (decide (x28 < x20))))] rfl <| kc rfl rfl (fun hc => ?_) fun hc => ?_
  ·rw [hc]
   refine et d6 <| et (i8 rfl) <| kd yx rfl (fun (o30 : Bool) => ⟨[(1, (Pt 1)), (3, (I x20)), (4, (Pt 4)), (5, (I x28)), (92, (Bo o30))], [(1, vS 4 (b6 a0)), (4, vS 8 (j0 o22))], 232⟩) (et (j2 (p := 9) (dk := true) (t := [(1, (Pt 1)), (3, (I x20)), (4, (Pt 4)), (5, (I x28)), (81, (Bo true))]) (σ := [(1, vS 4 (b6 a0)), (4, vS 8 (j0 o22))]) (n := 232) rfl (by decide) (by decide) rfl) <| et (j8 (m := 3) (j := 3) (t' := [(1, (Pt 1)), (3, (I x20)), (4, (Pt 4)), (5, (I x28)), (81, (Bo true)), (84, (V.ptr 1 0 2)), (85, (l7 a0.fTypes)), (86, (I x28))]) rfl rfl rfl) <| et (c8 (x := (idx a0.fTypes x28)) (w := fun v29 => (Pr (j0 v29))) rfl rfl rfl rfl rfl (i2 (e := j0) rfl rfl rfl underlying22 rfl (by decide))) <| j5 fun v29 => j9 rfl) fun o30 => kcl rfl rfl (fun hc => ?_) fun hc => ?_
   ·rw [hc]
    refine kr ⟨[(2, (Bo false))], [], 232⟩ rfl <| et i1 <| et l5 <| et l8 <| et (hret _) ?_
    rfl
   ·rw [hc]
    exact et m9 <| et i6 <| kl ⟨[(1, (Pt 1)), (3, (I x20)), (4, (Pt 4)), (5, (I (Go.IntKind.wrap .i64 (x28 + 1))))], [(1, vS 4 (b6 a0)), (4, vS 8 (j0 o22))], 232⟩ rfl <| et i3 <| ih (Go.IntKind.wrap .i64 (x28 + 1))
  ·rw [hc]
   exact et p7 <| et j3 <| hK0 x28
theorem lN (k : Nat) (a0 : a8)  (K0 : Int → Option Bool) (Kst : X × St → Option (V × List V)) (hK0 : ∀ (y0 : Int), Kst (X.exit 0, ⟨[(1, (Pt 1)), (3, (I y0)), (45, (Bo false))], [(1, vS 4 (b6 a0))], 232⟩) = (K0 y0).map E0) (hret : ∀ s, Kst (X.ret, s) = F3 prog 232 [(b6 a0)] [] [.tmp 2] (X.ret, s)) :
  ∀ (m : Nat) (x20 : Int), (D1 (u0 prog (EV k) wg k Cw) m ⟨[(1, (Pt 1)), (3, (I x20))], [(1, vS 4 (b6 a0))], 232⟩).bind Kst = (F8 k a0 K0 m x20).map E0 := by
 intro m
 induction m with
 | zero => intros; rfl
 | succ m ih =>
  intro x20
  unfold F8
  refine et l9 <| et b5 <| krp Cs rfl ⟨[(1, (Pt 1)), (3, (I x20)), (45, (Bo (decide (x20 < (a0.fTypes.length : Int)))))], [(1, vS 4 (b6 a0))], 232⟩ ?_ ?_
  ·exact rd 3 [(41, (I x20)), (42, (V.ptr 1 0 2)), (43, (l7 a0.fTypes))] rfl rfl <| rl rfl (n7 (e := j0) rfl rfl rfl rfl rfl rfl underlying22) <| b4 rfl
  refine kc rfl rfl (fun hc => ?_) fun hc => ?_
  ·rw [hc]
   refine et d6 <| et (i8 rfl) <| kg Ct rfl (fun (o22 : b8) => ⟨[(1, (Pt 1)), (3, (I x20)), (4, (Pt 4))], [(1, vS 4 (b6 a0)), (4, vS 8 (j0 o22))], 232⟩) (rd 3 [(48, (V.ptr 1 0 2)), (49, (l7 a0.fTypes)), (50, (I x20))] rfl rfl <| rs rfl (i2 (e := j0) rfl rfl rfl underlying22 rfl (by decide)) fun v21 => b4 rfl) fun o22 => et b5 <| kga Cu rfl (fun (o25 : Bool) => [(78, (Bo o25))]) ?_ fun o25 => ?_
   ·refine rd 2 [(53, (Pt 4)), (54, (Sr o22.fName))] rfl rfl <| rp rfl (d7 rfl rfl rfl rfl rfl (aE k o22.fName) (.inl rfl)) fun v23 => bd 5 [(55, (Bo v23)), (56, (Bo (!v23))), (57, (Bo (!v23)))] rfl rfl <| n5 (fun hc => ?_) fun hc => ?_
    ·rw [hc]
     exact d5 rfl
    ·rw [hc]
     refine rd 10 [(58, (V.ptr 4 0 2)), (59, (I o22.fMin)), (60, (Bo (decide (o22.fMin < 1)))), (61, (Bo (decide (o22.fMin < 1)))), (62, (Bo (decide (o22.fMin < 1))))] rfl rfl <| n5 (fun hc => ?_) fun hc => ?_
     ·rw [hc]
      exact d5 rfl
     ·rw [hc]
      refine rd 17 [(63, (V.ptr 4 0 2)), (64, (I o22.fMin)), (65, (V.ptr 4 0 3)), (66, (I o22.fSize)), (67, (Bo (decide (o22.fMin > o22.fSize)))), (68, (Bo (decide (o22.fMin > o22.fSize)))), (69, (Bo (decide (o22.fMin > o22.fSize))))] rfl rfl <| n5 (fun hc => ?_) fun hc => ?_
      ·rw [hc]
       exact d5 rfl
      ·rw [hc]
       refine rd 22 [(70, (V.ptr 4 0 3)), (71, (I o22.fSize)), (72, (Bo (decide (o22.fSize > 40)))), (73, (Bo (decide (o22.fSize > 40)))), (74, (Bo (decide (o22.fSize > 40))))] rfl rfl <| n5 (fun hc => ?_) fun hc => ?_
       ·rw [hc]
        exact d5 rfl
       ·rw [hc]
        exact rd 23 [(75, (j0 o22))] rfl rfl <| rp rfl (d7 rfl rfl rfl rfl rfl (oe k o22) (.inl rfl)) fun v24 => b4 rfl
   refine kc rfl rfl (fun hc => ?_) fun hc => ?_
   ·rw [hc]
    refine et b5 <| kr ⟨[(2, (Bo false))], [], 232⟩ rfl <| et n6 <| et l5 <| et l8 <| et (hret _) ?_
    rfl
   ·rw [hc]
    refine et d6 <| et b5 <| kr ⟨[(1, (Pt 1)), (3, (I x20)), (4, (Pt 4)), (5, (I 0))], [(1, vS 4 (b6 a0)), (4, vS 8 (j0 o22))], 232⟩ rfl <| et (i8 rfl) <| et p8 ?_
    refine lO k a0 x20 o22 _ _ ?h_ref11_Valid_L2_0 ?hr_ref11_Valid_L2 k 0
    ·intro y31
     refine et j6 <| et b5 <| kr ⟨[(1, (Pt 1)), (3, (I x20)), (4, (Pt 4)), (94, (Bo (x20 == 0)))], [(1, vS 4 (b6 a0)), (4, vS 8 (j0 o22))], 232⟩ rfl <| kc rfl rfl (fun hc => ?_) fun hc => ?_
     ·rw [hc]
      refine et b5 <| et b5 <| kg yy rfl (fun (o33 : Bool) => ⟨[(1, (Pt 1)), (3, (I x20)), (117, (Bo o33))], [(1, vS 4 (b6 a0))], 232⟩) ?_ fun o33 => ?_
      ·refine rd 4 [(95, (V.ptr 4 0 1)), (96, (I o22.fParent)), (97, (Bo (o22.fParent != (-1)))), (98, (Bo (o22.fParent != (-1))))] rfl rfl <| n5 (fun hc => ?_) fun hc => ?_
       ·rw [hc]
        exact d5 rfl
       ·rw [hc]
        refine rd 9 [(99, (V.ptr 4 0 5)), (100, (I o22.fKey)), (101, (Bo (decide (o22.fKey < 0)))), (102, (Bo (decide (o22.fKey < 0)))), (103, (Bo (decide (o22.fKey < 0))))] rfl rfl <| n5 (fun hc => ?_) fun hc => ?_
        ·rw [hc]
         exact d5 rfl
        ·rw [hc]
         refine rd 14 [(104, (V.ptr 4 0 6)), (105, (Bo o22.fUnique)), (106, (Bo (!o22.fUnique))), (107, (Bo (!o22.fUnique))), (108, (Bo (!o22.fUnique)))] rfl rfl <| n5 (fun hc => ?_) fun hc => ?_
         ·rw [hc]
          exact d5 rfl
         ·rw [hc]
          exact rd 18 [(109, (V.ptr 4 0 4)), (110, (k0 o22.fFields)), (111, (V.ptr 4 0 5)), (112, (I o22.fKey))] rfl rfl <| rp rfl (i2 (e := l6) rfl rfl rfl underlying46 rfl (by decide)) fun v32 => b4 rfl
      refine kc rfl rfl (fun hc => ?_) fun hc => ?_
      ·rw [hc]
       refine et b5 <| kr ⟨[(2, (Bo false))], [], 232⟩ rfl <| et n6 <| et l5 <| et l8 <| et (hret _) ?_
       rfl
      ·rw [hc]
       exact et d6 <| et p7 <| et j6 <| kl ⟨[(1, (Pt 1)), (3, (I (Go.IntKind.wrap .i64 (x20 + 1))))], [(1, vS 4 (b6 a0))], 232⟩ rfl <| et i3 <| ih (Go.IntKind.wrap .i64 (x20 + 1))
     ·rw [hc]
      refine et d6 <| kg yz rfl (fun (o37 : Bool) => ⟨[(1, (Pt 1)), (3, (I x20)), (149, (Bo o37))], [(1, vS 4 (b6 a0))], 232⟩) ?_ fun o37 => ?_
      ·refine rd 4 [(118, (V.ptr 4 0 1)), (119, (I o22.fParent)), (120, (Bo (decide (o22.fParent < 0)))), (121, (Bo (decide (o22.fParent < 0))))] rfl rfl <| n5 (fun hc => ?_) fun hc => ?_
       ·rw [hc]
        exact d5 rfl
       ·rw [hc]
        refine rd 10 [(122, (V.ptr 4 0 1)), (123, (I o22.fParent)), (124, (I x20)), (125, (Bo (decide (o22.fParent ≥ x20)))), (126, (Bo (decide (o22.fParent ≥ x20)))), (127, (Bo (decide (o22.fParent ≥ x20))))] rfl rfl <| n5 (fun hc => ?_) fun hc => ?_
        ·rw [hc]
         exact d5 rfl
        ·rw [hc]
         refine rd 16 [(128, (V.ptr 4 0 1)), (129, (I o22.fParent)), (130, (I x20)), (131, (I (Go.IntKind.wrap .i64 (x20 - 1)))), (132, (Bo (o22.fParent != (Go.IntKind.wrap .i64 (x20 - 1))))), (133, (Bo (o22.fParent != (Go.IntKind.wrap .i64 (x20 - 1)))))] rfl rfl <| n5 (fun hc => ?_) fun hc => ?_
         ·rw [hc]
          refine rd 21 [(134, (b6 a0)), (135, (V.ptr 4 0 1)), (136, (I o22.fParent)), (137, (I x20)), (138, (I (Go.IntKind.wrap .i64 (x20 - 1))))] rfl rfl <| rp rfl (d7 rfl rfl rfl rfl rfl (jc k a0 o22.fParent (Go.IntKind.wrap .i64 (x20 - 1))) (.inl rfl)) fun v34 => bd 26 [(139, (Bo v34)), (140, (Bo (!v34))), (141, (Bo (!v34))), (142, (Bo (!v34))), (143, (Bo (!v34)))] rfl rfl <| n5 (fun hc => ?_) fun hc => ?_
          ·rw [hc]
           exact d5 rfl
          ·rw [hc]
           exact rd 28 [(144, (b6 a0)), (145, (I x20))] rfl rfl <| rp rfl (d7 rfl rfl rfl rfl rfl (lU k a0 x20) (.inl rfl)) fun v35 => bd 29 [(146, (sI v35))] rfl rfl <| rl rfl (n7 (e := I) rfl rfl rfl rfl rfl rfl underlying58) <| b4 rfl
         ·rw [hc]
          exact rd 28 [(134, (V.tup [])), (135, (V.tup [])), (136, (V.tup [])), (137, (V.tup [])), (138, (V.tup [])), (139, (V.tup [])), (140, (V.tup [])), (141, (Bo false)), (142, (Bo false)), (143, (Bo false)), (144, (b6 a0)), (145, (I x20))] rfl rfl <| rp rfl (d7 rfl rfl rfl rfl rfl (lU k a0 x20) (.inl rfl)) fun v36 => bd 29 [(146, (sI v36))] rfl rfl <| rl rfl (n7 (e := I) rfl rfl rfl rfl rfl rfl underlying58) <| b4 rfl
      refine kcl rfl rfl (fun hc => ?_) fun hc => ?_
      ·rw [hc]
       refine kr ⟨[(2, (Bo false))], [], 232⟩ rfl <| et i1 <| et l5 <| et l8 <| et (hret _) ?_
       rfl
      ·rw [hc]
       exact et m9 <| et i6 <| kl ⟨[(1, (Pt 1)), (3, (I (Go.IntKind.wrap .i64 (x20 + 1))))], [(1, vS 4 (b6 a0))], 232⟩ rfl <| et i3 <| ih (Go.IntKind.wrap .i64 (x20 + 1))
    ·intro s; exact hret s
  ·rw [hc]
   exact et p7 <| et j3 <| hK0 x20
theorem lQ (k : Nat) (a0 : a8) (x52 : Int) (o54 : j1)  (K0 : Int → Option Bool) (Kst : X × St → Option (V × List V)) (hK0 : ∀ (y0 : Int), Kst (X.exit 6, ⟨[(1, (Pt 1)), (6, (I x52)), (7, (Pt 7)), (8, (I y0)), (220, (Bo false))], [(1, vS 4 (b6 a0)), (7, vS 4 (s5 o54))], 232⟩) = (K0 y0).map E0) (hret : ∀ s, Kst (X.ret, s) = F3 prog 232 [(b6 a0)] [] [.tmp 2] (X.ret, s)) :
  ∀ (m : Nat) (x62 : Int), (D1 (u0 prog (EV k) wg k Cx) m ⟨[(1, (Pt 1)), (6, (I x52)), (7, (Pt 7)), (8, (I x62))], [(1, vS 4 (b6 a0)), (7, vS 4 (s5 o54))], 232⟩).bind Kst = (I3 a0 x52 o54 K0 m x62).map E0 := by
 intro m
 induction m with
 | zero => intros; rfl
 | succ m ih =>
  intro x62
  unfold I3
  refine et l9 <| et b5 <| kra [(220, (Bo (decide (x62 < x52))))] rfl <| kc rfl rfl (fun hc => ?_) fun hc => ?_
  ·rw [hc]
   refine et d6 <| et (i8 rfl) <| kd yD rfl (fun (o64 : Bool) => ⟨[(1, (Pt 1)), (6, (I x52)), (7, (Pt 7)), (8, (I x62)), (231, (Bo o64))], [(1, vS 4 (b6 a0)), (7, vS 4 (s5 o54))], 232⟩) (et (j2 (p := 9) (dk := true) (t := [(1, (Pt 1)), (6, (I x52)), (7, (Pt 7)), (8, (I x62)), (220, (Bo true))]) (σ := [(1, vS 4 (b6 a0)), (7, vS 4 (s5 o54))]) (n := 232) rfl (by decide) (by decide) rfl) <| et (j8 (m := 3) (j := 3) (t' := [(1, (Pt 1)), (6, (I x52)), (7, (Pt 7)), (8, (I x62)), (220, (Bo true)), (223, (V.ptr 1 0 3)), (224, (s8 a0.fIndexes)), (225, (I x62))]) rfl rfl rfl) <| et (c8 (x := (idx a0.fIndexes x62)) (w := fun v63 => (Pr (s5 v63))) rfl rfl rfl rfl rfl (i2 (e := s5) rfl rfl rfl underlying23 rfl (by decide))) <| j5 fun v63 => j9 rfl) fun o64 => kcl rfl rfl (fun hc => ?_) fun hc => ?_
   ·rw [hc]
    refine kr ⟨[(2, (Bo false))], [], 232⟩ rfl <| et i1 <| et l5 <| et l8 <| et (hret _) ?_
    rfl
   ·rw [hc]
    exact et m9 <| et i6 <| kl ⟨[(1, (Pt 1)), (6, (I x52)), (7, (Pt 7)), (8, (I (Go.IntKind.wrap .i64 (x62 + 1))))], [(1, vS 4 (b6 a0)), (7, vS 4 (s5 o54))], 232⟩ rfl <| et i3 <| ih (Go.IntKind.wrap .i64 (x62 + 1))
  ·rw [hc]
   exact et p7 <| et j3 <| hK0 x62
end
end Go.AE
