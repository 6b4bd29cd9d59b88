/- The program, function by function: the evaluator comes to the typed functions. Conditions: none. -/
import Derived.Test.YtnpeekncggidcaaGreatDoorA3
import Derived.KernelRfl
import Derived.Test.YtnpeekncggidcaaGreatDoorProg
import Derived.Test.YtnpeekncggidcaaGreatDoorB1
namespace Go.AE
open Go.Proofs.Tryz Go.Sh
set_option linter.unusedSimpArgs false
set_option linter.unusedVariables false
set_option maxRecDepth 100000
set_option maxHeartbeats 4000000
noncomputable section
abbrev Pt (n : Nat) : V := .ptr n 0 0
abbrev Bo (b : Bool) : V := .bool b
abbrev Sr (s : Str) : V := .str s
abbrev Pr (v : V) : V := .pro v
abbrev sS (l : List Str) : V := .sl 0 1 (List.map V.str l)
abbrev vS (n : Nat) (v : V) : s7 := ⟨false, n, [v]⟩
abbrev aL {α : Type} (d : Nat) (e : α → V) (l : List α) : V := .aref d 0 (List.map e l).length
theorem Cf : prog.eqGuardType prog.depth 55 = false := by kernel_rfl
theorem BO : prog.stoodInHeld 55 = false := by kernel_rfl
def l5 (a : i4) : V := .agg [(V.str a.fName), (V.int .i64 a.fAt), (V.int .i64 a.fBytes)]
def j0 (a : b9) : V := .agg [(V.str a.fName), (V.int .i64 a.fParent), (V.int .i64 a.fMin), (V.int .i64 a.fSize), (V.sl 0 3 (List.map l5 a.fFields)), (V.int .i64 a.fKey), (V.bool a.fUnique), (V.bool a.fLast)]
def s5 (a : j1) : V := .agg [(V.str a.fName), (V.int .i64 a.fType), (V.int .i64 a.fField), (V.str a.fSparse)]
def b7 (a : a8) : V := .agg [(V.str a.fName), (V.int .i64 a.fKind), (V.sl 0 8 (List.map j0 a.fTypes)), (V.sl 0 4 (List.map s5 a.fIndexes))]
def d4 (a : a6) : V := .agg [(V.str a.fField), (V.int .i64 a.fOp), (V.str a.fValue)]
def j4 (a : b8) : V := .agg [(V.str a.fSegment), (V.str a.fCodes), (V.sl 0 1 (List.map (fun x => (V.sl 0 3 (List.map d4 x))) a.fWhen))]
def eStr (a : E5) : V := .agg [(V.str a.e0), (V.str a.e1), (V.str a.e2), (V.str a.e3), (V.str a.e4), (V.str a.e5)]
noncomputable def f5o0 := oN f5 2
def f5a0 : b4 := ⟨[0, 2], []⟩
noncomputable def f5o1 := oN f5 9
def acb : b4 := ⟨[6, 7, 8, 9, 10, 11, 12, 13, 14, 15, 16, 17, 18, 19, 20], []⟩
noncomputable def f5o2 := oN f5 37
def f5a2 : b4 := ⟨[1, 21], []⟩
noncomputable def f5o3 := oN f5 19
def f5a3 : b4 := ⟨[21], []⟩
noncomputable def f5o4 := oN f5 267
def Xl : b4 := ⟨[22, 23, 24, 25], []⟩
noncomputable def f5o5 := oN f5 459
def f5a5 : b4 := ⟨[4, 27, 28, 55], []⟩
noncomputable def f5o6 := oN f5 2123
def aaz : b4 := ⟨[26, 29, 30, 31, 32, 33, 34, 35, 36, 37, 38, 39, 40, 41, 42, 43, 44, 45], []⟩
noncomputable def f5o7 := oN f5 9291
def f5a7 : b4 := ⟨[1, 3, 46], []⟩
noncomputable def f5o8 := oN f5 2635
def f5a8 : b4 := ⟨[46], []⟩
noncomputable def f5o9 := oN f5 34379
def Sc : b4 := ⟨[47, 48, 49, 50, 51, 52, 53, 54], []⟩
noncomputable def aa0 := oN f5 58955
def Xo : b4 := ⟨[56, 57, 69], []⟩
noncomputable def aco := oN f5 140875
def FJ : b4 := ⟨[55, 58, 59, 60, 61, 62, 63, 64, 65, 66, 67, 68], []⟩
noncomputable def QI := oN f5 599627
def SF : b4 := ⟨[1, 3, 4, 69], []⟩
noncomputable def adA := oN f5 39
def abe : b4 := ⟨[3, 26], []⟩
noncomputable def Zh := oN f5 535
def Fp : b4 := ⟨[70, 71, 72, 73], []⟩
noncomputable def act := oN f5 919
def acK : b4 := ⟨[75, 76, 94], []⟩
noncomputable def Yh := oN f5 2199
def CZ : b4 := ⟨[74, 77, 78, 79, 80, 81, 82, 83, 84, 85, 86, 87, 88, 89, 90, 91, 92, 93], []⟩
noncomputable def Rw := oN f5 9367
def Ul : b4 := ⟨[1, 5, 94], []⟩
noncomputable def Zb := oN f5 47
def aar : b4 := ⟨[1, 5, 74], []⟩
def aaB : Code := (.seq (.seq (.region 9 f5o9 false) (.cond (.tmp 55) .skip (.exit 2))) (.seq (.block 3 (.seq (.region 11 aco false) (.cond (.tmp 69) (.seq (.region 12 QI false) .ret) .skip))) (.region 10 aa0 false)))
def Wf : Code := (.seq (.seq (.region 4 f5o4 false) (.cond (.tmp 26) .skip (.exit 0))) (.seq (.block 1 (.seq (.seq (.region 6 f5o6 false) (.cond (.tmp 46) (.seq (.region 7 f5o7 false) .ret) .skip)) (.seq (.region 8 f5o8 false) (.block 2 (.loop aaB))))) (.region 5 f5o5 false)))
def SR : Code := (.seq (.seq (.region 14 Zh false) (.cond (.tmp 74) .skip (.exit 4))) (.seq (.block 5 (.seq (.region 16 Yh false) (.cond (.tmp 94) (.seq (.region 17 Rw false) .ret) .skip))) (.region 15 act false)))
def f5c : Code := (.seq (.region 0 f5o0 false) (.seq (.seq (.region 1 f5o1 false) (.cond (.tmp 21) (.seq (.region 2 f5o2 false) .ret) .skip)) (.seq (.seq (.region 3 f5o3 false) (.block 0 (.loop Wf))) (.seq (.seq (.region 13 adA false) (.block 4 (.loop SR))) (.seq (.region 18 Zb false) .ret)))))
def f5n : List (Nat × b4) := [(0, f5a0), (1, acb), (2, f5a2), (3, f5a3), (4, Xl), (5, f5a5), (6, aaz), (7, f5a7), (8, f5a8), (9, Sc), (10, Xo), (11, FJ), (12, SF), (13, abe), (14, Fp), (15, acK), (16, CZ), (17, Ul), (18, aar)]
noncomputable def acT := oN f20 2
def YJ : b4 := ⟨[2], []⟩
noncomputable def adC := oN f20 9
def aay : b4 := ⟨[], []⟩
noncomputable def adI := oN f20 133
def Ca : b4 := ⟨[5, 6, 7], []⟩
noncomputable def acg := oN f20 229
def PR : b4 := ⟨[4, 9, 10, 23], []⟩
noncomputable def QQ := oN f20 1061
def Ce : b4 := ⟨[8, 11, 12, 13, 14, 15], []⟩
noncomputable def abE := oN f20 4645
def Tv : b4 := ⟨[0, 3, 16], []⟩
noncomputable def UL := oN f20 1317
def XU : b4 := ⟨[16], []⟩
noncomputable def SM := oN f20 17189
def DM : b4 := ⟨[17, 18, 19, 20, 21, 22], []⟩
noncomputable def YZ := oN f20 29477
def YV : b4 := ⟨[24, 25, 47], []⟩
noncomputable def Yc := oN f20 70437
def Fq : b4 := ⟨[23, 26, 27, 28, 29, 30, 31, 32, 33, 34, 35, 36, 37, 38, 39, 40, 41, 42, 43, 44, 45, 46], []⟩
noncomputable def Nw := oN f20 299813
def MZ : b4 := ⟨[0, 3, 4, 47], []⟩
noncomputable def MT := oN f20 11
def yf : b4 := ⟨[0, 3, 8, 48, 49, 50], []⟩
def Fs : Code := (.seq (.seq (.region 7 SM false) (.cond (.tmp 23) .skip (.exit 2))) (.seq (.block 3 (.seq (.region 9 Yc false) (.cond (.tmp 47) (.seq (.region 10 Nw false) .ret) .skip))) (.region 8 YZ false)))
def FD : Code := (.seq (.seq (.region 2 adI false) (.cond (.tmp 8) .skip (.exit 0))) (.seq (.block 1 (.seq (.seq (.region 4 QQ false) (.cond (.tmp 16) (.seq (.region 5 abE false) .ret) .skip)) (.seq (.region 6 UL false) (.block 2 (.loop Fs))))) (.region 3 acg false)))
def f20c : Code := (.seq (.region 0 acT false) (.seq (.seq (.region 1 adC false) (.block 0 (.loop FD))) (.seq (.region 11 MT false) .ret)))
def Bc : List (Nat × b4) := [(0, YJ), (1, aay), (2, Ca), (3, PR), (4, Ce), (5, Tv), (6, XU), (7, DM), (8, YV), (9, Fq), (10, MZ), (11, yf)]
noncomputable def f6o0 := oN f6 2
def f6a0 : b4 := ⟨[2], []⟩
noncomputable def f6o1 := oN f6 9
def f6a1 : b4 := ⟨[], []⟩
noncomputable def f6o2 := oN f6 133
def WO : b4 := ⟨[4, 5, 6], []⟩
noncomputable def f6o3 := oN f6 229
def f6a3 : b4 := ⟨[8, 9, 33], []⟩
noncomputable def f6o4 := oN f6 549
def adi : b4 := ⟨[7, 10, 11, 12, 13, 14, 15, 16, 17, 18, 19, 20, 21, 22, 23, 24, 25, 26, 27, 28, 29, 30, 31, 32], []⟩
noncomputable def f6o5 := oN f6 2341
def f6a5 : b4 := ⟨[0, 3, 33], []⟩
noncomputable def f6o6 := oN f6 11
def Zr : b4 := ⟨[0, 3, 7, 34, 35, 36], []⟩
def Rk : Code := (.seq (.seq (.region 2 f6o2 false) (.cond (.tmp 7) .skip (.exit 0))) (.seq (.block 1 (.seq (.region 4 f6o4 false) (.cond (.tmp 33) (.seq (.region 5 f6o5 false) .ret) .skip))) (.region 3 f6o3 false)))
def f6c : Code := (.seq (.region 0 f6o0 false) (.seq (.seq (.region 1 f6o1 false) (.block 0 (.loop Rk))) (.seq (.region 6 f6o6 false) .ret)))
def f6n : List (Nat × b4) := [(0, f6a0), (1, f6a1), (2, WO), (3, f6a3), (4, adi), (5, f6a5), (6, Zr)]
noncomputable def XJ := oN f21 2
def ac9 : b4 := ⟨[], []⟩
noncomputable def We := oN f21 5
def SO : b4 := ⟨[1, 2, 3, 4, 5, 6, 7, 8], []⟩
def f21c : Code := (.seq (.region 0 XJ false) (.seq (.region 1 We false) .ret))
def UR : List (Nat × b4) := [(0, ac9), (1, SO)]
noncomputable def abo := oN f50 2
def Qu : b4 := ⟨[2], []⟩
noncomputable def Tg := oN f50 9
def QK : b4 := ⟨[5], []⟩
noncomputable def Ze := oN f50 69
def QV : b4 := ⟨[], []⟩
noncomputable def VO := oN f50 1125
def aae : b4 := ⟨[8, 9], []⟩
noncomputable def XS := oN f50 2661
def Dv : b4 := ⟨[10, 11, 12, 13, 14, 15, 16, 17, 18, 19], []⟩
noncomputable def Rn := oN f50 5733
def Dm : b4 := ⟨[3, 4, 20, 21, 22, 23, 24, 25, 26, 27, 28, 29, 30, 31, 32, 33, 34, 35, 36], []⟩
noncomputable def OX := oN f50 20069
def QZ : b4 := ⟨[0, 6, 7, 37], []⟩
noncomputable def Zq := oN f50 485
def Ua : b4 := ⟨[37, 38], []⟩
noncomputable def PY := oN f50 11
def FL : b4 := ⟨[0, 6, 7, 8, 39, 40, 41, 42, 43, 44, 45, 46], []⟩
def Fe : Code := (.seq (.region 2 Ze false) (.seq (.cond (.tmp 8) .skip (.exit 0)) (.seq (.block 1 (.seq (.region 3 VO false) (.seq (.region 4 XS false) (.seq (.region 5 Rn false) (.cond (.tmp 37) (.seq (.region 6 OX false) .ret) .skip))))) (.region 7 Zq false))))
def f50c : Code := (.seq (.region 0 abo false) (.seq (.seq (.region 1 Tg false) (.block 0 (.loop Fe))) (.seq (.region 8 PY false) .ret)))
def Nf : List (Nat × b4) := [(0, Qu), (1, QK), (2, QV), (3, aae), (4, Dv), (5, Dm), (6, QZ), (7, Ua), (8, FL)]
noncomputable def JG := oN f133 2
def Ny : b4 := ⟨[4], []⟩
noncomputable def Kk := oN f133 9
def zd : b4 := ⟨[6], []⟩
noncomputable def Jp := oN f133 69
def JB : b4 := ⟨[], []⟩
noncomputable def LZ := oN f133 1125
def FU : b4 := ⟨[9, 10], []⟩
noncomputable def Mm := oN f133 2661
def zj : b4 := ⟨[11, 12, 13, 14, 15], []⟩
noncomputable def LM := oN f133 9829
def LL : b4 := ⟨[0, 1, 5, 7, 8, 16, 17], []⟩
noncomputable def MO := oN f133 485
def KI : b4 := ⟨[5, 16, 18], []⟩
noncomputable def Mb := oN f133 11
def My : b4 := ⟨[0, 1, 7, 8, 9], []⟩
def wN : Code := (.seq (.region 2 Jp false) (.seq (.cond (.tmp 9) .skip (.exit 0)) (.seq (.block 1 (.seq (.region 3 LZ false) (.seq (.region 4 Mm false) (.cond (.tmp 16) (.seq (.region 5 LM false) .ret) .skip)))) (.region 6 MO false))))
def ZF : Code := (.seq (.region 0 JG false) (.seq (.seq (.region 1 Kk false) (.block 0 (.loop wN))) (.seq (.region 7 Mb false) .ret)))
def zI : List (Nat × b4) := [(0, Ny), (1, zd), (2, JB), (3, FU), (4, zj), (5, LL), (6, KI), (7, My)]
noncomputable def MB := oN f127 2
def Is : b4 := ⟨[4], []⟩
noncomputable def Gb := oN f127 5
def yn : b4 := ⟨[0, 1, 5, 6, 7, 8], []⟩
def aa1 : Code := (.seq (.region 0 MB false) (.seq (.region 1 Gb false) .ret))
def EB : List (Nat × b4) := [(0, Is), (1, yn)]
noncomputable def GE := oN f128 2
def Oc : b4 := ⟨[0, 3], []⟩
noncomputable def Kq := oN f128 5
def IX : b4 := ⟨[1, 2, 4, 5, 6, 7, 8], []⟩
def acv : Code := (.seq (.region 0 GE false) (.seq (.region 1 Kq false) .ret))
def Fu : List (Nat × b4) := [(0, Oc), (1, IX)]
noncomputable def GC := oN f113 2
def IU : b4 := ⟨[4], []⟩
noncomputable def Lx := oN f113 9
def yd : b4 := ⟨[], []⟩
noncomputable def Lr := oN f113 69
def Ih : b4 := ⟨[], []⟩
noncomputable def LS := oN f113 1125
def wQ : b4 := ⟨[10, 11, 12, 13], []⟩
noncomputable def NX := oN f113 4709
def xg : b4 := ⟨[14, 15, 16, 17, 18, 19, 20, 21, 22, 23, 24, 25, 26, 27, 28, 29, 30, 31, 32, 33, 34, 35, 36, 37, 38, 39, 40, 41], []⟩
noncomputable def Iu := oN f113 19045
def Jl : b4 := ⟨[0, 1, 5, 6, 7, 8, 9, 42], []⟩
noncomputable def Mt := oN f113 5733
def yb : b4 := ⟨[5, 6, 42, 43, 44, 45, 46], []⟩
noncomputable def Gs := oN f113 20069
def NF : b4 := ⟨[0, 1, 7, 8, 9, 47], []⟩
noncomputable def MK := oN f113 485
def KQ : b4 := ⟨[47, 48], []⟩
noncomputable def LF := oN f113 11
def AH : b4 := ⟨[0, 1, 7, 8, 9, 10, 49, 50, 51], []⟩
def xM : Code := (.seq (.region 2 Lr false) (.seq (.cond (.tmp 10) .skip (.exit 0)) (.seq (.block 1 (.seq (.region 3 LS false) (.seq (.seq (.region 4 NX false) (.cond (.tmp 42) (.seq (.region 5 Iu false) .ret) .skip)) (.seq (.region 6 Mt false) (.cond (.tmp 47) (.seq (.region 7 Gs false) .ret) .skip))))) (.region 8 MK false))))
def SE : Code := (.seq (.region 0 GC false) (.seq (.seq (.region 1 Lx false) (.block 0 (.loop xM))) (.seq (.region 9 LF false) .ret)))
def zo : List (Nat × b4) := [(0, IU), (1, yd), (2, Ih), (3, wQ), (4, xg), (5, Jl), (6, yb), (7, NF), (8, KQ), (9, AH)]
noncomputable def PV := oN f80 2
def Us : b4 := ⟨[0, 2], []⟩
noncomputable def SL := oN f80 17
def CH : b4 := ⟨[4, 5, 6, 7, 8, 9, 10, 11, 12, 13, 14, 15, 16, 17, 18, 19, 20, 21, 22, 23, 24, 25, 26, 27, 28, 29, 30, 31, 32], []⟩
noncomputable def ace := oN f80 73
def Qd : b4 := ⟨[1, 3], []⟩
noncomputable def WC := oN f80 89
def adc : b4 := ⟨[3, 34, 35, 36], []⟩
noncomputable def PZ := oN f80 313
def OL : b4 := ⟨[1, 33, 37, 38, 39], []⟩
noncomputable def To := oN f80 377
def BK : b4 := ⟨[33, 41, 42, 43, 44, 45, 46, 47, 48, 49, 50, 51], []⟩
noncomputable def Qb := oN f80 1273
def Ry : b4 := ⟨[1, 40], []⟩
noncomputable def abq := oN f80 11
def Dy : b4 := ⟨[1, 40, 52, 53, 54, 55, 56, 57, 58, 59, 60, 61, 62, 63, 64, 65, 66, 67, 68, 69], []⟩
def f80c : Code := (.seq (.region 0 PV false) (.seq (.block 0 (.seq (.region 1 SL false) (.cond (.tmp 3) (.seq (.region 2 ace false) .ret) (.seq (.region 3 WC false) (.cond (.tmp 33) (.seq (.region 4 PZ false) .ret) (.seq (.region 5 To false) (.cond (.tmp 40) (.seq (.region 6 Qb false) .ret) .skip))))))) (.seq (.region 7 abq true) .ret)))
def RU : List (Nat × b4) := [(0, Us), (1, CH), (2, Qd), (3, adc), (4, OL), (5, BK), (6, Ry), (7, Dy)]
noncomputable def Rq := oN f92 2
def Qz : b4 := ⟨[4], []⟩
noncomputable def ab1 := oN f92 9
def DL : b4 := ⟨[6], []⟩
noncomputable def Qt := oN f92 69
def Vm : b4 := ⟨[], []⟩
noncomputable def SY := oN f92 1125
def QM : b4 := ⟨[9, 10], []⟩
noncomputable def acH := oN f92 2661
def Cy : b4 := ⟨[11, 12, 13, 14, 15], []⟩
noncomputable def Zd := oN f92 9829
def ac0 : b4 := ⟨[0, 1, 5, 7, 8, 16, 17], []⟩
noncomputable def Xa := oN f92 485
def Ro : b4 := ⟨[5, 16, 18], []⟩
noncomputable def YF := oN f92 11
def Ph : b4 := ⟨[0, 1, 7, 8, 9], []⟩
def Ch : Code := (.seq (.region 2 Qt false) (.seq (.cond (.tmp 9) .skip (.exit 0)) (.seq (.block 1 (.seq (.region 3 SY false) (.seq (.region 4 acH false) (.cond (.tmp 16) (.seq (.region 5 Zd false) .ret) .skip)))) (.region 6 Xa false))))
def f92c : Code := (.seq (.region 0 Rq false) (.seq (.seq (.region 1 ab1 false) (.block 0 (.loop Ch))) (.seq (.region 7 YF false) .ret)))
def Ol : List (Nat × b4) := [(0, Qz), (1, DL), (2, Vm), (3, QM), (4, Cy), (5, ac0), (6, Ro), (7, Ph)]
noncomputable def Ug := oN f81 2
def Wk : b4 := ⟨[4], []⟩
noncomputable def ZY := oN f81 5
def Fv : b4 := ⟨[0, 1, 5, 6, 7, 8], []⟩
def f81c : Code := (.seq (.region 0 Ug false) (.seq (.region 1 ZY false) .ret))
def RI : List (Nat × b4) := [(0, Wk), (1, Fv)]
noncomputable def VF := oN f82 2
def UM : b4 := ⟨[0, 3], []⟩
noncomputable def Wv := oN f82 5
def Ve : b4 := ⟨[1, 2, 4, 5, 6, 7, 8], []⟩
def f82c : Code := (.seq (.region 0 VF false) (.seq (.region 1 Wv false) .ret))
def aau : List (Nat × b4) := [(0, UM), (1, Ve)]
noncomputable def acn := oN f83 2
def UP : b4 := ⟨[4], []⟩
noncomputable def adq := oN f83 9
def Fn : b4 := ⟨[6], []⟩
noncomputable def ac4 := oN f83 69
def TL : b4 := ⟨[], []⟩
noncomputable def VE := oN f83 1125
def aaJ : b4 := ⟨[9, 10], []⟩
noncomputable def SC := oN f83 2661
def DE : b4 := ⟨[11, 12, 13, 14, 15], []⟩
noncomputable def Wt := oN f83 9829
def YC : b4 := ⟨[0, 1, 5, 7, 8, 16, 17], []⟩
noncomputable def adh := oN f83 485
def Uz : b4 := ⟨[5, 16, 18], []⟩
noncomputable def aaZ := oN f83 11
def aaG : b4 := ⟨[0, 1, 7, 8, 9], []⟩
def Cu : Code := (.seq (.region 2 ac4 false) (.seq (.cond (.tmp 9) .skip (.exit 0)) (.seq (.block 1 (.seq (.region 3 VE false) (.seq (.region 4 SC false) (.cond (.tmp 16) (.seq (.region 5 Wt false) .ret) .skip)))) (.region 6 adh false))))
def f83c : Code := (.seq (.region 0 acn false) (.seq (.seq (.region 1 adq false) (.block 0 (.loop Cu))) (.seq (.region 7 aaZ false) .ret)))
def KD : List (Nat × b4) := [(0, UP), (1, Fn), (2, TL), (3, aaJ), (4, DE), (5, YC), (6, Uz), (7, aaG)]
noncomputable def abz := oN f51 2
def adj : b4 := ⟨[2], []⟩
noncomputable def ad1 := oN f51 9
def BP : b4 := ⟨[7, 8, 9, 10, 11, 12, 13], []⟩
noncomputable def Qe := oN f51 37
def YP : b4 := ⟨[0, 14], []⟩
noncomputable def OK := oN f51 11
def QC : b4 := ⟨[14], [(0, { site := true })]⟩
noncomputable def acY := oN f51 39
def Cg : b4 := ⟨[], []⟩
noncomputable def YT := oN f51 279
def UQ : b4 := ⟨[], []⟩
noncomputable def abB := oN f51 4503
def Ec : b4 := ⟨[18, 19, 20, 21], []⟩
noncomputable def QF := oN f51 18839
def EC : b4 := ⟨[22, 23, 24, 25, 26, 27, 28, 29, 30], []⟩
noncomputable def YN := oN f51 76183
def QG : b4 := ⟨[0, 3, 4, 5, 15, 16, 17, 31], []⟩
noncomputable def Xp := oN f51 22935
def DA : b4 := ⟨[31, 32, 33, 34, 35], []⟩
noncomputable def HF := oN f51 80279
def Aa : b4 := ⟨[5, 36, 37, 38, 39, 40, 41, 42, 43, 44, 45, 46, 47, 48, 49, 50, 51, 52, 53, 54, 55, 56, 57, 58, 59, 60, 61, 62, 63, 64, 65, 66, 67, 68, 69], []⟩
noncomputable def HC := oN f51 309655
def KC : b4 := ⟨[0, 3, 4, 6, 15, 16, 17, 70], []⟩
noncomputable def Ml := oN f51 96663
def xX : b4 := ⟨[4, 6, 70, 71, 72, 73, 74, 75, 76, 77], []⟩
noncomputable def HB := oN f51 194967
def zl : b4 := ⟨[78, 79], []⟩
noncomputable def Jm := oN f51 653719
def Np : b4 := ⟨[0, 3, 15, 16, 17, 80], []⟩
noncomputable def NQ := oN f51 1943
def Nk : b4 := ⟨[80, 81], []⟩
noncomputable def Me := oN f51 47
def Ln : b4 := ⟨[0, 3, 15, 16, 17, 18], []⟩
def BV : Code := (.seq (.region 5 YT false) (.seq (.cond (.tmp 18) .skip (.exit 0)) (.seq (.block 1 (.seq (.region 6 abB false) (.seq (.seq (.region 7 QF false) (.cond (.tmp 31) (.seq (.region 8 YN false) .ret) .skip)) (.seq (.region 9 Xp false) (.seq (.seq (.region 10 HF false) (.cond (.tmp 70) (.seq (.region 11 HC false) .ret) .skip)) (.seq (.region 12 Ml false) (.seq (.region 13 HB false) (.cond (.tmp 80) (.seq (.region 14 Jm false) .ret) .skip)))))))) (.region 15 NQ false))))
def f51c : Code := (.seq (.region 0 abz false) (.seq (.seq (.region 1 ad1 false) (.cond (.tmp 14) (.seq (.region 2 Qe false) .ret) .skip)) (.seq (.region 3 OK false) (.seq (.seq (.region 4 acY false) (.block 0 (.loop BV))) (.seq (.region 16 Me false) .ret)))))
def JK : List (Nat × b4) := [(0, adj), (1, BP), (2, YP), (3, QC), (4, Cg), (5, UQ), (6, Ec), (7, EC), (8, QG), (9, DA), (10, Aa), (11, KC), (12, xX), (13, zl), (14, Np), (15, Nk), (16, Ln)]
noncomputable def Kc := oN f114 2
def GS : b4 := ⟨[4], []⟩
noncomputable def ML := oN f114 9
def xU : b4 := ⟨[6], []⟩
noncomputable def Hi := oN f114 69
def GZ : b4 := ⟨[], []⟩
noncomputable def HT := oN f114 1125
def IC : b4 := ⟨[9, 10], []⟩
noncomputable def MD := oN f114 2661
def zO : b4 := ⟨[11, 12, 13, 14, 15], []⟩
noncomputable def MC := oN f114 9829
def HY : b4 := ⟨[0, 1, 5, 7, 8, 16, 17], []⟩
noncomputable def KT := oN f114 485
def NN : b4 := ⟨[5, 16, 18], []⟩
noncomputable def Ou := oN f114 11
def Ku : b4 := ⟨[0, 1, 7, 8, 9], []⟩
def zN : Code := (.seq (.region 2 Hi false) (.seq (.cond (.tmp 9) .skip (.exit 0)) (.seq (.block 1 (.seq (.region 3 HT false) (.seq (.region 4 MD false) (.cond (.tmp 16) (.seq (.region 5 MC false) .ret) .skip)))) (.region 6 KT false))))
def SK : Code := (.seq (.region 0 Kc false) (.seq (.seq (.region 1 ML false) (.block 0 (.loop zN))) (.seq (.region 7 Ou false) .ret)))
def xK : List (Nat × b4) := [(0, GS), (1, xU), (2, GZ), (3, IC), (4, zO), (5, HY), (6, NN), (7, Ku)]
noncomputable def Zn := oN f84 2
def UV : b4 := ⟨[4], []⟩
noncomputable def Xg := oN f84 5
def BH : b4 := ⟨[0, 1, 5, 6, 7, 8], []⟩
def f84c : Code := (.seq (.region 0 Zn false) (.seq (.region 1 Xg false) .ret))
def OB : List (Nat × b4) := [(0, UV), (1, BH)]
noncomputable def VB := oN f85 2
def abM : b4 := ⟨[0, 3], []⟩
noncomputable def aab := oN f85 5
def SW : b4 := ⟨[1, 2, 4, 5, 6, 7, 8], []⟩
def f85c : Code := (.seq (.region 0 VB false) (.seq (.region 1 aab false) .ret))
def adE : List (Nat × b4) := [(0, abM), (1, SW)]
noncomputable def aaj := oN f52 2
def Yr : b4 := ⟨[4], []⟩
noncomputable def Rd := oN f52 9
def BJ : b4 := ⟨[], []⟩
noncomputable def VM := oN f52 69
def TR : b4 := ⟨[], []⟩
noncomputable def adV := oN f52 1125
def ER : b4 := ⟨[11, 12, 13, 14], []⟩
noncomputable def TI := oN f52 4709
def DQ : b4 := ⟨[5, 15, 16, 17, 18, 19, 20, 21, 22, 23, 24, 25, 26, 27, 28, 29, 30, 31, 32, 33, 34, 35, 36, 37, 38, 39, 40, 41, 42], []⟩
noncomputable def adn := oN f52 19045
def Pf : b4 := ⟨[0, 1, 6, 8, 9, 10, 43], []⟩
noncomputable def UO := oN f52 5733
def Ep : b4 := ⟨[43, 44, 45, 46, 47, 48, 49], []⟩
noncomputable def PG := oN f52 11877
def EE : b4 := ⟨[6, 7, 50, 51, 52, 53, 54, 55, 56, 57, 58, 59, 60, 61, 62, 63, 64, 65, 66, 67], []⟩
noncomputable def adb := oN f52 40549
def Oz : b4 := ⟨[0, 1, 8, 9, 10, 68], []⟩
noncomputable def Tn := oN f52 485
def Wy : b4 := ⟨[68, 69], []⟩
noncomputable def Ic := oN f52 11
def xc : b4 := ⟨[0, 1, 8, 9, 10, 11, 70, 71, 72], []⟩
def El : Code := (.seq (.region 2 VM false) (.seq (.cond (.tmp 11) .skip (.exit 0)) (.seq (.block 1 (.seq (.region 3 adV false) (.seq (.seq (.region 4 TI false) (.cond (.tmp 43) (.seq (.region 5 adn false) .ret) .skip)) (.seq (.region 6 UO false) (.seq (.region 7 PG false) (.cond (.tmp 68) (.seq (.region 8 adb false) .ret) .skip)))))) (.region 9 Tn false))))
def f52c : Code := (.seq (.region 0 aaj false) (.seq (.seq (.region 1 Rd false) (.block 0 (.loop El))) (.seq (.region 10 Ic false) .ret)))
def JC : List (Nat × b4) := [(0, Yr), (1, BJ), (2, TR), (3, ER), (4, DQ), (5, Pf), (6, Ep), (7, EE), (8, Oz), (9, Wy), (10, xc)]
noncomputable def Uj := oN f28 2
def XT : b4 := ⟨[0, 2], []⟩
noncomputable def adr := oN f28 5
def ES : b4 := ⟨[1, 3, 4, 5, 6, 7, 8, 9, 10, 11, 12, 13, 14, 15, 16, 17, 18, 19, 20, 21, 22, 23, 24, 25, 26, 27], []⟩
def f28c : Code := (.seq (.region 0 Uj false) (.seq (.region 1 adr false) .ret))
def ZR : List (Nat × b4) := [(0, XT), (1, ES)]
noncomputable def acE := oN f97 2
def Vu : b4 := ⟨[2], []⟩
noncomputable def VX := oN f97 5
def Vy : b4 := ⟨[], []⟩
noncomputable def WF := oN f97 19
def TA : b4 := ⟨[6], []⟩
noncomputable def QJ := oN f97 139
def Qm : b4 := ⟨[], []⟩
noncomputable def UC := oN f97 2251
def abb : b4 := ⟨[9, 10], []⟩
noncomputable def TQ := oN f97 5323
def Du : b4 := ⟨[4, 11, 12, 13, 14, 15, 16], []⟩
noncomputable def VN := oN f97 19659
def abC : b4 := ⟨[17], []⟩
noncomputable def Yq := oN f97 77003
def WT : b4 := ⟨[0, 3, 5, 7, 8, 18], []⟩
noncomputable def aaU := oN f97 15563
def ZZ : b4 := ⟨[5, 18, 19, 20, 21, 22], []⟩
noncomputable def Zm := oN f97 971
def Yj : b4 := ⟨[23], []⟩
noncomputable def Jr := oN f97 23
def LP : b4 := ⟨[0, 3, 7, 8, 9], []⟩
def Fk : Code := (.seq (.region 3 QJ false) (.seq (.cond (.tmp 9) .skip (.exit 0)) (.seq (.block 1 (.seq (.region 4 UC false) (.seq (.region 5 TQ true) (.seq (.seq (.region 6 VN false) (.cond (.tmp 18) (.seq (.region 7 Yq false) .ret) .skip)) (.region 8 aaU false))))) (.region 9 Zm false))))
def f97c : Code := (.seq (.region 0 acE false) (.seq (.region 1 VX false) (.seq (.seq (.region 2 WF false) (.block 0 (.loop Fk))) (.seq (.region 10 Jr false) .ret))))
def HH : List (Nat × b4) := [(0, Vu), (1, Vy), (2, TA), (3, Qm), (4, abb), (5, Du), (6, abC), (7, WT), (8, ZZ), (9, Yj), (10, LP)]
noncomputable def JT := oN f132 2
def HI : b4 := ⟨[4], []⟩
noncomputable def NA := oN f132 9
def yg : b4 := ⟨[6], []⟩
noncomputable def Ig := oN f132 69
def JD : b4 := ⟨[], []⟩
noncomputable def GK := oN f132 1125
def NG : b4 := ⟨[9, 10], []⟩
noncomputable def HD := oN f132 2661
def Ay : b4 := ⟨[11, 12, 13, 14, 15], []⟩
noncomputable def Hj := oN f132 9829
def Lc : b4 := ⟨[0, 1, 5, 7, 8, 16, 17], []⟩
noncomputable def LG := oN f132 485
def Mx : b4 := ⟨[5, 16, 18], []⟩
noncomputable def MV := oN f132 11
def IA : b4 := ⟨[0, 1, 7, 8, 9], []⟩
def AD : Code := (.seq (.region 2 Ig false) (.seq (.cond (.tmp 9) .skip (.exit 0)) (.seq (.block 1 (.seq (.region 3 GK false) (.seq (.region 4 HD false) (.cond (.tmp 16) (.seq (.region 5 Hj false) .ret) .skip)))) (.region 6 LG false))))
def Yv : Code := (.seq (.region 0 JT false) (.seq (.seq (.region 1 NA false) (.block 0 (.loop AD))) (.seq (.region 7 MV false) .ret)))
def yo : List (Nat × b4) := [(0, HI), (1, yg), (2, JD), (3, NG), (4, Ay), (5, Lc), (6, Mx), (7, IA)]
noncomputable def Lu := oN f118 2
def Hh : b4 := ⟨[4], []⟩
noncomputable def JV := oN f118 5
def xG : b4 := ⟨[0, 1, 5, 6, 7, 8], []⟩
def Qa : Code := (.seq (.region 0 Lu false) (.seq (.region 1 JV false) .ret))
def FC : List (Nat × b4) := [(0, Hh), (1, xG)]
noncomputable def NK := oN f119 2
def KB : b4 := ⟨[3], []⟩
noncomputable def Ns := oN f119 5
def yc : b4 := ⟨[0, 1, 4, 5, 6, 7, 8, 9, 10, 11, 12], []⟩
def OG : Code := (.seq (.region 0 NK false) (.seq (.region 1 Ns false) .ret))
def CV : List (Nat × b4) := [(0, KB), (1, yc)]
noncomputable def adk := oN f90 2
def RW : b4 := ⟨[0, 4], []⟩
noncomputable def XF := oN f90 17
def CR : b4 := ⟨[6, 7, 8], []⟩
noncomputable def adJ := oN f90 73
def Rf : b4 := ⟨[1, 2, 5], []⟩
noncomputable def WN := oN f90 89
def CJ : b4 := ⟨[1, 2, 5, 10, 11, 12], []⟩
noncomputable def Vf := oN f90 313
def Ue : b4 := ⟨[9], []⟩
noncomputable def acD := oN f90 11
def adX : b4 := ⟨[9], []⟩
def f90c : Code := (.seq (.region 0 adk false) (.seq (.block 0 (.seq (.region 1 XF false) (.cond (.tmp 5) (.seq (.region 2 adJ false) .ret) (.seq (.region 3 WN false) (.cond (.tmp 9) (.seq (.region 4 Vf false) .ret) .skip))))) (.seq (.region 5 acD false) .ret)))
def ZA : List (Nat × b4) := [(0, RW), (1, CR), (2, Rf), (3, CJ), (4, Ue), (5, adX)]
noncomputable def Pc := oN f93 2
def Pp : b4 := ⟨[0, 3], []⟩
noncomputable def ack := oN f93 5
def Pq : b4 := ⟨[1, 2, 4, 5, 6, 7], []⟩
def f93c : Code := (.seq (.region 0 Pc false) (.seq (.region 1 ack false) .ret))
def ac2 : List (Nat × b4) := [(0, Pp), (1, Pq)]
noncomputable def WS := oN f91 2
def ab8 : b4 := ⟨[2, 3], []⟩
noncomputable def ZU := oN f91 9
def Pn : b4 := ⟨[4], []⟩
noncomputable def Ra := oN f91 37
def aal : b4 := ⟨[0, 5], []⟩
noncomputable def Wc := oN f91 11
def Wp : b4 := ⟨[0, 5, 6], []⟩
def f91c : Code := (.seq (.region 0 WS false) (.seq (.seq (.region 1 ZU false) (.cond (.tmp 5) (.seq (.region 2 Ra false) .ret) .skip)) (.seq (.region 3 Wc false) .ret)))
def aa2 : List (Nat × b4) := [(0, ab8), (1, Pn), (2, aal), (3, Wp)]
noncomputable def Tu := oN f54 2
def Tk : b4 := ⟨[0, 1, 4, 5], []⟩
noncomputable def Sj := oN f54 9
def Dz : b4 := ⟨[7, 8], []⟩
noncomputable def VL := oN f54 21
def adz : b4 := ⟨[9], []⟩
noncomputable def PO := oN f54 77
def aaM : b4 := ⟨[2, 3, 6, 10, 11], []⟩
noncomputable def Uh := oN f54 11
def EQ : b4 := ⟨[2, 3, 6, 10, 12, 13, 14, 15, 16, 17, 18], []⟩
def f54c : Code := (.seq (.region 0 Tu false) (.seq (.seq (.region 1 Sj false) (.seq (.region 2 VL false) (.cond (.tmp 10) (.seq (.region 3 PO false) .ret) .skip))) (.seq (.region 4 Uh false) .ret)))
def Tq : List (Nat × b4) := [(0, Tk), (1, Dz), (2, adz), (3, aaM), (4, EQ)]
noncomputable def JU := oN f122 2
def MJ : b4 := ⟨[0, 4], []⟩
noncomputable def Lj := oN f122 5
def Nv : b4 := ⟨[], [(0, { site := true })]⟩
noncomputable def GG := oN f122 131
def Gt : b4 := ⟨[6], []⟩
noncomputable def GP := oN f122 227
def yp : b4 := ⟨[8, 9, 10, 11, 12, 13], []⟩
noncomputable def Ir := oN f122 291
def yE : b4 := ⟨[7, 14, 15, 16, 17], []⟩
noncomputable def LA := oN f122 23
def yr : b4 := ⟨[1, 2, 7, 18, 19], [(1, { eff := true })]⟩
noncomputable def Jo := oN f122 47
def xe : b4 := ⟨[5, 20], [(1, { close := true })]⟩
def Am : Code := (.seq (.seq (.region 2 GG false) (.cond (.tmp 7) .skip (.exit 0))) (.seq (.block 1 (.region 4 Ir false)) (.region 3 GP false)))
def adt : Code := (.seq (.region 0 JU false) (.seq (.region 1 Lj false) (.seq (.block 0 (.loop Am)) (.seq (.region 5 LA false) (.seq (.region 6 Jo false) .ret)))))
def Ap : List (Nat × b4) := [(0, MJ), (1, Nv), (2, Gt), (3, yp), (4, yE), (5, yr), (6, xe)]
noncomputable def HL := oN f121 2
def Gx : b4 := ⟨[4], []⟩
noncomputable def MH := oN f121 5
def yk : b4 := ⟨[0, 1, 5, 6, 7, 8], []⟩
def aak : Code := (.seq (.region 0 HL false) (.seq (.region 1 MH false) .ret))
def Dw : List (Nat × b4) := [(0, Gx), (1, yk)]
noncomputable def acu := oN f98 2
def adl : b4 := ⟨[0, 6, 7], []⟩
noncomputable def QE := oN f98 9
def FI : b4 := ⟨[9, 10, 11, 12, 13], []⟩
noncomputable def RJ := oN f98 21
def Zc : b4 := ⟨[14], []⟩
noncomputable def QS := oN f98 77
def Qq : b4 := ⟨[1, 2, 3, 8, 15, 16], []⟩
noncomputable def acA := oN f98 11
def Ev : b4 := ⟨[1, 2, 3, 8, 15, 17, 18, 19, 20, 21, 22, 23, 24, 25, 26], []⟩
def f98c : Code := (.seq (.region 0 acu false) (.seq (.seq (.region 1 QE false) (.seq (.region 2 RJ false) (.cond (.tmp 15) (.seq (.region 3 QS false) .ret) .skip))) (.seq (.region 4 acA false) .ret)))
def abm : List (Nat × b4) := [(0, adl), (1, FI), (2, Zc), (3, Qq), (4, Ev)]
noncomputable def LK := oN f123 2
def Nt : b4 := ⟨[0, 4, 5], []⟩
noncomputable def Lg := oN f123 9
def yK : b4 := ⟨[7, 8, 9, 10], []⟩
noncomputable def Lq := oN f123 21
def Hz : b4 := ⟨[11], []⟩
noncomputable def KK := oN f123 77
def Iw : b4 := ⟨[1, 2, 6, 12, 13], []⟩
noncomputable def HZ := oN f123 11
def yS : b4 := ⟨[1, 2, 6, 12, 14, 15, 16], []⟩
def Ye : Code := (.seq (.region 0 LK false) (.seq (.seq (.region 1 Lg false) (.seq (.region 2 Lq false) (.cond (.tmp 12) (.seq (.region 3 KK false) .ret) .skip))) (.seq (.region 4 HZ false) .ret)))
def En : List (Nat × b4) := [(0, Nt), (1, yK), (2, Hz), (3, Iw), (4, yS)]
noncomputable def KG := oN f102 2
def GO : b4 := ⟨[0, 4, 5], []⟩
noncomputable def JM := oN f102 5
def zH : b4 := ⟨[1, 2, 8, 9, 10, 11, 12, 13], []⟩
noncomputable def JW := oN f102 11
def AL : b4 := ⟨[6, 7, 14, 15, 16], []⟩
def adm : Code := (.seq (.region 0 KG false) (.seq (.region 1 JM false) (.seq (.region 2 JW false) .ret)))
def Fm : List (Nat × b4) := [(0, GO), (1, zH), (2, AL)]
noncomputable def XO := oN f71 2
def WA : b4 := ⟨[0, 4], []⟩
noncomputable def Re := oN f71 5
def DJ : b4 := ⟨[1, 2, 5, 7, 8, 9, 10, 11, 12], []⟩
noncomputable def ZT := oN f71 11
def Vs : b4 := ⟨[6, 13], []⟩
def f71c : Code := (.seq (.region 0 XO false) (.seq (.region 1 Re false) (.seq (.region 2 ZT false) .ret)))
def Zf : List (Nat × b4) := [(0, WA), (1, DJ), (2, Vs)]
noncomputable def GY := oN f124 2
def GR : b4 := ⟨[4], []⟩
noncomputable def Mf := oN f124 9
def xw : b4 := ⟨[6], []⟩
noncomputable def Gj := oN f124 69
def Ll : b4 := ⟨[], []⟩
noncomputable def Gr := oN f124 1125
def LC : b4 := ⟨[9, 10], []⟩
noncomputable def IJ := oN f124 2661
def xP : b4 := ⟨[11, 12, 13, 14, 15], []⟩
noncomputable def Nb := oN f124 9829
def LN : b4 := ⟨[0, 1, 5, 7, 8, 16, 17], []⟩
noncomputable def Mv := oN f124 485
def Jt : b4 := ⟨[5, 16, 18], []⟩
noncomputable def Id := oN f124 11
def GT : b4 := ⟨[0, 1, 7, 8, 9], []⟩
def yu : Code := (.seq (.region 2 Gj false) (.seq (.cond (.tmp 9) .skip (.exit 0)) (.seq (.block 1 (.seq (.region 3 Gr false) (.seq (.region 4 IJ false) (.cond (.tmp 16) (.seq (.region 5 Nb false) .ret) .skip)))) (.region 6 Mv false))))
def acN : Code := (.seq (.region 0 GY false) (.seq (.seq (.region 1 Mf false) (.block 0 (.loop yu))) (.seq (.region 7 Id false) .ret)))
def xZ : List (Nat × b4) := [(0, GR), (1, xw), (2, Ll), (3, LC), (4, xP), (5, LN), (6, Jt), (7, GT)]
noncomputable def Mc := oN f104 2
def MS : b4 := ⟨[4], []⟩
noncomputable def Kh := oN f104 5
def ym : b4 := ⟨[0, 1, 5, 6, 7, 8], []⟩
def OS : Code := (.seq (.region 0 Mc false) (.seq (.region 1 Kh false) .ret))
def BG : List (Nat × b4) := [(0, MS), (1, ym)]
noncomputable def Nn := oN f125 2
def KJ : b4 := ⟨[4], []⟩
noncomputable def HO := oN f125 9
def zq : b4 := ⟨[6], []⟩
noncomputable def IY := oN f125 69
def LO : b4 := ⟨[], []⟩
noncomputable def HV := oN f125 1125
def Hm : b4 := ⟨[9, 10], []⟩
noncomputable def Kz := oN f125 2661
def yz : b4 := ⟨[11, 12, 13, 14, 15], []⟩
noncomputable def Ip := oN f125 9829
def Hx : b4 := ⟨[0, 1, 5, 7, 8, 16, 17], []⟩
noncomputable def IE := oN f125 485
def IM : b4 := ⟨[5, 16, 18], []⟩
noncomputable def It := oN f125 11
def Od : b4 := ⟨[0, 1, 7, 8, 9], []⟩
def za : Code := (.seq (.region 2 IY false) (.seq (.cond (.tmp 9) .skip (.exit 0)) (.seq (.block 1 (.seq (.region 3 HV false) (.seq (.region 4 Kz false) (.cond (.tmp 16) (.seq (.region 5 Ip false) .ret) .skip)))) (.region 6 IE false))))
def Wg : Code := (.seq (.region 0 Nn false) (.seq (.seq (.region 1 HO false) (.block 0 (.loop za))) (.seq (.region 7 It false) .ret)))
def xB : List (Nat × b4) := [(0, KJ), (1, zq), (2, LO), (3, Hm), (4, yz), (5, Hx), (6, IM), (7, Od)]
noncomputable def HS := oN f106 2
def Ij : b4 := ⟨[4], []⟩
noncomputable def Om := oN f106 5
def xj : b4 := ⟨[0, 1, 5, 6, 7, 8], []⟩
def WL : Code := (.seq (.region 0 HS false) (.seq (.region 1 Om false) .ret))
def Ck : List (Nat × b4) := [(0, Ij), (1, xj)]
noncomputable def Mp := oN f134 2
def Kx : b4 := ⟨[0, 3], []⟩
noncomputable def Kf := oN f134 5
def GL : b4 := ⟨[1, 2, 4, 5, 6, 7], []⟩
def Yf : Code := (.seq (.region 0 Mp false) (.seq (.region 1 Kf false) .ret))
def EM : List (Nat × b4) := [(0, Kx), (1, GL)]
noncomputable def MR := oN f120 2
def Hq : b4 := ⟨[0, 1, 4, 5], []⟩
noncomputable def Nm := oN f120 5
def zX : b4 := ⟨[2, 3, 7, 8, 9, 10], []⟩
noncomputable def Ng := oN f120 11
def GV : b4 := ⟨[6, 11, 12, 13], []⟩
def aaR : Code := (.seq (.region 0 MR false) (.seq (.region 1 Nm false) (.seq (.region 2 Ng false) .ret)))
def CE : List (Nat × b4) := [(0, Hq), (1, zX), (2, GV)]
noncomputable def NO := oN f108 2
def Nr : b4 := ⟨[0, 1, 4], []⟩
noncomputable def LR := oN f108 5
def Ag : b4 := ⟨[7, 8, 9, 10, 11, 12, 13], []⟩
noncomputable def Nl := oN f108 11
def yQ : b4 := ⟨[2, 3, 5, 6, 14, 15, 16, 17, 18, 19, 20, 21, 22, 23, 24, 25, 26, 27, 28, 29, 30, 31, 32, 33, 34, 35, 36], []⟩
def VH : Code := (.seq (.region 0 NO false) (.seq (.region 1 LR false) (.seq (.region 2 Nl true) .ret)))
def CA : List (Nat × b4) := [(0, Nr), (1, Ag), (2, yQ)]
noncomputable def Kw := oN f107 2
def Ia : b4 := ⟨[0, 3], []⟩
noncomputable def Gl := oN f107 5
def yZ : b4 := ⟨[1, 2, 4, 5, 6, 7], []⟩
def Pw : Code := (.seq (.region 0 Kw false) (.seq (.region 1 Gl false) .ret))
def EY : List (Nat × b4) := [(0, Ia), (1, yZ)]
noncomputable def NL := oN f105 2
def GH : b4 := ⟨[3], []⟩
noncomputable def Oa := oN f105 5
def zn : b4 := ⟨[0, 1, 4, 5, 6, 7, 8, 9, 10, 11, 12, 13, 14, 15, 16], []⟩
def adL : Code := (.seq (.region 0 NL false) (.seq (.region 1 Oa false) .ret))
def Eo : List (Nat × b4) := [(0, GH), (1, zn)]
noncomputable def YL := oN f74 2
def Rj : b4 := ⟨[0, 4], []⟩
noncomputable def Rx := oN f74 5
def Da : b4 := ⟨[1, 2, 5, 6, 7, 8, 9, 10, 11, 12, 13], []⟩
def f74c : Code := (.seq (.region 0 YL false) (.seq (.region 1 Rx false) .ret))
def Xw : List (Nat × b4) := [(0, Rj), (1, Da)]
noncomputable def aaf := oN f99 2
def Ux : b4 := ⟨[0, 6, 7], []⟩
noncomputable def WM := oN f99 9
def Ek : b4 := ⟨[9, 10, 11], []⟩
noncomputable def Rg := oN f99 21
def WV : b4 := ⟨[12], []⟩
noncomputable def VK := oN f99 77
def OC : b4 := ⟨[1, 2, 3, 8, 13, 14], []⟩
noncomputable def Wh := oN f99 11
def DT : b4 := ⟨[1, 2, 3, 8, 13, 15, 16, 17, 18, 19, 20, 21], []⟩
def f99c : Code := (.seq (.region 0 aaf false) (.seq (.seq (.region 1 WM false) (.seq (.region 2 Rg false) (.cond (.tmp 13) (.seq (.region 3 VK false) .ret) .skip))) (.seq (.region 4 Wh false) .ret)))
def abU : List (Nat × b4) := [(0, Ux), (1, Ek), (2, WV), (3, OC), (4, DT)]
noncomputable def PL := oN f65 2
def abr : b4 := ⟨[0, 2, 6, 7], []⟩
noncomputable def Zu := oN f65 9
def Cp : b4 := ⟨[14, 15, 16], []⟩
noncomputable def Xz := oN f65 37
def TD : b4 := ⟨[1, 3, 5, 17], []⟩
noncomputable def Zk := oN f65 11
def CL : b4 := ⟨[17, 18, 19, 20, 21, 22, 23, 24], []⟩
noncomputable def abk := oN f65 39
def Uq : b4 := ⟨[9, 25], []⟩
noncomputable def TU := oN f65 151
def Zy : b4 := ⟨[1, 3, 5, 8, 26], []⟩
noncomputable def RY := oN f65 79
def SQ : b4 := ⟨[26, 27], []⟩
noncomputable def acX := oN f65 303
def DH : b4 := ⟨[1, 11, 28, 29, 30, 31, 32, 33, 34, 35], []⟩
noncomputable def TJ := oN f65 687
def aaw : b4 := ⟨[10, 36], []⟩
noncomputable def TB := oN f65 2479
def YR : b4 := ⟨[3, 5, 8, 37], []⟩
noncomputable def Jz := oN f65 159
def ub : b4 := ⟨[1, 3, 5, 13, 28, 37, 38, 39, 40, 41, 42, 43, 44, 45], []⟩
noncomputable def Jj := oN f65 351
def Gc : b4 := ⟨[12, 46], []⟩
noncomputable def Gu := oN f65 1247
def Ni : b4 := ⟨[8, 47], []⟩
noncomputable def Oj := oN f65 191
def Iq : b4 := ⟨[8, 47, 48], []⟩
def f65c : Code := (.seq (.region 0 PL false) (.seq (.seq (.region 1 Zu false) (.cond (.tmp 17) (.seq (.region 2 Xz false) .ret) .skip)) (.seq (.region 3 Zk false) (.seq (.seq (.region 4 abk false) (.cond (.tmp 26) (.seq (.region 5 TU false) .ret) .skip)) (.seq (.seq (.region 6 RY false) (.cond (.tmp 28) (.seq (.region 7 acX false) (.seq (.region 8 TJ false) (.cond (.tmp 37) (.seq (.region 9 TB false) .ret) .skip))) .skip)) (.seq (.seq (.region 10 Jz false) (.seq (.region 11 Jj false) (.cond (.tmp 47) (.seq (.region 12 Gu false) .ret) .skip))) (.seq (.region 13 Oj false) .ret)))))))
def aaW : List (Nat × b4) := [(0, abr), (1, Cp), (2, TD), (3, CL), (4, Uq), (5, Zy), (6, SQ), (7, DH), (8, aaw), (9, YR), (10, ub), (11, Gc), (12, Ni), (13, Iq)]
noncomputable def SB := oN f36 2
def abL : b4 := ⟨[0, 4, 5], []⟩
noncomputable def adP := oN f36 9
def EZ : b4 := ⟨[12, 13], []⟩
noncomputable def Vl := oN f36 37
def adH : b4 := ⟨[1, 2, 14], []⟩
noncomputable def Pb := oN f36 11
def SX : b4 := ⟨[14], []⟩
noncomputable def abl := oN f36 23
def Yt : b4 := ⟨[], [(0, { keep := [0] })]⟩
noncomputable def Se := oN f36 79
def Fg : b4 := ⟨[1], []⟩
noncomputable def aaE := oN f36 559
def aaC : b4 := ⟨[], []⟩
noncomputable def ade := oN f36 9007
def Fy : b4 := ⟨[18, 19, 20], []⟩
noncomputable def Xx := oN f36 21295
def Dd : b4 := ⟨[6, 9, 21, 22, 23, 24, 25, 26, 27], []⟩
noncomputable def abT := oN f36 78639
def Ri : b4 := ⟨[28], []⟩
noncomputable def Jf := oN f36 308015
def IB : b4 := ⟨[2, 7, 10, 11, 15, 16, 17, 29, 30], []⟩
noncomputable def Io := oN f36 95023
def Hn : b4 := ⟨[10, 29, 31], []⟩
noncomputable def Ne := oN f36 127791
def zm : b4 := ⟨[11, 32, 33, 34, 35], [(0, { tk := [7], keep := [0] }), (3, { tk := [32], keep := [0] }), (4, { tk := [35], keep := [0] })]⟩
noncomputable def Oi := oN f36 3887
def HE : b4 := ⟨[36], []⟩
noncomputable def Ho := oN f36 95
def Ha : b4 := ⟨[2, 6, 7, 15, 16, 17, 18, 37], []⟩
def Ee : Code := (.seq (.region 6 aaE false) (.seq (.cond (.tmp 18) .skip (.exit 0)) (.seq (.block 1 (.seq (.region 7 ade false) (.seq (.region 8 Xx false) (.seq (.seq (.region 9 abT false) (.cond (.tmp 29) (.seq (.region 10 Jf false) .ret) .skip)) (.seq (.region 11 Io false) (.region 12 Ne false)))))) (.region 13 Oi false))))
def f36c : Code := (.seq (.region 0 SB false) (.seq (.seq (.region 1 adP false) (.cond (.tmp 14) (.seq (.region 2 Vl false) .ret) .skip)) (.seq (.region 3 Pb false) (.seq (.region 4 abl false) (.seq (.seq (.region 5 Se false) (.block 0 (.loop Ee))) (.seq (.region 14 Ho false) .ret))))))
def NC : List (Nat × b4) := [(0, abL), (1, EZ), (2, adH), (3, SX), (4, Yt), (5, Fg), (6, aaC), (7, Fy), (8, Dd), (9, Ri), (10, IB), (11, Hn), (12, zm), (13, HE), (14, Ha)]
noncomputable def Vk := oN f22 2
def Pd : b4 := ⟨[0, 4, 5], []⟩
noncomputable def Yn := oN f22 9
def Fw : b4 := ⟨[8, 9], []⟩
noncomputable def QD := oN f22 37
def VP : b4 := ⟨[1, 2, 10], []⟩
noncomputable def aax := oN f22 11
def EL : b4 := ⟨[1, 2, 10, 11, 12, 13, 14, 15, 16], []⟩
noncomputable def RL := oN f22 39
def RP : b4 := ⟨[6, 17], []⟩
noncomputable def Qh := oN f22 151
def abP : b4 := ⟨[7, 18], []⟩
noncomputable def OH := oN f22 47
def Yu : b4 := ⟨[7, 18, 19], []⟩
def f22c : Code := (.seq (.region 0 Vk false) (.seq (.seq (.region 1 Yn false) (.cond (.tmp 10) (.seq (.region 2 QD false) .ret) .skip)) (.seq (.region 3 aax false) (.seq (.seq (.region 4 RL false) (.cond (.tmp 18) (.seq (.region 5 Qh false) .ret) .skip)) (.seq (.region 6 OH false) .ret)))))
def acC : List (Nat × b4) := [(0, Pd), (1, Fw), (2, VP), (3, EL), (4, RP), (5, abP), (6, Yu)]
noncomputable def IK := oN f103 2
def KE : b4 := ⟨[4], []⟩
noncomputable def Jh := oN f103 9
def xL : b4 := ⟨[6], []⟩
noncomputable def Md := oN f103 69
def Mo : b4 := ⟨[], []⟩
noncomputable def HW := oN f103 1125
def KM : b4 := ⟨[9, 10], []⟩
noncomputable def JP := oN f103 2661
def Ar : b4 := ⟨[11, 12, 13, 14, 15], []⟩
noncomputable def GF := oN f103 9829
def Jg : b4 := ⟨[0, 1, 5, 7, 8, 16, 17], []⟩
noncomputable def Jc := oN f103 485
def IQ : b4 := ⟨[5, 16, 18], []⟩
noncomputable def JQ := oN f103 11
def Oy : b4 := ⟨[0, 1, 7, 8, 9], []⟩
def zK : Code := (.seq (.region 2 Md false) (.seq (.cond (.tmp 9) .skip (.exit 0)) (.seq (.block 1 (.seq (.region 3 HW false) (.seq (.region 4 JP false) (.cond (.tmp 16) (.seq (.region 5 GF false) .ret) .skip)))) (.region 6 Jc false))))
def ZJ : Code := (.seq (.region 0 IK false) (.seq (.seq (.region 1 Jh false) (.block 0 (.loop zK))) (.seq (.region 7 JQ false) .ret)))
def zF : List (Nat × b4) := [(0, KE), (1, xL), (2, Mo), (3, KM), (4, Ar), (5, Jg), (6, IQ), (7, Oy)]
noncomputable def aa3 := oN f72 2
def XZ : b4 := ⟨[4], []⟩
noncomputable def Qv := oN f72 5
def Fz : b4 := ⟨[0, 1, 5, 6, 7, 8], []⟩
def f72c : Code := (.seq (.region 0 aa3 false) (.seq (.region 1 Qv false) .ret))
def abG : List (Nat × b4) := [(0, XZ), (1, Fz)]
noncomputable def Sw := oN f73 2
def acw : b4 := ⟨[3], []⟩
noncomputable def Sl := oN f73 5
def CY : b4 := ⟨[0, 1, 4, 5, 6, 7], []⟩
def f73c : Code := (.seq (.region 0 Sw false) (.seq (.region 1 Sl false) .ret))
def Px : List (Nat × b4) := [(0, acw), (1, CY)]
noncomputable def XK := oN f43 2
def Xt : b4 := ⟨[0, 7], []⟩
noncomputable def abN := oN f43 9
def Cr : b4 := ⟨[10, 11, 12], []⟩
noncomputable def XE := oN f43 21
def PM : b4 := ⟨[13], []⟩
noncomputable def Rb := oN f43 77
def abJ : b4 := ⟨[1, 2, 3, 8, 14, 15, 16], []⟩
noncomputable def Pu := oN f43 11
def BZ : b4 := ⟨[1, 3, 8, 14, 17, 18, 19, 20, 21], []⟩
noncomputable def OV := oN f43 39
def Ed : b4 := ⟨[2, 22, 23], []⟩
noncomputable def WB := oN f43 151
def Sx : b4 := ⟨[9, 24, 25], []⟩
noncomputable def acV := oN f43 47
def PF : b4 := ⟨[9, 24, 26], []⟩
def f43c : Code := (.seq (.region 0 XK false) (.seq (.seq (.region 1 abN false) (.seq (.region 2 XE false) (.cond (.tmp 14) (.seq (.region 3 Rb false) .ret) .skip))) (.seq (.region 4 Pu false) (.seq (.seq (.region 5 OV false) (.cond (.tmp 24) (.seq (.region 6 WB false) .ret) .skip)) (.seq (.region 7 acV false) .ret)))))
def WD : List (Nat × b4) := [(0, Xt), (1, Cr), (2, PM), (3, abJ), (4, BZ), (5, Ed), (6, Sx), (7, PF)]
noncomputable def Qr := oN f44 2
def RG : b4 := ⟨[2], []⟩
noncomputable def Qg := oN f44 5
def DN : b4 := ⟨[0, 3, 4, 5, 6], []⟩
def f44c : Code := (.seq (.region 0 Qr false) (.seq (.region 1 Qg false) .ret))
def aaK : List (Nat × b4) := [(0, RG), (1, DN)]
noncomputable def abV := oN f24 2
def abK : b4 := ⟨[0, 6, 7], []⟩
noncomputable def Uy := oN f24 9
def Ew : b4 := ⟨[1, 3, 8, 16, 17, 18, 19, 20, 21, 22, 23], []⟩
noncomputable def Wz := oN f24 21
def Ys : b4 := ⟨[24], []⟩
noncomputable def Yi := oN f24 77
def aaL : b4 := ⟨[2, 9, 25, 26], []⟩
noncomputable def XD := oN f24 11
def Tp : b4 := ⟨[9, 25], [(0, { keep := [0] })]⟩
noncomputable def Xm := oN f24 39
def EW : b4 := ⟨[2], []⟩
noncomputable def WQ := oN f24 279
def YW : b4 := ⟨[], []⟩
noncomputable def Pk := oN f24 4503
def FA : b4 := ⟨[30, 31, 32], []⟩
noncomputable def OI := oN f24 10647
def Pg : b4 := ⟨[], [(0, { site := true })]⟩
noncomputable def Zz := oN f24 39319
def BL : b4 := ⟨[12], []⟩
noncomputable def Lb := oN f24 285079
def Jx : b4 := ⟨[], []⟩
noncomputable def Nh := oN f24 4610455
def AC : b4 := ⟨[36, 37, 38], []⟩
noncomputable def ND := oN f24 6707607
def Ai : b4 := ⟨[15, 39, 40, 41, 42, 43, 44, 45, 46, 47, 48, 49, 50, 51, 52, 53, 54, 55, 56], [(18, { eff := true })]⟩
noncomputable def IF := oN f24 1989015
def Jd : b4 := ⟨[57], []⟩
noncomputable def HX := oN f24 31127
def xJ : b4 := ⟨[13, 33, 34, 35, 36, 58, 59, 60, 61, 62], [(0, { tk := [10], keep := [0] }), (4, { tk := [58], keep := [0] }), (5, { tk := [62], keep := [0] })]⟩
noncomputable def IZ := oN f24 1943
def Nd : b4 := ⟨[63], []⟩
noncomputable def Lv := oN f24 47
def Av : b4 := ⟨[10, 27, 28, 29, 30, 64, 65], []⟩
def Ea : Code := (.seq (.region 10 Lb false) (.seq (.cond (.tmp 36) .skip (.exit 2)) (.seq (.block 3 (.seq (.region 11 Nh false) (.region 12 ND true))) (.region 13 IF false))))
def Dp : Code := (.seq (.region 6 WQ false) (.seq (.cond (.tmp 30) .skip (.exit 0)) (.seq (.block 1 (.seq (.region 7 Pk false) (.seq (.region 8 OI false) (.seq (.seq (.region 9 Zz false) (.block 2 (.loop Ea))) (.region 14 HX false))))) (.region 15 IZ false))))
def f24c : Code := (.seq (.region 0 abV false) (.seq (.seq (.region 1 Uy false) (.seq (.region 2 Wz false) (.cond (.tmp 25) (.seq (.region 3 Yi false) .ret) .skip))) (.seq (.region 4 XD false) (.seq (.seq (.region 5 Xm false) (.block 0 (.loop Dp))) (.seq (.region 16 Lv false) .ret)))))
def Be : List (Nat × b4) := [(0, abK), (1, Ew), (2, Ys), (3, aaL), (4, Tp), (5, EW), (6, YW), (7, FA), (8, Pg), (9, BL), (10, Jx), (11, AC), (12, Ai), (13, Jd), (14, xJ), (15, Nd), (16, Av)]
noncomputable def f8o0 := oN f8 2
def f8a0 : b4 := ⟨[0, 1, 4, 5], []⟩
noncomputable def f8o1 := oN f8 5
def XI : b4 := ⟨[10, 11, 12, 13, 14, 15, 16], []⟩
noncomputable def f8o2 := oN f8 19
def f8a2 : b4 := ⟨[17], []⟩
noncomputable def f8o3 := oN f8 75
def f8a3 : b4 := ⟨[2, 3, 6, 7, 18, 19], []⟩
noncomputable def f8o4 := oN f8 23
def Qn : b4 := ⟨[7, 18, 20, 21, 22, 23, 24, 25, 26, 27], []⟩
noncomputable def f8o5 := oN f8 79
def f8a5 : b4 := ⟨[28, 29], []⟩
noncomputable def f8o6 := oN f8 175
def YI : b4 := ⟨[30, 31, 32, 33, 34, 35], []⟩
noncomputable def f8o7 := oN f8 159
def NY : b4 := ⟨[30, 36, 37, 38], []⟩
noncomputable def f8o8 := oN f8 607
def Gg : b4 := ⟨[2, 3, 6, 8, 39, 40, 41], []⟩
noncomputable def f8o9 := oN f8 191
def GN : b4 := ⟨[2, 3, 6, 39, 42, 43, 44, 45, 46, 47, 48, 49, 50, 51], []⟩
noncomputable def Uv := oN f8 639
def Vz : b4 := ⟨[52], []⟩
noncomputable def Yo := oN f8 2431
def ad2 : b4 := ⟨[7, 8, 9, 53, 54], []⟩
noncomputable def Yl := oN f8 767
def Ax : b4 := ⟨[7, 8, 9, 53, 55, 56, 57, 58, 59], []⟩
def f8c : Code := (.seq (.region 0 f8o0 false) (.seq (.region 1 f8o1 false) (.seq (.seq (.region 2 f8o2 false) (.cond (.tmp 18) (.seq (.region 3 f8o3 false) .ret) .skip)) (.seq (.region 4 f8o4 true) (.seq (.seq (.region 5 f8o5 false) (.cond (.tmp 30) (.region 6 f8o6 false) .skip)) (.seq (.seq (.region 7 f8o7 false) (.cond (.tmp 39) (.seq (.region 8 f8o8 false) .ret) .skip)) (.seq (.region 9 f8o9 true) (.seq (.seq (.region 10 Uv false) (.cond (.tmp 53) (.seq (.region 11 Yo false) .ret) .skip)) (.seq (.region 12 Yl false) .ret)))))))))
def f8n : List (Nat × b4) := [(0, f8a0), (1, XI), (2, f8a2), (3, f8a3), (4, Qn), (5, f8a5), (6, YI), (7, NY), (8, Gg), (9, GN), (10, Vz), (11, ad2), (12, Ax)]
noncomputable def f7o0 := oN f7 2
def f7a0 : b4 := ⟨[0], []⟩
noncomputable def f7o1 := oN f7 5
def f7a1 : b4 := ⟨[6, 7, 8, 9], []⟩
noncomputable def f7o2 := oN f7 11
def XG : b4 := ⟨[1, 10, 11, 12, 13, 14, 15], []⟩
noncomputable def f7o3 := oN f7 23
def aad : b4 := ⟨[16, 17, 18, 19, 20, 21], []⟩
noncomputable def f7o4 := oN f7 47
def Tj : b4 := ⟨[2, 3, 4, 5, 22, 23, 24, 25, 26, 27, 28, 29, 30, 31, 32, 33, 34, 35], []⟩
def f7c : Code := (.seq (.region 0 f7o0 false) (.seq (.region 1 f7o1 false) (.seq (.region 2 f7o2 true) (.seq (.region 3 f7o3 false) (.seq (.region 4 f7o4 false) .ret)))))
def f7n : List (Nat × b4) := [(0, f7a0), (1, f7a1), (2, XG), (3, aad), (4, Tj)]
noncomputable def XA := oN f56 2
def UI : b4 := ⟨[2], []⟩
noncomputable def XL := oN f56 9
def XV : b4 := ⟨[], []⟩
noncomputable def aaV := oN f56 133
def UH : b4 := ⟨[5, 6, 7], []⟩
noncomputable def WJ := oN f56 229
def WW : b4 := ⟨[9, 10, 38], []⟩
noncomputable def VA := oN f56 549
def Dt : b4 := ⟨[8, 11, 12, 13, 14, 15, 16, 17, 18, 19, 20], []⟩
noncomputable def abf := oN f56 1317
def Fi : b4 := ⟨[4, 21, 22, 23, 24, 25, 26, 27, 28, 29, 30, 31, 32, 33, 34, 35, 36, 37], []⟩
noncomputable def Sp := oN f56 4901
def abY : b4 := ⟨[0, 3, 38], []⟩
noncomputable def Vb := oN f56 11
def EX : b4 := ⟨[0, 3, 8, 39, 40, 41, 42, 43, 44, 45, 46], []⟩
def BI : Code := (.seq (.seq (.region 2 aaV false) (.cond (.tmp 8) .skip (.exit 0))) (.seq (.block 1 (.seq (.region 4 VA false) (.seq (.region 5 abf false) (.cond (.tmp 38) (.seq (.region 6 Sp false) .ret) .skip)))) (.region 3 WJ false)))
def f56c : Code := (.seq (.region 0 XA false) (.seq (.seq (.region 1 XL false) (.block 0 (.loop BI))) (.seq (.region 7 Vb false) .ret)))
def Ge : List (Nat × b4) := [(0, UI), (1, XV), (2, UH), (3, WW), (4, Dt), (5, Fi), (6, abY), (7, EX)]
noncomputable def PP := oN f57 2
def QL : b4 := ⟨[0, 2], []⟩
noncomputable def Pa := oN f57 9
def UF : b4 := ⟨[], []⟩
noncomputable def Xs := oN f57 133
def CN : b4 := ⟨[6, 7, 8, 9], []⟩
noncomputable def Xf := oN f57 229
def OJ : b4 := ⟨[4, 5, 11, 12, 51], []⟩
noncomputable def Tc := oN f57 549
def CG : b4 := ⟨[10, 13, 14, 15, 16, 17], []⟩
noncomputable def YH := oN f57 2341
def DU : b4 := ⟨[18, 19, 20, 21, 22, 23, 24, 25, 26, 27, 28, 29, 30, 31, 32, 33, 34, 35, 36, 37, 38, 39, 40, 41, 42, 43, 44, 45, 46, 47], []⟩
noncomputable def Vr := oN f57 9509
def aa6 : b4 := ⟨[1, 3, 4, 48], []⟩
noncomputable def OT := oN f57 2853
def Za : b4 := ⟨[48], []⟩
noncomputable def RS := oN f57 34597
def Ym : b4 := ⟨[49, 50], []⟩
noncomputable def aaX := oN f57 59173
def Tl : b4 := ⟨[52, 53, 62], []⟩
noncomputable def Gd := oN f57 141093
def yl : b4 := ⟨[51, 54, 55, 56, 57, 58, 59, 60, 61], []⟩
noncomputable def KA := oN f57 599845
def Mn : b4 := ⟨[1, 3, 4, 5, 62], []⟩
noncomputable def HA := oN f57 19
def yj : b4 := ⟨[3, 10, 63, 64, 65, 66, 67, 68, 69, 70, 71, 72, 73, 74, 75, 76, 77, 78, 79, 80, 81], []⟩
noncomputable def FR := oN f57 75
def Ke : b4 := ⟨[1, 82], []⟩
noncomputable def MN := oN f57 23
def AJ : b4 := ⟨[1, 82, 83, 84, 85, 86, 87, 88, 89, 90, 91, 92, 93, 94, 95, 96, 97, 98, 99, 100, 101, 102, 103, 104, 105, 106, 107, 108, 109, 110, 111], []⟩
def Cm : Code := (.seq (.seq (.region 8 RS false) (.cond (.tmp 51) .skip (.exit 2))) (.seq (.block 3 (.seq (.region 10 Gd true) (.cond (.tmp 62) (.seq (.region 11 KA false) .ret) .skip))) (.region 9 aaX false)))
def DB : Code := (.seq (.seq (.region 2 Xs false) (.cond (.tmp 10) .skip (.exit 0))) (.seq (.block 1 (.seq (.region 4 Tc false) (.seq (.seq (.region 5 YH false) (.cond (.tmp 48) (.seq (.region 6 Vr false) .ret) .skip)) (.seq (.region 7 OT false) (.block 2 (.loop Cm)))))) (.region 3 Xf false)))
def f57c : Code := (.seq (.region 0 PP false) (.seq (.seq (.region 1 Pa false) (.block 0 (.loop DB))) (.seq (.seq (.region 12 HA false) (.cond (.tmp 82) (.seq (.region 13 FR false) .ret) .skip)) (.seq (.region 14 MN true) .ret))))
def Bq : List (Nat × b4) := [(0, QL), (1, UF), (2, CN), (3, OJ), (4, CG), (5, DU), (6, aa6), (7, Za), (8, Ym), (9, Tl), (10, yl), (11, Mn), (12, yj), (13, Ke), (14, AJ)]
noncomputable def adp := oN f58 2
def PH : b4 := ⟨[0, 6], []⟩
noncomputable def Qw := oN f58 9
def Es : b4 := ⟨[7, 8, 9, 10, 11, 12], []⟩
noncomputable def Te := oN f58 133
def ac8 : b4 := ⟨[13], []⟩
noncomputable def abA := oN f58 229
def EI : b4 := ⟨[15, 16, 17, 18, 19, 20, 23], []⟩
noncomputable def abt := oN f58 549
def Su : b4 := ⟨[14, 21, 22], []⟩
noncomputable def abR := oN f58 2341
def abF : b4 := ⟨[1, 2, 3, 23], []⟩
noncomputable def VQ := oN f58 11
def Yk : b4 := ⟨[1, 2, 3, 14], []⟩
def DP : Code := (.seq (.seq (.region 2 Te false) (.cond (.tmp 14) .skip (.exit 0))) (.seq (.block 1 (.seq (.region 4 abt false) (.cond (.tmp 23) (.seq (.region 5 abR false) .ret) .skip))) (.region 3 abA false)))
def f58c : Code := (.seq (.region 0 adp false) (.seq (.seq (.region 1 Qw false) (.block 0 (.loop DP))) (.seq (.region 6 VQ false) .ret)))
def Jw : List (Nat × b4) := [(0, PH), (1, Es), (2, ac8), (3, EI), (4, Su), (5, abF), (6, Yk)]
noncomputable def Pz := oN f59 2
def Ti : b4 := ⟨[0, 4], []⟩
noncomputable def US := oN f59 5
def UW : b4 := ⟨[], []⟩
noncomputable def adB := oN f59 131
def Xq : b4 := ⟨[6], []⟩
noncomputable def Ql := oN f59 291
def Cz : b4 := ⟨[7, 8, 9, 10, 11], [(1, { keep := [0] }), (3, { tk := [9] })]⟩
noncomputable def RV := oN f59 419
def Dc : b4 := ⟨[12, 13, 14, 15, 16, 17], []⟩
noncomputable def aao := oN f59 23
def aaY : b4 := ⟨[1, 2, 5, 7, 18], []⟩
def Fx : Code := (.seq (.seq (.region 2 adB false) (.cond (.tmp 7) .skip (.exit 0))) (.block 1 (.seq (.region 3 Ql false) (.region 4 RV false))))
def f59c : Code := (.seq (.region 0 Pz false) (.seq (.region 1 US false) (.seq (.block 0 (.loop Fx)) (.seq (.region 5 aao false) .ret))))
def IO : List (Nat × b4) := [(0, Ti), (1, UW), (2, Xq), (3, Cz), (4, Dc), (5, aaY)]
noncomputable def Tt := oN f30 2
def aag : b4 := ⟨[0, 2], []⟩
noncomputable def OR := oN f30 9
def CS : b4 := ⟨[9, 10, 11, 12, 13, 14, 15, 16, 17, 18, 19, 20, 21, 22, 23, 24, 25, 26, 27, 28, 29, 30, 31, 32, 33, 34, 35, 36, 37, 38, 39], []⟩
noncomputable def Xj := oN f30 37
def aaA : b4 := ⟨[1, 40], []⟩
noncomputable def ZQ := oN f30 19
def Pm : b4 := ⟨[40], []⟩
noncomputable def abW := oN f30 267
def CQ : b4 := ⟨[41, 42, 43, 44], []⟩
noncomputable def ab9 := oN f30 459
def Zs : b4 := ⟨[46, 47, 117, 149], []⟩
noncomputable def aaN := oN f30 1099
def DD : b4 := ⟨[45, 48, 49, 50, 51, 52], []⟩
noncomputable def Wr := oN f30 4683
def Fc : b4 := ⟨[53, 54, 55, 56, 57, 58, 59, 60, 61, 62, 63, 64, 65, 66, 67, 68, 69, 70, 71, 72, 73, 74, 75, 76, 77], []⟩
noncomputable def Wm := oN f30 19019
def Qf : b4 := ⟨[1, 3, 4, 78], []⟩
noncomputable def Wu := oN f30 9803
def Tz : b4 := ⟨[78], []⟩
noncomputable def MQ := oN f30 136779
def MG : b4 := ⟨[79, 80], []⟩
noncomputable def IR := oN f30 235083
def Hu : b4 := ⟨[82, 83, 92], []⟩
noncomputable def IW := oN f30 562763
def yq : b4 := ⟨[81, 84, 85, 86, 87, 88, 89, 90, 91], []⟩
noncomputable def Lh := oN f30 2397771
def GQ : b4 := ⟨[1, 3, 4, 5, 92], []⟩
noncomputable def Lk := oN f30 20043
def KU : b4 := ⟨[5, 81, 93], []⟩
noncomputable def Gm := oN f30 142923
def AB : b4 := ⟨[4, 94, 95, 96, 97, 98, 99, 100, 101, 102, 103, 104, 105, 106, 107, 108, 109, 110, 111, 112, 113, 114, 115, 116], []⟩
noncomputable def Hb := oN f30 601675
def LI : b4 := ⟨[1, 3, 117], []⟩
noncomputable def Gz := oN f30 24139
def zG : b4 := ⟨[4, 94, 118, 119, 120, 121, 122, 123, 124, 125, 126, 127, 128, 129, 130, 131, 132, 133, 134, 135, 136, 137, 138, 139, 140, 141, 142, 143, 144, 145, 146, 147, 148], []⟩
noncomputable def Ls := oN f30 81483
def MY : b4 := ⟨[1, 3, 149], []⟩
noncomputable def Mr := oN f30 39
def MU : b4 := ⟨[3, 45], []⟩
noncomputable def HP := oN f30 535
def yN : b4 := ⟨[150, 151, 152, 153], []⟩
noncomputable def Ov := oN f30 919
def Ko : b4 := ⟨[7, 8, 155, 156, 220], []⟩
noncomputable def Oe := oN f30 2199
def xE : b4 := ⟨[154, 157, 158, 159, 160, 161], []⟩
noncomputable def He := oN f30 9367
def AA : b4 := ⟨[162, 163, 164, 165, 166, 167, 168, 169, 170, 171, 172, 173, 174, 175, 176, 177, 178, 179, 180, 181, 182, 183, 184, 185, 186, 187, 188, 189, 190, 191, 192, 193, 194, 195, 196, 197, 198, 199, 200, 201, 202, 203, 204, 205, 206, 207, 208, 209, 210, 211, 212, 213, 214, 215, 216], []⟩
noncomputable def NH := oN f30 38039
def GM : b4 := ⟨[1, 6, 7, 217], []⟩
noncomputable def La := oN f30 11415
def FT : b4 := ⟨[217], []⟩
noncomputable def LE := oN f30 138391
def GW : b4 := ⟨[218, 219], []⟩
noncomputable def Gn := oN f30 236695
def GJ : b4 := ⟨[221, 222, 231], []⟩
noncomputable def JX := oN f30 564375
def zW : b4 := ⟨[220, 223, 224, 225, 226, 227, 228, 229, 230], []⟩
noncomputable def Ox := oN f30 2399383
def Hy : b4 := ⟨[1, 6, 7, 8, 231], []⟩
noncomputable def Hf := oN f30 47
def Kl : b4 := ⟨[1, 6, 154], []⟩
def ET : Code := (.seq (.seq (.region 10 MQ false) (.cond (.tmp 81) .skip (.exit 2))) (.seq (.block 3 (.seq (.region 12 IW true) (.cond (.tmp 92) (.seq (.region 13 Lh false) .ret) .skip))) (.region 11 IR false)))
def Fo : Code := (.seq (.seq (.region 4 abW false) (.cond (.tmp 45) .skip (.exit 0))) (.seq (.block 1 (.seq (.region 6 aaN false) (.seq (.seq (.region 7 Wr false) (.cond (.tmp 78) (.seq (.region 8 Wm false) .ret) .skip)) (.seq (.seq (.region 9 Wu false) (.block 2 (.loop ET))) (.seq (.seq (.region 14 Lk false) (.cond (.tmp 94) (.seq (.seq (.region 15 Gm false) (.cond (.tmp 117) (.seq (.region 16 Hb false) .ret) .skip)) (.exit 1)) .skip)) (.seq (.region 17 Gz false) (.cond (.tmp 149) (.seq (.region 18 Ls false) .ret) .skip))))))) (.region 5 ab9 false)))
def Cv : Code := (.seq (.seq (.region 26 LE false) (.cond (.tmp 220) .skip (.exit 6))) (.seq (.block 7 (.seq (.region 28 JX true) (.cond (.tmp 231) (.seq (.region 29 Ox false) .ret) .skip))) (.region 27 Gn false)))
def BT : Code := (.seq (.seq (.region 20 HP false) (.cond (.tmp 154) .skip (.exit 4))) (.seq (.block 5 (.seq (.region 22 Oe false) (.seq (.seq (.region 23 He true) (.cond (.tmp 217) (.seq (.region 24 NH false) .ret) .skip)) (.seq (.region 25 La false) (.block 6 (.loop Cv)))))) (.region 21 Ov false)))
def f30c : Code := (.seq (.region 0 Tt false) (.seq (.seq (.region 1 OR false) (.cond (.tmp 40) (.seq (.region 2 Xj false) .ret) .skip)) (.seq (.seq (.region 3 ZQ false) (.block 0 (.loop Fo))) (.seq (.seq (.region 19 Mr false) (.block 4 (.loop BT))) (.seq (.region 30 Hf false) .ret)))))
def wy : List (Nat × b4) := [(0, aag), (1, CS), (2, aaA), (3, Pm), (4, CQ), (5, Zs), (6, DD), (7, Fc), (8, Qf), (9, Tz), (10, MG), (11, Hu), (12, yq), (13, GQ), (14, KU), (15, AB), (16, LI), (17, zG), (18, MY), (19, MU), (20, yN), (21, Ko), (22, xE), (23, AA), (24, GM), (25, FT), (26, GW), (27, GJ), (28, zW), (29, Hy), (30, Kl)]
noncomputable def SG := oN f60 2
def SJ : b4 := ⟨[2], []⟩
noncomputable def VV := oN f60 5
def Rl : b4 := ⟨[], []⟩
noncomputable def Yb := oN f60 19
def QT : b4 := ⟨[], []⟩
noncomputable def adS := oN f60 267
def aa9 : b4 := ⟨[5, 6, 7], []⟩
noncomputable def Xc := oN f60 459
def VU : b4 := ⟨[9, 10], []⟩
noncomputable def RQ := oN f60 16459
def CU : b4 := ⟨[11, 12, 13, 14, 15, 16, 17, 18, 19], []⟩
noncomputable def Qy := oN f60 20555
def adR : b4 := ⟨[20, 21, 22], []⟩
noncomputable def XX := oN f60 4683
def VS : b4 := ⟨[20, 23], []⟩
noncomputable def Zi := oN f60 19019
def So : b4 := ⟨[0, 3, 4, 24], []⟩
noncomputable def YE := oN f60 3659
def Rh : b4 := ⟨[24, 25, 26], []⟩
noncomputable def GB := oN f60 23
def NU : b4 := ⟨[0, 3, 4], []⟩
def Dx : Code := (.seq (.seq (.region 5 RQ true) (.cond (.tmp 20) .skip (.exit 2))) (.block 3 (.region 6 Qy false)))
def BR : Code := (.seq (.seq (.region 3 adS false) (.cond (.tmp 8) .skip (.exit 0))) (.seq (.block 1 (.seq (.block 2 (.loop Dx)) (.seq (.seq (.region 7 XX false) (.cond (.tmp 24) (.seq (.region 8 Zi false) .ret) .skip)) (.region 9 YE false)))) (.region 4 Xc false)))
def f60c : Code := (.seq (.region 0 SG false) (.seq (.region 1 VV false) (.seq (.seq (.region 2 Yb false) (.block 0 (.loop BR))) (.seq (.region 10 GB false) .ret))))
def Bl : List (Nat × b4) := [(0, SJ), (1, Rl), (2, QT), (3, aa9), (4, VU), (5, CU), (6, adR), (7, VS), (8, So), (9, Rh), (10, NU), (100008, {})]
noncomputable def GI := oN f111 2
def LV : b4 := ⟨[0, 4], []⟩
noncomputable def Oq := oN f111 5
def xo : b4 := ⟨[1, 2, 5, 6, 7, 8, 9, 10, 11, 12, 13], []⟩
def abw : Code := (.seq (.region 0 GI false) (.seq (.region 1 Oq false) .ret))
def Ex : List (Nat × b4) := [(0, LV), (1, xo)]
noncomputable def PA := oN f76 2
def Tw : b4 := ⟨[0, 4], []⟩
noncomputable def Xr := oN f76 9
def CO : b4 := ⟨[6, 7], []⟩
noncomputable def Sy := oN f76 37
def VZ : b4 := ⟨[1, 2, 8], []⟩
noncomputable def SA := oN f76 19
def adx : b4 := ⟨[8], []⟩
noncomputable def aav := oN f76 267
def Eh : b4 := ⟨[9, 10, 11], []⟩
noncomputable def acL := oN f76 459
def XP : b4 := ⟨[13, 14, 21], []⟩
noncomputable def QU := oN f76 1099
def CD : b4 := ⟨[12, 15, 16, 17, 18, 19, 20], []⟩
noncomputable def aa7 := oN f76 4683
def aaO : b4 := ⟨[1, 2, 5, 21], []⟩
noncomputable def acl := oN f76 23
def Yx : b4 := ⟨[1, 2, 5, 12], []⟩
def Cs : Code := (.seq (.seq (.region 4 aav false) (.cond (.tmp 12) .skip (.exit 0))) (.seq (.block 1 (.seq (.region 6 QU true) (.cond (.tmp 21) (.seq (.region 7 aa7 false) .ret) .skip))) (.region 5 acL false)))
def f76c : Code := (.seq (.region 0 PA false) (.seq (.seq (.region 1 Xr false) (.cond (.tmp 8) (.seq (.region 2 Sy false) .ret) .skip)) (.seq (.seq (.region 3 SA false) (.block 0 (.loop Cs))) (.seq (.region 8 acl false) .ret))))
def JZ : List (Nat × b4) := [(0, Tw), (1, CO), (2, VZ), (3, adx), (4, Eh), (5, XP), (6, CD), (7, aaO), (8, Yx)]
noncomputable def TN := oN f47 2
def Zl : b4 := ⟨[0, 4, 5], []⟩
noncomputable def ZI := oN f47 9
def Er : b4 := ⟨[8, 9], []⟩
noncomputable def YG := oN f47 21
def Xk : b4 := ⟨[10], []⟩
noncomputable def PQ := oN f47 77
def Yz : b4 := ⟨[1, 2, 6, 11, 12], []⟩
noncomputable def Ss := oN f47 19
def Ui : b4 := ⟨[6, 11], []⟩
noncomputable def Py := oN f47 267
def Em : b4 := ⟨[13, 14, 15, 16], []⟩
noncomputable def TK := oN f47 459
def Ww : b4 := ⟨[18, 19, 27], []⟩
noncomputable def Ps := oN f47 1099
def EH : b4 := ⟨[17, 20, 21, 22, 23, 24, 25, 26], []⟩
noncomputable def Uf := oN f47 4683
def QH : b4 := ⟨[1, 2, 7, 27, 28], []⟩
noncomputable def Xd := oN f47 23
def Sq : b4 := ⟨[1, 2, 7, 17], []⟩
def Dk : Code := (.seq (.seq (.region 5 Py false) (.cond (.tmp 17) .skip (.exit 0))) (.seq (.block 1 (.seq (.region 7 Ps false) (.cond (.tmp 27) (.seq (.region 8 Uf false) .ret) .skip))) (.region 6 TK false)))
def f47c : Code := (.seq (.region 0 TN false) (.seq (.seq (.region 1 ZI false) (.seq (.region 2 YG false) (.cond (.tmp 11) (.seq (.region 3 PQ false) .ret) .skip))) (.seq (.seq (.region 4 Ss false) (.block 0 (.loop Dk))) (.seq (.region 9 Xd false) .ret))))
def Ma : List (Nat × b4) := [(0, Zl), (1, Er), (2, Xk), (3, Yz), (4, Ui), (5, Em), (6, Ww), (7, EH), (8, QH), (9, Sq)]
noncomputable def Ld := oN f109 2
def Nc : b4 := ⟨[0, 6, 7], []⟩
noncomputable def JS := oN f109 9
def Az : b4 := ⟨[9, 10, 11, 12, 13], []⟩
noncomputable def Jq := oN f109 21
def Lm : b4 := ⟨[14], []⟩
noncomputable def JN := oN f109 77
def ID : b4 := ⟨[1, 2, 3, 8, 15, 16], []⟩
noncomputable def JO := oN f109 11
def zy : b4 := ⟨[1, 2, 3, 8, 15, 17, 18, 19, 20], []⟩
def aaq : Code := (.seq (.region 0 Ld false) (.seq (.seq (.region 1 JS false) (.seq (.region 2 Jq false) (.cond (.tmp 15) (.seq (.region 3 JN false) .ret) .skip))) (.seq (.region 4 JO false) .ret)))
def Df : List (Nat × b4) := [(0, Nc), (1, Az), (2, Lm), (3, ID), (4, zy)]
noncomputable def aaQ := oN f77 2
def Sz : b4 := ⟨[0, 4], []⟩
noncomputable def VC := oN f77 17
def Ej : b4 := ⟨[6, 7, 8], []⟩
noncomputable def TO := oN f77 73
def ad3 : b4 := ⟨[1, 2, 5], []⟩
noncomputable def PB := oN f77 89
def DF : b4 := ⟨[1, 2, 5, 10, 11, 12, 13, 14, 15, 16, 17, 18], []⟩
noncomputable def OE := oN f77 313
def Ty : b4 := ⟨[9], []⟩
noncomputable def Qp := oN f77 11
def YY : b4 := ⟨[9], []⟩
def f77c : Code := (.seq (.region 0 aaQ false) (.seq (.block 0 (.seq (.region 1 VC false) (.cond (.tmp 5) (.seq (.region 2 TO false) .ret) (.seq (.region 3 PB false) (.cond (.tmp 9) (.seq (.region 4 OE false) .ret) .skip))))) (.seq (.region 5 Qp false) .ret)))
def acz : List (Nat × b4) := [(0, Sz), (1, Ej), (2, ad3), (3, DF), (4, Ty), (5, YY)]
noncomputable def Lw := oN f126 2
def Gk : b4 := ⟨[0, 6, 7], []⟩
noncomputable def KY := oN f126 9
def xQ : b4 := ⟨[10, 11, 12, 13], []⟩
noncomputable def KL := oN f126 21
def NP : b4 := ⟨[14], []⟩
noncomputable def Ji := oN f126 77
def Ga : b4 := ⟨[1, 2, 3, 8, 15, 16], []⟩
noncomputable def ME := oN f126 19
def Ka : b4 := ⟨[8, 15], []⟩
noncomputable def Hs := oN f126 267
def wY : b4 := ⟨[17, 18, 19, 20, 21, 22, 23, 24], []⟩
noncomputable def KX := oN f126 459
def FV : b4 := ⟨[26, 27, 39], []⟩
noncomputable def HU := oN f126 1099
def zw : b4 := ⟨[25, 28, 29, 30, 31, 32, 33, 34, 35, 36, 37, 38], []⟩
noncomputable def GU := oN f126 4683
def Hv : b4 := ⟨[1, 2, 3, 9, 39, 40], []⟩
noncomputable def NT := oN f126 23
def Mq : b4 := ⟨[1, 2, 3, 9, 25], []⟩
def xS : Code := (.seq (.seq (.region 5 Hs false) (.cond (.tmp 25) .skip (.exit 0))) (.seq (.block 1 (.seq (.region 7 HU false) (.cond (.tmp 39) (.seq (.region 8 GU false) .ret) .skip))) (.region 6 KX false)))
def PX : Code := (.seq (.region 0 Lw false) (.seq (.seq (.region 1 KY false) (.seq (.region 2 KL false) (.cond (.tmp 15) (.seq (.region 3 Ji false) .ret) .skip))) (.seq (.seq (.region 4 ME false) (.block 0 (.loop xS))) (.seq (.region 9 NT false) .ret))))
def yX : List (Nat × b4) := [(0, Gk), (1, xQ), (2, NP), (3, Ga), (4, Ka), (5, wY), (6, FV), (7, zw), (8, Hv), (9, Mq)]
noncomputable def Kr := oN f112 2
def NR : b4 := ⟨[0, 2, 6], []⟩
noncomputable def MP := oN f112 5
def ya : b4 := ⟨[9, 10, 11, 12, 13, 14, 15, 16], []⟩
noncomputable def NI := oN f112 11
def yB : b4 := ⟨[1, 3, 5, 7, 8, 17, 18, 19, 20, 21, 22, 23, 24, 25, 26, 27, 28, 29, 30, 31, 32, 33, 34, 35, 36, 37, 38, 39, 40, 41, 42, 43, 44], []⟩
def ady : Code := (.seq (.region 0 Kr false) (.seq (.region 1 MP false) (.seq (.region 2 NI true) .ret)))
def EN : List (Nat × b4) := [(0, NR), (1, ya), (2, yB)]
noncomputable def Sf := oN f78 2
def ST : b4 := ⟨[0, 6], []⟩
noncomputable def ON := oN f78 9
def abZ : b4 := ⟨[], []⟩
noncomputable def OQ := oN f78 133
def BX : b4 := ⟨[9, 10, 11], []⟩
noncomputable def Zx := oN f78 229
def Yp : b4 := ⟨[8, 13, 14, 35], []⟩
noncomputable def Ru := oN f78 1061
def Fj : b4 := ⟨[12, 15, 16, 17, 18, 19, 20, 21, 22, 23, 24, 25, 26, 27], []⟩
noncomputable def YS := oN f78 4645
def abv : b4 := ⟨[1, 2, 3, 7, 28], []⟩
noncomputable def TC := oN f78 1317
def abD : b4 := ⟨[28], []⟩
noncomputable def aaT := oN f78 17189
def DS : b4 := ⟨[29, 30, 31, 32, 33, 34], []⟩
noncomputable def VR := oN f78 29477
def Vd : b4 := ⟨[36, 37, 48], []⟩
noncomputable def OY := oN f78 70437
def ED : b4 := ⟨[35, 38, 39, 40, 41, 42, 43, 44, 45, 46, 47], []⟩
noncomputable def MF := oN f78 299813
def NV : b4 := ⟨[1, 2, 3, 7, 8, 48], []⟩
noncomputable def Ie := oN f78 11
def zL : b4 := ⟨[1, 2, 3, 7, 12, 49, 50, 51], []⟩
def Dj : Code := (.seq (.seq (.region 7 aaT false) (.cond (.tmp 35) .skip (.exit 2))) (.seq (.block 3 (.seq (.region 9 OY true) (.cond (.tmp 48) (.seq (.region 10 MF false) .ret) .skip))) (.region 8 VR false)))
def DR : Code := (.seq (.seq (.region 2 OQ false) (.cond (.tmp 12) .skip (.exit 0))) (.seq (.block 1 (.seq (.seq (.region 4 Ru false) (.cond (.tmp 28) (.seq (.region 5 YS false) .ret) .skip)) (.seq (.region 6 TC false) (.block 2 (.loop Dj))))) (.region 3 Zx false)))
def f78c : Code := (.seq (.region 0 Sf false) (.seq (.seq (.region 1 ON false) (.block 0 (.loop DR))) (.seq (.region 11 Ie false) .ret)))
def Bd : List (Nat × b4) := [(0, ST), (1, abZ), (2, BX), (3, Yp), (4, Fj), (5, abv), (6, abD), (7, DS), (8, Vd), (9, ED), (10, NV), (11, zL)]
noncomputable def HN := oN f110 2
def JH : b4 := ⟨[0, 6, 7], []⟩
noncomputable def Hg := oN f110 9
def zi : b4 := ⟨[9, 10, 11], []⟩
noncomputable def Nj := oN f110 21
def KV : b4 := ⟨[12], []⟩
noncomputable def Ot := oN f110 77
def LT : b4 := ⟨[1, 2, 3, 8, 13, 14], []⟩
noncomputable def Ms := oN f110 11
def yA : b4 := ⟨[1, 2, 3, 8, 13, 15, 16, 17, 18], []⟩
def SV : Code := (.seq (.region 0 HN false) (.seq (.seq (.region 1 Hg false) (.seq (.region 2 Nj false) (.cond (.tmp 13) (.seq (.region 3 Ot false) .ret) .skip))) (.seq (.region 4 Ms false) .ret)))
def Cd : List (Nat × b4) := [(0, JH), (1, zi), (2, KV), (3, LT), (4, yA)]
noncomputable def Pi := oN f75 2
def PK : b4 := ⟨[0, 2, 6], []⟩
noncomputable def ZG := oN f75 9
def Co : b4 := ⟨[13, 14, 15], []⟩
noncomputable def abj := oN f75 37
def aa8 : b4 := ⟨[1, 3, 5, 16], []⟩
noncomputable def OP := oN f75 11
def Ey : b4 := ⟨[16, 17, 18, 19, 20, 21, 22, 23], []⟩
noncomputable def ab3 := oN f75 39
def UJ : b4 := ⟨[8, 24], []⟩
noncomputable def Zv := oN f75 151
def QW : b4 := ⟨[1, 3, 5, 7, 25], []⟩
noncomputable def XN := oN f75 79
def PW : b4 := ⟨[25, 26], []⟩
noncomputable def XM := oN f75 303
def DW : b4 := ⟨[1, 27, 28, 29, 30, 31, 32, 33, 34], []⟩
noncomputable def Xb := oN f75 687
def Eb : b4 := ⟨[9, 10, 35, 36, 37, 38, 39], []⟩
noncomputable def acO := oN f75 2479
def Rc : b4 := ⟨[3, 5, 7, 40], []⟩
noncomputable def Jn := oN f75 159
def vo : b4 := ⟨[1, 3, 5, 7, 27, 40, 41, 42, 43, 44, 45, 46, 47, 48], []⟩
noncomputable def Ht := oN f75 351
def uq : b4 := ⟨[11, 12, 49, 50, 51, 52, 53], []⟩
noncomputable def LQ := oN f75 1247
def MI : b4 := ⟨[54], []⟩
noncomputable def Hd := oN f75 191
def Im : b4 := ⟨[54], []⟩
def f75c : Code := (.seq (.region 0 Pi false) (.seq (.seq (.region 1 ZG false) (.cond (.tmp 16) (.seq (.region 2 abj false) .ret) .skip)) (.seq (.region 3 OP false) (.seq (.seq (.region 4 ab3 false) (.cond (.tmp 25) (.seq (.region 5 Zv false) .ret) .skip)) (.seq (.seq (.region 6 XN false) (.cond (.tmp 27) (.seq (.region 7 XM false) (.seq (.region 8 Xb false) (.cond (.tmp 40) (.seq (.region 9 acO false) .ret) .skip))) .skip)) (.seq (.seq (.region 10 Jn false) (.seq (.region 11 Ht false) (.cond (.tmp 54) (.seq (.region 12 LQ false) .ret) .skip))) (.seq (.region 13 Hd false) .ret)))))))
def aba : List (Nat × b4) := [(0, PK), (1, Co), (2, aa8), (3, Ey), (4, UJ), (5, QW), (6, PW), (7, DW), (8, Eb), (9, Rc), (10, vo), (11, uq), (12, MI), (13, Im)]
noncomputable def ZP := oN f46 2
def UN : b4 := ⟨[0, 4, 5], []⟩
noncomputable def ZN := oN f46 9
def BU : b4 := ⟨[9, 10], []⟩
noncomputable def Qk := oN f46 37
def XB : b4 := ⟨[1, 2, 11], []⟩
noncomputable def acf := oN f46 19
def EU : b4 := ⟨[11, 12, 13], []⟩
noncomputable def Wi := oN f46 75
def UD : b4 := ⟨[1, 2, 14], []⟩
noncomputable def YK := oN f46 23
def Yd : b4 := ⟨[14], []⟩
noncomputable def Tf := oN f46 79
def Xn : b4 := ⟨[], []⟩
noncomputable def Qx := oN f46 1071
def Cw : b4 := ⟨[15, 16, 17], []⟩
noncomputable def Zw := oN f46 1839
def YQ : b4 := ⟨[19, 20], []⟩
noncomputable def adD := oN f46 8495
def Fl : b4 := ⟨[6, 18, 21, 22, 23, 24, 25, 26, 27], []⟩
noncomputable def NS := oN f46 20783
def Kj : b4 := ⟨[28], []⟩
noncomputable def Ow := oN f46 78127
def IH : b4 := ⟨[1, 2, 7, 8, 29, 30], []⟩
noncomputable def KS := oN f46 6447
def At : b4 := ⟨[8, 29, 31, 32, 33, 34, 35, 36, 37, 38, 39, 40], []⟩
noncomputable def Hc := oN f46 95
def Hw : b4 := ⟨[1, 2, 6, 7, 18], []⟩
def Fb : Code := (.seq (.seq (.region 7 Qx false) (.cond (.tmp 18) .skip (.exit 0))) (.seq (.block 1 (.seq (.seq (.region 9 adD true) (.seq (.region 10 NS false) (.cond (.tmp 29) (.seq (.region 11 Ow false) .ret) .skip))) (.region 12 KS true))) (.region 8 Zw false)))
def f46c : Code := (.seq (.region 0 ZP false) (.seq (.seq (.region 1 ZN false) (.cond (.tmp 11) (.seq (.region 2 Qk false) .ret) .skip)) (.seq (.seq (.region 3 acf false) (.cond (.tmp 14) (.seq (.region 4 Wi false) .ret) .skip)) (.seq (.region 5 YK false) (.seq (.seq (.region 6 Tf false) (.block 0 (.loop Fb))) (.seq (.region 13 Hc false) .ret))))))
def Oo : List (Nat × b4) := [(0, UN), (1, BU), (2, XB), (3, EU), (4, UD), (5, Yd), (6, Xn), (7, Cw), (8, YQ), (9, Fl), (10, Kj), (11, IH), (12, At), (13, Hw)]
noncomputable def Th := oN f25 2
def acI : b4 := ⟨[0, 4, 5], []⟩
noncomputable def Wq := oN f25 5
def FB : b4 := ⟨[12, 13, 14, 15, 16, 17], []⟩
noncomputable def ZE := oN f25 19
def Dq : b4 := ⟨[6, 18, 19, 20, 21, 22], []⟩
noncomputable def abd := oN f25 43
def ab4 : b4 := ⟨[23], []⟩
noncomputable def ac1 := oN f25 39
def QO : b4 := ⟨[23, 24], []⟩
noncomputable def TV := oN f25 151
def Xu : b4 := ⟨[1, 2, 7, 25, 26], []⟩
noncomputable def SU := oN f25 47
def abg : b4 := ⟨[7, 25], [(0, { keep := [0] })]⟩
noncomputable def WK := oN f25 159
def SZ : b4 := ⟨[], []⟩
noncomputable def Vn := oN f25 2143
def yv : b4 := ⟨[27, 28, 29], []⟩
noncomputable def Zj := oN f25 3679
def PI : b4 := ⟨[31, 32], []⟩
noncomputable def JJ := oN f25 8799
def ue : b4 := ⟨[11, 30, 33, 34, 35, 36, 37, 38, 39, 40, 41, 42], []⟩
noncomputable def FN := oN f25 12895
def ua : b4 := ⟨[10, 43, 44, 45, 46], [(0, { tk := [8], keep := [0] }), (3, { tk := [43], keep := [0] }), (4, { tk := [46], keep := [0] })]⟩
noncomputable def Gw := oN f25 191
def Jv : b4 := ⟨[1, 2, 8, 9, 30, 47], []⟩
def yx : Code := (.seq (.seq (.region 8 Vn false) (.cond (.tmp 30) .skip (.exit 0))) (.seq (.block 1 (.seq (.region 10 JJ true) (.region 11 FN false))) (.region 9 Zj false)))
def f25c : Code := (.seq (.region 0 Th false) (.seq (.region 1 Wq false) (.seq (.seq (.region 2 ZE false) (.cond (.tmp 23) (.region 3 abd false) .skip)) (.seq (.seq (.region 4 ac1 false) (.cond (.tmp 25) (.seq (.region 5 TV false) .ret) .skip)) (.seq (.region 6 SU false) (.seq (.seq (.region 7 WK false) (.block 0 (.loop yx))) (.seq (.region 12 Gw false) .ret)))))))
def BC : List (Nat × b4) := [(0, acI), (1, FB), (2, Dq), (3, ab4), (4, QO), (5, Xu), (6, abg), (7, SZ), (8, yv), (9, PI), (10, ue), (11, ua), (12, Jv)]
noncomputable def Rz := oN f26 2
def aaD : b4 := ⟨[2], []⟩
noncomputable def ab2 := oN f26 65
def Ts : b4 := ⟨[3, 4], []⟩
noncomputable def Td := oN f26 81
def EG : b4 := ⟨[5, 6, 7], []⟩
noncomputable def Vt := oN f26 11
def UA : b4 := ⟨[0, 5, 8], []⟩
def Ez : Code := (.seq (.seq (.region 1 ab2 false) (.cond (.tmp 5) .skip (.exit 0))) (.block 1 (.region 2 Td false)))
def f26c : Code := (.seq (.region 0 Rz false) (.seq (.block 0 (.loop Ez)) (.seq (.region 3 Vt false) .ret)))
def Lt : List (Nat × b4) := [(0, aaD), (1, Ts), (2, EG), (3, UA)]
noncomputable def TE := oN f48 2
def acm : b4 := ⟨[0, 8], []⟩
noncomputable def Xy := oN f48 5
def EO : b4 := ⟨[10, 11, 12], []⟩
noncomputable def PE := oN f48 19
def FH : b4 := ⟨[1, 2, 3, 4, 13, 14, 15, 16, 17, 18, 19, 20, 21, 22, 23, 24, 25, 26, 27], []⟩
noncomputable def Sm := oN f48 43
def aaH : b4 := ⟨[28], []⟩
noncomputable def Sk := oN f48 23
def acW : b4 := ⟨[9, 28, 29], []⟩
def f48c : Code := (.seq (.region 0 TE false) (.seq (.region 1 Xy false) (.seq (.seq (.region 2 PE false) (.cond (.tmp 28) (.region 3 Sm false) .skip)) (.seq (.region 4 Sk false) .ret))))
def TG : List (Nat × b4) := [(0, acm), (1, EO), (2, FH), (3, aaH), (4, acW)]
noncomputable def ZX := oN f79 2
def YM : b4 := ⟨[2], []⟩
noncomputable def Vw := oN f79 9
def abH : b4 := ⟨[0], []⟩
noncomputable def WX := oN f79 37
def adW : b4 := ⟨[5], []⟩
noncomputable def ads := oN f79 149
def Ya : b4 := ⟨[3, 4], []⟩
noncomputable def OW := oN f79 181
def aca : b4 := ⟨[4, 7], []⟩
noncomputable def ac3 := oN f79 629
def Ta : b4 := ⟨[3, 6], []⟩
noncomputable def XH := oN f79 757
def adZ : b4 := ⟨[6, 9], []⟩
noncomputable def ZH := oN f79 2549
def acx : b4 := ⟨[3, 8], []⟩
noncomputable def OO := oN f79 3061
def ZK : b4 := ⟨[8, 11], []⟩
noncomputable def abu := oN f79 10229
def acJ : b4 := ⟨[3, 10], []⟩
noncomputable def Oh := oN f79 12277
def Ks : b4 := ⟨[3, 10, 13], []⟩
noncomputable def KZ := oN f79 40949
def Mh : b4 := ⟨[12], []⟩
noncomputable def KN := oN f79 11
def On : b4 := ⟨[12], []⟩
def f79c : Code := (.seq (.region 0 ZX false) (.seq (.seq (.region 1 Vw false) (.block 0 (.seq (.region 2 WX false) (.cond (.tmp 4) (.seq (.region 3 ads false) .ret) (.seq (.region 4 OW false) (.cond (.tmp 6) (.seq (.region 5 ac3 false) .ret) (.seq (.region 6 XH false) (.cond (.tmp 8) (.seq (.region 7 ZH false) .ret) (.seq (.region 8 OO false) (.cond (.tmp 10) (.seq (.region 9 abu false) .ret) (.seq (.region 10 Oh false) (.cond (.tmp 12) (.seq (.region 11 KZ false) .ret) .skip)))))))))))) (.seq (.region 12 KN false) .ret)))
def acM : List (Nat × b4) := [(0, YM), (1, abH), (2, adW), (3, Ya), (4, aca), (5, Ta), (6, adZ), (7, acx), (8, ZK), (9, acJ), (10, Ks), (11, Mh), (12, On)]
noncomputable def QB := oN f49 2
def Yw : b4 := ⟨[2], []⟩
noncomputable def RN := oN f49 5
def UK : b4 := ⟨[], []⟩
noncomputable def acQ := oN f49 19
def ab6 : b4 := ⟨[], []⟩
noncomputable def Sa := oN f49 267
def Dg : b4 := ⟨[6, 7, 8], []⟩
noncomputable def Zt := oN f49 459
def UT : b4 := ⟨[5, 10, 11, 22], []⟩
noncomputable def Wl := oN f49 2123
def adU : b4 := ⟨[9, 12], []⟩
noncomputable def adK := oN f49 5195
def BN : b4 := ⟨[13, 14, 15], []⟩
noncomputable def acd := oN f49 2635
def XC : b4 := ⟨[13], []⟩
noncomputable def XW := oN f49 34379
def xz : b4 := ⟨[16, 17, 18, 19, 20, 21], []⟩
noncomputable def Ws := oN f49 58955
def RR : b4 := ⟨[23, 24], []⟩
noncomputable def NM := oN f49 271947
def Gi : b4 := ⟨[22, 25], []⟩
noncomputable def FP := oN f49 665163
def uZ : b4 := ⟨[26, 27, 28], []⟩
noncomputable def JF := oN f49 206411
def oY : b4 := ⟨[26, 29, 30, 31, 32, 33, 34, 35, 36, 37, 38, 39, 40, 41, 42, 43, 44, 45, 46, 47, 48, 49, 50, 51, 52, 53, 54, 55, 56, 57, 58], [(30, { eff := true })]⟩
noncomputable def Ju := oN f49 23
def LX : b4 := ⟨[0, 3, 4, 9, 59], []⟩
def xi : Code := (.seq (.seq (.region 8 XW false) (.cond (.tmp 22) .skip (.exit 2))) (.seq (.block 3 (.seq (.seq (.region 10 NM false) (.cond (.tmp 26) (.region 11 FP false) .skip)) (.region 12 JF true))) (.region 9 Ws false)))
def CP : Code := (.seq (.seq (.region 3 Sa false) (.cond (.tmp 9) .skip (.exit 0))) (.seq (.block 1 (.seq (.seq (.region 5 Wl false) (.cond (.tmp 13) (.region 6 adK false) .skip)) (.seq (.region 7 acd false) (.block 2 (.loop xi))))) (.region 4 Zt false)))
def f49c : Code := (.seq (.region 0 QB false) (.seq (.region 1 RN false) (.seq (.seq (.region 2 acQ false) (.block 0 (.loop CP))) (.seq (.region 13 Ju false) .ret))))
def yC : List (Nat × b4) := [(0, Yw), (1, UK), (2, ab6), (3, Dg), (4, UT), (5, adU), (6, BN), (7, XC), (8, xz), (9, RR), (10, Gi), (11, uZ), (12, oY), (13, LX)]
noncomputable def aci := oN f27 2
def Un : b4 := ⟨[0, 6, 7], []⟩
noncomputable def Qo := oN f27 9
def EF : b4 := ⟨[1, 3, 9, 10, 11, 12], []⟩
noncomputable def SN := oN f27 21
def PN : b4 := ⟨[13], []⟩
noncomputable def Rt := oN f27 77
def aac : b4 := ⟨[2, 8, 14, 15], []⟩
noncomputable def abx := oN f27 11
def Cn : b4 := ⟨[2, 8, 14, 16, 17], []⟩
def f27c : Code := (.seq (.region 0 aci false) (.seq (.seq (.region 1 Qo false) (.seq (.region 2 SN false) (.cond (.tmp 14) (.seq (.region 3 Rt false) .ret) .skip))) (.seq (.region 4 abx false) .ret)))
def Vi : List (Nat × b4) := [(0, Un), (1, EF), (2, PN), (3, aac), (4, Cn)]
noncomputable def f9o0 := oN f9 2
def f9a0 : b4 := ⟨[0, 1, 4, 5], []⟩
noncomputable def f9o1 := oN f9 5
def PD : b4 := ⟨[11, 12, 13, 14, 15, 16, 17], []⟩
noncomputable def f9o2 := oN f9 19
def f9a2 : b4 := ⟨[18], []⟩
noncomputable def f9o3 := oN f9 75
def f9a3 : b4 := ⟨[2, 3, 6, 7, 19, 20], []⟩
noncomputable def f9o4 := oN f9 23
def ada : b4 := ⟨[7, 19, 21, 22, 23], []⟩
noncomputable def f9o5 := oN f9 79
def f9a5 : b4 := ⟨[24, 25], []⟩
noncomputable def f9o6 := oN f9 175
def Ut : b4 := ⟨[26, 27, 28, 29, 30, 31], []⟩
noncomputable def f9o7 := oN f9 159
def Gh : b4 := ⟨[26, 32, 33, 34], []⟩
noncomputable def f9o8 := oN f9 607
def LU : b4 := ⟨[2, 3, 6, 8, 35, 36, 37], []⟩
noncomputable def f9o9 := oN f9 191
def GA : b4 := ⟨[2, 3, 6, 10, 35, 38, 39, 40, 41, 42, 43, 44, 45, 46, 47], []⟩
noncomputable def PT := oN f9 383
def yw : b4 := ⟨[8, 9, 48, 49, 50, 51, 52], []⟩
def f9c : Code := (.seq (.region 0 f9o0 false) (.seq (.region 1 f9o1 false) (.seq (.seq (.region 2 f9o2 false) (.cond (.tmp 19) (.seq (.region 3 f9o3 false) .ret) .skip)) (.seq (.region 4 f9o4 false) (.seq (.seq (.region 5 f9o5 false) (.cond (.tmp 26) (.region 6 f9o6 false) .skip)) (.seq (.seq (.region 7 f9o7 false) (.cond (.tmp 35) (.seq (.region 8 f9o8 false) .ret) .skip)) (.seq (.region 9 f9o9 true) (.seq (.region 10 PT false) .ret))))))))
def f9n : List (Nat × b4) := [(0, f9a0), (1, PD), (2, f9a2), (3, f9a3), (4, ada), (5, f9a5), (6, Ut), (7, Gh), (8, LU), (9, GA), (10, yw)]
noncomputable def Uk := oN f94 2
def QP : b4 := ⟨[0, 5, 6], []⟩
noncomputable def Uw := oN f94 9
def PS : b4 := ⟨[10, 11], []⟩
noncomputable def Wx := oN f94 37
def UE : b4 := ⟨[1, 2, 12, 13], []⟩
noncomputable def QY := oN f94 11
def Fr : b4 := ⟨[12, 14, 15, 16, 17], []⟩
noncomputable def SH := oN f94 23
def RH : b4 := ⟨[18], []⟩
noncomputable def aa5 := oN f94 527
def Fh : b4 := ⟨[19, 20, 21, 22, 23, 24, 25, 26, 27, 28], []⟩
noncomputable def acy := oN f94 655
def Wn : b4 := ⟨[29, 30, 31, 32, 33], []⟩
noncomputable def ad0 := oN f94 95
def EP : b4 := ⟨[29, 34, 35, 36, 37, 38, 39, 40], []⟩
noncomputable def Tm := oN f94 319
def FK : b4 := ⟨[8, 41, 42, 43, 44, 45, 46], []⟩
noncomputable def Sn := oN f94 1215
def abI : b4 := ⟨[1, 2, 7, 47, 48], []⟩
noncomputable def Ok := oN f94 383
def xq : b4 := ⟨[47, 49, 50], []⟩
noncomputable def MX := oN f94 767
def yU : b4 := ⟨[2, 7, 51, 52, 53, 54, 55, 56], []⟩
noncomputable def Ix := oN f94 2559
def NB : b4 := ⟨[57, 58, 59], []⟩
noncomputable def Kv := oN f94 9727
def Jk : b4 := ⟨[1, 9, 60, 61], []⟩
noncomputable def Ob := oN f94 3071
def yF : b4 := ⟨[60, 62, 63, 64, 65], []⟩
noncomputable def JL := oN f94 6143
def yW : b4 := ⟨[1, 9, 66, 67, 68, 69], []⟩
def BM : Code := (.seq (.seq (.region 5 aa5 true) (.cond (.tmp 29) .skip (.exit 0))) (.block 1 (.region 6 acy false)))
def f94c : Code := (.seq (.region 0 Uk false) (.seq (.seq (.region 1 Uw false) (.cond (.tmp 12) (.seq (.region 2 Wx false) .ret) .skip)) (.seq (.region 3 QY false) (.seq (.region 4 SH false) (.seq (.block 0 (.loop BM)) (.seq (.region 7 ad0 false) (.seq (.seq (.region 8 Tm false) (.cond (.tmp 47) (.seq (.region 9 Sn false) .ret) .skip)) (.seq (.region 10 Ok false) (.seq (.region 11 MX false) (.seq (.seq (.region 12 Ix false) (.cond (.tmp 60) (.seq (.region 13 Kv false) .ret) .skip)) (.seq (.region 14 Ob false) (.seq (.region 15 JL true) .ret))))))))))))
def KW : List (Nat × b4) := [(0, QP), (1, PS), (2, UE), (3, Fr), (4, RH), (5, Fh), (6, Wn), (7, EP), (8, FK), (9, abI), (10, xq), (11, yU), (12, NB), (13, Jk), (14, yF), (15, yW)]
noncomputable def ac5 := oN f55 2
def Qs : b4 := ⟨[0, 6, 7], []⟩
noncomputable def QN := oN f55 9
def FE : b4 := ⟨[14, 15, 16], []⟩
noncomputable def UX := oN f55 21
def RK : b4 := ⟨[17], []⟩
noncomputable def abs := oN f55 77
def YA : b4 := ⟨[1, 2, 3, 8, 18, 19], []⟩
noncomputable def abn := oN f55 19
def Um : b4 := ⟨[8, 18, 20], []⟩
noncomputable def adv := oN f55 75
def Vj : b4 := ⟨[1, 2, 3, 21], []⟩
noncomputable def abX := oN f55 23
def Yy : b4 := ⟨[21], [(0, { site := true })]⟩
noncomputable def SS := oN f55 79
def VG : b4 := ⟨[2, 23], []⟩
noncomputable def TP := oN f55 1071
def Cx : b4 := ⟨[10, 24, 25, 26, 27, 28, 29, 30, 31, 32, 33, 34], []⟩
noncomputable def Vx := oN f55 4655
def QA : b4 := ⟨[13, 35], []⟩
noncomputable def Nq := oN f55 18991
def IL : b4 := ⟨[1, 3, 9, 11, 12, 22, 36], []⟩
noncomputable def Mj := oN f55 5679
def zh : b4 := ⟨[11, 36, 37, 38, 39, 40, 41, 42, 43, 44, 45, 46, 47, 48, 49, 50], [(0, { noio := true }), (1, { noio := true }), (2, { noio := true }), (3, { noio := true }), (4, { noio := true }), (5, { noio := true }), (6, { noio := true }), (7, { noio := true }), (8, { noio := true }), (9, { keep := [0], mem := true, noio := true }), (10, { noio := true }), (11, { noio := true }), (12, { tk := [46], keep := [0], noio := true }), (14, { tk := [49] })]⟩
noncomputable def Ja := oN f55 20015
def Nx : b4 := ⟨[51], []⟩
noncomputable def HJ := oN f55 40495
def wO : b4 := ⟨[52, 53], []⟩
noncomputable def LH := oN f55 3104303
def HQ : b4 := ⟨[1, 3, 9, 12, 22, 57], []⟩
noncomputable def Nz := oN f55 155183
def FQ : b4 := ⟨[56], []⟩
noncomputable def Mu := oN f55 745007
def Kt : b4 := ⟨[54, 55, 58], []⟩
noncomputable def Gq := oN f55 1531439
def wZ : b4 := ⟨[57, 59, 60, 61], []⟩
noncomputable def FY := oN f55 32303
def uI : b4 := ⟨[12, 54, 55, 62, 63], []⟩
noncomputable def Il := oN f55 159
def xD : b4 := ⟨[1, 3, 12, 52, 64, 65, 66, 67, 68, 69, 70], []⟩
noncomputable def Js := oN f55 607
def LY : b4 := ⟨[9, 22, 71], []⟩
noncomputable def Kb := oN f55 191
def yi : b4 := ⟨[9, 71, 72], [(1, { close := true })]⟩
def Ei : Code := (.block 1 (.seq (.region 8 TP false) (.seq (.seq (.region 9 Vx false) (.cond (.tmp 36) (.seq (.region 10 Nq false) .ret) .skip)) (.seq (.region 11 Mj true) (.seq (.seq (.region 12 Ja false) (.cond (.tmp 52) (.exit 0) .skip)) (.seq (.seq (.region 13 HJ false) (.block 2 (.seq (.region 15 Nz false) (.cond (.tmp 55) .skip (.seq (.region 16 Mu false) (.cond (.tmp 57) (.region 17 Gq false) (.seq (.region 14 LH false) .ret))))))) (.region 18 FY false)))))))
def f55c : Code := (.seq (.region 0 ac5 false) (.seq (.seq (.region 1 QN false) (.seq (.region 2 UX false) (.cond (.tmp 18) (.seq (.region 3 abs false) .ret) .skip))) (.seq (.seq (.region 4 abn false) (.cond (.tmp 21) (.seq (.region 5 adv false) .ret) .skip)) (.seq (.region 6 abX false) (.seq (.seq (.region 7 SS false) (.block 0 (.loop Ei))) (.seq (.seq (.region 19 Il false) (.cond (.tmp 71) (.seq (.region 20 Js false) .ret) .skip)) (.seq (.region 21 Kb false) .ret)))))))
def Jb : List (Nat × b4) := [(0, Qs), (1, FE), (2, RK), (3, YA), (4, Um), (5, Vj), (6, Yy), (7, VG), (8, Cx), (9, QA), (10, IL), (11, zh), (12, Nx), (13, wO), (14, HQ), (15, FQ), (16, Kt), (17, wZ), (18, uI), (19, xD), (20, LY), (21, yi), (200000, { kill := [], ops := [(22, {})] })]
noncomputable def Wo := oN f29 2
def Rv : b4 := ⟨[0, 5], []⟩
noncomputable def Pe := oN f29 9
def Sv : b4 := ⟨[13, 14], []⟩
noncomputable def UB := oN f29 37
def abS : b4 := ⟨[1, 2, 15, 16], []⟩
noncomputable def adw := oN f29 11
def De : b4 := ⟨[15, 17, 18, 19, 20], []⟩
noncomputable def XR := oN f29 23
def CI : b4 := ⟨[21, 22], []⟩
noncomputable def adF := oN f29 79
def BQ : b4 := ⟨[23, 24], []⟩
noncomputable def TH := oN f29 303
def Zp : b4 := ⟨[25], []⟩
noncomputable def WZ := oN f29 8367
def EJ : b4 := ⟨[26, 27, 28, 29, 30, 31, 32, 33, 34, 35], []⟩
noncomputable def Qi := oN f29 10415
def Ub : b4 := ⟨[36, 37, 38], []⟩
noncomputable def Qc := oN f29 1455
def DO : b4 := ⟨[36, 39, 40, 41, 42], []⟩
noncomputable def Lz := oN f29 1967
def zf : b4 := ⟨[8, 43, 44, 45], []⟩
noncomputable def JY := oN f29 95
def vj : b4 := ⟨[25, 46, 47, 48, 49, 50, 51, 52], []⟩
noncomputable def MM := oN f29 319
def Ib : b4 := ⟨[53], []⟩
noncomputable def Le := oN f29 1215
def IP : b4 := ⟨[1, 2, 6, 7, 9, 10, 54, 55], []⟩
noncomputable def Mw := oN f29 639
def Km : b4 := ⟨[54, 56, 57], []⟩
noncomputable def Hk := oN f29 1407
def tY : b4 := ⟨[58, 59, 60, 61, 62, 63, 64, 65, 66, 67, 68, 69, 70], []⟩
noncomputable def Gy := oN f29 2943
def vc : b4 := ⟨[7, 9, 11, 71, 72, 73, 74, 75, 76, 77, 78, 79, 80, 81, 82], []⟩
noncomputable def JR := oN f29 1279
def MW : b4 := ⟨[7, 9, 10, 11, 71, 83], []⟩
noncomputable def Ik := oN f29 4863
def Iv : b4 := ⟨[1, 2, 6, 84, 85], []⟩
noncomputable def Ki := oN f29 1535
def oI : b4 := ⟨[2, 84, 86, 87, 88, 89, 90, 91], []⟩
noncomputable def FM := oN f29 3071
def pw : b4 := ⟨[1, 6, 10, 12, 92, 93, 94, 95, 96, 97, 98, 99], []⟩
def Ft : Code := (.seq (.seq (.region 7 WZ false) (.cond (.tmp 36) .skip (.exit 0))) (.block 1 (.region 8 Qi false)))
def f29c : Code := (.seq (.region 0 Wo false) (.seq (.seq (.region 1 Pe false) (.cond (.tmp 15) (.seq (.region 2 UB false) .ret) .skip)) (.seq (.region 3 adw false) (.seq (.region 4 XR false) (.seq (.seq (.region 5 adF false) (.cond (.tmp 25) (.seq (.region 6 TH false) (.seq (.block 0 (.loop Ft)) (.seq (.region 9 Qc false) (.region 10 Lz false)))) .skip)) (.seq (.region 11 JY false) (.seq (.seq (.region 12 MM false) (.cond (.tmp 54) (.seq (.region 13 Le false) .ret) .skip)) (.seq (.seq (.region 14 Mw false) (.seq (.region 15 Hk false) (.cond (.tmp 71) (.region 16 Gy true) .skip))) (.seq (.seq (.region 17 JR false) (.cond (.tmp 84) (.seq (.region 18 Ik false) .ret) .skip)) (.seq (.region 19 Ki false) (.seq (.region 20 FM false) .ret)))))))))))
def Mz : List (Nat × b4) := [(0, Rv), (1, Sv), (2, abS), (3, De), (4, CI), (5, BQ), (6, Zp), (7, EJ), (8, Ub), (9, DO), (10, zf), (11, vj), (12, Ib), (13, IP), (14, Km), (15, tY), (16, vc), (17, MW), (18, Iv), (19, oI), (20, pw)]
noncomputable def Pl := oN f10 2
def Wd : b4 := ⟨[0, 5], []⟩
noncomputable def Xv := oN f10 9
def DV : b4 := ⟨[8, 9], []⟩
noncomputable def PC := oN f10 37
def abc : b4 := ⟨[1, 2, 10, 11], []⟩
noncomputable def QR := oN f10 11
def DZ : b4 := ⟨[1, 2, 10, 12, 13, 14, 15, 16, 17], []⟩
noncomputable def SP := oN f10 39
def VY : b4 := ⟨[7, 18], []⟩
noncomputable def XY := oN f10 151
def UY : b4 := ⟨[6, 19, 20], []⟩
noncomputable def Wb := oN f10 47
def acP : b4 := ⟨[6, 19, 21], []⟩
def f10c : Code := (.seq (.region 0 Pl false) (.seq (.seq (.region 1 Xv false) (.cond (.tmp 10) (.seq (.region 2 PC false) .ret) .skip)) (.seq (.region 3 QR false) (.seq (.seq (.region 4 SP false) (.cond (.tmp 19) (.seq (.region 5 XY false) .ret) .skip)) (.seq (.region 6 Wb false) .ret)))))
def OU : List (Nat × b4) := [(0, Wd), (1, DV), (2, abc), (3, DZ), (4, VY), (5, UY), (6, acP)]
noncomputable def WP := oN f95 2
def aah : b4 := ⟨[0, 7, 8], []⟩
noncomputable def acr := oN f95 9
def SI : b4 := ⟨[], []⟩
noncomputable def Pv := oN f95 133
def CW : b4 := ⟨[14, 15, 16, 17, 18, 19, 20, 21], []⟩
noncomputable def Ud := oN f95 229
def PU : b4 := ⟨[10, 11, 23, 24, 35], []⟩
noncomputable def aai := oN f95 549
def FF : b4 := ⟨[22, 25, 26, 27, 28, 29, 30, 31, 32, 33], []⟩
noncomputable def ZS := oN f95 1317
def adN : b4 := ⟨[], []⟩
noncomputable def Pj := oN f95 17189
def Wa : b4 := ⟨[34], []⟩
noncomputable def Rm := oN f95 29477
def TF : b4 := ⟨[12, 36, 37, 59], []⟩
noncomputable def Rp := oN f95 70437
def Eu : b4 := ⟨[35, 38, 39, 40, 41, 42, 43], []⟩
noncomputable def Po := oN f95 168741
def CB : b4 := ⟨[44, 45, 46, 47, 48, 49, 50, 51, 52, 53, 54, 55, 56, 57, 58], []⟩
noncomputable def JI := oN f95 627493
def HG : b4 := ⟨[1, 3, 9, 59, 60, 61, 62, 63, 64], []⟩
noncomputable def LB := oN f95 1413925
def Ak : b4 := ⟨[2, 10, 11, 12, 13, 65, 66, 67, 68, 69, 70, 71, 72, 73, 74, 75, 76], []⟩
noncomputable def Gp := oN f95 11
def Hl : b4 := ⟨[1, 2, 3, 9, 22, 77], []⟩
def Dn : Code := (.seq (.seq (.region 6 Pj false) (.cond (.tmp 35) .skip (.exit 2))) (.seq (.block 3 (.seq (.region 8 Rp false) (.seq (.region 9 Po false) (.cond (.tmp 59) (.seq (.region 10 JI false) (.seq (.region 11 LB true) .ret)) .skip)))) (.region 7 Rm false)))
def CT : Code := (.seq (.seq (.region 2 Pv false) (.cond (.tmp 22) .skip (.exit 0))) (.seq (.block 1 (.seq (.region 4 aai false) (.seq (.region 5 ZS false) (.block 2 (.loop Dn))))) (.region 3 Ud false)))
def f95c : Code := (.seq (.region 0 WP false) (.seq (.seq (.region 1 acr false) (.block 0 (.loop CT))) (.seq (.region 12 Gp false) .ret)))
def BF : List (Nat × b4) := [(0, aah), (1, SI), (2, CW), (3, PU), (4, FF), (5, adN), (6, Wa), (7, TF), (8, Eu), (9, CB), (10, HG), (11, Ak), (12, Hl)]
noncomputable def aaS := oN f61 2
def ach : b4 := ⟨[0, 6, 7, 8], []⟩
noncomputable def PJ := oN f61 5
def RD : b4 := ⟨[], [(0, { keep := [0] })]⟩
noncomputable def ado := oN f61 11
def adf : b4 := ⟨[], [(0, { keep := [0] })]⟩
noncomputable def YX := oN f61 135
def DG : b4 := ⟨[2, 14, 15, 16, 17, 18, 19, 20, 21], []⟩
noncomputable def acB := oN f61 583
def Vg : b4 := ⟨[13, 22], []⟩
noncomputable def WU := oN f61 2375
def acj : b4 := ⟨[1, 3, 9, 10, 11, 12, 23], []⟩
noncomputable def YB := oN f61 711
def FG : b4 := ⟨[11, 23, 24, 25, 26, 27], [(0, { tk := [10], keep := [0] }), (3, { tk := [24], keep := [0] }), (4, { tk := [27], keep := [0] })]⟩
noncomputable def Vo := oN f61 2503
def Cj : b4 := ⟨[28, 29, 30, 31, 32, 33], []⟩
noncomputable def Xh := oN f61 9671
def CF : b4 := ⟨[12, 34, 35, 36], []⟩
noncomputable def Si := oN f61 3015
def Db : b4 := ⟨[10, 34, 37, 38, 39, 40], [(0, { tk := [9], keep := [0] }), (3, { tk := [37], keep := [0] }), (4, { tk := [40], keep := [0] })]⟩
noncomputable def JE := oN f61 6087
def GD : b4 := ⟨[], [(0, { keep := [0] })]⟩
noncomputable def FW := oN f61 20423
def xf : b4 := ⟨[41, 42, 43, 44, 45, 46], []⟩
noncomputable def Ky := oN f61 77767
def ye : b4 := ⟨[1, 3, 9, 10, 12, 47, 48, 49, 50, 51, 52, 53], []⟩
noncomputable def Kd := oN f61 16327
def AF : b4 := ⟨[12, 47, 54, 55], []⟩
def Ff : Code := (.block 1 (.seq (.region 3 YX false) (.seq (.seq (.region 4 acB false) (.cond (.tmp 23) (.seq (.region 5 WU false) .ret) .skip)) (.seq (.region 6 YB false) (.seq (.seq (.region 7 Vo false) (.cond (.tmp 34) (.seq (.region 8 Xh false) (.exit 1)) .skip)) (.seq (.region 9 Si false) (.seq (.region 10 JE false) (.seq (.seq (.region 11 FW false) (.cond (.tmp 47) (.seq (.region 12 Ky false) .ret) .skip)) (.region 13 Kd false)))))))))
def f61c : Code := (.seq (.region 0 aaS false) (.seq (.region 1 PJ false) (.seq (.region 2 ado false) (.block 0 (.loop Ff)))))
def Li : List (Nat × b4) := [(0, ach), (1, RD), (2, adf), (3, DG), (4, Vg), (5, acj), (6, FG), (7, Cj), (8, CF), (9, Db), (10, GD), (11, xf), (12, ye), (13, AF)]
noncomputable def aas := oN f31 2
def Vp : b4 := ⟨[0, 5, 6], []⟩
noncomputable def WY := oN f31 5
def acR : b4 := ⟨[], []⟩
noncomputable def acG := oN f31 19
def aby : b4 := ⟨[], []⟩
noncomputable def OA := oN f31 267
def Cc : b4 := ⟨[15, 16, 17, 18], []⟩
noncomputable def adQ := oN f31 459
def WR : b4 := ⟨[20, 21, 37], []⟩
noncomputable def aaI := oN f31 1099
def Et : b4 := ⟨[19, 22, 23, 24, 25, 26, 27, 28], []⟩
noncomputable def SD := oN f31 2635
def EK : b4 := ⟨[9, 29, 30, 31, 32, 33, 34, 35, 36], []⟩
noncomputable def abp := oN f31 5707
def Yg : b4 := ⟨[37, 38], []⟩
noncomputable def ZM := oN f31 39
def TT : b4 := ⟨[8, 19, 39], []⟩
noncomputable def aa4 := oN f31 151
def ac6 : b4 := ⟨[1, 2, 7, 40, 41], []⟩
noncomputable def Nu := oN f31 47
def yD : b4 := ⟨[40, 42, 43, 44, 45, 46, 47, 48], []⟩
noncomputable def Ii := oN f31 95
def Ae : b4 := ⟨[49, 50], []⟩
noncomputable def Gf := oN f31 319
def zE : b4 := ⟨[51, 52], []⟩
noncomputable def Iy := oN f31 1215
def Iz : b4 := ⟨[53], []⟩
noncomputable def Je := oN f31 33471
def xn : b4 := ⟨[54, 55, 56, 57, 58, 59, 60, 61, 62, 63, 64, 65, 66, 67, 68], []⟩
noncomputable def FS := oN f31 41663
def Kg : b4 := ⟨[69, 70, 71], []⟩
noncomputable def IG := oN f31 5823
def yh : b4 := ⟨[69, 72, 73, 74, 75], []⟩
noncomputable def Hr := oN f31 11967
def yT : b4 := ⟨[11, 76, 77, 78], []⟩
noncomputable def Kn := oN f31 24255
def yY : b4 := ⟨[79, 80, 81, 82, 83, 84, 85, 86, 87, 88, 89, 90], []⟩
noncomputable def II := oN f31 81599
def HK : b4 := ⟨[1, 2, 7, 10, 91, 92], []⟩
noncomputable def MA := oN f31 639
def ux : b4 := ⟨[53, 91, 93, 94], []⟩
noncomputable def Mk := oN f31 2431
def tX : b4 := ⟨[1, 2, 7, 10, 95, 96, 97, 98], []⟩
noncomputable def Ly := oN f31 767
def uB : b4 := ⟨[2, 7, 95, 99, 100, 101, 102, 103, 104, 105, 106, 107], []⟩
noncomputable def KP := oN f31 2559
def uP : b4 := ⟨[1, 14, 108, 109, 110, 111, 112, 113, 114, 115, 116, 117, 118, 119, 120, 121, 122], []⟩
noncomputable def Hp := oN f31 9727
def KF : b4 := ⟨[10, 12, 13, 123, 124], []⟩
noncomputable def Lo := oN f31 3071
def KH : b4 := ⟨[12, 123, 125, 126], []⟩
noncomputable def FO := oN f31 6143
def uz : b4 := ⟨[10, 13, 127, 128, 129], []⟩
def EA : Code := (.seq (.seq (.region 3 OA false) (.cond (.tmp 19) .skip (.exit 0))) (.seq (.block 1 (.seq (.region 5 aaI false) (.seq (.region 6 SD false) (.cond (.tmp 37) (.region 7 abp false) .skip)))) (.region 4 adQ false)))
def Dl : Code := (.seq (.seq (.region 14 Je false) (.cond (.tmp 69) .skip (.exit 2))) (.block 3 (.region 15 FS false)))
def f31c : Code := (.seq (.region 0 aas false) (.seq (.region 1 WY false) (.seq (.seq (.region 2 acG false) (.block 0 (.loop EA))) (.seq (.seq (.region 8 ZM false) (.cond (.tmp 40) (.seq (.region 9 aa4 false) .ret) .skip)) (.seq (.region 10 Nu false) (.seq (.region 11 Ii false) (.seq (.seq (.region 12 Gf false) (.cond (.tmp 53) (.seq (.region 13 Iy false) (.seq (.block 2 (.loop Dl)) (.seq (.region 16 IG false) (.seq (.region 17 Hr false) (.seq (.region 18 Kn false) (.cond (.tmp 91) (.seq (.region 19 II false) .ret) .skip)))))) .skip)) (.seq (.seq (.region 20 MA false) (.cond (.tmp 95) (.seq (.region 21 Mk true) .ret) .skip)) (.seq (.region 22 Ly true) (.seq (.seq (.region 23 KP false) (.cond (.tmp 123) (.seq (.region 24 Hp false) .ret) .skip)) (.seq (.region 25 Lo false) (.seq (.region 26 FO true) .ret))))))))))))
def Bw : List (Nat × b4) := [(0, Vp), (1, acR), (2, aby), (3, Cc), (4, WR), (5, Et), (6, EK), (7, Yg), (8, TT), (9, ac6), (10, yD), (11, Ae), (12, zE), (13, Iz), (14, xn), (15, Kg), (16, yh), (17, yT), (18, yY), (19, HK), (20, ux), (21, tX), (22, uB), (23, uP), (24, KF), (25, KH), (26, uz)]
noncomputable def Sb := oN f11 2
def Xi : b4 := ⟨[0, 5], []⟩
noncomputable def Qj := oN f11 9
def DC : b4 := ⟨[9, 10], []⟩
noncomputable def YO := oN f11 37
def ZO : b4 := ⟨[1, 2, 11, 12], []⟩
noncomputable def VJ := oN f11 11
def BW : b4 := ⟨[1, 2, 11, 13, 14, 15, 16, 17, 18, 19], []⟩
noncomputable def Xe := oN f11 39
def DX : b4 := ⟨[7, 8, 20, 21, 22, 23, 24], []⟩
noncomputable def Zo := oN f11 151
def adT : b4 := ⟨[6, 25, 26], []⟩
noncomputable def ab5 := oN f11 47
def ab0 : b4 := ⟨[6, 25, 27], []⟩
def f11c : Code := (.seq (.region 0 Sb false) (.seq (.seq (.region 1 Qj false) (.cond (.tmp 11) (.seq (.region 2 YO false) .ret) .skip)) (.seq (.region 3 VJ false) (.seq (.seq (.region 4 Xe false) (.cond (.tmp 25) (.seq (.region 5 Zo false) .ret) .skip)) (.seq (.region 6 ab5 false) .ret)))))
def VI : List (Nat × b4) := [(0, Xi), (1, DC), (2, ZO), (3, BW), (4, DX), (5, adT), (6, ab0)]
noncomputable def TX := oN f32 2
def Ur : b4 := ⟨[4], []⟩
noncomputable def RX := oN f32 9
def CC : b4 := ⟨[7, 8, 9, 10], []⟩
noncomputable def VW := oN f32 37
def TS : b4 := ⟨[0, 1, 11], []⟩
noncomputable def YU := oN f32 19
def Tr : b4 := ⟨[11], []⟩
noncomputable def TW := oN f32 267
def Cb : b4 := ⟨[12, 13, 14], []⟩
noncomputable def Vc := oN f32 459
def Vv : b4 := ⟨[6, 16, 17, 35], []⟩
noncomputable def Tb := oN f32 2123
def Ct : b4 := ⟨[15, 18, 19, 20, 21, 22, 23, 24, 25, 26, 27], []⟩
noncomputable def UG := oN f32 9291
def VT : b4 := ⟨[0, 1, 5, 28], []⟩
noncomputable def ZB := oN f32 2635
def XQ : b4 := ⟨[28], []⟩
noncomputable def WI := oN f32 34379
def DI : b4 := ⟨[29, 30, 31, 32, 33, 34], []⟩
noncomputable def Lp := oN f32 58955
def NE : b4 := ⟨[36, 37, 52], []⟩
noncomputable def FX := oN f32 140875
def zR : b4 := ⟨[35, 38, 39, 40, 41, 42, 43, 44, 45, 46, 47, 48, 49, 50, 51], []⟩
noncomputable def KO := oN f32 599627
def NJ : b4 := ⟨[0, 1, 5, 6, 52], []⟩
noncomputable def Na := oN f32 23
def JA : b4 := ⟨[0, 1, 5, 15], []⟩
def Dr : Code := (.seq (.seq (.region 9 WI false) (.cond (.tmp 35) .skip (.exit 2))) (.seq (.block 3 (.seq (.region 11 FX true) (.cond (.tmp 52) (.seq (.region 12 KO false) .ret) .skip))) (.region 10 Lp false)))
def CX : Code := (.seq (.seq (.region 4 TW false) (.cond (.tmp 15) .skip (.exit 0))) (.seq (.block 1 (.seq (.seq (.region 6 Tb true) (.cond (.tmp 28) (.seq (.region 7 UG false) .ret) .skip)) (.seq (.region 8 ZB false) (.block 2 (.loop Dr))))) (.region 5 Vc false)))
def f32c : Code := (.seq (.region 0 TX false) (.seq (.seq (.region 1 RX false) (.cond (.tmp 11) (.seq (.region 2 VW false) .ret) .skip)) (.seq (.seq (.region 3 YU false) (.block 0 (.loop CX))) (.seq (.region 13 Na false) .ret))))
def AY : List (Nat × b4) := [(0, Ur), (1, CC), (2, TS), (3, Tr), (4, Cb), (5, Vv), (6, Ct), (7, VT), (8, XQ), (9, DI), (10, NE), (11, zR), (12, NJ), (13, JA)]
noncomputable def WG := oN f12 2
def RM : b4 := ⟨[0, 1, 4], []⟩
noncomputable def aam := oN f12 5
def Dh : b4 := ⟨[2, 3, 5, 6, 7, 8, 9, 10, 11, 12, 13, 14, 15, 16, 17, 18, 19, 20, 21, 22, 23], []⟩
def f12c : Code := (.seq (.region 0 WG false) (.seq (.region 1 aam false) .ret))
def QX : List (Nat × b4) := [(0, RM), (1, Dh)]
noncomputable def AK := oN f62 2
def yy : b4 := ⟨[6], []⟩
noncomputable def Ac := oN f62 9
def tc : b4 := ⟨[10, 11, 12, 13], []⟩
noncomputable def zp := oN f62 37
def xN : b4 := ⟨[0, 1, 2, 14], []⟩
noncomputable def AG := oN f62 19
def tr : b4 := ⟨[0, 14], []⟩
noncomputable def xm := oN f62 139
def yM : b4 := ⟨[], []⟩
noncomputable def yJ := oN f62 2251
def tt : b4 := ⟨[18, 19, 20, 21], []⟩
noncomputable def xI := oN f62 5323
def tE : b4 := ⟨[7, 22, 23, 24, 25], []⟩
noncomputable def Ab := oN f62 11467
def tv : b4 := ⟨[8, 9, 26, 27, 28, 29], []⟩
noncomputable def xR := oN f62 40139
def Ah : b4 := ⟨[1, 2, 15, 16, 17, 30], []⟩
noncomputable def AM := oN f62 971
def zr : b4 := ⟨[30, 31], []⟩
noncomputable def wg := oN f62 23
def vW : b4 := ⟨[1, 2, 15, 16, 17, 18], []⟩
def tj : Code := (.seq (.region 4 xm false) (.seq (.cond (.tmp 18) .skip (.exit 0)) (.seq (.block 1 (.seq (.region 5 yJ false) (.seq (.region 6 xI false) (.seq (.region 7 Ab false) (.cond (.tmp 30) (.seq (.region 8 xR false) .ret) .skip))))) (.region 9 AM false))))
def AX : Code := (.seq (.region 0 AK false) (.seq (.seq (.region 1 Ac false) (.cond (.tmp 14) (.seq (.region 2 zp false) .ret) .skip)) (.seq (.seq (.region 3 AG false) (.block 0 (.loop tj))) (.seq (.region 10 wg false) .ret))))
def rD : List (Nat × b4) := [(0, yy), (1, tc), (2, xN), (3, tr), (4, yM), (5, tt), (6, tE), (7, tv), (8, Ah), (9, zr), (10, vW)]
noncomputable def acp := oN f63 2
def Uu : b4 := ⟨[4], []⟩
noncomputable def adu := oN f63 9
def DK : b4 := ⟨[6, 7, 8, 9], []⟩
noncomputable def adY := oN f63 37
def adG : b4 := ⟨[0, 1, 10], []⟩
noncomputable def TM := oN f63 19
def Fa : b4 := ⟨[10, 11], []⟩
noncomputable def Zg := oN f63 139
def Uo : b4 := ⟨[], []⟩
noncomputable def UU := oN f63 2251
def Vh : b4 := ⟨[14, 15], []⟩
noncomputable def abO := oN f63 5323
def Fd : b4 := ⟨[5, 16, 17, 18, 19, 20, 21, 22, 23], []⟩
noncomputable def ZV := oN f63 19659
def adM : b4 := ⟨[0, 1, 12, 13, 24], []⟩
noncomputable def OM := oN f63 971
def OD : b4 := ⟨[24, 25], []⟩
noncomputable def ac7 := oN f63 23
def OZ : b4 := ⟨[0, 1, 12, 13, 14], []⟩
def CM : Code := (.seq (.region 4 Zg false) (.seq (.cond (.tmp 14) .skip (.exit 0)) (.seq (.block 1 (.seq (.region 5 UU false) (.seq (.region 6 abO true) (.cond (.tmp 24) (.seq (.region 7 ZV false) .ret) .skip)))) (.region 8 OM false))))
def f63c : Code := (.seq (.region 0 acp false) (.seq (.seq (.region 1 adu false) (.cond (.tmp 10) (.seq (.region 2 adY false) .ret) .skip)) (.seq (.seq (.region 3 TM false) (.block 0 (.loop CM))) (.seq (.region 9 ac7 false) .ret))))
def NW : List (Nat × b4) := [(0, Uu), (1, DK), (2, adG), (3, Fa), (4, Uo), (5, Vh), (6, Fd), (7, adM), (8, OD), (9, OZ)]
noncomputable def acF := oN f33 2
def ZW : b4 := ⟨[4], []⟩
noncomputable def acs := oN f33 5
def BS : b4 := ⟨[0, 1, 5, 6, 7], []⟩
def f33c : Code := (.seq (.region 0 acF false) (.seq (.region 1 acs false) .ret))
def RO : List (Nat × b4) := [(0, ZW), (1, BS)]
noncomputable def UZ := oN f13 2
def ZL : b4 := ⟨[0, 1, 4], []⟩
noncomputable def WH := oN f13 5
def Di : b4 := ⟨[2, 3, 5, 6, 7, 8, 9, 10, 11, 12, 13, 14, 15, 16, 17, 18, 19, 20, 21, 22, 23], []⟩
def f13c : Code := (.seq (.region 0 UZ false) (.seq (.region 1 WH false) .ret))
def acU : List (Nat × b4) := [(0, ZL), (1, Di)]
noncomputable def f3o0 := oN f3 2
def f3a0 : b4 := ⟨[0, 1, 6], []⟩
noncomputable def f3o1 := oN f3 9
def aan : b4 := ⟨[19, 20, 21, 22, 23, 24, 25, 26, 27, 28, 29], []⟩
noncomputable def f3o2 := oN f3 37
def adg : b4 := ⟨[2, 3, 4, 30, 31], []⟩
noncomputable def f3o3 := oN f3 11
def Va : b4 := ⟨[30, 32, 33, 34, 35, 36, 37], []⟩
noncomputable def f3o4 := oN f3 23
def adO : b4 := ⟨[38, 39, 40, 41, 42, 43], []⟩
noncomputable def f3o5 := oN f3 47
def aat : b4 := ⟨[44, 45, 46, 47, 48, 49], []⟩
noncomputable def f3o6 := oN f3 95
def ZC : b4 := ⟨[50, 51, 52, 53, 54, 55], []⟩
noncomputable def f3o7 := oN f3 319
def YD : b4 := ⟨[9, 10, 13, 14, 56, 57, 58, 59, 60, 61, 62, 63, 64, 65, 66, 67, 68, 69, 70, 71, 72, 73], []⟩
noncomputable def f3o8 := oN f3 1215
def f3a8 : b4 := ⟨[2, 3, 4, 7, 8, 11, 12, 74], []⟩
noncomputable def f3o9 := oN f3 639
def f3a9 : b4 := ⟨[8, 74, 75], []⟩
noncomputable def abQ := oN f3 2431
def DY : b4 := ⟨[7, 76, 77, 78, 79, 80, 81, 82], []⟩
noncomputable def VD := oN f3 5503
def Do : b4 := ⟨[4, 15, 16, 83, 84, 85, 86, 87, 88, 89], []⟩
noncomputable def Vq := oN f3 19839
def ZD : b4 := ⟨[2, 3, 11, 12, 90], []⟩
noncomputable def WE := oN f3 1279
def Rs : b4 := ⟨[4, 7, 12, 76, 90, 91], []⟩
noncomputable def Wj := oN f3 4863
def Aj : b4 := ⟨[3, 11, 92, 93, 94, 95, 96, 97, 98], []⟩
noncomputable def aaP := oN f3 11007
def zx : b4 := ⟨[2, 17, 18, 99, 100, 101, 102, 103, 104], []⟩
noncomputable def abh := oN f3 39679
def acS : b4 := ⟨[105], []⟩
noncomputable def TY := oN f3 1535
def tq : b4 := ⟨[2, 3, 11, 92, 105, 106], []⟩
def f3c : Code := (.seq (.region 0 f3o0 false) (.seq (.seq (.region 1 f3o1 false) (.cond (.tmp 30) (.seq (.region 2 f3o2 false) .ret) .skip)) (.seq (.region 3 f3o3 false) (.seq (.region 4 f3o4 false) (.seq (.region 5 f3o5 false) (.seq (.region 6 f3o6 false) (.seq (.seq (.region 7 f3o7 false) (.cond (.tmp 74) (.seq (.region 8 f3o8 false) .ret) .skip)) (.seq (.seq (.region 9 f3o9 false) (.cond (.tmp 76) (.seq (.region 10 abQ false) (.seq (.region 11 VD false) (.cond (.tmp 90) (.seq (.region 12 Vq false) .ret) .skip))) .skip)) (.seq (.seq (.region 13 WE false) (.cond (.tmp 92) (.seq (.region 14 Wj false) (.seq (.region 15 aaP false) (.cond (.tmp 105) (.seq (.region 16 abh false) .ret) .skip))) .skip)) (.seq (.region 17 TY false) .ret))))))))))
def f3n : List (Nat × b4) := [(0, f3a0), (1, aan), (2, adg), (3, Va), (4, adO), (5, aat), (6, ZC), (7, YD), (8, f3a8), (9, f3a9), (10, DY), (11, Do), (12, ZD), (13, Rs), (14, Aj), (15, zx), (16, acS), (17, tq)]
def ANNS : List (Nat × uC) := [(3, ⟨f3n, [], []⟩), (5, ⟨f5n, [], []⟩), (6, ⟨f6n, [], []⟩), (7, ⟨f7n, [], []⟩), (8, ⟨f8n, [], []⟩), (9, ⟨f9n, [], []⟩), (10, ⟨OU, [], []⟩), (11, ⟨VI, [], []⟩), (12, ⟨QX, [], []⟩), (13, ⟨acU, [], []⟩), (20, ⟨Bc, [], []⟩), (21, ⟨UR, [], []⟩), (22, ⟨acC, [], []⟩), (24, ⟨Be, [], []⟩), (25, ⟨BC, [], []⟩), (26, ⟨Lt, [], []⟩), (27, ⟨Vi, [], []⟩), (28, ⟨ZR, [], []⟩), (29, ⟨Mz, [], []⟩), (30, ⟨wy, [], []⟩), (31, ⟨Bw, [], []⟩), (32, ⟨AY, [], []⟩), (33, ⟨RO, [], []⟩), (36, ⟨NC, [], []⟩), (43, ⟨WD, [], []⟩), (44, ⟨aaK, [], []⟩), (46, ⟨Oo, [], []⟩), (47, ⟨Ma, [], []⟩), (48, ⟨TG, [], []⟩), (49, ⟨yC, [], []⟩), (50, ⟨Nf, [], []⟩), (51, ⟨JK, [], []⟩), (52, ⟨JC, [], []⟩), (54, ⟨Tq, [], []⟩), (55, ⟨Jb, [], []⟩), (56, ⟨Ge, [], []⟩), (57, ⟨Bq, [], []⟩), (58, ⟨Jw, [], []⟩), (59, ⟨IO, [], []⟩), (60, ⟨Bl, [], []⟩), (61, ⟨Li, [], []⟩), (62, ⟨rD, [], []⟩), (63, ⟨NW, [], []⟩), (65, ⟨aaW, [], []⟩), (71, ⟨Zf, [], []⟩), (72, ⟨abG, [], []⟩), (73, ⟨Px, [], []⟩), (74, ⟨Xw, [], []⟩), (75, ⟨aba, [], []⟩), (76, ⟨JZ, [], []⟩), (77, ⟨acz, [], []⟩), (78, ⟨Bd, [], []⟩), (79, ⟨acM, [], []⟩), (80, ⟨RU, [], []⟩), (81, ⟨RI, [], []⟩), (82, ⟨aau, [], []⟩), (83, ⟨KD, [], []⟩), (84, ⟨OB, [], []⟩), (85, ⟨adE, [], []⟩), (90, ⟨ZA, [], []⟩), (91, ⟨aa2, [], []⟩), (92, ⟨Ol, [], []⟩), (93, ⟨ac2, [], []⟩), (94, ⟨KW, [], []⟩), (95, ⟨BF, [], []⟩), (97, ⟨HH, [], []⟩), (98, ⟨abm, [], []⟩), (99, ⟨abU, [], []⟩), (102, ⟨Fm, [], []⟩), (103, ⟨zF, [], []⟩), (104, ⟨BG, [], []⟩), (105, ⟨Eo, [], []⟩), (106, ⟨Ck, [], []⟩), (107, ⟨EY, [], []⟩), (108, ⟨CA, [], []⟩), (109, ⟨Df, [], []⟩), (110, ⟨Cd, [], []⟩), (111, ⟨Ex, [], []⟩), (112, ⟨EN, [], []⟩), (113, ⟨zo, [], []⟩), (114, ⟨xK, [], []⟩), (118, ⟨FC, [], []⟩), (119, ⟨CV, [], []⟩), (120, ⟨CE, [], []⟩), (121, ⟨Dw, [], []⟩), (122, ⟨Ap, [], []⟩), (123, ⟨En, [], []⟩), (124, ⟨xZ, [], []⟩), (125, ⟨xB, [], []⟩), (126, ⟨yX, [], []⟩), (127, ⟨EB, [], []⟩), (128, ⟨Fu, [], []⟩), (132, ⟨yo, [], []⟩), (133, ⟨zI, [], []⟩), (134, ⟨EM, [], []⟩)]
def c8 : FuncId → uC := fun f => (d9 f ANNS).getD {}
def ext : wC := fun f args => bif Nat.beq f 35 then some (mz args) else bif Nat.beq f 135 then some (cr args) else bif Nat.beq f 23 then some (nq args) else bif Nat.beq f 45 then some (eK args) else bif Nat.beq f 53 then some (oU args) else none
noncomputable abbrev EV (k : Nat) : S4 := evF prog c8 ext k
noncomputable abbrev RE (k : Nat) (a : b4) (o : Array Oper) (d : Bool) (s : St) : Option St := R7 prog (EV k) a o d s
abbrev I (n : Int) : V := .int .i64 n
abbrev l7 (l : List b9) : V := .sl 0 8 (List.map j0 l)
abbrev k0 (l : List i4) : V := .sl 0 3 (List.map l5 l)
abbrev s8 (l : List j1) : V := .sl 0 4 (List.map s5 l)
abbrev u5 (l : List b8) : V := .sl 0 3 (List.map j4 l)
abbrev a7 (l : List a6) : V := .sl 0 3 (List.map d4 l)
abbrev sI (l : List Int) : V := .sl 0 1 (List.map I l)
def J4 : Bool → V × List V := fun r => ((Bo r), [])
theorem mg (k : Nat) (a0 : a8) (x17 : Int)  (K0 : Int → Option Bool) (Kst : X × St → Option (V × List V)) (hK0 : ∀ (y0 : Int), Kst (X.exit 2, ⟨[(1, (Pt 1)), (3, (I x17)), (4, (I y0)), (55, (Bo false))], [(1, vS 4 (b7 a0))], 95⟩) = (K0 y0).map J4) (hret : ∀ s, Kst (X.ret, s) = F6 prog 95 [(b7 a0)] [] [.tmp 2] (X.ret, s)) :
  ∀ (m : Nat) (x26 : Int), (D1 (u1 prog (EV k) f5n k aaB) m ⟨[(1, (Pt 1)), (3, (I x17)), (4, (I x26))], [(1, vS 4 (b7 a0))], 95⟩).bind Kst = (M8 a0 x17 K0 m x26).map J4 := by
 intro m
 induction m with
 | zero => intros; rfl
 | succ m ih =>
  intro x26
  unfold M8
  refine et l9 <| et b6 <| kga Sc rfl (fun (o28 : Bool) => [(55, (Bo o28))]) (rd 4 [(47, (I x26)), (48, (V.ptr 1 0 2)), (49, (l7 a0.fTypes)), (50, (I x17))] rfl rfl <| rp rfl (i2 (e := j0) rfl rfl rfl underlying22 rfl (by decide)) fun v27 => bd 7 [(51, (Pr (j0 v27))), (52, (Pr (k0 v27.fFields))), (53, (k0 v27.fFields))] rfl rfl <| rl rfl (n7 (e := l5) rfl rfl rfl rfl rfl rfl underlying46) <| b5 rfl) fun o28 => kc rfl rfl (fun hc => ?_) fun hc => ?_
  ·rw [hc]
   refine et d6 <| et (i9 rfl) <| kg FJ rfl (fun (o31 : Bool) => ⟨[(1, (Pt 1)), (3, (I x17)), (4, (I x26)), (69, (Bo o31))], [(1, vS 4 (b7 a0))], 95⟩) (rd 3 [(58, (V.ptr 1 0 2)), (59, (l7 a0.fTypes)), (60, (I x17))] rfl rfl <| rp rfl (i2 (e := j0) rfl rfl rfl underlying22 rfl (by decide)) fun v29 => bd 7 [(61, (Pr (j0 v29))), (62, (Pr (k0 v29.fFields))), (63, (k0 v29.fFields)), (64, (I x26))] rfl rfl <| rp rfl (i2 (e := l5) rfl rfl rfl underlying46 rfl (by decide)) fun v30 => b5 rfl) fun o31 => kcl rfl rfl (fun hc => ?_) fun hc => ?_
   ·rw [hc]
    refine kr ⟨[(2, (Bo true))], [], 95⟩ rfl <| et i1 <| et l6 <| et l8 <| et (hret _) ?_
    rfl
   ·rw [hc]
    exact et m9 <| et i6 <| kl ⟨[(1, (Pt 1)), (3, (I x17)), (4, (I (Go.IntKind.wrap .i64 (x26 + 1))))], [(1, vS 4 (b7 a0))], 95⟩ rfl <| et i3 <| ih (Go.IntKind.wrap .i64 (x26 + 1))
  ·rw [hc]
   exact et p7 <| et j3 <| hK0 x26
theorem kP (k : Nat) (a0 : a8)  (K0 : Int → Option Bool) (Kst : X × St → Option (V × List V)) (hK0 : ∀ (y0 : Int), Kst (X.exit 0, ⟨[(1, (Pt 1)), (3, (I y0)), (26, (Bo false))], [(1, vS 4 (b7 a0))], 95⟩) = (K0 y0).map J4) (hret : ∀ s, Kst (X.ret, s) = F6 prog 95 [(b7 a0)] [] [.tmp 2] (X.ret, s)) :
  ∀ (m : Nat) (x17 : Int), (D1 (u1 prog (EV k) f5n k Wf) m ⟨[(1, (Pt 1)), (3, (I x17))], [(1, vS 4 (b7 a0))], 95⟩).bind Kst = (M4 k a0 K0 m x17).map J4 := by
 intro m
 induction m with
 | zero => intros; rfl
 | succ m ih =>
  intro x17
  unfold M4
  refine et l9 <| et b6 <| krp Xl rfl ⟨[(1, (Pt 1)), (3, (I x17)), (26, (Bo (decide (x17 < (a0.fTypes.length : Int)))))], [(1, vS 4 (b7 a0))], 95⟩ ?_ ?_
  ·exact rd 3 [(22, (I x17)), (23, (V.ptr 1 0 2)), (24, (l7 a0.fTypes))] rfl rfl <| rl rfl (n7 (e := j0) rfl rfl rfl rfl rfl rfl underlying22) <| b5 rfl
  refine kc rfl rfl (fun hc => ?_) fun hc => ?_
  ·rw [hc]
   refine et d6 <| et (i9 rfl) <| et b6 <| kg aaz rfl (fun (o20 : Bool) => ⟨[(1, (Pt 1)), (3, (I x17)), (46, (Bo o20))], [(1, vS 4 (b7 a0))], 95⟩) ?_ fun o20 => ?_
   ·refine rd 3 [(29, (V.ptr 1 0 2)), (30, (l7 a0.fTypes)), (31, (I x17))] rfl rfl <| rp rfl (i2 (e := j0) rfl rfl rfl underlying22 rfl (by decide)) fun v18 => bd 6 [(32, (Pr (j0 v18))), (33, (Pr (k0 v18.fFields))), (34, (k0 v18.fFields))] rfl rfl <| rl rfl (n7 (e := l5) rfl rfl rfl rfl rfl rfl underlying46) <| bd 9 [(35, (I (v18.fFields.length : Int))), (36, (Bo (decide ((v18.fFields.length : Int) > 20)))), (37, (Bo (decide ((v18.fFields.length : Int) > 20))))] rfl rfl <| n5 (fun hc => ?_) fun hc => ?_
    ·rw [hc]
     exact d5 rfl
    ·rw [hc]
     exact rd 12 [(38, (V.ptr 1 0 2)), (39, (l7 a0.fTypes)), (40, (I x17))] rfl rfl <| rp rfl (i2 (e := j0) rfl rfl rfl underlying22 rfl (by decide)) fun v19 => b5 rfl
   refine kc rfl rfl (fun hc => ?_) fun hc => ?_
   ·rw [hc]
    refine et b6 <| kr ⟨[(2, (Bo true))], [], 95⟩ rfl <| et n6 <| et l6 <| et l8 <| et (hret _) ?_
    rfl
   ·rw [hc]
    refine et d6 <| kr ⟨[(1, (Pt 1)), (3, (I x17)), (4, (I 0))], [(1, vS 4 (b7 a0))], 95⟩ rfl <| et (G7 rfl) <| et p8 ?_
    refine mg k a0 x17 _ _ ?h_law12_Large_L2_0 ?hr_law12_Large_L2 k 0
    ·intro y32
     exact et j5 <| et m9 <| et i6 <| kl ⟨[(1, (Pt 1)), (3, (I (Go.IntKind.wrap .i64 (x17 + 1))))], [(1, vS 4 (b7 a0))], 95⟩ rfl <| et i3 <| ih (Go.IntKind.wrap .i64 (x17 + 1))
    ·intro s; exact hret s
  ·rw [hc]
   exact et p7 <| et j3 <| hK0 x17
theorem lA (k : Nat) (a0 : a8)  (K0 : Int → Option Bool) (Kst : X × St → Option (V × List V)) (hK0 : ∀ (y0 : Int), Kst (X.exit 4, ⟨[(1, (Pt 1)), (5, (I y0)), (74, (Bo false))], [(1, vS 4 (b7 a0))], 95⟩) = (K0 y0).map J4) (hret : ∀ s, Kst (X.ret, s) = F6 prog 95 [(b7 a0)] [] [.tmp 2] (X.ret, s)) :
  ∀ (m : Nat) (x37 : Int), (D1 (u1 prog (EV k) f5n k SR) m ⟨[(1, (Pt 1)), (5, (I x37))], [(1, vS 4 (b7 a0))], 95⟩).bind Kst = (M2 a0 K0 m x37).map J4 := by
 intro m
 induction m with
 | zero => intros; rfl
 | succ m ih =>
  intro x37
  unfold M2
  refine et l9 <| et b6 <| krp Fp rfl ⟨[(1, (Pt 1)), (5, (I x37)), (74, (Bo (decide (x37 < (a0.fIndexes.length : Int)))))], [(1, vS 4 (b7 a0))], 95⟩ ?_ ?_
  ·exact rd 3 [(70, (I x37)), (71, (V.ptr 1 0 3)), (72, (s8 a0.fIndexes))] rfl rfl <| rl rfl (n7 (e := s5) rfl rfl rfl rfl rfl rfl underlying23) <| b5 rfl
  refine kc rfl rfl (fun hc => ?_) fun hc => ?_
  ·rw [hc]
   refine et d6 <| et (i9 rfl) <| kg CZ rfl (fun (o40 : Bool) => ⟨[(1, (Pt 1)), (5, (I x37)), (94, (Bo o40))], [(1, vS 4 (b7 a0))], 95⟩) ?_ fun o40 => ?_
   ·refine rd 3 [(77, (V.ptr 1 0 3)), (78, (s8 a0.fIndexes)), (79, (I x37))] rfl rfl <| rp rfl (i2 (e := s5) rfl rfl rfl underlying23 rfl (by decide)) fun v38 => bd 9 [(80, (Pr (s5 v38))), (81, (Pr (Sr v38.fName))), (82, (Sr v38.fName)), (83, (I (v38.fName.length : Int))), (84, (Bo (decide ((v38.fName.length : Int) > 40)))), (85, (Bo (decide ((v38.fName.length : Int) > 40))))] rfl rfl <| n5 (fun hc => ?_) fun hc => ?_
    ·rw [hc]
     exact d5 rfl
    ·rw [hc]
     exact rd 12 [(86, (V.ptr 1 0 3)), (87, (s8 a0.fIndexes)), (88, (I x37))] rfl rfl <| rp rfl (i2 (e := s5) rfl rfl rfl underlying23 rfl (by decide)) fun v39 => b5 rfl
   refine kcl rfl rfl (fun hc => ?_) fun hc => ?_
   ·rw [hc]
    refine kr ⟨[(2, (Bo true))], [], 95⟩ rfl <| et i1 <| et l6 <| et l8 <| et (hret _) ?_
    rfl
   ·rw [hc]
    exact et m9 <| et i6 <| kl ⟨[(1, (Pt 1)), (5, (I (Go.IntKind.wrap .i64 (x37 + 1))))], [(1, vS 4 (b7 a0))], 95⟩ rfl <| et i3 <| ih (Go.IntKind.wrap .i64 (x37 + 1))
  ·rw [hc]
   exact et p7 <| et j3 <| hK0 x37
theorem oM (k : Nat) (a0 : a8) : EV k 5 [(b7 a0)] = (de k a0).map J4 := by
 cases k with
 | zero => rfl
 | succ k =>
  unfold de
  refine et (i5 (c := f5c) (N := 95) (regs := f5n) rfl func5 rfl (by decide) rfl rfl rfl) <| kr ⟨[(1, (Pt 1))], [(1, vS 4 (b7 a0))], 95⟩ rfl <| et b6 <| kga acb rfl (fun (o1 : Bool) => [(21, (Bo o1))]) ?_ fun o1 => ?_
  ·refine rd 2 [(6, (V.ptr 1 0 2)), (7, (l7 a0.fTypes))] rfl rfl <| rl rfl (n7 (e := j0) rfl rfl rfl rfl rfl rfl underlying22) <| bd 5 [(8, (I (a0.fTypes.length : Int))), (9, (Bo (decide ((a0.fTypes.length : Int) > 20)))), (10, (Bo (decide ((a0.fTypes.length : Int) > 20))))] rfl rfl <| n5 (fun hc => ?_) fun hc => ?_
   ·rw [hc]
    exact d5 rfl
   ·rw [hc]
    refine rd 7 [(11, (V.ptr 1 0 3)), (12, (s8 a0.fIndexes))] rfl rfl <| rl rfl (n7 (e := s5) rfl rfl rfl rfl rfl rfl underlying23) <| bd 11 [(13, (I (a0.fIndexes.length : Int))), (14, (Bo (decide ((a0.fIndexes.length : Int) > 20)))), (15, (Bo (decide ((a0.fIndexes.length : Int) > 20)))), (16, (Bo (decide ((a0.fIndexes.length : Int) > 20))))] rfl rfl <| n5 (fun hc => ?_) fun hc => ?_
    ·rw [hc]
     exact d5 rfl
    ·rw [hc]
     exact d5 rfl
  refine kc rfl rfl (fun hc => ?_) fun hc => ?_
  ·rw [hc]
   refine et b6 <| kr ⟨[(2, (Bo true))], [], 95⟩ rfl <| et n6 ?_
   rfl
  ·rw [hc]
   refine et d6 <| et b6 <| kr ⟨[(1, (Pt 1)), (3, (I 0))], [(1, vS 4 (b7 a0))], 95⟩ rfl <| et (i9 rfl) <| et p8 ?_
   refine kP k a0 _ _ ?h_law12_Large_L1_0 ?hr_law12_Large_L1 k 0
   ·intro y33
    refine et j5 <| et b6 <| kr ⟨[(1, (Pt 1)), (5, (I 0))], [(1, vS 4 (b7 a0))], 95⟩ rfl <| et (i9 rfl) <| et p8 ?_
    refine lA k a0 _ _ ?h_law12_Large_L3_0 ?hr_law12_Large_L3 k 0
    ·intro y41
     refine et j5 <| kr ⟨[(2, (Bo false))], [], 95⟩ rfl <| et i1 ?_
     rfl
    ·intro s; exact rfl
   ·intro s; exact rfl
def X2 : Bool → V × List V := fun r => ((Bo r), [])
theorem mZ (k : Nat) (a0 : (List (List a6))) (x19 : Int)  (K0 : Int → Option Bool) (Kst : X × St → Option (V × List V)) (hK0 : ∀ (y0 : Int), Kst (X.exit 2, ⟨[(0, (V.sl 0 1 (List.map a7 a0))), (3, (I x19)), (4, (I y0)), (23, (Bo false))], [], 51⟩) = (K0 y0).map X2) (hret : ∀ s, Kst (X.ret, s) = F6 prog 51 [(V.sl 0 1 (List.map a7 a0))] [] [.tmp 2] (X.ret, s)) :
  ∀ (m : Nat) (x29 : Int), (D1 (u1 prog (EV k) Bc k Fs) m ⟨[(0, (V.sl 0 1 (List.map a7 a0))), (3, (I x19)), (4, (I x29))], [], 51⟩).bind Kst = (R2 a0 x19 K0 m x29).map X2 := by
 intro m
 induction m with
 | zero => intros; rfl
 | succ m ih =>
  intro x29
  unfold R2
  refine et l9 <| et b6 <| kga DM rfl (fun (o31 : Bool) => [(23, (Bo o31))]) (rd 3 [(17, (I x29)), (18, (V.sl 0 1 (List.map a7 a0))), (19, (I x19))] rfl rfl <| rp rfl (i2 (e := a7) rfl rfl rfl underlying26 rfl (by decide)) fun v30 => bd 5 [(20, (Pr (a7 v30))), (21, (a7 v30))] rfl rfl <| rl rfl (n7 (e := d4) rfl rfl rfl rfl rfl rfl underlying56) <| b5 rfl) fun o31 => kc rfl rfl (fun hc => ?_) fun hc => ?_
  ·rw [hc]
   refine et d6 <| et (i9 rfl) <| kg Fq rfl (fun (o36 : Bool) => ⟨[(0, (V.sl 0 1 (List.map a7 a0))), (3, (I x19)), (4, (I x29)), (47, (Bo o36))], [], 51⟩) ?_ fun o36 => ?_
   ·refine rd 2 [(26, (V.sl 0 1 (List.map a7 a0))), (27, (I x19))] rfl rfl <| rp rfl (i2 (e := a7) rfl rfl rfl underlying26 rfl (by decide)) fun v32 => bd 5 [(28, (Pr (a7 v32))), (29, (a7 v32)), (30, (I x29))] rfl rfl <| rp rfl (i2 (e := d4) rfl rfl rfl underlying56 rfl (by decide)) fun v33 => bd 11 [(31, (Pr (d4 v33))), (32, (Pr (Sr v33.fField))), (33, (Sr v33.fField)), (34, (I (v33.fField.length : Int))), (35, (Bo (decide ((v33.fField.length : Int) > 100)))), (36, (Bo (decide ((v33.fField.length : Int) > 100))))] rfl rfl <| n5 (fun hc => ?_) fun hc => ?_
    ·rw [hc]
     exact d5 rfl
    ·rw [hc]
     exact rd 13 [(37, (V.sl 0 1 (List.map a7 a0))), (38, (I x19))] rfl rfl <| rp rfl (i2 (e := a7) rfl rfl rfl underlying26 rfl (by decide)) fun v34 => bd 16 [(39, (Pr (a7 v34))), (40, (a7 v34)), (41, (I x29))] rfl rfl <| rp rfl (i2 (e := d4) rfl rfl rfl underlying56 rfl (by decide)) fun v35 => b5 rfl
   refine kcl rfl rfl (fun hc => ?_) fun hc => ?_
   ·rw [hc]
    refine kr ⟨[(2, (Bo true))], [], 51⟩ rfl <| et i1 <| et l6 <| et l8 <| et (hret _) ?_
    rfl
   ·rw [hc]
    exact et m9 <| et i6 <| kl ⟨[(0, (V.sl 0 1 (List.map a7 a0))), (3, (I x19)), (4, (I (Go.IntKind.wrap .i64 (x29 + 1))))], [], 51⟩ rfl <| et i3 <| ih (Go.IntKind.wrap .i64 (x29 + 1))
  ·rw [hc]
   exact et p7 <| et j3 <| hK0 x29
theorem nv (k : Nat) (a0 : (List (List a6)))  (K0 : Int → Option Bool) (Kst : X × St → Option (V × List V)) (hK0 : ∀ (y0 : Int), Kst (X.exit 0, ⟨[(0, (V.sl 0 1 (List.map a7 a0))), (3, (I y0)), (8, (Bo false))], [], 51⟩) = (K0 y0).map X2) (hret : ∀ s, Kst (X.ret, s) = F6 prog 51 [(V.sl 0 1 (List.map a7 a0))] [] [.tmp 2] (X.ret, s)) :
  ∀ (m : Nat) (x19 : Int), (D1 (u1 prog (EV k) Bc k FD) m ⟨[(0, (V.sl 0 1 (List.map a7 a0))), (3, (I x19))], [], 51⟩).bind Kst = (Q7 k a0 K0 m x19).map X2 := by
 intro m
 induction m with
 | zero => intros; rfl
 | succ m ih =>
  intro x19
  unfold Q7
  refine et l9 <| et b6 <| krp Ca rfl ⟨[(0, (V.sl 0 1 (List.map a7 a0))), (3, (I x19)), (8, (Bo (decide (x19 < (a0.length : Int)))))], [], 51⟩ ?_ ?_
  ·exact rd 2 [(5, (I x19)), (6, (V.sl 0 1 (List.map a7 a0)))] rfl rfl <| rl rfl (n7 (e := a7) rfl rfl rfl rfl rfl rfl underlying26) <| b5 rfl
  refine kc rfl rfl (fun hc => ?_) fun hc => ?_
  ·rw [hc]
   refine et d6 <| et (i9 rfl) <| et b6 <| kg Ce rfl (fun (o21 : Bool) => ⟨[(0, (V.sl 0 1 (List.map a7 a0))), (3, (I x19)), (16, (Bo o21))], [], 51⟩) (rd 2 [(11, (V.sl 0 1 (List.map a7 a0))), (12, (I x19))] rfl rfl <| rp rfl (i2 (e := a7) rfl rfl rfl underlying26 rfl (by decide)) fun v20 => bd 4 [(13, (Pr (a7 v20))), (14, (a7 v20))] rfl rfl <| rl rfl (n7 (e := d4) rfl rfl rfl rfl rfl rfl underlying56) <| b5 rfl) fun o21 => kc rfl rfl (fun hc => ?_) fun hc => ?_
   ·rw [hc]
    refine et b6 <| kr ⟨[(2, (Bo true))], [], 51⟩ rfl <| et n6 <| et l6 <| et l8 <| et (hret _) ?_
    rfl
   ·rw [hc]
    refine et d6 <| kr ⟨[(0, (V.sl 0 1 (List.map a7 a0))), (3, (I x19)), (4, (I 0))], [], 51⟩ rfl <| et (G7 rfl) <| et p8 ?_
    refine mZ k a0 x19 _ _ ?h_law12_Long_L2_0 ?hr_law12_Long_L2 k 0
    ·intro y37
     exact et j5 <| et m9 <| et i6 <| kl ⟨[(0, (V.sl 0 1 (List.map a7 a0))), (3, (I (Go.IntKind.wrap .i64 (x19 + 1))))], [], 51⟩ rfl <| et i3 <| ih (Go.IntKind.wrap .i64 (x19 + 1))
    ·intro s; exact hret s
  ·rw [hc]
   exact et p7 <| et j3 <| hK0 x19
theorem qt (k : Nat) (a0 : (List (List a6))) : EV k 20 [(V.sl 0 1 (List.map a7 a0))] = (eV k a0).map X2 := by
 cases k with
 | zero => rfl
 | succ k =>
  unfold eV
  refine et (i5 (c := f20c) (N := 51) (regs := Bc) rfl func20 rfl (by decide) rfl rfl rfl) <| kra [] rfl <| et b6 <| kra [(3, (I 0))] rfl <| et (i9 rfl) <| et p8 ?_
  refine nv k a0 _ _ ?h_law12_Long_L1_0 ?hr_law12_Long_L1 k 0
  ·intro y38
   refine et j5 <| krp yf rfl ⟨[(2, (Bo (decide ((a0.length : Int) > 20))))], [], 51⟩ ?_ ?_
   ·exact rd 1 [(48, (V.sl 0 1 (List.map a7 a0)))] rfl rfl <| rl rfl (n7 (e := a7) rfl rfl rfl rfl rfl rfl underlying26) <| b5 rfl
   refine et i1 ?_
   rfl
  ·intro s; exact rfl
def eG : Bool → V × List V := fun r => ((Bo r), [])
theorem mw (k : Nat) (a0 : (List b8))  (K0 : Int → Option Bool) (Kst : X × St → Option (V × List V)) (hK0 : ∀ (y0 : Int), Kst (X.exit 0, ⟨[(0, (u5 a0)), (3, (I y0)), (7, (Bo false))], [], 37⟩) = (K0 y0).map eG) (hret : ∀ s, Kst (X.ret, s) = F6 prog 37 [(u5 a0)] [] [.tmp 2] (X.ret, s)) :
  ∀ (m : Nat) (x6 : Int), (D1 (u1 prog (EV k) f6n k Rk) m ⟨[(0, (u5 a0)), (3, (I x6))], [], 37⟩).bind Kst = (Q9 k a0 K0 m x6).map eG := by
 intro m
 induction m with
 | zero => intros; rfl
 | succ m ih =>
  intro x6
  unfold Q9
  refine et l9 <| et b6 <| krp WO rfl ⟨[(0, (u5 a0)), (3, (I x6)), (7, (Bo (decide (x6 < (a0.length : Int)))))], [], 37⟩ ?_ ?_
  ·exact rd 2 [(4, (I x6)), (5, (u5 a0))] rfl rfl <| rl rfl (n7 (e := j4) rfl rfl rfl rfl rfl rfl underlying31) <| b5 rfl
  refine kc rfl rfl (fun hc => ?_) fun hc => ?_
  ·rw [hc]
   refine et d6 <| et (i9 rfl) <| kg adi rfl (fun (o11 : Bool) => ⟨[(0, (u5 a0)), (3, (I x6)), (33, (Bo o11))], [], 37⟩) ?_ fun o11 => ?_
   ·refine rd 2 [(10, (u5 a0)), (11, (I x6))] rfl rfl <| rp rfl (i2 (e := j4) rfl rfl rfl underlying31 rfl (by decide)) fun v7 => bd 8 [(12, (Pr (j4 v7))), (13, (Pr (Sr v7.fSegment))), (14, (Sr v7.fSegment)), (15, (I (v7.fSegment.length : Int))), (16, (Bo (decide ((v7.fSegment.length : Int) > 100)))), (17, (Bo (decide ((v7.fSegment.length : Int) > 100))))] rfl rfl <| n5 (fun hc => ?_) fun hc => ?_
    ·rw [hc]
     exact d5 rfl
    ·rw [hc]
     refine rd 10 [(18, (u5 a0)), (19, (I x6))] rfl rfl <| rp rfl (i2 (e := j4) rfl rfl rfl underlying31 rfl (by decide)) fun v8 => bd 17 [(20, (Pr (j4 v8))), (21, (Pr (Sr v8.fCodes))), (22, (Sr v8.fCodes)), (23, (I (v8.fCodes.length : Int))), (24, (Bo (decide ((v8.fCodes.length : Int) > 100)))), (25, (Bo (decide ((v8.fCodes.length : Int) > 100)))), (26, (Bo (decide ((v8.fCodes.length : Int) > 100))))] rfl rfl <| n5 (fun hc => ?_) fun hc => ?_
     ·rw [hc]
      exact d5 rfl
     ·rw [hc]
      exact rd 19 [(27, (u5 a0)), (28, (I x6))] rfl rfl <| rp rfl (i2 (e := j4) rfl rfl rfl underlying31 rfl (by decide)) fun v9 => bd 22 [(29, (Pr (j4 v9))), (30, (Pr (V.sl 0 1 (List.map a7 v9.fWhen)))), (31, (V.sl 0 1 (List.map a7 v9.fWhen)))] rfl rfl <| rs rfl (d7 rfl rfl rfl rfl rfl (qt k v9.fWhen) (.inl rfl)) fun v10 => b5 rfl
   refine kcl rfl rfl (fun hc => ?_) fun hc => ?_
   ·rw [hc]
    refine kr ⟨[(2, (Bo true))], [], 37⟩ rfl <| et i1 <| et l6 <| et l8 <| et (hret _) ?_
    rfl
   ·rw [hc]
    exact et m9 <| et i6 <| kl ⟨[(0, (u5 a0)), (3, (I (Go.IntKind.wrap .i64 (x6 + 1))))], [], 37⟩ rfl <| et i3 <| ih (Go.IntKind.wrap .i64 (x6 + 1))
  ·rw [hc]
   exact et p7 <| et j3 <| hK0 x6
theorem qh (k : Nat) (a0 : (List b8)) : EV k 6 [(u5 a0)] = (eQ k a0).map eG := by
 cases k with
 | zero => rfl
 | succ k =>
  unfold eQ
  refine et (i5 (c := f6c) (N := 37) (regs := f6n) rfl func6 rfl (by decide) rfl rfl rfl) <| kra [] rfl <| et b6 <| kra [(3, (I 0))] rfl <| et (i9 rfl) <| et p8 ?_
  refine mw k a0 _ _ ?h_law14_Long_L1_0 ?hr_law14_Long_L1 k 0
  ·intro y12
   refine et j5 <| krp Zr rfl ⟨[(2, (Bo (decide ((a0.length : Int) > 20))))], [], 37⟩ ?_ ?_
   ·exact rd 1 [(34, (u5 a0))] rfl rfl <| rl rfl (n7 (e := j4) rfl rfl rfl rfl rfl rfl underlying31) <| b5 rfl
   refine et i1 ?_
   rfl
  ·intro s; exact rfl
def pn : a8 → V × List V := fun r => ((b7 r), [])
theorem jP (k : Nat)  : EV k 21 [] = (bK k).map pn := by
 cases k with
 | zero => rfl
 | succ k =>
  unfold bK
  refine et (i5 (c := f21c) (N := 9) (regs := UR) rfl func21 rfl (by decide) rfl rfl rfl) <| kr ⟨[(0, (Pt 0))], [(0, ⟨false, 4, [(V.agg [(Sr []), (I 0), (V.sl 2 8 (List.map j0 ([] : List b9))), (V.sl 2 4 (List.map s5 ([] : List j1)))])]⟩)], 9⟩ rfl <| kr ⟨[(0, (Pt 0))], [(0, ⟨false, 4, [(b7 ({ fName := ([83, 72, 79, 80] : Str), fKind := 4, fTypes := ([({ fName := ([67, 85, 83, 84] : Str), fParent := (-1), fMin := 4, fSize := 10, fFields := ([({ fName := ([67, 85, 83, 84, 78, 79] : Str), fAt := 0, fBytes := 4 } : i4)] : List i4), fKey := 0, fUnique := true, fLast := false } : b9), ({ fName := ([79, 82, 68, 69, 82] : Str), fParent := 0, fMin := 4, fSize := 8, fFields := ([({ fName := ([79, 82, 68, 78, 79] : Str), fAt := 0, fBytes := 4 } : i4)] : List i4), fKey := 0, fUnique := false, fLast := false } : b9)] : List b9), fIndexes := ([] : List j1) } : a8))]⟩)], 9⟩ rfl <| et i1 ?_
  rfl
def ex : Bool → V × List V := fun r => ((Bo r), [])
theorem mU (k : Nat) (a0 : Str)  (K0 : Int → Option Bool) (Kst : X × St → Option (V × List V)) (hK0 : ∀ (y0 : Int), Kst (X.exit 0, ⟨[(0, (Sr a0)), (6, (I (a0.length : Int))), (7, (I y0)), (8, (Bo false))], [], 47⟩) = (K0 y0).map ex) (hret : ∀ s, Kst (X.ret, s) = F6 prog 47 [(Sr a0)] [] [.tmp 2] (X.ret, s)) :
  ∀ (m : Nat) (x7 : Int), (D1 (u1 prog (EV k) Nf k Fe) m ⟨[(0, (Sr a0)), (6, (I (a0.length : Int))), (7, (I x7))], [], 47⟩).bind Kst = (H7 a0 K0 m x7).map ex := by
 intro m
 induction m with
 | zero => intros; rfl
 | succ m ih =>
  intro x7
  unfold H7
  refine et l9 <| kra [(8, (Bo (decide (x7 < (a0.length : Int)))))] rfl <| kc rfl rfl (fun hc => ?_) fun hc => ?_
  ·rw [hc]
   refine et d6 <| et (i9 rfl) <| kr ⟨[(0, (Sr a0)), (3, (I x7)), (6, (I (a0.length : Int))), (7, (I x7))], [], 47⟩ rfl <| kg Dv rfl (fun (o10 : Bool) => ⟨[(0, (Sr a0)), (3, (I x7)), (4, (Bo o10)), (6, (I (a0.length : Int))), (7, (I x7))], [], 47⟩) ?_ fun o10 => ?_
   ·refine rd 2 [(10, (Sr a0)), (11, (I x7))] rfl rfl <| rp rfl (w7 rfl rfl rfl underlying9) fun v8 => bd 5 [(12, (V.int .u8 v8)), (13, (Bo (decide (v8 ≥ 65)))), (14, (Bo (decide (v8 ≥ 65))))] rfl rfl <| n5 (fun hc => ?_) fun hc => ?_
    ·rw [hc]
     exact rd 7 [(15, (Sr a0)), (16, (I x7))] rfl rfl <| rp rfl (w7 rfl rfl rfl underlying9) fun v9 => b5 rfl
    ·rw [hc]
     exact d5 rfl
   refine kg Dm rfl (fun (o13 : Bool) => ⟨[(0, (Sr a0)), (6, (I (a0.length : Int))), (7, (I x7)), (37, (Bo o13))], [], 47⟩) ?_ fun o13 => ?_
   ·refine rd 3 [(20, (Bo o10)), (21, (Bo (!o10))), (22, (Bo (!o10)))] rfl rfl <| n5 (fun hc => ?_) fun hc => ?_
    ·rw [hc]
     refine rd 6 [(23, (I x7)), (24, (Bo (x7 == 0))), (25, (Bo (x7 == 0)))] rfl rfl <| n5 (fun hc => ?_) fun hc => ?_
     ·rw [hc]
      exact d5 rfl
     ·rw [hc]
      refine rd 8 [(26, (Sr a0)), (27, (I x7))] rfl rfl <| rp rfl (w7 rfl rfl rfl underlying9) fun v11 => bd 12 [(28, (V.int .u8 v11)), (29, (Bo (decide (v11 < 48)))), (30, (Bo (decide (v11 < 48)))), (31, (Bo (decide (v11 < 48))))] rfl rfl <| n5 (fun hc => ?_) fun hc => ?_
      ·rw [hc]
       exact d5 rfl
      ·rw [hc]
       exact rd 14 [(32, (Sr a0)), (33, (I x7))] rfl rfl <| rp rfl (w7 rfl rfl rfl underlying9) fun v12 => b5 rfl
    ·rw [hc]
     exact d5 rfl
   refine kcl rfl rfl (fun hc => ?_) fun hc => ?_
   ·rw [hc]
    refine kr ⟨[(2, (Bo false))], [], 47⟩ rfl <| et i1 <| et l6 <| et l8 <| et (hret _) ?_
    rfl
   ·rw [hc]
    exact et m9 <| et i6 <| kl ⟨[(0, (Sr a0)), (6, (I (a0.length : Int))), (7, (I (Go.IntKind.wrap .i64 (x7 + 1))))], [], 47⟩ rfl <| et i3 <| ih (Go.IntKind.wrap .i64 (x7 + 1))
  ·rw [hc]
   exact et p7 <| et j3 <| hK0 x7
theorem ck (k : Nat) (a0 : Str) : EV k 50 [(Sr a0)] = (U0 k a0).map ex := by
 cases k with
 | zero => rfl
 | succ k =>
  unfold U0
  refine et (i5 (c := f50c) (N := 47) (regs := Nf) rfl func50 rfl (by decide) rfl rfl rfl) <| kra [] rfl <| et b6 <| kra [(6, (I (a0.length : Int))), (7, (I 0))] rfl <| et (i9 rfl) <| et p8 ?_
  refine mU k a0 _ _ ?h_dbd_IsName_L1_0 ?hr_dbd_IsName_L1 k 0
  ·intro y14
   refine et j5 <| kg FL rfl (fun (o15 : Bool) => ⟨[(2, (Bo o15))], [], 47⟩) ?_ fun o15 => ?_
   ·refine rd 4 [(39, (Sr a0)), (40, (I (a0.length : Int))), (41, (Bo (decide ((a0.length : Int) ≥ 1)))), (42, (Bo (decide ((a0.length : Int) ≥ 1))))] rfl rfl <| n5 (fun hc => ?_) fun hc => ?_
    ·rw [hc]
     exact d5 rfl
    ·rw [hc]
     exact d5 rfl
   refine et i1 ?_
   rfl
  ·intro s; exact rfl
def M7 : Int → V × List V := fun r => ((I r), [])
theorem dp (k : Nat) (a0 : (List i4)) (a1 : Nat → i4 → Option Bool) (a1_fid : Go.FuncId) (a1_c0 : V) (a1_hok : ∀ j x0, EV j a1_fid [(l5 x0), V.pro a1_c0] = (a1 j x0).map fun b => ((Bo b), [])) (K0 : Int → Option Int) (Kst : X × St → Option (V × List V)) (hK0 : ∀ (y0 : Int), Kst (X.exit 0, ⟨[(0, (k0 a0)), (1, (V.fn a1_fid [] [V.pro a1_c0])), (7, (I (a0.length : Int))), (8, (I y0)), (9, (Bo false))], [], 19⟩) = (K0 y0).map M7) (hret : ∀ s, Kst (X.ret, s) = F6 prog 19 [(k0 a0), (V.fn a1_fid [] [V.pro a1_c0])] [] [.tmp 4] (X.ret, s)) :
  ∀ (m : Nat) (x4 : Int), (D1 (u1 prog (EV k) zI k wN) m ⟨[(0, (k0 a0)), (1, (V.fn a1_fid [] [V.pro a1_c0])), (7, (I (a0.length : Int))), (8, (I x4))], [], 19⟩).bind Kst = (C8 k a0 a1 K0 m x4).map M7 := by
 intro m
 induction m with
 | zero => intros; rfl
 | succ m ih =>
  intro x4
  unfold C8
  refine et l9 <| kra [(9, (Bo (decide (x4 < (a0.length : Int)))))] rfl <| kc rfl rfl (fun hc => ?_) fun hc => ?_
  ·rw [hc]
   refine et d6 <| et (i9 rfl) <| kr ⟨[(0, (k0 a0)), (1, (V.fn a1_fid [] [V.pro a1_c0])), (5, (I x4)), (7, (I (a0.length : Int))), (8, (I x4))], [], 19⟩ rfl <| kga zj rfl (fun (o7 : Bool) => [(16, (Bo o7))]) (rd 3 [(11, (V.fn a1_fid [] [V.pro a1_c0])), (12, (k0 a0)), (13, (I x4))] rfl rfl <| rp rfl (i2 (e := l5) rfl rfl rfl underlying46 rfl (by decide)) fun v5 => bd 5 [(14, (Pr (l5 v5))), (15, (l5 v5))] rfl rfl <| rs rfl (d7 rfl rfl rfl rfl rfl (a1_hok k v5) (.inl rfl)) fun v6 => b5 rfl) fun o7 => kcl rfl rfl (fun hc => ?_) fun hc => ?_
   ·rw [hc]
    refine kr ⟨[(4, (I x4))], [], 19⟩ rfl <| et i1 <| et l6 <| et l8 <| et (hret _) ?_
    rfl
   ·rw [hc]
    exact et m9 <| et i6 <| kl ⟨[(0, (k0 a0)), (1, (V.fn a1_fid [] [V.pro a1_c0])), (7, (I (a0.length : Int))), (8, (I (Go.IntKind.wrap .i64 (x4 + 1))))], [], 19⟩ rfl <| et i3 <| ih (Go.IntKind.wrap .i64 (x4 + 1))
  ·rw [hc]
   exact et p7 <| et j3 <| hK0 x4
theorem ah (k : Nat) (a0 : (List i4)) (a1 : Nat → i4 → Option Bool) (a1_fid : Go.FuncId) (a1_c0 : V) (a1_hok : ∀ j x0, EV j a1_fid [(l5 x0), V.pro a1_c0] = (a1 j x0).map fun b => ((Bo b), [])) : EV k 133 [(k0 a0), (V.fn a1_fid [] [V.pro a1_c0])] = (C6 k a0 a1).map M7 := by
 cases k with
 | zero => rfl
 | succ k =>
  unfold C6
  refine et (i5 (c := ZF) (N := 19) (regs := zI) rfl func133 rfl (by decide) rfl rfl rfl) <| kra [] rfl <| et b6 <| krp zd rfl ⟨[(0, (k0 a0)), (1, (V.fn a1_fid [] [V.pro a1_c0])), (7, (I (a0.length : Int))), (8, (I 0))], [], 19⟩ ?_ ?_
  ·exact rd 1 [(6, (k0 a0))] rfl rfl <| rl rfl (n7 (e := l5) rfl rfl rfl rfl rfl rfl underlying46) <| b5 rfl
  refine et (i9 rfl) <| et p8 ?_
  refine dp k a0 a1 a1_fid a1_c0 a1_hok _ _ ?h_slices_IndexFunc_Field_L1_0 ?hr_slices_IndexFunc_Field_L1 k 0
  ·intro y8
   refine et j5 <| kr ⟨[(4, (I (-1)))], [], 19⟩ rfl <| et i1 ?_
   rfl
  ·intro s; exact rfl
def cF : Bool → V × List V := fun r => ((Bo r), [])
theorem dh (k : Nat) (a0 : (List i4)) (a1 : Nat → i4 → Option Bool) (a1_fid : Go.FuncId) (a1_c0 : V) (a1_hok : ∀ j x0, EV j a1_fid [(l5 x0), V.pro a1_c0] = (a1 j x0).map fun b => ((Bo b), [])) : EV k 127 [(k0 a0), (V.fn a1_fid [] [V.pro a1_c0])] = (A6 k a0 a1).map cF := by
 cases k with
 | zero => rfl
 | succ k =>
  unfold A6
  refine et (i5 (c := aa1) (N := 9) (regs := EB) rfl func127 rfl (by decide) rfl rfl rfl) <| kra [] rfl <| kg yn rfl (fun (o2 : Bool) => ⟨[(4, (Bo o2))], [], 9⟩) (rd 2 [(5, (k0 a0)), (6, (V.fn a1_fid [] [V.pro a1_c0]))] rfl rfl <| rp rfl (d7 rfl rfl rfl rfl rfl (ah k a0 a1 a1_fid a1_c0 a1_hok) (.inl rfl)) fun v1 => b5 rfl) fun o2 => et i1 ?_
  rfl
def jK : Bool → V × List V := fun r => ((Bo r), [])
theorem kA (k : Nat) (a0 : i4) (a1 : i4) : EV k 128 [(l5 a0), (Pr (l5 a1))] = (U4 k a0 a1).map jK := by
 cases k with
 | zero => rfl
 | succ k =>
  unfold U4
  refine et (i5 (c := acv) (N := 9) (regs := Fu) rfl func128 rfl (by decide) rfl rfl rfl) <| kr ⟨[(1, (Pr (l5 a1))), (2, (Pt 2))], [(2, vS 3 (l5 a0))], 9⟩ rfl <| kr ⟨[(3, (Bo (a0.fName == a1.fName)))], [], 9⟩ rfl <| et i1 ?_
  rfl
def bm : Bool → V × List V := fun r => ((Bo r), [])
theorem jy (k : Nat) (a0 : (List i4)) (a1 : Int)  (K0 : Int → Option Bool) (Kst : X × St → Option (V × List V)) (hK0 : ∀ (y0 : Int), Kst (X.exit 0, ⟨[(0, (k0 a0)), (1, (I a1)), (7, (k0 a0)), (8, (I (a0.length : Int))), (9, (I y0)), (10, (Bo false))], [], 52⟩) = (K0 y0).map bm) (hret : ∀ s, Kst (X.ret, s) = F6 prog 52 [(k0 a0), (I a1)] [] [.tmp 4] (X.ret, s)) :
  ∀ (m : Nat) (x8 : Int), (D1 (u1 prog (EV k) zo k xM) m ⟨[(0, (k0 a0)), (1, (I a1)), (7, (k0 a0)), (8, (I (a0.length : Int))), (9, (I x8))], [], 52⟩).bind Kst = (H5 k a0 a1 K0 m x8).map bm := by
 intro m
 induction m with
 | zero => intros; rfl
 | succ m ih =>
  intro x8
  unfold H5
  refine et l9 <| kra [(10, (Bo (decide (x8 < (a0.length : Int)))))] rfl <| kc rfl rfl (fun hc => ?_) fun hc => ?_
  ·rw [hc]
   refine et d6 <| et (i9 rfl) <| kg wQ rfl (fun (o10 : Int × i4) => ⟨[(0, (k0 a0)), (1, (I a1)), (5, (I o10.1)), (6, (Pt 6)), (7, (k0 a0)), (8, (I (a0.length : Int))), (9, (I x8))], [(6, vS 3 (l5 o10.2))], 52⟩) (rd 1 [(11, (I x8))] rfl rfl <| rp rfl (i2 (e := l5) rfl rfl rfl underlying46 rfl (by decide)) fun v9 => b5 rfl) fun o10 => et b6 <| kga xg rfl (fun (o12 : Bool) => [(42, (Bo o12))]) ?_ fun o12 => ?_
   ·refine rd 2 [(14, (Pt 6)), (15, (Sr o10.2.fName))] rfl rfl <| rp rfl (d7 rfl rfl rfl rfl rfl (ck k o10.2.fName) (.inl rfl)) fun v11 => bd 5 [(16, (Bo v11)), (17, (Bo (!v11))), (18, (Bo (!v11)))] rfl rfl <| n5 (fun hc => ?_) fun hc => ?_
    ·rw [hc]
     exact d5 rfl
    ·rw [hc]
     refine rd 10 [(19, (V.ptr 6 0 1)), (20, (I o10.2.fAt)), (21, (Bo (decide (o10.2.fAt < 0)))), (22, (Bo (decide (o10.2.fAt < 0)))), (23, (Bo (decide (o10.2.fAt < 0))))] rfl rfl <| n5 (fun hc => ?_) fun hc => ?_
     ·rw [hc]
      exact d5 rfl
     ·rw [hc]
      refine rd 16 [(24, (V.ptr 6 0 1)), (25, (I o10.2.fAt)), (26, (I a1)), (27, (Bo (decide (o10.2.fAt ≥ a1)))), (28, (Bo (decide (o10.2.fAt ≥ a1)))), (29, (Bo (decide (o10.2.fAt ≥ a1))))] rfl rfl <| n5 (fun hc => ?_) fun hc => ?_
      ·rw [hc]
       exact d5 rfl
      ·rw [hc]
       refine rd 21 [(30, (V.ptr 6 0 2)), (31, (I o10.2.fBytes)), (32, (Bo (decide (o10.2.fBytes < 1)))), (33, (Bo (decide (o10.2.fBytes < 1)))), (34, (Bo (decide (o10.2.fBytes < 1))))] rfl rfl <| n5 (fun hc => ?_) fun hc => ?_
       ·rw [hc]
        exact d5 rfl
       ·rw [hc]
        exact d5 rfl
   refine kc rfl rfl (fun hc => ?_) fun hc => ?_
   ·rw [hc]
    refine et b6 <| kr ⟨[(4, (Bo false))], [], 52⟩ rfl <| et n6 <| et l6 <| et l8 <| et (hret _) ?_
    rfl
   ·rw [hc]
    refine et d6 <| kg yb rfl (fun (o15 : Bool) => ⟨[(0, (k0 a0)), (1, (I a1)), (7, (k0 a0)), (8, (I (a0.length : Int))), (9, (I x8)), (47, (Bo o15))], [], 52⟩) (rd 2 [(43, (k0 a0)), (44, (I o10.1))] rfl rfl <| rp rfl (sA (e := l5) rfl rfl rfl rfl rfl rfl underlying46 rfl (by decide)) fun v13 => bd 4 [(45, (k0 v13)), (46, (V.fn 128 [] [(Pt 6)]))] rfl rfl <| rs rfl (d7 rfl rfl rfl rfl rfl (dh k v13 (fun j x0 => (U4 j x0 o10.2)) 128 (l5 o10.2) (fun j x0 => (kA j x0 o10.2))) (.inr (fun _ => rfl))) fun v14 => b5 rfl) fun o15 => kcl rfl rfl (fun hc => ?_) fun hc => ?_
    ·rw [hc]
     refine kr ⟨[(4, (Bo false))], [], 52⟩ rfl <| et i1 <| et l6 <| et l8 <| et (hret _) ?_
     rfl
    ·rw [hc]
     exact et m9 <| et i6 <| kl ⟨[(0, (k0 a0)), (1, (I a1)), (7, (k0 a0)), (8, (I (a0.length : Int))), (9, (I (Go.IntKind.wrap .i64 (x8 + 1))))], [], 52⟩ rfl <| et i3 <| ih (Go.IntKind.wrap .i64 (x8 + 1))
  ·rw [hc]
   exact et p7 <| et j3 <| hK0 x8
theorem nl (k : Nat) (a0 : (List i4)) (a1 : Int) : EV k 113 [(k0 a0), (I a1)] = (ak k a0 a1).map bm := by
 cases k with
 | zero => rfl
 | succ k =>
  unfold ak
  refine et (i5 (c := SE) (N := 52) (regs := zo) rfl func113 rfl (by decide) rfl rfl rfl) <| kra [] rfl <| et b6 <| krp yd rfl ⟨[(0, (k0 a0)), (1, (I a1)), (7, (k0 a0)), (8, (I (a0.length : Int))), (9, (I 0))], [], 52⟩ ?_ ?_
  ·exact rd 1 [(7, (k0 a0))] rfl rfl <| rl rfl (n7 (e := l5) rfl rfl rfl rfl rfl rfl underlying46) <| b5 rfl
  refine et (i9 rfl) <| et p8 ?_
  refine jy k a0 a1 _ _ ?h_dbd_areFields_L1_0 ?hr_dbd_areFields_L1 k 0
  ·intro y16
   refine et j5 <| krp AH rfl ⟨[(4, (Bo (decide ((a0.length : Int) ≤ 5))))], [], 52⟩ ?_ ?_
   ·exact rd 1 [(49, (k0 a0))] rfl rfl <| rl rfl (n7 (e := l5) rfl rfl rfl rfl rfl rfl underlying46) <| b5 rfl
   refine et i1 ?_
   rfl
  ·intro s; exact rfl
def oH : Bool → V × List V := fun r => ((Bo r), [])
theorem qe (k : Nat) (a0 : b9) : EV k 80 [(j0 a0)] = (eZ k a0).map oH := by
 cases k with
 | zero => rfl
 | succ k =>
  unfold eZ
  refine et (i5 (c := f80c) (N := 70) (regs := RU) rfl func80 rfl (by decide) rfl rfl rfl) <| kr ⟨[(1, (Pt 1))], [(1, vS 8 (j0 a0))], 70⟩ rfl <| et (i9 rfl) <| kga CH rfl (fun (o3 : Bool) => [(3, (Bo o3))]) ?_ fun o3 => ?_
  ·refine rd 2 [(4, (Pt 1)), (5, (Sr a0.fName))] rfl rfl <| rp rfl (d7 rfl rfl rfl rfl rfl (ck k a0.fName) (.inl rfl)) fun v1 => bd 5 [(6, (Bo v1)), (7, (Bo (!v1))), (8, (Bo (!v1)))] rfl rfl <| n5 (fun hc => ?_) fun hc => ?_
   ·rw [hc]
    exact d5 rfl
   ·rw [hc]
    refine rd 10 [(9, (V.ptr 1 0 2)), (10, (I a0.fMin)), (11, (Bo (decide (a0.fMin < 1)))), (12, (Bo (decide (a0.fMin < 1)))), (13, (Bo (decide (a0.fMin < 1))))] rfl rfl <| n5 (fun hc => ?_) fun hc => ?_
    ·rw [hc]
     exact d5 rfl
    ·rw [hc]
     refine rd 17 [(14, (V.ptr 1 0 2)), (15, (I a0.fMin)), (16, (V.ptr 1 0 3)), (17, (I a0.fSize)), (18, (Bo (decide (a0.fMin > a0.fSize)))), (19, (Bo (decide (a0.fMin > a0.fSize)))), (20, (Bo (decide (a0.fMin > a0.fSize))))] rfl rfl <| n5 (fun hc => ?_) fun hc => ?_
     ·rw [hc]
      exact d5 rfl
     ·rw [hc]
      refine rd 22 [(21, (V.ptr 1 0 3)), (22, (I a0.fSize)), (23, (Bo (decide (a0.fSize > 40)))), (24, (Bo (decide (a0.fSize > 40)))), (25, (Bo (decide (a0.fSize > 40))))] rfl rfl <| n5 (fun hc => ?_) fun hc => ?_
      ·rw [hc]
       exact d5 rfl
      ·rw [hc]
       exact rd 26 [(26, (V.ptr 1 0 4)), (27, (k0 a0.fFields)), (28, (V.ptr 1 0 3)), (29, (I a0.fSize))] rfl rfl <| rp rfl (d7 rfl rfl rfl rfl rfl (nl k a0.fFields a0.fSize) (.inl rfl)) fun v2 => b5 rfl
  refine kcl rfl rfl (fun hc => ?_) fun hc => ?_
  ·rw [hc]
   refine kr ⟨[(2, (Bo false))], [], 70⟩ rfl <| et i1 <| et l6 ?_
   rfl
  ·rw [hc]
   refine kr ⟨[(1, (Pt 1)), (33, (Bo (a0.fKey == (-1))))], [(1, vS 8 (j0 a0))], 70⟩ rfl <| kcl rfl rfl (fun hc => ?_) fun hc => ?_
   ·rw [hc]
    refine kr ⟨[(2, (Bo (!a0.fUnique)))], [], 70⟩ rfl <| et i1 <| et l6 ?_
    rfl
   ·rw [hc]
    refine kg BK rfl (fun (o4 : Bool) => ⟨[(1, (Pt 1)), (40, (Bo o4))], [(1, vS 8 (j0 a0))], 70⟩) ?_ fun o4 => ?_
    ·refine rd 4 [(41, (V.ptr 1 0 5)), (42, (I a0.fKey)), (43, (Bo (decide (a0.fKey < 0)))), (44, (Bo (decide (a0.fKey < 0))))] rfl rfl <| n5 (fun hc => ?_) fun hc => ?_
     ·rw [hc]
      exact d5 rfl
     ·rw [hc]
      exact rd 8 [(45, (V.ptr 1 0 5)), (46, (I a0.fKey)), (47, (V.ptr 1 0 4)), (48, (k0 a0.fFields))] rfl rfl <| rl rfl (n7 (e := l5) rfl rfl rfl rfl rfl rfl underlying46) <| b5 rfl
    refine kcl rfl rfl (fun hc => ?_) fun hc => ?_
    ·rw [hc]
     refine kr ⟨[(2, (Bo false))], [], 70⟩ rfl <| et i1 <| et l6 ?_
     rfl
    ·rw [hc]
     refine et m9 <| et i6 <| kd Dy rfl (fun (o7 : Bool) => ⟨[(2, (Bo o7))], [], 70⟩) (et (j2 (p := 19) (dk := true) (t := [(1, (Pt 1)), (40, (Bo false))]) (σ := [(1, vS 8 (j0 a0))]) (n := 70) rfl (by decide) (by decide) rfl) <| et (j9 (m := 4) (j := 4) (t' := [(1, (Pt 1)), (40, (Bo false)), (52, (V.ptr 1 0 4)), (53, (k0 a0.fFields)), (54, (V.ptr 1 0 5)), (55, (I a0.fKey))]) rfl rfl rfl) <| et (c9 (x := (idx a0.fFields a0.fKey)) (w := fun v5 => (Pr (l5 v5))) rfl rfl rfl rfl rfl (i2 (e := l5) rfl rfl rfl underlying46 rfl (by decide))) <| j6 fun v5 => et (i7 (m := 6) (j := 11) (t' := [(1, (Pt 1)), (40, (Bo false)), (52, (V.ptr 1 0 4)), (53, (k0 a0.fFields)), (54, (V.ptr 1 0 5)), (55, (I a0.fKey)), (56, (Pr (l5 v5))), (57, (Pr (I v5.fAt))), (58, (I v5.fAt)), (59, (V.ptr 1 0 4)), (60, (k0 a0.fFields)), (61, (V.ptr 1 0 5)), (62, (I a0.fKey))]) rfl rfl rfl) <| et (c9 (x := (idx a0.fFields a0.fKey)) (w := fun v6 => (Pr (l5 v6))) rfl rfl rfl rfl rfl (i2 (e := l5) rfl rfl rfl underlying46 rfl (by decide))) <| j6 fun v6 => j8 rfl) fun o7 => et i1 ?_
     rfl
def O5 : Int → V × List V := fun r => ((I r), [])
theorem dP (k : Nat) (a0 : (List b9)) (a1 : Nat → b9 → Option Bool) (a1_fid : Go.FuncId) (a1_c0 : V) (a1_hok : ∀ j x0, EV j a1_fid [(j0 x0), V.pro a1_c0] = (a1 j x0).map fun b => ((Bo b), [])) (K0 : Int → Option Int) (Kst : X × St → Option (V × List V)) (hK0 : ∀ (y0 : Int), Kst (X.exit 0, ⟨[(0, (l7 a0)), (1, (V.fn a1_fid [] [V.pro a1_c0])), (7, (I (a0.length : Int))), (8, (I y0)), (9, (Bo false))], [], 19⟩) = (K0 y0).map O5) (hret : ∀ s, Kst (X.ret, s) = F6 prog 19 [(l7 a0), (V.fn a1_fid [] [V.pro a1_c0])] [] [.tmp 4] (X.ret, s)) :
  ∀ (m : Nat) (x4 : Int), (D1 (u1 prog (EV k) Ol k Ch) m ⟨[(0, (l7 a0)), (1, (V.fn a1_fid [] [V.pro a1_c0])), (7, (I (a0.length : Int))), (8, (I x4))], [], 19⟩).bind Kst = (D8 k a0 a1 K0 m x4).map O5 := by
 intro m
 induction m with
 | zero => intros; rfl
 | succ m ih =>
  intro x4
  unfold D8
  refine et l9 <| kra [(9, (Bo (decide (x4 < (a0.length : Int)))))] rfl <| kc rfl rfl (fun hc => ?_) fun hc => ?_
  ·rw [hc]
   refine et d6 <| et (i9 rfl) <| kr ⟨[(0, (l7 a0)), (1, (V.fn a1_fid [] [V.pro a1_c0])), (5, (I x4)), (7, (I (a0.length : Int))), (8, (I x4))], [], 19⟩ rfl <| kga Cy rfl (fun (o7 : Bool) => [(16, (Bo o7))]) (rd 3 [(11, (V.fn a1_fid [] [V.pro a1_c0])), (12, (l7 a0)), (13, (I x4))] rfl rfl <| rp rfl (i2 (e := j0) rfl rfl rfl underlying22 rfl (by decide)) fun v5 => bd 5 [(14, (Pr (j0 v5))), (15, (j0 v5))] rfl rfl <| rs rfl (d7 rfl rfl rfl rfl rfl (a1_hok k v5) (.inl rfl)) fun v6 => b5 rfl) fun o7 => kcl rfl rfl (fun hc => ?_) fun hc => ?_
   ·rw [hc]
    refine kr ⟨[(4, (I x4))], [], 19⟩ rfl <| et i1 <| et l6 <| et l8 <| et (hret _) ?_
    rfl
   ·rw [hc]
    exact et m9 <| et i6 <| kl ⟨[(0, (l7 a0)), (1, (V.fn a1_fid [] [V.pro a1_c0])), (7, (I (a0.length : Int))), (8, (I (Go.IntKind.wrap .i64 (x4 + 1))))], [], 19⟩ rfl <| et i3 <| ih (Go.IntKind.wrap .i64 (x4 + 1))
  ·rw [hc]
   exact et p7 <| et j3 <| hK0 x4
theorem aw (k : Nat) (a0 : (List b9)) (a1 : Nat → b9 → Option Bool) (a1_fid : Go.FuncId) (a1_c0 : V) (a1_hok : ∀ j x0, EV j a1_fid [(j0 x0), V.pro a1_c0] = (a1 j x0).map fun b => ((Bo b), [])) : EV k 92 [(l7 a0), (V.fn a1_fid [] [V.pro a1_c0])] = (D4 k a0 a1).map O5 := by
 cases k with
 | zero => rfl
 | succ k =>
  unfold D4
  refine et (i5 (c := f92c) (N := 19) (regs := Ol) rfl func92 rfl (by decide) rfl rfl rfl) <| kra [] rfl <| et b6 <| krp DL rfl ⟨[(0, (l7 a0)), (1, (V.fn a1_fid [] [V.pro a1_c0])), (7, (I (a0.length : Int))), (8, (I 0))], [], 19⟩ ?_ ?_
  ·exact rd 1 [(6, (l7 a0))] rfl rfl <| rl rfl (n7 (e := j0) rfl rfl rfl rfl rfl rfl underlying22) <| b5 rfl
  refine et (i9 rfl) <| et p8 ?_
  refine dP k a0 a1 a1_fid a1_c0 a1_hok _ _ ?h_slices_IndexFunc_Type_L1_0 ?hr_slices_IndexFunc_Type_L1 k 0
  ·intro y8
   refine et j5 <| kr ⟨[(4, (I (-1)))], [], 19⟩ rfl <| et i1 ?_
   rfl
  ·intro s; exact rfl
def dC : Bool → V × List V := fun r => ((Bo r), [])
theorem dV (k : Nat) (a0 : (List b9)) (a1 : Nat → b9 → Option Bool) (a1_fid : Go.FuncId) (a1_c0 : V) (a1_hok : ∀ j x0, EV j a1_fid [(j0 x0), V.pro a1_c0] = (a1 j x0).map fun b => ((Bo b), [])) : EV k 81 [(l7 a0), (V.fn a1_fid [] [V.pro a1_c0])] = (B2 k a0 a1).map dC := by
 cases k with
 | zero => rfl
 | succ k =>
  unfold B2
  refine et (i5 (c := f81c) (N := 9) (regs := RI) rfl func81 rfl (by decide) rfl rfl rfl) <| kra [] rfl <| kg Fv rfl (fun (o2 : Bool) => ⟨[(4, (Bo o2))], [], 9⟩) (rd 2 [(5, (l7 a0)), (6, (V.fn a1_fid [] [V.pro a1_c0]))] rfl rfl <| rp rfl (d7 rfl rfl rfl rfl rfl (aw k a0 a1 a1_fid a1_c0 a1_hok) (.inl rfl)) fun v1 => b5 rfl) fun o2 => et i1 ?_
  rfl
def kO : Bool → V × List V := fun r => ((Bo r), [])
theorem lb (k : Nat) (a0 : b9) (a1 : b9) : EV k 82 [(j0 a0), (Pr (j0 a1))] = (X7 k a0 a1).map kO := by
 cases k with
 | zero => rfl
 | succ k =>
  unfold X7
  refine et (i5 (c := f82c) (N := 9) (regs := aau) rfl func82 rfl (by decide) rfl rfl rfl) <| kr ⟨[(1, (Pr (j0 a1))), (2, (Pt 2))], [(2, vS 8 (j0 a0))], 9⟩ rfl <| kr ⟨[(3, (Bo (a0.fName == a1.fName)))], [], 9⟩ rfl <| et i1 ?_
  rfl
def X0 : Int → V × List V := fun r => ((I r), [])
theorem hG (k : Nat) (a0 : (List Int)) (a1 : Int)  (K0 : Int → Option Int) (Kst : X × St → Option (V × List V)) (hK0 : ∀ (y0 : Int), Kst (X.exit 0, ⟨[(0, (sI a0)), (1, (I a1)), (7, (I (a0.length : Int))), (8, (I y0)), (9, (Bo false))], [], 19⟩) = (K0 y0).map X0) (hret : ∀ s, Kst (X.ret, s) = F6 prog 19 [(sI a0), (I a1)] [] [.tmp 4] (X.ret, s)) :
  ∀ (m : Nat) (x3 : Int), (D1 (u1 prog (EV k) KD k Cu) m ⟨[(0, (sI a0)), (1, (I a1)), (7, (I (a0.length : Int))), (8, (I x3))], [], 19⟩).bind Kst = (J6 a0 a1 K0 m x3).map X0 := by
 intro m
 induction m with
 | zero => intros; rfl
 | succ m ih =>
  intro x3
  unfold J6
  refine et l9 <| kra [(9, (Bo (decide (x3 < (a0.length : Int)))))] rfl <| kc rfl rfl (fun hc => ?_) fun hc => ?_
  ·rw [hc]
   refine et d6 <| et (i9 rfl) <| kr ⟨[(0, (sI a0)), (1, (I a1)), (5, (I x3)), (7, (I (a0.length : Int))), (8, (I x3))], [], 19⟩ rfl <| kga DE rfl (fun (o5 : Bool) => [(16, (Bo o5))]) (rd 3 [(11, (I a1)), (12, (sI a0)), (13, (I x3))] rfl rfl <| rp rfl (i2 (e := I) rfl rfl rfl underlying58 rfl (by decide)) fun v4 => b5 rfl) fun o5 => kcl rfl rfl (fun hc => ?_) fun hc => ?_
   ·rw [hc]
    refine kr ⟨[(4, (I x3))], [], 19⟩ rfl <| et i1 <| et l6 <| et l8 <| et (hret _) ?_
    rfl
   ·rw [hc]
    exact et m9 <| et i6 <| kl ⟨[(0, (sI a0)), (1, (I a1)), (7, (I (a0.length : Int))), (8, (I (Go.IntKind.wrap .i64 (x3 + 1))))], [], 19⟩ rfl <| et i3 <| ih (Go.IntKind.wrap .i64 (x3 + 1))
  ·rw [hc]
   exact et p7 <| et j3 <| hK0 x3
theorem dI (k : Nat) (a0 : (List Int)) (a1 : Int) : EV k 83 [(sI a0), (I a1)] = (S5 k a0 a1).map X0 := by
 cases k with
 | zero => rfl
 | succ k =>
  unfold S5
  refine et (i5 (c := f83c) (N := 19) (regs := KD) rfl func83 rfl (by decide) rfl rfl rfl) <| kra [] rfl <| et b6 <| krp Fn rfl ⟨[(0, (sI a0)), (1, (I a1)), (7, (I (a0.length : Int))), (8, (I 0))], [], 19⟩ ?_ ?_
  ·exact rd 1 [(6, (sI a0))] rfl rfl <| rl rfl (n7 (e := I) rfl rfl rfl rfl rfl rfl underlying58) <| b5 rfl
  refine et (i9 rfl) <| et p8 ?_
  refine hG k a0 a1 _ _ ?h_slices_Index_int_L1_0 ?hr_slices_Index_int_L1 k 0
  ·intro y6
   refine et j5 <| kr ⟨[(4, (I (-1)))], [], 19⟩ rfl <| et i1 ?_
   rfl
  ·intro s; exact rfl
def cb : Bool → V × List V := fun r => ((Bo r), [])
theorem kH (k : Nat) (a0 : (List b9))  (K0 : Int → (List Int) → Option Bool) (Kst : X × St → Option (V × List V)) (hK0 : ∀ (y0 : Int) (y1 : (List Int)), Kst (X.exit 0, ⟨[(0, (l7 a0)), (3, (aL 3 I y1)), (15, (l7 a0)), (16, (I (a0.length : Int))), (17, (I y0)), (18, (Bo false))], [(3, ⟨true, 1, List.map I y1⟩)], 82⟩) = (K0 y0 y1).map cb) (hret : ∀ s, Kst (X.ret, s) = F6 prog 82 [(l7 a0)] [] [.tmp 2] (X.ret, s)) :
  ∀ (m : Nat) (x15 : Int) (x16 : (List Int)), (D1 (u1 prog (EV k) JK k BV) m ⟨[(0, (l7 a0)), (3, (aL 3 I x16)), (15, (l7 a0)), (16, (I (a0.length : Int))), (17, (I x15))], [(3, ⟨true, 1, List.map I x16⟩)], 82⟩).bind Kst = (J1 k a0 K0 m x15 x16).map cb := by
 intro m
 induction m with
 | zero => intros; rfl
 | succ m ih =>
  intro x15 x16
  unfold J1
  refine et l9 <| kra [(18, (Bo (decide (x15 < (a0.length : Int)))))] rfl <| kc rfl rfl (fun hc => ?_) fun hc => ?_
  ·rw [hc]
   refine et d6 <| et (i9 rfl) <| kg Ec rfl (fun (o18 : Int × b9) => ⟨[(0, (l7 a0)), (3, (aL 3 I x16)), (4, (I o18.1)), (5, (Pt 5)), (15, (l7 a0)), (16, (I (a0.length : Int))), (17, (I x15))], [(3, ⟨true, 1, List.map I x16⟩), (5, vS 8 (j0 o18.2))], 82⟩) (rd 1 [(19, (I x15))] rfl rfl <| rp rfl (i2 (e := j0) rfl rfl rfl underlying22 rfl (by decide)) fun v17 => b5 rfl) fun o18 => et b6 <| kga EC rfl (fun (o22 : Bool) => [(31, (Bo o22))]) ?_ fun o22 => ?_
   ·refine rd 1 [(22, (j0 o18.2))] rfl rfl <| rp rfl (d7 rfl rfl rfl rfl rfl (qe k o18.2) (.inl rfl)) fun v19 => bd 4 [(23, (Bo v19)), (24, (Bo (!v19))), (25, (Bo (!v19)))] rfl rfl <| n5 (fun hc => ?_) fun hc => ?_
    ·rw [hc]
     exact d5 rfl
    ·rw [hc]
     exact rd 6 [(26, (l7 a0)), (27, (I o18.1))] rfl rfl <| rp rfl (sA (e := j0) rfl rfl rfl rfl rfl rfl underlying22 rfl (by decide)) fun v20 => bd 8 [(28, (l7 v20)), (29, (V.fn 82 [] [(Pt 5)]))] rfl rfl <| rs rfl (d7 rfl rfl rfl rfl rfl (dV k v20 (fun j x0 => (X7 j x0 o18.2)) 82 (j0 o18.2) (fun j x0 => (lb j x0 o18.2))) (.inr (fun _ => rfl))) fun v21 => b5 rfl
   refine kc rfl rfl (fun hc => ?_) fun hc => ?_
   ·rw [hc]
    refine et b6 <| kr ⟨[(2, (Bo false))], [], 82⟩ rfl <| et n6 <| et l6 <| et l8 <| et (hret _) ?_
    rfl
   ·rw [hc]
    refine et d6 <| kg DA rfl (fun (o24 : Int) => ⟨[(0, (l7 a0)), (3, (aL 3 I x16)), (4, (I o18.1)), (5, (Pt 5)), (6, (I o24)), (15, (l7 a0)), (16, (I (a0.length : Int))), (17, (I x15))], [(3, ⟨true, 1, List.map I x16⟩), (5, vS 8 (j0 o18.2))], 82⟩) (rd 3 [(32, (aL 3 I x16)), (33, (V.ptr 5 0 1)), (34, (I o18.2.fParent))] rfl rfl <| rs rfl (d7 rfl rfl rfl rfl (ri (Ci (e := I) rfl) (by intro s i q h; cases h) (ri rfl (by intro s i q h; cases h) rfl)) (dI k x16 o18.2.fParent) (.inr (fun _ => rfl))) fun v23 => b5 rfl) fun o24 => et b6 <| kg Aa rfl (fun (o26 : Bool) => ⟨[(0, (l7 a0)), (3, (aL 3 I x16)), (4, (I o18.1)), (6, (I o24)), (15, (l7 a0)), (16, (I (a0.length : Int))), (17, (I x15)), (70, (Bo o26))], [(3, ⟨true, 1, List.map I x16⟩)], 82⟩) ?_ fun o26 => ?_
    ·refine rd 3 [(36, (I o18.1)), (37, (Bo (o18.1 == 0))), (38, (Bo (o18.1 == 0)))] rfl rfl <| n5 (fun hc => ?_) fun hc => ?_
     ·rw [hc]
      refine rd 7 [(39, (V.ptr 5 0 1)), (40, (I o18.2.fParent)), (41, (Bo (o18.2.fParent != (-1)))), (42, (Bo (o18.2.fParent != (-1))))] rfl rfl <| n5 (fun hc => ?_) fun hc => ?_
      ·rw [hc]
       exact d5 rfl
      ·rw [hc]
       refine rd 12 [(43, (V.ptr 5 0 5)), (44, (I o18.2.fKey)), (45, (Bo (decide (o18.2.fKey < 0)))), (46, (Bo (decide (o18.2.fKey < 0)))), (47, (Bo (decide (o18.2.fKey < 0))))] rfl rfl <| n5 (fun hc => ?_) fun hc => ?_
       ·rw [hc]
        exact d5 rfl
       ·rw [hc]
        refine rd 17 [(48, (V.ptr 5 0 6)), (49, (Bo o18.2.fUnique)), (50, (Bo (!o18.2.fUnique))), (51, (Bo (!o18.2.fUnique))), (52, (Bo (!o18.2.fUnique)))] rfl rfl <| n5 (fun hc => ?_) fun hc => ?_
        ·rw [hc]
         exact d5 rfl
        ·rw [hc]
         refine rd 21 [(53, (V.ptr 5 0 4)), (54, (k0 o18.2.fFields)), (55, (V.ptr 5 0 5)), (56, (I o18.2.fKey))] rfl rfl <| rp rfl (i2 (e := l5) rfl rfl rfl underlying46 rfl (by decide)) fun v25 => bd 28 [(57, (Pr (l5 v25))), (58, (Pr (I v25.fBytes))), (59, (I v25.fBytes)), (60, (Bo (decide (v25.fBytes > 24)))), (61, (Bo (decide (v25.fBytes > 24)))), (62, (Bo (decide (v25.fBytes > 24)))), (63, (Bo (decide (v25.fBytes > 24))))] rfl rfl <| n5 (fun hc => ?_) fun hc => ?_
         ·rw [hc]
          exact d5 rfl
         ·rw [hc]
          refine rd 31 [(64, (I o18.1)), (65, (Bo (decide (o18.1 > 0)))), (66, (Bo (decide (o18.1 > 0))))] rfl rfl <| n5 (fun hc => ?_) fun hc => ?_
          ·rw [hc]
           exact d5 rfl
          ·rw [hc]
           exact d5 rfl
     ·rw [hc]
      refine rd 31 [(39, (V.tup [])), (40, (V.tup [])), (41, (V.tup [])), (42, (V.tup [])), (43, (V.tup [])), (44, (V.tup [])), (45, (V.tup [])), (46, (V.tup [])), (47, (V.tup [])), (48, (V.tup [])), (49, (V.tup [])), (50, (V.tup [])), (51, (V.tup [])), (52, (V.tup [])), (53, (V.tup [])), (54, (V.tup [])), (55, (V.tup [])), (56, (V.tup [])), (57, (V.tup [])), (58, (V.tup [])), (59, (V.tup [])), (60, (V.tup [])), (61, (V.tup [])), (62, (Bo false)), (63, (Bo false)), (64, (I o18.1)), (65, (Bo (decide (o18.1 > 0)))), (66, (Bo (decide (o18.1 > 0))))] rfl rfl <| n5 (fun hc => ?_) fun hc => ?_
      ·rw [hc]
       exact d5 rfl
      ·rw [hc]
       exact d5 rfl
    refine kc rfl rfl (fun hc => ?_) fun hc => ?_
    ·rw [hc]
     refine et b6 <| kr ⟨[(2, (Bo false))], [], 82⟩ rfl <| et n6 <| et l6 <| et l8 <| et (hret _) ?_
     rfl
    ·rw [hc]
     refine et d6 <| kg xX rfl (fun (o29 : (List Int)) => ⟨[(0, (l7 a0)), (3, (aL 3 I o29)), (15, (l7 a0)), (16, (I (a0.length : Int))), (17, (I x15))], [(3, ⟨true, 1, List.map I o29⟩)], 82⟩) (rd 3 [(71, (aL 3 I x16)), (72, (I o24)), (73, (I (Go.IntKind.wrap .i64 (o24 + 1))))] rfl rfl <| rx rfl (wS (e := I) rfl rfl rfl underlying58 (by decide)) fun v27 hv27 => bd 6 [(74, (V.aref 3 0 v27)), (75, (I o18.1)), (76, (sI (([o18.1] : List Int))))] rfl rfl <| et (P4 (x := (app (List.take v27 x16) ([o18.1] : List Int))) (w := fun v28 => ((aL 3 I v28), _)) rfl rfl rfl rfl (Af (e := I) (l := x16) rfl rfl rfl rfl rfl rfl rfl rfl rfl rfl rfl (BD hv27) (of_decide_eq_true rfl))) <| B7 fun v28 => b5 rfl) fun o29 => krp zl rfl ⟨[(0, (l7 a0)), (3, (aL 3 I o29)), (15, (l7 a0)), (16, (I (a0.length : Int))), (17, (I x15)), (80, (Bo (decide ((o29.length : Int) > 5))))], [(3, ⟨true, 1, List.map I o29⟩)], 82⟩ ?_ ?_
     ·exact rd 1 [(78, (aL 3 I o29))] rfl rfl <| rl rfl (uE (e := I) rfl rfl rfl rfl rfl rfl underlying58) <| b5 rfl
     refine kcl rfl rfl (fun hc => ?_) fun hc => ?_
     ·rw [hc]
      refine kr ⟨[(2, (Bo false))], [], 82⟩ rfl <| et i1 <| et l6 <| et l8 <| et (hret _) ?_
      rfl
     ·rw [hc]
      exact et m9 <| et i6 <| kl ⟨[(0, (l7 a0)), (3, (aL 3 I o29)), (15, (l7 a0)), (16, (I (a0.length : Int))), (17, (I (Go.IntKind.wrap .i64 (x15 + 1))))], [(3, ⟨true, 1, List.map I o29⟩)], 82⟩ rfl <| et i3 <| ih (Go.IntKind.wrap .i64 (x15 + 1)) o29
  ·rw [hc]
   exact et p7 <| et j3 <| hK0 x15 x16
theorem oq (k : Nat) (a0 : (List b9)) : EV k 51 [(l7 a0)] = (bu k a0).map cb := by
 cases k with
 | zero => rfl
 | succ k =>
  unfold bu
  refine et (i5 (c := f51c) (N := 82) (regs := JK) rfl func51 rfl (by decide) rfl rfl rfl) <| kra [] rfl <| et b6 <| kga BP rfl (fun (o1 : Bool) => [(14, (Bo o1))]) ?_ fun o1 => ?_
  ·refine rd 1 [(7, (l7 a0))] rfl rfl <| rl rfl (n7 (e := j0) rfl rfl rfl rfl rfl rfl underlying22) <| bd 4 [(8, (I (a0.length : Int))), (9, (Bo (decide ((a0.length : Int) < 1)))), (10, (Bo (decide ((a0.length : Int) < 1))))] rfl rfl <| n5 (fun hc => ?_) fun hc => ?_
   ·rw [hc]
    exact d5 rfl
   ·rw [hc]
    exact rd 5 [(11, (l7 a0))] rfl rfl <| rl rfl (n7 (e := j0) rfl rfl rfl rfl rfl rfl underlying22) <| b5 rfl
  refine kc rfl rfl (fun hc => ?_) fun hc => ?_
  ·rw [hc]
   refine et b6 <| kr ⟨[(2, (Bo false))], [], 82⟩ rfl <| et n6 ?_
   rfl
  ·rw [hc]
   refine et d6 <| kr ⟨[(0, (l7 a0)), (3, (aL 3 I ([] : List Int)))], [(3, ⟨true, 1, List.map I ([] : List Int)⟩)], 82⟩ rfl <| et b6 <| krp Cg rfl ⟨[(0, (l7 a0)), (3, (aL 3 I ([] : List Int))), (15, (l7 a0)), (16, (I (a0.length : Int))), (17, (I 0))], [(3, ⟨true, 1, List.map I ([] : List Int)⟩)], 82⟩ ?_ ?_
   ·exact rd 1 [(15, (l7 a0))] rfl rfl <| rl rfl (n7 (e := j0) rfl rfl rfl rfl rfl rfl underlying22) <| b5 rfl
   refine et (i9 rfl) <| et p8 ?_
   refine kH k a0 _ _ ?h_dbd_areTypes_L1_0 ?hr_dbd_areTypes_L1 k 0 ([] : List Int)
   ·intro y30 y31
    refine et j5 <| kr ⟨[(2, (Bo true))], [], 82⟩ rfl <| et i1 ?_
    rfl
   ·intro s; exact rfl
def K3 : Int → V × List V := fun r => ((I r), [])
theorem cz (k : Nat) (a0 : (List j1)) (a1 : Nat → j1 → Option Bool) (a1_fid : Go.FuncId) (a1_c0 : V) (a1_hok : ∀ j x0, EV j a1_fid [(s5 x0), V.pro a1_c0] = (a1 j x0).map fun b => ((Bo b), [])) (K0 : Int → Option Int) (Kst : X × St → Option (V × List V)) (hK0 : ∀ (y0 : Int), Kst (X.exit 0, ⟨[(0, (s8 a0)), (1, (V.fn a1_fid [] [V.pro a1_c0])), (7, (I (a0.length : Int))), (8, (I y0)), (9, (Bo false))], [], 19⟩) = (K0 y0).map K3) (hret : ∀ s, Kst (X.ret, s) = F6 prog 19 [(s8 a0), (V.fn a1_fid [] [V.pro a1_c0])] [] [.tmp 4] (X.ret, s)) :
  ∀ (m : Nat) (x4 : Int), (D1 (u1 prog (EV k) xK k zN) m ⟨[(0, (s8 a0)), (1, (V.fn a1_fid [] [V.pro a1_c0])), (7, (I (a0.length : Int))), (8, (I x4))], [], 19⟩).bind Kst = (B9 k a0 a1 K0 m x4).map K3 := by
 intro m
 induction m with
 | zero => intros; rfl
 | succ m ih =>
  intro x4
  unfold B9
  refine et l9 <| kra [(9, (Bo (decide (x4 < (a0.length : Int)))))] rfl <| kc rfl rfl (fun hc => ?_) fun hc => ?_
  ·rw [hc]
   refine et d6 <| et (i9 rfl) <| kr ⟨[(0, (s8 a0)), (1, (V.fn a1_fid [] [V.pro a1_c0])), (5, (I x4)), (7, (I (a0.length : Int))), (8, (I x4))], [], 19⟩ rfl <| kga zO rfl (fun (o7 : Bool) => [(16, (Bo o7))]) (rd 3 [(11, (V.fn a1_fid [] [V.pro a1_c0])), (12, (s8 a0)), (13, (I x4))] rfl rfl <| rp rfl (i2 (e := s5) rfl rfl rfl underlying23 rfl (by decide)) fun v5 => bd 5 [(14, (Pr (s5 v5))), (15, (s5 v5))] rfl rfl <| rs rfl (d7 rfl rfl rfl rfl rfl (a1_hok k v5) (.inl rfl)) fun v6 => b5 rfl) fun o7 => kcl rfl rfl (fun hc => ?_) fun hc => ?_
   ·rw [hc]
    refine kr ⟨[(4, (I x4))], [], 19⟩ rfl <| et i1 <| et l6 <| et l8 <| et (hret _) ?_
    rfl
   ·rw [hc]
    exact et m9 <| et i6 <| kl ⟨[(0, (s8 a0)), (1, (V.fn a1_fid [] [V.pro a1_c0])), (7, (I (a0.length : Int))), (8, (I (Go.IntKind.wrap .i64 (x4 + 1))))], [], 19⟩ rfl <| et i3 <| ih (Go.IntKind.wrap .i64 (x4 + 1))
  ·rw [hc]
   exact et p7 <| et j3 <| hK0 x4
theorem fi (k : Nat) (a0 : (List j1)) (a1 : Nat → j1 → Option Bool) (a1_fid : Go.FuncId) (a1_c0 : V) (a1_hok : ∀ j x0, EV j a1_fid [(s5 x0), V.pro a1_c0] = (a1 j x0).map fun b => ((Bo b), [])) : EV k 114 [(s8 a0), (V.fn a1_fid [] [V.pro a1_c0])] = (I6 k a0 a1).map K3 := by
 cases k with
 | zero => rfl
 | succ k =>
  unfold I6
  refine et (i5 (c := SK) (N := 19) (regs := xK) rfl func114 rfl (by decide) rfl rfl rfl) <| kra [] rfl <| et b6 <| krp xU rfl ⟨[(0, (s8 a0)), (1, (V.fn a1_fid [] [V.pro a1_c0])), (7, (I (a0.length : Int))), (8, (I 0))], [], 19⟩ ?_ ?_
  ·exact rd 1 [(6, (s8 a0))] rfl rfl <| rl rfl (n7 (e := s5) rfl rfl rfl rfl rfl rfl underlying23) <| b5 rfl
  refine et (i9 rfl) <| et p8 ?_
  refine cz k a0 a1 a1_fid a1_c0 a1_hok _ _ ?h_slices_IndexFunc_Search_L1_0 ?hr_slices_IndexFunc_Search_L1 k 0
  ·intro y8
   refine et j5 <| kr ⟨[(4, (I (-1)))], [], 19⟩ rfl <| et i1 ?_
   rfl
  ·intro s; exact rfl
def bT : Bool → V × List V := fun r => ((Bo r), [])
theorem cI (k : Nat) (a0 : (List j1)) (a1 : Nat → j1 → Option Bool) (a1_fid : Go.FuncId) (a1_c0 : V) (a1_hok : ∀ j x0, EV j a1_fid [(s5 x0), V.pro a1_c0] = (a1 j x0).map fun b => ((Bo b), [])) : EV k 84 [(s8 a0), (V.fn a1_fid [] [V.pro a1_c0])] = (y9 k a0 a1).map bT := by
 cases k with
 | zero => rfl
 | succ k =>
  unfold y9
  refine et (i5 (c := f84c) (N := 9) (regs := OB) rfl func84 rfl (by decide) rfl rfl rfl) <| kra [] rfl <| kg BH rfl (fun (o2 : Bool) => ⟨[(4, (Bo o2))], [], 9⟩) (rd 2 [(5, (s8 a0)), (6, (V.fn a1_fid [] [V.pro a1_c0]))] rfl rfl <| rp rfl (d7 rfl rfl rfl rfl rfl (fi k a0 a1 a1_fid a1_c0 a1_hok) (.inl rfl)) fun v1 => b5 rfl) fun o2 => et i1 ?_
  rfl
def iK : Bool → V × List V := fun r => ((Bo r), [])
theorem jz (k : Nat) (a0 : j1) (a1 : j1) : EV k 85 [(s5 a0), (Pr (s5 a1))] = (S9 k a0 a1).map iK := by
 cases k with
 | zero => rfl
 | succ k =>
  unfold S9
  refine et (i5 (c := f85c) (N := 9) (regs := adE) rfl func85 rfl (by decide) rfl rfl rfl) <| kr ⟨[(1, (Pr (s5 a1))), (2, (Pt 2))], [(2, vS 4 (s5 a0))], 9⟩ rfl <| kr ⟨[(3, (Bo (a0.fName == a1.fName)))], [], 9⟩ rfl <| et i1 ?_
  rfl
def aJ : Bool → V × List V := fun r => ((Bo r), [])
theorem iW (k : Nat) (a0 : (List j1)) (a1 : (List b9))  (K0 : Int → Option Bool) (Kst : X × St → Option (V × List V)) (hK0 : ∀ (y0 : Int), Kst (X.exit 0, ⟨[(0, (s8 a0)), (1, (l7 a1)), (8, (s8 a0)), (9, (I (a0.length : Int))), (10, (I y0)), (11, (Bo false))], [], 73⟩) = (K0 y0).map aJ) (hret : ∀ s, Kst (X.ret, s) = F6 prog 73 [(s8 a0), (l7 a1)] [] [.tmp 4] (X.ret, s)) :
  ∀ (m : Nat) (x11 : Int), (D1 (u1 prog (EV k) JC k El) m ⟨[(0, (s8 a0)), (1, (l7 a1)), (8, (s8 a0)), (9, (I (a0.length : Int))), (10, (I x11))], [], 73⟩).bind Kst = (F5 k a0 a1 K0 m x11).map aJ := by
 intro m
 induction m with
 | zero => intros; rfl
 | succ m ih =>
  intro x11
  unfold F5
  refine et l9 <| kra [(11, (Bo (decide (x11 < (a0.length : Int)))))] rfl <| kc rfl rfl (fun hc => ?_) fun hc => ?_
  ·rw [hc]
   refine et d6 <| et (i9 rfl) <| kg ER rfl (fun (o13 : Int × j1) => ⟨[(0, (s8 a0)), (1, (l7 a1)), (5, (I o13.1)), (6, (Pt 6)), (8, (s8 a0)), (9, (I (a0.length : Int))), (10, (I x11))], [(6, vS 4 (s5 o13.2))], 73⟩) (rd 1 [(12, (I x11))] rfl rfl <| rp rfl (i2 (e := s5) rfl rfl rfl underlying23 rfl (by decide)) fun v12 => b5 rfl) fun o13 => et b6 <| kg DQ rfl (fun (o17 : Bool) => ⟨[(0, (s8 a0)), (1, (l7 a1)), (6, (Pt 6)), (8, (s8 a0)), (9, (I (a0.length : Int))), (10, (I x11)), (43, (Bo o17))], [(6, vS 4 (s5 o13.2))], 73⟩) ?_ fun o17 => ?_
   ·refine rd 2 [(15, (Pt 6)), (16, (Sr o13.2.fName))] rfl rfl <| rp rfl (d7 rfl rfl rfl rfl rfl (ck k o13.2.fName) (.inl rfl)) fun v14 => bd 5 [(17, (Bo v14)), (18, (Bo (!v14))), (19, (Bo (!v14)))] rfl rfl <| n5 (fun hc => ?_) fun hc => ?_
    ·rw [hc]
     exact d5 rfl
    ·rw [hc]
     refine rd 10 [(20, (V.ptr 6 0 1)), (21, (I o13.2.fType)), (22, (Bo (decide (o13.2.fType < 0)))), (23, (Bo (decide (o13.2.fType < 0)))), (24, (Bo (decide (o13.2.fType < 0))))] rfl rfl <| n5 (fun hc => ?_) fun hc => ?_
     ·rw [hc]
      exact d5 rfl
     ·rw [hc]
      refine rd 13 [(25, (V.ptr 6 0 1)), (26, (I o13.2.fType)), (27, (l7 a1))] rfl rfl <| rl rfl (n7 (e := j0) rfl rfl rfl rfl rfl rfl underlying22) <| bd 17 [(28, (I (a1.length : Int))), (29, (Bo (decide (o13.2.fType ≥ (a1.length : Int))))), (30, (Bo (decide (o13.2.fType ≥ (a1.length : Int))))), (31, (Bo (decide (o13.2.fType ≥ (a1.length : Int)))))] rfl rfl <| n5 (fun hc => ?_) fun hc => ?_
      ·rw [hc]
       exact d5 rfl
      ·rw [hc]
       refine rd 23 [(32, (V.ptr 6 0 3)), (33, (Sr o13.2.fSparse)), (34, (I (o13.2.fSparse.length : Int))), (35, (Bo (decide ((o13.2.fSparse.length : Int) > 1)))), (36, (Bo (decide ((o13.2.fSparse.length : Int) > 1)))), (37, (Bo (decide ((o13.2.fSparse.length : Int) > 1))))] rfl rfl <| n5 (fun hc => ?_) fun hc => ?_
       ·rw [hc]
        exact d5 rfl
       ·rw [hc]
        exact rd 25 [(38, (s8 a0)), (39, (I o13.1))] rfl rfl <| rp rfl (sA (e := s5) rfl rfl rfl rfl rfl rfl underlying23 rfl (by decide)) fun v15 => bd 27 [(40, (s8 v15)), (41, (V.fn 85 [] [(Pt 6)]))] rfl rfl <| rs rfl (d7 rfl rfl rfl rfl rfl (cI k v15 (fun j x0 => (S9 j x0 o13.2)) 85 (s5 o13.2) (fun j x0 => (jz j x0 o13.2))) (.inr (fun _ => rfl))) fun v16 => b5 rfl
   refine kc rfl rfl (fun hc => ?_) fun hc => ?_
   ·rw [hc]
    refine et b6 <| kr ⟨[(4, (Bo false))], [], 73⟩ rfl <| et n6 <| et l6 <| et l8 <| et (hret _) ?_
    rfl
   ·rw [hc]
    refine et d6 <| kg Ep rfl (fun (o19 : (List i4)) => ⟨[(0, (s8 a0)), (1, (l7 a1)), (6, (Pt 6)), (7, (k0 o19)), (8, (s8 a0)), (9, (I (a0.length : Int))), (10, (I x11))], [(6, vS 4 (s5 o13.2))], 73⟩) (rd 3 [(44, (l7 a1)), (45, (V.ptr 6 0 1)), (46, (I o13.2.fType))] rfl rfl <| rp rfl (i2 (e := j0) rfl rfl rfl underlying22 rfl (by decide)) fun v18 => b5 rfl) fun o19 => kg EE rfl (fun (o21 : Bool) => ⟨[(0, (s8 a0)), (1, (l7 a1)), (8, (s8 a0)), (9, (I (a0.length : Int))), (10, (I x11)), (68, (Bo o21))], [], 73⟩) ?_ fun o21 => ?_
    ·refine rd 4 [(50, (V.ptr 6 0 2)), (51, (I o13.2.fField)), (52, (Bo (decide (o13.2.fField < 0)))), (53, (Bo (decide (o13.2.fField < 0))))] rfl rfl <| n5 (fun hc => ?_) fun hc => ?_
     ·rw [hc]
      exact d5 rfl
     ·rw [hc]
      refine rd 7 [(54, (V.ptr 6 0 2)), (55, (I o13.2.fField)), (56, (k0 o19))] rfl rfl <| rl rfl (n7 (e := l5) rfl rfl rfl rfl rfl rfl underlying46) <| bd 11 [(57, (I (o19.length : Int))), (58, (Bo (decide (o13.2.fField ≥ (o19.length : Int))))), (59, (Bo (decide (o13.2.fField ≥ (o19.length : Int))))), (60, (Bo (decide (o13.2.fField ≥ (o19.length : Int)))))] rfl rfl <| n5 (fun hc => ?_) fun hc => ?_
      ·rw [hc]
       exact d5 rfl
      ·rw [hc]
       exact rd 14 [(61, (k0 o19)), (62, (V.ptr 6 0 2)), (63, (I o13.2.fField))] rfl rfl <| rp rfl (i2 (e := l5) rfl rfl rfl underlying46 rfl (by decide)) fun v20 => b5 rfl
    refine kcl rfl rfl (fun hc => ?_) fun hc => ?_
    ·rw [hc]
     refine kr ⟨[(4, (Bo false))], [], 73⟩ rfl <| et i1 <| et l6 <| et l8 <| et (hret _) ?_
     rfl
    ·rw [hc]
     exact et m9 <| et i6 <| kl ⟨[(0, (s8 a0)), (1, (l7 a1)), (8, (s8 a0)), (9, (I (a0.length : Int))), (10, (I (Go.IntKind.wrap .i64 (x11 + 1))))], [], 73⟩ rfl <| et i3 <| ih (Go.IntKind.wrap .i64 (x11 + 1))
  ·rw [hc]
   exact et p7 <| et j3 <| hK0 x11
theorem lf (k : Nat) (a0 : (List j1)) (a1 : (List b9)) : EV k 52 [(s8 a0), (l7 a1)] = (X1 k a0 a1).map aJ := by
 cases k with
 | zero => rfl
 | succ k =>
  unfold X1
  refine et (i5 (c := f52c) (N := 73) (regs := JC) rfl func52 rfl (by decide) rfl rfl rfl) <| kra [] rfl <| et b6 <| krp BJ rfl ⟨[(0, (s8 a0)), (1, (l7 a1)), (8, (s8 a0)), (9, (I (a0.length : Int))), (10, (I 0))], [], 73⟩ ?_ ?_
  ·exact rd 1 [(8, (s8 a0))] rfl rfl <| rl rfl (n7 (e := s5) rfl rfl rfl rfl rfl rfl underlying23) <| b5 rfl
  refine et (i9 rfl) <| et p8 ?_
  refine iW k a0 a1 _ _ ?h_dbd_areIndexes_L1_0 ?hr_dbd_areIndexes_L1 k 0
  ·intro y22
   refine et j5 <| krp xc rfl ⟨[(4, (Bo (decide ((a0.length : Int) ≤ 3))))], [], 73⟩ ?_ ?_
   ·exact rd 1 [(70, (s8 a0))] rfl rfl <| rl rfl (n7 (e := s5) rfl rfl rfl rfl rfl rfl underlying23) <| b5 rfl
   refine et i1 ?_
   rfl
  ·intro s; exact rfl
def qj : Bool → V × List V := fun r => ((Bo r), [])
theorem gX (k : Nat) (a0 : a8) : EV k 28 [(b7 a0)] = (bU k a0).map qj := by
 cases k with
 | zero => rfl
 | succ k =>
  unfold bU
  refine et (i5 (c := f28c) (N := 28) (regs := ZR) rfl func28 rfl (by decide) rfl rfl rfl) <| kr ⟨[(1, (Pt 1))], [(1, vS 4 (b7 a0))], 28⟩ rfl <| kg ES rfl (fun (o4 : Bool) => ⟨[(2, (Bo o4))], [], 28⟩) ?_ fun o4 => ?_
  ·refine rd 2 [(3, (Pt 1)), (4, (Sr a0.fName))] rfl rfl <| rp rfl (d7 rfl rfl rfl rfl rfl (ck k a0.fName) (.inl rfl)) fun v1 => bd 4 [(5, (Bo v1)), (6, (Bo v1))] rfl rfl <| n5 (fun hc => ?_) fun hc => ?_
   ·rw [hc]
    refine rd 9 [(7, (V.ptr 1 0 1)), (8, (I a0.fKind)), (9, (Bo (decide (a0.fKind ≥ 1)))), (10, (Bo (decide (a0.fKind ≥ 1)))), (11, (Bo (decide (a0.fKind ≥ 1))))] rfl rfl <| n5 (fun hc => ?_) fun hc => ?_
    ·rw [hc]
     refine rd 14 [(12, (V.ptr 1 0 1)), (13, (I a0.fKind)), (14, (Bo (decide (a0.fKind ≤ 4)))), (15, (Bo (decide (a0.fKind ≤ 4)))), (16, (Bo (decide (a0.fKind ≤ 4))))] rfl rfl <| n5 (fun hc => ?_) fun hc => ?_
     ·rw [hc]
      refine rd 16 [(17, (V.ptr 1 0 2)), (18, (l7 a0.fTypes))] rfl rfl <| rp rfl (d7 rfl rfl rfl rfl rfl (oq k a0.fTypes) (.inl rfl)) fun v2 => bd 19 [(19, (Bo v2)), (20, (Bo v2)), (21, (Bo v2))] rfl rfl <| n5 (fun hc => ?_) fun hc => ?_
      ·rw [hc]
       exact rd 23 [(22, (V.ptr 1 0 3)), (23, (s8 a0.fIndexes)), (24, (V.ptr 1 0 2)), (25, (l7 a0.fTypes))] rfl rfl <| rs rfl (d7 rfl rfl rfl rfl rfl (lf k a0.fIndexes a0.fTypes) (.inl rfl)) fun v3 => b5 rfl
      ·rw [hc]
       exact d5 rfl
     ·rw [hc]
      exact d5 rfl
    ·rw [hc]
     exact d5 rfl
   ·rw [hc]
    exact d5 rfl
  refine et i1 ?_
  rfl
def iu : Int → V × List V := fun r => (I r, [])
theorem cH (k : Nat) (s : Str) (n : Int) : EV k 35 [(Sr s), (V.int .u8 n)] = (strings_IndexByte k s n).map iu := by
 cases k with
 | zero => rfl
 | succ k => exact (kZ (ext := ext) (f := 35) rfl).trans rfl
def bP : Bool → V × List V := fun r => ((Bo r), [])
theorem kf (k : Nat) (a0 : Str)  (K0 : Int → Int → Option Bool) (Kst : X × St → Option (V × List V)) (hK0 : ∀ (y0 : Int) (y1 : Int), Kst (X.exit 0, ⟨[(0, (Sr a0)), (3, (I y0)), (7, (I (a0.length : Int))), (8, (I y1)), (9, (Bo false))], [], 24⟩) = (K0 y0 y1).map bP) (hret : ∀ s, Kst (X.ret, s) = F6 prog 24 [(Sr a0)] [] [.tmp 2] (X.ret, s)) :
  ∀ (m : Nat) (x5 : Int) (x6 : Int), (D1 (u1 prog (EV k) HH k Fk) m ⟨[(0, (Sr a0)), (3, (I x5)), (7, (I (a0.length : Int))), (8, (I x6))], [], 24⟩).bind Kst = (J3 k a0 K0 m x5 x6).map bP := by
 intro m
 induction m with
 | zero => intros; rfl
 | succ m ih =>
  intro x5 x6
  unfold J3
  refine et l9 <| kra [(9, (Bo (decide (x6 < (a0.length : Int)))))] rfl <| kc rfl rfl (fun hc => ?_) fun hc => ?_
  ·rw [hc]
   refine et d6 <| et (i9 rfl) <| kr ⟨[(0, (Sr a0)), (3, (I x5)), (4, (I x6)), (7, (I (a0.length : Int))), (8, (I x6))], [], 24⟩ rfl <| kd Du rfl (fun (o10 : Int) => ⟨[(0, (Sr a0)), (3, (I x5)), (5, (I o10)), (7, (I (a0.length : Int))), (8, (I x6))], [], 24⟩) (et (j2 (p := 7) (dk := true) (t := [(0, (Sr a0)), (3, (I x5)), (4, (I x6)), (7, (I (a0.length : Int))), (8, (I x6))]) (σ := []) (n := 24) rfl (by decide) (by decide) rfl) <| et (j9 (m := 1) (j := 1) (t' := [(0, (Sr a0)), (3, (I x5)), (4, (I x6)), (7, (I (a0.length : Int))), (8, (I x6)), (11, (I x5))]) rfl rfl rfl) <| et (c9 (x := (cut ([68, 76, 80] : Str) x5 (([68, 76, 80] : Str).length : Int))) (w := fun v7 => (Sr v7)) rfl rfl rfl rfl rfl (w5 rfl rfl rfl rfl rfl rfl underlying9)) <| j6 fun v7 => et (i7 (m := 2) (j := 4) (t' := [(0, (Sr a0)), (3, (I x5)), (4, (I x6)), (7, (I (a0.length : Int))), (8, (I x6)), (11, (I x5)), (12, (Sr v7)), (13, (Sr a0)), (14, (I x6))]) rfl rfl rfl) <| et (c9 (x := (J7 a0 x6)) (w := fun v8 => (V.int .u8 v8)) rfl rfl rfl rfl rfl (w7 rfl rfl rfl underlying9)) <| j6 fun v8 => et (i7 (m := 0) (j := 5) (t' := [(0, (Sr a0)), (3, (I x5)), (4, (I x6)), (7, (I (a0.length : Int))), (8, (I x6)), (11, (I x5)), (12, (Sr v7)), (13, (Sr a0)), (14, (I x6)), (15, (V.int .u8 v8))]) rfl rfl rfl) <| et (c9 (x := (strings_IndexByte k v7 v8)) (w := fun v9 => (I v9)) rfl rfl rfl rfl rfl (d7 rfl rfl rfl rfl rfl (cH k v7 v8) (.inl rfl))) <| B7 fun v9 => j8 rfl) fun o10 => et b6 <| kra [(18, (Bo (decide (o10 < 0))))] rfl <| kc rfl rfl (fun hc => ?_) fun hc => ?_
   ·rw [hc]
    refine et b6 <| kr ⟨[(2, (Bo false))], [], 24⟩ rfl <| et n6 <| et l6 <| et l8 <| et (hret _) ?_
    rfl
   ·rw [hc]
    exact et d6 <| kl ⟨[(0, (Sr a0)), (3, (I (Go.IntKind.wrap .i64 (x5 + (Go.IntKind.wrap .i64 (o10 + 1)))))), (7, (I (a0.length : Int))), (8, (I x6))], [], 24⟩ rfl <| et i6 <| kl ⟨[(0, (Sr a0)), (3, (I (Go.IntKind.wrap .i64 (x5 + (Go.IntKind.wrap .i64 (o10 + 1)))))), (7, (I (a0.length : Int))), (8, (I (Go.IntKind.wrap .i64 (x6 + 1))))], [], 24⟩ rfl <| et i3 <| ih (Go.IntKind.wrap .i64 (x5 + (Go.IntKind.wrap .i64 (o10 + 1)))) (Go.IntKind.wrap .i64 (x6 + 1))
  ·rw [hc]
   exact et p7 <| et j3 <| hK0 x5 x6
theorem dm (k : Nat) (a0 : Str) : EV k 97 [(Sr a0)] = (dM k a0).map bP := by
 cases k with
 | zero => rfl
 | succ k =>
  unfold dM
  refine et (i5 (c := f97c) (N := 24) (regs := HH) rfl func97 rfl (by decide) rfl rfl rfl) <| kra [] rfl <| kra [(3, (I 0))] rfl <| et b6 <| kra [(7, (I (a0.length : Int))), (8, (I 0))] rfl <| et (i9 rfl) <| et p8 ?_
  refine kf k a0 _ _ ?h_ssa_areCodes_L1_0 ?hr_ssa_areCodes_L1 k 0 0
  ·intro y11 y12
   refine et j5 <| kr ⟨[(2, (Bo true))], [], 24⟩ rfl <| et i1 ?_
   rfl
  ·intro s; exact rfl
def R4 : Int → V × List V := fun r => ((I r), [])
theorem eJ (k : Nat) (a0 : (List Int)) (a1 : Nat → Int → Option Bool) (a1_fid : Go.FuncId) (a1_c0 : V) (a1_hok : ∀ j x0, EV j a1_fid [(I x0), V.pro a1_c0] = (a1 j x0).map fun b => ((Bo b), [])) (K0 : Int → Option Int) (Kst : X × St → Option (V × List V)) (hK0 : ∀ (y0 : Int), Kst (X.exit 0, ⟨[(0, (sI a0)), (1, (V.fn a1_fid [] [V.pro a1_c0])), (7, (I (a0.length : Int))), (8, (I y0)), (9, (Bo false))], [], 19⟩) = (K0 y0).map R4) (hret : ∀ s, Kst (X.ret, s) = F6 prog 19 [(sI a0), (V.fn a1_fid [] [V.pro a1_c0])] [] [.tmp 4] (X.ret, s)) :
  ∀ (m : Nat) (x4 : Int), (D1 (u1 prog (EV k) yo k AD) m ⟨[(0, (sI a0)), (1, (V.fn a1_fid [] [V.pro a1_c0])), (7, (I (a0.length : Int))), (8, (I x4))], [], 19⟩).bind Kst = (E6 k a0 a1 K0 m x4).map R4 := by
 intro m
 induction m with
 | zero => intros; rfl
 | succ m ih =>
  intro x4
  unfold E6
  refine et l9 <| kra [(9, (Bo (decide (x4 < (a0.length : Int)))))] rfl <| kc rfl rfl (fun hc => ?_) fun hc => ?_
  ·rw [hc]
   refine et d6 <| et (i9 rfl) <| kr ⟨[(0, (sI a0)), (1, (V.fn a1_fid [] [V.pro a1_c0])), (5, (I x4)), (7, (I (a0.length : Int))), (8, (I x4))], [], 19⟩ rfl <| kga Ay rfl (fun (o7 : Bool) => [(16, (Bo o7))]) (rd 3 [(11, (V.fn a1_fid [] [V.pro a1_c0])), (12, (sI a0)), (13, (I x4))] rfl rfl <| rp rfl (i2 (e := I) rfl rfl rfl underlying58 rfl (by decide)) fun v5 => bd 5 [(14, (Pr (I v5))), (15, (I v5))] rfl rfl <| rs rfl (d7 rfl rfl rfl rfl rfl (a1_hok k v5) (.inl rfl)) fun v6 => b5 rfl) fun o7 => kcl rfl rfl (fun hc => ?_) fun hc => ?_
   ·rw [hc]
    refine kr ⟨[(4, (I x4))], [], 19⟩ rfl <| et i1 <| et l6 <| et l8 <| et (hret _) ?_
    rfl
   ·rw [hc]
    exact et m9 <| et i6 <| kl ⟨[(0, (sI a0)), (1, (V.fn a1_fid [] [V.pro a1_c0])), (7, (I (a0.length : Int))), (8, (I (Go.IntKind.wrap .i64 (x4 + 1))))], [], 19⟩ rfl <| et i3 <| ih (Go.IntKind.wrap .i64 (x4 + 1))
  ·rw [hc]
   exact et p7 <| et j3 <| hK0 x4
theorem gi (k : Nat) (a0 : (List Int)) (a1 : Nat → Int → Option Bool) (a1_fid : Go.FuncId) (a1_c0 : V) (a1_hok : ∀ j x0, EV j a1_fid [(I x0), V.pro a1_c0] = (a1 j x0).map fun b => ((Bo b), [])) : EV k 132 [(sI a0), (V.fn a1_fid [] [V.pro a1_c0])] = (P2 k a0 a1).map R4 := by
 cases k with
 | zero => rfl
 | succ k =>
  unfold P2
  refine et (i5 (c := Yv) (N := 19) (regs := yo) rfl func132 rfl (by decide) rfl rfl rfl) <| kra [] rfl <| et b6 <| krp yg rfl ⟨[(0, (sI a0)), (1, (V.fn a1_fid [] [V.pro a1_c0])), (7, (I (a0.length : Int))), (8, (I 0))], [], 19⟩ ?_ ?_
  ·exact rd 1 [(6, (sI a0))] rfl rfl <| rl rfl (n7 (e := I) rfl rfl rfl rfl rfl rfl underlying58) <| b5 rfl
  refine et (i9 rfl) <| et p8 ?_
  refine eJ k a0 a1 a1_fid a1_c0 a1_hok _ _ ?h_slices_IndexFunc_int_L1_0 ?hr_slices_IndexFunc_int_L1 k 0
  ·intro y8
   refine et j5 <| kr ⟨[(4, (I (-1)))], [], 19⟩ rfl <| et i1 ?_
   rfl
  ·intro s; exact rfl
def dX : Bool → V × List V := fun r => ((Bo r), [])
theorem eL (k : Nat) (a0 : (List Int)) (a1 : Nat → Int → Option Bool) (a1_fid : Go.FuncId) (a1_c0 : V) (a1_hok : ∀ j x0, EV j a1_fid [(I x0), V.pro a1_c0] = (a1 j x0).map fun b => ((Bo b), [])) : EV k 118 [(sI a0), (V.fn a1_fid [] [V.pro a1_c0])] = (B6 k a0 a1).map dX := by
 cases k with
 | zero => rfl
 | succ k =>
  unfold B6
  refine et (i5 (c := Qa) (N := 9) (regs := FC) rfl func118 rfl (by decide) rfl rfl rfl) <| kra [] rfl <| kg xG rfl (fun (o2 : Bool) => ⟨[(4, (Bo o2))], [], 9⟩) (rd 2 [(5, (sI a0)), (6, (V.fn a1_fid [] [V.pro a1_c0]))] rfl rfl <| rp rfl (d7 rfl rfl rfl rfl rfl (gi k a0 a1 a1_fid a1_c0 a1_hok) (.inl rfl)) fun v1 => b5 rfl) fun o2 => et i1 ?_
  rfl
def nY : Bool → V × List V := fun r => ((Bo r), [])
theorem pK (k : Nat) (a0 : Int) (a1 : a8) : EV k 119 [(I a0), (Pr (b7 a1))] = (aS k a0 a1).map nY := by
 cases k with
 | zero => rfl
 | succ k =>
  unfold aS
  refine et (i5 (c := OG) (N := 13) (regs := CV) rfl func119 rfl (by decide) rfl rfl rfl) <| kra [] rfl <| kg yc rfl (fun (o1 : Bool) => ⟨[(3, (Bo o1))], [], 13⟩) ?_ fun o1 => ?_
  ·refine rd 3 [(4, (I a0)), (5, (Bo (decide (a0 < 0)))), (6, (Bo (decide (a0 < 0))))] rfl rfl <| n5 (fun hc => ?_) fun hc => ?_
   ·rw [hc]
    exact d5 rfl
   ·rw [hc]
    exact rd 6 [(7, (I a0)), (8, (Pr (l7 a1.fTypes))), (9, (l7 a1.fTypes))] rfl rfl <| rl rfl (n7 (e := j0) rfl rfl rfl rfl rfl rfl underlying22) <| b5 rfl
  refine et i1 ?_
  rfl
def qr : Int → V × List V := fun r => ((I r), [])
theorem hI (k : Nat) (a0 : a8) (a1 : (List Int)) : EV k 90 [(b7 a0), (sI a1)] = (ci k a0 a1).map qr := by
 cases k with
 | zero => rfl
 | succ k =>
  unfold ci
  refine et (i5 (c := f90c) (N := 13) (regs := ZA) rfl func90 rfl (by decide) rfl rfl rfl) <| kr ⟨[(1, (sI a1)), (2, (Pt 2))], [(2, vS 4 (b7 a0))], 13⟩ rfl <| et (i9 rfl) <| kga CR rfl (fun (o2 : Bool) => [(5, (Bo o2))]) (rd 1 [(6, (b7 a0))] rfl rfl <| rp rfl (d7 rfl rfl rfl rfl rfl (gX k a0) (.inl rfl)) fun v1 => b5 rfl) fun o2 => kcl rfl rfl (fun hc => ?_) fun hc => ?_
  ·rw [hc]
   refine kr ⟨[(4, (I 100))], [], 13⟩ rfl <| et i1 <| et l6 ?_
   rfl
  ·rw [hc]
   refine kg CJ rfl (fun (o4 : Bool) => ⟨[(9, (Bo o4))], [], 13⟩) (rd 2 [(10, (sI a1)), (11, (V.fn 119 [] [(Pt 2)]))] rfl rfl <| rs rfl (d7 rfl rfl rfl rfl rfl (eL k a1 (fun j x0 => (aS j x0 a0)) 119 (b7 a0) (fun j x0 => (pK j x0 a0))) (.inr (fun _ => rfl))) fun v3 => b5 rfl) fun o4 => kcl rfl rfl (fun hc => ?_) fun hc => ?_
   ·rw [hc]
    refine kr ⟨[(4, (I 2))], [], 13⟩ rfl <| et i1 <| et l6 ?_
    rfl
   ·rw [hc]
    refine et m9 <| et i6 <| kr ⟨[(4, (I 0))], [], 13⟩ rfl <| et i1 ?_
    rfl
def oA : Bool → V × List V := fun r => ((Bo r), [])
theorem qc (k : Nat) (a0 : b9) (a1 : Str) : EV k 93 [(j0 a0), (Pr (Sr a1))] = (eN k a0 a1).map oA := by
 cases k with
 | zero => rfl
 | succ k =>
  unfold eN
  refine et (i5 (c := f93c) (N := 8) (regs := ac2) rfl func93 rfl (by decide) rfl rfl rfl) <| kr ⟨[(1, (Pr (Sr a1))), (2, (Pt 2))], [(2, vS 8 (j0 a0))], 8⟩ rfl <| kr ⟨[(3, (Bo (a0.fName == a1)))], [], 8⟩ rfl <| et i1 ?_
  rfl
def qb : (Int × Int) → V × List V := fun r => (.tup [(I r.1), (I r.2)], [])
theorem sg (k : Nat) (a0 : Int) : EV k 91 [(I a0)] = (gt k a0).map qb := by
 cases k with
 | zero => rfl
 | succ k =>
  unfold gt
  refine et (i5 (c := f91c) (N := 7) (regs := aa2) rfl func91 rfl (by decide) rfl rfl rfl) <| kra [] rfl <| et b6 <| kra [(5, (Bo (decide (a0 < 0))))] rfl <| kc rfl rfl (fun hc => ?_) fun hc => ?_
  ·rw [hc]
   refine et b6 <| kr ⟨[(2, (I 0)), (3, (I 5))], [], 7⟩ rfl <| et n6 ?_
   rfl
  ·rw [hc]
   refine et d6 <| kr ⟨[(2, (I a0)), (3, (I 0))], [], 7⟩ rfl <| et i1 ?_
   rfl
def sf : (Int × Int) → V × List V := fun r => (.tup [(I r.1), (I r.2)], [])
theorem iP (k : Nat) (a0 : a8) (a1 : Str) : EV k 54 [(b7 a0), (Sr a1)] = (cw k a0 a1).map sf := by
 cases k with
 | zero => rfl
 | succ k =>
  unfold cw
  refine et (i5 (c := f54c) (N := 19) (regs := Tq) rfl func54 rfl (by decide) rfl rfl rfl) <| kr ⟨[(2, (Pt 2)), (3, (Pt 3))], [(2, vS 4 (b7 a0)), (3, vS 1 (Sr a1))], 19⟩ rfl <| et b6 <| kga Dz rfl (fun (o2 : Int) => [(6, (I o2))]) (rd 1 [(7, (b7 a0))] rfl rfl <| rs rfl (d7 rfl rfl rfl rfl rfl (hI k a0 ([] : List Int)) (.inl rfl)) fun v1 => b5 rfl) fun o2 => et b6 <| kra [(10, (Bo (o2 != 0)))] rfl <| kc rfl rfl (fun hc => ?_) fun hc => ?_
  ·rw [hc]
   refine et b6 <| kr ⟨[(4, (I 0)), (5, (I o2))], [], 19⟩ rfl <| et n6 ?_
   rfl
  ·rw [hc]
   refine et d6 <| kg EQ rfl (fun (o5 : Int × Int) => ⟨[(4, (I o5.1)), (5, (I o5.2))], [], 19⟩) (rd 3 [(12, (V.ptr 2 0 2)), (13, (l7 a0.fTypes)), (14, (V.fn 93 [] [(Pt 3)]))] rfl rfl <| rp rfl (d7 rfl rfl rfl rfl rfl (aw k a0.fTypes (fun j x0 => (eN j x0 a1)) 93 (Sr a1) (fun j x0 => (qc j x0 a1))) (.inr (fun _ => rfl))) fun v3 => bd 4 [(15, (I v3))] rfl rfl <| rp rfl (d7 rfl rfl rfl rfl rfl (sg k v3) (.inl rfl)) fun v4 => b5 rfl) fun o5 => et i1 ?_
   rfl
def hP : List Int → V × List V := fun r => (.tup [], [.sl 2 1 (List.map I r)])
theorem ir (k : Nat) (l : List Int) : EV k 135 [(V.sl 2 1 (List.map I l))] = (slices_Reverse_int k l).map hP := by
 cases k with
 | zero => rfl
 | succ k => exact (kZ (ext := ext) (f := 135) rfl).trans (kT l)
def iA : (List Int) → V × List V := fun r => ((sI r), [])
theorem qd (k : Nat) (a0 : a8) (a1 : Int)  (K0 : Int → (List Int) → Option (List Int)) (Kst : X × St → Option (V × List V)) (hK0 : ∀ (y0 : Int) (y1 : (List Int)), Kst (X.exit 0, ⟨[(1, (I y0)), (2, (Pt 2)), (5, (aL 5 I y1)), (7, (Bo false))], [(2, vS 4 (b7 a0)), (5, ⟨true, 1, List.map I y1⟩)], 21⟩) = (K0 y0 y1).map iA) (hret : ∀ s, Kst (X.ret, s) = F6 prog 21 [(b7 a0), (I a1)] [] [.tmp 4] (X.ret, s)) :
  ∀ (m : Nat) (x5 : Int) (x6 : (List Int)), (D1 (u1 prog (EV k) Ap k Am) m ⟨[(1, (I x5)), (2, (Pt 2)), (5, (aL 5 I x6))], [(2, vS 4 (b7 a0)), (5, ⟨true, 1, List.map I x6⟩)], 21⟩).bind Kst = (aH a0 K0 m x5 x6).map iA := by
 intro m
 induction m with
 | zero => intros; rfl
 | succ m ih =>
  intro x5 x6
  unfold aH
  refine et l9 <| et b6 <| kra [(7, (Bo (decide (x5 ≥ 0))))] rfl <| kc rfl rfl (fun hc => ?_) fun hc => ?_
  ·rw [hc]
   exact et d6 <| et (i9 rfl) <| kgl yE rfl (fun (o8 : (List Int)) => ⟨[(1, (I x5)), (2, (Pt 2)), (5, (aL 5 I o8))], [(2, vS 4 (b7 a0)), (5, ⟨true, 1, List.map I o8⟩)], 21⟩) (rd 3 [(14, (aL 5 I x6)), (15, (I x5)), (16, (sI (([x5] : List Int))))] rfl rfl <| et (P4 (x := (app x6 ([x5] : List Int))) (w := fun v7 => ((aL 5 I v7), _)) rfl rfl rfl rfl (uF (e := I) (l := x6) rfl rfl rfl rfl rfl rfl rfl rfl rfl rfl rfl (of_decide_eq_true rfl))) <| B7 fun v7 => b5 rfl) fun o8 => et i6 <| kgl yp rfl (fun (o10 : Int) => ⟨[(1, (I o10)), (2, (Pt 2)), (5, (aL 5 I o8))], [(2, vS 4 (b7 a0)), (5, ⟨true, 1, List.map I o8⟩)], 21⟩) (rd 3 [(8, (V.ptr 2 0 2)), (9, (l7 a0.fTypes)), (10, (I x5))] rfl rfl <| rp rfl (i2 (e := j0) rfl rfl rfl underlying22 rfl (by decide)) fun v9 => b5 rfl) fun o10 => et i3 <| ih o10 o8
  ·rw [hc]
   exact et p7 <| et j3 <| hK0 x5 x6
theorem pN (k : Nat) (a0 : a8) (a1 : Int) : EV k 122 [(b7 a0), (I a1)] = (jt k a0 a1).map iA := by
 cases k with
 | zero => rfl
 | succ k =>
  unfold jt
  refine et (i5 (c := adt) (N := 21) (regs := Ap) rfl func122 rfl (by decide) rfl rfl rfl) <| kr ⟨[(1, (I a1)), (2, (Pt 2))], [(2, vS 4 (b7 a0))], 21⟩ rfl <| kr ⟨[(1, (I a1)), (2, (Pt 2)), (5, (aL 5 I ([] : List Int)))], [(2, vS 4 (b7 a0)), (5, ⟨true, 1, List.map I ([] : List Int)⟩)], 21⟩ rfl <| et (i9 rfl) <| et p8 ?_
  refine qd k a0 a1 _ _ ?h_dbd_way_L1_0 ?hr_dbd_way_L1 k a1 ([] : List Int)
  ·intro y11 y12
   refine et j5 <| kg yr rfl (fun (o14 : (List Int)) => ⟨[(5, (aL 5 I o14))], [(5, ⟨true, 1, List.map I o14⟩)], 21⟩) (rd 1 [(18, (aL 5 I y12))] rfl rfl <| et (P4 (x := ((slices_Reverse_int k y12).bind (cm y12))) (w := fun v13 => (V.tup [], _)) rfl rfl rfl rfl (Br (S := (fun n_ => ⟨[(1, (I y11)), (2, (Pt 2)), (5, (V.aref 5 0 n_)), (7, (Bo false)), (18, (V.aref 5 0 n_))], [(2, vS 4 (b7 a0)), (5, ⟨true, 1, List.map I y12⟩)], 21⟩)) (e := I) rfl rfl rfl rfl rfl (HR (e := I) rfl) rfl (ir k y12))) <| B7 fun v13 => b5 rfl) fun o14 => krp xe rfl ⟨[(4, (sI o14))], [], 21⟩ ?_ ?_
   ·exact rd 1 [(20, (aL 5 I o14))] rfl rfl <| et (P4 (x := some ()) (w := fun _ => ((V.sl 2 1 (List.map I o14)), _)) rfl rfl rfl rfl (Bp (e := I) rfl rfl rfl rfl rfl (of_decide_eq_true rfl))) <| et Y8 <| b5 rfl
   refine et i1 ?_
   rfl
  ·intro s; exact rfl
def gc : Bool → V × List V := fun r => ((Bo r), [])
theorem gU (k : Nat) (a0 : (List Int)) (a1 : Int) : EV k 121 [(sI a0), (I a1)] = (J8 k a0 a1).map gc := by
 cases k with
 | zero => rfl
 | succ k =>
  unfold J8
  refine et (i5 (c := aak) (N := 9) (regs := Dw) rfl func121 rfl (by decide) rfl rfl rfl) <| kra [] rfl <| kg yk rfl (fun (o2 : Bool) => ⟨[(4, (Bo o2))], [], 9⟩) (rd 2 [(5, (sI a0)), (6, (I a1))] rfl rfl <| rp rfl (d7 rfl rfl rfl rfl rfl (dI k a0 a1) (.inl rfl)) fun v1 => b5 rfl) fun o2 => et i1 ?_
  rfl
def nQ : (Bool × Int) → V × List V := fun r => (.tup [(Bo r.1), (I r.2)], [])
theorem pO (k : Nat) (a0 : a8) (a1 : Int) (a2 : Int) : EV k 98 [(b7 a0), (I a1), (I a2)] = (dd k a0 a1 a2).map nQ := by
 cases k with
 | zero => rfl
 | succ k =>
  unfold dd
  refine et (i5 (c := f98c) (N := 27) (regs := abm) rfl func98 rfl (by decide) rfl rfl rfl) <| kr ⟨[(1, (I a1)), (2, (I a2)), (3, (Pt 3))], [(3, vS 4 (b7 a0))], 27⟩ rfl <| et b6 <| kga FI rfl (fun (o2 : Int) => [(8, (I o2))]) (rd 4 [(9, (b7 a0)), (10, (I a1)), (11, (I a2)), (12, (sI (([a1, a2] : List Int))))] rfl rfl <| rs rfl (d7 rfl rfl rfl rfl rfl (hI k a0 ([a1, a2] : List Int)) (.inl rfl)) fun v1 => b5 rfl) fun o2 => et b6 <| kra [(15, (Bo (o2 != 0)))] rfl <| kc rfl rfl (fun hc => ?_) fun hc => ?_
  ·rw [hc]
   refine et b6 <| kr ⟨[(6, (Bo false)), (7, (I o2))], [], 27⟩ rfl <| et n6 ?_
   rfl
  ·rw [hc]
   refine et d6 <| kg Ev rfl (fun (o5 : Bool × Int) => ⟨[(6, (Bo o5.1)), (7, (I o5.2))], [], 27⟩) ?_ fun o5 => ?_
   ·refine rd 4 [(17, (I a1)), (18, (I a2)), (19, (Bo (a1 != a2))), (20, (Bo (a1 != a2)))] rfl rfl <| n5 (fun hc => ?_) fun hc => ?_
    ·rw [hc]
     exact rd 6 [(21, (b7 a0)), (22, (I a2))] rfl rfl <| rp rfl (d7 rfl rfl rfl rfl rfl (pN k a0 a2) (.inl rfl)) fun v3 => bd 8 [(23, (sI v3)), (24, (I a1))] rfl rfl <| rp rfl (d7 rfl rfl rfl rfl rfl (gU k v3 a1) (.inl rfl)) fun v4 => b5 rfl
    ·rw [hc]
     exact d5 rfl
   refine et i1 ?_
   rfl
def sR : ((List Int) × Int) → V × List V := fun r => (.tup [(sI r.1), (I r.2)], [])
theorem uh (k : Nat) (a0 : a8) (a1 : Int) : EV k 123 [(b7 a0), (I a1)] = (lm k a0 a1).map sR := by
 cases k with
 | zero => rfl
 | succ k =>
  unfold lm
  refine et (i5 (c := Ye) (N := 17) (regs := En) rfl func123 rfl (by decide) rfl rfl rfl) <| kr ⟨[(1, (I a1)), (2, (Pt 2))], [(2, vS 4 (b7 a0))], 17⟩ rfl <| et b6 <| kga yK rfl (fun (o2 : Int) => [(6, (I o2))]) (rd 3 [(7, (b7 a0)), (8, (I a1)), (9, (sI (([a1] : List Int))))] rfl rfl <| rs rfl (d7 rfl rfl rfl rfl rfl (hI k a0 ([a1] : List Int)) (.inl rfl)) fun v1 => b5 rfl) fun o2 => et b6 <| kra [(12, (Bo (o2 != 0)))] rfl <| kc rfl rfl (fun hc => ?_) fun hc => ?_
  ·rw [hc]
   refine et b6 <| kr ⟨[(4, (sI (([] : List Int)))), (5, (I o2))], [], 17⟩ rfl <| et n6 ?_
   rfl
  ·rw [hc]
   refine et d6 <| kg yS rfl (fun (o4 : (List Int) × Int) => ⟨[(4, (sI o4.1)), (5, (I o4.2))], [], 17⟩) (rd 2 [(14, (b7 a0)), (15, (I a1))] rfl rfl <| rp rfl (d7 rfl rfl rfl rfl rfl (pN k a0 a1) (.inl rfl)) fun v3 => b5 rfl) fun o4 => et i1 ?_
   rfl
def qk : (Int × Int) → V × List V := fun r => (.tup [(I r.1), (I r.2)], [])
theorem si (k : Nat) (a0 : a8) (a1 : Int) : EV k 102 [(b7 a0), (I a1)] = (gu k a0 a1).map qk := by
 cases k with
 | zero => rfl
 | succ k =>
  unfold gu
  refine et (i5 (c := adm) (N := 17) (regs := Fm) rfl func102 rfl (by decide) rfl rfl rfl) <| kr ⟨[(1, (I a1)), (2, (Pt 2))], [(2, vS 4 (b7 a0))], 17⟩ rfl <| kg zH rfl (fun (o2 : (List Int) × Int) => ⟨[(6, (sI o2.1)), (7, (I o2.2))], [], 17⟩) (rd 2 [(9, (b7 a0)), (10, (I a1))] rfl rfl <| rp rfl (d7 rfl rfl rfl rfl rfl (uh k a0 a1) (.inl rfl)) fun v1 => b5 rfl) fun o2 => krp AL rfl ⟨[(4, (I (o2.1.length : Int))), (5, (I o2.2))], [], 17⟩ ?_ ?_
  ·exact rd 1 [(14, (sI o2.1))] rfl rfl <| rl rfl (n7 (e := I) rfl rfl rfl rfl rfl rfl underlying58) <| b5 rfl
  refine et i1 ?_
  rfl
def om : Int → V × List V := fun r => ((I r), [])
theorem M1 (k : Nat) (a0 : a8) (a1 : Int) : EV k 71 [(b7 a0), (I a1)] = (X8 k a0 a1).map om := by
 cases k with
 | zero => rfl
 | succ k =>
  unfold X8
  refine et (i5 (c := f71c) (N := 14) (regs := Zf) rfl func71 rfl (by decide) rfl rfl rfl) <| kr ⟨[(1, (I a1)), (2, (Pt 2))], [(2, vS 4 (b7 a0))], 14⟩ rfl <| kg DJ rfl (fun (o2 : Int) => ⟨[(6, (I o2))], [], 14⟩) (rd 2 [(8, (b7 a0)), (9, (I a1))] rfl rfl <| rp rfl (d7 rfl rfl rfl rfl rfl (si k a0 a1) (.inl rfl)) fun v1 => b5 rfl) fun o2 => kr ⟨[(4, (I o2))], [], 14⟩ rfl <| et i1 ?_
  rfl
def N2 : Int → V × List V := fun r => ((I r), [])
theorem dl (k : Nat) (a0 : (List (List a6))) (a1 : Nat → (List a6) → Option Bool) (a1_fid : Go.FuncId) (a1_c0 : V) (a1_hok : ∀ j x0, EV j a1_fid [(a7 x0), V.pro a1_c0] = (a1 j x0).map fun b => ((Bo b), [])) (K0 : Int → Option Int) (Kst : X × St → Option (V × List V)) (hK0 : ∀ (y0 : Int), Kst (X.exit 0, ⟨[(0, (V.sl 0 1 (List.map a7 a0))), (1, (V.fn a1_fid [] [V.pro a1_c0])), (7, (I (a0.length : Int))), (8, (I y0)), (9, (Bo false))], [], 19⟩) = (K0 y0).map N2) (hret : ∀ s, Kst (X.ret, s) = F6 prog 19 [(V.sl 0 1 (List.map a7 a0)), (V.fn a1_fid [] [V.pro a1_c0])] [] [.tmp 4] (X.ret, s)) :
  ∀ (m : Nat) (x4 : Int), (D1 (u1 prog (EV k) xZ k yu) m ⟨[(0, (V.sl 0 1 (List.map a7 a0))), (1, (V.fn a1_fid [] [V.pro a1_c0])), (7, (I (a0.length : Int))), (8, (I x4))], [], 19⟩).bind Kst = (C7 k a0 a1 K0 m x4).map N2 := by
 intro m
 induction m with
 | zero => intros; rfl
 | succ m ih =>
  intro x4
  unfold C7
  refine et l9 <| kra [(9, (Bo (decide (x4 < (a0.length : Int)))))] rfl <| kc rfl rfl (fun hc => ?_) fun hc => ?_
  ·rw [hc]
   refine et d6 <| et (i9 rfl) <| kr ⟨[(0, (V.sl 0 1 (List.map a7 a0))), (1, (V.fn a1_fid [] [V.pro a1_c0])), (5, (I x4)), (7, (I (a0.length : Int))), (8, (I x4))], [], 19⟩ rfl <| kga xP rfl (fun (o7 : Bool) => [(16, (Bo o7))]) (rd 3 [(11, (V.fn a1_fid [] [V.pro a1_c0])), (12, (V.sl 0 1 (List.map a7 a0))), (13, (I x4))] rfl rfl <| rp rfl (i2 (e := a7) rfl rfl rfl underlying26 rfl (by decide)) fun v5 => bd 5 [(14, (Pr (a7 v5))), (15, (a7 v5))] rfl rfl <| rs rfl (d7 rfl rfl rfl rfl rfl (a1_hok k v5) (.inl rfl)) fun v6 => b5 rfl) fun o7 => kcl rfl rfl (fun hc => ?_) fun hc => ?_
   ·rw [hc]
    refine kr ⟨[(4, (I x4))], [], 19⟩ rfl <| et i1 <| et l6 <| et l8 <| et (hret _) ?_
    rfl
   ·rw [hc]
    exact et m9 <| et i6 <| kl ⟨[(0, (V.sl 0 1 (List.map a7 a0))), (1, (V.fn a1_fid [] [V.pro a1_c0])), (7, (I (a0.length : Int))), (8, (I (Go.IntKind.wrap .i64 (x4 + 1))))], [], 19⟩ rfl <| et i3 <| ih (Go.IntKind.wrap .i64 (x4 + 1))
  ·rw [hc]
   exact et p7 <| et j3 <| hK0 x4
theorem fj (k : Nat) (a0 : (List (List a6))) (a1 : Nat → (List a6) → Option Bool) (a1_fid : Go.FuncId) (a1_c0 : V) (a1_hok : ∀ j x0, EV j a1_fid [(a7 x0), V.pro a1_c0] = (a1 j x0).map fun b => ((Bo b), [])) : EV k 124 [(V.sl 0 1 (List.map a7 a0)), (V.fn a1_fid [] [V.pro a1_c0])] = (K7 k a0 a1).map N2 := by
 cases k with
 | zero => rfl
 | succ k =>
  unfold K7
  refine et (i5 (c := acN) (N := 19) (regs := xZ) rfl func124 rfl (by decide) rfl rfl rfl) <| kra [] rfl <| et b6 <| krp xw rfl ⟨[(0, (V.sl 0 1 (List.map a7 a0))), (1, (V.fn a1_fid [] [V.pro a1_c0])), (7, (I (a0.length : Int))), (8, (I 0))], [], 19⟩ ?_ ?_
  ·exact rd 1 [(6, (V.sl 0 1 (List.map a7 a0)))] rfl rfl <| rl rfl (n7 (e := a7) rfl rfl rfl rfl rfl rfl underlying26) <| b5 rfl
  refine et (i9 rfl) <| et p8 ?_
  refine dl k a0 a1 a1_fid a1_c0 a1_hok _ _ ?h_slices_IndexFunc_TermL_L1_0 ?hr_slices_IndexFunc_TermL_L1 k 0
  ·intro y8
   refine et j5 <| kr ⟨[(4, (I (-1)))], [], 19⟩ rfl <| et i1 ?_
   rfl
  ·intro s; exact rfl
def db : Bool → V × List V := fun r => ((Bo r), [])
theorem dz (k : Nat) (a0 : (List (List a6))) (a1 : Nat → (List a6) → Option Bool) (a1_fid : Go.FuncId) (a1_c0 : V) (a1_hok : ∀ j x0, EV j a1_fid [(a7 x0), V.pro a1_c0] = (a1 j x0).map fun b => ((Bo b), [])) : EV k 104 [(V.sl 0 1 (List.map a7 a0)), (V.fn a1_fid [] [V.pro a1_c0])] = (A5 k a0 a1).map db := by
 cases k with
 | zero => rfl
 | succ k =>
  unfold A5
  refine et (i5 (c := OS) (N := 9) (regs := BG) rfl func104 rfl (by decide) rfl rfl rfl) <| kra [] rfl <| kg ym rfl (fun (o2 : Bool) => ⟨[(4, (Bo o2))], [], 9⟩) (rd 2 [(5, (V.sl 0 1 (List.map a7 a0))), (6, (V.fn a1_fid [] [V.pro a1_c0]))] rfl rfl <| rp rfl (d7 rfl rfl rfl rfl rfl (fj k a0 a1 a1_fid a1_c0 a1_hok) (.inl rfl)) fun v1 => b5 rfl) fun o2 => et i1 ?_
  rfl
def O4 : Int → V × List V := fun r => ((I r), [])
theorem dR (k : Nat) (a0 : (List a6)) (a1 : Nat → a6 → Option Bool) (a1_fid : Go.FuncId) (a1_c0 : V) (a1_hok : ∀ j x0, EV j a1_fid [(d4 x0), V.pro a1_c0] = (a1 j x0).map fun b => ((Bo b), [])) (K0 : Int → Option Int) (Kst : X × St → Option (V × List V)) (hK0 : ∀ (y0 : Int), Kst (X.exit 0, ⟨[(0, (a7 a0)), (1, (V.fn a1_fid [] [V.pro a1_c0])), (7, (I (a0.length : Int))), (8, (I y0)), (9, (Bo false))], [], 19⟩) = (K0 y0).map O4) (hret : ∀ s, Kst (X.ret, s) = F6 prog 19 [(a7 a0), (V.fn a1_fid [] [V.pro a1_c0])] [] [.tmp 4] (X.ret, s)) :
  ∀ (m : Nat) (x4 : Int), (D1 (u1 prog (EV k) xB k za) m ⟨[(0, (a7 a0)), (1, (V.fn a1_fid [] [V.pro a1_c0])), (7, (I (a0.length : Int))), (8, (I x4))], [], 19⟩).bind Kst = (D7 k a0 a1 K0 m x4).map O4 := by
 intro m
 induction m with
 | zero => intros; rfl
 | succ m ih =>
  intro x4
  unfold D7
  refine et l9 <| kra [(9, (Bo (decide (x4 < (a0.length : Int)))))] rfl <| kc rfl rfl (fun hc => ?_) fun hc => ?_
  ·rw [hc]
   refine et d6 <| et (i9 rfl) <| kr ⟨[(0, (a7 a0)), (1, (V.fn a1_fid [] [V.pro a1_c0])), (5, (I x4)), (7, (I (a0.length : Int))), (8, (I x4))], [], 19⟩ rfl <| kga yz rfl (fun (o7 : Bool) => [(16, (Bo o7))]) (rd 3 [(11, (V.fn a1_fid [] [V.pro a1_c0])), (12, (a7 a0)), (13, (I x4))] rfl rfl <| rp rfl (i2 (e := d4) rfl rfl rfl underlying56 rfl (by decide)) fun v5 => bd 5 [(14, (Pr (d4 v5))), (15, (d4 v5))] rfl rfl <| rs rfl (d7 rfl rfl rfl rfl rfl (a1_hok k v5) (.inl rfl)) fun v6 => b5 rfl) fun o7 => kcl rfl rfl (fun hc => ?_) fun hc => ?_
   ·rw [hc]
    refine kr ⟨[(4, (I x4))], [], 19⟩ rfl <| et i1 <| et l6 <| et l8 <| et (hret _) ?_
    rfl
   ·rw [hc]
    exact et m9 <| et i6 <| kl ⟨[(0, (a7 a0)), (1, (V.fn a1_fid [] [V.pro a1_c0])), (7, (I (a0.length : Int))), (8, (I (Go.IntKind.wrap .i64 (x4 + 1))))], [], 19⟩ rfl <| et i3 <| ih (Go.IntKind.wrap .i64 (x4 + 1))
  ·rw [hc]
   exact et p7 <| et j3 <| hK0 x4
theorem fR (k : Nat) (a0 : (List a6)) (a1 : Nat → a6 → Option Bool) (a1_fid : Go.FuncId) (a1_c0 : V) (a1_hok : ∀ j x0, EV j a1_fid [(d4 x0), V.pro a1_c0] = (a1 j x0).map fun b => ((Bo b), [])) : EV k 125 [(a7 a0), (V.fn a1_fid [] [V.pro a1_c0])] = (N8 k a0 a1).map O4 := by
 cases k with
 | zero => rfl
 | succ k =>
  unfold N8
  refine et (i5 (c := Wg) (N := 19) (regs := xB) rfl func125 rfl (by decide) rfl rfl rfl) <| kra [] rfl <| et b6 <| krp zq rfl ⟨[(0, (a7 a0)), (1, (V.fn a1_fid [] [V.pro a1_c0])), (7, (I (a0.length : Int))), (8, (I 0))], [], 19⟩ ?_ ?_
  ·exact rd 1 [(6, (a7 a0))] rfl rfl <| rl rfl (n7 (e := d4) rfl rfl rfl rfl rfl rfl underlying56) <| b5 rfl
  refine et (i9 rfl) <| et p8 ?_
  refine dR k a0 a1 a1_fid a1_c0 a1_hok _ _ ?h_slices_IndexFunc_Term_L1_0 ?hr_slices_IndexFunc_Term_L1 k 0
  ·intro y8
   refine et j5 <| kr ⟨[(4, (I (-1)))], [], 19⟩ rfl <| et i1 ?_
   rfl
  ·intro s; exact rfl
def df : Bool → V × List V := fun r => ((Bo r), [])
theorem dQ (k : Nat) (a0 : (List a6)) (a1 : Nat → a6 → Option Bool) (a1_fid : Go.FuncId) (a1_c0 : V) (a1_hok : ∀ j x0, EV j a1_fid [(d4 x0), V.pro a1_c0] = (a1 j x0).map fun b => ((Bo b), [])) : EV k 106 [(a7 a0), (V.fn a1_fid [] [V.pro a1_c0])] = (B1 k a0 a1).map df := by
 cases k with
 | zero => rfl
 | succ k =>
  unfold B1
  refine et (i5 (c := WL) (N := 9) (regs := Ck) rfl func106 rfl (by decide) rfl rfl rfl) <| kra [] rfl <| kg xj rfl (fun (o2 : Bool) => ⟨[(4, (Bo o2))], [], 9⟩) (rd 2 [(5, (a7 a0)), (6, (V.fn a1_fid [] [V.pro a1_c0]))] rfl rfl <| rp rfl (d7 rfl rfl rfl rfl rfl (fR k a0 a1 a1_fid a1_c0 a1_hok) (.inl rfl)) fun v1 => b5 rfl) fun o2 => et i1 ?_
  rfl
def lL : Bool → V × List V := fun r => ((Bo r), [])
theorem mQ (k : Nat) (a0 : i4) (a1 : Str) : EV k 134 [(l5 a0), (Pr (Sr a1))] = (ap k a0 a1).map lL := by
 cases k with
 | zero => rfl
 | succ k =>
  unfold ap
  refine et (i5 (c := Yf) (N := 8) (regs := EM) rfl func134 rfl (by decide) rfl rfl rfl) <| kr ⟨[(1, (Pr (Sr a1))), (2, (Pt 2))], [(2, vS 3 (l5 a0))], 8⟩ rfl <| kr ⟨[(3, (Bo (a0.fName == a1)))], [], 8⟩ rfl <| et i1 ?_
  rfl
def nT : (Int × Bool) → V × List V := fun r => (.tup [(I r.1), (Bo r.2)], [])
theorem W9 (k : Nat) (a0 : b9) (a1 : Str) : EV k 120 [(j0 a0), (Sr a1)] = (aZ k a0 a1).map nT := by
 cases k with
 | zero => rfl
 | succ k =>
  unfold aZ
  refine et (i5 (c := aaR) (N := 14) (regs := CE) rfl func120 rfl (by decide) rfl rfl rfl) <| kr ⟨[(2, (Pt 2)), (3, (Pt 3))], [(2, vS 8 (j0 a0)), (3, vS 1 (Sr a1))], 14⟩ rfl <| kg zX rfl (fun (o2 : Int) => ⟨[(6, (I o2))], [], 14⟩) (rd 3 [(7, (V.ptr 2 0 4)), (8, (k0 a0.fFields)), (9, (V.fn 134 [] [(Pt 3)]))] rfl rfl <| rs rfl (d7 rfl rfl rfl rfl rfl (ah k a0.fFields (fun j x0 => (ap j x0 a1)) 134 (Sr a1) (fun j x0 => (mQ j x0 a1))) (.inr (fun _ => rfl))) fun v1 => b5 rfl) fun o2 => kr ⟨[(4, (I o2)), (5, (Bo (decide (o2 ≥ 0))))], [], 14⟩ rfl <| et i1 ?_
  rfl
def nr : Bool → V × List V := fun r => ((Bo r), [])
theorem dt (k : Nat) (a0 : b9) (a1 : a6) : EV k 108 [(j0 a0), (d4 a1)] = (bi k a0 a1).map nr := by
 cases k with
 | zero => rfl
 | succ k =>
  unfold bi
  refine et (i5 (c := VH) (N := 37) (regs := CA) rfl func108 rfl (by decide) rfl rfl rfl) <| kr ⟨[(2, (Pt 2)), (3, (Pt 3))], [(2, vS 8 (j0 a0)), (3, vS 3 (d4 a1))], 37⟩ rfl <| kga Ag rfl (fun (o2 : Int × Bool) => [(5, (I o2.1)), (6, (Bo o2.2))]) (rd 3 [(8, (j0 a0)), (9, (Pt 3)), (10, (Sr a1.fField))] rfl rfl <| rp rfl (d7 rfl rfl rfl rfl rfl (W9 k a0 a1.fField) (.inl rfl)) fun v1 => b5 rfl) fun o2 => kd yQ rfl (fun (o4 : Bool) => ⟨[(4, (Bo o4))], [], 37⟩) ?_ fun o4 => ?_
  ·refine et (j2 (p := 24) (dk := true) (t := [(2, (Pt 2)), (3, (Pt 3)), (5, (I o2.1)), (6, (Bo o2.2))]) (σ := [(2, vS 8 (j0 a0)), (3, vS 3 (d4 a1))]) (n := 37) rfl (by decide) (by decide) rfl) <| et (j9 (m := 2) (j := 2) (t' := [(2, (Pt 2)), (3, (Pt 3)), (5, (I o2.1)), (6, (Bo o2.2)), (14, (Bo o2.2)), (15, (Bo o2.2))]) rfl rfl rfl) <| n5 (fun hc => ?_) fun hc => ?_
   ·rw [hc]
    refine et (j9 (m := 5) (j := 7) (t' := [(2, (Pt 2)), (3, (Pt 3)), (5, (I o2.1)), (6, (Bo true)), (14, (Bo true)), (15, (Bo true)), (16, (V.ptr 3 0 1)), (17, (I a1.fOp)), (18, (Bo (decide (a1.fOp ≥ 1)))), (19, (Bo (decide (a1.fOp ≥ 1)))), (20, (Bo (decide (a1.fOp ≥ 1))))]) rfl rfl rfl) <| n5 (fun hc => ?_) fun hc => ?_
    ·rw [hc]
     refine et (j9 (m := 5) (j := 12) (t' := [(2, (Pt 2)), (3, (Pt 3)), (5, (I o2.1)), (6, (Bo true)), (14, (Bo true)), (15, (Bo true)), (16, (V.ptr 3 0 1)), (17, (I a1.fOp)), (18, (Bo true)), (19, (Bo true)), (20, (Bo true)), (21, (V.ptr 3 0 1)), (22, (I a1.fOp)), (23, (Bo (decide (a1.fOp ≤ 6)))), (24, (Bo (decide (a1.fOp ≤ 6)))), (25, (Bo (decide (a1.fOp ≤ 6))))]) rfl rfl rfl) <| n5 (fun hc => ?_) fun hc => ?_
     ·rw [hc]
      exact et (j9 (m := 6) (j := 18) (t' := [(2, (Pt 2)), (3, (Pt 3)), (5, (I o2.1)), (6, (Bo true)), (14, (Bo true)), (15, (Bo true)), (16, (V.ptr 3 0 1)), (17, (I a1.fOp)), (18, (Bo true)), (19, (Bo true)), (20, (Bo true)), (21, (V.ptr 3 0 1)), (22, (I a1.fOp)), (23, (Bo true)), (24, (Bo true)), (25, (Bo true)), (26, (V.ptr 3 0 2)), (27, (Sr a1.fValue)), (28, (I (a1.fValue.length : Int))), (29, (V.ptr 2 0 4)), (30, (k0 a0.fFields)), (31, (I o2.1))]) rfl rfl rfl) <| et (c9 (x := (idx a0.fFields o2.1)) (w := fun v3 => (Pr (l5 v3))) rfl rfl rfl rfl rfl (i2 (e := l5) rfl rfl rfl underlying46 rfl (by decide))) <| j6 fun v3 => j8 rfl
     ·rw [hc]
      exact j8 rfl
    ·rw [hc]
     exact j8 rfl
   ·rw [hc]
    exact j8 rfl
  refine et i1 ?_
  rfl
def jF : Bool → V × List V := fun r => ((Bo r), [])
theorem ki (k : Nat) (a0 : a6) (a1 : b9) : EV k 107 [(d4 a0), (Pr (j0 a1))] = (O7 k a0 a1).map jF := by
 cases k with
 | zero => rfl
 | succ k =>
  unfold O7
  refine et (i5 (c := Pw) (N := 8) (regs := EY) rfl func107 rfl (by decide) rfl rfl rfl) <| kr ⟨[(1, (Pr (j0 a1))), (2, (Pt 2))], [(2, vS 3 (d4 a0))], 8⟩ rfl <| kg yZ rfl (fun (o2 : Bool) => ⟨[(3, (Bo o2))], [], 8⟩) (rd 2 [(4, (j0 a1)), (5, (d4 a0))] rfl rfl <| rp rfl (d7 rfl rfl rfl rfl rfl (dt k a1 a0) (.inl rfl)) fun v1 => b5 rfl) fun o2 => et i1 ?_
  rfl
def ls : Bool → V × List V := fun r => ((Bo r), [])
theorem bZ (k : Nat) (a0 : (List a6)) (a1 : b9) : EV k 105 [(a7 a0), (Pr (j0 a1))] = (Q8 k a0 a1).map ls := by
 cases k with
 | zero => rfl
 | succ k =>
  unfold Q8
  refine et (i5 (c := adL) (N := 17) (regs := Eo) rfl func105 rfl (by decide) rfl rfl rfl) <| kra [] rfl <| kg zn rfl (fun (o2 : Bool) => ⟨[(3, (Bo o2))], [], 17⟩) ?_ fun o2 => ?_
  ·refine rd 1 [(4, (a7 a0))] rfl rfl <| rl rfl (n7 (e := d4) rfl rfl rfl rfl rfl rfl underlying56) <| bd 4 [(5, (I (a0.length : Int))), (6, (Bo (decide ((a0.length : Int) < 1)))), (7, (Bo (decide ((a0.length : Int) < 1))))] rfl rfl <| n5 (fun hc => ?_) fun hc => ?_
   ·rw [hc]
    exact d5 rfl
   ·rw [hc]
    refine rd 5 [(8, (a7 a0))] rfl rfl <| rl rfl (n7 (e := d4) rfl rfl rfl rfl rfl rfl underlying56) <| bd 9 [(9, (I (a0.length : Int))), (10, (Bo (decide ((a0.length : Int) > 4)))), (11, (Bo (decide ((a0.length : Int) > 4)))), (12, (Bo (decide ((a0.length : Int) > 4))))] rfl rfl <| n5 (fun hc => ?_) fun hc => ?_
    ·rw [hc]
     exact d5 rfl
    ·rw [hc]
     exact rd 11 [(13, (a7 a0)), (14, (V.fn 107 [] [(Pr (j0 a1))]))] rfl rfl <| rs rfl (d7 rfl rfl rfl rfl rfl (dQ k a0 (fun j x0 => (O7 j x0 a1)) 107 (j0 a1) (fun j x0 => (ki j x0 a1))) (.inl rfl)) fun v1 => b5 rfl
  refine et i1 ?_
  rfl
def nW : Bool → V × List V := fun r => ((Bo r), [])
theorem N4 (k : Nat) (a0 : b9) (a1 : (List (List a6))) : EV k 74 [(j0 a0), (V.sl 0 1 (List.map a7 a1))] = (T5 k a0 a1).map nW := by
 cases k with
 | zero => rfl
 | succ k =>
  unfold T5
  refine et (i5 (c := f74c) (N := 14) (regs := Xw) rfl func74 rfl (by decide) rfl rfl rfl) <| kr ⟨[(1, (V.sl 0 1 (List.map a7 a1))), (2, (Pt 2))], [(2, vS 8 (j0 a0))], 14⟩ rfl <| kg Da rfl (fun (o2 : Bool) => ⟨[(4, (Bo o2))], [], 14⟩) ?_ fun o2 => ?_
  ·refine rd 1 [(5, (V.sl 0 1 (List.map a7 a1)))] rfl rfl <| rl rfl (n7 (e := a7) rfl rfl rfl rfl rfl rfl underlying26) <| bd 4 [(6, (I (a1.length : Int))), (7, (Bo (decide ((a1.length : Int) ≤ 4)))), (8, (Bo (decide ((a1.length : Int) ≤ 4))))] rfl rfl <| n5 (fun hc => ?_) fun hc => ?_
   ·rw [hc]
    exact rd 6 [(9, (V.sl 0 1 (List.map a7 a1))), (10, (V.fn 105 [] [(Pt 2)]))] rfl rfl <| rp rfl (d7 rfl rfl rfl rfl rfl (dz k a1 (fun j x0 => (Q8 j x0 a0)) 105 (j0 a0) (fun j x0 => (bZ j x0 a0))) (.inr (fun _ => rfl))) fun v1 => b5 rfl
   ·rw [hc]
    exact d5 rfl
  refine et i1 ?_
  rfl
def oo : (Bool × Int) → V × List V := fun r => (.tup [(Bo r.1), (I r.2)], [])
theorem iz (k : Nat) (a0 : a8) (a1 : Int) (a2 : (List (List a6))) : EV k 99 [(b7 a0), (I a1), (V.sl 0 1 (List.map a7 a2))] = (aT k a0 a1 a2).map oo := by
 cases k with
 | zero => rfl
 | succ k =>
  unfold aT
  refine et (i5 (c := f99c) (N := 22) (regs := abU) rfl func99 rfl (by decide) rfl rfl rfl) <| kr ⟨[(1, (I a1)), (2, (V.sl 0 1 (List.map a7 a2))), (3, (Pt 3))], [(3, vS 4 (b7 a0))], 22⟩ rfl <| et b6 <| kga Ek rfl (fun (o2 : Int) => [(8, (I o2))]) (rd 2 [(9, (b7 a0)), (10, (I a1))] rfl rfl <| rs rfl (d7 rfl rfl rfl rfl rfl (M1 k a0 a1) (.inl rfl)) fun v1 => b5 rfl) fun o2 => et b6 <| kra [(13, (Bo (o2 != 0)))] rfl <| kc rfl rfl (fun hc => ?_) fun hc => ?_
  ·rw [hc]
   refine et b6 <| kr ⟨[(6, (Bo false)), (7, (I o2))], [], 22⟩ rfl <| et n6 ?_
   rfl
  ·rw [hc]
   refine et d6 <| kg DT rfl (fun (o5 : Bool × Int) => ⟨[(6, (Bo o5.1)), (7, (I o5.2))], [], 22⟩) (rd 3 [(15, (V.ptr 3 0 2)), (16, (l7 a0.fTypes)), (17, (I a1))] rfl rfl <| rp rfl (i2 (e := j0) rfl rfl rfl underlying22 rfl (by decide)) fun v3 => bd 6 [(18, (Pr (j0 v3))), (19, (j0 v3)), (20, (V.sl 0 1 (List.map a7 a2)))] rfl rfl <| rp rfl (d7 rfl rfl rfl rfl rfl (N4 k v3 a2) (.inl rfl)) fun v4 => b5 rfl) fun o5 => et i1 ?_
   rfl
def pj : (Str × Int) → V × List V := fun r => (.tup [(Sr r.1), (I r.2)], [])
theorem fU (k : Nat) (a0 : a8) (a1 : Int) (a2 : b8) : EV k 65 [(b7 a0), (I a1), (j4 a2)] = (eX k a0 a1 a2).map pj := by
 cases k with
 | zero => rfl
 | succ k =>
  unfold eX
  refine et (i5 (c := f65c) (N := 49) (regs := aaW) rfl func65 rfl (by decide) rfl rfl rfl) <| kr ⟨[(1, (I a1)), (3, (Pt 3)), (5, (Pt 5))], [(3, vS 4 (b7 a0)), (5, vS 3 (j4 a2))], 49⟩ rfl <| et b6 <| kga Cp rfl (fun (o2 : Bool) => [(17, (Bo o2))]) (rd 2 [(14, (V.ptr 5 0 1)), (15, (Sr a2.fCodes))] rfl rfl <| rp rfl (d7 rfl rfl rfl rfl rfl (dm k a2.fCodes) (.inl rfl)) fun v1 => b5 rfl) fun o2 => kc rfl rfl (fun hc => ?_) fun hc => ?_
  ·rw [hc]
   refine et b6 <| kr ⟨[(6, (Sr ([65, 74] : Str))), (7, (I 0))], [], 49⟩ rfl <| et n6 ?_
   rfl
  ·rw [hc]
   refine et d6 <| kg CL rfl (fun (o4 : Int × Int) => ⟨[(1, (I a1)), (3, (Pt 3)), (5, (Pt 5)), (8, (I o4.1)), (9, (I o4.2))], [(3, vS 4 (b7 a0)), (5, vS 3 (j4 a2))], 49⟩) (rd 3 [(19, (b7 a0)), (20, (Pt 5)), (21, (Sr a2.fSegment))] rfl rfl <| rp rfl (d7 rfl rfl rfl rfl rfl (iP k a0 a2.fSegment) (.inl rfl)) fun v3 => b5 rfl) fun o4 => et b6 <| kr ⟨[(1, (I a1)), (3, (Pt 3)), (5, (Pt 5)), (8, (I o4.1)), (26, (Bo (o4.2 != 0)))], [(3, vS 4 (b7 a0)), (5, vS 3 (j4 a2))], 49⟩ rfl <| kc rfl rfl (fun hc => ?_) fun hc => ?_
   ·rw [hc]
    refine et b6 <| kr ⟨[(6, (Sr ([65, 67] : Str))), (7, (I 0))], [], 49⟩ rfl <| et n6 ?_
    rfl
   ·rw [hc]
    refine et d6 <| et b6 <| kr ⟨[(1, (I a1)), (3, (Pt 3)), (5, (Pt 5)), (8, (I o4.1)), (28, (Bo (decide (a1 ≥ 0))))], [(3, vS 4 (b7 a0)), (5, vS 3 (j4 a2))], 49⟩ rfl <| kc rfl rfl (fun hc => ?_) fun hc => ?_
    ·rw [hc]
     refine et b6 <| kg DH rfl (fun (o6 : Bool) => ⟨[(3, (Pt 3)), (5, (Pt 5)), (8, (I o4.1)), (10, (Bo o6))], [(3, vS 4 (b7 a0)), (5, vS 3 (j4 a2))], 49⟩) (rd 3 [(30, (b7 a0)), (31, (I a1)), (32, (I o4.1))] rfl rfl <| rp rfl (d7 rfl rfl rfl rfl rfl (pO k a0 a1 o4.1) (.inl rfl)) fun v5 => b5 rfl) fun o6 => et b6 <| kr ⟨[(3, (Pt 3)), (5, (Pt 5)), (8, (I o4.1)), (37, (Bo (!o6)))], [(3, vS 4 (b7 a0)), (5, vS 3 (j4 a2))], 49⟩ rfl <| kc rfl rfl (fun hc => ?_) fun hc => ?_
     ·rw [hc]
      refine et b6 <| kr ⟨[(6, (Sr ([65, 67] : Str))), (7, (I 0))], [], 49⟩ rfl <| et n6 ?_
      rfl
     ·rw [hc]
      refine et d6 <| et b6 <| kg ub rfl (fun (o8 : Bool) => ⟨[(8, (I o4.1)), (12, (Bo o8))], [], 49⟩) (rd 4 [(39, (b7 a0)), (40, (I o4.1)), (41, (V.ptr 5 0 2)), (42, (V.sl 0 1 (List.map a7 a2.fWhen)))] rfl rfl <| rp rfl (d7 rfl rfl rfl rfl rfl (iz k a0 o4.1 a2.fWhen) (.inl rfl)) fun v7 => b5 rfl) fun o8 => et b6 <| kr ⟨[(8, (I o4.1)), (47, (Bo (!o8)))], [], 49⟩ rfl <| kc rfl rfl (fun hc => ?_) fun hc => ?_
      ·rw [hc]
       refine et b6 <| kr ⟨[(6, (Sr ([65, 75] : Str))), (7, (I 0))], [], 49⟩ rfl <| et n6 ?_
       rfl
      ·rw [hc]
       refine et d6 <| kr ⟨[(6, (Sr ([32, 32] : Str))), (7, (I o4.1))], [], 49⟩ rfl <| et i1 ?_
       rfl
    ·rw [hc]
     refine et d6 <| et b6 <| kg ub rfl (fun (o10 : Bool) => ⟨[(8, (I o4.1)), (12, (Bo o10))], [], 49⟩) (rd 4 [(39, (b7 a0)), (40, (I o4.1)), (41, (V.ptr 5 0 2)), (42, (V.sl 0 1 (List.map a7 a2.fWhen)))] rfl rfl <| rp rfl (d7 rfl rfl rfl rfl rfl (iz k a0 o4.1 a2.fWhen) (.inl rfl)) fun v9 => b5 rfl) fun o10 => et b6 <| kr ⟨[(8, (I o4.1)), (47, (Bo (!o10)))], [], 49⟩ rfl <| kc rfl rfl (fun hc => ?_) fun hc => ?_
     ·rw [hc]
      refine et b6 <| kr ⟨[(6, (Sr ([65, 75] : Str))), (7, (I 0))], [], 49⟩ rfl <| et n6 ?_
      rfl
     ·rw [hc]
      refine et d6 <| kr ⟨[(6, (Sr ([32, 32] : Str))), (7, (I o4.1))], [], 49⟩ rfl <| et i1 ?_
      rfl
def fT : (Str × (List Int)) → V × List V := fun r => (.tup [(Sr r.1), (sI r.2)], [])
theorem az (k : Nat) (a0 : a8) (a1 : (List b8))  (K0 : Int → (List Int) → Int → Option (Str × (List Int))) (Kst : X × St → Option (V × List V)) (hK0 : ∀ (y0 : Int) (y1 : (List Int)) (y2 : Int), Kst (X.exit 0, ⟨[(2, (Pt 2)), (6, (I y0)), (7, (V.sl 1 1 (List.map I y1))), (15, (u5 a1)), (16, (I (a1.length : Int))), (17, (I y2)), (18, (Bo false))], [(2, vS 4 (b7 a0))], 38⟩) = (K0 y0 y1 y2).map fT) (hret : ∀ s, Kst (X.ret, s) = F6 prog 38 [(b7 a0), (u5 a1)] [] [.tmp 4, .tmp 5] (X.ret, s)) :
  ∀ (m : Nat) (x7 : Int) (x8 : (List Int)) (x9 : Int), (D1 (u1 prog (EV k) NC k Ee) m ⟨[(2, (Pt 2)), (6, (I x7)), (7, (V.sl 1 1 (List.map I x8))), (15, (u5 a1)), (16, (I (a1.length : Int))), (17, (I x9))], [(2, vS 4 (b7 a0))], 38⟩).bind Kst = (U2 k a0 a1 K0 m x7 x8 x9).map fT := by
 intro m
 induction m with
 | zero => intros; rfl
 | succ m ih =>
  intro x7 x8 x9
  unfold U2
  refine et l9 <| kra [(18, (Bo (decide (x9 < (a1.length : Int)))))] rfl <| kc rfl rfl (fun hc => ?_) fun hc => ?_
  ·rw [hc]
   refine et d6 <| et (i9 rfl) <| kg Fy rfl (fun (o11 : b8) => ⟨[(2, (Pt 2)), (6, (I x7)), (7, (V.sl 1 1 (List.map I x8))), (9, (Pt 9)), (15, (u5 a1)), (16, (I (a1.length : Int))), (17, (I x9))], [(2, vS 4 (b7 a0)), (9, vS 3 (j4 o11))], 38⟩) (rs rfl (i2 (e := j4) rfl rfl rfl underlying31 rfl (by decide)) fun v10 => b5 rfl) fun o11 => kg Dd rfl (fun (o13 : Str × Int) => ⟨[(2, (Pt 2)), (7, (V.sl 1 1 (List.map I x8))), (10, (Sr o13.1)), (11, (I o13.2)), (15, (u5 a1)), (16, (I (a1.length : Int))), (17, (I x9))], [(2, vS 4 (b7 a0))], 38⟩) (rd 3 [(22, (b7 a0)), (23, (I x7)), (24, (j4 o11))] rfl rfl <| rp rfl (d7 rfl rfl rfl rfl rfl (fU k a0 x7 o11) (.inl rfl)) fun v12 => b5 rfl) fun o13 => et b6 <| kra [(29, (Bo (!(o13.1 == ([32, 32] : Str)))))] rfl <| kc rfl rfl (fun hc => ?_) fun hc => ?_
   ·rw [hc]
    refine et b6 <| kr ⟨[(4, (Sr o13.1)), (5, (sI (([] : List Int))))], [], 38⟩ rfl <| et n6 <| et l6 <| et l8 <| et (hret _) ?_
    rfl
   ·rw [hc]
    exact et d6 <| kr ⟨[(2, (Pt 2)), (6, (I o13.2)), (7, (V.sl 1 1 (List.map I x8))), (11, (I o13.2)), (15, (u5 a1)), (16, (I (a1.length : Int))), (17, (I x9))], [(2, vS 4 (b7 a0))], 38⟩ rfl <| kgl zm rfl (fun (o15 : (List Int)) => ⟨[(2, (Pt 2)), (6, (I o13.2)), (7, (V.sl 1 1 (List.map I o15))), (15, (u5 a1)), (16, (I (a1.length : Int))), (17, (I x9))], [(2, vS 4 (b7 a0))], 38⟩) (ra 3 3 ⟨[(2, (Pt 2)), (6, (I o13.2)), (7, (sI x8)), (11, (I o13.2)), (15, (u5 a1)), (16, (I (a1.length : Int))), (17, (I x9)), (32, (V.sl 1 1 (List.map I x8))), (33, (I o13.2)), (34, (sI (([o13.2] : List Int))))], [(2, vS 4 (b7 a0))], 38⟩ rfl rfl rfl <| et (P4 (x := (app x8 ([o13.2] : List Int))) (w := fun v14 => ((V.sl 1 1 (List.map I v14)), _)) rfl rfl rfl rfl (nx (e := I) rfl rfl rfl rfl rfl rfl rfl rfl rfl rfl (by decide))) <| B7 fun v14 => b5 rfl) fun o15 => et i6 <| kl ⟨[(2, (Pt 2)), (6, (I o13.2)), (7, (V.sl 1 1 (List.map I o15))), (15, (u5 a1)), (16, (I (a1.length : Int))), (17, (I (Go.IntKind.wrap .i64 (x9 + 1))))], [(2, vS 4 (b7 a0))], 38⟩ rfl <| et i3 <| ih o13.2 o15 (Go.IntKind.wrap .i64 (x9 + 1))
  ·rw [hc]
   exact et p7 <| et j3 <| hK0 x7 x8 x9
theorem gK (k : Nat) (a0 : a8) (a1 : (List b8)) : EV k 36 [(b7 a0), (u5 a1)] = (fX k a0 a1).map fT := by
 cases k with
 | zero => rfl
 | succ k =>
  unfold fX
  refine et (i5 (c := f36c) (N := 38) (regs := NC) rfl func36 rfl (by decide) rfl rfl rfl) <| kr ⟨[(1, (u5 a1)), (2, (Pt 2))], [(2, vS 4 (b7 a0))], 38⟩ rfl <| et b6 <| krp EZ rfl ⟨[(1, (u5 a1)), (2, (Pt 2)), (14, (Bo (decide ((a1.length : Int) > 5))))], [(2, vS 4 (b7 a0))], 38⟩ ?_ ?_
  ·exact rd 1 [(12, (u5 a1))] rfl rfl <| rl rfl (n7 (e := j4) rfl rfl rfl rfl rfl rfl underlying31) <| b5 rfl
  refine kc rfl rfl (fun hc => ?_) fun hc => ?_
  ·rw [hc]
   refine et b6 <| kr ⟨[(4, (Sr ([65, 74] : Str))), (5, (sI (([] : List Int))))], [], 38⟩ rfl <| et n6 ?_
   rfl
  ·rw [hc]
   refine et d6 <| kr ⟨[(1, (u5 a1)), (2, (Pt 2)), (6, (I (-1)))], [(2, vS 4 (b7 a0))], 38⟩ rfl <| kra [(7, (V.sl 1 1 (List.map I ([] : List Int))))] rfl <| et b6 <| krp Fg rfl ⟨[(2, (Pt 2)), (6, (I (-1))), (7, (V.sl 1 1 (List.map I ([] : List Int)))), (15, (u5 a1)), (16, (I (a1.length : Int))), (17, (I 0))], [(2, vS 4 (b7 a0))], 38⟩ ?_ ?_
   ·exact rd 1 [(15, (u5 a1))] rfl rfl <| rl rfl (n7 (e := j4) rfl rfl rfl rfl rfl rfl underlying31) <| b5 rfl
   refine et (i9 rfl) <| et p8 ?_
   refine az k a0 a1 _ _ ?h_ssa_check_L1_0 ?hr_ssa_check_L1 k (-1) ([] : List Int) 0
   ·intro y16 y17 y18
    refine et j5 <| kr ⟨[(4, (Sr ([32, 32] : Str))), (5, (sI y17))], [], 38⟩ rfl <| et i1 ?_
    rfl
   ·intro s; exact rfl
def qo : ((List Int) × Int) → V × List V := fun r => (.tup [(sI r.1), (I r.2)], [])
theorem bt (k : Nat) (a0 : a8) (a1 : (List b8)) : EV k 22 [(b7 a0), (u5 a1)] = (bN k a0 a1).map qo := by
 cases k with
 | zero => rfl
 | succ k =>
  unfold bN
  refine et (i5 (c := f22c) (N := 20) (regs := acC) rfl func22 rfl (by decide) rfl rfl rfl) <| kr ⟨[(1, (u5 a1)), (2, (Pt 2))], [(2, vS 4 (b7 a0))], 20⟩ rfl <| et b6 <| kga Fw rfl (fun (o2 : Bool) => [(10, (Bo o2))]) (rd 1 [(8, (b7 a0))] rfl rfl <| rp rfl (d7 rfl rfl rfl rfl rfl (gX k a0) (.inl rfl)) fun v1 => b5 rfl) fun o2 => kc rfl rfl (fun hc => ?_) fun hc => ?_
  ·rw [hc]
   refine et b6 <| kr ⟨[(4, (sI (([] : List Int)))), (5, (I 100))], [], 20⟩ rfl <| et n6 ?_
   rfl
  ·rw [hc]
   refine et d6 <| kg EL rfl (fun (o4 : Str × (List Int)) => ⟨[(6, (Sr o4.1)), (7, (sI o4.2))], [], 20⟩) (rd 2 [(12, (b7 a0)), (13, (u5 a1))] rfl rfl <| rp rfl (d7 rfl rfl rfl rfl rfl (gK k a0 a1) (.inl rfl)) fun v3 => b5 rfl) fun o4 => et b6 <| kr ⟨[(7, (sI o4.2)), (18, (Bo (!(o4.1 == ([32, 32] : Str)))))], [], 20⟩ rfl <| kc rfl rfl (fun hc => ?_) fun hc => ?_
   ·rw [hc]
    refine et b6 <| kr ⟨[(4, (sI (([] : List Int)))), (5, (I 2))], [], 20⟩ rfl <| et n6 ?_
    rfl
   ·rw [hc]
    refine et d6 <| kr ⟨[(4, (sI o4.2)), (5, (I 0))], [], 20⟩ rfl <| et i1 ?_
    rfl
def kE : Str → V × List V := fun r => ((Sr r), [])
theorem fy (k : Nat) (s : Str) (n : Int) : EV k 23 [(Sr s), (I n)] = (strings_Repeat k s n).map kE := by
 cases k with
 | zero => rfl
 | succ k => exact (kZ (ext := ext) (f := 23) rfl).trans rfl
def J9 : Int → V × List V := fun r => ((I r), [])
theorem cG (k : Nat) (a0 : (List (List (List a6)))) (a1 : Nat → (List (List a6)) → Option Bool) (a1_fid : Go.FuncId) (a1_c0 : V) (a1_hok : ∀ j x0, EV j a1_fid [(V.sl 0 1 (List.map a7 x0)), V.pro a1_c0] = (a1 j x0).map fun b => ((Bo b), [])) (K0 : Int → Option Int) (Kst : X × St → Option (V × List V)) (hK0 : ∀ (y0 : Int), Kst (X.exit 0, ⟨[(0, (V.sl 0 1 (List.map (fun x => (V.sl 0 1 (List.map a7 x))) a0))), (1, (V.fn a1_fid [] [V.pro a1_c0])), (7, (I (a0.length : Int))), (8, (I y0)), (9, (Bo false))], [], 19⟩) = (K0 y0).map J9) (hret : ∀ s, Kst (X.ret, s) = F6 prog 19 [(V.sl 0 1 (List.map (fun x => (V.sl 0 1 (List.map a7 x))) a0)), (V.fn a1_fid [] [V.pro a1_c0])] [] [.tmp 4] (X.ret, s)) :
  ∀ (m : Nat) (x4 : Int), (D1 (u1 prog (EV k) zF k zK) m ⟨[(0, (V.sl 0 1 (List.map (fun x => (V.sl 0 1 (List.map a7 x))) a0))), (1, (V.fn a1_fid [] [V.pro a1_c0])), (7, (I (a0.length : Int))), (8, (I x4))], [], 19⟩).bind Kst = (C2 k a0 a1 K0 m x4).map J9 := by
 intro m
 induction m with
 | zero => intros; rfl
 | succ m ih =>
  intro x4
  unfold C2
  refine et l9 <| kra [(9, (Bo (decide (x4 < (a0.length : Int)))))] rfl <| kc rfl rfl (fun hc => ?_) fun hc => ?_
  ·rw [hc]
   refine et d6 <| et (i9 rfl) <| kr ⟨[(0, (V.sl 0 1 (List.map (fun x => (V.sl 0 1 (List.map a7 x))) a0))), (1, (V.fn a1_fid [] [V.pro a1_c0])), (5, (I x4)), (7, (I (a0.length : Int))), (8, (I x4))], [], 19⟩ rfl <| kga Ar rfl (fun (o7 : Bool) => [(16, (Bo o7))]) (rd 3 [(11, (V.fn a1_fid [] [V.pro a1_c0])), (12, (V.sl 0 1 (List.map (fun x => (V.sl 0 1 (List.map a7 x))) a0))), (13, (I x4))] rfl rfl <| rp rfl (i2 (e := (fun x => (V.sl 0 1 (List.map a7 x)))) rfl rfl rfl underlying119 rfl (by decide)) fun v5 => bd 5 [(14, (Pr (V.sl 0 1 (List.map a7 v5)))), (15, (V.sl 0 1 (List.map a7 v5)))] rfl rfl <| rs rfl (d7 rfl rfl rfl rfl rfl (a1_hok k v5) (.inl rfl)) fun v6 => b5 rfl) fun o7 => kcl rfl rfl (fun hc => ?_) fun hc => ?_
   ·rw [hc]
    refine kr ⟨[(4, (I x4))], [], 19⟩ rfl <| et i1 <| et l6 <| et l8 <| et (hret _) ?_
    rfl
   ·rw [hc]
    exact et m9 <| et i6 <| kl ⟨[(0, (V.sl 0 1 (List.map (fun x => (V.sl 0 1 (List.map a7 x))) a0))), (1, (V.fn a1_fid [] [V.pro a1_c0])), (7, (I (a0.length : Int))), (8, (I (Go.IntKind.wrap .i64 (x4 + 1))))], [], 19⟩ rfl <| et i3 <| ih (Go.IntKind.wrap .i64 (x4 + 1))
  ·rw [hc]
   exact et p7 <| et j3 <| hK0 x4
theorem fe (k : Nat) (a0 : (List (List (List a6)))) (a1 : Nat → (List (List a6)) → Option Bool) (a1_fid : Go.FuncId) (a1_c0 : V) (a1_hok : ∀ j x0, EV j a1_fid [(V.sl 0 1 (List.map a7 x0)), V.pro a1_c0] = (a1 j x0).map fun b => ((Bo b), [])) : EV k 103 [(V.sl 0 1 (List.map (fun x => (V.sl 0 1 (List.map a7 x))) a0)), (V.fn a1_fid [] [V.pro a1_c0])] = (I5 k a0 a1).map J9 := by
 cases k with
 | zero => rfl
 | succ k =>
  unfold I5
  refine et (i5 (c := ZJ) (N := 19) (regs := zF) rfl func103 rfl (by decide) rfl rfl rfl) <| kra [] rfl <| et b6 <| krp xL rfl ⟨[(0, (V.sl 0 1 (List.map (fun x => (V.sl 0 1 (List.map a7 x))) a0))), (1, (V.fn a1_fid [] [V.pro a1_c0])), (7, (I (a0.length : Int))), (8, (I 0))], [], 19⟩ ?_ ?_
  ·exact rd 1 [(6, (V.sl 0 1 (List.map (fun x => (V.sl 0 1 (List.map a7 x))) a0)))] rfl rfl <| rl rfl (n7 (e := (fun x => (V.sl 0 1 (List.map a7 x)))) rfl rfl rfl rfl rfl rfl underlying119) <| b5 rfl
  refine et (i9 rfl) <| et p8 ?_
  refine cG k a0 a1 a1_fid a1_c0 a1_hok _ _ ?h_slices_IndexFunc_TermLL_L1_0 ?hr_slices_IndexFunc_TermLL_L1 k 0
  ·intro y8
   refine et j5 <| kr ⟨[(4, (I (-1)))], [], 19⟩ rfl <| et i1 ?_
   rfl
  ·intro s; exact rfl
def cf : Bool → V × List V := fun r => ((Bo r), [])
theorem cQ (k : Nat) (a0 : (List (List (List a6)))) (a1 : Nat → (List (List a6)) → Option Bool) (a1_fid : Go.FuncId) (a1_c0 : V) (a1_hok : ∀ j x0, EV j a1_fid [(V.sl 0 1 (List.map a7 x0)), V.pro a1_c0] = (a1 j x0).map fun b => ((Bo b), [])) : EV k 72 [(V.sl 0 1 (List.map (fun x => (V.sl 0 1 (List.map a7 x))) a0)), (V.fn a1_fid [] [V.pro a1_c0])] = (z8 k a0 a1).map cf := by
 cases k with
 | zero => rfl
 | succ k =>
  unfold z8
  refine et (i5 (c := f72c) (N := 9) (regs := abG) rfl func72 rfl (by decide) rfl rfl rfl) <| kra [] rfl <| kg Fz rfl (fun (o2 : Bool) => ⟨[(4, (Bo o2))], [], 9⟩) (rd 2 [(5, (V.sl 0 1 (List.map (fun x => (V.sl 0 1 (List.map a7 x))) a0))), (6, (V.fn a1_fid [] [V.pro a1_c0]))] rfl rfl <| rp rfl (d7 rfl rfl rfl rfl rfl (fe k a0 a1 a1_fid a1_c0 a1_hok) (.inl rfl)) fun v1 => b5 rfl) fun o2 => et i1 ?_
  rfl
def gQ : Bool → V × List V := fun r => ((Bo r), [])
theorem iq (k : Nat) (a0 : (List (List a6))) (a1 : b9) : EV k 73 [(V.sl 0 1 (List.map a7 a0)), (Pr (j0 a1))] = (H0 k a0 a1).map gQ := by
 cases k with
 | zero => rfl
 | succ k =>
  unfold H0
  refine et (i5 (c := f73c) (N := 8) (regs := Px) rfl func73 rfl (by decide) rfl rfl rfl) <| kra [] rfl <| kg CY rfl (fun (o2 : Bool) => ⟨[(3, (Bo o2))], [], 8⟩) (rd 2 [(4, (j0 a1)), (5, (V.sl 0 1 (List.map a7 a0)))] rfl rfl <| rp rfl (d7 rfl rfl rfl rfl rfl (N4 k a1 a0) (.inl rfl)) fun v1 => b5 rfl) fun o2 => et i1 ?_
  rfl
def iD : (b9 × Int) → V × List V := fun r => (.tup [(j0 r.1), (I r.2)], [])
theorem R9 (k : Nat) (a0 : a8) (a1 : Int) (a2 : (List (List (List a6)))) : EV k 43 [(b7 a0), (I a1), (V.sl 0 1 (List.map (fun x => (V.sl 0 1 (List.map a7 x))) a2))] = (L5 k a0 a1 a2).map iD := by
 cases k with
 | zero => rfl
 | succ k =>
  unfold L5
  refine et (i5 (c := f43c) (N := 27) (regs := WD) rfl func43 rfl (by decide) rfl rfl rfl) <| kr ⟨[(1, (I a1)), (2, (V.sl 0 1 (List.map (fun x => (V.sl 0 1 (List.map a7 x))) a2))), (3, (Pt 3)), (6, (Pt 6))], [(3, vS 4 (b7 a0)), (6, ⟨false, 8, [(V.agg [(Sr []), (I 0), (I 0), (I 0), (V.sl 2 3 (List.map l5 ([] : List i4))), (I 0), (Bo false), (Bo false)])]⟩)], 27⟩ rfl <| et b6 <| kga Cr rfl (fun (o2 : Int) => [(8, (I o2))]) (rd 2 [(10, (b7 a0)), (11, (I a1))] rfl rfl <| rs rfl (d7 rfl rfl rfl rfl rfl (M1 k a0 a1) (.inl rfl)) fun v1 => b5 rfl) fun o2 => et b6 <| kra [(14, (Bo (o2 != 0)))] rfl <| kc rfl rfl (fun hc => ?_) fun hc => ?_
  ·rw [hc]
   refine et b6 <| kr ⟨[(6, (Pt 6)), (7, (I o2))], [(6, ⟨false, 8, [(j0 ({ fName := [], fParent := 0, fMin := 0, fSize := 0, fFields := ([] : List i4), fKey := 0, fUnique := false, fLast := false } : b9))]⟩)], 27⟩ rfl <| et n6 ?_
   rfl
  ·rw [hc]
   refine et d6 <| kg BZ rfl (fun (o4 : b9) => ⟨[(2, (V.sl 0 1 (List.map (fun x => (V.sl 0 1 (List.map a7 x))) a2))), (6, (Pt 6)), (9, (Pt 9))], [(6, ⟨false, 8, [(V.agg [(Sr []), (I 0), (I 0), (I 0), (V.sl 2 3 (List.map l5 ([] : List i4))), (I 0), (Bo false), (Bo false)])]⟩), (9, vS 8 (j0 o4))], 27⟩) (rd 3 [(17, (V.ptr 3 0 2)), (18, (l7 a0.fTypes)), (19, (I a1))] rfl rfl <| rs rfl (i2 (e := j0) rfl rfl rfl underlying22 rfl (by decide)) fun v3 => b5 rfl) fun o4 => et b6 <| kg Ed rfl (fun (o6 : Bool) => ⟨[(6, (Pt 6)), (9, (Pt 9)), (24, (Bo o6))], [(6, ⟨false, 8, [(V.agg [(Sr []), (I 0), (I 0), (I 0), (V.sl 2 3 (List.map l5 ([] : List i4))), (I 0), (Bo false), (Bo false)])]⟩), (9, vS 8 (j0 o4))], 27⟩) (rd 2 [(22, (V.sl 0 1 (List.map (fun x => (V.sl 0 1 (List.map a7 x))) a2))), (23, (V.fn 73 [] [(Pt 9)]))] rfl rfl <| rs rfl (d7 rfl rfl rfl rfl rfl (cQ k a2 (fun j x0 => (H0 j x0 o4)) 73 (j0 o4) (fun j x0 => (iq j x0 o4))) (.inr (fun _ => rfl))) fun v5 => b5 rfl) fun o6 => kc rfl rfl (fun hc => ?_) fun hc => ?_
   ·rw [hc]
    refine et b6 <| kr ⟨[(6, (Pt 6)), (7, (I 110))], [(6, ⟨false, 8, [(j0 ({ fName := [], fParent := 0, fMin := 0, fSize := 0, fFields := ([] : List i4), fKey := 0, fUnique := false, fLast := false } : b9))]⟩)], 27⟩ rfl <| et n6 ?_
    rfl
   ·rw [hc]
    refine et d6 <| kr ⟨[(6, (Pt 6)), (7, (I 0))], [(6, vS 8 (j0 o4))], 27⟩ rfl <| et i1 ?_
    rfl
def py : Str → V × List V := fun r => ((Sr r), [])
theorem au (k : Nat) (a0 : Int) : EV k 44 [(I a0)] = (aI k a0).map py := by
 cases k with
 | zero => rfl
 | succ k =>
  unfold aI
  refine et (i5 (c := f44c) (N := 7) (regs := aaK) rfl func44 rfl (by decide) rfl rfl rfl) <| kra [] rfl <| kg DN rfl (fun (o2 : Str) => ⟨[(2, (Sr o2))], [], 7⟩) (rd 3 [(3, (eStr ({ e0 := ([61, 32] : Str), e1 := ([60, 62] : Str), e2 := ([60, 32] : Str), e3 := ([60, 61] : Str), e4 := ([62, 32] : Str), e5 := ([62, 61] : Str) } : E5))), (4, (I a0)), (5, (I (Go.IntKind.wrap .i64 (a0 - 1))))] rfl rfl <| rs rfl (vk (l := ([({ e0 := ([61, 32] : Str), e1 := ([60, 62] : Str), e2 := ([60, 32] : Str), e3 := ([60, 61] : Str), e4 := ([62, 32] : Str), e5 := ([62, 61] : Str) } : E5).e0, ({ e0 := ([61, 32] : Str), e1 := ([60, 62] : Str), e2 := ([60, 32] : Str), e3 := ([60, 61] : Str), e4 := ([62, 32] : Str), e5 := ([62, 61] : Str) } : E5).e1, ({ e0 := ([61, 32] : Str), e1 := ([60, 62] : Str), e2 := ([60, 32] : Str), e3 := ([60, 61] : Str), e4 := ([62, 32] : Str), e5 := ([62, 61] : Str) } : E5).e2, ({ e0 := ([61, 32] : Str), e1 := ([60, 62] : Str), e2 := ([60, 32] : Str), e3 := ([60, 61] : Str), e4 := ([62, 32] : Str), e5 := ([62, 61] : Str) } : E5).e3, ({ e0 := ([61, 32] : Str), e1 := ([60, 62] : Str), e2 := ([60, 32] : Str), e3 := ([60, 61] : Str), e4 := ([62, 32] : Str), e5 := ([62, 61] : Str) } : E5).e4, ({ e0 := ([61, 32] : Str), e1 := ([60, 62] : Str), e2 := ([60, 32] : Str), e3 := ([60, 61] : Str), e4 := ([62, 32] : Str), e5 := ([62, 61] : Str) } : E5).e5] : List Str)) (e := V.str) rfl rfl rfl underlying123 rfl rfl rfl rfl) fun v1 => b5 rfl) fun o2 => et i1 ?_
  rfl
def mA : Str → V × List V := fun r => (Sr r, [])
theorem ic (k : Nat) (s : List Str) (n : Str) : EV k 45 [(sS s), (Sr n)] = (strings_Join k s n).map mA := by
 cases k with
 | zero => rfl
 | succ k => exact (kZ (ext := ext) (f := 45) rfl).trans (pZ s n)
def S7 : (Str × Int) → V × List V := fun r => (.tup [(Sr r.1), (I r.2)], [])
theorem jU (k : Nat) (a0 : a8) (a1 : Int) (a2 : (List (List a6))) (x30 : (List Str)) (x31 : Int) (o33 : (List a6))  (K0 : Int → (List Str) → Option (Str × Int)) (Kst : X × St → Option (V × List V)) (hK0 : ∀ (y0 : Int) (y1 : (List Str)), Kst (X.exit 2, ⟨[(10, (V.sl 1 1 (List.map V.str x30))), (13, (aL 13 V.str y1)), (27, (V.sl 0 1 (List.map a7 a2))), (28, (I (a2.length : Int))), (29, (I x31)), (33, (a7 o33)), (34, (I (o33.length : Int))), (35, (I y0)), (36, (Bo false))], [(13, ⟨true, 1, List.map V.str y1⟩)], 66⟩) = (K0 y0 y1).map S7) (hret : ∀ s, Kst (X.ret, s) = F6 prog 66 [(b7 a0), (I a1), (V.sl 0 1 (List.map a7 a2))] [] [.tmp 6, .tmp 7] (X.ret, s)) :
  ∀ (m : Nat) (x43 : Int) (x44 : (List Str)), (D1 (u1 prog (EV k) Be k Ea) m ⟨[(10, (V.sl 1 1 (List.map V.str x30))), (13, (aL 13 V.str x44)), (27, (V.sl 0 1 (List.map a7 a2))), (28, (I (a2.length : Int))), (29, (I x31)), (33, (a7 o33)), (34, (I (o33.length : Int))), (35, (I x43))], [(13, ⟨true, 1, List.map V.str x44⟩)], 66⟩).bind Kst = (J2 k o33 K0 m x43 x44).map S7 := by
 intro m
 induction m with
 | zero => intros; rfl
 | succ m ih =>
  intro x43 x44
  unfold J2
  refine et l9 <| kra [(36, (Bo (decide (x43 < (o33.length : Int)))))] rfl <| kc rfl rfl (fun hc => ?_) fun hc => ?_
  ·rw [hc]
   exact et d6 <| et (i9 rfl) <| kg AC rfl (fun (o46 : a6) => ⟨[(10, (V.sl 1 1 (List.map V.str x30))), (13, (aL 13 V.str x44)), (15, (Pt 15)), (27, (V.sl 0 1 (List.map a7 a2))), (28, (I (a2.length : Int))), (29, (I x31)), (33, (a7 o33)), (34, (I (o33.length : Int))), (35, (I x43))], [(13, ⟨true, 1, List.map V.str x44⟩), (15, vS 3 (d4 o46))], 66⟩) (rs rfl (i2 (e := d4) rfl rfl rfl underlying56 rfl (by decide)) fun v45 => b5 rfl) fun o46 => kdl Ai rfl (fun (o53 : (List Str)) => ⟨[(10, (V.sl 1 1 (List.map V.str x30))), (13, (aL 13 V.str o53)), (27, (V.sl 0 1 (List.map a7 a2))), (28, (I (a2.length : Int))), (29, (I x31)), (33, (a7 o33)), (34, (I (o33.length : Int))), (35, (I x43))], [(13, ⟨true, 1, List.map V.str o53⟩)], 66⟩) (et (j2 (p := 17) (dk := true) (t := [(10, (V.sl 1 1 (List.map V.str x30))), (13, (aL 13 V.str x44)), (15, (Pt 15)), (27, (V.sl 0 1 (List.map a7 a2))), (28, (I (a2.length : Int))), (29, (I x31)), (33, (a7 o33)), (34, (I (o33.length : Int))), (35, (I x43))]) (σ := [(13, ⟨true, 1, List.map V.str x44⟩), (15, vS 3 (d4 o46))]) (n := 66) rfl (by decide) (by decide) rfl) <| et (j9 (m := 7) (j := 7) (t' := [(10, (V.sl 1 1 (List.map V.str x30))), (13, (aL 13 V.str x44)), (15, (Pt 15)), (27, (V.sl 0 1 (List.map a7 a2))), (28, (I (a2.length : Int))), (29, (I x31)), (33, (a7 o33)), (34, (I (o33.length : Int))), (35, (I x43)), (39, (aL 13 V.str x44)), (40, (Pt 15)), (41, (Sr o46.fField)), (42, (Pt 15)), (43, (Sr o46.fField)), (44, (I (o46.fField.length : Int))), (45, (I (Go.IntKind.wrap .i64 (8 - (o46.fField.length : Int)))))]) rfl rfl rfl) <| et (c9 (x := (strings_Repeat k ([32] : Str) (Go.IntKind.wrap .i64 (8 - (o46.fField.length : Int))))) (w := fun v47 => (Sr v47)) rfl rfl rfl rfl rfl (d7 rfl rfl rfl rfl rfl (fy k ([32] : Str) (Go.IntKind.wrap .i64 (8 - (o46.fField.length : Int)))) (.inl rfl))) <| j6 fun v47 => et (i7 (m := 0) (j := 8) (t' := [(10, (V.sl 1 1 (List.map V.str x30))), (13, (aL 13 V.str x44)), (15, (Pt 15)), (27, (V.sl 0 1 (List.map a7 a2))), (28, (I (a2.length : Int))), (29, (I x31)), (33, (a7 o33)), (34, (I (o33.length : Int))), (35, (I x43)), (39, (aL 13 V.str x44)), (40, (Pt 15)), (41, (Sr o46.fField)), (42, (Pt 15)), (43, (Sr o46.fField)), (44, (I (o46.fField.length : Int))), (45, (I (Go.IntKind.wrap .i64 (8 - (o46.fField.length : Int))))), (46, (Sr v47))]) rfl rfl rfl) <| et (c9 (x := (cat o46.fField v47)) (w := fun v48 => (Sr v48)) rfl rfl rfl rfl rfl (E9 rfl rfl rfl)) <| j6 fun v48 => et (i7 (m := 2) (j := 11) (t' := [(10, (V.sl 1 1 (List.map V.str x30))), (13, (aL 13 V.str x44)), (15, (Pt 15)), (27, (V.sl 0 1 (List.map a7 a2))), (28, (I (a2.length : Int))), (29, (I x31)), (33, (a7 o33)), (34, (I (o33.length : Int))), (35, (I x43)), (39, (aL 13 V.str x44)), (40, (Pt 15)), (41, (Sr o46.fField)), (42, (Pt 15)), (43, (Sr o46.fField)), (44, (I (o46.fField.length : Int))), (45, (I (Go.IntKind.wrap .i64 (8 - (o46.fField.length : Int))))), (46, (Sr v47)), (47, (Sr v48)), (48, (V.ptr 15 0 1)), (49, (I o46.fOp))]) rfl rfl rfl) <| et (c9 (x := (aI k o46.fOp)) (w := fun v49 => (Sr v49)) rfl rfl rfl rfl rfl (d7 rfl rfl rfl rfl rfl (au k o46.fOp) (.inl rfl))) <| j6 fun v49 => et (i7 (m := 0) (j := 12) (t' := [(10, (V.sl 1 1 (List.map V.str x30))), (13, (aL 13 V.str x44)), (15, (Pt 15)), (27, (V.sl 0 1 (List.map a7 a2))), (28, (I (a2.length : Int))), (29, (I x31)), (33, (a7 o33)), (34, (I (o33.length : Int))), (35, (I x43)), (39, (aL 13 V.str x44)), (40, (Pt 15)), (41, (Sr o46.fField)), (42, (Pt 15)), (43, (Sr o46.fField)), (44, (I (o46.fField.length : Int))), (45, (I (Go.IntKind.wrap .i64 (8 - (o46.fField.length : Int))))), (46, (Sr v47)), (47, (Sr v48)), (48, (V.ptr 15 0 1)), (49, (I o46.fOp)), (50, (Sr v49))]) rfl rfl rfl) <| et (c9 (x := (cat v48 v49)) (w := fun v50 => (Sr v50)) rfl rfl rfl rfl rfl (E9 rfl rfl rfl)) <| j6 fun v50 => et (i7 (m := 2) (j := 15) (t' := [(10, (V.sl 1 1 (List.map V.str x30))), (13, (aL 13 V.str x44)), (15, (Pt 15)), (27, (V.sl 0 1 (List.map a7 a2))), (28, (I (a2.length : Int))), (29, (I x31)), (33, (a7 o33)), (34, (I (o33.length : Int))), (35, (I x43)), (39, (aL 13 V.str x44)), (40, (Pt 15)), (41, (Sr o46.fField)), (42, (Pt 15)), (43, (Sr o46.fField)), (44, (I (o46.fField.length : Int))), (45, (I (Go.IntKind.wrap .i64 (8 - (o46.fField.length : Int))))), (46, (Sr v47)), (47, (Sr v48)), (48, (V.ptr 15 0 1)), (49, (I o46.fOp)), (50, (Sr v49)), (51, (Sr v50)), (52, (V.ptr 15 0 2)), (53, (Sr o46.fValue))]) rfl rfl rfl) <| et (c9 (x := (cat v50 o46.fValue)) (w := fun v51 => (Sr v51)) rfl rfl rfl rfl rfl (E9 rfl rfl rfl)) <| j6 fun v51 => et (zg (m := 0) (j := 17) (st' := ⟨[(10, (V.sl 1 1 (List.map V.str x30))), (13, (aL 13 V.str x44)), (15, (Pt 15)), (27, (V.sl 0 1 (List.map a7 a2))), (28, (I (a2.length : Int))), (29, (I x31)), (33, (a7 o33)), (34, (I (o33.length : Int))), (35, (I x43)), (39, (aL 13 V.str x44)), (40, (Pt 15)), (41, (Sr o46.fField)), (42, (Pt 15)), (43, (Sr o46.fField)), (44, (I (o46.fField.length : Int))), (45, (I (Go.IntKind.wrap .i64 (8 - (o46.fField.length : Int))))), (46, (Sr v47)), (47, (Sr v48)), (48, (V.ptr 15 0 1)), (49, (I o46.fOp)), (50, (Sr v49)), (51, (Sr v50)), (52, (V.ptr 15 0 2)), (53, (Sr o46.fValue)), (54, (Sr v51)), (55, (sS (([v51] : List Str))))], [(13, ⟨true, 1, List.map V.str x44⟩), (15, vS 3 (d4 o46))], 66⟩) rfl rfl rfl) <| et (P4 (x := (app x44 ([v51] : List Str))) (w := fun v52 => ((aL 13 V.str v52), _)) rfl rfl rfl rfl (uF (e := V.str) (l := x44) rfl rfl rfl rfl rfl rfl rfl rfl rfl rfl rfl (of_decide_eq_true rfl))) <| B7 fun v52 => b5 rfl) fun o53 => et i6 <| kl ⟨[(10, (V.sl 1 1 (List.map V.str x30))), (13, (aL 13 V.str o53)), (27, (V.sl 0 1 (List.map a7 a2))), (28, (I (a2.length : Int))), (29, (I x31)), (33, (a7 o33)), (34, (I (o33.length : Int))), (35, (I (Go.IntKind.wrap .i64 (x43 + 1))))], [(13, ⟨true, 1, List.map V.str o53⟩)], 66⟩ rfl <| et i3 <| ih (Go.IntKind.wrap .i64 (x43 + 1)) o53
  ·rw [hc]
   exact et p7 <| et j3 <| hK0 x43 x44
theorem jY (k : Nat) (a0 : a8) (a1 : Int) (a2 : (List (List a6)))  (K0 : (List Str) → Int → Option (Str × Int)) (Kst : X × St → Option (V × List V)) (hK0 : ∀ (y0 : (List Str)) (y1 : Int), Kst (X.exit 0, ⟨[(10, (V.sl 1 1 (List.map V.str y0))), (27, (V.sl 0 1 (List.map a7 a2))), (28, (I (a2.length : Int))), (29, (I y1)), (30, (Bo false))], [], 66⟩) = (K0 y0 y1).map S7) (hret : ∀ s, Kst (X.ret, s) = F6 prog 66 [(b7 a0), (I a1), (V.sl 0 1 (List.map a7 a2))] [] [.tmp 6, .tmp 7] (X.ret, s)) :
  ∀ (m : Nat) (x30 : (List Str)) (x31 : Int), (D1 (u1 prog (EV k) Be k Dp) m ⟨[(10, (V.sl 1 1 (List.map V.str x30))), (27, (V.sl 0 1 (List.map a7 a2))), (28, (I (a2.length : Int))), (29, (I x31))], [], 66⟩).bind Kst = (G5 k a2 K0 m x30 x31).map S7 := by
 intro m
 induction m with
 | zero => intros; rfl
 | succ m ih =>
  intro x30 x31
  unfold G5
  refine et l9 <| kra [(30, (Bo (decide (x31 < (a2.length : Int)))))] rfl <| kc rfl rfl (fun hc => ?_) fun hc => ?_
  ·rw [hc]
   refine et d6 <| et (i9 rfl) <| kg FA rfl (fun (o33 : (List a6)) => ⟨[(10, (V.sl 1 1 (List.map V.str x30))), (12, (a7 o33)), (27, (V.sl 0 1 (List.map a7 a2))), (28, (I (a2.length : Int))), (29, (I x31))], [], 66⟩) (rs rfl (i2 (e := a7) rfl rfl rfl underlying26 rfl (by decide)) fun v32 => b5 rfl) fun o33 => kr ⟨[(10, (V.sl 1 1 (List.map V.str x30))), (12, (a7 o33)), (13, (aL 13 V.str ([] : List Str))), (27, (V.sl 0 1 (List.map a7 a2))), (28, (I (a2.length : Int))), (29, (I x31))], [(13, ⟨true, 1, List.map V.str ([] : List Str)⟩)], 66⟩ rfl <| et b6 <| krp BL rfl ⟨[(10, (V.sl 1 1 (List.map V.str x30))), (13, (aL 13 V.str ([] : List Str))), (27, (V.sl 0 1 (List.map a7 a2))), (28, (I (a2.length : Int))), (29, (I x31)), (33, (a7 o33)), (34, (I (o33.length : Int))), (35, (I 0))], [(13, ⟨true, 1, List.map V.str ([] : List Str)⟩)], 66⟩ ?_ ?_
   ·exact rd 1 [(33, (a7 o33))] rfl rfl <| rl rfl (n7 (e := d4) rfl rfl rfl rfl rfl rfl underlying56) <| b5 rfl
   refine et (i9 rfl) <| et p8 ?_
   refine jU k a0 a1 a2 x30 x31 o33 _ _ ?h_match_Format_L2_0 ?hr_match_Format_L2 k 0 ([] : List Str)
   ·intro y54 y55
    exact et j5 <| kgl xJ rfl (fun (o58 : (List Str)) => ⟨[(10, (V.sl 1 1 (List.map V.str o58))), (27, (V.sl 0 1 (List.map a7 a2))), (28, (I (a2.length : Int))), (29, (I x31))], [], 66⟩) (ra 2 2 ⟨[(10, (sS x30)), (13, (aL 13 V.str y55)), (27, (V.sl 0 1 (List.map a7 a2))), (28, (I (a2.length : Int))), (29, (I x31)), (33, (a7 o33)), (34, (I (o33.length : Int))), (35, (I y54)), (36, (Bo false)), (58, (V.sl 1 1 (List.map V.str x30))), (59, (aL 13 V.str y55))], [(13, ⟨true, 1, List.map V.str y55⟩)], 66⟩ rfl rfl rfl <| rp rfl (d7 rfl rfl rfl rfl (ri (Ci (e := V.str) rfl) (by intro s i q h; cases h) (ri rfl (by intro s i q h; cases h) rfl)) (ic k y55 ([38] : Str)) (.inr (fun _ => rfl))) fun v56 => bd 4 [(60, (Sr v56)), (61, (sS (([v56] : List Str))))] rfl rfl <| et (P4 (x := (app x30 ([v56] : List Str))) (w := fun v57 => ((V.sl 1 1 (List.map V.str v57)), _)) rfl rfl rfl rfl (nx (e := V.str) rfl rfl rfl rfl rfl rfl rfl rfl rfl rfl (by decide))) <| B7 fun v57 => b5 rfl) fun o58 => et i6 <| kl ⟨[(10, (V.sl 1 1 (List.map V.str o58))), (27, (V.sl 0 1 (List.map a7 a2))), (28, (I (a2.length : Int))), (29, (I (Go.IntKind.wrap .i64 (x31 + 1))))], [], 66⟩ rfl <| et i3 <| ih o58 (Go.IntKind.wrap .i64 (x31 + 1))
   ·intro s; exact hret s
  ·rw [hc]
   exact et p7 <| et j3 <| hK0 x30 x31
theorem hZ (k : Nat) (a0 : a8) (a1 : Int) (a2 : (List (List a6))) : EV k 24 [(b7 a0), (I a1), (V.sl 0 1 (List.map a7 a2))] = (G2 k a0 a1 a2).map S7 := by
 cases k with
 | zero => rfl
 | succ k =>
  unfold G2
  refine et (i5 (c := f24c) (N := 66) (regs := Be) rfl func24 rfl (by decide) rfl rfl rfl) <| kr ⟨[(1, (I a1)), (2, (V.sl 0 1 (List.map a7 a2))), (3, (Pt 3))], [(3, vS 4 (b7 a0))], 66⟩ rfl <| et b6 <| kg Ew rfl (fun (o2 : Int) => ⟨[(2, (V.sl 0 1 (List.map a7 a2))), (9, (I o2))], [], 66⟩) (rd 4 [(17, (b7 a0)), (18, (I a1)), (19, (V.sl 0 1 (List.map a7 a2))), (20, (V.sl 0 1 (List.map (fun x => (V.sl 0 1 (List.map a7 x))) ([a2] : List (List (List a6))))))] rfl rfl <| rp rfl (d7 rfl rfl rfl rfl rfl (R9 k a0 a1 ([a2] : List (List (List a6)))) (.inl rfl)) fun v1 => b5 rfl) fun o2 => et b6 <| kra [(25, (Bo (o2 != 0)))] rfl <| kc rfl rfl (fun hc => ?_) fun hc => ?_
  ·rw [hc]
   refine et b6 <| kr ⟨[(6, (Sr ([] : Str))), (7, (I o2))], [], 66⟩ rfl <| et n6 ?_
   rfl
  ·rw [hc]
   refine et d6 <| kr ⟨[(2, (V.sl 0 1 (List.map a7 a2))), (10, (V.sl 1 1 (List.map V.str ([] : List Str))))], [], 66⟩ rfl <| et b6 <| krp EW rfl ⟨[(10, (V.sl 1 1 (List.map V.str ([] : List Str)))), (27, (V.sl 0 1 (List.map a7 a2))), (28, (I (a2.length : Int))), (29, (I 0))], [], 66⟩ ?_ ?_
   ·exact rd 1 [(27, (V.sl 0 1 (List.map a7 a2)))] rfl rfl <| rl rfl (n7 (e := a7) rfl rfl rfl rfl rfl rfl underlying26) <| b5 rfl
   refine et (i9 rfl) <| et p8 ?_
   refine jY k a0 a1 a2 _ _ ?h_match_Format_L1_0 ?hr_match_Format_L1 k ([] : List Str) 0
   ·intro y59 y60
    refine et j5 <| kg Av rfl (fun (o62 : Str × Int) => ⟨[(6, (Sr o62.1)), (7, (I o62.2))], [], 66⟩) (rd 1 [(64, (sS y59))] rfl rfl <| rp rfl (d7 rfl rfl rfl rfl rfl (ic k y59 ([124] : Str)) (.inl rfl)) fun v61 => b5 rfl) fun o62 => et i1 ?_
    rfl
   ·intro s; exact rfl
def ph : (Str × Int) → V × List V := fun r => (.tup [(Sr r.1), (I r.2)], [])
theorem I0 (k : Nat) (a0 : a8) (a1 : b8) : EV k 8 [(b7 a0), (j4 a1)] = (z7 k a0 a1).map ph := by
 cases k with
 | zero => rfl
 | succ k =>
  unfold z7
  refine et (i5 (c := f8c) (N := 60) (regs := f8n) rfl func8 rfl (by decide) rfl rfl rfl) <| kr ⟨[(2, (Pt 2)), (3, (Pt 3))], [(2, vS 4 (b7 a0)), (3, vS 3 (j4 a1))], 60⟩ rfl <| kga XI rfl (fun (o2 : (List Int) × Int) => [(6, (sI o2.1)), (7, (I o2.2))]) (rd 3 [(11, (b7 a0)), (12, (j4 a1)), (13, (u5 (([a1] : List b8))))] rfl rfl <| rp rfl (d7 rfl rfl rfl rfl rfl (bt k a0 ([a1] : List b8)) (.inl rfl)) fun v1 => b5 rfl) fun o2 => et b6 <| kra [(18, (Bo (o2.2 != 0)))] rfl <| kc rfl rfl (fun hc => ?_) fun hc => ?_
  ·rw [hc]
   refine et b6 <| kr ⟨[(4, (Sr ([] : Str))), (5, (I o2.2))], [], 60⟩ rfl <| et n6 ?_
   rfl
  ·rw [hc]
   refine et d6 <| kd Qn rfl (fun (o5 : Str) => ⟨[(2, (Pt 2)), (3, (Pt 3)), (6, (sI o2.1)), (8, (Sr o5))], [(2, vS 4 (b7 a0)), (3, vS 3 (j4 a1))], 60⟩) (et (j2 (p := 9) (dk := true) (t := [(2, (Pt 2)), (3, (Pt 3)), (6, (sI o2.1)), (7, (I o2.2)), (18, (Bo false))]) (σ := [(2, vS 4 (b7 a0)), (3, vS 3 (j4 a1))]) (n := 60) rfl (by decide) (by decide) rfl) <| et (j9 (m := 6) (j := 6) (t' := [(2, (Pt 2)), (3, (Pt 3)), (6, (sI o2.1)), (7, (I o2.2)), (18, (Bo false)), (20, (Pt 3)), (21, (Sr a1.fSegment)), (22, (Pt 3)), (23, (Sr a1.fSegment)), (24, (I (a1.fSegment.length : Int))), (25, (I (Go.IntKind.wrap .i64 (8 - (a1.fSegment.length : Int)))))]) rfl rfl rfl) <| et (c9 (x := (strings_Repeat k ([32] : Str) (Go.IntKind.wrap .i64 (8 - (a1.fSegment.length : Int))))) (w := fun v3 => (Sr v3)) rfl rfl rfl rfl rfl (d7 rfl rfl rfl rfl rfl (fy k ([32] : Str) (Go.IntKind.wrap .i64 (8 - (a1.fSegment.length : Int)))) (.inl rfl))) <| j6 fun v3 => et (i7 (m := 0) (j := 7) (t' := [(2, (Pt 2)), (3, (Pt 3)), (6, (sI o2.1)), (7, (I o2.2)), (18, (Bo false)), (20, (Pt 3)), (21, (Sr a1.fSegment)), (22, (Pt 3)), (23, (Sr a1.fSegment)), (24, (I (a1.fSegment.length : Int))), (25, (I (Go.IntKind.wrap .i64 (8 - (a1.fSegment.length : Int))))), (26, (Sr v3))]) rfl rfl rfl) <| et (c9 (x := (cat a1.fSegment v3)) (w := fun v4 => (Sr v4)) rfl rfl rfl rfl rfl (E9 rfl rfl rfl)) <| B7 fun v4 => j8 rfl) fun o5 => et b6 <| kra [(30, (Bo (!(a1.fCodes == ([] : Str)))))] rfl <| kc rfl rfl (fun hc => ?_) fun hc => ?_
   ·rw [hc]
    refine kg YI rfl (fun (o8 : Str) => ⟨[(2, (Pt 2)), (3, (Pt 3)), (6, (sI o2.1)), (8, (Sr o8))], [(2, vS 4 (b7 a0)), (3, vS 3 (j4 a1))], 60⟩) (rd 3 [(31, (Sr o5)), (32, (V.ptr 3 0 1)), (33, (Sr a1.fCodes))] rfl rfl <| rp rfl (E9 rfl rfl rfl) fun v6 => bd 4 [(34, (Sr v6))] rfl rfl <| rs rfl (E9 rfl rfl rfl) fun v7 => b5 rfl) fun o8 => et b6 <| krp NY rfl ⟨[(2, (Pt 2)), (3, (Pt 3)), (6, (sI o2.1)), (8, (Sr o8)), (39, (Bo ((a1.fWhen.length : Int) == 0)))], [(2, vS 4 (b7 a0)), (3, vS 3 (j4 a1))], 60⟩ ?_ ?_
    ·exact rd 2 [(36, (V.ptr 3 0 2)), (37, (V.sl 0 1 (List.map a7 a1.fWhen)))] rfl rfl <| rl rfl (n7 (e := a7) rfl rfl rfl rfl rfl rfl underlying26) <| b5 rfl
    refine kc rfl rfl (fun hc => ?_) fun hc => ?_
    ·rw [hc]
     refine et b6 <| kg Gg rfl (fun (o10 : Str × Int) => ⟨[(4, (Sr o10.1)), (5, (I o10.2))], [], 60⟩) (rd 1 [(40, (Sr o8))] rfl rfl <| rp rfl (E9 rfl rfl rfl) fun v9 => b5 rfl) fun o10 => et n6 ?_
     rfl
    ·rw [hc]
     refine et d6 <| kd GN rfl (fun (o13 : Int × Str) => ⟨[(7, (I o13.1)), (8, (Sr o8)), (9, (Sr o13.2))], [], 60⟩) (et (j2 (p := 12) (dk := true) (t := [(2, (Pt 2)), (3, (Pt 3)), (6, (sI o2.1)), (8, (Sr o8)), (39, (Bo false))]) (σ := [(2, vS 4 (b7 a0)), (3, vS 3 (j4 a1))]) (n := 60) rfl (by decide) (by decide) rfl) <| et (j9 (m := 2) (j := 2) (t' := [(2, (Pt 2)), (3, (Pt 3)), (6, (sI o2.1)), (8, (Sr o8)), (39, (Bo false)), (43, (b7 a0)), (44, (sI o2.1))]) rfl rfl rfl) <| et (c9 (x := (idx o2.1 0)) (w := fun v11 => (Pr (I v11))) rfl rfl rfl rfl rfl (i2 (e := I) rfl rfl rfl underlying58 rfl (by decide))) <| j6 fun v11 => et (i7 (m := 3) (j := 6) (t' := [(2, (Pt 2)), (3, (Pt 3)), (6, (sI o2.1)), (8, (Sr o8)), (39, (Bo false)), (43, (b7 a0)), (44, (sI o2.1)), (45, (Pr (I v11))), (46, (I v11)), (47, (V.ptr 3 0 2)), (48, (V.sl 0 1 (List.map a7 a1.fWhen)))]) rfl rfl rfl) <| et (c9 (x := (G2 k a0 v11 a1.fWhen)) (w := fun v12 => (V.tup [(Sr v12.1), (I v12.2)])) rfl rfl rfl rfl rfl (d7 rfl rfl rfl rfl rfl (hZ k a0 v11 a1.fWhen) (.inl rfl))) <| j6 fun v12 => j8 rfl) fun o13 => et b6 <| kra [(53, (Bo (o13.1 != 0)))] rfl <| kc rfl rfl (fun hc => ?_) fun hc => ?_
     ·rw [hc]
      refine et b6 <| kr ⟨[(4, (Sr ([] : Str))), (5, (I o13.1))], [], 60⟩ rfl <| et n6 ?_
      rfl
     ·rw [hc]
      refine et d6 <| kg Ax rfl (fun (o17 : Str × Int) => ⟨[(4, (Sr o17.1)), (5, (I o17.2))], [], 60⟩) (rd 1 [(55, (Sr o8))] rfl rfl <| rp rfl (E9 rfl rfl rfl) fun v14 => bd 3 [(56, (Sr v14)), (57, (Sr o13.2))] rfl rfl <| rp rfl (E9 rfl rfl rfl) fun v15 => bd 4 [(58, (Sr v15))] rfl rfl <| rp rfl (E9 rfl rfl rfl) fun v16 => b5 rfl) fun o17 => et i1 ?_
      rfl
   ·rw [hc]
    refine et d6 <| et b6 <| krp NY rfl ⟨[(2, (Pt 2)), (3, (Pt 3)), (6, (sI o2.1)), (8, (Sr o5)), (39, (Bo ((a1.fWhen.length : Int) == 0)))], [(2, vS 4 (b7 a0)), (3, vS 3 (j4 a1))], 60⟩ ?_ ?_
    ·exact rd 2 [(36, (V.ptr 3 0 2)), (37, (V.sl 0 1 (List.map a7 a1.fWhen)))] rfl rfl <| rl rfl (n7 (e := a7) rfl rfl rfl rfl rfl rfl underlying26) <| b5 rfl
    refine kc rfl rfl (fun hc => ?_) fun hc => ?_
    ·rw [hc]
     refine et b6 <| kg Gg rfl (fun (o19 : Str × Int) => ⟨[(4, (Sr o19.1)), (5, (I o19.2))], [], 60⟩) (rd 1 [(40, (Sr o5))] rfl rfl <| rp rfl (E9 rfl rfl rfl) fun v18 => b5 rfl) fun o19 => et n6 ?_
     rfl
    ·rw [hc]
     refine et d6 <| kd GN rfl (fun (o22 : Int × Str) => ⟨[(7, (I o22.1)), (8, (Sr o5)), (9, (Sr o22.2))], [], 60⟩) (et (j2 (p := 12) (dk := true) (t := [(2, (Pt 2)), (3, (Pt 3)), (6, (sI o2.1)), (8, (Sr o5)), (39, (Bo false))]) (σ := [(2, vS 4 (b7 a0)), (3, vS 3 (j4 a1))]) (n := 60) rfl (by decide) (by decide) rfl) <| et (j9 (m := 2) (j := 2) (t' := [(2, (Pt 2)), (3, (Pt 3)), (6, (sI o2.1)), (8, (Sr o5)), (39, (Bo false)), (43, (b7 a0)), (44, (sI o2.1))]) rfl rfl rfl) <| et (c9 (x := (idx o2.1 0)) (w := fun v20 => (Pr (I v20))) rfl rfl rfl rfl rfl (i2 (e := I) rfl rfl rfl underlying58 rfl (by decide))) <| j6 fun v20 => et (i7 (m := 3) (j := 6) (t' := [(2, (Pt 2)), (3, (Pt 3)), (6, (sI o2.1)), (8, (Sr o5)), (39, (Bo false)), (43, (b7 a0)), (44, (sI o2.1)), (45, (Pr (I v20))), (46, (I v20)), (47, (V.ptr 3 0 2)), (48, (V.sl 0 1 (List.map a7 a1.fWhen)))]) rfl rfl rfl) <| et (c9 (x := (G2 k a0 v20 a1.fWhen)) (w := fun v21 => (V.tup [(Sr v21.1), (I v21.2)])) rfl rfl rfl rfl rfl (d7 rfl rfl rfl rfl rfl (hZ k a0 v20 a1.fWhen) (.inl rfl))) <| j6 fun v21 => j8 rfl) fun o22 => et b6 <| kra [(53, (Bo (o22.1 != 0)))] rfl <| kc rfl rfl (fun hc => ?_) fun hc => ?_
     ·rw [hc]
      refine et b6 <| kr ⟨[(4, (Sr ([] : Str))), (5, (I o22.1))], [], 60⟩ rfl <| et n6 ?_
      rfl
     ·rw [hc]
      refine et d6 <| kg Ax rfl (fun (o26 : Str × Int) => ⟨[(4, (Sr o26.1)), (5, (I o26.2))], [], 60⟩) (rd 1 [(55, (Sr o5))] rfl rfl <| rp rfl (E9 rfl rfl rfl) fun v23 => bd 3 [(56, (Sr v23)), (57, (Sr o22.2))] rfl rfl <| rp rfl (E9 rfl rfl rfl) fun v24 => bd 4 [(58, (Sr v24))] rfl rfl <| rp rfl (E9 rfl rfl rfl) fun v25 => b5 rfl) fun o26 => et i1 ?_
      rfl
def oi : Bool → V × List V := fun r => ((Bo r), [])
theorem Y2 (k : Nat)  : EV k 7 [] = (P8 k).map oi := by
 cases k with
 | zero => rfl
 | succ k =>
  unfold P8
  refine et (i5 (c := f7c) (N := 36) (regs := f7n) rfl func7 rfl (by decide) rfl rfl rfl) <| kra [] rfl <| kr ⟨[(1, (Pt 1))], [(1, ⟨false, 3, [(j4 ({ fSegment := ([79, 82, 68, 69, 82] : Str), fCodes := ([68] : Str), fWhen := ([([({ fField := ([79, 82, 68, 78, 79] : Str), fOp := 1, fValue := ([48, 48, 48, 53] : Str) } : a6)] : List a6)] : List (List a6)) } : b8))]⟩)], 36⟩ rfl <| kd XG rfl (fun (o3 : Str × Int) => ⟨[(2, (Sr o3.1)), (3, (I o3.2))], [], 36⟩) (et (j2 (p := 8) (dk := true) (t := [(1, (Pt 1))]) (σ := [(1, ⟨false, 3, [(j4 ({ fSegment := ([79, 82, 68, 69, 82] : Str), fCodes := ([68] : Str), fWhen := ([([({ fField := ([79, 82, 68, 78, 79] : Str), fOp := 1, fValue := ([48, 48, 48, 53] : Str) } : a6)] : List a6)] : List (List a6)) } : b8))]⟩)]) (n := 36) rfl (by decide) (by decide) rfl) <| et (c9 (x := (bK k)) (w := fun v1 => (b7 v1)) rfl rfl rfl rfl rfl (d7 rfl rfl rfl rfl rfl (jP k) (.inl rfl))) <| j6 fun v1 => et (i7 (m := 1) (j := 2) (t' := [(1, (Pt 1)), (11, (b7 v1)), (12, (j4 ({ fSegment := ([79, 82, 68, 69, 82] : Str), fCodes := ([68] : Str), fWhen := ([([({ fField := ([79, 82, 68, 78, 79] : Str), fOp := 1, fValue := ([48, 48, 48, 53] : Str) } : a6)] : List a6)] : List (List a6)) } : b8)))]) rfl rfl rfl) <| et (c9 (x := (z7 k v1 ({ fSegment := ([79, 82, 68, 69, 82] : Str), fCodes := ([68] : Str), fWhen := ([([({ fField := ([79, 82, 68, 78, 79] : Str), fOp := 1, fValue := ([48, 48, 48, 53] : Str) } : a6)] : List a6)] : List (List a6)) } : b8))) (w := fun v2 => (V.tup [(Sr v2.1), (I v2.2)])) rfl rfl rfl rfl rfl (d7 rfl rfl rfl rfl rfl (I0 k v1 ({ fSegment := ([79, 82, 68, 69, 82] : Str), fCodes := ([68] : Str), fWhen := ([([({ fField := ([79, 82, 68, 78, 79] : Str), fOp := 1, fValue := ([48, 48, 48, 53] : Str) } : a6)] : List a6)] : List (List a6)) } : b8)) (.inl rfl))) <| j6 fun v2 => j8 rfl) fun o3 => kga aad rfl (fun (o6 : Str × Int) => [(4, (Sr o6.1)), (5, (I o6.2))]) (rp rfl (d7 rfl rfl rfl rfl rfl (jP k) (.inl rfl)) fun v4 => bd 2 [(17, (b7 v4)), (18, (j4 ({ fSegment := ([67, 85, 83, 84] : Str), fCodes := [], fWhen := ([] : List (List a6)) } : b8)))] rfl rfl <| rp rfl (d7 rfl rfl rfl rfl rfl (I0 k v4 ({ fSegment := ([67, 85, 83, 84] : Str), fCodes := [], fWhen := ([] : List (List a6)) } : b8)) (.inl rfl)) fun v5 => b5 rfl) fun o6 => kg Tj rfl (fun (o7 : Bool) => ⟨[(0, (Bo o7))], [], 36⟩) ?_ fun o7 => ?_
  ·refine rd 3 [(22, (I o3.2)), (23, (Bo (o3.2 == 0))), (24, (Bo (o3.2 == 0)))] rfl rfl <| n5 (fun hc => ?_) fun hc => ?_
   ·rw [hc]
    refine rd 7 [(25, (I o6.2)), (26, (Bo (o6.2 == 0))), (27, (Bo (o6.2 == 0))), (28, (Bo (o6.2 == 0)))] rfl rfl <| n5 (fun hc => ?_) fun hc => ?_
    ·rw [hc]
     refine rd 11 [(29, (Sr o3.1)), (30, (Bo (o3.1 == ([79, 82, 68, 69, 82, 32, 32, 32, 42, 68, 40, 79, 82, 68, 78, 79, 32, 32, 32, 61, 32, 48, 48, 48, 53, 41] : Str)))), (31, (Bo (o3.1 == ([79, 82, 68, 69, 82, 32, 32, 32, 42, 68, 40, 79, 82, 68, 78, 79, 32, 32, 32, 61, 32, 48, 48, 48, 53, 41] : Str)))), (32, (Bo (o3.1 == ([79, 82, 68, 69, 82, 32, 32, 32, 42, 68, 40, 79, 82, 68, 78, 79, 32, 32, 32, 61, 32, 48, 48, 48, 53, 41] : Str))))] rfl rfl <| n5 (fun hc => ?_) fun hc => ?_
     ·rw [hc]
      exact d5 rfl
     ·rw [hc]
      exact d5 rfl
    ·rw [hc]
     exact d5 rfl
   ·rw [hc]
    exact d5 rfl
  refine et i1 ?_
  rfl
def bH : Bool → V × List V := fun r => ((Bo r), [])
end
end Go.AE
