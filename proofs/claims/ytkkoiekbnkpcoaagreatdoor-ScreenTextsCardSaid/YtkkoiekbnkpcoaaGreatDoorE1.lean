/- The program, function by function: the evaluator comes to the typed functions. Conditions: none. -/
import Derived.Test.YtkkoiekbnkpcoaaGreatDoorA3
import Derived.KernelRfl
import Derived.Test.YtkkoiekbnkpcoaaGreatDoorProg
import Derived.Test.YtkkoiekbnkpcoaaGreatDoorB1
namespace Go.AE
open Go.Proofs.Tryz Go.Sh
set_option linter.unusedSimpArgs false
set_option linter.unusedVariables false
set_option maxRecDepth 100000
set_option maxHeartbeats 4000000
noncomputable section
abbrev Pt (n : Nat) : V := .ptr n 0 0
abbrev Bo (b : Bool) : V := .bool b
abbrev Sr (s : Str) : V := .str s
abbrev Pr (v : V) : V := .pro v
abbrev sS (l : List Str) : V := .sl 0 1 (List.map V.str l)
abbrev vS (n : Nat) (v : V) : Site := ⟨false, n, [v]⟩
abbrev aL {α : Type} (d : Nat) (e : α → V) (l : List α) : V := .aref d 0 (List.map e l).length
theorem eqg36 : prog.eqGuardType prog.depth 36 = false := by kernel_rfl
theorem sih36 : prog.stoodInHeld 36 = false := by kernel_rfl
theorem eqg38 : prog.eqGuardType prog.depth 38 = false := by kernel_rfl
theorem sih38 : prog.stoodInHeld 38 = false := by kernel_rfl
def eMark (a : T_api_Mark) : V := .agg [(V.int .i64 a.fRow), (V.int .i64 a.fColumn), (V.str a.fText)]
def eSlot (a : T_api_Slot) : V := .agg [(V.str a.fName), (V.int .i64 a.fRow), (V.int .i64 a.fColumn), (V.int .i64 a.fBytes), (V.int .i64 a.fIn), (V.int .i64 a.fOut), (V.int .u8 a.fFill)]
def eForm (a : T_api_Form) : V := .agg [(V.int .i64 a.fRows), (V.int .i64 a.fColumns), (V.sl 0 3 (List.map eMark a.fMarks)), (V.sl 0 7 (List.map eSlot a.fFields))]
def epart (a : T_screen_part) : V := .agg [(V.int .i64 a.frow), (V.int .i64 a.fcolumn), (V.int .i64 a.fn)]
def espan (a : T_progenyref24_span) : V := .agg [(V.int .i64 a.frow), (V.int .i64 a.fcolumn), (V.int .i64 a.fbytes)]
def f4a1 : RAnn := ⟨[5, 6, 7, 8, 9, 10, 11, 12, 13], []⟩
def f4a4 : RAnn := ⟨[15, 16, 17, 18], []⟩
def f4a6 : RAnn := ⟨[19, 22, 23, 24, 25, 26, 27, 28], []⟩
def f4a9 : RAnn := ⟨[30, 31, 32, 33], []⟩
def f4a11 : RAnn := ⟨[34, 37, 38, 39, 40, 41, 42, 43], []⟩
noncomputable def f4b0 : Code := (.seq (.seq (.region 4 (oN f4 267) false) (.cond (.tmp 19) .skip (.exit 0))) (.seq (.block 1 (.seq (.region 6 (oN f4 1099) false) (.cond (.tmp 29) (.seq (.region 7 (oN f4 4683) false) .ret) .skip))) (.region 5 (oN f4 459) false)))
noncomputable def f4b1 : Code := (.seq (.seq (.region 9 (oN f4 535) false) (.cond (.tmp 34) .skip (.exit 2))) (.seq (.block 3 (.seq (.region 11 (oN f4 2199) false) (.cond (.tmp 44) (.seq (.region 12 (oN f4 9367) false) .ret) .skip))) (.region 10 (oN f4 919) false)))
noncomputable def f4c : Code := (.seq (.region 0 (oN f4 2) false) (.seq (.seq (.region 1 (oN f4 9) false) (.cond (.tmp 14) (.seq (.region 2 (oN f4 37) false) .ret) .skip)) (.seq (.seq (.region 3 (oN f4 19) false) (.block 0 (.loop f4b0))) (.seq (.seq (.region 8 (oN f4 39) false) (.block 2 (.loop f4b1))) (.seq (.region 13 (oN f4 47) false) .ret)))))
def f4n : List (Nat × RAnn) := [(0, ⟨[0, 2], []⟩), (1, f4a1), (2, ⟨[1, 14], []⟩), (3, ⟨[14], []⟩), (4, f4a4), (5, ⟨[20, 21, 29], []⟩), (6, f4a6), (7, ⟨[1, 3, 29], []⟩), (8, ⟨[3, 19], []⟩), (9, f4a9), (10, ⟨[35, 36, 44], []⟩), (11, f4a11), (12, ⟨[1, 4, 44], []⟩), (13, ⟨[1, 4, 34], []⟩)]
def f57a4 : RAnn := ⟨[10, 11, 12, 13, 14, 15, 16, 17, 18, 19], []⟩
def f57a5 : RAnn := ⟨[3, 4, 20, 21, 22, 23, 24, 25, 26, 27, 28, 29, 30, 31, 32, 33, 34, 35, 36], []⟩
def f57a8 : RAnn := ⟨[0, 6, 7, 8, 39, 40, 41, 42, 43, 44, 45, 46], []⟩
noncomputable def f57b0 : Code := (.seq (.region 2 (oN f57 69) false) (.seq (.cond (.tmp 8) .skip (.exit 0)) (.seq (.block 1 (.seq (.region 3 (oN f57 1125) false) (.seq (.region 4 (oN f57 2661) false) (.seq (.region 5 (oN f57 5733) false) (.cond (.tmp 37) (.seq (.region 6 (oN f57 20069) false) .ret) .skip))))) (.region 7 (oN f57 485) false))))
noncomputable def f57c : Code := (.seq (.region 0 (oN f57 2) false) (.seq (.seq (.region 1 (oN f57 9) false) (.block 0 (.loop f57b0))) (.seq (.region 8 (oN f57 11) false) .ret)))
def f57n : List (Nat × RAnn) := [(0, ⟨[2], []⟩), (1, ⟨[5], []⟩), (2, ⟨[], []⟩), (3, ⟨[8, 9], []⟩), (4, f57a4), (5, f57a5), (6, ⟨[0, 6, 7, 37], []⟩), (7, ⟨[37, 38], []⟩), (8, f57a8)]
def f58a1 : RAnn := ⟨[0, 3, 4, 5, 6, 7, 8], []⟩
noncomputable def f58c : Code := (.seq (.region 0 (oN f58 2) false) (.seq (.region 1 (oN f58 5) false) .ret))
def f58n : List (Nat × RAnn) := [(0, ⟨[2], []⟩), (1, f58a1)]
def f59a1 : RAnn := ⟨[0, 3, 4, 5, 6, 7, 8], []⟩
noncomputable def f59c : Code := (.seq (.region 0 (oN f59 2) false) (.seq (.region 1 (oN f59 5) false) .ret))
def f59n : List (Nat × RAnn) := [(0, ⟨[2], []⟩), (1, f59a1)]
def f79a1 : RAnn := ⟨[6], []⟩
def f79a4 : RAnn := ⟨[11, 12, 13, 14, 15], []⟩
noncomputable def f79b0 : Code := (.seq (.region 2 (oN f79 69) false) (.seq (.cond (.tmp 9) .skip (.exit 0)) (.seq (.block 1 (.seq (.region 3 (oN f79 1125) false) (.seq (.region 4 (oN f79 2661) false) (.cond (.tmp 16) (.seq (.region 5 (oN f79 9829) false) .ret) .skip)))) (.region 6 (oN f79 485) false))))
noncomputable def f79c : Code := (.seq (.region 0 (oN f79 2) false) (.seq (.seq (.region 1 (oN f79 9) false) (.block 0 (.loop f79b0))) (.seq (.region 7 (oN f79 11) false) .ret)))
def f79n : List (Nat × RAnn) := [(0, ⟨[4], []⟩), (1, f79a1), (2, ⟨[], []⟩), (3, ⟨[9, 10], []⟩), (4, f79a4), (5, ⟨[0, 1, 5, 7, 8, 16, 17], []⟩), (6, ⟨[5, 16, 18], []⟩), (7, ⟨[0, 1, 7, 8, 9], []⟩)]
def f60a1 : RAnn := ⟨[0, 1, 5, 6, 7, 8], []⟩
noncomputable def f60c : Code := (.seq (.region 0 (oN f60 2) false) (.seq (.region 1 (oN f60 5) false) .ret))
def f60n : List (Nat × RAnn) := [(0, ⟨[4], []⟩), (1, f60a1)]
def f61a1 : RAnn := ⟨[1, 2, 4, 5, 6, 7, 8, 9, 10, 11, 12, 13, 14, 15, 16, 17, 18, 19, 20, 21, 22, 23, 24, 25, 26, 27, 28, 29, 30, 31, 32], []⟩
noncomputable def f61c : Code := (.seq (.region 0 (oN f61 2) false) (.seq (.region 1 (oN f61 5) false) .ret))
def f61n : List (Nat × RAnn) := [(0, ⟨[0, 3], []⟩), (1, f61a1)]
def f34a1 : RAnn := ⟨[], []⟩
def f34a3 : RAnn := ⟨[8, 9, 10, 11], []⟩
def f34a4 : RAnn := ⟨[12, 13, 14, 15, 16, 17, 18, 19, 20, 21, 22, 23, 24, 25, 26, 27, 28, 29, 30, 31, 32], []⟩
def f34a6 : RAnn := ⟨[3, 4, 33, 34, 35, 36, 37], []⟩
def f34a9 : RAnn := ⟨[0, 5, 6, 7, 8, 40, 41, 42], []⟩
noncomputable def f34b0 : Code := (.seq (.region 2 (oN f34 69) false) (.seq (.cond (.tmp 8) .skip (.exit 0)) (.seq (.block 1 (.seq (.region 3 (oN f34 1125) false) (.seq (.seq (.region 4 (oN f34 4709) false) (.cond (.tmp 33) (.seq (.region 5 (oN f34 19045) false) .ret) .skip)) (.seq (.region 6 (oN f34 5733) false) (.cond (.tmp 38) (.seq (.region 7 (oN f34 20069) false) .ret) .skip))))) (.region 8 (oN f34 485) false))))
noncomputable def f34c : Code := (.seq (.region 0 (oN f34 2) false) (.seq (.seq (.region 1 (oN f34 9) false) (.block 0 (.loop f34b0))) (.seq (.region 9 (oN f34 11) false) .ret)))
def f34n : List (Nat × RAnn) := [(0, ⟨[2], []⟩), (1, f34a1), (2, ⟨[], []⟩), (3, f34a3), (4, f34a4), (5, ⟨[0, 3, 4, 5, 6, 7, 33], []⟩), (6, f34a6), (7, ⟨[0, 5, 6, 7, 38], []⟩), (8, ⟨[38, 39], []⟩), (9, f34a9)]
def f35a4 : RAnn := ⟨[3, 9, 10, 11, 12], []⟩
noncomputable def f35b0 : Code := (.seq (.region 2 (oN f35 69) false) (.seq (.cond (.tmp 7) .skip (.exit 0)) (.seq (.block 1 (.seq (.region 3 (oN f35 1125) false) (.seq (.region 4 (oN f35 2661) false) (.cond (.tmp 13) (.seq (.region 5 (oN f35 9829) false) .ret) .skip)))) (.region 6 (oN f35 485) false))))
noncomputable def f35c : Code := (.seq (.region 0 (oN f35 2) false) (.seq (.seq (.region 1 (oN f35 9) false) (.block 0 (.loop f35b0))) (.seq (.region 7 (oN f35 11) false) .ret)))
def f35n : List (Nat × RAnn) := [(0, ⟨[2], []⟩), (1, ⟨[4], []⟩), (2, ⟨[], []⟩), (3, ⟨[7, 8], []⟩), (4, f35a4), (5, ⟨[0, 5, 6, 13], []⟩), (6, ⟨[13, 14], []⟩), (7, ⟨[0, 5, 6, 7], []⟩)]
def f36a1 : RAnn := ⟨[1, 2, 3, 4, 9, 10, 11, 12, 13, 14, 15, 16, 17, 18, 19, 20, 21, 22, 23, 24, 25, 26, 27, 28, 29, 30, 31, 32, 33, 34, 35, 36, 37, 38], []⟩
noncomputable def f36c : Code := (.seq (.region 0 (oN f36 2) false) (.seq (.region 1 (oN f36 5) false) .ret))
def f36n : List (Nat × RAnn) := [(0, ⟨[0, 8], []⟩), (1, f36a1)]
def f62a1 : RAnn := ⟨[6], []⟩
def f62a4 : RAnn := ⟨[11, 12, 13, 14, 15], []⟩
noncomputable def f62b0 : Code := (.seq (.region 2 (oN f62 69) false) (.seq (.cond (.tmp 9) .skip (.exit 0)) (.seq (.block 1 (.seq (.region 3 (oN f62 1125) false) (.seq (.region 4 (oN f62 2661) false) (.cond (.tmp 16) (.seq (.region 5 (oN f62 9829) false) .ret) .skip)))) (.region 6 (oN f62 485) false))))
noncomputable def f62c : Code := (.seq (.region 0 (oN f62 2) false) (.seq (.seq (.region 1 (oN f62 9) false) (.block 0 (.loop f62b0))) (.seq (.region 7 (oN f62 11) false) .ret)))
def f62n : List (Nat × RAnn) := [(0, ⟨[4], []⟩), (1, f62a1), (2, ⟨[], []⟩), (3, ⟨[9, 10], []⟩), (4, f62a4), (5, ⟨[0, 1, 5, 7, 8, 16, 17], []⟩), (6, ⟨[5, 16, 18], []⟩), (7, ⟨[0, 1, 7, 8, 9], []⟩)]
def f37a1 : RAnn := ⟨[0, 1, 5, 6, 7, 8], []⟩
noncomputable def f37c : Code := (.seq (.region 0 (oN f37 2) false) (.seq (.region 1 (oN f37 5) false) .ret))
def f37n : List (Nat × RAnn) := [(0, ⟨[4], []⟩), (1, f37a1)]
def f38a1 : RAnn := ⟨[2, 3, 5, 6, 7, 8, 9, 10, 11, 12, 13, 14, 15, 16, 17, 18, 19, 20, 21, 22, 23, 24, 25, 26, 27, 28, 29], []⟩
noncomputable def f38c : Code := (.seq (.region 0 (oN f38 2) false) (.seq (.region 1 (oN f38 5) false) .ret))
def f38n : List (Nat × RAnn) := [(0, ⟨[0, 1, 4], []⟩), (1, f38a1)]
def f14a1 : RAnn := ⟨[10, 11, 12, 13, 14, 15, 16, 17, 18, 19, 20, 21, 22, 23, 24, 25, 26, 27, 28, 29, 30, 31, 32, 33, 34, 35, 36, 37, 38], []⟩
def f14a4 : RAnn := ⟨[40], []⟩
def f14a6 : RAnn := ⟨[44, 45, 46], []⟩
def f14a7 : RAnn := ⟨[47, 48, 49, 50, 51, 52, 53, 54, 55, 56, 57, 58, 59, 60, 61, 62, 63, 64, 65, 66, 67], []⟩
def f14a9 : RAnn := ⟨[5, 68, 69, 70, 71, 72, 73, 74, 75, 76, 77, 78, 79], [(0, { tk := [3], keep := [0] }), (10, { tk := [69], keep := [0] }), (11, { tk := [79], keep := [0] })]⟩
def f14a11 : RAnn := ⟨[41, 42, 43, 44, 81], []⟩
def f14a13 : RAnn := ⟨[85, 86, 87], []⟩
def f14a14 : RAnn := ⟨[88, 89, 90, 91, 92, 93, 94, 95], []⟩
def f14a16 : RAnn := ⟨[7, 96, 97, 98, 99, 100, 101, 102, 103, 104, 105, 106], [(0, { tk := [3], keep := [0] }), (9, { tk := [97], keep := [0] }), (10, { tk := [106], keep := [0] })]⟩
def f14a18 : RAnn := ⟨[1, 82, 83, 84, 85], []⟩
def f14a20 : RAnn := ⟨[111, 112, 113, 114], []⟩
def f14a21 : RAnn := ⟨[8, 9, 115, 116, 117, 118, 119], []⟩
noncomputable def f14b0 : Code := (.seq (.region 5 (oN f14 279) false) (.seq (.cond (.tmp 44) .skip (.exit 0)) (.seq (.block 1 (.seq (.region 6 (oN f14 4503) false) (.seq (.seq (.region 7 (oN f14 18839) false) (.cond (.tmp 68) (.seq (.region 8 (oN f14 76183) false) .ret) .skip)) (.region 9 (oN f14 14743) false)))) (.region 10 (oN f14 1943) false))))
noncomputable def f14b1 : Code := (.seq (.region 12 (oN f14 559) false) (.seq (.cond (.tmp 85) .skip (.exit 2)) (.seq (.block 3 (.seq (.region 13 (oN f14 9007) false) (.seq (.seq (.region 14 (oN f14 37679) false) (.cond (.tmp 96) (.seq (.region 15 (oN f14 152367) false) .ret) .skip)) (.region 16 (oN f14 29487) false)))) (.region 17 (oN f14 3887) false))))
noncomputable def f14b2 : Code := (.seq (.region 19 (oN f14 1119) false) (.seq (.cond (.tmp 111) .skip (.exit 4)) (.seq (.block 5 (.seq (.region 20 (oN f14 18015) false) (.seq (.region 21 (oN f14 42591) true) (.cond (.tmp 120) (.seq (.region 22 (oN f14 157279) false) .ret) .skip)))) (.region 23 (oN f14 7775) false))))
noncomputable def f14c : Code := (.seq (.region 0 (oN f14 2) false) (.seq (.seq (.region 1 (oN f14 9) false) (.cond (.tmp 39) (.seq (.region 2 (oN f14 37) false) .ret) .skip)) (.seq (.region 3 (oN f14 11) false) (.seq (.seq (.region 4 (oN f14 39) false) (.block 0 (.loop f14b0))) (.seq (.seq (.region 11 (oN f14 79) false) (.block 2 (.loop f14b1))) (.seq (.seq (.region 18 (oN f14 159) false) (.block 4 (.loop f14b2))) (.seq (.region 24 (oN f14 191) false) .ret)))))))
def f14n : List (Nat × RAnn) := [(0, ⟨[0, 2], []⟩), (1, f14a1), (2, ⟨[1, 39], []⟩), (3, ⟨[39], [(0, { keep := [0] })]⟩), (4, f14a4), (5, ⟨[], []⟩), (6, f14a6), (7, f14a7), (8, ⟨[1, 3, 5, 41, 42, 43, 68], []⟩), (9, f14a9), (10, ⟨[80], []⟩), (11, f14a11), (12, ⟨[], []⟩), (13, f14a13), (14, f14a14), (15, ⟨[1, 3, 7, 82, 83, 84, 96], []⟩), (16, f14a16), (17, ⟨[107], []⟩), (18, f14a18), (19, ⟨[], []⟩), (20, f14a20), (21, f14a21), (22, ⟨[3, 108, 109, 110, 120], []⟩), (23, ⟨[120, 121], []⟩), (24, ⟨[3, 108, 109, 110, 111], []⟩)]
def f33a1 : RAnn := ⟨[1, 6], []⟩
def f33a3 : RAnn := ⟨[10, 11, 12], []⟩
def f33a4 : RAnn := ⟨[5, 13, 14, 15, 16, 17, 18, 19, 20, 21, 22], [(10, { eff := true }), (11, { eff := true })]⟩
noncomputable def f33b0 : Code := (.seq (.region 2 (oN f33 69) false) (.seq (.cond (.tmp 10) .skip (.exit 0)) (.seq (.block 1 (.seq (.region 3 (oN f33 1125) false) (.region 4 (oN f33 1637) true))) (.region 5 (oN f33 485) false))))
noncomputable def f33c : Code := (.seq (.region 0 (oN f33 2) false) (.seq (.seq (.region 1 (oN f33 9) false) (.block 0 (.loop f33b0))) (.seq (.region 6 (oN f33 11) false) .ret)))
def f33n : List (Nat × RAnn) := [(0, ⟨[0], []⟩), (1, f33a1), (2, ⟨[], []⟩), (3, f33a3), (4, f33a4), (5, ⟨[23], []⟩), (6, ⟨[7, 8, 9, 10, 24, 25], []⟩)]
def f73v10a1 : RAnn := ⟨[6], []⟩
def f73v10a4 : RAnn := ⟨[11, 12, 13, 14, 15], []⟩
noncomputable def f73v10b0 : Code := (.seq (.region 2 (oN f73 69) false) (.seq (.cond (.tmp 9) .skip (.exit 0)) (.seq (.block 1 (.seq (.region 3 (oN f73 1125) false) (.seq (.region 4 (oN f73 2661) false) (.cond (.tmp 16) (.seq (.region 5 (oN f73 9829) false) .ret) .skip)))) (.region 6 (oN f73 485) false))))
noncomputable def f73v10c : Code := (.seq (.region 0 (oN f73 2) false) (.seq (.seq (.region 1 (oN f73 9) false) (.block 0 (.loop f73v10b0))) (.seq (.region 7 (oN f73 11) false) .ret)))
def f73v10n : List (Nat × RAnn) := [(0, ⟨[4], []⟩), (1, f73v10a1), (2, ⟨[], []⟩), (3, ⟨[9, 10], []⟩), (4, f73v10a4), (5, ⟨[0, 1, 5, 7, 8, 16, 17], []⟩), (6, ⟨[5, 16, 18], []⟩), (7, ⟨[0, 1, 7, 8, 9], []⟩)]
def f50v10a1 : RAnn := ⟨[0, 1, 5, 6, 7, 8], []⟩
noncomputable def f50v10c : Code := (.seq (.region 0 (oN f50 2) false) (.seq (.region 1 (oN f50 5) false) .ret))
def f50v10n : List (Nat × RAnn) := [(0, ⟨[4], []⟩), (1, f50v10a1)]
def f51a1 : RAnn := ⟨[0, 3, 4, 5, 6, 7, 8, 9, 10], []⟩
noncomputable def f51c : Code := (.seq (.region 0 (oN f51 2) false) (.seq (.region 1 (oN f51 5) false) .ret))
def f51n : List (Nat × RAnn) := [(0, ⟨[2], []⟩), (1, f51a1)]
def f30a1 : RAnn := ⟨[7, 8], []⟩
def f30a3 : RAnn := ⟨[2, 5, 9, 10, 11, 12, 13, 14], []⟩
def f30a4 : RAnn := ⟨[1, 6, 15, 16, 17, 18, 19, 20, 21], []⟩
noncomputable def f30c : Code := (.seq (.region 0 (oN f30 2) false) (.seq (.seq (.region 1 (oN f30 9) false) (.cond (.tmp 9) (.seq (.region 2 (oN f30 37) false) .ret) .skip)) (.seq (.seq (.region 3 (oN f30 19) false) (.seq (.region 4 (oN f30 43) false) (.cond (.tmp 22) (.seq (.region 5 (oN f30 155) false) .ret) .skip))) (.seq (.region 6 (oN f30 23) false) .ret))))
def f30n : List (Nat × RAnn) := [(0, ⟨[0, 4], []⟩), (1, f30a1), (2, ⟨[1, 2, 9], []⟩), (3, f30a3), (4, f30a4), (5, ⟨[22], []⟩), (6, ⟨[22], []⟩)]
def f77a3 : RAnn := ⟨[0, 4, 6, 7], [(0, { site := true })]⟩
noncomputable def f77c : Code := (.seq (.region 0 (oN f77 2) false) (.seq (.seq (.region 1 (oN f77 9) false) (.cond (.tmp 4) (.seq (.region 2 (oN f77 37) false) .ret) .skip)) (.seq (.region 3 (oN f77 11) false) .ret)))
def f77n : List (Nat × RAnn) := [(0, ⟨[2], [(0, { site := true })]⟩), (1, ⟨[3], []⟩), (2, ⟨[], [(0, { site := true })]⟩), (3, f77a3)]
def f54a1 : RAnn := ⟨[0, 10], [(1, { site := true })]⟩
def f54a2 : RAnn := ⟨[1, 2, 3, 12, 13, 14, 15, 16, 17, 18, 19, 20, 21, 22, 23, 24, 25, 26, 27, 28, 29, 30, 31, 32], []⟩
def f54a3 : RAnn := ⟨[9, 11, 33], [(1, { close := true })]⟩
noncomputable def f54c : Code := (.seq (.region 0 (oN f54 2) false) (.seq (.region 1 (oN f54 5) false) (.seq (.region 2 (oN f54 11) true) (.seq (.region 3 (oN f54 23) false) .ret))))
def f54n : List (Nat × RAnn) := [(0, ⟨[8], []⟩), (1, f54a1), (2, f54a2), (3, f54a3)]
def f55a2 : RAnn := ⟨[1, 2, 9, 10, 11, 12, 13], []⟩
def f55a3 : RAnn := ⟨[1, 2, 9, 14, 15, 16, 17, 18, 19, 20, 21, 22, 23, 24, 25], []⟩
noncomputable def f55c : Code := (.seq (.region 0 (oN f55 2) false) (.seq (.seq (.region 1 (oN f55 9) false) (.cond (.tmp 9) (.seq (.region 2 (oN f55 37) false) .ret) .skip)) (.seq (.region 3 (oN f55 11) false) .ret)))
def f55n : List (Nat × RAnn) := [(0, ⟨[0, 4], []⟩), (1, ⟨[5, 6, 7, 8], []⟩), (2, f55a2), (3, f55a3)]
def f31a1 : RAnn := ⟨[11, 12, 13, 14, 15, 16, 17], []⟩
def f31a2 : RAnn := ⟨[18], []⟩
def f31a4 : RAnn := ⟨[22, 23, 24], []⟩
def f31a5 : RAnn := ⟨[7, 25, 26, 27, 28, 29, 30, 31, 32], []⟩
def f31a7 : RAnn := ⟨[2, 19, 20, 21, 22, 34], []⟩
def f31a9 : RAnn := ⟨[38, 39, 40], []⟩
def f31a12 : RAnn := ⟨[43, 44, 45, 46, 47, 48], []⟩
def f31a13 : RAnn := ⟨[9, 10, 43, 49, 50, 51, 52, 53, 54, 55, 56, 57], [(9, { eff := true })]⟩
noncomputable def f31b0 : Code := (.seq (.region 3 (oN f31 139) false) (.seq (.cond (.tmp 22) .skip (.exit 0)) (.seq (.block 1 (.seq (.region 4 (oN f31 2251) false) (.region 5 (oN f31 3275) false))) (.region 6 (oN f31 971) false))))
noncomputable def f31b1 : Code := (.seq (.region 8 (oN f31 279) false) (.seq (.cond (.tmp 38) .skip (.exit 2)) (.seq (.block 3 (.seq (.region 9 (oN f31 4503) false) (.seq (.region 10 (oN f31 10647) false) (.seq (.seq (.region 11 (oN f31 39319) false) (.cond (.tmp 43) (.region 12 (oN f31 88471) false) .skip)) (.region 13 (oN f31 31127) true))))) (.region 14 (oN f31 1943) false))))
noncomputable def f31c : Code := (.seq (.region 0 (oN f31 2) false) (.seq (.region 1 (oN f31 5) true) (.seq (.seq (.region 2 (oN f31 19) false) (.block 0 (.loop f31b0))) (.seq (.seq (.region 7 (oN f31 39) false) (.block 2 (.loop f31b1))) (.seq (.region 15 (oN f31 47) false) .ret)))))
def f31n : List (Nat × RAnn) := [(0, ⟨[0, 4], []⟩), (1, f31a1), (2, f31a2), (3, ⟨[], []⟩), (4, f31a4), (5, f31a5), (6, ⟨[33], []⟩), (7, f31a7), (8, ⟨[], []⟩), (9, f31a9), (10, ⟨[], []⟩), (11, ⟨[41, 42], []⟩), (12, f31a12), (13, f31a13), (14, ⟨[58], []⟩), (15, ⟨[1, 5, 35, 36, 37, 38, 59], []⟩)]
def f11a1 : RAnn := ⟨[7, 8, 9], []⟩
def f11a4 : RAnn := ⟨[1, 2, 6, 11, 13, 14, 15], []⟩
noncomputable def f11c : Code := (.seq (.region 0 (oN f11 2) false) (.seq (.seq (.region 1 (oN f11 9) false) (.seq (.region 2 (oN f11 21) false) (.cond (.tmp 11) (.seq (.region 3 (oN f11 77) false) .ret) .skip))) (.seq (.region 4 (oN f11 11) false) .ret)))
def f11n : List (Nat × RAnn) := [(0, ⟨[0, 4, 5], []⟩), (1, f11a1), (2, ⟨[10], []⟩), (3, ⟨[1, 2, 6, 11, 12], []⟩), (4, f11a4)]
def f73a1 : RAnn := ⟨[6], []⟩
def f73a4 : RAnn := ⟨[11, 12, 13, 14, 15], []⟩
noncomputable def f73b0 : Code := (.seq (.region 2 (oN f73 69) false) (.seq (.cond (.tmp 9) .skip (.exit 0)) (.seq (.block 1 (.seq (.region 3 (oN f73 1125) false) (.seq (.region 4 (oN f73 2661) false) (.cond (.tmp 16) (.seq (.region 5 (oN f73 9829) false) .ret) .skip)))) (.region 6 (oN f73 485) false))))
noncomputable def f73c : Code := (.seq (.region 0 (oN f73 2) false) (.seq (.seq (.region 1 (oN f73 9) false) (.block 0 (.loop f73b0))) (.seq (.region 7 (oN f73 11) false) .ret)))
def f73n : List (Nat × RAnn) := [(0, ⟨[4], []⟩), (1, f73a1), (2, ⟨[], []⟩), (3, ⟨[9, 10], []⟩), (4, f73a4), (5, ⟨[0, 1, 5, 7, 8, 16, 17], []⟩), (6, ⟨[5, 16, 18], []⟩), (7, ⟨[0, 1, 7, 8, 9], []⟩)]
def f50a1 : RAnn := ⟨[0, 1, 5, 6, 7, 8], []⟩
noncomputable def f50c : Code := (.seq (.region 0 (oN f50 2) false) (.seq (.region 1 (oN f50 5) false) .ret))
def f50n : List (Nat × RAnn) := [(0, ⟨[4], []⟩), (1, f50a1)]
def f78a1 : RAnn := ⟨[0, 1, 4, 5, 6, 7, 8, 9, 10, 11, 12, 13], []⟩
noncomputable def f78c : Code := (.seq (.region 0 (oN f78 2) false) (.seq (.region 1 (oN f78 5) false) .ret))
def f78n : List (Nat × RAnn) := [(0, ⟨[3], []⟩), (1, f78a1)]
def f56a1 : RAnn := ⟨[1, 2, 5, 6, 7, 8, 9, 10, 11, 12, 13, 14, 15], []⟩
noncomputable def f56c : Code := (.seq (.region 0 (oN f56 2) false) (.seq (.region 1 (oN f56 5) false) .ret))
def f56n : List (Nat × RAnn) := [(0, ⟨[0, 4], []⟩), (1, f56a1)]
def f32a1 : RAnn := ⟨[6, 7, 8], []⟩
def f32a3 : RAnn := ⟨[1, 2, 5, 10, 11, 12, 13], []⟩
noncomputable def f32c : Code := (.seq (.region 0 (oN f32 2) false) (.seq (.block 0 (.seq (.region 1 (oN f32 17) false) (.cond (.tmp 5) (.seq (.region 2 (oN f32 73) false) .ret) (.seq (.region 3 (oN f32 89) false) (.cond (.tmp 9) (.seq (.region 4 (oN f32 313) false) .ret) .skip))))) (.seq (.region 5 (oN f32 11) false) .ret)))
def f32n : List (Nat × RAnn) := [(0, ⟨[0, 4], []⟩), (1, f32a1), (2, ⟨[1, 2, 5], []⟩), (3, f32a3), (4, ⟨[9], []⟩), (5, ⟨[9], []⟩)]
def f12a1 : RAnn := ⟨[13, 14, 15], []⟩
def f12a4 : RAnn := ⟨[6, 8, 17, 19, 20, 21, 22, 23], []⟩
def f12a5 : RAnn := ⟨[7, 24], [(1, { site := true })]⟩
def f12a6 : RAnn := ⟨[2, 26], []⟩
def f12a8 : RAnn := ⟨[30, 31, 32], []⟩
def f12a10 : RAnn := ⟨[35, 36, 37, 38, 39, 40, 41, 42, 43, 44, 45, 46, 47, 48], []⟩
def f12a11 : RAnn := ⟨[49, 50, 51, 52, 53, 54, 55, 56, 57, 58, 59, 60], []⟩
def f12a12 : RAnn := ⟨[61, 62, 63, 64, 65, 66], []⟩
def f12a13 : RAnn := ⟨[11, 12, 61, 67, 68, 69, 70, 71], []⟩
def f12a15 : RAnn := ⟨[1, 9, 25, 27, 28, 29, 30, 73], [(1, { close := true })]⟩
noncomputable def f12b0 : Code := (.seq (.seq (.region 11 (oN f12 1078063) true) (.cond (.tmp 61) .skip (.exit 2))) (.block 3 (.region 12 (oN f12 1340207) false)))
noncomputable def f12b1 : Code := (.seq (.region 7 (oN f12 559) false) (.seq (.cond (.tmp 30) .skip (.exit 0)) (.seq (.block 1 (.seq (.region 8 (oN f12 9007) false) (.seq (.seq (.region 9 (oN f12 37679) false) (.cond (.tmp 35) (.exit 1) .skip)) (.seq (.region 10 (oN f12 45871) true) (.seq (.block 2 (.loop f12b0)) (.region 13 (oN f12 127791) false)))))) (.region 14 (oN f12 3887) false))))
noncomputable def f12c : Code := (.seq (.region 0 (oN f12 2) false) (.seq (.seq (.region 1 (oN f12 9) false) (.seq (.region 2 (oN f12 21) false) (.cond (.tmp 17) (.seq (.region 3 (oN f12 77) false) .ret) .skip))) (.seq (.region 4 (oN f12 11) false) (.seq (.region 5 (oN f12 23) false) (.seq (.seq (.region 6 (oN f12 79) false) (.block 0 (.loop f12b1))) (.seq (.region 15 (oN f12 95) false) .ret))))))
def f12n : List (Nat × RAnn) := [(0, ⟨[0, 4, 5], []⟩), (1, f12a1), (2, ⟨[16], []⟩), (3, ⟨[1, 2, 6, 17, 18], []⟩), (4, f12a4), (5, f12a5), (6, f12a6), (7, ⟨[], []⟩), (8, f12a8), (9, ⟨[33, 34], []⟩), (10, f12a10), (11, f12a11), (12, f12a12), (13, f12a13), (14, ⟨[11, 35, 72], []⟩), (15, f12a15)]
def f13a1 : RAnn := ⟨[6, 7, 8, 9], []⟩
def f13a4 : RAnn := ⟨[11, 12, 13], []⟩
def f13a6 : RAnn := ⟨[14, 17, 18, 19, 20, 21, 22, 23, 24], []⟩
noncomputable def f13b0 : Code := (.seq (.seq (.region 4 (oN f13 267) false) (.cond (.tmp 14) .skip (.exit 0))) (.seq (.block 1 (.seq (.region 6 (oN f13 1099) true) (.cond (.tmp 25) (.seq (.region 7 (oN f13 4683) false) .ret) .skip))) (.region 5 (oN f13 459) false)))
noncomputable def f13c : Code := (.seq (.region 0 (oN f13 2) false) (.seq (.seq (.region 1 (oN f13 9) false) (.cond (.tmp 10) (.seq (.region 2 (oN f13 37) false) .ret) .skip)) (.seq (.seq (.region 3 (oN f13 19) false) (.block 0 (.loop f13b0))) (.seq (.region 8 (oN f13 23) false) .ret))))
def f13n : List (Nat × RAnn) := [(0, ⟨[4], []⟩), (1, f13a1), (2, ⟨[0, 1, 10], []⟩), (3, ⟨[10], []⟩), (4, f13a4), (5, ⟨[15, 16, 25], []⟩), (6, f13a6), (7, ⟨[0, 1, 5, 25], []⟩), (8, ⟨[0, 1, 5, 14], []⟩)]
def f5a2 : RAnn := ⟨[11, 12, 13, 14, 15, 16], []⟩
def f5a3 : RAnn := ⟨[1, 17, 18, 19, 20, 21, 22], []⟩
def f5a4 : RAnn := ⟨[2, 3, 4, 5, 23, 24, 25, 26, 27, 28, 29, 30, 31, 32, 33, 34, 35, 36, 37, 38, 39, 40, 41, 42, 43, 44], []⟩
noncomputable def f5c : Code := (.seq (.region 0 (oN f5 2) false) (.seq (.region 1 (oN f5 5) false) (.seq (.region 2 (oN f5 11) false) (.seq (.region 3 (oN f5 23) false) (.seq (.region 4 (oN f5 47) false) .ret)))))
def f5n : List (Nat × RAnn) := [(0, ⟨[0], []⟩), (1, ⟨[6, 7, 8, 9, 10], []⟩), (2, f5a2), (3, f5a3), (4, f5a4)]
def f15a0 : RAnn := ⟨[0, 3, 4, 5], [(2, { eff := true })]⟩
def f15a1 : RAnn := ⟨[1, 6], [(0, { eff := true })]⟩
noncomputable def f15c : Code := (.seq (.region 0 (oN f15 2) false) (.region 1 (oN f15 3) false))
def f15n : List (Nat × RAnn) := [(0, f15a0), (1, f15a1)]
def f20a3 : RAnn := ⟨[0, 4, 5, 6], []⟩
noncomputable def f20c : Code := (.seq (.region 0 (oN f20 2) false) (.seq (.seq (.region 1 (oN f20 9) false) (.cond (.tmp 4) (.seq (.region 2 (oN f20 37) false) .ret) .skip)) (.seq (.region 3 (oN f20 11) false) .ret)))
def f20n : List (Nat × RAnn) := [(0, ⟨[2], []⟩), (1, ⟨[3], []⟩), (2, ⟨[0, 4], []⟩), (3, f20a3)]
def f6a1 : RAnn := ⟨[10, 11], []⟩
def f6a5 : RAnn := ⟨[14, 15, 16, 17, 18, 19, 20, 21, 22], [(8, { eff := true })]⟩
def f6a6 : RAnn := ⟨[23], []⟩
def f6a8 : RAnn := ⟨[27, 28, 29], []⟩
def f6a9 : RAnn := ⟨[7, 30, 31, 32, 33, 34, 35, 36, 37, 38, 39, 40], [(10, { eff := true })]⟩
def f6a11 : RAnn := ⟨[1, 24, 25, 26, 27, 42], []⟩
def f6a13 : RAnn := ⟨[46, 47, 48], []⟩
def f6a14 : RAnn := ⟨[9, 49, 50, 51, 52, 53, 54, 55, 56, 57, 58, 59, 60, 61, 62, 63, 64, 65, 66, 67, 68, 69, 70, 71, 72], [(23, { eff := true })]⟩
def f6a16 : RAnn := ⟨[4, 5, 43, 44, 45, 46, 74], [(0, { eff := true })]⟩
noncomputable def f6b0 : Code := (.seq (.region 7 (oN f6 1119) false) (.seq (.cond (.tmp 27) .skip (.exit 0)) (.seq (.block 1 (.seq (.region 8 (oN f6 18015) false) (.region 9 (oN f6 26207) true))) (.region 10 (oN f6 7775) false))))
noncomputable def f6b1 : Code := (.seq (.region 12 (oN f6 2239) false) (.seq (.cond (.tmp 46) .skip (.exit 2)) (.seq (.block 3 (.seq (.region 13 (oN f6 36031) false) (.region 14 (oN f6 52415) true))) (.region 15 (oN f6 15551) false))))
noncomputable def f6c : Code := (.seq (.region 0 (oN f6 2) false) (.seq (.seq (.region 1 (oN f6 9) false) (.cond (.tmp 12) (.seq (.region 2 (oN f6 37) false) .ret) .skip)) (.seq (.region 3 (oN f6 11) false) (.seq (.region 4 (oN f6 23) false) (.seq (.region 5 (oN f6 47) true) (.seq (.seq (.region 6 (oN f6 159) false) (.block 0 (.loop f6b0))) (.seq (.seq (.region 11 (oN f6 319) false) (.block 2 (.loop f6b1))) (.seq (.region 16 (oN f6 383) false) .ret))))))))
def f6n : List (Nat × RAnn) := [(0, ⟨[0, 2, 3], []⟩), (1, f6a1), (2, ⟨[1, 12], []⟩), (3, ⟨[12], [(0, { site := true })]⟩), (4, ⟨[13], []⟩), (5, f6a5), (6, f6a6), (7, ⟨[], []⟩), (8, f6a8), (9, f6a9), (10, ⟨[41], []⟩), (11, f6a11), (12, ⟨[], []⟩), (13, f6a13), (14, f6a14), (15, ⟨[73], []⟩), (16, f6a16)]
def f42a4 : RAnn := ⟨[7, 10, 11, 12, 13, 14, 15, 16, 17, 18], []⟩
noncomputable def f42b0 : Code := (.seq (.seq (.region 2 (oN f42 133) false) (.cond (.tmp 7) .skip (.exit 0))) (.seq (.block 1 (.seq (.region 4 (oN f42 549) false) (.cond (.tmp 19) (.seq (.region 5 (oN f42 2341) false) .ret) .skip))) (.region 3 (oN f42 229) false)))
noncomputable def f42c : Code := (.seq (.region 0 (oN f42 2) false) (.seq (.seq (.region 1 (oN f42 9) false) (.block 0 (.loop f42b0))) (.seq (.region 6 (oN f42 11) false) .ret)))
def f42n : List (Nat × RAnn) := [(0, ⟨[2], []⟩), (1, ⟨[], []⟩), (2, ⟨[4, 5, 6], []⟩), (3, ⟨[8, 9, 19], []⟩), (4, f42a4), (5, ⟨[0, 3, 19], []⟩), (6, ⟨[0, 3, 7], []⟩)]
def f66a4 : RAnn := ⟨[8, 11, 12, 13, 14, 15, 16, 17, 18, 19, 20], []⟩
def f66a5 : RAnn := ⟨[4, 21, 22, 23, 24, 25, 26, 27, 28, 29, 30, 31, 32, 33, 34, 35, 36, 37], []⟩
def f66a7 : RAnn := ⟨[0, 3, 8, 39, 40, 41, 42, 43, 44, 45, 46], []⟩
noncomputable def f66b0 : Code := (.seq (.seq (.region 2 (oN f66 133) false) (.cond (.tmp 8) .skip (.exit 0))) (.seq (.block 1 (.seq (.region 4 (oN f66 549) false) (.seq (.region 5 (oN f66 1317) false) (.cond (.tmp 38) (.seq (.region 6 (oN f66 4901) false) .ret) .skip)))) (.region 3 (oN f66 229) false)))
noncomputable def f66c : Code := (.seq (.region 0 (oN f66 2) false) (.seq (.seq (.region 1 (oN f66 9) false) (.block 0 (.loop f66b0))) (.seq (.region 7 (oN f66 11) false) .ret)))
def f66n : List (Nat × RAnn) := [(0, ⟨[2], []⟩), (1, ⟨[], []⟩), (2, ⟨[5, 6, 7], []⟩), (3, ⟨[9, 10, 38], []⟩), (4, f66a4), (5, f66a5), (6, ⟨[0, 3, 38], []⟩), (7, f66a7)]
def f43a1 : RAnn := ⟨[6, 7, 8, 9, 10, 11, 12, 13, 14, 15, 16, 17, 18, 19, 20, 21, 22, 23, 24, 25, 26, 27, 28, 29, 30, 31, 32, 33, 34, 35, 36, 37, 38], []⟩
def f43a4 : RAnn := ⟨[40, 41, 42], []⟩
def f43a6 : RAnn := ⟨[43, 46, 47, 48, 49, 50, 51, 52, 53, 54, 55, 56, 57, 58, 59, 60, 61, 62, 63, 64, 65, 66, 67, 68, 69, 70, 71, 72, 73, 74, 75, 76, 77, 78, 79, 80, 81, 82], []⟩
noncomputable def f43b0 : Code := (.seq (.seq (.region 4 (oN f43 267) false) (.cond (.tmp 43) .skip (.exit 0))) (.seq (.block 1 (.seq (.region 6 (oN f43 1099) true) (.cond (.tmp 83) (.seq (.region 7 (oN f43 4683) false) .ret) .skip))) (.region 5 (oN f43 459) false)))
noncomputable def f43c : Code := (.seq (.region 0 (oN f43 2) false) (.seq (.seq (.region 1 (oN f43 9) false) (.cond (.tmp 39) (.seq (.region 2 (oN f43 37) false) .ret) .skip)) (.seq (.seq (.region 3 (oN f43 19) false) (.block 0 (.loop f43b0))) (.seq (.region 8 (oN f43 23) false) .ret))))
def f43n : List (Nat × RAnn) := [(0, ⟨[1, 4], []⟩), (1, f43a1), (2, ⟨[0, 3, 39], []⟩), (3, ⟨[39], []⟩), (4, f43a4), (5, ⟨[44, 45, 83], []⟩), (6, f43a6), (7, ⟨[0, 3, 5, 83], []⟩), (8, ⟨[0, 3, 5, 43], []⟩)]
def f44a3 : RAnn := ⟨[6, 7, 8, 9], []⟩
def f44a5 : RAnn := ⟨[10, 13, 14, 15, 16, 17, 18, 19, 20, 21, 22, 23, 24, 25, 26, 27, 28, 29, 30, 31, 32, 33, 34, 35], [(23, { eff := true })]⟩
def f44a7 : RAnn := ⟨[36, 37, 38, 39], []⟩
def f44a9 : RAnn := ⟨[40, 43, 44, 45, 46, 47, 48, 49, 50, 51, 52, 53, 54, 55, 56, 57, 58, 59, 60, 61, 62, 63, 64], [(22, { eff := true })]⟩
def f44a10 : RAnn := ⟨[1, 3, 5, 40, 65], [(1, { close := true })]⟩
noncomputable def f44b0 : Code := (.seq (.seq (.region 3 (oN f44 267) false) (.cond (.tmp 10) .skip (.exit 0))) (.seq (.block 1 (.region 5 (oN f44 587) true)) (.region 4 (oN f44 459) false)))
noncomputable def f44b1 : Code := (.seq (.seq (.region 7 (oN f44 535) false) (.cond (.tmp 40) .skip (.exit 2))) (.seq (.block 3 (.region 9 (oN f44 1175) true)) (.region 8 (oN f44 919) false)))
noncomputable def f44c : Code := (.seq (.region 0 (oN f44 2) false) (.seq (.region 1 (oN f44 5) false) (.seq (.seq (.region 2 (oN f44 19) false) (.block 0 (.loop f44b0))) (.seq (.seq (.region 6 (oN f44 39) false) (.block 2 (.loop f44b1))) (.seq (.region 10 (oN f44 47) false) .ret)))))
def f44n : List (Nat × RAnn) := [(0, ⟨[0, 2], []⟩), (1, ⟨[], [(0, { site := true })]⟩), (2, ⟨[], []⟩), (3, f44a3), (4, ⟨[11, 12], []⟩), (5, f44a5), (6, ⟨[4, 10], []⟩), (7, f44a7), (8, ⟨[41, 42], []⟩), (9, f44a9), (10, f44a10)]
def f22a1 : RAnn := ⟨[8, 9, 10, 11, 12, 13, 14, 15, 16, 17, 18, 19, 20, 21, 22, 23, 24, 25, 26, 27, 28, 29, 30, 31, 32, 33, 34, 35, 36], []⟩
def f22a4 : RAnn := ⟨[38, 39, 40, 41], []⟩
def f22a6 : RAnn := ⟨[42, 45, 46, 47, 48, 49, 50, 51], []⟩
def f22a9 : RAnn := ⟨[53, 54, 55, 56], []⟩
def f22a11 : RAnn := ⟨[57, 60, 61, 62, 63, 64, 65, 66, 67, 68, 69], []⟩
def f22a13 : RAnn := ⟨[4, 57, 71, 72], []⟩
def f22a15 : RAnn := ⟨[73, 74, 75], []⟩
def f22a17 : RAnn := ⟨[76, 79, 80, 81, 82, 83, 84, 85, 86, 87, 88, 89, 90, 91, 92, 93, 94, 95, 96, 97, 98, 99, 100, 101, 102, 103, 104, 105, 106, 107, 108, 109, 110, 111, 112, 113, 114, 115, 116, 117, 118, 119, 120, 121, 122, 123, 124, 125, 126, 127, 128, 129, 130, 131, 132, 133, 134, 135], []⟩
def f22a22 : RAnn := ⟨[139, 142, 143, 144, 145, 146, 147, 148, 149, 150, 151, 152, 153, 154, 155, 156, 157, 158, 159, 160, 161, 162, 163, 164, 165, 166, 167, 168, 169, 170, 171, 172, 173, 174, 175, 176, 177, 178, 179, 180, 181, 182, 183, 184, 185, 186, 187, 188, 189], []⟩
noncomputable def f22b0 : Code := (.seq (.seq (.region 4 (oN f22 267) false) (.cond (.tmp 42) .skip (.exit 0))) (.seq (.block 1 (.seq (.region 6 (oN f22 1099) false) (.cond (.tmp 52) (.seq (.region 7 (oN f22 4683) false) .ret) .skip))) (.region 5 (oN f22 459) false)))
noncomputable def f22b1 : Code := (.seq (.seq (.region 9 (oN f22 535) false) (.cond (.tmp 57) .skip (.exit 2))) (.seq (.block 3 (.seq (.region 11 (oN f22 2199) true) (.cond (.tmp 70) (.seq (.region 12 (oN f22 9367) false) .ret) .skip))) (.region 10 (oN f22 919) false)))
noncomputable def f22b2 : Code := (.seq (.seq (.region 20 (oN f22 275039) false) (.cond (.tmp 139) .skip (.exit 6))) (.seq (.block 7 (.seq (.region 22 (oN f22 1127007) true) (.cond (.tmp 190) (.seq (.region 23 (oN f22 4797023) false) .ret) .skip))) (.region 21 (oN f22 471647) false)))
noncomputable def f22b3 : Code := (.seq (.seq (.region 15 (oN f22 2143) false) (.cond (.tmp 76) .skip (.exit 4))) (.seq (.block 5 (.seq (.seq (.region 17 (oN f22 16991) true) (.cond (.tmp 136) (.seq (.region 18 (oN f22 74335) false) .ret) .skip)) (.seq (.region 19 (oN f22 21087) false) (.block 6 (.loop f22b2))))) (.region 16 (oN f22 3679) false)))
noncomputable def f22c : Code := (.seq (.region 0 (oN f22 2) false) (.seq (.seq (.region 1 (oN f22 9) false) (.cond (.tmp 37) (.seq (.region 2 (oN f22 37) false) .ret) .skip)) (.seq (.seq (.region 3 (oN f22 19) false) (.block 0 (.loop f22b0))) (.seq (.seq (.region 8 (oN f22 39) false) (.block 2 (.loop f22b1))) (.seq (.region 13 (oN f22 47) false) (.seq (.seq (.region 14 (oN f22 159) false) (.block 4 (.loop f22b3))) (.seq (.region 24 (oN f22 191) false) .ret)))))))
def f22n : List (Nat × RAnn) := [(0, ⟨[0, 2], []⟩), (1, f22a1), (2, ⟨[1, 37], []⟩), (3, ⟨[37], []⟩), (4, f22a4), (5, ⟨[43, 44, 52], []⟩), (6, f22a6), (7, ⟨[1, 3, 52], []⟩), (8, ⟨[3, 42], []⟩), (9, f22a9), (10, ⟨[58, 59, 70], []⟩), (11, f22a11), (12, ⟨[1, 4, 70], []⟩), (13, f22a13), (14, ⟨[], []⟩), (15, f22a15), (16, ⟨[7, 77, 78, 139], []⟩), (17, f22a17), (18, ⟨[1, 5, 6, 136], []⟩), (19, ⟨[136], []⟩), (20, ⟨[137, 138], []⟩), (21, ⟨[140, 141, 190], []⟩), (22, f22a22), (23, ⟨[1, 5, 6, 7, 190], []⟩), (24, ⟨[1, 5, 6, 76], []⟩)]
def f23a2 : RAnn := ⟨[0, 4, 5, 6, 7, 8, 9], []⟩
def f23a3 : RAnn := ⟨[0, 4, 10, 11, 12, 13, 14, 15, 16], []⟩
noncomputable def f23c : Code := (.seq (.region 0 (oN f23 2) false) (.seq (.seq (.region 1 (oN f23 9) false) (.cond (.tmp 4) (.seq (.region 2 (oN f23 37) false) .ret) .skip)) (.seq (.region 3 (oN f23 11) false) .ret)))
def f23n : List (Nat × RAnn) := [(0, ⟨[2], []⟩), (1, ⟨[3], []⟩), (2, f23a2), (3, f23a3)]
def f24a3 : RAnn := ⟨[0, 4, 5, 6], []⟩
noncomputable def f24c : Code := (.seq (.region 0 (oN f24 2) false) (.seq (.seq (.region 1 (oN f24 9) false) (.cond (.tmp 4) (.seq (.region 2 (oN f24 37) false) .ret) .skip)) (.seq (.region 3 (oN f24 11) false) .ret)))
def f24n : List (Nat × RAnn) := [(0, ⟨[2], []⟩), (1, ⟨[3], []⟩), (2, ⟨[0, 4], []⟩), (3, f24a3)]
def f7a1 : RAnn := ⟨[9, 10], []⟩
def f7a3 : RAnn := ⟨[11, 12, 13, 14, 15, 16, 17, 18, 19, 20, 21], []⟩
def f7a5 : RAnn := ⟨[22, 23, 24, 25], []⟩
def f7a7 : RAnn := ⟨[26, 29, 30, 31, 32, 33], []⟩
def f7a8 : RAnn := ⟨[6, 34, 35, 36, 37, 38, 39, 40, 41, 42, 43, 44, 45, 46, 47, 48, 49], [(16, { eff := true })]⟩
def f7a10 : RAnn := ⟨[50, 51, 52, 53], []⟩
def f7a12 : RAnn := ⟨[54, 57, 58, 59, 60, 61], []⟩
def f7a13 : RAnn := ⟨[8, 62, 63, 64, 65, 66, 67, 68, 69, 70, 71, 72, 73, 74, 75, 76, 77, 78, 79, 80, 81, 82, 83, 84, 85, 86, 87, 88, 89, 90, 91, 92, 93, 94, 95, 96, 97, 98], [(37, { eff := true })]⟩
noncomputable def f7b0 : Code := (.seq (.seq (.region 5 (oN f7 535) false) (.cond (.tmp 26) .skip (.exit 0))) (.seq (.block 1 (.seq (.region 7 (oN f7 2199) false) (.region 8 (oN f7 3223) true))) (.region 6 (oN f7 919) false)))
noncomputable def f7b1 : Code := (.seq (.seq (.region 10 (oN f7 1071) false) (.cond (.tmp 54) .skip (.exit 2))) (.seq (.block 3 (.seq (.region 12 (oN f7 4399) false) (.region 13 (oN f7 6447) true))) (.region 11 (oN f7 1839) false)))
noncomputable def f7c : Code := (.seq (.region 0 (oN f7 2) false) (.seq (.seq (.region 1 (oN f7 9) false) (.cond (.tmp 11) (.seq (.region 2 (oN f7 37) false) .ret) .skip)) (.seq (.region 3 (oN f7 11) true) (.seq (.seq (.region 4 (oN f7 39) false) (.block 0 (.loop f7b0))) (.seq (.seq (.region 9 (oN f7 79) false) (.block 2 (.loop f7b1))) (.seq (.region 14 (oN f7 95) false) .ret))))))
def f7n : List (Nat × RAnn) := [(0, ⟨[0, 2, 3], []⟩), (1, f7a1), (2, ⟨[1, 11], []⟩), (3, f7a3), (4, ⟨[], []⟩), (5, f7a5), (6, ⟨[27, 28], []⟩), (7, f7a7), (8, f7a8), (9, ⟨[5, 26], []⟩), (10, f7a10), (11, ⟨[55, 56], []⟩), (12, f7a12), (13, f7a13), (14, ⟨[1, 4, 7, 54, 99], []⟩)]
def f47a3 : RAnn := ⟨[0], []⟩
def f47a5 : RAnn := ⟨[13, 14, 15], []⟩
def f47a6 : RAnn := ⟨[7, 16, 17, 18, 19, 20], []⟩
def f47a7 : RAnn := ⟨[8, 21, 22, 23, 24], [(0, { tk := [4], keep := [0] }), (3, { tk := [21], keep := [0] }), (4, { tk := [24], keep := [0] })]⟩
def f47a8 : RAnn := ⟨[9, 25, 26, 27, 28], []⟩
noncomputable def f47b0 : Code := (.seq (.region 4 (oN f47 279) false) (.seq (.cond (.tmp 13) .skip (.exit 0)) (.seq (.block 1 (.seq (.region 5 (oN f47 4503) false) (.seq (.region 6 (oN f47 10647) false) (.seq (.region 7 (oN f47 22935) false) (.region 8 (oN f47 31127) false))))) (.region 9 (oN f47 1943) false))))
noncomputable def f47c : Code := (.seq (.region 0 (oN f47 2) false) (.seq (.region 1 (oN f47 5) false) (.seq (.region 2 (oN f47 11) false) (.seq (.seq (.region 3 (oN f47 39) false) (.block 0 (.loop f47b0))) (.seq (.region 10 (oN f47 47) false) .ret)))))
def f47n : List (Nat × RAnn) := [(0, ⟨[2, 3], []⟩), (1, ⟨[], [(0, { keep := [0] })]⟩), (2, ⟨[], []⟩), (3, f47a3), (4, ⟨[], []⟩), (5, f47a5), (6, f47a6), (7, f47a7), (8, f47a8), (9, ⟨[29], []⟩), (10, ⟨[4, 5, 10, 11, 12, 13, 30, 31], []⟩)]
def f26a1 : RAnn := ⟨[1, 7, 18, 19, 20, 21, 22, 23], []⟩
def f26a4 : RAnn := ⟨[6, 24, 25, 27, 28, 29, 30, 31, 32], []⟩
def f26a5 : RAnn := ⟨[9, 33, 34, 35, 36, 37, 38], []⟩
def f26a7 : RAnn := ⟨[0, 8, 39, 40, 41, 42, 43, 44, 45, 46, 47, 48, 49, 50, 51], []⟩
def f26a10 : RAnn := ⟨[6, 24, 52, 54, 55], []⟩
def f26a11 : RAnn := ⟨[56, 57], []⟩
def f26a13 : RAnn := ⟨[58, 59, 60, 61, 62, 63, 64], []⟩
def f26a14 : RAnn := ⟨[0, 10, 11, 65, 66, 67, 68, 69, 70, 71, 72, 73, 74, 75, 76, 77, 78, 79, 80, 81, 82, 83], [(0, { noio := true }), (1, { noio := true }), (2, { noio := true }), (3, { noio := true }), (4, { keep := [0], mem := true, noio := true }), (5, { noio := true }), (6, { noio := true }), (7, { noio := true }), (8, { noio := true }), (9, { noio := true }), (10, { noio := true }), (11, { noio := true }), (12, { noio := true }), (13, { noio := true }), (14, { noio := true }), (15, { noio := true }), (16, { tk := [69], keep := [0], noio := true }), (19, { tk := [81] })]⟩
def f26a17 : RAnn := ⟨[6, 15, 85, 87, 88, 89, 90, 91, 92], []⟩
def f26a18 : RAnn := ⟨[14, 93, 94, 95, 96, 97, 98], []⟩
def f26a19 : RAnn := ⟨[17, 99, 100, 101, 102, 103, 104, 105, 106, 107, 108, 109, 110, 111, 112, 113, 114, 115, 116], []⟩
def f26a21 : RAnn := ⟨[0, 13, 16, 117, 118, 119, 120, 121, 122, 123, 124, 125, 126, 127, 128, 129, 130, 131, 132, 133, 134, 135, 136, 137, 138, 139, 140, 141, 142, 143, 144, 145, 146, 147], [(0, { noio := true }), (1, { noio := true }), (2, { noio := true }), (3, { noio := true }), (4, { keep := [0], mem := true, noio := true }), (5, { noio := true }), (6, { noio := true }), (7, { noio := true }), (8, { noio := true }), (9, { noio := true }), (10, { noio := true }), (11, { noio := true }), (12, { noio := true }), (13, { noio := true }), (14, { noio := true }), (15, { noio := true }), (16, { noio := true }), (17, { noio := true }), (18, { noio := true }), (19, { noio := true }), (20, { noio := true }), (21, { noio := true }), (22, { noio := true }), (23, { noio := true }), (24, { noio := true }), (25, { noio := true }), (26, { noio := true }), (27, { tk := [122], keep := [0], noio := true }), (30, { tk := [145] })]⟩
noncomputable def f26c : Code := (.seq (.region 0 (oN f26 2) false) (.seq (.region 1 (oN f26 5) false) (.seq (.seq (.region 2 (oN f26 19) false) (.block 0 (.seq (.region 3 (oN f26 75) false) (.cond (.tmp 25) (.seq (.region 4 (oN f26 299) false) (.seq (.seq (.region 5 (oN f26 1195) false) (.cond (.tmp 39) (.seq (.region 6 (oN f26 4779) false) .ret) .skip)) (.seq (.region 7 (oN f26 1451) true) (.seq (.region 8 (oN f26 2987) false) .ret)))) (.seq (.region 9 (oN f26 363) false) (.cond (.tmp 52) (.seq (.region 10 (oN f26 1259) false) (.seq (.seq (.region 11 (oN f26 4843) false) (.cond (.tmp 58) (.seq (.region 12 (oN f26 19179) false) .ret) .skip)) (.seq (.region 13 (oN f26 5867) false) (.seq (.region 14 (oN f26 12011) true) (.seq (.region 15 (oN f26 24299) false) .ret))))) (.seq (.region 16 (oN f26 1515) false) (.cond (.tmp 85) (.seq (.region 17 (oN f26 5099) false) (.seq (.region 18 (oN f26 11243) false) (.seq (.seq (.region 19 (oN f26 39915) false) (.cond (.tmp 117) (.seq (.region 20 (oN f26 154603) false) .ret) .skip)) (.seq (.region 21 (oN f26 48107) true) (.seq (.region 22 (oN f26 97259) false) .ret))))) .skip)))))))) (.seq (.region 23 (oN f26 23) false) .ret))))
def f26n : List (Nat × RAnn) := [(0, ⟨[4], []⟩), (1, f26a1), (2, ⟨[5], []⟩), (3, ⟨[26], []⟩), (4, f26a4), (5, f26a5), (6, ⟨[0, 8, 39], []⟩), (7, f26a7), (8, ⟨[], []⟩), (9, ⟨[25, 53], []⟩), (10, f26a10), (11, f26a11), (12, ⟨[0, 10, 58], []⟩), (13, f26a13), (14, f26a14), (15, ⟨[12, 84], []⟩), (16, ⟨[24, 52, 86], []⟩), (17, f26a17), (18, f26a18), (19, f26a19), (20, ⟨[0, 13, 16, 117], []⟩), (21, f26a21), (22, ⟨[], []⟩), (23, ⟨[0, 6, 85], []⟩)]
def f8a2 : RAnn := ⟨[9], []⟩
def f8a4 : RAnn := ⟨[13, 14, 15], []⟩
def f8a5 : RAnn := ⟨[6, 16, 17, 18, 19, 20, 21], [(4, { eff := true })]⟩
def f8a8 : RAnn := ⟨[10, 11, 12, 13, 25, 26, 27, 28, 29], []⟩
def f8a9 : RAnn := ⟨[0, 7, 8, 30, 31, 32, 33, 34, 35], []⟩
noncomputable def f8b0 : Code := (.seq (.region 3 (oN f8 139) false) (.seq (.cond (.tmp 13) .skip (.exit 0)) (.seq (.block 1 (.seq (.region 4 (oN f8 2251) false) (.seq (.region 5 (oN f8 5323) false) (.cond (.tmp 22) (.seq (.region 6 (oN f8 19659) false) .ret) .skip)))) (.region 7 (oN f8 971) false))))
noncomputable def f8c : Code := (.seq (.region 0 (oN f8 2) false) (.seq (.region 1 (oN f8 5) false) (.seq (.seq (.region 2 (oN f8 19) false) (.block 0 (.loop f8b0))) (.seq (.seq (.region 8 (oN f8 39) false) (.seq (.region 9 (oN f8 87) false) (.cond (.tmp 36) (.seq (.region 10 (oN f8 311) false) .ret) .skip))) (.seq (.region 11 (oN f8 47) false) .ret)))))
def f8n : List (Nat × RAnn) := [(0, ⟨[3], []⟩), (1, ⟨[], [(0, { keep := [2, 3] })]⟩), (2, f8a2), (3, ⟨[], []⟩), (4, f8a4), (5, f8a5), (6, ⟨[0, 4, 10, 11, 12, 22, 23], []⟩), (7, ⟨[22, 24], []⟩), (8, f8a8), (9, f8a9), (10, ⟨[4, 36, 37], []⟩), (11, ⟨[4, 36, 38], []⟩)]
def f27a5 : RAnn := ⟨[13, 16, 17, 18, 19, 20, 21, 22, 23, 24, 25], []⟩
def f27a6 : RAnn := ⟨[26, 27, 28, 29], []⟩
def f27a7 : RAnn := ⟨[26, 30, 31, 32, 33, 34, 35, 36, 37, 38, 39, 40, 41, 42], []⟩
def f27a8 : RAnn := ⟨[0, 1, 2, 7, 8, 13, 43], [(1, { close := true })]⟩
noncomputable def f27b0 : Code := (.seq (.seq (.region 3 (oN f27 267) false) (.cond (.tmp 13) .skip (.exit 0))) (.seq (.block 1 (.seq (.seq (.region 5 (oN f27 2123) false) (.cond (.tmp 26) (.seq (.region 6 (oN f27 9291) false) (.exit 1)) .skip)) (.region 7 (oN f27 1611) true))) (.region 4 (oN f27 459) false)))
noncomputable def f27c : Code := (.seq (.region 0 (oN f27 2) false) (.seq (.region 1 (oN f27 5) false) (.seq (.seq (.region 2 (oN f27 19) false) (.block 0 (.loop f27b0))) (.seq (.region 8 (oN f27 23) false) .ret))))
def f27n : List (Nat × RAnn) := [(0, ⟨[6], []⟩), (1, ⟨[], [(0, { site := true })]⟩), (2, ⟨[], []⟩), (3, ⟨[10, 11, 12], []⟩), (4, ⟨[14, 15], []⟩), (5, f27a5), (6, f27a6), (7, f27a7), (8, f27a8), (200000, { kill := [], ops := [(9, {})] })]
def f72a1 : RAnn := ⟨[6, 7, 8, 9, 10, 11, 12], []⟩
def f72a7 : RAnn := ⟨[17, 20, 21, 22, 23, 24, 25, 26, 27, 28], []⟩
def f72a9 : RAnn := ⟨[29, 30, 31, 32, 33, 34, 35, 36, 37], []⟩
noncomputable def f72b0 : Code := (.seq (.seq (.region 5 (oN f72 535) false) (.cond (.tmp 17) .skip (.exit 0))) (.seq (.block 1 (.seq (.seq (.region 7 (oN f72 4247) false) (.cond (.tmp 29) (.seq (.region 8 (oN f72 18583) false) .ret) .skip)) (.region 9 (oN f72 3223) false))) (.region 6 (oN f72 919) false)))
noncomputable def f72c : Code := (.seq (.region 0 (oN f72 2) false) (.seq (.seq (.region 1 (oN f72 9) false) (.cond (.tmp 13) (.seq (.region 2 (oN f72 37) false) .ret) .skip)) (.seq (.region 3 (oN f72 11) false) (.seq (.seq (.region 4 (oN f72 39) false) (.block 0 (.loop f72b0))) (.seq (.region 10 (oN f72 47) false) .ret)))))
def f72n : List (Nat × RAnn) := [(0, ⟨[2, 3], []⟩), (1, f72a1), (2, ⟨[0, 13], []⟩), (3, ⟨[13], []⟩), (4, ⟨[], []⟩), (5, ⟨[14, 15, 16], []⟩), (6, ⟨[18, 19], []⟩), (7, f72a7), (8, ⟨[0, 4, 5, 29], []⟩), (9, f72a9), (10, ⟨[0, 4, 5, 17, 38], []⟩)]
def f49a1 : RAnn := ⟨[6, 7, 8, 9, 10], []⟩
def f49a2 : RAnn := ⟨[0, 4, 5, 11, 12, 13, 14, 15, 16, 17, 18, 19], []⟩
noncomputable def f49c : Code := (.seq (.region 0 (oN f49 2) false) (.seq (.region 1 (oN f49 5) false) (.seq (.region 2 (oN f49 11) false) .ret)))
def f49n : List (Nat × RAnn) := [(0, ⟨[2, 3], []⟩), (1, f49a1), (2, f49a2)]
def f28a3 : RAnn := ⟨[10, 11, 12], []⟩
def f28a5 : RAnn := ⟨[13, 16, 17, 18, 19, 20, 21, 22, 23, 24], []⟩
def f28a6 : RAnn := ⟨[25, 26, 27, 28], [(0, { tk := [6], keep := [0] }), (2, { tk := [26], keep := [0] }), (3, { tk := [28], keep := [0] })]⟩
def f28a7 : RAnn := ⟨[25, 29, 30, 31, 32, 33, 34, 35, 36], []⟩
def f28a10 : RAnn := ⟨[8, 38, 39, 40, 41, 42], [(0, { tk := [6], keep := [0] }), (3, { tk := [39], keep := [0] }), (4, { tk := [42], keep := [0] })]⟩
noncomputable def f28b0 : Code := (.seq (.seq (.region 3 (oN f28 267) false) (.cond (.tmp 13) .skip (.exit 0))) (.seq (.block 1 (.seq (.seq (.region 5 (oN f28 2123) false) (.cond (.tmp 25) (.seq (.region 6 (oN f28 9291) false) (.exit 1)) .skip)) (.seq (.region 7 (oN f28 2635) false) (.seq (.seq (.region 8 (oN f28 9803) false) (.cond (.tmp 38) (.seq (.region 9 (oN f28 38475) false) .ret) .skip)) (.region 10 (oN f28 7755) false))))) (.region 4 (oN f28 459) false)))
noncomputable def f28c : Code := (.seq (.region 0 (oN f28 2) false) (.seq (.region 1 (oN f28 5) false) (.seq (.seq (.region 2 (oN f28 19) false) (.block 0 (.loop f28b0))) (.seq (.region 11 (oN f28 23) false) .ret))))
def f28n : List (Nat × RAnn) := [(0, ⟨[4, 5], []⟩), (1, ⟨[], [(0, { keep := [0] })]⟩), (2, ⟨[], []⟩), (3, f28a3), (4, ⟨[14, 15], []⟩), (5, f28a5), (6, f28a6), (7, f28a7), (8, ⟨[9, 37], []⟩), (9, ⟨[0, 1, 6, 7, 8, 38], []⟩), (10, f28a10), (11, ⟨[0, 1, 6, 7, 13, 43], []⟩)]
def f29a1 : RAnn := ⟨[12, 13], []⟩
def f29a2 : RAnn := ⟨[14, 15], []⟩
def f29a4 : RAnn := ⟨[1, 16, 17, 19, 20], []⟩
def f29a5 : RAnn := ⟨[21, 22, 23, 24, 25, 26, 27, 28, 29, 30], []⟩
def f29a7 : RAnn := ⟨[31, 32, 33, 34, 35, 36, 37], []⟩
def f29a9 : RAnn := ⟨[0, 5, 6, 38, 39, 40, 41, 42, 43, 44, 45, 46, 47, 48, 49, 50, 51, 52, 53, 54, 55, 56, 57], [(0, { noio := true }), (1, { noio := true }), (2, { noio := true }), (3, { noio := true }), (4, { keep := [0], mem := true, noio := true }), (5, { noio := true }), (6, { noio := true }), (7, { noio := true }), (8, { noio := true }), (9, { noio := true }), (10, { noio := true }), (11, { noio := true }), (12, { noio := true }), (13, { noio := true }), (14, { noio := true }), (15, { noio := true }), (16, { tk := [43], keep := [0], noio := true }), (19, { tk := [55] })]⟩
def f29a12 : RAnn := ⟨[59, 61, 62], []⟩
def f29a14 : RAnn := ⟨[63, 64, 65, 66, 67, 68, 69], []⟩
def f29a15 : RAnn := ⟨[70, 71, 72, 73, 74, 75, 76], []⟩
def f29a16 : RAnn := ⟨[77, 78, 79, 80, 81, 82, 83], []⟩
def f29a17 : RAnn := ⟨[0, 5, 8, 84, 85, 86, 87, 88, 89, 90, 91, 92, 93, 94, 95, 96, 97, 98, 99, 100, 101, 102, 103, 104, 105, 106, 107, 108, 109, 110, 111, 112, 113, 114], [(0, { noio := true }), (1, { noio := true }), (2, { noio := true }), (3, { noio := true }), (4, { keep := [0], mem := true, noio := true }), (5, { noio := true }), (6, { noio := true }), (7, { noio := true }), (8, { noio := true }), (9, { noio := true }), (10, { noio := true }), (11, { noio := true }), (12, { noio := true }), (13, { noio := true }), (14, { noio := true }), (15, { noio := true }), (16, { noio := true }), (17, { noio := true }), (18, { noio := true }), (19, { noio := true }), (20, { noio := true }), (21, { noio := true }), (22, { noio := true }), (23, { noio := true }), (24, { noio := true }), (25, { noio := true }), (26, { noio := true }), (27, { tk := [89], keep := [0], noio := true }), (30, { tk := [112] })]⟩
def f29a18 : RAnn := ⟨[0, 5, 8, 9, 10, 11, 84, 115, 116, 117, 118, 119, 120, 121, 122], []⟩
noncomputable def f29c : Code := (.seq (.region 0 (oN f29 2) false) (.seq (.region 1 (oN f29 5) false) (.seq (.seq (.region 2 (oN f29 19) false) (.block 0 (.seq (.region 3 (oN f29 75) false) (.cond (.tmp 17) (.seq (.region 4 (oN f29 299) false) (.seq (.seq (.region 5 (oN f29 1195) false) (.cond (.tmp 31) (.seq (.region 6 (oN f29 4779) false) .ret) .skip)) (.seq (.region 7 (oN f29 1451) false) (.seq (.seq (.region 8 (oN f29 5035) false) (.cond (.tmp 38) (.region 9 (oN f29 11179) true) .skip)) (.seq (.region 10 (oN f29 6059) false) .ret))))) (.seq (.region 11 (oN f29 363) false) (.cond (.tmp 59) (.seq (.seq (.region 12 (oN f29 2283) false) (.cond (.tmp 63) (.seq (.region 13 (oN f29 9451) false) .ret) .skip)) (.seq (.region 14 (oN f29 2795) false) (.seq (.region 15 (oN f29 5867) false) (.seq (.seq (.region 16 (oN f29 20203) false) (.cond (.tmp 84) (.region 17 (oN f29 44779) true) .skip)) (.seq (.region 18 (oN f29 24299) false) .ret))))) .skip)))))) (.seq (.region 19 (oN f29 23) false) .ret))))
def f29n : List (Nat × RAnn) := [(0, ⟨[4], []⟩), (1, f29a1), (2, f29a2), (3, ⟨[18], []⟩), (4, f29a4), (5, f29a5), (6, ⟨[0, 5, 31], []⟩), (7, f29a7), (8, ⟨[], []⟩), (9, f29a9), (10, ⟨[0, 5, 6, 7, 38, 58], []⟩), (11, ⟨[1, 16, 17, 60], []⟩), (12, f29a12), (13, ⟨[0, 5, 63], []⟩), (14, f29a14), (15, f29a15), (16, f29a16), (17, f29a17), (18, f29a18), (19, ⟨[0, 5, 59], []⟩)]
def f9a1 : RAnn := ⟨[0, 10, 11], []⟩
def f9a2 : RAnn := ⟨[12, 13, 14, 15, 16, 17, 18, 19, 20, 21, 22], []⟩
def f9a4 : RAnn := ⟨[23, 25, 26, 27, 28], []⟩
def f9a5 : RAnn := ⟨[29, 30, 31, 32, 33, 34], []⟩
def f9a6 : RAnn := ⟨[5, 7, 35, 36, 37, 38, 39, 40, 41, 42, 43, 44, 45, 46], []⟩
def f9a8 : RAnn := ⟨[6, 47, 49, 50, 51, 52, 53, 54, 55], [(6, { keep := [2, 3] }), (8, { tk := [55] })]⟩
def f9a10 : RAnn := ⟨[56, 57, 58, 59], []⟩
def f9a12 : RAnn := ⟨[60, 63, 64, 65, 66, 67], [(4, { eff := true })]⟩
def f9a14 : RAnn := ⟨[4, 9, 60, 70, 71], []⟩
noncomputable def f9b0 : Code := (.seq (.seq (.region 10 (oN f9 8575) false) (.cond (.tmp 60) .skip (.exit 0))) (.seq (.block 1 (.seq (.region 12 (oN f9 35199) false) (.cond (.tmp 68) (.seq (.region 13 (oN f9 149887) false) .ret) .skip))) (.region 11 (oN f9 14719) false)))
noncomputable def f9c : Code := (.seq (.region 0 (oN f9 2) false) (.seq (.region 1 (oN f9 5) false) (.seq (.seq (.region 2 (oN f9 19) false) (.cond (.tmp 23) (.seq (.region 3 (oN f9 75) false) .ret) .skip)) (.seq (.region 4 (oN f9 23) false) (.seq (.region 5 (oN f9 47) false) (.seq (.seq (.region 6 (oN f9 159) false) (.cond (.tmp 47) (.seq (.region 7 (oN f9 607) false) .ret) .skip)) (.seq (.region 8 (oN f9 191) true) (.seq (.seq (.region 9 (oN f9 639) false) (.block 0 (.loop f9b0))) (.seq (.seq (.region 14 (oN f9 1279) false) (.cond (.tmp 72) (.seq (.region 15 (oN f9 4863) false) .ret) .skip)) (.seq (.region 16 (oN f9 1535) false) .ret))))))))))
def f9n : List (Nat × RAnn) := [(0, ⟨[3], []⟩), (1, f9a1), (2, f9a2), (3, ⟨[4, 23, 24], []⟩), (4, f9a4), (5, f9a5), (6, f9a6), (7, ⟨[4, 6, 47, 48], []⟩), (8, f9a8), (9, ⟨[], []⟩), (10, f9a10), (11, ⟨[61, 62, 68], []⟩), (12, f9a12), (13, ⟨[4, 8, 9, 68, 69], []⟩), (14, f9a14), (15, ⟨[8, 72, 73], []⟩), (16, ⟨[8, 72, 74], []⟩)]
def f10a1 : RAnn := ⟨[7, 8, 9, 10, 11, 12, 13, 14, 15, 16, 17, 18, 19, 20, 21, 22, 23, 24, 25, 26, 27, 28, 29, 30, 31, 32, 33, 34, 35], []⟩
def f10a4 : RAnn := ⟨[37, 38, 39, 40], []⟩
def f10a6 : RAnn := ⟨[41, 44, 45, 46, 47, 48, 49, 50, 51, 52, 53], []⟩
def f10a9 : RAnn := ⟨[55, 56, 57, 58], []⟩
def f10a11 : RAnn := ⟨[59, 62, 63, 64, 65, 66, 67, 68, 69, 70, 71], []⟩
noncomputable def f10b0 : Code := (.seq (.seq (.region 4 (oN f10 267) false) (.cond (.tmp 41) .skip (.exit 0))) (.seq (.block 1 (.seq (.region 6 (oN f10 1099) true) (.cond (.tmp 54) (.seq (.region 7 (oN f10 4683) false) .ret) .skip))) (.region 5 (oN f10 459) false)))
noncomputable def f10b1 : Code := (.seq (.seq (.region 9 (oN f10 535) false) (.cond (.tmp 59) .skip (.exit 2))) (.seq (.block 3 (.seq (.region 11 (oN f10 2199) true) (.cond (.tmp 72) (.seq (.region 12 (oN f10 9367) false) .ret) .skip))) (.region 10 (oN f10 919) false)))
noncomputable def f10c : Code := (.seq (.region 0 (oN f10 2) false) (.seq (.seq (.region 1 (oN f10 9) false) (.cond (.tmp 36) (.seq (.region 2 (oN f10 37) false) .ret) .skip)) (.seq (.seq (.region 3 (oN f10 19) false) (.block 0 (.loop f10b0))) (.seq (.seq (.region 8 (oN f10 39) false) (.block 2 (.loop f10b1))) (.seq (.region 13 (oN f10 47) false) .ret)))))
def f10n : List (Nat × RAnn) := [(0, ⟨[0, 1, 4], []⟩), (1, f10a1), (2, ⟨[2, 3, 36], []⟩), (3, ⟨[36], []⟩), (4, f10a4), (5, ⟨[42, 43, 54], []⟩), (6, f10a6), (7, ⟨[2, 3, 5, 54], []⟩), (8, ⟨[5, 41], []⟩), (9, f10a9), (10, ⟨[60, 61, 72], []⟩), (11, f10a11), (12, ⟨[2, 3, 6, 72], []⟩), (13, ⟨[2, 3, 6, 59], []⟩)]
def f3a1 : RAnn := ⟨[17, 18, 19, 20, 21, 22], []⟩
def f3a2 : RAnn := ⟨[1, 2, 23, 24], []⟩
def f3a3 : RAnn := ⟨[23, 25, 26, 27, 28, 29], []⟩
def f3a4 : RAnn := ⟨[30, 31, 32, 33, 34], []⟩
def f3a5 : RAnn := ⟨[35, 36, 37, 38, 39], []⟩
def f3a6 : RAnn := ⟨[40, 41, 42, 43, 44], []⟩
def f3a7 : RAnn := ⟨[7, 8, 11, 12, 45, 46, 47, 48, 49, 50, 51, 52, 53, 54, 55, 56, 57, 58, 59, 60, 61, 62], []⟩
def f3a10 : RAnn := ⟨[5, 65, 66, 67, 68, 69, 70], []⟩
def f3a11 : RAnn := ⟨[2, 13, 14, 71, 72, 73, 74, 75, 76, 77], []⟩
def f3a14 : RAnn := ⟨[9, 80, 81, 82, 83, 84, 85], []⟩
def f3a15 : RAnn := ⟨[1, 15, 16, 86, 87, 88, 89, 90, 91], []⟩
def f3a17 : RAnn := ⟨[1, 9, 80, 92, 93], []⟩
noncomputable def f3c : Code := (.seq (.region 0 (oN f3 2) false) (.seq (.seq (.region 1 (oN f3 9) false) (.cond (.tmp 23) (.seq (.region 2 (oN f3 37) false) .ret) .skip)) (.seq (.region 3 (oN f3 11) false) (.seq (.region 4 (oN f3 23) false) (.seq (.region 5 (oN f3 47) false) (.seq (.region 6 (oN f3 95) false) (.seq (.seq (.region 7 (oN f3 319) false) (.cond (.tmp 63) (.seq (.region 8 (oN f3 1215) false) .ret) .skip)) (.seq (.seq (.region 9 (oN f3 639) false) (.cond (.tmp 65) (.seq (.region 10 (oN f3 2431) false) (.seq (.region 11 (oN f3 5503) false) (.cond (.tmp 78) (.seq (.region 12 (oN f3 19839) false) .ret) .skip))) .skip)) (.seq (.seq (.region 13 (oN f3 1279) false) (.cond (.tmp 80) (.seq (.region 14 (oN f3 4863) false) (.seq (.region 15 (oN f3 11007) false) (.cond (.tmp 92) (.seq (.region 16 (oN f3 39679) false) .ret) .skip))) .skip)) (.seq (.region 17 (oN f3 1535) false) .ret))))))))))
def f3n : List (Nat × RAnn) := [(0, ⟨[0, 4], []⟩), (1, f3a1), (2, f3a2), (3, f3a3), (4, f3a4), (5, f3a5), (6, f3a6), (7, f3a7), (8, ⟨[1, 2, 5, 6, 9, 10, 63], []⟩), (9, ⟨[6, 63, 64], []⟩), (10, f3a10), (11, f3a11), (12, ⟨[1, 9, 10, 78], []⟩), (13, ⟨[2, 5, 10, 65, 78, 79], []⟩), (14, f3a14), (15, f3a15), (16, ⟨[92], []⟩), (17, f3a17)]
def ANNS : List (Nat × FAnn) := [(3, ⟨f3n, [], []⟩), (4, ⟨f4n, [], []⟩), (5, ⟨f5n, [], []⟩), (6, ⟨f6n, [], []⟩), (7, ⟨f7n, [], []⟩), (8, ⟨f8n, [], []⟩), (9, ⟨f9n, [], []⟩), (10, ⟨f10n, [], []⟩), (11, ⟨f11n, [], []⟩), (12, ⟨f12n, [], []⟩), (13, ⟨f13n, [], []⟩), (14, ⟨f14n, [], []⟩), (15, ⟨f15n, [], []⟩), (20, ⟨f20n, [], []⟩), (22, ⟨f22n, [], []⟩), (23, ⟨f23n, [], []⟩), (24, ⟨f24n, [], []⟩), (26, ⟨f26n, [], []⟩), (27, ⟨f27n, [], []⟩), (28, ⟨f28n, [], []⟩), (29, ⟨f29n, [], []⟩), (30, ⟨f30n, [], []⟩), (31, ⟨f31n, [], []⟩), (32, ⟨f32n, [], []⟩), (33, ⟨f33n, [], []⟩), (34, ⟨f34n, [], []⟩), (35, ⟨f35n, [], []⟩), (36, ⟨f36n, [], []⟩), (37, ⟨f37n, [], []⟩), (38, ⟨f38n, [], []⟩), (42, ⟨f42n, [], []⟩), (43, ⟨f43n, [], []⟩), (44, ⟨f44n, [], []⟩), (47, ⟨f47n, [], []⟩), (49, ⟨f49n, [], []⟩), (50, ⟨f50v10n, [], []⟩), (51, ⟨f51n, [], []⟩), (54, ⟨f54n, [], []⟩), (55, ⟨f55n, [], []⟩), (56, ⟨f56n, [], []⟩), (57, ⟨f57n, [], []⟩), (58, ⟨f58n, [], []⟩), (59, ⟨f59n, [], []⟩), (60, ⟨f60n, [], []⟩), (61, ⟨f61n, [], []⟩), (62, ⟨f62n, [], []⟩), (66, ⟨f66n, [], []⟩), (72, ⟨f72n, [], []⟩), (73, ⟨f73v10n, [], []⟩), (77, ⟨f77n, [], [(0, 2)]⟩), (78, ⟨f78n, [], []⟩), (79, ⟨f79n, [], []⟩)]
def anns : FuncId → FAnn := fun f => (look f ANNS).getD {}
def ext : ExtH := fun f args => bif Nat.beq f 53 then some (extStrRep args) else bif Nat.beq f 52 then some (extSlRep args) else bif Nat.beq f 77 && emptyArg args then some none else bif Nat.beq f 19 then some (extItoa args) else bif Nat.beq f 17 then some (extStrJoin args) else bif Nat.beq f 16 then some (extBldS 46 5 args) else bif Nat.beq f 18 then some (extBldB 46 5 args) else bif Nat.beq f 21 then some (extBldR 46 5 args) else bif Nat.beq f 25 then some (extSpl args) else bif Nat.beq f 46 then some (extCut args) else bif Nat.beq f 71 then some (extNum true args) else bif Nat.beq f 48 then some (extSplN args) else none
noncomputable abbrev EV (k : Nat) : CallH := evF prog anns ext k
noncomputable abbrev RE (k : Nat) (a : RAnn) (o : Array Oper) (d : Bool) (s : St) : Option St := regionE prog (EV k) a o d s
abbrev I (n : Int) : V := .int .i64 n
abbrev sMark (l : List T_api_Mark) : V := .sl 0 3 (List.map eMark l)
abbrev sSlot (l : List T_api_Slot) : V := .sl 0 7 (List.map eSlot l)
abbrev spart (l : List T_screen_part) : V := .sl 0 3 (List.map epart l)
abbrev sspan (l : List T_progenyref24_span) : V := .sl 0 3 (List.map espan l)
abbrev sI (l : List Int) : V := .sl 0 1 (List.map I l)
def law24_Large_fin : Bool → V × List V := fun r => ((Bo r), [])
theorem law24_Large_L1_ok (k : Nat) (a0 : T_api_Form)  (K0 : Int → Option Bool) (Kst : X × St → Option (V × List V)) (hK0 : ∀ (y0 : Int), Kst (X.exit 0, ⟨[(1, (Pt 1)), (3, (I y0)), (19, (Bo false))], [(1, vS 4 (eForm a0))], 45⟩) = (K0 y0).map law24_Large_fin) (hret : ∀ s, Kst (X.ret, s) = endK prog 45 [(eForm a0)] [] [.tmp 2] (X.ret, s)) :
  ∀ (m : Nat) (x4 : Int), (iter (exec prog (EV k) f4n k f4b0) m ⟨[(1, (Pt 1)), (3, (I x4))], [(1, vS 4 (eForm a0))], 45⟩).bind Kst = (law24_Large_L1 a0 K0 m x4).map law24_Large_fin := by
 intro m
 induction m with
 | zero => intros; rfl
 | succ m ih =>
  intro x4
  unfold law24_Large_L1
  refine et k_round <| et k_assoc <| krp f4a4 rfl ⟨[(1, (Pt 1)), (3, (I x4)), (19, (Bo (decide (x4 < (a0.fMarks.length : Int)))))], [(1, vS 4 (eForm a0))], 45⟩ ?_ ?_
  ·exact rd 3 [(15, (I x4)), (16, (V.ptr 1 0 2)), (17, (sMark a0.fMarks))] rfl rfl <| rl rfl (p_len (e := eMark) rfl rfl rfl rfl rfl rfl underlying22) <| bind_end rfl
  refine kc rfl rfl (fun hc => ?_) fun hc => ?_
  ·rw [hc]
   refine et k_skip <| et (k_block rfl) <| kg f4a6 rfl (fun (o6 : Bool) => ⟨[(1, (Pt 1)), (3, (I x4)), (29, (Bo o6))], [(1, vS 4 (eForm a0))], 45⟩) (rd 3 [(22, (V.ptr 1 0 2)), (23, (sMark a0.fMarks)), (24, (I x4))] rfl rfl <| rp rfl (p_index (e := eMark) rfl rfl rfl underlying22 rfl (by decide)) fun v5 => bind_end rfl) fun o6 => kcl rfl rfl (fun hc => ?_) fun hc => ?_
   ·rw [hc]
    refine kr ⟨[(2, (Bo true))], [], 45⟩ rfl <| et k_lret <| et blk_ret <| et loop_ret <| et (hret _) ?_
    rfl
   ·rw [hc]
    exact et k_lskip <| et blk_normal <| kl ⟨[(1, (Pt 1)), (3, (I (Go.IntKind.wrap .i64 (x4 + 1))))], [(1, vS 4 (eForm a0))], 45⟩ rfl <| et loop_normal <| ih (Go.IntKind.wrap .i64 (x4 + 1))
  ·rw [hc]
   exact et k_exit <| et loop_exit <| hK0 x4
theorem law24_Large_L2_ok (k : Nat) (a0 : T_api_Form)  (K0 : Int → Option Bool) (Kst : X × St → Option (V × List V)) (hK0 : ∀ (y0 : Int), Kst (X.exit 2, ⟨[(1, (Pt 1)), (4, (I y0)), (34, (Bo false))], [(1, vS 4 (eForm a0))], 45⟩) = (K0 y0).map law24_Large_fin) (hret : ∀ s, Kst (X.ret, s) = endK prog 45 [(eForm a0)] [] [.tmp 2] (X.ret, s)) :
  ∀ (m : Nat) (x10 : Int), (iter (exec prog (EV k) f4n k f4b1) m ⟨[(1, (Pt 1)), (4, (I x10))], [(1, vS 4 (eForm a0))], 45⟩).bind Kst = (law24_Large_L2 a0 K0 m x10).map law24_Large_fin := by
 intro m
 induction m with
 | zero => intros; rfl
 | succ m ih =>
  intro x10
  unfold law24_Large_L2
  refine et k_round <| et k_assoc <| krp f4a9 rfl ⟨[(1, (Pt 1)), (4, (I x10)), (34, (Bo (decide (x10 < (a0.fFields.length : Int)))))], [(1, vS 4 (eForm a0))], 45⟩ ?_ ?_
  ·exact rd 3 [(30, (I x10)), (31, (V.ptr 1 0 3)), (32, (sSlot a0.fFields))] rfl rfl <| rl rfl (p_len (e := eSlot) rfl rfl rfl rfl rfl rfl underlying23) <| bind_end rfl
  refine kc rfl rfl (fun hc => ?_) fun hc => ?_
  ·rw [hc]
   refine et k_skip <| et (k_block rfl) <| kg f4a11 rfl (fun (o12 : Bool) => ⟨[(1, (Pt 1)), (4, (I x10)), (44, (Bo o12))], [(1, vS 4 (eForm a0))], 45⟩) (rd 3 [(37, (V.ptr 1 0 3)), (38, (sSlot a0.fFields)), (39, (I x10))] rfl rfl <| rp rfl (p_index (e := eSlot) rfl rfl rfl underlying23 rfl (by decide)) fun v11 => bind_end rfl) fun o12 => kcl rfl rfl (fun hc => ?_) fun hc => ?_
   ·rw [hc]
    refine kr ⟨[(2, (Bo true))], [], 45⟩ rfl <| et k_lret <| et blk_ret <| et loop_ret <| et (hret _) ?_
    rfl
   ·rw [hc]
    exact et k_lskip <| et blk_normal <| kl ⟨[(1, (Pt 1)), (4, (I (Go.IntKind.wrap .i64 (x10 + 1))))], [(1, vS 4 (eForm a0))], 45⟩ rfl <| et loop_normal <| ih (Go.IntKind.wrap .i64 (x10 + 1))
  ·rw [hc]
   exact et k_exit <| et loop_exit <| hK0 x10
theorem law24_Large_ok (k : Nat) (a0 : T_api_Form) : EV k 4 [(eForm a0)] = (law24_Large k a0).map law24_Large_fin := by
 cases k with
 | zero => rfl
 | succ k =>
  unfold law24_Large
  refine et (evF_succ (c := f4c) (N := 45) (regs := f4n) rfl func4 rfl (by decide) rfl rfl rfl) <| kr ⟨[(1, (Pt 1))], [(1, vS 4 (eForm a0))], 45⟩ rfl <| et k_assoc <| kga f4a1 rfl (fun (o1 : Bool) => [(14, (Bo o1))]) ?_ fun o1 => ?_
  ·refine rd 2 [(5, (V.ptr 1 0 2)), (6, (sMark a0.fMarks))] rfl rfl <| rl rfl (p_len (e := eMark) rfl rfl rfl rfl rfl rfl underlying22) <| bd 5 [(7, (I (a0.fMarks.length : Int))), (8, (Bo (decide ((a0.fMarks.length : Int) > 20)))), (9, (Bo (decide ((a0.fMarks.length : Int) > 20))))] rfl rfl <| bifE (fun hc => ?_) fun hc => ?_
   ·rw [hc]
    exact reg_end rfl
   ·rw [hc]
    exact rd 7 [(10, (V.ptr 1 0 3)), (11, (sSlot a0.fFields))] rfl rfl <| rl rfl (p_len (e := eSlot) rfl rfl rfl rfl rfl rfl underlying23) <| bind_end rfl
  refine kc rfl rfl (fun hc => ?_) fun hc => ?_
  ·rw [hc]
   refine et k_assoc <| kr ⟨[(2, (Bo true))], [], 45⟩ rfl <| et k_ret ?_
   rfl
  ·rw [hc]
   refine et k_skip <| et k_assoc <| kr ⟨[(1, (Pt 1)), (3, (I 0))], [(1, vS 4 (eForm a0))], 45⟩ rfl <| et (k_block rfl) <| et k_loop ?_
   refine law24_Large_L1_ok k a0 _ _ ?h_law24_Large_L1_0 ?hr_law24_Large_L1 k 0
   ·intro y7
    refine et blk_exit <| et k_assoc <| kr ⟨[(1, (Pt 1)), (4, (I 0))], [(1, vS 4 (eForm a0))], 45⟩ rfl <| et (k_block rfl) <| et k_loop ?_
    refine law24_Large_L2_ok k a0 _ _ ?h_law24_Large_L2_0 ?hr_law24_Large_L2 k 0
    ·intro y13
     refine et blk_exit <| kr ⟨[(2, (Bo false))], [], 45⟩ rfl <| et k_lret ?_
     rfl
    ·intro s; exact rfl
   ·intro s; exact rfl
def screen_isName_fin : Bool → V × List V := fun r => ((Bo r), [])
theorem screen_isName_L1_ok (k : Nat) (a0 : Str)  (K0 : Int → Option Bool) (Kst : X × St → Option (V × List V)) (hK0 : ∀ (y0 : Int), Kst (X.exit 0, ⟨[(0, (Sr a0)), (6, (I (a0.length : Int))), (7, (I y0)), (8, (Bo false))], [], 47⟩) = (K0 y0).map screen_isName_fin) (hret : ∀ s, Kst (X.ret, s) = endK prog 47 [(Sr a0)] [] [.tmp 2] (X.ret, s)) :
  ∀ (m : Nat) (x7 : Int), (iter (exec prog (EV k) f57n k f57b0) m ⟨[(0, (Sr a0)), (6, (I (a0.length : Int))), (7, (I x7))], [], 47⟩).bind Kst = (screen_isName_L1 a0 K0 m x7).map screen_isName_fin := by
 intro m
 induction m with
 | zero => intros; rfl
 | succ m ih =>
  intro x7
  unfold screen_isName_L1
  refine et k_round <| kra [(8, (Bo (decide (x7 < (a0.length : Int)))))] rfl <| kc rfl rfl (fun hc => ?_) fun hc => ?_
  ·rw [hc]
   refine et k_skip <| et (k_block rfl) <| kr ⟨[(0, (Sr a0)), (3, (I x7)), (6, (I (a0.length : Int))), (7, (I x7))], [], 47⟩ rfl <| kg f57a4 rfl (fun (o10 : Bool) => ⟨[(0, (Sr a0)), (3, (I x7)), (4, (Bo o10)), (6, (I (a0.length : Int))), (7, (I x7))], [], 47⟩) ?_ fun o10 => ?_
   ·refine rd 2 [(10, (Sr a0)), (11, (I x7))] rfl rfl <| rp rfl (p_indexS rfl rfl rfl underlying9) fun v8 => bd 5 [(12, (V.int .u8 v8)), (13, (Bo (decide (v8 ≥ 65)))), (14, (Bo (decide (v8 ≥ 65))))] rfl rfl <| bifE (fun hc => ?_) fun hc => ?_
    ·rw [hc]
     exact rd 7 [(15, (Sr a0)), (16, (I x7))] rfl rfl <| rp rfl (p_indexS rfl rfl rfl underlying9) fun v9 => bind_end rfl
    ·rw [hc]
     exact reg_end rfl
   refine kg f57a5 rfl (fun (o13 : Bool) => ⟨[(0, (Sr a0)), (6, (I (a0.length : Int))), (7, (I x7)), (37, (Bo o13))], [], 47⟩) ?_ fun o13 => ?_
   ·refine rd 3 [(20, (Bo o10)), (21, (Bo (!o10))), (22, (Bo (!o10)))] rfl rfl <| bifE (fun hc => ?_) fun hc => ?_
    ·rw [hc]
     refine rd 6 [(23, (I x7)), (24, (Bo (x7 == 0))), (25, (Bo (x7 == 0)))] rfl rfl <| bifE (fun hc => ?_) fun hc => ?_
     ·rw [hc]
      exact reg_end rfl
     ·rw [hc]
      refine rd 8 [(26, (Sr a0)), (27, (I x7))] rfl rfl <| rp rfl (p_indexS rfl rfl rfl underlying9) fun v11 => bd 12 [(28, (V.int .u8 v11)), (29, (Bo (decide (v11 < 48)))), (30, (Bo (decide (v11 < 48)))), (31, (Bo (decide (v11 < 48))))] rfl rfl <| bifE (fun hc => ?_) fun hc => ?_
      ·rw [hc]
       exact reg_end rfl
      ·rw [hc]
       exact rd 14 [(32, (Sr a0)), (33, (I x7))] rfl rfl <| rp rfl (p_indexS rfl rfl rfl underlying9) fun v12 => bind_end rfl
    ·rw [hc]
     exact reg_end rfl
   refine kcl rfl rfl (fun hc => ?_) fun hc => ?_
   ·rw [hc]
    refine kr ⟨[(2, (Bo false))], [], 47⟩ rfl <| et k_lret <| et blk_ret <| et loop_ret <| et (hret _) ?_
    rfl
   ·rw [hc]
    exact et k_lskip <| et blk_normal <| kl ⟨[(0, (Sr a0)), (6, (I (a0.length : Int))), (7, (I (Go.IntKind.wrap .i64 (x7 + 1))))], [], 47⟩ rfl <| et loop_normal <| ih (Go.IntKind.wrap .i64 (x7 + 1))
  ·rw [hc]
   exact et k_exit <| et loop_exit <| hK0 x7
theorem screen_isName_ok (k : Nat) (a0 : Str) : EV k 57 [(Sr a0)] = (screen_isName k a0).map screen_isName_fin := by
 cases k with
 | zero => rfl
 | succ k =>
  unfold screen_isName
  refine et (evF_succ (c := f57c) (N := 47) (regs := f57n) rfl func57 rfl (by decide) rfl rfl rfl) <| kra [] rfl <| et k_assoc <| kra [(6, (I (a0.length : Int))), (7, (I 0))] rfl <| et (k_block rfl) <| et k_loop ?_
  refine screen_isName_L1_ok k a0 _ _ ?h_screen_isName_L1_0 ?hr_screen_isName_L1 k 0
  ·intro y14
   refine et blk_exit <| kg f57a8 rfl (fun (o15 : Bool) => ⟨[(2, (Bo o15))], [], 47⟩) ?_ fun o15 => ?_
   ·refine rd 4 [(39, (Sr a0)), (40, (I (a0.length : Int))), (41, (Bo (decide ((a0.length : Int) ≥ 1)))), (42, (Bo (decide ((a0.length : Int) ≥ 1))))] rfl rfl <| bifE (fun hc => ?_) fun hc => ?_
    ·rw [hc]
     exact reg_end rfl
    ·rw [hc]
     exact reg_end rfl
   refine et k_lret ?_
   rfl
  ·intro s; exact rfl
def screen_isPlace_fin : Bool → V × List V := fun r => ((Bo r), [])
theorem screen_isPlace_ok (k : Nat) (a0 : Int) : EV k 58 [(I a0)] = (screen_isPlace k a0).map screen_isPlace_fin := by
 cases k with
 | zero => rfl
 | succ k =>
  unfold screen_isPlace
  refine et (evF_succ (c := f58c) (N := 9) (regs := f58n) rfl func58 rfl (by decide) rfl rfl rfl) <| kra [] rfl <| kg f58a1 rfl (fun (o1 : Bool) => ⟨[(2, (Bo o1))], [], 9⟩) ?_ fun o1 => ?_
  ·refine rd 3 [(3, (I a0)), (4, (Bo (decide (a0 ≥ (-1))))), (5, (Bo (decide (a0 ≥ (-1)))))] rfl rfl <| bifE (fun hc => ?_) fun hc => ?_
   ·rw [hc]
    exact reg_end rfl
   ·rw [hc]
    exact reg_end rfl
  refine et k_lret ?_
  rfl
def screen_isByte_fin : Bool → V × List V := fun r => ((Bo r), [])
theorem screen_isByte_ok (k : Nat) (a0 : Int) : EV k 59 [(V.int .u8 a0)] = (screen_isByte k a0).map screen_isByte_fin := by
 cases k with
 | zero => rfl
 | succ k =>
  unfold screen_isByte
  refine et (evF_succ (c := f59c) (N := 9) (regs := f59n) rfl func59 rfl (by decide) rfl rfl rfl) <| kra [] rfl <| kg f59a1 rfl (fun (o1 : Bool) => ⟨[(2, (Bo o1))], [], 9⟩) ?_ fun o1 => ?_
  ·refine rd 3 [(3, (V.int .u8 a0)), (4, (Bo (decide (a0 ≥ 32)))), (5, (Bo (decide (a0 ≥ 32))))] rfl rfl <| bifE (fun hc => ?_) fun hc => ?_
   ·rw [hc]
    exact reg_end rfl
   ·rw [hc]
    exact reg_end rfl
  refine et k_lret ?_
  rfl
def slices_IndexFunc_Slot_fin : Int → V × List V := fun r => ((I r), [])
theorem slices_IndexFunc_Slot_L1_ok (k : Nat) (a0 : (List T_api_Slot)) (a1 : Nat → T_api_Slot → Option Bool) (a1_fid : Go.FuncId) (a1_c0 : V) (a1_hok : ∀ j x0, EV j a1_fid [(eSlot x0), V.pro a1_c0] = (a1 j x0).map fun b => ((Bo b), [])) (K0 : Int → Option Int) (Kst : X × St → Option (V × List V)) (hK0 : ∀ (y0 : Int), Kst (X.exit 0, ⟨[(0, (sSlot a0)), (1, (V.fn a1_fid [] [V.pro a1_c0])), (7, (I (a0.length : Int))), (8, (I y0)), (9, (Bo false))], [], 19⟩) = (K0 y0).map slices_IndexFunc_Slot_fin) (hret : ∀ s, Kst (X.ret, s) = endK prog 19 [(sSlot a0), (V.fn a1_fid [] [V.pro a1_c0])] [] [.tmp 4] (X.ret, s)) :
  ∀ (m : Nat) (x4 : Int), (iter (exec prog (EV k) f79n k f79b0) m ⟨[(0, (sSlot a0)), (1, (V.fn a1_fid [] [V.pro a1_c0])), (7, (I (a0.length : Int))), (8, (I x4))], [], 19⟩).bind Kst = (slices_IndexFunc_Slot_L1 k a0 a1 K0 m x4).map slices_IndexFunc_Slot_fin := by
 intro m
 induction m with
 | zero => intros; rfl
 | succ m ih =>
  intro x4
  unfold slices_IndexFunc_Slot_L1
  refine et k_round <| kra [(9, (Bo (decide (x4 < (a0.length : Int)))))] rfl <| kc rfl rfl (fun hc => ?_) fun hc => ?_
  ·rw [hc]
   refine et k_skip <| et (k_block rfl) <| kr ⟨[(0, (sSlot a0)), (1, (V.fn a1_fid [] [V.pro a1_c0])), (5, (I x4)), (7, (I (a0.length : Int))), (8, (I x4))], [], 19⟩ rfl <| kga f79a4 rfl (fun (o7 : Bool) => [(16, (Bo o7))]) (rd 3 [(11, (V.fn a1_fid [] [V.pro a1_c0])), (12, (sSlot a0)), (13, (I x4))] rfl rfl <| rp rfl (p_index (e := eSlot) rfl rfl rfl underlying23 rfl (by decide)) fun v5 => bd 5 [(14, (Pr (eSlot v5))), (15, (eSlot v5))] rfl rfl <| rs rfl (p_call rfl rfl rfl rfl rfl (a1_hok k v5) (.inl rfl)) fun v6 => bind_end rfl) fun o7 => kcl rfl rfl (fun hc => ?_) fun hc => ?_
   ·rw [hc]
    refine kr ⟨[(4, (I x4))], [], 19⟩ rfl <| et k_lret <| et blk_ret <| et loop_ret <| et (hret _) ?_
    rfl
   ·rw [hc]
    exact et k_lskip <| et blk_normal <| kl ⟨[(0, (sSlot a0)), (1, (V.fn a1_fid [] [V.pro a1_c0])), (7, (I (a0.length : Int))), (8, (I (Go.IntKind.wrap .i64 (x4 + 1))))], [], 19⟩ rfl <| et loop_normal <| ih (Go.IntKind.wrap .i64 (x4 + 1))
  ·rw [hc]
   exact et k_exit <| et loop_exit <| hK0 x4
theorem slices_IndexFunc_Slot_ok (k : Nat) (a0 : (List T_api_Slot)) (a1 : Nat → T_api_Slot → Option Bool) (a1_fid : Go.FuncId) (a1_c0 : V) (a1_hok : ∀ j x0, EV j a1_fid [(eSlot x0), V.pro a1_c0] = (a1 j x0).map fun b => ((Bo b), [])) : EV k 79 [(sSlot a0), (V.fn a1_fid [] [V.pro a1_c0])] = (slices_IndexFunc_Slot k a0 a1).map slices_IndexFunc_Slot_fin := by
 cases k with
 | zero => rfl
 | succ k =>
  unfold slices_IndexFunc_Slot
  refine et (evF_succ (c := f79c) (N := 19) (regs := f79n) rfl func79 rfl (by decide) rfl rfl rfl) <| kra [] rfl <| et k_assoc <| krp f79a1 rfl ⟨[(0, (sSlot a0)), (1, (V.fn a1_fid [] [V.pro a1_c0])), (7, (I (a0.length : Int))), (8, (I 0))], [], 19⟩ ?_ ?_
  ·exact rd 1 [(6, (sSlot a0))] rfl rfl <| rl rfl (p_len (e := eSlot) rfl rfl rfl rfl rfl rfl underlying23) <| bind_end rfl
  refine et (k_block rfl) <| et k_loop ?_
  refine slices_IndexFunc_Slot_L1_ok k a0 a1 a1_fid a1_c0 a1_hok _ _ ?h_slices_IndexFunc_Slot_L1_0 ?hr_slices_IndexFunc_Slot_L1 k 0
  ·intro y8
   refine et blk_exit <| kr ⟨[(4, (I (-1)))], [], 19⟩ rfl <| et k_lret ?_
   rfl
  ·intro s; exact rfl
def slices_ContainsFunc_Slot_fin : Bool → V × List V := fun r => ((Bo r), [])
theorem slices_ContainsFunc_Slot_ok (k : Nat) (a0 : (List T_api_Slot)) (a1 : Nat → T_api_Slot → Option Bool) (a1_fid : Go.FuncId) (a1_c0 : V) (a1_hok : ∀ j x0, EV j a1_fid [(eSlot x0), V.pro a1_c0] = (a1 j x0).map fun b => ((Bo b), [])) : EV k 60 [(sSlot a0), (V.fn a1_fid [] [V.pro a1_c0])] = (slices_ContainsFunc_Slot k a0 a1).map slices_ContainsFunc_Slot_fin := by
 cases k with
 | zero => rfl
 | succ k =>
  unfold slices_ContainsFunc_Slot
  refine et (evF_succ (c := f60c) (N := 9) (regs := f60n) rfl func60 rfl (by decide) rfl rfl rfl) <| kra [] rfl <| kg f60a1 rfl (fun (o2 : Bool) => ⟨[(4, (Bo o2))], [], 9⟩) (rd 2 [(5, (sSlot a0)), (6, (V.fn a1_fid [] [V.pro a1_c0]))] rfl rfl <| rp rfl (p_call rfl rfl rfl rfl rfl (slices_IndexFunc_Slot_ok k a0 a1 a1_fid a1_c0 a1_hok) (.inl rfl)) fun v1 => bind_end rfl) fun o2 => et k_lret ?_
  rfl
def screen_areSlots_1_fin : Bool → V × List V := fun r => ((Bo r), [])
theorem screen_areSlots_1_ok (k : Nat) (a0 : T_api_Slot) (a1 : T_api_Slot) : EV k 61 [(eSlot a0), (Pr (eSlot a1))] = (screen_areSlots_1 k a0 a1).map screen_areSlots_1_fin := by
 cases k with
 | zero => rfl
 | succ k =>
  unfold screen_areSlots_1
  refine et (evF_succ (c := f61c) (N := 33) (regs := f61n) rfl func61 rfl (by decide) rfl rfl rfl) <| kr ⟨[(1, (Pr (eSlot a1))), (2, (Pt 2))], [(2, vS 7 (eSlot a0))], 33⟩ rfl <| kg f61a1 rfl (fun (o1 : Bool) => ⟨[(3, (Bo o1))], [], 33⟩) ?_ fun o1 => ?_
  ·refine rd 6 [(4, (Pt 2)), (5, (Sr a0.fName)), (6, (Pr (Sr a1.fName))), (7, (Sr a1.fName)), (8, (Bo (a0.fName == a1.fName))), (9, (Bo (a0.fName == a1.fName)))] rfl rfl <| bifE (fun hc => ?_) fun hc => ?_
   ·rw [hc]
    exact reg_end rfl
   ·rw [hc]
    refine rd 10 [(10, (Pr (I a1.fIn))), (11, (I a1.fIn)), (12, (Bo (decide (a1.fIn ≥ 0)))), (13, (Bo (decide (a1.fIn ≥ 0))))] rfl rfl <| bifE (fun hc => ?_) fun hc => ?_
    ·rw [hc]
     refine rd 18 [(14, (V.ptr 2 0 4)), (15, (I a0.fIn)), (16, (Pr (I a1.fIn))), (17, (I a1.fIn)), (18, (Bo (a0.fIn == a1.fIn))), (19, (Bo (a0.fIn == a1.fIn))), (20, (Bo (a0.fIn == a1.fIn))), (21, (Bo (a0.fIn == a1.fIn)))] rfl rfl <| bifE (fun hc => ?_) fun hc => ?_
     ·rw [hc]
      exact reg_end rfl
     ·rw [hc]
      refine rd 22 [(22, (Pr (I a1.fOut))), (23, (I a1.fOut)), (24, (Bo (decide (a1.fOut ≥ 0)))), (25, (Bo (decide (a1.fOut ≥ 0))))] rfl rfl <| bifE (fun hc => ?_) fun hc => ?_
      ·rw [hc]
       exact reg_end rfl
      ·rw [hc]
       exact reg_end rfl
    ·rw [hc]
     refine rd 22 [(14, (V.tup [])), (15, (V.tup [])), (16, (V.tup [])), (17, (V.tup [])), (18, (V.tup [])), (19, (Bo false)), (20, (Bo false)), (21, (Bo false)), (22, (Pr (I a1.fOut))), (23, (I a1.fOut)), (24, (Bo (decide (a1.fOut ≥ 0)))), (25, (Bo (decide (a1.fOut ≥ 0))))] rfl rfl <| bifE (fun hc => ?_) fun hc => ?_
     ·rw [hc]
      exact reg_end rfl
     ·rw [hc]
      exact reg_end rfl
  refine et k_lret ?_
  rfl
def screen_areSlots_fin : Bool → V × List V := fun r => ((Bo r), [])
theorem screen_areSlots_L1_ok (k : Nat) (a0 : (List T_api_Slot))  (K0 : Int → Option Bool) (Kst : X × St → Option (V × List V)) (hK0 : ∀ (y0 : Int), Kst (X.exit 0, ⟨[(0, (sSlot a0)), (5, (sSlot a0)), (6, (I (a0.length : Int))), (7, (I y0)), (8, (Bo false))], [], 43⟩) = (K0 y0).map screen_areSlots_fin) (hret : ∀ s, Kst (X.ret, s) = endK prog 43 [(sSlot a0)] [] [.tmp 2] (X.ret, s)) :
  ∀ (m : Nat) (x11 : Int), (iter (exec prog (EV k) f34n k f34b0) m ⟨[(0, (sSlot a0)), (5, (sSlot a0)), (6, (I (a0.length : Int))), (7, (I x11))], [], 43⟩).bind Kst = (screen_areSlots_L1 k a0 K0 m x11).map screen_areSlots_fin := by
 intro m
 induction m with
 | zero => intros; rfl
 | succ m ih =>
  intro x11
  unfold screen_areSlots_L1
  refine et k_round <| kra [(8, (Bo (decide (x11 < (a0.length : Int)))))] rfl <| kc rfl rfl (fun hc => ?_) fun hc => ?_
  ·rw [hc]
   refine et k_skip <| et (k_block rfl) <| kg f34a3 rfl (fun (o13 : Int × T_api_Slot) => ⟨[(0, (sSlot a0)), (3, (I o13.1)), (4, (Pt 4)), (5, (sSlot a0)), (6, (I (a0.length : Int))), (7, (I x11))], [(4, vS 7 (eSlot o13.2))], 43⟩) (rd 1 [(9, (I x11))] rfl rfl <| rp rfl (p_index (e := eSlot) rfl rfl rfl underlying23 rfl (by decide)) fun v12 => bind_end rfl) fun o13 => et k_assoc <| kga f34a4 rfl (fun (o18 : Bool) => [(33, (Bo o18))]) ?_ fun o18 => ?_
   ·refine rd 2 [(12, (Pt 4)), (13, (Sr o13.2.fName))] rfl rfl <| rp rfl (p_call rfl rfl rfl rfl rfl (screen_isName_ok k o13.2.fName) (.inl rfl)) fun v14 => bd 5 [(14, (Bo v14)), (15, (Bo (!v14))), (16, (Bo (!v14)))] rfl rfl <| bifE (fun hc => ?_) fun hc => ?_
    ·rw [hc]
     exact reg_end rfl
    ·rw [hc]
     refine rd 7 [(17, (V.ptr 4 0 4)), (18, (I o13.2.fIn))] rfl rfl <| rp rfl (p_call rfl rfl rfl rfl rfl (screen_isPlace_ok k o13.2.fIn) (.inl rfl)) fun v15 => bd 11 [(19, (Bo v15)), (20, (Bo (!v15))), (21, (Bo (!v15))), (22, (Bo (!v15)))] rfl rfl <| bifE (fun hc => ?_) fun hc => ?_
     ·rw [hc]
      exact reg_end rfl
     ·rw [hc]
      refine rd 13 [(23, (V.ptr 4 0 5)), (24, (I o13.2.fOut))] rfl rfl <| rp rfl (p_call rfl rfl rfl rfl rfl (screen_isPlace_ok k o13.2.fOut) (.inl rfl)) fun v16 => bd 17 [(25, (Bo v16)), (26, (Bo (!v16))), (27, (Bo (!v16))), (28, (Bo (!v16)))] rfl rfl <| bifE (fun hc => ?_) fun hc => ?_
      ·rw [hc]
       exact reg_end rfl
      ·rw [hc]
       exact rd 19 [(29, (V.ptr 4 0 6)), (30, (V.int .u8 o13.2.fFill))] rfl rfl <| rp rfl (p_call rfl rfl rfl rfl rfl (screen_isByte_ok k o13.2.fFill) (.inl rfl)) fun v17 => bind_end rfl
   refine kc rfl rfl (fun hc => ?_) fun hc => ?_
   ·rw [hc]
    refine et k_assoc <| kr ⟨[(2, (Bo false))], [], 43⟩ rfl <| et k_ret <| et blk_ret <| et loop_ret <| et (hret _) ?_
    rfl
   ·rw [hc]
    refine et k_skip <| kg f34a6 rfl (fun (o21 : Bool) => ⟨[(0, (sSlot a0)), (5, (sSlot a0)), (6, (I (a0.length : Int))), (7, (I x11)), (38, (Bo o21))], [], 43⟩) (rd 2 [(34, (sSlot a0)), (35, (I o13.1))] rfl rfl <| rp rfl (p_slice (e := eSlot) rfl rfl rfl rfl rfl rfl underlying23 rfl (by decide)) fun v19 => bd 4 [(36, (sSlot v19)), (37, (V.fn 61 [] [(Pt 4)]))] rfl rfl <| rs rfl (p_call rfl rfl rfl rfl rfl (slices_ContainsFunc_Slot_ok k v19 (fun j x0 => (screen_areSlots_1 j x0 o13.2)) 61 (eSlot o13.2) (fun j x0 => (screen_areSlots_1_ok j x0 o13.2))) (.inr (fun _ => rfl))) fun v20 => bind_end rfl) fun o21 => kcl rfl rfl (fun hc => ?_) fun hc => ?_
    ·rw [hc]
     refine kr ⟨[(2, (Bo false))], [], 43⟩ rfl <| et k_lret <| et blk_ret <| et loop_ret <| et (hret _) ?_
     rfl
    ·rw [hc]
     exact et k_lskip <| et blk_normal <| kl ⟨[(0, (sSlot a0)), (5, (sSlot a0)), (6, (I (a0.length : Int))), (7, (I (Go.IntKind.wrap .i64 (x11 + 1))))], [], 43⟩ rfl <| et loop_normal <| ih (Go.IntKind.wrap .i64 (x11 + 1))
  ·rw [hc]
   exact et k_exit <| et loop_exit <| hK0 x11
theorem screen_areSlots_ok (k : Nat) (a0 : (List T_api_Slot)) : EV k 34 [(sSlot a0)] = (screen_areSlots k a0).map screen_areSlots_fin := by
 cases k with
 | zero => rfl
 | succ k =>
  unfold screen_areSlots
  refine et (evF_succ (c := f34c) (N := 43) (regs := f34n) rfl func34 rfl (by decide) rfl rfl rfl) <| kra [] rfl <| et k_assoc <| krp f34a1 rfl ⟨[(0, (sSlot a0)), (5, (sSlot a0)), (6, (I (a0.length : Int))), (7, (I 0))], [], 43⟩ ?_ ?_
  ·exact rd 1 [(5, (sSlot a0))] rfl rfl <| rl rfl (p_len (e := eSlot) rfl rfl rfl rfl rfl rfl underlying23) <| bind_end rfl
  refine et (k_block rfl) <| et k_loop ?_
  refine screen_areSlots_L1_ok k a0 _ _ ?h_screen_areSlots_L1_0 ?hr_screen_areSlots_L1 k 0
  ·intro y22
   refine et blk_exit <| krp f34a9 rfl ⟨[(2, (Bo (decide ((a0.length : Int) ≤ 10))))], [], 43⟩ ?_ ?_
   ·exact rd 1 [(40, (sSlot a0))] rfl rfl <| rl rfl (p_len (e := eSlot) rfl rfl rfl rfl rfl rfl underlying23) <| bind_end rfl
   refine et k_lret ?_
   rfl
  ·intro s; exact rfl
def screen_isText_fin : Bool → V × List V := fun r => ((Bo r), [])
theorem screen_isText_L1_ok (k : Nat) (a0 : Str)  (K0 : Int → Option Bool) (Kst : X × St → Option (V × List V)) (hK0 : ∀ (y0 : Int), Kst (X.exit 0, ⟨[(0, (Sr a0)), (5, (I (a0.length : Int))), (6, (I y0)), (7, (Bo false))], [], 15⟩) = (K0 y0).map screen_isText_fin) (hret : ∀ s, Kst (X.ret, s) = endK prog 15 [(Sr a0)] [] [.tmp 2] (X.ret, s)) :
  ∀ (m : Nat) (x4 : Int), (iter (exec prog (EV k) f35n k f35b0) m ⟨[(0, (Sr a0)), (5, (I (a0.length : Int))), (6, (I x4))], [], 15⟩).bind Kst = (screen_isText_L1 k a0 K0 m x4).map screen_isText_fin := by
 intro m
 induction m with
 | zero => intros; rfl
 | succ m ih =>
  intro x4
  unfold screen_isText_L1
  refine et k_round <| kra [(7, (Bo (decide (x4 < (a0.length : Int)))))] rfl <| kc rfl rfl (fun hc => ?_) fun hc => ?_
  ·rw [hc]
   refine et k_skip <| et (k_block rfl) <| kr ⟨[(0, (Sr a0)), (3, (I x4)), (5, (I (a0.length : Int))), (6, (I x4))], [], 15⟩ rfl <| kg f35a4 rfl (fun (o7 : Bool) => ⟨[(0, (Sr a0)), (5, (I (a0.length : Int))), (6, (I x4)), (13, (Bo o7))], [], 15⟩) (rd 2 [(9, (Sr a0)), (10, (I x4))] rfl rfl <| rp rfl (p_indexS rfl rfl rfl underlying9) fun v5 => bd 3 [(11, (V.int .u8 v5))] rfl rfl <| rp rfl (p_call rfl rfl rfl rfl rfl (screen_isByte_ok k v5) (.inl rfl)) fun v6 => bind_end rfl) fun o7 => kcl rfl rfl (fun hc => ?_) fun hc => ?_
   ·rw [hc]
    refine kr ⟨[(2, (Bo false))], [], 15⟩ rfl <| et k_lret <| et blk_ret <| et loop_ret <| et (hret _) ?_
    rfl
   ·rw [hc]
    exact et k_lskip <| et blk_normal <| kl ⟨[(0, (Sr a0)), (5, (I (a0.length : Int))), (6, (I (Go.IntKind.wrap .i64 (x4 + 1))))], [], 15⟩ rfl <| et loop_normal <| ih (Go.IntKind.wrap .i64 (x4 + 1))
  ·rw [hc]
   exact et k_exit <| et loop_exit <| hK0 x4
theorem screen_isText_ok (k : Nat) (a0 : Str) : EV k 35 [(Sr a0)] = (screen_isText k a0).map screen_isText_fin := by
 cases k with
 | zero => rfl
 | succ k =>
  unfold screen_isText
  refine et (evF_succ (c := f35c) (N := 15) (regs := f35n) rfl func35 rfl (by decide) rfl rfl rfl) <| kra [] rfl <| et k_assoc <| kra [(5, (I (a0.length : Int))), (6, (I 0))] rfl <| et (k_block rfl) <| et k_loop ?_
  refine screen_isText_L1_ok k a0 _ _ ?h_screen_isText_L1_0 ?hr_screen_isText_L1 k 0
  ·intro y8
   refine et blk_exit <| kr ⟨[(2, (Bo true))], [], 15⟩ rfl <| et k_lret ?_
   rfl
  ·intro s; exact rfl
def screen_lies_fin : Bool → V × List V := fun r => ((Bo r), [])
theorem screen_lies_ok (k : Nat) (a0 : T_api_Form) (a1 : Int) (a2 : Int) (a3 : Int) : EV k 36 [(eForm a0), (I a1), (I a2), (I a3)] = (screen_lies k a0 a1 a2 a3).map screen_lies_fin := by
 cases k with
 | zero => rfl
 | succ k =>
  unfold screen_lies
  refine et (evF_succ (c := f36c) (N := 39) (regs := f36n) rfl func36 rfl (by decide) rfl rfl rfl) <| kr ⟨[(1, (I a1)), (2, (I a2)), (3, (I a3)), (4, (Pt 4))], [(4, vS 4 (eForm a0))], 39⟩ rfl <| kg f36a1 rfl (fun (o1 : Bool) => ⟨[(8, (Bo o1))], [], 39⟩) ?_ fun o1 => ?_
  ·refine rd 3 [(9, (I a1)), (10, (Bo (decide (a1 ≥ 0)))), (11, (Bo (decide (a1 ≥ 0))))] rfl rfl <| bifE (fun hc => ?_) fun hc => ?_
   ·rw [hc]
    refine rd 9 [(12, (I a1)), (13, (Pt 4)), (14, (I a0.fRows)), (15, (Bo (decide (a1 < a0.fRows)))), (16, (Bo (decide (a1 < a0.fRows)))), (17, (Bo (decide (a1 < a0.fRows))))] rfl rfl <| bifE (fun hc => ?_) fun hc => ?_
    ·rw [hc]
     refine rd 13 [(18, (I a2)), (19, (Bo (decide (a2 ≥ 0)))), (20, (Bo (decide (a2 ≥ 0)))), (21, (Bo (decide (a2 ≥ 0))))] rfl rfl <| bifE (fun hc => ?_) fun hc => ?_
     ·rw [hc]
      refine rd 19 [(22, (I a2)), (23, (V.ptr 4 0 1)), (24, (I a0.fColumns)), (25, (Bo (decide (a2 < a0.fColumns)))), (26, (Bo (decide (a2 < a0.fColumns)))), (27, (Bo (decide (a2 < a0.fColumns))))] rfl rfl <| bifE (fun hc => ?_) fun hc => ?_
      ·rw [hc]
       refine rd 23 [(28, (I a3)), (29, (Bo (decide (a3 ≥ 1)))), (30, (Bo (decide (a3 ≥ 1)))), (31, (Bo (decide (a3 ≥ 1))))] rfl rfl <| bifE (fun hc => ?_) fun hc => ?_
       ·rw [hc]
        exact reg_end rfl
       ·rw [hc]
        exact reg_end rfl
      ·rw [hc]
       exact reg_end rfl
     ·rw [hc]
      exact reg_end rfl
    ·rw [hc]
     exact reg_end rfl
   ·rw [hc]
    exact reg_end rfl
  refine et k_lret ?_
  rfl
def slices_IndexFunc_part_v10s72_fin : Int → V × List V := fun r => ((I r), [])
theorem slices_IndexFunc_part_v10s72_L1_ok (k : Nat) (a0 : (List T_screen_part)) (a1 : Nat → T_screen_part → Option Bool) (a1_fid : Go.FuncId) (a1_d0 : T_screen_part) (a1_hok : ∀ j x0, EV j a1_fid [(epart a1_d0), (epart x0)] = (a1 j x0).map fun b => ((Bo b), [])) (K0 : Int → Option Int) (Kst : X × St → Option (V × List V)) (hK0 : ∀ (y0 : Int), Kst (X.exit 0, ⟨[(0, (spart (a0))), (1, (V.fn a1_fid [(epart a1_d0)] [])), (7, (I (a0.length : Int))), (8, (I y0)), (9, (Bo false))], [], 19⟩) = (K0 y0).map slices_IndexFunc_part_v10s72_fin) (hret : ∀ s, Kst (X.ret, s) = endK prog 19 [(spart (a0)), (V.fn a1_fid [(epart a1_d0)] [])] [] [.tmp 4] (X.ret, s)) :
  ∀ (m : Nat) (x4 : Int), (iter (exec prog (EV k) f62n k f62b0) m ⟨[(0, (spart (a0))), (1, (V.fn a1_fid [(epart a1_d0)] [])), (7, (I (a0.length : Int))), (8, (I x4))], [], 19⟩).bind Kst = (slices_IndexFunc_part_v10s72_L1 k a0 a1 K0 m x4).map slices_IndexFunc_part_v10s72_fin := by
 intro m
 induction m with
 | zero => intros; rfl
 | succ m ih =>
  intro x4
  unfold slices_IndexFunc_part_v10s72_L1
  refine et k_round <| kra [(9, (Bo (decide (x4 < (a0.length : Int)))))] rfl <| kc rfl rfl (fun hc => ?_) fun hc => ?_
  ·rw [hc]
   refine et k_skip <| et (k_block rfl) <| kr ⟨[(0, (spart (a0))), (1, (V.fn a1_fid [(epart a1_d0)] [])), (5, (I x4)), (7, (I (a0.length : Int))), (8, (I x4))], [], 19⟩ rfl <| kga f62a4 rfl (fun (o7 : Bool) => [(16, (Bo o7))]) (rd 3 [(11, (V.fn a1_fid [(epart a1_d0)] [])), (12, (spart (a0))), (13, (I x4))] rfl rfl <| rp rfl (p_index (e := epart) rfl rfl rfl underlying68 rfl (by decide)) fun v5 => bd 5 [(14, (Pr (epart v5))), (15, (epart v5))] rfl rfl <| rs rfl (p_call rfl rfl rfl rfl rfl (a1_hok k v5) (.inl rfl)) fun v6 => bind_end rfl) fun o7 => kcl rfl rfl (fun hc => ?_) fun hc => ?_
   ·rw [hc]
    refine kr ⟨[(4, (I x4))], [], 19⟩ rfl <| et k_lret <| et blk_ret <| et loop_ret <| et (hret _) ?_
    rfl
   ·rw [hc]
    exact et k_lskip <| et blk_normal <| kl ⟨[(0, (spart (a0))), (1, (V.fn a1_fid [(epart a1_d0)] [])), (7, (I (a0.length : Int))), (8, (I (Go.IntKind.wrap .i64 (x4 + 1))))], [], 19⟩ rfl <| et loop_normal <| ih (Go.IntKind.wrap .i64 (x4 + 1))
  ·rw [hc]
   exact et k_exit <| et loop_exit <| hK0 x4
theorem slices_IndexFunc_part_v10s72_ok (k : Nat) (a0 : (List T_screen_part)) (a1 : Nat → T_screen_part → Option Bool) (a1_fid : Go.FuncId) (a1_d0 : T_screen_part) (a1_hok : ∀ j x0, EV j a1_fid [(epart a1_d0), (epart x0)] = (a1 j x0).map fun b => ((Bo b), [])) : EV k 62 [(spart (a0)), (V.fn a1_fid [(epart a1_d0)] [])] = (slices_IndexFunc_part_v10s72 k a0 a1).map slices_IndexFunc_part_v10s72_fin := by
 cases k with
 | zero => rfl
 | succ k =>
  unfold slices_IndexFunc_part_v10s72
  refine et (evF_succ (c := f62c) (N := 19) (regs := f62n) rfl func62 rfl (by decide) rfl rfl rfl) <| kra [] rfl <| et k_assoc <| krp f62a1 rfl ⟨[(0, (spart (a0))), (1, (V.fn a1_fid [(epart a1_d0)] [])), (7, (I (a0.length : Int))), (8, (I 0))], [], 19⟩ ?_ ?_
  ·exact rd 1 [(6, (spart (a0)))] rfl rfl <| rl rfl (p_len (e := epart) rfl rfl rfl rfl rfl rfl underlying68) <| bind_end rfl
  refine et (k_block rfl) <| et k_loop ?_
  refine slices_IndexFunc_part_v10s72_L1_ok k a0 a1 a1_fid a1_d0 a1_hok _ _ ?h_slices_IndexFunc_part_v10s72_L1_0 ?hr_slices_IndexFunc_part_v10s72_L1 k 0
  ·intro y8
   refine et blk_exit <| kr ⟨[(4, (I (-1)))], [], 19⟩ rfl <| et k_lret ?_
   rfl
  ·intro s; exact rfl
def slices_ContainsFunc_part_v10s72_fin : Bool → V × List V := fun r => ((Bo r), [])
theorem slices_ContainsFunc_part_v10s72_ok (k : Nat) (a0 : (List T_screen_part)) (a1 : Nat → T_screen_part → Option Bool) (a1_fid : Go.FuncId) (a1_d0 : T_screen_part) (a1_hok : ∀ j x0, EV j a1_fid [(epart a1_d0), (epart x0)] = (a1 j x0).map fun b => ((Bo b), [])) : EV k 37 [(spart (a0)), (V.fn a1_fid [(epart a1_d0)] [])] = (slices_ContainsFunc_part_v10s72 k a0 a1).map slices_ContainsFunc_part_v10s72_fin := by
 cases k with
 | zero => rfl
 | succ k =>
  unfold slices_ContainsFunc_part_v10s72
  refine et (evF_succ (c := f37c) (N := 9) (regs := f37n) rfl func37 rfl (by decide) rfl rfl rfl) <| kra [] rfl <| kg f37a1 rfl (fun (o2 : Bool) => ⟨[(4, (Bo o2))], [], 9⟩) (rd 2 [(5, (spart (a0))), (6, (V.fn a1_fid [(epart a1_d0)] []))] rfl rfl <| rp rfl (p_call rfl rfl rfl rfl rfl (slices_IndexFunc_part_v10s72_ok k a0 a1 a1_fid a1_d0 a1_hok) (.inl rfl)) fun v1 => bind_end rfl) fun o2 => et k_lret ?_
  rfl
def screen_part_meets_fin : Bool → V × List V := fun r => ((Bo r), [])
theorem screen_part_meets_ok (k : Nat) (a0 : T_screen_part) (a1 : T_screen_part) : EV k 38 [(epart a0), (epart a1)] = (screen_part_meets k a0 a1).map screen_part_meets_fin := by
 cases k with
 | zero => rfl
 | succ k =>
  unfold screen_part_meets
  refine et (evF_succ (c := f38c) (N := 30) (regs := f38n) rfl func38 rfl (by decide) rfl rfl rfl) <| kr ⟨[(2, (Pt 2)), (3, (Pt 3))], [(2, vS 3 (epart a0)), (3, vS 3 (epart a1))], 30⟩ rfl <| kg f38a1 rfl (fun (o1 : Bool) => ⟨[(4, (Bo o1))], [], 30⟩) ?_ fun o1 => ?_
  ·refine rd 6 [(5, (Pt 2)), (6, (I a0.frow)), (7, (Pt 3)), (8, (I a1.frow)), (9, (Bo (a0.frow == a1.frow))), (10, (Bo (a0.frow == a1.frow)))] rfl rfl <| bifE (fun hc => ?_) fun hc => ?_
   ·rw [hc]
    refine rd 16 [(11, (V.ptr 2 0 1)), (12, (I a0.fcolumn)), (13, (V.ptr 3 0 1)), (14, (I a1.fcolumn)), (15, (V.ptr 3 0 2)), (16, (I a1.fn)), (17, (I (Go.IntKind.wrap .i64 (a1.fcolumn + a1.fn)))), (18, (Bo (decide (a0.fcolumn < (Go.IntKind.wrap .i64 (a1.fcolumn + a1.fn)))))), (19, (Bo (decide (a0.fcolumn < (Go.IntKind.wrap .i64 (a1.fcolumn + a1.fn)))))), (20, (Bo (decide (a0.fcolumn < (Go.IntKind.wrap .i64 (a1.fcolumn + a1.fn))))))] rfl rfl <| bifE (fun hc => ?_) fun hc => ?_
    ·rw [hc]
     exact reg_end rfl
    ·rw [hc]
     exact reg_end rfl
   ·rw [hc]
    exact reg_end rfl
  refine et k_lret ?_
  rfl
def screen_Valid_fin : Bool → V × List V := fun r => ((Bo r), [])
theorem screen_Valid_L1_ok (k : Nat) (a0 : T_api_Form)  (K0 : (List T_screen_part) → Int → Option Bool) (Kst : X × St → Option (V × List V)) (hK0 : ∀ (y0 : (List T_screen_part)) (y1 : Int), Kst (X.exit 0, ⟨[(1, (Pt 1)), (3, (V.sl 1 3 (List.map epart y0))), (41, (sMark a0.fMarks)), (42, (I (a0.fMarks.length : Int))), (43, (I y1)), (44, (Bo false))], [(1, vS 4 (eForm a0))], 122⟩) = (K0 y0 y1).map screen_Valid_fin) (hret : ∀ s, Kst (X.ret, s) = endK prog 122 [(eForm a0)] [] [.tmp 2] (X.ret, s)) :
  ∀ (m : Nat) (x10 : (List T_screen_part)) (x11 : Int), (iter (exec prog (EV k) f14n k f14b0) m ⟨[(1, (Pt 1)), (3, (V.sl 1 3 (List.map epart x10))), (41, (sMark a0.fMarks)), (42, (I (a0.fMarks.length : Int))), (43, (I x11))], [(1, vS 4 (eForm a0))], 122⟩).bind Kst = (screen_Valid_L1 k a0 K0 m x10 x11).map screen_Valid_fin := by
 intro m
 induction m with
 | zero => intros; rfl
 | succ m ih =>
  intro x10 x11
  unfold screen_Valid_L1
  refine et k_round <| kra [(44, (Bo (decide (x11 < (a0.fMarks.length : Int)))))] rfl <| kc rfl rfl (fun hc => ?_) fun hc => ?_
  ·rw [hc]
   refine et k_skip <| et (k_block rfl) <| kg f14a6 rfl (fun (o13 : T_api_Mark) => ⟨[(1, (Pt 1)), (3, (V.sl 1 3 (List.map epart x10))), (5, (Pt 5)), (41, (sMark a0.fMarks)), (42, (I (a0.fMarks.length : Int))), (43, (I x11))], [(1, vS 4 (eForm a0)), (5, vS 3 (eMark o13))], 122⟩) (rs rfl (p_index (e := eMark) rfl rfl rfl underlying22 rfl (by decide)) fun v12 => bind_end rfl) fun o13 => et k_assoc <| kga f14a7 rfl (fun (o16 : Bool) => [(68, (Bo o16))]) ?_ fun o16 => ?_
   ·refine rd 5 [(47, (V.ptr 5 0 2)), (48, (Sr o13.fText)), (49, (I (o13.fText.length : Int))), (50, (Bo (decide ((o13.fText.length : Int) > 40)))), (51, (Bo (decide ((o13.fText.length : Int) > 40))))] rfl rfl <| bifE (fun hc => ?_) fun hc => ?_
    ·rw [hc]
     exact reg_end rfl
    ·rw [hc]
     refine rd 7 [(52, (V.ptr 5 0 2)), (53, (Sr o13.fText))] rfl rfl <| rp rfl (p_call rfl rfl rfl rfl rfl (screen_isText_ok k o13.fText) (.inl rfl)) fun v14 => bd 11 [(54, (Bo v14)), (55, (Bo (!v14))), (56, (Bo (!v14))), (57, (Bo (!v14)))] rfl rfl <| bifE (fun hc => ?_) fun hc => ?_
     ·rw [hc]
      exact reg_end rfl
     ·rw [hc]
      exact rd 19 [(58, (eForm a0)), (59, (Pt 5)), (60, (I o13.fRow)), (61, (V.ptr 5 0 1)), (62, (I o13.fColumn)), (63, (V.ptr 5 0 2)), (64, (Sr o13.fText)), (65, (I (o13.fText.length : Int)))] rfl rfl <| rp rfl (p_call rfl rfl rfl rfl rfl (screen_lies_ok k a0 o13.fRow o13.fColumn (o13.fText.length : Int)) (.inl rfl)) fun v15 => bind_end rfl
   refine kc rfl rfl (fun hc => ?_) fun hc => ?_
   ·rw [hc]
    refine et k_assoc <| kr ⟨[(2, (Bo false))], [], 122⟩ rfl <| et k_ret <| et blk_ret <| et loop_ret <| et (hret _) ?_
    rfl
   ·rw [hc]
    exact et k_skip <| kgl f14a9 rfl (fun (o18 : (List T_screen_part)) => ⟨[(1, (Pt 1)), (3, (V.sl 1 3 (List.map epart o18))), (41, (sMark a0.fMarks)), (42, (I (a0.fMarks.length : Int))), (43, (I x11))], [(1, vS 4 (eForm a0))], 122⟩) (ra 10 10 ⟨[(1, (Pt 1)), (3, (spart (x10))), (5, (Pt 5)), (41, (sMark a0.fMarks)), (42, (I (a0.fMarks.length : Int))), (43, (I x11)), (68, (Bo false)), (69, (V.sl 1 3 (List.map epart x10))), (70, (Pt 5)), (71, (I o13.fRow)), (72, (V.ptr 5 0 1)), (73, (I o13.fColumn)), (74, (V.ptr 5 0 2)), (75, (Sr o13.fText)), (76, (I (o13.fText.length : Int))), (77, (epart ({ frow := o13.fRow, fcolumn := o13.fColumn, fn := (o13.fText.length : Int) } : T_screen_part))), (78, (spart (([({ frow := o13.fRow, fcolumn := o13.fColumn, fn := (o13.fText.length : Int) } : T_screen_part)] : List T_screen_part))))], [(1, vS 4 (eForm a0)), (5, vS 3 (eMark o13))], 122⟩ rfl rfl rfl <| et (reg_eff (x := (app x10 ([({ frow := o13.fRow, fcolumn := o13.fColumn, fn := (o13.fText.length : Int) } : T_screen_part)] : List T_screen_part))) (w := fun v17 => ((V.sl 1 3 (List.map epart v17)), _)) rfl rfl rfl rfl (p_app (e := epart) rfl rfl rfl rfl rfl rfl rfl rfl rfl rfl (by decide))) <| bind_self fun v17 => bind_end rfl) fun o18 => et blk_normal <| kl ⟨[(1, (Pt 1)), (3, (V.sl 1 3 (List.map epart o18))), (41, (sMark a0.fMarks)), (42, (I (a0.fMarks.length : Int))), (43, (I (Go.IntKind.wrap .i64 (x11 + 1))))], [(1, vS 4 (eForm a0))], 122⟩ rfl <| et loop_normal <| ih o18 (Go.IntKind.wrap .i64 (x11 + 1))
  ·rw [hc]
   exact et k_exit <| et loop_exit <| hK0 x10 x11
theorem screen_Valid_L2_ok (k : Nat) (a0 : T_api_Form)  (K0 : (List T_screen_part) → Int → Option Bool) (Kst : X × St → Option (V × List V)) (hK0 : ∀ (y0 : (List T_screen_part)) (y1 : Int), Kst (X.exit 2, ⟨[(1, (Pt 1)), (3, (V.sl 1 3 (List.map epart y0))), (82, (sSlot a0.fFields)), (83, (I (a0.fFields.length : Int))), (84, (I y1)), (85, (Bo false))], [(1, vS 4 (eForm a0))], 122⟩) = (K0 y0 y1).map screen_Valid_fin) (hret : ∀ s, Kst (X.ret, s) = endK prog 122 [(eForm a0)] [] [.tmp 2] (X.ret, s)) :
  ∀ (m : Nat) (x27 : (List T_screen_part)) (x28 : Int), (iter (exec prog (EV k) f14n k f14b1) m ⟨[(1, (Pt 1)), (3, (V.sl 1 3 (List.map epart x27))), (82, (sSlot a0.fFields)), (83, (I (a0.fFields.length : Int))), (84, (I x28))], [(1, vS 4 (eForm a0))], 122⟩).bind Kst = (screen_Valid_L2 k a0 K0 m x27 x28).map screen_Valid_fin := by
 intro m
 induction m with
 | zero => intros; rfl
 | succ m ih =>
  intro x27 x28
  unfold screen_Valid_L2
  refine et k_round <| kra [(85, (Bo (decide (x28 < (a0.fFields.length : Int)))))] rfl <| kc rfl rfl (fun hc => ?_) fun hc => ?_
  ·rw [hc]
   refine et k_skip <| et (k_block rfl) <| kg f14a13 rfl (fun (o30 : T_api_Slot) => ⟨[(1, (Pt 1)), (3, (V.sl 1 3 (List.map epart x27))), (7, (Pt 7)), (82, (sSlot a0.fFields)), (83, (I (a0.fFields.length : Int))), (84, (I x28))], [(1, vS 4 (eForm a0)), (7, vS 7 (eSlot o30))], 122⟩) (rs rfl (p_index (e := eSlot) rfl rfl rfl underlying23 rfl (by decide)) fun v29 => bind_end rfl) fun o30 => et k_assoc <| kga f14a14 rfl (fun (o32 : Bool) => [(96, (Bo o32))]) (rd 7 [(88, (eForm a0)), (89, (V.ptr 7 0 1)), (90, (I o30.fRow)), (91, (V.ptr 7 0 2)), (92, (I o30.fColumn)), (93, (V.ptr 7 0 3)), (94, (I o30.fBytes))] rfl rfl <| rp rfl (p_call rfl rfl rfl rfl rfl (screen_lies_ok k a0 o30.fRow o30.fColumn o30.fBytes) (.inl rfl)) fun v31 => bind_end rfl) fun o32 => kc rfl rfl (fun hc => ?_) fun hc => ?_
   ·rw [hc]
    refine et k_assoc <| kr ⟨[(2, (Bo false))], [], 122⟩ rfl <| et k_ret <| et blk_ret <| et loop_ret <| et (hret _) ?_
    rfl
   ·rw [hc]
    exact et k_skip <| kgl f14a16 rfl (fun (o34 : (List T_screen_part)) => ⟨[(1, (Pt 1)), (3, (V.sl 1 3 (List.map epart o34))), (82, (sSlot a0.fFields)), (83, (I (a0.fFields.length : Int))), (84, (I x28))], [(1, vS 4 (eForm a0))], 122⟩) (ra 9 9 ⟨[(1, (Pt 1)), (3, (spart (x27))), (7, (Pt 7)), (82, (sSlot a0.fFields)), (83, (I (a0.fFields.length : Int))), (84, (I x28)), (96, (Bo false)), (97, (V.sl 1 3 (List.map epart x27))), (98, (V.ptr 7 0 1)), (99, (I o30.fRow)), (100, (V.ptr 7 0 2)), (101, (I o30.fColumn)), (102, (V.ptr 7 0 3)), (103, (I o30.fBytes)), (104, (epart ({ frow := o30.fRow, fcolumn := o30.fColumn, fn := o30.fBytes } : T_screen_part))), (105, (spart (([({ frow := o30.fRow, fcolumn := o30.fColumn, fn := o30.fBytes } : T_screen_part)] : List T_screen_part))))], [(1, vS 4 (eForm a0)), (7, vS 7 (eSlot o30))], 122⟩ rfl rfl rfl <| et (reg_eff (x := (app x27 ([({ frow := o30.fRow, fcolumn := o30.fColumn, fn := o30.fBytes } : T_screen_part)] : List T_screen_part))) (w := fun v33 => ((V.sl 1 3 (List.map epart v33)), _)) rfl rfl rfl rfl (p_app (e := epart) rfl rfl rfl rfl rfl rfl rfl rfl rfl rfl (by decide))) <| bind_self fun v33 => bind_end rfl) fun o34 => et blk_normal <| kl ⟨[(1, (Pt 1)), (3, (V.sl 1 3 (List.map epart o34))), (82, (sSlot a0.fFields)), (83, (I (a0.fFields.length : Int))), (84, (I (Go.IntKind.wrap .i64 (x28 + 1))))], [(1, vS 4 (eForm a0))], 122⟩ rfl <| et loop_normal <| ih o34 (Go.IntKind.wrap .i64 (x28 + 1))
  ·rw [hc]
   exact et k_exit <| et loop_exit <| hK0 x27 x28
theorem screen_Valid_L3_ok (k : Nat) (a0 : T_api_Form) (y35 : (List T_screen_part))  (K0 : Int → Option Bool) (Kst : X × St → Option (V × List V)) (hK0 : ∀ (y0 : Int), Kst (X.exit 4, ⟨[(3, (V.sl 1 3 (List.map epart y35))), (108, (spart (y35))), (109, (I (y35.length : Int))), (110, (I y0)), (111, (Bo false))], [], 122⟩) = (K0 y0).map screen_Valid_fin) (hret : ∀ s, Kst (X.ret, s) = endK prog 122 [(eForm a0)] [] [.tmp 2] (X.ret, s)) :
  ∀ (m : Nat) (x42 : Int), (iter (exec prog (EV k) f14n k f14b2) m ⟨[(3, (V.sl 1 3 (List.map epart y35))), (108, (spart (y35))), (109, (I (y35.length : Int))), (110, (I x42))], [], 122⟩).bind Kst = (screen_Valid_L3 k y35 K0 m x42).map screen_Valid_fin := by
 intro m
 induction m with
 | zero => intros; rfl
 | succ m ih =>
  intro x42
  unfold screen_Valid_L3
  refine et k_round <| kra [(111, (Bo (decide (x42 < (y35.length : Int)))))] rfl <| kc rfl rfl (fun hc => ?_) fun hc => ?_
  ·rw [hc]
   refine et k_skip <| et (k_block rfl) <| kg f14a20 rfl (fun (o44 : Int × T_screen_part) => ⟨[(3, (V.sl 1 3 (List.map epart y35))), (8, (I o44.1)), (9, (Pt 9)), (108, (spart (y35))), (109, (I (y35.length : Int))), (110, (I x42))], [(9, vS 3 (epart o44.2))], 122⟩) (rd 1 [(112, (I x42))] rfl rfl <| rp rfl (p_index (e := epart) rfl rfl rfl underlying68 rfl (by decide)) fun v43 => bind_end rfl) fun o44 => kd f14a21 rfl (fun (o47 : Bool) => ⟨[(3, (V.sl 1 3 (List.map epart y35))), (108, (spart (y35))), (109, (I (y35.length : Int))), (110, (I x42)), (120, (Bo o47))], [], 122⟩) (et (regionE_regp (p := 6) (dk := true) (t := [(3, (V.sl 1 3 (List.map epart y35))), (8, (I o44.1)), (9, (Pt 9)), (108, (spart (y35))), (109, (I (y35.length : Int))), (110, (I x42))]) (σ := [(9, vS 3 (epart o44.2))]) (n := 122) rfl (by decide) (by decide) rfl) <| et (regp_adv (m := 2) (j := 2) (t' := [(3, (V.sl 1 3 (List.map epart y35))), (8, (I o44.1)), (9, (Pt 9)), (108, (spart (y35))), (109, (I (y35.length : Int))), (110, (I x42)), (115, (spart (y35))), (116, (I o44.1))]) rfl rfl rfl) <| et (regp_pure (x := (cut y35 0 o44.1)) (w := fun v45 => (spart (v45))) rfl rfl rfl rfl rfl (p_slice (e := epart) rfl rfl rfl rfl rfl rfl underlying68 rfl (by decide))) <| bindE fun v45 => et (putp_adv (m := 2) (j := 5) (t' := [(3, (V.sl 1 3 (List.map epart y35))), (8, (I o44.1)), (9, (Pt 9)), (108, (spart (y35))), (109, (I (y35.length : Int))), (110, (I x42)), (115, (spart (y35))), (116, (I o44.1)), (117, (spart (v45))), (118, (epart o44.2)), (119, (V.fn 38 [(epart o44.2)] []))]) rfl rfl rfl) <| et (regp_pure (x := (slices_ContainsFunc_part_v10s72 k v45 (fun j x0 => (screen_part_meets j o44.2 x0)))) (w := fun v46 => (Bo v46)) rfl rfl rfl rfl rfl (p_call rfl rfl rfl rfl rfl (slices_ContainsFunc_part_v10s72_ok k v45 (fun j x0 => (screen_part_meets j o44.2 x0)) 38 o44.2 (fun j x0 => (screen_part_meets_ok j o44.2 x0))) (.inl rfl))) <| bind_self fun v46 => regp_end rfl) fun o47 => kcl rfl rfl (fun hc => ?_) fun hc => ?_
   ·rw [hc]
    refine kr ⟨[(2, (Bo false))], [], 122⟩ rfl <| et k_lret <| et blk_ret <| et loop_ret <| et (hret _) ?_
    rfl
   ·rw [hc]
    exact et k_lskip <| et blk_normal <| kl ⟨[(3, (V.sl 1 3 (List.map epart y35))), (108, (spart (y35))), (109, (I (y35.length : Int))), (110, (I (Go.IntKind.wrap .i64 (x42 + 1))))], [], 122⟩ rfl <| et loop_normal <| ih (Go.IntKind.wrap .i64 (x42 + 1))
  ·rw [hc]
   exact et k_exit <| et loop_exit <| hK0 x42
theorem screen_Valid_ok (k : Nat) (a0 : T_api_Form) : EV k 14 [(eForm a0)] = (screen_Valid k a0).map screen_Valid_fin := by
 cases k with
 | zero => rfl
 | succ k =>
  unfold screen_Valid
  refine et (evF_succ (c := f14c) (N := 122) (regs := f14n) rfl func14 rfl (by decide) rfl rfl rfl) <| kr ⟨[(1, (Pt 1))], [(1, vS 4 (eForm a0))], 122⟩ rfl <| et k_assoc <| kga f14a1 rfl (fun (o2 : Bool) => [(39, (Bo o2))]) ?_ fun o2 => ?_
  ·refine rd 4 [(10, (Pt 1)), (11, (I a0.fRows)), (12, (Bo (decide (a0.fRows < 1)))), (13, (Bo (decide (a0.fRows < 1))))] rfl rfl <| bifE (fun hc => ?_) fun hc => ?_
   ·rw [hc]
    exact reg_end rfl
   ·rw [hc]
    refine rd 9 [(14, (Pt 1)), (15, (I a0.fRows)), (16, (Bo (decide (a0.fRows > 12)))), (17, (Bo (decide (a0.fRows > 12)))), (18, (Bo (decide (a0.fRows > 12))))] rfl rfl <| bifE (fun hc => ?_) fun hc => ?_
    ·rw [hc]
     exact reg_end rfl
    ·rw [hc]
     refine rd 14 [(19, (V.ptr 1 0 1)), (20, (I a0.fColumns)), (21, (Bo (decide (a0.fColumns < 10)))), (22, (Bo (decide (a0.fColumns < 10)))), (23, (Bo (decide (a0.fColumns < 10))))] rfl rfl <| bifE (fun hc => ?_) fun hc => ?_
     ·rw [hc]
      exact reg_end rfl
     ·rw [hc]
      refine rd 19 [(24, (V.ptr 1 0 1)), (25, (I a0.fColumns)), (26, (Bo (decide (a0.fColumns > 40)))), (27, (Bo (decide (a0.fColumns > 40)))), (28, (Bo (decide (a0.fColumns > 40))))] rfl rfl <| bifE (fun hc => ?_) fun hc => ?_
      ·rw [hc]
       exact reg_end rfl
      ·rw [hc]
       refine rd 21 [(29, (V.ptr 1 0 2)), (30, (sMark a0.fMarks))] rfl rfl <| rl rfl (p_len (e := eMark) rfl rfl rfl rfl rfl rfl underlying22) <| bd 25 [(31, (I (a0.fMarks.length : Int))), (32, (Bo (decide ((a0.fMarks.length : Int) > 8)))), (33, (Bo (decide ((a0.fMarks.length : Int) > 8)))), (34, (Bo (decide ((a0.fMarks.length : Int) > 8))))] rfl rfl <| bifE (fun hc => ?_) fun hc => ?_
       ·rw [hc]
        exact reg_end rfl
       ·rw [hc]
        exact rd 27 [(35, (V.ptr 1 0 3)), (36, (sSlot a0.fFields))] rfl rfl <| rp rfl (p_call rfl rfl rfl rfl rfl (screen_areSlots_ok k a0.fFields) (.inl rfl)) fun v1 => bind_end rfl
  refine kc rfl rfl (fun hc => ?_) fun hc => ?_
  ·rw [hc]
   refine et k_assoc <| kr ⟨[(2, (Bo false))], [], 122⟩ rfl <| et k_ret ?_
   rfl
  ·rw [hc]
   refine et k_skip <| kr ⟨[(1, (Pt 1)), (3, (V.sl 1 3 (List.map epart ([] : List T_screen_part))))], [(1, vS 4 (eForm a0))], 122⟩ rfl <| et k_assoc <| krp f14a4 rfl ⟨[(1, (Pt 1)), (3, (V.sl 1 3 (List.map epart ([] : List T_screen_part)))), (41, (sMark a0.fMarks)), (42, (I (a0.fMarks.length : Int))), (43, (I 0))], [(1, vS 4 (eForm a0))], 122⟩ ?_ ?_
   ·exact rd 2 [(40, (V.ptr 1 0 2)), (41, (sMark a0.fMarks))] rfl rfl <| rl rfl (p_len (e := eMark) rfl rfl rfl rfl rfl rfl underlying22) <| bind_end rfl
   refine et (k_block rfl) <| et k_loop ?_
   refine screen_Valid_L1_ok k a0 _ _ ?h_screen_Valid_L1_0 ?hr_screen_Valid_L1 k ([] : List T_screen_part) 0
   ·intro y19 y20
    refine et blk_exit <| et k_assoc <| krp f14a11 rfl ⟨[(1, (Pt 1)), (3, (V.sl 1 3 (List.map epart y19))), (82, (sSlot a0.fFields)), (83, (I (a0.fFields.length : Int))), (84, (I 0))], [(1, vS 4 (eForm a0))], 122⟩ ?_ ?_
    ·exact rd 2 [(81, (V.ptr 1 0 3)), (82, (sSlot a0.fFields))] rfl rfl <| rl rfl (p_len (e := eSlot) rfl rfl rfl rfl rfl rfl underlying23) <| bind_end rfl
    refine et (k_block rfl) <| et k_loop ?_
    refine screen_Valid_L2_ok k a0 _ _ ?h_screen_Valid_L2_0 ?hr_screen_Valid_L2 k y19 0
    ·intro y35 y36
     refine et blk_exit <| et k_assoc <| krp f14a18 rfl ⟨[(3, (V.sl 1 3 (List.map epart y35))), (108, (spart (y35))), (109, (I (y35.length : Int))), (110, (I 0))], [], 122⟩ ?_ ?_
     ·exact rd 1 [(108, (spart (y35)))] rfl rfl <| rl rfl (p_len (e := epart) rfl rfl rfl rfl rfl rfl underlying68) <| bind_end rfl
     refine et (k_block rfl) <| et k_loop ?_
     refine screen_Valid_L3_ok k a0 y35 _ _ ?h_screen_Valid_L3_0 ?hr_screen_Valid_L3 k 0
     ·intro y48
      refine et blk_exit <| kr ⟨[(2, (Bo true))], [], 122⟩ rfl <| et k_lret ?_
      rfl
     ·intro s; exact rfl
    ·intro s; exact rfl
   ·intro s; exact rfl
def screen_lengths_fin : (Int × Int) → V × List V := fun r => (.tup [(I r.1), (I r.2)], [])
theorem screen_lengths_L1_ok (k : Nat) (a0 : T_api_Form)  (K0 : Int → Int → Int → Option (Int × Int)) (Kst : X × St → Option (V × List V)) (hK0 : ∀ (y0 : Int) (y1 : Int) (y2 : Int), Kst (X.exit 0, ⟨[(2, (I y0)), (3, (I y1)), (7, (sSlot a0.fFields)), (8, (I (a0.fFields.length : Int))), (9, (I y2)), (10, (Bo false))], [], 26⟩) = (K0 y0 y1 y2).map screen_lengths_fin) (hret : ∀ s, Kst (X.ret, s) = endK prog 26 [(eForm a0)] [] [.tmp 2, .tmp 3] (X.ret, s)) :
  ∀ (m : Nat) (x3 : Int) (x4 : Int) (x5 : Int), (iter (exec prog (EV k) f33n k f33b0) m ⟨[(2, (I x3)), (3, (I x4)), (7, (sSlot a0.fFields)), (8, (I (a0.fFields.length : Int))), (9, (I x5))], [], 26⟩).bind Kst = (screen_lengths_L1 a0 K0 m x3 x4 x5).map screen_lengths_fin := by
 intro m
 induction m with
 | zero => intros; rfl
 | succ m ih =>
  intro x3 x4 x5
  unfold screen_lengths_L1
  refine et k_round <| kra [(10, (Bo (decide (x5 < (a0.fFields.length : Int)))))] rfl <| kc rfl rfl (fun hc => ?_) fun hc => ?_
  ·rw [hc]
   refine et k_skip <| et (k_block rfl) <| kg f33a3 rfl (fun (o7 : T_api_Slot) => ⟨[(2, (I x3)), (3, (I x4)), (5, (Pt 5)), (7, (sSlot a0.fFields)), (8, (I (a0.fFields.length : Int))), (9, (I x5))], [(5, vS 7 (eSlot o7))], 26⟩) (rs rfl (p_index (e := eSlot) rfl rfl rfl underlying23 rfl (by decide)) fun v6 => bind_end rfl) fun o7 => kdl0 f33a4 rfl ⟨[(2, (I (if (Go.IntKind.wrap .i64 (o7.fIn + 1)) > x3 then (Go.IntKind.wrap .i64 (o7.fIn + 1)) else x3))), (3, (I (if (Go.IntKind.wrap .i64 (o7.fOut + 1)) > x4 then (Go.IntKind.wrap .i64 (o7.fOut + 1)) else x4))), (7, (sSlot a0.fFields)), (8, (I (a0.fFields.length : Int))), (9, (I x5))], [], 26⟩ ?_ ?_
   ·exact et (regionE_regp (p := 10) (dk := false) (t := [(2, (I x3)), (3, (I x4)), (5, (Pt 5)), (7, (sSlot a0.fFields)), (8, (I (a0.fFields.length : Int))), (9, (I x5))]) (σ := [(5, vS 7 (eSlot o7))]) (n := 26) rfl (by decide) (by decide) rfl) <| regp_end rfl
   exact et blk_normal <| kl ⟨[(2, (I (if (Go.IntKind.wrap .i64 (o7.fIn + 1)) > x3 then (Go.IntKind.wrap .i64 (o7.fIn + 1)) else x3))), (3, (I (if (Go.IntKind.wrap .i64 (o7.fOut + 1)) > x4 then (Go.IntKind.wrap .i64 (o7.fOut + 1)) else x4))), (7, (sSlot a0.fFields)), (8, (I (a0.fFields.length : Int))), (9, (I (Go.IntKind.wrap .i64 (x5 + 1))))], [], 26⟩ rfl <| et loop_normal <| ih (if (Go.IntKind.wrap .i64 (o7.fIn + 1)) > x3 then (Go.IntKind.wrap .i64 (o7.fIn + 1)) else x3) (if (Go.IntKind.wrap .i64 (o7.fOut + 1)) > x4 then (Go.IntKind.wrap .i64 (o7.fOut + 1)) else x4) (Go.IntKind.wrap .i64 (x5 + 1))
  ·rw [hc]
   exact et k_exit <| et loop_exit <| hK0 x3 x4 x5
theorem screen_lengths_ok (k : Nat) (a0 : T_api_Form) : EV k 33 [(eForm a0)] = (screen_lengths k a0).map screen_lengths_fin := by
 cases k with
 | zero => rfl
 | succ k =>
  unfold screen_lengths
  refine et (evF_succ (c := f33c) (N := 26) (regs := f33n) rfl func33 rfl (by decide) rfl rfl rfl) <| kr ⟨[(1, (Pt 1)), (2, (I 0)), (3, (I 0))], [(1, vS 4 (eForm a0))], 26⟩ rfl <| et k_assoc <| krp f33a1 rfl ⟨[(2, (I 0)), (3, (I 0)), (7, (sSlot a0.fFields)), (8, (I (a0.fFields.length : Int))), (9, (I 0))], [], 26⟩ ?_ ?_
  ·exact rd 2 [(6, (V.ptr 1 0 3)), (7, (sSlot a0.fFields))] rfl rfl <| rl rfl (p_len (e := eSlot) rfl rfl rfl rfl rfl rfl underlying23) <| bind_end rfl
  refine et (k_block rfl) <| et k_loop ?_
  refine screen_lengths_L1_ok k a0 _ _ ?h_screen_lengths_L1_0 ?hr_screen_lengths_L1 k 0 0 0
  ·intro y8 y9 y10
   refine et blk_exit <| kr ⟨[(2, (I y8)), (3, (I y9))], [], 26⟩ rfl <| et k_lret ?_
   rfl
  ·intro s; exact rfl
def slices_IndexFunc_string_v10_fin : Int → V × List V := fun r => ((I r), [])
theorem slices_IndexFunc_string_v10_L1_ok (k : Nat) (a0 : (List Str)) (a1 : Nat → Str → Option Bool) (a1_fid : Go.FuncId)  (a1_hok : ∀ j x0, EV j a1_fid [(Sr x0)] = (a1 j x0).map fun b => ((Bo b), [])) (K0 : Int → Option Int) (Kst : X × St → Option (V × List V)) (hK0 : ∀ (y0 : Int), Kst (X.exit 0, ⟨[(0, (sS a0)), (1, (V.fn a1_fid [] [])), (7, (I (a0.length : Int))), (8, (I y0)), (9, (Bo false))], [], 19⟩) = (K0 y0).map slices_IndexFunc_string_v10_fin) (hret : ∀ s, Kst (X.ret, s) = endK prog 19 [(sS a0), (V.fn a1_fid [] [])] [] [.tmp 4] (X.ret, s)) :
  ∀ (m : Nat) (x4 : Int), (iter (exec prog (EV k) f73v10n k f73v10b0) m ⟨[(0, (sS a0)), (1, (V.fn a1_fid [] [])), (7, (I (a0.length : Int))), (8, (I x4))], [], 19⟩).bind Kst = (slices_IndexFunc_string_v10_L1 k a0 a1 K0 m x4).map slices_IndexFunc_string_v10_fin := by
 intro m
 induction m with
 | zero => intros; rfl
 | succ m ih =>
  intro x4
  unfold slices_IndexFunc_string_v10_L1
  refine et k_round <| kra [(9, (Bo (decide (x4 < (a0.length : Int)))))] rfl <| kc rfl rfl (fun hc => ?_) fun hc => ?_
  ·rw [hc]
   refine et k_skip <| et (k_block rfl) <| kr ⟨[(0, (sS a0)), (1, (V.fn a1_fid [] [])), (5, (I x4)), (7, (I (a0.length : Int))), (8, (I x4))], [], 19⟩ rfl <| kga f73v10a4 rfl (fun (o7 : Bool) => [(16, (Bo o7))]) (rd 3 [(11, (V.fn a1_fid [] [])), (12, (sS a0)), (13, (I x4))] rfl rfl <| rp rfl (p_index (e := V.str) rfl rfl rfl underlying39 rfl (by decide)) fun v5 => bd 5 [(14, (Pr (Sr v5))), (15, (Sr v5))] rfl rfl <| rs rfl (p_call rfl rfl rfl rfl rfl (a1_hok k v5) (.inl rfl)) fun v6 => bind_end rfl) fun o7 => kcl rfl rfl (fun hc => ?_) fun hc => ?_
   ·rw [hc]
    refine kr ⟨[(4, (I x4))], [], 19⟩ rfl <| et k_lret <| et blk_ret <| et loop_ret <| et (hret _) ?_
    rfl
   ·rw [hc]
    exact et k_lskip <| et blk_normal <| kl ⟨[(0, (sS a0)), (1, (V.fn a1_fid [] [])), (7, (I (a0.length : Int))), (8, (I (Go.IntKind.wrap .i64 (x4 + 1))))], [], 19⟩ rfl <| et loop_normal <| ih (Go.IntKind.wrap .i64 (x4 + 1))
  ·rw [hc]
   exact et k_exit <| et loop_exit <| hK0 x4
theorem slices_IndexFunc_string_v10_ok (k : Nat) (a0 : (List Str)) (a1 : Nat → Str → Option Bool) (a1_fid : Go.FuncId)  (a1_hok : ∀ j x0, EV j a1_fid [(Sr x0)] = (a1 j x0).map fun b => ((Bo b), [])) : EV k 73 [(sS a0), (V.fn a1_fid [] [])] = (slices_IndexFunc_string_v10 k a0 a1).map slices_IndexFunc_string_v10_fin := by
 cases k with
 | zero => rfl
 | succ k =>
  unfold slices_IndexFunc_string_v10
  refine et (evF_succ (c := f73v10c) (N := 19) (regs := f73v10n) rfl func73 rfl (by decide) rfl rfl rfl) <| kra [] rfl <| et k_assoc <| krp f73v10a1 rfl ⟨[(0, (sS a0)), (1, (V.fn a1_fid [] [])), (7, (I (a0.length : Int))), (8, (I 0))], [], 19⟩ ?_ ?_
  ·exact rd 1 [(6, (sS a0))] rfl rfl <| rl rfl (p_len (e := V.str) rfl rfl rfl rfl rfl rfl underlying39) <| bind_end rfl
  refine et (k_block rfl) <| et k_loop ?_
  refine slices_IndexFunc_string_v10_L1_ok k a0 a1 a1_fid a1_hok _ _ ?h_slices_IndexFunc_string_v10_L1_0 ?hr_slices_IndexFunc_string_v10_L1 k 0
  ·intro y8
   refine et blk_exit <| kr ⟨[(4, (I (-1)))], [], 19⟩ rfl <| et k_lret ?_
   rfl
  ·intro s; exact rfl
def slices_ContainsFunc_string_v10_fin : Bool → V × List V := fun r => ((Bo r), [])
theorem slices_ContainsFunc_string_v10_ok (k : Nat) (a0 : (List Str)) (a1 : Nat → Str → Option Bool) (a1_fid : Go.FuncId)  (a1_hok : ∀ j x0, EV j a1_fid [(Sr x0)] = (a1 j x0).map fun b => ((Bo b), [])) : EV k 50 [(sS a0), (V.fn a1_fid [] [])] = (slices_ContainsFunc_string_v10 k a0 a1).map slices_ContainsFunc_string_v10_fin := by
 cases k with
 | zero => rfl
 | succ k =>
  unfold slices_ContainsFunc_string_v10
  refine et (evF_succ (c := f50v10c) (N := 9) (regs := f50v10n) rfl func50 rfl (by decide) rfl rfl rfl) <| kra [] rfl <| kg f50v10a1 rfl (fun (o2 : Bool) => ⟨[(4, (Bo o2))], [], 9⟩) (rd 2 [(5, (sS a0)), (6, (V.fn a1_fid [] []))] rfl rfl <| rp rfl (p_call rfl rfl rfl rfl rfl (slices_IndexFunc_string_v10_ok k a0 a1 a1_fid a1_hok) (.inl rfl)) fun v1 => bind_end rfl) fun o2 => et k_lret ?_
  rfl
def screen_shows_1_fin : Bool → V × List V := fun r => ((Bo r), [])
theorem screen_shows_1_ok (k : Nat) (a0 : Str) : EV k 51 [(Sr a0)] = (screen_shows_1 k a0).map screen_shows_1_fin := by
 cases k with
 | zero => rfl
 | succ k =>
  unfold screen_shows_1
  refine et (evF_succ (c := f51c) (N := 11) (regs := f51n) rfl func51 rfl (by decide) rfl rfl rfl) <| kra [] rfl <| kg f51a1 rfl (fun (o2 : Bool) => ⟨[(2, (Bo o2))], [], 11⟩) ?_ fun o2 => ?_
  ·refine rd 4 [(3, (Sr a0)), (4, (I (a0.length : Int))), (5, (Bo (decide ((a0.length : Int) > 200)))), (6, (Bo (decide ((a0.length : Int) > 200))))] rfl rfl <| bifE (fun hc => ?_) fun hc => ?_
   ·rw [hc]
    exact reg_end rfl
   ·rw [hc]
    exact rd 5 [(7, (Sr a0))] rfl rfl <| rp rfl (p_call rfl rfl rfl rfl rfl (screen_isText_ok k a0) (.inl rfl)) fun v1 => bind_end rfl
  refine et k_lret ?_
  rfl
def screen_shows_fin : Int → V × List V := fun r => ((I r), [])
theorem screen_shows_ok (k : Nat) (a0 : T_api_Form) (a1 : (List Str)) : EV k 30 [(eForm a0), (sS a1)] = (screen_shows k a0 a1).map screen_shows_fin := by
 cases k with
 | zero => rfl
 | succ k =>
  unfold screen_shows
  refine et (evF_succ (c := f30c) (N := 23) (regs := f30n) rfl func30 rfl (by decide) rfl rfl rfl) <| kr ⟨[(1, (sS a1)), (2, (Pt 2))], [(2, vS 4 (eForm a0))], 23⟩ rfl <| et k_assoc <| kga f30a1 rfl (fun (o2 : Bool) => [(9, (Bo o2))]) (rd 1 [(7, (eForm a0))] rfl rfl <| rp rfl (p_call rfl rfl rfl rfl rfl (screen_Valid_ok k a0) (.inl rfl)) fun v1 => bind_end rfl) fun o2 => kc rfl rfl (fun hc => ?_) fun hc => ?_
  ·rw [hc]
   refine et k_assoc <| kr ⟨[(4, (I 220))], [], 23⟩ rfl <| et k_ret ?_
   rfl
  ·rw [hc]
   refine et k_skip <| et k_assoc <| kg f30a3 rfl (fun (o4 : Int) => ⟨[(1, (sS a1)), (6, (I o4))], [], 23⟩) (rd 1 [(11, (eForm a0))] rfl rfl <| rp rfl (p_call rfl rfl rfl rfl rfl (screen_lengths_ok k a0) (.inl rfl)) fun v3 => bind_end rfl) fun o4 => et k_assoc <| kg f30a4 rfl (fun (o6 : Bool) => ⟨[(22, (Bo o6))], [], 23⟩) ?_ fun o6 => ?_
   ·refine rd 1 [(15, (sS a1))] rfl rfl <| rl rfl (p_len (e := V.str) rfl rfl rfl rfl rfl rfl underlying39) <| bd 5 [(16, (I (a1.length : Int))), (17, (I o4)), (18, (Bo ((a1.length : Int) != o4))), (19, (Bo ((a1.length : Int) != o4)))] rfl rfl <| bifE (fun hc => ?_) fun hc => ?_
    ·rw [hc]
     exact reg_end rfl
    ·rw [hc]
     exact rd 6 [(20, (sS a1))] rfl rfl <| rs rfl (p_call rfl rfl rfl rfl rfl (slices_ContainsFunc_string_v10_ok k a1 (fun j x0 => (screen_shows_1 j x0)) 51 (fun j x0 => (screen_shows_1_ok j x0))) (.inl rfl)) fun v5 => bind_end rfl
   refine kc rfl rfl (fun hc => ?_) fun hc => ?_
   ·rw [hc]
    refine et k_assoc <| kr ⟨[(4, (I 2))], [], 23⟩ rfl <| et k_ret ?_
    rfl
   ·rw [hc]
    refine et k_skip <| kr ⟨[(4, (I 0))], [], 23⟩ rfl <| et k_lret ?_
    rfl
def strings_Repeat_fin : Str → V × List V := fun r => ((Sr r), [])
theorem strings_Repeat_ok (k : Nat) (s : Str) (n : Int) : EV k 53 [(Sr s), (I n)] = (strings_Repeat k s n).map strings_Repeat_fin := by
 cases k with
 | zero => rfl
 | succ k => exact (evF_ext (ext := ext) (f := 53) rfl).trans rfl
def slices_Repeat_string_fin : (List Str) → V × List V := fun r => ((sS r), [])
theorem slices_Repeat_string_ok (k : Nat) (s : (List Str)) (n : Int) : EV k 52 [(sS s), (I n)] = (slices_Repeat_string k s n).map slices_Repeat_string_fin := by
 cases k with
 | zero => rfl
 | succ k => exact (evF_ext (ext := ext) (f := 52) rfl).trans (extSlRep_map s n)
def slices_Clone_string_c_fin : (List Str) → V × List V := fun r => ((V.sl 2 1 (List.map V.str r)), [])
def slices_Clone_string_fin : List Str → V × List V := fun r => ((V.sl 2 1 (List.map V.str r)), [])
theorem slices_Clone_string_c_ok (k : Nat) (y : Str) (l : (List Str)) : EV k 77 [(sS ((y :: l)))] = (slices_Clone_string_c k y l).map slices_Clone_string_c_fin := by
 cases k with
 | zero => rfl
 | succ k =>
  unfold slices_Clone_string_c
  exact et (evF_succ (c := f77c) (N := 8) (regs := f77n) rfl func77 rfl (by decide) rfl rfl rfl) <| kra [] rfl <| et k_assoc <| kra [(4, (Bo false))] rfl <| et (k_cond (t := false) rfl rfl) <| et k_skip <| kg f77a3 rfl (fun (o2 : (List Str)) => ⟨[(2, (aL 5 V.str o2)), (5, V.undef)], [(5, ⟨true, 1, List.map V.str o2⟩)], 8⟩) (ra 2 2 ⟨[(0, (sS ((y :: l)))), (4, (Bo false)), (5, (aL 5 V.str ([] : List Str))), (6, (sS ((y :: l))))], [(5, ⟨true, 1, List.map V.str ([] : List Str)⟩)], 8⟩ rfl rfl rfl <| et (reg_eff (x := (app ([] : List Str) (y :: l))) (w := fun v1 => ((aL 5 V.str v1), _)) rfl rfl rfl rfl (p_appF (e := V.str) (l := ([] : List Str)) rfl rfl rfl rfl rfl rfl rfl rfl rfl rfl rfl (of_decide_eq_true rfl))) <| bind_self fun v1 => bind_end rfl) fun o2 => et k_lret <| endR (e := V.str) (l := o2) (.inr rfl) rfl rfl rfl rfl
theorem slices_Clone_string_ok (k : Nat) (l : List Str) : EV k 77 [(sS l)] = (slices_Clone_string k l).map slices_Clone_string_fin := by
 cases k with
 | zero => rfl
 | succ k => cases l with
  | nil => exact evF_ext (ext := ext) (f := 77) rfl
  | cons y l => exact slices_Clone_string_c_ok (k + 1) y l
def screen_laid_fin : (List Str) → V × List V := fun r => ((sS r), [])
theorem screen_laid_ok (k : Nat) (a0 : (List Str)) (a1 : Int) (a2 : Int) (a3 : Str) : EV k 54 [(sS a0), (I a1), (I a2), (Sr a3)] = (screen_laid k a0 a1 a2 a3).map screen_laid_fin := by
 cases k with
 | zero => rfl
 | succ k =>
  unfold screen_laid
  refine et (evF_succ (c := f54c) (N := 34) (regs := f54n) rfl func54 rfl (by decide) rfl rfl rfl) <| kra [] rfl <| kg f54a1 rfl (fun (o2 : (List Str)) => ⟨[(1, (I a1)), (2, (I a2)), (3, (Sr a3)), (9, (aL 11 V.str o2)), (11, (aL 11 V.str o2))], [(11, ⟨true, 1, List.map V.str o2⟩)], 34⟩) (rd 1 [(10, (sS a0))] rfl rfl <| et (reg_eff (x := (slices_Clone_string k a0)) (w := fun v1 => ((V.sl 2 1 (List.map V.str v1)), _)) rfl rfl rfl rfl (p_callS rfl rfl rfl rfl rfl rfl (slices_Clone_string_ok k a0))) <| bind_self fun v1 => bind_end rfl) fun o2 => kd f54a2 rfl (fun (o13 : (List Str)) => ⟨[(9, (aL 11 V.str o13)), (11, (aL 11 V.str o13))], [(11, ⟨true, 1, List.map V.str o13⟩)], 34⟩) ?_ fun o13 => ?_
  ·refine et (regionE_regp (p := 21) (dk := true) (t := [(1, (I a1)), (2, (I a2)), (3, (Sr a3)), (9, (aL 11 V.str o2)), (11, (aL 11 V.str o2))]) (σ := [(11, ⟨true, 1, List.map V.str o2⟩)]) (n := 34) rfl (by decide) (by decide) rfl) <| et (regp_adv (m := 4) (j := 4) (t' := [(1, (I a1)), (2, (I a2)), (3, (Sr a3)), (9, (aL 11 V.str o2)), (11, (aL 11 V.str o2)), (12, (aL 11 V.str o2)), (13, (I a1)), (14, (aL 11 V.str o2)), (15, (I a1))]) rfl rfl rfl) <| et (regp_pure (x := (inB o2.length a1)) (w := fun v3 => (V.ptr 11 (0 + a1.toNat) 0)) rfl rfl rfl rfl rfl (p_indexF (e := V.str) rfl rfl rfl underlying39 rfl rfl (by decide))) <| bindE fun v3 => et (putp_adv (m := 0) (j := 5) (t' := [(1, (I a1)), (2, (I a2)), (3, (Sr a3)), (9, (aL 11 V.str o2)), (11, (aL 11 V.str o2)), (12, (aL 11 V.str o2)), (13, (I a1)), (14, (aL 11 V.str o2)), (15, (I a1)), (16, (V.ptr 11 (0 + a1.toNat) 0))]) rfl rfl rfl) <| et (regp_pure (x := (o2[0 + a1.toNat]?)) (w := fun v4 => (Sr v4)) rfl rfl rfl rfl rfl (p_loadA (e := V.str) rfl rfl rfl (fun _ => rfl) (fun _ => rfl))) ?_
   refine bindE fun v4 => et (putp_adv (m := 1) (j := 7) (t' := [(1, (I a1)), (2, (I a2)), (3, (Sr a3)), (9, (aL 11 V.str o2)), (11, (aL 11 V.str o2)), (12, (aL 11 V.str o2)), (13, (I a1)), (14, (aL 11 V.str o2)), (15, (I a1)), (16, (V.ptr 11 (0 + a1.toNat) 0)), (17, (Sr v4)), (18, (I a2))]) rfl rfl rfl) <| et (regp_pure (x := (cut v4 0 a2)) (w := fun v5 => (Sr v5)) rfl rfl rfl rfl rfl (p_sliceS rfl rfl rfl rfl rfl rfl underlying9)) <| bindE fun v5 => et (putp_adv (m := 1) (j := 9) (t' := [(1, (I a1)), (2, (I a2)), (3, (Sr a3)), (9, (aL 11 V.str o2)), (11, (aL 11 V.str o2)), (12, (aL 11 V.str o2)), (13, (I a1)), (14, (aL 11 V.str o2)), (15, (I a1)), (16, (V.ptr 11 (0 + a1.toNat) 0)), (17, (Sr v4)), (18, (I a2)), (19, (Sr v5)), (20, (Sr a3))]) rfl rfl rfl) <| et (regp_pure (x := (cat v5 a3)) (w := fun v6 => (Sr v6)) rfl rfl rfl rfl rfl (p_cat rfl rfl rfl)) <| bindE fun v6 => et (putp_adv (m := 2) (j := 12) (t' := [(1, (I a1)), (2, (I a2)), (3, (Sr a3)), (9, (aL 11 V.str o2)), (11, (aL 11 V.str o2)), (12, (aL 11 V.str o2)), (13, (I a1)), (14, (aL 11 V.str o2)), (15, (I a1)), (16, (V.ptr 11 (0 + a1.toNat) 0)), (17, (Sr v4)), (18, (I a2)), (19, (Sr v5)), (20, (Sr a3)), (21, (Sr v6)), (22, (aL 11 V.str o2)), (23, (I a1))]) rfl rfl rfl) <| et (regp_pure (x := (inB o2.length a1)) (w := fun v7 => (V.ptr 11 (0 + a1.toNat) 0)) rfl rfl rfl rfl rfl (p_indexF (e := V.str) rfl rfl rfl underlying39 rfl rfl (by decide))) <| bindE fun v7 => et (putp_adv (m := 0) (j := 13) (t' := [(1, (I a1)), (2, (I a2)), (3, (Sr a3)), (9, (aL 11 V.str o2)), (11, (aL 11 V.str o2)), (12, (aL 11 V.str o2)), (13, (I a1)), (14, (aL 11 V.str o2)), (15, (I a1)), (16, (V.ptr 11 (0 + a1.toNat) 0)), (17, (Sr v4)), (18, (I a2)), (19, (Sr v5)), (20, (Sr a3)), (21, (Sr v6)), (22, (aL 11 V.str o2)), (23, (I a1)), (24, (V.ptr 11 (0 + a1.toNat) 0))]) rfl rfl rfl) <| et (regp_pure (x := (o2[0 + a1.toNat]?)) (w := fun v8 => (Sr v8)) rfl rfl rfl rfl rfl (p_loadA (e := V.str) rfl rfl rfl (fun _ => rfl) (fun _ => rfl))) ?_
   refine bindE fun v8 => et (putp_adv (m := 4) (j := 18) (t' := [(1, (I a1)), (2, (I a2)), (3, (Sr a3)), (9, (aL 11 V.str o2)), (11, (aL 11 V.str o2)), (12, (aL 11 V.str o2)), (13, (I a1)), (14, (aL 11 V.str o2)), (15, (I a1)), (16, (V.ptr 11 (0 + a1.toNat) 0)), (17, (Sr v4)), (18, (I a2)), (19, (Sr v5)), (20, (Sr a3)), (21, (Sr v6)), (22, (aL 11 V.str o2)), (23, (I a1)), (24, (V.ptr 11 (0 + a1.toNat) 0)), (25, (Sr v8)), (26, (I a2)), (27, (Sr a3)), (28, (I (a3.length : Int))), (29, (I (Go.IntKind.wrap .i64 (a2 + (a3.length : Int)))))]) rfl rfl rfl) <| et (regp_pure (x := (cut v8 (Go.IntKind.wrap .i64 (a2 + (a3.length : Int))) (v8.length : Int))) (w := fun v9 => (Sr v9)) rfl rfl rfl rfl rfl (p_sliceS rfl rfl rfl rfl rfl rfl underlying9)) <| bindE fun v9 => et (putp_adv (m := 0) (j := 19) (t' := [(1, (I a1)), (2, (I a2)), (3, (Sr a3)), (9, (aL 11 V.str o2)), (11, (aL 11 V.str o2)), (12, (aL 11 V.str o2)), (13, (I a1)), (14, (aL 11 V.str o2)), (15, (I a1)), (16, (V.ptr 11 (0 + a1.toNat) 0)), (17, (Sr v4)), (18, (I a2)), (19, (Sr v5)), (20, (Sr a3)), (21, (Sr v6)), (22, (aL 11 V.str o2)), (23, (I a1)), (24, (V.ptr 11 (0 + a1.toNat) 0)), (25, (Sr v8)), (26, (I a2)), (27, (Sr a3)), (28, (I (a3.length : Int))), (29, (I (Go.IntKind.wrap .i64 (a2 + (a3.length : Int))))), (30, (Sr v9))]) rfl rfl rfl) <| et (regp_pure (x := (cat v6 v9)) (w := fun v10 => (Sr v10)) rfl rfl rfl rfl rfl (p_cat rfl rfl rfl)) <| bindE fun v10 => et (putp_adv (m := 0) (j := 20) (t' := [(1, (I a1)), (2, (I a2)), (3, (Sr a3)), (9, (aL 11 V.str o2)), (11, (aL 11 V.str o2)), (12, (aL 11 V.str o2)), (13, (I a1)), (14, (aL 11 V.str o2)), (15, (I a1)), (16, (V.ptr 11 (0 + a1.toNat) 0)), (17, (Sr v4)), (18, (I a2)), (19, (Sr v5)), (20, (Sr a3)), (21, (Sr v6)), (22, (aL 11 V.str o2)), (23, (I a1)), (24, (V.ptr 11 (0 + a1.toNat) 0)), (25, (Sr v8)), (26, (I a2)), (27, (Sr a3)), (28, (I (a3.length : Int))), (29, (I (Go.IntKind.wrap .i64 (a2 + (a3.length : Int))))), (30, (Sr v9)), (31, (Sr v10))]) rfl rfl rfl) <| et (regp_pure (x := (inB o2.length a1)) (w := fun v11 => (V.ptr 11 (0 + a1.toNat) 0)) rfl rfl rfl rfl rfl (p_indexF (e := V.str) rfl rfl rfl underlying39 rfl rfl (by decide))) <| bindE fun v11 => et (regp_reg (m := 0) (j := 21) (st' := ⟨[(1, (I a1)), (2, (I a2)), (3, (Sr a3)), (9, (aL 11 V.str o2)), (11, (aL 11 V.str o2)), (12, (aL 11 V.str o2)), (13, (I a1)), (14, (aL 11 V.str o2)), (15, (I a1)), (16, (V.ptr 11 (0 + a1.toNat) 0)), (17, (Sr v4)), (18, (I a2)), (19, (Sr v5)), (20, (Sr a3)), (21, (Sr v6)), (22, (aL 11 V.str o2)), (23, (I a1)), (24, (V.ptr 11 (0 + a1.toNat) 0)), (25, (Sr v8)), (26, (I a2)), (27, (Sr a3)), (28, (I (a3.length : Int))), (29, (I (Go.IntKind.wrap .i64 (a2 + (a3.length : Int))))), (30, (Sr v9)), (31, (Sr v10)), (32, (V.ptr 11 (0 + a1.toNat) 0))], [(11, ⟨true, 1, List.map V.str o2⟩)], 34⟩) rfl rfl rfl) <| et (reg_eff (x := (o2[0 + a1.toNat]?)) (w := fun _ => (V.tup [], _)) rfl rfl rfl rfl (p_storeL (S := (fun n_ => ⟨[(1, (I a1)), (2, (I a2)), (3, (Sr a3)), (9, (V.aref 11 0 n_)), (11, (V.aref 11 0 n_)), (12, (V.aref 11 0 n_)), (13, (I a1)), (14, (V.aref 11 0 n_)), (15, (I a1)), (16, (V.ptr 11 (0 + a1.toNat) 0)), (17, (Sr v4)), (18, (I a2)), (19, (Sr v5)), (20, (Sr a3)), (21, (Sr v6)), (22, (V.aref 11 0 n_)), (23, (I a1)), (24, (V.ptr 11 (0 + a1.toNat) 0)), (25, (Sr v8)), (26, (I a2)), (27, (Sr a3)), (28, (I (a3.length : Int))), (29, (I (Go.IntKind.wrap .i64 (a2 + (a3.length : Int))))), (30, (Sr v9)), (31, (Sr v10)), (32, (V.ptr 11 (0 + a1.toNat) 0))], [(11, ⟨true, 1, List.map V.str o2⟩)], 34⟩)) (e := V.str) (l := o2) (v := v10) rfl rfl rfl rfl rfl rfl rfl rfl rfl rfl (fun _ => rfl))) ?_
   exact bindE fun v12 => bind_end rfl
  refine krp f54a3 rfl ⟨[(8, (sS o13))], [], 34⟩ ?_ ?_
  ·exact rd 1 [(33, (aL 11 V.str o13))] rfl rfl <| et (reg_eff (x := some ()) (w := fun _ => ((V.sl 2 1 (List.map V.str o13)), _)) rfl rfl rfl rfl (p_close (e := V.str) rfl rfl rfl rfl rfl (of_decide_eq_true rfl))) <| et some_bind <| bind_end rfl
  refine et k_lret ?_
  rfl
def screen_filled_fin : Str → V × List V := fun r => ((Sr r), [])
theorem screen_filled_ok (k : Nat) (a0 : T_api_Slot) (a1 : Str) : EV k 55 [(eSlot a0), (Sr a1)] = (screen_filled k a0 a1).map screen_filled_fin := by
 cases k with
 | zero => rfl
 | succ k =>
  unfold screen_filled
  refine et (evF_succ (c := f55c) (N := 26) (regs := f55n) rfl func55 rfl (by decide) rfl rfl rfl) <| kr ⟨[(1, (Sr a1)), (2, (Pt 2))], [(2, vS 7 (eSlot a0))], 26⟩ rfl <| et k_assoc <| kra [(9, (Bo (decide ((a1.length : Int) ≥ a0.fBytes))))] rfl <| kc rfl rfl (fun hc => ?_) fun hc => ?_
  ·rw [hc]
   refine et k_assoc <| kg f55a2 rfl (fun (o2 : Str) => ⟨[(4, (Sr o2))], [], 26⟩) (rd 3 [(10, (Sr a1)), (11, (V.ptr 2 0 3)), (12, (I a0.fBytes))] rfl rfl <| rs rfl (p_sliceS rfl rfl rfl rfl rfl rfl underlying9) fun v1 => bind_end rfl) fun o2 => et k_ret ?_
   rfl
  ·rw [hc]
   refine et k_skip <| kg f55a3 rfl (fun (o5 : Str) => ⟨[(4, (Sr o5))], [], 26⟩) (rd 4 [(14, (Sr a1)), (15, (V.ptr 2 0 6)), (16, (V.int .u8 a0.fFill)), (17, (V.sl 0 1 (List.map (V.int .u8) ([a0.fFill] : List Int))))] rfl rfl <| rl rfl (p_convBS (l := ([a0.fFill] : List Int)) rfl rfl underlying44 underlying9 underlying5) <| bd 10 [(18, (Sr (Go.AE.strB ([a0.fFill] : List Int)))), (19, (V.ptr 2 0 3)), (20, (I a0.fBytes)), (21, (Sr a1)), (22, (I (a1.length : Int))), (23, (I (Go.IntKind.wrap .i64 (a0.fBytes - (a1.length : Int)))))] rfl rfl <| rp rfl (p_call rfl rfl rfl rfl rfl (strings_Repeat_ok k (Go.AE.strB ([a0.fFill] : List Int)) (Go.IntKind.wrap .i64 (a0.fBytes - (a1.length : Int)))) (.inl rfl)) fun v3 => bd 11 [(24, (Sr v3))] rfl rfl <| rs rfl (p_cat rfl rfl rfl) fun v4 => bind_end rfl) fun o5 => et k_lret ?_
   rfl
def screen_show_fin : (List Str) → V × List V := fun r => ((sS r), [])
theorem screen_show_L1_ok (k : Nat) (a0 : T_api_Form) (a1 : (List Str))  (K0 : (List Str) → Int → Option (List Str)) (Kst : X × St → Option (V × List V)) (hK0 : ∀ (y0 : (List Str)) (y1 : Int), Kst (X.exit 0, ⟨[(1, (sS a1)), (2, (Pt 2)), (5, (sS y0)), (19, (sMark a0.fMarks)), (20, (I (a0.fMarks.length : Int))), (21, (I y1)), (22, (Bo false))], [(2, vS 4 (eForm a0))], 60⟩) = (K0 y0 y1).map screen_show_fin) (hret : ∀ s, Kst (X.ret, s) = endK prog 60 [(eForm a0), (sS a1)] [] [.tmp 4] (X.ret, s)) :
  ∀ (m : Nat) (x8 : (List Str)) (x9 : Int), (iter (exec prog (EV k) f31n k f31b0) m ⟨[(1, (sS a1)), (2, (Pt 2)), (5, (sS x8)), (19, (sMark a0.fMarks)), (20, (I (a0.fMarks.length : Int))), (21, (I x9))], [(2, vS 4 (eForm a0))], 60⟩).bind Kst = (screen_show_L1 k a0 K0 m x8 x9).map screen_show_fin := by
 intro m
 induction m with
 | zero => intros; rfl
 | succ m ih =>
  intro x8 x9
  unfold screen_show_L1
  refine et k_round <| kra [(22, (Bo (decide (x9 < (a0.fMarks.length : Int)))))] rfl <| kc rfl rfl (fun hc => ?_) fun hc => ?_
  ·rw [hc]
   exact et k_skip <| et (k_block rfl) <| kg f31a4 rfl (fun (o11 : T_api_Mark) => ⟨[(1, (sS a1)), (2, (Pt 2)), (5, (sS x8)), (7, (Pt 7)), (19, (sMark a0.fMarks)), (20, (I (a0.fMarks.length : Int))), (21, (I x9))], [(2, vS 4 (eForm a0)), (7, vS 3 (eMark o11))], 60⟩) (rs rfl (p_index (e := eMark) rfl rfl rfl underlying22 rfl (by decide)) fun v10 => bind_end rfl) fun o11 => kgl f31a5 rfl (fun (o13 : (List Str)) => ⟨[(1, (sS a1)), (2, (Pt 2)), (5, (sS o13)), (19, (sMark a0.fMarks)), (20, (I (a0.fMarks.length : Int))), (21, (I x9))], [(2, vS 4 (eForm a0))], 60⟩) (rd 7 [(25, (sS x8)), (26, (Pt 7)), (27, (I o11.fRow)), (28, (V.ptr 7 0 1)), (29, (I o11.fColumn)), (30, (V.ptr 7 0 2)), (31, (Sr o11.fText))] rfl rfl <| rs rfl (p_call rfl rfl rfl rfl rfl (screen_laid_ok k x8 o11.fRow o11.fColumn o11.fText) (.inl rfl)) fun v12 => bind_end rfl) fun o13 => et blk_normal <| kl ⟨[(1, (sS a1)), (2, (Pt 2)), (5, (sS o13)), (19, (sMark a0.fMarks)), (20, (I (a0.fMarks.length : Int))), (21, (I (Go.IntKind.wrap .i64 (x9 + 1))))], [(2, vS 4 (eForm a0))], 60⟩ rfl <| et loop_normal <| ih o13 (Go.IntKind.wrap .i64 (x9 + 1))
  ·rw [hc]
   exact et k_exit <| et loop_exit <| hK0 x8 x9
theorem screen_show_L2_ok (k : Nat) (a0 : T_api_Form) (a1 : (List Str))  (K0 : (List Str) → Int → Option (List Str)) (Kst : X × St → Option (V × List V)) (hK0 : ∀ (y0 : (List Str)) (y1 : Int), Kst (X.exit 2, ⟨[(1, (sS a1)), (5, (sS y0)), (35, (sSlot a0.fFields)), (36, (I (a0.fFields.length : Int))), (37, (I y1)), (38, (Bo false))], [], 60⟩) = (K0 y0 y1).map screen_show_fin) (hret : ∀ s, Kst (X.ret, s) = endK prog 60 [(eForm a0), (sS a1)] [] [.tmp 4] (X.ret, s)) :
  ∀ (m : Nat) (x26 : (List Str)) (x27 : Int), (iter (exec prog (EV k) f31n k f31b1) m ⟨[(1, (sS a1)), (5, (sS x26)), (35, (sSlot a0.fFields)), (36, (I (a0.fFields.length : Int))), (37, (I x27))], [], 60⟩).bind Kst = (screen_show_L2 k a0 a1 K0 m x26 x27).map screen_show_fin := by
 intro m
 induction m with
 | zero => intros; rfl
 | succ m ih =>
  intro x26 x27
  unfold screen_show_L2
  refine et k_round <| kra [(38, (Bo (decide (x27 < (a0.fFields.length : Int)))))] rfl <| kc rfl rfl (fun hc => ?_) fun hc => ?_
  ·rw [hc]
   refine et k_skip <| et (k_block rfl) <| kg f31a9 rfl (fun (o29 : T_api_Slot) => ⟨[(1, (sS a1)), (5, (sS x26)), (9, (Pt 9)), (35, (sSlot a0.fFields)), (36, (I (a0.fFields.length : Int))), (37, (I x27))], [(9, vS 7 (eSlot o29))], 60⟩) (rs rfl (p_index (e := eSlot) rfl rfl rfl underlying23 rfl (by decide)) fun v28 => bind_end rfl) fun o29 => kr ⟨[(1, (sS a1)), (5, (sS x26)), (9, (Pt 9)), (10, (Sr ([] : Str))), (35, (sSlot a0.fFields)), (36, (I (a0.fFields.length : Int))), (37, (I x27))], [(9, vS 7 (eSlot o29))], 60⟩ rfl <| et k_assoc <| kra [(43, (Bo (decide (o29.fOut ≥ 0))))] rfl <| kc rfl rfl (fun hc => ?_) fun hc => ?_
   ·rw [hc]
    exact kg f31a12 rfl (fun (o31 : Str) => ⟨[(1, (sS a1)), (5, (sS x26)), (9, (Pt 9)), (10, (Sr o31)), (35, (sSlot a0.fFields)), (36, (I (a0.fFields.length : Int))), (37, (I x27))], [(9, vS 7 (eSlot o29))], 60⟩) (rd 3 [(44, (sS a1)), (45, (V.ptr 9 0 5)), (46, (I o29.fOut))] rfl rfl <| rs rfl (p_index (e := V.str) rfl rfl rfl underlying39 rfl (by decide)) fun v30 => bind_end rfl) fun o31 => kdl f31a13 rfl (fun (o34 : (List Str)) => ⟨[(1, (sS a1)), (5, (sS o34)), (35, (sSlot a0.fFields)), (36, (I (a0.fFields.length : Int))), (37, (I x27))], [], 60⟩) (et (regionE_regp (p := 9) (dk := true) (t := [(1, (sS a1)), (5, (sS x26)), (9, (Pt 9)), (10, (Sr o31)), (35, (sSlot a0.fFields)), (36, (I (a0.fFields.length : Int))), (37, (I x27))]) (σ := [(9, vS 7 (eSlot o29))]) (n := 60) rfl (by decide) (by decide) rfl) <| et (regp_adv (m := 7) (j := 7) (t' := [(1, (sS a1)), (5, (sS x26)), (9, (Pt 9)), (10, (Sr o31)), (35, (sSlot a0.fFields)), (36, (I (a0.fFields.length : Int))), (37, (I x27)), (49, (sS x26)), (50, (V.ptr 9 0 1)), (51, (I o29.fRow)), (52, (V.ptr 9 0 2)), (53, (I o29.fColumn)), (54, (eSlot o29)), (55, (Sr o31))]) rfl rfl rfl) <| et (regp_pure (x := (screen_filled k o29 o31)) (w := fun v32 => (Sr v32)) rfl rfl rfl rfl rfl (p_call rfl rfl rfl rfl rfl (screen_filled_ok k o29 o31) (.inl rfl))) <| bindE fun v32 => et (putp_adv (m := 0) (j := 8) (t' := [(1, (sS a1)), (5, (sS x26)), (9, (Pt 9)), (10, (Sr o31)), (35, (sSlot a0.fFields)), (36, (I (a0.fFields.length : Int))), (37, (I x27)), (49, (sS x26)), (50, (V.ptr 9 0 1)), (51, (I o29.fRow)), (52, (V.ptr 9 0 2)), (53, (I o29.fColumn)), (54, (eSlot o29)), (55, (Sr o31)), (56, (Sr v32))]) rfl rfl rfl) <| et (regp_pure (x := (screen_laid k x26 o29.fRow o29.fColumn v32)) (w := fun v33 => (sS v33)) rfl rfl rfl rfl rfl (p_call rfl rfl rfl rfl rfl (screen_laid_ok k x26 o29.fRow o29.fColumn v32) (.inl rfl))) <| bind_self fun v33 => regp_end rfl) fun o34 => et blk_normal <| kl ⟨[(1, (sS a1)), (5, (sS o34)), (35, (sSlot a0.fFields)), (36, (I (a0.fFields.length : Int))), (37, (I (Go.IntKind.wrap .i64 (x27 + 1))))], [], 60⟩ rfl <| et loop_normal <| ih o34 (Go.IntKind.wrap .i64 (x27 + 1))
   ·rw [hc]
    exact et k_skip <| kdl f31a13 rfl (fun (o37 : (List Str)) => ⟨[(1, (sS a1)), (5, (sS o37)), (35, (sSlot a0.fFields)), (36, (I (a0.fFields.length : Int))), (37, (I x27))], [], 60⟩) (et (regionE_regp (p := 9) (dk := true) (t := [(1, (sS a1)), (5, (sS x26)), (9, (Pt 9)), (10, (Sr ([] : Str))), (35, (sSlot a0.fFields)), (36, (I (a0.fFields.length : Int))), (37, (I x27)), (43, (Bo false))]) (σ := [(9, vS 7 (eSlot o29))]) (n := 60) rfl (by decide) (by decide) rfl) <| et (regp_adv (m := 7) (j := 7) (t' := [(1, (sS a1)), (5, (sS x26)), (9, (Pt 9)), (10, (Sr ([] : Str))), (35, (sSlot a0.fFields)), (36, (I (a0.fFields.length : Int))), (37, (I x27)), (43, (Bo false)), (49, (sS x26)), (50, (V.ptr 9 0 1)), (51, (I o29.fRow)), (52, (V.ptr 9 0 2)), (53, (I o29.fColumn)), (54, (eSlot o29)), (55, (Sr ([] : Str)))]) rfl rfl rfl) <| et (regp_pure (x := (screen_filled k o29 ([] : Str))) (w := fun v35 => (Sr v35)) rfl rfl rfl rfl rfl (p_call rfl rfl rfl rfl rfl (screen_filled_ok k o29 ([] : Str)) (.inl rfl))) <| bindE fun v35 => et (putp_adv (m := 0) (j := 8) (t' := [(1, (sS a1)), (5, (sS x26)), (9, (Pt 9)), (10, (Sr ([] : Str))), (35, (sSlot a0.fFields)), (36, (I (a0.fFields.length : Int))), (37, (I x27)), (43, (Bo false)), (49, (sS x26)), (50, (V.ptr 9 0 1)), (51, (I o29.fRow)), (52, (V.ptr 9 0 2)), (53, (I o29.fColumn)), (54, (eSlot o29)), (55, (Sr ([] : Str))), (56, (Sr v35))]) rfl rfl rfl) <| et (regp_pure (x := (screen_laid k x26 o29.fRow o29.fColumn v35)) (w := fun v36 => (sS v36)) rfl rfl rfl rfl rfl (p_call rfl rfl rfl rfl rfl (screen_laid_ok k x26 o29.fRow o29.fColumn v35) (.inl rfl))) <| bind_self fun v36 => regp_end rfl) fun o37 => et blk_normal <| kl ⟨[(1, (sS a1)), (5, (sS o37)), (35, (sSlot a0.fFields)), (36, (I (a0.fFields.length : Int))), (37, (I (Go.IntKind.wrap .i64 (x27 + 1))))], [], 60⟩ rfl <| et loop_normal <| ih o37 (Go.IntKind.wrap .i64 (x27 + 1))
  ·rw [hc]
   exact et k_exit <| et loop_exit <| hK0 x26 x27
theorem screen_show_ok (k : Nat) (a0 : T_api_Form) (a1 : (List Str)) : EV k 31 [(eForm a0), (sS a1)] = (screen_show k a0 a1).map screen_show_fin := by
 cases k with
 | zero => rfl
 | succ k =>
  unfold screen_show
  refine et (evF_succ (c := f31c) (N := 60) (regs := f31n) rfl func31 rfl (by decide) rfl rfl rfl) <| kr ⟨[(1, (sS a1)), (2, (Pt 2))], [(2, vS 4 (eForm a0))], 60⟩ rfl <| kd f31a1 rfl (fun (o3 : (List Str)) => ⟨[(1, (sS a1)), (2, (Pt 2)), (5, (sS o3))], [(2, vS 4 (eForm a0))], 60⟩) (et (regionE_regp (p := 8) (dk := true) (t := [(1, (sS a1)), (2, (Pt 2))]) (σ := [(2, vS 4 (eForm a0))]) (n := 60) rfl (by decide) (by decide) rfl) <| et (regp_adv (m := 2) (j := 2) (t' := [(1, (sS a1)), (2, (Pt 2)), (11, (V.ptr 2 0 1)), (12, (I a0.fColumns))]) rfl rfl rfl) <| et (regp_pure (x := (strings_Repeat k ([32] : Str) a0.fColumns)) (w := fun v1 => (Sr v1)) rfl rfl rfl rfl rfl (p_call rfl rfl rfl rfl rfl (strings_Repeat_ok k ([32] : Str) a0.fColumns) (.inl rfl))) <| bindE fun v1 => et (putp_adv (m := 3) (j := 6) (t' := [(1, (sS a1)), (2, (Pt 2)), (11, (V.ptr 2 0 1)), (12, (I a0.fColumns)), (13, (Sr v1)), (14, (sS (([v1] : List Str)))), (15, (Pt 2)), (16, (I a0.fRows))]) rfl rfl rfl) <| et (regp_pure (x := (slices_Repeat_string k ([v1] : List Str) a0.fRows)) (w := fun v2 => (sS v2)) rfl rfl rfl rfl rfl (p_call rfl rfl rfl rfl rfl (slices_Repeat_string_ok k ([v1] : List Str) a0.fRows) (.inl rfl))) <| bind_self fun v2 => regp_end rfl) fun o3 => et k_assoc <| krp f31a2 rfl ⟨[(1, (sS a1)), (2, (Pt 2)), (5, (sS o3)), (19, (sMark a0.fMarks)), (20, (I (a0.fMarks.length : Int))), (21, (I 0))], [(2, vS 4 (eForm a0))], 60⟩ ?_ ?_
  ·exact rd 2 [(18, (V.ptr 2 0 2)), (19, (sMark a0.fMarks))] rfl rfl <| rl rfl (p_len (e := eMark) rfl rfl rfl rfl rfl rfl underlying22) <| bind_end rfl
  refine et (k_block rfl) <| et k_loop ?_
  refine screen_show_L1_ok k a0 a1 _ _ ?h_screen_show_L1_0 ?hr_screen_show_L1 k o3 0
  ·intro y14 y15
   refine et blk_exit <| et k_assoc <| krp f31a7 rfl ⟨[(1, (sS a1)), (5, (sS y14)), (35, (sSlot a0.fFields)), (36, (I (a0.fFields.length : Int))), (37, (I 0))], [], 60⟩ ?_ ?_
   ·exact rd 2 [(34, (V.ptr 2 0 3)), (35, (sSlot a0.fFields))] rfl rfl <| rl rfl (p_len (e := eSlot) rfl rfl rfl rfl rfl rfl underlying23) <| bind_end rfl
   refine et (k_block rfl) <| et k_loop ?_
   refine screen_show_L2_ok k a0 a1 _ _ ?h_screen_show_L2_0 ?hr_screen_show_L2 k y14 0
   ·intro y38 y39
    refine et blk_exit <| kr ⟨[(4, (sS y38))], [], 60⟩ rfl <| et k_lret ?_
    rfl
   ·intro s; exact rfl
  ·intro s; exact rfl
def screen_Show_fin : ((List Str) × Int) → V × List V := fun r => (.tup [(sS r.1), (I r.2)], [])
theorem screen_Show_ok (k : Nat) (a0 : T_api_Form) (a1 : (List Str)) : EV k 11 [(eForm a0), (sS a1)] = (screen_Show k a0 a1).map screen_Show_fin := by
 cases k with
 | zero => rfl
 | succ k =>
  unfold screen_Show
  refine et (evF_succ (c := f11c) (N := 16) (regs := f11n) rfl func11 rfl (by decide) rfl rfl rfl) <| kr ⟨[(1, (sS a1)), (2, (Pt 2))], [(2, vS 4 (eForm a0))], 16⟩ rfl <| et k_assoc <| kga f11a1 rfl (fun (o2 : Int) => [(6, (I o2))]) (rd 2 [(7, (eForm a0)), (8, (sS a1))] rfl rfl <| rs rfl (p_call rfl rfl rfl rfl rfl (screen_shows_ok k a0 a1) (.inl rfl)) fun v1 => bind_end rfl) fun o2 => et k_assoc <| kra [(11, (Bo (o2 != 0)))] rfl <| kc rfl rfl (fun hc => ?_) fun hc => ?_
  ·rw [hc]
   refine et k_assoc <| kr ⟨[(4, (sS (([] : List Str)))), (5, (I o2))], [], 16⟩ rfl <| et k_ret ?_
   rfl
  ·rw [hc]
   refine et k_skip <| kg f11a4 rfl (fun (o4 : (List Str) × Int) => ⟨[(4, (sS o4.1)), (5, (I o4.2))], [], 16⟩) (rd 2 [(13, (eForm a0)), (14, (sS a1))] rfl rfl <| rp rfl (p_call rfl rfl rfl rfl rfl (screen_show_ok k a0 a1) (.inl rfl)) fun v3 => bind_end rfl) fun o4 => et k_lret ?_
   rfl
def slices_IndexFunc_string_fin : Int → V × List V := fun r => ((I r), [])
theorem slices_IndexFunc_string_L1_ok (k : Nat) (a0 : (List Str)) (a1 : Nat → Str → Option Bool) (a1_fid : Go.FuncId) (a1_c0 : V) (a1_hok : ∀ j x0, EV j a1_fid [(Sr x0), V.pro a1_c0] = (a1 j x0).map fun b => ((Bo b), [])) (K0 : Int → Option Int) (Kst : X × St → Option (V × List V)) (hK0 : ∀ (y0 : Int), Kst (X.exit 0, ⟨[(0, (sS a0)), (1, (V.fn a1_fid [] [V.pro a1_c0])), (7, (I (a0.length : Int))), (8, (I y0)), (9, (Bo false))], [], 19⟩) = (K0 y0).map slices_IndexFunc_string_fin) (hret : ∀ s, Kst (X.ret, s) = endK prog 19 [(sS a0), (V.fn a1_fid [] [V.pro a1_c0])] [] [.tmp 4] (X.ret, s)) :
  ∀ (m : Nat) (x4 : Int), (iter (exec prog (EV k) f73n k f73b0) m ⟨[(0, (sS a0)), (1, (V.fn a1_fid [] [V.pro a1_c0])), (7, (I (a0.length : Int))), (8, (I x4))], [], 19⟩).bind Kst = (slices_IndexFunc_string_L1 k a0 a1 K0 m x4).map slices_IndexFunc_string_fin := by
 intro m
 induction m with
 | zero => intros; rfl
 | succ m ih =>
  intro x4
  unfold slices_IndexFunc_string_L1
  refine et k_round <| kra [(9, (Bo (decide (x4 < (a0.length : Int)))))] rfl <| kc rfl rfl (fun hc => ?_) fun hc => ?_
  ·rw [hc]
   refine et k_skip <| et (k_block rfl) <| kr ⟨[(0, (sS a0)), (1, (V.fn a1_fid [] [V.pro a1_c0])), (5, (I x4)), (7, (I (a0.length : Int))), (8, (I x4))], [], 19⟩ rfl <| kga f73a4 rfl (fun (o7 : Bool) => [(16, (Bo o7))]) (rd 3 [(11, (V.fn a1_fid [] [V.pro a1_c0])), (12, (sS a0)), (13, (I x4))] rfl rfl <| rp rfl (p_index (e := V.str) rfl rfl rfl underlying39 rfl (by decide)) fun v5 => bd 5 [(14, (Pr (Sr v5))), (15, (Sr v5))] rfl rfl <| rs rfl (p_call rfl rfl rfl rfl rfl (a1_hok k v5) (.inl rfl)) fun v6 => bind_end rfl) fun o7 => kcl rfl rfl (fun hc => ?_) fun hc => ?_
   ·rw [hc]
    refine kr ⟨[(4, (I x4))], [], 19⟩ rfl <| et k_lret <| et blk_ret <| et loop_ret <| et (hret _) ?_
    rfl
   ·rw [hc]
    exact et k_lskip <| et blk_normal <| kl ⟨[(0, (sS a0)), (1, (V.fn a1_fid [] [V.pro a1_c0])), (7, (I (a0.length : Int))), (8, (I (Go.IntKind.wrap .i64 (x4 + 1))))], [], 19⟩ rfl <| et loop_normal <| ih (Go.IntKind.wrap .i64 (x4 + 1))
  ·rw [hc]
   exact et k_exit <| et loop_exit <| hK0 x4
theorem slices_IndexFunc_string_ok (k : Nat) (a0 : (List Str)) (a1 : Nat → Str → Option Bool) (a1_fid : Go.FuncId) (a1_c0 : V) (a1_hok : ∀ j x0, EV j a1_fid [(Sr x0), V.pro a1_c0] = (a1 j x0).map fun b => ((Bo b), [])) : EV k 73 [(sS a0), (V.fn a1_fid [] [V.pro a1_c0])] = (slices_IndexFunc_string k a0 a1).map slices_IndexFunc_string_fin := by
 cases k with
 | zero => rfl
 | succ k =>
  unfold slices_IndexFunc_string
  refine et (evF_succ (c := f73c) (N := 19) (regs := f73n) rfl func73 rfl (by decide) rfl rfl rfl) <| kra [] rfl <| et k_assoc <| krp f73a1 rfl ⟨[(0, (sS a0)), (1, (V.fn a1_fid [] [V.pro a1_c0])), (7, (I (a0.length : Int))), (8, (I 0))], [], 19⟩ ?_ ?_
  ·exact rd 1 [(6, (sS a0))] rfl rfl <| rl rfl (p_len (e := V.str) rfl rfl rfl rfl rfl rfl underlying39) <| bind_end rfl
  refine et (k_block rfl) <| et k_loop ?_
  refine slices_IndexFunc_string_L1_ok k a0 a1 a1_fid a1_c0 a1_hok _ _ ?h_slices_IndexFunc_string_L1_0 ?hr_slices_IndexFunc_string_L1 k 0
  ·intro y8
   refine et blk_exit <| kr ⟨[(4, (I (-1)))], [], 19⟩ rfl <| et k_lret ?_
   rfl
  ·intro s; exact rfl
def slices_ContainsFunc_string_fin : Bool → V × List V := fun r => ((Bo r), [])
theorem slices_ContainsFunc_string_ok (k : Nat) (a0 : (List Str)) (a1 : Nat → Str → Option Bool) (a1_fid : Go.FuncId) (a1_c0 : V) (a1_hok : ∀ j x0, EV j a1_fid [(Sr x0), V.pro a1_c0] = (a1 j x0).map fun b => ((Bo b), [])) : EV k 50 [(sS a0), (V.fn a1_fid [] [V.pro a1_c0])] = (slices_ContainsFunc_string k a0 a1).map slices_ContainsFunc_string_fin := by
 cases k with
 | zero => rfl
 | succ k =>
  unfold slices_ContainsFunc_string
  refine et (evF_succ (c := f50c) (N := 9) (regs := f50n) rfl func50 rfl (by decide) rfl rfl rfl) <| kra [] rfl <| kg f50a1 rfl (fun (o2 : Bool) => ⟨[(4, (Bo o2))], [], 9⟩) (rd 2 [(5, (sS a0)), (6, (V.fn a1_fid [] [V.pro a1_c0]))] rfl rfl <| rp rfl (p_call rfl rfl rfl rfl rfl (slices_IndexFunc_string_ok k a0 a1 a1_fid a1_c0 a1_hok) (.inl rfl)) fun v1 => bind_end rfl) fun o2 => et k_lret ?_
  rfl
def screen_fits_1_fin : Bool → V × List V := fun r => ((Bo r), [])
theorem screen_fits_1_ok (k : Nat) (a0 : Str) (a1 : T_api_Form) : EV k 78 [(Sr a0), (Pr (eForm a1))] = (screen_fits_1 k a0 a1).map screen_fits_1_fin := by
 cases k with
 | zero => rfl
 | succ k =>
  unfold screen_fits_1
  refine et (evF_succ (c := f78c) (N := 14) (regs := f78n) rfl func78 rfl (by decide) rfl rfl rfl) <| kra [] rfl <| kg f78a1 rfl (fun (o2 : Bool) => ⟨[(3, (Bo o2))], [], 14⟩) ?_ fun o2 => ?_
  ·refine rd 6 [(4, (Sr a0)), (5, (I (a0.length : Int))), (6, (Pr (I a1.fColumns))), (7, (I a1.fColumns)), (8, (Bo ((a0.length : Int) != a1.fColumns))), (9, (Bo ((a0.length : Int) != a1.fColumns)))] rfl rfl <| bifE (fun hc => ?_) fun hc => ?_
   ·rw [hc]
    exact reg_end rfl
   ·rw [hc]
    exact rd 7 [(10, (Sr a0))] rfl rfl <| rp rfl (p_call rfl rfl rfl rfl rfl (screen_isText_ok k a0) (.inl rfl)) fun v1 => bind_end rfl
  refine et k_lret ?_
  rfl
def screen_fits_fin : Bool → V × List V := fun r => ((Bo r), [])
theorem screen_fits_ok (k : Nat) (a0 : T_api_Form) (a1 : (List Str)) : EV k 56 [(eForm a0), (sS a1)] = (screen_fits k a0 a1).map screen_fits_fin := by
 cases k with
 | zero => rfl
 | succ k =>
  unfold screen_fits
  refine et (evF_succ (c := f56c) (N := 16) (regs := f56n) rfl func56 rfl (by decide) rfl rfl rfl) <| kr ⟨[(1, (sS a1)), (2, (Pt 2))], [(2, vS 4 (eForm a0))], 16⟩ rfl <| kg f56a1 rfl (fun (o2 : Bool) => ⟨[(4, (Bo o2))], [], 16⟩) ?_ fun o2 => ?_
  ·refine rd 1 [(5, (sS a1))] rfl rfl <| rl rfl (p_len (e := V.str) rfl rfl rfl rfl rfl rfl underlying39) <| bd 6 [(6, (I (a1.length : Int))), (7, (Pt 2)), (8, (I a0.fRows)), (9, (Bo ((a1.length : Int) == a0.fRows))), (10, (Bo ((a1.length : Int) == a0.fRows)))] rfl rfl <| bifE (fun hc => ?_) fun hc => ?_
   ·rw [hc]
    exact rd 8 [(11, (sS a1)), (12, (V.fn 78 [] [(Pt 2)]))] rfl rfl <| rp rfl (p_call rfl rfl rfl rfl rfl (slices_ContainsFunc_string_ok k a1 (fun j x0 => (screen_fits_1 j x0 a0)) 78 (eForm a0) (fun j x0 => (screen_fits_1_ok j x0 a0))) (.inr (fun _ => rfl))) fun v1 => bind_end rfl
   ·rw [hc]
    exact reg_end rfl
  refine et k_lret ?_
  rfl
def screen_pictured_fin : Int → V × List V := fun r => ((I r), [])
theorem screen_pictured_ok (k : Nat) (a0 : T_api_Form) (a1 : (List Str)) : EV k 32 [(eForm a0), (sS a1)] = (screen_pictured k a0 a1).map screen_pictured_fin := by
 cases k with
 | zero => rfl
 | succ k =>
  unfold screen_pictured
  refine et (evF_succ (c := f32c) (N := 14) (regs := f32n) rfl func32 rfl (by decide) rfl rfl rfl) <| kr ⟨[(1, (sS a1)), (2, (Pt 2))], [(2, vS 4 (eForm a0))], 14⟩ rfl <| et (k_block rfl) <| kga f32a1 rfl (fun (o2 : Bool) => [(5, (Bo o2))]) (rd 1 [(6, (eForm a0))] rfl rfl <| rp rfl (p_call rfl rfl rfl rfl rfl (screen_Valid_ok k a0) (.inl rfl)) fun v1 => bind_end rfl) fun o2 => kcl rfl rfl (fun hc => ?_) fun hc => ?_
  ·rw [hc]
   refine kr ⟨[(4, (I 220))], [], 14⟩ rfl <| et k_lret <| et blk_ret ?_
   rfl
  ·rw [hc]
   refine kg f32a3 rfl (fun (o4 : Bool) => ⟨[(9, (Bo o4))], [], 14⟩) (rd 2 [(10, (eForm a0)), (11, (sS a1))] rfl rfl <| rp rfl (p_call rfl rfl rfl rfl rfl (screen_fits_ok k a0 a1) (.inl rfl)) fun v3 => bind_end rfl) fun o4 => kcl rfl rfl (fun hc => ?_) fun hc => ?_
   ·rw [hc]
    refine kr ⟨[(4, (I 2))], [], 14⟩ rfl <| et k_lret <| et blk_ret ?_
    rfl
   ·rw [hc]
    refine et k_lskip <| et blk_normal <| kr ⟨[(4, (I 0))], [], 14⟩ rfl <| et k_lret ?_
    rfl
def screen_Take_fin : ((List Str) × Int) → V × List V := fun r => (.tup [(sS r.1), (I r.2)], [])
theorem screen_Take_L2_ok (k : Nat) (a0 : T_api_Form) (a1 : (List Str)) (x25 : Int) (x26 : (List Str)) (o28 : T_api_Slot)  (K0 : Str → Option ((List Str) × Int)) (Kst : X × St → Option (V × List V)) (hK0 : ∀ (y0 : Str), Kst (X.exit 2, ⟨[(1, (sS a1)), (9, (aL 25 V.str x26)), (11, (Pt 11)), (12, (Sr y0)), (25, (aL 25 V.str x26)), (27, (sSlot a0.fFields)), (28, (I (a0.fFields.length : Int))), (29, (I x25)), (61, (Bo false))], [(11, vS 7 (eSlot o28)), (25, ⟨true, 1, List.map V.str x26⟩)], 74⟩) = (K0 y0).map screen_Take_fin) (hret : ∀ s, Kst (X.ret, s) = endK prog 74 [(eForm a0), (sS a1)] [] [.tmp 4, .tmp 5] (X.ret, s)) :
  ∀ (m : Nat) (x36 : Str), (iter (exec prog (EV k) f12n k f12b0) m ⟨[(1, (sS a1)), (9, (aL 25 V.str x26)), (11, (Pt 11)), (12, (Sr x36)), (25, (aL 25 V.str x26)), (27, (sSlot a0.fFields)), (28, (I (a0.fFields.length : Int))), (29, (I x25))], [(11, vS 7 (eSlot o28)), (25, ⟨true, 1, List.map V.str x26⟩)], 74⟩).bind Kst = (screen_Take_L2 o28 K0 m x36).map screen_Take_fin := by
 intro m
 induction m with
 | zero => intros; rfl
 | succ m ih =>
  intro x36
  unfold screen_Take_L2
  refine et k_round <| et k_assoc <| kd f12a11 rfl (fun (o38 : Bool) => ⟨[(1, (sS a1)), (9, (aL 25 V.str x26)), (11, (Pt 11)), (12, (Sr x36)), (25, (aL 25 V.str x26)), (27, (sSlot a0.fFields)), (28, (I (a0.fFields.length : Int))), (29, (I x25)), (61, (Bo o38))], [(11, vS 7 (eSlot o28)), (25, ⟨true, 1, List.map V.str x26⟩)], 74⟩) ?_ fun o38 => ?_
  ·refine et (regionE_regp (p := 13) (dk := true) (t := [(1, (sS a1)), (9, (aL 25 V.str x26)), (11, (Pt 11)), (12, (Sr x36)), (25, (aL 25 V.str x26)), (27, (sSlot a0.fFields)), (28, (I (a0.fFields.length : Int))), (29, (I x25))]) (σ := [(11, vS 7 (eSlot o28)), (25, ⟨true, 1, List.map V.str x26⟩)]) (n := 74) rfl (by decide) (by decide) rfl) <| et (regp_adv (m := 4) (j := 4) (t' := [(1, (sS a1)), (9, (aL 25 V.str x26)), (11, (Pt 11)), (12, (Sr x36)), (25, (aL 25 V.str x26)), (27, (sSlot a0.fFields)), (28, (I (a0.fFields.length : Int))), (29, (I x25)), (49, (Sr x36)), (50, (I (x36.length : Int))), (51, (Bo (decide ((x36.length : Int) > 0)))), (52, (Bo (decide ((x36.length : Int) > 0))))]) rfl rfl rfl) <| bifE (fun hc => ?_) fun hc => ?_
   ·rw [hc]
    exact et (regp_adv (m := 4) (j := 8) (t' := [(1, (sS a1)), (9, (aL 25 V.str x26)), (11, (Pt 11)), (12, (Sr x36)), (25, (aL 25 V.str x26)), (27, (sSlot a0.fFields)), (28, (I (a0.fFields.length : Int))), (29, (I x25)), (49, (Sr x36)), (50, (I (x36.length : Int))), (51, (Bo true)), (52, (Bo true)), (53, (Sr x36)), (54, (Sr x36)), (55, (I (x36.length : Int))), (56, (I (Go.IntKind.wrap .i64 ((x36.length : Int) - 1))))]) rfl rfl rfl) <| et (regp_pure (x := (idxS x36 (Go.IntKind.wrap .i64 ((x36.length : Int) - 1)))) (w := fun v37 => (V.int .u8 v37)) rfl rfl rfl rfl rfl (p_indexS rfl rfl rfl underlying9)) <| bindE fun v37 => regp_end rfl
   ·rw [hc]
    exact regp_end rfl
  refine kc rfl rfl (fun hc => ?_) fun hc => ?_
  ·rw [hc]
   exact et k_skip <| et (k_lblock rfl) <| kgl f12a12 rfl (fun (o40 : Str) => ⟨[(1, (sS a1)), (9, (aL 25 V.str x26)), (11, (Pt 11)), (12, (Sr o40)), (25, (aL 25 V.str x26)), (27, (sSlot a0.fFields)), (28, (I (a0.fFields.length : Int))), (29, (I x25))], [(11, vS 7 (eSlot o28)), (25, ⟨true, 1, List.map V.str x26⟩)], 74⟩) (rd 4 [(62, (Sr x36)), (63, (Sr x36)), (64, (I (x36.length : Int))), (65, (I (Go.IntKind.wrap .i64 ((x36.length : Int) - 1))))] rfl rfl <| rs rfl (p_sliceS rfl rfl rfl rfl rfl rfl underlying9) fun v39 => bind_end rfl) fun o40 => et blk_normal <| et k_lskip <| et loop_normal <| ih o40
  ·rw [hc]
   exact et k_exit <| et loop_exit <| hK0 x36
theorem screen_Take_L1_ok (k : Nat) (a0 : T_api_Form) (a1 : (List Str))  (K0 : Int → (List Str) → Option ((List Str) × Int)) (Kst : X × St → Option (V × List V)) (hK0 : ∀ (y0 : Int) (y1 : (List Str)), Kst (X.exit 0, ⟨[(1, (sS a1)), (9, (aL 25 V.str y1)), (25, (aL 25 V.str y1)), (27, (sSlot a0.fFields)), (28, (I (a0.fFields.length : Int))), (29, (I y0)), (30, (Bo false))], [(25, ⟨true, 1, List.map V.str y1⟩)], 74⟩) = (K0 y0 y1).map screen_Take_fin) (hret : ∀ s, Kst (X.ret, s) = endK prog 74 [(eForm a0), (sS a1)] [] [.tmp 4, .tmp 5] (X.ret, s)) :
  ∀ (m : Nat) (x25 : Int) (x26 : (List Str)), (iter (exec prog (EV k) f12n k f12b1) m ⟨[(1, (sS a1)), (9, (aL 25 V.str x26)), (25, (aL 25 V.str x26)), (27, (sSlot a0.fFields)), (28, (I (a0.fFields.length : Int))), (29, (I x25))], [(25, ⟨true, 1, List.map V.str x26⟩)], 74⟩).bind Kst = (screen_Take_L1 k a0 a1 K0 m x25 x26).map screen_Take_fin := by
 intro m
 induction m with
 | zero => intros; rfl
 | succ m ih =>
  intro x25 x26
  unfold screen_Take_L1
  refine et k_round <| kra [(30, (Bo (decide (x25 < (a0.fFields.length : Int)))))] rfl <| kc rfl rfl (fun hc => ?_) fun hc => ?_
  ·rw [hc]
   refine et k_skip <| et (k_block rfl) <| kg f12a8 rfl (fun (o28 : T_api_Slot) => ⟨[(1, (sS a1)), (9, (aL 25 V.str x26)), (11, (Pt 11)), (25, (aL 25 V.str x26)), (27, (sSlot a0.fFields)), (28, (I (a0.fFields.length : Int))), (29, (I x25))], [(11, vS 7 (eSlot o28)), (25, ⟨true, 1, List.map V.str x26⟩)], 74⟩) (rs rfl (p_index (e := eSlot) rfl rfl rfl underlying23 rfl (by decide)) fun v27 => bind_end rfl) fun o28 => et k_assoc <| kra [(35, (Bo (decide (o28.fIn < 0))))] rfl <| kc rfl rfl (fun hc => ?_) fun hc => ?_
   ·rw [hc]
    exact et k_exit <| et blk_exit <| kl ⟨[(1, (sS a1)), (9, (aL 25 V.str x26)), (25, (aL 25 V.str x26)), (27, (sSlot a0.fFields)), (28, (I (a0.fFields.length : Int))), (29, (I (Go.IntKind.wrap .i64 (x25 + 1))))], [(25, ⟨true, 1, List.map V.str x26⟩)], 74⟩ rfl <| et loop_normal <| ih (Go.IntKind.wrap .i64 (x25 + 1)) x26
   ·rw [hc]
    refine et k_skip <| kd f12a10 rfl (fun (o31 : Str) => ⟨[(1, (sS a1)), (9, (aL 25 V.str x26)), (11, (Pt 11)), (12, (Sr o31)), (25, (aL 25 V.str x26)), (27, (sSlot a0.fFields)), (28, (I (a0.fFields.length : Int))), (29, (I x25))], [(11, vS 7 (eSlot o28)), (25, ⟨true, 1, List.map V.str x26⟩)], 74⟩) (et (regionE_regp (p := 14) (dk := true) (t := [(1, (sS a1)), (9, (aL 25 V.str x26)), (11, (Pt 11)), (25, (aL 25 V.str x26)), (27, (sSlot a0.fFields)), (28, (I (a0.fFields.length : Int))), (29, (I x25)), (35, (Bo false))]) (σ := [(11, vS 7 (eSlot o28)), (25, ⟨true, 1, List.map V.str x26⟩)]) (n := 74) rfl (by decide) (by decide) rfl) <| et (regp_adv (m := 3) (j := 3) (t' := [(1, (sS a1)), (9, (aL 25 V.str x26)), (11, (Pt 11)), (25, (aL 25 V.str x26)), (27, (sSlot a0.fFields)), (28, (I (a0.fFields.length : Int))), (29, (I x25)), (35, (Bo false)), (36, (sS a1)), (37, (V.ptr 11 0 1)), (38, (I o28.fRow))]) rfl rfl rfl) <| et (regp_pure (x := (idx a1 o28.fRow)) (w := fun v29 => (Pr (Sr v29))) rfl rfl rfl rfl rfl (p_index (e := V.str) rfl rfl rfl underlying39 rfl (by decide))) <| bindE fun v29 => et (putp_adv (m := 8) (j := 12) (t' := [(1, (sS a1)), (9, (aL 25 V.str x26)), (11, (Pt 11)), (25, (aL 25 V.str x26)), (27, (sSlot a0.fFields)), (28, (I (a0.fFields.length : Int))), (29, (I x25)), (35, (Bo false)), (36, (sS a1)), (37, (V.ptr 11 0 1)), (38, (I o28.fRow)), (39, (Pr (Sr v29))), (40, (Sr v29)), (41, (V.ptr 11 0 2)), (42, (I o28.fColumn)), (43, (V.ptr 11 0 2)), (44, (I o28.fColumn)), (45, (V.ptr 11 0 3)), (46, (I o28.fBytes)), (47, (I (Go.IntKind.wrap .i64 (o28.fColumn + o28.fBytes))))]) rfl rfl rfl) <| et (regp_pure (x := (cut v29 o28.fColumn (Go.IntKind.wrap .i64 (o28.fColumn + o28.fBytes)))) (w := fun v30 => (Sr v30)) rfl rfl rfl rfl rfl (p_sliceS rfl rfl rfl rfl rfl rfl underlying9)) <| bind_self fun v30 => regp_end rfl) fun o31 => et (k_block rfl) <| et k_loop ?_
    refine screen_Take_L2_ok k a0 a1 x25 x26 o28 _ _ ?h_screen_Take_L2_0 ?hr_screen_Take_L2 k o31
    ·intro y41
     refine et blk_exit <| kgl f12a13 rfl (fun (o44 : (List Str)) => ⟨[(1, (sS a1)), (9, (aL 25 V.str o44)), (25, (aL 25 V.str o44)), (27, (sSlot a0.fFields)), (28, (I (a0.fFields.length : Int))), (29, (I x25))], [(25, ⟨true, 1, List.map V.str o44⟩)], 74⟩) ?_ fun o44 => ?_
     ·refine rd 4 [(67, (aL 25 V.str x26)), (68, (V.ptr 11 0 4)), (69, (I o28.fIn)), (70, (Sr y41))] rfl rfl <| rp rfl (p_indexF (e := V.str) rfl rfl rfl underlying39 rfl rfl (by decide)) fun v42 => bd 5 [(71, (V.ptr 25 (0 + o28.fIn.toNat) 0))] rfl rfl <| et (reg_eff (x := (x26[0 + o28.fIn.toNat]?)) (w := fun _ => (V.tup [], _)) rfl rfl rfl rfl (p_storeL (S := (fun n_ => ⟨[(1, (sS a1)), (9, (V.aref 25 0 n_)), (11, (Pt 11)), (12, (Sr y41)), (25, (V.aref 25 0 n_)), (27, (sSlot a0.fFields)), (28, (I (a0.fFields.length : Int))), (29, (I x25)), (61, (Bo false)), (67, (V.aref 25 0 n_)), (68, (V.ptr 11 0 4)), (69, (I o28.fIn)), (70, (Sr y41)), (71, (V.ptr 25 (0 + o28.fIn.toNat) 0))], [(11, vS 7 (eSlot o28)), (25, ⟨true, 1, List.map V.str x26⟩)], 74⟩)) (e := V.str) (l := x26) (v := y41) rfl rfl rfl rfl rfl rfl rfl rfl rfl rfl (fun _ => rfl))) ?_
      exact bindE fun v43 => bind_end rfl
     exact et blk_normal <| kl ⟨[(1, (sS a1)), (9, (aL 25 V.str o44)), (25, (aL 25 V.str o44)), (27, (sSlot a0.fFields)), (28, (I (a0.fFields.length : Int))), (29, (I (Go.IntKind.wrap .i64 (x25 + 1))))], [(25, ⟨true, 1, List.map V.str o44⟩)], 74⟩ rfl <| et loop_normal <| ih (Go.IntKind.wrap .i64 (x25 + 1)) o44
    ·intro s; exact hret s
  ·rw [hc]
   exact et k_exit <| et loop_exit <| hK0 x25 x26
theorem screen_Take_ok (k : Nat) (a0 : T_api_Form) (a1 : (List Str)) : EV k 12 [(eForm a0), (sS a1)] = (screen_Take k a0 a1).map screen_Take_fin := by
 cases k with
 | zero => rfl
 | succ k =>
  unfold screen_Take
  refine et (evF_succ (c := f12c) (N := 74) (regs := f12n) rfl func12 rfl (by decide) rfl rfl rfl) <| kr ⟨[(1, (sS a1)), (2, (Pt 2))], [(2, vS 4 (eForm a0))], 74⟩ rfl <| et k_assoc <| kga f12a1 rfl (fun (o2 : Int) => [(6, (I o2))]) (rd 2 [(13, (eForm a0)), (14, (sS a1))] rfl rfl <| rs rfl (p_call rfl rfl rfl rfl rfl (screen_pictured_ok k a0 a1) (.inl rfl)) fun v1 => bind_end rfl) fun o2 => et k_assoc <| kra [(17, (Bo (o2 != 0)))] rfl <| kc rfl rfl (fun hc => ?_) fun hc => ?_
  ·rw [hc]
   refine et k_assoc <| kr ⟨[(4, (sS (([] : List Str)))), (5, (I o2))], [], 74⟩ rfl <| et k_ret ?_
   rfl
  ·rw [hc]
   refine et k_skip <| kg f12a4 rfl (fun (o4 : Int) => ⟨[(1, (sS a1)), (2, (Pt 2)), (7, (I o4))], [(2, vS 4 (eForm a0))], 74⟩) (rd 1 [(20, (eForm a0))] rfl rfl <| rp rfl (p_call rfl rfl rfl rfl rfl (screen_lengths_ok k a0) (.inl rfl)) fun v3 => bind_end rfl) fun o4 => kg f12a5 rfl (fun (o6 : (List Str)) => ⟨[(1, (sS a1)), (2, (Pt 2)), (9, (aL 25 V.str o6)), (25, (aL 25 V.str o6))], [(2, vS 4 (eForm a0)), (25, ⟨true, 1, List.map V.str o6⟩)], 74⟩) (rd 1 [(24, (I o4))] rfl rfl <| et (reg_eff (x := (mkN [] o4)) (w := fun v5 => ((V.sl 2 1 (List.map V.str v5)), _)) rfl rfl rfl rfl (p_makeS (e := V.str) (z := []) rfl rfl rfl rfl underlying39 (of_decide_eq_true rfl) rfl rfl rfl rfl)) <| bind_self fun v5 => bind_end rfl) fun o6 => et k_assoc <| krp f12a6 rfl ⟨[(1, (sS a1)), (9, (aL 25 V.str o6)), (25, (aL 25 V.str o6)), (27, (sSlot a0.fFields)), (28, (I (a0.fFields.length : Int))), (29, (I 0))], [(25, ⟨true, 1, List.map V.str o6⟩)], 74⟩ ?_ ?_
   ·exact rd 2 [(26, (V.ptr 2 0 3)), (27, (sSlot a0.fFields))] rfl rfl <| rl rfl (p_len (e := eSlot) rfl rfl rfl rfl rfl rfl underlying23) <| bind_end rfl
   refine et (k_block rfl) <| et k_loop ?_
   refine screen_Take_L1_ok k a0 a1 _ _ ?h_screen_Take_L1_0 ?hr_screen_Take_L1 k 0 o6
   ·intro y45 y46
    refine et blk_exit <| krp f12a15 rfl ⟨[(4, (sS y46)), (5, (I 0))], [], 74⟩ ?_ ?_
    ·exact rd 1 [(73, (aL 25 V.str y46))] rfl rfl <| et (reg_eff (x := some ()) (w := fun _ => ((V.sl 2 1 (List.map V.str y46)), _)) rfl rfl rfl rfl (p_close (e := V.str) rfl rfl rfl rfl rfl (of_decide_eq_true rfl))) <| et some_bind <| bind_end rfl
    refine et k_lret ?_
    rfl
   ·intro s; exact rfl
def ref01_SameTexts_fin : Bool → V × List V := fun r => ((Bo r), [])
theorem ref01_SameTexts_L1_ok (k : Nat) (a0 : (List Str)) (a1 : (List Str))  (K0 : Int → Option Bool) (Kst : X × St → Option (V × List V)) (hK0 : ∀ (y0 : Int), Kst (X.exit 0, ⟨[(0, (sS a0)), (1, (sS a1)), (5, (I y0)), (14, (Bo false))], [], 26⟩) = (K0 y0).map ref01_SameTexts_fin) (hret : ∀ s, Kst (X.ret, s) = endK prog 26 [(sS a0), (sS a1)] [] [.tmp 4] (X.ret, s)) :
  ∀ (m : Nat) (x4 : Int), (iter (exec prog (EV k) f13n k f13b0) m ⟨[(0, (sS a0)), (1, (sS a1)), (5, (I x4))], [], 26⟩).bind Kst = (ref01_SameTexts_L1 a0 a1 K0 m x4).map ref01_SameTexts_fin := by
 intro m
 induction m with
 | zero => intros; rfl
 | succ m ih =>
  intro x4
  unfold ref01_SameTexts_L1
  refine et k_round <| et k_assoc <| krp f13a4 rfl ⟨[(0, (sS a0)), (1, (sS a1)), (5, (I x4)), (14, (Bo (decide (x4 < (a0.length : Int)))))], [], 26⟩ ?_ ?_
  ·exact rd 2 [(11, (I x4)), (12, (sS a0))] rfl rfl <| rl rfl (p_len (e := V.str) rfl rfl rfl rfl rfl rfl underlying39) <| bind_end rfl
  refine kc rfl rfl (fun hc => ?_) fun hc => ?_
  ·rw [hc]
   refine et k_skip <| et (k_block rfl) <| kd f13a6 rfl (fun (o7 : Bool) => ⟨[(0, (sS a0)), (1, (sS a1)), (5, (I x4)), (25, (Bo o7))], [], 26⟩) (et (regionE_regp (p := 9) (dk := true) (t := [(0, (sS a0)), (1, (sS a1)), (5, (I x4)), (14, (Bo true))]) (σ := []) (n := 26) rfl (by decide) (by decide) rfl) <| et (regp_adv (m := 2) (j := 2) (t' := [(0, (sS a0)), (1, (sS a1)), (5, (I x4)), (14, (Bo true)), (17, (sS a0)), (18, (I x4))]) rfl rfl rfl) <| et (regp_pure (x := (idx a0 x4)) (w := fun v5 => (Pr (Sr v5))) rfl rfl rfl rfl rfl (p_index (e := V.str) rfl rfl rfl underlying39 rfl (by decide))) <| bindE fun v5 => et (putp_adv (m := 3) (j := 6) (t' := [(0, (sS a0)), (1, (sS a1)), (5, (I x4)), (14, (Bo true)), (17, (sS a0)), (18, (I x4)), (19, (Pr (Sr v5))), (20, (Sr v5)), (21, (sS a1)), (22, (I x4))]) rfl rfl rfl) <| et (regp_pure (x := (idx a1 x4)) (w := fun v6 => (Pr (Sr v6))) rfl rfl rfl rfl rfl (p_index (e := V.str) rfl rfl rfl underlying39 rfl (by decide))) <| bindE fun v6 => regp_end rfl) fun o7 => kcl rfl rfl (fun hc => ?_) fun hc => ?_
   ·rw [hc]
    refine kr ⟨[(4, (Bo false))], [], 26⟩ rfl <| et k_lret <| et blk_ret <| et loop_ret <| et (hret _) ?_
    rfl
   ·rw [hc]
    exact et k_lskip <| et blk_normal <| kl ⟨[(0, (sS a0)), (1, (sS a1)), (5, (I (Go.IntKind.wrap .i64 (x4 + 1))))], [], 26⟩ rfl <| et loop_normal <| ih (Go.IntKind.wrap .i64 (x4 + 1))
  ·rw [hc]
   exact et k_exit <| et loop_exit <| hK0 x4
theorem ref01_SameTexts_ok (k : Nat) (a0 : (List Str)) (a1 : (List Str)) : EV k 13 [(sS a0), (sS a1)] = (ref01_SameTexts k a0 a1).map ref01_SameTexts_fin := by
 cases k with
 | zero => rfl
 | succ k =>
  unfold ref01_SameTexts
  refine et (evF_succ (c := f13c) (N := 26) (regs := f13n) rfl func13 rfl (by decide) rfl rfl rfl) <| kra [] rfl <| et k_assoc <| krp f13a1 rfl ⟨[(0, (sS a0)), (1, (sS a1)), (10, (Bo ((a0.length : Int) != (a1.length : Int))))], [], 26⟩ ?_ ?_
  ·exact rd 1 [(6, (sS a0))] rfl rfl <| rl rfl (p_len (e := V.str) rfl rfl rfl rfl rfl rfl underlying39) <| bd 3 [(7, (I (a0.length : Int))), (8, (sS a1))] rfl rfl <| rl rfl (p_len (e := V.str) rfl rfl rfl rfl rfl rfl underlying39) <| bind_end rfl
  refine kc rfl rfl (fun hc => ?_) fun hc => ?_
  ·rw [hc]
   refine et k_assoc <| kr ⟨[(4, (Bo false))], [], 26⟩ rfl <| et k_ret ?_
   rfl
  ·rw [hc]
   refine et k_skip <| et k_assoc <| kr ⟨[(0, (sS a0)), (1, (sS a1)), (5, (I 0))], [], 26⟩ rfl <| et (k_block rfl) <| et k_loop ?_
   refine ref01_SameTexts_L1_ok k a0 a1 _ _ ?h_ref01_SameTexts_L1_0 ?hr_ref01_SameTexts_L1 k 0
   ·intro y8
    refine et blk_exit <| kr ⟨[(4, (Bo true))], [], 26⟩ rfl <| et k_lret ?_
    rfl
   ·intro s; exact rfl
def law24_Awake_fin : Bool → V × List V := fun r => ((Bo r), [])
theorem law24_Awake_ok (k : Nat)  : EV k 5 [] = (law24_Awake k).map law24_Awake_fin := by
 cases k with
 | zero => rfl
 | succ k =>
  unfold law24_Awake
  refine et (evF_succ (c := f5c) (N := 45) (regs := f5n) rfl func5 rfl (by decide) rfl rfl rfl) <| kra [] rfl <| kr ⟨[(1, (Pt 1))], [(1, ⟨false, 4, [(eForm ({ fRows := 2, fColumns := 20, fMarks := ([({ fRow := 0, fColumn := 0, fText := ([78, 65, 77, 69, 58] : Str) } : T_api_Mark)] : List T_api_Mark), fFields := ([({ fName := ([65] : Str), fRow := 0, fColumn := 6, fBytes := 5, fIn := 0, fOut := 0, fFill := 95 } : T_api_Slot)] : List T_api_Slot) } : T_api_Form))]⟩)], 45⟩ rfl <| kga f5a2 rfl (fun (o2 : (List Str) × Int) => [(2, (sS o2.1)), (3, (I o2.2))]) (rd 2 [(12, (eForm ({ fRows := 2, fColumns := 20, fMarks := ([({ fRow := 0, fColumn := 0, fText := ([78, 65, 77, 69, 58] : Str) } : T_api_Mark)] : List T_api_Mark), fFields := ([({ fName := ([65] : Str), fRow := 0, fColumn := 6, fBytes := 5, fIn := 0, fOut := 0, fFill := 95 } : T_api_Slot)] : List T_api_Slot) } : T_api_Form))), (13, (sS (([([65, 66] : Str)] : List Str))))] rfl rfl <| rp rfl (p_call rfl rfl rfl rfl rfl (screen_Show_ok k ({ fRows := 2, fColumns := 20, fMarks := ([({ fRow := 0, fColumn := 0, fText := ([78, 65, 77, 69, 58] : Str) } : T_api_Mark)] : List T_api_Mark), fFields := ([({ fName := ([65] : Str), fRow := 0, fColumn := 6, fBytes := 5, fIn := 0, fOut := 0, fFill := 95 } : T_api_Slot)] : List T_api_Slot) } : T_api_Form) ([([65, 66] : Str)] : List Str)) (.inl rfl)) fun v1 => bind_end rfl) fun o2 => kg f5a3 rfl (fun (o4 : (List Str) × Int) => ⟨[(2, (sS o2.1)), (3, (I o2.2)), (4, (sS o4.1)), (5, (I o4.2))], [], 45⟩) (rd 2 [(18, (eForm ({ fRows := 2, fColumns := 20, fMarks := ([({ fRow := 0, fColumn := 0, fText := ([78, 65, 77, 69, 58] : Str) } : T_api_Mark)] : List T_api_Mark), fFields := ([({ fName := ([65] : Str), fRow := 0, fColumn := 6, fBytes := 5, fIn := 0, fOut := 0, fFill := 95 } : T_api_Slot)] : List T_api_Slot) } : T_api_Form))), (19, (sS o2.1))] rfl rfl <| rp rfl (p_call rfl rfl rfl rfl rfl (screen_Take_ok k ({ fRows := 2, fColumns := 20, fMarks := ([({ fRow := 0, fColumn := 0, fText := ([78, 65, 77, 69, 58] : Str) } : T_api_Mark)] : List T_api_Mark), fFields := ([({ fName := ([65] : Str), fRow := 0, fColumn := 6, fBytes := 5, fIn := 0, fOut := 0, fFill := 95 } : T_api_Slot)] : List T_api_Slot) } : T_api_Form) o2.1) (.inl rfl)) fun v3 => bind_end rfl) fun o4 => kg f5a4 rfl (fun (o7 : Bool) => ⟨[(0, (Bo o7))], [], 45⟩) ?_ fun o7 => ?_
  ·refine rd 3 [(23, (I o2.2)), (24, (Bo (o2.2 == 0))), (25, (Bo (o2.2 == 0)))] rfl rfl <| bifE (fun hc => ?_) fun hc => ?_
   ·rw [hc]
    refine rd 7 [(26, (I o4.2)), (27, (Bo (o4.2 == 0))), (28, (Bo (o4.2 == 0))), (29, (Bo (o4.2 == 0)))] rfl rfl <| bifE (fun hc => ?_) fun hc => ?_
    ·rw [hc]
     refine rd 8 [(30, (sS o2.1))] rfl rfl <| rl rfl (p_len (e := V.str) rfl rfl rfl rfl rfl rfl underlying39) <| bd 12 [(31, (I (o2.1.length : Int))), (32, (Bo ((o2.1.length : Int) == 2))), (33, (Bo ((o2.1.length : Int) == 2))), (34, (Bo ((o2.1.length : Int) == 2)))] rfl rfl <| bifE (fun hc => ?_) fun hc => ?_
     ·rw [hc]
      refine rd 13 [(35, (sS o2.1))] rfl rfl <| rp rfl (p_index (e := V.str) rfl rfl rfl underlying39 rfl (by decide)) fun v5 => bd 18 [(36, (Pr (Sr v5))), (37, (Sr v5)), (38, (Bo (v5 == ([78, 65, 77, 69, 58, 32, 65, 66, 95, 95, 95, 32, 32, 32, 32, 32, 32, 32, 32, 32] : Str)))), (39, (Bo (v5 == ([78, 65, 77, 69, 58, 32, 65, 66, 95, 95, 95, 32, 32, 32, 32, 32, 32, 32, 32, 32] : Str)))), (40, (Bo (v5 == ([78, 65, 77, 69, 58, 32, 65, 66, 95, 95, 95, 32, 32, 32, 32, 32, 32, 32, 32, 32] : Str))))] rfl rfl <| bifE (fun hc => ?_) fun hc => ?_
      ·rw [hc]
       exact rd 20 [(41, (sS o4.1)), (42, (sS (([([65, 66] : Str)] : List Str))))] rfl rfl <| rs rfl (p_call rfl rfl rfl rfl rfl (ref01_SameTexts_ok k o4.1 ([([65, 66] : Str)] : List Str)) (.inl rfl)) fun v6 => bind_end rfl
      ·rw [hc]
       exact reg_end rfl
     ·rw [hc]
      exact reg_end rfl
    ·rw [hc]
     exact reg_end rfl
   ·rw [hc]
    exact reg_end rfl
  refine et k_lret ?_
  rfl
def strconv_Itoa_fin : Str → V × List V := fun r => (Sr r, [])
theorem strconv_Itoa_ok (k : Nat) (n : Int) : EV k 19 [(I n)] = (strconv_Itoa k n).map strconv_Itoa_fin := by
 cases k with
 | zero => rfl
 | succ k => exact (evF_ext (ext := ext) (f := 19) rfl).trans rfl
def strings_Join_fin : Str → V × List V := fun r => (Sr r, [])
theorem strings_Join_ok (k : Nat) (s : List Str) (n : Str) : EV k 17 [(sS s), (Sr n)] = (strings_Join k s n).map strings_Join_fin := by
 cases k with
 | zero => rfl
 | succ k => exact (evF_ext (ext := ext) (f := 17) rfl).trans (extStrJoin_map s n)
def strings_Builder_WriteString_fin (s : Str) : Str → V × List V := fun r => ((V.tup [(I (s.length : Int)), V.nilif]), [(V.io (V.agg [V.tp 0 46, V.row 5 r]))])
theorem strings_Builder_WriteString_ok (k : Nat) (b : Str) (s : Str) : EV k 16 [(V.io (V.agg [V.tp 0 46, V.row 5 b])), (Sr s)] = (strings_Builder_WriteString k b s).map (strings_Builder_WriteString_fin s) := by
 cases k with
 | zero => rfl
 | succ k => exact (evF_ext (ext := ext) (f := 16) rfl).trans rfl
def strings_Builder_WriteByte_fin : Str → V × List V := fun r => (V.nilif, [(V.io (V.agg [V.tp 0 46, V.row 5 r]))])
theorem strings_Builder_WriteByte_ok (k : Nat) (b : Str) (s : Int) : EV k 18 [(V.io (V.agg [V.tp 0 46, V.row 5 b])), (V.int .u8 s)] = (strings_Builder_WriteByte k b s).map (strings_Builder_WriteByte_fin) := by
 cases k with
 | zero => rfl
 | succ k => exact (evF_ext (ext := ext) (f := 18) rfl).trans rfl
def screen_Format_1_fin : (Str) → V × List V := fun r => ((.tup []), [(V.io (V.agg [V.tp 0 46, V.row 5 r]))])
theorem screen_Format_1_ok (k : Nat) (a0 : (List Str)) (a1 : Str) : EV k 15 [(sS a0), (V.io (V.agg [V.tp 0 46, V.row 5 a1]))] = (screen_Format_1 k a0 a1).map screen_Format_1_fin := by
 cases k with
 | zero => rfl
 | succ k =>
  unfold screen_Format_1
  refine et (evF_succ (c := f15c) (N := 7) (regs := f15n) rfl func15 rfl (by decide) rfl rfl rfl) <| kg f15a0 rfl (fun (o3 : Str) => ⟨[(1, (Pt 8))], [(8, ⟨false, 2, [(V.agg [V.tp 8 46, V.row 5 o3])]⟩)], 7⟩) (rd 1 [(3, (sS a0))] rfl rfl <| rp rfl (p_call rfl rfl rfl rfl rfl (strings_Join_ok k a0 ([32] : Str)) (.inl rfl)) fun v1 => bd 2 [(4, (Sr v1))] rfl rfl <| et (reg_eff (x := (strings_Builder_WriteString k a1 v1)) (w := fun (v2 : Str) => ((V.tup [(I (v1.length : Int)), V.nilif]), _)) rfl rfl rfl rfl (p_callIO (fr := fun (v2 : Str) => (V.tup [(I (v1.length : Int)), V.nilif])) (fe := fun (v2 : Str) => (V.agg [V.tp 0 46, V.row 5 v2])) (fe' := fun (v2 : Str) => (V.agg [V.tp 8 46, V.row 5 v2])) rfl rfl rfl rfl rfl rfl rfl (strings_Builder_WriteString_ok k a1 v1) (fun _ => rfl))) <| bind_self fun v2 => bind_end rfl) fun o3 => kgl f15a1 rfl (fun (o5 : Str) => ⟨[], [(8, ⟨false, 2, [(V.agg [V.tp 8 46, V.row 5 o5])]⟩)], 7⟩) (et (reg_eff (x := (strings_Builder_WriteByte k o3 10)) (w := fun (v4 : Str) => (V.nilif, _)) rfl rfl rfl rfl (p_callIO (fr := fun (v4 : Str) => V.nilif) (fe := fun (v4 : Str) => (V.agg [V.tp 0 46, V.row 5 v4])) (fe' := fun (v4 : Str) => (V.agg [V.tp 8 46, V.row 5 v4])) rfl rfl rfl rfl rfl rfl rfl (strings_Builder_WriteByte_ok k o3 10) (fun _ => rfl))) <| bind_self fun v4 => bind_end rfl) fun o5 => ?_
  first | rfl | (cases o5; simp only at hc; subst hc; rfl)
def screen_place_fin : Str → V × List V := fun r => ((Sr r), [])
theorem screen_place_ok (k : Nat) (a0 : Int) : EV k 20 [(I a0)] = (screen_place k a0).map screen_place_fin := by
 cases k with
 | zero => rfl
 | succ k =>
  unfold screen_place
  refine et (evF_succ (c := f20c) (N := 7) (regs := f20n) rfl func20 rfl (by decide) rfl rfl rfl) <| kra [] rfl <| et k_assoc <| kra [(4, (Bo (decide (a0 < 0))))] rfl <| kc rfl rfl (fun hc => ?_) fun hc => ?_
  ·rw [hc]
   refine et k_assoc <| kr ⟨[(2, (Sr ([45] : Str)))], [], 7⟩ rfl <| et k_ret ?_
   rfl
  ·rw [hc]
   refine et k_skip <| kg f20a3 rfl (fun (o2 : Str) => ⟨[(2, (Sr o2))], [], 7⟩) (rd 1 [(5, (I a0))] rfl rfl <| rs rfl (p_call rfl rfl rfl rfl rfl (strconv_Itoa_ok k a0) (.inl rfl)) fun v1 => bind_end rfl) fun o2 => et k_lret ?_
   rfl
def strings_Builder_String_fin : Str → V × List V := fun r => ((Sr r), [(V.io (V.agg [V.tp 0 46, V.row 5 r]))])
theorem strings_Builder_String_ok (k : Nat) (b : Str) : EV k 21 [(V.io (V.agg [V.tp 0 46, V.row 5 b]))] = (strings_Builder_String k b).map (strings_Builder_String_fin) := by
 cases k with
 | zero => rfl
 | succ k => exact (evF_ext (ext := ext) (f := 21) rfl).trans rfl
def screen_Format_fin : (Str × Int) → V × List V := fun r => (.tup [(Sr r.1), (I r.2)], [])
theorem screen_Format_L1_ok (k : Nat) (a0 : T_api_Form)  (K0 : Int → Str → Option (Str × Int)) (Kst : X × St → Option (V × List V)) (hK0 : ∀ (y0 : Int) (y1 : Str), Kst (X.exit 0, ⟨[(1, (Pt 1)), (4, (Pt 4)), (5, (V.fn 15 [] [(Pt 4)])), (24, (sMark a0.fMarks)), (25, (I (a0.fMarks.length : Int))), (26, (I y0)), (27, (Bo false))], [(1, vS 4 (eForm a0)), (4, ⟨false, 2, [(V.agg [V.tp 4 46, V.row 5 y1])]⟩)], 75⟩) = (K0 y0 y1).map screen_Format_fin) (hret : ∀ s, Kst (X.ret, s) = endK prog 75 [(eForm a0)] [] [.tmp 2, .tmp 3] (X.ret, s)) :
  ∀ (m : Nat) (x13 : Int) (x14 : Str), (iter (exec prog (EV k) f6n k f6b0) m ⟨[(1, (Pt 1)), (4, (Pt 4)), (5, (V.fn 15 [] [(Pt 4)])), (24, (sMark a0.fMarks)), (25, (I (a0.fMarks.length : Int))), (26, (I x13))], [(1, vS 4 (eForm a0)), (4, ⟨false, 2, [(V.agg [V.tp 4 46, V.row 5 x14])]⟩)], 75⟩).bind Kst = (screen_Format_L1 k a0 K0 m x13 x14).map screen_Format_fin := by
 intro m
 induction m with
 | zero => intros; rfl
 | succ m ih =>
  intro x13 x14
  unfold screen_Format_L1
  refine et k_round <| kra [(27, (Bo (decide (x13 < (a0.fMarks.length : Int)))))] rfl <| kc rfl rfl (fun hc => ?_) fun hc => ?_
  ·rw [hc]
   exact et k_skip <| et (k_block rfl) <| kg f6a8 rfl (fun (o16 : T_api_Mark) => ⟨[(1, (Pt 1)), (4, (Pt 4)), (5, (V.fn 15 [] [(Pt 4)])), (7, (Pt 7)), (24, (sMark a0.fMarks)), (25, (I (a0.fMarks.length : Int))), (26, (I x13))], [(1, vS 4 (eForm a0)), (4, ⟨false, 2, [(V.agg [V.tp 4 46, V.row 5 x14])]⟩), (7, vS 3 (eMark o16))], 75⟩) (rs rfl (p_index (e := eMark) rfl rfl rfl underlying22 rfl (by decide)) fun v15 => bind_end rfl) fun o16 => kdl f6a9 rfl (fun (o20 : Str) => ⟨[(1, (Pt 1)), (4, (Pt 4)), (5, (V.fn 15 [] [(Pt 4)])), (24, (sMark a0.fMarks)), (25, (I (a0.fMarks.length : Int))), (26, (I x13))], [(1, vS 4 (eForm a0)), (4, ⟨false, 2, [(V.agg [V.tp 4 46, V.row 5 o20])]⟩)], 75⟩) (et (regionE_regp (p := 10) (dk := true) (t := [(1, (Pt 1)), (4, (Pt 4)), (5, (V.fn 15 [] [(Pt 4)])), (7, (Pt 7)), (24, (sMark a0.fMarks)), (25, (I (a0.fMarks.length : Int))), (26, (I x13))]) (σ := [(1, vS 4 (eForm a0)), (4, ⟨false, 2, [(V.agg [V.tp 4 46, V.row 5 x14])]⟩), (7, vS 3 (eMark o16))]) (n := 75) rfl (by decide) (by decide) rfl) <| et (regp_adv (m := 3) (j := 3) (t' := [(1, (Pt 1)), (4, (Pt 4)), (5, (V.fn 15 [] [(Pt 4)])), (7, (Pt 7)), (24, (sMark a0.fMarks)), (25, (I (a0.fMarks.length : Int))), (26, (I x13)), (30, (V.fn 15 [] [(Pt 4)])), (31, (Pt 7)), (32, (I o16.fRow))]) rfl rfl rfl) <| et (regp_pure (x := (strconv_Itoa k o16.fRow)) (w := fun v17 => (Sr v17)) rfl rfl rfl rfl rfl (p_call rfl rfl rfl rfl rfl (strconv_Itoa_ok k o16.fRow) (.inl rfl))) <| bindE fun v17 => et (putp_adv (m := 2) (j := 6) (t' := [(1, (Pt 1)), (4, (Pt 4)), (5, (V.fn 15 [] [(Pt 4)])), (7, (Pt 7)), (24, (sMark a0.fMarks)), (25, (I (a0.fMarks.length : Int))), (26, (I x13)), (30, (V.fn 15 [] [(Pt 4)])), (31, (Pt 7)), (32, (I o16.fRow)), (33, (Sr v17)), (34, (V.ptr 7 0 1)), (35, (I o16.fColumn))]) rfl rfl rfl) <| et (regp_pure (x := (strconv_Itoa k o16.fColumn)) (w := fun v18 => (Sr v18)) rfl rfl rfl rfl rfl (p_call rfl rfl rfl rfl rfl (strconv_Itoa_ok k o16.fColumn) (.inl rfl))) <| bindE fun v18 => et (regp_reg (m := 0) (j := 10) (st' := ⟨[(1, (Pt 1)), (4, (Pt 4)), (5, (V.fn 15 [] [(Pt 4)])), (7, (Pt 7)), (24, (sMark a0.fMarks)), (25, (I (a0.fMarks.length : Int))), (26, (I x13)), (30, (V.fn 15 [] [(Pt 4)])), (31, (Pt 7)), (32, (I o16.fRow)), (33, (Sr v17)), (34, (V.ptr 7 0 1)), (35, (I o16.fColumn)), (36, (Sr v18)), (37, (V.ptr 7 0 2)), (38, (Sr o16.fText)), (39, (sS (([([77, 65, 82, 75] : Str), v17, v18, o16.fText] : List Str))))], [(1, vS 4 (eForm a0)), (4, ⟨false, 2, [(V.agg [V.tp 4 46, V.row 5 x14])]⟩), (7, vS 3 (eMark o16))], 75⟩) rfl rfl rfl) <| et (reg_eff (x := (screen_Format_1 k ([([77, 65, 82, 75] : Str), v17, v18, o16.fText] : List Str) x14)) (w := fun (v19 : (Str)) => ((V.tup []), _)) rfl rfl rfl rfl (p_callIO (fr := fun (v19 : (Str)) => (V.tup [])) (fe := fun (v19 : (Str)) => (V.agg [V.tp 0 46, V.row 5 v19])) (fe' := fun (v19 : (Str)) => (V.agg [V.tp 4 46, V.row 5 v19])) rfl rfl rfl rfl rfl rfl rfl (screen_Format_1_ok k ([([77, 65, 82, 75] : Str), v17, v18, o16.fText] : List Str) x14) (fun _ => rfl))) <| bind_self fun v19 => bind_end rfl) fun o20 => et blk_normal <| kl ⟨[(1, (Pt 1)), (4, (Pt 4)), (5, (V.fn 15 [] [(Pt 4)])), (24, (sMark a0.fMarks)), (25, (I (a0.fMarks.length : Int))), (26, (I (Go.IntKind.wrap .i64 (x13 + 1))))], [(1, vS 4 (eForm a0)), (4, ⟨false, 2, [(V.agg [V.tp 4 46, V.row 5 o20])]⟩)], 75⟩ rfl <| et loop_normal <| ih (Go.IntKind.wrap .i64 (x13 + 1)) o20
  ·rw [hc]
   exact et k_exit <| et loop_exit <| hK0 x13 x14
theorem screen_Format_L2_ok (k : Nat) (a0 : T_api_Form)  (K0 : Int → Str → Option (Str × Int)) (Kst : X × St → Option (V × List V)) (hK0 : ∀ (y0 : Int) (y1 : Str), Kst (X.exit 2, ⟨[(4, (Pt 4)), (5, (V.fn 15 [] [(Pt 4)])), (43, (sSlot a0.fFields)), (44, (I (a0.fFields.length : Int))), (45, (I y0)), (46, (Bo false))], [(4, ⟨false, 2, [(V.agg [V.tp 4 46, V.row 5 y1])]⟩)], 75⟩) = (K0 y0 y1).map screen_Format_fin) (hret : ∀ s, Kst (X.ret, s) = endK prog 75 [(eForm a0)] [] [.tmp 2, .tmp 3] (X.ret, s)) :
  ∀ (m : Nat) (x33 : Int) (x34 : Str), (iter (exec prog (EV k) f6n k f6b1) m ⟨[(4, (Pt 4)), (5, (V.fn 15 [] [(Pt 4)])), (43, (sSlot a0.fFields)), (44, (I (a0.fFields.length : Int))), (45, (I x33))], [(4, ⟨false, 2, [(V.agg [V.tp 4 46, V.row 5 x34])]⟩)], 75⟩).bind Kst = (screen_Format_L2 k a0 K0 m x33 x34).map screen_Format_fin := by
 intro m
 induction m with
 | zero => intros; rfl
 | succ m ih =>
  intro x33 x34
  unfold screen_Format_L2
  refine et k_round <| kra [(46, (Bo (decide (x33 < (a0.fFields.length : Int)))))] rfl <| kc rfl rfl (fun hc => ?_) fun hc => ?_
  ·rw [hc]
   refine et k_skip <| et (k_block rfl) <| kg f6a13 rfl (fun (o36 : T_api_Slot) => ⟨[(4, (Pt 4)), (5, (V.fn 15 [] [(Pt 4)])), (9, (Pt 9)), (43, (sSlot a0.fFields)), (44, (I (a0.fFields.length : Int))), (45, (I x33))], [(4, ⟨false, 2, [(V.agg [V.tp 4 46, V.row 5 x34])]⟩), (9, vS 7 (eSlot o36))], 75⟩) (rs rfl (p_index (e := eSlot) rfl rfl rfl underlying23 rfl (by decide)) fun v35 => bind_end rfl) fun o36 => kdl f6a14 rfl (fun (o44 : Str) => ⟨[(4, (Pt 4)), (5, (V.fn 15 [] [(Pt 4)])), (43, (sSlot a0.fFields)), (44, (I (a0.fFields.length : Int))), (45, (I x33))], [(4, ⟨false, 2, [(V.agg [V.tp 4 46, V.row 5 o44])]⟩)], 75⟩) (et (regionE_regp (p := 23) (dk := true) (t := [(4, (Pt 4)), (5, (V.fn 15 [] [(Pt 4)])), (9, (Pt 9)), (43, (sSlot a0.fFields)), (44, (I (a0.fFields.length : Int))), (45, (I x33))]) (σ := [(4, ⟨false, 2, [(V.agg [V.tp 4 46, V.row 5 x34])]⟩), (9, vS 7 (eSlot o36))]) (n := 75) rfl (by decide) (by decide) rfl) <| et (regp_adv (m := 5) (j := 5) (t' := [(4, (Pt 4)), (5, (V.fn 15 [] [(Pt 4)])), (9, (Pt 9)), (43, (sSlot a0.fFields)), (44, (I (a0.fFields.length : Int))), (45, (I x33)), (49, (V.fn 15 [] [(Pt 4)])), (50, (Pt 9)), (51, (Sr o36.fName)), (52, (V.ptr 9 0 1)), (53, (I o36.fRow))]) rfl rfl rfl) <| et (regp_pure (x := (strconv_Itoa k o36.fRow)) (w := fun v37 => (Sr v37)) rfl rfl rfl rfl rfl (p_call rfl rfl rfl rfl rfl (strconv_Itoa_ok k o36.fRow) (.inl rfl))) <| bindE fun v37 => et (putp_adv (m := 2) (j := 8) (t' := [(4, (Pt 4)), (5, (V.fn 15 [] [(Pt 4)])), (9, (Pt 9)), (43, (sSlot a0.fFields)), (44, (I (a0.fFields.length : Int))), (45, (I x33)), (49, (V.fn 15 [] [(Pt 4)])), (50, (Pt 9)), (51, (Sr o36.fName)), (52, (V.ptr 9 0 1)), (53, (I o36.fRow)), (54, (Sr v37)), (55, (V.ptr 9 0 2)), (56, (I o36.fColumn))]) rfl rfl rfl) <| et (regp_pure (x := (strconv_Itoa k o36.fColumn)) (w := fun v38 => (Sr v38)) rfl rfl rfl rfl rfl (p_call rfl rfl rfl rfl rfl (strconv_Itoa_ok k o36.fColumn) (.inl rfl))) <| bindE fun v38 => et (putp_adv (m := 2) (j := 11) (t' := [(4, (Pt 4)), (5, (V.fn 15 [] [(Pt 4)])), (9, (Pt 9)), (43, (sSlot a0.fFields)), (44, (I (a0.fFields.length : Int))), (45, (I x33)), (49, (V.fn 15 [] [(Pt 4)])), (50, (Pt 9)), (51, (Sr o36.fName)), (52, (V.ptr 9 0 1)), (53, (I o36.fRow)), (54, (Sr v37)), (55, (V.ptr 9 0 2)), (56, (I o36.fColumn)), (57, (Sr v38)), (58, (V.ptr 9 0 3)), (59, (I o36.fBytes))]) rfl rfl rfl) <| et (regp_pure (x := (strconv_Itoa k o36.fBytes)) (w := fun v39 => (Sr v39)) rfl rfl rfl rfl rfl (p_call rfl rfl rfl rfl rfl (strconv_Itoa_ok k o36.fBytes) (.inl rfl))) <| bindE fun v39 => et (putp_adv (m := 2) (j := 14) (t' := [(4, (Pt 4)), (5, (V.fn 15 [] [(Pt 4)])), (9, (Pt 9)), (43, (sSlot a0.fFields)), (44, (I (a0.fFields.length : Int))), (45, (I x33)), (49, (V.fn 15 [] [(Pt 4)])), (50, (Pt 9)), (51, (Sr o36.fName)), (52, (V.ptr 9 0 1)), (53, (I o36.fRow)), (54, (Sr v37)), (55, (V.ptr 9 0 2)), (56, (I o36.fColumn)), (57, (Sr v38)), (58, (V.ptr 9 0 3)), (59, (I o36.fBytes)), (60, (Sr v39)), (61, (V.ptr 9 0 4)), (62, (I o36.fIn))]) rfl rfl rfl) <| et (regp_pure (x := (screen_place k o36.fIn)) (w := fun v40 => (Sr v40)) rfl rfl rfl rfl rfl (p_call rfl rfl rfl rfl rfl (screen_place_ok k o36.fIn) (.inl rfl))) <| bindE fun v40 => et (putp_adv (m := 2) (j := 17) (t' := [(4, (Pt 4)), (5, (V.fn 15 [] [(Pt 4)])), (9, (Pt 9)), (43, (sSlot a0.fFields)), (44, (I (a0.fFields.length : Int))), (45, (I x33)), (49, (V.fn 15 [] [(Pt 4)])), (50, (Pt 9)), (51, (Sr o36.fName)), (52, (V.ptr 9 0 1)), (53, (I o36.fRow)), (54, (Sr v37)), (55, (V.ptr 9 0 2)), (56, (I o36.fColumn)), (57, (Sr v38)), (58, (V.ptr 9 0 3)), (59, (I o36.fBytes)), (60, (Sr v39)), (61, (V.ptr 9 0 4)), (62, (I o36.fIn)), (63, (Sr v40)), (64, (V.ptr 9 0 5)), (65, (I o36.fOut))]) rfl rfl rfl) <| et (regp_pure (x := (screen_place k o36.fOut)) (w := fun v41 => (Sr v41)) rfl rfl rfl rfl rfl (p_call rfl rfl rfl rfl rfl (screen_place_ok k o36.fOut) (.inl rfl))) <| bindE fun v41 => et (putp_adv (m := 3) (j := 21) (t' := [(4, (Pt 4)), (5, (V.fn 15 [] [(Pt 4)])), (9, (Pt 9)), (43, (sSlot a0.fFields)), (44, (I (a0.fFields.length : Int))), (45, (I x33)), (49, (V.fn 15 [] [(Pt 4)])), (50, (Pt 9)), (51, (Sr o36.fName)), (52, (V.ptr 9 0 1)), (53, (I o36.fRow)), (54, (Sr v37)), (55, (V.ptr 9 0 2)), (56, (I o36.fColumn)), (57, (Sr v38)), (58, (V.ptr 9 0 3)), (59, (I o36.fBytes)), (60, (Sr v39)), (61, (V.ptr 9 0 4)), (62, (I o36.fIn)), (63, (Sr v40)), (64, (V.ptr 9 0 5)), (65, (I o36.fOut)), (66, (Sr v41)), (67, (V.ptr 9 0 6)), (68, (V.int .u8 o36.fFill)), (69, (I (Go.IntKind.wrap .i64 o36.fFill)))]) rfl rfl rfl) <| et (regp_pure (x := (strconv_Itoa k (Go.IntKind.wrap .i64 o36.fFill))) (w := fun v42 => (Sr v42)) rfl rfl rfl rfl rfl (p_call rfl rfl rfl rfl rfl (strconv_Itoa_ok k (Go.IntKind.wrap .i64 o36.fFill)) (.inl rfl))) <| bindE fun v42 => et (regp_reg (m := 0) (j := 23) (st' := ⟨[(4, (Pt 4)), (5, (V.fn 15 [] [(Pt 4)])), (9, (Pt 9)), (43, (sSlot a0.fFields)), (44, (I (a0.fFields.length : Int))), (45, (I x33)), (49, (V.fn 15 [] [(Pt 4)])), (50, (Pt 9)), (51, (Sr o36.fName)), (52, (V.ptr 9 0 1)), (53, (I o36.fRow)), (54, (Sr v37)), (55, (V.ptr 9 0 2)), (56, (I o36.fColumn)), (57, (Sr v38)), (58, (V.ptr 9 0 3)), (59, (I o36.fBytes)), (60, (Sr v39)), (61, (V.ptr 9 0 4)), (62, (I o36.fIn)), (63, (Sr v40)), (64, (V.ptr 9 0 5)), (65, (I o36.fOut)), (66, (Sr v41)), (67, (V.ptr 9 0 6)), (68, (V.int .u8 o36.fFill)), (69, (I (Go.IntKind.wrap .i64 o36.fFill))), (70, (Sr v42)), (71, (sS (([([70, 73, 69, 76, 68] : Str), o36.fName, v37, v38, v39, v40, v41, v42] : List Str))))], [(4, ⟨false, 2, [(V.agg [V.tp 4 46, V.row 5 x34])]⟩), (9, vS 7 (eSlot o36))], 75⟩) rfl rfl rfl) <| et (reg_eff (x := (screen_Format_1 k ([([70, 73, 69, 76, 68] : Str), o36.fName, v37, v38, v39, v40, v41, v42] : List Str) x34)) (w := fun (v43 : (Str)) => ((V.tup []), _)) rfl rfl rfl rfl (p_callIO (fr := fun (v43 : (Str)) => (V.tup [])) (fe := fun (v43 : (Str)) => (V.agg [V.tp 0 46, V.row 5 v43])) (fe' := fun (v43 : (Str)) => (V.agg [V.tp 4 46, V.row 5 v43])) rfl rfl rfl rfl rfl rfl rfl (screen_Format_1_ok k ([([70, 73, 69, 76, 68] : Str), o36.fName, v37, v38, v39, v40, v41, v42] : List Str) x34) (fun _ => rfl))) <| bind_self fun v43 => bind_end rfl) fun o44 => ?_
   exact et blk_normal <| kl ⟨[(4, (Pt 4)), (5, (V.fn 15 [] [(Pt 4)])), (43, (sSlot a0.fFields)), (44, (I (a0.fFields.length : Int))), (45, (I (Go.IntKind.wrap .i64 (x33 + 1))))], [(4, ⟨false, 2, [(V.agg [V.tp 4 46, V.row 5 o44])]⟩)], 75⟩ rfl <| et loop_normal <| ih (Go.IntKind.wrap .i64 (x33 + 1)) o44
  ·rw [hc]
   exact et k_exit <| et loop_exit <| hK0 x33 x34
theorem screen_Format_ok (k : Nat) (a0 : T_api_Form) : EV k 6 [(eForm a0)] = (screen_Format k a0).map screen_Format_fin := by
 cases k with
 | zero => rfl
 | succ k =>
  unfold screen_Format
  refine et (evF_succ (c := f6c) (N := 75) (regs := f6n) rfl func6 rfl (by decide) rfl rfl rfl) <| kr ⟨[(1, (Pt 1))], [(1, vS 4 (eForm a0))], 75⟩ rfl <| et k_assoc <| kga f6a1 rfl (fun (o2 : Bool) => [(12, (Bo o2))]) (rd 1 [(10, (eForm a0))] rfl rfl <| rp rfl (p_call rfl rfl rfl rfl rfl (screen_Valid_ok k a0) (.inl rfl)) fun v1 => bind_end rfl) fun o2 => kc rfl rfl (fun hc => ?_) fun hc => ?_
  ·rw [hc]
   refine et k_assoc <| kr ⟨[(2, (Sr ([] : Str))), (3, (I 220))], [], 75⟩ rfl <| et k_ret ?_
   rfl
  ·rw [hc]
   refine et k_skip <| kr ⟨[(1, (Pt 1)), (4, (Pt 4))], [(1, vS 4 (eForm a0)), (4, ⟨false, 2, [(V.agg [V.tp 4 46, V.row 5 ([] : Str)])]⟩)], 75⟩ rfl <| kra [(5, (V.fn 15 [] [(Pt 4)]))] rfl <| kd f6a5 rfl (fun (o6 : Str) => ⟨[(1, (Pt 1)), (4, (Pt 4)), (5, (V.fn 15 [] [(Pt 4)]))], [(1, vS 4 (eForm a0)), (4, ⟨false, 2, [(V.agg [V.tp 4 46, V.row 5 o6])]⟩)], 75⟩) (et (regionE_regp (p := 8) (dk := true) (t := [(1, (Pt 1)), (4, (Pt 4)), (5, (V.fn 15 [] [(Pt 4)]))]) (σ := [(1, vS 4 (eForm a0)), (4, ⟨false, 2, [(V.agg [V.tp 4 46, V.row 5 ([] : Str)])]⟩)]) (n := 75) rfl (by decide) (by decide) rfl) <| et (regp_adv (m := 3) (j := 3) (t' := [(1, (Pt 1)), (4, (Pt 4)), (5, (V.fn 15 [] [(Pt 4)])), (14, (V.fn 15 [] [(Pt 4)])), (15, (Pt 1)), (16, (I a0.fRows))]) rfl rfl rfl) <| et (regp_pure (x := (strconv_Itoa k a0.fRows)) (w := fun v3 => (Sr v3)) rfl rfl rfl rfl rfl (p_call rfl rfl rfl rfl rfl (strconv_Itoa_ok k a0.fRows) (.inl rfl))) <| bindE fun v3 => et (putp_adv (m := 2) (j := 6) (t' := [(1, (Pt 1)), (4, (Pt 4)), (5, (V.fn 15 [] [(Pt 4)])), (14, (V.fn 15 [] [(Pt 4)])), (15, (Pt 1)), (16, (I a0.fRows)), (17, (Sr v3)), (18, (V.ptr 1 0 1)), (19, (I a0.fColumns))]) rfl rfl rfl) <| et (regp_pure (x := (strconv_Itoa k a0.fColumns)) (w := fun v4 => (Sr v4)) rfl rfl rfl rfl rfl (p_call rfl rfl rfl rfl rfl (strconv_Itoa_ok k a0.fColumns) (.inl rfl))) <| bindE fun v4 => et (regp_reg (m := 0) (j := 8) (st' := ⟨[(1, (Pt 1)), (4, (Pt 4)), (5, (V.fn 15 [] [(Pt 4)])), (14, (V.fn 15 [] [(Pt 4)])), (15, (Pt 1)), (16, (I a0.fRows)), (17, (Sr v3)), (18, (V.ptr 1 0 1)), (19, (I a0.fColumns)), (20, (Sr v4)), (21, (sS (([([70, 79, 82, 77] : Str), v3, v4] : List Str))))], [(1, vS 4 (eForm a0)), (4, ⟨false, 2, [(V.agg [V.tp 4 46, V.row 5 ([] : Str)])]⟩)], 75⟩) rfl rfl rfl) <| et (reg_eff (x := (screen_Format_1 k ([([70, 79, 82, 77] : Str), v3, v4] : List Str) ([] : Str))) (w := fun (v5 : (Str)) => ((V.tup []), _)) rfl rfl rfl rfl (p_callIO (fr := fun (v5 : (Str)) => (V.tup [])) (fe := fun (v5 : (Str)) => (V.agg [V.tp 0 46, V.row 5 v5])) (fe' := fun (v5 : (Str)) => (V.agg [V.tp 4 46, V.row 5 v5])) rfl rfl rfl rfl rfl rfl rfl (screen_Format_1_ok k ([([70, 79, 82, 77] : Str), v3, v4] : List Str) ([] : Str)) (fun _ => rfl))) <| bind_self fun v5 => bind_end rfl) fun o6 => et k_assoc <| krp f6a6 rfl ⟨[(1, (Pt 1)), (4, (Pt 4)), (5, (V.fn 15 [] [(Pt 4)])), (24, (sMark a0.fMarks)), (25, (I (a0.fMarks.length : Int))), (26, (I 0))], [(1, vS 4 (eForm a0)), (4, ⟨false, 2, [(V.agg [V.tp 4 46, V.row 5 o6])]⟩)], 75⟩ ?_ ?_
   ·exact rd 2 [(23, (V.ptr 1 0 2)), (24, (sMark a0.fMarks))] rfl rfl <| rl rfl (p_len (e := eMark) rfl rfl rfl rfl rfl rfl underlying22) <| bind_end rfl
   refine et (k_block rfl) <| et k_loop ?_
   refine screen_Format_L1_ok k a0 _ _ ?h_screen_Format_L1_0 ?hr_screen_Format_L1 k 0 o6
   ·intro y21 y22
    refine et blk_exit <| et k_assoc <| krp f6a11 rfl ⟨[(4, (Pt 4)), (5, (V.fn 15 [] [(Pt 4)])), (43, (sSlot a0.fFields)), (44, (I (a0.fFields.length : Int))), (45, (I 0))], [(4, ⟨false, 2, [(V.agg [V.tp 4 46, V.row 5 y22])]⟩)], 75⟩ ?_ ?_
    ·exact rd 2 [(42, (V.ptr 1 0 3)), (43, (sSlot a0.fFields))] rfl rfl <| rl rfl (p_len (e := eSlot) rfl rfl rfl rfl rfl rfl underlying23) <| bind_end rfl
    refine et (k_block rfl) <| et k_loop ?_
    refine screen_Format_L2_ok k a0 _ _ ?h_screen_Format_L2_0 ?hr_screen_Format_L2 k 0 y22
    ·intro y45 y46
     refine et blk_exit <| kg f6a16 rfl (fun (o48 : Str × Int) => ⟨[(2, (Sr o48.1)), (3, (I o48.2))], [], 75⟩) (et (reg_eff (x := (strings_Builder_String k y46)) (w := fun (v47 : Str) => ((Sr v47), _)) rfl rfl rfl rfl (p_callIO (fr := fun (v47 : Str) => (Sr v47)) (fe := fun (v47 : Str) => (V.agg [V.tp 0 46, V.row 5 v47])) (fe' := fun (v47 : Str) => (V.agg [V.tp 4 46, V.row 5 v47])) rfl rfl rfl rfl rfl rfl rfl (strings_Builder_String_ok k y46) (fun _ => rfl))) <| bindE fun v47 => bind_end rfl) fun o48 => et k_lret ?_
     rfl
    ·intro s; exact rfl
   ·intro s; exact rfl
def ref24_IsText_fin : Bool → V × List V := fun r => ((Bo r), [])
theorem ref24_IsText_L1_ok (k : Nat) (a0 : Str)  (K0 : Int → Option Bool) (Kst : X × St → Option (V × List V)) (hK0 : ∀ (y0 : Int), Kst (X.exit 0, ⟨[(0, (Sr a0)), (3, (I y0)), (7, (Bo false))], [], 20⟩) = (K0 y0).map ref24_IsText_fin) (hret : ∀ s, Kst (X.ret, s) = endK prog 20 [(Sr a0)] [] [.tmp 2] (X.ret, s)) :
  ∀ (m : Nat) (x4 : Int), (iter (exec prog (EV k) f42n k f42b0) m ⟨[(0, (Sr a0)), (3, (I x4))], [], 20⟩).bind Kst = (ref24_IsText_L1 a0 K0 m x4).map ref24_IsText_fin := by
 intro m
 induction m with
 | zero => intros; rfl
 | succ m ih =>
  intro x4
  unfold ref24_IsText_L1
  refine et k_round <| et k_assoc <| kra [(7, (Bo (decide (x4 < (a0.length : Int)))))] rfl <| kc rfl rfl (fun hc => ?_) fun hc => ?_
  ·rw [hc]
   refine et k_skip <| et (k_block rfl) <| kg f42a4 rfl (fun (o7 : Bool) => ⟨[(0, (Sr a0)), (3, (I x4)), (19, (Bo o7))], [], 20⟩) ?_ fun o7 => ?_
   ·refine rd 2 [(10, (Sr a0)), (11, (I x4))] rfl rfl <| rp rfl (p_indexS rfl rfl rfl underlying9) fun v5 => bd 5 [(12, (V.int .u8 v5)), (13, (Bo (decide (v5 < 32)))), (14, (Bo (decide (v5 < 32))))] rfl rfl <| bifE (fun hc => ?_) fun hc => ?_
    ·rw [hc]
     exact reg_end rfl
    ·rw [hc]
     exact rd 7 [(15, (Sr a0)), (16, (I x4))] rfl rfl <| rp rfl (p_indexS rfl rfl rfl underlying9) fun v6 => bind_end rfl
   refine kcl rfl rfl (fun hc => ?_) fun hc => ?_
   ·rw [hc]
    refine kr ⟨[(2, (Bo false))], [], 20⟩ rfl <| et k_lret <| et blk_ret <| et loop_ret <| et (hret _) ?_
    rfl
   ·rw [hc]
    exact et k_lskip <| et blk_normal <| kl ⟨[(0, (Sr a0)), (3, (I (Go.IntKind.wrap .i64 (x4 + 1))))], [], 20⟩ rfl <| et loop_normal <| ih (Go.IntKind.wrap .i64 (x4 + 1))
  ·rw [hc]
   exact et k_exit <| et loop_exit <| hK0 x4
theorem ref24_IsText_ok (k : Nat) (a0 : Str) : EV k 42 [(Sr a0)] = (ref24_IsText k a0).map ref24_IsText_fin := by
 cases k with
 | zero => rfl
 | succ k =>
  unfold ref24_IsText
  refine et (evF_succ (c := f42c) (N := 20) (regs := f42n) rfl func42 rfl (by decide) rfl rfl rfl) <| kra [] rfl <| et k_assoc <| kra [(3, (I 0))] rfl <| et (k_block rfl) <| et k_loop ?_
  refine ref24_IsText_L1_ok k a0 _ _ ?h_ref24_IsText_L1_0 ?hr_ref24_IsText_L1 k 0
  ·intro y8
   refine et blk_exit <| kr ⟨[(2, (Bo true))], [], 20⟩ rfl <| et k_lret ?_
   rfl
  ·intro s; exact rfl
def ref11_IsName_fin : Bool → V × List V := fun r => ((Bo r), [])
theorem ref11_IsName_L1_ok (k : Nat) (a0 : Str)  (K0 : Int → Option Bool) (Kst : X × St → Option (V × List V)) (hK0 : ∀ (y0 : Int), Kst (X.exit 0, ⟨[(0, (Sr a0)), (3, (I y0)), (8, (Bo false))], [], 47⟩) = (K0 y0).map ref11_IsName_fin) (hret : ∀ s, Kst (X.ret, s) = endK prog 47 [(Sr a0)] [] [.tmp 2] (X.ret, s)) :
  ∀ (m : Nat) (x7 : Int), (iter (exec prog (EV k) f66n k f66b0) m ⟨[(0, (Sr a0)), (3, (I x7))], [], 47⟩).bind Kst = (ref11_IsName_L1 a0 K0 m x7).map ref11_IsName_fin := by
 intro m
 induction m with
 | zero => intros; rfl
 | succ m ih =>
  intro x7
  unfold ref11_IsName_L1
  refine et k_round <| et k_assoc <| kra [(8, (Bo (decide (x7 < (a0.length : Int)))))] rfl <| kc rfl rfl (fun hc => ?_) fun hc => ?_
  ·rw [hc]
   refine et k_skip <| et (k_block rfl) <| kg f66a4 rfl (fun (o10 : Bool) => ⟨[(0, (Sr a0)), (3, (I x7)), (4, (Bo o10))], [], 47⟩) ?_ fun o10 => ?_
   ·refine rd 2 [(11, (Sr a0)), (12, (I x7))] rfl rfl <| rp rfl (p_indexS rfl rfl rfl underlying9) fun v8 => bd 5 [(13, (V.int .u8 v8)), (14, (Bo (decide (v8 ≥ 65)))), (15, (Bo (decide (v8 ≥ 65))))] rfl rfl <| bifE (fun hc => ?_) fun hc => ?_
    ·rw [hc]
     exact rd 7 [(16, (Sr a0)), (17, (I x7))] rfl rfl <| rp rfl (p_indexS rfl rfl rfl underlying9) fun v9 => bind_end rfl
    ·rw [hc]
     exact reg_end rfl
   refine kg f66a5 rfl (fun (o13 : Bool) => ⟨[(0, (Sr a0)), (3, (I x7)), (38, (Bo o13))], [], 47⟩) ?_ fun o13 => ?_
   ·refine rd 3 [(21, (Bo o10)), (22, (Bo (!o10))), (23, (Bo (!o10)))] rfl rfl <| bifE (fun hc => ?_) fun hc => ?_
    ·rw [hc]
     refine rd 6 [(24, (I x7)), (25, (Bo (x7 == 0))), (26, (Bo (x7 == 0)))] rfl rfl <| bifE (fun hc => ?_) fun hc => ?_
     ·rw [hc]
      exact reg_end rfl
     ·rw [hc]
      refine rd 8 [(27, (Sr a0)), (28, (I x7))] rfl rfl <| rp rfl (p_indexS rfl rfl rfl underlying9) fun v11 => bd 12 [(29, (V.int .u8 v11)), (30, (Bo (decide (v11 < 48)))), (31, (Bo (decide (v11 < 48)))), (32, (Bo (decide (v11 < 48))))] rfl rfl <| bifE (fun hc => ?_) fun hc => ?_
      ·rw [hc]
       exact reg_end rfl
      ·rw [hc]
       exact rd 14 [(33, (Sr a0)), (34, (I x7))] rfl rfl <| rp rfl (p_indexS rfl rfl rfl underlying9) fun v12 => bind_end rfl
    ·rw [hc]
     exact reg_end rfl
   refine kcl rfl rfl (fun hc => ?_) fun hc => ?_
   ·rw [hc]
    refine kr ⟨[(2, (Bo false))], [], 47⟩ rfl <| et k_lret <| et blk_ret <| et loop_ret <| et (hret _) ?_
    rfl
   ·rw [hc]
    exact et k_lskip <| et blk_normal <| kl ⟨[(0, (Sr a0)), (3, (I (Go.IntKind.wrap .i64 (x7 + 1))))], [], 47⟩ rfl <| et loop_normal <| ih (Go.IntKind.wrap .i64 (x7 + 1))
  ·rw [hc]
   exact et k_exit <| et loop_exit <| hK0 x7
theorem ref11_IsName_ok (k : Nat) (a0 : Str) : EV k 66 [(Sr a0)] = (ref11_IsName k a0).map ref11_IsName_fin := by
 cases k with
 | zero => rfl
 | succ k =>
  unfold ref11_IsName
  refine et (evF_succ (c := f66c) (N := 47) (regs := f66n) rfl func66 rfl (by decide) rfl rfl rfl) <| kra [] rfl <| et k_assoc <| kra [(3, (I 0))] rfl <| et (k_block rfl) <| et k_loop ?_
  refine ref11_IsName_L1_ok k a0 _ _ ?h_ref11_IsName_L1_0 ?hr_ref11_IsName_L1 k 0
  ·intro y14
   refine et blk_exit <| kg f66a7 rfl (fun (o15 : Bool) => ⟨[(2, (Bo o15))], [], 47⟩) ?_ fun o15 => ?_
   ·refine rd 4 [(39, (Sr a0)), (40, (I (a0.length : Int))), (41, (Bo (decide ((a0.length : Int) ≥ 1)))), (42, (Bo (decide ((a0.length : Int) ≥ 1))))] rfl rfl <| bifE (fun hc => ?_) fun hc => ?_
    ·rw [hc]
     exact reg_end rfl
    ·rw [hc]
     exact reg_end rfl
   refine et k_lret ?_
   rfl
  ·intro s; exact rfl
def ref24_isField_fin : Bool → V × List V := fun r => ((Bo r), [])
theorem ref24_isField_L1_ok (k : Nat) (a0 : (List T_api_Slot)) (a1 : T_api_Slot)  (K0 : Int → Option Bool) (Kst : X × St → Option (V × List V)) (hK0 : ∀ (y0 : Int), Kst (X.exit 0, ⟨[(0, (sSlot a0)), (3, (Pt 3)), (5, (I y0)), (43, (Bo false))], [(3, vS 7 (eSlot a1))], 84⟩) = (K0 y0).map ref24_isField_fin) (hret : ∀ s, Kst (X.ret, s) = endK prog 84 [(sSlot a0), (eSlot a1)] [] [.tmp 4] (X.ret, s)) :
  ∀ (m : Nat) (x8 : Int), (iter (exec prog (EV k) f43n k f43b0) m ⟨[(0, (sSlot a0)), (3, (Pt 3)), (5, (I x8))], [(3, vS 7 (eSlot a1))], 84⟩).bind Kst = (ref24_isField_L1 a0 a1 K0 m x8).map ref24_isField_fin := by
 intro m
 induction m with
 | zero => intros; rfl
 | succ m ih =>
  intro x8
  unfold ref24_isField_L1
  refine et k_round <| et k_assoc <| krp f43a4 rfl ⟨[(0, (sSlot a0)), (3, (Pt 3)), (5, (I x8)), (43, (Bo (decide (x8 < (a0.length : Int)))))], [(3, vS 7 (eSlot a1))], 84⟩ ?_ ?_
  ·exact rd 2 [(40, (I x8)), (41, (sSlot a0))] rfl rfl <| rl rfl (p_len (e := eSlot) rfl rfl rfl rfl rfl rfl underlying23) <| bind_end rfl
  refine kc rfl rfl (fun hc => ?_) fun hc => ?_
  ·rw [hc]
   refine et k_skip <| et (k_block rfl) <| kd f43a6 rfl (fun (o13 : Bool) => ⟨[(0, (sSlot a0)), (3, (Pt 3)), (5, (I x8)), (83, (Bo o13))], [(3, vS 7 (eSlot a1))], 84⟩) ?_ fun o13 => ?_
   ·refine et (regionE_regp (p := 38) (dk := true) (t := [(0, (sSlot a0)), (3, (Pt 3)), (5, (I x8)), (43, (Bo true))]) (σ := [(3, vS 7 (eSlot a1))]) (n := 84) rfl (by decide) (by decide) rfl) <| et (regp_adv (m := 2) (j := 2) (t' := [(0, (sSlot a0)), (3, (Pt 3)), (5, (I x8)), (43, (Bo true)), (46, (sSlot a0)), (47, (I x8))]) rfl rfl rfl) <| et (regp_pure (x := (idx a0 x8)) (w := fun v9 => (Pr (eSlot v9))) rfl rfl rfl rfl rfl (p_index (e := eSlot) rfl rfl rfl underlying23 rfl (by decide))) <| bindE fun v9 => et (putp_adv (m := 6) (j := 9) (t' := [(0, (sSlot a0)), (3, (Pt 3)), (5, (I x8)), (43, (Bo true)), (46, (sSlot a0)), (47, (I x8)), (48, (Pr (eSlot v9))), (49, (Pr (Sr v9.fName))), (50, (Sr v9.fName)), (51, (Pt 3)), (52, (Sr a1.fName)), (53, (Bo (v9.fName == a1.fName))), (54, (Bo (v9.fName == a1.fName)))]) rfl rfl rfl) <| bifE (fun hc => ?_) fun hc => ?_
    ·rw [hc]
     exact regp_end rfl
    ·rw [hc]
     refine et (regp_adv (m := 4) (j := 13) (t' := [(0, (sSlot a0)), (3, (Pt 3)), (5, (I x8)), (43, (Bo true)), (46, (sSlot a0)), (47, (I x8)), (48, (Pr (eSlot v9))), (49, (Pr (Sr v9.fName))), (50, (Sr v9.fName)), (51, (Pt 3)), (52, (Sr a1.fName)), (53, (Bo false)), (54, (Bo false)), (55, (V.ptr 3 0 4)), (56, (I a1.fIn)), (57, (Bo (decide (a1.fIn ≥ 0)))), (58, (Bo (decide (a1.fIn ≥ 0))))]) rfl rfl rfl) <| bifE (fun hc => ?_) fun hc => ?_
     ·rw [hc]
      refine et (regp_adv (m := 2) (j := 15) (t' := [(0, (sSlot a0)), (3, (Pt 3)), (5, (I x8)), (43, (Bo true)), (46, (sSlot a0)), (47, (I x8)), (48, (Pr (eSlot v9))), (49, (Pr (Sr v9.fName))), (50, (Sr v9.fName)), (51, (Pt 3)), (52, (Sr a1.fName)), (53, (Bo false)), (54, (Bo false)), (55, (V.ptr 3 0 4)), (56, (I a1.fIn)), (57, (Bo true)), (58, (Bo true)), (59, (sSlot a0)), (60, (I x8))]) rfl rfl rfl) <| et (regp_pure (x := (idx a0 x8)) (w := fun v10 => (Pr (eSlot v10))) rfl rfl rfl rfl rfl (p_index (e := eSlot) rfl rfl rfl underlying23 rfl (by decide))) <| bindE fun v10 => et (putp_adv (m := 8) (j := 24) (t' := [(0, (sSlot a0)), (3, (Pt 3)), (5, (I x8)), (43, (Bo true)), (46, (sSlot a0)), (47, (I x8)), (48, (Pr (eSlot v9))), (49, (Pr (Sr v9.fName))), (50, (Sr v9.fName)), (51, (Pt 3)), (52, (Sr a1.fName)), (53, (Bo false)), (54, (Bo false)), (55, (V.ptr 3 0 4)), (56, (I a1.fIn)), (57, (Bo true)), (58, (Bo true)), (59, (sSlot a0)), (60, (I x8)), (61, (Pr (eSlot v10))), (62, (Pr (I v10.fIn))), (63, (I v10.fIn)), (64, (V.ptr 3 0 4)), (65, (I a1.fIn)), (66, (Bo (v10.fIn == a1.fIn))), (67, (Bo (v10.fIn == a1.fIn))), (68, (Bo (v10.fIn == a1.fIn))), (69, (Bo (v10.fIn == a1.fIn)))]) rfl rfl rfl) <| bifE (fun hc => ?_) fun hc => ?_
      ·rw [hc]
       exact regp_end rfl
      ·rw [hc]
       refine et (regp_adv (m := 4) (j := 28) (t' := [(0, (sSlot a0)), (3, (Pt 3)), (5, (I x8)), (43, (Bo true)), (46, (sSlot a0)), (47, (I x8)), (48, (Pr (eSlot v9))), (49, (Pr (Sr v9.fName))), (50, (Sr v9.fName)), (51, (Pt 3)), (52, (Sr a1.fName)), (53, (Bo false)), (54, (Bo false)), (55, (V.ptr 3 0 4)), (56, (I a1.fIn)), (57, (Bo true)), (58, (Bo true)), (59, (sSlot a0)), (60, (I x8)), (61, (Pr (eSlot v10))), (62, (Pr (I v10.fIn))), (63, (I v10.fIn)), (64, (V.ptr 3 0 4)), (65, (I a1.fIn)), (66, (Bo false)), (67, (Bo false)), (68, (Bo false)), (69, (Bo false)), (70, (V.ptr 3 0 5)), (71, (I a1.fOut)), (72, (Bo (decide (a1.fOut ≥ 0)))), (73, (Bo (decide (a1.fOut ≥ 0))))]) rfl rfl rfl) <| bifE (fun hc => ?_) fun hc => ?_
       ·rw [hc]
        exact et (regp_adv (m := 2) (j := 30) (t' := [(0, (sSlot a0)), (3, (Pt 3)), (5, (I x8)), (43, (Bo true)), (46, (sSlot a0)), (47, (I x8)), (48, (Pr (eSlot v9))), (49, (Pr (Sr v9.fName))), (50, (Sr v9.fName)), (51, (Pt 3)), (52, (Sr a1.fName)), (53, (Bo false)), (54, (Bo false)), (55, (V.ptr 3 0 4)), (56, (I a1.fIn)), (57, (Bo true)), (58, (Bo true)), (59, (sSlot a0)), (60, (I x8)), (61, (Pr (eSlot v10))), (62, (Pr (I v10.fIn))), (63, (I v10.fIn)), (64, (V.ptr 3 0 4)), (65, (I a1.fIn)), (66, (Bo false)), (67, (Bo false)), (68, (Bo false)), (69, (Bo false)), (70, (V.ptr 3 0 5)), (71, (I a1.fOut)), (72, (Bo true)), (73, (Bo true)), (74, (sSlot a0)), (75, (I x8))]) rfl rfl rfl) <| et (regp_pure (x := (idx a0 x8)) (w := fun v11 => (Pr (eSlot v11))) rfl rfl rfl rfl rfl (p_index (e := eSlot) rfl rfl rfl underlying23 rfl (by decide))) <| bindE fun v11 => regp_end rfl
       ·rw [hc]
        exact regp_end rfl
     ·rw [hc]
      refine et (regp_adv (m := 15) (j := 28) (t' := [(0, (sSlot a0)), (3, (Pt 3)), (5, (I x8)), (43, (Bo true)), (46, (sSlot a0)), (47, (I x8)), (48, (Pr (eSlot v9))), (49, (Pr (Sr v9.fName))), (50, (Sr v9.fName)), (51, (Pt 3)), (52, (Sr a1.fName)), (53, (Bo false)), (54, (Bo false)), (55, (V.ptr 3 0 4)), (56, (I a1.fIn)), (57, (Bo false)), (58, (Bo false)), (59, (V.tup [])), (60, (V.tup [])), (61, (V.tup [])), (62, (V.tup [])), (63, (V.tup [])), (64, (V.tup [])), (65, (V.tup [])), (66, (V.tup [])), (67, (Bo false)), (68, (Bo false)), (69, (Bo false)), (70, (V.ptr 3 0 5)), (71, (I a1.fOut)), (72, (Bo (decide (a1.fOut ≥ 0)))), (73, (Bo (decide (a1.fOut ≥ 0))))]) rfl rfl rfl) <| bifE (fun hc => ?_) fun hc => ?_
      ·rw [hc]
       exact et (regp_adv (m := 2) (j := 30) (t' := [(0, (sSlot a0)), (3, (Pt 3)), (5, (I x8)), (43, (Bo true)), (46, (sSlot a0)), (47, (I x8)), (48, (Pr (eSlot v9))), (49, (Pr (Sr v9.fName))), (50, (Sr v9.fName)), (51, (Pt 3)), (52, (Sr a1.fName)), (53, (Bo false)), (54, (Bo false)), (55, (V.ptr 3 0 4)), (56, (I a1.fIn)), (57, (Bo false)), (58, (Bo false)), (59, (V.tup [])), (60, (V.tup [])), (61, (V.tup [])), (62, (V.tup [])), (63, (V.tup [])), (64, (V.tup [])), (65, (V.tup [])), (66, (V.tup [])), (67, (Bo false)), (68, (Bo false)), (69, (Bo false)), (70, (V.ptr 3 0 5)), (71, (I a1.fOut)), (72, (Bo true)), (73, (Bo true)), (74, (sSlot a0)), (75, (I x8))]) rfl rfl rfl) <| et (regp_pure (x := (idx a0 x8)) (w := fun v12 => (Pr (eSlot v12))) rfl rfl rfl rfl rfl (p_index (e := eSlot) rfl rfl rfl underlying23 rfl (by decide))) <| bindE fun v12 => regp_end rfl
      ·rw [hc]
       exact regp_end rfl
   refine kcl rfl rfl (fun hc => ?_) fun hc => ?_
   ·rw [hc]
    refine kr ⟨[(4, (Bo false))], [], 84⟩ rfl <| et k_lret <| et blk_ret <| et loop_ret <| et (hret _) ?_
    rfl
   ·rw [hc]
    exact et k_lskip <| et blk_normal <| kl ⟨[(0, (sSlot a0)), (3, (Pt 3)), (5, (I (Go.IntKind.wrap .i64 (x8 + 1))))], [(3, vS 7 (eSlot a1))], 84⟩ rfl <| et loop_normal <| ih (Go.IntKind.wrap .i64 (x8 + 1))
  ·rw [hc]
   exact et k_exit <| et loop_exit <| hK0 x8
theorem ref24_isField_ok (k : Nat) (a0 : (List T_api_Slot)) (a1 : T_api_Slot) : EV k 43 [(sSlot a0), (eSlot a1)] = (ref24_isField k a0 a1).map ref24_isField_fin := by
 cases k with
 | zero => rfl
 | succ k =>
  unfold ref24_isField
  refine et (evF_succ (c := f43c) (N := 84) (regs := f43n) rfl func43 rfl (by decide) rfl rfl rfl) <| kr ⟨[(0, (sSlot a0)), (3, (Pt 3))], [(3, vS 7 (eSlot a1))], 84⟩ rfl <| et k_assoc <| kga f43a1 rfl (fun (o2 : Bool) => [(39, (Bo o2))]) ?_ fun o2 => ?_
  ·refine rd 2 [(6, (Pt 3)), (7, (Sr a1.fName))] rfl rfl <| rp rfl (p_call rfl rfl rfl rfl rfl (ref11_IsName_ok k a1.fName) (.inl rfl)) fun v1 => bd 5 [(8, (Bo v1)), (9, (Bo (!v1))), (10, (Bo (!v1)))] rfl rfl <| bifE (fun hc => ?_) fun hc => ?_
   ·rw [hc]
    exact reg_end rfl
   ·rw [hc]
    refine rd 10 [(11, (V.ptr 3 0 4)), (12, (I a1.fIn)), (13, (Bo (decide (a1.fIn < (-1))))), (14, (Bo (decide (a1.fIn < (-1))))), (15, (Bo (decide (a1.fIn < (-1)))))] rfl rfl <| bifE (fun hc => ?_) fun hc => ?_
    ·rw [hc]
     exact reg_end rfl
    ·rw [hc]
     refine rd 15 [(16, (V.ptr 3 0 4)), (17, (I a1.fIn)), (18, (Bo (decide (a1.fIn > 3)))), (19, (Bo (decide (a1.fIn > 3)))), (20, (Bo (decide (a1.fIn > 3))))] rfl rfl <| bifE (fun hc => ?_) fun hc => ?_
     ·rw [hc]
      exact reg_end rfl
     ·rw [hc]
      refine rd 20 [(21, (V.ptr 3 0 5)), (22, (I a1.fOut)), (23, (Bo (decide (a1.fOut < (-1))))), (24, (Bo (decide (a1.fOut < (-1))))), (25, (Bo (decide (a1.fOut < (-1)))))] rfl rfl <| bifE (fun hc => ?_) fun hc => ?_
      ·rw [hc]
       exact reg_end rfl
      ·rw [hc]
       refine rd 25 [(26, (V.ptr 3 0 5)), (27, (I a1.fOut)), (28, (Bo (decide (a1.fOut > 3)))), (29, (Bo (decide (a1.fOut > 3)))), (30, (Bo (decide (a1.fOut > 3))))] rfl rfl <| bifE (fun hc => ?_) fun hc => ?_
       ·rw [hc]
        exact reg_end rfl
       ·rw [hc]
        refine rd 30 [(31, (V.ptr 3 0 6)), (32, (V.int .u8 a1.fFill)), (33, (Bo (decide (a1.fFill < 32)))), (34, (Bo (decide (a1.fFill < 32)))), (35, (Bo (decide (a1.fFill < 32))))] rfl rfl <| bifE (fun hc => ?_) fun hc => ?_
        ·rw [hc]
         exact reg_end rfl
        ·rw [hc]
         exact reg_end rfl
  refine kc rfl rfl (fun hc => ?_) fun hc => ?_
  ·rw [hc]
   refine et k_assoc <| kr ⟨[(4, (Bo false))], [], 84⟩ rfl <| et k_ret ?_
   rfl
  ·rw [hc]
   refine et k_skip <| et k_assoc <| kr ⟨[(0, (sSlot a0)), (3, (Pt 3)), (5, (I 0))], [(3, vS 7 (eSlot a1))], 84⟩ rfl <| et (k_block rfl) <| et k_loop ?_
   refine ref24_isField_L1_ok k a0 a1 _ _ ?h_ref24_isField_L1_0 ?hr_ref24_isField_L1 k 0
   ·intro y14
    refine et blk_exit <| kr ⟨[(4, (Bo true))], [], 84⟩ rfl <| et k_lret ?_
    rfl
   ·intro s; exact rfl
def ref24_spans_fin : (List T_progenyref24_span) → V × List V := fun r => ((sspan (r)), [])
theorem ref24_spans_L1_ok (k : Nat) (a0 : T_api_Form)  (K0 : Int → (List T_progenyref24_span) → Option (List T_progenyref24_span)) (Kst : X × St → Option (V × List V)) (hK0 : ∀ (y0 : Int) (y1 : (List T_progenyref24_span)), Kst (X.exit 0, ⟨[(1, (Pt 1)), (3, (aL 3 espan y1)), (4, (I y0)), (10, (Bo false))], [(1, vS 4 (eForm a0)), (3, ⟨true, 3, List.map espan y1⟩)], 66⟩) = (K0 y0 y1).map ref24_spans_fin) (hret : ∀ s, Kst (X.ret, s) = endK prog 66 [(eForm a0)] [] [.tmp 2] (X.ret, s)) :
  ∀ (m : Nat) (x6 : Int) (x7 : (List T_progenyref24_span)), (iter (exec prog (EV k) f44n k f44b0) m ⟨[(1, (Pt 1)), (3, (aL 3 espan x7)), (4, (I x6))], [(1, vS 4 (eForm a0)), (3, ⟨true, 3, List.map espan x7⟩)], 66⟩).bind Kst = (ref24_spans_L1 a0 K0 m x6 x7).map ref24_spans_fin := by
 intro m
 induction m with
 | zero => intros; rfl
 | succ m ih =>
  intro x6 x7
  unfold ref24_spans_L1
  refine et k_round <| et k_assoc <| krp f44a3 rfl ⟨[(1, (Pt 1)), (3, (aL 3 espan x7)), (4, (I x6)), (10, (Bo (decide (x6 < (a0.fMarks.length : Int)))))], [(1, vS 4 (eForm a0)), (3, ⟨true, 3, List.map espan x7⟩)], 66⟩ ?_ ?_
  ·exact rd 3 [(6, (I x6)), (7, (V.ptr 1 0 2)), (8, (sMark a0.fMarks))] rfl rfl <| rl rfl (p_len (e := eMark) rfl rfl rfl rfl rfl rfl underlying22) <| bind_end rfl
  refine kc rfl rfl (fun hc => ?_) fun hc => ?_
  ·rw [hc]
   exact et k_skip <| et (k_block rfl) <| kdl f44a5 rfl (fun (o12 : (List T_progenyref24_span)) => ⟨[(1, (Pt 1)), (3, (aL 3 espan o12)), (4, (I x6))], [(1, vS 4 (eForm a0)), (3, ⟨true, 3, List.map espan o12⟩)], 66⟩) (et (regionE_regp (p := 22) (dk := true) (t := [(1, (Pt 1)), (3, (aL 3 espan x7)), (4, (I x6)), (10, (Bo true))]) (σ := [(1, vS 4 (eForm a0)), (3, ⟨true, 3, List.map espan x7⟩)]) (n := 66) rfl (by decide) (by decide) rfl) <| et (regp_adv (m := 4) (j := 4) (t' := [(1, (Pt 1)), (3, (aL 3 espan x7)), (4, (I x6)), (10, (Bo true)), (13, (aL 3 espan x7)), (14, (V.ptr 1 0 2)), (15, (sMark a0.fMarks)), (16, (I x6))]) rfl rfl rfl) <| et (regp_pure (x := (idx a0.fMarks x6)) (w := fun v8 => (Pr (eMark v8))) rfl rfl rfl rfl rfl (p_index (e := eMark) rfl rfl rfl underlying22 rfl (by decide))) <| bindE fun v8 => et (putp_adv (m := 5) (j := 10) (t' := [(1, (Pt 1)), (3, (aL 3 espan x7)), (4, (I x6)), (10, (Bo true)), (13, (aL 3 espan x7)), (14, (V.ptr 1 0 2)), (15, (sMark a0.fMarks)), (16, (I x6)), (17, (Pr (eMark v8))), (18, (Pr (I v8.fRow))), (19, (I v8.fRow)), (20, (V.ptr 1 0 2)), (21, (sMark a0.fMarks)), (22, (I x6))]) rfl rfl rfl) <| et (regp_pure (x := (idx a0.fMarks x6)) (w := fun v9 => (Pr (eMark v9))) rfl rfl rfl rfl rfl (p_index (e := eMark) rfl rfl rfl underlying22 rfl (by decide))) <| bindE fun v9 => et (putp_adv (m := 5) (j := 16) (t' := [(1, (Pt 1)), (3, (aL 3 espan x7)), (4, (I x6)), (10, (Bo true)), (13, (aL 3 espan x7)), (14, (V.ptr 1 0 2)), (15, (sMark a0.fMarks)), (16, (I x6)), (17, (Pr (eMark v8))), (18, (Pr (I v8.fRow))), (19, (I v8.fRow)), (20, (V.ptr 1 0 2)), (21, (sMark a0.fMarks)), (22, (I x6)), (23, (Pr (eMark v9))), (24, (Pr (I v9.fColumn))), (25, (I v9.fColumn)), (26, (V.ptr 1 0 2)), (27, (sMark a0.fMarks)), (28, (I x6))]) rfl rfl rfl) <| et (regp_pure (x := (idx a0.fMarks x6)) (w := fun v10 => (Pr (eMark v10))) rfl rfl rfl rfl rfl (p_index (e := eMark) rfl rfl rfl underlying22 rfl (by decide))) <| bindE fun v10 => et (regp_reg (m := 0) (j := 22) (st' := ⟨[(1, (Pt 1)), (3, (aL 3 espan x7)), (4, (I x6)), (10, (Bo true)), (13, (aL 3 espan x7)), (14, (V.ptr 1 0 2)), (15, (sMark a0.fMarks)), (16, (I x6)), (17, (Pr (eMark v8))), (18, (Pr (I v8.fRow))), (19, (I v8.fRow)), (20, (V.ptr 1 0 2)), (21, (sMark a0.fMarks)), (22, (I x6)), (23, (Pr (eMark v9))), (24, (Pr (I v9.fColumn))), (25, (I v9.fColumn)), (26, (V.ptr 1 0 2)), (27, (sMark a0.fMarks)), (28, (I x6)), (29, (Pr (eMark v10))), (30, (Pr (Sr v10.fText))), (31, (Sr v10.fText)), (32, (I (v10.fText.length : Int))), (33, (espan ({ frow := v8.fRow, fcolumn := v9.fColumn, fbytes := (v10.fText.length : Int) } : T_progenyref24_span))), (34, (sspan (([({ frow := v8.fRow, fcolumn := v9.fColumn, fbytes := (v10.fText.length : Int) } : T_progenyref24_span)] : List T_progenyref24_span))))], [(1, vS 4 (eForm a0)), (3, ⟨true, 3, List.map espan x7⟩)], 66⟩) rfl rfl rfl) <| et (reg_eff (x := (app x7 ([({ frow := v8.fRow, fcolumn := v9.fColumn, fbytes := (v10.fText.length : Int) } : T_progenyref24_span)] : List T_progenyref24_span))) (w := fun v11 => ((aL 3 espan v11), _)) rfl rfl rfl rfl (p_appF (e := espan) (l := x7) rfl rfl rfl rfl rfl rfl rfl rfl rfl rfl rfl (of_decide_eq_true rfl))) <| bind_self fun v11 => bind_end rfl) fun o12 => et blk_normal <| kl ⟨[(1, (Pt 1)), (3, (aL 3 espan o12)), (4, (I (Go.IntKind.wrap .i64 (x6 + 1))))], [(1, vS 4 (eForm a0)), (3, ⟨true, 3, List.map espan o12⟩)], 66⟩ rfl <| et loop_normal <| ih (Go.IntKind.wrap .i64 (x6 + 1)) o12
  ·rw [hc]
   exact et k_exit <| et loop_exit <| hK0 x6 x7
theorem ref24_spans_L2_ok (k : Nat) (a0 : T_api_Form)  (K0 : Int → (List T_progenyref24_span) → Option (List T_progenyref24_span)) (Kst : X × St → Option (V × List V)) (hK0 : ∀ (y0 : Int) (y1 : (List T_progenyref24_span)), Kst (X.exit 2, ⟨[(1, (Pt 1)), (3, (aL 3 espan y1)), (5, (I y0)), (40, (Bo false))], [(1, vS 4 (eForm a0)), (3, ⟨true, 3, List.map espan y1⟩)], 66⟩) = (K0 y0 y1).map ref24_spans_fin) (hret : ∀ s, Kst (X.ret, s) = endK prog 66 [(eForm a0)] [] [.tmp 2] (X.ret, s)) :
  ∀ (m : Nat) (x20 : Int) (x21 : (List T_progenyref24_span)), (iter (exec prog (EV k) f44n k f44b1) m ⟨[(1, (Pt 1)), (3, (aL 3 espan x21)), (5, (I x20))], [(1, vS 4 (eForm a0)), (3, ⟨true, 3, List.map espan x21⟩)], 66⟩).bind Kst = (ref24_spans_L2 a0 K0 m x20 x21).map ref24_spans_fin := by
 intro m
 induction m with
 | zero => intros; rfl
 | succ m ih =>
  intro x20 x21
  unfold ref24_spans_L2
  refine et k_round <| et k_assoc <| krp f44a7 rfl ⟨[(1, (Pt 1)), (3, (aL 3 espan x21)), (5, (I x20)), (40, (Bo (decide (x20 < (a0.fFields.length : Int)))))], [(1, vS 4 (eForm a0)), (3, ⟨true, 3, List.map espan x21⟩)], 66⟩ ?_ ?_
  ·exact rd 3 [(36, (I x20)), (37, (V.ptr 1 0 3)), (38, (sSlot a0.fFields))] rfl rfl <| rl rfl (p_len (e := eSlot) rfl rfl rfl rfl rfl rfl underlying23) <| bind_end rfl
  refine kc rfl rfl (fun hc => ?_) fun hc => ?_
  ·rw [hc]
   exact et k_skip <| et (k_block rfl) <| kdl f44a9 rfl (fun (o26 : (List T_progenyref24_span)) => ⟨[(1, (Pt 1)), (3, (aL 3 espan o26)), (5, (I x20))], [(1, vS 4 (eForm a0)), (3, ⟨true, 3, List.map espan o26⟩)], 66⟩) (et (regionE_regp (p := 21) (dk := true) (t := [(1, (Pt 1)), (3, (aL 3 espan x21)), (5, (I x20)), (40, (Bo true))]) (σ := [(1, vS 4 (eForm a0)), (3, ⟨true, 3, List.map espan x21⟩)]) (n := 66) rfl (by decide) (by decide) rfl) <| et (regp_adv (m := 4) (j := 4) (t' := [(1, (Pt 1)), (3, (aL 3 espan x21)), (5, (I x20)), (40, (Bo true)), (43, (aL 3 espan x21)), (44, (V.ptr 1 0 3)), (45, (sSlot a0.fFields)), (46, (I x20))]) rfl rfl rfl) <| et (regp_pure (x := (idx a0.fFields x20)) (w := fun v22 => (Pr (eSlot v22))) rfl rfl rfl rfl rfl (p_index (e := eSlot) rfl rfl rfl underlying23 rfl (by decide))) <| bindE fun v22 => et (putp_adv (m := 5) (j := 10) (t' := [(1, (Pt 1)), (3, (aL 3 espan x21)), (5, (I x20)), (40, (Bo true)), (43, (aL 3 espan x21)), (44, (V.ptr 1 0 3)), (45, (sSlot a0.fFields)), (46, (I x20)), (47, (Pr (eSlot v22))), (48, (Pr (I v22.fRow))), (49, (I v22.fRow)), (50, (V.ptr 1 0 3)), (51, (sSlot a0.fFields)), (52, (I x20))]) rfl rfl rfl) <| et (regp_pure (x := (idx a0.fFields x20)) (w := fun v23 => (Pr (eSlot v23))) rfl rfl rfl rfl rfl (p_index (e := eSlot) rfl rfl rfl underlying23 rfl (by decide))) <| bindE fun v23 => et (putp_adv (m := 5) (j := 16) (t' := [(1, (Pt 1)), (3, (aL 3 espan x21)), (5, (I x20)), (40, (Bo true)), (43, (aL 3 espan x21)), (44, (V.ptr 1 0 3)), (45, (sSlot a0.fFields)), (46, (I x20)), (47, (Pr (eSlot v22))), (48, (Pr (I v22.fRow))), (49, (I v22.fRow)), (50, (V.ptr 1 0 3)), (51, (sSlot a0.fFields)), (52, (I x20)), (53, (Pr (eSlot v23))), (54, (Pr (I v23.fColumn))), (55, (I v23.fColumn)), (56, (V.ptr 1 0 3)), (57, (sSlot a0.fFields)), (58, (I x20))]) rfl rfl rfl) <| et (regp_pure (x := (idx a0.fFields x20)) (w := fun v24 => (Pr (eSlot v24))) rfl rfl rfl rfl rfl (p_index (e := eSlot) rfl rfl rfl underlying23 rfl (by decide))) <| bindE fun v24 => et (regp_reg (m := 0) (j := 21) (st' := ⟨[(1, (Pt 1)), (3, (aL 3 espan x21)), (5, (I x20)), (40, (Bo true)), (43, (aL 3 espan x21)), (44, (V.ptr 1 0 3)), (45, (sSlot a0.fFields)), (46, (I x20)), (47, (Pr (eSlot v22))), (48, (Pr (I v22.fRow))), (49, (I v22.fRow)), (50, (V.ptr 1 0 3)), (51, (sSlot a0.fFields)), (52, (I x20)), (53, (Pr (eSlot v23))), (54, (Pr (I v23.fColumn))), (55, (I v23.fColumn)), (56, (V.ptr 1 0 3)), (57, (sSlot a0.fFields)), (58, (I x20)), (59, (Pr (eSlot v24))), (60, (Pr (I v24.fBytes))), (61, (I v24.fBytes)), (62, (espan ({ frow := v22.fRow, fcolumn := v23.fColumn, fbytes := v24.fBytes } : T_progenyref24_span))), (63, (sspan (([({ frow := v22.fRow, fcolumn := v23.fColumn, fbytes := v24.fBytes } : T_progenyref24_span)] : List T_progenyref24_span))))], [(1, vS 4 (eForm a0)), (3, ⟨true, 3, List.map espan x21⟩)], 66⟩) rfl rfl rfl) <| et (reg_eff (x := (app x21 ([({ frow := v22.fRow, fcolumn := v23.fColumn, fbytes := v24.fBytes } : T_progenyref24_span)] : List T_progenyref24_span))) (w := fun v25 => ((aL 3 espan v25), _)) rfl rfl rfl rfl (p_appF (e := espan) (l := x21) rfl rfl rfl rfl rfl rfl rfl rfl rfl rfl rfl (of_decide_eq_true rfl))) <| bind_self fun v25 => bind_end rfl) fun o26 => et blk_normal <| kl ⟨[(1, (Pt 1)), (3, (aL 3 espan o26)), (5, (I (Go.IntKind.wrap .i64 (x20 + 1))))], [(1, vS 4 (eForm a0)), (3, ⟨true, 3, List.map espan o26⟩)], 66⟩ rfl <| et loop_normal <| ih (Go.IntKind.wrap .i64 (x20 + 1)) o26
  ·rw [hc]
   exact et k_exit <| et loop_exit <| hK0 x20 x21
theorem ref24_spans_ok (k : Nat) (a0 : T_api_Form) : EV k 44 [(eForm a0)] = (ref24_spans k a0).map ref24_spans_fin := by
 cases k with
 | zero => rfl
 | succ k =>
  unfold ref24_spans
  refine et (evF_succ (c := f44c) (N := 66) (regs := f44n) rfl func44 rfl (by decide) rfl rfl rfl) <| kr ⟨[(1, (Pt 1))], [(1, vS 4 (eForm a0))], 66⟩ rfl <| kr ⟨[(1, (Pt 1)), (3, (aL 3 espan ([] : List T_progenyref24_span)))], [(1, vS 4 (eForm a0)), (3, ⟨true, 3, List.map espan ([] : List T_progenyref24_span)⟩)], 66⟩ rfl <| et k_assoc <| kra [(4, (I 0))] rfl <| et (k_block rfl) <| et k_loop ?_
  refine ref24_spans_L1_ok k a0 _ _ ?h_ref24_spans_L1_0 ?hr_ref24_spans_L1 k 0 ([] : List T_progenyref24_span)
  ·intro y13 y14
   refine et blk_exit <| et k_assoc <| kr ⟨[(1, (Pt 1)), (3, (aL 3 espan y14)), (5, (I 0))], [(1, vS 4 (eForm a0)), (3, ⟨true, 3, List.map espan y14⟩)], 66⟩ rfl <| et (k_block rfl) <| et k_loop ?_
   refine ref24_spans_L2_ok k a0 _ _ ?h_ref24_spans_L2_0 ?hr_ref24_spans_L2 k 0 y14
   ·intro y27 y28
    refine et blk_exit <| krp f44a10 rfl ⟨[(2, (sspan (y28)))], [], 66⟩ ?_ ?_
    ·exact rd 1 [(65, (aL 3 espan y28))] rfl rfl <| et (reg_eff (x := some ()) (w := fun _ => ((V.sl 2 3 (List.map espan y28)), _)) rfl rfl rfl rfl (p_close (e := espan) rfl rfl rfl rfl rfl (of_decide_eq_true rfl))) <| et some_bind <| bind_end rfl
    refine et k_lret ?_
    rfl
   ·intro s; exact rfl
  ·intro s; exact rfl
def ref24_Valid_fin : Bool → V × List V := fun r => ((Bo r), [])
theorem ref24_Valid_L1_ok (k : Nat) (a0 : T_api_Form)  (K0 : Int → Option Bool) (Kst : X × St → Option (V × List V)) (hK0 : ∀ (y0 : Int), Kst (X.exit 0, ⟨[(1, (Pt 1)), (3, (I y0)), (42, (Bo false))], [(1, vS 4 (eForm a0))], 191⟩) = (K0 y0).map ref24_Valid_fin) (hret : ∀ s, Kst (X.ret, s) = endK prog 191 [(eForm a0)] [] [.tmp 2] (X.ret, s)) :
  ∀ (m : Nat) (x5 : Int), (iter (exec prog (EV k) f22n k f22b0) m ⟨[(1, (Pt 1)), (3, (I x5))], [(1, vS 4 (eForm a0))], 191⟩).bind Kst = (ref24_Valid_L1 k a0 K0 m x5).map ref24_Valid_fin := by
 intro m
 induction m with
 | zero => intros; rfl
 | succ m ih =>
  intro x5
  unfold ref24_Valid_L1
  refine et k_round <| et k_assoc <| krp f22a4 rfl ⟨[(1, (Pt 1)), (3, (I x5)), (42, (Bo (decide (x5 < (a0.fMarks.length : Int)))))], [(1, vS 4 (eForm a0))], 191⟩ ?_ ?_
  ·exact rd 3 [(38, (I x5)), (39, (V.ptr 1 0 2)), (40, (sMark a0.fMarks))] rfl rfl <| rl rfl (p_len (e := eMark) rfl rfl rfl rfl rfl rfl underlying22) <| bind_end rfl
  refine kc rfl rfl (fun hc => ?_) fun hc => ?_
  ·rw [hc]
   refine et k_skip <| et (k_block rfl) <| kg f22a6 rfl (fun (o8 : Bool) => ⟨[(1, (Pt 1)), (3, (I x5)), (52, (Bo o8))], [(1, vS 4 (eForm a0))], 191⟩) (rd 3 [(45, (V.ptr 1 0 2)), (46, (sMark a0.fMarks)), (47, (I x5))] rfl rfl <| rp rfl (p_index (e := eMark) rfl rfl rfl underlying22 rfl (by decide)) fun v6 => bd 6 [(48, (Pr (eMark v6))), (49, (Pr (Sr v6.fText))), (50, (Sr v6.fText))] rfl rfl <| rp rfl (p_call rfl rfl rfl rfl rfl (ref24_IsText_ok k v6.fText) (.inl rfl)) fun v7 => bind_end rfl) fun o8 => kcl rfl rfl (fun hc => ?_) fun hc => ?_
   ·rw [hc]
    refine kr ⟨[(2, (Bo false))], [], 191⟩ rfl <| et k_lret <| et blk_ret <| et loop_ret <| et (hret _) ?_
    rfl
   ·rw [hc]
    exact et k_lskip <| et blk_normal <| kl ⟨[(1, (Pt 1)), (3, (I (Go.IntKind.wrap .i64 (x5 + 1))))], [(1, vS 4 (eForm a0))], 191⟩ rfl <| et loop_normal <| ih (Go.IntKind.wrap .i64 (x5 + 1))
  ·rw [hc]
   exact et k_exit <| et loop_exit <| hK0 x5
theorem ref24_Valid_L2_ok (k : Nat) (a0 : T_api_Form)  (K0 : Int → Option Bool) (Kst : X × St → Option (V × List V)) (hK0 : ∀ (y0 : Int), Kst (X.exit 2, ⟨[(1, (Pt 1)), (4, (I y0)), (57, (Bo false))], [(1, vS 4 (eForm a0))], 191⟩) = (K0 y0).map ref24_Valid_fin) (hret : ∀ s, Kst (X.ret, s) = endK prog 191 [(eForm a0)] [] [.tmp 2] (X.ret, s)) :
  ∀ (m : Nat) (x14 : Int), (iter (exec prog (EV k) f22n k f22b1) m ⟨[(1, (Pt 1)), (4, (I x14))], [(1, vS 4 (eForm a0))], 191⟩).bind Kst = (ref24_Valid_L2 k a0 K0 m x14).map ref24_Valid_fin := by
 intro m
 induction m with
 | zero => intros; rfl
 | succ m ih =>
  intro x14
  unfold ref24_Valid_L2
  refine et k_round <| et k_assoc <| krp f22a9 rfl ⟨[(1, (Pt 1)), (4, (I x14)), (57, (Bo (decide (x14 < (a0.fFields.length : Int)))))], [(1, vS 4 (eForm a0))], 191⟩ ?_ ?_
  ·exact rd 3 [(53, (I x14)), (54, (V.ptr 1 0 3)), (55, (sSlot a0.fFields))] rfl rfl <| rl rfl (p_len (e := eSlot) rfl rfl rfl rfl rfl rfl underlying23) <| bind_end rfl
  refine kc rfl rfl (fun hc => ?_) fun hc => ?_
  ·rw [hc]
   refine et k_skip <| et (k_block rfl) <| kd f22a11 rfl (fun (o18 : Bool) => ⟨[(1, (Pt 1)), (4, (I x14)), (70, (Bo o18))], [(1, vS 4 (eForm a0))], 191⟩) (et (regionE_regp (p := 11) (dk := true) (t := [(1, (Pt 1)), (4, (I x14)), (57, (Bo true))]) (σ := [(1, vS 4 (eForm a0))]) (n := 191) rfl (by decide) (by decide) rfl) <| et (regp_adv (m := 3) (j := 3) (t' := [(1, (Pt 1)), (4, (I x14)), (57, (Bo true)), (60, (V.ptr 1 0 3)), (61, (sSlot a0.fFields)), (62, (I x14))]) rfl rfl rfl) <| et (regp_pure (x := (cut a0.fFields 0 x14)) (w := fun v15 => (sSlot v15)) rfl rfl rfl rfl rfl (p_slice (e := eSlot) rfl rfl rfl rfl rfl rfl underlying23 rfl (by decide))) <| bindE fun v15 => et (putp_adv (m := 3) (j := 7) (t' := [(1, (Pt 1)), (4, (I x14)), (57, (Bo true)), (60, (V.ptr 1 0 3)), (61, (sSlot a0.fFields)), (62, (I x14)), (63, (sSlot v15)), (64, (V.ptr 1 0 3)), (65, (sSlot a0.fFields)), (66, (I x14))]) rfl rfl rfl) <| et (regp_pure (x := (idx a0.fFields x14)) (w := fun v16 => (Pr (eSlot v16))) rfl rfl rfl rfl rfl (p_index (e := eSlot) rfl rfl rfl underlying23 rfl (by decide))) <| bindE fun v16 => et (putp_adv (m := 1) (j := 9) (t' := [(1, (Pt 1)), (4, (I x14)), (57, (Bo true)), (60, (V.ptr 1 0 3)), (61, (sSlot a0.fFields)), (62, (I x14)), (63, (sSlot v15)), (64, (V.ptr 1 0 3)), (65, (sSlot a0.fFields)), (66, (I x14)), (67, (Pr (eSlot v16))), (68, (eSlot v16))]) rfl rfl rfl) <| et (regp_pure (x := (ref24_isField k v15 v16)) (w := fun v17 => (Bo v17)) rfl rfl rfl rfl rfl (p_call rfl rfl rfl rfl rfl (ref24_isField_ok k v15 v16) (.inl rfl))) <| bindE fun v17 => regp_end rfl) fun o18 => kcl rfl rfl (fun hc => ?_) fun hc => ?_
   ·rw [hc]
    refine kr ⟨[(2, (Bo false))], [], 191⟩ rfl <| et k_lret <| et blk_ret <| et loop_ret <| et (hret _) ?_
    rfl
   ·rw [hc]
    exact et k_lskip <| et blk_normal <| kl ⟨[(1, (Pt 1)), (4, (I (Go.IntKind.wrap .i64 (x14 + 1))))], [(1, vS 4 (eForm a0))], 191⟩ rfl <| et loop_normal <| ih (Go.IntKind.wrap .i64 (x14 + 1))
  ·rw [hc]
   exact et k_exit <| et loop_exit <| hK0 x14
theorem ref24_Valid_L4_ok (k : Nat) (a0 : T_api_Form) (o21 : (List T_progenyref24_span)) (x50 : Int)  (K0 : Int → Option Bool) (Kst : X × St → Option (V × List V)) (hK0 : ∀ (y0 : Int), Kst (X.exit 6, ⟨[(1, (Pt 1)), (5, (sspan (o21))), (6, (I x50)), (7, (I y0)), (139, (Bo false))], [(1, vS 4 (eForm a0))], 191⟩) = (K0 y0).map ref24_Valid_fin) (hret : ∀ s, Kst (X.ret, s) = endK prog 191 [(eForm a0)] [] [.tmp 2] (X.ret, s)) :
  ∀ (m : Nat) (x68 : Int), (iter (exec prog (EV k) f22n k f22b2) m ⟨[(1, (Pt 1)), (5, (sspan (o21))), (6, (I x50)), (7, (I x68))], [(1, vS 4 (eForm a0))], 191⟩).bind Kst = (ref24_Valid_L4 o21 x50 K0 m x68).map ref24_Valid_fin := by
 intro m
 induction m with
 | zero => intros; rfl
 | succ m ih =>
  intro x68
  unfold ref24_Valid_L4
  refine et k_round <| et k_assoc <| kra [(139, (Bo (decide (x68 < x50))))] rfl <| kc rfl rfl (fun hc => ?_) fun hc => ?_
  ·rw [hc]
   refine et k_skip <| et (k_block rfl) <| kd f22a22 rfl (fun (o77 : Bool) => ⟨[(1, (Pt 1)), (5, (sspan (o21))), (6, (I x50)), (7, (I x68)), (190, (Bo o77))], [(1, vS 4 (eForm a0))], 191⟩) ?_ fun o77 => ?_
   ·refine et (regionE_regp (p := 49) (dk := true) (t := [(1, (Pt 1)), (5, (sspan (o21))), (6, (I x50)), (7, (I x68)), (139, (Bo true))]) (σ := [(1, vS 4 (eForm a0))]) (n := 191) rfl (by decide) (by decide) rfl) <| et (regp_adv (m := 2) (j := 2) (t' := [(1, (Pt 1)), (5, (sspan (o21))), (6, (I x50)), (7, (I x68)), (139, (Bo true)), (142, (sspan (o21))), (143, (I x68))]) rfl rfl rfl) <| et (regp_pure (x := (idx o21 x68)) (w := fun v69 => (Pr (espan v69))) rfl rfl rfl rfl rfl (p_index (e := espan) rfl rfl rfl underlying78 rfl (by decide))) <| bindE fun v69 => et (putp_adv (m := 4) (j := 7) (t' := [(1, (Pt 1)), (5, (sspan (o21))), (6, (I x50)), (7, (I x68)), (139, (Bo true)), (142, (sspan (o21))), (143, (I x68)), (144, (Pr (espan v69))), (145, (Pr (I v69.frow))), (146, (I v69.frow)), (147, (sspan (o21))), (148, (I x50))]) rfl rfl rfl) <| et (regp_pure (x := (idx o21 x50)) (w := fun v70 => (Pr (espan v70))) rfl rfl rfl rfl rfl (p_index (e := espan) rfl rfl rfl underlying78 rfl (by decide))) <| bindE fun v70 => et (putp_adv (m := 4) (j := 12) (t' := [(1, (Pt 1)), (5, (sspan (o21))), (6, (I x50)), (7, (I x68)), (139, (Bo true)), (142, (sspan (o21))), (143, (I x68)), (144, (Pr (espan v69))), (145, (Pr (I v69.frow))), (146, (I v69.frow)), (147, (sspan (o21))), (148, (I x50)), (149, (Pr (espan v70))), (150, (Pr (I v70.frow))), (151, (I v70.frow)), (152, (Bo (v69.frow == v70.frow))), (153, (Bo (v69.frow == v70.frow)))]) rfl rfl rfl) <| bifE (fun hc => ?_) fun hc => ?_
    ·rw [hc]
     refine et (regp_adv (m := 2) (j := 14) (t' := [(1, (Pt 1)), (5, (sspan (o21))), (6, (I x50)), (7, (I x68)), (139, (Bo true)), (142, (sspan (o21))), (143, (I x68)), (144, (Pr (espan v69))), (145, (Pr (I v69.frow))), (146, (I v69.frow)), (147, (sspan (o21))), (148, (I x50)), (149, (Pr (espan v70))), (150, (Pr (I v70.frow))), (151, (I v70.frow)), (152, (Bo true)), (153, (Bo true)), (154, (sspan (o21))), (155, (I x68))]) rfl rfl rfl) <| et (regp_pure (x := (idx o21 x68)) (w := fun v71 => (Pr (espan v71))) rfl rfl rfl rfl rfl (p_index (e := espan) rfl rfl rfl underlying78 rfl (by decide))) <| bindE fun v71 => et (putp_adv (m := 4) (j := 19) (t' := [(1, (Pt 1)), (5, (sspan (o21))), (6, (I x50)), (7, (I x68)), (139, (Bo true)), (142, (sspan (o21))), (143, (I x68)), (144, (Pr (espan v69))), (145, (Pr (I v69.frow))), (146, (I v69.frow)), (147, (sspan (o21))), (148, (I x50)), (149, (Pr (espan v70))), (150, (Pr (I v70.frow))), (151, (I v70.frow)), (152, (Bo true)), (153, (Bo true)), (154, (sspan (o21))), (155, (I x68)), (156, (Pr (espan v71))), (157, (Pr (I v71.fcolumn))), (158, (I v71.fcolumn)), (159, (sspan (o21))), (160, (I x50))]) rfl rfl rfl) <| et (regp_pure (x := (idx o21 x50)) (w := fun v72 => (Pr (espan v72))) rfl rfl rfl rfl rfl (p_index (e := espan) rfl rfl rfl underlying78 rfl (by decide))) <| bindE fun v72 => et (putp_adv (m := 4) (j := 24) (t' := [(1, (Pt 1)), (5, (sspan (o21))), (6, (I x50)), (7, (I x68)), (139, (Bo true)), (142, (sspan (o21))), (143, (I x68)), (144, (Pr (espan v69))), (145, (Pr (I v69.frow))), (146, (I v69.frow)), (147, (sspan (o21))), (148, (I x50)), (149, (Pr (espan v70))), (150, (Pr (I v70.frow))), (151, (I v70.frow)), (152, (Bo true)), (153, (Bo true)), (154, (sspan (o21))), (155, (I x68)), (156, (Pr (espan v71))), (157, (Pr (I v71.fcolumn))), (158, (I v71.fcolumn)), (159, (sspan (o21))), (160, (I x50)), (161, (Pr (espan v72))), (162, (Pr (I v72.fcolumn))), (163, (I v72.fcolumn)), (164, (sspan (o21))), (165, (I x50))]) rfl rfl rfl) <| et (regp_pure (x := (idx o21 x50)) (w := fun v73 => (Pr (espan v73))) rfl rfl rfl rfl rfl (p_index (e := espan) rfl rfl rfl underlying78 rfl (by decide))) <| bindE fun v73 => et (putp_adv (m := 6) (j := 31) (t' := [(1, (Pt 1)), (5, (sspan (o21))), (6, (I x50)), (7, (I x68)), (139, (Bo true)), (142, (sspan (o21))), (143, (I x68)), (144, (Pr (espan v69))), (145, (Pr (I v69.frow))), (146, (I v69.frow)), (147, (sspan (o21))), (148, (I x50)), (149, (Pr (espan v70))), (150, (Pr (I v70.frow))), (151, (I v70.frow)), (152, (Bo true)), (153, (Bo true)), (154, (sspan (o21))), (155, (I x68)), (156, (Pr (espan v71))), (157, (Pr (I v71.fcolumn))), (158, (I v71.fcolumn)), (159, (sspan (o21))), (160, (I x50)), (161, (Pr (espan v72))), (162, (Pr (I v72.fcolumn))), (163, (I v72.fcolumn)), (164, (sspan (o21))), (165, (I x50)), (166, (Pr (espan v73))), (167, (Pr (I v73.fbytes))), (168, (I v73.fbytes)), (169, (I (Go.IntKind.wrap .i64 (v72.fcolumn + v73.fbytes)))), (170, (Bo (decide (v71.fcolumn < (Go.IntKind.wrap .i64 (v72.fcolumn + v73.fbytes)))))), (171, (Bo (decide (v71.fcolumn < (Go.IntKind.wrap .i64 (v72.fcolumn + v73.fbytes)))))), (172, (Bo (decide (v71.fcolumn < (Go.IntKind.wrap .i64 (v72.fcolumn + v73.fbytes))))))]) rfl rfl rfl) <| bifE (fun hc => ?_) fun hc => ?_
     ·rw [hc]
      exact et (regp_adv (m := 2) (j := 33) (t' := [(1, (Pt 1)), (5, (sspan (o21))), (6, (I x50)), (7, (I x68)), (139, (Bo true)), (142, (sspan (o21))), (143, (I x68)), (144, (Pr (espan v69))), (145, (Pr (I v69.frow))), (146, (I v69.frow)), (147, (sspan (o21))), (148, (I x50)), (149, (Pr (espan v70))), (150, (Pr (I v70.frow))), (151, (I v70.frow)), (152, (Bo true)), (153, (Bo true)), (154, (sspan (o21))), (155, (I x68)), (156, (Pr (espan v71))), (157, (Pr (I v71.fcolumn))), (158, (I v71.fcolumn)), (159, (sspan (o21))), (160, (I x50)), (161, (Pr (espan v72))), (162, (Pr (I v72.fcolumn))), (163, (I v72.fcolumn)), (164, (sspan (o21))), (165, (I x50)), (166, (Pr (espan v73))), (167, (Pr (I v73.fbytes))), (168, (I v73.fbytes)), (169, (I (Go.IntKind.wrap .i64 (v72.fcolumn + v73.fbytes)))), (170, (Bo true)), (171, (Bo true)), (172, (Bo true)), (173, (sspan (o21))), (174, (I x50))]) rfl rfl rfl) <| et (regp_pure (x := (idx o21 x50)) (w := fun v74 => (Pr (espan v74))) rfl rfl rfl rfl rfl (p_index (e := espan) rfl rfl rfl underlying78 rfl (by decide))) <| bindE fun v74 => et (putp_adv (m := 4) (j := 38) (t' := [(1, (Pt 1)), (5, (sspan (o21))), (6, (I x50)), (7, (I x68)), (139, (Bo true)), (142, (sspan (o21))), (143, (I x68)), (144, (Pr (espan v69))), (145, (Pr (I v69.frow))), (146, (I v69.frow)), (147, (sspan (o21))), (148, (I x50)), (149, (Pr (espan v70))), (150, (Pr (I v70.frow))), (151, (I v70.frow)), (152, (Bo true)), (153, (Bo true)), (154, (sspan (o21))), (155, (I x68)), (156, (Pr (espan v71))), (157, (Pr (I v71.fcolumn))), (158, (I v71.fcolumn)), (159, (sspan (o21))), (160, (I x50)), (161, (Pr (espan v72))), (162, (Pr (I v72.fcolumn))), (163, (I v72.fcolumn)), (164, (sspan (o21))), (165, (I x50)), (166, (Pr (espan v73))), (167, (Pr (I v73.fbytes))), (168, (I v73.fbytes)), (169, (I (Go.IntKind.wrap .i64 (v72.fcolumn + v73.fbytes)))), (170, (Bo true)), (171, (Bo true)), (172, (Bo true)), (173, (sspan (o21))), (174, (I x50)), (175, (Pr (espan v74))), (176, (Pr (I v74.fcolumn))), (177, (I v74.fcolumn)), (178, (sspan (o21))), (179, (I x68))]) rfl rfl rfl) <| et (regp_pure (x := (idx o21 x68)) (w := fun v75 => (Pr (espan v75))) rfl rfl rfl rfl rfl (p_index (e := espan) rfl rfl rfl underlying78 rfl (by decide))) <| bindE fun v75 => et (putp_adv (m := 4) (j := 43) (t' := [(1, (Pt 1)), (5, (sspan (o21))), (6, (I x50)), (7, (I x68)), (139, (Bo true)), (142, (sspan (o21))), (143, (I x68)), (144, (Pr (espan v69))), (145, (Pr (I v69.frow))), (146, (I v69.frow)), (147, (sspan (o21))), (148, (I x50)), (149, (Pr (espan v70))), (150, (Pr (I v70.frow))), (151, (I v70.frow)), (152, (Bo true)), (153, (Bo true)), (154, (sspan (o21))), (155, (I x68)), (156, (Pr (espan v71))), (157, (Pr (I v71.fcolumn))), (158, (I v71.fcolumn)), (159, (sspan (o21))), (160, (I x50)), (161, (Pr (espan v72))), (162, (Pr (I v72.fcolumn))), (163, (I v72.fcolumn)), (164, (sspan (o21))), (165, (I x50)), (166, (Pr (espan v73))), (167, (Pr (I v73.fbytes))), (168, (I v73.fbytes)), (169, (I (Go.IntKind.wrap .i64 (v72.fcolumn + v73.fbytes)))), (170, (Bo true)), (171, (Bo true)), (172, (Bo true)), (173, (sspan (o21))), (174, (I x50)), (175, (Pr (espan v74))), (176, (Pr (I v74.fcolumn))), (177, (I v74.fcolumn)), (178, (sspan (o21))), (179, (I x68)), (180, (Pr (espan v75))), (181, (Pr (I v75.fcolumn))), (182, (I v75.fcolumn)), (183, (sspan (o21))), (184, (I x68))]) rfl rfl rfl) <| et (regp_pure (x := (idx o21 x68)) (w := fun v76 => (Pr (espan v76))) rfl rfl rfl rfl rfl (p_index (e := espan) rfl rfl rfl underlying78 rfl (by decide))) <| bindE fun v76 => regp_end rfl
     ·rw [hc]
      exact regp_end rfl
    ·rw [hc]
     exact regp_end rfl
   refine kcl rfl rfl (fun hc => ?_) fun hc => ?_
   ·rw [hc]
    refine kr ⟨[(2, (Bo false))], [], 191⟩ rfl <| et k_lret <| et blk_ret <| et loop_ret <| et (hret _) ?_
    rfl
   ·rw [hc]
    exact et k_lskip <| et blk_normal <| kl ⟨[(1, (Pt 1)), (5, (sspan (o21))), (6, (I x50)), (7, (I (Go.IntKind.wrap .i64 (x68 + 1))))], [(1, vS 4 (eForm a0))], 191⟩ rfl <| et loop_normal <| ih (Go.IntKind.wrap .i64 (x68 + 1))
  ·rw [hc]
   exact et k_exit <| et loop_exit <| hK0 x68
theorem ref24_Valid_L3_ok (k : Nat) (a0 : T_api_Form) (o21 : (List T_progenyref24_span))  (K0 : Int → Option Bool) (Kst : X × St → Option (V × List V)) (hK0 : ∀ (y0 : Int), Kst (X.exit 4, ⟨[(1, (Pt 1)), (5, (sspan (o21))), (6, (I y0)), (76, (Bo false))], [(1, vS 4 (eForm a0))], 191⟩) = (K0 y0).map ref24_Valid_fin) (hret : ∀ s, Kst (X.ret, s) = endK prog 191 [(eForm a0)] [] [.tmp 2] (X.ret, s)) :
  ∀ (m : Nat) (x50 : Int), (iter (exec prog (EV k) f22n k f22b3) m ⟨[(1, (Pt 1)), (5, (sspan (o21))), (6, (I x50))], [(1, vS 4 (eForm a0))], 191⟩).bind Kst = (ref24_Valid_L3 k a0 o21 K0 m x50).map ref24_Valid_fin := by
 intro m
 induction m with
 | zero => intros; rfl
 | succ m ih =>
  intro x50
  unfold ref24_Valid_L3
  refine et k_round <| et k_assoc <| krp f22a15 rfl ⟨[(1, (Pt 1)), (5, (sspan (o21))), (6, (I x50)), (76, (Bo (decide (x50 < (o21.length : Int)))))], [(1, vS 4 (eForm a0))], 191⟩ ?_ ?_
  ·exact rd 2 [(73, (I x50)), (74, (sspan (o21)))] rfl rfl <| rl rfl (p_len (e := espan) rfl rfl rfl rfl rfl rfl underlying78) <| bind_end rfl
  refine kc rfl rfl (fun hc => ?_) fun hc => ?_
  ·rw [hc]
   refine et k_skip <| et (k_block rfl) <| et k_assoc <| kd f22a17 rfl (fun (o58 : Bool) => ⟨[(1, (Pt 1)), (5, (sspan (o21))), (6, (I x50)), (136, (Bo o58))], [(1, vS 4 (eForm a0))], 191⟩) ?_ fun o58 => ?_
   ·refine et (regionE_regp (p := 58) (dk := true) (t := [(1, (Pt 1)), (5, (sspan (o21))), (6, (I x50)), (76, (Bo true))]) (σ := [(1, vS 4 (eForm a0))]) (n := 191) rfl (by decide) (by decide) rfl) <| et (regp_adv (m := 2) (j := 2) (t' := [(1, (Pt 1)), (5, (sspan (o21))), (6, (I x50)), (76, (Bo true)), (79, (sspan (o21))), (80, (I x50))]) rfl rfl rfl) <| et (regp_pure (x := (idx o21 x50)) (w := fun v51 => (Pr (espan v51))) rfl rfl rfl rfl rfl (p_index (e := espan) rfl rfl rfl underlying78 rfl (by decide))) <| bindE fun v51 => et (putp_adv (m := 4) (j := 7) (t' := [(1, (Pt 1)), (5, (sspan (o21))), (6, (I x50)), (76, (Bo true)), (79, (sspan (o21))), (80, (I x50)), (81, (Pr (espan v51))), (82, (Pr (I v51.frow))), (83, (I v51.frow)), (84, (Bo (decide (v51.frow < 0)))), (85, (Bo (decide (v51.frow < 0))))]) rfl rfl rfl) <| bifE (fun hc => ?_) fun hc => ?_
    ·rw [hc]
     exact regp_end rfl
    ·rw [hc]
     refine et (regp_adv (m := 2) (j := 9) (t' := [(1, (Pt 1)), (5, (sspan (o21))), (6, (I x50)), (76, (Bo true)), (79, (sspan (o21))), (80, (I x50)), (81, (Pr (espan v51))), (82, (Pr (I v51.frow))), (83, (I v51.frow)), (84, (Bo false)), (85, (Bo false)), (86, (sspan (o21))), (87, (I x50))]) rfl rfl rfl) <| et (regp_pure (x := (idx o21 x50)) (w := fun v52 => (Pr (espan v52))) rfl rfl rfl rfl rfl (p_index (e := espan) rfl rfl rfl underlying78 rfl (by decide))) <| bindE fun v52 => et (putp_adv (m := 7) (j := 17) (t' := [(1, (Pt 1)), (5, (sspan (o21))), (6, (I x50)), (76, (Bo true)), (79, (sspan (o21))), (80, (I x50)), (81, (Pr (espan v51))), (82, (Pr (I v51.frow))), (83, (I v51.frow)), (84, (Bo false)), (85, (Bo false)), (86, (sspan (o21))), (87, (I x50)), (88, (Pr (espan v52))), (89, (Pr (I v52.frow))), (90, (I v52.frow)), (91, (Pt 1)), (92, (I a0.fRows)), (93, (Bo (decide (v52.frow ≥ a0.fRows)))), (94, (Bo (decide (v52.frow ≥ a0.fRows)))), (95, (Bo (decide (v52.frow ≥ a0.fRows))))]) rfl rfl rfl) <| bifE (fun hc => ?_) fun hc => ?_
     ·rw [hc]
      exact regp_end rfl
     ·rw [hc]
      refine et (regp_adv (m := 2) (j := 19) (t' := [(1, (Pt 1)), (5, (sspan (o21))), (6, (I x50)), (76, (Bo true)), (79, (sspan (o21))), (80, (I x50)), (81, (Pr (espan v51))), (82, (Pr (I v51.frow))), (83, (I v51.frow)), (84, (Bo false)), (85, (Bo false)), (86, (sspan (o21))), (87, (I x50)), (88, (Pr (espan v52))), (89, (Pr (I v52.frow))), (90, (I v52.frow)), (91, (Pt 1)), (92, (I a0.fRows)), (93, (Bo false)), (94, (Bo false)), (95, (Bo false)), (96, (sspan (o21))), (97, (I x50))]) rfl rfl rfl) <| et (regp_pure (x := (idx o21 x50)) (w := fun v53 => (Pr (espan v53))) rfl rfl rfl rfl rfl (p_index (e := espan) rfl rfl rfl underlying78 rfl (by decide))) <| bindE fun v53 => et (putp_adv (m := 5) (j := 25) (t' := [(1, (Pt 1)), (5, (sspan (o21))), (6, (I x50)), (76, (Bo true)), (79, (sspan (o21))), (80, (I x50)), (81, (Pr (espan v51))), (82, (Pr (I v51.frow))), (83, (I v51.frow)), (84, (Bo false)), (85, (Bo false)), (86, (sspan (o21))), (87, (I x50)), (88, (Pr (espan v52))), (89, (Pr (I v52.frow))), (90, (I v52.frow)), (91, (Pt 1)), (92, (I a0.fRows)), (93, (Bo false)), (94, (Bo false)), (95, (Bo false)), (96, (sspan (o21))), (97, (I x50)), (98, (Pr (espan v53))), (99, (Pr (I v53.fcolumn))), (100, (I v53.fcolumn)), (101, (Bo (decide (v53.fcolumn < 0)))), (102, (Bo (decide (v53.fcolumn < 0)))), (103, (Bo (decide (v53.fcolumn < 0))))]) rfl rfl rfl) <| bifE (fun hc => ?_) fun hc => ?_
      ·rw [hc]
       exact regp_end rfl
      ·rw [hc]
       refine et (regp_adv (m := 2) (j := 27) (t' := [(1, (Pt 1)), (5, (sspan (o21))), (6, (I x50)), (76, (Bo true)), (79, (sspan (o21))), (80, (I x50)), (81, (Pr (espan v51))), (82, (Pr (I v51.frow))), (83, (I v51.frow)), (84, (Bo false)), (85, (Bo false)), (86, (sspan (o21))), (87, (I x50)), (88, (Pr (espan v52))), (89, (Pr (I v52.frow))), (90, (I v52.frow)), (91, (Pt 1)), (92, (I a0.fRows)), (93, (Bo false)), (94, (Bo false)), (95, (Bo false)), (96, (sspan (o21))), (97, (I x50)), (98, (Pr (espan v53))), (99, (Pr (I v53.fcolumn))), (100, (I v53.fcolumn)), (101, (Bo false)), (102, (Bo false)), (103, (Bo false)), (104, (sspan (o21))), (105, (I x50))]) rfl rfl rfl) <| et (regp_pure (x := (idx o21 x50)) (w := fun v54 => (Pr (espan v54))) rfl rfl rfl rfl rfl (p_index (e := espan) rfl rfl rfl underlying78 rfl (by decide))) <| bindE fun v54 => et (putp_adv (m := 7) (j := 35) (t' := [(1, (Pt 1)), (5, (sspan (o21))), (6, (I x50)), (76, (Bo true)), (79, (sspan (o21))), (80, (I x50)), (81, (Pr (espan v51))), (82, (Pr (I v51.frow))), (83, (I v51.frow)), (84, (Bo false)), (85, (Bo false)), (86, (sspan (o21))), (87, (I x50)), (88, (Pr (espan v52))), (89, (Pr (I v52.frow))), (90, (I v52.frow)), (91, (Pt 1)), (92, (I a0.fRows)), (93, (Bo false)), (94, (Bo false)), (95, (Bo false)), (96, (sspan (o21))), (97, (I x50)), (98, (Pr (espan v53))), (99, (Pr (I v53.fcolumn))), (100, (I v53.fcolumn)), (101, (Bo false)), (102, (Bo false)), (103, (Bo false)), (104, (sspan (o21))), (105, (I x50)), (106, (Pr (espan v54))), (107, (Pr (I v54.fcolumn))), (108, (I v54.fcolumn)), (109, (V.ptr 1 0 1)), (110, (I a0.fColumns)), (111, (Bo (decide (v54.fcolumn ≥ a0.fColumns)))), (112, (Bo (decide (v54.fcolumn ≥ a0.fColumns)))), (113, (Bo (decide (v54.fcolumn ≥ a0.fColumns))))]) rfl rfl rfl) <| bifE (fun hc => ?_) fun hc => ?_
       ·rw [hc]
        exact regp_end rfl
       ·rw [hc]
        refine et (regp_adv (m := 2) (j := 37) (t' := [(1, (Pt 1)), (5, (sspan (o21))), (6, (I x50)), (76, (Bo true)), (79, (sspan (o21))), (80, (I x50)), (81, (Pr (espan v51))), (82, (Pr (I v51.frow))), (83, (I v51.frow)), (84, (Bo false)), (85, (Bo false)), (86, (sspan (o21))), (87, (I x50)), (88, (Pr (espan v52))), (89, (Pr (I v52.frow))), (90, (I v52.frow)), (91, (Pt 1)), (92, (I a0.fRows)), (93, (Bo false)), (94, (Bo false)), (95, (Bo false)), (96, (sspan (o21))), (97, (I x50)), (98, (Pr (espan v53))), (99, (Pr (I v53.fcolumn))), (100, (I v53.fcolumn)), (101, (Bo false)), (102, (Bo false)), (103, (Bo false)), (104, (sspan (o21))), (105, (I x50)), (106, (Pr (espan v54))), (107, (Pr (I v54.fcolumn))), (108, (I v54.fcolumn)), (109, (V.ptr 1 0 1)), (110, (I a0.fColumns)), (111, (Bo false)), (112, (Bo false)), (113, (Bo false)), (114, (sspan (o21))), (115, (I x50))]) rfl rfl rfl) <| et (regp_pure (x := (idx o21 x50)) (w := fun v55 => (Pr (espan v55))) rfl rfl rfl rfl rfl (p_index (e := espan) rfl rfl rfl underlying78 rfl (by decide))) <| bindE fun v55 => et (putp_adv (m := 5) (j := 43) (t' := [(1, (Pt 1)), (5, (sspan (o21))), (6, (I x50)), (76, (Bo true)), (79, (sspan (o21))), (80, (I x50)), (81, (Pr (espan v51))), (82, (Pr (I v51.frow))), (83, (I v51.frow)), (84, (Bo false)), (85, (Bo false)), (86, (sspan (o21))), (87, (I x50)), (88, (Pr (espan v52))), (89, (Pr (I v52.frow))), (90, (I v52.frow)), (91, (Pt 1)), (92, (I a0.fRows)), (93, (Bo false)), (94, (Bo false)), (95, (Bo false)), (96, (sspan (o21))), (97, (I x50)), (98, (Pr (espan v53))), (99, (Pr (I v53.fcolumn))), (100, (I v53.fcolumn)), (101, (Bo false)), (102, (Bo false)), (103, (Bo false)), (104, (sspan (o21))), (105, (I x50)), (106, (Pr (espan v54))), (107, (Pr (I v54.fcolumn))), (108, (I v54.fcolumn)), (109, (V.ptr 1 0 1)), (110, (I a0.fColumns)), (111, (Bo false)), (112, (Bo false)), (113, (Bo false)), (114, (sspan (o21))), (115, (I x50)), (116, (Pr (espan v55))), (117, (Pr (I v55.fbytes))), (118, (I v55.fbytes)), (119, (Bo (decide (v55.fbytes < 1)))), (120, (Bo (decide (v55.fbytes < 1)))), (121, (Bo (decide (v55.fbytes < 1))))]) rfl rfl rfl) <| bifE (fun hc => ?_) fun hc => ?_
        ·rw [hc]
         exact regp_end rfl
        ·rw [hc]
         exact et (regp_adv (m := 2) (j := 45) (t' := [(1, (Pt 1)), (5, (sspan (o21))), (6, (I x50)), (76, (Bo true)), (79, (sspan (o21))), (80, (I x50)), (81, (Pr (espan v51))), (82, (Pr (I v51.frow))), (83, (I v51.frow)), (84, (Bo false)), (85, (Bo false)), (86, (sspan (o21))), (87, (I x50)), (88, (Pr (espan v52))), (89, (Pr (I v52.frow))), (90, (I v52.frow)), (91, (Pt 1)), (92, (I a0.fRows)), (93, (Bo false)), (94, (Bo false)), (95, (Bo false)), (96, (sspan (o21))), (97, (I x50)), (98, (Pr (espan v53))), (99, (Pr (I v53.fcolumn))), (100, (I v53.fcolumn)), (101, (Bo false)), (102, (Bo false)), (103, (Bo false)), (104, (sspan (o21))), (105, (I x50)), (106, (Pr (espan v54))), (107, (Pr (I v54.fcolumn))), (108, (I v54.fcolumn)), (109, (V.ptr 1 0 1)), (110, (I a0.fColumns)), (111, (Bo false)), (112, (Bo false)), (113, (Bo false)), (114, (sspan (o21))), (115, (I x50)), (116, (Pr (espan v55))), (117, (Pr (I v55.fbytes))), (118, (I v55.fbytes)), (119, (Bo false)), (120, (Bo false)), (121, (Bo false)), (122, (sspan (o21))), (123, (I x50))]) rfl rfl rfl) <| et (regp_pure (x := (idx o21 x50)) (w := fun v56 => (Pr (espan v56))) rfl rfl rfl rfl rfl (p_index (e := espan) rfl rfl rfl underlying78 rfl (by decide))) <| bindE fun v56 => et (putp_adv (m := 6) (j := 52) (t' := [(1, (Pt 1)), (5, (sspan (o21))), (6, (I x50)), (76, (Bo true)), (79, (sspan (o21))), (80, (I x50)), (81, (Pr (espan v51))), (82, (Pr (I v51.frow))), (83, (I v51.frow)), (84, (Bo false)), (85, (Bo false)), (86, (sspan (o21))), (87, (I x50)), (88, (Pr (espan v52))), (89, (Pr (I v52.frow))), (90, (I v52.frow)), (91, (Pt 1)), (92, (I a0.fRows)), (93, (Bo false)), (94, (Bo false)), (95, (Bo false)), (96, (sspan (o21))), (97, (I x50)), (98, (Pr (espan v53))), (99, (Pr (I v53.fcolumn))), (100, (I v53.fcolumn)), (101, (Bo false)), (102, (Bo false)), (103, (Bo false)), (104, (sspan (o21))), (105, (I x50)), (106, (Pr (espan v54))), (107, (Pr (I v54.fcolumn))), (108, (I v54.fcolumn)), (109, (V.ptr 1 0 1)), (110, (I a0.fColumns)), (111, (Bo false)), (112, (Bo false)), (113, (Bo false)), (114, (sspan (o21))), (115, (I x50)), (116, (Pr (espan v55))), (117, (Pr (I v55.fbytes))), (118, (I v55.fbytes)), (119, (Bo false)), (120, (Bo false)), (121, (Bo false)), (122, (sspan (o21))), (123, (I x50)), (124, (Pr (espan v56))), (125, (Pr (I v56.fbytes))), (126, (I v56.fbytes)), (127, (V.ptr 1 0 1)), (128, (I a0.fColumns)), (129, (sspan (o21))), (130, (I x50))]) rfl rfl rfl) <| et (regp_pure (x := (idx o21 x50)) (w := fun v57 => (Pr (espan v57))) rfl rfl rfl rfl rfl (p_index (e := espan) rfl rfl rfl underlying78 rfl (by decide))) <| bindE fun v57 => regp_end rfl
   refine kc rfl rfl (fun hc => ?_) fun hc => ?_
   ·rw [hc]
    refine et k_assoc <| kr ⟨[(2, (Bo false))], [], 191⟩ rfl <| et k_ret <| et blk_ret <| et loop_ret <| et (hret _) ?_
    rfl
   ·rw [hc]
    refine et k_skip <| kr ⟨[(1, (Pt 1)), (5, (sspan (o21))), (6, (I x50)), (7, (I 0))], [(1, vS 4 (eForm a0))], 191⟩ rfl <| et (k_lblock rfl) <| et k_loop ?_
    refine ref24_Valid_L4_ok k a0 o21 x50 _ _ ?h_ref24_Valid_L4_0 ?hr_ref24_Valid_L4 k 0
    ·intro y78
     exact et blk_exit <| et k_lskip <| et blk_normal <| kl ⟨[(1, (Pt 1)), (5, (sspan (o21))), (6, (I (Go.IntKind.wrap .i64 (x50 + 1))))], [(1, vS 4 (eForm a0))], 191⟩ rfl <| et loop_normal <| ih (Go.IntKind.wrap .i64 (x50 + 1))
    ·intro s; exact hret s
  ·rw [hc]
   exact et k_exit <| et loop_exit <| hK0 x50
theorem ref24_Valid_ok (k : Nat) (a0 : T_api_Form) : EV k 22 [(eForm a0)] = (ref24_Valid k a0).map ref24_Valid_fin := by
 cases k with
 | zero => rfl
 | succ k =>
  unfold ref24_Valid
  refine et (evF_succ (c := f22c) (N := 191) (regs := f22n) rfl func22 rfl (by decide) rfl rfl rfl) <| kr ⟨[(1, (Pt 1))], [(1, vS 4 (eForm a0))], 191⟩ rfl <| et k_assoc <| kga f22a1 rfl (fun (o1 : Bool) => [(37, (Bo o1))]) ?_ fun o1 => ?_
  ·refine rd 4 [(8, (Pt 1)), (9, (I a0.fRows)), (10, (Bo (decide (a0.fRows < 1)))), (11, (Bo (decide (a0.fRows < 1))))] rfl rfl <| bifE (fun hc => ?_) fun hc => ?_
   ·rw [hc]
    exact reg_end rfl
   ·rw [hc]
    refine rd 9 [(12, (Pt 1)), (13, (I a0.fRows)), (14, (Bo (decide (a0.fRows > 12)))), (15, (Bo (decide (a0.fRows > 12)))), (16, (Bo (decide (a0.fRows > 12))))] rfl rfl <| bifE (fun hc => ?_) fun hc => ?_
    ·rw [hc]
     exact reg_end rfl
    ·rw [hc]
     refine rd 14 [(17, (V.ptr 1 0 1)), (18, (I a0.fColumns)), (19, (Bo (decide (a0.fColumns < 10)))), (20, (Bo (decide (a0.fColumns < 10)))), (21, (Bo (decide (a0.fColumns < 10))))] rfl rfl <| bifE (fun hc => ?_) fun hc => ?_
     ·rw [hc]
      exact reg_end rfl
     ·rw [hc]
      refine rd 19 [(22, (V.ptr 1 0 1)), (23, (I a0.fColumns)), (24, (Bo (decide (a0.fColumns > 40)))), (25, (Bo (decide (a0.fColumns > 40)))), (26, (Bo (decide (a0.fColumns > 40))))] rfl rfl <| bifE (fun hc => ?_) fun hc => ?_
      ·rw [hc]
       exact reg_end rfl
      ·rw [hc]
       refine rd 21 [(27, (V.ptr 1 0 2)), (28, (sMark a0.fMarks))] rfl rfl <| rl rfl (p_len (e := eMark) rfl rfl rfl rfl rfl rfl underlying22) <| bd 25 [(29, (I (a0.fMarks.length : Int))), (30, (Bo (decide ((a0.fMarks.length : Int) > 8)))), (31, (Bo (decide ((a0.fMarks.length : Int) > 8)))), (32, (Bo (decide ((a0.fMarks.length : Int) > 8))))] rfl rfl <| bifE (fun hc => ?_) fun hc => ?_
       ·rw [hc]
        exact reg_end rfl
       ·rw [hc]
        exact rd 27 [(33, (V.ptr 1 0 3)), (34, (sSlot a0.fFields))] rfl rfl <| rl rfl (p_len (e := eSlot) rfl rfl rfl rfl rfl rfl underlying23) <| bind_end rfl
  refine kc rfl rfl (fun hc => ?_) fun hc => ?_
  ·rw [hc]
   refine et k_assoc <| kr ⟨[(2, (Bo false))], [], 191⟩ rfl <| et k_ret ?_
   rfl
  ·rw [hc]
   refine et k_skip <| et k_assoc <| kr ⟨[(1, (Pt 1)), (3, (I 0))], [(1, vS 4 (eForm a0))], 191⟩ rfl <| et (k_block rfl) <| et k_loop ?_
   refine ref24_Valid_L1_ok k a0 _ _ ?h_ref24_Valid_L1_0 ?hr_ref24_Valid_L1 k 0
   ·intro y9
    refine et blk_exit <| et k_assoc <| kr ⟨[(1, (Pt 1)), (4, (I 0))], [(1, vS 4 (eForm a0))], 191⟩ rfl <| et (k_block rfl) <| et k_loop ?_
    refine ref24_Valid_L2_ok k a0 _ _ ?h_ref24_Valid_L2_0 ?hr_ref24_Valid_L2 k 0
    ·intro y19
     refine et blk_exit <| kg f22a13 rfl (fun (o21 : (List T_progenyref24_span)) => ⟨[(1, (Pt 1)), (5, (sspan (o21)))], [(1, vS 4 (eForm a0))], 191⟩) (rd 1 [(71, (eForm a0))] rfl rfl <| rs rfl (p_call rfl rfl rfl rfl rfl (ref24_spans_ok k a0) (.inl rfl)) fun v20 => bind_end rfl) fun o21 => et k_assoc <| kra [(6, (I 0))] rfl <| et (k_block rfl) <| et k_loop ?_
     refine ref24_Valid_L3_ok k a0 o21 _ _ ?h_ref24_Valid_L3_0 ?hr_ref24_Valid_L3 k 0
     ·intro y79
      refine et blk_exit <| kr ⟨[(2, (Bo true))], [], 191⟩ rfl <| et k_lret ?_
      rfl
     ·intro s; exact rfl
    ·intro s; exact rfl
   ·intro s; exact rfl
def ref24_Dec_fin : Str → V × List V := fun r => ((Sr r), [])
theorem ref24_Dec_ok (k : Nat) (a0 : Int) : EV k 23 [(I a0)] = (ref24_Dec k a0).map ref24_Dec_fin := by
 induction k generalizing a0 with
 | zero => intros; rfl
 | succ k ih =>
  unfold ref24_Dec
  refine et (evF_succ (c := f23c) (N := 17) (regs := f23n) rfl func23 rfl (by decide) rfl rfl rfl) <| kra [] rfl <| et k_assoc <| kra [(4, (Bo (decide (a0 < 10))))] rfl <| kc rfl rfl (fun hc => ?_) fun hc => ?_
  ·rw [hc]
   refine et k_assoc <| krp f23a2 rfl ⟨[(2, (Sr (Go.AE.strB ([(Go.IntKind.wrap .u8 (Go.IntKind.wrap .i64 (48 + a0)))] : List Int))))], [], 17⟩ ?_ ?_
   ·exact rd 4 [(5, (I a0)), (6, (I (Go.IntKind.wrap .i64 (48 + a0)))), (7, (V.int .u8 (Go.IntKind.wrap .u8 (Go.IntKind.wrap .i64 (48 + a0))))), (8, (V.sl 0 1 (List.map (V.int .u8) ([(Go.IntKind.wrap .u8 (Go.IntKind.wrap .i64 (48 + a0)))] : List Int))))] rfl rfl <| rl rfl (p_convBS (l := ([(Go.IntKind.wrap .u8 (Go.IntKind.wrap .i64 (48 + a0)))] : List Int)) rfl rfl underlying44 underlying9 underlying5) <| bind_end rfl
   refine et k_ret ?_
   rfl
  ·rw [hc]
   refine et k_skip <| kg f23a3 rfl (fun (o6 : Str) => ⟨[(2, (Sr o6))], [], 17⟩) (rd 1 [(10, (I a0))] rfl rfl <| rp rfl (p_quo rfl rfl rfl) fun v1 => bd 2 [(11, (I v1))] rfl rfl <| rp rfl (p_call rfl rfl rfl rfl rfl (ih v1) (.inl rfl)) fun v2 => bd 4 [(12, (Sr v2)), (13, (I a0))] rfl rfl <| rp rfl (p_rem rfl rfl rfl) fun v3 => bd 5 [(14, (I v3))] rfl rfl <| rp rfl (p_call rfl rfl rfl rfl rfl (ih v3) (.inl rfl)) fun v4 => bd 6 [(15, (Sr v4))] rfl rfl <| rs rfl (p_cat rfl rfl rfl) fun v5 => bind_end rfl) fun o6 => et k_lret ?_
   rfl
def ref24_place_fin : Str → V × List V := fun r => ((Sr r), [])
theorem ref24_place_ok (k : Nat) (a0 : Int) : EV k 24 [(I a0)] = (ref24_place k a0).map ref24_place_fin := by
 cases k with
 | zero => rfl
 | succ k =>
  unfold ref24_place
  refine et (evF_succ (c := f24c) (N := 7) (regs := f24n) rfl func24 rfl (by decide) rfl rfl rfl) <| kra [] rfl <| et k_assoc <| kra [(4, (Bo (decide (a0 < 0))))] rfl <| kc rfl rfl (fun hc => ?_) fun hc => ?_
  ·rw [hc]
   refine et k_assoc <| kr ⟨[(2, (Sr ([45] : Str)))], [], 7⟩ rfl <| et k_ret ?_
   rfl
  ·rw [hc]
   refine et k_skip <| kg f24a3 rfl (fun (o2 : Str) => ⟨[(2, (Sr o2))], [], 7⟩) (rd 1 [(5, (I a0))] rfl rfl <| rs rfl (p_call rfl rfl rfl rfl rfl (ref24_Dec_ok k a0) (.inl rfl)) fun v1 => bind_end rfl) fun o2 => et k_lret ?_
   rfl
def ref24_Format_fin : (Str × Int) → V × List V := fun r => (.tup [(Sr r.1), (I r.2)], [])
theorem ref24_Format_L1_ok (k : Nat) (a0 : T_api_Form)  (K0 : Str → Int → Option (Str × Int)) (Kst : X × St → Option (V × List V)) (hK0 : ∀ (y0 : Str) (y1 : Int), Kst (X.exit 0, ⟨[(1, (Pt 1)), (4, (Sr y0)), (5, (I y1)), (26, (Bo false))], [(1, vS 4 (eForm a0))], 100⟩) = (K0 y0 y1).map ref24_Format_fin) (hret : ∀ s, Kst (X.ret, s) = endK prog 100 [(eForm a0)] [] [.tmp 2, .tmp 3] (X.ret, s)) :
  ∀ (m : Nat) (x22 : Str) (x23 : Int), (iter (exec prog (EV k) f7n k f7b0) m ⟨[(1, (Pt 1)), (4, (Sr x22)), (5, (I x23))], [(1, vS 4 (eForm a0))], 100⟩).bind Kst = (ref24_Format_L1 k a0 K0 m x22 x23).map ref24_Format_fin := by
 intro m
 induction m with
 | zero => intros; rfl
 | succ m ih =>
  intro x22 x23
  unfold ref24_Format_L1
  refine et k_round <| et k_assoc <| krp f7a5 rfl ⟨[(1, (Pt 1)), (4, (Sr x22)), (5, (I x23)), (26, (Bo (decide (x23 < (a0.fMarks.length : Int)))))], [(1, vS 4 (eForm a0))], 100⟩ ?_ ?_
  ·exact rd 3 [(22, (I x23)), (23, (V.ptr 1 0 2)), (24, (sMark a0.fMarks))] rfl rfl <| rl rfl (p_len (e := eMark) rfl rfl rfl rfl rfl rfl underlying22) <| bind_end rfl
  refine kc rfl rfl (fun hc => ?_) fun hc => ?_
  ·rw [hc]
   exact et k_skip <| et (k_block rfl) <| kg f7a7 rfl (fun (o25 : T_api_Mark) => ⟨[(1, (Pt 1)), (4, (Sr x22)), (5, (I x23)), (6, (Pt 6))], [(1, vS 4 (eForm a0)), (6, vS 3 (eMark o25))], 100⟩) (rd 3 [(29, (V.ptr 1 0 2)), (30, (sMark a0.fMarks)), (31, (I x23))] rfl rfl <| rs rfl (p_index (e := eMark) rfl rfl rfl underlying22 rfl (by decide)) fun v24 => bind_end rfl) fun o25 => kdl f7a8 rfl (fun (o35 : Str) => ⟨[(1, (Pt 1)), (4, (Sr o35)), (5, (I x23))], [(1, vS 4 (eForm a0))], 100⟩) (et (regionE_regp (p := 16) (dk := true) (t := [(1, (Pt 1)), (4, (Sr x22)), (5, (I x23)), (6, (Pt 6))]) (σ := [(1, vS 4 (eForm a0)), (6, vS 3 (eMark o25))]) (n := 100) rfl (by decide) (by decide) rfl) <| et (regp_adv (m := 3) (j := 3) (t' := [(1, (Pt 1)), (4, (Sr x22)), (5, (I x23)), (6, (Pt 6)), (34, (Sr x22)), (35, (Pt 6)), (36, (I o25.fRow))]) rfl rfl rfl) <| et (regp_pure (x := (ref24_Dec k o25.fRow)) (w := fun v26 => (Sr v26)) rfl rfl rfl rfl rfl (p_call rfl rfl rfl rfl rfl (ref24_Dec_ok k o25.fRow) (.inl rfl))) <| bindE fun v26 => et (putp_adv (m := 0) (j := 4) (t' := [(1, (Pt 1)), (4, (Sr x22)), (5, (I x23)), (6, (Pt 6)), (34, (Sr x22)), (35, (Pt 6)), (36, (I o25.fRow)), (37, (Sr v26))]) rfl rfl rfl) <| et (regp_pure (x := (cat ([77, 65, 82, 75, 32] : Str) v26)) (w := fun v27 => (Sr v27)) rfl rfl rfl rfl rfl (p_cat rfl rfl rfl)) <| bindE fun v27 => et (putp_adv (m := 0) (j := 5) (t' := [(1, (Pt 1)), (4, (Sr x22)), (5, (I x23)), (6, (Pt 6)), (34, (Sr x22)), (35, (Pt 6)), (36, (I o25.fRow)), (37, (Sr v26)), (38, (Sr v27))]) rfl rfl rfl) <| et (regp_pure (x := (cat v27 ([32] : Str))) (w := fun v28 => (Sr v28)) rfl rfl rfl rfl rfl (p_cat rfl rfl rfl)) <| bindE fun v28 => et (putp_adv (m := 2) (j := 8) (t' := [(1, (Pt 1)), (4, (Sr x22)), (5, (I x23)), (6, (Pt 6)), (34, (Sr x22)), (35, (Pt 6)), (36, (I o25.fRow)), (37, (Sr v26)), (38, (Sr v27)), (39, (Sr v28)), (40, (V.ptr 6 0 1)), (41, (I o25.fColumn))]) rfl rfl rfl) <| et (regp_pure (x := (ref24_Dec k o25.fColumn)) (w := fun v29 => (Sr v29)) rfl rfl rfl rfl rfl (p_call rfl rfl rfl rfl rfl (ref24_Dec_ok k o25.fColumn) (.inl rfl))) <| bindE fun v29 => et (putp_adv (m := 0) (j := 9) (t' := [(1, (Pt 1)), (4, (Sr x22)), (5, (I x23)), (6, (Pt 6)), (34, (Sr x22)), (35, (Pt 6)), (36, (I o25.fRow)), (37, (Sr v26)), (38, (Sr v27)), (39, (Sr v28)), (40, (V.ptr 6 0 1)), (41, (I o25.fColumn)), (42, (Sr v29))]) rfl rfl rfl) <| et (regp_pure (x := (cat v28 v29)) (w := fun v30 => (Sr v30)) rfl rfl rfl rfl rfl (p_cat rfl rfl rfl)) <| bindE fun v30 => et (putp_adv (m := 0) (j := 10) (t' := [(1, (Pt 1)), (4, (Sr x22)), (5, (I x23)), (6, (Pt 6)), (34, (Sr x22)), (35, (Pt 6)), (36, (I o25.fRow)), (37, (Sr v26)), (38, (Sr v27)), (39, (Sr v28)), (40, (V.ptr 6 0 1)), (41, (I o25.fColumn)), (42, (Sr v29)), (43, (Sr v30))]) rfl rfl rfl) <| et (regp_pure (x := (cat v30 ([32] : Str))) (w := fun v31 => (Sr v31)) rfl rfl rfl rfl rfl (p_cat rfl rfl rfl)) <| bindE fun v31 => et (putp_adv (m := 2) (j := 13) (t' := [(1, (Pt 1)), (4, (Sr x22)), (5, (I x23)), (6, (Pt 6)), (34, (Sr x22)), (35, (Pt 6)), (36, (I o25.fRow)), (37, (Sr v26)), (38, (Sr v27)), (39, (Sr v28)), (40, (V.ptr 6 0 1)), (41, (I o25.fColumn)), (42, (Sr v29)), (43, (Sr v30)), (44, (Sr v31)), (45, (V.ptr 6 0 2)), (46, (Sr o25.fText))]) rfl rfl rfl) <| et (regp_pure (x := (cat v31 o25.fText)) (w := fun v32 => (Sr v32)) rfl rfl rfl rfl rfl (p_cat rfl rfl rfl)) <| bindE fun v32 => et (putp_adv (m := 0) (j := 14) (t' := [(1, (Pt 1)), (4, (Sr x22)), (5, (I x23)), (6, (Pt 6)), (34, (Sr x22)), (35, (Pt 6)), (36, (I o25.fRow)), (37, (Sr v26)), (38, (Sr v27)), (39, (Sr v28)), (40, (V.ptr 6 0 1)), (41, (I o25.fColumn)), (42, (Sr v29)), (43, (Sr v30)), (44, (Sr v31)), (45, (V.ptr 6 0 2)), (46, (Sr o25.fText)), (47, (Sr v32))]) rfl rfl rfl) <| et (regp_pure (x := (cat v32 ([10] : Str))) (w := fun v33 => (Sr v33)) rfl rfl rfl rfl rfl (p_cat rfl rfl rfl)) <| bindE fun v33 => et (putp_adv (m := 0) (j := 15) (t' := [(1, (Pt 1)), (4, (Sr x22)), (5, (I x23)), (6, (Pt 6)), (34, (Sr x22)), (35, (Pt 6)), (36, (I o25.fRow)), (37, (Sr v26)), (38, (Sr v27)), (39, (Sr v28)), (40, (V.ptr 6 0 1)), (41, (I o25.fColumn)), (42, (Sr v29)), (43, (Sr v30)), (44, (Sr v31)), (45, (V.ptr 6 0 2)), (46, (Sr o25.fText)), (47, (Sr v32)), (48, (Sr v33))]) rfl rfl rfl) <| et (regp_pure (x := (cat x22 v33)) (w := fun v34 => (Sr v34)) rfl rfl rfl rfl rfl (p_cat rfl rfl rfl)) <| bind_self fun v34 => regp_end rfl) fun o35 => et blk_normal <| kl ⟨[(1, (Pt 1)), (4, (Sr o35)), (5, (I (Go.IntKind.wrap .i64 (x23 + 1))))], [(1, vS 4 (eForm a0))], 100⟩ rfl <| et loop_normal <| ih o35 (Go.IntKind.wrap .i64 (x23 + 1))
  ·rw [hc]
   exact et k_exit <| et loop_exit <| hK0 x22 x23
theorem ref24_Format_L2_ok (k : Nat) (a0 : T_api_Form)  (K0 : Str → Int → Option (Str × Int)) (Kst : X × St → Option (V × List V)) (hK0 : ∀ (y0 : Str) (y1 : Int), Kst (X.exit 2, ⟨[(1, (Pt 1)), (4, (Sr y0)), (7, (I y1)), (54, (Bo false))], [(1, vS 4 (eForm a0))], 100⟩) = (K0 y0 y1).map ref24_Format_fin) (hret : ∀ s, Kst (X.ret, s) = endK prog 100 [(eForm a0)] [] [.tmp 2, .tmp 3] (X.ret, s)) :
  ∀ (m : Nat) (x62 : Str) (x63 : Int), (iter (exec prog (EV k) f7n k f7b1) m ⟨[(1, (Pt 1)), (4, (Sr x62)), (7, (I x63))], [(1, vS 4 (eForm a0))], 100⟩).bind Kst = (ref24_Format_L2 k a0 K0 m x62 x63).map ref24_Format_fin := by
 intro m
 induction m with
 | zero => intros; rfl
 | succ m ih =>
  intro x62 x63
  unfold ref24_Format_L2
  refine et k_round <| et k_assoc <| krp f7a10 rfl ⟨[(1, (Pt 1)), (4, (Sr x62)), (7, (I x63)), (54, (Bo (decide (x63 < (a0.fFields.length : Int)))))], [(1, vS 4 (eForm a0))], 100⟩ ?_ ?_
  ·exact rd 3 [(50, (I x63)), (51, (V.ptr 1 0 3)), (52, (sSlot a0.fFields))] rfl rfl <| rl rfl (p_len (e := eSlot) rfl rfl rfl rfl rfl rfl underlying23) <| bind_end rfl
  refine kc rfl rfl (fun hc => ?_) fun hc => ?_
  ·rw [hc]
   refine et k_skip <| et (k_block rfl) <| kg f7a12 rfl (fun (o65 : T_api_Slot) => ⟨[(1, (Pt 1)), (4, (Sr x62)), (7, (I x63)), (8, (Pt 8))], [(1, vS 4 (eForm a0)), (8, vS 7 (eSlot o65))], 100⟩) (rd 3 [(57, (V.ptr 1 0 3)), (58, (sSlot a0.fFields)), (59, (I x63))] rfl rfl <| rs rfl (p_index (e := eSlot) rfl rfl rfl underlying23 rfl (by decide)) fun v64 => bind_end rfl) fun o65 => kdl f7a13 rfl (fun (o87 : Str) => ⟨[(1, (Pt 1)), (4, (Sr o87)), (7, (I x63))], [(1, vS 4 (eForm a0))], 100⟩) ?_ fun o87 => ?_
   ·refine et (regionE_regp (p := 37) (dk := true) (t := [(1, (Pt 1)), (4, (Sr x62)), (7, (I x63)), (8, (Pt 8))]) (σ := [(1, vS 4 (eForm a0)), (8, vS 7 (eSlot o65))]) (n := 100) rfl (by decide) (by decide) rfl) <| et (regp_adv (m := 3) (j := 3) (t' := [(1, (Pt 1)), (4, (Sr x62)), (7, (I x63)), (8, (Pt 8)), (62, (Sr x62)), (63, (Pt 8)), (64, (Sr o65.fName))]) rfl rfl rfl) <| et (regp_pure (x := (cat ([70, 73, 69, 76, 68, 32] : Str) o65.fName)) (w := fun v66 => (Sr v66)) rfl rfl rfl rfl rfl (p_cat rfl rfl rfl)) <| bindE fun v66 => et (putp_adv (m := 0) (j := 4) (t' := [(1, (Pt 1)), (4, (Sr x62)), (7, (I x63)), (8, (Pt 8)), (62, (Sr x62)), (63, (Pt 8)), (64, (Sr o65.fName)), (65, (Sr v66))]) rfl rfl rfl) <| et (regp_pure (x := (cat v66 ([32] : Str))) (w := fun v67 => (Sr v67)) rfl rfl rfl rfl rfl (p_cat rfl rfl rfl)) <| bindE fun v67 => et (putp_adv (m := 2) (j := 7) (t' := [(1, (Pt 1)), (4, (Sr x62)), (7, (I x63)), (8, (Pt 8)), (62, (Sr x62)), (63, (Pt 8)), (64, (Sr o65.fName)), (65, (Sr v66)), (66, (Sr v67)), (67, (V.ptr 8 0 1)), (68, (I o65.fRow))]) rfl rfl rfl) <| et (regp_pure (x := (ref24_Dec k o65.fRow)) (w := fun v68 => (Sr v68)) rfl rfl rfl rfl rfl (p_call rfl rfl rfl rfl rfl (ref24_Dec_ok k o65.fRow) (.inl rfl))) <| bindE fun v68 => et (putp_adv (m := 0) (j := 8) (t' := [(1, (Pt 1)), (4, (Sr x62)), (7, (I x63)), (8, (Pt 8)), (62, (Sr x62)), (63, (Pt 8)), (64, (Sr o65.fName)), (65, (Sr v66)), (66, (Sr v67)), (67, (V.ptr 8 0 1)), (68, (I o65.fRow)), (69, (Sr v68))]) rfl rfl rfl) <| et (regp_pure (x := (cat v67 v68)) (w := fun v69 => (Sr v69)) rfl rfl rfl rfl rfl (p_cat rfl rfl rfl)) <| bindE fun v69 => et (putp_adv (m := 0) (j := 9) (t' := [(1, (Pt 1)), (4, (Sr x62)), (7, (I x63)), (8, (Pt 8)), (62, (Sr x62)), (63, (Pt 8)), (64, (Sr o65.fName)), (65, (Sr v66)), (66, (Sr v67)), (67, (V.ptr 8 0 1)), (68, (I o65.fRow)), (69, (Sr v68)), (70, (Sr v69))]) rfl rfl rfl) <| et (regp_pure (x := (cat v69 ([32] : Str))) (w := fun v70 => (Sr v70)) rfl rfl rfl rfl rfl (p_cat rfl rfl rfl)) <| bindE fun v70 => et (putp_adv (m := 2) (j := 12) (t' := [(1, (Pt 1)), (4, (Sr x62)), (7, (I x63)), (8, (Pt 8)), (62, (Sr x62)), (63, (Pt 8)), (64, (Sr o65.fName)), (65, (Sr v66)), (66, (Sr v67)), (67, (V.ptr 8 0 1)), (68, (I o65.fRow)), (69, (Sr v68)), (70, (Sr v69)), (71, (Sr v70)), (72, (V.ptr 8 0 2)), (73, (I o65.fColumn))]) rfl rfl rfl) <| et (regp_pure (x := (ref24_Dec k o65.fColumn)) (w := fun v71 => (Sr v71)) rfl rfl rfl rfl rfl (p_call rfl rfl rfl rfl rfl (ref24_Dec_ok k o65.fColumn) (.inl rfl))) <| bindE fun v71 => et (putp_adv (m := 0) (j := 13) (t' := [(1, (Pt 1)), (4, (Sr x62)), (7, (I x63)), (8, (Pt 8)), (62, (Sr x62)), (63, (Pt 8)), (64, (Sr o65.fName)), (65, (Sr v66)), (66, (Sr v67)), (67, (V.ptr 8 0 1)), (68, (I o65.fRow)), (69, (Sr v68)), (70, (Sr v69)), (71, (Sr v70)), (72, (V.ptr 8 0 2)), (73, (I o65.fColumn)), (74, (Sr v71))]) rfl rfl rfl) <| et (regp_pure (x := (cat v70 v71)) (w := fun v72 => (Sr v72)) rfl rfl rfl rfl rfl (p_cat rfl rfl rfl)) <| bindE fun v72 => et (putp_adv (m := 0) (j := 14) (t' := [(1, (Pt 1)), (4, (Sr x62)), (7, (I x63)), (8, (Pt 8)), (62, (Sr x62)), (63, (Pt 8)), (64, (Sr o65.fName)), (65, (Sr v66)), (66, (Sr v67)), (67, (V.ptr 8 0 1)), (68, (I o65.fRow)), (69, (Sr v68)), (70, (Sr v69)), (71, (Sr v70)), (72, (V.ptr 8 0 2)), (73, (I o65.fColumn)), (74, (Sr v71)), (75, (Sr v72))]) rfl rfl rfl) <| et (regp_pure (x := (cat v72 ([32] : Str))) (w := fun v73 => (Sr v73)) rfl rfl rfl rfl rfl (p_cat rfl rfl rfl)) <| bindE fun v73 => et (putp_adv (m := 2) (j := 17) (t' := [(1, (Pt 1)), (4, (Sr x62)), (7, (I x63)), (8, (Pt 8)), (62, (Sr x62)), (63, (Pt 8)), (64, (Sr o65.fName)), (65, (Sr v66)), (66, (Sr v67)), (67, (V.ptr 8 0 1)), (68, (I o65.fRow)), (69, (Sr v68)), (70, (Sr v69)), (71, (Sr v70)), (72, (V.ptr 8 0 2)), (73, (I o65.fColumn)), (74, (Sr v71)), (75, (Sr v72)), (76, (Sr v73)), (77, (V.ptr 8 0 3)), (78, (I o65.fBytes))]) rfl rfl rfl) <| et (regp_pure (x := (ref24_Dec k o65.fBytes)) (w := fun v74 => (Sr v74)) rfl rfl rfl rfl rfl (p_call rfl rfl rfl rfl rfl (ref24_Dec_ok k o65.fBytes) (.inl rfl))) <| bindE fun v74 => et (putp_adv (m := 0) (j := 18) (t' := [(1, (Pt 1)), (4, (Sr x62)), (7, (I x63)), (8, (Pt 8)), (62, (Sr x62)), (63, (Pt 8)), (64, (Sr o65.fName)), (65, (Sr v66)), (66, (Sr v67)), (67, (V.ptr 8 0 1)), (68, (I o65.fRow)), (69, (Sr v68)), (70, (Sr v69)), (71, (Sr v70)), (72, (V.ptr 8 0 2)), (73, (I o65.fColumn)), (74, (Sr v71)), (75, (Sr v72)), (76, (Sr v73)), (77, (V.ptr 8 0 3)), (78, (I o65.fBytes)), (79, (Sr v74))]) rfl rfl rfl) <| et (regp_pure (x := (cat v73 v74)) (w := fun v75 => (Sr v75)) rfl rfl rfl rfl rfl (p_cat rfl rfl rfl)) <| bindE fun v75 => et (putp_adv (m := 0) (j := 19) (t' := [(1, (Pt 1)), (4, (Sr x62)), (7, (I x63)), (8, (Pt 8)), (62, (Sr x62)), (63, (Pt 8)), (64, (Sr o65.fName)), (65, (Sr v66)), (66, (Sr v67)), (67, (V.ptr 8 0 1)), (68, (I o65.fRow)), (69, (Sr v68)), (70, (Sr v69)), (71, (Sr v70)), (72, (V.ptr 8 0 2)), (73, (I o65.fColumn)), (74, (Sr v71)), (75, (Sr v72)), (76, (Sr v73)), (77, (V.ptr 8 0 3)), (78, (I o65.fBytes)), (79, (Sr v74)), (80, (Sr v75))]) rfl rfl rfl) <| et (regp_pure (x := (cat v75 ([32] : Str))) (w := fun v76 => (Sr v76)) rfl rfl rfl rfl rfl (p_cat rfl rfl rfl)) <| bindE fun v76 => et (putp_adv (m := 2) (j := 22) (t' := [(1, (Pt 1)), (4, (Sr x62)), (7, (I x63)), (8, (Pt 8)), (62, (Sr x62)), (63, (Pt 8)), (64, (Sr o65.fName)), (65, (Sr v66)), (66, (Sr v67)), (67, (V.ptr 8 0 1)), (68, (I o65.fRow)), (69, (Sr v68)), (70, (Sr v69)), (71, (Sr v70)), (72, (V.ptr 8 0 2)), (73, (I o65.fColumn)), (74, (Sr v71)), (75, (Sr v72)), (76, (Sr v73)), (77, (V.ptr 8 0 3)), (78, (I o65.fBytes)), (79, (Sr v74)), (80, (Sr v75)), (81, (Sr v76)), (82, (V.ptr 8 0 4)), (83, (I o65.fIn))]) rfl rfl rfl) <| et (regp_pure (x := (ref24_place k o65.fIn)) (w := fun v77 => (Sr v77)) rfl rfl rfl rfl rfl (p_call rfl rfl rfl rfl rfl (ref24_place_ok k o65.fIn) (.inl rfl))) <| bindE fun v77 => et (putp_adv (m := 0) (j := 23) (t' := [(1, (Pt 1)), (4, (Sr x62)), (7, (I x63)), (8, (Pt 8)), (62, (Sr x62)), (63, (Pt 8)), (64, (Sr o65.fName)), (65, (Sr v66)), (66, (Sr v67)), (67, (V.ptr 8 0 1)), (68, (I o65.fRow)), (69, (Sr v68)), (70, (Sr v69)), (71, (Sr v70)), (72, (V.ptr 8 0 2)), (73, (I o65.fColumn)), (74, (Sr v71)), (75, (Sr v72)), (76, (Sr v73)), (77, (V.ptr 8 0 3)), (78, (I o65.fBytes)), (79, (Sr v74)), (80, (Sr v75)), (81, (Sr v76)), (82, (V.ptr 8 0 4)), (83, (I o65.fIn)), (84, (Sr v77))]) rfl rfl rfl) <| et (regp_pure (x := (cat v76 v77)) (w := fun v78 => (Sr v78)) rfl rfl rfl rfl rfl (p_cat rfl rfl rfl)) <| bindE fun v78 => et (putp_adv (m := 0) (j := 24) (t' := [(1, (Pt 1)), (4, (Sr x62)), (7, (I x63)), (8, (Pt 8)), (62, (Sr x62)), (63, (Pt 8)), (64, (Sr o65.fName)), (65, (Sr v66)), (66, (Sr v67)), (67, (V.ptr 8 0 1)), (68, (I o65.fRow)), (69, (Sr v68)), (70, (Sr v69)), (71, (Sr v70)), (72, (V.ptr 8 0 2)), (73, (I o65.fColumn)), (74, (Sr v71)), (75, (Sr v72)), (76, (Sr v73)), (77, (V.ptr 8 0 3)), (78, (I o65.fBytes)), (79, (Sr v74)), (80, (Sr v75)), (81, (Sr v76)), (82, (V.ptr 8 0 4)), (83, (I o65.fIn)), (84, (Sr v77)), (85, (Sr v78))]) rfl rfl rfl) <| et (regp_pure (x := (cat v78 ([32] : Str))) (w := fun v79 => (Sr v79)) rfl rfl rfl rfl rfl (p_cat rfl rfl rfl)) <| bindE fun v79 => et (putp_adv (m := 2) (j := 27) (t' := [(1, (Pt 1)), (4, (Sr x62)), (7, (I x63)), (8, (Pt 8)), (62, (Sr x62)), (63, (Pt 8)), (64, (Sr o65.fName)), (65, (Sr v66)), (66, (Sr v67)), (67, (V.ptr 8 0 1)), (68, (I o65.fRow)), (69, (Sr v68)), (70, (Sr v69)), (71, (Sr v70)), (72, (V.ptr 8 0 2)), (73, (I o65.fColumn)), (74, (Sr v71)), (75, (Sr v72)), (76, (Sr v73)), (77, (V.ptr 8 0 3)), (78, (I o65.fBytes)), (79, (Sr v74)), (80, (Sr v75)), (81, (Sr v76)), (82, (V.ptr 8 0 4)), (83, (I o65.fIn)), (84, (Sr v77)), (85, (Sr v78)), (86, (Sr v79)), (87, (V.ptr 8 0 5)), (88, (I o65.fOut))]) rfl rfl rfl) <| et (regp_pure (x := (ref24_place k o65.fOut)) (w := fun v80 => (Sr v80)) rfl rfl rfl rfl rfl (p_call rfl rfl rfl rfl rfl (ref24_place_ok k o65.fOut) (.inl rfl))) <| bindE fun v80 => et (putp_adv (m := 0) (j := 28) (t' := [(1, (Pt 1)), (4, (Sr x62)), (7, (I x63)), (8, (Pt 8)), (62, (Sr x62)), (63, (Pt 8)), (64, (Sr o65.fName)), (65, (Sr v66)), (66, (Sr v67)), (67, (V.ptr 8 0 1)), (68, (I o65.fRow)), (69, (Sr v68)), (70, (Sr v69)), (71, (Sr v70)), (72, (V.ptr 8 0 2)), (73, (I o65.fColumn)), (74, (Sr v71)), (75, (Sr v72)), (76, (Sr v73)), (77, (V.ptr 8 0 3)), (78, (I o65.fBytes)), (79, (Sr v74)), (80, (Sr v75)), (81, (Sr v76)), (82, (V.ptr 8 0 4)), (83, (I o65.fIn)), (84, (Sr v77)), (85, (Sr v78)), (86, (Sr v79)), (87, (V.ptr 8 0 5)), (88, (I o65.fOut)), (89, (Sr v80))]) rfl rfl rfl) <| et (regp_pure (x := (cat v79 v80)) (w := fun v81 => (Sr v81)) rfl rfl rfl rfl rfl (p_cat rfl rfl rfl)) <| bindE fun v81 => et (putp_adv (m := 0) (j := 29) (t' := [(1, (Pt 1)), (4, (Sr x62)), (7, (I x63)), (8, (Pt 8)), (62, (Sr x62)), (63, (Pt 8)), (64, (Sr o65.fName)), (65, (Sr v66)), (66, (Sr v67)), (67, (V.ptr 8 0 1)), (68, (I o65.fRow)), (69, (Sr v68)), (70, (Sr v69)), (71, (Sr v70)), (72, (V.ptr 8 0 2)), (73, (I o65.fColumn)), (74, (Sr v71)), (75, (Sr v72)), (76, (Sr v73)), (77, (V.ptr 8 0 3)), (78, (I o65.fBytes)), (79, (Sr v74)), (80, (Sr v75)), (81, (Sr v76)), (82, (V.ptr 8 0 4)), (83, (I o65.fIn)), (84, (Sr v77)), (85, (Sr v78)), (86, (Sr v79)), (87, (V.ptr 8 0 5)), (88, (I o65.fOut)), (89, (Sr v80)), (90, (Sr v81))]) rfl rfl rfl) <| et (regp_pure (x := (cat v81 ([32] : Str))) (w := fun v82 => (Sr v82)) rfl rfl rfl rfl rfl (p_cat rfl rfl rfl)) <| bindE fun v82 => et (putp_adv (m := 3) (j := 33) (t' := [(1, (Pt 1)), (4, (Sr x62)), (7, (I x63)), (8, (Pt 8)), (62, (Sr x62)), (63, (Pt 8)), (64, (Sr o65.fName)), (65, (Sr v66)), (66, (Sr v67)), (67, (V.ptr 8 0 1)), (68, (I o65.fRow)), (69, (Sr v68)), (70, (Sr v69)), (71, (Sr v70)), (72, (V.ptr 8 0 2)), (73, (I o65.fColumn)), (74, (Sr v71)), (75, (Sr v72)), (76, (Sr v73)), (77, (V.ptr 8 0 3)), (78, (I o65.fBytes)), (79, (Sr v74)), (80, (Sr v75)), (81, (Sr v76)), (82, (V.ptr 8 0 4)), (83, (I o65.fIn)), (84, (Sr v77)), (85, (Sr v78)), (86, (Sr v79)), (87, (V.ptr 8 0 5)), (88, (I o65.fOut)), (89, (Sr v80)), (90, (Sr v81)), (91, (Sr v82)), (92, (V.ptr 8 0 6)), (93, (V.int .u8 o65.fFill)), (94, (I (Go.IntKind.wrap .i64 o65.fFill)))]) rfl rfl rfl) <| et (regp_pure (x := (ref24_Dec k (Go.IntKind.wrap .i64 o65.fFill))) (w := fun v83 => (Sr v83)) rfl rfl rfl rfl rfl (p_call rfl rfl rfl rfl rfl (ref24_Dec_ok k (Go.IntKind.wrap .i64 o65.fFill)) (.inl rfl))) <| bindE fun v83 => et (putp_adv (m := 0) (j := 34) (t' := [(1, (Pt 1)), (4, (Sr x62)), (7, (I x63)), (8, (Pt 8)), (62, (Sr x62)), (63, (Pt 8)), (64, (Sr o65.fName)), (65, (Sr v66)), (66, (Sr v67)), (67, (V.ptr 8 0 1)), (68, (I o65.fRow)), (69, (Sr v68)), (70, (Sr v69)), (71, (Sr v70)), (72, (V.ptr 8 0 2)), (73, (I o65.fColumn)), (74, (Sr v71)), (75, (Sr v72)), (76, (Sr v73)), (77, (V.ptr 8 0 3)), (78, (I o65.fBytes)), (79, (Sr v74)), (80, (Sr v75)), (81, (Sr v76)), (82, (V.ptr 8 0 4)), (83, (I o65.fIn)), (84, (Sr v77)), (85, (Sr v78)), (86, (Sr v79)), (87, (V.ptr 8 0 5)), (88, (I o65.fOut)), (89, (Sr v80)), (90, (Sr v81)), (91, (Sr v82)), (92, (V.ptr 8 0 6)), (93, (V.int .u8 o65.fFill)), (94, (I (Go.IntKind.wrap .i64 o65.fFill))), (95, (Sr v83))]) rfl rfl rfl) <| et (regp_pure (x := (cat v82 v83)) (w := fun v84 => (Sr v84)) rfl rfl rfl rfl rfl (p_cat rfl rfl rfl)) <| bindE fun v84 => et (putp_adv (m := 0) (j := 35) (t' := [(1, (Pt 1)), (4, (Sr x62)), (7, (I x63)), (8, (Pt 8)), (62, (Sr x62)), (63, (Pt 8)), (64, (Sr o65.fName)), (65, (Sr v66)), (66, (Sr v67)), (67, (V.ptr 8 0 1)), (68, (I o65.fRow)), (69, (Sr v68)), (70, (Sr v69)), (71, (Sr v70)), (72, (V.ptr 8 0 2)), (73, (I o65.fColumn)), (74, (Sr v71)), (75, (Sr v72)), (76, (Sr v73)), (77, (V.ptr 8 0 3)), (78, (I o65.fBytes)), (79, (Sr v74)), (80, (Sr v75)), (81, (Sr v76)), (82, (V.ptr 8 0 4)), (83, (I o65.fIn)), (84, (Sr v77)), (85, (Sr v78)), (86, (Sr v79)), (87, (V.ptr 8 0 5)), (88, (I o65.fOut)), (89, (Sr v80)), (90, (Sr v81)), (91, (Sr v82)), (92, (V.ptr 8 0 6)), (93, (V.int .u8 o65.fFill)), (94, (I (Go.IntKind.wrap .i64 o65.fFill))), (95, (Sr v83)), (96, (Sr v84))]) rfl rfl rfl) <| et (regp_pure (x := (cat v84 ([10] : Str))) (w := fun v85 => (Sr v85)) rfl rfl rfl rfl rfl (p_cat rfl rfl rfl)) <| bindE fun v85 => et (putp_adv (m := 0) (j := 36) (t' := [(1, (Pt 1)), (4, (Sr x62)), (7, (I x63)), (8, (Pt 8)), (62, (Sr x62)), (63, (Pt 8)), (64, (Sr o65.fName)), (65, (Sr v66)), (66, (Sr v67)), (67, (V.ptr 8 0 1)), (68, (I o65.fRow)), (69, (Sr v68)), (70, (Sr v69)), (71, (Sr v70)), (72, (V.ptr 8 0 2)), (73, (I o65.fColumn)), (74, (Sr v71)), (75, (Sr v72)), (76, (Sr v73)), (77, (V.ptr 8 0 3)), (78, (I o65.fBytes)), (79, (Sr v74)), (80, (Sr v75)), (81, (Sr v76)), (82, (V.ptr 8 0 4)), (83, (I o65.fIn)), (84, (Sr v77)), (85, (Sr v78)), (86, (Sr v79)), (87, (V.ptr 8 0 5)), (88, (I o65.fOut)), (89, (Sr v80)), (90, (Sr v81)), (91, (Sr v82)), (92, (V.ptr 8 0 6)), (93, (V.int .u8 o65.fFill)), (94, (I (Go.IntKind.wrap .i64 o65.fFill))), (95, (Sr v83)), (96, (Sr v84)), (97, (Sr v85))]) rfl rfl rfl) <| et (regp_pure (x := (cat x62 v85)) (w := fun v86 => (Sr v86)) rfl rfl rfl rfl rfl (p_cat rfl rfl rfl)) <| bind_self (fun v86 => ?_)
    exact regp_end rfl
   exact et blk_normal <| kl ⟨[(1, (Pt 1)), (4, (Sr o87)), (7, (I (Go.IntKind.wrap .i64 (x63 + 1))))], [(1, vS 4 (eForm a0))], 100⟩ rfl <| et loop_normal <| ih o87 (Go.IntKind.wrap .i64 (x63 + 1))
  ·rw [hc]
   exact et k_exit <| et loop_exit <| hK0 x62 x63
theorem ref24_Format_ok (k : Nat) (a0 : T_api_Form) : EV k 7 [(eForm a0)] = (ref24_Format k a0).map ref24_Format_fin := by
 cases k with
 | zero => rfl
 | succ k =>
  unfold ref24_Format
  refine et (evF_succ (c := f7c) (N := 100) (regs := f7n) rfl func7 rfl (by decide) rfl rfl rfl) <| kr ⟨[(1, (Pt 1))], [(1, vS 4 (eForm a0))], 100⟩ rfl <| et k_assoc <| kga f7a1 rfl (fun (o2 : Bool) => [(11, (Bo o2))]) (rd 1 [(9, (eForm a0))] rfl rfl <| rp rfl (p_call rfl rfl rfl rfl rfl (ref24_Valid_ok k a0) (.inl rfl)) fun v1 => bind_end rfl) fun o2 => kc rfl rfl (fun hc => ?_) fun hc => ?_
  ·rw [hc]
   refine et k_assoc <| kr ⟨[(2, (Sr ([] : Str))), (3, (I 220))], [], 100⟩ rfl <| et k_ret ?_
   rfl
  ·rw [hc]
   refine et k_skip <| kd f7a3 rfl (fun (o9 : Str) => ⟨[(1, (Pt 1)), (4, (Sr o9))], [(1, vS 4 (eForm a0))], 100⟩) (et (regionE_regp (p := 11) (dk := true) (t := [(1, (Pt 1)), (11, (Bo false))]) (σ := [(1, vS 4 (eForm a0))]) (n := 100) rfl (by decide) (by decide) rfl) <| et (regp_adv (m := 2) (j := 2) (t' := [(1, (Pt 1)), (11, (Bo false)), (12, (Pt 1)), (13, (I a0.fRows))]) rfl rfl rfl) <| et (regp_pure (x := (ref24_Dec k a0.fRows)) (w := fun v3 => (Sr v3)) rfl rfl rfl rfl rfl (p_call rfl rfl rfl rfl rfl (ref24_Dec_ok k a0.fRows) (.inl rfl))) <| bindE fun v3 => et (putp_adv (m := 0) (j := 3) (t' := [(1, (Pt 1)), (11, (Bo false)), (12, (Pt 1)), (13, (I a0.fRows)), (14, (Sr v3))]) rfl rfl rfl) <| et (regp_pure (x := (cat ([70, 79, 82, 77, 32] : Str) v3)) (w := fun v4 => (Sr v4)) rfl rfl rfl rfl rfl (p_cat rfl rfl rfl)) <| bindE fun v4 => et (putp_adv (m := 0) (j := 4) (t' := [(1, (Pt 1)), (11, (Bo false)), (12, (Pt 1)), (13, (I a0.fRows)), (14, (Sr v3)), (15, (Sr v4))]) rfl rfl rfl) <| et (regp_pure (x := (cat v4 ([32] : Str))) (w := fun v5 => (Sr v5)) rfl rfl rfl rfl rfl (p_cat rfl rfl rfl)) <| bindE fun v5 => et (putp_adv (m := 2) (j := 7) (t' := [(1, (Pt 1)), (11, (Bo false)), (12, (Pt 1)), (13, (I a0.fRows)), (14, (Sr v3)), (15, (Sr v4)), (16, (Sr v5)), (17, (V.ptr 1 0 1)), (18, (I a0.fColumns))]) rfl rfl rfl) <| et (regp_pure (x := (ref24_Dec k a0.fColumns)) (w := fun v6 => (Sr v6)) rfl rfl rfl rfl rfl (p_call rfl rfl rfl rfl rfl (ref24_Dec_ok k a0.fColumns) (.inl rfl))) <| bindE fun v6 => et (putp_adv (m := 0) (j := 8) (t' := [(1, (Pt 1)), (11, (Bo false)), (12, (Pt 1)), (13, (I a0.fRows)), (14, (Sr v3)), (15, (Sr v4)), (16, (Sr v5)), (17, (V.ptr 1 0 1)), (18, (I a0.fColumns)), (19, (Sr v6))]) rfl rfl rfl) <| et (regp_pure (x := (cat v5 v6)) (w := fun v7 => (Sr v7)) rfl rfl rfl rfl rfl (p_cat rfl rfl rfl)) <| bindE fun v7 => et (putp_adv (m := 0) (j := 9) (t' := [(1, (Pt 1)), (11, (Bo false)), (12, (Pt 1)), (13, (I a0.fRows)), (14, (Sr v3)), (15, (Sr v4)), (16, (Sr v5)), (17, (V.ptr 1 0 1)), (18, (I a0.fColumns)), (19, (Sr v6)), (20, (Sr v7))]) rfl rfl rfl) <| et (regp_pure (x := (cat v7 ([10] : Str))) (w := fun v8 => (Sr v8)) rfl rfl rfl rfl rfl (p_cat rfl rfl rfl)) <| bind_self fun v8 => regp_end rfl) fun o9 => et k_assoc <| kra [(5, (I 0))] rfl <| et (k_block rfl) <| et k_loop ?_
   refine ref24_Format_L1_ok k a0 _ _ ?h_ref24_Format_L1_0 ?hr_ref24_Format_L1 k o9 0
   ·intro y36 y37
    refine et blk_exit <| et k_assoc <| kr ⟨[(1, (Pt 1)), (4, (Sr y36)), (7, (I 0))], [(1, vS 4 (eForm a0))], 100⟩ rfl <| et (k_block rfl) <| et k_loop ?_
    refine ref24_Format_L2_ok k a0 _ _ ?h_ref24_Format_L2_0 ?hr_ref24_Format_L2 k y36 0
    ·intro y88 y89
     refine et blk_exit <| kr ⟨[(2, (Sr y88)), (3, (I 0))], [], 100⟩ rfl <| et k_lret ?_
     rfl
    ·intro s; exact rfl
   ·intro s; exact rfl
def strings_Split_fin : (List Str) → V × List V := fun r => ((sS r), [])
theorem strings_Split_ok (k : Nat) (s : Str) (t : Str) : EV k 25 [(Sr s), (Sr t)] = (strings_Split k s t).map strings_Split_fin := by
 cases k with
 | zero => rfl
 | succ k => exact (evF_ext (ext := ext) (f := 25) rfl).trans rfl
def strings_Cut_fin : (Str × Str × Bool) → V × List V := fun r => ((V.tup [(Sr r.1), (Sr r.2.1), (Bo r.2.2)]), [])
theorem strings_Cut_ok (k : Nat) (s : Str) (t : Str) : EV k 46 [(Sr s), (Sr t)] = (strings_Cut k s t).map strings_Cut_fin := by
 cases k with
 | zero => rfl
 | succ k => exact (evF_ext (ext := ext) (f := 46) rfl).trans rfl
def screen_number_fin : (Int × Bool) → V × List V := fun r => ((V.tup [(I r.1), (Bo r.2)]), [])
theorem screen_number_ok (k : Nat) (s : Str) : EV k 71 [(Sr s)] = (screen_number k s).map screen_number_fin := by
 cases k with
 | zero => rfl
 | succ k => exact (evF_ext (ext := ext) (f := 71) rfl).trans rfl
def screen_numbers_fin : ((List Int) × Bool) → V × List V := fun r => (.tup [(sI r.1), (Bo r.2)], [])
end
end Go.AE
