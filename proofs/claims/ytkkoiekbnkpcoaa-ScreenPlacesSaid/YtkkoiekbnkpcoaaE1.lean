/- The program, function by function: the evaluator comes to the typed functions. Conditions: none. -/
import Derived.Test.YtkkoiekbnkpcoaaA3
import Derived.KernelRfl
import Derived.Test.YtkkoiekbnkpcoaaProg
import Derived.Test.YtkkoiekbnkpcoaaB1
namespace Go.AE
open Go.Proofs.Try Go.Sh
set_option linter.unusedSimpArgs false
set_option linter.unusedVariables false
set_option maxRecDepth 100000
set_option maxHeartbeats 4000000
noncomputable section
def enc_T_api_Mark (a : T_api_Mark) : V := .agg [(V.int .i64 a.fRow), (V.int .i64 a.fColumn), (V.str a.fText)]
def enc_T_api_Slot (a : T_api_Slot) : V := .agg [(V.str a.fName), (V.int .i64 a.fRow), (V.int .i64 a.fColumn), (V.int .i64 a.fBytes), (V.int .i64 a.fIn), (V.int .i64 a.fOut), (V.int .u8 a.fFill)]
def enc_T_api_Form (a : T_api_Form) : V := .agg [(V.int .i64 a.fRows), (V.int .i64 a.fColumns), (V.sl 0 3 (List.map enc_T_api_Mark a.fMarks)), (V.sl 0 7 (List.map enc_T_api_Slot a.fFields))]
def enc_T_progenylaw24_Word (a : T_progenylaw24_Word) : V := .agg [(V.str a.fName), (V.str a.fText)]
def enc_T_progenyref24_span (a : T_progenyref24_span) : V := .agg [(V.int .i64 a.frow), (V.int .i64 a.fcolumn), (V.int .i64 a.fbytes)]
def enc_T_screen_part (a : T_screen_part) : V := .agg [(V.int .i64 a.frow), (V.int .i64 a.fcolumn), (V.int .i64 a.fn)]
noncomputable def f8o0 : Array Oper := cO (cL (cB Go.Proofs.Try.f8))
def f8a0 : RAnn := ⟨[0, 2], []⟩
noncomputable def f8o1 : Array Oper := cO (cL (cL (cR (cB Go.Proofs.Try.f8))))
def f8a1 : RAnn := ⟨[5, 6, 7, 8, 9, 10, 11, 12, 13], []⟩
noncomputable def f8o2 : Array Oper := cO (cL (cL (cR (cL (cR (cB Go.Proofs.Try.f8))))))
def f8a2 : RAnn := ⟨[1, 14], []⟩
noncomputable def f8o3 : Array Oper := cO (cL (cL (cR (cR (cB Go.Proofs.Try.f8)))))
def f8a3 : RAnn := ⟨[14], []⟩
noncomputable def f8o4 : Array Oper := cO (cL (cL (cL (cL (cR (cL (cR (cR (cB Go.Proofs.Try.f8)))))))))
def f8a4 : RAnn := ⟨[15, 16, 17, 18], []⟩
noncomputable def f8o5 : Array Oper := cO (cR (cR (cL (cL (cR (cL (cR (cR (cB Go.Proofs.Try.f8)))))))))
def f8a5 : RAnn := ⟨[20, 21, 29], []⟩
noncomputable def f8o6 : Array Oper := cO (cL (cL (cL (cR (cL (cL (cR (cL (cR (cR (cB Go.Proofs.Try.f8)))))))))))
def f8a6 : RAnn := ⟨[19, 22, 23, 24, 25, 26, 27, 28], []⟩
noncomputable def f8o7 : Array Oper := cO (cL (cL (cR (cL (cL (cR (cL (cL (cR (cL (cR (cR (cB Go.Proofs.Try.f8)))))))))))))
def f8a7 : RAnn := ⟨[1, 3, 29], []⟩
noncomputable def f8o8 : Array Oper := cO (cL (cL (cR (cR (cR (cB Go.Proofs.Try.f8))))))
def f8a8 : RAnn := ⟨[3, 19], []⟩
noncomputable def f8o9 : Array Oper := cO (cL (cL (cL (cL (cR (cL (cR (cR (cR (cB Go.Proofs.Try.f8))))))))))
def f8a9 : RAnn := ⟨[30, 31, 32, 33], []⟩
noncomputable def f8o10 : Array Oper := cO (cR (cR (cL (cL (cR (cL (cR (cR (cR (cB Go.Proofs.Try.f8))))))))))
def f8a10 : RAnn := ⟨[35, 36, 44], []⟩
noncomputable def f8o11 : Array Oper := cO (cL (cL (cL (cR (cL (cL (cR (cL (cR (cR (cR (cB Go.Proofs.Try.f8))))))))))))
def f8a11 : RAnn := ⟨[34, 37, 38, 39, 40, 41, 42, 43], []⟩
noncomputable def f8o12 : Array Oper := cO (cL (cL (cR (cL (cL (cR (cL (cL (cR (cL (cR (cR (cR (cB Go.Proofs.Try.f8))))))))))))))
def f8a12 : RAnn := ⟨[1, 4, 44], []⟩
noncomputable def f8o13 : Array Oper := cO (cL (cR (cR (cR (cR (cB Go.Proofs.Try.f8))))))
def f8a13 : RAnn := ⟨[1, 4, 34], []⟩
def f8b0 : Code := (.seq (.seq (.region 4 f8o4 false) (.cond (.tmp 19) .skip (.exit 0))) (.seq (.block 1 (.seq (.region 6 f8o6 false) (.cond (.tmp 29) (.seq (.region 7 f8o7 false) .ret) .skip))) (.region 5 f8o5 false)))
def f8b1 : Code := (.seq (.seq (.region 9 f8o9 false) (.cond (.tmp 34) .skip (.exit 2))) (.seq (.block 3 (.seq (.region 11 f8o11 false) (.cond (.tmp 44) (.seq (.region 12 f8o12 false) .ret) .skip))) (.region 10 f8o10 false)))
def f8c : Code := (.seq (.region 0 f8o0 false) (.seq (.seq (.region 1 f8o1 false) (.cond (.tmp 14) (.seq (.region 2 f8o2 false) .ret) .skip)) (.seq (.seq (.region 3 f8o3 false) (.block 0 (.loop f8b0))) (.seq (.seq (.region 8 f8o8 false) (.block 2 (.loop f8b1))) (.seq (.region 13 f8o13 false) .ret)))))
def f8n : List (Nat × RAnn) := [(0, f8a0), (1, f8a1), (2, f8a2), (3, f8a3), (4, f8a4), (5, f8a5), (6, f8a6), (7, f8a7), (8, f8a8), (9, f8a9), (10, f8a10), (11, f8a11), (12, f8a12), (13, f8a13)]
noncomputable def f50o0 : Array Oper := cO (cL (cB Go.Proofs.Try.f50))
def f50a0 : RAnn := ⟨[2], []⟩
noncomputable def f50o1 : Array Oper := cO (cL (cL (cR (cB Go.Proofs.Try.f50))))
def f50a1 : RAnn := ⟨[], []⟩
noncomputable def f50o2 : Array Oper := cO (cL (cL (cL (cL (cR (cL (cR (cB Go.Proofs.Try.f50))))))))
def f50a2 : RAnn := ⟨[4, 5, 6], []⟩
noncomputable def f50o3 : Array Oper := cO (cR (cR (cL (cL (cR (cL (cR (cB Go.Proofs.Try.f50))))))))
def f50a3 : RAnn := ⟨[8, 9, 19], []⟩
noncomputable def f50o4 : Array Oper := cO (cL (cL (cL (cR (cL (cL (cR (cL (cR (cB Go.Proofs.Try.f50))))))))))
def f50a4 : RAnn := ⟨[7, 10, 11, 12, 13, 14, 15, 16, 17, 18], []⟩
noncomputable def f50o5 : Array Oper := cO (cL (cL (cR (cL (cL (cR (cL (cL (cR (cL (cR (cB Go.Proofs.Try.f50))))))))))))
def f50a5 : RAnn := ⟨[0, 3, 19], []⟩
noncomputable def f50o6 : Array Oper := cO (cL (cR (cR (cB Go.Proofs.Try.f50))))
def f50a6 : RAnn := ⟨[0, 3, 7], []⟩
def f50b0 : Code := (.seq (.seq (.region 2 f50o2 false) (.cond (.tmp 7) .skip (.exit 0))) (.seq (.block 1 (.seq (.region 4 f50o4 false) (.cond (.tmp 19) (.seq (.region 5 f50o5 false) .ret) .skip))) (.region 3 f50o3 false)))
def f50c : Code := (.seq (.region 0 f50o0 false) (.seq (.seq (.region 1 f50o1 false) (.block 0 (.loop f50b0))) (.seq (.region 6 f50o6 false) .ret)))
def f50n : List (Nat × RAnn) := [(0, f50a0), (1, f50a1), (2, f50a2), (3, f50a3), (4, f50a4), (5, f50a5), (6, f50a6)]
noncomputable def f77o0 : Array Oper := cO (cL (cB Go.Proofs.Try.f77))
def f77a0 : RAnn := ⟨[2], []⟩
noncomputable def f77o1 : Array Oper := cO (cL (cL (cR (cB Go.Proofs.Try.f77))))
def f77a1 : RAnn := ⟨[], []⟩
noncomputable def f77o2 : Array Oper := cO (cL (cL (cL (cL (cR (cL (cR (cB Go.Proofs.Try.f77))))))))
def f77a2 : RAnn := ⟨[5, 6, 7], []⟩
noncomputable def f77o3 : Array Oper := cO (cR (cR (cL (cL (cR (cL (cR (cB Go.Proofs.Try.f77))))))))
def f77a3 : RAnn := ⟨[9, 10, 38], []⟩
noncomputable def f77o4 : Array Oper := cO (cL (cL (cL (cR (cL (cL (cR (cL (cR (cB Go.Proofs.Try.f77))))))))))
def f77a4 : RAnn := ⟨[8, 11, 12, 13, 14, 15, 16, 17, 18, 19, 20], []⟩
noncomputable def f77o5 : Array Oper := cO (cL (cR (cL (cL (cR (cL (cL (cR (cL (cR (cB Go.Proofs.Try.f77)))))))))))
def f77a5 : RAnn := ⟨[4, 21, 22, 23, 24, 25, 26, 27, 28, 29, 30, 31, 32, 33, 34, 35, 36, 37], []⟩
noncomputable def f77o6 : Array Oper := cO (cL (cL (cR (cR (cL (cL (cR (cL (cL (cR (cL (cR (cB Go.Proofs.Try.f77)))))))))))))
def f77a6 : RAnn := ⟨[0, 3, 38], []⟩
noncomputable def f77o7 : Array Oper := cO (cL (cR (cR (cB Go.Proofs.Try.f77))))
def f77a7 : RAnn := ⟨[0, 3, 8, 39, 40, 41, 42, 43, 44, 45, 46], []⟩
def f77b0 : Code := (.seq (.seq (.region 2 f77o2 false) (.cond (.tmp 8) .skip (.exit 0))) (.seq (.block 1 (.seq (.region 4 f77o4 false) (.seq (.region 5 f77o5 false) (.cond (.tmp 38) (.seq (.region 6 f77o6 false) .ret) .skip)))) (.region 3 f77o3 false)))
def f77c : Code := (.seq (.region 0 f77o0 false) (.seq (.seq (.region 1 f77o1 false) (.block 0 (.loop f77b0))) (.seq (.region 7 f77o7 false) .ret)))
def f77n : List (Nat × RAnn) := [(0, f77a0), (1, f77a1), (2, f77a2), (3, f77a3), (4, f77a4), (5, f77a5), (6, f77a6), (7, f77a7)]
noncomputable def f57o0 : Array Oper := cO (cL (cB Go.Proofs.Try.f57))
def f57a0 : RAnn := ⟨[1, 4], []⟩
noncomputable def f57o1 : Array Oper := cO (cL (cL (cR (cB Go.Proofs.Try.f57))))
def f57a1 : RAnn := ⟨[6, 7, 8, 9, 10, 11, 12, 13, 14, 15, 16, 17, 18, 19, 20, 21, 22, 23, 24, 25, 26, 27, 28, 29, 30, 31, 32, 33, 34, 35, 36, 37, 38], []⟩
noncomputable def f57o2 : Array Oper := cO (cL (cL (cR (cL (cR (cB Go.Proofs.Try.f57))))))
def f57a2 : RAnn := ⟨[0, 3, 39], []⟩
noncomputable def f57o3 : Array Oper := cO (cL (cL (cR (cR (cB Go.Proofs.Try.f57)))))
def f57a3 : RAnn := ⟨[39], []⟩
noncomputable def f57o4 : Array Oper := cO (cL (cL (cL (cL (cR (cL (cR (cR (cB Go.Proofs.Try.f57)))))))))
def f57a4 : RAnn := ⟨[40, 41, 42], []⟩
noncomputable def f57o5 : Array Oper := cO (cR (cR (cL (cL (cR (cL (cR (cR (cB Go.Proofs.Try.f57)))))))))
def f57a5 : RAnn := ⟨[44, 45, 83], []⟩
noncomputable def f57o6 : Array Oper := cO (cL (cL (cL (cR (cL (cL (cR (cL (cR (cR (cB Go.Proofs.Try.f57)))))))))))
def f57a6 : RAnn := ⟨[43, 46, 47, 48, 49, 50, 51, 52, 53, 54, 55, 56, 57, 58, 59, 60, 61, 62, 63, 64, 65, 66, 67, 68, 69, 70, 71, 72, 73, 74, 75, 76, 77, 78, 79, 80, 81, 82], []⟩
noncomputable def f57o7 : Array Oper := cO (cL (cL (cR (cL (cL (cR (cL (cL (cR (cL (cR (cR (cB Go.Proofs.Try.f57)))))))))))))
def f57a7 : RAnn := ⟨[0, 3, 5, 83], []⟩
noncomputable def f57o8 : Array Oper := cO (cL (cR (cR (cR (cB Go.Proofs.Try.f57)))))
def f57a8 : RAnn := ⟨[0, 3, 5, 43], []⟩
def f57b0 : Code := (.seq (.seq (.region 4 f57o4 false) (.cond (.tmp 43) .skip (.exit 0))) (.seq (.block 1 (.seq (.region 6 f57o6 true) (.cond (.tmp 83) (.seq (.region 7 f57o7 false) .ret) .skip))) (.region 5 f57o5 false)))
def f57c : Code := (.seq (.region 0 f57o0 false) (.seq (.seq (.region 1 f57o1 false) (.cond (.tmp 39) (.seq (.region 2 f57o2 false) .ret) .skip)) (.seq (.seq (.region 3 f57o3 false) (.block 0 (.loop f57b0))) (.seq (.region 8 f57o8 false) .ret))))
def f57n : List (Nat × RAnn) := [(0, f57a0), (1, f57a1), (2, f57a2), (3, f57a3), (4, f57a4), (5, f57a5), (6, f57a6), (7, f57a7), (8, f57a8)]
noncomputable def f58o0 : Array Oper := cO (cL (cB Go.Proofs.Try.f58))
def f58a0 : RAnn := ⟨[0, 2], []⟩
noncomputable def f58o1 : Array Oper := cO (cL (cR (cB Go.Proofs.Try.f58)))
def f58a1 : RAnn := ⟨[], [(0, { site := true })]⟩
noncomputable def f58o2 : Array Oper := cO (cL (cL (cR (cR (cB Go.Proofs.Try.f58)))))
def f58a2 : RAnn := ⟨[], []⟩
noncomputable def f58o3 : Array Oper := cO (cL (cL (cL (cL (cR (cL (cR (cR (cB Go.Proofs.Try.f58)))))))))
def f58a3 : RAnn := ⟨[6, 7, 8, 9], []⟩
noncomputable def f58o4 : Array Oper := cO (cR (cR (cL (cL (cR (cL (cR (cR (cB Go.Proofs.Try.f58)))))))))
def f58a4 : RAnn := ⟨[11, 12], []⟩
noncomputable def f58o5 : Array Oper := cO (cL (cL (cR (cL (cL (cR (cL (cR (cR (cB Go.Proofs.Try.f58))))))))))
def f58a5 : RAnn := ⟨[10, 13, 14, 15, 16, 17, 18, 19, 20, 21, 22, 23, 24, 25, 26, 27, 28, 29, 30, 31, 32, 33, 34, 35], [(23, { eff := true })]⟩
noncomputable def f58o6 : Array Oper := cO (cL (cL (cR (cR (cR (cB Go.Proofs.Try.f58))))))
def f58a6 : RAnn := ⟨[4, 10], []⟩
noncomputable def f58o7 : Array Oper := cO (cL (cL (cL (cL (cR (cL (cR (cR (cR (cB Go.Proofs.Try.f58))))))))))
def f58a7 : RAnn := ⟨[36, 37, 38, 39], []⟩
noncomputable def f58o8 : Array Oper := cO (cR (cR (cL (cL (cR (cL (cR (cR (cR (cB Go.Proofs.Try.f58))))))))))
def f58a8 : RAnn := ⟨[41, 42], []⟩
noncomputable def f58o9 : Array Oper := cO (cL (cL (cR (cL (cL (cR (cL (cR (cR (cR (cB Go.Proofs.Try.f58)))))))))))
def f58a9 : RAnn := ⟨[40, 43, 44, 45, 46, 47, 48, 49, 50, 51, 52, 53, 54, 55, 56, 57, 58, 59, 60, 61, 62, 63, 64], [(22, { eff := true })]⟩
noncomputable def f58o10 : Array Oper := cO (cL (cR (cR (cR (cR (cB Go.Proofs.Try.f58))))))
def f58a10 : RAnn := ⟨[1, 3, 5, 40, 65], [(1, { close := true })]⟩
def f58b0 : Code := (.seq (.seq (.region 3 f58o3 false) (.cond (.tmp 10) .skip (.exit 0))) (.seq (.block 1 (.region 5 f58o5 true)) (.region 4 f58o4 false)))
def f58b1 : Code := (.seq (.seq (.region 7 f58o7 false) (.cond (.tmp 40) .skip (.exit 2))) (.seq (.block 3 (.region 9 f58o9 true)) (.region 8 f58o8 false)))
def f58c : Code := (.seq (.region 0 f58o0 false) (.seq (.region 1 f58o1 false) (.seq (.seq (.region 2 f58o2 false) (.block 0 (.loop f58b0))) (.seq (.seq (.region 6 f58o6 false) (.block 2 (.loop f58b1))) (.seq (.region 10 f58o10 false) .ret)))))
def f58n : List (Nat × RAnn) := [(0, f58a0), (1, f58a1), (2, f58a2), (3, f58a3), (4, f58a4), (5, f58a5), (6, f58a6), (7, f58a7), (8, f58a8), (9, f58a9), (10, f58a10)]
noncomputable def f25o0 : Array Oper := cO (cL (cB Go.Proofs.Try.f25))
def f25a0 : RAnn := ⟨[0, 2], []⟩
noncomputable def f25o1 : Array Oper := cO (cL (cL (cR (cB Go.Proofs.Try.f25))))
def f25a1 : RAnn := ⟨[8, 9, 10, 11, 12, 13, 14, 15, 16, 17, 18, 19, 20, 21, 22, 23, 24, 25, 26, 27, 28, 29, 30, 31, 32, 33, 34, 35, 36], []⟩
noncomputable def f25o2 : Array Oper := cO (cL (cL (cR (cL (cR (cB Go.Proofs.Try.f25))))))
def f25a2 : RAnn := ⟨[1, 37], []⟩
noncomputable def f25o3 : Array Oper := cO (cL (cL (cR (cR (cB Go.Proofs.Try.f25)))))
def f25a3 : RAnn := ⟨[37], []⟩
noncomputable def f25o4 : Array Oper := cO (cL (cL (cL (cL (cR (cL (cR (cR (cB Go.Proofs.Try.f25)))))))))
def f25a4 : RAnn := ⟨[38, 39, 40, 41], []⟩
noncomputable def f25o5 : Array Oper := cO (cR (cR (cL (cL (cR (cL (cR (cR (cB Go.Proofs.Try.f25)))))))))
def f25a5 : RAnn := ⟨[43, 44, 52], []⟩
noncomputable def f25o6 : Array Oper := cO (cL (cL (cL (cR (cL (cL (cR (cL (cR (cR (cB Go.Proofs.Try.f25)))))))))))
def f25a6 : RAnn := ⟨[42, 45, 46, 47, 48, 49, 50, 51], []⟩
noncomputable def f25o7 : Array Oper := cO (cL (cL (cR (cL (cL (cR (cL (cL (cR (cL (cR (cR (cB Go.Proofs.Try.f25)))))))))))))
def f25a7 : RAnn := ⟨[1, 3, 52], []⟩
noncomputable def f25o8 : Array Oper := cO (cL (cL (cR (cR (cR (cB Go.Proofs.Try.f25))))))
def f25a8 : RAnn := ⟨[3, 42], []⟩
noncomputable def f25o9 : Array Oper := cO (cL (cL (cL (cL (cR (cL (cR (cR (cR (cB Go.Proofs.Try.f25))))))))))
def f25a9 : RAnn := ⟨[53, 54, 55, 56], []⟩
noncomputable def f25o10 : Array Oper := cO (cR (cR (cL (cL (cR (cL (cR (cR (cR (cB Go.Proofs.Try.f25))))))))))
def f25a10 : RAnn := ⟨[58, 59, 70], []⟩
noncomputable def f25o11 : Array Oper := cO (cL (cL (cL (cR (cL (cL (cR (cL (cR (cR (cR (cB Go.Proofs.Try.f25))))))))))))
def f25a11 : RAnn := ⟨[57, 60, 61, 62, 63, 64, 65, 66, 67, 68, 69], []⟩
noncomputable def f25o12 : Array Oper := cO (cL (cL (cR (cL (cL (cR (cL (cL (cR (cL (cR (cR (cR (cB Go.Proofs.Try.f25))))))))))))))
def f25a12 : RAnn := ⟨[1, 4, 70], []⟩
noncomputable def f25o13 : Array Oper := cO (cL (cR (cR (cR (cR (cB Go.Proofs.Try.f25))))))
def f25a13 : RAnn := ⟨[4, 57, 71, 72], []⟩
noncomputable def f25o14 : Array Oper := cO (cL (cL (cR (cR (cR (cR (cR (cB Go.Proofs.Try.f25))))))))
def f25a14 : RAnn := ⟨[], []⟩
noncomputable def f25o15 : Array Oper := cO (cL (cL (cL (cL (cR (cL (cR (cR (cR (cR (cR (cB Go.Proofs.Try.f25))))))))))))
def f25a15 : RAnn := ⟨[73, 74, 75], []⟩
noncomputable def f25o16 : Array Oper := cO (cR (cR (cL (cL (cR (cL (cR (cR (cR (cR (cR (cB Go.Proofs.Try.f25))))))))))))
def f25a16 : RAnn := ⟨[7, 77, 78, 139], []⟩
noncomputable def f25o17 : Array Oper := cO (cL (cL (cL (cL (cR (cL (cL (cR (cL (cR (cR (cR (cR (cR (cB Go.Proofs.Try.f25)))))))))))))))
def f25a17 : RAnn := ⟨[76, 79, 80, 81, 82, 83, 84, 85, 86, 87, 88, 89, 90, 91, 92, 93, 94, 95, 96, 97, 98, 99, 100, 101, 102, 103, 104, 105, 106, 107, 108, 109, 110, 111, 112, 113, 114, 115, 116, 117, 118, 119, 120, 121, 122, 123, 124, 125, 126, 127, 128, 129, 130, 131, 132, 133, 134, 135], []⟩
noncomputable def f25o18 : Array Oper := cO (cL (cL (cR (cL (cL (cL (cR (cL (cL (cR (cL (cR (cR (cR (cR (cR (cB Go.Proofs.Try.f25)))))))))))))))))
def f25a18 : RAnn := ⟨[1, 5, 6, 136], []⟩
noncomputable def f25o19 : Array Oper := cO (cL (cR (cL (cL (cR (cL (cL (cR (cL (cR (cR (cR (cR (cR (cB Go.Proofs.Try.f25)))))))))))))))
def f25a19 : RAnn := ⟨[136], []⟩
noncomputable def f25o20 : Array Oper := cO (cL (cL (cL (cL (cR (cR (cL (cL (cR (cL (cL (cR (cL (cR (cR (cR (cR (cR (cB Go.Proofs.Try.f25)))))))))))))))))))
def f25a20 : RAnn := ⟨[137, 138], []⟩
noncomputable def f25o21 : Array Oper := cO (cR (cR (cL (cL (cR (cR (cL (cL (cR (cL (cL (cR (cL (cR (cR (cR (cR (cR (cB Go.Proofs.Try.f25)))))))))))))))))))
def f25a21 : RAnn := ⟨[140, 141, 190], []⟩
noncomputable def f25o22 : Array Oper := cO (cL (cL (cL (cR (cL (cL (cR (cR (cL (cL (cR (cL (cL (cR (cL (cR (cR (cR (cR (cR (cB Go.Proofs.Try.f25)))))))))))))))))))))
def f25a22 : RAnn := ⟨[139, 142, 143, 144, 145, 146, 147, 148, 149, 150, 151, 152, 153, 154, 155, 156, 157, 158, 159, 160, 161, 162, 163, 164, 165, 166, 167, 168, 169, 170, 171, 172, 173, 174, 175, 176, 177, 178, 179, 180, 181, 182, 183, 184, 185, 186, 187, 188, 189], []⟩
noncomputable def f25o23 : Array Oper := cO (cL (cL (cR (cL (cL (cR (cL (cL (cR (cR (cL (cL (cR (cL (cL (cR (cL (cR (cR (cR (cR (cR (cB Go.Proofs.Try.f25)))))))))))))))))))))))
def f25a23 : RAnn := ⟨[1, 5, 6, 7, 190], []⟩
noncomputable def f25o24 : Array Oper := cO (cL (cR (cR (cR (cR (cR (cR (cB Go.Proofs.Try.f25))))))))
def f25a24 : RAnn := ⟨[1, 5, 6, 76], []⟩
def f25b0 : Code := (.seq (.seq (.region 4 f25o4 false) (.cond (.tmp 42) .skip (.exit 0))) (.seq (.block 1 (.seq (.region 6 f25o6 false) (.cond (.tmp 52) (.seq (.region 7 f25o7 false) .ret) .skip))) (.region 5 f25o5 false)))
def f25b1 : Code := (.seq (.seq (.region 9 f25o9 false) (.cond (.tmp 57) .skip (.exit 2))) (.seq (.block 3 (.seq (.region 11 f25o11 true) (.cond (.tmp 70) (.seq (.region 12 f25o12 false) .ret) .skip))) (.region 10 f25o10 false)))
def f25b2 : Code := (.seq (.seq (.region 20 f25o20 false) (.cond (.tmp 139) .skip (.exit 6))) (.seq (.block 7 (.seq (.region 22 f25o22 true) (.cond (.tmp 190) (.seq (.region 23 f25o23 false) .ret) .skip))) (.region 21 f25o21 false)))
def f25b3 : Code := (.seq (.seq (.region 15 f25o15 false) (.cond (.tmp 76) .skip (.exit 4))) (.seq (.block 5 (.seq (.seq (.region 17 f25o17 true) (.cond (.tmp 136) (.seq (.region 18 f25o18 false) .ret) .skip)) (.seq (.region 19 f25o19 false) (.block 6 (.loop f25b2))))) (.region 16 f25o16 false)))
def f25c : Code := (.seq (.region 0 f25o0 false) (.seq (.seq (.region 1 f25o1 false) (.cond (.tmp 37) (.seq (.region 2 f25o2 false) .ret) .skip)) (.seq (.seq (.region 3 f25o3 false) (.block 0 (.loop f25b0))) (.seq (.seq (.region 8 f25o8 false) (.block 2 (.loop f25b1))) (.seq (.region 13 f25o13 false) (.seq (.seq (.region 14 f25o14 false) (.block 4 (.loop f25b3))) (.seq (.region 24 f25o24 false) .ret)))))))
def f25n : List (Nat × RAnn) := [(0, f25a0), (1, f25a1), (2, f25a2), (3, f25a3), (4, f25a4), (5, f25a5), (6, f25a6), (7, f25a7), (8, f25a8), (9, f25a9), (10, f25a10), (11, f25a11), (12, f25a12), (13, f25a13), (14, f25a14), (15, f25a15), (16, f25a16), (17, f25a17), (18, f25a18), (19, f25a19), (20, f25a20), (21, f25a21), (22, f25a22), (23, f25a23), (24, f25a24)]
noncomputable def f72o0 : Array Oper := cO (cL (cB Go.Proofs.Try.f72))
def f72a0 : RAnn := ⟨[2], []⟩
noncomputable def f72o1 : Array Oper := cO (cL (cL (cR (cB Go.Proofs.Try.f72))))
def f72a1 : RAnn := ⟨[5], []⟩
noncomputable def f72o2 : Array Oper := cO (cL (cL (cL (cR (cL (cR (cB Go.Proofs.Try.f72)))))))
def f72a2 : RAnn := ⟨[], []⟩
noncomputable def f72o3 : Array Oper := cO (cL (cL (cL (cR (cR (cL (cL (cR (cL (cR (cB Go.Proofs.Try.f72)))))))))))
def f72a3 : RAnn := ⟨[8, 9], []⟩
noncomputable def f72o4 : Array Oper := cO (cL (cR (cL (cL (cR (cR (cL (cL (cR (cL (cR (cB Go.Proofs.Try.f72))))))))))))
def f72a4 : RAnn := ⟨[10, 11, 12, 13, 14, 15, 16, 17, 18, 19], []⟩
noncomputable def f72o5 : Array Oper := cO (cL (cR (cR (cL (cL (cR (cR (cL (cL (cR (cL (cR (cB Go.Proofs.Try.f72)))))))))))))
def f72a5 : RAnn := ⟨[3, 4, 20, 21, 22, 23, 24, 25, 26, 27, 28, 29, 30, 31, 32, 33, 34, 35, 36], []⟩
noncomputable def f72o6 : Array Oper := cO (cL (cL (cR (cR (cR (cL (cL (cR (cR (cL (cL (cR (cL (cR (cB Go.Proofs.Try.f72)))))))))))))))
def f72a6 : RAnn := ⟨[0, 6, 7, 37], []⟩
noncomputable def f72o7 : Array Oper := cO (cR (cR (cR (cL (cL (cR (cL (cR (cB Go.Proofs.Try.f72)))))))))
def f72a7 : RAnn := ⟨[37, 38], []⟩
noncomputable def f72o8 : Array Oper := cO (cL (cR (cR (cB Go.Proofs.Try.f72))))
def f72a8 : RAnn := ⟨[0, 6, 7, 8, 39, 40, 41, 42, 43, 44, 45, 46], []⟩
def f72b0 : Code := (.seq (.region 2 f72o2 false) (.seq (.cond (.tmp 8) .skip (.exit 0)) (.seq (.block 1 (.seq (.region 3 f72o3 false) (.seq (.region 4 f72o4 false) (.seq (.region 5 f72o5 false) (.cond (.tmp 37) (.seq (.region 6 f72o6 false) .ret) .skip))))) (.region 7 f72o7 false))))
def f72c : Code := (.seq (.region 0 f72o0 false) (.seq (.seq (.region 1 f72o1 false) (.block 0 (.loop f72b0))) (.seq (.region 8 f72o8 false) .ret)))
def f72n : List (Nat × RAnn) := [(0, f72a0), (1, f72a1), (2, f72a2), (3, f72a3), (4, f72a4), (5, f72a5), (6, f72a6), (7, f72a7), (8, f72a8)]
noncomputable def f73o0 : Array Oper := cO (cL (cB Go.Proofs.Try.f73))
def f73a0 : RAnn := ⟨[2], []⟩
noncomputable def f73o1 : Array Oper := cO (cL (cR (cB Go.Proofs.Try.f73)))
def f73a1 : RAnn := ⟨[0, 3, 4, 5, 6, 7, 8], []⟩
def f73c : Code := (.seq (.region 0 f73o0 false) (.seq (.region 1 f73o1 false) .ret))
def f73n : List (Nat × RAnn) := [(0, f73a0), (1, f73a1)]
noncomputable def f71o0 : Array Oper := cO (cL (cB Go.Proofs.Try.f71))
def f71a0 : RAnn := ⟨[2], []⟩
noncomputable def f71o1 : Array Oper := cO (cL (cR (cB Go.Proofs.Try.f71)))
def f71a1 : RAnn := ⟨[0, 3, 4, 5, 6, 7, 8], []⟩
def f71c : Code := (.seq (.region 0 f71o0 false) (.seq (.region 1 f71o1 false) .ret))
def f71n : List (Nat × RAnn) := [(0, f71a0), (1, f71a1)]
noncomputable def f61o0 : Array Oper := cO (cL (cB Go.Proofs.Try.f61))
def f61a0 : RAnn := ⟨[4], []⟩
noncomputable def f61o1 : Array Oper := cO (cL (cL (cR (cB Go.Proofs.Try.f61))))
def f61a1 : RAnn := ⟨[6], []⟩
noncomputable def f61o2 : Array Oper := cO (cL (cL (cL (cR (cL (cR (cB Go.Proofs.Try.f61)))))))
def f61a2 : RAnn := ⟨[], []⟩
noncomputable def f61o3 : Array Oper := cO (cL (cL (cL (cR (cR (cL (cL (cR (cL (cR (cB Go.Proofs.Try.f61)))))))))))
def f61a3 : RAnn := ⟨[9, 10], []⟩
noncomputable def f61o4 : Array Oper := cO (cL (cR (cL (cL (cR (cR (cL (cL (cR (cL (cR (cB Go.Proofs.Try.f61))))))))))))
def f61a4 : RAnn := ⟨[11, 12, 13, 14, 15], []⟩
noncomputable def f61o5 : Array Oper := cO (cL (cL (cR (cR (cL (cL (cR (cR (cL (cL (cR (cL (cR (cB Go.Proofs.Try.f61))))))))))))))
def f61a5 : RAnn := ⟨[0, 1, 5, 7, 8, 16, 17], []⟩
noncomputable def f61o6 : Array Oper := cO (cR (cR (cR (cL (cL (cR (cL (cR (cB Go.Proofs.Try.f61)))))))))
def f61a6 : RAnn := ⟨[5, 16, 18], []⟩
noncomputable def f61o7 : Array Oper := cO (cL (cR (cR (cB Go.Proofs.Try.f61))))
def f61a7 : RAnn := ⟨[0, 1, 7, 8, 9], []⟩
def f61b0 : Code := (.seq (.region 2 f61o2 false) (.seq (.cond (.tmp 9) .skip (.exit 0)) (.seq (.block 1 (.seq (.region 3 f61o3 false) (.seq (.region 4 f61o4 false) (.cond (.tmp 16) (.seq (.region 5 f61o5 false) .ret) .skip)))) (.region 6 f61o6 false))))
def f61c : Code := (.seq (.region 0 f61o0 false) (.seq (.seq (.region 1 f61o1 false) (.block 0 (.loop f61b0))) (.seq (.region 7 f61o7 false) .ret)))
def f61n : List (Nat × RAnn) := [(0, f61a0), (1, f61a1), (2, f61a2), (3, f61a3), (4, f61a4), (5, f61a5), (6, f61a6), (7, f61a7)]
noncomputable def f74o0 : Array Oper := cO (cL (cB Go.Proofs.Try.f74))
def f74a0 : RAnn := ⟨[4], []⟩
noncomputable def f74o1 : Array Oper := cO (cL (cR (cB Go.Proofs.Try.f74)))
def f74a1 : RAnn := ⟨[0, 1, 5, 6, 7, 8], []⟩
def f74c : Code := (.seq (.region 0 f74o0 false) (.seq (.region 1 f74o1 false) .ret))
def f74n : List (Nat × RAnn) := [(0, f74a0), (1, f74a1)]
noncomputable def f75o0 : Array Oper := cO (cL (cB Go.Proofs.Try.f75))
def f75a0 : RAnn := ⟨[0, 3], []⟩
noncomputable def f75o1 : Array Oper := cO (cL (cR (cB Go.Proofs.Try.f75)))
def f75a1 : RAnn := ⟨[1, 2, 4, 5, 6, 7, 8, 9, 10, 11, 12, 13, 14, 15, 16, 17, 18, 19, 20, 21, 22, 23, 24, 25, 26, 27, 28, 29, 30, 31, 32], []⟩
def f75c : Code := (.seq (.region 0 f75o0 false) (.seq (.region 1 f75o1 false) .ret))
def f75n : List (Nat × RAnn) := [(0, f75a0), (1, f75a1)]
noncomputable def f53o0 : Array Oper := cO (cL (cB Go.Proofs.Try.f53))
def f53a0 : RAnn := ⟨[2], []⟩
noncomputable def f53o1 : Array Oper := cO (cL (cL (cR (cB Go.Proofs.Try.f53))))
def f53a1 : RAnn := ⟨[], []⟩
noncomputable def f53o2 : Array Oper := cO (cL (cL (cL (cR (cL (cR (cB Go.Proofs.Try.f53)))))))
def f53a2 : RAnn := ⟨[], []⟩
noncomputable def f53o3 : Array Oper := cO (cL (cL (cL (cR (cR (cL (cL (cR (cL (cR (cB Go.Proofs.Try.f53)))))))))))
def f53a3 : RAnn := ⟨[8, 9, 10, 11], []⟩
noncomputable def f53o4 : Array Oper := cO (cL (cL (cR (cL (cL (cR (cR (cL (cL (cR (cL (cR (cB Go.Proofs.Try.f53)))))))))))))
def f53a4 : RAnn := ⟨[12, 13, 14, 15, 16, 17, 18, 19, 20, 21, 22, 23, 24, 25, 26, 27, 28, 29, 30, 31, 32], []⟩
noncomputable def f53o5 : Array Oper := cO (cL (cL (cR (cL (cR (cL (cL (cR (cR (cL (cL (cR (cL (cR (cB Go.Proofs.Try.f53)))))))))))))))
def f53a5 : RAnn := ⟨[0, 3, 4, 5, 6, 7, 33], []⟩
noncomputable def f53o6 : Array Oper := cO (cL (cR (cR (cL (cL (cR (cR (cL (cL (cR (cL (cR (cB Go.Proofs.Try.f53)))))))))))))
def f53a6 : RAnn := ⟨[3, 4, 33, 34, 35, 36, 37], []⟩
noncomputable def f53o7 : Array Oper := cO (cL (cL (cR (cR (cR (cL (cL (cR (cR (cL (cL (cR (cL (cR (cB Go.Proofs.Try.f53)))))))))))))))
def f53a7 : RAnn := ⟨[0, 5, 6, 7, 38], []⟩
noncomputable def f53o8 : Array Oper := cO (cR (cR (cR (cL (cL (cR (cL (cR (cB Go.Proofs.Try.f53)))))))))
def f53a8 : RAnn := ⟨[38, 39], []⟩
noncomputable def f53o9 : Array Oper := cO (cL (cR (cR (cB Go.Proofs.Try.f53))))
def f53a9 : RAnn := ⟨[0, 5, 6, 7, 8, 40, 41, 42], []⟩
def f53b0 : Code := (.seq (.region 2 f53o2 false) (.seq (.cond (.tmp 8) .skip (.exit 0)) (.seq (.block 1 (.seq (.region 3 f53o3 false) (.seq (.seq (.region 4 f53o4 false) (.cond (.tmp 33) (.seq (.region 5 f53o5 false) .ret) .skip)) (.seq (.region 6 f53o6 false) (.cond (.tmp 38) (.seq (.region 7 f53o7 false) .ret) .skip))))) (.region 8 f53o8 false))))
def f53c : Code := (.seq (.region 0 f53o0 false) (.seq (.seq (.region 1 f53o1 false) (.block 0 (.loop f53b0))) (.seq (.region 9 f53o9 false) .ret)))
def f53n : List (Nat × RAnn) := [(0, f53a0), (1, f53a1), (2, f53a2), (3, f53a3), (4, f53a4), (5, f53a5), (6, f53a6), (7, f53a7), (8, f53a8), (9, f53a9)]
noncomputable def f48o0 : Array Oper := cO (cL (cB Go.Proofs.Try.f48))
def f48a0 : RAnn := ⟨[2], []⟩
noncomputable def f48o1 : Array Oper := cO (cL (cL (cR (cB Go.Proofs.Try.f48))))
def f48a1 : RAnn := ⟨[4], []⟩
noncomputable def f48o2 : Array Oper := cO (cL (cL (cL (cR (cL (cR (cB Go.Proofs.Try.f48)))))))
def f48a2 : RAnn := ⟨[], []⟩
noncomputable def f48o3 : Array Oper := cO (cL (cL (cL (cR (cR (cL (cL (cR (cL (cR (cB Go.Proofs.Try.f48)))))))))))
def f48a3 : RAnn := ⟨[7, 8], []⟩
noncomputable def f48o4 : Array Oper := cO (cL (cR (cL (cL (cR (cR (cL (cL (cR (cL (cR (cB Go.Proofs.Try.f48))))))))))))
def f48a4 : RAnn := ⟨[3, 9, 10, 11, 12], []⟩
noncomputable def f48o5 : Array Oper := cO (cL (cL (cR (cR (cL (cL (cR (cR (cL (cL (cR (cL (cR (cB Go.Proofs.Try.f48))))))))))))))
def f48a5 : RAnn := ⟨[0, 5, 6, 13], []⟩
noncomputable def f48o6 : Array Oper := cO (cR (cR (cR (cL (cL (cR (cL (cR (cB Go.Proofs.Try.f48)))))))))
def f48a6 : RAnn := ⟨[13, 14], []⟩
noncomputable def f48o7 : Array Oper := cO (cL (cR (cR (cB Go.Proofs.Try.f48))))
def f48a7 : RAnn := ⟨[0, 5, 6, 7], []⟩
def f48b0 : Code := (.seq (.region 2 f48o2 false) (.seq (.cond (.tmp 7) .skip (.exit 0)) (.seq (.block 1 (.seq (.region 3 f48o3 false) (.seq (.region 4 f48o4 false) (.cond (.tmp 13) (.seq (.region 5 f48o5 false) .ret) .skip)))) (.region 6 f48o6 false))))
def f48c : Code := (.seq (.region 0 f48o0 false) (.seq (.seq (.region 1 f48o1 false) (.block 0 (.loop f48b0))) (.seq (.region 7 f48o7 false) .ret)))
def f48n : List (Nat × RAnn) := [(0, f48a0), (1, f48a1), (2, f48a2), (3, f48a3), (4, f48a4), (5, f48a5), (6, f48a6), (7, f48a7)]
noncomputable def f54o0 : Array Oper := cO (cL (cB Go.Proofs.Try.f54))
def f54a0 : RAnn := ⟨[0, 8], []⟩
noncomputable def f54o1 : Array Oper := cO (cL (cR (cB Go.Proofs.Try.f54)))
def f54a1 : RAnn := ⟨[1, 2, 3, 4, 9, 10, 11, 12, 13, 14, 15, 16, 17, 18, 19, 20, 21, 22, 23, 24, 25, 26, 27, 28, 29, 30, 31, 32, 33, 34, 35, 36, 37, 38], []⟩
def f54c : Code := (.seq (.region 0 f54o0 false) (.seq (.region 1 f54o1 false) .ret))
def f54n : List (Nat × RAnn) := [(0, f54a0), (1, f54a1)]
noncomputable def f76o0 : Array Oper := cO (cL (cB Go.Proofs.Try.f76))
def f76a0 : RAnn := ⟨[4], []⟩
noncomputable def f76o1 : Array Oper := cO (cL (cL (cR (cB Go.Proofs.Try.f76))))
def f76a1 : RAnn := ⟨[6], []⟩
noncomputable def f76o2 : Array Oper := cO (cL (cL (cL (cR (cL (cR (cB Go.Proofs.Try.f76)))))))
def f76a2 : RAnn := ⟨[], []⟩
noncomputable def f76o3 : Array Oper := cO (cL (cL (cL (cR (cR (cL (cL (cR (cL (cR (cB Go.Proofs.Try.f76)))))))))))
def f76a3 : RAnn := ⟨[9, 10], []⟩
noncomputable def f76o4 : Array Oper := cO (cL (cR (cL (cL (cR (cR (cL (cL (cR (cL (cR (cB Go.Proofs.Try.f76))))))))))))
def f76a4 : RAnn := ⟨[11, 12, 13, 14, 15], []⟩
noncomputable def f76o5 : Array Oper := cO (cL (cL (cR (cR (cL (cL (cR (cR (cL (cL (cR (cL (cR (cB Go.Proofs.Try.f76))))))))))))))
def f76a5 : RAnn := ⟨[0, 1, 5, 7, 8, 16, 17], []⟩
noncomputable def f76o6 : Array Oper := cO (cR (cR (cR (cL (cL (cR (cL (cR (cB Go.Proofs.Try.f76)))))))))
def f76a6 : RAnn := ⟨[5, 16, 18], []⟩
noncomputable def f76o7 : Array Oper := cO (cL (cR (cR (cB Go.Proofs.Try.f76))))
def f76a7 : RAnn := ⟨[0, 1, 7, 8, 9], []⟩
def f76b0 : Code := (.seq (.region 2 f76o2 false) (.seq (.cond (.tmp 9) .skip (.exit 0)) (.seq (.block 1 (.seq (.region 3 f76o3 false) (.seq (.region 4 f76o4 false) (.cond (.tmp 16) (.seq (.region 5 f76o5 false) .ret) .skip)))) (.region 6 f76o6 false))))
def f76c : Code := (.seq (.region 0 f76o0 false) (.seq (.seq (.region 1 f76o1 false) (.block 0 (.loop f76b0))) (.seq (.region 7 f76o7 false) .ret)))
def f76n : List (Nat × RAnn) := [(0, f76a0), (1, f76a1), (2, f76a2), (3, f76a3), (4, f76a4), (5, f76a5), (6, f76a6), (7, f76a7)]
noncomputable def f55o0 : Array Oper := cO (cL (cB Go.Proofs.Try.f55))
def f55a0 : RAnn := ⟨[4], []⟩
noncomputable def f55o1 : Array Oper := cO (cL (cR (cB Go.Proofs.Try.f55)))
def f55a1 : RAnn := ⟨[0, 1, 5, 6, 7, 8], []⟩
def f55c : Code := (.seq (.region 0 f55o0 false) (.seq (.region 1 f55o1 false) .ret))
def f55n : List (Nat × RAnn) := [(0, f55a0), (1, f55a1)]
noncomputable def f56o0 : Array Oper := cO (cL (cB Go.Proofs.Try.f56))
def f56a0 : RAnn := ⟨[0, 1, 4], []⟩
noncomputable def f56o1 : Array Oper := cO (cL (cR (cB Go.Proofs.Try.f56)))
def f56a1 : RAnn := ⟨[2, 3, 5, 6, 7, 8, 9, 10, 11, 12, 13, 14, 15, 16, 17, 18, 19, 20, 21, 22, 23, 24, 25, 26, 27, 28, 29], []⟩
def f56c : Code := (.seq (.region 0 f56o0 false) (.seq (.region 1 f56o1 false) .ret))
def f56n : List (Nat × RAnn) := [(0, f56a0), (1, f56a1)]
noncomputable def f24o0 : Array Oper := cO (cL (cB Go.Proofs.Try.f24))
def f24a0 : RAnn := ⟨[0, 2], []⟩
noncomputable def f24o1 : Array Oper := cO (cL (cL (cR (cB Go.Proofs.Try.f24))))
def f24a1 : RAnn := ⟨[10, 11, 12, 13, 14, 15, 16, 17, 18, 19, 20, 21, 22, 23, 24, 25, 26, 27, 28, 29, 30, 31, 32, 33, 34, 35, 36, 37, 38], []⟩
noncomputable def f24o2 : Array Oper := cO (cL (cL (cR (cL (cR (cB Go.Proofs.Try.f24))))))
def f24a2 : RAnn := ⟨[1, 39], []⟩
noncomputable def f24o3 : Array Oper := cO (cL (cR (cR (cB Go.Proofs.Try.f24))))
def f24a3 : RAnn := ⟨[39], [(0, { keep := [0] })]⟩
noncomputable def f24o4 : Array Oper := cO (cL (cL (cR (cR (cR (cB Go.Proofs.Try.f24))))))
def f24a4 : RAnn := ⟨[40], []⟩
noncomputable def f24o5 : Array Oper := cO (cL (cL (cL (cR (cL (cR (cR (cR (cB Go.Proofs.Try.f24)))))))))
def f24a5 : RAnn := ⟨[], []⟩
noncomputable def f24o6 : Array Oper := cO (cL (cL (cL (cR (cR (cL (cL (cR (cL (cR (cR (cR (cB Go.Proofs.Try.f24)))))))))))))
def f24a6 : RAnn := ⟨[44, 45, 46], []⟩
noncomputable def f24o7 : Array Oper := cO (cL (cL (cR (cL (cL (cR (cR (cL (cL (cR (cL (cR (cR (cR (cB Go.Proofs.Try.f24)))))))))))))))
def f24a7 : RAnn := ⟨[47, 48, 49, 50, 51, 52, 53, 54, 55, 56, 57, 58, 59, 60, 61, 62, 63, 64, 65, 66, 67], []⟩
noncomputable def f24o8 : Array Oper := cO (cL (cL (cR (cL (cR (cL (cL (cR (cR (cL (cL (cR (cL (cR (cR (cR (cB Go.Proofs.Try.f24)))))))))))))))))
def f24a8 : RAnn := ⟨[1, 3, 5, 41, 42, 43, 68], []⟩
noncomputable def f24o9 : Array Oper := cO (cR (cR (cL (cL (cR (cR (cL (cL (cR (cL (cR (cR (cR (cB Go.Proofs.Try.f24))))))))))))))
def f24a9 : RAnn := ⟨[5, 68, 69, 70, 71, 72, 73, 74, 75, 76, 77, 78, 79], [(0, { tk := [3], keep := [0] }), (10, { tk := [69], keep := [0] }), (11, { tk := [79], keep := [0] })]⟩
noncomputable def f24o10 : Array Oper := cO (cR (cR (cR (cL (cL (cR (cL (cR (cR (cR (cB Go.Proofs.Try.f24)))))))))))
def f24a10 : RAnn := ⟨[80], []⟩
noncomputable def f24o11 : Array Oper := cO (cL (cL (cR (cR (cR (cR (cB Go.Proofs.Try.f24)))))))
def f24a11 : RAnn := ⟨[41, 42, 43, 44, 81], []⟩
noncomputable def f24o12 : Array Oper := cO (cL (cL (cL (cR (cL (cR (cR (cR (cR (cB Go.Proofs.Try.f24))))))))))
def f24a12 : RAnn := ⟨[], []⟩
noncomputable def f24o13 : Array Oper := cO (cL (cL (cL (cR (cR (cL (cL (cR (cL (cR (cR (cR (cR (cB Go.Proofs.Try.f24))))))))))))))
def f24a13 : RAnn := ⟨[85, 86, 87], []⟩
noncomputable def f24o14 : Array Oper := cO (cL (cL (cR (cL (cL (cR (cR (cL (cL (cR (cL (cR (cR (cR (cR (cB Go.Proofs.Try.f24))))))))))))))))
def f24a14 : RAnn := ⟨[88, 89, 90, 91, 92, 93, 94, 95], []⟩
noncomputable def f24o15 : Array Oper := cO (cL (cL (cR (cL (cR (cL (cL (cR (cR (cL (cL (cR (cL (cR (cR (cR (cR (cB Go.Proofs.Try.f24))))))))))))))))))
def f24a15 : RAnn := ⟨[1, 3, 7, 82, 83, 84, 96], []⟩
noncomputable def f24o16 : Array Oper := cO (cR (cR (cL (cL (cR (cR (cL (cL (cR (cL (cR (cR (cR (cR (cB Go.Proofs.Try.f24)))))))))))))))
def f24a16 : RAnn := ⟨[7, 96, 97, 98, 99, 100, 101, 102, 103, 104, 105, 106], [(0, { tk := [3], keep := [0] }), (9, { tk := [97], keep := [0] }), (10, { tk := [106], keep := [0] })]⟩
noncomputable def f24o17 : Array Oper := cO (cR (cR (cR (cL (cL (cR (cL (cR (cR (cR (cR (cB Go.Proofs.Try.f24))))))))))))
def f24a17 : RAnn := ⟨[107], []⟩
noncomputable def f24o18 : Array Oper := cO (cL (cL (cR (cR (cR (cR (cR (cB Go.Proofs.Try.f24))))))))
def f24a18 : RAnn := ⟨[1, 82, 83, 84, 85], []⟩
noncomputable def f24o19 : Array Oper := cO (cL (cL (cL (cR (cL (cR (cR (cR (cR (cR (cB Go.Proofs.Try.f24)))))))))))
def f24a19 : RAnn := ⟨[], []⟩
noncomputable def f24o20 : Array Oper := cO (cL (cL (cL (cR (cR (cL (cL (cR (cL (cR (cR (cR (cR (cR (cB Go.Proofs.Try.f24)))))))))))))))
def f24a20 : RAnn := ⟨[111, 112, 113, 114], []⟩
noncomputable def f24o21 : Array Oper := cO (cL (cR (cL (cL (cR (cR (cL (cL (cR (cL (cR (cR (cR (cR (cR (cB Go.Proofs.Try.f24))))))))))))))))
def f24a21 : RAnn := ⟨[8, 9, 115, 116, 117, 118, 119], []⟩
noncomputable def f24o22 : Array Oper := cO (cL (cL (cR (cR (cL (cL (cR (cR (cL (cL (cR (cL (cR (cR (cR (cR (cR (cB Go.Proofs.Try.f24))))))))))))))))))
def f24a22 : RAnn := ⟨[3, 108, 109, 110, 120], []⟩
noncomputable def f24o23 : Array Oper := cO (cR (cR (cR (cL (cL (cR (cL (cR (cR (cR (cR (cR (cB Go.Proofs.Try.f24)))))))))))))
def f24a23 : RAnn := ⟨[120, 121], []⟩
noncomputable def f24o24 : Array Oper := cO (cL (cR (cR (cR (cR (cR (cR (cB Go.Proofs.Try.f24))))))))
def f24a24 : RAnn := ⟨[3, 108, 109, 110, 111], []⟩
def f24b0 : Code := (.seq (.region 5 f24o5 false) (.seq (.cond (.tmp 44) .skip (.exit 0)) (.seq (.block 1 (.seq (.region 6 f24o6 false) (.seq (.seq (.region 7 f24o7 false) (.cond (.tmp 68) (.seq (.region 8 f24o8 false) .ret) .skip)) (.region 9 f24o9 false)))) (.region 10 f24o10 false))))
def f24b1 : Code := (.seq (.region 12 f24o12 false) (.seq (.cond (.tmp 85) .skip (.exit 2)) (.seq (.block 3 (.seq (.region 13 f24o13 false) (.seq (.seq (.region 14 f24o14 false) (.cond (.tmp 96) (.seq (.region 15 f24o15 false) .ret) .skip)) (.region 16 f24o16 false)))) (.region 17 f24o17 false))))
def f24b2 : Code := (.seq (.region 19 f24o19 false) (.seq (.cond (.tmp 111) .skip (.exit 4)) (.seq (.block 5 (.seq (.region 20 f24o20 false) (.seq (.region 21 f24o21 true) (.cond (.tmp 120) (.seq (.region 22 f24o22 false) .ret) .skip)))) (.region 23 f24o23 false))))
def f24c : Code := (.seq (.region 0 f24o0 false) (.seq (.seq (.region 1 f24o1 false) (.cond (.tmp 39) (.seq (.region 2 f24o2 false) .ret) .skip)) (.seq (.region 3 f24o3 false) (.seq (.seq (.region 4 f24o4 false) (.block 0 (.loop f24b0))) (.seq (.seq (.region 11 f24o11 false) (.block 2 (.loop f24b1))) (.seq (.seq (.region 18 f24o18 false) (.block 4 (.loop f24b2))) (.seq (.region 24 f24o24 false) .ret)))))))
def f24n : List (Nat × RAnn) := [(0, f24a0), (1, f24a1), (2, f24a2), (3, f24a3), (4, f24a4), (5, f24a5), (6, f24a6), (7, f24a7), (8, f24a8), (9, f24a9), (10, f24a10), (11, f24a11), (12, f24a12), (13, f24a13), (14, f24a14), (15, f24a15), (16, f24a16), (17, f24a17), (18, f24a18), (19, f24a19), (20, f24a20), (21, f24a21), (22, f24a22), (23, f24a23), (24, f24a24)]
noncomputable def f39o0 : Array Oper := cO (cL (cB Go.Proofs.Try.f39))
def f39a0 : RAnn := ⟨[0], []⟩
noncomputable def f39o1 : Array Oper := cO (cL (cL (cR (cB Go.Proofs.Try.f39))))
def f39a1 : RAnn := ⟨[1, 6], []⟩
noncomputable def f39o2 : Array Oper := cO (cL (cL (cL (cR (cL (cR (cB Go.Proofs.Try.f39)))))))
def f39a2 : RAnn := ⟨[], []⟩
noncomputable def f39o3 : Array Oper := cO (cL (cL (cL (cR (cR (cL (cL (cR (cL (cR (cB Go.Proofs.Try.f39)))))))))))
def f39a3 : RAnn := ⟨[10, 11, 12], []⟩
noncomputable def f39o4 : Array Oper := cO (cR (cL (cL (cR (cR (cL (cL (cR (cL (cR (cB Go.Proofs.Try.f39)))))))))))
def f39a4 : RAnn := ⟨[5, 13, 14, 15, 16, 17, 18, 19, 20, 21, 22], [(10, { eff := true }), (11, { eff := true })]⟩
noncomputable def f39o5 : Array Oper := cO (cR (cR (cR (cL (cL (cR (cL (cR (cB Go.Proofs.Try.f39)))))))))
def f39a5 : RAnn := ⟨[23], []⟩
noncomputable def f39o6 : Array Oper := cO (cL (cR (cR (cB Go.Proofs.Try.f39))))
def f39a6 : RAnn := ⟨[7, 8, 9, 10, 24, 25], []⟩
def f39b0 : Code := (.seq (.region 2 f39o2 false) (.seq (.cond (.tmp 10) .skip (.exit 0)) (.seq (.block 1 (.seq (.region 3 f39o3 false) (.region 4 f39o4 true))) (.region 5 f39o5 false))))
def f39c : Code := (.seq (.region 0 f39o0 false) (.seq (.seq (.region 1 f39o1 false) (.block 0 (.loop f39b0))) (.seq (.region 6 f39o6 false) .ret)))
def f39n : List (Nat × RAnn) := [(0, f39a0), (1, f39a1), (2, f39a2), (3, f39a3), (4, f39a4), (5, f39a5), (6, f39a6)]
noncomputable def f78v10o0 : Array Oper := cO (cL (cB Go.Proofs.Try.f78))
def f78v10a0 : RAnn := ⟨[4], []⟩
noncomputable def f78v10o1 : Array Oper := cO (cL (cL (cR (cB Go.Proofs.Try.f78))))
def f78v10a1 : RAnn := ⟨[6], []⟩
noncomputable def f78v10o2 : Array Oper := cO (cL (cL (cL (cR (cL (cR (cB Go.Proofs.Try.f78)))))))
def f78v10a2 : RAnn := ⟨[], []⟩
noncomputable def f78v10o3 : Array Oper := cO (cL (cL (cL (cR (cR (cL (cL (cR (cL (cR (cB Go.Proofs.Try.f78)))))))))))
def f78v10a3 : RAnn := ⟨[9, 10], []⟩
noncomputable def f78v10o4 : Array Oper := cO (cL (cR (cL (cL (cR (cR (cL (cL (cR (cL (cR (cB Go.Proofs.Try.f78))))))))))))
def f78v10a4 : RAnn := ⟨[11, 12, 13, 14, 15], []⟩
noncomputable def f78v10o5 : Array Oper := cO (cL (cL (cR (cR (cL (cL (cR (cR (cL (cL (cR (cL (cR (cB Go.Proofs.Try.f78))))))))))))))
def f78v10a5 : RAnn := ⟨[0, 1, 5, 7, 8, 16, 17], []⟩
noncomputable def f78v10o6 : Array Oper := cO (cR (cR (cR (cL (cL (cR (cL (cR (cB Go.Proofs.Try.f78)))))))))
def f78v10a6 : RAnn := ⟨[5, 16, 18], []⟩
noncomputable def f78v10o7 : Array Oper := cO (cL (cR (cR (cB Go.Proofs.Try.f78))))
def f78v10a7 : RAnn := ⟨[0, 1, 7, 8, 9], []⟩
def f78v10b0 : Code := (.seq (.region 2 f78v10o2 false) (.seq (.cond (.tmp 9) .skip (.exit 0)) (.seq (.block 1 (.seq (.region 3 f78v10o3 false) (.seq (.region 4 f78v10o4 false) (.cond (.tmp 16) (.seq (.region 5 f78v10o5 false) .ret) .skip)))) (.region 6 f78v10o6 false))))
def f78v10c : Code := (.seq (.region 0 f78v10o0 false) (.seq (.seq (.region 1 f78v10o1 false) (.block 0 (.loop f78v10b0))) (.seq (.region 7 f78v10o7 false) .ret)))
def f78v10n : List (Nat × RAnn) := [(0, f78v10a0), (1, f78v10a1), (2, f78v10a2), (3, f78v10a3), (4, f78v10a4), (5, f78v10a5), (6, f78v10a6), (7, f78v10a7)]
noncomputable def f65v10o0 : Array Oper := cO (cL (cB Go.Proofs.Try.f65))
def f65v10a0 : RAnn := ⟨[4], []⟩
noncomputable def f65v10o1 : Array Oper := cO (cL (cR (cB Go.Proofs.Try.f65)))
def f65v10a1 : RAnn := ⟨[0, 1, 5, 6, 7, 8], []⟩
def f65v10c : Code := (.seq (.region 0 f65v10o0 false) (.seq (.region 1 f65v10o1 false) .ret))
def f65v10n : List (Nat × RAnn) := [(0, f65v10a0), (1, f65v10a1)]
noncomputable def f66o0 : Array Oper := cO (cL (cB Go.Proofs.Try.f66))
def f66a0 : RAnn := ⟨[2], []⟩
noncomputable def f66o1 : Array Oper := cO (cL (cR (cB Go.Proofs.Try.f66)))
def f66a1 : RAnn := ⟨[0, 3, 4, 5, 6, 7, 8, 9, 10], []⟩
def f66c : Code := (.seq (.region 0 f66o0 false) (.seq (.region 1 f66o1 false) .ret))
def f66n : List (Nat × RAnn) := [(0, f66a0), (1, f66a1)]
noncomputable def f34o0 : Array Oper := cO (cL (cB Go.Proofs.Try.f34))
def f34a0 : RAnn := ⟨[0, 4], []⟩
noncomputable def f34o1 : Array Oper := cO (cL (cL (cR (cB Go.Proofs.Try.f34))))
def f34a1 : RAnn := ⟨[7, 8], []⟩
noncomputable def f34o2 : Array Oper := cO (cL (cL (cR (cL (cR (cB Go.Proofs.Try.f34))))))
def f34a2 : RAnn := ⟨[1, 2, 9], []⟩
noncomputable def f34o3 : Array Oper := cO (cL (cL (cR (cR (cB Go.Proofs.Try.f34)))))
def f34a3 : RAnn := ⟨[2, 5, 9, 10, 11, 12, 13, 14], []⟩
noncomputable def f34o4 : Array Oper := cO (cL (cR (cL (cR (cR (cB Go.Proofs.Try.f34))))))
def f34a4 : RAnn := ⟨[1, 6, 15, 16, 17, 18, 19, 20, 21], []⟩
noncomputable def f34o5 : Array Oper := cO (cL (cL (cR (cR (cL (cR (cR (cB Go.Proofs.Try.f34))))))))
def f34a5 : RAnn := ⟨[22], []⟩
noncomputable def f34o6 : Array Oper := cO (cL (cR (cR (cR (cB Go.Proofs.Try.f34)))))
def f34a6 : RAnn := ⟨[22], []⟩
def f34c : Code := (.seq (.region 0 f34o0 false) (.seq (.seq (.region 1 f34o1 false) (.cond (.tmp 9) (.seq (.region 2 f34o2 false) .ret) .skip)) (.seq (.seq (.region 3 f34o3 false) (.seq (.region 4 f34o4 false) (.cond (.tmp 22) (.seq (.region 5 f34o5 false) .ret) .skip))) (.seq (.region 6 f34o6 false) .ret))))
def f34n : List (Nat × RAnn) := [(0, f34a0), (1, f34a1), (2, f34a2), (3, f34a3), (4, f34a4), (5, f34a5), (6, f34a6)]
noncomputable def f64o0 : Array Oper := cO (cL (cB Go.Proofs.Try.f64))
def f64a0 : RAnn := ⟨[2], [(0, { site := true })]⟩
noncomputable def f64o1 : Array Oper := cO (cL (cL (cR (cB Go.Proofs.Try.f64))))
def f64a1 : RAnn := ⟨[3], []⟩
noncomputable def f64o2 : Array Oper := cO (cL (cL (cR (cL (cR (cB Go.Proofs.Try.f64))))))
def f64a2 : RAnn := ⟨[], [(0, { site := true })]⟩
noncomputable def f64o3 : Array Oper := cO (cL (cR (cR (cB Go.Proofs.Try.f64))))
def f64a3 : RAnn := ⟨[0, 4, 6, 7], [(0, { site := true })]⟩
def f64c : Code := (.seq (.region 0 f64o0 false) (.seq (.seq (.region 1 f64o1 false) (.cond (.tmp 4) (.seq (.region 2 f64o2 false) .ret) .skip)) (.seq (.region 3 f64o3 false) .ret)))
def f64n : List (Nat × RAnn) := [(0, f64a0), (1, f64a1), (2, f64a2), (3, f64a3)]
noncomputable def f43o0 : Array Oper := cO (cL (cB Go.Proofs.Try.f43))
def f43a0 : RAnn := ⟨[8], []⟩
noncomputable def f43o1 : Array Oper := cO (cL (cR (cB Go.Proofs.Try.f43)))
def f43a1 : RAnn := ⟨[0, 10], [(1, { site := true })]⟩
noncomputable def f43o2 : Array Oper := cO (cL (cR (cR (cB Go.Proofs.Try.f43))))
def f43a2 : RAnn := ⟨[1, 2, 3, 12, 13, 14, 15, 16, 17, 18, 19, 20, 21, 22, 23, 24, 25, 26, 27, 28, 29, 30, 31, 32], []⟩
noncomputable def f43o3 : Array Oper := cO (cL (cR (cR (cR (cB Go.Proofs.Try.f43)))))
def f43a3 : RAnn := ⟨[9, 11, 33], [(1, { close := true })]⟩
def f43c : Code := (.seq (.region 0 f43o0 false) (.seq (.region 1 f43o1 false) (.seq (.region 2 f43o2 true) (.seq (.region 3 f43o3 false) .ret))))
def f43n : List (Nat × RAnn) := [(0, f43a0), (1, f43a1), (2, f43a2), (3, f43a3)]
noncomputable def f49o0 : Array Oper := cO (cL (cB Go.Proofs.Try.f49))
def f49a0 : RAnn := ⟨[0, 4], []⟩
noncomputable def f49o1 : Array Oper := cO (cL (cL (cR (cB Go.Proofs.Try.f49))))
def f49a1 : RAnn := ⟨[5, 6, 7, 8], []⟩
noncomputable def f49o2 : Array Oper := cO (cL (cL (cR (cL (cR (cB Go.Proofs.Try.f49))))))
def f49a2 : RAnn := ⟨[1, 2, 9, 10, 11, 12, 13], []⟩
noncomputable def f49o3 : Array Oper := cO (cL (cR (cR (cB Go.Proofs.Try.f49))))
def f49a3 : RAnn := ⟨[1, 2, 9, 14, 15, 16, 17, 18, 19, 20, 21, 22, 23, 24, 25], []⟩
def f49c : Code := (.seq (.region 0 f49o0 false) (.seq (.seq (.region 1 f49o1 false) (.cond (.tmp 9) (.seq (.region 2 f49o2 false) .ret) .skip)) (.seq (.region 3 f49o3 false) .ret)))
def f49n : List (Nat × RAnn) := [(0, f49a0), (1, f49a1), (2, f49a2), (3, f49a3)]
noncomputable def f35o0 : Array Oper := cO (cL (cB Go.Proofs.Try.f35))
def f35a0 : RAnn := ⟨[0, 4], []⟩
noncomputable def f35o1 : Array Oper := cO (cL (cR (cB Go.Proofs.Try.f35)))
def f35a1 : RAnn := ⟨[11, 12, 13, 14, 15, 16, 17], []⟩
noncomputable def f35o2 : Array Oper := cO (cL (cL (cR (cR (cB Go.Proofs.Try.f35)))))
def f35a2 : RAnn := ⟨[18], []⟩
noncomputable def f35o3 : Array Oper := cO (cL (cL (cL (cR (cL (cR (cR (cB Go.Proofs.Try.f35))))))))
def f35a3 : RAnn := ⟨[], []⟩
noncomputable def f35o4 : Array Oper := cO (cL (cL (cL (cR (cR (cL (cL (cR (cL (cR (cR (cB Go.Proofs.Try.f35))))))))))))
def f35a4 : RAnn := ⟨[22, 23, 24], []⟩
noncomputable def f35o5 : Array Oper := cO (cR (cL (cL (cR (cR (cL (cL (cR (cL (cR (cR (cB Go.Proofs.Try.f35))))))))))))
def f35a5 : RAnn := ⟨[7, 25, 26, 27, 28, 29, 30, 31, 32], []⟩
noncomputable def f35o6 : Array Oper := cO (cR (cR (cR (cL (cL (cR (cL (cR (cR (cB Go.Proofs.Try.f35))))))))))
def f35a6 : RAnn := ⟨[33], []⟩
noncomputable def f35o7 : Array Oper := cO (cL (cL (cR (cR (cR (cB Go.Proofs.Try.f35))))))
def f35a7 : RAnn := ⟨[2, 19, 20, 21, 22, 34], []⟩
noncomputable def f35o8 : Array Oper := cO (cL (cL (cL (cR (cL (cR (cR (cR (cB Go.Proofs.Try.f35)))))))))
def f35a8 : RAnn := ⟨[], []⟩
noncomputable def f35o9 : Array Oper := cO (cL (cL (cL (cR (cR (cL (cL (cR (cL (cR (cR (cR (cB Go.Proofs.Try.f35)))))))))))))
def f35a9 : RAnn := ⟨[38, 39, 40], []⟩
noncomputable def f35o10 : Array Oper := cO (cL (cR (cL (cL (cR (cR (cL (cL (cR (cL (cR (cR (cR (cB Go.Proofs.Try.f35))))))))))))))
def f35a10 : RAnn := ⟨[], []⟩
noncomputable def f35o11 : Array Oper := cO (cL (cL (cR (cR (cL (cL (cR (cR (cL (cL (cR (cL (cR (cR (cR (cB Go.Proofs.Try.f35))))))))))))))))
def f35a11 : RAnn := ⟨[41, 42], []⟩
noncomputable def f35o12 : Array Oper := cO (cL (cR (cL (cR (cR (cL (cL (cR (cR (cL (cL (cR (cL (cR (cR (cR (cB Go.Proofs.Try.f35)))))))))))))))))
def f35a12 : RAnn := ⟨[43, 44, 45, 46, 47, 48], []⟩
noncomputable def f35o13 : Array Oper := cO (cR (cR (cR (cL (cL (cR (cR (cL (cL (cR (cL (cR (cR (cR (cB Go.Proofs.Try.f35)))))))))))))))
def f35a13 : RAnn := ⟨[9, 10, 43, 49, 50, 51, 52, 53, 54, 55, 56, 57], [(9, { eff := true })]⟩
noncomputable def f35o14 : Array Oper := cO (cR (cR (cR (cL (cL (cR (cL (cR (cR (cR (cB Go.Proofs.Try.f35)))))))))))
def f35a14 : RAnn := ⟨[58], []⟩
noncomputable def f35o15 : Array Oper := cO (cL (cR (cR (cR (cR (cB Go.Proofs.Try.f35))))))
def f35a15 : RAnn := ⟨[1, 5, 35, 36, 37, 38, 59], []⟩
def f35b0 : Code := (.seq (.region 3 f35o3 false) (.seq (.cond (.tmp 22) .skip (.exit 0)) (.seq (.block 1 (.seq (.region 4 f35o4 false) (.region 5 f35o5 false))) (.region 6 f35o6 false))))
def f35b1 : Code := (.seq (.region 8 f35o8 false) (.seq (.cond (.tmp 38) .skip (.exit 2)) (.seq (.block 3 (.seq (.region 9 f35o9 false) (.seq (.region 10 f35o10 false) (.seq (.seq (.region 11 f35o11 false) (.cond (.tmp 43) (.region 12 f35o12 false) .skip)) (.region 13 f35o13 true))))) (.region 14 f35o14 false))))
def f35c : Code := (.seq (.region 0 f35o0 false) (.seq (.region 1 f35o1 true) (.seq (.seq (.region 2 f35o2 false) (.block 0 (.loop f35b0))) (.seq (.seq (.region 7 f35o7 false) (.block 2 (.loop f35b1))) (.seq (.region 15 f35o15 false) .ret)))))
def f35n : List (Nat × RAnn) := [(0, f35a0), (1, f35a1), (2, f35a2), (3, f35a3), (4, f35a4), (5, f35a5), (6, f35a6), (7, f35a7), (8, f35a8), (9, f35a9), (10, f35a10), (11, f35a11), (12, f35a12), (13, f35a13), (14, f35a14), (15, f35a15)]
noncomputable def f11o0 : Array Oper := cO (cL (cB Go.Proofs.Try.f11))
def f11a0 : RAnn := ⟨[0, 4, 5], []⟩
noncomputable def f11o1 : Array Oper := cO (cL (cL (cR (cB Go.Proofs.Try.f11))))
def f11a1 : RAnn := ⟨[7, 8, 9], []⟩
noncomputable def f11o2 : Array Oper := cO (cL (cR (cL (cR (cB Go.Proofs.Try.f11)))))
def f11a2 : RAnn := ⟨[10], []⟩
noncomputable def f11o3 : Array Oper := cO (cL (cL (cR (cR (cL (cR (cB Go.Proofs.Try.f11)))))))
def f11a3 : RAnn := ⟨[1, 2, 6, 11, 12], []⟩
noncomputable def f11o4 : Array Oper := cO (cL (cR (cR (cB Go.Proofs.Try.f11))))
def f11a4 : RAnn := ⟨[1, 2, 6, 11, 13, 14, 15], []⟩
def f11c : Code := (.seq (.region 0 f11o0 false) (.seq (.seq (.region 1 f11o1 false) (.seq (.region 2 f11o2 false) (.cond (.tmp 11) (.seq (.region 3 f11o3 false) .ret) .skip))) (.seq (.region 4 f11o4 false) .ret)))
def f11n : List (Nat × RAnn) := [(0, f11a0), (1, f11a1), (2, f11a2), (3, f11a3), (4, f11a4)]
noncomputable def f78o0 : Array Oper := cO (cL (cB Go.Proofs.Try.f78))
def f78a0 : RAnn := ⟨[4], []⟩
noncomputable def f78o1 : Array Oper := cO (cL (cL (cR (cB Go.Proofs.Try.f78))))
def f78a1 : RAnn := ⟨[6], []⟩
noncomputable def f78o2 : Array Oper := cO (cL (cL (cL (cR (cL (cR (cB Go.Proofs.Try.f78)))))))
def f78a2 : RAnn := ⟨[], []⟩
noncomputable def f78o3 : Array Oper := cO (cL (cL (cL (cR (cR (cL (cL (cR (cL (cR (cB Go.Proofs.Try.f78)))))))))))
def f78a3 : RAnn := ⟨[9, 10], []⟩
noncomputable def f78o4 : Array Oper := cO (cL (cR (cL (cL (cR (cR (cL (cL (cR (cL (cR (cB Go.Proofs.Try.f78))))))))))))
def f78a4 : RAnn := ⟨[11, 12, 13, 14, 15], []⟩
noncomputable def f78o5 : Array Oper := cO (cL (cL (cR (cR (cL (cL (cR (cR (cL (cL (cR (cL (cR (cB Go.Proofs.Try.f78))))))))))))))
def f78a5 : RAnn := ⟨[0, 1, 5, 7, 8, 16, 17], []⟩
noncomputable def f78o6 : Array Oper := cO (cR (cR (cR (cL (cL (cR (cL (cR (cB Go.Proofs.Try.f78)))))))))
def f78a6 : RAnn := ⟨[5, 16, 18], []⟩
noncomputable def f78o7 : Array Oper := cO (cL (cR (cR (cB Go.Proofs.Try.f78))))
def f78a7 : RAnn := ⟨[0, 1, 7, 8, 9], []⟩
def f78b0 : Code := (.seq (.region 2 f78o2 false) (.seq (.cond (.tmp 9) .skip (.exit 0)) (.seq (.block 1 (.seq (.region 3 f78o3 false) (.seq (.region 4 f78o4 false) (.cond (.tmp 16) (.seq (.region 5 f78o5 false) .ret) .skip)))) (.region 6 f78o6 false))))
def f78c : Code := (.seq (.region 0 f78o0 false) (.seq (.seq (.region 1 f78o1 false) (.block 0 (.loop f78b0))) (.seq (.region 7 f78o7 false) .ret)))
def f78n : List (Nat × RAnn) := [(0, f78a0), (1, f78a1), (2, f78a2), (3, f78a3), (4, f78a4), (5, f78a5), (6, f78a6), (7, f78a7)]
noncomputable def f65o0 : Array Oper := cO (cL (cB Go.Proofs.Try.f65))
def f65a0 : RAnn := ⟨[4], []⟩
noncomputable def f65o1 : Array Oper := cO (cL (cR (cB Go.Proofs.Try.f65)))
def f65a1 : RAnn := ⟨[0, 1, 5, 6, 7, 8], []⟩
def f65c : Code := (.seq (.region 0 f65o0 false) (.seq (.region 1 f65o1 false) .ret))
def f65n : List (Nat × RAnn) := [(0, f65a0), (1, f65a1)]
noncomputable def f69o0 : Array Oper := cO (cL (cB Go.Proofs.Try.f69))
def f69a0 : RAnn := ⟨[3], []⟩
noncomputable def f69o1 : Array Oper := cO (cL (cR (cB Go.Proofs.Try.f69)))
def f69a1 : RAnn := ⟨[0, 1, 4, 5, 6, 7, 8, 9, 10, 11, 12, 13], []⟩
def f69c : Code := (.seq (.region 0 f69o0 false) (.seq (.region 1 f69o1 false) .ret))
def f69n : List (Nat × RAnn) := [(0, f69a0), (1, f69a1)]
noncomputable def f42o0 : Array Oper := cO (cL (cB Go.Proofs.Try.f42))
def f42a0 : RAnn := ⟨[0, 4], []⟩
noncomputable def f42o1 : Array Oper := cO (cL (cR (cB Go.Proofs.Try.f42)))
def f42a1 : RAnn := ⟨[1, 2, 5, 6, 7, 8, 9, 10, 11, 12, 13, 14, 15], []⟩
def f42c : Code := (.seq (.region 0 f42o0 false) (.seq (.region 1 f42o1 false) .ret))
def f42n : List (Nat × RAnn) := [(0, f42a0), (1, f42a1)]
noncomputable def f38o0 : Array Oper := cO (cL (cB Go.Proofs.Try.f38))
def f38a0 : RAnn := ⟨[0, 4], []⟩
noncomputable def f38o1 : Array Oper := cO (cL (cL (cL (cR (cB Go.Proofs.Try.f38)))))
def f38a1 : RAnn := ⟨[6, 7, 8], []⟩
noncomputable def f38o2 : Array Oper := cO (cL (cL (cR (cL (cL (cR (cB Go.Proofs.Try.f38)))))))
def f38a2 : RAnn := ⟨[1, 2, 5], []⟩
noncomputable def f38o3 : Array Oper := cO (cL (cR (cR (cL (cL (cR (cB Go.Proofs.Try.f38)))))))
def f38a3 : RAnn := ⟨[1, 2, 5, 10, 11, 12, 13], []⟩
noncomputable def f38o4 : Array Oper := cO (cL (cL (cR (cR (cR (cL (cL (cR (cB Go.Proofs.Try.f38)))))))))
def f38a4 : RAnn := ⟨[9], []⟩
noncomputable def f38o5 : Array Oper := cO (cL (cR (cR (cB Go.Proofs.Try.f38))))
def f38a5 : RAnn := ⟨[9], []⟩
def f38c : Code := (.seq (.region 0 f38o0 false) (.seq (.block 0 (.seq (.region 1 f38o1 false) (.cond (.tmp 5) (.seq (.region 2 f38o2 false) .ret) (.seq (.region 3 f38o3 false) (.cond (.tmp 9) (.seq (.region 4 f38o4 false) .ret) .skip))))) (.seq (.region 5 f38o5 false) .ret)))
def f38n : List (Nat × RAnn) := [(0, f38a0), (1, f38a1), (2, f38a2), (3, f38a3), (4, f38a4), (5, f38a5)]
noncomputable def f14o0 : Array Oper := cO (cL (cB Go.Proofs.Try.f14))
def f14a0 : RAnn := ⟨[0, 4, 5], []⟩
noncomputable def f14o1 : Array Oper := cO (cL (cL (cR (cB Go.Proofs.Try.f14))))
def f14a1 : RAnn := ⟨[13, 14, 15], []⟩
noncomputable def f14o2 : Array Oper := cO (cL (cR (cL (cR (cB Go.Proofs.Try.f14)))))
def f14a2 : RAnn := ⟨[16], []⟩
noncomputable def f14o3 : Array Oper := cO (cL (cL (cR (cR (cL (cR (cB Go.Proofs.Try.f14)))))))
def f14a3 : RAnn := ⟨[1, 2, 6, 17, 18], []⟩
noncomputable def f14o4 : Array Oper := cO (cL (cR (cR (cB Go.Proofs.Try.f14))))
def f14a4 : RAnn := ⟨[6, 8, 17, 19, 20, 21, 22, 23], []⟩
noncomputable def f14o5 : Array Oper := cO (cL (cR (cR (cR (cB Go.Proofs.Try.f14)))))
def f14a5 : RAnn := ⟨[7, 24], [(1, { site := true })]⟩
noncomputable def f14o6 : Array Oper := cO (cL (cL (cR (cR (cR (cR (cB Go.Proofs.Try.f14)))))))
def f14a6 : RAnn := ⟨[2, 26], []⟩
noncomputable def f14o7 : Array Oper := cO (cL (cL (cL (cR (cL (cR (cR (cR (cR (cB Go.Proofs.Try.f14))))))))))
def f14a7 : RAnn := ⟨[], []⟩
noncomputable def f14o8 : Array Oper := cO (cL (cL (cL (cR (cR (cL (cL (cR (cL (cR (cR (cR (cR (cB Go.Proofs.Try.f14))))))))))))))
def f14a8 : RAnn := ⟨[30, 31, 32], []⟩
noncomputable def f14o9 : Array Oper := cO (cL (cL (cR (cL (cL (cR (cR (cL (cL (cR (cL (cR (cR (cR (cR (cB Go.Proofs.Try.f14))))))))))))))))
def f14a9 : RAnn := ⟨[33, 34], []⟩
noncomputable def f14o10 : Array Oper := cO (cL (cR (cR (cL (cL (cR (cR (cL (cL (cR (cL (cR (cR (cR (cR (cB Go.Proofs.Try.f14))))))))))))))))
def f14a10 : RAnn := ⟨[35, 36, 37, 38, 39, 40, 41, 42, 43, 44, 45, 46, 47, 48], []⟩
noncomputable def f14o11 : Array Oper := cO (cL (cL (cL (cL (cL (cR (cR (cR (cL (cL (cR (cR (cL (cL (cR (cL (cR (cR (cR (cR (cB Go.Proofs.Try.f14)))))))))))))))))))))
def f14a11 : RAnn := ⟨[49, 50, 51, 52, 53, 54, 55, 56, 57, 58, 59, 60], []⟩
noncomputable def f14o12 : Array Oper := cO (cL (cR (cL (cL (cL (cR (cR (cR (cL (cL (cR (cR (cL (cL (cR (cL (cR (cR (cR (cR (cB Go.Proofs.Try.f14)))))))))))))))))))))
def f14a12 : RAnn := ⟨[61, 62, 63, 64, 65, 66], []⟩
noncomputable def f14o13 : Array Oper := cO (cR (cR (cR (cR (cL (cL (cR (cR (cL (cL (cR (cL (cR (cR (cR (cR (cB Go.Proofs.Try.f14)))))))))))))))))
def f14a13 : RAnn := ⟨[11, 12, 61, 67, 68, 69, 70, 71], []⟩
noncomputable def f14o14 : Array Oper := cO (cR (cR (cR (cL (cL (cR (cL (cR (cR (cR (cR (cB Go.Proofs.Try.f14))))))))))))
def f14a14 : RAnn := ⟨[11, 35, 72], []⟩
noncomputable def f14o15 : Array Oper := cO (cL (cR (cR (cR (cR (cR (cB Go.Proofs.Try.f14)))))))
def f14a15 : RAnn := ⟨[1, 9, 25, 27, 28, 29, 30, 73], [(1, { close := true })]⟩
def f14b0 : Code := (.seq (.seq (.region 11 f14o11 true) (.cond (.tmp 61) .skip (.exit 2))) (.block 3 (.region 12 f14o12 false)))
def f14b1 : Code := (.seq (.region 7 f14o7 false) (.seq (.cond (.tmp 30) .skip (.exit 0)) (.seq (.block 1 (.seq (.region 8 f14o8 false) (.seq (.seq (.region 9 f14o9 false) (.cond (.tmp 35) (.exit 1) .skip)) (.seq (.region 10 f14o10 true) (.seq (.block 2 (.loop f14b0)) (.region 13 f14o13 false)))))) (.region 14 f14o14 false))))
def f14c : Code := (.seq (.region 0 f14o0 false) (.seq (.seq (.region 1 f14o1 false) (.seq (.region 2 f14o2 false) (.cond (.tmp 17) (.seq (.region 3 f14o3 false) .ret) .skip))) (.seq (.region 4 f14o4 false) (.seq (.region 5 f14o5 false) (.seq (.seq (.region 6 f14o6 false) (.block 0 (.loop f14b1))) (.seq (.region 15 f14o15 false) .ret))))))
def f14n : List (Nat × RAnn) := [(0, f14a0), (1, f14a1), (2, f14a2), (3, f14a3), (4, f14a4), (5, f14a5), (6, f14a6), (7, f14a7), (8, f14a8), (9, f14a9), (10, f14a10), (11, f14a11), (12, f14a12), (13, f14a13), (14, f14a14), (15, f14a15)]
noncomputable def f13o0 : Array Oper := cO (cL (cB Go.Proofs.Try.f13))
def f13a0 : RAnn := ⟨[4], []⟩
noncomputable def f13o1 : Array Oper := cO (cL (cL (cR (cB Go.Proofs.Try.f13))))
def f13a1 : RAnn := ⟨[6, 7, 8, 9], []⟩
noncomputable def f13o2 : Array Oper := cO (cL (cL (cR (cL (cR (cB Go.Proofs.Try.f13))))))
def f13a2 : RAnn := ⟨[0, 1, 10], []⟩
noncomputable def f13o3 : Array Oper := cO (cL (cL (cR (cR (cB Go.Proofs.Try.f13)))))
def f13a3 : RAnn := ⟨[10], []⟩
noncomputable def f13o4 : Array Oper := cO (cL (cL (cL (cL (cR (cL (cR (cR (cB Go.Proofs.Try.f13)))))))))
def f13a4 : RAnn := ⟨[11, 12, 13], []⟩
noncomputable def f13o5 : Array Oper := cO (cR (cR (cL (cL (cR (cL (cR (cR (cB Go.Proofs.Try.f13)))))))))
def f13a5 : RAnn := ⟨[15, 16, 25], []⟩
noncomputable def f13o6 : Array Oper := cO (cL (cL (cL (cR (cL (cL (cR (cL (cR (cR (cB Go.Proofs.Try.f13)))))))))))
def f13a6 : RAnn := ⟨[14, 17, 18, 19, 20, 21, 22, 23, 24], []⟩
noncomputable def f13o7 : Array Oper := cO (cL (cL (cR (cL (cL (cR (cL (cL (cR (cL (cR (cR (cB Go.Proofs.Try.f13)))))))))))))
def f13a7 : RAnn := ⟨[0, 1, 5, 25], []⟩
noncomputable def f13o8 : Array Oper := cO (cL (cR (cR (cR (cB Go.Proofs.Try.f13)))))
def f13a8 : RAnn := ⟨[0, 1, 5, 14], []⟩
def f13b0 : Code := (.seq (.seq (.region 4 f13o4 false) (.cond (.tmp 14) .skip (.exit 0))) (.seq (.block 1 (.seq (.region 6 f13o6 true) (.cond (.tmp 25) (.seq (.region 7 f13o7 false) .ret) .skip))) (.region 5 f13o5 false)))
def f13c : Code := (.seq (.region 0 f13o0 false) (.seq (.seq (.region 1 f13o1 false) (.cond (.tmp 10) (.seq (.region 2 f13o2 false) .ret) .skip)) (.seq (.seq (.region 3 f13o3 false) (.block 0 (.loop f13b0))) (.seq (.region 8 f13o8 false) .ret))))
def f13n : List (Nat × RAnn) := [(0, f13a0), (1, f13a1), (2, f13a2), (3, f13a3), (4, f13a4), (5, f13a5), (6, f13a6), (7, f13a7), (8, f13a8)]
noncomputable def f10o0 : Array Oper := cO (cL (cB Go.Proofs.Try.f10))
def f10a0 : RAnn := ⟨[0], []⟩
noncomputable def f10o1 : Array Oper := cO (cL (cR (cB Go.Proofs.Try.f10)))
def f10a1 : RAnn := ⟨[6, 7, 8, 9, 10], []⟩
noncomputable def f10o2 : Array Oper := cO (cL (cR (cR (cB Go.Proofs.Try.f10))))
def f10a2 : RAnn := ⟨[11, 12, 13, 14, 15, 16], []⟩
noncomputable def f10o3 : Array Oper := cO (cL (cR (cR (cR (cB Go.Proofs.Try.f10)))))
def f10a3 : RAnn := ⟨[1, 17, 18, 19, 20, 21, 22], []⟩
noncomputable def f10o4 : Array Oper := cO (cL (cR (cR (cR (cR (cB Go.Proofs.Try.f10))))))
def f10a4 : RAnn := ⟨[2, 3, 4, 5, 23, 24, 25, 26, 27, 28, 29, 30, 31, 32, 33, 34, 35, 36, 37, 38, 39, 40, 41, 42, 43, 44], []⟩
def f10c : Code := (.seq (.region 0 f10o0 false) (.seq (.region 1 f10o1 false) (.seq (.region 2 f10o2 false) (.seq (.region 3 f10o3 false) (.seq (.region 4 f10o4 false) .ret)))))
def f10n : List (Nat × RAnn) := [(0, f10a0), (1, f10a1), (2, f10a2), (3, f10a3), (4, f10a4)]
noncomputable def f28o0 : Array Oper := cO (cL (cB Go.Proofs.Try.f28))
def f28a0 : RAnn := ⟨[0, 2, 3, 4], []⟩
noncomputable def f28o1 : Array Oper := cO (cL (cL (cR (cB Go.Proofs.Try.f28))))
def f28a1 : RAnn := ⟨[5, 6], []⟩
noncomputable def f28o2 : Array Oper := cO (cL (cL (cR (cL (cR (cB Go.Proofs.Try.f28))))))
def f28a2 : RAnn := ⟨[1, 7], []⟩
noncomputable def f28o3 : Array Oper := cO (cL (cR (cR (cB Go.Proofs.Try.f28))))
def f28a3 : RAnn := ⟨[1, 7, 8, 9, 10, 11, 12], []⟩
noncomputable def f28o4 : Array Oper := cO (cL (cR (cR (cR (cB Go.Proofs.Try.f28)))))
def f28a4 : RAnn := ⟨[13, 14], []⟩
def f28c : Code := (.seq (.region 0 f28o0 false) (.seq (.seq (.region 1 f28o1 false) (.cond (.tmp 7) (.seq (.region 2 f28o2 false) .ret) .skip)) (.seq (.region 3 f28o3 false) (.seq (.region 4 f28o4 false) .ret))))
def f28n : List (Nat × RAnn) := [(0, f28a0), (1, f28a1), (2, f28a2), (3, f28a3), (4, f28a4)]
noncomputable def f22o0 : Array Oper := cO (cL (cB Go.Proofs.Try.f22))
def f22a0 : RAnn := ⟨[0, 2, 3], []⟩
noncomputable def f22o1 : Array Oper := cO (cL (cL (cR (cB Go.Proofs.Try.f22))))
def f22a1 : RAnn := ⟨[6, 7], []⟩
noncomputable def f22o2 : Array Oper := cO (cL (cL (cR (cL (cR (cB Go.Proofs.Try.f22))))))
def f22a2 : RAnn := ⟨[1, 8], []⟩
noncomputable def f22o3 : Array Oper := cO (cL (cR (cR (cB Go.Proofs.Try.f22))))
def f22a3 : RAnn := ⟨[4, 8, 9, 10, 11, 12, 13], []⟩
noncomputable def f22o4 : Array Oper := cO (cL (cR (cR (cR (cB Go.Proofs.Try.f22)))))
def f22a4 : RAnn := ⟨[1, 5, 14, 15, 16, 17], []⟩
def f22c : Code := (.seq (.region 0 f22o0 false) (.seq (.seq (.region 1 f22o1 false) (.cond (.tmp 8) (.seq (.region 2 f22o2 false) .ret) .skip)) (.seq (.region 3 f22o3 false) (.seq (.region 4 f22o4 true) .ret))))
def f22n : List (Nat × RAnn) := [(0, f22a0), (1, f22a1), (2, f22a2), (3, f22a3), (4, f22a4)]
noncomputable def f70o0 : Array Oper := cO (cL (cB Go.Proofs.Try.f70))
def f70a0 : RAnn := ⟨[0, 3], []⟩
noncomputable def f70o1 : Array Oper := cO (cL (cR (cB Go.Proofs.Try.f70)))
def f70a1 : RAnn := ⟨[1, 2, 4, 5, 6, 7], []⟩
def f70c : Code := (.seq (.region 0 f70o0 false) (.seq (.region 1 f70o1 false) .ret))
def f70n : List (Nat × RAnn) := [(0, f70a0), (1, f70a1)]
noncomputable def f47o0 : Array Oper := cO (cL (cB Go.Proofs.Try.f47))
def f47a0 : RAnn := ⟨[0, 1, 4], []⟩
noncomputable def f47o1 : Array Oper := cO (cL (cR (cB Go.Proofs.Try.f47)))
def f47a1 : RAnn := ⟨[2, 3, 5, 6, 7, 8], []⟩
def f47c : Code := (.seq (.region 0 f47o0 false) (.seq (.region 1 f47o1 false) .ret))
def f47n : List (Nat × RAnn) := [(0, f47a0), (1, f47a1)]
noncomputable def f20o0 : Array Oper := cO (cL (cB Go.Proofs.Try.f20))
def f20a0 : RAnn := ⟨[0, 8, 9], []⟩
noncomputable def f20o1 : Array Oper := cO (cL (cL (cR (cB Go.Proofs.Try.f20))))
def f20a1 : RAnn := ⟨[13, 14, 15], []⟩
noncomputable def f20o2 : Array Oper := cO (cL (cR (cL (cR (cB Go.Proofs.Try.f20)))))
def f20a2 : RAnn := ⟨[16], []⟩
noncomputable def f20o3 : Array Oper := cO (cL (cL (cR (cR (cL (cR (cB Go.Proofs.Try.f20)))))))
def f20a3 : RAnn := ⟨[1, 2, 3, 4, 10, 17, 18], []⟩
noncomputable def f20o4 : Array Oper := cO (cL (cL (cR (cR (cB Go.Proofs.Try.f20)))))
def f20a4 : RAnn := ⟨[10, 17, 19, 20], []⟩
noncomputable def f20o5 : Array Oper := cO (cL (cL (cR (cL (cR (cR (cB Go.Proofs.Try.f20)))))))
def f20a5 : RAnn := ⟨[1, 2, 3, 4, 21], []⟩
noncomputable def f20o6 : Array Oper := cO (cL (cR (cR (cR (cB Go.Proofs.Try.f20)))))
def f20a6 : RAnn := ⟨[2, 21, 22, 23, 24], []⟩
noncomputable def f20o7 : Array Oper := cO (cL (cL (cR (cR (cR (cR (cB Go.Proofs.Try.f20)))))))
def f20a7 : RAnn := ⟨[25], []⟩
noncomputable def f20o8 : Array Oper := cO (cL (cL (cR (cL (cR (cR (cR (cR (cB Go.Proofs.Try.f20)))))))))
def f20a8 : RAnn := ⟨[1, 3, 4, 11, 26], []⟩
noncomputable def f20o9 : Array Oper := cO (cL (cR (cR (cR (cR (cR (cB Go.Proofs.Try.f20)))))))
def f20a9 : RAnn := ⟨[4, 11, 26, 27, 28, 29, 30, 31], []⟩
noncomputable def f20o10 : Array Oper := cO (cL (cL (cR (cR (cR (cR (cR (cR (cB Go.Proofs.Try.f20)))))))))
def f20a10 : RAnn := ⟨[32, 33, 34, 35], []⟩
noncomputable def f20o11 : Array Oper := cO (cL (cL (cR (cL (cR (cR (cR (cR (cR (cR (cB Go.Proofs.Try.f20)))))))))))
def f20a11 : RAnn := ⟨[1, 3, 12, 36], []⟩
noncomputable def f20o12 : Array Oper := cO (cL (cR (cR (cR (cR (cR (cR (cR (cB Go.Proofs.Try.f20)))))))))
def f20a12 : RAnn := ⟨[1, 3, 12, 36, 37, 38, 39, 40, 41, 42, 43, 44, 45], []⟩
def f20c : Code := (.seq (.region 0 f20o0 false) (.seq (.seq (.region 1 f20o1 false) (.seq (.region 2 f20o2 false) (.cond (.tmp 17) (.seq (.region 3 f20o3 false) .ret) .skip))) (.seq (.seq (.region 4 f20o4 false) (.cond (.tmp 21) (.seq (.region 5 f20o5 false) .ret) .skip)) (.seq (.region 6 f20o6 false) (.seq (.seq (.region 7 f20o7 false) (.cond (.tmp 26) (.seq (.region 8 f20o8 false) .ret) .skip)) (.seq (.region 9 f20o9 false) (.seq (.seq (.region 10 f20o10 false) (.cond (.tmp 36) (.seq (.region 11 f20o11 false) .ret) .skip)) (.seq (.region 12 f20o12 true) .ret))))))))
def f20n : List (Nat × RAnn) := [(0, f20a0), (1, f20a1), (2, f20a2), (3, f20a3), (4, f20a4), (5, f20a5), (6, f20a6), (7, f20a7), (8, f20a8), (9, f20a9), (10, f20a10), (11, f20a11), (12, f20a12)]
noncomputable def f18o0 : Array Oper := cO (cL (cB Go.Proofs.Try.f18))
def f18a0 : RAnn := ⟨[0, 4, 5], []⟩
noncomputable def f18o1 : Array Oper := cO (cL (cL (cR (cB Go.Proofs.Try.f18))))
def f18a1 : RAnn := ⟨[7, 8], []⟩
noncomputable def f18o2 : Array Oper := cO (cL (cL (cR (cL (cR (cB Go.Proofs.Try.f18))))))
def f18a2 : RAnn := ⟨[1, 2, 9], []⟩
noncomputable def f18o3 : Array Oper := cO (cL (cR (cR (cB Go.Proofs.Try.f18))))
def f18a3 : RAnn := ⟨[1, 2, 9, 10, 11, 12], []⟩
noncomputable def f18o4 : Array Oper := cO (cL (cL (cR (cR (cR (cB Go.Proofs.Try.f18))))))
def f18a4 : RAnn := ⟨[13], []⟩
noncomputable def f18o5 : Array Oper := cO (cL (cL (cR (cL (cR (cR (cR (cB Go.Proofs.Try.f18))))))))
def f18a5 : RAnn := ⟨[6, 14], []⟩
noncomputable def f18o6 : Array Oper := cO (cL (cR (cR (cR (cR (cB Go.Proofs.Try.f18))))))
def f18a6 : RAnn := ⟨[6, 14, 15], []⟩
def f18c : Code := (.seq (.region 0 f18o0 false) (.seq (.seq (.region 1 f18o1 false) (.cond (.tmp 9) (.seq (.region 2 f18o2 false) .ret) .skip)) (.seq (.region 3 f18o3 false) (.seq (.seq (.region 4 f18o4 false) (.cond (.tmp 14) (.seq (.region 5 f18o5 false) .ret) .skip)) (.seq (.region 6 f18o6 false) .ret)))))
def f18n : List (Nat × RAnn) := [(0, f18a0), (1, f18a1), (2, f18a2), (3, f18a3), (4, f18a4), (5, f18a5), (6, f18a6)]
noncomputable def f61v12o0 : Array Oper := cO (cL (cB Go.Proofs.Try.f61))
def f61v12a0 : RAnn := ⟨[4], []⟩
noncomputable def f61v12o1 : Array Oper := cO (cL (cL (cR (cB Go.Proofs.Try.f61))))
def f61v12a1 : RAnn := ⟨[6], []⟩
noncomputable def f61v12o2 : Array Oper := cO (cL (cL (cL (cR (cL (cR (cB Go.Proofs.Try.f61)))))))
def f61v12a2 : RAnn := ⟨[], []⟩
noncomputable def f61v12o3 : Array Oper := cO (cL (cL (cL (cR (cR (cL (cL (cR (cL (cR (cB Go.Proofs.Try.f61)))))))))))
def f61v12a3 : RAnn := ⟨[9, 10], []⟩
noncomputable def f61v12o4 : Array Oper := cO (cL (cR (cL (cL (cR (cR (cL (cL (cR (cL (cR (cB Go.Proofs.Try.f61))))))))))))
def f61v12a4 : RAnn := ⟨[11, 12, 13, 14, 15], []⟩
noncomputable def f61v12o5 : Array Oper := cO (cL (cL (cR (cR (cL (cL (cR (cR (cL (cL (cR (cL (cR (cB Go.Proofs.Try.f61))))))))))))))
def f61v12a5 : RAnn := ⟨[0, 1, 5, 7, 8, 16, 17], []⟩
noncomputable def f61v12o6 : Array Oper := cO (cR (cR (cR (cL (cL (cR (cL (cR (cB Go.Proofs.Try.f61)))))))))
def f61v12a6 : RAnn := ⟨[5, 16, 18], []⟩
noncomputable def f61v12o7 : Array Oper := cO (cL (cR (cR (cB Go.Proofs.Try.f61))))
def f61v12a7 : RAnn := ⟨[0, 1, 7, 8, 9], []⟩
def f61v12b0 : Code := (.seq (.region 2 f61v12o2 false) (.seq (.cond (.tmp 9) .skip (.exit 0)) (.seq (.block 1 (.seq (.region 3 f61v12o3 false) (.seq (.region 4 f61v12o4 false) (.cond (.tmp 16) (.seq (.region 5 f61v12o5 false) .ret) .skip)))) (.region 6 f61v12o6 false))))
def f61v12c : Code := (.seq (.region 0 f61v12o0 false) (.seq (.seq (.region 1 f61v12o1 false) (.block 0 (.loop f61v12b0))) (.seq (.region 7 f61v12o7 false) .ret)))
def f61v12n : List (Nat × RAnn) := [(0, f61v12a0), (1, f61v12a1), (2, f61v12a2), (3, f61v12a3), (4, f61v12a4), (5, f61v12a5), (6, f61v12a6), (7, f61v12a7)]
noncomputable def f62o0 : Array Oper := cO (cL (cB Go.Proofs.Try.f62))
def f62a0 : RAnn := ⟨[0, 4], []⟩
noncomputable def f62o1 : Array Oper := cO (cL (cR (cB Go.Proofs.Try.f62)))
def f62a1 : RAnn := ⟨[1, 2, 3, 5, 6, 7, 8, 9, 10, 11, 12, 13, 14, 15], []⟩
def f62c : Code := (.seq (.region 0 f62o0 false) (.seq (.region 1 f62o1 false) .ret))
def f62n : List (Nat × RAnn) := [(0, f62a0), (1, f62a1)]
noncomputable def f30o0 : Array Oper := cO (cL (cB Go.Proofs.Try.f30))
def f30a0 : RAnn := ⟨[0, 1, 2, 6, 7], []⟩
noncomputable def f30o1 : Array Oper := cO (cL (cL (cL (cR (cB Go.Proofs.Try.f30)))))
def f30a1 : RAnn := ⟨[9, 10, 11], []⟩
noncomputable def f30o2 : Array Oper := cO (cL (cL (cR (cL (cL (cR (cB Go.Proofs.Try.f30)))))))
def f30a2 : RAnn := ⟨[3, 4, 5, 8], []⟩
noncomputable def f30o3 : Array Oper := cO (cL (cR (cR (cL (cL (cR (cB Go.Proofs.Try.f30)))))))
def f30a3 : RAnn := ⟨[8, 13, 14, 15, 16, 17], []⟩
noncomputable def f30o4 : Array Oper := cO (cL (cL (cR (cR (cR (cL (cL (cR (cB Go.Proofs.Try.f30)))))))))
def f30a4 : RAnn := ⟨[3, 4, 5, 12], []⟩
noncomputable def f30o5 : Array Oper := cO (cL (cR (cR (cB Go.Proofs.Try.f30))))
def f30a5 : RAnn := ⟨[3, 4, 5, 12, 18, 19, 20, 21], []⟩
def f30c : Code := (.seq (.region 0 f30o0 false) (.seq (.block 0 (.seq (.region 1 f30o1 false) (.cond (.tmp 8) (.seq (.region 2 f30o2 false) .ret) (.seq (.region 3 f30o3 false) (.cond (.tmp 12) (.seq (.region 4 f30o4 false) .ret) .skip))))) (.seq (.region 5 f30o5 false) .ret)))
def f30n : List (Nat × RAnn) := [(0, f30a0), (1, f30a1), (2, f30a2), (3, f30a3), (4, f30a4), (5, f30a5)]
noncomputable def f7o0 : Array Oper := cO (cL (cB Go.Proofs.Try.f7))
def f7a0 : RAnn := ⟨[0, 1, 4], []⟩
noncomputable def f7o1 : Array Oper := cO (cL (cL (cR (cB Go.Proofs.Try.f7))))
def f7a1 : RAnn := ⟨[21, 22, 23, 24, 25, 26, 27, 28, 29, 30, 31, 32, 33, 34, 35, 36, 37, 38], []⟩
noncomputable def f7o2 : Array Oper := cO (cL (cL (cR (cL (cR (cB Go.Proofs.Try.f7))))))
def f7a2 : RAnn := ⟨[2, 3, 39, 40], []⟩
noncomputable def f7o3 : Array Oper := cO (cL (cR (cR (cB Go.Proofs.Try.f7))))
def f7a3 : RAnn := ⟨[5, 39, 41, 42, 43, 44, 45, 46], []⟩
noncomputable def f7o4 : Array Oper := cO (cL (cL (cR (cR (cR (cB Go.Proofs.Try.f7))))))
def f7a4 : RAnn := ⟨[7, 47, 48, 49, 50, 51, 52, 53, 54, 55], []⟩
noncomputable def f7o5 : Array Oper := cO (cL (cL (cR (cL (cR (cR (cR (cB Go.Proofs.Try.f7))))))))
def f7a5 : RAnn := ⟨[2, 3, 6, 56], []⟩
noncomputable def f7o6 : Array Oper := cO (cL (cR (cR (cR (cR (cB Go.Proofs.Try.f7))))))
def f7a6 : RAnn := ⟨[56, 57, 58, 59, 60, 61], []⟩
noncomputable def f7o7 : Array Oper := cO (cL (cR (cR (cR (cR (cR (cB Go.Proofs.Try.f7)))))))
def f7a7 : RAnn := ⟨[6, 62, 63, 64, 65, 66, 67, 68], []⟩
noncomputable def f7o8 : Array Oper := cO (cL (cL (cR (cR (cR (cR (cR (cR (cB Go.Proofs.Try.f7)))))))))
def f7a8 : RAnn := ⟨[7, 10, 69, 70, 71, 72, 73, 74, 75, 76, 77, 78, 79, 80, 81, 82, 83, 84, 85, 86, 87], []⟩
noncomputable def f7o9 : Array Oper := cO (cL (cL (cR (cL (cR (cR (cR (cR (cR (cR (cB Go.Proofs.Try.f7)))))))))))
def f7a9 : RAnn := ⟨[2, 3, 8, 9, 88], []⟩
noncomputable def f7o10 : Array Oper := cO (cL (cR (cR (cR (cR (cR (cR (cR (cB Go.Proofs.Try.f7)))))))))
def f7a10 : RAnn := ⟨[88, 89, 90, 91, 92, 93, 94, 95, 96, 97, 98], []⟩
noncomputable def f7o11 : Array Oper := cO (cL (cR (cR (cR (cR (cR (cR (cR (cR (cB Go.Proofs.Try.f7))))))))))
def f7a11 : RAnn := ⟨[3, 99, 100, 101, 102, 103, 104, 105], []⟩
noncomputable def f7o12 : Array Oper := cO (cL (cR (cR (cR (cR (cR (cR (cR (cR (cR (cB Go.Proofs.Try.f7)))))))))))
def f7a12 : RAnn := ⟨[106, 107, 108], [(3, { site := true })]⟩
noncomputable def f7o13 : Array Oper := cO (cL (cL (cR (cR (cR (cR (cR (cR (cR (cR (cR (cR (cB Go.Proofs.Try.f7)))))))))))))
def f7a13 : RAnn := ⟨[], []⟩
noncomputable def f7o14 : Array Oper := cO (cL (cL (cL (cL (cR (cL (cR (cR (cR (cR (cR (cR (cR (cR (cR (cR (cB Go.Proofs.Try.f7)))))))))))))))))
def f7a14 : RAnn := ⟨[110, 111, 112], []⟩
noncomputable def f7o15 : Array Oper := cO (cR (cR (cL (cL (cR (cL (cR (cR (cR (cR (cR (cR (cR (cR (cR (cR (cB Go.Proofs.Try.f7)))))))))))))))))
def f7a15 : RAnn := ⟨[17, 114, 115, 138], []⟩
noncomputable def f7o16 : Array Oper := cO (cL (cL (cL (cL (cR (cL (cL (cR (cL (cR (cR (cR (cR (cR (cR (cR (cR (cR (cR (cB Go.Proofs.Try.f7))))))))))))))))))))
def f7a16 : RAnn := ⟨[113, 116, 117, 118, 119, 120, 121, 122, 123, 124, 125, 126, 127, 128, 129, 130, 131, 132, 133], []⟩
noncomputable def f7o17 : Array Oper := cO (cL (cL (cR (cL (cL (cL (cR (cL (cL (cR (cL (cR (cR (cR (cR (cR (cR (cR (cR (cR (cR (cB Go.Proofs.Try.f7))))))))))))))))))))))
def f7a17 : RAnn := ⟨[2, 8, 9, 11, 12, 13, 14, 15, 16, 109, 134], []⟩
noncomputable def f7o18 : Array Oper := cO (cL (cR (cL (cL (cR (cL (cL (cR (cL (cR (cR (cR (cR (cR (cR (cR (cR (cR (cR (cB Go.Proofs.Try.f7))))))))))))))))))))
def f7a18 : RAnn := ⟨[134], []⟩
noncomputable def f7o19 : Array Oper := cO (cL (cL (cL (cL (cR (cR (cL (cL (cR (cL (cL (cR (cL (cR (cR (cR (cR (cR (cR (cR (cR (cR (cR (cB Go.Proofs.Try.f7))))))))))))))))))))))))
def f7a19 : RAnn := ⟨[135, 136, 137], []⟩
noncomputable def f7o20 : Array Oper := cO (cR (cR (cL (cL (cR (cR (cL (cL (cR (cL (cL (cR (cL (cR (cR (cR (cR (cR (cR (cR (cR (cR (cR (cB Go.Proofs.Try.f7))))))))))))))))))))))))
def f7a20 : RAnn := ⟨[139, 140, 210], []⟩
noncomputable def f7o21 : Array Oper := cO (cL (cL (cL (cR (cL (cL (cR (cR (cL (cL (cR (cL (cL (cR (cL (cR (cR (cR (cR (cR (cR (cR (cR (cR (cR (cB Go.Proofs.Try.f7))))))))))))))))))))))))))
def f7a21 : RAnn := ⟨[138, 141, 142, 143, 144, 145, 146, 147], []⟩
noncomputable def f7o22 : Array Oper := cO (cL (cL (cR (cL (cL (cR (cL (cL (cR (cR (cL (cL (cR (cL (cL (cR (cL (cR (cR (cR (cR (cR (cR (cR (cR (cR (cR (cB Go.Proofs.Try.f7))))))))))))))))))))))))))))
def f7a22 : RAnn := ⟨[19, 148, 149, 150, 151, 152, 153, 154, 155, 156, 157, 158], []⟩
noncomputable def f7o23 : Array Oper := cO (cL (cL (cR (cL (cR (cL (cL (cR (cL (cL (cR (cR (cL (cL (cR (cL (cL (cR (cL (cR (cR (cR (cR (cR (cR (cR (cR (cR (cR (cB Go.Proofs.Try.f7))))))))))))))))))))))))))))))
def f7a23 : RAnn := ⟨[2, 8, 9, 11, 12, 13, 14, 15, 16, 17, 18, 109, 159], []⟩
noncomputable def f7o24 : Array Oper := cO (cL (cL (cR (cR (cL (cL (cR (cL (cL (cR (cR (cL (cL (cR (cL (cL (cR (cL (cR (cR (cR (cR (cR (cR (cR (cR (cR (cR (cB Go.Proofs.Try.f7)))))))))))))))))))))))))))))
def f7a24 : RAnn := ⟨[159, 160], []⟩
noncomputable def f7o25 : Array Oper := cO (cL (cR (cL (cR (cR (cL (cL (cR (cL (cL (cR (cR (cL (cL (cR (cL (cL (cR (cL (cR (cR (cR (cR (cR (cR (cR (cR (cR (cR (cB Go.Proofs.Try.f7))))))))))))))))))))))))))))))
def f7a25 : RAnn := ⟨[161, 162, 163, 164, 165, 166, 167], []⟩
noncomputable def f7o26 : Array Oper := cO (cL (cR (cR (cR (cL (cL (cR (cL (cL (cR (cR (cL (cL (cR (cL (cL (cR (cL (cR (cR (cR (cR (cR (cR (cR (cR (cR (cR (cB Go.Proofs.Try.f7)))))))))))))))))))))))))))))
def f7a26 : RAnn := ⟨[18, 161, 168, 169, 170, 171, 172, 173, 174, 175, 176, 177, 178, 179, 180, 181, 182, 183, 184, 185, 186, 187, 188, 189, 190, 191, 192, 193, 194, 195, 196, 197, 198, 199, 200, 201, 202, 203, 204, 205, 206, 207, 208, 209], []⟩
noncomputable def f7o27 : Array Oper := cO (cL (cL (cR (cR (cR (cR (cL (cL (cR (cL (cL (cR (cR (cL (cL (cR (cL (cL (cR (cL (cR (cR (cR (cR (cR (cR (cR (cR (cR (cR (cB Go.Proofs.Try.f7)))))))))))))))))))))))))))))))
def f7a27 : RAnn := ⟨[2, 8, 9, 11, 12, 13, 14, 15, 16, 17, 109, 210], []⟩
noncomputable def f7o28 : Array Oper := cO (cL (cL (cR (cR (cR (cR (cR (cR (cR (cR (cR (cR (cR (cB Go.Proofs.Try.f7))))))))))))))
def f7a28 : RAnn := ⟨[8, 9, 11, 12, 13, 14, 16, 113], []⟩
noncomputable def f7o29 : Array Oper := cO (cL (cL (cL (cL (cR (cL (cR (cR (cR (cR (cR (cR (cR (cR (cR (cR (cR (cB Go.Proofs.Try.f7))))))))))))))))))
def f7a29 : RAnn := ⟨[211, 212, 213], []⟩
noncomputable def f7o30 : Array Oper := cO (cR (cR (cL (cL (cR (cL (cR (cR (cR (cR (cR (cR (cR (cR (cR (cR (cR (cB Go.Proofs.Try.f7))))))))))))))))))
def f7a30 : RAnn := ⟨[215, 216, 227], []⟩
noncomputable def f7o31 : Array Oper := cO (cL (cL (cL (cR (cL (cL (cR (cL (cR (cR (cR (cR (cR (cR (cR (cR (cR (cR (cR (cB Go.Proofs.Try.f7))))))))))))))))))))
def f7a31 : RAnn := ⟨[214, 217, 218, 219, 220, 221, 222, 223, 224, 225, 226], []⟩
noncomputable def f7o32 : Array Oper := cO (cL (cL (cR (cL (cL (cR (cL (cL (cR (cL (cR (cR (cR (cR (cR (cR (cR (cR (cR (cR (cR (cB Go.Proofs.Try.f7))))))))))))))))))))))
def f7a32 : RAnn := ⟨[2, 15, 20, 109, 227], []⟩
noncomputable def f7o33 : Array Oper := cO (cL (cR (cR (cR (cR (cR (cR (cR (cR (cR (cR (cR (cR (cB Go.Proofs.Try.f7))))))))))))))
def f7a33 : RAnn := ⟨[2, 15, 20, 109, 214, 228], []⟩
def f7b0 : Code := (.seq (.seq (.region 19 f7o19 false) (.cond (.tmp 138) .skip (.exit 2))) (.seq (.block 3 (.seq (.region 21 f7o21 false) (.seq (.seq (.region 22 f7o22 false) (.cond (.tmp 159) (.seq (.region 23 f7o23 false) .ret) .skip)) (.seq (.seq (.region 24 f7o24 false) (.cond (.tmp 161) (.region 25 f7o25 false) .skip)) (.seq (.region 26 f7o26 true) (.cond (.tmp 210) (.seq (.region 27 f7o27 false) .ret) .skip)))))) (.region 20 f7o20 false)))
def f7b1 : Code := (.seq (.seq (.region 14 f7o14 false) (.cond (.tmp 113) .skip (.exit 0))) (.seq (.block 1 (.seq (.seq (.region 16 f7o16 true) (.cond (.tmp 134) (.seq (.region 17 f7o17 false) .ret) .skip)) (.seq (.region 18 f7o18 false) (.block 2 (.loop f7b0))))) (.region 15 f7o15 false)))
def f7b2 : Code := (.seq (.seq (.region 29 f7o29 false) (.cond (.tmp 214) .skip (.exit 4))) (.seq (.block 5 (.seq (.region 31 f7o31 true) (.cond (.tmp 227) (.seq (.region 32 f7o32 false) .ret) .skip))) (.region 30 f7o30 false)))
def f7c : Code := (.seq (.region 0 f7o0 false) (.seq (.seq (.region 1 f7o1 false) (.cond (.tmp 39) (.seq (.region 2 f7o2 false) .ret) .skip)) (.seq (.region 3 f7o3 false) (.seq (.seq (.region 4 f7o4 false) (.cond (.tmp 56) (.seq (.region 5 f7o5 false) .ret) .skip)) (.seq (.region 6 f7o6 false) (.seq (.region 7 f7o7 true) (.seq (.seq (.region 8 f7o8 false) (.cond (.tmp 88) (.seq (.region 9 f7o9 false) .ret) .skip)) (.seq (.region 10 f7o10 false) (.seq (.region 11 f7o11 false) (.seq (.region 12 f7o12 false) (.seq (.seq (.region 13 f7o13 false) (.block 0 (.loop f7b1))) (.seq (.seq (.region 28 f7o28 false) (.block 4 (.loop f7b2))) (.seq (.region 33 f7o33 false) .ret)))))))))))))
def f7n : List (Nat × RAnn) := [(0, f7a0), (1, f7a1), (2, f7a2), (3, f7a3), (4, f7a4), (5, f7a5), (6, f7a6), (7, f7a7), (8, f7a8), (9, f7a9), (10, f7a10), (11, f7a11), (12, f7a12), (13, f7a13), (14, f7a14), (15, f7a15), (16, f7a16), (17, f7a17), (18, f7a18), (19, f7a19), (20, f7a20), (21, f7a21), (22, f7a22), (23, f7a23), (24, f7a24), (25, f7a25), (26, f7a26), (27, f7a27), (28, f7a28), (29, f7a29), (30, f7a30), (31, f7a31), (32, f7a32), (33, f7a33)]
def ANNS : List (Nat × FAnn) := [(7, ⟨f7n, [], []⟩), (8, ⟨f8n, [], []⟩), (10, ⟨f10n, [], []⟩), (11, ⟨f11n, [], []⟩), (13, ⟨f13n, [], []⟩), (14, ⟨f14n, [], []⟩), (18, ⟨f18n, [], []⟩), (20, ⟨f20n, [], []⟩), (22, ⟨f22n, [], []⟩), (24, ⟨f24n, [], []⟩), (25, ⟨f25n, [], []⟩), (28, ⟨f28n, [], []⟩), (30, ⟨f30n, [], []⟩), (34, ⟨f34n, [], []⟩), (35, ⟨f35n, [], []⟩), (38, ⟨f38n, [], []⟩), (39, ⟨f39n, [], []⟩), (42, ⟨f42n, [], []⟩), (43, ⟨f43n, [], []⟩), (47, ⟨f47n, [], []⟩), (48, ⟨f48n, [], []⟩), (49, ⟨f49n, [], []⟩), (50, ⟨f50n, [], []⟩), (53, ⟨f53n, [], []⟩), (54, ⟨f54n, [], []⟩), (55, ⟨f55n, [], []⟩), (56, ⟨f56n, [], []⟩), (57, ⟨f57n, [], []⟩), (58, ⟨f58n, [], []⟩), (61, ⟨f61n, [], []⟩), (62, ⟨f62n, [], []⟩), (64, ⟨f64n, [], [(0, 2)]⟩), (65, ⟨f65v10n, [], []⟩), (66, ⟨f66n, [], []⟩), (69, ⟨f69n, [], []⟩), (70, ⟨f70n, [], []⟩), (71, ⟨f71n, [], []⟩), (72, ⟨f72n, [], []⟩), (73, ⟨f73n, [], []⟩), (74, ⟨f74n, [], []⟩), (75, ⟨f75n, [], []⟩), (76, ⟨f76n, [], []⟩), (77, ⟨f77n, [], []⟩), (78, ⟨f78v10n, [], []⟩)]
def anns : FuncId → FAnn := fun f => (look f ANNS).getD {}
def ext : ExtH := fun f args => bif Nat.beq f 68 then some (extStrRep args) else bif Nat.beq f 67 then some (extSlRep args) else bif Nat.beq f 64 && emptyArg args then some none else none
noncomputable abbrev EV (k : Nat) : CallH := evF prog anns ext k
noncomputable abbrev RE (k : Nat) (a : RAnn) (o : Array Oper) (d : Bool) (s : St) : Option St := regionE prog (EV k) a o d s
abbrev I (n : Int) : V := .int .i64 n
abbrev sMark (l : List T_api_Mark) : V := .sl 0 3 (List.map enc_T_api_Mark l)
abbrev sSlot (l : List T_api_Slot) : V := .sl 0 7 (List.map enc_T_api_Slot l)
abbrev sspan (l : List T_progenyref24_span) : V := .sl 0 3 (List.map enc_T_progenyref24_span l)
abbrev spart (l : List T_screen_part) : V := .sl 0 3 (List.map enc_T_screen_part l)
def law24_Large_fin : Bool → V × List V := fun r => ((V.bool r), [])
theorem f8r0 (k : Nat) (a0 : T_api_Form) : RE k f8a0 f8o0 false ⟨[(0, (enc_T_api_Form a0))], [], 45⟩ = some ⟨[(1, (V.ptr 1 0 0))], [(1, ⟨false, 4, [(enc_T_api_Form a0)]⟩)], 45⟩ :=
  rE rfl
theorem f8r1 (k : Nat) (a0 : T_api_Form) : RE k f8a1 f8o1 false ⟨[(1, (V.ptr 1 0 0))], [(1, ⟨false, 4, [(enc_T_api_Form a0)]⟩)], 45⟩ = ((bif (decide ((a0.fMarks.length : Int) > 20)) then (some (true)) else (some ((decide ((a0.fFields.length : Int) > 20)))))).map (fun (o : Bool) => (⟨[(1, (V.ptr 1 0 0)), (14, (V.bool o))], [(1, ⟨false, 4, [(enc_T_api_Form a0)]⟩)], 45⟩ : St)) := by
  refine rg ?_
  refine ra 2 2 ⟨[(1, (V.ptr 1 0 0)), (5, (V.ptr 1 0 2)), (6, (sMark (a0.fMarks)))], [(1, ⟨false, 4, [(enc_T_api_Form a0)]⟩)], 45⟩ rfl rfl rfl ?_
  refine Eq.trans (reg_pure (x := some ()) (w := fun _ => (I (a0.fMarks.length : Int))) rfl rfl rfl rfl (p_len (e := enc_T_api_Mark) rfl rfl rfl rfl rfl rfl Go.Proofs.Try.underlying22)) ?_
  refine Eq.trans some_bind ?_
  refine ba 2 5 ⟨[(1, (V.ptr 1 0 0)), (5, (V.ptr 1 0 2)), (6, (sMark (a0.fMarks))), (7, (I (a0.fMarks.length : Int))), (8, (V.bool (decide ((a0.fMarks.length : Int) > 20)))), (9, (V.bool (decide ((a0.fMarks.length : Int) > 20))))], [(1, ⟨false, 4, [(enc_T_api_Form a0)]⟩)], 45⟩ rfl rfl rfl ?_
  refine bifE (c := (decide ((a0.fMarks.length : Int) > 20))) (fun hc => ?_) fun hc => ?_
  · rw [hc]
    exact reg_end rfl
  · rw [hc]
    refine ra 2 7 ⟨[(1, (V.ptr 1 0 0)), (5, (V.ptr 1 0 2)), (6, (sMark (a0.fMarks))), (7, (I (a0.fMarks.length : Int))), (8, (V.bool false)), (9, (V.bool false)), (10, (V.ptr 1 0 3)), (11, (sSlot (a0.fFields)))], [(1, ⟨false, 4, [(enc_T_api_Form a0)]⟩)], 45⟩ rfl rfl rfl ?_
    refine Eq.trans (reg_pure (x := some ()) (w := fun _ => (I (a0.fFields.length : Int))) rfl rfl rfl rfl (p_len (e := enc_T_api_Slot) rfl rfl rfl rfl rfl rfl Go.Proofs.Try.underlying23)) ?_
    refine Eq.trans some_bind ?_
    exact bind_end rfl
theorem f8r2 (k : Nat) (a0 : T_api_Form) : RE k f8a2 f8o2 false ⟨[(1, (V.ptr 1 0 0)), (14, (V.bool true))], [(1, ⟨false, 4, [(enc_T_api_Form a0)]⟩)], 45⟩ = some ⟨[(2, (V.bool true))], [], 45⟩ :=
  rE rfl
theorem f8r3 (k : Nat) (a0 : T_api_Form) : RE k f8a3 f8o3 false ⟨[(1, (V.ptr 1 0 0)), (14, (V.bool false))], [(1, ⟨false, 4, [(enc_T_api_Form a0)]⟩)], 45⟩ = some ⟨[(1, (V.ptr 1 0 0)), (3, (I 0))], [(1, ⟨false, 4, [(enc_T_api_Form a0)]⟩)], 45⟩ :=
  rE rfl
theorem f8r4 (k : Nat) (a0 : T_api_Form) (x4 : Int) : RE k f8a4 f8o4 false ⟨[(1, (V.ptr 1 0 0)), (3, (I x4))], [(1, ⟨false, 4, [(enc_T_api_Form a0)]⟩)], 45⟩ = some ⟨[(1, (V.ptr 1 0 0)), (3, (I x4)), (19, (V.bool (decide (x4 < (a0.fMarks.length : Int)))))], [(1, ⟨false, 4, [(enc_T_api_Form a0)]⟩)], 45⟩ := by
  refine rg ?_
  refine ra 3 3 ⟨[(1, (V.ptr 1 0 0)), (3, (I x4)), (15, (I x4)), (16, (V.ptr 1 0 2)), (17, (sMark (a0.fMarks)))], [(1, ⟨false, 4, [(enc_T_api_Form a0)]⟩)], 45⟩ rfl rfl rfl ?_
  refine Eq.trans (reg_pure (x := some ()) (w := fun _ => (I (a0.fMarks.length : Int))) rfl rfl rfl rfl (p_len (e := enc_T_api_Mark) rfl rfl rfl rfl rfl rfl Go.Proofs.Try.underlying22)) ?_
  refine Eq.trans some_bind ?_
  exact bind_end rfl
theorem f8r6 (k : Nat) (a0 : T_api_Form) (x4 : Int) : RE k f8a6 f8o6 false ⟨[(1, (V.ptr 1 0 0)), (3, (I x4)), (19, (V.bool true))], [(1, ⟨false, 4, [(enc_T_api_Form a0)]⟩)], 45⟩ = (((idx a0.fMarks x4).bind fun v5 => (some ((decide ((v5.fText.length : Int) > 100)))))).map (fun (o : Bool) => (⟨[(1, (V.ptr 1 0 0)), (3, (I x4)), (29, (V.bool o))], [(1, ⟨false, 4, [(enc_T_api_Form a0)]⟩)], 45⟩ : St)) := by
  refine rg ?_
  refine ra 3 3 ⟨[(1, (V.ptr 1 0 0)), (3, (I x4)), (19, (V.bool true)), (22, (V.ptr 1 0 2)), (23, (sMark (a0.fMarks))), (24, (I x4))], [(1, ⟨false, 4, [(enc_T_api_Form a0)]⟩)], 45⟩ rfl rfl rfl ?_
  refine Eq.trans (reg_pure (x := (idx a0.fMarks x4)) (w := fun v5 => (V.pro (enc_T_api_Mark v5))) rfl rfl rfl rfl (p_index (e := enc_T_api_Mark) rfl rfl rfl Go.Proofs.Try.underlying22 rfl (by decide))) ?_
  refine bindE (fun v5 => ?_)
  exact bind_end rfl
theorem f8r7 (k : Nat) (a0 : T_api_Form) (x4 : Int) : RE k f8a7 f8o7 false ⟨[(1, (V.ptr 1 0 0)), (3, (I x4)), (29, (V.bool true))], [(1, ⟨false, 4, [(enc_T_api_Form a0)]⟩)], 45⟩ = some ⟨[(2, (V.bool true))], [], 45⟩ :=
  rE rfl
theorem f8r5 (k : Nat) (a0 : T_api_Form) (x4 : Int) : RE k f8a5 f8o5 false ⟨[(1, (V.ptr 1 0 0)), (3, (I x4)), (29, (V.bool false))], [(1, ⟨false, 4, [(enc_T_api_Form a0)]⟩)], 45⟩ = some ⟨[(1, (V.ptr 1 0 0)), (3, (I (Go.IntKind.wrap .i64 (x4 + 1))))], [(1, ⟨false, 4, [(enc_T_api_Form a0)]⟩)], 45⟩ :=
  rE rfl
theorem law24_Large_L1_ok (k : Nat) (a0 : T_api_Form)  (K0 : Int → Option Bool) (Kst : X × St → Option (V × List V)) (hK0 : ∀ (y0 : Int), Kst (X.exit 0, ⟨[(1, (V.ptr 1 0 0)), (3, (I y0)), (19, (V.bool false))], [(1, ⟨false, 4, [(enc_T_api_Form a0)]⟩)], 45⟩) = (K0 y0).map law24_Large_fin) (hret : ∀ s, Kst (X.ret, s) = endK prog 45 [(enc_T_api_Form a0)] [] [.tmp 2] (X.ret, s)) :
    ∀ (m : Nat) (x4 : Int), (iter (exec prog (EV k) f8n k f8b0) m ⟨[(1, (V.ptr 1 0 0)), (3, (I x4))], [(1, ⟨false, 4, [(enc_T_api_Form a0)]⟩)], 45⟩).bind Kst = (law24_Large_L1 a0 K0 m x4).map law24_Large_fin := by
  intro m
  induction m with
  | zero => intros; rfl
  | succ m ih =>
    intro x4
    unfold law24_Large_L1
    refine Eq.trans k_round ?_
    refine Eq.trans k_assoc ?_
    refine Eq.trans (k_region0 rfl (f8r4 k a0 x4)) ?_
    refine Eq.trans (k_cond (t := (decide (x4 < (a0.fMarks.length : Int)))) rfl rfl) ?_
    refine bifE2 (fun hc => ?_) fun hc => ?_
    · rw [hc]
      refine Eq.trans k_skip ?_
      refine Eq.trans (k_block rfl) ?_
      refine Eq.trans (k_region rfl (f8r6 k a0 x4)) ?_
      refine bindE (fun o6 => ?_)
      refine Eq.trans (k_lcond (t := o6) rfl rfl) ?_
      refine bifE2 (fun hc => ?_) fun hc => ?_
      · rw [hc]
        refine Eq.trans (k_region0 rfl (f8r7 k a0 x4)) ?_
        refine Eq.trans k_lret ?_
        refine Eq.trans blk_ret ?_
        refine Eq.trans loop_ret ?_
        refine Eq.trans (hret _) ?_
        rfl
      · rw [hc]
        refine Eq.trans k_lskip ?_
        refine Eq.trans blk_normal ?_
        refine Eq.trans (k_lregion0 rfl (f8r5 k a0 x4)) ?_
        refine Eq.trans loop_normal ?_
        exact ih (Go.IntKind.wrap .i64 (x4 + 1))
    · rw [hc]
      refine Eq.trans k_exit ?_
      refine Eq.trans loop_exit ?_
      exact hK0 x4
theorem f8r8 (k : Nat) (a0 : T_api_Form) (y7 : Int) : RE k f8a8 f8o8 false ⟨[(1, (V.ptr 1 0 0)), (3, (I y7)), (19, (V.bool false))], [(1, ⟨false, 4, [(enc_T_api_Form a0)]⟩)], 45⟩ = some ⟨[(1, (V.ptr 1 0 0)), (4, (I 0))], [(1, ⟨false, 4, [(enc_T_api_Form a0)]⟩)], 45⟩ :=
  rE rfl
theorem f8r9 (k : Nat) (a0 : T_api_Form) (x10 : Int) : RE k f8a9 f8o9 false ⟨[(1, (V.ptr 1 0 0)), (4, (I x10))], [(1, ⟨false, 4, [(enc_T_api_Form a0)]⟩)], 45⟩ = some ⟨[(1, (V.ptr 1 0 0)), (4, (I x10)), (34, (V.bool (decide (x10 < (a0.fFields.length : Int)))))], [(1, ⟨false, 4, [(enc_T_api_Form a0)]⟩)], 45⟩ := by
  refine rg ?_
  refine ra 3 3 ⟨[(1, (V.ptr 1 0 0)), (4, (I x10)), (30, (I x10)), (31, (V.ptr 1 0 3)), (32, (sSlot (a0.fFields)))], [(1, ⟨false, 4, [(enc_T_api_Form a0)]⟩)], 45⟩ rfl rfl rfl ?_
  refine Eq.trans (reg_pure (x := some ()) (w := fun _ => (I (a0.fFields.length : Int))) rfl rfl rfl rfl (p_len (e := enc_T_api_Slot) rfl rfl rfl rfl rfl rfl Go.Proofs.Try.underlying23)) ?_
  refine Eq.trans some_bind ?_
  exact bind_end rfl
theorem f8r11 (k : Nat) (a0 : T_api_Form) (x10 : Int) : RE k f8a11 f8o11 false ⟨[(1, (V.ptr 1 0 0)), (4, (I x10)), (34, (V.bool true))], [(1, ⟨false, 4, [(enc_T_api_Form a0)]⟩)], 45⟩ = (((idx a0.fFields x10).bind fun v11 => (some ((decide ((v11.fName.length : Int) > 100)))))).map (fun (o : Bool) => (⟨[(1, (V.ptr 1 0 0)), (4, (I x10)), (44, (V.bool o))], [(1, ⟨false, 4, [(enc_T_api_Form a0)]⟩)], 45⟩ : St)) := by
  refine rg ?_
  refine ra 3 3 ⟨[(1, (V.ptr 1 0 0)), (4, (I x10)), (34, (V.bool true)), (37, (V.ptr 1 0 3)), (38, (sSlot (a0.fFields))), (39, (I x10))], [(1, ⟨false, 4, [(enc_T_api_Form a0)]⟩)], 45⟩ rfl rfl rfl ?_
  refine Eq.trans (reg_pure (x := (idx a0.fFields x10)) (w := fun v11 => (V.pro (enc_T_api_Slot v11))) rfl rfl rfl rfl (p_index (e := enc_T_api_Slot) rfl rfl rfl Go.Proofs.Try.underlying23 rfl (by decide))) ?_
  refine bindE (fun v11 => ?_)
  exact bind_end rfl
theorem f8r12 (k : Nat) (a0 : T_api_Form) (x10 : Int) : RE k f8a12 f8o12 false ⟨[(1, (V.ptr 1 0 0)), (4, (I x10)), (44, (V.bool true))], [(1, ⟨false, 4, [(enc_T_api_Form a0)]⟩)], 45⟩ = some ⟨[(2, (V.bool true))], [], 45⟩ :=
  rE rfl
theorem f8r10 (k : Nat) (a0 : T_api_Form) (x10 : Int) : RE k f8a10 f8o10 false ⟨[(1, (V.ptr 1 0 0)), (4, (I x10)), (44, (V.bool false))], [(1, ⟨false, 4, [(enc_T_api_Form a0)]⟩)], 45⟩ = some ⟨[(1, (V.ptr 1 0 0)), (4, (I (Go.IntKind.wrap .i64 (x10 + 1))))], [(1, ⟨false, 4, [(enc_T_api_Form a0)]⟩)], 45⟩ :=
  rE rfl
theorem law24_Large_L2_ok (k : Nat) (a0 : T_api_Form)  (K0 : Int → Option Bool) (Kst : X × St → Option (V × List V)) (hK0 : ∀ (y0 : Int), Kst (X.exit 2, ⟨[(1, (V.ptr 1 0 0)), (4, (I y0)), (34, (V.bool false))], [(1, ⟨false, 4, [(enc_T_api_Form a0)]⟩)], 45⟩) = (K0 y0).map law24_Large_fin) (hret : ∀ s, Kst (X.ret, s) = endK prog 45 [(enc_T_api_Form a0)] [] [.tmp 2] (X.ret, s)) :
    ∀ (m : Nat) (x10 : Int), (iter (exec prog (EV k) f8n k f8b1) m ⟨[(1, (V.ptr 1 0 0)), (4, (I x10))], [(1, ⟨false, 4, [(enc_T_api_Form a0)]⟩)], 45⟩).bind Kst = (law24_Large_L2 a0 K0 m x10).map law24_Large_fin := by
  intro m
  induction m with
  | zero => intros; rfl
  | succ m ih =>
    intro x10
    unfold law24_Large_L2
    refine Eq.trans k_round ?_
    refine Eq.trans k_assoc ?_
    refine Eq.trans (k_region0 rfl (f8r9 k a0 x10)) ?_
    refine Eq.trans (k_cond (t := (decide (x10 < (a0.fFields.length : Int)))) rfl rfl) ?_
    refine bifE2 (fun hc => ?_) fun hc => ?_
    · rw [hc]
      refine Eq.trans k_skip ?_
      refine Eq.trans (k_block rfl) ?_
      refine Eq.trans (k_region rfl (f8r11 k a0 x10)) ?_
      refine bindE (fun o12 => ?_)
      refine Eq.trans (k_lcond (t := o12) rfl rfl) ?_
      refine bifE2 (fun hc => ?_) fun hc => ?_
      · rw [hc]
        refine Eq.trans (k_region0 rfl (f8r12 k a0 x10)) ?_
        refine Eq.trans k_lret ?_
        refine Eq.trans blk_ret ?_
        refine Eq.trans loop_ret ?_
        refine Eq.trans (hret _) ?_
        rfl
      · rw [hc]
        refine Eq.trans k_lskip ?_
        refine Eq.trans blk_normal ?_
        refine Eq.trans (k_lregion0 rfl (f8r10 k a0 x10)) ?_
        refine Eq.trans loop_normal ?_
        exact ih (Go.IntKind.wrap .i64 (x10 + 1))
    · rw [hc]
      refine Eq.trans k_exit ?_
      refine Eq.trans loop_exit ?_
      exact hK0 x10
theorem f8r13 (k : Nat) (a0 : T_api_Form) (y13 : Int) : RE k f8a13 f8o13 false ⟨[(1, (V.ptr 1 0 0)), (4, (I y13)), (34, (V.bool false))], [(1, ⟨false, 4, [(enc_T_api_Form a0)]⟩)], 45⟩ = some ⟨[(2, (V.bool false))], [], 45⟩ :=
  rE rfl
theorem law24_Large_ok (k : Nat) (a0 : T_api_Form) : EV k 8 [(enc_T_api_Form a0)] = (law24_Large k a0).map law24_Large_fin := by
  cases k with
  | zero => rfl
  | succ k =>
    unfold law24_Large
    refine Eq.trans (evF_succ (c := f8c) (N := 45) (regs := f8n) rfl Go.Proofs.Try.func8 rfl (by decide) rfl rfl rfl) ?_
    refine Eq.trans (k_region0 rfl (f8r0 k a0)) ?_
    refine Eq.trans k_assoc ?_
    refine Eq.trans (k_region rfl (f8r1 k a0)) ?_
    refine bindE (fun o1 => ?_)
    refine Eq.trans (k_cond (t := o1) rfl rfl) ?_
    refine bifE2 (fun hc => ?_) fun hc => ?_
    · rw [hc]
      refine Eq.trans k_assoc ?_
      refine Eq.trans (k_region0 rfl (f8r2 k a0)) ?_
      refine Eq.trans k_ret ?_
      rfl
    · rw [hc]
      refine Eq.trans k_skip ?_
      refine Eq.trans k_assoc ?_
      refine Eq.trans (k_region0 rfl (f8r3 k a0)) ?_
      refine Eq.trans (k_block rfl) ?_
      refine Eq.trans k_loop ?_
      refine law24_Large_L1_ok k a0 _ _ ?h_law24_Large_L1_0 ?hr_law24_Large_L1 k 0
      · intro y7
        refine Eq.trans blk_exit ?_
        refine Eq.trans k_assoc ?_
        refine Eq.trans (k_region0 rfl (f8r8 k a0 y7)) ?_
        refine Eq.trans (k_block rfl) ?_
        refine Eq.trans k_loop ?_
        refine law24_Large_L2_ok k a0 _ _ ?h_law24_Large_L2_0 ?hr_law24_Large_L2 k 0
        · intro y13
          refine Eq.trans blk_exit ?_
          refine Eq.trans (k_region0 rfl (f8r13 k a0 y13)) ?_
          refine Eq.trans k_lret ?_
          rfl
        · intro s; exact rfl
      · intro s; exact rfl
def ref24_IsText_fin : Bool → V × List V := fun r => ((V.bool r), [])
theorem f50r0 (k : Nat) (a0 : Str) : RE k f50a0 f50o0 false ⟨[(0, (V.str a0))], [], 20⟩ = some ⟨[(0, (V.str a0))], [], 20⟩ :=
  rE rfl
theorem f50r1 (k : Nat) (a0 : Str) : RE k f50a1 f50o1 false ⟨[(0, (V.str a0))], [], 20⟩ = some ⟨[(0, (V.str a0)), (3, (I 0))], [], 20⟩ :=
  rE rfl
theorem f50r2 (k : Nat) (a0 : Str) (x4 : Int) : RE k f50a2 f50o2 false ⟨[(0, (V.str a0)), (3, (I x4))], [], 20⟩ = some ⟨[(0, (V.str a0)), (3, (I x4)), (7, (V.bool (decide (x4 < (a0.length : Int)))))], [], 20⟩ :=
  rE rfl
theorem f50r4 (k : Nat) (a0 : Str) (x4 : Int) : RE k f50a4 f50o4 false ⟨[(0, (V.str a0)), (3, (I x4)), (7, (V.bool true))], [], 20⟩ = (((idxS a0 x4).bind fun v5 => (bif (decide (v5 < 32)) then (some (true)) else ((idxS a0 x4).bind fun v6 => (some ((decide (v6 > 126)))))))).map (fun (o : Bool) => (⟨[(0, (V.str a0)), (3, (I x4)), (19, (V.bool o))], [], 20⟩ : St)) := by
  refine rg ?_
  refine ra 2 2 ⟨[(0, (V.str a0)), (3, (I x4)), (7, (V.bool true)), (10, (V.str a0)), (11, (I x4))], [], 20⟩ rfl rfl rfl ?_
  refine Eq.trans (reg_pure (x := (idxS a0 x4)) (w := fun v5 => (V.int .u8 v5)) rfl rfl rfl rfl (p_indexS rfl rfl rfl Go.Proofs.Try.underlying9)) ?_
  refine bindE (fun v5 => ?_)
  refine ba 2 5 ⟨[(0, (V.str a0)), (3, (I x4)), (7, (V.bool true)), (10, (V.str a0)), (11, (I x4)), (12, (V.int .u8 v5)), (13, (V.bool (decide (v5 < 32)))), (14, (V.bool (decide (v5 < 32))))], [], 20⟩ rfl rfl rfl ?_
  refine bifE (c := (decide (v5 < 32))) (fun hc => ?_) fun hc => ?_
  · rw [hc]
    exact reg_end rfl
  · rw [hc]
    refine ra 2 7 ⟨[(0, (V.str a0)), (3, (I x4)), (7, (V.bool true)), (10, (V.str a0)), (11, (I x4)), (12, (V.int .u8 v5)), (13, (V.bool false)), (14, (V.bool false)), (15, (V.str a0)), (16, (I x4))], [], 20⟩ rfl rfl rfl ?_
    refine Eq.trans (reg_pure (x := (idxS a0 x4)) (w := fun v6 => (V.int .u8 v6)) rfl rfl rfl rfl (p_indexS rfl rfl rfl Go.Proofs.Try.underlying9)) ?_
    refine bindE (fun v6 => ?_)
    exact bind_end rfl
theorem f50r5 (k : Nat) (a0 : Str) (x4 : Int) : RE k f50a5 f50o5 false ⟨[(0, (V.str a0)), (3, (I x4)), (19, (V.bool true))], [], 20⟩ = some ⟨[(2, (V.bool false))], [], 20⟩ :=
  rE rfl
theorem f50r3 (k : Nat) (a0 : Str) (x4 : Int) : RE k f50a3 f50o3 false ⟨[(0, (V.str a0)), (3, (I x4)), (19, (V.bool false))], [], 20⟩ = some ⟨[(0, (V.str a0)), (3, (I (Go.IntKind.wrap .i64 (x4 + 1))))], [], 20⟩ :=
  rE rfl
theorem ref24_IsText_L1_ok (k : Nat) (a0 : Str)  (K0 : Int → Option Bool) (Kst : X × St → Option (V × List V)) (hK0 : ∀ (y0 : Int), Kst (X.exit 0, ⟨[(0, (V.str a0)), (3, (I y0)), (7, (V.bool false))], [], 20⟩) = (K0 y0).map ref24_IsText_fin) (hret : ∀ s, Kst (X.ret, s) = endK prog 20 [(V.str a0)] [] [.tmp 2] (X.ret, s)) :
    ∀ (m : Nat) (x4 : Int), (iter (exec prog (EV k) f50n k f50b0) m ⟨[(0, (V.str a0)), (3, (I x4))], [], 20⟩).bind Kst = (ref24_IsText_L1 a0 K0 m x4).map ref24_IsText_fin := by
  intro m
  induction m with
  | zero => intros; rfl
  | succ m ih =>
    intro x4
    unfold ref24_IsText_L1
    refine Eq.trans k_round ?_
    refine Eq.trans k_assoc ?_
    refine Eq.trans (k_region0 rfl (f50r2 k a0 x4)) ?_
    refine Eq.trans (k_cond (t := (decide (x4 < (a0.length : Int)))) rfl rfl) ?_
    refine bifE2 (fun hc => ?_) fun hc => ?_
    · rw [hc]
      refine Eq.trans k_skip ?_
      refine Eq.trans (k_block rfl) ?_
      refine Eq.trans (k_region rfl (f50r4 k a0 x4)) ?_
      refine bindE (fun o7 => ?_)
      refine Eq.trans (k_lcond (t := o7) rfl rfl) ?_
      refine bifE2 (fun hc => ?_) fun hc => ?_
      · rw [hc]
        refine Eq.trans (k_region0 rfl (f50r5 k a0 x4)) ?_
        refine Eq.trans k_lret ?_
        refine Eq.trans blk_ret ?_
        refine Eq.trans loop_ret ?_
        refine Eq.trans (hret _) ?_
        rfl
      · rw [hc]
        refine Eq.trans k_lskip ?_
        refine Eq.trans blk_normal ?_
        refine Eq.trans (k_lregion0 rfl (f50r3 k a0 x4)) ?_
        refine Eq.trans loop_normal ?_
        exact ih (Go.IntKind.wrap .i64 (x4 + 1))
    · rw [hc]
      refine Eq.trans k_exit ?_
      refine Eq.trans loop_exit ?_
      exact hK0 x4
theorem f50r6 (k : Nat) (a0 : Str) (y8 : Int) : RE k f50a6 f50o6 false ⟨[(0, (V.str a0)), (3, (I y8)), (7, (V.bool false))], [], 20⟩ = some ⟨[(2, (V.bool true))], [], 20⟩ :=
  rE rfl
theorem ref24_IsText_ok (k : Nat) (a0 : Str) : EV k 50 [(V.str a0)] = (ref24_IsText k a0).map ref24_IsText_fin := by
  cases k with
  | zero => rfl
  | succ k =>
    unfold ref24_IsText
    refine Eq.trans (evF_succ (c := f50c) (N := 20) (regs := f50n) rfl Go.Proofs.Try.func50 rfl (by decide) rfl rfl rfl) ?_
    refine Eq.trans (k_region0 rfl (f50r0 k a0)) ?_
    refine Eq.trans k_assoc ?_
    refine Eq.trans (k_region0 rfl (f50r1 k a0)) ?_
    refine Eq.trans (k_block rfl) ?_
    refine Eq.trans k_loop ?_
    refine ref24_IsText_L1_ok k a0 _ _ ?h_ref24_IsText_L1_0 ?hr_ref24_IsText_L1 k 0
    · intro y8
      refine Eq.trans blk_exit ?_
      refine Eq.trans (k_region0 rfl (f50r6 k a0 y8)) ?_
      refine Eq.trans k_lret ?_
      rfl
    · intro s; exact rfl
def ref11_IsName_fin : Bool → V × List V := fun r => ((V.bool r), [])
theorem f77r0 (k : Nat) (a0 : Str) : RE k f77a0 f77o0 false ⟨[(0, (V.str a0))], [], 47⟩ = some ⟨[(0, (V.str a0))], [], 47⟩ :=
  rE rfl
theorem f77r1 (k : Nat) (a0 : Str) : RE k f77a1 f77o1 false ⟨[(0, (V.str a0))], [], 47⟩ = some ⟨[(0, (V.str a0)), (3, (I 0))], [], 47⟩ :=
  rE rfl
theorem f77r2 (k : Nat) (a0 : Str) (x7 : Int) : RE k f77a2 f77o2 false ⟨[(0, (V.str a0)), (3, (I x7))], [], 47⟩ = some ⟨[(0, (V.str a0)), (3, (I x7)), (8, (V.bool (decide (x7 < (a0.length : Int)))))], [], 47⟩ :=
  rE rfl
theorem f77r4 (k : Nat) (a0 : Str) (x7 : Int) : RE k f77a4 f77o4 false ⟨[(0, (V.str a0)), (3, (I x7)), (8, (V.bool true))], [], 47⟩ = (((idxS a0 x7).bind fun v8 => (bif (decide (v8 ≥ 65)) then ((idxS a0 x7).bind fun v9 => (some ((decide (v9 ≤ 90))))) else (some (false))))).map (fun (o : Bool) => (⟨[(0, (V.str a0)), (3, (I x7)), (4, (V.bool o))], [], 47⟩ : St)) := by
  refine rg ?_
  refine ra 2 2 ⟨[(0, (V.str a0)), (3, (I x7)), (8, (V.bool true)), (11, (V.str a0)), (12, (I x7))], [], 47⟩ rfl rfl rfl ?_
  refine Eq.trans (reg_pure (x := (idxS a0 x7)) (w := fun v8 => (V.int .u8 v8)) rfl rfl rfl rfl (p_indexS rfl rfl rfl Go.Proofs.Try.underlying9)) ?_
  refine bindE (fun v8 => ?_)
  refine ba 2 5 ⟨[(0, (V.str a0)), (3, (I x7)), (8, (V.bool true)), (11, (V.str a0)), (12, (I x7)), (13, (V.int .u8 v8)), (14, (V.bool (decide (v8 ≥ 65)))), (15, (V.bool (decide (v8 ≥ 65))))], [], 47⟩ rfl rfl rfl ?_
  refine bifE (c := (decide (v8 ≥ 65))) (fun hc => ?_) fun hc => ?_
  · rw [hc]
    refine ra 2 7 ⟨[(0, (V.str a0)), (3, (I x7)), (8, (V.bool true)), (11, (V.str a0)), (12, (I x7)), (13, (V.int .u8 v8)), (14, (V.bool true)), (15, (V.bool true)), (16, (V.str a0)), (17, (I x7))], [], 47⟩ rfl rfl rfl ?_
    refine Eq.trans (reg_pure (x := (idxS a0 x7)) (w := fun v9 => (V.int .u8 v9)) rfl rfl rfl rfl (p_indexS rfl rfl rfl Go.Proofs.Try.underlying9)) ?_
    refine bindE (fun v9 => ?_)
    exact bind_end rfl
  · rw [hc]
    exact reg_end rfl
theorem f77r5 (k : Nat) (a0 : Str) (x7 : Int) (o10 : Bool) : RE k f77a5 f77o5 false ⟨[(0, (V.str a0)), (3, (I x7)), (4, (V.bool o10))], [], 47⟩ = ((bif (!o10) then (bif (x7 == 0) then (some (true)) else ((idxS a0 x7).bind fun v11 => (bif (decide (v11 < 48)) then (some (true)) else ((idxS a0 x7).bind fun v12 => (some ((decide (v12 > 57)))))))) else (some (false)))).map (fun (o : Bool) => (⟨[(0, (V.str a0)), (3, (I x7)), (38, (V.bool o))], [], 47⟩ : St)) := by
  refine rg ?_
  refine ra 3 3 ⟨[(0, (V.str a0)), (3, (I x7)), (4, (V.bool o10)), (21, (V.bool o10)), (22, (V.bool (!o10))), (23, (V.bool (!o10)))], [], 47⟩ rfl rfl rfl ?_
  refine bifE (c := (!o10)) (fun hc => ?_) fun hc => ?_
  · rw [hc]
    refine ra 3 6 ⟨[(0, (V.str a0)), (3, (I x7)), (4, (V.bool o10)), (21, (V.bool o10)), (22, (V.bool true)), (23, (V.bool true)), (24, (I x7)), (25, (V.bool (x7 == 0))), (26, (V.bool (x7 == 0)))], [], 47⟩ rfl rfl rfl ?_
    refine bifE (c := (x7 == 0)) (fun hc => ?_) fun hc => ?_
    · rw [hc]
      exact reg_end rfl
    · rw [hc]
      refine ra 2 8 ⟨[(0, (V.str a0)), (3, (I x7)), (4, (V.bool o10)), (21, (V.bool o10)), (22, (V.bool true)), (23, (V.bool true)), (24, (I x7)), (25, (V.bool false)), (26, (V.bool false)), (27, (V.str a0)), (28, (I x7))], [], 47⟩ rfl rfl rfl ?_
      refine Eq.trans (reg_pure (x := (idxS a0 x7)) (w := fun v11 => (V.int .u8 v11)) rfl rfl rfl rfl (p_indexS rfl rfl rfl Go.Proofs.Try.underlying9)) ?_
      refine bindE (fun v11 => ?_)
      refine ba 3 12 ⟨[(0, (V.str a0)), (3, (I x7)), (4, (V.bool o10)), (21, (V.bool o10)), (22, (V.bool true)), (23, (V.bool true)), (24, (I x7)), (25, (V.bool false)), (26, (V.bool false)), (27, (V.str a0)), (28, (I x7)), (29, (V.int .u8 v11)), (30, (V.bool (decide (v11 < 48)))), (31, (V.bool (decide (v11 < 48)))), (32, (V.bool (decide (v11 < 48))))], [], 47⟩ rfl rfl rfl ?_
      refine bifE (c := (decide (v11 < 48))) (fun hc => ?_) fun hc => ?_
      · rw [hc]
        exact reg_end rfl
      · rw [hc]
        refine ra 2 14 ⟨[(0, (V.str a0)), (3, (I x7)), (4, (V.bool o10)), (21, (V.bool o10)), (22, (V.bool true)), (23, (V.bool true)), (24, (I x7)), (25, (V.bool false)), (26, (V.bool false)), (27, (V.str a0)), (28, (I x7)), (29, (V.int .u8 v11)), (30, (V.bool false)), (31, (V.bool false)), (32, (V.bool false)), (33, (V.str a0)), (34, (I x7))], [], 47⟩ rfl rfl rfl ?_
        refine Eq.trans (reg_pure (x := (idxS a0 x7)) (w := fun v12 => (V.int .u8 v12)) rfl rfl rfl rfl (p_indexS rfl rfl rfl Go.Proofs.Try.underlying9)) ?_
        refine bindE (fun v12 => ?_)
        exact bind_end rfl
  · rw [hc]
    exact reg_end rfl
theorem f77r6 (k : Nat) (a0 : Str) (x7 : Int) : RE k f77a6 f77o6 false ⟨[(0, (V.str a0)), (3, (I x7)), (38, (V.bool true))], [], 47⟩ = some ⟨[(2, (V.bool false))], [], 47⟩ :=
  rE rfl
theorem f77r3 (k : Nat) (a0 : Str) (x7 : Int) : RE k f77a3 f77o3 false ⟨[(0, (V.str a0)), (3, (I x7)), (38, (V.bool false))], [], 47⟩ = some ⟨[(0, (V.str a0)), (3, (I (Go.IntKind.wrap .i64 (x7 + 1))))], [], 47⟩ :=
  rE rfl
theorem ref11_IsName_L1_ok (k : Nat) (a0 : Str)  (K0 : Int → Option Bool) (Kst : X × St → Option (V × List V)) (hK0 : ∀ (y0 : Int), Kst (X.exit 0, ⟨[(0, (V.str a0)), (3, (I y0)), (8, (V.bool false))], [], 47⟩) = (K0 y0).map ref11_IsName_fin) (hret : ∀ s, Kst (X.ret, s) = endK prog 47 [(V.str a0)] [] [.tmp 2] (X.ret, s)) :
    ∀ (m : Nat) (x7 : Int), (iter (exec prog (EV k) f77n k f77b0) m ⟨[(0, (V.str a0)), (3, (I x7))], [], 47⟩).bind Kst = (ref11_IsName_L1 a0 K0 m x7).map ref11_IsName_fin := by
  intro m
  induction m with
  | zero => intros; rfl
  | succ m ih =>
    intro x7
    unfold ref11_IsName_L1
    refine Eq.trans k_round ?_
    refine Eq.trans k_assoc ?_
    refine Eq.trans (k_region0 rfl (f77r2 k a0 x7)) ?_
    refine Eq.trans (k_cond (t := (decide (x7 < (a0.length : Int)))) rfl rfl) ?_
    refine bifE2 (fun hc => ?_) fun hc => ?_
    · rw [hc]
      refine Eq.trans k_skip ?_
      refine Eq.trans (k_block rfl) ?_
      refine Eq.trans (k_region rfl (f77r4 k a0 x7)) ?_
      refine bindE (fun o10 => ?_)
      refine Eq.trans (k_region rfl (f77r5 k a0 x7 o10)) ?_
      refine bindE (fun o13 => ?_)
      refine Eq.trans (k_lcond (t := o13) rfl rfl) ?_
      refine bifE2 (fun hc => ?_) fun hc => ?_
      · rw [hc]
        refine Eq.trans (k_region0 rfl (f77r6 k a0 x7)) ?_
        refine Eq.trans k_lret ?_
        refine Eq.trans blk_ret ?_
        refine Eq.trans loop_ret ?_
        refine Eq.trans (hret _) ?_
        rfl
      · rw [hc]
        refine Eq.trans k_lskip ?_
        refine Eq.trans blk_normal ?_
        refine Eq.trans (k_lregion0 rfl (f77r3 k a0 x7)) ?_
        refine Eq.trans loop_normal ?_
        exact ih (Go.IntKind.wrap .i64 (x7 + 1))
    · rw [hc]
      refine Eq.trans k_exit ?_
      refine Eq.trans loop_exit ?_
      exact hK0 x7
theorem f77r7 (k : Nat) (a0 : Str) (y14 : Int) : RE k f77a7 f77o7 false ⟨[(0, (V.str a0)), (3, (I y14)), (8, (V.bool false))], [], 47⟩ = ((bif (decide ((a0.length : Int) ≥ 1)) then (some ((decide ((a0.length : Int) ≤ 8)))) else (some (false)))).map (fun (o : Bool) => (⟨[(2, (V.bool o))], [], 47⟩ : St)) := by
  refine rg ?_
  refine ra 4 4 ⟨[(0, (V.str a0)), (3, (I y14)), (8, (V.bool false)), (39, (V.str a0)), (40, (I (a0.length : Int))), (41, (V.bool (decide ((a0.length : Int) ≥ 1)))), (42, (V.bool (decide ((a0.length : Int) ≥ 1))))], [], 47⟩ rfl rfl rfl ?_
  refine bifE (c := (decide ((a0.length : Int) ≥ 1))) (fun hc => ?_) fun hc => ?_
  · rw [hc]
    exact reg_end rfl
  · rw [hc]
    exact reg_end rfl
theorem ref11_IsName_ok (k : Nat) (a0 : Str) : EV k 77 [(V.str a0)] = (ref11_IsName k a0).map ref11_IsName_fin := by
  cases k with
  | zero => rfl
  | succ k =>
    unfold ref11_IsName
    refine Eq.trans (evF_succ (c := f77c) (N := 47) (regs := f77n) rfl Go.Proofs.Try.func77 rfl (by decide) rfl rfl rfl) ?_
    refine Eq.trans (k_region0 rfl (f77r0 k a0)) ?_
    refine Eq.trans k_assoc ?_
    refine Eq.trans (k_region0 rfl (f77r1 k a0)) ?_
    refine Eq.trans (k_block rfl) ?_
    refine Eq.trans k_loop ?_
    refine ref11_IsName_L1_ok k a0 _ _ ?h_ref11_IsName_L1_0 ?hr_ref11_IsName_L1 k 0
    · intro y14
      refine Eq.trans blk_exit ?_
      refine Eq.trans (k_region rfl (f77r7 k a0 y14)) ?_
      refine bindE (fun o15 => ?_)
      refine Eq.trans k_lret ?_
      rfl
    · intro s; exact rfl
def ref24_isField_fin : Bool → V × List V := fun r => ((V.bool r), [])
theorem f57r0 (k : Nat) (a0 : (List T_api_Slot)) (a1 : T_api_Slot) : RE k f57a0 f57o0 false ⟨[(0, (sSlot a0)), (1, (enc_T_api_Slot a1))], [], 84⟩ = some ⟨[(0, (sSlot a0)), (3, (V.ptr 3 0 0))], [(3, ⟨false, 7, [(enc_T_api_Slot a1)]⟩)], 84⟩ :=
  rE rfl
theorem f57r1 (k : Nat) (a0 : (List T_api_Slot)) (a1 : T_api_Slot) : RE k f57a1 f57o1 false ⟨[(0, (sSlot a0)), (3, (V.ptr 3 0 0))], [(3, ⟨false, 7, [(enc_T_api_Slot a1)]⟩)], 84⟩ = (((ref11_IsName k a1.fName).bind fun v1 => (bif (!v1) then (some (true)) else (bif (decide (a1.fIn < (-1))) then (some (true)) else (bif (decide (a1.fIn > 3)) then (some (true)) else (bif (decide (a1.fOut < (-1))) then (some (true)) else (bif (decide (a1.fOut > 3)) then (some (true)) else (bif (decide (a1.fFill < 32)) then (some (true)) else (some ((decide (a1.fFill > 126)))))))))))).map (fun (o : Bool) => (⟨[(0, (sSlot a0)), (3, (V.ptr 3 0 0)), (39, (V.bool o))], [(3, ⟨false, 7, [(enc_T_api_Slot a1)]⟩)], 84⟩ : St)) := by
  refine rg ?_
  refine ra 2 2 ⟨[(0, (sSlot a0)), (3, (V.ptr 3 0 0)), (6, (V.ptr 3 0 0)), (7, (V.str a1.fName))], [(3, ⟨false, 7, [(enc_T_api_Slot a1)]⟩)], 84⟩ rfl rfl rfl ?_
  refine Eq.trans (reg_pure (x := (ref11_IsName k a1.fName)) (w := fun v1 => (V.bool v1)) rfl rfl rfl rfl (p_call rfl rfl rfl rfl rfl (ref11_IsName_ok k a1.fName) (.inl rfl))) ?_
  refine bindE (fun v1 => ?_)
  refine ba 2 5 ⟨[(0, (sSlot a0)), (3, (V.ptr 3 0 0)), (6, (V.ptr 3 0 0)), (7, (V.str a1.fName)), (8, (V.bool v1)), (9, (V.bool (!v1))), (10, (V.bool (!v1)))], [(3, ⟨false, 7, [(enc_T_api_Slot a1)]⟩)], 84⟩ rfl rfl rfl ?_
  refine bifE (c := (!v1)) (fun hc => ?_) fun hc => ?_
  · rw [hc]
    exact reg_end rfl
  · rw [hc]
    refine ra 5 10 ⟨[(0, (sSlot a0)), (3, (V.ptr 3 0 0)), (6, (V.ptr 3 0 0)), (7, (V.str a1.fName)), (8, (V.bool v1)), (9, (V.bool false)), (10, (V.bool false)), (11, (V.ptr 3 0 4)), (12, (I a1.fIn)), (13, (V.bool (decide (a1.fIn < (-1))))), (14, (V.bool (decide (a1.fIn < (-1))))), (15, (V.bool (decide (a1.fIn < (-1)))))], [(3, ⟨false, 7, [(enc_T_api_Slot a1)]⟩)], 84⟩ rfl rfl rfl ?_
    refine bifE (c := (decide (a1.fIn < (-1)))) (fun hc => ?_) fun hc => ?_
    · rw [hc]
      exact reg_end rfl
    · rw [hc]
      refine ra 5 15 ⟨[(0, (sSlot a0)), (3, (V.ptr 3 0 0)), (6, (V.ptr 3 0 0)), (7, (V.str a1.fName)), (8, (V.bool v1)), (9, (V.bool false)), (10, (V.bool false)), (11, (V.ptr 3 0 4)), (12, (I a1.fIn)), (13, (V.bool false)), (14, (V.bool false)), (15, (V.bool false)), (16, (V.ptr 3 0 4)), (17, (I a1.fIn)), (18, (V.bool (decide (a1.fIn > 3)))), (19, (V.bool (decide (a1.fIn > 3)))), (20, (V.bool (decide (a1.fIn > 3))))], [(3, ⟨false, 7, [(enc_T_api_Slot a1)]⟩)], 84⟩ rfl rfl rfl ?_
      refine bifE (c := (decide (a1.fIn > 3))) (fun hc => ?_) fun hc => ?_
      · rw [hc]
        exact reg_end rfl
      · rw [hc]
        refine ra 5 20 ⟨[(0, (sSlot a0)), (3, (V.ptr 3 0 0)), (6, (V.ptr 3 0 0)), (7, (V.str a1.fName)), (8, (V.bool v1)), (9, (V.bool false)), (10, (V.bool false)), (11, (V.ptr 3 0 4)), (12, (I a1.fIn)), (13, (V.bool false)), (14, (V.bool false)), (15, (V.bool false)), (16, (V.ptr 3 0 4)), (17, (I a1.fIn)), (18, (V.bool false)), (19, (V.bool false)), (20, (V.bool false)), (21, (V.ptr 3 0 5)), (22, (I a1.fOut)), (23, (V.bool (decide (a1.fOut < (-1))))), (24, (V.bool (decide (a1.fOut < (-1))))), (25, (V.bool (decide (a1.fOut < (-1)))))], [(3, ⟨false, 7, [(enc_T_api_Slot a1)]⟩)], 84⟩ rfl rfl rfl ?_
        refine bifE (c := (decide (a1.fOut < (-1)))) (fun hc => ?_) fun hc => ?_
        · rw [hc]
          exact reg_end rfl
        · rw [hc]
          refine ra 5 25 ⟨[(0, (sSlot a0)), (3, (V.ptr 3 0 0)), (6, (V.ptr 3 0 0)), (7, (V.str a1.fName)), (8, (V.bool v1)), (9, (V.bool false)), (10, (V.bool false)), (11, (V.ptr 3 0 4)), (12, (I a1.fIn)), (13, (V.bool false)), (14, (V.bool false)), (15, (V.bool false)), (16, (V.ptr 3 0 4)), (17, (I a1.fIn)), (18, (V.bool false)), (19, (V.bool false)), (20, (V.bool false)), (21, (V.ptr 3 0 5)), (22, (I a1.fOut)), (23, (V.bool false)), (24, (V.bool false)), (25, (V.bool false)), (26, (V.ptr 3 0 5)), (27, (I a1.fOut)), (28, (V.bool (decide (a1.fOut > 3)))), (29, (V.bool (decide (a1.fOut > 3)))), (30, (V.bool (decide (a1.fOut > 3))))], [(3, ⟨false, 7, [(enc_T_api_Slot a1)]⟩)], 84⟩ rfl rfl rfl ?_
          refine bifE (c := (decide (a1.fOut > 3))) (fun hc => ?_) fun hc => ?_
          · rw [hc]
            exact reg_end rfl
          · rw [hc]
            refine ra 5 30 ⟨[(0, (sSlot a0)), (3, (V.ptr 3 0 0)), (6, (V.ptr 3 0 0)), (7, (V.str a1.fName)), (8, (V.bool v1)), (9, (V.bool false)), (10, (V.bool false)), (11, (V.ptr 3 0 4)), (12, (I a1.fIn)), (13, (V.bool false)), (14, (V.bool false)), (15, (V.bool false)), (16, (V.ptr 3 0 4)), (17, (I a1.fIn)), (18, (V.bool false)), (19, (V.bool false)), (20, (V.bool false)), (21, (V.ptr 3 0 5)), (22, (I a1.fOut)), (23, (V.bool false)), (24, (V.bool false)), (25, (V.bool false)), (26, (V.ptr 3 0 5)), (27, (I a1.fOut)), (28, (V.bool false)), (29, (V.bool false)), (30, (V.bool false)), (31, (V.ptr 3 0 6)), (32, (V.int .u8 a1.fFill)), (33, (V.bool (decide (a1.fFill < 32)))), (34, (V.bool (decide (a1.fFill < 32)))), (35, (V.bool (decide (a1.fFill < 32))))], [(3, ⟨false, 7, [(enc_T_api_Slot a1)]⟩)], 84⟩ rfl rfl rfl ?_
            refine bifE (c := (decide (a1.fFill < 32))) (fun hc => ?_) fun hc => ?_
            · rw [hc]
              exact reg_end rfl
            · rw [hc]
              exact reg_end rfl
theorem f57r2 (k : Nat) (a0 : (List T_api_Slot)) (a1 : T_api_Slot) : RE k f57a2 f57o2 false ⟨[(0, (sSlot a0)), (3, (V.ptr 3 0 0)), (39, (V.bool true))], [(3, ⟨false, 7, [(enc_T_api_Slot a1)]⟩)], 84⟩ = some ⟨[(4, (V.bool false))], [], 84⟩ :=
  rE rfl
theorem f57r3 (k : Nat) (a0 : (List T_api_Slot)) (a1 : T_api_Slot) : RE k f57a3 f57o3 false ⟨[(0, (sSlot a0)), (3, (V.ptr 3 0 0)), (39, (V.bool false))], [(3, ⟨false, 7, [(enc_T_api_Slot a1)]⟩)], 84⟩ = some ⟨[(0, (sSlot a0)), (3, (V.ptr 3 0 0)), (5, (I 0))], [(3, ⟨false, 7, [(enc_T_api_Slot a1)]⟩)], 84⟩ :=
  rE rfl
theorem f57r4 (k : Nat) (a0 : (List T_api_Slot)) (a1 : T_api_Slot) (x8 : Int) : RE k f57a4 f57o4 false ⟨[(0, (sSlot a0)), (3, (V.ptr 3 0 0)), (5, (I x8))], [(3, ⟨false, 7, [(enc_T_api_Slot a1)]⟩)], 84⟩ = some ⟨[(0, (sSlot a0)), (3, (V.ptr 3 0 0)), (5, (I x8)), (43, (V.bool (decide (x8 < (a0.length : Int)))))], [(3, ⟨false, 7, [(enc_T_api_Slot a1)]⟩)], 84⟩ := by
  refine rg ?_
  refine ra 2 2 ⟨[(0, (sSlot a0)), (3, (V.ptr 3 0 0)), (5, (I x8)), (40, (I x8)), (41, (sSlot a0))], [(3, ⟨false, 7, [(enc_T_api_Slot a1)]⟩)], 84⟩ rfl rfl rfl ?_
  refine Eq.trans (reg_pure (x := some ()) (w := fun _ => (I (a0.length : Int))) rfl rfl rfl rfl (p_len (e := enc_T_api_Slot) rfl rfl rfl rfl rfl rfl Go.Proofs.Try.underlying23)) ?_
  refine Eq.trans some_bind ?_
  exact bind_end rfl
theorem f57r6 (k : Nat) (a0 : (List T_api_Slot)) (a1 : T_api_Slot) (x8 : Int) : RE k f57a6 f57o6 true ⟨[(0, (sSlot a0)), (3, (V.ptr 3 0 0)), (5, (I x8)), (43, (V.bool true))], [(3, ⟨false, 7, [(enc_T_api_Slot a1)]⟩)], 84⟩ = (((idx a0 x8).bind fun v9 => (bif (v9.fName == a1.fName) then (some (true)) else (bif (decide (a1.fIn ≥ 0)) then ((idx a0 x8).bind fun v10 => (bif (v10.fIn == a1.fIn) then (some (true)) else (bif (decide (a1.fOut ≥ 0)) then ((idx a0 x8).bind fun v11 => (some ((v11.fOut == a1.fOut)))) else (some (false))))) else (bif (decide (a1.fOut ≥ 0)) then ((idx a0 x8).bind fun v12 => (some ((v12.fOut == a1.fOut)))) else (some (false))))))).map (fun (o : Bool) => (⟨[(0, (sSlot a0)), (3, (V.ptr 3 0 0)), (5, (I x8)), (83, (V.bool o))], [(3, ⟨false, 7, [(enc_T_api_Slot a1)]⟩)], 84⟩ : St)) := by
  refine Eq.trans (regionE_regp (p := 38) (dk := true) (t := [(0, (sSlot a0)), (3, (V.ptr 3 0 0)), (5, (I x8)), (43, (V.bool true))]) (σ := [(3, ⟨false, 7, [(enc_T_api_Slot a1)]⟩)]) (n := 84) (by decide) (by decide) rfl) ?_
  refine Eq.trans (regp_adv (m := 2) (j := 2) (t' := [(0, (sSlot a0)), (3, (V.ptr 3 0 0)), (5, (I x8)), (43, (V.bool true)), (46, (sSlot a0)), (47, (I x8))]) rfl rfl rfl) ?_
  refine Eq.trans (regp_pure (x := (idx a0 x8)) (w := fun v9 => (V.pro (enc_T_api_Slot v9))) rfl rfl rfl rfl rfl (p_index (e := enc_T_api_Slot) rfl rfl rfl Go.Proofs.Try.underlying23 rfl (by decide))) ?_
  refine bindE (fun v9 => ?_)
  refine Eq.trans (putp_adv (m := 6) (j := 9) (t' := [(0, (sSlot a0)), (3, (V.ptr 3 0 0)), (5, (I x8)), (43, (V.bool true)), (46, (sSlot a0)), (47, (I x8)), (48, (V.pro (enc_T_api_Slot v9))), (49, (V.pro (V.str v9.fName))), (50, (V.str v9.fName)), (51, (V.ptr 3 0 0)), (52, (V.str a1.fName)), (53, (V.bool (v9.fName == a1.fName))), (54, (V.bool (v9.fName == a1.fName)))]) rfl rfl rfl) ?_
  refine bifE (c := (v9.fName == a1.fName)) (fun hc => ?_) fun hc => ?_
  · rw [hc]
    exact regp_end rfl
  · rw [hc]
    refine Eq.trans (regp_adv (m := 4) (j := 13) (t' := [(0, (sSlot a0)), (3, (V.ptr 3 0 0)), (5, (I x8)), (43, (V.bool true)), (46, (sSlot a0)), (47, (I x8)), (48, (V.pro (enc_T_api_Slot v9))), (49, (V.pro (V.str v9.fName))), (50, (V.str v9.fName)), (51, (V.ptr 3 0 0)), (52, (V.str a1.fName)), (53, (V.bool false)), (54, (V.bool false)), (55, (V.ptr 3 0 4)), (56, (I a1.fIn)), (57, (V.bool (decide (a1.fIn ≥ 0)))), (58, (V.bool (decide (a1.fIn ≥ 0))))]) rfl rfl rfl) ?_
    refine bifE (c := (decide (a1.fIn ≥ 0))) (fun hc => ?_) fun hc => ?_
    · rw [hc]
      refine Eq.trans (regp_adv (m := 2) (j := 15) (t' := [(0, (sSlot a0)), (3, (V.ptr 3 0 0)), (5, (I x8)), (43, (V.bool true)), (46, (sSlot a0)), (47, (I x8)), (48, (V.pro (enc_T_api_Slot v9))), (49, (V.pro (V.str v9.fName))), (50, (V.str v9.fName)), (51, (V.ptr 3 0 0)), (52, (V.str a1.fName)), (53, (V.bool false)), (54, (V.bool false)), (55, (V.ptr 3 0 4)), (56, (I a1.fIn)), (57, (V.bool true)), (58, (V.bool true)), (59, (sSlot a0)), (60, (I x8))]) rfl rfl rfl) ?_
      refine Eq.trans (regp_pure (x := (idx a0 x8)) (w := fun v10 => (V.pro (enc_T_api_Slot v10))) rfl rfl rfl rfl rfl (p_index (e := enc_T_api_Slot) rfl rfl rfl Go.Proofs.Try.underlying23 rfl (by decide))) ?_
      refine bindE (fun v10 => ?_)
      refine Eq.trans (putp_adv (m := 8) (j := 24) (t' := [(0, (sSlot a0)), (3, (V.ptr 3 0 0)), (5, (I x8)), (43, (V.bool true)), (46, (sSlot a0)), (47, (I x8)), (48, (V.pro (enc_T_api_Slot v9))), (49, (V.pro (V.str v9.fName))), (50, (V.str v9.fName)), (51, (V.ptr 3 0 0)), (52, (V.str a1.fName)), (53, (V.bool false)), (54, (V.bool false)), (55, (V.ptr 3 0 4)), (56, (I a1.fIn)), (57, (V.bool true)), (58, (V.bool true)), (59, (sSlot a0)), (60, (I x8)), (61, (V.pro (enc_T_api_Slot v10))), (62, (V.pro (I v10.fIn))), (63, (I v10.fIn)), (64, (V.ptr 3 0 4)), (65, (I a1.fIn)), (66, (V.bool (v10.fIn == a1.fIn))), (67, (V.bool (v10.fIn == a1.fIn))), (68, (V.bool (v10.fIn == a1.fIn))), (69, (V.bool (v10.fIn == a1.fIn)))]) rfl rfl rfl) ?_
      refine bifE (c := (v10.fIn == a1.fIn)) (fun hc => ?_) fun hc => ?_
      · rw [hc]
        exact regp_end rfl
      · rw [hc]
        refine Eq.trans (regp_adv (m := 4) (j := 28) (t' := [(0, (sSlot a0)), (3, (V.ptr 3 0 0)), (5, (I x8)), (43, (V.bool true)), (46, (sSlot a0)), (47, (I x8)), (48, (V.pro (enc_T_api_Slot v9))), (49, (V.pro (V.str v9.fName))), (50, (V.str v9.fName)), (51, (V.ptr 3 0 0)), (52, (V.str a1.fName)), (53, (V.bool false)), (54, (V.bool false)), (55, (V.ptr 3 0 4)), (56, (I a1.fIn)), (57, (V.bool true)), (58, (V.bool true)), (59, (sSlot a0)), (60, (I x8)), (61, (V.pro (enc_T_api_Slot v10))), (62, (V.pro (I v10.fIn))), (63, (I v10.fIn)), (64, (V.ptr 3 0 4)), (65, (I a1.fIn)), (66, (V.bool false)), (67, (V.bool false)), (68, (V.bool false)), (69, (V.bool false)), (70, (V.ptr 3 0 5)), (71, (I a1.fOut)), (72, (V.bool (decide (a1.fOut ≥ 0)))), (73, (V.bool (decide (a1.fOut ≥ 0))))]) rfl rfl rfl) ?_
        refine bifE (c := (decide (a1.fOut ≥ 0))) (fun hc => ?_) fun hc => ?_
        · rw [hc]
          refine Eq.trans (regp_adv (m := 2) (j := 30) (t' := [(0, (sSlot a0)), (3, (V.ptr 3 0 0)), (5, (I x8)), (43, (V.bool true)), (46, (sSlot a0)), (47, (I x8)), (48, (V.pro (enc_T_api_Slot v9))), (49, (V.pro (V.str v9.fName))), (50, (V.str v9.fName)), (51, (V.ptr 3 0 0)), (52, (V.str a1.fName)), (53, (V.bool false)), (54, (V.bool false)), (55, (V.ptr 3 0 4)), (56, (I a1.fIn)), (57, (V.bool true)), (58, (V.bool true)), (59, (sSlot a0)), (60, (I x8)), (61, (V.pro (enc_T_api_Slot v10))), (62, (V.pro (I v10.fIn))), (63, (I v10.fIn)), (64, (V.ptr 3 0 4)), (65, (I a1.fIn)), (66, (V.bool false)), (67, (V.bool false)), (68, (V.bool false)), (69, (V.bool false)), (70, (V.ptr 3 0 5)), (71, (I a1.fOut)), (72, (V.bool true)), (73, (V.bool true)), (74, (sSlot a0)), (75, (I x8))]) rfl rfl rfl) ?_
          refine Eq.trans (regp_pure (x := (idx a0 x8)) (w := fun v11 => (V.pro (enc_T_api_Slot v11))) rfl rfl rfl rfl rfl (p_index (e := enc_T_api_Slot) rfl rfl rfl Go.Proofs.Try.underlying23 rfl (by decide))) ?_
          refine bindE (fun v11 => ?_)
          exact regp_end rfl
        · rw [hc]
          exact regp_end rfl
    · rw [hc]
      refine Eq.trans (regp_adv (m := 15) (j := 28) (t' := [(0, (sSlot a0)), (3, (V.ptr 3 0 0)), (5, (I x8)), (43, (V.bool true)), (46, (sSlot a0)), (47, (I x8)), (48, (V.pro (enc_T_api_Slot v9))), (49, (V.pro (V.str v9.fName))), (50, (V.str v9.fName)), (51, (V.ptr 3 0 0)), (52, (V.str a1.fName)), (53, (V.bool false)), (54, (V.bool false)), (55, (V.ptr 3 0 4)), (56, (I a1.fIn)), (57, (V.bool false)), (58, (V.bool false)), (59, (V.tup [])), (60, (V.tup [])), (61, (V.tup [])), (62, (V.tup [])), (63, (V.tup [])), (64, (V.tup [])), (65, (V.tup [])), (66, (V.tup [])), (67, (V.bool false)), (68, (V.bool false)), (69, (V.bool false)), (70, (V.ptr 3 0 5)), (71, (I a1.fOut)), (72, (V.bool (decide (a1.fOut ≥ 0)))), (73, (V.bool (decide (a1.fOut ≥ 0))))]) rfl rfl rfl) ?_
      refine bifE (c := (decide (a1.fOut ≥ 0))) (fun hc => ?_) fun hc => ?_
      · rw [hc]
        refine Eq.trans (regp_adv (m := 2) (j := 30) (t' := [(0, (sSlot a0)), (3, (V.ptr 3 0 0)), (5, (I x8)), (43, (V.bool true)), (46, (sSlot a0)), (47, (I x8)), (48, (V.pro (enc_T_api_Slot v9))), (49, (V.pro (V.str v9.fName))), (50, (V.str v9.fName)), (51, (V.ptr 3 0 0)), (52, (V.str a1.fName)), (53, (V.bool false)), (54, (V.bool false)), (55, (V.ptr 3 0 4)), (56, (I a1.fIn)), (57, (V.bool false)), (58, (V.bool false)), (59, (V.tup [])), (60, (V.tup [])), (61, (V.tup [])), (62, (V.tup [])), (63, (V.tup [])), (64, (V.tup [])), (65, (V.tup [])), (66, (V.tup [])), (67, (V.bool false)), (68, (V.bool false)), (69, (V.bool false)), (70, (V.ptr 3 0 5)), (71, (I a1.fOut)), (72, (V.bool true)), (73, (V.bool true)), (74, (sSlot a0)), (75, (I x8))]) rfl rfl rfl) ?_
        refine Eq.trans (regp_pure (x := (idx a0 x8)) (w := fun v12 => (V.pro (enc_T_api_Slot v12))) rfl rfl rfl rfl rfl (p_index (e := enc_T_api_Slot) rfl rfl rfl Go.Proofs.Try.underlying23 rfl (by decide))) ?_
        refine bindE (fun v12 => ?_)
        exact regp_end rfl
      · rw [hc]
        exact regp_end rfl
theorem f57r7 (k : Nat) (a0 : (List T_api_Slot)) (a1 : T_api_Slot) (x8 : Int) : RE k f57a7 f57o7 false ⟨[(0, (sSlot a0)), (3, (V.ptr 3 0 0)), (5, (I x8)), (83, (V.bool true))], [(3, ⟨false, 7, [(enc_T_api_Slot a1)]⟩)], 84⟩ = some ⟨[(4, (V.bool false))], [], 84⟩ :=
  rE rfl
theorem f57r5 (k : Nat) (a0 : (List T_api_Slot)) (a1 : T_api_Slot) (x8 : Int) : RE k f57a5 f57o5 false ⟨[(0, (sSlot a0)), (3, (V.ptr 3 0 0)), (5, (I x8)), (83, (V.bool false))], [(3, ⟨false, 7, [(enc_T_api_Slot a1)]⟩)], 84⟩ = some ⟨[(0, (sSlot a0)), (3, (V.ptr 3 0 0)), (5, (I (Go.IntKind.wrap .i64 (x8 + 1))))], [(3, ⟨false, 7, [(enc_T_api_Slot a1)]⟩)], 84⟩ :=
  rE rfl
theorem ref24_isField_L1_ok (k : Nat) (a0 : (List T_api_Slot)) (a1 : T_api_Slot)  (K0 : Int → Option Bool) (Kst : X × St → Option (V × List V)) (hK0 : ∀ (y0 : Int), Kst (X.exit 0, ⟨[(0, (sSlot a0)), (3, (V.ptr 3 0 0)), (5, (I y0)), (43, (V.bool false))], [(3, ⟨false, 7, [(enc_T_api_Slot a1)]⟩)], 84⟩) = (K0 y0).map ref24_isField_fin) (hret : ∀ s, Kst (X.ret, s) = endK prog 84 [(sSlot a0), (enc_T_api_Slot a1)] [] [.tmp 4] (X.ret, s)) :
    ∀ (m : Nat) (x8 : Int), (iter (exec prog (EV k) f57n k f57b0) m ⟨[(0, (sSlot a0)), (3, (V.ptr 3 0 0)), (5, (I x8))], [(3, ⟨false, 7, [(enc_T_api_Slot a1)]⟩)], 84⟩).bind Kst = (ref24_isField_L1 a0 a1 K0 m x8).map ref24_isField_fin := by
  intro m
  induction m with
  | zero => intros; rfl
  | succ m ih =>
    intro x8
    unfold ref24_isField_L1
    refine Eq.trans k_round ?_
    refine Eq.trans k_assoc ?_
    refine Eq.trans (k_region0 rfl (f57r4 k a0 a1 x8)) ?_
    refine Eq.trans (k_cond (t := (decide (x8 < (a0.length : Int)))) rfl rfl) ?_
    refine bifE2 (fun hc => ?_) fun hc => ?_
    · rw [hc]
      refine Eq.trans k_skip ?_
      refine Eq.trans (k_block rfl) ?_
      refine Eq.trans (k_region rfl (f57r6 k a0 a1 x8)) ?_
      refine bindE (fun o13 => ?_)
      refine Eq.trans (k_lcond (t := o13) rfl rfl) ?_
      refine bifE2 (fun hc => ?_) fun hc => ?_
      · rw [hc]
        refine Eq.trans (k_region0 rfl (f57r7 k a0 a1 x8)) ?_
        refine Eq.trans k_lret ?_
        refine Eq.trans blk_ret ?_
        refine Eq.trans loop_ret ?_
        refine Eq.trans (hret _) ?_
        rfl
      · rw [hc]
        refine Eq.trans k_lskip ?_
        refine Eq.trans blk_normal ?_
        refine Eq.trans (k_lregion0 rfl (f57r5 k a0 a1 x8)) ?_
        refine Eq.trans loop_normal ?_
        exact ih (Go.IntKind.wrap .i64 (x8 + 1))
    · rw [hc]
      refine Eq.trans k_exit ?_
      refine Eq.trans loop_exit ?_
      exact hK0 x8
theorem f57r8 (k : Nat) (a0 : (List T_api_Slot)) (a1 : T_api_Slot) (y14 : Int) : RE k f57a8 f57o8 false ⟨[(0, (sSlot a0)), (3, (V.ptr 3 0 0)), (5, (I y14)), (43, (V.bool false))], [(3, ⟨false, 7, [(enc_T_api_Slot a1)]⟩)], 84⟩ = some ⟨[(4, (V.bool true))], [], 84⟩ :=
  rE rfl
theorem ref24_isField_ok (k : Nat) (a0 : (List T_api_Slot)) (a1 : T_api_Slot) : EV k 57 [(sSlot a0), (enc_T_api_Slot a1)] = (ref24_isField k a0 a1).map ref24_isField_fin := by
  cases k with
  | zero => rfl
  | succ k =>
    unfold ref24_isField
    refine Eq.trans (evF_succ (c := f57c) (N := 84) (regs := f57n) rfl Go.Proofs.Try.func57 rfl (by decide) rfl rfl rfl) ?_
    refine Eq.trans (k_region0 rfl (f57r0 k a0 a1)) ?_
    refine Eq.trans k_assoc ?_
    refine Eq.trans (k_region rfl (f57r1 k a0 a1)) ?_
    refine bindE (fun o2 => ?_)
    refine Eq.trans (k_cond (t := o2) rfl rfl) ?_
    refine bifE2 (fun hc => ?_) fun hc => ?_
    · rw [hc]
      refine Eq.trans k_assoc ?_
      refine Eq.trans (k_region0 rfl (f57r2 k a0 a1)) ?_
      refine Eq.trans k_ret ?_
      rfl
    · rw [hc]
      refine Eq.trans k_skip ?_
      refine Eq.trans k_assoc ?_
      refine Eq.trans (k_region0 rfl (f57r3 k a0 a1)) ?_
      refine Eq.trans (k_block rfl) ?_
      refine Eq.trans k_loop ?_
      refine ref24_isField_L1_ok k a0 a1 _ _ ?h_ref24_isField_L1_0 ?hr_ref24_isField_L1 k 0
      · intro y14
        refine Eq.trans blk_exit ?_
        refine Eq.trans (k_region0 rfl (f57r8 k a0 a1 y14)) ?_
        refine Eq.trans k_lret ?_
        rfl
      · intro s; exact rfl
def ref24_spans_fin : (List T_progenyref24_span) → V × List V := fun r => ((sspan (r)), [])
theorem f58r0 (k : Nat) (a0 : T_api_Form) : RE k f58a0 f58o0 false ⟨[(0, (enc_T_api_Form a0))], [], 66⟩ = some ⟨[(1, (V.ptr 1 0 0))], [(1, ⟨false, 4, [(enc_T_api_Form a0)]⟩)], 66⟩ :=
  rE rfl
theorem f58r1 (k : Nat) (a0 : T_api_Form) : RE k f58a1 f58o1 false ⟨[(1, (V.ptr 1 0 0))], [(1, ⟨false, 4, [(enc_T_api_Form a0)]⟩)], 66⟩ = some ⟨[(1, (V.ptr 1 0 0)), (3, (V.aref 3 0 (List.map enc_T_progenyref24_span ([] : List T_progenyref24_span)).length))], [(1, ⟨false, 4, [(enc_T_api_Form a0)]⟩), (3, ⟨true, 3, List.map enc_T_progenyref24_span ([] : List T_progenyref24_span)⟩)], 66⟩ :=
  rE rfl
theorem f58r2 (k : Nat) (a0 : T_api_Form) : RE k f58a2 f58o2 false ⟨[(1, (V.ptr 1 0 0)), (3, (V.aref 3 0 (List.map enc_T_progenyref24_span ([] : List T_progenyref24_span)).length))], [(1, ⟨false, 4, [(enc_T_api_Form a0)]⟩), (3, ⟨true, 3, List.map enc_T_progenyref24_span ([] : List T_progenyref24_span)⟩)], 66⟩ = some ⟨[(1, (V.ptr 1 0 0)), (3, (V.aref 3 0 (List.map enc_T_progenyref24_span ([] : List T_progenyref24_span)).length)), (4, (I 0))], [(1, ⟨false, 4, [(enc_T_api_Form a0)]⟩), (3, ⟨true, 3, List.map enc_T_progenyref24_span ([] : List T_progenyref24_span)⟩)], 66⟩ :=
  rE rfl
theorem f58r3 (k : Nat) (a0 : T_api_Form) (x6 : Int) (x7 : (List T_progenyref24_span)) : RE k f58a3 f58o3 false ⟨[(1, (V.ptr 1 0 0)), (3, (V.aref 3 0 (List.map enc_T_progenyref24_span x7).length)), (4, (I x6))], [(1, ⟨false, 4, [(enc_T_api_Form a0)]⟩), (3, ⟨true, 3, List.map enc_T_progenyref24_span x7⟩)], 66⟩ = some ⟨[(1, (V.ptr 1 0 0)), (3, (V.aref 3 0 (List.map enc_T_progenyref24_span x7).length)), (4, (I x6)), (10, (V.bool (decide (x6 < (a0.fMarks.length : Int)))))], [(1, ⟨false, 4, [(enc_T_api_Form a0)]⟩), (3, ⟨true, 3, List.map enc_T_progenyref24_span x7⟩)], 66⟩ := by
  refine rg ?_
  refine ra 3 3 ⟨[(1, (V.ptr 1 0 0)), (3, (V.aref 3 0 (List.map enc_T_progenyref24_span x7).length)), (4, (I x6)), (6, (I x6)), (7, (V.ptr 1 0 2)), (8, (sMark (a0.fMarks)))], [(1, ⟨false, 4, [(enc_T_api_Form a0)]⟩), (3, ⟨true, 3, List.map enc_T_progenyref24_span x7⟩)], 66⟩ rfl rfl rfl ?_
  refine Eq.trans (reg_pure (x := some ()) (w := fun _ => (I (a0.fMarks.length : Int))) rfl rfl rfl rfl (p_len (e := enc_T_api_Mark) rfl rfl rfl rfl rfl rfl Go.Proofs.Try.underlying22)) ?_
  refine Eq.trans some_bind ?_
  exact bind_end rfl
theorem f58r5 (k : Nat) (a0 : T_api_Form) (x6 : Int) (x7 : (List T_progenyref24_span)) : RE k f58a5 f58o5 true ⟨[(1, (V.ptr 1 0 0)), (3, (V.aref 3 0 (List.map enc_T_progenyref24_span x7).length)), (4, (I x6)), (10, (V.bool true))], [(1, ⟨false, 4, [(enc_T_api_Form a0)]⟩), (3, ⟨true, 3, List.map enc_T_progenyref24_span x7⟩)], 66⟩ = (((idx a0.fMarks x6).bind fun v8 => ((idx a0.fMarks x6).bind fun v9 => ((idx a0.fMarks x6).bind fun v10 => (app x7 ([({ frow := v8.fRow, fcolumn := v9.fColumn, fbytes := (v10.fText.length : Int) } : T_progenyref24_span)] : List T_progenyref24_span)))))).map (fun (o : (List T_progenyref24_span)) => (⟨[(1, (V.ptr 1 0 0)), (3, (V.aref 3 0 (List.map enc_T_progenyref24_span o).length)), (4, (I x6))], [(1, ⟨false, 4, [(enc_T_api_Form a0)]⟩), (3, ⟨true, 3, List.map enc_T_progenyref24_span o⟩)], 66⟩ : St)) := by
  refine Eq.trans (regionE_regp (p := 22) (dk := true) (t := [(1, (V.ptr 1 0 0)), (3, (V.aref 3 0 (List.map enc_T_progenyref24_span x7).length)), (4, (I x6)), (10, (V.bool true))]) (σ := [(1, ⟨false, 4, [(enc_T_api_Form a0)]⟩), (3, ⟨true, 3, List.map enc_T_progenyref24_span x7⟩)]) (n := 66) (by decide) (by decide) rfl) ?_
  refine Eq.trans (regp_adv (m := 4) (j := 4) (t' := [(1, (V.ptr 1 0 0)), (3, (V.aref 3 0 (List.map enc_T_progenyref24_span x7).length)), (4, (I x6)), (10, (V.bool true)), (13, (V.aref 3 0 (List.map enc_T_progenyref24_span x7).length)), (14, (V.ptr 1 0 2)), (15, (sMark (a0.fMarks))), (16, (I x6))]) rfl rfl rfl) ?_
  refine Eq.trans (regp_pure (x := (idx a0.fMarks x6)) (w := fun v8 => (V.pro (enc_T_api_Mark v8))) rfl rfl rfl rfl rfl (p_index (e := enc_T_api_Mark) rfl rfl rfl Go.Proofs.Try.underlying22 rfl (by decide))) ?_
  refine bindE (fun v8 => ?_)
  refine Eq.trans (putp_adv (m := 5) (j := 10) (t' := [(1, (V.ptr 1 0 0)), (3, (V.aref 3 0 (List.map enc_T_progenyref24_span x7).length)), (4, (I x6)), (10, (V.bool true)), (13, (V.aref 3 0 (List.map enc_T_progenyref24_span x7).length)), (14, (V.ptr 1 0 2)), (15, (sMark (a0.fMarks))), (16, (I x6)), (17, (V.pro (enc_T_api_Mark v8))), (18, (V.pro (I v8.fRow))), (19, (I v8.fRow)), (20, (V.ptr 1 0 2)), (21, (sMark (a0.fMarks))), (22, (I x6))]) rfl rfl rfl) ?_
  refine Eq.trans (regp_pure (x := (idx a0.fMarks x6)) (w := fun v9 => (V.pro (enc_T_api_Mark v9))) rfl rfl rfl rfl rfl (p_index (e := enc_T_api_Mark) rfl rfl rfl Go.Proofs.Try.underlying22 rfl (by decide))) ?_
  refine bindE (fun v9 => ?_)
  refine Eq.trans (putp_adv (m := 5) (j := 16) (t' := [(1, (V.ptr 1 0 0)), (3, (V.aref 3 0 (List.map enc_T_progenyref24_span x7).length)), (4, (I x6)), (10, (V.bool true)), (13, (V.aref 3 0 (List.map enc_T_progenyref24_span x7).length)), (14, (V.ptr 1 0 2)), (15, (sMark (a0.fMarks))), (16, (I x6)), (17, (V.pro (enc_T_api_Mark v8))), (18, (V.pro (I v8.fRow))), (19, (I v8.fRow)), (20, (V.ptr 1 0 2)), (21, (sMark (a0.fMarks))), (22, (I x6)), (23, (V.pro (enc_T_api_Mark v9))), (24, (V.pro (I v9.fColumn))), (25, (I v9.fColumn)), (26, (V.ptr 1 0 2)), (27, (sMark (a0.fMarks))), (28, (I x6))]) rfl rfl rfl) ?_
  refine Eq.trans (regp_pure (x := (idx a0.fMarks x6)) (w := fun v10 => (V.pro (enc_T_api_Mark v10))) rfl rfl rfl rfl rfl (p_index (e := enc_T_api_Mark) rfl rfl rfl Go.Proofs.Try.underlying22 rfl (by decide))) ?_
  refine bindE (fun v10 => ?_)
  refine Eq.trans (regp_reg (m := 0) (j := 22) (st' := ⟨[(1, (V.ptr 1 0 0)), (3, (V.aref 3 0 (List.map enc_T_progenyref24_span x7).length)), (4, (I x6)), (10, (V.bool true)), (13, (V.aref 3 0 (List.map enc_T_progenyref24_span x7).length)), (14, (V.ptr 1 0 2)), (15, (sMark (a0.fMarks))), (16, (I x6)), (17, (V.pro (enc_T_api_Mark v8))), (18, (V.pro (I v8.fRow))), (19, (I v8.fRow)), (20, (V.ptr 1 0 2)), (21, (sMark (a0.fMarks))), (22, (I x6)), (23, (V.pro (enc_T_api_Mark v9))), (24, (V.pro (I v9.fColumn))), (25, (I v9.fColumn)), (26, (V.ptr 1 0 2)), (27, (sMark (a0.fMarks))), (28, (I x6)), (29, (V.pro (enc_T_api_Mark v10))), (30, (V.pro (V.str v10.fText))), (31, (V.str v10.fText)), (32, (I (v10.fText.length : Int))), (33, (enc_T_progenyref24_span ({ frow := v8.fRow, fcolumn := v9.fColumn, fbytes := (v10.fText.length : Int) } : T_progenyref24_span))), (34, (sspan (([({ frow := v8.fRow, fcolumn := v9.fColumn, fbytes := (v10.fText.length : Int) } : T_progenyref24_span)] : List T_progenyref24_span))))], [(1, ⟨false, 4, [(enc_T_api_Form a0)]⟩), (3, ⟨true, 3, List.map enc_T_progenyref24_span x7⟩)], 66⟩) rfl rfl rfl) ?_
  refine Eq.trans (reg_eff (x := (app x7 ([({ frow := v8.fRow, fcolumn := v9.fColumn, fbytes := (v10.fText.length : Int) } : T_progenyref24_span)] : List T_progenyref24_span))) (w := fun v11 => ((V.aref 3 0 (List.map enc_T_progenyref24_span v11).length), _)) rfl rfl rfl rfl (p_appF (e := enc_T_progenyref24_span) (l := x7) rfl rfl rfl rfl rfl rfl rfl rfl rfl rfl rfl (of_decide_eq_true rfl))) ?_
  refine bind_self (fun v11 => ?_)
  exact bind_end rfl
theorem f58r4 (k : Nat) (a0 : T_api_Form) (x6 : Int) (o12 : (List T_progenyref24_span)) : RE k f58a4 f58o4 false ⟨[(1, (V.ptr 1 0 0)), (3, (V.aref 3 0 (List.map enc_T_progenyref24_span o12).length)), (4, (I x6))], [(1, ⟨false, 4, [(enc_T_api_Form a0)]⟩), (3, ⟨true, 3, List.map enc_T_progenyref24_span o12⟩)], 66⟩ = some ⟨[(1, (V.ptr 1 0 0)), (3, (V.aref 3 0 (List.map enc_T_progenyref24_span o12).length)), (4, (I (Go.IntKind.wrap .i64 (x6 + 1))))], [(1, ⟨false, 4, [(enc_T_api_Form a0)]⟩), (3, ⟨true, 3, List.map enc_T_progenyref24_span o12⟩)], 66⟩ :=
  rE rfl
theorem ref24_spans_L1_ok (k : Nat) (a0 : T_api_Form)  (K0 : Int → (List T_progenyref24_span) → Option (List T_progenyref24_span)) (Kst : X × St → Option (V × List V)) (hK0 : ∀ (y0 : Int) (y1 : (List T_progenyref24_span)), Kst (X.exit 0, ⟨[(1, (V.ptr 1 0 0)), (3, (V.aref 3 0 (List.map enc_T_progenyref24_span y1).length)), (4, (I y0)), (10, (V.bool false))], [(1, ⟨false, 4, [(enc_T_api_Form a0)]⟩), (3, ⟨true, 3, List.map enc_T_progenyref24_span y1⟩)], 66⟩) = (K0 y0 y1).map ref24_spans_fin) (hret : ∀ s, Kst (X.ret, s) = endK prog 66 [(enc_T_api_Form a0)] [] [.tmp 2] (X.ret, s)) :
    ∀ (m : Nat) (x6 : Int) (x7 : (List T_progenyref24_span)), (iter (exec prog (EV k) f58n k f58b0) m ⟨[(1, (V.ptr 1 0 0)), (3, (V.aref 3 0 (List.map enc_T_progenyref24_span x7).length)), (4, (I x6))], [(1, ⟨false, 4, [(enc_T_api_Form a0)]⟩), (3, ⟨true, 3, List.map enc_T_progenyref24_span x7⟩)], 66⟩).bind Kst = (ref24_spans_L1 a0 K0 m x6 x7).map ref24_spans_fin := by
  intro m
  induction m with
  | zero => intros; rfl
  | succ m ih =>
    intro x6 x7
    unfold ref24_spans_L1
    refine Eq.trans k_round ?_
    refine Eq.trans k_assoc ?_
    refine Eq.trans (k_region0 rfl (f58r3 k a0 x6 x7)) ?_
    refine Eq.trans (k_cond (t := (decide (x6 < (a0.fMarks.length : Int)))) rfl rfl) ?_
    refine bifE2 (fun hc => ?_) fun hc => ?_
    · rw [hc]
      refine Eq.trans k_skip ?_
      refine Eq.trans (k_block rfl) ?_
      refine Eq.trans (k_lregion rfl (f58r5 k a0 x6 x7)) ?_
      refine bindE (fun o12 => ?_)
      refine Eq.trans blk_normal ?_
      refine Eq.trans (k_lregion0 rfl (f58r4 k a0 x6 o12)) ?_
      refine Eq.trans loop_normal ?_
      exact ih (Go.IntKind.wrap .i64 (x6 + 1)) o12
    · rw [hc]
      refine Eq.trans k_exit ?_
      refine Eq.trans loop_exit ?_
      exact hK0 x6 x7
theorem f58r6 (k : Nat) (a0 : T_api_Form) (y13 : Int) (y14 : (List T_progenyref24_span)) : RE k f58a6 f58o6 false ⟨[(1, (V.ptr 1 0 0)), (3, (V.aref 3 0 (List.map enc_T_progenyref24_span y14).length)), (4, (I y13)), (10, (V.bool false))], [(1, ⟨false, 4, [(enc_T_api_Form a0)]⟩), (3, ⟨true, 3, List.map enc_T_progenyref24_span y14⟩)], 66⟩ = some ⟨[(1, (V.ptr 1 0 0)), (3, (V.aref 3 0 (List.map enc_T_progenyref24_span y14).length)), (5, (I 0))], [(1, ⟨false, 4, [(enc_T_api_Form a0)]⟩), (3, ⟨true, 3, List.map enc_T_progenyref24_span y14⟩)], 66⟩ :=
  rE rfl
theorem f58r7 (k : Nat) (a0 : T_api_Form) (x20 : Int) (x21 : (List T_progenyref24_span)) : RE k f58a7 f58o7 false ⟨[(1, (V.ptr 1 0 0)), (3, (V.aref 3 0 (List.map enc_T_progenyref24_span x21).length)), (5, (I x20))], [(1, ⟨false, 4, [(enc_T_api_Form a0)]⟩), (3, ⟨true, 3, List.map enc_T_progenyref24_span x21⟩)], 66⟩ = some ⟨[(1, (V.ptr 1 0 0)), (3, (V.aref 3 0 (List.map enc_T_progenyref24_span x21).length)), (5, (I x20)), (40, (V.bool (decide (x20 < (a0.fFields.length : Int)))))], [(1, ⟨false, 4, [(enc_T_api_Form a0)]⟩), (3, ⟨true, 3, List.map enc_T_progenyref24_span x21⟩)], 66⟩ := by
  refine rg ?_
  refine ra 3 3 ⟨[(1, (V.ptr 1 0 0)), (3, (V.aref 3 0 (List.map enc_T_progenyref24_span x21).length)), (5, (I x20)), (36, (I x20)), (37, (V.ptr 1 0 3)), (38, (sSlot (a0.fFields)))], [(1, ⟨false, 4, [(enc_T_api_Form a0)]⟩), (3, ⟨true, 3, List.map enc_T_progenyref24_span x21⟩)], 66⟩ rfl rfl rfl ?_
  refine Eq.trans (reg_pure (x := some ()) (w := fun _ => (I (a0.fFields.length : Int))) rfl rfl rfl rfl (p_len (e := enc_T_api_Slot) rfl rfl rfl rfl rfl rfl Go.Proofs.Try.underlying23)) ?_
  refine Eq.trans some_bind ?_
  exact bind_end rfl
theorem f58r9 (k : Nat) (a0 : T_api_Form) (x20 : Int) (x21 : (List T_progenyref24_span)) : RE k f58a9 f58o9 true ⟨[(1, (V.ptr 1 0 0)), (3, (V.aref 3 0 (List.map enc_T_progenyref24_span x21).length)), (5, (I x20)), (40, (V.bool true))], [(1, ⟨false, 4, [(enc_T_api_Form a0)]⟩), (3, ⟨true, 3, List.map enc_T_progenyref24_span x21⟩)], 66⟩ = (((idx a0.fFields x20).bind fun v22 => ((idx a0.fFields x20).bind fun v23 => ((idx a0.fFields x20).bind fun v24 => (app x21 ([({ frow := v22.fRow, fcolumn := v23.fColumn, fbytes := v24.fBytes } : T_progenyref24_span)] : List T_progenyref24_span)))))).map (fun (o : (List T_progenyref24_span)) => (⟨[(1, (V.ptr 1 0 0)), (3, (V.aref 3 0 (List.map enc_T_progenyref24_span o).length)), (5, (I x20))], [(1, ⟨false, 4, [(enc_T_api_Form a0)]⟩), (3, ⟨true, 3, List.map enc_T_progenyref24_span o⟩)], 66⟩ : St)) := by
  refine Eq.trans (regionE_regp (p := 21) (dk := true) (t := [(1, (V.ptr 1 0 0)), (3, (V.aref 3 0 (List.map enc_T_progenyref24_span x21).length)), (5, (I x20)), (40, (V.bool true))]) (σ := [(1, ⟨false, 4, [(enc_T_api_Form a0)]⟩), (3, ⟨true, 3, List.map enc_T_progenyref24_span x21⟩)]) (n := 66) (by decide) (by decide) rfl) ?_
  refine Eq.trans (regp_adv (m := 4) (j := 4) (t' := [(1, (V.ptr 1 0 0)), (3, (V.aref 3 0 (List.map enc_T_progenyref24_span x21).length)), (5, (I x20)), (40, (V.bool true)), (43, (V.aref 3 0 (List.map enc_T_progenyref24_span x21).length)), (44, (V.ptr 1 0 3)), (45, (sSlot (a0.fFields))), (46, (I x20))]) rfl rfl rfl) ?_
  refine Eq.trans (regp_pure (x := (idx a0.fFields x20)) (w := fun v22 => (V.pro (enc_T_api_Slot v22))) rfl rfl rfl rfl rfl (p_index (e := enc_T_api_Slot) rfl rfl rfl Go.Proofs.Try.underlying23 rfl (by decide))) ?_
  refine bindE (fun v22 => ?_)
  refine Eq.trans (putp_adv (m := 5) (j := 10) (t' := [(1, (V.ptr 1 0 0)), (3, (V.aref 3 0 (List.map enc_T_progenyref24_span x21).length)), (5, (I x20)), (40, (V.bool true)), (43, (V.aref 3 0 (List.map enc_T_progenyref24_span x21).length)), (44, (V.ptr 1 0 3)), (45, (sSlot (a0.fFields))), (46, (I x20)), (47, (V.pro (enc_T_api_Slot v22))), (48, (V.pro (I v22.fRow))), (49, (I v22.fRow)), (50, (V.ptr 1 0 3)), (51, (sSlot (a0.fFields))), (52, (I x20))]) rfl rfl rfl) ?_
  refine Eq.trans (regp_pure (x := (idx a0.fFields x20)) (w := fun v23 => (V.pro (enc_T_api_Slot v23))) rfl rfl rfl rfl rfl (p_index (e := enc_T_api_Slot) rfl rfl rfl Go.Proofs.Try.underlying23 rfl (by decide))) ?_
  refine bindE (fun v23 => ?_)
  refine Eq.trans (putp_adv (m := 5) (j := 16) (t' := [(1, (V.ptr 1 0 0)), (3, (V.aref 3 0 (List.map enc_T_progenyref24_span x21).length)), (5, (I x20)), (40, (V.bool true)), (43, (V.aref 3 0 (List.map enc_T_progenyref24_span x21).length)), (44, (V.ptr 1 0 3)), (45, (sSlot (a0.fFields))), (46, (I x20)), (47, (V.pro (enc_T_api_Slot v22))), (48, (V.pro (I v22.fRow))), (49, (I v22.fRow)), (50, (V.ptr 1 0 3)), (51, (sSlot (a0.fFields))), (52, (I x20)), (53, (V.pro (enc_T_api_Slot v23))), (54, (V.pro (I v23.fColumn))), (55, (I v23.fColumn)), (56, (V.ptr 1 0 3)), (57, (sSlot (a0.fFields))), (58, (I x20))]) rfl rfl rfl) ?_
  refine Eq.trans (regp_pure (x := (idx a0.fFields x20)) (w := fun v24 => (V.pro (enc_T_api_Slot v24))) rfl rfl rfl rfl rfl (p_index (e := enc_T_api_Slot) rfl rfl rfl Go.Proofs.Try.underlying23 rfl (by decide))) ?_
  refine bindE (fun v24 => ?_)
  refine Eq.trans (regp_reg (m := 0) (j := 21) (st' := ⟨[(1, (V.ptr 1 0 0)), (3, (V.aref 3 0 (List.map enc_T_progenyref24_span x21).length)), (5, (I x20)), (40, (V.bool true)), (43, (V.aref 3 0 (List.map enc_T_progenyref24_span x21).length)), (44, (V.ptr 1 0 3)), (45, (sSlot (a0.fFields))), (46, (I x20)), (47, (V.pro (enc_T_api_Slot v22))), (48, (V.pro (I v22.fRow))), (49, (I v22.fRow)), (50, (V.ptr 1 0 3)), (51, (sSlot (a0.fFields))), (52, (I x20)), (53, (V.pro (enc_T_api_Slot v23))), (54, (V.pro (I v23.fColumn))), (55, (I v23.fColumn)), (56, (V.ptr 1 0 3)), (57, (sSlot (a0.fFields))), (58, (I x20)), (59, (V.pro (enc_T_api_Slot v24))), (60, (V.pro (I v24.fBytes))), (61, (I v24.fBytes)), (62, (enc_T_progenyref24_span ({ frow := v22.fRow, fcolumn := v23.fColumn, fbytes := v24.fBytes } : T_progenyref24_span))), (63, (sspan (([({ frow := v22.fRow, fcolumn := v23.fColumn, fbytes := v24.fBytes } : T_progenyref24_span)] : List T_progenyref24_span))))], [(1, ⟨false, 4, [(enc_T_api_Form a0)]⟩), (3, ⟨true, 3, List.map enc_T_progenyref24_span x21⟩)], 66⟩) rfl rfl rfl) ?_
  refine Eq.trans (reg_eff (x := (app x21 ([({ frow := v22.fRow, fcolumn := v23.fColumn, fbytes := v24.fBytes } : T_progenyref24_span)] : List T_progenyref24_span))) (w := fun v25 => ((V.aref 3 0 (List.map enc_T_progenyref24_span v25).length), _)) rfl rfl rfl rfl (p_appF (e := enc_T_progenyref24_span) (l := x21) rfl rfl rfl rfl rfl rfl rfl rfl rfl rfl rfl (of_decide_eq_true rfl))) ?_
  refine bind_self (fun v25 => ?_)
  exact bind_end rfl
theorem f58r8 (k : Nat) (a0 : T_api_Form) (x20 : Int) (o26 : (List T_progenyref24_span)) : RE k f58a8 f58o8 false ⟨[(1, (V.ptr 1 0 0)), (3, (V.aref 3 0 (List.map enc_T_progenyref24_span o26).length)), (5, (I x20))], [(1, ⟨false, 4, [(enc_T_api_Form a0)]⟩), (3, ⟨true, 3, List.map enc_T_progenyref24_span o26⟩)], 66⟩ = some ⟨[(1, (V.ptr 1 0 0)), (3, (V.aref 3 0 (List.map enc_T_progenyref24_span o26).length)), (5, (I (Go.IntKind.wrap .i64 (x20 + 1))))], [(1, ⟨false, 4, [(enc_T_api_Form a0)]⟩), (3, ⟨true, 3, List.map enc_T_progenyref24_span o26⟩)], 66⟩ :=
  rE rfl
theorem ref24_spans_L2_ok (k : Nat) (a0 : T_api_Form)  (K0 : Int → (List T_progenyref24_span) → Option (List T_progenyref24_span)) (Kst : X × St → Option (V × List V)) (hK0 : ∀ (y0 : Int) (y1 : (List T_progenyref24_span)), Kst (X.exit 2, ⟨[(1, (V.ptr 1 0 0)), (3, (V.aref 3 0 (List.map enc_T_progenyref24_span y1).length)), (5, (I y0)), (40, (V.bool false))], [(1, ⟨false, 4, [(enc_T_api_Form a0)]⟩), (3, ⟨true, 3, List.map enc_T_progenyref24_span y1⟩)], 66⟩) = (K0 y0 y1).map ref24_spans_fin) (hret : ∀ s, Kst (X.ret, s) = endK prog 66 [(enc_T_api_Form a0)] [] [.tmp 2] (X.ret, s)) :
    ∀ (m : Nat) (x20 : Int) (x21 : (List T_progenyref24_span)), (iter (exec prog (EV k) f58n k f58b1) m ⟨[(1, (V.ptr 1 0 0)), (3, (V.aref 3 0 (List.map enc_T_progenyref24_span x21).length)), (5, (I x20))], [(1, ⟨false, 4, [(enc_T_api_Form a0)]⟩), (3, ⟨true, 3, List.map enc_T_progenyref24_span x21⟩)], 66⟩).bind Kst = (ref24_spans_L2 a0 K0 m x20 x21).map ref24_spans_fin := by
  intro m
  induction m with
  | zero => intros; rfl
  | succ m ih =>
    intro x20 x21
    unfold ref24_spans_L2
    refine Eq.trans k_round ?_
    refine Eq.trans k_assoc ?_
    refine Eq.trans (k_region0 rfl (f58r7 k a0 x20 x21)) ?_
    refine Eq.trans (k_cond (t := (decide (x20 < (a0.fFields.length : Int)))) rfl rfl) ?_
    refine bifE2 (fun hc => ?_) fun hc => ?_
    · rw [hc]
      refine Eq.trans k_skip ?_
      refine Eq.trans (k_block rfl) ?_
      refine Eq.trans (k_lregion rfl (f58r9 k a0 x20 x21)) ?_
      refine bindE (fun o26 => ?_)
      refine Eq.trans blk_normal ?_
      refine Eq.trans (k_lregion0 rfl (f58r8 k a0 x20 o26)) ?_
      refine Eq.trans loop_normal ?_
      exact ih (Go.IntKind.wrap .i64 (x20 + 1)) o26
    · rw [hc]
      refine Eq.trans k_exit ?_
      refine Eq.trans loop_exit ?_
      exact hK0 x20 x21
theorem f58r10 (k : Nat) (a0 : T_api_Form) (y27 : Int) (y28 : (List T_progenyref24_span)) : RE k f58a10 f58o10 false ⟨[(1, (V.ptr 1 0 0)), (3, (V.aref 3 0 (List.map enc_T_progenyref24_span y28).length)), (5, (I y27)), (40, (V.bool false))], [(1, ⟨false, 4, [(enc_T_api_Form a0)]⟩), (3, ⟨true, 3, List.map enc_T_progenyref24_span y28⟩)], 66⟩ = some ⟨[(2, (sspan (y28)))], [], 66⟩ := by
  refine rg ?_
  refine ra 1 1 ⟨[(1, (V.ptr 1 0 0)), (3, (V.aref 3 0 (List.map enc_T_progenyref24_span y28).length)), (5, (I y27)), (40, (V.bool false)), (65, (V.aref 3 0 (List.map enc_T_progenyref24_span y28).length))], [(1, ⟨false, 4, [(enc_T_api_Form a0)]⟩), (3, ⟨true, 3, List.map enc_T_progenyref24_span y28⟩)], 66⟩ rfl rfl rfl ?_
  refine Eq.trans (reg_eff (x := some ()) (w := fun _ => ((V.sl 2 3 (List.map enc_T_progenyref24_span y28)), _)) rfl rfl rfl rfl (p_close (e := enc_T_progenyref24_span) rfl rfl rfl rfl rfl (of_decide_eq_true rfl))) ?_
  refine Eq.trans some_bind ?_
  exact bind_end rfl
theorem ref24_spans_ok (k : Nat) (a0 : T_api_Form) : EV k 58 [(enc_T_api_Form a0)] = (ref24_spans k a0).map ref24_spans_fin := by
  cases k with
  | zero => rfl
  | succ k =>
    unfold ref24_spans
    refine Eq.trans (evF_succ (c := f58c) (N := 66) (regs := f58n) rfl Go.Proofs.Try.func58 rfl (by decide) rfl rfl rfl) ?_
    refine Eq.trans (k_region0 rfl (f58r0 k a0)) ?_
    refine Eq.trans (k_region0 rfl (f58r1 k a0)) ?_
    refine Eq.trans k_assoc ?_
    refine Eq.trans (k_region0 rfl (f58r2 k a0)) ?_
    refine Eq.trans (k_block rfl) ?_
    refine Eq.trans k_loop ?_
    refine ref24_spans_L1_ok k a0 _ _ ?h_ref24_spans_L1_0 ?hr_ref24_spans_L1 k 0 ([] : List T_progenyref24_span)
    · intro y13 y14
      refine Eq.trans blk_exit ?_
      refine Eq.trans k_assoc ?_
      refine Eq.trans (k_region0 rfl (f58r6 k a0 y13 y14)) ?_
      refine Eq.trans (k_block rfl) ?_
      refine Eq.trans k_loop ?_
      refine ref24_spans_L2_ok k a0 _ _ ?h_ref24_spans_L2_0 ?hr_ref24_spans_L2 k 0 y14
      · intro y27 y28
        refine Eq.trans blk_exit ?_
        refine Eq.trans (k_region0 rfl (f58r10 k a0 y27 y28)) ?_
        refine Eq.trans k_lret ?_
        rfl
      · intro s; exact rfl
    · intro s; exact rfl
def ref24_Valid_fin : Bool → V × List V := fun r => ((V.bool r), [])
theorem f25r0 (k : Nat) (a0 : T_api_Form) : RE k f25a0 f25o0 false ⟨[(0, (enc_T_api_Form a0))], [], 191⟩ = some ⟨[(1, (V.ptr 1 0 0))], [(1, ⟨false, 4, [(enc_T_api_Form a0)]⟩)], 191⟩ :=
  rE rfl
theorem f25r1 (k : Nat) (a0 : T_api_Form) : RE k f25a1 f25o1 false ⟨[(1, (V.ptr 1 0 0))], [(1, ⟨false, 4, [(enc_T_api_Form a0)]⟩)], 191⟩ = ((bif (decide (a0.fRows < 1)) then (some (true)) else (bif (decide (a0.fRows > 12)) then (some (true)) else (bif (decide (a0.fColumns < 10)) then (some (true)) else (bif (decide (a0.fColumns > 40)) then (some (true)) else (bif (decide ((a0.fMarks.length : Int) > 8)) then (some (true)) else (some ((decide ((a0.fFields.length : Int) > 10)))))))))).map (fun (o : Bool) => (⟨[(1, (V.ptr 1 0 0)), (37, (V.bool o))], [(1, ⟨false, 4, [(enc_T_api_Form a0)]⟩)], 191⟩ : St)) := by
  refine rg ?_
  refine ra 4 4 ⟨[(1, (V.ptr 1 0 0)), (8, (V.ptr 1 0 0)), (9, (I a0.fRows)), (10, (V.bool (decide (a0.fRows < 1)))), (11, (V.bool (decide (a0.fRows < 1))))], [(1, ⟨false, 4, [(enc_T_api_Form a0)]⟩)], 191⟩ rfl rfl rfl ?_
  refine bifE (c := (decide (a0.fRows < 1))) (fun hc => ?_) fun hc => ?_
  · rw [hc]
    exact reg_end rfl
  · rw [hc]
    refine ra 5 9 ⟨[(1, (V.ptr 1 0 0)), (8, (V.ptr 1 0 0)), (9, (I a0.fRows)), (10, (V.bool false)), (11, (V.bool false)), (12, (V.ptr 1 0 0)), (13, (I a0.fRows)), (14, (V.bool (decide (a0.fRows > 12)))), (15, (V.bool (decide (a0.fRows > 12)))), (16, (V.bool (decide (a0.fRows > 12))))], [(1, ⟨false, 4, [(enc_T_api_Form a0)]⟩)], 191⟩ rfl rfl rfl ?_
    refine bifE (c := (decide (a0.fRows > 12))) (fun hc => ?_) fun hc => ?_
    · rw [hc]
      exact reg_end rfl
    · rw [hc]
      refine ra 5 14 ⟨[(1, (V.ptr 1 0 0)), (8, (V.ptr 1 0 0)), (9, (I a0.fRows)), (10, (V.bool false)), (11, (V.bool false)), (12, (V.ptr 1 0 0)), (13, (I a0.fRows)), (14, (V.bool false)), (15, (V.bool false)), (16, (V.bool false)), (17, (V.ptr 1 0 1)), (18, (I a0.fColumns)), (19, (V.bool (decide (a0.fColumns < 10)))), (20, (V.bool (decide (a0.fColumns < 10)))), (21, (V.bool (decide (a0.fColumns < 10))))], [(1, ⟨false, 4, [(enc_T_api_Form a0)]⟩)], 191⟩ rfl rfl rfl ?_
      refine bifE (c := (decide (a0.fColumns < 10))) (fun hc => ?_) fun hc => ?_
      · rw [hc]
        exact reg_end rfl
      · rw [hc]
        refine ra 5 19 ⟨[(1, (V.ptr 1 0 0)), (8, (V.ptr 1 0 0)), (9, (I a0.fRows)), (10, (V.bool false)), (11, (V.bool false)), (12, (V.ptr 1 0 0)), (13, (I a0.fRows)), (14, (V.bool false)), (15, (V.bool false)), (16, (V.bool false)), (17, (V.ptr 1 0 1)), (18, (I a0.fColumns)), (19, (V.bool false)), (20, (V.bool false)), (21, (V.bool false)), (22, (V.ptr 1 0 1)), (23, (I a0.fColumns)), (24, (V.bool (decide (a0.fColumns > 40)))), (25, (V.bool (decide (a0.fColumns > 40)))), (26, (V.bool (decide (a0.fColumns > 40))))], [(1, ⟨false, 4, [(enc_T_api_Form a0)]⟩)], 191⟩ rfl rfl rfl ?_
        refine bifE (c := (decide (a0.fColumns > 40))) (fun hc => ?_) fun hc => ?_
        · rw [hc]
          exact reg_end rfl
        · rw [hc]
          refine ra 2 21 ⟨[(1, (V.ptr 1 0 0)), (8, (V.ptr 1 0 0)), (9, (I a0.fRows)), (10, (V.bool false)), (11, (V.bool false)), (12, (V.ptr 1 0 0)), (13, (I a0.fRows)), (14, (V.bool false)), (15, (V.bool false)), (16, (V.bool false)), (17, (V.ptr 1 0 1)), (18, (I a0.fColumns)), (19, (V.bool false)), (20, (V.bool false)), (21, (V.bool false)), (22, (V.ptr 1 0 1)), (23, (I a0.fColumns)), (24, (V.bool false)), (25, (V.bool false)), (26, (V.bool false)), (27, (V.ptr 1 0 2)), (28, (sMark (a0.fMarks)))], [(1, ⟨false, 4, [(enc_T_api_Form a0)]⟩)], 191⟩ rfl rfl rfl ?_
          refine Eq.trans (reg_pure (x := some ()) (w := fun _ => (I (a0.fMarks.length : Int))) rfl rfl rfl rfl (p_len (e := enc_T_api_Mark) rfl rfl rfl rfl rfl rfl Go.Proofs.Try.underlying22)) ?_
          refine Eq.trans some_bind ?_
          refine ba 3 25 ⟨[(1, (V.ptr 1 0 0)), (8, (V.ptr 1 0 0)), (9, (I a0.fRows)), (10, (V.bool false)), (11, (V.bool false)), (12, (V.ptr 1 0 0)), (13, (I a0.fRows)), (14, (V.bool false)), (15, (V.bool false)), (16, (V.bool false)), (17, (V.ptr 1 0 1)), (18, (I a0.fColumns)), (19, (V.bool false)), (20, (V.bool false)), (21, (V.bool false)), (22, (V.ptr 1 0 1)), (23, (I a0.fColumns)), (24, (V.bool false)), (25, (V.bool false)), (26, (V.bool false)), (27, (V.ptr 1 0 2)), (28, (sMark (a0.fMarks))), (29, (I (a0.fMarks.length : Int))), (30, (V.bool (decide ((a0.fMarks.length : Int) > 8)))), (31, (V.bool (decide ((a0.fMarks.length : Int) > 8)))), (32, (V.bool (decide ((a0.fMarks.length : Int) > 8))))], [(1, ⟨false, 4, [(enc_T_api_Form a0)]⟩)], 191⟩ rfl rfl rfl ?_
          refine bifE (c := (decide ((a0.fMarks.length : Int) > 8))) (fun hc => ?_) fun hc => ?_
          · rw [hc]
            exact reg_end rfl
          · rw [hc]
            refine ra 2 27 ⟨[(1, (V.ptr 1 0 0)), (8, (V.ptr 1 0 0)), (9, (I a0.fRows)), (10, (V.bool false)), (11, (V.bool false)), (12, (V.ptr 1 0 0)), (13, (I a0.fRows)), (14, (V.bool false)), (15, (V.bool false)), (16, (V.bool false)), (17, (V.ptr 1 0 1)), (18, (I a0.fColumns)), (19, (V.bool false)), (20, (V.bool false)), (21, (V.bool false)), (22, (V.ptr 1 0 1)), (23, (I a0.fColumns)), (24, (V.bool false)), (25, (V.bool false)), (26, (V.bool false)), (27, (V.ptr 1 0 2)), (28, (sMark (a0.fMarks))), (29, (I (a0.fMarks.length : Int))), (30, (V.bool false)), (31, (V.bool false)), (32, (V.bool false)), (33, (V.ptr 1 0 3)), (34, (sSlot (a0.fFields)))], [(1, ⟨false, 4, [(enc_T_api_Form a0)]⟩)], 191⟩ rfl rfl rfl ?_
            refine Eq.trans (reg_pure (x := some ()) (w := fun _ => (I (a0.fFields.length : Int))) rfl rfl rfl rfl (p_len (e := enc_T_api_Slot) rfl rfl rfl rfl rfl rfl Go.Proofs.Try.underlying23)) ?_
            refine Eq.trans some_bind ?_
            exact bind_end rfl
theorem f25r2 (k : Nat) (a0 : T_api_Form) : RE k f25a2 f25o2 false ⟨[(1, (V.ptr 1 0 0)), (37, (V.bool true))], [(1, ⟨false, 4, [(enc_T_api_Form a0)]⟩)], 191⟩ = some ⟨[(2, (V.bool false))], [], 191⟩ :=
  rE rfl
theorem f25r3 (k : Nat) (a0 : T_api_Form) : RE k f25a3 f25o3 false ⟨[(1, (V.ptr 1 0 0)), (37, (V.bool false))], [(1, ⟨false, 4, [(enc_T_api_Form a0)]⟩)], 191⟩ = some ⟨[(1, (V.ptr 1 0 0)), (3, (I 0))], [(1, ⟨false, 4, [(enc_T_api_Form a0)]⟩)], 191⟩ :=
  rE rfl
theorem f25r4 (k : Nat) (a0 : T_api_Form) (x5 : Int) : RE k f25a4 f25o4 false ⟨[(1, (V.ptr 1 0 0)), (3, (I x5))], [(1, ⟨false, 4, [(enc_T_api_Form a0)]⟩)], 191⟩ = some ⟨[(1, (V.ptr 1 0 0)), (3, (I x5)), (42, (V.bool (decide (x5 < (a0.fMarks.length : Int)))))], [(1, ⟨false, 4, [(enc_T_api_Form a0)]⟩)], 191⟩ := by
  refine rg ?_
  refine ra 3 3 ⟨[(1, (V.ptr 1 0 0)), (3, (I x5)), (38, (I x5)), (39, (V.ptr 1 0 2)), (40, (sMark (a0.fMarks)))], [(1, ⟨false, 4, [(enc_T_api_Form a0)]⟩)], 191⟩ rfl rfl rfl ?_
  refine Eq.trans (reg_pure (x := some ()) (w := fun _ => (I (a0.fMarks.length : Int))) rfl rfl rfl rfl (p_len (e := enc_T_api_Mark) rfl rfl rfl rfl rfl rfl Go.Proofs.Try.underlying22)) ?_
  refine Eq.trans some_bind ?_
  exact bind_end rfl
theorem f25r6 (k : Nat) (a0 : T_api_Form) (x5 : Int) : RE k f25a6 f25o6 false ⟨[(1, (V.ptr 1 0 0)), (3, (I x5)), (42, (V.bool true))], [(1, ⟨false, 4, [(enc_T_api_Form a0)]⟩)], 191⟩ = (((idx a0.fMarks x5).bind fun v6 => ((ref24_IsText k v6.fText).bind fun v7 => (some ((!v7)))))).map (fun (o : Bool) => (⟨[(1, (V.ptr 1 0 0)), (3, (I x5)), (52, (V.bool o))], [(1, ⟨false, 4, [(enc_T_api_Form a0)]⟩)], 191⟩ : St)) := by
  refine rg ?_
  refine ra 3 3 ⟨[(1, (V.ptr 1 0 0)), (3, (I x5)), (42, (V.bool true)), (45, (V.ptr 1 0 2)), (46, (sMark (a0.fMarks))), (47, (I x5))], [(1, ⟨false, 4, [(enc_T_api_Form a0)]⟩)], 191⟩ rfl rfl rfl ?_
  refine Eq.trans (reg_pure (x := (idx a0.fMarks x5)) (w := fun v6 => (V.pro (enc_T_api_Mark v6))) rfl rfl rfl rfl (p_index (e := enc_T_api_Mark) rfl rfl rfl Go.Proofs.Try.underlying22 rfl (by decide))) ?_
  refine bindE (fun v6 => ?_)
  refine ba 2 6 ⟨[(1, (V.ptr 1 0 0)), (3, (I x5)), (42, (V.bool true)), (45, (V.ptr 1 0 2)), (46, (sMark (a0.fMarks))), (47, (I x5)), (48, (V.pro (enc_T_api_Mark v6))), (49, (V.pro (V.str v6.fText))), (50, (V.str v6.fText))], [(1, ⟨false, 4, [(enc_T_api_Form a0)]⟩)], 191⟩ rfl rfl rfl ?_
  refine Eq.trans (reg_pure (x := (ref24_IsText k v6.fText)) (w := fun v7 => (V.bool v7)) rfl rfl rfl rfl (p_call rfl rfl rfl rfl rfl (ref24_IsText_ok k v6.fText) (.inl rfl))) ?_
  refine bindE (fun v7 => ?_)
  exact bind_end rfl
theorem f25r7 (k : Nat) (a0 : T_api_Form) (x5 : Int) : RE k f25a7 f25o7 false ⟨[(1, (V.ptr 1 0 0)), (3, (I x5)), (52, (V.bool true))], [(1, ⟨false, 4, [(enc_T_api_Form a0)]⟩)], 191⟩ = some ⟨[(2, (V.bool false))], [], 191⟩ :=
  rE rfl
theorem f25r5 (k : Nat) (a0 : T_api_Form) (x5 : Int) : RE k f25a5 f25o5 false ⟨[(1, (V.ptr 1 0 0)), (3, (I x5)), (52, (V.bool false))], [(1, ⟨false, 4, [(enc_T_api_Form a0)]⟩)], 191⟩ = some ⟨[(1, (V.ptr 1 0 0)), (3, (I (Go.IntKind.wrap .i64 (x5 + 1))))], [(1, ⟨false, 4, [(enc_T_api_Form a0)]⟩)], 191⟩ :=
  rE rfl
theorem ref24_Valid_L1_ok (k : Nat) (a0 : T_api_Form)  (K0 : Int → Option Bool) (Kst : X × St → Option (V × List V)) (hK0 : ∀ (y0 : Int), Kst (X.exit 0, ⟨[(1, (V.ptr 1 0 0)), (3, (I y0)), (42, (V.bool false))], [(1, ⟨false, 4, [(enc_T_api_Form a0)]⟩)], 191⟩) = (K0 y0).map ref24_Valid_fin) (hret : ∀ s, Kst (X.ret, s) = endK prog 191 [(enc_T_api_Form a0)] [] [.tmp 2] (X.ret, s)) :
    ∀ (m : Nat) (x5 : Int), (iter (exec prog (EV k) f25n k f25b0) m ⟨[(1, (V.ptr 1 0 0)), (3, (I x5))], [(1, ⟨false, 4, [(enc_T_api_Form a0)]⟩)], 191⟩).bind Kst = (ref24_Valid_L1 k a0 K0 m x5).map ref24_Valid_fin := by
  intro m
  induction m with
  | zero => intros; rfl
  | succ m ih =>
    intro x5
    unfold ref24_Valid_L1
    refine Eq.trans k_round ?_
    refine Eq.trans k_assoc ?_
    refine Eq.trans (k_region0 rfl (f25r4 k a0 x5)) ?_
    refine Eq.trans (k_cond (t := (decide (x5 < (a0.fMarks.length : Int)))) rfl rfl) ?_
    refine bifE2 (fun hc => ?_) fun hc => ?_
    · rw [hc]
      refine Eq.trans k_skip ?_
      refine Eq.trans (k_block rfl) ?_
      refine Eq.trans (k_region rfl (f25r6 k a0 x5)) ?_
      refine bindE (fun o8 => ?_)
      refine Eq.trans (k_lcond (t := o8) rfl rfl) ?_
      refine bifE2 (fun hc => ?_) fun hc => ?_
      · rw [hc]
        refine Eq.trans (k_region0 rfl (f25r7 k a0 x5)) ?_
        refine Eq.trans k_lret ?_
        refine Eq.trans blk_ret ?_
        refine Eq.trans loop_ret ?_
        refine Eq.trans (hret _) ?_
        rfl
      · rw [hc]
        refine Eq.trans k_lskip ?_
        refine Eq.trans blk_normal ?_
        refine Eq.trans (k_lregion0 rfl (f25r5 k a0 x5)) ?_
        refine Eq.trans loop_normal ?_
        exact ih (Go.IntKind.wrap .i64 (x5 + 1))
    · rw [hc]
      refine Eq.trans k_exit ?_
      refine Eq.trans loop_exit ?_
      exact hK0 x5
theorem f25r8 (k : Nat) (a0 : T_api_Form) (y9 : Int) : RE k f25a8 f25o8 false ⟨[(1, (V.ptr 1 0 0)), (3, (I y9)), (42, (V.bool false))], [(1, ⟨false, 4, [(enc_T_api_Form a0)]⟩)], 191⟩ = some ⟨[(1, (V.ptr 1 0 0)), (4, (I 0))], [(1, ⟨false, 4, [(enc_T_api_Form a0)]⟩)], 191⟩ :=
  rE rfl
theorem f25r9 (k : Nat) (a0 : T_api_Form) (x14 : Int) : RE k f25a9 f25o9 false ⟨[(1, (V.ptr 1 0 0)), (4, (I x14))], [(1, ⟨false, 4, [(enc_T_api_Form a0)]⟩)], 191⟩ = some ⟨[(1, (V.ptr 1 0 0)), (4, (I x14)), (57, (V.bool (decide (x14 < (a0.fFields.length : Int)))))], [(1, ⟨false, 4, [(enc_T_api_Form a0)]⟩)], 191⟩ := by
  refine rg ?_
  refine ra 3 3 ⟨[(1, (V.ptr 1 0 0)), (4, (I x14)), (53, (I x14)), (54, (V.ptr 1 0 3)), (55, (sSlot (a0.fFields)))], [(1, ⟨false, 4, [(enc_T_api_Form a0)]⟩)], 191⟩ rfl rfl rfl ?_
  refine Eq.trans (reg_pure (x := some ()) (w := fun _ => (I (a0.fFields.length : Int))) rfl rfl rfl rfl (p_len (e := enc_T_api_Slot) rfl rfl rfl rfl rfl rfl Go.Proofs.Try.underlying23)) ?_
  refine Eq.trans some_bind ?_
  exact bind_end rfl
theorem f25r11 (k : Nat) (a0 : T_api_Form) (x14 : Int) : RE k f25a11 f25o11 true ⟨[(1, (V.ptr 1 0 0)), (4, (I x14)), (57, (V.bool true))], [(1, ⟨false, 4, [(enc_T_api_Form a0)]⟩)], 191⟩ = (((cut a0.fFields 0 x14).bind fun v15 => ((idx a0.fFields x14).bind fun v16 => ((ref24_isField k v15 v16).bind fun v17 => (some ((!v17))))))).map (fun (o : Bool) => (⟨[(1, (V.ptr 1 0 0)), (4, (I x14)), (70, (V.bool o))], [(1, ⟨false, 4, [(enc_T_api_Form a0)]⟩)], 191⟩ : St)) := by
  refine Eq.trans (regionE_regp (p := 11) (dk := true) (t := [(1, (V.ptr 1 0 0)), (4, (I x14)), (57, (V.bool true))]) (σ := [(1, ⟨false, 4, [(enc_T_api_Form a0)]⟩)]) (n := 191) (by decide) (by decide) rfl) ?_
  refine Eq.trans (regp_adv (m := 3) (j := 3) (t' := [(1, (V.ptr 1 0 0)), (4, (I x14)), (57, (V.bool true)), (60, (V.ptr 1 0 3)), (61, (sSlot (a0.fFields))), (62, (I x14))]) rfl rfl rfl) ?_
  refine Eq.trans (regp_pure (x := (cut a0.fFields 0 x14)) (w := fun v15 => (sSlot v15)) rfl rfl rfl rfl rfl (p_slice (e := enc_T_api_Slot) rfl rfl rfl rfl rfl rfl Go.Proofs.Try.underlying23 rfl (by decide))) ?_
  refine bindE (fun v15 => ?_)
  refine Eq.trans (putp_adv (m := 3) (j := 7) (t' := [(1, (V.ptr 1 0 0)), (4, (I x14)), (57, (V.bool true)), (60, (V.ptr 1 0 3)), (61, (sSlot (a0.fFields))), (62, (I x14)), (63, (sSlot v15)), (64, (V.ptr 1 0 3)), (65, (sSlot (a0.fFields))), (66, (I x14))]) rfl rfl rfl) ?_
  refine Eq.trans (regp_pure (x := (idx a0.fFields x14)) (w := fun v16 => (V.pro (enc_T_api_Slot v16))) rfl rfl rfl rfl rfl (p_index (e := enc_T_api_Slot) rfl rfl rfl Go.Proofs.Try.underlying23 rfl (by decide))) ?_
  refine bindE (fun v16 => ?_)
  refine Eq.trans (putp_adv (m := 1) (j := 9) (t' := [(1, (V.ptr 1 0 0)), (4, (I x14)), (57, (V.bool true)), (60, (V.ptr 1 0 3)), (61, (sSlot (a0.fFields))), (62, (I x14)), (63, (sSlot v15)), (64, (V.ptr 1 0 3)), (65, (sSlot (a0.fFields))), (66, (I x14)), (67, (V.pro (enc_T_api_Slot v16))), (68, (enc_T_api_Slot v16))]) rfl rfl rfl) ?_
  refine Eq.trans (regp_pure (x := (ref24_isField k v15 v16)) (w := fun v17 => (V.bool v17)) rfl rfl rfl rfl rfl (p_call rfl rfl rfl rfl rfl (ref24_isField_ok k v15 v16) (.inl rfl))) ?_
  refine bindE (fun v17 => ?_)
  exact regp_end rfl
theorem f25r12 (k : Nat) (a0 : T_api_Form) (x14 : Int) : RE k f25a12 f25o12 false ⟨[(1, (V.ptr 1 0 0)), (4, (I x14)), (70, (V.bool true))], [(1, ⟨false, 4, [(enc_T_api_Form a0)]⟩)], 191⟩ = some ⟨[(2, (V.bool false))], [], 191⟩ :=
  rE rfl
theorem f25r10 (k : Nat) (a0 : T_api_Form) (x14 : Int) : RE k f25a10 f25o10 false ⟨[(1, (V.ptr 1 0 0)), (4, (I x14)), (70, (V.bool false))], [(1, ⟨false, 4, [(enc_T_api_Form a0)]⟩)], 191⟩ = some ⟨[(1, (V.ptr 1 0 0)), (4, (I (Go.IntKind.wrap .i64 (x14 + 1))))], [(1, ⟨false, 4, [(enc_T_api_Form a0)]⟩)], 191⟩ :=
  rE rfl
theorem ref24_Valid_L2_ok (k : Nat) (a0 : T_api_Form)  (K0 : Int → Option Bool) (Kst : X × St → Option (V × List V)) (hK0 : ∀ (y0 : Int), Kst (X.exit 2, ⟨[(1, (V.ptr 1 0 0)), (4, (I y0)), (57, (V.bool false))], [(1, ⟨false, 4, [(enc_T_api_Form a0)]⟩)], 191⟩) = (K0 y0).map ref24_Valid_fin) (hret : ∀ s, Kst (X.ret, s) = endK prog 191 [(enc_T_api_Form a0)] [] [.tmp 2] (X.ret, s)) :
    ∀ (m : Nat) (x14 : Int), (iter (exec prog (EV k) f25n k f25b1) m ⟨[(1, (V.ptr 1 0 0)), (4, (I x14))], [(1, ⟨false, 4, [(enc_T_api_Form a0)]⟩)], 191⟩).bind Kst = (ref24_Valid_L2 k a0 K0 m x14).map ref24_Valid_fin := by
  intro m
  induction m with
  | zero => intros; rfl
  | succ m ih =>
    intro x14
    unfold ref24_Valid_L2
    refine Eq.trans k_round ?_
    refine Eq.trans k_assoc ?_
    refine Eq.trans (k_region0 rfl (f25r9 k a0 x14)) ?_
    refine Eq.trans (k_cond (t := (decide (x14 < (a0.fFields.length : Int)))) rfl rfl) ?_
    refine bifE2 (fun hc => ?_) fun hc => ?_
    · rw [hc]
      refine Eq.trans k_skip ?_
      refine Eq.trans (k_block rfl) ?_
      refine Eq.trans (k_region rfl (f25r11 k a0 x14)) ?_
      refine bindE (fun o18 => ?_)
      refine Eq.trans (k_lcond (t := o18) rfl rfl) ?_
      refine bifE2 (fun hc => ?_) fun hc => ?_
      · rw [hc]
        refine Eq.trans (k_region0 rfl (f25r12 k a0 x14)) ?_
        refine Eq.trans k_lret ?_
        refine Eq.trans blk_ret ?_
        refine Eq.trans loop_ret ?_
        refine Eq.trans (hret _) ?_
        rfl
      · rw [hc]
        refine Eq.trans k_lskip ?_
        refine Eq.trans blk_normal ?_
        refine Eq.trans (k_lregion0 rfl (f25r10 k a0 x14)) ?_
        refine Eq.trans loop_normal ?_
        exact ih (Go.IntKind.wrap .i64 (x14 + 1))
    · rw [hc]
      refine Eq.trans k_exit ?_
      refine Eq.trans loop_exit ?_
      exact hK0 x14
theorem f25r13 (k : Nat) (a0 : T_api_Form) (y19 : Int) : RE k f25a13 f25o13 false ⟨[(1, (V.ptr 1 0 0)), (4, (I y19)), (57, (V.bool false))], [(1, ⟨false, 4, [(enc_T_api_Form a0)]⟩)], 191⟩ = ((ref24_spans k a0)).map (fun (o : (List T_progenyref24_span)) => (⟨[(1, (V.ptr 1 0 0)), (5, (sspan (o)))], [(1, ⟨false, 4, [(enc_T_api_Form a0)]⟩)], 191⟩ : St)) := by
  refine rg ?_
  refine ra 1 1 ⟨[(1, (V.ptr 1 0 0)), (4, (I y19)), (57, (V.bool false)), (71, (enc_T_api_Form a0))], [(1, ⟨false, 4, [(enc_T_api_Form a0)]⟩)], 191⟩ rfl rfl rfl ?_
  refine Eq.trans (reg_pure (x := (ref24_spans k a0)) (w := fun v20 => (sspan (v20))) rfl rfl rfl rfl (p_call rfl rfl rfl rfl rfl (ref24_spans_ok k a0) (.inl rfl))) ?_
  refine bind_self (fun v20 => ?_)
  exact bind_end rfl
theorem f25r14 (k : Nat) (a0 : T_api_Form) (o21 : (List T_progenyref24_span)) : RE k f25a14 f25o14 false ⟨[(1, (V.ptr 1 0 0)), (5, (sspan (o21)))], [(1, ⟨false, 4, [(enc_T_api_Form a0)]⟩)], 191⟩ = some ⟨[(1, (V.ptr 1 0 0)), (5, (sspan (o21))), (6, (I 0))], [(1, ⟨false, 4, [(enc_T_api_Form a0)]⟩)], 191⟩ :=
  rE rfl
theorem f25r15 (k : Nat) (a0 : T_api_Form) (o21 : (List T_progenyref24_span)) (x50 : Int) : RE k f25a15 f25o15 false ⟨[(1, (V.ptr 1 0 0)), (5, (sspan (o21))), (6, (I x50))], [(1, ⟨false, 4, [(enc_T_api_Form a0)]⟩)], 191⟩ = some ⟨[(1, (V.ptr 1 0 0)), (5, (sspan (o21))), (6, (I x50)), (76, (V.bool (decide (x50 < (o21.length : Int)))))], [(1, ⟨false, 4, [(enc_T_api_Form a0)]⟩)], 191⟩ := by
  refine rg ?_
  refine ra 2 2 ⟨[(1, (V.ptr 1 0 0)), (5, (sspan (o21))), (6, (I x50)), (73, (I x50)), (74, (sspan (o21)))], [(1, ⟨false, 4, [(enc_T_api_Form a0)]⟩)], 191⟩ rfl rfl rfl ?_
  refine Eq.trans (reg_pure (x := some ()) (w := fun _ => (I (o21.length : Int))) rfl rfl rfl rfl (p_len (e := enc_T_progenyref24_span) rfl rfl rfl rfl rfl rfl Go.Proofs.Try.underlying79)) ?_
  refine Eq.trans some_bind ?_
  exact bind_end rfl
theorem f25r17 (k : Nat) (a0 : T_api_Form) (o21 : (List T_progenyref24_span)) (x50 : Int) : RE k f25a17 f25o17 true ⟨[(1, (V.ptr 1 0 0)), (5, (sspan (o21))), (6, (I x50)), (76, (V.bool true))], [(1, ⟨false, 4, [(enc_T_api_Form a0)]⟩)], 191⟩ = (((idx o21 x50).bind fun v51 => (bif (decide (v51.frow < 0)) then (some (true)) else ((idx o21 x50).bind fun v52 => (bif (decide (v52.frow ≥ a0.fRows)) then (some (true)) else ((idx o21 x50).bind fun v53 => (bif (decide (v53.fcolumn < 0)) then (some (true)) else ((idx o21 x50).bind fun v54 => (bif (decide (v54.fcolumn ≥ a0.fColumns)) then (some (true)) else ((idx o21 x50).bind fun v55 => (bif (decide (v55.fbytes < 1)) then (some (true)) else ((idx o21 x50).bind fun v56 => ((idx o21 x50).bind fun v57 => (some ((decide (v56.fbytes > (Go.IntKind.wrap .i64 (a0.fColumns - v57.fcolumn))))))))))))))))))).map (fun (o : Bool) => (⟨[(1, (V.ptr 1 0 0)), (5, (sspan (o21))), (6, (I x50)), (136, (V.bool o))], [(1, ⟨false, 4, [(enc_T_api_Form a0)]⟩)], 191⟩ : St)) := by
  refine Eq.trans (regionE_regp (p := 58) (dk := true) (t := [(1, (V.ptr 1 0 0)), (5, (sspan (o21))), (6, (I x50)), (76, (V.bool true))]) (σ := [(1, ⟨false, 4, [(enc_T_api_Form a0)]⟩)]) (n := 191) (by decide) (by decide) rfl) ?_
  refine Eq.trans (regp_adv (m := 2) (j := 2) (t' := [(1, (V.ptr 1 0 0)), (5, (sspan (o21))), (6, (I x50)), (76, (V.bool true)), (79, (sspan (o21))), (80, (I x50))]) rfl rfl rfl) ?_
  refine Eq.trans (regp_pure (x := (idx o21 x50)) (w := fun v51 => (V.pro (enc_T_progenyref24_span v51))) rfl rfl rfl rfl rfl (p_index (e := enc_T_progenyref24_span) rfl rfl rfl Go.Proofs.Try.underlying79 rfl (by decide))) ?_
  refine bindE (fun v51 => ?_)
  refine Eq.trans (putp_adv (m := 4) (j := 7) (t' := [(1, (V.ptr 1 0 0)), (5, (sspan (o21))), (6, (I x50)), (76, (V.bool true)), (79, (sspan (o21))), (80, (I x50)), (81, (V.pro (enc_T_progenyref24_span v51))), (82, (V.pro (I v51.frow))), (83, (I v51.frow)), (84, (V.bool (decide (v51.frow < 0)))), (85, (V.bool (decide (v51.frow < 0))))]) rfl rfl rfl) ?_
  refine bifE (c := (decide (v51.frow < 0))) (fun hc => ?_) fun hc => ?_
  · rw [hc]
    exact regp_end rfl
  · rw [hc]
    refine Eq.trans (regp_adv (m := 2) (j := 9) (t' := [(1, (V.ptr 1 0 0)), (5, (sspan (o21))), (6, (I x50)), (76, (V.bool true)), (79, (sspan (o21))), (80, (I x50)), (81, (V.pro (enc_T_progenyref24_span v51))), (82, (V.pro (I v51.frow))), (83, (I v51.frow)), (84, (V.bool false)), (85, (V.bool false)), (86, (sspan (o21))), (87, (I x50))]) rfl rfl rfl) ?_
    refine Eq.trans (regp_pure (x := (idx o21 x50)) (w := fun v52 => (V.pro (enc_T_progenyref24_span v52))) rfl rfl rfl rfl rfl (p_index (e := enc_T_progenyref24_span) rfl rfl rfl Go.Proofs.Try.underlying79 rfl (by decide))) ?_
    refine bindE (fun v52 => ?_)
    refine Eq.trans (putp_adv (m := 7) (j := 17) (t' := [(1, (V.ptr 1 0 0)), (5, (sspan (o21))), (6, (I x50)), (76, (V.bool true)), (79, (sspan (o21))), (80, (I x50)), (81, (V.pro (enc_T_progenyref24_span v51))), (82, (V.pro (I v51.frow))), (83, (I v51.frow)), (84, (V.bool false)), (85, (V.bool false)), (86, (sspan (o21))), (87, (I x50)), (88, (V.pro (enc_T_progenyref24_span v52))), (89, (V.pro (I v52.frow))), (90, (I v52.frow)), (91, (V.ptr 1 0 0)), (92, (I a0.fRows)), (93, (V.bool (decide (v52.frow ≥ a0.fRows)))), (94, (V.bool (decide (v52.frow ≥ a0.fRows)))), (95, (V.bool (decide (v52.frow ≥ a0.fRows))))]) rfl rfl rfl) ?_
    refine bifE (c := (decide (v52.frow ≥ a0.fRows))) (fun hc => ?_) fun hc => ?_
    · rw [hc]
      exact regp_end rfl
    · rw [hc]
      refine Eq.trans (regp_adv (m := 2) (j := 19) (t' := [(1, (V.ptr 1 0 0)), (5, (sspan (o21))), (6, (I x50)), (76, (V.bool true)), (79, (sspan (o21))), (80, (I x50)), (81, (V.pro (enc_T_progenyref24_span v51))), (82, (V.pro (I v51.frow))), (83, (I v51.frow)), (84, (V.bool false)), (85, (V.bool false)), (86, (sspan (o21))), (87, (I x50)), (88, (V.pro (enc_T_progenyref24_span v52))), (89, (V.pro (I v52.frow))), (90, (I v52.frow)), (91, (V.ptr 1 0 0)), (92, (I a0.fRows)), (93, (V.bool false)), (94, (V.bool false)), (95, (V.bool false)), (96, (sspan (o21))), (97, (I x50))]) rfl rfl rfl) ?_
      refine Eq.trans (regp_pure (x := (idx o21 x50)) (w := fun v53 => (V.pro (enc_T_progenyref24_span v53))) rfl rfl rfl rfl rfl (p_index (e := enc_T_progenyref24_span) rfl rfl rfl Go.Proofs.Try.underlying79 rfl (by decide))) ?_
      refine bindE (fun v53 => ?_)
      refine Eq.trans (putp_adv (m := 5) (j := 25) (t' := [(1, (V.ptr 1 0 0)), (5, (sspan (o21))), (6, (I x50)), (76, (V.bool true)), (79, (sspan (o21))), (80, (I x50)), (81, (V.pro (enc_T_progenyref24_span v51))), (82, (V.pro (I v51.frow))), (83, (I v51.frow)), (84, (V.bool false)), (85, (V.bool false)), (86, (sspan (o21))), (87, (I x50)), (88, (V.pro (enc_T_progenyref24_span v52))), (89, (V.pro (I v52.frow))), (90, (I v52.frow)), (91, (V.ptr 1 0 0)), (92, (I a0.fRows)), (93, (V.bool false)), (94, (V.bool false)), (95, (V.bool false)), (96, (sspan (o21))), (97, (I x50)), (98, (V.pro (enc_T_progenyref24_span v53))), (99, (V.pro (I v53.fcolumn))), (100, (I v53.fcolumn)), (101, (V.bool (decide (v53.fcolumn < 0)))), (102, (V.bool (decide (v53.fcolumn < 0)))), (103, (V.bool (decide (v53.fcolumn < 0))))]) rfl rfl rfl) ?_
      refine bifE (c := (decide (v53.fcolumn < 0))) (fun hc => ?_) fun hc => ?_
      · rw [hc]
        exact regp_end rfl
      · rw [hc]
        refine Eq.trans (regp_adv (m := 2) (j := 27) (t' := [(1, (V.ptr 1 0 0)), (5, (sspan (o21))), (6, (I x50)), (76, (V.bool true)), (79, (sspan (o21))), (80, (I x50)), (81, (V.pro (enc_T_progenyref24_span v51))), (82, (V.pro (I v51.frow))), (83, (I v51.frow)), (84, (V.bool false)), (85, (V.bool false)), (86, (sspan (o21))), (87, (I x50)), (88, (V.pro (enc_T_progenyref24_span v52))), (89, (V.pro (I v52.frow))), (90, (I v52.frow)), (91, (V.ptr 1 0 0)), (92, (I a0.fRows)), (93, (V.bool false)), (94, (V.bool false)), (95, (V.bool false)), (96, (sspan (o21))), (97, (I x50)), (98, (V.pro (enc_T_progenyref24_span v53))), (99, (V.pro (I v53.fcolumn))), (100, (I v53.fcolumn)), (101, (V.bool false)), (102, (V.bool false)), (103, (V.bool false)), (104, (sspan (o21))), (105, (I x50))]) rfl rfl rfl) ?_
        refine Eq.trans (regp_pure (x := (idx o21 x50)) (w := fun v54 => (V.pro (enc_T_progenyref24_span v54))) rfl rfl rfl rfl rfl (p_index (e := enc_T_progenyref24_span) rfl rfl rfl Go.Proofs.Try.underlying79 rfl (by decide))) ?_
        refine bindE (fun v54 => ?_)
        refine Eq.trans (putp_adv (m := 7) (j := 35) (t' := [(1, (V.ptr 1 0 0)), (5, (sspan (o21))), (6, (I x50)), (76, (V.bool true)), (79, (sspan (o21))), (80, (I x50)), (81, (V.pro (enc_T_progenyref24_span v51))), (82, (V.pro (I v51.frow))), (83, (I v51.frow)), (84, (V.bool false)), (85, (V.bool false)), (86, (sspan (o21))), (87, (I x50)), (88, (V.pro (enc_T_progenyref24_span v52))), (89, (V.pro (I v52.frow))), (90, (I v52.frow)), (91, (V.ptr 1 0 0)), (92, (I a0.fRows)), (93, (V.bool false)), (94, (V.bool false)), (95, (V.bool false)), (96, (sspan (o21))), (97, (I x50)), (98, (V.pro (enc_T_progenyref24_span v53))), (99, (V.pro (I v53.fcolumn))), (100, (I v53.fcolumn)), (101, (V.bool false)), (102, (V.bool false)), (103, (V.bool false)), (104, (sspan (o21))), (105, (I x50)), (106, (V.pro (enc_T_progenyref24_span v54))), (107, (V.pro (I v54.fcolumn))), (108, (I v54.fcolumn)), (109, (V.ptr 1 0 1)), (110, (I a0.fColumns)), (111, (V.bool (decide (v54.fcolumn ≥ a0.fColumns)))), (112, (V.bool (decide (v54.fcolumn ≥ a0.fColumns)))), (113, (V.bool (decide (v54.fcolumn ≥ a0.fColumns))))]) rfl rfl rfl) ?_
        refine bifE (c := (decide (v54.fcolumn ≥ a0.fColumns))) (fun hc => ?_) fun hc => ?_
        · rw [hc]
          exact regp_end rfl
        · rw [hc]
          refine Eq.trans (regp_adv (m := 2) (j := 37) (t' := [(1, (V.ptr 1 0 0)), (5, (sspan (o21))), (6, (I x50)), (76, (V.bool true)), (79, (sspan (o21))), (80, (I x50)), (81, (V.pro (enc_T_progenyref24_span v51))), (82, (V.pro (I v51.frow))), (83, (I v51.frow)), (84, (V.bool false)), (85, (V.bool false)), (86, (sspan (o21))), (87, (I x50)), (88, (V.pro (enc_T_progenyref24_span v52))), (89, (V.pro (I v52.frow))), (90, (I v52.frow)), (91, (V.ptr 1 0 0)), (92, (I a0.fRows)), (93, (V.bool false)), (94, (V.bool false)), (95, (V.bool false)), (96, (sspan (o21))), (97, (I x50)), (98, (V.pro (enc_T_progenyref24_span v53))), (99, (V.pro (I v53.fcolumn))), (100, (I v53.fcolumn)), (101, (V.bool false)), (102, (V.bool false)), (103, (V.bool false)), (104, (sspan (o21))), (105, (I x50)), (106, (V.pro (enc_T_progenyref24_span v54))), (107, (V.pro (I v54.fcolumn))), (108, (I v54.fcolumn)), (109, (V.ptr 1 0 1)), (110, (I a0.fColumns)), (111, (V.bool false)), (112, (V.bool false)), (113, (V.bool false)), (114, (sspan (o21))), (115, (I x50))]) rfl rfl rfl) ?_
          refine Eq.trans (regp_pure (x := (idx o21 x50)) (w := fun v55 => (V.pro (enc_T_progenyref24_span v55))) rfl rfl rfl rfl rfl (p_index (e := enc_T_progenyref24_span) rfl rfl rfl Go.Proofs.Try.underlying79 rfl (by decide))) ?_
          refine bindE (fun v55 => ?_)
          refine Eq.trans (putp_adv (m := 5) (j := 43) (t' := [(1, (V.ptr 1 0 0)), (5, (sspan (o21))), (6, (I x50)), (76, (V.bool true)), (79, (sspan (o21))), (80, (I x50)), (81, (V.pro (enc_T_progenyref24_span v51))), (82, (V.pro (I v51.frow))), (83, (I v51.frow)), (84, (V.bool false)), (85, (V.bool false)), (86, (sspan (o21))), (87, (I x50)), (88, (V.pro (enc_T_progenyref24_span v52))), (89, (V.pro (I v52.frow))), (90, (I v52.frow)), (91, (V.ptr 1 0 0)), (92, (I a0.fRows)), (93, (V.bool false)), (94, (V.bool false)), (95, (V.bool false)), (96, (sspan (o21))), (97, (I x50)), (98, (V.pro (enc_T_progenyref24_span v53))), (99, (V.pro (I v53.fcolumn))), (100, (I v53.fcolumn)), (101, (V.bool false)), (102, (V.bool false)), (103, (V.bool false)), (104, (sspan (o21))), (105, (I x50)), (106, (V.pro (enc_T_progenyref24_span v54))), (107, (V.pro (I v54.fcolumn))), (108, (I v54.fcolumn)), (109, (V.ptr 1 0 1)), (110, (I a0.fColumns)), (111, (V.bool false)), (112, (V.bool false)), (113, (V.bool false)), (114, (sspan (o21))), (115, (I x50)), (116, (V.pro (enc_T_progenyref24_span v55))), (117, (V.pro (I v55.fbytes))), (118, (I v55.fbytes)), (119, (V.bool (decide (v55.fbytes < 1)))), (120, (V.bool (decide (v55.fbytes < 1)))), (121, (V.bool (decide (v55.fbytes < 1))))]) rfl rfl rfl) ?_
          refine bifE (c := (decide (v55.fbytes < 1))) (fun hc => ?_) fun hc => ?_
          · rw [hc]
            exact regp_end rfl
          · rw [hc]
            refine Eq.trans (regp_adv (m := 2) (j := 45) (t' := [(1, (V.ptr 1 0 0)), (5, (sspan (o21))), (6, (I x50)), (76, (V.bool true)), (79, (sspan (o21))), (80, (I x50)), (81, (V.pro (enc_T_progenyref24_span v51))), (82, (V.pro (I v51.frow))), (83, (I v51.frow)), (84, (V.bool false)), (85, (V.bool false)), (86, (sspan (o21))), (87, (I x50)), (88, (V.pro (enc_T_progenyref24_span v52))), (89, (V.pro (I v52.frow))), (90, (I v52.frow)), (91, (V.ptr 1 0 0)), (92, (I a0.fRows)), (93, (V.bool false)), (94, (V.bool false)), (95, (V.bool false)), (96, (sspan (o21))), (97, (I x50)), (98, (V.pro (enc_T_progenyref24_span v53))), (99, (V.pro (I v53.fcolumn))), (100, (I v53.fcolumn)), (101, (V.bool false)), (102, (V.bool false)), (103, (V.bool false)), (104, (sspan (o21))), (105, (I x50)), (106, (V.pro (enc_T_progenyref24_span v54))), (107, (V.pro (I v54.fcolumn))), (108, (I v54.fcolumn)), (109, (V.ptr 1 0 1)), (110, (I a0.fColumns)), (111, (V.bool false)), (112, (V.bool false)), (113, (V.bool false)), (114, (sspan (o21))), (115, (I x50)), (116, (V.pro (enc_T_progenyref24_span v55))), (117, (V.pro (I v55.fbytes))), (118, (I v55.fbytes)), (119, (V.bool false)), (120, (V.bool false)), (121, (V.bool false)), (122, (sspan (o21))), (123, (I x50))]) rfl rfl rfl) ?_
            refine Eq.trans (regp_pure (x := (idx o21 x50)) (w := fun v56 => (V.pro (enc_T_progenyref24_span v56))) rfl rfl rfl rfl rfl (p_index (e := enc_T_progenyref24_span) rfl rfl rfl Go.Proofs.Try.underlying79 rfl (by decide))) ?_
            refine bindE (fun v56 => ?_)
            refine Eq.trans (putp_adv (m := 6) (j := 52) (t' := [(1, (V.ptr 1 0 0)), (5, (sspan (o21))), (6, (I x50)), (76, (V.bool true)), (79, (sspan (o21))), (80, (I x50)), (81, (V.pro (enc_T_progenyref24_span v51))), (82, (V.pro (I v51.frow))), (83, (I v51.frow)), (84, (V.bool false)), (85, (V.bool false)), (86, (sspan (o21))), (87, (I x50)), (88, (V.pro (enc_T_progenyref24_span v52))), (89, (V.pro (I v52.frow))), (90, (I v52.frow)), (91, (V.ptr 1 0 0)), (92, (I a0.fRows)), (93, (V.bool false)), (94, (V.bool false)), (95, (V.bool false)), (96, (sspan (o21))), (97, (I x50)), (98, (V.pro (enc_T_progenyref24_span v53))), (99, (V.pro (I v53.fcolumn))), (100, (I v53.fcolumn)), (101, (V.bool false)), (102, (V.bool false)), (103, (V.bool false)), (104, (sspan (o21))), (105, (I x50)), (106, (V.pro (enc_T_progenyref24_span v54))), (107, (V.pro (I v54.fcolumn))), (108, (I v54.fcolumn)), (109, (V.ptr 1 0 1)), (110, (I a0.fColumns)), (111, (V.bool false)), (112, (V.bool false)), (113, (V.bool false)), (114, (sspan (o21))), (115, (I x50)), (116, (V.pro (enc_T_progenyref24_span v55))), (117, (V.pro (I v55.fbytes))), (118, (I v55.fbytes)), (119, (V.bool false)), (120, (V.bool false)), (121, (V.bool false)), (122, (sspan (o21))), (123, (I x50)), (124, (V.pro (enc_T_progenyref24_span v56))), (125, (V.pro (I v56.fbytes))), (126, (I v56.fbytes)), (127, (V.ptr 1 0 1)), (128, (I a0.fColumns)), (129, (sspan (o21))), (130, (I x50))]) rfl rfl rfl) ?_
            refine Eq.trans (regp_pure (x := (idx o21 x50)) (w := fun v57 => (V.pro (enc_T_progenyref24_span v57))) rfl rfl rfl rfl rfl (p_index (e := enc_T_progenyref24_span) rfl rfl rfl Go.Proofs.Try.underlying79 rfl (by decide))) ?_
            refine bindE (fun v57 => ?_)
            exact regp_end rfl
theorem f25r18 (k : Nat) (a0 : T_api_Form) (o21 : (List T_progenyref24_span)) (x50 : Int) : RE k f25a18 f25o18 false ⟨[(1, (V.ptr 1 0 0)), (5, (sspan (o21))), (6, (I x50)), (136, (V.bool true))], [(1, ⟨false, 4, [(enc_T_api_Form a0)]⟩)], 191⟩ = some ⟨[(2, (V.bool false))], [], 191⟩ :=
  rE rfl
theorem f25r19 (k : Nat) (a0 : T_api_Form) (o21 : (List T_progenyref24_span)) (x50 : Int) : RE k f25a19 f25o19 false ⟨[(1, (V.ptr 1 0 0)), (5, (sspan (o21))), (6, (I x50)), (136, (V.bool false))], [(1, ⟨false, 4, [(enc_T_api_Form a0)]⟩)], 191⟩ = some ⟨[(1, (V.ptr 1 0 0)), (5, (sspan (o21))), (6, (I x50)), (7, (I 0))], [(1, ⟨false, 4, [(enc_T_api_Form a0)]⟩)], 191⟩ :=
  rE rfl
theorem f25r20 (k : Nat) (a0 : T_api_Form) (o21 : (List T_progenyref24_span)) (x50 : Int) (x68 : Int) : RE k f25a20 f25o20 false ⟨[(1, (V.ptr 1 0 0)), (5, (sspan (o21))), (6, (I x50)), (7, (I x68))], [(1, ⟨false, 4, [(enc_T_api_Form a0)]⟩)], 191⟩ = some ⟨[(1, (V.ptr 1 0 0)), (5, (sspan (o21))), (6, (I x50)), (7, (I x68)), (139, (V.bool (decide (x68 < x50))))], [(1, ⟨false, 4, [(enc_T_api_Form a0)]⟩)], 191⟩ :=
  rE rfl
theorem f25r22 (k : Nat) (a0 : T_api_Form) (o21 : (List T_progenyref24_span)) (x50 : Int) (x68 : Int) : RE k f25a22 f25o22 true ⟨[(1, (V.ptr 1 0 0)), (5, (sspan (o21))), (6, (I x50)), (7, (I x68)), (139, (V.bool true))], [(1, ⟨false, 4, [(enc_T_api_Form a0)]⟩)], 191⟩ = (((idx o21 x68).bind fun v69 => ((idx o21 x50).bind fun v70 => (bif (v69.frow == v70.frow) then ((idx o21 x68).bind fun v71 => ((idx o21 x50).bind fun v72 => ((idx o21 x50).bind fun v73 => (bif (decide (v71.fcolumn < (Go.IntKind.wrap .i64 (v72.fcolumn + v73.fbytes)))) then ((idx o21 x50).bind fun v74 => ((idx o21 x68).bind fun v75 => ((idx o21 x68).bind fun v76 => (some ((decide (v74.fcolumn < (Go.IntKind.wrap .i64 (v75.fcolumn + v76.fbytes))))))))) else (some (false)))))) else (some (false)))))).map (fun (o : Bool) => (⟨[(1, (V.ptr 1 0 0)), (5, (sspan (o21))), (6, (I x50)), (7, (I x68)), (190, (V.bool o))], [(1, ⟨false, 4, [(enc_T_api_Form a0)]⟩)], 191⟩ : St)) := by
  refine Eq.trans (regionE_regp (p := 49) (dk := true) (t := [(1, (V.ptr 1 0 0)), (5, (sspan (o21))), (6, (I x50)), (7, (I x68)), (139, (V.bool true))]) (σ := [(1, ⟨false, 4, [(enc_T_api_Form a0)]⟩)]) (n := 191) (by decide) (by decide) rfl) ?_
  refine Eq.trans (regp_adv (m := 2) (j := 2) (t' := [(1, (V.ptr 1 0 0)), (5, (sspan (o21))), (6, (I x50)), (7, (I x68)), (139, (V.bool true)), (142, (sspan (o21))), (143, (I x68))]) rfl rfl rfl) ?_
  refine Eq.trans (regp_pure (x := (idx o21 x68)) (w := fun v69 => (V.pro (enc_T_progenyref24_span v69))) rfl rfl rfl rfl rfl (p_index (e := enc_T_progenyref24_span) rfl rfl rfl Go.Proofs.Try.underlying79 rfl (by decide))) ?_
  refine bindE (fun v69 => ?_)
  refine Eq.trans (putp_adv (m := 4) (j := 7) (t' := [(1, (V.ptr 1 0 0)), (5, (sspan (o21))), (6, (I x50)), (7, (I x68)), (139, (V.bool true)), (142, (sspan (o21))), (143, (I x68)), (144, (V.pro (enc_T_progenyref24_span v69))), (145, (V.pro (I v69.frow))), (146, (I v69.frow)), (147, (sspan (o21))), (148, (I x50))]) rfl rfl rfl) ?_
  refine Eq.trans (regp_pure (x := (idx o21 x50)) (w := fun v70 => (V.pro (enc_T_progenyref24_span v70))) rfl rfl rfl rfl rfl (p_index (e := enc_T_progenyref24_span) rfl rfl rfl Go.Proofs.Try.underlying79 rfl (by decide))) ?_
  refine bindE (fun v70 => ?_)
  refine Eq.trans (putp_adv (m := 4) (j := 12) (t' := [(1, (V.ptr 1 0 0)), (5, (sspan (o21))), (6, (I x50)), (7, (I x68)), (139, (V.bool true)), (142, (sspan (o21))), (143, (I x68)), (144, (V.pro (enc_T_progenyref24_span v69))), (145, (V.pro (I v69.frow))), (146, (I v69.frow)), (147, (sspan (o21))), (148, (I x50)), (149, (V.pro (enc_T_progenyref24_span v70))), (150, (V.pro (I v70.frow))), (151, (I v70.frow)), (152, (V.bool (v69.frow == v70.frow))), (153, (V.bool (v69.frow == v70.frow)))]) rfl rfl rfl) ?_
  refine bifE (c := (v69.frow == v70.frow)) (fun hc => ?_) fun hc => ?_
  · rw [hc]
    refine Eq.trans (regp_adv (m := 2) (j := 14) (t' := [(1, (V.ptr 1 0 0)), (5, (sspan (o21))), (6, (I x50)), (7, (I x68)), (139, (V.bool true)), (142, (sspan (o21))), (143, (I x68)), (144, (V.pro (enc_T_progenyref24_span v69))), (145, (V.pro (I v69.frow))), (146, (I v69.frow)), (147, (sspan (o21))), (148, (I x50)), (149, (V.pro (enc_T_progenyref24_span v70))), (150, (V.pro (I v70.frow))), (151, (I v70.frow)), (152, (V.bool true)), (153, (V.bool true)), (154, (sspan (o21))), (155, (I x68))]) rfl rfl rfl) ?_
    refine Eq.trans (regp_pure (x := (idx o21 x68)) (w := fun v71 => (V.pro (enc_T_progenyref24_span v71))) rfl rfl rfl rfl rfl (p_index (e := enc_T_progenyref24_span) rfl rfl rfl Go.Proofs.Try.underlying79 rfl (by decide))) ?_
    refine bindE (fun v71 => ?_)
    refine Eq.trans (putp_adv (m := 4) (j := 19) (t' := [(1, (V.ptr 1 0 0)), (5, (sspan (o21))), (6, (I x50)), (7, (I x68)), (139, (V.bool true)), (142, (sspan (o21))), (143, (I x68)), (144, (V.pro (enc_T_progenyref24_span v69))), (145, (V.pro (I v69.frow))), (146, (I v69.frow)), (147, (sspan (o21))), (148, (I x50)), (149, (V.pro (enc_T_progenyref24_span v70))), (150, (V.pro (I v70.frow))), (151, (I v70.frow)), (152, (V.bool true)), (153, (V.bool true)), (154, (sspan (o21))), (155, (I x68)), (156, (V.pro (enc_T_progenyref24_span v71))), (157, (V.pro (I v71.fcolumn))), (158, (I v71.fcolumn)), (159, (sspan (o21))), (160, (I x50))]) rfl rfl rfl) ?_
    refine Eq.trans (regp_pure (x := (idx o21 x50)) (w := fun v72 => (V.pro (enc_T_progenyref24_span v72))) rfl rfl rfl rfl rfl (p_index (e := enc_T_progenyref24_span) rfl rfl rfl Go.Proofs.Try.underlying79 rfl (by decide))) ?_
    refine bindE (fun v72 => ?_)
    refine Eq.trans (putp_adv (m := 4) (j := 24) (t' := [(1, (V.ptr 1 0 0)), (5, (sspan (o21))), (6, (I x50)), (7, (I x68)), (139, (V.bool true)), (142, (sspan (o21))), (143, (I x68)), (144, (V.pro (enc_T_progenyref24_span v69))), (145, (V.pro (I v69.frow))), (146, (I v69.frow)), (147, (sspan (o21))), (148, (I x50)), (149, (V.pro (enc_T_progenyref24_span v70))), (150, (V.pro (I v70.frow))), (151, (I v70.frow)), (152, (V.bool true)), (153, (V.bool true)), (154, (sspan (o21))), (155, (I x68)), (156, (V.pro (enc_T_progenyref24_span v71))), (157, (V.pro (I v71.fcolumn))), (158, (I v71.fcolumn)), (159, (sspan (o21))), (160, (I x50)), (161, (V.pro (enc_T_progenyref24_span v72))), (162, (V.pro (I v72.fcolumn))), (163, (I v72.fcolumn)), (164, (sspan (o21))), (165, (I x50))]) rfl rfl rfl) ?_
    refine Eq.trans (regp_pure (x := (idx o21 x50)) (w := fun v73 => (V.pro (enc_T_progenyref24_span v73))) rfl rfl rfl rfl rfl (p_index (e := enc_T_progenyref24_span) rfl rfl rfl Go.Proofs.Try.underlying79 rfl (by decide))) ?_
    refine bindE (fun v73 => ?_)
    refine Eq.trans (putp_adv (m := 6) (j := 31) (t' := [(1, (V.ptr 1 0 0)), (5, (sspan (o21))), (6, (I x50)), (7, (I x68)), (139, (V.bool true)), (142, (sspan (o21))), (143, (I x68)), (144, (V.pro (enc_T_progenyref24_span v69))), (145, (V.pro (I v69.frow))), (146, (I v69.frow)), (147, (sspan (o21))), (148, (I x50)), (149, (V.pro (enc_T_progenyref24_span v70))), (150, (V.pro (I v70.frow))), (151, (I v70.frow)), (152, (V.bool true)), (153, (V.bool true)), (154, (sspan (o21))), (155, (I x68)), (156, (V.pro (enc_T_progenyref24_span v71))), (157, (V.pro (I v71.fcolumn))), (158, (I v71.fcolumn)), (159, (sspan (o21))), (160, (I x50)), (161, (V.pro (enc_T_progenyref24_span v72))), (162, (V.pro (I v72.fcolumn))), (163, (I v72.fcolumn)), (164, (sspan (o21))), (165, (I x50)), (166, (V.pro (enc_T_progenyref24_span v73))), (167, (V.pro (I v73.fbytes))), (168, (I v73.fbytes)), (169, (I (Go.IntKind.wrap .i64 (v72.fcolumn + v73.fbytes)))), (170, (V.bool (decide (v71.fcolumn < (Go.IntKind.wrap .i64 (v72.fcolumn + v73.fbytes)))))), (171, (V.bool (decide (v71.fcolumn < (Go.IntKind.wrap .i64 (v72.fcolumn + v73.fbytes)))))), (172, (V.bool (decide (v71.fcolumn < (Go.IntKind.wrap .i64 (v72.fcolumn + v73.fbytes))))))]) rfl rfl rfl) ?_
    refine bifE (c := (decide (v71.fcolumn < (Go.IntKind.wrap .i64 (v72.fcolumn + v73.fbytes))))) (fun hc => ?_) fun hc => ?_
    · rw [hc]
      refine Eq.trans (regp_adv (m := 2) (j := 33) (t' := [(1, (V.ptr 1 0 0)), (5, (sspan (o21))), (6, (I x50)), (7, (I x68)), (139, (V.bool true)), (142, (sspan (o21))), (143, (I x68)), (144, (V.pro (enc_T_progenyref24_span v69))), (145, (V.pro (I v69.frow))), (146, (I v69.frow)), (147, (sspan (o21))), (148, (I x50)), (149, (V.pro (enc_T_progenyref24_span v70))), (150, (V.pro (I v70.frow))), (151, (I v70.frow)), (152, (V.bool true)), (153, (V.bool true)), (154, (sspan (o21))), (155, (I x68)), (156, (V.pro (enc_T_progenyref24_span v71))), (157, (V.pro (I v71.fcolumn))), (158, (I v71.fcolumn)), (159, (sspan (o21))), (160, (I x50)), (161, (V.pro (enc_T_progenyref24_span v72))), (162, (V.pro (I v72.fcolumn))), (163, (I v72.fcolumn)), (164, (sspan (o21))), (165, (I x50)), (166, (V.pro (enc_T_progenyref24_span v73))), (167, (V.pro (I v73.fbytes))), (168, (I v73.fbytes)), (169, (I (Go.IntKind.wrap .i64 (v72.fcolumn + v73.fbytes)))), (170, (V.bool true)), (171, (V.bool true)), (172, (V.bool true)), (173, (sspan (o21))), (174, (I x50))]) rfl rfl rfl) ?_
      refine Eq.trans (regp_pure (x := (idx o21 x50)) (w := fun v74 => (V.pro (enc_T_progenyref24_span v74))) rfl rfl rfl rfl rfl (p_index (e := enc_T_progenyref24_span) rfl rfl rfl Go.Proofs.Try.underlying79 rfl (by decide))) ?_
      refine bindE (fun v74 => ?_)
      refine Eq.trans (putp_adv (m := 4) (j := 38) (t' := [(1, (V.ptr 1 0 0)), (5, (sspan (o21))), (6, (I x50)), (7, (I x68)), (139, (V.bool true)), (142, (sspan (o21))), (143, (I x68)), (144, (V.pro (enc_T_progenyref24_span v69))), (145, (V.pro (I v69.frow))), (146, (I v69.frow)), (147, (sspan (o21))), (148, (I x50)), (149, (V.pro (enc_T_progenyref24_span v70))), (150, (V.pro (I v70.frow))), (151, (I v70.frow)), (152, (V.bool true)), (153, (V.bool true)), (154, (sspan (o21))), (155, (I x68)), (156, (V.pro (enc_T_progenyref24_span v71))), (157, (V.pro (I v71.fcolumn))), (158, (I v71.fcolumn)), (159, (sspan (o21))), (160, (I x50)), (161, (V.pro (enc_T_progenyref24_span v72))), (162, (V.pro (I v72.fcolumn))), (163, (I v72.fcolumn)), (164, (sspan (o21))), (165, (I x50)), (166, (V.pro (enc_T_progenyref24_span v73))), (167, (V.pro (I v73.fbytes))), (168, (I v73.fbytes)), (169, (I (Go.IntKind.wrap .i64 (v72.fcolumn + v73.fbytes)))), (170, (V.bool true)), (171, (V.bool true)), (172, (V.bool true)), (173, (sspan (o21))), (174, (I x50)), (175, (V.pro (enc_T_progenyref24_span v74))), (176, (V.pro (I v74.fcolumn))), (177, (I v74.fcolumn)), (178, (sspan (o21))), (179, (I x68))]) rfl rfl rfl) ?_
      refine Eq.trans (regp_pure (x := (idx o21 x68)) (w := fun v75 => (V.pro (enc_T_progenyref24_span v75))) rfl rfl rfl rfl rfl (p_index (e := enc_T_progenyref24_span) rfl rfl rfl Go.Proofs.Try.underlying79 rfl (by decide))) ?_
      refine bindE (fun v75 => ?_)
      refine Eq.trans (putp_adv (m := 4) (j := 43) (t' := [(1, (V.ptr 1 0 0)), (5, (sspan (o21))), (6, (I x50)), (7, (I x68)), (139, (V.bool true)), (142, (sspan (o21))), (143, (I x68)), (144, (V.pro (enc_T_progenyref24_span v69))), (145, (V.pro (I v69.frow))), (146, (I v69.frow)), (147, (sspan (o21))), (148, (I x50)), (149, (V.pro (enc_T_progenyref24_span v70))), (150, (V.pro (I v70.frow))), (151, (I v70.frow)), (152, (V.bool true)), (153, (V.bool true)), (154, (sspan (o21))), (155, (I x68)), (156, (V.pro (enc_T_progenyref24_span v71))), (157, (V.pro (I v71.fcolumn))), (158, (I v71.fcolumn)), (159, (sspan (o21))), (160, (I x50)), (161, (V.pro (enc_T_progenyref24_span v72))), (162, (V.pro (I v72.fcolumn))), (163, (I v72.fcolumn)), (164, (sspan (o21))), (165, (I x50)), (166, (V.pro (enc_T_progenyref24_span v73))), (167, (V.pro (I v73.fbytes))), (168, (I v73.fbytes)), (169, (I (Go.IntKind.wrap .i64 (v72.fcolumn + v73.fbytes)))), (170, (V.bool true)), (171, (V.bool true)), (172, (V.bool true)), (173, (sspan (o21))), (174, (I x50)), (175, (V.pro (enc_T_progenyref24_span v74))), (176, (V.pro (I v74.fcolumn))), (177, (I v74.fcolumn)), (178, (sspan (o21))), (179, (I x68)), (180, (V.pro (enc_T_progenyref24_span v75))), (181, (V.pro (I v75.fcolumn))), (182, (I v75.fcolumn)), (183, (sspan (o21))), (184, (I x68))]) rfl rfl rfl) ?_
      refine Eq.trans (regp_pure (x := (idx o21 x68)) (w := fun v76 => (V.pro (enc_T_progenyref24_span v76))) rfl rfl rfl rfl rfl (p_index (e := enc_T_progenyref24_span) rfl rfl rfl Go.Proofs.Try.underlying79 rfl (by decide))) ?_
      refine bindE (fun v76 => ?_)
      exact regp_end rfl
    · rw [hc]
      exact regp_end rfl
  · rw [hc]
    exact regp_end rfl
theorem f25r23 (k : Nat) (a0 : T_api_Form) (o21 : (List T_progenyref24_span)) (x50 : Int) (x68 : Int) : RE k f25a23 f25o23 false ⟨[(1, (V.ptr 1 0 0)), (5, (sspan (o21))), (6, (I x50)), (7, (I x68)), (190, (V.bool true))], [(1, ⟨false, 4, [(enc_T_api_Form a0)]⟩)], 191⟩ = some ⟨[(2, (V.bool false))], [], 191⟩ :=
  rE rfl
theorem f25r21 (k : Nat) (a0 : T_api_Form) (o21 : (List T_progenyref24_span)) (x50 : Int) (x68 : Int) : RE k f25a21 f25o21 false ⟨[(1, (V.ptr 1 0 0)), (5, (sspan (o21))), (6, (I x50)), (7, (I x68)), (190, (V.bool false))], [(1, ⟨false, 4, [(enc_T_api_Form a0)]⟩)], 191⟩ = some ⟨[(1, (V.ptr 1 0 0)), (5, (sspan (o21))), (6, (I x50)), (7, (I (Go.IntKind.wrap .i64 (x68 + 1))))], [(1, ⟨false, 4, [(enc_T_api_Form a0)]⟩)], 191⟩ :=
  rE rfl
theorem ref24_Valid_L4_ok (k : Nat) (a0 : T_api_Form) (o21 : (List T_progenyref24_span)) (x50 : Int)  (K0 : Int → Option Bool) (Kst : X × St → Option (V × List V)) (hK0 : ∀ (y0 : Int), Kst (X.exit 6, ⟨[(1, (V.ptr 1 0 0)), (5, (sspan (o21))), (6, (I x50)), (7, (I y0)), (139, (V.bool false))], [(1, ⟨false, 4, [(enc_T_api_Form a0)]⟩)], 191⟩) = (K0 y0).map ref24_Valid_fin) (hret : ∀ s, Kst (X.ret, s) = endK prog 191 [(enc_T_api_Form a0)] [] [.tmp 2] (X.ret, s)) :
    ∀ (m : Nat) (x68 : Int), (iter (exec prog (EV k) f25n k f25b2) m ⟨[(1, (V.ptr 1 0 0)), (5, (sspan (o21))), (6, (I x50)), (7, (I x68))], [(1, ⟨false, 4, [(enc_T_api_Form a0)]⟩)], 191⟩).bind Kst = (ref24_Valid_L4 o21 x50 K0 m x68).map ref24_Valid_fin := by
  intro m
  induction m with
  | zero => intros; rfl
  | succ m ih =>
    intro x68
    unfold ref24_Valid_L4
    refine Eq.trans k_round ?_
    refine Eq.trans k_assoc ?_
    refine Eq.trans (k_region0 rfl (f25r20 k a0 o21 x50 x68)) ?_
    refine Eq.trans (k_cond (t := (decide (x68 < x50))) rfl rfl) ?_
    refine bifE2 (fun hc => ?_) fun hc => ?_
    · rw [hc]
      refine Eq.trans k_skip ?_
      refine Eq.trans (k_block rfl) ?_
      refine Eq.trans (k_region rfl (f25r22 k a0 o21 x50 x68)) ?_
      refine bindE (fun o77 => ?_)
      refine Eq.trans (k_lcond (t := o77) rfl rfl) ?_
      refine bifE2 (fun hc => ?_) fun hc => ?_
      · rw [hc]
        refine Eq.trans (k_region0 rfl (f25r23 k a0 o21 x50 x68)) ?_
        refine Eq.trans k_lret ?_
        refine Eq.trans blk_ret ?_
        refine Eq.trans loop_ret ?_
        refine Eq.trans (hret _) ?_
        rfl
      · rw [hc]
        refine Eq.trans k_lskip ?_
        refine Eq.trans blk_normal ?_
        refine Eq.trans (k_lregion0 rfl (f25r21 k a0 o21 x50 x68)) ?_
        refine Eq.trans loop_normal ?_
        exact ih (Go.IntKind.wrap .i64 (x68 + 1))
    · rw [hc]
      refine Eq.trans k_exit ?_
      refine Eq.trans loop_exit ?_
      exact hK0 x68
theorem f25r16 (k : Nat) (a0 : T_api_Form) (o21 : (List T_progenyref24_span)) (x50 : Int) (y78 : Int) : RE k f25a16 f25o16 false ⟨[(1, (V.ptr 1 0 0)), (5, (sspan (o21))), (6, (I x50)), (7, (I y78)), (139, (V.bool false))], [(1, ⟨false, 4, [(enc_T_api_Form a0)]⟩)], 191⟩ = some ⟨[(1, (V.ptr 1 0 0)), (5, (sspan (o21))), (6, (I (Go.IntKind.wrap .i64 (x50 + 1))))], [(1, ⟨false, 4, [(enc_T_api_Form a0)]⟩)], 191⟩ :=
  rE rfl
theorem ref24_Valid_L3_ok (k : Nat) (a0 : T_api_Form) (o21 : (List T_progenyref24_span))  (K0 : Int → Option Bool) (Kst : X × St → Option (V × List V)) (hK0 : ∀ (y0 : Int), Kst (X.exit 4, ⟨[(1, (V.ptr 1 0 0)), (5, (sspan (o21))), (6, (I y0)), (76, (V.bool false))], [(1, ⟨false, 4, [(enc_T_api_Form a0)]⟩)], 191⟩) = (K0 y0).map ref24_Valid_fin) (hret : ∀ s, Kst (X.ret, s) = endK prog 191 [(enc_T_api_Form a0)] [] [.tmp 2] (X.ret, s)) :
    ∀ (m : Nat) (x50 : Int), (iter (exec prog (EV k) f25n k f25b3) m ⟨[(1, (V.ptr 1 0 0)), (5, (sspan (o21))), (6, (I x50))], [(1, ⟨false, 4, [(enc_T_api_Form a0)]⟩)], 191⟩).bind Kst = (ref24_Valid_L3 k a0 o21 K0 m x50).map ref24_Valid_fin := by
  intro m
  induction m with
  | zero => intros; rfl
  | succ m ih =>
    intro x50
    unfold ref24_Valid_L3
    refine Eq.trans k_round ?_
    refine Eq.trans k_assoc ?_
    refine Eq.trans (k_region0 rfl (f25r15 k a0 o21 x50)) ?_
    refine Eq.trans (k_cond (t := (decide (x50 < (o21.length : Int)))) rfl rfl) ?_
    refine bifE2 (fun hc => ?_) fun hc => ?_
    · rw [hc]
      refine Eq.trans k_skip ?_
      refine Eq.trans (k_block rfl) ?_
      refine Eq.trans k_assoc ?_
      refine Eq.trans (k_region rfl (f25r17 k a0 o21 x50)) ?_
      refine bindE (fun o58 => ?_)
      refine Eq.trans (k_cond (t := o58) rfl rfl) ?_
      refine bifE2 (fun hc => ?_) fun hc => ?_
      · rw [hc]
        refine Eq.trans k_assoc ?_
        refine Eq.trans (k_region0 rfl (f25r18 k a0 o21 x50)) ?_
        refine Eq.trans k_ret ?_
        refine Eq.trans blk_ret ?_
        refine Eq.trans loop_ret ?_
        refine Eq.trans (hret _) ?_
        rfl
      · rw [hc]
        refine Eq.trans k_skip ?_
        refine Eq.trans (k_region0 rfl (f25r19 k a0 o21 x50)) ?_
        refine Eq.trans (k_lblock rfl) ?_
        refine Eq.trans k_loop ?_
        refine ref24_Valid_L4_ok k a0 o21 x50 _ _ ?h_ref24_Valid_L4_0 ?hr_ref24_Valid_L4 k 0
        · intro y78
          refine Eq.trans blk_exit ?_
          refine Eq.trans k_lskip ?_
          refine Eq.trans blk_normal ?_
          refine Eq.trans (k_lregion0 rfl (f25r16 k a0 o21 x50 y78)) ?_
          refine Eq.trans loop_normal ?_
          exact ih (Go.IntKind.wrap .i64 (x50 + 1))
        · intro s; exact hret s
    · rw [hc]
      refine Eq.trans k_exit ?_
      refine Eq.trans loop_exit ?_
      exact hK0 x50
theorem f25r24 (k : Nat) (a0 : T_api_Form) (o21 : (List T_progenyref24_span)) (y79 : Int) : RE k f25a24 f25o24 false ⟨[(1, (V.ptr 1 0 0)), (5, (sspan (o21))), (6, (I y79)), (76, (V.bool false))], [(1, ⟨false, 4, [(enc_T_api_Form a0)]⟩)], 191⟩ = some ⟨[(2, (V.bool true))], [], 191⟩ :=
  rE rfl
theorem ref24_Valid_ok (k : Nat) (a0 : T_api_Form) : EV k 25 [(enc_T_api_Form a0)] = (ref24_Valid k a0).map ref24_Valid_fin := by
  cases k with
  | zero => rfl
  | succ k =>
    unfold ref24_Valid
    refine Eq.trans (evF_succ (c := f25c) (N := 191) (regs := f25n) rfl Go.Proofs.Try.func25 rfl (by decide) rfl rfl rfl) ?_
    refine Eq.trans (k_region0 rfl (f25r0 k a0)) ?_
    refine Eq.trans k_assoc ?_
    refine Eq.trans (k_region rfl (f25r1 k a0)) ?_
    refine bindE (fun o1 => ?_)
    refine Eq.trans (k_cond (t := o1) rfl rfl) ?_
    refine bifE2 (fun hc => ?_) fun hc => ?_
    · rw [hc]
      refine Eq.trans k_assoc ?_
      refine Eq.trans (k_region0 rfl (f25r2 k a0)) ?_
      refine Eq.trans k_ret ?_
      rfl
    · rw [hc]
      refine Eq.trans k_skip ?_
      refine Eq.trans k_assoc ?_
      refine Eq.trans (k_region0 rfl (f25r3 k a0)) ?_
      refine Eq.trans (k_block rfl) ?_
      refine Eq.trans k_loop ?_
      refine ref24_Valid_L1_ok k a0 _ _ ?h_ref24_Valid_L1_0 ?hr_ref24_Valid_L1 k 0
      · intro y9
        refine Eq.trans blk_exit ?_
        refine Eq.trans k_assoc ?_
        refine Eq.trans (k_region0 rfl (f25r8 k a0 y9)) ?_
        refine Eq.trans (k_block rfl) ?_
        refine Eq.trans k_loop ?_
        refine ref24_Valid_L2_ok k a0 _ _ ?h_ref24_Valid_L2_0 ?hr_ref24_Valid_L2 k 0
        · intro y19
          refine Eq.trans blk_exit ?_
          refine Eq.trans (k_region rfl (f25r13 k a0 y19)) ?_
          refine bindE (fun o21 => ?_)
          refine Eq.trans k_assoc ?_
          refine Eq.trans (k_region0 rfl (f25r14 k a0 o21)) ?_
          refine Eq.trans (k_block rfl) ?_
          refine Eq.trans k_loop ?_
          refine ref24_Valid_L3_ok k a0 o21 _ _ ?h_ref24_Valid_L3_0 ?hr_ref24_Valid_L3 k 0
          · intro y79
            refine Eq.trans blk_exit ?_
            refine Eq.trans (k_region0 rfl (f25r24 k a0 o21 y79)) ?_
            refine Eq.trans k_lret ?_
            rfl
          · intro s; exact rfl
        · intro s; exact rfl
      · intro s; exact rfl
def screen_isName_fin : Bool → V × List V := fun r => ((V.bool r), [])
theorem f72r0 (k : Nat) (a0 : Str) : RE k f72a0 f72o0 false ⟨[(0, (V.str a0))], [], 47⟩ = some ⟨[(0, (V.str a0))], [], 47⟩ :=
  rE rfl
theorem f72r1 (k : Nat) (a0 : Str) : RE k f72a1 f72o1 false ⟨[(0, (V.str a0))], [], 47⟩ = some ⟨[(0, (V.str a0)), (6, (I (a0.length : Int))), (7, (I 0))], [], 47⟩ :=
  rE rfl
theorem f72r2 (k : Nat) (a0 : Str) (x7 : Int) : RE k f72a2 f72o2 false ⟨[(0, (V.str a0)), (6, (I (a0.length : Int))), (7, (I x7))], [], 47⟩ = some ⟨[(0, (V.str a0)), (6, (I (a0.length : Int))), (7, (I x7)), (8, (V.bool (decide (x7 < (a0.length : Int)))))], [], 47⟩ :=
  rE rfl
theorem f72r3 (k : Nat) (a0 : Str) (x7 : Int) : RE k f72a3 f72o3 false ⟨[(0, (V.str a0)), (6, (I (a0.length : Int))), (7, (I x7)), (8, (V.bool true))], [], 47⟩ = some ⟨[(0, (V.str a0)), (3, (I x7)), (6, (I (a0.length : Int))), (7, (I x7))], [], 47⟩ :=
  rE rfl
theorem f72r4 (k : Nat) (a0 : Str) (x7 : Int) : RE k f72a4 f72o4 false ⟨[(0, (V.str a0)), (3, (I x7)), (6, (I (a0.length : Int))), (7, (I x7))], [], 47⟩ = (((idxS a0 x7).bind fun v8 => (bif (decide (v8 ≥ 65)) then ((idxS a0 x7).bind fun v9 => (some ((decide (v9 ≤ 90))))) else (some (false))))).map (fun (o : Bool) => (⟨[(0, (V.str a0)), (3, (I x7)), (4, (V.bool o)), (6, (I (a0.length : Int))), (7, (I x7))], [], 47⟩ : St)) := by
  refine rg ?_
  refine ra 2 2 ⟨[(0, (V.str a0)), (3, (I x7)), (6, (I (a0.length : Int))), (7, (I x7)), (10, (V.str a0)), (11, (I x7))], [], 47⟩ rfl rfl rfl ?_
  refine Eq.trans (reg_pure (x := (idxS a0 x7)) (w := fun v8 => (V.int .u8 v8)) rfl rfl rfl rfl (p_indexS rfl rfl rfl Go.Proofs.Try.underlying9)) ?_
  refine bindE (fun v8 => ?_)
  refine ba 2 5 ⟨[(0, (V.str a0)), (3, (I x7)), (6, (I (a0.length : Int))), (7, (I x7)), (10, (V.str a0)), (11, (I x7)), (12, (V.int .u8 v8)), (13, (V.bool (decide (v8 ≥ 65)))), (14, (V.bool (decide (v8 ≥ 65))))], [], 47⟩ rfl rfl rfl ?_
  refine bifE (c := (decide (v8 ≥ 65))) (fun hc => ?_) fun hc => ?_
  · rw [hc]
    refine ra 2 7 ⟨[(0, (V.str a0)), (3, (I x7)), (6, (I (a0.length : Int))), (7, (I x7)), (10, (V.str a0)), (11, (I x7)), (12, (V.int .u8 v8)), (13, (V.bool true)), (14, (V.bool true)), (15, (V.str a0)), (16, (I x7))], [], 47⟩ rfl rfl rfl ?_
    refine Eq.trans (reg_pure (x := (idxS a0 x7)) (w := fun v9 => (V.int .u8 v9)) rfl rfl rfl rfl (p_indexS rfl rfl rfl Go.Proofs.Try.underlying9)) ?_
    refine bindE (fun v9 => ?_)
    exact bind_end rfl
  · rw [hc]
    exact reg_end rfl
theorem f72r5 (k : Nat) (a0 : Str) (x7 : Int) (o10 : Bool) : RE k f72a5 f72o5 false ⟨[(0, (V.str a0)), (3, (I x7)), (4, (V.bool o10)), (6, (I (a0.length : Int))), (7, (I x7))], [], 47⟩ = ((bif (!o10) then (bif (x7 == 0) then (some (true)) else ((idxS a0 x7).bind fun v11 => (bif (decide (v11 < 48)) then (some (true)) else ((idxS a0 x7).bind fun v12 => (some ((decide (v12 > 57)))))))) else (some (false)))).map (fun (o : Bool) => (⟨[(0, (V.str a0)), (6, (I (a0.length : Int))), (7, (I x7)), (37, (V.bool o))], [], 47⟩ : St)) := by
  refine rg ?_
  refine ra 3 3 ⟨[(0, (V.str a0)), (3, (I x7)), (4, (V.bool o10)), (6, (I (a0.length : Int))), (7, (I x7)), (20, (V.bool o10)), (21, (V.bool (!o10))), (22, (V.bool (!o10)))], [], 47⟩ rfl rfl rfl ?_
  refine bifE (c := (!o10)) (fun hc => ?_) fun hc => ?_
  · rw [hc]
    refine ra 3 6 ⟨[(0, (V.str a0)), (3, (I x7)), (4, (V.bool o10)), (6, (I (a0.length : Int))), (7, (I x7)), (20, (V.bool o10)), (21, (V.bool true)), (22, (V.bool true)), (23, (I x7)), (24, (V.bool (x7 == 0))), (25, (V.bool (x7 == 0)))], [], 47⟩ rfl rfl rfl ?_
    refine bifE (c := (x7 == 0)) (fun hc => ?_) fun hc => ?_
    · rw [hc]
      exact reg_end rfl
    · rw [hc]
      refine ra 2 8 ⟨[(0, (V.str a0)), (3, (I x7)), (4, (V.bool o10)), (6, (I (a0.length : Int))), (7, (I x7)), (20, (V.bool o10)), (21, (V.bool true)), (22, (V.bool true)), (23, (I x7)), (24, (V.bool false)), (25, (V.bool false)), (26, (V.str a0)), (27, (I x7))], [], 47⟩ rfl rfl rfl ?_
      refine Eq.trans (reg_pure (x := (idxS a0 x7)) (w := fun v11 => (V.int .u8 v11)) rfl rfl rfl rfl (p_indexS rfl rfl rfl Go.Proofs.Try.underlying9)) ?_
      refine bindE (fun v11 => ?_)
      refine ba 3 12 ⟨[(0, (V.str a0)), (3, (I x7)), (4, (V.bool o10)), (6, (I (a0.length : Int))), (7, (I x7)), (20, (V.bool o10)), (21, (V.bool true)), (22, (V.bool true)), (23, (I x7)), (24, (V.bool false)), (25, (V.bool false)), (26, (V.str a0)), (27, (I x7)), (28, (V.int .u8 v11)), (29, (V.bool (decide (v11 < 48)))), (30, (V.bool (decide (v11 < 48)))), (31, (V.bool (decide (v11 < 48))))], [], 47⟩ rfl rfl rfl ?_
      refine bifE (c := (decide (v11 < 48))) (fun hc => ?_) fun hc => ?_
      · rw [hc]
        exact reg_end rfl
      · rw [hc]
        refine ra 2 14 ⟨[(0, (V.str a0)), (3, (I x7)), (4, (V.bool o10)), (6, (I (a0.length : Int))), (7, (I x7)), (20, (V.bool o10)), (21, (V.bool true)), (22, (V.bool true)), (23, (I x7)), (24, (V.bool false)), (25, (V.bool false)), (26, (V.str a0)), (27, (I x7)), (28, (V.int .u8 v11)), (29, (V.bool false)), (30, (V.bool false)), (31, (V.bool false)), (32, (V.str a0)), (33, (I x7))], [], 47⟩ rfl rfl rfl ?_
        refine Eq.trans (reg_pure (x := (idxS a0 x7)) (w := fun v12 => (V.int .u8 v12)) rfl rfl rfl rfl (p_indexS rfl rfl rfl Go.Proofs.Try.underlying9)) ?_
        refine bindE (fun v12 => ?_)
        exact bind_end rfl
  · rw [hc]
    exact reg_end rfl
theorem f72r6 (k : Nat) (a0 : Str) (x7 : Int) : RE k f72a6 f72o6 false ⟨[(0, (V.str a0)), (6, (I (a0.length : Int))), (7, (I x7)), (37, (V.bool true))], [], 47⟩ = some ⟨[(2, (V.bool false))], [], 47⟩ :=
  rE rfl
theorem f72r7 (k : Nat) (a0 : Str) (x7 : Int) : RE k f72a7 f72o7 false ⟨[(0, (V.str a0)), (6, (I (a0.length : Int))), (7, (I x7)), (37, (V.bool false))], [], 47⟩ = some ⟨[(0, (V.str a0)), (6, (I (a0.length : Int))), (7, (I (Go.IntKind.wrap .i64 (x7 + 1))))], [], 47⟩ :=
  rE rfl
theorem screen_isName_L1_ok (k : Nat) (a0 : Str)  (K0 : Int → Option Bool) (Kst : X × St → Option (V × List V)) (hK0 : ∀ (y0 : Int), Kst (X.exit 0, ⟨[(0, (V.str a0)), (6, (I (a0.length : Int))), (7, (I y0)), (8, (V.bool false))], [], 47⟩) = (K0 y0).map screen_isName_fin) (hret : ∀ s, Kst (X.ret, s) = endK prog 47 [(V.str a0)] [] [.tmp 2] (X.ret, s)) :
    ∀ (m : Nat) (x7 : Int), (iter (exec prog (EV k) f72n k f72b0) m ⟨[(0, (V.str a0)), (6, (I (a0.length : Int))), (7, (I x7))], [], 47⟩).bind Kst = (screen_isName_L1 a0 K0 m x7).map screen_isName_fin := by
  intro m
  induction m with
  | zero => intros; rfl
  | succ m ih =>
    intro x7
    unfold screen_isName_L1
    refine Eq.trans k_round ?_
    refine Eq.trans (k_region0 rfl (f72r2 k a0 x7)) ?_
    refine Eq.trans (k_cond (t := (decide (x7 < (a0.length : Int)))) rfl rfl) ?_
    refine bifE2 (fun hc => ?_) fun hc => ?_
    · rw [hc]
      refine Eq.trans k_skip ?_
      refine Eq.trans (k_block rfl) ?_
      refine Eq.trans (k_region0 rfl (f72r3 k a0 x7)) ?_
      refine Eq.trans (k_region rfl (f72r4 k a0 x7)) ?_
      refine bindE (fun o10 => ?_)
      refine Eq.trans (k_region rfl (f72r5 k a0 x7 o10)) ?_
      refine bindE (fun o13 => ?_)
      refine Eq.trans (k_lcond (t := o13) rfl rfl) ?_
      refine bifE2 (fun hc => ?_) fun hc => ?_
      · rw [hc]
        refine Eq.trans (k_region0 rfl (f72r6 k a0 x7)) ?_
        refine Eq.trans k_lret ?_
        refine Eq.trans blk_ret ?_
        refine Eq.trans loop_ret ?_
        refine Eq.trans (hret _) ?_
        rfl
      · rw [hc]
        refine Eq.trans k_lskip ?_
        refine Eq.trans blk_normal ?_
        refine Eq.trans (k_lregion0 rfl (f72r7 k a0 x7)) ?_
        refine Eq.trans loop_normal ?_
        exact ih (Go.IntKind.wrap .i64 (x7 + 1))
    · rw [hc]
      refine Eq.trans k_exit ?_
      refine Eq.trans loop_exit ?_
      exact hK0 x7
theorem f72r8 (k : Nat) (a0 : Str) (y14 : Int) : RE k f72a8 f72o8 false ⟨[(0, (V.str a0)), (6, (I (a0.length : Int))), (7, (I y14)), (8, (V.bool false))], [], 47⟩ = ((bif (decide ((a0.length : Int) ≥ 1)) then (some ((decide ((a0.length : Int) ≤ 8)))) else (some (false)))).map (fun (o : Bool) => (⟨[(2, (V.bool o))], [], 47⟩ : St)) := by
  refine rg ?_
  refine ra 4 4 ⟨[(0, (V.str a0)), (6, (I (a0.length : Int))), (7, (I y14)), (8, (V.bool false)), (39, (V.str a0)), (40, (I (a0.length : Int))), (41, (V.bool (decide ((a0.length : Int) ≥ 1)))), (42, (V.bool (decide ((a0.length : Int) ≥ 1))))], [], 47⟩ rfl rfl rfl ?_
  refine bifE (c := (decide ((a0.length : Int) ≥ 1))) (fun hc => ?_) fun hc => ?_
  · rw [hc]
    exact reg_end rfl
  · rw [hc]
    exact reg_end rfl
theorem screen_isName_ok (k : Nat) (a0 : Str) : EV k 72 [(V.str a0)] = (screen_isName k a0).map screen_isName_fin := by
  cases k with
  | zero => rfl
  | succ k =>
    unfold screen_isName
    refine Eq.trans (evF_succ (c := f72c) (N := 47) (regs := f72n) rfl Go.Proofs.Try.func72 rfl (by decide) rfl rfl rfl) ?_
    refine Eq.trans (k_region0 rfl (f72r0 k a0)) ?_
    refine Eq.trans k_assoc ?_
    refine Eq.trans (k_region0 rfl (f72r1 k a0)) ?_
    refine Eq.trans (k_block rfl) ?_
    refine Eq.trans k_loop ?_
    refine screen_isName_L1_ok k a0 _ _ ?h_screen_isName_L1_0 ?hr_screen_isName_L1 k 0
    · intro y14
      refine Eq.trans blk_exit ?_
      refine Eq.trans (k_region rfl (f72r8 k a0 y14)) ?_
      refine bindE (fun o15 => ?_)
      refine Eq.trans k_lret ?_
      rfl
    · intro s; exact rfl
def screen_isPlace_fin : Bool → V × List V := fun r => ((V.bool r), [])
theorem f73r0 (k : Nat) (a0 : Int) : RE k f73a0 f73o0 false ⟨[(0, (I a0))], [], 9⟩ = some ⟨[(0, (I a0))], [], 9⟩ :=
  rE rfl
theorem f73r1 (k : Nat) (a0 : Int) : RE k f73a1 f73o1 false ⟨[(0, (I a0))], [], 9⟩ = ((bif (decide (a0 ≥ (-1))) then (some ((decide (a0 < 4)))) else (some (false)))).map (fun (o : Bool) => (⟨[(2, (V.bool o))], [], 9⟩ : St)) := by
  refine rg ?_
  refine ra 3 3 ⟨[(0, (I a0)), (3, (I a0)), (4, (V.bool (decide (a0 ≥ (-1))))), (5, (V.bool (decide (a0 ≥ (-1)))))], [], 9⟩ rfl rfl rfl ?_
  refine bifE (c := (decide (a0 ≥ (-1)))) (fun hc => ?_) fun hc => ?_
  · rw [hc]
    exact reg_end rfl
  · rw [hc]
    exact reg_end rfl
theorem screen_isPlace_ok (k : Nat) (a0 : Int) : EV k 73 [(I a0)] = (screen_isPlace k a0).map screen_isPlace_fin := by
  cases k with
  | zero => rfl
  | succ k =>
    unfold screen_isPlace
    refine Eq.trans (evF_succ (c := f73c) (N := 9) (regs := f73n) rfl Go.Proofs.Try.func73 rfl (by decide) rfl rfl rfl) ?_
    refine Eq.trans (k_region0 rfl (f73r0 k a0)) ?_
    refine Eq.trans (k_region rfl (f73r1 k a0)) ?_
    refine bindE (fun o1 => ?_)
    refine Eq.trans k_lret ?_
    rfl
def screen_isByte_fin : Bool → V × List V := fun r => ((V.bool r), [])
theorem f71r0 (k : Nat) (a0 : Int) : RE k f71a0 f71o0 false ⟨[(0, (V.int .u8 a0))], [], 9⟩ = some ⟨[(0, (V.int .u8 a0))], [], 9⟩ :=
  rE rfl
theorem f71r1 (k : Nat) (a0 : Int) : RE k f71a1 f71o1 false ⟨[(0, (V.int .u8 a0))], [], 9⟩ = ((bif (decide (a0 ≥ 32)) then (some ((decide (a0 ≤ 126)))) else (some (false)))).map (fun (o : Bool) => (⟨[(2, (V.bool o))], [], 9⟩ : St)) := by
  refine rg ?_
  refine ra 3 3 ⟨[(0, (V.int .u8 a0)), (3, (V.int .u8 a0)), (4, (V.bool (decide (a0 ≥ 32)))), (5, (V.bool (decide (a0 ≥ 32))))], [], 9⟩ rfl rfl rfl ?_
  refine bifE (c := (decide (a0 ≥ 32))) (fun hc => ?_) fun hc => ?_
  · rw [hc]
    exact reg_end rfl
  · rw [hc]
    exact reg_end rfl
theorem screen_isByte_ok (k : Nat) (a0 : Int) : EV k 71 [(V.int .u8 a0)] = (screen_isByte k a0).map screen_isByte_fin := by
  cases k with
  | zero => rfl
  | succ k =>
    unfold screen_isByte
    refine Eq.trans (evF_succ (c := f71c) (N := 9) (regs := f71n) rfl Go.Proofs.Try.func71 rfl (by decide) rfl rfl rfl) ?_
    refine Eq.trans (k_region0 rfl (f71r0 k a0)) ?_
    refine Eq.trans (k_region rfl (f71r1 k a0)) ?_
    refine bindE (fun o1 => ?_)
    refine Eq.trans k_lret ?_
    rfl
def slices_IndexFunc_Slot_fin : Int → V × List V := fun r => ((I r), [])
theorem f61r0 (k : Nat) (a0 : (List T_api_Slot)) (a1 : Nat → T_api_Slot → Option Bool) (a1_fid : Go.FuncId) (a1_c0 : V) (a1_hok : ∀ j x0, EV j a1_fid [(enc_T_api_Slot x0), V.pro a1_c0] = (a1 j x0).map fun b => ((V.bool b), [])) : RE k f61a0 f61o0 false ⟨[(0, (sSlot a0)), (1, (V.fn a1_fid [] [V.pro a1_c0]))], [], 19⟩ = some ⟨[(0, (sSlot a0)), (1, (V.fn a1_fid [] [V.pro a1_c0]))], [], 19⟩ :=
  rE rfl
theorem f61r1 (k : Nat) (a0 : (List T_api_Slot)) (a1 : Nat → T_api_Slot → Option Bool) (a1_fid : Go.FuncId) (a1_c0 : V) (a1_hok : ∀ j x0, EV j a1_fid [(enc_T_api_Slot x0), V.pro a1_c0] = (a1 j x0).map fun b => ((V.bool b), [])) : RE k f61a1 f61o1 false ⟨[(0, (sSlot a0)), (1, (V.fn a1_fid [] [V.pro a1_c0]))], [], 19⟩ = some ⟨[(0, (sSlot a0)), (1, (V.fn a1_fid [] [V.pro a1_c0])), (7, (I (a0.length : Int))), (8, (I 0))], [], 19⟩ := by
  refine rg ?_
  refine ra 1 1 ⟨[(0, (sSlot a0)), (1, (V.fn a1_fid [] [V.pro a1_c0])), (6, (sSlot a0))], [], 19⟩ rfl rfl rfl ?_
  refine Eq.trans (reg_pure (x := some ()) (w := fun _ => (I (a0.length : Int))) rfl rfl rfl rfl (p_len (e := enc_T_api_Slot) rfl rfl rfl rfl rfl rfl Go.Proofs.Try.underlying23)) ?_
  refine Eq.trans some_bind ?_
  exact bind_end rfl
theorem f61r2 (k : Nat) (a0 : (List T_api_Slot)) (x4 : Int) (a1 : Nat → T_api_Slot → Option Bool) (a1_fid : Go.FuncId) (a1_c0 : V) (a1_hok : ∀ j x0, EV j a1_fid [(enc_T_api_Slot x0), V.pro a1_c0] = (a1 j x0).map fun b => ((V.bool b), [])) : RE k f61a2 f61o2 false ⟨[(0, (sSlot a0)), (1, (V.fn a1_fid [] [V.pro a1_c0])), (7, (I (a0.length : Int))), (8, (I x4))], [], 19⟩ = some ⟨[(0, (sSlot a0)), (1, (V.fn a1_fid [] [V.pro a1_c0])), (7, (I (a0.length : Int))), (8, (I x4)), (9, (V.bool (decide (x4 < (a0.length : Int)))))], [], 19⟩ :=
  rE rfl
theorem f61r3 (k : Nat) (a0 : (List T_api_Slot)) (x4 : Int) (a1 : Nat → T_api_Slot → Option Bool) (a1_fid : Go.FuncId) (a1_c0 : V) (a1_hok : ∀ j x0, EV j a1_fid [(enc_T_api_Slot x0), V.pro a1_c0] = (a1 j x0).map fun b => ((V.bool b), [])) : RE k f61a3 f61o3 false ⟨[(0, (sSlot a0)), (1, (V.fn a1_fid [] [V.pro a1_c0])), (7, (I (a0.length : Int))), (8, (I x4)), (9, (V.bool true))], [], 19⟩ = some ⟨[(0, (sSlot a0)), (1, (V.fn a1_fid [] [V.pro a1_c0])), (5, (I x4)), (7, (I (a0.length : Int))), (8, (I x4))], [], 19⟩ :=
  rE rfl
theorem f61r4 (k : Nat) (a0 : (List T_api_Slot)) (x4 : Int) (a1 : Nat → T_api_Slot → Option Bool) (a1_fid : Go.FuncId) (a1_c0 : V) (a1_hok : ∀ j x0, EV j a1_fid [(enc_T_api_Slot x0), V.pro a1_c0] = (a1 j x0).map fun b => ((V.bool b), [])) : RE k f61a4 f61o4 false ⟨[(0, (sSlot a0)), (1, (V.fn a1_fid [] [V.pro a1_c0])), (5, (I x4)), (7, (I (a0.length : Int))), (8, (I x4))], [], 19⟩ = (((idx a0 x4).bind fun v5 => (a1 k v5))).map (fun (o : Bool) => (⟨[(0, (sSlot a0)), (1, (V.fn a1_fid [] [V.pro a1_c0])), (5, (I x4)), (7, (I (a0.length : Int))), (8, (I x4)), (16, (V.bool o))], [], 19⟩ : St)) := by
  refine rg ?_
  refine ra 3 3 ⟨[(0, (sSlot a0)), (1, (V.fn a1_fid [] [V.pro a1_c0])), (5, (I x4)), (7, (I (a0.length : Int))), (8, (I x4)), (11, (V.fn a1_fid [] [V.pro a1_c0])), (12, (sSlot a0)), (13, (I x4))], [], 19⟩ rfl rfl rfl ?_
  refine Eq.trans (reg_pure (x := (idx a0 x4)) (w := fun v5 => (V.pro (enc_T_api_Slot v5))) rfl rfl rfl rfl (p_index (e := enc_T_api_Slot) rfl rfl rfl Go.Proofs.Try.underlying23 rfl (by decide))) ?_
  refine bindE (fun v5 => ?_)
  refine ba 1 5 ⟨[(0, (sSlot a0)), (1, (V.fn a1_fid [] [V.pro a1_c0])), (5, (I x4)), (7, (I (a0.length : Int))), (8, (I x4)), (11, (V.fn a1_fid [] [V.pro a1_c0])), (12, (sSlot a0)), (13, (I x4)), (14, (V.pro (enc_T_api_Slot v5))), (15, (enc_T_api_Slot v5))], [], 19⟩ rfl rfl rfl ?_
  refine Eq.trans (reg_pure (x := (a1 k v5)) (w := fun v6 => (V.bool v6)) rfl rfl rfl rfl (p_call rfl rfl rfl rfl rfl (a1_hok k v5) (.inl rfl))) ?_
  refine bind_self (fun v6 => ?_)
  exact bind_end rfl
theorem f61r5 (k : Nat) (a0 : (List T_api_Slot)) (x4 : Int) (a1 : Nat → T_api_Slot → Option Bool) (a1_fid : Go.FuncId) (a1_c0 : V) (a1_hok : ∀ j x0, EV j a1_fid [(enc_T_api_Slot x0), V.pro a1_c0] = (a1 j x0).map fun b => ((V.bool b), [])) : RE k f61a5 f61o5 false ⟨[(0, (sSlot a0)), (1, (V.fn a1_fid [] [V.pro a1_c0])), (5, (I x4)), (7, (I (a0.length : Int))), (8, (I x4)), (16, (V.bool true))], [], 19⟩ = some ⟨[(4, (I x4))], [], 19⟩ :=
  rE rfl
theorem f61r6 (k : Nat) (a0 : (List T_api_Slot)) (x4 : Int) (a1 : Nat → T_api_Slot → Option Bool) (a1_fid : Go.FuncId) (a1_c0 : V) (a1_hok : ∀ j x0, EV j a1_fid [(enc_T_api_Slot x0), V.pro a1_c0] = (a1 j x0).map fun b => ((V.bool b), [])) : RE k f61a6 f61o6 false ⟨[(0, (sSlot a0)), (1, (V.fn a1_fid [] [V.pro a1_c0])), (5, (I x4)), (7, (I (a0.length : Int))), (8, (I x4)), (16, (V.bool false))], [], 19⟩ = some ⟨[(0, (sSlot a0)), (1, (V.fn a1_fid [] [V.pro a1_c0])), (7, (I (a0.length : Int))), (8, (I (Go.IntKind.wrap .i64 (x4 + 1))))], [], 19⟩ :=
  rE rfl
theorem slices_IndexFunc_Slot_L1_ok (k : Nat) (a0 : (List T_api_Slot)) (a1 : Nat → T_api_Slot → Option Bool) (a1_fid : Go.FuncId) (a1_c0 : V) (a1_hok : ∀ j x0, EV j a1_fid [(enc_T_api_Slot x0), V.pro a1_c0] = (a1 j x0).map fun b => ((V.bool b), [])) (K0 : Int → Option Int) (Kst : X × St → Option (V × List V)) (hK0 : ∀ (y0 : Int), Kst (X.exit 0, ⟨[(0, (sSlot a0)), (1, (V.fn a1_fid [] [V.pro a1_c0])), (7, (I (a0.length : Int))), (8, (I y0)), (9, (V.bool false))], [], 19⟩) = (K0 y0).map slices_IndexFunc_Slot_fin) (hret : ∀ s, Kst (X.ret, s) = endK prog 19 [(sSlot a0), (V.fn a1_fid [] [V.pro a1_c0])] [] [.tmp 4] (X.ret, s)) :
    ∀ (m : Nat) (x4 : Int), (iter (exec prog (EV k) f61n k f61b0) m ⟨[(0, (sSlot a0)), (1, (V.fn a1_fid [] [V.pro a1_c0])), (7, (I (a0.length : Int))), (8, (I x4))], [], 19⟩).bind Kst = (slices_IndexFunc_Slot_L1 k a0 a1 K0 m x4).map slices_IndexFunc_Slot_fin := by
  intro m
  induction m with
  | zero => intros; rfl
  | succ m ih =>
    intro x4
    unfold slices_IndexFunc_Slot_L1
    refine Eq.trans k_round ?_
    refine Eq.trans (k_region0 rfl (f61r2 k a0 x4 a1 a1_fid a1_c0 a1_hok)) ?_
    refine Eq.trans (k_cond (t := (decide (x4 < (a0.length : Int)))) rfl rfl) ?_
    refine bifE2 (fun hc => ?_) fun hc => ?_
    · rw [hc]
      refine Eq.trans k_skip ?_
      refine Eq.trans (k_block rfl) ?_
      refine Eq.trans (k_region0 rfl (f61r3 k a0 x4 a1 a1_fid a1_c0 a1_hok)) ?_
      refine Eq.trans (k_region rfl (f61r4 k a0 x4 a1 a1_fid a1_c0 a1_hok)) ?_
      refine bindE (fun o7 => ?_)
      refine Eq.trans (k_lcond (t := o7) rfl rfl) ?_
      refine bifE2 (fun hc => ?_) fun hc => ?_
      · rw [hc]
        refine Eq.trans (k_region0 rfl (f61r5 k a0 x4 a1 a1_fid a1_c0 a1_hok)) ?_
        refine Eq.trans k_lret ?_
        refine Eq.trans blk_ret ?_
        refine Eq.trans loop_ret ?_
        refine Eq.trans (hret _) ?_
        rfl
      · rw [hc]
        refine Eq.trans k_lskip ?_
        refine Eq.trans blk_normal ?_
        refine Eq.trans (k_lregion0 rfl (f61r6 k a0 x4 a1 a1_fid a1_c0 a1_hok)) ?_
        refine Eq.trans loop_normal ?_
        exact ih (Go.IntKind.wrap .i64 (x4 + 1))
    · rw [hc]
      refine Eq.trans k_exit ?_
      refine Eq.trans loop_exit ?_
      exact hK0 x4
theorem f61r7 (k : Nat) (a0 : (List T_api_Slot)) (y8 : Int) (a1 : Nat → T_api_Slot → Option Bool) (a1_fid : Go.FuncId) (a1_c0 : V) (a1_hok : ∀ j x0, EV j a1_fid [(enc_T_api_Slot x0), V.pro a1_c0] = (a1 j x0).map fun b => ((V.bool b), [])) : RE k f61a7 f61o7 false ⟨[(0, (sSlot a0)), (1, (V.fn a1_fid [] [V.pro a1_c0])), (7, (I (a0.length : Int))), (8, (I y8)), (9, (V.bool false))], [], 19⟩ = some ⟨[(4, (I (-1)))], [], 19⟩ :=
  rE rfl
theorem slices_IndexFunc_Slot_ok (k : Nat) (a0 : (List T_api_Slot)) (a1 : Nat → T_api_Slot → Option Bool) (a1_fid : Go.FuncId) (a1_c0 : V) (a1_hok : ∀ j x0, EV j a1_fid [(enc_T_api_Slot x0), V.pro a1_c0] = (a1 j x0).map fun b => ((V.bool b), [])) : EV k 61 [(sSlot a0), (V.fn a1_fid [] [V.pro a1_c0])] = (slices_IndexFunc_Slot k a0 a1).map slices_IndexFunc_Slot_fin := by
  cases k with
  | zero => rfl
  | succ k =>
    unfold slices_IndexFunc_Slot
    refine Eq.trans (evF_succ (c := f61c) (N := 19) (regs := f61n) rfl Go.Proofs.Try.func61 rfl (by decide) rfl rfl rfl) ?_
    refine Eq.trans (k_region0 rfl (f61r0 k a0 a1 a1_fid a1_c0 a1_hok)) ?_
    refine Eq.trans k_assoc ?_
    refine Eq.trans (k_region0 rfl (f61r1 k a0 a1 a1_fid a1_c0 a1_hok)) ?_
    refine Eq.trans (k_block rfl) ?_
    refine Eq.trans k_loop ?_
    refine slices_IndexFunc_Slot_L1_ok k a0 a1 a1_fid a1_c0 a1_hok _ _ ?h_slices_IndexFunc_Slot_L1_0 ?hr_slices_IndexFunc_Slot_L1 k 0
    · intro y8
      refine Eq.trans blk_exit ?_
      refine Eq.trans (k_region0 rfl (f61r7 k a0 y8 a1 a1_fid a1_c0 a1_hok)) ?_
      refine Eq.trans k_lret ?_
      rfl
    · intro s; exact rfl
def slices_ContainsFunc_Slot_fin : Bool → V × List V := fun r => ((V.bool r), [])
theorem f74r0 (k : Nat) (a0 : (List T_api_Slot)) (a1 : Nat → T_api_Slot → Option Bool) (a1_fid : Go.FuncId) (a1_c0 : V) (a1_hok : ∀ j x0, EV j a1_fid [(enc_T_api_Slot x0), V.pro a1_c0] = (a1 j x0).map fun b => ((V.bool b), [])) : RE k f74a0 f74o0 false ⟨[(0, (sSlot a0)), (1, (V.fn a1_fid [] [V.pro a1_c0]))], [], 9⟩ = some ⟨[(0, (sSlot a0)), (1, (V.fn a1_fid [] [V.pro a1_c0]))], [], 9⟩ :=
  rE rfl
theorem f74r1 (k : Nat) (a0 : (List T_api_Slot)) (a1 : Nat → T_api_Slot → Option Bool) (a1_fid : Go.FuncId) (a1_c0 : V) (a1_hok : ∀ j x0, EV j a1_fid [(enc_T_api_Slot x0), V.pro a1_c0] = (a1 j x0).map fun b => ((V.bool b), [])) : RE k f74a1 f74o1 false ⟨[(0, (sSlot a0)), (1, (V.fn a1_fid [] [V.pro a1_c0]))], [], 9⟩ = (((slices_IndexFunc_Slot k a0 a1).bind fun v1 => (some ((decide (v1 ≥ 0)))))).map (fun (o : Bool) => (⟨[(4, (V.bool o))], [], 9⟩ : St)) := by
  refine rg ?_
  refine ra 2 2 ⟨[(0, (sSlot a0)), (1, (V.fn a1_fid [] [V.pro a1_c0])), (5, (sSlot a0)), (6, (V.fn a1_fid [] [V.pro a1_c0]))], [], 9⟩ rfl rfl rfl ?_
  refine Eq.trans (reg_pure (x := (slices_IndexFunc_Slot k a0 a1)) (w := fun v1 => (I v1)) rfl rfl rfl rfl (p_call rfl rfl rfl rfl rfl (slices_IndexFunc_Slot_ok k a0 a1 a1_fid a1_c0 a1_hok) (.inl rfl))) ?_
  refine bindE (fun v1 => ?_)
  exact bind_end rfl
theorem slices_ContainsFunc_Slot_ok (k : Nat) (a0 : (List T_api_Slot)) (a1 : Nat → T_api_Slot → Option Bool) (a1_fid : Go.FuncId) (a1_c0 : V) (a1_hok : ∀ j x0, EV j a1_fid [(enc_T_api_Slot x0), V.pro a1_c0] = (a1 j x0).map fun b => ((V.bool b), [])) : EV k 74 [(sSlot a0), (V.fn a1_fid [] [V.pro a1_c0])] = (slices_ContainsFunc_Slot k a0 a1).map slices_ContainsFunc_Slot_fin := by
  cases k with
  | zero => rfl
  | succ k =>
    unfold slices_ContainsFunc_Slot
    refine Eq.trans (evF_succ (c := f74c) (N := 9) (regs := f74n) rfl Go.Proofs.Try.func74 rfl (by decide) rfl rfl rfl) ?_
    refine Eq.trans (k_region0 rfl (f74r0 k a0 a1 a1_fid a1_c0 a1_hok)) ?_
    refine Eq.trans (k_region rfl (f74r1 k a0 a1 a1_fid a1_c0 a1_hok)) ?_
    refine bindE (fun o2 => ?_)
    refine Eq.trans k_lret ?_
    rfl
def screen_areSlots_1_fin : Bool → V × List V := fun r => ((V.bool r), [])
theorem f75r0 (k : Nat) (a0 : T_api_Slot) (a1 : T_api_Slot) : RE k f75a0 f75o0 false ⟨[(0, (enc_T_api_Slot a0)), (1, (V.pro (enc_T_api_Slot a1)))], [], 33⟩ = some ⟨[(1, (V.pro (enc_T_api_Slot a1))), (2, (V.ptr 2 0 0))], [(2, ⟨false, 7, [(enc_T_api_Slot a0)]⟩)], 33⟩ :=
  rE rfl
theorem f75r1 (k : Nat) (a0 : T_api_Slot) (a1 : T_api_Slot) : RE k f75a1 f75o1 false ⟨[(1, (V.pro (enc_T_api_Slot a1))), (2, (V.ptr 2 0 0))], [(2, ⟨false, 7, [(enc_T_api_Slot a0)]⟩)], 33⟩ = ((bif (a0.fName == a1.fName) then (some (true)) else (bif (decide (a1.fIn ≥ 0)) then (bif (a0.fIn == a1.fIn) then (some (true)) else (bif (decide (a1.fOut ≥ 0)) then (some ((a0.fOut == a1.fOut))) else (some (false)))) else (bif (decide (a1.fOut ≥ 0)) then (some ((a0.fOut == a1.fOut))) else (some (false)))))).map (fun (o : Bool) => (⟨[(3, (V.bool o))], [], 33⟩ : St)) := by
  refine rg ?_
  refine ra 6 6 ⟨[(1, (V.pro (enc_T_api_Slot a1))), (2, (V.ptr 2 0 0)), (4, (V.ptr 2 0 0)), (5, (V.str a0.fName)), (6, (V.pro (V.str a1.fName))), (7, (V.str a1.fName)), (8, (V.bool (a0.fName == a1.fName))), (9, (V.bool (a0.fName == a1.fName)))], [(2, ⟨false, 7, [(enc_T_api_Slot a0)]⟩)], 33⟩ rfl rfl rfl ?_
  refine bifE (c := (a0.fName == a1.fName)) (fun hc => ?_) fun hc => ?_
  · rw [hc]
    exact reg_end rfl
  · rw [hc]
    refine ra 4 10 ⟨[(1, (V.pro (enc_T_api_Slot a1))), (2, (V.ptr 2 0 0)), (4, (V.ptr 2 0 0)), (5, (V.str a0.fName)), (6, (V.pro (V.str a1.fName))), (7, (V.str a1.fName)), (8, (V.bool false)), (9, (V.bool false)), (10, (V.pro (I a1.fIn))), (11, (I a1.fIn)), (12, (V.bool (decide (a1.fIn ≥ 0)))), (13, (V.bool (decide (a1.fIn ≥ 0))))], [(2, ⟨false, 7, [(enc_T_api_Slot a0)]⟩)], 33⟩ rfl rfl rfl ?_
    refine bifE (c := (decide (a1.fIn ≥ 0))) (fun hc => ?_) fun hc => ?_
    · rw [hc]
      refine ra 8 18 ⟨[(1, (V.pro (enc_T_api_Slot a1))), (2, (V.ptr 2 0 0)), (4, (V.ptr 2 0 0)), (5, (V.str a0.fName)), (6, (V.pro (V.str a1.fName))), (7, (V.str a1.fName)), (8, (V.bool false)), (9, (V.bool false)), (10, (V.pro (I a1.fIn))), (11, (I a1.fIn)), (12, (V.bool true)), (13, (V.bool true)), (14, (V.ptr 2 0 4)), (15, (I a0.fIn)), (16, (V.pro (I a1.fIn))), (17, (I a1.fIn)), (18, (V.bool (a0.fIn == a1.fIn))), (19, (V.bool (a0.fIn == a1.fIn))), (20, (V.bool (a0.fIn == a1.fIn))), (21, (V.bool (a0.fIn == a1.fIn)))], [(2, ⟨false, 7, [(enc_T_api_Slot a0)]⟩)], 33⟩ rfl rfl rfl ?_
      refine bifE (c := (a0.fIn == a1.fIn)) (fun hc => ?_) fun hc => ?_
      · rw [hc]
        exact reg_end rfl
      · rw [hc]
        refine ra 4 22 ⟨[(1, (V.pro (enc_T_api_Slot a1))), (2, (V.ptr 2 0 0)), (4, (V.ptr 2 0 0)), (5, (V.str a0.fName)), (6, (V.pro (V.str a1.fName))), (7, (V.str a1.fName)), (8, (V.bool false)), (9, (V.bool false)), (10, (V.pro (I a1.fIn))), (11, (I a1.fIn)), (12, (V.bool true)), (13, (V.bool true)), (14, (V.ptr 2 0 4)), (15, (I a0.fIn)), (16, (V.pro (I a1.fIn))), (17, (I a1.fIn)), (18, (V.bool false)), (19, (V.bool false)), (20, (V.bool false)), (21, (V.bool false)), (22, (V.pro (I a1.fOut))), (23, (I a1.fOut)), (24, (V.bool (decide (a1.fOut ≥ 0)))), (25, (V.bool (decide (a1.fOut ≥ 0))))], [(2, ⟨false, 7, [(enc_T_api_Slot a0)]⟩)], 33⟩ rfl rfl rfl ?_
        refine bifE (c := (decide (a1.fOut ≥ 0))) (fun hc => ?_) fun hc => ?_
        · rw [hc]
          exact reg_end rfl
        · rw [hc]
          exact reg_end rfl
    · rw [hc]
      refine ra 12 22 ⟨[(1, (V.pro (enc_T_api_Slot a1))), (2, (V.ptr 2 0 0)), (4, (V.ptr 2 0 0)), (5, (V.str a0.fName)), (6, (V.pro (V.str a1.fName))), (7, (V.str a1.fName)), (8, (V.bool false)), (9, (V.bool false)), (10, (V.pro (I a1.fIn))), (11, (I a1.fIn)), (12, (V.bool false)), (13, (V.bool false)), (14, (V.tup [])), (15, (V.tup [])), (16, (V.tup [])), (17, (V.tup [])), (18, (V.tup [])), (19, (V.bool false)), (20, (V.bool false)), (21, (V.bool false)), (22, (V.pro (I a1.fOut))), (23, (I a1.fOut)), (24, (V.bool (decide (a1.fOut ≥ 0)))), (25, (V.bool (decide (a1.fOut ≥ 0))))], [(2, ⟨false, 7, [(enc_T_api_Slot a0)]⟩)], 33⟩ rfl rfl rfl ?_
      refine bifE (c := (decide (a1.fOut ≥ 0))) (fun hc => ?_) fun hc => ?_
      · rw [hc]
        exact reg_end rfl
      · rw [hc]
        exact reg_end rfl
theorem screen_areSlots_1_ok (k : Nat) (a0 : T_api_Slot) (a1 : T_api_Slot) : EV k 75 [(enc_T_api_Slot a0), (V.pro (enc_T_api_Slot a1))] = (screen_areSlots_1 k a0 a1).map screen_areSlots_1_fin := by
  cases k with
  | zero => rfl
  | succ k =>
    unfold screen_areSlots_1
    refine Eq.trans (evF_succ (c := f75c) (N := 33) (regs := f75n) rfl Go.Proofs.Try.func75 rfl (by decide) rfl rfl rfl) ?_
    refine Eq.trans (k_region0 rfl (f75r0 k a0 a1)) ?_
    refine Eq.trans (k_region rfl (f75r1 k a0 a1)) ?_
    refine bindE (fun o1 => ?_)
    refine Eq.trans k_lret ?_
    rfl
def screen_areSlots_fin : Bool → V × List V := fun r => ((V.bool r), [])
theorem f53r0 (k : Nat) (a0 : (List T_api_Slot)) : RE k f53a0 f53o0 false ⟨[(0, (sSlot a0))], [], 43⟩ = some ⟨[(0, (sSlot a0))], [], 43⟩ :=
  rE rfl
theorem f53r1 (k : Nat) (a0 : (List T_api_Slot)) : RE k f53a1 f53o1 false ⟨[(0, (sSlot a0))], [], 43⟩ = some ⟨[(0, (sSlot a0)), (5, (sSlot a0)), (6, (I (a0.length : Int))), (7, (I 0))], [], 43⟩ := by
  refine rg ?_
  refine ra 1 1 ⟨[(0, (sSlot a0)), (5, (sSlot a0))], [], 43⟩ rfl rfl rfl ?_
  refine Eq.trans (reg_pure (x := some ()) (w := fun _ => (I (a0.length : Int))) rfl rfl rfl rfl (p_len (e := enc_T_api_Slot) rfl rfl rfl rfl rfl rfl Go.Proofs.Try.underlying23)) ?_
  refine Eq.trans some_bind ?_
  exact bind_end rfl
theorem f53r2 (k : Nat) (a0 : (List T_api_Slot)) (x11 : Int) : RE k f53a2 f53o2 false ⟨[(0, (sSlot a0)), (5, (sSlot a0)), (6, (I (a0.length : Int))), (7, (I x11))], [], 43⟩ = some ⟨[(0, (sSlot a0)), (5, (sSlot a0)), (6, (I (a0.length : Int))), (7, (I x11)), (8, (V.bool (decide (x11 < (a0.length : Int)))))], [], 43⟩ :=
  rE rfl
theorem f53r3 (k : Nat) (a0 : (List T_api_Slot)) (x11 : Int) : RE k f53a3 f53o3 false ⟨[(0, (sSlot a0)), (5, (sSlot a0)), (6, (I (a0.length : Int))), (7, (I x11)), (8, (V.bool true))], [], 43⟩ = (((idx a0 x11).bind fun v12 => (some (x11, v12)))).map (fun (o : Int × T_api_Slot) => (⟨[(0, (sSlot a0)), (3, (I o.1)), (4, (V.ptr 4 0 0)), (5, (sSlot a0)), (6, (I (a0.length : Int))), (7, (I x11))], [(4, ⟨false, 7, [(enc_T_api_Slot o.2)]⟩)], 43⟩ : St)) := by
  refine rg ?_
  refine ra 1 1 ⟨[(0, (sSlot a0)), (5, (sSlot a0)), (6, (I (a0.length : Int))), (7, (I x11)), (8, (V.bool true)), (9, (I x11))], [], 43⟩ rfl rfl rfl ?_
  refine Eq.trans (reg_pure (x := (idx a0 x11)) (w := fun v12 => (V.pro (enc_T_api_Slot v12))) rfl rfl rfl rfl (p_index (e := enc_T_api_Slot) rfl rfl rfl Go.Proofs.Try.underlying23 rfl (by decide))) ?_
  refine bindE (fun v12 => ?_)
  exact bind_end rfl
theorem f53r4 (k : Nat) (a0 : (List T_api_Slot)) (x11 : Int) (o13 : Int × T_api_Slot) : RE k f53a4 f53o4 false ⟨[(0, (sSlot a0)), (3, (I o13.1)), (4, (V.ptr 4 0 0)), (5, (sSlot a0)), (6, (I (a0.length : Int))), (7, (I x11))], [(4, ⟨false, 7, [(enc_T_api_Slot o13.2)]⟩)], 43⟩ = (((screen_isName k o13.2.fName).bind fun v14 => (bif (!v14) then (some (true)) else ((screen_isPlace k o13.2.fIn).bind fun v15 => (bif (!v15) then (some (true)) else ((screen_isPlace k o13.2.fOut).bind fun v16 => (bif (!v16) then (some (true)) else ((screen_isByte k o13.2.fFill).bind fun v17 => (some ((!v17))))))))))).map (fun (o : Bool) => (⟨[(0, (sSlot a0)), (3, (I o13.1)), (4, (V.ptr 4 0 0)), (5, (sSlot a0)), (6, (I (a0.length : Int))), (7, (I x11)), (33, (V.bool o))], [(4, ⟨false, 7, [(enc_T_api_Slot o13.2)]⟩)], 43⟩ : St)) := by
  refine rg ?_
  refine ra 2 2 ⟨[(0, (sSlot a0)), (3, (I o13.1)), (4, (V.ptr 4 0 0)), (5, (sSlot a0)), (6, (I (a0.length : Int))), (7, (I x11)), (12, (V.ptr 4 0 0)), (13, (V.str o13.2.fName))], [(4, ⟨false, 7, [(enc_T_api_Slot o13.2)]⟩)], 43⟩ rfl rfl rfl ?_
  refine Eq.trans (reg_pure (x := (screen_isName k o13.2.fName)) (w := fun v14 => (V.bool v14)) rfl rfl rfl rfl (p_call rfl rfl rfl rfl rfl (screen_isName_ok k o13.2.fName) (.inl rfl))) ?_
  refine bindE (fun v14 => ?_)
  refine ba 2 5 ⟨[(0, (sSlot a0)), (3, (I o13.1)), (4, (V.ptr 4 0 0)), (5, (sSlot a0)), (6, (I (a0.length : Int))), (7, (I x11)), (12, (V.ptr 4 0 0)), (13, (V.str o13.2.fName)), (14, (V.bool v14)), (15, (V.bool (!v14))), (16, (V.bool (!v14)))], [(4, ⟨false, 7, [(enc_T_api_Slot o13.2)]⟩)], 43⟩ rfl rfl rfl ?_
  refine bifE (c := (!v14)) (fun hc => ?_) fun hc => ?_
  · rw [hc]
    exact reg_end rfl
  · rw [hc]
    refine ra 2 7 ⟨[(0, (sSlot a0)), (3, (I o13.1)), (4, (V.ptr 4 0 0)), (5, (sSlot a0)), (6, (I (a0.length : Int))), (7, (I x11)), (12, (V.ptr 4 0 0)), (13, (V.str o13.2.fName)), (14, (V.bool v14)), (15, (V.bool false)), (16, (V.bool false)), (17, (V.ptr 4 0 4)), (18, (I o13.2.fIn))], [(4, ⟨false, 7, [(enc_T_api_Slot o13.2)]⟩)], 43⟩ rfl rfl rfl ?_
    refine Eq.trans (reg_pure (x := (screen_isPlace k o13.2.fIn)) (w := fun v15 => (V.bool v15)) rfl rfl rfl rfl (p_call rfl rfl rfl rfl rfl (screen_isPlace_ok k o13.2.fIn) (.inl rfl))) ?_
    refine bindE (fun v15 => ?_)
    refine ba 3 11 ⟨[(0, (sSlot a0)), (3, (I o13.1)), (4, (V.ptr 4 0 0)), (5, (sSlot a0)), (6, (I (a0.length : Int))), (7, (I x11)), (12, (V.ptr 4 0 0)), (13, (V.str o13.2.fName)), (14, (V.bool v14)), (15, (V.bool false)), (16, (V.bool false)), (17, (V.ptr 4 0 4)), (18, (I o13.2.fIn)), (19, (V.bool v15)), (20, (V.bool (!v15))), (21, (V.bool (!v15))), (22, (V.bool (!v15)))], [(4, ⟨false, 7, [(enc_T_api_Slot o13.2)]⟩)], 43⟩ rfl rfl rfl ?_
    refine bifE (c := (!v15)) (fun hc => ?_) fun hc => ?_
    · rw [hc]
      exact reg_end rfl
    · rw [hc]
      refine ra 2 13 ⟨[(0, (sSlot a0)), (3, (I o13.1)), (4, (V.ptr 4 0 0)), (5, (sSlot a0)), (6, (I (a0.length : Int))), (7, (I x11)), (12, (V.ptr 4 0 0)), (13, (V.str o13.2.fName)), (14, (V.bool v14)), (15, (V.bool false)), (16, (V.bool false)), (17, (V.ptr 4 0 4)), (18, (I o13.2.fIn)), (19, (V.bool v15)), (20, (V.bool false)), (21, (V.bool false)), (22, (V.bool false)), (23, (V.ptr 4 0 5)), (24, (I o13.2.fOut))], [(4, ⟨false, 7, [(enc_T_api_Slot o13.2)]⟩)], 43⟩ rfl rfl rfl ?_
      refine Eq.trans (reg_pure (x := (screen_isPlace k o13.2.fOut)) (w := fun v16 => (V.bool v16)) rfl rfl rfl rfl (p_call rfl rfl rfl rfl rfl (screen_isPlace_ok k o13.2.fOut) (.inl rfl))) ?_
      refine bindE (fun v16 => ?_)
      refine ba 3 17 ⟨[(0, (sSlot a0)), (3, (I o13.1)), (4, (V.ptr 4 0 0)), (5, (sSlot a0)), (6, (I (a0.length : Int))), (7, (I x11)), (12, (V.ptr 4 0 0)), (13, (V.str o13.2.fName)), (14, (V.bool v14)), (15, (V.bool false)), (16, (V.bool false)), (17, (V.ptr 4 0 4)), (18, (I o13.2.fIn)), (19, (V.bool v15)), (20, (V.bool false)), (21, (V.bool false)), (22, (V.bool false)), (23, (V.ptr 4 0 5)), (24, (I o13.2.fOut)), (25, (V.bool v16)), (26, (V.bool (!v16))), (27, (V.bool (!v16))), (28, (V.bool (!v16)))], [(4, ⟨false, 7, [(enc_T_api_Slot o13.2)]⟩)], 43⟩ rfl rfl rfl ?_
      refine bifE (c := (!v16)) (fun hc => ?_) fun hc => ?_
      · rw [hc]
        exact reg_end rfl
      · rw [hc]
        refine ra 2 19 ⟨[(0, (sSlot a0)), (3, (I o13.1)), (4, (V.ptr 4 0 0)), (5, (sSlot a0)), (6, (I (a0.length : Int))), (7, (I x11)), (12, (V.ptr 4 0 0)), (13, (V.str o13.2.fName)), (14, (V.bool v14)), (15, (V.bool false)), (16, (V.bool false)), (17, (V.ptr 4 0 4)), (18, (I o13.2.fIn)), (19, (V.bool v15)), (20, (V.bool false)), (21, (V.bool false)), (22, (V.bool false)), (23, (V.ptr 4 0 5)), (24, (I o13.2.fOut)), (25, (V.bool v16)), (26, (V.bool false)), (27, (V.bool false)), (28, (V.bool false)), (29, (V.ptr 4 0 6)), (30, (V.int .u8 o13.2.fFill))], [(4, ⟨false, 7, [(enc_T_api_Slot o13.2)]⟩)], 43⟩ rfl rfl rfl ?_
        refine Eq.trans (reg_pure (x := (screen_isByte k o13.2.fFill)) (w := fun v17 => (V.bool v17)) rfl rfl rfl rfl (p_call rfl rfl rfl rfl rfl (screen_isByte_ok k o13.2.fFill) (.inl rfl))) ?_
        refine bindE (fun v17 => ?_)
        exact bind_end rfl
theorem f53r5 (k : Nat) (a0 : (List T_api_Slot)) (x11 : Int) (o13 : Int × T_api_Slot) : RE k f53a5 f53o5 false ⟨[(0, (sSlot a0)), (3, (I o13.1)), (4, (V.ptr 4 0 0)), (5, (sSlot a0)), (6, (I (a0.length : Int))), (7, (I x11)), (33, (V.bool true))], [(4, ⟨false, 7, [(enc_T_api_Slot o13.2)]⟩)], 43⟩ = some ⟨[(2, (V.bool false))], [], 43⟩ :=
  rE rfl
theorem f53r6 (k : Nat) (a0 : (List T_api_Slot)) (x11 : Int) (o13 : Int × T_api_Slot) : RE k f53a6 f53o6 false ⟨[(0, (sSlot a0)), (3, (I o13.1)), (4, (V.ptr 4 0 0)), (5, (sSlot a0)), (6, (I (a0.length : Int))), (7, (I x11)), (33, (V.bool false))], [(4, ⟨false, 7, [(enc_T_api_Slot o13.2)]⟩)], 43⟩ = (((cut a0 0 o13.1).bind fun v19 => (slices_ContainsFunc_Slot k v19 (fun j x0 => (screen_areSlots_1 j x0 o13.2))))).map (fun (o : Bool) => (⟨[(0, (sSlot a0)), (5, (sSlot a0)), (6, (I (a0.length : Int))), (7, (I x11)), (38, (V.bool o))], [], 43⟩ : St)) := by
  refine rg ?_
  refine ra 2 2 ⟨[(0, (sSlot a0)), (3, (I o13.1)), (4, (V.ptr 4 0 0)), (5, (sSlot a0)), (6, (I (a0.length : Int))), (7, (I x11)), (33, (V.bool false)), (34, (sSlot a0)), (35, (I o13.1))], [(4, ⟨false, 7, [(enc_T_api_Slot o13.2)]⟩)], 43⟩ rfl rfl rfl ?_
  refine Eq.trans (reg_pure (x := (cut a0 0 o13.1)) (w := fun v19 => (sSlot v19)) rfl rfl rfl rfl (p_slice (e := enc_T_api_Slot) rfl rfl rfl rfl rfl rfl Go.Proofs.Try.underlying23 rfl (by decide))) ?_
  refine bindE (fun v19 => ?_)
  refine ba 1 4 ⟨[(0, (sSlot a0)), (3, (I o13.1)), (4, (V.ptr 4 0 0)), (5, (sSlot a0)), (6, (I (a0.length : Int))), (7, (I x11)), (33, (V.bool false)), (34, (sSlot a0)), (35, (I o13.1)), (36, (sSlot v19)), (37, (V.fn 75 [] [(V.ptr 4 0 0)]))], [(4, ⟨false, 7, [(enc_T_api_Slot o13.2)]⟩)], 43⟩ rfl rfl rfl ?_
  refine Eq.trans (reg_pure (x := (slices_ContainsFunc_Slot k v19 (fun j x0 => (screen_areSlots_1 j x0 o13.2)))) (w := fun v20 => (V.bool v20)) rfl rfl rfl rfl (p_call rfl rfl rfl rfl rfl (slices_ContainsFunc_Slot_ok k v19 (fun j x0 => (screen_areSlots_1 j x0 o13.2)) 75 (enc_T_api_Slot o13.2) (fun j x0 => (screen_areSlots_1_ok j x0 o13.2))) (.inr (fun _ => rfl)))) ?_
  refine bind_self (fun v20 => ?_)
  exact bind_end rfl
theorem f53r7 (k : Nat) (a0 : (List T_api_Slot)) (x11 : Int) : RE k f53a7 f53o7 false ⟨[(0, (sSlot a0)), (5, (sSlot a0)), (6, (I (a0.length : Int))), (7, (I x11)), (38, (V.bool true))], [], 43⟩ = some ⟨[(2, (V.bool false))], [], 43⟩ :=
  rE rfl
theorem f53r8 (k : Nat) (a0 : (List T_api_Slot)) (x11 : Int) : RE k f53a8 f53o8 false ⟨[(0, (sSlot a0)), (5, (sSlot a0)), (6, (I (a0.length : Int))), (7, (I x11)), (38, (V.bool false))], [], 43⟩ = some ⟨[(0, (sSlot a0)), (5, (sSlot a0)), (6, (I (a0.length : Int))), (7, (I (Go.IntKind.wrap .i64 (x11 + 1))))], [], 43⟩ :=
  rE rfl
theorem screen_areSlots_L1_ok (k : Nat) (a0 : (List T_api_Slot))  (K0 : Int → Option Bool) (Kst : X × St → Option (V × List V)) (hK0 : ∀ (y0 : Int), Kst (X.exit 0, ⟨[(0, (sSlot a0)), (5, (sSlot a0)), (6, (I (a0.length : Int))), (7, (I y0)), (8, (V.bool false))], [], 43⟩) = (K0 y0).map screen_areSlots_fin) (hret : ∀ s, Kst (X.ret, s) = endK prog 43 [(sSlot a0)] [] [.tmp 2] (X.ret, s)) :
    ∀ (m : Nat) (x11 : Int), (iter (exec prog (EV k) f53n k f53b0) m ⟨[(0, (sSlot a0)), (5, (sSlot a0)), (6, (I (a0.length : Int))), (7, (I x11))], [], 43⟩).bind Kst = (screen_areSlots_L1 k a0 K0 m x11).map screen_areSlots_fin := by
  intro m
  induction m with
  | zero => intros; rfl
  | succ m ih =>
    intro x11
    unfold screen_areSlots_L1
    refine Eq.trans k_round ?_
    refine Eq.trans (k_region0 rfl (f53r2 k a0 x11)) ?_
    refine Eq.trans (k_cond (t := (decide (x11 < (a0.length : Int)))) rfl rfl) ?_
    refine bifE2 (fun hc => ?_) fun hc => ?_
    · rw [hc]
      refine Eq.trans k_skip ?_
      refine Eq.trans (k_block rfl) ?_
      refine Eq.trans (k_region rfl (f53r3 k a0 x11)) ?_
      refine bindE (fun o13 => ?_)
      refine Eq.trans k_assoc ?_
      refine Eq.trans (k_region rfl (f53r4 k a0 x11 o13)) ?_
      refine bindE (fun o18 => ?_)
      refine Eq.trans (k_cond (t := o18) rfl rfl) ?_
      refine bifE2 (fun hc => ?_) fun hc => ?_
      · rw [hc]
        refine Eq.trans k_assoc ?_
        refine Eq.trans (k_region0 rfl (f53r5 k a0 x11 o13)) ?_
        refine Eq.trans k_ret ?_
        refine Eq.trans blk_ret ?_
        refine Eq.trans loop_ret ?_
        refine Eq.trans (hret _) ?_
        rfl
      · rw [hc]
        refine Eq.trans k_skip ?_
        refine Eq.trans (k_region rfl (f53r6 k a0 x11 o13)) ?_
        refine bindE (fun o21 => ?_)
        refine Eq.trans (k_lcond (t := o21) rfl rfl) ?_
        refine bifE2 (fun hc => ?_) fun hc => ?_
        · rw [hc]
          refine Eq.trans (k_region0 rfl (f53r7 k a0 x11)) ?_
          refine Eq.trans k_lret ?_
          refine Eq.trans blk_ret ?_
          refine Eq.trans loop_ret ?_
          refine Eq.trans (hret _) ?_
          rfl
        · rw [hc]
          refine Eq.trans k_lskip ?_
          refine Eq.trans blk_normal ?_
          refine Eq.trans (k_lregion0 rfl (f53r8 k a0 x11)) ?_
          refine Eq.trans loop_normal ?_
          exact ih (Go.IntKind.wrap .i64 (x11 + 1))
    · rw [hc]
      refine Eq.trans k_exit ?_
      refine Eq.trans loop_exit ?_
      exact hK0 x11
theorem f53r9 (k : Nat) (a0 : (List T_api_Slot)) (y22 : Int) : RE k f53a9 f53o9 false ⟨[(0, (sSlot a0)), (5, (sSlot a0)), (6, (I (a0.length : Int))), (7, (I y22)), (8, (V.bool false))], [], 43⟩ = some ⟨[(2, (V.bool (decide ((a0.length : Int) ≤ 10))))], [], 43⟩ := by
  refine rg ?_
  refine ra 1 1 ⟨[(0, (sSlot a0)), (5, (sSlot a0)), (6, (I (a0.length : Int))), (7, (I y22)), (8, (V.bool false)), (40, (sSlot a0))], [], 43⟩ rfl rfl rfl ?_
  refine Eq.trans (reg_pure (x := some ()) (w := fun _ => (I (a0.length : Int))) rfl rfl rfl rfl (p_len (e := enc_T_api_Slot) rfl rfl rfl rfl rfl rfl Go.Proofs.Try.underlying23)) ?_
  refine Eq.trans some_bind ?_
  exact bind_end rfl
theorem screen_areSlots_ok (k : Nat) (a0 : (List T_api_Slot)) : EV k 53 [(sSlot a0)] = (screen_areSlots k a0).map screen_areSlots_fin := by
  cases k with
  | zero => rfl
  | succ k =>
    unfold screen_areSlots
    refine Eq.trans (evF_succ (c := f53c) (N := 43) (regs := f53n) rfl Go.Proofs.Try.func53 rfl (by decide) rfl rfl rfl) ?_
    refine Eq.trans (k_region0 rfl (f53r0 k a0)) ?_
    refine Eq.trans k_assoc ?_
    refine Eq.trans (k_region0 rfl (f53r1 k a0)) ?_
    refine Eq.trans (k_block rfl) ?_
    refine Eq.trans k_loop ?_
    refine screen_areSlots_L1_ok k a0 _ _ ?h_screen_areSlots_L1_0 ?hr_screen_areSlots_L1 k 0
    · intro y22
      refine Eq.trans blk_exit ?_
      refine Eq.trans (k_region0 rfl (f53r9 k a0 y22)) ?_
      refine Eq.trans k_lret ?_
      rfl
    · intro s; exact rfl
def screen_isText_fin : Bool → V × List V := fun r => ((V.bool r), [])
theorem f48r0 (k : Nat) (a0 : Str) : RE k f48a0 f48o0 false ⟨[(0, (V.str a0))], [], 15⟩ = some ⟨[(0, (V.str a0))], [], 15⟩ :=
  rE rfl
theorem f48r1 (k : Nat) (a0 : Str) : RE k f48a1 f48o1 false ⟨[(0, (V.str a0))], [], 15⟩ = some ⟨[(0, (V.str a0)), (5, (I (a0.length : Int))), (6, (I 0))], [], 15⟩ :=
  rE rfl
theorem f48r2 (k : Nat) (a0 : Str) (x4 : Int) : RE k f48a2 f48o2 false ⟨[(0, (V.str a0)), (5, (I (a0.length : Int))), (6, (I x4))], [], 15⟩ = some ⟨[(0, (V.str a0)), (5, (I (a0.length : Int))), (6, (I x4)), (7, (V.bool (decide (x4 < (a0.length : Int)))))], [], 15⟩ :=
  rE rfl
theorem f48r3 (k : Nat) (a0 : Str) (x4 : Int) : RE k f48a3 f48o3 false ⟨[(0, (V.str a0)), (5, (I (a0.length : Int))), (6, (I x4)), (7, (V.bool true))], [], 15⟩ = some ⟨[(0, (V.str a0)), (3, (I x4)), (5, (I (a0.length : Int))), (6, (I x4))], [], 15⟩ :=
  rE rfl
theorem f48r4 (k : Nat) (a0 : Str) (x4 : Int) : RE k f48a4 f48o4 false ⟨[(0, (V.str a0)), (3, (I x4)), (5, (I (a0.length : Int))), (6, (I x4))], [], 15⟩ = (((idxS a0 x4).bind fun v5 => ((screen_isByte k v5).bind fun v6 => (some ((!v6)))))).map (fun (o : Bool) => (⟨[(0, (V.str a0)), (5, (I (a0.length : Int))), (6, (I x4)), (13, (V.bool o))], [], 15⟩ : St)) := by
  refine rg ?_
  refine ra 2 2 ⟨[(0, (V.str a0)), (3, (I x4)), (5, (I (a0.length : Int))), (6, (I x4)), (9, (V.str a0)), (10, (I x4))], [], 15⟩ rfl rfl rfl ?_
  refine Eq.trans (reg_pure (x := (idxS a0 x4)) (w := fun v5 => (V.int .u8 v5)) rfl rfl rfl rfl (p_indexS rfl rfl rfl Go.Proofs.Try.underlying9)) ?_
  refine bindE (fun v5 => ?_)
  refine ba 0 3 ⟨[(0, (V.str a0)), (3, (I x4)), (5, (I (a0.length : Int))), (6, (I x4)), (9, (V.str a0)), (10, (I x4)), (11, (V.int .u8 v5))], [], 15⟩ rfl rfl rfl ?_
  refine Eq.trans (reg_pure (x := (screen_isByte k v5)) (w := fun v6 => (V.bool v6)) rfl rfl rfl rfl (p_call rfl rfl rfl rfl rfl (screen_isByte_ok k v5) (.inl rfl))) ?_
  refine bindE (fun v6 => ?_)
  exact bind_end rfl
theorem f48r5 (k : Nat) (a0 : Str) (x4 : Int) : RE k f48a5 f48o5 false ⟨[(0, (V.str a0)), (5, (I (a0.length : Int))), (6, (I x4)), (13, (V.bool true))], [], 15⟩ = some ⟨[(2, (V.bool false))], [], 15⟩ :=
  rE rfl
theorem f48r6 (k : Nat) (a0 : Str) (x4 : Int) : RE k f48a6 f48o6 false ⟨[(0, (V.str a0)), (5, (I (a0.length : Int))), (6, (I x4)), (13, (V.bool false))], [], 15⟩ = some ⟨[(0, (V.str a0)), (5, (I (a0.length : Int))), (6, (I (Go.IntKind.wrap .i64 (x4 + 1))))], [], 15⟩ :=
  rE rfl
theorem screen_isText_L1_ok (k : Nat) (a0 : Str)  (K0 : Int → Option Bool) (Kst : X × St → Option (V × List V)) (hK0 : ∀ (y0 : Int), Kst (X.exit 0, ⟨[(0, (V.str a0)), (5, (I (a0.length : Int))), (6, (I y0)), (7, (V.bool false))], [], 15⟩) = (K0 y0).map screen_isText_fin) (hret : ∀ s, Kst (X.ret, s) = endK prog 15 [(V.str a0)] [] [.tmp 2] (X.ret, s)) :
    ∀ (m : Nat) (x4 : Int), (iter (exec prog (EV k) f48n k f48b0) m ⟨[(0, (V.str a0)), (5, (I (a0.length : Int))), (6, (I x4))], [], 15⟩).bind Kst = (screen_isText_L1 k a0 K0 m x4).map screen_isText_fin := by
  intro m
  induction m with
  | zero => intros; rfl
  | succ m ih =>
    intro x4
    unfold screen_isText_L1
    refine Eq.trans k_round ?_
    refine Eq.trans (k_region0 rfl (f48r2 k a0 x4)) ?_
    refine Eq.trans (k_cond (t := (decide (x4 < (a0.length : Int)))) rfl rfl) ?_
    refine bifE2 (fun hc => ?_) fun hc => ?_
    · rw [hc]
      refine Eq.trans k_skip ?_
      refine Eq.trans (k_block rfl) ?_
      refine Eq.trans (k_region0 rfl (f48r3 k a0 x4)) ?_
      refine Eq.trans (k_region rfl (f48r4 k a0 x4)) ?_
      refine bindE (fun o7 => ?_)
      refine Eq.trans (k_lcond (t := o7) rfl rfl) ?_
      refine bifE2 (fun hc => ?_) fun hc => ?_
      · rw [hc]
        refine Eq.trans (k_region0 rfl (f48r5 k a0 x4)) ?_
        refine Eq.trans k_lret ?_
        refine Eq.trans blk_ret ?_
        refine Eq.trans loop_ret ?_
        refine Eq.trans (hret _) ?_
        rfl
      · rw [hc]
        refine Eq.trans k_lskip ?_
        refine Eq.trans blk_normal ?_
        refine Eq.trans (k_lregion0 rfl (f48r6 k a0 x4)) ?_
        refine Eq.trans loop_normal ?_
        exact ih (Go.IntKind.wrap .i64 (x4 + 1))
    · rw [hc]
      refine Eq.trans k_exit ?_
      refine Eq.trans loop_exit ?_
      exact hK0 x4
theorem f48r7 (k : Nat) (a0 : Str) (y8 : Int) : RE k f48a7 f48o7 false ⟨[(0, (V.str a0)), (5, (I (a0.length : Int))), (6, (I y8)), (7, (V.bool false))], [], 15⟩ = some ⟨[(2, (V.bool true))], [], 15⟩ :=
  rE rfl
theorem screen_isText_ok (k : Nat) (a0 : Str) : EV k 48 [(V.str a0)] = (screen_isText k a0).map screen_isText_fin := by
  cases k with
  | zero => rfl
  | succ k =>
    unfold screen_isText
    refine Eq.trans (evF_succ (c := f48c) (N := 15) (regs := f48n) rfl Go.Proofs.Try.func48 rfl (by decide) rfl rfl rfl) ?_
    refine Eq.trans (k_region0 rfl (f48r0 k a0)) ?_
    refine Eq.trans k_assoc ?_
    refine Eq.trans (k_region0 rfl (f48r1 k a0)) ?_
    refine Eq.trans (k_block rfl) ?_
    refine Eq.trans k_loop ?_
    refine screen_isText_L1_ok k a0 _ _ ?h_screen_isText_L1_0 ?hr_screen_isText_L1 k 0
    · intro y8
      refine Eq.trans blk_exit ?_
      refine Eq.trans (k_region0 rfl (f48r7 k a0 y8)) ?_
      refine Eq.trans k_lret ?_
      rfl
    · intro s; exact rfl
def screen_lies_fin : Bool → V × List V := fun r => ((V.bool r), [])
theorem f54r0 (k : Nat) (a0 : T_api_Form) (a1 : Int) (a2 : Int) (a3 : Int) : RE k f54a0 f54o0 false ⟨[(0, (enc_T_api_Form a0)), (1, (I a1)), (2, (I a2)), (3, (I a3))], [], 39⟩ = some ⟨[(1, (I a1)), (2, (I a2)), (3, (I a3)), (4, (V.ptr 4 0 0))], [(4, ⟨false, 4, [(enc_T_api_Form a0)]⟩)], 39⟩ :=
  rE rfl
theorem f54r1 (k : Nat) (a0 : T_api_Form) (a1 : Int) (a2 : Int) (a3 : Int) : RE k f54a1 f54o1 false ⟨[(1, (I a1)), (2, (I a2)), (3, (I a3)), (4, (V.ptr 4 0 0))], [(4, ⟨false, 4, [(enc_T_api_Form a0)]⟩)], 39⟩ = ((bif (decide (a1 ≥ 0)) then (bif (decide (a1 < a0.fRows)) then (bif (decide (a2 ≥ 0)) then (bif (decide (a2 < a0.fColumns)) then (bif (decide (a3 ≥ 1)) then (some ((decide (a3 ≤ (Go.IntKind.wrap .i64 (a0.fColumns - a2)))))) else (some (false))) else (some (false))) else (some (false))) else (some (false))) else (some (false)))).map (fun (o : Bool) => (⟨[(8, (V.bool o))], [], 39⟩ : St)) := by
  refine rg ?_
  refine ra 3 3 ⟨[(1, (I a1)), (2, (I a2)), (3, (I a3)), (4, (V.ptr 4 0 0)), (9, (I a1)), (10, (V.bool (decide (a1 ≥ 0)))), (11, (V.bool (decide (a1 ≥ 0))))], [(4, ⟨false, 4, [(enc_T_api_Form a0)]⟩)], 39⟩ rfl rfl rfl ?_
  refine bifE (c := (decide (a1 ≥ 0))) (fun hc => ?_) fun hc => ?_
  · rw [hc]
    refine ra 6 9 ⟨[(1, (I a1)), (2, (I a2)), (3, (I a3)), (4, (V.ptr 4 0 0)), (9, (I a1)), (10, (V.bool true)), (11, (V.bool true)), (12, (I a1)), (13, (V.ptr 4 0 0)), (14, (I a0.fRows)), (15, (V.bool (decide (a1 < a0.fRows)))), (16, (V.bool (decide (a1 < a0.fRows)))), (17, (V.bool (decide (a1 < a0.fRows))))], [(4, ⟨false, 4, [(enc_T_api_Form a0)]⟩)], 39⟩ rfl rfl rfl ?_
    refine bifE (c := (decide (a1 < a0.fRows))) (fun hc => ?_) fun hc => ?_
    · rw [hc]
      refine ra 4 13 ⟨[(1, (I a1)), (2, (I a2)), (3, (I a3)), (4, (V.ptr 4 0 0)), (9, (I a1)), (10, (V.bool true)), (11, (V.bool true)), (12, (I a1)), (13, (V.ptr 4 0 0)), (14, (I a0.fRows)), (15, (V.bool true)), (16, (V.bool true)), (17, (V.bool true)), (18, (I a2)), (19, (V.bool (decide (a2 ≥ 0)))), (20, (V.bool (decide (a2 ≥ 0)))), (21, (V.bool (decide (a2 ≥ 0))))], [(4, ⟨false, 4, [(enc_T_api_Form a0)]⟩)], 39⟩ rfl rfl rfl ?_
      refine bifE (c := (decide (a2 ≥ 0))) (fun hc => ?_) fun hc => ?_
      · rw [hc]
        refine ra 6 19 ⟨[(1, (I a1)), (2, (I a2)), (3, (I a3)), (4, (V.ptr 4 0 0)), (9, (I a1)), (10, (V.bool true)), (11, (V.bool true)), (12, (I a1)), (13, (V.ptr 4 0 0)), (14, (I a0.fRows)), (15, (V.bool true)), (16, (V.bool true)), (17, (V.bool true)), (18, (I a2)), (19, (V.bool true)), (20, (V.bool true)), (21, (V.bool true)), (22, (I a2)), (23, (V.ptr 4 0 1)), (24, (I a0.fColumns)), (25, (V.bool (decide (a2 < a0.fColumns)))), (26, (V.bool (decide (a2 < a0.fColumns)))), (27, (V.bool (decide (a2 < a0.fColumns))))], [(4, ⟨false, 4, [(enc_T_api_Form a0)]⟩)], 39⟩ rfl rfl rfl ?_
        refine bifE (c := (decide (a2 < a0.fColumns))) (fun hc => ?_) fun hc => ?_
        · rw [hc]
          refine ra 4 23 ⟨[(1, (I a1)), (2, (I a2)), (3, (I a3)), (4, (V.ptr 4 0 0)), (9, (I a1)), (10, (V.bool true)), (11, (V.bool true)), (12, (I a1)), (13, (V.ptr 4 0 0)), (14, (I a0.fRows)), (15, (V.bool true)), (16, (V.bool true)), (17, (V.bool true)), (18, (I a2)), (19, (V.bool true)), (20, (V.bool true)), (21, (V.bool true)), (22, (I a2)), (23, (V.ptr 4 0 1)), (24, (I a0.fColumns)), (25, (V.bool true)), (26, (V.bool true)), (27, (V.bool true)), (28, (I a3)), (29, (V.bool (decide (a3 ≥ 1)))), (30, (V.bool (decide (a3 ≥ 1)))), (31, (V.bool (decide (a3 ≥ 1))))], [(4, ⟨false, 4, [(enc_T_api_Form a0)]⟩)], 39⟩ rfl rfl rfl ?_
          refine bifE (c := (decide (a3 ≥ 1))) (fun hc => ?_) fun hc => ?_
          · rw [hc]
            exact reg_end rfl
          · rw [hc]
            exact reg_end rfl
        · rw [hc]
          exact reg_end rfl
      · rw [hc]
        exact reg_end rfl
    · rw [hc]
      exact reg_end rfl
  · rw [hc]
    exact reg_end rfl
theorem screen_lies_ok (k : Nat) (a0 : T_api_Form) (a1 : Int) (a2 : Int) (a3 : Int) : EV k 54 [(enc_T_api_Form a0), (I a1), (I a2), (I a3)] = (screen_lies k a0 a1 a2 a3).map screen_lies_fin := by
  cases k with
  | zero => rfl
  | succ k =>
    unfold screen_lies
    refine Eq.trans (evF_succ (c := f54c) (N := 39) (regs := f54n) rfl Go.Proofs.Try.func54 rfl (by decide) rfl rfl rfl) ?_
    refine Eq.trans (k_region0 rfl (f54r0 k a0 a1 a2 a3)) ?_
    refine Eq.trans (k_region rfl (f54r1 k a0 a1 a2 a3)) ?_
    refine bindE (fun o1 => ?_)
    refine Eq.trans k_lret ?_
    rfl
def slices_IndexFunc_part_v10s75_fin : Int → V × List V := fun r => ((I r), [])
theorem f76r0 (k : Nat) (a0 : (List T_screen_part)) (a1 : Nat → T_screen_part → Option Bool) (a1_fid : Go.FuncId) (a1_d0 : T_screen_part) (a1_hok : ∀ j x0, EV j a1_fid [(enc_T_screen_part a1_d0), (enc_T_screen_part x0)] = (a1 j x0).map fun b => ((V.bool b), [])) : RE k f76a0 f76o0 false ⟨[(0, (spart (a0))), (1, (V.fn a1_fid [(enc_T_screen_part a1_d0)] []))], [], 19⟩ = some ⟨[(0, (spart (a0))), (1, (V.fn a1_fid [(enc_T_screen_part a1_d0)] []))], [], 19⟩ :=
  rE rfl
theorem f76r1 (k : Nat) (a0 : (List T_screen_part)) (a1 : Nat → T_screen_part → Option Bool) (a1_fid : Go.FuncId) (a1_d0 : T_screen_part) (a1_hok : ∀ j x0, EV j a1_fid [(enc_T_screen_part a1_d0), (enc_T_screen_part x0)] = (a1 j x0).map fun b => ((V.bool b), [])) : RE k f76a1 f76o1 false ⟨[(0, (spart (a0))), (1, (V.fn a1_fid [(enc_T_screen_part a1_d0)] []))], [], 19⟩ = some ⟨[(0, (spart (a0))), (1, (V.fn a1_fid [(enc_T_screen_part a1_d0)] [])), (7, (I (a0.length : Int))), (8, (I 0))], [], 19⟩ := by
  refine rg ?_
  refine ra 1 1 ⟨[(0, (spart (a0))), (1, (V.fn a1_fid [(enc_T_screen_part a1_d0)] [])), (6, (spart (a0)))], [], 19⟩ rfl rfl rfl ?_
  refine Eq.trans (reg_pure (x := some ()) (w := fun _ => (I (a0.length : Int))) rfl rfl rfl rfl (p_len (e := enc_T_screen_part) rfl rfl rfl rfl rfl rfl Go.Proofs.Try.underlying72)) ?_
  refine Eq.trans some_bind ?_
  exact bind_end rfl
theorem f76r2 (k : Nat) (a0 : (List T_screen_part)) (x4 : Int) (a1 : Nat → T_screen_part → Option Bool) (a1_fid : Go.FuncId) (a1_d0 : T_screen_part) (a1_hok : ∀ j x0, EV j a1_fid [(enc_T_screen_part a1_d0), (enc_T_screen_part x0)] = (a1 j x0).map fun b => ((V.bool b), [])) : RE k f76a2 f76o2 false ⟨[(0, (spart (a0))), (1, (V.fn a1_fid [(enc_T_screen_part a1_d0)] [])), (7, (I (a0.length : Int))), (8, (I x4))], [], 19⟩ = some ⟨[(0, (spart (a0))), (1, (V.fn a1_fid [(enc_T_screen_part a1_d0)] [])), (7, (I (a0.length : Int))), (8, (I x4)), (9, (V.bool (decide (x4 < (a0.length : Int)))))], [], 19⟩ :=
  rE rfl
theorem f76r3 (k : Nat) (a0 : (List T_screen_part)) (x4 : Int) (a1 : Nat → T_screen_part → Option Bool) (a1_fid : Go.FuncId) (a1_d0 : T_screen_part) (a1_hok : ∀ j x0, EV j a1_fid [(enc_T_screen_part a1_d0), (enc_T_screen_part x0)] = (a1 j x0).map fun b => ((V.bool b), [])) : RE k f76a3 f76o3 false ⟨[(0, (spart (a0))), (1, (V.fn a1_fid [(enc_T_screen_part a1_d0)] [])), (7, (I (a0.length : Int))), (8, (I x4)), (9, (V.bool true))], [], 19⟩ = some ⟨[(0, (spart (a0))), (1, (V.fn a1_fid [(enc_T_screen_part a1_d0)] [])), (5, (I x4)), (7, (I (a0.length : Int))), (8, (I x4))], [], 19⟩ :=
  rE rfl
theorem f76r4 (k : Nat) (a0 : (List T_screen_part)) (x4 : Int) (a1 : Nat → T_screen_part → Option Bool) (a1_fid : Go.FuncId) (a1_d0 : T_screen_part) (a1_hok : ∀ j x0, EV j a1_fid [(enc_T_screen_part a1_d0), (enc_T_screen_part x0)] = (a1 j x0).map fun b => ((V.bool b), [])) : RE k f76a4 f76o4 false ⟨[(0, (spart (a0))), (1, (V.fn a1_fid [(enc_T_screen_part a1_d0)] [])), (5, (I x4)), (7, (I (a0.length : Int))), (8, (I x4))], [], 19⟩ = (((idx a0 x4).bind fun v5 => (a1 k v5))).map (fun (o : Bool) => (⟨[(0, (spart (a0))), (1, (V.fn a1_fid [(enc_T_screen_part a1_d0)] [])), (5, (I x4)), (7, (I (a0.length : Int))), (8, (I x4)), (16, (V.bool o))], [], 19⟩ : St)) := by
  refine rg ?_
  refine ra 3 3 ⟨[(0, (spart (a0))), (1, (V.fn a1_fid [(enc_T_screen_part a1_d0)] [])), (5, (I x4)), (7, (I (a0.length : Int))), (8, (I x4)), (11, (V.fn a1_fid [(enc_T_screen_part a1_d0)] [])), (12, (spart (a0))), (13, (I x4))], [], 19⟩ rfl rfl rfl ?_
  refine Eq.trans (reg_pure (x := (idx a0 x4)) (w := fun v5 => (V.pro (enc_T_screen_part v5))) rfl rfl rfl rfl (p_index (e := enc_T_screen_part) rfl rfl rfl Go.Proofs.Try.underlying72 rfl (by decide))) ?_
  refine bindE (fun v5 => ?_)
  refine ba 1 5 ⟨[(0, (spart (a0))), (1, (V.fn a1_fid [(enc_T_screen_part a1_d0)] [])), (5, (I x4)), (7, (I (a0.length : Int))), (8, (I x4)), (11, (V.fn a1_fid [(enc_T_screen_part a1_d0)] [])), (12, (spart (a0))), (13, (I x4)), (14, (V.pro (enc_T_screen_part v5))), (15, (enc_T_screen_part v5))], [], 19⟩ rfl rfl rfl ?_
  refine Eq.trans (reg_pure (x := (a1 k v5)) (w := fun v6 => (V.bool v6)) rfl rfl rfl rfl (p_call rfl rfl rfl rfl rfl (a1_hok k v5) (.inl rfl))) ?_
  refine bind_self (fun v6 => ?_)
  exact bind_end rfl
theorem f76r5 (k : Nat) (a0 : (List T_screen_part)) (x4 : Int) (a1 : Nat → T_screen_part → Option Bool) (a1_fid : Go.FuncId) (a1_d0 : T_screen_part) (a1_hok : ∀ j x0, EV j a1_fid [(enc_T_screen_part a1_d0), (enc_T_screen_part x0)] = (a1 j x0).map fun b => ((V.bool b), [])) : RE k f76a5 f76o5 false ⟨[(0, (spart (a0))), (1, (V.fn a1_fid [(enc_T_screen_part a1_d0)] [])), (5, (I x4)), (7, (I (a0.length : Int))), (8, (I x4)), (16, (V.bool true))], [], 19⟩ = some ⟨[(4, (I x4))], [], 19⟩ :=
  rE rfl
theorem f76r6 (k : Nat) (a0 : (List T_screen_part)) (x4 : Int) (a1 : Nat → T_screen_part → Option Bool) (a1_fid : Go.FuncId) (a1_d0 : T_screen_part) (a1_hok : ∀ j x0, EV j a1_fid [(enc_T_screen_part a1_d0), (enc_T_screen_part x0)] = (a1 j x0).map fun b => ((V.bool b), [])) : RE k f76a6 f76o6 false ⟨[(0, (spart (a0))), (1, (V.fn a1_fid [(enc_T_screen_part a1_d0)] [])), (5, (I x4)), (7, (I (a0.length : Int))), (8, (I x4)), (16, (V.bool false))], [], 19⟩ = some ⟨[(0, (spart (a0))), (1, (V.fn a1_fid [(enc_T_screen_part a1_d0)] [])), (7, (I (a0.length : Int))), (8, (I (Go.IntKind.wrap .i64 (x4 + 1))))], [], 19⟩ :=
  rE rfl
theorem slices_IndexFunc_part_v10s75_L1_ok (k : Nat) (a0 : (List T_screen_part)) (a1 : Nat → T_screen_part → Option Bool) (a1_fid : Go.FuncId) (a1_d0 : T_screen_part) (a1_hok : ∀ j x0, EV j a1_fid [(enc_T_screen_part a1_d0), (enc_T_screen_part x0)] = (a1 j x0).map fun b => ((V.bool b), [])) (K0 : Int → Option Int) (Kst : X × St → Option (V × List V)) (hK0 : ∀ (y0 : Int), Kst (X.exit 0, ⟨[(0, (spart (a0))), (1, (V.fn a1_fid [(enc_T_screen_part a1_d0)] [])), (7, (I (a0.length : Int))), (8, (I y0)), (9, (V.bool false))], [], 19⟩) = (K0 y0).map slices_IndexFunc_part_v10s75_fin) (hret : ∀ s, Kst (X.ret, s) = endK prog 19 [(spart (a0)), (V.fn a1_fid [(enc_T_screen_part a1_d0)] [])] [] [.tmp 4] (X.ret, s)) :
    ∀ (m : Nat) (x4 : Int), (iter (exec prog (EV k) f76n k f76b0) m ⟨[(0, (spart (a0))), (1, (V.fn a1_fid [(enc_T_screen_part a1_d0)] [])), (7, (I (a0.length : Int))), (8, (I x4))], [], 19⟩).bind Kst = (slices_IndexFunc_part_v10s75_L1 k a0 a1 K0 m x4).map slices_IndexFunc_part_v10s75_fin := by
  intro m
  induction m with
  | zero => intros; rfl
  | succ m ih =>
    intro x4
    unfold slices_IndexFunc_part_v10s75_L1
    refine Eq.trans k_round ?_
    refine Eq.trans (k_region0 rfl (f76r2 k a0 x4 a1 a1_fid a1_d0 a1_hok)) ?_
    refine Eq.trans (k_cond (t := (decide (x4 < (a0.length : Int)))) rfl rfl) ?_
    refine bifE2 (fun hc => ?_) fun hc => ?_
    · rw [hc]
      refine Eq.trans k_skip ?_
      refine Eq.trans (k_block rfl) ?_
      refine Eq.trans (k_region0 rfl (f76r3 k a0 x4 a1 a1_fid a1_d0 a1_hok)) ?_
      refine Eq.trans (k_region rfl (f76r4 k a0 x4 a1 a1_fid a1_d0 a1_hok)) ?_
      refine bindE (fun o7 => ?_)
      refine Eq.trans (k_lcond (t := o7) rfl rfl) ?_
      refine bifE2 (fun hc => ?_) fun hc => ?_
      · rw [hc]
        refine Eq.trans (k_region0 rfl (f76r5 k a0 x4 a1 a1_fid a1_d0 a1_hok)) ?_
        refine Eq.trans k_lret ?_
        refine Eq.trans blk_ret ?_
        refine Eq.trans loop_ret ?_
        refine Eq.trans (hret _) ?_
        rfl
      · rw [hc]
        refine Eq.trans k_lskip ?_
        refine Eq.trans blk_normal ?_
        refine Eq.trans (k_lregion0 rfl (f76r6 k a0 x4 a1 a1_fid a1_d0 a1_hok)) ?_
        refine Eq.trans loop_normal ?_
        exact ih (Go.IntKind.wrap .i64 (x4 + 1))
    · rw [hc]
      refine Eq.trans k_exit ?_
      refine Eq.trans loop_exit ?_
      exact hK0 x4
theorem f76r7 (k : Nat) (a0 : (List T_screen_part)) (y8 : Int) (a1 : Nat → T_screen_part → Option Bool) (a1_fid : Go.FuncId) (a1_d0 : T_screen_part) (a1_hok : ∀ j x0, EV j a1_fid [(enc_T_screen_part a1_d0), (enc_T_screen_part x0)] = (a1 j x0).map fun b => ((V.bool b), [])) : RE k f76a7 f76o7 false ⟨[(0, (spart (a0))), (1, (V.fn a1_fid [(enc_T_screen_part a1_d0)] [])), (7, (I (a0.length : Int))), (8, (I y8)), (9, (V.bool false))], [], 19⟩ = some ⟨[(4, (I (-1)))], [], 19⟩ :=
  rE rfl
theorem slices_IndexFunc_part_v10s75_ok (k : Nat) (a0 : (List T_screen_part)) (a1 : Nat → T_screen_part → Option Bool) (a1_fid : Go.FuncId) (a1_d0 : T_screen_part) (a1_hok : ∀ j x0, EV j a1_fid [(enc_T_screen_part a1_d0), (enc_T_screen_part x0)] = (a1 j x0).map fun b => ((V.bool b), [])) : EV k 76 [(spart (a0)), (V.fn a1_fid [(enc_T_screen_part a1_d0)] [])] = (slices_IndexFunc_part_v10s75 k a0 a1).map slices_IndexFunc_part_v10s75_fin := by
  cases k with
  | zero => rfl
  | succ k =>
    unfold slices_IndexFunc_part_v10s75
    refine Eq.trans (evF_succ (c := f76c) (N := 19) (regs := f76n) rfl Go.Proofs.Try.func76 rfl (by decide) rfl rfl rfl) ?_
    refine Eq.trans (k_region0 rfl (f76r0 k a0 a1 a1_fid a1_d0 a1_hok)) ?_
    refine Eq.trans k_assoc ?_
    refine Eq.trans (k_region0 rfl (f76r1 k a0 a1 a1_fid a1_d0 a1_hok)) ?_
    refine Eq.trans (k_block rfl) ?_
    refine Eq.trans k_loop ?_
    refine slices_IndexFunc_part_v10s75_L1_ok k a0 a1 a1_fid a1_d0 a1_hok _ _ ?h_slices_IndexFunc_part_v10s75_L1_0 ?hr_slices_IndexFunc_part_v10s75_L1 k 0
    · intro y8
      refine Eq.trans blk_exit ?_
      refine Eq.trans (k_region0 rfl (f76r7 k a0 y8 a1 a1_fid a1_d0 a1_hok)) ?_
      refine Eq.trans k_lret ?_
      rfl
    · intro s; exact rfl
def slices_ContainsFunc_part_v10s75_fin : Bool → V × List V := fun r => ((V.bool r), [])
theorem f55r0 (k : Nat) (a0 : (List T_screen_part)) (a1 : Nat → T_screen_part → Option Bool) (a1_fid : Go.FuncId) (a1_d0 : T_screen_part) (a1_hok : ∀ j x0, EV j a1_fid [(enc_T_screen_part a1_d0), (enc_T_screen_part x0)] = (a1 j x0).map fun b => ((V.bool b), [])) : RE k f55a0 f55o0 false ⟨[(0, (spart (a0))), (1, (V.fn a1_fid [(enc_T_screen_part a1_d0)] []))], [], 9⟩ = some ⟨[(0, (spart (a0))), (1, (V.fn a1_fid [(enc_T_screen_part a1_d0)] []))], [], 9⟩ :=
  rE rfl
theorem f55r1 (k : Nat) (a0 : (List T_screen_part)) (a1 : Nat → T_screen_part → Option Bool) (a1_fid : Go.FuncId) (a1_d0 : T_screen_part) (a1_hok : ∀ j x0, EV j a1_fid [(enc_T_screen_part a1_d0), (enc_T_screen_part x0)] = (a1 j x0).map fun b => ((V.bool b), [])) : RE k f55a1 f55o1 false ⟨[(0, (spart (a0))), (1, (V.fn a1_fid [(enc_T_screen_part a1_d0)] []))], [], 9⟩ = (((slices_IndexFunc_part_v10s75 k a0 a1).bind fun v1 => (some ((decide (v1 ≥ 0)))))).map (fun (o : Bool) => (⟨[(4, (V.bool o))], [], 9⟩ : St)) := by
  refine rg ?_
  refine ra 2 2 ⟨[(0, (spart (a0))), (1, (V.fn a1_fid [(enc_T_screen_part a1_d0)] [])), (5, (spart (a0))), (6, (V.fn a1_fid [(enc_T_screen_part a1_d0)] []))], [], 9⟩ rfl rfl rfl ?_
  refine Eq.trans (reg_pure (x := (slices_IndexFunc_part_v10s75 k a0 a1)) (w := fun v1 => (I v1)) rfl rfl rfl rfl (p_call rfl rfl rfl rfl rfl (slices_IndexFunc_part_v10s75_ok k a0 a1 a1_fid a1_d0 a1_hok) (.inl rfl))) ?_
  refine bindE (fun v1 => ?_)
  exact bind_end rfl
theorem slices_ContainsFunc_part_v10s75_ok (k : Nat) (a0 : (List T_screen_part)) (a1 : Nat → T_screen_part → Option Bool) (a1_fid : Go.FuncId) (a1_d0 : T_screen_part) (a1_hok : ∀ j x0, EV j a1_fid [(enc_T_screen_part a1_d0), (enc_T_screen_part x0)] = (a1 j x0).map fun b => ((V.bool b), [])) : EV k 55 [(spart (a0)), (V.fn a1_fid [(enc_T_screen_part a1_d0)] [])] = (slices_ContainsFunc_part_v10s75 k a0 a1).map slices_ContainsFunc_part_v10s75_fin := by
  cases k with
  | zero => rfl
  | succ k =>
    unfold slices_ContainsFunc_part_v10s75
    refine Eq.trans (evF_succ (c := f55c) (N := 9) (regs := f55n) rfl Go.Proofs.Try.func55 rfl (by decide) rfl rfl rfl) ?_
    refine Eq.trans (k_region0 rfl (f55r0 k a0 a1 a1_fid a1_d0 a1_hok)) ?_
    refine Eq.trans (k_region rfl (f55r1 k a0 a1 a1_fid a1_d0 a1_hok)) ?_
    refine bindE (fun o2 => ?_)
    refine Eq.trans k_lret ?_
    rfl
def screen_part_meets_fin : Bool → V × List V := fun r => ((V.bool r), [])
theorem f56r0 (k : Nat) (a0 : T_screen_part) (a1 : T_screen_part) : RE k f56a0 f56o0 false ⟨[(0, (enc_T_screen_part a0)), (1, (enc_T_screen_part a1))], [], 30⟩ = some ⟨[(2, (V.ptr 2 0 0)), (3, (V.ptr 3 0 0))], [(2, ⟨false, 3, [(enc_T_screen_part a0)]⟩), (3, ⟨false, 3, [(enc_T_screen_part a1)]⟩)], 30⟩ :=
  rE rfl
theorem f56r1 (k : Nat) (a0 : T_screen_part) (a1 : T_screen_part) : RE k f56a1 f56o1 false ⟨[(2, (V.ptr 2 0 0)), (3, (V.ptr 3 0 0))], [(2, ⟨false, 3, [(enc_T_screen_part a0)]⟩), (3, ⟨false, 3, [(enc_T_screen_part a1)]⟩)], 30⟩ = ((bif (a0.frow == a1.frow) then (bif (decide (a0.fcolumn < (Go.IntKind.wrap .i64 (a1.fcolumn + a1.fn)))) then (some ((decide (a1.fcolumn < (Go.IntKind.wrap .i64 (a0.fcolumn + a0.fn)))))) else (some (false))) else (some (false)))).map (fun (o : Bool) => (⟨[(4, (V.bool o))], [], 30⟩ : St)) := by
  refine rg ?_
  refine ra 6 6 ⟨[(2, (V.ptr 2 0 0)), (3, (V.ptr 3 0 0)), (5, (V.ptr 2 0 0)), (6, (I a0.frow)), (7, (V.ptr 3 0 0)), (8, (I a1.frow)), (9, (V.bool (a0.frow == a1.frow))), (10, (V.bool (a0.frow == a1.frow)))], [(2, ⟨false, 3, [(enc_T_screen_part a0)]⟩), (3, ⟨false, 3, [(enc_T_screen_part a1)]⟩)], 30⟩ rfl rfl rfl ?_
  refine bifE (c := (a0.frow == a1.frow)) (fun hc => ?_) fun hc => ?_
  · rw [hc]
    refine ra 10 16 ⟨[(2, (V.ptr 2 0 0)), (3, (V.ptr 3 0 0)), (5, (V.ptr 2 0 0)), (6, (I a0.frow)), (7, (V.ptr 3 0 0)), (8, (I a1.frow)), (9, (V.bool true)), (10, (V.bool true)), (11, (V.ptr 2 0 1)), (12, (I a0.fcolumn)), (13, (V.ptr 3 0 1)), (14, (I a1.fcolumn)), (15, (V.ptr 3 0 2)), (16, (I a1.fn)), (17, (I (Go.IntKind.wrap .i64 (a1.fcolumn + a1.fn)))), (18, (V.bool (decide (a0.fcolumn < (Go.IntKind.wrap .i64 (a1.fcolumn + a1.fn)))))), (19, (V.bool (decide (a0.fcolumn < (Go.IntKind.wrap .i64 (a1.fcolumn + a1.fn)))))), (20, (V.bool (decide (a0.fcolumn < (Go.IntKind.wrap .i64 (a1.fcolumn + a1.fn))))))], [(2, ⟨false, 3, [(enc_T_screen_part a0)]⟩), (3, ⟨false, 3, [(enc_T_screen_part a1)]⟩)], 30⟩ rfl rfl rfl ?_
    refine bifE (c := (decide (a0.fcolumn < (Go.IntKind.wrap .i64 (a1.fcolumn + a1.fn))))) (fun hc => ?_) fun hc => ?_
    · rw [hc]
      exact reg_end rfl
    · rw [hc]
      exact reg_end rfl
  · rw [hc]
    exact reg_end rfl
theorem screen_part_meets_ok (k : Nat) (a0 : T_screen_part) (a1 : T_screen_part) : EV k 56 [(enc_T_screen_part a0), (enc_T_screen_part a1)] = (screen_part_meets k a0 a1).map screen_part_meets_fin := by
  cases k with
  | zero => rfl
  | succ k =>
    unfold screen_part_meets
    refine Eq.trans (evF_succ (c := f56c) (N := 30) (regs := f56n) rfl Go.Proofs.Try.func56 rfl (by decide) rfl rfl rfl) ?_
    refine Eq.trans (k_region0 rfl (f56r0 k a0 a1)) ?_
    refine Eq.trans (k_region rfl (f56r1 k a0 a1)) ?_
    refine bindE (fun o1 => ?_)
    refine Eq.trans k_lret ?_
    rfl
def screen_Valid_fin : Bool → V × List V := fun r => ((V.bool r), [])
theorem f24r0 (k : Nat) (a0 : T_api_Form) : RE k f24a0 f24o0 false ⟨[(0, (enc_T_api_Form a0))], [], 122⟩ = some ⟨[(1, (V.ptr 1 0 0))], [(1, ⟨false, 4, [(enc_T_api_Form a0)]⟩)], 122⟩ :=
  rE rfl
theorem f24r1 (k : Nat) (a0 : T_api_Form) : RE k f24a1 f24o1 false ⟨[(1, (V.ptr 1 0 0))], [(1, ⟨false, 4, [(enc_T_api_Form a0)]⟩)], 122⟩ = ((bif (decide (a0.fRows < 1)) then (some (true)) else (bif (decide (a0.fRows > 12)) then (some (true)) else (bif (decide (a0.fColumns < 10)) then (some (true)) else (bif (decide (a0.fColumns > 40)) then (some (true)) else (bif (decide ((a0.fMarks.length : Int) > 8)) then (some (true)) else ((screen_areSlots k a0.fFields).bind fun v1 => (some ((!v1)))))))))).map (fun (o : Bool) => (⟨[(1, (V.ptr 1 0 0)), (39, (V.bool o))], [(1, ⟨false, 4, [(enc_T_api_Form a0)]⟩)], 122⟩ : St)) := by
  refine rg ?_
  refine ra 4 4 ⟨[(1, (V.ptr 1 0 0)), (10, (V.ptr 1 0 0)), (11, (I a0.fRows)), (12, (V.bool (decide (a0.fRows < 1)))), (13, (V.bool (decide (a0.fRows < 1))))], [(1, ⟨false, 4, [(enc_T_api_Form a0)]⟩)], 122⟩ rfl rfl rfl ?_
  refine bifE (c := (decide (a0.fRows < 1))) (fun hc => ?_) fun hc => ?_
  · rw [hc]
    exact reg_end rfl
  · rw [hc]
    refine ra 5 9 ⟨[(1, (V.ptr 1 0 0)), (10, (V.ptr 1 0 0)), (11, (I a0.fRows)), (12, (V.bool false)), (13, (V.bool false)), (14, (V.ptr 1 0 0)), (15, (I a0.fRows)), (16, (V.bool (decide (a0.fRows > 12)))), (17, (V.bool (decide (a0.fRows > 12)))), (18, (V.bool (decide (a0.fRows > 12))))], [(1, ⟨false, 4, [(enc_T_api_Form a0)]⟩)], 122⟩ rfl rfl rfl ?_
    refine bifE (c := (decide (a0.fRows > 12))) (fun hc => ?_) fun hc => ?_
    · rw [hc]
      exact reg_end rfl
    · rw [hc]
      refine ra 5 14 ⟨[(1, (V.ptr 1 0 0)), (10, (V.ptr 1 0 0)), (11, (I a0.fRows)), (12, (V.bool false)), (13, (V.bool false)), (14, (V.ptr 1 0 0)), (15, (I a0.fRows)), (16, (V.bool false)), (17, (V.bool false)), (18, (V.bool false)), (19, (V.ptr 1 0 1)), (20, (I a0.fColumns)), (21, (V.bool (decide (a0.fColumns < 10)))), (22, (V.bool (decide (a0.fColumns < 10)))), (23, (V.bool (decide (a0.fColumns < 10))))], [(1, ⟨false, 4, [(enc_T_api_Form a0)]⟩)], 122⟩ rfl rfl rfl ?_
      refine bifE (c := (decide (a0.fColumns < 10))) (fun hc => ?_) fun hc => ?_
      · rw [hc]
        exact reg_end rfl
      · rw [hc]
        refine ra 5 19 ⟨[(1, (V.ptr 1 0 0)), (10, (V.ptr 1 0 0)), (11, (I a0.fRows)), (12, (V.bool false)), (13, (V.bool false)), (14, (V.ptr 1 0 0)), (15, (I a0.fRows)), (16, (V.bool false)), (17, (V.bool false)), (18, (V.bool false)), (19, (V.ptr 1 0 1)), (20, (I a0.fColumns)), (21, (V.bool false)), (22, (V.bool false)), (23, (V.bool false)), (24, (V.ptr 1 0 1)), (25, (I a0.fColumns)), (26, (V.bool (decide (a0.fColumns > 40)))), (27, (V.bool (decide (a0.fColumns > 40)))), (28, (V.bool (decide (a0.fColumns > 40))))], [(1, ⟨false, 4, [(enc_T_api_Form a0)]⟩)], 122⟩ rfl rfl rfl ?_
        refine bifE (c := (decide (a0.fColumns > 40))) (fun hc => ?_) fun hc => ?_
        · rw [hc]
          exact reg_end rfl
        · rw [hc]
          refine ra 2 21 ⟨[(1, (V.ptr 1 0 0)), (10, (V.ptr 1 0 0)), (11, (I a0.fRows)), (12, (V.bool false)), (13, (V.bool false)), (14, (V.ptr 1 0 0)), (15, (I a0.fRows)), (16, (V.bool false)), (17, (V.bool false)), (18, (V.bool false)), (19, (V.ptr 1 0 1)), (20, (I a0.fColumns)), (21, (V.bool false)), (22, (V.bool false)), (23, (V.bool false)), (24, (V.ptr 1 0 1)), (25, (I a0.fColumns)), (26, (V.bool false)), (27, (V.bool false)), (28, (V.bool false)), (29, (V.ptr 1 0 2)), (30, (sMark (a0.fMarks)))], [(1, ⟨false, 4, [(enc_T_api_Form a0)]⟩)], 122⟩ rfl rfl rfl ?_
          refine Eq.trans (reg_pure (x := some ()) (w := fun _ => (I (a0.fMarks.length : Int))) rfl rfl rfl rfl (p_len (e := enc_T_api_Mark) rfl rfl rfl rfl rfl rfl Go.Proofs.Try.underlying22)) ?_
          refine Eq.trans some_bind ?_
          refine ba 3 25 ⟨[(1, (V.ptr 1 0 0)), (10, (V.ptr 1 0 0)), (11, (I a0.fRows)), (12, (V.bool false)), (13, (V.bool false)), (14, (V.ptr 1 0 0)), (15, (I a0.fRows)), (16, (V.bool false)), (17, (V.bool false)), (18, (V.bool false)), (19, (V.ptr 1 0 1)), (20, (I a0.fColumns)), (21, (V.bool false)), (22, (V.bool false)), (23, (V.bool false)), (24, (V.ptr 1 0 1)), (25, (I a0.fColumns)), (26, (V.bool false)), (27, (V.bool false)), (28, (V.bool false)), (29, (V.ptr 1 0 2)), (30, (sMark (a0.fMarks))), (31, (I (a0.fMarks.length : Int))), (32, (V.bool (decide ((a0.fMarks.length : Int) > 8)))), (33, (V.bool (decide ((a0.fMarks.length : Int) > 8)))), (34, (V.bool (decide ((a0.fMarks.length : Int) > 8))))], [(1, ⟨false, 4, [(enc_T_api_Form a0)]⟩)], 122⟩ rfl rfl rfl ?_
          refine bifE (c := (decide ((a0.fMarks.length : Int) > 8))) (fun hc => ?_) fun hc => ?_
          · rw [hc]
            exact reg_end rfl
          · rw [hc]
            refine ra 2 27 ⟨[(1, (V.ptr 1 0 0)), (10, (V.ptr 1 0 0)), (11, (I a0.fRows)), (12, (V.bool false)), (13, (V.bool false)), (14, (V.ptr 1 0 0)), (15, (I a0.fRows)), (16, (V.bool false)), (17, (V.bool false)), (18, (V.bool false)), (19, (V.ptr 1 0 1)), (20, (I a0.fColumns)), (21, (V.bool false)), (22, (V.bool false)), (23, (V.bool false)), (24, (V.ptr 1 0 1)), (25, (I a0.fColumns)), (26, (V.bool false)), (27, (V.bool false)), (28, (V.bool false)), (29, (V.ptr 1 0 2)), (30, (sMark (a0.fMarks))), (31, (I (a0.fMarks.length : Int))), (32, (V.bool false)), (33, (V.bool false)), (34, (V.bool false)), (35, (V.ptr 1 0 3)), (36, (sSlot (a0.fFields)))], [(1, ⟨false, 4, [(enc_T_api_Form a0)]⟩)], 122⟩ rfl rfl rfl ?_
            refine Eq.trans (reg_pure (x := (screen_areSlots k a0.fFields)) (w := fun v1 => (V.bool v1)) rfl rfl rfl rfl (p_call rfl rfl rfl rfl rfl (screen_areSlots_ok k a0.fFields) (.inl rfl))) ?_
            refine bindE (fun v1 => ?_)
            exact bind_end rfl
theorem f24r2 (k : Nat) (a0 : T_api_Form) : RE k f24a2 f24o2 false ⟨[(1, (V.ptr 1 0 0)), (39, (V.bool true))], [(1, ⟨false, 4, [(enc_T_api_Form a0)]⟩)], 122⟩ = some ⟨[(2, (V.bool false))], [], 122⟩ :=
  rE rfl
theorem f24r3 (k : Nat) (a0 : T_api_Form) : RE k f24a3 f24o3 false ⟨[(1, (V.ptr 1 0 0)), (39, (V.bool false))], [(1, ⟨false, 4, [(enc_T_api_Form a0)]⟩)], 122⟩ = some ⟨[(1, (V.ptr 1 0 0)), (3, (V.sl 1 3 (List.map enc_T_screen_part ([] : List T_screen_part))))], [(1, ⟨false, 4, [(enc_T_api_Form a0)]⟩)], 122⟩ :=
  rE rfl
theorem f24r4 (k : Nat) (a0 : T_api_Form) : RE k f24a4 f24o4 false ⟨[(1, (V.ptr 1 0 0)), (3, (V.sl 1 3 (List.map enc_T_screen_part ([] : List T_screen_part))))], [(1, ⟨false, 4, [(enc_T_api_Form a0)]⟩)], 122⟩ = some ⟨[(1, (V.ptr 1 0 0)), (3, (V.sl 1 3 (List.map enc_T_screen_part ([] : List T_screen_part)))), (41, (sMark (a0.fMarks))), (42, (I (a0.fMarks.length : Int))), (43, (I 0))], [(1, ⟨false, 4, [(enc_T_api_Form a0)]⟩)], 122⟩ := by
  refine rg ?_
  refine ra 2 2 ⟨[(1, (V.ptr 1 0 0)), (3, (V.sl 1 3 (List.map enc_T_screen_part ([] : List T_screen_part)))), (40, (V.ptr 1 0 2)), (41, (sMark (a0.fMarks)))], [(1, ⟨false, 4, [(enc_T_api_Form a0)]⟩)], 122⟩ rfl rfl rfl ?_
  refine Eq.trans (reg_pure (x := some ()) (w := fun _ => (I (a0.fMarks.length : Int))) rfl rfl rfl rfl (p_len (e := enc_T_api_Mark) rfl rfl rfl rfl rfl rfl Go.Proofs.Try.underlying22)) ?_
  refine Eq.trans some_bind ?_
  exact bind_end rfl
theorem f24r5 (k : Nat) (a0 : T_api_Form) (x10 : (List T_screen_part)) (x11 : Int) : RE k f24a5 f24o5 false ⟨[(1, (V.ptr 1 0 0)), (3, (V.sl 1 3 (List.map enc_T_screen_part x10))), (41, (sMark (a0.fMarks))), (42, (I (a0.fMarks.length : Int))), (43, (I x11))], [(1, ⟨false, 4, [(enc_T_api_Form a0)]⟩)], 122⟩ = some ⟨[(1, (V.ptr 1 0 0)), (3, (V.sl 1 3 (List.map enc_T_screen_part x10))), (41, (sMark (a0.fMarks))), (42, (I (a0.fMarks.length : Int))), (43, (I x11)), (44, (V.bool (decide (x11 < (a0.fMarks.length : Int)))))], [(1, ⟨false, 4, [(enc_T_api_Form a0)]⟩)], 122⟩ :=
  rE rfl
theorem f24r6 (k : Nat) (a0 : T_api_Form) (x10 : (List T_screen_part)) (x11 : Int) : RE k f24a6 f24o6 false ⟨[(1, (V.ptr 1 0 0)), (3, (V.sl 1 3 (List.map enc_T_screen_part x10))), (41, (sMark (a0.fMarks))), (42, (I (a0.fMarks.length : Int))), (43, (I x11)), (44, (V.bool true))], [(1, ⟨false, 4, [(enc_T_api_Form a0)]⟩)], 122⟩ = ((idx a0.fMarks x11)).map (fun (o : T_api_Mark) => (⟨[(1, (V.ptr 1 0 0)), (3, (V.sl 1 3 (List.map enc_T_screen_part x10))), (5, (V.ptr 5 0 0)), (41, (sMark (a0.fMarks))), (42, (I (a0.fMarks.length : Int))), (43, (I x11))], [(1, ⟨false, 4, [(enc_T_api_Form a0)]⟩), (5, ⟨false, 3, [(enc_T_api_Mark o)]⟩)], 122⟩ : St)) := by
  refine rg ?_
  refine Eq.trans (reg_pure (x := (idx a0.fMarks x11)) (w := fun v12 => (V.pro (enc_T_api_Mark v12))) rfl rfl rfl rfl (p_index (e := enc_T_api_Mark) rfl rfl rfl Go.Proofs.Try.underlying22 rfl (by decide))) ?_
  refine bind_self (fun v12 => ?_)
  exact bind_end rfl
theorem f24r7 (k : Nat) (a0 : T_api_Form) (x10 : (List T_screen_part)) (x11 : Int) (o13 : T_api_Mark) : RE k f24a7 f24o7 false ⟨[(1, (V.ptr 1 0 0)), (3, (V.sl 1 3 (List.map enc_T_screen_part x10))), (5, (V.ptr 5 0 0)), (41, (sMark (a0.fMarks))), (42, (I (a0.fMarks.length : Int))), (43, (I x11))], [(1, ⟨false, 4, [(enc_T_api_Form a0)]⟩), (5, ⟨false, 3, [(enc_T_api_Mark o13)]⟩)], 122⟩ = ((bif (decide ((o13.fText.length : Int) > 40)) then (some (true)) else ((screen_isText k o13.fText).bind fun v14 => (bif (!v14) then (some (true)) else ((screen_lies k a0 o13.fRow o13.fColumn (o13.fText.length : Int)).bind fun v15 => (some ((!v15)))))))).map (fun (o : Bool) => (⟨[(1, (V.ptr 1 0 0)), (3, (V.sl 1 3 (List.map enc_T_screen_part x10))), (5, (V.ptr 5 0 0)), (41, (sMark (a0.fMarks))), (42, (I (a0.fMarks.length : Int))), (43, (I x11)), (68, (V.bool o))], [(1, ⟨false, 4, [(enc_T_api_Form a0)]⟩), (5, ⟨false, 3, [(enc_T_api_Mark o13)]⟩)], 122⟩ : St)) := by
  refine rg ?_
  refine ra 5 5 ⟨[(1, (V.ptr 1 0 0)), (3, (V.sl 1 3 (List.map enc_T_screen_part x10))), (5, (V.ptr 5 0 0)), (41, (sMark (a0.fMarks))), (42, (I (a0.fMarks.length : Int))), (43, (I x11)), (47, (V.ptr 5 0 2)), (48, (V.str o13.fText)), (49, (I (o13.fText.length : Int))), (50, (V.bool (decide ((o13.fText.length : Int) > 40)))), (51, (V.bool (decide ((o13.fText.length : Int) > 40))))], [(1, ⟨false, 4, [(enc_T_api_Form a0)]⟩), (5, ⟨false, 3, [(enc_T_api_Mark o13)]⟩)], 122⟩ rfl rfl rfl ?_
  refine bifE (c := (decide ((o13.fText.length : Int) > 40))) (fun hc => ?_) fun hc => ?_
  · rw [hc]
    exact reg_end rfl
  · rw [hc]
    refine ra 2 7 ⟨[(1, (V.ptr 1 0 0)), (3, (V.sl 1 3 (List.map enc_T_screen_part x10))), (5, (V.ptr 5 0 0)), (41, (sMark (a0.fMarks))), (42, (I (a0.fMarks.length : Int))), (43, (I x11)), (47, (V.ptr 5 0 2)), (48, (V.str o13.fText)), (49, (I (o13.fText.length : Int))), (50, (V.bool false)), (51, (V.bool false)), (52, (V.ptr 5 0 2)), (53, (V.str o13.fText))], [(1, ⟨false, 4, [(enc_T_api_Form a0)]⟩), (5, ⟨false, 3, [(enc_T_api_Mark o13)]⟩)], 122⟩ rfl rfl rfl ?_
    refine Eq.trans (reg_pure (x := (screen_isText k o13.fText)) (w := fun v14 => (V.bool v14)) rfl rfl rfl rfl (p_call rfl rfl rfl rfl rfl (screen_isText_ok k o13.fText) (.inl rfl))) ?_
    refine bindE (fun v14 => ?_)
    refine ba 3 11 ⟨[(1, (V.ptr 1 0 0)), (3, (V.sl 1 3 (List.map enc_T_screen_part x10))), (5, (V.ptr 5 0 0)), (41, (sMark (a0.fMarks))), (42, (I (a0.fMarks.length : Int))), (43, (I x11)), (47, (V.ptr 5 0 2)), (48, (V.str o13.fText)), (49, (I (o13.fText.length : Int))), (50, (V.bool false)), (51, (V.bool false)), (52, (V.ptr 5 0 2)), (53, (V.str o13.fText)), (54, (V.bool v14)), (55, (V.bool (!v14))), (56, (V.bool (!v14))), (57, (V.bool (!v14)))], [(1, ⟨false, 4, [(enc_T_api_Form a0)]⟩), (5, ⟨false, 3, [(enc_T_api_Mark o13)]⟩)], 122⟩ rfl rfl rfl ?_
    refine bifE (c := (!v14)) (fun hc => ?_) fun hc => ?_
    · rw [hc]
      exact reg_end rfl
    · rw [hc]
      refine ra 8 19 ⟨[(1, (V.ptr 1 0 0)), (3, (V.sl 1 3 (List.map enc_T_screen_part x10))), (5, (V.ptr 5 0 0)), (41, (sMark (a0.fMarks))), (42, (I (a0.fMarks.length : Int))), (43, (I x11)), (47, (V.ptr 5 0 2)), (48, (V.str o13.fText)), (49, (I (o13.fText.length : Int))), (50, (V.bool false)), (51, (V.bool false)), (52, (V.ptr 5 0 2)), (53, (V.str o13.fText)), (54, (V.bool v14)), (55, (V.bool false)), (56, (V.bool false)), (57, (V.bool false)), (58, (enc_T_api_Form a0)), (59, (V.ptr 5 0 0)), (60, (I o13.fRow)), (61, (V.ptr 5 0 1)), (62, (I o13.fColumn)), (63, (V.ptr 5 0 2)), (64, (V.str o13.fText)), (65, (I (o13.fText.length : Int)))], [(1, ⟨false, 4, [(enc_T_api_Form a0)]⟩), (5, ⟨false, 3, [(enc_T_api_Mark o13)]⟩)], 122⟩ rfl rfl rfl ?_
      refine Eq.trans (reg_pure (x := (screen_lies k a0 o13.fRow o13.fColumn (o13.fText.length : Int))) (w := fun v15 => (V.bool v15)) rfl rfl rfl rfl (p_call rfl rfl rfl rfl rfl (screen_lies_ok k a0 o13.fRow o13.fColumn (o13.fText.length : Int)) (.inl rfl))) ?_
      refine bindE (fun v15 => ?_)
      exact bind_end rfl
theorem f24r8 (k : Nat) (a0 : T_api_Form) (x10 : (List T_screen_part)) (x11 : Int) (o13 : T_api_Mark) : RE k f24a8 f24o8 false ⟨[(1, (V.ptr 1 0 0)), (3, (V.sl 1 3 (List.map enc_T_screen_part x10))), (5, (V.ptr 5 0 0)), (41, (sMark (a0.fMarks))), (42, (I (a0.fMarks.length : Int))), (43, (I x11)), (68, (V.bool true))], [(1, ⟨false, 4, [(enc_T_api_Form a0)]⟩), (5, ⟨false, 3, [(enc_T_api_Mark o13)]⟩)], 122⟩ = some ⟨[(2, (V.bool false))], [], 122⟩ :=
  rE rfl
theorem f24r9 (k : Nat) (a0 : T_api_Form) (x10 : (List T_screen_part)) (x11 : Int) (o13 : T_api_Mark) : RE k f24a9 f24o9 false ⟨[(1, (V.ptr 1 0 0)), (3, (V.sl 1 3 (List.map enc_T_screen_part x10))), (5, (V.ptr 5 0 0)), (41, (sMark (a0.fMarks))), (42, (I (a0.fMarks.length : Int))), (43, (I x11)), (68, (V.bool false))], [(1, ⟨false, 4, [(enc_T_api_Form a0)]⟩), (5, ⟨false, 3, [(enc_T_api_Mark o13)]⟩)], 122⟩ = ((app x10 ([({ frow := o13.fRow, fcolumn := o13.fColumn, fn := (o13.fText.length : Int) } : T_screen_part)] : List T_screen_part))).map (fun (o : (List T_screen_part)) => (⟨[(1, (V.ptr 1 0 0)), (3, (V.sl 1 3 (List.map enc_T_screen_part o))), (41, (sMark (a0.fMarks))), (42, (I (a0.fMarks.length : Int))), (43, (I x11))], [(1, ⟨false, 4, [(enc_T_api_Form a0)]⟩)], 122⟩ : St)) := by
  refine rg ?_
  refine ra 10 10 ⟨[(1, (V.ptr 1 0 0)), (3, (spart (x10))), (5, (V.ptr 5 0 0)), (41, (sMark (a0.fMarks))), (42, (I (a0.fMarks.length : Int))), (43, (I x11)), (68, (V.bool false)), (69, (V.sl 1 3 (List.map enc_T_screen_part x10))), (70, (V.ptr 5 0 0)), (71, (I o13.fRow)), (72, (V.ptr 5 0 1)), (73, (I o13.fColumn)), (74, (V.ptr 5 0 2)), (75, (V.str o13.fText)), (76, (I (o13.fText.length : Int))), (77, (enc_T_screen_part ({ frow := o13.fRow, fcolumn := o13.fColumn, fn := (o13.fText.length : Int) } : T_screen_part))), (78, (spart (([({ frow := o13.fRow, fcolumn := o13.fColumn, fn := (o13.fText.length : Int) } : T_screen_part)] : List T_screen_part))))], [(1, ⟨false, 4, [(enc_T_api_Form a0)]⟩), (5, ⟨false, 3, [(enc_T_api_Mark o13)]⟩)], 122⟩ rfl rfl rfl ?_
  refine Eq.trans (reg_eff (x := (app x10 ([({ frow := o13.fRow, fcolumn := o13.fColumn, fn := (o13.fText.length : Int) } : T_screen_part)] : List T_screen_part))) (w := fun v17 => ((V.sl 1 3 (List.map enc_T_screen_part v17)), _)) rfl rfl rfl rfl (p_app (e := enc_T_screen_part) rfl rfl rfl rfl rfl rfl rfl rfl rfl rfl (by decide))) ?_
  refine bind_self (fun v17 => ?_)
  exact bind_end rfl
theorem f24r10 (k : Nat) (a0 : T_api_Form) (x11 : Int) (o18 : (List T_screen_part)) : RE k f24a10 f24o10 false ⟨[(1, (V.ptr 1 0 0)), (3, (V.sl 1 3 (List.map enc_T_screen_part o18))), (41, (sMark (a0.fMarks))), (42, (I (a0.fMarks.length : Int))), (43, (I x11))], [(1, ⟨false, 4, [(enc_T_api_Form a0)]⟩)], 122⟩ = some ⟨[(1, (V.ptr 1 0 0)), (3, (V.sl 1 3 (List.map enc_T_screen_part o18))), (41, (sMark (a0.fMarks))), (42, (I (a0.fMarks.length : Int))), (43, (I (Go.IntKind.wrap .i64 (x11 + 1))))], [(1, ⟨false, 4, [(enc_T_api_Form a0)]⟩)], 122⟩ :=
  rE rfl
end
end Go.AE
