/- The program, function by function: the evaluator comes to the typed functions. Conditions: none. -/
import Derived.Test.YtkkoiekbnkpcoaaA3
import Derived.KernelRfl
import Derived.Test.YtkkoiekbnkpcoaaProg
import Derived.Test.YtkkoiekbnkpcoaaB1
namespace Go.AE
open Go.Proofs.Try Go.Sh
set_option linter.unusedSimpArgs false
set_option linter.unusedVariables false
set_option maxRecDepth 100000
set_option maxHeartbeats 4000000
noncomputable section
def enc_T_api_Mark (a : T_api_Mark) : V := .agg [(V.int .i64 a.fRow), (V.int .i64 a.fColumn), (V.str a.fText)]
def enc_T_api_Slot (a : T_api_Slot) : V := .agg [(V.str a.fName), (V.int .i64 a.fRow), (V.int .i64 a.fColumn), (V.int .i64 a.fBytes), (V.int .i64 a.fIn), (V.int .i64 a.fOut), (V.int .u8 a.fFill)]
def enc_T_api_Form (a : T_api_Form) : V := .agg [(V.int .i64 a.fRows), (V.int .i64 a.fColumns), (V.sl 0 3 (List.map enc_T_api_Mark a.fMarks)), (V.sl 0 7 (List.map enc_T_api_Slot a.fFields))]
def enc_T_screen_part (a : T_screen_part) : V := .agg [(V.int .i64 a.frow), (V.int .i64 a.fcolumn), (V.int .i64 a.fn)]
def enc_T_progenyref24_span (a : T_progenyref24_span) : V := .agg [(V.int .i64 a.frow), (V.int .i64 a.fcolumn), (V.int .i64 a.fbytes)]
noncomputable def f8o0 : Array Oper := cO (cL (cB Go.Proofs.Try.f8))
def f8a0 : RAnn := ⟨[0, 2], []⟩
noncomputable def f8o1 : Array Oper := cO (cL (cL (cR (cB Go.Proofs.Try.f8))))
def f8a1 : RAnn := ⟨[5, 6, 7, 8, 9, 10, 11, 12, 13], []⟩
noncomputable def f8o2 : Array Oper := cO (cL (cL (cR (cL (cR (cB Go.Proofs.Try.f8))))))
def f8a2 : RAnn := ⟨[1, 14], []⟩
noncomputable def f8o3 : Array Oper := cO (cL (cL (cR (cR (cB Go.Proofs.Try.f8)))))
def f8a3 : RAnn := ⟨[14], []⟩
noncomputable def f8o4 : Array Oper := cO (cL (cL (cL (cL (cR (cL (cR (cR (cB Go.Proofs.Try.f8)))))))))
def f8a4 : RAnn := ⟨[15, 16, 17, 18], []⟩
noncomputable def f8o5 : Array Oper := cO (cR (cR (cL (cL (cR (cL (cR (cR (cB Go.Proofs.Try.f8)))))))))
def f8a5 : RAnn := ⟨[20, 21, 29], []⟩
noncomputable def f8o6 : Array Oper := cO (cL (cL (cL (cR (cL (cL (cR (cL (cR (cR (cB Go.Proofs.Try.f8)))))))))))
def f8a6 : RAnn := ⟨[19, 22, 23, 24, 25, 26, 27, 28], []⟩
noncomputable def f8o7 : Array Oper := cO (cL (cL (cR (cL (cL (cR (cL (cL (cR (cL (cR (cR (cB Go.Proofs.Try.f8)))))))))))))
def f8a7 : RAnn := ⟨[1, 3, 29], []⟩
noncomputable def f8o8 : Array Oper := cO (cL (cL (cR (cR (cR (cB Go.Proofs.Try.f8))))))
def f8a8 : RAnn := ⟨[3, 19], []⟩
noncomputable def f8o9 : Array Oper := cO (cL (cL (cL (cL (cR (cL (cR (cR (cR (cB Go.Proofs.Try.f8))))))))))
def f8a9 : RAnn := ⟨[30, 31, 32, 33], []⟩
noncomputable def f8o10 : Array Oper := cO (cR (cR (cL (cL (cR (cL (cR (cR (cR (cB Go.Proofs.Try.f8))))))))))
def f8a10 : RAnn := ⟨[35, 36, 44], []⟩
noncomputable def f8o11 : Array Oper := cO (cL (cL (cL (cR (cL (cL (cR (cL (cR (cR (cR (cB Go.Proofs.Try.f8))))))))))))
def f8a11 : RAnn := ⟨[34, 37, 38, 39, 40, 41, 42, 43], []⟩
noncomputable def f8o12 : Array Oper := cO (cL (cL (cR (cL (cL (cR (cL (cL (cR (cL (cR (cR (cR (cB Go.Proofs.Try.f8))))))))))))))
def f8a12 : RAnn := ⟨[1, 4, 44], []⟩
noncomputable def f8o13 : Array Oper := cO (cL (cR (cR (cR (cR (cB Go.Proofs.Try.f8))))))
def f8a13 : RAnn := ⟨[1, 4, 34], []⟩
def f8b0 : Code := (.seq (.seq (.region 4 f8o4 false) (.cond (.tmp 19) .skip (.exit 0))) (.seq (.block 1 (.seq (.region 6 f8o6 false) (.cond (.tmp 29) (.seq (.region 7 f8o7 false) .ret) .skip))) (.region 5 f8o5 false)))
def f8b1 : Code := (.seq (.seq (.region 9 f8o9 false) (.cond (.tmp 34) .skip (.exit 2))) (.seq (.block 3 (.seq (.region 11 f8o11 false) (.cond (.tmp 44) (.seq (.region 12 f8o12 false) .ret) .skip))) (.region 10 f8o10 false)))
def f8c : Code := (.seq (.region 0 f8o0 false) (.seq (.seq (.region 1 f8o1 false) (.cond (.tmp 14) (.seq (.region 2 f8o2 false) .ret) .skip)) (.seq (.seq (.region 3 f8o3 false) (.block 0 (.loop f8b0))) (.seq (.seq (.region 8 f8o8 false) (.block 2 (.loop f8b1))) (.seq (.region 13 f8o13 false) .ret)))))
def f8n : List (Nat × RAnn) := [(0, f8a0), (1, f8a1), (2, f8a2), (3, f8a3), (4, f8a4), (5, f8a5), (6, f8a6), (7, f8a7), (8, f8a8), (9, f8a9), (10, f8a10), (11, f8a11), (12, f8a12), (13, f8a13)]
noncomputable def f9o0 : Array Oper := cO (cL (cB Go.Proofs.Try.f9))
def f9a0 : RAnn := ⟨[2], []⟩
noncomputable def f9o1 : Array Oper := cO (cL (cL (cR (cB Go.Proofs.Try.f9))))
def f9a1 : RAnn := ⟨[], []⟩
noncomputable def f9o2 : Array Oper := cO (cL (cL (cL (cL (cR (cL (cR (cB Go.Proofs.Try.f9))))))))
def f9a2 : RAnn := ⟨[4, 5, 6], []⟩
noncomputable def f9o3 : Array Oper := cO (cR (cR (cL (cL (cR (cL (cR (cB Go.Proofs.Try.f9))))))))
def f9a3 : RAnn := ⟨[8, 9, 15], []⟩
noncomputable def f9o4 : Array Oper := cO (cL (cL (cL (cR (cL (cL (cR (cL (cR (cB Go.Proofs.Try.f9))))))))))
def f9a4 : RAnn := ⟨[7, 10, 11, 12, 13, 14], []⟩
noncomputable def f9o5 : Array Oper := cO (cL (cL (cR (cL (cL (cR (cL (cL (cR (cL (cR (cB Go.Proofs.Try.f9))))))))))))
def f9a5 : RAnn := ⟨[0, 3, 15], []⟩
noncomputable def f9o6 : Array Oper := cO (cL (cR (cR (cB Go.Proofs.Try.f9))))
def f9a6 : RAnn := ⟨[0, 3, 7, 16, 17, 18], []⟩
def f9b0 : Code := (.seq (.seq (.region 2 f9o2 false) (.cond (.tmp 7) .skip (.exit 0))) (.seq (.block 1 (.seq (.region 4 f9o4 false) (.cond (.tmp 15) (.seq (.region 5 f9o5 false) .ret) .skip))) (.region 3 f9o3 false)))
def f9c : Code := (.seq (.region 0 f9o0 false) (.seq (.seq (.region 1 f9o1 false) (.block 0 (.loop f9b0))) (.seq (.region 6 f9o6 false) .ret)))
def f9n : List (Nat × RAnn) := [(0, f9a0), (1, f9a1), (2, f9a2), (3, f9a3), (4, f9a4), (5, f9a5), (6, f9a6)]
noncomputable def f72o0 : Array Oper := cO (cL (cB Go.Proofs.Try.f72))
def f72a0 : RAnn := ⟨[2], []⟩
noncomputable def f72o1 : Array Oper := cO (cL (cL (cR (cB Go.Proofs.Try.f72))))
def f72a1 : RAnn := ⟨[5], []⟩
noncomputable def f72o2 : Array Oper := cO (cL (cL (cL (cR (cL (cR (cB Go.Proofs.Try.f72)))))))
def f72a2 : RAnn := ⟨[], []⟩
noncomputable def f72o3 : Array Oper := cO (cL (cL (cL (cR (cR (cL (cL (cR (cL (cR (cB Go.Proofs.Try.f72)))))))))))
def f72a3 : RAnn := ⟨[8, 9], []⟩
noncomputable def f72o4 : Array Oper := cO (cL (cR (cL (cL (cR (cR (cL (cL (cR (cL (cR (cB Go.Proofs.Try.f72))))))))))))
def f72a4 : RAnn := ⟨[10, 11, 12, 13, 14, 15, 16, 17, 18, 19], []⟩
noncomputable def f72o5 : Array Oper := cO (cL (cR (cR (cL (cL (cR (cR (cL (cL (cR (cL (cR (cB Go.Proofs.Try.f72)))))))))))))
def f72a5 : RAnn := ⟨[3, 4, 20, 21, 22, 23, 24, 25, 26, 27, 28, 29, 30, 31, 32, 33, 34, 35, 36], []⟩
noncomputable def f72o6 : Array Oper := cO (cL (cL (cR (cR (cR (cL (cL (cR (cR (cL (cL (cR (cL (cR (cB Go.Proofs.Try.f72)))))))))))))))
def f72a6 : RAnn := ⟨[0, 6, 7, 37], []⟩
noncomputable def f72o7 : Array Oper := cO (cR (cR (cR (cL (cL (cR (cL (cR (cB Go.Proofs.Try.f72)))))))))
def f72a7 : RAnn := ⟨[37, 38], []⟩
noncomputable def f72o8 : Array Oper := cO (cL (cR (cR (cB Go.Proofs.Try.f72))))
def f72a8 : RAnn := ⟨[0, 6, 7, 8, 39, 40, 41, 42, 43, 44, 45, 46], []⟩
def f72b0 : Code := (.seq (.region 2 f72o2 false) (.seq (.cond (.tmp 8) .skip (.exit 0)) (.seq (.block 1 (.seq (.region 3 f72o3 false) (.seq (.region 4 f72o4 false) (.seq (.region 5 f72o5 false) (.cond (.tmp 37) (.seq (.region 6 f72o6 false) .ret) .skip))))) (.region 7 f72o7 false))))
def f72c : Code := (.seq (.region 0 f72o0 false) (.seq (.seq (.region 1 f72o1 false) (.block 0 (.loop f72b0))) (.seq (.region 8 f72o8 false) .ret)))
def f72n : List (Nat × RAnn) := [(0, f72a0), (1, f72a1), (2, f72a2), (3, f72a3), (4, f72a4), (5, f72a5), (6, f72a6), (7, f72a7), (8, f72a8)]
noncomputable def f73o0 : Array Oper := cO (cL (cB Go.Proofs.Try.f73))
def f73a0 : RAnn := ⟨[2], []⟩
noncomputable def f73o1 : Array Oper := cO (cL (cR (cB Go.Proofs.Try.f73)))
def f73a1 : RAnn := ⟨[0, 3, 4, 5, 6, 7, 8], []⟩
def f73c : Code := (.seq (.region 0 f73o0 false) (.seq (.region 1 f73o1 false) .ret))
def f73n : List (Nat × RAnn) := [(0, f73a0), (1, f73a1)]
noncomputable def f71o0 : Array Oper := cO (cL (cB Go.Proofs.Try.f71))
def f71a0 : RAnn := ⟨[2], []⟩
noncomputable def f71o1 : Array Oper := cO (cL (cR (cB Go.Proofs.Try.f71)))
def f71a1 : RAnn := ⟨[0, 3, 4, 5, 6, 7, 8], []⟩
def f71c : Code := (.seq (.region 0 f71o0 false) (.seq (.region 1 f71o1 false) .ret))
def f71n : List (Nat × RAnn) := [(0, f71a0), (1, f71a1)]
noncomputable def f61o0 : Array Oper := cO (cL (cB Go.Proofs.Try.f61))
def f61a0 : RAnn := ⟨[4], []⟩
noncomputable def f61o1 : Array Oper := cO (cL (cL (cR (cB Go.Proofs.Try.f61))))
def f61a1 : RAnn := ⟨[6], []⟩
noncomputable def f61o2 : Array Oper := cO (cL (cL (cL (cR (cL (cR (cB Go.Proofs.Try.f61)))))))
def f61a2 : RAnn := ⟨[], []⟩
noncomputable def f61o3 : Array Oper := cO (cL (cL (cL (cR (cR (cL (cL (cR (cL (cR (cB Go.Proofs.Try.f61)))))))))))
def f61a3 : RAnn := ⟨[9, 10], []⟩
noncomputable def f61o4 : Array Oper := cO (cL (cR (cL (cL (cR (cR (cL (cL (cR (cL (cR (cB Go.Proofs.Try.f61))))))))))))
def f61a4 : RAnn := ⟨[11, 12, 13, 14, 15], []⟩
noncomputable def f61o5 : Array Oper := cO (cL (cL (cR (cR (cL (cL (cR (cR (cL (cL (cR (cL (cR (cB Go.Proofs.Try.f61))))))))))))))
def f61a5 : RAnn := ⟨[0, 1, 5, 7, 8, 16, 17], []⟩
noncomputable def f61o6 : Array Oper := cO (cR (cR (cR (cL (cL (cR (cL (cR (cB Go.Proofs.Try.f61)))))))))
def f61a6 : RAnn := ⟨[5, 16, 18], []⟩
noncomputable def f61o7 : Array Oper := cO (cL (cR (cR (cB Go.Proofs.Try.f61))))
def f61a7 : RAnn := ⟨[0, 1, 7, 8, 9], []⟩
def f61b0 : Code := (.seq (.region 2 f61o2 false) (.seq (.cond (.tmp 9) .skip (.exit 0)) (.seq (.block 1 (.seq (.region 3 f61o3 false) (.seq (.region 4 f61o4 false) (.cond (.tmp 16) (.seq (.region 5 f61o5 false) .ret) .skip)))) (.region 6 f61o6 false))))
def f61c : Code := (.seq (.region 0 f61o0 false) (.seq (.seq (.region 1 f61o1 false) (.block 0 (.loop f61b0))) (.seq (.region 7 f61o7 false) .ret)))
def f61n : List (Nat × RAnn) := [(0, f61a0), (1, f61a1), (2, f61a2), (3, f61a3), (4, f61a4), (5, f61a5), (6, f61a6), (7, f61a7)]
noncomputable def f74o0 : Array Oper := cO (cL (cB Go.Proofs.Try.f74))
def f74a0 : RAnn := ⟨[4], []⟩
noncomputable def f74o1 : Array Oper := cO (cL (cR (cB Go.Proofs.Try.f74)))
def f74a1 : RAnn := ⟨[0, 1, 5, 6, 7, 8], []⟩
def f74c : Code := (.seq (.region 0 f74o0 false) (.seq (.region 1 f74o1 false) .ret))
def f74n : List (Nat × RAnn) := [(0, f74a0), (1, f74a1)]
noncomputable def f75o0 : Array Oper := cO (cL (cB Go.Proofs.Try.f75))
def f75a0 : RAnn := ⟨[0, 3], []⟩
noncomputable def f75o1 : Array Oper := cO (cL (cR (cB Go.Proofs.Try.f75)))
def f75a1 : RAnn := ⟨[1, 2, 4, 5, 6, 7, 8, 9, 10, 11, 12, 13, 14, 15, 16, 17, 18, 19, 20, 21, 22, 23, 24, 25, 26, 27, 28, 29, 30, 31, 32], []⟩
def f75c : Code := (.seq (.region 0 f75o0 false) (.seq (.region 1 f75o1 false) .ret))
def f75n : List (Nat × RAnn) := [(0, f75a0), (1, f75a1)]
noncomputable def f53o0 : Array Oper := cO (cL (cB Go.Proofs.Try.f53))
def f53a0 : RAnn := ⟨[2], []⟩
noncomputable def f53o1 : Array Oper := cO (cL (cL (cR (cB Go.Proofs.Try.f53))))
def f53a1 : RAnn := ⟨[], []⟩
noncomputable def f53o2 : Array Oper := cO (cL (cL (cL (cR (cL (cR (cB Go.Proofs.Try.f53)))))))
def f53a2 : RAnn := ⟨[], []⟩
noncomputable def f53o3 : Array Oper := cO (cL (cL (cL (cR (cR (cL (cL (cR (cL (cR (cB Go.Proofs.Try.f53)))))))))))
def f53a3 : RAnn := ⟨[8, 9, 10, 11], []⟩
noncomputable def f53o4 : Array Oper := cO (cL (cL (cR (cL (cL (cR (cR (cL (cL (cR (cL (cR (cB Go.Proofs.Try.f53)))))))))))))
def f53a4 : RAnn := ⟨[12, 13, 14, 15, 16, 17, 18, 19, 20, 21, 22, 23, 24, 25, 26, 27, 28, 29, 30, 31, 32], []⟩
noncomputable def f53o5 : Array Oper := cO (cL (cL (cR (cL (cR (cL (cL (cR (cR (cL (cL (cR (cL (cR (cB Go.Proofs.Try.f53)))))))))))))))
def f53a5 : RAnn := ⟨[0, 3, 4, 5, 6, 7, 33], []⟩
noncomputable def f53o6 : Array Oper := cO (cL (cR (cR (cL (cL (cR (cR (cL (cL (cR (cL (cR (cB Go.Proofs.Try.f53)))))))))))))
def f53a6 : RAnn := ⟨[3, 4, 33, 34, 35, 36, 37], []⟩
noncomputable def f53o7 : Array Oper := cO (cL (cL (cR (cR (cR (cL (cL (cR (cR (cL (cL (cR (cL (cR (cB Go.Proofs.Try.f53)))))))))))))))
def f53a7 : RAnn := ⟨[0, 5, 6, 7, 38], []⟩
noncomputable def f53o8 : Array Oper := cO (cR (cR (cR (cL (cL (cR (cL (cR (cB Go.Proofs.Try.f53)))))))))
def f53a8 : RAnn := ⟨[38, 39], []⟩
noncomputable def f53o9 : Array Oper := cO (cL (cR (cR (cB Go.Proofs.Try.f53))))
def f53a9 : RAnn := ⟨[0, 5, 6, 7, 8, 40, 41, 42], []⟩
def f53b0 : Code := (.seq (.region 2 f53o2 false) (.seq (.cond (.tmp 8) .skip (.exit 0)) (.seq (.block 1 (.seq (.region 3 f53o3 false) (.seq (.seq (.region 4 f53o4 false) (.cond (.tmp 33) (.seq (.region 5 f53o5 false) .ret) .skip)) (.seq (.region 6 f53o6 false) (.cond (.tmp 38) (.seq (.region 7 f53o7 false) .ret) .skip))))) (.region 8 f53o8 false))))
def f53c : Code := (.seq (.region 0 f53o0 false) (.seq (.seq (.region 1 f53o1 false) (.block 0 (.loop f53b0))) (.seq (.region 9 f53o9 false) .ret)))
def f53n : List (Nat × RAnn) := [(0, f53a0), (1, f53a1), (2, f53a2), (3, f53a3), (4, f53a4), (5, f53a5), (6, f53a6), (7, f53a7), (8, f53a8), (9, f53a9)]
noncomputable def f48o0 : Array Oper := cO (cL (cB Go.Proofs.Try.f48))
def f48a0 : RAnn := ⟨[2], []⟩
noncomputable def f48o1 : Array Oper := cO (cL (cL (cR (cB Go.Proofs.Try.f48))))
def f48a1 : RAnn := ⟨[4], []⟩
noncomputable def f48o2 : Array Oper := cO (cL (cL (cL (cR (cL (cR (cB Go.Proofs.Try.f48)))))))
def f48a2 : RAnn := ⟨[], []⟩
noncomputable def f48o3 : Array Oper := cO (cL (cL (cL (cR (cR (cL (cL (cR (cL (cR (cB Go.Proofs.Try.f48)))))))))))
def f48a3 : RAnn := ⟨[7, 8], []⟩
noncomputable def f48o4 : Array Oper := cO (cL (cR (cL (cL (cR (cR (cL (cL (cR (cL (cR (cB Go.Proofs.Try.f48))))))))))))
def f48a4 : RAnn := ⟨[3, 9, 10, 11, 12], []⟩
noncomputable def f48o5 : Array Oper := cO (cL (cL (cR (cR (cL (cL (cR (cR (cL (cL (cR (cL (cR (cB Go.Proofs.Try.f48))))))))))))))
def f48a5 : RAnn := ⟨[0, 5, 6, 13], []⟩
noncomputable def f48o6 : Array Oper := cO (cR (cR (cR (cL (cL (cR (cL (cR (cB Go.Proofs.Try.f48)))))))))
def f48a6 : RAnn := ⟨[13, 14], []⟩
noncomputable def f48o7 : Array Oper := cO (cL (cR (cR (cB Go.Proofs.Try.f48))))
def f48a7 : RAnn := ⟨[0, 5, 6, 7], []⟩
def f48b0 : Code := (.seq (.region 2 f48o2 false) (.seq (.cond (.tmp 7) .skip (.exit 0)) (.seq (.block 1 (.seq (.region 3 f48o3 false) (.seq (.region 4 f48o4 false) (.cond (.tmp 13) (.seq (.region 5 f48o5 false) .ret) .skip)))) (.region 6 f48o6 false))))
def f48c : Code := (.seq (.region 0 f48o0 false) (.seq (.seq (.region 1 f48o1 false) (.block 0 (.loop f48b0))) (.seq (.region 7 f48o7 false) .ret)))
def f48n : List (Nat × RAnn) := [(0, f48a0), (1, f48a1), (2, f48a2), (3, f48a3), (4, f48a4), (5, f48a5), (6, f48a6), (7, f48a7)]
noncomputable def f54o0 : Array Oper := cO (cL (cB Go.Proofs.Try.f54))
def f54a0 : RAnn := ⟨[0, 8], []⟩
noncomputable def f54o1 : Array Oper := cO (cL (cR (cB Go.Proofs.Try.f54)))
def f54a1 : RAnn := ⟨[1, 2, 3, 4, 9, 10, 11, 12, 13, 14, 15, 16, 17, 18, 19, 20, 21, 22, 23, 24, 25, 26, 27, 28, 29, 30, 31, 32, 33, 34, 35, 36, 37, 38], []⟩
def f54c : Code := (.seq (.region 0 f54o0 false) (.seq (.region 1 f54o1 false) .ret))
def f54n : List (Nat × RAnn) := [(0, f54a0), (1, f54a1)]
noncomputable def f76o0 : Array Oper := cO (cL (cB Go.Proofs.Try.f76))
def f76a0 : RAnn := ⟨[4], []⟩
noncomputable def f76o1 : Array Oper := cO (cL (cL (cR (cB Go.Proofs.Try.f76))))
def f76a1 : RAnn := ⟨[6], []⟩
noncomputable def f76o2 : Array Oper := cO (cL (cL (cL (cR (cL (cR (cB Go.Proofs.Try.f76)))))))
def f76a2 : RAnn := ⟨[], []⟩
noncomputable def f76o3 : Array Oper := cO (cL (cL (cL (cR (cR (cL (cL (cR (cL (cR (cB Go.Proofs.Try.f76)))))))))))
def f76a3 : RAnn := ⟨[9, 10], []⟩
noncomputable def f76o4 : Array Oper := cO (cL (cR (cL (cL (cR (cR (cL (cL (cR (cL (cR (cB Go.Proofs.Try.f76))))))))))))
def f76a4 : RAnn := ⟨[11, 12, 13, 14, 15], []⟩
noncomputable def f76o5 : Array Oper := cO (cL (cL (cR (cR (cL (cL (cR (cR (cL (cL (cR (cL (cR (cB Go.Proofs.Try.f76))))))))))))))
def f76a5 : RAnn := ⟨[0, 1, 5, 7, 8, 16, 17], []⟩
noncomputable def f76o6 : Array Oper := cO (cR (cR (cR (cL (cL (cR (cL (cR (cB Go.Proofs.Try.f76)))))))))
def f76a6 : RAnn := ⟨[5, 16, 18], []⟩
noncomputable def f76o7 : Array Oper := cO (cL (cR (cR (cB Go.Proofs.Try.f76))))
def f76a7 : RAnn := ⟨[0, 1, 7, 8, 9], []⟩
def f76b0 : Code := (.seq (.region 2 f76o2 false) (.seq (.cond (.tmp 9) .skip (.exit 0)) (.seq (.block 1 (.seq (.region 3 f76o3 false) (.seq (.region 4 f76o4 false) (.cond (.tmp 16) (.seq (.region 5 f76o5 false) .ret) .skip)))) (.region 6 f76o6 false))))
def f76c : Code := (.seq (.region 0 f76o0 false) (.seq (.seq (.region 1 f76o1 false) (.block 0 (.loop f76b0))) (.seq (.region 7 f76o7 false) .ret)))
def f76n : List (Nat × RAnn) := [(0, f76a0), (1, f76a1), (2, f76a2), (3, f76a3), (4, f76a4), (5, f76a5), (6, f76a6), (7, f76a7)]
noncomputable def f55o0 : Array Oper := cO (cL (cB Go.Proofs.Try.f55))
def f55a0 : RAnn := ⟨[4], []⟩
noncomputable def f55o1 : Array Oper := cO (cL (cR (cB Go.Proofs.Try.f55)))
def f55a1 : RAnn := ⟨[0, 1, 5, 6, 7, 8], []⟩
def f55c : Code := (.seq (.region 0 f55o0 false) (.seq (.region 1 f55o1 false) .ret))
def f55n : List (Nat × RAnn) := [(0, f55a0), (1, f55a1)]
noncomputable def f56o0 : Array Oper := cO (cL (cB Go.Proofs.Try.f56))
def f56a0 : RAnn := ⟨[0, 1, 4], []⟩
noncomputable def f56o1 : Array Oper := cO (cL (cR (cB Go.Proofs.Try.f56)))
def f56a1 : RAnn := ⟨[2, 3, 5, 6, 7, 8, 9, 10, 11, 12, 13, 14, 15, 16, 17, 18, 19, 20, 21, 22, 23, 24, 25, 26, 27, 28, 29], []⟩
def f56c : Code := (.seq (.region 0 f56o0 false) (.seq (.region 1 f56o1 false) .ret))
def f56n : List (Nat × RAnn) := [(0, f56a0), (1, f56a1)]
noncomputable def f24o0 : Array Oper := cO (cL (cB Go.Proofs.Try.f24))
def f24a0 : RAnn := ⟨[0, 2], []⟩
noncomputable def f24o1 : Array Oper := cO (cL (cL (cR (cB Go.Proofs.Try.f24))))
def f24a1 : RAnn := ⟨[10, 11, 12, 13, 14, 15, 16, 17, 18, 19, 20, 21, 22, 23, 24, 25, 26, 27, 28, 29, 30, 31, 32, 33, 34, 35, 36, 37, 38], []⟩
noncomputable def f24o2 : Array Oper := cO (cL (cL (cR (cL (cR (cB Go.Proofs.Try.f24))))))
def f24a2 : RAnn := ⟨[1, 39], []⟩
noncomputable def f24o3 : Array Oper := cO (cL (cR (cR (cB Go.Proofs.Try.f24))))
def f24a3 : RAnn := ⟨[39], [(0, { keep := [0] })]⟩
noncomputable def f24o4 : Array Oper := cO (cL (cL (cR (cR (cR (cB Go.Proofs.Try.f24))))))
def f24a4 : RAnn := ⟨[40], []⟩
noncomputable def f24o5 : Array Oper := cO (cL (cL (cL (cR (cL (cR (cR (cR (cB Go.Proofs.Try.f24)))))))))
def f24a5 : RAnn := ⟨[], []⟩
noncomputable def f24o6 : Array Oper := cO (cL (cL (cL (cR (cR (cL (cL (cR (cL (cR (cR (cR (cB Go.Proofs.Try.f24)))))))))))))
def f24a6 : RAnn := ⟨[44, 45, 46], []⟩
noncomputable def f24o7 : Array Oper := cO (cL (cL (cR (cL (cL (cR (cR (cL (cL (cR (cL (cR (cR (cR (cB Go.Proofs.Try.f24)))))))))))))))
def f24a7 : RAnn := ⟨[47, 48, 49, 50, 51, 52, 53, 54, 55, 56, 57, 58, 59, 60, 61, 62, 63, 64, 65, 66, 67], []⟩
noncomputable def f24o8 : Array Oper := cO (cL (cL (cR (cL (cR (cL (cL (cR (cR (cL (cL (cR (cL (cR (cR (cR (cB Go.Proofs.Try.f24)))))))))))))))))
def f24a8 : RAnn := ⟨[1, 3, 5, 41, 42, 43, 68], []⟩
noncomputable def f24o9 : Array Oper := cO (cR (cR (cL (cL (cR (cR (cL (cL (cR (cL (cR (cR (cR (cB Go.Proofs.Try.f24))))))))))))))
def f24a9 : RAnn := ⟨[5, 68, 69, 70, 71, 72, 73, 74, 75, 76, 77, 78, 79], [(0, { tk := [3], keep := [0] }), (10, { tk := [69], keep := [0] }), (11, { tk := [79], keep := [0] })]⟩
noncomputable def f24o10 : Array Oper := cO (cR (cR (cR (cL (cL (cR (cL (cR (cR (cR (cB Go.Proofs.Try.f24)))))))))))
def f24a10 : RAnn := ⟨[80], []⟩
noncomputable def f24o11 : Array Oper := cO (cL (cL (cR (cR (cR (cR (cB Go.Proofs.Try.f24)))))))
def f24a11 : RAnn := ⟨[41, 42, 43, 44, 81], []⟩
noncomputable def f24o12 : Array Oper := cO (cL (cL (cL (cR (cL (cR (cR (cR (cR (cB Go.Proofs.Try.f24))))))))))
def f24a12 : RAnn := ⟨[], []⟩
noncomputable def f24o13 : Array Oper := cO (cL (cL (cL (cR (cR (cL (cL (cR (cL (cR (cR (cR (cR (cB Go.Proofs.Try.f24))))))))))))))
def f24a13 : RAnn := ⟨[85, 86, 87], []⟩
noncomputable def f24o14 : Array Oper := cO (cL (cL (cR (cL (cL (cR (cR (cL (cL (cR (cL (cR (cR (cR (cR (cB Go.Proofs.Try.f24))))))))))))))))
def f24a14 : RAnn := ⟨[88, 89, 90, 91, 92, 93, 94, 95], []⟩
noncomputable def f24o15 : Array Oper := cO (cL (cL (cR (cL (cR (cL (cL (cR (cR (cL (cL (cR (cL (cR (cR (cR (cR (cB Go.Proofs.Try.f24))))))))))))))))))
def f24a15 : RAnn := ⟨[1, 3, 7, 82, 83, 84, 96], []⟩
noncomputable def f24o16 : Array Oper := cO (cR (cR (cL (cL (cR (cR (cL (cL (cR (cL (cR (cR (cR (cR (cB Go.Proofs.Try.f24)))))))))))))))
def f24a16 : RAnn := ⟨[7, 96, 97, 98, 99, 100, 101, 102, 103, 104, 105, 106], [(0, { tk := [3], keep := [0] }), (9, { tk := [97], keep := [0] }), (10, { tk := [106], keep := [0] })]⟩
noncomputable def f24o17 : Array Oper := cO (cR (cR (cR (cL (cL (cR (cL (cR (cR (cR (cR (cB Go.Proofs.Try.f24))))))))))))
def f24a17 : RAnn := ⟨[107], []⟩
noncomputable def f24o18 : Array Oper := cO (cL (cL (cR (cR (cR (cR (cR (cB Go.Proofs.Try.f24))))))))
def f24a18 : RAnn := ⟨[1, 82, 83, 84, 85], []⟩
noncomputable def f24o19 : Array Oper := cO (cL (cL (cL (cR (cL (cR (cR (cR (cR (cR (cB Go.Proofs.Try.f24)))))))))))
def f24a19 : RAnn := ⟨[], []⟩
noncomputable def f24o20 : Array Oper := cO (cL (cL (cL (cR (cR (cL (cL (cR (cL (cR (cR (cR (cR (cR (cB Go.Proofs.Try.f24)))))))))))))))
def f24a20 : RAnn := ⟨[111, 112, 113, 114], []⟩
noncomputable def f24o21 : Array Oper := cO (cL (cR (cL (cL (cR (cR (cL (cL (cR (cL (cR (cR (cR (cR (cR (cB Go.Proofs.Try.f24))))))))))))))))
def f24a21 : RAnn := ⟨[8, 9, 115, 116, 117, 118, 119], []⟩
noncomputable def f24o22 : Array Oper := cO (cL (cL (cR (cR (cL (cL (cR (cR (cL (cL (cR (cL (cR (cR (cR (cR (cR (cB Go.Proofs.Try.f24))))))))))))))))))
def f24a22 : RAnn := ⟨[3, 108, 109, 110, 120], []⟩
noncomputable def f24o23 : Array Oper := cO (cR (cR (cR (cL (cL (cR (cL (cR (cR (cR (cR (cR (cB Go.Proofs.Try.f24)))))))))))))
def f24a23 : RAnn := ⟨[120, 121], []⟩
noncomputable def f24o24 : Array Oper := cO (cL (cR (cR (cR (cR (cR (cR (cB Go.Proofs.Try.f24))))))))
def f24a24 : RAnn := ⟨[3, 108, 109, 110, 111], []⟩
def f24b0 : Code := (.seq (.region 5 f24o5 false) (.seq (.cond (.tmp 44) .skip (.exit 0)) (.seq (.block 1 (.seq (.region 6 f24o6 false) (.seq (.seq (.region 7 f24o7 false) (.cond (.tmp 68) (.seq (.region 8 f24o8 false) .ret) .skip)) (.region 9 f24o9 false)))) (.region 10 f24o10 false))))
def f24b1 : Code := (.seq (.region 12 f24o12 false) (.seq (.cond (.tmp 85) .skip (.exit 2)) (.seq (.block 3 (.seq (.region 13 f24o13 false) (.seq (.seq (.region 14 f24o14 false) (.cond (.tmp 96) (.seq (.region 15 f24o15 false) .ret) .skip)) (.region 16 f24o16 false)))) (.region 17 f24o17 false))))
def f24b2 : Code := (.seq (.region 19 f24o19 false) (.seq (.cond (.tmp 111) .skip (.exit 4)) (.seq (.block 5 (.seq (.region 20 f24o20 false) (.seq (.region 21 f24o21 true) (.cond (.tmp 120) (.seq (.region 22 f24o22 false) .ret) .skip)))) (.region 23 f24o23 false))))
def f24c : Code := (.seq (.region 0 f24o0 false) (.seq (.seq (.region 1 f24o1 false) (.cond (.tmp 39) (.seq (.region 2 f24o2 false) .ret) .skip)) (.seq (.region 3 f24o3 false) (.seq (.seq (.region 4 f24o4 false) (.block 0 (.loop f24b0))) (.seq (.seq (.region 11 f24o11 false) (.block 2 (.loop f24b1))) (.seq (.seq (.region 18 f24o18 false) (.block 4 (.loop f24b2))) (.seq (.region 24 f24o24 false) .ret)))))))
def f24n : List (Nat × RAnn) := [(0, f24a0), (1, f24a1), (2, f24a2), (3, f24a3), (4, f24a4), (5, f24a5), (6, f24a6), (7, f24a7), (8, f24a8), (9, f24a9), (10, f24a10), (11, f24a11), (12, f24a12), (13, f24a13), (14, f24a14), (15, f24a15), (16, f24a16), (17, f24a17), (18, f24a18), (19, f24a19), (20, f24a20), (21, f24a21), (22, f24a22), (23, f24a23), (24, f24a24)]
noncomputable def f39o0 : Array Oper := cO (cL (cB Go.Proofs.Try.f39))
def f39a0 : RAnn := ⟨[0], []⟩
noncomputable def f39o1 : Array Oper := cO (cL (cL (cR (cB Go.Proofs.Try.f39))))
def f39a1 : RAnn := ⟨[1, 6], []⟩
noncomputable def f39o2 : Array Oper := cO (cL (cL (cL (cR (cL (cR (cB Go.Proofs.Try.f39)))))))
def f39a2 : RAnn := ⟨[], []⟩
noncomputable def f39o3 : Array Oper := cO (cL (cL (cL (cR (cR (cL (cL (cR (cL (cR (cB Go.Proofs.Try.f39)))))))))))
def f39a3 : RAnn := ⟨[10, 11, 12], []⟩
noncomputable def f39o4 : Array Oper := cO (cR (cL (cL (cR (cR (cL (cL (cR (cL (cR (cB Go.Proofs.Try.f39)))))))))))
def f39a4 : RAnn := ⟨[5, 13, 14, 15, 16, 17, 18, 19, 20, 21, 22], [(10, { eff := true }), (11, { eff := true })]⟩
noncomputable def f39o5 : Array Oper := cO (cR (cR (cR (cL (cL (cR (cL (cR (cB Go.Proofs.Try.f39)))))))))
def f39a5 : RAnn := ⟨[23], []⟩
noncomputable def f39o6 : Array Oper := cO (cL (cR (cR (cB Go.Proofs.Try.f39))))
def f39a6 : RAnn := ⟨[7, 8, 9, 10, 24, 25], []⟩
def f39b0 : Code := (.seq (.region 2 f39o2 false) (.seq (.cond (.tmp 10) .skip (.exit 0)) (.seq (.block 1 (.seq (.region 3 f39o3 false) (.region 4 f39o4 true))) (.region 5 f39o5 false))))
def f39c : Code := (.seq (.region 0 f39o0 false) (.seq (.seq (.region 1 f39o1 false) (.block 0 (.loop f39b0))) (.seq (.region 6 f39o6 false) .ret)))
def f39n : List (Nat × RAnn) := [(0, f39a0), (1, f39a1), (2, f39a2), (3, f39a3), (4, f39a4), (5, f39a5), (6, f39a6)]
noncomputable def f78v10o0 : Array Oper := cO (cL (cB Go.Proofs.Try.f78))
def f78v10a0 : RAnn := ⟨[4], []⟩
noncomputable def f78v10o1 : Array Oper := cO (cL (cL (cR (cB Go.Proofs.Try.f78))))
def f78v10a1 : RAnn := ⟨[6], []⟩
noncomputable def f78v10o2 : Array Oper := cO (cL (cL (cL (cR (cL (cR (cB Go.Proofs.Try.f78)))))))
def f78v10a2 : RAnn := ⟨[], []⟩
noncomputable def f78v10o3 : Array Oper := cO (cL (cL (cL (cR (cR (cL (cL (cR (cL (cR (cB Go.Proofs.Try.f78)))))))))))
def f78v10a3 : RAnn := ⟨[9, 10], []⟩
noncomputable def f78v10o4 : Array Oper := cO (cL (cR (cL (cL (cR (cR (cL (cL (cR (cL (cR (cB Go.Proofs.Try.f78))))))))))))
def f78v10a4 : RAnn := ⟨[11, 12, 13, 14, 15], []⟩
noncomputable def f78v10o5 : Array Oper := cO (cL (cL (cR (cR (cL (cL (cR (cR (cL (cL (cR (cL (cR (cB Go.Proofs.Try.f78))))))))))))))
def f78v10a5 : RAnn := ⟨[0, 1, 5, 7, 8, 16, 17], []⟩
noncomputable def f78v10o6 : Array Oper := cO (cR (cR (cR (cL (cL (cR (cL (cR (cB Go.Proofs.Try.f78)))))))))
def f78v10a6 : RAnn := ⟨[5, 16, 18], []⟩
noncomputable def f78v10o7 : Array Oper := cO (cL (cR (cR (cB Go.Proofs.Try.f78))))
def f78v10a7 : RAnn := ⟨[0, 1, 7, 8, 9], []⟩
def f78v10b0 : Code := (.seq (.region 2 f78v10o2 false) (.seq (.cond (.tmp 9) .skip (.exit 0)) (.seq (.block 1 (.seq (.region 3 f78v10o3 false) (.seq (.region 4 f78v10o4 false) (.cond (.tmp 16) (.seq (.region 5 f78v10o5 false) .ret) .skip)))) (.region 6 f78v10o6 false))))
def f78v10c : Code := (.seq (.region 0 f78v10o0 false) (.seq (.seq (.region 1 f78v10o1 false) (.block 0 (.loop f78v10b0))) (.seq (.region 7 f78v10o7 false) .ret)))
def f78v10n : List (Nat × RAnn) := [(0, f78v10a0), (1, f78v10a1), (2, f78v10a2), (3, f78v10a3), (4, f78v10a4), (5, f78v10a5), (6, f78v10a6), (7, f78v10a7)]
noncomputable def f65v10o0 : Array Oper := cO (cL (cB Go.Proofs.Try.f65))
def f65v10a0 : RAnn := ⟨[4], []⟩
noncomputable def f65v10o1 : Array Oper := cO (cL (cR (cB Go.Proofs.Try.f65)))
def f65v10a1 : RAnn := ⟨[0, 1, 5, 6, 7, 8], []⟩
def f65v10c : Code := (.seq (.region 0 f65v10o0 false) (.seq (.region 1 f65v10o1 false) .ret))
def f65v10n : List (Nat × RAnn) := [(0, f65v10a0), (1, f65v10a1)]
noncomputable def f66o0 : Array Oper := cO (cL (cB Go.Proofs.Try.f66))
def f66a0 : RAnn := ⟨[2], []⟩
noncomputable def f66o1 : Array Oper := cO (cL (cR (cB Go.Proofs.Try.f66)))
def f66a1 : RAnn := ⟨[0, 3, 4, 5, 6, 7, 8, 9, 10], []⟩
def f66c : Code := (.seq (.region 0 f66o0 false) (.seq (.region 1 f66o1 false) .ret))
def f66n : List (Nat × RAnn) := [(0, f66a0), (1, f66a1)]
noncomputable def f34o0 : Array Oper := cO (cL (cB Go.Proofs.Try.f34))
def f34a0 : RAnn := ⟨[0, 4], []⟩
noncomputable def f34o1 : Array Oper := cO (cL (cL (cR (cB Go.Proofs.Try.f34))))
def f34a1 : RAnn := ⟨[7, 8], []⟩
noncomputable def f34o2 : Array Oper := cO (cL (cL (cR (cL (cR (cB Go.Proofs.Try.f34))))))
def f34a2 : RAnn := ⟨[1, 2, 9], []⟩
noncomputable def f34o3 : Array Oper := cO (cL (cL (cR (cR (cB Go.Proofs.Try.f34)))))
def f34a3 : RAnn := ⟨[2, 5, 9, 10, 11, 12, 13, 14], []⟩
noncomputable def f34o4 : Array Oper := cO (cL (cR (cL (cR (cR (cB Go.Proofs.Try.f34))))))
def f34a4 : RAnn := ⟨[1, 6, 15, 16, 17, 18, 19, 20, 21], []⟩
noncomputable def f34o5 : Array Oper := cO (cL (cL (cR (cR (cL (cR (cR (cB Go.Proofs.Try.f34))))))))
def f34a5 : RAnn := ⟨[22], []⟩
noncomputable def f34o6 : Array Oper := cO (cL (cR (cR (cR (cB Go.Proofs.Try.f34)))))
def f34a6 : RAnn := ⟨[22], []⟩
def f34c : Code := (.seq (.region 0 f34o0 false) (.seq (.seq (.region 1 f34o1 false) (.cond (.tmp 9) (.seq (.region 2 f34o2 false) .ret) .skip)) (.seq (.seq (.region 3 f34o3 false) (.seq (.region 4 f34o4 false) (.cond (.tmp 22) (.seq (.region 5 f34o5 false) .ret) .skip))) (.seq (.region 6 f34o6 false) .ret))))
def f34n : List (Nat × RAnn) := [(0, f34a0), (1, f34a1), (2, f34a2), (3, f34a3), (4, f34a4), (5, f34a5), (6, f34a6)]
noncomputable def f64o0 : Array Oper := cO (cL (cB Go.Proofs.Try.f64))
def f64a0 : RAnn := ⟨[2], [(0, { site := true })]⟩
noncomputable def f64o1 : Array Oper := cO (cL (cL (cR (cB Go.Proofs.Try.f64))))
def f64a1 : RAnn := ⟨[3], []⟩
noncomputable def f64o2 : Array Oper := cO (cL (cL (cR (cL (cR (cB Go.Proofs.Try.f64))))))
def f64a2 : RAnn := ⟨[], [(0, { site := true })]⟩
noncomputable def f64o3 : Array Oper := cO (cL (cR (cR (cB Go.Proofs.Try.f64))))
def f64a3 : RAnn := ⟨[0, 4, 6, 7], [(0, { site := true })]⟩
def f64c : Code := (.seq (.region 0 f64o0 false) (.seq (.seq (.region 1 f64o1 false) (.cond (.tmp 4) (.seq (.region 2 f64o2 false) .ret) .skip)) (.seq (.region 3 f64o3 false) .ret)))
def f64n : List (Nat × RAnn) := [(0, f64a0), (1, f64a1), (2, f64a2), (3, f64a3)]
noncomputable def f43o0 : Array Oper := cO (cL (cB Go.Proofs.Try.f43))
def f43a0 : RAnn := ⟨[8], []⟩
noncomputable def f43o1 : Array Oper := cO (cL (cR (cB Go.Proofs.Try.f43)))
def f43a1 : RAnn := ⟨[0, 10], [(1, { site := true })]⟩
noncomputable def f43o2 : Array Oper := cO (cL (cR (cR (cB Go.Proofs.Try.f43))))
def f43a2 : RAnn := ⟨[1, 2, 3, 12, 13, 14, 15, 16, 17, 18, 19, 20, 21, 22, 23, 24, 25, 26, 27, 28, 29, 30, 31, 32], []⟩
noncomputable def f43o3 : Array Oper := cO (cL (cR (cR (cR (cB Go.Proofs.Try.f43)))))
def f43a3 : RAnn := ⟨[9, 11, 33], [(1, { close := true })]⟩
def f43c : Code := (.seq (.region 0 f43o0 false) (.seq (.region 1 f43o1 false) (.seq (.region 2 f43o2 true) (.seq (.region 3 f43o3 false) .ret))))
def f43n : List (Nat × RAnn) := [(0, f43a0), (1, f43a1), (2, f43a2), (3, f43a3)]
noncomputable def f49o0 : Array Oper := cO (cL (cB Go.Proofs.Try.f49))
def f49a0 : RAnn := ⟨[0, 4], []⟩
noncomputable def f49o1 : Array Oper := cO (cL (cL (cR (cB Go.Proofs.Try.f49))))
def f49a1 : RAnn := ⟨[5, 6, 7, 8], []⟩
noncomputable def f49o2 : Array Oper := cO (cL (cL (cR (cL (cR (cB Go.Proofs.Try.f49))))))
def f49a2 : RAnn := ⟨[1, 2, 9, 10, 11, 12, 13], []⟩
noncomputable def f49o3 : Array Oper := cO (cL (cR (cR (cB Go.Proofs.Try.f49))))
def f49a3 : RAnn := ⟨[1, 2, 9, 14, 15, 16, 17, 18, 19, 20, 21, 22, 23, 24, 25], []⟩
def f49c : Code := (.seq (.region 0 f49o0 false) (.seq (.seq (.region 1 f49o1 false) (.cond (.tmp 9) (.seq (.region 2 f49o2 false) .ret) .skip)) (.seq (.region 3 f49o3 false) .ret)))
def f49n : List (Nat × RAnn) := [(0, f49a0), (1, f49a1), (2, f49a2), (3, f49a3)]
noncomputable def f35o0 : Array Oper := cO (cL (cB Go.Proofs.Try.f35))
def f35a0 : RAnn := ⟨[0, 4], []⟩
noncomputable def f35o1 : Array Oper := cO (cL (cR (cB Go.Proofs.Try.f35)))
def f35a1 : RAnn := ⟨[11, 12, 13, 14, 15, 16, 17], []⟩
noncomputable def f35o2 : Array Oper := cO (cL (cL (cR (cR (cB Go.Proofs.Try.f35)))))
def f35a2 : RAnn := ⟨[18], []⟩
noncomputable def f35o3 : Array Oper := cO (cL (cL (cL (cR (cL (cR (cR (cB Go.Proofs.Try.f35))))))))
def f35a3 : RAnn := ⟨[], []⟩
noncomputable def f35o4 : Array Oper := cO (cL (cL (cL (cR (cR (cL (cL (cR (cL (cR (cR (cB Go.Proofs.Try.f35))))))))))))
def f35a4 : RAnn := ⟨[22, 23, 24], []⟩
noncomputable def f35o5 : Array Oper := cO (cR (cL (cL (cR (cR (cL (cL (cR (cL (cR (cR (cB Go.Proofs.Try.f35))))))))))))
def f35a5 : RAnn := ⟨[7, 25, 26, 27, 28, 29, 30, 31, 32], []⟩
noncomputable def f35o6 : Array Oper := cO (cR (cR (cR (cL (cL (cR (cL (cR (cR (cB Go.Proofs.Try.f35))))))))))
def f35a6 : RAnn := ⟨[33], []⟩
noncomputable def f35o7 : Array Oper := cO (cL (cL (cR (cR (cR (cB Go.Proofs.Try.f35))))))
def f35a7 : RAnn := ⟨[2, 19, 20, 21, 22, 34], []⟩
noncomputable def f35o8 : Array Oper := cO (cL (cL (cL (cR (cL (cR (cR (cR (cB Go.Proofs.Try.f35)))))))))
def f35a8 : RAnn := ⟨[], []⟩
noncomputable def f35o9 : Array Oper := cO (cL (cL (cL (cR (cR (cL (cL (cR (cL (cR (cR (cR (cB Go.Proofs.Try.f35)))))))))))))
def f35a9 : RAnn := ⟨[38, 39, 40], []⟩
noncomputable def f35o10 : Array Oper := cO (cL (cR (cL (cL (cR (cR (cL (cL (cR (cL (cR (cR (cR (cB Go.Proofs.Try.f35))))))))))))))
def f35a10 : RAnn := ⟨[], []⟩
noncomputable def f35o11 : Array Oper := cO (cL (cL (cR (cR (cL (cL (cR (cR (cL (cL (cR (cL (cR (cR (cR (cB Go.Proofs.Try.f35))))))))))))))))
def f35a11 : RAnn := ⟨[41, 42], []⟩
noncomputable def f35o12 : Array Oper := cO (cL (cR (cL (cR (cR (cL (cL (cR (cR (cL (cL (cR (cL (cR (cR (cR (cB Go.Proofs.Try.f35)))))))))))))))))
def f35a12 : RAnn := ⟨[43, 44, 45, 46, 47, 48], []⟩
noncomputable def f35o13 : Array Oper := cO (cR (cR (cR (cL (cL (cR (cR (cL (cL (cR (cL (cR (cR (cR (cB Go.Proofs.Try.f35)))))))))))))))
def f35a13 : RAnn := ⟨[9, 10, 43, 49, 50, 51, 52, 53, 54, 55, 56, 57], [(9, { eff := true })]⟩
noncomputable def f35o14 : Array Oper := cO (cR (cR (cR (cL (cL (cR (cL (cR (cR (cR (cB Go.Proofs.Try.f35)))))))))))
def f35a14 : RAnn := ⟨[58], []⟩
noncomputable def f35o15 : Array Oper := cO (cL (cR (cR (cR (cR (cB Go.Proofs.Try.f35))))))
def f35a15 : RAnn := ⟨[1, 5, 35, 36, 37, 38, 59], []⟩
def f35b0 : Code := (.seq (.region 3 f35o3 false) (.seq (.cond (.tmp 22) .skip (.exit 0)) (.seq (.block 1 (.seq (.region 4 f35o4 false) (.region 5 f35o5 false))) (.region 6 f35o6 false))))
def f35b1 : Code := (.seq (.region 8 f35o8 false) (.seq (.cond (.tmp 38) .skip (.exit 2)) (.seq (.block 3 (.seq (.region 9 f35o9 false) (.seq (.region 10 f35o10 false) (.seq (.seq (.region 11 f35o11 false) (.cond (.tmp 43) (.region 12 f35o12 false) .skip)) (.region 13 f35o13 true))))) (.region 14 f35o14 false))))
def f35c : Code := (.seq (.region 0 f35o0 false) (.seq (.region 1 f35o1 true) (.seq (.seq (.region 2 f35o2 false) (.block 0 (.loop f35b0))) (.seq (.seq (.region 7 f35o7 false) (.block 2 (.loop f35b1))) (.seq (.region 15 f35o15 false) .ret)))))
def f35n : List (Nat × RAnn) := [(0, f35a0), (1, f35a1), (2, f35a2), (3, f35a3), (4, f35a4), (5, f35a5), (6, f35a6), (7, f35a7), (8, f35a8), (9, f35a9), (10, f35a10), (11, f35a11), (12, f35a12), (13, f35a13), (14, f35a14), (15, f35a15)]
noncomputable def f11o0 : Array Oper := cO (cL (cB Go.Proofs.Try.f11))
def f11a0 : RAnn := ⟨[0, 4, 5], []⟩
noncomputable def f11o1 : Array Oper := cO (cL (cL (cR (cB Go.Proofs.Try.f11))))
def f11a1 : RAnn := ⟨[7, 8, 9], []⟩
noncomputable def f11o2 : Array Oper := cO (cL (cR (cL (cR (cB Go.Proofs.Try.f11)))))
def f11a2 : RAnn := ⟨[10], []⟩
noncomputable def f11o3 : Array Oper := cO (cL (cL (cR (cR (cL (cR (cB Go.Proofs.Try.f11)))))))
def f11a3 : RAnn := ⟨[1, 2, 6, 11, 12], []⟩
noncomputable def f11o4 : Array Oper := cO (cL (cR (cR (cB Go.Proofs.Try.f11))))
def f11a4 : RAnn := ⟨[1, 2, 6, 11, 13, 14, 15], []⟩
def f11c : Code := (.seq (.region 0 f11o0 false) (.seq (.seq (.region 1 f11o1 false) (.seq (.region 2 f11o2 false) (.cond (.tmp 11) (.seq (.region 3 f11o3 false) .ret) .skip))) (.seq (.region 4 f11o4 false) .ret)))
def f11n : List (Nat × RAnn) := [(0, f11a0), (1, f11a1), (2, f11a2), (3, f11a3), (4, f11a4)]
noncomputable def f78o0 : Array Oper := cO (cL (cB Go.Proofs.Try.f78))
def f78a0 : RAnn := ⟨[4], []⟩
noncomputable def f78o1 : Array Oper := cO (cL (cL (cR (cB Go.Proofs.Try.f78))))
def f78a1 : RAnn := ⟨[6], []⟩
noncomputable def f78o2 : Array Oper := cO (cL (cL (cL (cR (cL (cR (cB Go.Proofs.Try.f78)))))))
def f78a2 : RAnn := ⟨[], []⟩
noncomputable def f78o3 : Array Oper := cO (cL (cL (cL (cR (cR (cL (cL (cR (cL (cR (cB Go.Proofs.Try.f78)))))))))))
def f78a3 : RAnn := ⟨[9, 10], []⟩
noncomputable def f78o4 : Array Oper := cO (cL (cR (cL (cL (cR (cR (cL (cL (cR (cL (cR (cB Go.Proofs.Try.f78))))))))))))
def f78a4 : RAnn := ⟨[11, 12, 13, 14, 15], []⟩
noncomputable def f78o5 : Array Oper := cO (cL (cL (cR (cR (cL (cL (cR (cR (cL (cL (cR (cL (cR (cB Go.Proofs.Try.f78))))))))))))))
def f78a5 : RAnn := ⟨[0, 1, 5, 7, 8, 16, 17], []⟩
noncomputable def f78o6 : Array Oper := cO (cR (cR (cR (cL (cL (cR (cL (cR (cB Go.Proofs.Try.f78)))))))))
def f78a6 : RAnn := ⟨[5, 16, 18], []⟩
noncomputable def f78o7 : Array Oper := cO (cL (cR (cR (cB Go.Proofs.Try.f78))))
def f78a7 : RAnn := ⟨[0, 1, 7, 8, 9], []⟩
def f78b0 : Code := (.seq (.region 2 f78o2 false) (.seq (.cond (.tmp 9) .skip (.exit 0)) (.seq (.block 1 (.seq (.region 3 f78o3 false) (.seq (.region 4 f78o4 false) (.cond (.tmp 16) (.seq (.region 5 f78o5 false) .ret) .skip)))) (.region 6 f78o6 false))))
def f78c : Code := (.seq (.region 0 f78o0 false) (.seq (.seq (.region 1 f78o1 false) (.block 0 (.loop f78b0))) (.seq (.region 7 f78o7 false) .ret)))
def f78n : List (Nat × RAnn) := [(0, f78a0), (1, f78a1), (2, f78a2), (3, f78a3), (4, f78a4), (5, f78a5), (6, f78a6), (7, f78a7)]
noncomputable def f65o0 : Array Oper := cO (cL (cB Go.Proofs.Try.f65))
def f65a0 : RAnn := ⟨[4], []⟩
noncomputable def f65o1 : Array Oper := cO (cL (cR (cB Go.Proofs.Try.f65)))
def f65a1 : RAnn := ⟨[0, 1, 5, 6, 7, 8], []⟩
def f65c : Code := (.seq (.region 0 f65o0 false) (.seq (.region 1 f65o1 false) .ret))
def f65n : List (Nat × RAnn) := [(0, f65a0), (1, f65a1)]
noncomputable def f69o0 : Array Oper := cO (cL (cB Go.Proofs.Try.f69))
def f69a0 : RAnn := ⟨[3], []⟩
noncomputable def f69o1 : Array Oper := cO (cL (cR (cB Go.Proofs.Try.f69)))
def f69a1 : RAnn := ⟨[0, 1, 4, 5, 6, 7, 8, 9, 10, 11, 12, 13], []⟩
def f69c : Code := (.seq (.region 0 f69o0 false) (.seq (.region 1 f69o1 false) .ret))
def f69n : List (Nat × RAnn) := [(0, f69a0), (1, f69a1)]
noncomputable def f42o0 : Array Oper := cO (cL (cB Go.Proofs.Try.f42))
def f42a0 : RAnn := ⟨[0, 4], []⟩
noncomputable def f42o1 : Array Oper := cO (cL (cR (cB Go.Proofs.Try.f42)))
def f42a1 : RAnn := ⟨[1, 2, 5, 6, 7, 8, 9, 10, 11, 12, 13, 14, 15], []⟩
def f42c : Code := (.seq (.region 0 f42o0 false) (.seq (.region 1 f42o1 false) .ret))
def f42n : List (Nat × RAnn) := [(0, f42a0), (1, f42a1)]
noncomputable def f38o0 : Array Oper := cO (cL (cB Go.Proofs.Try.f38))
def f38a0 : RAnn := ⟨[0, 4], []⟩
noncomputable def f38o1 : Array Oper := cO (cL (cL (cL (cR (cB Go.Proofs.Try.f38)))))
def f38a1 : RAnn := ⟨[6, 7, 8], []⟩
noncomputable def f38o2 : Array Oper := cO (cL (cL (cR (cL (cL (cR (cB Go.Proofs.Try.f38)))))))
def f38a2 : RAnn := ⟨[1, 2, 5], []⟩
noncomputable def f38o3 : Array Oper := cO (cL (cR (cR (cL (cL (cR (cB Go.Proofs.Try.f38)))))))
def f38a3 : RAnn := ⟨[1, 2, 5, 10, 11, 12, 13], []⟩
noncomputable def f38o4 : Array Oper := cO (cL (cL (cR (cR (cR (cL (cL (cR (cB Go.Proofs.Try.f38)))))))))
def f38a4 : RAnn := ⟨[9], []⟩
noncomputable def f38o5 : Array Oper := cO (cL (cR (cR (cB Go.Proofs.Try.f38))))
def f38a5 : RAnn := ⟨[9], []⟩
def f38c : Code := (.seq (.region 0 f38o0 false) (.seq (.block 0 (.seq (.region 1 f38o1 false) (.cond (.tmp 5) (.seq (.region 2 f38o2 false) .ret) (.seq (.region 3 f38o3 false) (.cond (.tmp 9) (.seq (.region 4 f38o4 false) .ret) .skip))))) (.seq (.region 5 f38o5 false) .ret)))
def f38n : List (Nat × RAnn) := [(0, f38a0), (1, f38a1), (2, f38a2), (3, f38a3), (4, f38a4), (5, f38a5)]
noncomputable def f14o0 : Array Oper := cO (cL (cB Go.Proofs.Try.f14))
def f14a0 : RAnn := ⟨[0, 4, 5], []⟩
noncomputable def f14o1 : Array Oper := cO (cL (cL (cR (cB Go.Proofs.Try.f14))))
def f14a1 : RAnn := ⟨[13, 14, 15], []⟩
noncomputable def f14o2 : Array Oper := cO (cL (cR (cL (cR (cB Go.Proofs.Try.f14)))))
def f14a2 : RAnn := ⟨[16], []⟩
noncomputable def f14o3 : Array Oper := cO (cL (cL (cR (cR (cL (cR (cB Go.Proofs.Try.f14)))))))
def f14a3 : RAnn := ⟨[1, 2, 6, 17, 18], []⟩
noncomputable def f14o4 : Array Oper := cO (cL (cR (cR (cB Go.Proofs.Try.f14))))
def f14a4 : RAnn := ⟨[6, 8, 17, 19, 20, 21, 22, 23], []⟩
noncomputable def f14o5 : Array Oper := cO (cL (cR (cR (cR (cB Go.Proofs.Try.f14)))))
def f14a5 : RAnn := ⟨[7, 24], [(1, { site := true })]⟩
noncomputable def f14o6 : Array Oper := cO (cL (cL (cR (cR (cR (cR (cB Go.Proofs.Try.f14)))))))
def f14a6 : RAnn := ⟨[2, 26], []⟩
noncomputable def f14o7 : Array Oper := cO (cL (cL (cL (cR (cL (cR (cR (cR (cR (cB Go.Proofs.Try.f14))))))))))
def f14a7 : RAnn := ⟨[], []⟩
noncomputable def f14o8 : Array Oper := cO (cL (cL (cL (cR (cR (cL (cL (cR (cL (cR (cR (cR (cR (cB Go.Proofs.Try.f14))))))))))))))
def f14a8 : RAnn := ⟨[30, 31, 32], []⟩
noncomputable def f14o9 : Array Oper := cO (cL (cL (cR (cL (cL (cR (cR (cL (cL (cR (cL (cR (cR (cR (cR (cB Go.Proofs.Try.f14))))))))))))))))
def f14a9 : RAnn := ⟨[33, 34], []⟩
noncomputable def f14o10 : Array Oper := cO (cL (cR (cR (cL (cL (cR (cR (cL (cL (cR (cL (cR (cR (cR (cR (cB Go.Proofs.Try.f14))))))))))))))))
def f14a10 : RAnn := ⟨[35, 36, 37, 38, 39, 40, 41, 42, 43, 44, 45, 46, 47, 48], []⟩
noncomputable def f14o11 : Array Oper := cO (cL (cL (cL (cL (cL (cR (cR (cR (cL (cL (cR (cR (cL (cL (cR (cL (cR (cR (cR (cR (cB Go.Proofs.Try.f14)))))))))))))))))))))
def f14a11 : RAnn := ⟨[49, 50, 51, 52, 53, 54, 55, 56, 57, 58, 59, 60], []⟩
noncomputable def f14o12 : Array Oper := cO (cL (cR (cL (cL (cL (cR (cR (cR (cL (cL (cR (cR (cL (cL (cR (cL (cR (cR (cR (cR (cB Go.Proofs.Try.f14)))))))))))))))))))))
def f14a12 : RAnn := ⟨[61, 62, 63, 64, 65, 66], []⟩
noncomputable def f14o13 : Array Oper := cO (cR (cR (cR (cR (cL (cL (cR (cR (cL (cL (cR (cL (cR (cR (cR (cR (cB Go.Proofs.Try.f14)))))))))))))))))
def f14a13 : RAnn := ⟨[11, 12, 61, 67, 68, 69, 70, 71], []⟩
noncomputable def f14o14 : Array Oper := cO (cR (cR (cR (cL (cL (cR (cL (cR (cR (cR (cR (cB Go.Proofs.Try.f14))))))))))))
def f14a14 : RAnn := ⟨[11, 35, 72], []⟩
noncomputable def f14o15 : Array Oper := cO (cL (cR (cR (cR (cR (cR (cB Go.Proofs.Try.f14)))))))
def f14a15 : RAnn := ⟨[1, 9, 25, 27, 28, 29, 30, 73], [(1, { close := true })]⟩
def f14b0 : Code := (.seq (.seq (.region 11 f14o11 true) (.cond (.tmp 61) .skip (.exit 2))) (.block 3 (.region 12 f14o12 false)))
def f14b1 : Code := (.seq (.region 7 f14o7 false) (.seq (.cond (.tmp 30) .skip (.exit 0)) (.seq (.block 1 (.seq (.region 8 f14o8 false) (.seq (.seq (.region 9 f14o9 false) (.cond (.tmp 35) (.exit 1) .skip)) (.seq (.region 10 f14o10 true) (.seq (.block 2 (.loop f14b0)) (.region 13 f14o13 false)))))) (.region 14 f14o14 false))))
def f14c : Code := (.seq (.region 0 f14o0 false) (.seq (.seq (.region 1 f14o1 false) (.seq (.region 2 f14o2 false) (.cond (.tmp 17) (.seq (.region 3 f14o3 false) .ret) .skip))) (.seq (.region 4 f14o4 false) (.seq (.region 5 f14o5 false) (.seq (.seq (.region 6 f14o6 false) (.block 0 (.loop f14b1))) (.seq (.region 15 f14o15 false) .ret))))))
def f14n : List (Nat × RAnn) := [(0, f14a0), (1, f14a1), (2, f14a2), (3, f14a3), (4, f14a4), (5, f14a5), (6, f14a6), (7, f14a7), (8, f14a8), (9, f14a9), (10, f14a10), (11, f14a11), (12, f14a12), (13, f14a13), (14, f14a14), (15, f14a15)]
noncomputable def f13o0 : Array Oper := cO (cL (cB Go.Proofs.Try.f13))
def f13a0 : RAnn := ⟨[4], []⟩
noncomputable def f13o1 : Array Oper := cO (cL (cL (cR (cB Go.Proofs.Try.f13))))
def f13a1 : RAnn := ⟨[6, 7, 8, 9], []⟩
noncomputable def f13o2 : Array Oper := cO (cL (cL (cR (cL (cR (cB Go.Proofs.Try.f13))))))
def f13a2 : RAnn := ⟨[0, 1, 10], []⟩
noncomputable def f13o3 : Array Oper := cO (cL (cL (cR (cR (cB Go.Proofs.Try.f13)))))
def f13a3 : RAnn := ⟨[10], []⟩
noncomputable def f13o4 : Array Oper := cO (cL (cL (cL (cL (cR (cL (cR (cR (cB Go.Proofs.Try.f13)))))))))
def f13a4 : RAnn := ⟨[11, 12, 13], []⟩
noncomputable def f13o5 : Array Oper := cO (cR (cR (cL (cL (cR (cL (cR (cR (cB Go.Proofs.Try.f13)))))))))
def f13a5 : RAnn := ⟨[15, 16, 25], []⟩
noncomputable def f13o6 : Array Oper := cO (cL (cL (cL (cR (cL (cL (cR (cL (cR (cR (cB Go.Proofs.Try.f13)))))))))))
def f13a6 : RAnn := ⟨[14, 17, 18, 19, 20, 21, 22, 23, 24], []⟩
noncomputable def f13o7 : Array Oper := cO (cL (cL (cR (cL (cL (cR (cL (cL (cR (cL (cR (cR (cB Go.Proofs.Try.f13)))))))))))))
def f13a7 : RAnn := ⟨[0, 1, 5, 25], []⟩
noncomputable def f13o8 : Array Oper := cO (cL (cR (cR (cR (cB Go.Proofs.Try.f13)))))
def f13a8 : RAnn := ⟨[0, 1, 5, 14], []⟩
def f13b0 : Code := (.seq (.seq (.region 4 f13o4 false) (.cond (.tmp 14) .skip (.exit 0))) (.seq (.block 1 (.seq (.region 6 f13o6 true) (.cond (.tmp 25) (.seq (.region 7 f13o7 false) .ret) .skip))) (.region 5 f13o5 false)))
def f13c : Code := (.seq (.region 0 f13o0 false) (.seq (.seq (.region 1 f13o1 false) (.cond (.tmp 10) (.seq (.region 2 f13o2 false) .ret) .skip)) (.seq (.seq (.region 3 f13o3 false) (.block 0 (.loop f13b0))) (.seq (.region 8 f13o8 false) .ret))))
def f13n : List (Nat × RAnn) := [(0, f13a0), (1, f13a1), (2, f13a2), (3, f13a3), (4, f13a4), (5, f13a5), (6, f13a6), (7, f13a7), (8, f13a8)]
noncomputable def f10o0 : Array Oper := cO (cL (cB Go.Proofs.Try.f10))
def f10a0 : RAnn := ⟨[0], []⟩
noncomputable def f10o1 : Array Oper := cO (cL (cR (cB Go.Proofs.Try.f10)))
def f10a1 : RAnn := ⟨[6, 7, 8, 9, 10], []⟩
noncomputable def f10o2 : Array Oper := cO (cL (cR (cR (cB Go.Proofs.Try.f10))))
def f10a2 : RAnn := ⟨[11, 12, 13, 14, 15, 16], []⟩
noncomputable def f10o3 : Array Oper := cO (cL (cR (cR (cR (cB Go.Proofs.Try.f10)))))
def f10a3 : RAnn := ⟨[1, 17, 18, 19, 20, 21, 22], []⟩
noncomputable def f10o4 : Array Oper := cO (cL (cR (cR (cR (cR (cB Go.Proofs.Try.f10))))))
def f10a4 : RAnn := ⟨[2, 3, 4, 5, 23, 24, 25, 26, 27, 28, 29, 30, 31, 32, 33, 34, 35, 36, 37, 38, 39, 40, 41, 42, 43, 44], []⟩
def f10c : Code := (.seq (.region 0 f10o0 false) (.seq (.region 1 f10o1 false) (.seq (.region 2 f10o2 false) (.seq (.region 3 f10o3 false) (.seq (.region 4 f10o4 false) .ret)))))
def f10n : List (Nat × RAnn) := [(0, f10a0), (1, f10a1), (2, f10a2), (3, f10a3), (4, f10a4)]
noncomputable def f61v10o0 : Array Oper := cO (cL (cB Go.Proofs.Try.f61))
def f61v10a0 : RAnn := ⟨[4], []⟩
noncomputable def f61v10o1 : Array Oper := cO (cL (cL (cR (cB Go.Proofs.Try.f61))))
def f61v10a1 : RAnn := ⟨[6], []⟩
noncomputable def f61v10o2 : Array Oper := cO (cL (cL (cL (cR (cL (cR (cB Go.Proofs.Try.f61)))))))
def f61v10a2 : RAnn := ⟨[], []⟩
noncomputable def f61v10o3 : Array Oper := cO (cL (cL (cL (cR (cR (cL (cL (cR (cL (cR (cB Go.Proofs.Try.f61)))))))))))
def f61v10a3 : RAnn := ⟨[9, 10], []⟩
noncomputable def f61v10o4 : Array Oper := cO (cL (cR (cL (cL (cR (cR (cL (cL (cR (cL (cR (cB Go.Proofs.Try.f61))))))))))))
def f61v10a4 : RAnn := ⟨[11, 12, 13, 14, 15], []⟩
noncomputable def f61v10o5 : Array Oper := cO (cL (cL (cR (cR (cL (cL (cR (cR (cL (cL (cR (cL (cR (cB Go.Proofs.Try.f61))))))))))))))
def f61v10a5 : RAnn := ⟨[0, 1, 5, 7, 8, 16, 17], []⟩
noncomputable def f61v10o6 : Array Oper := cO (cR (cR (cR (cL (cL (cR (cL (cR (cB Go.Proofs.Try.f61)))))))))
def f61v10a6 : RAnn := ⟨[5, 16, 18], []⟩
noncomputable def f61v10o7 : Array Oper := cO (cL (cR (cR (cB Go.Proofs.Try.f61))))
def f61v10a7 : RAnn := ⟨[0, 1, 7, 8, 9], []⟩
def f61v10b0 : Code := (.seq (.region 2 f61v10o2 false) (.seq (.cond (.tmp 9) .skip (.exit 0)) (.seq (.block 1 (.seq (.region 3 f61v10o3 false) (.seq (.region 4 f61v10o4 false) (.cond (.tmp 16) (.seq (.region 5 f61v10o5 false) .ret) .skip)))) (.region 6 f61v10o6 false))))
def f61v10c : Code := (.seq (.region 0 f61v10o0 false) (.seq (.seq (.region 1 f61v10o1 false) (.block 0 (.loop f61v10b0))) (.seq (.region 7 f61v10o7 false) .ret)))
def f61v10n : List (Nat × RAnn) := [(0, f61v10a0), (1, f61v10a1), (2, f61v10a2), (3, f61v10a3), (4, f61v10a4), (5, f61v10a5), (6, f61v10a6), (7, f61v10a7)]
noncomputable def f63o0 : Array Oper := cO (cL (cB Go.Proofs.Try.f63))
def f63a0 : RAnn := ⟨[0, 2], []⟩
noncomputable def f63o1 : Array Oper := cO (cL (cR (cB Go.Proofs.Try.f63)))
def f63a1 : RAnn := ⟨[1, 3, 4, 5], []⟩
def f63c : Code := (.seq (.region 0 f63o0 false) (.seq (.region 1 f63o1 false) .ret))
def f63n : List (Nat × RAnn) := [(0, f63a0), (1, f63a1)]
noncomputable def f32o0 : Array Oper := cO (cL (cB Go.Proofs.Try.f32))
def f32a0 : RAnn := ⟨[0, 4, 5], []⟩
noncomputable def f32o1 : Array Oper := cO (cL (cL (cR (cB Go.Proofs.Try.f32))))
def f32a1 : RAnn := ⟨[12, 13, 14], []⟩
noncomputable def f32o2 : Array Oper := cO (cL (cR (cL (cR (cB Go.Proofs.Try.f32)))))
def f32a2 : RAnn := ⟨[15], []⟩
noncomputable def f32o3 : Array Oper := cO (cL (cL (cR (cR (cL (cR (cB Go.Proofs.Try.f32)))))))
def f32a3 : RAnn := ⟨[1, 2, 6, 16, 17], []⟩
noncomputable def f32o4 : Array Oper := cO (cL (cR (cR (cB Go.Proofs.Try.f32))))
def f32a4 : RAnn := ⟨[6, 16, 18, 19, 20], []⟩
noncomputable def f32o5 : Array Oper := cO (cL (cL (cR (cR (cR (cB Go.Proofs.Try.f32))))))
def f32a5 : RAnn := ⟨[21], []⟩
noncomputable def f32o6 : Array Oper := cO (cL (cL (cR (cL (cR (cR (cR (cB Go.Proofs.Try.f32))))))))
def f32a6 : RAnn := ⟨[1, 2, 7, 22], []⟩
noncomputable def f32o7 : Array Oper := cO (cL (cR (cR (cR (cR (cB Go.Proofs.Try.f32))))))
def f32a7 : RAnn := ⟨[7, 22, 23, 24, 25, 26, 27, 28], []⟩
noncomputable def f32o8 : Array Oper := cO (cL (cR (cR (cR (cR (cR (cB Go.Proofs.Try.f32)))))))
def f32a8 : RAnn := ⟨[], [(0, { keep := [0] })]⟩
noncomputable def f32o9 : Array Oper := cO (cL (cL (cR (cR (cR (cR (cR (cR (cB Go.Proofs.Try.f32)))))))))
def f32a9 : RAnn := ⟨[29, 30, 31], []⟩
noncomputable def f32o10 : Array Oper := cO (cL (cL (cL (cL (cR (cL (cR (cR (cR (cR (cR (cR (cB Go.Proofs.Try.f32)))))))))))))
def f32a10 : RAnn := ⟨[32, 33, 34, 35, 36, 37], []⟩
noncomputable def f32o11 : Array Oper := cO (cL (cL (cR (cL (cL (cR (cL (cR (cR (cR (cR (cR (cR (cB Go.Proofs.Try.f32))))))))))))))
def f32a11 : RAnn := ⟨[38, 39], [(1, { site := true })]⟩
noncomputable def f32o12 : Array Oper := cO (cL (cR (cL (cR (cL (cL (cR (cL (cR (cR (cR (cR (cR (cR (cB Go.Proofs.Try.f32)))))))))))))))
def f32a12 : RAnn := ⟨[41, 42, 43, 44, 45, 46, 47, 48], []⟩
noncomputable def f32o13 : Array Oper := cO (cL (cR (cR (cL (cR (cL (cL (cR (cL (cR (cR (cR (cR (cR (cR (cB Go.Proofs.Try.f32))))))))))))))))
def f32a13 : RAnn := ⟨[49, 50, 51, 52, 53, 54], []⟩
noncomputable def f32o14 : Array Oper := cO (cR (cR (cR (cL (cR (cL (cL (cR (cL (cR (cR (cR (cR (cR (cR (cB Go.Proofs.Try.f32))))))))))))))))
def f32a14 : RAnn := ⟨[11, 40, 55, 56, 57, 58, 59, 60], [(0, { tk := [9], keep := [0] }), (2, { close := true }), (5, { tk := [55], keep := [0] }), (6, { tk := [60], keep := [0] })]⟩
noncomputable def f32o15 : Array Oper := cO (cL (cR (cR (cR (cR (cR (cR (cR (cB Go.Proofs.Try.f32)))))))))
def f32a15 : RAnn := ⟨[1, 2, 8, 9, 10, 38, 61], []⟩
def f32b0 : Code := (.seq (.seq (.region 10 f32o10 false) (.cond (.tmp 38) .skip (.exit 0))) (.block 1 (.seq (.region 11 f32o11 false) (.seq (.region 12 f32o12 false) (.seq (.region 13 f32o13 false) (.region 14 f32o14 false))))))
def f32c : Code := (.seq (.region 0 f32o0 false) (.seq (.seq (.region 1 f32o1 false) (.seq (.region 2 f32o2 false) (.cond (.tmp 16) (.seq (.region 3 f32o3 false) .ret) .skip))) (.seq (.region 4 f32o4 false) (.seq (.seq (.region 5 f32o5 false) (.cond (.tmp 22) (.seq (.region 6 f32o6 false) .ret) .skip)) (.seq (.region 7 f32o7 false) (.seq (.region 8 f32o8 false) (.seq (.seq (.region 9 f32o9 false) (.block 0 (.loop f32b0))) (.seq (.region 15 f32o15 false) .ret))))))))
def f32n : List (Nat × RAnn) := [(0, f32a0), (1, f32a1), (2, f32a2), (3, f32a3), (4, f32a4), (5, f32a5), (6, f32a6), (7, f32a7), (8, f32a8), (9, f32a9), (10, f32a10), (11, f32a11), (12, f32a12), (13, f32a13), (14, f32a14), (15, f32a15)]
noncomputable def f50o0 : Array Oper := cO (cL (cB Go.Proofs.Try.f50))
def f50a0 : RAnn := ⟨[2], []⟩
noncomputable def f50o1 : Array Oper := cO (cL (cL (cR (cB Go.Proofs.Try.f50))))
def f50a1 : RAnn := ⟨[], []⟩
noncomputable def f50o2 : Array Oper := cO (cL (cL (cL (cL (cR (cL (cR (cB Go.Proofs.Try.f50))))))))
def f50a2 : RAnn := ⟨[4, 5, 6], []⟩
noncomputable def f50o3 : Array Oper := cO (cR (cR (cL (cL (cR (cL (cR (cB Go.Proofs.Try.f50))))))))
def f50a3 : RAnn := ⟨[8, 9, 19], []⟩
noncomputable def f50o4 : Array Oper := cO (cL (cL (cL (cR (cL (cL (cR (cL (cR (cB Go.Proofs.Try.f50))))))))))
def f50a4 : RAnn := ⟨[7, 10, 11, 12, 13, 14, 15, 16, 17, 18], []⟩
noncomputable def f50o5 : Array Oper := cO (cL (cL (cR (cL (cL (cR (cL (cL (cR (cL (cR (cB Go.Proofs.Try.f50))))))))))))
def f50a5 : RAnn := ⟨[0, 3, 19], []⟩
noncomputable def f50o6 : Array Oper := cO (cL (cR (cR (cB Go.Proofs.Try.f50))))
def f50a6 : RAnn := ⟨[0, 3, 7], []⟩
def f50b0 : Code := (.seq (.seq (.region 2 f50o2 false) (.cond (.tmp 7) .skip (.exit 0))) (.seq (.block 1 (.seq (.region 4 f50o4 false) (.cond (.tmp 19) (.seq (.region 5 f50o5 false) .ret) .skip))) (.region 3 f50o3 false)))
def f50c : Code := (.seq (.region 0 f50o0 false) (.seq (.seq (.region 1 f50o1 false) (.block 0 (.loop f50b0))) (.seq (.region 6 f50o6 false) .ret)))
def f50n : List (Nat × RAnn) := [(0, f50a0), (1, f50a1), (2, f50a2), (3, f50a3), (4, f50a4), (5, f50a5), (6, f50a6)]
noncomputable def f77o0 : Array Oper := cO (cL (cB Go.Proofs.Try.f77))
def f77a0 : RAnn := ⟨[2], []⟩
noncomputable def f77o1 : Array Oper := cO (cL (cL (cR (cB Go.Proofs.Try.f77))))
def f77a1 : RAnn := ⟨[], []⟩
noncomputable def f77o2 : Array Oper := cO (cL (cL (cL (cL (cR (cL (cR (cB Go.Proofs.Try.f77))))))))
def f77a2 : RAnn := ⟨[5, 6, 7], []⟩
noncomputable def f77o3 : Array Oper := cO (cR (cR (cL (cL (cR (cL (cR (cB Go.Proofs.Try.f77))))))))
def f77a3 : RAnn := ⟨[9, 10, 38], []⟩
noncomputable def f77o4 : Array Oper := cO (cL (cL (cL (cR (cL (cL (cR (cL (cR (cB Go.Proofs.Try.f77))))))))))
def f77a4 : RAnn := ⟨[8, 11, 12, 13, 14, 15, 16, 17, 18, 19, 20], []⟩
noncomputable def f77o5 : Array Oper := cO (cL (cR (cL (cL (cR (cL (cL (cR (cL (cR (cB Go.Proofs.Try.f77)))))))))))
def f77a5 : RAnn := ⟨[4, 21, 22, 23, 24, 25, 26, 27, 28, 29, 30, 31, 32, 33, 34, 35, 36, 37], []⟩
noncomputable def f77o6 : Array Oper := cO (cL (cL (cR (cR (cL (cL (cR (cL (cL (cR (cL (cR (cB Go.Proofs.Try.f77)))))))))))))
def f77a6 : RAnn := ⟨[0, 3, 38], []⟩
noncomputable def f77o7 : Array Oper := cO (cL (cR (cR (cB Go.Proofs.Try.f77))))
def f77a7 : RAnn := ⟨[0, 3, 8, 39, 40, 41, 42, 43, 44, 45, 46], []⟩
def f77b0 : Code := (.seq (.seq (.region 2 f77o2 false) (.cond (.tmp 8) .skip (.exit 0))) (.seq (.block 1 (.seq (.region 4 f77o4 false) (.seq (.region 5 f77o5 false) (.cond (.tmp 38) (.seq (.region 6 f77o6 false) .ret) .skip)))) (.region 3 f77o3 false)))
def f77c : Code := (.seq (.region 0 f77o0 false) (.seq (.seq (.region 1 f77o1 false) (.block 0 (.loop f77b0))) (.seq (.region 7 f77o7 false) .ret)))
def f77n : List (Nat × RAnn) := [(0, f77a0), (1, f77a1), (2, f77a2), (3, f77a3), (4, f77a4), (5, f77a5), (6, f77a6), (7, f77a7)]
noncomputable def f57o0 : Array Oper := cO (cL (cB Go.Proofs.Try.f57))
def f57a0 : RAnn := ⟨[1, 4], []⟩
noncomputable def f57o1 : Array Oper := cO (cL (cL (cR (cB Go.Proofs.Try.f57))))
def f57a1 : RAnn := ⟨[6, 7, 8, 9, 10, 11, 12, 13, 14, 15, 16, 17, 18, 19, 20, 21, 22, 23, 24, 25, 26, 27, 28, 29, 30, 31, 32, 33, 34, 35, 36, 37, 38], []⟩
noncomputable def f57o2 : Array Oper := cO (cL (cL (cR (cL (cR (cB Go.Proofs.Try.f57))))))
def f57a2 : RAnn := ⟨[0, 3, 39], []⟩
noncomputable def f57o3 : Array Oper := cO (cL (cL (cR (cR (cB Go.Proofs.Try.f57)))))
def f57a3 : RAnn := ⟨[39], []⟩
noncomputable def f57o4 : Array Oper := cO (cL (cL (cL (cL (cR (cL (cR (cR (cB Go.Proofs.Try.f57)))))))))
def f57a4 : RAnn := ⟨[40, 41, 42], []⟩
noncomputable def f57o5 : Array Oper := cO (cR (cR (cL (cL (cR (cL (cR (cR (cB Go.Proofs.Try.f57)))))))))
def f57a5 : RAnn := ⟨[44, 45, 83], []⟩
noncomputable def f57o6 : Array Oper := cO (cL (cL (cL (cR (cL (cL (cR (cL (cR (cR (cB Go.Proofs.Try.f57)))))))))))
def f57a6 : RAnn := ⟨[43, 46, 47, 48, 49, 50, 51, 52, 53, 54, 55, 56, 57, 58, 59, 60, 61, 62, 63, 64, 65, 66, 67, 68, 69, 70, 71, 72, 73, 74, 75, 76, 77, 78, 79, 80, 81, 82], []⟩
noncomputable def f57o7 : Array Oper := cO (cL (cL (cR (cL (cL (cR (cL (cL (cR (cL (cR (cR (cB Go.Proofs.Try.f57)))))))))))))
def f57a7 : RAnn := ⟨[0, 3, 5, 83], []⟩
noncomputable def f57o8 : Array Oper := cO (cL (cR (cR (cR (cB Go.Proofs.Try.f57)))))
def f57a8 : RAnn := ⟨[0, 3, 5, 43], []⟩
def f57b0 : Code := (.seq (.seq (.region 4 f57o4 false) (.cond (.tmp 43) .skip (.exit 0))) (.seq (.block 1 (.seq (.region 6 f57o6 true) (.cond (.tmp 83) (.seq (.region 7 f57o7 false) .ret) .skip))) (.region 5 f57o5 false)))
def f57c : Code := (.seq (.region 0 f57o0 false) (.seq (.seq (.region 1 f57o1 false) (.cond (.tmp 39) (.seq (.region 2 f57o2 false) .ret) .skip)) (.seq (.seq (.region 3 f57o3 false) (.block 0 (.loop f57b0))) (.seq (.region 8 f57o8 false) .ret))))
def f57n : List (Nat × RAnn) := [(0, f57a0), (1, f57a1), (2, f57a2), (3, f57a3), (4, f57a4), (5, f57a5), (6, f57a6), (7, f57a7), (8, f57a8)]
noncomputable def f58o0 : Array Oper := cO (cL (cB Go.Proofs.Try.f58))
def f58a0 : RAnn := ⟨[0, 2], []⟩
noncomputable def f58o1 : Array Oper := cO (cL (cR (cB Go.Proofs.Try.f58)))
def f58a1 : RAnn := ⟨[], [(0, { site := true })]⟩
noncomputable def f58o2 : Array Oper := cO (cL (cL (cR (cR (cB Go.Proofs.Try.f58)))))
def f58a2 : RAnn := ⟨[], []⟩
noncomputable def f58o3 : Array Oper := cO (cL (cL (cL (cL (cR (cL (cR (cR (cB Go.Proofs.Try.f58)))))))))
def f58a3 : RAnn := ⟨[6, 7, 8, 9], []⟩
noncomputable def f58o4 : Array Oper := cO (cR (cR (cL (cL (cR (cL (cR (cR (cB Go.Proofs.Try.f58)))))))))
def f58a4 : RAnn := ⟨[11, 12], []⟩
noncomputable def f58o5 : Array Oper := cO (cL (cL (cR (cL (cL (cR (cL (cR (cR (cB Go.Proofs.Try.f58))))))))))
def f58a5 : RAnn := ⟨[10, 13, 14, 15, 16, 17, 18, 19, 20, 21, 22, 23, 24, 25, 26, 27, 28, 29, 30, 31, 32, 33, 34, 35], [(23, { eff := true })]⟩
noncomputable def f58o6 : Array Oper := cO (cL (cL (cR (cR (cR (cB Go.Proofs.Try.f58))))))
def f58a6 : RAnn := ⟨[4, 10], []⟩
noncomputable def f58o7 : Array Oper := cO (cL (cL (cL (cL (cR (cL (cR (cR (cR (cB Go.Proofs.Try.f58))))))))))
def f58a7 : RAnn := ⟨[36, 37, 38, 39], []⟩
noncomputable def f58o8 : Array Oper := cO (cR (cR (cL (cL (cR (cL (cR (cR (cR (cB Go.Proofs.Try.f58))))))))))
def f58a8 : RAnn := ⟨[41, 42], []⟩
noncomputable def f58o9 : Array Oper := cO (cL (cL (cR (cL (cL (cR (cL (cR (cR (cR (cB Go.Proofs.Try.f58)))))))))))
def f58a9 : RAnn := ⟨[40, 43, 44, 45, 46, 47, 48, 49, 50, 51, 52, 53, 54, 55, 56, 57, 58, 59, 60, 61, 62, 63, 64], [(22, { eff := true })]⟩
noncomputable def f58o10 : Array Oper := cO (cL (cR (cR (cR (cR (cB Go.Proofs.Try.f58))))))
def f58a10 : RAnn := ⟨[1, 3, 5, 40, 65], [(1, { close := true })]⟩
def f58b0 : Code := (.seq (.seq (.region 3 f58o3 false) (.cond (.tmp 10) .skip (.exit 0))) (.seq (.block 1 (.region 5 f58o5 true)) (.region 4 f58o4 false)))
def f58b1 : Code := (.seq (.seq (.region 7 f58o7 false) (.cond (.tmp 40) .skip (.exit 2))) (.seq (.block 3 (.region 9 f58o9 true)) (.region 8 f58o8 false)))
def f58c : Code := (.seq (.region 0 f58o0 false) (.seq (.region 1 f58o1 false) (.seq (.seq (.region 2 f58o2 false) (.block 0 (.loop f58b0))) (.seq (.seq (.region 6 f58o6 false) (.block 2 (.loop f58b1))) (.seq (.region 10 f58o10 false) .ret)))))
def f58n : List (Nat × RAnn) := [(0, f58a0), (1, f58a1), (2, f58a2), (3, f58a3), (4, f58a4), (5, f58a5), (6, f58a6), (7, f58a7), (8, f58a8), (9, f58a9), (10, f58a10)]
noncomputable def f25o0 : Array Oper := cO (cL (cB Go.Proofs.Try.f25))
def f25a0 : RAnn := ⟨[0, 2], []⟩
noncomputable def f25o1 : Array Oper := cO (cL (cL (cR (cB Go.Proofs.Try.f25))))
def f25a1 : RAnn := ⟨[8, 9, 10, 11, 12, 13, 14, 15, 16, 17, 18, 19, 20, 21, 22, 23, 24, 25, 26, 27, 28, 29, 30, 31, 32, 33, 34, 35, 36], []⟩
noncomputable def f25o2 : Array Oper := cO (cL (cL (cR (cL (cR (cB Go.Proofs.Try.f25))))))
def f25a2 : RAnn := ⟨[1, 37], []⟩
noncomputable def f25o3 : Array Oper := cO (cL (cL (cR (cR (cB Go.Proofs.Try.f25)))))
def f25a3 : RAnn := ⟨[37], []⟩
noncomputable def f25o4 : Array Oper := cO (cL (cL (cL (cL (cR (cL (cR (cR (cB Go.Proofs.Try.f25)))))))))
def f25a4 : RAnn := ⟨[38, 39, 40, 41], []⟩
noncomputable def f25o5 : Array Oper := cO (cR (cR (cL (cL (cR (cL (cR (cR (cB Go.Proofs.Try.f25)))))))))
def f25a5 : RAnn := ⟨[43, 44, 52], []⟩
noncomputable def f25o6 : Array Oper := cO (cL (cL (cL (cR (cL (cL (cR (cL (cR (cR (cB Go.Proofs.Try.f25)))))))))))
def f25a6 : RAnn := ⟨[42, 45, 46, 47, 48, 49, 50, 51], []⟩
noncomputable def f25o7 : Array Oper := cO (cL (cL (cR (cL (cL (cR (cL (cL (cR (cL (cR (cR (cB Go.Proofs.Try.f25)))))))))))))
def f25a7 : RAnn := ⟨[1, 3, 52], []⟩
noncomputable def f25o8 : Array Oper := cO (cL (cL (cR (cR (cR (cB Go.Proofs.Try.f25))))))
def f25a8 : RAnn := ⟨[3, 42], []⟩
noncomputable def f25o9 : Array Oper := cO (cL (cL (cL (cL (cR (cL (cR (cR (cR (cB Go.Proofs.Try.f25))))))))))
def f25a9 : RAnn := ⟨[53, 54, 55, 56], []⟩
noncomputable def f25o10 : Array Oper := cO (cR (cR (cL (cL (cR (cL (cR (cR (cR (cB Go.Proofs.Try.f25))))))))))
def f25a10 : RAnn := ⟨[58, 59, 70], []⟩
noncomputable def f25o11 : Array Oper := cO (cL (cL (cL (cR (cL (cL (cR (cL (cR (cR (cR (cB Go.Proofs.Try.f25))))))))))))
def f25a11 : RAnn := ⟨[57, 60, 61, 62, 63, 64, 65, 66, 67, 68, 69], []⟩
noncomputable def f25o12 : Array Oper := cO (cL (cL (cR (cL (cL (cR (cL (cL (cR (cL (cR (cR (cR (cB Go.Proofs.Try.f25))))))))))))))
def f25a12 : RAnn := ⟨[1, 4, 70], []⟩
noncomputable def f25o13 : Array Oper := cO (cL (cR (cR (cR (cR (cB Go.Proofs.Try.f25))))))
def f25a13 : RAnn := ⟨[4, 57, 71, 72], []⟩
noncomputable def f25o14 : Array Oper := cO (cL (cL (cR (cR (cR (cR (cR (cB Go.Proofs.Try.f25))))))))
def f25a14 : RAnn := ⟨[], []⟩
noncomputable def f25o15 : Array Oper := cO (cL (cL (cL (cL (cR (cL (cR (cR (cR (cR (cR (cB Go.Proofs.Try.f25))))))))))))
def f25a15 : RAnn := ⟨[73, 74, 75], []⟩
noncomputable def f25o16 : Array Oper := cO (cR (cR (cL (cL (cR (cL (cR (cR (cR (cR (cR (cB Go.Proofs.Try.f25))))))))))))
def f25a16 : RAnn := ⟨[7, 77, 78, 139], []⟩
noncomputable def f25o17 : Array Oper := cO (cL (cL (cL (cL (cR (cL (cL (cR (cL (cR (cR (cR (cR (cR (cB Go.Proofs.Try.f25)))))))))))))))
def f25a17 : RAnn := ⟨[76, 79, 80, 81, 82, 83, 84, 85, 86, 87, 88, 89, 90, 91, 92, 93, 94, 95, 96, 97, 98, 99, 100, 101, 102, 103, 104, 105, 106, 107, 108, 109, 110, 111, 112, 113, 114, 115, 116, 117, 118, 119, 120, 121, 122, 123, 124, 125, 126, 127, 128, 129, 130, 131, 132, 133, 134, 135], []⟩
noncomputable def f25o18 : Array Oper := cO (cL (cL (cR (cL (cL (cL (cR (cL (cL (cR (cL (cR (cR (cR (cR (cR (cB Go.Proofs.Try.f25)))))))))))))))))
def f25a18 : RAnn := ⟨[1, 5, 6, 136], []⟩
noncomputable def f25o19 : Array Oper := cO (cL (cR (cL (cL (cR (cL (cL (cR (cL (cR (cR (cR (cR (cR (cB Go.Proofs.Try.f25)))))))))))))))
def f25a19 : RAnn := ⟨[136], []⟩
noncomputable def f25o20 : Array Oper := cO (cL (cL (cL (cL (cR (cR (cL (cL (cR (cL (cL (cR (cL (cR (cR (cR (cR (cR (cB Go.Proofs.Try.f25)))))))))))))))))))
def f25a20 : RAnn := ⟨[137, 138], []⟩
noncomputable def f25o21 : Array Oper := cO (cR (cR (cL (cL (cR (cR (cL (cL (cR (cL (cL (cR (cL (cR (cR (cR (cR (cR (cB Go.Proofs.Try.f25)))))))))))))))))))
def f25a21 : RAnn := ⟨[140, 141, 190], []⟩
noncomputable def f25o22 : Array Oper := cO (cL (cL (cL (cR (cL (cL (cR (cR (cL (cL (cR (cL (cL (cR (cL (cR (cR (cR (cR (cR (cB Go.Proofs.Try.f25)))))))))))))))))))))
def f25a22 : RAnn := ⟨[139, 142, 143, 144, 145, 146, 147, 148, 149, 150, 151, 152, 153, 154, 155, 156, 157, 158, 159, 160, 161, 162, 163, 164, 165, 166, 167, 168, 169, 170, 171, 172, 173, 174, 175, 176, 177, 178, 179, 180, 181, 182, 183, 184, 185, 186, 187, 188, 189], []⟩
noncomputable def f25o23 : Array Oper := cO (cL (cL (cR (cL (cL (cR (cL (cL (cR (cR (cL (cL (cR (cL (cL (cR (cL (cR (cR (cR (cR (cR (cB Go.Proofs.Try.f25)))))))))))))))))))))))
def f25a23 : RAnn := ⟨[1, 5, 6, 7, 190], []⟩
noncomputable def f25o24 : Array Oper := cO (cL (cR (cR (cR (cR (cR (cR (cB Go.Proofs.Try.f25))))))))
def f25a24 : RAnn := ⟨[1, 5, 6, 76], []⟩
def f25b0 : Code := (.seq (.seq (.region 4 f25o4 false) (.cond (.tmp 42) .skip (.exit 0))) (.seq (.block 1 (.seq (.region 6 f25o6 false) (.cond (.tmp 52) (.seq (.region 7 f25o7 false) .ret) .skip))) (.region 5 f25o5 false)))
def f25b1 : Code := (.seq (.seq (.region 9 f25o9 false) (.cond (.tmp 57) .skip (.exit 2))) (.seq (.block 3 (.seq (.region 11 f25o11 true) (.cond (.tmp 70) (.seq (.region 12 f25o12 false) .ret) .skip))) (.region 10 f25o10 false)))
def f25b2 : Code := (.seq (.seq (.region 20 f25o20 false) (.cond (.tmp 139) .skip (.exit 6))) (.seq (.block 7 (.seq (.region 22 f25o22 true) (.cond (.tmp 190) (.seq (.region 23 f25o23 false) .ret) .skip))) (.region 21 f25o21 false)))
def f25b3 : Code := (.seq (.seq (.region 15 f25o15 false) (.cond (.tmp 76) .skip (.exit 4))) (.seq (.block 5 (.seq (.seq (.region 17 f25o17 true) (.cond (.tmp 136) (.seq (.region 18 f25o18 false) .ret) .skip)) (.seq (.region 19 f25o19 false) (.block 6 (.loop f25b2))))) (.region 16 f25o16 false)))
def f25c : Code := (.seq (.region 0 f25o0 false) (.seq (.seq (.region 1 f25o1 false) (.cond (.tmp 37) (.seq (.region 2 f25o2 false) .ret) .skip)) (.seq (.seq (.region 3 f25o3 false) (.block 0 (.loop f25b0))) (.seq (.seq (.region 8 f25o8 false) (.block 2 (.loop f25b1))) (.seq (.region 13 f25o13 false) (.seq (.seq (.region 14 f25o14 false) (.block 4 (.loop f25b3))) (.seq (.region 24 f25o24 false) .ret)))))))
def f25n : List (Nat × RAnn) := [(0, f25a0), (1, f25a1), (2, f25a2), (3, f25a3), (4, f25a4), (5, f25a5), (6, f25a6), (7, f25a7), (8, f25a8), (9, f25a9), (10, f25a10), (11, f25a11), (12, f25a12), (13, f25a13), (14, f25a14), (15, f25a15), (16, f25a16), (17, f25a17), (18, f25a18), (19, f25a19), (20, f25a20), (21, f25a21), (22, f25a22), (23, f25a23), (24, f25a24)]
noncomputable def f41o0 : Array Oper := cO (cL (cB Go.Proofs.Try.f41))
def f41a0 : RAnn := ⟨[0, 2, 3], []⟩
noncomputable def f41o1 : Array Oper := cO (cL (cR (cB Go.Proofs.Try.f41)))
def f41a1 : RAnn := ⟨[], []⟩
noncomputable def f41o2 : Array Oper := cO (cL (cL (cR (cR (cB Go.Proofs.Try.f41)))))
def f41a2 : RAnn := ⟨[], []⟩
noncomputable def f41o3 : Array Oper := cO (cL (cL (cL (cL (cR (cL (cR (cR (cB Go.Proofs.Try.f41)))))))))
def f41a3 : RAnn := ⟨[7, 8, 9, 10], []⟩
noncomputable def f41o4 : Array Oper := cO (cR (cR (cL (cL (cR (cL (cR (cR (cB Go.Proofs.Try.f41)))))))))
def f41a4 : RAnn := ⟨[12, 13], []⟩
noncomputable def f41o5 : Array Oper := cO (cL (cL (cR (cL (cL (cR (cL (cR (cR (cB Go.Proofs.Try.f41))))))))))
def f41a5 : RAnn := ⟨[11, 14, 15, 16, 17, 18, 19, 20, 21, 22, 23, 24, 25, 26, 27, 28, 29, 30, 31], [(18, { eff := true }), (19, { eff := true })]⟩
noncomputable def f41o6 : Array Oper := cO (cL (cR (cR (cR (cB Go.Proofs.Try.f41)))))
def f41a6 : RAnn := ⟨[1, 4, 5, 6, 11, 32, 33], []⟩
def f41b0 : Code := (.seq (.seq (.region 3 f41o3 false) (.cond (.tmp 11) .skip (.exit 0))) (.seq (.block 1 (.region 5 f41o5 true)) (.region 4 f41o4 false)))
def f41c : Code := (.seq (.region 0 f41o0 false) (.seq (.region 1 f41o1 false) (.seq (.seq (.region 2 f41o2 false) (.block 0 (.loop f41b0))) (.seq (.region 6 f41o6 false) .ret))))
def f41n : List (Nat × RAnn) := [(0, f41a0), (1, f41a1), (2, f41a2), (3, f41a3), (4, f41a4), (5, f41a5), (6, f41a6)]
noncomputable def f36o0 : Array Oper := cO (cL (cB Go.Proofs.Try.f36))
def f36a0 : RAnn := ⟨[0, 4], []⟩
noncomputable def f36o1 : Array Oper := cO (cL (cL (cR (cB Go.Proofs.Try.f36))))
def f36a1 : RAnn := ⟨[], []⟩
noncomputable def f36o2 : Array Oper := cO (cL (cL (cL (cL (cR (cL (cR (cB Go.Proofs.Try.f36))))))))
def f36a2 : RAnn := ⟨[8, 9, 10], []⟩
noncomputable def f36o3 : Array Oper := cO (cR (cR (cL (cL (cR (cL (cR (cB Go.Proofs.Try.f36))))))))
def f36a3 : RAnn := ⟨[12, 13, 27], []⟩
noncomputable def f36o4 : Array Oper := cO (cL (cL (cL (cR (cL (cL (cR (cL (cR (cB Go.Proofs.Try.f36))))))))))
def f36a4 : RAnn := ⟨[11, 14, 15, 16, 17, 18, 19, 20, 21, 22, 23, 24, 25, 26], []⟩
noncomputable def f36o5 : Array Oper := cO (cL (cL (cR (cL (cL (cR (cL (cL (cR (cL (cR (cB Go.Proofs.Try.f36))))))))))))
def f36a5 : RAnn := ⟨[1, 2, 5, 27], []⟩
noncomputable def f36o6 : Array Oper := cO (cL (cR (cR (cB Go.Proofs.Try.f36))))
def f36a6 : RAnn := ⟨[2, 5, 6, 11, 28, 29, 30, 31, 32], []⟩
noncomputable def f36o7 : Array Oper := cO (cL (cR (cR (cR (cB Go.Proofs.Try.f36)))))
def f36a7 : RAnn := ⟨[1, 7, 33, 34, 35, 36], []⟩
def f36b0 : Code := (.seq (.seq (.region 2 f36o2 false) (.cond (.tmp 11) .skip (.exit 0))) (.seq (.block 1 (.seq (.region 4 f36o4 false) (.cond (.tmp 27) (.seq (.region 5 f36o5 false) .ret) .skip))) (.region 3 f36o3 false)))
def f36c : Code := (.seq (.region 0 f36o0 false) (.seq (.seq (.region 1 f36o1 false) (.block 0 (.loop f36b0))) (.seq (.region 6 f36o6 false) (.seq (.region 7 f36o7 false) .ret))))
def f36n : List (Nat × RAnn) := [(0, f36a0), (1, f36a1), (2, f36a2), (3, f36a3), (4, f36a4), (5, f36a5), (6, f36a6), (7, f36a7)]
noncomputable def f52o0 : Array Oper := cO (cL (cB Go.Proofs.Try.f52))
def f52a0 : RAnn := ⟨[6], []⟩
noncomputable def f52o1 : Array Oper := cO (cL (cL (cL (cL (cL (cR (cB Go.Proofs.Try.f52)))))))
def f52a1 : RAnn := ⟨[7, 8, 9], []⟩
noncomputable def f52o2 : Array Oper := cO (cL (cR (cL (cL (cL (cR (cB Go.Proofs.Try.f52)))))))
def f52a2 : RAnn := ⟨[10, 11, 12, 13, 14, 15], []⟩
noncomputable def f52o3 : Array Oper := cO (cL (cR (cR (cB Go.Proofs.Try.f52))))
def f52a3 : RAnn := ⟨[0, 1, 2, 10, 16, 17, 18], []⟩
def f52b0 : Code := (.seq (.seq (.region 1 f52o1 false) (.cond (.tmp 10) .skip (.exit 0))) (.block 1 (.region 2 f52o2 false)))
def f52c : Code := (.seq (.region 0 f52o0 false) (.seq (.block 0 (.loop f52b0)) (.seq (.region 3 f52o3 false) .ret)))
def f52n : List (Nat × RAnn) := [(0, f52a0), (1, f52a1), (2, f52a2), (3, f52a3)]
noncomputable def f51o0 : Array Oper := cO (cL (cB Go.Proofs.Try.f51))
def f51a0 : RAnn := ⟨[8], []⟩
noncomputable def f51o1 : Array Oper := cO (cL (cR (cB Go.Proofs.Try.f51)))
def f51a1 : RAnn := ⟨[0, 11, 12], [(0, { site := true })]⟩
noncomputable def f51o2 : Array Oper := cO (cL (cR (cR (cB Go.Proofs.Try.f51))))
def f51a2 : RAnn := ⟨[1, 2, 3, 13, 14, 15, 16, 17, 18, 19, 20, 21, 22, 23, 24, 25, 26, 27, 28, 29, 30, 31, 32, 33], []⟩
noncomputable def f51o3 : Array Oper := cO (cL (cR (cR (cR (cB Go.Proofs.Try.f51)))))
def f51a3 : RAnn := ⟨[9, 10, 34], [(1, { close := true })]⟩
def f51c : Code := (.seq (.region 0 f51o0 false) (.seq (.region 1 f51o1 false) (.seq (.region 2 f51o2 true) (.seq (.region 3 f51o3 false) .ret))))
def f51n : List (Nat × RAnn) := [(0, f51a0), (1, f51a1), (2, f51a2), (3, f51a3)]
noncomputable def f45o0 : Array Oper := cO (cL (cB Go.Proofs.Try.f45))
def f45a0 : RAnn := ⟨[0, 2], []⟩
noncomputable def f45o1 : Array Oper := cO (cL (cR (cB Go.Proofs.Try.f45)))
def f45a1 : RAnn := ⟨[], [(0, { keep := [0] })]⟩
noncomputable def f45o2 : Array Oper := cO (cL (cL (cR (cR (cB Go.Proofs.Try.f45)))))
def f45a2 : RAnn := ⟨[], []⟩
noncomputable def f45o3 : Array Oper := cO (cL (cL (cL (cL (cR (cL (cR (cR (cB Go.Proofs.Try.f45)))))))))
def f45a3 : RAnn := ⟨[6, 7, 8], []⟩
noncomputable def f45o4 : Array Oper := cO (cR (cR (cL (cL (cR (cL (cR (cR (cB Go.Proofs.Try.f45)))))))))
def f45a4 : RAnn := ⟨[10, 11], []⟩
noncomputable def f45o5 : Array Oper := cO (cL (cL (cR (cL (cL (cR (cL (cR (cR (cB Go.Proofs.Try.f45))))))))))
def f45a5 : RAnn := ⟨[9, 12, 13, 14, 15, 16, 17], [(0, { tk := [3], keep := [0] }), (5, { tk := [12], keep := [0] }), (6, { tk := [17], keep := [0] })]⟩
noncomputable def f45o6 : Array Oper := cO (cL (cL (cR (cR (cR (cB Go.Proofs.Try.f45))))))
def f45a6 : RAnn := ⟨[4, 9], []⟩
noncomputable def f45o7 : Array Oper := cO (cL (cL (cL (cL (cR (cL (cR (cR (cR (cB Go.Proofs.Try.f45))))))))))
def f45a7 : RAnn := ⟨[18, 19, 20, 21], []⟩
noncomputable def f45o8 : Array Oper := cO (cR (cR (cL (cL (cR (cL (cR (cR (cR (cB Go.Proofs.Try.f45))))))))))
def f45a8 : RAnn := ⟨[23, 24], []⟩
noncomputable def f45o9 : Array Oper := cO (cL (cL (cR (cL (cL (cR (cL (cR (cR (cR (cB Go.Proofs.Try.f45)))))))))))
def f45a9 : RAnn := ⟨[22, 25, 26, 27, 28, 29, 30, 31, 32, 33, 34, 35, 36, 37, 38, 39, 40, 41, 42, 43, 44], [(19, { keep := [0] }), (20, { tk := [44], keep := [0], eff := true })]⟩
noncomputable def f45o10 : Array Oper := cO (cL (cR (cR (cR (cR (cB Go.Proofs.Try.f45))))))
def f45a10 : RAnn := ⟨[1, 3, 5, 22, 45], []⟩
def f45b0 : Code := (.seq (.seq (.region 3 f45o3 false) (.cond (.tmp 9) .skip (.exit 0))) (.seq (.block 1 (.region 5 f45o5 false)) (.region 4 f45o4 false)))
def f45b1 : Code := (.seq (.seq (.region 7 f45o7 false) (.cond (.tmp 22) .skip (.exit 2))) (.seq (.block 3 (.region 9 f45o9 true)) (.region 8 f45o8 false)))
def f45c : Code := (.seq (.region 0 f45o0 false) (.seq (.region 1 f45o1 false) (.seq (.seq (.region 2 f45o2 false) (.block 0 (.loop f45b0))) (.seq (.seq (.region 6 f45o6 false) (.block 2 (.loop f45b1))) (.seq (.region 10 f45o10 false) .ret)))))
def f45n : List (Nat × RAnn) := [(0, f45a0), (1, f45a1), (2, f45a2), (3, f45a3), (4, f45a4), (5, f45a5), (6, f45a6), (7, f45a7), (8, f45a8), (9, f45a9), (10, f45a10), (200002, { kill := [3] })]
noncomputable def f37o0 : Array Oper := cO (cL (cB Go.Proofs.Try.f37))
def f37a0 : RAnn := ⟨[0, 4], []⟩
noncomputable def f37o1 : Array Oper := cO (cL (cR (cB Go.Proofs.Try.f37)))
def f37a1 : RAnn := ⟨[9, 10], []⟩
noncomputable def f37o2 : Array Oper := cO (cL (cL (cR (cR (cB Go.Proofs.Try.f37)))))
def f37a2 : RAnn := ⟨[], []⟩
noncomputable def f37o3 : Array Oper := cO (cL (cL (cL (cL (cR (cL (cR (cR (cB Go.Proofs.Try.f37)))))))))
def f37a3 : RAnn := ⟨[11, 12, 13, 14], []⟩
noncomputable def f37o4 : Array Oper := cO (cR (cR (cL (cL (cR (cL (cR (cR (cB Go.Proofs.Try.f37)))))))))
def f37a4 : RAnn := ⟨[16, 17], []⟩
noncomputable def f37o5 : Array Oper := cO (cL (cL (cL (cR (cL (cL (cR (cL (cR (cR (cB Go.Proofs.Try.f37)))))))))))
def f37a5 : RAnn := ⟨[15, 18, 19, 20, 21, 22], []⟩
noncomputable def f37o6 : Array Oper := cO (cL (cR (cL (cL (cR (cL (cL (cR (cL (cR (cR (cB Go.Proofs.Try.f37))))))))))))
def f37a6 : RAnn := ⟨[], []⟩
noncomputable def f37o7 : Array Oper := cO (cL (cL (cR (cR (cL (cL (cR (cL (cL (cR (cL (cR (cR (cB Go.Proofs.Try.f37))))))))))))))
def f37a7 : RAnn := ⟨[23, 24], []⟩
noncomputable def f37o8 : Array Oper := cO (cL (cR (cL (cR (cR (cL (cL (cR (cL (cL (cR (cL (cR (cR (cB Go.Proofs.Try.f37)))))))))))))))
def f37a8 : RAnn := ⟨[25, 26, 27, 28, 29, 30], []⟩
noncomputable def f37o9 : Array Oper := cO (cR (cR (cR (cL (cL (cR (cL (cL (cR (cL (cR (cR (cB Go.Proofs.Try.f37)))))))))))))
def f37a9 : RAnn := ⟨[7, 8, 25, 31, 32, 33, 34, 35, 36, 37, 38, 39, 40, 41, 42], [(12, { eff := true })]⟩
noncomputable def f37o10 : Array Oper := cO (cL (cR (cR (cR (cB Go.Proofs.Try.f37)))))
def f37a10 : RAnn := ⟨[1, 2, 5, 6, 15, 43], []⟩
def f37b0 : Code := (.seq (.seq (.region 3 f37o3 false) (.cond (.tmp 15) .skip (.exit 0))) (.seq (.block 1 (.seq (.region 5 f37o5 false) (.seq (.region 6 f37o6 false) (.seq (.seq (.region 7 f37o7 false) (.cond (.tmp 25) (.region 8 f37o8 false) .skip)) (.region 9 f37o9 true))))) (.region 4 f37o4 false)))
def f37c : Code := (.seq (.region 0 f37o0 false) (.seq (.region 1 f37o1 false) (.seq (.seq (.region 2 f37o2 false) (.block 0 (.loop f37b0))) (.seq (.region 10 f37o10 false) .ret))))
def f37n : List (Nat × RAnn) := [(0, f37a0), (1, f37a1), (2, f37a2), (3, f37a3), (4, f37a4), (5, f37a5), (6, f37a6), (7, f37a7), (8, f37a8), (9, f37a9), (10, f37a10)]
noncomputable def f33o0 : Array Oper := cO (cL (cB Go.Proofs.Try.f33))
def f33a0 : RAnn := ⟨[0, 4, 5], []⟩
noncomputable def f33o1 : Array Oper := cO (cL (cL (cL (cR (cB Go.Proofs.Try.f33)))))
def f33a1 : RAnn := ⟨[12, 13, 14], []⟩
noncomputable def f33o2 : Array Oper := cO (cL (cL (cR (cL (cL (cR (cB Go.Proofs.Try.f33)))))))
def f33a2 : RAnn := ⟨[1, 2, 11], []⟩
noncomputable def f33o3 : Array Oper := cO (cL (cR (cR (cL (cL (cR (cB Go.Proofs.Try.f33)))))))
def f33a3 : RAnn := ⟨[11, 16, 17, 18, 19], []⟩
noncomputable def f33o4 : Array Oper := cO (cL (cL (cR (cR (cR (cL (cL (cR (cB Go.Proofs.Try.f33)))))))))
def f33a4 : RAnn := ⟨[1, 2, 15], []⟩
noncomputable def f33o5 : Array Oper := cO (cL (cR (cR (cB Go.Proofs.Try.f33))))
def f33a5 : RAnn := ⟨[15], []⟩
noncomputable def f33o6 : Array Oper := cO (cL (cL (cR (cR (cR (cB Go.Proofs.Try.f33))))))
def f33a6 : RAnn := ⟨[], []⟩
noncomputable def f33o7 : Array Oper := cO (cL (cL (cL (cL (cR (cL (cR (cR (cR (cB Go.Proofs.Try.f33))))))))))
def f33a7 : RAnn := ⟨[20, 21, 22, 23], []⟩
noncomputable def f33o8 : Array Oper := cO (cR (cR (cL (cL (cR (cL (cR (cR (cR (cB Go.Proofs.Try.f33))))))))))
def f33a8 : RAnn := ⟨[25, 26, 33], []⟩
noncomputable def f33o9 : Array Oper := cO (cL (cL (cL (cR (cL (cL (cR (cL (cR (cR (cR (cB Go.Proofs.Try.f33))))))))))))
def f33a9 : RAnn := ⟨[24, 27, 28, 29, 30, 31, 32], []⟩
noncomputable def f33o10 : Array Oper := cO (cL (cR (cL (cL (cR (cL (cL (cR (cL (cR (cR (cR (cB Go.Proofs.Try.f33)))))))))))))
def f33a10 : RAnn := ⟨[33, 34], []⟩
noncomputable def f33o11 : Array Oper := cO (cL (cL (cR (cR (cR (cR (cB Go.Proofs.Try.f33)))))))
def f33a11 : RAnn := ⟨[7, 24, 35], []⟩
noncomputable def f33o12 : Array Oper := cO (cL (cL (cR (cL (cR (cR (cR (cR (cB Go.Proofs.Try.f33)))))))))
def f33a12 : RAnn := ⟨[1, 2, 6, 36], []⟩
noncomputable def f33o13 : Array Oper := cO (cL (cR (cR (cR (cR (cR (cB Go.Proofs.Try.f33)))))))
def f33a13 : RAnn := ⟨[36], [(0, { site := true })]⟩
noncomputable def f33o14 : Array Oper := cO (cL (cR (cR (cR (cR (cR (cR (cB Go.Proofs.Try.f33))))))))
def f33a14 : RAnn := ⟨[37, 38, 39], []⟩
noncomputable def f33o15 : Array Oper := cO (cL (cL (cL (cL (cR (cR (cR (cR (cR (cR (cR (cB Go.Proofs.Try.f33))))))))))))
def f33a15 : RAnn := ⟨[40, 41, 42, 43, 44, 45, 46, 47, 48], []⟩
noncomputable def f33o16 : Array Oper := cO (cL (cR (cL (cL (cL (cR (cR (cR (cR (cR (cR (cR (cB Go.Proofs.Try.f33)))))))))))))
def f33a16 : RAnn := ⟨[49, 50, 51, 52, 53, 54, 55, 56, 57, 58, 59, 60], [(0, { noio := true }), (1, { noio := true }), (2, { noio := true }), (3, { noio := true }), (4, { noio := true }), (5, { keep := [0], noio := true }), (6, { noio := true }), (7, { noio := true }), (8, { tk := [54], noio := true }), (9, { noio := true }), (10, { noio := true })]⟩
noncomputable def f33o17 : Array Oper := cO (cL (cR (cR (cL (cL (cL (cR (cR (cR (cR (cR (cR (cR (cB Go.Proofs.Try.f33))))))))))))))
def f33a17 : RAnn := ⟨[10, 61, 62, 63], []⟩
noncomputable def f33o18 : Array Oper := cO (cL (cR (cR (cR (cL (cL (cL (cR (cR (cR (cR (cR (cR (cR (cB Go.Proofs.Try.f33)))))))))))))))
def f33a18 : RAnn := ⟨[64], []⟩
noncomputable def f33o19 : Array Oper := cO (cL (cL (cR (cR (cR (cR (cL (cL (cL (cR (cR (cR (cR (cR (cR (cR (cB Go.Proofs.Try.f33)))))))))))))))))
def f33a19 : RAnn := ⟨[1, 2, 6, 8, 9, 66], [(1, { close := true })]⟩
def f33b0 : Code := (.seq (.seq (.region 7 f33o7 false) (.cond (.tmp 24) .skip (.exit 1))) (.seq (.block 2 (.seq (.region 9 f33o9 false) (.cond (.tmp 33) (.region 10 f33o10 false) .skip))) (.region 8 f33o8 false)))
def f33b1 : Code := (.block 4 (.seq (.region 15 f33o15 false) (.seq (.region 16 f33o16 true) (.seq (.region 17 f33o17 false) (.seq (.region 18 f33o18 false) (.cond (.tmp 65) (.seq (.region 19 f33o19 false) .ret) .skip))))))
def f33c : Code := (.seq (.region 0 f33o0 false) (.seq (.block 0 (.seq (.region 1 f33o1 false) (.cond (.tmp 11) (.seq (.region 2 f33o2 false) .ret) (.seq (.region 3 f33o3 false) (.cond (.tmp 15) (.seq (.region 4 f33o4 false) .ret) .skip))))) (.seq (.region 5 f33o5 false) (.seq (.seq (.region 6 f33o6 false) (.block 1 (.loop f33b0))) (.seq (.seq (.region 11 f33o11 false) (.cond (.tmp 36) (.seq (.region 12 f33o12 false) .ret) .skip)) (.seq (.region 13 f33o13 false) (.seq (.region 14 f33o14 false) (.block 3 (.loop f33b1)))))))))
def f33n : List (Nat × RAnn) := [(0, f33a0), (1, f33a1), (2, f33a2), (3, f33a3), (4, f33a4), (5, f33a5), (6, f33a6), (7, f33a7), (8, f33a8), (9, f33a9), (10, f33a10), (11, f33a11), (12, f33a12), (13, f33a13), (14, f33a14), (15, f33a15), (16, f33a16), (17, f33a17), (18, f33a18), (19, f33a19), (100065, {})]
noncomputable def f44o0 : Array Oper := cO (cL (cB Go.Proofs.Try.f44))
def f44a0 : RAnn := ⟨[4], []⟩
noncomputable def f44o1 : Array Oper := cO (cL (cL (cR (cB Go.Proofs.Try.f44))))
def f44a1 : RAnn := ⟨[6, 7, 8, 9], []⟩
noncomputable def f44o2 : Array Oper := cO (cL (cL (cR (cL (cR (cB Go.Proofs.Try.f44))))))
def f44a2 : RAnn := ⟨[0, 1, 10], []⟩
noncomputable def f44o3 : Array Oper := cO (cL (cL (cR (cR (cB Go.Proofs.Try.f44)))))
def f44a3 : RAnn := ⟨[10, 11], []⟩
noncomputable def f44o4 : Array Oper := cO (cL (cL (cL (cR (cL (cR (cR (cB Go.Proofs.Try.f44))))))))
def f44a4 : RAnn := ⟨[], []⟩
noncomputable def f44o5 : Array Oper := cO (cL (cL (cL (cR (cR (cL (cL (cR (cL (cR (cR (cB Go.Proofs.Try.f44))))))))))))
def f44a5 : RAnn := ⟨[14, 15], []⟩
noncomputable def f44o6 : Array Oper := cO (cL (cR (cL (cL (cR (cR (cL (cL (cR (cL (cR (cR (cB Go.Proofs.Try.f44)))))))))))))
def f44a6 : RAnn := ⟨[5, 16, 17, 18, 19, 20, 21, 22, 23], []⟩
noncomputable def f44o7 : Array Oper := cO (cL (cL (cR (cR (cL (cL (cR (cR (cL (cL (cR (cL (cR (cR (cB Go.Proofs.Try.f44)))))))))))))))
def f44a7 : RAnn := ⟨[0, 1, 12, 13, 24], []⟩
noncomputable def f44o8 : Array Oper := cO (cR (cR (cR (cL (cL (cR (cL (cR (cR (cB Go.Proofs.Try.f44))))))))))
def f44a8 : RAnn := ⟨[24, 25], []⟩
noncomputable def f44o9 : Array Oper := cO (cL (cR (cR (cR (cB Go.Proofs.Try.f44)))))
def f44a9 : RAnn := ⟨[0, 1, 12, 13, 14], []⟩
def f44b0 : Code := (.seq (.region 4 f44o4 false) (.seq (.cond (.tmp 14) .skip (.exit 0)) (.seq (.block 1 (.seq (.region 5 f44o5 false) (.seq (.region 6 f44o6 true) (.cond (.tmp 24) (.seq (.region 7 f44o7 false) .ret) .skip)))) (.region 8 f44o8 false))))
def f44c : Code := (.seq (.region 0 f44o0 false) (.seq (.seq (.region 1 f44o1 false) (.cond (.tmp 10) (.seq (.region 2 f44o2 false) .ret) .skip)) (.seq (.seq (.region 3 f44o3 false) (.block 0 (.loop f44b0))) (.seq (.region 9 f44o9 false) .ret))))
def f44n : List (Nat × RAnn) := [(0, f44a0), (1, f44a1), (2, f44a2), (3, f44a3), (4, f44a4), (5, f44a5), (6, f44a6), (7, f44a7), (8, f44a8), (9, f44a9)]
noncomputable def f16o0 : Array Oper := cO (cL (cB Go.Proofs.Try.f16))
def f16a0 : RAnn := ⟨[0, 4, 5], []⟩
noncomputable def f16o1 : Array Oper := cO (cL (cL (cR (cB Go.Proofs.Try.f16))))
def f16a1 : RAnn := ⟨[11, 12], []⟩
noncomputable def f16o2 : Array Oper := cO (cL (cL (cR (cL (cR (cB Go.Proofs.Try.f16))))))
def f16a2 : RAnn := ⟨[1, 2, 13], []⟩
noncomputable def f16o3 : Array Oper := cO (cL (cL (cR (cR (cB Go.Proofs.Try.f16)))))
def f16a3 : RAnn := ⟨[13, 14, 15, 16], []⟩
noncomputable def f16o4 : Array Oper := cO (cL (cL (cR (cL (cR (cR (cB Go.Proofs.Try.f16)))))))
def f16a4 : RAnn := ⟨[1, 2, 17], []⟩
noncomputable def f16o5 : Array Oper := cO (cL (cR (cR (cR (cB Go.Proofs.Try.f16)))))
def f16a5 : RAnn := ⟨[6, 17, 18, 19, 20, 21, 22], []⟩
noncomputable def f16o6 : Array Oper := cO (cL (cR (cR (cR (cR (cB Go.Proofs.Try.f16))))))
def f16a6 : RAnn := ⟨[7, 23, 24, 25, 26], []⟩
noncomputable def f16o7 : Array Oper := cO (cL (cL (cR (cR (cR (cR (cR (cB Go.Proofs.Try.f16))))))))
def f16a7 : RAnn := ⟨[2, 27], []⟩
noncomputable def f16o8 : Array Oper := cO (cL (cL (cL (cR (cL (cR (cR (cR (cR (cR (cB Go.Proofs.Try.f16)))))))))))
def f16a8 : RAnn := ⟨[], []⟩
noncomputable def f16o9 : Array Oper := cO (cL (cL (cL (cR (cR (cL (cL (cR (cL (cR (cR (cR (cR (cR (cB Go.Proofs.Try.f16)))))))))))))))
def f16a9 : RAnn := ⟨[31, 32, 33], []⟩
noncomputable def f16o10 : Array Oper := cO (cR (cL (cL (cR (cR (cL (cL (cR (cL (cR (cR (cR (cR (cR (cB Go.Proofs.Try.f16)))))))))))))))
def f16a10 : RAnn := ⟨[10, 34, 35, 36, 37, 38, 39, 40, 41, 42, 43, 44, 45, 46, 47, 48, 49, 50, 51, 52], [(19, { eff := true })]⟩
noncomputable def f16o11 : Array Oper := cO (cR (cR (cR (cL (cL (cR (cL (cR (cR (cR (cR (cR (cB Go.Proofs.Try.f16)))))))))))))
def f16a11 : RAnn := ⟨[53], []⟩
noncomputable def f16o12 : Array Oper := cO (cL (cR (cR (cR (cR (cR (cR (cB Go.Proofs.Try.f16))))))))
def f16a12 : RAnn := ⟨[1, 8, 28, 29, 30, 31, 54, 55, 56], []⟩
def f16b0 : Code := (.seq (.region 8 f16o8 false) (.seq (.cond (.tmp 31) .skip (.exit 0)) (.seq (.block 1 (.seq (.region 9 f16o9 false) (.region 10 f16o10 true))) (.region 11 f16o11 false))))
def f16c : Code := (.seq (.region 0 f16o0 false) (.seq (.seq (.region 1 f16o1 false) (.cond (.tmp 13) (.seq (.region 2 f16o2 false) .ret) .skip)) (.seq (.seq (.region 3 f16o3 false) (.cond (.tmp 17) (.seq (.region 4 f16o4 false) .ret) .skip)) (.seq (.region 5 f16o5 false) (.seq (.region 6 f16o6 true) (.seq (.seq (.region 7 f16o7 false) (.block 0 (.loop f16b0))) (.seq (.region 12 f16o12 false) .ret)))))))
def f16n : List (Nat × RAnn) := [(0, f16a0), (1, f16a1), (2, f16a2), (3, f16a3), (4, f16a4), (5, f16a5), (6, f16a6), (7, f16a7), (8, f16a8), (9, f16a9), (10, f16a10), (11, f16a11), (12, f16a12)]
noncomputable def f6o0 : Array Oper := cO (cL (cB Go.Proofs.Try.f6))
def f6a0 : RAnn := ⟨[0, 4], []⟩
noncomputable def f6o1 : Array Oper := cO (cL (cL (cR (cB Go.Proofs.Try.f6))))
def f6a1 : RAnn := ⟨[12, 13, 14, 15, 16], []⟩
noncomputable def f6o2 : Array Oper := cO (cL (cL (cR (cL (cR (cB Go.Proofs.Try.f6))))))
def f6a2 : RAnn := ⟨[1, 2, 17, 18], []⟩
noncomputable def f6o3 : Array Oper := cO (cL (cR (cR (cB Go.Proofs.Try.f6))))
def f6a3 : RAnn := ⟨[17, 19, 20, 21, 22, 23, 24], []⟩
noncomputable def f6o4 : Array Oper := cO (cL (cR (cR (cR (cB Go.Proofs.Try.f6)))))
def f6a4 : RAnn := ⟨[1, 25, 26, 27, 28, 29, 30], []⟩
noncomputable def f6o5 : Array Oper := cO (cL (cL (cR (cR (cR (cR (cB Go.Proofs.Try.f6)))))))
def f6a5 : RAnn := ⟨[6, 8, 31, 32, 33, 34, 35, 36, 37, 38, 39], []⟩
noncomputable def f6o6 : Array Oper := cO (cL (cL (cR (cL (cR (cR (cR (cR (cB Go.Proofs.Try.f6)))))))))
def f6a6 : RAnn := ⟨[2, 5, 7, 40], []⟩
noncomputable def f6o7 : Array Oper := cO (cL (cL (cR (cR (cR (cR (cR (cB Go.Proofs.Try.f6))))))))
def f6a7 : RAnn := ⟨[40], []⟩
noncomputable def f6o8 : Array Oper := cO (cL (cL (cL (cL (cR (cL (cR (cR (cR (cR (cR (cB Go.Proofs.Try.f6))))))))))))
def f6a8 : RAnn := ⟨[41, 42, 43], []⟩
noncomputable def f6o9 : Array Oper := cO (cR (cR (cL (cL (cR (cL (cR (cR (cR (cR (cR (cB Go.Proofs.Try.f6))))))))))))
def f6a9 : RAnn := ⟨[45, 46, 71], []⟩
noncomputable def f6o10 : Array Oper := cO (cL (cL (cL (cL (cR (cL (cL (cR (cL (cR (cR (cR (cR (cR (cB Go.Proofs.Try.f6)))))))))))))))
def f6a10 : RAnn := ⟨[44, 47, 48, 49, 50, 51, 52, 53, 54, 55], []⟩
noncomputable def f6o11 : Array Oper := cO (cL (cL (cR (cL (cL (cL (cR (cL (cL (cR (cL (cR (cR (cR (cR (cR (cB Go.Proofs.Try.f6)))))))))))))))))
def f6a11 : RAnn := ⟨[2, 5, 7, 9, 56], []⟩
noncomputable def f6o12 : Array Oper := cO (cL (cR (cL (cL (cR (cL (cL (cR (cL (cR (cR (cR (cR (cR (cB Go.Proofs.Try.f6)))))))))))))))
def f6a12 : RAnn := ⟨[56, 57, 58, 59, 60, 61, 62, 63, 64, 65], []⟩
noncomputable def f6o13 : Array Oper := cO (cL (cR (cR (cL (cL (cR (cL (cL (cR (cL (cR (cR (cR (cR (cR (cB Go.Proofs.Try.f6))))))))))))))))
def f6a13 : RAnn := ⟨[10, 11, 66, 67, 68, 69, 70], []⟩
noncomputable def f6o14 : Array Oper := cO (cL (cL (cR (cR (cR (cL (cL (cR (cL (cL (cR (cL (cR (cR (cR (cR (cR (cB Go.Proofs.Try.f6))))))))))))))))))
def f6a14 : RAnn := ⟨[2, 5, 7, 9, 71], []⟩
noncomputable def f6o15 : Array Oper := cO (cL (cR (cR (cR (cR (cR (cR (cB Go.Proofs.Try.f6))))))))
def f6a15 : RAnn := ⟨[2, 5, 7, 9, 44, 72], []⟩
def f6b0 : Code := (.seq (.seq (.region 8 f6o8 false) (.cond (.tmp 44) .skip (.exit 0))) (.seq (.block 1 (.seq (.seq (.region 10 f6o10 true) (.cond (.tmp 56) (.seq (.region 11 f6o11 false) .ret) .skip)) (.seq (.region 12 f6o12 true) (.seq (.region 13 f6o13 false) (.cond (.tmp 71) (.seq (.region 14 f6o14 false) .ret) .skip))))) (.region 9 f6o9 false)))
def f6c : Code := (.seq (.region 0 f6o0 false) (.seq (.seq (.region 1 f6o1 false) (.cond (.tmp 17) (.seq (.region 2 f6o2 false) .ret) .skip)) (.seq (.region 3 f6o3 false) (.seq (.region 4 f6o4 false) (.seq (.seq (.region 5 f6o5 false) (.cond (.tmp 40) (.seq (.region 6 f6o6 false) .ret) .skip)) (.seq (.seq (.region 7 f6o7 false) (.block 0 (.loop f6b0))) (.seq (.region 15 f6o15 false) .ret)))))))
def f6n : List (Nat × RAnn) := [(0, f6a0), (1, f6a1), (2, f6a2), (3, f6a3), (4, f6a4), (5, f6a5), (6, f6a6), (7, f6a7), (8, f6a8), (9, f6a9), (10, f6a10), (11, f6a11), (12, f6a12), (13, f6a13), (14, f6a14), (15, f6a15)]
def ANNS : List (Nat × FAnn) := [(6, ⟨f6n, [], []⟩), (8, ⟨f8n, [], []⟩), (9, ⟨f9n, [], []⟩), (10, ⟨f10n, [], []⟩), (11, ⟨f11n, [], []⟩), (13, ⟨f13n, [], []⟩), (14, ⟨f14n, [], []⟩), (16, ⟨f16n, [], []⟩), (24, ⟨f24n, [], []⟩), (25, ⟨f25n, [], []⟩), (32, ⟨f32n, [], []⟩), (33, ⟨f33n, [], []⟩), (34, ⟨f34n, [], []⟩), (35, ⟨f35n, [], []⟩), (36, ⟨f36n, [], []⟩), (37, ⟨f37n, [], []⟩), (38, ⟨f38n, [], []⟩), (39, ⟨f39n, [], []⟩), (41, ⟨f41n, [], []⟩), (42, ⟨f42n, [], []⟩), (43, ⟨f43n, [], []⟩), (44, ⟨f44n, [], []⟩), (45, ⟨f45n, [], []⟩), (48, ⟨f48n, [], []⟩), (49, ⟨f49n, [], []⟩), (50, ⟨f50n, [], []⟩), (51, ⟨f51n, [], []⟩), (52, ⟨f52n, [], []⟩), (53, ⟨f53n, [], []⟩), (54, ⟨f54n, [], []⟩), (55, ⟨f55n, [], []⟩), (56, ⟨f56n, [], []⟩), (57, ⟨f57n, [], []⟩), (58, ⟨f58n, [], []⟩), (61, ⟨f61n, [], []⟩), (63, ⟨f63n, [], []⟩), (64, ⟨f64n, [], [(0, 2)]⟩), (65, ⟨f65v10n, [], []⟩), (66, ⟨f66n, [], []⟩), (69, ⟨f69n, [], []⟩), (71, ⟨f71n, [], []⟩), (72, ⟨f72n, [], []⟩), (73, ⟨f73n, [], []⟩), (74, ⟨f74n, [], []⟩), (75, ⟨f75n, [], []⟩), (76, ⟨f76n, [], []⟩), (77, ⟨f77n, [], []⟩), (78, ⟨f78v10n, [], []⟩)]
def anns : FuncId → FAnn := fun f => (look f ANNS).getD {}
def ext : ExtH := fun f args => bif Nat.beq f 68 then some (extStrRep args) else bif Nat.beq f 67 then some (extSlRep args) else bif Nat.beq f 64 && emptyArg args then some none else none
noncomputable abbrev EV (k : Nat) : CallH := evF prog anns ext k
noncomputable abbrev RE (k : Nat) (a : RAnn) (o : Array Oper) (d : Bool) (s : St) : Option St := regionE prog (EV k) a o d s
abbrev I (n : Int) : V := .int .i64 n
abbrev sMark (l : List T_api_Mark) : V := .sl 0 3 (List.map enc_T_api_Mark l)
abbrev sSlot (l : List T_api_Slot) : V := .sl 0 7 (List.map enc_T_api_Slot l)
abbrev spart (l : List T_screen_part) : V := .sl 0 3 (List.map enc_T_screen_part l)
abbrev sspan (l : List T_progenyref24_span) : V := .sl 0 3 (List.map enc_T_progenyref24_span l)
def law24_Large_fin : Bool → V × List V := fun r => ((V.bool r), [])
theorem f8r0 (k : Nat) (a0 : T_api_Form) : RE k f8a0 f8o0 false ⟨[(0, (enc_T_api_Form a0))], [], 45⟩ = some ⟨[(1, (V.ptr 1 0 0))], [(1, ⟨false, 4, [(enc_T_api_Form a0)]⟩)], 45⟩ :=
  rE rfl
theorem f8r1 (k : Nat) (a0 : T_api_Form) : RE k f8a1 f8o1 false ⟨[(1, (V.ptr 1 0 0))], [(1, ⟨false, 4, [(enc_T_api_Form a0)]⟩)], 45⟩ = ((bif (decide ((a0.fMarks.length : Int) > 20)) then (some (true)) else (some ((decide ((a0.fFields.length : Int) > 20)))))).map (fun (o : Bool) => (⟨[(1, (V.ptr 1 0 0)), (14, (V.bool o))], [(1, ⟨false, 4, [(enc_T_api_Form a0)]⟩)], 45⟩ : St)) := by
  refine rg ?_
  refine ra 2 2 ⟨[(1, (V.ptr 1 0 0)), (5, (V.ptr 1 0 2)), (6, (sMark (a0.fMarks)))], [(1, ⟨false, 4, [(enc_T_api_Form a0)]⟩)], 45⟩ rfl rfl rfl ?_
  refine Eq.trans (reg_pure (x := some ()) (w := fun _ => (I (a0.fMarks.length : Int))) rfl rfl rfl rfl (p_len (e := enc_T_api_Mark) rfl rfl rfl rfl rfl rfl Go.Proofs.Try.underlying22)) ?_
  refine Eq.trans some_bind ?_
  refine ba 2 5 ⟨[(1, (V.ptr 1 0 0)), (5, (V.ptr 1 0 2)), (6, (sMark (a0.fMarks))), (7, (I (a0.fMarks.length : Int))), (8, (V.bool (decide ((a0.fMarks.length : Int) > 20)))), (9, (V.bool (decide ((a0.fMarks.length : Int) > 20))))], [(1, ⟨false, 4, [(enc_T_api_Form a0)]⟩)], 45⟩ rfl rfl rfl ?_
  refine bifE (c := (decide ((a0.fMarks.length : Int) > 20))) (fun hc => ?_) fun hc => ?_
  · rw [hc]
    exact reg_end rfl
  · rw [hc]
    refine ra 2 7 ⟨[(1, (V.ptr 1 0 0)), (5, (V.ptr 1 0 2)), (6, (sMark (a0.fMarks))), (7, (I (a0.fMarks.length : Int))), (8, (V.bool false)), (9, (V.bool false)), (10, (V.ptr 1 0 3)), (11, (sSlot (a0.fFields)))], [(1, ⟨false, 4, [(enc_T_api_Form a0)]⟩)], 45⟩ rfl rfl rfl ?_
    refine Eq.trans (reg_pure (x := some ()) (w := fun _ => (I (a0.fFields.length : Int))) rfl rfl rfl rfl (p_len (e := enc_T_api_Slot) rfl rfl rfl rfl rfl rfl Go.Proofs.Try.underlying23)) ?_
    refine Eq.trans some_bind ?_
    exact bind_end rfl
theorem f8r2 (k : Nat) (a0 : T_api_Form) : RE k f8a2 f8o2 false ⟨[(1, (V.ptr 1 0 0)), (14, (V.bool true))], [(1, ⟨false, 4, [(enc_T_api_Form a0)]⟩)], 45⟩ = some ⟨[(2, (V.bool true))], [], 45⟩ :=
  rE rfl
theorem f8r3 (k : Nat) (a0 : T_api_Form) : RE k f8a3 f8o3 false ⟨[(1, (V.ptr 1 0 0)), (14, (V.bool false))], [(1, ⟨false, 4, [(enc_T_api_Form a0)]⟩)], 45⟩ = some ⟨[(1, (V.ptr 1 0 0)), (3, (I 0))], [(1, ⟨false, 4, [(enc_T_api_Form a0)]⟩)], 45⟩ :=
  rE rfl
theorem f8r4 (k : Nat) (a0 : T_api_Form) (x4 : Int) : RE k f8a4 f8o4 false ⟨[(1, (V.ptr 1 0 0)), (3, (I x4))], [(1, ⟨false, 4, [(enc_T_api_Form a0)]⟩)], 45⟩ = some ⟨[(1, (V.ptr 1 0 0)), (3, (I x4)), (19, (V.bool (decide (x4 < (a0.fMarks.length : Int)))))], [(1, ⟨false, 4, [(enc_T_api_Form a0)]⟩)], 45⟩ := by
  refine rg ?_
  refine ra 3 3 ⟨[(1, (V.ptr 1 0 0)), (3, (I x4)), (15, (I x4)), (16, (V.ptr 1 0 2)), (17, (sMark (a0.fMarks)))], [(1, ⟨false, 4, [(enc_T_api_Form a0)]⟩)], 45⟩ rfl rfl rfl ?_
  refine Eq.trans (reg_pure (x := some ()) (w := fun _ => (I (a0.fMarks.length : Int))) rfl rfl rfl rfl (p_len (e := enc_T_api_Mark) rfl rfl rfl rfl rfl rfl Go.Proofs.Try.underlying22)) ?_
  refine Eq.trans some_bind ?_
  exact bind_end rfl
theorem f8r6 (k : Nat) (a0 : T_api_Form) (x4 : Int) : RE k f8a6 f8o6 false ⟨[(1, (V.ptr 1 0 0)), (3, (I x4)), (19, (V.bool true))], [(1, ⟨false, 4, [(enc_T_api_Form a0)]⟩)], 45⟩ = (((idx a0.fMarks x4).bind fun v5 => (some ((decide ((v5.fText.length : Int) > 100)))))).map (fun (o : Bool) => (⟨[(1, (V.ptr 1 0 0)), (3, (I x4)), (29, (V.bool o))], [(1, ⟨false, 4, [(enc_T_api_Form a0)]⟩)], 45⟩ : St)) := by
  refine rg ?_
  refine ra 3 3 ⟨[(1, (V.ptr 1 0 0)), (3, (I x4)), (19, (V.bool true)), (22, (V.ptr 1 0 2)), (23, (sMark (a0.fMarks))), (24, (I x4))], [(1, ⟨false, 4, [(enc_T_api_Form a0)]⟩)], 45⟩ rfl rfl rfl ?_
  refine Eq.trans (reg_pure (x := (idx a0.fMarks x4)) (w := fun v5 => (V.pro (enc_T_api_Mark v5))) rfl rfl rfl rfl (p_index (e := enc_T_api_Mark) rfl rfl rfl Go.Proofs.Try.underlying22 rfl (by decide))) ?_
  refine bindE (fun v5 => ?_)
  exact bind_end rfl
theorem f8r7 (k : Nat) (a0 : T_api_Form) (x4 : Int) : RE k f8a7 f8o7 false ⟨[(1, (V.ptr 1 0 0)), (3, (I x4)), (29, (V.bool true))], [(1, ⟨false, 4, [(enc_T_api_Form a0)]⟩)], 45⟩ = some ⟨[(2, (V.bool true))], [], 45⟩ :=
  rE rfl
theorem f8r5 (k : Nat) (a0 : T_api_Form) (x4 : Int) : RE k f8a5 f8o5 false ⟨[(1, (V.ptr 1 0 0)), (3, (I x4)), (29, (V.bool false))], [(1, ⟨false, 4, [(enc_T_api_Form a0)]⟩)], 45⟩ = some ⟨[(1, (V.ptr 1 0 0)), (3, (I (Go.IntKind.wrap .i64 (x4 + 1))))], [(1, ⟨false, 4, [(enc_T_api_Form a0)]⟩)], 45⟩ :=
  rE rfl
theorem law24_Large_L1_ok (k : Nat) (a0 : T_api_Form)  (K0 : Int → Option Bool) (Kst : X × St → Option (V × List V)) (hK0 : ∀ (y0 : Int), Kst (X.exit 0, ⟨[(1, (V.ptr 1 0 0)), (3, (I y0)), (19, (V.bool false))], [(1, ⟨false, 4, [(enc_T_api_Form a0)]⟩)], 45⟩) = (K0 y0).map law24_Large_fin) (hret : ∀ s, Kst (X.ret, s) = endK prog 45 [(enc_T_api_Form a0)] [] [.tmp 2] (X.ret, s)) :
    ∀ (m : Nat) (x4 : Int), (iter (exec prog (EV k) f8n k f8b0) m ⟨[(1, (V.ptr 1 0 0)), (3, (I x4))], [(1, ⟨false, 4, [(enc_T_api_Form a0)]⟩)], 45⟩).bind Kst = (law24_Large_L1 a0 K0 m x4).map law24_Large_fin := by
  intro m
  induction m with
  | zero => intros; rfl
  | succ m ih =>
    intro x4
    unfold law24_Large_L1
    refine Eq.trans k_round ?_
    refine Eq.trans k_assoc ?_
    refine Eq.trans (k_region0 rfl (f8r4 k a0 x4)) ?_
    refine Eq.trans (k_cond (t := (decide (x4 < (a0.fMarks.length : Int)))) rfl rfl) ?_
    refine bifE2 (fun hc => ?_) fun hc => ?_
    · rw [hc]
      refine Eq.trans k_skip ?_
      refine Eq.trans (k_block rfl) ?_
      refine Eq.trans (k_region rfl (f8r6 k a0 x4)) ?_
      refine bindE (fun o6 => ?_)
      refine Eq.trans (k_lcond (t := o6) rfl rfl) ?_
      refine bifE2 (fun hc => ?_) fun hc => ?_
      · rw [hc]
        refine Eq.trans (k_region0 rfl (f8r7 k a0 x4)) ?_
        refine Eq.trans k_lret ?_
        refine Eq.trans blk_ret ?_
        refine Eq.trans loop_ret ?_
        refine Eq.trans (hret _) ?_
        rfl
      · rw [hc]
        refine Eq.trans k_lskip ?_
        refine Eq.trans blk_normal ?_
        refine Eq.trans (k_lregion0 rfl (f8r5 k a0 x4)) ?_
        refine Eq.trans loop_normal ?_
        exact ih (Go.IntKind.wrap .i64 (x4 + 1))
    · rw [hc]
      refine Eq.trans k_exit ?_
      refine Eq.trans loop_exit ?_
      exact hK0 x4
theorem f8r8 (k : Nat) (a0 : T_api_Form) (y7 : Int) : RE k f8a8 f8o8 false ⟨[(1, (V.ptr 1 0 0)), (3, (I y7)), (19, (V.bool false))], [(1, ⟨false, 4, [(enc_T_api_Form a0)]⟩)], 45⟩ = some ⟨[(1, (V.ptr 1 0 0)), (4, (I 0))], [(1, ⟨false, 4, [(enc_T_api_Form a0)]⟩)], 45⟩ :=
  rE rfl
theorem f8r9 (k : Nat) (a0 : T_api_Form) (x10 : Int) : RE k f8a9 f8o9 false ⟨[(1, (V.ptr 1 0 0)), (4, (I x10))], [(1, ⟨false, 4, [(enc_T_api_Form a0)]⟩)], 45⟩ = some ⟨[(1, (V.ptr 1 0 0)), (4, (I x10)), (34, (V.bool (decide (x10 < (a0.fFields.length : Int)))))], [(1, ⟨false, 4, [(enc_T_api_Form a0)]⟩)], 45⟩ := by
  refine rg ?_
  refine ra 3 3 ⟨[(1, (V.ptr 1 0 0)), (4, (I x10)), (30, (I x10)), (31, (V.ptr 1 0 3)), (32, (sSlot (a0.fFields)))], [(1, ⟨false, 4, [(enc_T_api_Form a0)]⟩)], 45⟩ rfl rfl rfl ?_
  refine Eq.trans (reg_pure (x := some ()) (w := fun _ => (I (a0.fFields.length : Int))) rfl rfl rfl rfl (p_len (e := enc_T_api_Slot) rfl rfl rfl rfl rfl rfl Go.Proofs.Try.underlying23)) ?_
  refine Eq.trans some_bind ?_
  exact bind_end rfl
theorem f8r11 (k : Nat) (a0 : T_api_Form) (x10 : Int) : RE k f8a11 f8o11 false ⟨[(1, (V.ptr 1 0 0)), (4, (I x10)), (34, (V.bool true))], [(1, ⟨false, 4, [(enc_T_api_Form a0)]⟩)], 45⟩ = (((idx a0.fFields x10).bind fun v11 => (some ((decide ((v11.fName.length : Int) > 100)))))).map (fun (o : Bool) => (⟨[(1, (V.ptr 1 0 0)), (4, (I x10)), (44, (V.bool o))], [(1, ⟨false, 4, [(enc_T_api_Form a0)]⟩)], 45⟩ : St)) := by
  refine rg ?_
  refine ra 3 3 ⟨[(1, (V.ptr 1 0 0)), (4, (I x10)), (34, (V.bool true)), (37, (V.ptr 1 0 3)), (38, (sSlot (a0.fFields))), (39, (I x10))], [(1, ⟨false, 4, [(enc_T_api_Form a0)]⟩)], 45⟩ rfl rfl rfl ?_
  refine Eq.trans (reg_pure (x := (idx a0.fFields x10)) (w := fun v11 => (V.pro (enc_T_api_Slot v11))) rfl rfl rfl rfl (p_index (e := enc_T_api_Slot) rfl rfl rfl Go.Proofs.Try.underlying23 rfl (by decide))) ?_
  refine bindE (fun v11 => ?_)
  exact bind_end rfl
theorem f8r12 (k : Nat) (a0 : T_api_Form) (x10 : Int) : RE k f8a12 f8o12 false ⟨[(1, (V.ptr 1 0 0)), (4, (I x10)), (44, (V.bool true))], [(1, ⟨false, 4, [(enc_T_api_Form a0)]⟩)], 45⟩ = some ⟨[(2, (V.bool true))], [], 45⟩ :=
  rE rfl
theorem f8r10 (k : Nat) (a0 : T_api_Form) (x10 : Int) : RE k f8a10 f8o10 false ⟨[(1, (V.ptr 1 0 0)), (4, (I x10)), (44, (V.bool false))], [(1, ⟨false, 4, [(enc_T_api_Form a0)]⟩)], 45⟩ = some ⟨[(1, (V.ptr 1 0 0)), (4, (I (Go.IntKind.wrap .i64 (x10 + 1))))], [(1, ⟨false, 4, [(enc_T_api_Form a0)]⟩)], 45⟩ :=
  rE rfl
theorem law24_Large_L2_ok (k : Nat) (a0 : T_api_Form)  (K0 : Int → Option Bool) (Kst : X × St → Option (V × List V)) (hK0 : ∀ (y0 : Int), Kst (X.exit 2, ⟨[(1, (V.ptr 1 0 0)), (4, (I y0)), (34, (V.bool false))], [(1, ⟨false, 4, [(enc_T_api_Form a0)]⟩)], 45⟩) = (K0 y0).map law24_Large_fin) (hret : ∀ s, Kst (X.ret, s) = endK prog 45 [(enc_T_api_Form a0)] [] [.tmp 2] (X.ret, s)) :
    ∀ (m : Nat) (x10 : Int), (iter (exec prog (EV k) f8n k f8b1) m ⟨[(1, (V.ptr 1 0 0)), (4, (I x10))], [(1, ⟨false, 4, [(enc_T_api_Form a0)]⟩)], 45⟩).bind Kst = (law24_Large_L2 a0 K0 m x10).map law24_Large_fin := by
  intro m
  induction m with
  | zero => intros; rfl
  | succ m ih =>
    intro x10
    unfold law24_Large_L2
    refine Eq.trans k_round ?_
    refine Eq.trans k_assoc ?_
    refine Eq.trans (k_region0 rfl (f8r9 k a0 x10)) ?_
    refine Eq.trans (k_cond (t := (decide (x10 < (a0.fFields.length : Int)))) rfl rfl) ?_
    refine bifE2 (fun hc => ?_) fun hc => ?_
    · rw [hc]
      refine Eq.trans k_skip ?_
      refine Eq.trans (k_block rfl) ?_
      refine Eq.trans (k_region rfl (f8r11 k a0 x10)) ?_
      refine bindE (fun o12 => ?_)
      refine Eq.trans (k_lcond (t := o12) rfl rfl) ?_
      refine bifE2 (fun hc => ?_) fun hc => ?_
      · rw [hc]
        refine Eq.trans (k_region0 rfl (f8r12 k a0 x10)) ?_
        refine Eq.trans k_lret ?_
        refine Eq.trans blk_ret ?_
        refine Eq.trans loop_ret ?_
        refine Eq.trans (hret _) ?_
        rfl
      · rw [hc]
        refine Eq.trans k_lskip ?_
        refine Eq.trans blk_normal ?_
        refine Eq.trans (k_lregion0 rfl (f8r10 k a0 x10)) ?_
        refine Eq.trans loop_normal ?_
        exact ih (Go.IntKind.wrap .i64 (x10 + 1))
    · rw [hc]
      refine Eq.trans k_exit ?_
      refine Eq.trans loop_exit ?_
      exact hK0 x10
theorem f8r13 (k : Nat) (a0 : T_api_Form) (y13 : Int) : RE k f8a13 f8o13 false ⟨[(1, (V.ptr 1 0 0)), (4, (I y13)), (34, (V.bool false))], [(1, ⟨false, 4, [(enc_T_api_Form a0)]⟩)], 45⟩ = some ⟨[(2, (V.bool false))], [], 45⟩ :=
  rE rfl
theorem law24_Large_ok (k : Nat) (a0 : T_api_Form) : EV k 8 [(enc_T_api_Form a0)] = (law24_Large k a0).map law24_Large_fin := by
  cases k with
  | zero => rfl
  | succ k =>
    unfold law24_Large
    refine Eq.trans (evF_succ (c := f8c) (N := 45) (regs := f8n) rfl Go.Proofs.Try.func8 rfl (by decide) rfl rfl rfl) ?_
    refine Eq.trans (k_region0 rfl (f8r0 k a0)) ?_
    refine Eq.trans k_assoc ?_
    refine Eq.trans (k_region rfl (f8r1 k a0)) ?_
    refine bindE (fun o1 => ?_)
    refine Eq.trans (k_cond (t := o1) rfl rfl) ?_
    refine bifE2 (fun hc => ?_) fun hc => ?_
    · rw [hc]
      refine Eq.trans k_assoc ?_
      refine Eq.trans (k_region0 rfl (f8r2 k a0)) ?_
      refine Eq.trans k_ret ?_
      rfl
    · rw [hc]
      refine Eq.trans k_skip ?_
      refine Eq.trans k_assoc ?_
      refine Eq.trans (k_region0 rfl (f8r3 k a0)) ?_
      refine Eq.trans (k_block rfl) ?_
      refine Eq.trans k_loop ?_
      refine law24_Large_L1_ok k a0 _ _ ?h_law24_Large_L1_0 ?hr_law24_Large_L1 k 0
      · intro y7
        refine Eq.trans blk_exit ?_
        refine Eq.trans k_assoc ?_
        refine Eq.trans (k_region0 rfl (f8r8 k a0 y7)) ?_
        refine Eq.trans (k_block rfl) ?_
        refine Eq.trans k_loop ?_
        refine law24_Large_L2_ok k a0 _ _ ?h_law24_Large_L2_0 ?hr_law24_Large_L2 k 0
        · intro y13
          refine Eq.trans blk_exit ?_
          refine Eq.trans (k_region0 rfl (f8r13 k a0 y13)) ?_
          refine Eq.trans k_lret ?_
          rfl
        · intro s; exact rfl
      · intro s; exact rfl
def law24_Long_fin : Bool → V × List V := fun r => ((V.bool r), [])
theorem f9r0 (k : Nat) (a0 : (List Str)) : RE k f9a0 f9o0 false ⟨[(0, (V.sl 0 1 (List.map V.str a0)))], [], 19⟩ = some ⟨[(0, (V.sl 0 1 (List.map V.str a0)))], [], 19⟩ :=
  rE rfl
theorem f9r1 (k : Nat) (a0 : (List Str)) : RE k f9a1 f9o1 false ⟨[(0, (V.sl 0 1 (List.map V.str a0)))], [], 19⟩ = some ⟨[(0, (V.sl 0 1 (List.map V.str a0))), (3, (I 0))], [], 19⟩ :=
  rE rfl
theorem f9r2 (k : Nat) (a0 : (List Str)) (x3 : Int) : RE k f9a2 f9o2 false ⟨[(0, (V.sl 0 1 (List.map V.str a0))), (3, (I x3))], [], 19⟩ = some ⟨[(0, (V.sl 0 1 (List.map V.str a0))), (3, (I x3)), (7, (V.bool (decide (x3 < (a0.length : Int)))))], [], 19⟩ := by
  refine rg ?_
  refine ra 2 2 ⟨[(0, (V.sl 0 1 (List.map V.str a0))), (3, (I x3)), (4, (I x3)), (5, (V.sl 0 1 (List.map V.str a0)))], [], 19⟩ rfl rfl rfl ?_
  refine Eq.trans (reg_pure (x := some ()) (w := fun _ => (I (a0.length : Int))) rfl rfl rfl rfl (p_len (e := V.str) rfl rfl rfl rfl rfl rfl Go.Proofs.Try.underlying26)) ?_
  refine Eq.trans some_bind ?_
  exact bind_end rfl
theorem f9r4 (k : Nat) (a0 : (List Str)) (x3 : Int) : RE k f9a4 f9o4 false ⟨[(0, (V.sl 0 1 (List.map V.str a0))), (3, (I x3)), (7, (V.bool true))], [], 19⟩ = (((idx a0 x3).bind fun v4 => (some ((decide ((v4.length : Int) > 300)))))).map (fun (o : Bool) => (⟨[(0, (V.sl 0 1 (List.map V.str a0))), (3, (I x3)), (15, (V.bool o))], [], 19⟩ : St)) := by
  refine rg ?_
  refine ra 2 2 ⟨[(0, (V.sl 0 1 (List.map V.str a0))), (3, (I x3)), (7, (V.bool true)), (10, (V.sl 0 1 (List.map V.str a0))), (11, (I x3))], [], 19⟩ rfl rfl rfl ?_
  refine Eq.trans (reg_pure (x := (idx a0 x3)) (w := fun v4 => (V.pro (V.str v4))) rfl rfl rfl rfl (p_index (e := V.str) rfl rfl rfl Go.Proofs.Try.underlying26 rfl (by decide))) ?_
  refine bindE (fun v4 => ?_)
  exact bind_end rfl
theorem f9r5 (k : Nat) (a0 : (List Str)) (x3 : Int) : RE k f9a5 f9o5 false ⟨[(0, (V.sl 0 1 (List.map V.str a0))), (3, (I x3)), (15, (V.bool true))], [], 19⟩ = some ⟨[(2, (V.bool true))], [], 19⟩ :=
  rE rfl
theorem f9r3 (k : Nat) (a0 : (List Str)) (x3 : Int) : RE k f9a3 f9o3 false ⟨[(0, (V.sl 0 1 (List.map V.str a0))), (3, (I x3)), (15, (V.bool false))], [], 19⟩ = some ⟨[(0, (V.sl 0 1 (List.map V.str a0))), (3, (I (Go.IntKind.wrap .i64 (x3 + 1))))], [], 19⟩ :=
  rE rfl
theorem law24_Long_L1_ok (k : Nat) (a0 : (List Str))  (K0 : Int → Option Bool) (Kst : X × St → Option (V × List V)) (hK0 : ∀ (y0 : Int), Kst (X.exit 0, ⟨[(0, (V.sl 0 1 (List.map V.str a0))), (3, (I y0)), (7, (V.bool false))], [], 19⟩) = (K0 y0).map law24_Long_fin) (hret : ∀ s, Kst (X.ret, s) = endK prog 19 [(V.sl 0 1 (List.map V.str a0))] [] [.tmp 2] (X.ret, s)) :
    ∀ (m : Nat) (x3 : Int), (iter (exec prog (EV k) f9n k f9b0) m ⟨[(0, (V.sl 0 1 (List.map V.str a0))), (3, (I x3))], [], 19⟩).bind Kst = (law24_Long_L1 a0 K0 m x3).map law24_Long_fin := by
  intro m
  induction m with
  | zero => intros; rfl
  | succ m ih =>
    intro x3
    unfold law24_Long_L1
    refine Eq.trans k_round ?_
    refine Eq.trans k_assoc ?_
    refine Eq.trans (k_region0 rfl (f9r2 k a0 x3)) ?_
    refine Eq.trans (k_cond (t := (decide (x3 < (a0.length : Int)))) rfl rfl) ?_
    refine bifE2 (fun hc => ?_) fun hc => ?_
    · rw [hc]
      refine Eq.trans k_skip ?_
      refine Eq.trans (k_block rfl) ?_
      refine Eq.trans (k_region rfl (f9r4 k a0 x3)) ?_
      refine bindE (fun o5 => ?_)
      refine Eq.trans (k_lcond (t := o5) rfl rfl) ?_
      refine bifE2 (fun hc => ?_) fun hc => ?_
      · rw [hc]
        refine Eq.trans (k_region0 rfl (f9r5 k a0 x3)) ?_
        refine Eq.trans k_lret ?_
        refine Eq.trans blk_ret ?_
        refine Eq.trans loop_ret ?_
        refine Eq.trans (hret _) ?_
        rfl
      · rw [hc]
        refine Eq.trans k_lskip ?_
        refine Eq.trans blk_normal ?_
        refine Eq.trans (k_lregion0 rfl (f9r3 k a0 x3)) ?_
        refine Eq.trans loop_normal ?_
        exact ih (Go.IntKind.wrap .i64 (x3 + 1))
    · rw [hc]
      refine Eq.trans k_exit ?_
      refine Eq.trans loop_exit ?_
      exact hK0 x3
theorem f9r6 (k : Nat) (a0 : (List Str)) (y6 : Int) : RE k f9a6 f9o6 false ⟨[(0, (V.sl 0 1 (List.map V.str a0))), (3, (I y6)), (7, (V.bool false))], [], 19⟩ = some ⟨[(2, (V.bool (decide ((a0.length : Int) > 20))))], [], 19⟩ := by
  refine rg ?_
  refine ra 1 1 ⟨[(0, (V.sl 0 1 (List.map V.str a0))), (3, (I y6)), (7, (V.bool false)), (16, (V.sl 0 1 (List.map V.str a0)))], [], 19⟩ rfl rfl rfl ?_
  refine Eq.trans (reg_pure (x := some ()) (w := fun _ => (I (a0.length : Int))) rfl rfl rfl rfl (p_len (e := V.str) rfl rfl rfl rfl rfl rfl Go.Proofs.Try.underlying26)) ?_
  refine Eq.trans some_bind ?_
  exact bind_end rfl
theorem law24_Long_ok (k : Nat) (a0 : (List Str)) : EV k 9 [(V.sl 0 1 (List.map V.str a0))] = (law24_Long k a0).map law24_Long_fin := by
  cases k with
  | zero => rfl
  | succ k =>
    unfold law24_Long
    refine Eq.trans (evF_succ (c := f9c) (N := 19) (regs := f9n) rfl Go.Proofs.Try.func9 rfl (by decide) rfl rfl rfl) ?_
    refine Eq.trans (k_region0 rfl (f9r0 k a0)) ?_
    refine Eq.trans k_assoc ?_
    refine Eq.trans (k_region0 rfl (f9r1 k a0)) ?_
    refine Eq.trans (k_block rfl) ?_
    refine Eq.trans k_loop ?_
    refine law24_Long_L1_ok k a0 _ _ ?h_law24_Long_L1_0 ?hr_law24_Long_L1 k 0
    · intro y6
      refine Eq.trans blk_exit ?_
      refine Eq.trans (k_region0 rfl (f9r6 k a0 y6)) ?_
      refine Eq.trans k_lret ?_
      rfl
    · intro s; exact rfl
def screen_isName_fin : Bool → V × List V := fun r => ((V.bool r), [])
theorem f72r0 (k : Nat) (a0 : Str) : RE k f72a0 f72o0 false ⟨[(0, (V.str a0))], [], 47⟩ = some ⟨[(0, (V.str a0))], [], 47⟩ :=
  rE rfl
theorem f72r1 (k : Nat) (a0 : Str) : RE k f72a1 f72o1 false ⟨[(0, (V.str a0))], [], 47⟩ = some ⟨[(0, (V.str a0)), (6, (I (a0.length : Int))), (7, (I 0))], [], 47⟩ :=
  rE rfl
theorem f72r2 (k : Nat) (a0 : Str) (x7 : Int) : RE k f72a2 f72o2 false ⟨[(0, (V.str a0)), (6, (I (a0.length : Int))), (7, (I x7))], [], 47⟩ = some ⟨[(0, (V.str a0)), (6, (I (a0.length : Int))), (7, (I x7)), (8, (V.bool (decide (x7 < (a0.length : Int)))))], [], 47⟩ :=
  rE rfl
theorem f72r3 (k : Nat) (a0 : Str) (x7 : Int) : RE k f72a3 f72o3 false ⟨[(0, (V.str a0)), (6, (I (a0.length : Int))), (7, (I x7)), (8, (V.bool true))], [], 47⟩ = some ⟨[(0, (V.str a0)), (3, (I x7)), (6, (I (a0.length : Int))), (7, (I x7))], [], 47⟩ :=
  rE rfl
theorem f72r4 (k : Nat) (a0 : Str) (x7 : Int) : RE k f72a4 f72o4 false ⟨[(0, (V.str a0)), (3, (I x7)), (6, (I (a0.length : Int))), (7, (I x7))], [], 47⟩ = (((idxS a0 x7).bind fun v8 => (bif (decide (v8 ≥ 65)) then ((idxS a0 x7).bind fun v9 => (some ((decide (v9 ≤ 90))))) else (some (false))))).map (fun (o : Bool) => (⟨[(0, (V.str a0)), (3, (I x7)), (4, (V.bool o)), (6, (I (a0.length : Int))), (7, (I x7))], [], 47⟩ : St)) := by
  refine rg ?_
  refine ra 2 2 ⟨[(0, (V.str a0)), (3, (I x7)), (6, (I (a0.length : Int))), (7, (I x7)), (10, (V.str a0)), (11, (I x7))], [], 47⟩ rfl rfl rfl ?_
  refine Eq.trans (reg_pure (x := (idxS a0 x7)) (w := fun v8 => (V.int .u8 v8)) rfl rfl rfl rfl (p_indexS rfl rfl rfl Go.Proofs.Try.underlying9)) ?_
  refine bindE (fun v8 => ?_)
  refine ba 2 5 ⟨[(0, (V.str a0)), (3, (I x7)), (6, (I (a0.length : Int))), (7, (I x7)), (10, (V.str a0)), (11, (I x7)), (12, (V.int .u8 v8)), (13, (V.bool (decide (v8 ≥ 65)))), (14, (V.bool (decide (v8 ≥ 65))))], [], 47⟩ rfl rfl rfl ?_
  refine bifE (c := (decide (v8 ≥ 65))) (fun hc => ?_) fun hc => ?_
  · rw [hc]
    refine ra 2 7 ⟨[(0, (V.str a0)), (3, (I x7)), (6, (I (a0.length : Int))), (7, (I x7)), (10, (V.str a0)), (11, (I x7)), (12, (V.int .u8 v8)), (13, (V.bool true)), (14, (V.bool true)), (15, (V.str a0)), (16, (I x7))], [], 47⟩ rfl rfl rfl ?_
    refine Eq.trans (reg_pure (x := (idxS a0 x7)) (w := fun v9 => (V.int .u8 v9)) rfl rfl rfl rfl (p_indexS rfl rfl rfl Go.Proofs.Try.underlying9)) ?_
    refine bindE (fun v9 => ?_)
    exact bind_end rfl
  · rw [hc]
    exact reg_end rfl
theorem f72r5 (k : Nat) (a0 : Str) (x7 : Int) (o10 : Bool) : RE k f72a5 f72o5 false ⟨[(0, (V.str a0)), (3, (I x7)), (4, (V.bool o10)), (6, (I (a0.length : Int))), (7, (I x7))], [], 47⟩ = ((bif (!o10) then (bif (x7 == 0) then (some (true)) else ((idxS a0 x7).bind fun v11 => (bif (decide (v11 < 48)) then (some (true)) else ((idxS a0 x7).bind fun v12 => (some ((decide (v12 > 57)))))))) else (some (false)))).map (fun (o : Bool) => (⟨[(0, (V.str a0)), (6, (I (a0.length : Int))), (7, (I x7)), (37, (V.bool o))], [], 47⟩ : St)) := by
  refine rg ?_
  refine ra 3 3 ⟨[(0, (V.str a0)), (3, (I x7)), (4, (V.bool o10)), (6, (I (a0.length : Int))), (7, (I x7)), (20, (V.bool o10)), (21, (V.bool (!o10))), (22, (V.bool (!o10)))], [], 47⟩ rfl rfl rfl ?_
  refine bifE (c := (!o10)) (fun hc => ?_) fun hc => ?_
  · rw [hc]
    refine ra 3 6 ⟨[(0, (V.str a0)), (3, (I x7)), (4, (V.bool o10)), (6, (I (a0.length : Int))), (7, (I x7)), (20, (V.bool o10)), (21, (V.bool true)), (22, (V.bool true)), (23, (I x7)), (24, (V.bool (x7 == 0))), (25, (V.bool (x7 == 0)))], [], 47⟩ rfl rfl rfl ?_
    refine bifE (c := (x7 == 0)) (fun hc => ?_) fun hc => ?_
    · rw [hc]
      exact reg_end rfl
    · rw [hc]
      refine ra 2 8 ⟨[(0, (V.str a0)), (3, (I x7)), (4, (V.bool o10)), (6, (I (a0.length : Int))), (7, (I x7)), (20, (V.bool o10)), (21, (V.bool true)), (22, (V.bool true)), (23, (I x7)), (24, (V.bool false)), (25, (V.bool false)), (26, (V.str a0)), (27, (I x7))], [], 47⟩ rfl rfl rfl ?_
      refine Eq.trans (reg_pure (x := (idxS a0 x7)) (w := fun v11 => (V.int .u8 v11)) rfl rfl rfl rfl (p_indexS rfl rfl rfl Go.Proofs.Try.underlying9)) ?_
      refine bindE (fun v11 => ?_)
      refine ba 3 12 ⟨[(0, (V.str a0)), (3, (I x7)), (4, (V.bool o10)), (6, (I (a0.length : Int))), (7, (I x7)), (20, (V.bool o10)), (21, (V.bool true)), (22, (V.bool true)), (23, (I x7)), (24, (V.bool false)), (25, (V.bool false)), (26, (V.str a0)), (27, (I x7)), (28, (V.int .u8 v11)), (29, (V.bool (decide (v11 < 48)))), (30, (V.bool (decide (v11 < 48)))), (31, (V.bool (decide (v11 < 48))))], [], 47⟩ rfl rfl rfl ?_
      refine bifE (c := (decide (v11 < 48))) (fun hc => ?_) fun hc => ?_
      · rw [hc]
        exact reg_end rfl
      · rw [hc]
        refine ra 2 14 ⟨[(0, (V.str a0)), (3, (I x7)), (4, (V.bool o10)), (6, (I (a0.length : Int))), (7, (I x7)), (20, (V.bool o10)), (21, (V.bool true)), (22, (V.bool true)), (23, (I x7)), (24, (V.bool false)), (25, (V.bool false)), (26, (V.str a0)), (27, (I x7)), (28, (V.int .u8 v11)), (29, (V.bool false)), (30, (V.bool false)), (31, (V.bool false)), (32, (V.str a0)), (33, (I x7))], [], 47⟩ rfl rfl rfl ?_
        refine Eq.trans (reg_pure (x := (idxS a0 x7)) (w := fun v12 => (V.int .u8 v12)) rfl rfl rfl rfl (p_indexS rfl rfl rfl Go.Proofs.Try.underlying9)) ?_
        refine bindE (fun v12 => ?_)
        exact bind_end rfl
  · rw [hc]
    exact reg_end rfl
theorem f72r6 (k : Nat) (a0 : Str) (x7 : Int) : RE k f72a6 f72o6 false ⟨[(0, (V.str a0)), (6, (I (a0.length : Int))), (7, (I x7)), (37, (V.bool true))], [], 47⟩ = some ⟨[(2, (V.bool false))], [], 47⟩ :=
  rE rfl
theorem f72r7 (k : Nat) (a0 : Str) (x7 : Int) : RE k f72a7 f72o7 false ⟨[(0, (V.str a0)), (6, (I (a0.length : Int))), (7, (I x7)), (37, (V.bool false))], [], 47⟩ = some ⟨[(0, (V.str a0)), (6, (I (a0.length : Int))), (7, (I (Go.IntKind.wrap .i64 (x7 + 1))))], [], 47⟩ :=
  rE rfl
theorem screen_isName_L1_ok (k : Nat) (a0 : Str)  (K0 : Int → Option Bool) (Kst : X × St → Option (V × List V)) (hK0 : ∀ (y0 : Int), Kst (X.exit 0, ⟨[(0, (V.str a0)), (6, (I (a0.length : Int))), (7, (I y0)), (8, (V.bool false))], [], 47⟩) = (K0 y0).map screen_isName_fin) (hret : ∀ s, Kst (X.ret, s) = endK prog 47 [(V.str a0)] [] [.tmp 2] (X.ret, s)) :
    ∀ (m : Nat) (x7 : Int), (iter (exec prog (EV k) f72n k f72b0) m ⟨[(0, (V.str a0)), (6, (I (a0.length : Int))), (7, (I x7))], [], 47⟩).bind Kst = (screen_isName_L1 a0 K0 m x7).map screen_isName_fin := by
  intro m
  induction m with
  | zero => intros; rfl
  | succ m ih =>
    intro x7
    unfold screen_isName_L1
    refine Eq.trans k_round ?_
    refine Eq.trans (k_region0 rfl (f72r2 k a0 x7)) ?_
    refine Eq.trans (k_cond (t := (decide (x7 < (a0.length : Int)))) rfl rfl) ?_
    refine bifE2 (fun hc => ?_) fun hc => ?_
    · rw [hc]
      refine Eq.trans k_skip ?_
      refine Eq.trans (k_block rfl) ?_
      refine Eq.trans (k_region0 rfl (f72r3 k a0 x7)) ?_
      refine Eq.trans (k_region rfl (f72r4 k a0 x7)) ?_
      refine bindE (fun o10 => ?_)
      refine Eq.trans (k_region rfl (f72r5 k a0 x7 o10)) ?_
      refine bindE (fun o13 => ?_)
      refine Eq.trans (k_lcond (t := o13) rfl rfl) ?_
      refine bifE2 (fun hc => ?_) fun hc => ?_
      · rw [hc]
        refine Eq.trans (k_region0 rfl (f72r6 k a0 x7)) ?_
        refine Eq.trans k_lret ?_
        refine Eq.trans blk_ret ?_
        refine Eq.trans loop_ret ?_
        refine Eq.trans (hret _) ?_
        rfl
      · rw [hc]
        refine Eq.trans k_lskip ?_
        refine Eq.trans blk_normal ?_
        refine Eq.trans (k_lregion0 rfl (f72r7 k a0 x7)) ?_
        refine Eq.trans loop_normal ?_
        exact ih (Go.IntKind.wrap .i64 (x7 + 1))
    · rw [hc]
      refine Eq.trans k_exit ?_
      refine Eq.trans loop_exit ?_
      exact hK0 x7
theorem f72r8 (k : Nat) (a0 : Str) (y14 : Int) : RE k f72a8 f72o8 false ⟨[(0, (V.str a0)), (6, (I (a0.length : Int))), (7, (I y14)), (8, (V.bool false))], [], 47⟩ = ((bif (decide ((a0.length : Int) ≥ 1)) then (some ((decide ((a0.length : Int) ≤ 8)))) else (some (false)))).map (fun (o : Bool) => (⟨[(2, (V.bool o))], [], 47⟩ : St)) := by
  refine rg ?_
  refine ra 4 4 ⟨[(0, (V.str a0)), (6, (I (a0.length : Int))), (7, (I y14)), (8, (V.bool false)), (39, (V.str a0)), (40, (I (a0.length : Int))), (41, (V.bool (decide ((a0.length : Int) ≥ 1)))), (42, (V.bool (decide ((a0.length : Int) ≥ 1))))], [], 47⟩ rfl rfl rfl ?_
  refine bifE (c := (decide ((a0.length : Int) ≥ 1))) (fun hc => ?_) fun hc => ?_
  · rw [hc]
    exact reg_end rfl
  · rw [hc]
    exact reg_end rfl
theorem screen_isName_ok (k : Nat) (a0 : Str) : EV k 72 [(V.str a0)] = (screen_isName k a0).map screen_isName_fin := by
  cases k with
  | zero => rfl
  | succ k =>
    unfold screen_isName
    refine Eq.trans (evF_succ (c := f72c) (N := 47) (regs := f72n) rfl Go.Proofs.Try.func72 rfl (by decide) rfl rfl rfl) ?_
    refine Eq.trans (k_region0 rfl (f72r0 k a0)) ?_
    refine Eq.trans k_assoc ?_
    refine Eq.trans (k_region0 rfl (f72r1 k a0)) ?_
    refine Eq.trans (k_block rfl) ?_
    refine Eq.trans k_loop ?_
    refine screen_isName_L1_ok k a0 _ _ ?h_screen_isName_L1_0 ?hr_screen_isName_L1 k 0
    · intro y14
      refine Eq.trans blk_exit ?_
      refine Eq.trans (k_region rfl (f72r8 k a0 y14)) ?_
      refine bindE (fun o15 => ?_)
      refine Eq.trans k_lret ?_
      rfl
    · intro s; exact rfl
def screen_isPlace_fin : Bool → V × List V := fun r => ((V.bool r), [])
theorem f73r0 (k : Nat) (a0 : Int) : RE k f73a0 f73o0 false ⟨[(0, (I a0))], [], 9⟩ = some ⟨[(0, (I a0))], [], 9⟩ :=
  rE rfl
theorem f73r1 (k : Nat) (a0 : Int) : RE k f73a1 f73o1 false ⟨[(0, (I a0))], [], 9⟩ = ((bif (decide (a0 ≥ (-1))) then (some ((decide (a0 < 4)))) else (some (false)))).map (fun (o : Bool) => (⟨[(2, (V.bool o))], [], 9⟩ : St)) := by
  refine rg ?_
  refine ra 3 3 ⟨[(0, (I a0)), (3, (I a0)), (4, (V.bool (decide (a0 ≥ (-1))))), (5, (V.bool (decide (a0 ≥ (-1)))))], [], 9⟩ rfl rfl rfl ?_
  refine bifE (c := (decide (a0 ≥ (-1)))) (fun hc => ?_) fun hc => ?_
  · rw [hc]
    exact reg_end rfl
  · rw [hc]
    exact reg_end rfl
theorem screen_isPlace_ok (k : Nat) (a0 : Int) : EV k 73 [(I a0)] = (screen_isPlace k a0).map screen_isPlace_fin := by
  cases k with
  | zero => rfl
  | succ k =>
    unfold screen_isPlace
    refine Eq.trans (evF_succ (c := f73c) (N := 9) (regs := f73n) rfl Go.Proofs.Try.func73 rfl (by decide) rfl rfl rfl) ?_
    refine Eq.trans (k_region0 rfl (f73r0 k a0)) ?_
    refine Eq.trans (k_region rfl (f73r1 k a0)) ?_
    refine bindE (fun o1 => ?_)
    refine Eq.trans k_lret ?_
    rfl
def screen_isByte_fin : Bool → V × List V := fun r => ((V.bool r), [])
theorem f71r0 (k : Nat) (a0 : Int) : RE k f71a0 f71o0 false ⟨[(0, (V.int .u8 a0))], [], 9⟩ = some ⟨[(0, (V.int .u8 a0))], [], 9⟩ :=
  rE rfl
theorem f71r1 (k : Nat) (a0 : Int) : RE k f71a1 f71o1 false ⟨[(0, (V.int .u8 a0))], [], 9⟩ = ((bif (decide (a0 ≥ 32)) then (some ((decide (a0 ≤ 126)))) else (some (false)))).map (fun (o : Bool) => (⟨[(2, (V.bool o))], [], 9⟩ : St)) := by
  refine rg ?_
  refine ra 3 3 ⟨[(0, (V.int .u8 a0)), (3, (V.int .u8 a0)), (4, (V.bool (decide (a0 ≥ 32)))), (5, (V.bool (decide (a0 ≥ 32))))], [], 9⟩ rfl rfl rfl ?_
  refine bifE (c := (decide (a0 ≥ 32))) (fun hc => ?_) fun hc => ?_
  · rw [hc]
    exact reg_end rfl
  · rw [hc]
    exact reg_end rfl
theorem screen_isByte_ok (k : Nat) (a0 : Int) : EV k 71 [(V.int .u8 a0)] = (screen_isByte k a0).map screen_isByte_fin := by
  cases k with
  | zero => rfl
  | succ k =>
    unfold screen_isByte
    refine Eq.trans (evF_succ (c := f71c) (N := 9) (regs := f71n) rfl Go.Proofs.Try.func71 rfl (by decide) rfl rfl rfl) ?_
    refine Eq.trans (k_region0 rfl (f71r0 k a0)) ?_
    refine Eq.trans (k_region rfl (f71r1 k a0)) ?_
    refine bindE (fun o1 => ?_)
    refine Eq.trans k_lret ?_
    rfl
def slices_IndexFunc_Slot_fin : Int → V × List V := fun r => ((I r), [])
theorem f61r0 (k : Nat) (a0 : (List T_api_Slot)) (a1 : Nat → T_api_Slot → Option Bool) (a1_fid : Go.FuncId) (a1_c0 : V) (a1_hok : ∀ j x0, EV j a1_fid [(enc_T_api_Slot x0), V.pro a1_c0] = (a1 j x0).map fun b => ((V.bool b), [])) : RE k f61a0 f61o0 false ⟨[(0, (sSlot a0)), (1, (V.fn a1_fid [] [V.pro a1_c0]))], [], 19⟩ = some ⟨[(0, (sSlot a0)), (1, (V.fn a1_fid [] [V.pro a1_c0]))], [], 19⟩ :=
  rE rfl
theorem f61r1 (k : Nat) (a0 : (List T_api_Slot)) (a1 : Nat → T_api_Slot → Option Bool) (a1_fid : Go.FuncId) (a1_c0 : V) (a1_hok : ∀ j x0, EV j a1_fid [(enc_T_api_Slot x0), V.pro a1_c0] = (a1 j x0).map fun b => ((V.bool b), [])) : RE k f61a1 f61o1 false ⟨[(0, (sSlot a0)), (1, (V.fn a1_fid [] [V.pro a1_c0]))], [], 19⟩ = some ⟨[(0, (sSlot a0)), (1, (V.fn a1_fid [] [V.pro a1_c0])), (7, (I (a0.length : Int))), (8, (I 0))], [], 19⟩ := by
  refine rg ?_
  refine ra 1 1 ⟨[(0, (sSlot a0)), (1, (V.fn a1_fid [] [V.pro a1_c0])), (6, (sSlot a0))], [], 19⟩ rfl rfl rfl ?_
  refine Eq.trans (reg_pure (x := some ()) (w := fun _ => (I (a0.length : Int))) rfl rfl rfl rfl (p_len (e := enc_T_api_Slot) rfl rfl rfl rfl rfl rfl Go.Proofs.Try.underlying23)) ?_
  refine Eq.trans some_bind ?_
  exact bind_end rfl
theorem f61r2 (k : Nat) (a0 : (List T_api_Slot)) (x4 : Int) (a1 : Nat → T_api_Slot → Option Bool) (a1_fid : Go.FuncId) (a1_c0 : V) (a1_hok : ∀ j x0, EV j a1_fid [(enc_T_api_Slot x0), V.pro a1_c0] = (a1 j x0).map fun b => ((V.bool b), [])) : RE k f61a2 f61o2 false ⟨[(0, (sSlot a0)), (1, (V.fn a1_fid [] [V.pro a1_c0])), (7, (I (a0.length : Int))), (8, (I x4))], [], 19⟩ = some ⟨[(0, (sSlot a0)), (1, (V.fn a1_fid [] [V.pro a1_c0])), (7, (I (a0.length : Int))), (8, (I x4)), (9, (V.bool (decide (x4 < (a0.length : Int)))))], [], 19⟩ :=
  rE rfl
theorem f61r3 (k : Nat) (a0 : (List T_api_Slot)) (x4 : Int) (a1 : Nat → T_api_Slot → Option Bool) (a1_fid : Go.FuncId) (a1_c0 : V) (a1_hok : ∀ j x0, EV j a1_fid [(enc_T_api_Slot x0), V.pro a1_c0] = (a1 j x0).map fun b => ((V.bool b), [])) : RE k f61a3 f61o3 false ⟨[(0, (sSlot a0)), (1, (V.fn a1_fid [] [V.pro a1_c0])), (7, (I (a0.length : Int))), (8, (I x4)), (9, (V.bool true))], [], 19⟩ = some ⟨[(0, (sSlot a0)), (1, (V.fn a1_fid [] [V.pro a1_c0])), (5, (I x4)), (7, (I (a0.length : Int))), (8, (I x4))], [], 19⟩ :=
  rE rfl
theorem f61r4 (k : Nat) (a0 : (List T_api_Slot)) (x4 : Int) (a1 : Nat → T_api_Slot → Option Bool) (a1_fid : Go.FuncId) (a1_c0 : V) (a1_hok : ∀ j x0, EV j a1_fid [(enc_T_api_Slot x0), V.pro a1_c0] = (a1 j x0).map fun b => ((V.bool b), [])) : RE k f61a4 f61o4 false ⟨[(0, (sSlot a0)), (1, (V.fn a1_fid [] [V.pro a1_c0])), (5, (I x4)), (7, (I (a0.length : Int))), (8, (I x4))], [], 19⟩ = (((idx a0 x4).bind fun v5 => (a1 k v5))).map (fun (o : Bool) => (⟨[(0, (sSlot a0)), (1, (V.fn a1_fid [] [V.pro a1_c0])), (5, (I x4)), (7, (I (a0.length : Int))), (8, (I x4)), (16, (V.bool o))], [], 19⟩ : St)) := by
  refine rg ?_
  refine ra 3 3 ⟨[(0, (sSlot a0)), (1, (V.fn a1_fid [] [V.pro a1_c0])), (5, (I x4)), (7, (I (a0.length : Int))), (8, (I x4)), (11, (V.fn a1_fid [] [V.pro a1_c0])), (12, (sSlot a0)), (13, (I x4))], [], 19⟩ rfl rfl rfl ?_
  refine Eq.trans (reg_pure (x := (idx a0 x4)) (w := fun v5 => (V.pro (enc_T_api_Slot v5))) rfl rfl rfl rfl (p_index (e := enc_T_api_Slot) rfl rfl rfl Go.Proofs.Try.underlying23 rfl (by decide))) ?_
  refine bindE (fun v5 => ?_)
  refine ba 1 5 ⟨[(0, (sSlot a0)), (1, (V.fn a1_fid [] [V.pro a1_c0])), (5, (I x4)), (7, (I (a0.length : Int))), (8, (I x4)), (11, (V.fn a1_fid [] [V.pro a1_c0])), (12, (sSlot a0)), (13, (I x4)), (14, (V.pro (enc_T_api_Slot v5))), (15, (enc_T_api_Slot v5))], [], 19⟩ rfl rfl rfl ?_
  refine Eq.trans (reg_pure (x := (a1 k v5)) (w := fun v6 => (V.bool v6)) rfl rfl rfl rfl (p_call rfl rfl rfl rfl rfl (a1_hok k v5) (.inl rfl))) ?_
  refine bind_self (fun v6 => ?_)
  exact bind_end rfl
theorem f61r5 (k : Nat) (a0 : (List T_api_Slot)) (x4 : Int) (a1 : Nat → T_api_Slot → Option Bool) (a1_fid : Go.FuncId) (a1_c0 : V) (a1_hok : ∀ j x0, EV j a1_fid [(enc_T_api_Slot x0), V.pro a1_c0] = (a1 j x0).map fun b => ((V.bool b), [])) : RE k f61a5 f61o5 false ⟨[(0, (sSlot a0)), (1, (V.fn a1_fid [] [V.pro a1_c0])), (5, (I x4)), (7, (I (a0.length : Int))), (8, (I x4)), (16, (V.bool true))], [], 19⟩ = some ⟨[(4, (I x4))], [], 19⟩ :=
  rE rfl
theorem f61r6 (k : Nat) (a0 : (List T_api_Slot)) (x4 : Int) (a1 : Nat → T_api_Slot → Option Bool) (a1_fid : Go.FuncId) (a1_c0 : V) (a1_hok : ∀ j x0, EV j a1_fid [(enc_T_api_Slot x0), V.pro a1_c0] = (a1 j x0).map fun b => ((V.bool b), [])) : RE k f61a6 f61o6 false ⟨[(0, (sSlot a0)), (1, (V.fn a1_fid [] [V.pro a1_c0])), (5, (I x4)), (7, (I (a0.length : Int))), (8, (I x4)), (16, (V.bool false))], [], 19⟩ = some ⟨[(0, (sSlot a0)), (1, (V.fn a1_fid [] [V.pro a1_c0])), (7, (I (a0.length : Int))), (8, (I (Go.IntKind.wrap .i64 (x4 + 1))))], [], 19⟩ :=
  rE rfl
theorem slices_IndexFunc_Slot_L1_ok (k : Nat) (a0 : (List T_api_Slot)) (a1 : Nat → T_api_Slot → Option Bool) (a1_fid : Go.FuncId) (a1_c0 : V) (a1_hok : ∀ j x0, EV j a1_fid [(enc_T_api_Slot x0), V.pro a1_c0] = (a1 j x0).map fun b => ((V.bool b), [])) (K0 : Int → Option Int) (Kst : X × St → Option (V × List V)) (hK0 : ∀ (y0 : Int), Kst (X.exit 0, ⟨[(0, (sSlot a0)), (1, (V.fn a1_fid [] [V.pro a1_c0])), (7, (I (a0.length : Int))), (8, (I y0)), (9, (V.bool false))], [], 19⟩) = (K0 y0).map slices_IndexFunc_Slot_fin) (hret : ∀ s, Kst (X.ret, s) = endK prog 19 [(sSlot a0), (V.fn a1_fid [] [V.pro a1_c0])] [] [.tmp 4] (X.ret, s)) :
    ∀ (m : Nat) (x4 : Int), (iter (exec prog (EV k) f61n k f61b0) m ⟨[(0, (sSlot a0)), (1, (V.fn a1_fid [] [V.pro a1_c0])), (7, (I (a0.length : Int))), (8, (I x4))], [], 19⟩).bind Kst = (slices_IndexFunc_Slot_L1 k a0 a1 K0 m x4).map slices_IndexFunc_Slot_fin := by
  intro m
  induction m with
  | zero => intros; rfl
  | succ m ih =>
    intro x4
    unfold slices_IndexFunc_Slot_L1
    refine Eq.trans k_round ?_
    refine Eq.trans (k_region0 rfl (f61r2 k a0 x4 a1 a1_fid a1_c0 a1_hok)) ?_
    refine Eq.trans (k_cond (t := (decide (x4 < (a0.length : Int)))) rfl rfl) ?_
    refine bifE2 (fun hc => ?_) fun hc => ?_
    · rw [hc]
      refine Eq.trans k_skip ?_
      refine Eq.trans (k_block rfl) ?_
      refine Eq.trans (k_region0 rfl (f61r3 k a0 x4 a1 a1_fid a1_c0 a1_hok)) ?_
      refine Eq.trans (k_region rfl (f61r4 k a0 x4 a1 a1_fid a1_c0 a1_hok)) ?_
      refine bindE (fun o7 => ?_)
      refine Eq.trans (k_lcond (t := o7) rfl rfl) ?_
      refine bifE2 (fun hc => ?_) fun hc => ?_
      · rw [hc]
        refine Eq.trans (k_region0 rfl (f61r5 k a0 x4 a1 a1_fid a1_c0 a1_hok)) ?_
        refine Eq.trans k_lret ?_
        refine Eq.trans blk_ret ?_
        refine Eq.trans loop_ret ?_
        refine Eq.trans (hret _) ?_
        rfl
      · rw [hc]
        refine Eq.trans k_lskip ?_
        refine Eq.trans blk_normal ?_
        refine Eq.trans (k_lregion0 rfl (f61r6 k a0 x4 a1 a1_fid a1_c0 a1_hok)) ?_
        refine Eq.trans loop_normal ?_
        exact ih (Go.IntKind.wrap .i64 (x4 + 1))
    · rw [hc]
      refine Eq.trans k_exit ?_
      refine Eq.trans loop_exit ?_
      exact hK0 x4
theorem f61r7 (k : Nat) (a0 : (List T_api_Slot)) (y8 : Int) (a1 : Nat → T_api_Slot → Option Bool) (a1_fid : Go.FuncId) (a1_c0 : V) (a1_hok : ∀ j x0, EV j a1_fid [(enc_T_api_Slot x0), V.pro a1_c0] = (a1 j x0).map fun b => ((V.bool b), [])) : RE k f61a7 f61o7 false ⟨[(0, (sSlot a0)), (1, (V.fn a1_fid [] [V.pro a1_c0])), (7, (I (a0.length : Int))), (8, (I y8)), (9, (V.bool false))], [], 19⟩ = some ⟨[(4, (I (-1)))], [], 19⟩ :=
  rE rfl
theorem slices_IndexFunc_Slot_ok (k : Nat) (a0 : (List T_api_Slot)) (a1 : Nat → T_api_Slot → Option Bool) (a1_fid : Go.FuncId) (a1_c0 : V) (a1_hok : ∀ j x0, EV j a1_fid [(enc_T_api_Slot x0), V.pro a1_c0] = (a1 j x0).map fun b => ((V.bool b), [])) : EV k 61 [(sSlot a0), (V.fn a1_fid [] [V.pro a1_c0])] = (slices_IndexFunc_Slot k a0 a1).map slices_IndexFunc_Slot_fin := by
  cases k with
  | zero => rfl
  | succ k =>
    unfold slices_IndexFunc_Slot
    refine Eq.trans (evF_succ (c := f61c) (N := 19) (regs := f61n) rfl Go.Proofs.Try.func61 rfl (by decide) rfl rfl rfl) ?_
    refine Eq.trans (k_region0 rfl (f61r0 k a0 a1 a1_fid a1_c0 a1_hok)) ?_
    refine Eq.trans k_assoc ?_
    refine Eq.trans (k_region0 rfl (f61r1 k a0 a1 a1_fid a1_c0 a1_hok)) ?_
    refine Eq.trans (k_block rfl) ?_
    refine Eq.trans k_loop ?_
    refine slices_IndexFunc_Slot_L1_ok k a0 a1 a1_fid a1_c0 a1_hok _ _ ?h_slices_IndexFunc_Slot_L1_0 ?hr_slices_IndexFunc_Slot_L1 k 0
    · intro y8
      refine Eq.trans blk_exit ?_
      refine Eq.trans (k_region0 rfl (f61r7 k a0 y8 a1 a1_fid a1_c0 a1_hok)) ?_
      refine Eq.trans k_lret ?_
      rfl
    · intro s; exact rfl
def slices_ContainsFunc_Slot_fin : Bool → V × List V := fun r => ((V.bool r), [])
theorem f74r0 (k : Nat) (a0 : (List T_api_Slot)) (a1 : Nat → T_api_Slot → Option Bool) (a1_fid : Go.FuncId) (a1_c0 : V) (a1_hok : ∀ j x0, EV j a1_fid [(enc_T_api_Slot x0), V.pro a1_c0] = (a1 j x0).map fun b => ((V.bool b), [])) : RE k f74a0 f74o0 false ⟨[(0, (sSlot a0)), (1, (V.fn a1_fid [] [V.pro a1_c0]))], [], 9⟩ = some ⟨[(0, (sSlot a0)), (1, (V.fn a1_fid [] [V.pro a1_c0]))], [], 9⟩ :=
  rE rfl
theorem f74r1 (k : Nat) (a0 : (List T_api_Slot)) (a1 : Nat → T_api_Slot → Option Bool) (a1_fid : Go.FuncId) (a1_c0 : V) (a1_hok : ∀ j x0, EV j a1_fid [(enc_T_api_Slot x0), V.pro a1_c0] = (a1 j x0).map fun b => ((V.bool b), [])) : RE k f74a1 f74o1 false ⟨[(0, (sSlot a0)), (1, (V.fn a1_fid [] [V.pro a1_c0]))], [], 9⟩ = (((slices_IndexFunc_Slot k a0 a1).bind fun v1 => (some ((decide (v1 ≥ 0)))))).map (fun (o : Bool) => (⟨[(4, (V.bool o))], [], 9⟩ : St)) := by
  refine rg ?_
  refine ra 2 2 ⟨[(0, (sSlot a0)), (1, (V.fn a1_fid [] [V.pro a1_c0])), (5, (sSlot a0)), (6, (V.fn a1_fid [] [V.pro a1_c0]))], [], 9⟩ rfl rfl rfl ?_
  refine Eq.trans (reg_pure (x := (slices_IndexFunc_Slot k a0 a1)) (w := fun v1 => (I v1)) rfl rfl rfl rfl (p_call rfl rfl rfl rfl rfl (slices_IndexFunc_Slot_ok k a0 a1 a1_fid a1_c0 a1_hok) (.inl rfl))) ?_
  refine bindE (fun v1 => ?_)
  exact bind_end rfl
theorem slices_ContainsFunc_Slot_ok (k : Nat) (a0 : (List T_api_Slot)) (a1 : Nat → T_api_Slot → Option Bool) (a1_fid : Go.FuncId) (a1_c0 : V) (a1_hok : ∀ j x0, EV j a1_fid [(enc_T_api_Slot x0), V.pro a1_c0] = (a1 j x0).map fun b => ((V.bool b), [])) : EV k 74 [(sSlot a0), (V.fn a1_fid [] [V.pro a1_c0])] = (slices_ContainsFunc_Slot k a0 a1).map slices_ContainsFunc_Slot_fin := by
  cases k with
  | zero => rfl
  | succ k =>
    unfold slices_ContainsFunc_Slot
    refine Eq.trans (evF_succ (c := f74c) (N := 9) (regs := f74n) rfl Go.Proofs.Try.func74 rfl (by decide) rfl rfl rfl) ?_
    refine Eq.trans (k_region0 rfl (f74r0 k a0 a1 a1_fid a1_c0 a1_hok)) ?_
    refine Eq.trans (k_region rfl (f74r1 k a0 a1 a1_fid a1_c0 a1_hok)) ?_
    refine bindE (fun o2 => ?_)
    refine Eq.trans k_lret ?_
    rfl
def screen_areSlots_1_fin : Bool → V × List V := fun r => ((V.bool r), [])
theorem f75r0 (k : Nat) (a0 : T_api_Slot) (a1 : T_api_Slot) : RE k f75a0 f75o0 false ⟨[(0, (enc_T_api_Slot a0)), (1, (V.pro (enc_T_api_Slot a1)))], [], 33⟩ = some ⟨[(1, (V.pro (enc_T_api_Slot a1))), (2, (V.ptr 2 0 0))], [(2, ⟨false, 7, [(enc_T_api_Slot a0)]⟩)], 33⟩ :=
  rE rfl
theorem f75r1 (k : Nat) (a0 : T_api_Slot) (a1 : T_api_Slot) : RE k f75a1 f75o1 false ⟨[(1, (V.pro (enc_T_api_Slot a1))), (2, (V.ptr 2 0 0))], [(2, ⟨false, 7, [(enc_T_api_Slot a0)]⟩)], 33⟩ = ((bif (a0.fName == a1.fName) then (some (true)) else (bif (decide (a1.fIn ≥ 0)) then (bif (a0.fIn == a1.fIn) then (some (true)) else (bif (decide (a1.fOut ≥ 0)) then (some ((a0.fOut == a1.fOut))) else (some (false)))) else (bif (decide (a1.fOut ≥ 0)) then (some ((a0.fOut == a1.fOut))) else (some (false)))))).map (fun (o : Bool) => (⟨[(3, (V.bool o))], [], 33⟩ : St)) := by
  refine rg ?_
  refine ra 6 6 ⟨[(1, (V.pro (enc_T_api_Slot a1))), (2, (V.ptr 2 0 0)), (4, (V.ptr 2 0 0)), (5, (V.str a0.fName)), (6, (V.pro (V.str a1.fName))), (7, (V.str a1.fName)), (8, (V.bool (a0.fName == a1.fName))), (9, (V.bool (a0.fName == a1.fName)))], [(2, ⟨false, 7, [(enc_T_api_Slot a0)]⟩)], 33⟩ rfl rfl rfl ?_
  refine bifE (c := (a0.fName == a1.fName)) (fun hc => ?_) fun hc => ?_
  · rw [hc]
    exact reg_end rfl
  · rw [hc]
    refine ra 4 10 ⟨[(1, (V.pro (enc_T_api_Slot a1))), (2, (V.ptr 2 0 0)), (4, (V.ptr 2 0 0)), (5, (V.str a0.fName)), (6, (V.pro (V.str a1.fName))), (7, (V.str a1.fName)), (8, (V.bool false)), (9, (V.bool false)), (10, (V.pro (I a1.fIn))), (11, (I a1.fIn)), (12, (V.bool (decide (a1.fIn ≥ 0)))), (13, (V.bool (decide (a1.fIn ≥ 0))))], [(2, ⟨false, 7, [(enc_T_api_Slot a0)]⟩)], 33⟩ rfl rfl rfl ?_
    refine bifE (c := (decide (a1.fIn ≥ 0))) (fun hc => ?_) fun hc => ?_
    · rw [hc]
      refine ra 8 18 ⟨[(1, (V.pro (enc_T_api_Slot a1))), (2, (V.ptr 2 0 0)), (4, (V.ptr 2 0 0)), (5, (V.str a0.fName)), (6, (V.pro (V.str a1.fName))), (7, (V.str a1.fName)), (8, (V.bool false)), (9, (V.bool false)), (10, (V.pro (I a1.fIn))), (11, (I a1.fIn)), (12, (V.bool true)), (13, (V.bool true)), (14, (V.ptr 2 0 4)), (15, (I a0.fIn)), (16, (V.pro (I a1.fIn))), (17, (I a1.fIn)), (18, (V.bool (a0.fIn == a1.fIn))), (19, (V.bool (a0.fIn == a1.fIn))), (20, (V.bool (a0.fIn == a1.fIn))), (21, (V.bool (a0.fIn == a1.fIn)))], [(2, ⟨false, 7, [(enc_T_api_Slot a0)]⟩)], 33⟩ rfl rfl rfl ?_
      refine bifE (c := (a0.fIn == a1.fIn)) (fun hc => ?_) fun hc => ?_
      · rw [hc]
        exact reg_end rfl
      · rw [hc]
        refine ra 4 22 ⟨[(1, (V.pro (enc_T_api_Slot a1))), (2, (V.ptr 2 0 0)), (4, (V.ptr 2 0 0)), (5, (V.str a0.fName)), (6, (V.pro (V.str a1.fName))), (7, (V.str a1.fName)), (8, (V.bool false)), (9, (V.bool false)), (10, (V.pro (I a1.fIn))), (11, (I a1.fIn)), (12, (V.bool true)), (13, (V.bool true)), (14, (V.ptr 2 0 4)), (15, (I a0.fIn)), (16, (V.pro (I a1.fIn))), (17, (I a1.fIn)), (18, (V.bool false)), (19, (V.bool false)), (20, (V.bool false)), (21, (V.bool false)), (22, (V.pro (I a1.fOut))), (23, (I a1.fOut)), (24, (V.bool (decide (a1.fOut ≥ 0)))), (25, (V.bool (decide (a1.fOut ≥ 0))))], [(2, ⟨false, 7, [(enc_T_api_Slot a0)]⟩)], 33⟩ rfl rfl rfl ?_
        refine bifE (c := (decide (a1.fOut ≥ 0))) (fun hc => ?_) fun hc => ?_
        · rw [hc]
          exact reg_end rfl
        · rw [hc]
          exact reg_end rfl
    · rw [hc]
      refine ra 12 22 ⟨[(1, (V.pro (enc_T_api_Slot a1))), (2, (V.ptr 2 0 0)), (4, (V.ptr 2 0 0)), (5, (V.str a0.fName)), (6, (V.pro (V.str a1.fName))), (7, (V.str a1.fName)), (8, (V.bool false)), (9, (V.bool false)), (10, (V.pro (I a1.fIn))), (11, (I a1.fIn)), (12, (V.bool false)), (13, (V.bool false)), (14, (V.tup [])), (15, (V.tup [])), (16, (V.tup [])), (17, (V.tup [])), (18, (V.tup [])), (19, (V.bool false)), (20, (V.bool false)), (21, (V.bool false)), (22, (V.pro (I a1.fOut))), (23, (I a1.fOut)), (24, (V.bool (decide (a1.fOut ≥ 0)))), (25, (V.bool (decide (a1.fOut ≥ 0))))], [(2, ⟨false, 7, [(enc_T_api_Slot a0)]⟩)], 33⟩ rfl rfl rfl ?_
      refine bifE (c := (decide (a1.fOut ≥ 0))) (fun hc => ?_) fun hc => ?_
      · rw [hc]
        exact reg_end rfl
      · rw [hc]
        exact reg_end rfl
theorem screen_areSlots_1_ok (k : Nat) (a0 : T_api_Slot) (a1 : T_api_Slot) : EV k 75 [(enc_T_api_Slot a0), (V.pro (enc_T_api_Slot a1))] = (screen_areSlots_1 k a0 a1).map screen_areSlots_1_fin := by
  cases k with
  | zero => rfl
  | succ k =>
    unfold screen_areSlots_1
    refine Eq.trans (evF_succ (c := f75c) (N := 33) (regs := f75n) rfl Go.Proofs.Try.func75 rfl (by decide) rfl rfl rfl) ?_
    refine Eq.trans (k_region0 rfl (f75r0 k a0 a1)) ?_
    refine Eq.trans (k_region rfl (f75r1 k a0 a1)) ?_
    refine bindE (fun o1 => ?_)
    refine Eq.trans k_lret ?_
    rfl
def screen_areSlots_fin : Bool → V × List V := fun r => ((V.bool r), [])
theorem f53r0 (k : Nat) (a0 : (List T_api_Slot)) : RE k f53a0 f53o0 false ⟨[(0, (sSlot a0))], [], 43⟩ = some ⟨[(0, (sSlot a0))], [], 43⟩ :=
  rE rfl
theorem f53r1 (k : Nat) (a0 : (List T_api_Slot)) : RE k f53a1 f53o1 false ⟨[(0, (sSlot a0))], [], 43⟩ = some ⟨[(0, (sSlot a0)), (5, (sSlot a0)), (6, (I (a0.length : Int))), (7, (I 0))], [], 43⟩ := by
  refine rg ?_
  refine ra 1 1 ⟨[(0, (sSlot a0)), (5, (sSlot a0))], [], 43⟩ rfl rfl rfl ?_
  refine Eq.trans (reg_pure (x := some ()) (w := fun _ => (I (a0.length : Int))) rfl rfl rfl rfl (p_len (e := enc_T_api_Slot) rfl rfl rfl rfl rfl rfl Go.Proofs.Try.underlying23)) ?_
  refine Eq.trans some_bind ?_
  exact bind_end rfl
theorem f53r2 (k : Nat) (a0 : (List T_api_Slot)) (x11 : Int) : RE k f53a2 f53o2 false ⟨[(0, (sSlot a0)), (5, (sSlot a0)), (6, (I (a0.length : Int))), (7, (I x11))], [], 43⟩ = some ⟨[(0, (sSlot a0)), (5, (sSlot a0)), (6, (I (a0.length : Int))), (7, (I x11)), (8, (V.bool (decide (x11 < (a0.length : Int)))))], [], 43⟩ :=
  rE rfl
theorem f53r3 (k : Nat) (a0 : (List T_api_Slot)) (x11 : Int) : RE k f53a3 f53o3 false ⟨[(0, (sSlot a0)), (5, (sSlot a0)), (6, (I (a0.length : Int))), (7, (I x11)), (8, (V.bool true))], [], 43⟩ = (((idx a0 x11).bind fun v12 => (some (x11, v12)))).map (fun (o : Int × T_api_Slot) => (⟨[(0, (sSlot a0)), (3, (I o.1)), (4, (V.ptr 4 0 0)), (5, (sSlot a0)), (6, (I (a0.length : Int))), (7, (I x11))], [(4, ⟨false, 7, [(enc_T_api_Slot o.2)]⟩)], 43⟩ : St)) := by
  refine rg ?_
  refine ra 1 1 ⟨[(0, (sSlot a0)), (5, (sSlot a0)), (6, (I (a0.length : Int))), (7, (I x11)), (8, (V.bool true)), (9, (I x11))], [], 43⟩ rfl rfl rfl ?_
  refine Eq.trans (reg_pure (x := (idx a0 x11)) (w := fun v12 => (V.pro (enc_T_api_Slot v12))) rfl rfl rfl rfl (p_index (e := enc_T_api_Slot) rfl rfl rfl Go.Proofs.Try.underlying23 rfl (by decide))) ?_
  refine bindE (fun v12 => ?_)
  exact bind_end rfl
theorem f53r4 (k : Nat) (a0 : (List T_api_Slot)) (x11 : Int) (o13 : Int × T_api_Slot) : RE k f53a4 f53o4 false ⟨[(0, (sSlot a0)), (3, (I o13.1)), (4, (V.ptr 4 0 0)), (5, (sSlot a0)), (6, (I (a0.length : Int))), (7, (I x11))], [(4, ⟨false, 7, [(enc_T_api_Slot o13.2)]⟩)], 43⟩ = (((screen_isName k o13.2.fName).bind fun v14 => (bif (!v14) then (some (true)) else ((screen_isPlace k o13.2.fIn).bind fun v15 => (bif (!v15) then (some (true)) else ((screen_isPlace k o13.2.fOut).bind fun v16 => (bif (!v16) then (some (true)) else ((screen_isByte k o13.2.fFill).bind fun v17 => (some ((!v17))))))))))).map (fun (o : Bool) => (⟨[(0, (sSlot a0)), (3, (I o13.1)), (4, (V.ptr 4 0 0)), (5, (sSlot a0)), (6, (I (a0.length : Int))), (7, (I x11)), (33, (V.bool o))], [(4, ⟨false, 7, [(enc_T_api_Slot o13.2)]⟩)], 43⟩ : St)) := by
  refine rg ?_
  refine ra 2 2 ⟨[(0, (sSlot a0)), (3, (I o13.1)), (4, (V.ptr 4 0 0)), (5, (sSlot a0)), (6, (I (a0.length : Int))), (7, (I x11)), (12, (V.ptr 4 0 0)), (13, (V.str o13.2.fName))], [(4, ⟨false, 7, [(enc_T_api_Slot o13.2)]⟩)], 43⟩ rfl rfl rfl ?_
  refine Eq.trans (reg_pure (x := (screen_isName k o13.2.fName)) (w := fun v14 => (V.bool v14)) rfl rfl rfl rfl (p_call rfl rfl rfl rfl rfl (screen_isName_ok k o13.2.fName) (.inl rfl))) ?_
  refine bindE (fun v14 => ?_)
  refine ba 2 5 ⟨[(0, (sSlot a0)), (3, (I o13.1)), (4, (V.ptr 4 0 0)), (5, (sSlot a0)), (6, (I (a0.length : Int))), (7, (I x11)), (12, (V.ptr 4 0 0)), (13, (V.str o13.2.fName)), (14, (V.bool v14)), (15, (V.bool (!v14))), (16, (V.bool (!v14)))], [(4, ⟨false, 7, [(enc_T_api_Slot o13.2)]⟩)], 43⟩ rfl rfl rfl ?_
  refine bifE (c := (!v14)) (fun hc => ?_) fun hc => ?_
  · rw [hc]
    exact reg_end rfl
  · rw [hc]
    refine ra 2 7 ⟨[(0, (sSlot a0)), (3, (I o13.1)), (4, (V.ptr 4 0 0)), (5, (sSlot a0)), (6, (I (a0.length : Int))), (7, (I x11)), (12, (V.ptr 4 0 0)), (13, (V.str o13.2.fName)), (14, (V.bool v14)), (15, (V.bool false)), (16, (V.bool false)), (17, (V.ptr 4 0 4)), (18, (I o13.2.fIn))], [(4, ⟨false, 7, [(enc_T_api_Slot o13.2)]⟩)], 43⟩ rfl rfl rfl ?_
    refine Eq.trans (reg_pure (x := (screen_isPlace k o13.2.fIn)) (w := fun v15 => (V.bool v15)) rfl rfl rfl rfl (p_call rfl rfl rfl rfl rfl (screen_isPlace_ok k o13.2.fIn) (.inl rfl))) ?_
    refine bindE (fun v15 => ?_)
    refine ba 3 11 ⟨[(0, (sSlot a0)), (3, (I o13.1)), (4, (V.ptr 4 0 0)), (5, (sSlot a0)), (6, (I (a0.length : Int))), (7, (I x11)), (12, (V.ptr 4 0 0)), (13, (V.str o13.2.fName)), (14, (V.bool v14)), (15, (V.bool false)), (16, (V.bool false)), (17, (V.ptr 4 0 4)), (18, (I o13.2.fIn)), (19, (V.bool v15)), (20, (V.bool (!v15))), (21, (V.bool (!v15))), (22, (V.bool (!v15)))], [(4, ⟨false, 7, [(enc_T_api_Slot o13.2)]⟩)], 43⟩ rfl rfl rfl ?_
    refine bifE (c := (!v15)) (fun hc => ?_) fun hc => ?_
    · rw [hc]
      exact reg_end rfl
    · rw [hc]
      refine ra 2 13 ⟨[(0, (sSlot a0)), (3, (I o13.1)), (4, (V.ptr 4 0 0)), (5, (sSlot a0)), (6, (I (a0.length : Int))), (7, (I x11)), (12, (V.ptr 4 0 0)), (13, (V.str o13.2.fName)), (14, (V.bool v14)), (15, (V.bool false)), (16, (V.bool false)), (17, (V.ptr 4 0 4)), (18, (I o13.2.fIn)), (19, (V.bool v15)), (20, (V.bool false)), (21, (V.bool false)), (22, (V.bool false)), (23, (V.ptr 4 0 5)), (24, (I o13.2.fOut))], [(4, ⟨false, 7, [(enc_T_api_Slot o13.2)]⟩)], 43⟩ rfl rfl rfl ?_
      refine Eq.trans (reg_pure (x := (screen_isPlace k o13.2.fOut)) (w := fun v16 => (V.bool v16)) rfl rfl rfl rfl (p_call rfl rfl rfl rfl rfl (screen_isPlace_ok k o13.2.fOut) (.inl rfl))) ?_
      refine bindE (fun v16 => ?_)
      refine ba 3 17 ⟨[(0, (sSlot a0)), (3, (I o13.1)), (4, (V.ptr 4 0 0)), (5, (sSlot a0)), (6, (I (a0.length : Int))), (7, (I x11)), (12, (V.ptr 4 0 0)), (13, (V.str o13.2.fName)), (14, (V.bool v14)), (15, (V.bool false)), (16, (V.bool false)), (17, (V.ptr 4 0 4)), (18, (I o13.2.fIn)), (19, (V.bool v15)), (20, (V.bool false)), (21, (V.bool false)), (22, (V.bool false)), (23, (V.ptr 4 0 5)), (24, (I o13.2.fOut)), (25, (V.bool v16)), (26, (V.bool (!v16))), (27, (V.bool (!v16))), (28, (V.bool (!v16)))], [(4, ⟨false, 7, [(enc_T_api_Slot o13.2)]⟩)], 43⟩ rfl rfl rfl ?_
      refine bifE (c := (!v16)) (fun hc => ?_) fun hc => ?_
      · rw [hc]
        exact reg_end rfl
      · rw [hc]
        refine ra 2 19 ⟨[(0, (sSlot a0)), (3, (I o13.1)), (4, (V.ptr 4 0 0)), (5, (sSlot a0)), (6, (I (a0.length : Int))), (7, (I x11)), (12, (V.ptr 4 0 0)), (13, (V.str o13.2.fName)), (14, (V.bool v14)), (15, (V.bool false)), (16, (V.bool false)), (17, (V.ptr 4 0 4)), (18, (I o13.2.fIn)), (19, (V.bool v15)), (20, (V.bool false)), (21, (V.bool false)), (22, (V.bool false)), (23, (V.ptr 4 0 5)), (24, (I o13.2.fOut)), (25, (V.bool v16)), (26, (V.bool false)), (27, (V.bool false)), (28, (V.bool false)), (29, (V.ptr 4 0 6)), (30, (V.int .u8 o13.2.fFill))], [(4, ⟨false, 7, [(enc_T_api_Slot o13.2)]⟩)], 43⟩ rfl rfl rfl ?_
        refine Eq.trans (reg_pure (x := (screen_isByte k o13.2.fFill)) (w := fun v17 => (V.bool v17)) rfl rfl rfl rfl (p_call rfl rfl rfl rfl rfl (screen_isByte_ok k o13.2.fFill) (.inl rfl))) ?_
        refine bindE (fun v17 => ?_)
        exact bind_end rfl
theorem f53r5 (k : Nat) (a0 : (List T_api_Slot)) (x11 : Int) (o13 : Int × T_api_Slot) : RE k f53a5 f53o5 false ⟨[(0, (sSlot a0)), (3, (I o13.1)), (4, (V.ptr 4 0 0)), (5, (sSlot a0)), (6, (I (a0.length : Int))), (7, (I x11)), (33, (V.bool true))], [(4, ⟨false, 7, [(enc_T_api_Slot o13.2)]⟩)], 43⟩ = some ⟨[(2, (V.bool false))], [], 43⟩ :=
  rE rfl
theorem f53r6 (k : Nat) (a0 : (List T_api_Slot)) (x11 : Int) (o13 : Int × T_api_Slot) : RE k f53a6 f53o6 false ⟨[(0, (sSlot a0)), (3, (I o13.1)), (4, (V.ptr 4 0 0)), (5, (sSlot a0)), (6, (I (a0.length : Int))), (7, (I x11)), (33, (V.bool false))], [(4, ⟨false, 7, [(enc_T_api_Slot o13.2)]⟩)], 43⟩ = (((cut a0 0 o13.1).bind fun v19 => (slices_ContainsFunc_Slot k v19 (fun j x0 => (screen_areSlots_1 j x0 o13.2))))).map (fun (o : Bool) => (⟨[(0, (sSlot a0)), (5, (sSlot a0)), (6, (I (a0.length : Int))), (7, (I x11)), (38, (V.bool o))], [], 43⟩ : St)) := by
  refine rg ?_
  refine ra 2 2 ⟨[(0, (sSlot a0)), (3, (I o13.1)), (4, (V.ptr 4 0 0)), (5, (sSlot a0)), (6, (I (a0.length : Int))), (7, (I x11)), (33, (V.bool false)), (34, (sSlot a0)), (35, (I o13.1))], [(4, ⟨false, 7, [(enc_T_api_Slot o13.2)]⟩)], 43⟩ rfl rfl rfl ?_
  refine Eq.trans (reg_pure (x := (cut a0 0 o13.1)) (w := fun v19 => (sSlot v19)) rfl rfl rfl rfl (p_slice (e := enc_T_api_Slot) rfl rfl rfl rfl rfl rfl Go.Proofs.Try.underlying23 rfl (by decide))) ?_
  refine bindE (fun v19 => ?_)
  refine ba 1 4 ⟨[(0, (sSlot a0)), (3, (I o13.1)), (4, (V.ptr 4 0 0)), (5, (sSlot a0)), (6, (I (a0.length : Int))), (7, (I x11)), (33, (V.bool false)), (34, (sSlot a0)), (35, (I o13.1)), (36, (sSlot v19)), (37, (V.fn 75 [] [(V.ptr 4 0 0)]))], [(4, ⟨false, 7, [(enc_T_api_Slot o13.2)]⟩)], 43⟩ rfl rfl rfl ?_
  refine Eq.trans (reg_pure (x := (slices_ContainsFunc_Slot k v19 (fun j x0 => (screen_areSlots_1 j x0 o13.2)))) (w := fun v20 => (V.bool v20)) rfl rfl rfl rfl (p_call rfl rfl rfl rfl rfl (slices_ContainsFunc_Slot_ok k v19 (fun j x0 => (screen_areSlots_1 j x0 o13.2)) 75 (enc_T_api_Slot o13.2) (fun j x0 => (screen_areSlots_1_ok j x0 o13.2))) (.inr (fun _ => rfl)))) ?_
  refine bind_self (fun v20 => ?_)
  exact bind_end rfl
theorem f53r7 (k : Nat) (a0 : (List T_api_Slot)) (x11 : Int) : RE k f53a7 f53o7 false ⟨[(0, (sSlot a0)), (5, (sSlot a0)), (6, (I (a0.length : Int))), (7, (I x11)), (38, (V.bool true))], [], 43⟩ = some ⟨[(2, (V.bool false))], [], 43⟩ :=
  rE rfl
theorem f53r8 (k : Nat) (a0 : (List T_api_Slot)) (x11 : Int) : RE k f53a8 f53o8 false ⟨[(0, (sSlot a0)), (5, (sSlot a0)), (6, (I (a0.length : Int))), (7, (I x11)), (38, (V.bool false))], [], 43⟩ = some ⟨[(0, (sSlot a0)), (5, (sSlot a0)), (6, (I (a0.length : Int))), (7, (I (Go.IntKind.wrap .i64 (x11 + 1))))], [], 43⟩ :=
  rE rfl
theorem screen_areSlots_L1_ok (k : Nat) (a0 : (List T_api_Slot))  (K0 : Int → Option Bool) (Kst : X × St → Option (V × List V)) (hK0 : ∀ (y0 : Int), Kst (X.exit 0, ⟨[(0, (sSlot a0)), (5, (sSlot a0)), (6, (I (a0.length : Int))), (7, (I y0)), (8, (V.bool false))], [], 43⟩) = (K0 y0).map screen_areSlots_fin) (hret : ∀ s, Kst (X.ret, s) = endK prog 43 [(sSlot a0)] [] [.tmp 2] (X.ret, s)) :
    ∀ (m : Nat) (x11 : Int), (iter (exec prog (EV k) f53n k f53b0) m ⟨[(0, (sSlot a0)), (5, (sSlot a0)), (6, (I (a0.length : Int))), (7, (I x11))], [], 43⟩).bind Kst = (screen_areSlots_L1 k a0 K0 m x11).map screen_areSlots_fin := by
  intro m
  induction m with
  | zero => intros; rfl
  | succ m ih =>
    intro x11
    unfold screen_areSlots_L1
    refine Eq.trans k_round ?_
    refine Eq.trans (k_region0 rfl (f53r2 k a0 x11)) ?_
    refine Eq.trans (k_cond (t := (decide (x11 < (a0.length : Int)))) rfl rfl) ?_
    refine bifE2 (fun hc => ?_) fun hc => ?_
    · rw [hc]
      refine Eq.trans k_skip ?_
      refine Eq.trans (k_block rfl) ?_
      refine Eq.trans (k_region rfl (f53r3 k a0 x11)) ?_
      refine bindE (fun o13 => ?_)
      refine Eq.trans k_assoc ?_
      refine Eq.trans (k_region rfl (f53r4 k a0 x11 o13)) ?_
      refine bindE (fun o18 => ?_)
      refine Eq.trans (k_cond (t := o18) rfl rfl) ?_
      refine bifE2 (fun hc => ?_) fun hc => ?_
      · rw [hc]
        refine Eq.trans k_assoc ?_
        refine Eq.trans (k_region0 rfl (f53r5 k a0 x11 o13)) ?_
        refine Eq.trans k_ret ?_
        refine Eq.trans blk_ret ?_
        refine Eq.trans loop_ret ?_
        refine Eq.trans (hret _) ?_
        rfl
      · rw [hc]
        refine Eq.trans k_skip ?_
        refine Eq.trans (k_region rfl (f53r6 k a0 x11 o13)) ?_
        refine bindE (fun o21 => ?_)
        refine Eq.trans (k_lcond (t := o21) rfl rfl) ?_
        refine bifE2 (fun hc => ?_) fun hc => ?_
        · rw [hc]
          refine Eq.trans (k_region0 rfl (f53r7 k a0 x11)) ?_
          refine Eq.trans k_lret ?_
          refine Eq.trans blk_ret ?_
          refine Eq.trans loop_ret ?_
          refine Eq.trans (hret _) ?_
          rfl
        · rw [hc]
          refine Eq.trans k_lskip ?_
          refine Eq.trans blk_normal ?_
          refine Eq.trans (k_lregion0 rfl (f53r8 k a0 x11)) ?_
          refine Eq.trans loop_normal ?_
          exact ih (Go.IntKind.wrap .i64 (x11 + 1))
    · rw [hc]
      refine Eq.trans k_exit ?_
      refine Eq.trans loop_exit ?_
      exact hK0 x11
theorem f53r9 (k : Nat) (a0 : (List T_api_Slot)) (y22 : Int) : RE k f53a9 f53o9 false ⟨[(0, (sSlot a0)), (5, (sSlot a0)), (6, (I (a0.length : Int))), (7, (I y22)), (8, (V.bool false))], [], 43⟩ = some ⟨[(2, (V.bool (decide ((a0.length : Int) ≤ 10))))], [], 43⟩ := by
  refine rg ?_
  refine ra 1 1 ⟨[(0, (sSlot a0)), (5, (sSlot a0)), (6, (I (a0.length : Int))), (7, (I y22)), (8, (V.bool false)), (40, (sSlot a0))], [], 43⟩ rfl rfl rfl ?_
  refine Eq.trans (reg_pure (x := some ()) (w := fun _ => (I (a0.length : Int))) rfl rfl rfl rfl (p_len (e := enc_T_api_Slot) rfl rfl rfl rfl rfl rfl Go.Proofs.Try.underlying23)) ?_
  refine Eq.trans some_bind ?_
  exact bind_end rfl
theorem screen_areSlots_ok (k : Nat) (a0 : (List T_api_Slot)) : EV k 53 [(sSlot a0)] = (screen_areSlots k a0).map screen_areSlots_fin := by
  cases k with
  | zero => rfl
  | succ k =>
    unfold screen_areSlots
    refine Eq.trans (evF_succ (c := f53c) (N := 43) (regs := f53n) rfl Go.Proofs.Try.func53 rfl (by decide) rfl rfl rfl) ?_
    refine Eq.trans (k_region0 rfl (f53r0 k a0)) ?_
    refine Eq.trans k_assoc ?_
    refine Eq.trans (k_region0 rfl (f53r1 k a0)) ?_
    refine Eq.trans (k_block rfl) ?_
    refine Eq.trans k_loop ?_
    refine screen_areSlots_L1_ok k a0 _ _ ?h_screen_areSlots_L1_0 ?hr_screen_areSlots_L1 k 0
    · intro y22
      refine Eq.trans blk_exit ?_
      refine Eq.trans (k_region0 rfl (f53r9 k a0 y22)) ?_
      refine Eq.trans k_lret ?_
      rfl
    · intro s; exact rfl
def screen_isText_fin : Bool → V × List V := fun r => ((V.bool r), [])
theorem f48r0 (k : Nat) (a0 : Str) : RE k f48a0 f48o0 false ⟨[(0, (V.str a0))], [], 15⟩ = some ⟨[(0, (V.str a0))], [], 15⟩ :=
  rE rfl
theorem f48r1 (k : Nat) (a0 : Str) : RE k f48a1 f48o1 false ⟨[(0, (V.str a0))], [], 15⟩ = some ⟨[(0, (V.str a0)), (5, (I (a0.length : Int))), (6, (I 0))], [], 15⟩ :=
  rE rfl
theorem f48r2 (k : Nat) (a0 : Str) (x4 : Int) : RE k f48a2 f48o2 false ⟨[(0, (V.str a0)), (5, (I (a0.length : Int))), (6, (I x4))], [], 15⟩ = some ⟨[(0, (V.str a0)), (5, (I (a0.length : Int))), (6, (I x4)), (7, (V.bool (decide (x4 < (a0.length : Int)))))], [], 15⟩ :=
  rE rfl
theorem f48r3 (k : Nat) (a0 : Str) (x4 : Int) : RE k f48a3 f48o3 false ⟨[(0, (V.str a0)), (5, (I (a0.length : Int))), (6, (I x4)), (7, (V.bool true))], [], 15⟩ = some ⟨[(0, (V.str a0)), (3, (I x4)), (5, (I (a0.length : Int))), (6, (I x4))], [], 15⟩ :=
  rE rfl
theorem f48r4 (k : Nat) (a0 : Str) (x4 : Int) : RE k f48a4 f48o4 false ⟨[(0, (V.str a0)), (3, (I x4)), (5, (I (a0.length : Int))), (6, (I x4))], [], 15⟩ = (((idxS a0 x4).bind fun v5 => ((screen_isByte k v5).bind fun v6 => (some ((!v6)))))).map (fun (o : Bool) => (⟨[(0, (V.str a0)), (5, (I (a0.length : Int))), (6, (I x4)), (13, (V.bool o))], [], 15⟩ : St)) := by
  refine rg ?_
  refine ra 2 2 ⟨[(0, (V.str a0)), (3, (I x4)), (5, (I (a0.length : Int))), (6, (I x4)), (9, (V.str a0)), (10, (I x4))], [], 15⟩ rfl rfl rfl ?_
  refine Eq.trans (reg_pure (x := (idxS a0 x4)) (w := fun v5 => (V.int .u8 v5)) rfl rfl rfl rfl (p_indexS rfl rfl rfl Go.Proofs.Try.underlying9)) ?_
  refine bindE (fun v5 => ?_)
  refine ba 0 3 ⟨[(0, (V.str a0)), (3, (I x4)), (5, (I (a0.length : Int))), (6, (I x4)), (9, (V.str a0)), (10, (I x4)), (11, (V.int .u8 v5))], [], 15⟩ rfl rfl rfl ?_
  refine Eq.trans (reg_pure (x := (screen_isByte k v5)) (w := fun v6 => (V.bool v6)) rfl rfl rfl rfl (p_call rfl rfl rfl rfl rfl (screen_isByte_ok k v5) (.inl rfl))) ?_
  refine bindE (fun v6 => ?_)
  exact bind_end rfl
theorem f48r5 (k : Nat) (a0 : Str) (x4 : Int) : RE k f48a5 f48o5 false ⟨[(0, (V.str a0)), (5, (I (a0.length : Int))), (6, (I x4)), (13, (V.bool true))], [], 15⟩ = some ⟨[(2, (V.bool false))], [], 15⟩ :=
  rE rfl
theorem f48r6 (k : Nat) (a0 : Str) (x4 : Int) : RE k f48a6 f48o6 false ⟨[(0, (V.str a0)), (5, (I (a0.length : Int))), (6, (I x4)), (13, (V.bool false))], [], 15⟩ = some ⟨[(0, (V.str a0)), (5, (I (a0.length : Int))), (6, (I (Go.IntKind.wrap .i64 (x4 + 1))))], [], 15⟩ :=
  rE rfl
theorem screen_isText_L1_ok (k : Nat) (a0 : Str)  (K0 : Int → Option Bool) (Kst : X × St → Option (V × List V)) (hK0 : ∀ (y0 : Int), Kst (X.exit 0, ⟨[(0, (V.str a0)), (5, (I (a0.length : Int))), (6, (I y0)), (7, (V.bool false))], [], 15⟩) = (K0 y0).map screen_isText_fin) (hret : ∀ s, Kst (X.ret, s) = endK prog 15 [(V.str a0)] [] [.tmp 2] (X.ret, s)) :
    ∀ (m : Nat) (x4 : Int), (iter (exec prog (EV k) f48n k f48b0) m ⟨[(0, (V.str a0)), (5, (I (a0.length : Int))), (6, (I x4))], [], 15⟩).bind Kst = (screen_isText_L1 k a0 K0 m x4).map screen_isText_fin := by
  intro m
  induction m with
  | zero => intros; rfl
  | succ m ih =>
    intro x4
    unfold screen_isText_L1
    refine Eq.trans k_round ?_
    refine Eq.trans (k_region0 rfl (f48r2 k a0 x4)) ?_
    refine Eq.trans (k_cond (t := (decide (x4 < (a0.length : Int)))) rfl rfl) ?_
    refine bifE2 (fun hc => ?_) fun hc => ?_
    · rw [hc]
      refine Eq.trans k_skip ?_
      refine Eq.trans (k_block rfl) ?_
      refine Eq.trans (k_region0 rfl (f48r3 k a0 x4)) ?_
      refine Eq.trans (k_region rfl (f48r4 k a0 x4)) ?_
      refine bindE (fun o7 => ?_)
      refine Eq.trans (k_lcond (t := o7) rfl rfl) ?_
      refine bifE2 (fun hc => ?_) fun hc => ?_
      · rw [hc]
        refine Eq.trans (k_region0 rfl (f48r5 k a0 x4)) ?_
        refine Eq.trans k_lret ?_
        refine Eq.trans blk_ret ?_
        refine Eq.trans loop_ret ?_
        refine Eq.trans (hret _) ?_
        rfl
      · rw [hc]
        refine Eq.trans k_lskip ?_
        refine Eq.trans blk_normal ?_
        refine Eq.trans (k_lregion0 rfl (f48r6 k a0 x4)) ?_
        refine Eq.trans loop_normal ?_
        exact ih (Go.IntKind.wrap .i64 (x4 + 1))
    · rw [hc]
      refine Eq.trans k_exit ?_
      refine Eq.trans loop_exit ?_
      exact hK0 x4
theorem f48r7 (k : Nat) (a0 : Str) (y8 : Int) : RE k f48a7 f48o7 false ⟨[(0, (V.str a0)), (5, (I (a0.length : Int))), (6, (I y8)), (7, (V.bool false))], [], 15⟩ = some ⟨[(2, (V.bool true))], [], 15⟩ :=
  rE rfl
theorem screen_isText_ok (k : Nat) (a0 : Str) : EV k 48 [(V.str a0)] = (screen_isText k a0).map screen_isText_fin := by
  cases k with
  | zero => rfl
  | succ k =>
    unfold screen_isText
    refine Eq.trans (evF_succ (c := f48c) (N := 15) (regs := f48n) rfl Go.Proofs.Try.func48 rfl (by decide) rfl rfl rfl) ?_
    refine Eq.trans (k_region0 rfl (f48r0 k a0)) ?_
    refine Eq.trans k_assoc ?_
    refine Eq.trans (k_region0 rfl (f48r1 k a0)) ?_
    refine Eq.trans (k_block rfl) ?_
    refine Eq.trans k_loop ?_
    refine screen_isText_L1_ok k a0 _ _ ?h_screen_isText_L1_0 ?hr_screen_isText_L1 k 0
    · intro y8
      refine Eq.trans blk_exit ?_
      refine Eq.trans (k_region0 rfl (f48r7 k a0 y8)) ?_
      refine Eq.trans k_lret ?_
      rfl
    · intro s; exact rfl
def screen_lies_fin : Bool → V × List V := fun r => ((V.bool r), [])
theorem f54r0 (k : Nat) (a0 : T_api_Form) (a1 : Int) (a2 : Int) (a3 : Int) : RE k f54a0 f54o0 false ⟨[(0, (enc_T_api_Form a0)), (1, (I a1)), (2, (I a2)), (3, (I a3))], [], 39⟩ = some ⟨[(1, (I a1)), (2, (I a2)), (3, (I a3)), (4, (V.ptr 4 0 0))], [(4, ⟨false, 4, [(enc_T_api_Form a0)]⟩)], 39⟩ :=
  rE rfl
theorem f54r1 (k : Nat) (a0 : T_api_Form) (a1 : Int) (a2 : Int) (a3 : Int) : RE k f54a1 f54o1 false ⟨[(1, (I a1)), (2, (I a2)), (3, (I a3)), (4, (V.ptr 4 0 0))], [(4, ⟨false, 4, [(enc_T_api_Form a0)]⟩)], 39⟩ = ((bif (decide (a1 ≥ 0)) then (bif (decide (a1 < a0.fRows)) then (bif (decide (a2 ≥ 0)) then (bif (decide (a2 < a0.fColumns)) then (bif (decide (a3 ≥ 1)) then (some ((decide (a3 ≤ (Go.IntKind.wrap .i64 (a0.fColumns - a2)))))) else (some (false))) else (some (false))) else (some (false))) else (some (false))) else (some (false)))).map (fun (o : Bool) => (⟨[(8, (V.bool o))], [], 39⟩ : St)) := by
  refine rg ?_
  refine ra 3 3 ⟨[(1, (I a1)), (2, (I a2)), (3, (I a3)), (4, (V.ptr 4 0 0)), (9, (I a1)), (10, (V.bool (decide (a1 ≥ 0)))), (11, (V.bool (decide (a1 ≥ 0))))], [(4, ⟨false, 4, [(enc_T_api_Form a0)]⟩)], 39⟩ rfl rfl rfl ?_
  refine bifE (c := (decide (a1 ≥ 0))) (fun hc => ?_) fun hc => ?_
  · rw [hc]
    refine ra 6 9 ⟨[(1, (I a1)), (2, (I a2)), (3, (I a3)), (4, (V.ptr 4 0 0)), (9, (I a1)), (10, (V.bool true)), (11, (V.bool true)), (12, (I a1)), (13, (V.ptr 4 0 0)), (14, (I a0.fRows)), (15, (V.bool (decide (a1 < a0.fRows)))), (16, (V.bool (decide (a1 < a0.fRows)))), (17, (V.bool (decide (a1 < a0.fRows))))], [(4, ⟨false, 4, [(enc_T_api_Form a0)]⟩)], 39⟩ rfl rfl rfl ?_
    refine bifE (c := (decide (a1 < a0.fRows))) (fun hc => ?_) fun hc => ?_
    · rw [hc]
      refine ra 4 13 ⟨[(1, (I a1)), (2, (I a2)), (3, (I a3)), (4, (V.ptr 4 0 0)), (9, (I a1)), (10, (V.bool true)), (11, (V.bool true)), (12, (I a1)), (13, (V.ptr 4 0 0)), (14, (I a0.fRows)), (15, (V.bool true)), (16, (V.bool true)), (17, (V.bool true)), (18, (I a2)), (19, (V.bool (decide (a2 ≥ 0)))), (20, (V.bool (decide (a2 ≥ 0)))), (21, (V.bool (decide (a2 ≥ 0))))], [(4, ⟨false, 4, [(enc_T_api_Form a0)]⟩)], 39⟩ rfl rfl rfl ?_
      refine bifE (c := (decide (a2 ≥ 0))) (fun hc => ?_) fun hc => ?_
      · rw [hc]
        refine ra 6 19 ⟨[(1, (I a1)), (2, (I a2)), (3, (I a3)), (4, (V.ptr 4 0 0)), (9, (I a1)), (10, (V.bool true)), (11, (V.bool true)), (12, (I a1)), (13, (V.ptr 4 0 0)), (14, (I a0.fRows)), (15, (V.bool true)), (16, (V.bool true)), (17, (V.bool true)), (18, (I a2)), (19, (V.bool true)), (20, (V.bool true)), (21, (V.bool true)), (22, (I a2)), (23, (V.ptr 4 0 1)), (24, (I a0.fColumns)), (25, (V.bool (decide (a2 < a0.fColumns)))), (26, (V.bool (decide (a2 < a0.fColumns)))), (27, (V.bool (decide (a2 < a0.fColumns))))], [(4, ⟨false, 4, [(enc_T_api_Form a0)]⟩)], 39⟩ rfl rfl rfl ?_
        refine bifE (c := (decide (a2 < a0.fColumns))) (fun hc => ?_) fun hc => ?_
        · rw [hc]
          refine ra 4 23 ⟨[(1, (I a1)), (2, (I a2)), (3, (I a3)), (4, (V.ptr 4 0 0)), (9, (I a1)), (10, (V.bool true)), (11, (V.bool true)), (12, (I a1)), (13, (V.ptr 4 0 0)), (14, (I a0.fRows)), (15, (V.bool true)), (16, (V.bool true)), (17, (V.bool true)), (18, (I a2)), (19, (V.bool true)), (20, (V.bool true)), (21, (V.bool true)), (22, (I a2)), (23, (V.ptr 4 0 1)), (24, (I a0.fColumns)), (25, (V.bool true)), (26, (V.bool true)), (27, (V.bool true)), (28, (I a3)), (29, (V.bool (decide (a3 ≥ 1)))), (30, (V.bool (decide (a3 ≥ 1)))), (31, (V.bool (decide (a3 ≥ 1))))], [(4, ⟨false, 4, [(enc_T_api_Form a0)]⟩)], 39⟩ rfl rfl rfl ?_
          refine bifE (c := (decide (a3 ≥ 1))) (fun hc => ?_) fun hc => ?_
          · rw [hc]
            exact reg_end rfl
          · rw [hc]
            exact reg_end rfl
        · rw [hc]
          exact reg_end rfl
      · rw [hc]
        exact reg_end rfl
    · rw [hc]
      exact reg_end rfl
  · rw [hc]
    exact reg_end rfl
theorem screen_lies_ok (k : Nat) (a0 : T_api_Form) (a1 : Int) (a2 : Int) (a3 : Int) : EV k 54 [(enc_T_api_Form a0), (I a1), (I a2), (I a3)] = (screen_lies k a0 a1 a2 a3).map screen_lies_fin := by
  cases k with
  | zero => rfl
  | succ k =>
    unfold screen_lies
    refine Eq.trans (evF_succ (c := f54c) (N := 39) (regs := f54n) rfl Go.Proofs.Try.func54 rfl (by decide) rfl rfl rfl) ?_
    refine Eq.trans (k_region0 rfl (f54r0 k a0 a1 a2 a3)) ?_
    refine Eq.trans (k_region rfl (f54r1 k a0 a1 a2 a3)) ?_
    refine bindE (fun o1 => ?_)
    refine Eq.trans k_lret ?_
    rfl
def slices_IndexFunc_part_v10s75_fin : Int → V × List V := fun r => ((I r), [])
theorem f76r0 (k : Nat) (a0 : (List T_screen_part)) (a1 : Nat → T_screen_part → Option Bool) (a1_fid : Go.FuncId) (a1_d0 : T_screen_part) (a1_hok : ∀ j x0, EV j a1_fid [(enc_T_screen_part a1_d0), (enc_T_screen_part x0)] = (a1 j x0).map fun b => ((V.bool b), [])) : RE k f76a0 f76o0 false ⟨[(0, (spart (a0))), (1, (V.fn a1_fid [(enc_T_screen_part a1_d0)] []))], [], 19⟩ = some ⟨[(0, (spart (a0))), (1, (V.fn a1_fid [(enc_T_screen_part a1_d0)] []))], [], 19⟩ :=
  rE rfl
theorem f76r1 (k : Nat) (a0 : (List T_screen_part)) (a1 : Nat → T_screen_part → Option Bool) (a1_fid : Go.FuncId) (a1_d0 : T_screen_part) (a1_hok : ∀ j x0, EV j a1_fid [(enc_T_screen_part a1_d0), (enc_T_screen_part x0)] = (a1 j x0).map fun b => ((V.bool b), [])) : RE k f76a1 f76o1 false ⟨[(0, (spart (a0))), (1, (V.fn a1_fid [(enc_T_screen_part a1_d0)] []))], [], 19⟩ = some ⟨[(0, (spart (a0))), (1, (V.fn a1_fid [(enc_T_screen_part a1_d0)] [])), (7, (I (a0.length : Int))), (8, (I 0))], [], 19⟩ := by
  refine rg ?_
  refine ra 1 1 ⟨[(0, (spart (a0))), (1, (V.fn a1_fid [(enc_T_screen_part a1_d0)] [])), (6, (spart (a0)))], [], 19⟩ rfl rfl rfl ?_
  refine Eq.trans (reg_pure (x := some ()) (w := fun _ => (I (a0.length : Int))) rfl rfl rfl rfl (p_len (e := enc_T_screen_part) rfl rfl rfl rfl rfl rfl Go.Proofs.Try.underlying72)) ?_
  refine Eq.trans some_bind ?_
  exact bind_end rfl
theorem f76r2 (k : Nat) (a0 : (List T_screen_part)) (x4 : Int) (a1 : Nat → T_screen_part → Option Bool) (a1_fid : Go.FuncId) (a1_d0 : T_screen_part) (a1_hok : ∀ j x0, EV j a1_fid [(enc_T_screen_part a1_d0), (enc_T_screen_part x0)] = (a1 j x0).map fun b => ((V.bool b), [])) : RE k f76a2 f76o2 false ⟨[(0, (spart (a0))), (1, (V.fn a1_fid [(enc_T_screen_part a1_d0)] [])), (7, (I (a0.length : Int))), (8, (I x4))], [], 19⟩ = some ⟨[(0, (spart (a0))), (1, (V.fn a1_fid [(enc_T_screen_part a1_d0)] [])), (7, (I (a0.length : Int))), (8, (I x4)), (9, (V.bool (decide (x4 < (a0.length : Int)))))], [], 19⟩ :=
  rE rfl
theorem f76r3 (k : Nat) (a0 : (List T_screen_part)) (x4 : Int) (a1 : Nat → T_screen_part → Option Bool) (a1_fid : Go.FuncId) (a1_d0 : T_screen_part) (a1_hok : ∀ j x0, EV j a1_fid [(enc_T_screen_part a1_d0), (enc_T_screen_part x0)] = (a1 j x0).map fun b => ((V.bool b), [])) : RE k f76a3 f76o3 false ⟨[(0, (spart (a0))), (1, (V.fn a1_fid [(enc_T_screen_part a1_d0)] [])), (7, (I (a0.length : Int))), (8, (I x4)), (9, (V.bool true))], [], 19⟩ = some ⟨[(0, (spart (a0))), (1, (V.fn a1_fid [(enc_T_screen_part a1_d0)] [])), (5, (I x4)), (7, (I (a0.length : Int))), (8, (I x4))], [], 19⟩ :=
  rE rfl
theorem f76r4 (k : Nat) (a0 : (List T_screen_part)) (x4 : Int) (a1 : Nat → T_screen_part → Option Bool) (a1_fid : Go.FuncId) (a1_d0 : T_screen_part) (a1_hok : ∀ j x0, EV j a1_fid [(enc_T_screen_part a1_d0), (enc_T_screen_part x0)] = (a1 j x0).map fun b => ((V.bool b), [])) : RE k f76a4 f76o4 false ⟨[(0, (spart (a0))), (1, (V.fn a1_fid [(enc_T_screen_part a1_d0)] [])), (5, (I x4)), (7, (I (a0.length : Int))), (8, (I x4))], [], 19⟩ = (((idx a0 x4).bind fun v5 => (a1 k v5))).map (fun (o : Bool) => (⟨[(0, (spart (a0))), (1, (V.fn a1_fid [(enc_T_screen_part a1_d0)] [])), (5, (I x4)), (7, (I (a0.length : Int))), (8, (I x4)), (16, (V.bool o))], [], 19⟩ : St)) := by
  refine rg ?_
  refine ra 3 3 ⟨[(0, (spart (a0))), (1, (V.fn a1_fid [(enc_T_screen_part a1_d0)] [])), (5, (I x4)), (7, (I (a0.length : Int))), (8, (I x4)), (11, (V.fn a1_fid [(enc_T_screen_part a1_d0)] [])), (12, (spart (a0))), (13, (I x4))], [], 19⟩ rfl rfl rfl ?_
  refine Eq.trans (reg_pure (x := (idx a0 x4)) (w := fun v5 => (V.pro (enc_T_screen_part v5))) rfl rfl rfl rfl (p_index (e := enc_T_screen_part) rfl rfl rfl Go.Proofs.Try.underlying72 rfl (by decide))) ?_
  refine bindE (fun v5 => ?_)
  refine ba 1 5 ⟨[(0, (spart (a0))), (1, (V.fn a1_fid [(enc_T_screen_part a1_d0)] [])), (5, (I x4)), (7, (I (a0.length : Int))), (8, (I x4)), (11, (V.fn a1_fid [(enc_T_screen_part a1_d0)] [])), (12, (spart (a0))), (13, (I x4)), (14, (V.pro (enc_T_screen_part v5))), (15, (enc_T_screen_part v5))], [], 19⟩ rfl rfl rfl ?_
  refine Eq.trans (reg_pure (x := (a1 k v5)) (w := fun v6 => (V.bool v6)) rfl rfl rfl rfl (p_call rfl rfl rfl rfl rfl (a1_hok k v5) (.inl rfl))) ?_
  refine bind_self (fun v6 => ?_)
  exact bind_end rfl
theorem f76r5 (k : Nat) (a0 : (List T_screen_part)) (x4 : Int) (a1 : Nat → T_screen_part → Option Bool) (a1_fid : Go.FuncId) (a1_d0 : T_screen_part) (a1_hok : ∀ j x0, EV j a1_fid [(enc_T_screen_part a1_d0), (enc_T_screen_part x0)] = (a1 j x0).map fun b => ((V.bool b), [])) : RE k f76a5 f76o5 false ⟨[(0, (spart (a0))), (1, (V.fn a1_fid [(enc_T_screen_part a1_d0)] [])), (5, (I x4)), (7, (I (a0.length : Int))), (8, (I x4)), (16, (V.bool true))], [], 19⟩ = some ⟨[(4, (I x4))], [], 19⟩ :=
  rE rfl
theorem f76r6 (k : Nat) (a0 : (List T_screen_part)) (x4 : Int) (a1 : Nat → T_screen_part → Option Bool) (a1_fid : Go.FuncId) (a1_d0 : T_screen_part) (a1_hok : ∀ j x0, EV j a1_fid [(enc_T_screen_part a1_d0), (enc_T_screen_part x0)] = (a1 j x0).map fun b => ((V.bool b), [])) : RE k f76a6 f76o6 false ⟨[(0, (spart (a0))), (1, (V.fn a1_fid [(enc_T_screen_part a1_d0)] [])), (5, (I x4)), (7, (I (a0.length : Int))), (8, (I x4)), (16, (V.bool false))], [], 19⟩ = some ⟨[(0, (spart (a0))), (1, (V.fn a1_fid [(enc_T_screen_part a1_d0)] [])), (7, (I (a0.length : Int))), (8, (I (Go.IntKind.wrap .i64 (x4 + 1))))], [], 19⟩ :=
  rE rfl
theorem slices_IndexFunc_part_v10s75_L1_ok (k : Nat) (a0 : (List T_screen_part)) (a1 : Nat → T_screen_part → Option Bool) (a1_fid : Go.FuncId) (a1_d0 : T_screen_part) (a1_hok : ∀ j x0, EV j a1_fid [(enc_T_screen_part a1_d0), (enc_T_screen_part x0)] = (a1 j x0).map fun b => ((V.bool b), [])) (K0 : Int → Option Int) (Kst : X × St → Option (V × List V)) (hK0 : ∀ (y0 : Int), Kst (X.exit 0, ⟨[(0, (spart (a0))), (1, (V.fn a1_fid [(enc_T_screen_part a1_d0)] [])), (7, (I (a0.length : Int))), (8, (I y0)), (9, (V.bool false))], [], 19⟩) = (K0 y0).map slices_IndexFunc_part_v10s75_fin) (hret : ∀ s, Kst (X.ret, s) = endK prog 19 [(spart (a0)), (V.fn a1_fid [(enc_T_screen_part a1_d0)] [])] [] [.tmp 4] (X.ret, s)) :
    ∀ (m : Nat) (x4 : Int), (iter (exec prog (EV k) f76n k f76b0) m ⟨[(0, (spart (a0))), (1, (V.fn a1_fid [(enc_T_screen_part a1_d0)] [])), (7, (I (a0.length : Int))), (8, (I x4))], [], 19⟩).bind Kst = (slices_IndexFunc_part_v10s75_L1 k a0 a1 K0 m x4).map slices_IndexFunc_part_v10s75_fin := by
  intro m
  induction m with
  | zero => intros; rfl
  | succ m ih =>
    intro x4
    unfold slices_IndexFunc_part_v10s75_L1
    refine Eq.trans k_round ?_
    refine Eq.trans (k_region0 rfl (f76r2 k a0 x4 a1 a1_fid a1_d0 a1_hok)) ?_
    refine Eq.trans (k_cond (t := (decide (x4 < (a0.length : Int)))) rfl rfl) ?_
    refine bifE2 (fun hc => ?_) fun hc => ?_
    · rw [hc]
      refine Eq.trans k_skip ?_
      refine Eq.trans (k_block rfl) ?_
      refine Eq.trans (k_region0 rfl (f76r3 k a0 x4 a1 a1_fid a1_d0 a1_hok)) ?_
      refine Eq.trans (k_region rfl (f76r4 k a0 x4 a1 a1_fid a1_d0 a1_hok)) ?_
      refine bindE (fun o7 => ?_)
      refine Eq.trans (k_lcond (t := o7) rfl rfl) ?_
      refine bifE2 (fun hc => ?_) fun hc => ?_
      · rw [hc]
        refine Eq.trans (k_region0 rfl (f76r5 k a0 x4 a1 a1_fid a1_d0 a1_hok)) ?_
        refine Eq.trans k_lret ?_
        refine Eq.trans blk_ret ?_
        refine Eq.trans loop_ret ?_
        refine Eq.trans (hret _) ?_
        rfl
      · rw [hc]
        refine Eq.trans k_lskip ?_
        refine Eq.trans blk_normal ?_
        refine Eq.trans (k_lregion0 rfl (f76r6 k a0 x4 a1 a1_fid a1_d0 a1_hok)) ?_
        refine Eq.trans loop_normal ?_
        exact ih (Go.IntKind.wrap .i64 (x4 + 1))
    · rw [hc]
      refine Eq.trans k_exit ?_
      refine Eq.trans loop_exit ?_
      exact hK0 x4
theorem f76r7 (k : Nat) (a0 : (List T_screen_part)) (y8 : Int) (a1 : Nat → T_screen_part → Option Bool) (a1_fid : Go.FuncId) (a1_d0 : T_screen_part) (a1_hok : ∀ j x0, EV j a1_fid [(enc_T_screen_part a1_d0), (enc_T_screen_part x0)] = (a1 j x0).map fun b => ((V.bool b), [])) : RE k f76a7 f76o7 false ⟨[(0, (spart (a0))), (1, (V.fn a1_fid [(enc_T_screen_part a1_d0)] [])), (7, (I (a0.length : Int))), (8, (I y8)), (9, (V.bool false))], [], 19⟩ = some ⟨[(4, (I (-1)))], [], 19⟩ :=
  rE rfl
theorem slices_IndexFunc_part_v10s75_ok (k : Nat) (a0 : (List T_screen_part)) (a1 : Nat → T_screen_part → Option Bool) (a1_fid : Go.FuncId) (a1_d0 : T_screen_part) (a1_hok : ∀ j x0, EV j a1_fid [(enc_T_screen_part a1_d0), (enc_T_screen_part x0)] = (a1 j x0).map fun b => ((V.bool b), [])) : EV k 76 [(spart (a0)), (V.fn a1_fid [(enc_T_screen_part a1_d0)] [])] = (slices_IndexFunc_part_v10s75 k a0 a1).map slices_IndexFunc_part_v10s75_fin := by
  cases k with
  | zero => rfl
  | succ k =>
    unfold slices_IndexFunc_part_v10s75
    refine Eq.trans (evF_succ (c := f76c) (N := 19) (regs := f76n) rfl Go.Proofs.Try.func76 rfl (by decide) rfl rfl rfl) ?_
    refine Eq.trans (k_region0 rfl (f76r0 k a0 a1 a1_fid a1_d0 a1_hok)) ?_
    refine Eq.trans k_assoc ?_
    refine Eq.trans (k_region0 rfl (f76r1 k a0 a1 a1_fid a1_d0 a1_hok)) ?_
    refine Eq.trans (k_block rfl) ?_
    refine Eq.trans k_loop ?_
    refine slices_IndexFunc_part_v10s75_L1_ok k a0 a1 a1_fid a1_d0 a1_hok _ _ ?h_slices_IndexFunc_part_v10s75_L1_0 ?hr_slices_IndexFunc_part_v10s75_L1 k 0
    · intro y8
      refine Eq.trans blk_exit ?_
      refine Eq.trans (k_region0 rfl (f76r7 k a0 y8 a1 a1_fid a1_d0 a1_hok)) ?_
      refine Eq.trans k_lret ?_
      rfl
    · intro s; exact rfl
def slices_ContainsFunc_part_v10s75_fin : Bool → V × List V := fun r => ((V.bool r), [])
theorem f55r0 (k : Nat) (a0 : (List T_screen_part)) (a1 : Nat → T_screen_part → Option Bool) (a1_fid : Go.FuncId) (a1_d0 : T_screen_part) (a1_hok : ∀ j x0, EV j a1_fid [(enc_T_screen_part a1_d0), (enc_T_screen_part x0)] = (a1 j x0).map fun b => ((V.bool b), [])) : RE k f55a0 f55o0 false ⟨[(0, (spart (a0))), (1, (V.fn a1_fid [(enc_T_screen_part a1_d0)] []))], [], 9⟩ = some ⟨[(0, (spart (a0))), (1, (V.fn a1_fid [(enc_T_screen_part a1_d0)] []))], [], 9⟩ :=
  rE rfl
theorem f55r1 (k : Nat) (a0 : (List T_screen_part)) (a1 : Nat → T_screen_part → Option Bool) (a1_fid : Go.FuncId) (a1_d0 : T_screen_part) (a1_hok : ∀ j x0, EV j a1_fid [(enc_T_screen_part a1_d0), (enc_T_screen_part x0)] = (a1 j x0).map fun b => ((V.bool b), [])) : RE k f55a1 f55o1 false ⟨[(0, (spart (a0))), (1, (V.fn a1_fid [(enc_T_screen_part a1_d0)] []))], [], 9⟩ = (((slices_IndexFunc_part_v10s75 k a0 a1).bind fun v1 => (some ((decide (v1 ≥ 0)))))).map (fun (o : Bool) => (⟨[(4, (V.bool o))], [], 9⟩ : St)) := by
  refine rg ?_
  refine ra 2 2 ⟨[(0, (spart (a0))), (1, (V.fn a1_fid [(enc_T_screen_part a1_d0)] [])), (5, (spart (a0))), (6, (V.fn a1_fid [(enc_T_screen_part a1_d0)] []))], [], 9⟩ rfl rfl rfl ?_
  refine Eq.trans (reg_pure (x := (slices_IndexFunc_part_v10s75 k a0 a1)) (w := fun v1 => (I v1)) rfl rfl rfl rfl (p_call rfl rfl rfl rfl rfl (slices_IndexFunc_part_v10s75_ok k a0 a1 a1_fid a1_d0 a1_hok) (.inl rfl))) ?_
  refine bindE (fun v1 => ?_)
  exact bind_end rfl
theorem slices_ContainsFunc_part_v10s75_ok (k : Nat) (a0 : (List T_screen_part)) (a1 : Nat → T_screen_part → Option Bool) (a1_fid : Go.FuncId) (a1_d0 : T_screen_part) (a1_hok : ∀ j x0, EV j a1_fid [(enc_T_screen_part a1_d0), (enc_T_screen_part x0)] = (a1 j x0).map fun b => ((V.bool b), [])) : EV k 55 [(spart (a0)), (V.fn a1_fid [(enc_T_screen_part a1_d0)] [])] = (slices_ContainsFunc_part_v10s75 k a0 a1).map slices_ContainsFunc_part_v10s75_fin := by
  cases k with
  | zero => rfl
  | succ k =>
    unfold slices_ContainsFunc_part_v10s75
    refine Eq.trans (evF_succ (c := f55c) (N := 9) (regs := f55n) rfl Go.Proofs.Try.func55 rfl (by decide) rfl rfl rfl) ?_
    refine Eq.trans (k_region0 rfl (f55r0 k a0 a1 a1_fid a1_d0 a1_hok)) ?_
    refine Eq.trans (k_region rfl (f55r1 k a0 a1 a1_fid a1_d0 a1_hok)) ?_
    refine bindE (fun o2 => ?_)
    refine Eq.trans k_lret ?_
    rfl
def screen_part_meets_fin : Bool → V × List V := fun r => ((V.bool r), [])
theorem f56r0 (k : Nat) (a0 : T_screen_part) (a1 : T_screen_part) : RE k f56a0 f56o0 false ⟨[(0, (enc_T_screen_part a0)), (1, (enc_T_screen_part a1))], [], 30⟩ = some ⟨[(2, (V.ptr 2 0 0)), (3, (V.ptr 3 0 0))], [(2, ⟨false, 3, [(enc_T_screen_part a0)]⟩), (3, ⟨false, 3, [(enc_T_screen_part a1)]⟩)], 30⟩ :=
  rE rfl
theorem f56r1 (k : Nat) (a0 : T_screen_part) (a1 : T_screen_part) : RE k f56a1 f56o1 false ⟨[(2, (V.ptr 2 0 0)), (3, (V.ptr 3 0 0))], [(2, ⟨false, 3, [(enc_T_screen_part a0)]⟩), (3, ⟨false, 3, [(enc_T_screen_part a1)]⟩)], 30⟩ = ((bif (a0.frow == a1.frow) then (bif (decide (a0.fcolumn < (Go.IntKind.wrap .i64 (a1.fcolumn + a1.fn)))) then (some ((decide (a1.fcolumn < (Go.IntKind.wrap .i64 (a0.fcolumn + a0.fn)))))) else (some (false))) else (some (false)))).map (fun (o : Bool) => (⟨[(4, (V.bool o))], [], 30⟩ : St)) := by
  refine rg ?_
  refine ra 6 6 ⟨[(2, (V.ptr 2 0 0)), (3, (V.ptr 3 0 0)), (5, (V.ptr 2 0 0)), (6, (I a0.frow)), (7, (V.ptr 3 0 0)), (8, (I a1.frow)), (9, (V.bool (a0.frow == a1.frow))), (10, (V.bool (a0.frow == a1.frow)))], [(2, ⟨false, 3, [(enc_T_screen_part a0)]⟩), (3, ⟨false, 3, [(enc_T_screen_part a1)]⟩)], 30⟩ rfl rfl rfl ?_
  refine bifE (c := (a0.frow == a1.frow)) (fun hc => ?_) fun hc => ?_
  · rw [hc]
    refine ra 10 16 ⟨[(2, (V.ptr 2 0 0)), (3, (V.ptr 3 0 0)), (5, (V.ptr 2 0 0)), (6, (I a0.frow)), (7, (V.ptr 3 0 0)), (8, (I a1.frow)), (9, (V.bool true)), (10, (V.bool true)), (11, (V.ptr 2 0 1)), (12, (I a0.fcolumn)), (13, (V.ptr 3 0 1)), (14, (I a1.fcolumn)), (15, (V.ptr 3 0 2)), (16, (I a1.fn)), (17, (I (Go.IntKind.wrap .i64 (a1.fcolumn + a1.fn)))), (18, (V.bool (decide (a0.fcolumn < (Go.IntKind.wrap .i64 (a1.fcolumn + a1.fn)))))), (19, (V.bool (decide (a0.fcolumn < (Go.IntKind.wrap .i64 (a1.fcolumn + a1.fn)))))), (20, (V.bool (decide (a0.fcolumn < (Go.IntKind.wrap .i64 (a1.fcolumn + a1.fn))))))], [(2, ⟨false, 3, [(enc_T_screen_part a0)]⟩), (3, ⟨false, 3, [(enc_T_screen_part a1)]⟩)], 30⟩ rfl rfl rfl ?_
    refine bifE (c := (decide (a0.fcolumn < (Go.IntKind.wrap .i64 (a1.fcolumn + a1.fn))))) (fun hc => ?_) fun hc => ?_
    · rw [hc]
      exact reg_end rfl
    · rw [hc]
      exact reg_end rfl
  · rw [hc]
    exact reg_end rfl
theorem screen_part_meets_ok (k : Nat) (a0 : T_screen_part) (a1 : T_screen_part) : EV k 56 [(enc_T_screen_part a0), (enc_T_screen_part a1)] = (screen_part_meets k a0 a1).map screen_part_meets_fin := by
  cases k with
  | zero => rfl
  | succ k =>
    unfold screen_part_meets
    refine Eq.trans (evF_succ (c := f56c) (N := 30) (regs := f56n) rfl Go.Proofs.Try.func56 rfl (by decide) rfl rfl rfl) ?_
    refine Eq.trans (k_region0 rfl (f56r0 k a0 a1)) ?_
    refine Eq.trans (k_region rfl (f56r1 k a0 a1)) ?_
    refine bindE (fun o1 => ?_)
    refine Eq.trans k_lret ?_
    rfl
def screen_Valid_fin : Bool → V × List V := fun r => ((V.bool r), [])
theorem f24r0 (k : Nat) (a0 : T_api_Form) : RE k f24a0 f24o0 false ⟨[(0, (enc_T_api_Form a0))], [], 122⟩ = some ⟨[(1, (V.ptr 1 0 0))], [(1, ⟨false, 4, [(enc_T_api_Form a0)]⟩)], 122⟩ :=
  rE rfl
theorem f24r1 (k : Nat) (a0 : T_api_Form) : RE k f24a1 f24o1 false ⟨[(1, (V.ptr 1 0 0))], [(1, ⟨false, 4, [(enc_T_api_Form a0)]⟩)], 122⟩ = ((bif (decide (a0.fRows < 1)) then (some (true)) else (bif (decide (a0.fRows > 12)) then (some (true)) else (bif (decide (a0.fColumns < 10)) then (some (true)) else (bif (decide (a0.fColumns > 40)) then (some (true)) else (bif (decide ((a0.fMarks.length : Int) > 8)) then (some (true)) else ((screen_areSlots k a0.fFields).bind fun v1 => (some ((!v1)))))))))).map (fun (o : Bool) => (⟨[(1, (V.ptr 1 0 0)), (39, (V.bool o))], [(1, ⟨false, 4, [(enc_T_api_Form a0)]⟩)], 122⟩ : St)) := by
  refine rg ?_
  refine ra 4 4 ⟨[(1, (V.ptr 1 0 0)), (10, (V.ptr 1 0 0)), (11, (I a0.fRows)), (12, (V.bool (decide (a0.fRows < 1)))), (13, (V.bool (decide (a0.fRows < 1))))], [(1, ⟨false, 4, [(enc_T_api_Form a0)]⟩)], 122⟩ rfl rfl rfl ?_
  refine bifE (c := (decide (a0.fRows < 1))) (fun hc => ?_) fun hc => ?_
  · rw [hc]
    exact reg_end rfl
  · rw [hc]
    refine ra 5 9 ⟨[(1, (V.ptr 1 0 0)), (10, (V.ptr 1 0 0)), (11, (I a0.fRows)), (12, (V.bool false)), (13, (V.bool false)), (14, (V.ptr 1 0 0)), (15, (I a0.fRows)), (16, (V.bool (decide (a0.fRows > 12)))), (17, (V.bool (decide (a0.fRows > 12)))), (18, (V.bool (decide (a0.fRows > 12))))], [(1, ⟨false, 4, [(enc_T_api_Form a0)]⟩)], 122⟩ rfl rfl rfl ?_
    refine bifE (c := (decide (a0.fRows > 12))) (fun hc => ?_) fun hc => ?_
    · rw [hc]
      exact reg_end rfl
    · rw [hc]
      refine ra 5 14 ⟨[(1, (V.ptr 1 0 0)), (10, (V.ptr 1 0 0)), (11, (I a0.fRows)), (12, (V.bool false)), (13, (V.bool false)), (14, (V.ptr 1 0 0)), (15, (I a0.fRows)), (16, (V.bool false)), (17, (V.bool false)), (18, (V.bool false)), (19, (V.ptr 1 0 1)), (20, (I a0.fColumns)), (21, (V.bool (decide (a0.fColumns < 10)))), (22, (V.bool (decide (a0.fColumns < 10)))), (23, (V.bool (decide (a0.fColumns < 10))))], [(1, ⟨false, 4, [(enc_T_api_Form a0)]⟩)], 122⟩ rfl rfl rfl ?_
      refine bifE (c := (decide (a0.fColumns < 10))) (fun hc => ?_) fun hc => ?_
      · rw [hc]
        exact reg_end rfl
      · rw [hc]
        refine ra 5 19 ⟨[(1, (V.ptr 1 0 0)), (10, (V.ptr 1 0 0)), (11, (I a0.fRows)), (12, (V.bool false)), (13, (V.bool false)), (14, (V.ptr 1 0 0)), (15, (I a0.fRows)), (16, (V.bool false)), (17, (V.bool false)), (18, (V.bool false)), (19, (V.ptr 1 0 1)), (20, (I a0.fColumns)), (21, (V.bool false)), (22, (V.bool false)), (23, (V.bool false)), (24, (V.ptr 1 0 1)), (25, (I a0.fColumns)), (26, (V.bool (decide (a0.fColumns > 40)))), (27, (V.bool (decide (a0.fColumns > 40)))), (28, (V.bool (decide (a0.fColumns > 40))))], [(1, ⟨false, 4, [(enc_T_api_Form a0)]⟩)], 122⟩ rfl rfl rfl ?_
        refine bifE (c := (decide (a0.fColumns > 40))) (fun hc => ?_) fun hc => ?_
        · rw [hc]
          exact reg_end rfl
        · rw [hc]
          refine ra 2 21 ⟨[(1, (V.ptr 1 0 0)), (10, (V.ptr 1 0 0)), (11, (I a0.fRows)), (12, (V.bool false)), (13, (V.bool false)), (14, (V.ptr 1 0 0)), (15, (I a0.fRows)), (16, (V.bool false)), (17, (V.bool false)), (18, (V.bool false)), (19, (V.ptr 1 0 1)), (20, (I a0.fColumns)), (21, (V.bool false)), (22, (V.bool false)), (23, (V.bool false)), (24, (V.ptr 1 0 1)), (25, (I a0.fColumns)), (26, (V.bool false)), (27, (V.bool false)), (28, (V.bool false)), (29, (V.ptr 1 0 2)), (30, (sMark (a0.fMarks)))], [(1, ⟨false, 4, [(enc_T_api_Form a0)]⟩)], 122⟩ rfl rfl rfl ?_
          refine Eq.trans (reg_pure (x := some ()) (w := fun _ => (I (a0.fMarks.length : Int))) rfl rfl rfl rfl (p_len (e := enc_T_api_Mark) rfl rfl rfl rfl rfl rfl Go.Proofs.Try.underlying22)) ?_
          refine Eq.trans some_bind ?_
          refine ba 3 25 ⟨[(1, (V.ptr 1 0 0)), (10, (V.ptr 1 0 0)), (11, (I a0.fRows)), (12, (V.bool false)), (13, (V.bool false)), (14, (V.ptr 1 0 0)), (15, (I a0.fRows)), (16, (V.bool false)), (17, (V.bool false)), (18, (V.bool false)), (19, (V.ptr 1 0 1)), (20, (I a0.fColumns)), (21, (V.bool false)), (22, (V.bool false)), (23, (V.bool false)), (24, (V.ptr 1 0 1)), (25, (I a0.fColumns)), (26, (V.bool false)), (27, (V.bool false)), (28, (V.bool false)), (29, (V.ptr 1 0 2)), (30, (sMark (a0.fMarks))), (31, (I (a0.fMarks.length : Int))), (32, (V.bool (decide ((a0.fMarks.length : Int) > 8)))), (33, (V.bool (decide ((a0.fMarks.length : Int) > 8)))), (34, (V.bool (decide ((a0.fMarks.length : Int) > 8))))], [(1, ⟨false, 4, [(enc_T_api_Form a0)]⟩)], 122⟩ rfl rfl rfl ?_
          refine bifE (c := (decide ((a0.fMarks.length : Int) > 8))) (fun hc => ?_) fun hc => ?_
          · rw [hc]
            exact reg_end rfl
          · rw [hc]
            refine ra 2 27 ⟨[(1, (V.ptr 1 0 0)), (10, (V.ptr 1 0 0)), (11, (I a0.fRows)), (12, (V.bool false)), (13, (V.bool false)), (14, (V.ptr 1 0 0)), (15, (I a0.fRows)), (16, (V.bool false)), (17, (V.bool false)), (18, (V.bool false)), (19, (V.ptr 1 0 1)), (20, (I a0.fColumns)), (21, (V.bool false)), (22, (V.bool false)), (23, (V.bool false)), (24, (V.ptr 1 0 1)), (25, (I a0.fColumns)), (26, (V.bool false)), (27, (V.bool false)), (28, (V.bool false)), (29, (V.ptr 1 0 2)), (30, (sMark (a0.fMarks))), (31, (I (a0.fMarks.length : Int))), (32, (V.bool false)), (33, (V.bool false)), (34, (V.bool false)), (35, (V.ptr 1 0 3)), (36, (sSlot (a0.fFields)))], [(1, ⟨false, 4, [(enc_T_api_Form a0)]⟩)], 122⟩ rfl rfl rfl ?_
            refine Eq.trans (reg_pure (x := (screen_areSlots k a0.fFields)) (w := fun v1 => (V.bool v1)) rfl rfl rfl rfl (p_call rfl rfl rfl rfl rfl (screen_areSlots_ok k a0.fFields) (.inl rfl))) ?_
            refine bindE (fun v1 => ?_)
            exact bind_end rfl
theorem f24r2 (k : Nat) (a0 : T_api_Form) : RE k f24a2 f24o2 false ⟨[(1, (V.ptr 1 0 0)), (39, (V.bool true))], [(1, ⟨false, 4, [(enc_T_api_Form a0)]⟩)], 122⟩ = some ⟨[(2, (V.bool false))], [], 122⟩ :=
  rE rfl
theorem f24r3 (k : Nat) (a0 : T_api_Form) : RE k f24a3 f24o3 false ⟨[(1, (V.ptr 1 0 0)), (39, (V.bool false))], [(1, ⟨false, 4, [(enc_T_api_Form a0)]⟩)], 122⟩ = some ⟨[(1, (V.ptr 1 0 0)), (3, (V.sl 1 3 (List.map enc_T_screen_part ([] : List T_screen_part))))], [(1, ⟨false, 4, [(enc_T_api_Form a0)]⟩)], 122⟩ :=
  rE rfl
theorem f24r4 (k : Nat) (a0 : T_api_Form) : RE k f24a4 f24o4 false ⟨[(1, (V.ptr 1 0 0)), (3, (V.sl 1 3 (List.map enc_T_screen_part ([] : List T_screen_part))))], [(1, ⟨false, 4, [(enc_T_api_Form a0)]⟩)], 122⟩ = some ⟨[(1, (V.ptr 1 0 0)), (3, (V.sl 1 3 (List.map enc_T_screen_part ([] : List T_screen_part)))), (41, (sMark (a0.fMarks))), (42, (I (a0.fMarks.length : Int))), (43, (I 0))], [(1, ⟨false, 4, [(enc_T_api_Form a0)]⟩)], 122⟩ := by
  refine rg ?_
  refine ra 2 2 ⟨[(1, (V.ptr 1 0 0)), (3, (V.sl 1 3 (List.map enc_T_screen_part ([] : List T_screen_part)))), (40, (V.ptr 1 0 2)), (41, (sMark (a0.fMarks)))], [(1, ⟨false, 4, [(enc_T_api_Form a0)]⟩)], 122⟩ rfl rfl rfl ?_
  refine Eq.trans (reg_pure (x := some ()) (w := fun _ => (I (a0.fMarks.length : Int))) rfl rfl rfl rfl (p_len (e := enc_T_api_Mark) rfl rfl rfl rfl rfl rfl Go.Proofs.Try.underlying22)) ?_
  refine Eq.trans some_bind ?_
  exact bind_end rfl
theorem f24r5 (k : Nat) (a0 : T_api_Form) (x10 : (List T_screen_part)) (x11 : Int) : RE k f24a5 f24o5 false ⟨[(1, (V.ptr 1 0 0)), (3, (V.sl 1 3 (List.map enc_T_screen_part x10))), (41, (sMark (a0.fMarks))), (42, (I (a0.fMarks.length : Int))), (43, (I x11))], [(1, ⟨false, 4, [(enc_T_api_Form a0)]⟩)], 122⟩ = some ⟨[(1, (V.ptr 1 0 0)), (3, (V.sl 1 3 (List.map enc_T_screen_part x10))), (41, (sMark (a0.fMarks))), (42, (I (a0.fMarks.length : Int))), (43, (I x11)), (44, (V.bool (decide (x11 < (a0.fMarks.length : Int)))))], [(1, ⟨false, 4, [(enc_T_api_Form a0)]⟩)], 122⟩ :=
  rE rfl
theorem f24r6 (k : Nat) (a0 : T_api_Form) (x10 : (List T_screen_part)) (x11 : Int) : RE k f24a6 f24o6 false ⟨[(1, (V.ptr 1 0 0)), (3, (V.sl 1 3 (List.map enc_T_screen_part x10))), (41, (sMark (a0.fMarks))), (42, (I (a0.fMarks.length : Int))), (43, (I x11)), (44, (V.bool true))], [(1, ⟨false, 4, [(enc_T_api_Form a0)]⟩)], 122⟩ = ((idx a0.fMarks x11)).map (fun (o : T_api_Mark) => (⟨[(1, (V.ptr 1 0 0)), (3, (V.sl 1 3 (List.map enc_T_screen_part x10))), (5, (V.ptr 5 0 0)), (41, (sMark (a0.fMarks))), (42, (I (a0.fMarks.length : Int))), (43, (I x11))], [(1, ⟨false, 4, [(enc_T_api_Form a0)]⟩), (5, ⟨false, 3, [(enc_T_api_Mark o)]⟩)], 122⟩ : St)) := by
  refine rg ?_
  refine Eq.trans (reg_pure (x := (idx a0.fMarks x11)) (w := fun v12 => (V.pro (enc_T_api_Mark v12))) rfl rfl rfl rfl (p_index (e := enc_T_api_Mark) rfl rfl rfl Go.Proofs.Try.underlying22 rfl (by decide))) ?_
  refine bind_self (fun v12 => ?_)
  exact bind_end rfl
theorem f24r7 (k : Nat) (a0 : T_api_Form) (x10 : (List T_screen_part)) (x11 : Int) (o13 : T_api_Mark) : RE k f24a7 f24o7 false ⟨[(1, (V.ptr 1 0 0)), (3, (V.sl 1 3 (List.map enc_T_screen_part x10))), (5, (V.ptr 5 0 0)), (41, (sMark (a0.fMarks))), (42, (I (a0.fMarks.length : Int))), (43, (I x11))], [(1, ⟨false, 4, [(enc_T_api_Form a0)]⟩), (5, ⟨false, 3, [(enc_T_api_Mark o13)]⟩)], 122⟩ = ((bif (decide ((o13.fText.length : Int) > 40)) then (some (true)) else ((screen_isText k o13.fText).bind fun v14 => (bif (!v14) then (some (true)) else ((screen_lies k a0 o13.fRow o13.fColumn (o13.fText.length : Int)).bind fun v15 => (some ((!v15)))))))).map (fun (o : Bool) => (⟨[(1, (V.ptr 1 0 0)), (3, (V.sl 1 3 (List.map enc_T_screen_part x10))), (5, (V.ptr 5 0 0)), (41, (sMark (a0.fMarks))), (42, (I (a0.fMarks.length : Int))), (43, (I x11)), (68, (V.bool o))], [(1, ⟨false, 4, [(enc_T_api_Form a0)]⟩), (5, ⟨false, 3, [(enc_T_api_Mark o13)]⟩)], 122⟩ : St)) := by
  refine rg ?_
  refine ra 5 5 ⟨[(1, (V.ptr 1 0 0)), (3, (V.sl 1 3 (List.map enc_T_screen_part x10))), (5, (V.ptr 5 0 0)), (41, (sMark (a0.fMarks))), (42, (I (a0.fMarks.length : Int))), (43, (I x11)), (47, (V.ptr 5 0 2)), (48, (V.str o13.fText)), (49, (I (o13.fText.length : Int))), (50, (V.bool (decide ((o13.fText.length : Int) > 40)))), (51, (V.bool (decide ((o13.fText.length : Int) > 40))))], [(1, ⟨false, 4, [(enc_T_api_Form a0)]⟩), (5, ⟨false, 3, [(enc_T_api_Mark o13)]⟩)], 122⟩ rfl rfl rfl ?_
  refine bifE (c := (decide ((o13.fText.length : Int) > 40))) (fun hc => ?_) fun hc => ?_
  · rw [hc]
    exact reg_end rfl
  · rw [hc]
    refine ra 2 7 ⟨[(1, (V.ptr 1 0 0)), (3, (V.sl 1 3 (List.map enc_T_screen_part x10))), (5, (V.ptr 5 0 0)), (41, (sMark (a0.fMarks))), (42, (I (a0.fMarks.length : Int))), (43, (I x11)), (47, (V.ptr 5 0 2)), (48, (V.str o13.fText)), (49, (I (o13.fText.length : Int))), (50, (V.bool false)), (51, (V.bool false)), (52, (V.ptr 5 0 2)), (53, (V.str o13.fText))], [(1, ⟨false, 4, [(enc_T_api_Form a0)]⟩), (5, ⟨false, 3, [(enc_T_api_Mark o13)]⟩)], 122⟩ rfl rfl rfl ?_
    refine Eq.trans (reg_pure (x := (screen_isText k o13.fText)) (w := fun v14 => (V.bool v14)) rfl rfl rfl rfl (p_call rfl rfl rfl rfl rfl (screen_isText_ok k o13.fText) (.inl rfl))) ?_
    refine bindE (fun v14 => ?_)
    refine ba 3 11 ⟨[(1, (V.ptr 1 0 0)), (3, (V.sl 1 3 (List.map enc_T_screen_part x10))), (5, (V.ptr 5 0 0)), (41, (sMark (a0.fMarks))), (42, (I (a0.fMarks.length : Int))), (43, (I x11)), (47, (V.ptr 5 0 2)), (48, (V.str o13.fText)), (49, (I (o13.fText.length : Int))), (50, (V.bool false)), (51, (V.bool false)), (52, (V.ptr 5 0 2)), (53, (V.str o13.fText)), (54, (V.bool v14)), (55, (V.bool (!v14))), (56, (V.bool (!v14))), (57, (V.bool (!v14)))], [(1, ⟨false, 4, [(enc_T_api_Form a0)]⟩), (5, ⟨false, 3, [(enc_T_api_Mark o13)]⟩)], 122⟩ rfl rfl rfl ?_
    refine bifE (c := (!v14)) (fun hc => ?_) fun hc => ?_
    · rw [hc]
      exact reg_end rfl
    · rw [hc]
      refine ra 8 19 ⟨[(1, (V.ptr 1 0 0)), (3, (V.sl 1 3 (List.map enc_T_screen_part x10))), (5, (V.ptr 5 0 0)), (41, (sMark (a0.fMarks))), (42, (I (a0.fMarks.length : Int))), (43, (I x11)), (47, (V.ptr 5 0 2)), (48, (V.str o13.fText)), (49, (I (o13.fText.length : Int))), (50, (V.bool false)), (51, (V.bool false)), (52, (V.ptr 5 0 2)), (53, (V.str o13.fText)), (54, (V.bool v14)), (55, (V.bool false)), (56, (V.bool false)), (57, (V.bool false)), (58, (enc_T_api_Form a0)), (59, (V.ptr 5 0 0)), (60, (I o13.fRow)), (61, (V.ptr 5 0 1)), (62, (I o13.fColumn)), (63, (V.ptr 5 0 2)), (64, (V.str o13.fText)), (65, (I (o13.fText.length : Int)))], [(1, ⟨false, 4, [(enc_T_api_Form a0)]⟩), (5, ⟨false, 3, [(enc_T_api_Mark o13)]⟩)], 122⟩ rfl rfl rfl ?_
      refine Eq.trans (reg_pure (x := (screen_lies k a0 o13.fRow o13.fColumn (o13.fText.length : Int))) (w := fun v15 => (V.bool v15)) rfl rfl rfl rfl (p_call rfl rfl rfl rfl rfl (screen_lies_ok k a0 o13.fRow o13.fColumn (o13.fText.length : Int)) (.inl rfl))) ?_
      refine bindE (fun v15 => ?_)
      exact bind_end rfl
theorem f24r8 (k : Nat) (a0 : T_api_Form) (x10 : (List T_screen_part)) (x11 : Int) (o13 : T_api_Mark) : RE k f24a8 f24o8 false ⟨[(1, (V.ptr 1 0 0)), (3, (V.sl 1 3 (List.map enc_T_screen_part x10))), (5, (V.ptr 5 0 0)), (41, (sMark (a0.fMarks))), (42, (I (a0.fMarks.length : Int))), (43, (I x11)), (68, (V.bool true))], [(1, ⟨false, 4, [(enc_T_api_Form a0)]⟩), (5, ⟨false, 3, [(enc_T_api_Mark o13)]⟩)], 122⟩ = some ⟨[(2, (V.bool false))], [], 122⟩ :=
  rE rfl
theorem f24r9 (k : Nat) (a0 : T_api_Form) (x10 : (List T_screen_part)) (x11 : Int) (o13 : T_api_Mark) : RE k f24a9 f24o9 false ⟨[(1, (V.ptr 1 0 0)), (3, (V.sl 1 3 (List.map enc_T_screen_part x10))), (5, (V.ptr 5 0 0)), (41, (sMark (a0.fMarks))), (42, (I (a0.fMarks.length : Int))), (43, (I x11)), (68, (V.bool false))], [(1, ⟨false, 4, [(enc_T_api_Form a0)]⟩), (5, ⟨false, 3, [(enc_T_api_Mark o13)]⟩)], 122⟩ = ((app x10 ([({ frow := o13.fRow, fcolumn := o13.fColumn, fn := (o13.fText.length : Int) } : T_screen_part)] : List T_screen_part))).map (fun (o : (List T_screen_part)) => (⟨[(1, (V.ptr 1 0 0)), (3, (V.sl 1 3 (List.map enc_T_screen_part o))), (41, (sMark (a0.fMarks))), (42, (I (a0.fMarks.length : Int))), (43, (I x11))], [(1, ⟨false, 4, [(enc_T_api_Form a0)]⟩)], 122⟩ : St)) := by
  refine rg ?_
  refine ra 10 10 ⟨[(1, (V.ptr 1 0 0)), (3, (spart (x10))), (5, (V.ptr 5 0 0)), (41, (sMark (a0.fMarks))), (42, (I (a0.fMarks.length : Int))), (43, (I x11)), (68, (V.bool false)), (69, (V.sl 1 3 (List.map enc_T_screen_part x10))), (70, (V.ptr 5 0 0)), (71, (I o13.fRow)), (72, (V.ptr 5 0 1)), (73, (I o13.fColumn)), (74, (V.ptr 5 0 2)), (75, (V.str o13.fText)), (76, (I (o13.fText.length : Int))), (77, (enc_T_screen_part ({ frow := o13.fRow, fcolumn := o13.fColumn, fn := (o13.fText.length : Int) } : T_screen_part))), (78, (spart (([({ frow := o13.fRow, fcolumn := o13.fColumn, fn := (o13.fText.length : Int) } : T_screen_part)] : List T_screen_part))))], [(1, ⟨false, 4, [(enc_T_api_Form a0)]⟩), (5, ⟨false, 3, [(enc_T_api_Mark o13)]⟩)], 122⟩ rfl rfl rfl ?_
  refine Eq.trans (reg_eff (x := (app x10 ([({ frow := o13.fRow, fcolumn := o13.fColumn, fn := (o13.fText.length : Int) } : T_screen_part)] : List T_screen_part))) (w := fun v17 => ((V.sl 1 3 (List.map enc_T_screen_part v17)), _)) rfl rfl rfl rfl (p_app (e := enc_T_screen_part) rfl rfl rfl rfl rfl rfl rfl rfl rfl rfl (by decide))) ?_
  refine bind_self (fun v17 => ?_)
  exact bind_end rfl
theorem f24r10 (k : Nat) (a0 : T_api_Form) (x11 : Int) (o18 : (List T_screen_part)) : RE k f24a10 f24o10 false ⟨[(1, (V.ptr 1 0 0)), (3, (V.sl 1 3 (List.map enc_T_screen_part o18))), (41, (sMark (a0.fMarks))), (42, (I (a0.fMarks.length : Int))), (43, (I x11))], [(1, ⟨false, 4, [(enc_T_api_Form a0)]⟩)], 122⟩ = some ⟨[(1, (V.ptr 1 0 0)), (3, (V.sl 1 3 (List.map enc_T_screen_part o18))), (41, (sMark (a0.fMarks))), (42, (I (a0.fMarks.length : Int))), (43, (I (Go.IntKind.wrap .i64 (x11 + 1))))], [(1, ⟨false, 4, [(enc_T_api_Form a0)]⟩)], 122⟩ :=
  rE rfl
theorem screen_Valid_L1_ok (k : Nat) (a0 : T_api_Form)  (K0 : (List T_screen_part) → Int → Option Bool) (Kst : X × St → Option (V × List V)) (hK0 : ∀ (y0 : (List T_screen_part)) (y1 : Int), Kst (X.exit 0, ⟨[(1, (V.ptr 1 0 0)), (3, (V.sl 1 3 (List.map enc_T_screen_part y0))), (41, (sMark (a0.fMarks))), (42, (I (a0.fMarks.length : Int))), (43, (I y1)), (44, (V.bool false))], [(1, ⟨false, 4, [(enc_T_api_Form a0)]⟩)], 122⟩) = (K0 y0 y1).map screen_Valid_fin) (hret : ∀ s, Kst (X.ret, s) = endK prog 122 [(enc_T_api_Form a0)] [] [.tmp 2] (X.ret, s)) :
    ∀ (m : Nat) (x10 : (List T_screen_part)) (x11 : Int), (iter (exec prog (EV k) f24n k f24b0) m ⟨[(1, (V.ptr 1 0 0)), (3, (V.sl 1 3 (List.map enc_T_screen_part x10))), (41, (sMark (a0.fMarks))), (42, (I (a0.fMarks.length : Int))), (43, (I x11))], [(1, ⟨false, 4, [(enc_T_api_Form a0)]⟩)], 122⟩).bind Kst = (screen_Valid_L1 k a0 K0 m x10 x11).map screen_Valid_fin := by
  intro m
  induction m with
  | zero => intros; rfl
  | succ m ih =>
    intro x10 x11
    unfold screen_Valid_L1
    refine Eq.trans k_round ?_
    refine Eq.trans (k_region0 rfl (f24r5 k a0 x10 x11)) ?_
    refine Eq.trans (k_cond (t := (decide (x11 < (a0.fMarks.length : Int)))) rfl rfl) ?_
    refine bifE2 (fun hc => ?_) fun hc => ?_
    · rw [hc]
      refine Eq.trans k_skip ?_
      refine Eq.trans (k_block rfl) ?_
      refine Eq.trans (k_region rfl (f24r6 k a0 x10 x11)) ?_
      refine bindE (fun o13 => ?_)
      refine Eq.trans k_assoc ?_
      refine Eq.trans (k_region rfl (f24r7 k a0 x10 x11 o13)) ?_
      refine bindE (fun o16 => ?_)
      refine Eq.trans (k_cond (t := o16) rfl rfl) ?_
      refine bifE2 (fun hc => ?_) fun hc => ?_
      · rw [hc]
        refine Eq.trans k_assoc ?_
        refine Eq.trans (k_region0 rfl (f24r8 k a0 x10 x11 o13)) ?_
        refine Eq.trans k_ret ?_
        refine Eq.trans blk_ret ?_
        refine Eq.trans loop_ret ?_
        refine Eq.trans (hret _) ?_
        rfl
      · rw [hc]
        refine Eq.trans k_skip ?_
        refine Eq.trans (k_lregion rfl (f24r9 k a0 x10 x11 o13)) ?_
        refine bindE (fun o18 => ?_)
        refine Eq.trans blk_normal ?_
        refine Eq.trans (k_lregion0 rfl (f24r10 k a0 x11 o18)) ?_
        refine Eq.trans loop_normal ?_
        exact ih o18 (Go.IntKind.wrap .i64 (x11 + 1))
    · rw [hc]
      refine Eq.trans k_exit ?_
      refine Eq.trans loop_exit ?_
      exact hK0 x10 x11
theorem f24r11 (k : Nat) (a0 : T_api_Form) (y19 : (List T_screen_part)) (y20 : Int) : RE k f24a11 f24o11 false ⟨[(1, (V.ptr 1 0 0)), (3, (V.sl 1 3 (List.map enc_T_screen_part y19))), (41, (sMark (a0.fMarks))), (42, (I (a0.fMarks.length : Int))), (43, (I y20)), (44, (V.bool false))], [(1, ⟨false, 4, [(enc_T_api_Form a0)]⟩)], 122⟩ = some ⟨[(1, (V.ptr 1 0 0)), (3, (V.sl 1 3 (List.map enc_T_screen_part y19))), (82, (sSlot (a0.fFields))), (83, (I (a0.fFields.length : Int))), (84, (I 0))], [(1, ⟨false, 4, [(enc_T_api_Form a0)]⟩)], 122⟩ := by
  refine rg ?_
  refine ra 2 2 ⟨[(1, (V.ptr 1 0 0)), (3, (V.sl 1 3 (List.map enc_T_screen_part y19))), (41, (sMark (a0.fMarks))), (42, (I (a0.fMarks.length : Int))), (43, (I y20)), (44, (V.bool false)), (81, (V.ptr 1 0 3)), (82, (sSlot (a0.fFields)))], [(1, ⟨false, 4, [(enc_T_api_Form a0)]⟩)], 122⟩ rfl rfl rfl ?_
  refine Eq.trans (reg_pure (x := some ()) (w := fun _ => (I (a0.fFields.length : Int))) rfl rfl rfl rfl (p_len (e := enc_T_api_Slot) rfl rfl rfl rfl rfl rfl Go.Proofs.Try.underlying23)) ?_
  refine Eq.trans some_bind ?_
  exact bind_end rfl
theorem f24r12 (k : Nat) (a0 : T_api_Form) (x27 : (List T_screen_part)) (x28 : Int) : RE k f24a12 f24o12 false ⟨[(1, (V.ptr 1 0 0)), (3, (V.sl 1 3 (List.map enc_T_screen_part x27))), (82, (sSlot (a0.fFields))), (83, (I (a0.fFields.length : Int))), (84, (I x28))], [(1, ⟨false, 4, [(enc_T_api_Form a0)]⟩)], 122⟩ = some ⟨[(1, (V.ptr 1 0 0)), (3, (V.sl 1 3 (List.map enc_T_screen_part x27))), (82, (sSlot (a0.fFields))), (83, (I (a0.fFields.length : Int))), (84, (I x28)), (85, (V.bool (decide (x28 < (a0.fFields.length : Int)))))], [(1, ⟨false, 4, [(enc_T_api_Form a0)]⟩)], 122⟩ :=
  rE rfl
theorem f24r13 (k : Nat) (a0 : T_api_Form) (x27 : (List T_screen_part)) (x28 : Int) : RE k f24a13 f24o13 false ⟨[(1, (V.ptr 1 0 0)), (3, (V.sl 1 3 (List.map enc_T_screen_part x27))), (82, (sSlot (a0.fFields))), (83, (I (a0.fFields.length : Int))), (84, (I x28)), (85, (V.bool true))], [(1, ⟨false, 4, [(enc_T_api_Form a0)]⟩)], 122⟩ = ((idx a0.fFields x28)).map (fun (o : T_api_Slot) => (⟨[(1, (V.ptr 1 0 0)), (3, (V.sl 1 3 (List.map enc_T_screen_part x27))), (7, (V.ptr 7 0 0)), (82, (sSlot (a0.fFields))), (83, (I (a0.fFields.length : Int))), (84, (I x28))], [(1, ⟨false, 4, [(enc_T_api_Form a0)]⟩), (7, ⟨false, 7, [(enc_T_api_Slot o)]⟩)], 122⟩ : St)) := by
  refine rg ?_
  refine Eq.trans (reg_pure (x := (idx a0.fFields x28)) (w := fun v29 => (V.pro (enc_T_api_Slot v29))) rfl rfl rfl rfl (p_index (e := enc_T_api_Slot) rfl rfl rfl Go.Proofs.Try.underlying23 rfl (by decide))) ?_
  refine bind_self (fun v29 => ?_)
  exact bind_end rfl
theorem f24r14 (k : Nat) (a0 : T_api_Form) (x27 : (List T_screen_part)) (x28 : Int) (o30 : T_api_Slot) : RE k f24a14 f24o14 false ⟨[(1, (V.ptr 1 0 0)), (3, (V.sl 1 3 (List.map enc_T_screen_part x27))), (7, (V.ptr 7 0 0)), (82, (sSlot (a0.fFields))), (83, (I (a0.fFields.length : Int))), (84, (I x28))], [(1, ⟨false, 4, [(enc_T_api_Form a0)]⟩), (7, ⟨false, 7, [(enc_T_api_Slot o30)]⟩)], 122⟩ = (((screen_lies k a0 o30.fRow o30.fColumn o30.fBytes).bind fun v31 => (some ((!v31))))).map (fun (o : Bool) => (⟨[(1, (V.ptr 1 0 0)), (3, (V.sl 1 3 (List.map enc_T_screen_part x27))), (7, (V.ptr 7 0 0)), (82, (sSlot (a0.fFields))), (83, (I (a0.fFields.length : Int))), (84, (I x28)), (96, (V.bool o))], [(1, ⟨false, 4, [(enc_T_api_Form a0)]⟩), (7, ⟨false, 7, [(enc_T_api_Slot o30)]⟩)], 122⟩ : St)) := by
  refine rg ?_
  refine ra 7 7 ⟨[(1, (V.ptr 1 0 0)), (3, (V.sl 1 3 (List.map enc_T_screen_part x27))), (7, (V.ptr 7 0 0)), (82, (sSlot (a0.fFields))), (83, (I (a0.fFields.length : Int))), (84, (I x28)), (88, (enc_T_api_Form a0)), (89, (V.ptr 7 0 1)), (90, (I o30.fRow)), (91, (V.ptr 7 0 2)), (92, (I o30.fColumn)), (93, (V.ptr 7 0 3)), (94, (I o30.fBytes))], [(1, ⟨false, 4, [(enc_T_api_Form a0)]⟩), (7, ⟨false, 7, [(enc_T_api_Slot o30)]⟩)], 122⟩ rfl rfl rfl ?_
  refine Eq.trans (reg_pure (x := (screen_lies k a0 o30.fRow o30.fColumn o30.fBytes)) (w := fun v31 => (V.bool v31)) rfl rfl rfl rfl (p_call rfl rfl rfl rfl rfl (screen_lies_ok k a0 o30.fRow o30.fColumn o30.fBytes) (.inl rfl))) ?_
  refine bindE (fun v31 => ?_)
  exact bind_end rfl
theorem f24r15 (k : Nat) (a0 : T_api_Form) (x27 : (List T_screen_part)) (x28 : Int) (o30 : T_api_Slot) : RE k f24a15 f24o15 false ⟨[(1, (V.ptr 1 0 0)), (3, (V.sl 1 3 (List.map enc_T_screen_part x27))), (7, (V.ptr 7 0 0)), (82, (sSlot (a0.fFields))), (83, (I (a0.fFields.length : Int))), (84, (I x28)), (96, (V.bool true))], [(1, ⟨false, 4, [(enc_T_api_Form a0)]⟩), (7, ⟨false, 7, [(enc_T_api_Slot o30)]⟩)], 122⟩ = some ⟨[(2, (V.bool false))], [], 122⟩ :=
  rE rfl
theorem f24r16 (k : Nat) (a0 : T_api_Form) (x27 : (List T_screen_part)) (x28 : Int) (o30 : T_api_Slot) : RE k f24a16 f24o16 false ⟨[(1, (V.ptr 1 0 0)), (3, (V.sl 1 3 (List.map enc_T_screen_part x27))), (7, (V.ptr 7 0 0)), (82, (sSlot (a0.fFields))), (83, (I (a0.fFields.length : Int))), (84, (I x28)), (96, (V.bool false))], [(1, ⟨false, 4, [(enc_T_api_Form a0)]⟩), (7, ⟨false, 7, [(enc_T_api_Slot o30)]⟩)], 122⟩ = ((app x27 ([({ frow := o30.fRow, fcolumn := o30.fColumn, fn := o30.fBytes } : T_screen_part)] : List T_screen_part))).map (fun (o : (List T_screen_part)) => (⟨[(1, (V.ptr 1 0 0)), (3, (V.sl 1 3 (List.map enc_T_screen_part o))), (82, (sSlot (a0.fFields))), (83, (I (a0.fFields.length : Int))), (84, (I x28))], [(1, ⟨false, 4, [(enc_T_api_Form a0)]⟩)], 122⟩ : St)) := by
  refine rg ?_
  refine ra 9 9 ⟨[(1, (V.ptr 1 0 0)), (3, (spart (x27))), (7, (V.ptr 7 0 0)), (82, (sSlot (a0.fFields))), (83, (I (a0.fFields.length : Int))), (84, (I x28)), (96, (V.bool false)), (97, (V.sl 1 3 (List.map enc_T_screen_part x27))), (98, (V.ptr 7 0 1)), (99, (I o30.fRow)), (100, (V.ptr 7 0 2)), (101, (I o30.fColumn)), (102, (V.ptr 7 0 3)), (103, (I o30.fBytes)), (104, (enc_T_screen_part ({ frow := o30.fRow, fcolumn := o30.fColumn, fn := o30.fBytes } : T_screen_part))), (105, (spart (([({ frow := o30.fRow, fcolumn := o30.fColumn, fn := o30.fBytes } : T_screen_part)] : List T_screen_part))))], [(1, ⟨false, 4, [(enc_T_api_Form a0)]⟩), (7, ⟨false, 7, [(enc_T_api_Slot o30)]⟩)], 122⟩ rfl rfl rfl ?_
  refine Eq.trans (reg_eff (x := (app x27 ([({ frow := o30.fRow, fcolumn := o30.fColumn, fn := o30.fBytes } : T_screen_part)] : List T_screen_part))) (w := fun v33 => ((V.sl 1 3 (List.map enc_T_screen_part v33)), _)) rfl rfl rfl rfl (p_app (e := enc_T_screen_part) rfl rfl rfl rfl rfl rfl rfl rfl rfl rfl (by decide))) ?_
  refine bind_self (fun v33 => ?_)
  exact bind_end rfl
theorem f24r17 (k : Nat) (a0 : T_api_Form) (x28 : Int) (o34 : (List T_screen_part)) : RE k f24a17 f24o17 false ⟨[(1, (V.ptr 1 0 0)), (3, (V.sl 1 3 (List.map enc_T_screen_part o34))), (82, (sSlot (a0.fFields))), (83, (I (a0.fFields.length : Int))), (84, (I x28))], [(1, ⟨false, 4, [(enc_T_api_Form a0)]⟩)], 122⟩ = some ⟨[(1, (V.ptr 1 0 0)), (3, (V.sl 1 3 (List.map enc_T_screen_part o34))), (82, (sSlot (a0.fFields))), (83, (I (a0.fFields.length : Int))), (84, (I (Go.IntKind.wrap .i64 (x28 + 1))))], [(1, ⟨false, 4, [(enc_T_api_Form a0)]⟩)], 122⟩ :=
  rE rfl
theorem screen_Valid_L2_ok (k : Nat) (a0 : T_api_Form)  (K0 : (List T_screen_part) → Int → Option Bool) (Kst : X × St → Option (V × List V)) (hK0 : ∀ (y0 : (List T_screen_part)) (y1 : Int), Kst (X.exit 2, ⟨[(1, (V.ptr 1 0 0)), (3, (V.sl 1 3 (List.map enc_T_screen_part y0))), (82, (sSlot (a0.fFields))), (83, (I (a0.fFields.length : Int))), (84, (I y1)), (85, (V.bool false))], [(1, ⟨false, 4, [(enc_T_api_Form a0)]⟩)], 122⟩) = (K0 y0 y1).map screen_Valid_fin) (hret : ∀ s, Kst (X.ret, s) = endK prog 122 [(enc_T_api_Form a0)] [] [.tmp 2] (X.ret, s)) :
    ∀ (m : Nat) (x27 : (List T_screen_part)) (x28 : Int), (iter (exec prog (EV k) f24n k f24b1) m ⟨[(1, (V.ptr 1 0 0)), (3, (V.sl 1 3 (List.map enc_T_screen_part x27))), (82, (sSlot (a0.fFields))), (83, (I (a0.fFields.length : Int))), (84, (I x28))], [(1, ⟨false, 4, [(enc_T_api_Form a0)]⟩)], 122⟩).bind Kst = (screen_Valid_L2 k a0 K0 m x27 x28).map screen_Valid_fin := by
  intro m
  induction m with
  | zero => intros; rfl
  | succ m ih =>
    intro x27 x28
    unfold screen_Valid_L2
    refine Eq.trans k_round ?_
    refine Eq.trans (k_region0 rfl (f24r12 k a0 x27 x28)) ?_
    refine Eq.trans (k_cond (t := (decide (x28 < (a0.fFields.length : Int)))) rfl rfl) ?_
    refine bifE2 (fun hc => ?_) fun hc => ?_
    · rw [hc]
      refine Eq.trans k_skip ?_
      refine Eq.trans (k_block rfl) ?_
      refine Eq.trans (k_region rfl (f24r13 k a0 x27 x28)) ?_
      refine bindE (fun o30 => ?_)
      refine Eq.trans k_assoc ?_
      refine Eq.trans (k_region rfl (f24r14 k a0 x27 x28 o30)) ?_
      refine bindE (fun o32 => ?_)
      refine Eq.trans (k_cond (t := o32) rfl rfl) ?_
      refine bifE2 (fun hc => ?_) fun hc => ?_
      · rw [hc]
        refine Eq.trans k_assoc ?_
        refine Eq.trans (k_region0 rfl (f24r15 k a0 x27 x28 o30)) ?_
        refine Eq.trans k_ret ?_
        refine Eq.trans blk_ret ?_
        refine Eq.trans loop_ret ?_
        refine Eq.trans (hret _) ?_
        rfl
      · rw [hc]
        refine Eq.trans k_skip ?_
        refine Eq.trans (k_lregion rfl (f24r16 k a0 x27 x28 o30)) ?_
        refine bindE (fun o34 => ?_)
        refine Eq.trans blk_normal ?_
        refine Eq.trans (k_lregion0 rfl (f24r17 k a0 x28 o34)) ?_
        refine Eq.trans loop_normal ?_
        exact ih o34 (Go.IntKind.wrap .i64 (x28 + 1))
    · rw [hc]
      refine Eq.trans k_exit ?_
      refine Eq.trans loop_exit ?_
      exact hK0 x27 x28
theorem f24r18 (k : Nat) (a0 : T_api_Form) (y35 : (List T_screen_part)) (y36 : Int) : RE k f24a18 f24o18 false ⟨[(1, (V.ptr 1 0 0)), (3, (V.sl 1 3 (List.map enc_T_screen_part y35))), (82, (sSlot (a0.fFields))), (83, (I (a0.fFields.length : Int))), (84, (I y36)), (85, (V.bool false))], [(1, ⟨false, 4, [(enc_T_api_Form a0)]⟩)], 122⟩ = some ⟨[(3, (V.sl 1 3 (List.map enc_T_screen_part y35))), (108, (spart (y35))), (109, (I (y35.length : Int))), (110, (I 0))], [], 122⟩ := by
  refine rg ?_
  refine ra 1 1 ⟨[(1, (V.ptr 1 0 0)), (3, (V.sl 1 3 (List.map enc_T_screen_part y35))), (82, (sSlot (a0.fFields))), (83, (I (a0.fFields.length : Int))), (84, (I y36)), (85, (V.bool false)), (108, (spart (y35)))], [(1, ⟨false, 4, [(enc_T_api_Form a0)]⟩)], 122⟩ rfl rfl rfl ?_
  refine Eq.trans (reg_pure (x := some ()) (w := fun _ => (I (y35.length : Int))) rfl rfl rfl rfl (p_len (e := enc_T_screen_part) rfl rfl rfl rfl rfl rfl Go.Proofs.Try.underlying72)) ?_
  refine Eq.trans some_bind ?_
  exact bind_end rfl
theorem f24r19 (k : Nat) (y35 : (List T_screen_part)) (x42 : Int) : RE k f24a19 f24o19 false ⟨[(3, (V.sl 1 3 (List.map enc_T_screen_part y35))), (108, (spart (y35))), (109, (I (y35.length : Int))), (110, (I x42))], [], 122⟩ = some ⟨[(3, (V.sl 1 3 (List.map enc_T_screen_part y35))), (108, (spart (y35))), (109, (I (y35.length : Int))), (110, (I x42)), (111, (V.bool (decide (x42 < (y35.length : Int)))))], [], 122⟩ :=
  rE rfl
theorem f24r20 (k : Nat) (y35 : (List T_screen_part)) (x42 : Int) : RE k f24a20 f24o20 false ⟨[(3, (V.sl 1 3 (List.map enc_T_screen_part y35))), (108, (spart (y35))), (109, (I (y35.length : Int))), (110, (I x42)), (111, (V.bool true))], [], 122⟩ = (((idx y35 x42).bind fun v43 => (some (x42, v43)))).map (fun (o : Int × T_screen_part) => (⟨[(3, (V.sl 1 3 (List.map enc_T_screen_part y35))), (8, (I o.1)), (9, (V.ptr 9 0 0)), (108, (spart (y35))), (109, (I (y35.length : Int))), (110, (I x42))], [(9, ⟨false, 3, [(enc_T_screen_part o.2)]⟩)], 122⟩ : St)) := by
  refine rg ?_
  refine ra 1 1 ⟨[(3, (V.sl 1 3 (List.map enc_T_screen_part y35))), (108, (spart (y35))), (109, (I (y35.length : Int))), (110, (I x42)), (111, (V.bool true)), (112, (I x42))], [], 122⟩ rfl rfl rfl ?_
  refine Eq.trans (reg_pure (x := (idx y35 x42)) (w := fun v43 => (V.pro (enc_T_screen_part v43))) rfl rfl rfl rfl (p_index (e := enc_T_screen_part) rfl rfl rfl Go.Proofs.Try.underlying72 rfl (by decide))) ?_
  refine bindE (fun v43 => ?_)
  exact bind_end rfl
theorem f24r21 (k : Nat) (y35 : (List T_screen_part)) (x42 : Int) (o44 : Int × T_screen_part) : RE k f24a21 f24o21 true ⟨[(3, (V.sl 1 3 (List.map enc_T_screen_part y35))), (8, (I o44.1)), (9, (V.ptr 9 0 0)), (108, (spart (y35))), (109, (I (y35.length : Int))), (110, (I x42))], [(9, ⟨false, 3, [(enc_T_screen_part o44.2)]⟩)], 122⟩ = (((cut y35 0 o44.1).bind fun v45 => (slices_ContainsFunc_part_v10s75 k v45 (fun j x0 => (screen_part_meets j o44.2 x0))))).map (fun (o : Bool) => (⟨[(3, (V.sl 1 3 (List.map enc_T_screen_part y35))), (108, (spart (y35))), (109, (I (y35.length : Int))), (110, (I x42)), (120, (V.bool o))], [], 122⟩ : St)) := by
  refine Eq.trans (regionE_regp (p := 6) (dk := true) (t := [(3, (V.sl 1 3 (List.map enc_T_screen_part y35))), (8, (I o44.1)), (9, (V.ptr 9 0 0)), (108, (spart (y35))), (109, (I (y35.length : Int))), (110, (I x42))]) (σ := [(9, ⟨false, 3, [(enc_T_screen_part o44.2)]⟩)]) (n := 122) rfl (by decide) (by decide) rfl) ?_
  refine Eq.trans (regp_adv (m := 2) (j := 2) (t' := [(3, (V.sl 1 3 (List.map enc_T_screen_part y35))), (8, (I o44.1)), (9, (V.ptr 9 0 0)), (108, (spart (y35))), (109, (I (y35.length : Int))), (110, (I x42)), (115, (spart (y35))), (116, (I o44.1))]) rfl rfl rfl) ?_
  refine Eq.trans (regp_pure (x := (cut y35 0 o44.1)) (w := fun v45 => (spart (v45))) rfl rfl rfl rfl rfl (p_slice (e := enc_T_screen_part) rfl rfl rfl rfl rfl rfl Go.Proofs.Try.underlying72 rfl (by decide))) ?_
  refine bindE (fun v45 => ?_)
  refine Eq.trans (putp_adv (m := 2) (j := 5) (t' := [(3, (V.sl 1 3 (List.map enc_T_screen_part y35))), (8, (I o44.1)), (9, (V.ptr 9 0 0)), (108, (spart (y35))), (109, (I (y35.length : Int))), (110, (I x42)), (115, (spart (y35))), (116, (I o44.1)), (117, (spart (v45))), (118, (enc_T_screen_part o44.2)), (119, (V.fn 56 [(enc_T_screen_part o44.2)] []))]) rfl rfl rfl) ?_
  refine Eq.trans (regp_pure (x := (slices_ContainsFunc_part_v10s75 k v45 (fun j x0 => (screen_part_meets j o44.2 x0)))) (w := fun v46 => (V.bool v46)) rfl rfl rfl rfl rfl (p_call rfl rfl rfl rfl rfl (slices_ContainsFunc_part_v10s75_ok k v45 (fun j x0 => (screen_part_meets j o44.2 x0)) 56 o44.2 (fun j x0 => (screen_part_meets_ok j o44.2 x0))) (.inl rfl))) ?_
  refine bind_self (fun v46 => ?_)
  exact regp_end rfl
theorem f24r22 (k : Nat) (y35 : (List T_screen_part)) (x42 : Int) : RE k f24a22 f24o22 false ⟨[(3, (V.sl 1 3 (List.map enc_T_screen_part y35))), (108, (spart (y35))), (109, (I (y35.length : Int))), (110, (I x42)), (120, (V.bool true))], [], 122⟩ = some ⟨[(2, (V.bool false))], [], 122⟩ :=
  rE rfl
theorem f24r23 (k : Nat) (y35 : (List T_screen_part)) (x42 : Int) : RE k f24a23 f24o23 false ⟨[(3, (V.sl 1 3 (List.map enc_T_screen_part y35))), (108, (spart (y35))), (109, (I (y35.length : Int))), (110, (I x42)), (120, (V.bool false))], [], 122⟩ = some ⟨[(3, (V.sl 1 3 (List.map enc_T_screen_part y35))), (108, (spart (y35))), (109, (I (y35.length : Int))), (110, (I (Go.IntKind.wrap .i64 (x42 + 1))))], [], 122⟩ :=
  rE rfl
theorem screen_Valid_L3_ok (k : Nat) (a0 : T_api_Form) (y35 : (List T_screen_part))  (K0 : Int → Option Bool) (Kst : X × St → Option (V × List V)) (hK0 : ∀ (y0 : Int), Kst (X.exit 4, ⟨[(3, (V.sl 1 3 (List.map enc_T_screen_part y35))), (108, (spart (y35))), (109, (I (y35.length : Int))), (110, (I y0)), (111, (V.bool false))], [], 122⟩) = (K0 y0).map screen_Valid_fin) (hret : ∀ s, Kst (X.ret, s) = endK prog 122 [(enc_T_api_Form a0)] [] [.tmp 2] (X.ret, s)) :
    ∀ (m : Nat) (x42 : Int), (iter (exec prog (EV k) f24n k f24b2) m ⟨[(3, (V.sl 1 3 (List.map enc_T_screen_part y35))), (108, (spart (y35))), (109, (I (y35.length : Int))), (110, (I x42))], [], 122⟩).bind Kst = (screen_Valid_L3 k y35 K0 m x42).map screen_Valid_fin := by
  intro m
  induction m with
  | zero => intros; rfl
  | succ m ih =>
    intro x42
    unfold screen_Valid_L3
    refine Eq.trans k_round ?_
    refine Eq.trans (k_region0 rfl (f24r19 k y35 x42)) ?_
    refine Eq.trans (k_cond (t := (decide (x42 < (y35.length : Int)))) rfl rfl) ?_
    refine bifE2 (fun hc => ?_) fun hc => ?_
    · rw [hc]
      refine Eq.trans k_skip ?_
      refine Eq.trans (k_block rfl) ?_
      refine Eq.trans (k_region rfl (f24r20 k y35 x42)) ?_
      refine bindE (fun o44 => ?_)
      refine Eq.trans (k_region rfl (f24r21 k y35 x42 o44)) ?_
      refine bindE (fun o47 => ?_)
      refine Eq.trans (k_lcond (t := o47) rfl rfl) ?_
      refine bifE2 (fun hc => ?_) fun hc => ?_
      · rw [hc]
        refine Eq.trans (k_region0 rfl (f24r22 k y35 x42)) ?_
        refine Eq.trans k_lret ?_
        refine Eq.trans blk_ret ?_
        refine Eq.trans loop_ret ?_
        refine Eq.trans (hret _) ?_
        rfl
      · rw [hc]
        refine Eq.trans k_lskip ?_
        refine Eq.trans blk_normal ?_
        refine Eq.trans (k_lregion0 rfl (f24r23 k y35 x42)) ?_
        refine Eq.trans loop_normal ?_
        exact ih (Go.IntKind.wrap .i64 (x42 + 1))
    · rw [hc]
      refine Eq.trans k_exit ?_
      refine Eq.trans loop_exit ?_
      exact hK0 x42
theorem f24r24 (k : Nat) (y35 : (List T_screen_part)) (y48 : Int) : RE k f24a24 f24o24 false ⟨[(3, (V.sl 1 3 (List.map enc_T_screen_part y35))), (108, (spart (y35))), (109, (I (y35.length : Int))), (110, (I y48)), (111, (V.bool false))], [], 122⟩ = some ⟨[(2, (V.bool true))], [], 122⟩ :=
  rE rfl
theorem screen_Valid_ok (k : Nat) (a0 : T_api_Form) : EV k 24 [(enc_T_api_Form a0)] = (screen_Valid k a0).map screen_Valid_fin := by
  cases k with
  | zero => rfl
  | succ k =>
    unfold screen_Valid
    refine Eq.trans (evF_succ (c := f24c) (N := 122) (regs := f24n) rfl Go.Proofs.Try.func24 rfl (by decide) rfl rfl rfl) ?_
    refine Eq.trans (k_region0 rfl (f24r0 k a0)) ?_
    refine Eq.trans k_assoc ?_
    refine Eq.trans (k_region rfl (f24r1 k a0)) ?_
    refine bindE (fun o2 => ?_)
    refine Eq.trans (k_cond (t := o2) rfl rfl) ?_
    refine bifE2 (fun hc => ?_) fun hc => ?_
    · rw [hc]
      refine Eq.trans k_assoc ?_
      refine Eq.trans (k_region0 rfl (f24r2 k a0)) ?_
      refine Eq.trans k_ret ?_
      rfl
    · rw [hc]
      refine Eq.trans k_skip ?_
      refine Eq.trans (k_region0 rfl (f24r3 k a0)) ?_
      refine Eq.trans k_assoc ?_
      refine Eq.trans (k_region0 rfl (f24r4 k a0)) ?_
      refine Eq.trans (k_block rfl) ?_
      refine Eq.trans k_loop ?_
      refine screen_Valid_L1_ok k a0 _ _ ?h_screen_Valid_L1_0 ?hr_screen_Valid_L1 k ([] : List T_screen_part) 0
      · intro y19 y20
        refine Eq.trans blk_exit ?_
        refine Eq.trans k_assoc ?_
        refine Eq.trans (k_region0 rfl (f24r11 k a0 y19 y20)) ?_
        refine Eq.trans (k_block rfl) ?_
        refine Eq.trans k_loop ?_
        refine screen_Valid_L2_ok k a0 _ _ ?h_screen_Valid_L2_0 ?hr_screen_Valid_L2 k y19 0
        · intro y35 y36
          refine Eq.trans blk_exit ?_
          refine Eq.trans k_assoc ?_
          refine Eq.trans (k_region0 rfl (f24r18 k a0 y35 y36)) ?_
          refine Eq.trans (k_block rfl) ?_
          refine Eq.trans k_loop ?_
          refine screen_Valid_L3_ok k a0 y35 _ _ ?h_screen_Valid_L3_0 ?hr_screen_Valid_L3 k 0
          · intro y48
            refine Eq.trans blk_exit ?_
            refine Eq.trans (k_region0 rfl (f24r24 k y35 y48)) ?_
            refine Eq.trans k_lret ?_
            rfl
          · intro s; exact rfl
        · intro s; exact rfl
      · intro s; exact rfl
def screen_lengths_fin : (Int × Int) → V × List V := fun r => (.tup [(I r.1), (I r.2)], [])
theorem f39r0 (k : Nat) (a0 : T_api_Form) : RE k f39a0 f39o0 false ⟨[(0, (enc_T_api_Form a0))], [], 26⟩ = some ⟨[(1, (V.ptr 1 0 0)), (2, (I 0)), (3, (I 0))], [(1, ⟨false, 4, [(enc_T_api_Form a0)]⟩)], 26⟩ :=
  rE rfl
theorem f39r1 (k : Nat) (a0 : T_api_Form) : RE k f39a1 f39o1 false ⟨[(1, (V.ptr 1 0 0)), (2, (I 0)), (3, (I 0))], [(1, ⟨false, 4, [(enc_T_api_Form a0)]⟩)], 26⟩ = some ⟨[(2, (I 0)), (3, (I 0)), (7, (sSlot (a0.fFields))), (8, (I (a0.fFields.length : Int))), (9, (I 0))], [], 26⟩ := by
  refine rg ?_
  refine ra 2 2 ⟨[(1, (V.ptr 1 0 0)), (2, (I 0)), (3, (I 0)), (6, (V.ptr 1 0 3)), (7, (sSlot (a0.fFields)))], [(1, ⟨false, 4, [(enc_T_api_Form a0)]⟩)], 26⟩ rfl rfl rfl ?_
  refine Eq.trans (reg_pure (x := some ()) (w := fun _ => (I (a0.fFields.length : Int))) rfl rfl rfl rfl (p_len (e := enc_T_api_Slot) rfl rfl rfl rfl rfl rfl Go.Proofs.Try.underlying23)) ?_
  refine Eq.trans some_bind ?_
  exact bind_end rfl
theorem f39r2 (k : Nat) (a0 : T_api_Form) (x3 : Int) (x4 : Int) (x5 : Int) : RE k f39a2 f39o2 false ⟨[(2, (I x3)), (3, (I x4)), (7, (sSlot (a0.fFields))), (8, (I (a0.fFields.length : Int))), (9, (I x5))], [], 26⟩ = some ⟨[(2, (I x3)), (3, (I x4)), (7, (sSlot (a0.fFields))), (8, (I (a0.fFields.length : Int))), (9, (I x5)), (10, (V.bool (decide (x5 < (a0.fFields.length : Int)))))], [], 26⟩ :=
  rE rfl
theorem f39r3 (k : Nat) (a0 : T_api_Form) (x3 : Int) (x4 : Int) (x5 : Int) : RE k f39a3 f39o3 false ⟨[(2, (I x3)), (3, (I x4)), (7, (sSlot (a0.fFields))), (8, (I (a0.fFields.length : Int))), (9, (I x5)), (10, (V.bool true))], [], 26⟩ = ((idx a0.fFields x5)).map (fun (o : T_api_Slot) => (⟨[(2, (I x3)), (3, (I x4)), (5, (V.ptr 5 0 0)), (7, (sSlot (a0.fFields))), (8, (I (a0.fFields.length : Int))), (9, (I x5))], [(5, ⟨false, 7, [(enc_T_api_Slot o)]⟩)], 26⟩ : St)) := by
  refine rg ?_
  refine Eq.trans (reg_pure (x := (idx a0.fFields x5)) (w := fun v6 => (V.pro (enc_T_api_Slot v6))) rfl rfl rfl rfl (p_index (e := enc_T_api_Slot) rfl rfl rfl Go.Proofs.Try.underlying23 rfl (by decide))) ?_
  refine bind_self (fun v6 => ?_)
  exact bind_end rfl
theorem f39r4 (k : Nat) (a0 : T_api_Form) (x3 : Int) (x4 : Int) (x5 : Int) (o7 : T_api_Slot) : RE k f39a4 f39o4 true ⟨[(2, (I x3)), (3, (I x4)), (5, (V.ptr 5 0 0)), (7, (sSlot (a0.fFields))), (8, (I (a0.fFields.length : Int))), (9, (I x5))], [(5, ⟨false, 7, [(enc_T_api_Slot o7)]⟩)], 26⟩ = some ⟨[(2, (I (if (Go.IntKind.wrap .i64 (o7.fIn + 1)) > x3 then (Go.IntKind.wrap .i64 (o7.fIn + 1)) else x3))), (3, (I (if (Go.IntKind.wrap .i64 (o7.fOut + 1)) > x4 then (Go.IntKind.wrap .i64 (o7.fOut + 1)) else x4))), (7, (sSlot (a0.fFields))), (8, (I (a0.fFields.length : Int))), (9, (I x5))], [], 26⟩ := by
  refine Eq.trans (regionE_regp (p := 10) (dk := false) (t := [(2, (I x3)), (3, (I x4)), (5, (V.ptr 5 0 0)), (7, (sSlot (a0.fFields))), (8, (I (a0.fFields.length : Int))), (9, (I x5))]) (σ := [(5, ⟨false, 7, [(enc_T_api_Slot o7)]⟩)]) (n := 26) rfl (by decide) (by decide) rfl) ?_
  exact regp_end rfl
theorem f39r5 (k : Nat) (a0 : T_api_Form) (x3 : Int) (x4 : Int) (x5 : Int) (o7 : T_api_Slot) : RE k f39a5 f39o5 false ⟨[(2, (I (if (Go.IntKind.wrap .i64 (o7.fIn + 1)) > x3 then (Go.IntKind.wrap .i64 (o7.fIn + 1)) else x3))), (3, (I (if (Go.IntKind.wrap .i64 (o7.fOut + 1)) > x4 then (Go.IntKind.wrap .i64 (o7.fOut + 1)) else x4))), (7, (sSlot (a0.fFields))), (8, (I (a0.fFields.length : Int))), (9, (I x5))], [], 26⟩ = some ⟨[(2, (I (if (Go.IntKind.wrap .i64 (o7.fIn + 1)) > x3 then (Go.IntKind.wrap .i64 (o7.fIn + 1)) else x3))), (3, (I (if (Go.IntKind.wrap .i64 (o7.fOut + 1)) > x4 then (Go.IntKind.wrap .i64 (o7.fOut + 1)) else x4))), (7, (sSlot (a0.fFields))), (8, (I (a0.fFields.length : Int))), (9, (I (Go.IntKind.wrap .i64 (x5 + 1))))], [], 26⟩ :=
  rE rfl
theorem screen_lengths_L1_ok (k : Nat) (a0 : T_api_Form)  (K0 : Int → Int → Int → Option (Int × Int)) (Kst : X × St → Option (V × List V)) (hK0 : ∀ (y0 : Int) (y1 : Int) (y2 : Int), Kst (X.exit 0, ⟨[(2, (I y0)), (3, (I y1)), (7, (sSlot (a0.fFields))), (8, (I (a0.fFields.length : Int))), (9, (I y2)), (10, (V.bool false))], [], 26⟩) = (K0 y0 y1 y2).map screen_lengths_fin) (hret : ∀ s, Kst (X.ret, s) = endK prog 26 [(enc_T_api_Form a0)] [] [.tmp 2, .tmp 3] (X.ret, s)) :
    ∀ (m : Nat) (x3 : Int) (x4 : Int) (x5 : Int), (iter (exec prog (EV k) f39n k f39b0) m ⟨[(2, (I x3)), (3, (I x4)), (7, (sSlot (a0.fFields))), (8, (I (a0.fFields.length : Int))), (9, (I x5))], [], 26⟩).bind Kst = (screen_lengths_L1 a0 K0 m x3 x4 x5).map screen_lengths_fin := by
  intro m
  induction m with
  | zero => intros; rfl
  | succ m ih =>
    intro x3 x4 x5
    unfold screen_lengths_L1
    refine Eq.trans k_round ?_
    refine Eq.trans (k_region0 rfl (f39r2 k a0 x3 x4 x5)) ?_
    refine Eq.trans (k_cond (t := (decide (x5 < (a0.fFields.length : Int)))) rfl rfl) ?_
    refine bifE2 (fun hc => ?_) fun hc => ?_
    · rw [hc]
      refine Eq.trans k_skip ?_
      refine Eq.trans (k_block rfl) ?_
      refine Eq.trans (k_region rfl (f39r3 k a0 x3 x4 x5)) ?_
      refine bindE (fun o7 => ?_)
      refine Eq.trans (k_lregion0 rfl (f39r4 k a0 x3 x4 x5 o7)) ?_
      refine Eq.trans blk_normal ?_
      refine Eq.trans (k_lregion0 rfl (f39r5 k a0 x3 x4 x5 o7)) ?_
      refine Eq.trans loop_normal ?_
      exact ih (if (Go.IntKind.wrap .i64 (o7.fIn + 1)) > x3 then (Go.IntKind.wrap .i64 (o7.fIn + 1)) else x3) (if (Go.IntKind.wrap .i64 (o7.fOut + 1)) > x4 then (Go.IntKind.wrap .i64 (o7.fOut + 1)) else x4) (Go.IntKind.wrap .i64 (x5 + 1))
    · rw [hc]
      refine Eq.trans k_exit ?_
      refine Eq.trans loop_exit ?_
      exact hK0 x3 x4 x5
theorem f39r6 (k : Nat) (a0 : T_api_Form) (y8 : Int) (y9 : Int) (y10 : Int) : RE k f39a6 f39o6 false ⟨[(2, (I y8)), (3, (I y9)), (7, (sSlot (a0.fFields))), (8, (I (a0.fFields.length : Int))), (9, (I y10)), (10, (V.bool false))], [], 26⟩ = some ⟨[(2, (I y8)), (3, (I y9))], [], 26⟩ :=
  rE rfl
theorem screen_lengths_ok (k : Nat) (a0 : T_api_Form) : EV k 39 [(enc_T_api_Form a0)] = (screen_lengths k a0).map screen_lengths_fin := by
  cases k with
  | zero => rfl
  | succ k =>
    unfold screen_lengths
    refine Eq.trans (evF_succ (c := f39c) (N := 26) (regs := f39n) rfl Go.Proofs.Try.func39 rfl (by decide) rfl rfl rfl) ?_
    refine Eq.trans (k_region0 rfl (f39r0 k a0)) ?_
    refine Eq.trans k_assoc ?_
    refine Eq.trans (k_region0 rfl (f39r1 k a0)) ?_
    refine Eq.trans (k_block rfl) ?_
    refine Eq.trans k_loop ?_
    refine screen_lengths_L1_ok k a0 _ _ ?h_screen_lengths_L1_0 ?hr_screen_lengths_L1 k 0 0 0
    · intro y8 y9 y10
      refine Eq.trans blk_exit ?_
      refine Eq.trans (k_region0 rfl (f39r6 k a0 y8 y9 y10)) ?_
      refine Eq.trans k_lret ?_
      rfl
    · intro s; exact rfl
def slices_IndexFunc_string_v10_fin : Int → V × List V := fun r => ((I r), [])
theorem f78v10r0 (k : Nat) (a0 : (List Str)) (a1 : Nat → Str → Option Bool) (a1_fid : Go.FuncId)  (a1_hok : ∀ j x0, EV j a1_fid [(V.str x0)] = (a1 j x0).map fun b => ((V.bool b), [])) : RE k f78v10a0 f78v10o0 false ⟨[(0, (V.sl 0 1 (List.map V.str a0))), (1, (V.fn a1_fid [] []))], [], 19⟩ = some ⟨[(0, (V.sl 0 1 (List.map V.str a0))), (1, (V.fn a1_fid [] []))], [], 19⟩ :=
  rE rfl
theorem f78v10r1 (k : Nat) (a0 : (List Str)) (a1 : Nat → Str → Option Bool) (a1_fid : Go.FuncId)  (a1_hok : ∀ j x0, EV j a1_fid [(V.str x0)] = (a1 j x0).map fun b => ((V.bool b), [])) : RE k f78v10a1 f78v10o1 false ⟨[(0, (V.sl 0 1 (List.map V.str a0))), (1, (V.fn a1_fid [] []))], [], 19⟩ = some ⟨[(0, (V.sl 0 1 (List.map V.str a0))), (1, (V.fn a1_fid [] [])), (7, (I (a0.length : Int))), (8, (I 0))], [], 19⟩ := by
  refine rg ?_
  refine ra 1 1 ⟨[(0, (V.sl 0 1 (List.map V.str a0))), (1, (V.fn a1_fid [] [])), (6, (V.sl 0 1 (List.map V.str a0)))], [], 19⟩ rfl rfl rfl ?_
  refine Eq.trans (reg_pure (x := some ()) (w := fun _ => (I (a0.length : Int))) rfl rfl rfl rfl (p_len (e := V.str) rfl rfl rfl rfl rfl rfl Go.Proofs.Try.underlying26)) ?_
  refine Eq.trans some_bind ?_
  exact bind_end rfl
theorem f78v10r2 (k : Nat) (a0 : (List Str)) (x4 : Int) (a1 : Nat → Str → Option Bool) (a1_fid : Go.FuncId)  (a1_hok : ∀ j x0, EV j a1_fid [(V.str x0)] = (a1 j x0).map fun b => ((V.bool b), [])) : RE k f78v10a2 f78v10o2 false ⟨[(0, (V.sl 0 1 (List.map V.str a0))), (1, (V.fn a1_fid [] [])), (7, (I (a0.length : Int))), (8, (I x4))], [], 19⟩ = some ⟨[(0, (V.sl 0 1 (List.map V.str a0))), (1, (V.fn a1_fid [] [])), (7, (I (a0.length : Int))), (8, (I x4)), (9, (V.bool (decide (x4 < (a0.length : Int)))))], [], 19⟩ :=
  rE rfl
theorem f78v10r3 (k : Nat) (a0 : (List Str)) (x4 : Int) (a1 : Nat → Str → Option Bool) (a1_fid : Go.FuncId)  (a1_hok : ∀ j x0, EV j a1_fid [(V.str x0)] = (a1 j x0).map fun b => ((V.bool b), [])) : RE k f78v10a3 f78v10o3 false ⟨[(0, (V.sl 0 1 (List.map V.str a0))), (1, (V.fn a1_fid [] [])), (7, (I (a0.length : Int))), (8, (I x4)), (9, (V.bool true))], [], 19⟩ = some ⟨[(0, (V.sl 0 1 (List.map V.str a0))), (1, (V.fn a1_fid [] [])), (5, (I x4)), (7, (I (a0.length : Int))), (8, (I x4))], [], 19⟩ :=
  rE rfl
theorem f78v10r4 (k : Nat) (a0 : (List Str)) (x4 : Int) (a1 : Nat → Str → Option Bool) (a1_fid : Go.FuncId)  (a1_hok : ∀ j x0, EV j a1_fid [(V.str x0)] = (a1 j x0).map fun b => ((V.bool b), [])) : RE k f78v10a4 f78v10o4 false ⟨[(0, (V.sl 0 1 (List.map V.str a0))), (1, (V.fn a1_fid [] [])), (5, (I x4)), (7, (I (a0.length : Int))), (8, (I x4))], [], 19⟩ = (((idx a0 x4).bind fun v5 => (a1 k v5))).map (fun (o : Bool) => (⟨[(0, (V.sl 0 1 (List.map V.str a0))), (1, (V.fn a1_fid [] [])), (5, (I x4)), (7, (I (a0.length : Int))), (8, (I x4)), (16, (V.bool o))], [], 19⟩ : St)) := by
  refine rg ?_
  refine ra 3 3 ⟨[(0, (V.sl 0 1 (List.map V.str a0))), (1, (V.fn a1_fid [] [])), (5, (I x4)), (7, (I (a0.length : Int))), (8, (I x4)), (11, (V.fn a1_fid [] [])), (12, (V.sl 0 1 (List.map V.str a0))), (13, (I x4))], [], 19⟩ rfl rfl rfl ?_
  refine Eq.trans (reg_pure (x := (idx a0 x4)) (w := fun v5 => (V.pro (V.str v5))) rfl rfl rfl rfl (p_index (e := V.str) rfl rfl rfl Go.Proofs.Try.underlying26 rfl (by decide))) ?_
  refine bindE (fun v5 => ?_)
  refine ba 1 5 ⟨[(0, (V.sl 0 1 (List.map V.str a0))), (1, (V.fn a1_fid [] [])), (5, (I x4)), (7, (I (a0.length : Int))), (8, (I x4)), (11, (V.fn a1_fid [] [])), (12, (V.sl 0 1 (List.map V.str a0))), (13, (I x4)), (14, (V.pro (V.str v5))), (15, (V.str v5))], [], 19⟩ rfl rfl rfl ?_
  refine Eq.trans (reg_pure (x := (a1 k v5)) (w := fun v6 => (V.bool v6)) rfl rfl rfl rfl (p_call rfl rfl rfl rfl rfl (a1_hok k v5) (.inl rfl))) ?_
  refine bind_self (fun v6 => ?_)
  exact bind_end rfl
theorem f78v10r5 (k : Nat) (a0 : (List Str)) (x4 : Int) (a1 : Nat → Str → Option Bool) (a1_fid : Go.FuncId)  (a1_hok : ∀ j x0, EV j a1_fid [(V.str x0)] = (a1 j x0).map fun b => ((V.bool b), [])) : RE k f78v10a5 f78v10o5 false ⟨[(0, (V.sl 0 1 (List.map V.str a0))), (1, (V.fn a1_fid [] [])), (5, (I x4)), (7, (I (a0.length : Int))), (8, (I x4)), (16, (V.bool true))], [], 19⟩ = some ⟨[(4, (I x4))], [], 19⟩ :=
  rE rfl
theorem f78v10r6 (k : Nat) (a0 : (List Str)) (x4 : Int) (a1 : Nat → Str → Option Bool) (a1_fid : Go.FuncId)  (a1_hok : ∀ j x0, EV j a1_fid [(V.str x0)] = (a1 j x0).map fun b => ((V.bool b), [])) : RE k f78v10a6 f78v10o6 false ⟨[(0, (V.sl 0 1 (List.map V.str a0))), (1, (V.fn a1_fid [] [])), (5, (I x4)), (7, (I (a0.length : Int))), (8, (I x4)), (16, (V.bool false))], [], 19⟩ = some ⟨[(0, (V.sl 0 1 (List.map V.str a0))), (1, (V.fn a1_fid [] [])), (7, (I (a0.length : Int))), (8, (I (Go.IntKind.wrap .i64 (x4 + 1))))], [], 19⟩ :=
  rE rfl
theorem slices_IndexFunc_string_v10_L1_ok (k : Nat) (a0 : (List Str)) (a1 : Nat → Str → Option Bool) (a1_fid : Go.FuncId)  (a1_hok : ∀ j x0, EV j a1_fid [(V.str x0)] = (a1 j x0).map fun b => ((V.bool b), [])) (K0 : Int → Option Int) (Kst : X × St → Option (V × List V)) (hK0 : ∀ (y0 : Int), Kst (X.exit 0, ⟨[(0, (V.sl 0 1 (List.map V.str a0))), (1, (V.fn a1_fid [] [])), (7, (I (a0.length : Int))), (8, (I y0)), (9, (V.bool false))], [], 19⟩) = (K0 y0).map slices_IndexFunc_string_v10_fin) (hret : ∀ s, Kst (X.ret, s) = endK prog 19 [(V.sl 0 1 (List.map V.str a0)), (V.fn a1_fid [] [])] [] [.tmp 4] (X.ret, s)) :
    ∀ (m : Nat) (x4 : Int), (iter (exec prog (EV k) f78v10n k f78v10b0) m ⟨[(0, (V.sl 0 1 (List.map V.str a0))), (1, (V.fn a1_fid [] [])), (7, (I (a0.length : Int))), (8, (I x4))], [], 19⟩).bind Kst = (slices_IndexFunc_string_v10_L1 k a0 a1 K0 m x4).map slices_IndexFunc_string_v10_fin := by
  intro m
  induction m with
  | zero => intros; rfl
  | succ m ih =>
    intro x4
    unfold slices_IndexFunc_string_v10_L1
    refine Eq.trans k_round ?_
    refine Eq.trans (k_region0 rfl (f78v10r2 k a0 x4 a1 a1_fid a1_hok)) ?_
    refine Eq.trans (k_cond (t := (decide (x4 < (a0.length : Int)))) rfl rfl) ?_
    refine bifE2 (fun hc => ?_) fun hc => ?_
    · rw [hc]
      refine Eq.trans k_skip ?_
      refine Eq.trans (k_block rfl) ?_
      refine Eq.trans (k_region0 rfl (f78v10r3 k a0 x4 a1 a1_fid a1_hok)) ?_
      refine Eq.trans (k_region rfl (f78v10r4 k a0 x4 a1 a1_fid a1_hok)) ?_
      refine bindE (fun o7 => ?_)
      refine Eq.trans (k_lcond (t := o7) rfl rfl) ?_
      refine bifE2 (fun hc => ?_) fun hc => ?_
      · rw [hc]
        refine Eq.trans (k_region0 rfl (f78v10r5 k a0 x4 a1 a1_fid a1_hok)) ?_
        refine Eq.trans k_lret ?_
        refine Eq.trans blk_ret ?_
        refine Eq.trans loop_ret ?_
        refine Eq.trans (hret _) ?_
        rfl
      · rw [hc]
        refine Eq.trans k_lskip ?_
        refine Eq.trans blk_normal ?_
        refine Eq.trans (k_lregion0 rfl (f78v10r6 k a0 x4 a1 a1_fid a1_hok)) ?_
        refine Eq.trans loop_normal ?_
        exact ih (Go.IntKind.wrap .i64 (x4 + 1))
    · rw [hc]
      refine Eq.trans k_exit ?_
      refine Eq.trans loop_exit ?_
      exact hK0 x4
theorem f78v10r7 (k : Nat) (a0 : (List Str)) (y8 : Int) (a1 : Nat → Str → Option Bool) (a1_fid : Go.FuncId)  (a1_hok : ∀ j x0, EV j a1_fid [(V.str x0)] = (a1 j x0).map fun b => ((V.bool b), [])) : RE k f78v10a7 f78v10o7 false ⟨[(0, (V.sl 0 1 (List.map V.str a0))), (1, (V.fn a1_fid [] [])), (7, (I (a0.length : Int))), (8, (I y8)), (9, (V.bool false))], [], 19⟩ = some ⟨[(4, (I (-1)))], [], 19⟩ :=
  rE rfl
theorem slices_IndexFunc_string_v10_ok (k : Nat) (a0 : (List Str)) (a1 : Nat → Str → Option Bool) (a1_fid : Go.FuncId)  (a1_hok : ∀ j x0, EV j a1_fid [(V.str x0)] = (a1 j x0).map fun b => ((V.bool b), [])) : EV k 78 [(V.sl 0 1 (List.map V.str a0)), (V.fn a1_fid [] [])] = (slices_IndexFunc_string_v10 k a0 a1).map slices_IndexFunc_string_v10_fin := by
  cases k with
  | zero => rfl
  | succ k =>
    unfold slices_IndexFunc_string_v10
    refine Eq.trans (evF_succ (c := f78v10c) (N := 19) (regs := f78v10n) rfl Go.Proofs.Try.func78 rfl (by decide) rfl rfl rfl) ?_
    refine Eq.trans (k_region0 rfl (f78v10r0 k a0 a1 a1_fid a1_hok)) ?_
    refine Eq.trans k_assoc ?_
    refine Eq.trans (k_region0 rfl (f78v10r1 k a0 a1 a1_fid a1_hok)) ?_
    refine Eq.trans (k_block rfl) ?_
    refine Eq.trans k_loop ?_
    refine slices_IndexFunc_string_v10_L1_ok k a0 a1 a1_fid a1_hok _ _ ?h_slices_IndexFunc_string_v10_L1_0 ?hr_slices_IndexFunc_string_v10_L1 k 0
    · intro y8
      refine Eq.trans blk_exit ?_
      refine Eq.trans (k_region0 rfl (f78v10r7 k a0 y8 a1 a1_fid a1_hok)) ?_
      refine Eq.trans k_lret ?_
      rfl
    · intro s; exact rfl
def slices_ContainsFunc_string_v10_fin : Bool → V × List V := fun r => ((V.bool r), [])
theorem f65v10r0 (k : Nat) (a0 : (List Str)) (a1 : Nat → Str → Option Bool) (a1_fid : Go.FuncId)  (a1_hok : ∀ j x0, EV j a1_fid [(V.str x0)] = (a1 j x0).map fun b => ((V.bool b), [])) : RE k f65v10a0 f65v10o0 false ⟨[(0, (V.sl 0 1 (List.map V.str a0))), (1, (V.fn a1_fid [] []))], [], 9⟩ = some ⟨[(0, (V.sl 0 1 (List.map V.str a0))), (1, (V.fn a1_fid [] []))], [], 9⟩ :=
  rE rfl
theorem f65v10r1 (k : Nat) (a0 : (List Str)) (a1 : Nat → Str → Option Bool) (a1_fid : Go.FuncId)  (a1_hok : ∀ j x0, EV j a1_fid [(V.str x0)] = (a1 j x0).map fun b => ((V.bool b), [])) : RE k f65v10a1 f65v10o1 false ⟨[(0, (V.sl 0 1 (List.map V.str a0))), (1, (V.fn a1_fid [] []))], [], 9⟩ = (((slices_IndexFunc_string_v10 k a0 a1).bind fun v1 => (some ((decide (v1 ≥ 0)))))).map (fun (o : Bool) => (⟨[(4, (V.bool o))], [], 9⟩ : St)) := by
  refine rg ?_
  refine ra 2 2 ⟨[(0, (V.sl 0 1 (List.map V.str a0))), (1, (V.fn a1_fid [] [])), (5, (V.sl 0 1 (List.map V.str a0))), (6, (V.fn a1_fid [] []))], [], 9⟩ rfl rfl rfl ?_
  refine Eq.trans (reg_pure (x := (slices_IndexFunc_string_v10 k a0 a1)) (w := fun v1 => (I v1)) rfl rfl rfl rfl (p_call rfl rfl rfl rfl rfl (slices_IndexFunc_string_v10_ok k a0 a1 a1_fid a1_hok) (.inl rfl))) ?_
  refine bindE (fun v1 => ?_)
  exact bind_end rfl
theorem slices_ContainsFunc_string_v10_ok (k : Nat) (a0 : (List Str)) (a1 : Nat → Str → Option Bool) (a1_fid : Go.FuncId)  (a1_hok : ∀ j x0, EV j a1_fid [(V.str x0)] = (a1 j x0).map fun b => ((V.bool b), [])) : EV k 65 [(V.sl 0 1 (List.map V.str a0)), (V.fn a1_fid [] [])] = (slices_ContainsFunc_string_v10 k a0 a1).map slices_ContainsFunc_string_v10_fin := by
  cases k with
  | zero => rfl
  | succ k =>
    unfold slices_ContainsFunc_string_v10
    refine Eq.trans (evF_succ (c := f65v10c) (N := 9) (regs := f65v10n) rfl Go.Proofs.Try.func65 rfl (by decide) rfl rfl rfl) ?_
    refine Eq.trans (k_region0 rfl (f65v10r0 k a0 a1 a1_fid a1_hok)) ?_
    refine Eq.trans (k_region rfl (f65v10r1 k a0 a1 a1_fid a1_hok)) ?_
    refine bindE (fun o2 => ?_)
    refine Eq.trans k_lret ?_
    rfl
def screen_shows_1_fin : Bool → V × List V := fun r => ((V.bool r), [])
theorem f66r0 (k : Nat) (a0 : Str) : RE k f66a0 f66o0 false ⟨[(0, (V.str a0))], [], 11⟩ = some ⟨[(0, (V.str a0))], [], 11⟩ :=
  rE rfl
theorem f66r1 (k : Nat) (a0 : Str) : RE k f66a1 f66o1 false ⟨[(0, (V.str a0))], [], 11⟩ = ((bif (decide ((a0.length : Int) > 200)) then (some (true)) else ((screen_isText k a0).bind fun v1 => (some ((!v1)))))).map (fun (o : Bool) => (⟨[(2, (V.bool o))], [], 11⟩ : St)) := by
  refine rg ?_
  refine ra 4 4 ⟨[(0, (V.str a0)), (3, (V.str a0)), (4, (I (a0.length : Int))), (5, (V.bool (decide ((a0.length : Int) > 200)))), (6, (V.bool (decide ((a0.length : Int) > 200))))], [], 11⟩ rfl rfl rfl ?_
  refine bifE (c := (decide ((a0.length : Int) > 200))) (fun hc => ?_) fun hc => ?_
  · rw [hc]
    exact reg_end rfl
  · rw [hc]
    refine ra 1 5 ⟨[(0, (V.str a0)), (3, (V.str a0)), (4, (I (a0.length : Int))), (5, (V.bool false)), (6, (V.bool false)), (7, (V.str a0))], [], 11⟩ rfl rfl rfl ?_
    refine Eq.trans (reg_pure (x := (screen_isText k a0)) (w := fun v1 => (V.bool v1)) rfl rfl rfl rfl (p_call rfl rfl rfl rfl rfl (screen_isText_ok k a0) (.inl rfl))) ?_
    refine bindE (fun v1 => ?_)
    exact bind_end rfl
theorem screen_shows_1_ok (k : Nat) (a0 : Str) : EV k 66 [(V.str a0)] = (screen_shows_1 k a0).map screen_shows_1_fin := by
  cases k with
  | zero => rfl
  | succ k =>
    unfold screen_shows_1
    refine Eq.trans (evF_succ (c := f66c) (N := 11) (regs := f66n) rfl Go.Proofs.Try.func66 rfl (by decide) rfl rfl rfl) ?_
    refine Eq.trans (k_region0 rfl (f66r0 k a0)) ?_
    refine Eq.trans (k_region rfl (f66r1 k a0)) ?_
    refine bindE (fun o2 => ?_)
    refine Eq.trans k_lret ?_
    rfl
def screen_shows_fin : Int → V × List V := fun r => ((I r), [])
theorem f34r0 (k : Nat) (a0 : T_api_Form) (a1 : (List Str)) : RE k f34a0 f34o0 false ⟨[(0, (enc_T_api_Form a0)), (1, (V.sl 0 1 (List.map V.str a1)))], [], 23⟩ = some ⟨[(1, (V.sl 0 1 (List.map V.str a1))), (2, (V.ptr 2 0 0))], [(2, ⟨false, 4, [(enc_T_api_Form a0)]⟩)], 23⟩ :=
  rE rfl
theorem f34r1 (k : Nat) (a0 : T_api_Form) (a1 : (List Str)) : RE k f34a1 f34o1 false ⟨[(1, (V.sl 0 1 (List.map V.str a1))), (2, (V.ptr 2 0 0))], [(2, ⟨false, 4, [(enc_T_api_Form a0)]⟩)], 23⟩ = (((screen_Valid k a0).bind fun v1 => (some ((!v1))))).map (fun (o : Bool) => (⟨[(1, (V.sl 0 1 (List.map V.str a1))), (2, (V.ptr 2 0 0)), (9, (V.bool o))], [(2, ⟨false, 4, [(enc_T_api_Form a0)]⟩)], 23⟩ : St)) := by
  refine rg ?_
  refine ra 1 1 ⟨[(1, (V.sl 0 1 (List.map V.str a1))), (2, (V.ptr 2 0 0)), (7, (enc_T_api_Form a0))], [(2, ⟨false, 4, [(enc_T_api_Form a0)]⟩)], 23⟩ rfl rfl rfl ?_
  refine Eq.trans (reg_pure (x := (screen_Valid k a0)) (w := fun v1 => (V.bool v1)) rfl rfl rfl rfl (p_call rfl rfl rfl rfl rfl (screen_Valid_ok k a0) (.inl rfl))) ?_
  refine bindE (fun v1 => ?_)
  exact bind_end rfl
theorem f34r2 (k : Nat) (a0 : T_api_Form) (a1 : (List Str)) : RE k f34a2 f34o2 false ⟨[(1, (V.sl 0 1 (List.map V.str a1))), (2, (V.ptr 2 0 0)), (9, (V.bool true))], [(2, ⟨false, 4, [(enc_T_api_Form a0)]⟩)], 23⟩ = some ⟨[(4, (I 220))], [], 23⟩ :=
  rE rfl
theorem f34r3 (k : Nat) (a0 : T_api_Form) (a1 : (List Str)) : RE k f34a3 f34o3 false ⟨[(1, (V.sl 0 1 (List.map V.str a1))), (2, (V.ptr 2 0 0)), (9, (V.bool false))], [(2, ⟨false, 4, [(enc_T_api_Form a0)]⟩)], 23⟩ = (((screen_lengths k a0).bind fun v3 => (some (v3.2)))).map (fun (o : Int) => (⟨[(1, (V.sl 0 1 (List.map V.str a1))), (6, (I o))], [], 23⟩ : St)) := by
  refine rg ?_
  refine ra 1 1 ⟨[(1, (V.sl 0 1 (List.map V.str a1))), (2, (V.ptr 2 0 0)), (9, (V.bool false)), (11, (enc_T_api_Form a0))], [(2, ⟨false, 4, [(enc_T_api_Form a0)]⟩)], 23⟩ rfl rfl rfl ?_
  refine Eq.trans (reg_pure (x := (screen_lengths k a0)) (w := fun v3 => (V.tup [(I v3.1), (I v3.2)])) rfl rfl rfl rfl (p_call rfl rfl rfl rfl rfl (screen_lengths_ok k a0) (.inl rfl))) ?_
  refine bindE (fun v3 => ?_)
  exact bind_end rfl
theorem f34r4 (k : Nat) (a1 : (List Str)) (o4 : Int) : RE k f34a4 f34o4 false ⟨[(1, (V.sl 0 1 (List.map V.str a1))), (6, (I o4))], [], 23⟩ = ((bif ((a1.length : Int) != o4) then (some (true)) else (slices_ContainsFunc_string_v10 k a1 (fun j x0 => (screen_shows_1 j x0))))).map (fun (o : Bool) => (⟨[(22, (V.bool o))], [], 23⟩ : St)) := by
  refine rg ?_
  refine ra 1 1 ⟨[(1, (V.sl 0 1 (List.map V.str a1))), (6, (I o4)), (15, (V.sl 0 1 (List.map V.str a1)))], [], 23⟩ rfl rfl rfl ?_
  refine Eq.trans (reg_pure (x := some ()) (w := fun _ => (I (a1.length : Int))) rfl rfl rfl rfl (p_len (e := V.str) rfl rfl rfl rfl rfl rfl Go.Proofs.Try.underlying26)) ?_
  refine Eq.trans some_bind ?_
  refine ba 3 5 ⟨[(1, (V.sl 0 1 (List.map V.str a1))), (6, (I o4)), (15, (V.sl 0 1 (List.map V.str a1))), (16, (I (a1.length : Int))), (17, (I o4)), (18, (V.bool ((a1.length : Int) != o4))), (19, (V.bool ((a1.length : Int) != o4)))], [], 23⟩ rfl rfl rfl ?_
  refine bifE (c := ((a1.length : Int) != o4)) (fun hc => ?_) fun hc => ?_
  · rw [hc]
    exact reg_end rfl
  · rw [hc]
    refine ra 1 6 ⟨[(1, (V.sl 0 1 (List.map V.str a1))), (6, (I o4)), (15, (V.sl 0 1 (List.map V.str a1))), (16, (I (a1.length : Int))), (17, (I o4)), (18, (V.bool false)), (19, (V.bool false)), (20, (V.sl 0 1 (List.map V.str a1)))], [], 23⟩ rfl rfl rfl ?_
    refine Eq.trans (reg_pure (x := (slices_ContainsFunc_string_v10 k a1 (fun j x0 => (screen_shows_1 j x0)))) (w := fun v5 => (V.bool v5)) rfl rfl rfl rfl (p_call rfl rfl rfl rfl rfl (slices_ContainsFunc_string_v10_ok k a1 (fun j x0 => (screen_shows_1 j x0)) 66 (fun j x0 => (screen_shows_1_ok j x0))) (.inl rfl))) ?_
    refine bind_self (fun v5 => ?_)
    exact bind_end rfl
theorem f34r5 (k : Nat)  : RE k f34a5 f34o5 false ⟨[(22, (V.bool true))], [], 23⟩ = some ⟨[(4, (I 2))], [], 23⟩ :=
  rE rfl
theorem f34r6 (k : Nat)  : RE k f34a6 f34o6 false ⟨[(22, (V.bool false))], [], 23⟩ = some ⟨[(4, (I 0))], [], 23⟩ :=
  rE rfl
theorem screen_shows_ok (k : Nat) (a0 : T_api_Form) (a1 : (List Str)) : EV k 34 [(enc_T_api_Form a0), (V.sl 0 1 (List.map V.str a1))] = (screen_shows k a0 a1).map screen_shows_fin := by
  cases k with
  | zero => rfl
  | succ k =>
    unfold screen_shows
    refine Eq.trans (evF_succ (c := f34c) (N := 23) (regs := f34n) rfl Go.Proofs.Try.func34 rfl (by decide) rfl rfl rfl) ?_
    refine Eq.trans (k_region0 rfl (f34r0 k a0 a1)) ?_
    refine Eq.trans k_assoc ?_
    refine Eq.trans (k_region rfl (f34r1 k a0 a1)) ?_
    refine bindE (fun o2 => ?_)
    refine Eq.trans (k_cond (t := o2) rfl rfl) ?_
    refine bifE2 (fun hc => ?_) fun hc => ?_
    · rw [hc]
      refine Eq.trans k_assoc ?_
      refine Eq.trans (k_region0 rfl (f34r2 k a0 a1)) ?_
      refine Eq.trans k_ret ?_
      rfl
    · rw [hc]
      refine Eq.trans k_skip ?_
      refine Eq.trans k_assoc ?_
      refine Eq.trans (k_region rfl (f34r3 k a0 a1)) ?_
      refine bindE (fun o4 => ?_)
      refine Eq.trans k_assoc ?_
      refine Eq.trans (k_region rfl (f34r4 k a1 o4)) ?_
      refine bindE (fun o6 => ?_)
      refine Eq.trans (k_cond (t := o6) rfl rfl) ?_
      refine bifE2 (fun hc => ?_) fun hc => ?_
      · rw [hc]
        refine Eq.trans k_assoc ?_
        refine Eq.trans (k_region0 rfl (f34r5 k)) ?_
        refine Eq.trans k_ret ?_
        rfl
      · rw [hc]
        refine Eq.trans k_skip ?_
        refine Eq.trans (k_region0 rfl (f34r6 k)) ?_
        refine Eq.trans k_lret ?_
        rfl
def strings_Repeat_fin : Str → V × List V := fun r => ((V.str r), [])
theorem strings_Repeat_ok (k : Nat) (s : Str) (n : Int) : EV k 68 [(V.str s), (I n)] = (strings_Repeat k s n).map strings_Repeat_fin := by
  cases k with
  | zero => rfl
  | succ k => exact (evF_ext (ext := ext) (f := 68) rfl).trans rfl
def slices_Repeat_string_fin : (List Str) → V × List V := fun r => ((V.sl 0 1 (List.map V.str r)), [])
theorem slices_Repeat_string_ok (k : Nat) (s : (List Str)) (n : Int) : EV k 67 [(V.sl 0 1 (List.map V.str s)), (I n)] = (slices_Repeat_string k s n).map slices_Repeat_string_fin := by
  cases k with
  | zero => rfl
  | succ k => exact (evF_ext (ext := ext) (f := 67) rfl).trans (extSlRep_map s n)
def slices_Clone_string_c_fin : (List Str) → V × List V := fun r => ((V.sl 2 1 (List.map V.str r)), [])
def slices_Clone_string_fin : List Str → V × List V := fun r => ((V.sl 2 1 (List.map V.str r)), [])
theorem f64r0 (k : Nat) (y : Str) (l : (List Str)) : RE k f64a0 f64o0 false ⟨[(0, (V.sl 0 1 (List.map V.str (y :: l))))], [], 8⟩ = some ⟨[(0, (V.sl 0 1 (List.map V.str (y :: l))))], [], 8⟩ :=
  rE rfl
theorem f64r1 (k : Nat) (y : Str) (l : (List Str)) : RE k f64a1 f64o1 false ⟨[(0, (V.sl 0 1 (List.map V.str (y :: l))))], [], 8⟩ = some ⟨[(0, (V.sl 0 1 (List.map V.str (y :: l)))), (4, (V.bool false))], [], 8⟩ :=
  rE rfl
theorem f64r3 (k : Nat) (y : Str) (l : (List Str)) : RE k f64a3 f64o3 false ⟨[(0, (V.sl 0 1 (List.map V.str (y :: l)))), (4, (V.bool false))], [], 8⟩ = ((app ([] : List Str) (y :: l))).map (fun (o : (List Str)) => (⟨[(2, (V.aref 5 0 (List.map V.str o).length)), (5, V.undef)], [(5, ⟨true, 1, List.map V.str o⟩)], 8⟩ : St)) := by
  refine rg ?_
  refine ra 2 2 ⟨[(0, (V.sl 0 1 (List.map V.str (y :: l)))), (4, (V.bool false)), (5, (V.aref 5 0 (List.map V.str ([] : List Str)).length)), (6, (V.sl 0 1 (List.map V.str (y :: l))))], [(5, ⟨true, 1, List.map V.str ([] : List Str)⟩)], 8⟩ rfl rfl rfl ?_
  refine Eq.trans (reg_eff (x := (app ([] : List Str) (y :: l))) (w := fun v1 => ((V.aref 5 0 (List.map V.str v1).length), _)) rfl rfl rfl rfl (p_appF (e := V.str) (l := ([] : List Str)) rfl rfl rfl rfl rfl rfl rfl rfl rfl rfl rfl (of_decide_eq_true rfl))) ?_
  refine bind_self (fun v1 => ?_)
  exact bind_end rfl
theorem slices_Clone_string_c_ok (k : Nat) (y : Str) (l : (List Str)) : EV k 64 [(V.sl 0 1 (List.map V.str (y :: l)))] = (slices_Clone_string_c k y l).map slices_Clone_string_c_fin := by
  cases k with
  | zero => rfl
  | succ k =>
    unfold slices_Clone_string_c
    refine Eq.trans (evF_succ (c := f64c) (N := 8) (regs := f64n) rfl Go.Proofs.Try.func64 rfl (by decide) rfl rfl rfl) ?_
    refine Eq.trans (k_region0 rfl (f64r0 k y l)) ?_
    refine Eq.trans k_assoc ?_
    refine Eq.trans (k_region0 rfl (f64r1 k y l)) ?_
    refine Eq.trans (k_cond (t := false) rfl rfl) ?_
    refine Eq.trans k_skip ?_
    refine Eq.trans (k_region rfl (f64r3 k y l)) ?_
    refine bindE (fun o2 => ?_)
    refine Eq.trans k_lret ?_
    exact endR (e := V.str) (l := o2) (.inr rfl) rfl rfl rfl rfl
theorem slices_Clone_string_ok (k : Nat) (l : List Str) : EV k 64 [(V.sl 0 1 (List.map V.str l))] = (slices_Clone_string k l).map slices_Clone_string_fin := by
  cases k with
  | zero => rfl
  | succ k => cases l with
    | nil => exact evF_ext (ext := ext) (f := 64) rfl
    | cons y l => exact slices_Clone_string_c_ok (k + 1) y l
def screen_laid_fin : (List Str) → V × List V := fun r => ((V.sl 0 1 (List.map V.str r)), [])
theorem f43r0 (k : Nat) (a0 : (List Str)) (a1 : Int) (a2 : Int) (a3 : Str) : RE k f43a0 f43o0 false ⟨[(0, (V.sl 0 1 (List.map V.str a0))), (1, (I a1)), (2, (I a2)), (3, (V.str a3))], [], 34⟩ = some ⟨[(0, (V.sl 0 1 (List.map V.str a0))), (1, (I a1)), (2, (I a2)), (3, (V.str a3))], [], 34⟩ :=
  rE rfl
theorem f43r1 (k : Nat) (a0 : (List Str)) (a1 : Int) (a2 : Int) (a3 : Str) : RE k f43a1 f43o1 false ⟨[(0, (V.sl 0 1 (List.map V.str a0))), (1, (I a1)), (2, (I a2)), (3, (V.str a3))], [], 34⟩ = ((slices_Clone_string k a0)).map (fun (o : (List Str)) => (⟨[(1, (I a1)), (2, (I a2)), (3, (V.str a3)), (9, (V.aref 11 0 (List.map V.str o).length)), (11, (V.aref 11 0 (List.map V.str o).length))], [(11, ⟨true, 1, List.map V.str o⟩)], 34⟩ : St)) := by
  refine rg ?_
  refine ra 1 1 ⟨[(0, (V.sl 0 1 (List.map V.str a0))), (1, (I a1)), (2, (I a2)), (3, (V.str a3)), (10, (V.sl 0 1 (List.map V.str a0)))], [], 34⟩ rfl rfl rfl ?_
  refine Eq.trans (reg_eff (x := (slices_Clone_string k a0)) (w := fun v1 => ((V.sl 2 1 (List.map V.str v1)), _)) rfl rfl rfl rfl (p_callS rfl rfl rfl rfl rfl rfl (slices_Clone_string_ok k a0))) ?_
  refine bind_self (fun v1 => ?_)
  exact bind_end rfl
theorem f43r2 (k : Nat) (a1 : Int) (a2 : Int) (a3 : Str) (o2 : (List Str)) : RE k f43a2 f43o2 true ⟨[(1, (I a1)), (2, (I a2)), (3, (V.str a3)), (9, (V.aref 11 0 (List.map V.str o2).length)), (11, (V.aref 11 0 (List.map V.str o2).length))], [(11, ⟨true, 1, List.map V.str o2⟩)], 34⟩ = (((inB o2.length a1).bind fun v3 => ((o2[0 + a1.toNat]?).bind fun v4 => ((cut v4 0 a2).bind fun v5 => ((cat v5 a3).bind fun v6 => ((inB o2.length a1).bind fun v7 => ((o2[0 + a1.toNat]?).bind fun v8 => ((cut v8 (Go.IntKind.wrap .i64 (a2 + (a3.length : Int))) (v8.length : Int)).bind fun v9 => ((cat v6 v9).bind fun v10 => ((inB o2.length a1).bind fun v11 => ((o2[0 + a1.toNat]?).bind fun v12 => (some ((o2.set (0 + a1.toNat) v10)))))))))))))).map (fun (o : (List Str)) => (⟨[(9, (V.aref 11 0 (List.map V.str o).length)), (11, (V.aref 11 0 (List.map V.str o).length))], [(11, ⟨true, 1, List.map V.str o⟩)], 34⟩ : St)) := by
  refine Eq.trans (regionE_regp (p := 21) (dk := true) (t := [(1, (I a1)), (2, (I a2)), (3, (V.str a3)), (9, (V.aref 11 0 (List.map V.str o2).length)), (11, (V.aref 11 0 (List.map V.str o2).length))]) (σ := [(11, ⟨true, 1, List.map V.str o2⟩)]) (n := 34) rfl (by decide) (by decide) rfl) ?_
  refine Eq.trans (regp_adv (m := 4) (j := 4) (t' := [(1, (I a1)), (2, (I a2)), (3, (V.str a3)), (9, (V.aref 11 0 (List.map V.str o2).length)), (11, (V.aref 11 0 (List.map V.str o2).length)), (12, (V.aref 11 0 (List.map V.str o2).length)), (13, (I a1)), (14, (V.aref 11 0 (List.map V.str o2).length)), (15, (I a1))]) rfl rfl rfl) ?_
  refine Eq.trans (regp_pure (x := (inB o2.length a1)) (w := fun v3 => (V.ptr 11 (0 + a1.toNat) 0)) rfl rfl rfl rfl rfl (p_indexF (e := V.str) rfl rfl rfl Go.Proofs.Try.underlying26 rfl rfl (by decide))) ?_
  refine bindE (fun v3 => ?_)
  refine Eq.trans (putp_adv (m := 0) (j := 5) (t' := [(1, (I a1)), (2, (I a2)), (3, (V.str a3)), (9, (V.aref 11 0 (List.map V.str o2).length)), (11, (V.aref 11 0 (List.map V.str o2).length)), (12, (V.aref 11 0 (List.map V.str o2).length)), (13, (I a1)), (14, (V.aref 11 0 (List.map V.str o2).length)), (15, (I a1)), (16, (V.ptr 11 (0 + a1.toNat) 0))]) rfl rfl rfl) ?_
  refine Eq.trans (regp_pure (x := (o2[0 + a1.toNat]?)) (w := fun v4 => (V.str v4)) rfl rfl rfl rfl rfl (p_loadA (e := V.str) rfl rfl rfl (fun _ => rfl) (fun _ => rfl))) ?_
  refine bindE (fun v4 => ?_)
  refine Eq.trans (putp_adv (m := 1) (j := 7) (t' := [(1, (I a1)), (2, (I a2)), (3, (V.str a3)), (9, (V.aref 11 0 (List.map V.str o2).length)), (11, (V.aref 11 0 (List.map V.str o2).length)), (12, (V.aref 11 0 (List.map V.str o2).length)), (13, (I a1)), (14, (V.aref 11 0 (List.map V.str o2).length)), (15, (I a1)), (16, (V.ptr 11 (0 + a1.toNat) 0)), (17, (V.str v4)), (18, (I a2))]) rfl rfl rfl) ?_
  refine Eq.trans (regp_pure (x := (cut v4 0 a2)) (w := fun v5 => (V.str v5)) rfl rfl rfl rfl rfl (p_sliceS rfl rfl rfl rfl rfl rfl Go.Proofs.Try.underlying9)) ?_
  refine bindE (fun v5 => ?_)
  refine Eq.trans (putp_adv (m := 1) (j := 9) (t' := [(1, (I a1)), (2, (I a2)), (3, (V.str a3)), (9, (V.aref 11 0 (List.map V.str o2).length)), (11, (V.aref 11 0 (List.map V.str o2).length)), (12, (V.aref 11 0 (List.map V.str o2).length)), (13, (I a1)), (14, (V.aref 11 0 (List.map V.str o2).length)), (15, (I a1)), (16, (V.ptr 11 (0 + a1.toNat) 0)), (17, (V.str v4)), (18, (I a2)), (19, (V.str v5)), (20, (V.str a3))]) rfl rfl rfl) ?_
  refine Eq.trans (regp_pure (x := (cat v5 a3)) (w := fun v6 => (V.str v6)) rfl rfl rfl rfl rfl (p_cat rfl rfl rfl)) ?_
  refine bindE (fun v6 => ?_)
  refine Eq.trans (putp_adv (m := 2) (j := 12) (t' := [(1, (I a1)), (2, (I a2)), (3, (V.str a3)), (9, (V.aref 11 0 (List.map V.str o2).length)), (11, (V.aref 11 0 (List.map V.str o2).length)), (12, (V.aref 11 0 (List.map V.str o2).length)), (13, (I a1)), (14, (V.aref 11 0 (List.map V.str o2).length)), (15, (I a1)), (16, (V.ptr 11 (0 + a1.toNat) 0)), (17, (V.str v4)), (18, (I a2)), (19, (V.str v5)), (20, (V.str a3)), (21, (V.str v6)), (22, (V.aref 11 0 (List.map V.str o2).length)), (23, (I a1))]) rfl rfl rfl) ?_
  refine Eq.trans (regp_pure (x := (inB o2.length a1)) (w := fun v7 => (V.ptr 11 (0 + a1.toNat) 0)) rfl rfl rfl rfl rfl (p_indexF (e := V.str) rfl rfl rfl Go.Proofs.Try.underlying26 rfl rfl (by decide))) ?_
  refine bindE (fun v7 => ?_)
  refine Eq.trans (putp_adv (m := 0) (j := 13) (t' := [(1, (I a1)), (2, (I a2)), (3, (V.str a3)), (9, (V.aref 11 0 (List.map V.str o2).length)), (11, (V.aref 11 0 (List.map V.str o2).length)), (12, (V.aref 11 0 (List.map V.str o2).length)), (13, (I a1)), (14, (V.aref 11 0 (List.map V.str o2).length)), (15, (I a1)), (16, (V.ptr 11 (0 + a1.toNat) 0)), (17, (V.str v4)), (18, (I a2)), (19, (V.str v5)), (20, (V.str a3)), (21, (V.str v6)), (22, (V.aref 11 0 (List.map V.str o2).length)), (23, (I a1)), (24, (V.ptr 11 (0 + a1.toNat) 0))]) rfl rfl rfl) ?_
  refine Eq.trans (regp_pure (x := (o2[0 + a1.toNat]?)) (w := fun v8 => (V.str v8)) rfl rfl rfl rfl rfl (p_loadA (e := V.str) rfl rfl rfl (fun _ => rfl) (fun _ => rfl))) ?_
  refine bindE (fun v8 => ?_)
  refine Eq.trans (putp_adv (m := 4) (j := 18) (t' := [(1, (I a1)), (2, (I a2)), (3, (V.str a3)), (9, (V.aref 11 0 (List.map V.str o2).length)), (11, (V.aref 11 0 (List.map V.str o2).length)), (12, (V.aref 11 0 (List.map V.str o2).length)), (13, (I a1)), (14, (V.aref 11 0 (List.map V.str o2).length)), (15, (I a1)), (16, (V.ptr 11 (0 + a1.toNat) 0)), (17, (V.str v4)), (18, (I a2)), (19, (V.str v5)), (20, (V.str a3)), (21, (V.str v6)), (22, (V.aref 11 0 (List.map V.str o2).length)), (23, (I a1)), (24, (V.ptr 11 (0 + a1.toNat) 0)), (25, (V.str v8)), (26, (I a2)), (27, (V.str a3)), (28, (I (a3.length : Int))), (29, (I (Go.IntKind.wrap .i64 (a2 + (a3.length : Int)))))]) rfl rfl rfl) ?_
  refine Eq.trans (regp_pure (x := (cut v8 (Go.IntKind.wrap .i64 (a2 + (a3.length : Int))) (v8.length : Int))) (w := fun v9 => (V.str v9)) rfl rfl rfl rfl rfl (p_sliceS rfl rfl rfl rfl rfl rfl Go.Proofs.Try.underlying9)) ?_
  refine bindE (fun v9 => ?_)
  refine Eq.trans (putp_adv (m := 0) (j := 19) (t' := [(1, (I a1)), (2, (I a2)), (3, (V.str a3)), (9, (V.aref 11 0 (List.map V.str o2).length)), (11, (V.aref 11 0 (List.map V.str o2).length)), (12, (V.aref 11 0 (List.map V.str o2).length)), (13, (I a1)), (14, (V.aref 11 0 (List.map V.str o2).length)), (15, (I a1)), (16, (V.ptr 11 (0 + a1.toNat) 0)), (17, (V.str v4)), (18, (I a2)), (19, (V.str v5)), (20, (V.str a3)), (21, (V.str v6)), (22, (V.aref 11 0 (List.map V.str o2).length)), (23, (I a1)), (24, (V.ptr 11 (0 + a1.toNat) 0)), (25, (V.str v8)), (26, (I a2)), (27, (V.str a3)), (28, (I (a3.length : Int))), (29, (I (Go.IntKind.wrap .i64 (a2 + (a3.length : Int))))), (30, (V.str v9))]) rfl rfl rfl) ?_
  refine Eq.trans (regp_pure (x := (cat v6 v9)) (w := fun v10 => (V.str v10)) rfl rfl rfl rfl rfl (p_cat rfl rfl rfl)) ?_
  refine bindE (fun v10 => ?_)
  refine Eq.trans (putp_adv (m := 0) (j := 20) (t' := [(1, (I a1)), (2, (I a2)), (3, (V.str a3)), (9, (V.aref 11 0 (List.map V.str o2).length)), (11, (V.aref 11 0 (List.map V.str o2).length)), (12, (V.aref 11 0 (List.map V.str o2).length)), (13, (I a1)), (14, (V.aref 11 0 (List.map V.str o2).length)), (15, (I a1)), (16, (V.ptr 11 (0 + a1.toNat) 0)), (17, (V.str v4)), (18, (I a2)), (19, (V.str v5)), (20, (V.str a3)), (21, (V.str v6)), (22, (V.aref 11 0 (List.map V.str o2).length)), (23, (I a1)), (24, (V.ptr 11 (0 + a1.toNat) 0)), (25, (V.str v8)), (26, (I a2)), (27, (V.str a3)), (28, (I (a3.length : Int))), (29, (I (Go.IntKind.wrap .i64 (a2 + (a3.length : Int))))), (30, (V.str v9)), (31, (V.str v10))]) rfl rfl rfl) ?_
  refine Eq.trans (regp_pure (x := (inB o2.length a1)) (w := fun v11 => (V.ptr 11 (0 + a1.toNat) 0)) rfl rfl rfl rfl rfl (p_indexF (e := V.str) rfl rfl rfl Go.Proofs.Try.underlying26 rfl rfl (by decide))) ?_
  refine bindE (fun v11 => ?_)
  refine Eq.trans (regp_reg (m := 0) (j := 21) (st' := ⟨[(1, (I a1)), (2, (I a2)), (3, (V.str a3)), (9, (V.aref 11 0 (List.map V.str o2).length)), (11, (V.aref 11 0 (List.map V.str o2).length)), (12, (V.aref 11 0 (List.map V.str o2).length)), (13, (I a1)), (14, (V.aref 11 0 (List.map V.str o2).length)), (15, (I a1)), (16, (V.ptr 11 (0 + a1.toNat) 0)), (17, (V.str v4)), (18, (I a2)), (19, (V.str v5)), (20, (V.str a3)), (21, (V.str v6)), (22, (V.aref 11 0 (List.map V.str o2).length)), (23, (I a1)), (24, (V.ptr 11 (0 + a1.toNat) 0)), (25, (V.str v8)), (26, (I a2)), (27, (V.str a3)), (28, (I (a3.length : Int))), (29, (I (Go.IntKind.wrap .i64 (a2 + (a3.length : Int))))), (30, (V.str v9)), (31, (V.str v10)), (32, (V.ptr 11 (0 + a1.toNat) 0))], [(11, ⟨true, 1, List.map V.str o2⟩)], 34⟩) rfl rfl rfl) ?_
  refine Eq.trans (reg_eff (x := (o2[0 + a1.toNat]?)) (w := fun _ => (V.tup [], _)) rfl rfl rfl rfl (p_storeL (S := (fun n_ => ⟨[(1, (I a1)), (2, (I a2)), (3, (V.str a3)), (9, (V.aref 11 0 n_)), (11, (V.aref 11 0 n_)), (12, (V.aref 11 0 n_)), (13, (I a1)), (14, (V.aref 11 0 n_)), (15, (I a1)), (16, (V.ptr 11 (0 + a1.toNat) 0)), (17, (V.str v4)), (18, (I a2)), (19, (V.str v5)), (20, (V.str a3)), (21, (V.str v6)), (22, (V.aref 11 0 n_)), (23, (I a1)), (24, (V.ptr 11 (0 + a1.toNat) 0)), (25, (V.str v8)), (26, (I a2)), (27, (V.str a3)), (28, (I (a3.length : Int))), (29, (I (Go.IntKind.wrap .i64 (a2 + (a3.length : Int))))), (30, (V.str v9)), (31, (V.str v10)), (32, (V.ptr 11 (0 + a1.toNat) 0))], [(11, ⟨true, 1, List.map V.str o2⟩)], 34⟩)) (e := V.str) (l := o2) (v := v10) rfl rfl rfl rfl rfl rfl rfl rfl rfl rfl (fun _ => rfl))) ?_
  refine bindE (fun v12 => ?_)
  exact bind_end rfl
theorem f43r3 (k : Nat) (o13 : (List Str)) : RE k f43a3 f43o3 false ⟨[(9, (V.aref 11 0 (List.map V.str o13).length)), (11, (V.aref 11 0 (List.map V.str o13).length))], [(11, ⟨true, 1, List.map V.str o13⟩)], 34⟩ = some ⟨[(8, (V.sl 0 1 (List.map V.str o13)))], [], 34⟩ := by
  refine rg ?_
  refine ra 1 1 ⟨[(9, (V.aref 11 0 (List.map V.str o13).length)), (11, (V.aref 11 0 (List.map V.str o13).length)), (33, (V.aref 11 0 (List.map V.str o13).length))], [(11, ⟨true, 1, List.map V.str o13⟩)], 34⟩ rfl rfl rfl ?_
  refine Eq.trans (reg_eff (x := some ()) (w := fun _ => ((V.sl 2 1 (List.map V.str o13)), _)) rfl rfl rfl rfl (p_close (e := V.str) rfl rfl rfl rfl rfl (of_decide_eq_true rfl))) ?_
  refine Eq.trans some_bind ?_
  exact bind_end rfl
theorem screen_laid_ok (k : Nat) (a0 : (List Str)) (a1 : Int) (a2 : Int) (a3 : Str) : EV k 43 [(V.sl 0 1 (List.map V.str a0)), (I a1), (I a2), (V.str a3)] = (screen_laid k a0 a1 a2 a3).map screen_laid_fin := by
  cases k with
  | zero => rfl
  | succ k =>
    unfold screen_laid
    refine Eq.trans (evF_succ (c := f43c) (N := 34) (regs := f43n) rfl Go.Proofs.Try.func43 rfl (by decide) rfl rfl rfl) ?_
    refine Eq.trans (k_region0 rfl (f43r0 k a0 a1 a2 a3)) ?_
    refine Eq.trans (k_region rfl (f43r1 k a0 a1 a2 a3)) ?_
    refine bindE (fun o2 => ?_)
    refine Eq.trans (k_region rfl (f43r2 k a1 a2 a3 o2)) ?_
    refine bindE (fun o13 => ?_)
    refine Eq.trans (k_region0 rfl (f43r3 k o13)) ?_
    refine Eq.trans k_lret ?_
    rfl
def screen_filled_fin : Str → V × List V := fun r => ((V.str r), [])
theorem f49r0 (k : Nat) (a0 : T_api_Slot) (a1 : Str) : RE k f49a0 f49o0 false ⟨[(0, (enc_T_api_Slot a0)), (1, (V.str a1))], [], 26⟩ = some ⟨[(1, (V.str a1)), (2, (V.ptr 2 0 0))], [(2, ⟨false, 7, [(enc_T_api_Slot a0)]⟩)], 26⟩ :=
  rE rfl
theorem f49r1 (k : Nat) (a0 : T_api_Slot) (a1 : Str) : RE k f49a1 f49o1 false ⟨[(1, (V.str a1)), (2, (V.ptr 2 0 0))], [(2, ⟨false, 7, [(enc_T_api_Slot a0)]⟩)], 26⟩ = some ⟨[(1, (V.str a1)), (2, (V.ptr 2 0 0)), (9, (V.bool (decide ((a1.length : Int) ≥ a0.fBytes))))], [(2, ⟨false, 7, [(enc_T_api_Slot a0)]⟩)], 26⟩ :=
  rE rfl
theorem f49r2 (k : Nat) (a0 : T_api_Slot) (a1 : Str) : RE k f49a2 f49o2 false ⟨[(1, (V.str a1)), (2, (V.ptr 2 0 0)), (9, (V.bool true))], [(2, ⟨false, 7, [(enc_T_api_Slot a0)]⟩)], 26⟩ = ((cut a1 0 a0.fBytes)).map (fun (o : Str) => (⟨[(4, (V.str o))], [], 26⟩ : St)) := by
  refine rg ?_
  refine ra 3 3 ⟨[(1, (V.str a1)), (2, (V.ptr 2 0 0)), (9, (V.bool true)), (10, (V.str a1)), (11, (V.ptr 2 0 3)), (12, (I a0.fBytes))], [(2, ⟨false, 7, [(enc_T_api_Slot a0)]⟩)], 26⟩ rfl rfl rfl ?_
  refine Eq.trans (reg_pure (x := (cut a1 0 a0.fBytes)) (w := fun v1 => (V.str v1)) rfl rfl rfl rfl (p_sliceS rfl rfl rfl rfl rfl rfl Go.Proofs.Try.underlying9)) ?_
  refine bind_self (fun v1 => ?_)
  exact bind_end rfl
theorem f49r3 (k : Nat) (a0 : T_api_Slot) (a1 : Str) : RE k f49a3 f49o3 false ⟨[(1, (V.str a1)), (2, (V.ptr 2 0 0)), (9, (V.bool false))], [(2, ⟨false, 7, [(enc_T_api_Slot a0)]⟩)], 26⟩ = (((strings_Repeat k (Go.AE.strB ([a0.fFill] : List Int)) (Go.IntKind.wrap .i64 (a0.fBytes - (a1.length : Int)))).bind fun v3 => (cat a1 v3))).map (fun (o : Str) => (⟨[(4, (V.str o))], [], 26⟩ : St)) := by
  refine rg ?_
  refine ra 4 4 ⟨[(1, (V.str a1)), (2, (V.ptr 2 0 0)), (9, (V.bool false)), (14, (V.str a1)), (15, (V.ptr 2 0 6)), (16, (V.int .u8 a0.fFill)), (17, (V.sl 0 1 (List.map (V.int .u8) ([a0.fFill] : List Int))))], [(2, ⟨false, 7, [(enc_T_api_Slot a0)]⟩)], 26⟩ rfl rfl rfl ?_
  refine Eq.trans (reg_pure (x := some ()) (w := fun _ => (V.str (Go.AE.strB ([a0.fFill] : List Int)))) rfl rfl rfl rfl (p_convBS (l := ([a0.fFill] : List Int)) rfl rfl Go.Proofs.Try.underlying92 Go.Proofs.Try.underlying9 Go.Proofs.Try.underlying5)) ?_
  refine Eq.trans some_bind ?_
  refine ba 5 10 ⟨[(1, (V.str a1)), (2, (V.ptr 2 0 0)), (9, (V.bool false)), (14, (V.str a1)), (15, (V.ptr 2 0 6)), (16, (V.int .u8 a0.fFill)), (17, (V.sl 0 1 (List.map (V.int .u8) ([a0.fFill] : List Int)))), (18, (V.str (Go.AE.strB ([a0.fFill] : List Int)))), (19, (V.ptr 2 0 3)), (20, (I a0.fBytes)), (21, (V.str a1)), (22, (I (a1.length : Int))), (23, (I (Go.IntKind.wrap .i64 (a0.fBytes - (a1.length : Int)))))], [(2, ⟨false, 7, [(enc_T_api_Slot a0)]⟩)], 26⟩ rfl rfl rfl ?_
  refine Eq.trans (reg_pure (x := (strings_Repeat k (Go.AE.strB ([a0.fFill] : List Int)) (Go.IntKind.wrap .i64 (a0.fBytes - (a1.length : Int))))) (w := fun v3 => (V.str v3)) rfl rfl rfl rfl (p_call rfl rfl rfl rfl rfl (strings_Repeat_ok k (Go.AE.strB ([a0.fFill] : List Int)) (Go.IntKind.wrap .i64 (a0.fBytes - (a1.length : Int)))) (.inl rfl))) ?_
  refine bindE (fun v3 => ?_)
  refine ba 0 11 ⟨[(1, (V.str a1)), (2, (V.ptr 2 0 0)), (9, (V.bool false)), (14, (V.str a1)), (15, (V.ptr 2 0 6)), (16, (V.int .u8 a0.fFill)), (17, (V.sl 0 1 (List.map (V.int .u8) ([a0.fFill] : List Int)))), (18, (V.str (Go.AE.strB ([a0.fFill] : List Int)))), (19, (V.ptr 2 0 3)), (20, (I a0.fBytes)), (21, (V.str a1)), (22, (I (a1.length : Int))), (23, (I (Go.IntKind.wrap .i64 (a0.fBytes - (a1.length : Int))))), (24, (V.str v3))], [(2, ⟨false, 7, [(enc_T_api_Slot a0)]⟩)], 26⟩ rfl rfl rfl ?_
  refine Eq.trans (reg_pure (x := (cat a1 v3)) (w := fun v4 => (V.str v4)) rfl rfl rfl rfl (p_cat rfl rfl rfl)) ?_
  refine bind_self (fun v4 => ?_)
  exact bind_end rfl
theorem screen_filled_ok (k : Nat) (a0 : T_api_Slot) (a1 : Str) : EV k 49 [(enc_T_api_Slot a0), (V.str a1)] = (screen_filled k a0 a1).map screen_filled_fin := by
  cases k with
  | zero => rfl
  | succ k =>
    unfold screen_filled
    refine Eq.trans (evF_succ (c := f49c) (N := 26) (regs := f49n) rfl Go.Proofs.Try.func49 rfl (by decide) rfl rfl rfl) ?_
    refine Eq.trans (k_region0 rfl (f49r0 k a0 a1)) ?_
    refine Eq.trans k_assoc ?_
    refine Eq.trans (k_region0 rfl (f49r1 k a0 a1)) ?_
    refine Eq.trans (k_cond (t := (decide ((a1.length : Int) ≥ a0.fBytes))) rfl rfl) ?_
    refine bifE2 (fun hc => ?_) fun hc => ?_
    · rw [hc]
      refine Eq.trans k_assoc ?_
      refine Eq.trans (k_region rfl (f49r2 k a0 a1)) ?_
      refine bindE (fun o2 => ?_)
      refine Eq.trans k_ret ?_
      rfl
    · rw [hc]
      refine Eq.trans k_skip ?_
      refine Eq.trans (k_region rfl (f49r3 k a0 a1)) ?_
      refine bindE (fun o5 => ?_)
      refine Eq.trans k_lret ?_
      rfl
def screen_show_fin : (List Str) → V × List V := fun r => ((V.sl 0 1 (List.map V.str r)), [])
theorem f35r0 (k : Nat) (a0 : T_api_Form) (a1 : (List Str)) : RE k f35a0 f35o0 false ⟨[(0, (enc_T_api_Form a0)), (1, (V.sl 0 1 (List.map V.str a1)))], [], 60⟩ = some ⟨[(1, (V.sl 0 1 (List.map V.str a1))), (2, (V.ptr 2 0 0))], [(2, ⟨false, 4, [(enc_T_api_Form a0)]⟩)], 60⟩ :=
  rE rfl
theorem f35r1 (k : Nat) (a0 : T_api_Form) (a1 : (List Str)) : RE k f35a1 f35o1 true ⟨[(1, (V.sl 0 1 (List.map V.str a1))), (2, (V.ptr 2 0 0))], [(2, ⟨false, 4, [(enc_T_api_Form a0)]⟩)], 60⟩ = (((strings_Repeat k ([32] : Str) a0.fColumns).bind fun v1 => (slices_Repeat_string k ([v1] : List Str) a0.fRows))).map (fun (o : (List Str)) => (⟨[(1, (V.sl 0 1 (List.map V.str a1))), (2, (V.ptr 2 0 0)), (5, (V.sl 0 1 (List.map V.str o)))], [(2, ⟨false, 4, [(enc_T_api_Form a0)]⟩)], 60⟩ : St)) := by
  refine Eq.trans (regionE_regp (p := 8) (dk := true) (t := [(1, (V.sl 0 1 (List.map V.str a1))), (2, (V.ptr 2 0 0))]) (σ := [(2, ⟨false, 4, [(enc_T_api_Form a0)]⟩)]) (n := 60) rfl (by decide) (by decide) rfl) ?_
  refine Eq.trans (regp_adv (m := 2) (j := 2) (t' := [(1, (V.sl 0 1 (List.map V.str a1))), (2, (V.ptr 2 0 0)), (11, (V.ptr 2 0 1)), (12, (I a0.fColumns))]) rfl rfl rfl) ?_
  refine Eq.trans (regp_pure (x := (strings_Repeat k ([32] : Str) a0.fColumns)) (w := fun v1 => (V.str v1)) rfl rfl rfl rfl rfl (p_call rfl rfl rfl rfl rfl (strings_Repeat_ok k ([32] : Str) a0.fColumns) (.inl rfl))) ?_
  refine bindE (fun v1 => ?_)
  refine Eq.trans (putp_adv (m := 3) (j := 6) (t' := [(1, (V.sl 0 1 (List.map V.str a1))), (2, (V.ptr 2 0 0)), (11, (V.ptr 2 0 1)), (12, (I a0.fColumns)), (13, (V.str v1)), (14, (V.sl 0 1 (List.map V.str ([v1] : List Str)))), (15, (V.ptr 2 0 0)), (16, (I a0.fRows))]) rfl rfl rfl) ?_
  refine Eq.trans (regp_pure (x := (slices_Repeat_string k ([v1] : List Str) a0.fRows)) (w := fun v2 => (V.sl 0 1 (List.map V.str v2))) rfl rfl rfl rfl rfl (p_call rfl rfl rfl rfl rfl (slices_Repeat_string_ok k ([v1] : List Str) a0.fRows) (.inl rfl))) ?_
  refine bind_self (fun v2 => ?_)
  exact regp_end rfl
theorem f35r2 (k : Nat) (a0 : T_api_Form) (a1 : (List Str)) (o3 : (List Str)) : RE k f35a2 f35o2 false ⟨[(1, (V.sl 0 1 (List.map V.str a1))), (2, (V.ptr 2 0 0)), (5, (V.sl 0 1 (List.map V.str o3)))], [(2, ⟨false, 4, [(enc_T_api_Form a0)]⟩)], 60⟩ = some ⟨[(1, (V.sl 0 1 (List.map V.str a1))), (2, (V.ptr 2 0 0)), (5, (V.sl 0 1 (List.map V.str o3))), (19, (sMark (a0.fMarks))), (20, (I (a0.fMarks.length : Int))), (21, (I 0))], [(2, ⟨false, 4, [(enc_T_api_Form a0)]⟩)], 60⟩ := by
  refine rg ?_
  refine ra 2 2 ⟨[(1, (V.sl 0 1 (List.map V.str a1))), (2, (V.ptr 2 0 0)), (5, (V.sl 0 1 (List.map V.str o3))), (18, (V.ptr 2 0 2)), (19, (sMark (a0.fMarks)))], [(2, ⟨false, 4, [(enc_T_api_Form a0)]⟩)], 60⟩ rfl rfl rfl ?_
  refine Eq.trans (reg_pure (x := some ()) (w := fun _ => (I (a0.fMarks.length : Int))) rfl rfl rfl rfl (p_len (e := enc_T_api_Mark) rfl rfl rfl rfl rfl rfl Go.Proofs.Try.underlying22)) ?_
  refine Eq.trans some_bind ?_
  exact bind_end rfl
theorem f35r3 (k : Nat) (a0 : T_api_Form) (a1 : (List Str)) (x8 : (List Str)) (x9 : Int) : RE k f35a3 f35o3 false ⟨[(1, (V.sl 0 1 (List.map V.str a1))), (2, (V.ptr 2 0 0)), (5, (V.sl 0 1 (List.map V.str x8))), (19, (sMark (a0.fMarks))), (20, (I (a0.fMarks.length : Int))), (21, (I x9))], [(2, ⟨false, 4, [(enc_T_api_Form a0)]⟩)], 60⟩ = some ⟨[(1, (V.sl 0 1 (List.map V.str a1))), (2, (V.ptr 2 0 0)), (5, (V.sl 0 1 (List.map V.str x8))), (19, (sMark (a0.fMarks))), (20, (I (a0.fMarks.length : Int))), (21, (I x9)), (22, (V.bool (decide (x9 < (a0.fMarks.length : Int)))))], [(2, ⟨false, 4, [(enc_T_api_Form a0)]⟩)], 60⟩ :=
  rE rfl
theorem f35r4 (k : Nat) (a0 : T_api_Form) (a1 : (List Str)) (x8 : (List Str)) (x9 : Int) : RE k f35a4 f35o4 false ⟨[(1, (V.sl 0 1 (List.map V.str a1))), (2, (V.ptr 2 0 0)), (5, (V.sl 0 1 (List.map V.str x8))), (19, (sMark (a0.fMarks))), (20, (I (a0.fMarks.length : Int))), (21, (I x9)), (22, (V.bool true))], [(2, ⟨false, 4, [(enc_T_api_Form a0)]⟩)], 60⟩ = ((idx a0.fMarks x9)).map (fun (o : T_api_Mark) => (⟨[(1, (V.sl 0 1 (List.map V.str a1))), (2, (V.ptr 2 0 0)), (5, (V.sl 0 1 (List.map V.str x8))), (7, (V.ptr 7 0 0)), (19, (sMark (a0.fMarks))), (20, (I (a0.fMarks.length : Int))), (21, (I x9))], [(2, ⟨false, 4, [(enc_T_api_Form a0)]⟩), (7, ⟨false, 3, [(enc_T_api_Mark o)]⟩)], 60⟩ : St)) := by
  refine rg ?_
  refine Eq.trans (reg_pure (x := (idx a0.fMarks x9)) (w := fun v10 => (V.pro (enc_T_api_Mark v10))) rfl rfl rfl rfl (p_index (e := enc_T_api_Mark) rfl rfl rfl Go.Proofs.Try.underlying22 rfl (by decide))) ?_
  refine bind_self (fun v10 => ?_)
  exact bind_end rfl
theorem f35r5 (k : Nat) (a0 : T_api_Form) (a1 : (List Str)) (x8 : (List Str)) (x9 : Int) (o11 : T_api_Mark) : RE k f35a5 f35o5 false ⟨[(1, (V.sl 0 1 (List.map V.str a1))), (2, (V.ptr 2 0 0)), (5, (V.sl 0 1 (List.map V.str x8))), (7, (V.ptr 7 0 0)), (19, (sMark (a0.fMarks))), (20, (I (a0.fMarks.length : Int))), (21, (I x9))], [(2, ⟨false, 4, [(enc_T_api_Form a0)]⟩), (7, ⟨false, 3, [(enc_T_api_Mark o11)]⟩)], 60⟩ = ((screen_laid k x8 o11.fRow o11.fColumn o11.fText)).map (fun (o : (List Str)) => (⟨[(1, (V.sl 0 1 (List.map V.str a1))), (2, (V.ptr 2 0 0)), (5, (V.sl 0 1 (List.map V.str o))), (19, (sMark (a0.fMarks))), (20, (I (a0.fMarks.length : Int))), (21, (I x9))], [(2, ⟨false, 4, [(enc_T_api_Form a0)]⟩)], 60⟩ : St)) := by
  refine rg ?_
  refine ra 7 7 ⟨[(1, (V.sl 0 1 (List.map V.str a1))), (2, (V.ptr 2 0 0)), (5, (V.sl 0 1 (List.map V.str x8))), (7, (V.ptr 7 0 0)), (19, (sMark (a0.fMarks))), (20, (I (a0.fMarks.length : Int))), (21, (I x9)), (25, (V.sl 0 1 (List.map V.str x8))), (26, (V.ptr 7 0 0)), (27, (I o11.fRow)), (28, (V.ptr 7 0 1)), (29, (I o11.fColumn)), (30, (V.ptr 7 0 2)), (31, (V.str o11.fText))], [(2, ⟨false, 4, [(enc_T_api_Form a0)]⟩), (7, ⟨false, 3, [(enc_T_api_Mark o11)]⟩)], 60⟩ rfl rfl rfl ?_
  refine Eq.trans (reg_pure (x := (screen_laid k x8 o11.fRow o11.fColumn o11.fText)) (w := fun v12 => (V.sl 0 1 (List.map V.str v12))) rfl rfl rfl rfl (p_call rfl rfl rfl rfl rfl (screen_laid_ok k x8 o11.fRow o11.fColumn o11.fText) (.inl rfl))) ?_
  refine bind_self (fun v12 => ?_)
  exact bind_end rfl
theorem f35r6 (k : Nat) (a0 : T_api_Form) (a1 : (List Str)) (x9 : Int) (o13 : (List Str)) : RE k f35a6 f35o6 false ⟨[(1, (V.sl 0 1 (List.map V.str a1))), (2, (V.ptr 2 0 0)), (5, (V.sl 0 1 (List.map V.str o13))), (19, (sMark (a0.fMarks))), (20, (I (a0.fMarks.length : Int))), (21, (I x9))], [(2, ⟨false, 4, [(enc_T_api_Form a0)]⟩)], 60⟩ = some ⟨[(1, (V.sl 0 1 (List.map V.str a1))), (2, (V.ptr 2 0 0)), (5, (V.sl 0 1 (List.map V.str o13))), (19, (sMark (a0.fMarks))), (20, (I (a0.fMarks.length : Int))), (21, (I (Go.IntKind.wrap .i64 (x9 + 1))))], [(2, ⟨false, 4, [(enc_T_api_Form a0)]⟩)], 60⟩ :=
  rE rfl
theorem screen_show_L1_ok (k : Nat) (a0 : T_api_Form) (a1 : (List Str))  (K0 : (List Str) → Int → Option (List Str)) (Kst : X × St → Option (V × List V)) (hK0 : ∀ (y0 : (List Str)) (y1 : Int), Kst (X.exit 0, ⟨[(1, (V.sl 0 1 (List.map V.str a1))), (2, (V.ptr 2 0 0)), (5, (V.sl 0 1 (List.map V.str y0))), (19, (sMark (a0.fMarks))), (20, (I (a0.fMarks.length : Int))), (21, (I y1)), (22, (V.bool false))], [(2, ⟨false, 4, [(enc_T_api_Form a0)]⟩)], 60⟩) = (K0 y0 y1).map screen_show_fin) (hret : ∀ s, Kst (X.ret, s) = endK prog 60 [(enc_T_api_Form a0), (V.sl 0 1 (List.map V.str a1))] [] [.tmp 4] (X.ret, s)) :
    ∀ (m : Nat) (x8 : (List Str)) (x9 : Int), (iter (exec prog (EV k) f35n k f35b0) m ⟨[(1, (V.sl 0 1 (List.map V.str a1))), (2, (V.ptr 2 0 0)), (5, (V.sl 0 1 (List.map V.str x8))), (19, (sMark (a0.fMarks))), (20, (I (a0.fMarks.length : Int))), (21, (I x9))], [(2, ⟨false, 4, [(enc_T_api_Form a0)]⟩)], 60⟩).bind Kst = (screen_show_L1 k a0 K0 m x8 x9).map screen_show_fin := by
  intro m
  induction m with
  | zero => intros; rfl
  | succ m ih =>
    intro x8 x9
    unfold screen_show_L1
    refine Eq.trans k_round ?_
    refine Eq.trans (k_region0 rfl (f35r3 k a0 a1 x8 x9)) ?_
    refine Eq.trans (k_cond (t := (decide (x9 < (a0.fMarks.length : Int)))) rfl rfl) ?_
    refine bifE2 (fun hc => ?_) fun hc => ?_
    · rw [hc]
      refine Eq.trans k_skip ?_
      refine Eq.trans (k_block rfl) ?_
      refine Eq.trans (k_region rfl (f35r4 k a0 a1 x8 x9)) ?_
      refine bindE (fun o11 => ?_)
      refine Eq.trans (k_lregion rfl (f35r5 k a0 a1 x8 x9 o11)) ?_
      refine bindE (fun o13 => ?_)
      refine Eq.trans blk_normal ?_
      refine Eq.trans (k_lregion0 rfl (f35r6 k a0 a1 x9 o13)) ?_
      refine Eq.trans loop_normal ?_
      exact ih o13 (Go.IntKind.wrap .i64 (x9 + 1))
    · rw [hc]
      refine Eq.trans k_exit ?_
      refine Eq.trans loop_exit ?_
      exact hK0 x8 x9
theorem f35r7 (k : Nat) (a0 : T_api_Form) (a1 : (List Str)) (y14 : (List Str)) (y15 : Int) : RE k f35a7 f35o7 false ⟨[(1, (V.sl 0 1 (List.map V.str a1))), (2, (V.ptr 2 0 0)), (5, (V.sl 0 1 (List.map V.str y14))), (19, (sMark (a0.fMarks))), (20, (I (a0.fMarks.length : Int))), (21, (I y15)), (22, (V.bool false))], [(2, ⟨false, 4, [(enc_T_api_Form a0)]⟩)], 60⟩ = some ⟨[(1, (V.sl 0 1 (List.map V.str a1))), (5, (V.sl 0 1 (List.map V.str y14))), (35, (sSlot (a0.fFields))), (36, (I (a0.fFields.length : Int))), (37, (I 0))], [], 60⟩ := by
  refine rg ?_
  refine ra 2 2 ⟨[(1, (V.sl 0 1 (List.map V.str a1))), (2, (V.ptr 2 0 0)), (5, (V.sl 0 1 (List.map V.str y14))), (19, (sMark (a0.fMarks))), (20, (I (a0.fMarks.length : Int))), (21, (I y15)), (22, (V.bool false)), (34, (V.ptr 2 0 3)), (35, (sSlot (a0.fFields)))], [(2, ⟨false, 4, [(enc_T_api_Form a0)]⟩)], 60⟩ rfl rfl rfl ?_
  refine Eq.trans (reg_pure (x := some ()) (w := fun _ => (I (a0.fFields.length : Int))) rfl rfl rfl rfl (p_len (e := enc_T_api_Slot) rfl rfl rfl rfl rfl rfl Go.Proofs.Try.underlying23)) ?_
  refine Eq.trans some_bind ?_
  exact bind_end rfl
theorem f35r8 (k : Nat) (a0 : T_api_Form) (a1 : (List Str)) (x26 : (List Str)) (x27 : Int) : RE k f35a8 f35o8 false ⟨[(1, (V.sl 0 1 (List.map V.str a1))), (5, (V.sl 0 1 (List.map V.str x26))), (35, (sSlot (a0.fFields))), (36, (I (a0.fFields.length : Int))), (37, (I x27))], [], 60⟩ = some ⟨[(1, (V.sl 0 1 (List.map V.str a1))), (5, (V.sl 0 1 (List.map V.str x26))), (35, (sSlot (a0.fFields))), (36, (I (a0.fFields.length : Int))), (37, (I x27)), (38, (V.bool (decide (x27 < (a0.fFields.length : Int)))))], [], 60⟩ :=
  rE rfl
theorem f35r9 (k : Nat) (a0 : T_api_Form) (a1 : (List Str)) (x26 : (List Str)) (x27 : Int) : RE k f35a9 f35o9 false ⟨[(1, (V.sl 0 1 (List.map V.str a1))), (5, (V.sl 0 1 (List.map V.str x26))), (35, (sSlot (a0.fFields))), (36, (I (a0.fFields.length : Int))), (37, (I x27)), (38, (V.bool true))], [], 60⟩ = ((idx a0.fFields x27)).map (fun (o : T_api_Slot) => (⟨[(1, (V.sl 0 1 (List.map V.str a1))), (5, (V.sl 0 1 (List.map V.str x26))), (9, (V.ptr 9 0 0)), (35, (sSlot (a0.fFields))), (36, (I (a0.fFields.length : Int))), (37, (I x27))], [(9, ⟨false, 7, [(enc_T_api_Slot o)]⟩)], 60⟩ : St)) := by
  refine rg ?_
  refine Eq.trans (reg_pure (x := (idx a0.fFields x27)) (w := fun v28 => (V.pro (enc_T_api_Slot v28))) rfl rfl rfl rfl (p_index (e := enc_T_api_Slot) rfl rfl rfl Go.Proofs.Try.underlying23 rfl (by decide))) ?_
  refine bind_self (fun v28 => ?_)
  exact bind_end rfl
theorem f35r10 (k : Nat) (a0 : T_api_Form) (a1 : (List Str)) (x26 : (List Str)) (x27 : Int) (o29 : T_api_Slot) : RE k f35a10 f35o10 false ⟨[(1, (V.sl 0 1 (List.map V.str a1))), (5, (V.sl 0 1 (List.map V.str x26))), (9, (V.ptr 9 0 0)), (35, (sSlot (a0.fFields))), (36, (I (a0.fFields.length : Int))), (37, (I x27))], [(9, ⟨false, 7, [(enc_T_api_Slot o29)]⟩)], 60⟩ = some ⟨[(1, (V.sl 0 1 (List.map V.str a1))), (5, (V.sl 0 1 (List.map V.str x26))), (9, (V.ptr 9 0 0)), (10, (V.str ([] : Str))), (35, (sSlot (a0.fFields))), (36, (I (a0.fFields.length : Int))), (37, (I x27))], [(9, ⟨false, 7, [(enc_T_api_Slot o29)]⟩)], 60⟩ :=
  rE rfl
theorem f35r11 (k : Nat) (a0 : T_api_Form) (a1 : (List Str)) (x26 : (List Str)) (x27 : Int) (o29 : T_api_Slot) : RE k f35a11 f35o11 false ⟨[(1, (V.sl 0 1 (List.map V.str a1))), (5, (V.sl 0 1 (List.map V.str x26))), (9, (V.ptr 9 0 0)), (10, (V.str ([] : Str))), (35, (sSlot (a0.fFields))), (36, (I (a0.fFields.length : Int))), (37, (I x27))], [(9, ⟨false, 7, [(enc_T_api_Slot o29)]⟩)], 60⟩ = some ⟨[(1, (V.sl 0 1 (List.map V.str a1))), (5, (V.sl 0 1 (List.map V.str x26))), (9, (V.ptr 9 0 0)), (10, (V.str ([] : Str))), (35, (sSlot (a0.fFields))), (36, (I (a0.fFields.length : Int))), (37, (I x27)), (43, (V.bool (decide (o29.fOut ≥ 0))))], [(9, ⟨false, 7, [(enc_T_api_Slot o29)]⟩)], 60⟩ :=
  rE rfl
theorem f35r12 (k : Nat) (a0 : T_api_Form) (a1 : (List Str)) (x26 : (List Str)) (x27 : Int) (o29 : T_api_Slot) : RE k f35a12 f35o12 false ⟨[(1, (V.sl 0 1 (List.map V.str a1))), (5, (V.sl 0 1 (List.map V.str x26))), (9, (V.ptr 9 0 0)), (10, (V.str ([] : Str))), (35, (sSlot (a0.fFields))), (36, (I (a0.fFields.length : Int))), (37, (I x27)), (43, (V.bool true))], [(9, ⟨false, 7, [(enc_T_api_Slot o29)]⟩)], 60⟩ = ((idx a1 o29.fOut)).map (fun (o : Str) => (⟨[(1, (V.sl 0 1 (List.map V.str a1))), (5, (V.sl 0 1 (List.map V.str x26))), (9, (V.ptr 9 0 0)), (10, (V.str o)), (35, (sSlot (a0.fFields))), (36, (I (a0.fFields.length : Int))), (37, (I x27))], [(9, ⟨false, 7, [(enc_T_api_Slot o29)]⟩)], 60⟩ : St)) := by
  refine rg ?_
  refine ra 3 3 ⟨[(1, (V.sl 0 1 (List.map V.str a1))), (5, (V.sl 0 1 (List.map V.str x26))), (9, (V.ptr 9 0 0)), (10, (V.str ([] : Str))), (35, (sSlot (a0.fFields))), (36, (I (a0.fFields.length : Int))), (37, (I x27)), (43, (V.bool true)), (44, (V.sl 0 1 (List.map V.str a1))), (45, (V.ptr 9 0 5)), (46, (I o29.fOut))], [(9, ⟨false, 7, [(enc_T_api_Slot o29)]⟩)], 60⟩ rfl rfl rfl ?_
  refine Eq.trans (reg_pure (x := (idx a1 o29.fOut)) (w := fun v30 => (V.pro (V.str v30))) rfl rfl rfl rfl (p_index (e := V.str) rfl rfl rfl Go.Proofs.Try.underlying26 rfl (by decide))) ?_
  refine bind_self (fun v30 => ?_)
  exact bind_end rfl
theorem f35r13 (k : Nat) (a0 : T_api_Form) (a1 : (List Str)) (x26 : (List Str)) (x27 : Int) (o29 : T_api_Slot) (o31 : Str) : RE k f35a13 f35o13 true ⟨[(1, (V.sl 0 1 (List.map V.str a1))), (5, (V.sl 0 1 (List.map V.str x26))), (9, (V.ptr 9 0 0)), (10, (V.str o31)), (35, (sSlot (a0.fFields))), (36, (I (a0.fFields.length : Int))), (37, (I x27))], [(9, ⟨false, 7, [(enc_T_api_Slot o29)]⟩)], 60⟩ = (((screen_filled k o29 o31).bind fun v32 => (screen_laid k x26 o29.fRow o29.fColumn v32))).map (fun (o : (List Str)) => (⟨[(1, (V.sl 0 1 (List.map V.str a1))), (5, (V.sl 0 1 (List.map V.str o))), (35, (sSlot (a0.fFields))), (36, (I (a0.fFields.length : Int))), (37, (I x27))], [], 60⟩ : St)) := by
  refine Eq.trans (regionE_regp (p := 9) (dk := true) (t := [(1, (V.sl 0 1 (List.map V.str a1))), (5, (V.sl 0 1 (List.map V.str x26))), (9, (V.ptr 9 0 0)), (10, (V.str o31)), (35, (sSlot (a0.fFields))), (36, (I (a0.fFields.length : Int))), (37, (I x27))]) (σ := [(9, ⟨false, 7, [(enc_T_api_Slot o29)]⟩)]) (n := 60) rfl (by decide) (by decide) rfl) ?_
  refine Eq.trans (regp_adv (m := 7) (j := 7) (t' := [(1, (V.sl 0 1 (List.map V.str a1))), (5, (V.sl 0 1 (List.map V.str x26))), (9, (V.ptr 9 0 0)), (10, (V.str o31)), (35, (sSlot (a0.fFields))), (36, (I (a0.fFields.length : Int))), (37, (I x27)), (49, (V.sl 0 1 (List.map V.str x26))), (50, (V.ptr 9 0 1)), (51, (I o29.fRow)), (52, (V.ptr 9 0 2)), (53, (I o29.fColumn)), (54, (enc_T_api_Slot o29)), (55, (V.str o31))]) rfl rfl rfl) ?_
  refine Eq.trans (regp_pure (x := (screen_filled k o29 o31)) (w := fun v32 => (V.str v32)) rfl rfl rfl rfl rfl (p_call rfl rfl rfl rfl rfl (screen_filled_ok k o29 o31) (.inl rfl))) ?_
  refine bindE (fun v32 => ?_)
  refine Eq.trans (putp_adv (m := 0) (j := 8) (t' := [(1, (V.sl 0 1 (List.map V.str a1))), (5, (V.sl 0 1 (List.map V.str x26))), (9, (V.ptr 9 0 0)), (10, (V.str o31)), (35, (sSlot (a0.fFields))), (36, (I (a0.fFields.length : Int))), (37, (I x27)), (49, (V.sl 0 1 (List.map V.str x26))), (50, (V.ptr 9 0 1)), (51, (I o29.fRow)), (52, (V.ptr 9 0 2)), (53, (I o29.fColumn)), (54, (enc_T_api_Slot o29)), (55, (V.str o31)), (56, (V.str v32))]) rfl rfl rfl) ?_
  refine Eq.trans (regp_pure (x := (screen_laid k x26 o29.fRow o29.fColumn v32)) (w := fun v33 => (V.sl 0 1 (List.map V.str v33))) rfl rfl rfl rfl rfl (p_call rfl rfl rfl rfl rfl (screen_laid_ok k x26 o29.fRow o29.fColumn v32) (.inl rfl))) ?_
  refine bind_self (fun v33 => ?_)
  exact regp_end rfl
theorem f35r14 (k : Nat) (a0 : T_api_Form) (a1 : (List Str)) (x27 : Int) (o34 : (List Str)) : RE k f35a14 f35o14 false ⟨[(1, (V.sl 0 1 (List.map V.str a1))), (5, (V.sl 0 1 (List.map V.str o34))), (35, (sSlot (a0.fFields))), (36, (I (a0.fFields.length : Int))), (37, (I x27))], [], 60⟩ = some ⟨[(1, (V.sl 0 1 (List.map V.str a1))), (5, (V.sl 0 1 (List.map V.str o34))), (35, (sSlot (a0.fFields))), (36, (I (a0.fFields.length : Int))), (37, (I (Go.IntKind.wrap .i64 (x27 + 1))))], [], 60⟩ :=
  rE rfl
theorem screen_show_r13' (k : Nat) (a0 : T_api_Form) (a1 : (List Str)) (x26 : (List Str)) (x27 : Int) (o29 : T_api_Slot) : RE k f35a13 f35o13 true ⟨[(1, (V.sl 0 1 (List.map V.str a1))), (5, (V.sl 0 1 (List.map V.str x26))), (9, (V.ptr 9 0 0)), (10, (V.str ([] : Str))), (35, (sSlot (a0.fFields))), (36, (I (a0.fFields.length : Int))), (37, (I x27)), (43, (V.bool false))], [(9, ⟨false, 7, [(enc_T_api_Slot o29)]⟩)], 60⟩ = (((screen_filled k o29 ([] : Str)).bind fun v35 => (screen_laid k x26 o29.fRow o29.fColumn v35))).map (fun (o : (List Str)) => (⟨[(1, (V.sl 0 1 (List.map V.str a1))), (5, (V.sl 0 1 (List.map V.str o))), (35, (sSlot (a0.fFields))), (36, (I (a0.fFields.length : Int))), (37, (I x27))], [], 60⟩ : St)) := by
  refine Eq.trans (regionE_regp (p := 9) (dk := true) (t := [(1, (V.sl 0 1 (List.map V.str a1))), (5, (V.sl 0 1 (List.map V.str x26))), (9, (V.ptr 9 0 0)), (10, (V.str ([] : Str))), (35, (sSlot (a0.fFields))), (36, (I (a0.fFields.length : Int))), (37, (I x27)), (43, (V.bool false))]) (σ := [(9, ⟨false, 7, [(enc_T_api_Slot o29)]⟩)]) (n := 60) rfl (by decide) (by decide) rfl) ?_
  refine Eq.trans (regp_adv (m := 7) (j := 7) (t' := [(1, (V.sl 0 1 (List.map V.str a1))), (5, (V.sl 0 1 (List.map V.str x26))), (9, (V.ptr 9 0 0)), (10, (V.str ([] : Str))), (35, (sSlot (a0.fFields))), (36, (I (a0.fFields.length : Int))), (37, (I x27)), (43, (V.bool false)), (49, (V.sl 0 1 (List.map V.str x26))), (50, (V.ptr 9 0 1)), (51, (I o29.fRow)), (52, (V.ptr 9 0 2)), (53, (I o29.fColumn)), (54, (enc_T_api_Slot o29)), (55, (V.str ([] : Str)))]) rfl rfl rfl) ?_
  refine Eq.trans (regp_pure (x := (screen_filled k o29 ([] : Str))) (w := fun v35 => (V.str v35)) rfl rfl rfl rfl rfl (p_call rfl rfl rfl rfl rfl (screen_filled_ok k o29 ([] : Str)) (.inl rfl))) ?_
  refine bindE (fun v35 => ?_)
  refine Eq.trans (putp_adv (m := 0) (j := 8) (t' := [(1, (V.sl 0 1 (List.map V.str a1))), (5, (V.sl 0 1 (List.map V.str x26))), (9, (V.ptr 9 0 0)), (10, (V.str ([] : Str))), (35, (sSlot (a0.fFields))), (36, (I (a0.fFields.length : Int))), (37, (I x27)), (43, (V.bool false)), (49, (V.sl 0 1 (List.map V.str x26))), (50, (V.ptr 9 0 1)), (51, (I o29.fRow)), (52, (V.ptr 9 0 2)), (53, (I o29.fColumn)), (54, (enc_T_api_Slot o29)), (55, (V.str ([] : Str))), (56, (V.str v35))]) rfl rfl rfl) ?_
  refine Eq.trans (regp_pure (x := (screen_laid k x26 o29.fRow o29.fColumn v35)) (w := fun v36 => (V.sl 0 1 (List.map V.str v36))) rfl rfl rfl rfl rfl (p_call rfl rfl rfl rfl rfl (screen_laid_ok k x26 o29.fRow o29.fColumn v35) (.inl rfl))) ?_
  refine bind_self (fun v36 => ?_)
  exact regp_end rfl
theorem screen_show_r14' (k : Nat) (a0 : T_api_Form) (a1 : (List Str)) (x27 : Int) (o37 : (List Str)) : RE k f35a14 f35o14 false ⟨[(1, (V.sl 0 1 (List.map V.str a1))), (5, (V.sl 0 1 (List.map V.str o37))), (35, (sSlot (a0.fFields))), (36, (I (a0.fFields.length : Int))), (37, (I x27))], [], 60⟩ = some ⟨[(1, (V.sl 0 1 (List.map V.str a1))), (5, (V.sl 0 1 (List.map V.str o37))), (35, (sSlot (a0.fFields))), (36, (I (a0.fFields.length : Int))), (37, (I (Go.IntKind.wrap .i64 (x27 + 1))))], [], 60⟩ :=
  rE rfl
theorem screen_show_L2_ok (k : Nat) (a0 : T_api_Form) (a1 : (List Str))  (K0 : (List Str) → Int → Option (List Str)) (Kst : X × St → Option (V × List V)) (hK0 : ∀ (y0 : (List Str)) (y1 : Int), Kst (X.exit 2, ⟨[(1, (V.sl 0 1 (List.map V.str a1))), (5, (V.sl 0 1 (List.map V.str y0))), (35, (sSlot (a0.fFields))), (36, (I (a0.fFields.length : Int))), (37, (I y1)), (38, (V.bool false))], [], 60⟩) = (K0 y0 y1).map screen_show_fin) (hret : ∀ s, Kst (X.ret, s) = endK prog 60 [(enc_T_api_Form a0), (V.sl 0 1 (List.map V.str a1))] [] [.tmp 4] (X.ret, s)) :
    ∀ (m : Nat) (x26 : (List Str)) (x27 : Int), (iter (exec prog (EV k) f35n k f35b1) m ⟨[(1, (V.sl 0 1 (List.map V.str a1))), (5, (V.sl 0 1 (List.map V.str x26))), (35, (sSlot (a0.fFields))), (36, (I (a0.fFields.length : Int))), (37, (I x27))], [], 60⟩).bind Kst = (screen_show_L2 k a0 a1 K0 m x26 x27).map screen_show_fin := by
  intro m
  induction m with
  | zero => intros; rfl
  | succ m ih =>
    intro x26 x27
    unfold screen_show_L2
    refine Eq.trans k_round ?_
    refine Eq.trans (k_region0 rfl (f35r8 k a0 a1 x26 x27)) ?_
    refine Eq.trans (k_cond (t := (decide (x27 < (a0.fFields.length : Int)))) rfl rfl) ?_
    refine bifE2 (fun hc => ?_) fun hc => ?_
    · rw [hc]
      refine Eq.trans k_skip ?_
      refine Eq.trans (k_block rfl) ?_
      refine Eq.trans (k_region rfl (f35r9 k a0 a1 x26 x27)) ?_
      refine bindE (fun o29 => ?_)
      refine Eq.trans (k_region0 rfl (f35r10 k a0 a1 x26 x27 o29)) ?_
      refine Eq.trans k_assoc ?_
      refine Eq.trans (k_region0 rfl (f35r11 k a0 a1 x26 x27 o29)) ?_
      refine Eq.trans (k_cond (t := (decide (o29.fOut ≥ 0))) rfl rfl) ?_
      refine bifE2 (fun hc => ?_) fun hc => ?_
      · rw [hc]
        refine Eq.trans (k_region rfl (f35r12 k a0 a1 x26 x27 o29)) ?_
        refine bindE (fun o31 => ?_)
        refine Eq.trans (k_lregion rfl (f35r13 k a0 a1 x26 x27 o29 o31)) ?_
        refine bindE (fun o34 => ?_)
        refine Eq.trans blk_normal ?_
        refine Eq.trans (k_lregion0 rfl (f35r14 k a0 a1 x27 o34)) ?_
        refine Eq.trans loop_normal ?_
        exact ih o34 (Go.IntKind.wrap .i64 (x27 + 1))
      · rw [hc]
        refine Eq.trans k_skip ?_
        refine Eq.trans (k_lregion rfl (screen_show_r13' k a0 a1 x26 x27 o29)) ?_
        refine bindE (fun o37 => ?_)
        refine Eq.trans blk_normal ?_
        refine Eq.trans (k_lregion0 rfl (screen_show_r14' k a0 a1 x27 o37)) ?_
        refine Eq.trans loop_normal ?_
        exact ih o37 (Go.IntKind.wrap .i64 (x27 + 1))
    · rw [hc]
      refine Eq.trans k_exit ?_
      refine Eq.trans loop_exit ?_
      exact hK0 x26 x27
theorem f35r15 (k : Nat) (a0 : T_api_Form) (a1 : (List Str)) (y38 : (List Str)) (y39 : Int) : RE k f35a15 f35o15 false ⟨[(1, (V.sl 0 1 (List.map V.str a1))), (5, (V.sl 0 1 (List.map V.str y38))), (35, (sSlot (a0.fFields))), (36, (I (a0.fFields.length : Int))), (37, (I y39)), (38, (V.bool false))], [], 60⟩ = some ⟨[(4, (V.sl 0 1 (List.map V.str y38)))], [], 60⟩ :=
  rE rfl
end
end Go.AE
