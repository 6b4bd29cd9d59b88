/- The program, function by function: the evaluator comes to the typed functions. Conditions: none. -/
import Derived.Test.YtgideolbpeidmaaA2
import Derived.KernelRfl
import Derived.Test.YtgideolbpeidmaaProg
import Derived.Test.YtgideolbpeidmaaB1
namespace Go.AE
open Go.Proofs.Try Go.Sh
set_option linter.unusedSimpArgs false
set_option linter.unusedVariables false
set_option maxRecDepth 100000
set_option maxHeartbeats 4000000
noncomputable section
theorem eqg65 : prog.eqGuardType prog.depth 65 = false := by kernel_rfl
theorem sih65 : prog.stoodInHeld 65 = false := by kernel_rfl
theorem eqg69 : prog.eqGuardType prog.depth 69 = false := by kernel_rfl
theorem sih69 : prog.stoodInHeld 69 = false := by kernel_rfl
def enc_T_api_Field (a : T_api_Field) : V := .agg [(V.str a.fName), (V.int .i64 a.fAt), (V.int .i64 a.fBytes)]
def enc_T_api_Type (a : T_api_Type) : V := .agg [(V.str a.fName), (V.int .i64 a.fParent), (V.int .i64 a.fMin), (V.int .i64 a.fSize), (V.sl 0 3 (List.map enc_T_api_Field a.fFields)), (V.int .i64 a.fKey), (V.bool a.fUnique), (V.bool a.fLast)]
def enc_T_api_Search (a : T_api_Search) : V := .agg [(V.str a.fName), (V.int .i64 a.fType), (V.int .i64 a.fField), (V.str a.fSparse)]
def enc_T_api_Base (a : T_api_Base) : V := .agg [(V.str a.fName), (V.int .i64 a.fKind), (V.sl 0 8 (List.map enc_T_api_Type a.fTypes)), (V.sl 0 4 (List.map enc_T_api_Search a.fIndexes))]
noncomputable def f9o0 : Array Oper := cO (cL (cB Go.Proofs.Try.f9))
def f9a0 : RAnn := ⟨[0, 2], []⟩
noncomputable def f9o1 : Array Oper := cO (cL (cL (cR (cB Go.Proofs.Try.f9))))
def f9a1 : RAnn := ⟨[], []⟩
noncomputable def f9o2 : Array Oper := cO (cL (cL (cL (cL (cR (cL (cR (cB Go.Proofs.Try.f9))))))))
def f9a2 : RAnn := ⟨[4, 5, 6, 7], []⟩
noncomputable def f9o3 : Array Oper := cO (cR (cR (cL (cL (cR (cL (cR (cB Go.Proofs.Try.f9))))))))
def f9a3 : RAnn := ⟨[9, 10, 18], []⟩
noncomputable def f9o4 : Array Oper := cO (cL (cL (cL (cR (cL (cL (cR (cL (cR (cB Go.Proofs.Try.f9))))))))))
def f9a4 : RAnn := ⟨[8, 11, 12, 13, 14, 15, 16, 17], []⟩
noncomputable def f9o5 : Array Oper := cO (cL (cL (cR (cL (cL (cR (cL (cL (cR (cL (cR (cB Go.Proofs.Try.f9))))))))))))
def f9a5 : RAnn := ⟨[1, 3, 18], []⟩
noncomputable def f9o6 : Array Oper := cO (cL (cR (cR (cB Go.Proofs.Try.f9))))
def f9a6 : RAnn := ⟨[1, 3, 8, 19, 20, 21, 22, 23, 24, 25, 26, 27, 28], []⟩
def f9b0 : Code := (.seq (.seq (.region 2 f9o2 false) (.cond (.tmp 8) .skip (.exit 0))) (.seq (.block 1 (.seq (.region 4 f9o4 false) (.cond (.tmp 18) (.seq (.region 5 f9o5 false) .ret) .skip))) (.region 3 f9o3 false)))
def f9c : Code := (.seq (.region 0 f9o0 false) (.seq (.seq (.region 1 f9o1 false) (.block 0 (.loop f9b0))) (.seq (.region 6 f9o6 false) .ret)))
def f9n : List (Nat × RAnn) := [(0, f9a0), (1, f9a1), (2, f9a2), (3, f9a3), (4, f9a4), (5, f9a5), (6, f9a6)]
noncomputable def f37o0 : Array Oper := cO (cL (cB Go.Proofs.Try.f37))
def f37a0 : RAnn := ⟨[], []⟩
noncomputable def f37o1 : Array Oper := cO (cL (cR (cB Go.Proofs.Try.f37)))
def f37a1 : RAnn := ⟨[1, 2, 3, 4, 5, 6, 7, 8, 9, 10], []⟩
def f37c : Code := (.seq (.region 0 f37o0 false) (.seq (.region 1 f37o1 false) .ret))
def f37n : List (Nat × RAnn) := [(0, f37a0), (1, f37a1)]
noncomputable def f56o0 : Array Oper := cO (cL (cB Go.Proofs.Try.f56))
def f56a0 : RAnn := ⟨[2], []⟩
noncomputable def f56o1 : Array Oper := cO (cL (cL (cR (cB Go.Proofs.Try.f56))))
def f56a1 : RAnn := ⟨[5], []⟩
noncomputable def f56o2 : Array Oper := cO (cL (cL (cL (cR (cL (cR (cB Go.Proofs.Try.f56)))))))
def f56a2 : RAnn := ⟨[], []⟩
noncomputable def f56o3 : Array Oper := cO (cL (cL (cL (cR (cR (cL (cL (cR (cL (cR (cB Go.Proofs.Try.f56)))))))))))
def f56a3 : RAnn := ⟨[8, 9], []⟩
noncomputable def f56o4 : Array Oper := cO (cL (cR (cL (cL (cR (cR (cL (cL (cR (cL (cR (cB Go.Proofs.Try.f56))))))))))))
def f56a4 : RAnn := ⟨[10, 11, 12, 13, 14, 15, 16, 17, 18, 19], []⟩
noncomputable def f56o5 : Array Oper := cO (cL (cR (cR (cL (cL (cR (cR (cL (cL (cR (cL (cR (cB Go.Proofs.Try.f56)))))))))))))
def f56a5 : RAnn := ⟨[3, 4, 20, 21, 22, 23, 24, 25, 26, 27, 28, 29, 30, 31, 32, 33, 34, 35, 36], []⟩
noncomputable def f56o6 : Array Oper := cO (cL (cL (cR (cR (cR (cL (cL (cR (cR (cL (cL (cR (cL (cR (cB Go.Proofs.Try.f56)))))))))))))))
def f56a6 : RAnn := ⟨[0, 6, 7, 37], []⟩
noncomputable def f56o7 : Array Oper := cO (cR (cR (cR (cL (cL (cR (cL (cR (cB Go.Proofs.Try.f56)))))))))
def f56a7 : RAnn := ⟨[37, 38], []⟩
noncomputable def f56o8 : Array Oper := cO (cL (cR (cR (cB Go.Proofs.Try.f56))))
def f56a8 : RAnn := ⟨[0, 6, 7, 8, 39, 40, 41, 42, 43, 44, 45, 46], []⟩
def f56b0 : Code := (.seq (.region 2 f56o2 false) (.seq (.cond (.tmp 8) .skip (.exit 0)) (.seq (.block 1 (.seq (.region 3 f56o3 false) (.seq (.region 4 f56o4 false) (.seq (.region 5 f56o5 false) (.cond (.tmp 37) (.seq (.region 6 f56o6 false) .ret) .skip))))) (.region 7 f56o7 false))))
def f56c : Code := (.seq (.region 0 f56o0 false) (.seq (.seq (.region 1 f56o1 false) (.block 0 (.loop f56b0))) (.seq (.region 8 f56o8 false) .ret)))
def f56n : List (Nat × RAnn) := [(0, f56a0), (1, f56a1), (2, f56a2), (3, f56a3), (4, f56a4), (5, f56a5), (6, f56a6), (7, f56a7), (8, f56a8)]
noncomputable def f47o0 : Array Oper := cO (cL (cB Go.Proofs.Try.f47))
def f47a0 : RAnn := ⟨[4], []⟩
noncomputable def f47o1 : Array Oper := cO (cL (cL (cR (cB Go.Proofs.Try.f47))))
def f47a1 : RAnn := ⟨[6], []⟩
noncomputable def f47o2 : Array Oper := cO (cL (cL (cL (cR (cL (cR (cB Go.Proofs.Try.f47)))))))
def f47a2 : RAnn := ⟨[], []⟩
noncomputable def f47o3 : Array Oper := cO (cL (cL (cL (cR (cR (cL (cL (cR (cL (cR (cB Go.Proofs.Try.f47)))))))))))
def f47a3 : RAnn := ⟨[9, 10], []⟩
noncomputable def f47o4 : Array Oper := cO (cL (cR (cL (cL (cR (cR (cL (cL (cR (cL (cR (cB Go.Proofs.Try.f47))))))))))))
def f47a4 : RAnn := ⟨[11, 12, 13, 14, 15], []⟩
noncomputable def f47o5 : Array Oper := cO (cL (cL (cR (cR (cL (cL (cR (cR (cL (cL (cR (cL (cR (cB Go.Proofs.Try.f47))))))))))))))
def f47a5 : RAnn := ⟨[0, 1, 5, 7, 8, 16, 17], []⟩
noncomputable def f47o6 : Array Oper := cO (cR (cR (cR (cL (cL (cR (cL (cR (cB Go.Proofs.Try.f47)))))))))
def f47a6 : RAnn := ⟨[5, 16, 18], []⟩
noncomputable def f47o7 : Array Oper := cO (cL (cR (cR (cB Go.Proofs.Try.f47))))
def f47a7 : RAnn := ⟨[0, 1, 7, 8, 9], []⟩
def f47b0 : Code := (.seq (.region 2 f47o2 false) (.seq (.cond (.tmp 9) .skip (.exit 0)) (.seq (.block 1 (.seq (.region 3 f47o3 false) (.seq (.region 4 f47o4 false) (.cond (.tmp 16) (.seq (.region 5 f47o5 false) .ret) .skip)))) (.region 6 f47o6 false))))
def f47c : Code := (.seq (.region 0 f47o0 false) (.seq (.seq (.region 1 f47o1 false) (.block 0 (.loop f47b0))) (.seq (.region 7 f47o7 false) .ret)))
def f47n : List (Nat × RAnn) := [(0, f47a0), (1, f47a1), (2, f47a2), (3, f47a3), (4, f47a4), (5, f47a5), (6, f47a6), (7, f47a7)]
noncomputable def f76o0 : Array Oper := cO (cL (cB Go.Proofs.Try.f76))
def f76a0 : RAnn := ⟨[4], []⟩
noncomputable def f76o1 : Array Oper := cO (cL (cR (cB Go.Proofs.Try.f76)))
def f76a1 : RAnn := ⟨[0, 1, 5, 6, 7, 8], []⟩
def f76c : Code := (.seq (.region 0 f76o0 false) (.seq (.region 1 f76o1 false) .ret))
def f76n : List (Nat × RAnn) := [(0, f76a0), (1, f76a1)]
noncomputable def f77o0 : Array Oper := cO (cL (cB Go.Proofs.Try.f77))
def f77a0 : RAnn := ⟨[0, 3], []⟩
noncomputable def f77o1 : Array Oper := cO (cL (cR (cB Go.Proofs.Try.f77)))
def f77a1 : RAnn := ⟨[1, 2, 4, 5, 6, 7, 8], []⟩
def f77c : Code := (.seq (.region 0 f77o0 false) (.seq (.region 1 f77o1 false) .ret))
def f77n : List (Nat × RAnn) := [(0, f77a0), (1, f77a1)]
noncomputable def f74o0 : Array Oper := cO (cL (cB Go.Proofs.Try.f74))
def f74a0 : RAnn := ⟨[4], []⟩
noncomputable def f74o1 : Array Oper := cO (cL (cL (cR (cB Go.Proofs.Try.f74))))
def f74a1 : RAnn := ⟨[], []⟩
noncomputable def f74o2 : Array Oper := cO (cL (cL (cL (cR (cL (cR (cB Go.Proofs.Try.f74)))))))
def f74a2 : RAnn := ⟨[], []⟩
noncomputable def f74o3 : Array Oper := cO (cL (cL (cL (cR (cR (cL (cL (cR (cL (cR (cB Go.Proofs.Try.f74)))))))))))
def f74a3 : RAnn := ⟨[10, 11, 12, 13], []⟩
noncomputable def f74o4 : Array Oper := cO (cL (cL (cR (cL (cL (cR (cR (cL (cL (cR (cL (cR (cB Go.Proofs.Try.f74)))))))))))))
def f74a4 : RAnn := ⟨[14, 15, 16, 17, 18, 19, 20, 21, 22, 23, 24, 25, 26, 27, 28, 29, 30, 31, 32, 33, 34, 35, 36, 37, 38, 39, 40, 41], []⟩
noncomputable def f74o5 : Array Oper := cO (cL (cL (cR (cL (cR (cL (cL (cR (cR (cL (cL (cR (cL (cR (cB Go.Proofs.Try.f74)))))))))))))))
def f74a5 : RAnn := ⟨[0, 1, 5, 6, 7, 8, 9, 42], []⟩
noncomputable def f74o6 : Array Oper := cO (cL (cR (cR (cL (cL (cR (cR (cL (cL (cR (cL (cR (cB Go.Proofs.Try.f74)))))))))))))
def f74a6 : RAnn := ⟨[5, 6, 42, 43, 44, 45, 46], []⟩
noncomputable def f74o7 : Array Oper := cO (cL (cL (cR (cR (cR (cL (cL (cR (cR (cL (cL (cR (cL (cR (cB Go.Proofs.Try.f74)))))))))))))))
def f74a7 : RAnn := ⟨[0, 1, 7, 8, 9, 47], []⟩
noncomputable def f74o8 : Array Oper := cO (cR (cR (cR (cL (cL (cR (cL (cR (cB Go.Proofs.Try.f74)))))))))
def f74a8 : RAnn := ⟨[47, 48], []⟩
noncomputable def f74o9 : Array Oper := cO (cL (cR (cR (cB Go.Proofs.Try.f74))))
def f74a9 : RAnn := ⟨[0, 1, 7, 8, 9, 10, 49, 50, 51], []⟩
def f74b0 : Code := (.seq (.region 2 f74o2 false) (.seq (.cond (.tmp 10) .skip (.exit 0)) (.seq (.block 1 (.seq (.region 3 f74o3 false) (.seq (.seq (.region 4 f74o4 false) (.cond (.tmp 42) (.seq (.region 5 f74o5 false) .ret) .skip)) (.seq (.region 6 f74o6 false) (.cond (.tmp 47) (.seq (.region 7 f74o7 false) .ret) .skip))))) (.region 8 f74o8 false))))
def f74c : Code := (.seq (.region 0 f74o0 false) (.seq (.seq (.region 1 f74o1 false) (.block 0 (.loop f74b0))) (.seq (.region 9 f74o9 false) .ret)))
def f74n : List (Nat × RAnn) := [(0, f74a0), (1, f74a1), (2, f74a2), (3, f74a3), (4, f74a4), (5, f74a5), (6, f74a6), (7, f74a7), (8, f74a8), (9, f74a9)]
noncomputable def f68o0 : Array Oper := cO (cL (cB Go.Proofs.Try.f68))
def f68a0 : RAnn := ⟨[0, 2], []⟩
noncomputable def f68o1 : Array Oper := cO (cL (cL (cL (cR (cB Go.Proofs.Try.f68)))))
def f68a1 : RAnn := ⟨[4, 5, 6, 7, 8, 9, 10, 11, 12, 13, 14, 15, 16, 17, 18, 19, 20, 21, 22, 23, 24, 25, 26, 27, 28, 29, 30, 31, 32], []⟩
noncomputable def f68o2 : Array Oper := cO (cL (cL (cR (cL (cL (cR (cB Go.Proofs.Try.f68)))))))
def f68a2 : RAnn := ⟨[1, 3], []⟩
noncomputable def f68o3 : Array Oper := cO (cL (cR (cR (cL (cL (cR (cB Go.Proofs.Try.f68)))))))
def f68a3 : RAnn := ⟨[3, 34, 35, 36], []⟩
noncomputable def f68o4 : Array Oper := cO (cL (cL (cR (cR (cR (cL (cL (cR (cB Go.Proofs.Try.f68)))))))))
def f68a4 : RAnn := ⟨[1, 33, 37, 38, 39], []⟩
noncomputable def f68o5 : Array Oper := cO (cL (cR (cR (cR (cR (cL (cL (cR (cB Go.Proofs.Try.f68)))))))))
def f68a5 : RAnn := ⟨[33, 41, 42, 43, 44, 45, 46, 47, 48, 49, 50, 51], []⟩
noncomputable def f68o6 : Array Oper := cO (cL (cL (cR (cR (cR (cR (cR (cL (cL (cR (cB Go.Proofs.Try.f68)))))))))))
def f68a6 : RAnn := ⟨[1, 40], []⟩
noncomputable def f68o7 : Array Oper := cO (cL (cR (cR (cB Go.Proofs.Try.f68))))
def f68a7 : RAnn := ⟨[1, 40, 52, 53, 54, 55, 56, 57, 58, 59, 60, 61, 62, 63, 64, 65, 66, 67, 68, 69], []⟩
def f68c : Code := (.seq (.region 0 f68o0 false) (.seq (.block 0 (.seq (.region 1 f68o1 false) (.cond (.tmp 3) (.seq (.region 2 f68o2 false) .ret) (.seq (.region 3 f68o3 false) (.cond (.tmp 33) (.seq (.region 4 f68o4 false) .ret) (.seq (.region 5 f68o5 false) (.cond (.tmp 40) (.seq (.region 6 f68o6 false) .ret) .skip))))))) (.seq (.region 7 f68o7 true) .ret)))
def f68n : List (Nat × RAnn) := [(0, f68a0), (1, f68a1), (2, f68a2), (3, f68a3), (4, f68a4), (5, f68a5), (6, f68a6), (7, f68a7)]
noncomputable def f45o0 : Array Oper := cO (cL (cB Go.Proofs.Try.f45))
def f45a0 : RAnn := ⟨[4], []⟩
noncomputable def f45o1 : Array Oper := cO (cL (cL (cR (cB Go.Proofs.Try.f45))))
def f45a1 : RAnn := ⟨[6], []⟩
noncomputable def f45o2 : Array Oper := cO (cL (cL (cL (cR (cL (cR (cB Go.Proofs.Try.f45)))))))
def f45a2 : RAnn := ⟨[], []⟩
noncomputable def f45o3 : Array Oper := cO (cL (cL (cL (cR (cR (cL (cL (cR (cL (cR (cB Go.Proofs.Try.f45)))))))))))
def f45a3 : RAnn := ⟨[9, 10], []⟩
noncomputable def f45o4 : Array Oper := cO (cL (cR (cL (cL (cR (cR (cL (cL (cR (cL (cR (cB Go.Proofs.Try.f45))))))))))))
def f45a4 : RAnn := ⟨[11, 12, 13, 14, 15], []⟩
noncomputable def f45o5 : Array Oper := cO (cL (cL (cR (cR (cL (cL (cR (cR (cL (cL (cR (cL (cR (cB Go.Proofs.Try.f45))))))))))))))
def f45a5 : RAnn := ⟨[0, 1, 5, 7, 8, 16, 17], []⟩
noncomputable def f45o6 : Array Oper := cO (cR (cR (cR (cL (cL (cR (cL (cR (cB Go.Proofs.Try.f45)))))))))
def f45a6 : RAnn := ⟨[5, 16, 18], []⟩
noncomputable def f45o7 : Array Oper := cO (cL (cR (cR (cB Go.Proofs.Try.f45))))
def f45a7 : RAnn := ⟨[0, 1, 7, 8, 9], []⟩
def f45b0 : Code := (.seq (.region 2 f45o2 false) (.seq (.cond (.tmp 9) .skip (.exit 0)) (.seq (.block 1 (.seq (.region 3 f45o3 false) (.seq (.region 4 f45o4 false) (.cond (.tmp 16) (.seq (.region 5 f45o5 false) .ret) .skip)))) (.region 6 f45o6 false))))
def f45c : Code := (.seq (.region 0 f45o0 false) (.seq (.seq (.region 1 f45o1 false) (.block 0 (.loop f45b0))) (.seq (.region 7 f45o7 false) .ret)))
def f45n : List (Nat × RAnn) := [(0, f45a0), (1, f45a1), (2, f45a2), (3, f45a3), (4, f45a4), (5, f45a5), (6, f45a6), (7, f45a7)]
noncomputable def f69o0 : Array Oper := cO (cL (cB Go.Proofs.Try.f69))
def f69a0 : RAnn := ⟨[4], []⟩
noncomputable def f69o1 : Array Oper := cO (cL (cR (cB Go.Proofs.Try.f69)))
def f69a1 : RAnn := ⟨[0, 1, 5, 6, 7, 8], []⟩
def f69c : Code := (.seq (.region 0 f69o0 false) (.seq (.region 1 f69o1 false) .ret))
def f69n : List (Nat × RAnn) := [(0, f69a0), (1, f69a1)]
noncomputable def f70o0 : Array Oper := cO (cL (cB Go.Proofs.Try.f70))
def f70a0 : RAnn := ⟨[0, 3], []⟩
noncomputable def f70o1 : Array Oper := cO (cL (cR (cB Go.Proofs.Try.f70)))
def f70a1 : RAnn := ⟨[1, 2, 4, 5, 6, 7, 8], []⟩
def f70c : Code := (.seq (.region 0 f70o0 false) (.seq (.region 1 f70o1 false) .ret))
def f70n : List (Nat × RAnn) := [(0, f70a0), (1, f70a1)]
noncomputable def f53o0 : Array Oper := cO (cL (cB Go.Proofs.Try.f53))
def f53a0 : RAnn := ⟨[4], []⟩
noncomputable def f53o1 : Array Oper := cO (cL (cL (cR (cB Go.Proofs.Try.f53))))
def f53a1 : RAnn := ⟨[6], []⟩
noncomputable def f53o2 : Array Oper := cO (cL (cL (cL (cR (cL (cR (cB Go.Proofs.Try.f53)))))))
def f53a2 : RAnn := ⟨[], []⟩
noncomputable def f53o3 : Array Oper := cO (cL (cL (cL (cR (cR (cL (cL (cR (cL (cR (cB Go.Proofs.Try.f53)))))))))))
def f53a3 : RAnn := ⟨[9, 10], []⟩
noncomputable def f53o4 : Array Oper := cO (cL (cR (cL (cL (cR (cR (cL (cL (cR (cL (cR (cB Go.Proofs.Try.f53))))))))))))
def f53a4 : RAnn := ⟨[11, 12, 13, 14, 15], []⟩
noncomputable def f53o5 : Array Oper := cO (cL (cL (cR (cR (cL (cL (cR (cR (cL (cL (cR (cL (cR (cB Go.Proofs.Try.f53))))))))))))))
def f53a5 : RAnn := ⟨[0, 1, 5, 7, 8, 16, 17], []⟩
noncomputable def f53o6 : Array Oper := cO (cR (cR (cR (cL (cL (cR (cL (cR (cB Go.Proofs.Try.f53)))))))))
def f53a6 : RAnn := ⟨[5, 16, 18], []⟩
noncomputable def f53o7 : Array Oper := cO (cL (cR (cR (cB Go.Proofs.Try.f53))))
def f53a7 : RAnn := ⟨[0, 1, 7, 8, 9], []⟩
def f53b0 : Code := (.seq (.region 2 f53o2 false) (.seq (.cond (.tmp 9) .skip (.exit 0)) (.seq (.block 1 (.seq (.region 3 f53o3 false) (.seq (.region 4 f53o4 false) (.cond (.tmp 16) (.seq (.region 5 f53o5 false) .ret) .skip)))) (.region 6 f53o6 false))))
def f53c : Code := (.seq (.region 0 f53o0 false) (.seq (.seq (.region 1 f53o1 false) (.block 0 (.loop f53b0))) (.seq (.region 7 f53o7 false) .ret)))
def f53n : List (Nat × RAnn) := [(0, f53a0), (1, f53a1), (2, f53a2), (3, f53a3), (4, f53a4), (5, f53a5), (6, f53a6), (7, f53a7)]
noncomputable def f57o0 : Array Oper := cO (cL (cB Go.Proofs.Try.f57))
def f57a0 : RAnn := ⟨[2], []⟩
noncomputable def f57o1 : Array Oper := cO (cL (cL (cR (cB Go.Proofs.Try.f57))))
def f57a1 : RAnn := ⟨[7, 8, 9, 10, 11, 12, 13], []⟩
noncomputable def f57o2 : Array Oper := cO (cL (cL (cR (cL (cR (cB Go.Proofs.Try.f57))))))
def f57a2 : RAnn := ⟨[0, 14], []⟩
noncomputable def f57o3 : Array Oper := cO (cL (cR (cR (cB Go.Proofs.Try.f57))))
def f57a3 : RAnn := ⟨[14], [(0, { site := true })]⟩
noncomputable def f57o4 : Array Oper := cO (cL (cL (cR (cR (cR (cB Go.Proofs.Try.f57))))))
def f57a4 : RAnn := ⟨[], []⟩
noncomputable def f57o5 : Array Oper := cO (cL (cL (cL (cR (cL (cR (cR (cR (cB Go.Proofs.Try.f57)))))))))
def f57a5 : RAnn := ⟨[], []⟩
noncomputable def f57o6 : Array Oper := cO (cL (cL (cL (cR (cR (cL (cL (cR (cL (cR (cR (cR (cB Go.Proofs.Try.f57)))))))))))))
def f57a6 : RAnn := ⟨[18, 19, 20, 21], []⟩
noncomputable def f57o7 : Array Oper := cO (cL (cL (cR (cL (cL (cR (cR (cL (cL (cR (cL (cR (cR (cR (cB Go.Proofs.Try.f57)))))))))))))))
def f57a7 : RAnn := ⟨[22, 23, 24, 25, 26, 27, 28, 29, 30], []⟩
noncomputable def f57o8 : Array Oper := cO (cL (cL (cR (cL (cR (cL (cL (cR (cR (cL (cL (cR (cL (cR (cR (cR (cB Go.Proofs.Try.f57)))))))))))))))))
def f57a8 : RAnn := ⟨[0, 3, 4, 5, 15, 16, 17, 31], []⟩
noncomputable def f57o9 : Array Oper := cO (cL (cR (cR (cL (cL (cR (cR (cL (cL (cR (cL (cR (cR (cR (cB Go.Proofs.Try.f57)))))))))))))))
def f57a9 : RAnn := ⟨[31, 32, 33, 34, 35], []⟩
noncomputable def f57o10 : Array Oper := cO (cL (cL (cR (cR (cR (cL (cL (cR (cR (cL (cL (cR (cL (cR (cR (cR (cB Go.Proofs.Try.f57)))))))))))))))))
def f57a10 : RAnn := ⟨[5, 36, 37, 38, 39, 40, 41, 42, 43, 44, 45, 46, 47, 48, 49, 50, 51, 52, 53, 54, 55, 56, 57, 58, 59, 60, 61, 62, 63, 64, 65, 66, 67, 68, 69], []⟩
noncomputable def f57o11 : Array Oper := cO (cL (cL (cR (cL (cR (cR (cR (cL (cL (cR (cR (cL (cL (cR (cL (cR (cR (cR (cB Go.Proofs.Try.f57)))))))))))))))))))
def f57a11 : RAnn := ⟨[0, 3, 4, 6, 15, 16, 17, 70], []⟩
noncomputable def f57o12 : Array Oper := cO (cL (cR (cR (cR (cR (cL (cL (cR (cR (cL (cL (cR (cL (cR (cR (cR (cB Go.Proofs.Try.f57)))))))))))))))))
def f57a12 : RAnn := ⟨[4, 6, 70, 71, 72, 73, 74, 75, 76, 77], []⟩
noncomputable def f57o13 : Array Oper := cO (cL (cR (cR (cR (cR (cR (cL (cL (cR (cR (cL (cL (cR (cL (cR (cR (cR (cB Go.Proofs.Try.f57))))))))))))))))))
def f57a13 : RAnn := ⟨[78, 79], []⟩
noncomputable def f57o14 : Array Oper := cO (cL (cL (cR (cR (cR (cR (cR (cR (cL (cL (cR (cR (cL (cL (cR (cL (cR (cR (cR (cB Go.Proofs.Try.f57))))))))))))))))))))
def f57a14 : RAnn := ⟨[0, 3, 15, 16, 17, 80], []⟩
noncomputable def f57o15 : Array Oper := cO (cR (cR (cR (cL (cL (cR (cL (cR (cR (cR (cB Go.Proofs.Try.f57)))))))))))
def f57a15 : RAnn := ⟨[80, 81], []⟩
noncomputable def f57o16 : Array Oper := cO (cL (cR (cR (cR (cR (cB Go.Proofs.Try.f57))))))
def f57a16 : RAnn := ⟨[0, 3, 15, 16, 17, 18], []⟩
def f57b0 : Code := (.seq (.region 5 f57o5 false) (.seq (.cond (.tmp 18) .skip (.exit 0)) (.seq (.block 1 (.seq (.region 6 f57o6 false) (.seq (.seq (.region 7 f57o7 false) (.cond (.tmp 31) (.seq (.region 8 f57o8 false) .ret) .skip)) (.seq (.region 9 f57o9 false) (.seq (.seq (.region 10 f57o10 false) (.cond (.tmp 70) (.seq (.region 11 f57o11 false) .ret) .skip)) (.seq (.region 12 f57o12 false) (.seq (.region 13 f57o13 false) (.cond (.tmp 80) (.seq (.region 14 f57o14 false) .ret) .skip)))))))) (.region 15 f57o15 false))))
def f57c : Code := (.seq (.region 0 f57o0 false) (.seq (.seq (.region 1 f57o1 false) (.cond (.tmp 14) (.seq (.region 2 f57o2 false) .ret) .skip)) (.seq (.region 3 f57o3 false) (.seq (.seq (.region 4 f57o4 false) (.block 0 (.loop f57b0))) (.seq (.region 16 f57o16 false) .ret)))))
def f57n : List (Nat × RAnn) := [(0, f57a0), (1, f57a1), (2, f57a2), (3, f57a3), (4, f57a4), (5, f57a5), (6, f57a6), (7, f57a7), (8, f57a8), (9, f57a9), (10, f57a10), (11, f57a11), (12, f57a12), (13, f57a13), (14, f57a14), (15, f57a15), (16, f57a16)]
noncomputable def f75o0 : Array Oper := cO (cL (cB Go.Proofs.Try.f75))
def f75a0 : RAnn := ⟨[4], []⟩
noncomputable def f75o1 : Array Oper := cO (cL (cL (cR (cB Go.Proofs.Try.f75))))
def f75a1 : RAnn := ⟨[6], []⟩
noncomputable def f75o2 : Array Oper := cO (cL (cL (cL (cR (cL (cR (cB Go.Proofs.Try.f75)))))))
def f75a2 : RAnn := ⟨[], []⟩
noncomputable def f75o3 : Array Oper := cO (cL (cL (cL (cR (cR (cL (cL (cR (cL (cR (cB Go.Proofs.Try.f75)))))))))))
def f75a3 : RAnn := ⟨[9, 10], []⟩
noncomputable def f75o4 : Array Oper := cO (cL (cR (cL (cL (cR (cR (cL (cL (cR (cL (cR (cB Go.Proofs.Try.f75))))))))))))
def f75a4 : RAnn := ⟨[11, 12, 13, 14, 15], []⟩
noncomputable def f75o5 : Array Oper := cO (cL (cL (cR (cR (cL (cL (cR (cR (cL (cL (cR (cL (cR (cB Go.Proofs.Try.f75))))))))))))))
def f75a5 : RAnn := ⟨[0, 1, 5, 7, 8, 16, 17], []⟩
noncomputable def f75o6 : Array Oper := cO (cR (cR (cR (cL (cL (cR (cL (cR (cB Go.Proofs.Try.f75)))))))))
def f75a6 : RAnn := ⟨[5, 16, 18], []⟩
noncomputable def f75o7 : Array Oper := cO (cL (cR (cR (cB Go.Proofs.Try.f75))))
def f75a7 : RAnn := ⟨[0, 1, 7, 8, 9], []⟩
def f75b0 : Code := (.seq (.region 2 f75o2 false) (.seq (.cond (.tmp 9) .skip (.exit 0)) (.seq (.block 1 (.seq (.region 3 f75o3 false) (.seq (.region 4 f75o4 false) (.cond (.tmp 16) (.seq (.region 5 f75o5 false) .ret) .skip)))) (.region 6 f75o6 false))))
def f75c : Code := (.seq (.region 0 f75o0 false) (.seq (.seq (.region 1 f75o1 false) (.block 0 (.loop f75b0))) (.seq (.region 7 f75o7 false) .ret)))
def f75n : List (Nat × RAnn) := [(0, f75a0), (1, f75a1), (2, f75a2), (3, f75a3), (4, f75a4), (5, f75a5), (6, f75a6), (7, f75a7)]
noncomputable def f71o0 : Array Oper := cO (cL (cB Go.Proofs.Try.f71))
def f71a0 : RAnn := ⟨[4], []⟩
noncomputable def f71o1 : Array Oper := cO (cL (cR (cB Go.Proofs.Try.f71)))
def f71a1 : RAnn := ⟨[0, 1, 5, 6, 7, 8], []⟩
def f71c : Code := (.seq (.region 0 f71o0 false) (.seq (.region 1 f71o1 false) .ret))
def f71n : List (Nat × RAnn) := [(0, f71a0), (1, f71a1)]
noncomputable def f72o0 : Array Oper := cO (cL (cB Go.Proofs.Try.f72))
def f72a0 : RAnn := ⟨[0, 3], []⟩
noncomputable def f72o1 : Array Oper := cO (cL (cR (cB Go.Proofs.Try.f72)))
def f72a1 : RAnn := ⟨[1, 2, 4, 5, 6, 7, 8], []⟩
def f72c : Code := (.seq (.region 0 f72o0 false) (.seq (.region 1 f72o1 false) .ret))
def f72n : List (Nat × RAnn) := [(0, f72a0), (1, f72a1)]
noncomputable def f58o0 : Array Oper := cO (cL (cB Go.Proofs.Try.f58))
def f58a0 : RAnn := ⟨[4], []⟩
noncomputable def f58o1 : Array Oper := cO (cL (cL (cR (cB Go.Proofs.Try.f58))))
def f58a1 : RAnn := ⟨[], []⟩
noncomputable def f58o2 : Array Oper := cO (cL (cL (cL (cR (cL (cR (cB Go.Proofs.Try.f58)))))))
def f58a2 : RAnn := ⟨[], []⟩
noncomputable def f58o3 : Array Oper := cO (cL (cL (cL (cR (cR (cL (cL (cR (cL (cR (cB Go.Proofs.Try.f58)))))))))))
def f58a3 : RAnn := ⟨[11, 12, 13, 14], []⟩
noncomputable def f58o4 : Array Oper := cO (cL (cL (cR (cL (cL (cR (cR (cL (cL (cR (cL (cR (cB Go.Proofs.Try.f58)))))))))))))
def f58a4 : RAnn := ⟨[5, 15, 16, 17, 18, 19, 20, 21, 22, 23, 24, 25, 26, 27, 28, 29, 30, 31, 32, 33, 34, 35, 36, 37, 38, 39, 40, 41, 42], []⟩
noncomputable def f58o5 : Array Oper := cO (cL (cL (cR (cL (cR (cL (cL (cR (cR (cL (cL (cR (cL (cR (cB Go.Proofs.Try.f58)))))))))))))))
def f58a5 : RAnn := ⟨[0, 1, 6, 8, 9, 10, 43], []⟩
noncomputable def f58o6 : Array Oper := cO (cL (cR (cR (cL (cL (cR (cR (cL (cL (cR (cL (cR (cB Go.Proofs.Try.f58)))))))))))))
def f58a6 : RAnn := ⟨[43, 44, 45, 46, 47, 48, 49], []⟩
noncomputable def f58o7 : Array Oper := cO (cL (cR (cR (cR (cL (cL (cR (cR (cL (cL (cR (cL (cR (cB Go.Proofs.Try.f58))))))))))))))
def f58a7 : RAnn := ⟨[6, 7, 50, 51, 52, 53, 54, 55, 56, 57, 58, 59, 60, 61, 62, 63, 64, 65, 66, 67], []⟩
noncomputable def f58o8 : Array Oper := cO (cL (cL (cR (cR (cR (cR (cL (cL (cR (cR (cL (cL (cR (cL (cR (cB Go.Proofs.Try.f58))))))))))))))))
def f58a8 : RAnn := ⟨[0, 1, 8, 9, 10, 68], []⟩
noncomputable def f58o9 : Array Oper := cO (cR (cR (cR (cL (cL (cR (cL (cR (cB Go.Proofs.Try.f58)))))))))
def f58a9 : RAnn := ⟨[68, 69], []⟩
noncomputable def f58o10 : Array Oper := cO (cL (cR (cR (cB Go.Proofs.Try.f58))))
def f58a10 : RAnn := ⟨[0, 1, 8, 9, 10, 11, 70, 71, 72], []⟩
def f58b0 : Code := (.seq (.region 2 f58o2 false) (.seq (.cond (.tmp 11) .skip (.exit 0)) (.seq (.block 1 (.seq (.region 3 f58o3 false) (.seq (.seq (.region 4 f58o4 false) (.cond (.tmp 43) (.seq (.region 5 f58o5 false) .ret) .skip)) (.seq (.region 6 f58o6 false) (.seq (.region 7 f58o7 false) (.cond (.tmp 68) (.seq (.region 8 f58o8 false) .ret) .skip)))))) (.region 9 f58o9 false))))
def f58c : Code := (.seq (.region 0 f58o0 false) (.seq (.seq (.region 1 f58o1 false) (.block 0 (.loop f58b0))) (.seq (.region 10 f58o10 false) .ret)))
def f58n : List (Nat × RAnn) := [(0, f58a0), (1, f58a1), (2, f58a2), (3, f58a3), (4, f58a4), (5, f58a5), (6, f58a6), (7, f58a7), (8, f58a8), (9, f58a9), (10, f58a10)]
noncomputable def f28o0 : Array Oper := cO (cL (cB Go.Proofs.Try.f28))
def f28a0 : RAnn := ⟨[0, 2], []⟩
noncomputable def f28o1 : Array Oper := cO (cL (cR (cB Go.Proofs.Try.f28)))
def f28a1 : RAnn := ⟨[1, 3, 4, 5, 6, 7, 8, 9, 10, 11, 12, 13, 14, 15, 16, 17, 18, 19, 20, 21, 22, 23, 24, 25, 26, 27], []⟩
def f28c : Code := (.seq (.region 0 f28o0 false) (.seq (.region 1 f28o1 false) .ret))
def f28n : List (Nat × RAnn) := [(0, f28a0), (1, f28a1)]
noncomputable def f73o0 : Array Oper := cO (cL (cB Go.Proofs.Try.f73))
def f73a0 : RAnn := ⟨[4], []⟩
noncomputable def f73o1 : Array Oper := cO (cL (cL (cR (cB Go.Proofs.Try.f73))))
def f73a1 : RAnn := ⟨[6], []⟩
noncomputable def f73o2 : Array Oper := cO (cL (cL (cL (cR (cL (cR (cB Go.Proofs.Try.f73)))))))
def f73a2 : RAnn := ⟨[], []⟩
noncomputable def f73o3 : Array Oper := cO (cL (cL (cL (cR (cR (cL (cL (cR (cL (cR (cB Go.Proofs.Try.f73)))))))))))
def f73a3 : RAnn := ⟨[9, 10], []⟩
noncomputable def f73o4 : Array Oper := cO (cL (cR (cL (cL (cR (cR (cL (cL (cR (cL (cR (cB Go.Proofs.Try.f73))))))))))))
def f73a4 : RAnn := ⟨[11, 12, 13, 14, 15], []⟩
noncomputable def f73o5 : Array Oper := cO (cL (cL (cR (cR (cL (cL (cR (cR (cL (cL (cR (cL (cR (cB Go.Proofs.Try.f73))))))))))))))
def f73a5 : RAnn := ⟨[0, 1, 5, 7, 8, 16, 17], []⟩
noncomputable def f73o6 : Array Oper := cO (cR (cR (cR (cL (cL (cR (cL (cR (cB Go.Proofs.Try.f73)))))))))
def f73a6 : RAnn := ⟨[5, 16, 18], []⟩
noncomputable def f73o7 : Array Oper := cO (cL (cR (cR (cB Go.Proofs.Try.f73))))
def f73a7 : RAnn := ⟨[0, 1, 7, 8, 9], []⟩
def f73b0 : Code := (.seq (.region 2 f73o2 false) (.seq (.cond (.tmp 9) .skip (.exit 0)) (.seq (.block 1 (.seq (.region 3 f73o3 false) (.seq (.region 4 f73o4 false) (.cond (.tmp 16) (.seq (.region 5 f73o5 false) .ret) .skip)))) (.region 6 f73o6 false))))
def f73c : Code := (.seq (.region 0 f73o0 false) (.seq (.seq (.region 1 f73o1 false) (.block 0 (.loop f73b0))) (.seq (.region 7 f73o7 false) .ret)))
def f73n : List (Nat × RAnn) := [(0, f73a0), (1, f73a1), (2, f73a2), (3, f73a3), (4, f73a4), (5, f73a5), (6, f73a6), (7, f73a7)]
noncomputable def f64o0 : Array Oper := cO (cL (cB Go.Proofs.Try.f64))
def f64a0 : RAnn := ⟨[4], []⟩
noncomputable def f64o1 : Array Oper := cO (cL (cR (cB Go.Proofs.Try.f64)))
def f64a1 : RAnn := ⟨[0, 1, 5, 6, 7, 8], []⟩
def f64c : Code := (.seq (.region 0 f64o0 false) (.seq (.region 1 f64o1 false) .ret))
def f64n : List (Nat × RAnn) := [(0, f64a0), (1, f64a1)]
noncomputable def f65o0 : Array Oper := cO (cL (cB Go.Proofs.Try.f65))
def f65a0 : RAnn := ⟨[3], []⟩
noncomputable def f65o1 : Array Oper := cO (cL (cR (cB Go.Proofs.Try.f65)))
def f65a1 : RAnn := ⟨[0, 1, 4, 5, 6, 7, 8, 9, 10, 11, 12], []⟩
def f65c : Code := (.seq (.region 0 f65o0 false) (.seq (.region 1 f65o1 false) .ret))
def f65n : List (Nat × RAnn) := [(0, f65a0), (1, f65a1)]
noncomputable def f38o0 : Array Oper := cO (cL (cB Go.Proofs.Try.f38))
def f38a0 : RAnn := ⟨[0, 4], []⟩
noncomputable def f38o1 : Array Oper := cO (cL (cL (cL (cR (cB Go.Proofs.Try.f38)))))
def f38a1 : RAnn := ⟨[6, 7, 8], []⟩
noncomputable def f38o2 : Array Oper := cO (cL (cL (cR (cL (cL (cR (cB Go.Proofs.Try.f38)))))))
def f38a2 : RAnn := ⟨[1, 2, 5], []⟩
noncomputable def f38o3 : Array Oper := cO (cL (cR (cR (cL (cL (cR (cB Go.Proofs.Try.f38)))))))
def f38a3 : RAnn := ⟨[1, 2, 5, 10, 11, 12], []⟩
noncomputable def f38o4 : Array Oper := cO (cL (cL (cR (cR (cR (cL (cL (cR (cB Go.Proofs.Try.f38)))))))))
def f38a4 : RAnn := ⟨[9], []⟩
noncomputable def f38o5 : Array Oper := cO (cL (cR (cR (cB Go.Proofs.Try.f38))))
def f38a5 : RAnn := ⟨[9], []⟩
def f38c : Code := (.seq (.region 0 f38o0 false) (.seq (.block 0 (.seq (.region 1 f38o1 false) (.cond (.tmp 5) (.seq (.region 2 f38o2 false) .ret) (.seq (.region 3 f38o3 false) (.cond (.tmp 9) (.seq (.region 4 f38o4 false) .ret) .skip))))) (.seq (.region 5 f38o5 false) .ret)))
def f38n : List (Nat × RAnn) := [(0, f38a0), (1, f38a1), (2, f38a2), (3, f38a3), (4, f38a4), (5, f38a5)]
noncomputable def f39o0 : Array Oper := cO (cL (cB Go.Proofs.Try.f39))
def f39a0 : RAnn := ⟨[0, 4], []⟩
noncomputable def f39o1 : Array Oper := cO (cL (cR (cB Go.Proofs.Try.f39)))
def f39a1 : RAnn := ⟨[], [(0, { site := true })]⟩
noncomputable def f39o2 : Array Oper := cO (cL (cL (cL (cL (cL (cR (cR (cB Go.Proofs.Try.f39))))))))
def f39a2 : RAnn := ⟨[6], []⟩
noncomputable def f39o3 : Array Oper := cO (cR (cR (cL (cL (cL (cR (cR (cB Go.Proofs.Try.f39))))))))
def f39a3 : RAnn := ⟨[8, 9, 10, 11, 12, 13], []⟩
noncomputable def f39o4 : Array Oper := cO (cL (cL (cR (cL (cL (cL (cR (cR (cB Go.Proofs.Try.f39)))))))))
def f39a4 : RAnn := ⟨[7, 14, 15, 16, 17], []⟩
noncomputable def f39o5 : Array Oper := cO (cL (cR (cR (cR (cB Go.Proofs.Try.f39)))))
def f39a5 : RAnn := ⟨[1, 2, 7, 18, 19], [(1, { eff := true })]⟩
noncomputable def f39o6 : Array Oper := cO (cL (cR (cR (cR (cR (cB Go.Proofs.Try.f39))))))
def f39a6 : RAnn := ⟨[5, 20], [(1, { close := true })]⟩
def f39b0 : Code := (.seq (.seq (.region 2 f39o2 false) (.cond (.tmp 7) .skip (.exit 0))) (.seq (.block 1 (.region 4 f39o4 false)) (.region 3 f39o3 false)))
def f39c : Code := (.seq (.region 0 f39o0 false) (.seq (.region 1 f39o1 false) (.seq (.block 0 (.loop f39b0)) (.seq (.region 5 f39o5 false) (.seq (.region 6 f39o6 false) .ret)))))
def f39n : List (Nat × RAnn) := [(0, f39a0), (1, f39a1), (2, f39a2), (3, f39a3), (4, f39a4), (5, f39a5), (6, f39a6)]
noncomputable def f11o0 : Array Oper := cO (cL (cB Go.Proofs.Try.f11))
def f11a0 : RAnn := ⟨[0, 4, 5], []⟩
noncomputable def f11o1 : Array Oper := cO (cL (cL (cR (cB Go.Proofs.Try.f11))))
def f11a1 : RAnn := ⟨[7, 8, 9, 10], []⟩
noncomputable def f11o2 : Array Oper := cO (cL (cR (cL (cR (cB Go.Proofs.Try.f11)))))
def f11a2 : RAnn := ⟨[11], []⟩
noncomputable def f11o3 : Array Oper := cO (cL (cL (cR (cR (cL (cR (cB Go.Proofs.Try.f11)))))))
def f11a3 : RAnn := ⟨[1, 2, 6, 12, 13], []⟩
noncomputable def f11o4 : Array Oper := cO (cL (cR (cR (cB Go.Proofs.Try.f11))))
def f11a4 : RAnn := ⟨[1, 2, 6, 12, 14, 15, 16], []⟩
def f11c : Code := (.seq (.region 0 f11o0 false) (.seq (.seq (.region 1 f11o1 false) (.seq (.region 2 f11o2 false) (.cond (.tmp 12) (.seq (.region 3 f11o3 false) .ret) .skip))) (.seq (.region 4 f11o4 false) .ret)))
def f11n : List (Nat × RAnn) := [(0, f11a0), (1, f11a1), (2, f11a2), (3, f11a3), (4, f11a4)]
noncomputable def f16o0 : Array Oper := cO (cL (cB Go.Proofs.Try.f16))
def f16a0 : RAnn := ⟨[0, 4, 5], []⟩
noncomputable def f16o1 : Array Oper := cO (cL (cL (cR (cB Go.Proofs.Try.f16))))
def f16a1 : RAnn := ⟨[10, 11, 12, 13], []⟩
noncomputable def f16o2 : Array Oper := cO (cL (cR (cL (cR (cB Go.Proofs.Try.f16)))))
def f16a2 : RAnn := ⟨[14], []⟩
noncomputable def f16o3 : Array Oper := cO (cL (cL (cR (cR (cL (cR (cB Go.Proofs.Try.f16)))))))
def f16a3 : RAnn := ⟨[1, 2, 6, 15, 16], []⟩
noncomputable def f16o4 : Array Oper := cO (cL (cR (cR (cB Go.Proofs.Try.f16))))
def f16a4 : RAnn := ⟨[6, 15], [(0, { keep := [0] })]⟩
noncomputable def f16o5 : Array Oper := cO (cL (cL (cR (cR (cR (cB Go.Proofs.Try.f16))))))
def f16a5 : RAnn := ⟨[2, 17], []⟩
noncomputable def f16o6 : Array Oper := cO (cL (cL (cL (cR (cL (cR (cR (cR (cB Go.Proofs.Try.f16)))))))))
def f16a6 : RAnn := ⟨[], []⟩
noncomputable def f16o7 : Array Oper := cO (cL (cL (cL (cR (cR (cL (cL (cR (cL (cR (cR (cR (cB Go.Proofs.Try.f16)))))))))))))
def f16a7 : RAnn := ⟨[21, 22, 23, 24], []⟩
noncomputable def f16o8 : Array Oper := cO (cL (cR (cL (cL (cR (cR (cL (cL (cR (cL (cR (cR (cR (cB Go.Proofs.Try.f16))))))))))))))
def f16a8 : RAnn := ⟨[9, 25, 26, 27], []⟩
noncomputable def f16o9 : Array Oper := cO (cL (cR (cR (cL (cL (cR (cR (cL (cL (cR (cL (cR (cR (cR (cB Go.Proofs.Try.f16)))))))))))))))
def f16a9 : RAnn := ⟨[8, 28, 29, 30, 31, 32], [(0, { tk := [7], keep := [0] }), (3, { tk := [29], keep := [0] }), (4, { tk := [32], keep := [0] })]⟩
noncomputable def f16o10 : Array Oper := cO (cR (cR (cR (cL (cL (cR (cL (cR (cR (cR (cB Go.Proofs.Try.f16)))))))))))
def f16a10 : RAnn := ⟨[8, 28, 33], []⟩
noncomputable def f16o11 : Array Oper := cO (cL (cR (cR (cR (cR (cB Go.Proofs.Try.f16))))))
def f16a11 : RAnn := ⟨[1, 7, 18, 19, 20, 21, 34], []⟩
def f16b0 : Code := (.seq (.region 6 f16o6 false) (.seq (.cond (.tmp 21) .skip (.exit 0)) (.seq (.block 1 (.seq (.region 7 f16o7 false) (.seq (.region 8 f16o8 false) (.cond (.tmp 28) (.region 9 f16o9 false) .skip)))) (.region 10 f16o10 false))))
def f16c : Code := (.seq (.region 0 f16o0 false) (.seq (.seq (.region 1 f16o1 false) (.seq (.region 2 f16o2 false) (.cond (.tmp 15) (.seq (.region 3 f16o3 false) .ret) .skip))) (.seq (.region 4 f16o4 false) (.seq (.seq (.region 5 f16o5 false) (.block 0 (.loop f16b0))) (.seq (.region 11 f16o11 false) .ret)))))
def f16n : List (Nat × RAnn) := [(0, f16a0), (1, f16a1), (2, f16a2), (3, f16a3), (4, f16a4), (5, f16a5), (6, f16a6), (7, f16a7), (8, f16a8), (9, f16a9), (10, f16a10), (11, f16a11)]
noncomputable def f13o0 : Array Oper := cO (cL (cB Go.Proofs.Try.f13))
def f13a0 : RAnn := ⟨[4], []⟩
noncomputable def f13o1 : Array Oper := cO (cL (cL (cR (cB Go.Proofs.Try.f13))))
def f13a1 : RAnn := ⟨[6, 7, 8, 9], []⟩
noncomputable def f13o2 : Array Oper := cO (cL (cL (cR (cL (cR (cB Go.Proofs.Try.f13))))))
def f13a2 : RAnn := ⟨[0, 1, 10], []⟩
noncomputable def f13o3 : Array Oper := cO (cL (cL (cR (cR (cB Go.Proofs.Try.f13)))))
def f13a3 : RAnn := ⟨[10], []⟩
noncomputable def f13o4 : Array Oper := cO (cL (cL (cL (cL (cR (cL (cR (cR (cB Go.Proofs.Try.f13)))))))))
def f13a4 : RAnn := ⟨[11, 12, 13], []⟩
noncomputable def f13o5 : Array Oper := cO (cR (cR (cL (cL (cR (cL (cR (cR (cB Go.Proofs.Try.f13)))))))))
def f13a5 : RAnn := ⟨[15, 16, 25], []⟩
noncomputable def f13o6 : Array Oper := cO (cL (cL (cL (cR (cL (cL (cR (cL (cR (cR (cB Go.Proofs.Try.f13)))))))))))
def f13a6 : RAnn := ⟨[14, 17, 18, 19, 20, 21, 22, 23, 24], []⟩
noncomputable def f13o7 : Array Oper := cO (cL (cL (cR (cL (cL (cR (cL (cL (cR (cL (cR (cR (cB Go.Proofs.Try.f13)))))))))))))
def f13a7 : RAnn := ⟨[0, 1, 5, 25], []⟩
noncomputable def f13o8 : Array Oper := cO (cL (cR (cR (cR (cB Go.Proofs.Try.f13)))))
def f13a8 : RAnn := ⟨[0, 1, 5, 14], []⟩
def f13b0 : Code := (.seq (.seq (.region 4 f13o4 false) (.cond (.tmp 14) .skip (.exit 0))) (.seq (.block 1 (.seq (.region 6 f13o6 true) (.cond (.tmp 25) (.seq (.region 7 f13o7 false) .ret) .skip))) (.region 5 f13o5 false)))
def f13c : Code := (.seq (.region 0 f13o0 false) (.seq (.seq (.region 1 f13o1 false) (.cond (.tmp 10) (.seq (.region 2 f13o2 false) .ret) .skip)) (.seq (.seq (.region 3 f13o3 false) (.block 0 (.loop f13b0))) (.seq (.region 8 f13o8 false) .ret))))
def f13n : List (Nat × RAnn) := [(0, f13a0), (1, f13a1), (2, f13a2), (3, f13a3), (4, f13a4), (5, f13a5), (6, f13a6), (7, f13a7), (8, f13a8)]
noncomputable def f10o0 : Array Oper := cO (cL (cB Go.Proofs.Try.f10))
def f10a0 : RAnn := ⟨[0], []⟩
noncomputable def f10o1 : Array Oper := cO (cL (cR (cB Go.Proofs.Try.f10)))
def f10a1 : RAnn := ⟨[5, 6, 7, 8, 9], []⟩
noncomputable def f10o2 : Array Oper := cO (cL (cR (cR (cB Go.Proofs.Try.f10))))
def f10a2 : RAnn := ⟨[10, 11, 12, 13, 14], []⟩
noncomputable def f10o3 : Array Oper := cO (cL (cR (cR (cR (cB Go.Proofs.Try.f10)))))
def f10a3 : RAnn := ⟨[1, 2, 3, 4, 15, 16, 17, 18, 19, 20, 21, 22, 23, 24, 25, 26, 27, 28, 29, 30], []⟩
def f10c : Code := (.seq (.region 0 f10o0 false) (.seq (.region 1 f10o1 false) (.seq (.region 2 f10o2 false) (.seq (.region 3 f10o3 false) .ret))))
def f10n : List (Nat × RAnn) := [(0, f10a0), (1, f10a1), (2, f10a2), (3, f10a3)]
noncomputable def f67o0 : Array Oper := cO (cL (cB Go.Proofs.Try.f67))
def f67a0 : RAnn := ⟨[2], []⟩
noncomputable def f67o1 : Array Oper := cO (cL (cL (cR (cB Go.Proofs.Try.f67))))
def f67a1 : RAnn := ⟨[3], []⟩
noncomputable def f67o2 : Array Oper := cO (cL (cL (cR (cL (cR (cB Go.Proofs.Try.f67))))))
def f67a2 : RAnn := ⟨[], []⟩
noncomputable def f67o3 : Array Oper := cO (cL (cR (cR (cB Go.Proofs.Try.f67))))
def f67a3 : RAnn := ⟨[0, 4, 5, 6, 7], [(0, { keep := [0] }), (2, { tk := [5] })]⟩
def f67c : Code := (.seq (.region 0 f67o0 false) (.seq (.seq (.region 1 f67o1 false) (.cond (.tmp 4) (.seq (.region 2 f67o2 false) .ret) .skip)) (.seq (.region 3 f67o3 false) .ret)))
def f67n : List (Nat × RAnn) := [(0, f67a0), (1, f67a1), (2, f67a2), (3, f67a3)]
noncomputable def f54o0 : Array Oper := cO (cL (cB Go.Proofs.Try.f54))
def f54a0 : RAnn := ⟨[0], []⟩
noncomputable def f54o1 : Array Oper := cO (cL (cR (cB Go.Proofs.Try.f54)))
def f54a1 : RAnn := ⟨[5, 6, 7, 8], []⟩
noncomputable def f54o2 : Array Oper := cO (cL (cR (cR (cB Go.Proofs.Try.f54))))
def f54a2 : RAnn := ⟨[1, 9, 10], []⟩
noncomputable def f54o3 : Array Oper := cO (cL (cR (cR (cR (cB Go.Proofs.Try.f54)))))
def f54a3 : RAnn := ⟨[2, 11], []⟩
def f54c : Code := (.seq (.region 0 f54o0 false) (.seq (.region 1 f54o1 false) (.seq (.region 2 f54o2 false) (.seq (.region 3 f54o3 false) .ret))))
def f54n : List (Nat × RAnn) := [(0, f54a0), (1, f54a1), (2, f54a2), (3, f54a3)]
noncomputable def f26o0 : Array Oper := cO (cL (cB Go.Proofs.Try.f26))
def f26a0 : RAnn := ⟨[0, 5], []⟩
noncomputable def f26o1 : Array Oper := cO (cL (cL (cR (cB Go.Proofs.Try.f26))))
def f26a1 : RAnn := ⟨[14, 15, 16], []⟩
noncomputable def f26o2 : Array Oper := cO (cL (cR (cL (cR (cB Go.Proofs.Try.f26)))))
def f26a2 : RAnn := ⟨[17], []⟩
noncomputable def f26o3 : Array Oper := cO (cL (cL (cR (cR (cL (cR (cB Go.Proofs.Try.f26)))))))
def f26a3 : RAnn := ⟨[1, 2, 6, 18, 19, 20], []⟩
noncomputable def f26o4 : Array Oper := cO (cL (cR (cR (cB Go.Proofs.Try.f26))))
def f26a4 : RAnn := ⟨[6, 18, 21, 22, 23, 24, 25], [(4, { keep := [2, 3] }), (6, { tk := [25] })]⟩
noncomputable def f26o5 : Array Oper := cO (cL (cL (cR (cR (cR (cB Go.Proofs.Try.f26))))))
def f26a5 : RAnn := ⟨[], []⟩
noncomputable def f26o6 : Array Oper := cO (cL (cL (cL (cR (cL (cR (cR (cR (cB Go.Proofs.Try.f26)))))))))
def f26a6 : RAnn := ⟨[], []⟩
noncomputable def f26o7 : Array Oper := cO (cL (cL (cL (cR (cR (cL (cL (cR (cL (cR (cR (cR (cB Go.Proofs.Try.f26)))))))))))))
def f26a7 : RAnn := ⟨[29, 30, 31, 32], []⟩
noncomputable def f26o8 : Array Oper := cO (cL (cR (cL (cL (cR (cR (cL (cL (cR (cL (cR (cR (cR (cB Go.Proofs.Try.f26))))))))))))))
def f26a8 : RAnn := ⟨[33, 34, 35, 36, 37, 38, 39, 40, 41, 42], []⟩
noncomputable def f26o9 : Array Oper := cO (cL (cL (cR (cR (cL (cL (cR (cR (cL (cL (cR (cL (cR (cR (cR (cB Go.Proofs.Try.f26))))))))))))))))
def f26a9 : RAnn := ⟨[8, 43, 44, 45, 46, 47, 48, 49, 50, 51, 52, 53, 54, 55, 56, 57, 58, 59, 60, 61, 62, 63, 64], []⟩
noncomputable def f26o10 : Array Oper := cO (cL (cL (cR (cL (cR (cR (cL (cL (cR (cR (cL (cL (cR (cL (cR (cR (cR (cB Go.Proofs.Try.f26))))))))))))))))))
def f26a10 : RAnn := ⟨[1, 2, 7, 9, 10, 26, 27, 28, 65, 66], []⟩
noncomputable def f26o11 : Array Oper := cO (cR (cR (cR (cL (cL (cR (cR (cL (cL (cR (cL (cR (cR (cR (cB Go.Proofs.Try.f26)))))))))))))))
def f26a11 : RAnn := ⟨[9, 10, 65, 67, 68, 69, 70, 71, 72, 73, 74, 75, 76, 77, 78], [(1, { keep := [0], ghost := true }), (10, { tk := [68], keep := [0] }), (12, { tk := [77] })]⟩
noncomputable def f26o12 : Array Oper := cO (cR (cR (cR (cL (cL (cR (cL (cR (cR (cR (cB Go.Proofs.Try.f26)))))))))))
def f26a12 : RAnn := ⟨[79], []⟩
noncomputable def f26o13 : Array Oper := cO (cL (cL (cR (cR (cR (cR (cB Go.Proofs.Try.f26)))))))
def f26a13 : RAnn := ⟨[26, 27, 28, 29, 80, 81], []⟩
noncomputable def f26o14 : Array Oper := cO (cL (cL (cR (cL (cR (cR (cR (cR (cB Go.Proofs.Try.f26)))))))))
def f26a14 : RAnn := ⟨[1, 2, 7, 82, 83], []⟩
noncomputable def f26o15 : Array Oper := cO (cL (cL (cR (cR (cR (cR (cR (cB Go.Proofs.Try.f26))))))))
def f26a15 : RAnn := ⟨[2, 82, 84], []⟩
noncomputable def f26o16 : Array Oper := cO (cL (cL (cL (cR (cL (cR (cR (cR (cR (cR (cB Go.Proofs.Try.f26)))))))))))
def f26a16 : RAnn := ⟨[], []⟩
noncomputable def f26o17 : Array Oper := cO (cL (cL (cL (cR (cR (cL (cL (cR (cL (cR (cR (cR (cR (cR (cB Go.Proofs.Try.f26)))))))))))))))
def f26a17 : RAnn := ⟨[88, 89, 90], []⟩
noncomputable def f26o18 : Array Oper := cO (cL (cR (cL (cL (cR (cR (cL (cL (cR (cL (cR (cR (cR (cR (cR (cB Go.Proofs.Try.f26))))))))))))))))
def f26a18 : RAnn := ⟨[91, 92, 93, 94], []⟩
noncomputable def f26o19 : Array Oper := cO (cL (cR (cR (cL (cL (cR (cR (cL (cL (cR (cL (cR (cR (cR (cR (cR (cB Go.Proofs.Try.f26)))))))))))))))))
def f26a19 : RAnn := ⟨[95], []⟩
noncomputable def f26o20 : Array Oper := cO (cL (cL (cR (cR (cR (cL (cL (cR (cR (cL (cL (cR (cL (cR (cR (cR (cR (cR (cB Go.Proofs.Try.f26)))))))))))))))))))
def f26a20 : RAnn := ⟨[13, 96, 97, 98], []⟩
noncomputable def f26o21 : Array Oper := cO (cR (cL (cR (cR (cR (cL (cL (cR (cR (cL (cL (cR (cL (cR (cR (cR (cR (cR (cB Go.Proofs.Try.f26)))))))))))))))))))
def f26a21 : RAnn := ⟨[12, 99, 100, 101, 102, 103, 104], [(1, { keep := [0], mem := true }), (4, { tk := [100], keep := [0] }), (6, { tk := [103] })]⟩
noncomputable def f26o22 : Array Oper := cO (cR (cR (cR (cL (cL (cR (cL (cR (cR (cR (cR (cR (cB Go.Proofs.Try.f26)))))))))))))
def f26a22 : RAnn := ⟨[12, 13, 96, 105], []⟩
noncomputable def f26o23 : Array Oper := cO (cL (cR (cR (cR (cR (cR (cR (cB Go.Proofs.Try.f26))))))))
def f26a23 : RAnn := ⟨[1, 7, 85, 86, 87, 88, 106], []⟩
def f26b0 : Code := (.seq (.region 6 f26o6 false) (.seq (.cond (.tmp 29) .skip (.exit 0)) (.seq (.block 1 (.seq (.region 7 f26o7 false) (.seq (.region 8 f26o8 true) (.seq (.seq (.region 9 f26o9 false) (.cond (.tmp 65) (.seq (.region 10 f26o10 false) .ret) .skip)) (.region 11 f26o11 true))))) (.region 12 f26o12 false))))
def f26b1 : Code := (.seq (.region 16 f26o16 false) (.seq (.cond (.tmp 88) .skip (.exit 2)) (.seq (.block 3 (.seq (.region 17 f26o17 false) (.seq (.region 18 f26o18 false) (.seq (.region 19 f26o19 false) (.cond (.tmp 96) (.seq (.region 20 f26o20 false) (.region 21 f26o21 false)) .skip))))) (.region 22 f26o22 false))))
def f26c : Code := (.seq (.region 0 f26o0 false) (.seq (.seq (.region 1 f26o1 false) (.seq (.region 2 f26o2 false) (.cond (.tmp 18) (.seq (.region 3 f26o3 false) .ret) .skip))) (.seq (.region 4 f26o4 false) (.seq (.seq (.region 5 f26o5 false) (.block 0 (.loop f26b0))) (.seq (.seq (.region 13 f26o13 false) (.cond (.tmp 82) (.seq (.region 14 f26o14 false) .ret) .skip)) (.seq (.seq (.region 15 f26o15 false) (.block 2 (.loop f26b1))) (.seq (.region 23 f26o23 false) .ret)))))))
def f26n : List (Nat × RAnn) := [(0, f26a0), (1, f26a1), (2, f26a2), (3, f26a3), (4, f26a4), (5, f26a5), (6, f26a6), (7, f26a7), (8, f26a8), (9, f26a9), (10, f26a10), (11, f26a11), (12, f26a12), (13, f26a13), (14, f26a14), (15, f26a15), (16, f26a16), (17, f26a17), (18, f26a18), (19, f26a19), (20, f26a20), (21, f26a21), (22, f26a22), (23, f26a23)]
noncomputable def f59o0 : Array Oper := cO (cL (cB Go.Proofs.Try.f59))
def f59a0 : RAnn := ⟨[2], []⟩
noncomputable def f59o1 : Array Oper := cO (cL (cL (cR (cB Go.Proofs.Try.f59))))
def f59a1 : RAnn := ⟨[], []⟩
noncomputable def f59o2 : Array Oper := cO (cL (cL (cL (cL (cR (cL (cR (cB Go.Proofs.Try.f59))))))))
def f59a2 : RAnn := ⟨[5, 6, 7], []⟩
noncomputable def f59o3 : Array Oper := cO (cR (cR (cL (cL (cR (cL (cR (cB Go.Proofs.Try.f59))))))))
def f59a3 : RAnn := ⟨[9, 10, 38], []⟩
noncomputable def f59o4 : Array Oper := cO (cL (cL (cL (cR (cL (cL (cR (cL (cR (cB Go.Proofs.Try.f59))))))))))
def f59a4 : RAnn := ⟨[8, 11, 12, 13, 14, 15, 16, 17, 18, 19, 20], []⟩
noncomputable def f59o5 : Array Oper := cO (cL (cR (cL (cL (cR (cL (cL (cR (cL (cR (cB Go.Proofs.Try.f59)))))))))))
def f59a5 : RAnn := ⟨[4, 21, 22, 23, 24, 25, 26, 27, 28, 29, 30, 31, 32, 33, 34, 35, 36, 37], []⟩
noncomputable def f59o6 : Array Oper := cO (cL (cL (cR (cR (cL (cL (cR (cL (cL (cR (cL (cR (cB Go.Proofs.Try.f59)))))))))))))
def f59a6 : RAnn := ⟨[0, 3, 38], []⟩
noncomputable def f59o7 : Array Oper := cO (cL (cR (cR (cB Go.Proofs.Try.f59))))
def f59a7 : RAnn := ⟨[0, 3, 8, 39, 40, 41, 42, 43, 44, 45, 46], []⟩
def f59b0 : Code := (.seq (.seq (.region 2 f59o2 false) (.cond (.tmp 8) .skip (.exit 0))) (.seq (.block 1 (.seq (.region 4 f59o4 false) (.seq (.region 5 f59o5 false) (.cond (.tmp 38) (.seq (.region 6 f59o6 false) .ret) .skip)))) (.region 3 f59o3 false)))
def f59c : Code := (.seq (.region 0 f59o0 false) (.seq (.seq (.region 1 f59o1 false) (.block 0 (.loop f59b0))) (.seq (.region 7 f59o7 false) .ret)))
def f59n : List (Nat × RAnn) := [(0, f59a0), (1, f59a1), (2, f59a2), (3, f59a3), (4, f59a4), (5, f59a5), (6, f59a6), (7, f59a7)]
noncomputable def f60o0 : Array Oper := cO (cL (cB Go.Proofs.Try.f60))
def f60a0 : RAnn := ⟨[0, 2], []⟩
noncomputable def f60o1 : Array Oper := cO (cL (cL (cR (cB Go.Proofs.Try.f60))))
def f60a1 : RAnn := ⟨[], []⟩
noncomputable def f60o2 : Array Oper := cO (cL (cL (cL (cL (cR (cL (cR (cB Go.Proofs.Try.f60))))))))
def f60a2 : RAnn := ⟨[6, 7, 8, 9], []⟩
noncomputable def f60o3 : Array Oper := cO (cR (cR (cL (cL (cR (cL (cR (cB Go.Proofs.Try.f60))))))))
def f60a3 : RAnn := ⟨[4, 5, 11, 12, 51], []⟩
noncomputable def f60o4 : Array Oper := cO (cL (cL (cL (cR (cL (cL (cR (cL (cR (cB Go.Proofs.Try.f60))))))))))
def f60a4 : RAnn := ⟨[10, 13, 14, 15, 16, 17], []⟩
noncomputable def f60o5 : Array Oper := cO (cL (cL (cR (cL (cL (cR (cL (cL (cR (cL (cR (cB Go.Proofs.Try.f60))))))))))))
def f60a5 : RAnn := ⟨[18, 19, 20, 21, 22, 23, 24, 25, 26, 27, 28, 29, 30, 31, 32, 33, 34, 35, 36, 37, 38, 39, 40, 41, 42, 43, 44, 45, 46, 47], []⟩
noncomputable def f60o6 : Array Oper := cO (cL (cL (cR (cL (cR (cL (cL (cR (cL (cL (cR (cL (cR (cB Go.Proofs.Try.f60))))))))))))))
def f60a6 : RAnn := ⟨[1, 3, 4, 48], []⟩
noncomputable def f60o7 : Array Oper := cO (cL (cR (cR (cL (cL (cR (cL (cL (cR (cL (cR (cB Go.Proofs.Try.f60))))))))))))
def f60a7 : RAnn := ⟨[48], []⟩
noncomputable def f60o8 : Array Oper := cO (cL (cL (cL (cL (cR (cR (cR (cL (cL (cR (cL (cL (cR (cL (cR (cB Go.Proofs.Try.f60))))))))))))))))
def f60a8 : RAnn := ⟨[49, 50], []⟩
noncomputable def f60o9 : Array Oper := cO (cR (cR (cL (cL (cR (cR (cR (cL (cL (cR (cL (cL (cR (cL (cR (cB Go.Proofs.Try.f60))))))))))))))))
def f60a9 : RAnn := ⟨[52, 53, 62], []⟩
noncomputable def f60o10 : Array Oper := cO (cL (cL (cL (cR (cL (cL (cR (cR (cR (cL (cL (cR (cL (cL (cR (cL (cR (cB Go.Proofs.Try.f60))))))))))))))))))
def f60a10 : RAnn := ⟨[51, 54, 55, 56, 57, 58, 59, 60, 61], []⟩
noncomputable def f60o11 : Array Oper := cO (cL (cL (cR (cL (cL (cR (cL (cL (cR (cR (cR (cL (cL (cR (cL (cL (cR (cL (cR (cB Go.Proofs.Try.f60))))))))))))))))))))
def f60a11 : RAnn := ⟨[1, 3, 4, 5, 62], []⟩
noncomputable def f60o12 : Array Oper := cO (cL (cL (cR (cR (cB Go.Proofs.Try.f60)))))
def f60a12 : RAnn := ⟨[3, 10, 63, 64, 65, 66, 67, 68, 69, 70, 71, 72, 73, 74, 75, 76, 77, 78, 79, 80, 81], []⟩
noncomputable def f60o13 : Array Oper := cO (cL (cL (cR (cL (cR (cR (cB Go.Proofs.Try.f60)))))))
def f60a13 : RAnn := ⟨[1, 82], []⟩
noncomputable def f60o14 : Array Oper := cO (cL (cR (cR (cR (cB Go.Proofs.Try.f60)))))
def f60a14 : RAnn := ⟨[1, 82, 83, 84, 85, 86, 87, 88, 89, 90, 91, 92, 93, 94, 95, 96, 97, 98, 99, 100, 101, 102, 103, 104, 105, 106, 107, 108, 109, 110, 111], []⟩
def f60b0 : Code := (.seq (.seq (.region 8 f60o8 false) (.cond (.tmp 51) .skip (.exit 2))) (.seq (.block 3 (.seq (.region 10 f60o10 true) (.cond (.tmp 62) (.seq (.region 11 f60o11 false) .ret) .skip))) (.region 9 f60o9 false)))
def f60b1 : Code := (.seq (.seq (.region 2 f60o2 false) (.cond (.tmp 10) .skip (.exit 0))) (.seq (.block 1 (.seq (.region 4 f60o4 false) (.seq (.seq (.region 5 f60o5 false) (.cond (.tmp 48) (.seq (.region 6 f60o6 false) .ret) .skip)) (.seq (.region 7 f60o7 false) (.block 2 (.loop f60b0)))))) (.region 3 f60o3 false)))
def f60c : Code := (.seq (.region 0 f60o0 false) (.seq (.seq (.region 1 f60o1 false) (.block 0 (.loop f60b1))) (.seq (.seq (.region 12 f60o12 false) (.cond (.tmp 82) (.seq (.region 13 f60o13 false) .ret) .skip)) (.seq (.region 14 f60o14 true) .ret))))
def f60n : List (Nat × RAnn) := [(0, f60a0), (1, f60a1), (2, f60a2), (3, f60a3), (4, f60a4), (5, f60a5), (6, f60a6), (7, f60a7), (8, f60a8), (9, f60a9), (10, f60a10), (11, f60a11), (12, f60a12), (13, f60a13), (14, f60a14)]
noncomputable def f43o0 : Array Oper := cO (cL (cB Go.Proofs.Try.f43))
def f43a0 : RAnn := ⟨[0, 6], []⟩
noncomputable def f43o1 : Array Oper := cO (cL (cL (cR (cB Go.Proofs.Try.f43))))
def f43a1 : RAnn := ⟨[7, 8, 9, 10, 11, 12], []⟩
noncomputable def f43o2 : Array Oper := cO (cL (cL (cL (cL (cR (cL (cR (cB Go.Proofs.Try.f43))))))))
def f43a2 : RAnn := ⟨[13], []⟩
noncomputable def f43o3 : Array Oper := cO (cR (cR (cL (cL (cR (cL (cR (cB Go.Proofs.Try.f43))))))))
def f43a3 : RAnn := ⟨[15, 16, 17, 18, 19, 20, 23], []⟩
noncomputable def f43o4 : Array Oper := cO (cL (cL (cL (cR (cL (cL (cR (cL (cR (cB Go.Proofs.Try.f43))))))))))
def f43a4 : RAnn := ⟨[14, 21, 22], []⟩
noncomputable def f43o5 : Array Oper := cO (cL (cL (cR (cL (cL (cR (cL (cL (cR (cL (cR (cB Go.Proofs.Try.f43))))))))))))
def f43a5 : RAnn := ⟨[1, 2, 3, 23], []⟩
noncomputable def f43o6 : Array Oper := cO (cL (cR (cR (cB Go.Proofs.Try.f43))))
def f43a6 : RAnn := ⟨[1, 2, 3, 14], []⟩
def f43b0 : Code := (.seq (.seq (.region 2 f43o2 false) (.cond (.tmp 14) .skip (.exit 0))) (.seq (.block 1 (.seq (.region 4 f43o4 false) (.cond (.tmp 23) (.seq (.region 5 f43o5 false) .ret) .skip))) (.region 3 f43o3 false)))
def f43c : Code := (.seq (.region 0 f43o0 false) (.seq (.seq (.region 1 f43o1 false) (.block 0 (.loop f43b0))) (.seq (.region 6 f43o6 false) .ret)))
def f43n : List (Nat × RAnn) := [(0, f43a0), (1, f43a1), (2, f43a2), (3, f43a3), (4, f43a4), (5, f43a5), (6, f43a6)]
noncomputable def f41o0 : Array Oper := cO (cL (cB Go.Proofs.Try.f41))
def f41a0 : RAnn := ⟨[0, 4], []⟩
noncomputable def f41o1 : Array Oper := cO (cL (cR (cB Go.Proofs.Try.f41)))
def f41a1 : RAnn := ⟨[], []⟩
noncomputable def f41o2 : Array Oper := cO (cL (cL (cL (cL (cL (cR (cR (cB Go.Proofs.Try.f41))))))))
def f41a2 : RAnn := ⟨[6], []⟩
noncomputable def f41o3 : Array Oper := cO (cL (cL (cR (cL (cL (cL (cR (cR (cB Go.Proofs.Try.f41)))))))))
def f41a3 : RAnn := ⟨[7, 8, 9, 10, 11], [(1, { keep := [0] }), (3, { tk := [9] })]⟩
noncomputable def f41o4 : Array Oper := cO (cR (cL (cR (cL (cL (cL (cR (cR (cB Go.Proofs.Try.f41)))))))))
def f41a4 : RAnn := ⟨[12, 13, 14, 15, 16, 17], []⟩
noncomputable def f41o5 : Array Oper := cO (cL (cR (cR (cR (cB Go.Proofs.Try.f41)))))
def f41a5 : RAnn := ⟨[1, 2, 5, 7, 18], []⟩
def f41b0 : Code := (.seq (.seq (.region 2 f41o2 false) (.cond (.tmp 7) .skip (.exit 0))) (.block 1 (.seq (.region 3 f41o3 false) (.region 4 f41o4 false))))
def f41c : Code := (.seq (.region 0 f41o0 false) (.seq (.region 1 f41o1 false) (.seq (.block 0 (.loop f41b0)) (.seq (.region 5 f41o5 false) .ret))))
def f41n : List (Nat × RAnn) := [(0, f41a0), (1, f41a1), (2, f41a2), (3, f41a3), (4, f41a4), (5, f41a5)]
noncomputable def f29o0 : Array Oper := cO (cL (cB Go.Proofs.Try.f29))
def f29a0 : RAnn := ⟨[0, 2], []⟩
noncomputable def f29o1 : Array Oper := cO (cL (cL (cR (cB Go.Proofs.Try.f29))))
def f29a1 : RAnn := ⟨[9, 10, 11, 12, 13, 14, 15, 16, 17, 18, 19, 20, 21, 22, 23, 24, 25, 26, 27, 28, 29, 30, 31, 32, 33, 34, 35, 36, 37, 38, 39], []⟩
noncomputable def f29o2 : Array Oper := cO (cL (cL (cR (cL (cR (cB Go.Proofs.Try.f29))))))
def f29a2 : RAnn := ⟨[1, 40], []⟩
noncomputable def f29o3 : Array Oper := cO (cL (cL (cR (cR (cB Go.Proofs.Try.f29)))))
def f29a3 : RAnn := ⟨[40], []⟩
noncomputable def f29o4 : Array Oper := cO (cL (cL (cL (cL (cR (cL (cR (cR (cB Go.Proofs.Try.f29)))))))))
def f29a4 : RAnn := ⟨[41, 42, 43, 44], []⟩
noncomputable def f29o5 : Array Oper := cO (cR (cR (cL (cL (cR (cL (cR (cR (cB Go.Proofs.Try.f29)))))))))
def f29a5 : RAnn := ⟨[46, 47, 117, 149], []⟩
noncomputable def f29o6 : Array Oper := cO (cL (cL (cL (cR (cL (cL (cR (cL (cR (cR (cB Go.Proofs.Try.f29)))))))))))
def f29a6 : RAnn := ⟨[45, 48, 49, 50, 51, 52], []⟩
noncomputable def f29o7 : Array Oper := cO (cL (cL (cR (cL (cL (cR (cL (cL (cR (cL (cR (cR (cB Go.Proofs.Try.f29)))))))))))))
def f29a7 : RAnn := ⟨[53, 54, 55, 56, 57, 58, 59, 60, 61, 62, 63, 64, 65, 66, 67, 68, 69, 70, 71, 72, 73, 74, 75, 76, 77], []⟩
noncomputable def f29o8 : Array Oper := cO (cL (cL (cR (cL (cR (cL (cL (cR (cL (cL (cR (cL (cR (cR (cB Go.Proofs.Try.f29)))))))))))))))
def f29a8 : RAnn := ⟨[1, 3, 4, 78], []⟩
noncomputable def f29o9 : Array Oper := cO (cL (cL (cR (cR (cL (cL (cR (cL (cL (cR (cL (cR (cR (cB Go.Proofs.Try.f29))))))))))))))
def f29a9 : RAnn := ⟨[78], []⟩
noncomputable def f29o10 : Array Oper := cO (cL (cL (cL (cL (cR (cL (cR (cR (cL (cL (cR (cL (cL (cR (cL (cR (cR (cB Go.Proofs.Try.f29))))))))))))))))))
def f29a10 : RAnn := ⟨[79, 80], []⟩
noncomputable def f29o11 : Array Oper := cO (cR (cR (cL (cL (cR (cL (cR (cR (cL (cL (cR (cL (cL (cR (cL (cR (cR (cB Go.Proofs.Try.f29))))))))))))))))))
def f29a11 : RAnn := ⟨[82, 83, 92], []⟩
noncomputable def f29o12 : Array Oper := cO (cL (cL (cL (cR (cL (cL (cR (cL (cR (cR (cL (cL (cR (cL (cL (cR (cL (cR (cR (cB Go.Proofs.Try.f29))))))))))))))))))))
def f29a12 : RAnn := ⟨[81, 84, 85, 86, 87, 88, 89, 90, 91], []⟩
noncomputable def f29o13 : Array Oper := cO (cL (cL (cR (cL (cL (cR (cL (cL (cR (cL (cR (cR (cL (cL (cR (cL (cL (cR (cL (cR (cR (cB Go.Proofs.Try.f29))))))))))))))))))))))
def f29a13 : RAnn := ⟨[1, 3, 4, 5, 92], []⟩
noncomputable def f29o14 : Array Oper := cO (cL (cL (cR (cR (cR (cL (cL (cR (cL (cL (cR (cL (cR (cR (cB Go.Proofs.Try.f29)))))))))))))))
def f29a14 : RAnn := ⟨[5, 81, 93], []⟩
noncomputable def f29o15 : Array Oper := cO (cL (cL (cL (cR (cL (cR (cR (cR (cL (cL (cR (cL (cL (cR (cL (cR (cR (cB Go.Proofs.Try.f29))))))))))))))))))
def f29a15 : RAnn := ⟨[4, 94, 95, 96, 97, 98, 99, 100, 101, 102, 103, 104, 105, 106, 107, 108, 109, 110, 111, 112, 113, 114, 115, 116], []⟩
noncomputable def f29o16 : Array Oper := cO (cL (cL (cR (cL (cL (cR (cL (cR (cR (cR (cL (cL (cR (cL (cL (cR (cL (cR (cR (cB Go.Proofs.Try.f29))))))))))))))))))))
def f29a16 : RAnn := ⟨[1, 3, 117], []⟩
noncomputable def f29o17 : Array Oper := cO (cL (cR (cR (cR (cR (cL (cL (cR (cL (cL (cR (cL (cR (cR (cB Go.Proofs.Try.f29)))))))))))))))
def f29a17 : RAnn := ⟨[4, 94, 118, 119, 120, 121, 122, 123, 124, 125, 126, 127, 128, 129, 130, 131, 132, 133, 134, 135, 136, 137, 138, 139, 140, 141, 142, 143, 144, 145, 146, 147, 148], []⟩
noncomputable def f29o18 : Array Oper := cO (cL (cL (cR (cR (cR (cR (cR (cL (cL (cR (cL (cL (cR (cL (cR (cR (cB Go.Proofs.Try.f29)))))))))))))))))
def f29a18 : RAnn := ⟨[1, 3, 149], []⟩
noncomputable def f29o19 : Array Oper := cO (cL (cL (cR (cR (cR (cB Go.Proofs.Try.f29))))))
def f29a19 : RAnn := ⟨[3, 45], []⟩
noncomputable def f29o20 : Array Oper := cO (cL (cL (cL (cL (cR (cL (cR (cR (cR (cB Go.Proofs.Try.f29))))))))))
def f29a20 : RAnn := ⟨[150, 151, 152, 153], []⟩
noncomputable def f29o21 : Array Oper := cO (cR (cR (cL (cL (cR (cL (cR (cR (cR (cB Go.Proofs.Try.f29))))))))))
def f29a21 : RAnn := ⟨[7, 8, 155, 156, 220], []⟩
noncomputable def f29o22 : Array Oper := cO (cL (cL (cL (cR (cL (cL (cR (cL (cR (cR (cR (cB Go.Proofs.Try.f29))))))))))))
def f29a22 : RAnn := ⟨[154, 157, 158, 159, 160, 161], []⟩
noncomputable def f29o23 : Array Oper := cO (cL (cL (cR (cL (cL (cR (cL (cL (cR (cL (cR (cR (cR (cB Go.Proofs.Try.f29))))))))))))))
def f29a23 : RAnn := ⟨[162, 163, 164, 165, 166, 167, 168, 169, 170, 171, 172, 173, 174, 175, 176, 177, 178, 179, 180, 181, 182, 183, 184, 185, 186, 187, 188, 189, 190, 191, 192, 193, 194, 195, 196, 197, 198, 199, 200, 201, 202, 203, 204, 205, 206, 207, 208, 209, 210, 211, 212, 213, 214, 215, 216], []⟩
noncomputable def f29o24 : Array Oper := cO (cL (cL (cR (cL (cR (cL (cL (cR (cL (cL (cR (cL (cR (cR (cR (cB Go.Proofs.Try.f29))))))))))))))))
def f29a24 : RAnn := ⟨[1, 6, 7, 217], []⟩
noncomputable def f29o25 : Array Oper := cO (cL (cR (cR (cL (cL (cR (cL (cL (cR (cL (cR (cR (cR (cB Go.Proofs.Try.f29))))))))))))))
def f29a25 : RAnn := ⟨[217], []⟩
noncomputable def f29o26 : Array Oper := cO (cL (cL (cL (cL (cR (cR (cR (cL (cL (cR (cL (cL (cR (cL (cR (cR (cR (cB Go.Proofs.Try.f29))))))))))))))))))
def f29a26 : RAnn := ⟨[218, 219], []⟩
noncomputable def f29o27 : Array Oper := cO (cR (cR (cL (cL (cR (cR (cR (cL (cL (cR (cL (cL (cR (cL (cR (cR (cR (cB Go.Proofs.Try.f29))))))))))))))))))
def f29a27 : RAnn := ⟨[221, 222, 231], []⟩
noncomputable def f29o28 : Array Oper := cO (cL (cL (cL (cR (cL (cL (cR (cR (cR (cL (cL (cR (cL (cL (cR (cL (cR (cR (cR (cB Go.Proofs.Try.f29))))))))))))))))))))
def f29a28 : RAnn := ⟨[220, 223, 224, 225, 226, 227, 228, 229, 230], []⟩
noncomputable def f29o29 : Array Oper := cO (cL (cL (cR (cL (cL (cR (cL (cL (cR (cR (cR (cL (cL (cR (cL (cL (cR (cL (cR (cR (cR (cB Go.Proofs.Try.f29))))))))))))))))))))))
def f29a29 : RAnn := ⟨[1, 6, 7, 8, 231], []⟩
noncomputable def f29o30 : Array Oper := cO (cL (cR (cR (cR (cR (cB Go.Proofs.Try.f29))))))
def f29a30 : RAnn := ⟨[1, 6, 154], []⟩
def f29b0 : Code := (.seq (.seq (.region 10 f29o10 false) (.cond (.tmp 81) .skip (.exit 2))) (.seq (.block 3 (.seq (.region 12 f29o12 true) (.cond (.tmp 92) (.seq (.region 13 f29o13 false) .ret) .skip))) (.region 11 f29o11 false)))
def f29b1 : Code := (.seq (.seq (.region 4 f29o4 false) (.cond (.tmp 45) .skip (.exit 0))) (.seq (.block 1 (.seq (.region 6 f29o6 false) (.seq (.seq (.region 7 f29o7 false) (.cond (.tmp 78) (.seq (.region 8 f29o8 false) .ret) .skip)) (.seq (.seq (.region 9 f29o9 false) (.block 2 (.loop f29b0))) (.seq (.seq (.region 14 f29o14 false) (.cond (.tmp 94) (.seq (.seq (.region 15 f29o15 false) (.cond (.tmp 117) (.seq (.region 16 f29o16 false) .ret) .skip)) (.exit 1)) .skip)) (.seq (.region 17 f29o17 false) (.cond (.tmp 149) (.seq (.region 18 f29o18 false) .ret) .skip))))))) (.region 5 f29o5 false)))
def f29b2 : Code := (.seq (.seq (.region 26 f29o26 false) (.cond (.tmp 220) .skip (.exit 6))) (.seq (.block 7 (.seq (.region 28 f29o28 true) (.cond (.tmp 231) (.seq (.region 29 f29o29 false) .ret) .skip))) (.region 27 f29o27 false)))
def f29b3 : Code := (.seq (.seq (.region 20 f29o20 false) (.cond (.tmp 154) .skip (.exit 4))) (.seq (.block 5 (.seq (.region 22 f29o22 false) (.seq (.seq (.region 23 f29o23 true) (.cond (.tmp 217) (.seq (.region 24 f29o24 false) .ret) .skip)) (.seq (.region 25 f29o25 false) (.block 6 (.loop f29b2)))))) (.region 21 f29o21 false)))
def f29c : Code := (.seq (.region 0 f29o0 false) (.seq (.seq (.region 1 f29o1 false) (.cond (.tmp 40) (.seq (.region 2 f29o2 false) .ret) .skip)) (.seq (.seq (.region 3 f29o3 false) (.block 0 (.loop f29b1))) (.seq (.seq (.region 19 f29o19 false) (.block 4 (.loop f29b3))) (.seq (.region 30 f29o30 false) .ret)))))
def f29n : List (Nat × RAnn) := [(0, f29a0), (1, f29a1), (2, f29a2), (3, f29a3), (4, f29a4), (5, f29a5), (6, f29a6), (7, f29a7), (8, f29a8), (9, f29a9), (10, f29a10), (11, f29a11), (12, f29a12), (13, f29a13), (14, f29a14), (15, f29a15), (16, f29a16), (17, f29a17), (18, f29a18), (19, f29a19), (20, f29a20), (21, f29a21), (22, f29a22), (23, f29a23), (24, f29a24), (25, f29a25), (26, f29a26), (27, f29a27), (28, f29a28), (29, f29a29), (30, f29a30)]
noncomputable def f61o0 : Array Oper := cO (cL (cB Go.Proofs.Try.f61))
def f61a0 : RAnn := ⟨[0, 4], []⟩
noncomputable def f61o1 : Array Oper := cO (cL (cR (cB Go.Proofs.Try.f61)))
def f61a1 : RAnn := ⟨[1, 2, 5, 6, 7, 8, 9, 10, 11, 12, 13], []⟩
def f61c : Code := (.seq (.region 0 f61o0 false) (.seq (.region 1 f61o1 false) .ret))
def f61n : List (Nat × RAnn) := [(0, f61a0), (1, f61a1)]
noncomputable def f55o0 : Array Oper := cO (cL (cB Go.Proofs.Try.f55))
def f55a0 : RAnn := ⟨[4], []⟩
noncomputable def f55o1 : Array Oper := cO (cL (cL (cR (cB Go.Proofs.Try.f55))))
def f55a1 : RAnn := ⟨[], []⟩
noncomputable def f55o2 : Array Oper := cO (cL (cL (cL (cL (cR (cL (cR (cB Go.Proofs.Try.f55))))))))
def f55a2 : RAnn := ⟨[6, 7, 8], []⟩
noncomputable def f55o3 : Array Oper := cO (cR (cR (cL (cL (cR (cL (cR (cB Go.Proofs.Try.f55))))))))
def f55a3 : RAnn := ⟨[10, 11, 17], []⟩
noncomputable def f55o4 : Array Oper := cO (cL (cL (cL (cR (cL (cL (cR (cL (cR (cB Go.Proofs.Try.f55))))))))))
def f55a4 : RAnn := ⟨[9, 12, 13, 14, 15, 16], []⟩
noncomputable def f55o5 : Array Oper := cO (cL (cL (cR (cL (cL (cR (cL (cL (cR (cL (cR (cB Go.Proofs.Try.f55))))))))))))
def f55a5 : RAnn := ⟨[0, 1, 5, 17, 18], []⟩
noncomputable def f55o6 : Array Oper := cO (cL (cR (cR (cB Go.Proofs.Try.f55))))
def f55a6 : RAnn := ⟨[0, 1, 5, 9], []⟩
def f55b0 : Code := (.seq (.seq (.region 2 f55o2 false) (.cond (.tmp 9) .skip (.exit 0))) (.seq (.block 1 (.seq (.region 4 f55o4 false) (.cond (.tmp 17) (.seq (.region 5 f55o5 false) .ret) .skip))) (.region 3 f55o3 false)))
def f55c : Code := (.seq (.region 0 f55o0 false) (.seq (.seq (.region 1 f55o1 false) (.block 0 (.loop f55b0))) (.seq (.region 6 f55o6 false) .ret)))
def f55n : List (Nat × RAnn) := [(0, f55a0), (1, f55a1), (2, f55a2), (3, f55a3), (4, f55a4), (5, f55a5), (6, f55a6)]
noncomputable def f30o0 : Array Oper := cO (cL (cB Go.Proofs.Try.f30))
def f30a0 : RAnn := ⟨[0, 4], []⟩
noncomputable def f30o1 : Array Oper := cO (cL (cL (cR (cB Go.Proofs.Try.f30))))
def f30a1 : RAnn := ⟨[], []⟩
noncomputable def f30o2 : Array Oper := cO (cL (cL (cL (cL (cR (cL (cR (cB Go.Proofs.Try.f30))))))))
def f30a2 : RAnn := ⟨[7, 8, 9], []⟩
noncomputable def f30o3 : Array Oper := cO (cR (cR (cL (cL (cR (cL (cR (cB Go.Proofs.Try.f30))))))))
def f30a3 : RAnn := ⟨[11, 12, 54], []⟩
noncomputable def f30o4 : Array Oper := cO (cL (cL (cL (cL (cR (cL (cL (cR (cL (cR (cB Go.Proofs.Try.f30)))))))))))
def f30a4 : RAnn := ⟨[10, 13, 14, 15, 16, 17, 18, 19, 20, 21, 22, 23, 24, 25, 26, 27, 28, 29, 30, 31, 32, 33, 34], []⟩
noncomputable def f30o5 : Array Oper := cO (cL (cL (cR (cL (cL (cL (cR (cL (cL (cR (cL (cR (cB Go.Proofs.Try.f30)))))))))))))
def f30a5 : RAnn := ⟨[1, 2, 5, 35], []⟩
noncomputable def f30o6 : Array Oper := cO (cL (cR (cL (cL (cR (cL (cL (cR (cL (cR (cB Go.Proofs.Try.f30)))))))))))
def f30a6 : RAnn := ⟨[35, 36, 37, 38, 39, 40, 41, 42, 43, 44], []⟩
noncomputable def f30o7 : Array Oper := cO (cL (cR (cR (cL (cL (cR (cL (cL (cR (cL (cR (cB Go.Proofs.Try.f30))))))))))))
def f30a7 : RAnn := ⟨[6, 45, 46, 47, 48, 49, 50, 51, 52, 53], []⟩
noncomputable def f30o8 : Array Oper := cO (cL (cL (cR (cR (cR (cL (cL (cR (cL (cL (cR (cL (cR (cB Go.Proofs.Try.f30))))))))))))))
def f30a8 : RAnn := ⟨[1, 2, 5, 54], []⟩
noncomputable def f30o9 : Array Oper := cO (cL (cR (cR (cB Go.Proofs.Try.f30))))
def f30a9 : RAnn := ⟨[1, 2, 5, 10, 55, 56, 57], []⟩
def f30b0 : Code := (.seq (.seq (.region 2 f30o2 false) (.cond (.tmp 10) .skip (.exit 0))) (.seq (.block 1 (.seq (.seq (.region 4 f30o4 true) (.cond (.tmp 35) (.seq (.region 5 f30o5 false) .ret) .skip)) (.seq (.region 6 f30o6 true) (.seq (.region 7 f30o7 false) (.cond (.tmp 54) (.seq (.region 8 f30o8 false) .ret) .skip))))) (.region 3 f30o3 false)))
def f30c : Code := (.seq (.region 0 f30o0 false) (.seq (.seq (.region 1 f30o1 false) (.block 0 (.loop f30b0))) (.seq (.region 9 f30o9 false) .ret)))
def f30n : List (Nat × RAnn) := [(0, f30a0), (1, f30a1), (2, f30a2), (3, f30a3), (4, f30a4), (5, f30a5), (6, f30a6), (7, f30a7), (8, f30a8), (9, f30a9)]
noncomputable def f27o0 : Array Oper := cO (cL (cB Go.Proofs.Try.f27))
def f27a0 : RAnn := ⟨[0, 5], []⟩
noncomputable def f27o1 : Array Oper := cO (cL (cL (cR (cB Go.Proofs.Try.f27))))
def f27a1 : RAnn := ⟨[12, 13], []⟩
noncomputable def f27o2 : Array Oper := cO (cL (cL (cR (cL (cR (cB Go.Proofs.Try.f27))))))
def f27a2 : RAnn := ⟨[1, 2, 14, 15], []⟩
noncomputable def f27o3 : Array Oper := cO (cL (cL (cR (cR (cB Go.Proofs.Try.f27)))))
def f27a3 : RAnn := ⟨[14, 16, 17, 18], []⟩
noncomputable def f27o4 : Array Oper := cO (cL (cL (cR (cL (cR (cR (cB Go.Proofs.Try.f27)))))))
def f27a4 : RAnn := ⟨[1, 2, 19, 20], []⟩
noncomputable def f27o5 : Array Oper := cO (cL (cR (cR (cR (cB Go.Proofs.Try.f27)))))
def f27a5 : RAnn := ⟨[19, 21, 22, 23, 24, 25], [(4, { keep := [2, 3] }), (6, { tk := [25] })]⟩
noncomputable def f27o6 : Array Oper := cO (cL (cL (cR (cR (cR (cR (cB Go.Proofs.Try.f27)))))))
def f27a6 : RAnn := ⟨[], []⟩
noncomputable def f27o7 : Array Oper := cO (cL (cL (cL (cL (cR (cL (cR (cR (cR (cR (cB Go.Proofs.Try.f27)))))))))))
def f27a7 : RAnn := ⟨[26, 27, 28], []⟩
noncomputable def f27o8 : Array Oper := cO (cR (cR (cL (cL (cR (cL (cR (cR (cR (cR (cB Go.Proofs.Try.f27)))))))))))
def f27a8 : RAnn := ⟨[30, 31], []⟩
noncomputable def f27o9 : Array Oper := cO (cL (cL (cL (cR (cL (cL (cR (cL (cR (cR (cR (cR (cB Go.Proofs.Try.f27)))))))))))))
def f27a9 : RAnn := ⟨[29, 32, 33, 34, 35, 36, 37, 38, 39], []⟩
noncomputable def f27o10 : Array Oper := cO (cL (cR (cL (cL (cR (cL (cL (cR (cL (cR (cR (cR (cR (cB Go.Proofs.Try.f27))))))))))))))
def f27a10 : RAnn := ⟨[40, 41, 42, 43, 44], [(0, { keep := [0] }), (3, { tk := [40] })]⟩
noncomputable def f27o11 : Array Oper := cO (cL (cR (cR (cL (cL (cR (cL (cL (cR (cL (cR (cR (cR (cR (cB Go.Proofs.Try.f27)))))))))))))))
def f27a11 : RAnn := ⟨[45, 46, 47, 48, 49], []⟩
noncomputable def f27o12 : Array Oper := cO (cR (cR (cR (cL (cL (cR (cL (cL (cR (cL (cR (cR (cR (cR (cB Go.Proofs.Try.f27)))))))))))))))
def f27a12 : RAnn := ⟨[8, 50, 51, 52, 53, 54, 55], [(1, { keep := [0], mem := true }), (4, { tk := [51], keep := [0] }), (6, { tk := [54] })]⟩
noncomputable def f27o13 : Array Oper := cO (cL (cL (cR (cR (cR (cR (cR (cB Go.Proofs.Try.f27))))))))
def f27a13 : RAnn := ⟨[7, 29], []⟩
noncomputable def f27o14 : Array Oper := cO (cL (cL (cL (cL (cR (cL (cR (cR (cR (cR (cR (cB Go.Proofs.Try.f27))))))))))))
def f27a14 : RAnn := ⟨[56, 57, 58, 59], []⟩
noncomputable def f27o15 : Array Oper := cO (cR (cR (cL (cL (cR (cL (cR (cR (cR (cR (cR (cB Go.Proofs.Try.f27))))))))))))
def f27a15 : RAnn := ⟨[10, 11, 61, 62, 73], []⟩
noncomputable def f27o16 : Array Oper := cO (cL (cL (cL (cR (cL (cL (cR (cL (cR (cR (cR (cR (cR (cB Go.Proofs.Try.f27))))))))))))))
def f27a16 : RAnn := ⟨[60, 63, 64, 65, 66, 67], []⟩
noncomputable def f27o17 : Array Oper := cO (cL (cR (cL (cL (cR (cL (cL (cR (cL (cR (cR (cR (cR (cR (cB Go.Proofs.Try.f27)))))))))))))))
def f27a17 : RAnn := ⟨[68, 69, 70, 71], []⟩
noncomputable def f27o18 : Array Oper := cO (cL (cR (cR (cL (cL (cR (cL (cL (cR (cL (cR (cR (cR (cR (cR (cB Go.Proofs.Try.f27))))))))))))))))
def f27a18 : RAnn := ⟨[72], []⟩
noncomputable def f27o19 : Array Oper := cO (cL (cL (cR (cR (cR (cL (cL (cR (cL (cL (cR (cL (cR (cR (cR (cR (cR (cB Go.Proofs.Try.f27))))))))))))))))))
def f27a19 : RAnn := ⟨[11, 73, 74, 75], []⟩
noncomputable def f27o20 : Array Oper := cO (cR (cL (cR (cR (cR (cL (cL (cR (cL (cL (cR (cL (cR (cR (cR (cR (cR (cB Go.Proofs.Try.f27))))))))))))))))))
def f27a20 : RAnn := ⟨[10, 76, 77, 78, 79, 80, 81], [(1, { keep := [0], mem := true }), (4, { tk := [77], keep := [0] }), (6, { tk := [80] })]⟩
noncomputable def f27o21 : Array Oper := cO (cL (cR (cR (cR (cR (cR (cR (cB Go.Proofs.Try.f27))))))))
def f27a21 : RAnn := ⟨[1, 2, 6, 9, 60, 82], []⟩
def f27b0 : Code := (.seq (.seq (.region 7 f27o7 false) (.cond (.tmp 29) .skip (.exit 0))) (.seq (.block 1 (.seq (.region 9 f27o9 true) (.seq (.region 10 f27o10 false) (.seq (.region 11 f27o11 false) (.region 12 f27o12 false))))) (.region 8 f27o8 false)))
def f27b1 : Code := (.seq (.seq (.region 14 f27o14 false) (.cond (.tmp 60) .skip (.exit 2))) (.seq (.block 3 (.seq (.region 16 f27o16 false) (.seq (.region 17 f27o17 false) (.seq (.region 18 f27o18 false) (.cond (.tmp 73) (.seq (.region 19 f27o19 false) (.region 20 f27o20 false)) .skip))))) (.region 15 f27o15 false)))
def f27c : Code := (.seq (.region 0 f27o0 false) (.seq (.seq (.region 1 f27o1 false) (.cond (.tmp 14) (.seq (.region 2 f27o2 false) .ret) .skip)) (.seq (.seq (.region 3 f27o3 false) (.cond (.tmp 19) (.seq (.region 4 f27o4 false) .ret) .skip)) (.seq (.region 5 f27o5 false) (.seq (.seq (.region 6 f27o6 false) (.block 0 (.loop f27b0))) (.seq (.seq (.region 13 f27o13 false) (.block 2 (.loop f27b1))) (.seq (.region 21 f27o21 false) .ret)))))))
def f27n : List (Nat × RAnn) := [(0, f27a0), (1, f27a1), (2, f27a2), (3, f27a3), (4, f27a4), (5, f27a5), (6, f27a6), (7, f27a7), (8, f27a8), (9, f27a9), (10, f27a10), (11, f27a11), (12, f27a12), (13, f27a13), (14, f27a14), (15, f27a15), (16, f27a16), (17, f27a17), (18, f27a18), (19, f27a19), (20, f27a20), (21, f27a21)]
noncomputable def f25o0 : Array Oper := cO (cL (cB Go.Proofs.Try.f25))
def f25a0 : RAnn := ⟨[0, 1, 4], []⟩
noncomputable def f25o1 : Array Oper := cO (cL (cL (cR (cB Go.Proofs.Try.f25))))
def f25a1 : RAnn := ⟨[10, 11, 12, 13, 14, 15, 16, 17, 18, 19, 20, 21, 22, 23, 24, 25, 26, 27, 28, 29, 30, 31, 32, 33, 34, 35, 36, 37, 38], []⟩
noncomputable def f25o2 : Array Oper := cO (cL (cL (cR (cL (cR (cB Go.Proofs.Try.f25))))))
def f25a2 : RAnn := ⟨[2, 3, 39], []⟩
noncomputable def f25o3 : Array Oper := cO (cL (cL (cR (cR (cB Go.Proofs.Try.f25)))))
def f25a3 : RAnn := ⟨[39], []⟩
noncomputable def f25o4 : Array Oper := cO (cL (cL (cL (cL (cR (cL (cR (cR (cB Go.Proofs.Try.f25)))))))))
def f25a4 : RAnn := ⟨[40, 41, 42, 43], []⟩
noncomputable def f25o5 : Array Oper := cO (cR (cR (cL (cL (cR (cL (cR (cR (cB Go.Proofs.Try.f25)))))))))
def f25a5 : RAnn := ⟨[6, 7, 8, 45, 46, 117], []⟩
noncomputable def f25o6 : Array Oper := cO (cL (cL (cL (cR (cL (cL (cR (cL (cR (cR (cB Go.Proofs.Try.f25)))))))))))
def f25a6 : RAnn := ⟨[44, 47, 48, 49, 50, 51, 52, 53, 54, 55, 56], []⟩
noncomputable def f25o7 : Array Oper := cO (cL (cL (cR (cL (cL (cR (cL (cL (cR (cL (cR (cR (cB Go.Proofs.Try.f25)))))))))))))
def f25a7 : RAnn := ⟨[57, 58, 59, 60, 61, 62, 63, 64, 65, 66, 67, 68, 69, 70, 71, 72, 73, 74, 75, 76, 77, 78, 79, 80, 81, 82, 83, 84, 85, 86, 87, 88, 89, 90, 91, 92, 93, 94, 95, 96, 97, 98, 99, 100, 101, 102, 103, 104, 105, 106, 107, 108, 109, 110, 111], []⟩
noncomputable def f25o8 : Array Oper := cO (cL (cL (cR (cL (cR (cL (cL (cR (cL (cL (cR (cL (cR (cR (cB Go.Proofs.Try.f25)))))))))))))))
def f25a8 : RAnn := ⟨[2, 3, 5, 6, 7, 112], []⟩
noncomputable def f25o9 : Array Oper := cO (cL (cR (cR (cL (cL (cR (cL (cL (cR (cL (cR (cR (cB Go.Proofs.Try.f25)))))))))))))
def f25a9 : RAnn := ⟨[112], []⟩
noncomputable def f25o10 : Array Oper := cO (cL (cL (cL (cL (cR (cR (cR (cL (cL (cR (cL (cL (cR (cL (cR (cR (cB Go.Proofs.Try.f25)))))))))))))))))
def f25a10 : RAnn := ⟨[113, 114, 115, 116], []⟩
noncomputable def f25o11 : Array Oper := cO (cR (cR (cL (cL (cR (cR (cR (cL (cL (cR (cL (cL (cR (cL (cR (cR (cB Go.Proofs.Try.f25)))))))))))))))))
def f25a11 : RAnn := ⟨[118, 119, 130], []⟩
noncomputable def f25o12 : Array Oper := cO (cL (cL (cL (cR (cL (cL (cR (cR (cR (cL (cL (cR (cL (cL (cR (cL (cR (cR (cB Go.Proofs.Try.f25)))))))))))))))))))
def f25a12 : RAnn := ⟨[117, 120, 121, 122, 123, 124, 125, 126, 127, 128, 129], []⟩
noncomputable def f25o13 : Array Oper := cO (cL (cL (cR (cL (cL (cR (cL (cL (cR (cR (cR (cL (cL (cR (cL (cL (cR (cL (cR (cR (cB Go.Proofs.Try.f25)))))))))))))))))))))
def f25a13 : RAnn := ⟨[2, 3, 5, 6, 7, 8, 130], []⟩
noncomputable def f25o14 : Array Oper := cO (cL (cL (cR (cR (cR (cB Go.Proofs.Try.f25))))))
def f25a14 : RAnn := ⟨[5, 44], []⟩
noncomputable def f25o15 : Array Oper := cO (cL (cL (cL (cL (cR (cL (cR (cR (cR (cB Go.Proofs.Try.f25))))))))))
def f25a15 : RAnn := ⟨[131, 132, 133, 134], []⟩
noncomputable def f25o16 : Array Oper := cO (cR (cR (cL (cL (cR (cL (cR (cR (cR (cB Go.Proofs.Try.f25))))))))))
def f25a16 : RAnn := ⟨[136, 137, 148], []⟩
noncomputable def f25o17 : Array Oper := cO (cL (cL (cL (cR (cL (cL (cR (cL (cR (cR (cR (cB Go.Proofs.Try.f25))))))))))))
def f25a17 : RAnn := ⟨[135, 138, 139, 140, 141, 142, 143, 144, 145, 146, 147], []⟩
noncomputable def f25o18 : Array Oper := cO (cL (cL (cR (cL (cL (cR (cL (cL (cR (cL (cR (cR (cR (cB Go.Proofs.Try.f25))))))))))))))
def f25a18 : RAnn := ⟨[2, 3, 9, 148], []⟩
noncomputable def f25o19 : Array Oper := cO (cL (cR (cR (cR (cR (cB Go.Proofs.Try.f25))))))
def f25a19 : RAnn := ⟨[2, 3, 9, 135], []⟩
def f25b0 : Code := (.seq (.seq (.region 10 f25o10 false) (.cond (.tmp 117) .skip (.exit 2))) (.seq (.block 3 (.seq (.region 12 f25o12 true) (.cond (.tmp 130) (.seq (.region 13 f25o13 false) .ret) .skip))) (.region 11 f25o11 false)))
def f25b1 : Code := (.seq (.seq (.region 4 f25o4 false) (.cond (.tmp 44) .skip (.exit 0))) (.seq (.block 1 (.seq (.region 6 f25o6 true) (.seq (.seq (.region 7 f25o7 false) (.cond (.tmp 112) (.seq (.region 8 f25o8 false) .ret) .skip)) (.seq (.region 9 f25o9 false) (.block 2 (.loop f25b0)))))) (.region 5 f25o5 false)))
def f25b2 : Code := (.seq (.seq (.region 15 f25o15 false) (.cond (.tmp 135) .skip (.exit 4))) (.seq (.block 5 (.seq (.region 17 f25o17 true) (.cond (.tmp 148) (.seq (.region 18 f25o18 false) .ret) .skip))) (.region 16 f25o16 false)))
def f25c : Code := (.seq (.region 0 f25o0 false) (.seq (.seq (.region 1 f25o1 false) (.cond (.tmp 39) (.seq (.region 2 f25o2 false) .ret) .skip)) (.seq (.seq (.region 3 f25o3 false) (.block 0 (.loop f25b1))) (.seq (.seq (.region 14 f25o14 false) (.block 4 (.loop f25b2))) (.seq (.region 19 f25o19 false) .ret)))))
def f25n : List (Nat × RAnn) := [(0, f25a0), (1, f25a1), (2, f25a2), (3, f25a3), (4, f25a4), (5, f25a5), (6, f25a6), (7, f25a7), (8, f25a8), (9, f25a9), (10, f25a10), (11, f25a11), (12, f25a12), (13, f25a13), (14, f25a14), (15, f25a15), (16, f25a16), (17, f25a17), (18, f25a18), (19, f25a19)]
noncomputable def f6o0 : Array Oper := cO (cL (cB Go.Proofs.Try.f6))
def f6a0 : RAnn := ⟨[0, 4], []⟩
noncomputable def f6o1 : Array Oper := cO (cL (cL (cR (cB Go.Proofs.Try.f6))))
def f6a1 : RAnn := ⟨[12, 13, 14, 15, 16, 17, 18], []⟩
noncomputable def f6o2 : Array Oper := cO (cL (cL (cR (cL (cR (cB Go.Proofs.Try.f6))))))
def f6a2 : RAnn := ⟨[1, 2, 19, 20], []⟩
noncomputable def f6o3 : Array Oper := cO (cL (cR (cR (cB Go.Proofs.Try.f6))))
def f6a3 : RAnn := ⟨[19, 21, 22, 23, 24, 25, 26], []⟩
noncomputable def f6o4 : Array Oper := cO (cL (cR (cR (cR (cB Go.Proofs.Try.f6)))))
def f6a4 : RAnn := ⟨[1, 27, 28, 29, 30, 31, 32], []⟩
noncomputable def f6o5 : Array Oper := cO (cL (cL (cR (cR (cR (cR (cB Go.Proofs.Try.f6)))))))
def f6a5 : RAnn := ⟨[5, 6, 7, 8, 33, 34, 35, 36, 37, 38, 39, 40, 41, 42, 43, 44, 45, 46, 47, 48, 49], []⟩
noncomputable def f6o6 : Array Oper := cO (cL (cL (cR (cL (cR (cR (cR (cR (cB Go.Proofs.Try.f6)))))))))
def f6a6 : RAnn := ⟨[2, 50], []⟩
noncomputable def f6o7 : Array Oper := cO (cL (cL (cR (cR (cR (cR (cR (cB Go.Proofs.Try.f6))))))))
def f6a7 : RAnn := ⟨[50, 51, 52], []⟩
noncomputable def f6o8 : Array Oper := cO (cL (cL (cR (cL (cR (cR (cR (cR (cR (cB Go.Proofs.Try.f6))))))))))
def f6a8 : RAnn := ⟨[2, 53, 54], []⟩
noncomputable def f6o9 : Array Oper := cO (cL (cR (cR (cR (cR (cR (cR (cB Go.Proofs.Try.f6))))))))
def f6a9 : RAnn := ⟨[53], [(0, { keep := [0] })]⟩
noncomputable def f6o10 : Array Oper := cO (cL (cL (cR (cR (cR (cR (cR (cR (cR (cB Go.Proofs.Try.f6))))))))))
def f6a10 : RAnn := ⟨[], []⟩
noncomputable def f6o11 : Array Oper := cO (cL (cL (cL (cL (cR (cL (cR (cR (cR (cR (cR (cR (cR (cB Go.Proofs.Try.f6))))))))))))))
def f6a11 : RAnn := ⟨[55, 56, 57, 58], []⟩
noncomputable def f6o12 : Array Oper := cO (cR (cR (cL (cL (cR (cL (cR (cR (cR (cR (cR (cR (cR (cB Go.Proofs.Try.f6))))))))))))))
def f6a12 : RAnn := ⟨[60, 61], []⟩
noncomputable def f6o13 : Array Oper := cO (cL (cL (cR (cL (cL (cR (cL (cR (cR (cR (cR (cR (cR (cR (cB Go.Proofs.Try.f6)))))))))))))))
def f6a13 : RAnn := ⟨[59, 62, 63, 64, 65], [(0, { tk := [9], keep := [0] }), (3, { tk := [62], keep := [0] }), (4, { tk := [65], keep := [0] })]⟩
noncomputable def f6o14 : Array Oper := cO (cL (cR (cR (cR (cR (cR (cR (cR (cR (cB Go.Proofs.Try.f6))))))))))
def f6a14 : RAnn := ⟨[9, 10, 59, 66, 67, 68, 69, 70, 71], []⟩
noncomputable def f6o15 : Array Oper := cO (cL (cR (cR (cR (cR (cR (cR (cR (cR (cR (cB Go.Proofs.Try.f6)))))))))))
def f6a15 : RAnn := ⟨[2, 6, 11, 72, 73, 74, 75, 76, 77, 78, 79, 80, 81], []⟩
def f6b0 : Code := (.seq (.seq (.region 11 f6o11 false) (.cond (.tmp 59) .skip (.exit 0))) (.seq (.block 1 (.region 13 f6o13 false)) (.region 12 f6o12 false)))
def f6c : Code := (.seq (.region 0 f6o0 false) (.seq (.seq (.region 1 f6o1 false) (.cond (.tmp 19) (.seq (.region 2 f6o2 false) .ret) .skip)) (.seq (.region 3 f6o3 false) (.seq (.region 4 f6o4 false) (.seq (.seq (.region 5 f6o5 false) (.cond (.tmp 50) (.seq (.region 6 f6o6 false) .ret) .skip)) (.seq (.seq (.region 7 f6o7 false) (.cond (.tmp 53) (.seq (.region 8 f6o8 false) .ret) .skip)) (.seq (.region 9 f6o9 false) (.seq (.seq (.region 10 f6o10 false) (.block 0 (.loop f6b0))) (.seq (.region 14 f6o14 false) (.seq (.region 15 f6o15 false) .ret))))))))))
def f6n : List (Nat × RAnn) := [(0, f6a0), (1, f6a1), (2, f6a2), (3, f6a3), (4, f6a4), (5, f6a5), (6, f6a6), (7, f6a7), (8, f6a8), (9, f6a9), (10, f6a10), (11, f6a11), (12, f6a12), (13, f6a13), (14, f6a14), (15, f6a15)]
noncomputable def f7o0 : Array Oper := cO (cL (cB Go.Proofs.Try.f7))
def f7a0 : RAnn := ⟨[0, 6], []⟩
noncomputable def f7o1 : Array Oper := cO (cL (cL (cR (cB Go.Proofs.Try.f7))))
def f7a1 : RAnn := ⟨[14, 15, 16, 17, 18, 19, 20, 21, 22, 23, 24, 25, 26, 27, 28, 29, 30, 31, 32, 33, 34, 35, 36], []⟩
noncomputable def f7o2 : Array Oper := cO (cL (cL (cR (cL (cR (cB Go.Proofs.Try.f7))))))
def f7a2 : RAnn := ⟨[1, 2, 3, 37, 38], []⟩
noncomputable def f7o3 : Array Oper := cO (cL (cR (cR (cB Go.Proofs.Try.f7))))
def f7a3 : RAnn := ⟨[37, 39, 40, 41, 42, 43, 44], []⟩
noncomputable def f7o4 : Array Oper := cO (cL (cL (cR (cR (cR (cB Go.Proofs.Try.f7))))))
def f7a4 : RAnn := ⟨[8, 45], []⟩
noncomputable def f7o5 : Array Oper := cO (cL (cL (cR (cL (cR (cR (cR (cB Go.Proofs.Try.f7))))))))
def f7a5 : RAnn := ⟨[1, 2, 3, 7, 46], []⟩
noncomputable def f7o6 : Array Oper := cO (cL (cR (cR (cR (cR (cB Go.Proofs.Try.f7))))))
def f7a6 : RAnn := ⟨[46, 47, 48, 49, 50, 51, 52], []⟩
noncomputable def f7o7 : Array Oper := cO (cL (cL (cR (cR (cR (cR (cR (cB Go.Proofs.Try.f7))))))))
def f7a7 : RAnn := ⟨[7, 53, 54, 55], []⟩
noncomputable def f7o8 : Array Oper := cO (cL (cL (cR (cL (cR (cR (cR (cR (cR (cB Go.Proofs.Try.f7))))))))))
def f7a8 : RAnn := ⟨[1, 2, 3, 8, 9, 56, 57, 58, 59, 60, 61], []⟩
noncomputable def f7o9 : Array Oper := cO (cL (cR (cR (cR (cR (cR (cR (cB Go.Proofs.Try.f7))))))))
def f7a9 : RAnn := ⟨[56], [(0, { keep := [0] })]⟩
noncomputable def f7o10 : Array Oper := cO (cL (cL (cR (cR (cR (cR (cR (cR (cR (cB Go.Proofs.Try.f7))))))))))
def f7a10 : RAnn := ⟨[], []⟩
noncomputable def f7o11 : Array Oper := cO (cL (cL (cL (cL (cR (cL (cR (cR (cR (cR (cR (cR (cR (cB Go.Proofs.Try.f7))))))))))))))
def f7a11 : RAnn := ⟨[62, 63, 64], []⟩
noncomputable def f7o12 : Array Oper := cO (cR (cR (cL (cL (cR (cL (cR (cR (cR (cR (cR (cR (cR (cB Go.Proofs.Try.f7))))))))))))))
def f7a12 : RAnn := ⟨[66, 67], []⟩
noncomputable def f7o13 : Array Oper := cO (cL (cL (cR (cL (cL (cR (cL (cR (cR (cR (cR (cR (cR (cR (cB Go.Proofs.Try.f7)))))))))))))))
def f7a13 : RAnn := ⟨[65, 68, 69, 70, 71, 72, 73, 74, 75, 76, 77], [(0, { tk := [10], keep := [0] }), (9, { tk := [68], keep := [0] }), (10, { tk := [77], keep := [0] })]⟩
noncomputable def f7o14 : Array Oper := cO (cL (cR (cR (cR (cR (cR (cR (cR (cR (cB Go.Proofs.Try.f7))))))))))
def f7a14 : RAnn := ⟨[1, 2, 3, 10, 11, 65, 78, 79, 80, 81, 82, 83], []⟩
noncomputable def f7o15 : Array Oper := cO (cL (cR (cR (cR (cR (cR (cR (cR (cR (cR (cB Go.Proofs.Try.f7)))))))))))
def f7a15 : RAnn := ⟨[8, 9, 12, 13, 84, 85, 86, 87, 88, 89, 90, 91, 92, 93, 94, 95, 96, 97], []⟩
def f7b0 : Code := (.seq (.seq (.region 11 f7o11 false) (.cond (.tmp 65) .skip (.exit 0))) (.seq (.block 1 (.region 13 f7o13 false)) (.region 12 f7o12 false)))
def f7c : Code := (.seq (.region 0 f7o0 false) (.seq (.seq (.region 1 f7o1 false) (.cond (.tmp 37) (.seq (.region 2 f7o2 false) .ret) .skip)) (.seq (.region 3 f7o3 false) (.seq (.seq (.region 4 f7o4 false) (.cond (.tmp 46) (.seq (.region 5 f7o5 false) .ret) .skip)) (.seq (.region 6 f7o6 false) (.seq (.seq (.region 7 f7o7 false) (.cond (.tmp 56) (.seq (.region 8 f7o8 false) .ret) .skip)) (.seq (.region 9 f7o9 false) (.seq (.seq (.region 10 f7o10 false) (.block 0 (.loop f7b0))) (.seq (.region 14 f7o14 false) (.seq (.region 15 f7o15 false) .ret))))))))))
def f7n : List (Nat × RAnn) := [(0, f7a0), (1, f7a1), (2, f7a2), (3, f7a3), (4, f7a4), (5, f7a5), (6, f7a6), (7, f7a7), (8, f7a8), (9, f7a9), (10, f7a10), (11, f7a11), (12, f7a12), (13, f7a13), (14, f7a14), (15, f7a15)]
def ANNS : List (Nat × FAnn) := [(6, ⟨f6n, [], []⟩), (7, ⟨f7n, [], []⟩), (9, ⟨f9n, [], []⟩), (10, ⟨f10n, [], []⟩), (11, ⟨f11n, [], []⟩), (13, ⟨f13n, [], []⟩), (16, ⟨f16n, [], []⟩), (25, ⟨f25n, [], []⟩), (26, ⟨f26n, [], []⟩), (27, ⟨f27n, [], []⟩), (28, ⟨f28n, [], []⟩), (29, ⟨f29n, [], []⟩), (30, ⟨f30n, [], []⟩), (37, ⟨f37n, [], []⟩), (38, ⟨f38n, [], []⟩), (39, ⟨f39n, [], []⟩), (41, ⟨f41n, [], []⟩), (43, ⟨f43n, [], []⟩), (45, ⟨f45n, [], []⟩), (47, ⟨f47n, [], []⟩), (53, ⟨f53n, [], []⟩), (54, ⟨f54n, [], []⟩), (55, ⟨f55n, [], []⟩), (56, ⟨f56n, [], []⟩), (57, ⟨f57n, [], []⟩), (58, ⟨f58n, [], []⟩), (59, ⟨f59n, [], []⟩), (60, ⟨f60n, [], []⟩), (61, ⟨f61n, [], []⟩), (64, ⟨f64n, [], []⟩), (65, ⟨f65n, [], []⟩), (67, ⟨f67n, [], []⟩), (68, ⟨f68n, [], []⟩), (69, ⟨f69n, [], []⟩), (70, ⟨f70n, [], []⟩), (71, ⟨f71n, [], []⟩), (72, ⟨f72n, [], []⟩), (73, ⟨f73n, [], []⟩), (74, ⟨f74n, [], []⟩), (75, ⟨f75n, [], []⟩), (76, ⟨f76n, [], []⟩), (77, ⟨f77n, [], []⟩)]
def anns : FuncId → FAnn := fun f => (look f ANNS).getD {}
def ext : ExtH := fun f args => bif Nat.beq f 66 then some (extReverseInt args) else bif Nat.beq f 67 && emptyArg args then some (match args with | [v] => some (v, []) | _ => none) else none
noncomputable abbrev EV (k : Nat) : CallH := evF prog anns ext k
noncomputable abbrev RE (k : Nat) (a : RAnn) (o : Array Oper) (d : Bool) (s : St) : Option St := regionE prog (EV k) a o d s
abbrev I (n : Int) : V := .int .i64 n
abbrev sType (l : List T_api_Type) : V := .sl 0 8 (List.map enc_T_api_Type l)
abbrev sField (l : List T_api_Field) : V := .sl 0 3 (List.map enc_T_api_Field l)
abbrev sSearch (l : List T_api_Search) : V := .sl 0 4 (List.map enc_T_api_Search l)
abbrev sI (l : List Int) : V := .sl 0 1 (List.map I l)
def law11_Small_fin : Bool → V × List V := fun r => ((V.bool r), [])
theorem f9r0 (k : Nat) (a0 : T_api_Base) : RE k f9a0 f9o0 false ⟨[(0, (enc_T_api_Base a0))], [], 29⟩ = some ⟨[(1, (V.ptr 1 0 0))], [(1, ⟨false, 4, [(enc_T_api_Base a0)]⟩)], 29⟩ :=
  rE rfl
theorem f9r1 (k : Nat) (a0 : T_api_Base) : RE k f9a1 f9o1 false ⟨[(1, (V.ptr 1 0 0))], [(1, ⟨false, 4, [(enc_T_api_Base a0)]⟩)], 29⟩ = some ⟨[(1, (V.ptr 1 0 0)), (3, (I 0))], [(1, ⟨false, 4, [(enc_T_api_Base a0)]⟩)], 29⟩ :=
  rE rfl
theorem f9r2 (k : Nat) (a0 : T_api_Base) (x3 : Int) : RE k f9a2 f9o2 false ⟨[(1, (V.ptr 1 0 0)), (3, (I x3))], [(1, ⟨false, 4, [(enc_T_api_Base a0)]⟩)], 29⟩ = some ⟨[(1, (V.ptr 1 0 0)), (3, (I x3)), (8, (V.bool (decide (x3 < (a0.fTypes.length : Int)))))], [(1, ⟨false, 4, [(enc_T_api_Base a0)]⟩)], 29⟩ := by
  refine rg ?_
  refine ra 3 3 ⟨[(1, (V.ptr 1 0 0)), (3, (I x3)), (4, (I x3)), (5, (V.ptr 1 0 2)), (6, (sType (a0.fTypes)))], [(1, ⟨false, 4, [(enc_T_api_Base a0)]⟩)], 29⟩ rfl rfl rfl ?_
  refine Eq.trans (reg_pure (x := some ()) (w := fun _ => (I (a0.fTypes.length : Int))) rfl rfl rfl rfl (p_len (e := enc_T_api_Type) rfl rfl rfl rfl rfl rfl Go.Proofs.Try.underlying22)) ?_
  refine Eq.trans some_bind ?_
  exact bind_end rfl
theorem f9r4 (k : Nat) (a0 : T_api_Base) (x3 : Int) : RE k f9a4 f9o4 false ⟨[(1, (V.ptr 1 0 0)), (3, (I x3)), (8, (V.bool true))], [(1, ⟨false, 4, [(enc_T_api_Base a0)]⟩)], 29⟩ = (((idx a0.fTypes x3).bind fun v4 => (some ((decide ((v4.fFields.length : Int) > 10)))))).map (fun (o : Bool) => (⟨[(1, (V.ptr 1 0 0)), (3, (I x3)), (18, (V.bool o))], [(1, ⟨false, 4, [(enc_T_api_Base a0)]⟩)], 29⟩ : St)) := by
  refine rg ?_
  refine ra 3 3 ⟨[(1, (V.ptr 1 0 0)), (3, (I x3)), (8, (V.bool true)), (11, (V.ptr 1 0 2)), (12, (sType (a0.fTypes))), (13, (I x3))], [(1, ⟨false, 4, [(enc_T_api_Base a0)]⟩)], 29⟩ rfl rfl rfl ?_
  refine Eq.trans (reg_pure (x := (idx a0.fTypes x3)) (w := fun v4 => (V.pro (enc_T_api_Type v4))) rfl rfl rfl rfl (p_index (e := enc_T_api_Type) rfl rfl rfl Go.Proofs.Try.underlying22 rfl (by decide))) ?_
  refine bindE (fun v4 => ?_)
  refine ba 2 6 ⟨[(1, (V.ptr 1 0 0)), (3, (I x3)), (8, (V.bool true)), (11, (V.ptr 1 0 2)), (12, (sType (a0.fTypes))), (13, (I x3)), (14, (V.pro (enc_T_api_Type v4))), (15, (V.pro (sField (v4.fFields)))), (16, (sField (v4.fFields)))], [(1, ⟨false, 4, [(enc_T_api_Base a0)]⟩)], 29⟩ rfl rfl rfl ?_
  refine Eq.trans (reg_pure (x := some ()) (w := fun _ => (I (v4.fFields.length : Int))) rfl rfl rfl rfl (p_len (e := enc_T_api_Field) rfl rfl rfl rfl rfl rfl Go.Proofs.Try.underlying53)) ?_
  refine Eq.trans some_bind ?_
  exact bind_end rfl
theorem f9r5 (k : Nat) (a0 : T_api_Base) (x3 : Int) : RE k f9a5 f9o5 false ⟨[(1, (V.ptr 1 0 0)), (3, (I x3)), (18, (V.bool true))], [(1, ⟨false, 4, [(enc_T_api_Base a0)]⟩)], 29⟩ = some ⟨[(2, (V.bool false))], [], 29⟩ :=
  rE rfl
theorem f9r3 (k : Nat) (a0 : T_api_Base) (x3 : Int) : RE k f9a3 f9o3 false ⟨[(1, (V.ptr 1 0 0)), (3, (I x3)), (18, (V.bool false))], [(1, ⟨false, 4, [(enc_T_api_Base a0)]⟩)], 29⟩ = some ⟨[(1, (V.ptr 1 0 0)), (3, (I (Go.IntKind.wrap .i64 (x3 + 1))))], [(1, ⟨false, 4, [(enc_T_api_Base a0)]⟩)], 29⟩ :=
  rE rfl
theorem law11_Small_L1_ok (k : Nat) (a0 : T_api_Base)  (K0 : Int → Option Bool) (Kst : X × St → Option (V × List V)) (hK0 : ∀ (y0 : Int), Kst (X.exit 0, ⟨[(1, (V.ptr 1 0 0)), (3, (I y0)), (8, (V.bool false))], [(1, ⟨false, 4, [(enc_T_api_Base a0)]⟩)], 29⟩) = (K0 y0).map law11_Small_fin) (hret : ∀ s, Kst (X.ret, s) = endK prog 29 [(enc_T_api_Base a0)] [] [.tmp 2] (X.ret, s)) :
    ∀ (m : Nat) (x3 : Int), (iter (exec prog (EV k) f9n k f9b0) m ⟨[(1, (V.ptr 1 0 0)), (3, (I x3))], [(1, ⟨false, 4, [(enc_T_api_Base a0)]⟩)], 29⟩).bind Kst = (law11_Small_L1 a0 K0 m x3).map law11_Small_fin := by
  intro m
  induction m with
  | zero => intros; rfl
  | succ m ih =>
    intro x3
    unfold law11_Small_L1
    refine Eq.trans k_round ?_
    refine Eq.trans k_assoc ?_
    refine Eq.trans (k_region0 rfl (f9r2 k a0 x3)) ?_
    refine Eq.trans (k_cond (t := (decide (x3 < (a0.fTypes.length : Int)))) rfl) ?_
    refine bifE2 (fun hc => ?_) fun hc => ?_
    · rw [hc]
      refine Eq.trans k_skip ?_
      refine Eq.trans k_block ?_
      refine Eq.trans (k_region rfl (f9r4 k a0 x3)) ?_
      refine bindE (fun o5 => ?_)
      refine Eq.trans (k_lcond (t := o5) rfl) ?_
      refine bifE2 (fun hc => ?_) fun hc => ?_
      · rw [hc]
        refine Eq.trans (k_region0 rfl (f9r5 k a0 x3)) ?_
        refine Eq.trans k_lret ?_
        refine Eq.trans blk_ret ?_
        refine Eq.trans loop_ret ?_
        refine Eq.trans (hret _) ?_
        rfl
      · rw [hc]
        refine Eq.trans k_lskip ?_
        refine Eq.trans blk_normal ?_
        refine Eq.trans (k_lregion0 rfl (f9r3 k a0 x3)) ?_
        refine Eq.trans loop_normal ?_
        exact ih (Go.IntKind.wrap .i64 (x3 + 1))
    · rw [hc]
      refine Eq.trans k_exit ?_
      refine Eq.trans loop_exit ?_
      exact hK0 x3
theorem f9r6 (k : Nat) (a0 : T_api_Base) (y6 : Int) : RE k f9a6 f9o6 false ⟨[(1, (V.ptr 1 0 0)), (3, (I y6)), (8, (V.bool false))], [(1, ⟨false, 4, [(enc_T_api_Base a0)]⟩)], 29⟩ = ((bif (decide ((a0.fTypes.length : Int) ≤ 12)) then (some ((decide ((a0.fIndexes.length : Int) ≤ 6)))) else (some (false)))).map (fun (o : Bool) => (⟨[(2, (V.bool o))], [], 29⟩ : St)) := by
  refine rg ?_
  refine ra 2 2 ⟨[(1, (V.ptr 1 0 0)), (3, (I y6)), (8, (V.bool false)), (19, (V.ptr 1 0 2)), (20, (sType (a0.fTypes)))], [(1, ⟨false, 4, [(enc_T_api_Base a0)]⟩)], 29⟩ rfl rfl rfl ?_
  refine Eq.trans (reg_pure (x := some ()) (w := fun _ => (I (a0.fTypes.length : Int))) rfl rfl rfl rfl (p_len (e := enc_T_api_Type) rfl rfl rfl rfl rfl rfl Go.Proofs.Try.underlying22)) ?_
  refine Eq.trans some_bind ?_
  refine ba 2 5 ⟨[(1, (V.ptr 1 0 0)), (3, (I y6)), (8, (V.bool false)), (19, (V.ptr 1 0 2)), (20, (sType (a0.fTypes))), (21, (I (a0.fTypes.length : Int))), (22, (V.bool (decide ((a0.fTypes.length : Int) ≤ 12)))), (23, (V.bool (decide ((a0.fTypes.length : Int) ≤ 12))))], [(1, ⟨false, 4, [(enc_T_api_Base a0)]⟩)], 29⟩ rfl rfl rfl ?_
  refine bifE (c := (decide ((a0.fTypes.length : Int) ≤ 12))) (fun hc => ?_) fun hc => ?_
  · rw [hc]
    refine ra 2 7 ⟨[(1, (V.ptr 1 0 0)), (3, (I y6)), (8, (V.bool false)), (19, (V.ptr 1 0 2)), (20, (sType (a0.fTypes))), (21, (I (a0.fTypes.length : Int))), (22, (V.bool true)), (23, (V.bool true)), (24, (V.ptr 1 0 3)), (25, (sSearch (a0.fIndexes)))], [(1, ⟨false, 4, [(enc_T_api_Base a0)]⟩)], 29⟩ rfl rfl rfl ?_
    refine Eq.trans (reg_pure (x := some ()) (w := fun _ => (I (a0.fIndexes.length : Int))) rfl rfl rfl rfl (p_len (e := enc_T_api_Search) rfl rfl rfl rfl rfl rfl Go.Proofs.Try.underlying23)) ?_
    refine Eq.trans some_bind ?_
    exact bind_end rfl
  · rw [hc]
    exact reg_end rfl
theorem law11_Small_ok (k : Nat) (a0 : T_api_Base) : EV k 9 [(enc_T_api_Base a0)] = (law11_Small k a0).map law11_Small_fin := by
  cases k with
  | zero => rfl
  | succ k =>
    unfold law11_Small
    refine Eq.trans (evF_succ (c := f9c) (N := 29) (regs := f9n) rfl Go.Proofs.Try.func9 rfl (by decide) rfl rfl rfl) ?_
    refine Eq.trans (k_region0 rfl (f9r0 k a0)) ?_
    refine Eq.trans k_assoc ?_
    refine Eq.trans (k_region0 rfl (f9r1 k a0)) ?_
    refine Eq.trans k_block ?_
    refine Eq.trans k_loop ?_
    refine law11_Small_L1_ok k a0 _ _ ?h_law11_Small_L1_0 ?hr_law11_Small_L1 k 0
    · intro y6
      refine Eq.trans blk_exit ?_
      refine Eq.trans (k_region rfl (f9r6 k a0 y6)) ?_
      refine bindE (fun o7 => ?_)
      refine Eq.trans k_lret ?_
      rfl
    · intro s; exact rfl
def law11_shop_fin : T_api_Base → V × List V := fun r => ((enc_T_api_Base r), [])
theorem f37r0 (k : Nat)  : RE k f37a0 f37o0 false ⟨[], [], 11⟩ = some ⟨[(0, (V.ptr 0 0 0))], [(0, ⟨false, 4, [(V.agg [(V.str []), (I 0), (V.sl 2 8 (List.map enc_T_api_Type ([] : List T_api_Type))), (V.sl 2 4 (List.map enc_T_api_Search ([] : List T_api_Search)))])]⟩)], 11⟩ :=
  rE rfl
theorem f37r1 (k : Nat)  : RE k f37a1 f37o1 false ⟨[(0, (V.ptr 0 0 0))], [(0, ⟨false, 4, [(V.agg [(V.str []), (I 0), (V.sl 2 8 (List.map enc_T_api_Type ([] : List T_api_Type))), (V.sl 2 4 (List.map enc_T_api_Search ([] : List T_api_Search)))])]⟩)], 11⟩ = some ⟨[(0, (V.ptr 0 0 0))], [(0, ⟨false, 4, [(enc_T_api_Base ({ fName := ([83, 72, 79, 80] : Str), fKind := 4, fTypes := ([({ fName := ([67, 85, 83, 84] : Str), fParent := (-1), fMin := 4, fSize := 10, fFields := ([({ fName := ([67, 85, 83, 84, 78, 79] : Str), fAt := 0, fBytes := 4 } : T_api_Field)] : List T_api_Field), fKey := 0, fUnique := true, fLast := false } : T_api_Type), ({ fName := ([79, 82, 68, 69, 82] : Str), fParent := 0, fMin := 4, fSize := 12, fFields := ([({ fName := ([79, 82, 68, 78, 79] : Str), fAt := 0, fBytes := 4 } : T_api_Field)] : List T_api_Field), fKey := 0, fUnique := false, fLast := false } : T_api_Type), ({ fName := ([73, 84, 69, 77] : Str), fParent := 1, fMin := 1, fSize := 8, fFields := ([] : List T_api_Field), fKey := (-1), fUnique := false, fLast := true } : T_api_Type), ({ fName := ([80, 72, 79, 78, 69] : Str), fParent := 0, fMin := 1, fSize := 8, fFields := ([] : List T_api_Field), fKey := (-1), fUnique := false, fLast := false } : T_api_Type)] : List T_api_Type), fIndexes := ([] : List T_api_Search) } : T_api_Base))]⟩)], 11⟩ :=
  rE rfl
theorem law11_shop_ok (k : Nat)  : EV k 37 [] = (law11_shop k).map law11_shop_fin := by
  cases k with
  | zero => rfl
  | succ k =>
    unfold law11_shop
    refine Eq.trans (evF_succ (c := f37c) (N := 11) (regs := f37n) rfl Go.Proofs.Try.func37 rfl (by decide) rfl rfl rfl) ?_
    refine Eq.trans (k_region0 rfl (f37r0 k)) ?_
    refine Eq.trans (k_region0 rfl (f37r1 k)) ?_
    refine Eq.trans k_lret ?_
    rfl
def dbd_IsName_fin : Bool → V × List V := fun r => ((V.bool r), [])
theorem f56r0 (k : Nat) (a0 : Str) : RE k f56a0 f56o0 false ⟨[(0, (V.str a0))], [], 47⟩ = some ⟨[(0, (V.str a0))], [], 47⟩ :=
  rE rfl
theorem f56r1 (k : Nat) (a0 : Str) : RE k f56a1 f56o1 false ⟨[(0, (V.str a0))], [], 47⟩ = some ⟨[(0, (V.str a0)), (6, (I (a0.length : Int))), (7, (I 0))], [], 47⟩ :=
  rE rfl
theorem f56r2 (k : Nat) (a0 : Str) (x7 : Int) : RE k f56a2 f56o2 false ⟨[(0, (V.str a0)), (6, (I (a0.length : Int))), (7, (I x7))], [], 47⟩ = some ⟨[(0, (V.str a0)), (6, (I (a0.length : Int))), (7, (I x7)), (8, (V.bool (decide (x7 < (a0.length : Int)))))], [], 47⟩ :=
  rE rfl
theorem f56r3 (k : Nat) (a0 : Str) (x7 : Int) : RE k f56a3 f56o3 false ⟨[(0, (V.str a0)), (6, (I (a0.length : Int))), (7, (I x7)), (8, (V.bool true))], [], 47⟩ = some ⟨[(0, (V.str a0)), (3, (I x7)), (6, (I (a0.length : Int))), (7, (I x7))], [], 47⟩ :=
  rE rfl
theorem f56r4 (k : Nat) (a0 : Str) (x7 : Int) : RE k f56a4 f56o4 false ⟨[(0, (V.str a0)), (3, (I x7)), (6, (I (a0.length : Int))), (7, (I x7))], [], 47⟩ = (((idxS a0 x7).bind fun v8 => (bif (decide (v8 ≥ 65)) then ((idxS a0 x7).bind fun v9 => (some ((decide (v9 ≤ 90))))) else (some (false))))).map (fun (o : Bool) => (⟨[(0, (V.str a0)), (3, (I x7)), (4, (V.bool o)), (6, (I (a0.length : Int))), (7, (I x7))], [], 47⟩ : St)) := by
  refine rg ?_
  refine ra 2 2 ⟨[(0, (V.str a0)), (3, (I x7)), (6, (I (a0.length : Int))), (7, (I x7)), (10, (V.str a0)), (11, (I x7))], [], 47⟩ rfl rfl rfl ?_
  refine Eq.trans (reg_pure (x := (idxS a0 x7)) (w := fun v8 => (V.int .u8 v8)) rfl rfl rfl rfl (p_indexS rfl rfl rfl Go.Proofs.Try.underlying9)) ?_
  refine bindE (fun v8 => ?_)
  refine ba 2 5 ⟨[(0, (V.str a0)), (3, (I x7)), (6, (I (a0.length : Int))), (7, (I x7)), (10, (V.str a0)), (11, (I x7)), (12, (V.int .u8 v8)), (13, (V.bool (decide (v8 ≥ 65)))), (14, (V.bool (decide (v8 ≥ 65))))], [], 47⟩ rfl rfl rfl ?_
  refine bifE (c := (decide (v8 ≥ 65))) (fun hc => ?_) fun hc => ?_
  · rw [hc]
    refine ra 2 7 ⟨[(0, (V.str a0)), (3, (I x7)), (6, (I (a0.length : Int))), (7, (I x7)), (10, (V.str a0)), (11, (I x7)), (12, (V.int .u8 v8)), (13, (V.bool true)), (14, (V.bool true)), (15, (V.str a0)), (16, (I x7))], [], 47⟩ rfl rfl rfl ?_
    refine Eq.trans (reg_pure (x := (idxS a0 x7)) (w := fun v9 => (V.int .u8 v9)) rfl rfl rfl rfl (p_indexS rfl rfl rfl Go.Proofs.Try.underlying9)) ?_
    refine bindE (fun v9 => ?_)
    exact bind_end rfl
  · rw [hc]
    exact reg_end rfl
theorem f56r5 (k : Nat) (a0 : Str) (x7 : Int) (o10 : Bool) : RE k f56a5 f56o5 false ⟨[(0, (V.str a0)), (3, (I x7)), (4, (V.bool o10)), (6, (I (a0.length : Int))), (7, (I x7))], [], 47⟩ = ((bif (!o10) then (bif (x7 == 0) then (some (true)) else ((idxS a0 x7).bind fun v11 => (bif (decide (v11 < 48)) then (some (true)) else ((idxS a0 x7).bind fun v12 => (some ((decide (v12 > 57)))))))) else (some (false)))).map (fun (o : Bool) => (⟨[(0, (V.str a0)), (6, (I (a0.length : Int))), (7, (I x7)), (37, (V.bool o))], [], 47⟩ : St)) := by
  refine rg ?_
  refine ra 3 3 ⟨[(0, (V.str a0)), (3, (I x7)), (4, (V.bool o10)), (6, (I (a0.length : Int))), (7, (I x7)), (20, (V.bool o10)), (21, (V.bool (!o10))), (22, (V.bool (!o10)))], [], 47⟩ rfl rfl rfl ?_
  refine bifE (c := (!o10)) (fun hc => ?_) fun hc => ?_
  · rw [hc]
    refine ra 3 6 ⟨[(0, (V.str a0)), (3, (I x7)), (4, (V.bool o10)), (6, (I (a0.length : Int))), (7, (I x7)), (20, (V.bool o10)), (21, (V.bool true)), (22, (V.bool true)), (23, (I x7)), (24, (V.bool (x7 == 0))), (25, (V.bool (x7 == 0)))], [], 47⟩ rfl rfl rfl ?_
    refine bifE (c := (x7 == 0)) (fun hc => ?_) fun hc => ?_
    · rw [hc]
      exact reg_end rfl
    · rw [hc]
      refine ra 2 8 ⟨[(0, (V.str a0)), (3, (I x7)), (4, (V.bool o10)), (6, (I (a0.length : Int))), (7, (I x7)), (20, (V.bool o10)), (21, (V.bool true)), (22, (V.bool true)), (23, (I x7)), (24, (V.bool false)), (25, (V.bool false)), (26, (V.str a0)), (27, (I x7))], [], 47⟩ rfl rfl rfl ?_
      refine Eq.trans (reg_pure (x := (idxS a0 x7)) (w := fun v11 => (V.int .u8 v11)) rfl rfl rfl rfl (p_indexS rfl rfl rfl Go.Proofs.Try.underlying9)) ?_
      refine bindE (fun v11 => ?_)
      refine ba 3 12 ⟨[(0, (V.str a0)), (3, (I x7)), (4, (V.bool o10)), (6, (I (a0.length : Int))), (7, (I x7)), (20, (V.bool o10)), (21, (V.bool true)), (22, (V.bool true)), (23, (I x7)), (24, (V.bool false)), (25, (V.bool false)), (26, (V.str a0)), (27, (I x7)), (28, (V.int .u8 v11)), (29, (V.bool (decide (v11 < 48)))), (30, (V.bool (decide (v11 < 48)))), (31, (V.bool (decide (v11 < 48))))], [], 47⟩ rfl rfl rfl ?_
      refine bifE (c := (decide (v11 < 48))) (fun hc => ?_) fun hc => ?_
      · rw [hc]
        exact reg_end rfl
      · rw [hc]
        refine ra 2 14 ⟨[(0, (V.str a0)), (3, (I x7)), (4, (V.bool o10)), (6, (I (a0.length : Int))), (7, (I x7)), (20, (V.bool o10)), (21, (V.bool true)), (22, (V.bool true)), (23, (I x7)), (24, (V.bool false)), (25, (V.bool false)), (26, (V.str a0)), (27, (I x7)), (28, (V.int .u8 v11)), (29, (V.bool false)), (30, (V.bool false)), (31, (V.bool false)), (32, (V.str a0)), (33, (I x7))], [], 47⟩ rfl rfl rfl ?_
        refine Eq.trans (reg_pure (x := (idxS a0 x7)) (w := fun v12 => (V.int .u8 v12)) rfl rfl rfl rfl (p_indexS rfl rfl rfl Go.Proofs.Try.underlying9)) ?_
        refine bindE (fun v12 => ?_)
        exact bind_end rfl
  · rw [hc]
    exact reg_end rfl
theorem f56r6 (k : Nat) (a0 : Str) (x7 : Int) : RE k f56a6 f56o6 false ⟨[(0, (V.str a0)), (6, (I (a0.length : Int))), (7, (I x7)), (37, (V.bool true))], [], 47⟩ = some ⟨[(2, (V.bool false))], [], 47⟩ :=
  rE rfl
theorem f56r7 (k : Nat) (a0 : Str) (x7 : Int) : RE k f56a7 f56o7 false ⟨[(0, (V.str a0)), (6, (I (a0.length : Int))), (7, (I x7)), (37, (V.bool false))], [], 47⟩ = some ⟨[(0, (V.str a0)), (6, (I (a0.length : Int))), (7, (I (Go.IntKind.wrap .i64 (x7 + 1))))], [], 47⟩ :=
  rE rfl
theorem dbd_IsName_L1_ok (k : Nat) (a0 : Str)  (K0 : Int → Option Bool) (Kst : X × St → Option (V × List V)) (hK0 : ∀ (y0 : Int), Kst (X.exit 0, ⟨[(0, (V.str a0)), (6, (I (a0.length : Int))), (7, (I y0)), (8, (V.bool false))], [], 47⟩) = (K0 y0).map dbd_IsName_fin) (hret : ∀ s, Kst (X.ret, s) = endK prog 47 [(V.str a0)] [] [.tmp 2] (X.ret, s)) :
    ∀ (m : Nat) (x7 : Int), (iter (exec prog (EV k) f56n k f56b0) m ⟨[(0, (V.str a0)), (6, (I (a0.length : Int))), (7, (I x7))], [], 47⟩).bind Kst = (dbd_IsName_L1 a0 K0 m x7).map dbd_IsName_fin := by
  intro m
  induction m with
  | zero => intros; rfl
  | succ m ih =>
    intro x7
    unfold dbd_IsName_L1
    refine Eq.trans k_round ?_
    refine Eq.trans (k_region0 rfl (f56r2 k a0 x7)) ?_
    refine Eq.trans (k_cond (t := (decide (x7 < (a0.length : Int)))) rfl) ?_
    refine bifE2 (fun hc => ?_) fun hc => ?_
    · rw [hc]
      refine Eq.trans k_skip ?_
      refine Eq.trans k_block ?_
      refine Eq.trans (k_region0 rfl (f56r3 k a0 x7)) ?_
      refine Eq.trans (k_region rfl (f56r4 k a0 x7)) ?_
      refine bindE (fun o10 => ?_)
      refine Eq.trans (k_region rfl (f56r5 k a0 x7 o10)) ?_
      refine bindE (fun o13 => ?_)
      refine Eq.trans (k_lcond (t := o13) rfl) ?_
      refine bifE2 (fun hc => ?_) fun hc => ?_
      · rw [hc]
        refine Eq.trans (k_region0 rfl (f56r6 k a0 x7)) ?_
        refine Eq.trans k_lret ?_
        refine Eq.trans blk_ret ?_
        refine Eq.trans loop_ret ?_
        refine Eq.trans (hret _) ?_
        rfl
      · rw [hc]
        refine Eq.trans k_lskip ?_
        refine Eq.trans blk_normal ?_
        refine Eq.trans (k_lregion0 rfl (f56r7 k a0 x7)) ?_
        refine Eq.trans loop_normal ?_
        exact ih (Go.IntKind.wrap .i64 (x7 + 1))
    · rw [hc]
      refine Eq.trans k_exit ?_
      refine Eq.trans loop_exit ?_
      exact hK0 x7
theorem f56r8 (k : Nat) (a0 : Str) (y14 : Int) : RE k f56a8 f56o8 false ⟨[(0, (V.str a0)), (6, (I (a0.length : Int))), (7, (I y14)), (8, (V.bool false))], [], 47⟩ = ((bif (decide ((a0.length : Int) ≥ 1)) then (some ((decide ((a0.length : Int) ≤ 8)))) else (some (false)))).map (fun (o : Bool) => (⟨[(2, (V.bool o))], [], 47⟩ : St)) := by
  refine rg ?_
  refine ra 4 4 ⟨[(0, (V.str a0)), (6, (I (a0.length : Int))), (7, (I y14)), (8, (V.bool false)), (39, (V.str a0)), (40, (I (a0.length : Int))), (41, (V.bool (decide ((a0.length : Int) ≥ 1)))), (42, (V.bool (decide ((a0.length : Int) ≥ 1))))], [], 47⟩ rfl rfl rfl ?_
  refine bifE (c := (decide ((a0.length : Int) ≥ 1))) (fun hc => ?_) fun hc => ?_
  · rw [hc]
    exact reg_end rfl
  · rw [hc]
    exact reg_end rfl
theorem dbd_IsName_ok (k : Nat) (a0 : Str) : EV k 56 [(V.str a0)] = (dbd_IsName k a0).map dbd_IsName_fin := by
  cases k with
  | zero => rfl
  | succ k =>
    unfold dbd_IsName
    refine Eq.trans (evF_succ (c := f56c) (N := 47) (regs := f56n) rfl Go.Proofs.Try.func56 rfl (by decide) rfl rfl rfl) ?_
    refine Eq.trans (k_region0 rfl (f56r0 k a0)) ?_
    refine Eq.trans k_assoc ?_
    refine Eq.trans (k_region0 rfl (f56r1 k a0)) ?_
    refine Eq.trans k_block ?_
    refine Eq.trans k_loop ?_
    refine dbd_IsName_L1_ok k a0 _ _ ?h_dbd_IsName_L1_0 ?hr_dbd_IsName_L1 k 0
    · intro y14
      refine Eq.trans blk_exit ?_
      refine Eq.trans (k_region rfl (f56r8 k a0 y14)) ?_
      refine bindE (fun o15 => ?_)
      refine Eq.trans k_lret ?_
      rfl
    · intro s; exact rfl
def slices_IndexFunc_Field_fin : Int → V × List V := fun r => ((I r), [])
theorem f47r0 (k : Nat) (a0 : (List T_api_Field)) (a1 : Nat → T_api_Field → Option Bool) (a1_fid : Go.FuncId) (a1_c0 : V) (a1_hok : ∀ j x0, EV j a1_fid [(enc_T_api_Field x0), V.pro a1_c0] = (a1 j x0).map fun b => ((V.bool b), [])) : RE k f47a0 f47o0 false ⟨[(0, (sField a0)), (1, (V.fn a1_fid [] [V.pro a1_c0]))], [], 19⟩ = some ⟨[(0, (sField a0)), (1, (V.fn a1_fid [] [V.pro a1_c0]))], [], 19⟩ :=
  rE rfl
theorem f47r1 (k : Nat) (a0 : (List T_api_Field)) (a1 : Nat → T_api_Field → Option Bool) (a1_fid : Go.FuncId) (a1_c0 : V) (a1_hok : ∀ j x0, EV j a1_fid [(enc_T_api_Field x0), V.pro a1_c0] = (a1 j x0).map fun b => ((V.bool b), [])) : RE k f47a1 f47o1 false ⟨[(0, (sField a0)), (1, (V.fn a1_fid [] [V.pro a1_c0]))], [], 19⟩ = some ⟨[(0, (sField a0)), (1, (V.fn a1_fid [] [V.pro a1_c0])), (7, (I (a0.length : Int))), (8, (I 0))], [], 19⟩ := by
  refine rg ?_
  refine ra 1 1 ⟨[(0, (sField a0)), (1, (V.fn a1_fid [] [V.pro a1_c0])), (6, (sField a0))], [], 19⟩ rfl rfl rfl ?_
  refine Eq.trans (reg_pure (x := some ()) (w := fun _ => (I (a0.length : Int))) rfl rfl rfl rfl (p_len (e := enc_T_api_Field) rfl rfl rfl rfl rfl rfl Go.Proofs.Try.underlying53)) ?_
  refine Eq.trans some_bind ?_
  exact bind_end rfl
theorem f47r2 (k : Nat) (a0 : (List T_api_Field)) (x4 : Int) (a1 : Nat → T_api_Field → Option Bool) (a1_fid : Go.FuncId) (a1_c0 : V) (a1_hok : ∀ j x0, EV j a1_fid [(enc_T_api_Field x0), V.pro a1_c0] = (a1 j x0).map fun b => ((V.bool b), [])) : RE k f47a2 f47o2 false ⟨[(0, (sField a0)), (1, (V.fn a1_fid [] [V.pro a1_c0])), (7, (I (a0.length : Int))), (8, (I x4))], [], 19⟩ = some ⟨[(0, (sField a0)), (1, (V.fn a1_fid [] [V.pro a1_c0])), (7, (I (a0.length : Int))), (8, (I x4)), (9, (V.bool (decide (x4 < (a0.length : Int)))))], [], 19⟩ :=
  rE rfl
theorem f47r3 (k : Nat) (a0 : (List T_api_Field)) (x4 : Int) (a1 : Nat → T_api_Field → Option Bool) (a1_fid : Go.FuncId) (a1_c0 : V) (a1_hok : ∀ j x0, EV j a1_fid [(enc_T_api_Field x0), V.pro a1_c0] = (a1 j x0).map fun b => ((V.bool b), [])) : RE k f47a3 f47o3 false ⟨[(0, (sField a0)), (1, (V.fn a1_fid [] [V.pro a1_c0])), (7, (I (a0.length : Int))), (8, (I x4)), (9, (V.bool true))], [], 19⟩ = some ⟨[(0, (sField a0)), (1, (V.fn a1_fid [] [V.pro a1_c0])), (5, (I x4)), (7, (I (a0.length : Int))), (8, (I x4))], [], 19⟩ :=
  rE rfl
theorem f47r4 (k : Nat) (a0 : (List T_api_Field)) (x4 : Int) (a1 : Nat → T_api_Field → Option Bool) (a1_fid : Go.FuncId) (a1_c0 : V) (a1_hok : ∀ j x0, EV j a1_fid [(enc_T_api_Field x0), V.pro a1_c0] = (a1 j x0).map fun b => ((V.bool b), [])) : RE k f47a4 f47o4 false ⟨[(0, (sField a0)), (1, (V.fn a1_fid [] [V.pro a1_c0])), (5, (I x4)), (7, (I (a0.length : Int))), (8, (I x4))], [], 19⟩ = (((idx a0 x4).bind fun v5 => (a1 k v5))).map (fun (o : Bool) => (⟨[(0, (sField a0)), (1, (V.fn a1_fid [] [V.pro a1_c0])), (5, (I x4)), (7, (I (a0.length : Int))), (8, (I x4)), (16, (V.bool o))], [], 19⟩ : St)) := by
  refine rg ?_
  refine ra 3 3 ⟨[(0, (sField a0)), (1, (V.fn a1_fid [] [V.pro a1_c0])), (5, (I x4)), (7, (I (a0.length : Int))), (8, (I x4)), (11, (V.fn a1_fid [] [V.pro a1_c0])), (12, (sField a0)), (13, (I x4))], [], 19⟩ rfl rfl rfl ?_
  refine Eq.trans (reg_pure (x := (idx a0 x4)) (w := fun v5 => (V.pro (enc_T_api_Field v5))) rfl rfl rfl rfl (p_index (e := enc_T_api_Field) rfl rfl rfl Go.Proofs.Try.underlying53 rfl (by decide))) ?_
  refine bindE (fun v5 => ?_)
  refine ba 1 5 ⟨[(0, (sField a0)), (1, (V.fn a1_fid [] [V.pro a1_c0])), (5, (I x4)), (7, (I (a0.length : Int))), (8, (I x4)), (11, (V.fn a1_fid [] [V.pro a1_c0])), (12, (sField a0)), (13, (I x4)), (14, (V.pro (enc_T_api_Field v5))), (15, (enc_T_api_Field v5))], [], 19⟩ rfl rfl rfl ?_
  refine Eq.trans (reg_pure (x := (a1 k v5)) (w := fun v6 => (V.bool v6)) rfl rfl rfl rfl (p_call rfl rfl rfl rfl rfl (a1_hok k v5) (.inl rfl))) ?_
  refine bind_self (fun v6 => ?_)
  exact bind_end rfl
theorem f47r5 (k : Nat) (a0 : (List T_api_Field)) (x4 : Int) (a1 : Nat → T_api_Field → Option Bool) (a1_fid : Go.FuncId) (a1_c0 : V) (a1_hok : ∀ j x0, EV j a1_fid [(enc_T_api_Field x0), V.pro a1_c0] = (a1 j x0).map fun b => ((V.bool b), [])) : RE k f47a5 f47o5 false ⟨[(0, (sField a0)), (1, (V.fn a1_fid [] [V.pro a1_c0])), (5, (I x4)), (7, (I (a0.length : Int))), (8, (I x4)), (16, (V.bool true))], [], 19⟩ = some ⟨[(4, (I x4))], [], 19⟩ :=
  rE rfl
theorem f47r6 (k : Nat) (a0 : (List T_api_Field)) (x4 : Int) (a1 : Nat → T_api_Field → Option Bool) (a1_fid : Go.FuncId) (a1_c0 : V) (a1_hok : ∀ j x0, EV j a1_fid [(enc_T_api_Field x0), V.pro a1_c0] = (a1 j x0).map fun b => ((V.bool b), [])) : RE k f47a6 f47o6 false ⟨[(0, (sField a0)), (1, (V.fn a1_fid [] [V.pro a1_c0])), (5, (I x4)), (7, (I (a0.length : Int))), (8, (I x4)), (16, (V.bool false))], [], 19⟩ = some ⟨[(0, (sField a0)), (1, (V.fn a1_fid [] [V.pro a1_c0])), (7, (I (a0.length : Int))), (8, (I (Go.IntKind.wrap .i64 (x4 + 1))))], [], 19⟩ :=
  rE rfl
theorem slices_IndexFunc_Field_L1_ok (k : Nat) (a0 : (List T_api_Field)) (a1 : Nat → T_api_Field → Option Bool) (a1_fid : Go.FuncId) (a1_c0 : V) (a1_hok : ∀ j x0, EV j a1_fid [(enc_T_api_Field x0), V.pro a1_c0] = (a1 j x0).map fun b => ((V.bool b), [])) (K0 : Int → Option Int) (Kst : X × St → Option (V × List V)) (hK0 : ∀ (y0 : Int), Kst (X.exit 0, ⟨[(0, (sField a0)), (1, (V.fn a1_fid [] [V.pro a1_c0])), (7, (I (a0.length : Int))), (8, (I y0)), (9, (V.bool false))], [], 19⟩) = (K0 y0).map slices_IndexFunc_Field_fin) (hret : ∀ s, Kst (X.ret, s) = endK prog 19 [(sField a0), (V.fn a1_fid [] [V.pro a1_c0])] [] [.tmp 4] (X.ret, s)) :
    ∀ (m : Nat) (x4 : Int), (iter (exec prog (EV k) f47n k f47b0) m ⟨[(0, (sField a0)), (1, (V.fn a1_fid [] [V.pro a1_c0])), (7, (I (a0.length : Int))), (8, (I x4))], [], 19⟩).bind Kst = (slices_IndexFunc_Field_L1 k a0 a1 K0 m x4).map slices_IndexFunc_Field_fin := by
  intro m
  induction m with
  | zero => intros; rfl
  | succ m ih =>
    intro x4
    unfold slices_IndexFunc_Field_L1
    refine Eq.trans k_round ?_
    refine Eq.trans (k_region0 rfl (f47r2 k a0 x4 a1 a1_fid a1_c0 a1_hok)) ?_
    refine Eq.trans (k_cond (t := (decide (x4 < (a0.length : Int)))) rfl) ?_
    refine bifE2 (fun hc => ?_) fun hc => ?_
    · rw [hc]
      refine Eq.trans k_skip ?_
      refine Eq.trans k_block ?_
      refine Eq.trans (k_region0 rfl (f47r3 k a0 x4 a1 a1_fid a1_c0 a1_hok)) ?_
      refine Eq.trans (k_region rfl (f47r4 k a0 x4 a1 a1_fid a1_c0 a1_hok)) ?_
      refine bindE (fun o7 => ?_)
      refine Eq.trans (k_lcond (t := o7) rfl) ?_
      refine bifE2 (fun hc => ?_) fun hc => ?_
      · rw [hc]
        refine Eq.trans (k_region0 rfl (f47r5 k a0 x4 a1 a1_fid a1_c0 a1_hok)) ?_
        refine Eq.trans k_lret ?_
        refine Eq.trans blk_ret ?_
        refine Eq.trans loop_ret ?_
        refine Eq.trans (hret _) ?_
        rfl
      · rw [hc]
        refine Eq.trans k_lskip ?_
        refine Eq.trans blk_normal ?_
        refine Eq.trans (k_lregion0 rfl (f47r6 k a0 x4 a1 a1_fid a1_c0 a1_hok)) ?_
        refine Eq.trans loop_normal ?_
        exact ih (Go.IntKind.wrap .i64 (x4 + 1))
    · rw [hc]
      refine Eq.trans k_exit ?_
      refine Eq.trans loop_exit ?_
      exact hK0 x4
theorem f47r7 (k : Nat) (a0 : (List T_api_Field)) (y8 : Int) (a1 : Nat → T_api_Field → Option Bool) (a1_fid : Go.FuncId) (a1_c0 : V) (a1_hok : ∀ j x0, EV j a1_fid [(enc_T_api_Field x0), V.pro a1_c0] = (a1 j x0).map fun b => ((V.bool b), [])) : RE k f47a7 f47o7 false ⟨[(0, (sField a0)), (1, (V.fn a1_fid [] [V.pro a1_c0])), (7, (I (a0.length : Int))), (8, (I y8)), (9, (V.bool false))], [], 19⟩ = some ⟨[(4, (I (-1)))], [], 19⟩ :=
  rE rfl
theorem slices_IndexFunc_Field_ok (k : Nat) (a0 : (List T_api_Field)) (a1 : Nat → T_api_Field → Option Bool) (a1_fid : Go.FuncId) (a1_c0 : V) (a1_hok : ∀ j x0, EV j a1_fid [(enc_T_api_Field x0), V.pro a1_c0] = (a1 j x0).map fun b => ((V.bool b), [])) : EV k 47 [(sField a0), (V.fn a1_fid [] [V.pro a1_c0])] = (slices_IndexFunc_Field k a0 a1).map slices_IndexFunc_Field_fin := by
  cases k with
  | zero => rfl
  | succ k =>
    unfold slices_IndexFunc_Field
    refine Eq.trans (evF_succ (c := f47c) (N := 19) (regs := f47n) rfl Go.Proofs.Try.func47 rfl (by decide) rfl rfl rfl) ?_
    refine Eq.trans (k_region0 rfl (f47r0 k a0 a1 a1_fid a1_c0 a1_hok)) ?_
    refine Eq.trans k_assoc ?_
    refine Eq.trans (k_region0 rfl (f47r1 k a0 a1 a1_fid a1_c0 a1_hok)) ?_
    refine Eq.trans k_block ?_
    refine Eq.trans k_loop ?_
    refine slices_IndexFunc_Field_L1_ok k a0 a1 a1_fid a1_c0 a1_hok _ _ ?h_slices_IndexFunc_Field_L1_0 ?hr_slices_IndexFunc_Field_L1 k 0
    · intro y8
      refine Eq.trans blk_exit ?_
      refine Eq.trans (k_region0 rfl (f47r7 k a0 y8 a1 a1_fid a1_c0 a1_hok)) ?_
      refine Eq.trans k_lret ?_
      rfl
    · intro s; exact rfl
def slices_ContainsFunc_Field_fin : Bool → V × List V := fun r => ((V.bool r), [])
theorem f76r0 (k : Nat) (a0 : (List T_api_Field)) (a1 : Nat → T_api_Field → Option Bool) (a1_fid : Go.FuncId) (a1_c0 : V) (a1_hok : ∀ j x0, EV j a1_fid [(enc_T_api_Field x0), V.pro a1_c0] = (a1 j x0).map fun b => ((V.bool b), [])) : RE k f76a0 f76o0 false ⟨[(0, (sField a0)), (1, (V.fn a1_fid [] [V.pro a1_c0]))], [], 9⟩ = some ⟨[(0, (sField a0)), (1, (V.fn a1_fid [] [V.pro a1_c0]))], [], 9⟩ :=
  rE rfl
theorem f76r1 (k : Nat) (a0 : (List T_api_Field)) (a1 : Nat → T_api_Field → Option Bool) (a1_fid : Go.FuncId) (a1_c0 : V) (a1_hok : ∀ j x0, EV j a1_fid [(enc_T_api_Field x0), V.pro a1_c0] = (a1 j x0).map fun b => ((V.bool b), [])) : RE k f76a1 f76o1 false ⟨[(0, (sField a0)), (1, (V.fn a1_fid [] [V.pro a1_c0]))], [], 9⟩ = (((slices_IndexFunc_Field k a0 a1).bind fun v1 => (some ((decide (v1 ≥ 0)))))).map (fun (o : Bool) => (⟨[(4, (V.bool o))], [], 9⟩ : St)) := by
  refine rg ?_
  refine ra 2 2 ⟨[(0, (sField a0)), (1, (V.fn a1_fid [] [V.pro a1_c0])), (5, (sField a0)), (6, (V.fn a1_fid [] [V.pro a1_c0]))], [], 9⟩ rfl rfl rfl ?_
  refine Eq.trans (reg_pure (x := (slices_IndexFunc_Field k a0 a1)) (w := fun v1 => (I v1)) rfl rfl rfl rfl (p_call rfl rfl rfl rfl rfl (slices_IndexFunc_Field_ok k a0 a1 a1_fid a1_c0 a1_hok) (.inl rfl))) ?_
  refine bindE (fun v1 => ?_)
  exact bind_end rfl
theorem slices_ContainsFunc_Field_ok (k : Nat) (a0 : (List T_api_Field)) (a1 : Nat → T_api_Field → Option Bool) (a1_fid : Go.FuncId) (a1_c0 : V) (a1_hok : ∀ j x0, EV j a1_fid [(enc_T_api_Field x0), V.pro a1_c0] = (a1 j x0).map fun b => ((V.bool b), [])) : EV k 76 [(sField a0), (V.fn a1_fid [] [V.pro a1_c0])] = (slices_ContainsFunc_Field k a0 a1).map slices_ContainsFunc_Field_fin := by
  cases k with
  | zero => rfl
  | succ k =>
    unfold slices_ContainsFunc_Field
    refine Eq.trans (evF_succ (c := f76c) (N := 9) (regs := f76n) rfl Go.Proofs.Try.func76 rfl (by decide) rfl rfl rfl) ?_
    refine Eq.trans (k_region0 rfl (f76r0 k a0 a1 a1_fid a1_c0 a1_hok)) ?_
    refine Eq.trans (k_region rfl (f76r1 k a0 a1 a1_fid a1_c0 a1_hok)) ?_
    refine bindE (fun o2 => ?_)
    refine Eq.trans k_lret ?_
    rfl
def dbd_areFields_1_fin : Bool → V × List V := fun r => ((V.bool r), [])
theorem f77r0 (k : Nat) (a0 : T_api_Field) (a1 : T_api_Field) : RE k f77a0 f77o0 false ⟨[(0, (enc_T_api_Field a0)), (1, (V.pro (enc_T_api_Field a1)))], [], 9⟩ = some ⟨[(1, (V.pro (enc_T_api_Field a1))), (2, (V.ptr 2 0 0))], [(2, ⟨false, 3, [(enc_T_api_Field a0)]⟩)], 9⟩ :=
  rE rfl
theorem f77r1 (k : Nat) (a0 : T_api_Field) (a1 : T_api_Field) : RE k f77a1 f77o1 false ⟨[(1, (V.pro (enc_T_api_Field a1))), (2, (V.ptr 2 0 0))], [(2, ⟨false, 3, [(enc_T_api_Field a0)]⟩)], 9⟩ = some ⟨[(3, (V.bool (a0.fName == a1.fName)))], [], 9⟩ :=
  rE rfl
theorem dbd_areFields_1_ok (k : Nat) (a0 : T_api_Field) (a1 : T_api_Field) : EV k 77 [(enc_T_api_Field a0), (V.pro (enc_T_api_Field a1))] = (dbd_areFields_1 k a0 a1).map dbd_areFields_1_fin := by
  cases k with
  | zero => rfl
  | succ k =>
    unfold dbd_areFields_1
    refine Eq.trans (evF_succ (c := f77c) (N := 9) (regs := f77n) rfl Go.Proofs.Try.func77 rfl (by decide) rfl rfl rfl) ?_
    refine Eq.trans (k_region0 rfl (f77r0 k a0 a1)) ?_
    refine Eq.trans (k_region0 rfl (f77r1 k a0 a1)) ?_
    refine Eq.trans k_lret ?_
    rfl
def dbd_areFields_fin : Bool → V × List V := fun r => ((V.bool r), [])
theorem f74r0 (k : Nat) (a0 : (List T_api_Field)) (a1 : Int) : RE k f74a0 f74o0 false ⟨[(0, (sField a0)), (1, (I a1))], [], 52⟩ = some ⟨[(0, (sField a0)), (1, (I a1))], [], 52⟩ :=
  rE rfl
theorem f74r1 (k : Nat) (a0 : (List T_api_Field)) (a1 : Int) : RE k f74a1 f74o1 false ⟨[(0, (sField a0)), (1, (I a1))], [], 52⟩ = some ⟨[(0, (sField a0)), (1, (I a1)), (7, (sField a0)), (8, (I (a0.length : Int))), (9, (I 0))], [], 52⟩ := by
  refine rg ?_
  refine ra 1 1 ⟨[(0, (sField a0)), (1, (I a1)), (7, (sField a0))], [], 52⟩ rfl rfl rfl ?_
  refine Eq.trans (reg_pure (x := some ()) (w := fun _ => (I (a0.length : Int))) rfl rfl rfl rfl (p_len (e := enc_T_api_Field) rfl rfl rfl rfl rfl rfl Go.Proofs.Try.underlying53)) ?_
  refine Eq.trans some_bind ?_
  exact bind_end rfl
theorem f74r2 (k : Nat) (a0 : (List T_api_Field)) (a1 : Int) (x8 : Int) : RE k f74a2 f74o2 false ⟨[(0, (sField a0)), (1, (I a1)), (7, (sField a0)), (8, (I (a0.length : Int))), (9, (I x8))], [], 52⟩ = some ⟨[(0, (sField a0)), (1, (I a1)), (7, (sField a0)), (8, (I (a0.length : Int))), (9, (I x8)), (10, (V.bool (decide (x8 < (a0.length : Int)))))], [], 52⟩ :=
  rE rfl
theorem f74r3 (k : Nat) (a0 : (List T_api_Field)) (a1 : Int) (x8 : Int) : RE k f74a3 f74o3 false ⟨[(0, (sField a0)), (1, (I a1)), (7, (sField a0)), (8, (I (a0.length : Int))), (9, (I x8)), (10, (V.bool true))], [], 52⟩ = (((idx a0 x8).bind fun v9 => (some (x8, v9)))).map (fun (o : Int × T_api_Field) => (⟨[(0, (sField a0)), (1, (I a1)), (5, (I o.1)), (6, (V.ptr 6 0 0)), (7, (sField a0)), (8, (I (a0.length : Int))), (9, (I x8))], [(6, ⟨false, 3, [(enc_T_api_Field o.2)]⟩)], 52⟩ : St)) := by
  refine rg ?_
  refine ra 1 1 ⟨[(0, (sField a0)), (1, (I a1)), (7, (sField a0)), (8, (I (a0.length : Int))), (9, (I x8)), (10, (V.bool true)), (11, (I x8))], [], 52⟩ rfl rfl rfl ?_
  refine Eq.trans (reg_pure (x := (idx a0 x8)) (w := fun v9 => (V.pro (enc_T_api_Field v9))) rfl rfl rfl rfl (p_index (e := enc_T_api_Field) rfl rfl rfl Go.Proofs.Try.underlying53 rfl (by decide))) ?_
  refine bindE (fun v9 => ?_)
  exact bind_end rfl
theorem f74r4 (k : Nat) (a0 : (List T_api_Field)) (a1 : Int) (x8 : Int) (o10 : Int × T_api_Field) : RE k f74a4 f74o4 false ⟨[(0, (sField a0)), (1, (I a1)), (5, (I o10.1)), (6, (V.ptr 6 0 0)), (7, (sField a0)), (8, (I (a0.length : Int))), (9, (I x8))], [(6, ⟨false, 3, [(enc_T_api_Field o10.2)]⟩)], 52⟩ = (((dbd_IsName k o10.2.fName).bind fun v11 => (bif (!v11) then (some (true)) else (bif (decide (o10.2.fAt < 0)) then (some (true)) else (bif (decide (o10.2.fAt ≥ a1)) then (some (true)) else (bif (decide (o10.2.fBytes < 1)) then (some (true)) else (some ((decide (o10.2.fBytes > (Go.IntKind.wrap .i64 (a1 - o10.2.fAt)))))))))))).map (fun (o : Bool) => (⟨[(0, (sField a0)), (1, (I a1)), (5, (I o10.1)), (6, (V.ptr 6 0 0)), (7, (sField a0)), (8, (I (a0.length : Int))), (9, (I x8)), (42, (V.bool o))], [(6, ⟨false, 3, [(enc_T_api_Field o10.2)]⟩)], 52⟩ : St)) := by
  refine rg ?_
  refine ra 2 2 ⟨[(0, (sField a0)), (1, (I a1)), (5, (I o10.1)), (6, (V.ptr 6 0 0)), (7, (sField a0)), (8, (I (a0.length : Int))), (9, (I x8)), (14, (V.ptr 6 0 0)), (15, (V.str o10.2.fName))], [(6, ⟨false, 3, [(enc_T_api_Field o10.2)]⟩)], 52⟩ rfl rfl rfl ?_
  refine Eq.trans (reg_pure (x := (dbd_IsName k o10.2.fName)) (w := fun v11 => (V.bool v11)) rfl rfl rfl rfl (p_call rfl rfl rfl rfl rfl (dbd_IsName_ok k o10.2.fName) (.inl rfl))) ?_
  refine bindE (fun v11 => ?_)
  refine ba 2 5 ⟨[(0, (sField a0)), (1, (I a1)), (5, (I o10.1)), (6, (V.ptr 6 0 0)), (7, (sField a0)), (8, (I (a0.length : Int))), (9, (I x8)), (14, (V.ptr 6 0 0)), (15, (V.str o10.2.fName)), (16, (V.bool v11)), (17, (V.bool (!v11))), (18, (V.bool (!v11)))], [(6, ⟨false, 3, [(enc_T_api_Field o10.2)]⟩)], 52⟩ rfl rfl rfl ?_
  refine bifE (c := (!v11)) (fun hc => ?_) fun hc => ?_
  · rw [hc]
    exact reg_end rfl
  · rw [hc]
    refine ra 5 10 ⟨[(0, (sField a0)), (1, (I a1)), (5, (I o10.1)), (6, (V.ptr 6 0 0)), (7, (sField a0)), (8, (I (a0.length : Int))), (9, (I x8)), (14, (V.ptr 6 0 0)), (15, (V.str o10.2.fName)), (16, (V.bool v11)), (17, (V.bool false)), (18, (V.bool false)), (19, (V.ptr 6 0 1)), (20, (I o10.2.fAt)), (21, (V.bool (decide (o10.2.fAt < 0)))), (22, (V.bool (decide (o10.2.fAt < 0)))), (23, (V.bool (decide (o10.2.fAt < 0))))], [(6, ⟨false, 3, [(enc_T_api_Field o10.2)]⟩)], 52⟩ rfl rfl rfl ?_
    refine bifE (c := (decide (o10.2.fAt < 0))) (fun hc => ?_) fun hc => ?_
    · rw [hc]
      exact reg_end rfl
    · rw [hc]
      refine ra 6 16 ⟨[(0, (sField a0)), (1, (I a1)), (5, (I o10.1)), (6, (V.ptr 6 0 0)), (7, (sField a0)), (8, (I (a0.length : Int))), (9, (I x8)), (14, (V.ptr 6 0 0)), (15, (V.str o10.2.fName)), (16, (V.bool v11)), (17, (V.bool false)), (18, (V.bool false)), (19, (V.ptr 6 0 1)), (20, (I o10.2.fAt)), (21, (V.bool false)), (22, (V.bool false)), (23, (V.bool false)), (24, (V.ptr 6 0 1)), (25, (I o10.2.fAt)), (26, (I a1)), (27, (V.bool (decide (o10.2.fAt ≥ a1)))), (28, (V.bool (decide (o10.2.fAt ≥ a1)))), (29, (V.bool (decide (o10.2.fAt ≥ a1))))], [(6, ⟨false, 3, [(enc_T_api_Field o10.2)]⟩)], 52⟩ rfl rfl rfl ?_
      refine bifE (c := (decide (o10.2.fAt ≥ a1))) (fun hc => ?_) fun hc => ?_
      · rw [hc]
        exact reg_end rfl
      · rw [hc]
        refine ra 5 21 ⟨[(0, (sField a0)), (1, (I a1)), (5, (I o10.1)), (6, (V.ptr 6 0 0)), (7, (sField a0)), (8, (I (a0.length : Int))), (9, (I x8)), (14, (V.ptr 6 0 0)), (15, (V.str o10.2.fName)), (16, (V.bool v11)), (17, (V.bool false)), (18, (V.bool false)), (19, (V.ptr 6 0 1)), (20, (I o10.2.fAt)), (21, (V.bool false)), (22, (V.bool false)), (23, (V.bool false)), (24, (V.ptr 6 0 1)), (25, (I o10.2.fAt)), (26, (I a1)), (27, (V.bool false)), (28, (V.bool false)), (29, (V.bool false)), (30, (V.ptr 6 0 2)), (31, (I o10.2.fBytes)), (32, (V.bool (decide (o10.2.fBytes < 1)))), (33, (V.bool (decide (o10.2.fBytes < 1)))), (34, (V.bool (decide (o10.2.fBytes < 1))))], [(6, ⟨false, 3, [(enc_T_api_Field o10.2)]⟩)], 52⟩ rfl rfl rfl ?_
        refine bifE (c := (decide (o10.2.fBytes < 1))) (fun hc => ?_) fun hc => ?_
        · rw [hc]
          exact reg_end rfl
        · rw [hc]
          exact reg_end rfl
theorem f74r5 (k : Nat) (a0 : (List T_api_Field)) (a1 : Int) (x8 : Int) (o10 : Int × T_api_Field) : RE k f74a5 f74o5 false ⟨[(0, (sField a0)), (1, (I a1)), (5, (I o10.1)), (6, (V.ptr 6 0 0)), (7, (sField a0)), (8, (I (a0.length : Int))), (9, (I x8)), (42, (V.bool true))], [(6, ⟨false, 3, [(enc_T_api_Field o10.2)]⟩)], 52⟩ = some ⟨[(4, (V.bool false))], [], 52⟩ :=
  rE rfl
theorem f74r6 (k : Nat) (a0 : (List T_api_Field)) (a1 : Int) (x8 : Int) (o10 : Int × T_api_Field) : RE k f74a6 f74o6 false ⟨[(0, (sField a0)), (1, (I a1)), (5, (I o10.1)), (6, (V.ptr 6 0 0)), (7, (sField a0)), (8, (I (a0.length : Int))), (9, (I x8)), (42, (V.bool false))], [(6, ⟨false, 3, [(enc_T_api_Field o10.2)]⟩)], 52⟩ = (((cut a0 0 o10.1).bind fun v13 => (slices_ContainsFunc_Field k v13 (fun j x0 => (dbd_areFields_1 j x0 o10.2))))).map (fun (o : Bool) => (⟨[(0, (sField a0)), (1, (I a1)), (7, (sField a0)), (8, (I (a0.length : Int))), (9, (I x8)), (47, (V.bool o))], [], 52⟩ : St)) := by
  refine rg ?_
  refine ra 2 2 ⟨[(0, (sField a0)), (1, (I a1)), (5, (I o10.1)), (6, (V.ptr 6 0 0)), (7, (sField a0)), (8, (I (a0.length : Int))), (9, (I x8)), (42, (V.bool false)), (43, (sField a0)), (44, (I o10.1))], [(6, ⟨false, 3, [(enc_T_api_Field o10.2)]⟩)], 52⟩ rfl rfl rfl ?_
  refine Eq.trans (reg_pure (x := (cut a0 0 o10.1)) (w := fun v13 => (sField v13)) rfl rfl rfl rfl (p_slice (e := enc_T_api_Field) rfl rfl rfl rfl rfl rfl Go.Proofs.Try.underlying53 rfl (by decide))) ?_
  refine bindE (fun v13 => ?_)
  refine ba 1 4 ⟨[(0, (sField a0)), (1, (I a1)), (5, (I o10.1)), (6, (V.ptr 6 0 0)), (7, (sField a0)), (8, (I (a0.length : Int))), (9, (I x8)), (42, (V.bool false)), (43, (sField a0)), (44, (I o10.1)), (45, (sField v13)), (46, (V.fn 77 [] [(V.ptr 6 0 0)]))], [(6, ⟨false, 3, [(enc_T_api_Field o10.2)]⟩)], 52⟩ rfl rfl rfl ?_
  refine Eq.trans (reg_pure (x := (slices_ContainsFunc_Field k v13 (fun j x0 => (dbd_areFields_1 j x0 o10.2)))) (w := fun v14 => (V.bool v14)) rfl rfl rfl rfl (p_call rfl rfl rfl rfl rfl (slices_ContainsFunc_Field_ok k v13 (fun j x0 => (dbd_areFields_1 j x0 o10.2)) 77 (enc_T_api_Field o10.2) (fun j x0 => (dbd_areFields_1_ok j x0 o10.2))) (.inr (fun _ => rfl)))) ?_
  refine bind_self (fun v14 => ?_)
  exact bind_end rfl
theorem f74r7 (k : Nat) (a0 : (List T_api_Field)) (a1 : Int) (x8 : Int) : RE k f74a7 f74o7 false ⟨[(0, (sField a0)), (1, (I a1)), (7, (sField a0)), (8, (I (a0.length : Int))), (9, (I x8)), (47, (V.bool true))], [], 52⟩ = some ⟨[(4, (V.bool false))], [], 52⟩ :=
  rE rfl
theorem f74r8 (k : Nat) (a0 : (List T_api_Field)) (a1 : Int) (x8 : Int) : RE k f74a8 f74o8 false ⟨[(0, (sField a0)), (1, (I a1)), (7, (sField a0)), (8, (I (a0.length : Int))), (9, (I x8)), (47, (V.bool false))], [], 52⟩ = some ⟨[(0, (sField a0)), (1, (I a1)), (7, (sField a0)), (8, (I (a0.length : Int))), (9, (I (Go.IntKind.wrap .i64 (x8 + 1))))], [], 52⟩ :=
  rE rfl
theorem dbd_areFields_L1_ok (k : Nat) (a0 : (List T_api_Field)) (a1 : Int)  (K0 : Int → Option Bool) (Kst : X × St → Option (V × List V)) (hK0 : ∀ (y0 : Int), Kst (X.exit 0, ⟨[(0, (sField a0)), (1, (I a1)), (7, (sField a0)), (8, (I (a0.length : Int))), (9, (I y0)), (10, (V.bool false))], [], 52⟩) = (K0 y0).map dbd_areFields_fin) (hret : ∀ s, Kst (X.ret, s) = endK prog 52 [(sField a0), (I a1)] [] [.tmp 4] (X.ret, s)) :
    ∀ (m : Nat) (x8 : Int), (iter (exec prog (EV k) f74n k f74b0) m ⟨[(0, (sField a0)), (1, (I a1)), (7, (sField a0)), (8, (I (a0.length : Int))), (9, (I x8))], [], 52⟩).bind Kst = (dbd_areFields_L1 k a0 a1 K0 m x8).map dbd_areFields_fin := by
  intro m
  induction m with
  | zero => intros; rfl
  | succ m ih =>
    intro x8
    unfold dbd_areFields_L1
    refine Eq.trans k_round ?_
    refine Eq.trans (k_region0 rfl (f74r2 k a0 a1 x8)) ?_
    refine Eq.trans (k_cond (t := (decide (x8 < (a0.length : Int)))) rfl) ?_
    refine bifE2 (fun hc => ?_) fun hc => ?_
    · rw [hc]
      refine Eq.trans k_skip ?_
      refine Eq.trans k_block ?_
      refine Eq.trans (k_region rfl (f74r3 k a0 a1 x8)) ?_
      refine bindE (fun o10 => ?_)
      refine Eq.trans k_assoc ?_
      refine Eq.trans (k_region rfl (f74r4 k a0 a1 x8 o10)) ?_
      refine bindE (fun o12 => ?_)
      refine Eq.trans (k_cond (t := o12) rfl) ?_
      refine bifE2 (fun hc => ?_) fun hc => ?_
      · rw [hc]
        refine Eq.trans k_assoc ?_
        refine Eq.trans (k_region0 rfl (f74r5 k a0 a1 x8 o10)) ?_
        refine Eq.trans k_ret ?_
        refine Eq.trans blk_ret ?_
        refine Eq.trans loop_ret ?_
        refine Eq.trans (hret _) ?_
        rfl
      · rw [hc]
        refine Eq.trans k_skip ?_
        refine Eq.trans (k_region rfl (f74r6 k a0 a1 x8 o10)) ?_
        refine bindE (fun o15 => ?_)
        refine Eq.trans (k_lcond (t := o15) rfl) ?_
        refine bifE2 (fun hc => ?_) fun hc => ?_
        · rw [hc]
          refine Eq.trans (k_region0 rfl (f74r7 k a0 a1 x8)) ?_
          refine Eq.trans k_lret ?_
          refine Eq.trans blk_ret ?_
          refine Eq.trans loop_ret ?_
          refine Eq.trans (hret _) ?_
          rfl
        · rw [hc]
          refine Eq.trans k_lskip ?_
          refine Eq.trans blk_normal ?_
          refine Eq.trans (k_lregion0 rfl (f74r8 k a0 a1 x8)) ?_
          refine Eq.trans loop_normal ?_
          exact ih (Go.IntKind.wrap .i64 (x8 + 1))
    · rw [hc]
      refine Eq.trans k_exit ?_
      refine Eq.trans loop_exit ?_
      exact hK0 x8
theorem f74r9 (k : Nat) (a0 : (List T_api_Field)) (a1 : Int) (y16 : Int) : RE k f74a9 f74o9 false ⟨[(0, (sField a0)), (1, (I a1)), (7, (sField a0)), (8, (I (a0.length : Int))), (9, (I y16)), (10, (V.bool false))], [], 52⟩ = some ⟨[(4, (V.bool (decide ((a0.length : Int) ≤ 5))))], [], 52⟩ := by
  refine rg ?_
  refine ra 1 1 ⟨[(0, (sField a0)), (1, (I a1)), (7, (sField a0)), (8, (I (a0.length : Int))), (9, (I y16)), (10, (V.bool false)), (49, (sField a0))], [], 52⟩ rfl rfl rfl ?_
  refine Eq.trans (reg_pure (x := some ()) (w := fun _ => (I (a0.length : Int))) rfl rfl rfl rfl (p_len (e := enc_T_api_Field) rfl rfl rfl rfl rfl rfl Go.Proofs.Try.underlying53)) ?_
  refine Eq.trans some_bind ?_
  exact bind_end rfl
theorem dbd_areFields_ok (k : Nat) (a0 : (List T_api_Field)) (a1 : Int) : EV k 74 [(sField a0), (I a1)] = (dbd_areFields k a0 a1).map dbd_areFields_fin := by
  cases k with
  | zero => rfl
  | succ k =>
    unfold dbd_areFields
    refine Eq.trans (evF_succ (c := f74c) (N := 52) (regs := f74n) rfl Go.Proofs.Try.func74 rfl (by decide) rfl rfl rfl) ?_
    refine Eq.trans (k_region0 rfl (f74r0 k a0 a1)) ?_
    refine Eq.trans k_assoc ?_
    refine Eq.trans (k_region0 rfl (f74r1 k a0 a1)) ?_
    refine Eq.trans k_block ?_
    refine Eq.trans k_loop ?_
    refine dbd_areFields_L1_ok k a0 a1 _ _ ?h_dbd_areFields_L1_0 ?hr_dbd_areFields_L1 k 0
    · intro y16
      refine Eq.trans blk_exit ?_
      refine Eq.trans (k_region0 rfl (f74r9 k a0 a1 y16)) ?_
      refine Eq.trans k_lret ?_
      rfl
    · intro s; exact rfl
def dbd_isType_fin : Bool → V × List V := fun r => ((V.bool r), [])
theorem f68r0 (k : Nat) (a0 : T_api_Type) : RE k f68a0 f68o0 false ⟨[(0, (enc_T_api_Type a0))], [], 70⟩ = some ⟨[(1, (V.ptr 1 0 0))], [(1, ⟨false, 8, [(enc_T_api_Type a0)]⟩)], 70⟩ :=
  rE rfl
theorem f68r1 (k : Nat) (a0 : T_api_Type) : RE k f68a1 f68o1 false ⟨[(1, (V.ptr 1 0 0))], [(1, ⟨false, 8, [(enc_T_api_Type a0)]⟩)], 70⟩ = (((dbd_IsName k a0.fName).bind fun v1 => (bif (!v1) then (some (true)) else (bif (decide (a0.fMin < 1)) then (some (true)) else (bif (decide (a0.fMin > a0.fSize)) then (some (true)) else (bif (decide (a0.fSize > 40)) then (some (true)) else ((dbd_areFields k a0.fFields a0.fSize).bind fun v2 => (some ((!v2)))))))))).map (fun (o : Bool) => (⟨[(1, (V.ptr 1 0 0)), (3, (V.bool o))], [(1, ⟨false, 8, [(enc_T_api_Type a0)]⟩)], 70⟩ : St)) := by
  refine rg ?_
  refine ra 2 2 ⟨[(1, (V.ptr 1 0 0)), (4, (V.ptr 1 0 0)), (5, (V.str a0.fName))], [(1, ⟨false, 8, [(enc_T_api_Type a0)]⟩)], 70⟩ rfl rfl rfl ?_
  refine Eq.trans (reg_pure (x := (dbd_IsName k a0.fName)) (w := fun v1 => (V.bool v1)) rfl rfl rfl rfl (p_call rfl rfl rfl rfl rfl (dbd_IsName_ok k a0.fName) (.inl rfl))) ?_
  refine bindE (fun v1 => ?_)
  refine ba 2 5 ⟨[(1, (V.ptr 1 0 0)), (4, (V.ptr 1 0 0)), (5, (V.str a0.fName)), (6, (V.bool v1)), (7, (V.bool (!v1))), (8, (V.bool (!v1)))], [(1, ⟨false, 8, [(enc_T_api_Type a0)]⟩)], 70⟩ rfl rfl rfl ?_
  refine bifE (c := (!v1)) (fun hc => ?_) fun hc => ?_
  · rw [hc]
    exact reg_end rfl
  · rw [hc]
    refine ra 5 10 ⟨[(1, (V.ptr 1 0 0)), (4, (V.ptr 1 0 0)), (5, (V.str a0.fName)), (6, (V.bool v1)), (7, (V.bool false)), (8, (V.bool false)), (9, (V.ptr 1 0 2)), (10, (I a0.fMin)), (11, (V.bool (decide (a0.fMin < 1)))), (12, (V.bool (decide (a0.fMin < 1)))), (13, (V.bool (decide (a0.fMin < 1))))], [(1, ⟨false, 8, [(enc_T_api_Type a0)]⟩)], 70⟩ rfl rfl rfl ?_
    refine bifE (c := (decide (a0.fMin < 1))) (fun hc => ?_) fun hc => ?_
    · rw [hc]
      exact reg_end rfl
    · rw [hc]
      refine ra 7 17 ⟨[(1, (V.ptr 1 0 0)), (4, (V.ptr 1 0 0)), (5, (V.str a0.fName)), (6, (V.bool v1)), (7, (V.bool false)), (8, (V.bool false)), (9, (V.ptr 1 0 2)), (10, (I a0.fMin)), (11, (V.bool false)), (12, (V.bool false)), (13, (V.bool false)), (14, (V.ptr 1 0 2)), (15, (I a0.fMin)), (16, (V.ptr 1 0 3)), (17, (I a0.fSize)), (18, (V.bool (decide (a0.fMin > a0.fSize)))), (19, (V.bool (decide (a0.fMin > a0.fSize)))), (20, (V.bool (decide (a0.fMin > a0.fSize))))], [(1, ⟨false, 8, [(enc_T_api_Type a0)]⟩)], 70⟩ rfl rfl rfl ?_
      refine bifE (c := (decide (a0.fMin > a0.fSize))) (fun hc => ?_) fun hc => ?_
      · rw [hc]
        exact reg_end rfl
      · rw [hc]
        refine ra 5 22 ⟨[(1, (V.ptr 1 0 0)), (4, (V.ptr 1 0 0)), (5, (V.str a0.fName)), (6, (V.bool v1)), (7, (V.bool false)), (8, (V.bool false)), (9, (V.ptr 1 0 2)), (10, (I a0.fMin)), (11, (V.bool false)), (12, (V.bool false)), (13, (V.bool false)), (14, (V.ptr 1 0 2)), (15, (I a0.fMin)), (16, (V.ptr 1 0 3)), (17, (I a0.fSize)), (18, (V.bool false)), (19, (V.bool false)), (20, (V.bool false)), (21, (V.ptr 1 0 3)), (22, (I a0.fSize)), (23, (V.bool (decide (a0.fSize > 40)))), (24, (V.bool (decide (a0.fSize > 40)))), (25, (V.bool (decide (a0.fSize > 40))))], [(1, ⟨false, 8, [(enc_T_api_Type a0)]⟩)], 70⟩ rfl rfl rfl ?_
        refine bifE (c := (decide (a0.fSize > 40))) (fun hc => ?_) fun hc => ?_
        · rw [hc]
          exact reg_end rfl
        · rw [hc]
          refine ra 4 26 ⟨[(1, (V.ptr 1 0 0)), (4, (V.ptr 1 0 0)), (5, (V.str a0.fName)), (6, (V.bool v1)), (7, (V.bool false)), (8, (V.bool false)), (9, (V.ptr 1 0 2)), (10, (I a0.fMin)), (11, (V.bool false)), (12, (V.bool false)), (13, (V.bool false)), (14, (V.ptr 1 0 2)), (15, (I a0.fMin)), (16, (V.ptr 1 0 3)), (17, (I a0.fSize)), (18, (V.bool false)), (19, (V.bool false)), (20, (V.bool false)), (21, (V.ptr 1 0 3)), (22, (I a0.fSize)), (23, (V.bool false)), (24, (V.bool false)), (25, (V.bool false)), (26, (V.ptr 1 0 4)), (27, (sField (a0.fFields))), (28, (V.ptr 1 0 3)), (29, (I a0.fSize))], [(1, ⟨false, 8, [(enc_T_api_Type a0)]⟩)], 70⟩ rfl rfl rfl ?_
          refine Eq.trans (reg_pure (x := (dbd_areFields k a0.fFields a0.fSize)) (w := fun v2 => (V.bool v2)) rfl rfl rfl rfl (p_call rfl rfl rfl rfl rfl (dbd_areFields_ok k a0.fFields a0.fSize) (.inl rfl))) ?_
          refine bindE (fun v2 => ?_)
          exact bind_end rfl
theorem f68r2 (k : Nat) (a0 : T_api_Type) : RE k f68a2 f68o2 false ⟨[(1, (V.ptr 1 0 0)), (3, (V.bool true))], [(1, ⟨false, 8, [(enc_T_api_Type a0)]⟩)], 70⟩ = some ⟨[(2, (V.bool false))], [], 70⟩ :=
  rE rfl
theorem f68r3 (k : Nat) (a0 : T_api_Type) : RE k f68a3 f68o3 false ⟨[(1, (V.ptr 1 0 0)), (3, (V.bool false))], [(1, ⟨false, 8, [(enc_T_api_Type a0)]⟩)], 70⟩ = some ⟨[(1, (V.ptr 1 0 0)), (33, (V.bool (a0.fKey == (-1))))], [(1, ⟨false, 8, [(enc_T_api_Type a0)]⟩)], 70⟩ :=
  rE rfl
theorem f68r4 (k : Nat) (a0 : T_api_Type) : RE k f68a4 f68o4 false ⟨[(1, (V.ptr 1 0 0)), (33, (V.bool true))], [(1, ⟨false, 8, [(enc_T_api_Type a0)]⟩)], 70⟩ = some ⟨[(2, (V.bool (!a0.fUnique)))], [], 70⟩ :=
  rE rfl
theorem f68r5 (k : Nat) (a0 : T_api_Type) : RE k f68a5 f68o5 false ⟨[(1, (V.ptr 1 0 0)), (33, (V.bool false))], [(1, ⟨false, 8, [(enc_T_api_Type a0)]⟩)], 70⟩ = ((bif (decide (a0.fKey < 0)) then (some (true)) else (some ((decide (a0.fKey ≥ (a0.fFields.length : Int))))))).map (fun (o : Bool) => (⟨[(1, (V.ptr 1 0 0)), (40, (V.bool o))], [(1, ⟨false, 8, [(enc_T_api_Type a0)]⟩)], 70⟩ : St)) := by
  refine rg ?_
  refine ra 4 4 ⟨[(1, (V.ptr 1 0 0)), (33, (V.bool false)), (41, (V.ptr 1 0 5)), (42, (I a0.fKey)), (43, (V.bool (decide (a0.fKey < 0)))), (44, (V.bool (decide (a0.fKey < 0))))], [(1, ⟨false, 8, [(enc_T_api_Type a0)]⟩)], 70⟩ rfl rfl rfl ?_
  refine bifE (c := (decide (a0.fKey < 0))) (fun hc => ?_) fun hc => ?_
  · rw [hc]
    exact reg_end rfl
  · rw [hc]
    refine ra 4 8 ⟨[(1, (V.ptr 1 0 0)), (33, (V.bool false)), (41, (V.ptr 1 0 5)), (42, (I a0.fKey)), (43, (V.bool false)), (44, (V.bool false)), (45, (V.ptr 1 0 5)), (46, (I a0.fKey)), (47, (V.ptr 1 0 4)), (48, (sField (a0.fFields)))], [(1, ⟨false, 8, [(enc_T_api_Type a0)]⟩)], 70⟩ rfl rfl rfl ?_
    refine Eq.trans (reg_pure (x := some ()) (w := fun _ => (I (a0.fFields.length : Int))) rfl rfl rfl rfl (p_len (e := enc_T_api_Field) rfl rfl rfl rfl rfl rfl Go.Proofs.Try.underlying53)) ?_
    refine Eq.trans some_bind ?_
    exact bind_end rfl
theorem f68r6 (k : Nat) (a0 : T_api_Type) : RE k f68a6 f68o6 false ⟨[(1, (V.ptr 1 0 0)), (40, (V.bool true))], [(1, ⟨false, 8, [(enc_T_api_Type a0)]⟩)], 70⟩ = some ⟨[(2, (V.bool false))], [], 70⟩ :=
  rE rfl
theorem f68r7 (k : Nat) (a0 : T_api_Type) : RE k f68a7 f68o7 true ⟨[(1, (V.ptr 1 0 0)), (40, (V.bool false))], [(1, ⟨false, 8, [(enc_T_api_Type a0)]⟩)], 70⟩ = (((idx a0.fFields a0.fKey).bind fun v5 => ((idx a0.fFields a0.fKey).bind fun v6 => (some ((decide ((Go.IntKind.wrap .i64 (v5.fAt + v6.fBytes)) ≤ a0.fMin))))))).map (fun (o : Bool) => (⟨[(2, (V.bool o))], [], 70⟩ : St)) := by
  refine Eq.trans (regionE_regp (p := 19) (dk := true) (t := [(1, (V.ptr 1 0 0)), (40, (V.bool false))]) (σ := [(1, ⟨false, 8, [(enc_T_api_Type a0)]⟩)]) (n := 70) (by decide) (by decide) rfl) ?_
  refine Eq.trans (regp_adv (m := 4) (j := 4) (t' := [(1, (V.ptr 1 0 0)), (40, (V.bool false)), (52, (V.ptr 1 0 4)), (53, (sField (a0.fFields))), (54, (V.ptr 1 0 5)), (55, (I a0.fKey))]) rfl rfl rfl) ?_
  refine Eq.trans (regp_pure (x := (idx a0.fFields a0.fKey)) (w := fun v5 => (V.pro (enc_T_api_Field v5))) rfl rfl rfl rfl rfl (p_index (e := enc_T_api_Field) rfl rfl rfl Go.Proofs.Try.underlying53 rfl (by decide))) ?_
  refine bindE (fun v5 => ?_)
  refine Eq.trans (putp_adv (m := 6) (j := 11) (t' := [(1, (V.ptr 1 0 0)), (40, (V.bool false)), (52, (V.ptr 1 0 4)), (53, (sField (a0.fFields))), (54, (V.ptr 1 0 5)), (55, (I a0.fKey)), (56, (V.pro (enc_T_api_Field v5))), (57, (V.pro (I v5.fAt))), (58, (I v5.fAt)), (59, (V.ptr 1 0 4)), (60, (sField (a0.fFields))), (61, (V.ptr 1 0 5)), (62, (I a0.fKey))]) rfl rfl rfl) ?_
  refine Eq.trans (regp_pure (x := (idx a0.fFields a0.fKey)) (w := fun v6 => (V.pro (enc_T_api_Field v6))) rfl rfl rfl rfl rfl (p_index (e := enc_T_api_Field) rfl rfl rfl Go.Proofs.Try.underlying53 rfl (by decide))) ?_
  refine bindE (fun v6 => ?_)
  exact regp_end rfl
theorem dbd_isType_ok (k : Nat) (a0 : T_api_Type) : EV k 68 [(enc_T_api_Type a0)] = (dbd_isType k a0).map dbd_isType_fin := by
  cases k with
  | zero => rfl
  | succ k =>
    unfold dbd_isType
    refine Eq.trans (evF_succ (c := f68c) (N := 70) (regs := f68n) rfl Go.Proofs.Try.func68 rfl (by decide) rfl rfl rfl) ?_
    refine Eq.trans (k_region0 rfl (f68r0 k a0)) ?_
    refine Eq.trans k_block ?_
    refine Eq.trans (k_region rfl (f68r1 k a0)) ?_
    refine bindE (fun o3 => ?_)
    refine Eq.trans (k_lcond (t := o3) rfl) ?_
    refine bifE2 (fun hc => ?_) fun hc => ?_
    · rw [hc]
      refine Eq.trans (k_region0 rfl (f68r2 k a0)) ?_
      refine Eq.trans k_lret ?_
      refine Eq.trans blk_ret ?_
      rfl
    · rw [hc]
      refine Eq.trans (k_region0 rfl (f68r3 k a0)) ?_
      refine Eq.trans (k_lcond (t := (a0.fKey == (-1))) rfl) ?_
      refine bifE2 (fun hc => ?_) fun hc => ?_
      · rw [hc]
        refine Eq.trans (k_region0 rfl (f68r4 k a0)) ?_
        refine Eq.trans k_lret ?_
        refine Eq.trans blk_ret ?_
        rfl
      · rw [hc]
        refine Eq.trans (k_region rfl (f68r5 k a0)) ?_
        refine bindE (fun o4 => ?_)
        refine Eq.trans (k_lcond (t := o4) rfl) ?_
        refine bifE2 (fun hc => ?_) fun hc => ?_
        · rw [hc]
          refine Eq.trans (k_region0 rfl (f68r6 k a0)) ?_
          refine Eq.trans k_lret ?_
          refine Eq.trans blk_ret ?_
          rfl
        · rw [hc]
          refine Eq.trans k_lskip ?_
          refine Eq.trans blk_normal ?_
          refine Eq.trans (k_region rfl (f68r7 k a0)) ?_
          refine bindE (fun o7 => ?_)
          refine Eq.trans k_lret ?_
          rfl
def slices_IndexFunc_Type_fin : Int → V × List V := fun r => ((I r), [])
theorem f45r0 (k : Nat) (a0 : (List T_api_Type)) (a1 : Nat → T_api_Type → Option Bool) (a1_fid : Go.FuncId) (a1_c0 : V) (a1_hok : ∀ j x0, EV j a1_fid [(enc_T_api_Type x0), V.pro a1_c0] = (a1 j x0).map fun b => ((V.bool b), [])) : RE k f45a0 f45o0 false ⟨[(0, (sType a0)), (1, (V.fn a1_fid [] [V.pro a1_c0]))], [], 19⟩ = some ⟨[(0, (sType a0)), (1, (V.fn a1_fid [] [V.pro a1_c0]))], [], 19⟩ :=
  rE rfl
theorem f45r1 (k : Nat) (a0 : (List T_api_Type)) (a1 : Nat → T_api_Type → Option Bool) (a1_fid : Go.FuncId) (a1_c0 : V) (a1_hok : ∀ j x0, EV j a1_fid [(enc_T_api_Type x0), V.pro a1_c0] = (a1 j x0).map fun b => ((V.bool b), [])) : RE k f45a1 f45o1 false ⟨[(0, (sType a0)), (1, (V.fn a1_fid [] [V.pro a1_c0]))], [], 19⟩ = some ⟨[(0, (sType a0)), (1, (V.fn a1_fid [] [V.pro a1_c0])), (7, (I (a0.length : Int))), (8, (I 0))], [], 19⟩ := by
  refine rg ?_
  refine ra 1 1 ⟨[(0, (sType a0)), (1, (V.fn a1_fid [] [V.pro a1_c0])), (6, (sType a0))], [], 19⟩ rfl rfl rfl ?_
  refine Eq.trans (reg_pure (x := some ()) (w := fun _ => (I (a0.length : Int))) rfl rfl rfl rfl (p_len (e := enc_T_api_Type) rfl rfl rfl rfl rfl rfl Go.Proofs.Try.underlying22)) ?_
  refine Eq.trans some_bind ?_
  exact bind_end rfl
theorem f45r2 (k : Nat) (a0 : (List T_api_Type)) (x4 : Int) (a1 : Nat → T_api_Type → Option Bool) (a1_fid : Go.FuncId) (a1_c0 : V) (a1_hok : ∀ j x0, EV j a1_fid [(enc_T_api_Type x0), V.pro a1_c0] = (a1 j x0).map fun b => ((V.bool b), [])) : RE k f45a2 f45o2 false ⟨[(0, (sType a0)), (1, (V.fn a1_fid [] [V.pro a1_c0])), (7, (I (a0.length : Int))), (8, (I x4))], [], 19⟩ = some ⟨[(0, (sType a0)), (1, (V.fn a1_fid [] [V.pro a1_c0])), (7, (I (a0.length : Int))), (8, (I x4)), (9, (V.bool (decide (x4 < (a0.length : Int)))))], [], 19⟩ :=
  rE rfl
theorem f45r3 (k : Nat) (a0 : (List T_api_Type)) (x4 : Int) (a1 : Nat → T_api_Type → Option Bool) (a1_fid : Go.FuncId) (a1_c0 : V) (a1_hok : ∀ j x0, EV j a1_fid [(enc_T_api_Type x0), V.pro a1_c0] = (a1 j x0).map fun b => ((V.bool b), [])) : RE k f45a3 f45o3 false ⟨[(0, (sType a0)), (1, (V.fn a1_fid [] [V.pro a1_c0])), (7, (I (a0.length : Int))), (8, (I x4)), (9, (V.bool true))], [], 19⟩ = some ⟨[(0, (sType a0)), (1, (V.fn a1_fid [] [V.pro a1_c0])), (5, (I x4)), (7, (I (a0.length : Int))), (8, (I x4))], [], 19⟩ :=
  rE rfl
theorem f45r4 (k : Nat) (a0 : (List T_api_Type)) (x4 : Int) (a1 : Nat → T_api_Type → Option Bool) (a1_fid : Go.FuncId) (a1_c0 : V) (a1_hok : ∀ j x0, EV j a1_fid [(enc_T_api_Type x0), V.pro a1_c0] = (a1 j x0).map fun b => ((V.bool b), [])) : RE k f45a4 f45o4 false ⟨[(0, (sType a0)), (1, (V.fn a1_fid [] [V.pro a1_c0])), (5, (I x4)), (7, (I (a0.length : Int))), (8, (I x4))], [], 19⟩ = (((idx a0 x4).bind fun v5 => (a1 k v5))).map (fun (o : Bool) => (⟨[(0, (sType a0)), (1, (V.fn a1_fid [] [V.pro a1_c0])), (5, (I x4)), (7, (I (a0.length : Int))), (8, (I x4)), (16, (V.bool o))], [], 19⟩ : St)) := by
  refine rg ?_
  refine ra 3 3 ⟨[(0, (sType a0)), (1, (V.fn a1_fid [] [V.pro a1_c0])), (5, (I x4)), (7, (I (a0.length : Int))), (8, (I x4)), (11, (V.fn a1_fid [] [V.pro a1_c0])), (12, (sType a0)), (13, (I x4))], [], 19⟩ rfl rfl rfl ?_
  refine Eq.trans (reg_pure (x := (idx a0 x4)) (w := fun v5 => (V.pro (enc_T_api_Type v5))) rfl rfl rfl rfl (p_index (e := enc_T_api_Type) rfl rfl rfl Go.Proofs.Try.underlying22 rfl (by decide))) ?_
  refine bindE (fun v5 => ?_)
  refine ba 1 5 ⟨[(0, (sType a0)), (1, (V.fn a1_fid [] [V.pro a1_c0])), (5, (I x4)), (7, (I (a0.length : Int))), (8, (I x4)), (11, (V.fn a1_fid [] [V.pro a1_c0])), (12, (sType a0)), (13, (I x4)), (14, (V.pro (enc_T_api_Type v5))), (15, (enc_T_api_Type v5))], [], 19⟩ rfl rfl rfl ?_
  refine Eq.trans (reg_pure (x := (a1 k v5)) (w := fun v6 => (V.bool v6)) rfl rfl rfl rfl (p_call rfl rfl rfl rfl rfl (a1_hok k v5) (.inl rfl))) ?_
  refine bind_self (fun v6 => ?_)
  exact bind_end rfl
theorem f45r5 (k : Nat) (a0 : (List T_api_Type)) (x4 : Int) (a1 : Nat → T_api_Type → Option Bool) (a1_fid : Go.FuncId) (a1_c0 : V) (a1_hok : ∀ j x0, EV j a1_fid [(enc_T_api_Type x0), V.pro a1_c0] = (a1 j x0).map fun b => ((V.bool b), [])) : RE k f45a5 f45o5 false ⟨[(0, (sType a0)), (1, (V.fn a1_fid [] [V.pro a1_c0])), (5, (I x4)), (7, (I (a0.length : Int))), (8, (I x4)), (16, (V.bool true))], [], 19⟩ = some ⟨[(4, (I x4))], [], 19⟩ :=
  rE rfl
theorem f45r6 (k : Nat) (a0 : (List T_api_Type)) (x4 : Int) (a1 : Nat → T_api_Type → Option Bool) (a1_fid : Go.FuncId) (a1_c0 : V) (a1_hok : ∀ j x0, EV j a1_fid [(enc_T_api_Type x0), V.pro a1_c0] = (a1 j x0).map fun b => ((V.bool b), [])) : RE k f45a6 f45o6 false ⟨[(0, (sType a0)), (1, (V.fn a1_fid [] [V.pro a1_c0])), (5, (I x4)), (7, (I (a0.length : Int))), (8, (I x4)), (16, (V.bool false))], [], 19⟩ = some ⟨[(0, (sType a0)), (1, (V.fn a1_fid [] [V.pro a1_c0])), (7, (I (a0.length : Int))), (8, (I (Go.IntKind.wrap .i64 (x4 + 1))))], [], 19⟩ :=
  rE rfl
theorem slices_IndexFunc_Type_L1_ok (k : Nat) (a0 : (List T_api_Type)) (a1 : Nat → T_api_Type → Option Bool) (a1_fid : Go.FuncId) (a1_c0 : V) (a1_hok : ∀ j x0, EV j a1_fid [(enc_T_api_Type x0), V.pro a1_c0] = (a1 j x0).map fun b => ((V.bool b), [])) (K0 : Int → Option Int) (Kst : X × St → Option (V × List V)) (hK0 : ∀ (y0 : Int), Kst (X.exit 0, ⟨[(0, (sType a0)), (1, (V.fn a1_fid [] [V.pro a1_c0])), (7, (I (a0.length : Int))), (8, (I y0)), (9, (V.bool false))], [], 19⟩) = (K0 y0).map slices_IndexFunc_Type_fin) (hret : ∀ s, Kst (X.ret, s) = endK prog 19 [(sType a0), (V.fn a1_fid [] [V.pro a1_c0])] [] [.tmp 4] (X.ret, s)) :
    ∀ (m : Nat) (x4 : Int), (iter (exec prog (EV k) f45n k f45b0) m ⟨[(0, (sType a0)), (1, (V.fn a1_fid [] [V.pro a1_c0])), (7, (I (a0.length : Int))), (8, (I x4))], [], 19⟩).bind Kst = (slices_IndexFunc_Type_L1 k a0 a1 K0 m x4).map slices_IndexFunc_Type_fin := by
  intro m
  induction m with
  | zero => intros; rfl
  | succ m ih =>
    intro x4
    unfold slices_IndexFunc_Type_L1
    refine Eq.trans k_round ?_
    refine Eq.trans (k_region0 rfl (f45r2 k a0 x4 a1 a1_fid a1_c0 a1_hok)) ?_
    refine Eq.trans (k_cond (t := (decide (x4 < (a0.length : Int)))) rfl) ?_
    refine bifE2 (fun hc => ?_) fun hc => ?_
    · rw [hc]
      refine Eq.trans k_skip ?_
      refine Eq.trans k_block ?_
      refine Eq.trans (k_region0 rfl (f45r3 k a0 x4 a1 a1_fid a1_c0 a1_hok)) ?_
      refine Eq.trans (k_region rfl (f45r4 k a0 x4 a1 a1_fid a1_c0 a1_hok)) ?_
      refine bindE (fun o7 => ?_)
      refine Eq.trans (k_lcond (t := o7) rfl) ?_
      refine bifE2 (fun hc => ?_) fun hc => ?_
      · rw [hc]
        refine Eq.trans (k_region0 rfl (f45r5 k a0 x4 a1 a1_fid a1_c0 a1_hok)) ?_
        refine Eq.trans k_lret ?_
        refine Eq.trans blk_ret ?_
        refine Eq.trans loop_ret ?_
        refine Eq.trans (hret _) ?_
        rfl
      · rw [hc]
        refine Eq.trans k_lskip ?_
        refine Eq.trans blk_normal ?_
        refine Eq.trans (k_lregion0 rfl (f45r6 k a0 x4 a1 a1_fid a1_c0 a1_hok)) ?_
        refine Eq.trans loop_normal ?_
        exact ih (Go.IntKind.wrap .i64 (x4 + 1))
    · rw [hc]
      refine Eq.trans k_exit ?_
      refine Eq.trans loop_exit ?_
      exact hK0 x4
theorem f45r7 (k : Nat) (a0 : (List T_api_Type)) (y8 : Int) (a1 : Nat → T_api_Type → Option Bool) (a1_fid : Go.FuncId) (a1_c0 : V) (a1_hok : ∀ j x0, EV j a1_fid [(enc_T_api_Type x0), V.pro a1_c0] = (a1 j x0).map fun b => ((V.bool b), [])) : RE k f45a7 f45o7 false ⟨[(0, (sType a0)), (1, (V.fn a1_fid [] [V.pro a1_c0])), (7, (I (a0.length : Int))), (8, (I y8)), (9, (V.bool false))], [], 19⟩ = some ⟨[(4, (I (-1)))], [], 19⟩ :=
  rE rfl
theorem slices_IndexFunc_Type_ok (k : Nat) (a0 : (List T_api_Type)) (a1 : Nat → T_api_Type → Option Bool) (a1_fid : Go.FuncId) (a1_c0 : V) (a1_hok : ∀ j x0, EV j a1_fid [(enc_T_api_Type x0), V.pro a1_c0] = (a1 j x0).map fun b => ((V.bool b), [])) : EV k 45 [(sType a0), (V.fn a1_fid [] [V.pro a1_c0])] = (slices_IndexFunc_Type k a0 a1).map slices_IndexFunc_Type_fin := by
  cases k with
  | zero => rfl
  | succ k =>
    unfold slices_IndexFunc_Type
    refine Eq.trans (evF_succ (c := f45c) (N := 19) (regs := f45n) rfl Go.Proofs.Try.func45 rfl (by decide) rfl rfl rfl) ?_
    refine Eq.trans (k_region0 rfl (f45r0 k a0 a1 a1_fid a1_c0 a1_hok)) ?_
    refine Eq.trans k_assoc ?_
    refine Eq.trans (k_region0 rfl (f45r1 k a0 a1 a1_fid a1_c0 a1_hok)) ?_
    refine Eq.trans k_block ?_
    refine Eq.trans k_loop ?_
    refine slices_IndexFunc_Type_L1_ok k a0 a1 a1_fid a1_c0 a1_hok _ _ ?h_slices_IndexFunc_Type_L1_0 ?hr_slices_IndexFunc_Type_L1 k 0
    · intro y8
      refine Eq.trans blk_exit ?_
      refine Eq.trans (k_region0 rfl (f45r7 k a0 y8 a1 a1_fid a1_c0 a1_hok)) ?_
      refine Eq.trans k_lret ?_
      rfl
    · intro s; exact rfl
def slices_ContainsFunc_Type_fin : Bool → V × List V := fun r => ((V.bool r), [])
theorem f69r0 (k : Nat) (a0 : (List T_api_Type)) (a1 : Nat → T_api_Type → Option Bool) (a1_fid : Go.FuncId) (a1_c0 : V) (a1_hok : ∀ j x0, EV j a1_fid [(enc_T_api_Type x0), V.pro a1_c0] = (a1 j x0).map fun b => ((V.bool b), [])) : RE k f69a0 f69o0 false ⟨[(0, (sType a0)), (1, (V.fn a1_fid [] [V.pro a1_c0]))], [], 9⟩ = some ⟨[(0, (sType a0)), (1, (V.fn a1_fid [] [V.pro a1_c0]))], [], 9⟩ :=
  rE rfl
theorem f69r1 (k : Nat) (a0 : (List T_api_Type)) (a1 : Nat → T_api_Type → Option Bool) (a1_fid : Go.FuncId) (a1_c0 : V) (a1_hok : ∀ j x0, EV j a1_fid [(enc_T_api_Type x0), V.pro a1_c0] = (a1 j x0).map fun b => ((V.bool b), [])) : RE k f69a1 f69o1 false ⟨[(0, (sType a0)), (1, (V.fn a1_fid [] [V.pro a1_c0]))], [], 9⟩ = (((slices_IndexFunc_Type k a0 a1).bind fun v1 => (some ((decide (v1 ≥ 0)))))).map (fun (o : Bool) => (⟨[(4, (V.bool o))], [], 9⟩ : St)) := by
  refine rg ?_
  refine ra 2 2 ⟨[(0, (sType a0)), (1, (V.fn a1_fid [] [V.pro a1_c0])), (5, (sType a0)), (6, (V.fn a1_fid [] [V.pro a1_c0]))], [], 9⟩ rfl rfl rfl ?_
  refine Eq.trans (reg_pure (x := (slices_IndexFunc_Type k a0 a1)) (w := fun v1 => (I v1)) rfl rfl rfl rfl (p_call rfl rfl rfl rfl rfl (slices_IndexFunc_Type_ok k a0 a1 a1_fid a1_c0 a1_hok) (.inl rfl))) ?_
  refine bindE (fun v1 => ?_)
  exact bind_end rfl
theorem slices_ContainsFunc_Type_ok (k : Nat) (a0 : (List T_api_Type)) (a1 : Nat → T_api_Type → Option Bool) (a1_fid : Go.FuncId) (a1_c0 : V) (a1_hok : ∀ j x0, EV j a1_fid [(enc_T_api_Type x0), V.pro a1_c0] = (a1 j x0).map fun b => ((V.bool b), [])) : EV k 69 [(sType a0), (V.fn a1_fid [] [V.pro a1_c0])] = (slices_ContainsFunc_Type k a0 a1).map slices_ContainsFunc_Type_fin := by
  cases k with
  | zero => rfl
  | succ k =>
    unfold slices_ContainsFunc_Type
    refine Eq.trans (evF_succ (c := f69c) (N := 9) (regs := f69n) rfl Go.Proofs.Try.func69 rfl (by decide) rfl rfl rfl) ?_
    refine Eq.trans (k_region0 rfl (f69r0 k a0 a1 a1_fid a1_c0 a1_hok)) ?_
    refine Eq.trans (k_region rfl (f69r1 k a0 a1 a1_fid a1_c0 a1_hok)) ?_
    refine bindE (fun o2 => ?_)
    refine Eq.trans k_lret ?_
    rfl
def dbd_areTypes_1_fin : Bool → V × List V := fun r => ((V.bool r), [])
theorem f70r0 (k : Nat) (a0 : T_api_Type) (a1 : T_api_Type) : RE k f70a0 f70o0 false ⟨[(0, (enc_T_api_Type a0)), (1, (V.pro (enc_T_api_Type a1)))], [], 9⟩ = some ⟨[(1, (V.pro (enc_T_api_Type a1))), (2, (V.ptr 2 0 0))], [(2, ⟨false, 8, [(enc_T_api_Type a0)]⟩)], 9⟩ :=
  rE rfl
theorem f70r1 (k : Nat) (a0 : T_api_Type) (a1 : T_api_Type) : RE k f70a1 f70o1 false ⟨[(1, (V.pro (enc_T_api_Type a1))), (2, (V.ptr 2 0 0))], [(2, ⟨false, 8, [(enc_T_api_Type a0)]⟩)], 9⟩ = some ⟨[(3, (V.bool (a0.fName == a1.fName)))], [], 9⟩ :=
  rE rfl
theorem dbd_areTypes_1_ok (k : Nat) (a0 : T_api_Type) (a1 : T_api_Type) : EV k 70 [(enc_T_api_Type a0), (V.pro (enc_T_api_Type a1))] = (dbd_areTypes_1 k a0 a1).map dbd_areTypes_1_fin := by
  cases k with
  | zero => rfl
  | succ k =>
    unfold dbd_areTypes_1
    refine Eq.trans (evF_succ (c := f70c) (N := 9) (regs := f70n) rfl Go.Proofs.Try.func70 rfl (by decide) rfl rfl rfl) ?_
    refine Eq.trans (k_region0 rfl (f70r0 k a0 a1)) ?_
    refine Eq.trans (k_region0 rfl (f70r1 k a0 a1)) ?_
    refine Eq.trans k_lret ?_
    rfl
def slices_Index_int_fin : Int → V × List V := fun r => ((I r), [])
theorem f53r0 (k : Nat) (a0 : (List Int)) (a1 : Int) : RE k f53a0 f53o0 false ⟨[(0, (sI a0)), (1, (I a1))], [], 19⟩ = some ⟨[(0, (sI a0)), (1, (I a1))], [], 19⟩ :=
  rE rfl
theorem f53r1 (k : Nat) (a0 : (List Int)) (a1 : Int) : RE k f53a1 f53o1 false ⟨[(0, (sI a0)), (1, (I a1))], [], 19⟩ = some ⟨[(0, (sI a0)), (1, (I a1)), (7, (I (a0.length : Int))), (8, (I 0))], [], 19⟩ := by
  refine rg ?_
  refine ra 1 1 ⟨[(0, (sI a0)), (1, (I a1)), (6, (sI a0))], [], 19⟩ rfl rfl rfl ?_
  refine Eq.trans (reg_pure (x := some ()) (w := fun _ => (I (a0.length : Int))) rfl rfl rfl rfl (p_len (e := I) rfl rfl rfl rfl rfl rfl Go.Proofs.Try.underlying28)) ?_
  refine Eq.trans some_bind ?_
  exact bind_end rfl
theorem f53r2 (k : Nat) (a0 : (List Int)) (a1 : Int) (x3 : Int) : RE k f53a2 f53o2 false ⟨[(0, (sI a0)), (1, (I a1)), (7, (I (a0.length : Int))), (8, (I x3))], [], 19⟩ = some ⟨[(0, (sI a0)), (1, (I a1)), (7, (I (a0.length : Int))), (8, (I x3)), (9, (V.bool (decide (x3 < (a0.length : Int)))))], [], 19⟩ :=
  rE rfl
theorem f53r3 (k : Nat) (a0 : (List Int)) (a1 : Int) (x3 : Int) : RE k f53a3 f53o3 false ⟨[(0, (sI a0)), (1, (I a1)), (7, (I (a0.length : Int))), (8, (I x3)), (9, (V.bool true))], [], 19⟩ = some ⟨[(0, (sI a0)), (1, (I a1)), (5, (I x3)), (7, (I (a0.length : Int))), (8, (I x3))], [], 19⟩ :=
  rE rfl
theorem f53r4 (k : Nat) (a0 : (List Int)) (a1 : Int) (x3 : Int) : RE k f53a4 f53o4 false ⟨[(0, (sI a0)), (1, (I a1)), (5, (I x3)), (7, (I (a0.length : Int))), (8, (I x3))], [], 19⟩ = (((idx a0 x3).bind fun v4 => (some ((a1 == v4))))).map (fun (o : Bool) => (⟨[(0, (sI a0)), (1, (I a1)), (5, (I x3)), (7, (I (a0.length : Int))), (8, (I x3)), (16, (V.bool o))], [], 19⟩ : St)) := by
  refine rg ?_
  refine ra 3 3 ⟨[(0, (sI a0)), (1, (I a1)), (5, (I x3)), (7, (I (a0.length : Int))), (8, (I x3)), (11, (I a1)), (12, (sI a0)), (13, (I x3))], [], 19⟩ rfl rfl rfl ?_
  refine Eq.trans (reg_pure (x := (idx a0 x3)) (w := fun v4 => (V.pro (I v4))) rfl rfl rfl rfl (p_index (e := I) rfl rfl rfl Go.Proofs.Try.underlying28 rfl (by decide))) ?_
  refine bindE (fun v4 => ?_)
  exact bind_end rfl
theorem f53r5 (k : Nat) (a0 : (List Int)) (a1 : Int) (x3 : Int) : RE k f53a5 f53o5 false ⟨[(0, (sI a0)), (1, (I a1)), (5, (I x3)), (7, (I (a0.length : Int))), (8, (I x3)), (16, (V.bool true))], [], 19⟩ = some ⟨[(4, (I x3))], [], 19⟩ :=
  rE rfl
theorem f53r6 (k : Nat) (a0 : (List Int)) (a1 : Int) (x3 : Int) : RE k f53a6 f53o6 false ⟨[(0, (sI a0)), (1, (I a1)), (5, (I x3)), (7, (I (a0.length : Int))), (8, (I x3)), (16, (V.bool false))], [], 19⟩ = some ⟨[(0, (sI a0)), (1, (I a1)), (7, (I (a0.length : Int))), (8, (I (Go.IntKind.wrap .i64 (x3 + 1))))], [], 19⟩ :=
  rE rfl
theorem slices_Index_int_L1_ok (k : Nat) (a0 : (List Int)) (a1 : Int)  (K0 : Int → Option Int) (Kst : X × St → Option (V × List V)) (hK0 : ∀ (y0 : Int), Kst (X.exit 0, ⟨[(0, (sI a0)), (1, (I a1)), (7, (I (a0.length : Int))), (8, (I y0)), (9, (V.bool false))], [], 19⟩) = (K0 y0).map slices_Index_int_fin) (hret : ∀ s, Kst (X.ret, s) = endK prog 19 [(sI a0), (I a1)] [] [.tmp 4] (X.ret, s)) :
    ∀ (m : Nat) (x3 : Int), (iter (exec prog (EV k) f53n k f53b0) m ⟨[(0, (sI a0)), (1, (I a1)), (7, (I (a0.length : Int))), (8, (I x3))], [], 19⟩).bind Kst = (slices_Index_int_L1 a0 a1 K0 m x3).map slices_Index_int_fin := by
  intro m
  induction m with
  | zero => intros; rfl
  | succ m ih =>
    intro x3
    unfold slices_Index_int_L1
    refine Eq.trans k_round ?_
    refine Eq.trans (k_region0 rfl (f53r2 k a0 a1 x3)) ?_
    refine Eq.trans (k_cond (t := (decide (x3 < (a0.length : Int)))) rfl) ?_
    refine bifE2 (fun hc => ?_) fun hc => ?_
    · rw [hc]
      refine Eq.trans k_skip ?_
      refine Eq.trans k_block ?_
      refine Eq.trans (k_region0 rfl (f53r3 k a0 a1 x3)) ?_
      refine Eq.trans (k_region rfl (f53r4 k a0 a1 x3)) ?_
      refine bindE (fun o5 => ?_)
      refine Eq.trans (k_lcond (t := o5) rfl) ?_
      refine bifE2 (fun hc => ?_) fun hc => ?_
      · rw [hc]
        refine Eq.trans (k_region0 rfl (f53r5 k a0 a1 x3)) ?_
        refine Eq.trans k_lret ?_
        refine Eq.trans blk_ret ?_
        refine Eq.trans loop_ret ?_
        refine Eq.trans (hret _) ?_
        rfl
      · rw [hc]
        refine Eq.trans k_lskip ?_
        refine Eq.trans blk_normal ?_
        refine Eq.trans (k_lregion0 rfl (f53r6 k a0 a1 x3)) ?_
        refine Eq.trans loop_normal ?_
        exact ih (Go.IntKind.wrap .i64 (x3 + 1))
    · rw [hc]
      refine Eq.trans k_exit ?_
      refine Eq.trans loop_exit ?_
      exact hK0 x3
theorem f53r7 (k : Nat) (a0 : (List Int)) (a1 : Int) (y6 : Int) : RE k f53a7 f53o7 false ⟨[(0, (sI a0)), (1, (I a1)), (7, (I (a0.length : Int))), (8, (I y6)), (9, (V.bool false))], [], 19⟩ = some ⟨[(4, (I (-1)))], [], 19⟩ :=
  rE rfl
theorem slices_Index_int_ok (k : Nat) (a0 : (List Int)) (a1 : Int) : EV k 53 [(sI a0), (I a1)] = (slices_Index_int k a0 a1).map slices_Index_int_fin := by
  cases k with
  | zero => rfl
  | succ k =>
    unfold slices_Index_int
    refine Eq.trans (evF_succ (c := f53c) (N := 19) (regs := f53n) rfl Go.Proofs.Try.func53 rfl (by decide) rfl rfl rfl) ?_
    refine Eq.trans (k_region0 rfl (f53r0 k a0 a1)) ?_
    refine Eq.trans k_assoc ?_
    refine Eq.trans (k_region0 rfl (f53r1 k a0 a1)) ?_
    refine Eq.trans k_block ?_
    refine Eq.trans k_loop ?_
    refine slices_Index_int_L1_ok k a0 a1 _ _ ?h_slices_Index_int_L1_0 ?hr_slices_Index_int_L1 k 0
    · intro y6
      refine Eq.trans blk_exit ?_
      refine Eq.trans (k_region0 rfl (f53r7 k a0 a1 y6)) ?_
      refine Eq.trans k_lret ?_
      rfl
    · intro s; exact rfl
def dbd_areTypes_fin : Bool → V × List V := fun r => ((V.bool r), [])
theorem f57r0 (k : Nat) (a0 : (List T_api_Type)) : RE k f57a0 f57o0 false ⟨[(0, (sType a0))], [], 82⟩ = some ⟨[(0, (sType a0))], [], 82⟩ :=
  rE rfl
theorem f57r1 (k : Nat) (a0 : (List T_api_Type)) : RE k f57a1 f57o1 false ⟨[(0, (sType a0))], [], 82⟩ = ((bif (decide ((a0.length : Int) < 1)) then (some (true)) else (some ((decide ((a0.length : Int) > 8)))))).map (fun (o : Bool) => (⟨[(0, (sType a0)), (14, (V.bool o))], [], 82⟩ : St)) := by
  refine rg ?_
  refine ra 1 1 ⟨[(0, (sType a0)), (7, (sType a0))], [], 82⟩ rfl rfl rfl ?_
  refine Eq.trans (reg_pure (x := some ()) (w := fun _ => (I (a0.length : Int))) rfl rfl rfl rfl (p_len (e := enc_T_api_Type) rfl rfl rfl rfl rfl rfl Go.Proofs.Try.underlying22)) ?_
  refine Eq.trans some_bind ?_
  refine ba 2 4 ⟨[(0, (sType a0)), (7, (sType a0)), (8, (I (a0.length : Int))), (9, (V.bool (decide ((a0.length : Int) < 1)))), (10, (V.bool (decide ((a0.length : Int) < 1))))], [], 82⟩ rfl rfl rfl ?_
  refine bifE (c := (decide ((a0.length : Int) < 1))) (fun hc => ?_) fun hc => ?_
  · rw [hc]
    exact reg_end rfl
  · rw [hc]
    refine ra 1 5 ⟨[(0, (sType a0)), (7, (sType a0)), (8, (I (a0.length : Int))), (9, (V.bool false)), (10, (V.bool false)), (11, (sType a0))], [], 82⟩ rfl rfl rfl ?_
    refine Eq.trans (reg_pure (x := some ()) (w := fun _ => (I (a0.length : Int))) rfl rfl rfl rfl (p_len (e := enc_T_api_Type) rfl rfl rfl rfl rfl rfl Go.Proofs.Try.underlying22)) ?_
    refine Eq.trans some_bind ?_
    exact bind_end rfl
theorem f57r2 (k : Nat) (a0 : (List T_api_Type)) : RE k f57a2 f57o2 false ⟨[(0, (sType a0)), (14, (V.bool true))], [], 82⟩ = some ⟨[(2, (V.bool false))], [], 82⟩ :=
  rE rfl
theorem f57r3 (k : Nat) (a0 : (List T_api_Type)) : RE k f57a3 f57o3 false ⟨[(0, (sType a0)), (14, (V.bool false))], [], 82⟩ = some ⟨[(0, (sType a0)), (3, (V.aref 3 0 (List.map I ([] : List Int)).length))], [(3, ⟨true, 1, List.map I ([] : List Int)⟩)], 82⟩ :=
  rE rfl
theorem f57r4 (k : Nat) (a0 : (List T_api_Type)) : RE k f57a4 f57o4 false ⟨[(0, (sType a0)), (3, (V.aref 3 0 (List.map I ([] : List Int)).length))], [(3, ⟨true, 1, List.map I ([] : List Int)⟩)], 82⟩ = some ⟨[(0, (sType a0)), (3, (V.aref 3 0 (List.map I ([] : List Int)).length)), (15, (sType a0)), (16, (I (a0.length : Int))), (17, (I 0))], [(3, ⟨true, 1, List.map I ([] : List Int)⟩)], 82⟩ := by
  refine rg ?_
  refine ra 1 1 ⟨[(0, (sType a0)), (3, (V.aref 3 0 (List.map I ([] : List Int)).length)), (15, (sType a0))], [(3, ⟨true, 1, List.map I ([] : List Int)⟩)], 82⟩ rfl rfl rfl ?_
  refine Eq.trans (reg_pure (x := some ()) (w := fun _ => (I (a0.length : Int))) rfl rfl rfl rfl (p_len (e := enc_T_api_Type) rfl rfl rfl rfl rfl rfl Go.Proofs.Try.underlying22)) ?_
  refine Eq.trans some_bind ?_
  exact bind_end rfl
theorem f57r5 (k : Nat) (a0 : (List T_api_Type)) (x15 : Int) (x16 : (List Int)) : RE k f57a5 f57o5 false ⟨[(0, (sType a0)), (3, (V.aref 3 0 (List.map I x16).length)), (15, (sType a0)), (16, (I (a0.length : Int))), (17, (I x15))], [(3, ⟨true, 1, List.map I x16⟩)], 82⟩ = some ⟨[(0, (sType a0)), (3, (V.aref 3 0 (List.map I x16).length)), (15, (sType a0)), (16, (I (a0.length : Int))), (17, (I x15)), (18, (V.bool (decide (x15 < (a0.length : Int)))))], [(3, ⟨true, 1, List.map I x16⟩)], 82⟩ :=
  rE rfl
theorem f57r6 (k : Nat) (a0 : (List T_api_Type)) (x15 : Int) (x16 : (List Int)) : RE k f57a6 f57o6 false ⟨[(0, (sType a0)), (3, (V.aref 3 0 (List.map I x16).length)), (15, (sType a0)), (16, (I (a0.length : Int))), (17, (I x15)), (18, (V.bool true))], [(3, ⟨true, 1, List.map I x16⟩)], 82⟩ = (((idx a0 x15).bind fun v17 => (some (x15, v17)))).map (fun (o : Int × T_api_Type) => (⟨[(0, (sType a0)), (3, (V.aref 3 0 (List.map I x16).length)), (4, (I o.1)), (5, (V.ptr 5 0 0)), (15, (sType a0)), (16, (I (a0.length : Int))), (17, (I x15))], [(3, ⟨true, 1, List.map I x16⟩), (5, ⟨false, 8, [(enc_T_api_Type o.2)]⟩)], 82⟩ : St)) := by
  refine rg ?_
  refine ra 1 1 ⟨[(0, (sType a0)), (3, (V.aref 3 0 (List.map I x16).length)), (15, (sType a0)), (16, (I (a0.length : Int))), (17, (I x15)), (18, (V.bool true)), (19, (I x15))], [(3, ⟨true, 1, List.map I x16⟩)], 82⟩ rfl rfl rfl ?_
  refine Eq.trans (reg_pure (x := (idx a0 x15)) (w := fun v17 => (V.pro (enc_T_api_Type v17))) rfl rfl rfl rfl (p_index (e := enc_T_api_Type) rfl rfl rfl Go.Proofs.Try.underlying22 rfl (by decide))) ?_
  refine bindE (fun v17 => ?_)
  exact bind_end rfl
theorem f57r7 (k : Nat) (a0 : (List T_api_Type)) (x15 : Int) (x16 : (List Int)) (o18 : Int × T_api_Type) : RE k f57a7 f57o7 false ⟨[(0, (sType a0)), (3, (V.aref 3 0 (List.map I x16).length)), (4, (I o18.1)), (5, (V.ptr 5 0 0)), (15, (sType a0)), (16, (I (a0.length : Int))), (17, (I x15))], [(3, ⟨true, 1, List.map I x16⟩), (5, ⟨false, 8, [(enc_T_api_Type o18.2)]⟩)], 82⟩ = (((dbd_isType k o18.2).bind fun v19 => (bif (!v19) then (some (true)) else ((cut a0 0 o18.1).bind fun v20 => (slices_ContainsFunc_Type k v20 (fun j x0 => (dbd_areTypes_1 j x0 o18.2))))))).map (fun (o : Bool) => (⟨[(0, (sType a0)), (3, (V.aref 3 0 (List.map I x16).length)), (4, (I o18.1)), (5, (V.ptr 5 0 0)), (15, (sType a0)), (16, (I (a0.length : Int))), (17, (I x15)), (31, (V.bool o))], [(3, ⟨true, 1, List.map I x16⟩), (5, ⟨false, 8, [(enc_T_api_Type o18.2)]⟩)], 82⟩ : St)) := by
  refine rg ?_
  refine ra 1 1 ⟨[(0, (sType a0)), (3, (V.aref 3 0 (List.map I x16).length)), (4, (I o18.1)), (5, (V.ptr 5 0 0)), (15, (sType a0)), (16, (I (a0.length : Int))), (17, (I x15)), (22, (enc_T_api_Type o18.2))], [(3, ⟨true, 1, List.map I x16⟩), (5, ⟨false, 8, [(enc_T_api_Type o18.2)]⟩)], 82⟩ rfl rfl rfl ?_
  refine Eq.trans (reg_pure (x := (dbd_isType k o18.2)) (w := fun v19 => (V.bool v19)) rfl rfl rfl rfl (p_call rfl rfl rfl rfl rfl (dbd_isType_ok k o18.2) (.inl rfl))) ?_
  refine bindE (fun v19 => ?_)
  refine ba 2 4 ⟨[(0, (sType a0)), (3, (V.aref 3 0 (List.map I x16).length)), (4, (I o18.1)), (5, (V.ptr 5 0 0)), (15, (sType a0)), (16, (I (a0.length : Int))), (17, (I x15)), (22, (enc_T_api_Type o18.2)), (23, (V.bool v19)), (24, (V.bool (!v19))), (25, (V.bool (!v19)))], [(3, ⟨true, 1, List.map I x16⟩), (5, ⟨false, 8, [(enc_T_api_Type o18.2)]⟩)], 82⟩ rfl rfl rfl ?_
  refine bifE (c := (!v19)) (fun hc => ?_) fun hc => ?_
  · rw [hc]
    exact reg_end rfl
  · rw [hc]
    refine ra 2 6 ⟨[(0, (sType a0)), (3, (V.aref 3 0 (List.map I x16).length)), (4, (I o18.1)), (5, (V.ptr 5 0 0)), (15, (sType a0)), (16, (I (a0.length : Int))), (17, (I x15)), (22, (enc_T_api_Type o18.2)), (23, (V.bool v19)), (24, (V.bool false)), (25, (V.bool false)), (26, (sType a0)), (27, (I o18.1))], [(3, ⟨true, 1, List.map I x16⟩), (5, ⟨false, 8, [(enc_T_api_Type o18.2)]⟩)], 82⟩ rfl rfl rfl ?_
    refine Eq.trans (reg_pure (x := (cut a0 0 o18.1)) (w := fun v20 => (sType v20)) rfl rfl rfl rfl (p_slice (e := enc_T_api_Type) rfl rfl rfl rfl rfl rfl Go.Proofs.Try.underlying22 rfl (by decide))) ?_
    refine bindE (fun v20 => ?_)
    refine ba 1 8 ⟨[(0, (sType a0)), (3, (V.aref 3 0 (List.map I x16).length)), (4, (I o18.1)), (5, (V.ptr 5 0 0)), (15, (sType a0)), (16, (I (a0.length : Int))), (17, (I x15)), (22, (enc_T_api_Type o18.2)), (23, (V.bool v19)), (24, (V.bool false)), (25, (V.bool false)), (26, (sType a0)), (27, (I o18.1)), (28, (sType v20)), (29, (V.fn 70 [] [(V.ptr 5 0 0)]))], [(3, ⟨true, 1, List.map I x16⟩), (5, ⟨false, 8, [(enc_T_api_Type o18.2)]⟩)], 82⟩ rfl rfl rfl ?_
    refine Eq.trans (reg_pure (x := (slices_ContainsFunc_Type k v20 (fun j x0 => (dbd_areTypes_1 j x0 o18.2)))) (w := fun v21 => (V.bool v21)) rfl rfl rfl rfl (p_call rfl rfl rfl rfl rfl (slices_ContainsFunc_Type_ok k v20 (fun j x0 => (dbd_areTypes_1 j x0 o18.2)) 70 (enc_T_api_Type o18.2) (fun j x0 => (dbd_areTypes_1_ok j x0 o18.2))) (.inr (fun _ => rfl)))) ?_
    refine bind_self (fun v21 => ?_)
    exact bind_end rfl
theorem f57r8 (k : Nat) (a0 : (List T_api_Type)) (x15 : Int) (x16 : (List Int)) (o18 : Int × T_api_Type) : RE k f57a8 f57o8 false ⟨[(0, (sType a0)), (3, (V.aref 3 0 (List.map I x16).length)), (4, (I o18.1)), (5, (V.ptr 5 0 0)), (15, (sType a0)), (16, (I (a0.length : Int))), (17, (I x15)), (31, (V.bool true))], [(3, ⟨true, 1, List.map I x16⟩), (5, ⟨false, 8, [(enc_T_api_Type o18.2)]⟩)], 82⟩ = some ⟨[(2, (V.bool false))], [], 82⟩ :=
  rE rfl
theorem f57r9 (k : Nat) (a0 : (List T_api_Type)) (x15 : Int) (x16 : (List Int)) (o18 : Int × T_api_Type) : RE k f57a9 f57o9 false ⟨[(0, (sType a0)), (3, (V.aref 3 0 (List.map I x16).length)), (4, (I o18.1)), (5, (V.ptr 5 0 0)), (15, (sType a0)), (16, (I (a0.length : Int))), (17, (I x15)), (31, (V.bool false))], [(3, ⟨true, 1, List.map I x16⟩), (5, ⟨false, 8, [(enc_T_api_Type o18.2)]⟩)], 82⟩ = ((slices_Index_int k x16 o18.2.fParent)).map (fun (o : Int) => (⟨[(0, (sType a0)), (3, (V.aref 3 0 (List.map I x16).length)), (4, (I o18.1)), (5, (V.ptr 5 0 0)), (6, (I o)), (15, (sType a0)), (16, (I (a0.length : Int))), (17, (I x15))], [(3, ⟨true, 1, List.map I x16⟩), (5, ⟨false, 8, [(enc_T_api_Type o18.2)]⟩)], 82⟩ : St)) := by
  refine rg ?_
  refine ra 3 3 ⟨[(0, (sType a0)), (3, (V.aref 3 0 (List.map I x16).length)), (4, (I o18.1)), (5, (V.ptr 5 0 0)), (15, (sType a0)), (16, (I (a0.length : Int))), (17, (I x15)), (31, (V.bool false)), (32, (V.aref 3 0 (List.map I x16).length)), (33, (V.ptr 5 0 1)), (34, (I o18.2.fParent))], [(3, ⟨true, 1, List.map I x16⟩), (5, ⟨false, 8, [(enc_T_api_Type o18.2)]⟩)], 82⟩ rfl rfl rfl ?_
  refine Eq.trans (reg_pure (x := (slices_Index_int k x16 o18.2.fParent)) (w := fun v23 => (I v23)) rfl rfl rfl rfl (p_call rfl rfl rfl rfl (argsL (lendA (e := I) rfl) (by intro s i q h; cases h) (argsL rfl (by intro s i q h; cases h) rfl)) (slices_Index_int_ok k x16 o18.2.fParent) (.inr (fun _ => rfl)))) ?_
  refine bind_self (fun v23 => ?_)
  exact bind_end rfl
theorem f57r10 (k : Nat) (a0 : (List T_api_Type)) (x15 : Int) (x16 : (List Int)) (o18 : Int × T_api_Type) (o24 : Int) : RE k f57a10 f57o10 false ⟨[(0, (sType a0)), (3, (V.aref 3 0 (List.map I x16).length)), (4, (I o18.1)), (5, (V.ptr 5 0 0)), (6, (I o24)), (15, (sType a0)), (16, (I (a0.length : Int))), (17, (I x15))], [(3, ⟨true, 1, List.map I x16⟩), (5, ⟨false, 8, [(enc_T_api_Type o18.2)]⟩)], 82⟩ = ((bif (o18.1 == 0) then (bif (o18.2.fParent != (-1)) then (some (true)) else (bif (decide (o18.2.fKey < 0)) then (some (true)) else (bif (!o18.2.fUnique) then (some (true)) else ((idx o18.2.fFields o18.2.fKey).bind fun v25 => (bif (decide (v25.fBytes > 24)) then (some (true)) else (bif (decide (o18.1 > 0)) then (some ((decide (o24 < 0)))) else (some (false)))))))) else (bif (decide (o18.1 > 0)) then (some ((decide (o24 < 0)))) else (some (false))))).map (fun (o : Bool) => (⟨[(0, (sType a0)), (3, (V.aref 3 0 (List.map I x16).length)), (4, (I o18.1)), (6, (I o24)), (15, (sType a0)), (16, (I (a0.length : Int))), (17, (I x15)), (70, (V.bool o))], [(3, ⟨true, 1, List.map I x16⟩)], 82⟩ : St)) := by
  refine rg ?_
  refine ra 3 3 ⟨[(0, (sType a0)), (3, (V.aref 3 0 (List.map I x16).length)), (4, (I o18.1)), (5, (V.ptr 5 0 0)), (6, (I o24)), (15, (sType a0)), (16, (I (a0.length : Int))), (17, (I x15)), (36, (I o18.1)), (37, (V.bool (o18.1 == 0))), (38, (V.bool (o18.1 == 0)))], [(3, ⟨true, 1, List.map I x16⟩), (5, ⟨false, 8, [(enc_T_api_Type o18.2)]⟩)], 82⟩ rfl rfl rfl ?_
  refine bifE (c := (o18.1 == 0)) (fun hc => ?_) fun hc => ?_
  · rw [hc]
    refine ra 4 7 ⟨[(0, (sType a0)), (3, (V.aref 3 0 (List.map I x16).length)), (4, (I o18.1)), (5, (V.ptr 5 0 0)), (6, (I o24)), (15, (sType a0)), (16, (I (a0.length : Int))), (17, (I x15)), (36, (I o18.1)), (37, (V.bool true)), (38, (V.bool true)), (39, (V.ptr 5 0 1)), (40, (I o18.2.fParent)), (41, (V.bool (o18.2.fParent != (-1)))), (42, (V.bool (o18.2.fParent != (-1))))], [(3, ⟨true, 1, List.map I x16⟩), (5, ⟨false, 8, [(enc_T_api_Type o18.2)]⟩)], 82⟩ rfl rfl rfl ?_
    refine bifE (c := (o18.2.fParent != (-1))) (fun hc => ?_) fun hc => ?_
    · rw [hc]
      exact reg_end rfl
    · rw [hc]
      refine ra 5 12 ⟨[(0, (sType a0)), (3, (V.aref 3 0 (List.map I x16).length)), (4, (I o18.1)), (5, (V.ptr 5 0 0)), (6, (I o24)), (15, (sType a0)), (16, (I (a0.length : Int))), (17, (I x15)), (36, (I o18.1)), (37, (V.bool true)), (38, (V.bool true)), (39, (V.ptr 5 0 1)), (40, (I o18.2.fParent)), (41, (V.bool false)), (42, (V.bool false)), (43, (V.ptr 5 0 5)), (44, (I o18.2.fKey)), (45, (V.bool (decide (o18.2.fKey < 0)))), (46, (V.bool (decide (o18.2.fKey < 0)))), (47, (V.bool (decide (o18.2.fKey < 0))))], [(3, ⟨true, 1, List.map I x16⟩), (5, ⟨false, 8, [(enc_T_api_Type o18.2)]⟩)], 82⟩ rfl rfl rfl ?_
      refine bifE (c := (decide (o18.2.fKey < 0))) (fun hc => ?_) fun hc => ?_
      · rw [hc]
        exact reg_end rfl
      · rw [hc]
        refine ra 5 17 ⟨[(0, (sType a0)), (3, (V.aref 3 0 (List.map I x16).length)), (4, (I o18.1)), (5, (V.ptr 5 0 0)), (6, (I o24)), (15, (sType a0)), (16, (I (a0.length : Int))), (17, (I x15)), (36, (I o18.1)), (37, (V.bool true)), (38, (V.bool true)), (39, (V.ptr 5 0 1)), (40, (I o18.2.fParent)), (41, (V.bool false)), (42, (V.bool false)), (43, (V.ptr 5 0 5)), (44, (I o18.2.fKey)), (45, (V.bool false)), (46, (V.bool false)), (47, (V.bool false)), (48, (V.ptr 5 0 6)), (49, (V.bool o18.2.fUnique)), (50, (V.bool (!o18.2.fUnique))), (51, (V.bool (!o18.2.fUnique))), (52, (V.bool (!o18.2.fUnique)))], [(3, ⟨true, 1, List.map I x16⟩), (5, ⟨false, 8, [(enc_T_api_Type o18.2)]⟩)], 82⟩ rfl rfl rfl ?_
        refine bifE (c := (!o18.2.fUnique)) (fun hc => ?_) fun hc => ?_
        · rw [hc]
          exact reg_end rfl
        · rw [hc]
          refine ra 4 21 ⟨[(0, (sType a0)), (3, (V.aref 3 0 (List.map I x16).length)), (4, (I o18.1)), (5, (V.ptr 5 0 0)), (6, (I o24)), (15, (sType a0)), (16, (I (a0.length : Int))), (17, (I x15)), (36, (I o18.1)), (37, (V.bool true)), (38, (V.bool true)), (39, (V.ptr 5 0 1)), (40, (I o18.2.fParent)), (41, (V.bool false)), (42, (V.bool false)), (43, (V.ptr 5 0 5)), (44, (I o18.2.fKey)), (45, (V.bool false)), (46, (V.bool false)), (47, (V.bool false)), (48, (V.ptr 5 0 6)), (49, (V.bool o18.2.fUnique)), (50, (V.bool false)), (51, (V.bool false)), (52, (V.bool false)), (53, (V.ptr 5 0 4)), (54, (sField (o18.2.fFields))), (55, (V.ptr 5 0 5)), (56, (I o18.2.fKey))], [(3, ⟨true, 1, List.map I x16⟩), (5, ⟨false, 8, [(enc_T_api_Type o18.2)]⟩)], 82⟩ rfl rfl rfl ?_
          refine Eq.trans (reg_pure (x := (idx o18.2.fFields o18.2.fKey)) (w := fun v25 => (V.pro (enc_T_api_Field v25))) rfl rfl rfl rfl (p_index (e := enc_T_api_Field) rfl rfl rfl Go.Proofs.Try.underlying53 rfl (by decide))) ?_
          refine bindE (fun v25 => ?_)
          refine ba 6 28 ⟨[(0, (sType a0)), (3, (V.aref 3 0 (List.map I x16).length)), (4, (I o18.1)), (5, (V.ptr 5 0 0)), (6, (I o24)), (15, (sType a0)), (16, (I (a0.length : Int))), (17, (I x15)), (36, (I o18.1)), (37, (V.bool true)), (38, (V.bool true)), (39, (V.ptr 5 0 1)), (40, (I o18.2.fParent)), (41, (V.bool false)), (42, (V.bool false)), (43, (V.ptr 5 0 5)), (44, (I o18.2.fKey)), (45, (V.bool false)), (46, (V.bool false)), (47, (V.bool false)), (48, (V.ptr 5 0 6)), (49, (V.bool o18.2.fUnique)), (50, (V.bool false)), (51, (V.bool false)), (52, (V.bool false)), (53, (V.ptr 5 0 4)), (54, (sField (o18.2.fFields))), (55, (V.ptr 5 0 5)), (56, (I o18.2.fKey)), (57, (V.pro (enc_T_api_Field v25))), (58, (V.pro (I v25.fBytes))), (59, (I v25.fBytes)), (60, (V.bool (decide (v25.fBytes > 24)))), (61, (V.bool (decide (v25.fBytes > 24)))), (62, (V.bool (decide (v25.fBytes > 24)))), (63, (V.bool (decide (v25.fBytes > 24))))], [(3, ⟨true, 1, List.map I x16⟩), (5, ⟨false, 8, [(enc_T_api_Type o18.2)]⟩)], 82⟩ rfl rfl rfl ?_
          refine bifE (c := (decide (v25.fBytes > 24))) (fun hc => ?_) fun hc => ?_
          · rw [hc]
            exact reg_end rfl
          · rw [hc]
            refine ra 3 31 ⟨[(0, (sType a0)), (3, (V.aref 3 0 (List.map I x16).length)), (4, (I o18.1)), (5, (V.ptr 5 0 0)), (6, (I o24)), (15, (sType a0)), (16, (I (a0.length : Int))), (17, (I x15)), (36, (I o18.1)), (37, (V.bool true)), (38, (V.bool true)), (39, (V.ptr 5 0 1)), (40, (I o18.2.fParent)), (41, (V.bool false)), (42, (V.bool false)), (43, (V.ptr 5 0 5)), (44, (I o18.2.fKey)), (45, (V.bool false)), (46, (V.bool false)), (47, (V.bool false)), (48, (V.ptr 5 0 6)), (49, (V.bool o18.2.fUnique)), (50, (V.bool false)), (51, (V.bool false)), (52, (V.bool false)), (53, (V.ptr 5 0 4)), (54, (sField (o18.2.fFields))), (55, (V.ptr 5 0 5)), (56, (I o18.2.fKey)), (57, (V.pro (enc_T_api_Field v25))), (58, (V.pro (I v25.fBytes))), (59, (I v25.fBytes)), (60, (V.bool false)), (61, (V.bool false)), (62, (V.bool false)), (63, (V.bool false)), (64, (I o18.1)), (65, (V.bool (decide (o18.1 > 0)))), (66, (V.bool (decide (o18.1 > 0))))], [(3, ⟨true, 1, List.map I x16⟩), (5, ⟨false, 8, [(enc_T_api_Type o18.2)]⟩)], 82⟩ rfl rfl rfl ?_
            refine bifE (c := (decide (o18.1 > 0))) (fun hc => ?_) fun hc => ?_
            · rw [hc]
              exact reg_end rfl
            · rw [hc]
              exact reg_end rfl
  · rw [hc]
    refine ra 28 31 ⟨[(0, (sType a0)), (3, (V.aref 3 0 (List.map I x16).length)), (4, (I o18.1)), (5, (V.ptr 5 0 0)), (6, (I o24)), (15, (sType a0)), (16, (I (a0.length : Int))), (17, (I x15)), (36, (I o18.1)), (37, (V.bool false)), (38, (V.bool false)), (39, (V.tup [])), (40, (V.tup [])), (41, (V.tup [])), (42, (V.tup [])), (43, (V.tup [])), (44, (V.tup [])), (45, (V.tup [])), (46, (V.tup [])), (47, (V.tup [])), (48, (V.tup [])), (49, (V.tup [])), (50, (V.tup [])), (51, (V.tup [])), (52, (V.tup [])), (53, (V.tup [])), (54, (V.tup [])), (55, (V.tup [])), (56, (V.tup [])), (57, (V.tup [])), (58, (V.tup [])), (59, (V.tup [])), (60, (V.tup [])), (61, (V.tup [])), (62, (V.bool false)), (63, (V.bool false)), (64, (I o18.1)), (65, (V.bool (decide (o18.1 > 0)))), (66, (V.bool (decide (o18.1 > 0))))], [(3, ⟨true, 1, List.map I x16⟩), (5, ⟨false, 8, [(enc_T_api_Type o18.2)]⟩)], 82⟩ rfl rfl rfl ?_
    refine bifE (c := (decide (o18.1 > 0))) (fun hc => ?_) fun hc => ?_
    · rw [hc]
      exact reg_end rfl
    · rw [hc]
      exact reg_end rfl
theorem f57r11 (k : Nat) (a0 : (List T_api_Type)) (x15 : Int) (x16 : (List Int)) (o18 : Int × T_api_Type) (o24 : Int) : RE k f57a11 f57o11 false ⟨[(0, (sType a0)), (3, (V.aref 3 0 (List.map I x16).length)), (4, (I o18.1)), (6, (I o24)), (15, (sType a0)), (16, (I (a0.length : Int))), (17, (I x15)), (70, (V.bool true))], [(3, ⟨true, 1, List.map I x16⟩)], 82⟩ = some ⟨[(2, (V.bool false))], [], 82⟩ :=
  rE rfl
theorem f57r12 (k : Nat) (a0 : (List T_api_Type)) (x15 : Int) (x16 : (List Int)) (o18 : Int × T_api_Type) (o24 : Int) : RE k f57a12 f57o12 false ⟨[(0, (sType a0)), (3, (V.aref 3 0 (List.map I x16).length)), (4, (I o18.1)), (6, (I o24)), (15, (sType a0)), (16, (I (a0.length : Int))), (17, (I x15)), (70, (V.bool false))], [(3, ⟨true, 1, List.map I x16⟩)], 82⟩ = (((upTo x16 (Go.IntKind.wrap .i64 (o24 + 1))).bind fun v27 => (app (List.take v27 x16) ([o18.1] : List Int)))).map (fun (o : (List Int)) => (⟨[(0, (sType a0)), (3, (V.aref 3 0 (List.map I o).length)), (15, (sType a0)), (16, (I (a0.length : Int))), (17, (I x15))], [(3, ⟨true, 1, List.map I o⟩)], 82⟩ : St)) := by
  refine rg ?_
  refine ra 3 3 ⟨[(0, (sType a0)), (3, (V.aref 3 0 (List.map I x16).length)), (4, (I o18.1)), (6, (I o24)), (15, (sType a0)), (16, (I (a0.length : Int))), (17, (I x15)), (70, (V.bool false)), (71, (V.aref 3 0 (List.map I x16).length)), (72, (I o24)), (73, (I (Go.IntKind.wrap .i64 (o24 + 1))))], [(3, ⟨true, 1, List.map I x16⟩)], 82⟩ rfl rfl rfl ?_
  refine Eq.trans (reg_pure (x := (upTo x16 (Go.IntKind.wrap .i64 (o24 + 1)))) (w := fun v27 => (V.aref 3 0 v27)) rfl rfl rfl rfl (p_sliceA (e := I) rfl rfl rfl Go.Proofs.Try.underlying28 (by decide))) ?_
  refine bindX (fun v27 hv27 => ?_)
  refine ba 2 6 ⟨[(0, (sType a0)), (3, (V.aref 3 0 (List.map I x16).length)), (4, (I o18.1)), (6, (I o24)), (15, (sType a0)), (16, (I (a0.length : Int))), (17, (I x15)), (70, (V.bool false)), (71, (V.aref 3 0 (List.map I x16).length)), (72, (I o24)), (73, (I (Go.IntKind.wrap .i64 (o24 + 1)))), (74, (V.aref 3 0 v27)), (75, (I o18.1)), (76, (sI (([o18.1] : List Int))))], [(3, ⟨true, 1, List.map I x16⟩)], 82⟩ rfl rfl rfl ?_
  refine Eq.trans (reg_eff (x := (app (List.take v27 x16) ([o18.1] : List Int))) (w := fun v28 => ((V.aref 3 0 (List.map I v28).length), _)) rfl rfl rfl rfl (p_appA (e := I) (l := x16) rfl rfl rfl rfl rfl rfl rfl rfl rfl rfl rfl (upTo_le hv27) (of_decide_eq_true rfl))) ?_
  refine bind_self (fun v28 => ?_)
  exact bind_end rfl
theorem f57r13 (k : Nat) (a0 : (List T_api_Type)) (x15 : Int) (o29 : (List Int)) : RE k f57a13 f57o13 false ⟨[(0, (sType a0)), (3, (V.aref 3 0 (List.map I o29).length)), (15, (sType a0)), (16, (I (a0.length : Int))), (17, (I x15))], [(3, ⟨true, 1, List.map I o29⟩)], 82⟩ = some ⟨[(0, (sType a0)), (3, (V.aref 3 0 (List.map I o29).length)), (15, (sType a0)), (16, (I (a0.length : Int))), (17, (I x15)), (80, (V.bool (decide ((o29.length : Int) > 5))))], [(3, ⟨true, 1, List.map I o29⟩)], 82⟩ := by
  refine rg ?_
  refine ra 1 1 ⟨[(0, (sType a0)), (3, (V.aref 3 0 (List.map I o29).length)), (15, (sType a0)), (16, (I (a0.length : Int))), (17, (I x15)), (78, (V.aref 3 0 (List.map I o29).length))], [(3, ⟨true, 1, List.map I o29⟩)], 82⟩ rfl rfl rfl ?_
  refine Eq.trans (reg_pure (x := some ()) (w := fun _ => (I (o29.length : Int))) rfl rfl rfl rfl (p_lenA (e := I) rfl rfl rfl rfl rfl rfl Go.Proofs.Try.underlying28)) ?_
  refine Eq.trans some_bind ?_
  exact bind_end rfl
theorem f57r14 (k : Nat) (a0 : (List T_api_Type)) (x15 : Int) (o29 : (List Int)) : RE k f57a14 f57o14 false ⟨[(0, (sType a0)), (3, (V.aref 3 0 (List.map I o29).length)), (15, (sType a0)), (16, (I (a0.length : Int))), (17, (I x15)), (80, (V.bool true))], [(3, ⟨true, 1, List.map I o29⟩)], 82⟩ = some ⟨[(2, (V.bool false))], [], 82⟩ :=
  rE rfl
theorem f57r15 (k : Nat) (a0 : (List T_api_Type)) (x15 : Int) (o29 : (List Int)) : RE k f57a15 f57o15 false ⟨[(0, (sType a0)), (3, (V.aref 3 0 (List.map I o29).length)), (15, (sType a0)), (16, (I (a0.length : Int))), (17, (I x15)), (80, (V.bool false))], [(3, ⟨true, 1, List.map I o29⟩)], 82⟩ = some ⟨[(0, (sType a0)), (3, (V.aref 3 0 (List.map I o29).length)), (15, (sType a0)), (16, (I (a0.length : Int))), (17, (I (Go.IntKind.wrap .i64 (x15 + 1))))], [(3, ⟨true, 1, List.map I o29⟩)], 82⟩ :=
  rE rfl
theorem dbd_areTypes_L1_ok (k : Nat) (a0 : (List T_api_Type))  (K0 : Int → (List Int) → Option Bool) (Kst : X × St → Option (V × List V)) (hK0 : ∀ (y0 : Int) (y1 : (List Int)), Kst (X.exit 0, ⟨[(0, (sType a0)), (3, (V.aref 3 0 (List.map I y1).length)), (15, (sType a0)), (16, (I (a0.length : Int))), (17, (I y0)), (18, (V.bool false))], [(3, ⟨true, 1, List.map I y1⟩)], 82⟩) = (K0 y0 y1).map dbd_areTypes_fin) (hret : ∀ s, Kst (X.ret, s) = endK prog 82 [(sType a0)] [] [.tmp 2] (X.ret, s)) :
    ∀ (m : Nat) (x15 : Int) (x16 : (List Int)), (iter (exec prog (EV k) f57n k f57b0) m ⟨[(0, (sType a0)), (3, (V.aref 3 0 (List.map I x16).length)), (15, (sType a0)), (16, (I (a0.length : Int))), (17, (I x15))], [(3, ⟨true, 1, List.map I x16⟩)], 82⟩).bind Kst = (dbd_areTypes_L1 k a0 K0 m x15 x16).map dbd_areTypes_fin := by
  intro m
  induction m with
  | zero => intros; rfl
  | succ m ih =>
    intro x15 x16
    unfold dbd_areTypes_L1
    refine Eq.trans k_round ?_
    refine Eq.trans (k_region0 rfl (f57r5 k a0 x15 x16)) ?_
    refine Eq.trans (k_cond (t := (decide (x15 < (a0.length : Int)))) rfl) ?_
    refine bifE2 (fun hc => ?_) fun hc => ?_
    · rw [hc]
      refine Eq.trans k_skip ?_
      refine Eq.trans k_block ?_
      refine Eq.trans (k_region rfl (f57r6 k a0 x15 x16)) ?_
      refine bindE (fun o18 => ?_)
      refine Eq.trans k_assoc ?_
      refine Eq.trans (k_region rfl (f57r7 k a0 x15 x16 o18)) ?_
      refine bindE (fun o22 => ?_)
      refine Eq.trans (k_cond (t := o22) rfl) ?_
      refine bifE2 (fun hc => ?_) fun hc => ?_
      · rw [hc]
        refine Eq.trans k_assoc ?_
        refine Eq.trans (k_region0 rfl (f57r8 k a0 x15 x16 o18)) ?_
        refine Eq.trans k_ret ?_
        refine Eq.trans blk_ret ?_
        refine Eq.trans loop_ret ?_
        refine Eq.trans (hret _) ?_
        rfl
      · rw [hc]
        refine Eq.trans k_skip ?_
        refine Eq.trans (k_region rfl (f57r9 k a0 x15 x16 o18)) ?_
        refine bindE (fun o24 => ?_)
        refine Eq.trans k_assoc ?_
        refine Eq.trans (k_region rfl (f57r10 k a0 x15 x16 o18 o24)) ?_
        refine bindE (fun o26 => ?_)
        refine Eq.trans (k_cond (t := o26) rfl) ?_
        refine bifE2 (fun hc => ?_) fun hc => ?_
        · rw [hc]
          refine Eq.trans k_assoc ?_
          refine Eq.trans (k_region0 rfl (f57r11 k a0 x15 x16 o18 o24)) ?_
          refine Eq.trans k_ret ?_
          refine Eq.trans blk_ret ?_
          refine Eq.trans loop_ret ?_
          refine Eq.trans (hret _) ?_
          rfl
        · rw [hc]
          refine Eq.trans k_skip ?_
          refine Eq.trans (k_region rfl (f57r12 k a0 x15 x16 o18 o24)) ?_
          refine bindE (fun o29 => ?_)
          refine Eq.trans (k_region0 rfl (f57r13 k a0 x15 o29)) ?_
          refine Eq.trans (k_lcond (t := (decide ((o29.length : Int) > 5))) rfl) ?_
          refine bifE2 (fun hc => ?_) fun hc => ?_
          · rw [hc]
            refine Eq.trans (k_region0 rfl (f57r14 k a0 x15 o29)) ?_
            refine Eq.trans k_lret ?_
            refine Eq.trans blk_ret ?_
            refine Eq.trans loop_ret ?_
            refine Eq.trans (hret _) ?_
            rfl
          · rw [hc]
            refine Eq.trans k_lskip ?_
            refine Eq.trans blk_normal ?_
            refine Eq.trans (k_lregion0 rfl (f57r15 k a0 x15 o29)) ?_
            refine Eq.trans loop_normal ?_
            exact ih (Go.IntKind.wrap .i64 (x15 + 1)) o29
    · rw [hc]
      refine Eq.trans k_exit ?_
      refine Eq.trans loop_exit ?_
      exact hK0 x15 x16
theorem f57r16 (k : Nat) (a0 : (List T_api_Type)) (y30 : Int) (y31 : (List Int)) : RE k f57a16 f57o16 false ⟨[(0, (sType a0)), (3, (V.aref 3 0 (List.map I y31).length)), (15, (sType a0)), (16, (I (a0.length : Int))), (17, (I y30)), (18, (V.bool false))], [(3, ⟨true, 1, List.map I y31⟩)], 82⟩ = some ⟨[(2, (V.bool true))], [], 82⟩ :=
  rE rfl
theorem dbd_areTypes_ok (k : Nat) (a0 : (List T_api_Type)) : EV k 57 [(sType a0)] = (dbd_areTypes k a0).map dbd_areTypes_fin := by
  cases k with
  | zero => rfl
  | succ k =>
    unfold dbd_areTypes
    refine Eq.trans (evF_succ (c := f57c) (N := 82) (regs := f57n) rfl Go.Proofs.Try.func57 rfl (by decide) rfl rfl rfl) ?_
    refine Eq.trans (k_region0 rfl (f57r0 k a0)) ?_
    refine Eq.trans k_assoc ?_
    refine Eq.trans (k_region rfl (f57r1 k a0)) ?_
    refine bindE (fun o1 => ?_)
    refine Eq.trans (k_cond (t := o1) rfl) ?_
    refine bifE2 (fun hc => ?_) fun hc => ?_
    · rw [hc]
      refine Eq.trans k_assoc ?_
      refine Eq.trans (k_region0 rfl (f57r2 k a0)) ?_
      refine Eq.trans k_ret ?_
      rfl
    · rw [hc]
      refine Eq.trans k_skip ?_
      refine Eq.trans (k_region0 rfl (f57r3 k a0)) ?_
      refine Eq.trans k_assoc ?_
      refine Eq.trans (k_region0 rfl (f57r4 k a0)) ?_
      refine Eq.trans k_block ?_
      refine Eq.trans k_loop ?_
      refine dbd_areTypes_L1_ok k a0 _ _ ?h_dbd_areTypes_L1_0 ?hr_dbd_areTypes_L1 k 0 ([] : List Int)
      · intro y30 y31
        refine Eq.trans blk_exit ?_
        refine Eq.trans (k_region0 rfl (f57r16 k a0 y30 y31)) ?_
        refine Eq.trans k_lret ?_
        rfl
      · intro s; exact rfl
def slices_IndexFunc_Search_fin : Int → V × List V := fun r => ((I r), [])
theorem f75r0 (k : Nat) (a0 : (List T_api_Search)) (a1 : Nat → T_api_Search → Option Bool) (a1_fid : Go.FuncId) (a1_c0 : V) (a1_hok : ∀ j x0, EV j a1_fid [(enc_T_api_Search x0), V.pro a1_c0] = (a1 j x0).map fun b => ((V.bool b), [])) : RE k f75a0 f75o0 false ⟨[(0, (sSearch a0)), (1, (V.fn a1_fid [] [V.pro a1_c0]))], [], 19⟩ = some ⟨[(0, (sSearch a0)), (1, (V.fn a1_fid [] [V.pro a1_c0]))], [], 19⟩ :=
  rE rfl
theorem f75r1 (k : Nat) (a0 : (List T_api_Search)) (a1 : Nat → T_api_Search → Option Bool) (a1_fid : Go.FuncId) (a1_c0 : V) (a1_hok : ∀ j x0, EV j a1_fid [(enc_T_api_Search x0), V.pro a1_c0] = (a1 j x0).map fun b => ((V.bool b), [])) : RE k f75a1 f75o1 false ⟨[(0, (sSearch a0)), (1, (V.fn a1_fid [] [V.pro a1_c0]))], [], 19⟩ = some ⟨[(0, (sSearch a0)), (1, (V.fn a1_fid [] [V.pro a1_c0])), (7, (I (a0.length : Int))), (8, (I 0))], [], 19⟩ := by
  refine rg ?_
  refine ra 1 1 ⟨[(0, (sSearch a0)), (1, (V.fn a1_fid [] [V.pro a1_c0])), (6, (sSearch a0))], [], 19⟩ rfl rfl rfl ?_
  refine Eq.trans (reg_pure (x := some ()) (w := fun _ => (I (a0.length : Int))) rfl rfl rfl rfl (p_len (e := enc_T_api_Search) rfl rfl rfl rfl rfl rfl Go.Proofs.Try.underlying23)) ?_
  refine Eq.trans some_bind ?_
  exact bind_end rfl
theorem f75r2 (k : Nat) (a0 : (List T_api_Search)) (x4 : Int) (a1 : Nat → T_api_Search → Option Bool) (a1_fid : Go.FuncId) (a1_c0 : V) (a1_hok : ∀ j x0, EV j a1_fid [(enc_T_api_Search x0), V.pro a1_c0] = (a1 j x0).map fun b => ((V.bool b), [])) : RE k f75a2 f75o2 false ⟨[(0, (sSearch a0)), (1, (V.fn a1_fid [] [V.pro a1_c0])), (7, (I (a0.length : Int))), (8, (I x4))], [], 19⟩ = some ⟨[(0, (sSearch a0)), (1, (V.fn a1_fid [] [V.pro a1_c0])), (7, (I (a0.length : Int))), (8, (I x4)), (9, (V.bool (decide (x4 < (a0.length : Int)))))], [], 19⟩ :=
  rE rfl
theorem f75r3 (k : Nat) (a0 : (List T_api_Search)) (x4 : Int) (a1 : Nat → T_api_Search → Option Bool) (a1_fid : Go.FuncId) (a1_c0 : V) (a1_hok : ∀ j x0, EV j a1_fid [(enc_T_api_Search x0), V.pro a1_c0] = (a1 j x0).map fun b => ((V.bool b), [])) : RE k f75a3 f75o3 false ⟨[(0, (sSearch a0)), (1, (V.fn a1_fid [] [V.pro a1_c0])), (7, (I (a0.length : Int))), (8, (I x4)), (9, (V.bool true))], [], 19⟩ = some ⟨[(0, (sSearch a0)), (1, (V.fn a1_fid [] [V.pro a1_c0])), (5, (I x4)), (7, (I (a0.length : Int))), (8, (I x4))], [], 19⟩ :=
  rE rfl
theorem f75r4 (k : Nat) (a0 : (List T_api_Search)) (x4 : Int) (a1 : Nat → T_api_Search → Option Bool) (a1_fid : Go.FuncId) (a1_c0 : V) (a1_hok : ∀ j x0, EV j a1_fid [(enc_T_api_Search x0), V.pro a1_c0] = (a1 j x0).map fun b => ((V.bool b), [])) : RE k f75a4 f75o4 false ⟨[(0, (sSearch a0)), (1, (V.fn a1_fid [] [V.pro a1_c0])), (5, (I x4)), (7, (I (a0.length : Int))), (8, (I x4))], [], 19⟩ = (((idx a0 x4).bind fun v5 => (a1 k v5))).map (fun (o : Bool) => (⟨[(0, (sSearch a0)), (1, (V.fn a1_fid [] [V.pro a1_c0])), (5, (I x4)), (7, (I (a0.length : Int))), (8, (I x4)), (16, (V.bool o))], [], 19⟩ : St)) := by
  refine rg ?_
  refine ra 3 3 ⟨[(0, (sSearch a0)), (1, (V.fn a1_fid [] [V.pro a1_c0])), (5, (I x4)), (7, (I (a0.length : Int))), (8, (I x4)), (11, (V.fn a1_fid [] [V.pro a1_c0])), (12, (sSearch a0)), (13, (I x4))], [], 19⟩ rfl rfl rfl ?_
  refine Eq.trans (reg_pure (x := (idx a0 x4)) (w := fun v5 => (V.pro (enc_T_api_Search v5))) rfl rfl rfl rfl (p_index (e := enc_T_api_Search) rfl rfl rfl Go.Proofs.Try.underlying23 rfl (by decide))) ?_
  refine bindE (fun v5 => ?_)
  refine ba 1 5 ⟨[(0, (sSearch a0)), (1, (V.fn a1_fid [] [V.pro a1_c0])), (5, (I x4)), (7, (I (a0.length : Int))), (8, (I x4)), (11, (V.fn a1_fid [] [V.pro a1_c0])), (12, (sSearch a0)), (13, (I x4)), (14, (V.pro (enc_T_api_Search v5))), (15, (enc_T_api_Search v5))], [], 19⟩ rfl rfl rfl ?_
  refine Eq.trans (reg_pure (x := (a1 k v5)) (w := fun v6 => (V.bool v6)) rfl rfl rfl rfl (p_call rfl rfl rfl rfl rfl (a1_hok k v5) (.inl rfl))) ?_
  refine bind_self (fun v6 => ?_)
  exact bind_end rfl
theorem f75r5 (k : Nat) (a0 : (List T_api_Search)) (x4 : Int) (a1 : Nat → T_api_Search → Option Bool) (a1_fid : Go.FuncId) (a1_c0 : V) (a1_hok : ∀ j x0, EV j a1_fid [(enc_T_api_Search x0), V.pro a1_c0] = (a1 j x0).map fun b => ((V.bool b), [])) : RE k f75a5 f75o5 false ⟨[(0, (sSearch a0)), (1, (V.fn a1_fid [] [V.pro a1_c0])), (5, (I x4)), (7, (I (a0.length : Int))), (8, (I x4)), (16, (V.bool true))], [], 19⟩ = some ⟨[(4, (I x4))], [], 19⟩ :=
  rE rfl
theorem f75r6 (k : Nat) (a0 : (List T_api_Search)) (x4 : Int) (a1 : Nat → T_api_Search → Option Bool) (a1_fid : Go.FuncId) (a1_c0 : V) (a1_hok : ∀ j x0, EV j a1_fid [(enc_T_api_Search x0), V.pro a1_c0] = (a1 j x0).map fun b => ((V.bool b), [])) : RE k f75a6 f75o6 false ⟨[(0, (sSearch a0)), (1, (V.fn a1_fid [] [V.pro a1_c0])), (5, (I x4)), (7, (I (a0.length : Int))), (8, (I x4)), (16, (V.bool false))], [], 19⟩ = some ⟨[(0, (sSearch a0)), (1, (V.fn a1_fid [] [V.pro a1_c0])), (7, (I (a0.length : Int))), (8, (I (Go.IntKind.wrap .i64 (x4 + 1))))], [], 19⟩ :=
  rE rfl
theorem slices_IndexFunc_Search_L1_ok (k : Nat) (a0 : (List T_api_Search)) (a1 : Nat → T_api_Search → Option Bool) (a1_fid : Go.FuncId) (a1_c0 : V) (a1_hok : ∀ j x0, EV j a1_fid [(enc_T_api_Search x0), V.pro a1_c0] = (a1 j x0).map fun b => ((V.bool b), [])) (K0 : Int → Option Int) (Kst : X × St → Option (V × List V)) (hK0 : ∀ (y0 : Int), Kst (X.exit 0, ⟨[(0, (sSearch a0)), (1, (V.fn a1_fid [] [V.pro a1_c0])), (7, (I (a0.length : Int))), (8, (I y0)), (9, (V.bool false))], [], 19⟩) = (K0 y0).map slices_IndexFunc_Search_fin) (hret : ∀ s, Kst (X.ret, s) = endK prog 19 [(sSearch a0), (V.fn a1_fid [] [V.pro a1_c0])] [] [.tmp 4] (X.ret, s)) :
    ∀ (m : Nat) (x4 : Int), (iter (exec prog (EV k) f75n k f75b0) m ⟨[(0, (sSearch a0)), (1, (V.fn a1_fid [] [V.pro a1_c0])), (7, (I (a0.length : Int))), (8, (I x4))], [], 19⟩).bind Kst = (slices_IndexFunc_Search_L1 k a0 a1 K0 m x4).map slices_IndexFunc_Search_fin := by
  intro m
  induction m with
  | zero => intros; rfl
  | succ m ih =>
    intro x4
    unfold slices_IndexFunc_Search_L1
    refine Eq.trans k_round ?_
    refine Eq.trans (k_region0 rfl (f75r2 k a0 x4 a1 a1_fid a1_c0 a1_hok)) ?_
    refine Eq.trans (k_cond (t := (decide (x4 < (a0.length : Int)))) rfl) ?_
    refine bifE2 (fun hc => ?_) fun hc => ?_
    · rw [hc]
      refine Eq.trans k_skip ?_
      refine Eq.trans k_block ?_
      refine Eq.trans (k_region0 rfl (f75r3 k a0 x4 a1 a1_fid a1_c0 a1_hok)) ?_
      refine Eq.trans (k_region rfl (f75r4 k a0 x4 a1 a1_fid a1_c0 a1_hok)) ?_
      refine bindE (fun o7 => ?_)
      refine Eq.trans (k_lcond (t := o7) rfl) ?_
      refine bifE2 (fun hc => ?_) fun hc => ?_
      · rw [hc]
        refine Eq.trans (k_region0 rfl (f75r5 k a0 x4 a1 a1_fid a1_c0 a1_hok)) ?_
        refine Eq.trans k_lret ?_
        refine Eq.trans blk_ret ?_
        refine Eq.trans loop_ret ?_
        refine Eq.trans (hret _) ?_
        rfl
      · rw [hc]
        refine Eq.trans k_lskip ?_
        refine Eq.trans blk_normal ?_
        refine Eq.trans (k_lregion0 rfl (f75r6 k a0 x4 a1 a1_fid a1_c0 a1_hok)) ?_
        refine Eq.trans loop_normal ?_
        exact ih (Go.IntKind.wrap .i64 (x4 + 1))
    · rw [hc]
      refine Eq.trans k_exit ?_
      refine Eq.trans loop_exit ?_
      exact hK0 x4
theorem f75r7 (k : Nat) (a0 : (List T_api_Search)) (y8 : Int) (a1 : Nat → T_api_Search → Option Bool) (a1_fid : Go.FuncId) (a1_c0 : V) (a1_hok : ∀ j x0, EV j a1_fid [(enc_T_api_Search x0), V.pro a1_c0] = (a1 j x0).map fun b => ((V.bool b), [])) : RE k f75a7 f75o7 false ⟨[(0, (sSearch a0)), (1, (V.fn a1_fid [] [V.pro a1_c0])), (7, (I (a0.length : Int))), (8, (I y8)), (9, (V.bool false))], [], 19⟩ = some ⟨[(4, (I (-1)))], [], 19⟩ :=
  rE rfl
theorem slices_IndexFunc_Search_ok (k : Nat) (a0 : (List T_api_Search)) (a1 : Nat → T_api_Search → Option Bool) (a1_fid : Go.FuncId) (a1_c0 : V) (a1_hok : ∀ j x0, EV j a1_fid [(enc_T_api_Search x0), V.pro a1_c0] = (a1 j x0).map fun b => ((V.bool b), [])) : EV k 75 [(sSearch a0), (V.fn a1_fid [] [V.pro a1_c0])] = (slices_IndexFunc_Search k a0 a1).map slices_IndexFunc_Search_fin := by
  cases k with
  | zero => rfl
  | succ k =>
    unfold slices_IndexFunc_Search
    refine Eq.trans (evF_succ (c := f75c) (N := 19) (regs := f75n) rfl Go.Proofs.Try.func75 rfl (by decide) rfl rfl rfl) ?_
    refine Eq.trans (k_region0 rfl (f75r0 k a0 a1 a1_fid a1_c0 a1_hok)) ?_
    refine Eq.trans k_assoc ?_
    refine Eq.trans (k_region0 rfl (f75r1 k a0 a1 a1_fid a1_c0 a1_hok)) ?_
    refine Eq.trans k_block ?_
    refine Eq.trans k_loop ?_
    refine slices_IndexFunc_Search_L1_ok k a0 a1 a1_fid a1_c0 a1_hok _ _ ?h_slices_IndexFunc_Search_L1_0 ?hr_slices_IndexFunc_Search_L1 k 0
    · intro y8
      refine Eq.trans blk_exit ?_
      refine Eq.trans (k_region0 rfl (f75r7 k a0 y8 a1 a1_fid a1_c0 a1_hok)) ?_
      refine Eq.trans k_lret ?_
      rfl
    · intro s; exact rfl
def slices_ContainsFunc_Search_fin : Bool → V × List V := fun r => ((V.bool r), [])
theorem f71r0 (k : Nat) (a0 : (List T_api_Search)) (a1 : Nat → T_api_Search → Option Bool) (a1_fid : Go.FuncId) (a1_c0 : V) (a1_hok : ∀ j x0, EV j a1_fid [(enc_T_api_Search x0), V.pro a1_c0] = (a1 j x0).map fun b => ((V.bool b), [])) : RE k f71a0 f71o0 false ⟨[(0, (sSearch a0)), (1, (V.fn a1_fid [] [V.pro a1_c0]))], [], 9⟩ = some ⟨[(0, (sSearch a0)), (1, (V.fn a1_fid [] [V.pro a1_c0]))], [], 9⟩ :=
  rE rfl
theorem f71r1 (k : Nat) (a0 : (List T_api_Search)) (a1 : Nat → T_api_Search → Option Bool) (a1_fid : Go.FuncId) (a1_c0 : V) (a1_hok : ∀ j x0, EV j a1_fid [(enc_T_api_Search x0), V.pro a1_c0] = (a1 j x0).map fun b => ((V.bool b), [])) : RE k f71a1 f71o1 false ⟨[(0, (sSearch a0)), (1, (V.fn a1_fid [] [V.pro a1_c0]))], [], 9⟩ = (((slices_IndexFunc_Search k a0 a1).bind fun v1 => (some ((decide (v1 ≥ 0)))))).map (fun (o : Bool) => (⟨[(4, (V.bool o))], [], 9⟩ : St)) := by
  refine rg ?_
  refine ra 2 2 ⟨[(0, (sSearch a0)), (1, (V.fn a1_fid [] [V.pro a1_c0])), (5, (sSearch a0)), (6, (V.fn a1_fid [] [V.pro a1_c0]))], [], 9⟩ rfl rfl rfl ?_
  refine Eq.trans (reg_pure (x := (slices_IndexFunc_Search k a0 a1)) (w := fun v1 => (I v1)) rfl rfl rfl rfl (p_call rfl rfl rfl rfl rfl (slices_IndexFunc_Search_ok k a0 a1 a1_fid a1_c0 a1_hok) (.inl rfl))) ?_
  refine bindE (fun v1 => ?_)
  exact bind_end rfl
theorem slices_ContainsFunc_Search_ok (k : Nat) (a0 : (List T_api_Search)) (a1 : Nat → T_api_Search → Option Bool) (a1_fid : Go.FuncId) (a1_c0 : V) (a1_hok : ∀ j x0, EV j a1_fid [(enc_T_api_Search x0), V.pro a1_c0] = (a1 j x0).map fun b => ((V.bool b), [])) : EV k 71 [(sSearch a0), (V.fn a1_fid [] [V.pro a1_c0])] = (slices_ContainsFunc_Search k a0 a1).map slices_ContainsFunc_Search_fin := by
  cases k with
  | zero => rfl
  | succ k =>
    unfold slices_ContainsFunc_Search
    refine Eq.trans (evF_succ (c := f71c) (N := 9) (regs := f71n) rfl Go.Proofs.Try.func71 rfl (by decide) rfl rfl rfl) ?_
    refine Eq.trans (k_region0 rfl (f71r0 k a0 a1 a1_fid a1_c0 a1_hok)) ?_
    refine Eq.trans (k_region rfl (f71r1 k a0 a1 a1_fid a1_c0 a1_hok)) ?_
    refine bindE (fun o2 => ?_)
    refine Eq.trans k_lret ?_
    rfl
def dbd_areIndexes_1_fin : Bool → V × List V := fun r => ((V.bool r), [])
theorem f72r0 (k : Nat) (a0 : T_api_Search) (a1 : T_api_Search) : RE k f72a0 f72o0 false ⟨[(0, (enc_T_api_Search a0)), (1, (V.pro (enc_T_api_Search a1)))], [], 9⟩ = some ⟨[(1, (V.pro (enc_T_api_Search a1))), (2, (V.ptr 2 0 0))], [(2, ⟨false, 4, [(enc_T_api_Search a0)]⟩)], 9⟩ :=
  rE rfl
theorem f72r1 (k : Nat) (a0 : T_api_Search) (a1 : T_api_Search) : RE k f72a1 f72o1 false ⟨[(1, (V.pro (enc_T_api_Search a1))), (2, (V.ptr 2 0 0))], [(2, ⟨false, 4, [(enc_T_api_Search a0)]⟩)], 9⟩ = some ⟨[(3, (V.bool (a0.fName == a1.fName)))], [], 9⟩ :=
  rE rfl
theorem dbd_areIndexes_1_ok (k : Nat) (a0 : T_api_Search) (a1 : T_api_Search) : EV k 72 [(enc_T_api_Search a0), (V.pro (enc_T_api_Search a1))] = (dbd_areIndexes_1 k a0 a1).map dbd_areIndexes_1_fin := by
  cases k with
  | zero => rfl
  | succ k =>
    unfold dbd_areIndexes_1
    refine Eq.trans (evF_succ (c := f72c) (N := 9) (regs := f72n) rfl Go.Proofs.Try.func72 rfl (by decide) rfl rfl rfl) ?_
    refine Eq.trans (k_region0 rfl (f72r0 k a0 a1)) ?_
    refine Eq.trans (k_region0 rfl (f72r1 k a0 a1)) ?_
    refine Eq.trans k_lret ?_
    rfl
def dbd_areIndexes_fin : Bool → V × List V := fun r => ((V.bool r), [])
theorem f58r0 (k : Nat) (a0 : (List T_api_Search)) (a1 : (List T_api_Type)) : RE k f58a0 f58o0 false ⟨[(0, (sSearch a0)), (1, (sType a1))], [], 73⟩ = some ⟨[(0, (sSearch a0)), (1, (sType a1))], [], 73⟩ :=
  rE rfl
theorem f58r1 (k : Nat) (a0 : (List T_api_Search)) (a1 : (List T_api_Type)) : RE k f58a1 f58o1 false ⟨[(0, (sSearch a0)), (1, (sType a1))], [], 73⟩ = some ⟨[(0, (sSearch a0)), (1, (sType a1)), (8, (sSearch a0)), (9, (I (a0.length : Int))), (10, (I 0))], [], 73⟩ := by
  refine rg ?_
  refine ra 1 1 ⟨[(0, (sSearch a0)), (1, (sType a1)), (8, (sSearch a0))], [], 73⟩ rfl rfl rfl ?_
  refine Eq.trans (reg_pure (x := some ()) (w := fun _ => (I (a0.length : Int))) rfl rfl rfl rfl (p_len (e := enc_T_api_Search) rfl rfl rfl rfl rfl rfl Go.Proofs.Try.underlying23)) ?_
  refine Eq.trans some_bind ?_
  exact bind_end rfl
theorem f58r2 (k : Nat) (a0 : (List T_api_Search)) (a1 : (List T_api_Type)) (x11 : Int) : RE k f58a2 f58o2 false ⟨[(0, (sSearch a0)), (1, (sType a1)), (8, (sSearch a0)), (9, (I (a0.length : Int))), (10, (I x11))], [], 73⟩ = some ⟨[(0, (sSearch a0)), (1, (sType a1)), (8, (sSearch a0)), (9, (I (a0.length : Int))), (10, (I x11)), (11, (V.bool (decide (x11 < (a0.length : Int)))))], [], 73⟩ :=
  rE rfl
theorem f58r3 (k : Nat) (a0 : (List T_api_Search)) (a1 : (List T_api_Type)) (x11 : Int) : RE k f58a3 f58o3 false ⟨[(0, (sSearch a0)), (1, (sType a1)), (8, (sSearch a0)), (9, (I (a0.length : Int))), (10, (I x11)), (11, (V.bool true))], [], 73⟩ = (((idx a0 x11).bind fun v12 => (some (x11, v12)))).map (fun (o : Int × T_api_Search) => (⟨[(0, (sSearch a0)), (1, (sType a1)), (5, (I o.1)), (6, (V.ptr 6 0 0)), (8, (sSearch a0)), (9, (I (a0.length : Int))), (10, (I x11))], [(6, ⟨false, 4, [(enc_T_api_Search o.2)]⟩)], 73⟩ : St)) := by
  refine rg ?_
  refine ra 1 1 ⟨[(0, (sSearch a0)), (1, (sType a1)), (8, (sSearch a0)), (9, (I (a0.length : Int))), (10, (I x11)), (11, (V.bool true)), (12, (I x11))], [], 73⟩ rfl rfl rfl ?_
  refine Eq.trans (reg_pure (x := (idx a0 x11)) (w := fun v12 => (V.pro (enc_T_api_Search v12))) rfl rfl rfl rfl (p_index (e := enc_T_api_Search) rfl rfl rfl Go.Proofs.Try.underlying23 rfl (by decide))) ?_
  refine bindE (fun v12 => ?_)
  exact bind_end rfl
theorem f58r4 (k : Nat) (a0 : (List T_api_Search)) (a1 : (List T_api_Type)) (x11 : Int) (o13 : Int × T_api_Search) : RE k f58a4 f58o4 false ⟨[(0, (sSearch a0)), (1, (sType a1)), (5, (I o13.1)), (6, (V.ptr 6 0 0)), (8, (sSearch a0)), (9, (I (a0.length : Int))), (10, (I x11))], [(6, ⟨false, 4, [(enc_T_api_Search o13.2)]⟩)], 73⟩ = (((dbd_IsName k o13.2.fName).bind fun v14 => (bif (!v14) then (some (true)) else (bif (decide (o13.2.fType < 0)) then (some (true)) else (bif (decide (o13.2.fType ≥ (a1.length : Int))) then (some (true)) else (bif (decide ((o13.2.fSparse.length : Int) > 1)) then (some (true)) else ((cut a0 0 o13.1).bind fun v15 => (slices_ContainsFunc_Search k v15 (fun j x0 => (dbd_areIndexes_1 j x0 o13.2)))))))))).map (fun (o : Bool) => (⟨[(0, (sSearch a0)), (1, (sType a1)), (6, (V.ptr 6 0 0)), (8, (sSearch a0)), (9, (I (a0.length : Int))), (10, (I x11)), (43, (V.bool o))], [(6, ⟨false, 4, [(enc_T_api_Search o13.2)]⟩)], 73⟩ : St)) := by
  refine rg ?_
  refine ra 2 2 ⟨[(0, (sSearch a0)), (1, (sType a1)), (5, (I o13.1)), (6, (V.ptr 6 0 0)), (8, (sSearch a0)), (9, (I (a0.length : Int))), (10, (I x11)), (15, (V.ptr 6 0 0)), (16, (V.str o13.2.fName))], [(6, ⟨false, 4, [(enc_T_api_Search o13.2)]⟩)], 73⟩ rfl rfl rfl ?_
  refine Eq.trans (reg_pure (x := (dbd_IsName k o13.2.fName)) (w := fun v14 => (V.bool v14)) rfl rfl rfl rfl (p_call rfl rfl rfl rfl rfl (dbd_IsName_ok k o13.2.fName) (.inl rfl))) ?_
  refine bindE (fun v14 => ?_)
  refine ba 2 5 ⟨[(0, (sSearch a0)), (1, (sType a1)), (5, (I o13.1)), (6, (V.ptr 6 0 0)), (8, (sSearch a0)), (9, (I (a0.length : Int))), (10, (I x11)), (15, (V.ptr 6 0 0)), (16, (V.str o13.2.fName)), (17, (V.bool v14)), (18, (V.bool (!v14))), (19, (V.bool (!v14)))], [(6, ⟨false, 4, [(enc_T_api_Search o13.2)]⟩)], 73⟩ rfl rfl rfl ?_
  refine bifE (c := (!v14)) (fun hc => ?_) fun hc => ?_
  · rw [hc]
    exact reg_end rfl
  · rw [hc]
    refine ra 5 10 ⟨[(0, (sSearch a0)), (1, (sType a1)), (5, (I o13.1)), (6, (V.ptr 6 0 0)), (8, (sSearch a0)), (9, (I (a0.length : Int))), (10, (I x11)), (15, (V.ptr 6 0 0)), (16, (V.str o13.2.fName)), (17, (V.bool v14)), (18, (V.bool false)), (19, (V.bool false)), (20, (V.ptr 6 0 1)), (21, (I o13.2.fType)), (22, (V.bool (decide (o13.2.fType < 0)))), (23, (V.bool (decide (o13.2.fType < 0)))), (24, (V.bool (decide (o13.2.fType < 0))))], [(6, ⟨false, 4, [(enc_T_api_Search o13.2)]⟩)], 73⟩ rfl rfl rfl ?_
    refine bifE (c := (decide (o13.2.fType < 0))) (fun hc => ?_) fun hc => ?_
    · rw [hc]
      exact reg_end rfl
    · rw [hc]
      refine ra 3 13 ⟨[(0, (sSearch a0)), (1, (sType a1)), (5, (I o13.1)), (6, (V.ptr 6 0 0)), (8, (sSearch a0)), (9, (I (a0.length : Int))), (10, (I x11)), (15, (V.ptr 6 0 0)), (16, (V.str o13.2.fName)), (17, (V.bool v14)), (18, (V.bool false)), (19, (V.bool false)), (20, (V.ptr 6 0 1)), (21, (I o13.2.fType)), (22, (V.bool false)), (23, (V.bool false)), (24, (V.bool false)), (25, (V.ptr 6 0 1)), (26, (I o13.2.fType)), (27, (sType a1))], [(6, ⟨false, 4, [(enc_T_api_Search o13.2)]⟩)], 73⟩ rfl rfl rfl ?_
      refine Eq.trans (reg_pure (x := some ()) (w := fun _ => (I (a1.length : Int))) rfl rfl rfl rfl (p_len (e := enc_T_api_Type) rfl rfl rfl rfl rfl rfl Go.Proofs.Try.underlying22)) ?_
      refine Eq.trans some_bind ?_
      refine ba 3 17 ⟨[(0, (sSearch a0)), (1, (sType a1)), (5, (I o13.1)), (6, (V.ptr 6 0 0)), (8, (sSearch a0)), (9, (I (a0.length : Int))), (10, (I x11)), (15, (V.ptr 6 0 0)), (16, (V.str o13.2.fName)), (17, (V.bool v14)), (18, (V.bool false)), (19, (V.bool false)), (20, (V.ptr 6 0 1)), (21, (I o13.2.fType)), (22, (V.bool false)), (23, (V.bool false)), (24, (V.bool false)), (25, (V.ptr 6 0 1)), (26, (I o13.2.fType)), (27, (sType a1)), (28, (I (a1.length : Int))), (29, (V.bool (decide (o13.2.fType ≥ (a1.length : Int))))), (30, (V.bool (decide (o13.2.fType ≥ (a1.length : Int))))), (31, (V.bool (decide (o13.2.fType ≥ (a1.length : Int)))))], [(6, ⟨false, 4, [(enc_T_api_Search o13.2)]⟩)], 73⟩ rfl rfl rfl ?_
      refine bifE (c := (decide (o13.2.fType ≥ (a1.length : Int)))) (fun hc => ?_) fun hc => ?_
      · rw [hc]
        exact reg_end rfl
      · rw [hc]
        refine ra 6 23 ⟨[(0, (sSearch a0)), (1, (sType a1)), (5, (I o13.1)), (6, (V.ptr 6 0 0)), (8, (sSearch a0)), (9, (I (a0.length : Int))), (10, (I x11)), (15, (V.ptr 6 0 0)), (16, (V.str o13.2.fName)), (17, (V.bool v14)), (18, (V.bool false)), (19, (V.bool false)), (20, (V.ptr 6 0 1)), (21, (I o13.2.fType)), (22, (V.bool false)), (23, (V.bool false)), (24, (V.bool false)), (25, (V.ptr 6 0 1)), (26, (I o13.2.fType)), (27, (sType a1)), (28, (I (a1.length : Int))), (29, (V.bool false)), (30, (V.bool false)), (31, (V.bool false)), (32, (V.ptr 6 0 3)), (33, (V.str o13.2.fSparse)), (34, (I (o13.2.fSparse.length : Int))), (35, (V.bool (decide ((o13.2.fSparse.length : Int) > 1)))), (36, (V.bool (decide ((o13.2.fSparse.length : Int) > 1)))), (37, (V.bool (decide ((o13.2.fSparse.length : Int) > 1))))], [(6, ⟨false, 4, [(enc_T_api_Search o13.2)]⟩)], 73⟩ rfl rfl rfl ?_
        refine bifE (c := (decide ((o13.2.fSparse.length : Int) > 1))) (fun hc => ?_) fun hc => ?_
        · rw [hc]
          exact reg_end rfl
        · rw [hc]
          refine ra 2 25 ⟨[(0, (sSearch a0)), (1, (sType a1)), (5, (I o13.1)), (6, (V.ptr 6 0 0)), (8, (sSearch a0)), (9, (I (a0.length : Int))), (10, (I x11)), (15, (V.ptr 6 0 0)), (16, (V.str o13.2.fName)), (17, (V.bool v14)), (18, (V.bool false)), (19, (V.bool false)), (20, (V.ptr 6 0 1)), (21, (I o13.2.fType)), (22, (V.bool false)), (23, (V.bool false)), (24, (V.bool false)), (25, (V.ptr 6 0 1)), (26, (I o13.2.fType)), (27, (sType a1)), (28, (I (a1.length : Int))), (29, (V.bool false)), (30, (V.bool false)), (31, (V.bool false)), (32, (V.ptr 6 0 3)), (33, (V.str o13.2.fSparse)), (34, (I (o13.2.fSparse.length : Int))), (35, (V.bool false)), (36, (V.bool false)), (37, (V.bool false)), (38, (sSearch a0)), (39, (I o13.1))], [(6, ⟨false, 4, [(enc_T_api_Search o13.2)]⟩)], 73⟩ rfl rfl rfl ?_
          refine Eq.trans (reg_pure (x := (cut a0 0 o13.1)) (w := fun v15 => (sSearch v15)) rfl rfl rfl rfl (p_slice (e := enc_T_api_Search) rfl rfl rfl rfl rfl rfl Go.Proofs.Try.underlying23 rfl (by decide))) ?_
          refine bindE (fun v15 => ?_)
          refine ba 1 27 ⟨[(0, (sSearch a0)), (1, (sType a1)), (5, (I o13.1)), (6, (V.ptr 6 0 0)), (8, (sSearch a0)), (9, (I (a0.length : Int))), (10, (I x11)), (15, (V.ptr 6 0 0)), (16, (V.str o13.2.fName)), (17, (V.bool v14)), (18, (V.bool false)), (19, (V.bool false)), (20, (V.ptr 6 0 1)), (21, (I o13.2.fType)), (22, (V.bool false)), (23, (V.bool false)), (24, (V.bool false)), (25, (V.ptr 6 0 1)), (26, (I o13.2.fType)), (27, (sType a1)), (28, (I (a1.length : Int))), (29, (V.bool false)), (30, (V.bool false)), (31, (V.bool false)), (32, (V.ptr 6 0 3)), (33, (V.str o13.2.fSparse)), (34, (I (o13.2.fSparse.length : Int))), (35, (V.bool false)), (36, (V.bool false)), (37, (V.bool false)), (38, (sSearch a0)), (39, (I o13.1)), (40, (sSearch v15)), (41, (V.fn 72 [] [(V.ptr 6 0 0)]))], [(6, ⟨false, 4, [(enc_T_api_Search o13.2)]⟩)], 73⟩ rfl rfl rfl ?_
          refine Eq.trans (reg_pure (x := (slices_ContainsFunc_Search k v15 (fun j x0 => (dbd_areIndexes_1 j x0 o13.2)))) (w := fun v16 => (V.bool v16)) rfl rfl rfl rfl (p_call rfl rfl rfl rfl rfl (slices_ContainsFunc_Search_ok k v15 (fun j x0 => (dbd_areIndexes_1 j x0 o13.2)) 72 (enc_T_api_Search o13.2) (fun j x0 => (dbd_areIndexes_1_ok j x0 o13.2))) (.inr (fun _ => rfl)))) ?_
          refine bind_self (fun v16 => ?_)
          exact bind_end rfl
theorem f58r5 (k : Nat) (a0 : (List T_api_Search)) (a1 : (List T_api_Type)) (x11 : Int) (o13 : Int × T_api_Search) : RE k f58a5 f58o5 false ⟨[(0, (sSearch a0)), (1, (sType a1)), (6, (V.ptr 6 0 0)), (8, (sSearch a0)), (9, (I (a0.length : Int))), (10, (I x11)), (43, (V.bool true))], [(6, ⟨false, 4, [(enc_T_api_Search o13.2)]⟩)], 73⟩ = some ⟨[(4, (V.bool false))], [], 73⟩ :=
  rE rfl
theorem f58r6 (k : Nat) (a0 : (List T_api_Search)) (a1 : (List T_api_Type)) (x11 : Int) (o13 : Int × T_api_Search) : RE k f58a6 f58o6 false ⟨[(0, (sSearch a0)), (1, (sType a1)), (6, (V.ptr 6 0 0)), (8, (sSearch a0)), (9, (I (a0.length : Int))), (10, (I x11)), (43, (V.bool false))], [(6, ⟨false, 4, [(enc_T_api_Search o13.2)]⟩)], 73⟩ = (((idx a1 o13.2.fType).bind fun v18 => (some (v18.fFields)))).map (fun (o : (List T_api_Field)) => (⟨[(0, (sSearch a0)), (1, (sType a1)), (6, (V.ptr 6 0 0)), (7, (sField o)), (8, (sSearch a0)), (9, (I (a0.length : Int))), (10, (I x11))], [(6, ⟨false, 4, [(enc_T_api_Search o13.2)]⟩)], 73⟩ : St)) := by
  refine rg ?_
  refine ra 3 3 ⟨[(0, (sSearch a0)), (1, (sType a1)), (6, (V.ptr 6 0 0)), (8, (sSearch a0)), (9, (I (a0.length : Int))), (10, (I x11)), (43, (V.bool false)), (44, (sType a1)), (45, (V.ptr 6 0 1)), (46, (I o13.2.fType))], [(6, ⟨false, 4, [(enc_T_api_Search o13.2)]⟩)], 73⟩ rfl rfl rfl ?_
  refine Eq.trans (reg_pure (x := (idx a1 o13.2.fType)) (w := fun v18 => (V.pro (enc_T_api_Type v18))) rfl rfl rfl rfl (p_index (e := enc_T_api_Type) rfl rfl rfl Go.Proofs.Try.underlying22 rfl (by decide))) ?_
  refine bindE (fun v18 => ?_)
  exact bind_end rfl
theorem f58r7 (k : Nat) (a0 : (List T_api_Search)) (a1 : (List T_api_Type)) (x11 : Int) (o13 : Int × T_api_Search) (o19 : (List T_api_Field)) : RE k f58a7 f58o7 false ⟨[(0, (sSearch a0)), (1, (sType a1)), (6, (V.ptr 6 0 0)), (7, (sField o19)), (8, (sSearch a0)), (9, (I (a0.length : Int))), (10, (I x11))], [(6, ⟨false, 4, [(enc_T_api_Search o13.2)]⟩)], 73⟩ = ((bif (decide (o13.2.fField < 0)) then (some (true)) else (bif (decide (o13.2.fField ≥ (o19.length : Int))) then (some (true)) else ((idx o19 o13.2.fField).bind fun v20 => (some ((decide (v20.fBytes > 20)))))))).map (fun (o : Bool) => (⟨[(0, (sSearch a0)), (1, (sType a1)), (8, (sSearch a0)), (9, (I (a0.length : Int))), (10, (I x11)), (68, (V.bool o))], [], 73⟩ : St)) := by
  refine rg ?_
  refine ra 4 4 ⟨[(0, (sSearch a0)), (1, (sType a1)), (6, (V.ptr 6 0 0)), (7, (sField o19)), (8, (sSearch a0)), (9, (I (a0.length : Int))), (10, (I x11)), (50, (V.ptr 6 0 2)), (51, (I o13.2.fField)), (52, (V.bool (decide (o13.2.fField < 0)))), (53, (V.bool (decide (o13.2.fField < 0))))], [(6, ⟨false, 4, [(enc_T_api_Search o13.2)]⟩)], 73⟩ rfl rfl rfl ?_
  refine bifE (c := (decide (o13.2.fField < 0))) (fun hc => ?_) fun hc => ?_
  · rw [hc]
    exact reg_end rfl
  · rw [hc]
    refine ra 3 7 ⟨[(0, (sSearch a0)), (1, (sType a1)), (6, (V.ptr 6 0 0)), (7, (sField o19)), (8, (sSearch a0)), (9, (I (a0.length : Int))), (10, (I x11)), (50, (V.ptr 6 0 2)), (51, (I o13.2.fField)), (52, (V.bool false)), (53, (V.bool false)), (54, (V.ptr 6 0 2)), (55, (I o13.2.fField)), (56, (sField o19))], [(6, ⟨false, 4, [(enc_T_api_Search o13.2)]⟩)], 73⟩ rfl rfl rfl ?_
    refine Eq.trans (reg_pure (x := some ()) (w := fun _ => (I (o19.length : Int))) rfl rfl rfl rfl (p_len (e := enc_T_api_Field) rfl rfl rfl rfl rfl rfl Go.Proofs.Try.underlying53)) ?_
    refine Eq.trans some_bind ?_
    refine ba 3 11 ⟨[(0, (sSearch a0)), (1, (sType a1)), (6, (V.ptr 6 0 0)), (7, (sField o19)), (8, (sSearch a0)), (9, (I (a0.length : Int))), (10, (I x11)), (50, (V.ptr 6 0 2)), (51, (I o13.2.fField)), (52, (V.bool false)), (53, (V.bool false)), (54, (V.ptr 6 0 2)), (55, (I o13.2.fField)), (56, (sField o19)), (57, (I (o19.length : Int))), (58, (V.bool (decide (o13.2.fField ≥ (o19.length : Int))))), (59, (V.bool (decide (o13.2.fField ≥ (o19.length : Int))))), (60, (V.bool (decide (o13.2.fField ≥ (o19.length : Int)))))], [(6, ⟨false, 4, [(enc_T_api_Search o13.2)]⟩)], 73⟩ rfl rfl rfl ?_
    refine bifE (c := (decide (o13.2.fField ≥ (o19.length : Int)))) (fun hc => ?_) fun hc => ?_
    · rw [hc]
      exact reg_end rfl
    · rw [hc]
      refine ra 3 14 ⟨[(0, (sSearch a0)), (1, (sType a1)), (6, (V.ptr 6 0 0)), (7, (sField o19)), (8, (sSearch a0)), (9, (I (a0.length : Int))), (10, (I x11)), (50, (V.ptr 6 0 2)), (51, (I o13.2.fField)), (52, (V.bool false)), (53, (V.bool false)), (54, (V.ptr 6 0 2)), (55, (I o13.2.fField)), (56, (sField o19)), (57, (I (o19.length : Int))), (58, (V.bool false)), (59, (V.bool false)), (60, (V.bool false)), (61, (sField o19)), (62, (V.ptr 6 0 2)), (63, (I o13.2.fField))], [(6, ⟨false, 4, [(enc_T_api_Search o13.2)]⟩)], 73⟩ rfl rfl rfl ?_
      refine Eq.trans (reg_pure (x := (idx o19 o13.2.fField)) (w := fun v20 => (V.pro (enc_T_api_Field v20))) rfl rfl rfl rfl (p_index (e := enc_T_api_Field) rfl rfl rfl Go.Proofs.Try.underlying53 rfl (by decide))) ?_
      refine bindE (fun v20 => ?_)
      exact bind_end rfl
theorem f58r8 (k : Nat) (a0 : (List T_api_Search)) (a1 : (List T_api_Type)) (x11 : Int) : RE k f58a8 f58o8 false ⟨[(0, (sSearch a0)), (1, (sType a1)), (8, (sSearch a0)), (9, (I (a0.length : Int))), (10, (I x11)), (68, (V.bool true))], [], 73⟩ = some ⟨[(4, (V.bool false))], [], 73⟩ :=
  rE rfl
theorem f58r9 (k : Nat) (a0 : (List T_api_Search)) (a1 : (List T_api_Type)) (x11 : Int) : RE k f58a9 f58o9 false ⟨[(0, (sSearch a0)), (1, (sType a1)), (8, (sSearch a0)), (9, (I (a0.length : Int))), (10, (I x11)), (68, (V.bool false))], [], 73⟩ = some ⟨[(0, (sSearch a0)), (1, (sType a1)), (8, (sSearch a0)), (9, (I (a0.length : Int))), (10, (I (Go.IntKind.wrap .i64 (x11 + 1))))], [], 73⟩ :=
  rE rfl
theorem dbd_areIndexes_L1_ok (k : Nat) (a0 : (List T_api_Search)) (a1 : (List T_api_Type))  (K0 : Int → Option Bool) (Kst : X × St → Option (V × List V)) (hK0 : ∀ (y0 : Int), Kst (X.exit 0, ⟨[(0, (sSearch a0)), (1, (sType a1)), (8, (sSearch a0)), (9, (I (a0.length : Int))), (10, (I y0)), (11, (V.bool false))], [], 73⟩) = (K0 y0).map dbd_areIndexes_fin) (hret : ∀ s, Kst (X.ret, s) = endK prog 73 [(sSearch a0), (sType a1)] [] [.tmp 4] (X.ret, s)) :
    ∀ (m : Nat) (x11 : Int), (iter (exec prog (EV k) f58n k f58b0) m ⟨[(0, (sSearch a0)), (1, (sType a1)), (8, (sSearch a0)), (9, (I (a0.length : Int))), (10, (I x11))], [], 73⟩).bind Kst = (dbd_areIndexes_L1 k a0 a1 K0 m x11).map dbd_areIndexes_fin := by
  intro m
  induction m with
  | zero => intros; rfl
  | succ m ih =>
    intro x11
    unfold dbd_areIndexes_L1
    refine Eq.trans k_round ?_
    refine Eq.trans (k_region0 rfl (f58r2 k a0 a1 x11)) ?_
    refine Eq.trans (k_cond (t := (decide (x11 < (a0.length : Int)))) rfl) ?_
    refine bifE2 (fun hc => ?_) fun hc => ?_
    · rw [hc]
      refine Eq.trans k_skip ?_
      refine Eq.trans k_block ?_
      refine Eq.trans (k_region rfl (f58r3 k a0 a1 x11)) ?_
      refine bindE (fun o13 => ?_)
      refine Eq.trans k_assoc ?_
      refine Eq.trans (k_region rfl (f58r4 k a0 a1 x11 o13)) ?_
      refine bindE (fun o17 => ?_)
      refine Eq.trans (k_cond (t := o17) rfl) ?_
      refine bifE2 (fun hc => ?_) fun hc => ?_
      · rw [hc]
        refine Eq.trans k_assoc ?_
        refine Eq.trans (k_region0 rfl (f58r5 k a0 a1 x11 o13)) ?_
        refine Eq.trans k_ret ?_
        refine Eq.trans blk_ret ?_
        refine Eq.trans loop_ret ?_
        refine Eq.trans (hret _) ?_
        rfl
      · rw [hc]
        refine Eq.trans k_skip ?_
        refine Eq.trans (k_region rfl (f58r6 k a0 a1 x11 o13)) ?_
        refine bindE (fun o19 => ?_)
        refine Eq.trans (k_region rfl (f58r7 k a0 a1 x11 o13 o19)) ?_
        refine bindE (fun o21 => ?_)
        refine Eq.trans (k_lcond (t := o21) rfl) ?_
        refine bifE2 (fun hc => ?_) fun hc => ?_
        · rw [hc]
          refine Eq.trans (k_region0 rfl (f58r8 k a0 a1 x11)) ?_
          refine Eq.trans k_lret ?_
          refine Eq.trans blk_ret ?_
          refine Eq.trans loop_ret ?_
          refine Eq.trans (hret _) ?_
          rfl
        · rw [hc]
          refine Eq.trans k_lskip ?_
          refine Eq.trans blk_normal ?_
          refine Eq.trans (k_lregion0 rfl (f58r9 k a0 a1 x11)) ?_
          refine Eq.trans loop_normal ?_
          exact ih (Go.IntKind.wrap .i64 (x11 + 1))
    · rw [hc]
      refine Eq.trans k_exit ?_
      refine Eq.trans loop_exit ?_
      exact hK0 x11
theorem f58r10 (k : Nat) (a0 : (List T_api_Search)) (a1 : (List T_api_Type)) (y22 : Int) : RE k f58a10 f58o10 false ⟨[(0, (sSearch a0)), (1, (sType a1)), (8, (sSearch a0)), (9, (I (a0.length : Int))), (10, (I y22)), (11, (V.bool false))], [], 73⟩ = some ⟨[(4, (V.bool (decide ((a0.length : Int) ≤ 3))))], [], 73⟩ := by
  refine rg ?_
  refine ra 1 1 ⟨[(0, (sSearch a0)), (1, (sType a1)), (8, (sSearch a0)), (9, (I (a0.length : Int))), (10, (I y22)), (11, (V.bool false)), (70, (sSearch a0))], [], 73⟩ rfl rfl rfl ?_
  refine Eq.trans (reg_pure (x := some ()) (w := fun _ => (I (a0.length : Int))) rfl rfl rfl rfl (p_len (e := enc_T_api_Search) rfl rfl rfl rfl rfl rfl Go.Proofs.Try.underlying23)) ?_
  refine Eq.trans some_bind ?_
  exact bind_end rfl
theorem dbd_areIndexes_ok (k : Nat) (a0 : (List T_api_Search)) (a1 : (List T_api_Type)) : EV k 58 [(sSearch a0), (sType a1)] = (dbd_areIndexes k a0 a1).map dbd_areIndexes_fin := by
  cases k with
  | zero => rfl
  | succ k =>
    unfold dbd_areIndexes
    refine Eq.trans (evF_succ (c := f58c) (N := 73) (regs := f58n) rfl Go.Proofs.Try.func58 rfl (by decide) rfl rfl rfl) ?_
    refine Eq.trans (k_region0 rfl (f58r0 k a0 a1)) ?_
    refine Eq.trans k_assoc ?_
    refine Eq.trans (k_region0 rfl (f58r1 k a0 a1)) ?_
    refine Eq.trans k_block ?_
    refine Eq.trans k_loop ?_
    refine dbd_areIndexes_L1_ok k a0 a1 _ _ ?h_dbd_areIndexes_L1_0 ?hr_dbd_areIndexes_L1 k 0
    · intro y22
      refine Eq.trans blk_exit ?_
      refine Eq.trans (k_region0 rfl (f58r10 k a0 a1 y22)) ?_
      refine Eq.trans k_lret ?_
      rfl
    · intro s; exact rfl
def dbd_Valid_fin : Bool → V × List V := fun r => ((V.bool r), [])
theorem f28r0 (k : Nat) (a0 : T_api_Base) : RE k f28a0 f28o0 false ⟨[(0, (enc_T_api_Base a0))], [], 28⟩ = some ⟨[(1, (V.ptr 1 0 0))], [(1, ⟨false, 4, [(enc_T_api_Base a0)]⟩)], 28⟩ :=
  rE rfl
theorem f28r1 (k : Nat) (a0 : T_api_Base) : RE k f28a1 f28o1 false ⟨[(1, (V.ptr 1 0 0))], [(1, ⟨false, 4, [(enc_T_api_Base a0)]⟩)], 28⟩ = (((dbd_IsName k a0.fName).bind fun v1 => (bif v1 then (bif (decide (a0.fKind ≥ 1)) then (bif (decide (a0.fKind ≤ 4)) then ((dbd_areTypes k a0.fTypes).bind fun v2 => (bif v2 then (dbd_areIndexes k a0.fIndexes a0.fTypes) else (some (false)))) else (some (false))) else (some (false))) else (some (false))))).map (fun (o : Bool) => (⟨[(2, (V.bool o))], [], 28⟩ : St)) := by
  refine rg ?_
  refine ra 2 2 ⟨[(1, (V.ptr 1 0 0)), (3, (V.ptr 1 0 0)), (4, (V.str a0.fName))], [(1, ⟨false, 4, [(enc_T_api_Base a0)]⟩)], 28⟩ rfl rfl rfl ?_
  refine Eq.trans (reg_pure (x := (dbd_IsName k a0.fName)) (w := fun v1 => (V.bool v1)) rfl rfl rfl rfl (p_call rfl rfl rfl rfl rfl (dbd_IsName_ok k a0.fName) (.inl rfl))) ?_
  refine bindE (fun v1 => ?_)
  refine ba 1 4 ⟨[(1, (V.ptr 1 0 0)), (3, (V.ptr 1 0 0)), (4, (V.str a0.fName)), (5, (V.bool v1)), (6, (V.bool v1))], [(1, ⟨false, 4, [(enc_T_api_Base a0)]⟩)], 28⟩ rfl rfl rfl ?_
  refine bifE (c := v1) (fun hc => ?_) fun hc => ?_
  · rw [hc]
    refine ra 5 9 ⟨[(1, (V.ptr 1 0 0)), (3, (V.ptr 1 0 0)), (4, (V.str a0.fName)), (5, (V.bool true)), (6, (V.bool true)), (7, (V.ptr 1 0 1)), (8, (I a0.fKind)), (9, (V.bool (decide (a0.fKind ≥ 1)))), (10, (V.bool (decide (a0.fKind ≥ 1)))), (11, (V.bool (decide (a0.fKind ≥ 1))))], [(1, ⟨false, 4, [(enc_T_api_Base a0)]⟩)], 28⟩ rfl rfl rfl ?_
    refine bifE (c := (decide (a0.fKind ≥ 1))) (fun hc => ?_) fun hc => ?_
    · rw [hc]
      refine ra 5 14 ⟨[(1, (V.ptr 1 0 0)), (3, (V.ptr 1 0 0)), (4, (V.str a0.fName)), (5, (V.bool true)), (6, (V.bool true)), (7, (V.ptr 1 0 1)), (8, (I a0.fKind)), (9, (V.bool true)), (10, (V.bool true)), (11, (V.bool true)), (12, (V.ptr 1 0 1)), (13, (I a0.fKind)), (14, (V.bool (decide (a0.fKind ≤ 4)))), (15, (V.bool (decide (a0.fKind ≤ 4)))), (16, (V.bool (decide (a0.fKind ≤ 4))))], [(1, ⟨false, 4, [(enc_T_api_Base a0)]⟩)], 28⟩ rfl rfl rfl ?_
      refine bifE (c := (decide (a0.fKind ≤ 4))) (fun hc => ?_) fun hc => ?_
      · rw [hc]
        refine ra 2 16 ⟨[(1, (V.ptr 1 0 0)), (3, (V.ptr 1 0 0)), (4, (V.str a0.fName)), (5, (V.bool true)), (6, (V.bool true)), (7, (V.ptr 1 0 1)), (8, (I a0.fKind)), (9, (V.bool true)), (10, (V.bool true)), (11, (V.bool true)), (12, (V.ptr 1 0 1)), (13, (I a0.fKind)), (14, (V.bool true)), (15, (V.bool true)), (16, (V.bool true)), (17, (V.ptr 1 0 2)), (18, (sType (a0.fTypes)))], [(1, ⟨false, 4, [(enc_T_api_Base a0)]⟩)], 28⟩ rfl rfl rfl ?_
        refine Eq.trans (reg_pure (x := (dbd_areTypes k a0.fTypes)) (w := fun v2 => (V.bool v2)) rfl rfl rfl rfl (p_call rfl rfl rfl rfl rfl (dbd_areTypes_ok k a0.fTypes) (.inl rfl))) ?_
        refine bindE (fun v2 => ?_)
        refine ba 2 19 ⟨[(1, (V.ptr 1 0 0)), (3, (V.ptr 1 0 0)), (4, (V.str a0.fName)), (5, (V.bool true)), (6, (V.bool true)), (7, (V.ptr 1 0 1)), (8, (I a0.fKind)), (9, (V.bool true)), (10, (V.bool true)), (11, (V.bool true)), (12, (V.ptr 1 0 1)), (13, (I a0.fKind)), (14, (V.bool true)), (15, (V.bool true)), (16, (V.bool true)), (17, (V.ptr 1 0 2)), (18, (sType (a0.fTypes))), (19, (V.bool v2)), (20, (V.bool v2)), (21, (V.bool v2))], [(1, ⟨false, 4, [(enc_T_api_Base a0)]⟩)], 28⟩ rfl rfl rfl ?_
        refine bifE (c := v2) (fun hc => ?_) fun hc => ?_
        · rw [hc]
          refine ra 4 23 ⟨[(1, (V.ptr 1 0 0)), (3, (V.ptr 1 0 0)), (4, (V.str a0.fName)), (5, (V.bool true)), (6, (V.bool true)), (7, (V.ptr 1 0 1)), (8, (I a0.fKind)), (9, (V.bool true)), (10, (V.bool true)), (11, (V.bool true)), (12, (V.ptr 1 0 1)), (13, (I a0.fKind)), (14, (V.bool true)), (15, (V.bool true)), (16, (V.bool true)), (17, (V.ptr 1 0 2)), (18, (sType (a0.fTypes))), (19, (V.bool true)), (20, (V.bool true)), (21, (V.bool true)), (22, (V.ptr 1 0 3)), (23, (sSearch (a0.fIndexes))), (24, (V.ptr 1 0 2)), (25, (sType (a0.fTypes)))], [(1, ⟨false, 4, [(enc_T_api_Base a0)]⟩)], 28⟩ rfl rfl rfl ?_
          refine Eq.trans (reg_pure (x := (dbd_areIndexes k a0.fIndexes a0.fTypes)) (w := fun v3 => (V.bool v3)) rfl rfl rfl rfl (p_call rfl rfl rfl rfl rfl (dbd_areIndexes_ok k a0.fIndexes a0.fTypes) (.inl rfl))) ?_
          refine bind_self (fun v3 => ?_)
          exact bind_end rfl
        · rw [hc]
          exact reg_end rfl
      · rw [hc]
        exact reg_end rfl
    · rw [hc]
      exact reg_end rfl
  · rw [hc]
    exact reg_end rfl
theorem dbd_Valid_ok (k : Nat) (a0 : T_api_Base) : EV k 28 [(enc_T_api_Base a0)] = (dbd_Valid k a0).map dbd_Valid_fin := by
  cases k with
  | zero => rfl
  | succ k =>
    unfold dbd_Valid
    refine Eq.trans (evF_succ (c := f28c) (N := 28) (regs := f28n) rfl Go.Proofs.Try.func28 rfl (by decide) rfl rfl rfl) ?_
    refine Eq.trans (k_region0 rfl (f28r0 k a0)) ?_
    refine Eq.trans (k_region rfl (f28r1 k a0)) ?_
    refine bindE (fun o4 => ?_)
    refine Eq.trans k_lret ?_
    rfl
def slices_IndexFunc_int_fin : Int → V × List V := fun r => ((I r), [])
theorem f73r0 (k : Nat) (a0 : (List Int)) (a1 : Nat → Int → Option Bool) (a1_fid : Go.FuncId) (a1_c0 : V) (a1_hok : ∀ j x0, EV j a1_fid [(I x0), V.pro a1_c0] = (a1 j x0).map fun b => ((V.bool b), [])) : RE k f73a0 f73o0 false ⟨[(0, (sI a0)), (1, (V.fn a1_fid [] [V.pro a1_c0]))], [], 19⟩ = some ⟨[(0, (sI a0)), (1, (V.fn a1_fid [] [V.pro a1_c0]))], [], 19⟩ :=
  rE rfl
theorem f73r1 (k : Nat) (a0 : (List Int)) (a1 : Nat → Int → Option Bool) (a1_fid : Go.FuncId) (a1_c0 : V) (a1_hok : ∀ j x0, EV j a1_fid [(I x0), V.pro a1_c0] = (a1 j x0).map fun b => ((V.bool b), [])) : RE k f73a1 f73o1 false ⟨[(0, (sI a0)), (1, (V.fn a1_fid [] [V.pro a1_c0]))], [], 19⟩ = some ⟨[(0, (sI a0)), (1, (V.fn a1_fid [] [V.pro a1_c0])), (7, (I (a0.length : Int))), (8, (I 0))], [], 19⟩ := by
  refine rg ?_
  refine ra 1 1 ⟨[(0, (sI a0)), (1, (V.fn a1_fid [] [V.pro a1_c0])), (6, (sI a0))], [], 19⟩ rfl rfl rfl ?_
  refine Eq.trans (reg_pure (x := some ()) (w := fun _ => (I (a0.length : Int))) rfl rfl rfl rfl (p_len (e := I) rfl rfl rfl rfl rfl rfl Go.Proofs.Try.underlying28)) ?_
  refine Eq.trans some_bind ?_
  exact bind_end rfl
theorem f73r2 (k : Nat) (a0 : (List Int)) (x4 : Int) (a1 : Nat → Int → Option Bool) (a1_fid : Go.FuncId) (a1_c0 : V) (a1_hok : ∀ j x0, EV j a1_fid [(I x0), V.pro a1_c0] = (a1 j x0).map fun b => ((V.bool b), [])) : RE k f73a2 f73o2 false ⟨[(0, (sI a0)), (1, (V.fn a1_fid [] [V.pro a1_c0])), (7, (I (a0.length : Int))), (8, (I x4))], [], 19⟩ = some ⟨[(0, (sI a0)), (1, (V.fn a1_fid [] [V.pro a1_c0])), (7, (I (a0.length : Int))), (8, (I x4)), (9, (V.bool (decide (x4 < (a0.length : Int)))))], [], 19⟩ :=
  rE rfl
theorem f73r3 (k : Nat) (a0 : (List Int)) (x4 : Int) (a1 : Nat → Int → Option Bool) (a1_fid : Go.FuncId) (a1_c0 : V) (a1_hok : ∀ j x0, EV j a1_fid [(I x0), V.pro a1_c0] = (a1 j x0).map fun b => ((V.bool b), [])) : RE k f73a3 f73o3 false ⟨[(0, (sI a0)), (1, (V.fn a1_fid [] [V.pro a1_c0])), (7, (I (a0.length : Int))), (8, (I x4)), (9, (V.bool true))], [], 19⟩ = some ⟨[(0, (sI a0)), (1, (V.fn a1_fid [] [V.pro a1_c0])), (5, (I x4)), (7, (I (a0.length : Int))), (8, (I x4))], [], 19⟩ :=
  rE rfl
theorem f73r4 (k : Nat) (a0 : (List Int)) (x4 : Int) (a1 : Nat → Int → Option Bool) (a1_fid : Go.FuncId) (a1_c0 : V) (a1_hok : ∀ j x0, EV j a1_fid [(I x0), V.pro a1_c0] = (a1 j x0).map fun b => ((V.bool b), [])) : RE k f73a4 f73o4 false ⟨[(0, (sI a0)), (1, (V.fn a1_fid [] [V.pro a1_c0])), (5, (I x4)), (7, (I (a0.length : Int))), (8, (I x4))], [], 19⟩ = (((idx a0 x4).bind fun v5 => (a1 k v5))).map (fun (o : Bool) => (⟨[(0, (sI a0)), (1, (V.fn a1_fid [] [V.pro a1_c0])), (5, (I x4)), (7, (I (a0.length : Int))), (8, (I x4)), (16, (V.bool o))], [], 19⟩ : St)) := by
  refine rg ?_
  refine ra 3 3 ⟨[(0, (sI a0)), (1, (V.fn a1_fid [] [V.pro a1_c0])), (5, (I x4)), (7, (I (a0.length : Int))), (8, (I x4)), (11, (V.fn a1_fid [] [V.pro a1_c0])), (12, (sI a0)), (13, (I x4))], [], 19⟩ rfl rfl rfl ?_
  refine Eq.trans (reg_pure (x := (idx a0 x4)) (w := fun v5 => (V.pro (I v5))) rfl rfl rfl rfl (p_index (e := I) rfl rfl rfl Go.Proofs.Try.underlying28 rfl (by decide))) ?_
  refine bindE (fun v5 => ?_)
  refine ba 1 5 ⟨[(0, (sI a0)), (1, (V.fn a1_fid [] [V.pro a1_c0])), (5, (I x4)), (7, (I (a0.length : Int))), (8, (I x4)), (11, (V.fn a1_fid [] [V.pro a1_c0])), (12, (sI a0)), (13, (I x4)), (14, (V.pro (I v5))), (15, (I v5))], [], 19⟩ rfl rfl rfl ?_
  refine Eq.trans (reg_pure (x := (a1 k v5)) (w := fun v6 => (V.bool v6)) rfl rfl rfl rfl (p_call rfl rfl rfl rfl rfl (a1_hok k v5) (.inl rfl))) ?_
  refine bind_self (fun v6 => ?_)
  exact bind_end rfl
theorem f73r5 (k : Nat) (a0 : (List Int)) (x4 : Int) (a1 : Nat → Int → Option Bool) (a1_fid : Go.FuncId) (a1_c0 : V) (a1_hok : ∀ j x0, EV j a1_fid [(I x0), V.pro a1_c0] = (a1 j x0).map fun b => ((V.bool b), [])) : RE k f73a5 f73o5 false ⟨[(0, (sI a0)), (1, (V.fn a1_fid [] [V.pro a1_c0])), (5, (I x4)), (7, (I (a0.length : Int))), (8, (I x4)), (16, (V.bool true))], [], 19⟩ = some ⟨[(4, (I x4))], [], 19⟩ :=
  rE rfl
theorem f73r6 (k : Nat) (a0 : (List Int)) (x4 : Int) (a1 : Nat → Int → Option Bool) (a1_fid : Go.FuncId) (a1_c0 : V) (a1_hok : ∀ j x0, EV j a1_fid [(I x0), V.pro a1_c0] = (a1 j x0).map fun b => ((V.bool b), [])) : RE k f73a6 f73o6 false ⟨[(0, (sI a0)), (1, (V.fn a1_fid [] [V.pro a1_c0])), (5, (I x4)), (7, (I (a0.length : Int))), (8, (I x4)), (16, (V.bool false))], [], 19⟩ = some ⟨[(0, (sI a0)), (1, (V.fn a1_fid [] [V.pro a1_c0])), (7, (I (a0.length : Int))), (8, (I (Go.IntKind.wrap .i64 (x4 + 1))))], [], 19⟩ :=
  rE rfl
theorem slices_IndexFunc_int_L1_ok (k : Nat) (a0 : (List Int)) (a1 : Nat → Int → Option Bool) (a1_fid : Go.FuncId) (a1_c0 : V) (a1_hok : ∀ j x0, EV j a1_fid [(I x0), V.pro a1_c0] = (a1 j x0).map fun b => ((V.bool b), [])) (K0 : Int → Option Int) (Kst : X × St → Option (V × List V)) (hK0 : ∀ (y0 : Int), Kst (X.exit 0, ⟨[(0, (sI a0)), (1, (V.fn a1_fid [] [V.pro a1_c0])), (7, (I (a0.length : Int))), (8, (I y0)), (9, (V.bool false))], [], 19⟩) = (K0 y0).map slices_IndexFunc_int_fin) (hret : ∀ s, Kst (X.ret, s) = endK prog 19 [(sI a0), (V.fn a1_fid [] [V.pro a1_c0])] [] [.tmp 4] (X.ret, s)) :
    ∀ (m : Nat) (x4 : Int), (iter (exec prog (EV k) f73n k f73b0) m ⟨[(0, (sI a0)), (1, (V.fn a1_fid [] [V.pro a1_c0])), (7, (I (a0.length : Int))), (8, (I x4))], [], 19⟩).bind Kst = (slices_IndexFunc_int_L1 k a0 a1 K0 m x4).map slices_IndexFunc_int_fin := by
  intro m
  induction m with
  | zero => intros; rfl
  | succ m ih =>
    intro x4
    unfold slices_IndexFunc_int_L1
    refine Eq.trans k_round ?_
    refine Eq.trans (k_region0 rfl (f73r2 k a0 x4 a1 a1_fid a1_c0 a1_hok)) ?_
    refine Eq.trans (k_cond (t := (decide (x4 < (a0.length : Int)))) rfl) ?_
    refine bifE2 (fun hc => ?_) fun hc => ?_
    · rw [hc]
      refine Eq.trans k_skip ?_
      refine Eq.trans k_block ?_
      refine Eq.trans (k_region0 rfl (f73r3 k a0 x4 a1 a1_fid a1_c0 a1_hok)) ?_
      refine Eq.trans (k_region rfl (f73r4 k a0 x4 a1 a1_fid a1_c0 a1_hok)) ?_
      refine bindE (fun o7 => ?_)
      refine Eq.trans (k_lcond (t := o7) rfl) ?_
      refine bifE2 (fun hc => ?_) fun hc => ?_
      · rw [hc]
        refine Eq.trans (k_region0 rfl (f73r5 k a0 x4 a1 a1_fid a1_c0 a1_hok)) ?_
        refine Eq.trans k_lret ?_
        refine Eq.trans blk_ret ?_
        refine Eq.trans loop_ret ?_
        refine Eq.trans (hret _) ?_
        rfl
      · rw [hc]
        refine Eq.trans k_lskip ?_
        refine Eq.trans blk_normal ?_
        refine Eq.trans (k_lregion0 rfl (f73r6 k a0 x4 a1 a1_fid a1_c0 a1_hok)) ?_
        refine Eq.trans loop_normal ?_
        exact ih (Go.IntKind.wrap .i64 (x4 + 1))
    · rw [hc]
      refine Eq.trans k_exit ?_
      refine Eq.trans loop_exit ?_
      exact hK0 x4
theorem f73r7 (k : Nat) (a0 : (List Int)) (y8 : Int) (a1 : Nat → Int → Option Bool) (a1_fid : Go.FuncId) (a1_c0 : V) (a1_hok : ∀ j x0, EV j a1_fid [(I x0), V.pro a1_c0] = (a1 j x0).map fun b => ((V.bool b), [])) : RE k f73a7 f73o7 false ⟨[(0, (sI a0)), (1, (V.fn a1_fid [] [V.pro a1_c0])), (7, (I (a0.length : Int))), (8, (I y8)), (9, (V.bool false))], [], 19⟩ = some ⟨[(4, (I (-1)))], [], 19⟩ :=
  rE rfl
theorem slices_IndexFunc_int_ok (k : Nat) (a0 : (List Int)) (a1 : Nat → Int → Option Bool) (a1_fid : Go.FuncId) (a1_c0 : V) (a1_hok : ∀ j x0, EV j a1_fid [(I x0), V.pro a1_c0] = (a1 j x0).map fun b => ((V.bool b), [])) : EV k 73 [(sI a0), (V.fn a1_fid [] [V.pro a1_c0])] = (slices_IndexFunc_int k a0 a1).map slices_IndexFunc_int_fin := by
  cases k with
  | zero => rfl
  | succ k =>
    unfold slices_IndexFunc_int
    refine Eq.trans (evF_succ (c := f73c) (N := 19) (regs := f73n) rfl Go.Proofs.Try.func73 rfl (by decide) rfl rfl rfl) ?_
    refine Eq.trans (k_region0 rfl (f73r0 k a0 a1 a1_fid a1_c0 a1_hok)) ?_
    refine Eq.trans k_assoc ?_
    refine Eq.trans (k_region0 rfl (f73r1 k a0 a1 a1_fid a1_c0 a1_hok)) ?_
    refine Eq.trans k_block ?_
    refine Eq.trans k_loop ?_
    refine slices_IndexFunc_int_L1_ok k a0 a1 a1_fid a1_c0 a1_hok _ _ ?h_slices_IndexFunc_int_L1_0 ?hr_slices_IndexFunc_int_L1 k 0
    · intro y8
      refine Eq.trans blk_exit ?_
      refine Eq.trans (k_region0 rfl (f73r7 k a0 y8 a1 a1_fid a1_c0 a1_hok)) ?_
      refine Eq.trans k_lret ?_
      rfl
    · intro s; exact rfl
def slices_ContainsFunc_int_fin : Bool → V × List V := fun r => ((V.bool r), [])
theorem f64r0 (k : Nat) (a0 : (List Int)) (a1 : Nat → Int → Option Bool) (a1_fid : Go.FuncId) (a1_c0 : V) (a1_hok : ∀ j x0, EV j a1_fid [(I x0), V.pro a1_c0] = (a1 j x0).map fun b => ((V.bool b), [])) : RE k f64a0 f64o0 false ⟨[(0, (sI a0)), (1, (V.fn a1_fid [] [V.pro a1_c0]))], [], 9⟩ = some ⟨[(0, (sI a0)), (1, (V.fn a1_fid [] [V.pro a1_c0]))], [], 9⟩ :=
  rE rfl
theorem f64r1 (k : Nat) (a0 : (List Int)) (a1 : Nat → Int → Option Bool) (a1_fid : Go.FuncId) (a1_c0 : V) (a1_hok : ∀ j x0, EV j a1_fid [(I x0), V.pro a1_c0] = (a1 j x0).map fun b => ((V.bool b), [])) : RE k f64a1 f64o1 false ⟨[(0, (sI a0)), (1, (V.fn a1_fid [] [V.pro a1_c0]))], [], 9⟩ = (((slices_IndexFunc_int k a0 a1).bind fun v1 => (some ((decide (v1 ≥ 0)))))).map (fun (o : Bool) => (⟨[(4, (V.bool o))], [], 9⟩ : St)) := by
  refine rg ?_
  refine ra 2 2 ⟨[(0, (sI a0)), (1, (V.fn a1_fid [] [V.pro a1_c0])), (5, (sI a0)), (6, (V.fn a1_fid [] [V.pro a1_c0]))], [], 9⟩ rfl rfl rfl ?_
  refine Eq.trans (reg_pure (x := (slices_IndexFunc_int k a0 a1)) (w := fun v1 => (I v1)) rfl rfl rfl rfl (p_call rfl rfl rfl rfl rfl (slices_IndexFunc_int_ok k a0 a1 a1_fid a1_c0 a1_hok) (.inl rfl))) ?_
  refine bindE (fun v1 => ?_)
  exact bind_end rfl
theorem slices_ContainsFunc_int_ok (k : Nat) (a0 : (List Int)) (a1 : Nat → Int → Option Bool) (a1_fid : Go.FuncId) (a1_c0 : V) (a1_hok : ∀ j x0, EV j a1_fid [(I x0), V.pro a1_c0] = (a1 j x0).map fun b => ((V.bool b), [])) : EV k 64 [(sI a0), (V.fn a1_fid [] [V.pro a1_c0])] = (slices_ContainsFunc_int k a0 a1).map slices_ContainsFunc_int_fin := by
  cases k with
  | zero => rfl
  | succ k =>
    unfold slices_ContainsFunc_int
    refine Eq.trans (evF_succ (c := f64c) (N := 9) (regs := f64n) rfl Go.Proofs.Try.func64 rfl (by decide) rfl rfl rfl) ?_
    refine Eq.trans (k_region0 rfl (f64r0 k a0 a1 a1_fid a1_c0 a1_hok)) ?_
    refine Eq.trans (k_region rfl (f64r1 k a0 a1 a1_fid a1_c0 a1_hok)) ?_
    refine bindE (fun o2 => ?_)
    refine Eq.trans k_lret ?_
    rfl
def dbd_asked_1_fin : Bool → V × List V := fun r => ((V.bool r), [])
theorem f65r0 (k : Nat) (a0 : Int) (a1 : T_api_Base) : RE k f65a0 f65o0 false ⟨[(0, (I a0)), (1, (V.pro (enc_T_api_Base a1)))], [], 13⟩ = some ⟨[(0, (I a0)), (1, (V.pro (enc_T_api_Base a1)))], [], 13⟩ :=
  rE rfl
theorem f65r1 (k : Nat) (a0 : Int) (a1 : T_api_Base) : RE k f65a1 f65o1 false ⟨[(0, (I a0)), (1, (V.pro (enc_T_api_Base a1)))], [], 13⟩ = ((bif (decide (a0 < 0)) then (some (true)) else (some ((decide (a0 ≥ (a1.fTypes.length : Int))))))).map (fun (o : Bool) => (⟨[(3, (V.bool o))], [], 13⟩ : St)) := by
  refine rg ?_
  refine ra 3 3 ⟨[(0, (I a0)), (1, (V.pro (enc_T_api_Base a1))), (4, (I a0)), (5, (V.bool (decide (a0 < 0)))), (6, (V.bool (decide (a0 < 0))))], [], 13⟩ rfl rfl rfl ?_
  refine bifE (c := (decide (a0 < 0))) (fun hc => ?_) fun hc => ?_
  · rw [hc]
    exact reg_end rfl
  · rw [hc]
    refine ra 3 6 ⟨[(0, (I a0)), (1, (V.pro (enc_T_api_Base a1))), (4, (I a0)), (5, (V.bool false)), (6, (V.bool false)), (7, (I a0)), (8, (V.pro (sType (a1.fTypes)))), (9, (sType (a1.fTypes)))], [], 13⟩ rfl rfl rfl ?_
    refine Eq.trans (reg_pure (x := some ()) (w := fun _ => (I (a1.fTypes.length : Int))) rfl rfl rfl rfl (p_len (e := enc_T_api_Type) rfl rfl rfl rfl rfl rfl Go.Proofs.Try.underlying22)) ?_
    refine Eq.trans some_bind ?_
    exact bind_end rfl
theorem dbd_asked_1_ok (k : Nat) (a0 : Int) (a1 : T_api_Base) : EV k 65 [(I a0), (V.pro (enc_T_api_Base a1))] = (dbd_asked_1 k a0 a1).map dbd_asked_1_fin := by
  cases k with
  | zero => rfl
  | succ k =>
    unfold dbd_asked_1
    refine Eq.trans (evF_succ (c := f65c) (N := 13) (regs := f65n) rfl Go.Proofs.Try.func65 rfl (by decide) rfl rfl rfl) ?_
    refine Eq.trans (k_region0 rfl (f65r0 k a0 a1)) ?_
    refine Eq.trans (k_region rfl (f65r1 k a0 a1)) ?_
    refine bindE (fun o1 => ?_)
    refine Eq.trans k_lret ?_
    rfl
def dbd_asked_fin : Int → V × List V := fun r => ((I r), [])
theorem f38r0 (k : Nat) (a0 : T_api_Base) (a1 : (List Int)) : RE k f38a0 f38o0 false ⟨[(0, (enc_T_api_Base a0)), (1, (sI a1))], [], 13⟩ = some ⟨[(1, (sI a1)), (2, (V.ptr 2 0 0))], [(2, ⟨false, 4, [(enc_T_api_Base a0)]⟩)], 13⟩ :=
  rE rfl
theorem f38r1 (k : Nat) (a0 : T_api_Base) (a1 : (List Int)) : RE k f38a1 f38o1 false ⟨[(1, (sI a1)), (2, (V.ptr 2 0 0))], [(2, ⟨false, 4, [(enc_T_api_Base a0)]⟩)], 13⟩ = (((dbd_Valid k a0).bind fun v1 => (some ((!v1))))).map (fun (o : Bool) => (⟨[(1, (sI a1)), (2, (V.ptr 2 0 0)), (5, (V.bool o))], [(2, ⟨false, 4, [(enc_T_api_Base a0)]⟩)], 13⟩ : St)) := by
  refine rg ?_
  refine ra 1 1 ⟨[(1, (sI a1)), (2, (V.ptr 2 0 0)), (6, (enc_T_api_Base a0))], [(2, ⟨false, 4, [(enc_T_api_Base a0)]⟩)], 13⟩ rfl rfl rfl ?_
  refine Eq.trans (reg_pure (x := (dbd_Valid k a0)) (w := fun v1 => (V.bool v1)) rfl rfl rfl rfl (p_call rfl rfl rfl rfl rfl (dbd_Valid_ok k a0) (.inl rfl))) ?_
  refine bindE (fun v1 => ?_)
  exact bind_end rfl
theorem f38r2 (k : Nat) (a0 : T_api_Base) (a1 : (List Int)) : RE k f38a2 f38o2 false ⟨[(1, (sI a1)), (2, (V.ptr 2 0 0)), (5, (V.bool true))], [(2, ⟨false, 4, [(enc_T_api_Base a0)]⟩)], 13⟩ = some ⟨[(4, (I 100))], [], 13⟩ :=
  rE rfl
theorem f38r3 (k : Nat) (a0 : T_api_Base) (a1 : (List Int)) : RE k f38a3 f38o3 false ⟨[(1, (sI a1)), (2, (V.ptr 2 0 0)), (5, (V.bool false))], [(2, ⟨false, 4, [(enc_T_api_Base a0)]⟩)], 13⟩ = ((slices_ContainsFunc_int k a1 (fun j x0 => (dbd_asked_1 j x0 a0)))).map (fun (o : Bool) => (⟨[(9, (V.bool o))], [], 13⟩ : St)) := by
  refine rg ?_
  refine ra 2 2 ⟨[(1, (sI a1)), (2, (V.ptr 2 0 0)), (5, (V.bool false)), (10, (sI a1)), (11, (V.fn 65 [] [(V.ptr 2 0 0)]))], [(2, ⟨false, 4, [(enc_T_api_Base a0)]⟩)], 13⟩ rfl rfl rfl ?_
  refine Eq.trans (reg_pure (x := (slices_ContainsFunc_int k a1 (fun j x0 => (dbd_asked_1 j x0 a0)))) (w := fun v3 => (V.bool v3)) rfl rfl rfl rfl (p_call rfl rfl rfl rfl rfl (slices_ContainsFunc_int_ok k a1 (fun j x0 => (dbd_asked_1 j x0 a0)) 65 (enc_T_api_Base a0) (fun j x0 => (dbd_asked_1_ok j x0 a0))) (.inr (fun _ => rfl)))) ?_
  refine bind_self (fun v3 => ?_)
  exact bind_end rfl
theorem f38r4 (k : Nat)  : RE k f38a4 f38o4 false ⟨[(9, (V.bool true))], [], 13⟩ = some ⟨[(4, (I 2))], [], 13⟩ :=
  rE rfl
theorem f38r5 (k : Nat)  : RE k f38a5 f38o5 false ⟨[(9, (V.bool false))], [], 13⟩ = some ⟨[(4, (I 0))], [], 13⟩ :=
  rE rfl
theorem dbd_asked_ok (k : Nat) (a0 : T_api_Base) (a1 : (List Int)) : EV k 38 [(enc_T_api_Base a0), (sI a1)] = (dbd_asked k a0 a1).map dbd_asked_fin := by
  cases k with
  | zero => rfl
  | succ k =>
    unfold dbd_asked
    refine Eq.trans (evF_succ (c := f38c) (N := 13) (regs := f38n) rfl Go.Proofs.Try.func38 rfl (by decide) rfl rfl rfl) ?_
    refine Eq.trans (k_region0 rfl (f38r0 k a0 a1)) ?_
    refine Eq.trans k_block ?_
    refine Eq.trans (k_region rfl (f38r1 k a0 a1)) ?_
    refine bindE (fun o2 => ?_)
    refine Eq.trans (k_lcond (t := o2) rfl) ?_
    refine bifE2 (fun hc => ?_) fun hc => ?_
    · rw [hc]
      refine Eq.trans (k_region0 rfl (f38r2 k a0 a1)) ?_
      refine Eq.trans k_lret ?_
      refine Eq.trans blk_ret ?_
      rfl
    · rw [hc]
      refine Eq.trans (k_region rfl (f38r3 k a0 a1)) ?_
      refine bindE (fun o4 => ?_)
      refine Eq.trans (k_lcond (t := o4) rfl) ?_
      refine bifE2 (fun hc => ?_) fun hc => ?_
      · rw [hc]
        refine Eq.trans (k_region0 rfl (f38r4 k)) ?_
        refine Eq.trans k_lret ?_
        refine Eq.trans blk_ret ?_
        rfl
      · rw [hc]
        refine Eq.trans k_lskip ?_
        refine Eq.trans blk_normal ?_
        refine Eq.trans (k_region0 rfl (f38r5 k)) ?_
        refine Eq.trans k_lret ?_
        rfl
def slices_Reverse_int_fin : List Int → V × List V := fun r => (.tup [], [.sl 2 1 (List.map I r)])
theorem slices_Reverse_int_ok (k : Nat) (l : List Int) : EV k 66 [(V.sl 2 1 (List.map I l))] = (slices_Reverse_int k l).map slices_Reverse_int_fin := by
  cases k with
  | zero => rfl
  | succ k => exact (evF_ext (ext := ext) (f := 66) rfl).trans (extReverseInt_map l)
def dbd_way_fin : (List Int) → V × List V := fun r => ((sI r), [])
theorem f39r0 (k : Nat) (a0 : T_api_Base) (a1 : Int) : RE k f39a0 f39o0 false ⟨[(0, (enc_T_api_Base a0)), (1, (I a1))], [], 21⟩ = some ⟨[(1, (I a1)), (2, (V.ptr 2 0 0))], [(2, ⟨false, 4, [(enc_T_api_Base a0)]⟩)], 21⟩ :=
  rE rfl
theorem f39r1 (k : Nat) (a0 : T_api_Base) (a1 : Int) : RE k f39a1 f39o1 false ⟨[(1, (I a1)), (2, (V.ptr 2 0 0))], [(2, ⟨false, 4, [(enc_T_api_Base a0)]⟩)], 21⟩ = some ⟨[(1, (I a1)), (2, (V.ptr 2 0 0)), (5, (V.aref 5 0 (List.map I ([] : List Int)).length))], [(2, ⟨false, 4, [(enc_T_api_Base a0)]⟩), (5, ⟨true, 1, List.map I ([] : List Int)⟩)], 21⟩ :=
  rE rfl
theorem f39r2 (k : Nat) (a0 : T_api_Base) (x5 : Int) (x6 : (List Int)) : RE k f39a2 f39o2 false ⟨[(1, (I x5)), (2, (V.ptr 2 0 0)), (5, (V.aref 5 0 (List.map I x6).length))], [(2, ⟨false, 4, [(enc_T_api_Base a0)]⟩), (5, ⟨true, 1, List.map I x6⟩)], 21⟩ = some ⟨[(1, (I x5)), (2, (V.ptr 2 0 0)), (5, (V.aref 5 0 (List.map I x6).length)), (7, (V.bool (decide (x5 ≥ 0))))], [(2, ⟨false, 4, [(enc_T_api_Base a0)]⟩), (5, ⟨true, 1, List.map I x6⟩)], 21⟩ :=
  rE rfl
theorem f39r4 (k : Nat) (a0 : T_api_Base) (x5 : Int) (x6 : (List Int)) : RE k f39a4 f39o4 false ⟨[(1, (I x5)), (2, (V.ptr 2 0 0)), (5, (V.aref 5 0 (List.map I x6).length)), (7, (V.bool true))], [(2, ⟨false, 4, [(enc_T_api_Base a0)]⟩), (5, ⟨true, 1, List.map I x6⟩)], 21⟩ = ((app x6 ([x5] : List Int))).map (fun (o : (List Int)) => (⟨[(1, (I x5)), (2, (V.ptr 2 0 0)), (5, (V.aref 5 0 (List.map I o).length))], [(2, ⟨false, 4, [(enc_T_api_Base a0)]⟩), (5, ⟨true, 1, List.map I o⟩)], 21⟩ : St)) := by
  refine rg ?_
  refine ra 3 3 ⟨[(1, (I x5)), (2, (V.ptr 2 0 0)), (5, (V.aref 5 0 (List.map I x6).length)), (7, (V.bool true)), (14, (V.aref 5 0 (List.map I x6).length)), (15, (I x5)), (16, (sI (([x5] : List Int))))], [(2, ⟨false, 4, [(enc_T_api_Base a0)]⟩), (5, ⟨true, 1, List.map I x6⟩)], 21⟩ rfl rfl rfl ?_
  refine Eq.trans (reg_eff (x := (app x6 ([x5] : List Int))) (w := fun v7 => ((V.aref 5 0 (List.map I v7).length), _)) rfl rfl rfl rfl (p_appF (e := I) (l := x6) rfl rfl rfl rfl rfl rfl rfl rfl rfl rfl rfl (of_decide_eq_true rfl))) ?_
  refine bind_self (fun v7 => ?_)
  exact bind_end rfl
theorem f39r3 (k : Nat) (a0 : T_api_Base) (x5 : Int) (o8 : (List Int)) : RE k f39a3 f39o3 false ⟨[(1, (I x5)), (2, (V.ptr 2 0 0)), (5, (V.aref 5 0 (List.map I o8).length))], [(2, ⟨false, 4, [(enc_T_api_Base a0)]⟩), (5, ⟨true, 1, List.map I o8⟩)], 21⟩ = (((idx a0.fTypes x5).bind fun v9 => (some (v9.fParent)))).map (fun (o : Int) => (⟨[(1, (I o)), (2, (V.ptr 2 0 0)), (5, (V.aref 5 0 (List.map I o8).length))], [(2, ⟨false, 4, [(enc_T_api_Base a0)]⟩), (5, ⟨true, 1, List.map I o8⟩)], 21⟩ : St)) := by
  refine rg ?_
  refine ra 3 3 ⟨[(1, (I x5)), (2, (V.ptr 2 0 0)), (5, (V.aref 5 0 (List.map I o8).length)), (8, (V.ptr 2 0 2)), (9, (sType (a0.fTypes))), (10, (I x5))], [(2, ⟨false, 4, [(enc_T_api_Base a0)]⟩), (5, ⟨true, 1, List.map I o8⟩)], 21⟩ rfl rfl rfl ?_
  refine Eq.trans (reg_pure (x := (idx a0.fTypes x5)) (w := fun v9 => (V.pro (enc_T_api_Type v9))) rfl rfl rfl rfl (p_index (e := enc_T_api_Type) rfl rfl rfl Go.Proofs.Try.underlying22 rfl (by decide))) ?_
  refine bindE (fun v9 => ?_)
  exact bind_end rfl
theorem dbd_way_L1_ok (k : Nat) (a0 : T_api_Base) (a1 : Int)  (K0 : Int → (List Int) → Option (List Int)) (Kst : X × St → Option (V × List V)) (hK0 : ∀ (y0 : Int) (y1 : (List Int)), Kst (X.exit 0, ⟨[(1, (I y0)), (2, (V.ptr 2 0 0)), (5, (V.aref 5 0 (List.map I y1).length)), (7, (V.bool false))], [(2, ⟨false, 4, [(enc_T_api_Base a0)]⟩), (5, ⟨true, 1, List.map I y1⟩)], 21⟩) = (K0 y0 y1).map dbd_way_fin) (hret : ∀ s, Kst (X.ret, s) = endK prog 21 [(enc_T_api_Base a0), (I a1)] [] [.tmp 4] (X.ret, s)) :
    ∀ (m : Nat) (x5 : Int) (x6 : (List Int)), (iter (exec prog (EV k) f39n k f39b0) m ⟨[(1, (I x5)), (2, (V.ptr 2 0 0)), (5, (V.aref 5 0 (List.map I x6).length))], [(2, ⟨false, 4, [(enc_T_api_Base a0)]⟩), (5, ⟨true, 1, List.map I x6⟩)], 21⟩).bind Kst = (dbd_way_L1 a0 K0 m x5 x6).map dbd_way_fin := by
  intro m
  induction m with
  | zero => intros; rfl
  | succ m ih =>
    intro x5 x6
    unfold dbd_way_L1
    refine Eq.trans k_round ?_
    refine Eq.trans k_assoc ?_
    refine Eq.trans (k_region0 rfl (f39r2 k a0 x5 x6)) ?_
    refine Eq.trans (k_cond (t := (decide (x5 ≥ 0))) rfl) ?_
    refine bifE2 (fun hc => ?_) fun hc => ?_
    · rw [hc]
      refine Eq.trans k_skip ?_
      refine Eq.trans k_block ?_
      refine Eq.trans (k_lregion rfl (f39r4 k a0 x5 x6)) ?_
      refine bindE (fun o8 => ?_)
      refine Eq.trans blk_normal ?_
      refine Eq.trans (k_lregion rfl (f39r3 k a0 x5 o8)) ?_
      refine bindE (fun o10 => ?_)
      refine Eq.trans loop_normal ?_
      exact ih o10 o8
    · rw [hc]
      refine Eq.trans k_exit ?_
      refine Eq.trans loop_exit ?_
      exact hK0 x5 x6
theorem f39r5 (k : Nat) (a0 : T_api_Base) (y11 : Int) (y12 : (List Int)) : RE k f39a5 f39o5 false ⟨[(1, (I y11)), (2, (V.ptr 2 0 0)), (5, (V.aref 5 0 (List.map I y12).length)), (7, (V.bool false))], [(2, ⟨false, 4, [(enc_T_api_Base a0)]⟩), (5, ⟨true, 1, List.map I y12⟩)], 21⟩ = (((slices_Reverse_int k y12).bind (sameLen y12))).map (fun (o : (List Int)) => (⟨[(5, (V.aref 5 0 (List.map I o).length))], [(5, ⟨true, 1, List.map I o⟩)], 21⟩ : St)) := by
  refine rg ?_
  refine ra 1 1 ⟨[(1, (I y11)), (2, (V.ptr 2 0 0)), (5, (V.aref 5 0 (List.map I y12).length)), (7, (V.bool false)), (18, (V.aref 5 0 (List.map I y12).length))], [(2, ⟨false, 4, [(enc_T_api_Base a0)]⟩), (5, ⟨true, 1, List.map I y12⟩)], 21⟩ rfl rfl rfl ?_
  refine Eq.trans (reg_eff (x := ((slices_Reverse_int k y12).bind (sameLen y12))) (w := fun v13 => (V.tup [], _)) rfl rfl rfl rfl (p_callL (S := (fun n_ => ⟨[(1, (I y11)), (2, (V.ptr 2 0 0)), (5, (V.aref 5 0 n_)), (7, (V.bool false)), (18, (V.aref 5 0 n_))], [(2, ⟨false, 4, [(enc_T_api_Base a0)]⟩), (5, ⟨true, 1, List.map I y12⟩)], 21⟩)) (e := I) rfl rfl rfl rfl rfl (argsA1 (e := I) rfl) rfl (slices_Reverse_int_ok k y12))) ?_
  refine bind_self (fun v13 => ?_)
  exact bind_end rfl
theorem f39r6 (k : Nat) (o14 : (List Int)) : RE k f39a6 f39o6 false ⟨[(5, (V.aref 5 0 (List.map I o14).length))], [(5, ⟨true, 1, List.map I o14⟩)], 21⟩ = some ⟨[(4, (sI o14))], [], 21⟩ := by
  refine rg ?_
  refine ra 1 1 ⟨[(5, (V.aref 5 0 (List.map I o14).length)), (20, (V.aref 5 0 (List.map I o14).length))], [(5, ⟨true, 1, List.map I o14⟩)], 21⟩ rfl rfl rfl ?_
  refine Eq.trans (reg_eff (x := some ()) (w := fun _ => ((V.sl 2 1 (List.map I o14)), _)) rfl rfl rfl rfl (p_close (e := I) rfl rfl rfl rfl rfl (of_decide_eq_true rfl))) ?_
  refine Eq.trans some_bind ?_
  exact bind_end rfl
theorem dbd_way_ok (k : Nat) (a0 : T_api_Base) (a1 : Int) : EV k 39 [(enc_T_api_Base a0), (I a1)] = (dbd_way k a0 a1).map dbd_way_fin := by
  cases k with
  | zero => rfl
  | succ k =>
    unfold dbd_way
    refine Eq.trans (evF_succ (c := f39c) (N := 21) (regs := f39n) rfl Go.Proofs.Try.func39 rfl (by decide) rfl rfl rfl) ?_
    refine Eq.trans (k_region0 rfl (f39r0 k a0 a1)) ?_
    refine Eq.trans (k_region0 rfl (f39r1 k a0 a1)) ?_
    refine Eq.trans k_block ?_
    refine Eq.trans k_loop ?_
    refine dbd_way_L1_ok k a0 a1 _ _ ?h_dbd_way_L1_0 ?hr_dbd_way_L1 k a1 ([] : List Int)
    · intro y11 y12
      refine Eq.trans blk_exit ?_
      refine Eq.trans (k_region rfl (f39r5 k a0 y11 y12)) ?_
      refine bindE (fun o14 => ?_)
      refine Eq.trans (k_region0 rfl (f39r6 k o14)) ?_
      refine Eq.trans k_lret ?_
      rfl
    · intro s; exact rfl
def dbd_Way_fin : ((List Int) × Int) → V × List V := fun r => (.tup [(sI (r.1)), (I r.2)], [])
theorem f11r0 (k : Nat) (a0 : T_api_Base) (a1 : Int) : RE k f11a0 f11o0 false ⟨[(0, (enc_T_api_Base a0)), (1, (I a1))], [], 17⟩ = some ⟨[(1, (I a1)), (2, (V.ptr 2 0 0))], [(2, ⟨false, 4, [(enc_T_api_Base a0)]⟩)], 17⟩ :=
  rE rfl
theorem f11r1 (k : Nat) (a0 : T_api_Base) (a1 : Int) : RE k f11a1 f11o1 false ⟨[(1, (I a1)), (2, (V.ptr 2 0 0))], [(2, ⟨false, 4, [(enc_T_api_Base a0)]⟩)], 17⟩ = ((dbd_asked k a0 ([a1] : List Int))).map (fun (o : Int) => (⟨[(1, (I a1)), (2, (V.ptr 2 0 0)), (6, (I o))], [(2, ⟨false, 4, [(enc_T_api_Base a0)]⟩)], 17⟩ : St)) := by
  refine rg ?_
  refine ra 3 3 ⟨[(1, (I a1)), (2, (V.ptr 2 0 0)), (7, (enc_T_api_Base a0)), (8, (I a1)), (9, (sI (([a1] : List Int))))], [(2, ⟨false, 4, [(enc_T_api_Base a0)]⟩)], 17⟩ rfl rfl rfl ?_
  refine Eq.trans (reg_pure (x := (dbd_asked k a0 ([a1] : List Int))) (w := fun v1 => (I v1)) rfl rfl rfl rfl (p_call rfl rfl rfl rfl rfl (dbd_asked_ok k a0 ([a1] : List Int)) (.inl rfl))) ?_
  refine bind_self (fun v1 => ?_)
  exact bind_end rfl
theorem f11r2 (k : Nat) (a0 : T_api_Base) (a1 : Int) (o2 : Int) : RE k f11a2 f11o2 false ⟨[(1, (I a1)), (2, (V.ptr 2 0 0)), (6, (I o2))], [(2, ⟨false, 4, [(enc_T_api_Base a0)]⟩)], 17⟩ = some ⟨[(1, (I a1)), (2, (V.ptr 2 0 0)), (6, (I o2)), (12, (V.bool (o2 != 0)))], [(2, ⟨false, 4, [(enc_T_api_Base a0)]⟩)], 17⟩ :=
  rE rfl
theorem f11r3 (k : Nat) (a0 : T_api_Base) (a1 : Int) (o2 : Int) : RE k f11a3 f11o3 false ⟨[(1, (I a1)), (2, (V.ptr 2 0 0)), (6, (I o2)), (12, (V.bool true))], [(2, ⟨false, 4, [(enc_T_api_Base a0)]⟩)], 17⟩ = some ⟨[(4, (sI (([] : List Int)))), (5, (I o2))], [], 17⟩ :=
  rE rfl
theorem f11r4 (k : Nat) (a0 : T_api_Base) (a1 : Int) (o2 : Int) : RE k f11a4 f11o4 false ⟨[(1, (I a1)), (2, (V.ptr 2 0 0)), (6, (I o2)), (12, (V.bool false))], [(2, ⟨false, 4, [(enc_T_api_Base a0)]⟩)], 17⟩ = (((dbd_way k a0 a1).bind fun v3 => (some (v3, 0)))).map (fun (o : (List Int) × Int) => (⟨[(4, (sI (o.1))), (5, (I o.2))], [], 17⟩ : St)) := by
  refine rg ?_
  refine ra 2 2 ⟨[(1, (I a1)), (2, (V.ptr 2 0 0)), (6, (I o2)), (12, (V.bool false)), (14, (enc_T_api_Base a0)), (15, (I a1))], [(2, ⟨false, 4, [(enc_T_api_Base a0)]⟩)], 17⟩ rfl rfl rfl ?_
  refine Eq.trans (reg_pure (x := (dbd_way k a0 a1)) (w := fun v3 => (sI v3)) rfl rfl rfl rfl (p_call rfl rfl rfl rfl rfl (dbd_way_ok k a0 a1) (.inl rfl))) ?_
  refine bindE (fun v3 => ?_)
  exact bind_end rfl
theorem dbd_Way_ok (k : Nat) (a0 : T_api_Base) (a1 : Int) : EV k 11 [(enc_T_api_Base a0), (I a1)] = (dbd_Way k a0 a1).map dbd_Way_fin := by
  cases k with
  | zero => rfl
  | succ k =>
    unfold dbd_Way
    refine Eq.trans (evF_succ (c := f11c) (N := 17) (regs := f11n) rfl Go.Proofs.Try.func11 rfl (by decide) rfl rfl rfl) ?_
    refine Eq.trans (k_region0 rfl (f11r0 k a0 a1)) ?_
    refine Eq.trans k_assoc ?_
    refine Eq.trans (k_region rfl (f11r1 k a0 a1)) ?_
    refine bindE (fun o2 => ?_)
    refine Eq.trans k_assoc ?_
    refine Eq.trans (k_region0 rfl (f11r2 k a0 a1 o2)) ?_
    refine Eq.trans (k_cond (t := (o2 != 0)) rfl) ?_
    refine bifE2 (fun hc => ?_) fun hc => ?_
    · rw [hc]
      refine Eq.trans k_assoc ?_
      refine Eq.trans (k_region0 rfl (f11r3 k a0 a1 o2)) ?_
      refine Eq.trans k_ret ?_
      rfl
    · rw [hc]
      refine Eq.trans k_skip ?_
      refine Eq.trans (k_region rfl (f11r4 k a0 a1 o2)) ?_
      refine bindE (fun o4 => ?_)
      refine Eq.trans k_lret ?_
      rfl
def dbd_Children_fin : ((List Int) × Int) → V × List V := fun r => (.tup [(sI (r.1)), (I r.2)], [])
theorem f16r0 (k : Nat) (a0 : T_api_Base) (a1 : Int) : RE k f16a0 f16o0 false ⟨[(0, (enc_T_api_Base a0)), (1, (I a1))], [], 35⟩ = some ⟨[(1, (I a1)), (2, (V.ptr 2 0 0))], [(2, ⟨false, 4, [(enc_T_api_Base a0)]⟩)], 35⟩ :=
  rE rfl
theorem f16r1 (k : Nat) (a0 : T_api_Base) (a1 : Int) : RE k f16a1 f16o1 false ⟨[(1, (I a1)), (2, (V.ptr 2 0 0))], [(2, ⟨false, 4, [(enc_T_api_Base a0)]⟩)], 35⟩ = ((dbd_asked k a0 ([a1] : List Int))).map (fun (o : Int) => (⟨[(1, (I a1)), (2, (V.ptr 2 0 0)), (6, (I o))], [(2, ⟨false, 4, [(enc_T_api_Base a0)]⟩)], 35⟩ : St)) := by
  refine rg ?_
  refine ra 3 3 ⟨[(1, (I a1)), (2, (V.ptr 2 0 0)), (10, (enc_T_api_Base a0)), (11, (I a1)), (12, (sI (([a1] : List Int))))], [(2, ⟨false, 4, [(enc_T_api_Base a0)]⟩)], 35⟩ rfl rfl rfl ?_
  refine Eq.trans (reg_pure (x := (dbd_asked k a0 ([a1] : List Int))) (w := fun v1 => (I v1)) rfl rfl rfl rfl (p_call rfl rfl rfl rfl rfl (dbd_asked_ok k a0 ([a1] : List Int)) (.inl rfl))) ?_
  refine bind_self (fun v1 => ?_)
  exact bind_end rfl
theorem f16r2 (k : Nat) (a0 : T_api_Base) (a1 : Int) (o2 : Int) : RE k f16a2 f16o2 false ⟨[(1, (I a1)), (2, (V.ptr 2 0 0)), (6, (I o2))], [(2, ⟨false, 4, [(enc_T_api_Base a0)]⟩)], 35⟩ = some ⟨[(1, (I a1)), (2, (V.ptr 2 0 0)), (6, (I o2)), (15, (V.bool (o2 != 0)))], [(2, ⟨false, 4, [(enc_T_api_Base a0)]⟩)], 35⟩ :=
  rE rfl
theorem f16r3 (k : Nat) (a0 : T_api_Base) (a1 : Int) (o2 : Int) : RE k f16a3 f16o3 false ⟨[(1, (I a1)), (2, (V.ptr 2 0 0)), (6, (I o2)), (15, (V.bool true))], [(2, ⟨false, 4, [(enc_T_api_Base a0)]⟩)], 35⟩ = some ⟨[(4, (sI (([] : List Int)))), (5, (I o2))], [], 35⟩ :=
  rE rfl
theorem f16r4 (k : Nat) (a0 : T_api_Base) (a1 : Int) (o2 : Int) : RE k f16a4 f16o4 false ⟨[(1, (I a1)), (2, (V.ptr 2 0 0)), (6, (I o2)), (15, (V.bool false))], [(2, ⟨false, 4, [(enc_T_api_Base a0)]⟩)], 35⟩ = some ⟨[(1, (I a1)), (2, (V.ptr 2 0 0)), (7, (V.sl 1 1 (List.map I ([] : List Int))))], [(2, ⟨false, 4, [(enc_T_api_Base a0)]⟩)], 35⟩ :=
  rE rfl
theorem f16r5 (k : Nat) (a0 : T_api_Base) (a1 : Int) : RE k f16a5 f16o5 false ⟨[(1, (I a1)), (2, (V.ptr 2 0 0)), (7, (V.sl 1 1 (List.map I ([] : List Int))))], [(2, ⟨false, 4, [(enc_T_api_Base a0)]⟩)], 35⟩ = some ⟨[(1, (I a1)), (7, (V.sl 1 1 (List.map I ([] : List Int)))), (18, (sType (a0.fTypes))), (19, (I (a0.fTypes.length : Int))), (20, (I 0))], [], 35⟩ := by
  refine rg ?_
  refine ra 2 2 ⟨[(1, (I a1)), (2, (V.ptr 2 0 0)), (7, (V.sl 1 1 (List.map I ([] : List Int)))), (17, (V.ptr 2 0 2)), (18, (sType (a0.fTypes)))], [(2, ⟨false, 4, [(enc_T_api_Base a0)]⟩)], 35⟩ rfl rfl rfl ?_
  refine Eq.trans (reg_pure (x := some ()) (w := fun _ => (I (a0.fTypes.length : Int))) rfl rfl rfl rfl (p_len (e := enc_T_api_Type) rfl rfl rfl rfl rfl rfl Go.Proofs.Try.underlying22)) ?_
  refine Eq.trans some_bind ?_
  exact bind_end rfl
theorem f16r6 (k : Nat) (a0 : T_api_Base) (a1 : Int) (x7 : (List Int)) (x8 : Int) : RE k f16a6 f16o6 false ⟨[(1, (I a1)), (7, (V.sl 1 1 (List.map I x7))), (18, (sType (a0.fTypes))), (19, (I (a0.fTypes.length : Int))), (20, (I x8))], [], 35⟩ = some ⟨[(1, (I a1)), (7, (V.sl 1 1 (List.map I x7))), (18, (sType (a0.fTypes))), (19, (I (a0.fTypes.length : Int))), (20, (I x8)), (21, (V.bool (decide (x8 < (a0.fTypes.length : Int)))))], [], 35⟩ :=
  rE rfl
theorem f16r7 (k : Nat) (a0 : T_api_Base) (a1 : Int) (x7 : (List Int)) (x8 : Int) : RE k f16a7 f16o7 false ⟨[(1, (I a1)), (7, (V.sl 1 1 (List.map I x7))), (18, (sType (a0.fTypes))), (19, (I (a0.fTypes.length : Int))), (20, (I x8)), (21, (V.bool true))], [], 35⟩ = (((idx a0.fTypes x8).bind fun v9 => (some (x8, v9)))).map (fun (o : Int × T_api_Type) => (⟨[(1, (I a1)), (7, (V.sl 1 1 (List.map I x7))), (8, (I o.1)), (9, (V.ptr 9 0 0)), (18, (sType (a0.fTypes))), (19, (I (a0.fTypes.length : Int))), (20, (I x8))], [(9, ⟨false, 8, [(enc_T_api_Type o.2)]⟩)], 35⟩ : St)) := by
  refine rg ?_
  refine ra 1 1 ⟨[(1, (I a1)), (7, (V.sl 1 1 (List.map I x7))), (18, (sType (a0.fTypes))), (19, (I (a0.fTypes.length : Int))), (20, (I x8)), (21, (V.bool true)), (22, (I x8))], [], 35⟩ rfl rfl rfl ?_
  refine Eq.trans (reg_pure (x := (idx a0.fTypes x8)) (w := fun v9 => (V.pro (enc_T_api_Type v9))) rfl rfl rfl rfl (p_index (e := enc_T_api_Type) rfl rfl rfl Go.Proofs.Try.underlying22 rfl (by decide))) ?_
  refine bindE (fun v9 => ?_)
  exact bind_end rfl
theorem f16r8 (k : Nat) (a0 : T_api_Base) (a1 : Int) (x7 : (List Int)) (x8 : Int) (o10 : Int × T_api_Type) : RE k f16a8 f16o8 false ⟨[(1, (I a1)), (7, (V.sl 1 1 (List.map I x7))), (8, (I o10.1)), (9, (V.ptr 9 0 0)), (18, (sType (a0.fTypes))), (19, (I (a0.fTypes.length : Int))), (20, (I x8))], [(9, ⟨false, 8, [(enc_T_api_Type o10.2)]⟩)], 35⟩ = some ⟨[(1, (I a1)), (7, (V.sl 1 1 (List.map I x7))), (8, (I o10.1)), (18, (sType (a0.fTypes))), (19, (I (a0.fTypes.length : Int))), (20, (I x8)), (28, (V.bool (o10.2.fParent == a1)))], [], 35⟩ :=
  rE rfl
theorem f16r9 (k : Nat) (a0 : T_api_Base) (a1 : Int) (x7 : (List Int)) (x8 : Int) (o10 : Int × T_api_Type) : RE k f16a9 f16o9 false ⟨[(1, (I a1)), (7, (V.sl 1 1 (List.map I x7))), (8, (I o10.1)), (18, (sType (a0.fTypes))), (19, (I (a0.fTypes.length : Int))), (20, (I x8)), (28, (V.bool true))], [], 35⟩ = ((app x7 ([o10.1] : List Int))).map (fun (o : (List Int)) => (⟨[(1, (I a1)), (7, (V.sl 1 1 (List.map I o))), (18, (sType (a0.fTypes))), (19, (I (a0.fTypes.length : Int))), (20, (I x8))], [], 35⟩ : St)) := by
  refine rg ?_
  refine ra 3 3 ⟨[(1, (I a1)), (7, (sI x7)), (8, (I o10.1)), (18, (sType (a0.fTypes))), (19, (I (a0.fTypes.length : Int))), (20, (I x8)), (28, (V.bool true)), (29, (V.sl 1 1 (List.map I x7))), (30, (I o10.1)), (31, (sI (([o10.1] : List Int))))], [], 35⟩ rfl rfl rfl ?_
  refine Eq.trans (reg_eff (x := (app x7 ([o10.1] : List Int))) (w := fun v11 => ((V.sl 1 1 (List.map I v11)), _)) rfl rfl rfl rfl (p_app (e := I) rfl rfl rfl rfl rfl rfl rfl rfl rfl rfl (by decide))) ?_
  refine bind_self (fun v11 => ?_)
  exact bind_end rfl
theorem f16r10 (k : Nat) (a0 : T_api_Base) (a1 : Int) (x8 : Int) (o12 : (List Int)) : RE k f16a10 f16o10 false ⟨[(1, (I a1)), (7, (V.sl 1 1 (List.map I o12))), (18, (sType (a0.fTypes))), (19, (I (a0.fTypes.length : Int))), (20, (I x8))], [], 35⟩ = some ⟨[(1, (I a1)), (7, (V.sl 1 1 (List.map I o12))), (18, (sType (a0.fTypes))), (19, (I (a0.fTypes.length : Int))), (20, (I (Go.IntKind.wrap .i64 (x8 + 1))))], [], 35⟩ :=
  rE rfl
theorem dbd_Children_r10' (k : Nat) (a0 : T_api_Base) (a1 : Int) (x7 : (List Int)) (x8 : Int) (o10 : Int × T_api_Type) : RE k f16a10 f16o10 false ⟨[(1, (I a1)), (7, (V.sl 1 1 (List.map I x7))), (8, (I o10.1)), (18, (sType (a0.fTypes))), (19, (I (a0.fTypes.length : Int))), (20, (I x8)), (28, (V.bool false))], [], 35⟩ = some ⟨[(1, (I a1)), (7, (V.sl 1 1 (List.map I x7))), (18, (sType (a0.fTypes))), (19, (I (a0.fTypes.length : Int))), (20, (I (Go.IntKind.wrap .i64 (x8 + 1))))], [], 35⟩ :=
  rE rfl
theorem dbd_Children_L1_ok (k : Nat) (a0 : T_api_Base) (a1 : Int)  (K0 : (List Int) → Int → Option ((List Int) × Int)) (Kst : X × St → Option (V × List V)) (hK0 : ∀ (y0 : (List Int)) (y1 : Int), Kst (X.exit 0, ⟨[(1, (I a1)), (7, (V.sl 1 1 (List.map I y0))), (18, (sType (a0.fTypes))), (19, (I (a0.fTypes.length : Int))), (20, (I y1)), (21, (V.bool false))], [], 35⟩) = (K0 y0 y1).map dbd_Children_fin) (hret : ∀ s, Kst (X.ret, s) = endK prog 35 [(enc_T_api_Base a0), (I a1)] [] [.tmp 4, .tmp 5] (X.ret, s)) :
    ∀ (m : Nat) (x7 : (List Int)) (x8 : Int), (iter (exec prog (EV k) f16n k f16b0) m ⟨[(1, (I a1)), (7, (V.sl 1 1 (List.map I x7))), (18, (sType (a0.fTypes))), (19, (I (a0.fTypes.length : Int))), (20, (I x8))], [], 35⟩).bind Kst = (dbd_Children_L1 a0 a1 K0 m x7 x8).map dbd_Children_fin := by
  intro m
  induction m with
  | zero => intros; rfl
  | succ m ih =>
    intro x7 x8
    unfold dbd_Children_L1
    refine Eq.trans k_round ?_
    refine Eq.trans (k_region0 rfl (f16r6 k a0 a1 x7 x8)) ?_
    refine Eq.trans (k_cond (t := (decide (x8 < (a0.fTypes.length : Int)))) rfl) ?_
    refine bifE2 (fun hc => ?_) fun hc => ?_
    · rw [hc]
      refine Eq.trans k_skip ?_
      refine Eq.trans k_block ?_
      refine Eq.trans (k_region rfl (f16r7 k a0 a1 x7 x8)) ?_
      refine bindE (fun o10 => ?_)
      refine Eq.trans (k_region0 rfl (f16r8 k a0 a1 x7 x8 o10)) ?_
      refine Eq.trans (k_lcond (t := (o10.2.fParent == a1)) rfl) ?_
      refine bifE2 (fun hc => ?_) fun hc => ?_
      · rw [hc]
        refine Eq.trans (k_lregion rfl (f16r9 k a0 a1 x7 x8 o10)) ?_
        refine bindE (fun o12 => ?_)
        refine Eq.trans blk_normal ?_
        refine Eq.trans (k_lregion0 rfl (f16r10 k a0 a1 x8 o12)) ?_
        refine Eq.trans loop_normal ?_
        exact ih o12 (Go.IntKind.wrap .i64 (x8 + 1))
      · rw [hc]
        refine Eq.trans k_lskip ?_
        refine Eq.trans blk_normal ?_
        refine Eq.trans (k_lregion0 rfl (dbd_Children_r10' k a0 a1 x7 x8 o10)) ?_
        refine Eq.trans loop_normal ?_
        exact ih x7 (Go.IntKind.wrap .i64 (x8 + 1))
    · rw [hc]
      refine Eq.trans k_exit ?_
      refine Eq.trans loop_exit ?_
      exact hK0 x7 x8
theorem f16r11 (k : Nat) (a0 : T_api_Base) (a1 : Int) (y13 : (List Int)) (y14 : Int) : RE k f16a11 f16o11 false ⟨[(1, (I a1)), (7, (V.sl 1 1 (List.map I y13))), (18, (sType (a0.fTypes))), (19, (I (a0.fTypes.length : Int))), (20, (I y14)), (21, (V.bool false))], [], 35⟩ = some ⟨[(4, (sI y13)), (5, (I 0))], [], 35⟩ :=
  rE rfl
theorem dbd_Children_ok (k : Nat) (a0 : T_api_Base) (a1 : Int) : EV k 16 [(enc_T_api_Base a0), (I a1)] = (dbd_Children k a0 a1).map dbd_Children_fin := by
  cases k with
  | zero => rfl
  | succ k =>
    unfold dbd_Children
    refine Eq.trans (evF_succ (c := f16c) (N := 35) (regs := f16n) rfl Go.Proofs.Try.func16 rfl (by decide) rfl rfl rfl) ?_
    refine Eq.trans (k_region0 rfl (f16r0 k a0 a1)) ?_
    refine Eq.trans k_assoc ?_
    refine Eq.trans (k_region rfl (f16r1 k a0 a1)) ?_
    refine bindE (fun o2 => ?_)
    refine Eq.trans k_assoc ?_
    refine Eq.trans (k_region0 rfl (f16r2 k a0 a1 o2)) ?_
    refine Eq.trans (k_cond (t := (o2 != 0)) rfl) ?_
    refine bifE2 (fun hc => ?_) fun hc => ?_
    · rw [hc]
      refine Eq.trans k_assoc ?_
      refine Eq.trans (k_region0 rfl (f16r3 k a0 a1 o2)) ?_
      refine Eq.trans k_ret ?_
      rfl
    · rw [hc]
      refine Eq.trans k_skip ?_
      refine Eq.trans (k_region0 rfl (f16r4 k a0 a1 o2)) ?_
      refine Eq.trans k_assoc ?_
      refine Eq.trans (k_region0 rfl (f16r5 k a0 a1)) ?_
      refine Eq.trans k_block ?_
      refine Eq.trans k_loop ?_
      refine dbd_Children_L1_ok k a0 a1 _ _ ?h_dbd_Children_L1_0 ?hr_dbd_Children_L1 k ([] : List Int) 0
      · intro y13 y14
        refine Eq.trans blk_exit ?_
        refine Eq.trans (k_region0 rfl (f16r11 k a0 a1 y13 y14)) ?_
        refine Eq.trans k_lret ?_
        rfl
      · intro s; exact rfl
def ref01_SameInts_fin : Bool → V × List V := fun r => ((V.bool r), [])
theorem f13r0 (k : Nat) (a0 : (List Int)) (a1 : (List Int)) : RE k f13a0 f13o0 false ⟨[(0, (sI a0)), (1, (sI a1))], [], 26⟩ = some ⟨[(0, (sI a0)), (1, (sI a1))], [], 26⟩ :=
  rE rfl
theorem f13r1 (k : Nat) (a0 : (List Int)) (a1 : (List Int)) : RE k f13a1 f13o1 false ⟨[(0, (sI a0)), (1, (sI a1))], [], 26⟩ = some ⟨[(0, (sI a0)), (1, (sI a1)), (10, (V.bool ((a0.length : Int) != (a1.length : Int))))], [], 26⟩ := by
  refine rg ?_
  refine ra 1 1 ⟨[(0, (sI a0)), (1, (sI a1)), (6, (sI a0))], [], 26⟩ rfl rfl rfl ?_
  refine Eq.trans (reg_pure (x := some ()) (w := fun _ => (I (a0.length : Int))) rfl rfl rfl rfl (p_len (e := I) rfl rfl rfl rfl rfl rfl Go.Proofs.Try.underlying28)) ?_
  refine Eq.trans some_bind ?_
  refine ba 1 3 ⟨[(0, (sI a0)), (1, (sI a1)), (6, (sI a0)), (7, (I (a0.length : Int))), (8, (sI a1))], [], 26⟩ rfl rfl rfl ?_
  refine Eq.trans (reg_pure (x := some ()) (w := fun _ => (I (a1.length : Int))) rfl rfl rfl rfl (p_len (e := I) rfl rfl rfl rfl rfl rfl Go.Proofs.Try.underlying28)) ?_
  refine Eq.trans some_bind ?_
  exact bind_end rfl
theorem f13r2 (k : Nat) (a0 : (List Int)) (a1 : (List Int)) : RE k f13a2 f13o2 false ⟨[(0, (sI a0)), (1, (sI a1)), (10, (V.bool true))], [], 26⟩ = some ⟨[(4, (V.bool false))], [], 26⟩ :=
  rE rfl
theorem f13r3 (k : Nat) (a0 : (List Int)) (a1 : (List Int)) : RE k f13a3 f13o3 false ⟨[(0, (sI a0)), (1, (sI a1)), (10, (V.bool false))], [], 26⟩ = some ⟨[(0, (sI a0)), (1, (sI a1)), (5, (I 0))], [], 26⟩ :=
  rE rfl
theorem f13r4 (k : Nat) (a0 : (List Int)) (a1 : (List Int)) (x4 : Int) : RE k f13a4 f13o4 false ⟨[(0, (sI a0)), (1, (sI a1)), (5, (I x4))], [], 26⟩ = some ⟨[(0, (sI a0)), (1, (sI a1)), (5, (I x4)), (14, (V.bool (decide (x4 < (a0.length : Int)))))], [], 26⟩ := by
  refine rg ?_
  refine ra 2 2 ⟨[(0, (sI a0)), (1, (sI a1)), (5, (I x4)), (11, (I x4)), (12, (sI a0))], [], 26⟩ rfl rfl rfl ?_
  refine Eq.trans (reg_pure (x := some ()) (w := fun _ => (I (a0.length : Int))) rfl rfl rfl rfl (p_len (e := I) rfl rfl rfl rfl rfl rfl Go.Proofs.Try.underlying28)) ?_
  refine Eq.trans some_bind ?_
  exact bind_end rfl
theorem f13r6 (k : Nat) (a0 : (List Int)) (a1 : (List Int)) (x4 : Int) : RE k f13a6 f13o6 true ⟨[(0, (sI a0)), (1, (sI a1)), (5, (I x4)), (14, (V.bool true))], [], 26⟩ = (((idx a0 x4).bind fun v5 => ((idx a1 x4).bind fun v6 => (some ((v5 != v6)))))).map (fun (o : Bool) => (⟨[(0, (sI a0)), (1, (sI a1)), (5, (I x4)), (25, (V.bool o))], [], 26⟩ : St)) := by
  refine Eq.trans (regionE_regp (p := 9) (dk := true) (t := [(0, (sI a0)), (1, (sI a1)), (5, (I x4)), (14, (V.bool true))]) (σ := []) (n := 26) (by decide) (by decide) rfl) ?_
  refine Eq.trans (regp_adv (m := 2) (j := 2) (t' := [(0, (sI a0)), (1, (sI a1)), (5, (I x4)), (14, (V.bool true)), (17, (sI a0)), (18, (I x4))]) rfl rfl rfl) ?_
  refine Eq.trans (regp_pure (x := (idx a0 x4)) (w := fun v5 => (V.pro (I v5))) rfl rfl rfl rfl rfl (p_index (e := I) rfl rfl rfl Go.Proofs.Try.underlying28 rfl (by decide))) ?_
  refine bindE (fun v5 => ?_)
  refine Eq.trans (putp_adv (m := 3) (j := 6) (t' := [(0, (sI a0)), (1, (sI a1)), (5, (I x4)), (14, (V.bool true)), (17, (sI a0)), (18, (I x4)), (19, (V.pro (I v5))), (20, (I v5)), (21, (sI a1)), (22, (I x4))]) rfl rfl rfl) ?_
  refine Eq.trans (regp_pure (x := (idx a1 x4)) (w := fun v6 => (V.pro (I v6))) rfl rfl rfl rfl rfl (p_index (e := I) rfl rfl rfl Go.Proofs.Try.underlying28 rfl (by decide))) ?_
  refine bindE (fun v6 => ?_)
  exact regp_end rfl
theorem f13r7 (k : Nat) (a0 : (List Int)) (a1 : (List Int)) (x4 : Int) : RE k f13a7 f13o7 false ⟨[(0, (sI a0)), (1, (sI a1)), (5, (I x4)), (25, (V.bool true))], [], 26⟩ = some ⟨[(4, (V.bool false))], [], 26⟩ :=
  rE rfl
theorem f13r5 (k : Nat) (a0 : (List Int)) (a1 : (List Int)) (x4 : Int) : RE k f13a5 f13o5 false ⟨[(0, (sI a0)), (1, (sI a1)), (5, (I x4)), (25, (V.bool false))], [], 26⟩ = some ⟨[(0, (sI a0)), (1, (sI a1)), (5, (I (Go.IntKind.wrap .i64 (x4 + 1))))], [], 26⟩ :=
  rE rfl
theorem ref01_SameInts_L1_ok (k : Nat) (a0 : (List Int)) (a1 : (List Int))  (K0 : Int → Option Bool) (Kst : X × St → Option (V × List V)) (hK0 : ∀ (y0 : Int), Kst (X.exit 0, ⟨[(0, (sI a0)), (1, (sI a1)), (5, (I y0)), (14, (V.bool false))], [], 26⟩) = (K0 y0).map ref01_SameInts_fin) (hret : ∀ s, Kst (X.ret, s) = endK prog 26 [(sI a0), (sI a1)] [] [.tmp 4] (X.ret, s)) :
    ∀ (m : Nat) (x4 : Int), (iter (exec prog (EV k) f13n k f13b0) m ⟨[(0, (sI a0)), (1, (sI a1)), (5, (I x4))], [], 26⟩).bind Kst = (ref01_SameInts_L1 a0 a1 K0 m x4).map ref01_SameInts_fin := by
  intro m
  induction m with
  | zero => intros; rfl
  | succ m ih =>
    intro x4
    unfold ref01_SameInts_L1
    refine Eq.trans k_round ?_
    refine Eq.trans k_assoc ?_
    refine Eq.trans (k_region0 rfl (f13r4 k a0 a1 x4)) ?_
    refine Eq.trans (k_cond (t := (decide (x4 < (a0.length : Int)))) rfl) ?_
    refine bifE2 (fun hc => ?_) fun hc => ?_
    · rw [hc]
      refine Eq.trans k_skip ?_
      refine Eq.trans k_block ?_
      refine Eq.trans (k_region rfl (f13r6 k a0 a1 x4)) ?_
      refine bindE (fun o7 => ?_)
      refine Eq.trans (k_lcond (t := o7) rfl) ?_
      refine bifE2 (fun hc => ?_) fun hc => ?_
      · rw [hc]
        refine Eq.trans (k_region0 rfl (f13r7 k a0 a1 x4)) ?_
        refine Eq.trans k_lret ?_
        refine Eq.trans blk_ret ?_
        refine Eq.trans loop_ret ?_
        refine Eq.trans (hret _) ?_
        rfl
      · rw [hc]
        refine Eq.trans k_lskip ?_
        refine Eq.trans blk_normal ?_
        refine Eq.trans (k_lregion0 rfl (f13r5 k a0 a1 x4)) ?_
        refine Eq.trans loop_normal ?_
        exact ih (Go.IntKind.wrap .i64 (x4 + 1))
    · rw [hc]
      refine Eq.trans k_exit ?_
      refine Eq.trans loop_exit ?_
      exact hK0 x4
theorem f13r8 (k : Nat) (a0 : (List Int)) (a1 : (List Int)) (y8 : Int) : RE k f13a8 f13o8 false ⟨[(0, (sI a0)), (1, (sI a1)), (5, (I y8)), (14, (V.bool false))], [], 26⟩ = some ⟨[(4, (V.bool true))], [], 26⟩ :=
  rE rfl
theorem ref01_SameInts_ok (k : Nat) (a0 : (List Int)) (a1 : (List Int)) : EV k 13 [(sI a0), (sI a1)] = (ref01_SameInts k a0 a1).map ref01_SameInts_fin := by
  cases k with
  | zero => rfl
  | succ k =>
    unfold ref01_SameInts
    refine Eq.trans (evF_succ (c := f13c) (N := 26) (regs := f13n) rfl Go.Proofs.Try.func13 rfl (by decide) rfl rfl rfl) ?_
    refine Eq.trans (k_region0 rfl (f13r0 k a0 a1)) ?_
    refine Eq.trans k_assoc ?_
    refine Eq.trans (k_region0 rfl (f13r1 k a0 a1)) ?_
    refine Eq.trans (k_cond (t := ((a0.length : Int) != (a1.length : Int))) rfl) ?_
    refine bifE2 (fun hc => ?_) fun hc => ?_
    · rw [hc]
      refine Eq.trans k_assoc ?_
      refine Eq.trans (k_region0 rfl (f13r2 k a0 a1)) ?_
      refine Eq.trans k_ret ?_
      rfl
    · rw [hc]
      refine Eq.trans k_skip ?_
      refine Eq.trans k_assoc ?_
      refine Eq.trans (k_region0 rfl (f13r3 k a0 a1)) ?_
      refine Eq.trans k_block ?_
      refine Eq.trans k_loop ?_
      refine ref01_SameInts_L1_ok k a0 a1 _ _ ?h_ref01_SameInts_L1_0 ?hr_ref01_SameInts_L1 k 0
      · intro y8
        refine Eq.trans blk_exit ?_
        refine Eq.trans (k_region0 rfl (f13r8 k a0 a1 y8)) ?_
        refine Eq.trans k_lret ?_
        rfl
      · intro s; exact rfl
def law11_First_fin : Bool → V × List V := fun r => ((V.bool r), [])
theorem f10r0 (k : Nat)  : RE k f10a0 f10o0 false ⟨[], [], 31⟩ = some ⟨[], [], 31⟩ :=
  rE rfl
theorem f10r1 (k : Nat)  : RE k f10a1 f10o1 false ⟨[], [], 31⟩ = (((law11_shop k).bind fun v1 => ((dbd_Way k v1 2).bind fun v2 => (some (v2.1, v2.2))))).map (fun (o : (List Int) × Int) => (⟨[(1, (sI (o.1))), (2, (I o.2))], [], 31⟩ : St)) := by
  refine rg ?_
  refine Eq.trans (reg_pure (x := (law11_shop k)) (w := fun v1 => (enc_T_api_Base v1)) rfl rfl rfl rfl (p_call rfl rfl rfl rfl rfl (law11_shop_ok k) (.inl rfl))) ?_
  refine bindE (fun v1 => ?_)
  refine ba 0 1 ⟨[(6, (enc_T_api_Base v1))], [], 31⟩ rfl rfl rfl ?_
  refine Eq.trans (reg_pure (x := (dbd_Way k v1 2)) (w := fun v2 => (V.tup [(sI (v2.1)), (I v2.2)])) rfl rfl rfl rfl (p_call rfl rfl rfl rfl rfl (dbd_Way_ok k v1 2) (.inl rfl))) ?_
  refine bindE (fun v2 => ?_)
  exact bind_end rfl
theorem f10r2 (k : Nat) (o3 : (List Int) × Int) : RE k f10a2 f10o2 false ⟨[(1, (sI (o3.1))), (2, (I o3.2))], [], 31⟩ = (((law11_shop k).bind fun v4 => ((dbd_Children k v4 0).bind fun v5 => (some (v5.1, v5.2))))).map (fun (o : (List Int) × Int) => (⟨[(1, (sI (o3.1))), (2, (I o3.2)), (3, (sI (o.1))), (4, (I o.2))], [], 31⟩ : St)) := by
  refine rg ?_
  refine Eq.trans (reg_pure (x := (law11_shop k)) (w := fun v4 => (enc_T_api_Base v4)) rfl rfl rfl rfl (p_call rfl rfl rfl rfl rfl (law11_shop_ok k) (.inl rfl))) ?_
  refine bindE (fun v4 => ?_)
  refine ba 0 1 ⟨[(1, (sI (o3.1))), (2, (I o3.2)), (11, (enc_T_api_Base v4))], [], 31⟩ rfl rfl rfl ?_
  refine Eq.trans (reg_pure (x := (dbd_Children k v4 0)) (w := fun v5 => (V.tup [(sI (v5.1)), (I v5.2)])) rfl rfl rfl rfl (p_call rfl rfl rfl rfl rfl (dbd_Children_ok k v4 0) (.inl rfl))) ?_
  refine bindE (fun v5 => ?_)
  exact bind_end rfl
theorem f10r3 (k : Nat) (o3 : (List Int) × Int) (o6 : (List Int) × Int) : RE k f10a3 f10o3 false ⟨[(1, (sI (o3.1))), (2, (I o3.2)), (3, (sI (o6.1))), (4, (I o6.2))], [], 31⟩ = ((bif (o3.2 == 0) then (bif (o6.2 == 0) then ((ref01_SameInts k o3.1 ([0, 1, 2] : List Int)).bind fun v7 => (bif v7 then (ref01_SameInts k o6.1 ([1, 3] : List Int)) else (some (false)))) else (some (false))) else (some (false)))).map (fun (o : Bool) => (⟨[(0, (V.bool o))], [], 31⟩ : St)) := by
  refine rg ?_
  refine ra 3 3 ⟨[(1, (sI (o3.1))), (2, (I o3.2)), (3, (sI (o6.1))), (4, (I o6.2)), (15, (I o3.2)), (16, (V.bool (o3.2 == 0))), (17, (V.bool (o3.2 == 0)))], [], 31⟩ rfl rfl rfl ?_
  refine bifE (c := (o3.2 == 0)) (fun hc => ?_) fun hc => ?_
  · rw [hc]
    refine ra 4 7 ⟨[(1, (sI (o3.1))), (2, (I o3.2)), (3, (sI (o6.1))), (4, (I o6.2)), (15, (I o3.2)), (16, (V.bool true)), (17, (V.bool true)), (18, (I o6.2)), (19, (V.bool (o6.2 == 0))), (20, (V.bool (o6.2 == 0))), (21, (V.bool (o6.2 == 0)))], [], 31⟩ rfl rfl rfl ?_
    refine bifE (c := (o6.2 == 0)) (fun hc => ?_) fun hc => ?_
    · rw [hc]
      refine ra 2 9 ⟨[(1, (sI (o3.1))), (2, (I o3.2)), (3, (sI (o6.1))), (4, (I o6.2)), (15, (I o3.2)), (16, (V.bool true)), (17, (V.bool true)), (18, (I o6.2)), (19, (V.bool true)), (20, (V.bool true)), (21, (V.bool true)), (22, (sI (o3.1))), (23, (sI (([0, 1, 2] : List Int))))], [], 31⟩ rfl rfl rfl ?_
      refine Eq.trans (reg_pure (x := (ref01_SameInts k o3.1 ([0, 1, 2] : List Int))) (w := fun v7 => (V.bool v7)) rfl rfl rfl rfl (p_call rfl rfl rfl rfl rfl (ref01_SameInts_ok k o3.1 ([0, 1, 2] : List Int)) (.inl rfl))) ?_
      refine bindE (fun v7 => ?_)
      refine ba 2 12 ⟨[(1, (sI (o3.1))), (2, (I o3.2)), (3, (sI (o6.1))), (4, (I o6.2)), (15, (I o3.2)), (16, (V.bool true)), (17, (V.bool true)), (18, (I o6.2)), (19, (V.bool true)), (20, (V.bool true)), (21, (V.bool true)), (22, (sI (o3.1))), (23, (sI (([0, 1, 2] : List Int)))), (24, (V.bool v7)), (25, (V.bool v7)), (26, (V.bool v7))], [], 31⟩ rfl rfl rfl ?_
      refine bifE (c := v7) (fun hc => ?_) fun hc => ?_
      · rw [hc]
        refine ra 2 14 ⟨[(1, (sI (o3.1))), (2, (I o3.2)), (3, (sI (o6.1))), (4, (I o6.2)), (15, (I o3.2)), (16, (V.bool true)), (17, (V.bool true)), (18, (I o6.2)), (19, (V.bool true)), (20, (V.bool true)), (21, (V.bool true)), (22, (sI (o3.1))), (23, (sI (([0, 1, 2] : List Int)))), (24, (V.bool true)), (25, (V.bool true)), (26, (V.bool true)), (27, (sI (o6.1))), (28, (sI (([1, 3] : List Int))))], [], 31⟩ rfl rfl rfl ?_
        refine Eq.trans (reg_pure (x := (ref01_SameInts k o6.1 ([1, 3] : List Int))) (w := fun v8 => (V.bool v8)) rfl rfl rfl rfl (p_call rfl rfl rfl rfl rfl (ref01_SameInts_ok k o6.1 ([1, 3] : List Int)) (.inl rfl))) ?_
        refine bind_self (fun v8 => ?_)
        exact bind_end rfl
      · rw [hc]
        exact reg_end rfl
    · rw [hc]
      exact reg_end rfl
  · rw [hc]
    exact reg_end rfl
theorem law11_First_ok (k : Nat)  : EV k 10 [] = (law11_First k).map law11_First_fin := by
  cases k with
  | zero => rfl
  | succ k =>
    unfold law11_First
    refine Eq.trans (evF_succ (c := f10c) (N := 31) (regs := f10n) rfl Go.Proofs.Try.func10 rfl (by decide) rfl rfl rfl) ?_
    refine Eq.trans (k_region0 rfl (f10r0 k)) ?_
    refine Eq.trans (k_region rfl (f10r1 k)) ?_
    refine bindE (fun o3 => ?_)
    refine Eq.trans (k_region rfl (f10r2 k o3)) ?_
    refine bindE (fun o6 => ?_)
    refine Eq.trans (k_region rfl (f10r3 k o3 o6)) ?_
    refine bindE (fun o9 => ?_)
    refine Eq.trans k_lret ?_
    rfl
def slices_Clone_Field_c_fin : (List T_api_Field) → V × List V := fun r => ((sField r), [])
def slices_Clone_Field_fin : List T_api_Field → V × List V := fun r => ((sField r), [])
theorem f67r0 (k : Nat) (y : T_api_Field) (l : (List T_api_Field)) : RE k f67a0 f67o0 false ⟨[(0, (sField ((y :: l))))], [], 8⟩ = some ⟨[(0, (sField ((y :: l))))], [], 8⟩ :=
  rE rfl
theorem f67r1 (k : Nat) (y : T_api_Field) (l : (List T_api_Field)) : RE k f67a1 f67o1 false ⟨[(0, (sField ((y :: l))))], [], 8⟩ = some ⟨[(0, (sField ((y :: l)))), (4, (V.bool false))], [], 8⟩ :=
  rE rfl
theorem f67r3 (k : Nat) (y : T_api_Field) (l : (List T_api_Field)) : RE k f67a3 f67o3 false ⟨[(0, (sField ((y :: l)))), (4, (V.bool false))], [], 8⟩ = ((app ([] : List T_api_Field) (y :: l))).map (fun (o : (List T_api_Field)) => (⟨[(2, (sField o))], [], 8⟩ : St)) := by
  refine rg ?_
  refine ra 2 2 ⟨[(0, (sField ((y :: l)))), (4, (V.bool false)), (5, (V.sl 1 3 (List.map enc_T_api_Field ([] : List T_api_Field)))), (6, (sField ((y :: l))))], [], 8⟩ rfl rfl rfl ?_
  refine Eq.trans (reg_eff (x := (app ([] : List T_api_Field) (y :: l))) (w := fun v1 => ((V.sl 1 3 (List.map enc_T_api_Field v1)), _)) rfl rfl rfl rfl (p_app (e := enc_T_api_Field) rfl rfl rfl rfl rfl rfl rfl rfl rfl rfl (by decide))) ?_
  refine bind_self (fun v1 => ?_)
  exact bind_end rfl
theorem slices_Clone_Field_c_ok (k : Nat) (y : T_api_Field) (l : (List T_api_Field)) : EV k 67 [(sField ((y :: l)))] = (slices_Clone_Field_c k y l).map slices_Clone_Field_c_fin := by
  cases k with
  | zero => rfl
  | succ k =>
    unfold slices_Clone_Field_c
    refine Eq.trans (evF_succ (c := f67c) (N := 8) (regs := f67n) rfl Go.Proofs.Try.func67 rfl (by decide) rfl rfl rfl) ?_
    refine Eq.trans (k_region0 rfl (f67r0 k y l)) ?_
    refine Eq.trans k_assoc ?_
    refine Eq.trans (k_region0 rfl (f67r1 k y l)) ?_
    refine Eq.trans (k_cond (t := false) rfl) ?_
    refine Eq.trans k_skip ?_
    refine Eq.trans (k_region rfl (f67r3 k y l)) ?_
    refine bindE (fun o2 => ?_)
    refine Eq.trans k_lret ?_
    rfl
theorem slices_Clone_Field_ok (k : Nat) (l : List T_api_Field) : EV k 67 [(sField l)] = (slices_Clone_Field k l).map slices_Clone_Field_fin := by
  cases k with
  | zero => rfl
  | succ k => cases l with
    | nil => exact evF_ext (ext := ext) (f := 67) rfl
    | cons y l => exact slices_Clone_Field_c_ok (k + 1) y l
def dbd_copied_fin : T_api_Type → V × List V := fun r => ((enc_T_api_Type r), [])
theorem f54r0 (k : Nat) (a0 : T_api_Type) (a1 : Int) : RE k f54a0 f54o0 false ⟨[(0, (enc_T_api_Type a0)), (1, (I a1))], [], 12⟩ = some ⟨[(1, (I a1)), (2, (V.ptr 2 0 0)), (4, (V.ptr 4 0 0))], [(2, ⟨false, 8, [(enc_T_api_Type a0)]⟩), (4, ⟨false, 8, [(V.agg [(V.str []), (I 0), (I 0), (I 0), (V.sl 2 3 (List.map enc_T_api_Field ([] : List T_api_Field))), (I 0), (V.bool false), (V.bool false)])]⟩)], 12⟩ :=
  rE rfl
theorem f54r1 (k : Nat) (a0 : T_api_Type) (a1 : Int) : RE k f54a1 f54o1 false ⟨[(1, (I a1)), (2, (V.ptr 2 0 0)), (4, (V.ptr 4 0 0))], [(2, ⟨false, 8, [(enc_T_api_Type a0)]⟩), (4, ⟨false, 8, [(V.agg [(V.str []), (I 0), (I 0), (I 0), (V.sl 2 3 (List.map enc_T_api_Field ([] : List T_api_Field))), (I 0), (V.bool false), (V.bool false)])]⟩)], 12⟩ = (((slices_Clone_Field k a0.fFields).bind fun v1 => (some ({ a0 with fFields := v1 })))).map (fun (o : T_api_Type) => (⟨[(1, (I a1)), (2, (V.ptr 2 0 0)), (4, (V.ptr 4 0 0))], [(2, ⟨false, 8, [(enc_T_api_Type o)]⟩), (4, ⟨false, 8, [(V.agg [(V.str []), (I 0), (I 0), (I 0), (V.sl 2 3 (List.map enc_T_api_Field ([] : List T_api_Field))), (I 0), (V.bool false), (V.bool false)])]⟩)], 12⟩ : St)) := by
  refine rg ?_
  refine ra 2 2 ⟨[(1, (I a1)), (2, (V.ptr 2 0 0)), (4, (V.ptr 4 0 0)), (5, (V.ptr 2 0 4)), (6, (sField (a0.fFields)))], [(2, ⟨false, 8, [(enc_T_api_Type a0)]⟩), (4, ⟨false, 8, [(V.agg [(V.str []), (I 0), (I 0), (I 0), (V.sl 2 3 (List.map enc_T_api_Field ([] : List T_api_Field))), (I 0), (V.bool false), (V.bool false)])]⟩)], 12⟩ rfl rfl rfl ?_
  refine Eq.trans (reg_pure (x := (slices_Clone_Field k a0.fFields)) (w := fun v1 => (sField v1)) rfl rfl rfl rfl (p_call rfl rfl rfl rfl rfl (slices_Clone_Field_ok k a0.fFields) (.inl rfl))) ?_
  refine bindE (fun v1 => ?_)
  exact bind_end rfl
theorem f54r2 (k : Nat) (a1 : Int) (o2 : T_api_Type) : RE k f54a2 f54o2 false ⟨[(1, (I a1)), (2, (V.ptr 2 0 0)), (4, (V.ptr 4 0 0))], [(2, ⟨false, 8, [(enc_T_api_Type o2)]⟩), (4, ⟨false, 8, [(V.agg [(V.str []), (I 0), (I 0), (I 0), (V.sl 2 3 (List.map enc_T_api_Field ([] : List T_api_Field))), (I 0), (V.bool false), (V.bool false)])]⟩)], 12⟩ = some ⟨[(2, (V.ptr 2 0 0)), (4, (V.ptr 4 0 0))], [(2, ⟨false, 8, [(enc_T_api_Type { o2 with fParent := a1 })]⟩), (4, ⟨false, 8, [(V.agg [(V.str []), (I 0), (I 0), (I 0), (V.sl 2 3 (List.map enc_T_api_Field ([] : List T_api_Field))), (I 0), (V.bool false), (V.bool false)])]⟩)], 12⟩ :=
  rE rfl
theorem f54r3 (k : Nat) (a1 : Int) (o2 : T_api_Type) : RE k f54a3 f54o3 false ⟨[(2, (V.ptr 2 0 0)), (4, (V.ptr 4 0 0))], [(2, ⟨false, 8, [(enc_T_api_Type { o2 with fParent := a1 })]⟩), (4, ⟨false, 8, [(V.agg [(V.str []), (I 0), (I 0), (I 0), (V.sl 2 3 (List.map enc_T_api_Field ([] : List T_api_Field))), (I 0), (V.bool false), (V.bool false)])]⟩)], 12⟩ = some ⟨[(4, (V.ptr 4 0 0))], [(4, ⟨false, 8, [(enc_T_api_Type { o2 with fParent := a1 })]⟩)], 12⟩ :=
  rE rfl
theorem dbd_copied_ok (k : Nat) (a0 : T_api_Type) (a1 : Int) : EV k 54 [(enc_T_api_Type a0), (I a1)] = (dbd_copied k a0 a1).map dbd_copied_fin := by
  cases k with
  | zero => rfl
  | succ k =>
    unfold dbd_copied
    refine Eq.trans (evF_succ (c := f54c) (N := 12) (regs := f54n) rfl Go.Proofs.Try.func54 rfl (by decide) rfl rfl rfl) ?_
    refine Eq.trans (k_region0 rfl (f54r0 k a0 a1)) ?_
    refine Eq.trans (k_region rfl (f54r1 k a0 a1)) ?_
    refine bindE (fun o2 => ?_)
    refine Eq.trans (k_region0 rfl (f54r2 k a1 o2)) ?_
    refine Eq.trans (k_region0 rfl (f54r3 k a1 o2)) ?_
    refine Eq.trans k_lret ?_
    rfl
def dbd_Part_fin : (T_api_Base × Int) → V × List V := fun r => (.tup [(enc_T_api_Base r.1), (I r.2)], [])
theorem f26r0 (k : Nat) (a0 : T_api_Base) (a1 : (List Int)) : RE k f26a0 f26o0 false ⟨[(0, (enc_T_api_Base a0)), (1, (sI a1))], [], 107⟩ = some ⟨[(1, (sI a1)), (2, (V.ptr 2 0 0)), (4, (V.ptr 4 0 0))], [(2, ⟨false, 4, [(enc_T_api_Base a0)]⟩), (4, ⟨false, 4, [(V.agg [(V.str []), (I 0), (V.sl 2 8 (List.map enc_T_api_Type ([] : List T_api_Type))), (V.sl 2 4 (List.map enc_T_api_Search ([] : List T_api_Search)))])]⟩)], 107⟩ :=
  rE rfl
theorem f26r1 (k : Nat) (a0 : T_api_Base) (a1 : (List Int)) : RE k f26a1 f26o1 false ⟨[(1, (sI a1)), (2, (V.ptr 2 0 0)), (4, (V.ptr 4 0 0))], [(2, ⟨false, 4, [(enc_T_api_Base a0)]⟩), (4, ⟨false, 4, [(V.agg [(V.str []), (I 0), (V.sl 2 8 (List.map enc_T_api_Type ([] : List T_api_Type))), (V.sl 2 4 (List.map enc_T_api_Search ([] : List T_api_Search)))])]⟩)], 107⟩ = ((dbd_asked k a0 a1)).map (fun (o : Int) => (⟨[(1, (sI a1)), (2, (V.ptr 2 0 0)), (4, (V.ptr 4 0 0)), (6, (I o))], [(2, ⟨false, 4, [(enc_T_api_Base a0)]⟩), (4, ⟨false, 4, [(V.agg [(V.str []), (I 0), (V.sl 2 8 (List.map enc_T_api_Type ([] : List T_api_Type))), (V.sl 2 4 (List.map enc_T_api_Search ([] : List T_api_Search)))])]⟩)], 107⟩ : St)) := by
  refine rg ?_
  refine ra 2 2 ⟨[(1, (sI a1)), (2, (V.ptr 2 0 0)), (4, (V.ptr 4 0 0)), (14, (enc_T_api_Base a0)), (15, (sI a1))], [(2, ⟨false, 4, [(enc_T_api_Base a0)]⟩), (4, ⟨false, 4, [(V.agg [(V.str []), (I 0), (V.sl 2 8 (List.map enc_T_api_Type ([] : List T_api_Type))), (V.sl 2 4 (List.map enc_T_api_Search ([] : List T_api_Search)))])]⟩)], 107⟩ rfl rfl rfl ?_
  refine Eq.trans (reg_pure (x := (dbd_asked k a0 a1)) (w := fun v1 => (I v1)) rfl rfl rfl rfl (p_call rfl rfl rfl rfl rfl (dbd_asked_ok k a0 a1) (.inl rfl))) ?_
  refine bind_self (fun v1 => ?_)
  exact bind_end rfl
theorem f26r2 (k : Nat) (a0 : T_api_Base) (a1 : (List Int)) (o2 : Int) : RE k f26a2 f26o2 false ⟨[(1, (sI a1)), (2, (V.ptr 2 0 0)), (4, (V.ptr 4 0 0)), (6, (I o2))], [(2, ⟨false, 4, [(enc_T_api_Base a0)]⟩), (4, ⟨false, 4, [(V.agg [(V.str []), (I 0), (V.sl 2 8 (List.map enc_T_api_Type ([] : List T_api_Type))), (V.sl 2 4 (List.map enc_T_api_Search ([] : List T_api_Search)))])]⟩)], 107⟩ = some ⟨[(1, (sI a1)), (2, (V.ptr 2 0 0)), (4, (V.ptr 4 0 0)), (6, (I o2)), (18, (V.bool (o2 != 0)))], [(2, ⟨false, 4, [(enc_T_api_Base a0)]⟩), (4, ⟨false, 4, [(V.agg [(V.str []), (I 0), (V.sl 2 8 (List.map enc_T_api_Type ([] : List T_api_Type))), (V.sl 2 4 (List.map enc_T_api_Search ([] : List T_api_Search)))])]⟩)], 107⟩ :=
  rE rfl
theorem f26r3 (k : Nat) (a0 : T_api_Base) (a1 : (List Int)) (o2 : Int) : RE k f26a3 f26o3 false ⟨[(1, (sI a1)), (2, (V.ptr 2 0 0)), (4, (V.ptr 4 0 0)), (6, (I o2)), (18, (V.bool true))], [(2, ⟨false, 4, [(enc_T_api_Base a0)]⟩), (4, ⟨false, 4, [(V.agg [(V.str []), (I 0), (V.sl 2 8 (List.map enc_T_api_Type ([] : List T_api_Type))), (V.sl 2 4 (List.map enc_T_api_Search ([] : List T_api_Search)))])]⟩)], 107⟩ = some ⟨[(4, (V.ptr 4 0 0)), (5, (I o2))], [(4, ⟨false, 4, [(enc_T_api_Base ({ fName := [], fKind := 0, fTypes := ([] : List T_api_Type), fIndexes := ([] : List T_api_Search) } : T_api_Base))]⟩)], 107⟩ :=
  rE rfl
theorem f26r4 (k : Nat) (a0 : T_api_Base) (a1 : (List Int)) (o2 : Int) : RE k f26a4 f26o4 false ⟨[(1, (sI a1)), (2, (V.ptr 2 0 0)), (4, (V.ptr 4 0 0)), (6, (I o2)), (18, (V.bool false))], [(2, ⟨false, 4, [(enc_T_api_Base a0)]⟩), (4, ⟨false, 4, [(V.agg [(V.str []), (I 0), (V.sl 2 8 (List.map enc_T_api_Type ([] : List T_api_Type))), (V.sl 2 4 (List.map enc_T_api_Search ([] : List T_api_Search)))])]⟩)], 107⟩ = some ⟨[(1, (sI a1)), (2, (V.ptr 2 0 0)), (4, (V.ptr 4 0 0)), (7, (V.ptr 7 0 0))], [(2, ⟨false, 4, [(enc_T_api_Base a0)]⟩), (4, ⟨false, 4, [(V.agg [(V.str []), (I 0), (V.sl 2 8 (List.map enc_T_api_Type ([] : List T_api_Type))), (V.sl 2 4 (List.map enc_T_api_Search ([] : List T_api_Search)))])]⟩), (7, ⟨false, 4, [(V.agg [(V.str a0.fName), (I a0.fKind), (V.sl 1 8 (List.map enc_T_api_Type ([] : List T_api_Type))), (V.sl 1 4 (List.map enc_T_api_Search ([] : List T_api_Search)))])]⟩)], 107⟩ :=
  rE rfl
end
end Go.AE
