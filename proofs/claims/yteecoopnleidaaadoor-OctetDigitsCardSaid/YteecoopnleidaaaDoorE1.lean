/- The program, function by function: the evaluator comes to the typed functions. Conditions: none. -/
import Derived.Test.YteecoopnleidaaaDoorA3
import Derived.KernelRfl
import Derived.Test.YteecoopnleidaaaDoorProg
import Derived.Test.YteecoopnleidaaaDoorB1
namespace Go.AE
open Go.Proofs.Tryd Go.Sh
set_option linter.unusedSimpArgs false
set_option linter.unusedVariables false
set_option maxRecDepth 100000
set_option maxHeartbeats 4000000
noncomputable section
abbrev Pt (n : Nat) : V := .ptr n 0 0
abbrev Bo (b : Bool) : V := .bool b
abbrev Sr (s : Str) : V := .str s
abbrev Pr (v : V) : V := .pro v
abbrev sS (l : List Str) : V := .sl 0 1 (List.map V.str l)
abbrev vS (n : Nat) (v : V) : Site := ⟨false, n, [v]⟩
abbrev aL {α : Type} (d : Nat) (e : α → V) (l : List α) : V := .aref d 0 (List.map e l).length
def eInt (a : T_arr3_Int) : V := .agg [(V.int .i64 a.e0), (V.int .i64 a.e1), (V.int .i64 a.e2)]
noncomputable def f19o0 : Array Oper := cO (cL (cB f19))
def f19a0 : RAnn := ⟨[2, 3], []⟩
noncomputable def f19o1 : Array Oper := cO (cL (cL (cR (cB f19))))
def f19a1 : RAnn := ⟨[4, 5], []⟩
noncomputable def f19o2 : Array Oper := cO (cL (cL (cR (cL (cR (cB f19))))))
def f19a2 : RAnn := ⟨[0, 6], []⟩
noncomputable def f19o3 : Array Oper := cO (cL (cR (cR (cB f19))))
def f19a3 : RAnn := ⟨[0, 6, 7, 8, 9, 10, 11, 12], [(3, { keep := [0] }), (5, { tk := [10] })]⟩
def f19c : Code := (.seq (.region 0 f19o0 false) (.seq (.seq (.region 1 f19o1 false) (.cond (.tmp 6) (.seq (.region 2 f19o2 false) .ret) .skip)) (.seq (.region 3 f19o3 false) .ret)))
def f19n : List (Nat × RAnn) := [(0, f19a0), (1, f19a1), (2, f19a2), (3, f19a3)]
noncomputable def f17o0 : Array Oper := cO (cL (cB f17))
def f17a0 : RAnn := ⟨[2, 3], []⟩
noncomputable def f17o1 : Array Oper := cO (cL (cL (cR (cB f17))))
def f17a1 : RAnn := ⟨[4, 5, 6, 7, 8], []⟩
noncomputable def f17o2 : Array Oper := cO (cL (cL (cR (cL (cR (cB f17))))))
def f17a2 : RAnn := ⟨[0, 9], []⟩
noncomputable def f17o3 : Array Oper := cO (cL (cR (cR (cB f17))))
def f17a3 : RAnn := ⟨[0, 9, 10, 11, 12, 13, 14, 15, 16, 17, 18, 19, 20, 21], []⟩
def f17c : Code := (.seq (.region 0 f17o0 false) (.seq (.seq (.region 1 f17o1 false) (.cond (.tmp 9) (.seq (.region 2 f17o2 false) .ret) .skip)) (.seq (.region 3 f17o3 false) .ret)))
def f17n : List (Nat × RAnn) := [(0, f17a0), (1, f17a1), (2, f17a2), (3, f17a3)]
noncomputable def f46o0 : Array Oper := cO (cL (cB f46))
def f46a0 : RAnn := ⟨[4, 5], []⟩
noncomputable def f46o1 : Array Oper := cO (cL (cR (cB f46)))
def f46a1 : RAnn := ⟨[7, 8], []⟩
noncomputable def f46o2 : Array Oper := cO (cL (cL (cR (cR (cB f46)))))
def f46a2 : RAnn := ⟨[0, 9, 10, 11, 12, 13, 14, 15, 16, 17, 18, 19, 20, 21, 22, 23], []⟩
noncomputable def f46o3 : Array Oper := cO (cL (cL (cR (cL (cR (cR (cB f46)))))))
def f46a3 : RAnn := ⟨[1, 6, 24], []⟩
noncomputable def f46o4 : Array Oper := cO (cL (cR (cR (cR (cB f46)))))
def f46a4 : RAnn := ⟨[1, 6, 24, 25, 26, 27, 28, 29, 30, 31], []⟩
def f46c : Code := (.seq (.region 0 f46o0 false) (.seq (.region 1 f46o1 false) (.seq (.seq (.region 2 f46o2 false) (.cond (.tmp 24) (.seq (.region 3 f46o3 false) .ret) .skip)) (.seq (.region 4 f46o4 false) .ret))))
def f46n : List (Nat × RAnn) := [(0, f46a0), (1, f46a1), (2, f46a2), (3, f46a3), (4, f46a4)]
noncomputable def f40o0 : Array Oper := cO (cL (cB f40))
def f40a0 : RAnn := ⟨[4, 5], []⟩
noncomputable def f40o1 : Array Oper := cO (cL (cL (cR (cB f40))))
def f40a1 : RAnn := ⟨[6, 7, 8, 9, 10, 11, 12], []⟩
noncomputable def f40o2 : Array Oper := cO (cL (cL (cR (cL (cR (cB f40))))))
def f40a2 : RAnn := ⟨[0, 1, 13], []⟩
noncomputable def f40o3 : Array Oper := cO (cL (cR (cR (cB f40))))
def f40a3 : RAnn := ⟨[0, 1, 13, 14, 15, 16, 17, 18, 19, 20], []⟩
def f40c : Code := (.seq (.region 0 f40o0 false) (.seq (.seq (.region 1 f40o1 false) (.cond (.tmp 13) (.seq (.region 2 f40o2 false) .ret) .skip)) (.seq (.region 3 f40o3 false) .ret)))
def f40n : List (Nat × RAnn) := [(0, f40a0), (1, f40a1), (2, f40a2), (3, f40a3)]
noncomputable def f14o0 : Array Oper := cO (cL (cB f14))
def f14a0 : RAnn := ⟨[2], []⟩
noncomputable def f14o1 : Array Oper := cO (cL (cR (cB f14)))
def f14a1 : RAnn := ⟨[], [(0, { keep := [0] })]⟩
noncomputable def f14o2 : Array Oper := cO (cL (cL (cR (cR (cB f14)))))
def f14a2 : RAnn := ⟨[0], []⟩
noncomputable def f14o3 : Array Oper := cO (cL (cL (cL (cR (cL (cR (cR (cB f14))))))))
def f14a3 : RAnn := ⟨[], []⟩
noncomputable def f14o4 : Array Oper := cO (cL (cL (cL (cR (cR (cL (cL (cR (cL (cR (cR (cB f14))))))))))))
def f14a4 : RAnn := ⟨[9, 10, 11], []⟩
noncomputable def f14o5 : Array Oper := cO (cL (cR (cL (cL (cR (cR (cL (cL (cR (cL (cR (cR (cB f14)))))))))))))
def f14a5 : RAnn := ⟨[5, 12, 13, 14, 15], [(0, { tk := [3], keep := [0] }), (3, { tk := [12], keep := [0] }), (4, { tk := [15], keep := [0] })]⟩
noncomputable def f14o6 : Array Oper := cO (cR (cR (cL (cL (cR (cR (cL (cL (cR (cL (cR (cR (cB f14)))))))))))))
def f14a6 : RAnn := ⟨[16, 17, 18], [(0, { tk := [3], keep := [0] }), (2, { tk := [16], keep := [0] }), (3, { tk := [18], keep := [0] })]⟩
noncomputable def f14o7 : Array Oper := cO (cR (cR (cR (cL (cL (cR (cL (cR (cR (cB f14))))))))))
def f14a7 : RAnn := ⟨[19], []⟩
noncomputable def f14o8 : Array Oper := cO (cL (cR (cR (cR (cB f14)))))
def f14a8 : RAnn := ⟨[3, 6, 7, 8, 9, 20], []⟩
def f14b0 : Code := (.seq (.region 3 f14o3 false) (.seq (.cond (.tmp 9) .skip (.exit 0)) (.seq (.block 1 (.seq (.region 4 f14o4 false) (.seq (.region 5 f14o5 false) (.region 6 f14o6 false)))) (.region 7 f14o7 false))))
def f14c : Code := (.seq (.region 0 f14o0 false) (.seq (.region 1 f14o1 false) (.seq (.seq (.region 2 f14o2 false) (.block 0 (.loop f14b0))) (.seq (.region 8 f14o8 false) .ret))))
def f14n : List (Nat × RAnn) := [(0, f14a0), (1, f14a1), (2, f14a2), (3, f14a3), (4, f14a4), (5, f14a5), (6, f14a6), (7, f14a7), (8, f14a8)]
noncomputable def f11o0 : Array Oper := cO (cL (cB f11))
def f11a0 : RAnn := ⟨[0], []⟩
noncomputable def f11o1 : Array Oper := cO (cL (cR (cB f11)))
def f11a1 : RAnn := ⟨[9, 10, 11, 12], []⟩
noncomputable def f11o2 : Array Oper := cO (cL (cR (cR (cB f11))))
def f11a2 : RAnn := ⟨[13, 14, 15, 16], []⟩
noncomputable def f11o3 : Array Oper := cO (cL (cR (cR (cR (cB f11)))))
def f11a3 : RAnn := ⟨[17, 18, 19, 20], []⟩
noncomputable def f11o4 : Array Oper := cO (cL (cR (cR (cR (cR (cB f11))))))
def f11a4 : RAnn := ⟨[21, 22, 23, 24], []⟩
noncomputable def f11o5 : Array Oper := cO (cL (cR (cR (cR (cR (cR (cB f11)))))))
def f11a5 : RAnn := ⟨[1, 2, 3, 4, 5, 6, 7, 8, 25, 26, 27, 28, 29, 30, 31, 32, 33, 34, 35, 36, 37, 38, 39, 40, 41, 42, 43, 44, 45, 46, 47, 48, 49, 50, 51, 52, 53, 54, 55, 56, 57, 58, 59, 60, 61, 62], []⟩
def f11c : Code := (.seq (.region 0 f11o0 false) (.seq (.region 1 f11o1 false) (.seq (.region 2 f11o2 false) (.seq (.region 3 f11o3 false) (.seq (.region 4 f11o4 false) (.seq (.region 5 f11o5 false) .ret))))))
def f11n : List (Nat × RAnn) := [(0, f11a0), (1, f11a1), (2, f11a2), (3, f11a3), (4, f11a4), (5, f11a5)]
noncomputable def f41o0 : Array Oper := cO (cL (cB f41))
def f41a0 : RAnn := ⟨[4, 5], []⟩
noncomputable def f41o1 : Array Oper := cO (cL (cL (cR (cB f41))))
def f41a1 : RAnn := ⟨[6, 7, 8, 9, 10, 11, 12, 13, 14, 15, 16], []⟩
noncomputable def f41o2 : Array Oper := cO (cL (cL (cR (cL (cR (cB f41))))))
def f41a2 : RAnn := ⟨[0, 1], []⟩
noncomputable def f41o3 : Array Oper := cO (cL (cL (cL (cL (cL (cR (cR (cB f41))))))))
def f41a3 : RAnn := ⟨[18, 19, 20], []⟩
noncomputable def f41o4 : Array Oper := cO (cL (cR (cL (cL (cL (cR (cR (cB f41))))))))
def f41a4 : RAnn := ⟨[21, 22, 23], []⟩
noncomputable def f41o5 : Array Oper := cO (cL (cR (cR (cR (cB f41)))))
def f41a5 : RAnn := ⟨[0, 1, 21, 24], []⟩
def f41b0 : Code := (.seq (.seq (.region 3 f41o3 false) (.cond (.tmp 21) .skip (.exit 0))) (.block 1 (.region 4 f41o4 false)))
def f41c : Code := (.seq (.region 0 f41o0 false) (.seq (.seq (.region 1 f41o1 false) (.cond (.tmp 17) (.seq (.region 2 f41o2 false) .ret) .skip)) (.seq (.block 0 (.loop f41b0)) (.seq (.region 5 f41o5 false) .ret))))
def f41n : List (Nat × RAnn) := [(0, f41a0), (1, f41a1), (2, f41a2), (3, f41a3), (4, f41a4), (5, f41a5), (100017, {})]
noncomputable def f42o0 : Array Oper := cO (cL (cB f42))
def f42a0 : RAnn := ⟨[2], []⟩
noncomputable def f42o1 : Array Oper := cO (cL (cR (cB f42)))
def f42a1 : RAnn := ⟨[0, 3, 4], []⟩
def f42c : Code := (.seq (.region 0 f42o0 false) (.seq (.region 1 f42o1 false) .ret))
def f42n : List (Nat × RAnn) := [(0, f42a0), (1, f42a1)]
noncomputable def f43o0 : Array Oper := cO (cL (cB f43))
def f43a0 : RAnn := ⟨[2], []⟩
noncomputable def f43o1 : Array Oper := cO (cL (cL (cL (cL (cL (cR (cB f43)))))))
def f43a1 : RAnn := ⟨[3, 4, 5, 6, 7, 8, 9, 10, 11, 12], []⟩
noncomputable def f43o2 : Array Oper := cO (cL (cR (cL (cL (cL (cR (cB f43)))))))
def f43a2 : RAnn := ⟨[13, 14, 15, 16, 17, 18], []⟩
noncomputable def f43o3 : Array Oper := cO (cL (cR (cR (cB f43))))
def f43a3 : RAnn := ⟨[0, 13, 19], []⟩
def f43b0 : Code := (.seq (.seq (.region 1 f43o1 false) (.cond (.tmp 13) .skip (.exit 0))) (.block 1 (.region 2 f43o2 false)))
def f43c : Code := (.seq (.region 0 f43o0 false) (.seq (.block 0 (.loop f43b0)) (.seq (.region 3 f43o3 false) .ret)))
def f43n : List (Nat × RAnn) := [(0, f43a0), (1, f43a1), (2, f43a2), (3, f43a3)]
noncomputable def f45o0 : Array Oper := cO (cL (cB f45))
def f45a0 : RAnn := ⟨[2, 3], []⟩
noncomputable def f45o1 : Array Oper := cO (cL (cL (cR (cB f45))))
def f45a1 : RAnn := ⟨[6, 7, 8, 9, 10, 11, 12], []⟩
noncomputable def f45o2 : Array Oper := cO (cL (cL (cR (cL (cR (cB f45))))))
def f45a2 : RAnn := ⟨[0, 13], []⟩
noncomputable def f45o3 : Array Oper := cO (cL (cR (cR (cB f45))))
def f45a3 : RAnn := ⟨[13], []⟩
noncomputable def f45o4 : Array Oper := cO (cL (cL (cR (cR (cR (cB f45))))))
def f45a4 : RAnn := ⟨[], []⟩
noncomputable def f45o5 : Array Oper := cO (cL (cL (cL (cL (cR (cL (cR (cR (cR (cB f45))))))))))
def f45a5 : RAnn := ⟨[14, 15, 16], []⟩
noncomputable def f45o6 : Array Oper := cO (cR (cR (cL (cL (cR (cL (cR (cR (cR (cB f45))))))))))
def f45a6 : RAnn := ⟨[18, 19], []⟩
noncomputable def f45o7 : Array Oper := cO (cL (cL (cL (cL (cR (cL (cL (cR (cL (cR (cR (cR (cB f45)))))))))))))
def f45a7 : RAnn := ⟨[17, 20, 21, 22, 23, 24, 25, 26, 27, 28], []⟩
noncomputable def f45o8 : Array Oper := cO (cL (cL (cR (cL (cL (cL (cR (cL (cL (cR (cL (cR (cR (cR (cB f45)))))))))))))))
def f45a8 : RAnn := ⟨[0, 4, 5, 29], []⟩
noncomputable def f45o9 : Array Oper := cO (cR (cL (cL (cR (cL (cL (cR (cL (cR (cR (cR (cB f45))))))))))))
def f45a9 : RAnn := ⟨[29, 30, 31, 32, 33, 34, 35, 36, 37], []⟩
noncomputable def f45o10 : Array Oper := cO (cL (cR (cR (cR (cR (cB f45))))))
def f45a10 : RAnn := ⟨[0, 4, 5, 17, 38], []⟩
def f45b0 : Code := (.seq (.seq (.region 5 f45o5 false) (.cond (.tmp 17) .skip (.exit 0))) (.seq (.block 1 (.seq (.seq (.region 7 f45o7 false) (.cond (.tmp 29) (.seq (.region 8 f45o8 false) .ret) .skip)) (.region 9 f45o9 false))) (.region 6 f45o6 false)))
def f45c : Code := (.seq (.region 0 f45o0 false) (.seq (.seq (.region 1 f45o1 false) (.cond (.tmp 13) (.seq (.region 2 f45o2 false) .ret) .skip)) (.seq (.region 3 f45o3 false) (.seq (.seq (.region 4 f45o4 false) (.block 0 (.loop f45b0))) (.seq (.region 10 f45o10 false) .ret)))))
def f45n : List (Nat × RAnn) := [(0, f45a0), (1, f45a1), (2, f45a2), (3, f45a3), (4, f45a4), (5, f45a5), (6, f45a6), (7, f45a7), (8, f45a8), (9, f45a9), (10, f45a10)]
noncomputable def f58o0 : Array Oper := cO (cL (cB f58))
def f58a0 : RAnn := ⟨[2], []⟩
noncomputable def f58o1 : Array Oper := cO (cL (cL (cL (cR (cB f58)))))
def f58a1 : RAnn := ⟨[4, 5, 6, 7, 8, 9], []⟩
noncomputable def f58o2 : Array Oper := cO (cL (cL (cR (cL (cL (cR (cB f58)))))))
def f58a2 : RAnn := ⟨[0, 3, 10, 11, 12, 13], []⟩
noncomputable def f58o3 : Array Oper := cO (cL (cR (cR (cL (cL (cR (cB f58)))))))
def f58a3 : RAnn := ⟨[3, 15, 16], []⟩
noncomputable def f58o4 : Array Oper := cO (cL (cL (cR (cR (cR (cL (cL (cR (cB f58)))))))))
def f58a4 : RAnn := ⟨[0, 14, 17, 18, 19, 20, 21, 22, 23, 24], []⟩
noncomputable def f58o5 : Array Oper := cO (cL (cR (cR (cR (cR (cL (cL (cR (cB f58)))))))))
def f58a5 : RAnn := ⟨[14, 26, 27], []⟩
noncomputable def f58o6 : Array Oper := cO (cL (cL (cR (cR (cR (cR (cR (cL (cL (cR (cB f58)))))))))))
def f58a6 : RAnn := ⟨[0, 25, 28, 29, 30, 31], []⟩
noncomputable def f58o7 : Array Oper := cO (cL (cR (cR (cB f58))))
def f58a7 : RAnn := ⟨[0, 25, 32, 33, 34, 35, 36, 37, 38, 39, 40], []⟩
def f58c : Code := (.seq (.region 0 f58o0 false) (.seq (.block 0 (.seq (.region 1 f58o1 false) (.cond (.tmp 3) (.seq (.region 2 f58o2 false) .ret) (.seq (.region 3 f58o3 false) (.cond (.tmp 14) (.seq (.region 4 f58o4 false) .ret) (.seq (.region 5 f58o5 false) (.cond (.tmp 25) (.seq (.region 6 f58o6 false) .ret) .skip))))))) (.seq (.region 7 f58o7 false) .ret)))
def f58n : List (Nat × RAnn) := [(0, f58a0), (1, f58a1), (2, f58a2), (3, f58a3), (4, f58a4), (5, f58a5), (6, f58a6), (7, f58a7)]
noncomputable def f47o0 : Array Oper := cO (cL (cB f47))
def f47a0 : RAnn := ⟨[4, 5], []⟩
noncomputable def f47o1 : Array Oper := cO (cL (cL (cR (cB f47))))
def f47a1 : RAnn := ⟨[7, 8, 9, 10, 11, 12, 13, 14, 15, 16, 17, 18, 19, 20, 21, 22], []⟩
noncomputable def f47o2 : Array Oper := cO (cL (cL (cR (cL (cR (cB f47))))))
def f47a2 : RAnn := ⟨[0, 1, 23], []⟩
noncomputable def f47o3 : Array Oper := cO (cL (cR (cR (cB f47))))
def f47a3 : RAnn := ⟨[0, 23, 24, 25], []⟩
noncomputable def f47o4 : Array Oper := cO (cL (cL (cL (cL (cL (cR (cR (cR (cB f47)))))))))
def f47a4 : RAnn := ⟨[26, 27, 28], []⟩
noncomputable def f47o5 : Array Oper := cO (cL (cR (cL (cL (cL (cR (cR (cR (cB f47)))))))))
def f47a5 : RAnn := ⟨[29, 30, 31], []⟩
noncomputable def f47o6 : Array Oper := cO (cL (cR (cR (cR (cR (cB f47))))))
def f47a6 : RAnn := ⟨[1, 6, 29, 32], []⟩
def f47b0 : Code := (.seq (.seq (.region 4 f47o4 false) (.cond (.tmp 29) .skip (.exit 0))) (.block 1 (.region 5 f47o5 false)))
def f47c : Code := (.seq (.region 0 f47o0 false) (.seq (.seq (.region 1 f47o1 false) (.cond (.tmp 23) (.seq (.region 2 f47o2 false) .ret) .skip)) (.seq (.region 3 f47o3 false) (.seq (.block 0 (.loop f47b0)) (.seq (.region 6 f47o6 false) .ret)))))
def f47n : List (Nat × RAnn) := [(0, f47a0), (1, f47a1), (2, f47a2), (3, f47a3), (4, f47a4), (5, f47a5), (6, f47a6)]
noncomputable def f9o0 : Array Oper := cO (cL (cB f9))
def f9a0 : RAnn := ⟨[1, 4], []⟩
noncomputable def f9o1 : Array Oper := cO (cL (cL (cR (cB f9))))
def f9a1 : RAnn := ⟨[13, 14], []⟩
noncomputable def f9o2 : Array Oper := cO (cL (cL (cR (cL (cR (cB f9))))))
def f9a2 : RAnn := ⟨[0, 3, 15, 16], []⟩
noncomputable def f9o3 : Array Oper := cO (cL (cR (cR (cB f9))))
def f9a3 : RAnn := ⟨[15, 17, 18, 19, 20, 21, 22, 23], []⟩
noncomputable def f9o4 : Array Oper := cO (cL (cR (cR (cR (cB f9)))))
def f9a4 : RAnn := ⟨[24, 25, 26, 27, 28, 29, 30], []⟩
noncomputable def f9o5 : Array Oper := cO (cL (cL (cR (cR (cR (cR (cB f9)))))))
def f9a5 : RAnn := ⟨[5, 6, 7, 8, 31, 32, 33, 34, 35, 36, 37, 38, 39, 40, 41, 42, 43, 44, 45, 46, 47, 48, 49, 50, 51, 52, 53, 54, 55], []⟩
noncomputable def f9o6 : Array Oper := cO (cL (cL (cR (cL (cR (cR (cR (cR (cB f9)))))))))
def f9a6 : RAnn := ⟨[0, 3, 56], []⟩
noncomputable def f9o7 : Array Oper := cO (cL (cR (cR (cR (cR (cR (cB f9)))))))
def f9a7 : RAnn := ⟨[56, 57, 58, 59, 60, 61], []⟩
noncomputable def f9o8 : Array Oper := cO (cL (cR (cR (cR (cR (cR (cR (cB f9))))))))
def f9a8 : RAnn := ⟨[0, 62, 63, 64, 65, 66], []⟩
noncomputable def f9o9 : Array Oper := cO (cL (cL (cR (cR (cR (cR (cR (cR (cR (cB f9))))))))))
def f9a9 : RAnn := ⟨[6, 8, 9, 10, 67, 68, 69, 70, 71, 72, 73], []⟩
noncomputable def f9o10 : Array Oper := cO (cL (cL (cR (cL (cR (cR (cR (cR (cR (cR (cR (cB f9))))))))))))
def f9a10 : RAnn := ⟨[3, 74], []⟩
noncomputable def f9o11 : Array Oper := cO (cL (cR (cR (cR (cR (cR (cR (cR (cR (cB f9))))))))))
def f9a11 : RAnn := ⟨[74, 75, 76, 77, 78, 79, 80, 81, 82], []⟩
noncomputable def f9o12 : Array Oper := cO (cL (cR (cR (cR (cR (cR (cR (cR (cR (cR (cB f9)))))))))))
def f9a12 : RAnn := ⟨[83, 84, 85, 86, 87, 88, 89, 90], []⟩
noncomputable def f9o13 : Array Oper := cO (cL (cL (cR (cR (cR (cR (cR (cR (cR (cR (cR (cR (cB f9)))))))))))))
def f9a13 : RAnn := ⟨[7, 8, 91, 92, 93, 94, 95, 96, 97], []⟩
noncomputable def f9o14 : Array Oper := cO (cL (cL (cR (cL (cR (cR (cR (cR (cR (cR (cR (cR (cR (cR (cB f9)))))))))))))))
def f9a14 : RAnn := ⟨[3, 5, 6, 98], []⟩
noncomputable def f9o15 : Array Oper := cO (cL (cL (cR (cR (cR (cR (cR (cR (cR (cR (cR (cR (cR (cB f9))))))))))))))
def f9a15 : RAnn := ⟨[6, 98, 99], []⟩
noncomputable def f9o16 : Array Oper := cO (cL (cL (cR (cL (cR (cR (cR (cR (cR (cR (cR (cR (cR (cR (cR (cB f9))))))))))))))))
def f9a16 : RAnn := ⟨[5, 100, 101, 102, 103, 104, 105], []⟩
noncomputable def f9o17 : Array Oper := cO (cL (cR (cL (cR (cL (cR (cR (cR (cR (cR (cR (cR (cR (cR (cR (cR (cB f9)))))))))))))))))
def f9a17 : RAnn := ⟨[3, 11, 12, 106, 107, 108, 109, 110, 111, 112], []⟩
noncomputable def f9o18 : Array Oper := cO (cL (cL (cR (cR (cL (cR (cL (cR (cR (cR (cR (cR (cR (cR (cR (cR (cR (cR (cB f9)))))))))))))))))))
def f9a18 : RAnn := ⟨[113], []⟩
noncomputable def f9o19 : Array Oper := cO (cL (cR (cR (cR (cR (cR (cR (cR (cR (cR (cR (cR (cR (cB f9))))))))))))))
def f9a19 : RAnn := ⟨[3, 5, 100, 113, 114], []⟩
def f9c : Code := (.seq (.region 0 f9o0 false) (.seq (.seq (.region 1 f9o1 false) (.cond (.tmp 15) (.seq (.region 2 f9o2 false) .ret) .skip)) (.seq (.region 3 f9o3 false) (.seq (.region 4 f9o4 false) (.seq (.seq (.region 5 f9o5 false) (.cond (.tmp 56) (.seq (.region 6 f9o6 false) .ret) .skip)) (.seq (.region 7 f9o7 false) (.seq (.region 8 f9o8 false) (.seq (.seq (.region 9 f9o9 false) (.cond (.tmp 74) (.seq (.region 10 f9o10 false) .ret) .skip)) (.seq (.region 11 f9o11 false) (.seq (.region 12 f9o12 false) (.seq (.seq (.region 13 f9o13 false) (.cond (.tmp 98) (.seq (.region 14 f9o14 false) .ret) .skip)) (.seq (.seq (.region 15 f9o15 false) (.cond (.tmp 100) (.seq (.region 16 f9o16 false) (.seq (.region 17 f9o17 false) (.cond (.tmp 113) (.seq (.region 18 f9o18 false) .ret) .skip))) .skip)) (.seq (.region 19 f9o19 false) .ret)))))))))))))
def f9n : List (Nat × RAnn) := [(0, f9a0), (1, f9a1), (2, f9a2), (3, f9a3), (4, f9a4), (5, f9a5), (6, f9a6), (7, f9a7), (8, f9a8), (9, f9a9), (10, f9a10), (11, f9a11), (12, f9a12), (13, f9a13), (14, f9a14), (15, f9a15), (16, f9a16), (17, f9a17), (18, f9a18), (19, f9a19)]
def ANNS : List (Nat × FAnn) := [(9, ⟨f9n, [], []⟩), (11, ⟨f11n, [], []⟩), (14, ⟨f14n, [], []⟩), (17, ⟨f17n, [], []⟩), (19, ⟨f19n, [], []⟩), (40, ⟨f40n, [], []⟩), (41, ⟨f41n, [], []⟩), (42, ⟨f42n, [], []⟩), (43, ⟨f43n, [], []⟩), (45, ⟨f45n, [], []⟩), (46, ⟨f46n, [], []⟩), (47, ⟨f47n, [], []⟩), (58, ⟨f58n, [], []⟩)]
def anns : FuncId → FAnn := fun f => (look f ANNS).getD {}
def ext : ExtH := fun f args => bif Nat.beq f 57 then some (extItoa args) else bif Nat.beq f 55 then some (extStrRep args) else bif Nat.beq f 49 then some (extRepAll args) else bif Nat.beq f 56 then some (extTrimR args) else bif Nat.beq f 44 then some (extFd args) else none
noncomputable abbrev EV (k : Nat) : CallH := evF prog anns ext k
noncomputable abbrev RE (k : Nat) (a : RAnn) (o : Array Oper) (d : Bool) (s : St) : Option St := regionE prog (EV k) a o d s
abbrev I (n : Int) : V := .int .i64 n
def octet_Text_fin : ((List Int) × Int) → V × List V := fun r => (.tup [(V.sl 0 1 (List.map (V.int .u8) r.1)), (I r.2)], [])
theorem octet_Text_ok (k : Nat) (a0 : Str) : EV k 19 [(Sr a0)] = (octet_Text k a0).map octet_Text_fin := by
  cases k with
  | zero => rfl
  | succ k =>
    unfold octet_Text
    refine et (evF_succ (c := f19c) (N := 13) (regs := f19n) rfl func19 rfl (by decide) rfl rfl rfl) <| kra [] rfl <| et k_assoc <| kra [(6, (Bo (decide ((a0.length : Int) > 255))))] rfl <| kc rfl rfl (fun hc => ?_) fun hc => ?_
    · rw [hc]
      refine et k_assoc <| kr ⟨[(2, (V.sl 0 1 (List.map (V.int .u8) ([] : List Int)))), (3, (I 2))], [], 13⟩ rfl <| et k_ret ?_
      rfl
    · rw [hc]
      refine et k_skip <| kg f19a3 rfl (fun (o2 : (List Int) × Int) => ⟨[(2, (V.sl 0 1 (List.map (V.int .u8) o2.1))), (3, (I o2.2))], [], 13⟩) (rd 5 [(7, (Sr a0)), (8, (I (a0.length : Int))), (9, (V.int .u8 (Go.IntKind.wrap .u8 (a0.length : Int)))), (10, (V.sl 1 1 (List.map (V.int .u8) ([(Go.IntKind.wrap .u8 (a0.length : Int))] : List Int)))), (11, (Sr a0))] rfl rfl <| et (reg_eff (x := (app ([(Go.IntKind.wrap .u8 (a0.length : Int))] : List Int) (bytesB a0))) (w := fun v1 => ((V.sl 1 1 (List.map (V.int .u8) v1)), _)) rfl rfl rfl rfl (p_appS rfl rfl rfl rfl rfl rfl rfl rfl rfl rfl (by decide))) <| bindE fun v1 => bind_end rfl) fun o2 => et k_lret ?_
      rfl
def octet_Number_fin : ((List Int) × Int) → V × List V := fun r => (.tup [(V.sl 0 1 (List.map (V.int .u8) r.1)), (I r.2)], [])
theorem octet_Number_ok (k : Nat) (a0 : Int) : EV k 17 [(I a0)] = (octet_Number k a0).map octet_Number_fin := by
  cases k with
  | zero => rfl
  | succ k =>
    unfold octet_Number
    refine et (evF_succ (c := f17c) (N := 22) (regs := f17n) rfl func17 rfl (by decide) rfl rfl rfl) <| kra [] rfl <| et k_assoc <| kga f17a1 rfl (fun (o1 : Bool) => [(9, (Bo o1))]) ?_ fun o1 => ?_
    · refine rd 3 [(4, (I a0)), (5, (Bo (decide (a0 < 0)))), (6, (Bo (decide (a0 < 0))))] rfl rfl <| bifE (fun hc => ?_) fun hc => ?_
      · rw [hc]
        exact reg_end rfl
      · rw [hc]
        exact reg_end rfl
    refine kc rfl rfl (fun hc => ?_) fun hc => ?_
    · rw [hc]
      refine et k_assoc <| kr ⟨[(2, (V.sl 0 1 (List.map (V.int .u8) ([] : List Int)))), (3, (I 2))], [], 22⟩ rfl <| et k_ret ?_
      rfl
    · rw [hc]
      refine et k_skip <| kg f17a3 rfl (fun (o5 : (List Int) × Int) => ⟨[(2, (V.sl 0 1 (List.map (V.int .u8) o5.1))), (3, (I o5.2))], [], 22⟩) (rd 1 [(10, (I a0))] rfl rfl <| rp rfl (p_shr rfl rfl rfl) fun v2 => bd 4 [(11, (I v2)), (12, (V.int .u8 (Go.IntKind.wrap .u8 v2))), (13, (I a0))] rfl rfl <| rp rfl (p_shr rfl rfl rfl) fun v3 => bd 7 [(14, (I v3)), (15, (V.int .u8 (Go.IntKind.wrap .u8 v3))), (16, (I a0))] rfl rfl <| rp rfl (p_shr rfl rfl rfl) fun v4 => bind_end rfl) fun o5 => et k_lret ?_
      rfl
def strconv_Itoa_fin : Str → V × List V := fun r => (Sr r, [])
theorem strconv_Itoa_ok (k : Nat) (n : Int) : EV k 57 [(I n)] = (strconv_Itoa k n).map strconv_Itoa_fin := by
  cases k with
  | zero => rfl
  | succ k => exact (evF_ext (ext := ext) (f := 57) rfl).trans rfl
def strings_Repeat_fin : Str → V × List V := fun r => ((Sr r), [])
theorem strings_Repeat_ok (k : Nat) (s : Str) (n : Int) : EV k 55 [(Sr s), (I n)] = (strings_Repeat k s n).map strings_Repeat_fin := by
  cases k with
  | zero => rfl
  | succ k => exact (evF_ext (ext := ext) (f := 55) rfl).trans rfl
def octet_Digits_fin : (Str × Int) → V × List V := fun r => (.tup [(Sr r.1), (I r.2)], [])
theorem octet_Digits_ok (k : Nat) (a0 : Int) (a1 : Int) : EV k 46 [(I a0), (I a1)] = (octet_Digits k a0 a1).map octet_Digits_fin := by
  cases k with
  | zero => rfl
  | succ k =>
    unfold octet_Digits
    refine et (evF_succ (c := f46c) (N := 32) (regs := f46n) rfl func46 rfl (by decide) rfl rfl rfl) <| kra [] rfl <| kga f46a1 rfl (fun (o2 : Str) => [(6, (Sr o2))]) (rd 1 [(7, (I a0))] rfl rfl <| rs rfl (p_call rfl rfl rfl rfl rfl (strconv_Itoa_ok k a0) (.inl rfl)) fun v1 => bind_end rfl) fun o2 => et k_assoc <| kg f46a2 rfl (fun (o3 : Bool) => ⟨[(1, (I a1)), (6, (Sr o2)), (24, (Bo o3))], [], 32⟩) ?_ fun o3 => ?_
    · refine rd 3 [(9, (I a0)), (10, (Bo (decide (a0 < 0)))), (11, (Bo (decide (a0 < 0))))] rfl rfl <| bifE (fun hc => ?_) fun hc => ?_
      · rw [hc]
        exact reg_end rfl
      · rw [hc]
        refine rd 7 [(12, (I a1)), (13, (Bo (decide (a1 < 1)))), (14, (Bo (decide (a1 < 1)))), (15, (Bo (decide (a1 < 1))))] rfl rfl <| bifE (fun hc => ?_) fun hc => ?_
        · rw [hc]
          exact reg_end rfl
        · rw [hc]
          refine rd 11 [(16, (I a1)), (17, (Bo (decide (a1 > 9)))), (18, (Bo (decide (a1 > 9)))), (19, (Bo (decide (a1 > 9))))] rfl rfl <| bifE (fun hc => ?_) fun hc => ?_
          · rw [hc]
            exact reg_end rfl
          · rw [hc]
            exact reg_end rfl
    refine kc rfl rfl (fun hc => ?_) fun hc => ?_
    · rw [hc]
      refine et k_assoc <| kr ⟨[(4, (Sr ([] : Str))), (5, (I 2))], [], 32⟩ rfl <| et k_ret ?_
      rfl
    · rw [hc]
      refine et k_skip <| kg f46a4 rfl (fun (o6 : Str × Int) => ⟨[(4, (Sr o6.1)), (5, (I o6.2))], [], 32⟩) (rd 4 [(25, (I a1)), (26, (Sr o2)), (27, (I (o2.length : Int))), (28, (I (Go.IntKind.wrap .i64 (a1 - (o2.length : Int)))))] rfl rfl <| rp rfl (p_call rfl rfl rfl rfl rfl (strings_Repeat_ok k ([48] : Str) (Go.IntKind.wrap .i64 (a1 - (o2.length : Int)))) (.inl rfl)) fun v4 => bd 6 [(29, (Sr v4)), (30, (Sr o2))] rfl rfl <| rp rfl (p_cat rfl rfl rfl) fun v5 => bind_end rfl) fun o6 => et k_lret ?_
      rfl
def octet_Pad_fin : (Str × Int) → V × List V := fun r => (.tup [(Sr r.1), (I r.2)], [])
theorem octet_Pad_ok (k : Nat) (a0 : Str) (a1 : Int) : EV k 40 [(Sr a0), (I a1)] = (octet_Pad k a0 a1).map octet_Pad_fin := by
  cases k with
  | zero => rfl
  | succ k =>
    unfold octet_Pad
    refine et (evF_succ (c := f40c) (N := 21) (regs := f40n) rfl func40 rfl (by decide) rfl rfl rfl) <| kra [] rfl <| et k_assoc <| kga f40a1 rfl (fun (o1 : Bool) => [(13, (Bo o1))]) ?_ fun o1 => ?_
    · refine rd 5 [(6, (I a1)), (7, (Sr a0)), (8, (I (a0.length : Int))), (9, (Bo (decide (a1 < (a0.length : Int))))), (10, (Bo (decide (a1 < (a0.length : Int)))))] rfl rfl <| bifE (fun hc => ?_) fun hc => ?_
      · rw [hc]
        exact reg_end rfl
      · rw [hc]
        exact reg_end rfl
    refine kc rfl rfl (fun hc => ?_) fun hc => ?_
    · rw [hc]
      refine et k_assoc <| kr ⟨[(4, (Sr ([] : Str))), (5, (I 2))], [], 21⟩ rfl <| et k_ret ?_
      rfl
    · rw [hc]
      refine et k_skip <| kg f40a3 rfl (fun (o4 : Str × Int) => ⟨[(4, (Sr o4.1)), (5, (I o4.2))], [], 21⟩) (rd 5 [(14, (Sr a0)), (15, (I a1)), (16, (Sr a0)), (17, (I (a0.length : Int))), (18, (I (Go.IntKind.wrap .i64 (a1 - (a0.length : Int)))))] rfl rfl <| rp rfl (p_call rfl rfl rfl rfl rfl (strings_Repeat_ok k ([32] : Str) (Go.IntKind.wrap .i64 (a1 - (a0.length : Int)))) (.inl rfl)) fun v2 => bd 6 [(19, (Sr v2))] rfl rfl <| rp rfl (p_cat rfl rfl rfl) fun v3 => bind_end rfl) fun o4 => et k_lret ?_
      rfl
def strings_ReplaceAll_fin : Str → V × List V := fun r => (Sr r, [])
theorem strings_ReplaceAll_ok (k : Nat) (s o n : Str) : EV k 49 [(Sr s), (Sr o), (Sr n)] = (strings_ReplaceAll k s o n).map strings_ReplaceAll_fin := by
  cases k with
  | zero => rfl
  | succ k => exact (evF_ext (ext := ext) (f := 49) rfl).trans rfl
def octet_Key_fin : (List Int) → V × List V := fun r => ((V.sl 0 1 (List.map (V.int .u8) r)), [])
theorem octet_Key_L1_ok (k : Nat) (a0 : (List Str))  (K0 : (List Int) → Int → Option (List Int)) (Kst : X × St → Option (V × List V)) (hK0 : ∀ (y0 : (List Int)) (y1 : Int), Kst (X.exit 0, ⟨[(3, (V.sl 1 1 (List.map (V.int .u8) y0))), (6, (sS a0)), (7, (I (a0.length : Int))), (8, (I y1)), (9, (Bo false))], [], 21⟩) = (K0 y0 y1).map octet_Key_fin) (hret : ∀ s, Kst (X.ret, s) = endK prog 21 [(sS a0)] [] [.tmp 2] (X.ret, s)) :
    ∀ (m : Nat) (x8 : (List Int)) (x9 : Int), (iter (exec prog (EV k) f14n k f14b0) m ⟨[(3, (V.sl 1 1 (List.map (V.int .u8) x8))), (6, (sS a0)), (7, (I (a0.length : Int))), (8, (I x9))], [], 21⟩).bind Kst = (octet_Key_L1 k a0 K0 m x8 x9).map octet_Key_fin := by
  intro m
  induction m with
  | zero => intros; rfl
  | succ m ih =>
    intro x8 x9
    unfold octet_Key_L1
    refine et k_round <| kra [(9, (Bo (decide (x9 < (a0.length : Int)))))] rfl <| kc rfl rfl (fun hc => ?_) fun hc => ?_
    · rw [hc]
      exact et k_skip <| et (k_block rfl) <| kg f14a4 rfl (fun (o11 : Str) => ⟨[(3, (V.sl 1 1 (List.map (V.int .u8) x8))), (5, (Sr o11)), (6, (sS a0)), (7, (I (a0.length : Int))), (8, (I x9))], [], 21⟩) (rs rfl (p_index (e := V.str) rfl rfl rfl underlying22 rfl (by decide)) fun v10 => bind_end rfl) fun o11 => kg f14a5 rfl (fun (o14 : (List Int)) => ⟨[(3, (V.sl 1 1 (List.map (V.int .u8) o14))), (6, (sS a0)), (7, (I (a0.length : Int))), (8, (I x9))], [], 21⟩) (ra 2 2 ⟨[(3, (V.sl 0 1 (List.map (V.int .u8) x8))), (5, (Sr o11)), (6, (sS a0)), (7, (I (a0.length : Int))), (8, (I x9)), (12, (V.sl 1 1 (List.map (V.int .u8) x8))), (13, (Sr o11))], [], 21⟩ rfl rfl rfl <| rp rfl (p_call rfl rfl rfl rfl rfl (strings_ReplaceAll_ok k o11 ([0] : Str) ([0, 255] : Str)) (.inl rfl)) fun v12 => bd 3 [(14, (Sr v12))] rfl rfl <| et (reg_eff (x := (app x8 (bytesB v12))) (w := fun v13 => ((V.sl 1 1 (List.map (V.int .u8) v13)), _)) rfl rfl rfl rfl (p_appS rfl rfl rfl rfl rfl rfl rfl rfl rfl rfl (by decide))) <| bind_self fun v13 => bind_end rfl) fun o14 => kgl f14a6 rfl (fun (o16 : (List Int)) => ⟨[(3, (V.sl 1 1 (List.map (V.int .u8) o16))), (6, (sS a0)), (7, (I (a0.length : Int))), (8, (I x9))], [], 21⟩) (ra 2 2 ⟨[(3, (V.sl 0 1 (List.map (V.int .u8) o14))), (6, (sS a0)), (7, (I (a0.length : Int))), (8, (I x9)), (16, (V.sl 1 1 (List.map (V.int .u8) o14))), (17, (V.sl 0 1 (List.map (V.int .u8) ([0, 1] : List Int))))], [], 21⟩ rfl rfl rfl <| et (reg_eff (x := (app o14 ([0, 1] : List Int))) (w := fun v15 => ((V.sl 1 1 (List.map (V.int .u8) v15)), _)) rfl rfl rfl rfl (p_app (e := (V.int .u8)) rfl rfl rfl rfl rfl rfl rfl rfl rfl rfl (by decide))) <| bind_self fun v15 => bind_end rfl) fun o16 => et blk_normal <| kl ⟨[(3, (V.sl 1 1 (List.map (V.int .u8) o16))), (6, (sS a0)), (7, (I (a0.length : Int))), (8, (I (Go.IntKind.wrap .i64 (x9 + 1))))], [], 21⟩ rfl <| et loop_normal <| ih o16 (Go.IntKind.wrap .i64 (x9 + 1))
    · rw [hc]
      exact et k_exit <| et loop_exit <| hK0 x8 x9
theorem octet_Key_ok (k : Nat) (a0 : (List Str)) : EV k 14 [(sS a0)] = (octet_Key k a0).map octet_Key_fin := by
  cases k with
  | zero => rfl
  | succ k =>
    unfold octet_Key
    refine et (evF_succ (c := f14c) (N := 21) (regs := f14n) rfl func14 rfl (by decide) rfl rfl rfl) <| kra [] rfl <| kra [(3, (V.sl 1 1 (List.map (V.int .u8) ([] : List Int))))] rfl <| et k_assoc <| krp f14a2 rfl ⟨[(3, (V.sl 1 1 (List.map (V.int .u8) ([] : List Int)))), (6, (sS a0)), (7, (I (a0.length : Int))), (8, (I 0))], [], 21⟩ ?_ ?_
    · exact rd 1 [(6, (sS a0))] rfl rfl <| rl rfl (p_len (e := V.str) rfl rfl rfl rfl rfl rfl underlying22) <| bind_end rfl
    refine et (k_block rfl) <| et k_loop ?_
    refine octet_Key_L1_ok k a0 _ _ ?h_octet_Key_L1_0 ?hr_octet_Key_L1 k ([] : List Int) 0
    · intro y17 y18
      refine et blk_exit <| kr ⟨[(2, (V.sl 0 1 (List.map (V.int .u8) y17)))], [], 21⟩ rfl <| et k_lret ?_
      rfl
    · intro s; exact rfl
def law01_First_fin : Bool → V × List V := fun r => ((Bo r), [])
theorem law01_First_clo0 : EV 0 11 [] = none := by kernel_rfl
theorem law01_First_clo1 : EV 1 11 [] = none := by kernel_rfl
theorem law01_First_clo2 : EV 2 11 [] = none := by kernel_rfl
theorem law01_First_clo3 : EV 3 11 [] = none := by kernel_rfl
theorem law01_First_clo4 : EV 4 11 [] = none := by kernel_rfl
theorem law01_First_clo (k : Nat) : EV (k + 5) 11 [] = some (Bo true, []) := by kernel_rfl
theorem law01_First_ok (k : Nat) : EV k 11 [] = (law01_First k).map law01_First_fin := by
  match k with
  | 0 => exact law01_First_clo0
  | 1 => exact law01_First_clo1
  | 2 => exact law01_First_clo2
  | 3 => exact law01_First_clo3
  | 4 => exact law01_First_clo4
  | k + 5 => exact law01_First_clo k
def ref01_Pad_fin : (Str × Int) → V × List V := fun r => (.tup [(Sr r.1), (I r.2)], [])
theorem ref01_Pad_L1_ok (k : Nat) (a0 : Str) (a1 : Int)  (K0 : Str → Option (Str × Int)) (Kst : X × St → Option (V × List V)) (hK0 : ∀ (y0 : Str), Kst (X.exit 0, ⟨[(0, (Sr y0)), (1, (I a1)), (21, (Bo false))], [], 25⟩) = (K0 y0).map ref01_Pad_fin) (hret : ∀ s, Kst (X.ret, s) = endK prog 25 [(Sr a0), (I a1)] [] [.tmp 4, .tmp 5] (X.ret, s)) :
    ∀ (m : Nat) (x4 : Str), (iter (exec prog (EV k) f41n k f41b0) m ⟨[(0, (Sr x4)), (1, (I a1))], [], 25⟩).bind Kst = (ref01_Pad_L1 a1 K0 m x4).map ref01_Pad_fin := by
  intro m
  induction m with
  | zero => intros; rfl
  | succ m ih =>
    intro x4
    unfold ref01_Pad_L1
    refine et k_round <| et k_assoc <| kra [(21, (Bo (decide ((x4.length : Int) < a1))))] rfl <| kc rfl rfl (fun hc => ?_) fun hc => ?_
    · try rw [hc]
      exact et k_skip <| et (k_lblock rfl) <| kgl f41a4 rfl (fun (o6 : Str) => ⟨[(0, (Sr o6)), (1, (I a1))], [], 25⟩) (rd 1 [(22, (Sr x4))] rfl rfl <| rs rfl (p_cat rfl rfl rfl) fun v5 => bind_end rfl) fun o6 => et blk_normal <| et k_lskip <| et loop_normal <| ih o6
    · try rw [hc]
      exact et k_exit <| et loop_exit <| hK0 x4
theorem ref01_Pad_ok (k : Nat) (a0 : Str) (a1 : Int) : EV k 41 [(Sr a0), (I a1)] = (ref01_Pad k a0 a1).map ref01_Pad_fin := by
  cases k with
  | zero => rfl
  | succ k =>
    unfold ref01_Pad
    refine et (evF_succ (c := f41c) (N := 25) (regs := f41n) rfl func41 rfl (by decide) rfl rfl rfl) <| kra [] rfl <| et k_assoc <| kga f41a1 rfl (fun (o1 : Bool) => [(17, (Bo o1))]) ?_ fun o1 => ?_
    · refine rd 3 [(6, (I a1)), (7, (Bo (decide (a1 < 0)))), (8, (Bo (decide (a1 < 0))))] rfl rfl <| bifE (fun hc => ?_) fun hc => ?_
      · rw [hc]
        exact reg_end rfl
      · rw [hc]
        refine rd 7 [(9, (I a1)), (10, (Bo (decide (a1 > 255)))), (11, (Bo (decide (a1 > 255)))), (12, (Bo (decide (a1 > 255))))] rfl rfl <| bifE (fun hc => ?_) fun hc => ?_
        · rw [hc]
          exact reg_end rfl
        · rw [hc]
          exact reg_end rfl
    refine et (k_cond (t := o1) (st' := ⟨[(0, (Sr a0)), (1, (I a1))], [], 25⟩) rfl rfl) <| bifE2 (fun hc => ?_) fun hc => ?_
    · try rw [hc]
      refine et k_assoc <| kr ⟨[(4, (Sr ([] : Str))), (5, (I 2))], [], 25⟩ rfl <| et k_ret ?_
      rfl
    · try rw [hc]
      refine et k_skip <| et (k_block rfl) <| et k_loop ?_
      refine ref01_Pad_L1_ok k a0 a1 _ _ ?h_ref01_Pad_L1_0 ?hr_ref01_Pad_L1 k a0
      · intro y7
        refine et blk_exit <| kr ⟨[(4, (Sr y7)), (5, (I 0))], [], 25⟩ rfl <| et k_lret ?_
        rfl
      · intro s; exact rfl
def strings_TrimRight_fin : Str → V × List V := fun r => (Sr r, [])
theorem strings_TrimRight_ok (k : Nat) (s n : Str) : EV k 56 [(Sr s), (Sr n)] = (strings_TrimRight k s n).map strings_TrimRight_fin := by
  cases k with
  | zero => rfl
  | succ k => exact (evF_ext (ext := ext) (f := 56) rfl).trans rfl
def octet_Trim_fin : Str → V × List V := fun r => ((Sr r), [])
theorem octet_Trim_ok (k : Nat) (a0 : Str) : EV k 42 [(Sr a0)] = (octet_Trim k a0).map octet_Trim_fin := by
  cases k with
  | zero => rfl
  | succ k =>
    unfold octet_Trim
    refine et (evF_succ (c := f42c) (N := 5) (regs := f42n) rfl func42 rfl (by decide) rfl rfl rfl) <| kra [] rfl <| kg f42a1 rfl (fun (o2 : Str) => ⟨[(2, (Sr o2))], [], 5⟩) (rd 1 [(3, (Sr a0))] rfl rfl <| rs rfl (p_call rfl rfl rfl rfl rfl (strings_TrimRight_ok k a0 ([32] : Str)) (.inl rfl)) fun v1 => bind_end rfl) fun o2 => et k_lret ?_
    rfl
def ref01_Trim_fin : Str → V × List V := fun r => ((Sr r), [])
theorem ref01_Trim_L1_ok (k : Nat) (a0 : Str)  (K0 : Str → Option Str) (Kst : X × St → Option (V × List V)) (hK0 : ∀ (y0 : Str), Kst (X.exit 0, ⟨[(0, (Sr y0)), (13, (Bo false))], [], 20⟩) = (K0 y0).map ref01_Trim_fin) (hret : ∀ s, Kst (X.ret, s) = endK prog 20 [(Sr a0)] [] [.tmp 2] (X.ret, s)) :
    ∀ (m : Nat) (x5 : Str), (iter (exec prog (EV k) f43n k f43b0) m ⟨[(0, (Sr x5))], [], 20⟩).bind Kst = (ref01_Trim_L1 K0 m x5).map ref01_Trim_fin := by
  intro m
  induction m with
  | zero => intros; rfl
  | succ m ih =>
    intro x5
    unfold ref01_Trim_L1
    refine et k_round <| et k_assoc <| kga f43a1 rfl (fun (o7 : Bool) => [(13, (Bo o7))]) ?_ fun o7 => ?_
    · refine rd 4 [(3, (Sr x5)), (4, (I (x5.length : Int))), (5, (Bo (decide ((x5.length : Int) > 0)))), (6, (Bo (decide ((x5.length : Int) > 0))))] rfl rfl <| bifE (fun hc => ?_) fun hc => ?_
      · rw [hc]
        exact rd 8 [(7, (Sr x5)), (8, (Sr x5)), (9, (I (x5.length : Int))), (10, (I (Go.IntKind.wrap .i64 ((x5.length : Int) - 1))))] rfl rfl <| rp rfl (p_indexS rfl rfl rfl underlying9) fun v6 => bind_end rfl
      · rw [hc]
        exact reg_end rfl
    refine kc rfl rfl (fun hc => ?_) fun hc => ?_
    · rw [hc]
      exact et k_skip <| et (k_lblock rfl) <| kgl f43a2 rfl (fun (o9 : Str) => ⟨[(0, (Sr o9))], [], 20⟩) (rd 4 [(14, (Sr x5)), (15, (Sr x5)), (16, (I (x5.length : Int))), (17, (I (Go.IntKind.wrap .i64 ((x5.length : Int) - 1))))] rfl rfl <| rs rfl (p_sliceS rfl rfl rfl rfl rfl rfl underlying9) fun v8 => bind_end rfl) fun o9 => et blk_normal <| et k_lskip <| et loop_normal <| ih o9
    · rw [hc]
      exact et k_exit <| et loop_exit <| hK0 x5
theorem ref01_Trim_ok (k : Nat) (a0 : Str) : EV k 43 [(Sr a0)] = (ref01_Trim k a0).map ref01_Trim_fin := by
  cases k with
  | zero => rfl
  | succ k =>
    unfold ref01_Trim
    refine et (evF_succ (c := f43c) (N := 20) (regs := f43n) rfl func43 rfl (by decide) rfl rfl rfl) <| kra [] rfl <| et (k_block rfl) <| et k_loop ?_
    refine ref01_Trim_L1_ok k a0 _ _ ?h_ref01_Trim_L1_0 ?hr_ref01_Trim_L1 k a0
    · intro y10
      refine et blk_exit <| kr ⟨[(2, (Sr y10))], [], 20⟩ rfl <| et k_lret ?_
      rfl
    · intro s; exact rfl
def octet_FromDigits_fin : (Int × Int) → V × List V := fun r => (.tup [(I r.1), (I r.2)], [])
theorem octet_FromDigits_ok (k : Nat) (s : Str) : EV k 44 [(Sr s)] = (octet_FromDigits k s).map octet_FromDigits_fin := by
  cases k with
  | zero => rfl
  | succ k => exact (evF_ext (ext := ext) (f := 44) rfl).trans rfl
def ref01_FromDigits_fin : (Int × Int) → V × List V := fun r => (.tup [(I r.1), (I r.2)], [])
theorem ref01_FromDigits_L1_ok (k : Nat) (a0 : Str)  (K0 : Int → Int → Option (Int × Int)) (Kst : X × St → Option (V × List V)) (hK0 : ∀ (y0 : Int) (y1 : Int), Kst (X.exit 0, ⟨[(0, (Sr a0)), (4, (I y0)), (5, (I y1)), (17, (Bo false))], [], 39⟩) = (K0 y0 y1).map ref01_FromDigits_fin) (hret : ∀ s, Kst (X.ret, s) = endK prog 39 [(Sr a0)] [] [.tmp 2, .tmp 3] (X.ret, s)) :
    ∀ (m : Nat) (x7 : Int) (x8 : Int), (iter (exec prog (EV k) f45n k f45b0) m ⟨[(0, (Sr a0)), (4, (I x7)), (5, (I x8))], [], 39⟩).bind Kst = (ref01_FromDigits_L1 a0 K0 m x7 x8).map ref01_FromDigits_fin := by
  intro m
  induction m with
  | zero => intros; rfl
  | succ m ih =>
    intro x7 x8
    unfold ref01_FromDigits_L1
    refine et k_round <| et k_assoc <| kra [(17, (Bo (decide (x8 < (a0.length : Int)))))] rfl <| kc rfl rfl (fun hc => ?_) fun hc => ?_
    · rw [hc]
      refine et k_skip <| et (k_block rfl) <| et k_assoc <| kg f45a7 rfl (fun (o11 : Bool) => ⟨[(0, (Sr a0)), (4, (I x7)), (5, (I x8)), (29, (Bo o11))], [], 39⟩) ?_ fun o11 => ?_
      · refine rd 2 [(20, (Sr a0)), (21, (I x8))] rfl rfl <| rp rfl (p_indexS rfl rfl rfl underlying9) fun v9 => bd 5 [(22, (V.int .u8 v9)), (23, (Bo (decide (v9 < 48)))), (24, (Bo (decide (v9 < 48))))] rfl rfl <| bifE (fun hc => ?_) fun hc => ?_
        · rw [hc]
          exact reg_end rfl
        · rw [hc]
          exact rd 7 [(25, (Sr a0)), (26, (I x8))] rfl rfl <| rp rfl (p_indexS rfl rfl rfl underlying9) fun v10 => bind_end rfl
      refine kc rfl rfl (fun hc => ?_) fun hc => ?_
      · rw [hc]
        refine et k_assoc <| kr ⟨[(2, (I 0)), (3, (I 3))], [], 39⟩ rfl <| et k_ret <| et blk_ret <| et loop_ret <| et (hret _) ?_
        rfl
      · rw [hc]
        exact et k_skip <| kgl f45a9 rfl (fun (o13 : Int) => ⟨[(0, (Sr a0)), (4, (I o13)), (5, (I x8))], [], 39⟩) (rd 4 [(30, (I x7)), (31, (I (Go.IntKind.wrap .i64 (10 * x7)))), (32, (Sr a0)), (33, (I x8))] rfl rfl <| rp rfl (p_indexS rfl rfl rfl underlying9) fun v12 => bind_end rfl) fun o13 => et blk_normal <| kl ⟨[(0, (Sr a0)), (4, (I o13)), (5, (I (Go.IntKind.wrap .i64 (x8 + 1))))], [], 39⟩ rfl <| et loop_normal <| ih o13 (Go.IntKind.wrap .i64 (x8 + 1))
    · rw [hc]
      exact et k_exit <| et loop_exit <| hK0 x7 x8
theorem ref01_FromDigits_ok (k : Nat) (a0 : Str) : EV k 45 [(Sr a0)] = (ref01_FromDigits k a0).map ref01_FromDigits_fin := by
  cases k with
  | zero => rfl
  | succ k =>
    unfold ref01_FromDigits
    refine et (evF_succ (c := f45c) (N := 39) (regs := f45n) rfl func45 rfl (by decide) rfl rfl rfl) <| kra [] rfl <| et k_assoc <| kga f45a1 rfl (fun (o1 : Bool) => [(13, (Bo o1))]) ?_ fun o1 => ?_
    · refine rd 4 [(6, (Sr a0)), (7, (I (a0.length : Int))), (8, (Bo (decide ((a0.length : Int) < 1)))), (9, (Bo (decide ((a0.length : Int) < 1))))] rfl rfl <| bifE (fun hc => ?_) fun hc => ?_
      · rw [hc]
        exact reg_end rfl
      · rw [hc]
        exact reg_end rfl
    refine kc rfl rfl (fun hc => ?_) fun hc => ?_
    · rw [hc]
      refine et k_assoc <| kr ⟨[(2, (I 0)), (3, (I 3))], [], 39⟩ rfl <| et k_ret ?_
      rfl
    · rw [hc]
      refine et k_skip <| kr ⟨[(0, (Sr a0)), (4, (I 0))], [], 39⟩ rfl <| et k_assoc <| kra [(5, (I 0))] rfl <| et (k_block rfl) <| et k_loop ?_
      refine ref01_FromDigits_L1_ok k a0 _ _ ?h_ref01_FromDigits_L1_0 ?hr_ref01_FromDigits_L1 k 0 0
      · intro y14 y15
        refine et blk_exit <| kr ⟨[(2, (I y14)), (3, (I 0))], [], 39⟩ rfl <| et k_lret ?_
        rfl
      · intro s; exact rfl
def ref01_Dec_fin : Str → V × List V := fun r => ((Sr r), [])
theorem ref01_Dec_ok (k : Nat) (a0 : Int) : EV k 58 [(I a0)] = (ref01_Dec k a0).map ref01_Dec_fin := by
  induction k generalizing a0 with
  | zero => intros; rfl
  | succ k ih =>
    unfold ref01_Dec
    refine et (evF_succ (c := f58c) (N := 41) (regs := f58n) rfl func58 rfl (by decide) rfl rfl rfl) <| kra [] rfl <| et (k_block rfl) <| kga f58a1 rfl (fun (o1 : Bool) => [(3, (Bo o1))]) ?_ fun o1 => ?_
    · refine rd 3 [(4, (I a0)), (5, (Bo (decide (a0 < 0)))), (6, (Bo (decide (a0 < 0))))] rfl rfl <| bifE (fun hc => ?_) fun hc => ?_
      · rw [hc]
        exact reg_end rfl
      · rw [hc]
        exact reg_end rfl
    refine kcl rfl rfl (fun hc => ?_) fun hc => ?_
    · rw [hc]
      refine kg f58a2 rfl (fun (o4 : Str) => ⟨[(2, (Sr o4))], [], 41⟩) (rd 2 [(10, (I a0)), (11, (I (Go.IntKind.wrap .i64 (0 - a0))))] rfl rfl <| rp rfl (p_call rfl rfl rfl rfl rfl (ih (Go.IntKind.wrap .i64 (0 - a0))) (.inl rfl)) fun v2 => bd 3 [(12, (Sr v2))] rfl rfl <| rs rfl (p_cat rfl rfl rfl) fun v3 => bind_end rfl) fun o4 => et k_lret <| et blk_ret ?_
      rfl
    · rw [hc]
      refine kr ⟨[(0, (I a0)), (14, (Bo (decide (a0 < 0))))], [], 41⟩ rfl <| kcl rfl rfl (fun hc => ?_) fun hc => ?_
      · rw [hc]
        refine kg f58a4 rfl (fun (o10 : Str) => ⟨[(2, (Sr o10))], [], 41⟩) (rd 1 [(17, (I a0))] rfl rfl <| rp rfl (p_quo rfl rfl rfl) fun v5 => bd 2 [(18, (I v5))] rfl rfl <| rp rfl (p_call rfl rfl rfl rfl rfl (ih v5) (.inl rfl)) fun v6 => bd 4 [(19, (Sr v6)), (20, (I a0))] rfl rfl <| rp rfl (p_rem rfl rfl rfl) fun v7 => bd 6 [(21, (I v7)), (22, (I (Go.IntKind.wrap .i64 (0 - v7))))] rfl rfl <| rp rfl (p_call rfl rfl rfl rfl rfl (ih (Go.IntKind.wrap .i64 (0 - v7))) (.inl rfl)) fun v8 => bd 7 [(23, (Sr v8))] rfl rfl <| rs rfl (p_cat rfl rfl rfl) fun v9 => bind_end rfl) fun o10 => et k_lret <| et blk_ret ?_
        rfl
      · rw [hc]
        refine kr ⟨[(0, (I a0)), (25, (Bo (decide (a0 < 10))))], [], 41⟩ rfl <| kcl rfl rfl (fun hc => ?_) fun hc => ?_
        · rw [hc]
          refine kg f58a6 rfl (fun (o12 : Str) => ⟨[(2, (Sr o12))], [], 41⟩) (rd 3 [(28, (I a0)), (29, (I (Go.IntKind.wrap .i64 (48 + a0)))), (30, (V.int .i32 (Go.IntKind.wrap .i32 (Go.IntKind.wrap .i64 (48 + a0)))))] rfl rfl <| rs rfl (p_convIS rfl rfl underlying21 underlying9) fun v11 => bind_end rfl) fun o12 => et k_lret <| et blk_ret ?_
          rfl
        · rw [hc]
          refine et k_lskip <| et blk_normal <| kg f58a7 rfl (fun (o18 : Str) => ⟨[(2, (Sr o18))], [], 41⟩) (rd 1 [(32, (I a0))] rfl rfl <| rp rfl (p_quo rfl rfl rfl) fun v13 => bd 2 [(33, (I v13))] rfl rfl <| rp rfl (p_call rfl rfl rfl rfl rfl (ih v13) (.inl rfl)) fun v14 => bd 4 [(34, (Sr v14)), (35, (I a0))] rfl rfl <| rp rfl (p_rem rfl rfl rfl) fun v15 => bd 7 [(36, (I v15)), (37, (I (Go.IntKind.wrap .i64 (48 + v15)))), (38, (V.int .i32 (Go.IntKind.wrap .i32 (Go.IntKind.wrap .i64 (48 + v15)))))] rfl rfl <| rp rfl (p_convIS rfl rfl underlying21 underlying9) fun v16 => bd 8 [(39, (Sr v16))] rfl rfl <| rs rfl (p_cat rfl rfl rfl) fun v17 => bind_end rfl) fun o18 => et k_lret ?_
          rfl
def ref01_Digits_fin : (Str × Int) → V × List V := fun r => (.tup [(Sr r.1), (I r.2)], [])
theorem ref01_Digits_L1_ok (k : Nat) (a0 : Int) (a1 : Int)  (K0 : Str → Option (Str × Int)) (Kst : X × St → Option (V × List V)) (hK0 : ∀ (y0 : Str), Kst (X.exit 0, ⟨[(1, (I a1)), (6, (Sr y0)), (29, (Bo false))], [], 33⟩) = (K0 y0).map ref01_Digits_fin) (hret : ∀ s, Kst (X.ret, s) = endK prog 33 [(I a0), (I a1)] [] [.tmp 4, .tmp 5] (X.ret, s)) :
    ∀ (m : Nat) (x7 : Str), (iter (exec prog (EV k) f47n k f47b0) m ⟨[(1, (I a1)), (6, (Sr x7))], [], 33⟩).bind Kst = (ref01_Digits_L1 a1 K0 m x7).map ref01_Digits_fin := by
  intro m
  induction m with
  | zero => intros; rfl
  | succ m ih =>
    intro x7
    unfold ref01_Digits_L1
    refine et k_round <| et k_assoc <| kra [(29, (Bo (decide ((x7.length : Int) < a1))))] rfl <| kc rfl rfl (fun hc => ?_) fun hc => ?_
    · rw [hc]
      exact et k_skip <| et (k_lblock rfl) <| kgl f47a5 rfl (fun (o9 : Str) => ⟨[(1, (I a1)), (6, (Sr o9))], [], 33⟩) (rd 1 [(30, (Sr x7))] rfl rfl <| rs rfl (p_cat rfl rfl rfl) fun v8 => bind_end rfl) fun o9 => et blk_normal <| et k_lskip <| et loop_normal <| ih o9
    · rw [hc]
      exact et k_exit <| et loop_exit <| hK0 x7
theorem ref01_Digits_ok (k : Nat) (a0 : Int) (a1 : Int) : EV k 47 [(I a0), (I a1)] = (ref01_Digits k a0 a1).map ref01_Digits_fin := by
  cases k with
  | zero => rfl
  | succ k =>
    unfold ref01_Digits
    refine et (evF_succ (c := f47c) (N := 33) (regs := f47n) rfl func47 rfl (by decide) rfl rfl rfl) <| kra [] rfl <| et k_assoc <| kga f47a1 rfl (fun (o2 : Bool) => [(23, (Bo o2))]) ?_ fun o2 => ?_
    · refine rd 3 [(7, (I a0)), (8, (Bo (decide (a0 < 0)))), (9, (Bo (decide (a0 < 0))))] rfl rfl <| bifE (fun hc => ?_) fun hc => ?_
      · rw [hc]
        exact reg_end rfl
      · rw [hc]
        refine rd 7 [(10, (I a1)), (11, (Bo (decide (a1 < 1)))), (12, (Bo (decide (a1 < 1)))), (13, (Bo (decide (a1 < 1))))] rfl rfl <| bifE (fun hc => ?_) fun hc => ?_
        · rw [hc]
          exact reg_end rfl
        · rw [hc]
          refine rd 11 [(14, (I a1)), (15, (Bo (decide (a1 > 9)))), (16, (Bo (decide (a1 > 9)))), (17, (Bo (decide (a1 > 9))))] rfl rfl <| bifE (fun hc => ?_) fun hc => ?_
          · rw [hc]
            exact reg_end rfl
          · rw [hc]
            exact rd 12 [(18, (I a0))] rfl rfl <| rp rfl (p_call rfl rfl rfl rfl rfl (ref01_Dec_ok k a0) (.inl rfl)) fun v1 => bind_end rfl
    refine kc rfl rfl (fun hc => ?_) fun hc => ?_
    · rw [hc]
      refine et k_assoc <| kr ⟨[(4, (Sr ([] : Str))), (5, (I 2))], [], 33⟩ rfl <| et k_ret ?_
      rfl
    · rw [hc]
      refine et k_skip <| kg f47a3 rfl (fun (o4 : Str) => ⟨[(1, (I a1)), (6, (Sr o4))], [], 33⟩) (rd 1 [(24, (I a0))] rfl rfl <| rs rfl (p_call rfl rfl rfl rfl rfl (ref01_Dec_ok k a0) (.inl rfl)) fun v3 => bind_end rfl) fun o4 => et (k_block rfl) <| et k_loop ?_
      refine ref01_Digits_L1_ok k a0 a1 _ _ ?h_ref01_Digits_L1_0 ?hr_ref01_Digits_L1 k o4
      · intro y10
        refine et blk_exit <| kr ⟨[(4, (Sr y10)), (5, (I 0))], [], 33⟩ rfl <| et k_lret ?_
        rfl
      · intro s; exact rfl
def law01_OctetDigits_fin : Bool → V × List V := fun r => ((Bo r), [])
theorem law01_OctetDigits_ok (k : Nat) (a0 : Str) (a1 : T_arr3_Int) : EV k 9 [(Sr a0), (eInt a1)] = (law01_OctetDigits k a0 a1).map law01_OctetDigits_fin := by
  cases k with
  | zero => rfl
  | succ k =>
    unfold law01_OctetDigits
    refine et (evF_succ (c := f9c) (N := 115) (regs := f9n) rfl func9 rfl (by decide) rfl rfl rfl) <| kr ⟨[(0, (Sr a0)), (3, (Pt 3))], [(3, vS 3 (eInt a1))], 115⟩ rfl <| et k_assoc <| kra [(15, (Bo (decide ((a0.length : Int) > 300))))] rfl <| kc rfl rfl (fun hc => ?_) fun hc => ?_
    · rw [hc]
      refine et k_assoc <| kg f9a2 rfl (fun (o2 : Bool) => ⟨[(4, (Bo o2))], [], 115⟩) (rs rfl (p_call rfl rfl rfl rfl rfl (law01_First_ok k) (.inl rfl)) fun v1 => bind_end rfl) fun o2 => et k_ret ?_
      rfl
    · rw [hc]
      refine et k_skip <| kg f9a3 rfl (fun (o4 : Str × Int) => ⟨[(0, (Sr a0)), (3, (Pt 3)), (5, (Sr o4.1)), (6, (I o4.2))], [(3, vS 3 (eInt a1))], 115⟩) (rd 3 [(18, (Sr a0)), (19, (Pt 3)), (20, (I a1.e0))] rfl rfl <| rp rfl (p_call rfl rfl rfl rfl rfl (octet_Pad_ok k a0 a1.e0) (.inl rfl)) fun v3 => bind_end rfl) fun o4 => kga f9a4 rfl (fun (o6 : Str × Int) => [(7, (Sr o6.1)), (8, (I o6.2))]) (rd 3 [(25, (Sr a0)), (26, (Pt 3)), (27, (I a1.e0))] rfl rfl <| rp rfl (p_call rfl rfl rfl rfl rfl (ref01_Pad_ok k a0 a1.e0) (.inl rfl)) fun v5 => bind_end rfl) fun o6 => et k_assoc <| kg f9a5 rfl (fun (o13 : Bool) => ⟨[(0, (Sr a0)), (3, (Pt 3)), (56, (Bo o13))], [(3, vS 3 (eInt a1))], 115⟩) ?_ fun o13 => ?_
      · refine rd 4 [(31, (Sr o4.1)), (32, (Sr o6.1)), (33, (Bo (!(o4.1 == o6.1)))), (34, (Bo (!(o4.1 == o6.1))))] rfl rfl <| bifE (fun hc => ?_) fun hc => ?_
        · rw [hc]
          exact reg_end rfl
        · rw [hc]
          refine rd 9 [(35, (I o4.2)), (36, (I o6.2)), (37, (Bo (o4.2 != o6.2))), (38, (Bo (o4.2 != o6.2))), (39, (Bo (o4.2 != o6.2)))] rfl rfl <| bifE (fun hc => ?_) fun hc => ?_
          · rw [hc]
            exact reg_end rfl
          · rw [hc]
            refine rd 12 [(40, (I o4.2)), (41, (Bo (o4.2 == 0))), (42, (Bo (o4.2 == 0)))] rfl rfl <| bifE (fun hc => ?_) fun hc => ?_
            · rw [hc]
              refine rd 13 [(43, (Sr o4.1))] rfl rfl <| rp rfl (p_call rfl rfl rfl rfl rfl (octet_Trim_ok k o4.1) (.inl rfl)) fun v7 => bd 15 [(44, (Sr v7)), (45, (Sr a0))] rfl rfl <| rp rfl (p_call rfl rfl rfl rfl rfl (octet_Trim_ok k a0) (.inl rfl)) fun v8 => bd 20 [(46, (Sr v8)), (47, (Bo (!(v7 == v8)))), (48, (Bo (!(v7 == v8)))), (49, (Bo (!(v7 == v8)))), (50, (Bo (!(v7 == v8))))] rfl rfl <| bifE (fun hc => ?_) fun hc => ?_
              · rw [hc]
                exact reg_end rfl
              · rw [hc]
                exact rd 21 [(51, (Sr a0))] rfl rfl <| rp rfl (p_call rfl rfl rfl rfl rfl (octet_Trim_ok k a0) (.inl rfl)) fun v9 => bd 23 [(52, (Sr v9)), (53, (Sr a0))] rfl rfl <| rp rfl (p_call rfl rfl rfl rfl rfl (ref01_Trim_ok k a0) (.inl rfl)) fun v10 => bind_end rfl
            · rw [hc]
              exact rd 21 [(43, (V.tup [])), (44, (V.tup [])), (45, (V.tup [])), (46, (V.tup [])), (47, (V.tup [])), (48, (Bo false)), (49, (Bo false)), (50, (Bo false)), (51, (Sr a0))] rfl rfl <| rp rfl (p_call rfl rfl rfl rfl rfl (octet_Trim_ok k a0) (.inl rfl)) fun v11 => bd 23 [(52, (Sr v11)), (53, (Sr a0))] rfl rfl <| rp rfl (p_call rfl rfl rfl rfl rfl (ref01_Trim_ok k a0) (.inl rfl)) fun v12 => bind_end rfl
      refine kc rfl rfl (fun hc => ?_) fun hc => ?_
      · rw [hc]
        refine et k_assoc <| kr ⟨[(4, (Bo false))], [], 115⟩ rfl <| et k_ret ?_
        rfl
      · rw [hc]
        refine et k_skip <| kg f9a7 rfl (fun (o15 : Int × Int) => ⟨[(0, (Sr a0)), (3, (Pt 3)), (6, (I o15.1)), (9, (I o15.2))], [(3, vS 3 (eInt a1))], 115⟩) (rd 1 [(58, (Sr a0))] rfl rfl <| rp rfl (p_call rfl rfl rfl rfl rfl (octet_FromDigits_ok k a0) (.inl rfl)) fun v14 => bind_end rfl) fun o15 => kg f9a8 rfl (fun (o17 : Int × Int) => ⟨[(3, (Pt 3)), (6, (I o15.1)), (8, (I o17.1)), (9, (I o15.2)), (10, (I o17.2))], [(3, vS 3 (eInt a1))], 115⟩) (rd 1 [(63, (Sr a0))] rfl rfl <| rp rfl (p_call rfl rfl rfl rfl rfl (ref01_FromDigits_ok k a0) (.inl rfl)) fun v16 => bind_end rfl) fun o17 => et k_assoc <| kg f9a9 rfl (fun (o18 : Bool) => ⟨[(3, (Pt 3)), (74, (Bo o18))], [(3, vS 3 (eInt a1))], 115⟩) ?_ fun o18 => ?_
        · refine rd 4 [(67, (I o15.2)), (68, (I o17.2)), (69, (Bo (o15.2 != o17.2))), (70, (Bo (o15.2 != o17.2)))] rfl rfl <| bifE (fun hc => ?_) fun hc => ?_
          · rw [hc]
            exact reg_end rfl
          · rw [hc]
            exact reg_end rfl
        refine kc rfl rfl (fun hc => ?_) fun hc => ?_
        · rw [hc]
          refine et k_assoc <| kr ⟨[(4, (Bo false))], [], 115⟩ rfl <| et k_ret ?_
          rfl
        · rw [hc]
          refine et k_skip <| kg f9a11 rfl (fun (o20 : Str × Int) => ⟨[(3, (Pt 3)), (5, (Sr o20.1)), (6, (I o20.2))], [(3, vS 3 (eInt a1))], 115⟩) (rd 4 [(76, (V.ptr 3 0 1)), (77, (I a1.e1)), (78, (V.ptr 3 0 2)), (79, (I a1.e2))] rfl rfl <| rp rfl (p_call rfl rfl rfl rfl rfl (octet_Digits_ok k a1.e1 a1.e2) (.inl rfl)) fun v19 => bind_end rfl) fun o20 => kga f9a12 rfl (fun (o22 : Str × Int) => [(7, (Sr o22.1)), (8, (I o22.2))]) (rd 4 [(84, (V.ptr 3 0 1)), (85, (I a1.e1)), (86, (V.ptr 3 0 2)), (87, (I a1.e2))] rfl rfl <| rp rfl (p_call rfl rfl rfl rfl rfl (ref01_Digits_ok k a1.e1 a1.e2) (.inl rfl)) fun v21 => bind_end rfl) fun o22 => et k_assoc <| kg f9a13 rfl (fun (o23 : Bool) => ⟨[(3, (Pt 3)), (5, (Sr o20.1)), (6, (I o20.2)), (98, (Bo o23))], [(3, vS 3 (eInt a1))], 115⟩) ?_ fun o23 => ?_
          · refine rd 4 [(91, (Sr o20.1)), (92, (Sr o22.1)), (93, (Bo (!(o20.1 == o22.1)))), (94, (Bo (!(o20.1 == o22.1))))] rfl rfl <| bifE (fun hc => ?_) fun hc => ?_
            · rw [hc]
              exact reg_end rfl
            · rw [hc]
              exact reg_end rfl
          refine kc rfl rfl (fun hc => ?_) fun hc => ?_
          · rw [hc]
            refine et k_assoc <| kr ⟨[(4, (Bo false))], [], 115⟩ rfl <| et k_ret ?_
            rfl
          · rw [hc]
            refine et k_skip <| et k_assoc <| kr ⟨[(3, (Pt 3)), (5, (Sr o20.1)), (100, (Bo (o20.2 == 0)))], [(3, vS 3 (eInt a1))], 115⟩ rfl <| kc rfl rfl (fun hc => ?_) fun hc => ?_
            · rw [hc]
              refine et k_assoc <| kg f9a16 rfl (fun (o25 : Int × Int) => ⟨[(3, (Pt 3)), (11, (I o25.1)), (12, (I o25.2))], [(3, vS 3 (eInt a1))], 115⟩) (rd 1 [(102, (Sr o20.1))] rfl rfl <| rp rfl (p_call rfl rfl rfl rfl rfl (octet_FromDigits_ok k o20.1) (.inl rfl)) fun v24 => bind_end rfl) fun o25 => et k_assoc <| kg f9a17 rfl (fun (o26 : Bool) => ⟨[(113, (Bo o26))], [], 115⟩) ?_ fun o26 => ?_
              · refine rd 3 [(106, (I o25.2)), (107, (Bo (o25.2 != 0))), (108, (Bo (o25.2 != 0)))] rfl rfl <| bifE (fun hc => ?_) fun hc => ?_
                · rw [hc]
                  exact reg_end rfl
                · rw [hc]
                  exact reg_end rfl
              refine kc rfl rfl (fun hc => ?_) fun hc => ?_
              · rw [hc]
                refine et k_assoc <| kr ⟨[(4, (Bo false))], [], 115⟩ rfl <| et k_ret ?_
                rfl
              · rw [hc]
                refine et k_skip <| kg f9a19 rfl (fun (o28 : Bool) => ⟨[(4, (Bo o28))], [], 115⟩) (rs rfl (p_call rfl rfl rfl rfl rfl (law01_First_ok k) (.inl rfl)) fun v27 => bind_end rfl) fun o28 => et k_lret ?_
                rfl
            · rw [hc]
              refine et k_skip <| kg f9a19 rfl (fun (o30 : Bool) => ⟨[(4, (Bo o30))], [], 115⟩) (rs rfl (p_call rfl rfl rfl rfl rfl (law01_First_ok k) (.inl rfl)) fun v29 => bind_end rfl) fun o30 => et k_lret ?_
              rfl
end
end Go.AE
