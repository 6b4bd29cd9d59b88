/- The program, function by function: the evaluator comes to the typed functions. Conditions: none. -/
import Derived.Test.YteecoopnleidaaaDoorA3
import Derived.KernelRfl
import Derived.Test.YteecoopnleidaaaDoorProg
import Derived.Test.YteecoopnleidaaaDoorB1
namespace Go.AE
open Go.Proofs.Tryd Go.Sh
set_option linter.unusedSimpArgs false
set_option linter.unusedVariables false
set_option maxRecDepth 100000
set_option maxHeartbeats 4000000
noncomputable section
abbrev Pt (n : Nat) : V := .ptr n 0 0
abbrev Bo (b : Bool) : V := .bool b
abbrev Sr (s : Str) : V := .str s
abbrev Pr (v : V) : V := .pro v
abbrev sS (l : List Str) : V := .sl 0 1 (List.map V.str l)
abbrev vS (n : Nat) (v : V) : Site := ⟨false, n, [v]⟩
abbrev aL {α : Type} (d : Nat) (e : α → V) (l : List α) : V := .aref d 0 (List.map e l).length
def eInt (a : T_arr2_Int) : V := .agg [(V.int .i64 a.e0), (V.int .i64 a.e1)]
noncomputable def f10o0 : Array Oper := cO (cL (cB f10))
def f10a0 : RAnn := ⟨[2], []⟩
noncomputable def f10o1 : Array Oper := cO (cL (cL (cR (cB f10))))
def f10a1 : RAnn := ⟨[], []⟩
noncomputable def f10o2 : Array Oper := cO (cL (cL (cL (cL (cR (cL (cR (cB f10))))))))
def f10a2 : RAnn := ⟨[4, 5, 6], []⟩
noncomputable def f10o3 : Array Oper := cO (cR (cR (cL (cL (cR (cL (cR (cB f10))))))))
def f10a3 : RAnn := ⟨[8, 9, 15], []⟩
noncomputable def f10o4 : Array Oper := cO (cL (cL (cL (cR (cL (cL (cR (cL (cR (cB f10))))))))))
def f10a4 : RAnn := ⟨[7, 10, 11, 12, 13, 14], []⟩
noncomputable def f10o5 : Array Oper := cO (cL (cL (cR (cL (cL (cR (cL (cL (cR (cL (cR (cB f10))))))))))))
def f10a5 : RAnn := ⟨[0, 3, 15], []⟩
noncomputable def f10o6 : Array Oper := cO (cL (cR (cR (cB f10))))
def f10a6 : RAnn := ⟨[0, 3, 7, 16, 17, 18], []⟩
def f10b0 : Code := (.seq (.seq (.region 2 f10o2 false) (.cond (.tmp 7) .skip (.exit 0))) (.seq (.block 1 (.seq (.region 4 f10o4 false) (.cond (.tmp 15) (.seq (.region 5 f10o5 false) .ret) .skip))) (.region 3 f10o3 false)))
def f10c : Code := (.seq (.region 0 f10o0 false) (.seq (.seq (.region 1 f10o1 false) (.block 0 (.loop f10b0))) (.seq (.region 6 f10o6 false) .ret)))
def f10n : List (Nat × RAnn) := [(0, f10a0), (1, f10a1), (2, f10a2), (3, f10a3), (4, f10a4), (5, f10a5), (6, f10a6)]
noncomputable def f19o0 : Array Oper := cO (cL (cB f19))
def f19a0 : RAnn := ⟨[2, 3], []⟩
noncomputable def f19o1 : Array Oper := cO (cL (cL (cR (cB f19))))
def f19a1 : RAnn := ⟨[4, 5], []⟩
noncomputable def f19o2 : Array Oper := cO (cL (cL (cR (cL (cR (cB f19))))))
def f19a2 : RAnn := ⟨[0, 6], []⟩
noncomputable def f19o3 : Array Oper := cO (cL (cR (cR (cB f19))))
def f19a3 : RAnn := ⟨[0, 6, 7, 8, 9, 10, 11, 12], [(3, { keep := [0] }), (5, { tk := [10] })]⟩
def f19c : Code := (.seq (.region 0 f19o0 false) (.seq (.seq (.region 1 f19o1 false) (.cond (.tmp 6) (.seq (.region 2 f19o2 false) .ret) .skip)) (.seq (.region 3 f19o3 false) .ret)))
def f19n : List (Nat × RAnn) := [(0, f19a0), (1, f19a1), (2, f19a2), (3, f19a3)]
noncomputable def f17o0 : Array Oper := cO (cL (cB f17))
def f17a0 : RAnn := ⟨[2, 3], []⟩
noncomputable def f17o1 : Array Oper := cO (cL (cL (cR (cB f17))))
def f17a1 : RAnn := ⟨[4, 5, 6, 7, 8], []⟩
noncomputable def f17o2 : Array Oper := cO (cL (cL (cR (cL (cR (cB f17))))))
def f17a2 : RAnn := ⟨[0, 9], []⟩
noncomputable def f17o3 : Array Oper := cO (cL (cR (cR (cB f17))))
def f17a3 : RAnn := ⟨[0, 9, 10, 11, 12, 13, 14, 15, 16, 17, 18, 19, 20, 21], []⟩
def f17c : Code := (.seq (.region 0 f17o0 false) (.seq (.seq (.region 1 f17o1 false) (.cond (.tmp 9) (.seq (.region 2 f17o2 false) .ret) .skip)) (.seq (.region 3 f17o3 false) .ret)))
def f17n : List (Nat × RAnn) := [(0, f17a0), (1, f17a1), (2, f17a2), (3, f17a3)]
noncomputable def f46o0 : Array Oper := cO (cL (cB f46))
def f46a0 : RAnn := ⟨[4, 5], []⟩
noncomputable def f46o1 : Array Oper := cO (cL (cR (cB f46)))
def f46a1 : RAnn := ⟨[7, 8], []⟩
noncomputable def f46o2 : Array Oper := cO (cL (cL (cR (cR (cB f46)))))
def f46a2 : RAnn := ⟨[0, 9, 10, 11, 12, 13, 14, 15, 16, 17, 18, 19, 20, 21, 22, 23], []⟩
noncomputable def f46o3 : Array Oper := cO (cL (cL (cR (cL (cR (cR (cB f46)))))))
def f46a3 : RAnn := ⟨[1, 6, 24], []⟩
noncomputable def f46o4 : Array Oper := cO (cL (cR (cR (cR (cB f46)))))
def f46a4 : RAnn := ⟨[1, 6, 24, 25, 26, 27, 28, 29, 30, 31], []⟩
def f46c : Code := (.seq (.region 0 f46o0 false) (.seq (.region 1 f46o1 false) (.seq (.seq (.region 2 f46o2 false) (.cond (.tmp 24) (.seq (.region 3 f46o3 false) .ret) .skip)) (.seq (.region 4 f46o4 false) .ret))))
def f46n : List (Nat × RAnn) := [(0, f46a0), (1, f46a1), (2, f46a2), (3, f46a3), (4, f46a4)]
noncomputable def f40o0 : Array Oper := cO (cL (cB f40))
def f40a0 : RAnn := ⟨[4, 5], []⟩
noncomputable def f40o1 : Array Oper := cO (cL (cL (cR (cB f40))))
def f40a1 : RAnn := ⟨[6, 7, 8, 9, 10, 11, 12], []⟩
noncomputable def f40o2 : Array Oper := cO (cL (cL (cR (cL (cR (cB f40))))))
def f40a2 : RAnn := ⟨[0, 1, 13], []⟩
noncomputable def f40o3 : Array Oper := cO (cL (cR (cR (cB f40))))
def f40a3 : RAnn := ⟨[0, 1, 13, 14, 15, 16, 17, 18, 19, 20], []⟩
def f40c : Code := (.seq (.region 0 f40o0 false) (.seq (.seq (.region 1 f40o1 false) (.cond (.tmp 13) (.seq (.region 2 f40o2 false) .ret) .skip)) (.seq (.region 3 f40o3 false) .ret)))
def f40n : List (Nat × RAnn) := [(0, f40a0), (1, f40a1), (2, f40a2), (3, f40a3)]
noncomputable def f14o0 : Array Oper := cO (cL (cB f14))
def f14a0 : RAnn := ⟨[2], []⟩
noncomputable def f14o1 : Array Oper := cO (cL (cR (cB f14)))
def f14a1 : RAnn := ⟨[], [(0, { keep := [0] })]⟩
noncomputable def f14o2 : Array Oper := cO (cL (cL (cR (cR (cB f14)))))
def f14a2 : RAnn := ⟨[0], []⟩
noncomputable def f14o3 : Array Oper := cO (cL (cL (cL (cR (cL (cR (cR (cB f14))))))))
def f14a3 : RAnn := ⟨[], []⟩
noncomputable def f14o4 : Array Oper := cO (cL (cL (cL (cR (cR (cL (cL (cR (cL (cR (cR (cB f14))))))))))))
def f14a4 : RAnn := ⟨[9, 10, 11], []⟩
noncomputable def f14o5 : Array Oper := cO (cL (cR (cL (cL (cR (cR (cL (cL (cR (cL (cR (cR (cB f14)))))))))))))
def f14a5 : RAnn := ⟨[5, 12, 13, 14, 15], [(0, { tk := [3], keep := [0] }), (3, { tk := [12], keep := [0] }), (4, { tk := [15], keep := [0] })]⟩
noncomputable def f14o6 : Array Oper := cO (cR (cR (cL (cL (cR (cR (cL (cL (cR (cL (cR (cR (cB f14)))))))))))))
def f14a6 : RAnn := ⟨[16, 17, 18], [(0, { tk := [3], keep := [0] }), (2, { tk := [16], keep := [0] }), (3, { tk := [18], keep := [0] })]⟩
noncomputable def f14o7 : Array Oper := cO (cR (cR (cR (cL (cL (cR (cL (cR (cR (cB f14))))))))))
def f14a7 : RAnn := ⟨[19], []⟩
noncomputable def f14o8 : Array Oper := cO (cL (cR (cR (cR (cB f14)))))
def f14a8 : RAnn := ⟨[3, 6, 7, 8, 9, 20], []⟩
def f14b0 : Code := (.seq (.region 3 f14o3 false) (.seq (.cond (.tmp 9) .skip (.exit 0)) (.seq (.block 1 (.seq (.region 4 f14o4 false) (.seq (.region 5 f14o5 false) (.region 6 f14o6 false)))) (.region 7 f14o7 false))))
def f14c : Code := (.seq (.region 0 f14o0 false) (.seq (.region 1 f14o1 false) (.seq (.seq (.region 2 f14o2 false) (.block 0 (.loop f14b0))) (.seq (.region 8 f14o8 false) .ret))))
def f14n : List (Nat × RAnn) := [(0, f14a0), (1, f14a1), (2, f14a2), (3, f14a3), (4, f14a4), (5, f14a5), (6, f14a6), (7, f14a7), (8, f14a8)]
noncomputable def f11o0 : Array Oper := cO (cL (cB f11))
def f11a0 : RAnn := ⟨[0], []⟩
noncomputable def f11o1 : Array Oper := cO (cL (cR (cB f11)))
def f11a1 : RAnn := ⟨[9, 10, 11, 12], []⟩
noncomputable def f11o2 : Array Oper := cO (cL (cR (cR (cB f11))))
def f11a2 : RAnn := ⟨[13, 14, 15, 16], []⟩
noncomputable def f11o3 : Array Oper := cO (cL (cR (cR (cR (cB f11)))))
def f11a3 : RAnn := ⟨[17, 18, 19, 20], []⟩
noncomputable def f11o4 : Array Oper := cO (cL (cR (cR (cR (cR (cB f11))))))
def f11a4 : RAnn := ⟨[21, 22, 23, 24], []⟩
noncomputable def f11o5 : Array Oper := cO (cL (cR (cR (cR (cR (cR (cB f11)))))))
def f11a5 : RAnn := ⟨[1, 2, 3, 4, 5, 6, 7, 8, 25, 26, 27, 28, 29, 30, 31, 32, 33, 34, 35, 36, 37, 38, 39, 40, 41, 42, 43, 44, 45, 46, 47, 48, 49, 50, 51, 52, 53, 54, 55, 56, 57, 58, 59, 60, 61, 62], []⟩
def f11c : Code := (.seq (.region 0 f11o0 false) (.seq (.region 1 f11o1 false) (.seq (.region 2 f11o2 false) (.seq (.region 3 f11o3 false) (.seq (.region 4 f11o4 false) (.seq (.region 5 f11o5 false) .ret))))))
def f11n : List (Nat × RAnn) := [(0, f11a0), (1, f11a1), (2, f11a2), (3, f11a3), (4, f11a4), (5, f11a5)]
noncomputable def f15o0 : Array Oper := cO (cL (cB f15))
def f15a0 : RAnn := ⟨[2, 3], []⟩
noncomputable def f15o1 : Array Oper := cO (cL (cL (cR (cB f15))))
def f15a1 : RAnn := ⟨[4, 5, 6, 7, 8], []⟩
noncomputable def f15o2 : Array Oper := cO (cL (cL (cR (cL (cR (cB f15))))))
def f15a2 : RAnn := ⟨[0, 9], []⟩
noncomputable def f15o3 : Array Oper := cO (cL (cR (cR (cB f15))))
def f15a3 : RAnn := ⟨[0, 9, 10, 11, 12], []⟩
def f15c : Code := (.seq (.region 0 f15o0 false) (.seq (.seq (.region 1 f15o1 false) (.cond (.tmp 9) (.seq (.region 2 f15o2 false) .ret) .skip)) (.seq (.region 3 f15o3 false) .ret)))
def f15n : List (Nat × RAnn) := [(0, f15a0), (1, f15a1), (2, f15a2), (3, f15a3)]
noncomputable def f16o0 : Array Oper := cO (cL (cB f16))
def f16a0 : RAnn := ⟨[2, 3], []⟩
noncomputable def f16o1 : Array Oper := cO (cL (cL (cR (cB f16))))
def f16a1 : RAnn := ⟨[4, 5, 6, 7, 8], []⟩
noncomputable def f16o2 : Array Oper := cO (cL (cL (cR (cL (cR (cB f16))))))
def f16a2 : RAnn := ⟨[0, 9], []⟩
noncomputable def f16o3 : Array Oper := cO (cL (cR (cR (cB f16))))
def f16a3 : RAnn := ⟨[0, 9, 10, 11, 12], []⟩
def f16c : Code := (.seq (.region 0 f16o0 false) (.seq (.seq (.region 1 f16o1 false) (.cond (.tmp 9) (.seq (.region 2 f16o2 false) .ret) .skip)) (.seq (.region 3 f16o3 false) .ret)))
def f16n : List (Nat × RAnn) := [(0, f16a0), (1, f16a1), (2, f16a2), (3, f16a3)]
noncomputable def f50o0 : Array Oper := cO (cL (cB f50))
def f50a0 : RAnn := ⟨[2], []⟩
noncomputable def f50o1 : Array Oper := cO (cL (cR (cB f50)))
def f50a1 : RAnn := ⟨[0, 3, 4, 5, 6, 7, 8, 9, 10, 11, 12, 13, 14, 15, 16, 17], []⟩
def f50c : Code := (.seq (.region 0 f50o0 false) (.seq (.region 1 f50o1 false) .ret))
def f50n : List (Nat × RAnn) := [(0, f50a0), (1, f50a1)]
noncomputable def f18o0 : Array Oper := cO (cL (cB f18))
def f18a0 : RAnn := ⟨[2, 3], []⟩
noncomputable def f18o1 : Array Oper := cO (cL (cL (cR (cB f18))))
def f18a1 : RAnn := ⟨[4, 5, 6, 7, 8], []⟩
noncomputable def f18o2 : Array Oper := cO (cL (cL (cR (cL (cR (cB f18))))))
def f18a2 : RAnn := ⟨[0, 9], []⟩
noncomputable def f18o3 : Array Oper := cO (cL (cR (cR (cB f18))))
def f18a3 : RAnn := ⟨[0, 9, 10, 11], []⟩
def f18c : Code := (.seq (.region 0 f18o0 false) (.seq (.seq (.region 1 f18o1 false) (.cond (.tmp 9) (.seq (.region 2 f18o2 false) .ret) .skip)) (.seq (.region 3 f18o3 false) .ret)))
def f18n : List (Nat × RAnn) := [(0, f18a0), (1, f18a1), (2, f18a2), (3, f18a3)]
noncomputable def f20o0 : Array Oper := cO (cL (cB f20))
def f20a0 : RAnn := ⟨[2, 3], []⟩
noncomputable def f20o1 : Array Oper := cO (cL (cL (cR (cB f20))))
def f20a1 : RAnn := ⟨[4, 5], []⟩
noncomputable def f20o2 : Array Oper := cO (cL (cL (cR (cL (cR (cB f20))))))
def f20a2 : RAnn := ⟨[0, 6], []⟩
noncomputable def f20o3 : Array Oper := cO (cL (cR (cR (cB f20))))
def f20a3 : RAnn := ⟨[0, 6, 7, 8, 9, 10, 11, 12], [(3, { keep := [0] }), (5, { tk := [10] })]⟩
def f20c : Code := (.seq (.region 0 f20o0 false) (.seq (.seq (.region 1 f20o1 false) (.cond (.tmp 6) (.seq (.region 2 f20o2 false) .ret) .skip)) (.seq (.region 3 f20o3 false) .ret)))
def f20n : List (Nat × RAnn) := [(0, f20a0), (1, f20a1), (2, f20a2), (3, f20a3)]
noncomputable def f21o0 : Array Oper := cO (cL (cB f21))
def f21a0 : RAnn := ⟨[2, 3], []⟩
noncomputable def f21o1 : Array Oper := cO (cL (cL (cR (cB f21))))
def f21a1 : RAnn := ⟨[9, 10], []⟩
noncomputable def f21o2 : Array Oper := cO (cL (cL (cR (cL (cR (cB f21))))))
def f21a2 : RAnn := ⟨[0, 11], []⟩
noncomputable def f21o3 : Array Oper := cO (cL (cR (cR (cB f21))))
def f21a3 : RAnn := ⟨[11, 12, 13, 14, 15], [(3, { keep := [0] }), (4, { tk := [15], keep := [0] })]⟩
noncomputable def f21o4 : Array Oper := cO (cL (cL (cR (cR (cR (cB f21))))))
def f21a4 : RAnn := ⟨[0], []⟩
noncomputable def f21o5 : Array Oper := cO (cL (cL (cL (cR (cL (cR (cR (cR (cB f21)))))))))
def f21a5 : RAnn := ⟨[], []⟩
noncomputable def f21o6 : Array Oper := cO (cL (cL (cL (cR (cR (cL (cL (cR (cL (cR (cR (cR (cB f21)))))))))))))
def f21a6 : RAnn := ⟨[19, 20, 21], []⟩
noncomputable def f21o7 : Array Oper := cO (cL (cR (cL (cL (cR (cR (cL (cL (cR (cL (cR (cR (cR (cB f21))))))))))))))
def f21a7 : RAnn := ⟨[6, 22, 23, 24, 25, 26], []⟩
noncomputable def f21o8 : Array Oper := cO (cL (cL (cR (cR (cL (cL (cR (cR (cL (cL (cR (cL (cR (cR (cR (cB f21))))))))))))))))
def f21a8 : RAnn := ⟨[27], []⟩
noncomputable def f21o9 : Array Oper := cO (cL (cL (cR (cL (cR (cR (cL (cL (cR (cR (cL (cL (cR (cL (cR (cR (cR (cB f21))))))))))))))))))
def f21a9 : RAnn := ⟨[4, 7, 8, 16, 17, 18, 28, 29], []⟩
noncomputable def f21o10 : Array Oper := cO (cR (cR (cR (cL (cL (cR (cR (cL (cL (cR (cL (cR (cR (cR (cB f21)))))))))))))))
def f21a10 : RAnn := ⟨[7, 8, 28, 30, 31, 32], [(0, { tk := [4], keep := [0] }), (2, { tk := [30], keep := [0] }), (3, { tk := [32], keep := [0] })]⟩
noncomputable def f21o11 : Array Oper := cO (cR (cR (cR (cL (cL (cR (cL (cR (cR (cR (cB f21)))))))))))
def f21a11 : RAnn := ⟨[33], []⟩
noncomputable def f21o12 : Array Oper := cO (cL (cR (cR (cR (cR (cB f21))))))
def f21a12 : RAnn := ⟨[4, 16, 17, 18, 19, 34], []⟩
def f21b0 : Code := (.seq (.region 5 f21o5 false) (.seq (.cond (.tmp 19) .skip (.exit 0)) (.seq (.block 1 (.seq (.region 6 f21o6 false) (.seq (.region 7 f21o7 false) (.seq (.seq (.region 8 f21o8 false) (.cond (.tmp 28) (.seq (.region 9 f21o9 false) .ret) .skip)) (.region 10 f21o10 false))))) (.region 11 f21o11 false))))
def f21c : Code := (.seq (.region 0 f21o0 false) (.seq (.seq (.region 1 f21o1 false) (.cond (.tmp 11) (.seq (.region 2 f21o2 false) .ret) .skip)) (.seq (.region 3 f21o3 false) (.seq (.seq (.region 4 f21o4 false) (.block 0 (.loop f21b0))) (.seq (.region 12 f21o12 false) .ret)))))
def f21n : List (Nat × RAnn) := [(0, f21a0), (1, f21a1), (2, f21a2), (3, f21a3), (4, f21a4), (5, f21a5), (6, f21a6), (7, f21a7), (8, f21a8), (9, f21a9), (10, f21a10), (11, f21a11), (12, f21a12)]
noncomputable def f22o0 : Array Oper := cO (cL (cB f22))
def f22a0 : RAnn := ⟨[2, 3], []⟩
noncomputable def f22o1 : Array Oper := cO (cL (cL (cR (cB f22))))
def f22a1 : RAnn := ⟨[8, 9], []⟩
noncomputable def f22o2 : Array Oper := cO (cL (cL (cR (cL (cR (cB f22))))))
def f22a2 : RAnn := ⟨[0, 10], []⟩
noncomputable def f22o3 : Array Oper := cO (cL (cR (cR (cB f22))))
def f22a3 : RAnn := ⟨[10, 11, 12, 13, 14], [(3, { keep := [0] }), (4, { tk := [14], keep := [0] })]⟩
noncomputable def f22o4 : Array Oper := cO (cL (cL (cR (cR (cR (cB f22))))))
def f22a4 : RAnn := ⟨[], []⟩
noncomputable def f22o5 : Array Oper := cO (cL (cL (cL (cL (cR (cL (cR (cR (cR (cB f22))))))))))
def f22a5 : RAnn := ⟨[15, 16, 17], []⟩
noncomputable def f22o6 : Array Oper := cO (cR (cR (cL (cL (cR (cL (cR (cR (cR (cB f22))))))))))
def f22a6 : RAnn := ⟨[19, 20], []⟩
noncomputable def f22o7 : Array Oper := cO (cL (cL (cL (cR (cL (cL (cR (cL (cR (cR (cR (cB f22))))))))))))
def f22a7 : RAnn := ⟨[18, 21, 22, 23, 24, 25, 26, 27, 28], []⟩
noncomputable def f22o8 : Array Oper := cO (cL (cL (cR (cL (cL (cR (cL (cL (cR (cL (cR (cR (cR (cB f22))))))))))))))
def f22a8 : RAnn := ⟨[29], []⟩
noncomputable def f22o9 : Array Oper := cO (cL (cL (cR (cL (cR (cL (cL (cR (cL (cL (cR (cL (cR (cR (cR (cB f22))))))))))))))))
def f22a9 : RAnn := ⟨[0, 4, 5, 6, 7, 30, 31], []⟩
noncomputable def f22o10 : Array Oper := cO (cR (cR (cL (cL (cR (cL (cL (cR (cL (cR (cR (cR (cB f22)))))))))))))
def f22a10 : RAnn := ⟨[6, 7, 30, 32, 33, 34], [(0, { tk := [4], keep := [0] }), (2, { tk := [32], keep := [0] }), (3, { tk := [34], keep := [0] })]⟩
noncomputable def f22o11 : Array Oper := cO (cL (cR (cR (cR (cR (cB f22))))))
def f22a11 : RAnn := ⟨[0, 4, 5, 18, 35], []⟩
def f22b0 : Code := (.seq (.seq (.region 5 f22o5 false) (.cond (.tmp 18) .skip (.exit 0))) (.seq (.block 1 (.seq (.region 7 f22o7 false) (.seq (.seq (.region 8 f22o8 false) (.cond (.tmp 30) (.seq (.region 9 f22o9 false) .ret) .skip)) (.region 10 f22o10 false)))) (.region 6 f22o6 false)))
def f22c : Code := (.seq (.region 0 f22o0 false) (.seq (.seq (.region 1 f22o1 false) (.cond (.tmp 10) (.seq (.region 2 f22o2 false) .ret) .skip)) (.seq (.region 3 f22o3 false) (.seq (.seq (.region 4 f22o4 false) (.block 0 (.loop f22b0))) (.seq (.region 11 f22o11 false) .ret)))))
def f22n : List (Nat × RAnn) := [(0, f22a0), (1, f22a1), (2, f22a2), (3, f22a3), (4, f22a4), (5, f22a5), (6, f22a6), (7, f22a7), (8, f22a8), (9, f22a9), (10, f22a10), (11, f22a11)]
noncomputable def f4o0 : Array Oper := cO (cL (cB f4))
def f4a0 : RAnn := ⟨[0, 6], []⟩
noncomputable def f4o1 : Array Oper := cO (cL (cL (cR (cB f4))))
def f4a1 : RAnn := ⟨[11, 12, 13, 14, 15, 16], []⟩
noncomputable def f4o2 : Array Oper := cO (cL (cL (cR (cL (cR (cB f4))))))
def f4a2 : RAnn := ⟨[1, 2, 3, 17, 18], []⟩
noncomputable def f4o3 : Array Oper := cO (cL (cR (cR (cB f4))))
def f4a3 : RAnn := ⟨[17, 19, 20, 21, 22, 23, 24], []⟩
noncomputable def f4o4 : Array Oper := cO (cL (cR (cR (cR (cB f4)))))
def f4a4 : RAnn := ⟨[25, 26, 27, 28, 29, 30], []⟩
noncomputable def f4o5 : Array Oper := cO (cL (cL (cR (cR (cR (cR (cB f4)))))))
def f4a5 : RAnn := ⟨[7, 8, 9, 10, 31, 32, 33, 34, 35, 36, 37, 38, 39], []⟩
noncomputable def f4o6 : Array Oper := cO (cL (cL (cR (cL (cR (cR (cR (cR (cB f4)))))))))
def f4a6 : RAnn := ⟨[1, 2, 3, 40], []⟩
noncomputable def f4o7 : Array Oper := cO (cL (cR (cR (cR (cR (cR (cB f4)))))))
def f4a7 : RAnn := ⟨[40, 41, 42, 43, 44, 45, 46], []⟩
noncomputable def f4o8 : Array Oper := cO (cL (cR (cR (cR (cR (cR (cR (cB f4))))))))
def f4a8 : RAnn := ⟨[3, 47, 48, 49, 50, 51, 52], []⟩
noncomputable def f4o9 : Array Oper := cO (cL (cL (cR (cR (cR (cR (cR (cR (cR (cB f4))))))))))
def f4a9 : RAnn := ⟨[7, 8, 9, 10, 53, 54, 55, 56, 57, 58, 59, 60, 61], []⟩
noncomputable def f4o10 : Array Oper := cO (cL (cL (cR (cL (cR (cR (cR (cR (cR (cR (cR (cB f4))))))))))))
def f4a10 : RAnn := ⟨[1, 2, 62], []⟩
noncomputable def f4o11 : Array Oper := cO (cL (cR (cR (cR (cR (cR (cR (cR (cR (cB f4))))))))))
def f4a11 : RAnn := ⟨[62, 63, 64, 65, 66, 67], []⟩
noncomputable def f4o12 : Array Oper := cO (cL (cR (cR (cR (cR (cR (cR (cR (cR (cR (cB f4)))))))))))
def f4a12 : RAnn := ⟨[1, 68, 69, 70, 71, 72], []⟩
noncomputable def f4o13 : Array Oper := cO (cL (cL (cR (cR (cR (cR (cR (cR (cR (cR (cR (cR (cB f4)))))))))))))
def f4a13 : RAnn := ⟨[7, 8, 9, 10, 73, 74, 75, 76, 77, 78, 79, 80, 81], []⟩
noncomputable def f4o14 : Array Oper := cO (cL (cL (cR (cL (cR (cR (cR (cR (cR (cR (cR (cR (cR (cR (cB f4)))))))))))))))
def f4a14 : RAnn := ⟨[2, 82], []⟩
noncomputable def f4o15 : Array Oper := cO (cL (cR (cR (cR (cR (cR (cR (cR (cR (cR (cR (cR (cB f4)))))))))))))
def f4a15 : RAnn := ⟨[82, 83, 84, 85, 86, 87], []⟩
noncomputable def f4o16 : Array Oper := cO (cL (cR (cR (cR (cR (cR (cR (cR (cR (cR (cR (cR (cR (cB f4))))))))))))))
def f4a16 : RAnn := ⟨[2, 88, 89, 90, 91, 92], []⟩
noncomputable def f4o17 : Array Oper := cO (cL (cR (cR (cR (cR (cR (cR (cR (cR (cR (cR (cR (cR (cR (cB f4)))))))))))))))
def f4a17 : RAnn := ⟨[7, 8, 9, 10, 93, 94, 95, 96, 97, 98, 99, 100, 101, 102, 103, 104, 105], []⟩
def f4c : Code := (.seq (.region 0 f4o0 false) (.seq (.seq (.region 1 f4o1 false) (.cond (.tmp 17) (.seq (.region 2 f4o2 false) .ret) .skip)) (.seq (.region 3 f4o3 false) (.seq (.region 4 f4o4 false) (.seq (.seq (.region 5 f4o5 false) (.cond (.tmp 40) (.seq (.region 6 f4o6 false) .ret) .skip)) (.seq (.region 7 f4o7 false) (.seq (.region 8 f4o8 false) (.seq (.seq (.region 9 f4o9 false) (.cond (.tmp 62) (.seq (.region 10 f4o10 false) .ret) .skip)) (.seq (.region 11 f4o11 false) (.seq (.region 12 f4o12 false) (.seq (.seq (.region 13 f4o13 false) (.cond (.tmp 82) (.seq (.region 14 f4o14 false) .ret) .skip)) (.seq (.region 15 f4o15 false) (.seq (.region 16 f4o16 false) (.seq (.region 17 f4o17 false) .ret))))))))))))))
def f4n : List (Nat × RAnn) := [(0, f4a0), (1, f4a1), (2, f4a2), (3, f4a3), (4, f4a4), (5, f4a5), (6, f4a6), (7, f4a7), (8, f4a8), (9, f4a9), (10, f4a10), (11, f4a11), (12, f4a12), (13, f4a13), (14, f4a14), (15, f4a15), (16, f4a16), (17, f4a17)]
def ANNS : List (Nat × FAnn) := [(4, ⟨f4n, [], []⟩), (10, ⟨f10n, [], []⟩), (11, ⟨f11n, [], []⟩), (14, ⟨f14n, [], []⟩), (15, ⟨f15n, [], []⟩), (16, ⟨f16n, [], []⟩), (17, ⟨f17n, [], []⟩), (18, ⟨f18n, [], []⟩), (19, ⟨f19n, [], []⟩), (20, ⟨f20n, [], []⟩), (21, ⟨f21n, [], []⟩), (22, ⟨f22n, [], []⟩), (40, ⟨f40n, [], []⟩), (46, ⟨f46n, [], []⟩), (50, ⟨f50n, [], []⟩)]
def anns : FuncId → FAnn := fun f => (look f ANNS).getD {}
def ext : ExtH := fun f args => bif Nat.beq f 57 then some (extItoa args) else bif Nat.beq f 55 then some (extStrRep args) else bif Nat.beq f 49 then some (extRepAll args) else none
noncomputable abbrev EV (k : Nat) : CallH := evF prog anns ext k
noncomputable abbrev RE (k : Nat) (a : RAnn) (o : Array Oper) (d : Bool) (s : St) : Option St := regionE prog (EV k) a o d s
abbrev I (n : Int) : V := .int .i64 n
def law01_Large_fin : Bool → V × List V := fun r => ((Bo r), [])
theorem law01_Large_L1_ok (k : Nat) (a0 : (List Str))  (K0 : Int → Option Bool) (Kst : X × St → Option (V × List V)) (hK0 : ∀ (y0 : Int), Kst (X.exit 0, ⟨[(0, (sS a0)), (3, (I y0)), (7, (Bo false))], [], 19⟩) = (K0 y0).map law01_Large_fin) (hret : ∀ s, Kst (X.ret, s) = endK prog 19 [(sS a0)] [] [.tmp 2] (X.ret, s)) :
    ∀ (m : Nat) (x3 : Int), (iter (exec prog (EV k) f10n k f10b0) m ⟨[(0, (sS a0)), (3, (I x3))], [], 19⟩).bind Kst = (law01_Large_L1 a0 K0 m x3).map law01_Large_fin := by
  intro m
  induction m with
  | zero => intros; rfl
  | succ m ih =>
    intro x3
    unfold law01_Large_L1
    refine et k_round <| et k_assoc <| krp f10a2 rfl ⟨[(0, (sS a0)), (3, (I x3)), (7, (Bo (decide (x3 < (a0.length : Int)))))], [], 19⟩ ?_ ?_
    · exact rd 2 [(4, (I x3)), (5, (sS a0))] rfl rfl <| rl rfl (p_len (e := V.str) rfl rfl rfl rfl rfl rfl underlying22) <| bind_end rfl
    refine kc rfl rfl (fun hc => ?_) fun hc => ?_
    · rw [hc]
      refine et k_skip <| et (k_block rfl) <| kg f10a4 rfl (fun (o5 : Bool) => ⟨[(0, (sS a0)), (3, (I x3)), (15, (Bo o5))], [], 19⟩) (rd 2 [(10, (sS a0)), (11, (I x3))] rfl rfl <| rp rfl (p_index (e := V.str) rfl rfl rfl underlying22 rfl (by decide)) fun v4 => bind_end rfl) fun o5 => kcl rfl rfl (fun hc => ?_) fun hc => ?_
      · rw [hc]
        refine kr ⟨[(2, (Bo true))], [], 19⟩ rfl <| et k_lret <| et blk_ret <| et loop_ret <| et (hret _) ?_
        rfl
      · rw [hc]
        exact et k_lskip <| et blk_normal <| kl ⟨[(0, (sS a0)), (3, (I (Go.IntKind.wrap .i64 (x3 + 1))))], [], 19⟩ rfl <| et loop_normal <| ih (Go.IntKind.wrap .i64 (x3 + 1))
    · rw [hc]
      exact et k_exit <| et loop_exit <| hK0 x3
theorem law01_Large_ok (k : Nat) (a0 : (List Str)) : EV k 10 [(sS a0)] = (law01_Large k a0).map law01_Large_fin := by
  cases k with
  | zero => rfl
  | succ k =>
    unfold law01_Large
    refine et (evF_succ (c := f10c) (N := 19) (regs := f10n) rfl func10 rfl (by decide) rfl rfl rfl) <| kra [] rfl <| et k_assoc <| kra [(3, (I 0))] rfl <| et (k_block rfl) <| et k_loop ?_
    refine law01_Large_L1_ok k a0 _ _ ?h_law01_Large_L1_0 ?hr_law01_Large_L1 k 0
    · intro y6
      refine et blk_exit <| krp f10a6 rfl ⟨[(2, (Bo (decide ((a0.length : Int) > 300))))], [], 19⟩ ?_ ?_
      · exact rd 1 [(16, (sS a0))] rfl rfl <| rl rfl (p_len (e := V.str) rfl rfl rfl rfl rfl rfl underlying22) <| bind_end rfl
      refine et k_lret ?_
      rfl
    · intro s; exact rfl
def octet_Text_fin : ((List Int) × Int) → V × List V := fun r => (.tup [(V.sl 0 1 (List.map (V.int .u8) r.1)), (I r.2)], [])
theorem octet_Text_ok (k : Nat) (a0 : Str) : EV k 19 [(Sr a0)] = (octet_Text k a0).map octet_Text_fin := by
  cases k with
  | zero => rfl
  | succ k =>
    unfold octet_Text
    refine et (evF_succ (c := f19c) (N := 13) (regs := f19n) rfl func19 rfl (by decide) rfl rfl rfl) <| kra [] rfl <| et k_assoc <| kra [(6, (Bo (decide ((a0.length : Int) > 255))))] rfl <| kc rfl rfl (fun hc => ?_) fun hc => ?_
    · rw [hc]
      refine et k_assoc <| kr ⟨[(2, (V.sl 0 1 (List.map (V.int .u8) ([] : List Int)))), (3, (I 2))], [], 13⟩ rfl <| et k_ret ?_
      rfl
    · rw [hc]
      refine et k_skip <| kg f19a3 rfl (fun (o2 : (List Int) × Int) => ⟨[(2, (V.sl 0 1 (List.map (V.int .u8) o2.1))), (3, (I o2.2))], [], 13⟩) (rd 5 [(7, (Sr a0)), (8, (I (a0.length : Int))), (9, (V.int .u8 (Go.IntKind.wrap .u8 (a0.length : Int)))), (10, (V.sl 1 1 (List.map (V.int .u8) ([(Go.IntKind.wrap .u8 (a0.length : Int))] : List Int)))), (11, (Sr a0))] rfl rfl <| et (reg_eff (x := (app ([(Go.IntKind.wrap .u8 (a0.length : Int))] : List Int) (bytesB a0))) (w := fun v1 => ((V.sl 1 1 (List.map (V.int .u8) v1)), _)) rfl rfl rfl rfl (p_appS rfl rfl rfl rfl rfl rfl rfl rfl rfl rfl (by decide))) <| bindE fun v1 => bind_end rfl) fun o2 => et k_lret ?_
      rfl
def octet_Number_fin : ((List Int) × Int) → V × List V := fun r => (.tup [(V.sl 0 1 (List.map (V.int .u8) r.1)), (I r.2)], [])
theorem octet_Number_ok (k : Nat) (a0 : Int) : EV k 17 [(I a0)] = (octet_Number k a0).map octet_Number_fin := by
  cases k with
  | zero => rfl
  | succ k =>
    unfold octet_Number
    refine et (evF_succ (c := f17c) (N := 22) (regs := f17n) rfl func17 rfl (by decide) rfl rfl rfl) <| kra [] rfl <| et k_assoc <| kga f17a1 rfl (fun (o1 : Bool) => [(9, (Bo o1))]) ?_ fun o1 => ?_
    · refine rd 3 [(4, (I a0)), (5, (Bo (decide (a0 < 0)))), (6, (Bo (decide (a0 < 0))))] rfl rfl <| bifE (fun hc => ?_) fun hc => ?_
      · rw [hc]
        exact reg_end rfl
      · rw [hc]
        exact reg_end rfl
    refine kc rfl rfl (fun hc => ?_) fun hc => ?_
    · rw [hc]
      refine et k_assoc <| kr ⟨[(2, (V.sl 0 1 (List.map (V.int .u8) ([] : List Int)))), (3, (I 2))], [], 22⟩ rfl <| et k_ret ?_
      rfl
    · rw [hc]
      refine et k_skip <| kg f17a3 rfl (fun (o5 : (List Int) × Int) => ⟨[(2, (V.sl 0 1 (List.map (V.int .u8) o5.1))), (3, (I o5.2))], [], 22⟩) (rd 1 [(10, (I a0))] rfl rfl <| rp rfl (p_shr rfl rfl rfl) fun v2 => bd 4 [(11, (I v2)), (12, (V.int .u8 (Go.IntKind.wrap .u8 v2))), (13, (I a0))] rfl rfl <| rp rfl (p_shr rfl rfl rfl) fun v3 => bd 7 [(14, (I v3)), (15, (V.int .u8 (Go.IntKind.wrap .u8 v3))), (16, (I a0))] rfl rfl <| rp rfl (p_shr rfl rfl rfl) fun v4 => bind_end rfl) fun o5 => et k_lret ?_
      rfl
def strconv_Itoa_fin : Str → V × List V := fun r => (Sr r, [])
theorem strconv_Itoa_ok (k : Nat) (n : Int) : EV k 57 [(I n)] = (strconv_Itoa k n).map strconv_Itoa_fin := by
  cases k with
  | zero => rfl
  | succ k => exact (evF_ext (ext := ext) (f := 57) rfl).trans rfl
def strings_Repeat_fin : Str → V × List V := fun r => ((Sr r), [])
theorem strings_Repeat_ok (k : Nat) (s : Str) (n : Int) : EV k 55 [(Sr s), (I n)] = (strings_Repeat k s n).map strings_Repeat_fin := by
  cases k with
  | zero => rfl
  | succ k => exact (evF_ext (ext := ext) (f := 55) rfl).trans rfl
def octet_Digits_fin : (Str × Int) → V × List V := fun r => (.tup [(Sr r.1), (I r.2)], [])
theorem octet_Digits_ok (k : Nat) (a0 : Int) (a1 : Int) : EV k 46 [(I a0), (I a1)] = (octet_Digits k a0 a1).map octet_Digits_fin := by
  cases k with
  | zero => rfl
  | succ k =>
    unfold octet_Digits
    refine et (evF_succ (c := f46c) (N := 32) (regs := f46n) rfl func46 rfl (by decide) rfl rfl rfl) <| kra [] rfl <| kga f46a1 rfl (fun (o2 : Str) => [(6, (Sr o2))]) (rd 1 [(7, (I a0))] rfl rfl <| rs rfl (p_call rfl rfl rfl rfl rfl (strconv_Itoa_ok k a0) (.inl rfl)) fun v1 => bind_end rfl) fun o2 => et k_assoc <| kg f46a2 rfl (fun (o3 : Bool) => ⟨[(1, (I a1)), (6, (Sr o2)), (24, (Bo o3))], [], 32⟩) ?_ fun o3 => ?_
    · refine rd 3 [(9, (I a0)), (10, (Bo (decide (a0 < 0)))), (11, (Bo (decide (a0 < 0))))] rfl rfl <| bifE (fun hc => ?_) fun hc => ?_
      · rw [hc]
        exact reg_end rfl
      · rw [hc]
        refine rd 7 [(12, (I a1)), (13, (Bo (decide (a1 < 1)))), (14, (Bo (decide (a1 < 1)))), (15, (Bo (decide (a1 < 1))))] rfl rfl <| bifE (fun hc => ?_) fun hc => ?_
        · rw [hc]
          exact reg_end rfl
        · rw [hc]
          refine rd 11 [(16, (I a1)), (17, (Bo (decide (a1 > 9)))), (18, (Bo (decide (a1 > 9)))), (19, (Bo (decide (a1 > 9))))] rfl rfl <| bifE (fun hc => ?_) fun hc => ?_
          · rw [hc]
            exact reg_end rfl
          · rw [hc]
            exact reg_end rfl
    refine kc rfl rfl (fun hc => ?_) fun hc => ?_
    · rw [hc]
      refine et k_assoc <| kr ⟨[(4, (Sr ([] : Str))), (5, (I 2))], [], 32⟩ rfl <| et k_ret ?_
      rfl
    · rw [hc]
      refine et k_skip <| kg f46a4 rfl (fun (o6 : Str × Int) => ⟨[(4, (Sr o6.1)), (5, (I o6.2))], [], 32⟩) (rd 4 [(25, (I a1)), (26, (Sr o2)), (27, (I (o2.length : Int))), (28, (I (Go.IntKind.wrap .i64 (a1 - (o2.length : Int)))))] rfl rfl <| rp rfl (p_call rfl rfl rfl rfl rfl (strings_Repeat_ok k ([48] : Str) (Go.IntKind.wrap .i64 (a1 - (o2.length : Int)))) (.inl rfl)) fun v4 => bd 6 [(29, (Sr v4)), (30, (Sr o2))] rfl rfl <| rp rfl (p_cat rfl rfl rfl) fun v5 => bind_end rfl) fun o6 => et k_lret ?_
      rfl
def octet_Pad_fin : (Str × Int) → V × List V := fun r => (.tup [(Sr r.1), (I r.2)], [])
theorem octet_Pad_ok (k : Nat) (a0 : Str) (a1 : Int) : EV k 40 [(Sr a0), (I a1)] = (octet_Pad k a0 a1).map octet_Pad_fin := by
  cases k with
  | zero => rfl
  | succ k =>
    unfold octet_Pad
    refine et (evF_succ (c := f40c) (N := 21) (regs := f40n) rfl func40 rfl (by decide) rfl rfl rfl) <| kra [] rfl <| et k_assoc <| kga f40a1 rfl (fun (o1 : Bool) => [(13, (Bo o1))]) ?_ fun o1 => ?_
    · refine rd 5 [(6, (I a1)), (7, (Sr a0)), (8, (I (a0.length : Int))), (9, (Bo (decide (a1 < (a0.length : Int))))), (10, (Bo (decide (a1 < (a0.length : Int)))))] rfl rfl <| bifE (fun hc => ?_) fun hc => ?_
      · rw [hc]
        exact reg_end rfl
      · rw [hc]
        exact reg_end rfl
    refine kc rfl rfl (fun hc => ?_) fun hc => ?_
    · rw [hc]
      refine et k_assoc <| kr ⟨[(4, (Sr ([] : Str))), (5, (I 2))], [], 21⟩ rfl <| et k_ret ?_
      rfl
    · rw [hc]
      refine et k_skip <| kg f40a3 rfl (fun (o4 : Str × Int) => ⟨[(4, (Sr o4.1)), (5, (I o4.2))], [], 21⟩) (rd 5 [(14, (Sr a0)), (15, (I a1)), (16, (Sr a0)), (17, (I (a0.length : Int))), (18, (I (Go.IntKind.wrap .i64 (a1 - (a0.length : Int)))))] rfl rfl <| rp rfl (p_call rfl rfl rfl rfl rfl (strings_Repeat_ok k ([32] : Str) (Go.IntKind.wrap .i64 (a1 - (a0.length : Int)))) (.inl rfl)) fun v2 => bd 6 [(19, (Sr v2))] rfl rfl <| rp rfl (p_cat rfl rfl rfl) fun v3 => bind_end rfl) fun o4 => et k_lret ?_
      rfl
def strings_ReplaceAll_fin : Str → V × List V := fun r => (Sr r, [])
theorem strings_ReplaceAll_ok (k : Nat) (s o n : Str) : EV k 49 [(Sr s), (Sr o), (Sr n)] = (strings_ReplaceAll k s o n).map strings_ReplaceAll_fin := by
  cases k with
  | zero => rfl
  | succ k => exact (evF_ext (ext := ext) (f := 49) rfl).trans rfl
def octet_Key_fin : (List Int) → V × List V := fun r => ((V.sl 0 1 (List.map (V.int .u8) r)), [])
theorem octet_Key_L1_ok (k : Nat) (a0 : (List Str))  (K0 : (List Int) → Int → Option (List Int)) (Kst : X × St → Option (V × List V)) (hK0 : ∀ (y0 : (List Int)) (y1 : Int), Kst (X.exit 0, ⟨[(3, (V.sl 1 1 (List.map (V.int .u8) y0))), (6, (sS a0)), (7, (I (a0.length : Int))), (8, (I y1)), (9, (Bo false))], [], 21⟩) = (K0 y0 y1).map octet_Key_fin) (hret : ∀ s, Kst (X.ret, s) = endK prog 21 [(sS a0)] [] [.tmp 2] (X.ret, s)) :
    ∀ (m : Nat) (x8 : (List Int)) (x9 : Int), (iter (exec prog (EV k) f14n k f14b0) m ⟨[(3, (V.sl 1 1 (List.map (V.int .u8) x8))), (6, (sS a0)), (7, (I (a0.length : Int))), (8, (I x9))], [], 21⟩).bind Kst = (octet_Key_L1 k a0 K0 m x8 x9).map octet_Key_fin := by
  intro m
  induction m with
  | zero => intros; rfl
  | succ m ih =>
    intro x8 x9
    unfold octet_Key_L1
    refine et k_round <| kra [(9, (Bo (decide (x9 < (a0.length : Int)))))] rfl <| kc rfl rfl (fun hc => ?_) fun hc => ?_
    · rw [hc]
      exact et k_skip <| et (k_block rfl) <| kg f14a4 rfl (fun (o11 : Str) => ⟨[(3, (V.sl 1 1 (List.map (V.int .u8) x8))), (5, (Sr o11)), (6, (sS a0)), (7, (I (a0.length : Int))), (8, (I x9))], [], 21⟩) (rs rfl (p_index (e := V.str) rfl rfl rfl underlying22 rfl (by decide)) fun v10 => bind_end rfl) fun o11 => kg f14a5 rfl (fun (o14 : (List Int)) => ⟨[(3, (V.sl 1 1 (List.map (V.int .u8) o14))), (6, (sS a0)), (7, (I (a0.length : Int))), (8, (I x9))], [], 21⟩) (ra 2 2 ⟨[(3, (V.sl 0 1 (List.map (V.int .u8) x8))), (5, (Sr o11)), (6, (sS a0)), (7, (I (a0.length : Int))), (8, (I x9)), (12, (V.sl 1 1 (List.map (V.int .u8) x8))), (13, (Sr o11))], [], 21⟩ rfl rfl rfl <| rp rfl (p_call rfl rfl rfl rfl rfl (strings_ReplaceAll_ok k o11 ([0] : Str) ([0, 255] : Str)) (.inl rfl)) fun v12 => bd 3 [(14, (Sr v12))] rfl rfl <| et (reg_eff (x := (app x8 (bytesB v12))) (w := fun v13 => ((V.sl 1 1 (List.map (V.int .u8) v13)), _)) rfl rfl rfl rfl (p_appS rfl rfl rfl rfl rfl rfl rfl rfl rfl rfl (by decide))) <| bind_self fun v13 => bind_end rfl) fun o14 => kgl f14a6 rfl (fun (o16 : (List Int)) => ⟨[(3, (V.sl 1 1 (List.map (V.int .u8) o16))), (6, (sS a0)), (7, (I (a0.length : Int))), (8, (I x9))], [], 21⟩) (ra 2 2 ⟨[(3, (V.sl 0 1 (List.map (V.int .u8) o14))), (6, (sS a0)), (7, (I (a0.length : Int))), (8, (I x9)), (16, (V.sl 1 1 (List.map (V.int .u8) o14))), (17, (V.sl 0 1 (List.map (V.int .u8) ([0, 1] : List Int))))], [], 21⟩ rfl rfl rfl <| et (reg_eff (x := (app o14 ([0, 1] : List Int))) (w := fun v15 => ((V.sl 1 1 (List.map (V.int .u8) v15)), _)) rfl rfl rfl rfl (p_app (e := (V.int .u8)) rfl rfl rfl rfl rfl rfl rfl rfl rfl rfl (by decide))) <| bind_self fun v15 => bind_end rfl) fun o16 => et blk_normal <| kl ⟨[(3, (V.sl 1 1 (List.map (V.int .u8) o16))), (6, (sS a0)), (7, (I (a0.length : Int))), (8, (I (Go.IntKind.wrap .i64 (x9 + 1))))], [], 21⟩ rfl <| et loop_normal <| ih o16 (Go.IntKind.wrap .i64 (x9 + 1))
    · rw [hc]
      exact et k_exit <| et loop_exit <| hK0 x8 x9
theorem octet_Key_ok (k : Nat) (a0 : (List Str)) : EV k 14 [(sS a0)] = (octet_Key k a0).map octet_Key_fin := by
  cases k with
  | zero => rfl
  | succ k =>
    unfold octet_Key
    refine et (evF_succ (c := f14c) (N := 21) (regs := f14n) rfl func14 rfl (by decide) rfl rfl rfl) <| kra [] rfl <| kra [(3, (V.sl 1 1 (List.map (V.int .u8) ([] : List Int))))] rfl <| et k_assoc <| krp f14a2 rfl ⟨[(3, (V.sl 1 1 (List.map (V.int .u8) ([] : List Int)))), (6, (sS a0)), (7, (I (a0.length : Int))), (8, (I 0))], [], 21⟩ ?_ ?_
    · exact rd 1 [(6, (sS a0))] rfl rfl <| rl rfl (p_len (e := V.str) rfl rfl rfl rfl rfl rfl underlying22) <| bind_end rfl
    refine et (k_block rfl) <| et k_loop ?_
    refine octet_Key_L1_ok k a0 _ _ ?h_octet_Key_L1_0 ?hr_octet_Key_L1 k ([] : List Int) 0
    · intro y17 y18
      refine et blk_exit <| kr ⟨[(2, (V.sl 0 1 (List.map (V.int .u8) y17)))], [], 21⟩ rfl <| et k_lret ?_
      rfl
    · intro s; exact rfl
def law01_First_fin : Bool → V × List V := fun r => ((Bo r), [])
theorem law01_First_clo0 : EV 0 11 [] = none := by kernel_rfl
theorem law01_First_clo1 : EV 1 11 [] = none := by kernel_rfl
theorem law01_First_clo2 : EV 2 11 [] = none := by kernel_rfl
theorem law01_First_clo3 : EV 3 11 [] = none := by kernel_rfl
theorem law01_First_clo4 : EV 4 11 [] = none := by kernel_rfl
theorem law01_First_clo (k : Nat) : EV (k + 5) 11 [] = some (Bo true, []) := by kernel_rfl
theorem law01_First_ok (k : Nat) : EV k 11 [] = (law01_First k).map law01_First_fin := by
  match k with
  | 0 => exact law01_First_clo0
  | 1 => exact law01_First_clo1
  | 2 => exact law01_First_clo2
  | 3 => exact law01_First_clo3
  | 4 => exact law01_First_clo4
  | k + 5 => exact law01_First_clo k
def octet_Small_fin : ((List Int) × Int) → V × List V := fun r => (.tup [(V.sl 0 1 (List.map (V.int .u8) r.1)), (I r.2)], [])
theorem octet_Small_ok (k : Nat) (a0 : Int) : EV k 15 [(I a0)] = (octet_Small k a0).map octet_Small_fin := by
  cases k with
  | zero => rfl
  | succ k =>
    unfold octet_Small
    refine et (evF_succ (c := f15c) (N := 13) (regs := f15n) rfl func15 rfl (by decide) rfl rfl rfl) <| kra [] rfl <| et k_assoc <| kga f15a1 rfl (fun (o1 : Bool) => [(9, (Bo o1))]) ?_ fun o1 => ?_
    · refine rd 3 [(4, (I a0)), (5, (Bo (decide (a0 < 0)))), (6, (Bo (decide (a0 < 0))))] rfl rfl <| bifE (fun hc => ?_) fun hc => ?_
      · rw [hc]
        exact reg_end rfl
      · rw [hc]
        exact reg_end rfl
    refine kc rfl rfl (fun hc => ?_) fun hc => ?_
    · rw [hc]
      refine et k_assoc <| kr ⟨[(2, (V.sl 0 1 (List.map (V.int .u8) ([] : List Int)))), (3, (I 2))], [], 13⟩ rfl <| et k_ret ?_
      rfl
    · rw [hc]
      refine et k_skip <| kr ⟨[(2, (V.sl 0 1 (List.map (V.int .u8) ([(Go.IntKind.wrap .u8 a0)] : List Int)))), (3, (I 0))], [], 13⟩ rfl <| et k_lret ?_
      rfl
def ref01_Small_fin : ((List Int) × Int) → V × List V := fun r => (.tup [(V.sl 0 1 (List.map (V.int .u8) r.1)), (I r.2)], [])
theorem ref01_Small_ok (k : Nat) (a0 : Int) : EV k 16 [(I a0)] = (ref01_Small k a0).map ref01_Small_fin := by
  cases k with
  | zero => rfl
  | succ k =>
    unfold ref01_Small
    refine et (evF_succ (c := f16c) (N := 13) (regs := f16n) rfl func16 rfl (by decide) rfl rfl rfl) <| kra [] rfl <| et k_assoc <| kga f16a1 rfl (fun (o1 : Bool) => [(9, (Bo o1))]) ?_ fun o1 => ?_
    · refine rd 3 [(4, (I a0)), (5, (Bo (decide (a0 < 0)))), (6, (Bo (decide (a0 < 0))))] rfl rfl <| bifE (fun hc => ?_) fun hc => ?_
      · rw [hc]
        exact reg_end rfl
      · rw [hc]
        exact reg_end rfl
    refine kc rfl rfl (fun hc => ?_) fun hc => ?_
    · rw [hc]
      refine et k_assoc <| kr ⟨[(2, (V.sl 0 1 (List.map (V.int .u8) ([] : List Int)))), (3, (I 2))], [], 13⟩ rfl <| et k_ret ?_
      rfl
    · rw [hc]
      refine et k_skip <| kr ⟨[(2, (V.sl 0 1 (List.map (V.int .u8) ([(Go.IntKind.wrap .u8 a0)] : List Int)))), (3, (I 0))], [], 13⟩ rfl <| et k_lret ?_
      rfl
def ref01_number_fin : (List Int) → V × List V := fun r => ((V.sl 0 1 (List.map (V.int .u8) r)), [])
theorem ref01_number_ok (k : Nat) (a0 : Int) : EV k 50 [(I a0)] = (ref01_number k a0).map ref01_number_fin := by
  cases k with
  | zero => rfl
  | succ k =>
    unfold ref01_number
    refine et (evF_succ (c := f50c) (N := 18) (regs := f50n) rfl func50 rfl (by decide) rfl rfl rfl) <| kra [] rfl <| kg f50a1 rfl (fun (o7 : (List Int)) => ⟨[(2, (V.sl 0 1 (List.map (V.int .u8) o7)))], [], 18⟩) (rd 1 [(3, (I a0))] rfl rfl <| rp rfl (p_quo rfl rfl rfl) fun v1 => bd 4 [(4, (I v1)), (5, (V.int .u8 (Go.IntKind.wrap .u8 v1))), (6, (I a0))] rfl rfl <| rp rfl (p_quo rfl rfl rfl) fun v2 => bd 5 [(7, (I v2))] rfl rfl <| rp rfl (p_rem rfl rfl rfl) fun v3 => bd 8 [(8, (I v3)), (9, (V.int .u8 (Go.IntKind.wrap .u8 v3))), (10, (I a0))] rfl rfl <| rp rfl (p_quo rfl rfl rfl) fun v4 => bd 9 [(11, (I v4))] rfl rfl <| rp rfl (p_rem rfl rfl rfl) fun v5 => bd 12 [(12, (I v5)), (13, (V.int .u8 (Go.IntKind.wrap .u8 v5))), (14, (I a0))] rfl rfl <| rp rfl (p_rem rfl rfl rfl) fun v6 => bind_end rfl) fun o7 => et k_lret ?_
    rfl
def ref01_Number_fin : ((List Int) × Int) → V × List V := fun r => (.tup [(V.sl 0 1 (List.map (V.int .u8) r.1)), (I r.2)], [])
theorem ref01_Number_ok (k : Nat) (a0 : Int) : EV k 18 [(I a0)] = (ref01_Number k a0).map ref01_Number_fin := by
  cases k with
  | zero => rfl
  | succ k =>
    unfold ref01_Number
    refine et (evF_succ (c := f18c) (N := 12) (regs := f18n) rfl func18 rfl (by decide) rfl rfl rfl) <| kra [] rfl <| et k_assoc <| kga f18a1 rfl (fun (o1 : Bool) => [(9, (Bo o1))]) ?_ fun o1 => ?_
    · refine rd 3 [(4, (I a0)), (5, (Bo (decide (a0 < 0)))), (6, (Bo (decide (a0 < 0))))] rfl rfl <| bifE (fun hc => ?_) fun hc => ?_
      · rw [hc]
        exact reg_end rfl
      · rw [hc]
        exact reg_end rfl
    refine kc rfl rfl (fun hc => ?_) fun hc => ?_
    · rw [hc]
      refine et k_assoc <| kr ⟨[(2, (V.sl 0 1 (List.map (V.int .u8) ([] : List Int)))), (3, (I 2))], [], 12⟩ rfl <| et k_ret ?_
      rfl
    · rw [hc]
      refine et k_skip <| kg f18a3 rfl (fun (o3 : (List Int) × Int) => ⟨[(2, (V.sl 0 1 (List.map (V.int .u8) o3.1))), (3, (I o3.2))], [], 12⟩) (rd 1 [(10, (I a0))] rfl rfl <| rp rfl (p_call rfl rfl rfl rfl rfl (ref01_number_ok k a0) (.inl rfl)) fun v2 => bind_end rfl) fun o3 => et k_lret ?_
      rfl
def ref01_Text_fin : ((List Int) × Int) → V × List V := fun r => (.tup [(V.sl 0 1 (List.map (V.int .u8) r.1)), (I r.2)], [])
theorem ref01_Text_ok (k : Nat) (a0 : Str) : EV k 20 [(Sr a0)] = (ref01_Text k a0).map ref01_Text_fin := by
  cases k with
  | zero => rfl
  | succ k =>
    unfold ref01_Text
    refine et (evF_succ (c := f20c) (N := 13) (regs := f20n) rfl func20 rfl (by decide) rfl rfl rfl) <| kra [] rfl <| et k_assoc <| kra [(6, (Bo (decide ((a0.length : Int) > 255))))] rfl <| kc rfl rfl (fun hc => ?_) fun hc => ?_
    · rw [hc]
      refine et k_assoc <| kr ⟨[(2, (V.sl 0 1 (List.map (V.int .u8) ([] : List Int)))), (3, (I 2))], [], 13⟩ rfl <| et k_ret ?_
      rfl
    · rw [hc]
      refine et k_skip <| kg f20a3 rfl (fun (o2 : (List Int) × Int) => ⟨[(2, (V.sl 0 1 (List.map (V.int .u8) o2.1))), (3, (I o2.2))], [], 13⟩) (rd 5 [(7, (Sr a0)), (8, (I (a0.length : Int))), (9, (V.int .u8 (Go.IntKind.wrap .u8 (a0.length : Int)))), (10, (V.sl 1 1 (List.map (V.int .u8) ([(Go.IntKind.wrap .u8 (a0.length : Int))] : List Int)))), (11, (Sr a0))] rfl rfl <| et (reg_eff (x := (app ([(Go.IntKind.wrap .u8 (a0.length : Int))] : List Int) (bytesB a0))) (w := fun v1 => ((V.sl 1 1 (List.map (V.int .u8) v1)), _)) rfl rfl rfl rfl (p_appS rfl rfl rfl rfl rfl rfl rfl rfl rfl rfl (by decide))) <| bindE fun v1 => bind_end rfl) fun o2 => et k_lret ?_
      rfl
def octet_Texts_fin : ((List Int) × Int) → V × List V := fun r => (.tup [(V.sl 0 1 (List.map (V.int .u8) r.1)), (I r.2)], [])
theorem octet_Texts_L1_ok (k : Nat) (a0 : (List Str))  (K0 : (List Int) → Int → Option ((List Int) × Int)) (Kst : X × St → Option (V × List V)) (hK0 : ∀ (y0 : (List Int)) (y1 : Int), Kst (X.exit 0, ⟨[(4, (V.sl 1 1 (List.map (V.int .u8) y0))), (16, (sS a0)), (17, (I (a0.length : Int))), (18, (I y1)), (19, (Bo false))], [], 35⟩) = (K0 y0 y1).map octet_Texts_fin) (hret : ∀ s, Kst (X.ret, s) = endK prog 35 [(sS a0)] [] [.tmp 2, .tmp 3] (X.ret, s)) :
    ∀ (m : Nat) (x7 : (List Int)) (x8 : Int), (iter (exec prog (EV k) f21n k f21b0) m ⟨[(4, (V.sl 1 1 (List.map (V.int .u8) x7))), (16, (sS a0)), (17, (I (a0.length : Int))), (18, (I x8))], [], 35⟩).bind Kst = (octet_Texts_L1 k a0 K0 m x7 x8).map octet_Texts_fin := by
  intro m
  induction m with
  | zero => intros; rfl
  | succ m ih =>
    intro x7 x8
    unfold octet_Texts_L1
    refine et k_round <| kra [(19, (Bo (decide (x8 < (a0.length : Int)))))] rfl <| kc rfl rfl (fun hc => ?_) fun hc => ?_
    · rw [hc]
      refine et k_skip <| et (k_block rfl) <| kg f21a6 rfl (fun (o10 : Str) => ⟨[(4, (V.sl 1 1 (List.map (V.int .u8) x7))), (6, (Sr o10)), (16, (sS a0)), (17, (I (a0.length : Int))), (18, (I x8))], [], 35⟩) (rs rfl (p_index (e := V.str) rfl rfl rfl underlying22 rfl (by decide)) fun v9 => bind_end rfl) fun o10 => kg f21a7 rfl (fun (o12 : (List Int) × Int) => ⟨[(4, (V.sl 1 1 (List.map (V.int .u8) x7))), (7, (V.sl 0 1 (List.map (V.int .u8) o12.1))), (8, (I o12.2)), (16, (sS a0)), (17, (I (a0.length : Int))), (18, (I x8))], [], 35⟩) (rd 1 [(23, (Sr o10))] rfl rfl <| rp rfl (p_call rfl rfl rfl rfl rfl (octet_Text_ok k o10) (.inl rfl)) fun v11 => bind_end rfl) fun o12 => et k_assoc <| kra [(28, (Bo (o12.2 != 0)))] rfl <| kc rfl rfl (fun hc => ?_) fun hc => ?_
      · rw [hc]
        refine et k_assoc <| kr ⟨[(2, (V.sl 0 1 (List.map (V.int .u8) ([] : List Int)))), (3, (I o12.2))], [], 35⟩ rfl <| et k_ret <| et blk_ret <| et loop_ret <| et (hret _) ?_
        rfl
      · rw [hc]
        exact et k_skip <| kgl f21a10 rfl (fun (o14 : (List Int)) => ⟨[(4, (V.sl 1 1 (List.map (V.int .u8) o14))), (16, (sS a0)), (17, (I (a0.length : Int))), (18, (I x8))], [], 35⟩) (ra 2 2 ⟨[(4, (V.sl 0 1 (List.map (V.int .u8) x7))), (7, (V.sl 0 1 (List.map (V.int .u8) o12.1))), (8, (I o12.2)), (16, (sS a0)), (17, (I (a0.length : Int))), (18, (I x8)), (28, (Bo false)), (30, (V.sl 1 1 (List.map (V.int .u8) x7))), (31, (V.sl 0 1 (List.map (V.int .u8) o12.1)))], [], 35⟩ rfl rfl rfl <| et (reg_eff (x := (app x7 o12.1)) (w := fun v13 => ((V.sl 1 1 (List.map (V.int .u8) v13)), _)) rfl rfl rfl rfl (p_app (e := (V.int .u8)) rfl rfl rfl rfl rfl rfl rfl rfl rfl rfl (by decide))) <| bind_self fun v13 => bind_end rfl) fun o14 => et blk_normal <| kl ⟨[(4, (V.sl 1 1 (List.map (V.int .u8) o14))), (16, (sS a0)), (17, (I (a0.length : Int))), (18, (I (Go.IntKind.wrap .i64 (x8 + 1))))], [], 35⟩ rfl <| et loop_normal <| ih o14 (Go.IntKind.wrap .i64 (x8 + 1))
    · rw [hc]
      exact et k_exit <| et loop_exit <| hK0 x7 x8
theorem octet_Texts_ok (k : Nat) (a0 : (List Str)) : EV k 21 [(sS a0)] = (octet_Texts k a0).map octet_Texts_fin := by
  cases k with
  | zero => rfl
  | succ k =>
    unfold octet_Texts
    refine et (evF_succ (c := f21c) (N := 35) (regs := f21n) rfl func21 rfl (by decide) rfl rfl rfl) <| kra [] rfl <| et k_assoc <| krp f21a1 rfl ⟨[(0, (sS a0)), (11, (Bo (decide ((a0.length : Int) > 255))))], [], 35⟩ ?_ ?_
    · exact rd 1 [(9, (sS a0))] rfl rfl <| rl rfl (p_len (e := V.str) rfl rfl rfl rfl rfl rfl underlying22) <| bind_end rfl
    refine kc rfl rfl (fun hc => ?_) fun hc => ?_
    · rw [hc]
      refine et k_assoc <| kr ⟨[(2, (V.sl 0 1 (List.map (V.int .u8) ([] : List Int)))), (3, (I 2))], [], 35⟩ rfl <| et k_ret ?_
      rfl
    · rw [hc]
      refine et k_skip <| krp f21a3 rfl ⟨[(0, (sS a0)), (4, (V.sl 1 1 (List.map (V.int .u8) ([(Go.IntKind.wrap .u8 (a0.length : Int))] : List Int))))], [], 35⟩ ?_ ?_
      · exact rd 1 [(12, (sS a0))] rfl rfl <| rl rfl (p_len (e := V.str) rfl rfl rfl rfl rfl rfl underlying22) <| bind_end rfl
      refine et k_assoc <| krp f21a4 rfl ⟨[(4, (V.sl 1 1 (List.map (V.int .u8) ([(Go.IntKind.wrap .u8 (a0.length : Int))] : List Int)))), (16, (sS a0)), (17, (I (a0.length : Int))), (18, (I 0))], [], 35⟩ ?_ ?_
      · exact rd 1 [(16, (sS a0))] rfl rfl <| rl rfl (p_len (e := V.str) rfl rfl rfl rfl rfl rfl underlying22) <| bind_end rfl
      refine et (k_block rfl) <| et k_loop ?_
      refine octet_Texts_L1_ok k a0 _ _ ?h_octet_Texts_L1_0 ?hr_octet_Texts_L1 k ([(Go.IntKind.wrap .u8 (a0.length : Int))] : List Int) 0
      · intro y15 y16
        refine et blk_exit <| kr ⟨[(2, (V.sl 0 1 (List.map (V.int .u8) y15))), (3, (I 0))], [], 35⟩ rfl <| et k_lret ?_
        rfl
      · intro s; exact rfl
def ref01_Texts_fin : ((List Int) × Int) → V × List V := fun r => (.tup [(V.sl 0 1 (List.map (V.int .u8) r.1)), (I r.2)], [])
theorem ref01_Texts_L1_ok (k : Nat) (a0 : (List Str))  (K0 : (List Int) → Int → Option ((List Int) × Int)) (Kst : X × St → Option (V × List V)) (hK0 : ∀ (y0 : (List Int)) (y1 : Int), Kst (X.exit 0, ⟨[(0, (sS a0)), (4, (V.sl 1 1 (List.map (V.int .u8) y0))), (5, (I y1)), (18, (Bo false))], [], 36⟩) = (K0 y0 y1).map ref01_Texts_fin) (hret : ∀ s, Kst (X.ret, s) = endK prog 36 [(sS a0)] [] [.tmp 2, .tmp 3] (X.ret, s)) :
    ∀ (m : Nat) (x6 : (List Int)) (x7 : Int), (iter (exec prog (EV k) f22n k f22b0) m ⟨[(0, (sS a0)), (4, (V.sl 1 1 (List.map (V.int .u8) x6))), (5, (I x7))], [], 36⟩).bind Kst = (ref01_Texts_L1 k a0 K0 m x6 x7).map ref01_Texts_fin := by
  intro m
  induction m with
  | zero => intros; rfl
  | succ m ih =>
    intro x6 x7
    unfold ref01_Texts_L1
    refine et k_round <| et k_assoc <| krp f22a5 rfl ⟨[(0, (sS a0)), (4, (V.sl 1 1 (List.map (V.int .u8) x6))), (5, (I x7)), (18, (Bo (decide (x7 < (a0.length : Int)))))], [], 36⟩ ?_ ?_
    · exact rd 2 [(15, (I x7)), (16, (sS a0))] rfl rfl <| rl rfl (p_len (e := V.str) rfl rfl rfl rfl rfl rfl underlying22) <| bind_end rfl
    refine kc rfl rfl (fun hc => ?_) fun hc => ?_
    · rw [hc]
      refine et k_skip <| et (k_block rfl) <| kg f22a7 rfl (fun (o10 : (List Int) × Int) => ⟨[(0, (sS a0)), (4, (V.sl 1 1 (List.map (V.int .u8) x6))), (5, (I x7)), (6, (V.sl 0 1 (List.map (V.int .u8) o10.1))), (7, (I o10.2))], [], 36⟩) (rd 2 [(22, (sS a0)), (23, (I x7))] rfl rfl <| rp rfl (p_index (e := V.str) rfl rfl rfl underlying22 rfl (by decide)) fun v8 => bd 4 [(24, (Pr (Sr v8))), (25, (Sr v8))] rfl rfl <| rp rfl (p_call rfl rfl rfl rfl rfl (ref01_Text_ok k v8) (.inl rfl)) fun v9 => bind_end rfl) fun o10 => et k_assoc <| kra [(30, (Bo (o10.2 != 0)))] rfl <| kc rfl rfl (fun hc => ?_) fun hc => ?_
      · rw [hc]
        refine et k_assoc <| kr ⟨[(2, (V.sl 0 1 (List.map (V.int .u8) ([] : List Int)))), (3, (I o10.2))], [], 36⟩ rfl <| et k_ret <| et blk_ret <| et loop_ret <| et (hret _) ?_
        rfl
      · rw [hc]
        exact et k_skip <| kgl f22a10 rfl (fun (o12 : (List Int)) => ⟨[(0, (sS a0)), (4, (V.sl 1 1 (List.map (V.int .u8) o12))), (5, (I x7))], [], 36⟩) (ra 2 2 ⟨[(0, (sS a0)), (4, (V.sl 0 1 (List.map (V.int .u8) x6))), (5, (I x7)), (6, (V.sl 0 1 (List.map (V.int .u8) o10.1))), (7, (I o10.2)), (30, (Bo false)), (32, (V.sl 1 1 (List.map (V.int .u8) x6))), (33, (V.sl 0 1 (List.map (V.int .u8) o10.1)))], [], 36⟩ rfl rfl rfl <| et (reg_eff (x := (app x6 o10.1)) (w := fun v11 => ((V.sl 1 1 (List.map (V.int .u8) v11)), _)) rfl rfl rfl rfl (p_app (e := (V.int .u8)) rfl rfl rfl rfl rfl rfl rfl rfl rfl rfl (by decide))) <| bind_self fun v11 => bind_end rfl) fun o12 => et blk_normal <| kl ⟨[(0, (sS a0)), (4, (V.sl 1 1 (List.map (V.int .u8) o12))), (5, (I (Go.IntKind.wrap .i64 (x7 + 1))))], [], 36⟩ rfl <| et loop_normal <| ih o12 (Go.IntKind.wrap .i64 (x7 + 1))
    · rw [hc]
      exact et k_exit <| et loop_exit <| hK0 x6 x7
theorem ref01_Texts_ok (k : Nat) (a0 : (List Str)) : EV k 22 [(sS a0)] = (ref01_Texts k a0).map ref01_Texts_fin := by
  cases k with
  | zero => rfl
  | succ k =>
    unfold ref01_Texts
    refine et (evF_succ (c := f22c) (N := 36) (regs := f22n) rfl func22 rfl (by decide) rfl rfl rfl) <| kra [] rfl <| et k_assoc <| krp f22a1 rfl ⟨[(0, (sS a0)), (10, (Bo (decide ((a0.length : Int) > 255))))], [], 36⟩ ?_ ?_
    · exact rd 1 [(8, (sS a0))] rfl rfl <| rl rfl (p_len (e := V.str) rfl rfl rfl rfl rfl rfl underlying22) <| bind_end rfl
    refine kc rfl rfl (fun hc => ?_) fun hc => ?_
    · rw [hc]
      refine et k_assoc <| kr ⟨[(2, (V.sl 0 1 (List.map (V.int .u8) ([] : List Int)))), (3, (I 2))], [], 36⟩ rfl <| et k_ret ?_
      rfl
    · rw [hc]
      refine et k_skip <| krp f22a3 rfl ⟨[(0, (sS a0)), (4, (V.sl 1 1 (List.map (V.int .u8) ([(Go.IntKind.wrap .u8 (a0.length : Int))] : List Int))))], [], 36⟩ ?_ ?_
      · exact rd 1 [(11, (sS a0))] rfl rfl <| rl rfl (p_len (e := V.str) rfl rfl rfl rfl rfl rfl underlying22) <| bind_end rfl
      refine et k_assoc <| kra [(5, (I 0))] rfl <| et (k_block rfl) <| et k_loop ?_
      refine ref01_Texts_L1_ok k a0 _ _ ?h_ref01_Texts_L1_0 ?hr_ref01_Texts_L1 k ([(Go.IntKind.wrap .u8 (a0.length : Int))] : List Int) 0
      · intro y13 y14
        refine et blk_exit <| kr ⟨[(2, (V.sl 0 1 (List.map (V.int .u8) y13))), (3, (I 0))], [], 36⟩ rfl <| et k_lret ?_
        rfl
      · intro s; exact rfl
def law01_OctetBytes_fin : Bool → V × List V := fun r => ((Bo r), [])
theorem law01_OctetBytes_ok (k : Nat) (a0 : T_arr2_Int) (a1 : Str) (a2 : (List Str)) : EV k 4 [(eInt a0), (Sr a1), (sS a2)] = (law01_OctetBytes k a0 a1 a2).map law01_OctetBytes_fin := by
  cases k with
  | zero => rfl
  | succ k =>
    unfold law01_OctetBytes
    refine et (evF_succ (c := f4c) (N := 106) (regs := f4n) rfl func4 rfl (by decide) rfl rfl rfl) <| kr ⟨[(1, (Sr a1)), (2, (sS a2)), (3, (Pt 3))], [(3, vS 2 (eInt a0))], 106⟩ rfl <| et k_assoc <| kga f4a1 rfl (fun (o2 : Bool) => [(17, (Bo o2))]) ?_ fun o2 => ?_
    · refine rd 1 [(11, (sS a2))] rfl rfl <| rp rfl (p_call rfl rfl rfl rfl rfl (law01_Large_ok k a2) (.inl rfl)) fun v1 => bd 3 [(12, (Bo v1)), (13, (Bo v1))] rfl rfl <| bifE (fun hc => ?_) fun hc => ?_
      · rw [hc]
        exact reg_end rfl
      · rw [hc]
        exact reg_end rfl
    refine kc rfl rfl (fun hc => ?_) fun hc => ?_
    · rw [hc]
      refine et k_assoc <| kg f4a2 rfl (fun (o4 : Bool) => ⟨[(6, (Bo o4))], [], 106⟩) (rs rfl (p_call rfl rfl rfl rfl rfl (law01_First_ok k) (.inl rfl)) fun v3 => bind_end rfl) fun o4 => et k_ret ?_
      rfl
    · rw [hc]
      refine et k_skip <| kg f4a3 rfl (fun (o6 : (List Int) × Int) => ⟨[(1, (Sr a1)), (2, (sS a2)), (3, (Pt 3)), (7, (V.sl 0 1 (List.map (V.int .u8) o6.1))), (8, (I o6.2))], [(3, vS 2 (eInt a0))], 106⟩) (rd 2 [(20, (Pt 3)), (21, (I a0.e0))] rfl rfl <| rp rfl (p_call rfl rfl rfl rfl rfl (octet_Small_ok k a0.e0) (.inl rfl)) fun v5 => bind_end rfl) fun o6 => kga f4a4 rfl (fun (o8 : (List Int) × Int) => [(9, (V.sl 0 1 (List.map (V.int .u8) o8.1))), (10, (I o8.2))]) (rd 2 [(26, (Pt 3)), (27, (I a0.e0))] rfl rfl <| rp rfl (p_call rfl rfl rfl rfl rfl (ref01_Small_ok k a0.e0) (.inl rfl)) fun v7 => bind_end rfl) fun o8 => et k_assoc <| kg f4a5 rfl (fun (o9 : Bool) => ⟨[(1, (Sr a1)), (2, (sS a2)), (3, (Pt 3)), (40, (Bo o9))], [(3, vS 2 (eInt a0))], 106⟩) ?_ fun o9 => ?_
      · refine rd 1 [(31, (V.sl 0 1 (List.map (V.int .u8) o6.1)))] rfl rfl <| rl rfl (p_convBS (l := o6.1) rfl rfl underlying26 underlying9 underlying5) <| bd 3 [(32, (Sr (Go.AE.strB o6.1))), (33, (V.sl 0 1 (List.map (V.int .u8) o8.1)))] rfl rfl <| rl rfl (p_convBS (l := o8.1) rfl rfl underlying26 underlying9 underlying5) <| bd 6 [(34, (Sr (Go.AE.strB o8.1))), (35, (Bo (!((Go.AE.strB o6.1) == (Go.AE.strB o8.1))))), (36, (Bo (!((Go.AE.strB o6.1) == (Go.AE.strB o8.1)))))] rfl rfl <| bifE (fun hc => ?_) fun hc => ?_
        · rw [hc]
          exact reg_end rfl
        · rw [hc]
          exact reg_end rfl
      refine kc rfl rfl (fun hc => ?_) fun hc => ?_
      · rw [hc]
        refine et k_assoc <| kr ⟨[(6, (Bo false))], [], 106⟩ rfl <| et k_ret ?_
        rfl
      · rw [hc]
        refine et k_skip <| kg f4a7 rfl (fun (o11 : (List Int) × Int) => ⟨[(1, (Sr a1)), (2, (sS a2)), (3, (Pt 3)), (7, (V.sl 0 1 (List.map (V.int .u8) o11.1))), (8, (I o11.2))], [(3, vS 2 (eInt a0))], 106⟩) (rd 2 [(42, (V.ptr 3 0 1)), (43, (I a0.e1))] rfl rfl <| rp rfl (p_call rfl rfl rfl rfl rfl (octet_Number_ok k a0.e1) (.inl rfl)) fun v10 => bind_end rfl) fun o11 => kg f4a8 rfl (fun (o13 : (List Int) × Int) => ⟨[(1, (Sr a1)), (2, (sS a2)), (7, (V.sl 0 1 (List.map (V.int .u8) o11.1))), (8, (I o11.2)), (9, (V.sl 0 1 (List.map (V.int .u8) o13.1))), (10, (I o13.2))], [], 106⟩) (rd 2 [(48, (V.ptr 3 0 1)), (49, (I a0.e1))] rfl rfl <| rp rfl (p_call rfl rfl rfl rfl rfl (ref01_Number_ok k a0.e1) (.inl rfl)) fun v12 => bind_end rfl) fun o13 => et k_assoc <| kg f4a9 rfl (fun (o14 : Bool) => ⟨[(1, (Sr a1)), (2, (sS a2)), (62, (Bo o14))], [], 106⟩) ?_ fun o14 => ?_
        · refine rd 1 [(53, (V.sl 0 1 (List.map (V.int .u8) o11.1)))] rfl rfl <| rl rfl (p_convBS (l := o11.1) rfl rfl underlying26 underlying9 underlying5) <| bd 3 [(54, (Sr (Go.AE.strB o11.1))), (55, (V.sl 0 1 (List.map (V.int .u8) o13.1)))] rfl rfl <| rl rfl (p_convBS (l := o13.1) rfl rfl underlying26 underlying9 underlying5) <| bd 6 [(56, (Sr (Go.AE.strB o13.1))), (57, (Bo (!((Go.AE.strB o11.1) == (Go.AE.strB o13.1))))), (58, (Bo (!((Go.AE.strB o11.1) == (Go.AE.strB o13.1)))))] rfl rfl <| bifE (fun hc => ?_) fun hc => ?_
          · rw [hc]
            exact reg_end rfl
          · rw [hc]
            exact reg_end rfl
        refine kc rfl rfl (fun hc => ?_) fun hc => ?_
        · rw [hc]
          refine et k_assoc <| kr ⟨[(6, (Bo false))], [], 106⟩ rfl <| et k_ret ?_
          rfl
        · rw [hc]
          refine et k_skip <| kg f4a11 rfl (fun (o16 : (List Int) × Int) => ⟨[(1, (Sr a1)), (2, (sS a2)), (7, (V.sl 0 1 (List.map (V.int .u8) o16.1))), (8, (I o16.2))], [], 106⟩) (rd 1 [(64, (Sr a1))] rfl rfl <| rp rfl (p_call rfl rfl rfl rfl rfl (octet_Text_ok k a1) (.inl rfl)) fun v15 => bind_end rfl) fun o16 => kg f4a12 rfl (fun (o18 : (List Int) × Int) => ⟨[(2, (sS a2)), (7, (V.sl 0 1 (List.map (V.int .u8) o16.1))), (8, (I o16.2)), (9, (V.sl 0 1 (List.map (V.int .u8) o18.1))), (10, (I o18.2))], [], 106⟩) (rd 1 [(69, (Sr a1))] rfl rfl <| rp rfl (p_call rfl rfl rfl rfl rfl (ref01_Text_ok k a1) (.inl rfl)) fun v17 => bind_end rfl) fun o18 => et k_assoc <| kg f4a13 rfl (fun (o19 : Bool) => ⟨[(2, (sS a2)), (82, (Bo o19))], [], 106⟩) ?_ fun o19 => ?_
          · refine rd 1 [(73, (V.sl 0 1 (List.map (V.int .u8) o16.1)))] rfl rfl <| rl rfl (p_convBS (l := o16.1) rfl rfl underlying26 underlying9 underlying5) <| bd 3 [(74, (Sr (Go.AE.strB o16.1))), (75, (V.sl 0 1 (List.map (V.int .u8) o18.1)))] rfl rfl <| rl rfl (p_convBS (l := o18.1) rfl rfl underlying26 underlying9 underlying5) <| bd 6 [(76, (Sr (Go.AE.strB o18.1))), (77, (Bo (!((Go.AE.strB o16.1) == (Go.AE.strB o18.1))))), (78, (Bo (!((Go.AE.strB o16.1) == (Go.AE.strB o18.1)))))] rfl rfl <| bifE (fun hc => ?_) fun hc => ?_
            · rw [hc]
              exact reg_end rfl
            · rw [hc]
              exact reg_end rfl
          refine kc rfl rfl (fun hc => ?_) fun hc => ?_
          · rw [hc]
            refine et k_assoc <| kr ⟨[(6, (Bo false))], [], 106⟩ rfl <| et k_ret ?_
            rfl
          · rw [hc]
            refine et k_skip <| kg f4a15 rfl (fun (o21 : (List Int) × Int) => ⟨[(2, (sS a2)), (7, (V.sl 0 1 (List.map (V.int .u8) o21.1))), (8, (I o21.2))], [], 106⟩) (rd 1 [(84, (sS a2))] rfl rfl <| rp rfl (p_call rfl rfl rfl rfl rfl (octet_Texts_ok k a2) (.inl rfl)) fun v20 => bind_end rfl) fun o21 => kg f4a16 rfl (fun (o23 : (List Int) × Int) => ⟨[(7, (V.sl 0 1 (List.map (V.int .u8) o21.1))), (8, (I o21.2)), (9, (V.sl 0 1 (List.map (V.int .u8) o23.1))), (10, (I o23.2))], [], 106⟩) (rd 1 [(89, (sS a2))] rfl rfl <| rp rfl (p_call rfl rfl rfl rfl rfl (ref01_Texts_ok k a2) (.inl rfl)) fun v22 => bind_end rfl) fun o23 => kg f4a17 rfl (fun (o25 : Bool) => ⟨[(6, (Bo o25))], [], 106⟩) ?_ fun o25 => ?_
            · refine rd 1 [(93, (V.sl 0 1 (List.map (V.int .u8) o21.1)))] rfl rfl <| rl rfl (p_convBS (l := o21.1) rfl rfl underlying26 underlying9 underlying5) <| bd 3 [(94, (Sr (Go.AE.strB o21.1))), (95, (V.sl 0 1 (List.map (V.int .u8) o23.1)))] rfl rfl <| rl rfl (p_convBS (l := o23.1) rfl rfl underlying26 underlying9 underlying5) <| bd 6 [(96, (Sr (Go.AE.strB o23.1))), (97, (Bo ((Go.AE.strB o21.1) == (Go.AE.strB o23.1)))), (98, (Bo ((Go.AE.strB o21.1) == (Go.AE.strB o23.1))))] rfl rfl <| bifE (fun hc => ?_) fun hc => ?_
              · rw [hc]
                refine rd 11 [(99, (I o21.2)), (100, (I o23.2)), (101, (Bo (o21.2 == o23.2))), (102, (Bo (o21.2 == o23.2))), (103, (Bo (o21.2 == o23.2)))] rfl rfl <| bifE (fun hc => ?_) fun hc => ?_
                · rw [hc]
                  exact rs rfl (p_call rfl rfl rfl rfl rfl (law01_First_ok k) (.inl rfl)) fun v24 => bind_end rfl
                · rw [hc]
                  exact reg_end rfl
              · rw [hc]
                exact reg_end rfl
            refine et k_lret ?_
            rfl
end
end Go.AE
