/- The program, function by function: the evaluator comes to the typed functions. Conditions: none. -/
import Derived.Test.YteecoopnleidaaaDoorA3
import Derived.KernelRfl
import Derived.Test.YteecoopnleidaaaDoorProg
import Derived.Test.YteecoopnleidaaaDoorB1
namespace Go.AE
open Go.Proofs.Tryd Go.Sh
set_option linter.unusedSimpArgs false
set_option linter.unusedVariables false
set_option maxRecDepth 100000
set_option maxHeartbeats 4000000
noncomputable section
abbrev Pt (n : Nat) : V := .ptr n 0 0
abbrev Bo (b : Bool) : V := .bool b
abbrev Sr (s : Str) : V := .str s
abbrev Pr (v : V) : V := .pro v
abbrev sS (l : List Str) : V := .sl 0 1 (List.map V.str l)
abbrev vS (n : Nat) (v : V) : Site := ⟨false, n, [v]⟩
abbrev aL {α : Type} (d : Nat) (e : α → V) (l : List α) : V := .aref d 0 (List.map e l).length
def eInt (a : T_arr2_Int) : V := .agg [(V.int .i64 a.e0), (V.int .i64 a.e1)]
def eReader (a : T_octet_Reader) : V := .agg [(V.bool a.fmade), (V.sl 0 1 (List.map (V.int .u8) a.fb)), (V.bool a.fbad)]
noncomputable def f15o0 : Array Oper := cO (cL (cB f15))
def f15a0 : RAnn := ⟨[2, 3], []⟩
noncomputable def f15o1 : Array Oper := cO (cL (cL (cR (cB f15))))
def f15a1 : RAnn := ⟨[4, 5, 6, 7, 8], []⟩
noncomputable def f15o2 : Array Oper := cO (cL (cL (cR (cL (cR (cB f15))))))
def f15a2 : RAnn := ⟨[0, 9], []⟩
noncomputable def f15o3 : Array Oper := cO (cL (cR (cR (cB f15))))
def f15a3 : RAnn := ⟨[0, 9, 10, 11, 12], []⟩
def f15c : Code := (.seq (.region 0 f15o0 false) (.seq (.seq (.region 1 f15o1 false) (.cond (.tmp 9) (.seq (.region 2 f15o2 false) .ret) .skip)) (.seq (.region 3 f15o3 false) .ret)))
def f15n : List (Nat × RAnn) := [(0, f15a0), (1, f15a1), (2, f15a2), (3, f15a3)]
noncomputable def f17o0 : Array Oper := cO (cL (cB f17))
def f17a0 : RAnn := ⟨[2, 3], []⟩
noncomputable def f17o1 : Array Oper := cO (cL (cL (cR (cB f17))))
def f17a1 : RAnn := ⟨[4, 5, 6, 7, 8], []⟩
noncomputable def f17o2 : Array Oper := cO (cL (cL (cR (cL (cR (cB f17))))))
def f17a2 : RAnn := ⟨[0, 9], []⟩
noncomputable def f17o3 : Array Oper := cO (cL (cR (cR (cB f17))))
def f17a3 : RAnn := ⟨[0, 9, 10, 11, 12, 13, 14, 15, 16, 17, 18, 19, 20, 21], []⟩
def f17c : Code := (.seq (.region 0 f17o0 false) (.seq (.seq (.region 1 f17o1 false) (.cond (.tmp 9) (.seq (.region 2 f17o2 false) .ret) .skip)) (.seq (.region 3 f17o3 false) .ret)))
def f17n : List (Nat × RAnn) := [(0, f17a0), (1, f17a1), (2, f17a2), (3, f17a3)]
noncomputable def f19o0 : Array Oper := cO (cL (cB f19))
def f19a0 : RAnn := ⟨[2, 3], []⟩
noncomputable def f19o1 : Array Oper := cO (cL (cL (cR (cB f19))))
def f19a1 : RAnn := ⟨[4, 5], []⟩
noncomputable def f19o2 : Array Oper := cO (cL (cL (cR (cL (cR (cB f19))))))
def f19a2 : RAnn := ⟨[0, 6], []⟩
noncomputable def f19o3 : Array Oper := cO (cL (cR (cR (cB f19))))
def f19a3 : RAnn := ⟨[0, 6, 7, 8, 9, 10, 11, 12], [(3, { keep := [0] }), (5, { tk := [10] })]⟩
def f19c : Code := (.seq (.region 0 f19o0 false) (.seq (.seq (.region 1 f19o1 false) (.cond (.tmp 6) (.seq (.region 2 f19o2 false) .ret) .skip)) (.seq (.region 3 f19o3 false) .ret)))
def f19n : List (Nat × RAnn) := [(0, f19a0), (1, f19a1), (2, f19a2), (3, f19a3)]
noncomputable def f21o0 : Array Oper := cO (cL (cB f21))
def f21a0 : RAnn := ⟨[2, 3], []⟩
noncomputable def f21o1 : Array Oper := cO (cL (cL (cR (cB f21))))
def f21a1 : RAnn := ⟨[9, 10], []⟩
noncomputable def f21o2 : Array Oper := cO (cL (cL (cR (cL (cR (cB f21))))))
def f21a2 : RAnn := ⟨[0, 11], []⟩
noncomputable def f21o3 : Array Oper := cO (cL (cR (cR (cB f21))))
def f21a3 : RAnn := ⟨[11, 12, 13, 14, 15], [(3, { keep := [0] }), (4, { tk := [15], keep := [0] })]⟩
noncomputable def f21o4 : Array Oper := cO (cL (cL (cR (cR (cR (cB f21))))))
def f21a4 : RAnn := ⟨[0], []⟩
noncomputable def f21o5 : Array Oper := cO (cL (cL (cL (cR (cL (cR (cR (cR (cB f21)))))))))
def f21a5 : RAnn := ⟨[], []⟩
noncomputable def f21o6 : Array Oper := cO (cL (cL (cL (cR (cR (cL (cL (cR (cL (cR (cR (cR (cB f21)))))))))))))
def f21a6 : RAnn := ⟨[19, 20, 21], []⟩
noncomputable def f21o7 : Array Oper := cO (cL (cR (cL (cL (cR (cR (cL (cL (cR (cL (cR (cR (cR (cB f21))))))))))))))
def f21a7 : RAnn := ⟨[6, 22, 23, 24, 25, 26], []⟩
noncomputable def f21o8 : Array Oper := cO (cL (cL (cR (cR (cL (cL (cR (cR (cL (cL (cR (cL (cR (cR (cR (cB f21))))))))))))))))
def f21a8 : RAnn := ⟨[27], []⟩
noncomputable def f21o9 : Array Oper := cO (cL (cL (cR (cL (cR (cR (cL (cL (cR (cR (cL (cL (cR (cL (cR (cR (cR (cB f21))))))))))))))))))
def f21a9 : RAnn := ⟨[4, 7, 8, 16, 17, 18, 28, 29], []⟩
noncomputable def f21o10 : Array Oper := cO (cR (cR (cR (cL (cL (cR (cR (cL (cL (cR (cL (cR (cR (cR (cB f21)))))))))))))))
def f21a10 : RAnn := ⟨[7, 8, 28, 30, 31, 32], [(0, { tk := [4], keep := [0] }), (2, { tk := [30], keep := [0] }), (3, { tk := [32], keep := [0] })]⟩
noncomputable def f21o11 : Array Oper := cO (cR (cR (cR (cL (cL (cR (cL (cR (cR (cR (cB f21)))))))))))
def f21a11 : RAnn := ⟨[33], []⟩
noncomputable def f21o12 : Array Oper := cO (cL (cR (cR (cR (cR (cB f21))))))
def f21a12 : RAnn := ⟨[4, 16, 17, 18, 19, 34], []⟩
def f21b0 : Code := (.seq (.region 5 f21o5 false) (.seq (.cond (.tmp 19) .skip (.exit 0)) (.seq (.block 1 (.seq (.region 6 f21o6 false) (.seq (.region 7 f21o7 false) (.seq (.seq (.region 8 f21o8 false) (.cond (.tmp 28) (.seq (.region 9 f21o9 false) .ret) .skip)) (.region 10 f21o10 false))))) (.region 11 f21o11 false))))
def f21c : Code := (.seq (.region 0 f21o0 false) (.seq (.seq (.region 1 f21o1 false) (.cond (.tmp 11) (.seq (.region 2 f21o2 false) .ret) .skip)) (.seq (.region 3 f21o3 false) (.seq (.seq (.region 4 f21o4 false) (.block 0 (.loop f21b0))) (.seq (.region 12 f21o12 false) .ret)))))
def f21n : List (Nat × RAnn) := [(0, f21a0), (1, f21a1), (2, f21a2), (3, f21a3), (4, f21a4), (5, f21a5), (6, f21a6), (7, f21a7), (8, f21a8), (9, f21a9), (10, f21a10), (11, f21a11), (12, f21a12)]
noncomputable def f10o0 : Array Oper := cO (cL (cB f10))
def f10a0 : RAnn := ⟨[2], []⟩
noncomputable def f10o1 : Array Oper := cO (cL (cL (cR (cB f10))))
def f10a1 : RAnn := ⟨[], []⟩
noncomputable def f10o2 : Array Oper := cO (cL (cL (cL (cL (cR (cL (cR (cB f10))))))))
def f10a2 : RAnn := ⟨[4, 5, 6], []⟩
noncomputable def f10o3 : Array Oper := cO (cR (cR (cL (cL (cR (cL (cR (cB f10))))))))
def f10a3 : RAnn := ⟨[8, 9, 15], []⟩
noncomputable def f10o4 : Array Oper := cO (cL (cL (cL (cR (cL (cL (cR (cL (cR (cB f10))))))))))
def f10a4 : RAnn := ⟨[7, 10, 11, 12, 13, 14], []⟩
noncomputable def f10o5 : Array Oper := cO (cL (cL (cR (cL (cL (cR (cL (cL (cR (cL (cR (cB f10))))))))))))
def f10a5 : RAnn := ⟨[0, 3, 15], []⟩
noncomputable def f10o6 : Array Oper := cO (cL (cR (cR (cB f10))))
def f10a6 : RAnn := ⟨[0, 3, 7, 16, 17, 18], []⟩
def f10b0 : Code := (.seq (.seq (.region 2 f10o2 false) (.cond (.tmp 7) .skip (.exit 0))) (.seq (.block 1 (.seq (.region 4 f10o4 false) (.cond (.tmp 15) (.seq (.region 5 f10o5 false) .ret) .skip))) (.region 3 f10o3 false)))
def f10c : Code := (.seq (.region 0 f10o0 false) (.seq (.seq (.region 1 f10o1 false) (.block 0 (.loop f10b0))) (.seq (.region 6 f10o6 false) .ret)))
def f10n : List (Nat × RAnn) := [(0, f10a0), (1, f10a1), (2, f10a2), (3, f10a3), (4, f10a4), (5, f10a5), (6, f10a6)]
noncomputable def f46o0 : Array Oper := cO (cL (cB f46))
def f46a0 : RAnn := ⟨[4, 5], []⟩
noncomputable def f46o1 : Array Oper := cO (cL (cR (cB f46)))
def f46a1 : RAnn := ⟨[7, 8], []⟩
noncomputable def f46o2 : Array Oper := cO (cL (cL (cR (cR (cB f46)))))
def f46a2 : RAnn := ⟨[0, 9, 10, 11, 12, 13, 14, 15, 16, 17, 18, 19, 20, 21, 22, 23], []⟩
noncomputable def f46o3 : Array Oper := cO (cL (cL (cR (cL (cR (cR (cB f46)))))))
def f46a3 : RAnn := ⟨[1, 6, 24], []⟩
noncomputable def f46o4 : Array Oper := cO (cL (cR (cR (cR (cB f46)))))
def f46a4 : RAnn := ⟨[1, 6, 24, 25, 26, 27, 28, 29, 30, 31], []⟩
def f46c : Code := (.seq (.region 0 f46o0 false) (.seq (.region 1 f46o1 false) (.seq (.seq (.region 2 f46o2 false) (.cond (.tmp 24) (.seq (.region 3 f46o3 false) .ret) .skip)) (.seq (.region 4 f46o4 false) .ret))))
def f46n : List (Nat × RAnn) := [(0, f46a0), (1, f46a1), (2, f46a2), (3, f46a3), (4, f46a4)]
noncomputable def f40o0 : Array Oper := cO (cL (cB f40))
def f40a0 : RAnn := ⟨[4, 5], []⟩
noncomputable def f40o1 : Array Oper := cO (cL (cL (cR (cB f40))))
def f40a1 : RAnn := ⟨[6, 7, 8, 9, 10, 11, 12], []⟩
noncomputable def f40o2 : Array Oper := cO (cL (cL (cR (cL (cR (cB f40))))))
def f40a2 : RAnn := ⟨[0, 1, 13], []⟩
noncomputable def f40o3 : Array Oper := cO (cL (cR (cR (cB f40))))
def f40a3 : RAnn := ⟨[0, 1, 13, 14, 15, 16, 17, 18, 19, 20], []⟩
def f40c : Code := (.seq (.region 0 f40o0 false) (.seq (.seq (.region 1 f40o1 false) (.cond (.tmp 13) (.seq (.region 2 f40o2 false) .ret) .skip)) (.seq (.region 3 f40o3 false) .ret)))
def f40n : List (Nat × RAnn) := [(0, f40a0), (1, f40a1), (2, f40a2), (3, f40a3)]
noncomputable def f14o0 : Array Oper := cO (cL (cB f14))
def f14a0 : RAnn := ⟨[2], []⟩
noncomputable def f14o1 : Array Oper := cO (cL (cR (cB f14)))
def f14a1 : RAnn := ⟨[], [(0, { keep := [0] })]⟩
noncomputable def f14o2 : Array Oper := cO (cL (cL (cR (cR (cB f14)))))
def f14a2 : RAnn := ⟨[0], []⟩
noncomputable def f14o3 : Array Oper := cO (cL (cL (cL (cR (cL (cR (cR (cB f14))))))))
def f14a3 : RAnn := ⟨[], []⟩
noncomputable def f14o4 : Array Oper := cO (cL (cL (cL (cR (cR (cL (cL (cR (cL (cR (cR (cB f14))))))))))))
def f14a4 : RAnn := ⟨[9, 10, 11], []⟩
noncomputable def f14o5 : Array Oper := cO (cL (cR (cL (cL (cR (cR (cL (cL (cR (cL (cR (cR (cB f14)))))))))))))
def f14a5 : RAnn := ⟨[5, 12, 13, 14, 15], [(0, { tk := [3], keep := [0] }), (3, { tk := [12], keep := [0] }), (4, { tk := [15], keep := [0] })]⟩
noncomputable def f14o6 : Array Oper := cO (cR (cR (cL (cL (cR (cR (cL (cL (cR (cL (cR (cR (cB f14)))))))))))))
def f14a6 : RAnn := ⟨[16, 17, 18], [(0, { tk := [3], keep := [0] }), (2, { tk := [16], keep := [0] }), (3, { tk := [18], keep := [0] })]⟩
noncomputable def f14o7 : Array Oper := cO (cR (cR (cR (cL (cL (cR (cL (cR (cR (cB f14))))))))))
def f14a7 : RAnn := ⟨[19], []⟩
noncomputable def f14o8 : Array Oper := cO (cL (cR (cR (cR (cB f14)))))
def f14a8 : RAnn := ⟨[3, 6, 7, 8, 9, 20], []⟩
def f14b0 : Code := (.seq (.region 3 f14o3 false) (.seq (.cond (.tmp 9) .skip (.exit 0)) (.seq (.block 1 (.seq (.region 4 f14o4 false) (.seq (.region 5 f14o5 false) (.region 6 f14o6 false)))) (.region 7 f14o7 false))))
def f14c : Code := (.seq (.region 0 f14o0 false) (.seq (.region 1 f14o1 false) (.seq (.seq (.region 2 f14o2 false) (.block 0 (.loop f14b0))) (.seq (.region 8 f14o8 false) .ret))))
def f14n : List (Nat × RAnn) := [(0, f14a0), (1, f14a1), (2, f14a2), (3, f14a3), (4, f14a4), (5, f14a5), (6, f14a6), (7, f14a7), (8, f14a8)]
noncomputable def f11o0 : Array Oper := cO (cL (cB f11))
def f11a0 : RAnn := ⟨[0], []⟩
noncomputable def f11o1 : Array Oper := cO (cL (cR (cB f11)))
def f11a1 : RAnn := ⟨[9, 10, 11, 12], []⟩
noncomputable def f11o2 : Array Oper := cO (cL (cR (cR (cB f11))))
def f11a2 : RAnn := ⟨[13, 14, 15, 16], []⟩
noncomputable def f11o3 : Array Oper := cO (cL (cR (cR (cR (cB f11)))))
def f11a3 : RAnn := ⟨[17, 18, 19, 20], []⟩
noncomputable def f11o4 : Array Oper := cO (cL (cR (cR (cR (cR (cB f11))))))
def f11a4 : RAnn := ⟨[21, 22, 23, 24], []⟩
noncomputable def f11o5 : Array Oper := cO (cL (cR (cR (cR (cR (cR (cB f11)))))))
def f11a5 : RAnn := ⟨[1, 2, 3, 4, 5, 6, 7, 8, 25, 26, 27, 28, 29, 30, 31, 32, 33, 34, 35, 36, 37, 38, 39, 40, 41, 42, 43, 44, 45, 46, 47, 48, 49, 50, 51, 52, 53, 54, 55, 56, 57, 58, 59, 60, 61, 62], []⟩
def f11c : Code := (.seq (.region 0 f11o0 false) (.seq (.region 1 f11o1 false) (.seq (.region 2 f11o2 false) (.seq (.region 3 f11o3 false) (.seq (.region 4 f11o4 false) (.seq (.region 5 f11o5 false) .ret))))))
def f11n : List (Nat × RAnn) := [(0, f11a0), (1, f11a1), (2, f11a2), (3, f11a3), (4, f11a4), (5, f11a5)]
noncomputable def f53o0 : Array Oper := cO (cL (cB f53))
def f53a0 : RAnn := ⟨[2], []⟩
noncomputable def f53o1 : Array Oper := cO (cL (cL (cR (cB f53))))
def f53a1 : RAnn := ⟨[3], []⟩
noncomputable def f53o2 : Array Oper := cO (cL (cL (cR (cL (cR (cB f53))))))
def f53a2 : RAnn := ⟨[], []⟩
noncomputable def f53o3 : Array Oper := cO (cL (cR (cR (cB f53))))
def f53a3 : RAnn := ⟨[0, 4, 5, 6, 7], [(0, { keep := [0] }), (2, { tk := [5] })]⟩
def f53c : Code := (.seq (.region 0 f53o0 false) (.seq (.seq (.region 1 f53o1 false) (.cond (.tmp 4) (.seq (.region 2 f53o2 false) .ret) .skip)) (.seq (.region 3 f53o3 false) .ret)))
def f53n : List (Nat × RAnn) := [(0, f53a0), (1, f53a1), (2, f53a2), (3, f53a3)]
noncomputable def f34o0 : Array Oper := cO (cL (cB f34))
def f34a0 : RAnn := ⟨[2], []⟩
noncomputable def f34o1 : Array Oper := cO (cL (cR (cB f34)))
def f34a1 : RAnn := ⟨[0, 3, 4, 5], []⟩
def f34c : Code := (.seq (.region 0 f34o0 false) (.seq (.region 1 f34o1 false) .ret))
def f34n : List (Nat × RAnn) := [(0, f34a0), (1, f34a1)]
noncomputable def f52o0 : Array Oper := cO (cL (cB f52))
def f52a0 : RAnn := ⟨[2], []⟩
noncomputable def f52o1 : Array Oper := cO (cL (cR (cB f52)))
def f52a1 : RAnn := ⟨[0, 3, 4, 5, 6, 7, 8, 9, 10, 11], []⟩
def f52c : Code := (.seq (.region 0 f52o0 false) (.seq (.region 1 f52o1 false) .ret))
def f52n : List (Nat × RAnn) := [(0, f52a0), (1, f52a1)]
noncomputable def f51o0 : Array Oper := cO (cL (cB f51))
def f51a0 : RAnn := ⟨[4, 5], []⟩
noncomputable def f51o1 : Array Oper := cO (cL (cL (cL (cR (cB f51)))))
def f51a1 : RAnn := ⟨[8, 9], []⟩
noncomputable def f51o2 : Array Oper := cO (cL (cL (cR (cL (cL (cR (cB f51)))))))
def f51a2 : RAnn := ⟨[0, 1, 7], []⟩
noncomputable def f51o3 : Array Oper := cO (cL (cR (cR (cL (cL (cR (cB f51)))))))
def f51a3 : RAnn := ⟨[7, 11, 12, 13, 14, 15, 16, 17, 18, 19, 20, 21, 22, 23], []⟩
noncomputable def f51o4 : Array Oper := cO (cL (cL (cR (cR (cR (cL (cL (cR (cB f51)))))))))
def f51a4 : RAnn := ⟨[0, 1, 10, 24, 25, 26], []⟩
noncomputable def f51o5 : Array Oper := cO (cL (cR (cL (cR (cR (cR (cL (cL (cR (cB f51))))))))))
def f51a5 : RAnn := ⟨[], []⟩
noncomputable def f51o6 : Array Oper := cO (cL (cR (cR (cB f51))))
def f51a6 : RAnn := ⟨[10, 27, 28, 29, 30, 31, 32], []⟩
noncomputable def f51o7 : Array Oper := cO (cL (cR (cR (cR (cB f51)))))
def f51a7 : RAnn := ⟨[0, 1, 33, 34, 35, 36, 37, 38, 39, 40, 41], []⟩
noncomputable def f51o8 : Array Oper := cO (cL (cR (cR (cR (cR (cB f51))))))
def f51a8 : RAnn := ⟨[6, 42], []⟩
def f51c : Code := (.seq (.region 0 f51o0 false) (.seq (.block 0 (.seq (.region 1 f51o1 false) (.cond (.tmp 7) (.seq (.region 2 f51o2 false) .ret) (.seq (.region 3 f51o3 false) (.cond (.tmp 10) (.seq (.region 4 f51o4 false) (.seq (.region 5 f51o5 false) .ret)) .skip))))) (.seq (.region 6 f51o6 false) (.seq (.region 7 f51o7 false) (.seq (.region 8 f51o8 false) .ret)))))
def f51n : List (Nat × RAnn) := [(0, f51a0), (1, f51a1), (2, f51a2), (3, f51a3), (4, f51a4), (5, f51a5), (6, f51a6), (7, f51a7), (8, f51a8)]
noncomputable def f27o0 : Array Oper := cO (cL (cB f27))
def f27a0 : RAnn := ⟨[2, 3], []⟩
noncomputable def f27o1 : Array Oper := cO (cL (cR (cB f27)))
def f27a1 : RAnn := ⟨[0, 6, 7, 8, 9, 10], [(1, { eff := true })]⟩
noncomputable def f27o2 : Array Oper := cO (cL (cL (cR (cR (cB f27)))))
def f27a2 : RAnn := ⟨[11], []⟩
noncomputable def f27o3 : Array Oper := cO (cL (cL (cR (cL (cR (cR (cB f27)))))))
def f27a3 : RAnn := ⟨[4, 5, 12, 13], []⟩
noncomputable def f27o4 : Array Oper := cO (cL (cR (cR (cR (cB f27)))))
def f27a4 : RAnn := ⟨[4, 5, 12, 14, 15, 16, 17], []⟩
def f27c : Code := (.seq (.region 0 f27o0 false) (.seq (.region 1 f27o1 false) (.seq (.seq (.region 2 f27o2 false) (.cond (.tmp 12) (.seq (.region 3 f27o3 false) .ret) .skip)) (.seq (.region 4 f27o4 false) .ret))))
def f27n : List (Nat × RAnn) := [(0, f27a0), (1, f27a1), (2, f27a2), (3, f27a3), (4, f27a4)]
noncomputable def f28o0 : Array Oper := cO (cL (cB f28))
def f28a0 : RAnn := ⟨[2, 3], []⟩
noncomputable def f28o1 : Array Oper := cO (cL (cR (cB f28)))
def f28a1 : RAnn := ⟨[0, 9, 10, 11, 12, 13], [(1, { eff := true })]⟩
noncomputable def f28o2 : Array Oper := cO (cL (cL (cR (cR (cB f28)))))
def f28a2 : RAnn := ⟨[14], []⟩
noncomputable def f28o3 : Array Oper := cO (cL (cL (cR (cL (cR (cR (cB f28)))))))
def f28a3 : RAnn := ⟨[4, 5, 15, 16], []⟩
noncomputable def f28o4 : Array Oper := cO (cL (cR (cR (cR (cB f28)))))
def f28a4 : RAnn := ⟨[5, 15], []⟩
noncomputable def f28o5 : Array Oper := cO (cL (cL (cR (cR (cR (cR (cB f28)))))))
def f28a5 : RAnn := ⟨[4], []⟩
noncomputable def f28o6 : Array Oper := cO (cL (cL (cL (cR (cL (cR (cR (cR (cR (cB f28))))))))))
def f28a6 : RAnn := ⟨[], []⟩
noncomputable def f28o7 : Array Oper := cO (cL (cL (cL (cR (cR (cL (cL (cR (cL (cR (cR (cR (cR (cB f28))))))))))))))
def f28a7 : RAnn := ⟨[20, 21, 22], []⟩
noncomputable def f28o8 : Array Oper := cO (cR (cL (cL (cR (cR (cL (cL (cR (cL (cR (cR (cR (cR (cB f28))))))))))))))
def f28a8 : RAnn := ⟨[8, 23, 24, 25, 26, 27], []⟩
noncomputable def f28o9 : Array Oper := cO (cR (cR (cR (cL (cL (cR (cL (cR (cR (cR (cR (cB f28))))))))))))
def f28a9 : RAnn := ⟨[28], []⟩
noncomputable def f28o10 : Array Oper := cO (cL (cR (cR (cR (cR (cR (cB f28)))))))
def f28a10 : RAnn := ⟨[6, 17, 18, 19, 20, 29], []⟩
def f28b0 : Code := (.seq (.region 6 f28o6 false) (.seq (.cond (.tmp 20) .skip (.exit 0)) (.seq (.block 1 (.seq (.region 7 f28o7 false) (.region 8 f28o8 false))) (.region 9 f28o9 false))))
def f28c : Code := (.seq (.region 0 f28o0 false) (.seq (.region 1 f28o1 false) (.seq (.seq (.region 2 f28o2 false) (.cond (.tmp 15) (.seq (.region 3 f28o3 false) .ret) .skip)) (.seq (.region 4 f28o4 false) (.seq (.seq (.region 5 f28o5 false) (.block 0 (.loop f28b0))) (.seq (.region 10 f28o10 false) .ret))))))
def f28n : List (Nat × RAnn) := [(0, f28a0), (1, f28a1), (2, f28a2), (3, f28a3), (4, f28a4), (5, f28a5), (6, f28a6), (7, f28a7), (8, f28a8), (9, f28a9), (10, f28a10)]
noncomputable def f29o0 : Array Oper := cO (cL (cB f29))
def f29a0 : RAnn := ⟨[2, 3], []⟩
noncomputable def f29o1 : Array Oper := cO (cL (cL (cR (cB f29))))
def f29a1 : RAnn := ⟨[9], []⟩
noncomputable def f29o2 : Array Oper := cO (cL (cL (cR (cL (cR (cB f29))))))
def f29a2 : RAnn := ⟨[0, 10], []⟩
noncomputable def f29o3 : Array Oper := cO (cL (cR (cR (cB f29))))
def f29a3 : RAnn := ⟨[10, 11, 12, 13, 14], []⟩
noncomputable def f29o4 : Array Oper := cO (cL (cR (cR (cR (cB f29)))))
def f29a4 : RAnn := ⟨[6, 15, 16, 17, 18, 19], [(1, { eff := true })]⟩
noncomputable def f29o5 : Array Oper := cO (cL (cR (cR (cR (cR (cB f29))))))
def f29a5 : RAnn := ⟨[5, 20, 21, 22, 23, 24, 25], [(2, { eff := true })]⟩
noncomputable def f29o6 : Array Oper := cO (cL (cL (cR (cR (cR (cR (cR (cB f29))))))))
def f29a6 : RAnn := ⟨[26], []⟩
noncomputable def f29o7 : Array Oper := cO (cL (cL (cR (cL (cR (cR (cR (cR (cR (cB f29))))))))))
def f29a7 : RAnn := ⟨[0, 4, 7, 27, 28, 29, 30, 31], []⟩
noncomputable def f29o8 : Array Oper := cO (cL (cR (cL (cR (cL (cR (cR (cR (cR (cR (cB f29)))))))))))
def f29a8 : RAnn := ⟨[8, 32], []⟩
noncomputable def f29o9 : Array Oper := cO (cL (cR (cR (cR (cR (cR (cR (cB f29))))))))
def f29a9 : RAnn := ⟨[0, 4, 7, 8, 27, 33, 34], []⟩
def f29c : Code := (.seq (.region 0 f29o0 false) (.seq (.seq (.region 1 f29o1 false) (.cond (.tmp 10) (.seq (.region 2 f29o2 false) .ret) .skip)) (.seq (.region 3 f29o3 false) (.seq (.region 4 f29o4 false) (.seq (.region 5 f29o5 false) (.seq (.seq (.region 6 f29o6 false) (.cond (.tmp 27) (.seq (.region 7 f29o7 false) (.seq (.region 8 f29o8 false) .ret)) .skip)) (.seq (.region 9 f29o9 false) .ret)))))))
def f29n : List (Nat × RAnn) := [(0, f29a0), (1, f29a1), (2, f29a2), (3, f29a3), (4, f29a4), (5, f29a5), (6, f29a6), (7, f29a7), (8, f29a8), (9, f29a9)]
noncomputable def f30o0 : Array Oper := cO (cL (cB f30))
def f30a0 : RAnn := ⟨[2, 3], []⟩
noncomputable def f30o1 : Array Oper := cO (cL (cL (cR (cB f30))))
def f30a1 : RAnn := ⟨[10], []⟩
noncomputable def f30o2 : Array Oper := cO (cL (cL (cR (cL (cR (cB f30))))))
def f30a2 : RAnn := ⟨[0, 11], []⟩
noncomputable def f30o3 : Array Oper := cO (cL (cR (cR (cB f30))))
def f30a3 : RAnn := ⟨[11, 12, 13, 14, 15], []⟩
noncomputable def f30o4 : Array Oper := cO (cL (cR (cR (cR (cB f30)))))
def f30a4 : RAnn := ⟨[6, 16, 17, 18, 19, 20], [(1, { eff := true })]⟩
noncomputable def f30o5 : Array Oper := cO (cL (cR (cR (cR (cR (cB f30))))))
def f30a5 : RAnn := ⟨[], [(0, { keep := [0] })]⟩
noncomputable def f30o6 : Array Oper := cO (cL (cL (cR (cR (cR (cR (cR (cB f30))))))))
def f30a6 : RAnn := ⟨[5], []⟩
noncomputable def f30o7 : Array Oper := cO (cL (cL (cL (cR (cL (cR (cR (cR (cR (cR (cB f30)))))))))))
def f30a7 : RAnn := ⟨[], []⟩
noncomputable def f30o8 : Array Oper := cO (cL (cL (cL (cR (cR (cL (cL (cR (cL (cR (cR (cR (cR (cR (cB f30)))))))))))))))
def f30a8 : RAnn := ⟨[9, 23, 24, 25, 26, 27, 28], [(1, { eff := true })]⟩
noncomputable def f30o9 : Array Oper := cO (cR (cL (cL (cR (cR (cL (cL (cR (cL (cR (cR (cR (cR (cR (cB f30)))))))))))))))
def f30a9 : RAnn := ⟨[8, 29, 30, 31, 32], [(0, { tk := [7], keep := [0] }), (3, { tk := [29], keep := [0] }), (4, { tk := [32], keep := [0] })]⟩
noncomputable def f30o10 : Array Oper := cO (cR (cR (cR (cL (cL (cR (cL (cR (cR (cR (cR (cR (cB f30)))))))))))))
def f30a10 : RAnn := ⟨[33], []⟩
noncomputable def f30o11 : Array Oper := cO (cL (cL (cR (cR (cR (cR (cR (cR (cB f30)))))))))
def f30a11 : RAnn := ⟨[21, 22, 23, 34, 35, 36], []⟩
noncomputable def f30o12 : Array Oper := cO (cL (cL (cR (cL (cR (cR (cR (cR (cR (cR (cB f30)))))))))))
def f30a12 : RAnn := ⟨[0, 4, 7, 37, 38, 39, 40, 41], []⟩
noncomputable def f30o13 : Array Oper := cO (cL (cR (cL (cR (cL (cR (cR (cR (cR (cR (cR (cB f30))))))))))))
def f30a13 : RAnn := ⟨[], []⟩
noncomputable def f30o14 : Array Oper := cO (cL (cR (cR (cR (cR (cR (cR (cR (cB f30)))))))))
def f30a14 : RAnn := ⟨[0, 4, 7, 37, 42], []⟩
def f30b0 : Code := (.seq (.region 7 f30o7 false) (.seq (.cond (.tmp 23) .skip (.exit 0)) (.seq (.block 1 (.seq (.region 8 f30o8 false) (.region 9 f30o9 false))) (.region 10 f30o10 false))))
def f30c : Code := (.seq (.region 0 f30o0 false) (.seq (.seq (.region 1 f30o1 false) (.cond (.tmp 11) (.seq (.region 2 f30o2 false) .ret) .skip)) (.seq (.region 3 f30o3 false) (.seq (.region 4 f30o4 false) (.seq (.region 5 f30o5 false) (.seq (.seq (.region 6 f30o6 false) (.block 0 (.loop f30b0))) (.seq (.seq (.region 11 f30o11 false) (.cond (.tmp 37) (.seq (.region 12 f30o12 false) (.seq (.region 13 f30o13 false) .ret)) .skip)) (.seq (.region 14 f30o14 false) .ret))))))))
def f30n : List (Nat × RAnn) := [(0, f30a0), (1, f30a1), (2, f30a2), (3, f30a3), (4, f30a4), (5, f30a5), (6, f30a6), (7, f30a7), (8, f30a8), (9, f30a9), (10, f30a10), (11, f30a11), (12, f30a12), (13, f30a13), (14, f30a14)]
noncomputable def f26o0 : Array Oper := cO (cL (cB f26))
def f26a0 : RAnn := ⟨[4], []⟩
noncomputable def f26o1 : Array Oper := cO (cL (cL (cR (cB f26))))
def f26a1 : RAnn := ⟨[6, 7, 8, 9], []⟩
noncomputable def f26o2 : Array Oper := cO (cL (cL (cR (cL (cR (cB f26))))))
def f26a2 : RAnn := ⟨[0, 1, 10], []⟩
noncomputable def f26o3 : Array Oper := cO (cL (cL (cR (cR (cB f26)))))
def f26a3 : RAnn := ⟨[10], []⟩
noncomputable def f26o4 : Array Oper := cO (cL (cL (cL (cL (cR (cL (cR (cR (cB f26)))))))))
def f26a4 : RAnn := ⟨[11, 12, 13], []⟩
noncomputable def f26o5 : Array Oper := cO (cR (cR (cL (cL (cR (cL (cR (cR (cB f26)))))))))
def f26a5 : RAnn := ⟨[15, 16, 25], []⟩
noncomputable def f26o6 : Array Oper := cO (cL (cL (cL (cR (cL (cL (cR (cL (cR (cR (cB f26)))))))))))
def f26a6 : RAnn := ⟨[14, 17, 18, 19, 20, 21, 22, 23, 24], []⟩
noncomputable def f26o7 : Array Oper := cO (cL (cL (cR (cL (cL (cR (cL (cL (cR (cL (cR (cR (cB f26)))))))))))))
def f26a7 : RAnn := ⟨[0, 1, 5, 25], []⟩
noncomputable def f26o8 : Array Oper := cO (cL (cR (cR (cR (cB f26)))))
def f26a8 : RAnn := ⟨[0, 1, 5, 14], []⟩
def f26b0 : Code := (.seq (.seq (.region 4 f26o4 false) (.cond (.tmp 14) .skip (.exit 0))) (.seq (.block 1 (.seq (.region 6 f26o6 true) (.cond (.tmp 25) (.seq (.region 7 f26o7 false) .ret) .skip))) (.region 5 f26o5 false)))
def f26c : Code := (.seq (.region 0 f26o0 false) (.seq (.seq (.region 1 f26o1 false) (.cond (.tmp 10) (.seq (.region 2 f26o2 false) .ret) .skip)) (.seq (.seq (.region 3 f26o3 false) (.block 0 (.loop f26b0))) (.seq (.region 8 f26o8 false) .ret))))
def f26n : List (Nat × RAnn) := [(0, f26a0), (1, f26a1), (2, f26a2), (3, f26a3), (4, f26a4), (5, f26a5), (6, f26a6), (7, f26a7), (8, f26a8)]
noncomputable def f31o0 : Array Oper := cO (cL (cB f31))
def f31a0 : RAnn := ⟨[2], []⟩
noncomputable def f31o1 : Array Oper := cO (cL (cL (cR (cB f31))))
def f31a1 : RAnn := ⟨[3], []⟩
noncomputable def f31o2 : Array Oper := cO (cL (cL (cR (cL (cR (cB f31))))))
def f31a2 : RAnn := ⟨[0, 4], []⟩
noncomputable def f31o3 : Array Oper := cO (cL (cR (cR (cB f31))))
def f31a3 : RAnn := ⟨[0, 4, 5, 6, 7, 8, 9], []⟩
def f31c : Code := (.seq (.region 0 f31o0 false) (.seq (.seq (.region 1 f31o1 false) (.cond (.tmp 4) (.seq (.region 2 f31o2 false) .ret) .skip)) (.seq (.region 3 f31o3 false) .ret)))
def f31n : List (Nat × RAnn) := [(0, f31a0), (1, f31a1), (2, f31a2), (3, f31a3)]
noncomputable def f8o0 : Array Oper := cO (cL (cB f8))
def f8a0 : RAnn := ⟨[0, 6], []⟩
noncomputable def f8o1 : Array Oper := cO (cL (cR (cB f8)))
def f8a1 : RAnn := ⟨[18, 19, 20, 21, 22, 23], []⟩
noncomputable def f8o2 : Array Oper := cO (cL (cR (cR (cB f8))))
def f8a2 : RAnn := ⟨[24, 25, 26, 27, 28, 29], []⟩
noncomputable def f8o3 : Array Oper := cO (cL (cR (cR (cR (cB f8)))))
def f8a3 : RAnn := ⟨[30, 31, 32, 33, 34], []⟩
noncomputable def f8o4 : Array Oper := cO (cL (cL (cR (cR (cR (cR (cB f8)))))))
def f8a4 : RAnn := ⟨[8, 10, 12, 35, 36, 37, 38, 39, 40, 41, 42, 43, 44, 45, 46, 47, 48, 49, 50, 51, 52], []⟩
noncomputable def f8o5 : Array Oper := cO (cL (cL (cR (cL (cR (cR (cR (cR (cB f8)))))))))
def f8a5 : RAnn := ⟨[1, 2, 3, 7, 9, 11, 53, 54], []⟩
noncomputable def f8o6 : Array Oper := cO (cL (cR (cR (cR (cR (cR (cB f8)))))))
def f8a6 : RAnn := ⟨[7, 9, 11, 53, 55, 56, 57, 58, 59, 60, 61, 62, 63], [(0, { keep := [0] }), (2, { tk := [55], keep := [0] }), (4, { tk := [57], keep := [0] }), (6, { tk := [59], keep := [0] }), (8, { tk := [61] })]⟩
noncomputable def f8o7 : Array Oper := cO (cL (cR (cR (cR (cR (cR (cR (cB f8))))))))
def f8a7 : RAnn := ⟨[13, 64], []⟩
noncomputable def f8o8 : Array Oper := cO (cL (cR (cR (cR (cR (cR (cR (cR (cB f8)))))))))
def f8a8 : RAnn := ⟨[66, 67, 68, 69, 70], [(1, { eff := true })]⟩
noncomputable def f8o9 : Array Oper := cO (cL (cR (cR (cR (cR (cR (cR (cR (cR (cB f8))))))))))
def f8a9 : RAnn := ⟨[71, 72, 73, 74, 75], [(1, { eff := true })]⟩
noncomputable def f8o10 : Array Oper := cO (cL (cR (cR (cR (cR (cR (cR (cR (cR (cR (cB f8)))))))))))
def f8a10 : RAnn := ⟨[76, 77, 78, 79, 80], [(1, { eff := true })]⟩
noncomputable def f8o11 : Array Oper := cO (cL (cR (cR (cR (cR (cR (cR (cR (cR (cR (cR (cB f8))))))))))))
def f8a11 : RAnn := ⟨[1, 2, 3, 8, 10, 12, 14, 15, 16, 17, 65, 81, 82, 83, 84, 85, 86, 87, 88, 89, 90, 91, 92, 93, 94, 95, 96, 97, 98, 99, 100, 101, 102, 103, 104, 105, 106, 107, 108, 109, 110, 111, 112, 113, 114, 115, 116, 117], []⟩
def f8c : Code := (.seq (.region 0 f8o0 false) (.seq (.region 1 f8o1 false) (.seq (.region 2 f8o2 false) (.seq (.region 3 f8o3 false) (.seq (.seq (.region 4 f8o4 false) (.cond (.tmp 53) (.seq (.region 5 f8o5 false) .ret) .skip)) (.seq (.region 6 f8o6 false) (.seq (.region 7 f8o7 false) (.seq (.region 8 f8o8 false) (.seq (.region 9 f8o9 false) (.seq (.region 10 f8o10 false) (.seq (.region 11 f8o11 false) .ret)))))))))))
def f8n : List (Nat × RAnn) := [(0, f8a0), (1, f8a1), (2, f8a2), (3, f8a3), (4, f8a4), (5, f8a5), (6, f8a6), (7, f8a7), (8, f8a8), (9, f8a9), (10, f8a10), (11, f8a11)]
def ANNS : List (Nat × FAnn) := [(8, ⟨f8n, [], []⟩), (10, ⟨f10n, [], []⟩), (11, ⟨f11n, [], []⟩), (14, ⟨f14n, [], []⟩), (15, ⟨f15n, [], []⟩), (17, ⟨f17n, [], []⟩), (19, ⟨f19n, [], []⟩), (21, ⟨f21n, [], []⟩), (26, ⟨f26n, [], []⟩), (27, ⟨f27n, [], []⟩), (28, ⟨f28n, [], []⟩), (29, ⟨f29n, [], []⟩), (30, ⟨f30n, [], []⟩), (31, ⟨f31n, [], []⟩), (34, ⟨f34n, [], []⟩), (40, ⟨f40n, [], []⟩), (46, ⟨f46n, [], []⟩), (51, ⟨f51n, [], []⟩), (52, ⟨f52n, [], []⟩), (53, ⟨f53n, [], []⟩)]
def anns : FuncId → FAnn := fun f => (look f ANNS).getD {}
def ext : ExtH := fun f args => bif Nat.beq f 57 then some (extItoa args) else bif Nat.beq f 55 then some (extStrRep args) else bif Nat.beq f 49 then some (extRepAll args) else bif Nat.beq f 53 && emptyArg args then some (match args with | [v] => some (v, []) | _ => none) else none
noncomputable abbrev EV (k : Nat) : CallH := evF prog anns ext k
noncomputable abbrev RE (k : Nat) (a : RAnn) (o : Array Oper) (d : Bool) (s : St) : Option St := regionE prog (EV k) a o d s
abbrev I (n : Int) : V := .int .i64 n
def octet_Small_fin : ((List Int) × Int) → V × List V := fun r => (.tup [(V.sl 0 1 (List.map (V.int .u8) r.1)), (I r.2)], [])
theorem octet_Small_ok (k : Nat) (a0 : Int) : EV k 15 [(I a0)] = (octet_Small k a0).map octet_Small_fin := by
  cases k with
  | zero => rfl
  | succ k =>
    unfold octet_Small
    refine et (evF_succ (c := f15c) (N := 13) (regs := f15n) rfl func15 rfl (by decide) rfl rfl rfl) <| kra [] rfl <| et k_assoc <| kga f15a1 rfl (fun (o1 : Bool) => [(9, (Bo o1))]) ?_ fun o1 => ?_
    · refine rd 3 [(4, (I a0)), (5, (Bo (decide (a0 < 0)))), (6, (Bo (decide (a0 < 0))))] rfl rfl <| bifE (fun hc => ?_) fun hc => ?_
      · rw [hc]
        exact reg_end rfl
      · rw [hc]
        exact reg_end rfl
    refine kc rfl rfl (fun hc => ?_) fun hc => ?_
    · rw [hc]
      refine et k_assoc <| kr ⟨[(2, (V.sl 0 1 (List.map (V.int .u8) ([] : List Int)))), (3, (I 2))], [], 13⟩ rfl <| et k_ret ?_
      rfl
    · rw [hc]
      refine et k_skip <| kr ⟨[(2, (V.sl 0 1 (List.map (V.int .u8) ([(Go.IntKind.wrap .u8 a0)] : List Int)))), (3, (I 0))], [], 13⟩ rfl <| et k_lret ?_
      rfl
def octet_Number_fin : ((List Int) × Int) → V × List V := fun r => (.tup [(V.sl 0 1 (List.map (V.int .u8) r.1)), (I r.2)], [])
theorem octet_Number_ok (k : Nat) (a0 : Int) : EV k 17 [(I a0)] = (octet_Number k a0).map octet_Number_fin := by
  cases k with
  | zero => rfl
  | succ k =>
    unfold octet_Number
    refine et (evF_succ (c := f17c) (N := 22) (regs := f17n) rfl func17 rfl (by decide) rfl rfl rfl) <| kra [] rfl <| et k_assoc <| kga f17a1 rfl (fun (o1 : Bool) => [(9, (Bo o1))]) ?_ fun o1 => ?_
    · refine rd 3 [(4, (I a0)), (5, (Bo (decide (a0 < 0)))), (6, (Bo (decide (a0 < 0))))] rfl rfl <| bifE (fun hc => ?_) fun hc => ?_
      · rw [hc]
        exact reg_end rfl
      · rw [hc]
        exact reg_end rfl
    refine kc rfl rfl (fun hc => ?_) fun hc => ?_
    · rw [hc]
      refine et k_assoc <| kr ⟨[(2, (V.sl 0 1 (List.map (V.int .u8) ([] : List Int)))), (3, (I 2))], [], 22⟩ rfl <| et k_ret ?_
      rfl
    · rw [hc]
      refine et k_skip <| kg f17a3 rfl (fun (o5 : (List Int) × Int) => ⟨[(2, (V.sl 0 1 (List.map (V.int .u8) o5.1))), (3, (I o5.2))], [], 22⟩) (rd 1 [(10, (I a0))] rfl rfl <| rp rfl (p_shr rfl rfl rfl) fun v2 => bd 4 [(11, (I v2)), (12, (V.int .u8 (Go.IntKind.wrap .u8 v2))), (13, (I a0))] rfl rfl <| rp rfl (p_shr rfl rfl rfl) fun v3 => bd 7 [(14, (I v3)), (15, (V.int .u8 (Go.IntKind.wrap .u8 v3))), (16, (I a0))] rfl rfl <| rp rfl (p_shr rfl rfl rfl) fun v4 => bind_end rfl) fun o5 => et k_lret ?_
      rfl
def octet_Text_fin : ((List Int) × Int) → V × List V := fun r => (.tup [(V.sl 0 1 (List.map (V.int .u8) r.1)), (I r.2)], [])
theorem octet_Text_ok (k : Nat) (a0 : Str) : EV k 19 [(Sr a0)] = (octet_Text k a0).map octet_Text_fin := by
  cases k with
  | zero => rfl
  | succ k =>
    unfold octet_Text
    refine et (evF_succ (c := f19c) (N := 13) (regs := f19n) rfl func19 rfl (by decide) rfl rfl rfl) <| kra [] rfl <| et k_assoc <| kra [(6, (Bo (decide ((a0.length : Int) > 255))))] rfl <| kc rfl rfl (fun hc => ?_) fun hc => ?_
    · rw [hc]
      refine et k_assoc <| kr ⟨[(2, (V.sl 0 1 (List.map (V.int .u8) ([] : List Int)))), (3, (I 2))], [], 13⟩ rfl <| et k_ret ?_
      rfl
    · rw [hc]
      refine et k_skip <| kg f19a3 rfl (fun (o2 : (List Int) × Int) => ⟨[(2, (V.sl 0 1 (List.map (V.int .u8) o2.1))), (3, (I o2.2))], [], 13⟩) (rd 5 [(7, (Sr a0)), (8, (I (a0.length : Int))), (9, (V.int .u8 (Go.IntKind.wrap .u8 (a0.length : Int)))), (10, (V.sl 1 1 (List.map (V.int .u8) ([(Go.IntKind.wrap .u8 (a0.length : Int))] : List Int)))), (11, (Sr a0))] rfl rfl <| et (reg_eff (x := (app ([(Go.IntKind.wrap .u8 (a0.length : Int))] : List Int) (bytesB a0))) (w := fun v1 => ((V.sl 1 1 (List.map (V.int .u8) v1)), _)) rfl rfl rfl rfl (p_appS rfl rfl rfl rfl rfl rfl rfl rfl rfl rfl (by decide))) <| bindE fun v1 => bind_end rfl) fun o2 => et k_lret ?_
      rfl
def octet_Texts_fin : ((List Int) × Int) → V × List V := fun r => (.tup [(V.sl 0 1 (List.map (V.int .u8) r.1)), (I r.2)], [])
theorem octet_Texts_L1_ok (k : Nat) (a0 : (List Str))  (K0 : (List Int) → Int → Option ((List Int) × Int)) (Kst : X × St → Option (V × List V)) (hK0 : ∀ (y0 : (List Int)) (y1 : Int), Kst (X.exit 0, ⟨[(4, (V.sl 1 1 (List.map (V.int .u8) y0))), (16, (sS a0)), (17, (I (a0.length : Int))), (18, (I y1)), (19, (Bo false))], [], 35⟩) = (K0 y0 y1).map octet_Texts_fin) (hret : ∀ s, Kst (X.ret, s) = endK prog 35 [(sS a0)] [] [.tmp 2, .tmp 3] (X.ret, s)) :
    ∀ (m : Nat) (x7 : (List Int)) (x8 : Int), (iter (exec prog (EV k) f21n k f21b0) m ⟨[(4, (V.sl 1 1 (List.map (V.int .u8) x7))), (16, (sS a0)), (17, (I (a0.length : Int))), (18, (I x8))], [], 35⟩).bind Kst = (octet_Texts_L1 k a0 K0 m x7 x8).map octet_Texts_fin := by
  intro m
  induction m with
  | zero => intros; rfl
  | succ m ih =>
    intro x7 x8
    unfold octet_Texts_L1
    refine et k_round <| kra [(19, (Bo (decide (x8 < (a0.length : Int)))))] rfl <| kc rfl rfl (fun hc => ?_) fun hc => ?_
    · rw [hc]
      refine et k_skip <| et (k_block rfl) <| kg f21a6 rfl (fun (o10 : Str) => ⟨[(4, (V.sl 1 1 (List.map (V.int .u8) x7))), (6, (Sr o10)), (16, (sS a0)), (17, (I (a0.length : Int))), (18, (I x8))], [], 35⟩) (rs rfl (p_index (e := V.str) rfl rfl rfl underlying22 rfl (by decide)) fun v9 => bind_end rfl) fun o10 => kg f21a7 rfl (fun (o12 : (List Int) × Int) => ⟨[(4, (V.sl 1 1 (List.map (V.int .u8) x7))), (7, (V.sl 0 1 (List.map (V.int .u8) o12.1))), (8, (I o12.2)), (16, (sS a0)), (17, (I (a0.length : Int))), (18, (I x8))], [], 35⟩) (rd 1 [(23, (Sr o10))] rfl rfl <| rp rfl (p_call rfl rfl rfl rfl rfl (octet_Text_ok k o10) (.inl rfl)) fun v11 => bind_end rfl) fun o12 => et k_assoc <| kra [(28, (Bo (o12.2 != 0)))] rfl <| kc rfl rfl (fun hc => ?_) fun hc => ?_
      · rw [hc]
        refine et k_assoc <| kr ⟨[(2, (V.sl 0 1 (List.map (V.int .u8) ([] : List Int)))), (3, (I o12.2))], [], 35⟩ rfl <| et k_ret <| et blk_ret <| et loop_ret <| et (hret _) ?_
        rfl
      · rw [hc]
        exact et k_skip <| kgl f21a10 rfl (fun (o14 : (List Int)) => ⟨[(4, (V.sl 1 1 (List.map (V.int .u8) o14))), (16, (sS a0)), (17, (I (a0.length : Int))), (18, (I x8))], [], 35⟩) (ra 2 2 ⟨[(4, (V.sl 0 1 (List.map (V.int .u8) x7))), (7, (V.sl 0 1 (List.map (V.int .u8) o12.1))), (8, (I o12.2)), (16, (sS a0)), (17, (I (a0.length : Int))), (18, (I x8)), (28, (Bo false)), (30, (V.sl 1 1 (List.map (V.int .u8) x7))), (31, (V.sl 0 1 (List.map (V.int .u8) o12.1)))], [], 35⟩ rfl rfl rfl <| et (reg_eff (x := (app x7 o12.1)) (w := fun v13 => ((V.sl 1 1 (List.map (V.int .u8) v13)), _)) rfl rfl rfl rfl (p_app (e := (V.int .u8)) rfl rfl rfl rfl rfl rfl rfl rfl rfl rfl (by decide))) <| bind_self fun v13 => bind_end rfl) fun o14 => et blk_normal <| kl ⟨[(4, (V.sl 1 1 (List.map (V.int .u8) o14))), (16, (sS a0)), (17, (I (a0.length : Int))), (18, (I (Go.IntKind.wrap .i64 (x8 + 1))))], [], 35⟩ rfl <| et loop_normal <| ih o14 (Go.IntKind.wrap .i64 (x8 + 1))
    · rw [hc]
      exact et k_exit <| et loop_exit <| hK0 x7 x8
theorem octet_Texts_ok (k : Nat) (a0 : (List Str)) : EV k 21 [(sS a0)] = (octet_Texts k a0).map octet_Texts_fin := by
  cases k with
  | zero => rfl
  | succ k =>
    unfold octet_Texts
    refine et (evF_succ (c := f21c) (N := 35) (regs := f21n) rfl func21 rfl (by decide) rfl rfl rfl) <| kra [] rfl <| et k_assoc <| krp f21a1 rfl ⟨[(0, (sS a0)), (11, (Bo (decide ((a0.length : Int) > 255))))], [], 35⟩ ?_ ?_
    · exact rd 1 [(9, (sS a0))] rfl rfl <| rl rfl (p_len (e := V.str) rfl rfl rfl rfl rfl rfl underlying22) <| bind_end rfl
    refine kc rfl rfl (fun hc => ?_) fun hc => ?_
    · rw [hc]
      refine et k_assoc <| kr ⟨[(2, (V.sl 0 1 (List.map (V.int .u8) ([] : List Int)))), (3, (I 2))], [], 35⟩ rfl <| et k_ret ?_
      rfl
    · rw [hc]
      refine et k_skip <| krp f21a3 rfl ⟨[(0, (sS a0)), (4, (V.sl 1 1 (List.map (V.int .u8) ([(Go.IntKind.wrap .u8 (a0.length : Int))] : List Int))))], [], 35⟩ ?_ ?_
      · exact rd 1 [(12, (sS a0))] rfl rfl <| rl rfl (p_len (e := V.str) rfl rfl rfl rfl rfl rfl underlying22) <| bind_end rfl
      refine et k_assoc <| krp f21a4 rfl ⟨[(4, (V.sl 1 1 (List.map (V.int .u8) ([(Go.IntKind.wrap .u8 (a0.length : Int))] : List Int)))), (16, (sS a0)), (17, (I (a0.length : Int))), (18, (I 0))], [], 35⟩ ?_ ?_
      · exact rd 1 [(16, (sS a0))] rfl rfl <| rl rfl (p_len (e := V.str) rfl rfl rfl rfl rfl rfl underlying22) <| bind_end rfl
      refine et (k_block rfl) <| et k_loop ?_
      refine octet_Texts_L1_ok k a0 _ _ ?h_octet_Texts_L1_0 ?hr_octet_Texts_L1 k ([(Go.IntKind.wrap .u8 (a0.length : Int))] : List Int) 0
      · intro y15 y16
        refine et blk_exit <| kr ⟨[(2, (V.sl 0 1 (List.map (V.int .u8) y15))), (3, (I 0))], [], 35⟩ rfl <| et k_lret ?_
        rfl
      · intro s; exact rfl
def law01_Large_fin : Bool → V × List V := fun r => ((Bo r), [])
theorem law01_Large_L1_ok (k : Nat) (a0 : (List Str))  (K0 : Int → Option Bool) (Kst : X × St → Option (V × List V)) (hK0 : ∀ (y0 : Int), Kst (X.exit 0, ⟨[(0, (sS a0)), (3, (I y0)), (7, (Bo false))], [], 19⟩) = (K0 y0).map law01_Large_fin) (hret : ∀ s, Kst (X.ret, s) = endK prog 19 [(sS a0)] [] [.tmp 2] (X.ret, s)) :
    ∀ (m : Nat) (x3 : Int), (iter (exec prog (EV k) f10n k f10b0) m ⟨[(0, (sS a0)), (3, (I x3))], [], 19⟩).bind Kst = (law01_Large_L1 a0 K0 m x3).map law01_Large_fin := by
  intro m
  induction m with
  | zero => intros; rfl
  | succ m ih =>
    intro x3
    unfold law01_Large_L1
    refine et k_round <| et k_assoc <| krp f10a2 rfl ⟨[(0, (sS a0)), (3, (I x3)), (7, (Bo (decide (x3 < (a0.length : Int)))))], [], 19⟩ ?_ ?_
    · exact rd 2 [(4, (I x3)), (5, (sS a0))] rfl rfl <| rl rfl (p_len (e := V.str) rfl rfl rfl rfl rfl rfl underlying22) <| bind_end rfl
    refine kc rfl rfl (fun hc => ?_) fun hc => ?_
    · rw [hc]
      refine et k_skip <| et (k_block rfl) <| kg f10a4 rfl (fun (o5 : Bool) => ⟨[(0, (sS a0)), (3, (I x3)), (15, (Bo o5))], [], 19⟩) (rd 2 [(10, (sS a0)), (11, (I x3))] rfl rfl <| rp rfl (p_index (e := V.str) rfl rfl rfl underlying22 rfl (by decide)) fun v4 => bind_end rfl) fun o5 => kcl rfl rfl (fun hc => ?_) fun hc => ?_
      · rw [hc]
        refine kr ⟨[(2, (Bo true))], [], 19⟩ rfl <| et k_lret <| et blk_ret <| et loop_ret <| et (hret _) ?_
        rfl
      · rw [hc]
        exact et k_lskip <| et blk_normal <| kl ⟨[(0, (sS a0)), (3, (I (Go.IntKind.wrap .i64 (x3 + 1))))], [], 19⟩ rfl <| et loop_normal <| ih (Go.IntKind.wrap .i64 (x3 + 1))
    · rw [hc]
      exact et k_exit <| et loop_exit <| hK0 x3
theorem law01_Large_ok (k : Nat) (a0 : (List Str)) : EV k 10 [(sS a0)] = (law01_Large k a0).map law01_Large_fin := by
  cases k with
  | zero => rfl
  | succ k =>
    unfold law01_Large
    refine et (evF_succ (c := f10c) (N := 19) (regs := f10n) rfl func10 rfl (by decide) rfl rfl rfl) <| kra [] rfl <| et k_assoc <| kra [(3, (I 0))] rfl <| et (k_block rfl) <| et k_loop ?_
    refine law01_Large_L1_ok k a0 _ _ ?h_law01_Large_L1_0 ?hr_law01_Large_L1 k 0
    · intro y6
      refine et blk_exit <| krp f10a6 rfl ⟨[(2, (Bo (decide ((a0.length : Int) > 300))))], [], 19⟩ ?_ ?_
      · exact rd 1 [(16, (sS a0))] rfl rfl <| rl rfl (p_len (e := V.str) rfl rfl rfl rfl rfl rfl underlying22) <| bind_end rfl
      refine et k_lret ?_
      rfl
    · intro s; exact rfl
def strconv_Itoa_fin : Str → V × List V := fun r => (Sr r, [])
theorem strconv_Itoa_ok (k : Nat) (n : Int) : EV k 57 [(I n)] = (strconv_Itoa k n).map strconv_Itoa_fin := by
  cases k with
  | zero => rfl
  | succ k => exact (evF_ext (ext := ext) (f := 57) rfl).trans rfl
def strings_Repeat_fin : Str → V × List V := fun r => ((Sr r), [])
theorem strings_Repeat_ok (k : Nat) (s : Str) (n : Int) : EV k 55 [(Sr s), (I n)] = (strings_Repeat k s n).map strings_Repeat_fin := by
  cases k with
  | zero => rfl
  | succ k => exact (evF_ext (ext := ext) (f := 55) rfl).trans rfl
def octet_Digits_fin : (Str × Int) → V × List V := fun r => (.tup [(Sr r.1), (I r.2)], [])
theorem octet_Digits_ok (k : Nat) (a0 : Int) (a1 : Int) : EV k 46 [(I a0), (I a1)] = (octet_Digits k a0 a1).map octet_Digits_fin := by
  cases k with
  | zero => rfl
  | succ k =>
    unfold octet_Digits
    refine et (evF_succ (c := f46c) (N := 32) (regs := f46n) rfl func46 rfl (by decide) rfl rfl rfl) <| kra [] rfl <| kga f46a1 rfl (fun (o2 : Str) => [(6, (Sr o2))]) (rd 1 [(7, (I a0))] rfl rfl <| rs rfl (p_call rfl rfl rfl rfl rfl (strconv_Itoa_ok k a0) (.inl rfl)) fun v1 => bind_end rfl) fun o2 => et k_assoc <| kg f46a2 rfl (fun (o3 : Bool) => ⟨[(1, (I a1)), (6, (Sr o2)), (24, (Bo o3))], [], 32⟩) ?_ fun o3 => ?_
    · refine rd 3 [(9, (I a0)), (10, (Bo (decide (a0 < 0)))), (11, (Bo (decide (a0 < 0))))] rfl rfl <| bifE (fun hc => ?_) fun hc => ?_
      · rw [hc]
        exact reg_end rfl
      · rw [hc]
        refine rd 7 [(12, (I a1)), (13, (Bo (decide (a1 < 1)))), (14, (Bo (decide (a1 < 1)))), (15, (Bo (decide (a1 < 1))))] rfl rfl <| bifE (fun hc => ?_) fun hc => ?_
        · rw [hc]
          exact reg_end rfl
        · rw [hc]
          refine rd 11 [(16, (I a1)), (17, (Bo (decide (a1 > 9)))), (18, (Bo (decide (a1 > 9)))), (19, (Bo (decide (a1 > 9))))] rfl rfl <| bifE (fun hc => ?_) fun hc => ?_
          · rw [hc]
            exact reg_end rfl
          · rw [hc]
            exact reg_end rfl
    refine kc rfl rfl (fun hc => ?_) fun hc => ?_
    · rw [hc]
      refine et k_assoc <| kr ⟨[(4, (Sr ([] : Str))), (5, (I 2))], [], 32⟩ rfl <| et k_ret ?_
      rfl
    · rw [hc]
      refine et k_skip <| kg f46a4 rfl (fun (o6 : Str × Int) => ⟨[(4, (Sr o6.1)), (5, (I o6.2))], [], 32⟩) (rd 4 [(25, (I a1)), (26, (Sr o2)), (27, (I (o2.length : Int))), (28, (I (Go.IntKind.wrap .i64 (a1 - (o2.length : Int)))))] rfl rfl <| rp rfl (p_call rfl rfl rfl rfl rfl (strings_Repeat_ok k ([48] : Str) (Go.IntKind.wrap .i64 (a1 - (o2.length : Int)))) (.inl rfl)) fun v4 => bd 6 [(29, (Sr v4)), (30, (Sr o2))] rfl rfl <| rp rfl (p_cat rfl rfl rfl) fun v5 => bind_end rfl) fun o6 => et k_lret ?_
      rfl
def octet_Pad_fin : (Str × Int) → V × List V := fun r => (.tup [(Sr r.1), (I r.2)], [])
theorem octet_Pad_ok (k : Nat) (a0 : Str) (a1 : Int) : EV k 40 [(Sr a0), (I a1)] = (octet_Pad k a0 a1).map octet_Pad_fin := by
  cases k with
  | zero => rfl
  | succ k =>
    unfold octet_Pad
    refine et (evF_succ (c := f40c) (N := 21) (regs := f40n) rfl func40 rfl (by decide) rfl rfl rfl) <| kra [] rfl <| et k_assoc <| kga f40a1 rfl (fun (o1 : Bool) => [(13, (Bo o1))]) ?_ fun o1 => ?_
    · refine rd 5 [(6, (I a1)), (7, (Sr a0)), (8, (I (a0.length : Int))), (9, (Bo (decide (a1 < (a0.length : Int))))), (10, (Bo (decide (a1 < (a0.length : Int)))))] rfl rfl <| bifE (fun hc => ?_) fun hc => ?_
      · rw [hc]
        exact reg_end rfl
      · rw [hc]
        exact reg_end rfl
    refine kc rfl rfl (fun hc => ?_) fun hc => ?_
    · rw [hc]
      refine et k_assoc <| kr ⟨[(4, (Sr ([] : Str))), (5, (I 2))], [], 21⟩ rfl <| et k_ret ?_
      rfl
    · rw [hc]
      refine et k_skip <| kg f40a3 rfl (fun (o4 : Str × Int) => ⟨[(4, (Sr o4.1)), (5, (I o4.2))], [], 21⟩) (rd 5 [(14, (Sr a0)), (15, (I a1)), (16, (Sr a0)), (17, (I (a0.length : Int))), (18, (I (Go.IntKind.wrap .i64 (a1 - (a0.length : Int)))))] rfl rfl <| rp rfl (p_call rfl rfl rfl rfl rfl (strings_Repeat_ok k ([32] : Str) (Go.IntKind.wrap .i64 (a1 - (a0.length : Int)))) (.inl rfl)) fun v2 => bd 6 [(19, (Sr v2))] rfl rfl <| rp rfl (p_cat rfl rfl rfl) fun v3 => bind_end rfl) fun o4 => et k_lret ?_
      rfl
def strings_ReplaceAll_fin : Str → V × List V := fun r => (Sr r, [])
theorem strings_ReplaceAll_ok (k : Nat) (s o n : Str) : EV k 49 [(Sr s), (Sr o), (Sr n)] = (strings_ReplaceAll k s o n).map strings_ReplaceAll_fin := by
  cases k with
  | zero => rfl
  | succ k => exact (evF_ext (ext := ext) (f := 49) rfl).trans rfl
def octet_Key_fin : (List Int) → V × List V := fun r => ((V.sl 0 1 (List.map (V.int .u8) r)), [])
theorem octet_Key_L1_ok (k : Nat) (a0 : (List Str))  (K0 : (List Int) → Int → Option (List Int)) (Kst : X × St → Option (V × List V)) (hK0 : ∀ (y0 : (List Int)) (y1 : Int), Kst (X.exit 0, ⟨[(3, (V.sl 1 1 (List.map (V.int .u8) y0))), (6, (sS a0)), (7, (I (a0.length : Int))), (8, (I y1)), (9, (Bo false))], [], 21⟩) = (K0 y0 y1).map octet_Key_fin) (hret : ∀ s, Kst (X.ret, s) = endK prog 21 [(sS a0)] [] [.tmp 2] (X.ret, s)) :
    ∀ (m : Nat) (x8 : (List Int)) (x9 : Int), (iter (exec prog (EV k) f14n k f14b0) m ⟨[(3, (V.sl 1 1 (List.map (V.int .u8) x8))), (6, (sS a0)), (7, (I (a0.length : Int))), (8, (I x9))], [], 21⟩).bind Kst = (octet_Key_L1 k a0 K0 m x8 x9).map octet_Key_fin := by
  intro m
  induction m with
  | zero => intros; rfl
  | succ m ih =>
    intro x8 x9
    unfold octet_Key_L1
    refine et k_round <| kra [(9, (Bo (decide (x9 < (a0.length : Int)))))] rfl <| kc rfl rfl (fun hc => ?_) fun hc => ?_
    · rw [hc]
      exact et k_skip <| et (k_block rfl) <| kg f14a4 rfl (fun (o11 : Str) => ⟨[(3, (V.sl 1 1 (List.map (V.int .u8) x8))), (5, (Sr o11)), (6, (sS a0)), (7, (I (a0.length : Int))), (8, (I x9))], [], 21⟩) (rs rfl (p_index (e := V.str) rfl rfl rfl underlying22 rfl (by decide)) fun v10 => bind_end rfl) fun o11 => kg f14a5 rfl (fun (o14 : (List Int)) => ⟨[(3, (V.sl 1 1 (List.map (V.int .u8) o14))), (6, (sS a0)), (7, (I (a0.length : Int))), (8, (I x9))], [], 21⟩) (ra 2 2 ⟨[(3, (V.sl 0 1 (List.map (V.int .u8) x8))), (5, (Sr o11)), (6, (sS a0)), (7, (I (a0.length : Int))), (8, (I x9)), (12, (V.sl 1 1 (List.map (V.int .u8) x8))), (13, (Sr o11))], [], 21⟩ rfl rfl rfl <| rp rfl (p_call rfl rfl rfl rfl rfl (strings_ReplaceAll_ok k o11 ([0] : Str) ([0, 255] : Str)) (.inl rfl)) fun v12 => bd 3 [(14, (Sr v12))] rfl rfl <| et (reg_eff (x := (app x8 (bytesB v12))) (w := fun v13 => ((V.sl 1 1 (List.map (V.int .u8) v13)), _)) rfl rfl rfl rfl (p_appS rfl rfl rfl rfl rfl rfl rfl rfl rfl rfl (by decide))) <| bind_self fun v13 => bind_end rfl) fun o14 => kgl f14a6 rfl (fun (o16 : (List Int)) => ⟨[(3, (V.sl 1 1 (List.map (V.int .u8) o16))), (6, (sS a0)), (7, (I (a0.length : Int))), (8, (I x9))], [], 21⟩) (ra 2 2 ⟨[(3, (V.sl 0 1 (List.map (V.int .u8) o14))), (6, (sS a0)), (7, (I (a0.length : Int))), (8, (I x9)), (16, (V.sl 1 1 (List.map (V.int .u8) o14))), (17, (V.sl 0 1 (List.map (V.int .u8) ([0, 1] : List Int))))], [], 21⟩ rfl rfl rfl <| et (reg_eff (x := (app o14 ([0, 1] : List Int))) (w := fun v15 => ((V.sl 1 1 (List.map (V.int .u8) v15)), _)) rfl rfl rfl rfl (p_app (e := (V.int .u8)) rfl rfl rfl rfl rfl rfl rfl rfl rfl rfl (by decide))) <| bind_self fun v15 => bind_end rfl) fun o16 => et blk_normal <| kl ⟨[(3, (V.sl 1 1 (List.map (V.int .u8) o16))), (6, (sS a0)), (7, (I (a0.length : Int))), (8, (I (Go.IntKind.wrap .i64 (x9 + 1))))], [], 21⟩ rfl <| et loop_normal <| ih o16 (Go.IntKind.wrap .i64 (x9 + 1))
    · rw [hc]
      exact et k_exit <| et loop_exit <| hK0 x8 x9
theorem octet_Key_ok (k : Nat) (a0 : (List Str)) : EV k 14 [(sS a0)] = (octet_Key k a0).map octet_Key_fin := by
  cases k with
  | zero => rfl
  | succ k =>
    unfold octet_Key
    refine et (evF_succ (c := f14c) (N := 21) (regs := f14n) rfl func14 rfl (by decide) rfl rfl rfl) <| kra [] rfl <| kra [(3, (V.sl 1 1 (List.map (V.int .u8) ([] : List Int))))] rfl <| et k_assoc <| krp f14a2 rfl ⟨[(3, (V.sl 1 1 (List.map (V.int .u8) ([] : List Int)))), (6, (sS a0)), (7, (I (a0.length : Int))), (8, (I 0))], [], 21⟩ ?_ ?_
    · exact rd 1 [(6, (sS a0))] rfl rfl <| rl rfl (p_len (e := V.str) rfl rfl rfl rfl rfl rfl underlying22) <| bind_end rfl
    refine et (k_block rfl) <| et k_loop ?_
    refine octet_Key_L1_ok k a0 _ _ ?h_octet_Key_L1_0 ?hr_octet_Key_L1 k ([] : List Int) 0
    · intro y17 y18
      refine et blk_exit <| kr ⟨[(2, (V.sl 0 1 (List.map (V.int .u8) y17)))], [], 21⟩ rfl <| et k_lret ?_
      rfl
    · intro s; exact rfl
def law01_First_fin : Bool → V × List V := fun r => ((Bo r), [])
theorem law01_First_clo0 : EV 0 11 [] = none := by kernel_rfl
theorem law01_First_clo1 : EV 1 11 [] = none := by kernel_rfl
theorem law01_First_clo2 : EV 2 11 [] = none := by kernel_rfl
theorem law01_First_clo3 : EV 3 11 [] = none := by kernel_rfl
theorem law01_First_clo4 : EV 4 11 [] = none := by kernel_rfl
theorem law01_First_clo (k : Nat) : EV (k + 5) 11 [] = some (Bo true, []) := by kernel_rfl
theorem law01_First_ok (k : Nat) : EV k 11 [] = (law01_First k).map law01_First_fin := by
  match k with
  | 0 => exact law01_First_clo0
  | 1 => exact law01_First_clo1
  | 2 => exact law01_First_clo2
  | 3 => exact law01_First_clo3
  | 4 => exact law01_First_clo4
  | k + 5 => exact law01_First_clo k
def slices_Clone_byte_c_fin : (List Int) → V × List V := fun r => ((V.sl 0 1 (List.map (V.int .u8) r)), [])
def slices_Clone_byte_fin : List Int → V × List V := fun r => ((V.sl 0 1 (List.map (V.int .u8) r)), [])
theorem slices_Clone_byte_c_ok (k : Nat) (y : Int) (l : (List Int)) : EV k 53 [(V.sl 0 1 (List.map (V.int .u8) (y :: l)))] = (slices_Clone_byte_c k y l).map slices_Clone_byte_c_fin := by
  cases k with
  | zero => rfl
  | succ k =>
    unfold slices_Clone_byte_c
    refine et (evF_succ (c := f53c) (N := 8) (regs := f53n) rfl func53 rfl (by decide) rfl rfl rfl) <| kra [] rfl <| et k_assoc <| kra [(4, (Bo false))] rfl <| et (k_cond (t := false) rfl rfl) <| et k_skip <| kg f53a3 rfl (fun (o2 : (List Int)) => ⟨[(2, (V.sl 0 1 (List.map (V.int .u8) o2)))], [], 8⟩) (rd 2 [(5, (V.sl 1 1 (List.map (V.int .u8) ([] : List Int)))), (6, (V.sl 0 1 (List.map (V.int .u8) (y :: l))))] rfl rfl <| et (reg_eff (x := (app ([] : List Int) (y :: l))) (w := fun v1 => ((V.sl 1 1 (List.map (V.int .u8) v1)), _)) rfl rfl rfl rfl (p_app (e := (V.int .u8)) rfl rfl rfl rfl rfl rfl rfl rfl rfl rfl (by decide))) <| bind_self fun v1 => bind_end rfl) fun o2 => et k_lret ?_
    rfl
theorem slices_Clone_byte_ok (k : Nat) (l : List Int) : EV k 53 [(V.sl 0 1 (List.map (V.int .u8) l))] = (slices_Clone_byte k l).map slices_Clone_byte_fin := by
  cases k with
  | zero => rfl
  | succ k => cases l with
    | nil => exact evF_ext (ext := ext) (f := 53) rfl
    | cons y l => exact slices_Clone_byte_c_ok (k + 1) y l
def octet_NewReader_fin : T_octet_Reader → V × List V := fun r => ((V.io (eReader r)), [])
theorem octet_NewReader_ok (k : Nat) (a0 : (List Int)) : EV k 34 [(V.sl 0 1 (List.map (V.int .u8) a0))] = (octet_NewReader k a0).map octet_NewReader_fin := by
  cases k with
  | zero => rfl
  | succ k =>
    unfold octet_NewReader
    refine et (evF_succ (c := f34c) (N := 7) (regs := f34n) rfl func34 rfl (by decide) rfl rfl rfl) <| kra [] rfl <| kg f34a1 rfl (fun (o2 : T_octet_Reader) => ⟨[(2, (Pt 6)), (6, (Pt 6))], [(6, vS 3 (eReader o2))], 7⟩) (rd 1 [(3, (V.sl 0 1 (List.map (V.int .u8) a0)))] rfl rfl <| rp rfl (p_call rfl rfl rfl rfl rfl (slices_Clone_byte_ok k a0) (.inl rfl)) fun v1 => bind_end rfl) fun o2 => et k_lret ?_
    rfl
def octet_Reader_none_fin : Bool → V × List V := fun r => ((Bo r), [])
theorem octet_Reader_none_ok (k : Nat) (a0 : T_octet_Reader) : EV k 52 [(Pr (eReader a0))] = (octet_Reader_none k a0).map octet_Reader_none_fin := by
  cases k with
  | zero => rfl
  | succ k =>
    unfold octet_Reader_none
    refine et (evF_succ (c := f52c) (N := 12) (regs := f52n) rfl func52 rfl (by decide) rfl rfl rfl) <| kra [] rfl <| kr ⟨[(2, (Bo (!a0.fmade)))], [], 12⟩ rfl <| et k_lret ?_
    rfl
def octet_Reader_take_fin : ((List Int) × Int × T_octet_Reader) → V × List V := fun r => ((.tup [(V.sl 0 1 (List.map (V.int .u8) r.1)), (I r.2.1)]), [(V.io (eReader r.2.2))])
theorem octet_Reader_take_ok (k : Nat) (a0 : T_octet_Reader) (a1 : Int) : EV k 51 [(V.io (eReader a0)), (I a1)] = (octet_Reader_take k a0 a1).map octet_Reader_take_fin := by
  cases k with
  | zero => rfl
  | succ k =>
    unfold octet_Reader_take
    refine et (evF_succ (c := f51c) (N := 43) (regs := f51n) rfl func51 rfl (by decide) rfl rfl rfl) <| kra [] rfl <| et (k_block rfl) <| kga f51a1 rfl (fun (o2 : Bool) => [(7, (Bo o2))]) (rd 1 [(8, (Pt 43))] rfl rfl <| rs rfl (p_call rfl rfl rfl rfl rfl (octet_Reader_none_ok k a0) (.inr (fun _ => rfl))) fun v1 => bind_end rfl) fun o2 => kcl rfl rfl (fun hc => ?_) fun hc => ?_
    · rw [hc]
      refine kr ⟨[(4, (V.sl 0 1 (List.map (V.int .u8) ([] : List Int)))), (5, (I 6))], [(43, vS 3 (eReader a0))], 43⟩ rfl <| et k_lret <| et blk_ret ?_
      first | rfl | (cases a0; simp only at hc; subst hc; rfl)
    · rw [hc]
      refine kg f51a3 rfl (fun (o3 : Bool) => ⟨[(0, (Pt 43)), (1, (I a1)), (10, (Bo o3))], [(43, vS 3 (eReader a0))], 43⟩) ?_ fun o3 => ?_
      · refine rd 5 [(11, (Pt 43)), (12, (Pt 43)), (13, (V.ptr 43 0 2)), (14, (Bo a0.fbad)), (15, (Bo a0.fbad))] rfl rfl <| bifE (fun hc => ?_) fun hc => ?_
        · rw [hc]
          exact reg_end rfl
        · rw [hc]
          exact rd 10 [(16, (I a1)), (17, (Pt 43)), (18, (Pt 43)), (19, (V.ptr 43 0 1)), (20, (V.sl 0 1 (List.map (V.int .u8) a0.fb)))] rfl rfl <| rl rfl (p_len (e := (V.int .u8)) rfl rfl rfl rfl rfl rfl underlying26) <| bind_end rfl
      refine kcl rfl rfl (fun hc => ?_) fun hc => ?_
      · rw [hc]
        refine kr ⟨[], [(43, vS 3 (eReader { a0 with fbad := true }))], 43⟩ rfl <| kra [(4, (V.sl 0 1 (List.map (V.int .u8) ([] : List Int)))), (5, (I 3))] rfl <| et k_lret <| et blk_ret ?_
        first | rfl | (cases a0; simp only at hc; subst hc; rfl)
      · rw [hc]
        refine et k_lskip <| et blk_normal <| kg f51a6 rfl (fun (o5 : (List Int)) => ⟨[(0, (Pt 43)), (1, (I a1)), (6, (V.sl 0 1 (List.map (V.int .u8) o5)))], [(43, vS 3 (eReader a0))], 43⟩) (rd 5 [(27, (Pt 43)), (28, (Pt 43)), (29, (V.ptr 43 0 1)), (30, (V.sl 0 1 (List.map (V.int .u8) a0.fb))), (31, (I a1))] rfl rfl <| rs rfl (p_slice (e := (V.int .u8)) rfl rfl rfl rfl rfl rfl underlying26 rfl (by decide)) fun v4 => bind_end rfl) fun o5 => kg f51a7 rfl (fun (o7 : T_octet_Reader) => ⟨[(6, (V.sl 0 1 (List.map (V.int .u8) o5)))], [(43, vS 3 (eReader o7))], 43⟩) (rd 6 [(33, (Pt 43)), (34, (Pt 43)), (35, (Pt 43)), (36, (V.ptr 43 0 1)), (37, (V.sl 0 1 (List.map (V.int .u8) a0.fb))), (38, (I a1))] rfl rfl <| rp rfl (p_slice (e := (V.int .u8)) rfl rfl rfl rfl rfl (by simp [bound]) underlying26 rfl (by decide)) fun v6 => bind_end rfl) fun o7 => kr ⟨[(4, (V.sl 0 1 (List.map (V.int .u8) o5))), (5, (I 0))], [(43, vS 3 (eReader o7))], 43⟩ rfl <| et k_lret ?_
        first | rfl | (cases o7; simp only at hc; subst hc; rfl)
def octet_Reader_Small_fin : (Int × Int × T_octet_Reader) → V × List V := fun r => ((.tup [(I r.1), (I r.2.1)]), [(V.io (eReader r.2.2))])
theorem octet_Reader_Small_ok (k : Nat) (a0 : T_octet_Reader) : EV k 27 [(V.io (eReader a0))] = (octet_Reader_Small k a0).map octet_Reader_Small_fin := by
  cases k with
  | zero => rfl
  | succ k =>
    unfold octet_Reader_Small
    refine et (evF_succ (c := f27c) (N := 18) (regs := f27n) rfl func27 rfl (by decide) rfl rfl rfl) <| kra [] rfl <| kg f27a1 rfl (fun (o2 : (List Int) × Int × T_octet_Reader) => ⟨[(4, (V.sl 0 1 (List.map (V.int .u8) o2.1))), (5, (I o2.2.1))], [(18, vS 3 (eReader o2.2.2))], 18⟩) (rd 1 [(7, (Pt 18))] rfl rfl <| et (reg_eff (x := (octet_Reader_take k a0 1)) (w := fun (v1 : ((List Int) × Int × T_octet_Reader)) => ((V.tup [(V.sl 0 1 (List.map (V.int .u8) v1.1)), (I v1.2.1)]), _)) rfl rfl rfl rfl (p_callIO (fr := fun (v1 : ((List Int) × Int × T_octet_Reader)) => (V.tup [(V.sl 0 1 (List.map (V.int .u8) v1.1)), (I v1.2.1)])) (fe := fun (v1 : ((List Int) × Int × T_octet_Reader)) => (eReader v1.2.2)) rfl rfl rfl rfl rfl rfl rfl (octet_Reader_take_ok k a0 1) (fun _ => rfl))) <| bindE fun v1 => bind_end rfl) fun o2 => et k_assoc <| kra [(12, (Bo (o2.2.1 != 0)))] rfl <| kc rfl rfl (fun hc => ?_) fun hc => ?_
    · rw [hc]
      refine et k_assoc <| kr ⟨[(2, (I 0)), (3, (I o2.2.1))], [(18, vS 3 (eReader o2.2.2))], 18⟩ rfl <| et k_ret ?_
      rfl
    · rw [hc]
      refine et k_skip <| kg f27a4 rfl (fun (o4 : Int × Int) => ⟨[(2, (I o4.1)), (3, (I o4.2))], [(18, vS 3 (eReader o2.2.2))], 18⟩) (rd 1 [(14, (V.sl 0 1 (List.map (V.int .u8) o2.1)))] rfl rfl <| rp rfl (p_index (e := (V.int .u8)) rfl rfl rfl underlying26 rfl (by decide)) fun v3 => bind_end rfl) fun o4 => et k_lret ?_
      rfl
def octet_Reader_Number_fin : (Int × Int × T_octet_Reader) → V × List V := fun r => ((.tup [(I r.1), (I r.2.1)]), [(V.io (eReader r.2.2))])
theorem octet_Reader_Number_L1_ok (k : Nat) (a0 : T_octet_Reader) (o2 : (List Int) × Int × T_octet_Reader)  (K0 : Int → Int → Option (Int × Int × T_octet_Reader)) (Kst : X × St → Option (V × List V)) (hK0 : ∀ (y0 : Int) (y1 : Int), Kst (X.exit 0, ⟨[(6, (I y0)), (17, (V.sl 0 1 (List.map (V.int .u8) o2.1))), (18, (I (o2.1.length : Int))), (19, (I y1)), (20, (Bo false))], [(30, vS 3 (eReader o2.2.2))], 30⟩) = (K0 y0 y1).map octet_Reader_Number_fin) (hret : ∀ s, Kst (X.ret, s) = endK prog 30 [(V.io (eReader a0))] [] [.tmp 2, .tmp 3] (X.ret, s)) :
    ∀ (m : Nat) (x7 : Int) (x8 : Int), (iter (exec prog (EV k) f28n k f28b0) m ⟨[(6, (I x7)), (17, (V.sl 0 1 (List.map (V.int .u8) o2.1))), (18, (I (o2.1.length : Int))), (19, (I x8))], [(30, vS 3 (eReader o2.2.2))], 30⟩).bind Kst = (octet_Reader_Number_L1 o2 K0 m x7 x8).map octet_Reader_Number_fin := by
  intro m
  induction m with
  | zero => intros; rfl
  | succ m ih =>
    intro x7 x8
    unfold octet_Reader_Number_L1
    refine et k_round <| kra [(20, (Bo (decide (x8 < (o2.1.length : Int)))))] rfl <| kc rfl rfl (fun hc => ?_) fun hc => ?_
    · rw [hc]
      exact et k_skip <| et (k_block rfl) <| kg f28a7 rfl (fun (o10 : Int) => ⟨[(6, (I x7)), (8, (V.int .u8 o10)), (17, (V.sl 0 1 (List.map (V.int .u8) o2.1))), (18, (I (o2.1.length : Int))), (19, (I x8))], [(30, vS 3 (eReader o2.2.2))], 30⟩) (rs rfl (p_index (e := (V.int .u8)) rfl rfl rfl underlying26 rfl (by decide)) fun v9 => bind_end rfl) fun o10 => kgl f28a8 rfl (fun (o12 : Int) => ⟨[(6, (I o12)), (17, (V.sl 0 1 (List.map (V.int .u8) o2.1))), (18, (I (o2.1.length : Int))), (19, (I x8))], [(30, vS 3 (eReader o2.2.2))], 30⟩) (rd 1 [(23, (I x7))] rfl rfl <| rp rfl (p_shl rfl rfl rfl) fun v11 => bind_end rfl) fun o12 => et blk_normal <| kl ⟨[(6, (I o12)), (17, (V.sl 0 1 (List.map (V.int .u8) o2.1))), (18, (I (o2.1.length : Int))), (19, (I (Go.IntKind.wrap .i64 (x8 + 1))))], [(30, vS 3 (eReader o2.2.2))], 30⟩ rfl <| et loop_normal <| ih o12 (Go.IntKind.wrap .i64 (x8 + 1))
    · rw [hc]
      exact et k_exit <| et loop_exit <| hK0 x7 x8
theorem octet_Reader_Number_ok (k : Nat) (a0 : T_octet_Reader) : EV k 28 [(V.io (eReader a0))] = (octet_Reader_Number k a0).map octet_Reader_Number_fin := by
  cases k with
  | zero => rfl
  | succ k =>
    unfold octet_Reader_Number
    refine et (evF_succ (c := f28c) (N := 30) (regs := f28n) rfl func28 rfl (by decide) rfl rfl rfl) <| kra [] rfl <| kg f28a1 rfl (fun (o2 : (List Int) × Int × T_octet_Reader) => ⟨[(4, (V.sl 0 1 (List.map (V.int .u8) o2.1))), (5, (I o2.2.1))], [(30, vS 3 (eReader o2.2.2))], 30⟩) (rd 1 [(10, (Pt 30))] rfl rfl <| et (reg_eff (x := (octet_Reader_take k a0 4)) (w := fun (v1 : ((List Int) × Int × T_octet_Reader)) => ((V.tup [(V.sl 0 1 (List.map (V.int .u8) v1.1)), (I v1.2.1)]), _)) rfl rfl rfl rfl (p_callIO (fr := fun (v1 : ((List Int) × Int × T_octet_Reader)) => (V.tup [(V.sl 0 1 (List.map (V.int .u8) v1.1)), (I v1.2.1)])) (fe := fun (v1 : ((List Int) × Int × T_octet_Reader)) => (eReader v1.2.2)) rfl rfl rfl rfl rfl rfl rfl (octet_Reader_take_ok k a0 4) (fun _ => rfl))) <| bindE fun v1 => bind_end rfl) fun o2 => et k_assoc <| kra [(15, (Bo (o2.2.1 != 0)))] rfl <| kc rfl rfl (fun hc => ?_) fun hc => ?_
    · rw [hc]
      refine et k_assoc <| kr ⟨[(2, (I 0)), (3, (I o2.2.1))], [(30, vS 3 (eReader o2.2.2))], 30⟩ rfl <| et k_ret ?_
      rfl
    · rw [hc]
      refine et k_skip <| kr ⟨[(4, (V.sl 0 1 (List.map (V.int .u8) o2.1))), (6, (I 0))], [(30, vS 3 (eReader o2.2.2))], 30⟩ rfl <| et k_assoc <| krp f28a5 rfl ⟨[(6, (I 0)), (17, (V.sl 0 1 (List.map (V.int .u8) o2.1))), (18, (I (o2.1.length : Int))), (19, (I 0))], [(30, vS 3 (eReader o2.2.2))], 30⟩ ?_ ?_
      · exact rd 1 [(17, (V.sl 0 1 (List.map (V.int .u8) o2.1)))] rfl rfl <| rl rfl (p_len (e := (V.int .u8)) rfl rfl rfl rfl rfl rfl underlying26) <| bind_end rfl
      refine et (k_block rfl) <| et k_loop ?_
      refine octet_Reader_Number_L1_ok k a0 o2 _ _ ?h_octet_Reader_Number_L1_0 ?hr_octet_Reader_Number_L1 k 0 0
      · intro y13 y14
        refine et blk_exit <| kr ⟨[(2, (I y13)), (3, (I 0))], [(30, vS 3 (eReader o2.2.2))], 30⟩ rfl <| et k_lret ?_
        rfl
      · intro s; exact rfl
def octet_Reader_Text_fin : (Str × Int × T_octet_Reader) → V × List V := fun r => ((.tup [(Sr r.1), (I r.2.1)]), [(V.io (eReader r.2.2))])
theorem octet_Reader_Text_ok (k : Nat) (a0 : T_octet_Reader) : EV k 29 [(V.io (eReader a0))] = (octet_Reader_Text k a0).map octet_Reader_Text_fin := by
  cases k with
  | zero => rfl
  | succ k =>
    unfold octet_Reader_Text
    refine et (evF_succ (c := f29c) (N := 35) (regs := f29n) rfl func29 rfl (by decide) rfl rfl rfl) <| kra [] rfl <| et k_assoc <| kga f29a1 rfl (fun (o2 : Bool) => [(10, (Bo o2))]) (rd 1 [(9, (Pt 35))] rfl rfl <| rs rfl (p_call rfl rfl rfl rfl rfl (octet_Reader_none_ok k a0) (.inr (fun _ => rfl))) fun v1 => bind_end rfl) fun o2 => kc rfl rfl (fun hc => ?_) fun hc => ?_
    · rw [hc]
      refine et k_assoc <| kr ⟨[(2, (Sr ([] : Str))), (3, (I 6))], [(35, vS 3 (eReader a0))], 35⟩ rfl <| et k_ret ?_
      first | rfl | (cases a0; simp only at hc; subst hc; rfl)
    · rw [hc]
      refine et k_skip <| kr ⟨[(0, (Pt 35)), (4, (V.sl 0 1 (List.map (V.int .u8) a0.fb)))], [(35, vS 3 (eReader a0))], 35⟩ rfl <| kg f29a4 rfl (fun (o4 : Int × T_octet_Reader) => ⟨[(0, (Pt 35)), (4, (V.sl 0 1 (List.map (V.int .u8) a0.fb))), (5, (I o4.1))], [(35, vS 3 (eReader o4.2))], 35⟩) (rd 1 [(16, (Pt 35))] rfl rfl <| et (reg_eff (x := (octet_Reader_Small k a0)) (w := fun (v3 : (Int × Int × T_octet_Reader)) => ((V.tup [(I v3.1), (I v3.2.1)]), _)) rfl rfl rfl rfl (p_callIO (fr := fun (v3 : (Int × Int × T_octet_Reader)) => (V.tup [(I v3.1), (I v3.2.1)])) (fe := fun (v3 : (Int × Int × T_octet_Reader)) => (eReader v3.2.2)) rfl rfl rfl rfl rfl rfl rfl (octet_Reader_Small_ok k a0) (fun _ => rfl))) <| bindE fun v3 => bind_end rfl) fun o4 => kg f29a5 rfl (fun (o6 : (List Int) × Int × T_octet_Reader) => ⟨[(0, (Pt 35)), (4, (V.sl 0 1 (List.map (V.int .u8) a0.fb))), (7, (V.sl 0 1 (List.map (V.int .u8) o6.1))), (8, (I o6.2.1))], [(35, vS 3 (eReader o6.2.2))], 35⟩) (rd 2 [(21, (Pt 35)), (22, (I o4.1))] rfl rfl <| et (reg_eff (x := (octet_Reader_take k o4.2 o4.1)) (w := fun (v5 : ((List Int) × Int × T_octet_Reader)) => ((V.tup [(V.sl 0 1 (List.map (V.int .u8) v5.1)), (I v5.2.1)]), _)) rfl rfl rfl rfl (p_callIO (fr := fun (v5 : ((List Int) × Int × T_octet_Reader)) => (V.tup [(V.sl 0 1 (List.map (V.int .u8) v5.1)), (I v5.2.1)])) (fe := fun (v5 : ((List Int) × Int × T_octet_Reader)) => (eReader v5.2.2)) rfl rfl rfl rfl rfl rfl rfl (octet_Reader_take_ok k o4.2 o4.1) (fun _ => rfl))) <| bindE fun v5 => bind_end rfl) fun o6 => et k_assoc <| kra [(27, (Bo (o6.2.1 != 0)))] rfl <| kc rfl rfl (fun hc => ?_) fun hc => ?_
      · rw [hc]
        refine et k_assoc <| kr ⟨[(8, (I o6.2.1))], [(35, vS 3 (eReader { o6.2.2 with fb := a0.fb }))], 35⟩ rfl <| et k_assoc <| kr ⟨[(2, (Sr ([] : Str))), (3, (I o6.2.1))], [(35, vS 3 (eReader { o6.2.2 with fb := a0.fb }))], 35⟩ rfl <| et k_ret ?_
        first | rfl | (cases a0; simp only at hc; subst hc; rfl)
      · rw [hc]
        refine et k_skip <| krp f29a9 rfl ⟨[(2, (Sr (Go.AE.strB o6.1))), (3, (I 0))], [(35, vS 3 (eReader o6.2.2))], 35⟩ ?_ ?_
        · exact rd 1 [(33, (V.sl 0 1 (List.map (V.int .u8) o6.1)))] rfl rfl <| rl rfl (p_convBS (l := o6.1) rfl rfl underlying26 underlying9 underlying5) <| bind_end rfl
        refine et k_lret ?_
        rfl
def octet_Reader_Texts_fin : ((List Str) × Int × T_octet_Reader) → V × List V := fun r => ((.tup [(sS r.1), (I r.2.1)]), [(V.io (eReader r.2.2))])
theorem octet_Reader_Texts_L1_ok (k : Nat) (a0 : T_octet_Reader) (o4 : Int × T_octet_Reader)  (K0 : (List Str) → Int → T_octet_Reader → Option ((List Str) × Int × T_octet_Reader)) (Kst : X × St → Option (V × List V)) (hK0 : ∀ (y0 : (List Str)) (y1 : Int) (y2 : T_octet_Reader), Kst (X.exit 0, ⟨[(0, (Pt 43)), (4, (V.sl 0 1 (List.map (V.int .u8) a0.fb))), (7, (V.sl 1 1 (List.map V.str y0))), (21, (I o4.1)), (22, (I y1)), (23, (Bo false))], [(43, vS 3 (eReader y2))], 43⟩) = (K0 y0 y1 y2).map octet_Reader_Texts_fin) (hret : ∀ s, Kst (X.ret, s) = endK prog 43 [(V.io (eReader a0))] [] [.tmp 2, .tmp 3] (X.ret, s)) :
    ∀ (m : Nat) (x9 : (List Str)) (x10 : Int) (x11 : T_octet_Reader), (iter (exec prog (EV k) f30n k f30b0) m ⟨[(0, (Pt 43)), (4, (V.sl 0 1 (List.map (V.int .u8) a0.fb))), (7, (V.sl 1 1 (List.map V.str x9))), (21, (I o4.1)), (22, (I x10))], [(43, vS 3 (eReader x11))], 43⟩).bind Kst = (octet_Reader_Texts_L1 k o4 K0 m x9 x10 x11).map octet_Reader_Texts_fin := by
  intro m
  induction m with
  | zero => intros; rfl
  | succ m ih =>
    intro x9 x10 x11
    unfold octet_Reader_Texts_L1
    refine et k_round <| kra [(23, (Bo (decide (x10 < o4.1))))] rfl <| kc rfl rfl (fun hc => ?_) fun hc => ?_
    · rw [hc]
      exact et k_skip <| et (k_block rfl) <| kg f30a8 rfl (fun (o13 : Str × T_octet_Reader) => ⟨[(0, (Pt 43)), (4, (V.sl 0 1 (List.map (V.int .u8) a0.fb))), (7, (V.sl 1 1 (List.map V.str x9))), (8, (Sr o13.1)), (21, (I o4.1)), (22, (I x10))], [(43, vS 3 (eReader o13.2))], 43⟩) (rd 1 [(25, (Pt 43))] rfl rfl <| et (reg_eff (x := (octet_Reader_Text k x11)) (w := fun (v12 : (Str × Int × T_octet_Reader)) => ((V.tup [(Sr v12.1), (I v12.2.1)]), _)) rfl rfl rfl rfl (p_callIO (fr := fun (v12 : (Str × Int × T_octet_Reader)) => (V.tup [(Sr v12.1), (I v12.2.1)])) (fe := fun (v12 : (Str × Int × T_octet_Reader)) => (eReader v12.2.2)) rfl rfl rfl rfl rfl rfl rfl (octet_Reader_Text_ok k x11) (fun _ => rfl))) <| bindE fun v12 => bind_end rfl) fun o13 => kgl f30a9 rfl (fun (o15 : (List Str)) => ⟨[(0, (Pt 43)), (4, (V.sl 0 1 (List.map (V.int .u8) a0.fb))), (7, (V.sl 1 1 (List.map V.str o15))), (21, (I o4.1)), (22, (I x10))], [(43, vS 3 (eReader o13.2))], 43⟩) (ra 3 3 ⟨[(0, (Pt 43)), (4, (V.sl 0 1 (List.map (V.int .u8) a0.fb))), (7, (sS x9)), (8, (Sr o13.1)), (21, (I o4.1)), (22, (I x10)), (29, (V.sl 1 1 (List.map V.str x9))), (30, (Sr o13.1)), (31, (sS (([o13.1] : List Str))))], [(43, vS 3 (eReader o13.2))], 43⟩ rfl rfl rfl <| et (reg_eff (x := (app x9 ([o13.1] : List Str))) (w := fun v14 => ((V.sl 1 1 (List.map V.str v14)), _)) rfl rfl rfl rfl (p_app (e := V.str) rfl rfl rfl rfl rfl rfl rfl rfl rfl rfl (by decide))) <| bind_self fun v14 => bind_end rfl) fun o15 => et blk_normal <| kl ⟨[(0, (Pt 43)), (4, (V.sl 0 1 (List.map (V.int .u8) a0.fb))), (7, (V.sl 1 1 (List.map V.str o15))), (21, (I o4.1)), (22, (I (Go.IntKind.wrap .i64 (x10 + 1))))], [(43, vS 3 (eReader o13.2))], 43⟩ rfl <| et loop_normal <| ih o15 (Go.IntKind.wrap .i64 (x10 + 1)) o13.2
    · rw [hc]
      exact et k_exit <| et loop_exit <| hK0 x9 x10 x11
theorem octet_Reader_Texts_ok (k : Nat) (a0 : T_octet_Reader) : EV k 30 [(V.io (eReader a0))] = (octet_Reader_Texts k a0).map octet_Reader_Texts_fin := by
  cases k with
  | zero => rfl
  | succ k =>
    unfold octet_Reader_Texts
    refine et (evF_succ (c := f30c) (N := 43) (regs := f30n) rfl func30 rfl (by decide) rfl rfl rfl) <| kra [] rfl <| et k_assoc <| kga f30a1 rfl (fun (o2 : Bool) => [(11, (Bo o2))]) (rd 1 [(10, (Pt 43))] rfl rfl <| rs rfl (p_call rfl rfl rfl rfl rfl (octet_Reader_none_ok k a0) (.inr (fun _ => rfl))) fun v1 => bind_end rfl) fun o2 => kc rfl rfl (fun hc => ?_) fun hc => ?_
    · rw [hc]
      refine et k_assoc <| kr ⟨[(2, (sS (([] : List Str)))), (3, (I 6))], [(43, vS 3 (eReader a0))], 43⟩ rfl <| et k_ret ?_
      first | rfl | (cases a0; simp only at hc; subst hc; rfl)
    · rw [hc]
      refine et k_skip <| kr ⟨[(0, (Pt 43)), (4, (V.sl 0 1 (List.map (V.int .u8) a0.fb)))], [(43, vS 3 (eReader a0))], 43⟩ rfl <| kg f30a4 rfl (fun (o4 : Int × T_octet_Reader) => ⟨[(0, (Pt 43)), (4, (V.sl 0 1 (List.map (V.int .u8) a0.fb))), (5, (I o4.1))], [(43, vS 3 (eReader o4.2))], 43⟩) (rd 1 [(17, (Pt 43))] rfl rfl <| et (reg_eff (x := (octet_Reader_Small k a0)) (w := fun (v3 : (Int × Int × T_octet_Reader)) => ((V.tup [(I v3.1), (I v3.2.1)]), _)) rfl rfl rfl rfl (p_callIO (fr := fun (v3 : (Int × Int × T_octet_Reader)) => (V.tup [(I v3.1), (I v3.2.1)])) (fe := fun (v3 : (Int × Int × T_octet_Reader)) => (eReader v3.2.2)) rfl rfl rfl rfl rfl rfl rfl (octet_Reader_Small_ok k a0) (fun _ => rfl))) <| bindE fun v3 => bind_end rfl) fun o4 => kra [(7, (V.sl 1 1 (List.map V.str ([] : List Str))))] rfl <| et k_assoc <| kr ⟨[(0, (Pt 43)), (4, (V.sl 0 1 (List.map (V.int .u8) a0.fb))), (7, (V.sl 1 1 (List.map V.str ([] : List Str)))), (21, (I o4.1)), (22, (I 0))], [(43, vS 3 (eReader o4.2))], 43⟩ rfl <| et (k_block rfl) <| et k_loop ?_
      refine octet_Reader_Texts_L1_ok k a0 o4 _ _ ?h_octet_Reader_Texts_L1_0 ?hr_octet_Reader_Texts_L1 k ([] : List Str) 0 o4.2
      · intro y16 y17 y18
        refine et blk_exit <| et k_assoc <| kr ⟨[(0, (Pt 43)), (4, (V.sl 0 1 (List.map (V.int .u8) a0.fb))), (7, (V.sl 1 1 (List.map V.str y16))), (37, (Bo y18.fbad))], [(43, vS 3 (eReader y18))], 43⟩ rfl <| kc rfl rfl (fun hc => ?_) fun hc => ?_
        · rw [hc]
          refine et k_assoc <| kr ⟨[], [(43, vS 3 (eReader { y18 with fb := a0.fb }))], 43⟩ rfl <| et k_assoc <| kra [(2, (sS (([] : List Str)))), (3, (I 3))] rfl <| et k_ret ?_
          first | rfl | (cases y18; simp only at hc; subst hc; rfl)
        · rw [hc]
          refine et k_skip <| kr ⟨[(2, (sS y16)), (3, (I 0))], [(43, vS 3 (eReader y18))], 43⟩ rfl <| et k_lret ?_
          first | rfl | (cases y18; simp only at hc; subst hc; rfl)
      · intro s; exact rfl
def ref01_SameTexts_fin : Bool → V × List V := fun r => ((Bo r), [])
theorem ref01_SameTexts_L1_ok (k : Nat) (a0 : (List Str)) (a1 : (List Str))  (K0 : Int → Option Bool) (Kst : X × St → Option (V × List V)) (hK0 : ∀ (y0 : Int), Kst (X.exit 0, ⟨[(0, (sS a0)), (1, (sS a1)), (5, (I y0)), (14, (Bo false))], [], 26⟩) = (K0 y0).map ref01_SameTexts_fin) (hret : ∀ s, Kst (X.ret, s) = endK prog 26 [(sS a0), (sS a1)] [] [.tmp 4] (X.ret, s)) :
    ∀ (m : Nat) (x4 : Int), (iter (exec prog (EV k) f26n k f26b0) m ⟨[(0, (sS a0)), (1, (sS a1)), (5, (I x4))], [], 26⟩).bind Kst = (ref01_SameTexts_L1 a0 a1 K0 m x4).map ref01_SameTexts_fin := by
  intro m
  induction m with
  | zero => intros; rfl
  | succ m ih =>
    intro x4
    unfold ref01_SameTexts_L1
    refine et k_round <| et k_assoc <| krp f26a4 rfl ⟨[(0, (sS a0)), (1, (sS a1)), (5, (I x4)), (14, (Bo (decide (x4 < (a0.length : Int)))))], [], 26⟩ ?_ ?_
    · exact rd 2 [(11, (I x4)), (12, (sS a0))] rfl rfl <| rl rfl (p_len (e := V.str) rfl rfl rfl rfl rfl rfl underlying22) <| bind_end rfl
    refine kc rfl rfl (fun hc => ?_) fun hc => ?_
    · rw [hc]
      refine et k_skip <| et (k_block rfl) <| kd f26a6 rfl (fun (o7 : Bool) => ⟨[(0, (sS a0)), (1, (sS a1)), (5, (I x4)), (25, (Bo o7))], [], 26⟩) (et (regionE_regp (p := 9) (dk := true) (t := [(0, (sS a0)), (1, (sS a1)), (5, (I x4)), (14, (Bo true))]) (σ := []) (n := 26) rfl (by decide) (by decide) rfl) <| et (regp_adv (m := 2) (j := 2) (t' := [(0, (sS a0)), (1, (sS a1)), (5, (I x4)), (14, (Bo true)), (17, (sS a0)), (18, (I x4))]) rfl rfl rfl) <| et (regp_pure (x := (idx a0 x4)) (w := fun v5 => (Pr (Sr v5))) rfl rfl rfl rfl rfl (p_index (e := V.str) rfl rfl rfl underlying22 rfl (by decide))) <| bindE fun v5 => et (putp_adv (m := 3) (j := 6) (t' := [(0, (sS a0)), (1, (sS a1)), (5, (I x4)), (14, (Bo true)), (17, (sS a0)), (18, (I x4)), (19, (Pr (Sr v5))), (20, (Sr v5)), (21, (sS a1)), (22, (I x4))]) rfl rfl rfl) <| et (regp_pure (x := (idx a1 x4)) (w := fun v6 => (Pr (Sr v6))) rfl rfl rfl rfl rfl (p_index (e := V.str) rfl rfl rfl underlying22 rfl (by decide))) <| bindE fun v6 => regp_end rfl) fun o7 => kcl rfl rfl (fun hc => ?_) fun hc => ?_
      · rw [hc]
        refine kr ⟨[(4, (Bo false))], [], 26⟩ rfl <| et k_lret <| et blk_ret <| et loop_ret <| et (hret _) ?_
        rfl
      · rw [hc]
        exact et k_lskip <| et blk_normal <| kl ⟨[(0, (sS a0)), (1, (sS a1)), (5, (I (Go.IntKind.wrap .i64 (x4 + 1))))], [], 26⟩ rfl <| et loop_normal <| ih (Go.IntKind.wrap .i64 (x4 + 1))
    · rw [hc]
      exact et k_exit <| et loop_exit <| hK0 x4
theorem ref01_SameTexts_ok (k : Nat) (a0 : (List Str)) (a1 : (List Str)) : EV k 26 [(sS a0), (sS a1)] = (ref01_SameTexts k a0 a1).map ref01_SameTexts_fin := by
  cases k with
  | zero => rfl
  | succ k =>
    unfold ref01_SameTexts
    refine et (evF_succ (c := f26c) (N := 26) (regs := f26n) rfl func26 rfl (by decide) rfl rfl rfl) <| kra [] rfl <| et k_assoc <| krp f26a1 rfl ⟨[(0, (sS a0)), (1, (sS a1)), (10, (Bo ((a0.length : Int) != (a1.length : Int))))], [], 26⟩ ?_ ?_
    · exact rd 1 [(6, (sS a0))] rfl rfl <| rl rfl (p_len (e := V.str) rfl rfl rfl rfl rfl rfl underlying22) <| bd 3 [(7, (I (a0.length : Int))), (8, (sS a1))] rfl rfl <| rl rfl (p_len (e := V.str) rfl rfl rfl rfl rfl rfl underlying22) <| bind_end rfl
    refine kc rfl rfl (fun hc => ?_) fun hc => ?_
    · rw [hc]
      refine et k_assoc <| kr ⟨[(4, (Bo false))], [], 26⟩ rfl <| et k_ret ?_
      rfl
    · rw [hc]
      refine et k_skip <| et k_assoc <| kr ⟨[(0, (sS a0)), (1, (sS a1)), (5, (I 0))], [], 26⟩ rfl <| et (k_block rfl) <| et k_loop ?_
      refine ref01_SameTexts_L1_ok k a0 a1 _ _ ?h_ref01_SameTexts_L1_0 ?hr_ref01_SameTexts_L1 k 0
      · intro y8
        refine et blk_exit <| kr ⟨[(4, (Bo true))], [], 26⟩ rfl <| et k_lret ?_
        rfl
      · intro s; exact rfl
def octet_Reader_Left_fin : Int → V × List V := fun r => ((I r), [])
theorem octet_Reader_Left_ok (k : Nat) (a0 : T_octet_Reader) : EV k 31 [(Pr (eReader a0))] = (octet_Reader_Left k a0).map octet_Reader_Left_fin := by
  cases k with
  | zero => rfl
  | succ k =>
    unfold octet_Reader_Left
    refine et (evF_succ (c := f31c) (N := 10) (regs := f31n) rfl func31 rfl (by decide) rfl rfl rfl) <| kra [] rfl <| et k_assoc <| kga f31a1 rfl (fun (o2 : Bool) => [(4, (Bo o2))]) (rd 1 [(3, (Pr (eReader a0)))] rfl rfl <| rs rfl (p_call rfl rfl rfl rfl rfl (octet_Reader_none_ok k a0) (.inl rfl)) fun v1 => bind_end rfl) fun o2 => kc rfl rfl (fun hc => ?_) fun hc => ?_
    · rw [hc]
      refine et k_assoc <| kr ⟨[(2, (I 0))], [], 10⟩ rfl <| et k_ret ?_
      rfl
    · rw [hc]
      refine et k_skip <| krp f31a3 rfl ⟨[(2, (I (a0.fb.length : Int)))], [], 10⟩ ?_ ?_
      · exact rd 4 [(5, (Pr (eReader a0))), (6, (Pr (eReader a0))), (7, (Pr (V.sl 0 1 (List.map (V.int .u8) a0.fb)))), (8, (V.sl 0 1 (List.map (V.int .u8) a0.fb)))] rfl rfl <| rl rfl (p_len (e := (V.int .u8)) rfl rfl rfl rfl rfl rfl underlying26) <| bind_end rfl
      refine et k_lret ?_
      rfl
def law01_OctetBack_fin : Bool → V × List V := fun r => ((Bo r), [])
theorem law01_OctetBack_ok (k : Nat) (a0 : T_arr2_Int) (a1 : (List Str)) (a2 : (List Int)) : EV k 8 [(eInt a0), (sS a1), (V.sl 0 1 (List.map (V.int .u8) a2))] = (law01_OctetBack k a0 a1 a2).map law01_OctetBack_fin := by
  cases k with
  | zero => rfl
  | succ k =>
    unfold law01_OctetBack
    refine et (evF_succ (c := f8c) (N := 118) (regs := f8n) rfl func8 rfl (by decide) rfl rfl rfl) <| kr ⟨[(1, (sS a1)), (2, (V.sl 0 1 (List.map (V.int .u8) a2))), (3, (Pt 3))], [(3, vS 2 (eInt a0))], 118⟩ rfl <| kga f8a1 rfl (fun (o2 : (List Int) × Int) => [(7, (V.sl 0 1 (List.map (V.int .u8) o2.1))), (8, (I o2.2))]) (rd 2 [(19, (Pt 3)), (20, (I a0.e0))] rfl rfl <| rp rfl (p_call rfl rfl rfl rfl rfl (octet_Small_ok k a0.e0) (.inl rfl)) fun v1 => bind_end rfl) fun o2 => kga f8a2 rfl (fun (o4 : (List Int) × Int) => [(9, (V.sl 0 1 (List.map (V.int .u8) o4.1))), (10, (I o4.2))]) (rd 2 [(25, (V.ptr 3 0 1)), (26, (I a0.e1))] rfl rfl <| rp rfl (p_call rfl rfl rfl rfl rfl (octet_Number_ok k a0.e1) (.inl rfl)) fun v3 => bind_end rfl) fun o4 => kga f8a3 rfl (fun (o6 : (List Int) × Int) => [(11, (V.sl 0 1 (List.map (V.int .u8) o6.1))), (12, (I o6.2))]) (rd 1 [(31, (sS a1))] rfl rfl <| rp rfl (p_call rfl rfl rfl rfl rfl (octet_Texts_ok k a1) (.inl rfl)) fun v5 => bind_end rfl) fun o6 => et k_assoc <| kg f8a4 rfl (fun (o8 : Bool) => ⟨[(1, (sS a1)), (2, (V.sl 0 1 (List.map (V.int .u8) a2))), (3, (Pt 3)), (7, (V.sl 0 1 (List.map (V.int .u8) o2.1))), (9, (V.sl 0 1 (List.map (V.int .u8) o4.1))), (11, (V.sl 0 1 (List.map (V.int .u8) o6.1))), (53, (Bo o8))], [(3, vS 2 (eInt a0))], 118⟩) ?_ fun o8 => ?_
    · refine rd 3 [(35, (I o2.2)), (36, (Bo (o2.2 != 0))), (37, (Bo (o2.2 != 0)))] rfl rfl <| bifE (fun hc => ?_) fun hc => ?_
      · rw [hc]
        exact reg_end rfl
      · rw [hc]
        refine rd 7 [(38, (I o4.2)), (39, (Bo (o4.2 != 0))), (40, (Bo (o4.2 != 0))), (41, (Bo (o4.2 != 0)))] rfl rfl <| bifE (fun hc => ?_) fun hc => ?_
        · rw [hc]
          exact reg_end rfl
        · rw [hc]
          refine rd 11 [(42, (I o6.2)), (43, (Bo (o6.2 != 0))), (44, (Bo (o6.2 != 0))), (45, (Bo (o6.2 != 0)))] rfl rfl <| bifE (fun hc => ?_) fun hc => ?_
          · rw [hc]
            exact reg_end rfl
          · rw [hc]
            refine rd 12 [(46, (sS a1))] rfl rfl <| rp rfl (p_call rfl rfl rfl rfl rfl (law01_Large_ok k a1) (.inl rfl)) fun v7 => bd 15 [(47, (Bo v7)), (48, (Bo v7)), (49, (Bo v7))] rfl rfl <| bifE (fun hc => ?_) fun hc => ?_
            · rw [hc]
              exact reg_end rfl
            · rw [hc]
              exact rd 16 [(50, (V.sl 0 1 (List.map (V.int .u8) a2)))] rfl rfl <| rl rfl (p_len (e := (V.int .u8)) rfl rfl rfl rfl rfl rfl underlying26) <| bind_end rfl
    refine kc rfl rfl (fun hc => ?_) fun hc => ?_
    · rw [hc]
      refine et k_assoc <| kg f8a5 rfl (fun (o10 : Bool) => ⟨[(6, (Bo o10))], [], 118⟩) (rs rfl (p_call rfl rfl rfl rfl rfl (law01_First_ok k) (.inl rfl)) fun v9 => bind_end rfl) fun o10 => et k_ret ?_
      rfl
    · rw [hc]
      refine et k_skip <| kg f8a6 rfl (fun (o15 : (List Int)) => ⟨[(1, (sS a1)), (2, (V.sl 0 1 (List.map (V.int .u8) a2))), (3, (Pt 3)), (13, (V.sl 0 1 (List.map (V.int .u8) o15)))], [(3, vS 2 (eInt a0))], 118⟩) (rd 2 [(55, (V.sl 1 1 (List.map (V.int .u8) ([] : List Int)))), (56, (V.sl 0 1 (List.map (V.int .u8) o2.1)))] rfl rfl <| et (reg_eff (x := (app ([] : List Int) o2.1)) (w := fun v11 => ((V.sl 1 1 (List.map (V.int .u8) v11)), _)) rfl rfl rfl rfl (p_app (e := (V.int .u8)) rfl rfl rfl rfl rfl rfl rfl rfl rfl rfl (by decide))) <| bindE fun v11 => ba 1 4 ⟨[(1, (sS a1)), (2, (V.sl 0 1 (List.map (V.int .u8) a2))), (3, (Pt 3)), (7, (V.sl 0 1 (List.map (V.int .u8) o2.1))), (9, (V.sl 0 1 (List.map (V.int .u8) o4.1))), (11, (V.sl 0 1 (List.map (V.int .u8) o6.1))), (53, (Bo false)), (55, (V.sl 0 1 (List.map (V.int .u8) ([] : List Int)))), (56, (V.sl 0 1 (List.map (V.int .u8) o2.1))), (57, (V.sl 1 1 (List.map (V.int .u8) v11))), (58, (V.sl 0 1 (List.map (V.int .u8) o4.1)))], [(3, vS 2 (eInt a0))], 118⟩ rfl rfl rfl <| et (reg_eff (x := (app v11 o4.1)) (w := fun v12 => ((V.sl 1 1 (List.map (V.int .u8) v12)), _)) rfl rfl rfl rfl (p_app (e := (V.int .u8)) rfl rfl rfl rfl rfl rfl rfl rfl rfl rfl (by decide))) <| bindE fun v12 => ba 1 6 ⟨[(1, (sS a1)), (2, (V.sl 0 1 (List.map (V.int .u8) a2))), (3, (Pt 3)), (7, (V.sl 0 1 (List.map (V.int .u8) o2.1))), (9, (V.sl 0 1 (List.map (V.int .u8) o4.1))), (11, (V.sl 0 1 (List.map (V.int .u8) o6.1))), (53, (Bo false)), (55, (V.sl 0 1 (List.map (V.int .u8) ([] : List Int)))), (56, (V.sl 0 1 (List.map (V.int .u8) o2.1))), (57, (V.sl 0 1 (List.map (V.int .u8) v11))), (58, (V.sl 0 1 (List.map (V.int .u8) o4.1))), (59, (V.sl 1 1 (List.map (V.int .u8) v12))), (60, (V.sl 0 1 (List.map (V.int .u8) o6.1)))], [(3, vS 2 (eInt a0))], 118⟩ rfl rfl rfl <| et (reg_eff (x := (app v12 o6.1)) (w := fun v13 => ((V.sl 1 1 (List.map (V.int .u8) v13)), _)) rfl rfl rfl rfl (p_app (e := (V.int .u8)) rfl rfl rfl rfl rfl rfl rfl rfl rfl rfl (by decide))) <| bindE fun v13 => ba 1 8 ⟨[(1, (sS a1)), (2, (V.sl 0 1 (List.map (V.int .u8) a2))), (3, (Pt 3)), (7, (V.sl 0 1 (List.map (V.int .u8) o2.1))), (9, (V.sl 0 1 (List.map (V.int .u8) o4.1))), (11, (V.sl 0 1 (List.map (V.int .u8) o6.1))), (53, (Bo false)), (55, (V.sl 0 1 (List.map (V.int .u8) ([] : List Int)))), (56, (V.sl 0 1 (List.map (V.int .u8) o2.1))), (57, (V.sl 0 1 (List.map (V.int .u8) v11))), (58, (V.sl 0 1 (List.map (V.int .u8) o4.1))), (59, (V.sl 0 1 (List.map (V.int .u8) v12))), (60, (V.sl 0 1 (List.map (V.int .u8) o6.1))), (61, (V.sl 1 1 (List.map (V.int .u8) v13))), (62, (V.sl 0 1 (List.map (V.int .u8) a2)))], [(3, vS 2 (eInt a0))], 118⟩ rfl rfl rfl <| et (reg_eff (x := (app v13 a2)) (w := fun v14 => ((V.sl 1 1 (List.map (V.int .u8) v14)), _)) rfl rfl rfl rfl (p_app (e := (V.int .u8)) rfl rfl rfl rfl rfl rfl rfl rfl rfl rfl (by decide))) <| bind_self fun v14 => bind_end rfl) fun o15 => kg f8a7 rfl (fun (o17 : T_octet_Reader) => ⟨[(1, (sS a1)), (2, (V.sl 0 1 (List.map (V.int .u8) a2))), (3, (Pt 3)), (14, (Pt 65)), (65, (Pt 65))], [(3, vS 2 (eInt a0)), (65, vS 3 (eReader o17))], 118⟩) (rd 1 [(64, (V.sl 0 1 (List.map (V.int .u8) o15)))] rfl rfl <| rs rfl (p_call rfl rfl rfl rfl rfl (octet_NewReader_ok k o15) (.inl rfl)) fun v16 => bind_end rfl) fun o17 => kg f8a8 rfl (fun (o19 : Int × Int × T_octet_Reader) => ⟨[(1, (sS a1)), (2, (V.sl 0 1 (List.map (V.int .u8) a2))), (3, (Pt 3)), (8, (I o19.1)), (14, (Pt 65)), (15, (I o19.2.1)), (65, (Pt 65))], [(3, vS 2 (eInt a0)), (65, vS 3 (eReader o19.2.2))], 118⟩) (rd 1 [(67, (Pt 65))] rfl rfl <| et (reg_eff (x := (octet_Reader_Small k o17)) (w := fun (v18 : (Int × Int × T_octet_Reader)) => ((V.tup [(I v18.1), (I v18.2.1)]), _)) rfl rfl rfl rfl (p_callIO (fr := fun (v18 : (Int × Int × T_octet_Reader)) => (V.tup [(I v18.1), (I v18.2.1)])) (fe := fun (v18 : (Int × Int × T_octet_Reader)) => (eReader v18.2.2)) rfl rfl rfl rfl rfl rfl rfl (octet_Reader_Small_ok k o17) (fun _ => rfl))) <| bindE fun v18 => bind_end rfl) fun o19 => kg f8a9 rfl (fun (o21 : Int × Int × T_octet_Reader) => ⟨[(1, (sS a1)), (2, (V.sl 0 1 (List.map (V.int .u8) a2))), (3, (Pt 3)), (8, (I o19.1)), (10, (I o21.1)), (14, (Pt 65)), (15, (I o19.2.1)), (16, (I o21.2.1)), (65, (Pt 65))], [(3, vS 2 (eInt a0)), (65, vS 3 (eReader o21.2.2))], 118⟩) (rd 1 [(72, (Pt 65))] rfl rfl <| et (reg_eff (x := (octet_Reader_Number k o19.2.2)) (w := fun (v20 : (Int × Int × T_octet_Reader)) => ((V.tup [(I v20.1), (I v20.2.1)]), _)) rfl rfl rfl rfl (p_callIO (fr := fun (v20 : (Int × Int × T_octet_Reader)) => (V.tup [(I v20.1), (I v20.2.1)])) (fe := fun (v20 : (Int × Int × T_octet_Reader)) => (eReader v20.2.2)) rfl rfl rfl rfl rfl rfl rfl (octet_Reader_Number_ok k o19.2.2) (fun _ => rfl))) <| bindE fun v20 => bind_end rfl) fun o21 => kg f8a10 rfl (fun (o23 : Int × (List Str) × T_octet_Reader) => ⟨[(1, (sS a1)), (2, (V.sl 0 1 (List.map (V.int .u8) a2))), (3, (Pt 3)), (8, (I o19.1)), (10, (I o21.1)), (12, (I o23.1)), (14, (Pt 65)), (15, (I o19.2.1)), (16, (I o21.2.1)), (17, (sS o23.2.1)), (65, (Pt 65))], [(3, vS 2 (eInt a0)), (65, vS 3 (eReader o23.2.2))], 118⟩) (rd 1 [(77, (Pt 65))] rfl rfl <| et (reg_eff (x := (octet_Reader_Texts k o21.2.2)) (w := fun (v22 : ((List Str) × Int × T_octet_Reader)) => ((V.tup [(sS v22.1), (I v22.2.1)]), _)) rfl rfl rfl rfl (p_callIO (fr := fun (v22 : ((List Str) × Int × T_octet_Reader)) => (V.tup [(sS v22.1), (I v22.2.1)])) (fe := fun (v22 : ((List Str) × Int × T_octet_Reader)) => (eReader v22.2.2)) rfl rfl rfl rfl rfl rfl rfl (octet_Reader_Texts_ok k o21.2.2) (fun _ => rfl))) <| bindE fun v22 => bind_end rfl) fun o23 => kg f8a11 rfl (fun (o27 : Bool) => ⟨[(6, (Bo o27))], [], 118⟩) ?_ fun o27 => ?_
      · refine rd 3 [(81, (I o19.1)), (82, (Bo (o19.1 == 0))), (83, (Bo (o19.1 == 0)))] rfl rfl <| bifE (fun hc => ?_) fun hc => ?_
        · rw [hc]
          refine rd 7 [(84, (I o21.1)), (85, (Bo (o21.1 == 0))), (86, (Bo (o21.1 == 0))), (87, (Bo (o21.1 == 0)))] rfl rfl <| bifE (fun hc => ?_) fun hc => ?_
          · rw [hc]
            refine rd 11 [(88, (I o23.1)), (89, (Bo (o23.1 == 0))), (90, (Bo (o23.1 == 0))), (91, (Bo (o23.1 == 0)))] rfl rfl <| bifE (fun hc => ?_) fun hc => ?_
            · rw [hc]
              refine rd 17 [(92, (I o19.2.1)), (93, (Pt 3)), (94, (I a0.e0)), (95, (Bo (o19.2.1 == a0.e0))), (96, (Bo (o19.2.1 == a0.e0))), (97, (Bo (o19.2.1 == a0.e0)))] rfl rfl <| bifE (fun hc => ?_) fun hc => ?_
              · rw [hc]
                refine rd 23 [(98, (I o21.2.1)), (99, (V.ptr 3 0 1)), (100, (I a0.e1)), (101, (Bo (o21.2.1 == a0.e1))), (102, (Bo (o21.2.1 == a0.e1))), (103, (Bo (o21.2.1 == a0.e1)))] rfl rfl <| bifE (fun hc => ?_) fun hc => ?_
                · rw [hc]
                  refine rd 25 [(104, (sS o23.2.1)), (105, (sS a1))] rfl rfl <| rp rfl (p_call rfl rfl rfl rfl rfl (ref01_SameTexts_ok k o23.2.1 a1) (.inl rfl)) fun v24 => bd 28 [(106, (Bo v24)), (107, (Bo v24)), (108, (Bo v24))] rfl rfl <| bifE (fun hc => ?_) fun hc => ?_
                  · rw [hc]
                    refine rd 29 [(109, (Pt 65))] rfl rfl <| rp rfl (p_call rfl rfl rfl rfl rfl (octet_Reader_Left_ok k o23.2.2) (.inr (fun _ => rfl))) fun v25 => bd 31 [(110, (I v25)), (111, (V.sl 0 1 (List.map (V.int .u8) a2)))] rfl rfl <| rl rfl (p_len (e := (V.int .u8)) rfl rfl rfl rfl rfl rfl underlying26) <| bd 35 [(112, (I (a2.length : Int))), (113, (Bo (v25 == (a2.length : Int)))), (114, (Bo (v25 == (a2.length : Int)))), (115, (Bo (v25 == (a2.length : Int))))] rfl rfl <| bifE (fun hc => ?_) fun hc => ?_
                    · rw [hc]
                      exact rs rfl (p_call rfl rfl rfl rfl rfl (law01_First_ok k) (.inl rfl)) fun v26 => bind_end rfl
                    · rw [hc]
                      exact reg_end rfl
                  · rw [hc]
                    exact reg_end rfl
                · rw [hc]
                  exact reg_end rfl
              · rw [hc]
                exact reg_end rfl
            · rw [hc]
              exact reg_end rfl
          · rw [hc]
            exact reg_end rfl
        · rw [hc]
          exact reg_end rfl
      refine et k_lret ?_
      rfl
end
end Go.AE
