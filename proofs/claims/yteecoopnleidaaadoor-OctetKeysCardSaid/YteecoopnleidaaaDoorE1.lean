/- The program, function by function: the evaluator comes to the typed functions. Conditions: none. -/
import Derived.Test.YteecoopnleidaaaDoorA3
import Derived.KernelRfl
import Derived.Test.YteecoopnleidaaaDoorProg
import Derived.Test.YteecoopnleidaaaDoorB1
namespace Go.AE
open Go.Proofs.Tryd Go.Sh
set_option linter.unusedSimpArgs false
set_option linter.unusedVariables false
set_option maxRecDepth 100000
set_option maxHeartbeats 4000000
noncomputable section
abbrev Pt (n : Nat) : V := .ptr n 0 0
abbrev Bo (b : Bool) : V := .bool b
abbrev Sr (s : Str) : V := .str s
abbrev Pr (v : V) : V := .pro v
abbrev sS (l : List Str) : V := .sl 0 1 (List.map V.str l)
abbrev vS (n : Nat) (v : V) : Site := ⟨false, n, [v]⟩
abbrev aL {α : Type} (d : Nat) (e : α → V) (l : List α) : V := .aref d 0 (List.map e l).length
noncomputable def f10o0 : Array Oper := cO (cL (cB f10))
def f10a0 : RAnn := ⟨[2], []⟩
noncomputable def f10o1 : Array Oper := cO (cL (cL (cR (cB f10))))
def f10a1 : RAnn := ⟨[], []⟩
noncomputable def f10o2 : Array Oper := cO (cL (cL (cL (cL (cR (cL (cR (cB f10))))))))
def f10a2 : RAnn := ⟨[4, 5, 6], []⟩
noncomputable def f10o3 : Array Oper := cO (cR (cR (cL (cL (cR (cL (cR (cB f10))))))))
def f10a3 : RAnn := ⟨[8, 9, 15], []⟩
noncomputable def f10o4 : Array Oper := cO (cL (cL (cL (cR (cL (cL (cR (cL (cR (cB f10))))))))))
def f10a4 : RAnn := ⟨[7, 10, 11, 12, 13, 14], []⟩
noncomputable def f10o5 : Array Oper := cO (cL (cL (cR (cL (cL (cR (cL (cL (cR (cL (cR (cB f10))))))))))))
def f10a5 : RAnn := ⟨[0, 3, 15], []⟩
noncomputable def f10o6 : Array Oper := cO (cL (cR (cR (cB f10))))
def f10a6 : RAnn := ⟨[0, 3, 7, 16, 17, 18], []⟩
def f10b0 : Code := (.seq (.seq (.region 2 f10o2 false) (.cond (.tmp 7) .skip (.exit 0))) (.seq (.block 1 (.seq (.region 4 f10o4 false) (.cond (.tmp 15) (.seq (.region 5 f10o5 false) .ret) .skip))) (.region 3 f10o3 false)))
def f10c : Code := (.seq (.region 0 f10o0 false) (.seq (.seq (.region 1 f10o1 false) (.block 0 (.loop f10b0))) (.seq (.region 6 f10o6 false) .ret)))
def f10n : List (Nat × RAnn) := [(0, f10a0), (1, f10a1), (2, f10a2), (3, f10a3), (4, f10a4), (5, f10a5), (6, f10a6)]
noncomputable def f19o0 : Array Oper := cO (cL (cB f19))
def f19a0 : RAnn := ⟨[2, 3], []⟩
noncomputable def f19o1 : Array Oper := cO (cL (cL (cR (cB f19))))
def f19a1 : RAnn := ⟨[4, 5], []⟩
noncomputable def f19o2 : Array Oper := cO (cL (cL (cR (cL (cR (cB f19))))))
def f19a2 : RAnn := ⟨[0, 6], []⟩
noncomputable def f19o3 : Array Oper := cO (cL (cR (cR (cB f19))))
def f19a3 : RAnn := ⟨[0, 6, 7, 8, 9, 10, 11, 12], [(3, { keep := [0] }), (5, { tk := [10] })]⟩
def f19c : Code := (.seq (.region 0 f19o0 false) (.seq (.seq (.region 1 f19o1 false) (.cond (.tmp 6) (.seq (.region 2 f19o2 false) .ret) .skip)) (.seq (.region 3 f19o3 false) .ret)))
def f19n : List (Nat × RAnn) := [(0, f19a0), (1, f19a1), (2, f19a2), (3, f19a3)]
noncomputable def f17o0 : Array Oper := cO (cL (cB f17))
def f17a0 : RAnn := ⟨[2, 3], []⟩
noncomputable def f17o1 : Array Oper := cO (cL (cL (cR (cB f17))))
def f17a1 : RAnn := ⟨[4, 5, 6, 7, 8], []⟩
noncomputable def f17o2 : Array Oper := cO (cL (cL (cR (cL (cR (cB f17))))))
def f17a2 : RAnn := ⟨[0, 9], []⟩
noncomputable def f17o3 : Array Oper := cO (cL (cR (cR (cB f17))))
def f17a3 : RAnn := ⟨[0, 9, 10, 11, 12, 13, 14, 15, 16, 17, 18, 19, 20, 21], []⟩
def f17c : Code := (.seq (.region 0 f17o0 false) (.seq (.seq (.region 1 f17o1 false) (.cond (.tmp 9) (.seq (.region 2 f17o2 false) .ret) .skip)) (.seq (.region 3 f17o3 false) .ret)))
def f17n : List (Nat × RAnn) := [(0, f17a0), (1, f17a1), (2, f17a2), (3, f17a3)]
noncomputable def f46o0 : Array Oper := cO (cL (cB f46))
def f46a0 : RAnn := ⟨[4, 5], []⟩
noncomputable def f46o1 : Array Oper := cO (cL (cR (cB f46)))
def f46a1 : RAnn := ⟨[7, 8], []⟩
noncomputable def f46o2 : Array Oper := cO (cL (cL (cR (cR (cB f46)))))
def f46a2 : RAnn := ⟨[0, 9, 10, 11, 12, 13, 14, 15, 16, 17, 18, 19, 20, 21, 22, 23], []⟩
noncomputable def f46o3 : Array Oper := cO (cL (cL (cR (cL (cR (cR (cB f46)))))))
def f46a3 : RAnn := ⟨[1, 6, 24], []⟩
noncomputable def f46o4 : Array Oper := cO (cL (cR (cR (cR (cB f46)))))
def f46a4 : RAnn := ⟨[1, 6, 24, 25, 26, 27, 28, 29, 30, 31], []⟩
def f46c : Code := (.seq (.region 0 f46o0 false) (.seq (.region 1 f46o1 false) (.seq (.seq (.region 2 f46o2 false) (.cond (.tmp 24) (.seq (.region 3 f46o3 false) .ret) .skip)) (.seq (.region 4 f46o4 false) .ret))))
def f46n : List (Nat × RAnn) := [(0, f46a0), (1, f46a1), (2, f46a2), (3, f46a3), (4, f46a4)]
noncomputable def f40o0 : Array Oper := cO (cL (cB f40))
def f40a0 : RAnn := ⟨[4, 5], []⟩
noncomputable def f40o1 : Array Oper := cO (cL (cL (cR (cB f40))))
def f40a1 : RAnn := ⟨[6, 7, 8, 9, 10, 11, 12], []⟩
noncomputable def f40o2 : Array Oper := cO (cL (cL (cR (cL (cR (cB f40))))))
def f40a2 : RAnn := ⟨[0, 1, 13], []⟩
noncomputable def f40o3 : Array Oper := cO (cL (cR (cR (cB f40))))
def f40a3 : RAnn := ⟨[0, 1, 13, 14, 15, 16, 17, 18, 19, 20], []⟩
def f40c : Code := (.seq (.region 0 f40o0 false) (.seq (.seq (.region 1 f40o1 false) (.cond (.tmp 13) (.seq (.region 2 f40o2 false) .ret) .skip)) (.seq (.region 3 f40o3 false) .ret)))
def f40n : List (Nat × RAnn) := [(0, f40a0), (1, f40a1), (2, f40a2), (3, f40a3)]
noncomputable def f14o0 : Array Oper := cO (cL (cB f14))
def f14a0 : RAnn := ⟨[2], []⟩
noncomputable def f14o1 : Array Oper := cO (cL (cR (cB f14)))
def f14a1 : RAnn := ⟨[], [(0, { keep := [0] })]⟩
noncomputable def f14o2 : Array Oper := cO (cL (cL (cR (cR (cB f14)))))
def f14a2 : RAnn := ⟨[0], []⟩
noncomputable def f14o3 : Array Oper := cO (cL (cL (cL (cR (cL (cR (cR (cB f14))))))))
def f14a3 : RAnn := ⟨[], []⟩
noncomputable def f14o4 : Array Oper := cO (cL (cL (cL (cR (cR (cL (cL (cR (cL (cR (cR (cB f14))))))))))))
def f14a4 : RAnn := ⟨[9, 10, 11], []⟩
noncomputable def f14o5 : Array Oper := cO (cL (cR (cL (cL (cR (cR (cL (cL (cR (cL (cR (cR (cB f14)))))))))))))
def f14a5 : RAnn := ⟨[5, 12, 13, 14, 15], [(0, { tk := [3], keep := [0] }), (3, { tk := [12], keep := [0] }), (4, { tk := [15], keep := [0] })]⟩
noncomputable def f14o6 : Array Oper := cO (cR (cR (cL (cL (cR (cR (cL (cL (cR (cL (cR (cR (cB f14)))))))))))))
def f14a6 : RAnn := ⟨[16, 17, 18], [(0, { tk := [3], keep := [0] }), (2, { tk := [16], keep := [0] }), (3, { tk := [18], keep := [0] })]⟩
noncomputable def f14o7 : Array Oper := cO (cR (cR (cR (cL (cL (cR (cL (cR (cR (cB f14))))))))))
def f14a7 : RAnn := ⟨[19], []⟩
noncomputable def f14o8 : Array Oper := cO (cL (cR (cR (cR (cB f14)))))
def f14a8 : RAnn := ⟨[3, 6, 7, 8, 9, 20], []⟩
def f14b0 : Code := (.seq (.region 3 f14o3 false) (.seq (.cond (.tmp 9) .skip (.exit 0)) (.seq (.block 1 (.seq (.region 4 f14o4 false) (.seq (.region 5 f14o5 false) (.region 6 f14o6 false)))) (.region 7 f14o7 false))))
def f14c : Code := (.seq (.region 0 f14o0 false) (.seq (.region 1 f14o1 false) (.seq (.seq (.region 2 f14o2 false) (.block 0 (.loop f14b0))) (.seq (.region 8 f14o8 false) .ret))))
def f14n : List (Nat × RAnn) := [(0, f14a0), (1, f14a1), (2, f14a2), (3, f14a3), (4, f14a4), (5, f14a5), (6, f14a6), (7, f14a7), (8, f14a8)]
noncomputable def f11o0 : Array Oper := cO (cL (cB f11))
def f11a0 : RAnn := ⟨[0], []⟩
noncomputable def f11o1 : Array Oper := cO (cL (cR (cB f11)))
def f11a1 : RAnn := ⟨[9, 10, 11, 12], []⟩
noncomputable def f11o2 : Array Oper := cO (cL (cR (cR (cB f11))))
def f11a2 : RAnn := ⟨[13, 14, 15, 16], []⟩
noncomputable def f11o3 : Array Oper := cO (cL (cR (cR (cR (cB f11)))))
def f11a3 : RAnn := ⟨[17, 18, 19, 20], []⟩
noncomputable def f11o4 : Array Oper := cO (cL (cR (cR (cR (cR (cB f11))))))
def f11a4 : RAnn := ⟨[21, 22, 23, 24], []⟩
noncomputable def f11o5 : Array Oper := cO (cL (cR (cR (cR (cR (cR (cB f11)))))))
def f11a5 : RAnn := ⟨[1, 2, 3, 4, 5, 6, 7, 8, 25, 26, 27, 28, 29, 30, 31, 32, 33, 34, 35, 36, 37, 38, 39, 40, 41, 42, 43, 44, 45, 46, 47, 48, 49, 50, 51, 52, 53, 54, 55, 56, 57, 58, 59, 60, 61, 62], []⟩
def f11c : Code := (.seq (.region 0 f11o0 false) (.seq (.region 1 f11o1 false) (.seq (.region 2 f11o2 false) (.seq (.region 3 f11o3 false) (.seq (.region 4 f11o4 false) (.seq (.region 5 f11o5 false) .ret))))))
def f11n : List (Nat × RAnn) := [(0, f11a0), (1, f11a1), (2, f11a2), (3, f11a3), (4, f11a4), (5, f11a5)]
noncomputable def f23o0 : Array Oper := cO (cL (cB f23))
def f23a0 : RAnn := ⟨[2, 3], []⟩
noncomputable def f23o1 : Array Oper := cO (cL (cR (cB f23)))
def f23a1 : RAnn := ⟨[], [(0, { keep := [0] })]⟩
noncomputable def f23o2 : Array Oper := cO (cL (cR (cR (cB f23))))
def f23a2 : RAnn := ⟨[], [(0, { keep := [0] })]⟩
noncomputable def f23o3 : Array Oper := cO (cL (cR (cR (cR (cB f23)))))
def f23a3 : RAnn := ⟨[], []⟩
noncomputable def f23o4 : Array Oper := cO (cL (cL (cR (cR (cR (cR (cB f23)))))))
def f23a4 : RAnn := ⟨[], []⟩
noncomputable def f23o5 : Array Oper := cO (cL (cL (cL (cL (cR (cL (cR (cR (cR (cR (cB f23)))))))))))
def f23a5 : RAnn := ⟨[8, 9, 10], []⟩
noncomputable def f23o6 : Array Oper := cO (cR (cR (cL (cL (cR (cL (cR (cR (cR (cR (cB f23)))))))))))
def f23a6 : RAnn := ⟨[12, 13], []⟩
noncomputable def f23o7 : Array Oper := cO (cL (cL (cL (cL (cL (cR (cL (cL (cR (cL (cR (cR (cR (cR (cB f23)))))))))))))))
def f23a7 : RAnn := ⟨[6, 11, 15, 16, 17, 18, 19], []⟩
noncomputable def f23o8 : Array Oper := cO (cL (cL (cR (cL (cL (cL (cL (cR (cL (cL (cR (cL (cR (cR (cR (cR (cB f23)))))))))))))))))
def f23a8 : RAnn := ⟨[14, 20, 21, 22, 23, 24, 25, 26], [(0, { tk := [5], keep := [0] }), (6, { tk := [20], keep := [0] }), (7, { tk := [26], keep := [0] })]⟩
noncomputable def f23o9 : Array Oper := cO (cL (cR (cR (cL (cL (cL (cL (cR (cL (cL (cR (cL (cR (cR (cR (cR (cB f23)))))))))))))))))
def f23a9 : RAnn := ⟨[14, 28, 29, 30, 31, 32], []⟩
noncomputable def f23o10 : Array Oper := cO (cL (cL (cR (cR (cR (cL (cL (cL (cL (cR (cL (cL (cR (cL (cR (cR (cR (cR (cB f23)))))))))))))))))))
def f23a10 : RAnn := ⟨[0, 4, 5, 7, 27], []⟩
noncomputable def f23o11 : Array Oper := cO (cL (cR (cL (cL (cR (cL (cL (cR (cL (cR (cR (cR (cR (cB f23))))))))))))))
def f23a11 : RAnn := ⟨[27, 33, 34], []⟩
noncomputable def f23o12 : Array Oper := cO (cL (cR (cR (cL (cL (cR (cL (cL (cR (cL (cR (cR (cR (cR (cB f23)))))))))))))))
def f23a12 : RAnn := ⟨[35, 36, 37], []⟩
noncomputable def f23o13 : Array Oper := cO (cL (cR (cR (cR (cR (cL (cR (cR (cR (cL (cL (cR (cL (cL (cR (cL (cR (cR (cR (cR (cB f23)))))))))))))))))))))
def f23a13 : RAnn := ⟨[0, 4, 5, 7, 44], []⟩
noncomputable def f23o14 : Array Oper := cO (cL (cL (cR (cR (cR (cL (cL (cR (cL (cL (cR (cL (cR (cR (cR (cR (cB f23)))))))))))))))))
def f23a14 : RAnn := ⟨[40], []⟩
noncomputable def f23o15 : Array Oper := cO (cL (cR (cL (cR (cR (cR (cL (cL (cR (cL (cL (cR (cL (cR (cR (cR (cR (cB f23))))))))))))))))))
def f23a15 : RAnn := ⟨[38, 39, 41, 42, 43], [(0, { tk := [5], keep := [0] }), (2, { tk := [41], keep := [0] }), (3, { tk := [43], keep := [0] })]⟩
noncomputable def f23o16 : Array Oper := cO (cL (cR (cR (cL (cR (cR (cR (cL (cL (cR (cL (cL (cR (cL (cR (cR (cR (cR (cB f23)))))))))))))))))))
def f23a16 : RAnn := ⟨[38, 39, 45], []⟩
noncomputable def f23o17 : Array Oper := cO (cL (cL (cR (cR (cR (cL (cR (cR (cR (cL (cL (cR (cL (cL (cR (cL (cR (cR (cR (cR (cB f23)))))))))))))))))))))
def f23a17 : RAnn := ⟨[5, 44, 46, 47, 48, 49, 50], [(0, { tk := [4], keep := [0] }), (4, { tk := [46], keep := [0] }), (5, { tk := [50], keep := [0] })]⟩
noncomputable def f23o18 : Array Oper := cO (cR (cL (cR (cR (cR (cL (cR (cR (cR (cL (cL (cR (cL (cL (cR (cL (cR (cR (cR (cR (cB f23)))))))))))))))))))))
def f23a18 : RAnn := ⟨[], [(0, { keep := [0] })]⟩
noncomputable def f23o19 : Array Oper := cO (cL (cL (cR (cR (cR (cR (cR (cB f23))))))))
def f23a19 : RAnn := ⟨[0, 5, 6, 7, 11], []⟩
noncomputable def f23o20 : Array Oper := cO (cL (cL (cR (cL (cR (cR (cR (cR (cR (cB f23))))))))))
def f23a20 : RAnn := ⟨[4, 51], []⟩
noncomputable def f23o21 : Array Oper := cO (cL (cR (cR (cR (cR (cR (cR (cB f23))))))))
def f23a21 : RAnn := ⟨[4, 51, 52], []⟩
def f23b0 : Code := (.seq (.seq (.region 5 f23o5 false) (.cond (.tmp 11) .skip (.exit 0))) (.seq (.block 1 (.seq (.block 2 (.seq (.region 7 f23o7 false) (.cond (.tmp 14) (.seq (.region 8 f23o8 false) (.exit 1)) (.seq (.region 9 f23o9 false) (.cond (.tmp 27) (.seq (.region 10 f23o10 false) .ret) .skip))))) (.seq (.region 11 f23o11 false) (.seq (.region 12 f23o12 false) (.block 3 (.seq (.region 14 f23o14 false) (.cond (.tmp 39) (.region 15 f23o15 false) (.seq (.region 16 f23o16 false) (.cond (.tmp 44) (.seq (.region 17 f23o17 false) (.region 18 f23o18 false)) (.seq (.region 13 f23o13 false) .ret)))))))))) (.region 6 f23o6 false)))
def f23c : Code := (.seq (.region 0 f23o0 false) (.seq (.region 1 f23o1 false) (.seq (.region 2 f23o2 false) (.seq (.region 3 f23o3 false) (.seq (.seq (.region 4 f23o4 false) (.block 0 (.loop f23b0))) (.seq (.seq (.region 19 f23o19 false) (.cond (.tmp 51) (.seq (.region 20 f23o20 false) .ret) .skip)) (.seq (.region 21 f23o21 false) .ret)))))))
def f23n : List (Nat × RAnn) := [(0, f23a0), (1, f23a1), (2, f23a2), (3, f23a3), (4, f23a4), (5, f23a5), (6, f23a6), (7, f23a7), (8, f23a8), (9, f23a9), (10, f23a10), (11, f23a11), (12, f23a12), (13, f23a13), (14, f23a14), (15, f23a15), (16, f23a16), (17, f23a17), (18, f23a18), (19, f23a19), (20, f23a20), (21, f23a21)]
noncomputable def f24o0 : Array Oper := cO (cL (cB f24))
def f24a0 : RAnn := ⟨[2, 3], []⟩
noncomputable def f24o1 : Array Oper := cO (cL (cR (cB f24)))
def f24a1 : RAnn := ⟨[], [(0, { keep := [0] })]⟩
noncomputable def f24o2 : Array Oper := cO (cL (cR (cR (cB f24))))
def f24a2 : RAnn := ⟨[], [(0, { keep := [0] })]⟩
noncomputable def f24o3 : Array Oper := cO (cL (cR (cR (cR (cB f24)))))
def f24a3 : RAnn := ⟨[], []⟩
noncomputable def f24o4 : Array Oper := cO (cL (cL (cR (cR (cR (cR (cB f24)))))))
def f24a4 : RAnn := ⟨[], []⟩
noncomputable def f24o5 : Array Oper := cO (cL (cL (cL (cL (cR (cL (cR (cR (cR (cR (cB f24)))))))))))
def f24a5 : RAnn := ⟨[8, 9, 10], []⟩
noncomputable def f24o6 : Array Oper := cO (cR (cR (cL (cL (cR (cL (cR (cR (cR (cR (cB f24)))))))))))
def f24a6 : RAnn := ⟨[12, 13], []⟩
noncomputable def f24o7 : Array Oper := cO (cL (cL (cL (cR (cL (cL (cR (cL (cR (cR (cR (cR (cB f24)))))))))))))
def f24a7 : RAnn := ⟨[11], []⟩
noncomputable def f24o8 : Array Oper := cO (cL (cL (cR (cL (cL (cR (cL (cL (cR (cL (cR (cR (cR (cR (cB f24)))))))))))))))
def f24a8 : RAnn := ⟨[14, 15, 16, 17], []⟩
noncomputable def f24o9 : Array Oper := cO (cL (cL (cR (cL (cR (cL (cL (cR (cL (cL (cR (cL (cR (cR (cR (cR (cB f24)))))))))))))))))
def f24a9 : RAnn := ⟨[18, 19, 20, 21, 22, 23, 24, 25], [(0, { tk := [5], keep := [0] }), (6, { tk := [19], keep := [0] }), (7, { tk := [25], keep := [0] })]⟩
noncomputable def f24o10 : Array Oper := cO (cL (cR (cR (cL (cL (cR (cL (cL (cR (cL (cR (cR (cR (cR (cB f24)))))))))))))))
def f24a10 : RAnn := ⟨[18, 26, 27], []⟩
noncomputable def f24o11 : Array Oper := cO (cL (cL (cR (cR (cR (cL (cL (cR (cL (cL (cR (cL (cR (cR (cR (cR (cB f24)))))))))))))))))
def f24a11 : RAnn := ⟨[28, 29, 30, 31, 32, 33, 34, 35, 36, 37, 38, 39, 40, 41, 42, 43, 44], []⟩
noncomputable def f24o12 : Array Oper := cO (cL (cL (cR (cL (cR (cR (cR (cL (cL (cR (cL (cL (cR (cL (cR (cR (cR (cR (cB f24)))))))))))))))))))
def f24a12 : RAnn := ⟨[0, 4, 5, 6, 7, 45], []⟩
noncomputable def f24o13 : Array Oper := cO (cL (cL (cR (cR (cR (cR (cL (cL (cR (cL (cL (cR (cL (cR (cR (cR (cR (cB f24))))))))))))))))))
def f24a13 : RAnn := ⟨[45, 46, 47, 48, 49], []⟩
noncomputable def f24o14 : Array Oper := cO (cL (cL (cR (cL (cR (cR (cR (cR (cL (cL (cR (cL (cL (cR (cL (cR (cR (cR (cR (cB f24))))))))))))))))))))
def f24a14 : RAnn := ⟨[50, 51, 52, 53], [(0, { tk := [5], keep := [0] }), (2, { tk := [51], keep := [0] }), (3, { tk := [53], keep := [0] })]⟩
noncomputable def f24o15 : Array Oper := cO (cL (cR (cR (cR (cR (cR (cL (cL (cR (cL (cL (cR (cL (cR (cR (cR (cR (cB f24))))))))))))))))))
def f24a15 : RAnn := ⟨[5, 6, 50, 54, 55, 56, 57, 58], [(0, { tk := [4], keep := [0] }), (4, { tk := [54], keep := [0] }), (5, { tk := [58], keep := [0] })]⟩
noncomputable def f24o16 : Array Oper := cO (cL (cR (cR (cR (cR (cR (cR (cL (cL (cR (cL (cL (cR (cL (cR (cR (cR (cR (cB f24)))))))))))))))))))
def f24a16 : RAnn := ⟨[], [(0, { keep := [0] })]⟩
noncomputable def f24o17 : Array Oper := cO (cR (cR (cR (cR (cR (cR (cR (cL (cL (cR (cL (cL (cR (cL (cR (cR (cR (cR (cB f24)))))))))))))))))))
def f24a17 : RAnn := ⟨[], []⟩
noncomputable def f24o18 : Array Oper := cO (cL (cL (cR (cR (cR (cR (cR (cB f24))))))))
def f24a18 : RAnn := ⟨[0, 5, 6, 7, 11], []⟩
noncomputable def f24o19 : Array Oper := cO (cL (cL (cR (cL (cR (cR (cR (cR (cR (cB f24))))))))))
def f24a19 : RAnn := ⟨[4, 59], []⟩
noncomputable def f24o20 : Array Oper := cO (cL (cR (cR (cR (cR (cR (cR (cB f24))))))))
def f24a20 : RAnn := ⟨[4, 59, 60], []⟩
def f24b0 : Code := (.seq (.seq (.region 5 f24o5 false) (.cond (.tmp 11) .skip (.exit 0))) (.seq (.block 1 (.seq (.region 7 f24o7 false) (.seq (.seq (.region 8 f24o8 false) (.cond (.tmp 18) (.seq (.region 9 f24o9 false) (.exit 1)) .skip)) (.seq (.region 10 f24o10 false) (.seq (.seq (.region 11 f24o11 false) (.cond (.tmp 45) (.seq (.region 12 f24o12 false) .ret) .skip)) (.seq (.seq (.region 13 f24o13 false) (.cond (.tmp 50) (.seq (.region 14 f24o14 false) (.exit 1)) .skip)) (.seq (.region 15 f24o15 false) (.seq (.region 16 f24o16 false) (.region 17 f24o17 false))))))))) (.region 6 f24o6 false)))
def f24c : Code := (.seq (.region 0 f24o0 false) (.seq (.region 1 f24o1 false) (.seq (.region 2 f24o2 false) (.seq (.region 3 f24o3 false) (.seq (.seq (.region 4 f24o4 false) (.block 0 (.loop f24b0))) (.seq (.seq (.region 18 f24o18 false) (.cond (.tmp 59) (.seq (.region 19 f24o19 false) .ret) .skip)) (.seq (.region 20 f24o20 false) .ret)))))))
def f24n : List (Nat × RAnn) := [(0, f24a0), (1, f24a1), (2, f24a2), (3, f24a3), (4, f24a4), (5, f24a5), (6, f24a6), (7, f24a7), (8, f24a8), (9, f24a9), (10, f24a10), (11, f24a11), (12, f24a12), (13, f24a13), (14, f24a14), (15, f24a15), (16, f24a16), (17, f24a17), (18, f24a18), (19, f24a19), (20, f24a20)]
noncomputable def f25o0 : Array Oper := cO (cL (cB f25))
def f25a0 : RAnn := ⟨[2], []⟩
noncomputable def f25o1 : Array Oper := cO (cL (cR (cB f25)))
def f25a1 : RAnn := ⟨[], [(0, { keep := [0] })]⟩
noncomputable def f25o2 : Array Oper := cO (cL (cL (cR (cR (cB f25)))))
def f25a2 : RAnn := ⟨[], []⟩
noncomputable def f25o3 : Array Oper := cO (cL (cL (cL (cL (cR (cL (cR (cR (cB f25)))))))))
def f25a3 : RAnn := ⟨[6, 7, 8], []⟩
noncomputable def f25o4 : Array Oper := cO (cR (cR (cL (cL (cR (cL (cR (cR (cB f25)))))))))
def f25a4 : RAnn := ⟨[10, 11], []⟩
noncomputable def f25o5 : Array Oper := cO (cL (cL (cL (cL (cR (cL (cL (cR (cL (cR (cR (cB f25))))))))))))
def f25a5 : RAnn := ⟨[9], []⟩
noncomputable def f25o6 : Array Oper := cO (cL (cL (cL (cL (cR (cL (cL (cL (cR (cL (cL (cR (cL (cR (cR (cB f25))))))))))))))))
def f25a6 : RAnn := ⟨[12, 13, 14, 15, 16, 17], []⟩
noncomputable def f25o7 : Array Oper := cO (cR (cR (cL (cL (cR (cL (cL (cL (cR (cL (cL (cR (cL (cR (cR (cB f25))))))))))))))))
def f25a7 : RAnn := ⟨[19, 20, 36], []⟩
noncomputable def f25o8 : Array Oper := cO (cL (cL (cL (cR (cL (cL (cR (cL (cL (cL (cR (cL (cL (cR (cL (cR (cR (cB f25))))))))))))))))))
def f25a8 : RAnn := ⟨[18, 21, 22, 23, 24, 25, 26, 27, 28, 29], [(0, { tk := [3], keep := [0] }), (8, { tk := [21], keep := [0] }), (9, { tk := [29], keep := [0] })]⟩
noncomputable def f25o9 : Array Oper := cO (cL (cR (cL (cL (cR (cL (cL (cR (cL (cL (cL (cR (cL (cL (cR (cL (cR (cR (cB f25)))))))))))))))))))
def f25a9 : RAnn := ⟨[30, 31, 32, 33, 34, 35], []⟩
noncomputable def f25o10 : Array Oper := cO (cL (cR (cR (cL (cL (cR (cL (cL (cR (cL (cL (cL (cR (cL (cL (cR (cL (cR (cR (cB f25))))))))))))))))))))
def f25a10 : RAnn := ⟨[36, 37, 38, 39], [(0, { tk := [3], keep := [0] }), (2, { tk := [37], keep := [0] }), (3, { tk := [39], keep := [0] })]⟩
noncomputable def f25o11 : Array Oper := cO (cR (cL (cL (cR (cL (cL (cR (cL (cR (cR (cB f25)))))))))))
def f25a11 : RAnn := ⟨[5, 18, 40, 41, 42], [(0, { tk := [3], keep := [0] }), (2, { tk := [40], keep := [0] }), (3, { tk := [42], keep := [0] })]⟩
noncomputable def f25o12 : Array Oper := cO (cL (cR (cR (cR (cB f25)))))
def f25a12 : RAnn := ⟨[0, 3, 4, 9, 43], []⟩
def f25b0 : Code := (.seq (.seq (.region 6 f25o6 false) (.cond (.tmp 18) .skip (.exit 2))) (.seq (.block 3 (.seq (.region 8 f25o8 false) (.seq (.region 9 f25o9 false) (.cond (.tmp 36) (.region 10 f25o10 false) .skip)))) (.region 7 f25o7 false)))
def f25b1 : Code := (.seq (.seq (.region 3 f25o3 false) (.cond (.tmp 9) .skip (.exit 0))) (.seq (.block 1 (.seq (.seq (.region 5 f25o5 false) (.block 2 (.loop f25b0))) (.region 11 f25o11 false))) (.region 4 f25o4 false)))
def f25c : Code := (.seq (.region 0 f25o0 false) (.seq (.region 1 f25o1 false) (.seq (.seq (.region 2 f25o2 false) (.block 0 (.loop f25b1))) (.seq (.region 12 f25o12 false) .ret))))
def f25n : List (Nat × RAnn) := [(0, f25a0), (1, f25a1), (2, f25a2), (3, f25a3), (4, f25a4), (5, f25a5), (6, f25a6), (7, f25a7), (8, f25a8), (9, f25a9), (10, f25a10), (11, f25a11), (12, f25a12)]
noncomputable def f26o0 : Array Oper := cO (cL (cB f26))
def f26a0 : RAnn := ⟨[4], []⟩
noncomputable def f26o1 : Array Oper := cO (cL (cL (cR (cB f26))))
def f26a1 : RAnn := ⟨[6, 7, 8, 9], []⟩
noncomputable def f26o2 : Array Oper := cO (cL (cL (cR (cL (cR (cB f26))))))
def f26a2 : RAnn := ⟨[0, 1, 10], []⟩
noncomputable def f26o3 : Array Oper := cO (cL (cL (cR (cR (cB f26)))))
def f26a3 : RAnn := ⟨[10], []⟩
noncomputable def f26o4 : Array Oper := cO (cL (cL (cL (cL (cR (cL (cR (cR (cB f26)))))))))
def f26a4 : RAnn := ⟨[11, 12, 13], []⟩
noncomputable def f26o5 : Array Oper := cO (cR (cR (cL (cL (cR (cL (cR (cR (cB f26)))))))))
def f26a5 : RAnn := ⟨[15, 16, 25], []⟩
noncomputable def f26o6 : Array Oper := cO (cL (cL (cL (cR (cL (cL (cR (cL (cR (cR (cB f26)))))))))))
def f26a6 : RAnn := ⟨[14, 17, 18, 19, 20, 21, 22, 23, 24], []⟩
noncomputable def f26o7 : Array Oper := cO (cL (cL (cR (cL (cL (cR (cL (cL (cR (cL (cR (cR (cB f26)))))))))))))
def f26a7 : RAnn := ⟨[0, 1, 5, 25], []⟩
noncomputable def f26o8 : Array Oper := cO (cL (cR (cR (cR (cB f26)))))
def f26a8 : RAnn := ⟨[0, 1, 5, 14], []⟩
def f26b0 : Code := (.seq (.seq (.region 4 f26o4 false) (.cond (.tmp 14) .skip (.exit 0))) (.seq (.block 1 (.seq (.region 6 f26o6 true) (.cond (.tmp 25) (.seq (.region 7 f26o7 false) .ret) .skip))) (.region 5 f26o5 false)))
def f26c : Code := (.seq (.region 0 f26o0 false) (.seq (.seq (.region 1 f26o1 false) (.cond (.tmp 10) (.seq (.region 2 f26o2 false) .ret) .skip)) (.seq (.seq (.region 3 f26o3 false) (.block 0 (.loop f26b0))) (.seq (.region 8 f26o8 false) .ret))))
def f26n : List (Nat × RAnn) := [(0, f26a0), (1, f26a1), (2, f26a2), (3, f26a3), (4, f26a4), (5, f26a5), (6, f26a6), (7, f26a7), (8, f26a8)]
noncomputable def f5o0 : Array Oper := cO (cL (cB f5))
def f5a0 : RAnn := ⟨[4], []⟩
noncomputable def f5o1 : Array Oper := cO (cL (cL (cR (cB f5))))
def f5a1 : RAnn := ⟨[12, 13, 14, 15, 16, 17], []⟩
noncomputable def f5o2 : Array Oper := cO (cL (cL (cR (cL (cR (cB f5))))))
def f5a2 : RAnn := ⟨[0, 1, 18, 19], []⟩
noncomputable def f5o3 : Array Oper := cO (cL (cR (cR (cB f5))))
def f5a3 : RAnn := ⟨[18, 20, 21], []⟩
noncomputable def f5o4 : Array Oper := cO (cL (cR (cR (cR (cB f5)))))
def f5a4 : RAnn := ⟨[22, 23, 24, 25, 26], []⟩
noncomputable def f5o5 : Array Oper := cO (cL (cR (cR (cR (cR (cB f5))))))
def f5a5 : RAnn := ⟨[27, 28, 29, 30, 31], []⟩
noncomputable def f5o6 : Array Oper := cO (cL (cR (cR (cR (cR (cR (cB f5)))))))
def f5a6 : RAnn := ⟨[32, 33, 34, 35, 36], []⟩
noncomputable def f5o7 : Array Oper := cO (cL (cL (cR (cR (cR (cR (cR (cR (cB f5)))))))))
def f5a7 : RAnn := ⟨[0, 5, 6, 7, 10, 11, 37, 38, 39, 40, 41, 42, 43, 44, 45, 46, 47, 48, 49, 50, 51, 52, 53, 54, 55, 56, 57, 58, 59, 60, 61, 62], []⟩
noncomputable def f5o8 : Array Oper := cO (cL (cL (cR (cL (cR (cR (cR (cR (cR (cR (cB f5)))))))))))
def f5a8 : RAnn := ⟨[1, 8, 9, 63], []⟩
noncomputable def f5o9 : Array Oper := cO (cL (cR (cR (cR (cR (cR (cR (cR (cB f5)))))))))
def f5a9 : RAnn := ⟨[1, 8, 9, 63, 64, 65, 66, 67, 68, 69, 70, 71, 72, 73, 74, 75, 76], []⟩
def f5c : Code := (.seq (.region 0 f5o0 false) (.seq (.seq (.region 1 f5o1 false) (.cond (.tmp 18) (.seq (.region 2 f5o2 false) .ret) .skip)) (.seq (.region 3 f5o3 false) (.seq (.region 4 f5o4 false) (.seq (.region 5 f5o5 false) (.seq (.region 6 f5o6 false) (.seq (.seq (.region 7 f5o7 true) (.cond (.tmp 63) (.seq (.region 8 f5o8 false) .ret) .skip)) (.seq (.region 9 f5o9 true) .ret))))))))
def f5n : List (Nat × RAnn) := [(0, f5a0), (1, f5a1), (2, f5a2), (3, f5a3), (4, f5a4), (5, f5a5), (6, f5a6), (7, f5a7), (8, f5a8), (9, f5a9)]
def ANNS : List (Nat × FAnn) := [(5, ⟨f5n, [], []⟩), (10, ⟨f10n, [], []⟩), (11, ⟨f11n, [], []⟩), (14, ⟨f14n, [], []⟩), (17, ⟨f17n, [], []⟩), (19, ⟨f19n, [], []⟩), (23, ⟨f23n, [], []⟩), (24, ⟨f24n, [], []⟩), (25, ⟨f25n, [], []⟩), (26, ⟨f26n, [], []⟩), (40, ⟨f40n, [], []⟩), (46, ⟨f46n, [], []⟩)]
def anns : FuncId → FAnn := fun f => (look f ANNS).getD {}
def ext : ExtH := fun f args => bif Nat.beq f 57 then some (extItoa args) else bif Nat.beq f 55 then some (extStrRep args) else bif Nat.beq f 49 then some (extRepAll args) else none
noncomputable abbrev EV (k : Nat) : CallH := evF prog anns ext k
noncomputable abbrev RE (k : Nat) (a : RAnn) (o : Array Oper) (d : Bool) (s : St) : Option St := regionE prog (EV k) a o d s
abbrev I (n : Int) : V := .int .i64 n
def law01_Large_fin : Bool → V × List V := fun r => ((Bo r), [])
theorem law01_Large_L1_ok (k : Nat) (a0 : (List Str))  (K0 : Int → Option Bool) (Kst : X × St → Option (V × List V)) (hK0 : ∀ (y0 : Int), Kst (X.exit 0, ⟨[(0, (sS a0)), (3, (I y0)), (7, (Bo false))], [], 19⟩) = (K0 y0).map law01_Large_fin) (hret : ∀ s, Kst (X.ret, s) = endK prog 19 [(sS a0)] [] [.tmp 2] (X.ret, s)) :
    ∀ (m : Nat) (x3 : Int), (iter (exec prog (EV k) f10n k f10b0) m ⟨[(0, (sS a0)), (3, (I x3))], [], 19⟩).bind Kst = (law01_Large_L1 a0 K0 m x3).map law01_Large_fin := by
  intro m
  induction m with
  | zero => intros; rfl
  | succ m ih =>
    intro x3
    unfold law01_Large_L1
    refine et k_round <| et k_assoc <| krp f10a2 rfl ⟨[(0, (sS a0)), (3, (I x3)), (7, (Bo (decide (x3 < (a0.length : Int)))))], [], 19⟩ ?_ ?_
    · exact rd 2 [(4, (I x3)), (5, (sS a0))] rfl rfl <| rl rfl (p_len (e := V.str) rfl rfl rfl rfl rfl rfl underlying22) <| bind_end rfl
    refine kc rfl rfl (fun hc => ?_) fun hc => ?_
    · rw [hc]
      refine et k_skip <| et (k_block rfl) <| kg f10a4 rfl (fun (o5 : Bool) => ⟨[(0, (sS a0)), (3, (I x3)), (15, (Bo o5))], [], 19⟩) (rd 2 [(10, (sS a0)), (11, (I x3))] rfl rfl <| rp rfl (p_index (e := V.str) rfl rfl rfl underlying22 rfl (by decide)) fun v4 => bind_end rfl) fun o5 => kcl rfl rfl (fun hc => ?_) fun hc => ?_
      · rw [hc]
        refine kr ⟨[(2, (Bo true))], [], 19⟩ rfl <| et k_lret <| et blk_ret <| et loop_ret <| et (hret _) ?_
        rfl
      · rw [hc]
        exact et k_lskip <| et blk_normal <| kl ⟨[(0, (sS a0)), (3, (I (Go.IntKind.wrap .i64 (x3 + 1))))], [], 19⟩ rfl <| et loop_normal <| ih (Go.IntKind.wrap .i64 (x3 + 1))
    · rw [hc]
      exact et k_exit <| et loop_exit <| hK0 x3
theorem law01_Large_ok (k : Nat) (a0 : (List Str)) : EV k 10 [(sS a0)] = (law01_Large k a0).map law01_Large_fin := by
  cases k with
  | zero => rfl
  | succ k =>
    unfold law01_Large
    refine et (evF_succ (c := f10c) (N := 19) (regs := f10n) rfl func10 rfl (by decide) rfl rfl rfl) <| kra [] rfl <| et k_assoc <| kra [(3, (I 0))] rfl <| et (k_block rfl) <| et k_loop ?_
    refine law01_Large_L1_ok k a0 _ _ ?h_law01_Large_L1_0 ?hr_law01_Large_L1 k 0
    · intro y6
      refine et blk_exit <| krp f10a6 rfl ⟨[(2, (Bo (decide ((a0.length : Int) > 300))))], [], 19⟩ ?_ ?_
      · exact rd 1 [(16, (sS a0))] rfl rfl <| rl rfl (p_len (e := V.str) rfl rfl rfl rfl rfl rfl underlying22) <| bind_end rfl
      refine et k_lret ?_
      rfl
    · intro s; exact rfl
def octet_Text_fin : ((List Int) × Int) → V × List V := fun r => (.tup [(V.sl 0 1 (List.map (V.int .u8) r.1)), (I r.2)], [])
theorem octet_Text_ok (k : Nat) (a0 : Str) : EV k 19 [(Sr a0)] = (octet_Text k a0).map octet_Text_fin := by
  cases k with
  | zero => rfl
  | succ k =>
    unfold octet_Text
    refine et (evF_succ (c := f19c) (N := 13) (regs := f19n) rfl func19 rfl (by decide) rfl rfl rfl) <| kra [] rfl <| et k_assoc <| kra [(6, (Bo (decide ((a0.length : Int) > 255))))] rfl <| kc rfl rfl (fun hc => ?_) fun hc => ?_
    · rw [hc]
      refine et k_assoc <| kr ⟨[(2, (V.sl 0 1 (List.map (V.int .u8) ([] : List Int)))), (3, (I 2))], [], 13⟩ rfl <| et k_ret ?_
      rfl
    · rw [hc]
      refine et k_skip <| kg f19a3 rfl (fun (o2 : (List Int) × Int) => ⟨[(2, (V.sl 0 1 (List.map (V.int .u8) o2.1))), (3, (I o2.2))], [], 13⟩) (rd 5 [(7, (Sr a0)), (8, (I (a0.length : Int))), (9, (V.int .u8 (Go.IntKind.wrap .u8 (a0.length : Int)))), (10, (V.sl 1 1 (List.map (V.int .u8) ([(Go.IntKind.wrap .u8 (a0.length : Int))] : List Int)))), (11, (Sr a0))] rfl rfl <| et (reg_eff (x := (app ([(Go.IntKind.wrap .u8 (a0.length : Int))] : List Int) (bytesB a0))) (w := fun v1 => ((V.sl 1 1 (List.map (V.int .u8) v1)), _)) rfl rfl rfl rfl (p_appS rfl rfl rfl rfl rfl rfl rfl rfl rfl rfl (by decide))) <| bindE fun v1 => bind_end rfl) fun o2 => et k_lret ?_
      rfl
def octet_Number_fin : ((List Int) × Int) → V × List V := fun r => (.tup [(V.sl 0 1 (List.map (V.int .u8) r.1)), (I r.2)], [])
theorem octet_Number_ok (k : Nat) (a0 : Int) : EV k 17 [(I a0)] = (octet_Number k a0).map octet_Number_fin := by
  cases k with
  | zero => rfl
  | succ k =>
    unfold octet_Number
    refine et (evF_succ (c := f17c) (N := 22) (regs := f17n) rfl func17 rfl (by decide) rfl rfl rfl) <| kra [] rfl <| et k_assoc <| kga f17a1 rfl (fun (o1 : Bool) => [(9, (Bo o1))]) ?_ fun o1 => ?_
    · refine rd 3 [(4, (I a0)), (5, (Bo (decide (a0 < 0)))), (6, (Bo (decide (a0 < 0))))] rfl rfl <| bifE (fun hc => ?_) fun hc => ?_
      · rw [hc]
        exact reg_end rfl
      · rw [hc]
        exact reg_end rfl
    refine kc rfl rfl (fun hc => ?_) fun hc => ?_
    · rw [hc]
      refine et k_assoc <| kr ⟨[(2, (V.sl 0 1 (List.map (V.int .u8) ([] : List Int)))), (3, (I 2))], [], 22⟩ rfl <| et k_ret ?_
      rfl
    · rw [hc]
      refine et k_skip <| kg f17a3 rfl (fun (o5 : (List Int) × Int) => ⟨[(2, (V.sl 0 1 (List.map (V.int .u8) o5.1))), (3, (I o5.2))], [], 22⟩) (rd 1 [(10, (I a0))] rfl rfl <| rp rfl (p_shr rfl rfl rfl) fun v2 => bd 4 [(11, (I v2)), (12, (V.int .u8 (Go.IntKind.wrap .u8 v2))), (13, (I a0))] rfl rfl <| rp rfl (p_shr rfl rfl rfl) fun v3 => bd 7 [(14, (I v3)), (15, (V.int .u8 (Go.IntKind.wrap .u8 v3))), (16, (I a0))] rfl rfl <| rp rfl (p_shr rfl rfl rfl) fun v4 => bind_end rfl) fun o5 => et k_lret ?_
      rfl
def strconv_Itoa_fin : Str → V × List V := fun r => (Sr r, [])
theorem strconv_Itoa_ok (k : Nat) (n : Int) : EV k 57 [(I n)] = (strconv_Itoa k n).map strconv_Itoa_fin := by
  cases k with
  | zero => rfl
  | succ k => exact (evF_ext (ext := ext) (f := 57) rfl).trans rfl
def strings_Repeat_fin : Str → V × List V := fun r => ((Sr r), [])
theorem strings_Repeat_ok (k : Nat) (s : Str) (n : Int) : EV k 55 [(Sr s), (I n)] = (strings_Repeat k s n).map strings_Repeat_fin := by
  cases k with
  | zero => rfl
  | succ k => exact (evF_ext (ext := ext) (f := 55) rfl).trans rfl
def octet_Digits_fin : (Str × Int) → V × List V := fun r => (.tup [(Sr r.1), (I r.2)], [])
theorem octet_Digits_ok (k : Nat) (a0 : Int) (a1 : Int) : EV k 46 [(I a0), (I a1)] = (octet_Digits k a0 a1).map octet_Digits_fin := by
  cases k with
  | zero => rfl
  | succ k =>
    unfold octet_Digits
    refine et (evF_succ (c := f46c) (N := 32) (regs := f46n) rfl func46 rfl (by decide) rfl rfl rfl) <| kra [] rfl <| kga f46a1 rfl (fun (o2 : Str) => [(6, (Sr o2))]) (rd 1 [(7, (I a0))] rfl rfl <| rs rfl (p_call rfl rfl rfl rfl rfl (strconv_Itoa_ok k a0) (.inl rfl)) fun v1 => bind_end rfl) fun o2 => et k_assoc <| kg f46a2 rfl (fun (o3 : Bool) => ⟨[(1, (I a1)), (6, (Sr o2)), (24, (Bo o3))], [], 32⟩) ?_ fun o3 => ?_
    · refine rd 3 [(9, (I a0)), (10, (Bo (decide (a0 < 0)))), (11, (Bo (decide (a0 < 0))))] rfl rfl <| bifE (fun hc => ?_) fun hc => ?_
      · rw [hc]
        exact reg_end rfl
      · rw [hc]
        refine rd 7 [(12, (I a1)), (13, (Bo (decide (a1 < 1)))), (14, (Bo (decide (a1 < 1)))), (15, (Bo (decide (a1 < 1))))] rfl rfl <| bifE (fun hc => ?_) fun hc => ?_
        · rw [hc]
          exact reg_end rfl
        · rw [hc]
          refine rd 11 [(16, (I a1)), (17, (Bo (decide (a1 > 9)))), (18, (Bo (decide (a1 > 9)))), (19, (Bo (decide (a1 > 9))))] rfl rfl <| bifE (fun hc => ?_) fun hc => ?_
          · rw [hc]
            exact reg_end rfl
          · rw [hc]
            exact reg_end rfl
    refine kc rfl rfl (fun hc => ?_) fun hc => ?_
    · rw [hc]
      refine et k_assoc <| kr ⟨[(4, (Sr ([] : Str))), (5, (I 2))], [], 32⟩ rfl <| et k_ret ?_
      rfl
    · rw [hc]
      refine et k_skip <| kg f46a4 rfl (fun (o6 : Str × Int) => ⟨[(4, (Sr o6.1)), (5, (I o6.2))], [], 32⟩) (rd 4 [(25, (I a1)), (26, (Sr o2)), (27, (I (o2.length : Int))), (28, (I (Go.IntKind.wrap .i64 (a1 - (o2.length : Int)))))] rfl rfl <| rp rfl (p_call rfl rfl rfl rfl rfl (strings_Repeat_ok k ([48] : Str) (Go.IntKind.wrap .i64 (a1 - (o2.length : Int)))) (.inl rfl)) fun v4 => bd 6 [(29, (Sr v4)), (30, (Sr o2))] rfl rfl <| rp rfl (p_cat rfl rfl rfl) fun v5 => bind_end rfl) fun o6 => et k_lret ?_
      rfl
def octet_Pad_fin : (Str × Int) → V × List V := fun r => (.tup [(Sr r.1), (I r.2)], [])
theorem octet_Pad_ok (k : Nat) (a0 : Str) (a1 : Int) : EV k 40 [(Sr a0), (I a1)] = (octet_Pad k a0 a1).map octet_Pad_fin := by
  cases k with
  | zero => rfl
  | succ k =>
    unfold octet_Pad
    refine et (evF_succ (c := f40c) (N := 21) (regs := f40n) rfl func40 rfl (by decide) rfl rfl rfl) <| kra [] rfl <| et k_assoc <| kga f40a1 rfl (fun (o1 : Bool) => [(13, (Bo o1))]) ?_ fun o1 => ?_
    · refine rd 5 [(6, (I a1)), (7, (Sr a0)), (8, (I (a0.length : Int))), (9, (Bo (decide (a1 < (a0.length : Int))))), (10, (Bo (decide (a1 < (a0.length : Int)))))] rfl rfl <| bifE (fun hc => ?_) fun hc => ?_
      · rw [hc]
        exact reg_end rfl
      · rw [hc]
        exact reg_end rfl
    refine kc rfl rfl (fun hc => ?_) fun hc => ?_
    · rw [hc]
      refine et k_assoc <| kr ⟨[(4, (Sr ([] : Str))), (5, (I 2))], [], 21⟩ rfl <| et k_ret ?_
      rfl
    · rw [hc]
      refine et k_skip <| kg f40a3 rfl (fun (o4 : Str × Int) => ⟨[(4, (Sr o4.1)), (5, (I o4.2))], [], 21⟩) (rd 5 [(14, (Sr a0)), (15, (I a1)), (16, (Sr a0)), (17, (I (a0.length : Int))), (18, (I (Go.IntKind.wrap .i64 (a1 - (a0.length : Int)))))] rfl rfl <| rp rfl (p_call rfl rfl rfl rfl rfl (strings_Repeat_ok k ([32] : Str) (Go.IntKind.wrap .i64 (a1 - (a0.length : Int)))) (.inl rfl)) fun v2 => bd 6 [(19, (Sr v2))] rfl rfl <| rp rfl (p_cat rfl rfl rfl) fun v3 => bind_end rfl) fun o4 => et k_lret ?_
      rfl
def strings_ReplaceAll_fin : Str → V × List V := fun r => (Sr r, [])
theorem strings_ReplaceAll_ok (k : Nat) (s o n : Str) : EV k 49 [(Sr s), (Sr o), (Sr n)] = (strings_ReplaceAll k s o n).map strings_ReplaceAll_fin := by
  cases k with
  | zero => rfl
  | succ k => exact (evF_ext (ext := ext) (f := 49) rfl).trans rfl
def octet_Key_fin : (List Int) → V × List V := fun r => ((V.sl 0 1 (List.map (V.int .u8) r)), [])
theorem octet_Key_L1_ok (k : Nat) (a0 : (List Str))  (K0 : (List Int) → Int → Option (List Int)) (Kst : X × St → Option (V × List V)) (hK0 : ∀ (y0 : (List Int)) (y1 : Int), Kst (X.exit 0, ⟨[(3, (V.sl 1 1 (List.map (V.int .u8) y0))), (6, (sS a0)), (7, (I (a0.length : Int))), (8, (I y1)), (9, (Bo false))], [], 21⟩) = (K0 y0 y1).map octet_Key_fin) (hret : ∀ s, Kst (X.ret, s) = endK prog 21 [(sS a0)] [] [.tmp 2] (X.ret, s)) :
    ∀ (m : Nat) (x8 : (List Int)) (x9 : Int), (iter (exec prog (EV k) f14n k f14b0) m ⟨[(3, (V.sl 1 1 (List.map (V.int .u8) x8))), (6, (sS a0)), (7, (I (a0.length : Int))), (8, (I x9))], [], 21⟩).bind Kst = (octet_Key_L1 k a0 K0 m x8 x9).map octet_Key_fin := by
  intro m
  induction m with
  | zero => intros; rfl
  | succ m ih =>
    intro x8 x9
    unfold octet_Key_L1
    refine et k_round <| kra [(9, (Bo (decide (x9 < (a0.length : Int)))))] rfl <| kc rfl rfl (fun hc => ?_) fun hc => ?_
    · rw [hc]
      exact et k_skip <| et (k_block rfl) <| kg f14a4 rfl (fun (o11 : Str) => ⟨[(3, (V.sl 1 1 (List.map (V.int .u8) x8))), (5, (Sr o11)), (6, (sS a0)), (7, (I (a0.length : Int))), (8, (I x9))], [], 21⟩) (rs rfl (p_index (e := V.str) rfl rfl rfl underlying22 rfl (by decide)) fun v10 => bind_end rfl) fun o11 => kg f14a5 rfl (fun (o14 : (List Int)) => ⟨[(3, (V.sl 1 1 (List.map (V.int .u8) o14))), (6, (sS a0)), (7, (I (a0.length : Int))), (8, (I x9))], [], 21⟩) (ra 2 2 ⟨[(3, (V.sl 0 1 (List.map (V.int .u8) x8))), (5, (Sr o11)), (6, (sS a0)), (7, (I (a0.length : Int))), (8, (I x9)), (12, (V.sl 1 1 (List.map (V.int .u8) x8))), (13, (Sr o11))], [], 21⟩ rfl rfl rfl <| rp rfl (p_call rfl rfl rfl rfl rfl (strings_ReplaceAll_ok k o11 ([0] : Str) ([0, 255] : Str)) (.inl rfl)) fun v12 => bd 3 [(14, (Sr v12))] rfl rfl <| et (reg_eff (x := (app x8 (bytesB v12))) (w := fun v13 => ((V.sl 1 1 (List.map (V.int .u8) v13)), _)) rfl rfl rfl rfl (p_appS rfl rfl rfl rfl rfl rfl rfl rfl rfl rfl (by decide))) <| bind_self fun v13 => bind_end rfl) fun o14 => kgl f14a6 rfl (fun (o16 : (List Int)) => ⟨[(3, (V.sl 1 1 (List.map (V.int .u8) o16))), (6, (sS a0)), (7, (I (a0.length : Int))), (8, (I x9))], [], 21⟩) (ra 2 2 ⟨[(3, (V.sl 0 1 (List.map (V.int .u8) o14))), (6, (sS a0)), (7, (I (a0.length : Int))), (8, (I x9)), (16, (V.sl 1 1 (List.map (V.int .u8) o14))), (17, (V.sl 0 1 (List.map (V.int .u8) ([0, 1] : List Int))))], [], 21⟩ rfl rfl rfl <| et (reg_eff (x := (app o14 ([0, 1] : List Int))) (w := fun v15 => ((V.sl 1 1 (List.map (V.int .u8) v15)), _)) rfl rfl rfl rfl (p_app (e := (V.int .u8)) rfl rfl rfl rfl rfl rfl rfl rfl rfl rfl (by decide))) <| bind_self fun v15 => bind_end rfl) fun o16 => et blk_normal <| kl ⟨[(3, (V.sl 1 1 (List.map (V.int .u8) o16))), (6, (sS a0)), (7, (I (a0.length : Int))), (8, (I (Go.IntKind.wrap .i64 (x9 + 1))))], [], 21⟩ rfl <| et loop_normal <| ih o16 (Go.IntKind.wrap .i64 (x9 + 1))
    · rw [hc]
      exact et k_exit <| et loop_exit <| hK0 x8 x9
theorem octet_Key_ok (k : Nat) (a0 : (List Str)) : EV k 14 [(sS a0)] = (octet_Key k a0).map octet_Key_fin := by
  cases k with
  | zero => rfl
  | succ k =>
    unfold octet_Key
    refine et (evF_succ (c := f14c) (N := 21) (regs := f14n) rfl func14 rfl (by decide) rfl rfl rfl) <| kra [] rfl <| kra [(3, (V.sl 1 1 (List.map (V.int .u8) ([] : List Int))))] rfl <| et k_assoc <| krp f14a2 rfl ⟨[(3, (V.sl 1 1 (List.map (V.int .u8) ([] : List Int)))), (6, (sS a0)), (7, (I (a0.length : Int))), (8, (I 0))], [], 21⟩ ?_ ?_
    · exact rd 1 [(6, (sS a0))] rfl rfl <| rl rfl (p_len (e := V.str) rfl rfl rfl rfl rfl rfl underlying22) <| bind_end rfl
    refine et (k_block rfl) <| et k_loop ?_
    refine octet_Key_L1_ok k a0 _ _ ?h_octet_Key_L1_0 ?hr_octet_Key_L1 k ([] : List Int) 0
    · intro y17 y18
      refine et blk_exit <| kr ⟨[(2, (V.sl 0 1 (List.map (V.int .u8) y17)))], [], 21⟩ rfl <| et k_lret ?_
      rfl
    · intro s; exact rfl
def law01_First_fin : Bool → V × List V := fun r => ((Bo r), [])
theorem law01_First_clo0 : EV 0 11 [] = none := by kernel_rfl
theorem law01_First_clo1 : EV 1 11 [] = none := by kernel_rfl
theorem law01_First_clo2 : EV 2 11 [] = none := by kernel_rfl
theorem law01_First_clo3 : EV 3 11 [] = none := by kernel_rfl
theorem law01_First_clo4 : EV 4 11 [] = none := by kernel_rfl
theorem law01_First_clo (k : Nat) : EV (k + 5) 11 [] = some (Bo true, []) := by kernel_rfl
theorem law01_First_ok (k : Nat) : EV k 11 [] = (law01_First k).map law01_First_fin := by
  match k with
  | 0 => exact law01_First_clo0
  | 1 => exact law01_First_clo1
  | 2 => exact law01_First_clo2
  | 3 => exact law01_First_clo3
  | 4 => exact law01_First_clo4
  | k + 5 => exact law01_First_clo k
def octet_Parts_fin : ((List Str) × Int) → V × List V := fun r => (.tup [(sS r.1), (I r.2)], [])
theorem octet_Parts_L1_ok (k : Nat) (a0 : (List Int))  (K0 : (List Str) → (List Int) → Bool → Int → Option ((List Str) × Int)) (Kst : X × St → Option (V × List V)) (hK0 : ∀ (y0 : (List Str)) (y1 : (List Int)) (y2 : Bool) (y3 : Int), Kst (X.exit 0, ⟨[(0, (V.sl 0 1 (List.map (V.int .u8) a0))), (4, (V.sl 1 1 (List.map V.str y0))), (5, (V.sl 1 1 (List.map (V.int .u8) y1))), (6, (Bo y2)), (7, (I y3)), (11, (Bo false))], [], 53⟩) = (K0 y0 y1 y2 y3).map octet_Parts_fin) (hret : ∀ s, Kst (X.ret, s) = endK prog 53 [(V.sl 0 1 (List.map (V.int .u8) a0))] [] [.tmp 2, .tmp 3] (X.ret, s)) :
    ∀ (m : Nat) (x12 : (List Int)) (x13 : Bool) (x14 : Int) (x15 : (List Str)), (iter (exec prog (EV k) f23n k f23b0) m ⟨[(0, (V.sl 0 1 (List.map (V.int .u8) a0))), (4, (V.sl 1 1 (List.map V.str x15))), (5, (V.sl 1 1 (List.map (V.int .u8) x12))), (6, (Bo x13)), (7, (I x14))], [], 53⟩).bind Kst = (octet_Parts_L1 a0 K0 m x12 x13 x14 x15).map octet_Parts_fin := by
  intro m
  induction m with
  | zero => intros; rfl
  | succ m ih =>
    intro x12 x13 x14 x15
    unfold octet_Parts_L1
    refine et k_round <| et k_assoc <| krp f23a5 rfl ⟨[(0, (V.sl 0 1 (List.map (V.int .u8) a0))), (4, (V.sl 1 1 (List.map V.str x15))), (5, (V.sl 1 1 (List.map (V.int .u8) x12))), (6, (Bo x13)), (7, (I x14)), (11, (Bo (decide (x14 < (a0.length : Int)))))], [], 53⟩ ?_ ?_
    · exact rd 2 [(8, (I x14)), (9, (V.sl 0 1 (List.map (V.int .u8) a0)))] rfl rfl <| rl rfl (p_len (e := (V.int .u8)) rfl rfl rfl rfl rfl rfl underlying26) <| bind_end rfl
    refine kc rfl rfl (fun hc => ?_) fun hc => ?_
    · rw [hc]
      refine et k_skip <| et (k_block rfl) <| et (k_block rfl) <| kg f23a7 rfl (fun (o17 : Bool) => ⟨[(0, (V.sl 0 1 (List.map (V.int .u8) a0))), (4, (V.sl 1 1 (List.map V.str x15))), (5, (V.sl 1 1 (List.map (V.int .u8) x12))), (7, (I x14)), (14, (Bo o17))], [], 53⟩) (rd 2 [(15, (V.sl 0 1 (List.map (V.int .u8) a0))), (16, (I x14))] rfl rfl <| rp rfl (p_index (e := (V.int .u8)) rfl rfl rfl underlying26 rfl (by decide)) fun v16 => bind_end rfl) fun o17 => kcl rfl rfl (fun hc => ?_) fun hc => ?_
      · rw [hc]
        exact kg f23a8 rfl (fun (o20 : (List Int) × Bool) => ⟨[(0, (V.sl 0 1 (List.map (V.int .u8) a0))), (4, (V.sl 1 1 (List.map V.str x15))), (5, (V.sl 1 1 (List.map (V.int .u8) o20.1))), (6, (Bo o20.2)), (7, (I x14))], [], 53⟩) (ra 3 3 ⟨[(0, (V.sl 0 1 (List.map (V.int .u8) a0))), (4, (V.sl 1 1 (List.map V.str x15))), (5, (V.sl 0 1 (List.map (V.int .u8) x12))), (7, (I x14)), (14, (Bo true)), (20, (V.sl 1 1 (List.map (V.int .u8) x12))), (21, (V.sl 0 1 (List.map (V.int .u8) a0))), (22, (I x14))], [], 53⟩ rfl rfl rfl <| rp rfl (p_index (e := (V.int .u8)) rfl rfl rfl underlying26 rfl (by decide)) fun v18 => bd 6 [(23, (Pr (V.int .u8 v18))), (24, (V.int .u8 v18)), (25, (V.sl 0 1 (List.map (V.int .u8) ([v18] : List Int))))] rfl rfl <| et (reg_eff (x := (app x12 ([v18] : List Int))) (w := fun v19 => ((V.sl 1 1 (List.map (V.int .u8) v19)), _)) rfl rfl rfl rfl (p_app (e := (V.int .u8)) rfl rfl rfl rfl rfl rfl rfl rfl rfl rfl (by decide))) <| bindE fun v19 => bind_end rfl) fun o20 => et k_lexit <| et (blk_other rfl) <| et blk_exit <| kl ⟨[(0, (V.sl 0 1 (List.map (V.int .u8) a0))), (4, (V.sl 1 1 (List.map V.str x15))), (5, (V.sl 1 1 (List.map (V.int .u8) o20.1))), (6, (Bo o20.2)), (7, (I (Go.IntKind.wrap .i64 (x14 + 1))))], [], 53⟩ rfl <| et loop_normal <| ih o20.1 o20.2 (Go.IntKind.wrap .i64 (x14 + 1)) x15
      · rw [hc]
        refine krp f23a9 rfl ⟨[(0, (V.sl 0 1 (List.map (V.int .u8) a0))), (4, (V.sl 1 1 (List.map V.str x15))), (5, (V.sl 1 1 (List.map (V.int .u8) x12))), (7, (I x14)), (27, (Bo ((Go.IntKind.wrap .i64 (x14 + 1)) == (a0.length : Int))))], [], 53⟩ ?_ ?_
        · exact rd 3 [(28, (I x14)), (29, (I (Go.IntKind.wrap .i64 (x14 + 1)))), (30, (V.sl 0 1 (List.map (V.int .u8) a0)))] rfl rfl <| rl rfl (p_len (e := (V.int .u8)) rfl rfl rfl rfl rfl rfl underlying26) <| bind_end rfl
        refine kcl rfl rfl (fun hc => ?_) fun hc => ?_
        · rw [hc]
          refine kr ⟨[(2, (sS (([] : List Str)))), (3, (I 3))], [], 53⟩ rfl <| et k_lret <| et blk_ret <| et blk_ret <| et loop_ret <| et (hret _) ?_
          rfl
        · rw [hc]
          refine et k_lskip <| et blk_normal <| kr ⟨[(0, (V.sl 0 1 (List.map (V.int .u8) a0))), (4, (V.sl 1 1 (List.map V.str x15))), (5, (V.sl 1 1 (List.map (V.int .u8) x12))), (7, (I (Go.IntKind.wrap .i64 (x14 + 1))))], [], 53⟩ rfl <| kga f23a12 rfl (fun (o22 : Int) => [(38, (V.int .u8 o22))]) (rd 2 [(35, (V.sl 0 1 (List.map (V.int .u8) a0))), (36, (I (Go.IntKind.wrap .i64 (x14 + 1))))] rfl rfl <| rs rfl (p_index (e := (V.int .u8)) rfl rfl rfl underlying26 rfl (by decide)) fun v21 => bind_end rfl) fun o22 => et (k_lblock rfl) <| kra [(39, (Bo (o22 == 255)))] rfl <| kcl rfl rfl (fun hc => ?_) fun hc => ?_
          · rw [hc]
            exact kgl f23a15 rfl (fun (o24 : (List Int) × Bool) => ⟨[(0, (V.sl 0 1 (List.map (V.int .u8) a0))), (4, (V.sl 1 1 (List.map V.str x15))), (5, (V.sl 1 1 (List.map (V.int .u8) o24.1))), (6, (Bo o24.2)), (7, (I (Go.IntKind.wrap .i64 (x14 + 1))))], [], 53⟩) (ra 2 2 ⟨[(0, (V.sl 0 1 (List.map (V.int .u8) a0))), (4, (V.sl 1 1 (List.map V.str x15))), (5, (V.sl 0 1 (List.map (V.int .u8) x12))), (7, (I (Go.IntKind.wrap .i64 (x14 + 1)))), (38, (V.int .u8 o22)), (39, (Bo true)), (41, (V.sl 1 1 (List.map (V.int .u8) x12))), (42, (V.sl 0 1 (List.map (V.int .u8) ([0] : List Int))))], [], 53⟩ rfl rfl rfl <| et (reg_eff (x := (app x12 ([0] : List Int))) (w := fun v23 => ((V.sl 1 1 (List.map (V.int .u8) v23)), _)) rfl rfl rfl rfl (p_app (e := (V.int .u8)) rfl rfl rfl rfl rfl rfl rfl rfl rfl rfl (by decide))) <| bindE fun v23 => bind_end rfl) fun o24 => et blk_normal <| et k_lskip <| et blk_normal <| kl ⟨[(0, (V.sl 0 1 (List.map (V.int .u8) a0))), (4, (V.sl 1 1 (List.map V.str x15))), (5, (V.sl 1 1 (List.map (V.int .u8) o24.1))), (6, (Bo o24.2)), (7, (I (Go.IntKind.wrap .i64 ((Go.IntKind.wrap .i64 (x14 + 1)) + 1))))], [], 53⟩ rfl <| et loop_normal <| ih o24.1 o24.2 (Go.IntKind.wrap .i64 ((Go.IntKind.wrap .i64 (x14 + 1)) + 1)) x15
          · rw [hc]
            refine kr ⟨[(0, (V.sl 0 1 (List.map (V.int .u8) a0))), (4, (V.sl 1 1 (List.map V.str x15))), (5, (V.sl 1 1 (List.map (V.int .u8) x12))), (7, (I (Go.IntKind.wrap .i64 (x14 + 1)))), (44, (Bo (o22 == 1)))], [], 53⟩ rfl <| kcl rfl rfl (fun hc => ?_) fun hc => ?_
            · rw [hc]
              exact kg f23a17 rfl (fun (o26 : (List Str)) => ⟨[(0, (V.sl 0 1 (List.map (V.int .u8) a0))), (4, (V.sl 1 1 (List.map V.str o26))), (7, (I (Go.IntKind.wrap .i64 (x14 + 1))))], [], 53⟩) (ra 2 2 ⟨[(0, (V.sl 0 1 (List.map (V.int .u8) a0))), (4, (sS x15)), (5, (V.sl 1 1 (List.map (V.int .u8) x12))), (7, (I (Go.IntKind.wrap .i64 (x14 + 1)))), (44, (Bo true)), (46, (V.sl 1 1 (List.map V.str x15))), (47, (V.sl 0 1 (List.map (V.int .u8) x12)))], [], 53⟩ rfl rfl rfl <| rl rfl (p_convBS (l := x12) rfl rfl underlying26 underlying9 underlying5) <| bd 4 [(48, (Sr (Go.AE.strB x12))), (49, (sS (([(Go.AE.strB x12)] : List Str))))] rfl rfl <| et (reg_eff (x := (app x15 ([(Go.AE.strB x12)] : List Str))) (w := fun v25 => ((V.sl 1 1 (List.map V.str v25)), _)) rfl rfl rfl rfl (p_app (e := V.str) rfl rfl rfl rfl rfl rfl rfl rfl rfl rfl (by decide))) <| bind_self fun v25 => bind_end rfl) fun o26 => kl ⟨[(0, (V.sl 0 1 (List.map (V.int .u8) a0))), (4, (V.sl 1 1 (List.map V.str o26))), (5, (V.sl 1 1 (List.map (V.int .u8) ([] : List Int)))), (6, (Bo false)), (7, (I (Go.IntKind.wrap .i64 (x14 + 1))))], [], 53⟩ rfl <| et blk_normal <| et k_lskip <| et blk_normal <| kl ⟨[(0, (V.sl 0 1 (List.map (V.int .u8) a0))), (4, (V.sl 1 1 (List.map V.str o26))), (5, (V.sl 1 1 (List.map (V.int .u8) ([] : List Int)))), (6, (Bo false)), (7, (I (Go.IntKind.wrap .i64 ((Go.IntKind.wrap .i64 (x14 + 1)) + 1))))], [], 53⟩ rfl <| et loop_normal <| ih ([] : List Int) false (Go.IntKind.wrap .i64 ((Go.IntKind.wrap .i64 (x14 + 1)) + 1)) o26
            · rw [hc]
              refine kr ⟨[(2, (sS (([] : List Str)))), (3, (I 3))], [], 53⟩ rfl <| et k_lret <| et blk_ret <| et blk_ret <| et loop_ret <| et (hret _) ?_
              rfl
    · rw [hc]
      exact et k_exit <| et loop_exit <| hK0 x15 x12 x13 x14
theorem octet_Parts_ok (k : Nat) (a0 : (List Int)) : EV k 23 [(V.sl 0 1 (List.map (V.int .u8) a0))] = (octet_Parts k a0).map octet_Parts_fin := by
  cases k with
  | zero => rfl
  | succ k =>
    unfold octet_Parts
    refine et (evF_succ (c := f23c) (N := 53) (regs := f23n) rfl func23 rfl (by decide) rfl rfl rfl) <| kra [] rfl <| kra [(4, (V.sl 1 1 (List.map V.str ([] : List Str))))] rfl <| kra [(5, (V.sl 1 1 (List.map (V.int .u8) ([] : List Int))))] rfl <| kra [(6, (Bo false))] rfl <| et k_assoc <| kra [(7, (I 0))] rfl <| et (k_block rfl) <| et k_loop ?_
    refine octet_Parts_L1_ok k a0 _ _ ?h_octet_Parts_L1_0 ?hr_octet_Parts_L1 k ([] : List Int) false 0 ([] : List Str)
    · intro y27 y28 y29 y30
      refine et blk_exit <| et k_assoc <| kr ⟨[(4, (V.sl 1 1 (List.map V.str y27))), (51, (Bo y29))], [], 53⟩ rfl <| kc rfl rfl (fun hc => ?_) fun hc => ?_
      · rw [hc]
        refine et k_assoc <| kr ⟨[(2, (sS (([] : List Str)))), (3, (I 3))], [], 53⟩ rfl <| et k_ret ?_
        rfl
      · rw [hc]
        refine et k_skip <| kr ⟨[(2, (sS y27)), (3, (I 0))], [], 53⟩ rfl <| et k_lret ?_
        rfl
    · intro s; exact rfl
def ref01_Parts_fin : ((List Str) × Int) → V × List V := fun r => (.tup [(sS r.1), (I r.2)], [])
theorem ref01_Parts_L1_ok (k : Nat) (a0 : (List Int))  (K0 : (List Str) → (List Int) → Bool → Int → Option ((List Str) × Int)) (Kst : X × St → Option (V × List V)) (hK0 : ∀ (y0 : (List Str)) (y1 : (List Int)) (y2 : Bool) (y3 : Int), Kst (X.exit 0, ⟨[(0, (V.sl 0 1 (List.map (V.int .u8) a0))), (4, (V.sl 1 1 (List.map V.str y0))), (5, (V.sl 1 1 (List.map (V.int .u8) y1))), (6, (Bo y2)), (7, (I y3)), (11, (Bo false))], [], 61⟩) = (K0 y0 y1 y2 y3).map ref01_Parts_fin) (hret : ∀ s, Kst (X.ret, s) = endK prog 61 [(V.sl 0 1 (List.map (V.int .u8) a0))] [] [.tmp 2, .tmp 3] (X.ret, s)) :
    ∀ (m : Nat) (x15 : (List Int)) (x16 : Bool) (x17 : Int) (x18 : (List Str)), (iter (exec prog (EV k) f24n k f24b0) m ⟨[(0, (V.sl 0 1 (List.map (V.int .u8) a0))), (4, (V.sl 1 1 (List.map V.str x18))), (5, (V.sl 1 1 (List.map (V.int .u8) x15))), (6, (Bo x16)), (7, (I x17))], [], 61⟩).bind Kst = (ref01_Parts_L1 a0 K0 m x15 x16 x17 x18).map ref01_Parts_fin := by
  intro m
  induction m with
  | zero => intros; rfl
  | succ m ih =>
    intro x15 x16 x17 x18
    unfold ref01_Parts_L1
    refine et k_round <| et k_assoc <| krp f24a5 rfl ⟨[(0, (V.sl 0 1 (List.map (V.int .u8) a0))), (4, (V.sl 1 1 (List.map V.str x18))), (5, (V.sl 1 1 (List.map (V.int .u8) x15))), (6, (Bo x16)), (7, (I x17)), (11, (Bo (decide (x17 < (a0.length : Int)))))], [], 61⟩ ?_ ?_
    · exact rd 2 [(8, (I x17)), (9, (V.sl 0 1 (List.map (V.int .u8) a0)))] rfl rfl <| rl rfl (p_len (e := (V.int .u8)) rfl rfl rfl rfl rfl rfl underlying26) <| bind_end rfl
    refine kc rfl rfl (fun hc => ?_) fun hc => ?_
    · rw [hc]
      refine et k_skip <| et (k_block rfl) <| kr ⟨[(0, (V.sl 0 1 (List.map (V.int .u8) a0))), (4, (V.sl 1 1 (List.map V.str x18))), (5, (V.sl 1 1 (List.map (V.int .u8) x15))), (6, (Bo true)), (7, (I x17))], [], 61⟩ rfl <| et k_assoc <| kga f24a8 rfl (fun (o20 : Bool) => [(18, (Bo o20))]) (rd 2 [(14, (V.sl 0 1 (List.map (V.int .u8) a0))), (15, (I x17))] rfl rfl <| rp rfl (p_index (e := (V.int .u8)) rfl rfl rfl underlying26 rfl (by decide)) fun v19 => bind_end rfl) fun o20 => kc rfl rfl (fun hc => ?_) fun hc => ?_
      · rw [hc]
        exact et k_assoc <| kg f24a9 rfl (fun (o23 : (List Int)) => ⟨[(0, (V.sl 0 1 (List.map (V.int .u8) a0))), (4, (V.sl 1 1 (List.map V.str x18))), (5, (V.sl 1 1 (List.map (V.int .u8) o23))), (6, (Bo true)), (7, (I x17))], [], 61⟩) (ra 3 3 ⟨[(0, (V.sl 0 1 (List.map (V.int .u8) a0))), (4, (V.sl 1 1 (List.map V.str x18))), (5, (V.sl 0 1 (List.map (V.int .u8) x15))), (6, (Bo true)), (7, (I x17)), (18, (Bo true)), (19, (V.sl 1 1 (List.map (V.int .u8) x15))), (20, (V.sl 0 1 (List.map (V.int .u8) a0))), (21, (I x17))], [], 61⟩ rfl rfl rfl <| rp rfl (p_index (e := (V.int .u8)) rfl rfl rfl underlying26 rfl (by decide)) fun v21 => bd 6 [(22, (Pr (V.int .u8 v21))), (23, (V.int .u8 v21)), (24, (V.sl 0 1 (List.map (V.int .u8) ([v21] : List Int))))] rfl rfl <| et (reg_eff (x := (app x15 ([v21] : List Int))) (w := fun v22 => ((V.sl 1 1 (List.map (V.int .u8) v22)), _)) rfl rfl rfl rfl (p_app (e := (V.int .u8)) rfl rfl rfl rfl rfl rfl rfl rfl rfl rfl (by decide))) <| bind_self fun v22 => bind_end rfl) fun o23 => et k_exit <| et blk_exit <| kl ⟨[(0, (V.sl 0 1 (List.map (V.int .u8) a0))), (4, (V.sl 1 1 (List.map V.str x18))), (5, (V.sl 1 1 (List.map (V.int .u8) o23))), (6, (Bo true)), (7, (I (Go.IntKind.wrap .i64 (x17 + 1))))], [], 61⟩ rfl <| et loop_normal <| ih o23 true (Go.IntKind.wrap .i64 (x17 + 1)) x18
      · rw [hc]
        refine et k_skip <| kr ⟨[(0, (V.sl 0 1 (List.map (V.int .u8) a0))), (4, (V.sl 1 1 (List.map V.str x18))), (5, (V.sl 1 1 (List.map (V.int .u8) x15))), (6, (Bo true)), (7, (I (Go.IntKind.wrap .i64 (x17 + 1))))], [], 61⟩ rfl <| et k_assoc <| kga f24a11 rfl (fun (o26 : Bool) => [(45, (Bo o26))]) ?_ fun o26 => ?_
        · refine rd 2 [(28, (I (Go.IntKind.wrap .i64 (x17 + 1)))), (29, (V.sl 0 1 (List.map (V.int .u8) a0)))] rfl rfl <| rl rfl (p_len (e := (V.int .u8)) rfl rfl rfl rfl rfl rfl underlying26) <| bd 5 [(30, (I (a0.length : Int))), (31, (Bo ((Go.IntKind.wrap .i64 (x17 + 1)) == (a0.length : Int)))), (32, (Bo ((Go.IntKind.wrap .i64 (x17 + 1)) == (a0.length : Int))))] rfl rfl <| bifE (fun hc => ?_) fun hc => ?_
          · rw [hc]
            exact reg_end rfl
          · rw [hc]
            refine rd 7 [(33, (V.sl 0 1 (List.map (V.int .u8) a0))), (34, (I (Go.IntKind.wrap .i64 (x17 + 1))))] rfl rfl <| rp rfl (p_index (e := (V.int .u8)) rfl rfl rfl underlying26 rfl (by decide)) fun v24 => bd 11 [(35, (Pr (V.int .u8 v24))), (36, (V.int .u8 v24)), (37, (Bo (v24 != 255))), (38, (Bo (v24 != 255)))] rfl rfl <| bifE (fun hc => ?_) fun hc => ?_
            · rw [hc]
              exact rd 13 [(39, (V.sl 0 1 (List.map (V.int .u8) a0))), (40, (I (Go.IntKind.wrap .i64 (x17 + 1))))] rfl rfl <| rp rfl (p_index (e := (V.int .u8)) rfl rfl rfl underlying26 rfl (by decide)) fun v25 => bind_end rfl
            · rw [hc]
              exact reg_end rfl
        refine kc rfl rfl (fun hc => ?_) fun hc => ?_
        · rw [hc]
          refine et k_assoc <| kr ⟨[(2, (sS (([] : List Str)))), (3, (I 3))], [], 61⟩ rfl <| et k_ret <| et blk_ret <| et loop_ret <| et (hret _) ?_
          rfl
        · rw [hc]
          refine et k_skip <| et k_assoc <| kg f24a13 rfl (fun (o28 : Bool) => ⟨[(0, (V.sl 0 1 (List.map (V.int .u8) a0))), (4, (V.sl 1 1 (List.map V.str x18))), (5, (V.sl 1 1 (List.map (V.int .u8) x15))), (6, (Bo true)), (7, (I (Go.IntKind.wrap .i64 (x17 + 1)))), (50, (Bo o28))], [], 61⟩) (rd 2 [(46, (V.sl 0 1 (List.map (V.int .u8) a0))), (47, (I (Go.IntKind.wrap .i64 (x17 + 1))))] rfl rfl <| rp rfl (p_index (e := (V.int .u8)) rfl rfl rfl underlying26 rfl (by decide)) fun v27 => bind_end rfl) fun o28 => kc rfl rfl (fun hc => ?_) fun hc => ?_
          · rw [hc]
            exact et k_assoc <| kg f24a14 rfl (fun (o30 : (List Int)) => ⟨[(0, (V.sl 0 1 (List.map (V.int .u8) a0))), (4, (V.sl 1 1 (List.map V.str x18))), (5, (V.sl 1 1 (List.map (V.int .u8) o30))), (6, (Bo true)), (7, (I (Go.IntKind.wrap .i64 (x17 + 1))))], [], 61⟩) (ra 2 2 ⟨[(0, (V.sl 0 1 (List.map (V.int .u8) a0))), (4, (V.sl 1 1 (List.map V.str x18))), (5, (V.sl 0 1 (List.map (V.int .u8) x15))), (6, (Bo true)), (7, (I (Go.IntKind.wrap .i64 (x17 + 1)))), (50, (Bo true)), (51, (V.sl 1 1 (List.map (V.int .u8) x15))), (52, (V.sl 0 1 (List.map (V.int .u8) ([0] : List Int))))], [], 61⟩ rfl rfl rfl <| et (reg_eff (x := (app x15 ([0] : List Int))) (w := fun v29 => ((V.sl 1 1 (List.map (V.int .u8) v29)), _)) rfl rfl rfl rfl (p_app (e := (V.int .u8)) rfl rfl rfl rfl rfl rfl rfl rfl rfl rfl (by decide))) <| bind_self fun v29 => bind_end rfl) fun o30 => et k_exit <| et blk_exit <| kl ⟨[(0, (V.sl 0 1 (List.map (V.int .u8) a0))), (4, (V.sl 1 1 (List.map V.str x18))), (5, (V.sl 1 1 (List.map (V.int .u8) o30))), (6, (Bo true)), (7, (I (Go.IntKind.wrap .i64 ((Go.IntKind.wrap .i64 (x17 + 1)) + 1))))], [], 61⟩ rfl <| et loop_normal <| ih o30 true (Go.IntKind.wrap .i64 ((Go.IntKind.wrap .i64 (x17 + 1)) + 1)) x18
          · rw [hc]
            exact et k_skip <| kg f24a15 rfl (fun (o32 : (List Str)) => ⟨[(0, (V.sl 0 1 (List.map (V.int .u8) a0))), (4, (V.sl 1 1 (List.map V.str o32))), (7, (I (Go.IntKind.wrap .i64 (x17 + 1))))], [], 61⟩) (ra 2 2 ⟨[(0, (V.sl 0 1 (List.map (V.int .u8) a0))), (4, (sS x18)), (5, (V.sl 1 1 (List.map (V.int .u8) x15))), (6, (Bo true)), (7, (I (Go.IntKind.wrap .i64 (x17 + 1)))), (50, (Bo false)), (54, (V.sl 1 1 (List.map V.str x18))), (55, (V.sl 0 1 (List.map (V.int .u8) x15)))], [], 61⟩ rfl rfl rfl <| rl rfl (p_convBS (l := x15) rfl rfl underlying26 underlying9 underlying5) <| bd 4 [(56, (Sr (Go.AE.strB x15))), (57, (sS (([(Go.AE.strB x15)] : List Str))))] rfl rfl <| et (reg_eff (x := (app x18 ([(Go.AE.strB x15)] : List Str))) (w := fun v31 => ((V.sl 1 1 (List.map V.str v31)), _)) rfl rfl rfl rfl (p_app (e := V.str) rfl rfl rfl rfl rfl rfl rfl rfl rfl rfl (by decide))) <| bind_self fun v31 => bind_end rfl) fun o32 => kr ⟨[(0, (V.sl 0 1 (List.map (V.int .u8) a0))), (4, (V.sl 1 1 (List.map V.str o32))), (5, (V.sl 1 1 (List.map (V.int .u8) ([] : List Int)))), (7, (I (Go.IntKind.wrap .i64 (x17 + 1))))], [], 61⟩ rfl <| kl ⟨[(0, (V.sl 0 1 (List.map (V.int .u8) a0))), (4, (V.sl 1 1 (List.map V.str o32))), (5, (V.sl 1 1 (List.map (V.int .u8) ([] : List Int)))), (6, (Bo false)), (7, (I (Go.IntKind.wrap .i64 (x17 + 1))))], [], 61⟩ rfl <| et blk_normal <| kl ⟨[(0, (V.sl 0 1 (List.map (V.int .u8) a0))), (4, (V.sl 1 1 (List.map V.str o32))), (5, (V.sl 1 1 (List.map (V.int .u8) ([] : List Int)))), (6, (Bo false)), (7, (I (Go.IntKind.wrap .i64 ((Go.IntKind.wrap .i64 (x17 + 1)) + 1))))], [], 61⟩ rfl <| et loop_normal <| ih ([] : List Int) false (Go.IntKind.wrap .i64 ((Go.IntKind.wrap .i64 (x17 + 1)) + 1)) o32
    · rw [hc]
      exact et k_exit <| et loop_exit <| hK0 x18 x15 x16 x17
theorem ref01_Parts_ok (k : Nat) (a0 : (List Int)) : EV k 24 [(V.sl 0 1 (List.map (V.int .u8) a0))] = (ref01_Parts k a0).map ref01_Parts_fin := by
  cases k with
  | zero => rfl
  | succ k =>
    unfold ref01_Parts
    refine et (evF_succ (c := f24c) (N := 61) (regs := f24n) rfl func24 rfl (by decide) rfl rfl rfl) <| kra [] rfl <| kra [(4, (V.sl 1 1 (List.map V.str ([] : List Str))))] rfl <| kra [(5, (V.sl 1 1 (List.map (V.int .u8) ([] : List Int))))] rfl <| kra [(6, (Bo false))] rfl <| et k_assoc <| kra [(7, (I 0))] rfl <| et (k_block rfl) <| et k_loop ?_
    refine ref01_Parts_L1_ok k a0 _ _ ?h_ref01_Parts_L1_0 ?hr_ref01_Parts_L1 k ([] : List Int) false 0 ([] : List Str)
    · intro y33 y34 y35 y36
      refine et blk_exit <| et k_assoc <| kr ⟨[(4, (V.sl 1 1 (List.map V.str y33))), (59, (Bo y35))], [], 61⟩ rfl <| kc rfl rfl (fun hc => ?_) fun hc => ?_
      · rw [hc]
        refine et k_assoc <| kr ⟨[(2, (sS (([] : List Str)))), (3, (I 3))], [], 61⟩ rfl <| et k_ret ?_
        rfl
      · rw [hc]
        refine et k_skip <| kr ⟨[(2, (sS y33)), (3, (I 0))], [], 61⟩ rfl <| et k_lret ?_
        rfl
    · intro s; exact rfl
def ref01_Key_fin : (List Int) → V × List V := fun r => ((V.sl 0 1 (List.map (V.int .u8) r)), [])
theorem ref01_Key_L2_ok (k : Nat) (a0 : (List Str)) (x30 : Int)  (K0 : (List Int) → Int → Option (List Int)) (Kst : X × St → Option (V × List V)) (hK0 : ∀ (y0 : (List Int)) (y1 : Int), Kst (X.exit 2, ⟨[(0, (sS a0)), (3, (V.sl 1 1 (List.map (V.int .u8) y0))), (4, (I x30)), (5, (I y1)), (18, (Bo false))], [], 44⟩) = (K0 y0 y1).map ref01_Key_fin) (hret : ∀ s, Kst (X.ret, s) = endK prog 44 [(sS a0)] [] [.tmp 2] (X.ret, s)) :
    ∀ (m : Nat) (x42 : (List Int)) (x43 : Int), (iter (exec prog (EV k) f25n k f25b0) m ⟨[(0, (sS a0)), (3, (V.sl 1 1 (List.map (V.int .u8) x42))), (4, (I x30)), (5, (I x43))], [], 44⟩).bind Kst = (ref01_Key_L2 a0 x30 K0 m x42 x43).map ref01_Key_fin := by
  intro m
  induction m with
  | zero => intros; rfl
  | succ m ih =>
    intro x42 x43
    unfold ref01_Key_L2
    refine et k_round <| et k_assoc <| kga f25a6 rfl (fun (o45 : Bool) => [(18, (Bo o45))]) (rd 3 [(12, (I x43)), (13, (sS a0)), (14, (I x30))] rfl rfl <| rp rfl (p_index (e := V.str) rfl rfl rfl underlying22 rfl (by decide)) fun v44 => bind_end rfl) fun o45 => kc rfl rfl (fun hc => ?_) fun hc => ?_
    · rw [hc]
      refine et k_skip <| et (k_block rfl) <| kg f25a8 rfl (fun (o49 : (List Int)) => ⟨[(0, (sS a0)), (3, (V.sl 1 1 (List.map (V.int .u8) o49))), (4, (I x30)), (5, (I x43))], [], 44⟩) (ra 3 3 ⟨[(0, (sS a0)), (3, (V.sl 0 1 (List.map (V.int .u8) x42))), (4, (I x30)), (5, (I x43)), (18, (Bo true)), (21, (V.sl 1 1 (List.map (V.int .u8) x42))), (22, (sS a0)), (23, (I x30))], [], 44⟩ rfl rfl rfl <| rp rfl (p_index (e := V.str) rfl rfl rfl underlying22 rfl (by decide)) fun v46 => bd 6 [(24, (Pr (Sr v46))), (25, (Sr v46)), (26, (I x43))] rfl rfl <| rp rfl (p_indexS rfl rfl rfl underlying9) fun v47 => bd 8 [(27, (V.int .u8 v47)), (28, (V.sl 0 1 (List.map (V.int .u8) ([v47] : List Int))))] rfl rfl <| et (reg_eff (x := (app x42 ([v47] : List Int))) (w := fun v48 => ((V.sl 1 1 (List.map (V.int .u8) v48)), _)) rfl rfl rfl rfl (p_app (e := (V.int .u8)) rfl rfl rfl rfl rfl rfl rfl rfl rfl rfl (by decide))) <| bind_self fun v48 => bind_end rfl) fun o49 => kga f25a9 rfl (fun (o52 : Bool) => [(36, (Bo o52))]) (rd 2 [(30, (sS a0)), (31, (I x30))] rfl rfl <| rp rfl (p_index (e := V.str) rfl rfl rfl underlying22 rfl (by decide)) fun v50 => bd 5 [(32, (Pr (Sr v50))), (33, (Sr v50)), (34, (I x43))] rfl rfl <| rp rfl (p_indexS rfl rfl rfl underlying9) fun v51 => bind_end rfl) fun o52 => kcl rfl rfl (fun hc => ?_) fun hc => ?_
      · rw [hc]
        exact kgl f25a10 rfl (fun (o54 : (List Int)) => ⟨[(0, (sS a0)), (3, (V.sl 1 1 (List.map (V.int .u8) o54))), (4, (I x30)), (5, (I x43))], [], 44⟩) (ra 2 2 ⟨[(0, (sS a0)), (3, (V.sl 0 1 (List.map (V.int .u8) o49))), (4, (I x30)), (5, (I x43)), (36, (Bo true)), (37, (V.sl 1 1 (List.map (V.int .u8) o49))), (38, (V.sl 0 1 (List.map (V.int .u8) ([255] : List Int))))], [], 44⟩ rfl rfl rfl <| et (reg_eff (x := (app o49 ([255] : List Int))) (w := fun v53 => ((V.sl 1 1 (List.map (V.int .u8) v53)), _)) rfl rfl rfl rfl (p_app (e := (V.int .u8)) rfl rfl rfl rfl rfl rfl rfl rfl rfl rfl (by decide))) <| bind_self fun v53 => bind_end rfl) fun o54 => et blk_normal <| kl ⟨[(0, (sS a0)), (3, (V.sl 1 1 (List.map (V.int .u8) o54))), (4, (I x30)), (5, (I (Go.IntKind.wrap .i64 (x43 + 1))))], [], 44⟩ rfl <| et loop_normal <| ih o54 (Go.IntKind.wrap .i64 (x43 + 1))
      · rw [hc]
        exact et k_lskip <| et blk_normal <| kl ⟨[(0, (sS a0)), (3, (V.sl 1 1 (List.map (V.int .u8) o49))), (4, (I x30)), (5, (I (Go.IntKind.wrap .i64 (x43 + 1))))], [], 44⟩ rfl <| et loop_normal <| ih o49 (Go.IntKind.wrap .i64 (x43 + 1))
    · rw [hc]
      exact et k_exit <| et loop_exit <| hK0 x42 x43
theorem ref01_Key_L1_ok (k : Nat) (a0 : (List Str))  (K0 : (List Int) → Int → Option (List Int)) (Kst : X × St → Option (V × List V)) (hK0 : ∀ (y0 : (List Int)) (y1 : Int), Kst (X.exit 0, ⟨[(0, (sS a0)), (3, (V.sl 1 1 (List.map (V.int .u8) y0))), (4, (I y1)), (9, (Bo false))], [], 44⟩) = (K0 y0 y1).map ref01_Key_fin) (hret : ∀ s, Kst (X.ret, s) = endK prog 44 [(sS a0)] [] [.tmp 2] (X.ret, s)) :
    ∀ (m : Nat) (x29 : (List Int)) (x30 : Int), (iter (exec prog (EV k) f25n k f25b1) m ⟨[(0, (sS a0)), (3, (V.sl 1 1 (List.map (V.int .u8) x29))), (4, (I x30))], [], 44⟩).bind Kst = (ref01_Key_L1 k a0 K0 m x29 x30).map ref01_Key_fin := by
  intro m
  induction m with
  | zero => intros; rfl
  | succ m ih =>
    intro x29 x30
    unfold ref01_Key_L1
    refine et k_round <| et k_assoc <| krp f25a3 rfl ⟨[(0, (sS a0)), (3, (V.sl 1 1 (List.map (V.int .u8) x29))), (4, (I x30)), (9, (Bo (decide (x30 < (a0.length : Int)))))], [], 44⟩ ?_ ?_
    · exact rd 2 [(6, (I x30)), (7, (sS a0))] rfl rfl <| rl rfl (p_len (e := V.str) rfl rfl rfl rfl rfl rfl underlying22) <| bind_end rfl
    refine kc rfl rfl (fun hc => ?_) fun hc => ?_
    · rw [hc]
      refine et k_skip <| et (k_block rfl) <| et k_assoc <| kr ⟨[(0, (sS a0)), (3, (V.sl 1 1 (List.map (V.int .u8) x29))), (4, (I x30)), (5, (I 0))], [], 44⟩ rfl <| et (k_block rfl) <| et k_loop ?_
      refine ref01_Key_L2_ok k a0 x30 _ _ ?h_ref01_Key_L2_0 ?hr_ref01_Key_L2 k x29 0
      · intro y55 y56
        exact et blk_exit <| kgl f25a11 rfl (fun (o58 : (List Int)) => ⟨[(0, (sS a0)), (3, (V.sl 1 1 (List.map (V.int .u8) o58))), (4, (I x30))], [], 44⟩) (ra 2 2 ⟨[(0, (sS a0)), (3, (V.sl 0 1 (List.map (V.int .u8) y55))), (4, (I x30)), (5, (I y56)), (18, (Bo false)), (40, (V.sl 1 1 (List.map (V.int .u8) y55))), (41, (V.sl 0 1 (List.map (V.int .u8) ([0, 1] : List Int))))], [], 44⟩ rfl rfl rfl <| et (reg_eff (x := (app y55 ([0, 1] : List Int))) (w := fun v57 => ((V.sl 1 1 (List.map (V.int .u8) v57)), _)) rfl rfl rfl rfl (p_app (e := (V.int .u8)) rfl rfl rfl rfl rfl rfl rfl rfl rfl rfl (by decide))) <| bind_self fun v57 => bind_end rfl) fun o58 => et blk_normal <| kl ⟨[(0, (sS a0)), (3, (V.sl 1 1 (List.map (V.int .u8) o58))), (4, (I (Go.IntKind.wrap .i64 (x30 + 1))))], [], 44⟩ rfl <| et loop_normal <| ih o58 (Go.IntKind.wrap .i64 (x30 + 1))
      · intro s; exact hret s
    · rw [hc]
      exact et k_exit <| et loop_exit <| hK0 x29 x30
theorem ref01_Key_ok (k : Nat) (a0 : (List Str)) : EV k 25 [(sS a0)] = (ref01_Key k a0).map ref01_Key_fin := by
  cases k with
  | zero => rfl
  | succ k =>
    unfold ref01_Key
    refine et (evF_succ (c := f25c) (N := 44) (regs := f25n) rfl func25 rfl (by decide) rfl rfl rfl) <| kra [] rfl <| kra [(3, (V.sl 1 1 (List.map (V.int .u8) ([] : List Int))))] rfl <| et k_assoc <| kra [(4, (I 0))] rfl <| et (k_block rfl) <| et k_loop ?_
    refine ref01_Key_L1_ok k a0 _ _ ?h_ref01_Key_L1_0 ?hr_ref01_Key_L1 k ([] : List Int) 0
    · intro y59 y60
      refine et blk_exit <| kr ⟨[(2, (V.sl 0 1 (List.map (V.int .u8) y59)))], [], 44⟩ rfl <| et k_lret ?_
      rfl
    · intro s; exact rfl
def ref01_SameTexts_fin : Bool → V × List V := fun r => ((Bo r), [])
theorem ref01_SameTexts_L1_ok (k : Nat) (a0 : (List Str)) (a1 : (List Str))  (K0 : Int → Option Bool) (Kst : X × St → Option (V × List V)) (hK0 : ∀ (y0 : Int), Kst (X.exit 0, ⟨[(0, (sS a0)), (1, (sS a1)), (5, (I y0)), (14, (Bo false))], [], 26⟩) = (K0 y0).map ref01_SameTexts_fin) (hret : ∀ s, Kst (X.ret, s) = endK prog 26 [(sS a0), (sS a1)] [] [.tmp 4] (X.ret, s)) :
    ∀ (m : Nat) (x4 : Int), (iter (exec prog (EV k) f26n k f26b0) m ⟨[(0, (sS a0)), (1, (sS a1)), (5, (I x4))], [], 26⟩).bind Kst = (ref01_SameTexts_L1 a0 a1 K0 m x4).map ref01_SameTexts_fin := by
  intro m
  induction m with
  | zero => intros; rfl
  | succ m ih =>
    intro x4
    unfold ref01_SameTexts_L1
    refine et k_round <| et k_assoc <| krp f26a4 rfl ⟨[(0, (sS a0)), (1, (sS a1)), (5, (I x4)), (14, (Bo (decide (x4 < (a0.length : Int)))))], [], 26⟩ ?_ ?_
    · exact rd 2 [(11, (I x4)), (12, (sS a0))] rfl rfl <| rl rfl (p_len (e := V.str) rfl rfl rfl rfl rfl rfl underlying22) <| bind_end rfl
    refine kc rfl rfl (fun hc => ?_) fun hc => ?_
    · rw [hc]
      refine et k_skip <| et (k_block rfl) <| kd f26a6 rfl (fun (o7 : Bool) => ⟨[(0, (sS a0)), (1, (sS a1)), (5, (I x4)), (25, (Bo o7))], [], 26⟩) (et (regionE_regp (p := 9) (dk := true) (t := [(0, (sS a0)), (1, (sS a1)), (5, (I x4)), (14, (Bo true))]) (σ := []) (n := 26) rfl (by decide) (by decide) rfl) <| et (regp_adv (m := 2) (j := 2) (t' := [(0, (sS a0)), (1, (sS a1)), (5, (I x4)), (14, (Bo true)), (17, (sS a0)), (18, (I x4))]) rfl rfl rfl) <| et (regp_pure (x := (idx a0 x4)) (w := fun v5 => (Pr (Sr v5))) rfl rfl rfl rfl rfl (p_index (e := V.str) rfl rfl rfl underlying22 rfl (by decide))) <| bindE fun v5 => et (putp_adv (m := 3) (j := 6) (t' := [(0, (sS a0)), (1, (sS a1)), (5, (I x4)), (14, (Bo true)), (17, (sS a0)), (18, (I x4)), (19, (Pr (Sr v5))), (20, (Sr v5)), (21, (sS a1)), (22, (I x4))]) rfl rfl rfl) <| et (regp_pure (x := (idx a1 x4)) (w := fun v6 => (Pr (Sr v6))) rfl rfl rfl rfl rfl (p_index (e := V.str) rfl rfl rfl underlying22 rfl (by decide))) <| bindE fun v6 => regp_end rfl) fun o7 => kcl rfl rfl (fun hc => ?_) fun hc => ?_
      · rw [hc]
        refine kr ⟨[(4, (Bo false))], [], 26⟩ rfl <| et k_lret <| et blk_ret <| et loop_ret <| et (hret _) ?_
        rfl
      · rw [hc]
        exact et k_lskip <| et blk_normal <| kl ⟨[(0, (sS a0)), (1, (sS a1)), (5, (I (Go.IntKind.wrap .i64 (x4 + 1))))], [], 26⟩ rfl <| et loop_normal <| ih (Go.IntKind.wrap .i64 (x4 + 1))
    · rw [hc]
      exact et k_exit <| et loop_exit <| hK0 x4
theorem ref01_SameTexts_ok (k : Nat) (a0 : (List Str)) (a1 : (List Str)) : EV k 26 [(sS a0), (sS a1)] = (ref01_SameTexts k a0 a1).map ref01_SameTexts_fin := by
  cases k with
  | zero => rfl
  | succ k =>
    unfold ref01_SameTexts
    refine et (evF_succ (c := f26c) (N := 26) (regs := f26n) rfl func26 rfl (by decide) rfl rfl rfl) <| kra [] rfl <| et k_assoc <| krp f26a1 rfl ⟨[(0, (sS a0)), (1, (sS a1)), (10, (Bo ((a0.length : Int) != (a1.length : Int))))], [], 26⟩ ?_ ?_
    · exact rd 1 [(6, (sS a0))] rfl rfl <| rl rfl (p_len (e := V.str) rfl rfl rfl rfl rfl rfl underlying22) <| bd 3 [(7, (I (a0.length : Int))), (8, (sS a1))] rfl rfl <| rl rfl (p_len (e := V.str) rfl rfl rfl rfl rfl rfl underlying22) <| bind_end rfl
    refine kc rfl rfl (fun hc => ?_) fun hc => ?_
    · rw [hc]
      refine et k_assoc <| kr ⟨[(4, (Bo false))], [], 26⟩ rfl <| et k_ret ?_
      rfl
    · rw [hc]
      refine et k_skip <| et k_assoc <| kr ⟨[(0, (sS a0)), (1, (sS a1)), (5, (I 0))], [], 26⟩ rfl <| et (k_block rfl) <| et k_loop ?_
      refine ref01_SameTexts_L1_ok k a0 a1 _ _ ?h_ref01_SameTexts_L1_0 ?hr_ref01_SameTexts_L1 k 0
      · intro y8
        refine et blk_exit <| kr ⟨[(4, (Bo true))], [], 26⟩ rfl <| et k_lret ?_
        rfl
      · intro s; exact rfl
def law01_OctetKeys_fin : Bool → V × List V := fun r => ((Bo r), [])
theorem law01_OctetKeys_ok (k : Nat) (a0 : (List Str)) (a1 : (List Int)) : EV k 5 [(sS a0), (V.sl 0 1 (List.map (V.int .u8) a1))] = (law01_OctetKeys k a0 a1).map law01_OctetKeys_fin := by
  cases k with
  | zero => rfl
  | succ k =>
    unfold law01_OctetKeys
    refine et (evF_succ (c := f5c) (N := 77) (regs := f5n) rfl func5 rfl (by decide) rfl rfl rfl) <| kra [] rfl <| et k_assoc <| kga f5a1 rfl (fun (o2 : Bool) => [(18, (Bo o2))]) ?_ fun o2 => ?_
    · refine rd 1 [(12, (sS a0))] rfl rfl <| rp rfl (p_call rfl rfl rfl rfl rfl (law01_Large_ok k a0) (.inl rfl)) fun v1 => bd 3 [(13, (Bo v1)), (14, (Bo v1))] rfl rfl <| bifE (fun hc => ?_) fun hc => ?_
      · rw [hc]
        exact reg_end rfl
      · rw [hc]
        exact rd 4 [(15, (V.sl 0 1 (List.map (V.int .u8) a1)))] rfl rfl <| rl rfl (p_len (e := (V.int .u8)) rfl rfl rfl rfl rfl rfl underlying26) <| bind_end rfl
    refine kc rfl rfl (fun hc => ?_) fun hc => ?_
    · rw [hc]
      refine et k_assoc <| kg f5a2 rfl (fun (o4 : Bool) => ⟨[(4, (Bo o4))], [], 77⟩) (rs rfl (p_call rfl rfl rfl rfl rfl (law01_First_ok k) (.inl rfl)) fun v3 => bind_end rfl) fun o4 => et k_ret ?_
      rfl
    · rw [hc]
      refine et k_skip <| kg f5a3 rfl (fun (o6 : (List Int)) => ⟨[(0, (sS a0)), (1, (V.sl 0 1 (List.map (V.int .u8) a1))), (5, (V.sl 0 1 (List.map (V.int .u8) o6)))], [], 77⟩) (rd 1 [(20, (sS a0))] rfl rfl <| rs rfl (p_call rfl rfl rfl rfl rfl (octet_Key_ok k a0) (.inl rfl)) fun v5 => bind_end rfl) fun o6 => kga f5a4 rfl (fun (o8 : (List Str) × Int) => [(6, (sS o8.1)), (7, (I o8.2))]) (rd 1 [(23, (V.sl 0 1 (List.map (V.int .u8) o6)))] rfl rfl <| rp rfl (p_call rfl rfl rfl rfl rfl (octet_Parts_ok k o6) (.inl rfl)) fun v7 => bind_end rfl) fun o8 => kga f5a5 rfl (fun (o10 : (List Str) × Int) => [(8, (sS o10.1)), (9, (I o10.2))]) (rd 1 [(28, (V.sl 0 1 (List.map (V.int .u8) a1)))] rfl rfl <| rp rfl (p_call rfl rfl rfl rfl rfl (octet_Parts_ok k a1) (.inl rfl)) fun v9 => bind_end rfl) fun o10 => kga f5a6 rfl (fun (o12 : (List Str) × Int) => [(10, (sS o12.1)), (11, (I o12.2))]) (rd 1 [(33, (V.sl 0 1 (List.map (V.int .u8) a1)))] rfl rfl <| rp rfl (p_call rfl rfl rfl rfl rfl (ref01_Parts_ok k a1) (.inl rfl)) fun v11 => bind_end rfl) fun o12 => et k_assoc <| kd f5a7 rfl (fun (o16 : Bool) => ⟨[(1, (V.sl 0 1 (List.map (V.int .u8) a1))), (8, (sS o10.1)), (9, (I o10.2)), (63, (Bo o16))], [], 77⟩) ?_ fun o16 => ?_
      · refine et (regionE_regp (p := 27) (dk := true) (t := [(0, (sS a0)), (1, (V.sl 0 1 (List.map (V.int .u8) a1))), (5, (V.sl 0 1 (List.map (V.int .u8) o6))), (6, (sS o8.1)), (7, (I o8.2)), (8, (sS o10.1)), (9, (I o10.2)), (10, (sS o12.1)), (11, (I o12.2))]) (σ := []) (n := 77) rfl (by decide) (by decide) rfl) <| et (regp_adv (m := 1) (j := 1) (t' := [(0, (sS a0)), (1, (V.sl 0 1 (List.map (V.int .u8) a1))), (5, (V.sl 0 1 (List.map (V.int .u8) o6))), (6, (sS o8.1)), (7, (I o8.2)), (8, (sS o10.1)), (9, (I o10.2)), (10, (sS o12.1)), (11, (I o12.2)), (37, (V.sl 0 1 (List.map (V.int .u8) o6)))]) rfl rfl rfl) <| et (regp_pure (x := some ()) (w := fun _ => (Sr (Go.AE.strB o6))) rfl rfl rfl rfl rfl (p_convBS (l := o6) rfl rfl underlying26 underlying9 underlying5)) <| et some_bind <| et (putp_adv (m := 1) (j := 3) (t' := [(0, (sS a0)), (1, (V.sl 0 1 (List.map (V.int .u8) a1))), (5, (V.sl 0 1 (List.map (V.int .u8) o6))), (6, (sS o8.1)), (7, (I o8.2)), (8, (sS o10.1)), (9, (I o10.2)), (10, (sS o12.1)), (11, (I o12.2)), (37, (V.sl 0 1 (List.map (V.int .u8) o6))), (38, (Sr (Go.AE.strB o6))), (39, (sS a0))]) rfl rfl rfl) <| et (regp_pure (x := (ref01_Key k a0)) (w := fun v13 => (V.sl 0 1 (List.map (V.int .u8) v13))) rfl rfl rfl rfl rfl (p_call rfl rfl rfl rfl rfl (ref01_Key_ok k a0) (.inl rfl))) <| bindE fun v13 => et (putp_adv (m := 0) (j := 4) (t' := [(0, (sS a0)), (1, (V.sl 0 1 (List.map (V.int .u8) a1))), (5, (V.sl 0 1 (List.map (V.int .u8) o6))), (6, (sS o8.1)), (7, (I o8.2)), (8, (sS o10.1)), (9, (I o10.2)), (10, (sS o12.1)), (11, (I o12.2)), (37, (V.sl 0 1 (List.map (V.int .u8) o6))), (38, (Sr (Go.AE.strB o6))), (39, (sS a0)), (40, (V.sl 0 1 (List.map (V.int .u8) v13)))]) rfl rfl rfl) <| et (regp_pure (x := some ()) (w := fun _ => (Sr (Go.AE.strB v13))) rfl rfl rfl rfl rfl (p_convBS (l := v13) rfl rfl underlying26 underlying9 underlying5)) <| et some_bind <| et (putp_adv (m := 2) (j := 7) (t' := [(0, (sS a0)), (1, (V.sl 0 1 (List.map (V.int .u8) a1))), (5, (V.sl 0 1 (List.map (V.int .u8) o6))), (6, (sS o8.1)), (7, (I o8.2)), (8, (sS o10.1)), (9, (I o10.2)), (10, (sS o12.1)), (11, (I o12.2)), (37, (V.sl 0 1 (List.map (V.int .u8) o6))), (38, (Sr (Go.AE.strB o6))), (39, (sS a0)), (40, (V.sl 0 1 (List.map (V.int .u8) v13))), (41, (Sr (Go.AE.strB v13))), (42, (Bo (!((Go.AE.strB o6) == (Go.AE.strB v13))))), (43, (Bo (!((Go.AE.strB o6) == (Go.AE.strB v13)))))]) rfl rfl rfl) <| bifE (fun hc => ?_) fun hc => ?_
        · rw [hc]
          exact regp_end rfl
        · rw [hc]
          refine et (regp_adv (m := 4) (j := 11) (t' := [(0, (sS a0)), (1, (V.sl 0 1 (List.map (V.int .u8) a1))), (5, (V.sl 0 1 (List.map (V.int .u8) o6))), (6, (sS o8.1)), (7, (I o8.2)), (8, (sS o10.1)), (9, (I o10.2)), (10, (sS o12.1)), (11, (I o12.2)), (37, (V.sl 0 1 (List.map (V.int .u8) o6))), (38, (Sr (Go.AE.strB o6))), (39, (sS a0)), (40, (V.sl 0 1 (List.map (V.int .u8) v13))), (41, (Sr (Go.AE.strB v13))), (42, (Bo false)), (43, (Bo false)), (44, (I o8.2)), (45, (Bo (o8.2 != 0))), (46, (Bo (o8.2 != 0))), (47, (Bo (o8.2 != 0)))]) rfl rfl rfl) <| bifE (fun hc => ?_) fun hc => ?_
          · rw [hc]
            exact regp_end rfl
          · rw [hc]
            refine et (regp_adv (m := 2) (j := 13) (t' := [(0, (sS a0)), (1, (V.sl 0 1 (List.map (V.int .u8) a1))), (5, (V.sl 0 1 (List.map (V.int .u8) o6))), (6, (sS o8.1)), (7, (I o8.2)), (8, (sS o10.1)), (9, (I o10.2)), (10, (sS o12.1)), (11, (I o12.2)), (37, (V.sl 0 1 (List.map (V.int .u8) o6))), (38, (Sr (Go.AE.strB o6))), (39, (sS a0)), (40, (V.sl 0 1 (List.map (V.int .u8) v13))), (41, (Sr (Go.AE.strB v13))), (42, (Bo false)), (43, (Bo false)), (44, (I o8.2)), (45, (Bo false)), (46, (Bo false)), (47, (Bo false)), (48, (sS o8.1)), (49, (sS a0))]) rfl rfl rfl) <| et (regp_pure (x := (ref01_SameTexts k o8.1 a0)) (w := fun v14 => (Bo v14)) rfl rfl rfl rfl rfl (p_call rfl rfl rfl rfl rfl (ref01_SameTexts_ok k o8.1 a0) (.inl rfl))) <| bindE fun v14 => et (putp_adv (m := 3) (j := 17) (t' := [(0, (sS a0)), (1, (V.sl 0 1 (List.map (V.int .u8) a1))), (5, (V.sl 0 1 (List.map (V.int .u8) o6))), (6, (sS o8.1)), (7, (I o8.2)), (8, (sS o10.1)), (9, (I o10.2)), (10, (sS o12.1)), (11, (I o12.2)), (37, (V.sl 0 1 (List.map (V.int .u8) o6))), (38, (Sr (Go.AE.strB o6))), (39, (sS a0)), (40, (V.sl 0 1 (List.map (V.int .u8) v13))), (41, (Sr (Go.AE.strB v13))), (42, (Bo false)), (43, (Bo false)), (44, (I o8.2)), (45, (Bo false)), (46, (Bo false)), (47, (Bo false)), (48, (sS o8.1)), (49, (sS a0)), (50, (Bo v14)), (51, (Bo (!v14))), (52, (Bo (!v14))), (53, (Bo (!v14)))]) rfl rfl rfl) <| bifE (fun hc => ?_) fun hc => ?_
            · rw [hc]
              exact regp_end rfl
            · rw [hc]
              refine et (regp_adv (m := 2) (j := 19) (t' := [(0, (sS a0)), (1, (V.sl 0 1 (List.map (V.int .u8) a1))), (5, (V.sl 0 1 (List.map (V.int .u8) o6))), (6, (sS o8.1)), (7, (I o8.2)), (8, (sS o10.1)), (9, (I o10.2)), (10, (sS o12.1)), (11, (I o12.2)), (37, (V.sl 0 1 (List.map (V.int .u8) o6))), (38, (Sr (Go.AE.strB o6))), (39, (sS a0)), (40, (V.sl 0 1 (List.map (V.int .u8) v13))), (41, (Sr (Go.AE.strB v13))), (42, (Bo false)), (43, (Bo false)), (44, (I o8.2)), (45, (Bo false)), (46, (Bo false)), (47, (Bo false)), (48, (sS o8.1)), (49, (sS a0)), (50, (Bo v14)), (51, (Bo false)), (52, (Bo false)), (53, (Bo false)), (54, (sS o10.1)), (55, (sS o12.1))]) rfl rfl rfl) <| et (regp_pure (x := (ref01_SameTexts k o10.1 o12.1)) (w := fun v15 => (Bo v15)) rfl rfl rfl rfl rfl (p_call rfl rfl rfl rfl rfl (ref01_SameTexts_ok k o10.1 o12.1) (.inl rfl))) <| bindE fun v15 => et (putp_adv (m := 3) (j := 23) (t' := [(0, (sS a0)), (1, (V.sl 0 1 (List.map (V.int .u8) a1))), (5, (V.sl 0 1 (List.map (V.int .u8) o6))), (6, (sS o8.1)), (7, (I o8.2)), (8, (sS o10.1)), (9, (I o10.2)), (10, (sS o12.1)), (11, (I o12.2)), (37, (V.sl 0 1 (List.map (V.int .u8) o6))), (38, (Sr (Go.AE.strB o6))), (39, (sS a0)), (40, (V.sl 0 1 (List.map (V.int .u8) v13))), (41, (Sr (Go.AE.strB v13))), (42, (Bo false)), (43, (Bo false)), (44, (I o8.2)), (45, (Bo false)), (46, (Bo false)), (47, (Bo false)), (48, (sS o8.1)), (49, (sS a0)), (50, (Bo v14)), (51, (Bo false)), (52, (Bo false)), (53, (Bo false)), (54, (sS o10.1)), (55, (sS o12.1)), (56, (Bo v15)), (57, (Bo (!v15))), (58, (Bo (!v15))), (59, (Bo (!v15)))]) rfl rfl rfl) <| bifE (fun hc => ?_) fun hc => ?_
              · rw [hc]
                exact regp_end rfl
              · rw [hc]
                exact regp_end rfl
      refine kc rfl rfl (fun hc => ?_) fun hc => ?_
      · rw [hc]
        refine et k_assoc <| kr ⟨[(4, (Bo false))], [], 77⟩ rfl <| et k_ret ?_
        rfl
      · rw [hc]
        refine et k_skip <| kd f5a9 rfl (fun (o20 : Bool) => ⟨[(4, (Bo o20))], [], 77⟩) ?_ fun o20 => ?_
        · refine et (regionE_regp (p := 14) (dk := true) (t := [(1, (V.sl 0 1 (List.map (V.int .u8) a1))), (8, (sS o10.1)), (9, (I o10.2)), (63, (Bo false))]) (σ := []) (n := 77) rfl (by decide) (by decide) rfl) <| et (regp_adv (m := 3) (j := 3) (t' := [(1, (V.sl 0 1 (List.map (V.int .u8) a1))), (8, (sS o10.1)), (9, (I o10.2)), (63, (Bo false)), (64, (I o10.2)), (65, (Bo (o10.2 != 0))), (66, (Bo (o10.2 != 0)))]) rfl rfl rfl) <| bifE (fun hc => ?_) fun hc => ?_
          · rw [hc]
            exact et (regp_adv (m := 8) (j := 11) (t' := [(1, (V.sl 0 1 (List.map (V.int .u8) a1))), (8, (sS o10.1)), (9, (I o10.2)), (63, (Bo false)), (64, (I o10.2)), (65, (Bo true)), (66, (Bo true)), (67, (V.tup [])), (68, (V.tup [])), (69, (V.tup [])), (70, (V.tup [])), (71, (V.tup [])), (72, (V.tup [])), (73, (Bo true)), (74, (Bo true))]) rfl rfl rfl) <| et (regp_pure (x := (law01_First k)) (w := fun v17 => (Bo v17)) rfl rfl rfl rfl rfl (p_call rfl rfl rfl rfl rfl (law01_First_ok k) (.inl rfl))) <| bind_self fun v17 => regp_end rfl
          · rw [hc]
            refine et (regp_adv (m := 1) (j := 4) (t' := [(1, (V.sl 0 1 (List.map (V.int .u8) a1))), (8, (sS o10.1)), (9, (I o10.2)), (63, (Bo false)), (64, (I o10.2)), (65, (Bo false)), (66, (Bo false)), (67, (sS o10.1))]) rfl rfl rfl) <| et (regp_pure (x := (octet_Key k o10.1)) (w := fun v18 => (V.sl 0 1 (List.map (V.int .u8) v18))) rfl rfl rfl rfl rfl (p_call rfl rfl rfl rfl rfl (octet_Key_ok k o10.1) (.inl rfl))) <| bindE fun v18 => et (putp_adv (m := 0) (j := 5) (t' := [(1, (V.sl 0 1 (List.map (V.int .u8) a1))), (8, (sS o10.1)), (9, (I o10.2)), (63, (Bo false)), (64, (I o10.2)), (65, (Bo false)), (66, (Bo false)), (67, (sS o10.1)), (68, (V.sl 0 1 (List.map (V.int .u8) v18)))]) rfl rfl rfl) <| et (regp_pure (x := some ()) (w := fun _ => (Sr (Go.AE.strB v18))) rfl rfl rfl rfl rfl (p_convBS (l := v18) rfl rfl underlying26 underlying9 underlying5)) <| et some_bind <| et (putp_adv (m := 1) (j := 7) (t' := [(1, (V.sl 0 1 (List.map (V.int .u8) a1))), (8, (sS o10.1)), (9, (I o10.2)), (63, (Bo false)), (64, (I o10.2)), (65, (Bo false)), (66, (Bo false)), (67, (sS o10.1)), (68, (V.sl 0 1 (List.map (V.int .u8) v18))), (69, (Sr (Go.AE.strB v18))), (70, (V.sl 0 1 (List.map (V.int .u8) a1)))]) rfl rfl rfl) <| et (regp_pure (x := some ()) (w := fun _ => (Sr (Go.AE.strB a1))) rfl rfl rfl rfl rfl (p_convBS (l := a1) rfl rfl underlying26 underlying9 underlying5)) <| et some_bind <| et (putp_adv (m := 3) (j := 11) (t' := [(1, (V.sl 0 1 (List.map (V.int .u8) a1))), (8, (sS o10.1)), (9, (I o10.2)), (63, (Bo false)), (64, (I o10.2)), (65, (Bo false)), (66, (Bo false)), (67, (sS o10.1)), (68, (V.sl 0 1 (List.map (V.int .u8) v18))), (69, (Sr (Go.AE.strB v18))), (70, (V.sl 0 1 (List.map (V.int .u8) a1))), (71, (Sr (Go.AE.strB a1))), (72, (Bo ((Go.AE.strB v18) == (Go.AE.strB a1)))), (73, (Bo ((Go.AE.strB v18) == (Go.AE.strB a1)))), (74, (Bo ((Go.AE.strB v18) == (Go.AE.strB a1))))]) rfl rfl rfl) <| bifE (fun hc => ?_) fun hc => ?_
            · rw [hc]
              exact et (regp_pure (x := (law01_First k)) (w := fun v19 => (Bo v19)) rfl rfl rfl rfl rfl (p_call rfl rfl rfl rfl rfl (law01_First_ok k) (.inl rfl))) <| bind_self fun v19 => regp_end rfl
            · rw [hc]
              exact regp_end rfl
        refine et k_lret ?_
        rfl
end
end Go.AE
