/- The program, function by function: the evaluator comes to the typed functions. Conditions: none. -/
import Derived.Test.YteecoopnleidaaaDoorA3
import Derived.KernelRfl
import Derived.Test.YteecoopnleidaaaDoorProg
import Derived.Test.YteecoopnleidaaaDoorB1
namespace Go.AE
open Go.Proofs.Tryd Go.Sh
set_option linter.unusedSimpArgs false
set_option linter.unusedVariables false
set_option maxRecDepth 100000
set_option maxHeartbeats 4000000
noncomputable section
abbrev Pt (n : Nat) : V := .ptr n 0 0
abbrev Bo (b : Bool) : V := .bool b
abbrev Sr (s : Str) : V := .str s
abbrev Pr (v : V) : V := .pro v
abbrev sS (l : List Str) : V := .sl 0 1 (List.map V.str l)
abbrev vS (n : Nat) (v : V) : Site := ⟨false, n, [v]⟩
abbrev aL {α : Type} (d : Nat) (e : α → V) (l : List α) : V := .aref d 0 (List.map e l).length
noncomputable def f10o0 : Array Oper := cO (cL (cB f10))
def f10a0 : RAnn := ⟨[2], []⟩
noncomputable def f10o1 : Array Oper := cO (cL (cL (cR (cB f10))))
def f10a1 : RAnn := ⟨[], []⟩
noncomputable def f10o2 : Array Oper := cO (cL (cL (cL (cL (cR (cL (cR (cB f10))))))))
def f10a2 : RAnn := ⟨[4, 5, 6], []⟩
noncomputable def f10o3 : Array Oper := cO (cR (cR (cL (cL (cR (cL (cR (cB f10))))))))
def f10a3 : RAnn := ⟨[8, 9, 15], []⟩
noncomputable def f10o4 : Array Oper := cO (cL (cL (cL (cR (cL (cL (cR (cL (cR (cB f10))))))))))
def f10a4 : RAnn := ⟨[7, 10, 11, 12, 13, 14], []⟩
noncomputable def f10o5 : Array Oper := cO (cL (cL (cR (cL (cL (cR (cL (cL (cR (cL (cR (cB f10))))))))))))
def f10a5 : RAnn := ⟨[0, 3, 15], []⟩
noncomputable def f10o6 : Array Oper := cO (cL (cR (cR (cB f10))))
def f10a6 : RAnn := ⟨[0, 3, 7, 16, 17, 18], []⟩
def f10b0 : Code := (.seq (.seq (.region 2 f10o2 false) (.cond (.tmp 7) .skip (.exit 0))) (.seq (.block 1 (.seq (.region 4 f10o4 false) (.cond (.tmp 15) (.seq (.region 5 f10o5 false) .ret) .skip))) (.region 3 f10o3 false)))
def f10c : Code := (.seq (.region 0 f10o0 false) (.seq (.seq (.region 1 f10o1 false) (.block 0 (.loop f10b0))) (.seq (.region 6 f10o6 false) .ret)))
def f10n : List (Nat × RAnn) := [(0, f10a0), (1, f10a1), (2, f10a2), (3, f10a3), (4, f10a4), (5, f10a5), (6, f10a6)]
noncomputable def f19o0 : Array Oper := cO (cL (cB f19))
def f19a0 : RAnn := ⟨[2, 3], []⟩
noncomputable def f19o1 : Array Oper := cO (cL (cL (cR (cB f19))))
def f19a1 : RAnn := ⟨[4, 5], []⟩
noncomputable def f19o2 : Array Oper := cO (cL (cL (cR (cL (cR (cB f19))))))
def f19a2 : RAnn := ⟨[0, 6], []⟩
noncomputable def f19o3 : Array Oper := cO (cL (cR (cR (cB f19))))
def f19a3 : RAnn := ⟨[0, 6, 7, 8, 9, 10, 11, 12], [(3, { keep := [0] }), (5, { tk := [10] })]⟩
def f19c : Code := (.seq (.region 0 f19o0 false) (.seq (.seq (.region 1 f19o1 false) (.cond (.tmp 6) (.seq (.region 2 f19o2 false) .ret) .skip)) (.seq (.region 3 f19o3 false) .ret)))
def f19n : List (Nat × RAnn) := [(0, f19a0), (1, f19a1), (2, f19a2), (3, f19a3)]
noncomputable def f17o0 : Array Oper := cO (cL (cB f17))
def f17a0 : RAnn := ⟨[2, 3], []⟩
noncomputable def f17o1 : Array Oper := cO (cL (cL (cR (cB f17))))
def f17a1 : RAnn := ⟨[4, 5, 6, 7, 8], []⟩
noncomputable def f17o2 : Array Oper := cO (cL (cL (cR (cL (cR (cB f17))))))
def f17a2 : RAnn := ⟨[0, 9], []⟩
noncomputable def f17o3 : Array Oper := cO (cL (cR (cR (cB f17))))
def f17a3 : RAnn := ⟨[0, 9, 10, 11, 12, 13, 14, 15, 16, 17, 18, 19, 20, 21], []⟩
def f17c : Code := (.seq (.region 0 f17o0 false) (.seq (.seq (.region 1 f17o1 false) (.cond (.tmp 9) (.seq (.region 2 f17o2 false) .ret) .skip)) (.seq (.region 3 f17o3 false) .ret)))
def f17n : List (Nat × RAnn) := [(0, f17a0), (1, f17a1), (2, f17a2), (3, f17a3)]
noncomputable def f46o0 : Array Oper := cO (cL (cB f46))
def f46a0 : RAnn := ⟨[4, 5], []⟩
noncomputable def f46o1 : Array Oper := cO (cL (cR (cB f46)))
def f46a1 : RAnn := ⟨[7, 8], []⟩
noncomputable def f46o2 : Array Oper := cO (cL (cL (cR (cR (cB f46)))))
def f46a2 : RAnn := ⟨[0, 9, 10, 11, 12, 13, 14, 15, 16, 17, 18, 19, 20, 21, 22, 23], []⟩
noncomputable def f46o3 : Array Oper := cO (cL (cL (cR (cL (cR (cR (cB f46)))))))
def f46a3 : RAnn := ⟨[1, 6, 24], []⟩
noncomputable def f46o4 : Array Oper := cO (cL (cR (cR (cR (cB f46)))))
def f46a4 : RAnn := ⟨[1, 6, 24, 25, 26, 27, 28, 29, 30, 31], []⟩
def f46c : Code := (.seq (.region 0 f46o0 false) (.seq (.region 1 f46o1 false) (.seq (.seq (.region 2 f46o2 false) (.cond (.tmp 24) (.seq (.region 3 f46o3 false) .ret) .skip)) (.seq (.region 4 f46o4 false) .ret))))
def f46n : List (Nat × RAnn) := [(0, f46a0), (1, f46a1), (2, f46a2), (3, f46a3), (4, f46a4)]
noncomputable def f40o0 : Array Oper := cO (cL (cB f40))
def f40a0 : RAnn := ⟨[4, 5], []⟩
noncomputable def f40o1 : Array Oper := cO (cL (cL (cR (cB f40))))
def f40a1 : RAnn := ⟨[6, 7, 8, 9, 10, 11, 12], []⟩
noncomputable def f40o2 : Array Oper := cO (cL (cL (cR (cL (cR (cB f40))))))
def f40a2 : RAnn := ⟨[0, 1, 13], []⟩
noncomputable def f40o3 : Array Oper := cO (cL (cR (cR (cB f40))))
def f40a3 : RAnn := ⟨[0, 1, 13, 14, 15, 16, 17, 18, 19, 20], []⟩
def f40c : Code := (.seq (.region 0 f40o0 false) (.seq (.seq (.region 1 f40o1 false) (.cond (.tmp 13) (.seq (.region 2 f40o2 false) .ret) .skip)) (.seq (.region 3 f40o3 false) .ret)))
def f40n : List (Nat × RAnn) := [(0, f40a0), (1, f40a1), (2, f40a2), (3, f40a3)]
noncomputable def f14o0 : Array Oper := cO (cL (cB f14))
def f14a0 : RAnn := ⟨[2], []⟩
noncomputable def f14o1 : Array Oper := cO (cL (cR (cB f14)))
def f14a1 : RAnn := ⟨[], [(0, { keep := [0] })]⟩
noncomputable def f14o2 : Array Oper := cO (cL (cL (cR (cR (cB f14)))))
def f14a2 : RAnn := ⟨[0], []⟩
noncomputable def f14o3 : Array Oper := cO (cL (cL (cL (cR (cL (cR (cR (cB f14))))))))
def f14a3 : RAnn := ⟨[], []⟩
noncomputable def f14o4 : Array Oper := cO (cL (cL (cL (cR (cR (cL (cL (cR (cL (cR (cR (cB f14))))))))))))
def f14a4 : RAnn := ⟨[9, 10, 11], []⟩
noncomputable def f14o5 : Array Oper := cO (cL (cR (cL (cL (cR (cR (cL (cL (cR (cL (cR (cR (cB f14)))))))))))))
def f14a5 : RAnn := ⟨[5, 12, 13, 14, 15], [(0, { tk := [3], keep := [0] }), (3, { tk := [12], keep := [0] }), (4, { tk := [15], keep := [0] })]⟩
noncomputable def f14o6 : Array Oper := cO (cR (cR (cL (cL (cR (cR (cL (cL (cR (cL (cR (cR (cB f14)))))))))))))
def f14a6 : RAnn := ⟨[16, 17, 18], [(0, { tk := [3], keep := [0] }), (2, { tk := [16], keep := [0] }), (3, { tk := [18], keep := [0] })]⟩
noncomputable def f14o7 : Array Oper := cO (cR (cR (cR (cL (cL (cR (cL (cR (cR (cB f14))))))))))
def f14a7 : RAnn := ⟨[19], []⟩
noncomputable def f14o8 : Array Oper := cO (cL (cR (cR (cR (cB f14)))))
def f14a8 : RAnn := ⟨[3, 6, 7, 8, 9, 20], []⟩
def f14b0 : Code := (.seq (.region 3 f14o3 false) (.seq (.cond (.tmp 9) .skip (.exit 0)) (.seq (.block 1 (.seq (.region 4 f14o4 false) (.seq (.region 5 f14o5 false) (.region 6 f14o6 false)))) (.region 7 f14o7 false))))
def f14c : Code := (.seq (.region 0 f14o0 false) (.seq (.region 1 f14o1 false) (.seq (.seq (.region 2 f14o2 false) (.block 0 (.loop f14b0))) (.seq (.region 8 f14o8 false) .ret))))
def f14n : List (Nat × RAnn) := [(0, f14a0), (1, f14a1), (2, f14a2), (3, f14a3), (4, f14a4), (5, f14a5), (6, f14a6), (7, f14a7), (8, f14a8)]
noncomputable def f11o0 : Array Oper := cO (cL (cB f11))
def f11a0 : RAnn := ⟨[0], []⟩
noncomputable def f11o1 : Array Oper := cO (cL (cR (cB f11)))
def f11a1 : RAnn := ⟨[9, 10, 11, 12], []⟩
noncomputable def f11o2 : Array Oper := cO (cL (cR (cR (cB f11))))
def f11a2 : RAnn := ⟨[13, 14, 15, 16], []⟩
noncomputable def f11o3 : Array Oper := cO (cL (cR (cR (cR (cB f11)))))
def f11a3 : RAnn := ⟨[17, 18, 19, 20], []⟩
noncomputable def f11o4 : Array Oper := cO (cL (cR (cR (cR (cR (cB f11))))))
def f11a4 : RAnn := ⟨[21, 22, 23, 24], []⟩
noncomputable def f11o5 : Array Oper := cO (cL (cR (cR (cR (cR (cR (cB f11)))))))
def f11a5 : RAnn := ⟨[1, 2, 3, 4, 5, 6, 7, 8, 25, 26, 27, 28, 29, 30, 31, 32, 33, 34, 35, 36, 37, 38, 39, 40, 41, 42, 43, 44, 45, 46, 47, 48, 49, 50, 51, 52, 53, 54, 55, 56, 57, 58, 59, 60, 61, 62], []⟩
def f11c : Code := (.seq (.region 0 f11o0 false) (.seq (.region 1 f11o1 false) (.seq (.region 2 f11o2 false) (.seq (.region 3 f11o3 false) (.seq (.region 4 f11o4 false) (.seq (.region 5 f11o5 false) .ret))))))
def f11n : List (Nat × RAnn) := [(0, f11a0), (1, f11a1), (2, f11a2), (3, f11a3), (4, f11a4), (5, f11a5)]
noncomputable def f12o0 : Array Oper := cO (cL (cB f12))
def f12a0 : RAnn := ⟨[4], []⟩
noncomputable def f12o1 : Array Oper := cO (cL (cL (cR (cB f12))))
def f12a1 : RAnn := ⟨[], []⟩
noncomputable def f12o2 : Array Oper := cO (cL (cL (cL (cL (cR (cL (cR (cB f12))))))))
def f12a2 : RAnn := ⟨[6, 7, 8, 9, 10, 11, 12, 13, 14], []⟩
noncomputable def f12o3 : Array Oper := cO (cR (cR (cL (cL (cR (cL (cR (cB f12))))))))
def f12a3 : RAnn := ⟨[16, 17, 26], []⟩
noncomputable def f12o4 : Array Oper := cO (cL (cL (cL (cR (cL (cL (cR (cL (cR (cB f12))))))))))
def f12a4 : RAnn := ⟨[15, 18, 19, 20, 21, 22, 23, 24, 25], []⟩
noncomputable def f12o5 : Array Oper := cO (cL (cL (cL (cR (cL (cL (cR (cL (cL (cR (cL (cR (cB f12)))))))))))))
def f12a5 : RAnn := ⟨[0, 1, 5, 26, 27, 28, 29, 30, 31, 32, 33, 34], []⟩
noncomputable def f12o6 : Array Oper := cO (cL (cL (cR (cL (cL (cR (cL (cL (cR (cL (cL (cR (cL (cR (cB f12)))))))))))))))
def f12a6 : RAnn := ⟨[35], []⟩
noncomputable def f12o7 : Array Oper := cO (cL (cR (cL (cR (cL (cL (cR (cL (cL (cR (cL (cR (cB f12)))))))))))))
def f12a7 : RAnn := ⟨[35], []⟩
noncomputable def f12o8 : Array Oper := cO (cL (cL (cL (cR (cR (cB f12))))))
def f12a8 : RAnn := ⟨[5, 15, 37, 38, 39, 40, 41], []⟩
noncomputable def f12o9 : Array Oper := cO (cL (cL (cR (cL (cL (cR (cR (cB f12))))))))
def f12a9 : RAnn := ⟨[0, 1, 36], []⟩
noncomputable def f12o10 : Array Oper := cO (cL (cR (cR (cL (cL (cR (cR (cB f12))))))))
def f12a10 : RAnn := ⟨[0, 1, 36, 43, 44, 45, 46, 47], []⟩
noncomputable def f12o11 : Array Oper := cO (cL (cL (cR (cR (cR (cL (cL (cR (cR (cB f12))))))))))
def f12a11 : RAnn := ⟨[42], []⟩
noncomputable def f12o12 : Array Oper := cO (cL (cR (cR (cR (cB f12)))))
def f12a12 : RAnn := ⟨[42], []⟩
def f12b0 : Code := (.seq (.seq (.region 2 f12o2 false) (.cond (.tmp 15) .skip (.exit 0))) (.seq (.block 1 (.seq (.region 4 f12o4 true) (.cond (.tmp 26) (.seq (.seq (.region 5 f12o5 true) (.cond (.tmp 35) (.seq (.region 6 f12o6 false) .ret) .skip)) (.seq (.region 7 f12o7 false) .ret)) .skip))) (.region 3 f12o3 false)))
def f12c : Code := (.seq (.region 0 f12o0 false) (.seq (.seq (.region 1 f12o1 false) (.block 0 (.loop f12b0))) (.seq (.block 2 (.seq (.region 8 f12o8 false) (.cond (.tmp 36) (.seq (.region 9 f12o9 false) .ret) (.seq (.region 10 f12o10 false) (.cond (.tmp 42) (.seq (.region 11 f12o11 false) .ret) .skip))))) (.seq (.region 12 f12o12 false) .ret))))
def f12n : List (Nat × RAnn) := [(0, f12a0), (1, f12a1), (2, f12a2), (3, f12a3), (4, f12a4), (5, f12a5), (6, f12a6), (7, f12a7), (8, f12a8), (9, f12a9), (10, f12a10), (11, f12a11), (12, f12a12)]
noncomputable def f13o0 : Array Oper := cO (cL (cB f13))
def f13a0 : RAnn := ⟨[4], []⟩
noncomputable def f13o1 : Array Oper := cO (cL (cR (cB f13)))
def f13a1 : RAnn := ⟨[0, 1, 5, 6, 7], []⟩
def f13c : Code := (.seq (.region 0 f13o0 false) (.seq (.region 1 f13o1 false) .ret))
def f13n : List (Nat × RAnn) := [(0, f13a0), (1, f13a1)]
noncomputable def f3o0 : Array Oper := cO (cL (cB f3))
def f3a0 : RAnn := ⟨[4], []⟩
noncomputable def f3o1 : Array Oper := cO (cL (cL (cR (cB f3))))
def f3a1 : RAnn := ⟨[7, 8, 9, 10, 11], []⟩
noncomputable def f3o2 : Array Oper := cO (cL (cL (cR (cL (cR (cB f3))))))
def f3a2 : RAnn := ⟨[0, 1, 12, 13], []⟩
noncomputable def f3o3 : Array Oper := cO (cL (cR (cR (cB f3))))
def f3a3 : RAnn := ⟨[12], []⟩
noncomputable def f3o4 : Array Oper := cO (cL (cL (cR (cR (cR (cB f3))))))
def f3a4 : RAnn := ⟨[], []⟩
noncomputable def f3o5 : Array Oper := cO (cL (cL (cL (cL (cR (cL (cR (cR (cR (cB f3))))))))))
def f3a5 : RAnn := ⟨[14, 15, 16, 17, 18, 19, 20, 21, 22, 23, 24, 25, 26], []⟩
noncomputable def f3o6 : Array Oper := cO (cR (cR (cL (cL (cR (cL (cR (cR (cR (cB f3))))))))))
def f3a6 : RAnn := ⟨[28, 29, 53], []⟩
noncomputable def f3o7 : Array Oper := cO (cL (cL (cL (cR (cL (cL (cR (cL (cR (cR (cR (cB f3))))))))))))
def f3a7 : RAnn := ⟨[27, 30, 31, 32, 33, 34, 35, 36, 37, 38, 39, 40], []⟩
noncomputable def f3o8 : Array Oper := cO (cL (cR (cL (cL (cR (cL (cL (cR (cL (cR (cR (cR (cB f3)))))))))))))
def f3a8 : RAnn := ⟨[41, 42, 43, 44, 45, 46, 47, 48, 49, 50, 51, 52], []⟩
noncomputable def f3o9 : Array Oper := cO (cL (cL (cR (cR (cL (cL (cR (cL (cL (cR (cL (cR (cR (cR (cB f3)))))))))))))))
def f3a9 : RAnn := ⟨[0, 1, 5, 6, 53], []⟩
noncomputable def f3o10 : Array Oper := cO (cL (cL (cR (cR (cR (cR (cB f3)))))))
def f3a10 : RAnn := ⟨[6, 27, 54, 55, 56, 57, 58, 59, 60, 61], []⟩
noncomputable def f3o11 : Array Oper := cO (cL (cR (cL (cR (cR (cR (cR (cB f3))))))))
def f3a11 : RAnn := ⟨[62], []⟩
noncomputable def f3o12 : Array Oper := cO (cL (cL (cR (cR (cR (cR (cR (cB f3))))))))
def f3a12 : RAnn := ⟨[62, 63, 64, 65, 66, 67, 68, 69, 70], []⟩
noncomputable def f3o13 : Array Oper := cO (cL (cR (cL (cR (cR (cR (cR (cR (cB f3)))))))))
def f3a13 : RAnn := ⟨[71], []⟩
noncomputable def f3o14 : Array Oper := cO (cL (cR (cR (cR (cR (cR (cR (cB f3))))))))
def f3a14 : RAnn := ⟨[0, 1, 5, 71, 72, 73, 74, 75, 76, 77, 78, 79, 80, 81], []⟩
def f3b0 : Code := (.seq (.seq (.region 5 f3o5 false) (.cond (.tmp 27) .skip (.exit 0))) (.seq (.block 1 (.seq (.region 7 f3o7 true) (.seq (.region 8 f3o8 true) (.cond (.tmp 53) (.seq (.region 9 f3o9 false) .ret) .skip)))) (.region 6 f3o6 false)))
def f3c : Code := (.seq (.region 0 f3o0 false) (.seq (.seq (.region 1 f3o1 false) (.cond (.tmp 12) (.seq (.region 2 f3o2 false) .ret) .skip)) (.seq (.region 3 f3o3 false) (.seq (.seq (.region 4 f3o4 false) (.block 0 (.loop f3b0))) (.seq (.seq (.region 10 f3o10 false) (.cond (.tmp 62) (.region 11 f3o11 false) .skip)) (.seq (.seq (.region 12 f3o12 false) (.cond (.tmp 71) (.region 13 f3o13 false) .skip)) (.seq (.region 14 f3o14 false) .ret)))))))
def f3n : List (Nat × RAnn) := [(0, f3a0), (1, f3a1), (2, f3a2), (3, f3a3), (4, f3a4), (5, f3a5), (6, f3a6), (7, f3a7), (8, f3a8), (9, f3a9), (10, f3a10), (11, f3a11), (12, f3a12), (13, f3a13), (14, f3a14)]
def ANNS : List (Nat × FAnn) := [(3, ⟨f3n, [], []⟩), (10, ⟨f10n, [], []⟩), (11, ⟨f11n, [], []⟩), (12, ⟨f12n, [], []⟩), (13, ⟨f13n, [], []⟩), (14, ⟨f14n, [], []⟩), (17, ⟨f17n, [], []⟩), (19, ⟨f19n, [], []⟩), (40, ⟨f40n, [], []⟩), (46, ⟨f46n, [], []⟩)]
def anns : FuncId → FAnn := fun f => (look f ANNS).getD {}
def ext : ExtH := fun f args => bif Nat.beq f 57 then some (extItoa args) else bif Nat.beq f 55 then some (extStrRep args) else bif Nat.beq f 49 then some (extRepAll args) else bif Nat.beq f 48 then some (extBCmp args) else none
noncomputable abbrev EV (k : Nat) : CallH := evF prog anns ext k
noncomputable abbrev RE (k : Nat) (a : RAnn) (o : Array Oper) (d : Bool) (s : St) : Option St := regionE prog (EV k) a o d s
abbrev I (n : Int) : V := .int .i64 n
def law01_Large_fin : Bool → V × List V := fun r => ((Bo r), [])
theorem law01_Large_L1_ok (k : Nat) (a0 : (List Str))  (K0 : Int → Option Bool) (Kst : X × St → Option (V × List V)) (hK0 : ∀ (y0 : Int), Kst (X.exit 0, ⟨[(0, (sS a0)), (3, (I y0)), (7, (Bo false))], [], 19⟩) = (K0 y0).map law01_Large_fin) (hret : ∀ s, Kst (X.ret, s) = endK prog 19 [(sS a0)] [] [.tmp 2] (X.ret, s)) :
    ∀ (m : Nat) (x3 : Int), (iter (exec prog (EV k) f10n k f10b0) m ⟨[(0, (sS a0)), (3, (I x3))], [], 19⟩).bind Kst = (law01_Large_L1 a0 K0 m x3).map law01_Large_fin := by
  intro m
  induction m with
  | zero => intros; rfl
  | succ m ih =>
    intro x3
    unfold law01_Large_L1
    refine et k_round <| et k_assoc <| krp f10a2 rfl ⟨[(0, (sS a0)), (3, (I x3)), (7, (Bo (decide (x3 < (a0.length : Int)))))], [], 19⟩ ?_ ?_
    · exact rd 2 [(4, (I x3)), (5, (sS a0))] rfl rfl <| rl rfl (p_len (e := V.str) rfl rfl rfl rfl rfl rfl underlying22) <| bind_end rfl
    refine kc rfl rfl (fun hc => ?_) fun hc => ?_
    · rw [hc]
      refine et k_skip <| et (k_block rfl) <| kg f10a4 rfl (fun (o5 : Bool) => ⟨[(0, (sS a0)), (3, (I x3)), (15, (Bo o5))], [], 19⟩) (rd 2 [(10, (sS a0)), (11, (I x3))] rfl rfl <| rp rfl (p_index (e := V.str) rfl rfl rfl underlying22 rfl (by decide)) fun v4 => bind_end rfl) fun o5 => kcl rfl rfl (fun hc => ?_) fun hc => ?_
      · rw [hc]
        refine kr ⟨[(2, (Bo true))], [], 19⟩ rfl <| et k_lret <| et blk_ret <| et loop_ret <| et (hret _) ?_
        rfl
      · rw [hc]
        exact et k_lskip <| et blk_normal <| kl ⟨[(0, (sS a0)), (3, (I (Go.IntKind.wrap .i64 (x3 + 1))))], [], 19⟩ rfl <| et loop_normal <| ih (Go.IntKind.wrap .i64 (x3 + 1))
    · rw [hc]
      exact et k_exit <| et loop_exit <| hK0 x3
theorem law01_Large_ok (k : Nat) (a0 : (List Str)) : EV k 10 [(sS a0)] = (law01_Large k a0).map law01_Large_fin := by
  cases k with
  | zero => rfl
  | succ k =>
    unfold law01_Large
    refine et (evF_succ (c := f10c) (N := 19) (regs := f10n) rfl func10 rfl (by decide) rfl rfl rfl) <| kra [] rfl <| et k_assoc <| kra [(3, (I 0))] rfl <| et (k_block rfl) <| et k_loop ?_
    refine law01_Large_L1_ok k a0 _ _ ?h_law01_Large_L1_0 ?hr_law01_Large_L1 k 0
    · intro y6
      refine et blk_exit <| krp f10a6 rfl ⟨[(2, (Bo (decide ((a0.length : Int) > 300))))], [], 19⟩ ?_ ?_
      · exact rd 1 [(16, (sS a0))] rfl rfl <| rl rfl (p_len (e := V.str) rfl rfl rfl rfl rfl rfl underlying22) <| bind_end rfl
      refine et k_lret ?_
      rfl
    · intro s; exact rfl
def octet_Text_fin : ((List Int) × Int) → V × List V := fun r => (.tup [(V.sl 0 1 (List.map (V.int .u8) r.1)), (I r.2)], [])
theorem octet_Text_ok (k : Nat) (a0 : Str) : EV k 19 [(Sr a0)] = (octet_Text k a0).map octet_Text_fin := by
  cases k with
  | zero => rfl
  | succ k =>
    unfold octet_Text
    refine et (evF_succ (c := f19c) (N := 13) (regs := f19n) rfl func19 rfl (by decide) rfl rfl rfl) <| kra [] rfl <| et k_assoc <| kra [(6, (Bo (decide ((a0.length : Int) > 255))))] rfl <| kc rfl rfl (fun hc => ?_) fun hc => ?_
    · rw [hc]
      refine et k_assoc <| kr ⟨[(2, (V.sl 0 1 (List.map (V.int .u8) ([] : List Int)))), (3, (I 2))], [], 13⟩ rfl <| et k_ret ?_
      rfl
    · rw [hc]
      refine et k_skip <| kg f19a3 rfl (fun (o2 : (List Int) × Int) => ⟨[(2, (V.sl 0 1 (List.map (V.int .u8) o2.1))), (3, (I o2.2))], [], 13⟩) (rd 5 [(7, (Sr a0)), (8, (I (a0.length : Int))), (9, (V.int .u8 (Go.IntKind.wrap .u8 (a0.length : Int)))), (10, (V.sl 1 1 (List.map (V.int .u8) ([(Go.IntKind.wrap .u8 (a0.length : Int))] : List Int)))), (11, (Sr a0))] rfl rfl <| et (reg_eff (x := (app ([(Go.IntKind.wrap .u8 (a0.length : Int))] : List Int) (bytesB a0))) (w := fun v1 => ((V.sl 1 1 (List.map (V.int .u8) v1)), _)) rfl rfl rfl rfl (p_appS rfl rfl rfl rfl rfl rfl rfl rfl rfl rfl (by decide))) <| bindE fun v1 => bind_end rfl) fun o2 => et k_lret ?_
      rfl
def octet_Number_fin : ((List Int) × Int) → V × List V := fun r => (.tup [(V.sl 0 1 (List.map (V.int .u8) r.1)), (I r.2)], [])
theorem octet_Number_ok (k : Nat) (a0 : Int) : EV k 17 [(I a0)] = (octet_Number k a0).map octet_Number_fin := by
  cases k with
  | zero => rfl
  | succ k =>
    unfold octet_Number
    refine et (evF_succ (c := f17c) (N := 22) (regs := f17n) rfl func17 rfl (by decide) rfl rfl rfl) <| kra [] rfl <| et k_assoc <| kga f17a1 rfl (fun (o1 : Bool) => [(9, (Bo o1))]) ?_ fun o1 => ?_
    · refine rd 3 [(4, (I a0)), (5, (Bo (decide (a0 < 0)))), (6, (Bo (decide (a0 < 0))))] rfl rfl <| bifE (fun hc => ?_) fun hc => ?_
      · rw [hc]
        exact reg_end rfl
      · rw [hc]
        exact reg_end rfl
    refine kc rfl rfl (fun hc => ?_) fun hc => ?_
    · rw [hc]
      refine et k_assoc <| kr ⟨[(2, (V.sl 0 1 (List.map (V.int .u8) ([] : List Int)))), (3, (I 2))], [], 22⟩ rfl <| et k_ret ?_
      rfl
    · rw [hc]
      refine et k_skip <| kg f17a3 rfl (fun (o5 : (List Int) × Int) => ⟨[(2, (V.sl 0 1 (List.map (V.int .u8) o5.1))), (3, (I o5.2))], [], 22⟩) (rd 1 [(10, (I a0))] rfl rfl <| rp rfl (p_shr rfl rfl rfl) fun v2 => bd 4 [(11, (I v2)), (12, (V.int .u8 (Go.IntKind.wrap .u8 v2))), (13, (I a0))] rfl rfl <| rp rfl (p_shr rfl rfl rfl) fun v3 => bd 7 [(14, (I v3)), (15, (V.int .u8 (Go.IntKind.wrap .u8 v3))), (16, (I a0))] rfl rfl <| rp rfl (p_shr rfl rfl rfl) fun v4 => bind_end rfl) fun o5 => et k_lret ?_
      rfl
def strconv_Itoa_fin : Str → V × List V := fun r => (Sr r, [])
theorem strconv_Itoa_ok (k : Nat) (n : Int) : EV k 57 [(I n)] = (strconv_Itoa k n).map strconv_Itoa_fin := by
  cases k with
  | zero => rfl
  | succ k => exact (evF_ext (ext := ext) (f := 57) rfl).trans rfl
def strings_Repeat_fin : Str → V × List V := fun r => ((Sr r), [])
theorem strings_Repeat_ok (k : Nat) (s : Str) (n : Int) : EV k 55 [(Sr s), (I n)] = (strings_Repeat k s n).map strings_Repeat_fin := by
  cases k with
  | zero => rfl
  | succ k => exact (evF_ext (ext := ext) (f := 55) rfl).trans rfl
def octet_Digits_fin : (Str × Int) → V × List V := fun r => (.tup [(Sr r.1), (I r.2)], [])
theorem octet_Digits_ok (k : Nat) (a0 : Int) (a1 : Int) : EV k 46 [(I a0), (I a1)] = (octet_Digits k a0 a1).map octet_Digits_fin := by
  cases k with
  | zero => rfl
  | succ k =>
    unfold octet_Digits
    refine et (evF_succ (c := f46c) (N := 32) (regs := f46n) rfl func46 rfl (by decide) rfl rfl rfl) <| kra [] rfl <| kga f46a1 rfl (fun (o2 : Str) => [(6, (Sr o2))]) (rd 1 [(7, (I a0))] rfl rfl <| rs rfl (p_call rfl rfl rfl rfl rfl (strconv_Itoa_ok k a0) (.inl rfl)) fun v1 => bind_end rfl) fun o2 => et k_assoc <| kg f46a2 rfl (fun (o3 : Bool) => ⟨[(1, (I a1)), (6, (Sr o2)), (24, (Bo o3))], [], 32⟩) ?_ fun o3 => ?_
    · refine rd 3 [(9, (I a0)), (10, (Bo (decide (a0 < 0)))), (11, (Bo (decide (a0 < 0))))] rfl rfl <| bifE (fun hc => ?_) fun hc => ?_
      · rw [hc]
        exact reg_end rfl
      · rw [hc]
        refine rd 7 [(12, (I a1)), (13, (Bo (decide (a1 < 1)))), (14, (Bo (decide (a1 < 1)))), (15, (Bo (decide (a1 < 1))))] rfl rfl <| bifE (fun hc => ?_) fun hc => ?_
        · rw [hc]
          exact reg_end rfl
        · rw [hc]
          refine rd 11 [(16, (I a1)), (17, (Bo (decide (a1 > 9)))), (18, (Bo (decide (a1 > 9)))), (19, (Bo (decide (a1 > 9))))] rfl rfl <| bifE (fun hc => ?_) fun hc => ?_
          · rw [hc]
            exact reg_end rfl
          · rw [hc]
            exact reg_end rfl
    refine kc rfl rfl (fun hc => ?_) fun hc => ?_
    · rw [hc]
      refine et k_assoc <| kr ⟨[(4, (Sr ([] : Str))), (5, (I 2))], [], 32⟩ rfl <| et k_ret ?_
      rfl
    · rw [hc]
      refine et k_skip <| kg f46a4 rfl (fun (o6 : Str × Int) => ⟨[(4, (Sr o6.1)), (5, (I o6.2))], [], 32⟩) (rd 4 [(25, (I a1)), (26, (Sr o2)), (27, (I (o2.length : Int))), (28, (I (Go.IntKind.wrap .i64 (a1 - (o2.length : Int)))))] rfl rfl <| rp rfl (p_call rfl rfl rfl rfl rfl (strings_Repeat_ok k ([48] : Str) (Go.IntKind.wrap .i64 (a1 - (o2.length : Int)))) (.inl rfl)) fun v4 => bd 6 [(29, (Sr v4)), (30, (Sr o2))] rfl rfl <| rp rfl (p_cat rfl rfl rfl) fun v5 => bind_end rfl) fun o6 => et k_lret ?_
      rfl
def octet_Pad_fin : (Str × Int) → V × List V := fun r => (.tup [(Sr r.1), (I r.2)], [])
theorem octet_Pad_ok (k : Nat) (a0 : Str) (a1 : Int) : EV k 40 [(Sr a0), (I a1)] = (octet_Pad k a0 a1).map octet_Pad_fin := by
  cases k with
  | zero => rfl
  | succ k =>
    unfold octet_Pad
    refine et (evF_succ (c := f40c) (N := 21) (regs := f40n) rfl func40 rfl (by decide) rfl rfl rfl) <| kra [] rfl <| et k_assoc <| kga f40a1 rfl (fun (o1 : Bool) => [(13, (Bo o1))]) ?_ fun o1 => ?_
    · refine rd 5 [(6, (I a1)), (7, (Sr a0)), (8, (I (a0.length : Int))), (9, (Bo (decide (a1 < (a0.length : Int))))), (10, (Bo (decide (a1 < (a0.length : Int)))))] rfl rfl <| bifE (fun hc => ?_) fun hc => ?_
      · rw [hc]
        exact reg_end rfl
      · rw [hc]
        exact reg_end rfl
    refine kc rfl rfl (fun hc => ?_) fun hc => ?_
    · rw [hc]
      refine et k_assoc <| kr ⟨[(4, (Sr ([] : Str))), (5, (I 2))], [], 21⟩ rfl <| et k_ret ?_
      rfl
    · rw [hc]
      refine et k_skip <| kg f40a3 rfl (fun (o4 : Str × Int) => ⟨[(4, (Sr o4.1)), (5, (I o4.2))], [], 21⟩) (rd 5 [(14, (Sr a0)), (15, (I a1)), (16, (Sr a0)), (17, (I (a0.length : Int))), (18, (I (Go.IntKind.wrap .i64 (a1 - (a0.length : Int)))))] rfl rfl <| rp rfl (p_call rfl rfl rfl rfl rfl (strings_Repeat_ok k ([32] : Str) (Go.IntKind.wrap .i64 (a1 - (a0.length : Int)))) (.inl rfl)) fun v2 => bd 6 [(19, (Sr v2))] rfl rfl <| rp rfl (p_cat rfl rfl rfl) fun v3 => bind_end rfl) fun o4 => et k_lret ?_
      rfl
def strings_ReplaceAll_fin : Str → V × List V := fun r => (Sr r, [])
theorem strings_ReplaceAll_ok (k : Nat) (s o n : Str) : EV k 49 [(Sr s), (Sr o), (Sr n)] = (strings_ReplaceAll k s o n).map strings_ReplaceAll_fin := by
  cases k with
  | zero => rfl
  | succ k => exact (evF_ext (ext := ext) (f := 49) rfl).trans rfl
def octet_Key_fin : (List Int) → V × List V := fun r => ((V.sl 0 1 (List.map (V.int .u8) r)), [])
theorem octet_Key_L1_ok (k : Nat) (a0 : (List Str))  (K0 : (List Int) → Int → Option (List Int)) (Kst : X × St → Option (V × List V)) (hK0 : ∀ (y0 : (List Int)) (y1 : Int), Kst (X.exit 0, ⟨[(3, (V.sl 1 1 (List.map (V.int .u8) y0))), (6, (sS a0)), (7, (I (a0.length : Int))), (8, (I y1)), (9, (Bo false))], [], 21⟩) = (K0 y0 y1).map octet_Key_fin) (hret : ∀ s, Kst (X.ret, s) = endK prog 21 [(sS a0)] [] [.tmp 2] (X.ret, s)) :
    ∀ (m : Nat) (x8 : (List Int)) (x9 : Int), (iter (exec prog (EV k) f14n k f14b0) m ⟨[(3, (V.sl 1 1 (List.map (V.int .u8) x8))), (6, (sS a0)), (7, (I (a0.length : Int))), (8, (I x9))], [], 21⟩).bind Kst = (octet_Key_L1 k a0 K0 m x8 x9).map octet_Key_fin := by
  intro m
  induction m with
  | zero => intros; rfl
  | succ m ih =>
    intro x8 x9
    unfold octet_Key_L1
    refine et k_round <| kra [(9, (Bo (decide (x9 < (a0.length : Int)))))] rfl <| kc rfl rfl (fun hc => ?_) fun hc => ?_
    · rw [hc]
      exact et k_skip <| et (k_block rfl) <| kg f14a4 rfl (fun (o11 : Str) => ⟨[(3, (V.sl 1 1 (List.map (V.int .u8) x8))), (5, (Sr o11)), (6, (sS a0)), (7, (I (a0.length : Int))), (8, (I x9))], [], 21⟩) (rs rfl (p_index (e := V.str) rfl rfl rfl underlying22 rfl (by decide)) fun v10 => bind_end rfl) fun o11 => kg f14a5 rfl (fun (o14 : (List Int)) => ⟨[(3, (V.sl 1 1 (List.map (V.int .u8) o14))), (6, (sS a0)), (7, (I (a0.length : Int))), (8, (I x9))], [], 21⟩) (ra 2 2 ⟨[(3, (V.sl 0 1 (List.map (V.int .u8) x8))), (5, (Sr o11)), (6, (sS a0)), (7, (I (a0.length : Int))), (8, (I x9)), (12, (V.sl 1 1 (List.map (V.int .u8) x8))), (13, (Sr o11))], [], 21⟩ rfl rfl rfl <| rp rfl (p_call rfl rfl rfl rfl rfl (strings_ReplaceAll_ok k o11 ([0] : Str) ([0, 255] : Str)) (.inl rfl)) fun v12 => bd 3 [(14, (Sr v12))] rfl rfl <| et (reg_eff (x := (app x8 (bytesB v12))) (w := fun v13 => ((V.sl 1 1 (List.map (V.int .u8) v13)), _)) rfl rfl rfl rfl (p_appS rfl rfl rfl rfl rfl rfl rfl rfl rfl rfl (by decide))) <| bind_self fun v13 => bind_end rfl) fun o14 => kgl f14a6 rfl (fun (o16 : (List Int)) => ⟨[(3, (V.sl 1 1 (List.map (V.int .u8) o16))), (6, (sS a0)), (7, (I (a0.length : Int))), (8, (I x9))], [], 21⟩) (ra 2 2 ⟨[(3, (V.sl 0 1 (List.map (V.int .u8) o14))), (6, (sS a0)), (7, (I (a0.length : Int))), (8, (I x9)), (16, (V.sl 1 1 (List.map (V.int .u8) o14))), (17, (V.sl 0 1 (List.map (V.int .u8) ([0, 1] : List Int))))], [], 21⟩ rfl rfl rfl <| et (reg_eff (x := (app o14 ([0, 1] : List Int))) (w := fun v15 => ((V.sl 1 1 (List.map (V.int .u8) v15)), _)) rfl rfl rfl rfl (p_app (e := (V.int .u8)) rfl rfl rfl rfl rfl rfl rfl rfl rfl rfl (by decide))) <| bind_self fun v15 => bind_end rfl) fun o16 => et blk_normal <| kl ⟨[(3, (V.sl 1 1 (List.map (V.int .u8) o16))), (6, (sS a0)), (7, (I (a0.length : Int))), (8, (I (Go.IntKind.wrap .i64 (x9 + 1))))], [], 21⟩ rfl <| et loop_normal <| ih o16 (Go.IntKind.wrap .i64 (x9 + 1))
    · rw [hc]
      exact et k_exit <| et loop_exit <| hK0 x8 x9
theorem octet_Key_ok (k : Nat) (a0 : (List Str)) : EV k 14 [(sS a0)] = (octet_Key k a0).map octet_Key_fin := by
  cases k with
  | zero => rfl
  | succ k =>
    unfold octet_Key
    refine et (evF_succ (c := f14c) (N := 21) (regs := f14n) rfl func14 rfl (by decide) rfl rfl rfl) <| kra [] rfl <| kra [(3, (V.sl 1 1 (List.map (V.int .u8) ([] : List Int))))] rfl <| et k_assoc <| krp f14a2 rfl ⟨[(3, (V.sl 1 1 (List.map (V.int .u8) ([] : List Int)))), (6, (sS a0)), (7, (I (a0.length : Int))), (8, (I 0))], [], 21⟩ ?_ ?_
    · exact rd 1 [(6, (sS a0))] rfl rfl <| rl rfl (p_len (e := V.str) rfl rfl rfl rfl rfl rfl underlying22) <| bind_end rfl
    refine et (k_block rfl) <| et k_loop ?_
    refine octet_Key_L1_ok k a0 _ _ ?h_octet_Key_L1_0 ?hr_octet_Key_L1 k ([] : List Int) 0
    · intro y17 y18
      refine et blk_exit <| kr ⟨[(2, (V.sl 0 1 (List.map (V.int .u8) y17)))], [], 21⟩ rfl <| et k_lret ?_
      rfl
    · intro s; exact rfl
def law01_First_fin : Bool → V × List V := fun r => ((Bo r), [])
theorem law01_First_clo0 : EV 0 11 [] = none := by kernel_rfl
theorem law01_First_clo1 : EV 1 11 [] = none := by kernel_rfl
theorem law01_First_clo2 : EV 2 11 [] = none := by kernel_rfl
theorem law01_First_clo3 : EV 3 11 [] = none := by kernel_rfl
theorem law01_First_clo4 : EV 4 11 [] = none := by kernel_rfl
theorem law01_First_clo (k : Nat) : EV (k + 5) 11 [] = some (Bo true, []) := by kernel_rfl
theorem law01_First_ok (k : Nat) : EV k 11 [] = (law01_First k).map law01_First_fin := by
  match k with
  | 0 => exact law01_First_clo0
  | 1 => exact law01_First_clo1
  | 2 => exact law01_First_clo2
  | 3 => exact law01_First_clo3
  | 4 => exact law01_First_clo4
  | k + 5 => exact law01_First_clo k
def ref01_Compare_fin : Int → V × List V := fun r => ((I r), [])
theorem ref01_Compare_L1_ok (k : Nat) (a0 : (List Int)) (a1 : (List Int))  (K0 : Int → Option Int) (Kst : X × St → Option (V × List V)) (hK0 : ∀ (y0 : Int), Kst (X.exit 0, ⟨[(0, (V.sl 0 1 (List.map (V.int .u8) a0))), (1, (V.sl 0 1 (List.map (V.int .u8) a1))), (5, (I y0)), (15, (Bo false))], [], 48⟩) = (K0 y0).map ref01_Compare_fin) (hret : ∀ s, Kst (X.ret, s) = endK prog 48 [(V.sl 0 1 (List.map (V.int .u8) a0)), (V.sl 0 1 (List.map (V.int .u8) a1))] [] [.tmp 4] (X.ret, s)) :
    ∀ (m : Nat) (x8 : Int), (iter (exec prog (EV k) f12n k f12b0) m ⟨[(0, (V.sl 0 1 (List.map (V.int .u8) a0))), (1, (V.sl 0 1 (List.map (V.int .u8) a1))), (5, (I x8))], [], 48⟩).bind Kst = (ref01_Compare_L1 a0 a1 K0 m x8).map ref01_Compare_fin := by
  intro m
  induction m with
  | zero => intros; rfl
  | succ m ih =>
    intro x8
    unfold ref01_Compare_L1
    refine et k_round <| et k_assoc <| kga f12a2 rfl (fun (o9 : Bool) => [(15, (Bo o9))]) ?_ fun o9 => ?_
    · refine rd 2 [(6, (I x8)), (7, (V.sl 0 1 (List.map (V.int .u8) a0)))] rfl rfl <| rl rfl (p_len (e := (V.int .u8)) rfl rfl rfl rfl rfl rfl underlying26) <| bd 5 [(8, (I (a0.length : Int))), (9, (Bo (decide (x8 < (a0.length : Int))))), (10, (Bo (decide (x8 < (a0.length : Int)))))] rfl rfl <| bifE (fun hc => ?_) fun hc => ?_
      · rw [hc]
        exact rd 7 [(11, (I x8)), (12, (V.sl 0 1 (List.map (V.int .u8) a1)))] rfl rfl <| rl rfl (p_len (e := (V.int .u8)) rfl rfl rfl rfl rfl rfl underlying26) <| bind_end rfl
      · rw [hc]
        exact reg_end rfl
    refine kc rfl rfl (fun hc => ?_) fun hc => ?_
    · rw [hc]
      refine et k_skip <| et (k_block rfl) <| kd f12a4 rfl (fun (o12 : Bool) => ⟨[(0, (V.sl 0 1 (List.map (V.int .u8) a0))), (1, (V.sl 0 1 (List.map (V.int .u8) a1))), (5, (I x8)), (26, (Bo o12))], [], 48⟩) (et (regionE_regp (p := 9) (dk := true) (t := [(0, (V.sl 0 1 (List.map (V.int .u8) a0))), (1, (V.sl 0 1 (List.map (V.int .u8) a1))), (5, (I x8)), (15, (Bo true))]) (σ := []) (n := 48) rfl (by decide) (by decide) rfl) <| et (regp_adv (m := 2) (j := 2) (t' := [(0, (V.sl 0 1 (List.map (V.int .u8) a0))), (1, (V.sl 0 1 (List.map (V.int .u8) a1))), (5, (I x8)), (15, (Bo true)), (18, (V.sl 0 1 (List.map (V.int .u8) a0))), (19, (I x8))]) rfl rfl rfl) <| et (regp_pure (x := (idx a0 x8)) (w := fun v10 => (Pr (V.int .u8 v10))) rfl rfl rfl rfl rfl (p_index (e := (V.int .u8)) rfl rfl rfl underlying26 rfl (by decide))) <| bindE fun v10 => et (putp_adv (m := 3) (j := 6) (t' := [(0, (V.sl 0 1 (List.map (V.int .u8) a0))), (1, (V.sl 0 1 (List.map (V.int .u8) a1))), (5, (I x8)), (15, (Bo true)), (18, (V.sl 0 1 (List.map (V.int .u8) a0))), (19, (I x8)), (20, (Pr (V.int .u8 v10))), (21, (V.int .u8 v10)), (22, (V.sl 0 1 (List.map (V.int .u8) a1))), (23, (I x8))]) rfl rfl rfl) <| et (regp_pure (x := (idx a1 x8)) (w := fun v11 => (Pr (V.int .u8 v11))) rfl rfl rfl rfl rfl (p_index (e := (V.int .u8)) rfl rfl rfl underlying26 rfl (by decide))) <| bindE fun v11 => regp_end rfl) fun o12 => kcl rfl rfl (fun hc => ?_) fun hc => ?_
      · rw [hc]
        refine et k_assoc <| kd f12a5 rfl (fun (o15 : Bool) => ⟨[(35, (Bo o15))], [], 48⟩) (et (regionE_regp (p := 9) (dk := true) (t := [(0, (V.sl 0 1 (List.map (V.int .u8) a0))), (1, (V.sl 0 1 (List.map (V.int .u8) a1))), (5, (I x8)), (26, (Bo true))]) (σ := []) (n := 48) rfl (by decide) (by decide) rfl) <| et (regp_adv (m := 2) (j := 2) (t' := [(0, (V.sl 0 1 (List.map (V.int .u8) a0))), (1, (V.sl 0 1 (List.map (V.int .u8) a1))), (5, (I x8)), (26, (Bo true)), (27, (V.sl 0 1 (List.map (V.int .u8) a0))), (28, (I x8))]) rfl rfl rfl) <| et (regp_pure (x := (idx a0 x8)) (w := fun v13 => (Pr (V.int .u8 v13))) rfl rfl rfl rfl rfl (p_index (e := (V.int .u8)) rfl rfl rfl underlying26 rfl (by decide))) <| bindE fun v13 => et (putp_adv (m := 3) (j := 6) (t' := [(0, (V.sl 0 1 (List.map (V.int .u8) a0))), (1, (V.sl 0 1 (List.map (V.int .u8) a1))), (5, (I x8)), (26, (Bo true)), (27, (V.sl 0 1 (List.map (V.int .u8) a0))), (28, (I x8)), (29, (Pr (V.int .u8 v13))), (30, (V.int .u8 v13)), (31, (V.sl 0 1 (List.map (V.int .u8) a1))), (32, (I x8))]) rfl rfl rfl) <| et (regp_pure (x := (idx a1 x8)) (w := fun v14 => (Pr (V.int .u8 v14))) rfl rfl rfl rfl rfl (p_index (e := (V.int .u8)) rfl rfl rfl underlying26 rfl (by decide))) <| bindE fun v14 => regp_end rfl) fun o15 => kc rfl rfl (fun hc => ?_) fun hc => ?_
        · rw [hc]
          refine et k_assoc <| kr ⟨[(4, (I (-1)))], [], 48⟩ rfl <| et k_ret <| et blk_ret <| et loop_ret <| et (hret _) ?_
          rfl
        · rw [hc]
          refine et k_skip <| kr ⟨[(4, (I 1))], [], 48⟩ rfl <| et k_lret <| et blk_ret <| et loop_ret <| et (hret _) ?_
          rfl
      · rw [hc]
        exact et k_lskip <| et blk_normal <| kl ⟨[(0, (V.sl 0 1 (List.map (V.int .u8) a0))), (1, (V.sl 0 1 (List.map (V.int .u8) a1))), (5, (I (Go.IntKind.wrap .i64 (x8 + 1))))], [], 48⟩ rfl <| et loop_normal <| ih (Go.IntKind.wrap .i64 (x8 + 1))
    · rw [hc]
      exact et k_exit <| et loop_exit <| hK0 x8
theorem ref01_Compare_ok (k : Nat) (a0 : (List Int)) (a1 : (List Int)) : EV k 12 [(V.sl 0 1 (List.map (V.int .u8) a0)), (V.sl 0 1 (List.map (V.int .u8) a1))] = (ref01_Compare k a0 a1).map ref01_Compare_fin := by
  cases k with
  | zero => rfl
  | succ k =>
    unfold ref01_Compare
    refine et (evF_succ (c := f12c) (N := 48) (regs := f12n) rfl func12 rfl (by decide) rfl rfl rfl) <| kra [] rfl <| et k_assoc <| kra [(5, (I 0))] rfl <| et (k_block rfl) <| et k_loop ?_
    refine ref01_Compare_L1_ok k a0 a1 _ _ ?h_ref01_Compare_L1_0 ?hr_ref01_Compare_L1 k 0
    · intro y16
      refine et blk_exit <| et (k_block rfl) <| krp f12a8 rfl ⟨[(0, (V.sl 0 1 (List.map (V.int .u8) a0))), (1, (V.sl 0 1 (List.map (V.int .u8) a1))), (36, (Bo (decide ((a0.length : Int) < (a1.length : Int)))))], [], 48⟩ ?_ ?_
      · exact rd 1 [(37, (V.sl 0 1 (List.map (V.int .u8) a0)))] rfl rfl <| rl rfl (p_len (e := (V.int .u8)) rfl rfl rfl rfl rfl rfl underlying26) <| bd 3 [(38, (I (a0.length : Int))), (39, (V.sl 0 1 (List.map (V.int .u8) a1)))] rfl rfl <| rl rfl (p_len (e := (V.int .u8)) rfl rfl rfl rfl rfl rfl underlying26) <| bind_end rfl
      refine kcl rfl rfl (fun hc => ?_) fun hc => ?_
      · rw [hc]
        refine kr ⟨[(4, (I (-1)))], [], 48⟩ rfl <| et k_lret <| et blk_ret ?_
        rfl
      · rw [hc]
        refine krp f12a10 rfl ⟨[(42, (Bo (decide ((a0.length : Int) > (a1.length : Int)))))], [], 48⟩ ?_ ?_
        · exact rd 1 [(43, (V.sl 0 1 (List.map (V.int .u8) a0)))] rfl rfl <| rl rfl (p_len (e := (V.int .u8)) rfl rfl rfl rfl rfl rfl underlying26) <| bd 3 [(44, (I (a0.length : Int))), (45, (V.sl 0 1 (List.map (V.int .u8) a1)))] rfl rfl <| rl rfl (p_len (e := (V.int .u8)) rfl rfl rfl rfl rfl rfl underlying26) <| bind_end rfl
        refine kcl rfl rfl (fun hc => ?_) fun hc => ?_
        · rw [hc]
          refine kr ⟨[(4, (I 1))], [], 48⟩ rfl <| et k_lret <| et blk_ret ?_
          rfl
        · rw [hc]
          refine et k_lskip <| et blk_normal <| kr ⟨[(4, (I 0))], [], 48⟩ rfl <| et k_lret ?_
          rfl
    · intro s; exact rfl
def bytes_Compare_fin : Int → V × List V := fun r => (I r, [])
theorem bytes_Compare_ok (k : Nat) (a b : List Int) : EV k 48 [(V.sl 0 1 (List.map (V.int .u8) a)), (V.sl 0 1 (List.map (V.int .u8) b))] = (bytes_Compare k a b).map bytes_Compare_fin := by
  cases k with
  | zero => rfl
  | succ k => exact (evF_ext (ext := ext) (f := 48) rfl).trans (extBCmp_map a b)
def octet_Compare_fin : Int → V × List V := fun r => ((I r), [])
theorem octet_Compare_ok (k : Nat) (a0 : (List Int)) (a1 : (List Int)) : EV k 13 [(V.sl 0 1 (List.map (V.int .u8) a0)), (V.sl 0 1 (List.map (V.int .u8) a1))] = (octet_Compare k a0 a1).map octet_Compare_fin := by
  cases k with
  | zero => rfl
  | succ k =>
    unfold octet_Compare
    refine et (evF_succ (c := f13c) (N := 8) (regs := f13n) rfl func13 rfl (by decide) rfl rfl rfl) <| kra [] rfl <| kg f13a1 rfl (fun (o2 : Int) => ⟨[(4, (I o2))], [], 8⟩) (rd 2 [(5, (V.sl 0 1 (List.map (V.int .u8) a0))), (6, (V.sl 0 1 (List.map (V.int .u8) a1)))] rfl rfl <| rs rfl (p_call rfl rfl rfl rfl rfl (bytes_Compare_ok k a0 a1) (.inl rfl)) fun v1 => bind_end rfl) fun o2 => et k_lret ?_
    rfl
def law01_OctetOrder_fin : Bool → V × List V := fun r => ((Bo r), [])
theorem law01_OctetOrder_L1_ok (k : Nat) (a0 : (List Str)) (a1 : (List Str))  (K0 : Int → Int → Option Bool) (Kst : X × St → Option (V × List V)) (hK0 : ∀ (y0 : Int) (y1 : Int), Kst (X.exit 0, ⟨[(0, (sS a0)), (1, (sS a1)), (5, (I y0)), (6, (I y1)), (27, (Bo false))], [], 82⟩) = (K0 y0 y1).map law01_OctetOrder_fin) (hret : ∀ s, Kst (X.ret, s) = endK prog 82 [(sS a0), (sS a1)] [] [.tmp 4] (X.ret, s)) :
    ∀ (m : Nat) (x15 : Int) (x16 : Int), (iter (exec prog (EV k) f3n k f3b0) m ⟨[(0, (sS a0)), (1, (sS a1)), (5, (I x15)), (6, (I x16))], [], 82⟩).bind Kst = (law01_OctetOrder_L1 k a0 a1 K0 m x15 x16).map law01_OctetOrder_fin := by
  intro m
  induction m with
  | zero => intros; rfl
  | succ m ih =>
    intro x15 x16
    unfold law01_OctetOrder_L1
    refine et k_round <| et k_assoc <| kga f3a5 rfl (fun (o17 : Bool) => [(27, (Bo o17))]) ?_ fun o17 => ?_
    · refine rd 2 [(14, (I x16)), (15, (sS a0))] rfl rfl <| rl rfl (p_len (e := V.str) rfl rfl rfl rfl rfl rfl underlying22) <| bd 5 [(16, (I (a0.length : Int))), (17, (Bo (decide (x16 < (a0.length : Int))))), (18, (Bo (decide (x16 < (a0.length : Int)))))] rfl rfl <| bifE (fun hc => ?_) fun hc => ?_
      · rw [hc]
        refine rd 7 [(19, (I x16)), (20, (sS a1))] rfl rfl <| rl rfl (p_len (e := V.str) rfl rfl rfl rfl rfl rfl underlying22) <| bd 11 [(21, (I (a1.length : Int))), (22, (Bo (decide (x16 < (a1.length : Int))))), (23, (Bo (decide (x16 < (a1.length : Int))))), (24, (Bo (decide (x16 < (a1.length : Int)))))] rfl rfl <| bifE (fun hc => ?_) fun hc => ?_
        · rw [hc]
          exact reg_end rfl
        · rw [hc]
          exact reg_end rfl
      · rw [hc]
        exact reg_end rfl
    refine kc rfl rfl (fun hc => ?_) fun hc => ?_
    · rw [hc]
      refine et k_skip <| et (k_block rfl) <| kd f3a7 rfl (fun (o21 : Int) => ⟨[(0, (sS a0)), (1, (sS a1)), (5, (I o21)), (6, (I x16))], [], 82⟩) (et (regionE_regp (p := 12) (dk := true) (t := [(0, (sS a0)), (1, (sS a1)), (6, (I x16)), (27, (Bo true))]) (σ := []) (n := 82) rfl (by decide) (by decide) rfl) <| et (regp_adv (m := 2) (j := 2) (t' := [(0, (sS a0)), (1, (sS a1)), (6, (I x16)), (27, (Bo true)), (30, (sS a0)), (31, (I x16))]) rfl rfl rfl) <| et (regp_pure (x := (idx a0 x16)) (w := fun v18 => (Pr (Sr v18))) rfl rfl rfl rfl rfl (p_index (e := V.str) rfl rfl rfl underlying22 rfl (by decide))) <| bindE fun v18 => et (putp_adv (m := 1) (j := 4) (t' := [(0, (sS a0)), (1, (sS a1)), (6, (I x16)), (27, (Bo true)), (30, (sS a0)), (31, (I x16)), (32, (Pr (Sr v18))), (33, (Sr v18))]) rfl rfl rfl) <| et (regp_pure (x := some ()) (w := fun _ => (V.sl 2 1 (List.map (V.int .u8) (Go.AE.bytesB v18)))) rfl rfl rfl rfl rfl (p_convSB (s := v18) rfl rfl underlying9 underlying26 underlying5)) <| et some_bind <| et (putp_adv (m := 2) (j := 7) (t' := [(0, (sS a0)), (1, (sS a1)), (6, (I x16)), (27, (Bo true)), (30, (sS a0)), (31, (I x16)), (32, (Pr (Sr v18))), (33, (Sr v18)), (34, (V.sl 0 1 (List.map (V.int .u8) (Go.AE.bytesB v18)))), (35, (sS a1)), (36, (I x16))]) rfl rfl rfl) <| et (regp_pure (x := (idx a1 x16)) (w := fun v19 => (Pr (Sr v19))) rfl rfl rfl rfl rfl (p_index (e := V.str) rfl rfl rfl underlying22 rfl (by decide))) <| bindE fun v19 => et (putp_adv (m := 1) (j := 9) (t' := [(0, (sS a0)), (1, (sS a1)), (6, (I x16)), (27, (Bo true)), (30, (sS a0)), (31, (I x16)), (32, (Pr (Sr v18))), (33, (Sr v18)), (34, (V.sl 0 1 (List.map (V.int .u8) (Go.AE.bytesB v18)))), (35, (sS a1)), (36, (I x16)), (37, (Pr (Sr v19))), (38, (Sr v19))]) rfl rfl rfl) <| et (regp_pure (x := some ()) (w := fun _ => (V.sl 2 1 (List.map (V.int .u8) (Go.AE.bytesB v19)))) rfl rfl rfl rfl rfl (p_convSB (s := v19) rfl rfl underlying9 underlying26 underlying5)) <| et some_bind <| et (putp_adv (m := 0) (j := 10) (t' := [(0, (sS a0)), (1, (sS a1)), (6, (I x16)), (27, (Bo true)), (30, (sS a0)), (31, (I x16)), (32, (Pr (Sr v18))), (33, (Sr v18)), (34, (V.sl 0 1 (List.map (V.int .u8) (Go.AE.bytesB v18)))), (35, (sS a1)), (36, (I x16)), (37, (Pr (Sr v19))), (38, (Sr v19)), (39, (V.sl 0 1 (List.map (V.int .u8) (Go.AE.bytesB v19))))]) rfl rfl rfl) <| et (regp_pure (x := (ref01_Compare k (Go.AE.bytesB v18) (Go.AE.bytesB v19))) (w := fun v20 => (I v20)) rfl rfl rfl rfl rfl (p_call rfl rfl rfl rfl rfl (ref01_Compare_ok k (Go.AE.bytesB v18) (Go.AE.bytesB v19)) (.inl rfl))) <| bind_self fun v20 => regp_end rfl) fun o21 => kd f3a8 rfl (fun (o25 : Bool) => ⟨[(0, (sS a0)), (1, (sS a1)), (5, (I o21)), (6, (I x16)), (53, (Bo o25))], [], 82⟩) (et (regionE_regp (p := 13) (dk := true) (t := [(0, (sS a0)), (1, (sS a1)), (5, (I o21)), (6, (I x16))]) (σ := []) (n := 82) rfl (by decide) (by decide) rfl) <| et (regp_adv (m := 2) (j := 2) (t' := [(0, (sS a0)), (1, (sS a1)), (5, (I o21)), (6, (I x16)), (41, (sS a0)), (42, (I x16))]) rfl rfl rfl) <| et (regp_pure (x := (idx a0 x16)) (w := fun v22 => (Pr (Sr v22))) rfl rfl rfl rfl rfl (p_index (e := V.str) rfl rfl rfl underlying22 rfl (by decide))) <| bindE fun v22 => et (putp_adv (m := 1) (j := 4) (t' := [(0, (sS a0)), (1, (sS a1)), (5, (I o21)), (6, (I x16)), (41, (sS a0)), (42, (I x16)), (43, (Pr (Sr v22))), (44, (Sr v22))]) rfl rfl rfl) <| et (regp_pure (x := some ()) (w := fun _ => (V.sl 2 1 (List.map (V.int .u8) (Go.AE.bytesB v22)))) rfl rfl rfl rfl rfl (p_convSB (s := v22) rfl rfl underlying9 underlying26 underlying5)) <| et some_bind <| et (putp_adv (m := 2) (j := 7) (t' := [(0, (sS a0)), (1, (sS a1)), (5, (I o21)), (6, (I x16)), (41, (sS a0)), (42, (I x16)), (43, (Pr (Sr v22))), (44, (Sr v22)), (45, (V.sl 0 1 (List.map (V.int .u8) (Go.AE.bytesB v22)))), (46, (sS a1)), (47, (I x16))]) rfl rfl rfl) <| et (regp_pure (x := (idx a1 x16)) (w := fun v23 => (Pr (Sr v23))) rfl rfl rfl rfl rfl (p_index (e := V.str) rfl rfl rfl underlying22 rfl (by decide))) <| bindE fun v23 => et (putp_adv (m := 1) (j := 9) (t' := [(0, (sS a0)), (1, (sS a1)), (5, (I o21)), (6, (I x16)), (41, (sS a0)), (42, (I x16)), (43, (Pr (Sr v22))), (44, (Sr v22)), (45, (V.sl 0 1 (List.map (V.int .u8) (Go.AE.bytesB v22)))), (46, (sS a1)), (47, (I x16)), (48, (Pr (Sr v23))), (49, (Sr v23))]) rfl rfl rfl) <| et (regp_pure (x := some ()) (w := fun _ => (V.sl 2 1 (List.map (V.int .u8) (Go.AE.bytesB v23)))) rfl rfl rfl rfl rfl (p_convSB (s := v23) rfl rfl underlying9 underlying26 underlying5)) <| et some_bind <| et (putp_adv (m := 0) (j := 10) (t' := [(0, (sS a0)), (1, (sS a1)), (5, (I o21)), (6, (I x16)), (41, (sS a0)), (42, (I x16)), (43, (Pr (Sr v22))), (44, (Sr v22)), (45, (V.sl 0 1 (List.map (V.int .u8) (Go.AE.bytesB v22)))), (46, (sS a1)), (47, (I x16)), (48, (Pr (Sr v23))), (49, (Sr v23)), (50, (V.sl 0 1 (List.map (V.int .u8) (Go.AE.bytesB v23))))]) rfl rfl rfl) <| et (regp_pure (x := (octet_Compare k (Go.AE.bytesB v22) (Go.AE.bytesB v23))) (w := fun v24 => (I v24)) rfl rfl rfl rfl rfl (p_call rfl rfl rfl rfl rfl (octet_Compare_ok k (Go.AE.bytesB v22) (Go.AE.bytesB v23)) (.inl rfl))) <| bindE fun v24 => regp_end rfl) fun o25 => kcl rfl rfl (fun hc => ?_) fun hc => ?_
      · rw [hc]
        refine kr ⟨[(4, (Bo false))], [], 82⟩ rfl <| et k_lret <| et blk_ret <| et loop_ret <| et (hret _) ?_
        rfl
      · rw [hc]
        exact et k_lskip <| et blk_normal <| kl ⟨[(0, (sS a0)), (1, (sS a1)), (5, (I o21)), (6, (I (Go.IntKind.wrap .i64 (x16 + 1))))], [], 82⟩ rfl <| et loop_normal <| ih o21 (Go.IntKind.wrap .i64 (x16 + 1))
    · rw [hc]
      exact et k_exit <| et loop_exit <| hK0 x15 x16
theorem law01_OctetOrder_ok (k : Nat) (a0 : (List Str)) (a1 : (List Str)) : EV k 3 [(sS a0), (sS a1)] = (law01_OctetOrder k a0 a1).map law01_OctetOrder_fin := by
  cases k with
  | zero => rfl
  | succ k =>
    unfold law01_OctetOrder
    refine et (evF_succ (c := f3c) (N := 82) (regs := f3n) rfl func3 rfl (by decide) rfl rfl rfl) <| kra [] rfl <| et k_assoc <| kga f3a1 rfl (fun (o3 : Bool) => [(12, (Bo o3))]) ?_ fun o3 => ?_
    · refine rd 1 [(7, (sS a0))] rfl rfl <| rp rfl (p_call rfl rfl rfl rfl rfl (law01_Large_ok k a0) (.inl rfl)) fun v1 => bd 3 [(8, (Bo v1)), (9, (Bo v1))] rfl rfl <| bifE (fun hc => ?_) fun hc => ?_
      · rw [hc]
        exact reg_end rfl
      · rw [hc]
        exact rd 4 [(10, (sS a1))] rfl rfl <| rs rfl (p_call rfl rfl rfl rfl rfl (law01_Large_ok k a1) (.inl rfl)) fun v2 => bind_end rfl
    refine kc rfl rfl (fun hc => ?_) fun hc => ?_
    · rw [hc]
      refine et k_assoc <| kg f3a2 rfl (fun (o5 : Bool) => ⟨[(4, (Bo o5))], [], 82⟩) (rs rfl (p_call rfl rfl rfl rfl rfl (law01_First_ok k) (.inl rfl)) fun v4 => bind_end rfl) fun o5 => et k_ret ?_
      rfl
    · rw [hc]
      refine et k_skip <| kr ⟨[(0, (sS a0)), (1, (sS a1)), (5, (I 0))], [], 82⟩ rfl <| et k_assoc <| kra [(6, (I 0))] rfl <| et (k_block rfl) <| et k_loop ?_
      refine law01_OctetOrder_L1_ok k a0 a1 _ _ ?h_law01_OctetOrder_L1_0 ?hr_law01_OctetOrder_L1 k 0 0
      · intro y26 y27
        refine et blk_exit <| et k_assoc <| kg f3a10 rfl (fun (o28 : Bool) => ⟨[(0, (sS a0)), (1, (sS a1)), (5, (I y26)), (62, (Bo o28))], [], 82⟩) ?_ fun o28 => ?_
        · refine rd 3 [(54, (I y26)), (55, (Bo (y26 == 0))), (56, (Bo (y26 == 0)))] rfl rfl <| bifE (fun hc => ?_) fun hc => ?_
          · rw [hc]
            exact rd 4 [(57, (sS a0))] rfl rfl <| rl rfl (p_len (e := V.str) rfl rfl rfl rfl rfl rfl underlying22) <| bd 6 [(58, (I (a0.length : Int))), (59, (sS a1))] rfl rfl <| rl rfl (p_len (e := V.str) rfl rfl rfl rfl rfl rfl underlying22) <| bind_end rfl
          · rw [hc]
            exact reg_end rfl
        refine kc rfl rfl (fun hc => ?_) fun hc => ?_
        · rw [hc]
          refine kr ⟨[(0, (sS a0)), (1, (sS a1)), (5, (I (-1)))], [], 82⟩ rfl <| et k_assoc <| kga f3a12 rfl (fun (o29 : Bool) => [(71, (Bo o29))]) ?_ fun o29 => ?_
          · refine rd 3 [(63, (I (-1))), (64, (Bo (((-1) : Int) == 0))), (65, (Bo (((-1) : Int) == 0)))] rfl rfl <| bifE (fun hc => ?_) fun hc => ?_
            · rw [hc]
              exact rd 4 [(66, (sS a0))] rfl rfl <| rl rfl (p_len (e := V.str) rfl rfl rfl rfl rfl rfl underlying22) <| bd 6 [(67, (I (a0.length : Int))), (68, (sS a1))] rfl rfl <| rl rfl (p_len (e := V.str) rfl rfl rfl rfl rfl rfl underlying22) <| bind_end rfl
            · rw [hc]
              exact reg_end rfl
          refine kc rfl rfl (fun hc => ?_) fun hc => ?_
          · rw [hc]
            refine kr ⟨[(0, (sS a0)), (1, (sS a1)), (5, (I 1))], [], 82⟩ rfl <| kg f3a14 rfl (fun (o34 : Bool) => ⟨[(4, (Bo o34))], [], 82⟩) ?_ fun o34 => ?_
            · refine rd 1 [(72, (sS a0))] rfl rfl <| rp rfl (p_call rfl rfl rfl rfl rfl (octet_Key_ok k a0) (.inl rfl)) fun v30 => bd 3 [(73, (V.sl 0 1 (List.map (V.int .u8) v30))), (74, (sS a1))] rfl rfl <| rp rfl (p_call rfl rfl rfl rfl rfl (octet_Key_ok k a1) (.inl rfl)) fun v31 => bd 4 [(75, (V.sl 0 1 (List.map (V.int .u8) v31)))] rfl rfl <| rp rfl (p_call rfl rfl rfl rfl rfl (octet_Compare_ok k v30 v31) (.inl rfl)) fun v32 => bd 8 [(76, (I v32)), (77, (I 1)), (78, (Bo (v32 == 1))), (79, (Bo (v32 == 1)))] rfl rfl <| bifE (fun hc => ?_) fun hc => ?_
              · rw [hc]
                exact rs rfl (p_call rfl rfl rfl rfl rfl (law01_First_ok k) (.inl rfl)) fun v33 => bind_end rfl
              · rw [hc]
                exact reg_end rfl
            refine et k_lret ?_
            rfl
          · rw [hc]
            refine et k_skip <| kg f3a14 rfl (fun (o39 : Bool) => ⟨[(4, (Bo o39))], [], 82⟩) ?_ fun o39 => ?_
            · refine rd 1 [(72, (sS a0))] rfl rfl <| rp rfl (p_call rfl rfl rfl rfl rfl (octet_Key_ok k a0) (.inl rfl)) fun v35 => bd 3 [(73, (V.sl 0 1 (List.map (V.int .u8) v35))), (74, (sS a1))] rfl rfl <| rp rfl (p_call rfl rfl rfl rfl rfl (octet_Key_ok k a1) (.inl rfl)) fun v36 => bd 4 [(75, (V.sl 0 1 (List.map (V.int .u8) v36)))] rfl rfl <| rp rfl (p_call rfl rfl rfl rfl rfl (octet_Compare_ok k v35 v36) (.inl rfl)) fun v37 => bd 8 [(76, (I v37)), (77, (I (-1))), (78, (Bo (v37 == (-1)))), (79, (Bo (v37 == (-1))))] rfl rfl <| bifE (fun hc => ?_) fun hc => ?_
              · rw [hc]
                exact rs rfl (p_call rfl rfl rfl rfl rfl (law01_First_ok k) (.inl rfl)) fun v38 => bind_end rfl
              · rw [hc]
                exact reg_end rfl
            refine et k_lret ?_
            rfl
        · rw [hc]
          refine et k_skip <| et k_assoc <| kg f3a12 rfl (fun (o40 : Bool) => ⟨[(0, (sS a0)), (1, (sS a1)), (5, (I y26)), (71, (Bo o40))], [], 82⟩) ?_ fun o40 => ?_
          · refine rd 3 [(63, (I y26)), (64, (Bo (y26 == 0))), (65, (Bo (y26 == 0)))] rfl rfl <| bifE (fun hc => ?_) fun hc => ?_
            · rw [hc]
              exact rd 4 [(66, (sS a0))] rfl rfl <| rl rfl (p_len (e := V.str) rfl rfl rfl rfl rfl rfl underlying22) <| bd 6 [(67, (I (a0.length : Int))), (68, (sS a1))] rfl rfl <| rl rfl (p_len (e := V.str) rfl rfl rfl rfl rfl rfl underlying22) <| bind_end rfl
            · rw [hc]
              exact reg_end rfl
          refine kc rfl rfl (fun hc => ?_) fun hc => ?_
          · rw [hc]
            refine kr ⟨[(0, (sS a0)), (1, (sS a1)), (5, (I 1))], [], 82⟩ rfl <| kg f3a14 rfl (fun (o41 : Bool) => ⟨[(4, (Bo o41))], [], 82⟩) ?_ fun o41 => ?_
            · refine rd 1 [(72, (sS a0))] rfl rfl <| rp rfl (p_call rfl rfl rfl rfl rfl (octet_Key_ok k a0) (.inl rfl)) fun v30 => bd 3 [(73, (V.sl 0 1 (List.map (V.int .u8) v30))), (74, (sS a1))] rfl rfl <| rp rfl (p_call rfl rfl rfl rfl rfl (octet_Key_ok k a1) (.inl rfl)) fun v31 => bd 4 [(75, (V.sl 0 1 (List.map (V.int .u8) v31)))] rfl rfl <| rp rfl (p_call rfl rfl rfl rfl rfl (octet_Compare_ok k v30 v31) (.inl rfl)) fun v32 => bd 8 [(76, (I v32)), (77, (I 1)), (78, (Bo (v32 == 1))), (79, (Bo (v32 == 1)))] rfl rfl <| bifE (fun hc => ?_) fun hc => ?_
              · rw [hc]
                exact rs rfl (p_call rfl rfl rfl rfl rfl (law01_First_ok k) (.inl rfl)) fun v33 => bind_end rfl
              · rw [hc]
                exact reg_end rfl
            refine et k_lret ?_
            rfl
          · rw [hc]
            refine et k_skip <| kg f3a14 rfl (fun (o46 : Bool) => ⟨[(4, (Bo o46))], [], 82⟩) ?_ fun o46 => ?_
            · refine rd 1 [(72, (sS a0))] rfl rfl <| rp rfl (p_call rfl rfl rfl rfl rfl (octet_Key_ok k a0) (.inl rfl)) fun v42 => bd 3 [(73, (V.sl 0 1 (List.map (V.int .u8) v42))), (74, (sS a1))] rfl rfl <| rp rfl (p_call rfl rfl rfl rfl rfl (octet_Key_ok k a1) (.inl rfl)) fun v43 => bd 4 [(75, (V.sl 0 1 (List.map (V.int .u8) v43)))] rfl rfl <| rp rfl (p_call rfl rfl rfl rfl rfl (octet_Compare_ok k v42 v43) (.inl rfl)) fun v44 => bd 8 [(76, (I v44)), (77, (I y26)), (78, (Bo (v44 == y26))), (79, (Bo (v44 == y26)))] rfl rfl <| bifE (fun hc => ?_) fun hc => ?_
              · rw [hc]
                exact rs rfl (p_call rfl rfl rfl rfl rfl (law01_First_ok k) (.inl rfl)) fun v45 => bind_end rfl
              · rw [hc]
                exact reg_end rfl
            refine et k_lret ?_
            rfl
      · intro s; exact rfl
end
end Go.AE
