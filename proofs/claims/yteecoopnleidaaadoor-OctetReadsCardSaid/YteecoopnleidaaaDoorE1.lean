/- The program, function by function: the evaluator comes to the typed functions. Conditions: none. -/
import Derived.Test.YteecoopnleidaaaDoorA3
import Derived.KernelRfl
import Derived.Test.YteecoopnleidaaaDoorProg
import Derived.Test.YteecoopnleidaaaDoorB1
namespace Go.AE
open Go.Proofs.Tryd Go.Sh
set_option linter.unusedSimpArgs false
set_option linter.unusedVariables false
set_option maxRecDepth 100000
set_option maxHeartbeats 4000000
noncomputable section
abbrev Pt (n : Nat) : V := .ptr n 0 0
abbrev Bo (b : Bool) : V := .bool b
abbrev Sr (s : Str) : V := .str s
abbrev Pr (v : V) : V := .pro v
abbrev sS (l : List Str) : V := .sl 0 1 (List.map V.str l)
abbrev vS (n : Nat) (v : V) : Site := ⟨false, n, [v]⟩
abbrev aL {α : Type} (d : Nat) (e : α → V) (l : List α) : V := .aref d 0 (List.map e l).length
def eReader (a : T_octet_Reader) : V := .agg [(V.bool a.fmade), (V.sl 0 1 (List.map (V.int .u8) a.fb)), (V.bool a.fbad)]
def eReader' (a : T_progenyref01_Reader) : V := .agg [(V.sl 0 1 (List.map (V.int .u8) a.fB)), (V.bool a.fBad)]
noncomputable def f19o0 : Array Oper := cO (cL (cB f19))
def f19a0 : RAnn := ⟨[2, 3], []⟩
noncomputable def f19o1 : Array Oper := cO (cL (cL (cR (cB f19))))
def f19a1 : RAnn := ⟨[4, 5], []⟩
noncomputable def f19o2 : Array Oper := cO (cL (cL (cR (cL (cR (cB f19))))))
def f19a2 : RAnn := ⟨[0, 6], []⟩
noncomputable def f19o3 : Array Oper := cO (cL (cR (cR (cB f19))))
def f19a3 : RAnn := ⟨[0, 6, 7, 8, 9, 10, 11, 12], [(3, { keep := [0] }), (5, { tk := [10] })]⟩
def f19c : Code := (.seq (.region 0 f19o0 false) (.seq (.seq (.region 1 f19o1 false) (.cond (.tmp 6) (.seq (.region 2 f19o2 false) .ret) .skip)) (.seq (.region 3 f19o3 false) .ret)))
def f19n : List (Nat × RAnn) := [(0, f19a0), (1, f19a1), (2, f19a2), (3, f19a3)]
noncomputable def f17o0 : Array Oper := cO (cL (cB f17))
def f17a0 : RAnn := ⟨[2, 3], []⟩
noncomputable def f17o1 : Array Oper := cO (cL (cL (cR (cB f17))))
def f17a1 : RAnn := ⟨[4, 5, 6, 7, 8], []⟩
noncomputable def f17o2 : Array Oper := cO (cL (cL (cR (cL (cR (cB f17))))))
def f17a2 : RAnn := ⟨[0, 9], []⟩
noncomputable def f17o3 : Array Oper := cO (cL (cR (cR (cB f17))))
def f17a3 : RAnn := ⟨[0, 9, 10, 11, 12, 13, 14, 15, 16, 17, 18, 19, 20, 21], []⟩
def f17c : Code := (.seq (.region 0 f17o0 false) (.seq (.seq (.region 1 f17o1 false) (.cond (.tmp 9) (.seq (.region 2 f17o2 false) .ret) .skip)) (.seq (.region 3 f17o3 false) .ret)))
def f17n : List (Nat × RAnn) := [(0, f17a0), (1, f17a1), (2, f17a2), (3, f17a3)]
noncomputable def f46o0 : Array Oper := cO (cL (cB f46))
def f46a0 : RAnn := ⟨[4, 5], []⟩
noncomputable def f46o1 : Array Oper := cO (cL (cR (cB f46)))
def f46a1 : RAnn := ⟨[7, 8], []⟩
noncomputable def f46o2 : Array Oper := cO (cL (cL (cR (cR (cB f46)))))
def f46a2 : RAnn := ⟨[0, 9, 10, 11, 12, 13, 14, 15, 16, 17, 18, 19, 20, 21, 22, 23], []⟩
noncomputable def f46o3 : Array Oper := cO (cL (cL (cR (cL (cR (cR (cB f46)))))))
def f46a3 : RAnn := ⟨[1, 6, 24], []⟩
noncomputable def f46o4 : Array Oper := cO (cL (cR (cR (cR (cB f46)))))
def f46a4 : RAnn := ⟨[1, 6, 24, 25, 26, 27, 28, 29, 30, 31], []⟩
def f46c : Code := (.seq (.region 0 f46o0 false) (.seq (.region 1 f46o1 false) (.seq (.seq (.region 2 f46o2 false) (.cond (.tmp 24) (.seq (.region 3 f46o3 false) .ret) .skip)) (.seq (.region 4 f46o4 false) .ret))))
def f46n : List (Nat × RAnn) := [(0, f46a0), (1, f46a1), (2, f46a2), (3, f46a3), (4, f46a4)]
noncomputable def f40o0 : Array Oper := cO (cL (cB f40))
def f40a0 : RAnn := ⟨[4, 5], []⟩
noncomputable def f40o1 : Array Oper := cO (cL (cL (cR (cB f40))))
def f40a1 : RAnn := ⟨[6, 7, 8, 9, 10, 11, 12], []⟩
noncomputable def f40o2 : Array Oper := cO (cL (cL (cR (cL (cR (cB f40))))))
def f40a2 : RAnn := ⟨[0, 1, 13], []⟩
noncomputable def f40o3 : Array Oper := cO (cL (cR (cR (cB f40))))
def f40a3 : RAnn := ⟨[0, 1, 13, 14, 15, 16, 17, 18, 19, 20], []⟩
def f40c : Code := (.seq (.region 0 f40o0 false) (.seq (.seq (.region 1 f40o1 false) (.cond (.tmp 13) (.seq (.region 2 f40o2 false) .ret) .skip)) (.seq (.region 3 f40o3 false) .ret)))
def f40n : List (Nat × RAnn) := [(0, f40a0), (1, f40a1), (2, f40a2), (3, f40a3)]
noncomputable def f14o0 : Array Oper := cO (cL (cB f14))
def f14a0 : RAnn := ⟨[2], []⟩
noncomputable def f14o1 : Array Oper := cO (cL (cR (cB f14)))
def f14a1 : RAnn := ⟨[], [(0, { keep := [0] })]⟩
noncomputable def f14o2 : Array Oper := cO (cL (cL (cR (cR (cB f14)))))
def f14a2 : RAnn := ⟨[0], []⟩
noncomputable def f14o3 : Array Oper := cO (cL (cL (cL (cR (cL (cR (cR (cB f14))))))))
def f14a3 : RAnn := ⟨[], []⟩
noncomputable def f14o4 : Array Oper := cO (cL (cL (cL (cR (cR (cL (cL (cR (cL (cR (cR (cB f14))))))))))))
def f14a4 : RAnn := ⟨[9, 10, 11], []⟩
noncomputable def f14o5 : Array Oper := cO (cL (cR (cL (cL (cR (cR (cL (cL (cR (cL (cR (cR (cB f14)))))))))))))
def f14a5 : RAnn := ⟨[5, 12, 13, 14, 15], [(0, { tk := [3], keep := [0] }), (3, { tk := [12], keep := [0] }), (4, { tk := [15], keep := [0] })]⟩
noncomputable def f14o6 : Array Oper := cO (cR (cR (cL (cL (cR (cR (cL (cL (cR (cL (cR (cR (cB f14)))))))))))))
def f14a6 : RAnn := ⟨[16, 17, 18], [(0, { tk := [3], keep := [0] }), (2, { tk := [16], keep := [0] }), (3, { tk := [18], keep := [0] })]⟩
noncomputable def f14o7 : Array Oper := cO (cR (cR (cR (cL (cL (cR (cL (cR (cR (cB f14))))))))))
def f14a7 : RAnn := ⟨[19], []⟩
noncomputable def f14o8 : Array Oper := cO (cL (cR (cR (cR (cB f14)))))
def f14a8 : RAnn := ⟨[3, 6, 7, 8, 9, 20], []⟩
def f14b0 : Code := (.seq (.region 3 f14o3 false) (.seq (.cond (.tmp 9) .skip (.exit 0)) (.seq (.block 1 (.seq (.region 4 f14o4 false) (.seq (.region 5 f14o5 false) (.region 6 f14o6 false)))) (.region 7 f14o7 false))))
def f14c : Code := (.seq (.region 0 f14o0 false) (.seq (.region 1 f14o1 false) (.seq (.seq (.region 2 f14o2 false) (.block 0 (.loop f14b0))) (.seq (.region 8 f14o8 false) .ret))))
def f14n : List (Nat × RAnn) := [(0, f14a0), (1, f14a1), (2, f14a2), (3, f14a3), (4, f14a4), (5, f14a5), (6, f14a6), (7, f14a7), (8, f14a8)]
noncomputable def f11o0 : Array Oper := cO (cL (cB f11))
def f11a0 : RAnn := ⟨[0], []⟩
noncomputable def f11o1 : Array Oper := cO (cL (cR (cB f11)))
def f11a1 : RAnn := ⟨[9, 10, 11, 12], []⟩
noncomputable def f11o2 : Array Oper := cO (cL (cR (cR (cB f11))))
def f11a2 : RAnn := ⟨[13, 14, 15, 16], []⟩
noncomputable def f11o3 : Array Oper := cO (cL (cR (cR (cR (cB f11)))))
def f11a3 : RAnn := ⟨[17, 18, 19, 20], []⟩
noncomputable def f11o4 : Array Oper := cO (cL (cR (cR (cR (cR (cB f11))))))
def f11a4 : RAnn := ⟨[21, 22, 23, 24], []⟩
noncomputable def f11o5 : Array Oper := cO (cL (cR (cR (cR (cR (cR (cB f11)))))))
def f11a5 : RAnn := ⟨[1, 2, 3, 4, 5, 6, 7, 8, 25, 26, 27, 28, 29, 30, 31, 32, 33, 34, 35, 36, 37, 38, 39, 40, 41, 42, 43, 44, 45, 46, 47, 48, 49, 50, 51, 52, 53, 54, 55, 56, 57, 58, 59, 60, 61, 62], []⟩
def f11c : Code := (.seq (.region 0 f11o0 false) (.seq (.region 1 f11o1 false) (.seq (.region 2 f11o2 false) (.seq (.region 3 f11o3 false) (.seq (.region 4 f11o4 false) (.seq (.region 5 f11o5 false) .ret))))))
def f11n : List (Nat × RAnn) := [(0, f11a0), (1, f11a1), (2, f11a2), (3, f11a3), (4, f11a4), (5, f11a5)]
noncomputable def f53o0 : Array Oper := cO (cL (cB f53))
def f53a0 : RAnn := ⟨[2], []⟩
noncomputable def f53o1 : Array Oper := cO (cL (cL (cR (cB f53))))
def f53a1 : RAnn := ⟨[3], []⟩
noncomputable def f53o2 : Array Oper := cO (cL (cL (cR (cL (cR (cB f53))))))
def f53a2 : RAnn := ⟨[], []⟩
noncomputable def f53o3 : Array Oper := cO (cL (cR (cR (cB f53))))
def f53a3 : RAnn := ⟨[0, 4, 5, 6, 7], [(0, { keep := [0] }), (2, { tk := [5] })]⟩
def f53c : Code := (.seq (.region 0 f53o0 false) (.seq (.seq (.region 1 f53o1 false) (.cond (.tmp 4) (.seq (.region 2 f53o2 false) .ret) .skip)) (.seq (.region 3 f53o3 false) .ret)))
def f53n : List (Nat × RAnn) := [(0, f53a0), (1, f53a1), (2, f53a2), (3, f53a3)]
noncomputable def f34o0 : Array Oper := cO (cL (cB f34))
def f34a0 : RAnn := ⟨[2], []⟩
noncomputable def f34o1 : Array Oper := cO (cL (cR (cB f34)))
def f34a1 : RAnn := ⟨[0, 3, 4, 5], []⟩
def f34c : Code := (.seq (.region 0 f34o0 false) (.seq (.region 1 f34o1 false) .ret))
def f34n : List (Nat × RAnn) := [(0, f34a0), (1, f34a1)]
noncomputable def f35o0 : Array Oper := cO (cL (cB f35))
def f35a0 : RAnn := ⟨[2], []⟩
noncomputable def f35o1 : Array Oper := cO (cL (cR (cB f35)))
def f35a1 : RAnn := ⟨[0, 3, 4, 5, 6], [(0, { keep := [0] }), (2, { tk := [3] })]⟩
def f35c : Code := (.seq (.region 0 f35o0 false) (.seq (.region 1 f35o1 false) .ret))
def f35n : List (Nat × RAnn) := [(0, f35a0), (1, f35a1)]
noncomputable def f52o0 : Array Oper := cO (cL (cB f52))
def f52a0 : RAnn := ⟨[2], []⟩
noncomputable def f52o1 : Array Oper := cO (cL (cR (cB f52)))
def f52a1 : RAnn := ⟨[0, 3, 4, 5, 6, 7, 8, 9, 10, 11], []⟩
def f52c : Code := (.seq (.region 0 f52o0 false) (.seq (.region 1 f52o1 false) .ret))
def f52n : List (Nat × RAnn) := [(0, f52a0), (1, f52a1)]
noncomputable def f51o0 : Array Oper := cO (cL (cB f51))
def f51a0 : RAnn := ⟨[4, 5], []⟩
noncomputable def f51o1 : Array Oper := cO (cL (cL (cL (cR (cB f51)))))
def f51a1 : RAnn := ⟨[8, 9], []⟩
noncomputable def f51o2 : Array Oper := cO (cL (cL (cR (cL (cL (cR (cB f51)))))))
def f51a2 : RAnn := ⟨[0, 1, 7], []⟩
noncomputable def f51o3 : Array Oper := cO (cL (cR (cR (cL (cL (cR (cB f51)))))))
def f51a3 : RAnn := ⟨[7, 11, 12, 13, 14, 15, 16, 17, 18, 19, 20, 21, 22, 23], []⟩
noncomputable def f51o4 : Array Oper := cO (cL (cL (cR (cR (cR (cL (cL (cR (cB f51)))))))))
def f51a4 : RAnn := ⟨[0, 1, 10, 24, 25, 26], []⟩
noncomputable def f51o5 : Array Oper := cO (cL (cR (cL (cR (cR (cR (cL (cL (cR (cB f51))))))))))
def f51a5 : RAnn := ⟨[], []⟩
noncomputable def f51o6 : Array Oper := cO (cL (cR (cR (cB f51))))
def f51a6 : RAnn := ⟨[10, 27, 28, 29, 30, 31, 32], []⟩
noncomputable def f51o7 : Array Oper := cO (cL (cR (cR (cR (cB f51)))))
def f51a7 : RAnn := ⟨[0, 1, 33, 34, 35, 36, 37, 38, 39, 40, 41], []⟩
noncomputable def f51o8 : Array Oper := cO (cL (cR (cR (cR (cR (cB f51))))))
def f51a8 : RAnn := ⟨[6, 42], []⟩
def f51c : Code := (.seq (.region 0 f51o0 false) (.seq (.block 0 (.seq (.region 1 f51o1 false) (.cond (.tmp 7) (.seq (.region 2 f51o2 false) .ret) (.seq (.region 3 f51o3 false) (.cond (.tmp 10) (.seq (.region 4 f51o4 false) (.seq (.region 5 f51o5 false) .ret)) .skip))))) (.seq (.region 6 f51o6 false) (.seq (.region 7 f51o7 false) (.seq (.region 8 f51o8 false) .ret)))))
def f51n : List (Nat × RAnn) := [(0, f51a0), (1, f51a1), (2, f51a2), (3, f51a3), (4, f51a4), (5, f51a5), (6, f51a6), (7, f51a7), (8, f51a8)]
noncomputable def f27o0 : Array Oper := cO (cL (cB f27))
def f27a0 : RAnn := ⟨[2, 3], []⟩
noncomputable def f27o1 : Array Oper := cO (cL (cR (cB f27)))
def f27a1 : RAnn := ⟨[0, 6, 7, 8, 9, 10], [(1, { eff := true })]⟩
noncomputable def f27o2 : Array Oper := cO (cL (cL (cR (cR (cB f27)))))
def f27a2 : RAnn := ⟨[11], []⟩
noncomputable def f27o3 : Array Oper := cO (cL (cL (cR (cL (cR (cR (cB f27)))))))
def f27a3 : RAnn := ⟨[4, 5, 12, 13], []⟩
noncomputable def f27o4 : Array Oper := cO (cL (cR (cR (cR (cB f27)))))
def f27a4 : RAnn := ⟨[4, 5, 12, 14, 15, 16, 17], []⟩
def f27c : Code := (.seq (.region 0 f27o0 false) (.seq (.region 1 f27o1 false) (.seq (.seq (.region 2 f27o2 false) (.cond (.tmp 12) (.seq (.region 3 f27o3 false) .ret) .skip)) (.seq (.region 4 f27o4 false) .ret))))
def f27n : List (Nat × RAnn) := [(0, f27a0), (1, f27a1), (2, f27a2), (3, f27a3), (4, f27a4)]
noncomputable def f54o0 : Array Oper := cO (cL (cB f54))
def f54a0 : RAnn := ⟨[4, 5], []⟩
noncomputable def f54o1 : Array Oper := cO (cL (cL (cR (cB f54))))
def f54a1 : RAnn := ⟨[7, 8, 9, 10, 11, 12, 13, 14, 15, 16, 17, 18], []⟩
noncomputable def f54o2 : Array Oper := cO (cL (cL (cR (cL (cR (cB f54))))))
def f54a2 : RAnn := ⟨[0, 1, 19, 20, 21, 22], []⟩
noncomputable def f54o3 : Array Oper := cO (cL (cR (cL (cR (cL (cR (cB f54)))))))
def f54a3 : RAnn := ⟨[], []⟩
noncomputable def f54o4 : Array Oper := cO (cL (cR (cR (cB f54))))
def f54a4 : RAnn := ⟨[19, 23, 24, 25, 26, 27, 28], []⟩
noncomputable def f54o5 : Array Oper := cO (cL (cR (cR (cR (cB f54)))))
def f54a5 : RAnn := ⟨[0, 1, 29, 30, 31, 32, 33, 34, 35, 36, 37], []⟩
noncomputable def f54o6 : Array Oper := cO (cL (cR (cR (cR (cR (cB f54))))))
def f54a6 : RAnn := ⟨[6, 38], []⟩
def f54c : Code := (.seq (.region 0 f54o0 false) (.seq (.seq (.region 1 f54o1 false) (.cond (.tmp 19) (.seq (.region 2 f54o2 false) (.seq (.region 3 f54o3 false) .ret)) .skip)) (.seq (.region 4 f54o4 false) (.seq (.region 5 f54o5 false) (.seq (.region 6 f54o6 false) .ret)))))
def f54n : List (Nat × RAnn) := [(0, f54a0), (1, f54a1), (2, f54a2), (3, f54a3), (4, f54a4), (5, f54a5), (6, f54a6)]
noncomputable def f36o0 : Array Oper := cO (cL (cB f36))
def f36a0 : RAnn := ⟨[2, 3], []⟩
noncomputable def f36o1 : Array Oper := cO (cL (cR (cB f36)))
def f36a1 : RAnn := ⟨[0, 6, 7, 8, 9, 10], [(1, { eff := true })]⟩
noncomputable def f36o2 : Array Oper := cO (cL (cL (cR (cR (cB f36)))))
def f36a2 : RAnn := ⟨[5, 11], []⟩
noncomputable def f36o3 : Array Oper := cO (cL (cL (cR (cL (cR (cR (cB f36)))))))
def f36a3 : RAnn := ⟨[4, 12], []⟩
noncomputable def f36o4 : Array Oper := cO (cL (cR (cR (cR (cB f36)))))
def f36a4 : RAnn := ⟨[4, 12, 13, 14, 15, 16], []⟩
def f36c : Code := (.seq (.region 0 f36o0 false) (.seq (.region 1 f36o1 false) (.seq (.seq (.region 2 f36o2 false) (.cond (.tmp 12) (.seq (.region 3 f36o3 false) .ret) .skip)) (.seq (.region 4 f36o4 false) .ret))))
def f36n : List (Nat × RAnn) := [(0, f36a0), (1, f36a1), (2, f36a2), (3, f36a3), (4, f36a4)]
noncomputable def f31o0 : Array Oper := cO (cL (cB f31))
def f31a0 : RAnn := ⟨[2], []⟩
noncomputable def f31o1 : Array Oper := cO (cL (cL (cR (cB f31))))
def f31a1 : RAnn := ⟨[3], []⟩
noncomputable def f31o2 : Array Oper := cO (cL (cL (cR (cL (cR (cB f31))))))
def f31a2 : RAnn := ⟨[0, 4], []⟩
noncomputable def f31o3 : Array Oper := cO (cL (cR (cR (cB f31))))
def f31a3 : RAnn := ⟨[0, 4, 5, 6, 7, 8, 9], []⟩
def f31c : Code := (.seq (.region 0 f31o0 false) (.seq (.seq (.region 1 f31o1 false) (.cond (.tmp 4) (.seq (.region 2 f31o2 false) .ret) .skip)) (.seq (.region 3 f31o3 false) .ret)))
def f31n : List (Nat × RAnn) := [(0, f31a0), (1, f31a1), (2, f31a2), (3, f31a3)]
noncomputable def f32o0 : Array Oper := cO (cL (cB f32))
def f32a0 : RAnn := ⟨[2], []⟩
noncomputable def f32o1 : Array Oper := cO (cL (cR (cB f32)))
def f32a1 : RAnn := ⟨[0, 3, 4, 5, 6, 7, 8, 9, 10], []⟩
def f32c : Code := (.seq (.region 0 f32o0 false) (.seq (.region 1 f32o1 false) .ret))
def f32n : List (Nat × RAnn) := [(0, f32a0), (1, f32a1)]
noncomputable def f33o0 : Array Oper := cO (cL (cB f33))
def f33a0 : RAnn := ⟨[2], []⟩
noncomputable def f33o1 : Array Oper := cO (cL (cR (cB f33)))
def f33a1 : RAnn := ⟨[0, 3, 4, 5, 6, 7, 8, 9, 10, 11, 12, 13], []⟩
def f33c : Code := (.seq (.region 0 f33o0 false) (.seq (.region 1 f33o1 false) .ret))
def f33n : List (Nat × RAnn) := [(0, f33a0), (1, f33a1)]
noncomputable def f28o0 : Array Oper := cO (cL (cB f28))
def f28a0 : RAnn := ⟨[2, 3], []⟩
noncomputable def f28o1 : Array Oper := cO (cL (cR (cB f28)))
def f28a1 : RAnn := ⟨[0, 9, 10, 11, 12, 13], [(1, { eff := true })]⟩
noncomputable def f28o2 : Array Oper := cO (cL (cL (cR (cR (cB f28)))))
def f28a2 : RAnn := ⟨[14], []⟩
noncomputable def f28o3 : Array Oper := cO (cL (cL (cR (cL (cR (cR (cB f28)))))))
def f28a3 : RAnn := ⟨[4, 5, 15, 16], []⟩
noncomputable def f28o4 : Array Oper := cO (cL (cR (cR (cR (cB f28)))))
def f28a4 : RAnn := ⟨[5, 15], []⟩
noncomputable def f28o5 : Array Oper := cO (cL (cL (cR (cR (cR (cR (cB f28)))))))
def f28a5 : RAnn := ⟨[4], []⟩
noncomputable def f28o6 : Array Oper := cO (cL (cL (cL (cR (cL (cR (cR (cR (cR (cB f28))))))))))
def f28a6 : RAnn := ⟨[], []⟩
noncomputable def f28o7 : Array Oper := cO (cL (cL (cL (cR (cR (cL (cL (cR (cL (cR (cR (cR (cR (cB f28))))))))))))))
def f28a7 : RAnn := ⟨[20, 21, 22], []⟩
noncomputable def f28o8 : Array Oper := cO (cR (cL (cL (cR (cR (cL (cL (cR (cL (cR (cR (cR (cR (cB f28))))))))))))))
def f28a8 : RAnn := ⟨[8, 23, 24, 25, 26, 27], []⟩
noncomputable def f28o9 : Array Oper := cO (cR (cR (cR (cL (cL (cR (cL (cR (cR (cR (cR (cB f28))))))))))))
def f28a9 : RAnn := ⟨[28], []⟩
noncomputable def f28o10 : Array Oper := cO (cL (cR (cR (cR (cR (cR (cB f28)))))))
def f28a10 : RAnn := ⟨[6, 17, 18, 19, 20, 29], []⟩
def f28b0 : Code := (.seq (.region 6 f28o6 false) (.seq (.cond (.tmp 20) .skip (.exit 0)) (.seq (.block 1 (.seq (.region 7 f28o7 false) (.region 8 f28o8 false))) (.region 9 f28o9 false))))
def f28c : Code := (.seq (.region 0 f28o0 false) (.seq (.region 1 f28o1 false) (.seq (.seq (.region 2 f28o2 false) (.cond (.tmp 15) (.seq (.region 3 f28o3 false) .ret) .skip)) (.seq (.region 4 f28o4 false) (.seq (.seq (.region 5 f28o5 false) (.block 0 (.loop f28b0))) (.seq (.region 10 f28o10 false) .ret))))))
def f28n : List (Nat × RAnn) := [(0, f28a0), (1, f28a1), (2, f28a2), (3, f28a3), (4, f28a4), (5, f28a5), (6, f28a6), (7, f28a7), (8, f28a8), (9, f28a9), (10, f28a10)]
noncomputable def f37o0 : Array Oper := cO (cL (cB f37))
def f37a0 : RAnn := ⟨[2, 3], []⟩
noncomputable def f37o1 : Array Oper := cO (cL (cR (cB f37)))
def f37a1 : RAnn := ⟨[0, 6, 7, 8, 9, 10], [(1, { eff := true })]⟩
noncomputable def f37o2 : Array Oper := cO (cL (cL (cR (cR (cB f37)))))
def f37a2 : RAnn := ⟨[5, 11], []⟩
noncomputable def f37o3 : Array Oper := cO (cL (cL (cR (cL (cR (cR (cB f37)))))))
def f37a3 : RAnn := ⟨[4, 12], []⟩
noncomputable def f37o4 : Array Oper := cO (cL (cR (cR (cR (cB f37)))))
def f37a4 : RAnn := ⟨[4, 12, 13, 14, 15, 16, 17, 18, 19, 20, 21, 22, 23, 24, 25, 26, 27, 28, 29, 30, 31, 32, 33, 34], []⟩
def f37c : Code := (.seq (.region 0 f37o0 false) (.seq (.region 1 f37o1 false) (.seq (.seq (.region 2 f37o2 false) (.cond (.tmp 12) (.seq (.region 3 f37o3 false) .ret) .skip)) (.seq (.region 4 f37o4 true) .ret))))
def f37n : List (Nat × RAnn) := [(0, f37a0), (1, f37a1), (2, f37a2), (3, f37a3), (4, f37a4)]
noncomputable def f29o0 : Array Oper := cO (cL (cB f29))
def f29a0 : RAnn := ⟨[2, 3], []⟩
noncomputable def f29o1 : Array Oper := cO (cL (cL (cR (cB f29))))
def f29a1 : RAnn := ⟨[9], []⟩
noncomputable def f29o2 : Array Oper := cO (cL (cL (cR (cL (cR (cB f29))))))
def f29a2 : RAnn := ⟨[0, 10], []⟩
noncomputable def f29o3 : Array Oper := cO (cL (cR (cR (cB f29))))
def f29a3 : RAnn := ⟨[10, 11, 12, 13, 14], []⟩
noncomputable def f29o4 : Array Oper := cO (cL (cR (cR (cR (cB f29)))))
def f29a4 : RAnn := ⟨[6, 15, 16, 17, 18, 19], [(1, { eff := true })]⟩
noncomputable def f29o5 : Array Oper := cO (cL (cR (cR (cR (cR (cB f29))))))
def f29a5 : RAnn := ⟨[5, 20, 21, 22, 23, 24, 25], [(2, { eff := true })]⟩
noncomputable def f29o6 : Array Oper := cO (cL (cL (cR (cR (cR (cR (cR (cB f29))))))))
def f29a6 : RAnn := ⟨[26], []⟩
noncomputable def f29o7 : Array Oper := cO (cL (cL (cR (cL (cR (cR (cR (cR (cR (cB f29))))))))))
def f29a7 : RAnn := ⟨[0, 4, 7, 27, 28, 29, 30, 31], []⟩
noncomputable def f29o8 : Array Oper := cO (cL (cR (cL (cR (cL (cR (cR (cR (cR (cR (cB f29)))))))))))
def f29a8 : RAnn := ⟨[8, 32], []⟩
noncomputable def f29o9 : Array Oper := cO (cL (cR (cR (cR (cR (cR (cR (cB f29))))))))
def f29a9 : RAnn := ⟨[0, 4, 7, 8, 27, 33, 34], []⟩
def f29c : Code := (.seq (.region 0 f29o0 false) (.seq (.seq (.region 1 f29o1 false) (.cond (.tmp 10) (.seq (.region 2 f29o2 false) .ret) .skip)) (.seq (.region 3 f29o3 false) (.seq (.region 4 f29o4 false) (.seq (.region 5 f29o5 false) (.seq (.seq (.region 6 f29o6 false) (.cond (.tmp 27) (.seq (.region 7 f29o7 false) (.seq (.region 8 f29o8 false) .ret)) .skip)) (.seq (.region 9 f29o9 false) .ret)))))))
def f29n : List (Nat × RAnn) := [(0, f29a0), (1, f29a1), (2, f29a2), (3, f29a3), (4, f29a4), (5, f29a5), (6, f29a6), (7, f29a7), (8, f29a8), (9, f29a9)]
noncomputable def f38o0 : Array Oper := cO (cL (cB f38))
def f38a0 : RAnn := ⟨[2, 3], []⟩
noncomputable def f38o1 : Array Oper := cO (cL (cL (cR (cB f38))))
def f38a1 : RAnn := ⟨[6, 7, 8, 9, 10, 11, 12, 13, 14, 15, 16, 17, 18, 19, 20, 21, 22, 23, 24, 25, 26, 27, 28, 29, 30, 31, 32], []⟩
noncomputable def f38o2 : Array Oper := cO (cL (cL (cR (cL (cR (cB f38))))))
def f38a2 : RAnn := ⟨[0, 33, 34, 35, 36], []⟩
noncomputable def f38o3 : Array Oper := cO (cL (cR (cL (cR (cL (cR (cB f38)))))))
def f38a3 : RAnn := ⟨[], []⟩
noncomputable def f38o4 : Array Oper := cO (cL (cR (cR (cB f38))))
def f38a4 : RAnn := ⟨[0, 5, 33, 37, 38, 39, 40, 41, 42, 43, 44, 45, 46, 47, 48, 49], [(9, { eff := true })]⟩
noncomputable def f38o5 : Array Oper := cO (cL (cR (cR (cR (cB f38)))))
def f38a5 : RAnn := ⟨[4, 50, 51, 52], []⟩
def f38c : Code := (.seq (.region 0 f38o0 false) (.seq (.seq (.region 1 f38o1 true) (.cond (.tmp 33) (.seq (.region 2 f38o2 false) (.seq (.region 3 f38o3 false) .ret)) .skip)) (.seq (.region 4 f38o4 false) (.seq (.region 5 f38o5 false) .ret))))
def f38n : List (Nat × RAnn) := [(0, f38a0), (1, f38a1), (2, f38a2), (3, f38a3), (4, f38a4), (5, f38a5)]
noncomputable def f30o0 : Array Oper := cO (cL (cB f30))
def f30a0 : RAnn := ⟨[2, 3], []⟩
noncomputable def f30o1 : Array Oper := cO (cL (cL (cR (cB f30))))
def f30a1 : RAnn := ⟨[10], []⟩
noncomputable def f30o2 : Array Oper := cO (cL (cL (cR (cL (cR (cB f30))))))
def f30a2 : RAnn := ⟨[0, 11], []⟩
noncomputable def f30o3 : Array Oper := cO (cL (cR (cR (cB f30))))
def f30a3 : RAnn := ⟨[11, 12, 13, 14, 15], []⟩
noncomputable def f30o4 : Array Oper := cO (cL (cR (cR (cR (cB f30)))))
def f30a4 : RAnn := ⟨[6, 16, 17, 18, 19, 20], [(1, { eff := true })]⟩
noncomputable def f30o5 : Array Oper := cO (cL (cR (cR (cR (cR (cB f30))))))
def f30a5 : RAnn := ⟨[], [(0, { keep := [0] })]⟩
noncomputable def f30o6 : Array Oper := cO (cL (cL (cR (cR (cR (cR (cR (cB f30))))))))
def f30a6 : RAnn := ⟨[5], []⟩
noncomputable def f30o7 : Array Oper := cO (cL (cL (cL (cR (cL (cR (cR (cR (cR (cR (cB f30)))))))))))
def f30a7 : RAnn := ⟨[], []⟩
noncomputable def f30o8 : Array Oper := cO (cL (cL (cL (cR (cR (cL (cL (cR (cL (cR (cR (cR (cR (cR (cB f30)))))))))))))))
def f30a8 : RAnn := ⟨[9, 23, 24, 25, 26, 27, 28], [(1, { eff := true })]⟩
noncomputable def f30o9 : Array Oper := cO (cR (cL (cL (cR (cR (cL (cL (cR (cL (cR (cR (cR (cR (cR (cB f30)))))))))))))))
def f30a9 : RAnn := ⟨[8, 29, 30, 31, 32], [(0, { tk := [7], keep := [0] }), (3, { tk := [29], keep := [0] }), (4, { tk := [32], keep := [0] })]⟩
noncomputable def f30o10 : Array Oper := cO (cR (cR (cR (cL (cL (cR (cL (cR (cR (cR (cR (cR (cB f30)))))))))))))
def f30a10 : RAnn := ⟨[33], []⟩
noncomputable def f30o11 : Array Oper := cO (cL (cL (cR (cR (cR (cR (cR (cR (cB f30)))))))))
def f30a11 : RAnn := ⟨[21, 22, 23, 34, 35, 36], []⟩
noncomputable def f30o12 : Array Oper := cO (cL (cL (cR (cL (cR (cR (cR (cR (cR (cR (cB f30)))))))))))
def f30a12 : RAnn := ⟨[0, 4, 7, 37, 38, 39, 40, 41], []⟩
noncomputable def f30o13 : Array Oper := cO (cL (cR (cL (cR (cL (cR (cR (cR (cR (cR (cR (cB f30))))))))))))
def f30a13 : RAnn := ⟨[], []⟩
noncomputable def f30o14 : Array Oper := cO (cL (cR (cR (cR (cR (cR (cR (cR (cB f30)))))))))
def f30a14 : RAnn := ⟨[0, 4, 7, 37, 42], []⟩
def f30b0 : Code := (.seq (.region 7 f30o7 false) (.seq (.cond (.tmp 23) .skip (.exit 0)) (.seq (.block 1 (.seq (.region 8 f30o8 false) (.region 9 f30o9 false))) (.region 10 f30o10 false))))
def f30c : Code := (.seq (.region 0 f30o0 false) (.seq (.seq (.region 1 f30o1 false) (.cond (.tmp 11) (.seq (.region 2 f30o2 false) .ret) .skip)) (.seq (.region 3 f30o3 false) (.seq (.region 4 f30o4 false) (.seq (.region 5 f30o5 false) (.seq (.seq (.region 6 f30o6 false) (.block 0 (.loop f30b0))) (.seq (.seq (.region 11 f30o11 false) (.cond (.tmp 37) (.seq (.region 12 f30o12 false) (.seq (.region 13 f30o13 false) .ret)) .skip)) (.seq (.region 14 f30o14 false) .ret))))))))
def f30n : List (Nat × RAnn) := [(0, f30a0), (1, f30a1), (2, f30a2), (3, f30a3), (4, f30a4), (5, f30a5), (6, f30a6), (7, f30a7), (8, f30a8), (9, f30a9), (10, f30a10), (11, f30a11), (12, f30a12), (13, f30a13), (14, f30a14)]
noncomputable def f39o0 : Array Oper := cO (cL (cB f39))
def f39a0 : RAnn := ⟨[2, 3], []⟩
noncomputable def f39o1 : Array Oper := cO (cL (cR (cB f39)))
def f39a1 : RAnn := ⟨[11, 12, 13, 14], []⟩
noncomputable def f39o2 : Array Oper := cO (cL (cR (cR (cB f39))))
def f39a2 : RAnn := ⟨[15, 16, 17, 18, 19], [(1, { eff := true })]⟩
noncomputable def f39o3 : Array Oper := cO (cL (cL (cR (cR (cR (cB f39))))))
def f39a3 : RAnn := ⟨[20], []⟩
noncomputable def f39o4 : Array Oper := cO (cL (cL (cR (cL (cR (cR (cR (cB f39))))))))
def f39a4 : RAnn := ⟨[0, 4, 5, 6, 21, 22], []⟩
noncomputable def f39o5 : Array Oper := cO (cL (cR (cR (cR (cR (cB f39))))))
def f39a5 : RAnn := ⟨[6, 21], [(0, { keep := [0] })]⟩
noncomputable def f39o6 : Array Oper := cO (cL (cL (cR (cR (cR (cR (cR (cB f39))))))))
def f39a6 : RAnn := ⟨[], []⟩
noncomputable def f39o7 : Array Oper := cO (cL (cL (cL (cL (cR (cL (cR (cR (cR (cR (cR (cB f39))))))))))))
def f39a7 : RAnn := ⟨[23, 24], []⟩
noncomputable def f39o8 : Array Oper := cO (cR (cR (cL (cL (cR (cL (cR (cR (cR (cR (cR (cB f39))))))))))))
def f39a8 : RAnn := ⟨[26, 27], []⟩
noncomputable def f39o9 : Array Oper := cO (cL (cL (cL (cR (cL (cL (cR (cL (cR (cR (cR (cR (cR (cB f39))))))))))))))
def f39a9 : RAnn := ⟨[25, 28, 29, 30, 31, 32], [(1, { eff := true })]⟩
noncomputable def f39o10 : Array Oper := cO (cL (cL (cR (cL (cL (cR (cL (cL (cR (cL (cR (cR (cR (cR (cR (cB f39))))))))))))))))
def f39a10 : RAnn := ⟨[33], []⟩
noncomputable def f39o11 : Array Oper := cO (cL (cL (cR (cL (cR (cL (cL (cR (cL (cL (cR (cL (cR (cR (cR (cR (cR (cB f39))))))))))))))))))
def f39a11 : RAnn := ⟨[0, 4, 5, 7, 8, 9, 34, 35, 36, 37, 38], []⟩
noncomputable def f39o12 : Array Oper := cO (cL (cR (cL (cR (cL (cR (cL (cL (cR (cL (cL (cR (cL (cR (cR (cR (cR (cR (cB f39)))))))))))))))))))
def f39a12 : RAnn := ⟨[10, 39], []⟩
noncomputable def f39o13 : Array Oper := cO (cR (cR (cL (cL (cR (cL (cL (cR (cL (cR (cR (cR (cR (cR (cB f39)))))))))))))))
def f39a13 : RAnn := ⟨[9, 10, 34, 40, 41, 42, 43], [(0, { tk := [7], keep := [0] }), (3, { tk := [40], keep := [0] }), (4, { tk := [43], keep := [0] })]⟩
noncomputable def f39o14 : Array Oper := cO (cL (cR (cR (cR (cR (cR (cR (cB f39))))))))
def f39a14 : RAnn := ⟨[0, 4, 5, 7, 8, 25, 44], []⟩
def f39b0 : Code := (.seq (.seq (.region 7 f39o7 false) (.cond (.tmp 25) .skip (.exit 0))) (.seq (.block 1 (.seq (.region 9 f39o9 false) (.seq (.seq (.region 10 f39o10 false) (.cond (.tmp 34) (.seq (.region 11 f39o11 false) (.seq (.region 12 f39o12 false) .ret)) .skip)) (.region 13 f39o13 false)))) (.region 8 f39o8 false)))
def f39c : Code := (.seq (.region 0 f39o0 false) (.seq (.region 1 f39o1 false) (.seq (.region 2 f39o2 false) (.seq (.seq (.region 3 f39o3 false) (.cond (.tmp 21) (.seq (.region 4 f39o4 false) .ret) .skip)) (.seq (.region 5 f39o5 false) (.seq (.seq (.region 6 f39o6 false) (.block 0 (.loop f39b0))) (.seq (.region 14 f39o14 false) .ret)))))))
def f39n : List (Nat × RAnn) := [(0, f39a0), (1, f39a1), (2, f39a2), (3, f39a3), (4, f39a4), (5, f39a5), (6, f39a6), (7, f39a7), (8, f39a8), (9, f39a9), (10, f39a10), (11, f39a11), (12, f39a12), (13, f39a13), (14, f39a14)]
noncomputable def f26o0 : Array Oper := cO (cL (cB f26))
def f26a0 : RAnn := ⟨[4], []⟩
noncomputable def f26o1 : Array Oper := cO (cL (cL (cR (cB f26))))
def f26a1 : RAnn := ⟨[6, 7, 8, 9], []⟩
noncomputable def f26o2 : Array Oper := cO (cL (cL (cR (cL (cR (cB f26))))))
def f26a2 : RAnn := ⟨[0, 1, 10], []⟩
noncomputable def f26o3 : Array Oper := cO (cL (cL (cR (cR (cB f26)))))
def f26a3 : RAnn := ⟨[10], []⟩
noncomputable def f26o4 : Array Oper := cO (cL (cL (cL (cL (cR (cL (cR (cR (cB f26)))))))))
def f26a4 : RAnn := ⟨[11, 12, 13], []⟩
noncomputable def f26o5 : Array Oper := cO (cR (cR (cL (cL (cR (cL (cR (cR (cB f26)))))))))
def f26a5 : RAnn := ⟨[15, 16, 25], []⟩
noncomputable def f26o6 : Array Oper := cO (cL (cL (cL (cR (cL (cL (cR (cL (cR (cR (cB f26)))))))))))
def f26a6 : RAnn := ⟨[14, 17, 18, 19, 20, 21, 22, 23, 24], []⟩
noncomputable def f26o7 : Array Oper := cO (cL (cL (cR (cL (cL (cR (cL (cL (cR (cL (cR (cR (cB f26)))))))))))))
def f26a7 : RAnn := ⟨[0, 1, 5, 25], []⟩
noncomputable def f26o8 : Array Oper := cO (cL (cR (cR (cR (cB f26)))))
def f26a8 : RAnn := ⟨[0, 1, 5, 14], []⟩
def f26b0 : Code := (.seq (.seq (.region 4 f26o4 false) (.cond (.tmp 14) .skip (.exit 0))) (.seq (.block 1 (.seq (.region 6 f26o6 true) (.cond (.tmp 25) (.seq (.region 7 f26o7 false) .ret) .skip))) (.region 5 f26o5 false)))
def f26c : Code := (.seq (.region 0 f26o0 false) (.seq (.seq (.region 1 f26o1 false) (.cond (.tmp 10) (.seq (.region 2 f26o2 false) .ret) .skip)) (.seq (.seq (.region 3 f26o3 false) (.block 0 (.loop f26b0))) (.seq (.region 8 f26o8 false) .ret))))
def f26n : List (Nat × RAnn) := [(0, f26a0), (1, f26a1), (2, f26a2), (3, f26a3), (4, f26a4), (5, f26a5), (6, f26a6), (7, f26a7), (8, f26a8)]
noncomputable def f7o0 : Array Oper := cO (cL (cB f7))
def f7a0 : RAnn := ⟨[4], []⟩
noncomputable def f7o1 : Array Oper := cO (cL (cL (cR (cB f7))))
def f7a1 : RAnn := ⟨[25, 26, 27, 28, 29, 30, 31], []⟩
noncomputable def f7o2 : Array Oper := cO (cL (cL (cR (cL (cR (cB f7))))))
def f7a2 : RAnn := ⟨[0, 1, 32, 33], []⟩
noncomputable def f7o3 : Array Oper := cO (cL (cR (cR (cB f7))))
def f7a3 : RAnn := ⟨[0, 32, 34, 36], []⟩
noncomputable def f7o4 : Array Oper := cO (cL (cL (cR (cR (cR (cB f7))))))
def f7a4 : RAnn := ⟨[], []⟩
noncomputable def f7o5 : Array Oper := cO (cL (cL (cL (cL (cR (cL (cR (cR (cR (cB f7))))))))))
def f7a5 : RAnn := ⟨[38, 39, 40], []⟩
noncomputable def f7o6 : Array Oper := cO (cR (cR (cL (cL (cR (cL (cR (cR (cR (cB f7))))))))))
def f7a6 : RAnn := ⟨[42, 43, 165], []⟩
noncomputable def f7o7 : Array Oper := cO (cL (cL (cL (cR (cL (cL (cR (cL (cR (cR (cR (cB f7))))))))))))
def f7a7 : RAnn := ⟨[8, 41], []⟩
noncomputable def f7o8 : Array Oper := cO (cL (cL (cR (cL (cL (cR (cL (cL (cR (cL (cR (cR (cR (cB f7))))))))))))))
def f7a8 : RAnn := ⟨[44, 45, 46, 47], []⟩
noncomputable def f7o9 : Array Oper := cO (cL (cR (cR (cR (cR (cR (cR (cL (cR (cL (cR (cL (cL (cR (cL (cL (cR (cL (cR (cR (cR (cB f7))))))))))))))))))))))
def f7a9 : RAnn := ⟨[49, 50, 51, 52, 53, 107], [(1, { eff := true })]⟩
noncomputable def f7o10 : Array Oper := cO (cL (cR (cR (cR (cR (cR (cR (cR (cL (cR (cL (cR (cL (cL (cR (cL (cL (cR (cL (cR (cR (cR (cB f7)))))))))))))))))))))))
def f7a10 : RAnn := ⟨[54, 55, 56, 57, 58], [(1, { eff := true })]⟩
noncomputable def f7o11 : Array Oper := cO (cR (cR (cR (cR (cR (cR (cR (cR (cL (cR (cL (cR (cL (cL (cR (cL (cL (cR (cL (cR (cR (cR (cB f7)))))))))))))))))))))))
def f7a11 : RAnn := ⟨[21, 22, 23, 24, 59, 60, 61, 62, 63, 64, 65, 66], []⟩
noncomputable def f7o12 : Array Oper := cO (cL (cL (cR (cL (cR (cL (cL (cR (cL (cL (cR (cL (cR (cR (cR (cB f7))))))))))))))))
def f7a12 : RAnn := ⟨[68], []⟩
noncomputable def f7o13 : Array Oper := cO (cL (cL (cR (cL (cR (cL (cR (cL (cL (cR (cL (cL (cR (cL (cR (cR (cR (cB f7))))))))))))))))))
def f7a13 : RAnn := ⟨[48, 67, 69, 70, 71, 72, 73], [(1, { eff := true })]⟩
noncomputable def f7o14 : Array Oper := cO (cL (cR (cL (cR (cL (cR (cL (cR (cL (cL (cR (cL (cL (cR (cL (cR (cR (cR (cB f7)))))))))))))))))))
def f7a14 : RAnn := ⟨[74, 75, 76, 77, 78], [(1, { eff := true })]⟩
noncomputable def f7o15 : Array Oper := cO (cR (cR (cL (cR (cL (cR (cL (cR (cL (cL (cR (cL (cL (cR (cL (cR (cR (cR (cB f7)))))))))))))))))))
def f7a15 : RAnn := ⟨[9, 10, 11, 12, 79, 80, 81, 82, 83, 84, 85, 86], []⟩
noncomputable def f7o16 : Array Oper := cO (cL (cR (cR (cL (cR (cL (cR (cL (cL (cR (cL (cL (cR (cL (cR (cR (cR (cB f7))))))))))))))))))
def f7a16 : RAnn := ⟨[67, 88], []⟩
noncomputable def f7o17 : Array Oper := cO (cL (cL (cR (cR (cR (cL (cR (cL (cR (cL (cL (cR (cL (cL (cR (cL (cR (cR (cR (cB f7))))))))))))))))))))
def f7a17 : RAnn := ⟨[48, 87, 89, 90, 91, 92, 93], [(1, { eff := true })]⟩
noncomputable def f7o18 : Array Oper := cO (cL (cR (cL (cR (cR (cR (cL (cR (cL (cR (cL (cL (cR (cL (cL (cR (cL (cR (cR (cR (cB f7)))))))))))))))))))))
def f7a18 : RAnn := ⟨[94, 95, 96, 97, 98], [(1, { eff := true })]⟩
noncomputable def f7o19 : Array Oper := cO (cR (cR (cL (cR (cR (cR (cL (cR (cL (cR (cL (cL (cR (cL (cL (cR (cL (cR (cR (cR (cB f7)))))))))))))))))))))
def f7a19 : RAnn := ⟨[13, 14, 15, 16, 99, 100, 101, 102, 103, 104, 105, 106], []⟩
noncomputable def f7o20 : Array Oper := cO (cL (cR (cR (cR (cR (cL (cR (cL (cR (cL (cL (cR (cL (cL (cR (cL (cR (cR (cR (cB f7))))))))))))))))))))
def f7a20 : RAnn := ⟨[48, 87, 108], []⟩
noncomputable def f7o21 : Array Oper := cO (cL (cL (cR (cR (cR (cR (cR (cL (cR (cL (cR (cL (cL (cR (cL (cL (cR (cL (cR (cR (cR (cB f7))))))))))))))))))))))
def f7a21 : RAnn := ⟨[107, 109, 110, 111, 112, 113], [(1, { eff := true })]⟩
noncomputable def f7o22 : Array Oper := cO (cL (cR (cL (cR (cR (cR (cR (cR (cL (cR (cL (cR (cL (cL (cR (cL (cL (cR (cL (cR (cR (cR (cB f7)))))))))))))))))))))))
def f7a22 : RAnn := ⟨[114, 115, 116, 117, 118], [(1, { eff := true })]⟩
noncomputable def f7o23 : Array Oper := cO (cR (cR (cL (cR (cR (cR (cR (cR (cL (cR (cL (cR (cL (cL (cR (cL (cL (cR (cL (cR (cR (cR (cB f7)))))))))))))))))))))))
def f7a23 : RAnn := ⟨[17, 18, 19, 20, 119, 120, 121, 122, 123, 124, 125, 126], []⟩
noncomputable def f7o24 : Array Oper := cO (cL (cR (cR (cL (cL (cR (cL (cL (cR (cL (cR (cR (cR (cB f7))))))))))))))
def f7a24 : RAnn := ⟨[8, 127, 128, 129, 130, 131, 132, 133, 134, 135, 136, 137, 138, 139, 140, 141, 142, 143, 144, 145, 146, 147, 148, 149, 150, 151, 152, 153, 154, 155, 156, 157, 158, 159, 160, 161, 162, 163, 164], []⟩
noncomputable def f7o25 : Array Oper := cO (cL (cL (cR (cR (cR (cL (cL (cR (cL (cL (cR (cL (cR (cR (cR (cB f7))))))))))))))))
def f7a25 : RAnn := ⟨[1, 5, 6, 7, 35, 37, 165], []⟩
noncomputable def f7o26 : Array Oper := cO (cL (cR (cR (cR (cR (cB f7))))))
def f7a26 : RAnn := ⟨[1, 5, 6, 7, 35, 37, 41, 166], []⟩
def f7b0 : Code := (.seq (.seq (.region 5 f7o5 false) (.cond (.tmp 41) .skip (.exit 0))) (.seq (.block 1 (.seq (.region 7 f7o7 false) (.seq (.seq (.region 8 f7o8 false) (.block 2 (.seq (.region 12 f7o12 false) (.cond (.tmp 67) (.seq (.region 13 f7o13 false) (.seq (.region 14 f7o14 false) (.region 15 f7o15 false))) (.seq (.region 16 f7o16 false) (.cond (.tmp 87) (.seq (.region 17 f7o17 false) (.seq (.region 18 f7o18 false) (.region 19 f7o19 false))) (.seq (.region 20 f7o20 false) (.cond (.tmp 107) (.seq (.region 21 f7o21 false) (.seq (.region 22 f7o22 false) (.region 23 f7o23 false))) (.seq (.region 9 f7o9 false) (.seq (.region 10 f7o10 false) (.region 11 f7o11 false))))))))))) (.seq (.region 24 f7o24 true) (.cond (.tmp 165) (.seq (.region 25 f7o25 false) .ret) .skip))))) (.region 6 f7o6 false)))
def f7c : Code := (.seq (.region 0 f7o0 false) (.seq (.seq (.region 1 f7o1 false) (.cond (.tmp 32) (.seq (.region 2 f7o2 false) .ret) .skip)) (.seq (.region 3 f7o3 false) (.seq (.seq (.region 4 f7o4 false) (.block 0 (.loop f7b0))) (.seq (.region 26 f7o26 false) .ret)))))
def f7n : List (Nat × RAnn) := [(0, f7a0), (1, f7a1), (2, f7a2), (3, f7a3), (4, f7a4), (5, f7a5), (6, f7a6), (7, f7a7), (8, f7a8), (9, f7a9), (10, f7a10), (11, f7a11), (12, f7a12), (13, f7a13), (14, f7a14), (15, f7a15), (16, f7a16), (17, f7a17), (18, f7a18), (19, f7a19), (20, f7a20), (21, f7a21), (22, f7a22), (23, f7a23), (24, f7a24), (25, f7a25), (26, f7a26)]
def ANNS : List (Nat × FAnn) := [(7, ⟨f7n, [], []⟩), (11, ⟨f11n, [], []⟩), (14, ⟨f14n, [], []⟩), (17, ⟨f17n, [], []⟩), (19, ⟨f19n, [], []⟩), (26, ⟨f26n, [], []⟩), (27, ⟨f27n, [], []⟩), (28, ⟨f28n, [], []⟩), (29, ⟨f29n, [], []⟩), (30, ⟨f30n, [], []⟩), (31, ⟨f31n, [], []⟩), (32, ⟨f32n, [], []⟩), (33, ⟨f33n, [], []⟩), (34, ⟨f34n, [], []⟩), (35, ⟨f35n, [], []⟩), (36, ⟨f36n, [], []⟩), (37, ⟨f37n, [], []⟩), (38, ⟨f38n, [], []⟩), (39, ⟨f39n, [], []⟩), (40, ⟨f40n, [], []⟩), (46, ⟨f46n, [], []⟩), (51, ⟨f51n, [], []⟩), (52, ⟨f52n, [], []⟩), (53, ⟨f53n, [], []⟩), (54, ⟨f54n, [], []⟩)]
def anns : FuncId → FAnn := fun f => (look f ANNS).getD {}
def ext : ExtH := fun f args => bif Nat.beq f 57 then some (extItoa args) else bif Nat.beq f 55 then some (extStrRep args) else bif Nat.beq f 49 then some (extRepAll args) else bif Nat.beq f 53 && emptyArg args then some (match args with | [v] => some (v, []) | _ => none) else none
noncomputable abbrev EV (k : Nat) : CallH := evF prog anns ext k
noncomputable abbrev RE (k : Nat) (a : RAnn) (o : Array Oper) (d : Bool) (s : St) : Option St := regionE prog (EV k) a o d s
abbrev I (n : Int) : V := .int .i64 n
def octet_Text_fin : ((List Int) × Int) → V × List V := fun r => (.tup [(V.sl 0 1 (List.map (V.int .u8) r.1)), (I r.2)], [])
theorem octet_Text_ok (k : Nat) (a0 : Str) : EV k 19 [(Sr a0)] = (octet_Text k a0).map octet_Text_fin := by
  cases k with
  | zero => rfl
  | succ k =>
    unfold octet_Text
    refine et (evF_succ (c := f19c) (N := 13) (regs := f19n) rfl func19 rfl (by decide) rfl rfl rfl) <| kra [] rfl <| et k_assoc <| kra [(6, (Bo (decide ((a0.length : Int) > 255))))] rfl <| kc rfl rfl (fun hc => ?_) fun hc => ?_
    · rw [hc]
      refine et k_assoc <| kr ⟨[(2, (V.sl 0 1 (List.map (V.int .u8) ([] : List Int)))), (3, (I 2))], [], 13⟩ rfl <| et k_ret ?_
      rfl
    · rw [hc]
      refine et k_skip <| kg f19a3 rfl (fun (o2 : (List Int) × Int) => ⟨[(2, (V.sl 0 1 (List.map (V.int .u8) o2.1))), (3, (I o2.2))], [], 13⟩) (rd 5 [(7, (Sr a0)), (8, (I (a0.length : Int))), (9, (V.int .u8 (Go.IntKind.wrap .u8 (a0.length : Int)))), (10, (V.sl 1 1 (List.map (V.int .u8) ([(Go.IntKind.wrap .u8 (a0.length : Int))] : List Int)))), (11, (Sr a0))] rfl rfl <| et (reg_eff (x := (app ([(Go.IntKind.wrap .u8 (a0.length : Int))] : List Int) (bytesB a0))) (w := fun v1 => ((V.sl 1 1 (List.map (V.int .u8) v1)), _)) rfl rfl rfl rfl (p_appS rfl rfl rfl rfl rfl rfl rfl rfl rfl rfl (by decide))) <| bindE fun v1 => bind_end rfl) fun o2 => et k_lret ?_
      rfl
def octet_Number_fin : ((List Int) × Int) → V × List V := fun r => (.tup [(V.sl 0 1 (List.map (V.int .u8) r.1)), (I r.2)], [])
theorem octet_Number_ok (k : Nat) (a0 : Int) : EV k 17 [(I a0)] = (octet_Number k a0).map octet_Number_fin := by
  cases k with
  | zero => rfl
  | succ k =>
    unfold octet_Number
    refine et (evF_succ (c := f17c) (N := 22) (regs := f17n) rfl func17 rfl (by decide) rfl rfl rfl) <| kra [] rfl <| et k_assoc <| kga f17a1 rfl (fun (o1 : Bool) => [(9, (Bo o1))]) ?_ fun o1 => ?_
    · refine rd 3 [(4, (I a0)), (5, (Bo (decide (a0 < 0)))), (6, (Bo (decide (a0 < 0))))] rfl rfl <| bifE (fun hc => ?_) fun hc => ?_
      · rw [hc]
        exact reg_end rfl
      · rw [hc]
        exact reg_end rfl
    refine kc rfl rfl (fun hc => ?_) fun hc => ?_
    · rw [hc]
      refine et k_assoc <| kr ⟨[(2, (V.sl 0 1 (List.map (V.int .u8) ([] : List Int)))), (3, (I 2))], [], 22⟩ rfl <| et k_ret ?_
      rfl
    · rw [hc]
      refine et k_skip <| kg f17a3 rfl (fun (o5 : (List Int) × Int) => ⟨[(2, (V.sl 0 1 (List.map (V.int .u8) o5.1))), (3, (I o5.2))], [], 22⟩) (rd 1 [(10, (I a0))] rfl rfl <| rp rfl (p_shr rfl rfl rfl) fun v2 => bd 4 [(11, (I v2)), (12, (V.int .u8 (Go.IntKind.wrap .u8 v2))), (13, (I a0))] rfl rfl <| rp rfl (p_shr rfl rfl rfl) fun v3 => bd 7 [(14, (I v3)), (15, (V.int .u8 (Go.IntKind.wrap .u8 v3))), (16, (I a0))] rfl rfl <| rp rfl (p_shr rfl rfl rfl) fun v4 => bind_end rfl) fun o5 => et k_lret ?_
      rfl
def strconv_Itoa_fin : Str → V × List V := fun r => (Sr r, [])
theorem strconv_Itoa_ok (k : Nat) (n : Int) : EV k 57 [(I n)] = (strconv_Itoa k n).map strconv_Itoa_fin := by
  cases k with
  | zero => rfl
  | succ k => exact (evF_ext (ext := ext) (f := 57) rfl).trans rfl
def strings_Repeat_fin : Str → V × List V := fun r => ((Sr r), [])
theorem strings_Repeat_ok (k : Nat) (s : Str) (n : Int) : EV k 55 [(Sr s), (I n)] = (strings_Repeat k s n).map strings_Repeat_fin := by
  cases k with
  | zero => rfl
  | succ k => exact (evF_ext (ext := ext) (f := 55) rfl).trans rfl
def octet_Digits_fin : (Str × Int) → V × List V := fun r => (.tup [(Sr r.1), (I r.2)], [])
theorem octet_Digits_ok (k : Nat) (a0 : Int) (a1 : Int) : EV k 46 [(I a0), (I a1)] = (octet_Digits k a0 a1).map octet_Digits_fin := by
  cases k with
  | zero => rfl
  | succ k =>
    unfold octet_Digits
    refine et (evF_succ (c := f46c) (N := 32) (regs := f46n) rfl func46 rfl (by decide) rfl rfl rfl) <| kra [] rfl <| kga f46a1 rfl (fun (o2 : Str) => [(6, (Sr o2))]) (rd 1 [(7, (I a0))] rfl rfl <| rs rfl (p_call rfl rfl rfl rfl rfl (strconv_Itoa_ok k a0) (.inl rfl)) fun v1 => bind_end rfl) fun o2 => et k_assoc <| kg f46a2 rfl (fun (o3 : Bool) => ⟨[(1, (I a1)), (6, (Sr o2)), (24, (Bo o3))], [], 32⟩) ?_ fun o3 => ?_
    · refine rd 3 [(9, (I a0)), (10, (Bo (decide (a0 < 0)))), (11, (Bo (decide (a0 < 0))))] rfl rfl <| bifE (fun hc => ?_) fun hc => ?_
      · rw [hc]
        exact reg_end rfl
      · rw [hc]
        refine rd 7 [(12, (I a1)), (13, (Bo (decide (a1 < 1)))), (14, (Bo (decide (a1 < 1)))), (15, (Bo (decide (a1 < 1))))] rfl rfl <| bifE (fun hc => ?_) fun hc => ?_
        · rw [hc]
          exact reg_end rfl
        · rw [hc]
          refine rd 11 [(16, (I a1)), (17, (Bo (decide (a1 > 9)))), (18, (Bo (decide (a1 > 9)))), (19, (Bo (decide (a1 > 9))))] rfl rfl <| bifE (fun hc => ?_) fun hc => ?_
          · rw [hc]
            exact reg_end rfl
          · rw [hc]
            exact reg_end rfl
    refine kc rfl rfl (fun hc => ?_) fun hc => ?_
    · rw [hc]
      refine et k_assoc <| kr ⟨[(4, (Sr ([] : Str))), (5, (I 2))], [], 32⟩ rfl <| et k_ret ?_
      rfl
    · rw [hc]
      refine et k_skip <| kg f46a4 rfl (fun (o6 : Str × Int) => ⟨[(4, (Sr o6.1)), (5, (I o6.2))], [], 32⟩) (rd 4 [(25, (I a1)), (26, (Sr o2)), (27, (I (o2.length : Int))), (28, (I (Go.IntKind.wrap .i64 (a1 - (o2.length : Int)))))] rfl rfl <| rp rfl (p_call rfl rfl rfl rfl rfl (strings_Repeat_ok k ([48] : Str) (Go.IntKind.wrap .i64 (a1 - (o2.length : Int)))) (.inl rfl)) fun v4 => bd 6 [(29, (Sr v4)), (30, (Sr o2))] rfl rfl <| rp rfl (p_cat rfl rfl rfl) fun v5 => bind_end rfl) fun o6 => et k_lret ?_
      rfl
def octet_Pad_fin : (Str × Int) → V × List V := fun r => (.tup [(Sr r.1), (I r.2)], [])
theorem octet_Pad_ok (k : Nat) (a0 : Str) (a1 : Int) : EV k 40 [(Sr a0), (I a1)] = (octet_Pad k a0 a1).map octet_Pad_fin := by
  cases k with
  | zero => rfl
  | succ k =>
    unfold octet_Pad
    refine et (evF_succ (c := f40c) (N := 21) (regs := f40n) rfl func40 rfl (by decide) rfl rfl rfl) <| kra [] rfl <| et k_assoc <| kga f40a1 rfl (fun (o1 : Bool) => [(13, (Bo o1))]) ?_ fun o1 => ?_
    · refine rd 5 [(6, (I a1)), (7, (Sr a0)), (8, (I (a0.length : Int))), (9, (Bo (decide (a1 < (a0.length : Int))))), (10, (Bo (decide (a1 < (a0.length : Int)))))] rfl rfl <| bifE (fun hc => ?_) fun hc => ?_
      · rw [hc]
        exact reg_end rfl
      · rw [hc]
        exact reg_end rfl
    refine kc rfl rfl (fun hc => ?_) fun hc => ?_
    · rw [hc]
      refine et k_assoc <| kr ⟨[(4, (Sr ([] : Str))), (5, (I 2))], [], 21⟩ rfl <| et k_ret ?_
      rfl
    · rw [hc]
      refine et k_skip <| kg f40a3 rfl (fun (o4 : Str × Int) => ⟨[(4, (Sr o4.1)), (5, (I o4.2))], [], 21⟩) (rd 5 [(14, (Sr a0)), (15, (I a1)), (16, (Sr a0)), (17, (I (a0.length : Int))), (18, (I (Go.IntKind.wrap .i64 (a1 - (a0.length : Int)))))] rfl rfl <| rp rfl (p_call rfl rfl rfl rfl rfl (strings_Repeat_ok k ([32] : Str) (Go.IntKind.wrap .i64 (a1 - (a0.length : Int)))) (.inl rfl)) fun v2 => bd 6 [(19, (Sr v2))] rfl rfl <| rp rfl (p_cat rfl rfl rfl) fun v3 => bind_end rfl) fun o4 => et k_lret ?_
      rfl
def strings_ReplaceAll_fin : Str → V × List V := fun r => (Sr r, [])
theorem strings_ReplaceAll_ok (k : Nat) (s o n : Str) : EV k 49 [(Sr s), (Sr o), (Sr n)] = (strings_ReplaceAll k s o n).map strings_ReplaceAll_fin := by
  cases k with
  | zero => rfl
  | succ k => exact (evF_ext (ext := ext) (f := 49) rfl).trans rfl
def octet_Key_fin : (List Int) → V × List V := fun r => ((V.sl 0 1 (List.map (V.int .u8) r)), [])
theorem octet_Key_L1_ok (k : Nat) (a0 : (List Str))  (K0 : (List Int) → Int → Option (List Int)) (Kst : X × St → Option (V × List V)) (hK0 : ∀ (y0 : (List Int)) (y1 : Int), Kst (X.exit 0, ⟨[(3, (V.sl 1 1 (List.map (V.int .u8) y0))), (6, (sS a0)), (7, (I (a0.length : Int))), (8, (I y1)), (9, (Bo false))], [], 21⟩) = (K0 y0 y1).map octet_Key_fin) (hret : ∀ s, Kst (X.ret, s) = endK prog 21 [(sS a0)] [] [.tmp 2] (X.ret, s)) :
    ∀ (m : Nat) (x8 : (List Int)) (x9 : Int), (iter (exec prog (EV k) f14n k f14b0) m ⟨[(3, (V.sl 1 1 (List.map (V.int .u8) x8))), (6, (sS a0)), (7, (I (a0.length : Int))), (8, (I x9))], [], 21⟩).bind Kst = (octet_Key_L1 k a0 K0 m x8 x9).map octet_Key_fin := by
  intro m
  induction m with
  | zero => intros; rfl
  | succ m ih =>
    intro x8 x9
    unfold octet_Key_L1
    refine et k_round <| kra [(9, (Bo (decide (x9 < (a0.length : Int)))))] rfl <| kc rfl rfl (fun hc => ?_) fun hc => ?_
    · rw [hc]
      exact et k_skip <| et (k_block rfl) <| kg f14a4 rfl (fun (o11 : Str) => ⟨[(3, (V.sl 1 1 (List.map (V.int .u8) x8))), (5, (Sr o11)), (6, (sS a0)), (7, (I (a0.length : Int))), (8, (I x9))], [], 21⟩) (rs rfl (p_index (e := V.str) rfl rfl rfl underlying22 rfl (by decide)) fun v10 => bind_end rfl) fun o11 => kg f14a5 rfl (fun (o14 : (List Int)) => ⟨[(3, (V.sl 1 1 (List.map (V.int .u8) o14))), (6, (sS a0)), (7, (I (a0.length : Int))), (8, (I x9))], [], 21⟩) (ra 2 2 ⟨[(3, (V.sl 0 1 (List.map (V.int .u8) x8))), (5, (Sr o11)), (6, (sS a0)), (7, (I (a0.length : Int))), (8, (I x9)), (12, (V.sl 1 1 (List.map (V.int .u8) x8))), (13, (Sr o11))], [], 21⟩ rfl rfl rfl <| rp rfl (p_call rfl rfl rfl rfl rfl (strings_ReplaceAll_ok k o11 ([0] : Str) ([0, 255] : Str)) (.inl rfl)) fun v12 => bd 3 [(14, (Sr v12))] rfl rfl <| et (reg_eff (x := (app x8 (bytesB v12))) (w := fun v13 => ((V.sl 1 1 (List.map (V.int .u8) v13)), _)) rfl rfl rfl rfl (p_appS rfl rfl rfl rfl rfl rfl rfl rfl rfl rfl (by decide))) <| bind_self fun v13 => bind_end rfl) fun o14 => kgl f14a6 rfl (fun (o16 : (List Int)) => ⟨[(3, (V.sl 1 1 (List.map (V.int .u8) o16))), (6, (sS a0)), (7, (I (a0.length : Int))), (8, (I x9))], [], 21⟩) (ra 2 2 ⟨[(3, (V.sl 0 1 (List.map (V.int .u8) o14))), (6, (sS a0)), (7, (I (a0.length : Int))), (8, (I x9)), (16, (V.sl 1 1 (List.map (V.int .u8) o14))), (17, (V.sl 0 1 (List.map (V.int .u8) ([0, 1] : List Int))))], [], 21⟩ rfl rfl rfl <| et (reg_eff (x := (app o14 ([0, 1] : List Int))) (w := fun v15 => ((V.sl 1 1 (List.map (V.int .u8) v15)), _)) rfl rfl rfl rfl (p_app (e := (V.int .u8)) rfl rfl rfl rfl rfl rfl rfl rfl rfl rfl (by decide))) <| bind_self fun v15 => bind_end rfl) fun o16 => et blk_normal <| kl ⟨[(3, (V.sl 1 1 (List.map (V.int .u8) o16))), (6, (sS a0)), (7, (I (a0.length : Int))), (8, (I (Go.IntKind.wrap .i64 (x9 + 1))))], [], 21⟩ rfl <| et loop_normal <| ih o16 (Go.IntKind.wrap .i64 (x9 + 1))
    · rw [hc]
      exact et k_exit <| et loop_exit <| hK0 x8 x9
theorem octet_Key_ok (k : Nat) (a0 : (List Str)) : EV k 14 [(sS a0)] = (octet_Key k a0).map octet_Key_fin := by
  cases k with
  | zero => rfl
  | succ k =>
    unfold octet_Key
    refine et (evF_succ (c := f14c) (N := 21) (regs := f14n) rfl func14 rfl (by decide) rfl rfl rfl) <| kra [] rfl <| kra [(3, (V.sl 1 1 (List.map (V.int .u8) ([] : List Int))))] rfl <| et k_assoc <| krp f14a2 rfl ⟨[(3, (V.sl 1 1 (List.map (V.int .u8) ([] : List Int)))), (6, (sS a0)), (7, (I (a0.length : Int))), (8, (I 0))], [], 21⟩ ?_ ?_
    · exact rd 1 [(6, (sS a0))] rfl rfl <| rl rfl (p_len (e := V.str) rfl rfl rfl rfl rfl rfl underlying22) <| bind_end rfl
    refine et (k_block rfl) <| et k_loop ?_
    refine octet_Key_L1_ok k a0 _ _ ?h_octet_Key_L1_0 ?hr_octet_Key_L1 k ([] : List Int) 0
    · intro y17 y18
      refine et blk_exit <| kr ⟨[(2, (V.sl 0 1 (List.map (V.int .u8) y17)))], [], 21⟩ rfl <| et k_lret ?_
      rfl
    · intro s; exact rfl
def law01_First_fin : Bool → V × List V := fun r => ((Bo r), [])
theorem law01_First_clo0 : EV 0 11 [] = none := by kernel_rfl
theorem law01_First_clo1 : EV 1 11 [] = none := by kernel_rfl
theorem law01_First_clo2 : EV 2 11 [] = none := by kernel_rfl
theorem law01_First_clo3 : EV 3 11 [] = none := by kernel_rfl
theorem law01_First_clo4 : EV 4 11 [] = none := by kernel_rfl
theorem law01_First_clo (k : Nat) : EV (k + 5) 11 [] = some (Bo true, []) := by kernel_rfl
theorem law01_First_ok (k : Nat) : EV k 11 [] = (law01_First k).map law01_First_fin := by
  match k with
  | 0 => exact law01_First_clo0
  | 1 => exact law01_First_clo1
  | 2 => exact law01_First_clo2
  | 3 => exact law01_First_clo3
  | 4 => exact law01_First_clo4
  | k + 5 => exact law01_First_clo k
def slices_Clone_byte_c_fin : (List Int) → V × List V := fun r => ((V.sl 0 1 (List.map (V.int .u8) r)), [])
def slices_Clone_byte_fin : List Int → V × List V := fun r => ((V.sl 0 1 (List.map (V.int .u8) r)), [])
theorem slices_Clone_byte_c_ok (k : Nat) (y : Int) (l : (List Int)) : EV k 53 [(V.sl 0 1 (List.map (V.int .u8) (y :: l)))] = (slices_Clone_byte_c k y l).map slices_Clone_byte_c_fin := by
  cases k with
  | zero => rfl
  | succ k =>
    unfold slices_Clone_byte_c
    refine et (evF_succ (c := f53c) (N := 8) (regs := f53n) rfl func53 rfl (by decide) rfl rfl rfl) <| kra [] rfl <| et k_assoc <| kra [(4, (Bo false))] rfl <| et (k_cond (t := false) rfl rfl) <| et k_skip <| kg f53a3 rfl (fun (o2 : (List Int)) => ⟨[(2, (V.sl 0 1 (List.map (V.int .u8) o2)))], [], 8⟩) (rd 2 [(5, (V.sl 1 1 (List.map (V.int .u8) ([] : List Int)))), (6, (V.sl 0 1 (List.map (V.int .u8) (y :: l))))] rfl rfl <| et (reg_eff (x := (app ([] : List Int) (y :: l))) (w := fun v1 => ((V.sl 1 1 (List.map (V.int .u8) v1)), _)) rfl rfl rfl rfl (p_app (e := (V.int .u8)) rfl rfl rfl rfl rfl rfl rfl rfl rfl rfl (by decide))) <| bind_self fun v1 => bind_end rfl) fun o2 => et k_lret ?_
    rfl
theorem slices_Clone_byte_ok (k : Nat) (l : List Int) : EV k 53 [(V.sl 0 1 (List.map (V.int .u8) l))] = (slices_Clone_byte k l).map slices_Clone_byte_fin := by
  cases k with
  | zero => rfl
  | succ k => cases l with
    | nil => exact evF_ext (ext := ext) (f := 53) rfl
    | cons y l => exact slices_Clone_byte_c_ok (k + 1) y l
def octet_NewReader_fin : T_octet_Reader → V × List V := fun r => ((V.io (eReader r)), [])
theorem octet_NewReader_ok (k : Nat) (a0 : (List Int)) : EV k 34 [(V.sl 0 1 (List.map (V.int .u8) a0))] = (octet_NewReader k a0).map octet_NewReader_fin := by
  cases k with
  | zero => rfl
  | succ k =>
    unfold octet_NewReader
    refine et (evF_succ (c := f34c) (N := 7) (regs := f34n) rfl func34 rfl (by decide) rfl rfl rfl) <| kra [] rfl <| kg f34a1 rfl (fun (o2 : T_octet_Reader) => ⟨[(2, (Pt 6)), (6, (Pt 6))], [(6, vS 3 (eReader o2))], 7⟩) (rd 1 [(3, (V.sl 0 1 (List.map (V.int .u8) a0)))] rfl rfl <| rp rfl (p_call rfl rfl rfl rfl rfl (slices_Clone_byte_ok k a0) (.inl rfl)) fun v1 => bind_end rfl) fun o2 => et k_lret ?_
    rfl
def ref01_NewReader_fin : T_progenyref01_Reader → V × List V := fun r => ((V.io (eReader' r)), [])
theorem ref01_NewReader_ok (k : Nat) (a0 : (List Int)) : EV k 35 [(V.sl 0 1 (List.map (V.int .u8) a0))] = (ref01_NewReader k a0).map ref01_NewReader_fin := by
  cases k with
  | zero => rfl
  | succ k =>
    unfold ref01_NewReader
    refine et (evF_succ (c := f35c) (N := 8) (regs := f35n) rfl func35 rfl (by decide) rfl rfl rfl) <| kra [] rfl <| kg f35a1 rfl (fun (o2 : T_progenyref01_Reader) => ⟨[(2, (Pt 7)), (7, (Pt 7))], [(7, vS 2 (eReader' o2))], 8⟩) (rd 2 [(3, (V.sl 1 1 (List.map (V.int .u8) ([] : List Int)))), (4, (V.sl 0 1 (List.map (V.int .u8) a0)))] rfl rfl <| et (reg_eff (x := (app ([] : List Int) a0)) (w := fun v1 => ((V.sl 1 1 (List.map (V.int .u8) v1)), _)) rfl rfl rfl rfl (p_app (e := (V.int .u8)) rfl rfl rfl rfl rfl rfl rfl rfl rfl rfl (by decide))) <| bindE fun v1 => bind_end rfl) fun o2 => et k_lret ?_
    rfl
def octet_Reader_none_fin : Bool → V × List V := fun r => ((Bo r), [])
theorem octet_Reader_none_ok (k : Nat) (a0 : T_octet_Reader) : EV k 52 [(Pr (eReader a0))] = (octet_Reader_none k a0).map octet_Reader_none_fin := by
  cases k with
  | zero => rfl
  | succ k =>
    unfold octet_Reader_none
    refine et (evF_succ (c := f52c) (N := 12) (regs := f52n) rfl func52 rfl (by decide) rfl rfl rfl) <| kra [] rfl <| kr ⟨[(2, (Bo (!a0.fmade)))], [], 12⟩ rfl <| et k_lret ?_
    rfl
def octet_Reader_take_fin : ((List Int) × Int × T_octet_Reader) → V × List V := fun r => ((.tup [(V.sl 0 1 (List.map (V.int .u8) r.1)), (I r.2.1)]), [(V.io (eReader r.2.2))])
theorem octet_Reader_take_ok (k : Nat) (a0 : T_octet_Reader) (a1 : Int) : EV k 51 [(V.io (eReader a0)), (I a1)] = (octet_Reader_take k a0 a1).map octet_Reader_take_fin := by
  cases k with
  | zero => rfl
  | succ k =>
    unfold octet_Reader_take
    refine et (evF_succ (c := f51c) (N := 43) (regs := f51n) rfl func51 rfl (by decide) rfl rfl rfl) <| kra [] rfl <| et (k_block rfl) <| kga f51a1 rfl (fun (o2 : Bool) => [(7, (Bo o2))]) (rd 1 [(8, (Pt 43))] rfl rfl <| rs rfl (p_call rfl rfl rfl rfl rfl (octet_Reader_none_ok k a0) (.inr (fun _ => rfl))) fun v1 => bind_end rfl) fun o2 => kcl rfl rfl (fun hc => ?_) fun hc => ?_
    · rw [hc]
      refine kr ⟨[(4, (V.sl 0 1 (List.map (V.int .u8) ([] : List Int)))), (5, (I 6))], [(43, vS 3 (eReader a0))], 43⟩ rfl <| et k_lret <| et blk_ret ?_
      first | rfl | (cases a0; simp only at hc; subst hc; rfl)
    · rw [hc]
      refine kg f51a3 rfl (fun (o3 : Bool) => ⟨[(0, (Pt 43)), (1, (I a1)), (10, (Bo o3))], [(43, vS 3 (eReader a0))], 43⟩) ?_ fun o3 => ?_
      · refine rd 5 [(11, (Pt 43)), (12, (Pt 43)), (13, (V.ptr 43 0 2)), (14, (Bo a0.fbad)), (15, (Bo a0.fbad))] rfl rfl <| bifE (fun hc => ?_) fun hc => ?_
        · rw [hc]
          exact reg_end rfl
        · rw [hc]
          exact rd 10 [(16, (I a1)), (17, (Pt 43)), (18, (Pt 43)), (19, (V.ptr 43 0 1)), (20, (V.sl 0 1 (List.map (V.int .u8) a0.fb)))] rfl rfl <| rl rfl (p_len (e := (V.int .u8)) rfl rfl rfl rfl rfl rfl underlying26) <| bind_end rfl
      refine kcl rfl rfl (fun hc => ?_) fun hc => ?_
      · rw [hc]
        refine kr ⟨[], [(43, vS 3 (eReader { a0 with fbad := true }))], 43⟩ rfl <| kra [(4, (V.sl 0 1 (List.map (V.int .u8) ([] : List Int)))), (5, (I 3))] rfl <| et k_lret <| et blk_ret ?_
        first | rfl | (cases a0; simp only at hc; subst hc; rfl)
      · rw [hc]
        refine et k_lskip <| et blk_normal <| kg f51a6 rfl (fun (o5 : (List Int)) => ⟨[(0, (Pt 43)), (1, (I a1)), (6, (V.sl 0 1 (List.map (V.int .u8) o5)))], [(43, vS 3 (eReader a0))], 43⟩) (rd 5 [(27, (Pt 43)), (28, (Pt 43)), (29, (V.ptr 43 0 1)), (30, (V.sl 0 1 (List.map (V.int .u8) a0.fb))), (31, (I a1))] rfl rfl <| rs rfl (p_slice (e := (V.int .u8)) rfl rfl rfl rfl rfl rfl underlying26 rfl (by decide)) fun v4 => bind_end rfl) fun o5 => kg f51a7 rfl (fun (o7 : T_octet_Reader) => ⟨[(6, (V.sl 0 1 (List.map (V.int .u8) o5)))], [(43, vS 3 (eReader o7))], 43⟩) (rd 6 [(33, (Pt 43)), (34, (Pt 43)), (35, (Pt 43)), (36, (V.ptr 43 0 1)), (37, (V.sl 0 1 (List.map (V.int .u8) a0.fb))), (38, (I a1))] rfl rfl <| rp rfl (p_slice (e := (V.int .u8)) rfl rfl rfl rfl rfl (by simp [bound]) underlying26 rfl (by decide)) fun v6 => bind_end rfl) fun o7 => kr ⟨[(4, (V.sl 0 1 (List.map (V.int .u8) o5))), (5, (I 0))], [(43, vS 3 (eReader o7))], 43⟩ rfl <| et k_lret ?_
        first | rfl | (cases o7; simp only at hc; subst hc; rfl)
def octet_Reader_Small_fin : (Int × Int × T_octet_Reader) → V × List V := fun r => ((.tup [(I r.1), (I r.2.1)]), [(V.io (eReader r.2.2))])
theorem octet_Reader_Small_ok (k : Nat) (a0 : T_octet_Reader) : EV k 27 [(V.io (eReader a0))] = (octet_Reader_Small k a0).map octet_Reader_Small_fin := by
  cases k with
  | zero => rfl
  | succ k =>
    unfold octet_Reader_Small
    refine et (evF_succ (c := f27c) (N := 18) (regs := f27n) rfl func27 rfl (by decide) rfl rfl rfl) <| kra [] rfl <| kg f27a1 rfl (fun (o2 : (List Int) × Int × T_octet_Reader) => ⟨[(4, (V.sl 0 1 (List.map (V.int .u8) o2.1))), (5, (I o2.2.1))], [(18, vS 3 (eReader o2.2.2))], 18⟩) (rd 1 [(7, (Pt 18))] rfl rfl <| et (reg_eff (x := (octet_Reader_take k a0 1)) (w := fun (v1 : ((List Int) × Int × T_octet_Reader)) => ((V.tup [(V.sl 0 1 (List.map (V.int .u8) v1.1)), (I v1.2.1)]), _)) rfl rfl rfl rfl (p_callIO (fr := fun (v1 : ((List Int) × Int × T_octet_Reader)) => (V.tup [(V.sl 0 1 (List.map (V.int .u8) v1.1)), (I v1.2.1)])) (fe := fun (v1 : ((List Int) × Int × T_octet_Reader)) => (eReader v1.2.2)) rfl rfl rfl rfl rfl rfl rfl (octet_Reader_take_ok k a0 1) (fun _ => rfl))) <| bindE fun v1 => bind_end rfl) fun o2 => et k_assoc <| kra [(12, (Bo (o2.2.1 != 0)))] rfl <| kc rfl rfl (fun hc => ?_) fun hc => ?_
    · rw [hc]
      refine et k_assoc <| kr ⟨[(2, (I 0)), (3, (I o2.2.1))], [(18, vS 3 (eReader o2.2.2))], 18⟩ rfl <| et k_ret ?_
      rfl
    · rw [hc]
      refine et k_skip <| kg f27a4 rfl (fun (o4 : Int × Int) => ⟨[(2, (I o4.1)), (3, (I o4.2))], [(18, vS 3 (eReader o2.2.2))], 18⟩) (rd 1 [(14, (V.sl 0 1 (List.map (V.int .u8) o2.1)))] rfl rfl <| rp rfl (p_index (e := (V.int .u8)) rfl rfl rfl underlying26 rfl (by decide)) fun v3 => bind_end rfl) fun o4 => et k_lret ?_
      rfl
def ref01_Reader_take_fin : ((List Int) × Bool × T_progenyref01_Reader) → V × List V := fun r => ((.tup [(V.sl 0 1 (List.map (V.int .u8) r.1)), (Bo r.2.1)]), [(V.io (eReader' r.2.2))])
theorem ref01_Reader_take_ok (k : Nat) (a0 : T_progenyref01_Reader) (a1 : Int) : EV k 54 [(V.io (eReader' a0)), (I a1)] = (ref01_Reader_take k a0 a1).map ref01_Reader_take_fin := by
  cases k with
  | zero => rfl
  | succ k =>
    unfold ref01_Reader_take
    refine et (evF_succ (c := f54c) (N := 39) (regs := f54n) rfl func54 rfl (by decide) rfl rfl rfl) <| kra [] rfl <| et k_assoc <| kga f54a1 rfl (fun (o1 : Bool) => [(19, (Bo o1))]) ?_ fun o1 => ?_
    · refine rd 5 [(7, (Pt 39)), (8, (Pt 39)), (9, (V.ptr 39 0 1)), (10, (Bo a0.fBad)), (11, (Bo a0.fBad))] rfl rfl <| bifE (fun hc => ?_) fun hc => ?_
      · rw [hc]
        exact reg_end rfl
      · rw [hc]
        exact rd 10 [(12, (I a1)), (13, (Pt 39)), (14, (Pt 39)), (15, (Pt 39)), (16, (V.sl 0 1 (List.map (V.int .u8) a0.fB)))] rfl rfl <| rl rfl (p_len (e := (V.int .u8)) rfl rfl rfl rfl rfl rfl underlying26) <| bind_end rfl
    refine kc rfl rfl (fun hc => ?_) fun hc => ?_
    · rw [hc]
      refine et k_assoc <| kr ⟨[], [(39, vS 2 (eReader' { a0 with fBad := true }))], 39⟩ rfl <| et k_assoc <| kra [(4, (V.sl 0 1 (List.map (V.int .u8) ([] : List Int)))), (5, (Bo false))] rfl <| et k_ret ?_
      first | rfl | (cases a0; simp only at hc; subst hc; rfl)
    · rw [hc]
      refine et k_skip <| kg f54a4 rfl (fun (o3 : (List Int)) => ⟨[(0, (Pt 39)), (1, (I a1)), (6, (V.sl 0 1 (List.map (V.int .u8) o3)))], [(39, vS 2 (eReader' a0))], 39⟩) (rd 5 [(23, (Pt 39)), (24, (Pt 39)), (25, (Pt 39)), (26, (V.sl 0 1 (List.map (V.int .u8) a0.fB))), (27, (I a1))] rfl rfl <| rs rfl (p_slice (e := (V.int .u8)) rfl rfl rfl rfl rfl rfl underlying26 rfl (by decide)) fun v2 => bind_end rfl) fun o3 => kg f54a5 rfl (fun (o5 : T_progenyref01_Reader) => ⟨[(6, (V.sl 0 1 (List.map (V.int .u8) o3)))], [(39, vS 2 (eReader' o5))], 39⟩) (rd 6 [(29, (Pt 39)), (30, (Pt 39)), (31, (Pt 39)), (32, (Pt 39)), (33, (V.sl 0 1 (List.map (V.int .u8) a0.fB))), (34, (I a1))] rfl rfl <| rp rfl (p_slice (e := (V.int .u8)) rfl rfl rfl rfl rfl (by simp [bound]) underlying26 rfl (by decide)) fun v4 => bind_end rfl) fun o5 => kr ⟨[(4, (V.sl 0 1 (List.map (V.int .u8) o3))), (5, (Bo true))], [(39, vS 2 (eReader' o5))], 39⟩ rfl <| et k_lret ?_
      first | rfl | (cases o5; simp only at hc; subst hc; rfl)
def ref01_Reader_Small_fin : (Int × Int × T_progenyref01_Reader) → V × List V := fun r => ((.tup [(I r.1), (I r.2.1)]), [(V.io (eReader' r.2.2))])
theorem ref01_Reader_Small_ok (k : Nat) (a0 : T_progenyref01_Reader) : EV k 36 [(V.io (eReader' a0))] = (ref01_Reader_Small k a0).map ref01_Reader_Small_fin := by
  cases k with
  | zero => rfl
  | succ k =>
    unfold ref01_Reader_Small
    refine et (evF_succ (c := f36c) (N := 17) (regs := f36n) rfl func36 rfl (by decide) rfl rfl rfl) <| kra [] rfl <| kg f36a1 rfl (fun (o2 : (List Int) × Bool × T_progenyref01_Reader) => ⟨[(4, (V.sl 0 1 (List.map (V.int .u8) o2.1))), (5, (Bo o2.2.1))], [(17, vS 2 (eReader' o2.2.2))], 17⟩) (rd 1 [(7, (Pt 17))] rfl rfl <| et (reg_eff (x := (ref01_Reader_take k a0 1)) (w := fun (v1 : ((List Int) × Bool × T_progenyref01_Reader)) => ((V.tup [(V.sl 0 1 (List.map (V.int .u8) v1.1)), (Bo v1.2.1)]), _)) rfl rfl rfl rfl (p_callIO (fr := fun (v1 : ((List Int) × Bool × T_progenyref01_Reader)) => (V.tup [(V.sl 0 1 (List.map (V.int .u8) v1.1)), (Bo v1.2.1)])) (fe := fun (v1 : ((List Int) × Bool × T_progenyref01_Reader)) => (eReader' v1.2.2)) rfl rfl rfl rfl rfl rfl rfl (ref01_Reader_take_ok k a0 1) (fun _ => rfl))) <| bindE fun v1 => bind_end rfl) fun o2 => et k_assoc <| kr ⟨[(4, (V.sl 0 1 (List.map (V.int .u8) o2.1))), (12, (Bo (!o2.2.1)))], [(17, vS 2 (eReader' o2.2.2))], 17⟩ rfl <| kc rfl rfl (fun hc => ?_) fun hc => ?_
    · rw [hc]
      refine et k_assoc <| kr ⟨[(2, (I 0)), (3, (I 3))], [(17, vS 2 (eReader' o2.2.2))], 17⟩ rfl <| et k_ret ?_
      rfl
    · rw [hc]
      refine et k_skip <| kg f36a4 rfl (fun (o4 : Int × Int) => ⟨[(2, (I o4.1)), (3, (I o4.2))], [(17, vS 2 (eReader' o2.2.2))], 17⟩) (rd 1 [(13, (V.sl 0 1 (List.map (V.int .u8) o2.1)))] rfl rfl <| rp rfl (p_index (e := (V.int .u8)) rfl rfl rfl underlying26 rfl (by decide)) fun v3 => bind_end rfl) fun o4 => et k_lret ?_
      rfl
def octet_Reader_Left_fin : Int → V × List V := fun r => ((I r), [])
theorem octet_Reader_Left_ok (k : Nat) (a0 : T_octet_Reader) : EV k 31 [(Pr (eReader a0))] = (octet_Reader_Left k a0).map octet_Reader_Left_fin := by
  cases k with
  | zero => rfl
  | succ k =>
    unfold octet_Reader_Left
    refine et (evF_succ (c := f31c) (N := 10) (regs := f31n) rfl func31 rfl (by decide) rfl rfl rfl) <| kra [] rfl <| et k_assoc <| kga f31a1 rfl (fun (o2 : Bool) => [(4, (Bo o2))]) (rd 1 [(3, (Pr (eReader a0)))] rfl rfl <| rs rfl (p_call rfl rfl rfl rfl rfl (octet_Reader_none_ok k a0) (.inl rfl)) fun v1 => bind_end rfl) fun o2 => kc rfl rfl (fun hc => ?_) fun hc => ?_
    · rw [hc]
      refine et k_assoc <| kr ⟨[(2, (I 0))], [], 10⟩ rfl <| et k_ret ?_
      rfl
    · rw [hc]
      refine et k_skip <| krp f31a3 rfl ⟨[(2, (I (a0.fb.length : Int)))], [], 10⟩ ?_ ?_
      · exact rd 4 [(5, (Pr (eReader a0))), (6, (Pr (eReader a0))), (7, (Pr (V.sl 0 1 (List.map (V.int .u8) a0.fb)))), (8, (V.sl 0 1 (List.map (V.int .u8) a0.fb)))] rfl rfl <| rl rfl (p_len (e := (V.int .u8)) rfl rfl rfl rfl rfl rfl underlying26) <| bind_end rfl
      refine et k_lret ?_
      rfl
def octet_Reader_Bad_fin : Bool → V × List V := fun r => ((Bo r), [])
theorem octet_Reader_Bad_ok (k : Nat) (a0 : T_octet_Reader) : EV k 32 [(Pr (eReader a0))] = (octet_Reader_Bad k a0).map octet_Reader_Bad_fin := by
  cases k with
  | zero => rfl
  | succ k =>
    unfold octet_Reader_Bad
    refine et (evF_succ (c := f32c) (N := 11) (regs := f32n) rfl func32 rfl (by decide) rfl rfl rfl) <| kra [] rfl <| kg f32a1 rfl (fun (o2 : Bool) => ⟨[(2, (Bo o2))], [], 11⟩) ?_ fun o2 => ?_
    · refine rd 1 [(3, (Pr (eReader a0)))] rfl rfl <| rp rfl (p_call rfl rfl rfl rfl rfl (octet_Reader_none_ok k a0) (.inl rfl)) fun v1 => bd 3 [(4, (Bo v1)), (5, (Bo v1))] rfl rfl <| bifE (fun hc => ?_) fun hc => ?_
      · rw [hc]
        exact reg_end rfl
      · rw [hc]
        exact reg_end rfl
    refine et k_lret ?_
    rfl
def octet_Reader_Done_fin : Bool → V × List V := fun r => ((Bo r), [])
theorem octet_Reader_Done_ok (k : Nat) (a0 : T_octet_Reader) : EV k 33 [(Pr (eReader a0))] = (octet_Reader_Done k a0).map octet_Reader_Done_fin := by
  cases k with
  | zero => rfl
  | succ k =>
    unfold octet_Reader_Done
    refine et (evF_succ (c := f33c) (N := 14) (regs := f33n) rfl func33 rfl (by decide) rfl rfl rfl) <| kra [] rfl <| kg f33a1 rfl (fun (o2 : Bool) => ⟨[(2, (Bo o2))], [], 14⟩) ?_ fun o2 => ?_
    · refine rd 1 [(3, (Pr (eReader a0)))] rfl rfl <| rp rfl (p_call rfl rfl rfl rfl rfl (octet_Reader_Bad_ok k a0) (.inl rfl)) fun v1 => bd 4 [(4, (Bo v1)), (5, (Bo (!v1))), (6, (Bo (!v1)))] rfl rfl <| bifE (fun hc => ?_) fun hc => ?_
      · rw [hc]
        exact rd 8 [(7, (Pr (eReader a0))), (8, (Pr (eReader a0))), (9, (Pr (V.sl 0 1 (List.map (V.int .u8) a0.fb)))), (10, (V.sl 0 1 (List.map (V.int .u8) a0.fb)))] rfl rfl <| rl rfl (p_len (e := (V.int .u8)) rfl rfl rfl rfl rfl rfl underlying26) <| bind_end rfl
      · rw [hc]
        exact reg_end rfl
    refine et k_lret ?_
    rfl
def octet_Reader_Number_fin : (Int × Int × T_octet_Reader) → V × List V := fun r => ((.tup [(I r.1), (I r.2.1)]), [(V.io (eReader r.2.2))])
theorem octet_Reader_Number_L1_ok (k : Nat) (a0 : T_octet_Reader) (o2 : (List Int) × Int × T_octet_Reader)  (K0 : Int → Int → Option (Int × Int × T_octet_Reader)) (Kst : X × St → Option (V × List V)) (hK0 : ∀ (y0 : Int) (y1 : Int), Kst (X.exit 0, ⟨[(6, (I y0)), (17, (V.sl 0 1 (List.map (V.int .u8) o2.1))), (18, (I (o2.1.length : Int))), (19, (I y1)), (20, (Bo false))], [(30, vS 3 (eReader o2.2.2))], 30⟩) = (K0 y0 y1).map octet_Reader_Number_fin) (hret : ∀ s, Kst (X.ret, s) = endK prog 30 [(V.io (eReader a0))] [] [.tmp 2, .tmp 3] (X.ret, s)) :
    ∀ (m : Nat) (x7 : Int) (x8 : Int), (iter (exec prog (EV k) f28n k f28b0) m ⟨[(6, (I x7)), (17, (V.sl 0 1 (List.map (V.int .u8) o2.1))), (18, (I (o2.1.length : Int))), (19, (I x8))], [(30, vS 3 (eReader o2.2.2))], 30⟩).bind Kst = (octet_Reader_Number_L1 o2 K0 m x7 x8).map octet_Reader_Number_fin := by
  intro m
  induction m with
  | zero => intros; rfl
  | succ m ih =>
    intro x7 x8
    unfold octet_Reader_Number_L1
    refine et k_round <| kra [(20, (Bo (decide (x8 < (o2.1.length : Int)))))] rfl <| kc rfl rfl (fun hc => ?_) fun hc => ?_
    · rw [hc]
      exact et k_skip <| et (k_block rfl) <| kg f28a7 rfl (fun (o10 : Int) => ⟨[(6, (I x7)), (8, (V.int .u8 o10)), (17, (V.sl 0 1 (List.map (V.int .u8) o2.1))), (18, (I (o2.1.length : Int))), (19, (I x8))], [(30, vS 3 (eReader o2.2.2))], 30⟩) (rs rfl (p_index (e := (V.int .u8)) rfl rfl rfl underlying26 rfl (by decide)) fun v9 => bind_end rfl) fun o10 => kgl f28a8 rfl (fun (o12 : Int) => ⟨[(6, (I o12)), (17, (V.sl 0 1 (List.map (V.int .u8) o2.1))), (18, (I (o2.1.length : Int))), (19, (I x8))], [(30, vS 3 (eReader o2.2.2))], 30⟩) (rd 1 [(23, (I x7))] rfl rfl <| rp rfl (p_shl rfl rfl rfl) fun v11 => bind_end rfl) fun o12 => et blk_normal <| kl ⟨[(6, (I o12)), (17, (V.sl 0 1 (List.map (V.int .u8) o2.1))), (18, (I (o2.1.length : Int))), (19, (I (Go.IntKind.wrap .i64 (x8 + 1))))], [(30, vS 3 (eReader o2.2.2))], 30⟩ rfl <| et loop_normal <| ih o12 (Go.IntKind.wrap .i64 (x8 + 1))
    · rw [hc]
      exact et k_exit <| et loop_exit <| hK0 x7 x8
theorem octet_Reader_Number_ok (k : Nat) (a0 : T_octet_Reader) : EV k 28 [(V.io (eReader a0))] = (octet_Reader_Number k a0).map octet_Reader_Number_fin := by
  cases k with
  | zero => rfl
  | succ k =>
    unfold octet_Reader_Number
    refine et (evF_succ (c := f28c) (N := 30) (regs := f28n) rfl func28 rfl (by decide) rfl rfl rfl) <| kra [] rfl <| kg f28a1 rfl (fun (o2 : (List Int) × Int × T_octet_Reader) => ⟨[(4, (V.sl 0 1 (List.map (V.int .u8) o2.1))), (5, (I o2.2.1))], [(30, vS 3 (eReader o2.2.2))], 30⟩) (rd 1 [(10, (Pt 30))] rfl rfl <| et (reg_eff (x := (octet_Reader_take k a0 4)) (w := fun (v1 : ((List Int) × Int × T_octet_Reader)) => ((V.tup [(V.sl 0 1 (List.map (V.int .u8) v1.1)), (I v1.2.1)]), _)) rfl rfl rfl rfl (p_callIO (fr := fun (v1 : ((List Int) × Int × T_octet_Reader)) => (V.tup [(V.sl 0 1 (List.map (V.int .u8) v1.1)), (I v1.2.1)])) (fe := fun (v1 : ((List Int) × Int × T_octet_Reader)) => (eReader v1.2.2)) rfl rfl rfl rfl rfl rfl rfl (octet_Reader_take_ok k a0 4) (fun _ => rfl))) <| bindE fun v1 => bind_end rfl) fun o2 => et k_assoc <| kra [(15, (Bo (o2.2.1 != 0)))] rfl <| kc rfl rfl (fun hc => ?_) fun hc => ?_
    · rw [hc]
      refine et k_assoc <| kr ⟨[(2, (I 0)), (3, (I o2.2.1))], [(30, vS 3 (eReader o2.2.2))], 30⟩ rfl <| et k_ret ?_
      rfl
    · rw [hc]
      refine et k_skip <| kr ⟨[(4, (V.sl 0 1 (List.map (V.int .u8) o2.1))), (6, (I 0))], [(30, vS 3 (eReader o2.2.2))], 30⟩ rfl <| et k_assoc <| krp f28a5 rfl ⟨[(6, (I 0)), (17, (V.sl 0 1 (List.map (V.int .u8) o2.1))), (18, (I (o2.1.length : Int))), (19, (I 0))], [(30, vS 3 (eReader o2.2.2))], 30⟩ ?_ ?_
      · exact rd 1 [(17, (V.sl 0 1 (List.map (V.int .u8) o2.1)))] rfl rfl <| rl rfl (p_len (e := (V.int .u8)) rfl rfl rfl rfl rfl rfl underlying26) <| bind_end rfl
      refine et (k_block rfl) <| et k_loop ?_
      refine octet_Reader_Number_L1_ok k a0 o2 _ _ ?h_octet_Reader_Number_L1_0 ?hr_octet_Reader_Number_L1 k 0 0
      · intro y13 y14
        refine et blk_exit <| kr ⟨[(2, (I y13)), (3, (I 0))], [(30, vS 3 (eReader o2.2.2))], 30⟩ rfl <| et k_lret ?_
        rfl
      · intro s; exact rfl
def ref01_Reader_Number_fin : (Int × Int × T_progenyref01_Reader) → V × List V := fun r => ((.tup [(I r.1), (I r.2.1)]), [(V.io (eReader' r.2.2))])
theorem ref01_Reader_Number_ok (k : Nat) (a0 : T_progenyref01_Reader) : EV k 37 [(V.io (eReader' a0))] = (ref01_Reader_Number k a0).map ref01_Reader_Number_fin := by
  cases k with
  | zero => rfl
  | succ k =>
    unfold ref01_Reader_Number
    refine et (evF_succ (c := f37c) (N := 35) (regs := f37n) rfl func37 rfl (by decide) rfl rfl rfl) <| kra [] rfl <| kg f37a1 rfl (fun (o2 : (List Int) × Bool × T_progenyref01_Reader) => ⟨[(4, (V.sl 0 1 (List.map (V.int .u8) o2.1))), (5, (Bo o2.2.1))], [(35, vS 2 (eReader' o2.2.2))], 35⟩) (rd 1 [(7, (Pt 35))] rfl rfl <| et (reg_eff (x := (ref01_Reader_take k a0 4)) (w := fun (v1 : ((List Int) × Bool × T_progenyref01_Reader)) => ((V.tup [(V.sl 0 1 (List.map (V.int .u8) v1.1)), (Bo v1.2.1)]), _)) rfl rfl rfl rfl (p_callIO (fr := fun (v1 : ((List Int) × Bool × T_progenyref01_Reader)) => (V.tup [(V.sl 0 1 (List.map (V.int .u8) v1.1)), (Bo v1.2.1)])) (fe := fun (v1 : ((List Int) × Bool × T_progenyref01_Reader)) => (eReader' v1.2.2)) rfl rfl rfl rfl rfl rfl rfl (ref01_Reader_take_ok k a0 4) (fun _ => rfl))) <| bindE fun v1 => bind_end rfl) fun o2 => et k_assoc <| kr ⟨[(4, (V.sl 0 1 (List.map (V.int .u8) o2.1))), (12, (Bo (!o2.2.1)))], [(35, vS 2 (eReader' o2.2.2))], 35⟩ rfl <| kc rfl rfl (fun hc => ?_) fun hc => ?_
    · rw [hc]
      refine et k_assoc <| kr ⟨[(2, (I 0)), (3, (I 3))], [(35, vS 2 (eReader' o2.2.2))], 35⟩ rfl <| et k_ret ?_
      rfl
    · rw [hc]
      refine et k_skip <| kd f37a4 rfl (fun (o7 : Int × Int) => ⟨[(2, (I o7.1)), (3, (I o7.2))], [(35, vS 2 (eReader' o2.2.2))], 35⟩) (et (regionE_regp (p := 24) (dk := true) (t := [(4, (V.sl 0 1 (List.map (V.int .u8) o2.1))), (12, (Bo false))]) (σ := [(35, vS 2 (eReader' o2.2.2))]) (n := 35) rfl (by decide) (by decide) rfl) <| et (regp_adv (m := 1) (j := 1) (t' := [(4, (V.sl 0 1 (List.map (V.int .u8) o2.1))), (12, (Bo false)), (13, (V.sl 0 1 (List.map (V.int .u8) o2.1)))]) rfl rfl rfl) <| et (regp_pure (x := (idx o2.1 0)) (w := fun v3 => (Pr (V.int .u8 v3))) rfl rfl rfl rfl rfl (p_index (e := (V.int .u8)) rfl rfl rfl underlying26 rfl (by decide))) <| bindE fun v3 => et (putp_adv (m := 4) (j := 6) (t' := [(4, (V.sl 0 1 (List.map (V.int .u8) o2.1))), (12, (Bo false)), (13, (V.sl 0 1 (List.map (V.int .u8) o2.1))), (14, (Pr (V.int .u8 v3))), (15, (V.int .u8 v3)), (16, (I (Go.IntKind.wrap .i64 v3))), (17, (I (Go.IntKind.wrap .i64 ((Go.IntKind.wrap .i64 v3) * 256)))), (18, (V.sl 0 1 (List.map (V.int .u8) o2.1)))]) rfl rfl rfl) <| et (regp_pure (x := (idx o2.1 1)) (w := fun v4 => (Pr (V.int .u8 v4))) rfl rfl rfl rfl rfl (p_index (e := (V.int .u8)) rfl rfl rfl underlying26 rfl (by decide))) <| bindE fun v4 => et (putp_adv (m := 5) (j := 12) (t' := [(4, (V.sl 0 1 (List.map (V.int .u8) o2.1))), (12, (Bo false)), (13, (V.sl 0 1 (List.map (V.int .u8) o2.1))), (14, (Pr (V.int .u8 v3))), (15, (V.int .u8 v3)), (16, (I (Go.IntKind.wrap .i64 v3))), (17, (I (Go.IntKind.wrap .i64 ((Go.IntKind.wrap .i64 v3) * 256)))), (18, (V.sl 0 1 (List.map (V.int .u8) o2.1))), (19, (Pr (V.int .u8 v4))), (20, (V.int .u8 v4)), (21, (I (Go.IntKind.wrap .i64 v4))), (22, (I (Go.IntKind.wrap .i64 ((Go.IntKind.wrap .i64 ((Go.IntKind.wrap .i64 v3) * 256)) + (Go.IntKind.wrap .i64 v4))))), (23, (I (Go.IntKind.wrap .i64 ((Go.IntKind.wrap .i64 ((Go.IntKind.wrap .i64 ((Go.IntKind.wrap .i64 v3) * 256)) + (Go.IntKind.wrap .i64 v4))) * 256)))), (24, (V.sl 0 1 (List.map (V.int .u8) o2.1)))]) rfl rfl rfl) <| et (regp_pure (x := (idx o2.1 2)) (w := fun v5 => (Pr (V.int .u8 v5))) rfl rfl rfl rfl rfl (p_index (e := (V.int .u8)) rfl rfl rfl underlying26 rfl (by decide))) <| bindE fun v5 => et (putp_adv (m := 5) (j := 18) (t' := [(4, (V.sl 0 1 (List.map (V.int .u8) o2.1))), (12, (Bo false)), (13, (V.sl 0 1 (List.map (V.int .u8) o2.1))), (14, (Pr (V.int .u8 v3))), (15, (V.int .u8 v3)), (16, (I (Go.IntKind.wrap .i64 v3))), (17, (I (Go.IntKind.wrap .i64 ((Go.IntKind.wrap .i64 v3) * 256)))), (18, (V.sl 0 1 (List.map (V.int .u8) o2.1))), (19, (Pr (V.int .u8 v4))), (20, (V.int .u8 v4)), (21, (I (Go.IntKind.wrap .i64 v4))), (22, (I (Go.IntKind.wrap .i64 ((Go.IntKind.wrap .i64 ((Go.IntKind.wrap .i64 v3) * 256)) + (Go.IntKind.wrap .i64 v4))))), (23, (I (Go.IntKind.wrap .i64 ((Go.IntKind.wrap .i64 ((Go.IntKind.wrap .i64 ((Go.IntKind.wrap .i64 v3) * 256)) + (Go.IntKind.wrap .i64 v4))) * 256)))), (24, (V.sl 0 1 (List.map (V.int .u8) o2.1))), (25, (Pr (V.int .u8 v5))), (26, (V.int .u8 v5)), (27, (I (Go.IntKind.wrap .i64 v5))), (28, (I (Go.IntKind.wrap .i64 ((Go.IntKind.wrap .i64 ((Go.IntKind.wrap .i64 ((Go.IntKind.wrap .i64 ((Go.IntKind.wrap .i64 v3) * 256)) + (Go.IntKind.wrap .i64 v4))) * 256)) + (Go.IntKind.wrap .i64 v5))))), (29, (I (Go.IntKind.wrap .i64 ((Go.IntKind.wrap .i64 ((Go.IntKind.wrap .i64 ((Go.IntKind.wrap .i64 ((Go.IntKind.wrap .i64 ((Go.IntKind.wrap .i64 v3) * 256)) + (Go.IntKind.wrap .i64 v4))) * 256)) + (Go.IntKind.wrap .i64 v5))) * 256)))), (30, (V.sl 0 1 (List.map (V.int .u8) o2.1)))]) rfl rfl rfl) <| et (regp_pure (x := (idx o2.1 3)) (w := fun v6 => (Pr (V.int .u8 v6))) rfl rfl rfl rfl rfl (p_index (e := (V.int .u8)) rfl rfl rfl underlying26 rfl (by decide))) <| bindE fun v6 => regp_end rfl) fun o7 => et k_lret ?_
      rfl
def octet_Reader_Text_fin : (Str × Int × T_octet_Reader) → V × List V := fun r => ((.tup [(Sr r.1), (I r.2.1)]), [(V.io (eReader r.2.2))])
theorem octet_Reader_Text_ok (k : Nat) (a0 : T_octet_Reader) : EV k 29 [(V.io (eReader a0))] = (octet_Reader_Text k a0).map octet_Reader_Text_fin := by
  cases k with
  | zero => rfl
  | succ k =>
    unfold octet_Reader_Text
    refine et (evF_succ (c := f29c) (N := 35) (regs := f29n) rfl func29 rfl (by decide) rfl rfl rfl) <| kra [] rfl <| et k_assoc <| kga f29a1 rfl (fun (o2 : Bool) => [(10, (Bo o2))]) (rd 1 [(9, (Pt 35))] rfl rfl <| rs rfl (p_call rfl rfl rfl rfl rfl (octet_Reader_none_ok k a0) (.inr (fun _ => rfl))) fun v1 => bind_end rfl) fun o2 => kc rfl rfl (fun hc => ?_) fun hc => ?_
    · rw [hc]
      refine et k_assoc <| kr ⟨[(2, (Sr ([] : Str))), (3, (I 6))], [(35, vS 3 (eReader a0))], 35⟩ rfl <| et k_ret ?_
      first | rfl | (cases a0; simp only at hc; subst hc; rfl)
    · rw [hc]
      refine et k_skip <| kr ⟨[(0, (Pt 35)), (4, (V.sl 0 1 (List.map (V.int .u8) a0.fb)))], [(35, vS 3 (eReader a0))], 35⟩ rfl <| kg f29a4 rfl (fun (o4 : Int × T_octet_Reader) => ⟨[(0, (Pt 35)), (4, (V.sl 0 1 (List.map (V.int .u8) a0.fb))), (5, (I o4.1))], [(35, vS 3 (eReader o4.2))], 35⟩) (rd 1 [(16, (Pt 35))] rfl rfl <| et (reg_eff (x := (octet_Reader_Small k a0)) (w := fun (v3 : (Int × Int × T_octet_Reader)) => ((V.tup [(I v3.1), (I v3.2.1)]), _)) rfl rfl rfl rfl (p_callIO (fr := fun (v3 : (Int × Int × T_octet_Reader)) => (V.tup [(I v3.1), (I v3.2.1)])) (fe := fun (v3 : (Int × Int × T_octet_Reader)) => (eReader v3.2.2)) rfl rfl rfl rfl rfl rfl rfl (octet_Reader_Small_ok k a0) (fun _ => rfl))) <| bindE fun v3 => bind_end rfl) fun o4 => kg f29a5 rfl (fun (o6 : (List Int) × Int × T_octet_Reader) => ⟨[(0, (Pt 35)), (4, (V.sl 0 1 (List.map (V.int .u8) a0.fb))), (7, (V.sl 0 1 (List.map (V.int .u8) o6.1))), (8, (I o6.2.1))], [(35, vS 3 (eReader o6.2.2))], 35⟩) (rd 2 [(21, (Pt 35)), (22, (I o4.1))] rfl rfl <| et (reg_eff (x := (octet_Reader_take k o4.2 o4.1)) (w := fun (v5 : ((List Int) × Int × T_octet_Reader)) => ((V.tup [(V.sl 0 1 (List.map (V.int .u8) v5.1)), (I v5.2.1)]), _)) rfl rfl rfl rfl (p_callIO (fr := fun (v5 : ((List Int) × Int × T_octet_Reader)) => (V.tup [(V.sl 0 1 (List.map (V.int .u8) v5.1)), (I v5.2.1)])) (fe := fun (v5 : ((List Int) × Int × T_octet_Reader)) => (eReader v5.2.2)) rfl rfl rfl rfl rfl rfl rfl (octet_Reader_take_ok k o4.2 o4.1) (fun _ => rfl))) <| bindE fun v5 => bind_end rfl) fun o6 => et k_assoc <| kra [(27, (Bo (o6.2.1 != 0)))] rfl <| kc rfl rfl (fun hc => ?_) fun hc => ?_
      · rw [hc]
        refine et k_assoc <| kr ⟨[(8, (I o6.2.1))], [(35, vS 3 (eReader { o6.2.2 with fb := a0.fb }))], 35⟩ rfl <| et k_assoc <| kr ⟨[(2, (Sr ([] : Str))), (3, (I o6.2.1))], [(35, vS 3 (eReader { o6.2.2 with fb := a0.fb }))], 35⟩ rfl <| et k_ret ?_
        first | rfl | (cases a0; simp only at hc; subst hc; rfl)
      · rw [hc]
        refine et k_skip <| krp f29a9 rfl ⟨[(2, (Sr (Go.AE.strB o6.1))), (3, (I 0))], [(35, vS 3 (eReader o6.2.2))], 35⟩ ?_ ?_
        · exact rd 1 [(33, (V.sl 0 1 (List.map (V.int .u8) o6.1)))] rfl rfl <| rl rfl (p_convBS (l := o6.1) rfl rfl underlying26 underlying9 underlying5) <| bind_end rfl
        refine et k_lret ?_
        rfl
def ref01_Reader_Text_fin : (Str × Int × T_progenyref01_Reader) → V × List V := fun r => ((.tup [(Sr r.1), (I r.2.1)]), [(V.io (eReader' r.2.2))])
theorem ref01_Reader_Text_ok (k : Nat) (a0 : T_progenyref01_Reader) : EV k 38 [(V.io (eReader' a0))] = (ref01_Reader_Text k a0).map ref01_Reader_Text_fin := by
  cases k with
  | zero => rfl
  | succ k =>
    unfold ref01_Reader_Text
    refine et (evF_succ (c := f38c) (N := 53) (regs := f38n) rfl func38 rfl (by decide) rfl rfl rfl) <| kra [] rfl <| et k_assoc <| kd f38a1 rfl (fun (o2 : Bool) => ⟨[(0, (Pt 53)), (33, (Bo o2))], [(53, vS 2 (eReader' a0))], 53⟩) ?_ fun o2 => ?_
    · refine et (regionE_regp (p := 28) (dk := true) (t := [(0, (Pt 53))]) (σ := [(53, vS 2 (eReader' a0))]) (n := 53) rfl (by decide) (by decide) rfl) <| et (regp_adv (m := 5) (j := 5) (t' := [(0, (Pt 53)), (6, (Pt 53)), (7, (Pt 53)), (8, (V.ptr 53 0 1)), (9, (Bo a0.fBad)), (10, (Bo a0.fBad))]) rfl rfl rfl) <| bifE (fun hc => ?_) fun hc => ?_
      · rw [hc]
        exact regp_end rfl
      · rw [hc]
        refine et (regp_adv (m := 4) (j := 9) (t' := [(0, (Pt 53)), (6, (Pt 53)), (7, (Pt 53)), (8, (V.ptr 53 0 1)), (9, (Bo false)), (10, (Bo false)), (11, (Pt 53)), (12, (Pt 53)), (13, (Pt 53)), (14, (V.sl 0 1 (List.map (V.int .u8) a0.fB)))]) rfl rfl rfl) <| et (regp_pure (x := some ()) (w := fun _ => (I (a0.fB.length : Int))) rfl rfl rfl rfl rfl (p_len (e := (V.int .u8)) rfl rfl rfl rfl rfl rfl underlying26)) <| et some_bind <| et (putp_adv (m := 3) (j := 13) (t' := [(0, (Pt 53)), (6, (Pt 53)), (7, (Pt 53)), (8, (V.ptr 53 0 1)), (9, (Bo false)), (10, (Bo false)), (11, (Pt 53)), (12, (Pt 53)), (13, (Pt 53)), (14, (V.sl 0 1 (List.map (V.int .u8) a0.fB))), (15, (I (a0.fB.length : Int))), (16, (Bo (decide ((a0.fB.length : Int) < 1)))), (17, (Bo (decide ((a0.fB.length : Int) < 1)))), (18, (Bo (decide ((a0.fB.length : Int) < 1))))]) rfl rfl rfl) <| bifE (fun hc => ?_) fun hc => ?_
        · rw [hc]
          exact regp_end rfl
        · rw [hc]
          exact et (regp_adv (m := 4) (j := 17) (t' := [(0, (Pt 53)), (6, (Pt 53)), (7, (Pt 53)), (8, (V.ptr 53 0 1)), (9, (Bo false)), (10, (Bo false)), (11, (Pt 53)), (12, (Pt 53)), (13, (Pt 53)), (14, (V.sl 0 1 (List.map (V.int .u8) a0.fB))), (15, (I (a0.fB.length : Int))), (16, (Bo false)), (17, (Bo false)), (18, (Bo false)), (19, (Pt 53)), (20, (Pt 53)), (21, (Pt 53)), (22, (V.sl 0 1 (List.map (V.int .u8) a0.fB)))]) rfl rfl rfl) <| et (regp_pure (x := some ()) (w := fun _ => (I (a0.fB.length : Int))) rfl rfl rfl rfl rfl (p_len (e := (V.int .u8)) rfl rfl rfl rfl rfl rfl underlying26)) <| et some_bind <| et (putp_adv (m := 4) (j := 22) (t' := [(0, (Pt 53)), (6, (Pt 53)), (7, (Pt 53)), (8, (V.ptr 53 0 1)), (9, (Bo false)), (10, (Bo false)), (11, (Pt 53)), (12, (Pt 53)), (13, (Pt 53)), (14, (V.sl 0 1 (List.map (V.int .u8) a0.fB))), (15, (I (a0.fB.length : Int))), (16, (Bo false)), (17, (Bo false)), (18, (Bo false)), (19, (Pt 53)), (20, (Pt 53)), (21, (Pt 53)), (22, (V.sl 0 1 (List.map (V.int .u8) a0.fB))), (23, (I (a0.fB.length : Int))), (24, (Pt 53)), (25, (Pt 53)), (26, (Pt 53)), (27, (V.sl 0 1 (List.map (V.int .u8) a0.fB)))]) rfl rfl rfl) <| et (regp_pure (x := (idx a0.fB 0)) (w := fun v1 => (Pr (V.int .u8 v1))) rfl rfl rfl rfl rfl (p_index (e := (V.int .u8)) rfl rfl rfl underlying26 rfl (by decide))) <| bindE fun v1 => regp_end rfl
    refine kc rfl rfl (fun hc => ?_) fun hc => ?_
    · rw [hc]
      refine et k_assoc <| kr ⟨[], [(53, vS 2 (eReader' { a0 with fBad := true }))], 53⟩ rfl <| et k_assoc <| kra [(2, (Sr ([] : Str))), (3, (I 3))] rfl <| et k_ret ?_
      first | rfl | (cases a0; simp only at hc; subst hc; rfl)
    · rw [hc]
      refine et k_skip <| kg f38a4 rfl (fun (o5 : (List Int) × T_progenyref01_Reader) => ⟨[(4, (V.sl 0 1 (List.map (V.int .u8) o5.1)))], [(53, vS 2 (eReader' o5.2))], 53⟩) (rd 5 [(38, (Pt 53)), (39, (Pt 53)), (40, (Pt 53)), (41, (Pt 53)), (42, (V.sl 0 1 (List.map (V.int .u8) a0.fB)))] rfl rfl <| rp rfl (p_index (e := (V.int .u8)) rfl rfl rfl underlying26 rfl (by decide)) fun v3 => bd 9 [(43, (Pr (V.int .u8 v3))), (44, (V.int .u8 v3)), (45, (I (Go.IntKind.wrap .i64 v3))), (46, (I (Go.IntKind.wrap .i64 (1 + (Go.IntKind.wrap .i64 v3)))))] rfl rfl <| et (reg_eff (x := (ref01_Reader_take k a0 (Go.IntKind.wrap .i64 (1 + (Go.IntKind.wrap .i64 v3))))) (w := fun (v4 : ((List Int) × Bool × T_progenyref01_Reader)) => ((V.tup [(V.sl 0 1 (List.map (V.int .u8) v4.1)), (Bo v4.2.1)]), _)) rfl rfl rfl rfl (p_callIO (fr := fun (v4 : ((List Int) × Bool × T_progenyref01_Reader)) => (V.tup [(V.sl 0 1 (List.map (V.int .u8) v4.1)), (Bo v4.2.1)])) (fe := fun (v4 : ((List Int) × Bool × T_progenyref01_Reader)) => (eReader' v4.2.2)) rfl rfl rfl rfl rfl rfl rfl (ref01_Reader_take_ok k a0 (Go.IntKind.wrap .i64 (1 + (Go.IntKind.wrap .i64 v3)))) (fun _ => rfl))) <| bindE fun v4 => bind_end rfl) fun o5 => kg f38a5 rfl (fun (o7 : Str × Int) => ⟨[(2, (Sr o7.1)), (3, (I o7.2))], [(53, vS 2 (eReader' o5.2))], 53⟩) (rd 1 [(50, (V.sl 0 1 (List.map (V.int .u8) o5.1)))] rfl rfl <| rp rfl (p_slice (e := (V.int .u8)) rfl rfl rfl rfl rfl (by simp [bound]) underlying26 rfl (by decide)) fun v6 => bd 2 [(51, (V.sl 0 1 (List.map (V.int .u8) v6)))] rfl rfl <| rl rfl (p_convBS (l := v6) rfl rfl underlying26 underlying9 underlying5) <| bind_end rfl) fun o7 => et k_lret ?_
      rfl
def octet_Reader_Texts_fin : ((List Str) × Int × T_octet_Reader) → V × List V := fun r => ((.tup [(sS r.1), (I r.2.1)]), [(V.io (eReader r.2.2))])
theorem octet_Reader_Texts_L1_ok (k : Nat) (a0 : T_octet_Reader) (o4 : Int × T_octet_Reader)  (K0 : (List Str) → Int → T_octet_Reader → Option ((List Str) × Int × T_octet_Reader)) (Kst : X × St → Option (V × List V)) (hK0 : ∀ (y0 : (List Str)) (y1 : Int) (y2 : T_octet_Reader), Kst (X.exit 0, ⟨[(0, (Pt 43)), (4, (V.sl 0 1 (List.map (V.int .u8) a0.fb))), (7, (V.sl 1 1 (List.map V.str y0))), (21, (I o4.1)), (22, (I y1)), (23, (Bo false))], [(43, vS 3 (eReader y2))], 43⟩) = (K0 y0 y1 y2).map octet_Reader_Texts_fin) (hret : ∀ s, Kst (X.ret, s) = endK prog 43 [(V.io (eReader a0))] [] [.tmp 2, .tmp 3] (X.ret, s)) :
    ∀ (m : Nat) (x9 : (List Str)) (x10 : Int) (x11 : T_octet_Reader), (iter (exec prog (EV k) f30n k f30b0) m ⟨[(0, (Pt 43)), (4, (V.sl 0 1 (List.map (V.int .u8) a0.fb))), (7, (V.sl 1 1 (List.map V.str x9))), (21, (I o4.1)), (22, (I x10))], [(43, vS 3 (eReader x11))], 43⟩).bind Kst = (octet_Reader_Texts_L1 k o4 K0 m x9 x10 x11).map octet_Reader_Texts_fin := by
  intro m
  induction m with
  | zero => intros; rfl
  | succ m ih =>
    intro x9 x10 x11
    unfold octet_Reader_Texts_L1
    refine et k_round <| kra [(23, (Bo (decide (x10 < o4.1))))] rfl <| kc rfl rfl (fun hc => ?_) fun hc => ?_
    · rw [hc]
      exact et k_skip <| et (k_block rfl) <| kg f30a8 rfl (fun (o13 : Str × T_octet_Reader) => ⟨[(0, (Pt 43)), (4, (V.sl 0 1 (List.map (V.int .u8) a0.fb))), (7, (V.sl 1 1 (List.map V.str x9))), (8, (Sr o13.1)), (21, (I o4.1)), (22, (I x10))], [(43, vS 3 (eReader o13.2))], 43⟩) (rd 1 [(25, (Pt 43))] rfl rfl <| et (reg_eff (x := (octet_Reader_Text k x11)) (w := fun (v12 : (Str × Int × T_octet_Reader)) => ((V.tup [(Sr v12.1), (I v12.2.1)]), _)) rfl rfl rfl rfl (p_callIO (fr := fun (v12 : (Str × Int × T_octet_Reader)) => (V.tup [(Sr v12.1), (I v12.2.1)])) (fe := fun (v12 : (Str × Int × T_octet_Reader)) => (eReader v12.2.2)) rfl rfl rfl rfl rfl rfl rfl (octet_Reader_Text_ok k x11) (fun _ => rfl))) <| bindE fun v12 => bind_end rfl) fun o13 => kgl f30a9 rfl (fun (o15 : (List Str)) => ⟨[(0, (Pt 43)), (4, (V.sl 0 1 (List.map (V.int .u8) a0.fb))), (7, (V.sl 1 1 (List.map V.str o15))), (21, (I o4.1)), (22, (I x10))], [(43, vS 3 (eReader o13.2))], 43⟩) (ra 3 3 ⟨[(0, (Pt 43)), (4, (V.sl 0 1 (List.map (V.int .u8) a0.fb))), (7, (sS x9)), (8, (Sr o13.1)), (21, (I o4.1)), (22, (I x10)), (29, (V.sl 1 1 (List.map V.str x9))), (30, (Sr o13.1)), (31, (sS (([o13.1] : List Str))))], [(43, vS 3 (eReader o13.2))], 43⟩ rfl rfl rfl <| et (reg_eff (x := (app x9 ([o13.1] : List Str))) (w := fun v14 => ((V.sl 1 1 (List.map V.str v14)), _)) rfl rfl rfl rfl (p_app (e := V.str) rfl rfl rfl rfl rfl rfl rfl rfl rfl rfl (by decide))) <| bind_self fun v14 => bind_end rfl) fun o15 => et blk_normal <| kl ⟨[(0, (Pt 43)), (4, (V.sl 0 1 (List.map (V.int .u8) a0.fb))), (7, (V.sl 1 1 (List.map V.str o15))), (21, (I o4.1)), (22, (I (Go.IntKind.wrap .i64 (x10 + 1))))], [(43, vS 3 (eReader o13.2))], 43⟩ rfl <| et loop_normal <| ih o15 (Go.IntKind.wrap .i64 (x10 + 1)) o13.2
    · rw [hc]
      exact et k_exit <| et loop_exit <| hK0 x9 x10 x11
theorem octet_Reader_Texts_ok (k : Nat) (a0 : T_octet_Reader) : EV k 30 [(V.io (eReader a0))] = (octet_Reader_Texts k a0).map octet_Reader_Texts_fin := by
  cases k with
  | zero => rfl
  | succ k =>
    unfold octet_Reader_Texts
    refine et (evF_succ (c := f30c) (N := 43) (regs := f30n) rfl func30 rfl (by decide) rfl rfl rfl) <| kra [] rfl <| et k_assoc <| kga f30a1 rfl (fun (o2 : Bool) => [(11, (Bo o2))]) (rd 1 [(10, (Pt 43))] rfl rfl <| rs rfl (p_call rfl rfl rfl rfl rfl (octet_Reader_none_ok k a0) (.inr (fun _ => rfl))) fun v1 => bind_end rfl) fun o2 => kc rfl rfl (fun hc => ?_) fun hc => ?_
    · rw [hc]
      refine et k_assoc <| kr ⟨[(2, (sS (([] : List Str)))), (3, (I 6))], [(43, vS 3 (eReader a0))], 43⟩ rfl <| et k_ret ?_
      first | rfl | (cases a0; simp only at hc; subst hc; rfl)
    · rw [hc]
      refine et k_skip <| kr ⟨[(0, (Pt 43)), (4, (V.sl 0 1 (List.map (V.int .u8) a0.fb)))], [(43, vS 3 (eReader a0))], 43⟩ rfl <| kg f30a4 rfl (fun (o4 : Int × T_octet_Reader) => ⟨[(0, (Pt 43)), (4, (V.sl 0 1 (List.map (V.int .u8) a0.fb))), (5, (I o4.1))], [(43, vS 3 (eReader o4.2))], 43⟩) (rd 1 [(17, (Pt 43))] rfl rfl <| et (reg_eff (x := (octet_Reader_Small k a0)) (w := fun (v3 : (Int × Int × T_octet_Reader)) => ((V.tup [(I v3.1), (I v3.2.1)]), _)) rfl rfl rfl rfl (p_callIO (fr := fun (v3 : (Int × Int × T_octet_Reader)) => (V.tup [(I v3.1), (I v3.2.1)])) (fe := fun (v3 : (Int × Int × T_octet_Reader)) => (eReader v3.2.2)) rfl rfl rfl rfl rfl rfl rfl (octet_Reader_Small_ok k a0) (fun _ => rfl))) <| bindE fun v3 => bind_end rfl) fun o4 => kra [(7, (V.sl 1 1 (List.map V.str ([] : List Str))))] rfl <| et k_assoc <| kr ⟨[(0, (Pt 43)), (4, (V.sl 0 1 (List.map (V.int .u8) a0.fb))), (7, (V.sl 1 1 (List.map V.str ([] : List Str)))), (21, (I o4.1)), (22, (I 0))], [(43, vS 3 (eReader o4.2))], 43⟩ rfl <| et (k_block rfl) <| et k_loop ?_
      refine octet_Reader_Texts_L1_ok k a0 o4 _ _ ?h_octet_Reader_Texts_L1_0 ?hr_octet_Reader_Texts_L1 k ([] : List Str) 0 o4.2
      · intro y16 y17 y18
        refine et blk_exit <| et k_assoc <| kr ⟨[(0, (Pt 43)), (4, (V.sl 0 1 (List.map (V.int .u8) a0.fb))), (7, (V.sl 1 1 (List.map V.str y16))), (37, (Bo y18.fbad))], [(43, vS 3 (eReader y18))], 43⟩ rfl <| kc rfl rfl (fun hc => ?_) fun hc => ?_
        · rw [hc]
          refine et k_assoc <| kr ⟨[], [(43, vS 3 (eReader { y18 with fb := a0.fb }))], 43⟩ rfl <| et k_assoc <| kra [(2, (sS (([] : List Str)))), (3, (I 3))] rfl <| et k_ret ?_
          first | rfl | (cases y18; simp only at hc; subst hc; rfl)
        · rw [hc]
          refine et k_skip <| kr ⟨[(2, (sS y16)), (3, (I 0))], [(43, vS 3 (eReader y18))], 43⟩ rfl <| et k_lret ?_
          first | rfl | (cases y18; simp only at hc; subst hc; rfl)
      · intro s; exact rfl
def ref01_Reader_Texts_fin : ((List Str) × Int × T_progenyref01_Reader) → V × List V := fun r => ((.tup [(sS r.1), (I r.2.1)]), [(V.io (eReader' r.2.2))])
theorem ref01_Reader_Texts_L1_ok (k : Nat) (a0 : T_progenyref01_Reader) (o2 : Int × Int × T_progenyref01_Reader)  (K0 : (List Str) → Int → T_progenyref01_Reader → Option ((List Str) × Int × T_progenyref01_Reader)) (Kst : X × St → Option (V × List V)) (hK0 : ∀ (y0 : (List Str)) (y1 : Int) (y2 : T_progenyref01_Reader), Kst (X.exit 0, ⟨[(0, (Pt 45)), (4, (V.sl 0 1 (List.map (V.int .u8) a0.fB))), (5, (I o2.1)), (7, (V.sl 1 1 (List.map V.str y0))), (8, (I y1)), (25, (Bo false))], [(45, vS 2 (eReader' y2))], 45⟩) = (K0 y0 y1 y2).map ref01_Reader_Texts_fin) (hret : ∀ s, Kst (X.ret, s) = endK prog 45 [(V.io (eReader' a0))] [] [.tmp 2, .tmp 3] (X.ret, s)) :
    ∀ (m : Nat) (x7 : (List Str)) (x8 : Int) (x9 : T_progenyref01_Reader), (iter (exec prog (EV k) f39n k f39b0) m ⟨[(0, (Pt 45)), (4, (V.sl 0 1 (List.map (V.int .u8) a0.fB))), (5, (I o2.1)), (7, (V.sl 1 1 (List.map V.str x7))), (8, (I x8))], [(45, vS 2 (eReader' x9))], 45⟩).bind Kst = (ref01_Reader_Texts_L1 k a0 o2 K0 m x7 x8 x9).map ref01_Reader_Texts_fin := by
  intro m
  induction m with
  | zero => intros; rfl
  | succ m ih =>
    intro x7 x8 x9
    unfold ref01_Reader_Texts_L1
    refine et k_round <| et k_assoc <| kra [(25, (Bo (decide (x8 < o2.1))))] rfl <| kc rfl rfl (fun hc => ?_) fun hc => ?_
    · rw [hc]
      refine et k_skip <| et (k_block rfl) <| kg f39a9 rfl (fun (o11 : Str × Int × T_progenyref01_Reader) => ⟨[(0, (Pt 45)), (4, (V.sl 0 1 (List.map (V.int .u8) a0.fB))), (5, (I o2.1)), (7, (V.sl 1 1 (List.map V.str x7))), (8, (I x8)), (9, (Sr o11.1)), (10, (I o11.2.1))], [(45, vS 2 (eReader' o11.2.2))], 45⟩) (rd 1 [(29, (Pt 45))] rfl rfl <| et (reg_eff (x := (ref01_Reader_Text k x9)) (w := fun (v10 : (Str × Int × T_progenyref01_Reader)) => ((V.tup [(Sr v10.1), (I v10.2.1)]), _)) rfl rfl rfl rfl (p_callIO (fr := fun (v10 : (Str × Int × T_progenyref01_Reader)) => (V.tup [(Sr v10.1), (I v10.2.1)])) (fe := fun (v10 : (Str × Int × T_progenyref01_Reader)) => (eReader' v10.2.2)) rfl rfl rfl rfl rfl rfl rfl (ref01_Reader_Text_ok k x9) (fun _ => rfl))) <| bindE fun v10 => bind_end rfl) fun o11 => et k_assoc <| kra [(34, (Bo (o11.2.1 != 0)))] rfl <| kc rfl rfl (fun hc => ?_) fun hc => ?_
      · rw [hc]
        refine et k_assoc <| kr ⟨[(10, (I o11.2.1))], [(45, vS 2 (eReader' { o11.2.2 with fB := a0.fB }))], 45⟩ rfl <| et k_assoc <| kr ⟨[(2, (sS (([] : List Str)))), (3, (I o11.2.1))], [(45, vS 2 (eReader' { o11.2.2 with fB := a0.fB }))], 45⟩ rfl <| et k_ret <| et blk_ret <| et loop_ret <| et (hret _) ?_
        first | rfl | (cases a0; simp only at hc; subst hc; rfl)
      · rw [hc]
        exact et k_skip <| kgl f39a13 rfl (fun (o13 : (List Str)) => ⟨[(0, (Pt 45)), (4, (V.sl 0 1 (List.map (V.int .u8) a0.fB))), (5, (I o2.1)), (7, (V.sl 1 1 (List.map V.str o13))), (8, (I x8))], [(45, vS 2 (eReader' o11.2.2))], 45⟩) (ra 3 3 ⟨[(0, (Pt 45)), (4, (V.sl 0 1 (List.map (V.int .u8) a0.fB))), (5, (I o2.1)), (7, (sS x7)), (8, (I x8)), (9, (Sr o11.1)), (10, (I o11.2.1)), (34, (Bo false)), (40, (V.sl 1 1 (List.map V.str x7))), (41, (Sr o11.1)), (42, (sS (([o11.1] : List Str))))], [(45, vS 2 (eReader' o11.2.2))], 45⟩ rfl rfl rfl <| et (reg_eff (x := (app x7 ([o11.1] : List Str))) (w := fun v12 => ((V.sl 1 1 (List.map V.str v12)), _)) rfl rfl rfl rfl (p_app (e := V.str) rfl rfl rfl rfl rfl rfl rfl rfl rfl rfl (by decide))) <| bind_self fun v12 => bind_end rfl) fun o13 => et blk_normal <| kl ⟨[(0, (Pt 45)), (4, (V.sl 0 1 (List.map (V.int .u8) a0.fB))), (5, (I o2.1)), (7, (V.sl 1 1 (List.map V.str o13))), (8, (I (Go.IntKind.wrap .i64 (x8 + 1))))], [(45, vS 2 (eReader' o11.2.2))], 45⟩ rfl <| et loop_normal <| ih o13 (Go.IntKind.wrap .i64 (x8 + 1)) o11.2.2
    · rw [hc]
      exact et k_exit <| et loop_exit <| hK0 x7 x8 x9
theorem ref01_Reader_Texts_ok (k : Nat) (a0 : T_progenyref01_Reader) : EV k 39 [(V.io (eReader' a0))] = (ref01_Reader_Texts k a0).map ref01_Reader_Texts_fin := by
  cases k with
  | zero => rfl
  | succ k =>
    unfold ref01_Reader_Texts
    refine et (evF_succ (c := f39c) (N := 45) (regs := f39n) rfl func39 rfl (by decide) rfl rfl rfl) <| kra [] rfl <| kra [(4, (V.sl 0 1 (List.map (V.int .u8) a0.fB)))] rfl <| kg f39a2 rfl (fun (o2 : Int × Int × T_progenyref01_Reader) => ⟨[(0, (Pt 45)), (4, (V.sl 0 1 (List.map (V.int .u8) a0.fB))), (5, (I o2.1)), (6, (I o2.2.1))], [(45, vS 2 (eReader' o2.2.2))], 45⟩) (rd 1 [(16, (Pt 45))] rfl rfl <| et (reg_eff (x := (ref01_Reader_Small k a0)) (w := fun (v1 : (Int × Int × T_progenyref01_Reader)) => ((V.tup [(I v1.1), (I v1.2.1)]), _)) rfl rfl rfl rfl (p_callIO (fr := fun (v1 : (Int × Int × T_progenyref01_Reader)) => (V.tup [(I v1.1), (I v1.2.1)])) (fe := fun (v1 : (Int × Int × T_progenyref01_Reader)) => (eReader' v1.2.2)) rfl rfl rfl rfl rfl rfl rfl (ref01_Reader_Small_ok k a0) (fun _ => rfl))) <| bindE fun v1 => bind_end rfl) fun o2 => et k_assoc <| kra [(21, (Bo (o2.2.1 != 0)))] rfl <| kc rfl rfl (fun hc => ?_) fun hc => ?_
    · rw [hc]
      refine et k_assoc <| kr ⟨[(2, (sS (([] : List Str)))), (3, (I o2.2.1))], [(45, vS 2 (eReader' o2.2.2))], 45⟩ rfl <| et k_ret ?_
      rfl
    · rw [hc]
      refine et k_skip <| kr ⟨[(0, (Pt 45)), (4, (V.sl 0 1 (List.map (V.int .u8) a0.fB))), (5, (I o2.1)), (7, (V.sl 1 1 (List.map V.str ([] : List Str))))], [(45, vS 2 (eReader' o2.2.2))], 45⟩ rfl <| et k_assoc <| kra [(8, (I 0))] rfl <| et (k_block rfl) <| et k_loop ?_
      refine ref01_Reader_Texts_L1_ok k a0 o2 _ _ ?h_ref01_Reader_Texts_L1_0 ?hr_ref01_Reader_Texts_L1 k ([] : List Str) 0 o2.2.2
      · intro y14 y15 y16
        refine et blk_exit <| kr ⟨[(2, (sS y14)), (3, (I 0))], [(45, vS 2 (eReader' y16))], 45⟩ rfl <| et k_lret ?_
        first | rfl | (cases y16; simp only at hc; subst hc; rfl)
      · intro s; exact rfl
def ref01_SameTexts_fin : Bool → V × List V := fun r => ((Bo r), [])
theorem ref01_SameTexts_L1_ok (k : Nat) (a0 : (List Str)) (a1 : (List Str))  (K0 : Int → Option Bool) (Kst : X × St → Option (V × List V)) (hK0 : ∀ (y0 : Int), Kst (X.exit 0, ⟨[(0, (sS a0)), (1, (sS a1)), (5, (I y0)), (14, (Bo false))], [], 26⟩) = (K0 y0).map ref01_SameTexts_fin) (hret : ∀ s, Kst (X.ret, s) = endK prog 26 [(sS a0), (sS a1)] [] [.tmp 4] (X.ret, s)) :
    ∀ (m : Nat) (x4 : Int), (iter (exec prog (EV k) f26n k f26b0) m ⟨[(0, (sS a0)), (1, (sS a1)), (5, (I x4))], [], 26⟩).bind Kst = (ref01_SameTexts_L1 a0 a1 K0 m x4).map ref01_SameTexts_fin := by
  intro m
  induction m with
  | zero => intros; rfl
  | succ m ih =>
    intro x4
    unfold ref01_SameTexts_L1
    refine et k_round <| et k_assoc <| krp f26a4 rfl ⟨[(0, (sS a0)), (1, (sS a1)), (5, (I x4)), (14, (Bo (decide (x4 < (a0.length : Int)))))], [], 26⟩ ?_ ?_
    · exact rd 2 [(11, (I x4)), (12, (sS a0))] rfl rfl <| rl rfl (p_len (e := V.str) rfl rfl rfl rfl rfl rfl underlying22) <| bind_end rfl
    refine kc rfl rfl (fun hc => ?_) fun hc => ?_
    · rw [hc]
      refine et k_skip <| et (k_block rfl) <| kd f26a6 rfl (fun (o7 : Bool) => ⟨[(0, (sS a0)), (1, (sS a1)), (5, (I x4)), (25, (Bo o7))], [], 26⟩) (et (regionE_regp (p := 9) (dk := true) (t := [(0, (sS a0)), (1, (sS a1)), (5, (I x4)), (14, (Bo true))]) (σ := []) (n := 26) rfl (by decide) (by decide) rfl) <| et (regp_adv (m := 2) (j := 2) (t' := [(0, (sS a0)), (1, (sS a1)), (5, (I x4)), (14, (Bo true)), (17, (sS a0)), (18, (I x4))]) rfl rfl rfl) <| et (regp_pure (x := (idx a0 x4)) (w := fun v5 => (Pr (Sr v5))) rfl rfl rfl rfl rfl (p_index (e := V.str) rfl rfl rfl underlying22 rfl (by decide))) <| bindE fun v5 => et (putp_adv (m := 3) (j := 6) (t' := [(0, (sS a0)), (1, (sS a1)), (5, (I x4)), (14, (Bo true)), (17, (sS a0)), (18, (I x4)), (19, (Pr (Sr v5))), (20, (Sr v5)), (21, (sS a1)), (22, (I x4))]) rfl rfl rfl) <| et (regp_pure (x := (idx a1 x4)) (w := fun v6 => (Pr (Sr v6))) rfl rfl rfl rfl rfl (p_index (e := V.str) rfl rfl rfl underlying22 rfl (by decide))) <| bindE fun v6 => regp_end rfl) fun o7 => kcl rfl rfl (fun hc => ?_) fun hc => ?_
      · rw [hc]
        refine kr ⟨[(4, (Bo false))], [], 26⟩ rfl <| et k_lret <| et blk_ret <| et loop_ret <| et (hret _) ?_
        rfl
      · rw [hc]
        exact et k_lskip <| et blk_normal <| kl ⟨[(0, (sS a0)), (1, (sS a1)), (5, (I (Go.IntKind.wrap .i64 (x4 + 1))))], [], 26⟩ rfl <| et loop_normal <| ih (Go.IntKind.wrap .i64 (x4 + 1))
    · rw [hc]
      exact et k_exit <| et loop_exit <| hK0 x4
theorem ref01_SameTexts_ok (k : Nat) (a0 : (List Str)) (a1 : (List Str)) : EV k 26 [(sS a0), (sS a1)] = (ref01_SameTexts k a0 a1).map ref01_SameTexts_fin := by
  cases k with
  | zero => rfl
  | succ k =>
    unfold ref01_SameTexts
    refine et (evF_succ (c := f26c) (N := 26) (regs := f26n) rfl func26 rfl (by decide) rfl rfl rfl) <| kra [] rfl <| et k_assoc <| krp f26a1 rfl ⟨[(0, (sS a0)), (1, (sS a1)), (10, (Bo ((a0.length : Int) != (a1.length : Int))))], [], 26⟩ ?_ ?_
    · exact rd 1 [(6, (sS a0))] rfl rfl <| rl rfl (p_len (e := V.str) rfl rfl rfl rfl rfl rfl underlying22) <| bd 3 [(7, (I (a0.length : Int))), (8, (sS a1))] rfl rfl <| rl rfl (p_len (e := V.str) rfl rfl rfl rfl rfl rfl underlying22) <| bind_end rfl
    refine kc rfl rfl (fun hc => ?_) fun hc => ?_
    · rw [hc]
      refine et k_assoc <| kr ⟨[(4, (Bo false))], [], 26⟩ rfl <| et k_ret ?_
      rfl
    · rw [hc]
      refine et k_skip <| et k_assoc <| kr ⟨[(0, (sS a0)), (1, (sS a1)), (5, (I 0))], [], 26⟩ rfl <| et (k_block rfl) <| et k_loop ?_
      refine ref01_SameTexts_L1_ok k a0 a1 _ _ ?h_ref01_SameTexts_L1_0 ?hr_ref01_SameTexts_L1 k 0
      · intro y8
        refine et blk_exit <| kr ⟨[(4, (Bo true))], [], 26⟩ rfl <| et k_lret ?_
        rfl
      · intro s; exact rfl
def law01_OctetReads_fin : Bool → V × List V := fun r => ((Bo r), [])
theorem law01_OctetReads_L1_ok (k : Nat) (a0 : (List Int)) (a1 : (List Int))  (K0 : Int → T_octet_Reader → T_progenyref01_Reader → Option Bool) (Kst : X × St → Option (V × List V)) (hK0 : ∀ (y0 : Int) (y1 : T_octet_Reader) (y2 : T_progenyref01_Reader), Kst (X.exit 0, ⟨[(1, (V.sl 0 1 (List.map (V.int .u8) a1))), (5, (Pt 35)), (6, (Pt 37)), (7, (I y0)), (35, (Pt 35)), (37, (Pt 37)), (41, (Bo false))], [(35, vS 3 (eReader y1)), (37, vS 2 (eReader' y2))], 167⟩) = (K0 y0 y1 y2).map law01_OctetReads_fin) (hret : ∀ s, Kst (X.ret, s) = endK prog 167 [(V.sl 0 1 (List.map (V.int .u8) a0)), (V.sl 0 1 (List.map (V.int .u8) a1))] [] [.tmp 4] (X.ret, s)) :
    ∀ (m : Nat) (x47 : Int) (x48 : T_octet_Reader) (x49 : T_progenyref01_Reader), (iter (exec prog (EV k) f7n k f7b0) m ⟨[(1, (V.sl 0 1 (List.map (V.int .u8) a1))), (5, (Pt 35)), (6, (Pt 37)), (7, (I x47)), (35, (Pt 35)), (37, (Pt 37))], [(35, vS 3 (eReader x48)), (37, vS 2 (eReader' x49))], 167⟩).bind Kst = (law01_OctetReads_L1 k a1 K0 m x47 x48 x49).map law01_OctetReads_fin := by
  intro m
  induction m with
  | zero => intros; rfl
  | succ m ih =>
    intro x47 x48 x49
    unfold law01_OctetReads_L1
    refine et k_round <| et k_assoc <| krp f7a5 rfl ⟨[(1, (V.sl 0 1 (List.map (V.int .u8) a1))), (5, (Pt 35)), (6, (Pt 37)), (7, (I x47)), (35, (Pt 35)), (37, (Pt 37)), (41, (Bo (decide (x47 < (a1.length : Int)))))], [(35, vS 3 (eReader x48)), (37, vS 2 (eReader' x49))], 167⟩ ?_ ?_
    · exact rd 2 [(38, (I x47)), (39, (V.sl 0 1 (List.map (V.int .u8) a1)))] rfl rfl <| rl rfl (p_len (e := (V.int .u8)) rfl rfl rfl rfl rfl rfl underlying26) <| bind_end rfl
    refine kc rfl rfl (fun hc => ?_) fun hc => ?_
    · rw [hc]
      refine et k_skip <| et (k_block rfl) <| kr ⟨[(1, (V.sl 0 1 (List.map (V.int .u8) a1))), (5, (Pt 35)), (6, (Pt 37)), (7, (I x47)), (35, (Pt 35)), (37, (Pt 37))], [(35, vS 3 (eReader x48)), (37, vS 2 (eReader' x49))], 167⟩ rfl <| et k_assoc <| kga f7a8 rfl (fun (o52 : Int) => [(48, (V.int .u8 o52))]) (rd 2 [(44, (V.sl 0 1 (List.map (V.int .u8) a1))), (45, (I x47))] rfl rfl <| rp rfl (p_index (e := (V.int .u8)) rfl rfl rfl underlying26 rfl (by decide)) fun v50 => bd 4 [(46, (Pr (V.int .u8 v50))), (47, (V.int .u8 v50))] rfl rfl <| rs rfl (p_rem rfl rfl rfl) fun v51 => bind_end rfl) fun o52 => et (k_block rfl) <| kra [(67, (Bo (o52 == 0)))] rfl <| kcl rfl rfl (fun hc => ?_) fun hc => ?_
      · rw [hc]
        refine kg f7a13 rfl (fun (o54 : Int × Int × T_octet_Reader) => ⟨[(1, (V.sl 0 1 (List.map (V.int .u8) a1))), (5, (Pt 35)), (6, (Pt 37)), (7, (I x47)), (9, (I o54.1)), (10, (I o54.2.1)), (35, (Pt 35)), (37, (Pt 37))], [(35, vS 3 (eReader o54.2.2)), (37, vS 2 (eReader' x49))], 167⟩) (rd 1 [(70, (Pt 35))] rfl rfl <| et (reg_eff (x := (octet_Reader_Small k x48)) (w := fun (v53 : (Int × Int × T_octet_Reader)) => ((V.tup [(I v53.1), (I v53.2.1)]), _)) rfl rfl rfl rfl (p_callIO (fr := fun (v53 : (Int × Int × T_octet_Reader)) => (V.tup [(I v53.1), (I v53.2.1)])) (fe := fun (v53 : (Int × Int × T_octet_Reader)) => (eReader v53.2.2)) rfl rfl rfl rfl rfl rfl rfl (octet_Reader_Small_ok k x48) (fun _ => rfl))) <| bindE fun v53 => bind_end rfl) fun o54 => kg f7a14 rfl (fun (o56 : Int × Int × T_progenyref01_Reader) => ⟨[(1, (V.sl 0 1 (List.map (V.int .u8) a1))), (5, (Pt 35)), (6, (Pt 37)), (7, (I x47)), (9, (I o54.1)), (10, (I o54.2.1)), (11, (I o56.1)), (12, (I o56.2.1)), (35, (Pt 35)), (37, (Pt 37))], [(35, vS 3 (eReader o54.2.2)), (37, vS 2 (eReader' o56.2.2))], 167⟩) (rd 1 [(75, (Pt 37))] rfl rfl <| et (reg_eff (x := (ref01_Reader_Small k x49)) (w := fun (v55 : (Int × Int × T_progenyref01_Reader)) => ((V.tup [(I v55.1), (I v55.2.1)]), _)) rfl rfl rfl rfl (p_callIO (fr := fun (v55 : (Int × Int × T_progenyref01_Reader)) => (V.tup [(I v55.1), (I v55.2.1)])) (fe := fun (v55 : (Int × Int × T_progenyref01_Reader)) => (eReader' v55.2.2)) rfl rfl rfl rfl rfl rfl rfl (ref01_Reader_Small_ok k x49) (fun _ => rfl))) <| bindE fun v55 => bind_end rfl) fun o56 => kgl f7a15 rfl (fun (o57 : Bool) => ⟨[(1, (V.sl 0 1 (List.map (V.int .u8) a1))), (5, (Pt 35)), (6, (Pt 37)), (7, (I x47)), (8, (Bo o57)), (35, (Pt 35)), (37, (Pt 37))], [(35, vS 3 (eReader o54.2.2)), (37, vS 2 (eReader' o56.2.2))], 167⟩) ?_ fun o57 => ?_
        · refine rd 4 [(79, (I o54.1)), (80, (I o56.1)), (81, (Bo (o54.1 == o56.1))), (82, (Bo (o54.1 == o56.1)))] rfl rfl <| bifE (fun hc => ?_) fun hc => ?_
          · rw [hc]
            exact reg_end rfl
          · rw [hc]
            exact reg_end rfl
        refine et blk_normal <| kd f7a24 rfl (fun (o61 : Bool) => ⟨[(1, (V.sl 0 1 (List.map (V.int .u8) a1))), (5, (Pt 35)), (6, (Pt 37)), (7, (I x47)), (35, (Pt 35)), (37, (Pt 37)), (165, (Bo o61))], [(35, vS 3 (eReader o54.2.2)), (37, vS 2 (eReader' o56.2.2))], 167⟩) ?_ fun o61 => ?_
        · refine et (regionE_regp (p := 39) (dk := true) (t := [(1, (V.sl 0 1 (List.map (V.int .u8) a1))), (5, (Pt 35)), (6, (Pt 37)), (7, (I x47)), (8, (Bo o57)), (35, (Pt 35)), (37, (Pt 37))]) (σ := [(35, vS 3 (eReader o54.2.2)), (37, vS 2 (eReader' o56.2.2))]) (n := 167) rfl (by decide) (by decide) rfl) <| et (regp_adv (m := 3) (j := 3) (t' := [(1, (V.sl 0 1 (List.map (V.int .u8) a1))), (5, (Pt 35)), (6, (Pt 37)), (7, (I x47)), (8, (Bo o57)), (35, (Pt 35)), (37, (Pt 37)), (127, (Bo o57)), (128, (Bo (!o57))), (129, (Bo (!o57)))]) rfl rfl rfl) <| bifE (fun hc => ?_) fun hc => ?_
          · rw [hc]
            exact regp_end rfl
          · rw [hc]
            refine et (regp_adv (m := 1) (j := 4) (t' := [(1, (V.sl 0 1 (List.map (V.int .u8) a1))), (5, (Pt 35)), (6, (Pt 37)), (7, (I x47)), (8, (Bo o57)), (35, (Pt 35)), (37, (Pt 37)), (127, (Bo o57)), (128, (Bo false)), (129, (Bo false)), (130, (Pt 35))]) rfl rfl rfl) <| et (regp_pure (x := (octet_Reader_Left k o54.2.2)) (w := fun v58 => (I v58)) rfl rfl rfl rfl rfl (p_call rfl rfl rfl rfl rfl (octet_Reader_Left_ok k o54.2.2) (.inr (fun _ => rfl)))) <| bindE fun v58 => et (putp_adv (m := 4) (j := 9) (t' := [(1, (V.sl 0 1 (List.map (V.int .u8) a1))), (5, (Pt 35)), (6, (Pt 37)), (7, (I x47)), (8, (Bo o57)), (35, (Pt 35)), (37, (Pt 37)), (127, (Bo o57)), (128, (Bo false)), (129, (Bo false)), (130, (Pt 35)), (131, (I v58)), (132, (Pt 37)), (133, (Pt 37)), (134, (Pt 37)), (135, (V.sl 0 1 (List.map (V.int .u8) o56.2.2.fB)))]) rfl rfl rfl) <| et (regp_pure (x := some ()) (w := fun _ => (I (o56.2.2.fB.length : Int))) rfl rfl rfl rfl rfl (p_len (e := (V.int .u8)) rfl rfl rfl rfl rfl rfl underlying26)) <| et some_bind <| et (putp_adv (m := 3) (j := 13) (t' := [(1, (V.sl 0 1 (List.map (V.int .u8) a1))), (5, (Pt 35)), (6, (Pt 37)), (7, (I x47)), (8, (Bo o57)), (35, (Pt 35)), (37, (Pt 37)), (127, (Bo o57)), (128, (Bo false)), (129, (Bo false)), (130, (Pt 35)), (131, (I v58)), (132, (Pt 37)), (133, (Pt 37)), (134, (Pt 37)), (135, (V.sl 0 1 (List.map (V.int .u8) o56.2.2.fB))), (136, (I (o56.2.2.fB.length : Int))), (137, (Bo (v58 != (o56.2.2.fB.length : Int)))), (138, (Bo (v58 != (o56.2.2.fB.length : Int)))), (139, (Bo (v58 != (o56.2.2.fB.length : Int))))]) rfl rfl rfl) <| bifE (fun hc => ?_) fun hc => ?_
            · rw [hc]
              exact regp_end rfl
            · rw [hc]
              refine et (regp_adv (m := 1) (j := 14) (t' := [(1, (V.sl 0 1 (List.map (V.int .u8) a1))), (5, (Pt 35)), (6, (Pt 37)), (7, (I x47)), (8, (Bo o57)), (35, (Pt 35)), (37, (Pt 37)), (127, (Bo o57)), (128, (Bo false)), (129, (Bo false)), (130, (Pt 35)), (131, (I v58)), (132, (Pt 37)), (133, (Pt 37)), (134, (Pt 37)), (135, (V.sl 0 1 (List.map (V.int .u8) o56.2.2.fB))), (136, (I (o56.2.2.fB.length : Int))), (137, (Bo false)), (138, (Bo false)), (139, (Bo false)), (140, (Pt 35))]) rfl rfl rfl) <| et (regp_pure (x := (octet_Reader_Bad k o54.2.2)) (w := fun v59 => (Bo v59)) rfl rfl rfl rfl rfl (p_call rfl rfl rfl rfl rfl (octet_Reader_Bad_ok k o54.2.2) (.inr (fun _ => rfl)))) <| bindE fun v59 => et (putp_adv (m := 7) (j := 22) (t' := [(1, (V.sl 0 1 (List.map (V.int .u8) a1))), (5, (Pt 35)), (6, (Pt 37)), (7, (I x47)), (8, (Bo o57)), (35, (Pt 35)), (37, (Pt 37)), (127, (Bo o57)), (128, (Bo false)), (129, (Bo false)), (130, (Pt 35)), (131, (I v58)), (132, (Pt 37)), (133, (Pt 37)), (134, (Pt 37)), (135, (V.sl 0 1 (List.map (V.int .u8) o56.2.2.fB))), (136, (I (o56.2.2.fB.length : Int))), (137, (Bo false)), (138, (Bo false)), (139, (Bo false)), (140, (Pt 35)), (141, (Bo v59)), (142, (Pt 37)), (143, (Pt 37)), (144, (V.ptr 37 0 1)), (145, (Bo o56.2.2.fBad)), (146, (Bo (!(v59 == o56.2.2.fBad)))), (147, (Bo (!(v59 == o56.2.2.fBad)))), (148, (Bo (!(v59 == o56.2.2.fBad))))]) rfl rfl rfl) <| bifE (fun hc => ?_) fun hc => ?_
              · rw [hc]
                exact regp_end rfl
              · rw [hc]
                refine et (regp_adv (m := 1) (j := 23) (t' := [(1, (V.sl 0 1 (List.map (V.int .u8) a1))), (5, (Pt 35)), (6, (Pt 37)), (7, (I x47)), (8, (Bo o57)), (35, (Pt 35)), (37, (Pt 37)), (127, (Bo o57)), (128, (Bo false)), (129, (Bo false)), (130, (Pt 35)), (131, (I v58)), (132, (Pt 37)), (133, (Pt 37)), (134, (Pt 37)), (135, (V.sl 0 1 (List.map (V.int .u8) o56.2.2.fB))), (136, (I (o56.2.2.fB.length : Int))), (137, (Bo false)), (138, (Bo false)), (139, (Bo false)), (140, (Pt 35)), (141, (Bo v59)), (142, (Pt 37)), (143, (Pt 37)), (144, (V.ptr 37 0 1)), (145, (Bo o56.2.2.fBad)), (146, (Bo false)), (147, (Bo false)), (148, (Bo false)), (149, (Pt 35))]) rfl rfl rfl) <| et (regp_pure (x := (octet_Reader_Done k o54.2.2)) (w := fun v60 => (Bo v60)) rfl rfl rfl rfl rfl (p_call rfl rfl rfl rfl rfl (octet_Reader_Done_ok k o54.2.2) (.inr (fun _ => rfl)))) <| bindE fun v60 => et (putp_adv (m := 6) (j := 30) (t' := [(1, (V.sl 0 1 (List.map (V.int .u8) a1))), (5, (Pt 35)), (6, (Pt 37)), (7, (I x47)), (8, (Bo o57)), (35, (Pt 35)), (37, (Pt 37)), (127, (Bo o57)), (128, (Bo false)), (129, (Bo false)), (130, (Pt 35)), (131, (I v58)), (132, (Pt 37)), (133, (Pt 37)), (134, (Pt 37)), (135, (V.sl 0 1 (List.map (V.int .u8) o56.2.2.fB))), (136, (I (o56.2.2.fB.length : Int))), (137, (Bo false)), (138, (Bo false)), (139, (Bo false)), (140, (Pt 35)), (141, (Bo v59)), (142, (Pt 37)), (143, (Pt 37)), (144, (V.ptr 37 0 1)), (145, (Bo o56.2.2.fBad)), (146, (Bo false)), (147, (Bo false)), (148, (Bo false)), (149, (Pt 35)), (150, (Bo v60)), (151, (Pt 37)), (152, (Pt 37)), (153, (V.ptr 37 0 1)), (154, (Bo o56.2.2.fBad)), (155, (Bo (!o56.2.2.fBad))), (156, (Bo (!o56.2.2.fBad)))]) rfl rfl rfl) <| bifE (fun hc => ?_) fun hc => ?_
                · rw [hc]
                  exact et (regp_adv (m := 4) (j := 34) (t' := [(1, (V.sl 0 1 (List.map (V.int .u8) a1))), (5, (Pt 35)), (6, (Pt 37)), (7, (I x47)), (8, (Bo o57)), (35, (Pt 35)), (37, (Pt 37)), (127, (Bo o57)), (128, (Bo false)), (129, (Bo false)), (130, (Pt 35)), (131, (I v58)), (132, (Pt 37)), (133, (Pt 37)), (134, (Pt 37)), (135, (V.sl 0 1 (List.map (V.int .u8) o56.2.2.fB))), (136, (I (o56.2.2.fB.length : Int))), (137, (Bo false)), (138, (Bo false)), (139, (Bo false)), (140, (Pt 35)), (141, (Bo v59)), (142, (Pt 37)), (143, (Pt 37)), (144, (V.ptr 37 0 1)), (145, (Bo o56.2.2.fBad)), (146, (Bo false)), (147, (Bo false)), (148, (Bo false)), (149, (Pt 35)), (150, (Bo v60)), (151, (Pt 37)), (152, (Pt 37)), (153, (V.ptr 37 0 1)), (154, (Bo o56.2.2.fBad)), (155, (Bo true)), (156, (Bo true)), (157, (Pt 37)), (158, (Pt 37)), (159, (Pt 37)), (160, (V.sl 0 1 (List.map (V.int .u8) o56.2.2.fB)))]) rfl rfl rfl) <| et (regp_pure (x := some ()) (w := fun _ => (I (o56.2.2.fB.length : Int))) rfl rfl rfl rfl rfl (p_len (e := (V.int .u8)) rfl rfl rfl rfl rfl rfl underlying26)) <| et some_bind <| regp_end rfl
                · rw [hc]
                  exact regp_end rfl
        refine kcl rfl rfl (fun hc => ?_) fun hc => ?_
        · rw [hc]
          refine kr ⟨[(4, (Bo false))], [], 167⟩ rfl <| et k_lret <| et blk_ret <| et loop_ret <| et (hret _) ?_
          rfl
        · rw [hc]
          exact et k_lskip <| et blk_normal <| kl ⟨[(1, (V.sl 0 1 (List.map (V.int .u8) a1))), (5, (Pt 35)), (6, (Pt 37)), (7, (I (Go.IntKind.wrap .i64 (x47 + 1)))), (35, (Pt 35)), (37, (Pt 37))], [(35, vS 3 (eReader o54.2.2)), (37, vS 2 (eReader' o56.2.2))], 167⟩ rfl <| et loop_normal <| ih (Go.IntKind.wrap .i64 (x47 + 1)) o54.2.2 o56.2.2
      · rw [hc]
        refine kr ⟨[(1, (V.sl 0 1 (List.map (V.int .u8) a1))), (5, (Pt 35)), (6, (Pt 37)), (7, (I x47)), (35, (Pt 35)), (37, (Pt 37)), (48, (V.int .u8 o52)), (87, (Bo (o52 == 1)))], [(35, vS 3 (eReader x48)), (37, vS 2 (eReader' x49))], 167⟩ rfl <| kcl rfl rfl (fun hc => ?_) fun hc => ?_
        · rw [hc]
          refine kg f7a17 rfl (fun (o63 : Int × Int × T_octet_Reader) => ⟨[(1, (V.sl 0 1 (List.map (V.int .u8) a1))), (5, (Pt 35)), (6, (Pt 37)), (7, (I x47)), (13, (I o63.1)), (14, (I o63.2.1)), (35, (Pt 35)), (37, (Pt 37))], [(35, vS 3 (eReader o63.2.2)), (37, vS 2 (eReader' x49))], 167⟩) (rd 1 [(90, (Pt 35))] rfl rfl <| et (reg_eff (x := (octet_Reader_Number k x48)) (w := fun (v62 : (Int × Int × T_octet_Reader)) => ((V.tup [(I v62.1), (I v62.2.1)]), _)) rfl rfl rfl rfl (p_callIO (fr := fun (v62 : (Int × Int × T_octet_Reader)) => (V.tup [(I v62.1), (I v62.2.1)])) (fe := fun (v62 : (Int × Int × T_octet_Reader)) => (eReader v62.2.2)) rfl rfl rfl rfl rfl rfl rfl (octet_Reader_Number_ok k x48) (fun _ => rfl))) <| bindE fun v62 => bind_end rfl) fun o63 => kg f7a18 rfl (fun (o65 : Int × Int × T_progenyref01_Reader) => ⟨[(1, (V.sl 0 1 (List.map (V.int .u8) a1))), (5, (Pt 35)), (6, (Pt 37)), (7, (I x47)), (13, (I o63.1)), (14, (I o63.2.1)), (15, (I o65.1)), (16, (I o65.2.1)), (35, (Pt 35)), (37, (Pt 37))], [(35, vS 3 (eReader o63.2.2)), (37, vS 2 (eReader' o65.2.2))], 167⟩) (rd 1 [(95, (Pt 37))] rfl rfl <| et (reg_eff (x := (ref01_Reader_Number k x49)) (w := fun (v64 : (Int × Int × T_progenyref01_Reader)) => ((V.tup [(I v64.1), (I v64.2.1)]), _)) rfl rfl rfl rfl (p_callIO (fr := fun (v64 : (Int × Int × T_progenyref01_Reader)) => (V.tup [(I v64.1), (I v64.2.1)])) (fe := fun (v64 : (Int × Int × T_progenyref01_Reader)) => (eReader' v64.2.2)) rfl rfl rfl rfl rfl rfl rfl (ref01_Reader_Number_ok k x49) (fun _ => rfl))) <| bindE fun v64 => bind_end rfl) fun o65 => kgl f7a19 rfl (fun (o66 : Bool) => ⟨[(1, (V.sl 0 1 (List.map (V.int .u8) a1))), (5, (Pt 35)), (6, (Pt 37)), (7, (I x47)), (8, (Bo o66)), (35, (Pt 35)), (37, (Pt 37))], [(35, vS 3 (eReader o63.2.2)), (37, vS 2 (eReader' o65.2.2))], 167⟩) ?_ fun o66 => ?_
          · refine rd 4 [(99, (I o63.1)), (100, (I o65.1)), (101, (Bo (o63.1 == o65.1))), (102, (Bo (o63.1 == o65.1)))] rfl rfl <| bifE (fun hc => ?_) fun hc => ?_
            · rw [hc]
              exact reg_end rfl
            · rw [hc]
              exact reg_end rfl
          refine et blk_normal <| kd f7a24 rfl (fun (o70 : Bool) => ⟨[(1, (V.sl 0 1 (List.map (V.int .u8) a1))), (5, (Pt 35)), (6, (Pt 37)), (7, (I x47)), (35, (Pt 35)), (37, (Pt 37)), (165, (Bo o70))], [(35, vS 3 (eReader o63.2.2)), (37, vS 2 (eReader' o65.2.2))], 167⟩) ?_ fun o70 => ?_
          · refine et (regionE_regp (p := 39) (dk := true) (t := [(1, (V.sl 0 1 (List.map (V.int .u8) a1))), (5, (Pt 35)), (6, (Pt 37)), (7, (I x47)), (8, (Bo o66)), (35, (Pt 35)), (37, (Pt 37))]) (σ := [(35, vS 3 (eReader o63.2.2)), (37, vS 2 (eReader' o65.2.2))]) (n := 167) rfl (by decide) (by decide) rfl) <| et (regp_adv (m := 3) (j := 3) (t' := [(1, (V.sl 0 1 (List.map (V.int .u8) a1))), (5, (Pt 35)), (6, (Pt 37)), (7, (I x47)), (8, (Bo o66)), (35, (Pt 35)), (37, (Pt 37)), (127, (Bo o66)), (128, (Bo (!o66))), (129, (Bo (!o66)))]) rfl rfl rfl) <| bifE (fun hc => ?_) fun hc => ?_
            · rw [hc]
              exact regp_end rfl
            · rw [hc]
              refine et (regp_adv (m := 1) (j := 4) (t' := [(1, (V.sl 0 1 (List.map (V.int .u8) a1))), (5, (Pt 35)), (6, (Pt 37)), (7, (I x47)), (8, (Bo o66)), (35, (Pt 35)), (37, (Pt 37)), (127, (Bo o66)), (128, (Bo false)), (129, (Bo false)), (130, (Pt 35))]) rfl rfl rfl) <| et (regp_pure (x := (octet_Reader_Left k o63.2.2)) (w := fun v67 => (I v67)) rfl rfl rfl rfl rfl (p_call rfl rfl rfl rfl rfl (octet_Reader_Left_ok k o63.2.2) (.inr (fun _ => rfl)))) <| bindE fun v67 => et (putp_adv (m := 4) (j := 9) (t' := [(1, (V.sl 0 1 (List.map (V.int .u8) a1))), (5, (Pt 35)), (6, (Pt 37)), (7, (I x47)), (8, (Bo o66)), (35, (Pt 35)), (37, (Pt 37)), (127, (Bo o66)), (128, (Bo false)), (129, (Bo false)), (130, (Pt 35)), (131, (I v67)), (132, (Pt 37)), (133, (Pt 37)), (134, (Pt 37)), (135, (V.sl 0 1 (List.map (V.int .u8) o65.2.2.fB)))]) rfl rfl rfl) <| et (regp_pure (x := some ()) (w := fun _ => (I (o65.2.2.fB.length : Int))) rfl rfl rfl rfl rfl (p_len (e := (V.int .u8)) rfl rfl rfl rfl rfl rfl underlying26)) <| et some_bind <| et (putp_adv (m := 3) (j := 13) (t' := [(1, (V.sl 0 1 (List.map (V.int .u8) a1))), (5, (Pt 35)), (6, (Pt 37)), (7, (I x47)), (8, (Bo o66)), (35, (Pt 35)), (37, (Pt 37)), (127, (Bo o66)), (128, (Bo false)), (129, (Bo false)), (130, (Pt 35)), (131, (I v67)), (132, (Pt 37)), (133, (Pt 37)), (134, (Pt 37)), (135, (V.sl 0 1 (List.map (V.int .u8) o65.2.2.fB))), (136, (I (o65.2.2.fB.length : Int))), (137, (Bo (v67 != (o65.2.2.fB.length : Int)))), (138, (Bo (v67 != (o65.2.2.fB.length : Int)))), (139, (Bo (v67 != (o65.2.2.fB.length : Int))))]) rfl rfl rfl) <| bifE (fun hc => ?_) fun hc => ?_
              · rw [hc]
                exact regp_end rfl
              · rw [hc]
                refine et (regp_adv (m := 1) (j := 14) (t' := [(1, (V.sl 0 1 (List.map (V.int .u8) a1))), (5, (Pt 35)), (6, (Pt 37)), (7, (I x47)), (8, (Bo o66)), (35, (Pt 35)), (37, (Pt 37)), (127, (Bo o66)), (128, (Bo false)), (129, (Bo false)), (130, (Pt 35)), (131, (I v67)), (132, (Pt 37)), (133, (Pt 37)), (134, (Pt 37)), (135, (V.sl 0 1 (List.map (V.int .u8) o65.2.2.fB))), (136, (I (o65.2.2.fB.length : Int))), (137, (Bo false)), (138, (Bo false)), (139, (Bo false)), (140, (Pt 35))]) rfl rfl rfl) <| et (regp_pure (x := (octet_Reader_Bad k o63.2.2)) (w := fun v68 => (Bo v68)) rfl rfl rfl rfl rfl (p_call rfl rfl rfl rfl rfl (octet_Reader_Bad_ok k o63.2.2) (.inr (fun _ => rfl)))) <| bindE fun v68 => et (putp_adv (m := 7) (j := 22) (t' := [(1, (V.sl 0 1 (List.map (V.int .u8) a1))), (5, (Pt 35)), (6, (Pt 37)), (7, (I x47)), (8, (Bo o66)), (35, (Pt 35)), (37, (Pt 37)), (127, (Bo o66)), (128, (Bo false)), (129, (Bo false)), (130, (Pt 35)), (131, (I v67)), (132, (Pt 37)), (133, (Pt 37)), (134, (Pt 37)), (135, (V.sl 0 1 (List.map (V.int .u8) o65.2.2.fB))), (136, (I (o65.2.2.fB.length : Int))), (137, (Bo false)), (138, (Bo false)), (139, (Bo false)), (140, (Pt 35)), (141, (Bo v68)), (142, (Pt 37)), (143, (Pt 37)), (144, (V.ptr 37 0 1)), (145, (Bo o65.2.2.fBad)), (146, (Bo (!(v68 == o65.2.2.fBad)))), (147, (Bo (!(v68 == o65.2.2.fBad)))), (148, (Bo (!(v68 == o65.2.2.fBad))))]) rfl rfl rfl) <| bifE (fun hc => ?_) fun hc => ?_
                · rw [hc]
                  exact regp_end rfl
                · rw [hc]
                  refine et (regp_adv (m := 1) (j := 23) (t' := [(1, (V.sl 0 1 (List.map (V.int .u8) a1))), (5, (Pt 35)), (6, (Pt 37)), (7, (I x47)), (8, (Bo o66)), (35, (Pt 35)), (37, (Pt 37)), (127, (Bo o66)), (128, (Bo false)), (129, (Bo false)), (130, (Pt 35)), (131, (I v67)), (132, (Pt 37)), (133, (Pt 37)), (134, (Pt 37)), (135, (V.sl 0 1 (List.map (V.int .u8) o65.2.2.fB))), (136, (I (o65.2.2.fB.length : Int))), (137, (Bo false)), (138, (Bo false)), (139, (Bo false)), (140, (Pt 35)), (141, (Bo v68)), (142, (Pt 37)), (143, (Pt 37)), (144, (V.ptr 37 0 1)), (145, (Bo o65.2.2.fBad)), (146, (Bo false)), (147, (Bo false)), (148, (Bo false)), (149, (Pt 35))]) rfl rfl rfl) <| et (regp_pure (x := (octet_Reader_Done k o63.2.2)) (w := fun v69 => (Bo v69)) rfl rfl rfl rfl rfl (p_call rfl rfl rfl rfl rfl (octet_Reader_Done_ok k o63.2.2) (.inr (fun _ => rfl)))) <| bindE fun v69 => et (putp_adv (m := 6) (j := 30) (t' := [(1, (V.sl 0 1 (List.map (V.int .u8) a1))), (5, (Pt 35)), (6, (Pt 37)), (7, (I x47)), (8, (Bo o66)), (35, (Pt 35)), (37, (Pt 37)), (127, (Bo o66)), (128, (Bo false)), (129, (Bo false)), (130, (Pt 35)), (131, (I v67)), (132, (Pt 37)), (133, (Pt 37)), (134, (Pt 37)), (135, (V.sl 0 1 (List.map (V.int .u8) o65.2.2.fB))), (136, (I (o65.2.2.fB.length : Int))), (137, (Bo false)), (138, (Bo false)), (139, (Bo false)), (140, (Pt 35)), (141, (Bo v68)), (142, (Pt 37)), (143, (Pt 37)), (144, (V.ptr 37 0 1)), (145, (Bo o65.2.2.fBad)), (146, (Bo false)), (147, (Bo false)), (148, (Bo false)), (149, (Pt 35)), (150, (Bo v69)), (151, (Pt 37)), (152, (Pt 37)), (153, (V.ptr 37 0 1)), (154, (Bo o65.2.2.fBad)), (155, (Bo (!o65.2.2.fBad))), (156, (Bo (!o65.2.2.fBad)))]) rfl rfl rfl) <| bifE (fun hc => ?_) fun hc => ?_
                  · rw [hc]
                    exact et (regp_adv (m := 4) (j := 34) (t' := [(1, (V.sl 0 1 (List.map (V.int .u8) a1))), (5, (Pt 35)), (6, (Pt 37)), (7, (I x47)), (8, (Bo o66)), (35, (Pt 35)), (37, (Pt 37)), (127, (Bo o66)), (128, (Bo false)), (129, (Bo false)), (130, (Pt 35)), (131, (I v67)), (132, (Pt 37)), (133, (Pt 37)), (134, (Pt 37)), (135, (V.sl 0 1 (List.map (V.int .u8) o65.2.2.fB))), (136, (I (o65.2.2.fB.length : Int))), (137, (Bo false)), (138, (Bo false)), (139, (Bo false)), (140, (Pt 35)), (141, (Bo v68)), (142, (Pt 37)), (143, (Pt 37)), (144, (V.ptr 37 0 1)), (145, (Bo o65.2.2.fBad)), (146, (Bo false)), (147, (Bo false)), (148, (Bo false)), (149, (Pt 35)), (150, (Bo v69)), (151, (Pt 37)), (152, (Pt 37)), (153, (V.ptr 37 0 1)), (154, (Bo o65.2.2.fBad)), (155, (Bo true)), (156, (Bo true)), (157, (Pt 37)), (158, (Pt 37)), (159, (Pt 37)), (160, (V.sl 0 1 (List.map (V.int .u8) o65.2.2.fB)))]) rfl rfl rfl) <| et (regp_pure (x := some ()) (w := fun _ => (I (o65.2.2.fB.length : Int))) rfl rfl rfl rfl rfl (p_len (e := (V.int .u8)) rfl rfl rfl rfl rfl rfl underlying26)) <| et some_bind <| regp_end rfl
                  · rw [hc]
                    exact regp_end rfl
          refine kcl rfl rfl (fun hc => ?_) fun hc => ?_
          · rw [hc]
            refine kr ⟨[(4, (Bo false))], [], 167⟩ rfl <| et k_lret <| et blk_ret <| et loop_ret <| et (hret _) ?_
            rfl
          · rw [hc]
            exact et k_lskip <| et blk_normal <| kl ⟨[(1, (V.sl 0 1 (List.map (V.int .u8) a1))), (5, (Pt 35)), (6, (Pt 37)), (7, (I (Go.IntKind.wrap .i64 (x47 + 1)))), (35, (Pt 35)), (37, (Pt 37))], [(35, vS 3 (eReader o63.2.2)), (37, vS 2 (eReader' o65.2.2))], 167⟩ rfl <| et loop_normal <| ih (Go.IntKind.wrap .i64 (x47 + 1)) o63.2.2 o65.2.2
        · rw [hc]
          refine kr ⟨[(1, (V.sl 0 1 (List.map (V.int .u8) a1))), (5, (Pt 35)), (6, (Pt 37)), (7, (I x47)), (35, (Pt 35)), (37, (Pt 37)), (107, (Bo (o52 == 2)))], [(35, vS 3 (eReader x48)), (37, vS 2 (eReader' x49))], 167⟩ rfl <| kcl rfl rfl (fun hc => ?_) fun hc => ?_
          · rw [hc]
            refine kg f7a21 rfl (fun (o72 : Str × Int × T_octet_Reader) => ⟨[(1, (V.sl 0 1 (List.map (V.int .u8) a1))), (5, (Pt 35)), (6, (Pt 37)), (7, (I x47)), (17, (Sr o72.1)), (18, (I o72.2.1)), (35, (Pt 35)), (37, (Pt 37))], [(35, vS 3 (eReader o72.2.2)), (37, vS 2 (eReader' x49))], 167⟩) (rd 1 [(110, (Pt 35))] rfl rfl <| et (reg_eff (x := (octet_Reader_Text k x48)) (w := fun (v71 : (Str × Int × T_octet_Reader)) => ((V.tup [(Sr v71.1), (I v71.2.1)]), _)) rfl rfl rfl rfl (p_callIO (fr := fun (v71 : (Str × Int × T_octet_Reader)) => (V.tup [(Sr v71.1), (I v71.2.1)])) (fe := fun (v71 : (Str × Int × T_octet_Reader)) => (eReader v71.2.2)) rfl rfl rfl rfl rfl rfl rfl (octet_Reader_Text_ok k x48) (fun _ => rfl))) <| bindE fun v71 => bind_end rfl) fun o72 => kg f7a22 rfl (fun (o74 : Str × Int × T_progenyref01_Reader) => ⟨[(1, (V.sl 0 1 (List.map (V.int .u8) a1))), (5, (Pt 35)), (6, (Pt 37)), (7, (I x47)), (17, (Sr o72.1)), (18, (I o72.2.1)), (19, (Sr o74.1)), (20, (I o74.2.1)), (35, (Pt 35)), (37, (Pt 37))], [(35, vS 3 (eReader o72.2.2)), (37, vS 2 (eReader' o74.2.2))], 167⟩) (rd 1 [(115, (Pt 37))] rfl rfl <| et (reg_eff (x := (ref01_Reader_Text k x49)) (w := fun (v73 : (Str × Int × T_progenyref01_Reader)) => ((V.tup [(Sr v73.1), (I v73.2.1)]), _)) rfl rfl rfl rfl (p_callIO (fr := fun (v73 : (Str × Int × T_progenyref01_Reader)) => (V.tup [(Sr v73.1), (I v73.2.1)])) (fe := fun (v73 : (Str × Int × T_progenyref01_Reader)) => (eReader' v73.2.2)) rfl rfl rfl rfl rfl rfl rfl (ref01_Reader_Text_ok k x49) (fun _ => rfl))) <| bindE fun v73 => bind_end rfl) fun o74 => kgl f7a23 rfl (fun (o75 : Bool) => ⟨[(1, (V.sl 0 1 (List.map (V.int .u8) a1))), (5, (Pt 35)), (6, (Pt 37)), (7, (I x47)), (8, (Bo o75)), (35, (Pt 35)), (37, (Pt 37))], [(35, vS 3 (eReader o72.2.2)), (37, vS 2 (eReader' o74.2.2))], 167⟩) ?_ fun o75 => ?_
            · refine rd 4 [(119, (Sr o72.1)), (120, (Sr o74.1)), (121, (Bo (o72.1 == o74.1))), (122, (Bo (o72.1 == o74.1)))] rfl rfl <| bifE (fun hc => ?_) fun hc => ?_
              · rw [hc]
                exact reg_end rfl
              · rw [hc]
                exact reg_end rfl
            refine et blk_normal <| kd f7a24 rfl (fun (o79 : Bool) => ⟨[(1, (V.sl 0 1 (List.map (V.int .u8) a1))), (5, (Pt 35)), (6, (Pt 37)), (7, (I x47)), (35, (Pt 35)), (37, (Pt 37)), (165, (Bo o79))], [(35, vS 3 (eReader o72.2.2)), (37, vS 2 (eReader' o74.2.2))], 167⟩) ?_ fun o79 => ?_
            · refine et (regionE_regp (p := 39) (dk := true) (t := [(1, (V.sl 0 1 (List.map (V.int .u8) a1))), (5, (Pt 35)), (6, (Pt 37)), (7, (I x47)), (8, (Bo o75)), (35, (Pt 35)), (37, (Pt 37))]) (σ := [(35, vS 3 (eReader o72.2.2)), (37, vS 2 (eReader' o74.2.2))]) (n := 167) rfl (by decide) (by decide) rfl) <| et (regp_adv (m := 3) (j := 3) (t' := [(1, (V.sl 0 1 (List.map (V.int .u8) a1))), (5, (Pt 35)), (6, (Pt 37)), (7, (I x47)), (8, (Bo o75)), (35, (Pt 35)), (37, (Pt 37)), (127, (Bo o75)), (128, (Bo (!o75))), (129, (Bo (!o75)))]) rfl rfl rfl) <| bifE (fun hc => ?_) fun hc => ?_
              · rw [hc]
                exact regp_end rfl
              · rw [hc]
                refine et (regp_adv (m := 1) (j := 4) (t' := [(1, (V.sl 0 1 (List.map (V.int .u8) a1))), (5, (Pt 35)), (6, (Pt 37)), (7, (I x47)), (8, (Bo o75)), (35, (Pt 35)), (37, (Pt 37)), (127, (Bo o75)), (128, (Bo false)), (129, (Bo false)), (130, (Pt 35))]) rfl rfl rfl) <| et (regp_pure (x := (octet_Reader_Left k o72.2.2)) (w := fun v76 => (I v76)) rfl rfl rfl rfl rfl (p_call rfl rfl rfl rfl rfl (octet_Reader_Left_ok k o72.2.2) (.inr (fun _ => rfl)))) <| bindE fun v76 => et (putp_adv (m := 4) (j := 9) (t' := [(1, (V.sl 0 1 (List.map (V.int .u8) a1))), (5, (Pt 35)), (6, (Pt 37)), (7, (I x47)), (8, (Bo o75)), (35, (Pt 35)), (37, (Pt 37)), (127, (Bo o75)), (128, (Bo false)), (129, (Bo false)), (130, (Pt 35)), (131, (I v76)), (132, (Pt 37)), (133, (Pt 37)), (134, (Pt 37)), (135, (V.sl 0 1 (List.map (V.int .u8) o74.2.2.fB)))]) rfl rfl rfl) <| et (regp_pure (x := some ()) (w := fun _ => (I (o74.2.2.fB.length : Int))) rfl rfl rfl rfl rfl (p_len (e := (V.int .u8)) rfl rfl rfl rfl rfl rfl underlying26)) <| et some_bind <| et (putp_adv (m := 3) (j := 13) (t' := [(1, (V.sl 0 1 (List.map (V.int .u8) a1))), (5, (Pt 35)), (6, (Pt 37)), (7, (I x47)), (8, (Bo o75)), (35, (Pt 35)), (37, (Pt 37)), (127, (Bo o75)), (128, (Bo false)), (129, (Bo false)), (130, (Pt 35)), (131, (I v76)), (132, (Pt 37)), (133, (Pt 37)), (134, (Pt 37)), (135, (V.sl 0 1 (List.map (V.int .u8) o74.2.2.fB))), (136, (I (o74.2.2.fB.length : Int))), (137, (Bo (v76 != (o74.2.2.fB.length : Int)))), (138, (Bo (v76 != (o74.2.2.fB.length : Int)))), (139, (Bo (v76 != (o74.2.2.fB.length : Int))))]) rfl rfl rfl) <| bifE (fun hc => ?_) fun hc => ?_
                · rw [hc]
                  exact regp_end rfl
                · rw [hc]
                  refine et (regp_adv (m := 1) (j := 14) (t' := [(1, (V.sl 0 1 (List.map (V.int .u8) a1))), (5, (Pt 35)), (6, (Pt 37)), (7, (I x47)), (8, (Bo o75)), (35, (Pt 35)), (37, (Pt 37)), (127, (Bo o75)), (128, (Bo false)), (129, (Bo false)), (130, (Pt 35)), (131, (I v76)), (132, (Pt 37)), (133, (Pt 37)), (134, (Pt 37)), (135, (V.sl 0 1 (List.map (V.int .u8) o74.2.2.fB))), (136, (I (o74.2.2.fB.length : Int))), (137, (Bo false)), (138, (Bo false)), (139, (Bo false)), (140, (Pt 35))]) rfl rfl rfl) <| et (regp_pure (x := (octet_Reader_Bad k o72.2.2)) (w := fun v77 => (Bo v77)) rfl rfl rfl rfl rfl (p_call rfl rfl rfl rfl rfl (octet_Reader_Bad_ok k o72.2.2) (.inr (fun _ => rfl)))) <| bindE fun v77 => et (putp_adv (m := 7) (j := 22) (t' := [(1, (V.sl 0 1 (List.map (V.int .u8) a1))), (5, (Pt 35)), (6, (Pt 37)), (7, (I x47)), (8, (Bo o75)), (35, (Pt 35)), (37, (Pt 37)), (127, (Bo o75)), (128, (Bo false)), (129, (Bo false)), (130, (Pt 35)), (131, (I v76)), (132, (Pt 37)), (133, (Pt 37)), (134, (Pt 37)), (135, (V.sl 0 1 (List.map (V.int .u8) o74.2.2.fB))), (136, (I (o74.2.2.fB.length : Int))), (137, (Bo false)), (138, (Bo false)), (139, (Bo false)), (140, (Pt 35)), (141, (Bo v77)), (142, (Pt 37)), (143, (Pt 37)), (144, (V.ptr 37 0 1)), (145, (Bo o74.2.2.fBad)), (146, (Bo (!(v77 == o74.2.2.fBad)))), (147, (Bo (!(v77 == o74.2.2.fBad)))), (148, (Bo (!(v77 == o74.2.2.fBad))))]) rfl rfl rfl) <| bifE (fun hc => ?_) fun hc => ?_
                  · rw [hc]
                    exact regp_end rfl
                  · rw [hc]
                    refine et (regp_adv (m := 1) (j := 23) (t' := [(1, (V.sl 0 1 (List.map (V.int .u8) a1))), (5, (Pt 35)), (6, (Pt 37)), (7, (I x47)), (8, (Bo o75)), (35, (Pt 35)), (37, (Pt 37)), (127, (Bo o75)), (128, (Bo false)), (129, (Bo false)), (130, (Pt 35)), (131, (I v76)), (132, (Pt 37)), (133, (Pt 37)), (134, (Pt 37)), (135, (V.sl 0 1 (List.map (V.int .u8) o74.2.2.fB))), (136, (I (o74.2.2.fB.length : Int))), (137, (Bo false)), (138, (Bo false)), (139, (Bo false)), (140, (Pt 35)), (141, (Bo v77)), (142, (Pt 37)), (143, (Pt 37)), (144, (V.ptr 37 0 1)), (145, (Bo o74.2.2.fBad)), (146, (Bo false)), (147, (Bo false)), (148, (Bo false)), (149, (Pt 35))]) rfl rfl rfl) <| et (regp_pure (x := (octet_Reader_Done k o72.2.2)) (w := fun v78 => (Bo v78)) rfl rfl rfl rfl rfl (p_call rfl rfl rfl rfl rfl (octet_Reader_Done_ok k o72.2.2) (.inr (fun _ => rfl)))) <| bindE fun v78 => et (putp_adv (m := 6) (j := 30) (t' := [(1, (V.sl 0 1 (List.map (V.int .u8) a1))), (5, (Pt 35)), (6, (Pt 37)), (7, (I x47)), (8, (Bo o75)), (35, (Pt 35)), (37, (Pt 37)), (127, (Bo o75)), (128, (Bo false)), (129, (Bo false)), (130, (Pt 35)), (131, (I v76)), (132, (Pt 37)), (133, (Pt 37)), (134, (Pt 37)), (135, (V.sl 0 1 (List.map (V.int .u8) o74.2.2.fB))), (136, (I (o74.2.2.fB.length : Int))), (137, (Bo false)), (138, (Bo false)), (139, (Bo false)), (140, (Pt 35)), (141, (Bo v77)), (142, (Pt 37)), (143, (Pt 37)), (144, (V.ptr 37 0 1)), (145, (Bo o74.2.2.fBad)), (146, (Bo false)), (147, (Bo false)), (148, (Bo false)), (149, (Pt 35)), (150, (Bo v78)), (151, (Pt 37)), (152, (Pt 37)), (153, (V.ptr 37 0 1)), (154, (Bo o74.2.2.fBad)), (155, (Bo (!o74.2.2.fBad))), (156, (Bo (!o74.2.2.fBad)))]) rfl rfl rfl) <| bifE (fun hc => ?_) fun hc => ?_
                    · rw [hc]
                      exact et (regp_adv (m := 4) (j := 34) (t' := [(1, (V.sl 0 1 (List.map (V.int .u8) a1))), (5, (Pt 35)), (6, (Pt 37)), (7, (I x47)), (8, (Bo o75)), (35, (Pt 35)), (37, (Pt 37)), (127, (Bo o75)), (128, (Bo false)), (129, (Bo false)), (130, (Pt 35)), (131, (I v76)), (132, (Pt 37)), (133, (Pt 37)), (134, (Pt 37)), (135, (V.sl 0 1 (List.map (V.int .u8) o74.2.2.fB))), (136, (I (o74.2.2.fB.length : Int))), (137, (Bo false)), (138, (Bo false)), (139, (Bo false)), (140, (Pt 35)), (141, (Bo v77)), (142, (Pt 37)), (143, (Pt 37)), (144, (V.ptr 37 0 1)), (145, (Bo o74.2.2.fBad)), (146, (Bo false)), (147, (Bo false)), (148, (Bo false)), (149, (Pt 35)), (150, (Bo v78)), (151, (Pt 37)), (152, (Pt 37)), (153, (V.ptr 37 0 1)), (154, (Bo o74.2.2.fBad)), (155, (Bo true)), (156, (Bo true)), (157, (Pt 37)), (158, (Pt 37)), (159, (Pt 37)), (160, (V.sl 0 1 (List.map (V.int .u8) o74.2.2.fB)))]) rfl rfl rfl) <| et (regp_pure (x := some ()) (w := fun _ => (I (o74.2.2.fB.length : Int))) rfl rfl rfl rfl rfl (p_len (e := (V.int .u8)) rfl rfl rfl rfl rfl rfl underlying26)) <| et some_bind <| regp_end rfl
                    · rw [hc]
                      exact regp_end rfl
            refine kcl rfl rfl (fun hc => ?_) fun hc => ?_
            · rw [hc]
              refine kr ⟨[(4, (Bo false))], [], 167⟩ rfl <| et k_lret <| et blk_ret <| et loop_ret <| et (hret _) ?_
              rfl
            · rw [hc]
              exact et k_lskip <| et blk_normal <| kl ⟨[(1, (V.sl 0 1 (List.map (V.int .u8) a1))), (5, (Pt 35)), (6, (Pt 37)), (7, (I (Go.IntKind.wrap .i64 (x47 + 1)))), (35, (Pt 35)), (37, (Pt 37))], [(35, vS 3 (eReader o72.2.2)), (37, vS 2 (eReader' o74.2.2))], 167⟩ rfl <| et loop_normal <| ih (Go.IntKind.wrap .i64 (x47 + 1)) o72.2.2 o74.2.2
          · rw [hc]
            refine kg f7a9 rfl (fun (o81 : (List Str) × Int × T_octet_Reader) => ⟨[(1, (V.sl 0 1 (List.map (V.int .u8) a1))), (5, (Pt 35)), (6, (Pt 37)), (7, (I x47)), (21, (sS o81.1)), (22, (I o81.2.1)), (35, (Pt 35)), (37, (Pt 37))], [(35, vS 3 (eReader o81.2.2)), (37, vS 2 (eReader' x49))], 167⟩) (ra 1 1 ⟨[(1, (V.sl 0 1 (List.map (V.int .u8) a1))), (5, (Pt 35)), (6, (Pt 37)), (7, (I x47)), (35, (Pt 35)), (37, (Pt 37)), (50, (Pt 35)), (107, (Bo false))], [(35, vS 3 (eReader x48)), (37, vS 2 (eReader' x49))], 167⟩ rfl rfl rfl <| et (reg_eff (x := (octet_Reader_Texts k x48)) (w := fun (v80 : ((List Str) × Int × T_octet_Reader)) => ((V.tup [(sS v80.1), (I v80.2.1)]), _)) rfl rfl rfl rfl (p_callIO (fr := fun (v80 : ((List Str) × Int × T_octet_Reader)) => (V.tup [(sS v80.1), (I v80.2.1)])) (fe := fun (v80 : ((List Str) × Int × T_octet_Reader)) => (eReader v80.2.2)) rfl rfl rfl rfl rfl rfl rfl (octet_Reader_Texts_ok k x48) (fun _ => rfl))) <| bindE fun v80 => bind_end rfl) fun o81 => kg f7a10 rfl (fun (o83 : (List Str) × Int × T_progenyref01_Reader) => ⟨[(1, (V.sl 0 1 (List.map (V.int .u8) a1))), (5, (Pt 35)), (6, (Pt 37)), (7, (I x47)), (21, (sS o81.1)), (22, (I o81.2.1)), (23, (sS o83.1)), (24, (I o83.2.1)), (35, (Pt 35)), (37, (Pt 37))], [(35, vS 3 (eReader o81.2.2)), (37, vS 2 (eReader' o83.2.2))], 167⟩) (rd 1 [(55, (Pt 37))] rfl rfl <| et (reg_eff (x := (ref01_Reader_Texts k x49)) (w := fun (v82 : ((List Str) × Int × T_progenyref01_Reader)) => ((V.tup [(sS v82.1), (I v82.2.1)]), _)) rfl rfl rfl rfl (p_callIO (fr := fun (v82 : ((List Str) × Int × T_progenyref01_Reader)) => (V.tup [(sS v82.1), (I v82.2.1)])) (fe := fun (v82 : ((List Str) × Int × T_progenyref01_Reader)) => (eReader' v82.2.2)) rfl rfl rfl rfl rfl rfl rfl (ref01_Reader_Texts_ok k x49) (fun _ => rfl))) <| bindE fun v82 => bind_end rfl) fun o83 => kgl f7a11 rfl (fun (o85 : Bool) => ⟨[(1, (V.sl 0 1 (List.map (V.int .u8) a1))), (5, (Pt 35)), (6, (Pt 37)), (7, (I x47)), (8, (Bo o85)), (35, (Pt 35)), (37, (Pt 37))], [(35, vS 3 (eReader o81.2.2)), (37, vS 2 (eReader' o83.2.2))], 167⟩) ?_ fun o85 => ?_
            · refine rd 2 [(59, (sS o81.1)), (60, (sS o83.1))] rfl rfl <| rp rfl (p_call rfl rfl rfl rfl rfl (ref01_SameTexts_ok k o81.1 o83.1) (.inl rfl)) fun v84 => bd 4 [(61, (Bo v84)), (62, (Bo v84))] rfl rfl <| bifE (fun hc => ?_) fun hc => ?_
              · rw [hc]
                exact reg_end rfl
              · rw [hc]
                exact reg_end rfl
            refine et blk_normal <| kd f7a24 rfl (fun (o89 : Bool) => ⟨[(1, (V.sl 0 1 (List.map (V.int .u8) a1))), (5, (Pt 35)), (6, (Pt 37)), (7, (I x47)), (35, (Pt 35)), (37, (Pt 37)), (165, (Bo o89))], [(35, vS 3 (eReader o81.2.2)), (37, vS 2 (eReader' o83.2.2))], 167⟩) ?_ fun o89 => ?_
            · refine et (regionE_regp (p := 39) (dk := true) (t := [(1, (V.sl 0 1 (List.map (V.int .u8) a1))), (5, (Pt 35)), (6, (Pt 37)), (7, (I x47)), (8, (Bo o85)), (35, (Pt 35)), (37, (Pt 37))]) (σ := [(35, vS 3 (eReader o81.2.2)), (37, vS 2 (eReader' o83.2.2))]) (n := 167) rfl (by decide) (by decide) rfl) <| et (regp_adv (m := 3) (j := 3) (t' := [(1, (V.sl 0 1 (List.map (V.int .u8) a1))), (5, (Pt 35)), (6, (Pt 37)), (7, (I x47)), (8, (Bo o85)), (35, (Pt 35)), (37, (Pt 37)), (127, (Bo o85)), (128, (Bo (!o85))), (129, (Bo (!o85)))]) rfl rfl rfl) <| bifE (fun hc => ?_) fun hc => ?_
              · rw [hc]
                exact regp_end rfl
              · rw [hc]
                refine et (regp_adv (m := 1) (j := 4) (t' := [(1, (V.sl 0 1 (List.map (V.int .u8) a1))), (5, (Pt 35)), (6, (Pt 37)), (7, (I x47)), (8, (Bo o85)), (35, (Pt 35)), (37, (Pt 37)), (127, (Bo o85)), (128, (Bo false)), (129, (Bo false)), (130, (Pt 35))]) rfl rfl rfl) <| et (regp_pure (x := (octet_Reader_Left k o81.2.2)) (w := fun v86 => (I v86)) rfl rfl rfl rfl rfl (p_call rfl rfl rfl rfl rfl (octet_Reader_Left_ok k o81.2.2) (.inr (fun _ => rfl)))) <| bindE fun v86 => et (putp_adv (m := 4) (j := 9) (t' := [(1, (V.sl 0 1 (List.map (V.int .u8) a1))), (5, (Pt 35)), (6, (Pt 37)), (7, (I x47)), (8, (Bo o85)), (35, (Pt 35)), (37, (Pt 37)), (127, (Bo o85)), (128, (Bo false)), (129, (Bo false)), (130, (Pt 35)), (131, (I v86)), (132, (Pt 37)), (133, (Pt 37)), (134, (Pt 37)), (135, (V.sl 0 1 (List.map (V.int .u8) o83.2.2.fB)))]) rfl rfl rfl) <| et (regp_pure (x := some ()) (w := fun _ => (I (o83.2.2.fB.length : Int))) rfl rfl rfl rfl rfl (p_len (e := (V.int .u8)) rfl rfl rfl rfl rfl rfl underlying26)) <| et some_bind <| et (putp_adv (m := 3) (j := 13) (t' := [(1, (V.sl 0 1 (List.map (V.int .u8) a1))), (5, (Pt 35)), (6, (Pt 37)), (7, (I x47)), (8, (Bo o85)), (35, (Pt 35)), (37, (Pt 37)), (127, (Bo o85)), (128, (Bo false)), (129, (Bo false)), (130, (Pt 35)), (131, (I v86)), (132, (Pt 37)), (133, (Pt 37)), (134, (Pt 37)), (135, (V.sl 0 1 (List.map (V.int .u8) o83.2.2.fB))), (136, (I (o83.2.2.fB.length : Int))), (137, (Bo (v86 != (o83.2.2.fB.length : Int)))), (138, (Bo (v86 != (o83.2.2.fB.length : Int)))), (139, (Bo (v86 != (o83.2.2.fB.length : Int))))]) rfl rfl rfl) <| bifE (fun hc => ?_) fun hc => ?_
                · rw [hc]
                  exact regp_end rfl
                · rw [hc]
                  refine et (regp_adv (m := 1) (j := 14) (t' := [(1, (V.sl 0 1 (List.map (V.int .u8) a1))), (5, (Pt 35)), (6, (Pt 37)), (7, (I x47)), (8, (Bo o85)), (35, (Pt 35)), (37, (Pt 37)), (127, (Bo o85)), (128, (Bo false)), (129, (Bo false)), (130, (Pt 35)), (131, (I v86)), (132, (Pt 37)), (133, (Pt 37)), (134, (Pt 37)), (135, (V.sl 0 1 (List.map (V.int .u8) o83.2.2.fB))), (136, (I (o83.2.2.fB.length : Int))), (137, (Bo false)), (138, (Bo false)), (139, (Bo false)), (140, (Pt 35))]) rfl rfl rfl) <| et (regp_pure (x := (octet_Reader_Bad k o81.2.2)) (w := fun v87 => (Bo v87)) rfl rfl rfl rfl rfl (p_call rfl rfl rfl rfl rfl (octet_Reader_Bad_ok k o81.2.2) (.inr (fun _ => rfl)))) <| bindE fun v87 => et (putp_adv (m := 7) (j := 22) (t' := [(1, (V.sl 0 1 (List.map (V.int .u8) a1))), (5, (Pt 35)), (6, (Pt 37)), (7, (I x47)), (8, (Bo o85)), (35, (Pt 35)), (37, (Pt 37)), (127, (Bo o85)), (128, (Bo false)), (129, (Bo false)), (130, (Pt 35)), (131, (I v86)), (132, (Pt 37)), (133, (Pt 37)), (134, (Pt 37)), (135, (V.sl 0 1 (List.map (V.int .u8) o83.2.2.fB))), (136, (I (o83.2.2.fB.length : Int))), (137, (Bo false)), (138, (Bo false)), (139, (Bo false)), (140, (Pt 35)), (141, (Bo v87)), (142, (Pt 37)), (143, (Pt 37)), (144, (V.ptr 37 0 1)), (145, (Bo o83.2.2.fBad)), (146, (Bo (!(v87 == o83.2.2.fBad)))), (147, (Bo (!(v87 == o83.2.2.fBad)))), (148, (Bo (!(v87 == o83.2.2.fBad))))]) rfl rfl rfl) <| bifE (fun hc => ?_) fun hc => ?_
                  · rw [hc]
                    exact regp_end rfl
                  · rw [hc]
                    refine et (regp_adv (m := 1) (j := 23) (t' := [(1, (V.sl 0 1 (List.map (V.int .u8) a1))), (5, (Pt 35)), (6, (Pt 37)), (7, (I x47)), (8, (Bo o85)), (35, (Pt 35)), (37, (Pt 37)), (127, (Bo o85)), (128, (Bo false)), (129, (Bo false)), (130, (Pt 35)), (131, (I v86)), (132, (Pt 37)), (133, (Pt 37)), (134, (Pt 37)), (135, (V.sl 0 1 (List.map (V.int .u8) o83.2.2.fB))), (136, (I (o83.2.2.fB.length : Int))), (137, (Bo false)), (138, (Bo false)), (139, (Bo false)), (140, (Pt 35)), (141, (Bo v87)), (142, (Pt 37)), (143, (Pt 37)), (144, (V.ptr 37 0 1)), (145, (Bo o83.2.2.fBad)), (146, (Bo false)), (147, (Bo false)), (148, (Bo false)), (149, (Pt 35))]) rfl rfl rfl) <| et (regp_pure (x := (octet_Reader_Done k o81.2.2)) (w := fun v88 => (Bo v88)) rfl rfl rfl rfl rfl (p_call rfl rfl rfl rfl rfl (octet_Reader_Done_ok k o81.2.2) (.inr (fun _ => rfl)))) <| bindE fun v88 => et (putp_adv (m := 6) (j := 30) (t' := [(1, (V.sl 0 1 (List.map (V.int .u8) a1))), (5, (Pt 35)), (6, (Pt 37)), (7, (I x47)), (8, (Bo o85)), (35, (Pt 35)), (37, (Pt 37)), (127, (Bo o85)), (128, (Bo false)), (129, (Bo false)), (130, (Pt 35)), (131, (I v86)), (132, (Pt 37)), (133, (Pt 37)), (134, (Pt 37)), (135, (V.sl 0 1 (List.map (V.int .u8) o83.2.2.fB))), (136, (I (o83.2.2.fB.length : Int))), (137, (Bo false)), (138, (Bo false)), (139, (Bo false)), (140, (Pt 35)), (141, (Bo v87)), (142, (Pt 37)), (143, (Pt 37)), (144, (V.ptr 37 0 1)), (145, (Bo o83.2.2.fBad)), (146, (Bo false)), (147, (Bo false)), (148, (Bo false)), (149, (Pt 35)), (150, (Bo v88)), (151, (Pt 37)), (152, (Pt 37)), (153, (V.ptr 37 0 1)), (154, (Bo o83.2.2.fBad)), (155, (Bo (!o83.2.2.fBad))), (156, (Bo (!o83.2.2.fBad)))]) rfl rfl rfl) <| bifE (fun hc => ?_) fun hc => ?_
                    · rw [hc]
                      exact et (regp_adv (m := 4) (j := 34) (t' := [(1, (V.sl 0 1 (List.map (V.int .u8) a1))), (5, (Pt 35)), (6, (Pt 37)), (7, (I x47)), (8, (Bo o85)), (35, (Pt 35)), (37, (Pt 37)), (127, (Bo o85)), (128, (Bo false)), (129, (Bo false)), (130, (Pt 35)), (131, (I v86)), (132, (Pt 37)), (133, (Pt 37)), (134, (Pt 37)), (135, (V.sl 0 1 (List.map (V.int .u8) o83.2.2.fB))), (136, (I (o83.2.2.fB.length : Int))), (137, (Bo false)), (138, (Bo false)), (139, (Bo false)), (140, (Pt 35)), (141, (Bo v87)), (142, (Pt 37)), (143, (Pt 37)), (144, (V.ptr 37 0 1)), (145, (Bo o83.2.2.fBad)), (146, (Bo false)), (147, (Bo false)), (148, (Bo false)), (149, (Pt 35)), (150, (Bo v88)), (151, (Pt 37)), (152, (Pt 37)), (153, (V.ptr 37 0 1)), (154, (Bo o83.2.2.fBad)), (155, (Bo true)), (156, (Bo true)), (157, (Pt 37)), (158, (Pt 37)), (159, (Pt 37)), (160, (V.sl 0 1 (List.map (V.int .u8) o83.2.2.fB)))]) rfl rfl rfl) <| et (regp_pure (x := some ()) (w := fun _ => (I (o83.2.2.fB.length : Int))) rfl rfl rfl rfl rfl (p_len (e := (V.int .u8)) rfl rfl rfl rfl rfl rfl underlying26)) <| et some_bind <| regp_end rfl
                    · rw [hc]
                      exact regp_end rfl
            refine kcl rfl rfl (fun hc => ?_) fun hc => ?_
            · rw [hc]
              refine kr ⟨[(4, (Bo false))], [], 167⟩ rfl <| et k_lret <| et blk_ret <| et loop_ret <| et (hret _) ?_
              rfl
            · rw [hc]
              exact et k_lskip <| et blk_normal <| kl ⟨[(1, (V.sl 0 1 (List.map (V.int .u8) a1))), (5, (Pt 35)), (6, (Pt 37)), (7, (I (Go.IntKind.wrap .i64 (x47 + 1)))), (35, (Pt 35)), (37, (Pt 37))], [(35, vS 3 (eReader o81.2.2)), (37, vS 2 (eReader' o83.2.2))], 167⟩ rfl <| et loop_normal <| ih (Go.IntKind.wrap .i64 (x47 + 1)) o81.2.2 o83.2.2
    · rw [hc]
      exact et k_exit <| et loop_exit <| hK0 x47 x48 x49
theorem law01_OctetReads_ok (k : Nat) (a0 : (List Int)) (a1 : (List Int)) : EV k 7 [(V.sl 0 1 (List.map (V.int .u8) a0)), (V.sl 0 1 (List.map (V.int .u8) a1))] = (law01_OctetReads k a0 a1).map law01_OctetReads_fin := by
  cases k with
  | zero => rfl
  | succ k =>
    unfold law01_OctetReads
    refine et (evF_succ (c := f7c) (N := 167) (regs := f7n) rfl func7 rfl (by decide) rfl rfl rfl) <| kra [] rfl <| et k_assoc <| kga f7a1 rfl (fun (o1 : Bool) => [(32, (Bo o1))]) ?_ fun o1 => ?_
    · refine rd 1 [(25, (V.sl 0 1 (List.map (V.int .u8) a0)))] rfl rfl <| rl rfl (p_len (e := (V.int .u8)) rfl rfl rfl rfl rfl rfl underlying26) <| bd 4 [(26, (I (a0.length : Int))), (27, (Bo (decide ((a0.length : Int) > 2000)))), (28, (Bo (decide ((a0.length : Int) > 2000))))] rfl rfl <| bifE (fun hc => ?_) fun hc => ?_
      · rw [hc]
        exact reg_end rfl
      · rw [hc]
        exact rd 5 [(29, (V.sl 0 1 (List.map (V.int .u8) a1)))] rfl rfl <| rl rfl (p_len (e := (V.int .u8)) rfl rfl rfl rfl rfl rfl underlying26) <| bind_end rfl
    refine kc rfl rfl (fun hc => ?_) fun hc => ?_
    · rw [hc]
      refine et k_assoc <| kg f7a2 rfl (fun (o3 : Bool) => ⟨[(4, (Bo o3))], [], 167⟩) (rs rfl (p_call rfl rfl rfl rfl rfl (law01_First_ok k) (.inl rfl)) fun v2 => bind_end rfl) fun o3 => et k_ret ?_
      rfl
    · rw [hc]
      refine et k_skip <| kg f7a3 rfl (fun (o6 : T_octet_Reader × T_progenyref01_Reader) => ⟨[(1, (V.sl 0 1 (List.map (V.int .u8) a1))), (5, (Pt 35)), (6, (Pt 37)), (35, (Pt 35)), (37, (Pt 37))], [(35, vS 3 (eReader o6.1)), (37, vS 2 (eReader' o6.2))], 167⟩) (rd 1 [(34, (V.sl 0 1 (List.map (V.int .u8) a0)))] rfl rfl <| rp rfl (p_call rfl rfl rfl rfl rfl (octet_NewReader_ok k a0) (.inl rfl)) fun v4 => ba 1 3 ⟨[(0, (V.sl 0 1 (List.map (V.int .u8) a0))), (1, (V.sl 0 1 (List.map (V.int .u8) a1))), (32, (Bo false)), (34, (V.sl 0 1 (List.map (V.int .u8) a0))), (35, (Pt 35)), (36, (V.sl 0 1 (List.map (V.int .u8) a0)))], [(35, vS 3 (eReader v4))], 167⟩ rfl rfl rfl <| rp rfl (p_call rfl rfl rfl rfl rfl (ref01_NewReader_ok k a0) (.inl rfl)) fun v5 => bind_end rfl) fun o6 => et k_assoc <| kr ⟨[(1, (V.sl 0 1 (List.map (V.int .u8) a1))), (5, (Pt 35)), (6, (Pt 37)), (7, (I 0)), (35, (Pt 35)), (37, (Pt 37))], [(35, vS 3 (eReader o6.1)), (37, vS 2 (eReader' o6.2))], 167⟩ rfl <| et (k_block rfl) <| et k_loop ?_
      refine law01_OctetReads_L1_ok k a0 a1 _ _ ?h_law01_OctetReads_L1_0 ?hr_law01_OctetReads_L1 k 0 o6.1 o6.2
      · intro y90 y91 y92
        refine et blk_exit <| kg f7a26 rfl (fun (o94 : Bool) => ⟨[(4, (Bo o94))], [], 167⟩) (rs rfl (p_call rfl rfl rfl rfl rfl (law01_First_ok k) (.inl rfl)) fun v93 => bind_end rfl) fun o94 => et k_lret ?_
        rfl
      · intro s; exact rfl
end
end Go.AE
