/- The program, function by function: the evaluator comes to the typed functions. Conditions: none. -/
import Derived.Test.YtgideolbpeidmaaA2
import Derived.KernelRfl
import Derived.Test.YtgideolbpeidmaaProg
import Derived.Test.YtgideolbpeidmaaB1
namespace Go.AE
open Go.Proofs.Try Go.Sh
set_option linter.unusedSimpArgs false
set_option linter.unusedVariables false
set_option maxRecDepth 100000
set_option maxHeartbeats 4000000
def enc_T_api_Field (a : T_api_Field) : V := .agg [(V.str a.fName), (V.int .i64 a.fAt), (V.int .i64 a.fBytes)]
def enc_T_api_Type (a : T_api_Type) : V := .agg [(V.str a.fName), (V.int .i64 a.fParent), (V.int .i64 a.fMin), (V.int .i64 a.fSize), (V.sl 0 3 (List.map enc_T_api_Field a.fFields)), (V.int .i64 a.fKey), (V.bool a.fUnique), (V.bool a.fLast)]
def enc_T_api_Search (a : T_api_Search) : V := .agg [(V.str a.fName), (V.int .i64 a.fType), (V.int .i64 a.fField), (V.str a.fSparse)]
def enc_T_api_Base (a : T_api_Base) : V := .agg [(V.str a.fName), (V.int .i64 a.fKind), (V.sl 0 8 (List.map enc_T_api_Type a.fTypes)), (V.sl 0 4 (List.map enc_T_api_Search a.fIndexes))]
def law11_Small_o0 : Array Oper := #[⟨(.some 1), (.box 25 (.tmp 0)), 0, "law.go:29", #[], .none⟩,
  ⟨(.some 2), (.assign (.const (.bool false))), 4, "law.go:29", #[], .none⟩]
def law11_Small_a0 : RAnn := ⟨[0, 2], []⟩
def law11_Small_o1 : Array Oper := #[⟨(.some 3), (.assign (.const (.int .i64 0))), 3, "law.go:30", #[], .none⟩]
def law11_Small_a1 : RAnn := ⟨[], []⟩
def law11_Small_o2 : Array Oper := #[⟨(.some 4), (.move (.tmp 3)), 3, "law.go:30", #[], .none⟩,
  ⟨(.some 5), (.fieldAddr 25 (.tmp 1) 2), 0, "law.go:30", #[], .none⟩,
  ⟨(.some 6), (.load 22 (.tmp 5)), 22, "law.go:30", #[⟨1, .data⟩], .none⟩,
  ⟨(.some 7), (.call ⟨(.builtin .len), #[(.tmp 6)], #[22]⟩), 3, "law.go:30", #[⟨2, .data⟩], .none⟩,
  ⟨(.some 8), (.binOp .lss 3 (.tmp 4) (.tmp 7) 3), 4, "law.go:30", #[⟨0, .data⟩, ⟨3, .data⟩], .none⟩]
def law11_Small_a2 : RAnn := ⟨[4, 5, 6, 7], []⟩
def law11_Small_o3 : Array Oper := #[⟨(.some 9), (.move (.tmp 3)), 3, "law.go:30", #[], .none⟩,
  ⟨(.some 10), (.binOp .add 3 (.tmp 9) (.const (.int .i64 1)) 3), 3, "law.go:30", #[⟨0, .data⟩], .none⟩,
  ⟨(.some 3), (.assign (.tmp 10)), 3, "law.go:30", #[⟨1, .data⟩, ⟨0, .phase⟩, ⟨1, .phase⟩], .none⟩]
def law11_Small_a3 : RAnn := ⟨[9, 10, 18], []⟩
def law11_Small_o4 : Array Oper := #[⟨(.some 11), (.fieldAddr 25 (.tmp 1) 2), 0, "law.go:31", #[], .none⟩,
  ⟨(.some 12), (.load 22 (.tmp 11)), 22, "law.go:31", #[⟨0, .data⟩], .none⟩,
  ⟨(.some 13), (.move (.tmp 3)), 3, "law.go:31", #[], .none⟩,
  ⟨(.some 14), (.indexAddr 22 (.tmp 12) (.tmp 13)), 0, "law.go:31", #[⟨1, .data⟩, ⟨2, .data⟩], .none⟩,
  ⟨(.some 15), (.fieldAddr 55 (.tmp 14) 4), 0, "law.go:31", #[⟨3, .data⟩], .none⟩,
  ⟨(.some 16), (.load 53 (.tmp 15)), 53, "law.go:31", #[⟨4, .data⟩], .none⟩,
  ⟨(.some 17), (.call ⟨(.builtin .len), #[(.tmp 16)], #[53]⟩), 3, "law.go:31", #[⟨5, .data⟩], .none⟩,
  ⟨(.some 18), (.binOp .gtr 3 (.tmp 17) (.const (.int .i64 10)) 3), 4, "law.go:31", #[⟨6, .data⟩], .none⟩]
def law11_Small_a4 : RAnn := ⟨[8, 11, 12, 13, 14, 15, 16, 17], []⟩
def law11_Small_o5 : Array Oper := #[⟨(.some 2), (.assign (.const (.bool false))), 4, "law.go:32", #[], .none⟩]
def law11_Small_a5 : RAnn := ⟨[1, 3, 18], []⟩
def law11_Small_o6 : Array Oper := #[⟨(.some 19), (.fieldAddr 25 (.tmp 1) 2), 0, "law.go:35", #[], .none⟩,
  ⟨(.some 20), (.load 22 (.tmp 19)), 22, "law.go:35", #[⟨0, .data⟩], .none⟩,
  ⟨(.some 21), (.call ⟨(.builtin .len), #[(.tmp 20)], #[22]⟩), 3, "law.go:35", #[⟨1, .data⟩], .none⟩,
  ⟨(.some 22), (.binOp .leq 3 (.tmp 21) (.const (.int .i64 12)) 3), 4, "law.go:35", #[⟨2, .data⟩], .none⟩,
  ⟨(.some 23), (.move (.tmp 22)), 4, "law.go:35", #[⟨3, .data⟩], .none⟩,
  ⟨(.some 24), (.fieldAddr 25 (.tmp 1) 3), 0, "law.go:35", #[⟨4, .guard⟩], (.some (4, true))⟩,
  ⟨(.some 25), (.load 23 (.tmp 24)), 23, "law.go:35", #[⟨5, .data⟩, ⟨4, .guard⟩], (.some (4, true))⟩,
  ⟨(.some 26), (.call ⟨(.builtin .len), #[(.tmp 25)], #[23]⟩), 3, "law.go:35", #[⟨6, .data⟩, ⟨4, .guard⟩], (.some (4, true))⟩,
  ⟨(.some 27), (.binOp .leq 3 (.tmp 26) (.const (.int .i64 6)) 3), 4, "law.go:35", #[⟨7, .data⟩, ⟨4, .guard⟩], (.some (4, true))⟩,
  ⟨(.some 28), (.pick (.tmp 23) (.tmp 27) (.const (.bool false))), 4, "law.go:35", #[⟨4, .data⟩, ⟨8, .data⟩], .none⟩,
  ⟨(.some 2), (.assign (.tmp 28)), 4, "law.go:35", #[⟨9, .data⟩, ⟨4, .chain⟩, ⟨0, .phase⟩, ⟨1, .phase⟩, ⟨2, .phase⟩, ⟨3, .phase⟩, ⟨4, .phase⟩, ⟨5, .phase⟩, ⟨6, .phase⟩, ⟨7, .phase⟩, ⟨8, .phase⟩, ⟨9, .phase⟩], .none⟩]
def law11_Small_a6 : RAnn := ⟨[1, 3, 8, 19, 20, 21, 22, 23, 24, 25, 26, 27, 28], []⟩
def law11_Small_b0 : Code := (.seq (.seq (.region 2 law11_Small_o2 false) (.cond (.tmp 8) .skip (.exit 0))) (.seq (.block 1 (.seq (.region 4 law11_Small_o4 false) (.cond (.tmp 18) (.seq (.region 5 law11_Small_o5 false) .ret) .skip))) (.region 3 law11_Small_o3 false)))
def law11_Small_c : Code := (.seq (.region 0 law11_Small_o0 false) (.seq (.seq (.region 1 law11_Small_o1 false) (.block 0 (.loop law11_Small_b0))) (.seq (.region 6 law11_Small_o6 false) .ret)))
def law11_Small_an : List (Nat × RAnn) := [(0, law11_Small_a0), (1, law11_Small_a1), (2, law11_Small_a2), (3, law11_Small_a3), (4, law11_Small_a4), (5, law11_Small_a5), (6, law11_Small_a6)]
def law11_shop_o0 : Array Oper := #[⟨(.some 0), (.alloc 25), 0, "law.go:12", #[], .none⟩]
def law11_shop_a0 : RAnn := ⟨[], []⟩
def law11_shop_o1 : Array Oper := #[⟨(.some 1), (.build 65 #[(0, (.const (.string ⟨#[67, 85, 83, 84, 78, 79]⟩))), (2, (.const (.int .i64 4)))]), 65, "law.go:13", #[], .none⟩,
  ⟨(.some 2), (.buildSlice 53 1 #[(0, (.tmp 1))]), 53, "law.go:13", #[⟨0, .data⟩], .none⟩,
  ⟨(.some 3), (.build 55 #[(0, (.const (.string ⟨#[67, 85, 83, 84]⟩))), (1, (.const (.int .i64 (-1)))), (2, (.const (.int .i64 4))), (3, (.const (.int .i64 10))), (4, (.tmp 2)), (6, (.const (.bool true)))]), 55, "law.go:13", #[⟨1, .data⟩], .none⟩,
  ⟨(.some 4), (.build 65 #[(0, (.const (.string ⟨#[79, 82, 68, 78, 79]⟩))), (2, (.const (.int .i64 4)))]), 65, "law.go:13", #[], .none⟩,
  ⟨(.some 5), (.buildSlice 53 1 #[(0, (.tmp 4))]), 53, "law.go:13", #[⟨3, .data⟩], .none⟩,
  ⟨(.some 6), (.build 55 #[(0, (.const (.string ⟨#[79, 82, 68, 69, 82]⟩))), (1, (.const (.int .i64 0))), (2, (.const (.int .i64 4))), (3, (.const (.int .i64 12))), (4, (.tmp 5))]), 55, "law.go:13", #[⟨4, .data⟩], .none⟩,
  ⟨(.some 7), (.build 55 #[(0, (.const (.string ⟨#[73, 84, 69, 77]⟩))), (1, (.const (.int .i64 1))), (2, (.const (.int .i64 1))), (3, (.const (.int .i64 8))), (5, (.const (.int .i64 (-1)))), (7, (.const (.bool true)))]), 55, "law.go:13", #[], .none⟩,
  ⟨(.some 8), (.build 55 #[(0, (.const (.string ⟨#[80, 72, 79, 78, 69]⟩))), (1, (.const (.int .i64 0))), (2, (.const (.int .i64 1))), (3, (.const (.int .i64 8))), (5, (.const (.int .i64 (-1))))]), 55, "law.go:13", #[], .none⟩,
  ⟨(.some 9), (.buildSlice 22 4 #[(0, (.tmp 3)), (1, (.tmp 6)), (2, (.tmp 7)), (3, (.tmp 8))]), 22, "law.go:13", #[⟨2, .data⟩, ⟨5, .data⟩, ⟨6, .data⟩, ⟨7, .data⟩], .none⟩,
  ⟨(.some 10), (.build 25 #[(0, (.const (.string ⟨#[83, 72, 79, 80]⟩))), (1, (.const (.int .i64 4))), (2, (.tmp 9))]), 25, "law.go:13", #[⟨8, .data⟩], .none⟩,
  ⟨.none, (.store 25 (.tmp 0) (.tmp 10)), 0, "law.go:13", #[⟨9, .data⟩, ⟨0, .phase⟩, ⟨1, .phase⟩, ⟨2, .phase⟩, ⟨3, .phase⟩, ⟨4, .phase⟩, ⟨5, .phase⟩, ⟨6, .phase⟩, ⟨7, .phase⟩, ⟨8, .phase⟩, ⟨9, .phase⟩], .none⟩]
def law11_shop_a1 : RAnn := ⟨[1, 2, 3, 4, 5, 6, 7, 8, 9, 10], []⟩
def law11_shop_c : Code := (.seq (.region 0 law11_shop_o0 false) (.seq (.region 1 law11_shop_o1 false) .ret))
def law11_shop_an : List (Nat × RAnn) := [(0, law11_shop_a0), (1, law11_shop_a1)]
def dbd_IsName_o0 : Array Oper := #[⟨(.some 2), (.assign (.const (.bool false))), 4, "dbd.go:17", #[], .none⟩]
def dbd_IsName_a0 : RAnn := ⟨[2], []⟩
def dbd_IsName_o1 : Array Oper := #[⟨(.some 5), (.move (.tmp 0)), 9, "dbd.go:18", #[], .none⟩,
  ⟨(.some 6), (.call ⟨(.builtin .len), #[(.tmp 5)], #[9]⟩), 3, "dbd.go:18", #[⟨0, .data⟩], .none⟩,
  ⟨(.some 7), (.move (.const (.int .i64 0))), 3, "dbd.go:18", #[], .none⟩]
def dbd_IsName_a1 : RAnn := ⟨[5], []⟩
def dbd_IsName_o2 : Array Oper := #[⟨(.some 8), (.binOp .lss 3 (.tmp 7) (.tmp 6) 3), 4, "dbd.go:18", #[], .none⟩]
def dbd_IsName_a2 : RAnn := ⟨[], []⟩
def dbd_IsName_o3 : Array Oper := #[⟨(.some 9), (.move (.tmp 7)), 3, "dbd.go:18", #[], .none⟩,
  ⟨(.some 3), (.assign (.tmp 9)), 3, "dbd.go:18", #[⟨0, .data⟩, ⟨0, .phase⟩], .none⟩]
def dbd_IsName_a3 : RAnn := ⟨[8, 9], []⟩
def dbd_IsName_o4 : Array Oper := #[⟨(.some 10), (.move (.tmp 0)), 9, "dbd.go:19", #[], .none⟩,
  ⟨(.some 11), (.move (.tmp 3)), 3, "dbd.go:19", #[], .none⟩,
  ⟨(.some 12), (.index 9 (.tmp 10) (.tmp 11)), 5, "dbd.go:19", #[⟨0, .data⟩, ⟨1, .data⟩], .none⟩,
  ⟨(.some 13), (.binOp .geq 5 (.tmp 12) (.const (.int .u8 65)) 5), 4, "dbd.go:19", #[⟨2, .data⟩], .none⟩,
  ⟨(.some 14), (.move (.tmp 13)), 4, "dbd.go:19", #[⟨3, .data⟩], .none⟩,
  ⟨(.some 15), (.move (.tmp 0)), 9, "dbd.go:19", #[⟨4, .guard⟩], (.some (4, true))⟩,
  ⟨(.some 16), (.move (.tmp 3)), 3, "dbd.go:19", #[⟨4, .guard⟩], (.some (4, true))⟩,
  ⟨(.some 17), (.index 9 (.tmp 15) (.tmp 16)), 5, "dbd.go:19", #[⟨5, .data⟩, ⟨6, .data⟩, ⟨4, .guard⟩], (.some (4, true))⟩,
  ⟨(.some 18), (.binOp .leq 5 (.tmp 17) (.const (.int .u8 90)) 5), 4, "dbd.go:19", #[⟨7, .data⟩, ⟨4, .guard⟩], (.some (4, true))⟩,
  ⟨(.some 19), (.pick (.tmp 14) (.tmp 18) (.const (.bool false))), 4, "dbd.go:19", #[⟨4, .data⟩, ⟨8, .data⟩], .none⟩,
  ⟨(.some 4), (.assign (.tmp 19)), 4, "dbd.go:19", #[⟨9, .data⟩, ⟨4, .chain⟩, ⟨0, .phase⟩, ⟨1, .phase⟩, ⟨2, .phase⟩, ⟨3, .phase⟩, ⟨4, .phase⟩, ⟨5, .phase⟩, ⟨6, .phase⟩, ⟨7, .phase⟩, ⟨8, .phase⟩, ⟨9, .phase⟩], .none⟩]
def dbd_IsName_a4 : RAnn := ⟨[10, 11, 12, 13, 14, 15, 16, 17, 18, 19], []⟩
def dbd_IsName_o5 : Array Oper := #[⟨(.some 20), (.move (.tmp 4)), 4, "dbd.go:20", #[], .none⟩,
  ⟨(.some 21), (.unOp .not 4 (.tmp 20)), 4, "dbd.go:20", #[⟨0, .data⟩], .none⟩,
  ⟨(.some 22), (.move (.tmp 21)), 4, "dbd.go:20", #[⟨1, .data⟩], .none⟩,
  ⟨(.some 23), (.move (.tmp 3)), 3, "dbd.go:20", #[⟨2, .guard⟩], (.some (2, true))⟩,
  ⟨(.some 24), (.binOp .eql 3 (.tmp 23) (.const (.int .i64 0)) 3), 4, "dbd.go:20", #[⟨3, .data⟩, ⟨2, .guard⟩], (.some (2, true))⟩,
  ⟨(.some 25), (.move (.tmp 24)), 4, "dbd.go:20", #[⟨4, .data⟩, ⟨2, .chain⟩, ⟨2, .guard⟩], (.some (2, true))⟩,
  ⟨(.some 26), (.move (.tmp 0)), 9, "dbd.go:20", #[⟨5, .guard⟩], (.some (5, false))⟩,
  ⟨(.some 27), (.move (.tmp 3)), 3, "dbd.go:20", #[⟨5, .guard⟩], (.some (5, false))⟩,
  ⟨(.some 28), (.index 9 (.tmp 26) (.tmp 27)), 5, "dbd.go:20", #[⟨6, .data⟩, ⟨7, .data⟩, ⟨5, .guard⟩], (.some (5, false))⟩,
  ⟨(.some 29), (.binOp .lss 5 (.tmp 28) (.const (.int .u8 48)) 5), 4, "dbd.go:20", #[⟨8, .data⟩, ⟨5, .guard⟩], (.some (5, false))⟩,
  ⟨(.some 30), (.pick (.tmp 25) (.const (.bool true)) (.tmp 29)), 4, "dbd.go:20", #[⟨5, .data⟩, ⟨9, .data⟩, ⟨2, .guard⟩], (.some (2, true))⟩,
  ⟨(.some 31), (.move (.tmp 30)), 4, "dbd.go:20", #[⟨10, .data⟩, ⟨5, .chain⟩, ⟨2, .guard⟩], (.some (2, true))⟩,
  ⟨(.some 32), (.move (.tmp 0)), 9, "dbd.go:20", #[⟨11, .guard⟩], (.some (11, false))⟩,
  ⟨(.some 33), (.move (.tmp 3)), 3, "dbd.go:20", #[⟨11, .guard⟩], (.some (11, false))⟩,
  ⟨(.some 34), (.index 9 (.tmp 32) (.tmp 33)), 5, "dbd.go:20", #[⟨12, .data⟩, ⟨13, .data⟩, ⟨11, .guard⟩], (.some (11, false))⟩,
  ⟨(.some 35), (.binOp .gtr 5 (.tmp 34) (.const (.int .u8 57)) 5), 4, "dbd.go:20", #[⟨14, .data⟩, ⟨11, .guard⟩], (.some (11, false))⟩,
  ⟨(.some 36), (.pick (.tmp 31) (.const (.bool true)) (.tmp 35)), 4, "dbd.go:20", #[⟨11, .data⟩, ⟨15, .data⟩, ⟨2, .guard⟩], (.some (2, true))⟩,
  ⟨(.some 37), (.pick (.tmp 22) (.tmp 36) (.const (.bool false))), 4, "dbd.go:20", #[⟨2, .data⟩, ⟨16, .data⟩], .none⟩]
def dbd_IsName_a5 : RAnn := ⟨[3, 4, 20, 21, 22, 23, 24, 25, 26, 27, 28, 29, 30, 31, 32, 33, 34, 35, 36], []⟩
def dbd_IsName_o6 : Array Oper := #[⟨(.some 2), (.assign (.const (.bool false))), 4, "dbd.go:21", #[], .none⟩]
def dbd_IsName_a6 : RAnn := ⟨[0, 6, 7, 37], []⟩
def dbd_IsName_o7 : Array Oper := #[⟨(.some 38), (.binOp .add 3 (.tmp 7) (.const (.int .i64 1)) 3), 3, "dbd.go:18", #[], .none⟩,
  ⟨(.some 7), (.move (.tmp 38)), 3, "dbd.go:18", #[⟨0, .data⟩], .none⟩]
def dbd_IsName_a7 : RAnn := ⟨[37, 38], []⟩
def dbd_IsName_o8 : Array Oper := #[⟨(.some 39), (.move (.tmp 0)), 9, "dbd.go:24", #[], .none⟩,
  ⟨(.some 40), (.call ⟨(.builtin .len), #[(.tmp 39)], #[9]⟩), 3, "dbd.go:24", #[⟨0, .data⟩], .none⟩,
  ⟨(.some 41), (.binOp .geq 3 (.tmp 40) (.const (.int .i64 1)) 3), 4, "dbd.go:24", #[⟨1, .data⟩], .none⟩,
  ⟨(.some 42), (.move (.tmp 41)), 4, "dbd.go:24", #[⟨2, .data⟩], .none⟩,
  ⟨(.some 43), (.move (.tmp 0)), 9, "dbd.go:24", #[⟨3, .guard⟩], (.some (3, true))⟩,
  ⟨(.some 44), (.call ⟨(.builtin .len), #[(.tmp 43)], #[9]⟩), 3, "dbd.go:24", #[⟨4, .data⟩, ⟨3, .guard⟩], (.some (3, true))⟩,
  ⟨(.some 45), (.binOp .leq 3 (.tmp 44) (.const (.int .i64 8)) 3), 4, "dbd.go:24", #[⟨5, .data⟩, ⟨3, .guard⟩], (.some (3, true))⟩,
  ⟨(.some 46), (.pick (.tmp 42) (.tmp 45) (.const (.bool false))), 4, "dbd.go:24", #[⟨3, .data⟩, ⟨6, .data⟩], .none⟩,
  ⟨(.some 2), (.assign (.tmp 46)), 4, "dbd.go:24", #[⟨7, .data⟩, ⟨3, .chain⟩, ⟨0, .phase⟩, ⟨1, .phase⟩, ⟨2, .phase⟩, ⟨3, .phase⟩, ⟨4, .phase⟩, ⟨5, .phase⟩, ⟨6, .phase⟩, ⟨7, .phase⟩], .none⟩]
def dbd_IsName_a8 : RAnn := ⟨[0, 6, 7, 8, 39, 40, 41, 42, 43, 44, 45, 46], []⟩
def dbd_IsName_b0 : Code := (.seq (.region 2 dbd_IsName_o2 false) (.seq (.cond (.tmp 8) .skip (.exit 0)) (.seq (.block 1 (.seq (.region 3 dbd_IsName_o3 false) (.seq (.region 4 dbd_IsName_o4 false) (.seq (.region 5 dbd_IsName_o5 false) (.cond (.tmp 37) (.seq (.region 6 dbd_IsName_o6 false) .ret) .skip))))) (.region 7 dbd_IsName_o7 false))))
def dbd_IsName_c : Code := (.seq (.region 0 dbd_IsName_o0 false) (.seq (.seq (.region 1 dbd_IsName_o1 false) (.block 0 (.loop dbd_IsName_b0))) (.seq (.region 8 dbd_IsName_o8 false) .ret)))
def dbd_IsName_an : List (Nat × RAnn) := [(0, dbd_IsName_a0), (1, dbd_IsName_a1), (2, dbd_IsName_a2), (3, dbd_IsName_a3), (4, dbd_IsName_a4), (5, dbd_IsName_a5), (6, dbd_IsName_a6), (7, dbd_IsName_a7), (8, dbd_IsName_a8)]
def slices_IndexFunc_Field_o0 : Array Oper := #[⟨(.some 4), (.assign (.const (.int .i64 0))), 3, "slices.go:107", #[], .none⟩]
def slices_IndexFunc_Field_a0 : RAnn := ⟨[4], []⟩
def slices_IndexFunc_Field_o1 : Array Oper := #[⟨(.some 6), (.move (.tmp 0)), 53, "slices.go:108", #[], .none⟩,
  ⟨(.some 7), (.call ⟨(.builtin .len), #[(.tmp 6)], #[53]⟩), 3, "slices.go:108", #[⟨0, .data⟩], .none⟩,
  ⟨(.some 8), (.move (.const (.int .i64 0))), 3, "slices.go:108", #[], .none⟩]
def slices_IndexFunc_Field_a1 : RAnn := ⟨[6], []⟩
def slices_IndexFunc_Field_o2 : Array Oper := #[⟨(.some 9), (.binOp .lss 3 (.tmp 8) (.tmp 7) 3), 0, "slices.go:108", #[], .none⟩]
def slices_IndexFunc_Field_a2 : RAnn := ⟨[], []⟩
def slices_IndexFunc_Field_o3 : Array Oper := #[⟨(.some 10), (.move (.tmp 8)), 3, "slices.go:108", #[], .none⟩,
  ⟨(.some 5), (.assign (.tmp 10)), 3, "slices.go:108", #[⟨0, .data⟩, ⟨0, .phase⟩], .none⟩]
def slices_IndexFunc_Field_a3 : RAnn := ⟨[9, 10], []⟩
def slices_IndexFunc_Field_o4 : Array Oper := #[⟨(.some 11), (.move (.tmp 1)), 66, "slices.go:109", #[], .none⟩,
  ⟨(.some 12), (.move (.tmp 0)), 53, "slices.go:109", #[], .none⟩,
  ⟨(.some 13), (.move (.tmp 5)), 3, "slices.go:109", #[], .none⟩,
  ⟨(.some 14), (.indexAddr 53 (.tmp 12) (.tmp 13)), 0, "slices.go:109", #[⟨1, .data⟩, ⟨2, .data⟩], .none⟩,
  ⟨(.some 15), (.load 65 (.tmp 14)), 65, "slices.go:109", #[⟨3, .data⟩], .none⟩,
  ⟨(.some 16), (.call ⟨(.value (.tmp 11)), #[(.tmp 15)], #[65]⟩), 4, "slices.go:109", #[⟨0, .data⟩, ⟨4, .data⟩], .none⟩]
def slices_IndexFunc_Field_a4 : RAnn := ⟨[11, 12, 13, 14, 15], []⟩
def slices_IndexFunc_Field_o5 : Array Oper := #[⟨(.some 17), (.move (.tmp 5)), 3, "slices.go:110", #[], .none⟩,
  ⟨(.some 4), (.assign (.tmp 17)), 3, "slices.go:110", #[⟨0, .data⟩, ⟨0, .phase⟩], .none⟩]
def slices_IndexFunc_Field_a5 : RAnn := ⟨[0, 1, 5, 7, 8, 16, 17], []⟩
def slices_IndexFunc_Field_o6 : Array Oper := #[⟨(.some 18), (.binOp .add 3 (.tmp 8) (.const (.int .i64 1)) 3), 3, "slices.go:108", #[], .none⟩,
  ⟨(.some 8), (.move (.tmp 18)), 3, "slices.go:108", #[⟨0, .data⟩], .none⟩]
def slices_IndexFunc_Field_a6 : RAnn := ⟨[5, 16, 18], []⟩
def slices_IndexFunc_Field_o7 : Array Oper := #[⟨(.some 4), (.assign (.const (.int .i64 (-1)))), 3, "slices.go:113", #[], .none⟩]
def slices_IndexFunc_Field_a7 : RAnn := ⟨[0, 1, 7, 8, 9], []⟩
def slices_IndexFunc_Field_b0 : Code := (.seq (.region 2 slices_IndexFunc_Field_o2 false) (.seq (.cond (.tmp 9) .skip (.exit 0)) (.seq (.block 1 (.seq (.region 3 slices_IndexFunc_Field_o3 false) (.seq (.region 4 slices_IndexFunc_Field_o4 false) (.cond (.tmp 16) (.seq (.region 5 slices_IndexFunc_Field_o5 false) .ret) .skip)))) (.region 6 slices_IndexFunc_Field_o6 false))))
def slices_IndexFunc_Field_c : Code := (.seq (.region 0 slices_IndexFunc_Field_o0 false) (.seq (.seq (.region 1 slices_IndexFunc_Field_o1 false) (.block 0 (.loop slices_IndexFunc_Field_b0))) (.seq (.region 7 slices_IndexFunc_Field_o7 false) .ret)))
def slices_IndexFunc_Field_an : List (Nat × RAnn) := [(0, slices_IndexFunc_Field_a0), (1, slices_IndexFunc_Field_a1), (2, slices_IndexFunc_Field_a2), (3, slices_IndexFunc_Field_a3), (4, slices_IndexFunc_Field_a4), (5, slices_IndexFunc_Field_a5), (6, slices_IndexFunc_Field_a6), (7, slices_IndexFunc_Field_a7)]
def slices_ContainsFunc_Field_o0 : Array Oper := #[⟨(.some 4), (.assign (.const (.bool false))), 4, "slices.go:124", #[], .none⟩]
def slices_ContainsFunc_Field_a0 : RAnn := ⟨[4], []⟩
def slices_ContainsFunc_Field_o1 : Array Oper := #[⟨(.some 5), (.move (.tmp 0)), 53, "slices.go:125", #[], .none⟩,
  ⟨(.some 6), (.move (.tmp 1)), 66, "slices.go:125", #[], .none⟩,
  ⟨(.some 7), (.call ⟨(.value (.func 47)), #[(.tmp 5), (.tmp 6)], #[53, 66]⟩), 3, "slices.go:125", #[⟨0, .data⟩, ⟨1, .data⟩], .none⟩,
  ⟨(.some 8), (.binOp .geq 3 (.tmp 7) (.const (.int .i64 0)) 3), 4, "slices.go:125", #[⟨2, .data⟩], .none⟩,
  ⟨(.some 4), (.assign (.tmp 8)), 4, "slices.go:125", #[⟨3, .data⟩, ⟨2, .chain⟩, ⟨0, .phase⟩, ⟨1, .phase⟩, ⟨2, .phase⟩, ⟨3, .phase⟩], .none⟩]
def slices_ContainsFunc_Field_a1 : RAnn := ⟨[0, 1, 5, 6, 7, 8], []⟩
def slices_ContainsFunc_Field_c : Code := (.seq (.region 0 slices_ContainsFunc_Field_o0 false) (.seq (.region 1 slices_ContainsFunc_Field_o1 false) .ret))
def slices_ContainsFunc_Field_an : List (Nat × RAnn) := [(0, slices_ContainsFunc_Field_a0), (1, slices_ContainsFunc_Field_a1)]
def dbd_areFields_1_o0 : Array Oper := #[⟨(.some 2), (.box 65 (.tmp 0)), 0, "dbd.go:33", #[], .none⟩,
  ⟨(.some 3), (.assign (.const (.bool false))), 4, "dbd.go:33", #[], .none⟩]
def dbd_areFields_1_a0 : RAnn := ⟨[0, 3], []⟩
def dbd_areFields_1_o1 : Array Oper := #[⟨(.some 4), (.fieldAddr 65 (.tmp 2) 0), 0, "dbd.go:33", #[], .none⟩,
  ⟨(.some 5), (.load 9 (.tmp 4)), 9, "dbd.go:33", #[⟨0, .data⟩], .none⟩,
  ⟨(.some 6), (.fieldAddr 65 (.tmp 1) 0), 0, "dbd.go:33", #[], .none⟩,
  ⟨(.some 7), (.load 9 (.tmp 6)), 9, "dbd.go:33", #[⟨2, .data⟩], .none⟩,
  ⟨(.some 8), (.binOp .eql 9 (.tmp 5) (.tmp 7) 9), 4, "dbd.go:33", #[⟨1, .data⟩, ⟨3, .data⟩], .none⟩,
  ⟨(.some 3), (.assign (.tmp 8)), 4, "dbd.go:33", #[⟨4, .data⟩, ⟨0, .phase⟩, ⟨1, .phase⟩, ⟨2, .phase⟩, ⟨3, .phase⟩, ⟨4, .phase⟩], .none⟩]
def dbd_areFields_1_a1 : RAnn := ⟨[1, 2, 4, 5, 6, 7, 8], []⟩
def dbd_areFields_1_c : Code := (.seq (.region 0 dbd_areFields_1_o0 false) (.seq (.region 1 dbd_areFields_1_o1 false) .ret))
def dbd_areFields_1_an : List (Nat × RAnn) := [(0, dbd_areFields_1_a0), (1, dbd_areFields_1_a1)]
def dbd_areFields_o0 : Array Oper := #[⟨(.some 4), (.assign (.const (.bool false))), 4, "dbd.go:28", #[], .none⟩]
def dbd_areFields_a0 : RAnn := ⟨[4], []⟩
def dbd_areFields_o1 : Array Oper := #[⟨(.some 7), (.move (.tmp 0)), 53, "dbd.go:29", #[], .none⟩,
  ⟨(.some 8), (.call ⟨(.builtin .len), #[(.tmp 7)], #[53]⟩), 3, "dbd.go:29", #[⟨0, .data⟩], .none⟩,
  ⟨(.some 9), (.move (.const (.int .i64 0))), 3, "dbd.go:29", #[], .none⟩]
def dbd_areFields_a1 : RAnn := ⟨[], []⟩
def dbd_areFields_o2 : Array Oper := #[⟨(.some 10), (.binOp .lss 3 (.tmp 9) (.tmp 8) 3), 0, "dbd.go:29", #[], .none⟩]
def dbd_areFields_a2 : RAnn := ⟨[], []⟩
def dbd_areFields_o3 : Array Oper := #[⟨(.some 11), (.move (.tmp 9)), 3, "dbd.go:29", #[], .none⟩,
  ⟨(.some 12), (.indexAddr 53 (.tmp 7) (.tmp 9)), 0, "dbd.go:29", #[], .none⟩,
  ⟨(.some 13), (.load 65 (.tmp 12)), 65, "dbd.go:29", #[⟨1, .data⟩], .none⟩,
  ⟨(.some 6), (.alloc 65), 0, "dbd.go:29", #[], .none⟩,
  ⟨(.some 5), (.assign (.tmp 11)), 3, "dbd.go:29", #[⟨0, .data⟩, ⟨0, .phase⟩, ⟨1, .phase⟩, ⟨2, .phase⟩, ⟨3, .phase⟩], .none⟩,
  ⟨.none, (.store 65 (.tmp 6) (.tmp 13)), 0, "dbd.go:29", #[⟨3, .data⟩, ⟨2, .data⟩, ⟨4, .chain⟩, ⟨0, .phase⟩, ⟨1, .phase⟩, ⟨2, .phase⟩, ⟨3, .phase⟩, ⟨4, .phase⟩], .none⟩]
def dbd_areFields_a3 : RAnn := ⟨[10, 11, 12, 13], []⟩
def dbd_areFields_o4 : Array Oper := #[⟨(.some 14), (.fieldAddr 65 (.tmp 6) 0), 0, "dbd.go:30", #[], .none⟩,
  ⟨(.some 15), (.load 9 (.tmp 14)), 9, "dbd.go:30", #[⟨0, .data⟩], .none⟩,
  ⟨(.some 16), (.call ⟨(.value (.func 56)), #[(.tmp 15)], #[9]⟩), 4, "dbd.go:30", #[⟨1, .data⟩], .none⟩,
  ⟨(.some 17), (.unOp .not 4 (.tmp 16)), 4, "dbd.go:30", #[⟨2, .data⟩], .none⟩,
  ⟨(.some 18), (.move (.tmp 17)), 4, "dbd.go:30", #[⟨3, .data⟩, ⟨2, .chain⟩], .none⟩,
  ⟨(.some 19), (.fieldAddr 65 (.tmp 6) 1), 0, "dbd.go:30", #[⟨4, .guard⟩], (.some (4, false))⟩,
  ⟨(.some 20), (.load 3 (.tmp 19)), 3, "dbd.go:30", #[⟨5, .data⟩, ⟨4, .guard⟩], (.some (4, false))⟩,
  ⟨(.some 21), (.binOp .lss 3 (.tmp 20) (.const (.int .i64 0)) 3), 4, "dbd.go:30", #[⟨6, .data⟩, ⟨4, .guard⟩], (.some (4, false))⟩,
  ⟨(.some 22), (.pick (.tmp 18) (.const (.bool true)) (.tmp 21)), 4, "dbd.go:30", #[⟨4, .data⟩, ⟨7, .data⟩], .none⟩,
  ⟨(.some 23), (.move (.tmp 22)), 4, "dbd.go:30", #[⟨8, .data⟩, ⟨4, .chain⟩], .none⟩,
  ⟨(.some 24), (.fieldAddr 65 (.tmp 6) 1), 0, "dbd.go:30", #[⟨9, .guard⟩], (.some (9, false))⟩,
  ⟨(.some 25), (.load 3 (.tmp 24)), 3, "dbd.go:30", #[⟨10, .data⟩, ⟨9, .guard⟩], (.some (9, false))⟩,
  ⟨(.some 26), (.move (.tmp 1)), 3, "dbd.go:30", #[⟨9, .guard⟩], (.some (9, false))⟩,
  ⟨(.some 27), (.binOp .geq 3 (.tmp 25) (.tmp 26) 3), 4, "dbd.go:30", #[⟨11, .data⟩, ⟨12, .data⟩, ⟨9, .guard⟩], (.some (9, false))⟩,
  ⟨(.some 28), (.pick (.tmp 23) (.const (.bool true)) (.tmp 27)), 4, "dbd.go:30", #[⟨9, .data⟩, ⟨13, .data⟩], .none⟩,
  ⟨(.some 29), (.move (.tmp 28)), 4, "dbd.go:30", #[⟨14, .data⟩, ⟨9, .chain⟩], .none⟩,
  ⟨(.some 30), (.fieldAddr 65 (.tmp 6) 2), 0, "dbd.go:30", #[⟨15, .guard⟩], (.some (15, false))⟩,
  ⟨(.some 31), (.load 3 (.tmp 30)), 3, "dbd.go:30", #[⟨16, .data⟩, ⟨15, .guard⟩], (.some (15, false))⟩,
  ⟨(.some 32), (.binOp .lss 3 (.tmp 31) (.const (.int .i64 1)) 3), 4, "dbd.go:30", #[⟨17, .data⟩, ⟨15, .guard⟩], (.some (15, false))⟩,
  ⟨(.some 33), (.pick (.tmp 29) (.const (.bool true)) (.tmp 32)), 4, "dbd.go:30", #[⟨15, .data⟩, ⟨18, .data⟩], .none⟩,
  ⟨(.some 34), (.move (.tmp 33)), 4, "dbd.go:30", #[⟨19, .data⟩, ⟨15, .chain⟩], .none⟩,
  ⟨(.some 35), (.fieldAddr 65 (.tmp 6) 2), 0, "dbd.go:30", #[⟨20, .guard⟩], (.some (20, false))⟩,
  ⟨(.some 36), (.load 3 (.tmp 35)), 3, "dbd.go:30", #[⟨21, .data⟩, ⟨20, .guard⟩], (.some (20, false))⟩,
  ⟨(.some 37), (.move (.tmp 1)), 3, "dbd.go:30", #[⟨20, .guard⟩], (.some (20, false))⟩,
  ⟨(.some 38), (.fieldAddr 65 (.tmp 6) 1), 0, "dbd.go:30", #[⟨20, .guard⟩], (.some (20, false))⟩,
  ⟨(.some 39), (.load 3 (.tmp 38)), 3, "dbd.go:30", #[⟨24, .data⟩, ⟨20, .guard⟩], (.some (20, false))⟩,
  ⟨(.some 40), (.binOp .sub 3 (.tmp 37) (.tmp 39) 3), 3, "dbd.go:30", #[⟨23, .data⟩, ⟨25, .data⟩, ⟨20, .guard⟩], (.some (20, false))⟩,
  ⟨(.some 41), (.binOp .gtr 3 (.tmp 36) (.tmp 40) 3), 4, "dbd.go:30", #[⟨22, .data⟩, ⟨26, .data⟩, ⟨20, .guard⟩], (.some (20, false))⟩,
  ⟨(.some 42), (.pick (.tmp 34) (.const (.bool true)) (.tmp 41)), 4, "dbd.go:30", #[⟨20, .data⟩, ⟨27, .data⟩], .none⟩]
def dbd_areFields_a4 : RAnn := ⟨[14, 15, 16, 17, 18, 19, 20, 21, 22, 23, 24, 25, 26, 27, 28, 29, 30, 31, 32, 33, 34, 35, 36, 37, 38, 39, 40, 41], []⟩
def dbd_areFields_o5 : Array Oper := #[⟨(.some 4), (.assign (.const (.bool false))), 4, "dbd.go:31", #[], .none⟩]
def dbd_areFields_a5 : RAnn := ⟨[0, 1, 5, 6, 7, 8, 9, 42], []⟩
def dbd_areFields_o6 : Array Oper := #[⟨(.some 43), (.move (.tmp 0)), 53, "dbd.go:33", #[], .none⟩,
  ⟨(.some 44), (.move (.tmp 5)), 3, "dbd.go:33", #[], .none⟩,
  ⟨(.some 45), (.slice 53 (.tmp 43) .none (.some (.tmp 44)) .none), 53, "dbd.go:33", #[⟨0, .data⟩, ⟨1, .data⟩], .none⟩,
  ⟨(.some 46), (.makeFunc (.func 77) #[] #[(.tmp 6)]), 66, "dbd.go:33", #[], .none⟩,
  ⟨(.some 47), (.call ⟨(.value (.func 76)), #[(.tmp 45), (.tmp 46)], #[53, 66]⟩), 4, "dbd.go:33", #[⟨2, .data⟩, ⟨3, .data⟩], .none⟩]
def dbd_areFields_a6 : RAnn := ⟨[5, 6, 42, 43, 44, 45, 46], []⟩
def dbd_areFields_o7 : Array Oper := #[⟨(.some 4), (.assign (.const (.bool false))), 4, "dbd.go:34", #[], .none⟩]
def dbd_areFields_a7 : RAnn := ⟨[0, 1, 7, 8, 9, 47], []⟩
def dbd_areFields_o8 : Array Oper := #[⟨(.some 48), (.binOp .add 3 (.tmp 9) (.const (.int .i64 1)) 3), 3, "dbd.go:29", #[], .none⟩,
  ⟨(.some 9), (.move (.tmp 48)), 3, "dbd.go:29", #[⟨0, .data⟩], .none⟩]
def dbd_areFields_a8 : RAnn := ⟨[47, 48], []⟩
def dbd_areFields_o9 : Array Oper := #[⟨(.some 49), (.move (.tmp 0)), 53, "dbd.go:37", #[], .none⟩,
  ⟨(.some 50), (.call ⟨(.builtin .len), #[(.tmp 49)], #[53]⟩), 3, "dbd.go:37", #[⟨0, .data⟩], .none⟩,
  ⟨(.some 51), (.binOp .leq 3 (.tmp 50) (.const (.int .i64 5)) 3), 4, "dbd.go:37", #[⟨1, .data⟩], .none⟩,
  ⟨(.some 4), (.assign (.tmp 51)), 4, "dbd.go:37", #[⟨2, .data⟩, ⟨0, .phase⟩, ⟨1, .phase⟩, ⟨2, .phase⟩], .none⟩]
def dbd_areFields_a9 : RAnn := ⟨[0, 1, 7, 8, 9, 10, 49, 50, 51], []⟩
def dbd_areFields_b0 : Code := (.seq (.region 2 dbd_areFields_o2 false) (.seq (.cond (.tmp 10) .skip (.exit 0)) (.seq (.block 1 (.seq (.region 3 dbd_areFields_o3 false) (.seq (.seq (.region 4 dbd_areFields_o4 false) (.cond (.tmp 42) (.seq (.region 5 dbd_areFields_o5 false) .ret) .skip)) (.seq (.region 6 dbd_areFields_o6 false) (.cond (.tmp 47) (.seq (.region 7 dbd_areFields_o7 false) .ret) .skip))))) (.region 8 dbd_areFields_o8 false))))
def dbd_areFields_c : Code := (.seq (.region 0 dbd_areFields_o0 false) (.seq (.seq (.region 1 dbd_areFields_o1 false) (.block 0 (.loop dbd_areFields_b0))) (.seq (.region 9 dbd_areFields_o9 false) .ret)))
def dbd_areFields_an : List (Nat × RAnn) := [(0, dbd_areFields_a0), (1, dbd_areFields_a1), (2, dbd_areFields_a2), (3, dbd_areFields_a3), (4, dbd_areFields_a4), (5, dbd_areFields_a5), (6, dbd_areFields_a6), (7, dbd_areFields_a7), (8, dbd_areFields_a8), (9, dbd_areFields_a9)]
def dbd_isType_o0 : Array Oper := #[⟨(.some 1), (.box 55 (.tmp 0)), 0, "dbd.go:41", #[], .none⟩,
  ⟨(.some 2), (.assign (.const (.bool false))), 4, "dbd.go:41", #[], .none⟩]
def dbd_isType_a0 : RAnn := ⟨[0, 2], []⟩
def dbd_isType_o1 : Array Oper := #[⟨(.some 4), (.fieldAddr 55 (.tmp 1) 0), 0, "dbd.go:43", #[], .none⟩,
  ⟨(.some 5), (.load 9 (.tmp 4)), 9, "dbd.go:43", #[⟨0, .data⟩], .none⟩,
  ⟨(.some 6), (.call ⟨(.value (.func 56)), #[(.tmp 5)], #[9]⟩), 4, "dbd.go:43", #[⟨1, .data⟩], .none⟩,
  ⟨(.some 7), (.unOp .not 4 (.tmp 6)), 4, "dbd.go:43", #[⟨2, .data⟩], .none⟩,
  ⟨(.some 8), (.move (.tmp 7)), 4, "dbd.go:43", #[⟨3, .data⟩, ⟨2, .chain⟩], .none⟩,
  ⟨(.some 9), (.fieldAddr 55 (.tmp 1) 2), 0, "dbd.go:43", #[⟨4, .guard⟩], (.some (4, false))⟩,
  ⟨(.some 10), (.load 3 (.tmp 9)), 3, "dbd.go:43", #[⟨5, .data⟩, ⟨4, .guard⟩], (.some (4, false))⟩,
  ⟨(.some 11), (.binOp .lss 3 (.tmp 10) (.const (.int .i64 1)) 3), 4, "dbd.go:43", #[⟨6, .data⟩, ⟨4, .guard⟩], (.some (4, false))⟩,
  ⟨(.some 12), (.pick (.tmp 8) (.const (.bool true)) (.tmp 11)), 4, "dbd.go:43", #[⟨4, .data⟩, ⟨7, .data⟩], .none⟩,
  ⟨(.some 13), (.move (.tmp 12)), 4, "dbd.go:43", #[⟨8, .data⟩, ⟨4, .chain⟩], .none⟩,
  ⟨(.some 14), (.fieldAddr 55 (.tmp 1) 2), 0, "dbd.go:43", #[⟨9, .guard⟩], (.some (9, false))⟩,
  ⟨(.some 15), (.load 3 (.tmp 14)), 3, "dbd.go:43", #[⟨10, .data⟩, ⟨9, .guard⟩], (.some (9, false))⟩,
  ⟨(.some 16), (.fieldAddr 55 (.tmp 1) 3), 0, "dbd.go:43", #[⟨9, .guard⟩], (.some (9, false))⟩,
  ⟨(.some 17), (.load 3 (.tmp 16)), 3, "dbd.go:43", #[⟨12, .data⟩, ⟨9, .guard⟩], (.some (9, false))⟩,
  ⟨(.some 18), (.binOp .gtr 3 (.tmp 15) (.tmp 17) 3), 4, "dbd.go:43", #[⟨11, .data⟩, ⟨13, .data⟩, ⟨9, .guard⟩], (.some (9, false))⟩,
  ⟨(.some 19), (.pick (.tmp 13) (.const (.bool true)) (.tmp 18)), 4, "dbd.go:43", #[⟨9, .data⟩, ⟨14, .data⟩], .none⟩,
  ⟨(.some 20), (.move (.tmp 19)), 4, "dbd.go:43", #[⟨15, .data⟩, ⟨9, .chain⟩], .none⟩,
  ⟨(.some 21), (.fieldAddr 55 (.tmp 1) 3), 0, "dbd.go:43", #[⟨16, .guard⟩], (.some (16, false))⟩,
  ⟨(.some 22), (.load 3 (.tmp 21)), 3, "dbd.go:43", #[⟨17, .data⟩, ⟨16, .guard⟩], (.some (16, false))⟩,
  ⟨(.some 23), (.binOp .gtr 3 (.tmp 22) (.const (.int .i64 40)) 3), 4, "dbd.go:43", #[⟨18, .data⟩, ⟨16, .guard⟩], (.some (16, false))⟩,
  ⟨(.some 24), (.pick (.tmp 20) (.const (.bool true)) (.tmp 23)), 4, "dbd.go:43", #[⟨16, .data⟩, ⟨19, .data⟩], .none⟩,
  ⟨(.some 25), (.move (.tmp 24)), 4, "dbd.go:43", #[⟨20, .data⟩, ⟨16, .chain⟩], .none⟩,
  ⟨(.some 26), (.fieldAddr 55 (.tmp 1) 4), 0, "dbd.go:43", #[⟨21, .guard⟩], (.some (21, false))⟩,
  ⟨(.some 27), (.load 53 (.tmp 26)), 53, "dbd.go:43", #[⟨22, .data⟩, ⟨21, .guard⟩], (.some (21, false))⟩,
  ⟨(.some 28), (.fieldAddr 55 (.tmp 1) 3), 0, "dbd.go:43", #[⟨21, .guard⟩], (.some (21, false))⟩,
  ⟨(.some 29), (.load 3 (.tmp 28)), 3, "dbd.go:43", #[⟨24, .data⟩, ⟨21, .guard⟩], (.some (21, false))⟩,
  ⟨(.some 30), (.call ⟨(.value (.func 74)), #[(.tmp 27), (.tmp 29)], #[53, 3]⟩), 4, "dbd.go:43", #[⟨23, .data⟩, ⟨25, .data⟩, ⟨21, .chain⟩, ⟨21, .guard⟩], (.some (21, false))⟩,
  ⟨(.some 31), (.unOp .not 4 (.tmp 30)), 4, "dbd.go:43", #[⟨26, .data⟩, ⟨21, .guard⟩], (.some (21, false))⟩,
  ⟨(.some 32), (.pick (.tmp 25) (.const (.bool true)) (.tmp 31)), 4, "dbd.go:43", #[⟨21, .data⟩, ⟨27, .data⟩], .none⟩,
  ⟨(.some 3), (.assign (.tmp 32)), 4, "dbd.go:43", #[⟨28, .data⟩, ⟨26, .chain⟩], .none⟩]
def dbd_isType_a1 : RAnn := ⟨[4, 5, 6, 7, 8, 9, 10, 11, 12, 13, 14, 15, 16, 17, 18, 19, 20, 21, 22, 23, 24, 25, 26, 27, 28, 29, 30, 31, 32], []⟩
def dbd_isType_o2 : Array Oper := #[⟨(.some 2), (.assign (.const (.bool false))), 4, "dbd.go:44", #[], .none⟩]
def dbd_isType_a2 : RAnn := ⟨[1, 3], []⟩
def dbd_isType_o3 : Array Oper := #[⟨(.some 34), (.fieldAddr 55 (.tmp 1) 5), 0, "dbd.go:45", #[], .none⟩,
  ⟨(.some 35), (.load 3 (.tmp 34)), 3, "dbd.go:45", #[⟨0, .data⟩], .none⟩,
  ⟨(.some 36), (.binOp .eql 3 (.tmp 35) (.const (.int .i64 (-1))) 3), 4, "dbd.go:45", #[⟨1, .data⟩], .none⟩,
  ⟨(.some 33), (.assign (.tmp 36)), 4, "dbd.go:45", #[⟨2, .data⟩], .none⟩]
def dbd_isType_a3 : RAnn := ⟨[3, 34, 35, 36], []⟩
def dbd_isType_o4 : Array Oper := #[⟨(.some 37), (.fieldAddr 55 (.tmp 1) 6), 0, "dbd.go:46", #[], .none⟩,
  ⟨(.some 38), (.load 4 (.tmp 37)), 4, "dbd.go:46", #[⟨0, .data⟩], .none⟩,
  ⟨(.some 39), (.unOp .not 4 (.tmp 38)), 4, "dbd.go:46", #[⟨1, .data⟩], .none⟩,
  ⟨(.some 2), (.assign (.tmp 39)), 4, "dbd.go:46", #[⟨2, .data⟩, ⟨0, .phase⟩, ⟨1, .phase⟩, ⟨2, .phase⟩], .none⟩]
def dbd_isType_a4 : RAnn := ⟨[1, 33, 37, 38, 39], []⟩
def dbd_isType_o5 : Array Oper := #[⟨(.some 41), (.fieldAddr 55 (.tmp 1) 5), 0, "dbd.go:47", #[], .none⟩,
  ⟨(.some 42), (.load 3 (.tmp 41)), 3, "dbd.go:47", #[⟨0, .data⟩], .none⟩,
  ⟨(.some 43), (.binOp .lss 3 (.tmp 42) (.const (.int .i64 0)) 3), 4, "dbd.go:47", #[⟨1, .data⟩], .none⟩,
  ⟨(.some 44), (.move (.tmp 43)), 4, "dbd.go:47", #[⟨2, .data⟩], .none⟩,
  ⟨(.some 45), (.fieldAddr 55 (.tmp 1) 5), 0, "dbd.go:47", #[⟨3, .guard⟩], (.some (3, false))⟩,
  ⟨(.some 46), (.load 3 (.tmp 45)), 3, "dbd.go:47", #[⟨4, .data⟩, ⟨3, .guard⟩], (.some (3, false))⟩,
  ⟨(.some 47), (.fieldAddr 55 (.tmp 1) 4), 0, "dbd.go:47", #[⟨3, .guard⟩], (.some (3, false))⟩,
  ⟨(.some 48), (.load 53 (.tmp 47)), 53, "dbd.go:47", #[⟨6, .data⟩, ⟨3, .guard⟩], (.some (3, false))⟩,
  ⟨(.some 49), (.call ⟨(.builtin .len), #[(.tmp 48)], #[53]⟩), 3, "dbd.go:47", #[⟨7, .data⟩, ⟨3, .guard⟩], (.some (3, false))⟩,
  ⟨(.some 50), (.binOp .geq 3 (.tmp 46) (.tmp 49) 3), 4, "dbd.go:47", #[⟨5, .data⟩, ⟨8, .data⟩, ⟨3, .guard⟩], (.some (3, false))⟩,
  ⟨(.some 51), (.pick (.tmp 44) (.const (.bool true)) (.tmp 50)), 4, "dbd.go:47", #[⟨3, .data⟩, ⟨9, .data⟩], .none⟩,
  ⟨(.some 40), (.assign (.tmp 51)), 4, "dbd.go:47", #[⟨10, .data⟩, ⟨3, .chain⟩], .none⟩]
def dbd_isType_a5 : RAnn := ⟨[33, 41, 42, 43, 44, 45, 46, 47, 48, 49, 50, 51], []⟩
def dbd_isType_o6 : Array Oper := #[⟨(.some 2), (.assign (.const (.bool false))), 4, "dbd.go:48", #[], .none⟩]
def dbd_isType_a6 : RAnn := ⟨[1, 40], []⟩
def dbd_isType_o7 : Array Oper := #[⟨(.some 52), (.fieldAddr 55 (.tmp 1) 4), 0, "dbd.go:50", #[], .none⟩,
  ⟨(.some 53), (.load 53 (.tmp 52)), 53, "dbd.go:50", #[⟨0, .data⟩], .none⟩,
  ⟨(.some 54), (.fieldAddr 55 (.tmp 1) 5), 0, "dbd.go:50", #[], .none⟩,
  ⟨(.some 55), (.load 3 (.tmp 54)), 3, "dbd.go:50", #[⟨2, .data⟩], .none⟩,
  ⟨(.some 56), (.indexAddr 53 (.tmp 53) (.tmp 55)), 0, "dbd.go:50", #[⟨1, .data⟩, ⟨3, .data⟩], .none⟩,
  ⟨(.some 57), (.fieldAddr 65 (.tmp 56) 1), 0, "dbd.go:50", #[⟨4, .data⟩], .none⟩,
  ⟨(.some 58), (.load 3 (.tmp 57)), 3, "dbd.go:50", #[⟨5, .data⟩], .none⟩,
  ⟨(.some 59), (.fieldAddr 55 (.tmp 1) 4), 0, "dbd.go:50", #[], .none⟩,
  ⟨(.some 60), (.load 53 (.tmp 59)), 53, "dbd.go:50", #[⟨7, .data⟩], .none⟩,
  ⟨(.some 61), (.fieldAddr 55 (.tmp 1) 5), 0, "dbd.go:50", #[], .none⟩,
  ⟨(.some 62), (.load 3 (.tmp 61)), 3, "dbd.go:50", #[⟨9, .data⟩], .none⟩,
  ⟨(.some 63), (.indexAddr 53 (.tmp 60) (.tmp 62)), 0, "dbd.go:50", #[⟨8, .data⟩, ⟨10, .data⟩], .none⟩,
  ⟨(.some 64), (.fieldAddr 65 (.tmp 63) 2), 0, "dbd.go:50", #[⟨11, .data⟩], .none⟩,
  ⟨(.some 65), (.load 3 (.tmp 64)), 3, "dbd.go:50", #[⟨12, .data⟩], .none⟩,
  ⟨(.some 66), (.binOp .add 3 (.tmp 58) (.tmp 65) 3), 3, "dbd.go:50", #[⟨6, .data⟩, ⟨13, .data⟩], .none⟩,
  ⟨(.some 67), (.fieldAddr 55 (.tmp 1) 2), 0, "dbd.go:50", #[], .none⟩,
  ⟨(.some 68), (.load 3 (.tmp 67)), 3, "dbd.go:50", #[⟨15, .data⟩], .none⟩,
  ⟨(.some 69), (.binOp .leq 3 (.tmp 66) (.tmp 68) 3), 4, "dbd.go:50", #[⟨14, .data⟩, ⟨16, .data⟩], .none⟩,
  ⟨(.some 2), (.assign (.tmp 69)), 4, "dbd.go:50", #[⟨17, .data⟩, ⟨0, .phase⟩, ⟨1, .phase⟩, ⟨2, .phase⟩, ⟨3, .phase⟩, ⟨4, .phase⟩, ⟨5, .phase⟩, ⟨6, .phase⟩, ⟨7, .phase⟩, ⟨8, .phase⟩, ⟨9, .phase⟩, ⟨10, .phase⟩, ⟨11, .phase⟩, ⟨12, .phase⟩, ⟨13, .phase⟩, ⟨14, .phase⟩, ⟨15, .phase⟩, ⟨16, .phase⟩, ⟨17, .phase⟩], .none⟩]
def dbd_isType_a7 : RAnn := ⟨[1, 40, 52, 53, 54, 55, 56, 57, 58, 59, 60, 61, 62, 63, 64, 65, 66, 67, 68, 69], []⟩
def dbd_isType_c : Code := (.seq (.region 0 dbd_isType_o0 false) (.seq (.block 0 (.seq (.region 1 dbd_isType_o1 false) (.cond (.tmp 3) (.seq (.region 2 dbd_isType_o2 false) .ret) (.seq (.region 3 dbd_isType_o3 false) (.cond (.tmp 33) (.seq (.region 4 dbd_isType_o4 false) .ret) (.seq (.region 5 dbd_isType_o5 false) (.cond (.tmp 40) (.seq (.region 6 dbd_isType_o6 false) .ret) .skip))))))) (.seq (.region 7 dbd_isType_o7 true) .ret)))
def dbd_isType_an : List (Nat × RAnn) := [(0, dbd_isType_a0), (1, dbd_isType_a1), (2, dbd_isType_a2), (3, dbd_isType_a3), (4, dbd_isType_a4), (5, dbd_isType_a5), (6, dbd_isType_a6), (7, dbd_isType_a7)]
def slices_IndexFunc_Type_o0 : Array Oper := #[⟨(.some 4), (.assign (.const (.int .i64 0))), 3, "slices.go:107", #[], .none⟩]
def slices_IndexFunc_Type_a0 : RAnn := ⟨[4], []⟩
def slices_IndexFunc_Type_o1 : Array Oper := #[⟨(.some 6), (.move (.tmp 0)), 22, "slices.go:108", #[], .none⟩,
  ⟨(.some 7), (.call ⟨(.builtin .len), #[(.tmp 6)], #[22]⟩), 3, "slices.go:108", #[⟨0, .data⟩], .none⟩,
  ⟨(.some 8), (.move (.const (.int .i64 0))), 3, "slices.go:108", #[], .none⟩]
def slices_IndexFunc_Type_a1 : RAnn := ⟨[6], []⟩
def slices_IndexFunc_Type_o2 : Array Oper := #[⟨(.some 9), (.binOp .lss 3 (.tmp 8) (.tmp 7) 3), 0, "slices.go:108", #[], .none⟩]
def slices_IndexFunc_Type_a2 : RAnn := ⟨[], []⟩
def slices_IndexFunc_Type_o3 : Array Oper := #[⟨(.some 10), (.move (.tmp 8)), 3, "slices.go:108", #[], .none⟩,
  ⟨(.some 5), (.assign (.tmp 10)), 3, "slices.go:108", #[⟨0, .data⟩, ⟨0, .phase⟩], .none⟩]
def slices_IndexFunc_Type_a3 : RAnn := ⟨[9, 10], []⟩
def slices_IndexFunc_Type_o4 : Array Oper := #[⟨(.some 11), (.move (.tmp 1)), 62, "slices.go:109", #[], .none⟩,
  ⟨(.some 12), (.move (.tmp 0)), 22, "slices.go:109", #[], .none⟩,
  ⟨(.some 13), (.move (.tmp 5)), 3, "slices.go:109", #[], .none⟩,
  ⟨(.some 14), (.indexAddr 22 (.tmp 12) (.tmp 13)), 0, "slices.go:109", #[⟨1, .data⟩, ⟨2, .data⟩], .none⟩,
  ⟨(.some 15), (.load 55 (.tmp 14)), 55, "slices.go:109", #[⟨3, .data⟩], .none⟩,
  ⟨(.some 16), (.call ⟨(.value (.tmp 11)), #[(.tmp 15)], #[55]⟩), 4, "slices.go:109", #[⟨0, .data⟩, ⟨4, .data⟩], .none⟩]
def slices_IndexFunc_Type_a4 : RAnn := ⟨[11, 12, 13, 14, 15], []⟩
def slices_IndexFunc_Type_o5 : Array Oper := #[⟨(.some 17), (.move (.tmp 5)), 3, "slices.go:110", #[], .none⟩,
  ⟨(.some 4), (.assign (.tmp 17)), 3, "slices.go:110", #[⟨0, .data⟩, ⟨0, .phase⟩], .none⟩]
def slices_IndexFunc_Type_a5 : RAnn := ⟨[0, 1, 5, 7, 8, 16, 17], []⟩
def slices_IndexFunc_Type_o6 : Array Oper := #[⟨(.some 18), (.binOp .add 3 (.tmp 8) (.const (.int .i64 1)) 3), 3, "slices.go:108", #[], .none⟩,
  ⟨(.some 8), (.move (.tmp 18)), 3, "slices.go:108", #[⟨0, .data⟩], .none⟩]
def slices_IndexFunc_Type_a6 : RAnn := ⟨[5, 16, 18], []⟩
def slices_IndexFunc_Type_o7 : Array Oper := #[⟨(.some 4), (.assign (.const (.int .i64 (-1)))), 3, "slices.go:113", #[], .none⟩]
def slices_IndexFunc_Type_a7 : RAnn := ⟨[0, 1, 7, 8, 9], []⟩
def slices_IndexFunc_Type_b0 : Code := (.seq (.region 2 slices_IndexFunc_Type_o2 false) (.seq (.cond (.tmp 9) .skip (.exit 0)) (.seq (.block 1 (.seq (.region 3 slices_IndexFunc_Type_o3 false) (.seq (.region 4 slices_IndexFunc_Type_o4 false) (.cond (.tmp 16) (.seq (.region 5 slices_IndexFunc_Type_o5 false) .ret) .skip)))) (.region 6 slices_IndexFunc_Type_o6 false))))
def slices_IndexFunc_Type_c : Code := (.seq (.region 0 slices_IndexFunc_Type_o0 false) (.seq (.seq (.region 1 slices_IndexFunc_Type_o1 false) (.block 0 (.loop slices_IndexFunc_Type_b0))) (.seq (.region 7 slices_IndexFunc_Type_o7 false) .ret)))
def slices_IndexFunc_Type_an : List (Nat × RAnn) := [(0, slices_IndexFunc_Type_a0), (1, slices_IndexFunc_Type_a1), (2, slices_IndexFunc_Type_a2), (3, slices_IndexFunc_Type_a3), (4, slices_IndexFunc_Type_a4), (5, slices_IndexFunc_Type_a5), (6, slices_IndexFunc_Type_a6), (7, slices_IndexFunc_Type_a7)]
def slices_ContainsFunc_Type_o0 : Array Oper := #[⟨(.some 4), (.assign (.const (.bool false))), 4, "slices.go:124", #[], .none⟩]
def slices_ContainsFunc_Type_a0 : RAnn := ⟨[4], []⟩
def slices_ContainsFunc_Type_o1 : Array Oper := #[⟨(.some 5), (.move (.tmp 0)), 22, "slices.go:125", #[], .none⟩,
  ⟨(.some 6), (.move (.tmp 1)), 62, "slices.go:125", #[], .none⟩,
  ⟨(.some 7), (.call ⟨(.value (.func 45)), #[(.tmp 5), (.tmp 6)], #[22, 62]⟩), 3, "slices.go:125", #[⟨0, .data⟩, ⟨1, .data⟩], .none⟩,
  ⟨(.some 8), (.binOp .geq 3 (.tmp 7) (.const (.int .i64 0)) 3), 4, "slices.go:125", #[⟨2, .data⟩], .none⟩,
  ⟨(.some 4), (.assign (.tmp 8)), 4, "slices.go:125", #[⟨3, .data⟩, ⟨2, .chain⟩, ⟨0, .phase⟩, ⟨1, .phase⟩, ⟨2, .phase⟩, ⟨3, .phase⟩], .none⟩]
def slices_ContainsFunc_Type_a1 : RAnn := ⟨[0, 1, 5, 6, 7, 8], []⟩
def slices_ContainsFunc_Type_c : Code := (.seq (.region 0 slices_ContainsFunc_Type_o0 false) (.seq (.region 1 slices_ContainsFunc_Type_o1 false) .ret))
def slices_ContainsFunc_Type_an : List (Nat × RAnn) := [(0, slices_ContainsFunc_Type_a0), (1, slices_ContainsFunc_Type_a1)]
def dbd_areTypes_1_o0 : Array Oper := #[⟨(.some 2), (.box 55 (.tmp 0)), 0, "dbd.go:60", #[], .none⟩,
  ⟨(.some 3), (.assign (.const (.bool false))), 4, "dbd.go:60", #[], .none⟩]
def dbd_areTypes_1_a0 : RAnn := ⟨[0, 3], []⟩
def dbd_areTypes_1_o1 : Array Oper := #[⟨(.some 4), (.fieldAddr 55 (.tmp 2) 0), 0, "dbd.go:60", #[], .none⟩,
  ⟨(.some 5), (.load 9 (.tmp 4)), 9, "dbd.go:60", #[⟨0, .data⟩], .none⟩,
  ⟨(.some 6), (.fieldAddr 55 (.tmp 1) 0), 0, "dbd.go:60", #[], .none⟩,
  ⟨(.some 7), (.load 9 (.tmp 6)), 9, "dbd.go:60", #[⟨2, .data⟩], .none⟩,
  ⟨(.some 8), (.binOp .eql 9 (.tmp 5) (.tmp 7) 9), 4, "dbd.go:60", #[⟨1, .data⟩, ⟨3, .data⟩], .none⟩,
  ⟨(.some 3), (.assign (.tmp 8)), 4, "dbd.go:60", #[⟨4, .data⟩, ⟨0, .phase⟩, ⟨1, .phase⟩, ⟨2, .phase⟩, ⟨3, .phase⟩, ⟨4, .phase⟩], .none⟩]
def dbd_areTypes_1_a1 : RAnn := ⟨[1, 2, 4, 5, 6, 7, 8], []⟩
def dbd_areTypes_1_c : Code := (.seq (.region 0 dbd_areTypes_1_o0 false) (.seq (.region 1 dbd_areTypes_1_o1 false) .ret))
def dbd_areTypes_1_an : List (Nat × RAnn) := [(0, dbd_areTypes_1_a0), (1, dbd_areTypes_1_a1)]
def slices_Index_int_o0 : Array Oper := #[⟨(.some 4), (.assign (.const (.int .i64 0))), 3, "slices.go:96", #[], .none⟩]
def slices_Index_int_a0 : RAnn := ⟨[4], []⟩
def slices_Index_int_o1 : Array Oper := #[⟨(.some 6), (.move (.tmp 0)), 28, "slices.go:97", #[], .none⟩,
  ⟨(.some 7), (.call ⟨(.builtin .len), #[(.tmp 6)], #[28]⟩), 3, "slices.go:97", #[⟨0, .data⟩], .none⟩,
  ⟨(.some 8), (.move (.const (.int .i64 0))), 3, "slices.go:97", #[], .none⟩]
def slices_Index_int_a1 : RAnn := ⟨[6], []⟩
def slices_Index_int_o2 : Array Oper := #[⟨(.some 9), (.binOp .lss 3 (.tmp 8) (.tmp 7) 3), 0, "slices.go:97", #[], .none⟩]
def slices_Index_int_a2 : RAnn := ⟨[], []⟩
def slices_Index_int_o3 : Array Oper := #[⟨(.some 10), (.move (.tmp 8)), 3, "slices.go:97", #[], .none⟩,
  ⟨(.some 5), (.assign (.tmp 10)), 3, "slices.go:97", #[⟨0, .data⟩, ⟨0, .phase⟩], .none⟩]
def slices_Index_int_a3 : RAnn := ⟨[9, 10], []⟩
def slices_Index_int_o4 : Array Oper := #[⟨(.some 11), (.move (.tmp 1)), 3, "slices.go:98", #[], .none⟩,
  ⟨(.some 12), (.move (.tmp 0)), 28, "slices.go:98", #[], .none⟩,
  ⟨(.some 13), (.move (.tmp 5)), 3, "slices.go:98", #[], .none⟩,
  ⟨(.some 14), (.indexAddr 28 (.tmp 12) (.tmp 13)), 0, "slices.go:98", #[⟨1, .data⟩, ⟨2, .data⟩], .none⟩,
  ⟨(.some 15), (.load 3 (.tmp 14)), 3, "slices.go:98", #[⟨3, .data⟩], .none⟩,
  ⟨(.some 16), (.binOp .eql 3 (.tmp 11) (.tmp 15) 3), 4, "slices.go:98", #[⟨0, .data⟩, ⟨4, .data⟩], .none⟩]
def slices_Index_int_a4 : RAnn := ⟨[11, 12, 13, 14, 15], []⟩
def slices_Index_int_o5 : Array Oper := #[⟨(.some 17), (.move (.tmp 5)), 3, "slices.go:99", #[], .none⟩,
  ⟨(.some 4), (.assign (.tmp 17)), 3, "slices.go:99", #[⟨0, .data⟩, ⟨0, .phase⟩], .none⟩]
def slices_Index_int_a5 : RAnn := ⟨[0, 1, 5, 7, 8, 16, 17], []⟩
def slices_Index_int_o6 : Array Oper := #[⟨(.some 18), (.binOp .add 3 (.tmp 8) (.const (.int .i64 1)) 3), 3, "slices.go:97", #[], .none⟩,
  ⟨(.some 8), (.move (.tmp 18)), 3, "slices.go:97", #[⟨0, .data⟩], .none⟩]
def slices_Index_int_a6 : RAnn := ⟨[5, 16, 18], []⟩
def slices_Index_int_o7 : Array Oper := #[⟨(.some 4), (.assign (.const (.int .i64 (-1)))), 3, "slices.go:102", #[], .none⟩]
def slices_Index_int_a7 : RAnn := ⟨[0, 1, 7, 8, 9], []⟩
def slices_Index_int_b0 : Code := (.seq (.region 2 slices_Index_int_o2 false) (.seq (.cond (.tmp 9) .skip (.exit 0)) (.seq (.block 1 (.seq (.region 3 slices_Index_int_o3 false) (.seq (.region 4 slices_Index_int_o4 false) (.cond (.tmp 16) (.seq (.region 5 slices_Index_int_o5 false) .ret) .skip)))) (.region 6 slices_Index_int_o6 false))))
def slices_Index_int_c : Code := (.seq (.region 0 slices_Index_int_o0 false) (.seq (.seq (.region 1 slices_Index_int_o1 false) (.block 0 (.loop slices_Index_int_b0))) (.seq (.region 7 slices_Index_int_o7 false) .ret)))
def slices_Index_int_an : List (Nat × RAnn) := [(0, slices_Index_int_a0), (1, slices_Index_int_a1), (2, slices_Index_int_a2), (3, slices_Index_int_a3), (4, slices_Index_int_a4), (5, slices_Index_int_a5), (6, slices_Index_int_a6), (7, slices_Index_int_a7)]
def dbd_areTypes_o0 : Array Oper := #[⟨(.some 2), (.assign (.const (.bool false))), 4, "dbd.go:54", #[], .none⟩]
def dbd_areTypes_a0 : RAnn := ⟨[2], []⟩
def dbd_areTypes_o1 : Array Oper := #[⟨(.some 7), (.move (.tmp 0)), 22, "dbd.go:55", #[], .none⟩,
  ⟨(.some 8), (.call ⟨(.builtin .len), #[(.tmp 7)], #[22]⟩), 3, "dbd.go:55", #[⟨0, .data⟩], .none⟩,
  ⟨(.some 9), (.binOp .lss 3 (.tmp 8) (.const (.int .i64 1)) 3), 4, "dbd.go:55", #[⟨1, .data⟩], .none⟩,
  ⟨(.some 10), (.move (.tmp 9)), 4, "dbd.go:55", #[⟨2, .data⟩], .none⟩,
  ⟨(.some 11), (.move (.tmp 0)), 22, "dbd.go:55", #[⟨3, .guard⟩], (.some (3, false))⟩,
  ⟨(.some 12), (.call ⟨(.builtin .len), #[(.tmp 11)], #[22]⟩), 3, "dbd.go:55", #[⟨4, .data⟩, ⟨3, .guard⟩], (.some (3, false))⟩,
  ⟨(.some 13), (.binOp .gtr 3 (.tmp 12) (.const (.int .i64 8)) 3), 4, "dbd.go:55", #[⟨5, .data⟩, ⟨3, .guard⟩], (.some (3, false))⟩,
  ⟨(.some 14), (.pick (.tmp 10) (.const (.bool true)) (.tmp 13)), 4, "dbd.go:55", #[⟨3, .data⟩, ⟨6, .data⟩], .none⟩]
def dbd_areTypes_a1 : RAnn := ⟨[7, 8, 9, 10, 11, 12, 13], []⟩
def dbd_areTypes_o2 : Array Oper := #[⟨(.some 2), (.assign (.const (.bool false))), 4, "dbd.go:56", #[], .none⟩]
def dbd_areTypes_a2 : RAnn := ⟨[0, 14], []⟩
def dbd_areTypes_o3 : Array Oper := #[⟨(.some 3), (.assign (.const (.slice .none 0 0))), 28, "dbd.go:58", #[], .none⟩]
def dbd_areTypes_a3 : RAnn := ⟨[14], [(0, { site := true })]⟩
def dbd_areTypes_o4 : Array Oper := #[⟨(.some 15), (.move (.tmp 0)), 22, "dbd.go:59", #[], .none⟩,
  ⟨(.some 16), (.call ⟨(.builtin .len), #[(.tmp 15)], #[22]⟩), 3, "dbd.go:59", #[⟨0, .data⟩], .none⟩,
  ⟨(.some 17), (.move (.const (.int .i64 0))), 3, "dbd.go:59", #[], .none⟩]
def dbd_areTypes_a4 : RAnn := ⟨[], []⟩
def dbd_areTypes_o5 : Array Oper := #[⟨(.some 18), (.binOp .lss 3 (.tmp 17) (.tmp 16) 3), 0, "dbd.go:59", #[], .none⟩]
def dbd_areTypes_a5 : RAnn := ⟨[], []⟩
def dbd_areTypes_o6 : Array Oper := #[⟨(.some 19), (.move (.tmp 17)), 3, "dbd.go:59", #[], .none⟩,
  ⟨(.some 20), (.indexAddr 22 (.tmp 15) (.tmp 17)), 0, "dbd.go:59", #[], .none⟩,
  ⟨(.some 21), (.load 55 (.tmp 20)), 55, "dbd.go:59", #[⟨1, .data⟩], .none⟩,
  ⟨(.some 5), (.alloc 55), 0, "dbd.go:59", #[], .none⟩,
  ⟨(.some 4), (.assign (.tmp 19)), 3, "dbd.go:59", #[⟨0, .data⟩, ⟨0, .phase⟩, ⟨1, .phase⟩, ⟨2, .phase⟩, ⟨3, .phase⟩], .none⟩,
  ⟨.none, (.store 55 (.tmp 5) (.tmp 21)), 0, "dbd.go:59", #[⟨3, .data⟩, ⟨2, .data⟩, ⟨4, .chain⟩, ⟨0, .phase⟩, ⟨1, .phase⟩, ⟨2, .phase⟩, ⟨3, .phase⟩, ⟨4, .phase⟩], .none⟩]
def dbd_areTypes_a6 : RAnn := ⟨[18, 19, 20, 21], []⟩
def dbd_areTypes_o7 : Array Oper := #[⟨(.some 22), (.load 55 (.tmp 5)), 55, "dbd.go:60", #[], .none⟩,
  ⟨(.some 23), (.call ⟨(.value (.func 68)), #[(.tmp 22)], #[55]⟩), 4, "dbd.go:60", #[⟨0, .data⟩], .none⟩,
  ⟨(.some 24), (.unOp .not 4 (.tmp 23)), 4, "dbd.go:60", #[⟨1, .data⟩], .none⟩,
  ⟨(.some 25), (.move (.tmp 24)), 4, "dbd.go:60", #[⟨2, .data⟩, ⟨1, .chain⟩], .none⟩,
  ⟨(.some 26), (.move (.tmp 0)), 22, "dbd.go:60", #[⟨3, .guard⟩], (.some (3, false))⟩,
  ⟨(.some 27), (.move (.tmp 4)), 3, "dbd.go:60", #[⟨3, .guard⟩], (.some (3, false))⟩,
  ⟨(.some 28), (.slice 22 (.tmp 26) .none (.some (.tmp 27)) .none), 22, "dbd.go:60", #[⟨4, .data⟩, ⟨5, .data⟩, ⟨3, .guard⟩], (.some (3, false))⟩,
  ⟨(.some 29), (.makeFunc (.func 70) #[] #[(.tmp 5)]), 62, "dbd.go:60", #[⟨3, .guard⟩], (.some (3, false))⟩,
  ⟨(.some 30), (.call ⟨(.value (.func 69)), #[(.tmp 28), (.tmp 29)], #[22, 62]⟩), 4, "dbd.go:60", #[⟨6, .data⟩, ⟨7, .data⟩, ⟨3, .chain⟩, ⟨3, .guard⟩], (.some (3, false))⟩,
  ⟨(.some 31), (.pick (.tmp 25) (.const (.bool true)) (.tmp 30)), 4, "dbd.go:60", #[⟨3, .data⟩, ⟨8, .data⟩], .none⟩]
def dbd_areTypes_a7 : RAnn := ⟨[22, 23, 24, 25, 26, 27, 28, 29, 30], []⟩
def dbd_areTypes_o8 : Array Oper := #[⟨(.some 2), (.assign (.const (.bool false))), 4, "dbd.go:61", #[], .none⟩]
def dbd_areTypes_a8 : RAnn := ⟨[0, 3, 4, 5, 15, 16, 17, 31], []⟩
def dbd_areTypes_o9 : Array Oper := #[⟨(.some 32), (.move (.tmp 3)), 28, "dbd.go:63", #[], .none⟩,
  ⟨(.some 33), (.fieldAddr 55 (.tmp 5) 1), 0, "dbd.go:63", #[], .none⟩,
  ⟨(.some 34), (.load 3 (.tmp 33)), 3, "dbd.go:63", #[⟨1, .data⟩], .none⟩,
  ⟨(.some 35), (.call ⟨(.value (.func 53)), #[(.tmp 32), (.tmp 34)], #[28, 3]⟩), 3, "dbd.go:63", #[⟨0, .data⟩, ⟨2, .data⟩], .none⟩,
  ⟨(.some 6), (.assign (.tmp 35)), 3, "dbd.go:63", #[⟨3, .data⟩, ⟨3, .chain⟩, ⟨0, .phase⟩, ⟨1, .phase⟩, ⟨2, .phase⟩, ⟨3, .phase⟩], .none⟩]
def dbd_areTypes_a9 : RAnn := ⟨[31, 32, 33, 34, 35], []⟩
def dbd_areTypes_o10 : Array Oper := #[⟨(.some 36), (.move (.tmp 4)), 3, "dbd.go:64", #[], .none⟩,
  ⟨(.some 37), (.binOp .eql 3 (.tmp 36) (.const (.int .i64 0)) 3), 4, "dbd.go:64", #[⟨0, .data⟩], .none⟩,
  ⟨(.some 38), (.move (.tmp 37)), 4, "dbd.go:64", #[⟨1, .data⟩], .none⟩,
  ⟨(.some 39), (.fieldAddr 55 (.tmp 5) 1), 0, "dbd.go:64", #[⟨2, .guard⟩], (.some (2, true))⟩,
  ⟨(.some 40), (.load 3 (.tmp 39)), 3, "dbd.go:64", #[⟨3, .data⟩, ⟨2, .guard⟩], (.some (2, true))⟩,
  ⟨(.some 41), (.binOp .neq 3 (.tmp 40) (.const (.int .i64 (-1))) 3), 4, "dbd.go:64", #[⟨4, .data⟩, ⟨2, .guard⟩], (.some (2, true))⟩,
  ⟨(.some 42), (.move (.tmp 41)), 4, "dbd.go:64", #[⟨5, .data⟩, ⟨2, .chain⟩, ⟨2, .guard⟩], (.some (2, true))⟩,
  ⟨(.some 43), (.fieldAddr 55 (.tmp 5) 5), 0, "dbd.go:64", #[⟨6, .guard⟩], (.some (6, false))⟩,
  ⟨(.some 44), (.load 3 (.tmp 43)), 3, "dbd.go:64", #[⟨7, .data⟩, ⟨6, .guard⟩], (.some (6, false))⟩,
  ⟨(.some 45), (.binOp .lss 3 (.tmp 44) (.const (.int .i64 0)) 3), 4, "dbd.go:64", #[⟨8, .data⟩, ⟨6, .guard⟩], (.some (6, false))⟩,
  ⟨(.some 46), (.pick (.tmp 42) (.const (.bool true)) (.tmp 45)), 4, "dbd.go:64", #[⟨6, .data⟩, ⟨9, .data⟩, ⟨2, .guard⟩], (.some (2, true))⟩,
  ⟨(.some 47), (.move (.tmp 46)), 4, "dbd.go:64", #[⟨10, .data⟩, ⟨6, .chain⟩, ⟨2, .guard⟩], (.some (2, true))⟩,
  ⟨(.some 48), (.fieldAddr 55 (.tmp 5) 6), 0, "dbd.go:64", #[⟨11, .guard⟩], (.some (11, false))⟩,
  ⟨(.some 49), (.load 4 (.tmp 48)), 4, "dbd.go:64", #[⟨12, .data⟩, ⟨11, .guard⟩], (.some (11, false))⟩,
  ⟨(.some 50), (.unOp .not 4 (.tmp 49)), 4, "dbd.go:64", #[⟨13, .data⟩, ⟨11, .guard⟩], (.some (11, false))⟩,
  ⟨(.some 51), (.pick (.tmp 47) (.const (.bool true)) (.tmp 50)), 4, "dbd.go:64", #[⟨11, .data⟩, ⟨14, .data⟩, ⟨2, .guard⟩], (.some (2, true))⟩,
  ⟨(.some 52), (.move (.tmp 51)), 4, "dbd.go:64", #[⟨15, .data⟩, ⟨11, .chain⟩, ⟨2, .guard⟩], (.some (2, true))⟩,
  ⟨(.some 53), (.fieldAddr 55 (.tmp 5) 4), 0, "dbd.go:64", #[⟨16, .guard⟩], (.some (16, false))⟩,
  ⟨(.some 54), (.load 53 (.tmp 53)), 53, "dbd.go:64", #[⟨17, .data⟩, ⟨16, .guard⟩], (.some (16, false))⟩,
  ⟨(.some 55), (.fieldAddr 55 (.tmp 5) 5), 0, "dbd.go:64", #[⟨16, .guard⟩], (.some (16, false))⟩,
  ⟨(.some 56), (.load 3 (.tmp 55)), 3, "dbd.go:64", #[⟨19, .data⟩, ⟨16, .guard⟩], (.some (16, false))⟩,
  ⟨(.some 57), (.indexAddr 53 (.tmp 54) (.tmp 56)), 0, "dbd.go:64", #[⟨18, .data⟩, ⟨20, .data⟩, ⟨16, .guard⟩], (.some (16, false))⟩,
  ⟨(.some 58), (.fieldAddr 65 (.tmp 57) 2), 0, "dbd.go:64", #[⟨21, .data⟩, ⟨16, .guard⟩], (.some (16, false))⟩,
  ⟨(.some 59), (.load 3 (.tmp 58)), 3, "dbd.go:64", #[⟨22, .data⟩, ⟨16, .guard⟩], (.some (16, false))⟩,
  ⟨(.some 60), (.binOp .gtr 3 (.tmp 59) (.const (.int .i64 24)) 3), 4, "dbd.go:64", #[⟨23, .data⟩, ⟨16, .guard⟩], (.some (16, false))⟩,
  ⟨(.some 61), (.pick (.tmp 52) (.const (.bool true)) (.tmp 60)), 4, "dbd.go:64", #[⟨16, .data⟩, ⟨24, .data⟩, ⟨2, .guard⟩], (.some (2, true))⟩,
  ⟨(.some 62), (.pick (.tmp 38) (.tmp 61) (.const (.bool false))), 4, "dbd.go:64", #[⟨2, .data⟩, ⟨25, .data⟩], .none⟩,
  ⟨(.some 63), (.move (.tmp 62)), 4, "dbd.go:64", #[⟨26, .data⟩, ⟨16, .chain⟩], .none⟩,
  ⟨(.some 64), (.move (.tmp 4)), 3, "dbd.go:64", #[⟨27, .guard⟩], (.some (27, false))⟩,
  ⟨(.some 65), (.binOp .gtr 3 (.tmp 64) (.const (.int .i64 0)) 3), 4, "dbd.go:64", #[⟨28, .data⟩, ⟨27, .guard⟩], (.some (27, false))⟩,
  ⟨(.some 66), (.move (.tmp 65)), 4, "dbd.go:64", #[⟨29, .data⟩, ⟨27, .chain⟩, ⟨27, .guard⟩], (.some (27, false))⟩,
  ⟨(.some 67), (.move (.tmp 6)), 3, "dbd.go:64", #[⟨30, .guard⟩], (.some (30, true))⟩,
  ⟨(.some 68), (.binOp .lss 3 (.tmp 67) (.const (.int .i64 0)) 3), 4, "dbd.go:64", #[⟨31, .data⟩, ⟨30, .guard⟩], (.some (30, true))⟩,
  ⟨(.some 69), (.pick (.tmp 66) (.tmp 68) (.const (.bool false))), 4, "dbd.go:64", #[⟨30, .data⟩, ⟨32, .data⟩, ⟨27, .guard⟩], (.some (27, false))⟩,
  ⟨(.some 70), (.pick (.tmp 63) (.const (.bool true)) (.tmp 69)), 4, "dbd.go:64", #[⟨27, .data⟩, ⟨33, .data⟩], .none⟩]
def dbd_areTypes_a10 : RAnn := ⟨[5, 36, 37, 38, 39, 40, 41, 42, 43, 44, 45, 46, 47, 48, 49, 50, 51, 52, 53, 54, 55, 56, 57, 58, 59, 60, 61, 62, 63, 64, 65, 66, 67, 68, 69], []⟩
def dbd_areTypes_o11 : Array Oper := #[⟨(.some 2), (.assign (.const (.bool false))), 4, "dbd.go:65", #[], .none⟩]
def dbd_areTypes_a11 : RAnn := ⟨[0, 3, 4, 6, 15, 16, 17, 70], []⟩
def dbd_areTypes_o12 : Array Oper := #[⟨(.some 71), (.move (.tmp 3)), 28, "dbd.go:67", #[], .none⟩,
  ⟨(.some 72), (.move (.tmp 6)), 3, "dbd.go:67", #[], .none⟩,
  ⟨(.some 73), (.binOp .add 3 (.tmp 72) (.const (.int .i64 1)) 3), 3, "dbd.go:67", #[⟨1, .data⟩], .none⟩,
  ⟨(.some 74), (.slice 28 (.tmp 71) .none (.some (.tmp 73)) .none), 28, "dbd.go:67", #[⟨0, .data⟩, ⟨2, .data⟩], .none⟩,
  ⟨(.some 75), (.move (.tmp 4)), 3, "dbd.go:67", #[], .none⟩,
  ⟨(.some 76), (.buildSlice 28 1 #[(0, (.tmp 75))]), 28, "dbd.go:67", #[⟨4, .data⟩], .none⟩,
  ⟨(.some 77), (.call ⟨(.builtin .append), #[(.tmp 74), (.tmp 76)], #[28, 28]⟩), 28, "dbd.go:67", #[⟨3, .data⟩, ⟨5, .data⟩], .none⟩,
  ⟨(.some 3), (.assign (.tmp 77)), 28, "dbd.go:67", #[⟨6, .data⟩, ⟨6, .chain⟩, ⟨0, .phase⟩, ⟨1, .phase⟩, ⟨2, .phase⟩, ⟨3, .phase⟩, ⟨4, .phase⟩, ⟨5, .phase⟩, ⟨6, .phase⟩], .none⟩]
def dbd_areTypes_a12 : RAnn := ⟨[4, 6, 70, 71, 72, 73, 74, 75, 76, 77], []⟩
def dbd_areTypes_o13 : Array Oper := #[⟨(.some 78), (.move (.tmp 3)), 28, "dbd.go:68", #[], .none⟩,
  ⟨(.some 79), (.call ⟨(.builtin .len), #[(.tmp 78)], #[28]⟩), 3, "dbd.go:68", #[⟨0, .data⟩], .none⟩,
  ⟨(.some 80), (.binOp .gtr 3 (.tmp 79) (.const (.int .i64 5)) 3), 4, "dbd.go:68", #[⟨1, .data⟩], .none⟩]
def dbd_areTypes_a13 : RAnn := ⟨[78, 79], []⟩
def dbd_areTypes_o14 : Array Oper := #[⟨(.some 2), (.assign (.const (.bool false))), 4, "dbd.go:69", #[], .none⟩]
def dbd_areTypes_a14 : RAnn := ⟨[0, 3, 15, 16, 17, 80], []⟩
def dbd_areTypes_o15 : Array Oper := #[⟨(.some 81), (.binOp .add 3 (.tmp 17) (.const (.int .i64 1)) 3), 3, "dbd.go:59", #[], .none⟩,
  ⟨(.some 17), (.move (.tmp 81)), 3, "dbd.go:59", #[⟨0, .data⟩], .none⟩]
def dbd_areTypes_a15 : RAnn := ⟨[80, 81], []⟩
def dbd_areTypes_o16 : Array Oper := #[⟨(.some 2), (.assign (.const (.bool true))), 4, "dbd.go:72", #[], .none⟩]
def dbd_areTypes_a16 : RAnn := ⟨[0, 3, 15, 16, 17, 18], []⟩
def dbd_areTypes_b0 : Code := (.seq (.region 5 dbd_areTypes_o5 false) (.seq (.cond (.tmp 18) .skip (.exit 0)) (.seq (.block 1 (.seq (.region 6 dbd_areTypes_o6 false) (.seq (.seq (.region 7 dbd_areTypes_o7 false) (.cond (.tmp 31) (.seq (.region 8 dbd_areTypes_o8 false) .ret) .skip)) (.seq (.region 9 dbd_areTypes_o9 false) (.seq (.seq (.region 10 dbd_areTypes_o10 false) (.cond (.tmp 70) (.seq (.region 11 dbd_areTypes_o11 false) .ret) .skip)) (.seq (.region 12 dbd_areTypes_o12 false) (.seq (.region 13 dbd_areTypes_o13 false) (.cond (.tmp 80) (.seq (.region 14 dbd_areTypes_o14 false) .ret) .skip)))))))) (.region 15 dbd_areTypes_o15 false))))
def dbd_areTypes_c : Code := (.seq (.region 0 dbd_areTypes_o0 false) (.seq (.seq (.region 1 dbd_areTypes_o1 false) (.cond (.tmp 14) (.seq (.region 2 dbd_areTypes_o2 false) .ret) .skip)) (.seq (.region 3 dbd_areTypes_o3 false) (.seq (.seq (.region 4 dbd_areTypes_o4 false) (.block 0 (.loop dbd_areTypes_b0))) (.seq (.region 16 dbd_areTypes_o16 false) .ret)))))
def dbd_areTypes_an : List (Nat × RAnn) := [(0, dbd_areTypes_a0), (1, dbd_areTypes_a1), (2, dbd_areTypes_a2), (3, dbd_areTypes_a3), (4, dbd_areTypes_a4), (5, dbd_areTypes_a5), (6, dbd_areTypes_a6), (7, dbd_areTypes_a7), (8, dbd_areTypes_a8), (9, dbd_areTypes_a9), (10, dbd_areTypes_a10), (11, dbd_areTypes_a11), (12, dbd_areTypes_a12), (13, dbd_areTypes_a13), (14, dbd_areTypes_a14), (15, dbd_areTypes_a15), (16, dbd_areTypes_a16)]
def slices_IndexFunc_Search_o0 : Array Oper := #[⟨(.some 4), (.assign (.const (.int .i64 0))), 3, "slices.go:107", #[], .none⟩]
def slices_IndexFunc_Search_a0 : RAnn := ⟨[4], []⟩
def slices_IndexFunc_Search_o1 : Array Oper := #[⟨(.some 6), (.move (.tmp 0)), 23, "slices.go:108", #[], .none⟩,
  ⟨(.some 7), (.call ⟨(.builtin .len), #[(.tmp 6)], #[23]⟩), 3, "slices.go:108", #[⟨0, .data⟩], .none⟩,
  ⟨(.some 8), (.move (.const (.int .i64 0))), 3, "slices.go:108", #[], .none⟩]
def slices_IndexFunc_Search_a1 : RAnn := ⟨[6], []⟩
def slices_IndexFunc_Search_o2 : Array Oper := #[⟨(.some 9), (.binOp .lss 3 (.tmp 8) (.tmp 7) 3), 0, "slices.go:108", #[], .none⟩]
def slices_IndexFunc_Search_a2 : RAnn := ⟨[], []⟩
def slices_IndexFunc_Search_o3 : Array Oper := #[⟨(.some 10), (.move (.tmp 8)), 3, "slices.go:108", #[], .none⟩,
  ⟨(.some 5), (.assign (.tmp 10)), 3, "slices.go:108", #[⟨0, .data⟩, ⟨0, .phase⟩], .none⟩]
def slices_IndexFunc_Search_a3 : RAnn := ⟨[9, 10], []⟩
def slices_IndexFunc_Search_o4 : Array Oper := #[⟨(.some 11), (.move (.tmp 1)), 88, "slices.go:109", #[], .none⟩,
  ⟨(.some 12), (.move (.tmp 0)), 23, "slices.go:109", #[], .none⟩,
  ⟨(.some 13), (.move (.tmp 5)), 3, "slices.go:109", #[], .none⟩,
  ⟨(.some 14), (.indexAddr 23 (.tmp 12) (.tmp 13)), 0, "slices.go:109", #[⟨1, .data⟩, ⟨2, .data⟩], .none⟩,
  ⟨(.some 15), (.load 69 (.tmp 14)), 69, "slices.go:109", #[⟨3, .data⟩], .none⟩,
  ⟨(.some 16), (.call ⟨(.value (.tmp 11)), #[(.tmp 15)], #[69]⟩), 4, "slices.go:109", #[⟨0, .data⟩, ⟨4, .data⟩], .none⟩]
def slices_IndexFunc_Search_a4 : RAnn := ⟨[11, 12, 13, 14, 15], []⟩
def slices_IndexFunc_Search_o5 : Array Oper := #[⟨(.some 17), (.move (.tmp 5)), 3, "slices.go:110", #[], .none⟩,
  ⟨(.some 4), (.assign (.tmp 17)), 3, "slices.go:110", #[⟨0, .data⟩, ⟨0, .phase⟩], .none⟩]
def slices_IndexFunc_Search_a5 : RAnn := ⟨[0, 1, 5, 7, 8, 16, 17], []⟩
def slices_IndexFunc_Search_o6 : Array Oper := #[⟨(.some 18), (.binOp .add 3 (.tmp 8) (.const (.int .i64 1)) 3), 3, "slices.go:108", #[], .none⟩,
  ⟨(.some 8), (.move (.tmp 18)), 3, "slices.go:108", #[⟨0, .data⟩], .none⟩]
def slices_IndexFunc_Search_a6 : RAnn := ⟨[5, 16, 18], []⟩
def slices_IndexFunc_Search_o7 : Array Oper := #[⟨(.some 4), (.assign (.const (.int .i64 (-1)))), 3, "slices.go:113", #[], .none⟩]
def slices_IndexFunc_Search_a7 : RAnn := ⟨[0, 1, 7, 8, 9], []⟩
def slices_IndexFunc_Search_b0 : Code := (.seq (.region 2 slices_IndexFunc_Search_o2 false) (.seq (.cond (.tmp 9) .skip (.exit 0)) (.seq (.block 1 (.seq (.region 3 slices_IndexFunc_Search_o3 false) (.seq (.region 4 slices_IndexFunc_Search_o4 false) (.cond (.tmp 16) (.seq (.region 5 slices_IndexFunc_Search_o5 false) .ret) .skip)))) (.region 6 slices_IndexFunc_Search_o6 false))))
def slices_IndexFunc_Search_c : Code := (.seq (.region 0 slices_IndexFunc_Search_o0 false) (.seq (.seq (.region 1 slices_IndexFunc_Search_o1 false) (.block 0 (.loop slices_IndexFunc_Search_b0))) (.seq (.region 7 slices_IndexFunc_Search_o7 false) .ret)))
def slices_IndexFunc_Search_an : List (Nat × RAnn) := [(0, slices_IndexFunc_Search_a0), (1, slices_IndexFunc_Search_a1), (2, slices_IndexFunc_Search_a2), (3, slices_IndexFunc_Search_a3), (4, slices_IndexFunc_Search_a4), (5, slices_IndexFunc_Search_a5), (6, slices_IndexFunc_Search_a6), (7, slices_IndexFunc_Search_a7)]
def slices_ContainsFunc_Search_o0 : Array Oper := #[⟨(.some 4), (.assign (.const (.bool false))), 4, "slices.go:124", #[], .none⟩]
def slices_ContainsFunc_Search_a0 : RAnn := ⟨[4], []⟩
def slices_ContainsFunc_Search_o1 : Array Oper := #[⟨(.some 5), (.move (.tmp 0)), 23, "slices.go:125", #[], .none⟩,
  ⟨(.some 6), (.move (.tmp 1)), 88, "slices.go:125", #[], .none⟩,
  ⟨(.some 7), (.call ⟨(.value (.func 75)), #[(.tmp 5), (.tmp 6)], #[23, 88]⟩), 3, "slices.go:125", #[⟨0, .data⟩, ⟨1, .data⟩], .none⟩,
  ⟨(.some 8), (.binOp .geq 3 (.tmp 7) (.const (.int .i64 0)) 3), 4, "slices.go:125", #[⟨2, .data⟩], .none⟩,
  ⟨(.some 4), (.assign (.tmp 8)), 4, "slices.go:125", #[⟨3, .data⟩, ⟨2, .chain⟩, ⟨0, .phase⟩, ⟨1, .phase⟩, ⟨2, .phase⟩, ⟨3, .phase⟩], .none⟩]
def slices_ContainsFunc_Search_a1 : RAnn := ⟨[0, 1, 5, 6, 7, 8], []⟩
def slices_ContainsFunc_Search_c : Code := (.seq (.region 0 slices_ContainsFunc_Search_o0 false) (.seq (.region 1 slices_ContainsFunc_Search_o1 false) .ret))
def slices_ContainsFunc_Search_an : List (Nat × RAnn) := [(0, slices_ContainsFunc_Search_a0), (1, slices_ContainsFunc_Search_a1)]
def dbd_areIndexes_1_o0 : Array Oper := #[⟨(.some 2), (.box 69 (.tmp 0)), 0, "dbd.go:78", #[], .none⟩,
  ⟨(.some 3), (.assign (.const (.bool false))), 4, "dbd.go:78", #[], .none⟩]
def dbd_areIndexes_1_a0 : RAnn := ⟨[0, 3], []⟩
def dbd_areIndexes_1_o1 : Array Oper := #[⟨(.some 4), (.fieldAddr 69 (.tmp 2) 0), 0, "dbd.go:78", #[], .none⟩,
  ⟨(.some 5), (.load 9 (.tmp 4)), 9, "dbd.go:78", #[⟨0, .data⟩], .none⟩,
  ⟨(.some 6), (.fieldAddr 69 (.tmp 1) 0), 0, "dbd.go:78", #[], .none⟩,
  ⟨(.some 7), (.load 9 (.tmp 6)), 9, "dbd.go:78", #[⟨2, .data⟩], .none⟩,
  ⟨(.some 8), (.binOp .eql 9 (.tmp 5) (.tmp 7) 9), 4, "dbd.go:78", #[⟨1, .data⟩, ⟨3, .data⟩], .none⟩,
  ⟨(.some 3), (.assign (.tmp 8)), 4, "dbd.go:78", #[⟨4, .data⟩, ⟨0, .phase⟩, ⟨1, .phase⟩, ⟨2, .phase⟩, ⟨3, .phase⟩, ⟨4, .phase⟩], .none⟩]
def dbd_areIndexes_1_a1 : RAnn := ⟨[1, 2, 4, 5, 6, 7, 8], []⟩
def dbd_areIndexes_1_c : Code := (.seq (.region 0 dbd_areIndexes_1_o0 false) (.seq (.region 1 dbd_areIndexes_1_o1 false) .ret))
def dbd_areIndexes_1_an : List (Nat × RAnn) := [(0, dbd_areIndexes_1_a0), (1, dbd_areIndexes_1_a1)]
def dbd_areIndexes_o0 : Array Oper := #[⟨(.some 4), (.assign (.const (.bool false))), 4, "dbd.go:76", #[], .none⟩]
def dbd_areIndexes_a0 : RAnn := ⟨[4], []⟩
def dbd_areIndexes_o1 : Array Oper := #[⟨(.some 8), (.move (.tmp 0)), 23, "dbd.go:77", #[], .none⟩,
  ⟨(.some 9), (.call ⟨(.builtin .len), #[(.tmp 8)], #[23]⟩), 3, "dbd.go:77", #[⟨0, .data⟩], .none⟩,
  ⟨(.some 10), (.move (.const (.int .i64 0))), 3, "dbd.go:77", #[], .none⟩]
def dbd_areIndexes_a1 : RAnn := ⟨[], []⟩
def dbd_areIndexes_o2 : Array Oper := #[⟨(.some 11), (.binOp .lss 3 (.tmp 10) (.tmp 9) 3), 0, "dbd.go:77", #[], .none⟩]
def dbd_areIndexes_a2 : RAnn := ⟨[], []⟩
def dbd_areIndexes_o3 : Array Oper := #[⟨(.some 12), (.move (.tmp 10)), 3, "dbd.go:77", #[], .none⟩,
  ⟨(.some 13), (.indexAddr 23 (.tmp 8) (.tmp 10)), 0, "dbd.go:77", #[], .none⟩,
  ⟨(.some 14), (.load 69 (.tmp 13)), 69, "dbd.go:77", #[⟨1, .data⟩], .none⟩,
  ⟨(.some 6), (.alloc 69), 0, "dbd.go:77", #[], .none⟩,
  ⟨(.some 5), (.assign (.tmp 12)), 3, "dbd.go:77", #[⟨0, .data⟩, ⟨0, .phase⟩, ⟨1, .phase⟩, ⟨2, .phase⟩, ⟨3, .phase⟩], .none⟩,
  ⟨.none, (.store 69 (.tmp 6) (.tmp 14)), 0, "dbd.go:77", #[⟨3, .data⟩, ⟨2, .data⟩, ⟨4, .chain⟩, ⟨0, .phase⟩, ⟨1, .phase⟩, ⟨2, .phase⟩, ⟨3, .phase⟩, ⟨4, .phase⟩], .none⟩]
def dbd_areIndexes_a3 : RAnn := ⟨[11, 12, 13, 14], []⟩
def dbd_areIndexes_o4 : Array Oper := #[⟨(.some 15), (.fieldAddr 69 (.tmp 6) 0), 0, "dbd.go:78", #[], .none⟩,
  ⟨(.some 16), (.load 9 (.tmp 15)), 9, "dbd.go:78", #[⟨0, .data⟩], .none⟩,
  ⟨(.some 17), (.call ⟨(.value (.func 56)), #[(.tmp 16)], #[9]⟩), 4, "dbd.go:78", #[⟨1, .data⟩], .none⟩,
  ⟨(.some 18), (.unOp .not 4 (.tmp 17)), 4, "dbd.go:78", #[⟨2, .data⟩], .none⟩,
  ⟨(.some 19), (.move (.tmp 18)), 4, "dbd.go:78", #[⟨3, .data⟩, ⟨2, .chain⟩], .none⟩,
  ⟨(.some 20), (.fieldAddr 69 (.tmp 6) 1), 0, "dbd.go:78", #[⟨4, .guard⟩], (.some (4, false))⟩,
  ⟨(.some 21), (.load 3 (.tmp 20)), 3, "dbd.go:78", #[⟨5, .data⟩, ⟨4, .guard⟩], (.some (4, false))⟩,
  ⟨(.some 22), (.binOp .lss 3 (.tmp 21) (.const (.int .i64 0)) 3), 4, "dbd.go:78", #[⟨6, .data⟩, ⟨4, .guard⟩], (.some (4, false))⟩,
  ⟨(.some 23), (.pick (.tmp 19) (.const (.bool true)) (.tmp 22)), 4, "dbd.go:78", #[⟨4, .data⟩, ⟨7, .data⟩], .none⟩,
  ⟨(.some 24), (.move (.tmp 23)), 4, "dbd.go:78", #[⟨8, .data⟩, ⟨4, .chain⟩], .none⟩,
  ⟨(.some 25), (.fieldAddr 69 (.tmp 6) 1), 0, "dbd.go:78", #[⟨9, .guard⟩], (.some (9, false))⟩,
  ⟨(.some 26), (.load 3 (.tmp 25)), 3, "dbd.go:78", #[⟨10, .data⟩, ⟨9, .guard⟩], (.some (9, false))⟩,
  ⟨(.some 27), (.move (.tmp 1)), 22, "dbd.go:78", #[⟨9, .guard⟩], (.some (9, false))⟩,
  ⟨(.some 28), (.call ⟨(.builtin .len), #[(.tmp 27)], #[22]⟩), 3, "dbd.go:78", #[⟨12, .data⟩, ⟨9, .guard⟩], (.some (9, false))⟩,
  ⟨(.some 29), (.binOp .geq 3 (.tmp 26) (.tmp 28) 3), 4, "dbd.go:78", #[⟨11, .data⟩, ⟨13, .data⟩, ⟨9, .guard⟩], (.some (9, false))⟩,
  ⟨(.some 30), (.pick (.tmp 24) (.const (.bool true)) (.tmp 29)), 4, "dbd.go:78", #[⟨9, .data⟩, ⟨14, .data⟩], .none⟩,
  ⟨(.some 31), (.move (.tmp 30)), 4, "dbd.go:78", #[⟨15, .data⟩, ⟨9, .chain⟩], .none⟩,
  ⟨(.some 32), (.fieldAddr 69 (.tmp 6) 3), 0, "dbd.go:78", #[⟨16, .guard⟩], (.some (16, false))⟩,
  ⟨(.some 33), (.load 9 (.tmp 32)), 9, "dbd.go:78", #[⟨17, .data⟩, ⟨16, .guard⟩], (.some (16, false))⟩,
  ⟨(.some 34), (.call ⟨(.builtin .len), #[(.tmp 33)], #[9]⟩), 3, "dbd.go:78", #[⟨18, .data⟩, ⟨16, .guard⟩], (.some (16, false))⟩,
  ⟨(.some 35), (.binOp .gtr 3 (.tmp 34) (.const (.int .i64 1)) 3), 4, "dbd.go:78", #[⟨19, .data⟩, ⟨16, .guard⟩], (.some (16, false))⟩,
  ⟨(.some 36), (.pick (.tmp 31) (.const (.bool true)) (.tmp 35)), 4, "dbd.go:78", #[⟨16, .data⟩, ⟨20, .data⟩], .none⟩,
  ⟨(.some 37), (.move (.tmp 36)), 4, "dbd.go:78", #[⟨21, .data⟩, ⟨16, .chain⟩], .none⟩,
  ⟨(.some 38), (.move (.tmp 0)), 23, "dbd.go:78", #[⟨22, .guard⟩], (.some (22, false))⟩,
  ⟨(.some 39), (.move (.tmp 5)), 3, "dbd.go:78", #[⟨22, .guard⟩], (.some (22, false))⟩,
  ⟨(.some 40), (.slice 23 (.tmp 38) .none (.some (.tmp 39)) .none), 23, "dbd.go:78", #[⟨23, .data⟩, ⟨24, .data⟩, ⟨22, .guard⟩], (.some (22, false))⟩,
  ⟨(.some 41), (.makeFunc (.func 72) #[] #[(.tmp 6)]), 88, "dbd.go:78", #[⟨22, .guard⟩], (.some (22, false))⟩,
  ⟨(.some 42), (.call ⟨(.value (.func 71)), #[(.tmp 40), (.tmp 41)], #[23, 88]⟩), 4, "dbd.go:78", #[⟨25, .data⟩, ⟨26, .data⟩, ⟨22, .chain⟩, ⟨22, .guard⟩], (.some (22, false))⟩,
  ⟨(.some 43), (.pick (.tmp 37) (.const (.bool true)) (.tmp 42)), 4, "dbd.go:78", #[⟨22, .data⟩, ⟨27, .data⟩], .none⟩]
def dbd_areIndexes_a4 : RAnn := ⟨[5, 15, 16, 17, 18, 19, 20, 21, 22, 23, 24, 25, 26, 27, 28, 29, 30, 31, 32, 33, 34, 35, 36, 37, 38, 39, 40, 41, 42], []⟩
def dbd_areIndexes_o5 : Array Oper := #[⟨(.some 4), (.assign (.const (.bool false))), 4, "dbd.go:79", #[], .none⟩]
def dbd_areIndexes_a5 : RAnn := ⟨[0, 1, 6, 8, 9, 10, 43], []⟩
def dbd_areIndexes_o6 : Array Oper := #[⟨(.some 44), (.move (.tmp 1)), 22, "dbd.go:81", #[], .none⟩,
  ⟨(.some 45), (.fieldAddr 69 (.tmp 6) 1), 0, "dbd.go:81", #[], .none⟩,
  ⟨(.some 46), (.load 3 (.tmp 45)), 3, "dbd.go:81", #[⟨1, .data⟩], .none⟩,
  ⟨(.some 47), (.indexAddr 22 (.tmp 44) (.tmp 46)), 0, "dbd.go:81", #[⟨0, .data⟩, ⟨2, .data⟩], .none⟩,
  ⟨(.some 48), (.fieldAddr 55 (.tmp 47) 4), 0, "dbd.go:81", #[⟨3, .data⟩], .none⟩,
  ⟨(.some 49), (.load 53 (.tmp 48)), 53, "dbd.go:81", #[⟨4, .data⟩], .none⟩,
  ⟨(.some 7), (.assign (.tmp 49)), 53, "dbd.go:81", #[⟨5, .data⟩, ⟨0, .phase⟩, ⟨1, .phase⟩, ⟨2, .phase⟩, ⟨3, .phase⟩, ⟨4, .phase⟩, ⟨5, .phase⟩], .none⟩]
def dbd_areIndexes_a6 : RAnn := ⟨[43, 44, 45, 46, 47, 48, 49], []⟩
def dbd_areIndexes_o7 : Array Oper := #[⟨(.some 50), (.fieldAddr 69 (.tmp 6) 2), 0, "dbd.go:81", #[], .none⟩,
  ⟨(.some 51), (.load 3 (.tmp 50)), 3, "dbd.go:81", #[⟨0, .data⟩], .none⟩,
  ⟨(.some 52), (.binOp .lss 3 (.tmp 51) (.const (.int .i64 0)) 3), 4, "dbd.go:81", #[⟨1, .data⟩], .none⟩,
  ⟨(.some 53), (.move (.tmp 52)), 4, "dbd.go:81", #[⟨2, .data⟩], .none⟩,
  ⟨(.some 54), (.fieldAddr 69 (.tmp 6) 2), 0, "dbd.go:81", #[⟨3, .guard⟩], (.some (3, false))⟩,
  ⟨(.some 55), (.load 3 (.tmp 54)), 3, "dbd.go:81", #[⟨4, .data⟩, ⟨3, .guard⟩], (.some (3, false))⟩,
  ⟨(.some 56), (.move (.tmp 7)), 53, "dbd.go:81", #[⟨3, .guard⟩], (.some (3, false))⟩,
  ⟨(.some 57), (.call ⟨(.builtin .len), #[(.tmp 56)], #[53]⟩), 3, "dbd.go:81", #[⟨6, .data⟩, ⟨3, .guard⟩], (.some (3, false))⟩,
  ⟨(.some 58), (.binOp .geq 3 (.tmp 55) (.tmp 57) 3), 4, "dbd.go:81", #[⟨5, .data⟩, ⟨7, .data⟩, ⟨3, .guard⟩], (.some (3, false))⟩,
  ⟨(.some 59), (.pick (.tmp 53) (.const (.bool true)) (.tmp 58)), 4, "dbd.go:81", #[⟨3, .data⟩, ⟨8, .data⟩], .none⟩,
  ⟨(.some 60), (.move (.tmp 59)), 4, "dbd.go:81", #[⟨9, .data⟩, ⟨3, .chain⟩], .none⟩,
  ⟨(.some 61), (.move (.tmp 7)), 53, "dbd.go:81", #[⟨10, .guard⟩], (.some (10, false))⟩,
  ⟨(.some 62), (.fieldAddr 69 (.tmp 6) 2), 0, "dbd.go:81", #[⟨10, .guard⟩], (.some (10, false))⟩,
  ⟨(.some 63), (.load 3 (.tmp 62)), 3, "dbd.go:81", #[⟨12, .data⟩, ⟨10, .guard⟩], (.some (10, false))⟩,
  ⟨(.some 64), (.indexAddr 53 (.tmp 61) (.tmp 63)), 0, "dbd.go:81", #[⟨11, .data⟩, ⟨13, .data⟩, ⟨10, .guard⟩], (.some (10, false))⟩,
  ⟨(.some 65), (.fieldAddr 65 (.tmp 64) 2), 0, "dbd.go:81", #[⟨14, .data⟩, ⟨10, .guard⟩], (.some (10, false))⟩,
  ⟨(.some 66), (.load 3 (.tmp 65)), 3, "dbd.go:81", #[⟨15, .data⟩, ⟨10, .guard⟩], (.some (10, false))⟩,
  ⟨(.some 67), (.binOp .gtr 3 (.tmp 66) (.const (.int .i64 20)) 3), 4, "dbd.go:81", #[⟨16, .data⟩, ⟨10, .guard⟩], (.some (10, false))⟩,
  ⟨(.some 68), (.pick (.tmp 60) (.const (.bool true)) (.tmp 67)), 4, "dbd.go:81", #[⟨10, .data⟩, ⟨17, .data⟩], .none⟩]
def dbd_areIndexes_a7 : RAnn := ⟨[6, 7, 50, 51, 52, 53, 54, 55, 56, 57, 58, 59, 60, 61, 62, 63, 64, 65, 66, 67], []⟩
def dbd_areIndexes_o8 : Array Oper := #[⟨(.some 4), (.assign (.const (.bool false))), 4, "dbd.go:82", #[], .none⟩]
def dbd_areIndexes_a8 : RAnn := ⟨[0, 1, 8, 9, 10, 68], []⟩
def dbd_areIndexes_o9 : Array Oper := #[⟨(.some 69), (.binOp .add 3 (.tmp 10) (.const (.int .i64 1)) 3), 3, "dbd.go:77", #[], .none⟩,
  ⟨(.some 10), (.move (.tmp 69)), 3, "dbd.go:77", #[⟨0, .data⟩], .none⟩]
def dbd_areIndexes_a9 : RAnn := ⟨[68, 69], []⟩
def dbd_areIndexes_o10 : Array Oper := #[⟨(.some 70), (.move (.tmp 0)), 23, "dbd.go:85", #[], .none⟩,
  ⟨(.some 71), (.call ⟨(.builtin .len), #[(.tmp 70)], #[23]⟩), 3, "dbd.go:85", #[⟨0, .data⟩], .none⟩,
  ⟨(.some 72), (.binOp .leq 3 (.tmp 71) (.const (.int .i64 3)) 3), 4, "dbd.go:85", #[⟨1, .data⟩], .none⟩,
  ⟨(.some 4), (.assign (.tmp 72)), 4, "dbd.go:85", #[⟨2, .data⟩, ⟨0, .phase⟩, ⟨1, .phase⟩, ⟨2, .phase⟩], .none⟩]
def dbd_areIndexes_a10 : RAnn := ⟨[0, 1, 8, 9, 10, 11, 70, 71, 72], []⟩
def dbd_areIndexes_b0 : Code := (.seq (.region 2 dbd_areIndexes_o2 false) (.seq (.cond (.tmp 11) .skip (.exit 0)) (.seq (.block 1 (.seq (.region 3 dbd_areIndexes_o3 false) (.seq (.seq (.region 4 dbd_areIndexes_o4 false) (.cond (.tmp 43) (.seq (.region 5 dbd_areIndexes_o5 false) .ret) .skip)) (.seq (.region 6 dbd_areIndexes_o6 false) (.seq (.region 7 dbd_areIndexes_o7 false) (.cond (.tmp 68) (.seq (.region 8 dbd_areIndexes_o8 false) .ret) .skip)))))) (.region 9 dbd_areIndexes_o9 false))))
def dbd_areIndexes_c : Code := (.seq (.region 0 dbd_areIndexes_o0 false) (.seq (.seq (.region 1 dbd_areIndexes_o1 false) (.block 0 (.loop dbd_areIndexes_b0))) (.seq (.region 10 dbd_areIndexes_o10 false) .ret)))
def dbd_areIndexes_an : List (Nat × RAnn) := [(0, dbd_areIndexes_a0), (1, dbd_areIndexes_a1), (2, dbd_areIndexes_a2), (3, dbd_areIndexes_a3), (4, dbd_areIndexes_a4), (5, dbd_areIndexes_a5), (6, dbd_areIndexes_a6), (7, dbd_areIndexes_a7), (8, dbd_areIndexes_a8), (9, dbd_areIndexes_a9), (10, dbd_areIndexes_a10)]
def dbd_Valid_o0 : Array Oper := #[⟨(.some 1), (.box 25 (.tmp 0)), 0, "dbd.go:89", #[], .none⟩,
  ⟨(.some 2), (.assign (.const (.bool false))), 4, "dbd.go:89", #[], .none⟩]
def dbd_Valid_a0 : RAnn := ⟨[0, 2], []⟩
def dbd_Valid_o1 : Array Oper := #[⟨(.some 3), (.fieldAddr 25 (.tmp 1) 0), 0, "dbd.go:90", #[], .none⟩,
  ⟨(.some 4), (.load 9 (.tmp 3)), 9, "dbd.go:90", #[⟨0, .data⟩], .none⟩,
  ⟨(.some 5), (.call ⟨(.value (.func 56)), #[(.tmp 4)], #[9]⟩), 4, "dbd.go:90", #[⟨1, .data⟩], .none⟩,
  ⟨(.some 6), (.move (.tmp 5)), 4, "dbd.go:90", #[⟨2, .data⟩, ⟨2, .chain⟩], .none⟩,
  ⟨(.some 7), (.fieldAddr 25 (.tmp 1) 1), 0, "dbd.go:90", #[⟨3, .guard⟩], (.some (3, true))⟩,
  ⟨(.some 8), (.load 3 (.tmp 7)), 3, "dbd.go:90", #[⟨4, .data⟩, ⟨3, .guard⟩], (.some (3, true))⟩,
  ⟨(.some 9), (.binOp .geq 3 (.tmp 8) (.const (.int .i64 1)) 3), 4, "dbd.go:90", #[⟨5, .data⟩, ⟨3, .guard⟩], (.some (3, true))⟩,
  ⟨(.some 10), (.pick (.tmp 6) (.tmp 9) (.const (.bool false))), 4, "dbd.go:90", #[⟨3, .data⟩, ⟨6, .data⟩], .none⟩,
  ⟨(.some 11), (.move (.tmp 10)), 4, "dbd.go:90", #[⟨7, .data⟩, ⟨3, .chain⟩], .none⟩,
  ⟨(.some 12), (.fieldAddr 25 (.tmp 1) 1), 0, "dbd.go:90", #[⟨8, .guard⟩], (.some (8, true))⟩,
  ⟨(.some 13), (.load 3 (.tmp 12)), 3, "dbd.go:90", #[⟨9, .data⟩, ⟨8, .guard⟩], (.some (8, true))⟩,
  ⟨(.some 14), (.binOp .leq 3 (.tmp 13) (.const (.int .i64 4)) 3), 4, "dbd.go:90", #[⟨10, .data⟩, ⟨8, .guard⟩], (.some (8, true))⟩,
  ⟨(.some 15), (.pick (.tmp 11) (.tmp 14) (.const (.bool false))), 4, "dbd.go:90", #[⟨8, .data⟩, ⟨11, .data⟩], .none⟩,
  ⟨(.some 16), (.move (.tmp 15)), 4, "dbd.go:90", #[⟨12, .data⟩, ⟨8, .chain⟩], .none⟩,
  ⟨(.some 17), (.fieldAddr 25 (.tmp 1) 2), 0, "dbd.go:90", #[⟨13, .guard⟩], (.some (13, true))⟩,
  ⟨(.some 18), (.load 22 (.tmp 17)), 22, "dbd.go:90", #[⟨14, .data⟩, ⟨13, .guard⟩], (.some (13, true))⟩,
  ⟨(.some 19), (.call ⟨(.value (.func 57)), #[(.tmp 18)], #[22]⟩), 4, "dbd.go:90", #[⟨15, .data⟩, ⟨13, .chain⟩, ⟨13, .guard⟩], (.some (13, true))⟩,
  ⟨(.some 20), (.pick (.tmp 16) (.tmp 19) (.const (.bool false))), 4, "dbd.go:90", #[⟨13, .data⟩, ⟨16, .data⟩], .none⟩,
  ⟨(.some 21), (.move (.tmp 20)), 4, "dbd.go:90", #[⟨17, .data⟩, ⟨16, .chain⟩], .none⟩,
  ⟨(.some 22), (.fieldAddr 25 (.tmp 1) 3), 0, "dbd.go:90", #[⟨18, .guard⟩], (.some (18, true))⟩,
  ⟨(.some 23), (.load 23 (.tmp 22)), 23, "dbd.go:90", #[⟨19, .data⟩, ⟨18, .guard⟩], (.some (18, true))⟩,
  ⟨(.some 24), (.fieldAddr 25 (.tmp 1) 2), 0, "dbd.go:90", #[⟨18, .guard⟩], (.some (18, true))⟩,
  ⟨(.some 25), (.load 22 (.tmp 24)), 22, "dbd.go:90", #[⟨21, .data⟩, ⟨18, .guard⟩], (.some (18, true))⟩,
  ⟨(.some 26), (.call ⟨(.value (.func 58)), #[(.tmp 23), (.tmp 25)], #[23, 22]⟩), 4, "dbd.go:90", #[⟨20, .data⟩, ⟨22, .data⟩, ⟨18, .chain⟩, ⟨18, .guard⟩], (.some (18, true))⟩,
  ⟨(.some 27), (.pick (.tmp 21) (.tmp 26) (.const (.bool false))), 4, "dbd.go:90", #[⟨18, .data⟩, ⟨23, .data⟩], .none⟩,
  ⟨(.some 2), (.assign (.tmp 27)), 4, "dbd.go:90", #[⟨24, .data⟩, ⟨23, .chain⟩, ⟨0, .phase⟩, ⟨1, .phase⟩, ⟨2, .phase⟩, ⟨3, .phase⟩, ⟨4, .phase⟩, ⟨5, .phase⟩, ⟨6, .phase⟩, ⟨7, .phase⟩, ⟨8, .phase⟩, ⟨9, .phase⟩, ⟨10, .phase⟩, ⟨11, .phase⟩, ⟨12, .phase⟩, ⟨13, .phase⟩, ⟨14, .phase⟩, ⟨15, .phase⟩, ⟨16, .phase⟩, ⟨17, .phase⟩, ⟨18, .phase⟩, ⟨19, .phase⟩, ⟨20, .phase⟩, ⟨21, .phase⟩, ⟨22, .phase⟩, ⟨23, .phase⟩, ⟨24, .phase⟩], .none⟩]
def dbd_Valid_a1 : RAnn := ⟨[1, 3, 4, 5, 6, 7, 8, 9, 10, 11, 12, 13, 14, 15, 16, 17, 18, 19, 20, 21, 22, 23, 24, 25, 26, 27], []⟩
def dbd_Valid_c : Code := (.seq (.region 0 dbd_Valid_o0 false) (.seq (.region 1 dbd_Valid_o1 false) .ret))
def dbd_Valid_an : List (Nat × RAnn) := [(0, dbd_Valid_a0), (1, dbd_Valid_a1)]
def slices_IndexFunc_int_o0 : Array Oper := #[⟨(.some 4), (.assign (.const (.int .i64 0))), 3, "slices.go:107", #[], .none⟩]
def slices_IndexFunc_int_a0 : RAnn := ⟨[4], []⟩
def slices_IndexFunc_int_o1 : Array Oper := #[⟨(.some 6), (.move (.tmp 0)), 28, "slices.go:108", #[], .none⟩,
  ⟨(.some 7), (.call ⟨(.builtin .len), #[(.tmp 6)], #[28]⟩), 3, "slices.go:108", #[⟨0, .data⟩], .none⟩,
  ⟨(.some 8), (.move (.const (.int .i64 0))), 3, "slices.go:108", #[], .none⟩]
def slices_IndexFunc_int_a1 : RAnn := ⟨[6], []⟩
def slices_IndexFunc_int_o2 : Array Oper := #[⟨(.some 9), (.binOp .lss 3 (.tmp 8) (.tmp 7) 3), 0, "slices.go:108", #[], .none⟩]
def slices_IndexFunc_int_a2 : RAnn := ⟨[], []⟩
def slices_IndexFunc_int_o3 : Array Oper := #[⟨(.some 10), (.move (.tmp 8)), 3, "slices.go:108", #[], .none⟩,
  ⟨(.some 5), (.assign (.tmp 10)), 3, "slices.go:108", #[⟨0, .data⟩, ⟨0, .phase⟩], .none⟩]
def slices_IndexFunc_int_a3 : RAnn := ⟨[9, 10], []⟩
def slices_IndexFunc_int_o4 : Array Oper := #[⟨(.some 11), (.move (.tmp 1)), 83, "slices.go:109", #[], .none⟩,
  ⟨(.some 12), (.move (.tmp 0)), 28, "slices.go:109", #[], .none⟩,
  ⟨(.some 13), (.move (.tmp 5)), 3, "slices.go:109", #[], .none⟩,
  ⟨(.some 14), (.indexAddr 28 (.tmp 12) (.tmp 13)), 0, "slices.go:109", #[⟨1, .data⟩, ⟨2, .data⟩], .none⟩,
  ⟨(.some 15), (.load 3 (.tmp 14)), 3, "slices.go:109", #[⟨3, .data⟩], .none⟩,
  ⟨(.some 16), (.call ⟨(.value (.tmp 11)), #[(.tmp 15)], #[3]⟩), 4, "slices.go:109", #[⟨0, .data⟩, ⟨4, .data⟩], .none⟩]
def slices_IndexFunc_int_a4 : RAnn := ⟨[11, 12, 13, 14, 15], []⟩
def slices_IndexFunc_int_o5 : Array Oper := #[⟨(.some 17), (.move (.tmp 5)), 3, "slices.go:110", #[], .none⟩,
  ⟨(.some 4), (.assign (.tmp 17)), 3, "slices.go:110", #[⟨0, .data⟩, ⟨0, .phase⟩], .none⟩]
def slices_IndexFunc_int_a5 : RAnn := ⟨[0, 1, 5, 7, 8, 16, 17], []⟩
def slices_IndexFunc_int_o6 : Array Oper := #[⟨(.some 18), (.binOp .add 3 (.tmp 8) (.const (.int .i64 1)) 3), 3, "slices.go:108", #[], .none⟩,
  ⟨(.some 8), (.move (.tmp 18)), 3, "slices.go:108", #[⟨0, .data⟩], .none⟩]
def slices_IndexFunc_int_a6 : RAnn := ⟨[5, 16, 18], []⟩
def slices_IndexFunc_int_o7 : Array Oper := #[⟨(.some 4), (.assign (.const (.int .i64 (-1)))), 3, "slices.go:113", #[], .none⟩]
def slices_IndexFunc_int_a7 : RAnn := ⟨[0, 1, 7, 8, 9], []⟩
def slices_IndexFunc_int_b0 : Code := (.seq (.region 2 slices_IndexFunc_int_o2 false) (.seq (.cond (.tmp 9) .skip (.exit 0)) (.seq (.block 1 (.seq (.region 3 slices_IndexFunc_int_o3 false) (.seq (.region 4 slices_IndexFunc_int_o4 false) (.cond (.tmp 16) (.seq (.region 5 slices_IndexFunc_int_o5 false) .ret) .skip)))) (.region 6 slices_IndexFunc_int_o6 false))))
def slices_IndexFunc_int_c : Code := (.seq (.region 0 slices_IndexFunc_int_o0 false) (.seq (.seq (.region 1 slices_IndexFunc_int_o1 false) (.block 0 (.loop slices_IndexFunc_int_b0))) (.seq (.region 7 slices_IndexFunc_int_o7 false) .ret)))
def slices_IndexFunc_int_an : List (Nat × RAnn) := [(0, slices_IndexFunc_int_a0), (1, slices_IndexFunc_int_a1), (2, slices_IndexFunc_int_a2), (3, slices_IndexFunc_int_a3), (4, slices_IndexFunc_int_a4), (5, slices_IndexFunc_int_a5), (6, slices_IndexFunc_int_a6), (7, slices_IndexFunc_int_a7)]
def slices_ContainsFunc_int_o0 : Array Oper := #[⟨(.some 4), (.assign (.const (.bool false))), 4, "slices.go:124", #[], .none⟩]
def slices_ContainsFunc_int_a0 : RAnn := ⟨[4], []⟩
def slices_ContainsFunc_int_o1 : Array Oper := #[⟨(.some 5), (.move (.tmp 0)), 28, "slices.go:125", #[], .none⟩,
  ⟨(.some 6), (.move (.tmp 1)), 83, "slices.go:125", #[], .none⟩,
  ⟨(.some 7), (.call ⟨(.value (.func 73)), #[(.tmp 5), (.tmp 6)], #[28, 83]⟩), 3, "slices.go:125", #[⟨0, .data⟩, ⟨1, .data⟩], .none⟩,
  ⟨(.some 8), (.binOp .geq 3 (.tmp 7) (.const (.int .i64 0)) 3), 4, "slices.go:125", #[⟨2, .data⟩], .none⟩,
  ⟨(.some 4), (.assign (.tmp 8)), 4, "slices.go:125", #[⟨3, .data⟩, ⟨2, .chain⟩, ⟨0, .phase⟩, ⟨1, .phase⟩, ⟨2, .phase⟩, ⟨3, .phase⟩], .none⟩]
def slices_ContainsFunc_int_a1 : RAnn := ⟨[0, 1, 5, 6, 7, 8], []⟩
def slices_ContainsFunc_int_c : Code := (.seq (.region 0 slices_ContainsFunc_int_o0 false) (.seq (.region 1 slices_ContainsFunc_int_o1 false) .ret))
def slices_ContainsFunc_int_an : List (Nat × RAnn) := [(0, slices_ContainsFunc_int_a0), (1, slices_ContainsFunc_int_a1)]
def dbd_asked_1_o0 : Array Oper := #[⟨(.some 3), (.assign (.const (.bool false))), 4, "dbd.go:98", #[], .none⟩]
def dbd_asked_1_a0 : RAnn := ⟨[3], []⟩
def dbd_asked_1_o1 : Array Oper := #[⟨(.some 4), (.move (.tmp 0)), 3, "dbd.go:98", #[], .none⟩,
  ⟨(.some 5), (.binOp .lss 3 (.tmp 4) (.const (.int .i64 0)) 3), 4, "dbd.go:98", #[⟨0, .data⟩], .none⟩,
  ⟨(.some 6), (.move (.tmp 5)), 4, "dbd.go:98", #[⟨1, .data⟩], .none⟩,
  ⟨(.some 7), (.move (.tmp 0)), 3, "dbd.go:98", #[⟨2, .guard⟩], (.some (2, false))⟩,
  ⟨(.some 8), (.fieldAddr 25 (.tmp 1) 2), 0, "dbd.go:98", #[⟨2, .guard⟩], (.some (2, false))⟩,
  ⟨(.some 9), (.load 22 (.tmp 8)), 22, "dbd.go:98", #[⟨4, .data⟩, ⟨2, .guard⟩], (.some (2, false))⟩,
  ⟨(.some 10), (.call ⟨(.builtin .len), #[(.tmp 9)], #[22]⟩), 3, "dbd.go:98", #[⟨5, .data⟩, ⟨2, .guard⟩], (.some (2, false))⟩,
  ⟨(.some 11), (.binOp .geq 3 (.tmp 7) (.tmp 10) 3), 4, "dbd.go:98", #[⟨3, .data⟩, ⟨6, .data⟩, ⟨2, .guard⟩], (.some (2, false))⟩,
  ⟨(.some 12), (.pick (.tmp 6) (.const (.bool true)) (.tmp 11)), 4, "dbd.go:98", #[⟨2, .data⟩, ⟨7, .data⟩], .none⟩,
  ⟨(.some 3), (.assign (.tmp 12)), 4, "dbd.go:98", #[⟨8, .data⟩, ⟨2, .chain⟩, ⟨0, .phase⟩, ⟨1, .phase⟩, ⟨2, .phase⟩, ⟨3, .phase⟩, ⟨4, .phase⟩, ⟨5, .phase⟩, ⟨6, .phase⟩, ⟨7, .phase⟩, ⟨8, .phase⟩], .none⟩]
def dbd_asked_1_a1 : RAnn := ⟨[0, 1, 4, 5, 6, 7, 8, 9, 10, 11, 12], []⟩
def dbd_asked_1_c : Code := (.seq (.region 0 dbd_asked_1_o0 false) (.seq (.region 1 dbd_asked_1_o1 false) .ret))
def dbd_asked_1_an : List (Nat × RAnn) := [(0, dbd_asked_1_a0), (1, dbd_asked_1_a1)]
def dbd_asked_o0 : Array Oper := #[⟨(.some 2), (.box 25 (.tmp 0)), 0, "dbd.go:94", #[], .none⟩,
  ⟨(.some 4), (.assign (.const (.int .i64 0))), 29, "dbd.go:94", #[], .none⟩]
def dbd_asked_a0 : RAnn := ⟨[0, 4], []⟩
def dbd_asked_o1 : Array Oper := #[⟨(.some 6), (.load 25 (.tmp 2)), 25, "dbd.go:96", #[], .none⟩,
  ⟨(.some 7), (.call ⟨(.value (.func 28)), #[(.tmp 6)], #[25]⟩), 4, "dbd.go:96", #[⟨0, .data⟩], .none⟩,
  ⟨(.some 8), (.unOp .not 4 (.tmp 7)), 4, "dbd.go:96", #[⟨1, .data⟩], .none⟩,
  ⟨(.some 5), (.assign (.tmp 8)), 4, "dbd.go:96", #[⟨2, .data⟩, ⟨1, .chain⟩], .none⟩]
def dbd_asked_a1 : RAnn := ⟨[6, 7, 8], []⟩
def dbd_asked_o2 : Array Oper := #[⟨(.some 4), (.assign (.const (.int .i64 100))), 29, "dbd.go:97", #[], .none⟩]
def dbd_asked_a2 : RAnn := ⟨[1, 2, 5], []⟩
def dbd_asked_o3 : Array Oper := #[⟨(.some 10), (.move (.tmp 1)), 28, "dbd.go:98", #[], .none⟩,
  ⟨(.some 11), (.makeFunc (.func 65) #[] #[(.tmp 2)]), 83, "dbd.go:98", #[], .none⟩,
  ⟨(.some 12), (.call ⟨(.value (.func 64)), #[(.tmp 10), (.tmp 11)], #[28, 83]⟩), 4, "dbd.go:98", #[⟨0, .data⟩, ⟨1, .data⟩], .none⟩,
  ⟨(.some 9), (.assign (.tmp 12)), 4, "dbd.go:98", #[⟨2, .data⟩, ⟨2, .chain⟩], .none⟩]
def dbd_asked_a3 : RAnn := ⟨[1, 2, 5, 10, 11, 12], []⟩
def dbd_asked_o4 : Array Oper := #[⟨(.some 4), (.assign (.const (.int .i64 2))), 29, "dbd.go:99", #[], .none⟩]
def dbd_asked_a4 : RAnn := ⟨[9], []⟩
def dbd_asked_o5 : Array Oper := #[⟨(.some 4), (.assign (.const (.int .i64 0))), 29, "dbd.go:101", #[], .none⟩]
def dbd_asked_a5 : RAnn := ⟨[9], []⟩
def dbd_asked_c : Code := (.seq (.region 0 dbd_asked_o0 false) (.seq (.block 0 (.seq (.region 1 dbd_asked_o1 false) (.cond (.tmp 5) (.seq (.region 2 dbd_asked_o2 false) .ret) (.seq (.region 3 dbd_asked_o3 false) (.cond (.tmp 9) (.seq (.region 4 dbd_asked_o4 false) .ret) .skip))))) (.seq (.region 5 dbd_asked_o5 false) .ret)))
def dbd_asked_an : List (Nat × RAnn) := [(0, dbd_asked_a0), (1, dbd_asked_a1), (2, dbd_asked_a2), (3, dbd_asked_a3), (4, dbd_asked_a4), (5, dbd_asked_a5)]
def dbd_way_o0 : Array Oper := #[⟨(.some 2), (.box 25 (.tmp 0)), 0, "dbd.go:129", #[], .none⟩,
  ⟨(.some 4), (.assign (.const (.slice .none 0 0))), 28, "dbd.go:129", #[], .none⟩]
def dbd_way_a0 : RAnn := ⟨[0, 4], []⟩
def dbd_way_o1 : Array Oper := #[⟨(.some 5), (.assign (.const (.slice .none 0 0))), 28, "dbd.go:130", #[], .none⟩]
def dbd_way_a1 : RAnn := ⟨[], [(0, { site := true })]⟩
def dbd_way_o2 : Array Oper := #[⟨(.some 6), (.move (.tmp 1)), 3, "dbd.go:131", #[], .none⟩,
  ⟨(.some 7), (.binOp .geq 3 (.tmp 6) (.const (.int .i64 0)) 3), 4, "dbd.go:131", #[⟨0, .data⟩], .none⟩]
def dbd_way_a2 : RAnn := ⟨[6], []⟩
def dbd_way_o3 : Array Oper := #[⟨(.some 8), (.fieldAddr 25 (.tmp 2) 2), 0, "dbd.go:131", #[], .none⟩,
  ⟨(.some 9), (.load 22 (.tmp 8)), 22, "dbd.go:131", #[⟨0, .data⟩], .none⟩,
  ⟨(.some 10), (.move (.tmp 1)), 3, "dbd.go:131", #[], .none⟩,
  ⟨(.some 11), (.indexAddr 22 (.tmp 9) (.tmp 10)), 0, "dbd.go:131", #[⟨1, .data⟩, ⟨2, .data⟩], .none⟩,
  ⟨(.some 12), (.fieldAddr 55 (.tmp 11) 1), 0, "dbd.go:131", #[⟨3, .data⟩], .none⟩,
  ⟨(.some 13), (.load 3 (.tmp 12)), 3, "dbd.go:131", #[⟨4, .data⟩], .none⟩,
  ⟨(.some 1), (.assign (.tmp 13)), 3, "dbd.go:131", #[⟨5, .data⟩, ⟨0, .phase⟩, ⟨1, .phase⟩, ⟨2, .phase⟩, ⟨3, .phase⟩, ⟨4, .phase⟩, ⟨5, .phase⟩], .none⟩]
def dbd_way_a3 : RAnn := ⟨[8, 9, 10, 11, 12, 13], []⟩
def dbd_way_o4 : Array Oper := #[⟨(.some 14), (.move (.tmp 5)), 28, "dbd.go:132", #[], .none⟩,
  ⟨(.some 15), (.move (.tmp 1)), 3, "dbd.go:132", #[], .none⟩,
  ⟨(.some 16), (.buildSlice 28 1 #[(0, (.tmp 15))]), 28, "dbd.go:132", #[⟨1, .data⟩], .none⟩,
  ⟨(.some 17), (.call ⟨(.builtin .append), #[(.tmp 14), (.tmp 16)], #[28, 28]⟩), 28, "dbd.go:132", #[⟨0, .data⟩, ⟨2, .data⟩], .none⟩,
  ⟨(.some 5), (.assign (.tmp 17)), 28, "dbd.go:132", #[⟨3, .data⟩, ⟨3, .chain⟩, ⟨0, .phase⟩, ⟨1, .phase⟩, ⟨2, .phase⟩, ⟨3, .phase⟩], .none⟩]
def dbd_way_a4 : RAnn := ⟨[7, 14, 15, 16, 17], []⟩
def dbd_way_o5 : Array Oper := #[⟨(.some 18), (.move (.tmp 5)), 28, "dbd.go:134", #[], .none⟩,
  ⟨(.some 19), (.call ⟨(.value (.func 66)), #[(.tmp 18)], #[28]⟩), 0, "dbd.go:134", #[⟨0, .data⟩], .none⟩]
def dbd_way_a5 : RAnn := ⟨[1, 2, 7, 18, 19], [(1, { eff := true })]⟩
def dbd_way_o6 : Array Oper := #[⟨(.some 20), (.move (.tmp 5)), 28, "dbd.go:135", #[], .none⟩,
  ⟨(.some 4), (.assign (.tmp 20)), 28, "dbd.go:135", #[⟨0, .data⟩, ⟨0, .phase⟩], .none⟩]
def dbd_way_a6 : RAnn := ⟨[5, 20], [(1, { close := true })]⟩
def dbd_way_b0 : Code := (.seq (.seq (.region 2 dbd_way_o2 false) (.cond (.tmp 7) .skip (.exit 0))) (.seq (.block 1 (.region 4 dbd_way_o4 false)) (.region 3 dbd_way_o3 false)))
def dbd_way_c : Code := (.seq (.region 0 dbd_way_o0 false) (.seq (.region 1 dbd_way_o1 false) (.seq (.block 0 (.loop dbd_way_b0)) (.seq (.region 5 dbd_way_o5 false) (.seq (.region 6 dbd_way_o6 false) .ret)))))
def dbd_way_an : List (Nat × RAnn) := [(0, dbd_way_a0), (1, dbd_way_a1), (2, dbd_way_a2), (3, dbd_way_a3), (4, dbd_way_a4), (5, dbd_way_a5), (6, dbd_way_a6)]
def dbd_Way_o0 : Array Oper := #[⟨(.some 2), (.box 25 (.tmp 0)), 0, "dbd.go:139", #[], .none⟩,
  ⟨(.some 4), (.assign (.const (.slice .none 0 0))), 28, "dbd.go:139", #[], .none⟩,
  ⟨(.some 5), (.assign (.const (.int .i64 0))), 29, "dbd.go:139", #[⟨1, .chain⟩], .none⟩]
def dbd_Way_a0 : RAnn := ⟨[0, 4, 5], []⟩
def dbd_Way_o1 : Array Oper := #[⟨(.some 7), (.load 25 (.tmp 2)), 25, "dbd.go:140", #[], .none⟩,
  ⟨(.some 8), (.move (.tmp 1)), 3, "dbd.go:140", #[], .none⟩,
  ⟨(.some 9), (.buildSlice 28 1 #[(0, (.tmp 8))]), 28, "dbd.go:140", #[⟨1, .data⟩], .none⟩,
  ⟨(.some 10), (.call ⟨(.value (.func 38)), #[(.tmp 7), (.tmp 9)], #[25, 28]⟩), 29, "dbd.go:140", #[⟨0, .data⟩, ⟨2, .data⟩], .none⟩,
  ⟨(.some 6), (.assign (.tmp 10)), 29, "dbd.go:140", #[⟨3, .data⟩, ⟨3, .chain⟩, ⟨0, .phase⟩, ⟨1, .phase⟩, ⟨2, .phase⟩, ⟨3, .phase⟩], .none⟩]
def dbd_Way_a1 : RAnn := ⟨[7, 8, 9, 10], []⟩
def dbd_Way_o2 : Array Oper := #[⟨(.some 11), (.move (.tmp 6)), 29, "dbd.go:140", #[], .none⟩,
  ⟨(.some 12), (.binOp .neq 29 (.tmp 11) (.const (.int .i64 0)) 29), 4, "dbd.go:140", #[⟨0, .data⟩], .none⟩]
def dbd_Way_a2 : RAnn := ⟨[11], []⟩
def dbd_Way_o3 : Array Oper := #[⟨(.some 13), (.move (.tmp 6)), 29, "dbd.go:141", #[⟨1, (.gcOnly .lateStores)⟩], .none⟩,
  ⟨(.some 4), (.assign (.const (.slice .none 0 0))), 28, "dbd.go:141", #[⟨0, (.textOnly .lateStores)⟩], .none⟩,
  ⟨(.some 5), (.assign (.tmp 13)), 29, "dbd.go:141", #[⟨0, .data⟩, ⟨1, .chain⟩, ⟨0, .phase⟩, ⟨1, .phase⟩], .none⟩]
def dbd_Way_a3 : RAnn := ⟨[1, 2, 6, 12, 13], []⟩
def dbd_Way_o4 : Array Oper := #[⟨(.some 14), (.load 25 (.tmp 2)), 25, "dbd.go:143", #[], .none⟩,
  ⟨(.some 15), (.move (.tmp 1)), 3, "dbd.go:143", #[], .none⟩,
  ⟨(.some 16), (.call ⟨(.value (.func 39)), #[(.tmp 14), (.tmp 15)], #[25, 3]⟩), 28, "dbd.go:143", #[⟨0, .data⟩, ⟨1, .data⟩], .none⟩,
  ⟨(.some 4), (.assign (.tmp 16)), 28, "dbd.go:143", #[⟨2, .data⟩, ⟨2, .chain⟩, ⟨0, .phase⟩, ⟨1, .phase⟩, ⟨2, .phase⟩], .none⟩,
  ⟨(.some 5), (.assign (.const (.int .i64 0))), 29, "dbd.go:143", #[⟨3, .chain⟩, ⟨0, .phase⟩, ⟨1, .phase⟩, ⟨2, .phase⟩, ⟨3, .phase⟩], .none⟩]
def dbd_Way_a4 : RAnn := ⟨[1, 2, 6, 12, 14, 15, 16], []⟩
def dbd_Way_c : Code := (.seq (.region 0 dbd_Way_o0 false) (.seq (.seq (.region 1 dbd_Way_o1 false) (.seq (.region 2 dbd_Way_o2 false) (.cond (.tmp 12) (.seq (.region 3 dbd_Way_o3 false) .ret) .skip))) (.seq (.region 4 dbd_Way_o4 false) .ret)))
def dbd_Way_an : List (Nat × RAnn) := [(0, dbd_Way_a0), (1, dbd_Way_a1), (2, dbd_Way_a2), (3, dbd_Way_a3), (4, dbd_Way_a4)]
def dbd_Children_o0 : Array Oper := #[⟨(.some 2), (.box 25 (.tmp 0)), 0, "dbd.go:153", #[], .none⟩,
  ⟨(.some 4), (.assign (.const (.slice .none 0 0))), 28, "dbd.go:153", #[], .none⟩,
  ⟨(.some 5), (.assign (.const (.int .i64 0))), 29, "dbd.go:153", #[⟨1, .chain⟩], .none⟩]
def dbd_Children_a0 : RAnn := ⟨[0, 4, 5], []⟩
def dbd_Children_o1 : Array Oper := #[⟨(.some 10), (.load 25 (.tmp 2)), 25, "dbd.go:154", #[], .none⟩,
  ⟨(.some 11), (.move (.tmp 1)), 3, "dbd.go:154", #[], .none⟩,
  ⟨(.some 12), (.buildSlice 28 1 #[(0, (.tmp 11))]), 28, "dbd.go:154", #[⟨1, .data⟩], .none⟩,
  ⟨(.some 13), (.call ⟨(.value (.func 38)), #[(.tmp 10), (.tmp 12)], #[25, 28]⟩), 29, "dbd.go:154", #[⟨0, .data⟩, ⟨2, .data⟩], .none⟩,
  ⟨(.some 6), (.assign (.tmp 13)), 29, "dbd.go:154", #[⟨3, .data⟩, ⟨3, .chain⟩, ⟨0, .phase⟩, ⟨1, .phase⟩, ⟨2, .phase⟩, ⟨3, .phase⟩], .none⟩]
def dbd_Children_a1 : RAnn := ⟨[10, 11, 12, 13], []⟩
def dbd_Children_o2 : Array Oper := #[⟨(.some 14), (.move (.tmp 6)), 29, "dbd.go:154", #[], .none⟩,
  ⟨(.some 15), (.binOp .neq 29 (.tmp 14) (.const (.int .i64 0)) 29), 4, "dbd.go:154", #[⟨0, .data⟩], .none⟩]
def dbd_Children_a2 : RAnn := ⟨[14], []⟩
def dbd_Children_o3 : Array Oper := #[⟨(.some 16), (.move (.tmp 6)), 29, "dbd.go:155", #[⟨1, (.gcOnly .lateStores)⟩], .none⟩,
  ⟨(.some 4), (.assign (.const (.slice .none 0 0))), 28, "dbd.go:155", #[⟨0, (.textOnly .lateStores)⟩], .none⟩,
  ⟨(.some 5), (.assign (.tmp 16)), 29, "dbd.go:155", #[⟨0, .data⟩, ⟨1, .chain⟩, ⟨0, .phase⟩, ⟨1, .phase⟩], .none⟩]
def dbd_Children_a3 : RAnn := ⟨[1, 2, 6, 15, 16], []⟩
def dbd_Children_o4 : Array Oper := #[⟨(.some 7), (.assign (.const (.slice .none 0 0))), 28, "dbd.go:157", #[], .none⟩]
def dbd_Children_a4 : RAnn := ⟨[6, 15], [(0, { keep := [0] })]⟩
def dbd_Children_o5 : Array Oper := #[⟨(.some 17), (.fieldAddr 25 (.tmp 2) 2), 0, "dbd.go:158", #[], .none⟩,
  ⟨(.some 18), (.load 22 (.tmp 17)), 22, "dbd.go:158", #[⟨0, .data⟩], .none⟩,
  ⟨(.some 19), (.call ⟨(.builtin .len), #[(.tmp 18)], #[22]⟩), 3, "dbd.go:158", #[⟨1, .data⟩], .none⟩,
  ⟨(.some 20), (.move (.const (.int .i64 0))), 3, "dbd.go:158", #[], .none⟩]
def dbd_Children_a5 : RAnn := ⟨[2, 17], []⟩
def dbd_Children_o6 : Array Oper := #[⟨(.some 21), (.binOp .lss 3 (.tmp 20) (.tmp 19) 3), 0, "dbd.go:158", #[], .none⟩]
def dbd_Children_a6 : RAnn := ⟨[], []⟩
def dbd_Children_o7 : Array Oper := #[⟨(.some 22), (.move (.tmp 20)), 3, "dbd.go:158", #[], .none⟩,
  ⟨(.some 23), (.indexAddr 22 (.tmp 18) (.tmp 20)), 0, "dbd.go:158", #[], .none⟩,
  ⟨(.some 24), (.load 55 (.tmp 23)), 55, "dbd.go:158", #[⟨1, .data⟩], .none⟩,
  ⟨(.some 9), (.alloc 55), 0, "dbd.go:158", #[], .none⟩,
  ⟨(.some 8), (.assign (.tmp 22)), 3, "dbd.go:158", #[⟨0, .data⟩, ⟨0, .phase⟩, ⟨1, .phase⟩, ⟨2, .phase⟩, ⟨3, .phase⟩], .none⟩,
  ⟨.none, (.store 55 (.tmp 9) (.tmp 24)), 0, "dbd.go:158", #[⟨3, .data⟩, ⟨2, .data⟩, ⟨4, .chain⟩, ⟨0, .phase⟩, ⟨1, .phase⟩, ⟨2, .phase⟩, ⟨3, .phase⟩, ⟨4, .phase⟩], .none⟩]
def dbd_Children_a7 : RAnn := ⟨[21, 22, 23, 24], []⟩
def dbd_Children_o8 : Array Oper := #[⟨(.some 25), (.fieldAddr 55 (.tmp 9) 1), 0, "dbd.go:159", #[], .none⟩,
  ⟨(.some 26), (.load 3 (.tmp 25)), 3, "dbd.go:159", #[⟨0, .data⟩], .none⟩,
  ⟨(.some 27), (.move (.tmp 1)), 3, "dbd.go:159", #[], .none⟩,
  ⟨(.some 28), (.binOp .eql 3 (.tmp 26) (.tmp 27) 3), 4, "dbd.go:159", #[⟨1, .data⟩, ⟨2, .data⟩], .none⟩]
def dbd_Children_a8 : RAnn := ⟨[9, 25, 26, 27], []⟩
def dbd_Children_o9 : Array Oper := #[⟨(.some 29), (.move (.tmp 7)), 28, "dbd.go:160", #[], .none⟩,
  ⟨(.some 30), (.move (.tmp 8)), 3, "dbd.go:160", #[], .none⟩,
  ⟨(.some 31), (.buildSlice 28 1 #[(0, (.tmp 30))]), 28, "dbd.go:160", #[⟨1, .data⟩], .none⟩,
  ⟨(.some 32), (.call ⟨(.builtin .append), #[(.tmp 29), (.tmp 31)], #[28, 28]⟩), 28, "dbd.go:160", #[⟨0, .data⟩, ⟨2, .data⟩], .none⟩,
  ⟨(.some 7), (.assign (.tmp 32)), 28, "dbd.go:160", #[⟨3, .data⟩, ⟨3, .chain⟩, ⟨0, .phase⟩, ⟨1, .phase⟩, ⟨2, .phase⟩, ⟨3, .phase⟩], .none⟩]
def dbd_Children_a9 : RAnn := ⟨[8, 28, 29, 30, 31, 32], [(0, { tk := [7], keep := [0] }), (3, { tk := [29], keep := [0] }), (4, { tk := [32], keep := [0] })]⟩
def dbd_Children_o10 : Array Oper := #[⟨(.some 33), (.binOp .add 3 (.tmp 20) (.const (.int .i64 1)) 3), 3, "dbd.go:158", #[], .none⟩,
  ⟨(.some 20), (.move (.tmp 33)), 3, "dbd.go:158", #[⟨0, .data⟩], .none⟩]
def dbd_Children_a10 : RAnn := ⟨[8, 28, 33], []⟩
def dbd_Children_o11 : Array Oper := #[⟨(.some 34), (.move (.tmp 7)), 28, "dbd.go:163", #[], .none⟩,
  ⟨(.some 4), (.assign (.tmp 34)), 28, "dbd.go:163", #[⟨0, .data⟩, ⟨0, .phase⟩], .none⟩,
  ⟨(.some 5), (.assign (.const (.int .i64 0))), 29, "dbd.go:163", #[⟨1, .chain⟩, ⟨0, .phase⟩, ⟨1, .phase⟩], .none⟩]
def dbd_Children_a11 : RAnn := ⟨[1, 7, 18, 19, 20, 21, 34], []⟩
def dbd_Children_b0 : Code := (.seq (.region 6 dbd_Children_o6 false) (.seq (.cond (.tmp 21) .skip (.exit 0)) (.seq (.block 1 (.seq (.region 7 dbd_Children_o7 false) (.seq (.region 8 dbd_Children_o8 false) (.cond (.tmp 28) (.region 9 dbd_Children_o9 false) .skip)))) (.region 10 dbd_Children_o10 false))))
def dbd_Children_c : Code := (.seq (.region 0 dbd_Children_o0 false) (.seq (.seq (.region 1 dbd_Children_o1 false) (.seq (.region 2 dbd_Children_o2 false) (.cond (.tmp 15) (.seq (.region 3 dbd_Children_o3 false) .ret) .skip))) (.seq (.region 4 dbd_Children_o4 false) (.seq (.seq (.region 5 dbd_Children_o5 false) (.block 0 (.loop dbd_Children_b0))) (.seq (.region 11 dbd_Children_o11 false) .ret)))))
def dbd_Children_an : List (Nat × RAnn) := [(0, dbd_Children_a0), (1, dbd_Children_a1), (2, dbd_Children_a2), (3, dbd_Children_a3), (4, dbd_Children_a4), (5, dbd_Children_a5), (6, dbd_Children_a6), (7, dbd_Children_a7), (8, dbd_Children_a8), (9, dbd_Children_a9), (10, dbd_Children_a10), (11, dbd_Children_a11)]
def ref01_SameInts_o0 : Array Oper := #[⟨(.some 4), (.assign (.const (.bool false))), 4, "ref.go:313", #[], .none⟩]
def ref01_SameInts_a0 : RAnn := ⟨[4], []⟩
def ref01_SameInts_o1 : Array Oper := #[⟨(.some 6), (.move (.tmp 0)), 28, "ref.go:314", #[], .none⟩,
  ⟨(.some 7), (.call ⟨(.builtin .len), #[(.tmp 6)], #[28]⟩), 3, "ref.go:314", #[⟨0, .data⟩], .none⟩,
  ⟨(.some 8), (.move (.tmp 1)), 28, "ref.go:314", #[], .none⟩,
  ⟨(.some 9), (.call ⟨(.builtin .len), #[(.tmp 8)], #[28]⟩), 3, "ref.go:314", #[⟨2, .data⟩], .none⟩,
  ⟨(.some 10), (.binOp .neq 3 (.tmp 7) (.tmp 9) 3), 4, "ref.go:314", #[⟨1, .data⟩, ⟨3, .data⟩], .none⟩]
def ref01_SameInts_a1 : RAnn := ⟨[6, 7, 8, 9], []⟩
def ref01_SameInts_o2 : Array Oper := #[⟨(.some 4), (.assign (.const (.bool false))), 4, "ref.go:315", #[], .none⟩]
def ref01_SameInts_a2 : RAnn := ⟨[0, 1, 10], []⟩
def ref01_SameInts_o3 : Array Oper := #[⟨(.some 5), (.assign (.const (.int .i64 0))), 3, "ref.go:317", #[], .none⟩]
def ref01_SameInts_a3 : RAnn := ⟨[10], []⟩
def ref01_SameInts_o4 : Array Oper := #[⟨(.some 11), (.move (.tmp 5)), 3, "ref.go:317", #[], .none⟩,
  ⟨(.some 12), (.move (.tmp 0)), 28, "ref.go:317", #[], .none⟩,
  ⟨(.some 13), (.call ⟨(.builtin .len), #[(.tmp 12)], #[28]⟩), 3, "ref.go:317", #[⟨1, .data⟩], .none⟩,
  ⟨(.some 14), (.binOp .lss 3 (.tmp 11) (.tmp 13) 3), 4, "ref.go:317", #[⟨0, .data⟩, ⟨2, .data⟩], .none⟩]
def ref01_SameInts_a4 : RAnn := ⟨[11, 12, 13], []⟩
def ref01_SameInts_o5 : Array Oper := #[⟨(.some 15), (.move (.tmp 5)), 3, "ref.go:317", #[], .none⟩,
  ⟨(.some 16), (.binOp .add 3 (.tmp 15) (.const (.int .i64 1)) 3), 3, "ref.go:317", #[⟨0, .data⟩], .none⟩,
  ⟨(.some 5), (.assign (.tmp 16)), 3, "ref.go:317", #[⟨1, .data⟩, ⟨0, .phase⟩, ⟨1, .phase⟩], .none⟩]
def ref01_SameInts_a5 : RAnn := ⟨[15, 16, 25], []⟩
def ref01_SameInts_o6 : Array Oper := #[⟨(.some 17), (.move (.tmp 0)), 28, "ref.go:318", #[], .none⟩,
  ⟨(.some 18), (.move (.tmp 5)), 3, "ref.go:318", #[], .none⟩,
  ⟨(.some 19), (.indexAddr 28 (.tmp 17) (.tmp 18)), 0, "ref.go:318", #[⟨0, .data⟩, ⟨1, .data⟩], .none⟩,
  ⟨(.some 20), (.load 3 (.tmp 19)), 3, "ref.go:318", #[⟨2, .data⟩], .none⟩,
  ⟨(.some 21), (.move (.tmp 1)), 28, "ref.go:318", #[], .none⟩,
  ⟨(.some 22), (.move (.tmp 5)), 3, "ref.go:318", #[], .none⟩,
  ⟨(.some 23), (.indexAddr 28 (.tmp 21) (.tmp 22)), 0, "ref.go:318", #[⟨4, .data⟩, ⟨5, .data⟩], .none⟩,
  ⟨(.some 24), (.load 3 (.tmp 23)), 3, "ref.go:318", #[⟨6, .data⟩], .none⟩,
  ⟨(.some 25), (.binOp .neq 3 (.tmp 20) (.tmp 24) 3), 4, "ref.go:318", #[⟨3, .data⟩, ⟨7, .data⟩], .none⟩]
def ref01_SameInts_a6 : RAnn := ⟨[14, 17, 18, 19, 20, 21, 22, 23, 24], []⟩
def ref01_SameInts_o7 : Array Oper := #[⟨(.some 4), (.assign (.const (.bool false))), 4, "ref.go:319", #[], .none⟩]
def ref01_SameInts_a7 : RAnn := ⟨[0, 1, 5, 25], []⟩
def ref01_SameInts_o8 : Array Oper := #[⟨(.some 4), (.assign (.const (.bool true))), 4, "ref.go:322", #[], .none⟩]
def ref01_SameInts_a8 : RAnn := ⟨[0, 1, 5, 14], []⟩
def ref01_SameInts_b0 : Code := (.seq (.seq (.region 4 ref01_SameInts_o4 false) (.cond (.tmp 14) .skip (.exit 0))) (.seq (.block 1 (.seq (.region 6 ref01_SameInts_o6 true) (.cond (.tmp 25) (.seq (.region 7 ref01_SameInts_o7 false) .ret) .skip))) (.region 5 ref01_SameInts_o5 false)))
def ref01_SameInts_c : Code := (.seq (.region 0 ref01_SameInts_o0 false) (.seq (.seq (.region 1 ref01_SameInts_o1 false) (.cond (.tmp 10) (.seq (.region 2 ref01_SameInts_o2 false) .ret) .skip)) (.seq (.seq (.region 3 ref01_SameInts_o3 false) (.block 0 (.loop ref01_SameInts_b0))) (.seq (.region 8 ref01_SameInts_o8 false) .ret))))
def ref01_SameInts_an : List (Nat × RAnn) := [(0, ref01_SameInts_a0), (1, ref01_SameInts_a1), (2, ref01_SameInts_a2), (3, ref01_SameInts_a3), (4, ref01_SameInts_a4), (5, ref01_SameInts_a5), (6, ref01_SameInts_a6), (7, ref01_SameInts_a7), (8, ref01_SameInts_a8)]
def law11_First_o0 : Array Oper := #[⟨(.some 0), (.assign (.const (.bool false))), 4, "law.go:22", #[], .none⟩]
def law11_First_a0 : RAnn := ⟨[0], []⟩
def law11_First_o1 : Array Oper := #[⟨(.some 6), (.call ⟨(.value (.func 37)), #[], #[]⟩), 25, "law.go:23", #[], .none⟩,
  ⟨(.some 7), (.call ⟨(.value (.func 11)), #[(.tmp 6), (.const (.int .i64 2))], #[25, 3]⟩), 30, "law.go:23", #[⟨0, .data⟩, ⟨0, .chain⟩], .none⟩,
  ⟨(.some 5), (.move (.tmp 7)), 30, "law.go:23", #[⟨1, .data⟩], .none⟩,
  ⟨(.some 8), (.extract (.tmp 5) 0), 28, "law.go:23", #[⟨2, .data⟩], .none⟩,
  ⟨(.some 9), (.extract (.tmp 5) 1), 29, "law.go:23", #[⟨2, .data⟩, ⟨5, (.gcOnly .lateStores)⟩], .none⟩,
  ⟨(.some 1), (.assign (.tmp 8)), 28, "law.go:23", #[⟨3, .data⟩, ⟨1, .chain⟩, ⟨0, .phase⟩, ⟨1, .phase⟩, ⟨2, .phase⟩, ⟨3, .phase⟩, ⟨4, (.textOnly .lateStores)⟩], .none⟩,
  ⟨(.some 2), (.assign (.tmp 9)), 29, "law.go:23", #[⟨4, .data⟩, ⟨5, .chain⟩, ⟨0, .phase⟩, ⟨1, .phase⟩, ⟨2, .phase⟩, ⟨3, .phase⟩, ⟨4, .phase⟩, ⟨5, .phase⟩], .none⟩]
def law11_First_a1 : RAnn := ⟨[5, 6, 7, 8, 9], []⟩
def law11_First_o2 : Array Oper := #[⟨(.some 11), (.call ⟨(.value (.func 37)), #[], #[]⟩), 25, "law.go:24", #[], .none⟩,
  ⟨(.some 12), (.call ⟨(.value (.func 16)), #[(.tmp 11), (.const (.int .i64 0))], #[25, 3]⟩), 30, "law.go:24", #[⟨0, .data⟩, ⟨0, .chain⟩], .none⟩,
  ⟨(.some 10), (.move (.tmp 12)), 30, "law.go:24", #[⟨1, .data⟩], .none⟩,
  ⟨(.some 13), (.extract (.tmp 10) 0), 28, "law.go:24", #[⟨2, .data⟩], .none⟩,
  ⟨(.some 14), (.extract (.tmp 10) 1), 29, "law.go:24", #[⟨2, .data⟩, ⟨5, (.gcOnly .lateStores)⟩], .none⟩,
  ⟨(.some 3), (.assign (.tmp 13)), 28, "law.go:24", #[⟨3, .data⟩, ⟨1, .chain⟩, ⟨0, .phase⟩, ⟨1, .phase⟩, ⟨2, .phase⟩, ⟨3, .phase⟩, ⟨4, (.textOnly .lateStores)⟩], .none⟩,
  ⟨(.some 4), (.assign (.tmp 14)), 29, "law.go:24", #[⟨4, .data⟩, ⟨5, .chain⟩, ⟨0, .phase⟩, ⟨1, .phase⟩, ⟨2, .phase⟩, ⟨3, .phase⟩, ⟨4, .phase⟩, ⟨5, .phase⟩], .none⟩]
def law11_First_a2 : RAnn := ⟨[10, 11, 12, 13, 14], []⟩
def law11_First_o3 : Array Oper := #[⟨(.some 15), (.move (.tmp 2)), 29, "law.go:25", #[], .none⟩,
  ⟨(.some 16), (.binOp .eql 29 (.tmp 15) (.const (.int .i64 0)) 29), 4, "law.go:25", #[⟨0, .data⟩], .none⟩,
  ⟨(.some 17), (.move (.tmp 16)), 4, "law.go:25", #[⟨1, .data⟩], .none⟩,
  ⟨(.some 18), (.move (.tmp 4)), 29, "law.go:25", #[⟨2, .guard⟩], (.some (2, true))⟩,
  ⟨(.some 19), (.binOp .eql 29 (.tmp 18) (.const (.int .i64 0)) 29), 4, "law.go:25", #[⟨3, .data⟩, ⟨2, .guard⟩], (.some (2, true))⟩,
  ⟨(.some 20), (.pick (.tmp 17) (.tmp 19) (.const (.bool false))), 4, "law.go:25", #[⟨2, .data⟩, ⟨4, .data⟩], .none⟩,
  ⟨(.some 21), (.move (.tmp 20)), 4, "law.go:25", #[⟨5, .data⟩, ⟨2, .chain⟩], .none⟩,
  ⟨(.some 22), (.move (.tmp 1)), 28, "law.go:25", #[⟨6, .guard⟩], (.some (6, true))⟩,
  ⟨(.some 23), (.buildSlice 28 3 #[(0, (.const (.int .i64 0))), (1, (.const (.int .i64 1))), (2, (.const (.int .i64 2)))]), 28, "law.go:25", #[⟨6, .guard⟩], (.some (6, true))⟩,
  ⟨(.some 24), (.call ⟨(.value (.func 13)), #[(.tmp 22), (.tmp 23)], #[28, 28]⟩), 4, "law.go:25", #[⟨7, .data⟩, ⟨8, .data⟩, ⟨6, .chain⟩, ⟨6, .guard⟩], (.some (6, true))⟩,
  ⟨(.some 25), (.pick (.tmp 21) (.tmp 24) (.const (.bool false))), 4, "law.go:25", #[⟨6, .data⟩, ⟨9, .data⟩], .none⟩,
  ⟨(.some 26), (.move (.tmp 25)), 4, "law.go:25", #[⟨10, .data⟩, ⟨9, .chain⟩], .none⟩,
  ⟨(.some 27), (.move (.tmp 3)), 28, "law.go:25", #[⟨11, .guard⟩], (.some (11, true))⟩,
  ⟨(.some 28), (.buildSlice 28 2 #[(0, (.const (.int .i64 1))), (1, (.const (.int .i64 3)))]), 28, "law.go:25", #[⟨11, .guard⟩], (.some (11, true))⟩,
  ⟨(.some 29), (.call ⟨(.value (.func 13)), #[(.tmp 27), (.tmp 28)], #[28, 28]⟩), 4, "law.go:25", #[⟨12, .data⟩, ⟨13, .data⟩, ⟨11, .chain⟩, ⟨11, .guard⟩], (.some (11, true))⟩,
  ⟨(.some 30), (.pick (.tmp 26) (.tmp 29) (.const (.bool false))), 4, "law.go:25", #[⟨11, .data⟩, ⟨14, .data⟩], .none⟩,
  ⟨(.some 0), (.assign (.tmp 30)), 4, "law.go:25", #[⟨15, .data⟩, ⟨14, .chain⟩, ⟨0, .phase⟩, ⟨1, .phase⟩, ⟨2, .phase⟩, ⟨3, .phase⟩, ⟨4, .phase⟩, ⟨5, .phase⟩, ⟨6, .phase⟩, ⟨7, .phase⟩, ⟨8, .phase⟩, ⟨9, .phase⟩, ⟨10, .phase⟩, ⟨11, .phase⟩, ⟨12, .phase⟩, ⟨13, .phase⟩, ⟨14, .phase⟩, ⟨15, .phase⟩], .none⟩]
def law11_First_a3 : RAnn := ⟨[1, 2, 3, 4, 15, 16, 17, 18, 19, 20, 21, 22, 23, 24, 25, 26, 27, 28, 29, 30], []⟩
def law11_First_c : Code := (.seq (.region 0 law11_First_o0 false) (.seq (.region 1 law11_First_o1 false) (.seq (.region 2 law11_First_o2 false) (.seq (.region 3 law11_First_o3 false) .ret))))
def law11_First_an : List (Nat × RAnn) := [(0, law11_First_a0), (1, law11_First_a1), (2, law11_First_a2), (3, law11_First_a3)]
def ref11_IsName_o0 : Array Oper := #[⟨(.some 2), (.assign (.const (.bool false))), 4, "ref.go:10", #[], .none⟩]
def ref11_IsName_a0 : RAnn := ⟨[2], []⟩
def ref11_IsName_o1 : Array Oper := #[⟨(.some 3), (.assign (.const (.int .i64 0))), 3, "ref.go:11", #[], .none⟩]
def ref11_IsName_a1 : RAnn := ⟨[], []⟩
def ref11_IsName_o2 : Array Oper := #[⟨(.some 5), (.move (.tmp 3)), 3, "ref.go:11", #[], .none⟩,
  ⟨(.some 6), (.move (.tmp 0)), 9, "ref.go:11", #[], .none⟩,
  ⟨(.some 7), (.call ⟨(.builtin .len), #[(.tmp 6)], #[9]⟩), 3, "ref.go:11", #[⟨1, .data⟩], .none⟩,
  ⟨(.some 8), (.binOp .lss 3 (.tmp 5) (.tmp 7) 3), 4, "ref.go:11", #[⟨0, .data⟩, ⟨2, .data⟩], .none⟩]
def ref11_IsName_a2 : RAnn := ⟨[5, 6, 7], []⟩
def ref11_IsName_o3 : Array Oper := #[⟨(.some 9), (.move (.tmp 3)), 3, "ref.go:11", #[], .none⟩,
  ⟨(.some 10), (.binOp .add 3 (.tmp 9) (.const (.int .i64 1)) 3), 3, "ref.go:11", #[⟨0, .data⟩], .none⟩,
  ⟨(.some 3), (.assign (.tmp 10)), 3, "ref.go:11", #[⟨1, .data⟩, ⟨0, .phase⟩, ⟨1, .phase⟩], .none⟩]
def ref11_IsName_a3 : RAnn := ⟨[9, 10, 38], []⟩
def ref11_IsName_o4 : Array Oper := #[⟨(.some 11), (.move (.tmp 0)), 9, "ref.go:12", #[], .none⟩,
  ⟨(.some 12), (.move (.tmp 3)), 3, "ref.go:12", #[], .none⟩,
  ⟨(.some 13), (.index 9 (.tmp 11) (.tmp 12)), 5, "ref.go:12", #[⟨0, .data⟩, ⟨1, .data⟩], .none⟩,
  ⟨(.some 14), (.binOp .geq 5 (.tmp 13) (.const (.int .u8 65)) 5), 4, "ref.go:12", #[⟨2, .data⟩], .none⟩,
  ⟨(.some 15), (.move (.tmp 14)), 4, "ref.go:12", #[⟨3, .data⟩], .none⟩,
  ⟨(.some 16), (.move (.tmp 0)), 9, "ref.go:12", #[⟨4, .guard⟩], (.some (4, true))⟩,
  ⟨(.some 17), (.move (.tmp 3)), 3, "ref.go:12", #[⟨4, .guard⟩], (.some (4, true))⟩,
  ⟨(.some 18), (.index 9 (.tmp 16) (.tmp 17)), 5, "ref.go:12", #[⟨5, .data⟩, ⟨6, .data⟩, ⟨4, .guard⟩], (.some (4, true))⟩,
  ⟨(.some 19), (.binOp .leq 5 (.tmp 18) (.const (.int .u8 90)) 5), 4, "ref.go:12", #[⟨7, .data⟩, ⟨4, .guard⟩], (.some (4, true))⟩,
  ⟨(.some 20), (.pick (.tmp 15) (.tmp 19) (.const (.bool false))), 4, "ref.go:12", #[⟨4, .data⟩, ⟨8, .data⟩], .none⟩,
  ⟨(.some 4), (.assign (.tmp 20)), 4, "ref.go:12", #[⟨9, .data⟩, ⟨4, .chain⟩, ⟨0, .phase⟩, ⟨1, .phase⟩, ⟨2, .phase⟩, ⟨3, .phase⟩, ⟨4, .phase⟩, ⟨5, .phase⟩, ⟨6, .phase⟩, ⟨7, .phase⟩, ⟨8, .phase⟩, ⟨9, .phase⟩], .none⟩]
def ref11_IsName_a4 : RAnn := ⟨[8, 11, 12, 13, 14, 15, 16, 17, 18, 19, 20], []⟩
def ref11_IsName_o5 : Array Oper := #[⟨(.some 21), (.move (.tmp 4)), 4, "ref.go:13", #[], .none⟩,
  ⟨(.some 22), (.unOp .not 4 (.tmp 21)), 4, "ref.go:13", #[⟨0, .data⟩], .none⟩,
  ⟨(.some 23), (.move (.tmp 22)), 4, "ref.go:13", #[⟨1, .data⟩], .none⟩,
  ⟨(.some 24), (.move (.tmp 3)), 3, "ref.go:13", #[⟨2, .guard⟩], (.some (2, true))⟩,
  ⟨(.some 25), (.binOp .eql 3 (.tmp 24) (.const (.int .i64 0)) 3), 4, "ref.go:13", #[⟨3, .data⟩, ⟨2, .guard⟩], (.some (2, true))⟩,
  ⟨(.some 26), (.move (.tmp 25)), 4, "ref.go:13", #[⟨4, .data⟩, ⟨2, .chain⟩, ⟨2, .guard⟩], (.some (2, true))⟩,
  ⟨(.some 27), (.move (.tmp 0)), 9, "ref.go:13", #[⟨5, .guard⟩], (.some (5, false))⟩,
  ⟨(.some 28), (.move (.tmp 3)), 3, "ref.go:13", #[⟨5, .guard⟩], (.some (5, false))⟩,
  ⟨(.some 29), (.index 9 (.tmp 27) (.tmp 28)), 5, "ref.go:13", #[⟨6, .data⟩, ⟨7, .data⟩, ⟨5, .guard⟩], (.some (5, false))⟩,
  ⟨(.some 30), (.binOp .lss 5 (.tmp 29) (.const (.int .u8 48)) 5), 4, "ref.go:13", #[⟨8, .data⟩, ⟨5, .guard⟩], (.some (5, false))⟩,
  ⟨(.some 31), (.pick (.tmp 26) (.const (.bool true)) (.tmp 30)), 4, "ref.go:13", #[⟨5, .data⟩, ⟨9, .data⟩, ⟨2, .guard⟩], (.some (2, true))⟩,
  ⟨(.some 32), (.move (.tmp 31)), 4, "ref.go:13", #[⟨10, .data⟩, ⟨5, .chain⟩, ⟨2, .guard⟩], (.some (2, true))⟩,
  ⟨(.some 33), (.move (.tmp 0)), 9, "ref.go:13", #[⟨11, .guard⟩], (.some (11, false))⟩,
  ⟨(.some 34), (.move (.tmp 3)), 3, "ref.go:13", #[⟨11, .guard⟩], (.some (11, false))⟩,
  ⟨(.some 35), (.index 9 (.tmp 33) (.tmp 34)), 5, "ref.go:13", #[⟨12, .data⟩, ⟨13, .data⟩, ⟨11, .guard⟩], (.some (11, false))⟩,
  ⟨(.some 36), (.binOp .gtr 5 (.tmp 35) (.const (.int .u8 57)) 5), 4, "ref.go:13", #[⟨14, .data⟩, ⟨11, .guard⟩], (.some (11, false))⟩,
  ⟨(.some 37), (.pick (.tmp 32) (.const (.bool true)) (.tmp 36)), 4, "ref.go:13", #[⟨11, .data⟩, ⟨15, .data⟩, ⟨2, .guard⟩], (.some (2, true))⟩,
  ⟨(.some 38), (.pick (.tmp 23) (.tmp 37) (.const (.bool false))), 4, "ref.go:13", #[⟨2, .data⟩, ⟨16, .data⟩], .none⟩]
def ref11_IsName_a5 : RAnn := ⟨[4, 21, 22, 23, 24, 25, 26, 27, 28, 29, 30, 31, 32, 33, 34, 35, 36, 37], []⟩
def ref11_IsName_o6 : Array Oper := #[⟨(.some 2), (.assign (.const (.bool false))), 4, "ref.go:14", #[], .none⟩]
def ref11_IsName_a6 : RAnn := ⟨[0, 3, 38], []⟩
def ref11_IsName_o7 : Array Oper := #[⟨(.some 39), (.move (.tmp 0)), 9, "ref.go:17", #[], .none⟩,
  ⟨(.some 40), (.call ⟨(.builtin .len), #[(.tmp 39)], #[9]⟩), 3, "ref.go:17", #[⟨0, .data⟩], .none⟩,
  ⟨(.some 41), (.binOp .geq 3 (.tmp 40) (.const (.int .i64 1)) 3), 4, "ref.go:17", #[⟨1, .data⟩], .none⟩,
  ⟨(.some 42), (.move (.tmp 41)), 4, "ref.go:17", #[⟨2, .data⟩], .none⟩,
  ⟨(.some 43), (.move (.tmp 0)), 9, "ref.go:17", #[⟨3, .guard⟩], (.some (3, true))⟩,
  ⟨(.some 44), (.call ⟨(.builtin .len), #[(.tmp 43)], #[9]⟩), 3, "ref.go:17", #[⟨4, .data⟩, ⟨3, .guard⟩], (.some (3, true))⟩,
  ⟨(.some 45), (.binOp .leq 3 (.tmp 44) (.const (.int .i64 8)) 3), 4, "ref.go:17", #[⟨5, .data⟩, ⟨3, .guard⟩], (.some (3, true))⟩,
  ⟨(.some 46), (.pick (.tmp 42) (.tmp 45) (.const (.bool false))), 4, "ref.go:17", #[⟨3, .data⟩, ⟨6, .data⟩], .none⟩,
  ⟨(.some 2), (.assign (.tmp 46)), 4, "ref.go:17", #[⟨7, .data⟩, ⟨3, .chain⟩, ⟨0, .phase⟩, ⟨1, .phase⟩, ⟨2, .phase⟩, ⟨3, .phase⟩, ⟨4, .phase⟩, ⟨5, .phase⟩, ⟨6, .phase⟩, ⟨7, .phase⟩], .none⟩]
def ref11_IsName_a7 : RAnn := ⟨[0, 3, 8, 39, 40, 41, 42, 43, 44, 45, 46], []⟩
def ref11_IsName_b0 : Code := (.seq (.seq (.region 2 ref11_IsName_o2 false) (.cond (.tmp 8) .skip (.exit 0))) (.seq (.block 1 (.seq (.region 4 ref11_IsName_o4 false) (.seq (.region 5 ref11_IsName_o5 false) (.cond (.tmp 38) (.seq (.region 6 ref11_IsName_o6 false) .ret) .skip)))) (.region 3 ref11_IsName_o3 false)))
def ref11_IsName_c : Code := (.seq (.region 0 ref11_IsName_o0 false) (.seq (.seq (.region 1 ref11_IsName_o1 false) (.block 0 (.loop ref11_IsName_b0))) (.seq (.region 7 ref11_IsName_o7 false) .ret)))
def ref11_IsName_an : List (Nat × RAnn) := [(0, ref11_IsName_a0), (1, ref11_IsName_a1), (2, ref11_IsName_a2), (3, ref11_IsName_a3), (4, ref11_IsName_a4), (5, ref11_IsName_a5), (6, ref11_IsName_a6), (7, ref11_IsName_a7)]
def ref11_fields_o0 : Array Oper := #[⟨(.some 1), (.box 55 (.tmp 0)), 0, "ref.go:21", #[], .none⟩,
  ⟨(.some 2), (.assign (.const (.bool false))), 4, "ref.go:21", #[], .none⟩]
def ref11_fields_a0 : RAnn := ⟨[0, 2], []⟩
def ref11_fields_o1 : Array Oper := #[⟨(.some 3), (.assign (.const (.int .i64 0))), 3, "ref.go:22", #[], .none⟩]
def ref11_fields_a1 : RAnn := ⟨[], []⟩
def ref11_fields_o2 : Array Oper := #[⟨(.some 6), (.move (.tmp 3)), 3, "ref.go:22", #[], .none⟩,
  ⟨(.some 7), (.fieldAddr 55 (.tmp 1) 4), 0, "ref.go:22", #[], .none⟩,
  ⟨(.some 8), (.load 53 (.tmp 7)), 53, "ref.go:22", #[⟨1, .data⟩], .none⟩,
  ⟨(.some 9), (.call ⟨(.builtin .len), #[(.tmp 8)], #[53]⟩), 3, "ref.go:22", #[⟨2, .data⟩], .none⟩,
  ⟨(.some 10), (.binOp .lss 3 (.tmp 6) (.tmp 9) 3), 4, "ref.go:22", #[⟨0, .data⟩, ⟨3, .data⟩], .none⟩]
def ref11_fields_a2 : RAnn := ⟨[6, 7, 8, 9], []⟩
def ref11_fields_o3 : Array Oper := #[⟨(.some 11), (.move (.tmp 3)), 3, "ref.go:22", #[], .none⟩,
  ⟨(.some 12), (.binOp .add 3 (.tmp 11) (.const (.int .i64 1)) 3), 3, "ref.go:22", #[⟨0, .data⟩], .none⟩,
  ⟨(.some 3), (.assign (.tmp 12)), 3, "ref.go:22", #[⟨1, .data⟩, ⟨0, .phase⟩, ⟨1, .phase⟩], .none⟩]
def ref11_fields_a3 : RAnn := ⟨[4, 5, 11, 12, 51], []⟩
def ref11_fields_o4 : Array Oper := #[⟨(.some 13), (.fieldAddr 55 (.tmp 1) 4), 0, "ref.go:23", #[], .none⟩,
  ⟨(.some 14), (.load 53 (.tmp 13)), 53, "ref.go:23", #[⟨0, .data⟩], .none⟩,
  ⟨(.some 15), (.move (.tmp 3)), 3, "ref.go:23", #[], .none⟩,
  ⟨(.some 16), (.indexAddr 53 (.tmp 14) (.tmp 15)), 0, "ref.go:23", #[⟨1, .data⟩, ⟨2, .data⟩], .none⟩,
  ⟨(.some 17), (.load 65 (.tmp 16)), 65, "ref.go:23", #[⟨3, .data⟩], .none⟩,
  ⟨(.some 4), (.alloc 65), 0, "ref.go:23", #[], .none⟩,
  ⟨.none, (.store 65 (.tmp 4) (.tmp 17)), 0, "ref.go:23", #[⟨5, .data⟩, ⟨4, .data⟩, ⟨0, .phase⟩, ⟨1, .phase⟩, ⟨2, .phase⟩, ⟨3, .phase⟩, ⟨4, .phase⟩, ⟨5, .phase⟩], .none⟩]
def ref11_fields_a4 : RAnn := ⟨[10, 13, 14, 15, 16, 17], []⟩
def ref11_fields_o5 : Array Oper := #[⟨(.some 18), (.fieldAddr 65 (.tmp 4) 0), 0, "ref.go:24", #[], .none⟩,
  ⟨(.some 19), (.load 9 (.tmp 18)), 9, "ref.go:24", #[⟨0, .data⟩], .none⟩,
  ⟨(.some 20), (.call ⟨(.value (.func 59)), #[(.tmp 19)], #[9]⟩), 4, "ref.go:24", #[⟨1, .data⟩], .none⟩,
  ⟨(.some 21), (.unOp .not 4 (.tmp 20)), 4, "ref.go:24", #[⟨2, .data⟩], .none⟩,
  ⟨(.some 22), (.move (.tmp 21)), 4, "ref.go:24", #[⟨3, .data⟩, ⟨2, .chain⟩], .none⟩,
  ⟨(.some 23), (.fieldAddr 65 (.tmp 4) 1), 0, "ref.go:24", #[⟨4, .guard⟩], (.some (4, false))⟩,
  ⟨(.some 24), (.load 3 (.tmp 23)), 3, "ref.go:24", #[⟨5, .data⟩, ⟨4, .guard⟩], (.some (4, false))⟩,
  ⟨(.some 25), (.binOp .lss 3 (.tmp 24) (.const (.int .i64 0)) 3), 4, "ref.go:24", #[⟨6, .data⟩, ⟨4, .guard⟩], (.some (4, false))⟩,
  ⟨(.some 26), (.pick (.tmp 22) (.const (.bool true)) (.tmp 25)), 4, "ref.go:24", #[⟨4, .data⟩, ⟨7, .data⟩], .none⟩,
  ⟨(.some 27), (.move (.tmp 26)), 4, "ref.go:24", #[⟨8, .data⟩, ⟨4, .chain⟩], .none⟩,
  ⟨(.some 28), (.fieldAddr 65 (.tmp 4) 1), 0, "ref.go:24", #[⟨9, .guard⟩], (.some (9, false))⟩,
  ⟨(.some 29), (.load 3 (.tmp 28)), 3, "ref.go:24", #[⟨10, .data⟩, ⟨9, .guard⟩], (.some (9, false))⟩,
  ⟨(.some 30), (.fieldAddr 55 (.tmp 1) 3), 0, "ref.go:24", #[⟨9, .guard⟩], (.some (9, false))⟩,
  ⟨(.some 31), (.load 3 (.tmp 30)), 3, "ref.go:24", #[⟨12, .data⟩, ⟨9, .guard⟩], (.some (9, false))⟩,
  ⟨(.some 32), (.binOp .gtr 3 (.tmp 29) (.tmp 31) 3), 4, "ref.go:24", #[⟨11, .data⟩, ⟨13, .data⟩, ⟨9, .guard⟩], (.some (9, false))⟩,
  ⟨(.some 33), (.pick (.tmp 27) (.const (.bool true)) (.tmp 32)), 4, "ref.go:24", #[⟨9, .data⟩, ⟨14, .data⟩], .none⟩,
  ⟨(.some 34), (.move (.tmp 33)), 4, "ref.go:24", #[⟨15, .data⟩, ⟨9, .chain⟩], .none⟩,
  ⟨(.some 35), (.fieldAddr 65 (.tmp 4) 2), 0, "ref.go:24", #[⟨16, .guard⟩], (.some (16, false))⟩,
  ⟨(.some 36), (.load 3 (.tmp 35)), 3, "ref.go:24", #[⟨17, .data⟩, ⟨16, .guard⟩], (.some (16, false))⟩,
  ⟨(.some 37), (.binOp .lss 3 (.tmp 36) (.const (.int .i64 1)) 3), 4, "ref.go:24", #[⟨18, .data⟩, ⟨16, .guard⟩], (.some (16, false))⟩,
  ⟨(.some 38), (.pick (.tmp 34) (.const (.bool true)) (.tmp 37)), 4, "ref.go:24", #[⟨16, .data⟩, ⟨19, .data⟩], .none⟩,
  ⟨(.some 39), (.move (.tmp 38)), 4, "ref.go:24", #[⟨20, .data⟩, ⟨16, .chain⟩], .none⟩,
  ⟨(.some 40), (.fieldAddr 65 (.tmp 4) 2), 0, "ref.go:24", #[⟨21, .guard⟩], (.some (21, false))⟩,
  ⟨(.some 41), (.load 3 (.tmp 40)), 3, "ref.go:24", #[⟨22, .data⟩, ⟨21, .guard⟩], (.some (21, false))⟩,
  ⟨(.some 42), (.fieldAddr 55 (.tmp 1) 3), 0, "ref.go:24", #[⟨21, .guard⟩], (.some (21, false))⟩,
  ⟨(.some 43), (.load 3 (.tmp 42)), 3, "ref.go:24", #[⟨24, .data⟩, ⟨21, .guard⟩], (.some (21, false))⟩,
  ⟨(.some 44), (.fieldAddr 65 (.tmp 4) 1), 0, "ref.go:24", #[⟨21, .guard⟩], (.some (21, false))⟩,
  ⟨(.some 45), (.load 3 (.tmp 44)), 3, "ref.go:24", #[⟨26, .data⟩, ⟨21, .guard⟩], (.some (21, false))⟩,
  ⟨(.some 46), (.binOp .sub 3 (.tmp 43) (.tmp 45) 3), 3, "ref.go:24", #[⟨25, .data⟩, ⟨27, .data⟩, ⟨21, .guard⟩], (.some (21, false))⟩,
  ⟨(.some 47), (.binOp .gtr 3 (.tmp 41) (.tmp 46) 3), 4, "ref.go:24", #[⟨23, .data⟩, ⟨28, .data⟩, ⟨21, .guard⟩], (.some (21, false))⟩,
  ⟨(.some 48), (.pick (.tmp 39) (.const (.bool true)) (.tmp 47)), 4, "ref.go:24", #[⟨21, .data⟩, ⟨29, .data⟩], .none⟩]
def ref11_fields_a5 : RAnn := ⟨[18, 19, 20, 21, 22, 23, 24, 25, 26, 27, 28, 29, 30, 31, 32, 33, 34, 35, 36, 37, 38, 39, 40, 41, 42, 43, 44, 45, 46, 47], []⟩
def ref11_fields_o6 : Array Oper := #[⟨(.some 2), (.assign (.const (.bool false))), 4, "ref.go:25", #[], .none⟩]
def ref11_fields_a6 : RAnn := ⟨[1, 3, 4, 48], []⟩
def ref11_fields_o7 : Array Oper := #[⟨(.some 5), (.assign (.const (.int .i64 0))), 3, "ref.go:27", #[], .none⟩]
def ref11_fields_a7 : RAnn := ⟨[48], []⟩
def ref11_fields_o8 : Array Oper := #[⟨(.some 49), (.move (.tmp 5)), 3, "ref.go:27", #[], .none⟩,
  ⟨(.some 50), (.move (.tmp 3)), 3, "ref.go:27", #[], .none⟩,
  ⟨(.some 51), (.binOp .lss 3 (.tmp 49) (.tmp 50) 3), 4, "ref.go:27", #[⟨0, .data⟩, ⟨1, .data⟩], .none⟩]
def ref11_fields_a8 : RAnn := ⟨[49, 50], []⟩
def ref11_fields_o9 : Array Oper := #[⟨(.some 52), (.move (.tmp 5)), 3, "ref.go:27", #[], .none⟩,
  ⟨(.some 53), (.binOp .add 3 (.tmp 52) (.const (.int .i64 1)) 3), 3, "ref.go:27", #[⟨0, .data⟩], .none⟩,
  ⟨(.some 5), (.assign (.tmp 53)), 3, "ref.go:27", #[⟨1, .data⟩, ⟨0, .phase⟩, ⟨1, .phase⟩], .none⟩]
def ref11_fields_a9 : RAnn := ⟨[52, 53, 62], []⟩
def ref11_fields_o10 : Array Oper := #[⟨(.some 54), (.fieldAddr 55 (.tmp 1) 4), 0, "ref.go:28", #[], .none⟩,
  ⟨(.some 55), (.load 53 (.tmp 54)), 53, "ref.go:28", #[⟨0, .data⟩], .none⟩,
  ⟨(.some 56), (.move (.tmp 5)), 3, "ref.go:28", #[], .none⟩,
  ⟨(.some 57), (.indexAddr 53 (.tmp 55) (.tmp 56)), 0, "ref.go:28", #[⟨1, .data⟩, ⟨2, .data⟩], .none⟩,
  ⟨(.some 58), (.fieldAddr 65 (.tmp 57) 0), 0, "ref.go:28", #[⟨3, .data⟩], .none⟩,
  ⟨(.some 59), (.load 9 (.tmp 58)), 9, "ref.go:28", #[⟨4, .data⟩], .none⟩,
  ⟨(.some 60), (.fieldAddr 65 (.tmp 4) 0), 0, "ref.go:28", #[], .none⟩,
  ⟨(.some 61), (.load 9 (.tmp 60)), 9, "ref.go:28", #[⟨6, .data⟩], .none⟩,
  ⟨(.some 62), (.binOp .eql 9 (.tmp 59) (.tmp 61) 9), 4, "ref.go:28", #[⟨5, .data⟩, ⟨7, .data⟩], .none⟩]
def ref11_fields_a10 : RAnn := ⟨[51, 54, 55, 56, 57, 58, 59, 60, 61], []⟩
def ref11_fields_o11 : Array Oper := #[⟨(.some 2), (.assign (.const (.bool false))), 4, "ref.go:29", #[], .none⟩]
def ref11_fields_a11 : RAnn := ⟨[1, 3, 4, 5, 62], []⟩
def ref11_fields_o12 : Array Oper := #[⟨(.some 63), (.fieldAddr 55 (.tmp 1) 5), 0, "ref.go:33", #[], .none⟩,
  ⟨(.some 64), (.load 3 (.tmp 63)), 3, "ref.go:33", #[⟨0, .data⟩], .none⟩,
  ⟨(.some 65), (.binOp .lss 3 (.tmp 64) (.const (.int .i64 (-1))) 3), 4, "ref.go:33", #[⟨1, .data⟩], .none⟩,
  ⟨(.some 66), (.move (.tmp 65)), 4, "ref.go:33", #[⟨2, .data⟩], .none⟩,
  ⟨(.some 67), (.fieldAddr 55 (.tmp 1) 5), 0, "ref.go:33", #[⟨3, .guard⟩], (.some (3, false))⟩,
  ⟨(.some 68), (.load 3 (.tmp 67)), 3, "ref.go:33", #[⟨4, .data⟩, ⟨3, .guard⟩], (.some (3, false))⟩,
  ⟨(.some 69), (.fieldAddr 55 (.tmp 1) 4), 0, "ref.go:33", #[⟨3, .guard⟩], (.some (3, false))⟩,
  ⟨(.some 70), (.load 53 (.tmp 69)), 53, "ref.go:33", #[⟨6, .data⟩, ⟨3, .guard⟩], (.some (3, false))⟩,
  ⟨(.some 71), (.call ⟨(.builtin .len), #[(.tmp 70)], #[53]⟩), 3, "ref.go:33", #[⟨7, .data⟩, ⟨3, .guard⟩], (.some (3, false))⟩,
  ⟨(.some 72), (.binOp .geq 3 (.tmp 68) (.tmp 71) 3), 4, "ref.go:33", #[⟨5, .data⟩, ⟨8, .data⟩, ⟨3, .guard⟩], (.some (3, false))⟩,
  ⟨(.some 73), (.pick (.tmp 66) (.const (.bool true)) (.tmp 72)), 4, "ref.go:33", #[⟨3, .data⟩, ⟨9, .data⟩], .none⟩,
  ⟨(.some 74), (.move (.tmp 73)), 4, "ref.go:33", #[⟨10, .data⟩, ⟨3, .chain⟩], .none⟩,
  ⟨(.some 75), (.fieldAddr 55 (.tmp 1) 5), 0, "ref.go:33", #[⟨11, .guard⟩], (.some (11, false))⟩,
  ⟨(.some 76), (.load 3 (.tmp 75)), 3, "ref.go:33", #[⟨12, .data⟩, ⟨11, .guard⟩], (.some (11, false))⟩,
  ⟨(.some 77), (.binOp .lss 3 (.tmp 76) (.const (.int .i64 0)) 3), 4, "ref.go:33", #[⟨13, .data⟩, ⟨11, .guard⟩], (.some (11, false))⟩,
  ⟨(.some 78), (.move (.tmp 77)), 4, "ref.go:33", #[⟨14, .data⟩, ⟨11, .chain⟩, ⟨11, .guard⟩], (.some (11, false))⟩,
  ⟨(.some 79), (.fieldAddr 55 (.tmp 1) 6), 0, "ref.go:33", #[⟨15, .guard⟩], (.some (15, true))⟩,
  ⟨(.some 80), (.load 4 (.tmp 79)), 4, "ref.go:33", #[⟨16, .data⟩, ⟨15, .guard⟩], (.some (15, true))⟩,
  ⟨(.some 81), (.pick (.tmp 78) (.tmp 80) (.const (.bool false))), 4, "ref.go:33", #[⟨15, .data⟩, ⟨17, .data⟩, ⟨11, .guard⟩], (.some (11, false))⟩,
  ⟨(.some 82), (.pick (.tmp 74) (.const (.bool true)) (.tmp 81)), 4, "ref.go:33", #[⟨11, .data⟩, ⟨18, .data⟩], .none⟩]
def ref11_fields_a12 : RAnn := ⟨[3, 10, 63, 64, 65, 66, 67, 68, 69, 70, 71, 72, 73, 74, 75, 76, 77, 78, 79, 80, 81], []⟩
def ref11_fields_o13 : Array Oper := #[⟨(.some 2), (.assign (.const (.bool false))), 4, "ref.go:34", #[], .none⟩]
def ref11_fields_a13 : RAnn := ⟨[1, 82], []⟩
def ref11_fields_o14 : Array Oper := #[⟨(.some 83), (.fieldAddr 55 (.tmp 1) 4), 0, "ref.go:36", #[], .none⟩,
  ⟨(.some 84), (.load 53 (.tmp 83)), 53, "ref.go:36", #[⟨0, .data⟩], .none⟩,
  ⟨(.some 85), (.call ⟨(.builtin .len), #[(.tmp 84)], #[53]⟩), 3, "ref.go:36", #[⟨1, .data⟩], .none⟩,
  ⟨(.some 86), (.binOp .leq 3 (.tmp 85) (.const (.int .i64 5)) 3), 4, "ref.go:36", #[⟨2, .data⟩], .none⟩,
  ⟨(.some 87), (.move (.tmp 86)), 4, "ref.go:36", #[⟨3, .data⟩], .none⟩,
  ⟨(.some 88), (.fieldAddr 55 (.tmp 1) 5), 0, "ref.go:36", #[⟨4, .guard⟩], (.some (4, true))⟩,
  ⟨(.some 89), (.load 3 (.tmp 88)), 3, "ref.go:36", #[⟨5, .data⟩, ⟨4, .guard⟩], (.some (4, true))⟩,
  ⟨(.some 90), (.binOp .lss 3 (.tmp 89) (.const (.int .i64 0)) 3), 4, "ref.go:36", #[⟨6, .data⟩, ⟨4, .guard⟩], (.some (4, true))⟩,
  ⟨(.some 91), (.move (.tmp 90)), 4, "ref.go:36", #[⟨7, .data⟩, ⟨4, .chain⟩, ⟨4, .guard⟩], (.some (4, true))⟩,
  ⟨(.some 92), (.fieldAddr 55 (.tmp 1) 4), 0, "ref.go:36", #[⟨8, .guard⟩], (.some (8, false))⟩,
  ⟨(.some 93), (.load 53 (.tmp 92)), 53, "ref.go:36", #[⟨9, .data⟩, ⟨8, .guard⟩], (.some (8, false))⟩,
  ⟨(.some 94), (.fieldAddr 55 (.tmp 1) 5), 0, "ref.go:36", #[⟨8, .guard⟩], (.some (8, false))⟩,
  ⟨(.some 95), (.load 3 (.tmp 94)), 3, "ref.go:36", #[⟨11, .data⟩, ⟨8, .guard⟩], (.some (8, false))⟩,
  ⟨(.some 96), (.indexAddr 53 (.tmp 93) (.tmp 95)), 0, "ref.go:36", #[⟨10, .data⟩, ⟨12, .data⟩, ⟨8, .guard⟩], (.some (8, false))⟩,
  ⟨(.some 97), (.fieldAddr 65 (.tmp 96) 1), 0, "ref.go:36", #[⟨13, .data⟩, ⟨8, .guard⟩], (.some (8, false))⟩,
  ⟨(.some 98), (.load 3 (.tmp 97)), 3, "ref.go:36", #[⟨14, .data⟩, ⟨8, .guard⟩], (.some (8, false))⟩,
  ⟨(.some 99), (.fieldAddr 55 (.tmp 1) 4), 0, "ref.go:36", #[⟨8, .guard⟩], (.some (8, false))⟩,
  ⟨(.some 100), (.load 53 (.tmp 99)), 53, "ref.go:36", #[⟨16, .data⟩, ⟨8, .guard⟩], (.some (8, false))⟩,
  ⟨(.some 101), (.fieldAddr 55 (.tmp 1) 5), 0, "ref.go:36", #[⟨8, .guard⟩], (.some (8, false))⟩,
  ⟨(.some 102), (.load 3 (.tmp 101)), 3, "ref.go:36", #[⟨18, .data⟩, ⟨8, .guard⟩], (.some (8, false))⟩,
  ⟨(.some 103), (.indexAddr 53 (.tmp 100) (.tmp 102)), 0, "ref.go:36", #[⟨17, .data⟩, ⟨19, .data⟩, ⟨8, .guard⟩], (.some (8, false))⟩,
  ⟨(.some 104), (.fieldAddr 65 (.tmp 103) 2), 0, "ref.go:36", #[⟨20, .data⟩, ⟨8, .guard⟩], (.some (8, false))⟩,
  ⟨(.some 105), (.load 3 (.tmp 104)), 3, "ref.go:36", #[⟨21, .data⟩, ⟨8, .guard⟩], (.some (8, false))⟩,
  ⟨(.some 106), (.binOp .add 3 (.tmp 98) (.tmp 105) 3), 3, "ref.go:36", #[⟨15, .data⟩, ⟨22, .data⟩, ⟨8, .guard⟩], (.some (8, false))⟩,
  ⟨(.some 107), (.fieldAddr 55 (.tmp 1) 2), 0, "ref.go:36", #[⟨8, .guard⟩], (.some (8, false))⟩,
  ⟨(.some 108), (.load 3 (.tmp 107)), 3, "ref.go:36", #[⟨24, .data⟩, ⟨8, .guard⟩], (.some (8, false))⟩,
  ⟨(.some 109), (.binOp .leq 3 (.tmp 106) (.tmp 108) 3), 4, "ref.go:36", #[⟨23, .data⟩, ⟨25, .data⟩, ⟨8, .guard⟩], (.some (8, false))⟩,
  ⟨(.some 110), (.pick (.tmp 91) (.const (.bool true)) (.tmp 109)), 4, "ref.go:36", #[⟨8, .data⟩, ⟨26, .data⟩, ⟨4, .guard⟩], (.some (4, true))⟩,
  ⟨(.some 111), (.pick (.tmp 87) (.tmp 110) (.const (.bool false))), 4, "ref.go:36", #[⟨4, .data⟩, ⟨27, .data⟩], .none⟩,
  ⟨(.some 2), (.assign (.tmp 111)), 4, "ref.go:36", #[⟨28, .data⟩, ⟨8, .chain⟩, ⟨0, .phase⟩, ⟨1, .phase⟩, ⟨2, .phase⟩, ⟨3, .phase⟩, ⟨4, .phase⟩, ⟨5, .phase⟩, ⟨6, .phase⟩, ⟨7, .phase⟩, ⟨8, .phase⟩, ⟨9, .phase⟩, ⟨10, .phase⟩, ⟨11, .phase⟩, ⟨12, .phase⟩, ⟨13, .phase⟩, ⟨14, .phase⟩, ⟨15, .phase⟩, ⟨16, .phase⟩, ⟨17, .phase⟩, ⟨18, .phase⟩, ⟨19, .phase⟩, ⟨20, .phase⟩, ⟨21, .phase⟩, ⟨22, .phase⟩, ⟨23, .phase⟩, ⟨24, .phase⟩, ⟨25, .phase⟩, ⟨26, .phase⟩, ⟨27, .phase⟩, ⟨28, .phase⟩], .none⟩]
def ref11_fields_a14 : RAnn := ⟨[1, 82, 83, 84, 85, 86, 87, 88, 89, 90, 91, 92, 93, 94, 95, 96, 97, 98, 99, 100, 101, 102, 103, 104, 105, 106, 107, 108, 109, 110, 111], []⟩
def ref11_fields_b0 : Code := (.seq (.seq (.region 8 ref11_fields_o8 false) (.cond (.tmp 51) .skip (.exit 2))) (.seq (.block 3 (.seq (.region 10 ref11_fields_o10 true) (.cond (.tmp 62) (.seq (.region 11 ref11_fields_o11 false) .ret) .skip))) (.region 9 ref11_fields_o9 false)))
def ref11_fields_b1 : Code := (.seq (.seq (.region 2 ref11_fields_o2 false) (.cond (.tmp 10) .skip (.exit 0))) (.seq (.block 1 (.seq (.region 4 ref11_fields_o4 false) (.seq (.seq (.region 5 ref11_fields_o5 false) (.cond (.tmp 48) (.seq (.region 6 ref11_fields_o6 false) .ret) .skip)) (.seq (.region 7 ref11_fields_o7 false) (.block 2 (.loop ref11_fields_b0)))))) (.region 3 ref11_fields_o3 false)))
def ref11_fields_c : Code := (.seq (.region 0 ref11_fields_o0 false) (.seq (.seq (.region 1 ref11_fields_o1 false) (.block 0 (.loop ref11_fields_b1))) (.seq (.seq (.region 12 ref11_fields_o12 false) (.cond (.tmp 82) (.seq (.region 13 ref11_fields_o13 false) .ret) .skip)) (.seq (.region 14 ref11_fields_o14 true) .ret))))
def ref11_fields_an : List (Nat × RAnn) := [(0, ref11_fields_a0), (1, ref11_fields_a1), (2, ref11_fields_a2), (3, ref11_fields_a3), (4, ref11_fields_a4), (5, ref11_fields_a5), (6, ref11_fields_a6), (7, ref11_fields_a7), (8, ref11_fields_a8), (9, ref11_fields_a9), (10, ref11_fields_a10), (11, ref11_fields_a11), (12, ref11_fields_a12), (13, ref11_fields_a13), (14, ref11_fields_a14)]
def ref11_above_o0 : Array Oper := #[⟨(.some 3), (.box 25 (.tmp 0)), 0, "ref.go:90", #[], .none⟩,
  ⟨(.some 6), (.assign (.const (.bool false))), 4, "ref.go:90", #[], .none⟩]
def ref11_above_a0 : RAnn := ⟨[0, 6], []⟩
def ref11_above_o1 : Array Oper := #[⟨(.some 7), (.fieldAddr 25 (.tmp 3) 2), 0, "ref.go:91", #[], .none⟩,
  ⟨(.some 8), (.load 22 (.tmp 7)), 22, "ref.go:91", #[⟨0, .data⟩], .none⟩,
  ⟨(.some 9), (.move (.tmp 2)), 3, "ref.go:91", #[], .none⟩,
  ⟨(.some 10), (.indexAddr 22 (.tmp 8) (.tmp 9)), 0, "ref.go:91", #[⟨1, .data⟩, ⟨2, .data⟩], .none⟩,
  ⟨(.some 11), (.fieldAddr 55 (.tmp 10) 1), 0, "ref.go:91", #[⟨3, .data⟩], .none⟩,
  ⟨(.some 12), (.load 3 (.tmp 11)), 3, "ref.go:91", #[⟨4, .data⟩], .none⟩,
  ⟨(.some 2), (.assign (.tmp 12)), 3, "ref.go:91", #[⟨5, .data⟩, ⟨0, .phase⟩, ⟨1, .phase⟩, ⟨2, .phase⟩, ⟨3, .phase⟩, ⟨4, .phase⟩, ⟨5, .phase⟩], .none⟩]
def ref11_above_a1 : RAnn := ⟨[7, 8, 9, 10, 11, 12], []⟩
def ref11_above_o2 : Array Oper := #[⟨(.some 13), (.move (.tmp 2)), 3, "ref.go:91", #[], .none⟩,
  ⟨(.some 14), (.binOp .geq 3 (.tmp 13) (.const (.int .i64 0)) 3), 4, "ref.go:91", #[⟨0, .data⟩], .none⟩]
def ref11_above_a2 : RAnn := ⟨[13], []⟩
def ref11_above_o3 : Array Oper := #[⟨(.some 15), (.fieldAddr 25 (.tmp 3) 2), 0, "ref.go:91", #[], .none⟩,
  ⟨(.some 16), (.load 22 (.tmp 15)), 22, "ref.go:91", #[⟨0, .data⟩], .none⟩,
  ⟨(.some 17), (.move (.tmp 2)), 3, "ref.go:91", #[], .none⟩,
  ⟨(.some 18), (.indexAddr 22 (.tmp 16) (.tmp 17)), 0, "ref.go:91", #[⟨1, .data⟩, ⟨2, .data⟩], .none⟩,
  ⟨(.some 19), (.fieldAddr 55 (.tmp 18) 1), 0, "ref.go:91", #[⟨3, .data⟩], .none⟩,
  ⟨(.some 20), (.load 3 (.tmp 19)), 3, "ref.go:91", #[⟨4, .data⟩], .none⟩,
  ⟨(.some 2), (.assign (.tmp 20)), 3, "ref.go:91", #[⟨5, .data⟩, ⟨0, .phase⟩, ⟨1, .phase⟩, ⟨2, .phase⟩, ⟨3, .phase⟩, ⟨4, .phase⟩, ⟨5, .phase⟩], .none⟩]
def ref11_above_a3 : RAnn := ⟨[15, 16, 17, 18, 19, 20, 23], []⟩
def ref11_above_o4 : Array Oper := #[⟨(.some 21), (.move (.tmp 2)), 3, "ref.go:92", #[], .none⟩,
  ⟨(.some 22), (.move (.tmp 1)), 3, "ref.go:92", #[], .none⟩,
  ⟨(.some 23), (.binOp .eql 3 (.tmp 21) (.tmp 22) 3), 4, "ref.go:92", #[⟨0, .data⟩, ⟨1, .data⟩], .none⟩]
def ref11_above_a4 : RAnn := ⟨[14, 21, 22], []⟩
def ref11_above_o5 : Array Oper := #[⟨(.some 6), (.assign (.const (.bool true))), 4, "ref.go:93", #[], .none⟩]
def ref11_above_a5 : RAnn := ⟨[1, 2, 3, 23], []⟩
def ref11_above_o6 : Array Oper := #[⟨(.some 6), (.assign (.const (.bool false))), 4, "ref.go:96", #[], .none⟩]
def ref11_above_a6 : RAnn := ⟨[1, 2, 3, 14], []⟩
def ref11_above_b0 : Code := (.seq (.seq (.region 2 ref11_above_o2 false) (.cond (.tmp 14) .skip (.exit 0))) (.seq (.block 1 (.seq (.region 4 ref11_above_o4 false) (.cond (.tmp 23) (.seq (.region 5 ref11_above_o5 false) .ret) .skip))) (.region 3 ref11_above_o3 false)))
def ref11_above_c : Code := (.seq (.region 0 ref11_above_o0 false) (.seq (.seq (.region 1 ref11_above_o1 false) (.block 0 (.loop ref11_above_b0))) (.seq (.region 6 ref11_above_o6 false) .ret)))
def ref11_above_an : List (Nat × RAnn) := [(0, ref11_above_a0), (1, ref11_above_a1), (2, ref11_above_a2), (3, ref11_above_a3), (4, ref11_above_a4), (5, ref11_above_a5), (6, ref11_above_a6)]
def ref11_way_o0 : Array Oper := #[⟨(.some 2), (.box 25 (.tmp 0)), 0, "ref.go:80", #[], .none⟩,
  ⟨(.some 4), (.assign (.const (.slice .none 0 0))), 28, "ref.go:80", #[], .none⟩]
def ref11_way_a0 : RAnn := ⟨[0, 4], []⟩
def ref11_way_o1 : Array Oper := #[⟨(.some 5), (.assign (.const (.slice .none 0 0))), 28, "ref.go:81", #[], .none⟩]
def ref11_way_a1 : RAnn := ⟨[], []⟩
def ref11_way_o2 : Array Oper := #[⟨(.some 6), (.move (.tmp 1)), 3, "ref.go:82", #[], .none⟩,
  ⟨(.some 7), (.binOp .geq 3 (.tmp 6) (.const (.int .i64 0)) 3), 4, "ref.go:82", #[⟨0, .data⟩], .none⟩]
def ref11_way_a2 : RAnn := ⟨[6], []⟩
def ref11_way_o3 : Array Oper := #[⟨(.some 8), (.move (.tmp 1)), 3, "ref.go:83", #[], .none⟩,
  ⟨(.some 9), (.buildSlice 28 1 #[(0, (.tmp 8))]), 28, "ref.go:83", #[⟨0, .data⟩], .none⟩,
  ⟨(.some 10), (.move (.tmp 5)), 28, "ref.go:83", #[], .none⟩,
  ⟨(.some 11), (.call ⟨(.builtin .append), #[(.tmp 9), (.tmp 10)], #[28, 28]⟩), 28, "ref.go:83", #[⟨1, .data⟩, ⟨2, .data⟩], .none⟩,
  ⟨(.some 5), (.assign (.tmp 11)), 28, "ref.go:83", #[⟨3, .data⟩, ⟨3, .chain⟩, ⟨0, .phase⟩, ⟨1, .phase⟩, ⟨2, .phase⟩, ⟨3, .phase⟩], .none⟩]
def ref11_way_a3 : RAnn := ⟨[7, 8, 9, 10, 11], [(1, { keep := [0] }), (3, { tk := [9] })]⟩
def ref11_way_o4 : Array Oper := #[⟨(.some 12), (.fieldAddr 25 (.tmp 2) 2), 0, "ref.go:84", #[], .none⟩,
  ⟨(.some 13), (.load 22 (.tmp 12)), 22, "ref.go:84", #[⟨0, .data⟩], .none⟩,
  ⟨(.some 14), (.move (.tmp 1)), 3, "ref.go:84", #[], .none⟩,
  ⟨(.some 15), (.indexAddr 22 (.tmp 13) (.tmp 14)), 0, "ref.go:84", #[⟨1, .data⟩, ⟨2, .data⟩], .none⟩,
  ⟨(.some 16), (.fieldAddr 55 (.tmp 15) 1), 0, "ref.go:84", #[⟨3, .data⟩], .none⟩,
  ⟨(.some 17), (.load 3 (.tmp 16)), 3, "ref.go:84", #[⟨4, .data⟩], .none⟩,
  ⟨(.some 1), (.assign (.tmp 17)), 3, "ref.go:84", #[⟨5, .data⟩, ⟨0, .phase⟩, ⟨1, .phase⟩, ⟨2, .phase⟩, ⟨3, .phase⟩, ⟨4, .phase⟩, ⟨5, .phase⟩], .none⟩]
def ref11_way_a4 : RAnn := ⟨[12, 13, 14, 15, 16, 17], []⟩
def ref11_way_o5 : Array Oper := #[⟨(.some 18), (.move (.tmp 5)), 28, "ref.go:86", #[], .none⟩,
  ⟨(.some 4), (.assign (.tmp 18)), 28, "ref.go:86", #[⟨0, .data⟩, ⟨0, .phase⟩], .none⟩]
def ref11_way_a5 : RAnn := ⟨[1, 2, 5, 7, 18], []⟩
def ref11_way_b0 : Code := (.seq (.seq (.region 2 ref11_way_o2 false) (.cond (.tmp 7) .skip (.exit 0))) (.block 1 (.seq (.region 3 ref11_way_o3 false) (.region 4 ref11_way_o4 false))))
def ref11_way_c : Code := (.seq (.region 0 ref11_way_o0 false) (.seq (.region 1 ref11_way_o1 false) (.seq (.block 0 (.loop ref11_way_b0)) (.seq (.region 5 ref11_way_o5 false) .ret))))
def ref11_way_an : List (Nat × RAnn) := [(0, ref11_way_a0), (1, ref11_way_a1), (2, ref11_way_a2), (3, ref11_way_a3), (4, ref11_way_a4), (5, ref11_way_a5)]
def ref11_Valid_o0 : Array Oper := #[⟨(.some 1), (.box 25 (.tmp 0)), 0, "ref.go:40", #[], .none⟩,
  ⟨(.some 2), (.assign (.const (.bool false))), 4, "ref.go:40", #[], .none⟩]
def ref11_Valid_a0 : RAnn := ⟨[0, 2], []⟩
def ref11_Valid_o1 : Array Oper := #[⟨(.some 9), (.fieldAddr 25 (.tmp 1) 0), 0, "ref.go:41", #[], .none⟩,
  ⟨(.some 10), (.load 9 (.tmp 9)), 9, "ref.go:41", #[⟨0, .data⟩], .none⟩,
  ⟨(.some 11), (.call ⟨(.value (.func 59)), #[(.tmp 10)], #[9]⟩), 4, "ref.go:41", #[⟨1, .data⟩], .none⟩,
  ⟨(.some 12), (.unOp .not 4 (.tmp 11)), 4, "ref.go:41", #[⟨2, .data⟩], .none⟩,
  ⟨(.some 13), (.move (.tmp 12)), 4, "ref.go:41", #[⟨3, .data⟩, ⟨2, .chain⟩], .none⟩,
  ⟨(.some 14), (.fieldAddr 25 (.tmp 1) 1), 0, "ref.go:41", #[⟨4, .guard⟩], (.some (4, false))⟩,
  ⟨(.some 15), (.load 3 (.tmp 14)), 3, "ref.go:41", #[⟨5, .data⟩, ⟨4, .guard⟩], (.some (4, false))⟩,
  ⟨(.some 16), (.binOp .lss 3 (.tmp 15) (.const (.int .i64 1)) 3), 4, "ref.go:41", #[⟨6, .data⟩, ⟨4, .guard⟩], (.some (4, false))⟩,
  ⟨(.some 17), (.pick (.tmp 13) (.const (.bool true)) (.tmp 16)), 4, "ref.go:41", #[⟨4, .data⟩, ⟨7, .data⟩], .none⟩,
  ⟨(.some 18), (.move (.tmp 17)), 4, "ref.go:41", #[⟨8, .data⟩, ⟨4, .chain⟩], .none⟩,
  ⟨(.some 19), (.fieldAddr 25 (.tmp 1) 1), 0, "ref.go:41", #[⟨9, .guard⟩], (.some (9, false))⟩,
  ⟨(.some 20), (.load 3 (.tmp 19)), 3, "ref.go:41", #[⟨10, .data⟩, ⟨9, .guard⟩], (.some (9, false))⟩,
  ⟨(.some 21), (.binOp .gtr 3 (.tmp 20) (.const (.int .i64 4)) 3), 4, "ref.go:41", #[⟨11, .data⟩, ⟨9, .guard⟩], (.some (9, false))⟩,
  ⟨(.some 22), (.pick (.tmp 18) (.const (.bool true)) (.tmp 21)), 4, "ref.go:41", #[⟨9, .data⟩, ⟨12, .data⟩], .none⟩,
  ⟨(.some 23), (.move (.tmp 22)), 4, "ref.go:41", #[⟨13, .data⟩, ⟨9, .chain⟩], .none⟩,
  ⟨(.some 24), (.fieldAddr 25 (.tmp 1) 2), 0, "ref.go:41", #[⟨14, .guard⟩], (.some (14, false))⟩,
  ⟨(.some 25), (.load 22 (.tmp 24)), 22, "ref.go:41", #[⟨15, .data⟩, ⟨14, .guard⟩], (.some (14, false))⟩,
  ⟨(.some 26), (.call ⟨(.builtin .len), #[(.tmp 25)], #[22]⟩), 3, "ref.go:41", #[⟨16, .data⟩, ⟨14, .guard⟩], (.some (14, false))⟩,
  ⟨(.some 27), (.binOp .lss 3 (.tmp 26) (.const (.int .i64 1)) 3), 4, "ref.go:41", #[⟨17, .data⟩, ⟨14, .guard⟩], (.some (14, false))⟩,
  ⟨(.some 28), (.pick (.tmp 23) (.const (.bool true)) (.tmp 27)), 4, "ref.go:41", #[⟨14, .data⟩, ⟨18, .data⟩], .none⟩,
  ⟨(.some 29), (.move (.tmp 28)), 4, "ref.go:41", #[⟨19, .data⟩, ⟨14, .chain⟩], .none⟩,
  ⟨(.some 30), (.fieldAddr 25 (.tmp 1) 2), 0, "ref.go:41", #[⟨20, .guard⟩], (.some (20, false))⟩,
  ⟨(.some 31), (.load 22 (.tmp 30)), 22, "ref.go:41", #[⟨21, .data⟩, ⟨20, .guard⟩], (.some (20, false))⟩,
  ⟨(.some 32), (.call ⟨(.builtin .len), #[(.tmp 31)], #[22]⟩), 3, "ref.go:41", #[⟨22, .data⟩, ⟨20, .guard⟩], (.some (20, false))⟩,
  ⟨(.some 33), (.binOp .gtr 3 (.tmp 32) (.const (.int .i64 8)) 3), 4, "ref.go:41", #[⟨23, .data⟩, ⟨20, .guard⟩], (.some (20, false))⟩,
  ⟨(.some 34), (.pick (.tmp 29) (.const (.bool true)) (.tmp 33)), 4, "ref.go:41", #[⟨20, .data⟩, ⟨24, .data⟩], .none⟩,
  ⟨(.some 35), (.move (.tmp 34)), 4, "ref.go:41", #[⟨25, .data⟩, ⟨20, .chain⟩], .none⟩,
  ⟨(.some 36), (.fieldAddr 25 (.tmp 1) 3), 0, "ref.go:41", #[⟨26, .guard⟩], (.some (26, false))⟩,
  ⟨(.some 37), (.load 23 (.tmp 36)), 23, "ref.go:41", #[⟨27, .data⟩, ⟨26, .guard⟩], (.some (26, false))⟩,
  ⟨(.some 38), (.call ⟨(.builtin .len), #[(.tmp 37)], #[23]⟩), 3, "ref.go:41", #[⟨28, .data⟩, ⟨26, .guard⟩], (.some (26, false))⟩,
  ⟨(.some 39), (.binOp .gtr 3 (.tmp 38) (.const (.int .i64 3)) 3), 4, "ref.go:41", #[⟨29, .data⟩, ⟨26, .guard⟩], (.some (26, false))⟩,
  ⟨(.some 40), (.pick (.tmp 35) (.const (.bool true)) (.tmp 39)), 4, "ref.go:41", #[⟨26, .data⟩, ⟨30, .data⟩], .none⟩]
def ref11_Valid_a1 : RAnn := ⟨[9, 10, 11, 12, 13, 14, 15, 16, 17, 18, 19, 20, 21, 22, 23, 24, 25, 26, 27, 28, 29, 30, 31, 32, 33, 34, 35, 36, 37, 38, 39], []⟩
def ref11_Valid_o2 : Array Oper := #[⟨(.some 2), (.assign (.const (.bool false))), 4, "ref.go:42", #[], .none⟩]
def ref11_Valid_a2 : RAnn := ⟨[1, 40], []⟩
def ref11_Valid_o3 : Array Oper := #[⟨(.some 3), (.assign (.const (.int .i64 0))), 3, "ref.go:44", #[], .none⟩]
def ref11_Valid_a3 : RAnn := ⟨[40], []⟩
def ref11_Valid_o4 : Array Oper := #[⟨(.some 41), (.move (.tmp 3)), 3, "ref.go:44", #[], .none⟩,
  ⟨(.some 42), (.fieldAddr 25 (.tmp 1) 2), 0, "ref.go:44", #[], .none⟩,
  ⟨(.some 43), (.load 22 (.tmp 42)), 22, "ref.go:44", #[⟨1, .data⟩], .none⟩,
  ⟨(.some 44), (.call ⟨(.builtin .len), #[(.tmp 43)], #[22]⟩), 3, "ref.go:44", #[⟨2, .data⟩], .none⟩,
  ⟨(.some 45), (.binOp .lss 3 (.tmp 41) (.tmp 44) 3), 4, "ref.go:44", #[⟨0, .data⟩, ⟨3, .data⟩], .none⟩]
def ref11_Valid_a4 : RAnn := ⟨[41, 42, 43, 44], []⟩
def ref11_Valid_o5 : Array Oper := #[⟨(.some 46), (.move (.tmp 3)), 3, "ref.go:44", #[], .none⟩,
  ⟨(.some 47), (.binOp .add 3 (.tmp 46) (.const (.int .i64 1)) 3), 3, "ref.go:44", #[⟨0, .data⟩], .none⟩,
  ⟨(.some 3), (.assign (.tmp 47)), 3, "ref.go:44", #[⟨1, .data⟩, ⟨0, .phase⟩, ⟨1, .phase⟩], .none⟩]
def ref11_Valid_a5 : RAnn := ⟨[46, 47, 117, 149], []⟩
def ref11_Valid_o6 : Array Oper := #[⟨(.some 48), (.fieldAddr 25 (.tmp 1) 2), 0, "ref.go:45", #[], .none⟩,
  ⟨(.some 49), (.load 22 (.tmp 48)), 22, "ref.go:45", #[⟨0, .data⟩], .none⟩,
  ⟨(.some 50), (.move (.tmp 3)), 3, "ref.go:45", #[], .none⟩,
  ⟨(.some 51), (.indexAddr 22 (.tmp 49) (.tmp 50)), 0, "ref.go:45", #[⟨1, .data⟩, ⟨2, .data⟩], .none⟩,
  ⟨(.some 52), (.load 55 (.tmp 51)), 55, "ref.go:45", #[⟨3, .data⟩], .none⟩,
  ⟨(.some 4), (.alloc 55), 0, "ref.go:45", #[], .none⟩,
  ⟨.none, (.store 55 (.tmp 4) (.tmp 52)), 0, "ref.go:45", #[⟨5, .data⟩, ⟨4, .data⟩, ⟨0, .phase⟩, ⟨1, .phase⟩, ⟨2, .phase⟩, ⟨3, .phase⟩, ⟨4, .phase⟩, ⟨5, .phase⟩], .none⟩]
def ref11_Valid_a6 : RAnn := ⟨[45, 48, 49, 50, 51, 52], []⟩
def ref11_Valid_o7 : Array Oper := #[⟨(.some 53), (.fieldAddr 55 (.tmp 4) 0), 0, "ref.go:46", #[], .none⟩,
  ⟨(.some 54), (.load 9 (.tmp 53)), 9, "ref.go:46", #[⟨0, .data⟩], .none⟩,
  ⟨(.some 55), (.call ⟨(.value (.func 59)), #[(.tmp 54)], #[9]⟩), 4, "ref.go:46", #[⟨1, .data⟩], .none⟩,
  ⟨(.some 56), (.unOp .not 4 (.tmp 55)), 4, "ref.go:46", #[⟨2, .data⟩], .none⟩,
  ⟨(.some 57), (.move (.tmp 56)), 4, "ref.go:46", #[⟨3, .data⟩, ⟨2, .chain⟩], .none⟩,
  ⟨(.some 58), (.fieldAddr 55 (.tmp 4) 2), 0, "ref.go:46", #[⟨4, .guard⟩], (.some (4, false))⟩,
  ⟨(.some 59), (.load 3 (.tmp 58)), 3, "ref.go:46", #[⟨5, .data⟩, ⟨4, .guard⟩], (.some (4, false))⟩,
  ⟨(.some 60), (.binOp .lss 3 (.tmp 59) (.const (.int .i64 1)) 3), 4, "ref.go:46", #[⟨6, .data⟩, ⟨4, .guard⟩], (.some (4, false))⟩,
  ⟨(.some 61), (.pick (.tmp 57) (.const (.bool true)) (.tmp 60)), 4, "ref.go:46", #[⟨4, .data⟩, ⟨7, .data⟩], .none⟩,
  ⟨(.some 62), (.move (.tmp 61)), 4, "ref.go:46", #[⟨8, .data⟩, ⟨4, .chain⟩], .none⟩,
  ⟨(.some 63), (.fieldAddr 55 (.tmp 4) 2), 0, "ref.go:46", #[⟨9, .guard⟩], (.some (9, false))⟩,
  ⟨(.some 64), (.load 3 (.tmp 63)), 3, "ref.go:46", #[⟨10, .data⟩, ⟨9, .guard⟩], (.some (9, false))⟩,
  ⟨(.some 65), (.fieldAddr 55 (.tmp 4) 3), 0, "ref.go:46", #[⟨9, .guard⟩], (.some (9, false))⟩,
  ⟨(.some 66), (.load 3 (.tmp 65)), 3, "ref.go:46", #[⟨12, .data⟩, ⟨9, .guard⟩], (.some (9, false))⟩,
  ⟨(.some 67), (.binOp .gtr 3 (.tmp 64) (.tmp 66) 3), 4, "ref.go:46", #[⟨11, .data⟩, ⟨13, .data⟩, ⟨9, .guard⟩], (.some (9, false))⟩,
  ⟨(.some 68), (.pick (.tmp 62) (.const (.bool true)) (.tmp 67)), 4, "ref.go:46", #[⟨9, .data⟩, ⟨14, .data⟩], .none⟩,
  ⟨(.some 69), (.move (.tmp 68)), 4, "ref.go:46", #[⟨15, .data⟩, ⟨9, .chain⟩], .none⟩,
  ⟨(.some 70), (.fieldAddr 55 (.tmp 4) 3), 0, "ref.go:46", #[⟨16, .guard⟩], (.some (16, false))⟩,
  ⟨(.some 71), (.load 3 (.tmp 70)), 3, "ref.go:46", #[⟨17, .data⟩, ⟨16, .guard⟩], (.some (16, false))⟩,
  ⟨(.some 72), (.binOp .gtr 3 (.tmp 71) (.const (.int .i64 40)) 3), 4, "ref.go:46", #[⟨18, .data⟩, ⟨16, .guard⟩], (.some (16, false))⟩,
  ⟨(.some 73), (.pick (.tmp 69) (.const (.bool true)) (.tmp 72)), 4, "ref.go:46", #[⟨16, .data⟩, ⟨19, .data⟩], .none⟩,
  ⟨(.some 74), (.move (.tmp 73)), 4, "ref.go:46", #[⟨20, .data⟩, ⟨16, .chain⟩], .none⟩,
  ⟨(.some 75), (.load 55 (.tmp 4)), 55, "ref.go:46", #[⟨21, .guard⟩], (.some (21, false))⟩,
  ⟨(.some 76), (.call ⟨(.value (.func 60)), #[(.tmp 75)], #[55]⟩), 4, "ref.go:46", #[⟨22, .data⟩, ⟨21, .chain⟩, ⟨21, .guard⟩], (.some (21, false))⟩,
  ⟨(.some 77), (.unOp .not 4 (.tmp 76)), 4, "ref.go:46", #[⟨23, .data⟩, ⟨21, .guard⟩], (.some (21, false))⟩,
  ⟨(.some 78), (.pick (.tmp 74) (.const (.bool true)) (.tmp 77)), 4, "ref.go:46", #[⟨21, .data⟩, ⟨24, .data⟩], .none⟩]
def ref11_Valid_a7 : RAnn := ⟨[53, 54, 55, 56, 57, 58, 59, 60, 61, 62, 63, 64, 65, 66, 67, 68, 69, 70, 71, 72, 73, 74, 75, 76, 77], []⟩
def ref11_Valid_o8 : Array Oper := #[⟨(.some 2), (.assign (.const (.bool false))), 4, "ref.go:47", #[], .none⟩]
def ref11_Valid_a8 : RAnn := ⟨[1, 3, 4, 78], []⟩
def ref11_Valid_o9 : Array Oper := #[⟨(.some 5), (.assign (.const (.int .i64 0))), 3, "ref.go:49", #[], .none⟩]
def ref11_Valid_a9 : RAnn := ⟨[78], []⟩
def ref11_Valid_o10 : Array Oper := #[⟨(.some 79), (.move (.tmp 5)), 3, "ref.go:49", #[], .none⟩,
  ⟨(.some 80), (.move (.tmp 3)), 3, "ref.go:49", #[], .none⟩,
  ⟨(.some 81), (.binOp .lss 3 (.tmp 79) (.tmp 80) 3), 4, "ref.go:49", #[⟨0, .data⟩, ⟨1, .data⟩], .none⟩]
def ref11_Valid_a10 : RAnn := ⟨[79, 80], []⟩
def ref11_Valid_o11 : Array Oper := #[⟨(.some 82), (.move (.tmp 5)), 3, "ref.go:49", #[], .none⟩,
  ⟨(.some 83), (.binOp .add 3 (.tmp 82) (.const (.int .i64 1)) 3), 3, "ref.go:49", #[⟨0, .data⟩], .none⟩,
  ⟨(.some 5), (.assign (.tmp 83)), 3, "ref.go:49", #[⟨1, .data⟩, ⟨0, .phase⟩, ⟨1, .phase⟩], .none⟩]
def ref11_Valid_a11 : RAnn := ⟨[82, 83, 92], []⟩
def ref11_Valid_o12 : Array Oper := #[⟨(.some 84), (.fieldAddr 25 (.tmp 1) 2), 0, "ref.go:50", #[], .none⟩,
  ⟨(.some 85), (.load 22 (.tmp 84)), 22, "ref.go:50", #[⟨0, .data⟩], .none⟩,
  ⟨(.some 86), (.move (.tmp 5)), 3, "ref.go:50", #[], .none⟩,
  ⟨(.some 87), (.indexAddr 22 (.tmp 85) (.tmp 86)), 0, "ref.go:50", #[⟨1, .data⟩, ⟨2, .data⟩], .none⟩,
  ⟨(.some 88), (.fieldAddr 55 (.tmp 87) 0), 0, "ref.go:50", #[⟨3, .data⟩], .none⟩,
  ⟨(.some 89), (.load 9 (.tmp 88)), 9, "ref.go:50", #[⟨4, .data⟩], .none⟩,
  ⟨(.some 90), (.fieldAddr 55 (.tmp 4) 0), 0, "ref.go:50", #[], .none⟩,
  ⟨(.some 91), (.load 9 (.tmp 90)), 9, "ref.go:50", #[⟨6, .data⟩], .none⟩,
  ⟨(.some 92), (.binOp .eql 9 (.tmp 89) (.tmp 91) 9), 4, "ref.go:50", #[⟨5, .data⟩, ⟨7, .data⟩], .none⟩]
def ref11_Valid_a12 : RAnn := ⟨[81, 84, 85, 86, 87, 88, 89, 90, 91], []⟩
def ref11_Valid_o13 : Array Oper := #[⟨(.some 2), (.assign (.const (.bool false))), 4, "ref.go:51", #[], .none⟩]
def ref11_Valid_a13 : RAnn := ⟨[1, 3, 4, 5, 92], []⟩
def ref11_Valid_o14 : Array Oper := #[⟨(.some 93), (.move (.tmp 3)), 3, "ref.go:54", #[], .none⟩,
  ⟨(.some 94), (.binOp .eql 3 (.tmp 93) (.const (.int .i64 0)) 3), 4, "ref.go:54", #[⟨0, .data⟩], .none⟩]
def ref11_Valid_a14 : RAnn := ⟨[5, 81, 93], []⟩
def ref11_Valid_o15 : Array Oper := #[⟨(.some 95), (.fieldAddr 55 (.tmp 4) 1), 0, "ref.go:55", #[], .none⟩,
  ⟨(.some 96), (.load 3 (.tmp 95)), 3, "ref.go:55", #[⟨0, .data⟩], .none⟩,
  ⟨(.some 97), (.binOp .neq 3 (.tmp 96) (.const (.int .i64 (-1))) 3), 4, "ref.go:55", #[⟨1, .data⟩], .none⟩,
  ⟨(.some 98), (.move (.tmp 97)), 4, "ref.go:55", #[⟨2, .data⟩], .none⟩,
  ⟨(.some 99), (.fieldAddr 55 (.tmp 4) 5), 0, "ref.go:55", #[⟨3, .guard⟩], (.some (3, false))⟩,
  ⟨(.some 100), (.load 3 (.tmp 99)), 3, "ref.go:55", #[⟨4, .data⟩, ⟨3, .guard⟩], (.some (3, false))⟩,
  ⟨(.some 101), (.binOp .lss 3 (.tmp 100) (.const (.int .i64 0)) 3), 4, "ref.go:55", #[⟨5, .data⟩, ⟨3, .guard⟩], (.some (3, false))⟩,
  ⟨(.some 102), (.pick (.tmp 98) (.const (.bool true)) (.tmp 101)), 4, "ref.go:55", #[⟨3, .data⟩, ⟨6, .data⟩], .none⟩,
  ⟨(.some 103), (.move (.tmp 102)), 4, "ref.go:55", #[⟨7, .data⟩, ⟨3, .chain⟩], .none⟩,
  ⟨(.some 104), (.fieldAddr 55 (.tmp 4) 6), 0, "ref.go:55", #[⟨8, .guard⟩], (.some (8, false))⟩,
  ⟨(.some 105), (.load 4 (.tmp 104)), 4, "ref.go:55", #[⟨9, .data⟩, ⟨8, .guard⟩], (.some (8, false))⟩,
  ⟨(.some 106), (.unOp .not 4 (.tmp 105)), 4, "ref.go:55", #[⟨10, .data⟩, ⟨8, .guard⟩], (.some (8, false))⟩,
  ⟨(.some 107), (.pick (.tmp 103) (.const (.bool true)) (.tmp 106)), 4, "ref.go:55", #[⟨8, .data⟩, ⟨11, .data⟩], .none⟩,
  ⟨(.some 108), (.move (.tmp 107)), 4, "ref.go:55", #[⟨12, .data⟩, ⟨8, .chain⟩], .none⟩,
  ⟨(.some 109), (.fieldAddr 55 (.tmp 4) 4), 0, "ref.go:55", #[⟨13, .guard⟩], (.some (13, false))⟩,
  ⟨(.some 110), (.load 53 (.tmp 109)), 53, "ref.go:55", #[⟨14, .data⟩, ⟨13, .guard⟩], (.some (13, false))⟩,
  ⟨(.some 111), (.fieldAddr 55 (.tmp 4) 5), 0, "ref.go:55", #[⟨13, .guard⟩], (.some (13, false))⟩,
  ⟨(.some 112), (.load 3 (.tmp 111)), 3, "ref.go:55", #[⟨16, .data⟩, ⟨13, .guard⟩], (.some (13, false))⟩,
  ⟨(.some 113), (.indexAddr 53 (.tmp 110) (.tmp 112)), 0, "ref.go:55", #[⟨15, .data⟩, ⟨17, .data⟩, ⟨13, .guard⟩], (.some (13, false))⟩,
  ⟨(.some 114), (.fieldAddr 65 (.tmp 113) 2), 0, "ref.go:55", #[⟨18, .data⟩, ⟨13, .guard⟩], (.some (13, false))⟩,
  ⟨(.some 115), (.load 3 (.tmp 114)), 3, "ref.go:55", #[⟨19, .data⟩, ⟨13, .guard⟩], (.some (13, false))⟩,
  ⟨(.some 116), (.binOp .gtr 3 (.tmp 115) (.const (.int .i64 24)) 3), 4, "ref.go:55", #[⟨20, .data⟩, ⟨13, .guard⟩], (.some (13, false))⟩,
  ⟨(.some 117), (.pick (.tmp 108) (.const (.bool true)) (.tmp 116)), 4, "ref.go:55", #[⟨13, .data⟩, ⟨21, .data⟩], .none⟩]
def ref11_Valid_a15 : RAnn := ⟨[4, 94, 95, 96, 97, 98, 99, 100, 101, 102, 103, 104, 105, 106, 107, 108, 109, 110, 111, 112, 113, 114, 115, 116], []⟩
def ref11_Valid_o16 : Array Oper := #[⟨(.some 2), (.assign (.const (.bool false))), 4, "ref.go:56", #[], .none⟩]
def ref11_Valid_a16 : RAnn := ⟨[1, 3, 117], []⟩
def ref11_Valid_o17 : Array Oper := #[⟨(.some 118), (.fieldAddr 55 (.tmp 4) 1), 0, "ref.go:61", #[], .none⟩,
  ⟨(.some 119), (.load 3 (.tmp 118)), 3, "ref.go:61", #[⟨0, .data⟩], .none⟩,
  ⟨(.some 120), (.binOp .lss 3 (.tmp 119) (.const (.int .i64 0)) 3), 4, "ref.go:61", #[⟨1, .data⟩], .none⟩,
  ⟨(.some 121), (.move (.tmp 120)), 4, "ref.go:61", #[⟨2, .data⟩], .none⟩,
  ⟨(.some 122), (.fieldAddr 55 (.tmp 4) 1), 0, "ref.go:61", #[⟨3, .guard⟩], (.some (3, false))⟩,
  ⟨(.some 123), (.load 3 (.tmp 122)), 3, "ref.go:61", #[⟨4, .data⟩, ⟨3, .guard⟩], (.some (3, false))⟩,
  ⟨(.some 124), (.move (.tmp 3)), 3, "ref.go:61", #[⟨3, .guard⟩], (.some (3, false))⟩,
  ⟨(.some 125), (.binOp .geq 3 (.tmp 123) (.tmp 124) 3), 4, "ref.go:61", #[⟨5, .data⟩, ⟨6, .data⟩, ⟨3, .guard⟩], (.some (3, false))⟩,
  ⟨(.some 126), (.pick (.tmp 121) (.const (.bool true)) (.tmp 125)), 4, "ref.go:61", #[⟨3, .data⟩, ⟨7, .data⟩], .none⟩,
  ⟨(.some 127), (.move (.tmp 126)), 4, "ref.go:61", #[⟨8, .data⟩, ⟨3, .chain⟩], .none⟩,
  ⟨(.some 128), (.fieldAddr 55 (.tmp 4) 1), 0, "ref.go:61", #[⟨9, .guard⟩], (.some (9, false))⟩,
  ⟨(.some 129), (.load 3 (.tmp 128)), 3, "ref.go:61", #[⟨10, .data⟩, ⟨9, .guard⟩], (.some (9, false))⟩,
  ⟨(.some 130), (.move (.tmp 3)), 3, "ref.go:61", #[⟨9, .guard⟩], (.some (9, false))⟩,
  ⟨(.some 131), (.binOp .sub 3 (.tmp 130) (.const (.int .i64 1)) 3), 3, "ref.go:61", #[⟨12, .data⟩, ⟨9, .guard⟩], (.some (9, false))⟩,
  ⟨(.some 132), (.binOp .neq 3 (.tmp 129) (.tmp 131) 3), 4, "ref.go:61", #[⟨11, .data⟩, ⟨13, .data⟩, ⟨9, .guard⟩], (.some (9, false))⟩,
  ⟨(.some 133), (.move (.tmp 132)), 4, "ref.go:61", #[⟨14, .data⟩, ⟨9, .chain⟩, ⟨9, .guard⟩], (.some (9, false))⟩,
  ⟨(.some 134), (.load 25 (.tmp 1)), 25, "ref.go:61", #[⟨15, .guard⟩], (.some (15, true))⟩,
  ⟨(.some 135), (.fieldAddr 55 (.tmp 4) 1), 0, "ref.go:61", #[⟨15, .guard⟩], (.some (15, true))⟩,
  ⟨(.some 136), (.load 3 (.tmp 135)), 3, "ref.go:61", #[⟨17, .data⟩, ⟨15, .guard⟩], (.some (15, true))⟩,
  ⟨(.some 137), (.move (.tmp 3)), 3, "ref.go:61", #[⟨15, .guard⟩], (.some (15, true))⟩,
  ⟨(.some 138), (.binOp .sub 3 (.tmp 137) (.const (.int .i64 1)) 3), 3, "ref.go:61", #[⟨19, .data⟩, ⟨15, .guard⟩], (.some (15, true))⟩,
  ⟨(.some 139), (.call ⟨(.value (.func 43)), #[(.tmp 134), (.tmp 136), (.tmp 138)], #[25, 3, 3]⟩), 4, "ref.go:61", #[⟨16, .data⟩, ⟨18, .data⟩, ⟨20, .data⟩, ⟨15, .chain⟩, ⟨15, .guard⟩], (.some (15, true))⟩,
  ⟨(.some 140), (.unOp .not 4 (.tmp 139)), 4, "ref.go:61", #[⟨21, .data⟩, ⟨15, .guard⟩], (.some (15, true))⟩,
  ⟨(.some 141), (.pick (.tmp 133) (.tmp 140) (.const (.bool false))), 4, "ref.go:61", #[⟨15, .data⟩, ⟨22, .data⟩, ⟨9, .guard⟩], (.some (9, false))⟩,
  ⟨(.some 142), (.pick (.tmp 127) (.const (.bool true)) (.tmp 141)), 4, "ref.go:61", #[⟨9, .data⟩, ⟨23, .data⟩], .none⟩,
  ⟨(.some 143), (.move (.tmp 142)), 4, "ref.go:61", #[⟨24, .data⟩, ⟨21, .chain⟩], .none⟩,
  ⟨(.some 144), (.load 25 (.tmp 1)), 25, "ref.go:61", #[⟨25, .guard⟩], (.some (25, false))⟩,
  ⟨(.some 145), (.move (.tmp 3)), 3, "ref.go:61", #[⟨25, .guard⟩], (.some (25, false))⟩,
  ⟨(.some 146), (.call ⟨(.value (.func 41)), #[(.tmp 144), (.tmp 145)], #[25, 3]⟩), 28, "ref.go:61", #[⟨26, .data⟩, ⟨27, .data⟩, ⟨25, .chain⟩, ⟨25, .guard⟩], (.some (25, false))⟩,
  ⟨(.some 147), (.call ⟨(.builtin .len), #[(.tmp 146)], #[28]⟩), 3, "ref.go:61", #[⟨28, .data⟩, ⟨25, .guard⟩], (.some (25, false))⟩,
  ⟨(.some 148), (.binOp .gtr 3 (.tmp 147) (.const (.int .i64 5)) 3), 4, "ref.go:61", #[⟨29, .data⟩, ⟨25, .guard⟩], (.some (25, false))⟩,
  ⟨(.some 149), (.pick (.tmp 143) (.const (.bool true)) (.tmp 148)), 4, "ref.go:61", #[⟨25, .data⟩, ⟨30, .data⟩], .none⟩]
def ref11_Valid_a17 : RAnn := ⟨[4, 94, 118, 119, 120, 121, 122, 123, 124, 125, 126, 127, 128, 129, 130, 131, 132, 133, 134, 135, 136, 137, 138, 139, 140, 141, 142, 143, 144, 145, 146, 147, 148], []⟩
def ref11_Valid_o18 : Array Oper := #[⟨(.some 2), (.assign (.const (.bool false))), 4, "ref.go:62", #[], .none⟩]
def ref11_Valid_a18 : RAnn := ⟨[1, 3, 149], []⟩
def ref11_Valid_o19 : Array Oper := #[⟨(.some 6), (.assign (.const (.int .i64 0))), 3, "ref.go:65", #[], .none⟩]
def ref11_Valid_a19 : RAnn := ⟨[3, 45], []⟩
def ref11_Valid_o20 : Array Oper := #[⟨(.some 150), (.move (.tmp 6)), 3, "ref.go:65", #[], .none⟩,
  ⟨(.some 151), (.fieldAddr 25 (.tmp 1) 3), 0, "ref.go:65", #[], .none⟩,
  ⟨(.some 152), (.load 23 (.tmp 151)), 23, "ref.go:65", #[⟨1, .data⟩], .none⟩,
  ⟨(.some 153), (.call ⟨(.builtin .len), #[(.tmp 152)], #[23]⟩), 3, "ref.go:65", #[⟨2, .data⟩], .none⟩,
  ⟨(.some 154), (.binOp .lss 3 (.tmp 150) (.tmp 153) 3), 4, "ref.go:65", #[⟨0, .data⟩, ⟨3, .data⟩], .none⟩]
def ref11_Valid_a20 : RAnn := ⟨[150, 151, 152, 153], []⟩
def ref11_Valid_o21 : Array Oper := #[⟨(.some 155), (.move (.tmp 6)), 3, "ref.go:65", #[], .none⟩,
  ⟨(.some 156), (.binOp .add 3 (.tmp 155) (.const (.int .i64 1)) 3), 3, "ref.go:65", #[⟨0, .data⟩], .none⟩,
  ⟨(.some 6), (.assign (.tmp 156)), 3, "ref.go:65", #[⟨1, .data⟩, ⟨0, .phase⟩, ⟨1, .phase⟩], .none⟩]
def ref11_Valid_a21 : RAnn := ⟨[7, 8, 155, 156, 220], []⟩
def ref11_Valid_o22 : Array Oper := #[⟨(.some 157), (.fieldAddr 25 (.tmp 1) 3), 0, "ref.go:66", #[], .none⟩,
  ⟨(.some 158), (.load 23 (.tmp 157)), 23, "ref.go:66", #[⟨0, .data⟩], .none⟩,
  ⟨(.some 159), (.move (.tmp 6)), 3, "ref.go:66", #[], .none⟩,
  ⟨(.some 160), (.indexAddr 23 (.tmp 158) (.tmp 159)), 0, "ref.go:66", #[⟨1, .data⟩, ⟨2, .data⟩], .none⟩,
  ⟨(.some 161), (.load 69 (.tmp 160)), 69, "ref.go:66", #[⟨3, .data⟩], .none⟩,
  ⟨(.some 7), (.alloc 69), 0, "ref.go:66", #[], .none⟩,
  ⟨.none, (.store 69 (.tmp 7) (.tmp 161)), 0, "ref.go:66", #[⟨5, .data⟩, ⟨4, .data⟩, ⟨0, .phase⟩, ⟨1, .phase⟩, ⟨2, .phase⟩, ⟨3, .phase⟩, ⟨4, .phase⟩, ⟨5, .phase⟩], .none⟩]
def ref11_Valid_a22 : RAnn := ⟨[154, 157, 158, 159, 160, 161], []⟩
def ref11_Valid_o23 : Array Oper := #[⟨(.some 162), (.fieldAddr 69 (.tmp 7) 0), 0, "ref.go:67", #[], .none⟩,
  ⟨(.some 163), (.load 9 (.tmp 162)), 9, "ref.go:67", #[⟨0, .data⟩], .none⟩,
  ⟨(.some 164), (.call ⟨(.value (.func 59)), #[(.tmp 163)], #[9]⟩), 4, "ref.go:67", #[⟨1, .data⟩], .none⟩,
  ⟨(.some 165), (.unOp .not 4 (.tmp 164)), 4, "ref.go:67", #[⟨2, .data⟩], .none⟩,
  ⟨(.some 166), (.move (.tmp 165)), 4, "ref.go:67", #[⟨3, .data⟩, ⟨2, .chain⟩], .none⟩,
  ⟨(.some 167), (.fieldAddr 69 (.tmp 7) 1), 0, "ref.go:67", #[⟨4, .guard⟩], (.some (4, false))⟩,
  ⟨(.some 168), (.load 3 (.tmp 167)), 3, "ref.go:67", #[⟨5, .data⟩, ⟨4, .guard⟩], (.some (4, false))⟩,
  ⟨(.some 169), (.binOp .lss 3 (.tmp 168) (.const (.int .i64 0)) 3), 4, "ref.go:67", #[⟨6, .data⟩, ⟨4, .guard⟩], (.some (4, false))⟩,
  ⟨(.some 170), (.pick (.tmp 166) (.const (.bool true)) (.tmp 169)), 4, "ref.go:67", #[⟨4, .data⟩, ⟨7, .data⟩], .none⟩,
  ⟨(.some 171), (.move (.tmp 170)), 4, "ref.go:67", #[⟨8, .data⟩, ⟨4, .chain⟩], .none⟩,
  ⟨(.some 172), (.fieldAddr 69 (.tmp 7) 1), 0, "ref.go:67", #[⟨9, .guard⟩], (.some (9, false))⟩,
  ⟨(.some 173), (.load 3 (.tmp 172)), 3, "ref.go:67", #[⟨10, .data⟩, ⟨9, .guard⟩], (.some (9, false))⟩,
  ⟨(.some 174), (.fieldAddr 25 (.tmp 1) 2), 0, "ref.go:67", #[⟨9, .guard⟩], (.some (9, false))⟩,
  ⟨(.some 175), (.load 22 (.tmp 174)), 22, "ref.go:67", #[⟨12, .data⟩, ⟨9, .guard⟩], (.some (9, false))⟩,
  ⟨(.some 176), (.call ⟨(.builtin .len), #[(.tmp 175)], #[22]⟩), 3, "ref.go:67", #[⟨13, .data⟩, ⟨9, .guard⟩], (.some (9, false))⟩,
  ⟨(.some 177), (.binOp .geq 3 (.tmp 173) (.tmp 176) 3), 4, "ref.go:67", #[⟨11, .data⟩, ⟨14, .data⟩, ⟨9, .guard⟩], (.some (9, false))⟩,
  ⟨(.some 178), (.pick (.tmp 171) (.const (.bool true)) (.tmp 177)), 4, "ref.go:67", #[⟨9, .data⟩, ⟨15, .data⟩], .none⟩,
  ⟨(.some 179), (.move (.tmp 178)), 4, "ref.go:67", #[⟨16, .data⟩, ⟨9, .chain⟩], .none⟩,
  ⟨(.some 180), (.fieldAddr 69 (.tmp 7) 2), 0, "ref.go:67", #[⟨17, .guard⟩], (.some (17, false))⟩,
  ⟨(.some 181), (.load 3 (.tmp 180)), 3, "ref.go:67", #[⟨18, .data⟩, ⟨17, .guard⟩], (.some (17, false))⟩,
  ⟨(.some 182), (.binOp .lss 3 (.tmp 181) (.const (.int .i64 0)) 3), 4, "ref.go:67", #[⟨19, .data⟩, ⟨17, .guard⟩], (.some (17, false))⟩,
  ⟨(.some 183), (.pick (.tmp 179) (.const (.bool true)) (.tmp 182)), 4, "ref.go:67", #[⟨17, .data⟩, ⟨20, .data⟩], .none⟩,
  ⟨(.some 184), (.move (.tmp 183)), 4, "ref.go:67", #[⟨21, .data⟩, ⟨17, .chain⟩], .none⟩,
  ⟨(.some 185), (.fieldAddr 69 (.tmp 7) 2), 0, "ref.go:67", #[⟨22, .guard⟩], (.some (22, false))⟩,
  ⟨(.some 186), (.load 3 (.tmp 185)), 3, "ref.go:67", #[⟨23, .data⟩, ⟨22, .guard⟩], (.some (22, false))⟩,
  ⟨(.some 187), (.fieldAddr 25 (.tmp 1) 2), 0, "ref.go:67", #[⟨22, .guard⟩], (.some (22, false))⟩,
  ⟨(.some 188), (.load 22 (.tmp 187)), 22, "ref.go:67", #[⟨25, .data⟩, ⟨22, .guard⟩], (.some (22, false))⟩,
  ⟨(.some 189), (.fieldAddr 69 (.tmp 7) 1), 0, "ref.go:67", #[⟨22, .guard⟩], (.some (22, false))⟩,
  ⟨(.some 190), (.load 3 (.tmp 189)), 3, "ref.go:67", #[⟨27, .data⟩, ⟨22, .guard⟩], (.some (22, false))⟩,
  ⟨(.some 191), (.indexAddr 22 (.tmp 188) (.tmp 190)), 0, "ref.go:67", #[⟨26, .data⟩, ⟨28, .data⟩, ⟨22, .guard⟩], (.some (22, false))⟩,
  ⟨(.some 192), (.fieldAddr 55 (.tmp 191) 4), 0, "ref.go:67", #[⟨29, .data⟩, ⟨22, .guard⟩], (.some (22, false))⟩,
  ⟨(.some 193), (.load 53 (.tmp 192)), 53, "ref.go:67", #[⟨30, .data⟩, ⟨22, .guard⟩], (.some (22, false))⟩,
  ⟨(.some 194), (.call ⟨(.builtin .len), #[(.tmp 193)], #[53]⟩), 3, "ref.go:67", #[⟨31, .data⟩, ⟨22, .guard⟩], (.some (22, false))⟩,
  ⟨(.some 195), (.binOp .geq 3 (.tmp 186) (.tmp 194) 3), 4, "ref.go:67", #[⟨24, .data⟩, ⟨32, .data⟩, ⟨22, .guard⟩], (.some (22, false))⟩,
  ⟨(.some 196), (.pick (.tmp 184) (.const (.bool true)) (.tmp 195)), 4, "ref.go:67", #[⟨22, .data⟩, ⟨33, .data⟩], .none⟩,
  ⟨(.some 197), (.move (.tmp 196)), 4, "ref.go:67", #[⟨34, .data⟩, ⟨22, .chain⟩], .none⟩,
  ⟨(.some 198), (.fieldAddr 25 (.tmp 1) 2), 0, "ref.go:67", #[⟨35, .guard⟩], (.some (35, false))⟩,
  ⟨(.some 199), (.load 22 (.tmp 198)), 22, "ref.go:67", #[⟨36, .data⟩, ⟨35, .guard⟩], (.some (35, false))⟩,
  ⟨(.some 200), (.fieldAddr 69 (.tmp 7) 1), 0, "ref.go:67", #[⟨35, .guard⟩], (.some (35, false))⟩,
  ⟨(.some 201), (.load 3 (.tmp 200)), 3, "ref.go:67", #[⟨38, .data⟩, ⟨35, .guard⟩], (.some (35, false))⟩,
  ⟨(.some 202), (.indexAddr 22 (.tmp 199) (.tmp 201)), 0, "ref.go:67", #[⟨37, .data⟩, ⟨39, .data⟩, ⟨35, .guard⟩], (.some (35, false))⟩,
  ⟨(.some 203), (.fieldAddr 55 (.tmp 202) 4), 0, "ref.go:67", #[⟨40, .data⟩, ⟨35, .guard⟩], (.some (35, false))⟩,
  ⟨(.some 204), (.load 53 (.tmp 203)), 53, "ref.go:67", #[⟨41, .data⟩, ⟨35, .guard⟩], (.some (35, false))⟩,
  ⟨(.some 205), (.fieldAddr 69 (.tmp 7) 2), 0, "ref.go:67", #[⟨35, .guard⟩], (.some (35, false))⟩,
  ⟨(.some 206), (.load 3 (.tmp 205)), 3, "ref.go:67", #[⟨43, .data⟩, ⟨35, .guard⟩], (.some (35, false))⟩,
  ⟨(.some 207), (.indexAddr 53 (.tmp 204) (.tmp 206)), 0, "ref.go:67", #[⟨42, .data⟩, ⟨44, .data⟩, ⟨35, .guard⟩], (.some (35, false))⟩,
  ⟨(.some 208), (.fieldAddr 65 (.tmp 207) 2), 0, "ref.go:67", #[⟨45, .data⟩, ⟨35, .guard⟩], (.some (35, false))⟩,
  ⟨(.some 209), (.load 3 (.tmp 208)), 3, "ref.go:67", #[⟨46, .data⟩, ⟨35, .guard⟩], (.some (35, false))⟩,
  ⟨(.some 210), (.binOp .gtr 3 (.tmp 209) (.const (.int .i64 20)) 3), 4, "ref.go:67", #[⟨47, .data⟩, ⟨35, .guard⟩], (.some (35, false))⟩,
  ⟨(.some 211), (.pick (.tmp 197) (.const (.bool true)) (.tmp 210)), 4, "ref.go:67", #[⟨35, .data⟩, ⟨48, .data⟩], .none⟩,
  ⟨(.some 212), (.move (.tmp 211)), 4, "ref.go:67", #[⟨49, .data⟩, ⟨35, .chain⟩], .none⟩,
  ⟨(.some 213), (.fieldAddr 69 (.tmp 7) 3), 0, "ref.go:67", #[⟨50, .guard⟩], (.some (50, false))⟩,
  ⟨(.some 214), (.load 9 (.tmp 213)), 9, "ref.go:67", #[⟨51, .data⟩, ⟨50, .guard⟩], (.some (50, false))⟩,
  ⟨(.some 215), (.call ⟨(.builtin .len), #[(.tmp 214)], #[9]⟩), 3, "ref.go:67", #[⟨52, .data⟩, ⟨50, .guard⟩], (.some (50, false))⟩,
  ⟨(.some 216), (.binOp .gtr 3 (.tmp 215) (.const (.int .i64 1)) 3), 4, "ref.go:67", #[⟨53, .data⟩, ⟨50, .guard⟩], (.some (50, false))⟩,
  ⟨(.some 217), (.pick (.tmp 212) (.const (.bool true)) (.tmp 216)), 4, "ref.go:67", #[⟨50, .data⟩, ⟨54, .data⟩], .none⟩]
def ref11_Valid_a23 : RAnn := ⟨[162, 163, 164, 165, 166, 167, 168, 169, 170, 171, 172, 173, 174, 175, 176, 177, 178, 179, 180, 181, 182, 183, 184, 185, 186, 187, 188, 189, 190, 191, 192, 193, 194, 195, 196, 197, 198, 199, 200, 201, 202, 203, 204, 205, 206, 207, 208, 209, 210, 211, 212, 213, 214, 215, 216], []⟩
def ref11_Valid_o24 : Array Oper := #[⟨(.some 2), (.assign (.const (.bool false))), 4, "ref.go:68", #[], .none⟩]
def ref11_Valid_a24 : RAnn := ⟨[1, 6, 7, 217], []⟩
def ref11_Valid_o25 : Array Oper := #[⟨(.some 8), (.assign (.const (.int .i64 0))), 3, "ref.go:70", #[], .none⟩]
def ref11_Valid_a25 : RAnn := ⟨[217], []⟩
def ref11_Valid_o26 : Array Oper := #[⟨(.some 218), (.move (.tmp 8)), 3, "ref.go:70", #[], .none⟩,
  ⟨(.some 219), (.move (.tmp 6)), 3, "ref.go:70", #[], .none⟩,
  ⟨(.some 220), (.binOp .lss 3 (.tmp 218) (.tmp 219) 3), 4, "ref.go:70", #[⟨0, .data⟩, ⟨1, .data⟩], .none⟩]
def ref11_Valid_a26 : RAnn := ⟨[218, 219], []⟩
def ref11_Valid_o27 : Array Oper := #[⟨(.some 221), (.move (.tmp 8)), 3, "ref.go:70", #[], .none⟩,
  ⟨(.some 222), (.binOp .add 3 (.tmp 221) (.const (.int .i64 1)) 3), 3, "ref.go:70", #[⟨0, .data⟩], .none⟩,
  ⟨(.some 8), (.assign (.tmp 222)), 3, "ref.go:70", #[⟨1, .data⟩, ⟨0, .phase⟩, ⟨1, .phase⟩], .none⟩]
def ref11_Valid_a27 : RAnn := ⟨[221, 222, 231], []⟩
def ref11_Valid_o28 : Array Oper := #[⟨(.some 223), (.fieldAddr 25 (.tmp 1) 3), 0, "ref.go:71", #[], .none⟩,
  ⟨(.some 224), (.load 23 (.tmp 223)), 23, "ref.go:71", #[⟨0, .data⟩], .none⟩,
  ⟨(.some 225), (.move (.tmp 8)), 3, "ref.go:71", #[], .none⟩,
  ⟨(.some 226), (.indexAddr 23 (.tmp 224) (.tmp 225)), 0, "ref.go:71", #[⟨1, .data⟩, ⟨2, .data⟩], .none⟩,
  ⟨(.some 227), (.fieldAddr 69 (.tmp 226) 0), 0, "ref.go:71", #[⟨3, .data⟩], .none⟩,
  ⟨(.some 228), (.load 9 (.tmp 227)), 9, "ref.go:71", #[⟨4, .data⟩], .none⟩,
  ⟨(.some 229), (.fieldAddr 69 (.tmp 7) 0), 0, "ref.go:71", #[], .none⟩,
  ⟨(.some 230), (.load 9 (.tmp 229)), 9, "ref.go:71", #[⟨6, .data⟩], .none⟩,
  ⟨(.some 231), (.binOp .eql 9 (.tmp 228) (.tmp 230) 9), 4, "ref.go:71", #[⟨5, .data⟩, ⟨7, .data⟩], .none⟩]
def ref11_Valid_a28 : RAnn := ⟨[220, 223, 224, 225, 226, 227, 228, 229, 230], []⟩
def ref11_Valid_o29 : Array Oper := #[⟨(.some 2), (.assign (.const (.bool false))), 4, "ref.go:72", #[], .none⟩]
def ref11_Valid_a29 : RAnn := ⟨[1, 6, 7, 8, 231], []⟩
def ref11_Valid_o30 : Array Oper := #[⟨(.some 2), (.assign (.const (.bool true))), 4, "ref.go:76", #[], .none⟩]
def ref11_Valid_a30 : RAnn := ⟨[1, 6, 154], []⟩
def ref11_Valid_b0 : Code := (.seq (.seq (.region 10 ref11_Valid_o10 false) (.cond (.tmp 81) .skip (.exit 2))) (.seq (.block 3 (.seq (.region 12 ref11_Valid_o12 true) (.cond (.tmp 92) (.seq (.region 13 ref11_Valid_o13 false) .ret) .skip))) (.region 11 ref11_Valid_o11 false)))
def ref11_Valid_b1 : Code := (.seq (.seq (.region 4 ref11_Valid_o4 false) (.cond (.tmp 45) .skip (.exit 0))) (.seq (.block 1 (.seq (.region 6 ref11_Valid_o6 false) (.seq (.seq (.region 7 ref11_Valid_o7 false) (.cond (.tmp 78) (.seq (.region 8 ref11_Valid_o8 false) .ret) .skip)) (.seq (.seq (.region 9 ref11_Valid_o9 false) (.block 2 (.loop ref11_Valid_b0))) (.seq (.seq (.region 14 ref11_Valid_o14 false) (.cond (.tmp 94) (.seq (.seq (.region 15 ref11_Valid_o15 false) (.cond (.tmp 117) (.seq (.region 16 ref11_Valid_o16 false) .ret) .skip)) (.exit 1)) .skip)) (.seq (.region 17 ref11_Valid_o17 false) (.cond (.tmp 149) (.seq (.region 18 ref11_Valid_o18 false) .ret) .skip))))))) (.region 5 ref11_Valid_o5 false)))
def ref11_Valid_b2 : Code := (.seq (.seq (.region 26 ref11_Valid_o26 false) (.cond (.tmp 220) .skip (.exit 6))) (.seq (.block 7 (.seq (.region 28 ref11_Valid_o28 true) (.cond (.tmp 231) (.seq (.region 29 ref11_Valid_o29 false) .ret) .skip))) (.region 27 ref11_Valid_o27 false)))
def ref11_Valid_b3 : Code := (.seq (.seq (.region 20 ref11_Valid_o20 false) (.cond (.tmp 154) .skip (.exit 4))) (.seq (.block 5 (.seq (.region 22 ref11_Valid_o22 false) (.seq (.seq (.region 23 ref11_Valid_o23 true) (.cond (.tmp 217) (.seq (.region 24 ref11_Valid_o24 false) .ret) .skip)) (.seq (.region 25 ref11_Valid_o25 false) (.block 6 (.loop ref11_Valid_b2)))))) (.region 21 ref11_Valid_o21 false)))
def ref11_Valid_c : Code := (.seq (.region 0 ref11_Valid_o0 false) (.seq (.seq (.region 1 ref11_Valid_o1 false) (.cond (.tmp 40) (.seq (.region 2 ref11_Valid_o2 false) .ret) .skip)) (.seq (.seq (.region 3 ref11_Valid_o3 false) (.block 0 (.loop ref11_Valid_b1))) (.seq (.seq (.region 19 ref11_Valid_o19 false) (.block 4 (.loop ref11_Valid_b3))) (.seq (.region 30 ref11_Valid_o30 false) .ret)))))
def ref11_Valid_an : List (Nat × RAnn) := [(0, ref11_Valid_a0), (1, ref11_Valid_a1), (2, ref11_Valid_a2), (3, ref11_Valid_a3), (4, ref11_Valid_a4), (5, ref11_Valid_a5), (6, ref11_Valid_a6), (7, ref11_Valid_a7), (8, ref11_Valid_a8), (9, ref11_Valid_a9), (10, ref11_Valid_a10), (11, ref11_Valid_a11), (12, ref11_Valid_a12), (13, ref11_Valid_a13), (14, ref11_Valid_a14), (15, ref11_Valid_a15), (16, ref11_Valid_a16), (17, ref11_Valid_a17), (18, ref11_Valid_a18), (19, ref11_Valid_a19), (20, ref11_Valid_a20), (21, ref11_Valid_a21), (22, ref11_Valid_a22), (23, ref11_Valid_a23), (24, ref11_Valid_a24), (25, ref11_Valid_a25), (26, ref11_Valid_a26), (27, ref11_Valid_a27), (28, ref11_Valid_a28), (29, ref11_Valid_a29), (30, ref11_Valid_a30)]
def ref11_isType_o0 : Array Oper := #[⟨(.some 2), (.box 25 (.tmp 0)), 0, "ref.go:208", #[], .none⟩,
  ⟨(.some 4), (.assign (.const (.bool false))), 4, "ref.go:208", #[], .none⟩]
def ref11_isType_a0 : RAnn := ⟨[0, 4], []⟩
def ref11_isType_o1 : Array Oper := #[⟨(.some 5), (.move (.tmp 1)), 3, "ref.go:208", #[], .none⟩,
  ⟨(.some 6), (.binOp .geq 3 (.tmp 5) (.const (.int .i64 0)) 3), 4, "ref.go:208", #[⟨0, .data⟩], .none⟩,
  ⟨(.some 7), (.move (.tmp 6)), 4, "ref.go:208", #[⟨1, .data⟩], .none⟩,
  ⟨(.some 8), (.move (.tmp 1)), 3, "ref.go:208", #[⟨2, .guard⟩], (.some (2, true))⟩,
  ⟨(.some 9), (.fieldAddr 25 (.tmp 2) 2), 0, "ref.go:208", #[⟨2, .guard⟩], (.some (2, true))⟩,
  ⟨(.some 10), (.load 22 (.tmp 9)), 22, "ref.go:208", #[⟨4, .data⟩, ⟨2, .guard⟩], (.some (2, true))⟩,
  ⟨(.some 11), (.call ⟨(.builtin .len), #[(.tmp 10)], #[22]⟩), 3, "ref.go:208", #[⟨5, .data⟩, ⟨2, .guard⟩], (.some (2, true))⟩,
  ⟨(.some 12), (.binOp .lss 3 (.tmp 8) (.tmp 11) 3), 4, "ref.go:208", #[⟨3, .data⟩, ⟨6, .data⟩, ⟨2, .guard⟩], (.some (2, true))⟩,
  ⟨(.some 13), (.pick (.tmp 7) (.tmp 12) (.const (.bool false))), 4, "ref.go:208", #[⟨2, .data⟩, ⟨7, .data⟩], .none⟩,
  ⟨(.some 4), (.assign (.tmp 13)), 4, "ref.go:208", #[⟨8, .data⟩, ⟨2, .chain⟩, ⟨0, .phase⟩, ⟨1, .phase⟩, ⟨2, .phase⟩, ⟨3, .phase⟩, ⟨4, .phase⟩, ⟨5, .phase⟩, ⟨6, .phase⟩, ⟨7, .phase⟩, ⟨8, .phase⟩], .none⟩]
def ref11_isType_a1 : RAnn := ⟨[1, 2, 5, 6, 7, 8, 9, 10, 11, 12, 13], []⟩
def ref11_isType_c : Code := (.seq (.region 0 ref11_isType_o0 false) (.seq (.region 1 ref11_isType_o1 false) .ret))
def ref11_isType_an : List (Nat × RAnn) := [(0, ref11_isType_a0), (1, ref11_isType_a1)]
def ref11_asked_o0 : Array Oper := #[⟨(.some 2), (.box 25 (.tmp 0)), 0, "ref.go:211", #[], .none⟩,
  ⟨(.some 4), (.assign (.const (.int .i64 0))), 29, "ref.go:211", #[], .none⟩]
def ref11_asked_a0 : RAnn := ⟨[0, 4], []⟩
def ref11_asked_o1 : Array Oper := #[⟨(.some 6), (.load 25 (.tmp 2)), 25, "ref.go:212", #[], .none⟩,
  ⟨(.some 7), (.call ⟨(.value (.func 29)), #[(.tmp 6)], #[25]⟩), 4, "ref.go:212", #[⟨0, .data⟩], .none⟩,
  ⟨(.some 8), (.unOp .not 4 (.tmp 7)), 4, "ref.go:212", #[⟨1, .data⟩], .none⟩]
def ref11_asked_a1 : RAnn := ⟨[6, 7], []⟩
def ref11_asked_o2 : Array Oper := #[⟨(.some 4), (.assign (.const (.int .i64 100))), 29, "ref.go:213", #[], .none⟩]
def ref11_asked_a2 : RAnn := ⟨[1, 2, 8], []⟩
def ref11_asked_o3 : Array Oper := #[⟨(.some 5), (.assign (.const (.int .i64 0))), 3, "ref.go:215", #[], .none⟩]
def ref11_asked_a3 : RAnn := ⟨[8], []⟩
def ref11_asked_o4 : Array Oper := #[⟨(.some 9), (.move (.tmp 5)), 3, "ref.go:215", #[], .none⟩,
  ⟨(.some 10), (.move (.tmp 1)), 28, "ref.go:215", #[], .none⟩,
  ⟨(.some 11), (.call ⟨(.builtin .len), #[(.tmp 10)], #[28]⟩), 3, "ref.go:215", #[⟨1, .data⟩], .none⟩,
  ⟨(.some 12), (.binOp .lss 3 (.tmp 9) (.tmp 11) 3), 4, "ref.go:215", #[⟨0, .data⟩, ⟨2, .data⟩], .none⟩]
def ref11_asked_a4 : RAnn := ⟨[9, 10, 11], []⟩
def ref11_asked_o5 : Array Oper := #[⟨(.some 13), (.move (.tmp 5)), 3, "ref.go:215", #[], .none⟩,
  ⟨(.some 14), (.binOp .add 3 (.tmp 13) (.const (.int .i64 1)) 3), 3, "ref.go:215", #[⟨0, .data⟩], .none⟩,
  ⟨(.some 5), (.assign (.tmp 14)), 3, "ref.go:215", #[⟨1, .data⟩, ⟨0, .phase⟩, ⟨1, .phase⟩], .none⟩]
def ref11_asked_a5 : RAnn := ⟨[13, 14, 21], []⟩
def ref11_asked_o6 : Array Oper := #[⟨(.some 15), (.load 25 (.tmp 2)), 25, "ref.go:216", #[], .none⟩,
  ⟨(.some 16), (.move (.tmp 1)), 28, "ref.go:216", #[], .none⟩,
  ⟨(.some 17), (.move (.tmp 5)), 3, "ref.go:216", #[], .none⟩,
  ⟨(.some 18), (.indexAddr 28 (.tmp 16) (.tmp 17)), 0, "ref.go:216", #[⟨1, .data⟩, ⟨2, .data⟩], .none⟩,
  ⟨(.some 19), (.load 3 (.tmp 18)), 3, "ref.go:216", #[⟨3, .data⟩], .none⟩,
  ⟨(.some 20), (.call ⟨(.value (.func 61)), #[(.tmp 15), (.tmp 19)], #[25, 3]⟩), 4, "ref.go:216", #[⟨0, .data⟩, ⟨4, .data⟩], .none⟩,
  ⟨(.some 21), (.unOp .not 4 (.tmp 20)), 4, "ref.go:216", #[⟨5, .data⟩], .none⟩]
def ref11_asked_a6 : RAnn := ⟨[12, 15, 16, 17, 18, 19, 20], []⟩
def ref11_asked_o7 : Array Oper := #[⟨(.some 4), (.assign (.const (.int .i64 2))), 29, "ref.go:217", #[], .none⟩]
def ref11_asked_a7 : RAnn := ⟨[1, 2, 5, 21], []⟩
def ref11_asked_o8 : Array Oper := #[⟨(.some 4), (.assign (.const (.int .i64 0))), 29, "ref.go:220", #[], .none⟩]
def ref11_asked_a8 : RAnn := ⟨[1, 2, 5, 12], []⟩
def ref11_asked_b0 : Code := (.seq (.seq (.region 4 ref11_asked_o4 false) (.cond (.tmp 12) .skip (.exit 0))) (.seq (.block 1 (.seq (.region 6 ref11_asked_o6 true) (.cond (.tmp 21) (.seq (.region 7 ref11_asked_o7 false) .ret) .skip))) (.region 5 ref11_asked_o5 false)))
def ref11_asked_c : Code := (.seq (.region 0 ref11_asked_o0 false) (.seq (.seq (.region 1 ref11_asked_o1 false) (.cond (.tmp 8) (.seq (.region 2 ref11_asked_o2 false) .ret) .skip)) (.seq (.seq (.region 3 ref11_asked_o3 false) (.block 0 (.loop ref11_asked_b0))) (.seq (.region 8 ref11_asked_o8 false) .ret))))
def ref11_asked_an : List (Nat × RAnn) := [(0, ref11_asked_a0), (1, ref11_asked_a1), (2, ref11_asked_a2), (3, ref11_asked_a3), (4, ref11_asked_a4), (5, ref11_asked_a5), (6, ref11_asked_a6), (7, ref11_asked_a7), (8, ref11_asked_a8)]
def ref11_Way_o0 : Array Oper := #[⟨(.some 2), (.box 25 (.tmp 0)), 0, "ref.go:256", #[], .none⟩,
  ⟨(.some 4), (.assign (.const (.slice .none 0 0))), 28, "ref.go:256", #[], .none⟩,
  ⟨(.some 5), (.assign (.const (.int .i64 0))), 29, "ref.go:256", #[⟨1, .chain⟩], .none⟩]
def ref11_Way_a0 : RAnn := ⟨[0, 4, 5], []⟩
def ref11_Way_o1 : Array Oper := #[⟨(.some 7), (.load 25 (.tmp 2)), 25, "ref.go:257", #[], .none⟩,
  ⟨(.some 8), (.move (.tmp 1)), 3, "ref.go:257", #[], .none⟩,
  ⟨(.some 9), (.buildSlice 28 1 #[(0, (.tmp 8))]), 28, "ref.go:257", #[⟨1, .data⟩], .none⟩,
  ⟨(.some 10), (.call ⟨(.value (.func 40)), #[(.tmp 7), (.tmp 9)], #[25, 28]⟩), 29, "ref.go:257", #[⟨0, .data⟩, ⟨2, .data⟩], .none⟩,
  ⟨(.some 6), (.assign (.tmp 10)), 29, "ref.go:257", #[⟨3, .data⟩, ⟨3, .chain⟩, ⟨0, .phase⟩, ⟨1, .phase⟩, ⟨2, .phase⟩, ⟨3, .phase⟩], .none⟩]
def ref11_Way_a1 : RAnn := ⟨[7, 8, 9, 10], []⟩
def ref11_Way_o2 : Array Oper := #[⟨(.some 11), (.move (.tmp 6)), 29, "ref.go:257", #[], .none⟩,
  ⟨(.some 12), (.binOp .neq 29 (.tmp 11) (.const (.int .i64 0)) 29), 4, "ref.go:257", #[⟨0, .data⟩], .none⟩]
def ref11_Way_a2 : RAnn := ⟨[11], []⟩
def ref11_Way_o3 : Array Oper := #[⟨(.some 13), (.move (.tmp 6)), 29, "ref.go:258", #[⟨1, (.gcOnly .lateStores)⟩], .none⟩,
  ⟨(.some 4), (.assign (.const (.slice .none 0 0))), 28, "ref.go:258", #[⟨0, (.textOnly .lateStores)⟩], .none⟩,
  ⟨(.some 5), (.assign (.tmp 13)), 29, "ref.go:258", #[⟨0, .data⟩, ⟨1, .chain⟩, ⟨0, .phase⟩, ⟨1, .phase⟩], .none⟩]
def ref11_Way_a3 : RAnn := ⟨[1, 2, 6, 12, 13], []⟩
def ref11_Way_o4 : Array Oper := #[⟨(.some 14), (.load 25 (.tmp 2)), 25, "ref.go:260", #[], .none⟩,
  ⟨(.some 15), (.move (.tmp 1)), 3, "ref.go:260", #[], .none⟩,
  ⟨(.some 16), (.call ⟨(.value (.func 41)), #[(.tmp 14), (.tmp 15)], #[25, 3]⟩), 28, "ref.go:260", #[⟨0, .data⟩, ⟨1, .data⟩], .none⟩,
  ⟨(.some 4), (.assign (.tmp 16)), 28, "ref.go:260", #[⟨2, .data⟩, ⟨2, .chain⟩, ⟨0, .phase⟩, ⟨1, .phase⟩, ⟨2, .phase⟩], .none⟩,
  ⟨(.some 5), (.assign (.const (.int .i64 0))), 29, "ref.go:260", #[⟨3, .chain⟩, ⟨0, .phase⟩, ⟨1, .phase⟩, ⟨2, .phase⟩, ⟨3, .phase⟩], .none⟩]
def ref11_Way_a4 : RAnn := ⟨[1, 2, 6, 12, 14, 15, 16], []⟩
def ref11_Way_c : Code := (.seq (.region 0 ref11_Way_o0 false) (.seq (.seq (.region 1 ref11_Way_o1 false) (.seq (.region 2 ref11_Way_o2 false) (.cond (.tmp 12) (.seq (.region 3 ref11_Way_o3 false) .ret) .skip))) (.seq (.region 4 ref11_Way_o4 false) .ret)))
def ref11_Way_an : List (Nat × RAnn) := [(0, ref11_Way_a0), (1, ref11_Way_a1), (2, ref11_Way_a2), (3, ref11_Way_a3), (4, ref11_Way_a4)]
def dbd_Depth_o0 : Array Oper := #[⟨(.some 2), (.box 25 (.tmp 0)), 0, "dbd.go:147", #[], .none⟩,
  ⟨(.some 4), (.assign (.const (.int .i64 0))), 3, "dbd.go:147", #[], .none⟩,
  ⟨(.some 5), (.assign (.const (.int .i64 0))), 29, "dbd.go:147", #[⟨1, .chain⟩], .none⟩]
def dbd_Depth_a0 : RAnn := ⟨[0, 4, 5], []⟩
def dbd_Depth_o1 : Array Oper := #[⟨(.some 9), (.load 25 (.tmp 2)), 25, "dbd.go:148", #[], .none⟩,
  ⟨(.some 10), (.move (.tmp 1)), 3, "dbd.go:148", #[], .none⟩,
  ⟨(.some 11), (.call ⟨(.value (.func 11)), #[(.tmp 9), (.tmp 10)], #[25, 3]⟩), 30, "dbd.go:148", #[⟨0, .data⟩, ⟨1, .data⟩], .none⟩,
  ⟨(.some 8), (.move (.tmp 11)), 30, "dbd.go:148", #[⟨2, .data⟩], .none⟩,
  ⟨(.some 12), (.extract (.tmp 8) 0), 28, "dbd.go:148", #[⟨3, .data⟩], .none⟩,
  ⟨(.some 13), (.extract (.tmp 8) 1), 29, "dbd.go:148", #[⟨3, .data⟩, ⟨6, (.gcOnly .lateStores)⟩], .none⟩,
  ⟨(.some 6), (.assign (.tmp 12)), 28, "dbd.go:148", #[⟨4, .data⟩, ⟨2, .chain⟩, ⟨0, .phase⟩, ⟨1, .phase⟩, ⟨2, .phase⟩, ⟨3, .phase⟩, ⟨4, .phase⟩, ⟨5, (.textOnly .lateStores)⟩], .none⟩,
  ⟨(.some 7), (.assign (.tmp 13)), 29, "dbd.go:148", #[⟨5, .data⟩, ⟨6, .chain⟩, ⟨0, .phase⟩, ⟨1, .phase⟩, ⟨2, .phase⟩, ⟨3, .phase⟩, ⟨4, .phase⟩, ⟨5, .phase⟩, ⟨6, .phase⟩], .none⟩]
def dbd_Depth_a1 : RAnn := ⟨[1, 2, 8, 9, 10, 11, 12, 13], []⟩
def dbd_Depth_o2 : Array Oper := #[⟨(.some 14), (.move (.tmp 6)), 28, "dbd.go:149", #[], .none⟩,
  ⟨(.some 15), (.call ⟨(.builtin .len), #[(.tmp 14)], #[28]⟩), 3, "dbd.go:149", #[⟨0, .data⟩], .none⟩,
  ⟨(.some 16), (.move (.tmp 7)), 29, "dbd.go:149", #[⟨3, (.gcOnly .lateStores)⟩], .none⟩,
  ⟨(.some 4), (.assign (.tmp 15)), 3, "dbd.go:149", #[⟨1, .data⟩, ⟨0, .phase⟩, ⟨1, .phase⟩, ⟨2, (.textOnly .lateStores)⟩], .none⟩,
  ⟨(.some 5), (.assign (.tmp 16)), 29, "dbd.go:149", #[⟨2, .data⟩, ⟨3, .chain⟩, ⟨0, .phase⟩, ⟨1, .phase⟩, ⟨2, .phase⟩, ⟨3, .phase⟩], .none⟩]
def dbd_Depth_a2 : RAnn := ⟨[6, 7, 14, 15, 16], []⟩
def dbd_Depth_c : Code := (.seq (.region 0 dbd_Depth_o0 false) (.seq (.region 1 dbd_Depth_o1 false) (.seq (.region 2 dbd_Depth_o2 false) .ret)))
def dbd_Depth_an : List (Nat × RAnn) := [(0, dbd_Depth_a0), (1, dbd_Depth_a1), (2, dbd_Depth_a2)]
def ref11_Depth_o0 : Array Oper := #[⟨(.some 2), (.box 25 (.tmp 0)), 0, "ref.go:250", #[], .none⟩,
  ⟨(.some 4), (.assign (.const (.int .i64 0))), 3, "ref.go:250", #[], .none⟩,
  ⟨(.some 5), (.assign (.const (.int .i64 0))), 29, "ref.go:250", #[⟨1, .chain⟩], .none⟩]
def ref11_Depth_a0 : RAnn := ⟨[0, 4, 5], []⟩
def ref11_Depth_o1 : Array Oper := #[⟨(.some 9), (.load 25 (.tmp 2)), 25, "ref.go:251", #[], .none⟩,
  ⟨(.some 10), (.move (.tmp 1)), 3, "ref.go:251", #[], .none⟩,
  ⟨(.some 11), (.call ⟨(.value (.func 12)), #[(.tmp 9), (.tmp 10)], #[25, 3]⟩), 30, "ref.go:251", #[⟨0, .data⟩, ⟨1, .data⟩], .none⟩,
  ⟨(.some 8), (.move (.tmp 11)), 30, "ref.go:251", #[⟨2, .data⟩], .none⟩,
  ⟨(.some 12), (.extract (.tmp 8) 0), 28, "ref.go:251", #[⟨3, .data⟩], .none⟩,
  ⟨(.some 13), (.extract (.tmp 8) 1), 29, "ref.go:251", #[⟨3, .data⟩, ⟨6, (.gcOnly .lateStores)⟩], .none⟩,
  ⟨(.some 6), (.assign (.tmp 12)), 28, "ref.go:251", #[⟨4, .data⟩, ⟨2, .chain⟩, ⟨0, .phase⟩, ⟨1, .phase⟩, ⟨2, .phase⟩, ⟨3, .phase⟩, ⟨4, .phase⟩, ⟨5, (.textOnly .lateStores)⟩], .none⟩,
  ⟨(.some 7), (.assign (.tmp 13)), 29, "ref.go:251", #[⟨5, .data⟩, ⟨6, .chain⟩, ⟨0, .phase⟩, ⟨1, .phase⟩, ⟨2, .phase⟩, ⟨3, .phase⟩, ⟨4, .phase⟩, ⟨5, .phase⟩, ⟨6, .phase⟩], .none⟩]
def ref11_Depth_a1 : RAnn := ⟨[1, 2, 8, 9, 10, 11, 12, 13], []⟩
def ref11_Depth_o2 : Array Oper := #[⟨(.some 14), (.move (.tmp 6)), 28, "ref.go:252", #[], .none⟩,
  ⟨(.some 15), (.call ⟨(.builtin .len), #[(.tmp 14)], #[28]⟩), 3, "ref.go:252", #[⟨0, .data⟩], .none⟩,
  ⟨(.some 16), (.move (.tmp 7)), 29, "ref.go:252", #[⟨3, (.gcOnly .lateStores)⟩], .none⟩,
  ⟨(.some 4), (.assign (.tmp 15)), 3, "ref.go:252", #[⟨1, .data⟩, ⟨0, .phase⟩, ⟨1, .phase⟩, ⟨2, (.textOnly .lateStores)⟩], .none⟩,
  ⟨(.some 5), (.assign (.tmp 16)), 29, "ref.go:252", #[⟨2, .data⟩, ⟨3, .chain⟩, ⟨0, .phase⟩, ⟨1, .phase⟩, ⟨2, .phase⟩, ⟨3, .phase⟩], .none⟩]
def ref11_Depth_a2 : RAnn := ⟨[6, 7, 14, 15, 16], []⟩
def ref11_Depth_c : Code := (.seq (.region 0 ref11_Depth_o0 false) (.seq (.region 1 ref11_Depth_o1 false) (.seq (.region 2 ref11_Depth_o2 false) .ret)))
def ref11_Depth_an : List (Nat × RAnn) := [(0, ref11_Depth_a0), (1, ref11_Depth_a1), (2, ref11_Depth_a2)]
def ref11_Children_o0 : Array Oper := #[⟨(.some 2), (.box 25 (.tmp 0)), 0, "ref.go:264", #[], .none⟩,
  ⟨(.some 4), (.assign (.const (.slice .none 0 0))), 28, "ref.go:264", #[], .none⟩,
  ⟨(.some 5), (.assign (.const (.int .i64 0))), 29, "ref.go:264", #[⟨1, .chain⟩], .none⟩]
def ref11_Children_a0 : RAnn := ⟨[0, 4, 5], []⟩
def ref11_Children_o1 : Array Oper := #[⟨(.some 9), (.load 25 (.tmp 2)), 25, "ref.go:265", #[], .none⟩,
  ⟨(.some 10), (.move (.tmp 1)), 3, "ref.go:265", #[], .none⟩,
  ⟨(.some 11), (.buildSlice 28 1 #[(0, (.tmp 10))]), 28, "ref.go:265", #[⟨1, .data⟩], .none⟩,
  ⟨(.some 12), (.call ⟨(.value (.func 40)), #[(.tmp 9), (.tmp 11)], #[25, 28]⟩), 29, "ref.go:265", #[⟨0, .data⟩, ⟨2, .data⟩], .none⟩,
  ⟨(.some 6), (.assign (.tmp 12)), 29, "ref.go:265", #[⟨3, .data⟩, ⟨3, .chain⟩, ⟨0, .phase⟩, ⟨1, .phase⟩, ⟨2, .phase⟩, ⟨3, .phase⟩], .none⟩]
def ref11_Children_a1 : RAnn := ⟨[9, 10, 11, 12], []⟩
def ref11_Children_o2 : Array Oper := #[⟨(.some 13), (.move (.tmp 6)), 29, "ref.go:265", #[], .none⟩,
  ⟨(.some 14), (.binOp .neq 29 (.tmp 13) (.const (.int .i64 0)) 29), 4, "ref.go:265", #[⟨0, .data⟩], .none⟩]
def ref11_Children_a2 : RAnn := ⟨[13], []⟩
def ref11_Children_o3 : Array Oper := #[⟨(.some 15), (.move (.tmp 6)), 29, "ref.go:266", #[⟨1, (.gcOnly .lateStores)⟩], .none⟩,
  ⟨(.some 4), (.assign (.const (.slice .none 0 0))), 28, "ref.go:266", #[⟨0, (.textOnly .lateStores)⟩], .none⟩,
  ⟨(.some 5), (.assign (.tmp 15)), 29, "ref.go:266", #[⟨0, .data⟩, ⟨1, .chain⟩, ⟨0, .phase⟩, ⟨1, .phase⟩], .none⟩]
def ref11_Children_a3 : RAnn := ⟨[1, 2, 6, 14, 15], []⟩
def ref11_Children_o4 : Array Oper := #[⟨(.some 7), (.assign (.const (.slice .none 0 0))), 28, "ref.go:268", #[], .none⟩]
def ref11_Children_a4 : RAnn := ⟨[6, 14], [(0, { keep := [0] })]⟩
def ref11_Children_o5 : Array Oper := #[⟨(.some 8), (.assign (.const (.int .i64 0))), 3, "ref.go:269", #[], .none⟩]
def ref11_Children_a5 : RAnn := ⟨[], []⟩
def ref11_Children_o6 : Array Oper := #[⟨(.some 16), (.move (.tmp 8)), 3, "ref.go:269", #[], .none⟩,
  ⟨(.some 17), (.fieldAddr 25 (.tmp 2) 2), 0, "ref.go:269", #[], .none⟩,
  ⟨(.some 18), (.load 22 (.tmp 17)), 22, "ref.go:269", #[⟨1, .data⟩], .none⟩,
  ⟨(.some 19), (.call ⟨(.builtin .len), #[(.tmp 18)], #[22]⟩), 3, "ref.go:269", #[⟨2, .data⟩], .none⟩,
  ⟨(.some 20), (.binOp .lss 3 (.tmp 16) (.tmp 19) 3), 4, "ref.go:269", #[⟨0, .data⟩, ⟨3, .data⟩], .none⟩]
def ref11_Children_a6 : RAnn := ⟨[16, 17, 18, 19], []⟩
def ref11_Children_o7 : Array Oper := #[⟨(.some 21), (.move (.tmp 8)), 3, "ref.go:269", #[], .none⟩,
  ⟨(.some 22), (.binOp .add 3 (.tmp 21) (.const (.int .i64 1)) 3), 3, "ref.go:269", #[⟨0, .data⟩], .none⟩,
  ⟨(.some 8), (.assign (.tmp 22)), 3, "ref.go:269", #[⟨1, .data⟩, ⟨0, .phase⟩, ⟨1, .phase⟩], .none⟩]
def ref11_Children_a7 : RAnn := ⟨[21, 22, 30], []⟩
def ref11_Children_o8 : Array Oper := #[⟨(.some 23), (.fieldAddr 25 (.tmp 2) 2), 0, "ref.go:270", #[], .none⟩,
  ⟨(.some 24), (.load 22 (.tmp 23)), 22, "ref.go:270", #[⟨0, .data⟩], .none⟩,
  ⟨(.some 25), (.move (.tmp 8)), 3, "ref.go:270", #[], .none⟩,
  ⟨(.some 26), (.indexAddr 22 (.tmp 24) (.tmp 25)), 0, "ref.go:270", #[⟨1, .data⟩, ⟨2, .data⟩], .none⟩,
  ⟨(.some 27), (.fieldAddr 55 (.tmp 26) 1), 0, "ref.go:270", #[⟨3, .data⟩], .none⟩,
  ⟨(.some 28), (.load 3 (.tmp 27)), 3, "ref.go:270", #[⟨4, .data⟩], .none⟩,
  ⟨(.some 29), (.move (.tmp 1)), 3, "ref.go:270", #[], .none⟩,
  ⟨(.some 30), (.binOp .eql 3 (.tmp 28) (.tmp 29) 3), 4, "ref.go:270", #[⟨5, .data⟩, ⟨6, .data⟩], .none⟩]
def ref11_Children_a8 : RAnn := ⟨[20, 23, 24, 25, 26, 27, 28, 29], []⟩
def ref11_Children_o9 : Array Oper := #[⟨(.some 31), (.move (.tmp 7)), 28, "ref.go:271", #[], .none⟩,
  ⟨(.some 32), (.move (.tmp 8)), 3, "ref.go:271", #[], .none⟩,
  ⟨(.some 33), (.buildSlice 28 1 #[(0, (.tmp 32))]), 28, "ref.go:271", #[⟨1, .data⟩], .none⟩,
  ⟨(.some 34), (.call ⟨(.builtin .append), #[(.tmp 31), (.tmp 33)], #[28, 28]⟩), 28, "ref.go:271", #[⟨0, .data⟩, ⟨2, .data⟩], .none⟩,
  ⟨(.some 7), (.assign (.tmp 34)), 28, "ref.go:271", #[⟨3, .data⟩, ⟨3, .chain⟩, ⟨0, .phase⟩, ⟨1, .phase⟩, ⟨2, .phase⟩, ⟨3, .phase⟩], .none⟩]
def ref11_Children_a9 : RAnn := ⟨[30, 31, 32, 33, 34], [(0, { tk := [7], keep := [0] }), (3, { tk := [31], keep := [0] }), (4, { tk := [34], keep := [0] })]⟩
def ref11_Children_o10 : Array Oper := #[⟨(.some 35), (.move (.tmp 7)), 28, "ref.go:274", #[], .none⟩,
  ⟨(.some 4), (.assign (.tmp 35)), 28, "ref.go:274", #[⟨0, .data⟩, ⟨0, .phase⟩], .none⟩,
  ⟨(.some 5), (.assign (.const (.int .i64 0))), 29, "ref.go:274", #[⟨1, .chain⟩, ⟨0, .phase⟩, ⟨1, .phase⟩], .none⟩]
def ref11_Children_a10 : RAnn := ⟨[1, 2, 7, 8, 20, 35], []⟩
def ref11_Children_b0 : Code := (.seq (.seq (.region 6 ref11_Children_o6 false) (.cond (.tmp 20) .skip (.exit 0))) (.seq (.block 1 (.seq (.region 8 ref11_Children_o8 false) (.cond (.tmp 30) (.region 9 ref11_Children_o9 false) .skip))) (.region 7 ref11_Children_o7 false)))
def ref11_Children_c : Code := (.seq (.region 0 ref11_Children_o0 false) (.seq (.seq (.region 1 ref11_Children_o1 false) (.seq (.region 2 ref11_Children_o2 false) (.cond (.tmp 14) (.seq (.region 3 ref11_Children_o3 false) .ret) .skip))) (.seq (.region 4 ref11_Children_o4 false) (.seq (.seq (.region 5 ref11_Children_o5 false) (.block 0 (.loop ref11_Children_b0))) (.seq (.region 10 ref11_Children_o10 false) .ret)))))
def ref11_Children_an : List (Nat × RAnn) := [(0, ref11_Children_a0), (1, ref11_Children_a1), (2, ref11_Children_a2), (3, ref11_Children_a3), (4, ref11_Children_a4), (5, ref11_Children_a5), (6, ref11_Children_a6), (7, ref11_Children_a7), (8, ref11_Children_a8), (9, ref11_Children_a9), (10, ref11_Children_a10)]
def slices_Contains_int_o0 : Array Oper := #[⟨(.some 4), (.assign (.const (.bool false))), 4, "slices.go:117", #[], .none⟩]
def slices_Contains_int_a0 : RAnn := ⟨[4], []⟩
def slices_Contains_int_o1 : Array Oper := #[⟨(.some 5), (.move (.tmp 0)), 28, "slices.go:118", #[], .none⟩,
  ⟨(.some 6), (.move (.tmp 1)), 3, "slices.go:118", #[], .none⟩,
  ⟨(.some 7), (.call ⟨(.value (.func 53)), #[(.tmp 5), (.tmp 6)], #[28, 3]⟩), 3, "slices.go:118", #[⟨0, .data⟩, ⟨1, .data⟩], .none⟩,
  ⟨(.some 8), (.binOp .geq 3 (.tmp 7) (.const (.int .i64 0)) 3), 4, "slices.go:118", #[⟨2, .data⟩], .none⟩,
  ⟨(.some 4), (.assign (.tmp 8)), 4, "slices.go:118", #[⟨3, .data⟩, ⟨2, .chain⟩, ⟨0, .phase⟩, ⟨1, .phase⟩, ⟨2, .phase⟩, ⟨3, .phase⟩], .none⟩]
def slices_Contains_int_a1 : RAnn := ⟨[0, 1, 5, 6, 7, 8], []⟩
def slices_Contains_int_c : Code := (.seq (.region 0 slices_Contains_int_o0 false) (.seq (.region 1 slices_Contains_int_o1 false) .ret))
def slices_Contains_int_an : List (Nat × RAnn) := [(0, slices_Contains_int_a0), (1, slices_Contains_int_a1)]
def dbd_IsAbove_o0 : Array Oper := #[⟨(.some 3), (.box 25 (.tmp 0)), 0, "dbd.go:167", #[], .none⟩,
  ⟨(.some 6), (.assign (.const (.bool false))), 4, "dbd.go:167", #[], .none⟩,
  ⟨(.some 7), (.assign (.const (.int .i64 0))), 29, "dbd.go:167", #[⟨1, .chain⟩], .none⟩]
def dbd_IsAbove_a0 : RAnn := ⟨[0, 6, 7], []⟩
def dbd_IsAbove_o1 : Array Oper := #[⟨(.some 9), (.load 25 (.tmp 3)), 25, "dbd.go:168", #[], .none⟩,
  ⟨(.some 10), (.move (.tmp 1)), 3, "dbd.go:168", #[], .none⟩,
  ⟨(.some 11), (.move (.tmp 2)), 3, "dbd.go:168", #[], .none⟩,
  ⟨(.some 12), (.buildSlice 28 2 #[(0, (.tmp 10)), (1, (.tmp 11))]), 28, "dbd.go:168", #[⟨1, .data⟩, ⟨2, .data⟩], .none⟩,
  ⟨(.some 13), (.call ⟨(.value (.func 38)), #[(.tmp 9), (.tmp 12)], #[25, 28]⟩), 29, "dbd.go:168", #[⟨0, .data⟩, ⟨3, .data⟩], .none⟩,
  ⟨(.some 8), (.assign (.tmp 13)), 29, "dbd.go:168", #[⟨4, .data⟩, ⟨4, .chain⟩, ⟨0, .phase⟩, ⟨1, .phase⟩, ⟨2, .phase⟩, ⟨3, .phase⟩, ⟨4, .phase⟩], .none⟩]
def dbd_IsAbove_a1 : RAnn := ⟨[9, 10, 11, 12, 13], []⟩
def dbd_IsAbove_o2 : Array Oper := #[⟨(.some 14), (.move (.tmp 8)), 29, "dbd.go:168", #[], .none⟩,
  ⟨(.some 15), (.binOp .neq 29 (.tmp 14) (.const (.int .i64 0)) 29), 4, "dbd.go:168", #[⟨0, .data⟩], .none⟩]
def dbd_IsAbove_a2 : RAnn := ⟨[14], []⟩
def dbd_IsAbove_o3 : Array Oper := #[⟨(.some 16), (.move (.tmp 8)), 29, "dbd.go:169", #[⟨1, (.gcOnly .lateStores)⟩], .none⟩,
  ⟨(.some 6), (.assign (.const (.bool false))), 4, "dbd.go:169", #[⟨0, (.textOnly .lateStores)⟩], .none⟩,
  ⟨(.some 7), (.assign (.tmp 16)), 29, "dbd.go:169", #[⟨0, .data⟩, ⟨1, .chain⟩, ⟨0, .phase⟩, ⟨1, .phase⟩], .none⟩]
def dbd_IsAbove_a3 : RAnn := ⟨[1, 2, 3, 8, 15, 16], []⟩
def dbd_IsAbove_o4 : Array Oper := #[⟨(.some 17), (.move (.tmp 1)), 3, "dbd.go:171", #[], .none⟩,
  ⟨(.some 18), (.move (.tmp 2)), 3, "dbd.go:171", #[], .none⟩,
  ⟨(.some 19), (.binOp .neq 3 (.tmp 17) (.tmp 18) 3), 4, "dbd.go:171", #[⟨0, .data⟩, ⟨1, .data⟩], .none⟩,
  ⟨(.some 20), (.move (.tmp 19)), 4, "dbd.go:171", #[⟨2, .data⟩], .none⟩,
  ⟨(.some 21), (.load 25 (.tmp 3)), 25, "dbd.go:171", #[⟨3, .guard⟩], (.some (3, true))⟩,
  ⟨(.some 22), (.move (.tmp 2)), 3, "dbd.go:171", #[⟨3, .guard⟩], (.some (3, true))⟩,
  ⟨(.some 23), (.call ⟨(.value (.func 39)), #[(.tmp 21), (.tmp 22)], #[25, 3]⟩), 28, "dbd.go:171", #[⟨4, .data⟩, ⟨5, .data⟩, ⟨3, .chain⟩, ⟨3, .guard⟩], (.some (3, true))⟩,
  ⟨(.some 24), (.move (.tmp 1)), 3, "dbd.go:171", #[⟨3, .guard⟩], (.some (3, true))⟩,
  ⟨(.some 25), (.call ⟨(.value (.func 42)), #[(.tmp 23), (.tmp 24)], #[28, 3]⟩), 4, "dbd.go:171", #[⟨6, .data⟩, ⟨7, .data⟩, ⟨6, .chain⟩, ⟨3, .guard⟩], (.some (3, true))⟩,
  ⟨(.some 26), (.pick (.tmp 20) (.tmp 25) (.const (.bool false))), 4, "dbd.go:171", #[⟨3, .data⟩, ⟨8, .data⟩], .none⟩,
  ⟨(.some 6), (.assign (.tmp 26)), 4, "dbd.go:171", #[⟨9, .data⟩, ⟨8, .chain⟩, ⟨0, .phase⟩, ⟨1, .phase⟩, ⟨2, .phase⟩, ⟨3, .phase⟩, ⟨4, .phase⟩, ⟨5, .phase⟩, ⟨6, .phase⟩, ⟨7, .phase⟩, ⟨8, .phase⟩, ⟨9, .phase⟩], .none⟩,
  ⟨(.some 7), (.assign (.const (.int .i64 0))), 29, "dbd.go:171", #[⟨10, .chain⟩, ⟨0, .phase⟩, ⟨1, .phase⟩, ⟨2, .phase⟩, ⟨3, .phase⟩, ⟨4, .phase⟩, ⟨5, .phase⟩, ⟨6, .phase⟩, ⟨7, .phase⟩, ⟨8, .phase⟩, ⟨9, .phase⟩, ⟨10, .phase⟩], .none⟩]
def dbd_IsAbove_a4 : RAnn := ⟨[1, 2, 3, 8, 15, 17, 18, 19, 20, 21, 22, 23, 24, 25, 26], []⟩
def dbd_IsAbove_c : Code := (.seq (.region 0 dbd_IsAbove_o0 false) (.seq (.seq (.region 1 dbd_IsAbove_o1 false) (.seq (.region 2 dbd_IsAbove_o2 false) (.cond (.tmp 15) (.seq (.region 3 dbd_IsAbove_o3 false) .ret) .skip))) (.seq (.region 4 dbd_IsAbove_o4 false) .ret)))
def dbd_IsAbove_an : List (Nat × RAnn) := [(0, dbd_IsAbove_a0), (1, dbd_IsAbove_a1), (2, dbd_IsAbove_a2), (3, dbd_IsAbove_a3), (4, dbd_IsAbove_a4)]
def ref11_IsAbove_o0 : Array Oper := #[⟨(.some 3), (.box 25 (.tmp 0)), 0, "ref.go:278", #[], .none⟩,
  ⟨(.some 6), (.assign (.const (.bool false))), 4, "ref.go:278", #[], .none⟩,
  ⟨(.some 7), (.assign (.const (.int .i64 0))), 29, "ref.go:278", #[⟨1, .chain⟩], .none⟩]
def ref11_IsAbove_a0 : RAnn := ⟨[0, 6, 7], []⟩
def ref11_IsAbove_o1 : Array Oper := #[⟨(.some 9), (.load 25 (.tmp 3)), 25, "ref.go:279", #[], .none⟩,
  ⟨(.some 10), (.move (.tmp 1)), 3, "ref.go:279", #[], .none⟩,
  ⟨(.some 11), (.move (.tmp 2)), 3, "ref.go:279", #[], .none⟩,
  ⟨(.some 12), (.buildSlice 28 2 #[(0, (.tmp 10)), (1, (.tmp 11))]), 28, "ref.go:279", #[⟨1, .data⟩, ⟨2, .data⟩], .none⟩,
  ⟨(.some 13), (.call ⟨(.value (.func 40)), #[(.tmp 9), (.tmp 12)], #[25, 28]⟩), 29, "ref.go:279", #[⟨0, .data⟩, ⟨3, .data⟩], .none⟩,
  ⟨(.some 8), (.assign (.tmp 13)), 29, "ref.go:279", #[⟨4, .data⟩, ⟨4, .chain⟩, ⟨0, .phase⟩, ⟨1, .phase⟩, ⟨2, .phase⟩, ⟨3, .phase⟩, ⟨4, .phase⟩], .none⟩]
def ref11_IsAbove_a1 : RAnn := ⟨[9, 10, 11, 12, 13], []⟩
def ref11_IsAbove_o2 : Array Oper := #[⟨(.some 14), (.move (.tmp 8)), 29, "ref.go:279", #[], .none⟩,
  ⟨(.some 15), (.binOp .neq 29 (.tmp 14) (.const (.int .i64 0)) 29), 4, "ref.go:279", #[⟨0, .data⟩], .none⟩]
def ref11_IsAbove_a2 : RAnn := ⟨[14], []⟩
def ref11_IsAbove_o3 : Array Oper := #[⟨(.some 16), (.move (.tmp 8)), 29, "ref.go:280", #[⟨1, (.gcOnly .lateStores)⟩], .none⟩,
  ⟨(.some 6), (.assign (.const (.bool false))), 4, "ref.go:280", #[⟨0, (.textOnly .lateStores)⟩], .none⟩,
  ⟨(.some 7), (.assign (.tmp 16)), 29, "ref.go:280", #[⟨0, .data⟩, ⟨1, .chain⟩, ⟨0, .phase⟩, ⟨1, .phase⟩], .none⟩]
def ref11_IsAbove_a3 : RAnn := ⟨[1, 2, 3, 8, 15, 16], []⟩
def ref11_IsAbove_o4 : Array Oper := #[⟨(.some 17), (.load 25 (.tmp 3)), 25, "ref.go:282", #[], .none⟩,
  ⟨(.some 18), (.move (.tmp 1)), 3, "ref.go:282", #[], .none⟩,
  ⟨(.some 19), (.move (.tmp 2)), 3, "ref.go:282", #[], .none⟩,
  ⟨(.some 20), (.call ⟨(.value (.func 43)), #[(.tmp 17), (.tmp 18), (.tmp 19)], #[25, 3, 3]⟩), 4, "ref.go:282", #[⟨0, .data⟩, ⟨1, .data⟩, ⟨2, .data⟩], .none⟩,
  ⟨(.some 6), (.assign (.tmp 20)), 4, "ref.go:282", #[⟨3, .data⟩, ⟨3, .chain⟩, ⟨0, .phase⟩, ⟨1, .phase⟩, ⟨2, .phase⟩, ⟨3, .phase⟩], .none⟩,
  ⟨(.some 7), (.assign (.const (.int .i64 0))), 29, "ref.go:282", #[⟨4, .chain⟩, ⟨0, .phase⟩, ⟨1, .phase⟩, ⟨2, .phase⟩, ⟨3, .phase⟩, ⟨4, .phase⟩], .none⟩]
def ref11_IsAbove_a4 : RAnn := ⟨[1, 2, 3, 8, 15, 17, 18, 19, 20], []⟩
def ref11_IsAbove_c : Code := (.seq (.region 0 ref11_IsAbove_o0 false) (.seq (.seq (.region 1 ref11_IsAbove_o1 false) (.seq (.region 2 ref11_IsAbove_o2 false) (.cond (.tmp 15) (.seq (.region 3 ref11_IsAbove_o3 false) .ret) .skip))) (.seq (.region 4 ref11_IsAbove_o4 false) .ret)))
def ref11_IsAbove_an : List (Nat × RAnn) := [(0, ref11_IsAbove_a0), (1, ref11_IsAbove_a1), (2, ref11_IsAbove_a2), (3, ref11_IsAbove_a3), (4, ref11_IsAbove_a4)]
def law11_DbdWays_o0 : Array Oper := #[⟨(.some 3), (.box 25 (.tmp 0)), 0, "law.go:97", #[], .none⟩,
  ⟨(.some 6), (.assign (.const (.bool false))), 4, "law.go:97", #[], .none⟩]
def law11_DbdWays_a0 : RAnn := ⟨[0, 6], []⟩
def law11_DbdWays_o1 : Array Oper := #[⟨(.some 15), (.load 25 (.tmp 3)), 25, "law.go:98", #[], .none⟩,
  ⟨(.some 16), (.call ⟨(.value (.func 9)), #[(.tmp 15)], #[25]⟩), 4, "law.go:98", #[⟨0, .data⟩], .none⟩,
  ⟨(.some 17), (.unOp .not 4 (.tmp 16)), 4, "law.go:98", #[⟨1, .data⟩], .none⟩]
def law11_DbdWays_a1 : RAnn := ⟨[15, 16], []⟩
def law11_DbdWays_o2 : Array Oper := #[⟨(.some 18), (.call ⟨(.value (.func 10)), #[], #[]⟩), 4, "law.go:99", #[], .none⟩,
  ⟨(.some 6), (.assign (.tmp 18)), 4, "law.go:99", #[⟨0, .data⟩, ⟨0, .chain⟩, ⟨0, .phase⟩], .none⟩]
def law11_DbdWays_a2 : RAnn := ⟨[1, 2, 3, 17, 18], []⟩
def law11_DbdWays_o3 : Array Oper := #[⟨(.some 20), (.load 25 (.tmp 3)), 25, "law.go:101", #[], .none⟩,
  ⟨(.some 21), (.move (.tmp 2)), 3, "law.go:101", #[], .none⟩,
  ⟨(.some 22), (.call ⟨(.value (.func 11)), #[(.tmp 20), (.tmp 21)], #[25, 3]⟩), 30, "law.go:101", #[⟨0, .data⟩, ⟨1, .data⟩], .none⟩,
  ⟨(.some 19), (.move (.tmp 22)), 30, "law.go:101", #[⟨2, .data⟩], .none⟩,
  ⟨(.some 23), (.extract (.tmp 19) 0), 28, "law.go:101", #[⟨3, .data⟩], .none⟩,
  ⟨(.some 24), (.extract (.tmp 19) 1), 29, "law.go:101", #[⟨3, .data⟩, ⟨6, (.gcOnly .lateStores)⟩], .none⟩,
  ⟨(.some 7), (.assign (.tmp 23)), 28, "law.go:101", #[⟨4, .data⟩, ⟨2, .chain⟩, ⟨0, .phase⟩, ⟨1, .phase⟩, ⟨2, .phase⟩, ⟨3, .phase⟩, ⟨4, .phase⟩, ⟨5, (.textOnly .lateStores)⟩], .none⟩,
  ⟨(.some 8), (.assign (.tmp 24)), 29, "law.go:101", #[⟨5, .data⟩, ⟨6, .chain⟩, ⟨0, .phase⟩, ⟨1, .phase⟩, ⟨2, .phase⟩, ⟨3, .phase⟩, ⟨4, .phase⟩, ⟨5, .phase⟩, ⟨6, .phase⟩], .none⟩]
def law11_DbdWays_a3 : RAnn := ⟨[17, 19, 20, 21, 22, 23, 24], []⟩
def law11_DbdWays_o4 : Array Oper := #[⟨(.some 26), (.load 25 (.tmp 3)), 25, "law.go:102", #[], .none⟩,
  ⟨(.some 27), (.move (.tmp 2)), 3, "law.go:102", #[], .none⟩,
  ⟨(.some 28), (.call ⟨(.value (.func 12)), #[(.tmp 26), (.tmp 27)], #[25, 3]⟩), 30, "law.go:102", #[⟨0, .data⟩, ⟨1, .data⟩], .none⟩,
  ⟨(.some 25), (.move (.tmp 28)), 30, "law.go:102", #[⟨2, .data⟩], .none⟩,
  ⟨(.some 29), (.extract (.tmp 25) 0), 28, "law.go:102", #[⟨3, .data⟩], .none⟩,
  ⟨(.some 30), (.extract (.tmp 25) 1), 29, "law.go:102", #[⟨3, .data⟩, ⟨6, (.gcOnly .lateStores)⟩], .none⟩,
  ⟨(.some 9), (.assign (.tmp 29)), 28, "law.go:102", #[⟨4, .data⟩, ⟨2, .chain⟩, ⟨0, .phase⟩, ⟨1, .phase⟩, ⟨2, .phase⟩, ⟨3, .phase⟩, ⟨4, .phase⟩, ⟨5, (.textOnly .lateStores)⟩], .none⟩,
  ⟨(.some 10), (.assign (.tmp 30)), 29, "law.go:102", #[⟨5, .data⟩, ⟨6, .chain⟩, ⟨0, .phase⟩, ⟨1, .phase⟩, ⟨2, .phase⟩, ⟨3, .phase⟩, ⟨4, .phase⟩, ⟨5, .phase⟩, ⟨6, .phase⟩], .none⟩]
def law11_DbdWays_a4 : RAnn := ⟨[25, 26, 27, 28, 29, 30], []⟩
def law11_DbdWays_o5 : Array Oper := #[⟨(.some 31), (.move (.tmp 7)), 28, "law.go:103", #[], .none⟩,
  ⟨(.some 32), (.move (.tmp 9)), 28, "law.go:103", #[], .none⟩,
  ⟨(.some 33), (.call ⟨(.value (.func 13)), #[(.tmp 31), (.tmp 32)], #[28, 28]⟩), 4, "law.go:103", #[⟨0, .data⟩, ⟨1, .data⟩], .none⟩,
  ⟨(.some 34), (.unOp .not 4 (.tmp 33)), 4, "law.go:103", #[⟨2, .data⟩], .none⟩,
  ⟨(.some 35), (.move (.tmp 34)), 4, "law.go:103", #[⟨3, .data⟩, ⟨2, .chain⟩], .none⟩,
  ⟨(.some 36), (.move (.tmp 8)), 29, "law.go:103", #[⟨4, .guard⟩], (.some (4, false))⟩,
  ⟨(.some 37), (.move (.tmp 10)), 29, "law.go:103", #[⟨4, .guard⟩], (.some (4, false))⟩,
  ⟨(.some 38), (.binOp .neq 29 (.tmp 36) (.tmp 37) 29), 4, "law.go:103", #[⟨5, .data⟩, ⟨6, .data⟩, ⟨4, .guard⟩], (.some (4, false))⟩,
  ⟨(.some 39), (.pick (.tmp 35) (.const (.bool true)) (.tmp 38)), 4, "law.go:103", #[⟨4, .data⟩, ⟨7, .data⟩], .none⟩,
  ⟨(.some 40), (.move (.tmp 39)), 4, "law.go:103", #[⟨8, .data⟩, ⟨4, .chain⟩], .none⟩,
  ⟨(.some 41), (.move (.tmp 8)), 29, "law.go:103", #[⟨9, .guard⟩], (.some (9, false))⟩,
  ⟨(.some 42), (.binOp .eql 29 (.tmp 41) (.const (.int .i64 0)) 29), 4, "law.go:103", #[⟨10, .data⟩, ⟨9, .guard⟩], (.some (9, false))⟩,
  ⟨(.some 43), (.move (.tmp 42)), 4, "law.go:103", #[⟨11, .data⟩, ⟨9, .chain⟩, ⟨9, .guard⟩], (.some (9, false))⟩,
  ⟨(.some 44), (.move (.tmp 7)), 28, "law.go:103", #[⟨12, .guard⟩], (.some (12, true))⟩,
  ⟨(.some 45), (.move (.tmp 7)), 28, "law.go:103", #[⟨12, .guard⟩], (.some (12, true))⟩,
  ⟨(.some 46), (.call ⟨(.builtin .len), #[(.tmp 45)], #[28]⟩), 3, "law.go:103", #[⟨14, .data⟩, ⟨12, .guard⟩], (.some (12, true))⟩,
  ⟨(.some 47), (.binOp .sub 3 (.tmp 46) (.const (.int .i64 1)) 3), 3, "law.go:103", #[⟨15, .data⟩, ⟨12, .guard⟩], (.some (12, true))⟩,
  ⟨(.some 48), (.indexAddr 28 (.tmp 44) (.tmp 47)), 0, "law.go:103", #[⟨13, .data⟩, ⟨16, .data⟩, ⟨12, .guard⟩], (.some (12, true))⟩,
  ⟨(.some 49), (.load 3 (.tmp 48)), 3, "law.go:103", #[⟨17, .data⟩, ⟨12, .guard⟩], (.some (12, true))⟩,
  ⟨(.some 50), (.move (.tmp 2)), 3, "law.go:103", #[⟨12, .guard⟩], (.some (12, true))⟩,
  ⟨(.some 51), (.binOp .neq 3 (.tmp 49) (.tmp 50) 3), 4, "law.go:103", #[⟨18, .data⟩, ⟨19, .data⟩, ⟨12, .guard⟩], (.some (12, true))⟩,
  ⟨(.some 52), (.pick (.tmp 43) (.tmp 51) (.const (.bool false))), 4, "law.go:103", #[⟨12, .data⟩, ⟨20, .data⟩, ⟨9, .guard⟩], (.some (9, false))⟩,
  ⟨(.some 53), (.pick (.tmp 40) (.const (.bool true)) (.tmp 52)), 4, "law.go:103", #[⟨9, .data⟩, ⟨21, .data⟩], .none⟩]
def law11_DbdWays_a5 : RAnn := ⟨[8, 9, 10, 31, 32, 33, 34, 35, 36, 37, 38, 39, 40, 41, 42, 43, 44, 45, 46, 47, 48, 49, 50, 51, 52], []⟩
def law11_DbdWays_o6 : Array Oper := #[⟨(.some 6), (.assign (.const (.bool false))), 4, "law.go:104", #[], .none⟩]
def law11_DbdWays_a6 : RAnn := ⟨[1, 2, 3, 7, 53], []⟩
def law11_DbdWays_o7 : Array Oper := #[⟨(.some 55), (.load 25 (.tmp 3)), 25, "law.go:106", #[], .none⟩,
  ⟨(.some 56), (.move (.tmp 2)), 3, "law.go:106", #[], .none⟩,
  ⟨(.some 57), (.call ⟨(.value (.func 14)), #[(.tmp 55), (.tmp 56)], #[25, 3]⟩), 33, "law.go:106", #[⟨0, .data⟩, ⟨1, .data⟩], .none⟩,
  ⟨(.some 54), (.move (.tmp 57)), 33, "law.go:106", #[⟨2, .data⟩], .none⟩,
  ⟨(.some 58), (.extract (.tmp 54) 0), 3, "law.go:106", #[⟨3, .data⟩], .none⟩,
  ⟨(.some 59), (.extract (.tmp 54) 1), 29, "law.go:106", #[⟨3, .data⟩, ⟨6, (.gcOnly .lateStores)⟩], .none⟩,
  ⟨(.some 11), (.assign (.tmp 58)), 3, "law.go:106", #[⟨4, .data⟩, ⟨2, .chain⟩, ⟨0, .phase⟩, ⟨1, .phase⟩, ⟨2, .phase⟩, ⟨3, .phase⟩, ⟨4, .phase⟩, ⟨5, (.textOnly .lateStores)⟩], .none⟩,
  ⟨(.some 8), (.assign (.tmp 59)), 29, "law.go:106", #[⟨5, .data⟩, ⟨6, .chain⟩, ⟨0, .phase⟩, ⟨1, .phase⟩, ⟨2, .phase⟩, ⟨3, .phase⟩, ⟨4, .phase⟩, ⟨5, .phase⟩, ⟨6, .phase⟩], .none⟩]
def law11_DbdWays_a7 : RAnn := ⟨[53, 54, 55, 56, 57, 58, 59], []⟩
def law11_DbdWays_o8 : Array Oper := #[⟨(.some 61), (.load 25 (.tmp 3)), 25, "law.go:107", #[], .none⟩,
  ⟨(.some 62), (.move (.tmp 2)), 3, "law.go:107", #[], .none⟩,
  ⟨(.some 63), (.call ⟨(.value (.func 15)), #[(.tmp 61), (.tmp 62)], #[25, 3]⟩), 33, "law.go:107", #[⟨0, .data⟩, ⟨1, .data⟩], .none⟩,
  ⟨(.some 60), (.move (.tmp 63)), 33, "law.go:107", #[⟨2, .data⟩], .none⟩,
  ⟨(.some 64), (.extract (.tmp 60) 0), 3, "law.go:107", #[⟨3, .data⟩], .none⟩,
  ⟨(.some 65), (.extract (.tmp 60) 1), 29, "law.go:107", #[⟨3, .data⟩, ⟨6, (.gcOnly .lateStores)⟩], .none⟩,
  ⟨(.some 12), (.assign (.tmp 64)), 3, "law.go:107", #[⟨4, .data⟩, ⟨2, .chain⟩, ⟨0, .phase⟩, ⟨1, .phase⟩, ⟨2, .phase⟩, ⟨3, .phase⟩, ⟨4, .phase⟩, ⟨5, (.textOnly .lateStores)⟩], .none⟩,
  ⟨(.some 10), (.assign (.tmp 65)), 29, "law.go:107", #[⟨5, .data⟩, ⟨6, .chain⟩, ⟨0, .phase⟩, ⟨1, .phase⟩, ⟨2, .phase⟩, ⟨3, .phase⟩, ⟨4, .phase⟩, ⟨5, .phase⟩, ⟨6, .phase⟩], .none⟩]
def law11_DbdWays_a8 : RAnn := ⟨[60, 61, 62, 63, 64, 65], []⟩
def law11_DbdWays_o9 : Array Oper := #[⟨(.some 66), (.move (.tmp 11)), 3, "law.go:108", #[], .none⟩,
  ⟨(.some 67), (.move (.tmp 12)), 3, "law.go:108", #[], .none⟩,
  ⟨(.some 68), (.binOp .neq 3 (.tmp 66) (.tmp 67) 3), 4, "law.go:108", #[⟨0, .data⟩, ⟨1, .data⟩], .none⟩,
  ⟨(.some 69), (.move (.tmp 68)), 4, "law.go:108", #[⟨2, .data⟩], .none⟩,
  ⟨(.some 70), (.move (.tmp 8)), 29, "law.go:108", #[⟨3, .guard⟩], (.some (3, false))⟩,
  ⟨(.some 71), (.move (.tmp 10)), 29, "law.go:108", #[⟨3, .guard⟩], (.some (3, false))⟩,
  ⟨(.some 72), (.binOp .neq 29 (.tmp 70) (.tmp 71) 29), 4, "law.go:108", #[⟨4, .data⟩, ⟨5, .data⟩, ⟨3, .guard⟩], (.some (3, false))⟩,
  ⟨(.some 73), (.pick (.tmp 69) (.const (.bool true)) (.tmp 72)), 4, "law.go:108", #[⟨3, .data⟩, ⟨6, .data⟩], .none⟩,
  ⟨(.some 74), (.move (.tmp 73)), 4, "law.go:108", #[⟨7, .data⟩, ⟨3, .chain⟩], .none⟩,
  ⟨(.some 75), (.move (.tmp 11)), 3, "law.go:108", #[⟨8, .guard⟩], (.some (8, false))⟩,
  ⟨(.some 76), (.move (.tmp 7)), 28, "law.go:108", #[⟨8, .guard⟩], (.some (8, false))⟩,
  ⟨(.some 77), (.call ⟨(.builtin .len), #[(.tmp 76)], #[28]⟩), 3, "law.go:108", #[⟨10, .data⟩, ⟨8, .guard⟩], (.some (8, false))⟩,
  ⟨(.some 78), (.binOp .neq 3 (.tmp 75) (.tmp 77) 3), 4, "law.go:108", #[⟨9, .data⟩, ⟨11, .data⟩, ⟨8, .guard⟩], (.some (8, false))⟩,
  ⟨(.some 79), (.pick (.tmp 74) (.const (.bool true)) (.tmp 78)), 4, "law.go:108", #[⟨8, .data⟩, ⟨12, .data⟩], .none⟩]
def law11_DbdWays_a9 : RAnn := ⟨[7, 8, 10, 11, 12, 66, 67, 68, 69, 70, 71, 72, 73, 74, 75, 76, 77, 78], []⟩
def law11_DbdWays_o10 : Array Oper := #[⟨(.some 6), (.assign (.const (.bool false))), 4, "law.go:109", #[], .none⟩]
def law11_DbdWays_a10 : RAnn := ⟨[1, 2, 3, 79], []⟩
def law11_DbdWays_o11 : Array Oper := #[⟨(.some 81), (.load 25 (.tmp 3)), 25, "law.go:111", #[], .none⟩,
  ⟨(.some 82), (.move (.tmp 2)), 3, "law.go:111", #[], .none⟩,
  ⟨(.some 83), (.call ⟨(.value (.func 16)), #[(.tmp 81), (.tmp 82)], #[25, 3]⟩), 30, "law.go:111", #[⟨0, .data⟩, ⟨1, .data⟩], .none⟩,
  ⟨(.some 80), (.move (.tmp 83)), 30, "law.go:111", #[⟨2, .data⟩], .none⟩,
  ⟨(.some 84), (.extract (.tmp 80) 0), 28, "law.go:111", #[⟨3, .data⟩], .none⟩,
  ⟨(.some 85), (.extract (.tmp 80) 1), 29, "law.go:111", #[⟨3, .data⟩, ⟨6, (.gcOnly .lateStores)⟩], .none⟩,
  ⟨(.some 7), (.assign (.tmp 84)), 28, "law.go:111", #[⟨4, .data⟩, ⟨2, .chain⟩, ⟨0, .phase⟩, ⟨1, .phase⟩, ⟨2, .phase⟩, ⟨3, .phase⟩, ⟨4, .phase⟩, ⟨5, (.textOnly .lateStores)⟩], .none⟩,
  ⟨(.some 8), (.assign (.tmp 85)), 29, "law.go:111", #[⟨5, .data⟩, ⟨6, .chain⟩, ⟨0, .phase⟩, ⟨1, .phase⟩, ⟨2, .phase⟩, ⟨3, .phase⟩, ⟨4, .phase⟩, ⟨5, .phase⟩, ⟨6, .phase⟩], .none⟩]
def law11_DbdWays_a11 : RAnn := ⟨[79, 80, 81, 82, 83, 84, 85], []⟩
def law11_DbdWays_o12 : Array Oper := #[⟨(.some 87), (.load 25 (.tmp 3)), 25, "law.go:112", #[], .none⟩,
  ⟨(.some 88), (.move (.tmp 2)), 3, "law.go:112", #[], .none⟩,
  ⟨(.some 89), (.call ⟨(.value (.func 17)), #[(.tmp 87), (.tmp 88)], #[25, 3]⟩), 30, "law.go:112", #[⟨0, .data⟩, ⟨1, .data⟩], .none⟩,
  ⟨(.some 86), (.move (.tmp 89)), 30, "law.go:112", #[⟨2, .data⟩], .none⟩,
  ⟨(.some 90), (.extract (.tmp 86) 0), 28, "law.go:112", #[⟨3, .data⟩], .none⟩,
  ⟨(.some 91), (.extract (.tmp 86) 1), 29, "law.go:112", #[⟨3, .data⟩, ⟨6, (.gcOnly .lateStores)⟩], .none⟩,
  ⟨(.some 9), (.assign (.tmp 90)), 28, "law.go:112", #[⟨4, .data⟩, ⟨2, .chain⟩, ⟨0, .phase⟩, ⟨1, .phase⟩, ⟨2, .phase⟩, ⟨3, .phase⟩, ⟨4, .phase⟩, ⟨5, (.textOnly .lateStores)⟩], .none⟩,
  ⟨(.some 10), (.assign (.tmp 91)), 29, "law.go:112", #[⟨5, .data⟩, ⟨6, .chain⟩, ⟨0, .phase⟩, ⟨1, .phase⟩, ⟨2, .phase⟩, ⟨3, .phase⟩, ⟨4, .phase⟩, ⟨5, .phase⟩, ⟨6, .phase⟩], .none⟩]
def law11_DbdWays_a12 : RAnn := ⟨[86, 87, 88, 89, 90, 91], []⟩
def law11_DbdWays_o13 : Array Oper := #[⟨(.some 92), (.move (.tmp 7)), 28, "law.go:113", #[], .none⟩,
  ⟨(.some 93), (.move (.tmp 9)), 28, "law.go:113", #[], .none⟩,
  ⟨(.some 94), (.call ⟨(.value (.func 13)), #[(.tmp 92), (.tmp 93)], #[28, 28]⟩), 4, "law.go:113", #[⟨0, .data⟩, ⟨1, .data⟩], .none⟩,
  ⟨(.some 95), (.unOp .not 4 (.tmp 94)), 4, "law.go:113", #[⟨2, .data⟩], .none⟩,
  ⟨(.some 96), (.move (.tmp 95)), 4, "law.go:113", #[⟨3, .data⟩, ⟨2, .chain⟩], .none⟩,
  ⟨(.some 97), (.move (.tmp 8)), 29, "law.go:113", #[⟨4, .guard⟩], (.some (4, false))⟩,
  ⟨(.some 98), (.move (.tmp 10)), 29, "law.go:113", #[⟨4, .guard⟩], (.some (4, false))⟩,
  ⟨(.some 99), (.binOp .neq 29 (.tmp 97) (.tmp 98) 29), 4, "law.go:113", #[⟨5, .data⟩, ⟨6, .data⟩, ⟨4, .guard⟩], (.some (4, false))⟩,
  ⟨(.some 100), (.pick (.tmp 96) (.const (.bool true)) (.tmp 99)), 4, "law.go:113", #[⟨4, .data⟩, ⟨7, .data⟩], .none⟩]
def law11_DbdWays_a13 : RAnn := ⟨[7, 8, 9, 10, 92, 93, 94, 95, 96, 97, 98, 99], []⟩
def law11_DbdWays_o14 : Array Oper := #[⟨(.some 6), (.assign (.const (.bool false))), 4, "law.go:114", #[], .none⟩]
def law11_DbdWays_a14 : RAnn := ⟨[1, 2, 3, 100], []⟩
def law11_DbdWays_o15 : Array Oper := #[⟨(.some 102), (.load 25 (.tmp 3)), 25, "law.go:116", #[], .none⟩,
  ⟨(.some 103), (.move (.tmp 1)), 3, "law.go:116", #[], .none⟩,
  ⟨(.some 104), (.move (.tmp 2)), 3, "law.go:116", #[], .none⟩,
  ⟨(.some 105), (.call ⟨(.value (.func 18)), #[(.tmp 102), (.tmp 103), (.tmp 104)], #[25, 3, 3]⟩), 35, "law.go:116", #[⟨0, .data⟩, ⟨1, .data⟩, ⟨2, .data⟩], .none⟩,
  ⟨(.some 101), (.move (.tmp 105)), 35, "law.go:116", #[⟨3, .data⟩], .none⟩,
  ⟨(.some 106), (.extract (.tmp 101) 0), 4, "law.go:116", #[⟨4, .data⟩], .none⟩,
  ⟨(.some 107), (.extract (.tmp 101) 1), 29, "law.go:116", #[⟨4, .data⟩, ⟨7, (.gcOnly .lateStores)⟩], .none⟩,
  ⟨(.some 13), (.assign (.tmp 106)), 4, "law.go:116", #[⟨5, .data⟩, ⟨3, .chain⟩, ⟨0, .phase⟩, ⟨1, .phase⟩, ⟨2, .phase⟩, ⟨3, .phase⟩, ⟨4, .phase⟩, ⟨5, .phase⟩, ⟨6, (.textOnly .lateStores)⟩], .none⟩,
  ⟨(.some 8), (.assign (.tmp 107)), 29, "law.go:116", #[⟨6, .data⟩, ⟨7, .chain⟩, ⟨0, .phase⟩, ⟨1, .phase⟩, ⟨2, .phase⟩, ⟨3, .phase⟩, ⟨4, .phase⟩, ⟨5, .phase⟩, ⟨6, .phase⟩, ⟨7, .phase⟩], .none⟩]
def law11_DbdWays_a15 : RAnn := ⟨[100, 101, 102, 103, 104, 105, 106, 107], []⟩
def law11_DbdWays_o16 : Array Oper := #[⟨(.some 109), (.load 25 (.tmp 3)), 25, "law.go:117", #[], .none⟩,
  ⟨(.some 110), (.move (.tmp 1)), 3, "law.go:117", #[], .none⟩,
  ⟨(.some 111), (.move (.tmp 2)), 3, "law.go:117", #[], .none⟩,
  ⟨(.some 112), (.call ⟨(.value (.func 19)), #[(.tmp 109), (.tmp 110), (.tmp 111)], #[25, 3, 3]⟩), 35, "law.go:117", #[⟨0, .data⟩, ⟨1, .data⟩, ⟨2, .data⟩], .none⟩,
  ⟨(.some 108), (.move (.tmp 112)), 35, "law.go:117", #[⟨3, .data⟩], .none⟩,
  ⟨(.some 113), (.extract (.tmp 108) 0), 4, "law.go:117", #[⟨4, .data⟩], .none⟩,
  ⟨(.some 114), (.extract (.tmp 108) 1), 29, "law.go:117", #[⟨4, .data⟩, ⟨7, (.gcOnly .lateStores)⟩], .none⟩,
  ⟨(.some 14), (.assign (.tmp 113)), 4, "law.go:117", #[⟨5, .data⟩, ⟨3, .chain⟩, ⟨0, .phase⟩, ⟨1, .phase⟩, ⟨2, .phase⟩, ⟨3, .phase⟩, ⟨4, .phase⟩, ⟨5, .phase⟩, ⟨6, (.textOnly .lateStores)⟩], .none⟩,
  ⟨(.some 10), (.assign (.tmp 114)), 29, "law.go:117", #[⟨6, .data⟩, ⟨7, .chain⟩, ⟨0, .phase⟩, ⟨1, .phase⟩, ⟨2, .phase⟩, ⟨3, .phase⟩, ⟨4, .phase⟩, ⟨5, .phase⟩, ⟨6, .phase⟩, ⟨7, .phase⟩], .none⟩]
def law11_DbdWays_a16 : RAnn := ⟨[1, 2, 3, 108, 109, 110, 111, 112, 113, 114], []⟩
def law11_DbdWays_o17 : Array Oper := #[⟨(.some 115), (.move (.tmp 13)), 4, "law.go:118", #[], .none⟩,
  ⟨(.some 116), (.move (.tmp 14)), 4, "law.go:118", #[], .none⟩,
  ⟨(.some 117), (.binOp .eql 4 (.tmp 115) (.tmp 116) 4), 4, "law.go:118", #[⟨0, .data⟩, ⟨1, .data⟩], .none⟩,
  ⟨(.some 118), (.move (.tmp 117)), 4, "law.go:118", #[⟨2, .data⟩], .none⟩,
  ⟨(.some 119), (.move (.tmp 8)), 29, "law.go:118", #[⟨3, .guard⟩], (.some (3, true))⟩,
  ⟨(.some 120), (.move (.tmp 10)), 29, "law.go:118", #[⟨3, .guard⟩], (.some (3, true))⟩,
  ⟨(.some 121), (.binOp .eql 29 (.tmp 119) (.tmp 120) 29), 4, "law.go:118", #[⟨4, .data⟩, ⟨5, .data⟩, ⟨3, .guard⟩], (.some (3, true))⟩,
  ⟨(.some 122), (.pick (.tmp 118) (.tmp 121) (.const (.bool false))), 4, "law.go:118", #[⟨3, .data⟩, ⟨6, .data⟩], .none⟩,
  ⟨(.some 123), (.move (.tmp 122)), 4, "law.go:118", #[⟨7, .data⟩, ⟨3, .chain⟩], .none⟩,
  ⟨(.some 124), (.call ⟨(.value (.func 10)), #[], #[]⟩), 4, "law.go:118", #[⟨8, .chain⟩, ⟨8, .guard⟩], (.some (8, true))⟩,
  ⟨(.some 125), (.pick (.tmp 123) (.tmp 124) (.const (.bool false))), 4, "law.go:118", #[⟨8, .data⟩, ⟨9, .data⟩], .none⟩,
  ⟨(.some 6), (.assign (.tmp 125)), 4, "law.go:118", #[⟨10, .data⟩, ⟨9, .chain⟩, ⟨0, .phase⟩, ⟨1, .phase⟩, ⟨2, .phase⟩, ⟨3, .phase⟩, ⟨4, .phase⟩, ⟨5, .phase⟩, ⟨6, .phase⟩, ⟨7, .phase⟩, ⟨8, .phase⟩, ⟨9, .phase⟩, ⟨10, .phase⟩], .none⟩]
def law11_DbdWays_a17 : RAnn := ⟨[8, 10, 13, 14, 115, 116, 117, 118, 119, 120, 121, 122, 123, 124, 125], []⟩
def law11_DbdWays_c : Code := (.seq (.region 0 law11_DbdWays_o0 false) (.seq (.seq (.region 1 law11_DbdWays_o1 false) (.cond (.tmp 17) (.seq (.region 2 law11_DbdWays_o2 false) .ret) .skip)) (.seq (.region 3 law11_DbdWays_o3 false) (.seq (.region 4 law11_DbdWays_o4 false) (.seq (.seq (.region 5 law11_DbdWays_o5 false) (.cond (.tmp 53) (.seq (.region 6 law11_DbdWays_o6 false) .ret) .skip)) (.seq (.region 7 law11_DbdWays_o7 false) (.seq (.region 8 law11_DbdWays_o8 false) (.seq (.seq (.region 9 law11_DbdWays_o9 false) (.cond (.tmp 79) (.seq (.region 10 law11_DbdWays_o10 false) .ret) .skip)) (.seq (.region 11 law11_DbdWays_o11 false) (.seq (.region 12 law11_DbdWays_o12 false) (.seq (.seq (.region 13 law11_DbdWays_o13 false) (.cond (.tmp 100) (.seq (.region 14 law11_DbdWays_o14 false) .ret) .skip)) (.seq (.region 15 law11_DbdWays_o15 false) (.seq (.region 16 law11_DbdWays_o16 false) (.seq (.region 17 law11_DbdWays_o17 false) .ret))))))))))))))
def law11_DbdWays_an : List (Nat × RAnn) := [(0, law11_DbdWays_a0), (1, law11_DbdWays_a1), (2, law11_DbdWays_a2), (3, law11_DbdWays_a3), (4, law11_DbdWays_a4), (5, law11_DbdWays_a5), (6, law11_DbdWays_a6), (7, law11_DbdWays_a7), (8, law11_DbdWays_a8), (9, law11_DbdWays_a9), (10, law11_DbdWays_a10), (11, law11_DbdWays_a11), (12, law11_DbdWays_a12), (13, law11_DbdWays_a13), (14, law11_DbdWays_a14), (15, law11_DbdWays_a15), (16, law11_DbdWays_a16), (17, law11_DbdWays_a17)]
def dbd_Type_1_o0 : Array Oper := #[⟨(.some 2), (.box 55 (.tmp 0)), 0, "dbd.go:117", #[], .none⟩,
  ⟨(.some 3), (.assign (.const (.bool false))), 4, "dbd.go:117", #[], .none⟩]
def dbd_Type_1_a0 : RAnn := ⟨[0, 3], []⟩
def dbd_Type_1_o1 : Array Oper := #[⟨(.some 4), (.fieldAddr 55 (.tmp 2) 0), 0, "dbd.go:117", #[], .none⟩,
  ⟨(.some 5), (.load 9 (.tmp 4)), 9, "dbd.go:117", #[⟨0, .data⟩], .none⟩,
  ⟨(.some 6), (.load 9 (.tmp 1)), 9, "dbd.go:117", #[], .none⟩,
  ⟨(.some 7), (.binOp .eql 9 (.tmp 5) (.tmp 6) 9), 4, "dbd.go:117", #[⟨1, .data⟩, ⟨2, .data⟩], .none⟩,
  ⟨(.some 3), (.assign (.tmp 7)), 4, "dbd.go:117", #[⟨3, .data⟩, ⟨0, .phase⟩, ⟨1, .phase⟩, ⟨2, .phase⟩, ⟨3, .phase⟩], .none⟩]
def dbd_Type_1_a1 : RAnn := ⟨[1, 2, 4, 5, 6, 7], []⟩
def dbd_Type_1_c : Code := (.seq (.region 0 dbd_Type_1_o0 false) (.seq (.region 1 dbd_Type_1_o1 false) .ret))
def dbd_Type_1_an : List (Nat × RAnn) := [(0, dbd_Type_1_a0), (1, dbd_Type_1_a1)]
def dbd_index_o0 : Array Oper := #[⟨(.some 2), (.assign (.const (.int .i64 0))), 3, "dbd.go:105", #[], .none⟩,
  ⟨(.some 3), (.assign (.const (.int .i64 0))), 29, "dbd.go:105", #[⟨0, .chain⟩], .none⟩]
def dbd_index_a0 : RAnn := ⟨[2, 3], []⟩
def dbd_index_o1 : Array Oper := #[⟨(.some 4), (.move (.tmp 0)), 3, "dbd.go:106", #[], .none⟩,
  ⟨(.some 5), (.binOp .lss 3 (.tmp 4) (.const (.int .i64 0)) 3), 4, "dbd.go:106", #[⟨0, .data⟩], .none⟩]
def dbd_index_a1 : RAnn := ⟨[4], []⟩
def dbd_index_o2 : Array Oper := #[⟨(.some 2), (.assign (.const (.int .i64 0))), 3, "dbd.go:107", #[], .none⟩,
  ⟨(.some 3), (.assign (.const (.int .i64 5))), 29, "dbd.go:107", #[⟨0, .chain⟩, ⟨0, .phase⟩], .none⟩]
def dbd_index_a2 : RAnn := ⟨[0, 5], []⟩
def dbd_index_o3 : Array Oper := #[⟨(.some 6), (.move (.tmp 0)), 3, "dbd.go:109", #[], .none⟩,
  ⟨(.some 2), (.assign (.tmp 6)), 3, "dbd.go:109", #[⟨0, .data⟩, ⟨0, .phase⟩], .none⟩,
  ⟨(.some 3), (.assign (.const (.int .i64 0))), 29, "dbd.go:109", #[⟨1, .chain⟩, ⟨0, .phase⟩, ⟨1, .phase⟩], .none⟩]
def dbd_index_a3 : RAnn := ⟨[0, 5, 6], []⟩
def dbd_index_c : Code := (.seq (.region 0 dbd_index_o0 false) (.seq (.seq (.region 1 dbd_index_o1 false) (.cond (.tmp 5) (.seq (.region 2 dbd_index_o2 false) .ret) .skip)) (.seq (.region 3 dbd_index_o3 false) .ret)))
def dbd_index_an : List (Nat × RAnn) := [(0, dbd_index_a0), (1, dbd_index_a1), (2, dbd_index_a2), (3, dbd_index_a3)]
def dbd_Type_o0 : Array Oper := #[⟨(.some 2), (.box 25 (.tmp 0)), 0, "dbd.go:113", #[], .none⟩,
  ⟨(.some 3), (.box 9 (.tmp 1)), 0, "dbd.go:113", #[], .none⟩,
  ⟨(.some 4), (.assign (.const (.int .i64 0))), 3, "dbd.go:113", #[], .none⟩,
  ⟨(.some 5), (.assign (.const (.int .i64 0))), 29, "dbd.go:113", #[⟨2, .chain⟩], .none⟩]
def dbd_Type_a0 : RAnn := ⟨[0, 1, 4, 5], []⟩
def dbd_Type_o1 : Array Oper := #[⟨(.some 7), (.load 25 (.tmp 2)), 25, "dbd.go:114", #[], .none⟩,
  ⟨(.some 8), (.call ⟨(.value (.func 38)), #[(.tmp 7), (.const (.slice .none 0 0))], #[25, 28]⟩), 29, "dbd.go:114", #[⟨0, .data⟩], .none⟩,
  ⟨(.some 6), (.assign (.tmp 8)), 29, "dbd.go:114", #[⟨1, .data⟩, ⟨1, .chain⟩, ⟨0, .phase⟩, ⟨1, .phase⟩], .none⟩]
def dbd_Type_a1 : RAnn := ⟨[7, 8], []⟩
def dbd_Type_o2 : Array Oper := #[⟨(.some 9), (.move (.tmp 6)), 29, "dbd.go:114", #[], .none⟩,
  ⟨(.some 10), (.binOp .neq 29 (.tmp 9) (.const (.int .i64 0)) 29), 4, "dbd.go:114", #[⟨0, .data⟩], .none⟩]
def dbd_Type_a2 : RAnn := ⟨[9], []⟩
def dbd_Type_o3 : Array Oper := #[⟨(.some 11), (.move (.tmp 6)), 29, "dbd.go:115", #[⟨1, (.gcOnly .lateStores)⟩], .none⟩,
  ⟨(.some 4), (.assign (.const (.int .i64 0))), 3, "dbd.go:115", #[⟨0, (.textOnly .lateStores)⟩], .none⟩,
  ⟨(.some 5), (.assign (.tmp 11)), 29, "dbd.go:115", #[⟨0, .data⟩, ⟨1, .chain⟩, ⟨0, .phase⟩, ⟨1, .phase⟩], .none⟩]
def dbd_Type_a3 : RAnn := ⟨[2, 3, 6, 10, 11], []⟩
def dbd_Type_o4 : Array Oper := #[⟨(.some 12), (.fieldAddr 25 (.tmp 2) 2), 0, "dbd.go:117", #[], .none⟩,
  ⟨(.some 13), (.load 22 (.tmp 12)), 22, "dbd.go:117", #[⟨0, .data⟩], .none⟩,
  ⟨(.some 14), (.makeFunc (.func 46) #[] #[(.tmp 3)]), 62, "dbd.go:117", #[], .none⟩,
  ⟨(.some 15), (.call ⟨(.value (.func 45)), #[(.tmp 13), (.tmp 14)], #[22, 62]⟩), 3, "dbd.go:117", #[⟨1, .data⟩, ⟨2, .data⟩], .none⟩,
  ⟨(.some 16), (.call ⟨(.value (.func 44)), #[(.tmp 15)], #[3]⟩), 33, "dbd.go:117", #[⟨3, .data⟩, ⟨3, .chain⟩], .none⟩,
  ⟨(.some 17), (.extract (.tmp 16) 0), 3, "dbd.go:117", #[⟨4, .data⟩], .none⟩,
  ⟨(.some 18), (.extract (.tmp 16) 1), 29, "dbd.go:117", #[⟨4, .data⟩], .none⟩,
  ⟨(.some 4), (.assign (.tmp 17)), 3, "dbd.go:117", #[⟨5, .data⟩, ⟨4, .chain⟩, ⟨0, .phase⟩, ⟨1, .phase⟩, ⟨2, .phase⟩, ⟨3, .phase⟩, ⟨4, .phase⟩, ⟨5, .phase⟩, ⟨6, .phase⟩], .none⟩,
  ⟨(.some 5), (.assign (.tmp 18)), 29, "dbd.go:117", #[⟨6, .data⟩, ⟨7, .chain⟩, ⟨0, .phase⟩, ⟨1, .phase⟩, ⟨2, .phase⟩, ⟨3, .phase⟩, ⟨4, .phase⟩, ⟨5, .phase⟩, ⟨6, .phase⟩, ⟨7, .phase⟩], .none⟩]
def dbd_Type_a4 : RAnn := ⟨[2, 3, 6, 10, 12, 13, 14, 15, 16, 17, 18], []⟩
def dbd_Type_c : Code := (.seq (.region 0 dbd_Type_o0 false) (.seq (.seq (.region 1 dbd_Type_o1 false) (.seq (.region 2 dbd_Type_o2 false) (.cond (.tmp 10) (.seq (.region 3 dbd_Type_o3 false) .ret) .skip))) (.seq (.region 4 dbd_Type_o4 false) .ret)))
def dbd_Type_an : List (Nat × RAnn) := [(0, dbd_Type_a0), (1, dbd_Type_a1), (2, dbd_Type_a2), (3, dbd_Type_a3), (4, dbd_Type_a4)]
def ref11_Type_o0 : Array Oper := #[⟨(.some 2), (.box 25 (.tmp 0)), 0, "ref.go:224", #[], .none⟩,
  ⟨(.some 4), (.assign (.const (.int .i64 0))), 3, "ref.go:224", #[], .none⟩,
  ⟨(.some 5), (.assign (.const (.int .i64 0))), 29, "ref.go:224", #[⟨1, .chain⟩], .none⟩]
def ref11_Type_a0 : RAnn := ⟨[0, 4, 5], []⟩
def ref11_Type_o1 : Array Oper := #[⟨(.some 8), (.load 25 (.tmp 2)), 25, "ref.go:225", #[], .none⟩,
  ⟨(.some 9), (.call ⟨(.value (.func 40)), #[(.tmp 8), (.const (.slice .none 0 0))], #[25, 28]⟩), 29, "ref.go:225", #[⟨0, .data⟩], .none⟩,
  ⟨(.some 6), (.assign (.tmp 9)), 29, "ref.go:225", #[⟨1, .data⟩, ⟨1, .chain⟩, ⟨0, .phase⟩, ⟨1, .phase⟩], .none⟩]
def ref11_Type_a1 : RAnn := ⟨[8, 9], []⟩
def ref11_Type_o2 : Array Oper := #[⟨(.some 10), (.move (.tmp 6)), 29, "ref.go:225", #[], .none⟩,
  ⟨(.some 11), (.binOp .neq 29 (.tmp 10) (.const (.int .i64 0)) 29), 4, "ref.go:225", #[⟨0, .data⟩], .none⟩]
def ref11_Type_a2 : RAnn := ⟨[10], []⟩
def ref11_Type_o3 : Array Oper := #[⟨(.some 12), (.move (.tmp 6)), 29, "ref.go:226", #[⟨1, (.gcOnly .lateStores)⟩], .none⟩,
  ⟨(.some 4), (.assign (.const (.int .i64 0))), 3, "ref.go:226", #[⟨0, (.textOnly .lateStores)⟩], .none⟩,
  ⟨(.some 5), (.assign (.tmp 12)), 29, "ref.go:226", #[⟨0, .data⟩, ⟨1, .chain⟩, ⟨0, .phase⟩, ⟨1, .phase⟩], .none⟩]
def ref11_Type_a3 : RAnn := ⟨[1, 2, 6, 11, 12], []⟩
def ref11_Type_o4 : Array Oper := #[⟨(.some 7), (.assign (.const (.int .i64 0))), 3, "ref.go:228", #[], .none⟩]
def ref11_Type_a4 : RAnn := ⟨[6, 11], []⟩
def ref11_Type_o5 : Array Oper := #[⟨(.some 13), (.move (.tmp 7)), 3, "ref.go:228", #[], .none⟩,
  ⟨(.some 14), (.fieldAddr 25 (.tmp 2) 2), 0, "ref.go:228", #[], .none⟩,
  ⟨(.some 15), (.load 22 (.tmp 14)), 22, "ref.go:228", #[⟨1, .data⟩], .none⟩,
  ⟨(.some 16), (.call ⟨(.builtin .len), #[(.tmp 15)], #[22]⟩), 3, "ref.go:228", #[⟨2, .data⟩], .none⟩,
  ⟨(.some 17), (.binOp .lss 3 (.tmp 13) (.tmp 16) 3), 4, "ref.go:228", #[⟨0, .data⟩, ⟨3, .data⟩], .none⟩]
def ref11_Type_a5 : RAnn := ⟨[13, 14, 15, 16], []⟩
def ref11_Type_o6 : Array Oper := #[⟨(.some 18), (.move (.tmp 7)), 3, "ref.go:228", #[], .none⟩,
  ⟨(.some 19), (.binOp .add 3 (.tmp 18) (.const (.int .i64 1)) 3), 3, "ref.go:228", #[⟨0, .data⟩], .none⟩,
  ⟨(.some 7), (.assign (.tmp 19)), 3, "ref.go:228", #[⟨1, .data⟩, ⟨0, .phase⟩, ⟨1, .phase⟩], .none⟩]
def ref11_Type_a6 : RAnn := ⟨[18, 19, 27], []⟩
def ref11_Type_o7 : Array Oper := #[⟨(.some 20), (.fieldAddr 25 (.tmp 2) 2), 0, "ref.go:229", #[], .none⟩,
  ⟨(.some 21), (.load 22 (.tmp 20)), 22, "ref.go:229", #[⟨0, .data⟩], .none⟩,
  ⟨(.some 22), (.move (.tmp 7)), 3, "ref.go:229", #[], .none⟩,
  ⟨(.some 23), (.indexAddr 22 (.tmp 21) (.tmp 22)), 0, "ref.go:229", #[⟨1, .data⟩, ⟨2, .data⟩], .none⟩,
  ⟨(.some 24), (.fieldAddr 55 (.tmp 23) 0), 0, "ref.go:229", #[⟨3, .data⟩], .none⟩,
  ⟨(.some 25), (.load 9 (.tmp 24)), 9, "ref.go:229", #[⟨4, .data⟩], .none⟩,
  ⟨(.some 26), (.move (.tmp 1)), 9, "ref.go:229", #[], .none⟩,
  ⟨(.some 27), (.binOp .eql 9 (.tmp 25) (.tmp 26) 9), 4, "ref.go:229", #[⟨5, .data⟩, ⟨6, .data⟩], .none⟩]
def ref11_Type_a7 : RAnn := ⟨[17, 20, 21, 22, 23, 24, 25, 26], []⟩
def ref11_Type_o8 : Array Oper := #[⟨(.some 28), (.move (.tmp 7)), 3, "ref.go:230", #[], .none⟩,
  ⟨(.some 4), (.assign (.tmp 28)), 3, "ref.go:230", #[⟨0, .data⟩, ⟨0, .phase⟩], .none⟩,
  ⟨(.some 5), (.assign (.const (.int .i64 0))), 29, "ref.go:230", #[⟨1, .chain⟩, ⟨0, .phase⟩, ⟨1, .phase⟩], .none⟩]
def ref11_Type_a8 : RAnn := ⟨[1, 2, 7, 27, 28], []⟩
def ref11_Type_o9 : Array Oper := #[⟨(.some 4), (.assign (.const (.int .i64 0))), 3, "ref.go:233", #[], .none⟩,
  ⟨(.some 5), (.assign (.const (.int .i64 5))), 29, "ref.go:233", #[⟨0, .chain⟩, ⟨0, .phase⟩], .none⟩]
def ref11_Type_a9 : RAnn := ⟨[1, 2, 7, 17], []⟩
def ref11_Type_b0 : Code := (.seq (.seq (.region 5 ref11_Type_o5 false) (.cond (.tmp 17) .skip (.exit 0))) (.seq (.block 1 (.seq (.region 7 ref11_Type_o7 false) (.cond (.tmp 27) (.seq (.region 8 ref11_Type_o8 false) .ret) .skip))) (.region 6 ref11_Type_o6 false)))
def ref11_Type_c : Code := (.seq (.region 0 ref11_Type_o0 false) (.seq (.seq (.region 1 ref11_Type_o1 false) (.seq (.region 2 ref11_Type_o2 false) (.cond (.tmp 11) (.seq (.region 3 ref11_Type_o3 false) .ret) .skip))) (.seq (.seq (.region 4 ref11_Type_o4 false) (.block 0 (.loop ref11_Type_b0))) (.seq (.region 9 ref11_Type_o9 false) .ret))))
def ref11_Type_an : List (Nat × RAnn) := [(0, ref11_Type_a0), (1, ref11_Type_a1), (2, ref11_Type_a2), (3, ref11_Type_a3), (4, ref11_Type_a4), (5, ref11_Type_a5), (6, ref11_Type_a6), (7, ref11_Type_a7), (8, ref11_Type_a8), (9, ref11_Type_a9)]
def dbd_Field_1_o0 : Array Oper := #[⟨(.some 2), (.box 65 (.tmp 0)), 0, "dbd.go:125", #[], .none⟩,
  ⟨(.some 3), (.assign (.const (.bool false))), 4, "dbd.go:125", #[], .none⟩]
def dbd_Field_1_a0 : RAnn := ⟨[0, 3], []⟩
def dbd_Field_1_o1 : Array Oper := #[⟨(.some 4), (.fieldAddr 65 (.tmp 2) 0), 0, "dbd.go:125", #[], .none⟩,
  ⟨(.some 5), (.load 9 (.tmp 4)), 9, "dbd.go:125", #[⟨0, .data⟩], .none⟩,
  ⟨(.some 6), (.load 9 (.tmp 1)), 9, "dbd.go:125", #[], .none⟩,
  ⟨(.some 7), (.binOp .eql 9 (.tmp 5) (.tmp 6) 9), 4, "dbd.go:125", #[⟨1, .data⟩, ⟨2, .data⟩], .none⟩,
  ⟨(.some 3), (.assign (.tmp 7)), 4, "dbd.go:125", #[⟨3, .data⟩, ⟨0, .phase⟩, ⟨1, .phase⟩, ⟨2, .phase⟩, ⟨3, .phase⟩], .none⟩]
def dbd_Field_1_a1 : RAnn := ⟨[1, 2, 4, 5, 6, 7], []⟩
def dbd_Field_1_c : Code := (.seq (.region 0 dbd_Field_1_o0 false) (.seq (.region 1 dbd_Field_1_o1 false) .ret))
def dbd_Field_1_an : List (Nat × RAnn) := [(0, dbd_Field_1_a0), (1, dbd_Field_1_a1)]
def dbd_Field_o0 : Array Oper := #[⟨(.some 3), (.box 25 (.tmp 0)), 0, "dbd.go:121", #[], .none⟩,
  ⟨(.some 5), (.box 9 (.tmp 2)), 0, "dbd.go:121", #[], .none⟩,
  ⟨(.some 6), (.assign (.const (.int .i64 0))), 3, "dbd.go:121", #[], .none⟩,
  ⟨(.some 7), (.assign (.const (.int .i64 0))), 29, "dbd.go:121", #[⟨2, .chain⟩], .none⟩]
def dbd_Field_a0 : RAnn := ⟨[0, 2, 6, 7], []⟩
def dbd_Field_o1 : Array Oper := #[⟨(.some 9), (.load 25 (.tmp 3)), 25, "dbd.go:122", #[], .none⟩,
  ⟨(.some 10), (.move (.tmp 1)), 3, "dbd.go:122", #[], .none⟩,
  ⟨(.some 11), (.buildSlice 28 1 #[(0, (.tmp 10))]), 28, "dbd.go:122", #[⟨1, .data⟩], .none⟩,
  ⟨(.some 12), (.call ⟨(.value (.func 38)), #[(.tmp 9), (.tmp 11)], #[25, 28]⟩), 29, "dbd.go:122", #[⟨0, .data⟩, ⟨2, .data⟩], .none⟩,
  ⟨(.some 8), (.assign (.tmp 12)), 29, "dbd.go:122", #[⟨3, .data⟩, ⟨3, .chain⟩, ⟨0, .phase⟩, ⟨1, .phase⟩, ⟨2, .phase⟩, ⟨3, .phase⟩], .none⟩]
def dbd_Field_a1 : RAnn := ⟨[9, 10, 11, 12], []⟩
def dbd_Field_o2 : Array Oper := #[⟨(.some 13), (.move (.tmp 8)), 29, "dbd.go:122", #[], .none⟩,
  ⟨(.some 14), (.binOp .neq 29 (.tmp 13) (.const (.int .i64 0)) 29), 4, "dbd.go:122", #[⟨0, .data⟩], .none⟩]
def dbd_Field_a2 : RAnn := ⟨[13], []⟩
def dbd_Field_o3 : Array Oper := #[⟨(.some 15), (.move (.tmp 8)), 29, "dbd.go:123", #[⟨1, (.gcOnly .lateStores)⟩], .none⟩,
  ⟨(.some 6), (.assign (.const (.int .i64 0))), 3, "dbd.go:123", #[⟨0, (.textOnly .lateStores)⟩], .none⟩,
  ⟨(.some 7), (.assign (.tmp 15)), 29, "dbd.go:123", #[⟨0, .data⟩, ⟨1, .chain⟩, ⟨0, .phase⟩, ⟨1, .phase⟩], .none⟩]
def dbd_Field_a3 : RAnn := ⟨[1, 3, 5, 8, 14, 15], []⟩
def dbd_Field_o4 : Array Oper := #[⟨(.some 16), (.fieldAddr 25 (.tmp 3) 2), 0, "dbd.go:125", #[], .none⟩,
  ⟨(.some 17), (.load 22 (.tmp 16)), 22, "dbd.go:125", #[⟨0, .data⟩], .none⟩,
  ⟨(.some 18), (.move (.tmp 1)), 3, "dbd.go:125", #[], .none⟩,
  ⟨(.some 19), (.indexAddr 22 (.tmp 17) (.tmp 18)), 0, "dbd.go:125", #[⟨1, .data⟩, ⟨2, .data⟩], .none⟩,
  ⟨(.some 20), (.fieldAddr 55 (.tmp 19) 4), 0, "dbd.go:125", #[⟨3, .data⟩], .none⟩,
  ⟨(.some 21), (.load 53 (.tmp 20)), 53, "dbd.go:125", #[⟨4, .data⟩], .none⟩,
  ⟨(.some 22), (.makeFunc (.func 48) #[] #[(.tmp 5)]), 66, "dbd.go:125", #[], .none⟩,
  ⟨(.some 23), (.call ⟨(.value (.func 47)), #[(.tmp 21), (.tmp 22)], #[53, 66]⟩), 3, "dbd.go:125", #[⟨5, .data⟩, ⟨6, .data⟩], .none⟩,
  ⟨(.some 24), (.call ⟨(.value (.func 44)), #[(.tmp 23)], #[3]⟩), 33, "dbd.go:125", #[⟨7, .data⟩, ⟨7, .chain⟩], .none⟩,
  ⟨(.some 25), (.extract (.tmp 24) 0), 3, "dbd.go:125", #[⟨8, .data⟩], .none⟩,
  ⟨(.some 26), (.extract (.tmp 24) 1), 29, "dbd.go:125", #[⟨8, .data⟩], .none⟩,
  ⟨(.some 6), (.assign (.tmp 25)), 3, "dbd.go:125", #[⟨9, .data⟩, ⟨8, .chain⟩, ⟨0, .phase⟩, ⟨1, .phase⟩, ⟨2, .phase⟩, ⟨3, .phase⟩, ⟨4, .phase⟩, ⟨5, .phase⟩, ⟨6, .phase⟩, ⟨7, .phase⟩, ⟨8, .phase⟩, ⟨9, .phase⟩, ⟨10, .phase⟩], .none⟩,
  ⟨(.some 7), (.assign (.tmp 26)), 29, "dbd.go:125", #[⟨10, .data⟩, ⟨11, .chain⟩, ⟨0, .phase⟩, ⟨1, .phase⟩, ⟨2, .phase⟩, ⟨3, .phase⟩, ⟨4, .phase⟩, ⟨5, .phase⟩, ⟨6, .phase⟩, ⟨7, .phase⟩, ⟨8, .phase⟩, ⟨9, .phase⟩, ⟨10, .phase⟩, ⟨11, .phase⟩], .none⟩]
def dbd_Field_a4 : RAnn := ⟨[1, 3, 5, 8, 14, 16, 17, 18, 19, 20, 21, 22, 23, 24, 25, 26], []⟩
def dbd_Field_c : Code := (.seq (.region 0 dbd_Field_o0 false) (.seq (.seq (.region 1 dbd_Field_o1 false) (.seq (.region 2 dbd_Field_o2 false) (.cond (.tmp 14) (.seq (.region 3 dbd_Field_o3 false) .ret) .skip))) (.seq (.region 4 dbd_Field_o4 false) .ret)))
def dbd_Field_an : List (Nat × RAnn) := [(0, dbd_Field_a0), (1, dbd_Field_a1), (2, dbd_Field_a2), (3, dbd_Field_a3), (4, dbd_Field_a4)]
def ref11_Field_o0 : Array Oper := #[⟨(.some 3), (.box 25 (.tmp 0)), 0, "ref.go:237", #[], .none⟩,
  ⟨(.some 6), (.assign (.const (.int .i64 0))), 3, "ref.go:237", #[], .none⟩,
  ⟨(.some 7), (.assign (.const (.int .i64 0))), 29, "ref.go:237", #[⟨1, .chain⟩], .none⟩]
def ref11_Field_a0 : RAnn := ⟨[0, 6, 7], []⟩
def ref11_Field_o1 : Array Oper := #[⟨(.some 10), (.load 25 (.tmp 3)), 25, "ref.go:238", #[], .none⟩,
  ⟨(.some 11), (.move (.tmp 1)), 3, "ref.go:238", #[], .none⟩,
  ⟨(.some 12), (.buildSlice 28 1 #[(0, (.tmp 11))]), 28, "ref.go:238", #[⟨1, .data⟩], .none⟩,
  ⟨(.some 13), (.call ⟨(.value (.func 40)), #[(.tmp 10), (.tmp 12)], #[25, 28]⟩), 29, "ref.go:238", #[⟨0, .data⟩, ⟨2, .data⟩], .none⟩,
  ⟨(.some 8), (.assign (.tmp 13)), 29, "ref.go:238", #[⟨3, .data⟩, ⟨3, .chain⟩, ⟨0, .phase⟩, ⟨1, .phase⟩, ⟨2, .phase⟩, ⟨3, .phase⟩], .none⟩]
def ref11_Field_a1 : RAnn := ⟨[10, 11, 12, 13], []⟩
def ref11_Field_o2 : Array Oper := #[⟨(.some 14), (.move (.tmp 8)), 29, "ref.go:238", #[], .none⟩,
  ⟨(.some 15), (.binOp .neq 29 (.tmp 14) (.const (.int .i64 0)) 29), 4, "ref.go:238", #[⟨0, .data⟩], .none⟩]
def ref11_Field_a2 : RAnn := ⟨[14], []⟩
def ref11_Field_o3 : Array Oper := #[⟨(.some 16), (.move (.tmp 8)), 29, "ref.go:239", #[⟨1, (.gcOnly .lateStores)⟩], .none⟩,
  ⟨(.some 6), (.assign (.const (.int .i64 0))), 3, "ref.go:239", #[⟨0, (.textOnly .lateStores)⟩], .none⟩,
  ⟨(.some 7), (.assign (.tmp 16)), 29, "ref.go:239", #[⟨0, .data⟩, ⟨1, .chain⟩, ⟨0, .phase⟩, ⟨1, .phase⟩], .none⟩]
def ref11_Field_a3 : RAnn := ⟨[1, 2, 3, 8, 15, 16], []⟩
def ref11_Field_o4 : Array Oper := #[⟨(.some 9), (.assign (.const (.int .i64 0))), 3, "ref.go:241", #[], .none⟩]
def ref11_Field_a4 : RAnn := ⟨[8, 15], []⟩
def ref11_Field_o5 : Array Oper := #[⟨(.some 17), (.move (.tmp 9)), 3, "ref.go:241", #[], .none⟩,
  ⟨(.some 18), (.fieldAddr 25 (.tmp 3) 2), 0, "ref.go:241", #[], .none⟩,
  ⟨(.some 19), (.load 22 (.tmp 18)), 22, "ref.go:241", #[⟨1, .data⟩], .none⟩,
  ⟨(.some 20), (.move (.tmp 1)), 3, "ref.go:241", #[], .none⟩,
  ⟨(.some 21), (.indexAddr 22 (.tmp 19) (.tmp 20)), 0, "ref.go:241", #[⟨2, .data⟩, ⟨3, .data⟩], .none⟩,
  ⟨(.some 22), (.fieldAddr 55 (.tmp 21) 4), 0, "ref.go:241", #[⟨4, .data⟩], .none⟩,
  ⟨(.some 23), (.load 53 (.tmp 22)), 53, "ref.go:241", #[⟨5, .data⟩], .none⟩,
  ⟨(.some 24), (.call ⟨(.builtin .len), #[(.tmp 23)], #[53]⟩), 3, "ref.go:241", #[⟨6, .data⟩], .none⟩,
  ⟨(.some 25), (.binOp .lss 3 (.tmp 17) (.tmp 24) 3), 4, "ref.go:241", #[⟨0, .data⟩, ⟨7, .data⟩], .none⟩]
def ref11_Field_a5 : RAnn := ⟨[17, 18, 19, 20, 21, 22, 23, 24], []⟩
def ref11_Field_o6 : Array Oper := #[⟨(.some 26), (.move (.tmp 9)), 3, "ref.go:241", #[], .none⟩,
  ⟨(.some 27), (.binOp .add 3 (.tmp 26) (.const (.int .i64 1)) 3), 3, "ref.go:241", #[⟨0, .data⟩], .none⟩,
  ⟨(.some 9), (.assign (.tmp 27)), 3, "ref.go:241", #[⟨1, .data⟩, ⟨0, .phase⟩, ⟨1, .phase⟩], .none⟩]
def ref11_Field_a6 : RAnn := ⟨[26, 27, 39], []⟩
def ref11_Field_o7 : Array Oper := #[⟨(.some 28), (.fieldAddr 25 (.tmp 3) 2), 0, "ref.go:242", #[], .none⟩,
  ⟨(.some 29), (.load 22 (.tmp 28)), 22, "ref.go:242", #[⟨0, .data⟩], .none⟩,
  ⟨(.some 30), (.move (.tmp 1)), 3, "ref.go:242", #[], .none⟩,
  ⟨(.some 31), (.indexAddr 22 (.tmp 29) (.tmp 30)), 0, "ref.go:242", #[⟨1, .data⟩, ⟨2, .data⟩], .none⟩,
  ⟨(.some 32), (.fieldAddr 55 (.tmp 31) 4), 0, "ref.go:242", #[⟨3, .data⟩], .none⟩,
  ⟨(.some 33), (.load 53 (.tmp 32)), 53, "ref.go:242", #[⟨4, .data⟩], .none⟩,
  ⟨(.some 34), (.move (.tmp 9)), 3, "ref.go:242", #[], .none⟩,
  ⟨(.some 35), (.indexAddr 53 (.tmp 33) (.tmp 34)), 0, "ref.go:242", #[⟨5, .data⟩, ⟨6, .data⟩], .none⟩,
  ⟨(.some 36), (.fieldAddr 65 (.tmp 35) 0), 0, "ref.go:242", #[⟨7, .data⟩], .none⟩,
  ⟨(.some 37), (.load 9 (.tmp 36)), 9, "ref.go:242", #[⟨8, .data⟩], .none⟩,
  ⟨(.some 38), (.move (.tmp 2)), 9, "ref.go:242", #[], .none⟩,
  ⟨(.some 39), (.binOp .eql 9 (.tmp 37) (.tmp 38) 9), 4, "ref.go:242", #[⟨9, .data⟩, ⟨10, .data⟩], .none⟩]
def ref11_Field_a7 : RAnn := ⟨[25, 28, 29, 30, 31, 32, 33, 34, 35, 36, 37, 38], []⟩
def ref11_Field_o8 : Array Oper := #[⟨(.some 40), (.move (.tmp 9)), 3, "ref.go:243", #[], .none⟩,
  ⟨(.some 6), (.assign (.tmp 40)), 3, "ref.go:243", #[⟨0, .data⟩, ⟨0, .phase⟩], .none⟩,
  ⟨(.some 7), (.assign (.const (.int .i64 0))), 29, "ref.go:243", #[⟨1, .chain⟩, ⟨0, .phase⟩, ⟨1, .phase⟩], .none⟩]
def ref11_Field_a8 : RAnn := ⟨[1, 2, 3, 9, 39, 40], []⟩
def ref11_Field_o9 : Array Oper := #[⟨(.some 6), (.assign (.const (.int .i64 0))), 3, "ref.go:246", #[], .none⟩,
  ⟨(.some 7), (.assign (.const (.int .i64 5))), 29, "ref.go:246", #[⟨0, .chain⟩, ⟨0, .phase⟩], .none⟩]
def ref11_Field_a9 : RAnn := ⟨[1, 2, 3, 9, 25], []⟩
def ref11_Field_b0 : Code := (.seq (.seq (.region 5 ref11_Field_o5 false) (.cond (.tmp 25) .skip (.exit 0))) (.seq (.block 1 (.seq (.region 7 ref11_Field_o7 false) (.cond (.tmp 39) (.seq (.region 8 ref11_Field_o8 false) .ret) .skip))) (.region 6 ref11_Field_o6 false)))
def ref11_Field_c : Code := (.seq (.region 0 ref11_Field_o0 false) (.seq (.seq (.region 1 ref11_Field_o1 false) (.seq (.region 2 ref11_Field_o2 false) (.cond (.tmp 15) (.seq (.region 3 ref11_Field_o3 false) .ret) .skip))) (.seq (.seq (.region 4 ref11_Field_o4 false) (.block 0 (.loop ref11_Field_b0))) (.seq (.region 9 ref11_Field_o9 false) .ret))))
def ref11_Field_an : List (Nat × RAnn) := [(0, ref11_Field_a0), (1, ref11_Field_a1), (2, ref11_Field_a2), (3, ref11_Field_a3), (4, ref11_Field_a4), (5, ref11_Field_a5), (6, ref11_Field_a6), (7, ref11_Field_a7), (8, ref11_Field_a8), (9, ref11_Field_a9)]
def law11_DbdNames_o0 : Array Oper := #[⟨(.some 3), (.box 25 (.tmp 0)), 0, "law.go:82", #[], .none⟩,
  ⟨(.some 6), (.assign (.const (.bool false))), 4, "law.go:82", #[], .none⟩]
def law11_DbdNames_a0 : RAnn := ⟨[0, 6], []⟩
def law11_DbdNames_o1 : Array Oper := #[⟨(.some 11), (.load 25 (.tmp 3)), 25, "law.go:83", #[], .none⟩,
  ⟨(.some 12), (.call ⟨(.value (.func 9)), #[(.tmp 11)], #[25]⟩), 4, "law.go:83", #[⟨0, .data⟩], .none⟩,
  ⟨(.some 13), (.unOp .not 4 (.tmp 12)), 4, "law.go:83", #[⟨1, .data⟩], .none⟩]
def law11_DbdNames_a1 : RAnn := ⟨[11, 12], []⟩
def law11_DbdNames_o2 : Array Oper := #[⟨(.some 14), (.call ⟨(.value (.func 10)), #[], #[]⟩), 4, "law.go:84", #[], .none⟩,
  ⟨(.some 6), (.assign (.tmp 14)), 4, "law.go:84", #[⟨0, .data⟩, ⟨0, .chain⟩, ⟨0, .phase⟩], .none⟩]
def law11_DbdNames_a2 : RAnn := ⟨[1, 2, 3, 13, 14], []⟩
def law11_DbdNames_o3 : Array Oper := #[⟨(.some 16), (.load 25 (.tmp 3)), 25, "law.go:86", #[], .none⟩,
  ⟨(.some 17), (.move (.tmp 2)), 9, "law.go:86", #[], .none⟩,
  ⟨(.some 18), (.call ⟨(.value (.func 20)), #[(.tmp 16), (.tmp 17)], #[25, 9]⟩), 33, "law.go:86", #[⟨0, .data⟩, ⟨1, .data⟩], .none⟩,
  ⟨(.some 15), (.move (.tmp 18)), 33, "law.go:86", #[⟨2, .data⟩], .none⟩,
  ⟨(.some 19), (.extract (.tmp 15) 0), 3, "law.go:86", #[⟨3, .data⟩], .none⟩,
  ⟨(.some 20), (.extract (.tmp 15) 1), 29, "law.go:86", #[⟨3, .data⟩, ⟨6, (.gcOnly .lateStores)⟩], .none⟩,
  ⟨(.some 7), (.assign (.tmp 19)), 3, "law.go:86", #[⟨4, .data⟩, ⟨2, .chain⟩, ⟨0, .phase⟩, ⟨1, .phase⟩, ⟨2, .phase⟩, ⟨3, .phase⟩, ⟨4, .phase⟩, ⟨5, (.textOnly .lateStores)⟩], .none⟩,
  ⟨(.some 8), (.assign (.tmp 20)), 29, "law.go:86", #[⟨5, .data⟩, ⟨6, .chain⟩, ⟨0, .phase⟩, ⟨1, .phase⟩, ⟨2, .phase⟩, ⟨3, .phase⟩, ⟨4, .phase⟩, ⟨5, .phase⟩, ⟨6, .phase⟩], .none⟩]
def law11_DbdNames_a3 : RAnn := ⟨[13, 15, 16, 17, 18, 19, 20], []⟩
def law11_DbdNames_o4 : Array Oper := #[⟨(.some 22), (.load 25 (.tmp 3)), 25, "law.go:87", #[], .none⟩,
  ⟨(.some 23), (.move (.tmp 2)), 9, "law.go:87", #[], .none⟩,
  ⟨(.some 24), (.call ⟨(.value (.func 21)), #[(.tmp 22), (.tmp 23)], #[25, 9]⟩), 33, "law.go:87", #[⟨0, .data⟩, ⟨1, .data⟩], .none⟩,
  ⟨(.some 21), (.move (.tmp 24)), 33, "law.go:87", #[⟨2, .data⟩], .none⟩,
  ⟨(.some 25), (.extract (.tmp 21) 0), 3, "law.go:87", #[⟨3, .data⟩], .none⟩,
  ⟨(.some 26), (.extract (.tmp 21) 1), 29, "law.go:87", #[⟨3, .data⟩, ⟨6, (.gcOnly .lateStores)⟩], .none⟩,
  ⟨(.some 9), (.assign (.tmp 25)), 3, "law.go:87", #[⟨4, .data⟩, ⟨2, .chain⟩, ⟨0, .phase⟩, ⟨1, .phase⟩, ⟨2, .phase⟩, ⟨3, .phase⟩, ⟨4, .phase⟩, ⟨5, (.textOnly .lateStores)⟩], .none⟩,
  ⟨(.some 10), (.assign (.tmp 26)), 29, "law.go:87", #[⟨5, .data⟩, ⟨6, .chain⟩, ⟨0, .phase⟩, ⟨1, .phase⟩, ⟨2, .phase⟩, ⟨3, .phase⟩, ⟨4, .phase⟩, ⟨5, .phase⟩, ⟨6, .phase⟩], .none⟩]
def law11_DbdNames_a4 : RAnn := ⟨[21, 22, 23, 24, 25, 26], []⟩
def law11_DbdNames_o5 : Array Oper := #[⟨(.some 27), (.move (.tmp 7)), 3, "law.go:88", #[], .none⟩,
  ⟨(.some 28), (.move (.tmp 9)), 3, "law.go:88", #[], .none⟩,
  ⟨(.some 29), (.binOp .neq 3 (.tmp 27) (.tmp 28) 3), 4, "law.go:88", #[⟨0, .data⟩, ⟨1, .data⟩], .none⟩,
  ⟨(.some 30), (.move (.tmp 29)), 4, "law.go:88", #[⟨2, .data⟩], .none⟩,
  ⟨(.some 31), (.move (.tmp 8)), 29, "law.go:88", #[⟨3, .guard⟩], (.some (3, false))⟩,
  ⟨(.some 32), (.move (.tmp 10)), 29, "law.go:88", #[⟨3, .guard⟩], (.some (3, false))⟩,
  ⟨(.some 33), (.binOp .neq 29 (.tmp 31) (.tmp 32) 29), 4, "law.go:88", #[⟨4, .data⟩, ⟨5, .data⟩, ⟨3, .guard⟩], (.some (3, false))⟩,
  ⟨(.some 34), (.pick (.tmp 30) (.const (.bool true)) (.tmp 33)), 4, "law.go:88", #[⟨3, .data⟩, ⟨6, .data⟩], .none⟩]
def law11_DbdNames_a5 : RAnn := ⟨[7, 8, 9, 10, 27, 28, 29, 30, 31, 32, 33], []⟩
def law11_DbdNames_o6 : Array Oper := #[⟨(.some 6), (.assign (.const (.bool false))), 4, "law.go:89", #[], .none⟩]
def law11_DbdNames_a6 : RAnn := ⟨[1, 2, 3, 34], []⟩
def law11_DbdNames_o7 : Array Oper := #[⟨(.some 36), (.load 25 (.tmp 3)), 25, "law.go:91", #[], .none⟩,
  ⟨(.some 37), (.move (.tmp 1)), 3, "law.go:91", #[], .none⟩,
  ⟨(.some 38), (.move (.tmp 2)), 9, "law.go:91", #[], .none⟩,
  ⟨(.some 39), (.call ⟨(.value (.func 22)), #[(.tmp 36), (.tmp 37), (.tmp 38)], #[25, 3, 9]⟩), 33, "law.go:91", #[⟨0, .data⟩, ⟨1, .data⟩, ⟨2, .data⟩], .none⟩,
  ⟨(.some 35), (.move (.tmp 39)), 33, "law.go:91", #[⟨3, .data⟩], .none⟩,
  ⟨(.some 40), (.extract (.tmp 35) 0), 3, "law.go:91", #[⟨4, .data⟩], .none⟩,
  ⟨(.some 41), (.extract (.tmp 35) 1), 29, "law.go:91", #[⟨4, .data⟩, ⟨7, (.gcOnly .lateStores)⟩], .none⟩,
  ⟨(.some 7), (.assign (.tmp 40)), 3, "law.go:91", #[⟨5, .data⟩, ⟨3, .chain⟩, ⟨0, .phase⟩, ⟨1, .phase⟩, ⟨2, .phase⟩, ⟨3, .phase⟩, ⟨4, .phase⟩, ⟨5, .phase⟩, ⟨6, (.textOnly .lateStores)⟩], .none⟩,
  ⟨(.some 8), (.assign (.tmp 41)), 29, "law.go:91", #[⟨6, .data⟩, ⟨7, .chain⟩, ⟨0, .phase⟩, ⟨1, .phase⟩, ⟨2, .phase⟩, ⟨3, .phase⟩, ⟨4, .phase⟩, ⟨5, .phase⟩, ⟨6, .phase⟩, ⟨7, .phase⟩], .none⟩]
def law11_DbdNames_a7 : RAnn := ⟨[34, 35, 36, 37, 38, 39, 40, 41], []⟩
def law11_DbdNames_o8 : Array Oper := #[⟨(.some 43), (.load 25 (.tmp 3)), 25, "law.go:92", #[], .none⟩,
  ⟨(.some 44), (.move (.tmp 1)), 3, "law.go:92", #[], .none⟩,
  ⟨(.some 45), (.move (.tmp 2)), 9, "law.go:92", #[], .none⟩,
  ⟨(.some 46), (.call ⟨(.value (.func 23)), #[(.tmp 43), (.tmp 44), (.tmp 45)], #[25, 3, 9]⟩), 33, "law.go:92", #[⟨0, .data⟩, ⟨1, .data⟩, ⟨2, .data⟩], .none⟩,
  ⟨(.some 42), (.move (.tmp 46)), 33, "law.go:92", #[⟨3, .data⟩], .none⟩,
  ⟨(.some 47), (.extract (.tmp 42) 0), 3, "law.go:92", #[⟨4, .data⟩], .none⟩,
  ⟨(.some 48), (.extract (.tmp 42) 1), 29, "law.go:92", #[⟨4, .data⟩, ⟨7, (.gcOnly .lateStores)⟩], .none⟩,
  ⟨(.some 9), (.assign (.tmp 47)), 3, "law.go:92", #[⟨5, .data⟩, ⟨3, .chain⟩, ⟨0, .phase⟩, ⟨1, .phase⟩, ⟨2, .phase⟩, ⟨3, .phase⟩, ⟨4, .phase⟩, ⟨5, .phase⟩, ⟨6, (.textOnly .lateStores)⟩], .none⟩,
  ⟨(.some 10), (.assign (.tmp 48)), 29, "law.go:92", #[⟨6, .data⟩, ⟨7, .chain⟩, ⟨0, .phase⟩, ⟨1, .phase⟩, ⟨2, .phase⟩, ⟨3, .phase⟩, ⟨4, .phase⟩, ⟨5, .phase⟩, ⟨6, .phase⟩, ⟨7, .phase⟩], .none⟩]
def law11_DbdNames_a8 : RAnn := ⟨[1, 2, 3, 42, 43, 44, 45, 46, 47, 48], []⟩
def law11_DbdNames_o9 : Array Oper := #[⟨(.some 49), (.move (.tmp 7)), 3, "law.go:93", #[], .none⟩,
  ⟨(.some 50), (.move (.tmp 9)), 3, "law.go:93", #[], .none⟩,
  ⟨(.some 51), (.binOp .eql 3 (.tmp 49) (.tmp 50) 3), 4, "law.go:93", #[⟨0, .data⟩, ⟨1, .data⟩], .none⟩,
  ⟨(.some 52), (.move (.tmp 51)), 4, "law.go:93", #[⟨2, .data⟩], .none⟩,
  ⟨(.some 53), (.move (.tmp 8)), 29, "law.go:93", #[⟨3, .guard⟩], (.some (3, true))⟩,
  ⟨(.some 54), (.move (.tmp 10)), 29, "law.go:93", #[⟨3, .guard⟩], (.some (3, true))⟩,
  ⟨(.some 55), (.binOp .eql 29 (.tmp 53) (.tmp 54) 29), 4, "law.go:93", #[⟨4, .data⟩, ⟨5, .data⟩, ⟨3, .guard⟩], (.some (3, true))⟩,
  ⟨(.some 56), (.pick (.tmp 52) (.tmp 55) (.const (.bool false))), 4, "law.go:93", #[⟨3, .data⟩, ⟨6, .data⟩], .none⟩,
  ⟨(.some 57), (.move (.tmp 56)), 4, "law.go:93", #[⟨7, .data⟩, ⟨3, .chain⟩], .none⟩,
  ⟨(.some 58), (.call ⟨(.value (.func 10)), #[], #[]⟩), 4, "law.go:93", #[⟨8, .chain⟩, ⟨8, .guard⟩], (.some (8, true))⟩,
  ⟨(.some 59), (.pick (.tmp 57) (.tmp 58) (.const (.bool false))), 4, "law.go:93", #[⟨8, .data⟩, ⟨9, .data⟩], .none⟩,
  ⟨(.some 6), (.assign (.tmp 59)), 4, "law.go:93", #[⟨10, .data⟩, ⟨9, .chain⟩, ⟨0, .phase⟩, ⟨1, .phase⟩, ⟨2, .phase⟩, ⟨3, .phase⟩, ⟨4, .phase⟩, ⟨5, .phase⟩, ⟨6, .phase⟩, ⟨7, .phase⟩, ⟨8, .phase⟩, ⟨9, .phase⟩, ⟨10, .phase⟩], .none⟩]
def law11_DbdNames_a9 : RAnn := ⟨[7, 8, 9, 10, 49, 50, 51, 52, 53, 54, 55, 56, 57, 58, 59], []⟩
def law11_DbdNames_c : Code := (.seq (.region 0 law11_DbdNames_o0 false) (.seq (.seq (.region 1 law11_DbdNames_o1 false) (.cond (.tmp 13) (.seq (.region 2 law11_DbdNames_o2 false) .ret) .skip)) (.seq (.region 3 law11_DbdNames_o3 false) (.seq (.region 4 law11_DbdNames_o4 false) (.seq (.seq (.region 5 law11_DbdNames_o5 false) (.cond (.tmp 34) (.seq (.region 6 law11_DbdNames_o6 false) .ret) .skip)) (.seq (.region 7 law11_DbdNames_o7 false) (.seq (.region 8 law11_DbdNames_o8 false) (.seq (.region 9 law11_DbdNames_o9 false) .ret))))))))
def law11_DbdNames_an : List (Nat × RAnn) := [(0, law11_DbdNames_a0), (1, law11_DbdNames_a1), (2, law11_DbdNames_a2), (3, law11_DbdNames_a3), (4, law11_DbdNames_a4), (5, law11_DbdNames_a5), (6, law11_DbdNames_a6), (7, law11_DbdNames_a7), (8, law11_DbdNames_a8), (9, law11_DbdNames_a9)]
def ANNS : List (Nat × FAnn) := [(3, ⟨law11_DbdWays_an, [], []⟩), (4, ⟨law11_DbdNames_an, [], []⟩), (9, ⟨law11_Small_an, [], []⟩), (10, ⟨law11_First_an, [], []⟩), (11, ⟨dbd_Way_an, [], []⟩), (12, ⟨ref11_Way_an, [], []⟩), (13, ⟨ref01_SameInts_an, [], []⟩), (14, ⟨dbd_Depth_an, [], []⟩), (15, ⟨ref11_Depth_an, [], []⟩), (16, ⟨dbd_Children_an, [], []⟩), (17, ⟨ref11_Children_an, [], []⟩), (18, ⟨dbd_IsAbove_an, [], []⟩), (19, ⟨ref11_IsAbove_an, [], []⟩), (20, ⟨dbd_Type_an, [], []⟩), (21, ⟨ref11_Type_an, [], []⟩), (22, ⟨dbd_Field_an, [], []⟩), (23, ⟨ref11_Field_an, [], []⟩), (28, ⟨dbd_Valid_an, [], []⟩), (29, ⟨ref11_Valid_an, [], []⟩), (37, ⟨law11_shop_an, [], []⟩), (38, ⟨dbd_asked_an, [], []⟩), (39, ⟨dbd_way_an, [], []⟩), (40, ⟨ref11_asked_an, [], []⟩), (41, ⟨ref11_way_an, [], []⟩), (42, ⟨slices_Contains_int_an, [], []⟩), (43, ⟨ref11_above_an, [], []⟩), (44, ⟨dbd_index_an, [], []⟩), (45, ⟨slices_IndexFunc_Type_an, [], []⟩), (46, ⟨dbd_Type_1_an, [], []⟩), (47, ⟨slices_IndexFunc_Field_an, [], []⟩), (48, ⟨dbd_Field_1_an, [], []⟩), (53, ⟨slices_Index_int_an, [], []⟩), (56, ⟨dbd_IsName_an, [], []⟩), (57, ⟨dbd_areTypes_an, [], []⟩), (58, ⟨dbd_areIndexes_an, [], []⟩), (59, ⟨ref11_IsName_an, [], []⟩), (60, ⟨ref11_fields_an, [], []⟩), (61, ⟨ref11_isType_an, [], []⟩), (64, ⟨slices_ContainsFunc_int_an, [], []⟩), (65, ⟨dbd_asked_1_an, [], []⟩), (68, ⟨dbd_isType_an, [], []⟩), (69, ⟨slices_ContainsFunc_Type_an, [], []⟩), (70, ⟨dbd_areTypes_1_an, [], []⟩), (71, ⟨slices_ContainsFunc_Search_an, [], []⟩), (72, ⟨dbd_areIndexes_1_an, [], []⟩), (73, ⟨slices_IndexFunc_int_an, [], []⟩), (74, ⟨dbd_areFields_an, [], []⟩), (75, ⟨slices_IndexFunc_Search_an, [], []⟩), (76, ⟨slices_ContainsFunc_Field_an, [], []⟩), (77, ⟨dbd_areFields_1_an, [], []⟩)]
def anns : FuncId → FAnn := fun f => (look f ANNS).getD {}
def ext : ExtH := fun f args => bif Nat.beq f 66 then some (extReverseInt args) else none
def law11_Small_fin : Bool → V × List V := fun r => ((V.bool r), [])
theorem law11_Small_r0 (k : Nat) (a0 : T_api_Base) : regionE prog (evF prog anns ext k) law11_Small_a0 law11_Small_o0 false ⟨[(0, (enc_T_api_Base a0))], [], 29⟩ = some ⟨[(1, (V.ptr 1 0 0))], [(1, ⟨false, 4, [(enc_T_api_Base a0)]⟩)], 29⟩ := by
  refine Eq.trans regionE_reg ?_
  exact reg_end rfl
theorem law11_Small_r1 (k : Nat) (a0 : T_api_Base) : regionE prog (evF prog anns ext k) law11_Small_a1 law11_Small_o1 false ⟨[(1, (V.ptr 1 0 0))], [(1, ⟨false, 4, [(enc_T_api_Base a0)]⟩)], 29⟩ = some ⟨[(1, (V.ptr 1 0 0)), (3, (V.int .i64 0))], [(1, ⟨false, 4, [(enc_T_api_Base a0)]⟩)], 29⟩ := by
  refine Eq.trans regionE_reg ?_
  exact reg_end rfl
theorem law11_Small_r2 (k : Nat) (a0 : T_api_Base) (x3 : Int) : regionE prog (evF prog anns ext k) law11_Small_a2 law11_Small_o2 false ⟨[(1, (V.ptr 1 0 0)), (3, (V.int .i64 x3))], [(1, ⟨false, 4, [(enc_T_api_Base a0)]⟩)], 29⟩ = some ⟨[(1, (V.ptr 1 0 0)), (3, (V.int .i64 x3)), (8, (V.bool (decide (x3 < (a0.fTypes.length : Int)))))], [(1, ⟨false, 4, [(enc_T_api_Base a0)]⟩)], 29⟩ := by
  refine Eq.trans regionE_reg ?_
  refine Eq.trans (reg_adv (m := 3) (j := 3) (st' := ⟨[(1, (V.ptr 1 0 0)), (3, (V.int .i64 x3)), (4, (V.int .i64 x3)), (5, (V.ptr 1 0 2)), (6, (V.sl 0 8 (List.map enc_T_api_Type a0.fTypes)))], [(1, ⟨false, 4, [(enc_T_api_Base a0)]⟩)], 29⟩) rfl rfl rfl) ?_
  refine Eq.trans (reg_pure (x := some ()) (w := fun _ => (V.int .i64 (a0.fTypes.length : Int))) rfl rfl rfl rfl (p_len (e := enc_T_api_Type) rfl rfl rfl rfl rfl rfl Go.Proofs.Try.underlying22)) ?_
  refine Eq.trans some_bind ?_
  exact bind_end rfl
theorem law11_Small_r4 (k : Nat) (a0 : T_api_Base) (x3 : Int) : regionE prog (evF prog anns ext k) law11_Small_a4 law11_Small_o4 false ⟨[(1, (V.ptr 1 0 0)), (3, (V.int .i64 x3)), (8, (V.bool true))], [(1, ⟨false, 4, [(enc_T_api_Base a0)]⟩)], 29⟩ = (((idx a0.fTypes x3).bind fun v4 => (some ((decide ((v4.fFields.length : Int) > 10)))))).map (fun (o : Bool) => (⟨[(1, (V.ptr 1 0 0)), (3, (V.int .i64 x3)), (18, (V.bool o))], [(1, ⟨false, 4, [(enc_T_api_Base a0)]⟩)], 29⟩ : St)) := by
  refine Eq.trans regionE_reg ?_
  refine Eq.trans (reg_adv (m := 3) (j := 3) (st' := ⟨[(1, (V.ptr 1 0 0)), (3, (V.int .i64 x3)), (8, (V.bool true)), (11, (V.ptr 1 0 2)), (12, (V.sl 0 8 (List.map enc_T_api_Type a0.fTypes))), (13, (V.int .i64 x3))], [(1, ⟨false, 4, [(enc_T_api_Base a0)]⟩)], 29⟩) rfl rfl rfl) ?_
  refine Eq.trans (reg_pure (x := (idx a0.fTypes x3)) (w := fun v4 => (V.pro (enc_T_api_Type v4))) rfl rfl rfl rfl (p_index (e := enc_T_api_Type) rfl rfl rfl Go.Proofs.Try.underlying22 rfl (by decide))) ?_
  refine bindE (fun v4 => ?_)
  refine Eq.trans (bind_adv (m := 2) (j := 6) (st' := ⟨[(1, (V.ptr 1 0 0)), (3, (V.int .i64 x3)), (8, (V.bool true)), (11, (V.ptr 1 0 2)), (12, (V.sl 0 8 (List.map enc_T_api_Type a0.fTypes))), (13, (V.int .i64 x3)), (14, (V.pro (enc_T_api_Type v4))), (15, (V.pro (V.sl 0 3 (List.map enc_T_api_Field v4.fFields)))), (16, (V.sl 0 3 (List.map enc_T_api_Field v4.fFields)))], [(1, ⟨false, 4, [(enc_T_api_Base a0)]⟩)], 29⟩) rfl rfl rfl) ?_
  refine Eq.trans (reg_pure (x := some ()) (w := fun _ => (V.int .i64 (v4.fFields.length : Int))) rfl rfl rfl rfl (p_len (e := enc_T_api_Field) rfl rfl rfl rfl rfl rfl Go.Proofs.Try.underlying53)) ?_
  refine Eq.trans some_bind ?_
  exact bind_end rfl
theorem law11_Small_r5 (k : Nat) (a0 : T_api_Base) (x3 : Int) : regionE prog (evF prog anns ext k) law11_Small_a5 law11_Small_o5 false ⟨[(1, (V.ptr 1 0 0)), (3, (V.int .i64 x3)), (18, (V.bool true))], [(1, ⟨false, 4, [(enc_T_api_Base a0)]⟩)], 29⟩ = some ⟨[(2, (V.bool false))], [], 29⟩ := by
  refine Eq.trans regionE_reg ?_
  exact reg_end rfl
theorem law11_Small_r3 (k : Nat) (a0 : T_api_Base) (x3 : Int) : regionE prog (evF prog anns ext k) law11_Small_a3 law11_Small_o3 false ⟨[(1, (V.ptr 1 0 0)), (3, (V.int .i64 x3)), (18, (V.bool false))], [(1, ⟨false, 4, [(enc_T_api_Base a0)]⟩)], 29⟩ = some ⟨[(1, (V.ptr 1 0 0)), (3, (V.int .i64 (Go.IntKind.wrap .i64 (x3 + 1))))], [(1, ⟨false, 4, [(enc_T_api_Base a0)]⟩)], 29⟩ := by
  refine Eq.trans regionE_reg ?_
  exact reg_end rfl
theorem law11_Small_L1_ok (k : Nat) (a0 : T_api_Base)  (K0 : Int → Option Bool) (Kst : X × St → Option (V × List V)) (hK0 : ∀ (y0 : Int), Kst (X.exit 0, ⟨[(1, (V.ptr 1 0 0)), (3, (V.int .i64 y0)), (8, (V.bool false))], [(1, ⟨false, 4, [(enc_T_api_Base a0)]⟩)], 29⟩) = (K0 y0).map law11_Small_fin) (hret : ∀ s, Kst (X.ret, s) = endK prog 29 [(enc_T_api_Base a0)] [] [.tmp 2] (X.ret, s)) :
    ∀ (m : Nat) (x3 : Int), (iter (exec prog (evF prog anns ext k) law11_Small_an k law11_Small_b0) m ⟨[(1, (V.ptr 1 0 0)), (3, (V.int .i64 x3))], [(1, ⟨false, 4, [(enc_T_api_Base a0)]⟩)], 29⟩).bind Kst = (law11_Small_L1 a0 K0 m x3).map law11_Small_fin := by
  intro m
  induction m with
  | zero => intros; rfl
  | succ m ih =>
    intro x3
    unfold law11_Small_L1
    refine Eq.trans k_round ?_
    refine Eq.trans k_assoc ?_
    refine Eq.trans (k_region0 rfl (law11_Small_r2 k a0 x3)) ?_
    refine Eq.trans (k_cond (t := (decide (x3 < (a0.fTypes.length : Int)))) rfl) ?_
    refine bifE2 (fun hc => ?_) (fun hc => ?_)
    · rw [hc]
      refine Eq.trans k_skip ?_
      refine Eq.trans k_block ?_
      refine Eq.trans (k_region rfl (law11_Small_r4 k a0 x3)) ?_
      refine bindE (fun o5 => ?_)
      refine Eq.trans (k_lcond (t := o5) rfl) ?_
      refine bifE2 (fun hc => ?_) (fun hc => ?_)
      · rw [hc]
        refine Eq.trans (k_region0 rfl (law11_Small_r5 k a0 x3)) ?_
        refine Eq.trans k_lret ?_
        refine Eq.trans blk_ret ?_
        refine Eq.trans loop_ret ?_
        refine Eq.trans (hret _) ?_
        rfl
      · rw [hc]
        refine Eq.trans k_lskip ?_
        refine Eq.trans blk_normal ?_
        refine Eq.trans (k_lregion0 rfl (law11_Small_r3 k a0 x3)) ?_
        refine Eq.trans loop_normal ?_
        exact ih (Go.IntKind.wrap .i64 (x3 + 1))
    · rw [hc]
      refine Eq.trans k_exit ?_
      refine Eq.trans loop_exit ?_
      exact hK0 x3
theorem law11_Small_r6 (k : Nat) (a0 : T_api_Base) (y6 : Int) : regionE prog (evF prog anns ext k) law11_Small_a6 law11_Small_o6 false ⟨[(1, (V.ptr 1 0 0)), (3, (V.int .i64 y6)), (8, (V.bool false))], [(1, ⟨false, 4, [(enc_T_api_Base a0)]⟩)], 29⟩ = ((bif (decide ((a0.fTypes.length : Int) ≤ 12)) then (some ((decide ((a0.fIndexes.length : Int) ≤ 6)))) else (some (false)))).map (fun (o : Bool) => (⟨[(2, (V.bool o))], [], 29⟩ : St)) := by
  refine Eq.trans regionE_reg ?_
  refine Eq.trans (reg_adv (m := 2) (j := 2) (st' := ⟨[(1, (V.ptr 1 0 0)), (3, (V.int .i64 y6)), (8, (V.bool false)), (19, (V.ptr 1 0 2)), (20, (V.sl 0 8 (List.map enc_T_api_Type a0.fTypes)))], [(1, ⟨false, 4, [(enc_T_api_Base a0)]⟩)], 29⟩) rfl rfl rfl) ?_
  refine Eq.trans (reg_pure (x := some ()) (w := fun _ => (V.int .i64 (a0.fTypes.length : Int))) rfl rfl rfl rfl (p_len (e := enc_T_api_Type) rfl rfl rfl rfl rfl rfl Go.Proofs.Try.underlying22)) ?_
  refine Eq.trans some_bind ?_
  refine Eq.trans (bind_adv (m := 2) (j := 5) (st' := ⟨[(1, (V.ptr 1 0 0)), (3, (V.int .i64 y6)), (8, (V.bool false)), (19, (V.ptr 1 0 2)), (20, (V.sl 0 8 (List.map enc_T_api_Type a0.fTypes))), (21, (V.int .i64 (a0.fTypes.length : Int))), (22, (V.bool (decide ((a0.fTypes.length : Int) ≤ 12)))), (23, (V.bool (decide ((a0.fTypes.length : Int) ≤ 12))))], [(1, ⟨false, 4, [(enc_T_api_Base a0)]⟩)], 29⟩) rfl rfl rfl) ?_
  refine bifE (c := (decide ((a0.fTypes.length : Int) ≤ 12))) (fun hc => ?_) (fun hc => ?_)
  · rw [hc]
    refine Eq.trans (reg_adv (m := 2) (j := 7) (st' := ⟨[(1, (V.ptr 1 0 0)), (3, (V.int .i64 y6)), (8, (V.bool false)), (19, (V.ptr 1 0 2)), (20, (V.sl 0 8 (List.map enc_T_api_Type a0.fTypes))), (21, (V.int .i64 (a0.fTypes.length : Int))), (22, (V.bool true)), (23, (V.bool true)), (24, (V.ptr 1 0 3)), (25, (V.sl 0 4 (List.map enc_T_api_Search a0.fIndexes)))], [(1, ⟨false, 4, [(enc_T_api_Base a0)]⟩)], 29⟩) rfl rfl rfl) ?_
    refine Eq.trans (reg_pure (x := some ()) (w := fun _ => (V.int .i64 (a0.fIndexes.length : Int))) rfl rfl rfl rfl (p_len (e := enc_T_api_Search) rfl rfl rfl rfl rfl rfl Go.Proofs.Try.underlying23)) ?_
    refine Eq.trans some_bind ?_
    exact bind_end rfl
  · rw [hc]
    exact reg_end rfl
theorem law11_Small_ok (k : Nat) (a0 : T_api_Base) : evF prog anns ext k 9 [(enc_T_api_Base a0)] = (law11_Small k a0).map law11_Small_fin := by
  cases k with
  | zero => rfl
  | succ k =>
    unfold law11_Small
    refine Eq.trans (evF_succ (c := law11_Small_c) (N := 29) (regs := law11_Small_an) rfl Go.Proofs.Try.func9 rfl (by decide) rfl rfl rfl) ?_
    refine Eq.trans (k_region0 rfl (law11_Small_r0 k a0)) ?_
    refine Eq.trans k_assoc ?_
    refine Eq.trans (k_region0 rfl (law11_Small_r1 k a0)) ?_
    refine Eq.trans k_block ?_
    refine Eq.trans k_loop ?_
    refine law11_Small_L1_ok k a0 _ _ ?h_law11_Small_L1_0 ?hr_law11_Small_L1 k 0
    · intro y6
      refine Eq.trans blk_exit ?_
      refine Eq.trans (k_region rfl (law11_Small_r6 k a0 y6)) ?_
      refine bindE (fun o7 => ?_)
      refine Eq.trans k_lret ?_
      rfl
    · intro s; exact rfl
def law11_shop_fin : T_api_Base → V × List V := fun r => ((enc_T_api_Base r), [])
theorem law11_shop_r0 (k : Nat)  : regionE prog (evF prog anns ext k) law11_shop_a0 law11_shop_o0 false ⟨[], [], 11⟩ = some ⟨[(0, (V.ptr 0 0 0))], [(0, ⟨false, 4, [(V.agg [(V.str []), (V.int .i64 0), (V.sl 2 8 (List.map enc_T_api_Type ([] : List T_api_Type))), (V.sl 2 4 (List.map enc_T_api_Search ([] : List T_api_Search)))])]⟩)], 11⟩ := by
  refine Eq.trans regionE_reg ?_
  exact reg_end rfl
theorem law11_shop_r1 (k : Nat)  : regionE prog (evF prog anns ext k) law11_shop_a1 law11_shop_o1 false ⟨[(0, (V.ptr 0 0 0))], [(0, ⟨false, 4, [(V.agg [(V.str []), (V.int .i64 0), (V.sl 2 8 (List.map enc_T_api_Type ([] : List T_api_Type))), (V.sl 2 4 (List.map enc_T_api_Search ([] : List T_api_Search)))])]⟩)], 11⟩ = some ⟨[(0, (V.ptr 0 0 0))], [(0, ⟨false, 4, [(enc_T_api_Base ({ fName := ([83, 72, 79, 80] : Str), fKind := 4, fTypes := ([({ fName := ([67, 85, 83, 84] : Str), fParent := (-1), fMin := 4, fSize := 10, fFields := ([({ fName := ([67, 85, 83, 84, 78, 79] : Str), fAt := 0, fBytes := 4 } : T_api_Field)] : List T_api_Field), fKey := 0, fUnique := true, fLast := false } : T_api_Type), ({ fName := ([79, 82, 68, 69, 82] : Str), fParent := 0, fMin := 4, fSize := 12, fFields := ([({ fName := ([79, 82, 68, 78, 79] : Str), fAt := 0, fBytes := 4 } : T_api_Field)] : List T_api_Field), fKey := 0, fUnique := false, fLast := false } : T_api_Type), ({ fName := ([73, 84, 69, 77] : Str), fParent := 1, fMin := 1, fSize := 8, fFields := ([] : List T_api_Field), fKey := (-1), fUnique := false, fLast := true } : T_api_Type), ({ fName := ([80, 72, 79, 78, 69] : Str), fParent := 0, fMin := 1, fSize := 8, fFields := ([] : List T_api_Field), fKey := (-1), fUnique := false, fLast := false } : T_api_Type)] : List T_api_Type), fIndexes := ([] : List T_api_Search) } : T_api_Base))]⟩)], 11⟩ := by
  refine Eq.trans regionE_reg ?_
  exact reg_end rfl
theorem law11_shop_ok (k : Nat)  : evF prog anns ext k 37 [] = (law11_shop k).map law11_shop_fin := by
  cases k with
  | zero => rfl
  | succ k =>
    unfold law11_shop
    refine Eq.trans (evF_succ (c := law11_shop_c) (N := 11) (regs := law11_shop_an) rfl Go.Proofs.Try.func37 rfl (by decide) rfl rfl rfl) ?_
    refine Eq.trans (k_region0 rfl (law11_shop_r0 k)) ?_
    refine Eq.trans (k_region0 rfl (law11_shop_r1 k)) ?_
    refine Eq.trans k_lret ?_
    rfl
def dbd_IsName_fin : Bool → V × List V := fun r => ((V.bool r), [])
theorem dbd_IsName_r0 (k : Nat) (a0 : Str) : regionE prog (evF prog anns ext k) dbd_IsName_a0 dbd_IsName_o0 false ⟨[(0, (V.str a0))], [], 47⟩ = some ⟨[(0, (V.str a0))], [], 47⟩ := by
  refine Eq.trans regionE_reg ?_
  exact reg_end rfl
theorem dbd_IsName_r1 (k : Nat) (a0 : Str) : regionE prog (evF prog anns ext k) dbd_IsName_a1 dbd_IsName_o1 false ⟨[(0, (V.str a0))], [], 47⟩ = some ⟨[(0, (V.str a0)), (6, (V.int .i64 (a0.length : Int))), (7, (V.int .i64 0))], [], 47⟩ := by
  refine Eq.trans regionE_reg ?_
  exact reg_end rfl
theorem dbd_IsName_r2 (k : Nat) (a0 : Str) (x7 : Int) : regionE prog (evF prog anns ext k) dbd_IsName_a2 dbd_IsName_o2 false ⟨[(0, (V.str a0)), (6, (V.int .i64 (a0.length : Int))), (7, (V.int .i64 x7))], [], 47⟩ = some ⟨[(0, (V.str a0)), (6, (V.int .i64 (a0.length : Int))), (7, (V.int .i64 x7)), (8, (V.bool (decide (x7 < (a0.length : Int)))))], [], 47⟩ := by
  refine Eq.trans regionE_reg ?_
  exact reg_end rfl
theorem dbd_IsName_r3 (k : Nat) (a0 : Str) (x7 : Int) : regionE prog (evF prog anns ext k) dbd_IsName_a3 dbd_IsName_o3 false ⟨[(0, (V.str a0)), (6, (V.int .i64 (a0.length : Int))), (7, (V.int .i64 x7)), (8, (V.bool true))], [], 47⟩ = some ⟨[(0, (V.str a0)), (3, (V.int .i64 x7)), (6, (V.int .i64 (a0.length : Int))), (7, (V.int .i64 x7))], [], 47⟩ := by
  refine Eq.trans regionE_reg ?_
  exact reg_end rfl
theorem dbd_IsName_r4 (k : Nat) (a0 : Str) (x7 : Int) : regionE prog (evF prog anns ext k) dbd_IsName_a4 dbd_IsName_o4 false ⟨[(0, (V.str a0)), (3, (V.int .i64 x7)), (6, (V.int .i64 (a0.length : Int))), (7, (V.int .i64 x7))], [], 47⟩ = (((idxS a0 x7).bind fun v8 => (bif (decide (v8 ≥ 65)) then ((idxS a0 x7).bind fun v9 => (some ((decide (v9 ≤ 90))))) else (some (false))))).map (fun (o : Bool) => (⟨[(0, (V.str a0)), (3, (V.int .i64 x7)), (4, (V.bool o)), (6, (V.int .i64 (a0.length : Int))), (7, (V.int .i64 x7))], [], 47⟩ : St)) := by
  refine Eq.trans regionE_reg ?_
  refine Eq.trans (reg_adv (m := 2) (j := 2) (st' := ⟨[(0, (V.str a0)), (3, (V.int .i64 x7)), (6, (V.int .i64 (a0.length : Int))), (7, (V.int .i64 x7)), (10, (V.str a0)), (11, (V.int .i64 x7))], [], 47⟩) rfl rfl rfl) ?_
  refine Eq.trans (reg_pure (x := (idxS a0 x7)) (w := fun v8 => (V.int .u8 v8)) rfl rfl rfl rfl (p_indexS rfl rfl rfl Go.Proofs.Try.underlying9)) ?_
  refine bindE (fun v8 => ?_)
  refine Eq.trans (bind_adv (m := 2) (j := 5) (st' := ⟨[(0, (V.str a0)), (3, (V.int .i64 x7)), (6, (V.int .i64 (a0.length : Int))), (7, (V.int .i64 x7)), (10, (V.str a0)), (11, (V.int .i64 x7)), (12, (V.int .u8 v8)), (13, (V.bool (decide (v8 ≥ 65)))), (14, (V.bool (decide (v8 ≥ 65))))], [], 47⟩) rfl rfl rfl) ?_
  refine bifE (c := (decide (v8 ≥ 65))) (fun hc => ?_) (fun hc => ?_)
  · rw [hc]
    refine Eq.trans (reg_adv (m := 2) (j := 7) (st' := ⟨[(0, (V.str a0)), (3, (V.int .i64 x7)), (6, (V.int .i64 (a0.length : Int))), (7, (V.int .i64 x7)), (10, (V.str a0)), (11, (V.int .i64 x7)), (12, (V.int .u8 v8)), (13, (V.bool true)), (14, (V.bool true)), (15, (V.str a0)), (16, (V.int .i64 x7))], [], 47⟩) rfl rfl rfl) ?_
    refine Eq.trans (reg_pure (x := (idxS a0 x7)) (w := fun v9 => (V.int .u8 v9)) rfl rfl rfl rfl (p_indexS rfl rfl rfl Go.Proofs.Try.underlying9)) ?_
    refine bindE (fun v9 => ?_)
    exact bind_end rfl
  · rw [hc]
    exact reg_end rfl
theorem dbd_IsName_r5 (k : Nat) (a0 : Str) (x7 : Int) (o10 : Bool) : regionE prog (evF prog anns ext k) dbd_IsName_a5 dbd_IsName_o5 false ⟨[(0, (V.str a0)), (3, (V.int .i64 x7)), (4, (V.bool o10)), (6, (V.int .i64 (a0.length : Int))), (7, (V.int .i64 x7))], [], 47⟩ = ((bif (!o10) then (bif (x7 == 0) then (some (true)) else ((idxS a0 x7).bind fun v11 => (bif (decide (v11 < 48)) then (some (true)) else ((idxS a0 x7).bind fun v12 => (some ((decide (v12 > 57)))))))) else (some (false)))).map (fun (o : Bool) => (⟨[(0, (V.str a0)), (6, (V.int .i64 (a0.length : Int))), (7, (V.int .i64 x7)), (37, (V.bool o))], [], 47⟩ : St)) := by
  refine Eq.trans regionE_reg ?_
  refine Eq.trans (reg_adv (m := 3) (j := 3) (st' := ⟨[(0, (V.str a0)), (3, (V.int .i64 x7)), (4, (V.bool o10)), (6, (V.int .i64 (a0.length : Int))), (7, (V.int .i64 x7)), (20, (V.bool o10)), (21, (V.bool (!o10))), (22, (V.bool (!o10)))], [], 47⟩) rfl rfl rfl) ?_
  refine bifE (c := (!o10)) (fun hc => ?_) (fun hc => ?_)
  · rw [hc]
    refine Eq.trans (reg_adv (m := 3) (j := 6) (st' := ⟨[(0, (V.str a0)), (3, (V.int .i64 x7)), (4, (V.bool o10)), (6, (V.int .i64 (a0.length : Int))), (7, (V.int .i64 x7)), (20, (V.bool o10)), (21, (V.bool true)), (22, (V.bool true)), (23, (V.int .i64 x7)), (24, (V.bool (x7 == 0))), (25, (V.bool (x7 == 0)))], [], 47⟩) rfl rfl rfl) ?_
    refine bifE (c := (x7 == 0)) (fun hc => ?_) (fun hc => ?_)
    · rw [hc]
      exact reg_end rfl
    · rw [hc]
      refine Eq.trans (reg_adv (m := 2) (j := 8) (st' := ⟨[(0, (V.str a0)), (3, (V.int .i64 x7)), (4, (V.bool o10)), (6, (V.int .i64 (a0.length : Int))), (7, (V.int .i64 x7)), (20, (V.bool o10)), (21, (V.bool true)), (22, (V.bool true)), (23, (V.int .i64 x7)), (24, (V.bool false)), (25, (V.bool false)), (26, (V.str a0)), (27, (V.int .i64 x7))], [], 47⟩) rfl rfl rfl) ?_
      refine Eq.trans (reg_pure (x := (idxS a0 x7)) (w := fun v11 => (V.int .u8 v11)) rfl rfl rfl rfl (p_indexS rfl rfl rfl Go.Proofs.Try.underlying9)) ?_
      refine bindE (fun v11 => ?_)
      refine Eq.trans (bind_adv (m := 3) (j := 12) (st' := ⟨[(0, (V.str a0)), (3, (V.int .i64 x7)), (4, (V.bool o10)), (6, (V.int .i64 (a0.length : Int))), (7, (V.int .i64 x7)), (20, (V.bool o10)), (21, (V.bool true)), (22, (V.bool true)), (23, (V.int .i64 x7)), (24, (V.bool false)), (25, (V.bool false)), (26, (V.str a0)), (27, (V.int .i64 x7)), (28, (V.int .u8 v11)), (29, (V.bool (decide (v11 < 48)))), (30, (V.bool (decide (v11 < 48)))), (31, (V.bool (decide (v11 < 48))))], [], 47⟩) rfl rfl rfl) ?_
      refine bifE (c := (decide (v11 < 48))) (fun hc => ?_) (fun hc => ?_)
      · rw [hc]
        exact reg_end rfl
      · rw [hc]
        refine Eq.trans (reg_adv (m := 2) (j := 14) (st' := ⟨[(0, (V.str a0)), (3, (V.int .i64 x7)), (4, (V.bool o10)), (6, (V.int .i64 (a0.length : Int))), (7, (V.int .i64 x7)), (20, (V.bool o10)), (21, (V.bool true)), (22, (V.bool true)), (23, (V.int .i64 x7)), (24, (V.bool false)), (25, (V.bool false)), (26, (V.str a0)), (27, (V.int .i64 x7)), (28, (V.int .u8 v11)), (29, (V.bool false)), (30, (V.bool false)), (31, (V.bool false)), (32, (V.str a0)), (33, (V.int .i64 x7))], [], 47⟩) rfl rfl rfl) ?_
        refine Eq.trans (reg_pure (x := (idxS a0 x7)) (w := fun v12 => (V.int .u8 v12)) rfl rfl rfl rfl (p_indexS rfl rfl rfl Go.Proofs.Try.underlying9)) ?_
        refine bindE (fun v12 => ?_)
        exact bind_end rfl
  · rw [hc]
    exact reg_end rfl
theorem dbd_IsName_r6 (k : Nat) (a0 : Str) (x7 : Int) : regionE prog (evF prog anns ext k) dbd_IsName_a6 dbd_IsName_o6 false ⟨[(0, (V.str a0)), (6, (V.int .i64 (a0.length : Int))), (7, (V.int .i64 x7)), (37, (V.bool true))], [], 47⟩ = some ⟨[(2, (V.bool false))], [], 47⟩ := by
  refine Eq.trans regionE_reg ?_
  exact reg_end rfl
theorem dbd_IsName_r7 (k : Nat) (a0 : Str) (x7 : Int) : regionE prog (evF prog anns ext k) dbd_IsName_a7 dbd_IsName_o7 false ⟨[(0, (V.str a0)), (6, (V.int .i64 (a0.length : Int))), (7, (V.int .i64 x7)), (37, (V.bool false))], [], 47⟩ = some ⟨[(0, (V.str a0)), (6, (V.int .i64 (a0.length : Int))), (7, (V.int .i64 (Go.IntKind.wrap .i64 (x7 + 1))))], [], 47⟩ := by
  refine Eq.trans regionE_reg ?_
  exact reg_end rfl
theorem dbd_IsName_L1_ok (k : Nat) (a0 : Str)  (K0 : Int → Option Bool) (Kst : X × St → Option (V × List V)) (hK0 : ∀ (y0 : Int), Kst (X.exit 0, ⟨[(0, (V.str a0)), (6, (V.int .i64 (a0.length : Int))), (7, (V.int .i64 y0)), (8, (V.bool false))], [], 47⟩) = (K0 y0).map dbd_IsName_fin) (hret : ∀ s, Kst (X.ret, s) = endK prog 47 [(V.str a0)] [] [.tmp 2] (X.ret, s)) :
    ∀ (m : Nat) (x7 : Int), (iter (exec prog (evF prog anns ext k) dbd_IsName_an k dbd_IsName_b0) m ⟨[(0, (V.str a0)), (6, (V.int .i64 (a0.length : Int))), (7, (V.int .i64 x7))], [], 47⟩).bind Kst = (dbd_IsName_L1 a0 K0 m x7).map dbd_IsName_fin := by
  intro m
  induction m with
  | zero => intros; rfl
  | succ m ih =>
    intro x7
    unfold dbd_IsName_L1
    refine Eq.trans k_round ?_
    refine Eq.trans (k_region0 rfl (dbd_IsName_r2 k a0 x7)) ?_
    refine Eq.trans (k_cond (t := (decide (x7 < (a0.length : Int)))) rfl) ?_
    refine bifE2 (fun hc => ?_) (fun hc => ?_)
    · rw [hc]
      refine Eq.trans k_skip ?_
      refine Eq.trans k_block ?_
      refine Eq.trans (k_region0 rfl (dbd_IsName_r3 k a0 x7)) ?_
      refine Eq.trans (k_region rfl (dbd_IsName_r4 k a0 x7)) ?_
      refine bindE (fun o10 => ?_)
      refine Eq.trans (k_region rfl (dbd_IsName_r5 k a0 x7 o10)) ?_
      refine bindE (fun o13 => ?_)
      refine Eq.trans (k_lcond (t := o13) rfl) ?_
      refine bifE2 (fun hc => ?_) (fun hc => ?_)
      · rw [hc]
        refine Eq.trans (k_region0 rfl (dbd_IsName_r6 k a0 x7)) ?_
        refine Eq.trans k_lret ?_
        refine Eq.trans blk_ret ?_
        refine Eq.trans loop_ret ?_
        refine Eq.trans (hret _) ?_
        rfl
      · rw [hc]
        refine Eq.trans k_lskip ?_
        refine Eq.trans blk_normal ?_
        refine Eq.trans (k_lregion0 rfl (dbd_IsName_r7 k a0 x7)) ?_
        refine Eq.trans loop_normal ?_
        exact ih (Go.IntKind.wrap .i64 (x7 + 1))
    · rw [hc]
      refine Eq.trans k_exit ?_
      refine Eq.trans loop_exit ?_
      exact hK0 x7
theorem dbd_IsName_r8 (k : Nat) (a0 : Str) (y14 : Int) : regionE prog (evF prog anns ext k) dbd_IsName_a8 dbd_IsName_o8 false ⟨[(0, (V.str a0)), (6, (V.int .i64 (a0.length : Int))), (7, (V.int .i64 y14)), (8, (V.bool false))], [], 47⟩ = ((bif (decide ((a0.length : Int) ≥ 1)) then (some ((decide ((a0.length : Int) ≤ 8)))) else (some (false)))).map (fun (o : Bool) => (⟨[(2, (V.bool o))], [], 47⟩ : St)) := by
  refine Eq.trans regionE_reg ?_
  refine Eq.trans (reg_adv (m := 4) (j := 4) (st' := ⟨[(0, (V.str a0)), (6, (V.int .i64 (a0.length : Int))), (7, (V.int .i64 y14)), (8, (V.bool false)), (39, (V.str a0)), (40, (V.int .i64 (a0.length : Int))), (41, (V.bool (decide ((a0.length : Int) ≥ 1)))), (42, (V.bool (decide ((a0.length : Int) ≥ 1))))], [], 47⟩) rfl rfl rfl) ?_
  refine bifE (c := (decide ((a0.length : Int) ≥ 1))) (fun hc => ?_) (fun hc => ?_)
  · rw [hc]
    exact reg_end rfl
  · rw [hc]
    exact reg_end rfl
theorem dbd_IsName_ok (k : Nat) (a0 : Str) : evF prog anns ext k 56 [(V.str a0)] = (dbd_IsName k a0).map dbd_IsName_fin := by
  cases k with
  | zero => rfl
  | succ k =>
    unfold dbd_IsName
    refine Eq.trans (evF_succ (c := dbd_IsName_c) (N := 47) (regs := dbd_IsName_an) rfl Go.Proofs.Try.func56 rfl (by decide) rfl rfl rfl) ?_
    refine Eq.trans (k_region0 rfl (dbd_IsName_r0 k a0)) ?_
    refine Eq.trans k_assoc ?_
    refine Eq.trans (k_region0 rfl (dbd_IsName_r1 k a0)) ?_
    refine Eq.trans k_block ?_
    refine Eq.trans k_loop ?_
    refine dbd_IsName_L1_ok k a0 _ _ ?h_dbd_IsName_L1_0 ?hr_dbd_IsName_L1 k 0
    · intro y14
      refine Eq.trans blk_exit ?_
      refine Eq.trans (k_region rfl (dbd_IsName_r8 k a0 y14)) ?_
      refine bindE (fun o15 => ?_)
      refine Eq.trans k_lret ?_
      rfl
    · intro s; exact rfl
def slices_IndexFunc_Field_fin : Int → V × List V := fun r => ((V.int .i64 r), [])
theorem slices_IndexFunc_Field_r0 (k : Nat) (a0 : (List T_api_Field)) (a1 : Nat → T_api_Field → Option Bool) (a1_fid : Go.FuncId) (a1_c0 : V) (a1_hok : ∀ j x0, evF prog anns ext j a1_fid [(enc_T_api_Field x0), V.pro a1_c0] = (a1 j x0).map fun b => ((V.bool b), [])) : regionE prog (evF prog anns ext k) slices_IndexFunc_Field_a0 slices_IndexFunc_Field_o0 false ⟨[(0, (V.sl 0 3 (List.map enc_T_api_Field a0))), (1, (V.fn a1_fid [] [V.pro a1_c0]))], [], 19⟩ = some ⟨[(0, (V.sl 0 3 (List.map enc_T_api_Field a0))), (1, (V.fn a1_fid [] [V.pro a1_c0]))], [], 19⟩ := by
  refine Eq.trans regionE_reg ?_
  exact reg_end rfl
theorem slices_IndexFunc_Field_r1 (k : Nat) (a0 : (List T_api_Field)) (a1 : Nat → T_api_Field → Option Bool) (a1_fid : Go.FuncId) (a1_c0 : V) (a1_hok : ∀ j x0, evF prog anns ext j a1_fid [(enc_T_api_Field x0), V.pro a1_c0] = (a1 j x0).map fun b => ((V.bool b), [])) : regionE prog (evF prog anns ext k) slices_IndexFunc_Field_a1 slices_IndexFunc_Field_o1 false ⟨[(0, (V.sl 0 3 (List.map enc_T_api_Field a0))), (1, (V.fn a1_fid [] [V.pro a1_c0]))], [], 19⟩ = some ⟨[(0, (V.sl 0 3 (List.map enc_T_api_Field a0))), (1, (V.fn a1_fid [] [V.pro a1_c0])), (7, (V.int .i64 (a0.length : Int))), (8, (V.int .i64 0))], [], 19⟩ := by
  refine Eq.trans regionE_reg ?_
  refine Eq.trans (reg_adv (m := 1) (j := 1) (st' := ⟨[(0, (V.sl 0 3 (List.map enc_T_api_Field a0))), (1, (V.fn a1_fid [] [V.pro a1_c0])), (6, (V.sl 0 3 (List.map enc_T_api_Field a0)))], [], 19⟩) rfl rfl rfl) ?_
  refine Eq.trans (reg_pure (x := some ()) (w := fun _ => (V.int .i64 (a0.length : Int))) rfl rfl rfl rfl (p_len (e := enc_T_api_Field) rfl rfl rfl rfl rfl rfl Go.Proofs.Try.underlying53)) ?_
  refine Eq.trans some_bind ?_
  exact bind_end rfl
theorem slices_IndexFunc_Field_r2 (k : Nat) (a0 : (List T_api_Field)) (x4 : Int) (a1 : Nat → T_api_Field → Option Bool) (a1_fid : Go.FuncId) (a1_c0 : V) (a1_hok : ∀ j x0, evF prog anns ext j a1_fid [(enc_T_api_Field x0), V.pro a1_c0] = (a1 j x0).map fun b => ((V.bool b), [])) : regionE prog (evF prog anns ext k) slices_IndexFunc_Field_a2 slices_IndexFunc_Field_o2 false ⟨[(0, (V.sl 0 3 (List.map enc_T_api_Field a0))), (1, (V.fn a1_fid [] [V.pro a1_c0])), (7, (V.int .i64 (a0.length : Int))), (8, (V.int .i64 x4))], [], 19⟩ = some ⟨[(0, (V.sl 0 3 (List.map enc_T_api_Field a0))), (1, (V.fn a1_fid [] [V.pro a1_c0])), (7, (V.int .i64 (a0.length : Int))), (8, (V.int .i64 x4)), (9, (V.bool (decide (x4 < (a0.length : Int)))))], [], 19⟩ := by
  refine Eq.trans regionE_reg ?_
  exact reg_end rfl
theorem slices_IndexFunc_Field_r3 (k : Nat) (a0 : (List T_api_Field)) (x4 : Int) (a1 : Nat → T_api_Field → Option Bool) (a1_fid : Go.FuncId) (a1_c0 : V) (a1_hok : ∀ j x0, evF prog anns ext j a1_fid [(enc_T_api_Field x0), V.pro a1_c0] = (a1 j x0).map fun b => ((V.bool b), [])) : regionE prog (evF prog anns ext k) slices_IndexFunc_Field_a3 slices_IndexFunc_Field_o3 false ⟨[(0, (V.sl 0 3 (List.map enc_T_api_Field a0))), (1, (V.fn a1_fid [] [V.pro a1_c0])), (7, (V.int .i64 (a0.length : Int))), (8, (V.int .i64 x4)), (9, (V.bool true))], [], 19⟩ = some ⟨[(0, (V.sl 0 3 (List.map enc_T_api_Field a0))), (1, (V.fn a1_fid [] [V.pro a1_c0])), (5, (V.int .i64 x4)), (7, (V.int .i64 (a0.length : Int))), (8, (V.int .i64 x4))], [], 19⟩ := by
  refine Eq.trans regionE_reg ?_
  exact reg_end rfl
theorem slices_IndexFunc_Field_r4 (k : Nat) (a0 : (List T_api_Field)) (x4 : Int) (a1 : Nat → T_api_Field → Option Bool) (a1_fid : Go.FuncId) (a1_c0 : V) (a1_hok : ∀ j x0, evF prog anns ext j a1_fid [(enc_T_api_Field x0), V.pro a1_c0] = (a1 j x0).map fun b => ((V.bool b), [])) : regionE prog (evF prog anns ext k) slices_IndexFunc_Field_a4 slices_IndexFunc_Field_o4 false ⟨[(0, (V.sl 0 3 (List.map enc_T_api_Field a0))), (1, (V.fn a1_fid [] [V.pro a1_c0])), (5, (V.int .i64 x4)), (7, (V.int .i64 (a0.length : Int))), (8, (V.int .i64 x4))], [], 19⟩ = (((idx a0 x4).bind fun v5 => (a1 k v5))).map (fun (o : Bool) => (⟨[(0, (V.sl 0 3 (List.map enc_T_api_Field a0))), (1, (V.fn a1_fid [] [V.pro a1_c0])), (5, (V.int .i64 x4)), (7, (V.int .i64 (a0.length : Int))), (8, (V.int .i64 x4)), (16, (V.bool o))], [], 19⟩ : St)) := by
  refine Eq.trans regionE_reg ?_
  refine Eq.trans (reg_adv (m := 3) (j := 3) (st' := ⟨[(0, (V.sl 0 3 (List.map enc_T_api_Field a0))), (1, (V.fn a1_fid [] [V.pro a1_c0])), (5, (V.int .i64 x4)), (7, (V.int .i64 (a0.length : Int))), (8, (V.int .i64 x4)), (11, (V.fn a1_fid [] [V.pro a1_c0])), (12, (V.sl 0 3 (List.map enc_T_api_Field a0))), (13, (V.int .i64 x4))], [], 19⟩) rfl rfl rfl) ?_
  refine Eq.trans (reg_pure (x := (idx a0 x4)) (w := fun v5 => (V.pro (enc_T_api_Field v5))) rfl rfl rfl rfl (p_index (e := enc_T_api_Field) rfl rfl rfl Go.Proofs.Try.underlying53 rfl (by decide))) ?_
  refine bindE (fun v5 => ?_)
  refine Eq.trans (bind_adv (m := 1) (j := 5) (st' := ⟨[(0, (V.sl 0 3 (List.map enc_T_api_Field a0))), (1, (V.fn a1_fid [] [V.pro a1_c0])), (5, (V.int .i64 x4)), (7, (V.int .i64 (a0.length : Int))), (8, (V.int .i64 x4)), (11, (V.fn a1_fid [] [V.pro a1_c0])), (12, (V.sl 0 3 (List.map enc_T_api_Field a0))), (13, (V.int .i64 x4)), (14, (V.pro (enc_T_api_Field v5))), (15, (enc_T_api_Field v5))], [], 19⟩) rfl rfl rfl) ?_
  refine Eq.trans (reg_pure (x := (a1 k v5)) (w := fun v6 => (V.bool v6)) rfl rfl rfl rfl (p_call rfl rfl rfl rfl rfl (a1_hok k v5) (.inl rfl))) ?_
  refine bind_self (fun v6 => ?_)
  exact bind_end rfl
theorem slices_IndexFunc_Field_r5 (k : Nat) (a0 : (List T_api_Field)) (x4 : Int) (a1 : Nat → T_api_Field → Option Bool) (a1_fid : Go.FuncId) (a1_c0 : V) (a1_hok : ∀ j x0, evF prog anns ext j a1_fid [(enc_T_api_Field x0), V.pro a1_c0] = (a1 j x0).map fun b => ((V.bool b), [])) : regionE prog (evF prog anns ext k) slices_IndexFunc_Field_a5 slices_IndexFunc_Field_o5 false ⟨[(0, (V.sl 0 3 (List.map enc_T_api_Field a0))), (1, (V.fn a1_fid [] [V.pro a1_c0])), (5, (V.int .i64 x4)), (7, (V.int .i64 (a0.length : Int))), (8, (V.int .i64 x4)), (16, (V.bool true))], [], 19⟩ = some ⟨[(4, (V.int .i64 x4))], [], 19⟩ := by
  refine Eq.trans regionE_reg ?_
  exact reg_end rfl
theorem slices_IndexFunc_Field_r6 (k : Nat) (a0 : (List T_api_Field)) (x4 : Int) (a1 : Nat → T_api_Field → Option Bool) (a1_fid : Go.FuncId) (a1_c0 : V) (a1_hok : ∀ j x0, evF prog anns ext j a1_fid [(enc_T_api_Field x0), V.pro a1_c0] = (a1 j x0).map fun b => ((V.bool b), [])) : regionE prog (evF prog anns ext k) slices_IndexFunc_Field_a6 slices_IndexFunc_Field_o6 false ⟨[(0, (V.sl 0 3 (List.map enc_T_api_Field a0))), (1, (V.fn a1_fid [] [V.pro a1_c0])), (5, (V.int .i64 x4)), (7, (V.int .i64 (a0.length : Int))), (8, (V.int .i64 x4)), (16, (V.bool false))], [], 19⟩ = some ⟨[(0, (V.sl 0 3 (List.map enc_T_api_Field a0))), (1, (V.fn a1_fid [] [V.pro a1_c0])), (7, (V.int .i64 (a0.length : Int))), (8, (V.int .i64 (Go.IntKind.wrap .i64 (x4 + 1))))], [], 19⟩ := by
  refine Eq.trans regionE_reg ?_
  exact reg_end rfl
theorem slices_IndexFunc_Field_L1_ok (k : Nat) (a0 : (List T_api_Field)) (a1 : Nat → T_api_Field → Option Bool) (a1_fid : Go.FuncId) (a1_c0 : V) (a1_hok : ∀ j x0, evF prog anns ext j a1_fid [(enc_T_api_Field x0), V.pro a1_c0] = (a1 j x0).map fun b => ((V.bool b), [])) (K0 : Int → Option Int) (Kst : X × St → Option (V × List V)) (hK0 : ∀ (y0 : Int), Kst (X.exit 0, ⟨[(0, (V.sl 0 3 (List.map enc_T_api_Field a0))), (1, (V.fn a1_fid [] [V.pro a1_c0])), (7, (V.int .i64 (a0.length : Int))), (8, (V.int .i64 y0)), (9, (V.bool false))], [], 19⟩) = (K0 y0).map slices_IndexFunc_Field_fin) (hret : ∀ s, Kst (X.ret, s) = endK prog 19 [(V.sl 0 3 (List.map enc_T_api_Field a0)), (V.fn a1_fid [] [V.pro a1_c0])] [] [.tmp 4] (X.ret, s)) :
    ∀ (m : Nat) (x4 : Int), (iter (exec prog (evF prog anns ext k) slices_IndexFunc_Field_an k slices_IndexFunc_Field_b0) m ⟨[(0, (V.sl 0 3 (List.map enc_T_api_Field a0))), (1, (V.fn a1_fid [] [V.pro a1_c0])), (7, (V.int .i64 (a0.length : Int))), (8, (V.int .i64 x4))], [], 19⟩).bind Kst = (slices_IndexFunc_Field_L1 k a0 a1 K0 m x4).map slices_IndexFunc_Field_fin := by
  intro m
  induction m with
  | zero => intros; rfl
  | succ m ih =>
    intro x4
    unfold slices_IndexFunc_Field_L1
    refine Eq.trans k_round ?_
    refine Eq.trans (k_region0 rfl (slices_IndexFunc_Field_r2 k a0 x4 a1 a1_fid a1_c0 a1_hok)) ?_
    refine Eq.trans (k_cond (t := (decide (x4 < (a0.length : Int)))) rfl) ?_
    refine bifE2 (fun hc => ?_) (fun hc => ?_)
    · rw [hc]
      refine Eq.trans k_skip ?_
      refine Eq.trans k_block ?_
      refine Eq.trans (k_region0 rfl (slices_IndexFunc_Field_r3 k a0 x4 a1 a1_fid a1_c0 a1_hok)) ?_
      refine Eq.trans (k_region rfl (slices_IndexFunc_Field_r4 k a0 x4 a1 a1_fid a1_c0 a1_hok)) ?_
      refine bindE (fun o7 => ?_)
      refine Eq.trans (k_lcond (t := o7) rfl) ?_
      refine bifE2 (fun hc => ?_) (fun hc => ?_)
      · rw [hc]
        refine Eq.trans (k_region0 rfl (slices_IndexFunc_Field_r5 k a0 x4 a1 a1_fid a1_c0 a1_hok)) ?_
        refine Eq.trans k_lret ?_
        refine Eq.trans blk_ret ?_
        refine Eq.trans loop_ret ?_
        refine Eq.trans (hret _) ?_
        rfl
      · rw [hc]
        refine Eq.trans k_lskip ?_
        refine Eq.trans blk_normal ?_
        refine Eq.trans (k_lregion0 rfl (slices_IndexFunc_Field_r6 k a0 x4 a1 a1_fid a1_c0 a1_hok)) ?_
        refine Eq.trans loop_normal ?_
        exact ih (Go.IntKind.wrap .i64 (x4 + 1))
    · rw [hc]
      refine Eq.trans k_exit ?_
      refine Eq.trans loop_exit ?_
      exact hK0 x4
end Go.AE
