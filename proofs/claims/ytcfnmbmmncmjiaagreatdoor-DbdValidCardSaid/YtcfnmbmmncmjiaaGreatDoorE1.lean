/- The program, function by function: the evaluator comes to the typed functions. Conditions: none. -/
import Derived.Test.YtcfnmbmmncmjiaaGreatDoorA3
import Derived.KernelRfl
import Derived.Test.YtcfnmbmmncmjiaaGreatDoorProg
import Derived.Test.YtcfnmbmmncmjiaaGreatDoorB1
set_option linter.unusedSimpArgs false
set_option linter.unusedVariables false
namespace Go.AE
open Go.Proofs.Tryz Go.Sh
set_option maxRecDepth 100000
set_option maxHeartbeats 4000000
noncomputable section
abbrev Pt (n:Nat):V:=.ptr n 0 0
abbrev Bo (b:Bool):V:=.bool b
abbrev Sr (s:Str):V:=.str s
abbrev Pr (v:V):V:=.pro v
abbrev sS (l:List Str):V:=.sl 0 1 (List.map V.str l)
abbrev vS (n:Nat) (v:V):u6:=⟨false,n,[v]⟩
abbrev aL {α:Type} (d:Nat) (e:α→V) (l:List α):V:=.aref d 0 (List.map e l).length
theorem Bt:prog.eqGuardType prog.depth 54=false:=by kernel_rfl
theorem EM:prog.stoodInHeld 54=false:=by kernel_rfl
theorem Bu:prog.eqGuardType prog.depth 56=false:=by kernel_rfl
theorem EN:prog.stoodInHeld 56=false:=by kernel_rfl
def j3 (a:b8):V:=.agg [(V.str a.fName),(V.int .i64 a.fAt),(V.int .i64 a.fBytes)]
def d9 (a:a7):V:=.agg [(V.str a.fName),(V.int .i64 a.fParent),(V.int .i64 a.fMin),(V.int .i64 a.fSize),(V.sl 0 3 (List.map j3 a.fFields)),(V.int .i64 a.fKey),(V.bool a.fUnique),(V.bool a.fLast)]
def d7 (a:a8):V:=.agg [(V.str a.fName),(V.int .i64 a.fType),(V.int .i64 a.fField),(V.str a.fSparse)]
def j5 (a:a6):V:=.agg [(V.str a.fName),(V.int .i64 a.fKind),(V.sl 0 8 (List.map d9 a.fTypes)),(V.sl 0 4 (List.map d7 a.fIndexes))]
def b5 (a:a7):V:=.agg [(V.str a.fName),(V.int .i64 a.fParent),(V.int .i64 a.fMin),(V.int .i64 a.fSize),(V.sl 1 3 (List.map j3 a.fFields)),(V.int .i64 a.fKey),(V.bool a.fUnique),(V.bool a.fLast)]
def Bx:j4:=⟨[4,5,6,7],[]⟩
def Bz:j4:=⟨[8,11,12,13,14,15,16,17],[]⟩
def BA:j4:=⟨[1,3,8,19,20,21,22,23,24,25,26,27,28],[]⟩
noncomputable def BB:Code:=(.seq (.seq (.region 2 (oN f10 133) false) (.cond (.tmp 8) .skip (.exit 0))) (.seq (.block 1 (.seq (.region 4 (oN f10 549) false) (.cond (.tmp 18) (.seq (.region 5 (oN f10 2341) false) .ret) .skip))) (.region 3 (oN f10 229) false)))
noncomputable def f10c:Code:=(.seq (.region 0 (oN f10 2) false) (.seq (.seq (.region 1 (oN f10 9) false) (.block 0 (.loop BB))) (.seq (.region 6 (oN f10 11) false) .ret)))
def Fg:List (Nat×j4):=[(0,⟨[0,2],[]⟩),(1,⟨[],[]⟩),(2,Bx),(3,⟨[9,10,18],[]⟩),(4,Bz),(5,⟨[1,3,18],[]⟩),(6,BA)]
noncomputable def f18c:Code:=(.seq (.region 0 (oN f18 2) false) (.seq (.region 1 (oN f18 5) false) .ret))
def Gd:List (Nat×j4):=[(0,⟨[],[]⟩),(1,⟨[1,2,3,4,5,6,7,8,9,10],[]⟩)]
def BJ:j4:=⟨[10,11,12,13,14,15,16,17,18,19],[]⟩
def BK:j4:=⟨[3,4,20,21,22,23,24,25,26,27,28,29,30,31,32,33,34,35,36],[]⟩
def BL:j4:=⟨[0,6,7,8,39,40,41,42,43,44,45,46],[]⟩
noncomputable def BM:Code:=(.seq (.region 2 (oN f12 69) false) (.seq (.cond (.tmp 8) .skip (.exit 0)) (.seq (.block 1 (.seq (.region 3 (oN f12 1125) false) (.seq (.region 4 (oN f12 2661) false) (.seq (.region 5 (oN f12 5733) false) (.cond (.tmp 37) (.seq (.region 6 (oN f12 20069) false) .ret) .skip))))) (.region 7 (oN f12 485) false))))
noncomputable def f12c:Code:=(.seq (.region 0 (oN f12 2) false) (.seq (.seq (.region 1 (oN f12 9) false) (.block 0 (.loop BM))) (.seq (.region 8 (oN f12 11) false) .ret)))
def Fh:List (Nat×j4):=[(0,⟨[2],[]⟩),(1,⟨[5],[]⟩),(2,⟨[],[]⟩),(3,⟨[8,9],[]⟩),(4,BJ),(5,BK),(6,⟨[0,6,7,37],[]⟩),(7,⟨[37,38],[]⟩),(8,BL)]
def Eh:j4:=⟨[6],[]⟩
def Ei:j4:=⟨[11,12,13,14,15],[]⟩
noncomputable def Ej:Code:=(.seq (.region 2 (oN f75 69) false) (.seq (.cond (.tmp 9) .skip (.exit 0)) (.seq (.block 1 (.seq (.region 3 (oN f75 1125) false) (.seq (.region 4 (oN f75 2661) false) (.cond (.tmp 16) (.seq (.region 5 (oN f75 9829) false) .ret) .skip)))) (.region 6 (oN f75 485) false))))
noncomputable def f75c:Code:=(.seq (.region 0 (oN f75 2) false) (.seq (.seq (.region 1 (oN f75 9) false) (.block 0 (.loop Ej))) (.seq (.region 7 (oN f75 11) false) .ret)))
def Fv:List (Nat×j4):=[(0,⟨[4],[]⟩),(1,Eh),(2,⟨[],[]⟩),(3,⟨[9,10],[]⟩),(4,Ei),(5,⟨[0,1,5,7,8,16,17],[]⟩),(6,⟨[5,16,18],[]⟩),(7,⟨[0,1,7,8,9],[]⟩)]
def yz:j4:=⟨[0,1,5,6,7,8],[]⟩
noncomputable def FY:Code:=(.seq (.region 0 (oN f102 2) false) (.seq (.region 1 (oN f102 5) false) .ret))
def Bv:List (Nat×j4):=[(0,⟨[4],[]⟩),(1,yz)]
noncomputable def FZ:Code:=(.seq (.region 0 (oN f103 2) false) (.seq (.region 1 (oN f103 5) false) .ret))
def Bw:List (Nat×j4):=[(0,⟨[0,3],[]⟩),(1,⟨[1,2,4,5,6,7,8],[]⟩)]
def El:j4:=⟨[],[]⟩
def Em:j4:=⟨[10,11,12,13],[]⟩
def En:j4:=⟨[14,15,16,17,18,19,20,21,22,23,24,25,26,27,28,29,30,31,32,33,34,35,36,37,38,39,40,41],[]⟩
def Eo:j4:=⟨[5,6,42,43,44,45,46],[]⟩
def Ep:j4:=⟨[0,1,7,8,9,10,49,50,51],[]⟩
noncomputable def Er:Code:=(.seq (.region 2 (oN f83 69) false) (.seq (.cond (.tmp 10) .skip (.exit 0)) (.seq (.block 1 (.seq (.region 3 (oN f83 1125) false) (.seq (.seq (.region 4 (oN f83 4709) false) (.cond (.tmp 42) (.seq (.region 5 (oN f83 19045) false) .ret) .skip)) (.seq (.region 6 (oN f83 5733) false) (.cond (.tmp 47) (.seq (.region 7 (oN f83 20069) false) .ret) .skip))))) (.region 8 (oN f83 485) false))))
noncomputable def f83c:Code:=(.seq (.region 0 (oN f83 2) false) (.seq (.seq (.region 1 (oN f83 9) false) (.block 0 (.loop Er))) (.seq (.region 9 (oN f83 11) false) .ret)))
def Fw:List (Nat×j4):=[(0,⟨[4],[]⟩),(1,El),(2,⟨[],[]⟩),(3,Em),(4,En),(5,⟨[0,1,5,6,7,8,9,42],[]⟩),(6,Eo),(7,⟨[0,1,7,8,9,47],[]⟩),(8,⟨[47,48],[]⟩),(9,Ep)]
def DK:j4:=⟨[4,5,6,7,8,9,10,11,12,13,14,15,16,17,18,19,20,21,22,23,24,25,26,27,28,29,30,31,32],[]⟩
def DL:j4:=⟨[33,41,42,43,44,45,46,47,48,49,50,51],[]⟩
def DM:j4:=⟨[1,40,52,53,54,55,56,57,58,59,60,61,62,63,64,65,66,67,68,69],[]⟩
noncomputable def f56c:Code:=(.seq (.region 0 (oN f56 2) false) (.seq (.block 0 (.seq (.region 1 (oN f56 17) false) (.cond (.tmp 3) (.seq (.region 2 (oN f56 73) false) .ret) (.seq (.region 3 (oN f56 89) false) (.cond (.tmp 33) (.seq (.region 4 (oN f56 313) false) .ret) (.seq (.region 5 (oN f56 377) false) (.cond (.tmp 40) (.seq (.region 6 (oN f56 1273) false) .ret) .skip))))))) (.seq (.region 7 (oN f56 11) true) .ret)))
def Gu:List (Nat×j4):=[(0,⟨[0,2],[]⟩),(1,DK),(2,⟨[1,3],[]⟩),(3,⟨[3,34,35,36],[]⟩),(4,⟨[1,33,37,38,39],[]⟩),(5,DL),(6,⟨[1,40],[]⟩),(7,DM)]
def Ea:j4:=⟨[6],[]⟩
def Eb:j4:=⟨[11,12,13,14,15],[]⟩
noncomputable def Ec:Code:=(.seq (.region 2 (oN f72 69) false) (.seq (.cond (.tmp 9) .skip (.exit 0)) (.seq (.block 1 (.seq (.region 3 (oN f72 1125) false) (.seq (.region 4 (oN f72 2661) false) (.cond (.tmp 16) (.seq (.region 5 (oN f72 9829) false) .ret) .skip)))) (.region 6 (oN f72 485) false))))
noncomputable def f72c:Code:=(.seq (.region 0 (oN f72 2) false) (.seq (.seq (.region 1 (oN f72 9) false) (.block 0 (.loop Ec))) (.seq (.region 7 (oN f72 11) false) .ret)))
def Fu:List (Nat×j4):=[(0,⟨[4],[]⟩),(1,Ea),(2,⟨[],[]⟩),(3,⟨[9,10],[]⟩),(4,Eb),(5,⟨[0,1,5,7,8,16,17],[]⟩),(6,⟨[5,16,18],[]⟩),(7,⟨[0,1,7,8,9],[]⟩)]
def DN:j4:=⟨[0,1,5,6,7,8],[]⟩
noncomputable def f57c:Code:=(.seq (.region 0 (oN f57 2) false) (.seq (.region 1 (oN f57 5) false) .ret))
def Gv:List (Nat×j4):=[(0,⟨[4],[]⟩),(1,DN)]
noncomputable def f58c:Code:=(.seq (.region 0 (oN f58 2) false) (.seq (.region 1 (oN f58 5) false) .ret))
def Gw:List (Nat×j4):=[(0,⟨[0,3],[]⟩),(1,⟨[1,2,4,5,6,7,8],[]⟩)]
def DO:j4:=⟨[6],[]⟩
def DP:j4:=⟨[11,12,13,14,15],[]⟩
noncomputable def DQ:Code:=(.seq (.region 2 (oN f59 69) false) (.seq (.cond (.tmp 9) .skip (.exit 0)) (.seq (.block 1 (.seq (.region 3 (oN f59 1125) false) (.seq (.region 4 (oN f59 2661) false) (.cond (.tmp 16) (.seq (.region 5 (oN f59 9829) false) .ret) .skip)))) (.region 6 (oN f59 485) false))))
noncomputable def f59c:Code:=(.seq (.region 0 (oN f59 2) false) (.seq (.seq (.region 1 (oN f59 9) false) (.block 0 (.loop DQ))) (.seq (.region 7 (oN f59 11) false) .ret)))
def Ft:List (Nat×j4):=[(0,⟨[4],[]⟩),(1,DO),(2,⟨[],[]⟩),(3,⟨[9,10],[]⟩),(4,DP),(5,⟨[0,1,5,7,8,16,17],[]⟩),(6,⟨[5,16,18],[]⟩),(7,⟨[0,1,7,8,9],[]⟩)]
def CC:j4:=⟨[7,8,9,10,11,12,13],[]⟩
def CD:j4:=⟨[],[]⟩
def CE:j4:=⟨[18,19,20,21],[]⟩
def CF:j4:=⟨[22,23,24,25,26,27,28,29,30],[]⟩
def CG:j4:=⟨[31,32,33,34,35],[]⟩
def yO:j4:=⟨[5,36,37,38,39,40,41,42,43,44,45,46,47,48,49,50,51,52,53,54,55,56,57,58,59,60,61,62,63,64,65,66,67,68,69],[]⟩
def yP:j4:=⟨[4,6,70,71,72,73,74,75,76,77],[]⟩
def yQ:j4:=⟨[78,79],[]⟩
noncomputable def CH:Code:=(.seq (.region 5 (oN f32 279) false) (.seq (.cond (.tmp 18) .skip (.exit 0)) (.seq (.block 1 (.seq (.region 6 (oN f32 4503) false) (.seq (.seq (.region 7 (oN f32 18839) false) (.cond (.tmp 31) (.seq (.region 8 (oN f32 76183) false) .ret) .skip)) (.seq (.region 9 (oN f32 22935) false) (.seq (.seq (.region 10 (oN f32 80279) false) (.cond (.tmp 70) (.seq (.region 11 (oN f32 309655) false) .ret) .skip)) (.seq (.region 12 (oN f32 96663) false) (.seq (.region 13 (oN f32 194967) false) (.cond (.tmp 80) (.seq (.region 14 (oN f32 653719) false) .ret) .skip)))))))) (.region 15 (oN f32 1943) false))))
noncomputable def f32c:Code:=(.seq (.region 0 (oN f32 2) false) (.seq (.seq (.region 1 (oN f32 9) false) (.cond (.tmp 14) (.seq (.region 2 (oN f32 37) false) .ret) .skip)) (.seq (.region 3 (oN f32 11) false) (.seq (.seq (.region 4 (oN f32 39) false) (.block 0 (.loop CH))) (.seq (.region 16 (oN f32 47) false) .ret)))))
def Fm:List (Nat×j4):=[(0,⟨[2],[]⟩),(1,CC),(2,⟨[0,14],[]⟩),(3,⟨[14],[(0,{ site:=true })]⟩),(4,CD),(5,⟨[],[]⟩),(6,CE),(7,CF),(8,⟨[0,3,4,5,15,16,17,31],[]⟩),(9,CG),(10,yO),(11,⟨[0,3,4,6,15,16,17,70],[]⟩),(12,yP),(13,yQ),(14,⟨[0,3,15,16,17,80],[]⟩),(15,⟨[80,81],[]⟩),(16,⟨[0,3,15,16,17,18],[]⟩)]
def Es:j4:=⟨[6],[]⟩
def Et:j4:=⟨[11,12,13,14,15],[]⟩
noncomputable def Eu:Code:=(.seq (.region 2 (oN f84 69) false) (.seq (.cond (.tmp 9) .skip (.exit 0)) (.seq (.block 1 (.seq (.region 3 (oN f84 1125) false) (.seq (.region 4 (oN f84 2661) false) (.cond (.tmp 16) (.seq (.region 5 (oN f84 9829) false) .ret) .skip)))) (.region 6 (oN f84 485) false))))
noncomputable def f84c:Code:=(.seq (.region 0 (oN f84 2) false) (.seq (.seq (.region 1 (oN f84 9) false) (.block 0 (.loop Eu))) (.seq (.region 7 (oN f84 11) false) .ret)))
def Fx:List (Nat×j4):=[(0,⟨[4],[]⟩),(1,Es),(2,⟨[],[]⟩),(3,⟨[9,10],[]⟩),(4,Et),(5,⟨[0,1,5,7,8,16,17],[]⟩),(6,⟨[5,16,18],[]⟩),(7,⟨[0,1,7,8,9],[]⟩)]
def DR:j4:=⟨[0,1,5,6,7,8],[]⟩
noncomputable def f60c:Code:=(.seq (.region 0 (oN f60 2) false) (.seq (.region 1 (oN f60 5) false) .ret))
def GA:List (Nat×j4):=[(0,⟨[4],[]⟩),(1,DR)]
noncomputable def f61c:Code:=(.seq (.region 0 (oN f61 2) false) (.seq (.region 1 (oN f61 5) false) .ret))
def GB:List (Nat×j4):=[(0,⟨[0,3],[]⟩),(1,⟨[1,2,4,5,6,7,8],[]⟩)]
def CI:j4:=⟨[],[]⟩
def CJ:j4:=⟨[11,12,13,14],[]⟩
def CK:j4:=⟨[5,15,16,17,18,19,20,21,22,23,24,25,26,27,28,29,30,31,32,33,34,35,36,37,38,39,40,41,42],[]⟩
def CL:j4:=⟨[43,44,45,46,47,48,49],[]⟩
def CM:j4:=⟨[6,7,50,51,52,53,54,55,56,57,58,59,60,61,62,63,64,65,66,67],[]⟩
def yR:j4:=⟨[0,1,8,9,10,11,70,71,72],[]⟩
noncomputable def CN:Code:=(.seq (.region 2 (oN f33 69) false) (.seq (.cond (.tmp 11) .skip (.exit 0)) (.seq (.block 1 (.seq (.region 3 (oN f33 1125) false) (.seq (.seq (.region 4 (oN f33 4709) false) (.cond (.tmp 43) (.seq (.region 5 (oN f33 19045) false) .ret) .skip)) (.seq (.region 6 (oN f33 5733) false) (.seq (.region 7 (oN f33 11877) false) (.cond (.tmp 68) (.seq (.region 8 (oN f33 40549) false) .ret) .skip)))))) (.region 9 (oN f33 485) false))))
noncomputable def f33c:Code:=(.seq (.region 0 (oN f33 2) false) (.seq (.seq (.region 1 (oN f33 9) false) (.block 0 (.loop CN))) (.seq (.region 10 (oN f33 11) false) .ret)))
def Fn:List (Nat×j4):=[(0,⟨[4],[]⟩),(1,CI),(2,⟨[],[]⟩),(3,CJ),(4,CK),(5,⟨[0,1,6,8,9,10,43],[]⟩),(6,CL),(7,CM),(8,⟨[0,1,8,9,10,68],[]⟩),(9,⟨[68,69],[]⟩),(10,yR)]
def BR:j4:=⟨[1,3,4,5,6,7,8,9,10,11,12,13,14,15,16,17,18,19,20,21,22,23,24,25,26,27],[]⟩
noncomputable def f14c:Code:=(.seq (.region 0 (oN f14 2) false) (.seq (.region 1 (oN f14 5) false) .ret))
def Ga:List (Nat×j4):=[(0,⟨[0,2],[]⟩),(1,BR)]
def Ev:j4:=⟨[6],[]⟩
def Ew:j4:=⟨[11,12,13,14,15],[]⟩
noncomputable def Ex:Code:=(.seq (.region 2 (oN f85 69) false) (.seq (.cond (.tmp 9) .skip (.exit 0)) (.seq (.block 1 (.seq (.region 3 (oN f85 1125) false) (.seq (.region 4 (oN f85 2661) false) (.cond (.tmp 16) (.seq (.region 5 (oN f85 9829) false) .ret) .skip)))) (.region 6 (oN f85 485) false))))
noncomputable def f85c:Code:=(.seq (.region 0 (oN f85 2) false) (.seq (.seq (.region 1 (oN f85 9) false) (.block 0 (.loop Ex))) (.seq (.region 7 (oN f85 11) false) .ret)))
def Fy:List (Nat×j4):=[(0,⟨[4],[]⟩),(1,Ev),(2,⟨[],[]⟩),(3,⟨[9,10],[]⟩),(4,Ew),(5,⟨[0,1,5,7,8,16,17],[]⟩),(6,⟨[5,16,18],[]⟩),(7,⟨[0,1,7,8,9],[]⟩)]
def DS:j4:=⟨[0,1,5,6,7,8],[]⟩
noncomputable def f62c:Code:=(.seq (.region 0 (oN f62 2) false) (.seq (.region 1 (oN f62 5) false) .ret))
def GC:List (Nat×j4):=[(0,⟨[4],[]⟩),(1,DS)]
def DT:j4:=⟨[0,1,4,5,6,7,8,9,10,11,12],[]⟩
noncomputable def f63c:Code:=(.seq (.region 0 (oN f63 2) false) (.seq (.region 1 (oN f63 5) false) .ret))
def GD:List (Nat×j4):=[(0,⟨[3],[]⟩),(1,DT)]
def Di:j4:=⟨[6,7,8],[]⟩
def Dj:j4:=⟨[1,2,5,10,11,12],[]⟩
noncomputable def f41c:Code:=(.seq (.region 0 (oN f41 2) false) (.seq (.block 0 (.seq (.region 1 (oN f41 17) false) (.cond (.tmp 5) (.seq (.region 2 (oN f41 73) false) .ret) (.seq (.region 3 (oN f41 89) false) (.cond (.tmp 9) (.seq (.region 4 (oN f41 313) false) .ret) .skip))))) (.seq (.region 5 (oN f41 11) false) .ret)))
def Gi:List (Nat×j4):=[(0,⟨[0,4],[]⟩),(1,Di),(2,⟨[1,2,5],[]⟩),(3,Dj),(4,⟨[9],[]⟩),(5,⟨[9],[]⟩)]
def Dk:j4:=⟨[8,9,10,11,12,13],[]⟩
def Dl:j4:=⟨[7,14,15,16,17],[]⟩
def Dm:j4:=⟨[1,2,7,18,19],[(1,{ eff:=true })]⟩
def Dn:j4:=⟨[5,20],[(1,{ close:=true })]⟩
noncomputable def Do:Code:=(.seq (.seq (.region 2 (oN f42 131) false) (.cond (.tmp 7) .skip (.exit 0))) (.seq (.block 1 (.region 4 (oN f42 291) false)) (.region 3 (oN f42 227) false)))
noncomputable def f42c:Code:=(.seq (.region 0 (oN f42 2) false) (.seq (.region 1 (oN f42 5) false) (.seq (.block 0 (.loop Do)) (.seq (.region 5 (oN f42 23) false) (.seq (.region 6 (oN f42 47) false) .ret)))))
def Fs:List (Nat×j4):=[(0,⟨[0,4],[]⟩),(1,⟨[],[(0,{ site:=true })]⟩),(2,⟨[6],[]⟩),(3,Dk),(4,Dl),(5,Dm),(6,Dn)]
def Cc:j4:=⟨[7,8,9,10],[]⟩
def Cd:j4:=⟨[1,2,6,12,14,15,16],[]⟩
noncomputable def f17c:Code:=(.seq (.region 0 (oN f17 2) false) (.seq (.seq (.region 1 (oN f17 9) false) (.seq (.region 2 (oN f17 21) false) (.cond (.tmp 12) (.seq (.region 3 (oN f17 77) false) .ret) .skip))) (.seq (.region 4 (oN f17 11) false) .ret)))
def Gc:List (Nat×j4):=[(0,⟨[0,4,5],[]⟩),(1,Cc),(2,⟨[11],[]⟩),(3,⟨[1,2,6,12,13],[]⟩),(4,Cd)]
def Ce:j4:=⟨[10,11,12,13],[]⟩
def Cf:j4:=⟨[2,17],[]⟩
def Cg:j4:=⟨[21,22,23,24],[]⟩
def Ch:j4:=⟨[8,28,29,30,31,32],[(0,{ tk:=[7],keep:=[0] }),(3,{ tk:=[29],keep:=[0] }),(4,{ tk:=[32],keep:=[0] })]⟩
noncomputable def Ci:Code:=(.seq (.region 6 (oN f19 279) false) (.seq (.cond (.tmp 21) .skip (.exit 0)) (.seq (.block 1 (.seq (.region 7 (oN f19 4503) false) (.seq (.region 8 (oN f19 10647) false) (.cond (.tmp 28) (.region 9 (oN f19 22935) false) .skip)))) (.region 10 (oN f19 1943) false))))
noncomputable def f19c:Code:=(.seq (.region 0 (oN f19 2) false) (.seq (.seq (.region 1 (oN f19 9) false) (.seq (.region 2 (oN f19 21) false) (.cond (.tmp 15) (.seq (.region 3 (oN f19 77) false) .ret) .skip))) (.seq (.region 4 (oN f19 11) false) (.seq (.seq (.region 5 (oN f19 39) false) (.block 0 (.loop Ci))) (.seq (.region 11 (oN f19 47) false) .ret)))))
def Fj:List (Nat×j4):=[(0,⟨[0,4,5],[]⟩),(1,Ce),(2,⟨[14],[]⟩),(3,⟨[1,2,6,15,16],[]⟩),(4,⟨[6,15],[(0,{ keep:=[0] })]⟩),(5,Cf),(6,⟨[],[]⟩),(7,Cg),(8,⟨[9,25,26,27],[]⟩),(9,Ch),(10,⟨[8,28,33],[]⟩),(11,⟨[1,7,18,19,20,21,34],[]⟩)]
def Cj:j4:=⟨[6,7,8,9],[]⟩
def Ck:j4:=⟨[11,12,13],[]⟩
def Cl:j4:=⟨[14,17,18,19,20,21,22,23,24],[]⟩
noncomputable def Cm:Code:=(.seq (.seq (.region 4 (oN f20 267) false) (.cond (.tmp 14) .skip (.exit 0))) (.seq (.block 1 (.seq (.region 6 (oN f20 1099) true) (.cond (.tmp 25) (.seq (.region 7 (oN f20 4683) false) .ret) .skip))) (.region 5 (oN f20 459) false)))
noncomputable def f20c:Code:=(.seq (.region 0 (oN f20 2) false) (.seq (.seq (.region 1 (oN f20 9) false) (.cond (.tmp 10) (.seq (.region 2 (oN f20 37) false) .ret) .skip)) (.seq (.seq (.region 3 (oN f20 19) false) (.block 0 (.loop Cm))) (.seq (.region 8 (oN f20 23) false) .ret))))
def Fk:List (Nat×j4):=[(0,⟨[4],[]⟩),(1,Cj),(2,⟨[0,1,10],[]⟩),(3,⟨[10],[]⟩),(4,Ck),(5,⟨[15,16,25],[]⟩),(6,Cl),(7,⟨[0,1,5,25],[]⟩),(8,⟨[0,1,5,14],[]⟩)]
def Gx:j4:=⟨[5,6,7,8,9],[]⟩
def Gy:j4:=⟨[10,11,12,13,14],[]⟩
def Gz:j4:=⟨[1,2,3,4,15,16,17,18,19,20,21,22,23,24,25,26,27,28,29,30],[]⟩
noncomputable def f5c:Code:=(.seq (.region 0 (oN f5 2) false) (.seq (.region 1 (oN f5 5) false) (.seq (.region 2 (oN f5 11) false) (.seq (.region 3 (oN f5 23) false) .ret))))
def f5n:List (Nat×j4):=[(0,⟨[0],[]⟩),(1,Gx),(2,Gy),(3,Gz)]
def Ct:j4:=⟨[1,4,5,6,7],[(3,{ eff:=true })]⟩
def Cu:j4:=⟨[0,8,9],[(1,{ eff:=true })]⟩
noncomputable def f27c:Code:=(.seq (.region 0 (oN f27 2) false) (.region 1 (oN f27 3) false))
def Gf:List (Nat×j4):=[(0,Ct),(1,Cu)]
def GU:j4:=⟨[17,18],[]⟩
def GV:j4:=⟨[20,21,22,23,24,25,26],[(6,{ eff:=true })]⟩
def GW:j4:=⟨[27],[]⟩
def GX:j4:=⟨[31,32,33],[]⟩
def EC:j4:=⟨[36,37,38,39,40,41,42,43],[]⟩
def sy:j4:=⟨[7,8,45,46,47,48,49,50,51,52,53,54,55,56,57],[(11,{ eff:=true })]⟩
def sA:j4:=⟨[58],[]⟩
def ED:j4:=⟨[62,63,64,65],[]⟩
def wg:j4:=⟨[10,11,69,71,72,73,74,75,76,77,78,79,80,81,82],[(10,{ eff:=true })]⟩
def EE:j4:=⟨[28,29,30,31,85],[]⟩
def EF:j4:=⟨[89,90,91],[]⟩
def EG:j4:=⟨[14,94,95,96,97],[]⟩
def EH:j4:=⟨[15,98,99,100,101,102,103,104,105,106,107,108,109,110],[]⟩
def zf:j4:=⟨[94,111,112,113,114,115,116],[]⟩
def zg:j4:=⟨[13,14,16,117,118,119,120,121,122,123,124,125,126,127,128,129,130],[(13,{ eff:=true })]⟩
def EI:j4:=⟨[1,4,86,87,88,89,132],[(0,{ eff:=true })]⟩
noncomputable def GY:Code:=(.seq (.region 15 (oN f9 2356015) false) (.seq (.cond (.tmp 62) .skip (.exit 2)) (.seq (.block 3 (.seq (.region 16 (oN f9 36959023) false) (.seq (.region 17 (oN f9 87290671) false) (.seq (.seq (.region 18 (oN f9 322171695) false) (.cond (.tmp 69) (.seq (.region 19 (oN f9 1261695791) false) (.seq (.region 20 (oN f9 2872308527) false) (.cond (.tmp 71) (.region 21 (oN f9 6093533999) false) .skip))) .skip)) (.region 22 (oN f9 255062831) true))))) (.region 23 (oN f9 15987503) false))))
noncomputable def GZ:Code:=(.seq (.region 6 (oN f9 559) false) (.seq (.cond (.tmp 31) .skip (.exit 0)) (.seq (.block 1 (.seq (.region 7 (oN f9 9007) false) (.seq (.region 8 (oN f9 21295) false) (.seq (.seq (.region 9 (oN f9 78639) false) (.cond (.tmp 36) (.region 10 (oN f9 176943) false) .skip)) (.seq (.seq (.region 11 (oN f9 160559) false) (.cond (.tmp 45) (.region 12 (oN f9 357167) false) .skip)) (.seq (.region 13 (oN f9 193327) true) (.seq (.region 14 (oN f9 389935) false) (.block 2 (.loop GY))))))))) (.region 24 (oN f9 3887) false))))
noncomputable def Ha:Code:=(.seq (.region 26 (oN f9 1119) false) (.seq (.cond (.tmp 89) .skip (.exit 4)) (.seq (.block 5 (.seq (.region 27 (oN f9 18015) false) (.seq (.region 28 (oN f9 42591) false) (.seq (.seq (.region 29 (oN f9 157279) false) (.cond (.tmp 94) (.seq (.region 30 (oN f9 616031) false) (.region 31 (oN f9 878175) true)) .skip)) (.seq (.region 32 (oN f9 190047) false) (.region 33 (oN f9 255583) true)))))) (.region 34 (oN f9 7775) false))))
noncomputable def f9c:Code:=(.seq (.region 0 (oN f9 2) false) (.seq (.seq (.region 1 (oN f9 9) false) (.cond (.tmp 19) (.seq (.region 2 (oN f9 37) false) .ret) .skip)) (.seq (.region 3 (oN f9 11) false) (.seq (.region 4 (oN f9 23) true) (.seq (.seq (.region 5 (oN f9 79) false) (.block 0 (.loop GZ))) (.seq (.seq (.region 25 (oN f9 159) false) (.block 4 (.loop Ha))) (.seq (.region 35 (oN f9 191) false) .ret)))))))
def f9n:List (Nat×j4):=[(0,⟨[0,2,3],[]⟩),(1,GU),(2,⟨[1,19],[]⟩),(3,⟨[19],[(0,{ site:=true })]⟩),(4,GV),(5,GW),(6,⟨[],[]⟩),(7,GX),(8,⟨[],[]⟩),(9,⟨[34,35],[]⟩),(10,EC),(11,⟨[36,44],[]⟩),(12,⟨[45],[]⟩),(13,sy),(14,sA),(15,⟨[],[]⟩),(16,ED),(17,⟨[],[]⟩),(18,⟨[9,66,67,68],[]⟩),(19,⟨[69],[]⟩),(20,⟨[70],[]⟩),(21,⟨[71],[]⟩),(22,wg),(23,⟨[83],[]⟩),(24,⟨[6,59,60,61,62,84],[]⟩),(25,EE),(26,⟨[],[]⟩),(27,EF),(28,⟨[],[]⟩),(29,⟨[92,93],[]⟩),(30,EG),(31,EH),(32,zf),(33,zg),(34,⟨[131],[]⟩),(35,EI)]
def BN:j4:=⟨[8,11,12,13,14,15,16,17,18,19,20],[]⟩
def BO:j4:=⟨[4,21,22,23,24,25,26,27,28,29,30,31,32,33,34,35,36,37],[]⟩
def BP:j4:=⟨[0,3,8,39,40,41,42,43,44,45,46],[]⟩
noncomputable def BQ:Code:=(.seq (.seq (.region 2 (oN f13 133) false) (.cond (.tmp 8) .skip (.exit 0))) (.seq (.block 1 (.seq (.region 4 (oN f13 549) false) (.seq (.region 5 (oN f13 1317) false) (.cond (.tmp 38) (.seq (.region 6 (oN f13 4901) false) .ret) .skip)))) (.region 3 (oN f13 229) false)))
noncomputable def f13c:Code:=(.seq (.region 0 (oN f13 2) false) (.seq (.seq (.region 1 (oN f13 9) false) (.block 0 (.loop BQ))) (.seq (.region 7 (oN f13 11) false) .ret)))
def Fi:List (Nat×j4):=[(0,⟨[2],[]⟩),(1,⟨[],[]⟩),(2,⟨[5,6,7],[]⟩),(3,⟨[9,10,38],[]⟩),(4,BN),(5,BO),(6,⟨[0,3,38],[]⟩),(7,BP)]
def CO:j4:=⟨[6,7,8,9],[]⟩
def CP:j4:=⟨[10,13,14,15,16,17],[]⟩
def CQ:j4:=⟨[18,19,20,21,22,23,24,25,26,27,28,29,30,31,32,33,34,35,36,37,38,39,40,41,42,43,44,45,46,47],[]⟩
def yS:j4:=⟨[51,54,55,56,57,58,59,60,61],[]⟩
def yT:j4:=⟨[3,10,63,64,65,66,67,68,69,70,71,72,73,74,75,76,77,78,79,80,81],[]⟩
def yU:j4:=⟨[1,82,83,84,85,86,87,88,89,90,91,92,93,94,95,96,97,98,99,100,101,102,103,104,105,106,107,108,109,110,111],[]⟩
noncomputable def CR:Code:=(.seq (.seq (.region 8 (oN f34 34597) false) (.cond (.tmp 51) .skip (.exit 2))) (.seq (.block 3 (.seq (.region 10 (oN f34 141093) true) (.cond (.tmp 62) (.seq (.region 11 (oN f34 599845) false) .ret) .skip))) (.region 9 (oN f34 59173) false)))
noncomputable def CS:Code:=(.seq (.seq (.region 2 (oN f34 133) false) (.cond (.tmp 10) .skip (.exit 0))) (.seq (.block 1 (.seq (.region 4 (oN f34 549) false) (.seq (.seq (.region 5 (oN f34 2341) false) (.cond (.tmp 48) (.seq (.region 6 (oN f34 9509) false) .ret) .skip)) (.seq (.region 7 (oN f34 2853) false) (.block 2 (.loop CR)))))) (.region 3 (oN f34 229) false)))
noncomputable def f34c:Code:=(.seq (.region 0 (oN f34 2) false) (.seq (.seq (.region 1 (oN f34 9) false) (.block 0 (.loop CS))) (.seq (.seq (.region 12 (oN f34 19) false) (.cond (.tmp 82) (.seq (.region 13 (oN f34 75) false) .ret) .skip)) (.seq (.region 14 (oN f34 23) true) .ret))))
def AD:List (Nat×j4):=[(0,⟨[0,2],[]⟩),(1,⟨[],[]⟩),(2,CO),(3,⟨[4,5,11,12,51],[]⟩),(4,CP),(5,CQ),(6,⟨[1,3,4,48],[]⟩),(7,⟨[48],[]⟩),(8,⟨[49,50],[]⟩),(9,⟨[52,53,62],[]⟩),(10,yS),(11,⟨[1,3,4,5,62],[]⟩),(12,yT),(13,⟨[1,82],[]⟩),(14,yU)]
def CT:j4:=⟨[7,8,9,10,11,12],[]⟩
def CU:j4:=⟨[15,16,17,18,19,20,23],[]⟩
noncomputable def CV:Code:=(.seq (.seq (.region 2 (oN f35 133) false) (.cond (.tmp 14) .skip (.exit 0))) (.seq (.block 1 (.seq (.region 4 (oN f35 549) false) (.cond (.tmp 23) (.seq (.region 5 (oN f35 2341) false) .ret) .skip))) (.region 3 (oN f35 229) false)))
noncomputable def f35c:Code:=(.seq (.region 0 (oN f35 2) false) (.seq (.seq (.region 1 (oN f35 9) false) (.block 0 (.loop CV))) (.seq (.region 6 (oN f35 11) false) .ret)))
def Fo:List (Nat×j4):=[(0,⟨[0,6],[]⟩),(1,CT),(2,⟨[13],[]⟩),(3,CU),(4,⟨[14,21,22],[]⟩),(5,⟨[1,2,3,23],[]⟩),(6,⟨[1,2,3,14],[]⟩)]
def CW:j4:=⟨[7,8,9,10,11],[(1,{ keep:=[0] }),(3,{ tk:=[9] })]⟩
def CX:j4:=⟨[12,13,14,15,16,17],[]⟩
noncomputable def CY:Code:=(.seq (.seq (.region 2 (oN f36 131) false) (.cond (.tmp 7) .skip (.exit 0))) (.block 1 (.seq (.region 3 (oN f36 291) false) (.region 4 (oN f36 419) false))))
noncomputable def f36c:Code:=(.seq (.region 0 (oN f36 2) false) (.seq (.region 1 (oN f36 5) false) (.seq (.block 0 (.loop CY)) (.seq (.region 5 (oN f36 23) false) .ret))))
def Fp:List (Nat×j4):=[(0,⟨[0,4],[]⟩),(1,⟨[],[]⟩),(2,⟨[6],[]⟩),(3,CW),(4,CX),(5,⟨[1,2,5,7,18],[]⟩)]
def BS:j4:=⟨[9,10,11,12,13,14,15,16,17,18,19,20,21,22,23,24,25,26,27,28,29,30,31,32,33,34,35,36,37,38,39],[]⟩
def BT:j4:=⟨[41,42,43,44],[]⟩
def BU:j4:=⟨[45,48,49,50,51,52],[]⟩
def BV:j4:=⟨[53,54,55,56,57,58,59,60,61,62,63,64,65,66,67,68,69,70,71,72,73,74,75,76,77],[]⟩
def yH:j4:=⟨[81,84,85,86,87,88,89,90,91],[]⟩
def yI:j4:=⟨[4,94,95,96,97,98,99,100,101,102,103,104,105,106,107,108,109,110,111,112,113,114,115,116],[]⟩
def yJ:j4:=⟨[4,94,118,119,120,121,122,123,124,125,126,127,128,129,130,131,132,133,134,135,136,137,138,139,140,141,142,143,144,145,146,147,148],[]⟩
def yK:j4:=⟨[150,151,152,153],[]⟩
def yL:j4:=⟨[154,157,158,159,160,161],[]⟩
def yM:j4:=⟨[162,163,164,165,166,167,168,169,170,171,172,173,174,175,176,177,178,179,180,181,182,183,184,185,186,187,188,189,190,191,192,193,194,195,196,197,198,199,200,201,202,203,204,205,206,207,208,209,210,211,212,213,214,215,216],[]⟩
def yN:j4:=⟨[220,223,224,225,226,227,228,229,230],[]⟩
noncomputable def BW:Code:=(.seq (.seq (.region 10 (oN f15 136779) false) (.cond (.tmp 81) .skip (.exit 2))) (.seq (.block 3 (.seq (.region 12 (oN f15 562763) true) (.cond (.tmp 92) (.seq (.region 13 (oN f15 2397771) false) .ret) .skip))) (.region 11 (oN f15 235083) false)))
noncomputable def BX:Code:=(.seq (.seq (.region 4 (oN f15 267) false) (.cond (.tmp 45) .skip (.exit 0))) (.seq (.block 1 (.seq (.region 6 (oN f15 1099) false) (.seq (.seq (.region 7 (oN f15 4683) false) (.cond (.tmp 78) (.seq (.region 8 (oN f15 19019) false) .ret) .skip)) (.seq (.seq (.region 9 (oN f15 9803) false) (.block 2 (.loop BW))) (.seq (.seq (.region 14 (oN f15 20043) false) (.cond (.tmp 94) (.seq (.seq (.region 15 (oN f15 142923) false) (.cond (.tmp 117) (.seq (.region 16 (oN f15 601675) false) .ret) .skip)) (.exit 1)) .skip)) (.seq (.region 17 (oN f15 24139) false) (.cond (.tmp 149) (.seq (.region 18 (oN f15 81483) false) .ret) .skip))))))) (.region 5 (oN f15 459) false)))
noncomputable def BZ:Code:=(.seq (.seq (.region 26 (oN f15 138391) false) (.cond (.tmp 220) .skip (.exit 6))) (.seq (.block 7 (.seq (.region 28 (oN f15 564375) true) (.cond (.tmp 231) (.seq (.region 29 (oN f15 2399383) false) .ret) .skip))) (.region 27 (oN f15 236695) false)))
noncomputable def Ca:Code:=(.seq (.seq (.region 20 (oN f15 535) false) (.cond (.tmp 154) .skip (.exit 4))) (.seq (.block 5 (.seq (.region 22 (oN f15 2199) false) (.seq (.seq (.region 23 (oN f15 9367) true) (.cond (.tmp 217) (.seq (.region 24 (oN f15 38039) false) .ret) .skip)) (.seq (.region 25 (oN f15 11415) false) (.block 6 (.loop BZ)))))) (.region 21 (oN f15 919) false)))
noncomputable def f15c:Code:=(.seq (.region 0 (oN f15 2) false) (.seq (.seq (.region 1 (oN f15 9) false) (.cond (.tmp 40) (.seq (.region 2 (oN f15 37) false) .ret) .skip)) (.seq (.seq (.region 3 (oN f15 19) false) (.block 0 (.loop BX))) (.seq (.seq (.region 19 (oN f15 39) false) (.block 4 (.loop Ca))) (.seq (.region 30 (oN f15 47) false) .ret)))))
def xk:List (Nat×j4):=[(0,⟨[0,2],[]⟩),(1,BS),(2,⟨[1,40],[]⟩),(3,⟨[40],[]⟩),(4,BT),(5,⟨[46,47,117,149],[]⟩),(6,BU),(7,BV),(8,⟨[1,3,4,78],[]⟩),(9,⟨[78],[]⟩),(10,⟨[79,80],[]⟩),(11,⟨[82,83,92],[]⟩),(12,yH),(13,⟨[1,3,4,5,92],[]⟩),(14,⟨[5,81,93],[]⟩),(15,yI),(16,⟨[1,3,117],[]⟩),(17,yJ),(18,⟨[1,3,149],[]⟩),(19,⟨[3,45],[]⟩),(20,yK),(21,⟨[7,8,155,156,220],[]⟩),(22,yL),(23,yM),(24,⟨[1,6,7,217],[]⟩),(25,⟨[217],[]⟩),(26,⟨[218,219],[]⟩),(27,⟨[221,222,231],[]⟩),(28,yN),(29,⟨[1,6,7,8,231],[]⟩),(30,⟨[1,6,154],[]⟩)]
def Cv:j4:=⟨[4,5,6,7,8,9],[]⟩
def Cw:j4:=⟨[0,3,10,11,12,13],[]⟩
def Cx:j4:=⟨[0,14,17,18,19,20,21,22,23,24],[]⟩
def Cy:j4:=⟨[0,25,28,29,30,31],[]⟩
def Cz:j4:=⟨[0,25,32,33,34,35,36,37,38,39,40],[]⟩
noncomputable def f30c:Code:=(.seq (.region 0 (oN f30 2) false) (.seq (.block 0 (.seq (.region 1 (oN f30 17) false) (.cond (.tmp 3) (.seq (.region 2 (oN f30 73) false) .ret) (.seq (.region 3 (oN f30 89) false) (.cond (.tmp 14) (.seq (.region 4 (oN f30 313) false) .ret) (.seq (.region 5 (oN f30 377) false) (.cond (.tmp 25) (.seq (.region 6 (oN f30 1273) false) .ret) .skip))))))) (.seq (.region 7 (oN f30 11) false) .ret)))
def Gg:List (Nat×j4):=[(0,⟨[2],[]⟩),(1,Cv),(2,Cw),(3,⟨[3,15,16],[]⟩),(4,Cx),(5,⟨[14,26,27],[]⟩),(6,Cy),(7,Cz)]
def CA:j4:=⟨[8,11,12,13,14,15,16,17,18,19,20,21,22,23,24,25,26,27,28,29,30,31,32,33],[(23,{ eff:=true })]⟩
noncomputable def CB:Code:=(.seq (.seq (.region 3 (oN f31 267) false) (.cond (.tmp 8) .skip (.exit 0))) (.seq (.block 1 (.region 5 (oN f31 587) true)) (.region 4 (oN f31 459) false)))
noncomputable def f31c:Code:=(.seq (.region 0 (oN f31 2) false) (.seq (.region 1 (oN f31 5) false) (.seq (.seq (.region 2 (oN f31 19) false) (.block 0 (.loop CB))) (.seq (.region 6 (oN f31 23) false) .ret))))
def Fl:List (Nat×j4):=[(0,⟨[2],[]⟩),(1,⟨[],[]⟩),(2,⟨[],[]⟩),(3,⟨[5,6,7],[]⟩),(4,⟨[9,10],[]⟩),(5,CA),(6,⟨[0,3,4,8,34],[]⟩)]
def BC:j4:=⟨[15,16],[]⟩
def BD:j4:=⟨[17,18,19,20,21,22,23,24,25,26],[]⟩
def BE:j4:=⟨[27,28,29,30],[]⟩
def BF:j4:=⟨[31,34,35,36,37,38],[]⟩
def yA:j4:=⟨[41,42,43,44,45,46,47,48],[]⟩
def nG:j4:=⟨[7,8,50,51,52,53,54,55,56,57,58,59,60,61,62,63,64,65,66,67,68,69,70,71,72],[(22,{ eff:=true })]⟩
def yB:j4:=⟨[73,74,75,76],[]⟩
def yC:j4:=⟨[77,80,81,82,83,84],[]⟩
def qI:j4:=⟨[10,11,88,90,91,92,93,94,95,96,97,98,99,100,101,102,103,104,105,106,107,108,109],[(19,{ eff:=true })]⟩
def yD:j4:=⟨[110,111,112,113],[]⟩
def yE:j4:=⟨[114,117,118,119,120,121],[]⟩
def yF:j4:=⟨[124,125,126,127],[]⟩
def uk:j4:=⟨[13,14,124,128,129,130,131,132,133,134,135,136,137,138,139,140,141,142,143,144,145,146,147,148,149,150,151,152,153,154,155,156,157,158,159],[(32,{ eff:=true })]⟩
noncomputable def BG:Code:=(.seq (.seq (.region 15 (oN f11 1113239) false) (.cond (.tmp 77) .skip (.exit 2))) (.seq (.block 3 (.seq (.region 17 (oN f11 4521111) false) (.seq (.region 18 (oN f11 10812567) false) (.seq (.seq (.region 19 (oN f11 40172695) false) (.cond (.tmp 88) (.seq (.region 20 (oN f11 157613207) false) (.seq (.region 21 (oN f11 358939799) false) (.cond (.tmp 90) (.region 22 (oN f11 761592983) false) .skip))) .skip)) (.region 23 (oN f11 31784087) true))))) (.region 16 (oN f11 1899671) false)))
noncomputable def BH:Code:=(.seq (.seq (.region 5 (oN f11 535) false) (.cond (.tmp 31) .skip (.exit 0))) (.seq (.block 1 (.seq (.region 7 (oN f11 2199) false) (.seq (.region 8 (oN f11 5271) false) (.seq (.seq (.region 9 (oN f11 19607) false) (.cond (.tmp 41) (.region 10 (oN f11 44183) false) .skip)) (.seq (.seq (.region 11 (oN f11 40087) false) (.cond (.tmp 50) (.region 12 (oN f11 89239) false) .skip)) (.seq (.region 13 (oN f11 48279) true) (.seq (.region 14 (oN f11 97431) false) (.block 2 (.loop BG))))))))) (.region 6 (oN f11 919) false)))
noncomputable def BI:Code:=(.seq (.seq (.region 25 (oN f11 1071) false) (.cond (.tmp 114) .skip (.exit 4))) (.seq (.block 5 (.seq (.region 27 (oN f11 4399) false) (.seq (.region 28 (oN f11 10543) false) (.seq (.seq (.region 29 (oN f11 39215) false) (.cond (.tmp 124) (.region 30 (oN f11 88367) false) .skip)) (.region 31 (oN f11 31023) true))))) (.region 26 (oN f11 1839) false)))
noncomputable def f11c:Code:=(.seq (.region 0 (oN f11 2) false) (.seq (.seq (.region 1 (oN f11 9) false) (.cond (.tmp 17) (.seq (.region 2 (oN f11 37) false) .ret) .skip)) (.seq (.region 3 (oN f11 11) true) (.seq (.seq (.region 4 (oN f11 39) false) (.block 0 (.loop BH))) (.seq (.seq (.region 24 (oN f11 79) false) (.block 4 (.loop BI))) (.seq (.region 32 (oN f11 95) false) .ret))))))
def yG:List (Nat×j4):=[(0,⟨[0,2,3],[]⟩),(1,BC),(2,⟨[1,17],[]⟩),(3,BD),(4,⟨[],[]⟩),(5,BE),(6,⟨[6,9,32,33,77],[]⟩),(7,BF),(8,⟨[],[]⟩),(9,⟨[39,40],[]⟩),(10,yA),(11,⟨[41,49],[]⟩),(12,⟨[50],[]⟩),(13,nG),(14,⟨[],[]⟩),(15,yB),(16,⟨[78,79],[]⟩),(17,yC),(18,⟨[],[]⟩),(19,⟨[85,86,87],[]⟩),(20,⟨[88],[]⟩),(21,⟨[89],[]⟩),(22,⟨[90],[]⟩),(23,qI),(24,⟨[5,31],[]⟩),(25,yD),(26,⟨[115,116],[]⟩),(27,yE),(28,⟨[],[]⟩),(29,⟨[122,123],[]⟩),(30,yF),(31,uk),(32,⟨[1,4,12,114,160],[]⟩)]
def DX:j4:=⟨[0,11,12,13,14,15],[]⟩
def DY:j4:=⟨[1,16,17,18,19,20],[]⟩
def DZ:j4:=⟨[7,8,9,10,21,22,23,24,25,26],[]⟩
noncomputable def f71c:Code:=(.seq (.region 0 (oN f71 2) false) (.seq (.region 1 (oN f71 5) false) (.seq (.region 2 (oN f71 11) false) (.seq (.region 3 (oN f71 23) false) .ret))))
def GJ:List (Nat×j4):=[(0,⟨[4,5,6],[]⟩),(1,DX),(2,DY),(3,DZ)]
def Ed:j4:=⟨[1,2,4,5,6,7,8,9],[]⟩
noncomputable def f73c:Code:=(.seq (.region 0 (oN f73 2) false) (.seq (.region 1 (oN f73 5) true) .ret))
def GK:List (Nat×j4):=[(0,⟨[0,3],[]⟩),(1,Ed)]
def Dp:j4:=⟨[9,10,11,12,13,14,15,16,17,18,19],[]⟩
def Dq:j4:=⟨[20,21,22],[]⟩
def Dr:j4:=⟨[23,24,25,26,27,28,29],[(0,{ gh:=[(0,68,2,0)] }),(6,{ gh:=[(1,68,2,0)] })]⟩
def Ds:j4:=⟨[30,31,32,33,34],[]⟩
def yV:j4:=⟨[0,5,6,8,23,35,36,37,38,39,40,41,42,43,44,45,46,47,48,49,50,51,52,53,54],[(0,{ noio:=true }),(1,{ noio:=true }),(2,{ noio:=true }),(3,{ noio:=true }),(4,{ keep:=[1003],mem:=true,noio:=true }),(5,{ noio:=true }),(6,{ noio:=true }),(7,{ noio:=true }),(8,{ noio:=true }),(9,{ noio:=true }),(10,{ noio:=true }),(11,{ noio:=true }),(12,{ noio:=true }),(13,{ noio:=true }),(14,{ noio:=true }),(15,{ keep:=[1004],noio:=true }),(16,{ noio:=true }),(17,{ tk:=[39],keep:=[1003],noio:=true }),(20,{ tk:=[52] })]⟩
def yW:j4:=⟨[3,7,55,56,57,58,59,60,61,62,63,64,65,66,67],[]⟩
noncomputable def f46c:Code:=(.seq (.region 0 (oN f46 2) false) (.seq (.region 1 (oN f46 5) true) (.seq (.region 2 (oN f46 11) false) (.seq (.seq (.region 3 (oN f46 39) false) (.cond (.tmp 23) (.seq (.region 4 (oN f46 151) false) (.region 5 (oN f46 215) false)) .skip)) (.seq (.region 6 (oN f46 47) true) (.seq (.region 7 (oN f46 95) false) .ret))))))
def Gj:List (Nat×j4):=[(0,⟨[1,4],[]⟩),(1,Dp),(2,⟨[],[]⟩),(3,Dq),(4,Dr),(5,Ds),(6,yV),(7,yW)]
def Dt:j4:=⟨[9,10,11,12,13],[(0,{ gh:=[(0,94,2,0)] })]⟩
def Du:j4:=⟨[0,1,14],[(0,{ gh:=[(1,94,2,0)] })]⟩
def Dv:j4:=⟨[14,15,16,17,18,19,20,21,22,23,24,25],[]⟩
def Dw:j4:=⟨[26,27,28,29,30,31,32,33,34,35,36],[]⟩
def Dx:j4:=⟨[6,7,37,38,39,40,41,42,43,44,45,46,47,48,49,50,51],[(0,{ noio:=true }),(1,{ noio:=true }),(2,{ noio:=true }),(3,{ noio:=true }),(4,{ keep:=[0],mem:=true,noio:=true }),(5,{ noio:=true }),(6,{ noio:=true }),(7,{ noio:=true }),(8,{ noio:=true }),(9,{ noio:=true }),(10,{ noio:=true }),(11,{ noio:=true }),(12,{ tk:=[41],keep:=[0],noio:=true }),(15,{ tk:=[49] })]⟩
def Dy:j4:=⟨[52,53,54],[]⟩
def Dz:j4:=⟨[0,1,5,8,55,56],[(1,{ gh:=[(1,94,2,0)] })]⟩
def DA:j4:=⟨[55,57,58,59,60,61,62,63,64,65,66,67,68,69,70,71,72,73,74,75,76],[]⟩
def DB:j4:=⟨[77,78,79,80,81,82,83,84,85],[]⟩
def yX:j4:=⟨[1,5,86,87,88,89,90,91,92],[]⟩
def yY:j4:=⟨[0,8,93],[(1,{ gh:=[(1,94,2,0)] })]⟩
noncomputable def f47c:Code:=(.seq (.region 0 (oN f47 2) false) (.seq (.seq (.region 1 (oN f47 9) false) (.cond (.tmp 14) (.seq (.region 2 (oN f47 37) false) .ret) .skip)) (.seq (.region 3 (oN f47 11) true) (.seq (.region 4 (oN f47 23) true) (.seq (.region 5 (oN f47 47) true) (.seq (.seq (.region 6 (oN f47 159) false) (.cond (.tmp 55) (.seq (.region 7 (oN f47 607) false) .ret) .skip)) (.seq (.region 8 (oN f47 191) false) (.seq (.region 9 (oN f47 383) false) (.seq (.region 10 (oN f47 767) false) (.seq (.region 11 (oN f47 1535) false) .ret))))))))))
def Gk:List (Nat×j4):=[(0,⟨[4],[]⟩),(1,Dt),(2,Du),(3,Dv),(4,Dw),(5,Dx),(6,Dy),(7,Dz),(8,DA),(9,DB),(10,yX),(11,yY)]
def Ee:j4:=⟨[1,2,4,5,6,7,8,9],[]⟩
noncomputable def f74c:Code:=(.seq (.region 0 (oN f74 2) false) (.seq (.region 1 (oN f74 5) true) .ret))
def GL:List (Nat×j4):=[(0,⟨[0,3],[]⟩),(1,Ee)]
def Ek:j4:=⟨[1,2,4,5,6,7,8,9],[]⟩
noncomputable def f76c:Code:=(.seq (.region 0 (oN f76 2) false) (.seq (.region 1 (oN f76 5) true) .ret))
def GM:List (Nat×j4):=[(0,⟨[0,3],[]⟩),(1,Ek)]
def DC:j4:=⟨[10,11,12,13,14,15],[(0,{ gh:=[(0,76,2,0)] })]⟩
def DD:j4:=⟨[0,3,5,17],[(0,{ gh:=[(1,76,2,0)] })]⟩
def DE:j4:=⟨[17,18,19,20,21,22,23,24,25,26,27],[]⟩
def DF:j4:=⟨[28,29,30],[]⟩
def DG:j4:=⟨[7,31,32,33,34,35],[]⟩
def DH:j4:=⟨[0,3,5,6,36],[(0,{ gh:=[(1,76,2,0)] })]⟩
def DI:j4:=⟨[36,37,38,39,40,41,42,43,44,45,46],[]⟩
def yZ:j4:=⟨[47,48,49,50,51],[]⟩
def za:j4:=⟨[0,3,5,6,8,9,52],[(0,{ gh:=[(1,76,2,0)] })]⟩
def zb:j4:=⟨[8,9,52,53,54,55,56,57,58,59],[]⟩
def ul:j4:=⟨[3,5,6,7,31,60,61,62,63,64,65,66,67,68,69,70,71,72,73,74,75],[(0,{ noio:=true }),(1,{ noio:=true }),(2,{ noio:=true }),(3,{ noio:=true }),(4,{ keep:=[0],mem:=true,noio:=true }),(5,{ noio:=true }),(6,{ noio:=true }),(7,{ noio:=true }),(8,{ noio:=true }),(9,{ noio:=true }),(10,{ noio:=true }),(11,{ noio:=true }),(12,{ noio:=true }),(13,{ tk:=[64],keep:=[0],noio:=true }),(16,{ tk:=[73] })]⟩
def um:j4:=⟨[0],[(0,{ gh:=[(1,76,2,0)] })]⟩
noncomputable def f48c:Code:=(.seq (.region 0 (oN f48 2) false) (.seq (.region 1 (oN f48 5) false) (.seq (.seq (.region 2 (oN f48 19) false) (.cond (.tmp 17) (.seq (.region 3 (oN f48 75) false) .ret) .skip)) (.seq (.region 4 (oN f48 23) false) (.seq (.region 5 (oN f48 47) false) (.seq (.seq (.region 6 (oN f48 159) false) (.cond (.tmp 31) (.seq (.seq (.region 7 (oN f48 1119) false) (.cond (.tmp 36) (.seq (.region 8 (oN f48 4703) false) .ret) .skip)) (.seq (.region 9 (oN f48 1375) true) (.seq (.seq (.region 10 (oN f48 4959) false) (.cond (.tmp 52) (.seq (.region 11 (oN f48 19295) false) .ret) .skip)) (.region 12 (oN f48 3935) false)))) .skip)) (.seq (.region 13 (oN f48 191) true) (.seq (.region 14 (oN f48 383) false) .ret))))))))
def Gl:List (Nat×j4):=[(0,⟨[1,4],[]⟩),(1,DC),(2,⟨[16],[]⟩),(3,DD),(4,DE),(5,⟨[],[]⟩),(6,DF),(7,DG),(8,DH),(9,DI),(10,yZ),(11,za),(12,zb),(13,ul),(14,um)]
def Cn:j4:=⟨[6,7,8,9,10,11,12,13,14,15,16,17,18,19,20,21,22],[]⟩
def Co:j4:=⟨[0,1,5,23,24,25],[(2,{ eff:=true })]⟩
def Cp:j4:=⟨[5,27,28,29,30,31,32,33,34,35,36,37,38,39,40,41,42,43],[]⟩
def Cq:j4:=⟨[0,1,26,44,45,46],[(2,{ eff:=true })]⟩
def Cr:j4:=⟨[26,48,49,50,51,52,53,54,55,56],[]⟩
def Cs:j4:=⟨[0,1,47,57,58,59],[(2,{ eff:=true })]⟩
noncomputable def f25c:Code:=(.seq (.region 0 (oN f25 2) false) (.seq (.block 0 (.seq (.region 1 (oN f25 17) false) (.cond (.tmp 5) (.seq (.region 2 (oN f25 73) false) .ret) (.seq (.region 3 (oN f25 89) false) (.cond (.tmp 26) (.seq (.region 4 (oN f25 313) false) .ret) (.seq (.region 5 (oN f25 377) false) (.cond (.tmp 47) (.seq (.region 6 (oN f25 1273) false) .ret) .skip))))))) (.seq (.region 7 (oN f25 11) false) .ret)))
def Ge:List (Nat×j4):=[(0,⟨[4],[]⟩),(1,Cn),(2,Co),(3,Cp),(4,Cq),(5,Cr),(6,Cs),(7,⟨[0,1,47],[]⟩)]
def GE:j4:=⟨[11],[]⟩
def GF:j4:=⟨[15,16,17,18],[]⟩
def GG:j4:=⟨[6,20,21,22,23],[]⟩
def GH:j4:=⟨[25,26,27,28,29,30,31,32,33],[]⟩
def DU:j4:=⟨[8,34,35,36,37,38],[]⟩
def DV:j4:=⟨[7,39,40,41,42,43,44,45,46],[]⟩
def DW:j4:=⟨[7,25,47,48],[(1,{ eff:=true })]⟩
def zd:j4:=⟨[5,6,12,13,14,15,20,53,54,55,56,57],[(0,{ gh:=[(3,4,2,0)] })]⟩
def ze:j4:=⟨[0,9,10,58,59,60,61,62,63],[]⟩
noncomputable def GI:Code:=(.seq (.region 3 (oN f6 139) false) (.seq (.cond (.tmp 15) .skip (.exit 0)) (.seq (.block 1 (.seq (.region 4 (oN f6 2251) false) (.seq (.seq (.region 5 (oN f6 9419) false) (.cond (.tmp 20) (.exit 0) .skip)) (.seq (.region 6 (oN f6 11467) false) (.seq (.region 7 (oN f6 23755) false) (.seq (.seq (.region 8 (oN f6 81099) false) (.cond (.tmp 25) (.seq (.region 9 (oN f6 310475) false) (.cond (.tmp 34) (.seq (.region 10 (oN f6 1227979) false) (.region 11 (oN f6 1752267) false)) .skip)) (.region 12 (oN f6 244939) false))) (.seq (.region 13 (oN f6 97483) false) (.cond (.tmp 50) (.seq (.region 14 (oN f6 326859) false) .ret) .skip)))))))) (.region 15 (oN f6 971) false))))
noncomputable def f6c:Code:=(.seq (.region 0 (oN f6 2) false) (.seq (.region 1 (oN f6 5) false) (.seq (.seq (.region 2 (oN f6 19) false) (.block 0 (.loop GI))) (.seq (.seq (.region 16 (oN f6 39) false) (.seq (.region 17 (oN f6 87) false) (.cond (.tmp 64) (.seq (.region 18 (oN f6 311) false) .ret) .skip))) (.seq (.region 19 (oN f6 47) false) .ret)))))
def f6n:List (Nat×j4):=[(0,⟨[3],[]⟩),(1,⟨[],[(0,{ keep:=[1002,3] })]⟩),(2,GE),(3,⟨[],[]⟩),(4,GF),(5,⟨[19],[]⟩),(6,GG),(7,⟨[],[]⟩),(8,⟨[5,24],[]⟩),(9,GH),(10,DU),(11,DV),(12,DW),(13,⟨[7,8,34,49],[]⟩),(14,⟨[0,4,12,13,14,50,51],[]⟩),(15,⟨[50,52],[]⟩),(16,zd),(17,ze),(18,⟨[4,64,65],[]⟩),(19,⟨[4,64,66],[]⟩)]
def GN:j4:=⟨[10,11,12,13,14,15,16,17,18,19,20,21,22,23,24,25,26,27,28,29,30,31,32,33,34,35,36,37,38],[]⟩
def GO:j4:=⟨[40,41,42,43],[]⟩
def GP:j4:=⟨[44,47,48,49,50,51,52,53,54,55,56],[]⟩
def GQ:j4:=⟨[57,58,59,60,61,62,63,64,65,66,67,68,69,70,71,72,73,74,75,76,77,78,79,80,81,82,83,84,85,86,87,88,89,90,91,92,93,94,95,96,97,98,99,100,101,102,103,104,105,106,107,108,109,110,111],[]⟩
def Ey:j4:=⟨[113,114,115,116],[]⟩
def Ez:j4:=⟨[117,120,121,122,123,124,125,126,127,128,129],[]⟩
def EA:j4:=⟨[131,132,133,134],[]⟩
def EB:j4:=⟨[135,138,139,140,141,142,143,144,145,146,147],[]⟩
noncomputable def GR:Code:=(.seq (.seq (.region 10 (oN f8 69195) false) (.cond (.tmp 117) .skip (.exit 2))) (.seq (.block 3 (.seq (.region 12 (oN f8 282187) true) (.cond (.tmp 130) (.seq (.region 13 (oN f8 1199691) false) .ret) .skip))) (.region 11 (oN f8 118347) false)))
noncomputable def GS:Code:=(.seq (.seq (.region 4 (oN f8 267) false) (.cond (.tmp 44) .skip (.exit 0))) (.seq (.block 1 (.seq (.region 6 (oN f8 1099) true) (.seq (.seq (.region 7 (oN f8 4683) false) (.cond (.tmp 112) (.seq (.region 8 (oN f8 19019) false) .ret) .skip)) (.seq (.region 9 (oN f8 5707) false) (.block 2 (.loop GR)))))) (.region 5 (oN f8 459) false)))
noncomputable def GT:Code:=(.seq (.seq (.region 15 (oN f8 535) false) (.cond (.tmp 135) .skip (.exit 4))) (.seq (.block 5 (.seq (.region 17 (oN f8 2199) true) (.cond (.tmp 148) (.seq (.region 18 (oN f8 9367) false) .ret) .skip))) (.region 16 (oN f8 919) false)))
noncomputable def f8c:Code:=(.seq (.region 0 (oN f8 2) false) (.seq (.seq (.region 1 (oN f8 9) false) (.cond (.tmp 39) (.seq (.region 2 (oN f8 37) false) .ret) .skip)) (.seq (.seq (.region 3 (oN f8 19) false) (.block 0 (.loop GS))) (.seq (.seq (.region 14 (oN f8 39) false) (.block 4 (.loop GT))) (.seq (.region 19 (oN f8 47) false) .ret)))))
def f8n:List (Nat×j4):=[(0,⟨[0,1,4],[]⟩),(1,GN),(2,⟨[2,3,39],[]⟩),(3,⟨[39],[]⟩),(4,GO),(5,⟨[6,7,8,45,46,117],[]⟩),(6,GP),(7,GQ),(8,⟨[2,3,5,6,7,112],[]⟩),(9,⟨[112],[]⟩),(10,Ey),(11,⟨[118,119,130],[]⟩),(12,Ez),(13,⟨[2,3,5,6,7,8,130],[]⟩),(14,⟨[5,44],[]⟩),(15,EA),(16,⟨[136,137,148],[]⟩),(17,EB),(18,⟨[2,3,9,148],[]⟩),(19,⟨[2,3,9,135],[]⟩)]
def CZ:j4:=⟨[6,7,8,9],[]⟩
def Da:j4:=⟨[10,11],[]⟩
def Db:j4:=⟨[5,16,17,18,19,20,21,22,23],[]⟩
noncomputable def Dc:Code:=(.seq (.region 4 (oN f37 139) false) (.seq (.cond (.tmp 14) .skip (.exit 0)) (.seq (.block 1 (.seq (.region 5 (oN f37 2251) false) (.seq (.region 6 (oN f37 5323) true) (.cond (.tmp 24) (.seq (.region 7 (oN f37 19659) false) .ret) .skip)))) (.region 8 (oN f37 971) false))))
noncomputable def f37c:Code:=(.seq (.region 0 (oN f37 2) false) (.seq (.seq (.region 1 (oN f37 9) false) (.cond (.tmp 10) (.seq (.region 2 (oN f37 37) false) .ret) .skip)) (.seq (.seq (.region 3 (oN f37 19) false) (.block 0 (.loop Dc))) (.seq (.region 9 (oN f37 23) false) .ret))))
def Fq:List (Nat×j4):=[(0,⟨[4],[]⟩),(1,CZ),(2,⟨[0,1,10],[]⟩),(3,Da),(4,⟨[],[]⟩),(5,⟨[14,15],[]⟩),(6,Db),(7,⟨[0,1,12,13,24],[]⟩),(8,⟨[24,25],[]⟩),(9,⟨[0,1,12,13,14],[]⟩)]
def sm:j4:=⟨[10,11,12,13],[]⟩
def sn:j4:=⟨[0,14],[]⟩
def so:j4:=⟨[18,19,20,21],[]⟩
def sq:j4:=⟨[7,22,23,24,25],[]⟩
def sr:j4:=⟨[8,9,26,27,28,29],[]⟩
noncomputable def sx:Code:=(.seq (.region 4 (oN f38 139) false) (.seq (.cond (.tmp 18) .skip (.exit 0)) (.seq (.block 1 (.seq (.region 5 (oN f38 2251) false) (.seq (.region 6 (oN f38 5323) false) (.seq (.region 7 (oN f38 11467) false) (.cond (.tmp 30) (.seq (.region 8 (oN f38 40139) false) .ret) .skip))))) (.region 9 (oN f38 971) false))))
noncomputable def AF:Code:=(.seq (.region 0 (oN f38 2) false) (.seq (.seq (.region 1 (oN f38 9) false) (.cond (.tmp 14) (.seq (.region 2 (oN f38 37) false) .ret) .skip)) (.seq (.seq (.region 3 (oN f38 19) false) (.block 0 (.loop sx))) (.seq (.region 10 (oN f38 23) false) .ret))))
def qJ:List (Nat×j4):=[(0,⟨[6],[]⟩),(1,sm),(2,⟨[0,1,2,14],[]⟩),(3,sn),(4,⟨[],[]⟩),(5,so),(6,sq),(7,sr),(8,⟨[1,2,15,16,17,30],[]⟩),(9,⟨[30,31],[]⟩),(10,⟨[1,2,15,16,17,18],[]⟩)]
def De:j4:=⟨[6,7,8,9],[]⟩
def Df:j4:=⟨[10,11],[]⟩
def Dg:j4:=⟨[5,16,17,18,19,20,21,22,23],[]⟩
noncomputable def Dh:Code:=(.seq (.region 4 (oN f40 139) false) (.seq (.cond (.tmp 14) .skip (.exit 0)) (.seq (.block 1 (.seq (.region 5 (oN f40 2251) false) (.seq (.region 6 (oN f40 5323) true) (.cond (.tmp 24) (.seq (.region 7 (oN f40 19659) false) .ret) .skip)))) (.region 8 (oN f40 971) false))))
noncomputable def f40c:Code:=(.seq (.region 0 (oN f40 2) false) (.seq (.seq (.region 1 (oN f40 9) false) (.cond (.tmp 10) (.seq (.region 2 (oN f40 37) false) .ret) .skip)) (.seq (.seq (.region 3 (oN f40 19) false) (.block 0 (.loop Dh))) (.seq (.region 9 (oN f40 23) false) .ret))))
def Fr:List (Nat×j4):=[(0,⟨[4],[]⟩),(1,De),(2,⟨[0,1,10],[]⟩),(3,Df),(4,⟨[],[]⟩),(5,⟨[14,15],[]⟩),(6,Dg),(7,⟨[0,1,12,13,24],[]⟩),(8,⟨[24,25],[]⟩),(9,⟨[0,1,12,13,14],[]⟩)]
def Dd:j4:=⟨[2,3,5,6,7,8,9,10,11,12,13,14,15,16,17,18,19,20,21,22,23,24,25,26,27,28,29,30,31,32,33,34,35,36,37,38,39,40,41,42,43,44,45,46,47,48,49,50,51,52,53,54,55,56,57,58],[]⟩
noncomputable def f39c:Code:=(.seq (.region 0 (oN f39 2) false) (.seq (.region 1 (oN f39 5) false) .ret))
def Gh:List (Nat×j4):=[(0,⟨[0,1,4],[]⟩),(1,Dd)]
def Cb:j4:=⟨[2,3,5,6,7,8,9,10,11,12,13,14,15,16,17,18,19,20,21,22,23,24,25,26,27,28,29,30],[]⟩
noncomputable def f16c:Code:=(.seq (.region 0 (oN f16 2) false) (.seq (.region 1 (oN f16 5) false) .ret))
def Gb:List (Nat×j4):=[(0,⟨[0,1,4],[]⟩),(1,Cb)]
def Gm:j4:=⟨[10,11],[]⟩
def Gn:j4:=⟨[1,2,12,13],[]⟩
def Gp:j4:=⟨[12,14,15,16,17,18],[]⟩
def Gq:j4:=⟨[19,20,21,22,23],[]⟩
def Gr:j4:=⟨[1,7,8,24,25,26,27,28,29,30,31,32,33,34,35,36,37,38,39,40,41,42,43,44],[]⟩
def Gs:j4:=⟨[2,5,47,48],[]⟩
def Gt:j4:=⟨[5,47,49,50,51,52,53],[]⟩
def DJ:j4:=⟨[2,6,9,54,55,56,57,58,59,60,61,62,63,64,65,66,67,68],[]⟩
noncomputable def f4c:Code:=(.seq (.region 0 (oN f4 2) false) (.seq (.seq (.region 1 (oN f4 9) false) (.cond (.tmp 12) (.seq (.region 2 (oN f4 37) false) .ret) .skip)) (.seq (.region 3 (oN f4 11) false) (.seq (.region 4 (oN f4 23) false) (.seq (.seq (.region 5 (oN f4 79) true) (.cond (.tmp 45) (.seq (.region 6 (oN f4 303) false) .ret) .skip)) (.seq (.seq (.region 7 (oN f4 159) false) (.cond (.tmp 47) (.seq (.region 8 (oN f4 607) false) .ret) .skip)) (.seq (.region 9 (oN f4 191) false) (.seq (.region 10 (oN f4 383) false) .ret))))))))
def f4n:List (Nat×j4):=[(0,⟨[0,4],[]⟩),(1,Gm),(2,Gn),(3,Gp),(4,Gq),(5,Gr),(6,⟨[2,5,6,45],[]⟩),(7,⟨[6,45,46],[]⟩),(8,Gs),(9,Gt),(10,DJ)]
def ANNS:List (Nat×tM):=[(4,⟨f4n,[],[]⟩),(5,⟨f5n,[],[]⟩),(6,⟨f6n,[],[]⟩),(8,⟨f8n,[],[]⟩),(9,⟨f9n,[],[]⟩),(10,⟨Fg,[],[]⟩),(11,⟨yG,[],[]⟩),(12,⟨Fh,[],[]⟩),(13,⟨Fi,[],[]⟩),(14,⟨Ga,[],[]⟩),(15,⟨xk,[],[]⟩),(16,⟨Gb,[],[]⟩),(17,⟨Gc,[],[]⟩),(18,⟨Gd,[],[]⟩),(19,⟨Fj,[],[]⟩),(20,⟨Fk,[],[]⟩),(25,⟨Ge,[],[]⟩),(27,⟨Gf,[],[]⟩),(30,⟨Gg,[],[]⟩),(31,⟨Fl,[],[]⟩),(32,⟨Fm,[],[]⟩),(33,⟨Fn,[],[]⟩),(34,⟨AD,[],[]⟩),(35,⟨Fo,[],[]⟩),(36,⟨Fp,[],[]⟩),(37,⟨Fq,[],[]⟩),(38,⟨qJ,[],[]⟩),(39,⟨Gh,[],[]⟩),(40,⟨Fr,[],[]⟩),(41,⟨Gi,[],[]⟩),(42,⟨Fs,[],[]⟩),(46,⟨Gj,[],[]⟩),(47,⟨Gk,[],[]⟩),(48,⟨Gl,[],[]⟩),(56,⟨Gu,[],[]⟩),(57,⟨Gv,[],[]⟩),(58,⟨Gw,[],[]⟩),(59,⟨Ft,[],[]⟩),(60,⟨GA,[],[]⟩),(61,⟨GB,[],[]⟩),(62,⟨GC,[],[]⟩),(63,⟨GD,[],[]⟩),(71,⟨GJ,[],[]⟩),(72,⟨Fu,[],[]⟩),(73,⟨GK,[],[]⟩),(74,⟨GL,[],[]⟩),(75,⟨Fv,[],[]⟩),(76,⟨GM,[],[]⟩),(83,⟨Fw,[],[]⟩),(84,⟨Fx,[],[]⟩),(85,⟨Fy,[],[]⟩),(102,⟨Bv,[],[]⟩),(103,⟨Bw,[],[]⟩)]
def b7:FuncId→tM:=fun f=>(i6 f ANNS).getD {}
def ext:wV:=fun f args=>bif Nat.beq f 64 then some (aX args) else bif Nat.beq f 28 then some (qG args) else bif Nat.beq f 53 then some (cu args) else bif Nat.beq f 52 then some (qF 60 5 args) else bif Nat.beq f 54 then some (qD 60 5 args) else bif Nat.beq f 29 then some (qE 60 5 args) else bif Nat.beq f 21 then some (qH args) else bif Nat.beq f 23 then some (ll args) else bif Nat.beq f 22 then some (uj args) else bif Nat.beq f 24 then some (ui false args) else bif Nat.beq f 77 then some (lk args) else none
noncomputable abbrev EV (k:Nat):O8:=evF prog b7 ext k
noncomputable abbrev RE (k:Nat) (a:j4) (o:Array Oper) (d:Bool) (s:St):Option St:=O9 prog (EV k) a o d s
abbrev I (n:Int):V:=.int .i64 n
abbrev d4 (l:List a7):V:=.sl 0 8 (List.map d9 l)
abbrev c8 (l:List b8):V:=.sl 0 3 (List.map j3 l)
abbrev i8 (l:List a8):V:=.sl 0 4 (List.map d7 l)
abbrev sI (l:List Int):V:=.sl 0 1 (List.map I l)
def bD:Bool→V×List V:=fun r=>((Bo r),[])
abbrev p9:=List (Nat×V)
abbrev ep:=List (Nat×u6)
theorem Z {α:Sort _} {a:α}:a=a:=rfl
abbrev xV (p0:a6):ep:=[(1,vS 4 (j5 p0))]
abbrev tr (p0:a6):ep:=[(2,vS 4 (j5 p0))]
abbrev FO (p0:a6):ep:=[(1,vS 4 (j5 p0)),(4,⟨false,2,[(V.agg [V.tp 4 60,V.row 5 ([]:Str)])]⟩)]
abbrev Hm (p0:a7) (p1:b8):ep:=[(1,vS 8 (d9 p0)),(4,vS 3 (j3 p1))]
abbrev Hn (p0:a6) (p1:a7):ep:=[(1,vS 4 (j5 p0)),(4,vS 8 (d9 p1))]
abbrev FP (p0:a6) (p1:a8):ep:=[(1,vS 4 (j5 p0)),(7,vS 4 (d7 p1))]
abbrev Ah (p0:a6) (p1:a7):ep:=[(1,vS 4 (j5 p0)),(6,vS 8 (d9 p1))]
abbrev xW (p0:a6) (p1:a7) (p2:b8):ep:=[(1,vS 4 (j5 p0)),(6,vS 8 (d9 p1)),(10,vS 3 (j3 p2))]
abbrev Ho (p0:List Str) (p1:Str) (p2:Int) (p3:List a7) (p4:List a8):ep:=[(3,vS 1 (sS p0)),(68,⟨false,4,[(V.agg [(Sr p1),(I p2),(V.sl 3 8 (List.map b5 p3)),(V.sl 1 4 (List.map d7 p4))])]⟩)]
abbrev Hf (p0:List a7) (p1:List Str) (p2:Str) (p3:Int) (p4:List a8):ep:=[(0,⟨true,8,List.map b5 p0⟩),(3,vS 1 (sS p1)),(68,⟨false,4,[(V.agg [(Sr p2),(I p3),(aL 0 b5 p0),(V.sl 1 4 (List.map d7 p4))])]⟩)]
abbrev Ag (p0:List a7) (p1:Str) (p2:Int) (p3:List a8):ep:=[(0,⟨true,8,List.map b5 p0⟩),(94,⟨false,4,[(V.agg [(Sr p1),(I p2),(aL 0 b5 p0),(V.sl 1 4 (List.map d7 p3))])]⟩)]
abbrev Hg (p0:Str) (p1:Int) (p2:List a7) (p3:List a8):ep:=[(94,⟨false,4,[(V.agg [(Sr p0),(I p1),(V.sl 3 8 (List.map b5 p2)),(V.sl 1 4 (List.map d7 p3))])]⟩)]
abbrev Hh (p0:List Str) (p1:Str) (p2:Int) (p3:List a7) (p4:List a8):ep:=[(3,vS 1 (sS p0)),(76,⟨false,4,[(V.agg [(Sr p1),(I p2),(V.sl 3 8 (List.map b5 p3)),(V.sl 1 4 (List.map d7 p4))])]⟩)]
abbrev EQ (p0:List a7) (p1:List Str) (p2:Str) (p3:Int) (p4:List a8):ep:=[(0,⟨true,8,List.map b5 p0⟩),(3,vS 1 (sS p1)),(76,⟨false,4,[(V.agg [(Sr p2),(I p3),(aL 0 b5 p0),(V.sl 1 4 (List.map d7 p4))])]⟩)]
abbrev Hi (p0:Str) (p1:Int) (p2:List a7) (p3:List a8):ep:=[(76,⟨false,4,[(V.agg [(Sr p0),(I p1),(V.sl 3 8 (List.map b5 p2)),(V.sl 1 4 (List.map d7 p3))])]⟩)]
abbrev Hj (p0:List a7) (p1:Str) (p2:Int) (p3:List a8):ep:=[(0,⟨true,8,List.map b5 p0⟩),(76,⟨false,4,[(V.agg [(Sr p1),(I p2),(aL 0 b5 p0),(V.sl 1 4 (List.map d7 p3))])]⟩)]
abbrev Hk (p0:Str) (p1:Int) (p2:List a7) (p3:List a8):ep:=[(60,⟨false,4,[(V.agg [(Sr p0),(I p1),(V.sl 3 8 (List.map b5 p2)),(V.sl 1 4 (List.map d7 p3))])]⟩)]
abbrev Hl (p0:Str) (p1:Int) (p2:List a7) (p3:List a8):ep:=[(2,⟨false,4,[(V.agg [(Sr []),(I 0),(V.sl 2 8 (List.map d9 ([]:List a7))),(V.sl 2 4 (List.map d7 ([]:List a8)))])]⟩),(4,⟨false,4,[(V.agg [(Sr p0),(I p1),(V.sl 3 8 (List.map b5 p2)),(V.sl 1 4 (List.map d7 p3))])]⟩)]
abbrev ER (p0:a6) (p1:a6) (p2:a7) (p3:a7):ep:=[(2,vS 4 (j5 p0)),(3,vS 4 (j5 p1)),(6,vS 8 (d9 p2)),(7,vS 8 (d9 p3))]
abbrev wL (p0:a6) (p1:a6):ep:=[(2,vS 4 (j5 p0)),(3,vS 4 (j5 p1))]
abbrev V0 (p0:Str) (p1:Int) (r:p9):p9:=(1,(Pt 1)) :: (4,(Sr p0)) :: (5,(I p1)) :: (6,(Pt 6)) :: r
abbrev kI (p0:Int) (p1:Str) (p2:Bool) (p3:Int) (r:p9):p9:=(1,(Pt 1)) :: (6,(I p0)) :: (7,(Pt 7)) :: (162,(Pt 7)) :: (163,(Sr p1)) :: (164,(Bo p2)) :: (165,(Bo false)) :: (166,(Bo false)) :: (167,(V.ptr 7 0 1)) :: (168,(I p3)) :: (169,(Bo false)) :: (170,(Bo false)) :: (171,(Bo false)) :: (172,(V.ptr 7 0 1)) :: (173,(I p3)) :: (174,(V.ptr 1 0 2)) :: r
abbrev ax (r:p9):p9:=(1,(Pt 1)) :: (4,(Pt 4)) :: r
abbrev iF (p0:Str) (p1:Int) (p2:Str) (p3:Str) (p4:Str) (r:p9):p9:=(1,(Pt 1)) :: (4,(Sr p0)) :: (12,(I p1)) :: (13,(Pt 13)) :: (14,(Sr ([45]:Str))) :: (124,(Bo false)) :: (128,(Sr p0)) :: (129,(Pt 13)) :: (130,(Sr p2)) :: (131,(Sr p3)) :: (132,(Sr p4)) :: (133,(V.ptr 1 0 2)) :: r
abbrev kJ (p0:Str) (p1:Int) (p2:Str) (p3:Str) (p4:Str) (p5:Str) (p6:Str) (p7:Int) (r:p9):p9:=(1,(Pt 1)) :: (4,(Sr p0)) :: (5,(I p1)) :: (6,(Pt 6)) :: (7,(Sr ([45]:Str))) :: (8,(Sr ([70]:Str))) :: (50,(Bo false)) :: (51,(Sr p0)) :: (52,(Pt 6)) :: (53,(Sr p2)) :: (54,(Sr p3)) :: (55,(Sr p4)) :: (56,(Sr ([45]:Str))) :: (57,(Sr p5)) :: (58,(Sr p6)) :: (59,(V.ptr 6 0 2)) :: (60,(I p7)) :: r
abbrev kK (p0:Str) (p1:Int) (p2:Str) (p3:Str) (p4:Str) (p5:Str) (p6:Str) (p7:Int) (r:p9):p9:=(1,(Pt 1)) :: (4,(Sr p0)) :: (5,(I p1)) :: (6,(Pt 6)) :: (7,(Sr ([45]:Str))) :: (8,(Sr ([76]:Str))) :: (51,(Sr p0)) :: (52,(Pt 6)) :: (53,(Sr p2)) :: (54,(Sr p3)) :: (55,(Sr p4)) :: (56,(Sr ([45]:Str))) :: (57,(Sr p5)) :: (58,(Sr p6)) :: (59,(V.ptr 6 0 2)) :: (60,(I p7)) :: r
abbrev oD (p0:Str) (p1:Str) (p2:Int) (p3:Int) (p4:Int) (p5:Int) (p6:Int) (p7:Int) (p8:Str) (r:p9):p9:=(0,(Sr p0)) :: (3,(Sr p1)) :: (4,(I p2)) :: (8,(Bo true)) :: (11,(Sr p1)) :: (12,(Sr p0)) :: (13,(I p2)) :: (14,(V.int .u8 p3)) :: (15,(V.int .u8 p4)) :: (16,(Sr p0)) :: (17,(I p2)) :: (18,(V.int .u8 p5)) :: (19,(V.int .u8 p6)) :: (20,(V.int .u8 p7)) :: (21,(Sr p8)) :: (22,(Sr p0)) :: (23,(I p2)) :: r
abbrev kL (p0:Str) (p1:Int) (p2:Str) (p3:Str) (p4:Str) (p5:Str) (p6:Str) (p7:Str) (p8:Int) (r:p9):p9:=(1,(Pt 1)) :: (4,(Sr p0)) :: (5,(I p1)) :: (6,(Pt 6)) :: (7,(Sr p2)) :: (8,(Sr ([70]:Str))) :: (50,(Bo false)) :: (51,(Sr p0)) :: (52,(Pt 6)) :: (53,(Sr p3)) :: (54,(Sr p4)) :: (55,(Sr p5)) :: (56,(Sr p2)) :: (57,(Sr p6)) :: (58,(Sr p7)) :: (59,(V.ptr 6 0 2)) :: (60,(I p8)) :: r
abbrev iG (p0:Str) (p1:Int) (p2:Str) (p3:Str) (p4:Str) (p5:Str) (r:p9):p9:=(1,(Pt 1)) :: (4,(Sr p0)) :: (12,(I p1)) :: (13,(Pt 13)) :: (14,(Sr p2)) :: (128,(Sr p0)) :: (129,(Pt 13)) :: (130,(Sr p3)) :: (131,(Sr p4)) :: (132,(Sr p5)) :: (133,(V.ptr 1 0 2)) :: r
abbrev kM (p0:Str) (p1:Int) (p2:Str) (p3:Str) (p4:Str) (p5:Str) (p6:Str) (p7:Str) (p8:Int) (r:p9):p9:=(1,(Pt 1)) :: (4,(Sr p0)) :: (5,(I p1)) :: (6,(Pt 6)) :: (7,(Sr p2)) :: (8,(Sr ([76]:Str))) :: (51,(Sr p0)) :: (52,(Pt 6)) :: (53,(Sr p3)) :: (54,(Sr p4)) :: (55,(Sr p5)) :: (56,(Sr p2)) :: (57,(Sr p6)) :: (58,(Sr p7)) :: (59,(V.ptr 6 0 2)) :: (60,(I p8)) :: r
abbrev kN (p0:Str) (p1:Int) (p2:Int) (p3:Str) (p4:Str) (p5:Str) (p6:Int) (r:p9):p9:=(1,(Pt 1)) :: (4,(Sr p0)) :: (5,(I p1)) :: (6,(Pt 6)) :: (9,(I p2)) :: (10,(Pt 10)) :: (11,(Sr ([77]:Str))) :: (90,(Bo false)) :: (91,(Sr p0)) :: (92,(Pt 10)) :: (93,(Sr p3)) :: (94,(Sr p4)) :: (95,(Sr p5)) :: (96,(V.ptr 10 0 1)) :: (97,(I p6)) :: r
abbrev kO (p0:Str) (p1:Int) (p2:Int) (p3:Str) (p4:Str) (p5:Str) (p6:Int) (r:p9):p9:=(1,(Pt 1)) :: (4,(Sr p0)) :: (5,(I p1)) :: (6,(Pt 6)) :: (9,(I p2)) :: (10,(Pt 10)) :: (11,(Sr ([45]:Str))) :: (88,(Bo false)) :: (91,(Sr p0)) :: (92,(Pt 10)) :: (93,(Sr p3)) :: (94,(Sr p4)) :: (95,(Sr p5)) :: (96,(V.ptr 10 0 1)) :: (97,(I p6)) :: r
abbrev kP (p0:Str) (p1:Int) (p2:Int) (p3:Str) (p4:Str) (p5:Str) (p6:Int) (r:p9):p9:=(1,(Pt 1)) :: (4,(Sr p0)) :: (5,(I p1)) :: (6,(Pt 6)) :: (9,(I p2)) :: (10,(Pt 10)) :: (11,(Sr ([85]:Str))) :: (91,(Sr p0)) :: (92,(Pt 10)) :: (93,(Sr p3)) :: (94,(Sr p4)) :: (95,(Sr p5)) :: (96,(V.ptr 10 0 1)) :: (97,(I p6)) :: r
abbrev iH (p0:Str) (r:p9):p9:=(0,(Sr p0)) :: (2,(Pt 2)) :: (4,(Pt 4)) :: r
abbrev ay (r:p9):p9:=(1,(Pt 1)) :: (4,(Pt 4)) :: (6,(Pt 6)) :: r
abbrev fF (p0:Int) (p1:Int) (p2:Bool) (r:p9):p9:=(0,(Pt 68)) :: (3,(Pt 3)) :: (5,(I p0)) :: (6,(I p1)) :: (7,(Bo p2)) :: r
abbrev fG (p0:Int) (p1:Int) (r:p9):p9:=(0,(Pt 76)) :: (3,(Pt 3)) :: (5,(I p0)) :: (6,(I p1)) :: r
abbrev W5 (r:p9):p9:=(2,(Pt 2)) :: (3,(Pt 3)) :: r
abbrev W6 (p0:Int) (r:p9):p9:=(1,(Pt 1)) :: (3,(I p0)) :: r
abbrev Q8 (p0:List Str) (r:p9):p9:=(0,(Pt 94)) :: (1,(sS p0)) :: r
abbrev pY (p0:Str) (p1:Str) (p2:Int) (p3:Str) (p4:Int) (p5:Bool) (r:p9):p9:=(1,(Sr p0)) :: (2,(Pt 2)) :: (5,(Sr p1)) :: (6,(I p2)) :: (7,(Sr p3)) :: (8,(I p4)) :: (24,(Sr p0)) :: (25,(Bo p5)) :: (26,(Sr p0)) :: r
abbrev bT (p0:Str) (r:p9):p9:=(1,(Pt 1)) :: (4,(Sr p0)) :: r
abbrev er (p0:Int) (r:p9):p9:=(1,(Pt 1)) :: (6,(I p0)) :: (7,(Pt 7)) :: r
abbrev gO (p0:Int) (r:p9):p9:=(2,(Pt 2)) :: (3,(Pt 3)) :: (5,(I p0)) :: (6,(Pt 6)) :: (7,(Pt 7)) :: r
abbrev tt (p0:Str) (p1:Str) (p2:Int) (r:p9):p9:=(0,(Sr p0)) :: (3,(Sr p1)) :: (4,(I p2)) :: (8,(Bo true)) :: (11,(Sr p1)) :: (12,(Sr p0)) :: (13,(I p2)) :: r
abbrev wM (p0:Str) (p1:Int) (p2:Str) (r:p9):p9:=(1,(Pt 1)) :: (4,(Sr p0)) :: (5,(I p1)) :: (6,(Pt 6)) :: (7,(Sr ([45]:Str))) :: (8,(Sr ([70]:Str))) :: (50,(Bo false)) :: (51,(Sr p0)) :: (52,(Pt 6)) :: (53,(Sr p2)) :: r
abbrev dz (r:p9):p9:=(1,(Pt 1)) :: (4,(Pt 4)) :: (13,(Pt 13)) :: r
abbrev cU (p0:Int) (r:p9):p9:=(1,(I p0)) :: (2,(Pt 2)) :: r
abbrev iI (p0:Str) (p1:List Str) (p2:Int) (p3:Int) (r:p9):p9:=(0,(Sr p0)) :: (2,(Pt 2)) :: (4,(Pt 4)) :: (12,(sS p1)) :: (13,(I p2)) :: (14,(I p3)) :: r
abbrev Z2 (r:p9):p9:=(4,(Bo false)) :: r
abbrev gP (r:p9):p9:=(1,(Pt 1)) :: (4,(Pt 4)) :: (6,(Pt 6)) :: (7,(Sr ([45]:Str))) :: r
abbrev fH (p0:Int) (p1:Int) (r:p9):p9:=(1,(Pt 1)) :: (3,(I p0)) :: (4,(Pt 4)) :: (5,(I p1)) :: r
abbrev ES (p0:Int) (p1:Bool) (r:p9):p9:=(28,(I p0)) :: (29,(Bo p1)) :: (30,(Bo p1)) :: (31,(Bo p1)) :: r
abbrev az (r:p9):p9:=(2,(Bo false)) :: r
abbrev iJ (r:p9):p9:=(0,(Pt 76)) :: (3,(Pt 3)) :: r
abbrev tu (p0:Str) (r:p9):p9:=(1,(Pt 1)) :: (17,(Bo false)) :: (18,(Pt 1)) :: (19,(Sr p0)) :: r
abbrev fI (p0:Str) (p1:Int) (p2:Int) (r:p9):p9:=(1,(Pt 1)) :: (4,(Sr p0)) :: (5,(I p1)) :: (6,(Pt 6)) :: (9,(I p2)) :: (10,(Pt 10)) :: r
abbrev wN (p0:Str) (p1:Int) (p2:Str) (r:p9):p9:=(1,(Pt 1)) :: (4,(Sr p0)) :: (5,(I p1)) :: (6,(Pt 6)) :: (7,(Sr ([45]:Str))) :: (8,(Sr ([76]:Str))) :: (51,(Sr p0)) :: (52,(Pt 6)) :: (53,(Sr p2)) :: r
abbrev tv (r:p9):p9:=(1,(Pt 1)) :: (82,(Bo false)) :: (83,(V.ptr 1 0 4)) :: r
abbrev wO (p0:Str) (p1:Int) (p2:Str) (p3:Str) (r:p9):p9:=(1,(Pt 1)) :: (4,(Sr p0)) :: (5,(I p1)) :: (6,(Pt 6)) :: (7,(Sr p2)) :: (8,(Sr ([70]:Str))) :: (50,(Bo false)) :: (51,(Sr p0)) :: (52,(Pt 6)) :: (53,(Sr p3)) :: r
abbrev cV (r:p9):p9:=(1,(Pt 1)) :: (4,(Pt 4)) :: (6,(Pt 6)) :: (10,(Pt 10)) :: r
abbrev kQ (p0:List Str) (r:p9):p9:=(1,(Pr (sS p0))) :: (2,(Pt 2)) :: r
abbrev ET (p0:List Str) (p1:List a7) (r:p9):p9:=(0,(Pt 94)) :: (1,(sS p0)) :: (14,(Bo false)) :: (15,(Pt 94)) :: (16,(Pt 94)) :: (17,(V.ptr 94 0 2)) :: (18,(aL 0 b5 p1)) :: (19,(Pt 94)) :: (20,(Pt 94)) :: (21,(V.ptr 94 0 2)) :: (22,(aL 0 b5 p1)) :: r
abbrev tz (p0:Int) (p1:Int) (p2:List Str) (p3:Str) (r:p9):p9:=(0,(Pt 76)) :: (3,(Pt 3)) :: (5,(I p0)) :: (6,(I p1)) :: (36,(Bo false)) :: (37,(sS p2)) :: (38,(Pr (Sr p3))) :: (39,(Sr p3)) :: r
abbrev EU (p0:Int) (p1:Int) (p2:Bool) (r:p9):p9:=(11,(V.ptr 2 0 1)) :: (12,(I p0)) :: (13,(V.ptr 3 0 1)) :: (14,(I p1)) :: (15,(Bo p2)) :: (16,(Bo p2)) :: (17,(Bo p2)) :: r
abbrev mw (p0:Str) (p1:Int) (r:p9):p9:=(1,(Pt 1)) :: (4,(Sr p0)) :: (12,(I p1)) :: (13,(Pt 13)) :: r
abbrev oE (p0:Int) (p1:Int) (r:p9):p9:=(1,(I p0)) :: (2,(I p1)) :: (3,(Pt 3)) :: r
abbrev wP (p0:Str) (p1:Int) (p2:Str) (p3:Str) (r:p9):p9:=(1,(Pt 1)) :: (4,(Sr p0)) :: (5,(I p1)) :: (6,(Pt 6)) :: (7,(Sr p2)) :: (8,(Sr ([76]:Str))) :: (51,(Sr p0)) :: (52,(Pt 6)) :: (53,(Sr p3)) :: r
abbrev Ai (p0:Int) (p1:Int) (p2:Bool) (r:p9):p9:=(0,(Pt 68)) :: (3,(Pt 3)) :: (5,(I p0)) :: (6,(I p1)) :: (7,(Bo p2)) :: (8,(I (-1))) :: (23,(Bo false)) :: (35,(Pt 68)) :: (36,(Pt 68)) :: (37,(Pt 68)) :: (38,(V.ptr 68 0 2)) :: r
abbrev tA (p0:Str) (p1:Int) (p2:Str) (p3:List Str) (p4:Int) (p5:Int) (r:p9):p9:=(0,(Sr p0)) :: (2,(Pt 2)) :: (4,(Pt 4)) :: (5,(I p1)) :: (6,(Sr p2)) :: (12,(sS p3)) :: (13,(I p4)) :: (14,(I p5)) :: r
abbrev tB (p0:Str) (r:p9):p9:=(1,(Pt 1)) :: (4,(Pt 4)) :: (6,(Pt 6)) :: (7,(Sr p0)) :: (8,(Sr ([70]:Str))) :: r
abbrev tC (p0:Str) (r:p9):p9:=(1,(Pt 1)) :: (4,(Pt 4)) :: (6,(Pt 6)) :: (7,(Sr p0)) :: (8,(Sr ([76]:Str))) :: r
abbrev wQ (r:p9):p9:=(1,(Pt 1)) :: (4,(Pt 4)) :: (13,(Pt 13)) :: (14,(Sr ([45]:Str))) :: (16,(Pt 16)) :: r
abbrev tD (r:p9):p9:=(0,(Pt 68)) :: (3,(Pt 3)) :: r
abbrev pU (p0:a6) (t:p9):St:=⟨t,xV p0,29⟩
abbrev cS (t:p9):St:=⟨t,[],47⟩
abbrev H8 (t:p9):St:=⟨t,[],19⟩
abbrev oA (t:p9):St:=⟨t,[],9⟩
abbrev mt (t:p9):St:=⟨t,[],52⟩
abbrev wJ (t:p9):St:=⟨t,[],70⟩
abbrev tl (t:p9):St:=⟨t,[],82⟩
abbrev mu (t:p9):St:=⟨t,[],73⟩
abbrev tm (t:p9):St:=⟨t,[],13⟩
abbrev cT (t:p9):St:=⟨t,[],35⟩
abbrev M6 (t:p9):St:=⟨t,[],26⟩
abbrev pV (p0:a7) (p1:b8) (t:p9):St:=⟨t,Hm p0 p1,112⟩
abbrev wK (t:p9):St:=⟨t,[],112⟩
abbrev tn (p0:a6) (t:p9):St:=⟨t,tr p0,19⟩
abbrev oB (p0:a6) (p1:a7) (t:p9):St:=⟨t,Hn p0 p1,232⟩
abbrev mv (t:p9):St:=⟨t,[],232⟩
abbrev dy (p0:a6) (t:p9):St:=⟨t,xV p0,232⟩
abbrev oC (p0:a6) (p1:a8) (t:p9):St:=⟨t,FP p0 p1,232⟩
abbrev pW (t:p9):St:=⟨t,[],41⟩
abbrev aE (p0:a6) (p1:a7) (t:p9):St:=⟨t,Ah p0 p1,161⟩
abbrev bw (p0:a6) (t:p9):St:=⟨t,xV p0,161⟩
abbrev kH (p0:List Str) (p1:Str) (p2:Int) (p3:List a7) (p4:List a8) (t:p9):St:=⟨t,Ho p0 p1 p2 p3 p4,68⟩
abbrev tq (p0:List a7) (p1:List Str) (p2:Str) (p3:Int) (p4:List a8) (t:p9):St:=⟨t,Hf p0 p1 p2 p3 p4,68⟩
abbrev bS (p0:List a7) (p1:Str) (p2:Int) (p3:List a8) (t:p9):St:=⟨t,Ag p0 p1 p2 p3,94⟩
abbrev pX (p0:Str) (p1:Int) (p2:List a7) (p3:List a8) (t:p9):St:=⟨t,Hg p0 p1 p2 p3,94⟩
abbrev rH (p0:List Str) (p1:Str) (p2:Int) (p3:List a7) (p4:List a8) (t:p9):St:=⟨t,Hh p0 p1 p2 p3 p4,76⟩
abbrev aw (p0:List a7) (p1:List Str) (p2:Str) (p3:Int) (p4:List a8) (t:p9):St:=⟨t,EQ p0 p1 p2 p3 p4,76⟩
abbrev jt (p0:Str) (p1:Int) (p2:List a7) (p3:List a8) (t:p9):St:=⟨t,Hi p0 p1 p2 p3,76⟩
abbrev lN (p0:List a7) (p1:Str) (p2:Int) (p3:List a8) (t:p9):St:=⟨t,Hj p0 p1 p2 p3,76⟩
abbrev lO (p0:Str) (p1:Int) (p2:List a7) (p3:List a8) (t:p9):St:=⟨t,Hk p0 p1 p2 p3,60⟩
abbrev V3 (p0:Str) (p1:Int) (p2:List a7) (p3:List a8) (t:p9):St:=⟨t,Hl p0 p1 p2 p3,67⟩
abbrev ju (p0:a6) (p1:a6) (p2:a7) (p3:a7) (t:p9):St:=⟨t,ER p0 p1 p2 p3,149⟩
abbrev oz (t:p9):St:=⟨t,[],149⟩
abbrev bN (p0:a6) (p1:a6) (t:p9):St:=⟨t,wL p0 p1,149⟩
abbrev fj (t:p9):St:=⟨t,[],32⟩
abbrev rI (p0:a6) (t:p9):St:=⟨t,tr p0,69⟩
abbrev rJ (t:p9):St:=⟨t,[],69⟩
abbrev sqW (n:Int):Int:=Go.IntKind.wrap .i64 n
abbrev sqU (n:Int):V:=V.int .u8 n
abbrev sqB (n:Int):Int:=Go.IntKind.wrap .u8 n
theorem ka (k:Nat) (a0:a6)  (K0:Int→Option Bool) (Kst:X×St→Option (V×List V)) (hK0:∀ (y0:Int),Kst (X.exit 0,(pU a0 (W6 y0 [(8,(Bo false))])))=(K0 y0).map bD) (hret:∀ s,Kst (X.ret,s)=R6 prog 29 [(j5 a0)] [] [.tmp 2] (X.ret,s)):
  ∀ (m:Nat) (x3:Int),(M9 (D0 prog (EV k) Fg k BB) m (pU a0 (W6 x3 []))).bind Kst=(L7 a0 K0 m x3).map bD:=by
 intro m
 induction m with
 | zero=>intros; rfl
 | succ m ih=>
  intro x3
  unfold L7
  refine et A5 $ et d8 $ krp Bx Z (pU a0 (W6 x3 [(8,(Bo (decide (x3 < (a0.fTypes.length:Int)))))])) ?_ ?_
  ·exact rd 3 [(4,(I x3)),(5,(V.ptr 1 0 2)),(6,(d4 a0.fTypes))] Z Z $ rl Z (w7 (e:=d9) Z Z Z Z Z Z underlying23) $ b6 Z
  refine kc Z Z (fun hc=>?_) fun hc=>?_
  ·rw [hc]
   refine et l7 $ et (l6 Z) $ kg Bz Z (fun (o5:Bool)=>(pU a0 (W6 x3 [(18,(Bo o5))]))) (rd 3 [(11,(V.ptr 1 0 2)),(12,(d4 a0.fTypes)),(13,(I x3))] Z Z $ rp Z (j6 (e:=d9) Z Z Z underlying23 Z (by decide)) fun v4=>bd 6 [(14,(Pr (d9 v4))),(15,(Pr (c8 v4.fFields))),(16,(c8 v4.fFields))] Z Z $ rl Z (w7 (e:=j3) Z Z Z Z Z Z underlying50) $ b6 Z) fun o5=>kcl Z Z (fun hc=>?_) fun hc=>?_
   ·rw [hc]
    refine kr ⟨(az []),[],29⟩ rfl $ et l5 $ et w6 $ et x9 $ et (hret _) ?_
    rfl
   ·rw [hc]
    exact et w9 $ et j8 $ kl (pU a0 (W6 (sqW (x3+1)) [])) Z $ et j7 $ ih (sqW (x3+1))
  ·rw [hc]
   exact et C7 $ et s6 $ hK0 x3
theorem nW (k:Nat) (a0:a6):EV k 10 [(j5 a0)]=(dm k a0).map bD:=by
 cases k with
 | zero=>rfl
 | succ k=>
  unfold dm
  refine et (l8 (c:=f10c) (N:=29) (regs:=Fg) Z func10 Z (by decide) Z Z Z) $ kr (pU a0 [(1,(Pt 1))]) Z $ et d8 $ kra [(3,(I 0))] Z $ et (l6 Z) $ et B3 ?_
  refine ka k a0 _ _ ?h_law11_Small_L1_0 ?hr_law11_Small_L1 k 0
  ·intro y6
   refine et s5 $ kg BA Z (fun (o7:Bool)=>⟨[(2,(Bo o7))],[],29⟩) ?_ fun o7=>?_
   ·refine rd 2 [(19,(V.ptr 1 0 2)),(20,(d4 a0.fTypes))] Z Z $ rl Z (w7 (e:=d9) Z Z Z Z Z Z underlying23) $ bd 5 [(21,(I (a0.fTypes.length:Int))),(22,(Bo (decide ((a0.fTypes.length:Int)≤12)))),(23,(Bo (decide ((a0.fTypes.length:Int)≤12))))] Z Z $ u1 (fun hc=>?_) fun hc=>?_
    ·rw [hc]
     exact rd 7 [(24,(V.ptr 1 0 3)),(25,(i8 a0.fIndexes))] Z Z $ rl Z (w7 (e:=d7) Z Z Z Z Z Z underlying24) $ b6 Z
    ·rw [hc]
     exact i7 Z
   refine et l5 ?_
   rfl
  ·intro s; exact rfl
def nX:a6→V×List V:=fun r=>((j5 r),[])
theorem iA (k:Nat) :EV k 18 []=(X7 k).map nX:=by
 cases k with
 | zero=>rfl
 | succ k=>
  unfold X7
  refine et (l8 (c:=f18c) (N:=11) (regs:=Gd) Z func18 Z (by decide) Z Z Z) $ kr ⟨[(0,(Pt 0))],[(0,⟨false,4,[(V.agg [(Sr []),(I 0),(V.sl 2 8 (List.map d9 ([]:List a7))),(V.sl 2 4 (List.map d7 ([]:List a8)))])]⟩)],11⟩ rfl $ kr ⟨[(0,(Pt 0))],[(0,⟨false,4,[(j5 ({ fName:=([83,72,79,80]:Str),fKind:=4,fTypes:=([({ fName:=([67,85,83,84]:Str),fParent:=(-1),fMin:=4,fSize:=10,fFields:=([({ fName:=([67,85,83,84,78,79]:Str),fAt:=0,fBytes:=4 }:b8)]:List b8),fKey:=0,fUnique:=true,fLast:=false }:a7),({ fName:=([79,82,68,69,82]:Str),fParent:=0,fMin:=4,fSize:=12,fFields:=([({ fName:=([79,82,68,78,79]:Str),fAt:=0,fBytes:=4 }:b8)]:List b8),fKey:=0,fUnique:=false,fLast:=false }:a7),({ fName:=([73,84,69,77]:Str),fParent:=1,fMin:=1,fSize:=8,fFields:=([]:List b8),fKey:=(-1),fUnique:=false,fLast:=true }:a7),({ fName:=([80,72,79,78,69]:Str),fParent:=0,fMin:=1,fSize:=8,fFields:=([]:List b8),fKey:=(-1),fUnique:=false,fLast:=false }:a7)]:List a7),fIndexes:=([]:List a8) }:a6))]⟩)],11⟩ rfl $ et l5 ?_
  rfl
def cr:Bool→V×List V:=fun r=>((Bo r),[])
theorem ld (k:Nat) (a0:Str)  (K0:Int→Option Bool) (Kst:X×St→Option (V×List V)) (hK0:∀ (y0:Int),Kst (X.exit 0,(cS [(0,(Sr a0)),(6,(I (a0.length:Int))),(7,(I y0)),(8,(Bo false))]))=(K0 y0).map cr) (hret:∀ s,Kst (X.ret,s)=R6 prog 47 [(Sr a0)] [] [.tmp 2] (X.ret,s)):
  ∀ (m:Nat) (x7:Int),(M9 (D0 prog (EV k) Fh k BM) m (cS [(0,(Sr a0)),(6,(I (a0.length:Int))),(7,(I x7))])).bind Kst=(I0 a0 K0 m x7).map cr:=by
 intro m
 induction m with
 | zero=>intros; rfl
 | succ m ih=>
  intro x7
  unfold I0
  refine et A5 $ kra [(8,(Bo (decide (x7 < (a0.length:Int)))))] Z $ kc Z Z (fun hc=>?_) fun hc=>?_
  ·rw [hc]
   refine et l7 $ et (l6 Z) $ kr (cS [(0,(Sr a0)),(3,(I x7)),(6,(I (a0.length:Int))),(7,(I x7))]) Z $ kg BJ Z (fun (o0:Bool)=>(cS [(0,(Sr a0)),(3,(I x7)),(4,(Bo o0)),(6,(I (a0.length:Int))),(7,(I x7))])) ?_ fun o0=>?_
   ·refine rd 2 [(10,(Sr a0)),(11,(I x7))] Z Z $ rp Z (M0 Z Z Z underlying9) fun v8=>bd 5 [(12,(sqU v8)),(13,(Bo (decide (v8 ≥ 65)))),(14,(Bo (decide (v8 ≥ 65))))] Z Z $ u1 (fun hc=>?_) fun hc=>?_
    ·rw [hc]
     exact rd 7 [(15,(Sr a0)),(16,(I x7))] Z Z $ rp Z (M0 Z Z Z underlying9) fun v9=>b6 Z
    ·rw [hc]
     exact i7 Z
   refine kg BK Z (fun (o1:Bool)=>(cS [(0,(Sr a0)),(6,(I (a0.length:Int))),(7,(I x7)),(37,(Bo o1))])) ?_ fun o1=>?_
   ·refine rd 3 [(20,(Bo o0)),(21,(Bo (!o0))),(22,(Bo (!o0)))] Z Z $ u1 (fun hc=>?_) fun hc=>?_
    ·rw [hc]
     refine rd 6 [(23,(I x7)),(24,(Bo (x7 == 0))),(25,(Bo (x7 == 0)))] Z Z $ u1 (fun hc=>?_) fun hc=>?_
     ·rw [hc]
      exact i7 Z
     ·rw [hc]
      refine rd 8 [(26,(Sr a0)),(27,(I x7))] Z Z $ rp Z (M0 Z Z Z underlying9) fun v0=>bd 12 [(28,(sqU v0)),(29,(Bo (decide (v0 < 48)))),(30,(Bo (decide (v0 < 48)))),(31,(Bo (decide (v0 < 48))))] Z Z $ u1 (fun hc=>?_) fun hc=>?_
      ·rw [hc]
       exact i7 Z
      ·rw [hc]
       exact rd 14 [(32,(Sr a0)),(33,(I x7))] Z Z $ rp Z (M0 Z Z Z underlying9) fun v1=>b6 Z
    ·rw [hc]
     exact i7 Z
   refine kcl Z Z (fun hc=>?_) fun hc=>?_
   ·rw [hc]
    refine kr (cS (az [])) Z $ et l5 $ et w6 $ et x9 $ et (hret _) ?_
    rfl
   ·rw [hc]
    exact et w9 $ et j8 $ kl (cS [(0,(Sr a0)),(6,(I (a0.length:Int))),(7,(I (sqW (x7+1))))]) Z $ et j7 $ ih (sqW (x7+1))
  ·rw [hc]
   exact et C7 $ et s6 $ hK0 x7
theorem V8 (k:Nat) (a0:Str):EV k 12 [(Sr a0)]=(L3 k a0).map cr:=by
 cases k with
 | zero=>rfl
 | succ k=>
  unfold L3
  refine et (l8 (c:=f12c) (N:=47) (regs:=Fh) Z func12 Z (by decide) Z Z Z) $ kra [] Z $ et d8 $ kra [(6,(I (a0.length:Int))),(7,(I 0))] Z $ et (l6 Z) $ et B3 ?_
  refine ld k a0 _ _ ?h_dbd_IsName_L1_0 ?hr_dbd_IsName_L1 k 0
  ·intro y0
   refine et s5 $ kg BL Z (fun (o0:Bool)=>(cS [(2,(Bo o0))])) ?_ fun o0=>?_
   ·refine rd 4 [(39,(Sr a0)),(40,(I (a0.length:Int))),(41,(Bo (decide ((a0.length:Int) ≥ 1)))),(42,(Bo (decide ((a0.length:Int) ≥ 1))))] Z Z $ u1 (fun hc=>?_) fun hc=>?_
    ·rw [hc]
     exact i7 Z
    ·rw [hc]
     exact i7 Z
   refine et l5 ?_
   rfl
  ·intro s; exact rfl
def M4:Int→V×List V:=fun r=>((I r),[])
theorem bM (k:Nat) (a0:(List b8)) (a1:Nat→b8→Option Bool) (a1_fid:Go.FuncId) (a1_c0:V) (a1_hok:∀ j x0,EV j a1_fid [(j3 x0),V.pro a1_c0]=(a1 j x0).map fun b=>((Bo b),[])) (K0:Int→Option Int) (Kst:X×St→Option (V×List V)) (hK0:∀ (y0:Int),Kst (X.exit 0,(H8 [(0,(c8 a0)),(1,(V.fn a1_fid [] [V.pro a1_c0])),(7,(I (a0.length:Int))),(8,(I y0)),(9,(Bo false))]))=(K0 y0).map M4) (hret:∀ s,Kst (X.ret,s)=R6 prog 19 [(c8 a0),(V.fn a1_fid [] [V.pro a1_c0])] [] [.tmp 4] (X.ret,s)):
  ∀ (m:Nat) (x4:Int),(M9 (D0 prog (EV k) Fv k Ej) m (H8 [(0,(c8 a0)),(1,(V.fn a1_fid [] [V.pro a1_c0])),(7,(I (a0.length:Int))),(8,(I x4))])).bind Kst=(E9 k a0 a1 K0 m x4).map M4:=by
 intro m
 induction m with
 | zero=>intros; rfl
 | succ m ih=>
  intro x4
  unfold E9
  refine et A5 $ kra [(9,(Bo (decide (x4 < (a0.length:Int)))))] Z $ kc Z Z (fun hc=>?_) fun hc=>?_
  ·rw [hc]
   refine et l7 $ et (l6 Z) $ kr (H8 [(0,(c8 a0)),(1,(V.fn a1_fid [] [V.pro a1_c0])),(5,(I x4)),(7,(I (a0.length:Int))),(8,(I x4))]) Z $ kga Ei Z (fun (o7:Bool)=>[(16,(Bo o7))]) (rd 3 [(11,(V.fn a1_fid [] [V.pro a1_c0])),(12,(c8 a0)),(13,(I x4))] Z Z $ rp Z (j6 (e:=j3) Z Z Z underlying50 Z (by decide)) fun v5=>bd 5 [(14,(Pr (j3 v5))),(15,(j3 v5))] Z Z $ rs Z (j9 Z Z Z Z Z (a1_hok k v5) (.inl Z)) fun v6=>b6 Z) fun o7=>kcl Z Z (fun hc=>?_) fun hc=>?_
   ·rw [hc]
    refine kr (H8 [(4,(I x4))]) Z $ et l5 $ et w6 $ et x9 $ et (hret _) ?_
    rfl
   ·rw [hc]
    exact et w9 $ et j8 $ kl (H8 [(0,(c8 a0)),(1,(V.fn a1_fid [] [V.pro a1_c0])),(7,(I (a0.length:Int))),(8,(I (sqW (x4+1))))]) Z $ et j7 $ ih (sqW (x4+1))
  ·rw [hc]
   exact et C7 $ et s6 $ hK0 x4
theorem U9 (k:Nat) (a0:(List b8)) (a1:Nat→b8→Option Bool) (a1_fid:Go.FuncId) (a1_c0:V) (a1_hok:∀ j x0,EV j a1_fid [(j3 x0),V.pro a1_c0]=(a1 j x0).map fun b=>((Bo b),[])):EV k 75 [(c8 a0),(V.fn a1_fid [] [V.pro a1_c0])]=(E7 k a0 a1).map M4:=by
 cases k with
 | zero=>rfl
 | succ k=>
  unfold E7
  refine et (l8 (c:=f75c) (N:=19) (regs:=Fv) Z func75 Z (by decide) Z Z Z) $ kra [] Z $ et d8 $ krp Eh Z (H8 [(0,(c8 a0)),(1,(V.fn a1_fid [] [V.pro a1_c0])),(7,(I (a0.length:Int))),(8,(I 0))]) ?_ ?_
  ·exact rd 1 [(6,(c8 a0))] Z Z $ rl Z (w7 (e:=j3) Z Z Z Z Z Z underlying50) $ b6 Z
  refine et (l6 Z) $ et B3 ?_
  refine bM k a0 a1 a1_fid a1_c0 a1_hok _ _ ?h_slices_IndexFunc_Field_L1_0 ?hr_slices_IndexFunc_Field_L1 k 0
  ·intro y8
   refine et s5 $ kr (H8 [(4,(I (-1)))]) Z $ et l5 ?_
   rfl
  ·intro s; exact rfl
def bs:Bool→V×List V:=fun r=>((Bo r),[])
theorem bJ (k:Nat) (a0:(List b8)) (a1:Nat→b8→Option Bool) (a1_fid:Go.FuncId) (a1_c0:V) (a1_hok:∀ j x0,EV j a1_fid [(j3 x0),V.pro a1_c0]=(a1 j x0).map fun b=>((Bo b),[])):EV k 102 [(c8 a0),(V.fn a1_fid [] [V.pro a1_c0])]=(C2 k a0 a1).map bs:=by
 cases k with
 | zero=>rfl
 | succ k=>
  unfold C2
  refine et (l8 (c:=FY) (N:=9) (regs:=Bv) Z func102 Z (by decide) Z Z Z) $ kra [] Z $ kg yz Z (fun (o2:Bool)=>(oA [(4,(Bo o2))])) (rd 2 [(5,(c8 a0)),(6,(V.fn a1_fid [] [V.pro a1_c0]))] Z Z $ rp Z (j9 Z Z Z Z Z (U9 k a0 a1 a1_fid a1_c0 a1_hok) (.inl Z)) fun v1=>b6 Z) fun o2=>et l5 ?_
  rfl
def ia:Bool→V×List V:=fun r=>((Bo r),[])
theorem iQ (k:Nat) (a0:b8) (a1:b8):EV k 103 [(j3 a0),(Pr (j3 a1))]=(Q4 k a0 a1).map ia:=by
 cases k with
 | zero=>rfl
 | succ k=>
  unfold Q4
  refine et (l8 (c:=FZ) (N:=9) (regs:=Bw) Z func103 Z (by decide) Z Z Z) $ kr ⟨[(1,(Pr (j3 a1))),(2,(Pt 2))],[(2,vS 3 (j3 a0))],9⟩ rfl $ kr (oA [(3,(Bo (a0.fName == a1.fName)))]) Z $ et l5 ?_
  rfl
def Z9:Bool→V×List V:=fun r=>((Bo r),[])
theorem ib (k:Nat) (a0:(List b8)) (a1:Int)  (K0:Int→Option Bool) (Kst:X×St→Option (V×List V)) (hK0:∀ (y0:Int),Kst (X.exit 0,(mt [(0,(c8 a0)),(1,(I a1)),(7,(c8 a0)),(8,(I (a0.length:Int))),(9,(I y0)),(10,(Bo false))]))=(K0 y0).map Z9) (hret:∀ s,Kst (X.ret,s)=R6 prog 52 [(c8 a0),(I a1)] [] [.tmp 4] (X.ret,s)):
  ∀ (m:Nat) (x8:Int),(M9 (D0 prog (EV k) Fw k Er) m (mt [(0,(c8 a0)),(1,(I a1)),(7,(c8 a0)),(8,(I (a0.length:Int))),(9,(I x8))])).bind Kst=(H5 k a0 a1 K0 m x8).map Z9:=by
 intro m
 induction m with
 | zero=>intros; rfl
 | succ m ih=>
  intro x8
  unfold H5
  refine et A5 $ kra [(10,(Bo (decide (x8 < (a0.length:Int)))))] Z $ kc Z Z (fun hc=>?_) fun hc=>?_
  ·rw [hc]
   refine et l7 $ et (l6 Z) $ kg Em Z (fun (o0:Int×b8)=>⟨[(0,(c8 a0)),(1,(I a1)),(5,(I o0.1)),(6,(Pt 6)),(7,(c8 a0)),(8,(I (a0.length:Int))),(9,(I x8))],[(6,vS 3 (j3 o0.2))],52⟩) (rd 1 [(11,(I x8))] Z Z $ rp Z (j6 (e:=j3) Z Z Z underlying50 Z (by decide)) fun v9=>b6 Z) fun o0=>et d8 $ kga En Z (fun (o1:Bool)=>[(42,(Bo o1))]) ?_ fun o1=>?_
   ·refine rd 2 [(14,(Pt 6)),(15,(Sr o0.2.fName))] Z Z $ rp Z (j9 Z Z Z Z Z (V8 k o0.2.fName) (.inl Z)) fun v0=>bd 5 [(16,(Bo v0)),(17,(Bo (!v0))),(18,(Bo (!v0)))] Z Z $ u1 (fun hc=>?_) fun hc=>?_
    ·rw [hc]
     exact i7 Z
    ·rw [hc]
     refine rd 10 [(19,(V.ptr 6 0 1)),(20,(I o0.2.fAt)),(21,(Bo (decide (o0.2.fAt < 0)))),(22,(Bo (decide (o0.2.fAt < 0)))),(23,(Bo (decide (o0.2.fAt < 0))))] Z Z $ u1 (fun hc=>?_) fun hc=>?_
     ·rw [hc]
      exact i7 Z
     ·rw [hc]
      refine rd 16 [(24,(V.ptr 6 0 1)),(25,(I o0.2.fAt)),(26,(I a1)),(27,(Bo (decide (o0.2.fAt ≥ a1)))),(28,(Bo (decide (o0.2.fAt ≥ a1)))),(29,(Bo (decide (o0.2.fAt ≥ a1))))] Z Z $ u1 (fun hc=>?_) fun hc=>?_
      ·rw [hc]
       exact i7 Z
      ·rw [hc]
       refine rd 21 [(30,(V.ptr 6 0 2)),(31,(I o0.2.fBytes)),(32,(Bo (decide (o0.2.fBytes < 1)))),(33,(Bo (decide (o0.2.fBytes < 1)))),(34,(Bo (decide (o0.2.fBytes < 1))))] Z Z $ u1 (fun hc=>?_) fun hc=>?_
       ·rw [hc]
        exact i7 Z
       ·rw [hc]
        exact i7 Z
   refine kc Z Z (fun hc=>?_) fun hc=>?_
   ·rw [hc]
    refine et d8 $ kr (mt (Z2 [])) Z $ et L6 $ et w6 $ et x9 $ et (hret _) ?_
    rfl
   ·rw [hc]
    refine et l7 $ kg Eo Z (fun (o2:Bool)=>(mt [(0,(c8 a0)),(1,(I a1)),(7,(c8 a0)),(8,(I (a0.length:Int))),(9,(I x8)),(47,(Bo o2))])) (rd 2 [(43,(c8 a0)),(44,(I o0.1))] Z Z $ rp Z (rn (e:=j3) Z Z Z Z Z Z underlying50 Z (by decide)) fun v1=>bd 4 [(45,(c8 v1)),(46,(V.fn 103 [] [(Pt 6)]))] Z Z $ rs Z (j9 Z Z Z Z Z (bJ k v1 (fun j x0=>(Q4 j x0 o0.2)) 103 (j3 o0.2) (fun j x0=>(iQ j x0 o0.2))) (.inr (fun _=>rfl))) fun v2=>b6 Z) fun o2=>kcl Z Z (fun hc=>?_) fun hc=>?_
    ·rw [hc]
     refine kr (mt (Z2 [])) Z $ et l5 $ et w6 $ et x9 $ et (hret _) ?_
     rfl
    ·rw [hc]
     exact et w9 $ et j8 $ kl (mt [(0,(c8 a0)),(1,(I a1)),(7,(c8 a0)),(8,(I (a0.length:Int))),(9,(I (sqW (x8+1))))]) Z $ et j7 $ ih (sqW (x8+1))
  ·rw [hc]
   exact et C7 $ et s6 $ hK0 x8
theorem lf (k:Nat) (a0:(List b8)) (a1:Int):EV k 83 [(c8 a0),(I a1)]=(V9 k a0 a1).map Z9:=by
 cases k with
 | zero=>rfl
 | succ k=>
  unfold V9
  refine et (l8 (c:=f83c) (N:=52) (regs:=Fw) Z func83 Z (by decide) Z Z Z) $ kra [] Z $ et d8 $ krp El Z (mt [(0,(c8 a0)),(1,(I a1)),(7,(c8 a0)),(8,(I (a0.length:Int))),(9,(I 0))]) ?_ ?_
  ·exact rd 1 [(7,(c8 a0))] Z Z $ rl Z (w7 (e:=j3) Z Z Z Z Z Z underlying50) $ b6 Z
  refine et (l6 Z) $ et B3 ?_
  refine ib k a0 a1 _ _ ?h_dbd_areFields_L1_0 ?hr_dbd_areFields_L1 k 0
  ·intro y0
   refine et s5 $ krp Ep Z (mt [(4,(Bo (decide ((a0.length:Int)≤5))))]) ?_ ?_
   ·exact rd 1 [(49,(c8 a0))] Z Z $ rl Z (w7 (e:=j3) Z Z Z Z Z Z underlying50) $ b6 Z
   refine et l5 ?_
   rfl
  ·intro s; exact rfl
def nv:Bool→V×List V:=fun r=>((Bo r),[])
theorem oS (k:Nat) (a0:a7):EV k 56 [(d9 a0)]=(ct k a0).map nv:=by
 cases k with
 | zero=>rfl
 | succ k=>
  unfold ct
  refine et (l8 (c:=f56c) (N:=70) (regs:=Gu) Z func56 Z (by decide) Z Z Z) $ kr ⟨[(1,(Pt 1))],[(1,vS 8 (d9 a0))],70⟩ rfl $ et (l6 Z) $ kga DK Z (fun (o3:Bool)=>[(3,(Bo o3))]) ?_ fun o3=>?_
  ·refine rd 2 [(4,(Pt 1)),(5,(Sr a0.fName))] Z Z $ rp Z (j9 Z Z Z Z Z (V8 k a0.fName) (.inl Z)) fun v1=>bd 5 [(6,(Bo v1)),(7,(Bo (!v1))),(8,(Bo (!v1)))] Z Z $ u1 (fun hc=>?_) fun hc=>?_
   ·rw [hc]
    exact i7 Z
   ·rw [hc]
    refine rd 10 [(9,(V.ptr 1 0 2)),(10,(I a0.fMin)),(11,(Bo (decide (a0.fMin < 1)))),(12,(Bo (decide (a0.fMin < 1)))),(13,(Bo (decide (a0.fMin < 1))))] Z Z $ u1 (fun hc=>?_) fun hc=>?_
    ·rw [hc]
     exact i7 Z
    ·rw [hc]
     refine rd 17 [(14,(V.ptr 1 0 2)),(15,(I a0.fMin)),(16,(V.ptr 1 0 3)),(17,(I a0.fSize)),(18,(Bo (decide (a0.fMin > a0.fSize)))),(19,(Bo (decide (a0.fMin > a0.fSize)))),(20,(Bo (decide (a0.fMin > a0.fSize))))] Z Z $ u1 (fun hc=>?_) fun hc=>?_
     ·rw [hc]
      exact i7 Z
     ·rw [hc]
      refine rd 22 [(21,(V.ptr 1 0 3)),(22,(I a0.fSize)),(23,(Bo (decide (a0.fSize > 40)))),(24,(Bo (decide (a0.fSize > 40)))),(25,(Bo (decide (a0.fSize > 40))))] Z Z $ u1 (fun hc=>?_) fun hc=>?_
      ·rw [hc]
       exact i7 Z
      ·rw [hc]
       exact rd 26 [(26,(V.ptr 1 0 4)),(27,(c8 a0.fFields)),(28,(V.ptr 1 0 3)),(29,(I a0.fSize))] Z Z $ rp Z (j9 Z Z Z Z Z (lf k a0.fFields a0.fSize) (.inl Z)) fun v2=>b6 Z
  refine kcl Z Z (fun hc=>?_) fun hc=>?_
  ·rw [hc]
   refine kr (wJ (az [])) Z $ et l5 $ et w6 ?_
   rfl
  ·rw [hc]
   refine kr ⟨[(1,(Pt 1)),(33,(Bo (a0.fKey == (-1))))],[(1,vS 8 (d9 a0))],70⟩ rfl $ kcl Z Z (fun hc=>?_) fun hc=>?_
   ·rw [hc]
    refine kr (wJ [(2,(Bo (!a0.fUnique)))]) Z $ et l5 $ et w6 ?_
    rfl
   ·rw [hc]
    refine kg DL Z (fun (o4:Bool)=>⟨[(1,(Pt 1)),(40,(Bo o4))],[(1,vS 8 (d9 a0))],70⟩) ?_ fun o4=>?_
    ·refine rd 4 [(41,(V.ptr 1 0 5)),(42,(I a0.fKey)),(43,(Bo (decide (a0.fKey < 0)))),(44,(Bo (decide (a0.fKey < 0))))] Z Z $ u1 (fun hc=>?_) fun hc=>?_
     ·rw [hc]
      exact i7 Z
     ·rw [hc]
      exact rd 8 [(45,(V.ptr 1 0 5)),(46,(I a0.fKey)),(47,(V.ptr 1 0 4)),(48,(c8 a0.fFields))] Z Z $ rl Z (w7 (e:=j3) Z Z Z Z Z Z underlying50) $ b6 Z
    refine kcl Z Z (fun hc=>?_) fun hc=>?_
    ·rw [hc]
     refine kr (wJ (az [])) Z $ et l5 $ et w6 ?_
     rfl
    ·rw [hc]
     refine et w9 $ et j8 $ kd DM Z (fun (o7:Bool)=>(wJ [(2,(Bo o7))])) (et (k0 (p:=19) (dk:=true) (t:=[(1,(Pt 1)),(40,(Bo false))]) (σ:=[(1,vS 8 (d9 a0))]) (n:=70) Z (by decide) (by decide) Z) $ et (l9 (m:=4) (j:=4) (t':=[(1,(Pt 1)),(40,(Bo false)),(52,(V.ptr 1 0 4)),(53,(c8 a0.fFields)),(54,(V.ptr 1 0 5)),(55,(I a0.fKey))]) Z Z Z) $ et (b4 (x:=(idx a0.fFields a0.fKey)) (w:=fun v5=>(Pr (j3 v5))) Z Z Z Z Z (j6 (e:=j3) Z Z Z underlying50 Z (by decide))) $ j2 fun v5=>et (b9 (m:=6) (j:=11) (t':=[(1,(Pt 1)),(40,(Bo false)),(52,(V.ptr 1 0 4)),(53,(c8 a0.fFields)),(54,(V.ptr 1 0 5)),(55,(I a0.fKey)),(56,(Pr (j3 v5))),(57,(Pr (I v5.fAt))),(58,(I v5.fAt)),(59,(V.ptr 1 0 4)),(60,(c8 a0.fFields)),(61,(V.ptr 1 0 5)),(62,(I a0.fKey))]) Z Z Z) $ et (b4 (x:=(idx a0.fFields a0.fKey)) (w:=fun v6=>(Pr (j3 v6))) Z Z Z Z Z (j6 (e:=j3) Z Z Z underlying50 Z (by decide))) $ j2 fun v6=>s7 Z) fun o7=>et l5 ?_
     rfl
def N0:Int→V×List V:=fun r=>((I r),[])
theorem cd (k:Nat) (a0:(List a7)) (a1:Nat→a7→Option Bool) (a1_fid:Go.FuncId) (a1_c0:V) (a1_hok:∀ j x0,EV j a1_fid [(d9 x0),V.pro a1_c0]=(a1 j x0).map fun b=>((Bo b),[])) (K0:Int→Option Int) (Kst:X×St→Option (V×List V)) (hK0:∀ (y0:Int),Kst (X.exit 0,(H8 [(0,(d4 a0)),(1,(V.fn a1_fid [] [V.pro a1_c0])),(7,(I (a0.length:Int))),(8,(I y0)),(9,(Bo false))]))=(K0 y0).map N0) (hret:∀ s,Kst (X.ret,s)=R6 prog 19 [(d4 a0),(V.fn a1_fid [] [V.pro a1_c0])] [] [.tmp 4] (X.ret,s)):
  ∀ (m:Nat) (x4:Int),(M9 (D0 prog (EV k) Fu k Ec) m (H8 [(0,(d4 a0)),(1,(V.fn a1_fid [] [V.pro a1_c0])),(7,(I (a0.length:Int))),(8,(I x4))])).bind Kst=(F3 k a0 a1 K0 m x4).map N0:=by
 intro m
 induction m with
 | zero=>intros; rfl
 | succ m ih=>
  intro x4
  unfold F3
  refine et A5 $ kra [(9,(Bo (decide (x4 < (a0.length:Int)))))] Z $ kc Z Z (fun hc=>?_) fun hc=>?_
  ·rw [hc]
   refine et l7 $ et (l6 Z) $ kr (H8 [(0,(d4 a0)),(1,(V.fn a1_fid [] [V.pro a1_c0])),(5,(I x4)),(7,(I (a0.length:Int))),(8,(I x4))]) Z $ kga Eb Z (fun (o7:Bool)=>[(16,(Bo o7))]) (rd 3 [(11,(V.fn a1_fid [] [V.pro a1_c0])),(12,(d4 a0)),(13,(I x4))] Z Z $ rp Z (j6 (e:=d9) Z Z Z underlying23 Z (by decide)) fun v5=>bd 5 [(14,(Pr (d9 v5))),(15,(d9 v5))] Z Z $ rs Z (j9 Z Z Z Z Z (a1_hok k v5) (.inl Z)) fun v6=>b6 Z) fun o7=>kcl Z Z (fun hc=>?_) fun hc=>?_
   ·rw [hc]
    refine kr (H8 [(4,(I x4))]) Z $ et l5 $ et w6 $ et x9 $ et (hret _) ?_
    rfl
   ·rw [hc]
    exact et w9 $ et j8 $ kl (H8 [(0,(d4 a0)),(1,(V.fn a1_fid [] [V.pro a1_c0])),(7,(I (a0.length:Int))),(8,(I (sqW (x4+1))))]) Z $ et j7 $ ih (sqW (x4+1))
  ·rw [hc]
   exact et C7 $ et s6 $ hK0 x4
theorem O6 (k:Nat) (a0:(List a7)) (a1:Nat→a7→Option Bool) (a1_fid:Go.FuncId) (a1_c0:V) (a1_hok:∀ j x0,EV j a1_fid [(d9 x0),V.pro a1_c0]=(a1 j x0).map fun b=>((Bo b),[])):EV k 72 [(d4 a0),(V.fn a1_fid [] [V.pro a1_c0])]=(B5 k a0 a1).map N0:=by
 cases k with
 | zero=>rfl
 | succ k=>
  unfold B5
  refine et (l8 (c:=f72c) (N:=19) (regs:=Fu) Z func72 Z (by decide) Z Z Z) $ kra [] Z $ et d8 $ krp Ea Z (H8 [(0,(d4 a0)),(1,(V.fn a1_fid [] [V.pro a1_c0])),(7,(I (a0.length:Int))),(8,(I 0))]) ?_ ?_
  ·exact rd 1 [(6,(d4 a0))] Z Z $ rl Z (w7 (e:=d9) Z Z Z Z Z Z underlying23) $ b6 Z
  refine et (l6 Z) $ et B3 ?_
  refine cd k a0 a1 a1_fid a1_c0 a1_hok _ _ ?h_slices_IndexFunc_Type_L1_0 ?hr_slices_IndexFunc_Type_L1 k 0
  ·intro y8
   refine et s5 $ kr (H8 [(4,(I (-1)))]) Z $ et l5 ?_
   rfl
  ·intro s; exact rfl
def bK:Bool→V×List V:=fun r=>((Bo r),[])
theorem ca (k:Nat) (a0:(List a7)) (a1:Nat→a7→Option Bool) (a1_fid:Go.FuncId) (a1_c0:V) (a1_hok:∀ j x0,EV j a1_fid [(d9 x0),V.pro a1_c0]=(a1 j x0).map fun b=>((Bo b),[])):EV k 57 [(d4 a0),(V.fn a1_fid [] [V.pro a1_c0])]=(D1 k a0 a1).map bK:=by
 cases k with
 | zero=>rfl
 | succ k=>
  unfold D1
  refine et (l8 (c:=f57c) (N:=9) (regs:=Gv) Z func57 Z (by decide) Z Z Z) $ kra [] Z $ kg DN Z (fun (o2:Bool)=>(oA [(4,(Bo o2))])) (rd 2 [(5,(d4 a0)),(6,(V.fn a1_fid [] [V.pro a1_c0]))] Z Z $ rp Z (j9 Z Z Z Z Z (O6 k a0 a1 a1_fid a1_c0 a1_hok) (.inl Z)) fun v1=>b6 Z) fun o2=>et l5 ?_
  rfl
def iS:Bool→V×List V:=fun r=>((Bo r),[])
theorem jK (k:Nat) (a0:a7) (a1:a7):EV k 58 [(d9 a0),(Pr (d9 a1))]=(S5 k a0 a1).map iS:=by
 cases k with
 | zero=>rfl
 | succ k=>
  unfold S5
  refine et (l8 (c:=f58c) (N:=9) (regs:=Gw) Z func58 Z (by decide) Z Z Z) $ kr ⟨[(1,(Pr (d9 a1))),(2,(Pt 2))],[(2,vS 8 (d9 a0))],9⟩ rfl $ kr (oA [(3,(Bo (a0.fName == a1.fName)))]) Z $ et l5 ?_
  rfl
def T4:Int→V×List V:=fun r=>((I r),[])
theorem fh (k:Nat) (a0:(List Int)) (a1:Int)  (K0:Int→Option Int) (Kst:X×St→Option (V×List V)) (hK0:∀ (y0:Int),Kst (X.exit 0,(H8 [(0,(sI a0)),(1,(I a1)),(7,(I (a0.length:Int))),(8,(I y0)),(9,(Bo false))]))=(K0 y0).map T4) (hret:∀ s,Kst (X.ret,s)=R6 prog 19 [(sI a0),(I a1)] [] [.tmp 4] (X.ret,s)):
  ∀ (m:Nat) (x3:Int),(M9 (D0 prog (EV k) Ft k DQ) m (H8 [(0,(sI a0)),(1,(I a1)),(7,(I (a0.length:Int))),(8,(I x3))])).bind Kst=(J4 a0 a1 K0 m x3).map T4:=by
 intro m
 induction m with
 | zero=>intros; rfl
 | succ m ih=>
  intro x3
  unfold J4
  refine et A5 $ kra [(9,(Bo (decide (x3 < (a0.length:Int)))))] Z $ kc Z Z (fun hc=>?_) fun hc=>?_
  ·rw [hc]
   refine et l7 $ et (l6 Z) $ kr (H8 [(0,(sI a0)),(1,(I a1)),(5,(I x3)),(7,(I (a0.length:Int))),(8,(I x3))]) Z $ kga DP Z (fun (o5:Bool)=>[(16,(Bo o5))]) (rd 3 [(11,(I a1)),(12,(sI a0)),(13,(I x3))] Z Z $ rp Z (j6 (e:=I) Z Z Z underlying36 Z (by decide)) fun v4=>b6 Z) fun o5=>kcl Z Z (fun hc=>?_) fun hc=>?_
   ·rw [hc]
    refine kr (H8 [(4,(I x3))]) Z $ et l5 $ et w6 $ et x9 $ et (hret _) ?_
    rfl
   ·rw [hc]
    exact et w9 $ et j8 $ kl (H8 [(0,(sI a0)),(1,(I a1)),(7,(I (a0.length:Int))),(8,(I (sqW (x3+1))))]) Z $ et j7 $ ih (sqW (x3+1))
  ·rw [hc]
   exact et C7 $ et s6 $ hK0 x3
theorem iq (k:Nat) (a0:(List Int)) (a1:Int):EV k 59 [(sI a0),(I a1)]=(U7 k a0 a1).map T4:=by
 cases k with
 | zero=>rfl
 | succ k=>
  unfold U7
  refine et (l8 (c:=f59c) (N:=19) (regs:=Ft) Z func59 Z (by decide) Z Z Z) $ kra [] Z $ et d8 $ krp DO Z (H8 [(0,(sI a0)),(1,(I a1)),(7,(I (a0.length:Int))),(8,(I 0))]) ?_ ?_
  ·exact rd 1 [(6,(sI a0))] Z Z $ rl Z (w7 (e:=I) Z Z Z Z Z Z underlying36) $ b6 Z
  refine et (l6 Z) $ et B3 ?_
  refine fh k a0 a1 _ _ ?h_slices_Index_int_L1_0 ?hr_slices_Index_int_L1 k 0
  ·intro y6
   refine et s5 $ kr (H8 [(4,(I (-1)))]) Z $ et l5 ?_
   rfl
  ·intro s; exact rfl
def aI:Bool→V×List V:=fun r=>((Bo r),[])
theorem iT (k:Nat) (a0:(List a7))  (K0:Int→(List Int)→Option Bool) (Kst:X×St→Option (V×List V)) (hK0:∀ (y0:Int) (y1:(List Int)),Kst (X.exit 0,⟨[(0,(d4 a0)),(3,(aL 3 I y1)),(15,(d4 a0)),(16,(I (a0.length:Int))),(17,(I y0)),(18,(Bo false))],[(3,⟨true,1,List.map I y1⟩)],82⟩)=(K0 y0 y1).map aI) (hret:∀ s,Kst (X.ret,s)=R6 prog 82 [(d4 a0)] [] [.tmp 2] (X.ret,s)):
  ∀ (m:Nat) (x1:Int) (x2:(List Int)),(M9 (D0 prog (EV k) Fm k CH) m ⟨[(0,(d4 a0)),(3,(aL 3 I x2)),(15,(d4 a0)),(16,(I (a0.length:Int))),(17,(I x1))],[(3,⟨true,1,List.map I x2⟩)],82⟩).bind Kst=(I9 k a0 K0 m x1 x2).map aI:=by
 intro m
 induction m with
 | zero=>intros; rfl
 | succ m ih=>
  intro x1 x2
  unfold I9
  refine et A5 $ kra [(18,(Bo (decide (x1 < (a0.length:Int)))))] Z $ kc Z Z (fun hc=>?_) fun hc=>?_
  ·rw [hc]
   refine et l7 $ et (l6 Z) $ kg CE Z (fun (o0:Int×a7)=>⟨[(0,(d4 a0)),(3,(aL 3 I x2)),(4,(I o0.1)),(5,(Pt 5)),(15,(d4 a0)),(16,(I (a0.length:Int))),(17,(I x1))],[(3,⟨true,1,List.map I x2⟩),(5,vS 8 (d9 o0.2))],82⟩) (rd 1 [(19,(I x1))] Z Z $ rp Z (j6 (e:=d9) Z Z Z underlying23 Z (by decide)) fun v0=>b6 Z) fun o0=>et d8 $ kga CF Z (fun (o1:Bool)=>[(31,(Bo o1))]) ?_ fun o1=>?_
   ·refine rd 1 [(22,(d9 o0.2))] Z Z $ rp Z (j9 Z Z Z Z Z (oS k o0.2) (.inl Z)) fun v1=>bd 4 [(23,(Bo v1)),(24,(Bo (!v1))),(25,(Bo (!v1)))] Z Z $ u1 (fun hc=>?_) fun hc=>?_
    ·rw [hc]
     exact i7 Z
    ·rw [hc]
     exact rd 6 [(26,(d4 a0)),(27,(I o0.1))] Z Z $ rp Z (rn (e:=d9) Z Z Z Z Z Z underlying23 Z (by decide)) fun v2=>bd 8 [(28,(d4 v2)),(29,(V.fn 58 [] [(Pt 5)]))] Z Z $ rs Z (j9 Z Z Z Z Z (ca k v2 (fun j x0=>(S5 j x0 o0.2)) 58 (d9 o0.2) (fun j x0=>(jK j x0 o0.2))) (.inr (fun _=>rfl))) fun v3=>b6 Z
   refine kc Z Z (fun hc=>?_) fun hc=>?_
   ·rw [hc]
    refine et d8 $ kr (tl (az [])) Z $ et L6 $ et w6 $ et x9 $ et (hret _) ?_
    rfl
   ·rw [hc]
    refine et l7 $ kg CG Z (fun (o2:Int)=>⟨[(0,(d4 a0)),(3,(aL 3 I x2)),(4,(I o0.1)),(5,(Pt 5)),(6,(I o2)),(15,(d4 a0)),(16,(I (a0.length:Int))),(17,(I x1))],[(3,⟨true,1,List.map I x2⟩),(5,vS 8 (d9 o0.2))],82⟩) (rd 3 [(32,(aL 3 I x2)),(33,(V.ptr 5 0 1)),(34,(I o0.2.fParent))] Z Z $ rs Z (j9 Z Z Z Z (pi (Hd (e:=I) Z) (by intro s i q h; cases h) (pi Z (by intro s i q h; cases h) Z)) (iq k x2 o0.2.fParent) (.inr (fun _=>rfl))) fun v4=>b6 Z) fun o2=>et d8 $ kg yO Z (fun (o3:Bool)=>⟨[(0,(d4 a0)),(3,(aL 3 I x2)),(4,(I o0.1)),(6,(I o2)),(15,(d4 a0)),(16,(I (a0.length:Int))),(17,(I x1)),(70,(Bo o3))],[(3,⟨true,1,List.map I x2⟩)],82⟩) ?_ fun o3=>?_
    ·refine rd 3 [(36,(I o0.1)),(37,(Bo (o0.1 == 0))),(38,(Bo (o0.1 == 0)))] Z Z $ u1 (fun hc=>?_) fun hc=>?_
     ·rw [hc]
      refine rd 7 [(39,(V.ptr 5 0 1)),(40,(I o0.2.fParent)),(41,(Bo (o0.2.fParent != (-1)))),(42,(Bo (o0.2.fParent != (-1))))] Z Z $ u1 (fun hc=>?_) fun hc=>?_
      ·rw [hc]
       exact i7 Z
      ·rw [hc]
       refine rd 12 [(43,(V.ptr 5 0 5)),(44,(I o0.2.fKey)),(45,(Bo (decide (o0.2.fKey < 0)))),(46,(Bo (decide (o0.2.fKey < 0)))),(47,(Bo (decide (o0.2.fKey < 0))))] Z Z $ u1 (fun hc=>?_) fun hc=>?_
       ·rw [hc]
        exact i7 Z
       ·rw [hc]
        refine rd 17 [(48,(V.ptr 5 0 6)),(49,(Bo o0.2.fUnique)),(50,(Bo (!o0.2.fUnique))),(51,(Bo (!o0.2.fUnique))),(52,(Bo (!o0.2.fUnique)))] Z Z $ u1 (fun hc=>?_) fun hc=>?_
        ·rw [hc]
         exact i7 Z
        ·rw [hc]
         refine rd 21 [(53,(V.ptr 5 0 4)),(54,(c8 o0.2.fFields)),(55,(V.ptr 5 0 5)),(56,(I o0.2.fKey))] Z Z $ rp Z (j6 (e:=j3) Z Z Z underlying50 Z (by decide)) fun v5=>bd 28 [(57,(Pr (j3 v5))),(58,(Pr (I v5.fBytes))),(59,(I v5.fBytes)),(60,(Bo (decide (v5.fBytes > 24)))),(61,(Bo (decide (v5.fBytes > 24)))),(62,(Bo (decide (v5.fBytes > 24)))),(63,(Bo (decide (v5.fBytes > 24))))] Z Z $ u1 (fun hc=>?_) fun hc=>?_
         ·rw [hc]
          exact i7 Z
         ·rw [hc]
          refine rd 31 [(64,(I o0.1)),(65,(Bo (decide (o0.1 > 0)))),(66,(Bo (decide (o0.1 > 0))))] Z Z $ u1 (fun hc=>?_) fun hc=>?_
          ·rw [hc]
           exact i7 Z
          ·rw [hc]
           exact i7 Z
     ·rw [hc]
      refine rd 31 [(39,(V.tup [])),(40,(V.tup [])),(41,(V.tup [])),(42,(V.tup [])),(43,(V.tup [])),(44,(V.tup [])),(45,(V.tup [])),(46,(V.tup [])),(47,(V.tup [])),(48,(V.tup [])),(49,(V.tup [])),(50,(V.tup [])),(51,(V.tup [])),(52,(V.tup [])),(53,(V.tup [])),(54,(V.tup [])),(55,(V.tup [])),(56,(V.tup [])),(57,(V.tup [])),(58,(V.tup [])),(59,(V.tup [])),(60,(V.tup [])),(61,(V.tup [])),(62,(Bo false)),(63,(Bo false)),(64,(I o0.1)),(65,(Bo (decide (o0.1 > 0)))),(66,(Bo (decide (o0.1 > 0))))] Z Z $ u1 (fun hc=>?_) fun hc=>?_
      ·rw [hc]
       exact i7 Z
      ·rw [hc]
       exact i7 Z
    refine kc Z Z (fun hc=>?_) fun hc=>?_
    ·rw [hc]
     refine et d8 $ kr (tl (az [])) Z $ et L6 $ et w6 $ et x9 $ et (hret _) ?_
     rfl
    ·rw [hc]
     refine et l7 $ kg yP Z (fun (o4:(List Int))=>⟨[(0,(d4 a0)),(3,(aL 3 I o4)),(15,(d4 a0)),(16,(I (a0.length:Int))),(17,(I x1))],[(3,⟨true,1,List.map I o4⟩)],82⟩) (rd 3 [(71,(aL 3 I x2)),(72,(I o2)),(73,(I (sqW (o2+1))))] Z Z $ rx Z (zQ (e:=I) Z Z Z underlying36 (by decide)) fun v6 hv27=>bd 6 [(74,(V.aref 3 0 v6)),(75,(I o0.1)),(76,(sI (([o0.1]:List Int))))] Z Z $ et (B2 (x:=(app (List.take v6 x2) ([o0.1]:List Int))) (w:=fun v7=>((aL 3 I v7),_)) Z Z Z Z (zM (e:=I) (l:=x2) Z Z Z Z Z Z Z Z Z Z Z (Bq hv27) (of_decide_eq_true Z))) $ u7 fun v7=>b6 Z) fun o4=>krp yQ Z ⟨[(0,(d4 a0)),(3,(aL 3 I o4)),(15,(d4 a0)),(16,(I (a0.length:Int))),(17,(I x1)),(80,(Bo (decide ((o4.length:Int) > 5))))],[(3,⟨true,1,List.map I o4⟩)],82⟩ ?_ ?_
     ·exact rd 1 [(78,(aL 3 I o4))] Z Z $ rl Z (uM (e:=I) Z Z Z Z Z Z underlying36) $ b6 Z
     refine kcl Z Z (fun hc=>?_) fun hc=>?_
     ·rw [hc]
      refine kr (tl (az [])) Z $ et l5 $ et w6 $ et x9 $ et (hret _) ?_
      rfl
     ·rw [hc]
      exact et w9 $ et j8 $ kl ⟨[(0,(d4 a0)),(3,(aL 3 I o4)),(15,(d4 a0)),(16,(I (a0.length:Int))),(17,(I (sqW (x1+1))))],[(3,⟨true,1,List.map I o4⟩)],82⟩ rfl $ et j7 $ ih (sqW (x1+1)) o4
  ·rw [hc]
   exact et C7 $ et s6 $ hK0 x1 x2
theorem mG (k:Nat) (a0:(List a7)):EV k 32 [(d4 a0)]=(ac k a0).map aI:=by
 cases k with
 | zero=>rfl
 | succ k=>
  unfold ac
  refine et (l8 (c:=f32c) (N:=82) (regs:=Fm) Z func32 Z (by decide) Z Z Z) $ kra [] Z $ et d8 $ kga CC Z (fun (o1:Bool)=>[(14,(Bo o1))]) ?_ fun o1=>?_
  ·refine rd 1 [(7,(d4 a0))] Z Z $ rl Z (w7 (e:=d9) Z Z Z Z Z Z underlying23) $ bd 4 [(8,(I (a0.length:Int))),(9,(Bo (decide ((a0.length:Int) < 1)))),(10,(Bo (decide ((a0.length:Int) < 1))))] Z Z $ u1 (fun hc=>?_) fun hc=>?_
   ·rw [hc]
    exact i7 Z
   ·rw [hc]
    exact rd 5 [(11,(d4 a0))] Z Z $ rl Z (w7 (e:=d9) Z Z Z Z Z Z underlying23) $ b6 Z
  refine kc Z Z (fun hc=>?_) fun hc=>?_
  ·rw [hc]
   refine et d8 $ kr (tl (az [])) Z $ et L6 ?_
   rfl
  ·rw [hc]
   refine et l7 $ kr ⟨[(0,(d4 a0)),(3,(aL 3 I ([]:List Int)))],[(3,⟨true,1,List.map I ([]:List Int)⟩)],82⟩ rfl $ et d8 $ krp CD Z ⟨[(0,(d4 a0)),(3,(aL 3 I ([]:List Int))),(15,(d4 a0)),(16,(I (a0.length:Int))),(17,(I 0))],[(3,⟨true,1,List.map I ([]:List Int)⟩)],82⟩ ?_ ?_
   ·exact rd 1 [(15,(d4 a0))] Z Z $ rl Z (w7 (e:=d9) Z Z Z Z Z Z underlying23) $ b6 Z
   refine et (l6 Z) $ et B3 ?_
   refine iT k a0 _ _ ?h_dbd_areTypes_L1_0 ?hr_dbd_areTypes_L1 k 0 ([]:List Int)
   ·intro y0 y1
    refine et s5 $ kr (tl [(2,(Bo true))]) Z $ et l5 ?_
    rfl
   ·intro s; exact rfl
def J7:Int→V×List V:=fun r=>((I r),[])
theorem bu (k:Nat) (a0:(List a8)) (a1:Nat→a8→Option Bool) (a1_fid:Go.FuncId) (a1_c0:V) (a1_hok:∀ j x0,EV j a1_fid [(d7 x0),V.pro a1_c0]=(a1 j x0).map fun b=>((Bo b),[])) (K0:Int→Option Int) (Kst:X×St→Option (V×List V)) (hK0:∀ (y0:Int),Kst (X.exit 0,(H8 [(0,(i8 a0)),(1,(V.fn a1_fid [] [V.pro a1_c0])),(7,(I (a0.length:Int))),(8,(I y0)),(9,(Bo false))]))=(K0 y0).map J7) (hret:∀ s,Kst (X.ret,s)=R6 prog 19 [(i8 a0),(V.fn a1_fid [] [V.pro a1_c0])] [] [.tmp 4] (X.ret,s)):
  ∀ (m:Nat) (x4:Int),(M9 (D0 prog (EV k) Fx k Eu) m (H8 [(0,(i8 a0)),(1,(V.fn a1_fid [] [V.pro a1_c0])),(7,(I (a0.length:Int))),(8,(I x4))])).bind Kst=(D9 k a0 a1 K0 m x4).map J7:=by
 intro m
 induction m with
 | zero=>intros; rfl
 | succ m ih=>
  intro x4
  unfold D9
  refine et A5 $ kra [(9,(Bo (decide (x4 < (a0.length:Int)))))] Z $ kc Z Z (fun hc=>?_) fun hc=>?_
  ·rw [hc]
   refine et l7 $ et (l6 Z) $ kr (H8 [(0,(i8 a0)),(1,(V.fn a1_fid [] [V.pro a1_c0])),(5,(I x4)),(7,(I (a0.length:Int))),(8,(I x4))]) Z $ kga Et Z (fun (o7:Bool)=>[(16,(Bo o7))]) (rd 3 [(11,(V.fn a1_fid [] [V.pro a1_c0])),(12,(i8 a0)),(13,(I x4))] Z Z $ rp Z (j6 (e:=d7) Z Z Z underlying24 Z (by decide)) fun v5=>bd 5 [(14,(Pr (d7 v5))),(15,(d7 v5))] Z Z $ rs Z (j9 Z Z Z Z Z (a1_hok k v5) (.inl Z)) fun v6=>b6 Z) fun o7=>kcl Z Z (fun hc=>?_) fun hc=>?_
   ·rw [hc]
    refine kr (H8 [(4,(I x4))]) Z $ et l5 $ et w6 $ et x9 $ et (hret _) ?_
    rfl
   ·rw [hc]
    exact et w9 $ et j8 $ kl (H8 [(0,(i8 a0)),(1,(V.fn a1_fid [] [V.pro a1_c0])),(7,(I (a0.length:Int))),(8,(I (sqW (x4+1))))]) Z $ et j7 $ ih (sqW (x4+1))
  ·rw [hc]
   exact et C7 $ et s6 $ hK0 x4
theorem cP (k:Nat) (a0:(List a8)) (a1:Nat→a8→Option Bool) (a1_fid:Go.FuncId) (a1_c0:V) (a1_hok:∀ j x0,EV j a1_fid [(d7 x0),V.pro a1_c0]=(a1 j x0).map fun b=>((Bo b),[])):EV k 84 [(i8 a0),(V.fn a1_fid [] [V.pro a1_c0])]=(I8 k a0 a1).map J7:=by
 cases k with
 | zero=>rfl
 | succ k=>
  unfold I8
  refine et (l8 (c:=f84c) (N:=19) (regs:=Fx) Z func84 Z (by decide) Z Z Z) $ kra [] Z $ et d8 $ krp Es Z (H8 [(0,(i8 a0)),(1,(V.fn a1_fid [] [V.pro a1_c0])),(7,(I (a0.length:Int))),(8,(I 0))]) ?_ ?_
  ·exact rd 1 [(6,(i8 a0))] Z Z $ rl Z (w7 (e:=d7) Z Z Z Z Z Z underlying24) $ b6 Z
  refine et (l6 Z) $ et B3 ?_
  refine bu k a0 a1 a1_fid a1_c0 a1_hok _ _ ?h_slices_IndexFunc_Search_L1_0 ?hr_slices_IndexFunc_Search_L1 k 0
  ·intro y8
   refine et s5 $ kr (H8 [(4,(I (-1)))]) Z $ et l5 ?_
   rfl
  ·intro s; exact rfl
def aS:Bool→V×List V:=fun r=>((Bo r),[])
theorem bt (k:Nat) (a0:(List a8)) (a1:Nat→a8→Option Bool) (a1_fid:Go.FuncId) (a1_c0:V) (a1_hok:∀ j x0,EV j a1_fid [(d7 x0),V.pro a1_c0]=(a1 j x0).map fun b=>((Bo b),[])):EV k 60 [(i8 a0),(V.fn a1_fid [] [V.pro a1_c0])]=(C0 k a0 a1).map aS:=by
 cases k with
 | zero=>rfl
 | succ k=>
  unfold C0
  refine et (l8 (c:=f60c) (N:=9) (regs:=GA) Z func60 Z (by decide) Z Z Z) $ kra [] Z $ kg DR Z (fun (o2:Bool)=>(oA [(4,(Bo o2))])) (rd 2 [(5,(i8 a0)),(6,(V.fn a1_fid [] [V.pro a1_c0]))] Z Z $ rp Z (j9 Z Z Z Z Z (cP k a0 a1 a1_fid a1_c0 a1_hok) (.inl Z)) fun v1=>b6 Z) fun o2=>et l5 ?_
  rfl
def gb:Bool→V×List V:=fun r=>((Bo r),[])
theorem ic (k:Nat) (a0:a8) (a1:a8):EV k 61 [(d7 a0),(Pr (d7 a1))]=(P1 k a0 a1).map gb:=by
 cases k with
 | zero=>rfl
 | succ k=>
  unfold P1
  refine et (l8 (c:=f61c) (N:=9) (regs:=GB) Z func61 Z (by decide) Z Z Z) $ kr ⟨[(1,(Pr (d7 a1))),(2,(Pt 2))],[(2,vS 4 (d7 a0))],9⟩ rfl $ kr (oA [(3,(Bo (a0.fName == a1.fName)))]) Z $ et l5 ?_
  rfl
def X2:Bool→V×List V:=fun r=>((Bo r),[])
theorem gd (k:Nat) (a0:(List a8)) (a1:(List a7))  (K0:Int→Option Bool) (Kst:X×St→Option (V×List V)) (hK0:∀ (y0:Int),Kst (X.exit 0,(mu [(0,(i8 a0)),(1,(d4 a1)),(8,(i8 a0)),(9,(I (a0.length:Int))),(10,(I y0)),(11,(Bo false))]))=(K0 y0).map X2) (hret:∀ s,Kst (X.ret,s)=R6 prog 73 [(i8 a0),(d4 a1)] [] [.tmp 4] (X.ret,s)):
  ∀ (m:Nat) (x1:Int),(M9 (D0 prog (EV k) Fn k CN) m (mu [(0,(i8 a0)),(1,(d4 a1)),(8,(i8 a0)),(9,(I (a0.length:Int))),(10,(I x1))])).bind Kst=(G0 k a0 a1 K0 m x1).map X2:=by
 intro m
 induction m with
 | zero=>intros; rfl
 | succ m ih=>
  intro x1
  unfold G0
  refine et A5 $ kra [(11,(Bo (decide (x1 < (a0.length:Int)))))] Z $ kc Z Z (fun hc=>?_) fun hc=>?_
  ·rw [hc]
   refine et l7 $ et (l6 Z) $ kg CJ Z (fun (o0:Int×a8)=>⟨[(0,(i8 a0)),(1,(d4 a1)),(5,(I o0.1)),(6,(Pt 6)),(8,(i8 a0)),(9,(I (a0.length:Int))),(10,(I x1))],[(6,vS 4 (d7 o0.2))],73⟩) (rd 1 [(12,(I x1))] Z Z $ rp Z (j6 (e:=d7) Z Z Z underlying24 Z (by decide)) fun v0=>b6 Z) fun o0=>et d8 $ kg CK Z (fun (o1:Bool)=>⟨[(0,(i8 a0)),(1,(d4 a1)),(6,(Pt 6)),(8,(i8 a0)),(9,(I (a0.length:Int))),(10,(I x1)),(43,(Bo o1))],[(6,vS 4 (d7 o0.2))],73⟩) ?_ fun o1=>?_
   ·refine rd 2 [(15,(Pt 6)),(16,(Sr o0.2.fName))] Z Z $ rp Z (j9 Z Z Z Z Z (V8 k o0.2.fName) (.inl Z)) fun v1=>bd 5 [(17,(Bo v1)),(18,(Bo (!v1))),(19,(Bo (!v1)))] Z Z $ u1 (fun hc=>?_) fun hc=>?_
    ·rw [hc]
     exact i7 Z
    ·rw [hc]
     refine rd 10 [(20,(V.ptr 6 0 1)),(21,(I o0.2.fType)),(22,(Bo (decide (o0.2.fType < 0)))),(23,(Bo (decide (o0.2.fType < 0)))),(24,(Bo (decide (o0.2.fType < 0))))] Z Z $ u1 (fun hc=>?_) fun hc=>?_
     ·rw [hc]
      exact i7 Z
     ·rw [hc]
      refine rd 13 [(25,(V.ptr 6 0 1)),(26,(I o0.2.fType)),(27,(d4 a1))] Z Z $ rl Z (w7 (e:=d9) Z Z Z Z Z Z underlying23) $ bd 17 (ES (a1.length:Int) (decide (o0.2.fType ≥ (a1.length:Int))) []) Z Z $ u1 (fun hc=>?_) fun hc=>?_
      ·rw [hc]
       exact i7 Z
      ·rw [hc]
       refine rd 23 [(32,(V.ptr 6 0 3)),(33,(Sr o0.2.fSparse)),(34,(I (o0.2.fSparse.length:Int))),(35,(Bo (decide ((o0.2.fSparse.length:Int) > 1)))),(36,(Bo (decide ((o0.2.fSparse.length:Int) > 1)))),(37,(Bo (decide ((o0.2.fSparse.length:Int) > 1))))] Z Z $ u1 (fun hc=>?_) fun hc=>?_
       ·rw [hc]
        exact i7 Z
       ·rw [hc]
        exact rd 25 [(38,(i8 a0)),(39,(I o0.1))] Z Z $ rp Z (rn (e:=d7) Z Z Z Z Z Z underlying24 Z (by decide)) fun v2=>bd 27 [(40,(i8 v2)),(41,(V.fn 61 [] [(Pt 6)]))] Z Z $ rs Z (j9 Z Z Z Z Z (bt k v2 (fun j x0=>(P1 j x0 o0.2)) 61 (d7 o0.2) (fun j x0=>(ic j x0 o0.2))) (.inr (fun _=>rfl))) fun v3=>b6 Z
   refine kc Z Z (fun hc=>?_) fun hc=>?_
   ·rw [hc]
    refine et d8 $ kr (mu (Z2 [])) Z $ et L6 $ et w6 $ et x9 $ et (hret _) ?_
    rfl
   ·rw [hc]
    refine et l7 $ kg CL Z (fun (o2:(List b8))=>⟨[(0,(i8 a0)),(1,(d4 a1)),(6,(Pt 6)),(7,(c8 o2)),(8,(i8 a0)),(9,(I (a0.length:Int))),(10,(I x1))],[(6,vS 4 (d7 o0.2))],73⟩) (rd 3 [(44,(d4 a1)),(45,(V.ptr 6 0 1)),(46,(I o0.2.fType))] Z Z $ rp Z (j6 (e:=d9) Z Z Z underlying23 Z (by decide)) fun v4=>b6 Z) fun o2=>kg CM Z (fun (o3:Bool)=>(mu [(0,(i8 a0)),(1,(d4 a1)),(8,(i8 a0)),(9,(I (a0.length:Int))),(10,(I x1)),(68,(Bo o3))])) ?_ fun o3=>?_
    ·refine rd 4 [(50,(V.ptr 6 0 2)),(51,(I o0.2.fField)),(52,(Bo (decide (o0.2.fField < 0)))),(53,(Bo (decide (o0.2.fField < 0))))] Z Z $ u1 (fun hc=>?_) fun hc=>?_
     ·rw [hc]
      exact i7 Z
     ·rw [hc]
      refine rd 7 [(54,(V.ptr 6 0 2)),(55,(I o0.2.fField)),(56,(c8 o2))] Z Z $ rl Z (w7 (e:=j3) Z Z Z Z Z Z underlying50) $ bd 11 [(57,(I (o2.length:Int))),(58,(Bo (decide (o0.2.fField ≥ (o2.length:Int))))),(59,(Bo (decide (o0.2.fField ≥ (o2.length:Int))))),(60,(Bo (decide (o0.2.fField ≥ (o2.length:Int)))))] Z Z $ u1 (fun hc=>?_) fun hc=>?_
      ·rw [hc]
       exact i7 Z
      ·rw [hc]
       exact rd 14 [(61,(c8 o2)),(62,(V.ptr 6 0 2)),(63,(I o0.2.fField))] Z Z $ rp Z (j6 (e:=j3) Z Z Z underlying50 Z (by decide)) fun v5=>b6 Z
    refine kcl Z Z (fun hc=>?_) fun hc=>?_
    ·rw [hc]
     refine kr (mu (Z2 [])) Z $ et l5 $ et w6 $ et x9 $ et (hret _) ?_
     rfl
    ·rw [hc]
     exact et w9 $ et j8 $ kl (mu [(0,(i8 a0)),(1,(d4 a1)),(8,(i8 a0)),(9,(I (a0.length:Int))),(10,(I (sqW (x1+1))))]) Z $ et j7 $ ih (sqW (x1+1))
  ·rw [hc]
   exact et C7 $ et s6 $ hK0 x1
theorem jJ (k:Nat) (a0:(List a8)) (a1:(List a7)):EV k 33 [(i8 a0),(d4 a1)]=(S4 k a0 a1).map X2:=by
 cases k with
 | zero=>rfl
 | succ k=>
  unfold S4
  refine et (l8 (c:=f33c) (N:=73) (regs:=Fn) Z func33 Z (by decide) Z Z Z) $ kra [] Z $ et d8 $ krp CI Z (mu [(0,(i8 a0)),(1,(d4 a1)),(8,(i8 a0)),(9,(I (a0.length:Int))),(10,(I 0))]) ?_ ?_
  ·exact rd 1 [(8,(i8 a0))] Z Z $ rl Z (w7 (e:=d7) Z Z Z Z Z Z underlying24) $ b6 Z
  refine et (l6 Z) $ et B3 ?_
  refine gd k a0 a1 _ _ ?h_dbd_areIndexes_L1_0 ?hr_dbd_areIndexes_L1 k 0
  ·intro y0
   refine et s5 $ krp yR Z (mu [(4,(Bo (decide ((a0.length:Int)≤3))))]) ?_ ?_
   ·exact rd 1 [(70,(i8 a0))] Z Z $ rl Z (w7 (e:=d7) Z Z Z Z Z Z underlying24) $ b6 Z
   refine et l5 ?_
   rfl
  ·intro s; exact rfl
def oQ:Bool→V×List V:=fun r=>((Bo r),[])
theorem eF (k:Nat) (a0:a6):EV k 14 [(j5 a0)]=(Y3 k a0).map oQ:=by
 cases k with
 | zero=>rfl
 | succ k=>
  unfold Y3
  refine et (l8 (c:=f14c) (N:=28) (regs:=Ga) Z func14 Z (by decide) Z Z Z) $ kr ⟨[(1,(Pt 1))],(xV a0),28⟩ rfl $ kg BR Z (fun (o4:Bool)=>⟨[(2,(Bo o4))],[],28⟩) ?_ fun o4=>?_
  ·refine rd 2 [(3,(Pt 1)),(4,(Sr a0.fName))] Z Z $ rp Z (j9 Z Z Z Z Z (V8 k a0.fName) (.inl Z)) fun v1=>bd 4 [(5,(Bo v1)),(6,(Bo v1))] Z Z $ u1 (fun hc=>?_) fun hc=>?_
   ·rw [hc]
    refine rd 9 [(7,(V.ptr 1 0 1)),(8,(I a0.fKind)),(9,(Bo (decide (a0.fKind ≥ 1)))),(10,(Bo (decide (a0.fKind ≥ 1)))),(11,(Bo (decide (a0.fKind ≥ 1))))] Z Z $ u1 (fun hc=>?_) fun hc=>?_
    ·rw [hc]
     refine rd 14 [(12,(V.ptr 1 0 1)),(13,(I a0.fKind)),(14,(Bo (decide (a0.fKind≤4)))),(15,(Bo (decide (a0.fKind≤4)))),(16,(Bo (decide (a0.fKind≤4))))] Z Z $ u1 (fun hc=>?_) fun hc=>?_
     ·rw [hc]
      refine rd 16 [(17,(V.ptr 1 0 2)),(18,(d4 a0.fTypes))] Z Z $ rp Z (j9 Z Z Z Z Z (mG k a0.fTypes) (.inl Z)) fun v2=>bd 19 [(19,(Bo v2)),(20,(Bo v2)),(21,(Bo v2))] Z Z $ u1 (fun hc=>?_) fun hc=>?_
      ·rw [hc]
       exact rd 23 [(22,(V.ptr 1 0 3)),(23,(i8 a0.fIndexes)),(24,(V.ptr 1 0 2)),(25,(d4 a0.fTypes))] Z Z $ rs Z (j9 Z Z Z Z Z (jJ k a0.fIndexes a0.fTypes) (.inl Z)) fun v3=>b6 Z
      ·rw [hc]
       exact i7 Z
     ·rw [hc]
      exact i7 Z
    ·rw [hc]
     exact i7 Z
   ·rw [hc]
    exact i7 Z
  refine et l5 ?_
  rfl
def O7:Int→V×List V:=fun r=>((I r),[])
theorem cQ (k:Nat) (a0:(List Int)) (a1:Nat→Int→Option Bool) (a1_fid:Go.FuncId) (a1_c0:V) (a1_hok:∀ j x0,EV j a1_fid [(I x0),V.pro a1_c0]=(a1 j x0).map fun b=>((Bo b),[])) (K0:Int→Option Int) (Kst:X×St→Option (V×List V)) (hK0:∀ (y0:Int),Kst (X.exit 0,(H8 [(0,(sI a0)),(1,(V.fn a1_fid [] [V.pro a1_c0])),(7,(I (a0.length:Int))),(8,(I y0)),(9,(Bo false))]))=(K0 y0).map O7) (hret:∀ s,Kst (X.ret,s)=R6 prog 19 [(sI a0),(V.fn a1_fid [] [V.pro a1_c0])] [] [.tmp 4] (X.ret,s)):
  ∀ (m:Nat) (x4:Int),(M9 (D0 prog (EV k) Fy k Ex) m (H8 [(0,(sI a0)),(1,(V.fn a1_fid [] [V.pro a1_c0])),(7,(I (a0.length:Int))),(8,(I x4))])).bind Kst=(F6 k a0 a1 K0 m x4).map O7:=by
 intro m
 induction m with
 | zero=>intros; rfl
 | succ m ih=>
  intro x4
  unfold F6
  refine et A5 $ kra [(9,(Bo (decide (x4 < (a0.length:Int)))))] Z $ kc Z Z (fun hc=>?_) fun hc=>?_
  ·rw [hc]
   refine et l7 $ et (l6 Z) $ kr (H8 [(0,(sI a0)),(1,(V.fn a1_fid [] [V.pro a1_c0])),(5,(I x4)),(7,(I (a0.length:Int))),(8,(I x4))]) Z $ kga Ew Z (fun (o7:Bool)=>[(16,(Bo o7))]) (rd 3 [(11,(V.fn a1_fid [] [V.pro a1_c0])),(12,(sI a0)),(13,(I x4))] Z Z $ rp Z (j6 (e:=I) Z Z Z underlying36 Z (by decide)) fun v5=>bd 5 [(14,(Pr (I v5))),(15,(I v5))] Z Z $ rs Z (j9 Z Z Z Z Z (a1_hok k v5) (.inl Z)) fun v6=>b6 Z) fun o7=>kcl Z Z (fun hc=>?_) fun hc=>?_
   ·rw [hc]
    refine kr (H8 [(4,(I x4))]) Z $ et l5 $ et w6 $ et x9 $ et (hret _) ?_
    rfl
   ·rw [hc]
    exact et w9 $ et j8 $ kl (H8 [(0,(sI a0)),(1,(V.fn a1_fid [] [V.pro a1_c0])),(7,(I (a0.length:Int))),(8,(I (sqW (x4+1))))]) Z $ et j7 $ ih (sqW (x4+1))
  ·rw [hc]
   exact et C7 $ et s6 $ hK0 x4
theorem eo (k:Nat) (a0:(List Int)) (a1:Nat→Int→Option Bool) (a1_fid:Go.FuncId) (a1_c0:V) (a1_hok:∀ j x0,EV j a1_fid [(I x0),V.pro a1_c0]=(a1 j x0).map fun b=>((Bo b),[])):EV k 85 [(sI a0),(V.fn a1_fid [] [V.pro a1_c0])]=(O4 k a0 a1).map O7:=by
 cases k with
 | zero=>rfl
 | succ k=>
  unfold O4
  refine et (l8 (c:=f85c) (N:=19) (regs:=Fy) Z func85 Z (by decide) Z Z Z) $ kra [] Z $ et d8 $ krp Ev Z (H8 [(0,(sI a0)),(1,(V.fn a1_fid [] [V.pro a1_c0])),(7,(I (a0.length:Int))),(8,(I 0))]) ?_ ?_
  ·exact rd 1 [(6,(sI a0))] Z Z $ rl Z (w7 (e:=I) Z Z Z Z Z Z underlying36) $ b6 Z
  refine et (l6 Z) $ et B3 ?_
  refine cQ k a0 a1 a1_fid a1_c0 a1_hok _ _ ?h_slices_IndexFunc_int_L1_0 ?hr_slices_IndexFunc_int_L1 k 0
  ·intro y8
   refine et s5 $ kr (H8 [(4,(I (-1)))]) Z $ et l5 ?_
   rfl
  ·intro s; exact rfl
def cb:Bool→V×List V:=fun r=>((Bo r),[])
theorem cN (k:Nat) (a0:(List Int)) (a1:Nat→Int→Option Bool) (a1_fid:Go.FuncId) (a1_c0:V) (a1_hok:∀ j x0,EV j a1_fid [(I x0),V.pro a1_c0]=(a1 j x0).map fun b=>((Bo b),[])):EV k 62 [(sI a0),(V.fn a1_fid [] [V.pro a1_c0])]=(D6 k a0 a1).map cb:=by
 cases k with
 | zero=>rfl
 | succ k=>
  unfold D6
  refine et (l8 (c:=f62c) (N:=9) (regs:=GC) Z func62 Z (by decide) Z Z Z) $ kra [] Z $ kg DS Z (fun (o2:Bool)=>(oA [(4,(Bo o2))])) (rd 2 [(5,(sI a0)),(6,(V.fn a1_fid [] [V.pro a1_c0]))] Z Z $ rp Z (j9 Z Z Z Z Z (eo k a0 a1 a1_fid a1_c0 a1_hok) (.inl Z)) fun v1=>b6 Z) fun o2=>et l5 ?_
  rfl
def mH:Bool→V×List V:=fun r=>((Bo r),[])
theorem ns (k:Nat) (a0:Int) (a1:a6):EV k 63 [(I a0),(Pr (j5 a1))]=(Y4 k a0 a1).map mH:=by
 cases k with
 | zero=>rfl
 | succ k=>
  unfold Y4
  refine et (l8 (c:=f63c) (N:=13) (regs:=GD) Z func63 Z (by decide) Z Z Z) $ kra [] Z $ kg DT Z (fun (o1:Bool)=>(tm [(3,(Bo o1))])) ?_ fun o1=>?_
  ·refine rd 3 [(4,(I a0)),(5,(Bo (decide (a0 < 0)))),(6,(Bo (decide (a0 < 0))))] Z Z $ u1 (fun hc=>?_) fun hc=>?_
   ·rw [hc]
    exact i7 Z
   ·rw [hc]
    exact rd 6 [(7,(I a0)),(8,(Pr (d4 a1.fTypes))),(9,(d4 a1.fTypes))] Z Z $ rl Z (w7 (e:=d9) Z Z Z Z Z Z underlying23) $ b6 Z
  refine et l5 ?_
  rfl
def oR:Int→V×List V:=fun r=>((I r),[])
theorem jM (k:Nat) (a0:a6) (a1:(List Int)):EV k 41 [(j5 a0),(sI a1)]=(ch k a0 a1).map oR:=by
 cases k with
 | zero=>rfl
 | succ k=>
  unfold ch
  refine et (l8 (c:=f41c) (N:=13) (regs:=Gi) Z func41 Z (by decide) Z Z Z) $ kr ⟨[(1,(sI a1)),(2,(Pt 2))],(tr a0),13⟩ rfl $ et (l6 Z) $ kga Di Z (fun (o2:Bool)=>[(5,(Bo o2))]) (rd 1 [(6,(j5 a0))] Z Z $ rp Z (j9 Z Z Z Z Z (eF k a0) (.inl Z)) fun v1=>b6 Z) fun o2=>kcl Z Z (fun hc=>?_) fun hc=>?_
  ·rw [hc]
   refine kr (tm [(4,(I 100))]) Z $ et l5 $ et w6 ?_
   rfl
  ·rw [hc]
   refine kg Dj Z (fun (o4:Bool)=>(tm [(9,(Bo o4))])) (rd 2 [(10,(sI a1)),(11,(V.fn 63 [] [(Pt 2)]))] Z Z $ rs Z (j9 Z Z Z Z Z (cN k a1 (fun j x0=>(Y4 j x0 a0)) 63 (j5 a0) (fun j x0=>(ns j x0 a0))) (.inr (fun _=>rfl))) fun v3=>b6 Z) fun o4=>kcl Z Z (fun hc=>?_) fun hc=>?_
   ·rw [hc]
    refine kr (tm [(4,(I 2))]) Z $ et l5 $ et w6 ?_
    rfl
   ·rw [hc]
    refine et w9 $ et j8 $ kr (tm [(4,(I 0))]) Z $ et l5 ?_
    rfl
def fi:List Int→V×List V:=fun r=>(.tup [],[.sl 2 1 (List.map I r)])
theorem fN (k:Nat) (l:List Int):EV k 64 [(V.sl 2 1 (List.map I l))]=(slices_Reverse_int k l).map fi:=by
 cases k with
 | zero=>rfl
 | succ k=>exact (af (ext:=ext) (f:=64) Z).trans (jQ l)
def gm:(List Int)→V×List V:=fun r=>((sI r),[])
theorem oU (k:Nat) (a0:a6) (a1:Int)  (K0:Int→(List Int)→Option (List Int)) (Kst:X×St→Option (V×List V)) (hK0:∀ (y0:Int) (y1:(List Int)),Kst (X.exit 0,⟨(cU y0 [(5,(aL 5 I y1)),(7,(Bo false))]),[(2,vS 4 (j5 a0)),(5,⟨true,1,List.map I y1⟩)],21⟩)=(K0 y0 y1).map gm) (hret:∀ s,Kst (X.ret,s)=R6 prog 21 [(j5 a0),(I a1)] [] [.tmp 4] (X.ret,s)):
  ∀ (m:Nat) (x5:Int) (x6:(List Int)),(M9 (D0 prog (EV k) Fs k Do) m ⟨(cU x5 [(5,(aL 5 I x6))]),[(2,vS 4 (j5 a0)),(5,⟨true,1,List.map I x6⟩)],21⟩).bind Kst=(X4 a0 K0 m x5 x6).map gm:=by
 intro m
 induction m with
 | zero=>intros; rfl
 | succ m ih=>
  intro x5 x6
  unfold X4
  refine et A5 $ et d8 $ kra [(7,(Bo (decide (x5 ≥ 0))))] Z $ kc Z Z (fun hc=>?_) fun hc=>?_
  ·rw [hc]
   exact et l7 $ et (l6 Z) $ kgl Dl Z (fun (o8:(List Int))=>⟨(cU x5 [(5,(aL 5 I o8))]),[(2,vS 4 (j5 a0)),(5,⟨true,1,List.map I o8⟩)],21⟩) (rd 3 [(14,(aL 5 I x6)),(15,(I x5)),(16,(sI (([x5]:List Int))))] Z Z $ et (B2 (x:=(app x6 ([x5]:List Int))) (w:=fun v7=>((aL 5 I v7),_)) Z Z Z Z (FK (e:=I) (l:=x6) Z Z Z Z Z Z Z Z Z Z Z (of_decide_eq_true Z))) $ u7 fun v7=>b6 Z) fun o8=>et j8 $ kgl Dk Z (fun (o0:Int)=>⟨(cU o0 [(5,(aL 5 I o8))]),[(2,vS 4 (j5 a0)),(5,⟨true,1,List.map I o8⟩)],21⟩) (rd 3 [(8,(V.ptr 2 0 2)),(9,(d4 a0.fTypes)),(10,(I x5))] Z Z $ rp Z (j6 (e:=d9) Z Z Z underlying23 Z (by decide)) fun v9=>b6 Z) fun o0=>et j7 $ ih o0 o8
  ·rw [hc]
   exact et C7 $ et s6 $ hK0 x5 x6
theorem ud (k:Nat) (a0:a6) (a1:Int):EV k 42 [(j5 a0),(I a1)]=(jP k a0 a1).map gm:=by
 cases k with
 | zero=>rfl
 | succ k=>
  unfold jP
  refine et (l8 (c:=f42c) (N:=21) (regs:=Fs) Z func42 Z (by decide) Z Z Z) $ kr ⟨(cU a1 []),(tr a0),21⟩ rfl $ kr ⟨(cU a1 [(5,(aL 5 I ([]:List Int)))]),[(2,vS 4 (j5 a0)),(5,⟨true,1,List.map I ([]:List Int)⟩)],21⟩ rfl $ et (l6 Z) $ et B3 ?_
  refine oU k a0 a1 _ _ ?h_dbd_way_L1_0 ?hr_dbd_way_L1 k a1 ([]:List Int)
  ·intro y0 y1
   refine et s5 $ kg Dm Z (fun (o0:(List Int))=>⟨[(5,(aL 5 I o0))],[(5,⟨true,1,List.map I o0⟩)],21⟩) (rd 1 [(18,(aL 5 I y1))] Z Z $ et (B2 (x:=((slices_Reverse_int k y1).bind (bh y1))) (w:=fun v0=>(V.tup [],_)) Z Z Z Z (Bf (S:=(fun n_=>⟨(cU y0 [(5,(V.aref 5 0 n_)),(7,(Bo false)),(18,(V.aref 5 0 n_))]),[(2,vS 4 (j5 a0)),(5,⟨true,1,List.map I y1⟩)],21⟩)) (e:=I) Z Z Z Z Z (EX (e:=I) Z) Z (fN k y1))) $ u7 fun v0=>b6 Z) fun o0=>krp Dn Z ⟨[(4,(sI o0))],[],21⟩ ?_ ?_
   ·exact rd 1 [(20,(aL 5 I o0))] Z Z $ et (B2 (x:=some ()) (w:=fun _=>((V.sl 2 1 (List.map I o0)),_)) Z Z Z Z (Bg (e:=I) Z Z Z Z Z (of_decide_eq_true Z))) $ et A6 $ b6 Z
   refine et l5 ?_
   rfl
  ·intro s; exact rfl
def rV:((List Int)×Int)→V×List V:=fun r=>(.tup [(sI r.1),(I r.2)],[])
theorem ub (k:Nat) (a0:a6) (a1:Int):EV k 17 [(j5 a0),(I a1)]=(jI k a0 a1).map rV:=by
 cases k with
 | zero=>rfl
 | succ k=>
  unfold jI
  refine et (l8 (c:=f17c) (N:=17) (regs:=Gc) Z func17 Z (by decide) Z Z Z) $ kr ⟨(cU a1 []),(tr a0),17⟩ rfl $ et d8 $ kga Cc Z (fun (o2:Int)=>[(6,(I o2))]) (rd 3 [(7,(j5 a0)),(8,(I a1)),(9,(sI (([a1]:List Int))))] Z Z $ rs Z (j9 Z Z Z Z Z (jM k a0 ([a1]:List Int)) (.inl Z)) fun v1=>b6 Z) fun o2=>et d8 $ kra [(12,(Bo (o2 != 0)))] Z $ kc Z Z (fun hc=>?_) fun hc=>?_
  ·rw [hc]
   refine et d8 $ kr ⟨[(4,(sI (([]:List Int)))),(5,(I o2))],[],17⟩ rfl $ et L6 ?_
   rfl
  ·rw [hc]
   refine et l7 $ kg Cd Z (fun (o4:(List Int)×Int)=>⟨[(4,(sI o4.1)),(5,(I o4.2))],[],17⟩) (rd 2 [(14,(j5 a0)),(15,(I a1))] Z Z $ rp Z (j9 Z Z Z Z Z (ud k a0 a1) (.inl Z)) fun v3=>b6 Z) fun o4=>et l5 ?_
   rfl
def aH:((List Int)×Int)→V×List V:=fun r=>(.tup [(sI r.1),(I r.2)],[])
theorem iP (k:Nat) (a0:a6) (a1:Int)  (K0:(List Int)→Int→Option ((List Int)×Int)) (Kst:X×St→Option (V×List V)) (hK0:∀ (y0:(List Int)) (y1:Int),Kst (X.exit 0,(cT [(1,(I a1)),(7,(V.sl 1 1 (List.map I y0))),(18,(d4 a0.fTypes)),(19,(I (a0.fTypes.length:Int))),(20,(I y1)),(21,(Bo false))]))=(K0 y0 y1).map aH) (hret:∀ s,Kst (X.ret,s)=R6 prog 35 [(j5 a0),(I a1)] [] [.tmp 4,.tmp 5] (X.ret,s)):
  ∀ (m:Nat) (x7:(List Int)) (x8:Int),(M9 (D0 prog (EV k) Fj k Ci) m (cT [(1,(I a1)),(7,(V.sl 1 1 (List.map I x7))),(18,(d4 a0.fTypes)),(19,(I (a0.fTypes.length:Int))),(20,(I x8))])).bind Kst=(G6 a0 a1 K0 m x7 x8).map aH:=by
 intro m
 induction m with
 | zero=>intros; rfl
 | succ m ih=>
  intro x7 x8
  unfold G6
  refine et A5 $ kra [(21,(Bo (decide (x8 < (a0.fTypes.length:Int)))))] Z $ kc Z Z (fun hc=>?_) fun hc=>?_
  ·rw [hc]
   refine et l7 $ et (l6 Z) $ kg Cg Z (fun (o0:Int×a7)=>⟨[(1,(I a1)),(7,(V.sl 1 1 (List.map I x7))),(8,(I o0.1)),(9,(Pt 9)),(18,(d4 a0.fTypes)),(19,(I (a0.fTypes.length:Int))),(20,(I x8))],[(9,vS 8 (d9 o0.2))],35⟩) (rd 1 [(22,(I x8))] Z Z $ rp Z (j6 (e:=d9) Z Z Z underlying23 Z (by decide)) fun v9=>b6 Z) fun o0=>kr (cT [(1,(I a1)),(7,(V.sl 1 1 (List.map I x7))),(8,(I o0.1)),(18,(d4 a0.fTypes)),(19,(I (a0.fTypes.length:Int))),(20,(I x8)),(28,(Bo (o0.2.fParent == a1)))]) Z $ kcl Z Z (fun hc=>?_) fun hc=>?_
   ·rw [hc]
    exact kgl Ch Z (fun (o1:(List Int))=>(cT [(1,(I a1)),(7,(V.sl 1 1 (List.map I o1))),(18,(d4 a0.fTypes)),(19,(I (a0.fTypes.length:Int))),(20,(I x8))])) (ra 3 3 (cT [(1,(I a1)),(7,(sI x7)),(8,(I o0.1)),(18,(d4 a0.fTypes)),(19,(I (a0.fTypes.length:Int))),(20,(I x8)),(28,(Bo true)),(29,(V.sl 1 1 (List.map I x7))),(30,(I o0.1)),(31,(sI (([o0.1]:List Int))))]) Z Z Z $ et (B2 (x:=(app x7 ([o0.1]:List Int))) (w:=fun v0=>((V.sl 1 1 (List.map I v0)),_)) Z Z Z Z (sV (e:=I) Z Z Z Z Z Z Z Z Z Z (by decide))) $ u7 fun v0=>b6 Z) fun o1=>et j8 $ kl (cT [(1,(I a1)),(7,(V.sl 1 1 (List.map I o1))),(18,(d4 a0.fTypes)),(19,(I (a0.fTypes.length:Int))),(20,(I (sqW (x8+1))))]) Z $ et j7 $ ih o1 (sqW (x8+1))
   ·rw [hc]
    exact et w9 $ et j8 $ kl (cT [(1,(I a1)),(7,(V.sl 1 1 (List.map I x7))),(18,(d4 a0.fTypes)),(19,(I (a0.fTypes.length:Int))),(20,(I (sqW (x8+1))))]) Z $ et j7 $ ih x7 (sqW (x8+1))
  ·rw [hc]
   exact et C7 $ et s6 $ hK0 x7 x8
theorem mD (k:Nat) (a0:a6) (a1:Int):EV k 19 [(j5 a0),(I a1)]=(Z8 k a0 a1).map aH:=by
 cases k with
 | zero=>rfl
 | succ k=>
  unfold Z8
  refine et (l8 (c:=f19c) (N:=35) (regs:=Fj) Z func19 Z (by decide) Z Z Z) $ kr ⟨(cU a1 []),(tr a0),35⟩ rfl $ et d8 $ kga Ce Z (fun (o2:Int)=>[(6,(I o2))]) (rd 3 [(10,(j5 a0)),(11,(I a1)),(12,(sI (([a1]:List Int))))] Z Z $ rs Z (j9 Z Z Z Z Z (jM k a0 ([a1]:List Int)) (.inl Z)) fun v1=>b6 Z) fun o2=>et d8 $ kra [(15,(Bo (o2 != 0)))] Z $ kc Z Z (fun hc=>?_) fun hc=>?_
  ·rw [hc]
   refine et d8 $ kr (cT [(4,(sI (([]:List Int)))),(5,(I o2))]) Z $ et L6 ?_
   rfl
  ·rw [hc]
   refine et l7 $ kr ⟨(cU a1 [(7,(V.sl 1 1 (List.map I ([]:List Int))))]),(tr a0),35⟩ rfl $ et d8 $ krp Cf Z (cT [(1,(I a1)),(7,(V.sl 1 1 (List.map I ([]:List Int)))),(18,(d4 a0.fTypes)),(19,(I (a0.fTypes.length:Int))),(20,(I 0))]) ?_ ?_
   ·exact rd 2 [(17,(V.ptr 2 0 2)),(18,(d4 a0.fTypes))] Z Z $ rl Z (w7 (e:=d9) Z Z Z Z Z Z underlying23) $ b6 Z
   refine et (l6 Z) $ et B3 ?_
   refine iP k a0 a1 _ _ ?h_dbd_Children_L1_0 ?hr_dbd_Children_L1 k ([]:List Int) 0
   ·intro y0 y1
    refine et s5 $ kr (cT [(4,(sI y0)),(5,(I 0))]) Z $ et l5 ?_
    rfl
   ·intro s; exact rfl
def Y0:Bool→V×List V:=fun r=>((Bo r),[])
theorem gK (k:Nat) (a0:(List Int)) (a1:(List Int))  (K0:Int→Option Bool) (Kst:X×St→Option (V×List V)) (hK0:∀ (y0:Int),Kst (X.exit 0,(M6 [(0,(sI a0)),(1,(sI a1)),(5,(I y0)),(14,(Bo false))]))=(K0 y0).map Y0) (hret:∀ s,Kst (X.ret,s)=R6 prog 26 [(sI a0),(sI a1)] [] [.tmp 4] (X.ret,s)):
  ∀ (m:Nat) (x4:Int),(M9 (D0 prog (EV k) Fk k Cm) m (M6 [(0,(sI a0)),(1,(sI a1)),(5,(I x4))])).bind Kst=(G3 a0 a1 K0 m x4).map Y0:=by
 intro m
 induction m with
 | zero=>intros; rfl
 | succ m ih=>
  intro x4
  unfold G3
  refine et A5 $ et d8 $ krp Ck Z (M6 [(0,(sI a0)),(1,(sI a1)),(5,(I x4)),(14,(Bo (decide (x4 < (a0.length:Int)))))]) ?_ ?_
  ·exact rd 2 [(11,(I x4)),(12,(sI a0))] Z Z $ rl Z (w7 (e:=I) Z Z Z Z Z Z underlying36) $ b6 Z
  refine kc Z Z (fun hc=>?_) fun hc=>?_
  ·rw [hc]
   refine et l7 $ et (l6 Z) $ kd Cl Z (fun (o7:Bool)=>(M6 [(0,(sI a0)),(1,(sI a1)),(5,(I x4)),(25,(Bo o7))])) (et (k0 (p:=9) (dk:=true) (t:=[(0,(sI a0)),(1,(sI a1)),(5,(I x4)),(14,(Bo true))]) (σ:=[]) (n:=26) Z (by decide) (by decide) Z) $ et (l9 (m:=2) (j:=2) (t':=[(0,(sI a0)),(1,(sI a1)),(5,(I x4)),(14,(Bo true)),(17,(sI a0)),(18,(I x4))]) Z Z Z) $ et (b4 (x:=(idx a0 x4)) (w:=fun v5=>(Pr (I v5))) Z Z Z Z Z (j6 (e:=I) Z Z Z underlying36 Z (by decide))) $ j2 fun v5=>et (b9 (m:=3) (j:=6) (t':=[(0,(sI a0)),(1,(sI a1)),(5,(I x4)),(14,(Bo true)),(17,(sI a0)),(18,(I x4)),(19,(Pr (I v5))),(20,(I v5)),(21,(sI a1)),(22,(I x4))]) Z Z Z) $ et (b4 (x:=(idx a1 x4)) (w:=fun v6=>(Pr (I v6))) Z Z Z Z Z (j6 (e:=I) Z Z Z underlying36 Z (by decide))) $ j2 fun v6=>s7 Z) fun o7=>kcl Z Z (fun hc=>?_) fun hc=>?_
   ·rw [hc]
    refine kr (M6 (Z2 [])) Z $ et l5 $ et w6 $ et x9 $ et (hret _) ?_
    rfl
   ·rw [hc]
    exact et w9 $ et j8 $ kl (M6 [(0,(sI a0)),(1,(sI a1)),(5,(I (sqW (x4+1))))]) Z $ et j7 $ ih (sqW (x4+1))
  ·rw [hc]
   exact et C7 $ et s6 $ hK0 x4
theorem du (k:Nat) (a0:(List Int)) (a1:(List Int)):EV k 20 [(sI a0),(sI a1)]=(P2 k a0 a1).map Y0:=by
 cases k with
 | zero=>rfl
 | succ k=>
  unfold P2
  refine et (l8 (c:=f20c) (N:=26) (regs:=Fk) Z func20 Z (by decide) Z Z Z) $ kra [] Z $ et d8 $ krp Cj Z (M6 [(0,(sI a0)),(1,(sI a1)),(10,(Bo ((a0.length:Int) != (a1.length:Int))))]) ?_ ?_
  ·exact rd 1 [(6,(sI a0))] Z Z $ rl Z (w7 (e:=I) Z Z Z Z Z Z underlying36) $ bd 3 [(7,(I (a0.length:Int))),(8,(sI a1))] Z Z $ rl Z (w7 (e:=I) Z Z Z Z Z Z underlying36) $ b6 Z
  refine kc Z Z (fun hc=>?_) fun hc=>?_
  ·rw [hc]
   refine et d8 $ kr (M6 (Z2 [])) Z $ et L6 ?_
   rfl
  ·rw [hc]
   refine et l7 $ et d8 $ kr (M6 [(0,(sI a0)),(1,(sI a1)),(5,(I 0))]) Z $ et (l6 Z) $ et B3 ?_
   refine gK k a0 a1 _ _ ?h_ref01_SameInts_L1_0 ?hr_ref01_SameInts_L1 k 0
   ·intro y8
    refine et s5 $ kr (M6 [(4,(Bo true))]) Z $ et l5 ?_
    rfl
   ·intro s; exact rfl
def mN:Bool→V×List V:=fun r=>((Bo r),[])
theorem cD (k:Nat) :EV k 5 []=(S9 k).map mN:=by
 cases k with
 | zero=>rfl
 | succ k=>
  unfold S9
  refine et (l8 (c:=f5c) (N:=31) (regs:=f5n) Z func5 Z (by decide) Z Z Z) $ kra [] Z $ kga Gx Z (fun (o3:(List Int)×Int)=>[(1,(sI o3.1)),(2,(I o3.2))]) (rp Z (j9 Z Z Z Z Z (iA k) (.inl Z)) fun v1=>bd 1 [(6,(j5 v1))] Z Z $ rp Z (j9 Z Z Z Z Z (ub k v1 2) (.inl Z)) fun v2=>b6 Z) fun o3=>kga Gy Z (fun (o6:(List Int)×Int)=>[(3,(sI o6.1)),(4,(I o6.2))]) (rp Z (j9 Z Z Z Z Z (iA k) (.inl Z)) fun v4=>bd 1 [(11,(j5 v4))] Z Z $ rp Z (j9 Z Z Z Z Z (mD k v4 0) (.inl Z)) fun v5=>b6 Z) fun o6=>kg Gz Z (fun (o9:Bool)=>⟨[(0,(Bo o9))],[],31⟩) ?_ fun o9=>?_
  ·refine rd 3 [(15,(I o3.2)),(16,(Bo (o3.2 == 0))),(17,(Bo (o3.2 == 0)))] Z Z $ u1 (fun hc=>?_) fun hc=>?_
   ·rw [hc]
    refine rd 7 [(18,(I o6.2)),(19,(Bo (o6.2 == 0))),(20,(Bo (o6.2 == 0))),(21,(Bo (o6.2 == 0)))] Z Z $ u1 (fun hc=>?_) fun hc=>?_
    ·rw [hc]
     refine rd 9 [(22,(sI o3.1)),(23,(sI (([0,1,2]:List Int))))] Z Z $ rp Z (j9 Z Z Z Z Z (du k o3.1 ([0,1,2]:List Int)) (.inl Z)) fun v7=>bd 12 [(24,(Bo v7)),(25,(Bo v7)),(26,(Bo v7))] Z Z $ u1 (fun hc=>?_) fun hc=>?_
     ·rw [hc]
      exact rd 14 [(27,(sI o6.1)),(28,(sI (([1,3]:List Int))))] Z Z $ rs Z (j9 Z Z Z Z Z (du k o6.1 ([1,3]:List Int)) (.inl Z)) fun v8=>b6 Z
     ·rw [hc]
      exact i7 Z
    ·rw [hc]
     exact i7 Z
   ·rw [hc]
    exact i7 Z
  refine et l5 ?_
  rfl
def lQ:Str→V×List V:=fun r=>(Sr r,[])
theorem A0 (k:Nat) (n:Int):EV k 28 [(I n)]=(strconv_Itoa k n).map lQ:=by
 cases k with
 | zero=>rfl
 | succ k=>exact (af (ext:=ext) (f:=28) Z).trans Z
def lR:Str→V×List V:=fun r=>(Sr r,[])
theorem mT (k:Nat) (s:List Str) (n:Str):EV k 53 [(sS s),(Sr n)]=(strings_Join k s n).map lR:=by
 cases k with
 | zero=>rfl
 | succ k=>exact (af (ext:=ext) (f:=53) Z).trans (nF s n)
def aD (s:Str):Str→V×List V:=fun r=>((V.tup [(I (s.length:Int)),V.nilif]),[(V.io (V.agg [V.tp 0 60,V.row 5 r]))])
theorem aT (k:Nat) (b:Str) (s:Str):EV k 52 [(V.io (V.agg [V.tp 0 60,V.row 5 b])),(Sr s)]=(F7 k b s).map (aD s):=by
 cases k with
 | zero=>rfl
 | succ k=>exact (af (ext:=ext) (f:=52) Z).trans Z
def bx:Str→V×List V:=fun r=>(V.nilif,[(V.io (V.agg [V.tp 0 60,V.row 5 r]))])
theorem bP (k:Nat) (b:Str) (s:Int):EV k 54 [(V.io (V.agg [V.tp 0 60,V.row 5 b])),(sqU s)]=(H4 k b s).map (bx):=by
 cases k with
 | zero=>rfl
 | succ k=>exact (af (ext:=ext) (f:=54) Z).trans Z
def qu:(Str)→V×List V:=fun r=>((.tup []),[(V.io (V.agg [V.tp 0 60,V.row 5 r]))])
theorem K4 (k:Nat) (a0:Str) (a1:(List Str)):EV k 27 [(V.io (V.agg [V.tp 0 60,V.row 5 a0])),(sS a1)]=(w8 k a0 a1).map qu:=by
 cases k with
 | zero=>rfl
 | succ k=>
  unfold w8
  refine et (l8 (c:=f27c) (N:=10) (regs:=Gf) Z func27 Z (by decide) Z Z Z) $ kg Ct Z (fun (o3:Str)=>⟨[(0,(Pt 10))],[(10,⟨false,2,[(V.agg [V.tp 10 60,V.row 5 o3])]⟩)],10⟩) (rd 2 [(4,(Pt 10)),(5,(sS a1))] Z Z $ rp Z (j9 Z Z Z Z Z (mT k a1 ([32]:Str)) (.inl Z)) fun v1=>bd 3 [(6,(Sr v1))] Z Z $ et (B2 (x:=(F7 k a0 v1)) (w:=fun (v2:Str)=>((V.tup [(I (v1.length:Int)),V.nilif]),_)) Z Z Z Z (I2 (fr:=fun (v2:Str)=>(V.tup [(I (v1.length:Int)),V.nilif])) (fe:=fun (v2:Str)=>(V.agg [V.tp 0 60,V.row 5 v2])) (fe':=fun (v2:Str)=>(V.agg [V.tp 10 60,V.row 5 v2])) Z Z Z Z Z Z Z (aT k a0 v1) (fun _=>rfl))) $ u7 fun v2=>b6 Z) fun o3=>kgl Cu Z (fun (o5:Str)=>⟨[],[(10,⟨false,2,[(V.agg [V.tp 10 60,V.row 5 o5])]⟩)],10⟩) (rd 1 [(8,(Pt 10))] Z Z $ et (B2 (x:=(H4 k o3 10)) (w:=fun (v4:Str)=>(V.nilif,_)) Z Z Z Z (I2 (fr:=fun (v4:Str)=>V.nilif) (fe:=fun (v4:Str)=>(V.agg [V.tp 0 60,V.row 5 v4])) (fe':=fun (v4:Str)=>(V.agg [V.tp 10 60,V.row 5 v4])) Z Z Z Z Z Z Z (bP k o3 10) (fun _=>rfl))) $ u7 fun v4=>b6 Z) fun o5=>?_
  first | rfl | (cases o5; simp only at hc; subst hc; rfl)
def cX:Str→V×List V:=fun r=>((Sr r),[(V.io (V.agg [V.tp 0 60,V.row 5 r]))])
theorem db (k:Nat) (b:Str):EV k 29 [(V.io (V.agg [V.tp 0 60,V.row 5 b]))]=(J8 k b).map (cX):=by
 cases k with
 | zero=>rfl
 | succ k=>exact (af (ext:=ext) (f:=29) Z).trans Z
def K9:(Str×Int)→V×List V:=fun r=>(.tup [(Sr r.1),(I r.2)],[])
theorem T7 (k:Nat) (a0:a6) (x0:Int) (o0:a7)  (K0:Int→Str→Option (Str×Int)) (Kst:X×St→Option (V×List V)) (hK0:∀ (y0:Int) (y1:Str),Kst (X.exit 2,⟨(ay [(28,(d4 a0.fTypes)),(29,(I (a0.fTypes.length:Int))),(30,(I x0)),(59,(c8 o0.fFields)),(60,(I (o0.fFields.length:Int))),(61,(I y0)),(62,(Bo false))]),[(1,vS 4 (j5 a0)),(4,⟨false,2,[(V.agg [V.tp 4 60,V.row 5 y1])]⟩),(6,vS 8 (d9 o0))],133⟩)=(K0 y0 y1).map K9) (hret:∀ s,Kst (X.ret,s)=R6 prog 133 [(j5 a0)] [] [.tmp 2,.tmp 3] (X.ret,s)):
  ∀ (m:Nat) (x1:Int) (x2:Str),(M9 (D0 prog (EV k) f9n k GY) m ⟨(ay [(28,(d4 a0.fTypes)),(29,(I (a0.fTypes.length:Int))),(30,(I x0)),(59,(c8 o0.fFields)),(60,(I (o0.fFields.length:Int))),(61,(I x1))]),[(1,vS 4 (j5 a0)),(4,⟨false,2,[(V.agg [V.tp 4 60,V.row 5 x2])]⟩),(6,vS 8 (d9 o0))],133⟩).bind Kst=(E0 k o0 K0 m x1 x2).map K9:=by
 intro m
 induction m with
 | zero=>intros; rfl
 | succ m ih=>
  intro x1 x2
  unfold E0
  refine et A5 $ kra [(62,(Bo (decide (x1 < (o0.fFields.length:Int)))))] Z $ kc Z Z (fun hc=>?_) fun hc=>?_
  ·rw [hc]
   refine et l7 $ et (l6 Z) $ kg ED Z (fun (o1:Int×b8)=>⟨(ay [(9,(I o1.1)),(10,(Pt 10)),(28,(d4 a0.fTypes)),(29,(I (a0.fTypes.length:Int))),(30,(I x0)),(59,(c8 o0.fFields)),(60,(I (o0.fFields.length:Int))),(61,(I x1))]),[(1,vS 4 (j5 a0)),(4,⟨false,2,[(V.agg [V.tp 4 60,V.row 5 x2])]⟩),(6,vS 8 (d9 o0)),(10,vS 3 (j3 o1.2))],133⟩) (rd 1 [(63,(I x1))] Z Z $ rp Z (j6 (e:=j3) Z Z Z underlying50 Z (by decide)) fun v0=>b6 Z) fun o1=>kr ⟨(ay [(9,(I o1.1)),(10,(Pt 10)),(11,(Sr ([45]:Str))),(28,(d4 a0.fTypes)),(29,(I (a0.fTypes.length:Int))),(30,(I x0)),(59,(c8 o0.fFields)),(60,(I (o0.fFields.length:Int))),(61,(I x1))]),[(1,vS 4 (j5 a0)),(4,⟨false,2,[(V.agg [V.tp 4 60,V.row 5 x2])]⟩),(6,vS 8 (d9 o0)),(10,vS 3 (j3 o1.2))],133⟩ rfl $ et d8 $ kr ⟨(cV [(11,(Sr ([45]:Str))),(28,(d4 a0.fTypes)),(29,(I (a0.fTypes.length:Int))),(30,(I x0)),(59,(c8 o0.fFields)),(60,(I (o0.fFields.length:Int))),(61,(I x1)),(69,(Bo (o1.1 == o0.fKey)))]),[(1,vS 4 (j5 a0)),(4,⟨false,2,[(V.agg [V.tp 4 60,V.row 5 x2])]⟩),(6,vS 8 (d9 o0)),(10,vS 3 (j3 o1.2))],133⟩ rfl $ kc Z Z (fun hc=>?_) fun hc=>?_
   ·rw [hc]
    refine et d8 $ kr ⟨(cV [(11,(Sr ([77]:Str))),(28,(d4 a0.fTypes)),(29,(I (a0.fTypes.length:Int))),(30,(I x0)),(59,(c8 o0.fFields)),(60,(I (o0.fFields.length:Int))),(61,(I x1))]),[(1,vS 4 (j5 a0)),(4,⟨false,2,[(V.agg [V.tp 4 60,V.row 5 x2])]⟩),(6,vS 8 (d9 o0)),(10,vS 3 (j3 o1.2))],133⟩ rfl $ et d8 $ kra [(71,(Bo o0.fUnique))] Z $ kc Z Z (fun hc=>?_) fun hc=>?_
    ·rw [hc]
     exact kr ⟨(cV [(11,(Sr ([85]:Str))),(28,(d4 a0.fTypes)),(29,(I (a0.fTypes.length:Int))),(30,(I x0)),(59,(c8 o0.fFields)),(60,(I (o0.fFields.length:Int))),(61,(I x1))]),[(1,vS 4 (j5 a0)),(4,⟨false,2,[(V.agg [V.tp 4 60,V.row 5 x2])]⟩),(6,vS 8 (d9 o0)),(10,vS 3 (j3 o1.2))],133⟩ rfl $ kdl wg Z (fun (o2:Str)=>⟨(ay [(28,(d4 a0.fTypes)),(29,(I (a0.fTypes.length:Int))),(30,(I x0)),(59,(c8 o0.fFields)),(60,(I (o0.fFields.length:Int))),(61,(I x1))]),[(1,vS 4 (j5 a0)),(4,⟨false,2,[(V.agg [V.tp 4 60,V.row 5 o2])]⟩),(6,vS 8 (d9 o0))],133⟩) (et (k0 (p:=10) (dk:=true) (t:=(cV [(11,(Sr ([85]:Str))),(28,(d4 a0.fTypes)),(29,(I (a0.fTypes.length:Int))),(30,(I x0)),(59,(c8 o0.fFields)),(60,(I (o0.fFields.length:Int))),(61,(I x1))])) (σ:=[(1,vS 4 (j5 a0)),(4,⟨false,2,[(V.agg [V.tp 4 60,V.row 5 x2])]⟩),(6,vS 8 (d9 o0)),(10,vS 3 (j3 o1.2))]) (n:=133) Z (by decide) (by decide) Z) $ et (l9 (m:=4) (j:=4) (t':=(cV [(11,(Sr ([85]:Str))),(28,(d4 a0.fTypes)),(29,(I (a0.fTypes.length:Int))),(30,(I x0)),(59,(c8 o0.fFields)),(60,(I (o0.fFields.length:Int))),(61,(I x1)),(72,(Pt 10)),(73,(Sr o1.2.fName)),(74,(V.ptr 10 0 1)),(75,(I o1.2.fAt))])) Z Z Z) $ et (b4 (x:=(strconv_Itoa k o1.2.fAt)) (w:=fun v1=>(Sr v1)) Z Z Z Z Z (j9 Z Z Z Z Z (A0 k o1.2.fAt) (.inl Z))) $ j2 fun v1=>et (b9 (m:=2) (j:=7) (t':=(cV [(11,(Sr ([85]:Str))),(28,(d4 a0.fTypes)),(29,(I (a0.fTypes.length:Int))),(30,(I x0)),(59,(c8 o0.fFields)),(60,(I (o0.fFields.length:Int))),(61,(I x1)),(72,(Pt 10)),(73,(Sr o1.2.fName)),(74,(V.ptr 10 0 1)),(75,(I o1.2.fAt)),(76,(Sr v1)),(77,(V.ptr 10 0 2)),(78,(I o1.2.fBytes))])) Z Z Z) $ et (b4 (x:=(strconv_Itoa k o1.2.fBytes)) (w:=fun v2=>(Sr v2)) Z Z Z Z Z (j9 Z Z Z Z Z (A0 k o1.2.fBytes) (.inl Z))) $ j2 fun v2=>et (W2 (m:=0) (j:=10) (st':=⟨(cV [(11,(Sr ([85]:Str))),(28,(d4 a0.fTypes)),(29,(I (a0.fTypes.length:Int))),(30,(I x0)),(59,(c8 o0.fFields)),(60,(I (o0.fFields.length:Int))),(61,(I x1)),(72,(Pt 10)),(73,(Sr o1.2.fName)),(74,(V.ptr 10 0 1)),(75,(I o1.2.fAt)),(76,(Sr v1)),(77,(V.ptr 10 0 2)),(78,(I o1.2.fBytes)),(79,(Sr v2)),(80,(Sr ([85]:Str))),(81,(sS (([([70,73,69,76,68]:Str),o1.2.fName,v1,v2,([85]:Str)]:List Str))))]),[(1,vS 4 (j5 a0)),(4,⟨false,2,[(V.agg [V.tp 4 60,V.row 5 x2])]⟩),(6,vS 8 (d9 o0)),(10,vS 3 (j3 o1.2))],133⟩) Z Z Z) $ et (B2 (x:=(w8 k x2 ([([70,73,69,76,68]:Str),o1.2.fName,v1,v2,([85]:Str)]:List Str))) (w:=fun (v3:(Str))=>((V.tup []),_)) Z Z Z Z (I2 (fr:=fun (v3:(Str))=>(V.tup [])) (fe:=fun (v3:(Str))=>(V.agg [V.tp 0 60,V.row 5 v3])) (fe':=fun (v3:(Str))=>(V.agg [V.tp 4 60,V.row 5 v3])) Z Z Z Z Z Z Z (K4 k x2 ([([70,73,69,76,68]:Str),o1.2.fName,v1,v2,([85]:Str)]:List Str)) (fun _=>rfl))) $ u7 fun v3=>b6 Z) fun o2=>et j8 $ kl ⟨(ay [(28,(d4 a0.fTypes)),(29,(I (a0.fTypes.length:Int))),(30,(I x0)),(59,(c8 o0.fFields)),(60,(I (o0.fFields.length:Int))),(61,(I (sqW (x1+1))))]),[(1,vS 4 (j5 a0)),(4,⟨false,2,[(V.agg [V.tp 4 60,V.row 5 o2])]⟩),(6,vS 8 (d9 o0))],133⟩ rfl $ et j7 $ ih (sqW (x1+1)) o2
    ·rw [hc]
     exact et l7 $ kdl wg Z (fun (o3:Str)=>⟨(ay [(28,(d4 a0.fTypes)),(29,(I (a0.fTypes.length:Int))),(30,(I x0)),(59,(c8 o0.fFields)),(60,(I (o0.fFields.length:Int))),(61,(I x1))]),[(1,vS 4 (j5 a0)),(4,⟨false,2,[(V.agg [V.tp 4 60,V.row 5 o3])]⟩),(6,vS 8 (d9 o0))],133⟩) (et (k0 (p:=10) (dk:=true) (t:=(cV [(11,(Sr ([77]:Str))),(28,(d4 a0.fTypes)),(29,(I (a0.fTypes.length:Int))),(30,(I x0)),(59,(c8 o0.fFields)),(60,(I (o0.fFields.length:Int))),(61,(I x1)),(71,(Bo false))])) (σ:=[(1,vS 4 (j5 a0)),(4,⟨false,2,[(V.agg [V.tp 4 60,V.row 5 x2])]⟩),(6,vS 8 (d9 o0)),(10,vS 3 (j3 o1.2))]) (n:=133) Z (by decide) (by decide) Z) $ et (l9 (m:=4) (j:=4) (t':=(cV [(11,(Sr ([77]:Str))),(28,(d4 a0.fTypes)),(29,(I (a0.fTypes.length:Int))),(30,(I x0)),(59,(c8 o0.fFields)),(60,(I (o0.fFields.length:Int))),(61,(I x1)),(71,(Bo false)),(72,(Pt 10)),(73,(Sr o1.2.fName)),(74,(V.ptr 10 0 1)),(75,(I o1.2.fAt))])) Z Z Z) $ et (b4 (x:=(strconv_Itoa k o1.2.fAt)) (w:=fun v4=>(Sr v4)) Z Z Z Z Z (j9 Z Z Z Z Z (A0 k o1.2.fAt) (.inl Z))) $ j2 fun v4=>et (b9 (m:=2) (j:=7) (t':=(cV [(11,(Sr ([77]:Str))),(28,(d4 a0.fTypes)),(29,(I (a0.fTypes.length:Int))),(30,(I x0)),(59,(c8 o0.fFields)),(60,(I (o0.fFields.length:Int))),(61,(I x1)),(71,(Bo false)),(72,(Pt 10)),(73,(Sr o1.2.fName)),(74,(V.ptr 10 0 1)),(75,(I o1.2.fAt)),(76,(Sr v4)),(77,(V.ptr 10 0 2)),(78,(I o1.2.fBytes))])) Z Z Z) $ et (b4 (x:=(strconv_Itoa k o1.2.fBytes)) (w:=fun v5=>(Sr v5)) Z Z Z Z Z (j9 Z Z Z Z Z (A0 k o1.2.fBytes) (.inl Z))) $ j2 fun v5=>et (W2 (m:=0) (j:=10) (st':=⟨(cV [(11,(Sr ([77]:Str))),(28,(d4 a0.fTypes)),(29,(I (a0.fTypes.length:Int))),(30,(I x0)),(59,(c8 o0.fFields)),(60,(I (o0.fFields.length:Int))),(61,(I x1)),(71,(Bo false)),(72,(Pt 10)),(73,(Sr o1.2.fName)),(74,(V.ptr 10 0 1)),(75,(I o1.2.fAt)),(76,(Sr v4)),(77,(V.ptr 10 0 2)),(78,(I o1.2.fBytes)),(79,(Sr v5)),(80,(Sr ([77]:Str))),(81,(sS (([([70,73,69,76,68]:Str),o1.2.fName,v4,v5,([77]:Str)]:List Str))))]),[(1,vS 4 (j5 a0)),(4,⟨false,2,[(V.agg [V.tp 4 60,V.row 5 x2])]⟩),(6,vS 8 (d9 o0)),(10,vS 3 (j3 o1.2))],133⟩) Z Z Z) $ et (B2 (x:=(w8 k x2 ([([70,73,69,76,68]:Str),o1.2.fName,v4,v5,([77]:Str)]:List Str))) (w:=fun (v6:(Str))=>((V.tup []),_)) Z Z Z Z (I2 (fr:=fun (v6:(Str))=>(V.tup [])) (fe:=fun (v6:(Str))=>(V.agg [V.tp 0 60,V.row 5 v6])) (fe':=fun (v6:(Str))=>(V.agg [V.tp 4 60,V.row 5 v6])) Z Z Z Z Z Z Z (K4 k x2 ([([70,73,69,76,68]:Str),o1.2.fName,v4,v5,([77]:Str)]:List Str)) (fun _=>rfl))) $ u7 fun v6=>b6 Z) fun o3=>et j8 $ kl ⟨(ay [(28,(d4 a0.fTypes)),(29,(I (a0.fTypes.length:Int))),(30,(I x0)),(59,(c8 o0.fFields)),(60,(I (o0.fFields.length:Int))),(61,(I (sqW (x1+1))))]),[(1,vS 4 (j5 a0)),(4,⟨false,2,[(V.agg [V.tp 4 60,V.row 5 o3])]⟩),(6,vS 8 (d9 o0))],133⟩ rfl $ et j7 $ ih (sqW (x1+1)) o3
   ·rw [hc]
    exact et l7 $ kdl wg Z (fun (o4:Str)=>⟨(ay [(28,(d4 a0.fTypes)),(29,(I (a0.fTypes.length:Int))),(30,(I x0)),(59,(c8 o0.fFields)),(60,(I (o0.fFields.length:Int))),(61,(I x1))]),[(1,vS 4 (j5 a0)),(4,⟨false,2,[(V.agg [V.tp 4 60,V.row 5 o4])]⟩),(6,vS 8 (d9 o0))],133⟩) (et (k0 (p:=10) (dk:=true) (t:=(cV [(11,(Sr ([45]:Str))),(28,(d4 a0.fTypes)),(29,(I (a0.fTypes.length:Int))),(30,(I x0)),(59,(c8 o0.fFields)),(60,(I (o0.fFields.length:Int))),(61,(I x1)),(69,(Bo false))])) (σ:=[(1,vS 4 (j5 a0)),(4,⟨false,2,[(V.agg [V.tp 4 60,V.row 5 x2])]⟩),(6,vS 8 (d9 o0)),(10,vS 3 (j3 o1.2))]) (n:=133) Z (by decide) (by decide) Z) $ et (l9 (m:=4) (j:=4) (t':=(cV [(11,(Sr ([45]:Str))),(28,(d4 a0.fTypes)),(29,(I (a0.fTypes.length:Int))),(30,(I x0)),(59,(c8 o0.fFields)),(60,(I (o0.fFields.length:Int))),(61,(I x1)),(69,(Bo false)),(72,(Pt 10)),(73,(Sr o1.2.fName)),(74,(V.ptr 10 0 1)),(75,(I o1.2.fAt))])) Z Z Z) $ et (b4 (x:=(strconv_Itoa k o1.2.fAt)) (w:=fun v7=>(Sr v7)) Z Z Z Z Z (j9 Z Z Z Z Z (A0 k o1.2.fAt) (.inl Z))) $ j2 fun v7=>et (b9 (m:=2) (j:=7) (t':=(cV [(11,(Sr ([45]:Str))),(28,(d4 a0.fTypes)),(29,(I (a0.fTypes.length:Int))),(30,(I x0)),(59,(c8 o0.fFields)),(60,(I (o0.fFields.length:Int))),(61,(I x1)),(69,(Bo false)),(72,(Pt 10)),(73,(Sr o1.2.fName)),(74,(V.ptr 10 0 1)),(75,(I o1.2.fAt)),(76,(Sr v7)),(77,(V.ptr 10 0 2)),(78,(I o1.2.fBytes))])) Z Z Z) $ et (b4 (x:=(strconv_Itoa k o1.2.fBytes)) (w:=fun v8=>(Sr v8)) Z Z Z Z Z (j9 Z Z Z Z Z (A0 k o1.2.fBytes) (.inl Z))) $ j2 fun v8=>et (W2 (m:=0) (j:=10) (st':=⟨(cV [(11,(Sr ([45]:Str))),(28,(d4 a0.fTypes)),(29,(I (a0.fTypes.length:Int))),(30,(I x0)),(59,(c8 o0.fFields)),(60,(I (o0.fFields.length:Int))),(61,(I x1)),(69,(Bo false)),(72,(Pt 10)),(73,(Sr o1.2.fName)),(74,(V.ptr 10 0 1)),(75,(I o1.2.fAt)),(76,(Sr v7)),(77,(V.ptr 10 0 2)),(78,(I o1.2.fBytes)),(79,(Sr v8)),(80,(Sr ([45]:Str))),(81,(sS (([([70,73,69,76,68]:Str),o1.2.fName,v7,v8,([45]:Str)]:List Str))))]),[(1,vS 4 (j5 a0)),(4,⟨false,2,[(V.agg [V.tp 4 60,V.row 5 x2])]⟩),(6,vS 8 (d9 o0)),(10,vS 3 (j3 o1.2))],133⟩) Z Z Z) $ et (B2 (x:=(w8 k x2 ([([70,73,69,76,68]:Str),o1.2.fName,v7,v8,([45]:Str)]:List Str))) (w:=fun (v9:(Str))=>((V.tup []),_)) Z Z Z Z (I2 (fr:=fun (v9:(Str))=>(V.tup [])) (fe:=fun (v9:(Str))=>(V.agg [V.tp 0 60,V.row 5 v9])) (fe':=fun (v9:(Str))=>(V.agg [V.tp 4 60,V.row 5 v9])) Z Z Z Z Z Z Z (K4 k x2 ([([70,73,69,76,68]:Str),o1.2.fName,v7,v8,([45]:Str)]:List Str)) (fun _=>rfl))) $ u7 fun v9=>b6 Z) fun o4=>et j8 $ kl ⟨(ay [(28,(d4 a0.fTypes)),(29,(I (a0.fTypes.length:Int))),(30,(I x0)),(59,(c8 o0.fFields)),(60,(I (o0.fFields.length:Int))),(61,(I (sqW (x1+1))))]),[(1,vS 4 (j5 a0)),(4,⟨false,2,[(V.agg [V.tp 4 60,V.row 5 o4])]⟩),(6,vS 8 (d9 o0))],133⟩ rfl $ et j7 $ ih (sqW (x1+1)) o4
  ·rw [hc]
   exact et C7 $ et s6 $ hK0 x1 x2
theorem lb (k:Nat) (a0:a6)  (K0:Int→Str→Option (Str×Int)) (Kst:X×St→Option (V×List V)) (hK0:∀ (y0:Int) (y1:Str),Kst (X.exit 0,⟨(ax [(28,(d4 a0.fTypes)),(29,(I (a0.fTypes.length:Int))),(30,(I y0)),(31,(Bo false))]),[(1,vS 4 (j5 a0)),(4,⟨false,2,[(V.agg [V.tp 4 60,V.row 5 y1])]⟩)],133⟩)=(K0 y0 y1).map K9) (hret:∀ s,Kst (X.ret,s)=R6 prog 133 [(j5 a0)] [] [.tmp 2,.tmp 3] (X.ret,s)):
  ∀ (m:Nat) (x0:Int) (x1:Str),(M9 (D0 prog (EV k) f9n k GZ) m ⟨(ax [(28,(d4 a0.fTypes)),(29,(I (a0.fTypes.length:Int))),(30,(I x0))]),[(1,vS 4 (j5 a0)),(4,⟨false,2,[(V.agg [V.tp 4 60,V.row 5 x1])]⟩)],133⟩).bind Kst=(F2 k a0 K0 m x0 x1).map K9:=by
 intro m
 induction m with
 | zero=>intros; rfl
 | succ m ih=>
  intro x0 x1
  unfold F2
  refine et A5 $ kra [(31,(Bo (decide (x0 < (a0.fTypes.length:Int)))))] Z $ kc Z Z (fun hc=>?_) fun hc=>?_
  ·rw [hc]
   refine et l7 $ et (l6 Z) $ kg GX Z (fun (o0:a7)=>⟨(ay [(28,(d4 a0.fTypes)),(29,(I (a0.fTypes.length:Int))),(30,(I x0))]),[(1,vS 4 (j5 a0)),(4,⟨false,2,[(V.agg [V.tp 4 60,V.row 5 x1])]⟩),(6,vS 8 (d9 o0))],133⟩) (rs Z (j6 (e:=d9) Z Z Z underlying23 Z (by decide)) fun v0=>b6 Z) fun o0=>kr ⟨(gP [(8,(Sr ([70]:Str))),(28,(d4 a0.fTypes)),(29,(I (a0.fTypes.length:Int))),(30,(I x0))]),[(1,vS 4 (j5 a0)),(4,⟨false,2,[(V.agg [V.tp 4 60,V.row 5 x1])]⟩),(6,vS 8 (d9 o0))],133⟩ rfl $ et d8 $ kra [(36,(Bo (decide (o0.fParent ≥ 0))))] Z $ kc Z Z (fun hc=>?_) fun hc=>?_
   ·rw [hc]
    refine kg EC Z (fun (o1:Str)=>⟨(tB o1 [(28,(d4 a0.fTypes)),(29,(I (a0.fTypes.length:Int))),(30,(I x0))]),[(1,vS 4 (j5 a0)),(4,⟨false,2,[(V.agg [V.tp 4 60,V.row 5 x1])]⟩),(6,vS 8 (d9 o0))],133⟩) (rd 4 [(37,(V.ptr 1 0 2)),(38,(d4 a0.fTypes)),(39,(V.ptr 6 0 1)),(40,(I o0.fParent))] Z Z $ rp Z (j6 (e:=d9) Z Z Z underlying23 Z (by decide)) fun v1=>b6 Z) fun o1=>et d8 $ kra [(45,(Bo o0.fLast))] Z $ kc Z Z (fun hc=>?_) fun hc=>?_
    ·rw [hc]
     refine kr ⟨(tC o1 [(28,(d4 a0.fTypes)),(29,(I (a0.fTypes.length:Int))),(30,(I x0))]),[(1,vS 4 (j5 a0)),(4,⟨false,2,[(V.agg [V.tp 4 60,V.row 5 x1])]⟩),(6,vS 8 (d9 o0))],133⟩ rfl $ kd sy Z (fun (o2:Str)=>⟨(ay [(28,(d4 a0.fTypes)),(29,(I (a0.fTypes.length:Int))),(30,(I x0))]),[(1,vS 4 (j5 a0)),(4,⟨false,2,[(V.agg [V.tp 4 60,V.row 5 o2])]⟩),(6,vS 8 (d9 o0))],133⟩) (et (k0 (p:=11) (dk:=true) (t:=(tC o1 [(28,(d4 a0.fTypes)),(29,(I (a0.fTypes.length:Int))),(30,(I x0))])) (σ:=[(1,vS 4 (j5 a0)),(4,⟨false,2,[(V.agg [V.tp 4 60,V.row 5 x1])]⟩),(6,vS 8 (d9 o0))]) (n:=133) Z (by decide) (by decide) Z) $ et (l9 (m:=5) (j:=5) (t':=(tC o1 [(28,(d4 a0.fTypes)),(29,(I (a0.fTypes.length:Int))),(30,(I x0)),(46,(Pt 6)),(47,(Sr o0.fName)),(48,(Sr o1)),(49,(V.ptr 6 0 2)),(50,(I o0.fMin))])) Z Z Z) $ et (b4 (x:=(strconv_Itoa k o0.fMin)) (w:=fun v2=>(Sr v2)) Z Z Z Z Z (j9 Z Z Z Z Z (A0 k o0.fMin) (.inl Z))) $ j2 fun v2=>et (b9 (m:=2) (j:=8) (t':=(tC o1 [(28,(d4 a0.fTypes)),(29,(I (a0.fTypes.length:Int))),(30,(I x0)),(46,(Pt 6)),(47,(Sr o0.fName)),(48,(Sr o1)),(49,(V.ptr 6 0 2)),(50,(I o0.fMin)),(51,(Sr v2)),(52,(V.ptr 6 0 3)),(53,(I o0.fSize))])) Z Z Z) $ et (b4 (x:=(strconv_Itoa k o0.fSize)) (w:=fun v3=>(Sr v3)) Z Z Z Z Z (j9 Z Z Z Z Z (A0 k o0.fSize) (.inl Z))) $ j2 fun v3=>et (W2 (m:=0) (j:=11) (st':=⟨(tC o1 [(28,(d4 a0.fTypes)),(29,(I (a0.fTypes.length:Int))),(30,(I x0)),(46,(Pt 6)),(47,(Sr o0.fName)),(48,(Sr o1)),(49,(V.ptr 6 0 2)),(50,(I o0.fMin)),(51,(Sr v2)),(52,(V.ptr 6 0 3)),(53,(I o0.fSize)),(54,(Sr v3)),(55,(Sr ([76]:Str))),(56,(sS (([([83,69,71,77]:Str),o0.fName,o1,v2,v3,([76]:Str)]:List Str))))]),[(1,vS 4 (j5 a0)),(4,⟨false,2,[(V.agg [V.tp 4 60,V.row 5 x1])]⟩),(6,vS 8 (d9 o0))],133⟩) Z Z Z) $ et (B2 (x:=(w8 k x1 ([([83,69,71,77]:Str),o0.fName,o1,v2,v3,([76]:Str)]:List Str))) (w:=fun (v4:(Str))=>((V.tup []),_)) Z Z Z Z (I2 (fr:=fun (v4:(Str))=>(V.tup [])) (fe:=fun (v4:(Str))=>(V.agg [V.tp 0 60,V.row 5 v4])) (fe':=fun (v4:(Str))=>(V.agg [V.tp 4 60,V.row 5 v4])) Z Z Z Z Z Z Z (K4 k x1 ([([83,69,71,77]:Str),o0.fName,o1,v2,v3,([76]:Str)]:List Str)) (fun _=>rfl))) $ u7 fun v4=>b6 Z) fun o2=>krp sA Z ⟨(ay [(28,(d4 a0.fTypes)),(29,(I (a0.fTypes.length:Int))),(30,(I x0)),(59,(c8 o0.fFields)),(60,(I (o0.fFields.length:Int))),(61,(I 0))]),[(1,vS 4 (j5 a0)),(4,⟨false,2,[(V.agg [V.tp 4 60,V.row 5 o2])]⟩),(6,vS 8 (d9 o0))],133⟩ ?_ ?_
     ·exact rd 2 [(58,(V.ptr 6 0 4)),(59,(c8 o0.fFields))] Z Z $ rl Z (w7 (e:=j3) Z Z Z Z Z Z underlying50) $ b6 Z
     refine et (Q5 Z) $ et B3 ?_
     refine T7 k a0 x0 o0 _ _ ?h_dbd_Format_L2_0 ?hr_dbd_Format_L2 k 0 o2
     ·intro y2 y3
      exact et s5 $ et w9 $ et j8 $ kl ⟨(ax [(28,(d4 a0.fTypes)),(29,(I (a0.fTypes.length:Int))),(30,(I (sqW (x0+1))))]),[(1,vS 4 (j5 a0)),(4,⟨false,2,[(V.agg [V.tp 4 60,V.row 5 y3])]⟩)],133⟩ rfl $ et j7 $ ih (sqW (x0+1)) y3
     ·intro s; exact hret s
    ·rw [hc]
     refine et l7 $ kd sy Z (fun (o3:Str)=>⟨(ay [(28,(d4 a0.fTypes)),(29,(I (a0.fTypes.length:Int))),(30,(I x0))]),[(1,vS 4 (j5 a0)),(4,⟨false,2,[(V.agg [V.tp 4 60,V.row 5 o3])]⟩),(6,vS 8 (d9 o0))],133⟩) (et (k0 (p:=11) (dk:=true) (t:=(tB o1 [(28,(d4 a0.fTypes)),(29,(I (a0.fTypes.length:Int))),(30,(I x0)),(45,(Bo false))])) (σ:=[(1,vS 4 (j5 a0)),(4,⟨false,2,[(V.agg [V.tp 4 60,V.row 5 x1])]⟩),(6,vS 8 (d9 o0))]) (n:=133) Z (by decide) (by decide) Z) $ et (l9 (m:=5) (j:=5) (t':=(tB o1 [(28,(d4 a0.fTypes)),(29,(I (a0.fTypes.length:Int))),(30,(I x0)),(45,(Bo false)),(46,(Pt 6)),(47,(Sr o0.fName)),(48,(Sr o1)),(49,(V.ptr 6 0 2)),(50,(I o0.fMin))])) Z Z Z) $ et (b4 (x:=(strconv_Itoa k o0.fMin)) (w:=fun v5=>(Sr v5)) Z Z Z Z Z (j9 Z Z Z Z Z (A0 k o0.fMin) (.inl Z))) $ j2 fun v5=>et (b9 (m:=2) (j:=8) (t':=(tB o1 [(28,(d4 a0.fTypes)),(29,(I (a0.fTypes.length:Int))),(30,(I x0)),(45,(Bo false)),(46,(Pt 6)),(47,(Sr o0.fName)),(48,(Sr o1)),(49,(V.ptr 6 0 2)),(50,(I o0.fMin)),(51,(Sr v5)),(52,(V.ptr 6 0 3)),(53,(I o0.fSize))])) Z Z Z) $ et (b4 (x:=(strconv_Itoa k o0.fSize)) (w:=fun v6=>(Sr v6)) Z Z Z Z Z (j9 Z Z Z Z Z (A0 k o0.fSize) (.inl Z))) $ j2 fun v6=>et (W2 (m:=0) (j:=11) (st':=⟨(tB o1 [(28,(d4 a0.fTypes)),(29,(I (a0.fTypes.length:Int))),(30,(I x0)),(45,(Bo false)),(46,(Pt 6)),(47,(Sr o0.fName)),(48,(Sr o1)),(49,(V.ptr 6 0 2)),(50,(I o0.fMin)),(51,(Sr v5)),(52,(V.ptr 6 0 3)),(53,(I o0.fSize)),(54,(Sr v6)),(55,(Sr ([70]:Str))),(56,(sS (([([83,69,71,77]:Str),o0.fName,o1,v5,v6,([70]:Str)]:List Str))))]),[(1,vS 4 (j5 a0)),(4,⟨false,2,[(V.agg [V.tp 4 60,V.row 5 x1])]⟩),(6,vS 8 (d9 o0))],133⟩) Z Z Z) $ et (B2 (x:=(w8 k x1 ([([83,69,71,77]:Str),o0.fName,o1,v5,v6,([70]:Str)]:List Str))) (w:=fun (v7:(Str))=>((V.tup []),_)) Z Z Z Z (I2 (fr:=fun (v7:(Str))=>(V.tup [])) (fe:=fun (v7:(Str))=>(V.agg [V.tp 0 60,V.row 5 v7])) (fe':=fun (v7:(Str))=>(V.agg [V.tp 4 60,V.row 5 v7])) Z Z Z Z Z Z Z (K4 k x1 ([([83,69,71,77]:Str),o0.fName,o1,v5,v6,([70]:Str)]:List Str)) (fun _=>rfl))) $ u7 fun v7=>b6 Z) fun o3=>krp sA Z ⟨(ay [(28,(d4 a0.fTypes)),(29,(I (a0.fTypes.length:Int))),(30,(I x0)),(59,(c8 o0.fFields)),(60,(I (o0.fFields.length:Int))),(61,(I 0))]),[(1,vS 4 (j5 a0)),(4,⟨false,2,[(V.agg [V.tp 4 60,V.row 5 o3])]⟩),(6,vS 8 (d9 o0))],133⟩ ?_ ?_
     ·exact rd 2 [(58,(V.ptr 6 0 4)),(59,(c8 o0.fFields))] Z Z $ rl Z (w7 (e:=j3) Z Z Z Z Z Z underlying50) $ b6 Z
     refine et (Q5 Z) $ et B3 ?_
     refine T7 k a0 x0 o0 _ _ ?h_dbd_Format_L3_0 ?hr_dbd_Format_L3 k 0 o3
     ·intro y4 y5
      exact et s5 $ et w9 $ et j8 $ kl ⟨(ax [(28,(d4 a0.fTypes)),(29,(I (a0.fTypes.length:Int))),(30,(I (sqW (x0+1))))]),[(1,vS 4 (j5 a0)),(4,⟨false,2,[(V.agg [V.tp 4 60,V.row 5 y5])]⟩)],133⟩ rfl $ et j7 $ ih (sqW (x0+1)) y5
     ·intro s; exact hret s
   ·rw [hc]
    refine et l7 $ et d8 $ kr ⟨(gP [(8,(Sr ([70]:Str))),(28,(d4 a0.fTypes)),(29,(I (a0.fTypes.length:Int))),(30,(I x0)),(45,(Bo o0.fLast))]),[(1,vS 4 (j5 a0)),(4,⟨false,2,[(V.agg [V.tp 4 60,V.row 5 x1])]⟩),(6,vS 8 (d9 o0))],133⟩ rfl $ kc Z Z (fun hc=>?_) fun hc=>?_
    ·rw [hc]
     refine kr ⟨(gP [(8,(Sr ([76]:Str))),(28,(d4 a0.fTypes)),(29,(I (a0.fTypes.length:Int))),(30,(I x0))]),[(1,vS 4 (j5 a0)),(4,⟨false,2,[(V.agg [V.tp 4 60,V.row 5 x1])]⟩),(6,vS 8 (d9 o0))],133⟩ rfl $ kd sy Z (fun (o4:Str)=>⟨(ay [(28,(d4 a0.fTypes)),(29,(I (a0.fTypes.length:Int))),(30,(I x0))]),[(1,vS 4 (j5 a0)),(4,⟨false,2,[(V.agg [V.tp 4 60,V.row 5 o4])]⟩),(6,vS 8 (d9 o0))],133⟩) (et (k0 (p:=11) (dk:=true) (t:=(gP [(8,(Sr ([76]:Str))),(28,(d4 a0.fTypes)),(29,(I (a0.fTypes.length:Int))),(30,(I x0))])) (σ:=[(1,vS 4 (j5 a0)),(4,⟨false,2,[(V.agg [V.tp 4 60,V.row 5 x1])]⟩),(6,vS 8 (d9 o0))]) (n:=133) Z (by decide) (by decide) Z) $ et (l9 (m:=5) (j:=5) (t':=(gP [(8,(Sr ([76]:Str))),(28,(d4 a0.fTypes)),(29,(I (a0.fTypes.length:Int))),(30,(I x0)),(46,(Pt 6)),(47,(Sr o0.fName)),(48,(Sr ([45]:Str))),(49,(V.ptr 6 0 2)),(50,(I o0.fMin))])) Z Z Z) $ et (b4 (x:=(strconv_Itoa k o0.fMin)) (w:=fun v8=>(Sr v8)) Z Z Z Z Z (j9 Z Z Z Z Z (A0 k o0.fMin) (.inl Z))) $ j2 fun v8=>et (b9 (m:=2) (j:=8) (t':=(gP [(8,(Sr ([76]:Str))),(28,(d4 a0.fTypes)),(29,(I (a0.fTypes.length:Int))),(30,(I x0)),(46,(Pt 6)),(47,(Sr o0.fName)),(48,(Sr ([45]:Str))),(49,(V.ptr 6 0 2)),(50,(I o0.fMin)),(51,(Sr v8)),(52,(V.ptr 6 0 3)),(53,(I o0.fSize))])) Z Z Z) $ et (b4 (x:=(strconv_Itoa k o0.fSize)) (w:=fun v9=>(Sr v9)) Z Z Z Z Z (j9 Z Z Z Z Z (A0 k o0.fSize) (.inl Z))) $ j2 fun v9=>et (W2 (m:=0) (j:=11) (st':=⟨(gP [(8,(Sr ([76]:Str))),(28,(d4 a0.fTypes)),(29,(I (a0.fTypes.length:Int))),(30,(I x0)),(46,(Pt 6)),(47,(Sr o0.fName)),(48,(Sr ([45]:Str))),(49,(V.ptr 6 0 2)),(50,(I o0.fMin)),(51,(Sr v8)),(52,(V.ptr 6 0 3)),(53,(I o0.fSize)),(54,(Sr v9)),(55,(Sr ([76]:Str))),(56,(sS (([([83,69,71,77]:Str),o0.fName,([45]:Str),v8,v9,([76]:Str)]:List Str))))]),[(1,vS 4 (j5 a0)),(4,⟨false,2,[(V.agg [V.tp 4 60,V.row 5 x1])]⟩),(6,vS 8 (d9 o0))],133⟩) Z Z Z) $ et (B2 (x:=(w8 k x1 ([([83,69,71,77]:Str),o0.fName,([45]:Str),v8,v9,([76]:Str)]:List Str))) (w:=fun (va:(Str))=>((V.tup []),_)) Z Z Z Z (I2 (fr:=fun (va:(Str))=>(V.tup [])) (fe:=fun (va:(Str))=>(V.agg [V.tp 0 60,V.row 5 va])) (fe':=fun (va:(Str))=>(V.agg [V.tp 4 60,V.row 5 va])) Z Z Z Z Z Z Z (K4 k x1 ([([83,69,71,77]:Str),o0.fName,([45]:Str),v8,v9,([76]:Str)]:List Str)) (fun _=>rfl))) $ u7 fun va=>b6 Z) fun o4=>krp sA Z ⟨(ay [(28,(d4 a0.fTypes)),(29,(I (a0.fTypes.length:Int))),(30,(I x0)),(59,(c8 o0.fFields)),(60,(I (o0.fFields.length:Int))),(61,(I 0))]),[(1,vS 4 (j5 a0)),(4,⟨false,2,[(V.agg [V.tp 4 60,V.row 5 o4])]⟩),(6,vS 8 (d9 o0))],133⟩ ?_ ?_
     ·exact rd 2 [(58,(V.ptr 6 0 4)),(59,(c8 o0.fFields))] Z Z $ rl Z (w7 (e:=j3) Z Z Z Z Z Z underlying50) $ b6 Z
     refine et (Q5 Z) $ et B3 ?_
     refine T7 k a0 x0 o0 _ _ ?h_dbd_Format_L4_0 ?hr_dbd_Format_L4 k 0 o4
     ·intro y6 y7
      exact et s5 $ et w9 $ et j8 $ kl ⟨(ax [(28,(d4 a0.fTypes)),(29,(I (a0.fTypes.length:Int))),(30,(I (sqW (x0+1))))]),[(1,vS 4 (j5 a0)),(4,⟨false,2,[(V.agg [V.tp 4 60,V.row 5 y7])]⟩)],133⟩ rfl $ et j7 $ ih (sqW (x0+1)) y7
     ·intro s; exact hret s
    ·rw [hc]
     refine et l7 $ kd sy Z (fun (o5:Str)=>⟨(ay [(28,(d4 a0.fTypes)),(29,(I (a0.fTypes.length:Int))),(30,(I x0))]),[(1,vS 4 (j5 a0)),(4,⟨false,2,[(V.agg [V.tp 4 60,V.row 5 o5])]⟩),(6,vS 8 (d9 o0))],133⟩) (et (k0 (p:=11) (dk:=true) (t:=(gP [(8,(Sr ([70]:Str))),(28,(d4 a0.fTypes)),(29,(I (a0.fTypes.length:Int))),(30,(I x0)),(45,(Bo false))])) (σ:=[(1,vS 4 (j5 a0)),(4,⟨false,2,[(V.agg [V.tp 4 60,V.row 5 x1])]⟩),(6,vS 8 (d9 o0))]) (n:=133) Z (by decide) (by decide) Z) $ et (l9 (m:=5) (j:=5) (t':=(gP [(8,(Sr ([70]:Str))),(28,(d4 a0.fTypes)),(29,(I (a0.fTypes.length:Int))),(30,(I x0)),(45,(Bo false)),(46,(Pt 6)),(47,(Sr o0.fName)),(48,(Sr ([45]:Str))),(49,(V.ptr 6 0 2)),(50,(I o0.fMin))])) Z Z Z) $ et (b4 (x:=(strconv_Itoa k o0.fMin)) (w:=fun vb=>(Sr vb)) Z Z Z Z Z (j9 Z Z Z Z Z (A0 k o0.fMin) (.inl Z))) $ j2 fun vb=>et (b9 (m:=2) (j:=8) (t':=(gP [(8,(Sr ([70]:Str))),(28,(d4 a0.fTypes)),(29,(I (a0.fTypes.length:Int))),(30,(I x0)),(45,(Bo false)),(46,(Pt 6)),(47,(Sr o0.fName)),(48,(Sr ([45]:Str))),(49,(V.ptr 6 0 2)),(50,(I o0.fMin)),(51,(Sr vb)),(52,(V.ptr 6 0 3)),(53,(I o0.fSize))])) Z Z Z) $ et (b4 (x:=(strconv_Itoa k o0.fSize)) (w:=fun vc=>(Sr vc)) Z Z Z Z Z (j9 Z Z Z Z Z (A0 k o0.fSize) (.inl Z))) $ j2 fun vc=>et (W2 (m:=0) (j:=11) (st':=⟨(gP [(8,(Sr ([70]:Str))),(28,(d4 a0.fTypes)),(29,(I (a0.fTypes.length:Int))),(30,(I x0)),(45,(Bo false)),(46,(Pt 6)),(47,(Sr o0.fName)),(48,(Sr ([45]:Str))),(49,(V.ptr 6 0 2)),(50,(I o0.fMin)),(51,(Sr vb)),(52,(V.ptr 6 0 3)),(53,(I o0.fSize)),(54,(Sr vc)),(55,(Sr ([70]:Str))),(56,(sS (([([83,69,71,77]:Str),o0.fName,([45]:Str),vb,vc,([70]:Str)]:List Str))))]),[(1,vS 4 (j5 a0)),(4,⟨false,2,[(V.agg [V.tp 4 60,V.row 5 x1])]⟩),(6,vS 8 (d9 o0))],133⟩) Z Z Z) $ et (B2 (x:=(w8 k x1 ([([83,69,71,77]:Str),o0.fName,([45]:Str),vb,vc,([70]:Str)]:List Str))) (w:=fun (vd:(Str))=>((V.tup []),_)) Z Z Z Z (I2 (fr:=fun (vd:(Str))=>(V.tup [])) (fe:=fun (vd:(Str))=>(V.agg [V.tp 0 60,V.row 5 vd])) (fe':=fun (vd:(Str))=>(V.agg [V.tp 4 60,V.row 5 vd])) Z Z Z Z Z Z Z (K4 k x1 ([([83,69,71,77]:Str),o0.fName,([45]:Str),vb,vc,([70]:Str)]:List Str)) (fun _=>rfl))) $ u7 fun vd=>b6 Z) fun o5=>krp sA Z ⟨(ay [(28,(d4 a0.fTypes)),(29,(I (a0.fTypes.length:Int))),(30,(I x0)),(59,(c8 o0.fFields)),(60,(I (o0.fFields.length:Int))),(61,(I 0))]),[(1,vS 4 (j5 a0)),(4,⟨false,2,[(V.agg [V.tp 4 60,V.row 5 o5])]⟩),(6,vS 8 (d9 o0))],133⟩ ?_ ?_
     ·exact rd 2 [(58,(V.ptr 6 0 4)),(59,(c8 o0.fFields))] Z Z $ rl Z (w7 (e:=j3) Z Z Z Z Z Z underlying50) $ b6 Z
     refine et (Q5 Z) $ et B3 ?_
     refine T7 k a0 x0 o0 _ _ ?h_dbd_Format_L5_0 ?hr_dbd_Format_L5 k 0 o5
     ·intro y8 y9
      exact et s5 $ et w9 $ et j8 $ kl ⟨(ax [(28,(d4 a0.fTypes)),(29,(I (a0.fTypes.length:Int))),(30,(I (sqW (x0+1))))]),[(1,vS 4 (j5 a0)),(4,⟨false,2,[(V.agg [V.tp 4 60,V.row 5 y9])]⟩)],133⟩ rfl $ et j7 $ ih (sqW (x0+1)) y9
     ·intro s; exact hret s
  ·rw [hc]
   exact et C7 $ et s6 $ hK0 x0 x1
theorem lc (k:Nat) (a0:a6)  (K0:Int→Str→Option (Str×Int)) (Kst:X×St→Option (V×List V)) (hK0:∀ (y0:Int) (y1:Str),Kst (X.exit 4,⟨(ax [(86,(i8 a0.fIndexes)),(87,(I (a0.fIndexes.length:Int))),(88,(I y0)),(89,(Bo false))]),[(1,vS 4 (j5 a0)),(4,⟨false,2,[(V.agg [V.tp 4 60,V.row 5 y1])]⟩)],133⟩)=(K0 y0 y1).map K9) (hret:∀ s,Kst (X.ret,s)=R6 prog 133 [(j5 a0)] [] [.tmp 2,.tmp 3] (X.ret,s)):
  ∀ (m:Nat) (x0:Int) (x1:Str),(M9 (D0 prog (EV k) f9n k Ha) m ⟨(ax [(86,(i8 a0.fIndexes)),(87,(I (a0.fIndexes.length:Int))),(88,(I x0))]),[(1,vS 4 (j5 a0)),(4,⟨false,2,[(V.agg [V.tp 4 60,V.row 5 x1])]⟩)],133⟩).bind Kst=(J9 k a0 K0 m x0 x1).map K9:=by
 intro m
 induction m with
 | zero=>intros; rfl
 | succ m ih=>
  intro x0 x1
  unfold J9
  refine et A5 $ kra [(89,(Bo (decide (x0 < (a0.fIndexes.length:Int)))))] Z $ kc Z Z (fun hc=>?_) fun hc=>?_
  ·rw [hc]
   refine et l7 $ et (l6 Z) $ kg EF Z (fun (o0:a8)=>⟨(dz [(86,(i8 a0.fIndexes)),(87,(I (a0.fIndexes.length:Int))),(88,(I x0))]),[(1,vS 4 (j5 a0)),(4,⟨false,2,[(V.agg [V.tp 4 60,V.row 5 x1])]⟩),(13,vS 4 (d7 o0))],133⟩) (rs Z (j6 (e:=d7) Z Z Z underlying24 Z (by decide)) fun v0=>b6 Z) fun o0=>kr ⟨(dz [(14,(Sr ([45]:Str))),(86,(i8 a0.fIndexes)),(87,(I (a0.fIndexes.length:Int))),(88,(I x0))]),[(1,vS 4 (j5 a0)),(4,⟨false,2,[(V.agg [V.tp 4 60,V.row 5 x1])]⟩),(13,vS 4 (d7 o0))],133⟩ rfl $ et d8 $ kra [(94,(Bo (!(o0.fSparse == ([]:Str)))))] Z $ kc Z Z (fun hc=>?_) fun hc=>?_
   ·rw [hc]
    exact et d8 $ kg EG Z (fun (o1:Int)=>⟨(dz [(15,(sqU o1)),(86,(i8 a0.fIndexes)),(87,(I (a0.fIndexes.length:Int))),(88,(I x0))]),[(1,vS 4 (j5 a0)),(4,⟨false,2,[(V.agg [V.tp 4 60,V.row 5 x1])]⟩),(13,vS 4 (d7 o0))],133⟩) (rd 2 [(95,(V.ptr 13 0 3)),(96,(Sr o0.fSparse))] Z Z $ rs Z (M0 Z Z Z underlying9) fun v1=>b6 Z) fun o1=>kd EH Z (fun (o2:Str)=>⟨(dz [(14,(Sr o2)),(86,(i8 a0.fIndexes)),(87,(I (a0.fIndexes.length:Int))),(88,(I x0))]),[(1,vS 4 (j5 a0)),(4,⟨false,2,[(V.agg [V.tp 4 60,V.row 5 x1])]⟩),(13,vS 4 (d7 o0))],133⟩) (et (k0 (p:=14) (dk:=true) (t:=(dz [(15,(sqU o1)),(86,(i8 a0.fIndexes)),(87,(I (a0.fIndexes.length:Int))),(88,(I x0))])) (σ:=[(1,vS 4 (j5 a0)),(4,⟨false,2,[(V.agg [V.tp 4 60,V.row 5 x1])]⟩),(13,vS 4 (d7 o0))]) (n:=133) Z (by decide) (by decide) Z) $ et (l9 (m:=1) (j:=1) (t':=(dz [(15,(sqU o1)),(86,(i8 a0.fIndexes)),(87,(I (a0.fIndexes.length:Int))),(88,(I x0)),(98,(sqU o1))])) Z Z Z) $ et (b4 (x:=(rF .u8 o1 4)) (w:=fun v2=>(sqU v2)) Z Z Z Z Z (EL Z Z Z)) $ j2 fun v2=>et (b9 (m:=1) (j:=3) (t':=(dz [(15,(sqU o1)),(86,(i8 a0.fIndexes)),(87,(I (a0.fIndexes.length:Int))),(88,(I x0)),(98,(sqU o1)),(99,(sqU v2)),(100,(sqU o1))])) Z Z Z) $ et (b4 (x:=(rF .u8 o1 4)) (w:=fun v3=>(sqU v3)) Z Z Z Z Z (EL Z Z Z)) $ j2 fun v3=>et (b9 (m:=1) (j:=5) (t':=(dz [(15,(sqU o1)),(86,(i8 a0.fIndexes)),(87,(I (a0.fIndexes.length:Int))),(88,(I x0)),(98,(sqU o1)),(99,(sqU v2)),(100,(sqU o1)),(101,(sqU v3)),(102,(sqU (sqB (v3+1))))])) Z Z Z) $ et (b4 (x:=(cut ([48,49,50,51,52,53,54,55,56,57,97,98,99,100,101,102]:Str) v2 (sqB (v3+1)))) (w:=fun v4=>(Sr v4)) Z Z Z Z Z (kt Z Z Z Z Z Z underlying9)) $ j2 fun v4=>et (b9 (m:=5) (j:=11) (t':=(dz [(15,(sqU o1)),(86,(i8 a0.fIndexes)),(87,(I (a0.fIndexes.length:Int))),(88,(I x0)),(98,(sqU o1)),(99,(sqU v2)),(100,(sqU o1)),(101,(sqU v3)),(102,(sqU (sqB (v3+1)))),(103,(Sr v4)),(104,(sqU o1)),(105,(sqU (kW .u8 o1 15))),(106,(sqU o1)),(107,(sqU (kW .u8 o1 15))),(108,(sqU (sqB ((kW .u8 o1 15)+1))))])) Z Z Z) $ et (b4 (x:=(cut ([48,49,50,51,52,53,54,55,56,57,97,98,99,100,101,102]:Str) (kW .u8 o1 15) (sqB ((kW .u8 o1 15)+1)))) (w:=fun v5=>(Sr v5)) Z Z Z Z Z (kt Z Z Z Z Z Z underlying9)) $ j2 fun v5=>et (b9 (m:=0) (j:=12) (t':=(dz [(15,(sqU o1)),(86,(i8 a0.fIndexes)),(87,(I (a0.fIndexes.length:Int))),(88,(I x0)),(98,(sqU o1)),(99,(sqU v2)),(100,(sqU o1)),(101,(sqU v3)),(102,(sqU (sqB (v3+1)))),(103,(Sr v4)),(104,(sqU o1)),(105,(sqU (kW .u8 o1 15))),(106,(sqU o1)),(107,(sqU (kW .u8 o1 15))),(108,(sqU (sqB ((kW .u8 o1 15)+1)))),(109,(Sr v5))])) Z Z Z) $ et (b4 (x:=(cat v4 v5)) (w:=fun v6=>(Sr v6)) Z Z Z Z Z (m8 Z Z Z)) $ u7 fun v6=>s7 Z) fun o2=>kg zf Z (fun (o3:a7)=>⟨(dz [(14,(Sr o2)),(16,(Pt 16)),(86,(i8 a0.fIndexes)),(87,(I (a0.fIndexes.length:Int))),(88,(I x0))]),[(1,vS 4 (j5 a0)),(4,⟨false,2,[(V.agg [V.tp 4 60,V.row 5 x1])]⟩),(13,vS 4 (d7 o0)),(16,vS 8 (d9 o3))],133⟩) (rd 4 [(111,(V.ptr 1 0 2)),(112,(d4 a0.fTypes)),(113,(V.ptr 13 0 1)),(114,(I o0.fType))] Z Z $ rs Z (j6 (e:=d9) Z Z Z underlying23 Z (by decide)) fun v7=>b6 Z) fun o3=>kdl zg Z (fun (o4:Str)=>⟨(ax [(86,(i8 a0.fIndexes)),(87,(I (a0.fIndexes.length:Int))),(88,(I x0))]),[(1,vS 4 (j5 a0)),(4,⟨false,2,[(V.agg [V.tp 4 60,V.row 5 o4])]⟩)],133⟩) (et (k0 (p:=13) (dk:=true) (t:=(dz [(14,(Sr o2)),(16,(Pt 16)),(86,(i8 a0.fIndexes)),(87,(I (a0.fIndexes.length:Int))),(88,(I x0))])) (σ:=[(1,vS 4 (j5 a0)),(4,⟨false,2,[(V.agg [V.tp 4 60,V.row 5 x1])]⟩),(13,vS 4 (d7 o0)),(16,vS 8 (d9 o3))]) (n:=133) Z (by decide) (by decide) Z) $ et (l9 (m:=8) (j:=8) (t':=(dz [(14,(Sr o2)),(16,(Pt 16)),(86,(i8 a0.fIndexes)),(87,(I (a0.fIndexes.length:Int))),(88,(I x0)),(117,(Pt 13)),(118,(Sr o0.fName)),(119,(Pt 16)),(120,(Sr o3.fName)),(121,(V.ptr 16 0 4)),(122,(c8 o3.fFields)),(123,(V.ptr 13 0 2)),(124,(I o0.fField))])) Z Z Z) $ et (b4 (x:=(idx o3.fFields o0.fField)) (w:=fun v8=>(Pr (j3 v8))) Z Z Z Z Z (j6 (e:=j3) Z Z Z underlying50 Z (by decide))) $ j2 fun v8=>et (W2 (m:=0) (j:=13) (st':=⟨(dz [(14,(Sr o2)),(16,(Pt 16)),(86,(i8 a0.fIndexes)),(87,(I (a0.fIndexes.length:Int))),(88,(I x0)),(117,(Pt 13)),(118,(Sr o0.fName)),(119,(Pt 16)),(120,(Sr o3.fName)),(121,(V.ptr 16 0 4)),(122,(c8 o3.fFields)),(123,(V.ptr 13 0 2)),(124,(I o0.fField)),(125,(Pr (j3 v8))),(126,(Pr (Sr v8.fName))),(127,(Sr v8.fName)),(128,(Sr o2)),(129,(sS (([([73,78,68,69,88]:Str),o0.fName,o3.fName,v8.fName,o2]:List Str))))]),[(1,vS 4 (j5 a0)),(4,⟨false,2,[(V.agg [V.tp 4 60,V.row 5 x1])]⟩),(13,vS 4 (d7 o0)),(16,vS 8 (d9 o3))],133⟩) Z Z Z) $ et (B2 (x:=(w8 k x1 ([([73,78,68,69,88]:Str),o0.fName,o3.fName,v8.fName,o2]:List Str))) (w:=fun (v9:(Str))=>((V.tup []),_)) Z Z Z Z (I2 (fr:=fun (v9:(Str))=>(V.tup [])) (fe:=fun (v9:(Str))=>(V.agg [V.tp 0 60,V.row 5 v9])) (fe':=fun (v9:(Str))=>(V.agg [V.tp 4 60,V.row 5 v9])) Z Z Z Z Z Z Z (K4 k x1 ([([73,78,68,69,88]:Str),o0.fName,o3.fName,v8.fName,o2]:List Str)) (fun _=>rfl))) $ u7 fun v9=>b6 Z) fun o4=>et j8 $ kl ⟨(ax [(86,(i8 a0.fIndexes)),(87,(I (a0.fIndexes.length:Int))),(88,(I (sqW (x0+1))))]),[(1,vS 4 (j5 a0)),(4,⟨false,2,[(V.agg [V.tp 4 60,V.row 5 o4])]⟩)],133⟩ rfl $ et j7 $ ih (sqW (x0+1)) o4
   ·rw [hc]
    exact et l7 $ kg zf Z (fun (o5:a7)=>⟨(wQ [(86,(i8 a0.fIndexes)),(87,(I (a0.fIndexes.length:Int))),(88,(I x0))]),[(1,vS 4 (j5 a0)),(4,⟨false,2,[(V.agg [V.tp 4 60,V.row 5 x1])]⟩),(13,vS 4 (d7 o0)),(16,vS 8 (d9 o5))],133⟩) (rd 4 [(111,(V.ptr 1 0 2)),(112,(d4 a0.fTypes)),(113,(V.ptr 13 0 1)),(114,(I o0.fType))] Z Z $ rs Z (j6 (e:=d9) Z Z Z underlying23 Z (by decide)) fun va=>b6 Z) fun o5=>kdl zg Z (fun (o6:Str)=>⟨(ax [(86,(i8 a0.fIndexes)),(87,(I (a0.fIndexes.length:Int))),(88,(I x0))]),[(1,vS 4 (j5 a0)),(4,⟨false,2,[(V.agg [V.tp 4 60,V.row 5 o6])]⟩)],133⟩) (et (k0 (p:=13) (dk:=true) (t:=(wQ [(86,(i8 a0.fIndexes)),(87,(I (a0.fIndexes.length:Int))),(88,(I x0))])) (σ:=[(1,vS 4 (j5 a0)),(4,⟨false,2,[(V.agg [V.tp 4 60,V.row 5 x1])]⟩),(13,vS 4 (d7 o0)),(16,vS 8 (d9 o5))]) (n:=133) Z (by decide) (by decide) Z) $ et (l9 (m:=8) (j:=8) (t':=(wQ [(86,(i8 a0.fIndexes)),(87,(I (a0.fIndexes.length:Int))),(88,(I x0)),(117,(Pt 13)),(118,(Sr o0.fName)),(119,(Pt 16)),(120,(Sr o5.fName)),(121,(V.ptr 16 0 4)),(122,(c8 o5.fFields)),(123,(V.ptr 13 0 2)),(124,(I o0.fField))])) Z Z Z) $ et (b4 (x:=(idx o5.fFields o0.fField)) (w:=fun vb=>(Pr (j3 vb))) Z Z Z Z Z (j6 (e:=j3) Z Z Z underlying50 Z (by decide))) $ j2 fun vb=>et (W2 (m:=0) (j:=13) (st':=⟨(wQ [(86,(i8 a0.fIndexes)),(87,(I (a0.fIndexes.length:Int))),(88,(I x0)),(117,(Pt 13)),(118,(Sr o0.fName)),(119,(Pt 16)),(120,(Sr o5.fName)),(121,(V.ptr 16 0 4)),(122,(c8 o5.fFields)),(123,(V.ptr 13 0 2)),(124,(I o0.fField)),(125,(Pr (j3 vb))),(126,(Pr (Sr vb.fName))),(127,(Sr vb.fName)),(128,(Sr ([45]:Str))),(129,(sS (([([73,78,68,69,88]:Str),o0.fName,o5.fName,vb.fName,([45]:Str)]:List Str))))]),[(1,vS 4 (j5 a0)),(4,⟨false,2,[(V.agg [V.tp 4 60,V.row 5 x1])]⟩),(13,vS 4 (d7 o0)),(16,vS 8 (d9 o5))],133⟩) Z Z Z) $ et (B2 (x:=(w8 k x1 ([([73,78,68,69,88]:Str),o0.fName,o5.fName,vb.fName,([45]:Str)]:List Str))) (w:=fun (vc:(Str))=>((V.tup []),_)) Z Z Z Z (I2 (fr:=fun (vc:(Str))=>(V.tup [])) (fe:=fun (vc:(Str))=>(V.agg [V.tp 0 60,V.row 5 vc])) (fe':=fun (vc:(Str))=>(V.agg [V.tp 4 60,V.row 5 vc])) Z Z Z Z Z Z Z (K4 k x1 ([([73,78,68,69,88]:Str),o0.fName,o5.fName,vb.fName,([45]:Str)]:List Str)) (fun _=>rfl))) $ u7 fun vc=>b6 Z) fun o6=>et j8 $ kl ⟨(ax [(86,(i8 a0.fIndexes)),(87,(I (a0.fIndexes.length:Int))),(88,(I (sqW (x0+1))))]),[(1,vS 4 (j5 a0)),(4,⟨false,2,[(V.agg [V.tp 4 60,V.row 5 o6])]⟩)],133⟩ rfl $ et j7 $ ih (sqW (x0+1)) o6
  ·rw [hc]
   exact et C7 $ et s6 $ hK0 x0 x1
theorem Q9 (k:Nat) (a0:a6):EV k 9 [(j5 a0)]=(S0 k a0).map K9:=by
 cases k with
 | zero=>rfl
 | succ k=>
  unfold S0
  refine et (l8 (c:=f9c) (N:=133) (regs:=f9n) Z func9 Z (by decide) Z Z Z) $ kr ⟨[(1,(Pt 1))],(xV a0),133⟩ rfl $ et d8 $ kga GU Z (fun (o2:Bool)=>[(19,(Bo o2))]) (rd 1 [(17,(j5 a0))] Z Z $ rp Z (j9 Z Z Z Z Z (eF k a0) (.inl Z)) fun v1=>b6 Z) fun o2=>kc Z Z (fun hc=>?_) fun hc=>?_
  ·rw [hc]
   refine et d8 $ kr ⟨[(2,(Sr ([]:Str))),(3,(I 100))],[],133⟩ rfl $ et L6 ?_
   rfl
  ·rw [hc]
   refine et l7 $ kr ⟨(ax []),(FO a0),133⟩ rfl $ kd GV Z (fun (o5:Str)=>⟨(ax []),[(1,vS 4 (j5 a0)),(4,⟨false,2,[(V.agg [V.tp 4 60,V.row 5 o5])]⟩)],133⟩) (et (k0 (p:=6) (dk:=true) (t:=(ax [])) (σ:=(FO a0)) (n:=133) Z (by decide) (by decide) Z) $ et (l9 (m:=4) (j:=4) (t':=(ax [(20,(Pt 1)),(21,(Sr a0.fName)),(22,(V.ptr 1 0 1)),(23,(I a0.fKind))])) Z Z Z) $ et (b4 (x:=(strconv_Itoa k a0.fKind)) (w:=fun v3=>(Sr v3)) Z Z Z Z Z (j9 Z Z Z Z Z (A0 k a0.fKind) (.inl Z))) $ j2 fun v3=>et (W2 (m:=0) (j:=6) (st':=⟨(ax [(20,(Pt 1)),(21,(Sr a0.fName)),(22,(V.ptr 1 0 1)),(23,(I a0.fKind)),(24,(Sr v3)),(25,(sS (([([68,66,68]:Str),a0.fName,v3]:List Str))))]),(FO a0),133⟩) Z Z Z) $ et (B2 (x:=(w8 k ([]:Str) ([([68,66,68]:Str),a0.fName,v3]:List Str))) (w:=fun (v4:(Str))=>((V.tup []),_)) Z Z Z Z (I2 (fr:=fun (v4:(Str))=>(V.tup [])) (fe:=fun (v4:(Str))=>(V.agg [V.tp 0 60,V.row 5 v4])) (fe':=fun (v4:(Str))=>(V.agg [V.tp 4 60,V.row 5 v4])) Z Z Z Z Z Z Z (K4 k ([]:Str) ([([68,66,68]:Str),a0.fName,v3]:List Str)) (fun _=>rfl))) $ u7 fun v4=>b6 Z) fun o5=>et d8 $ krp GW Z ⟨(ax [(28,(d4 a0.fTypes)),(29,(I (a0.fTypes.length:Int))),(30,(I 0))]),[(1,vS 4 (j5 a0)),(4,⟨false,2,[(V.agg [V.tp 4 60,V.row 5 o5])]⟩)],133⟩ ?_ ?_
   ·exact rd 2 [(27,(V.ptr 1 0 2)),(28,(d4 a0.fTypes))] Z Z $ rl Z (w7 (e:=d9) Z Z Z Z Z Z underlying23) $ b6 Z
   refine et (l6 Z) $ et B3 ?_
   refine lb k a0 _ _ ?h_dbd_Format_L1_0 ?hr_dbd_Format_L1 k 0 o5
   ·intro y0 y1
    refine et s5 $ et d8 $ krp EE Z ⟨(ax [(86,(i8 a0.fIndexes)),(87,(I (a0.fIndexes.length:Int))),(88,(I 0))]),[(1,vS 4 (j5 a0)),(4,⟨false,2,[(V.agg [V.tp 4 60,V.row 5 y1])]⟩)],133⟩ ?_ ?_
    ·exact rd 2 [(85,(V.ptr 1 0 3)),(86,(i8 a0.fIndexes))] Z Z $ rl Z (w7 (e:=d7) Z Z Z Z Z Z underlying24) $ b6 Z
    refine et (l6 Z) $ et B3 ?_
    refine lc k a0 _ _ ?h_dbd_Format_L6_0 ?hr_dbd_Format_L6 k 0 y1
    ·intro y2 y3
     refine et s5 $ kg EI Z (fun (o0:Str×Int)=>⟨[(2,(Sr o0.1)),(3,(I o0.2))],[],133⟩) (et (B2 (x:=(J8 k y3)) (w:=fun (v0:Str)=>((Sr v0),_)) Z Z Z Z (I2 (fr:=fun (v0:Str)=>(Sr v0)) (fe:=fun (v0:Str)=>(V.agg [V.tp 0 60,V.row 5 v0])) (fe':=fun (v0:Str)=>(V.agg [V.tp 4 60,V.row 5 v0])) Z Z Z Z Z Z Z (db k y3) (fun _=>rfl))) $ j2 fun v0=>b6 Z) fun o0=>et l5 ?_
     rfl
    ·intro s; exact rfl
   ·intro s; exact rfl
def aQ:Bool→V×List V:=fun r=>((Bo r),[])
theorem ji (k:Nat) (a0:Str)  (K0:Int→Option Bool) (Kst:X×St→Option (V×List V)) (hK0:∀ (y0:Int),Kst (X.exit 0,(cS [(0,(Sr a0)),(3,(I y0)),(8,(Bo false))]))=(K0 y0).map aQ) (hret:∀ s,Kst (X.ret,s)=R6 prog 47 [(Sr a0)] [] [.tmp 2] (X.ret,s)):
  ∀ (m:Nat) (x7:Int),(M9 (D0 prog (EV k) Fi k BQ) m (cS [(0,(Sr a0)),(3,(I x7))])).bind Kst=(N2 a0 K0 m x7).map aQ:=by
 intro m
 induction m with
 | zero=>intros; rfl
 | succ m ih=>
  intro x7
  unfold N2
  refine et A5 $ et d8 $ kra [(8,(Bo (decide (x7 < (a0.length:Int)))))] Z $ kc Z Z (fun hc=>?_) fun hc=>?_
  ·rw [hc]
   refine et l7 $ et (l6 Z) $ kg BN Z (fun (o0:Bool)=>(cS [(0,(Sr a0)),(3,(I x7)),(4,(Bo o0))])) ?_ fun o0=>?_
   ·refine rd 2 [(11,(Sr a0)),(12,(I x7))] Z Z $ rp Z (M0 Z Z Z underlying9) fun v8=>bd 5 [(13,(sqU v8)),(14,(Bo (decide (v8 ≥ 65)))),(15,(Bo (decide (v8 ≥ 65))))] Z Z $ u1 (fun hc=>?_) fun hc=>?_
    ·rw [hc]
     exact rd 7 [(16,(Sr a0)),(17,(I x7))] Z Z $ rp Z (M0 Z Z Z underlying9) fun v9=>b6 Z
    ·rw [hc]
     exact i7 Z
   refine kg BO Z (fun (o1:Bool)=>(cS [(0,(Sr a0)),(3,(I x7)),(38,(Bo o1))])) ?_ fun o1=>?_
   ·refine rd 3 [(21,(Bo o0)),(22,(Bo (!o0))),(23,(Bo (!o0)))] Z Z $ u1 (fun hc=>?_) fun hc=>?_
    ·rw [hc]
     refine rd 6 [(24,(I x7)),(25,(Bo (x7 == 0))),(26,(Bo (x7 == 0)))] Z Z $ u1 (fun hc=>?_) fun hc=>?_
     ·rw [hc]
      exact i7 Z
     ·rw [hc]
      refine rd 8 [(27,(Sr a0)),(28,(I x7))] Z Z $ rp Z (M0 Z Z Z underlying9) fun v0=>bd 12 [(29,(sqU v0)),(30,(Bo (decide (v0 < 48)))),(31,(Bo (decide (v0 < 48)))),(32,(Bo (decide (v0 < 48))))] Z Z $ u1 (fun hc=>?_) fun hc=>?_
      ·rw [hc]
       exact i7 Z
      ·rw [hc]
       exact rd 14 [(33,(Sr a0)),(34,(I x7))] Z Z $ rp Z (M0 Z Z Z underlying9) fun v1=>b6 Z
    ·rw [hc]
     exact i7 Z
   refine kcl Z Z (fun hc=>?_) fun hc=>?_
   ·rw [hc]
    refine kr (cS (az [])) Z $ et l5 $ et w6 $ et x9 $ et (hret _) ?_
    rfl
   ·rw [hc]
    exact et w9 $ et j8 $ kl (cS [(0,(Sr a0)),(3,(I (sqW (x7+1))))]) Z $ et j7 $ ih (sqW (x7+1))
  ·rw [hc]
   exact et C7 $ et s6 $ hK0 x7
theorem Q7 (k:Nat) (a0:Str):EV k 13 [(Sr a0)]=(G4 k a0).map aQ:=by
 cases k with
 | zero=>rfl
 | succ k=>
  unfold G4
  refine et (l8 (c:=f13c) (N:=47) (regs:=Fi) Z func13 Z (by decide) Z Z Z) $ kra [] Z $ et d8 $ kra [(3,(I 0))] Z $ et (l6 Z) $ et B3 ?_
  refine ji k a0 _ _ ?h_ref11_IsName_L1_0 ?hr_ref11_IsName_L1 k 0
  ·intro y0
   refine et s5 $ kg BP Z (fun (o0:Bool)=>(cS [(2,(Bo o0))])) ?_ fun o0=>?_
   ·refine rd 4 [(39,(Sr a0)),(40,(I (a0.length:Int))),(41,(Bo (decide ((a0.length:Int) ≥ 1)))),(42,(Bo (decide ((a0.length:Int) ≥ 1))))] Z Z $ u1 (fun hc=>?_) fun hc=>?_
    ·rw [hc]
     exact i7 Z
    ·rw [hc]
     exact i7 Z
   refine et l5 ?_
   rfl
  ·intro s; exact rfl
def P4:Bool→V×List V:=fun r=>((Bo r),[])
theorem jp (k:Nat) (a0:a7) (x0:Int) (o0:b8)  (K0:Int→Option Bool) (Kst:X×St→Option (V×List V)) (hK0:∀ (y0:Int),Kst (X.exit 2,(pV a0 o0 (fH x0 y0 [(51,(Bo false))])))=(K0 y0).map P4) (hret:∀ s,Kst (X.ret,s)=R6 prog 112 [(d9 a0)] [] [.tmp 2] (X.ret,s)):
  ∀ (m:Nat) (x1:Int),(M9 (D0 prog (EV k) AD k CR) m (pV a0 o0 (fH x0 x1 []))).bind Kst=(G9 a0 x0 o0 K0 m x1).map P4:=by
 intro m
 induction m with
 | zero=>intros; rfl
 | succ m ih=>
  intro x1
  unfold G9
  refine et A5 $ et d8 $ kra [(51,(Bo (decide (x1 < x0))))] Z $ kc Z Z (fun hc=>?_) fun hc=>?_
  ·rw [hc]
   refine et l7 $ et (l6 Z) $ kd yS Z (fun (o1:Bool)=>(pV a0 o0 (fH x0 x1 [(62,(Bo o1))]))) (et (k0 (p:=9) (dk:=true) (t:=(fH x0 x1 [(51,(Bo true))])) (σ:=(Hm a0 o0)) (n:=112) Z (by decide) (by decide) Z) $ et (l9 (m:=3) (j:=3) (t':=(fH x0 x1 [(51,(Bo true)),(54,(V.ptr 1 0 4)),(55,(c8 a0.fFields)),(56,(I x1))])) Z Z Z) $ et (b4 (x:=(idx a0.fFields x1)) (w:=fun v0=>(Pr (j3 v0))) Z Z Z Z Z (j6 (e:=j3) Z Z Z underlying50 Z (by decide))) $ j2 fun v0=>s7 Z) fun o1=>kcl Z Z (fun hc=>?_) fun hc=>?_
   ·rw [hc]
    refine kr (wK (az [])) Z $ et l5 $ et w6 $ et x9 $ et (hret _) ?_
    rfl
   ·rw [hc]
    exact et w9 $ et j8 $ kl (pV a0 o0 (fH x0 (sqW (x1+1)) [])) Z $ et j7 $ ih (sqW (x1+1))
  ·rw [hc]
   exact et C7 $ et s6 $ hK0 x1
theorem jo (k:Nat) (a0:a7)  (K0:Int→Option Bool) (Kst:X×St→Option (V×List V)) (hK0:∀ (y0:Int),Kst (X.exit 0,⟨(W6 y0 [(10,(Bo false))]),[(1,vS 8 (d9 a0))],112⟩)=(K0 y0).map P4) (hret:∀ s,Kst (X.ret,s)=R6 prog 112 [(d9 a0)] [] [.tmp 2] (X.ret,s)):
  ∀ (m:Nat) (x0:Int),(M9 (D0 prog (EV k) AD k CS) m ⟨(W6 x0 []),[(1,vS 8 (d9 a0))],112⟩).bind Kst=(J2 k a0 K0 m x0).map P4:=by
 intro m
 induction m with
 | zero=>intros; rfl
 | succ m ih=>
  intro x0
  unfold J2
  refine et A5 $ et d8 $ krp CO Z ⟨(W6 x0 [(10,(Bo (decide (x0 < (a0.fFields.length:Int)))))]),[(1,vS 8 (d9 a0))],112⟩ ?_ ?_
  ·exact rd 3 [(6,(I x0)),(7,(V.ptr 1 0 4)),(8,(c8 a0.fFields))] Z Z $ rl Z (w7 (e:=j3) Z Z Z Z Z Z underlying50) $ b6 Z
  refine kc Z Z (fun hc=>?_) fun hc=>?_
  ·rw [hc]
   refine et l7 $ et (l6 Z) $ kg CP Z (fun (o0:b8)=>(pV a0 o0 (W6 x0 [(4,(Pt 4))]))) (rd 3 [(13,(V.ptr 1 0 4)),(14,(c8 a0.fFields)),(15,(I x0))] Z Z $ rs Z (j6 (e:=j3) Z Z Z underlying50 Z (by decide)) fun v0=>b6 Z) fun o0=>et d8 $ kga CQ Z (fun (o1:Bool)=>[(48,(Bo o1))]) ?_ fun o1=>?_
   ·refine rd 2 [(18,(Pt 4)),(19,(Sr o0.fName))] Z Z $ rp Z (j9 Z Z Z Z Z (Q7 k o0.fName) (.inl Z)) fun v1=>bd 5 [(20,(Bo v1)),(21,(Bo (!v1))),(22,(Bo (!v1)))] Z Z $ u1 (fun hc=>?_) fun hc=>?_
    ·rw [hc]
     exact i7 Z
    ·rw [hc]
     refine rd 10 [(23,(V.ptr 4 0 1)),(24,(I o0.fAt)),(25,(Bo (decide (o0.fAt < 0)))),(26,(Bo (decide (o0.fAt < 0)))),(27,(Bo (decide (o0.fAt < 0))))] Z Z $ u1 (fun hc=>?_) fun hc=>?_
     ·rw [hc]
      exact i7 Z
     ·rw [hc]
      refine rd 17 [(28,(V.ptr 4 0 1)),(29,(I o0.fAt)),(30,(V.ptr 1 0 3)),(31,(I a0.fSize)),(32,(Bo (decide (o0.fAt > a0.fSize)))),(33,(Bo (decide (o0.fAt > a0.fSize)))),(34,(Bo (decide (o0.fAt > a0.fSize))))] Z Z $ u1 (fun hc=>?_) fun hc=>?_
      ·rw [hc]
       exact i7 Z
      ·rw [hc]
       refine rd 22 [(35,(V.ptr 4 0 2)),(36,(I o0.fBytes)),(37,(Bo (decide (o0.fBytes < 1)))),(38,(Bo (decide (o0.fBytes < 1)))),(39,(Bo (decide (o0.fBytes < 1))))] Z Z $ u1 (fun hc=>?_) fun hc=>?_
       ·rw [hc]
        exact i7 Z
       ·rw [hc]
        exact i7 Z
   refine kc Z Z (fun hc=>?_) fun hc=>?_
   ·rw [hc]
    refine et d8 $ kr (wK (az [])) Z $ et L6 $ et w6 $ et x9 $ et (hret _) ?_
    rfl
   ·rw [hc]
    refine et l7 $ kr (pV a0 o0 (W6 x0 [(4,(Pt 4)),(5,(I 0))])) Z $ et (Q5 Z) $ et B3 ?_
    refine jp k a0 x0 o0 _ _ ?h_ref11_fields_L2_0 ?hr_ref11_fields_L2 k 0
    ·intro y1
     exact et s5 $ et w9 $ et j8 $ kl ⟨(W6 (sqW (x0+1)) []),[(1,vS 8 (d9 a0))],112⟩ rfl $ et j7 $ ih (sqW (x0+1))
    ·intro s; exact hret s
  ·rw [hc]
   exact et C7 $ et s6 $ hK0 x0
theorem mR (k:Nat) (a0:a7):EV k 34 [(d9 a0)]=(ap k a0).map P4:=by
 cases k with
 | zero=>rfl
 | succ k=>
  unfold ap
  refine et (l8 (c:=f34c) (N:=112) (regs:=AD) Z func34 Z (by decide) Z Z Z) $ kr ⟨[(1,(Pt 1))],[(1,vS 8 (d9 a0))],112⟩ rfl $ et d8 $ kra [(3,(I 0))] Z $ et (l6 Z) $ et B3 ?_
  refine jo k a0 _ _ ?h_ref11_fields_L1_0 ?hr_ref11_fields_L1 k 0
  ·intro y0
   refine et s5 $ et d8 $ kg yT Z (fun (o0:Bool)=>⟨[(1,(Pt 1)),(82,(Bo o0))],[(1,vS 8 (d9 a0))],112⟩) ?_ fun o0=>?_
   ·refine rd 4 [(63,(V.ptr 1 0 5)),(64,(I a0.fKey)),(65,(Bo (decide (a0.fKey < (-1))))),(66,(Bo (decide (a0.fKey < (-1)))))] Z Z $ u1 (fun hc=>?_) fun hc=>?_
    ·rw [hc]
     exact i7 Z
    ·rw [hc]
     refine rd 8 [(67,(V.ptr 1 0 5)),(68,(I a0.fKey)),(69,(V.ptr 1 0 4)),(70,(c8 a0.fFields))] Z Z $ rl Z (w7 (e:=j3) Z Z Z Z Z Z underlying50) $ bd 12 [(71,(I (a0.fFields.length:Int))),(72,(Bo (decide (a0.fKey ≥ (a0.fFields.length:Int))))),(73,(Bo (decide (a0.fKey ≥ (a0.fFields.length:Int))))),(74,(Bo (decide (a0.fKey ≥ (a0.fFields.length:Int)))))] Z Z $ u1 (fun hc=>?_) fun hc=>?_
     ·rw [hc]
      exact i7 Z
     ·rw [hc]
      refine rd 16 [(75,(V.ptr 1 0 5)),(76,(I a0.fKey)),(77,(Bo (decide (a0.fKey < 0)))),(78,(Bo (decide (a0.fKey < 0))))] Z Z $ u1 (fun hc=>?_) fun hc=>?_
      ·rw [hc]
       exact i7 Z
      ·rw [hc]
       exact i7 Z
   refine kc Z Z (fun hc=>?_) fun hc=>?_
   ·rw [hc]
    refine et d8 $ kr (wK (az [])) Z $ et L6 ?_
    rfl
   ·rw [hc]
    refine et l7 $ kd yU Z (fun (o1:Bool)=>(wK [(2,(Bo o1))])) ?_ fun o1=>?_
    ·refine et (k0 (p:=30) (dk:=true) (t:=[(1,(Pt 1)),(82,(Bo false))]) (σ:=[(1,vS 8 (d9 a0))]) (n:=112) Z (by decide) (by decide) Z) $ et (l9 (m:=2) (j:=2) (t':=(tv [(84,(c8 a0.fFields))])) Z Z Z) $ et (b4 (x:=some ()) (w:=fun _=>(I (a0.fFields.length:Int))) Z Z Z Z Z (w7 (e:=j3) Z Z Z Z Z Z underlying50)) $ et A6 $ et (b9 (m:=2) (j:=5) (t':=(tv [(84,(c8 a0.fFields)),(85,(I (a0.fFields.length:Int))),(86,(Bo (decide ((a0.fFields.length:Int)≤5)))),(87,(Bo (decide ((a0.fFields.length:Int)≤5))))])) Z Z Z) $ u1 (fun hc=>?_) fun hc=>?_
     ·rw [hc]
      refine et (l9 (m:=4) (j:=9) (t':=(tv [(84,(c8 a0.fFields)),(85,(I (a0.fFields.length:Int))),(86,(Bo true)),(87,(Bo true)),(88,(V.ptr 1 0 5)),(89,(I a0.fKey)),(90,(Bo (decide (a0.fKey < 0)))),(91,(Bo (decide (a0.fKey < 0))))])) Z Z Z) $ u1 (fun hc=>?_) fun hc=>?_
      ·rw [hc]
       exact s7 Z
      ·rw [hc]
       exact et (l9 (m:=4) (j:=13) (t':=(tv [(84,(c8 a0.fFields)),(85,(I (a0.fFields.length:Int))),(86,(Bo true)),(87,(Bo true)),(88,(V.ptr 1 0 5)),(89,(I a0.fKey)),(90,(Bo false)),(91,(Bo false)),(92,(V.ptr 1 0 4)),(93,(c8 a0.fFields)),(94,(V.ptr 1 0 5)),(95,(I a0.fKey))])) Z Z Z) $ et (b4 (x:=(idx a0.fFields a0.fKey)) (w:=fun v0=>(Pr (j3 v0))) Z Z Z Z Z (j6 (e:=j3) Z Z Z underlying50 Z (by decide))) $ j2 fun v0=>et (b9 (m:=6) (j:=20) (t':=(tv [(84,(c8 a0.fFields)),(85,(I (a0.fFields.length:Int))),(86,(Bo true)),(87,(Bo true)),(88,(V.ptr 1 0 5)),(89,(I a0.fKey)),(90,(Bo false)),(91,(Bo false)),(92,(V.ptr 1 0 4)),(93,(c8 a0.fFields)),(94,(V.ptr 1 0 5)),(95,(I a0.fKey)),(96,(Pr (j3 v0))),(97,(Pr (I v0.fAt))),(98,(I v0.fAt)),(99,(V.ptr 1 0 4)),(100,(c8 a0.fFields)),(101,(V.ptr 1 0 5)),(102,(I a0.fKey))])) Z Z Z) $ et (b4 (x:=(idx a0.fFields a0.fKey)) (w:=fun v1=>(Pr (j3 v1))) Z Z Z Z Z (j6 (e:=j3) Z Z Z underlying50 Z (by decide))) $ j2 fun v1=>s7 Z
     ·rw [hc]
      exact s7 Z
    refine et l5 ?_
    rfl
  ·intro s; exact rfl
def bH:Bool→V×List V:=fun r=>((Bo r),[])
theorem kB (k:Nat) (a0:a6) (a1:Int) (a2:Int)  (K0:Int→Option Bool) (Kst:X×St→Option (V×List V)) (hK0:∀ (y0:Int),Kst (X.exit 0,⟨(oE a1 y0 [(14,(Bo false))]),[(3,vS 4 (j5 a0))],24⟩)=(K0 y0).map bH) (hret:∀ s,Kst (X.ret,s)=R6 prog 24 [(j5 a0),(I a1),(I a2)] [] [.tmp 6] (X.ret,s)):
  ∀ (m:Nat) (x5:Int),(M9 (D0 prog (EV k) Fo k CV) m ⟨(oE a1 x5 []),[(3,vS 4 (j5 a0))],24⟩).bind Kst=(P3 a0 a1 K0 m x5).map bH:=by
 intro m
 induction m with
 | zero=>intros; rfl
 | succ m ih=>
  intro x5
  unfold P3
  refine et A5 $ et d8 $ kra [(14,(Bo (decide (x5 ≥ 0))))] Z $ kc Z Z (fun hc=>?_) fun hc=>?_
  ·rw [hc]
   refine et l7 $ et (l6 Z) $ kr ⟨(oE a1 x5 [(23,(Bo (x5 == a1)))]),[(3,vS 4 (j5 a0))],24⟩ rfl $ kcl Z Z (fun hc=>?_) fun hc=>?_
   ·rw [hc]
    refine kr ⟨[(6,(Bo true))],[],24⟩ rfl $ et l5 $ et w6 $ et x9 $ et (hret _) ?_
    rfl
   ·rw [hc]
    exact et w9 $ et j8 $ kgl CU Z (fun (o7:Int)=>⟨(oE a1 o7 []),[(3,vS 4 (j5 a0))],24⟩) (ra 3 3 ⟨(oE a1 x5 [(15,(V.ptr 3 0 2)),(16,(d4 a0.fTypes)),(17,(I x5)),(23,(Bo false))]),[(3,vS 4 (j5 a0))],24⟩ rfl Z Z $ rp Z (j6 (e:=d9) Z Z Z underlying23 Z (by decide)) fun v6=>b6 Z) fun o7=>et j7 $ ih o7
  ·rw [hc]
   exact et C7 $ et s6 $ hK0 x5
theorem oq (k:Nat) (a0:a6) (a1:Int) (a2:Int):EV k 35 [(j5 a0),(I a1),(I a2)]=(bq k a0 a1 a2).map bH:=by
 cases k with
 | zero=>rfl
 | succ k=>
  unfold bq
  refine et (l8 (c:=f35c) (N:=24) (regs:=Fo) Z func35 Z (by decide) Z Z Z) $ kr ⟨(oE a1 a2 []),[(3,vS 4 (j5 a0))],24⟩ rfl $ et d8 $ kg CT Z (fun (o2:Int)=>⟨(oE a1 o2 []),[(3,vS 4 (j5 a0))],24⟩) (rd 3 [(7,(V.ptr 3 0 2)),(8,(d4 a0.fTypes)),(9,(I a2))] Z Z $ rp Z (j6 (e:=d9) Z Z Z underlying23 Z (by decide)) fun v1=>b6 Z) fun o2=>et (l6 Z) $ et B3 ?_
  refine kB k a0 a1 a2 _ _ ?h_ref11_above_L1_0 ?hr_ref11_above_L1 k o2
  ·intro y8
   refine et s5 $ kr ⟨[(6,(Bo false))],[],24⟩ rfl $ et l5 ?_
   rfl
  ·intro s; exact rfl
def dE:(List Int)→V×List V:=fun r=>((sI r),[])
theorem mS (k:Nat) (a0:a6) (a1:Int)  (K0:Int→(List Int)→Option (List Int)) (Kst:X×St→Option (V×List V)) (hK0:∀ (y0:Int) (y1:(List Int)),Kst (X.exit 0,(tn a0 (cU y0 [(5,(sI y1)),(7,(Bo false))])))=(K0 y0 y1).map dE) (hret:∀ s,Kst (X.ret,s)=R6 prog 19 [(j5 a0),(I a1)] [] [.tmp 4] (X.ret,s)):
  ∀ (m:Nat) (x5:Int) (x6:(List Int)),(M9 (D0 prog (EV k) Fp k CY) m (tn a0 (cU x5 [(5,(sI x6))]))).bind Kst=(Q0 a0 K0 m x5 x6).map dE:=by
 intro m
 induction m with
 | zero=>intros; rfl
 | succ m ih=>
  intro x5 x6
  unfold Q0
  refine et A5 $ et d8 $ kra [(7,(Bo (decide (x5 ≥ 0))))] Z $ kc Z Z (fun hc=>?_) fun hc=>?_
  ·rw [hc]
   exact et l7 $ et (Q5 Z) $ kg CW Z (fun (o8:(List Int))=>(tn a0 (cU x5 [(5,(sI o8))]))) (rd 3 [(8,(I x5)),(9,(V.sl 1 1 (List.map I ([x5]:List Int)))),(10,(sI x6))] Z Z $ et (B2 (x:=(app ([x5]:List Int) x6)) (w:=fun v7=>((V.sl 1 1 (List.map I v7)),_)) Z Z Z Z (sV (e:=I) Z Z Z Z Z Z Z Z Z Z (by decide))) $ u7 fun v7=>b6 Z) fun o8=>kgl CX Z (fun (o0:Int)=>(tn a0 (cU o0 [(5,(sI o8))]))) (rd 3 [(12,(V.ptr 2 0 2)),(13,(d4 a0.fTypes)),(14,(I x5))] Z Z $ rp Z (j6 (e:=d9) Z Z Z underlying23 Z (by decide)) fun v9=>b6 Z) fun o0=>et j8 $ et w9 $ et j7 $ ih o0 o8
  ·rw [hc]
   exact et C7 $ et s6 $ hK0 x5 x6
theorem kD (k:Nat) (a0:a6) (a1:Int):EV k 36 [(j5 a0),(I a1)]=(cl k a0 a1).map dE:=by
 cases k with
 | zero=>rfl
 | succ k=>
  unfold cl
  refine et (l8 (c:=f36c) (N:=19) (regs:=Fp) Z func36 Z (by decide) Z Z Z) $ kr (tn a0 (cU a1 [])) Z $ kra [(5,(sI (([]:List Int))))] Z $ et (l6 Z) $ et B3 ?_
  refine mS k a0 a1 _ _ ?h_ref11_way_L1_0 ?hr_ref11_way_L1 k a1 ([]:List Int)
  ·intro y0 y1
   refine et s5 $ kr (H8 [(4,(sI y1))]) Z $ et l5 ?_
   rfl
  ·intro s; exact rfl
def F4:Bool→V×List V:=fun r=>((Bo r),[])
theorem ky (k:Nat) (a0:a6) (x0:Int) (o0:a7)  (K0:Int→Option Bool) (Kst:X×St→Option (V×List V)) (hK0:∀ (y0:Int),Kst (X.exit 2,(oB a0 o0 (fH x0 y0 [(81,(Bo false))])))=(K0 y0).map F4) (hret:∀ s,Kst (X.ret,s)=R6 prog 232 [(j5 a0)] [] [.tmp 2] (X.ret,s)):
  ∀ (m:Nat) (x1:Int),(M9 (D0 prog (EV k) xk k BW) m (oB a0 o0 (fH x0 x1 []))).bind Kst=(I3 a0 x0 o0 K0 m x1).map F4:=by
 intro m
 induction m with
 | zero=>intros; rfl
 | succ m ih=>
  intro x1
  unfold I3
  refine et A5 $ et d8 $ kra [(81,(Bo (decide (x1 < x0))))] Z $ kc Z Z (fun hc=>?_) fun hc=>?_
  ·rw [hc]
   refine et l7 $ et (l6 Z) $ kd yH Z (fun (o1:Bool)=>(oB a0 o0 (fH x0 x1 [(92,(Bo o1))]))) (et (k0 (p:=9) (dk:=true) (t:=(fH x0 x1 [(81,(Bo true))])) (σ:=(Hn a0 o0)) (n:=232) Z (by decide) (by decide) Z) $ et (l9 (m:=3) (j:=3) (t':=(fH x0 x1 [(81,(Bo true)),(84,(V.ptr 1 0 2)),(85,(d4 a0.fTypes)),(86,(I x1))])) Z Z Z) $ et (b4 (x:=(idx a0.fTypes x1)) (w:=fun v0=>(Pr (d9 v0))) Z Z Z Z Z (j6 (e:=d9) Z Z Z underlying23 Z (by decide))) $ j2 fun v0=>s7 Z) fun o1=>kcl Z Z (fun hc=>?_) fun hc=>?_
   ·rw [hc]
    refine kr (mv (az [])) Z $ et l5 $ et w6 $ et x9 $ et (hret _) ?_
    rfl
   ·rw [hc]
    exact et w9 $ et j8 $ kl (oB a0 o0 (fH x0 (sqW (x1+1)) [])) Z $ et j7 $ ih (sqW (x1+1))
  ·rw [hc]
   exact et C7 $ et s6 $ hK0 x1
theorem kx (k:Nat) (a0:a6)  (K0:Int→Option Bool) (Kst:X×St→Option (V×List V)) (hK0:∀ (y0:Int),Kst (X.exit 0,(dy a0 (W6 y0 [(45,(Bo false))])))=(K0 y0).map F4) (hret:∀ s,Kst (X.ret,s)=R6 prog 232 [(j5 a0)] [] [.tmp 2] (X.ret,s)):
  ∀ (m:Nat) (x0:Int),(M9 (D0 prog (EV k) xk k BX) m (dy a0 (W6 x0 []))).bind Kst=(G5 k a0 K0 m x0).map F4:=by
 intro m
 induction m with
 | zero=>intros; rfl
 | succ m ih=>
  intro x0
  unfold G5
  refine et A5 $ et d8 $ krp BT Z (dy a0 (W6 x0 [(45,(Bo (decide (x0 < (a0.fTypes.length:Int)))))])) ?_ ?_
  ·exact rd 3 [(41,(I x0)),(42,(V.ptr 1 0 2)),(43,(d4 a0.fTypes))] Z Z $ rl Z (w7 (e:=d9) Z Z Z Z Z Z underlying23) $ b6 Z
  refine kc Z Z (fun hc=>?_) fun hc=>?_
  ·rw [hc]
   refine et l7 $ et (l6 Z) $ kg BU Z (fun (o0:a7)=>(oB a0 o0 (W6 x0 [(4,(Pt 4))]))) (rd 3 [(48,(V.ptr 1 0 2)),(49,(d4 a0.fTypes)),(50,(I x0))] Z Z $ rs Z (j6 (e:=d9) Z Z Z underlying23 Z (by decide)) fun v0=>b6 Z) fun o0=>et d8 $ kga BV Z (fun (o1:Bool)=>[(78,(Bo o1))]) ?_ fun o1=>?_
   ·refine rd 2 [(53,(Pt 4)),(54,(Sr o0.fName))] Z Z $ rp Z (j9 Z Z Z Z Z (Q7 k o0.fName) (.inl Z)) fun v1=>bd 5 [(55,(Bo v1)),(56,(Bo (!v1))),(57,(Bo (!v1)))] Z Z $ u1 (fun hc=>?_) fun hc=>?_
    ·rw [hc]
     exact i7 Z
    ·rw [hc]
     refine rd 10 [(58,(V.ptr 4 0 2)),(59,(I o0.fMin)),(60,(Bo (decide (o0.fMin < 1)))),(61,(Bo (decide (o0.fMin < 1)))),(62,(Bo (decide (o0.fMin < 1))))] Z Z $ u1 (fun hc=>?_) fun hc=>?_
     ·rw [hc]
      exact i7 Z
     ·rw [hc]
      refine rd 17 [(63,(V.ptr 4 0 2)),(64,(I o0.fMin)),(65,(V.ptr 4 0 3)),(66,(I o0.fSize)),(67,(Bo (decide (o0.fMin > o0.fSize)))),(68,(Bo (decide (o0.fMin > o0.fSize)))),(69,(Bo (decide (o0.fMin > o0.fSize))))] Z Z $ u1 (fun hc=>?_) fun hc=>?_
      ·rw [hc]
       exact i7 Z
      ·rw [hc]
       refine rd 22 [(70,(V.ptr 4 0 3)),(71,(I o0.fSize)),(72,(Bo (decide (o0.fSize > 40)))),(73,(Bo (decide (o0.fSize > 40)))),(74,(Bo (decide (o0.fSize > 40))))] Z Z $ u1 (fun hc=>?_) fun hc=>?_
       ·rw [hc]
        exact i7 Z
       ·rw [hc]
        exact rd 23 [(75,(d9 o0))] Z Z $ rp Z (j9 Z Z Z Z Z (mR k o0) (.inl Z)) fun v2=>b6 Z
   refine kc Z Z (fun hc=>?_) fun hc=>?_
   ·rw [hc]
    refine et d8 $ kr (mv (az [])) Z $ et L6 $ et w6 $ et x9 $ et (hret _) ?_
    rfl
   ·rw [hc]
    refine et l7 $ et d8 $ kr (oB a0 o0 (W6 x0 [(4,(Pt 4)),(5,(I 0))])) Z $ et (l6 Z) $ et B3 ?_
    refine ky k a0 x0 o0 _ _ ?h_ref11_Valid_L2_0 ?hr_ref11_Valid_L2 k 0
    ·intro y1
     refine et s5 $ et d8 $ kr (oB a0 o0 (W6 x0 [(4,(Pt 4)),(94,(Bo (x0 == 0)))])) Z $ kc Z Z (fun hc=>?_) fun hc=>?_
     ·rw [hc]
      refine et d8 $ et d8 $ kg yI Z (fun (o2:Bool)=>(dy a0 (W6 x0 [(117,(Bo o2))]))) ?_ fun o2=>?_
      ·refine rd 4 [(95,(V.ptr 4 0 1)),(96,(I o0.fParent)),(97,(Bo (o0.fParent != (-1)))),(98,(Bo (o0.fParent != (-1))))] Z Z $ u1 (fun hc=>?_) fun hc=>?_
       ·rw [hc]
        exact i7 Z
       ·rw [hc]
        refine rd 9 [(99,(V.ptr 4 0 5)),(100,(I o0.fKey)),(101,(Bo (decide (o0.fKey < 0)))),(102,(Bo (decide (o0.fKey < 0)))),(103,(Bo (decide (o0.fKey < 0))))] Z Z $ u1 (fun hc=>?_) fun hc=>?_
        ·rw [hc]
         exact i7 Z
        ·rw [hc]
         refine rd 14 [(104,(V.ptr 4 0 6)),(105,(Bo o0.fUnique)),(106,(Bo (!o0.fUnique))),(107,(Bo (!o0.fUnique))),(108,(Bo (!o0.fUnique)))] Z Z $ u1 (fun hc=>?_) fun hc=>?_
         ·rw [hc]
          exact i7 Z
         ·rw [hc]
          exact rd 18 [(109,(V.ptr 4 0 4)),(110,(c8 o0.fFields)),(111,(V.ptr 4 0 5)),(112,(I o0.fKey))] Z Z $ rp Z (j6 (e:=j3) Z Z Z underlying50 Z (by decide)) fun v3=>b6 Z
      refine kc Z Z (fun hc=>?_) fun hc=>?_
      ·rw [hc]
       refine et d8 $ kr (mv (az [])) Z $ et L6 $ et w6 $ et x9 $ et (hret _) ?_
       rfl
      ·rw [hc]
       exact et l7 $ et C7 $ et s5 $ kl (dy a0 (W6 (sqW (x0+1)) [])) Z $ et j7 $ ih (sqW (x0+1))
     ·rw [hc]
      refine et l7 $ kg yJ Z (fun (o3:Bool)=>(dy a0 (W6 x0 [(149,(Bo o3))]))) ?_ fun o3=>?_
      ·refine rd 4 [(118,(V.ptr 4 0 1)),(119,(I o0.fParent)),(120,(Bo (decide (o0.fParent < 0)))),(121,(Bo (decide (o0.fParent < 0))))] Z Z $ u1 (fun hc=>?_) fun hc=>?_
       ·rw [hc]
        exact i7 Z
       ·rw [hc]
        refine rd 10 [(122,(V.ptr 4 0 1)),(123,(I o0.fParent)),(124,(I x0)),(125,(Bo (decide (o0.fParent ≥ x0)))),(126,(Bo (decide (o0.fParent ≥ x0)))),(127,(Bo (decide (o0.fParent ≥ x0))))] Z Z $ u1 (fun hc=>?_) fun hc=>?_
        ·rw [hc]
         exact i7 Z
        ·rw [hc]
         refine rd 16 [(128,(V.ptr 4 0 1)),(129,(I o0.fParent)),(130,(I x0)),(131,(I (sqW (x0 - 1)))),(132,(Bo (o0.fParent != (sqW (x0 - 1))))),(133,(Bo (o0.fParent != (sqW (x0 - 1)))))] Z Z $ u1 (fun hc=>?_) fun hc=>?_
         ·rw [hc]
          refine rd 21 [(134,(j5 a0)),(135,(V.ptr 4 0 1)),(136,(I o0.fParent)),(137,(I x0)),(138,(I (sqW (x0 - 1))))] Z Z $ rp Z (j9 Z Z Z Z Z (oq k a0 o0.fParent (sqW (x0 - 1))) (.inl Z)) fun v4=>bd 26 [(139,(Bo v4)),(140,(Bo (!v4))),(141,(Bo (!v4))),(142,(Bo (!v4))),(143,(Bo (!v4)))] Z Z $ u1 (fun hc=>?_) fun hc=>?_
          ·rw [hc]
           exact i7 Z
          ·rw [hc]
           exact rd 28 [(144,(j5 a0)),(145,(I x0))] Z Z $ rp Z (j9 Z Z Z Z Z (kD k a0 x0) (.inl Z)) fun v5=>bd 29 [(146,(sI v5))] Z Z $ rl Z (w7 (e:=I) Z Z Z Z Z Z underlying36) $ b6 Z
         ·rw [hc]
          exact rd 28 [(134,(V.tup [])),(135,(V.tup [])),(136,(V.tup [])),(137,(V.tup [])),(138,(V.tup [])),(139,(V.tup [])),(140,(V.tup [])),(141,(Bo false)),(142,(Bo false)),(143,(Bo false)),(144,(j5 a0)),(145,(I x0))] Z Z $ rp Z (j9 Z Z Z Z Z (kD k a0 x0) (.inl Z)) fun v6=>bd 29 [(146,(sI v6))] Z Z $ rl Z (w7 (e:=I) Z Z Z Z Z Z underlying36) $ b6 Z
      refine kcl Z Z (fun hc=>?_) fun hc=>?_
      ·rw [hc]
       refine kr (mv (az [])) Z $ et l5 $ et w6 $ et x9 $ et (hret _) ?_
       rfl
      ·rw [hc]
       exact et w9 $ et j8 $ kl (dy a0 (W6 (sqW (x0+1)) [])) Z $ et j7 $ ih (sqW (x0+1))
    ·intro s; exact hret s
  ·rw [hc]
   exact et C7 $ et s6 $ hK0 x0
theorem kA (k:Nat) (a0:a6) (x0:Int) (o0:a8)  (K0:Int→Option Bool) (Kst:X×St→Option (V×List V)) (hK0:∀ (y0:Int),Kst (X.exit 6,(oC a0 o0 (er x0 [(8,(I y0)),(220,(Bo false))])))=(K0 y0).map F4) (hret:∀ s,Kst (X.ret,s)=R6 prog 232 [(j5 a0)] [] [.tmp 2] (X.ret,s)):
  ∀ (m:Nat) (x1:Int),(M9 (D0 prog (EV k) xk k BZ) m (oC a0 o0 (er x0 [(8,(I x1))]))).bind Kst=(I5 a0 x0 o0 K0 m x1).map F4:=by
 intro m
 induction m with
 | zero=>intros; rfl
 | succ m ih=>
  intro x1
  unfold I5
  refine et A5 $ et d8 $ kra [(220,(Bo (decide (x1 < x0))))] Z $ kc Z Z (fun hc=>?_) fun hc=>?_
  ·rw [hc]
   refine et l7 $ et (l6 Z) $ kd yN Z (fun (o1:Bool)=>(oC a0 o0 (er x0 [(8,(I x1)),(231,(Bo o1))]))) (et (k0 (p:=9) (dk:=true) (t:=(er x0 [(8,(I x1)),(220,(Bo true))])) (σ:=(FP a0 o0)) (n:=232) Z (by decide) (by decide) Z) $ et (l9 (m:=3) (j:=3) (t':=(er x0 [(8,(I x1)),(220,(Bo true)),(223,(V.ptr 1 0 3)),(224,(i8 a0.fIndexes)),(225,(I x1))])) Z Z Z) $ et (b4 (x:=(idx a0.fIndexes x1)) (w:=fun v0=>(Pr (d7 v0))) Z Z Z Z Z (j6 (e:=d7) Z Z Z underlying24 Z (by decide))) $ j2 fun v0=>s7 Z) fun o1=>kcl Z Z (fun hc=>?_) fun hc=>?_
   ·rw [hc]
    refine kr (mv (az [])) Z $ et l5 $ et w6 $ et x9 $ et (hret _) ?_
    rfl
   ·rw [hc]
    exact et w9 $ et j8 $ kl (oC a0 o0 (er x0 [(8,(I (sqW (x1+1))))])) Z $ et j7 $ ih (sqW (x1+1))
  ·rw [hc]
   exact et C7 $ et s6 $ hK0 x1
theorem kz (k:Nat) (a0:a6)  (K0:Int→Option Bool) (Kst:X×St→Option (V×List V)) (hK0:∀ (y0:Int),Kst (X.exit 4,(dy a0 [(1,(Pt 1)),(6,(I y0)),(154,(Bo false))]))=(K0 y0).map F4) (hret:∀ s,Kst (X.ret,s)=R6 prog 232 [(j5 a0)] [] [.tmp 2] (X.ret,s)):
  ∀ (m:Nat) (x0:Int),(M9 (D0 prog (EV k) xk k Ca) m (dy a0 [(1,(Pt 1)),(6,(I x0))])).bind Kst=(I4 k a0 K0 m x0).map F4:=by
 intro m
 induction m with
 | zero=>intros; rfl
 | succ m ih=>
  intro x0
  unfold I4
  refine et A5 $ et d8 $ krp yK Z (dy a0 [(1,(Pt 1)),(6,(I x0)),(154,(Bo (decide (x0 < (a0.fIndexes.length:Int)))))]) ?_ ?_
  ·exact rd 3 [(150,(I x0)),(151,(V.ptr 1 0 3)),(152,(i8 a0.fIndexes))] Z Z $ rl Z (w7 (e:=d7) Z Z Z Z Z Z underlying24) $ b6 Z
  refine kc Z Z (fun hc=>?_) fun hc=>?_
  ·rw [hc]
   refine et l7 $ et (l6 Z) $ kg yL Z (fun (o0:a8)=>(oC a0 o0 (er x0 []))) (rd 3 [(157,(V.ptr 1 0 3)),(158,(i8 a0.fIndexes)),(159,(I x0))] Z Z $ rs Z (j6 (e:=d7) Z Z Z underlying24 Z (by decide)) fun v0=>b6 Z) fun o0=>et d8 $ kd yM Z (fun (o1:Bool)=>(oC a0 o0 (er x0 [(217,(Bo o1))]))) ?_ fun o1=>?_
   ·refine et (k0 (p:=56) (dk:=true) (t:=(er x0 [])) (σ:=(FP a0 o0)) (n:=232) Z (by decide) (by decide) Z) $ et (l9 (m:=2) (j:=2) (t':=(er x0 [(162,(Pt 7)),(163,(Sr o0.fName))])) Z Z Z) $ et (b4 (x:=(G4 k o0.fName)) (w:=fun v1=>(Bo v1)) Z Z Z Z Z (j9 Z Z Z Z Z (Q7 k o0.fName) (.inl Z))) $ j2 fun v1=>et (b9 (m:=2) (j:=5) (t':=(er x0 [(162,(Pt 7)),(163,(Sr o0.fName)),(164,(Bo v1)),(165,(Bo (!v1))),(166,(Bo (!v1)))])) Z Z Z) $ u1 (fun hc=>?_) fun hc=>?_
    ·rw [hc]
     exact s7 Z
    ·rw [hc]
     refine et (l9 (m:=5) (j:=10) (t':=(er x0 [(162,(Pt 7)),(163,(Sr o0.fName)),(164,(Bo v1)),(165,(Bo false)),(166,(Bo false)),(167,(V.ptr 7 0 1)),(168,(I o0.fType)),(169,(Bo (decide (o0.fType < 0)))),(170,(Bo (decide (o0.fType < 0)))),(171,(Bo (decide (o0.fType < 0))))])) Z Z Z) $ u1 (fun hc=>?_) fun hc=>?_
     ·rw [hc]
      exact s7 Z
     ·rw [hc]
      refine et (l9 (m:=4) (j:=14) (t':=(kI x0 o0.fName v1 o0.fType [(175,(d4 a0.fTypes))])) Z Z Z) $ et (b4 (x:=some ()) (w:=fun _=>(I (a0.fTypes.length:Int))) Z Z Z Z Z (w7 (e:=d9) Z Z Z Z Z Z underlying23)) $ et A6 $ et (b9 (m:=3) (j:=18) (t':=(kI x0 o0.fName v1 o0.fType [(175,(d4 a0.fTypes)),(176,(I (a0.fTypes.length:Int))),(177,(Bo (decide (o0.fType ≥ (a0.fTypes.length:Int))))),(178,(Bo (decide (o0.fType ≥ (a0.fTypes.length:Int))))),(179,(Bo (decide (o0.fType ≥ (a0.fTypes.length:Int)))))])) Z Z Z) $ u1 (fun hc=>?_) fun hc=>?_
      ·rw [hc]
       exact s7 Z
      ·rw [hc]
       refine et (l9 (m:=5) (j:=23) (t':=(kI x0 o0.fName v1 o0.fType [(175,(d4 a0.fTypes)),(176,(I (a0.fTypes.length:Int))),(177,(Bo false)),(178,(Bo false)),(179,(Bo false)),(180,(V.ptr 7 0 2)),(181,(I o0.fField)),(182,(Bo (decide (o0.fField < 0)))),(183,(Bo (decide (o0.fField < 0)))),(184,(Bo (decide (o0.fField < 0))))])) Z Z Z) $ u1 (fun hc=>?_) fun hc=>?_
       ·rw [hc]
        exact s7 Z
       ·rw [hc]
        refine et (l9 (m:=6) (j:=29) (t':=(kI x0 o0.fName v1 o0.fType [(175,(d4 a0.fTypes)),(176,(I (a0.fTypes.length:Int))),(177,(Bo false)),(178,(Bo false)),(179,(Bo false)),(180,(V.ptr 7 0 2)),(181,(I o0.fField)),(182,(Bo false)),(183,(Bo false)),(184,(Bo false)),(185,(V.ptr 7 0 2)),(186,(I o0.fField)),(187,(V.ptr 1 0 2)),(188,(d4 a0.fTypes)),(189,(V.ptr 7 0 1)),(190,(I o0.fType))])) Z Z Z) $ et (b4 (x:=(idx a0.fTypes o0.fType)) (w:=fun v2=>(Pr (d9 v2))) Z Z Z Z Z (j6 (e:=d9) Z Z Z underlying23 Z (by decide))) $ j2 fun v2=>et (b9 (m:=2) (j:=32) (t':=(kI x0 o0.fName v1 o0.fType [(175,(d4 a0.fTypes)),(176,(I (a0.fTypes.length:Int))),(177,(Bo false)),(178,(Bo false)),(179,(Bo false)),(180,(V.ptr 7 0 2)),(181,(I o0.fField)),(182,(Bo false)),(183,(Bo false)),(184,(Bo false)),(185,(V.ptr 7 0 2)),(186,(I o0.fField)),(187,(V.ptr 1 0 2)),(188,(d4 a0.fTypes)),(189,(V.ptr 7 0 1)),(190,(I o0.fType)),(191,(Pr (d9 v2))),(192,(Pr (c8 v2.fFields))),(193,(c8 v2.fFields))])) Z Z Z) $ et (b4 (x:=some ()) (w:=fun _=>(I (v2.fFields.length:Int))) Z Z Z Z Z (w7 (e:=j3) Z Z Z Z Z Z underlying50)) $ et A6 $ et (b9 (m:=3) (j:=36) (t':=(kI x0 o0.fName v1 o0.fType [(175,(d4 a0.fTypes)),(176,(I (a0.fTypes.length:Int))),(177,(Bo false)),(178,(Bo false)),(179,(Bo false)),(180,(V.ptr 7 0 2)),(181,(I o0.fField)),(182,(Bo false)),(183,(Bo false)),(184,(Bo false)),(185,(V.ptr 7 0 2)),(186,(I o0.fField)),(187,(V.ptr 1 0 2)),(188,(d4 a0.fTypes)),(189,(V.ptr 7 0 1)),(190,(I o0.fType)),(191,(Pr (d9 v2))),(192,(Pr (c8 v2.fFields))),(193,(c8 v2.fFields)),(194,(I (v2.fFields.length:Int))),(195,(Bo (decide (o0.fField ≥ (v2.fFields.length:Int))))),(196,(Bo (decide (o0.fField ≥ (v2.fFields.length:Int))))),(197,(Bo (decide (o0.fField ≥ (v2.fFields.length:Int)))))])) Z Z Z) $ u1 (fun hc=>?_) fun hc=>?_
        ·rw [hc]
         exact s7 Z
        ·rw [hc]
         refine et (l9 (m:=4) (j:=40) (t':=(kI x0 o0.fName v1 o0.fType [(175,(d4 a0.fTypes)),(176,(I (a0.fTypes.length:Int))),(177,(Bo false)),(178,(Bo false)),(179,(Bo false)),(180,(V.ptr 7 0 2)),(181,(I o0.fField)),(182,(Bo false)),(183,(Bo false)),(184,(Bo false)),(185,(V.ptr 7 0 2)),(186,(I o0.fField)),(187,(V.ptr 1 0 2)),(188,(d4 a0.fTypes)),(189,(V.ptr 7 0 1)),(190,(I o0.fType)),(191,(Pr (d9 v2))),(192,(Pr (c8 v2.fFields))),(193,(c8 v2.fFields)),(194,(I (v2.fFields.length:Int))),(195,(Bo false)),(196,(Bo false)),(197,(Bo false)),(198,(V.ptr 1 0 2)),(199,(d4 a0.fTypes)),(200,(V.ptr 7 0 1)),(201,(I o0.fType))])) Z Z Z) $ et (b4 (x:=(idx a0.fTypes o0.fType)) (w:=fun v3=>(Pr (d9 v3))) Z Z Z Z Z (j6 (e:=d9) Z Z Z underlying23 Z (by decide))) $ j2 fun v3=>et (b9 (m:=4) (j:=45) (t':=(kI x0 o0.fName v1 o0.fType [(175,(d4 a0.fTypes)),(176,(I (a0.fTypes.length:Int))),(177,(Bo false)),(178,(Bo false)),(179,(Bo false)),(180,(V.ptr 7 0 2)),(181,(I o0.fField)),(182,(Bo false)),(183,(Bo false)),(184,(Bo false)),(185,(V.ptr 7 0 2)),(186,(I o0.fField)),(187,(V.ptr 1 0 2)),(188,(d4 a0.fTypes)),(189,(V.ptr 7 0 1)),(190,(I o0.fType)),(191,(Pr (d9 v2))),(192,(Pr (c8 v2.fFields))),(193,(c8 v2.fFields)),(194,(I (v2.fFields.length:Int))),(195,(Bo false)),(196,(Bo false)),(197,(Bo false)),(198,(V.ptr 1 0 2)),(199,(d4 a0.fTypes)),(200,(V.ptr 7 0 1)),(201,(I o0.fType)),(202,(Pr (d9 v3))),(203,(Pr (c8 v3.fFields))),(204,(c8 v3.fFields)),(205,(V.ptr 7 0 2)),(206,(I o0.fField))])) Z Z Z) $ et (b4 (x:=(idx v3.fFields o0.fField)) (w:=fun v4=>(Pr (j3 v4))) Z Z Z Z Z (j6 (e:=j3) Z Z Z underlying50 Z (by decide))) $ j2 fun v4=>et (b9 (m:=5) (j:=51) (t':=(kI x0 o0.fName v1 o0.fType [(175,(d4 a0.fTypes)),(176,(I (a0.fTypes.length:Int))),(177,(Bo false)),(178,(Bo false)),(179,(Bo false)),(180,(V.ptr 7 0 2)),(181,(I o0.fField)),(182,(Bo false)),(183,(Bo false)),(184,(Bo false)),(185,(V.ptr 7 0 2)),(186,(I o0.fField)),(187,(V.ptr 1 0 2)),(188,(d4 a0.fTypes)),(189,(V.ptr 7 0 1)),(190,(I o0.fType)),(191,(Pr (d9 v2))),(192,(Pr (c8 v2.fFields))),(193,(c8 v2.fFields)),(194,(I (v2.fFields.length:Int))),(195,(Bo false)),(196,(Bo false)),(197,(Bo false)),(198,(V.ptr 1 0 2)),(199,(d4 a0.fTypes)),(200,(V.ptr 7 0 1)),(201,(I o0.fType)),(202,(Pr (d9 v3))),(203,(Pr (c8 v3.fFields))),(204,(c8 v3.fFields)),(205,(V.ptr 7 0 2)),(206,(I o0.fField)),(207,(Pr (j3 v4))),(208,(Pr (I v4.fBytes))),(209,(I v4.fBytes)),(210,(Bo (decide (v4.fBytes > 20)))),(211,(Bo (decide (v4.fBytes > 20)))),(212,(Bo (decide (v4.fBytes > 20))))])) Z Z Z) $ u1 (fun hc=>?_) fun hc=>?_
         ·rw [hc]
          exact s7 Z
         ·rw [hc]
          exact s7 Z
   refine kc Z Z (fun hc=>?_) fun hc=>?_
   ·rw [hc]
    refine et d8 $ kr (mv (az [])) Z $ et L6 $ et w6 $ et x9 $ et (hret _) ?_
    rfl
   ·rw [hc]
    refine et l7 $ kr (oC a0 o0 (er x0 [(8,(I 0))])) Z $ et (Q5 Z) $ et B3 ?_
    refine kA k a0 x0 o0 _ _ ?h_ref11_Valid_L4_0 ?hr_ref11_Valid_L4 k 0
    ·intro y1
     exact et s5 $ et w9 $ et j8 $ kl (dy a0 [(1,(Pt 1)),(6,(I (sqW (x0+1))))]) Z $ et j7 $ ih (sqW (x0+1))
    ·intro s; exact hret s
  ·rw [hc]
   exact et C7 $ et s6 $ hK0 x0
theorem gL (k:Nat) (a0:a6):EV k 15 [(j5 a0)]=(T1 k a0).map F4:=by
 cases k with
 | zero=>rfl
 | succ k=>
  unfold T1
  refine et (l8 (c:=f15c) (N:=232) (regs:=xk) Z func15 Z (by decide) Z Z Z) $ kr (dy a0 [(1,(Pt 1))]) Z $ et d8 $ kga BS Z (fun (o2:Bool)=>[(40,(Bo o2))]) ?_ fun o2=>?_
  ·refine rd 2 [(9,(Pt 1)),(10,(Sr a0.fName))] Z Z $ rp Z (j9 Z Z Z Z Z (Q7 k a0.fName) (.inl Z)) fun v1=>bd 5 [(11,(Bo v1)),(12,(Bo (!v1))),(13,(Bo (!v1)))] Z Z $ u1 (fun hc=>?_) fun hc=>?_
   ·rw [hc]
    exact i7 Z
   ·rw [hc]
    refine rd 10 [(14,(V.ptr 1 0 1)),(15,(I a0.fKind)),(16,(Bo (decide (a0.fKind < 1)))),(17,(Bo (decide (a0.fKind < 1)))),(18,(Bo (decide (a0.fKind < 1))))] Z Z $ u1 (fun hc=>?_) fun hc=>?_
    ·rw [hc]
     exact i7 Z
    ·rw [hc]
     refine rd 15 [(19,(V.ptr 1 0 1)),(20,(I a0.fKind)),(21,(Bo (decide (a0.fKind > 4)))),(22,(Bo (decide (a0.fKind > 4)))),(23,(Bo (decide (a0.fKind > 4))))] Z Z $ u1 (fun hc=>?_) fun hc=>?_
     ·rw [hc]
      exact i7 Z
     ·rw [hc]
      refine rd 17 [(24,(V.ptr 1 0 2)),(25,(d4 a0.fTypes))] Z Z $ rl Z (w7 (e:=d9) Z Z Z Z Z Z underlying23) $ bd 21 [(26,(I (a0.fTypes.length:Int))),(27,(Bo (decide ((a0.fTypes.length:Int) < 1)))),(28,(Bo (decide ((a0.fTypes.length:Int) < 1)))),(29,(Bo (decide ((a0.fTypes.length:Int) < 1))))] Z Z $ u1 (fun hc=>?_) fun hc=>?_
      ·rw [hc]
       exact i7 Z
      ·rw [hc]
       refine rd 23 [(30,(V.ptr 1 0 2)),(31,(d4 a0.fTypes))] Z Z $ rl Z (w7 (e:=d9) Z Z Z Z Z Z underlying23) $ bd 27 [(32,(I (a0.fTypes.length:Int))),(33,(Bo (decide ((a0.fTypes.length:Int) > 8)))),(34,(Bo (decide ((a0.fTypes.length:Int) > 8)))),(35,(Bo (decide ((a0.fTypes.length:Int) > 8))))] Z Z $ u1 (fun hc=>?_) fun hc=>?_
       ·rw [hc]
        exact i7 Z
       ·rw [hc]
        exact rd 29 [(36,(V.ptr 1 0 3)),(37,(i8 a0.fIndexes))] Z Z $ rl Z (w7 (e:=d7) Z Z Z Z Z Z underlying24) $ b6 Z
  refine kc Z Z (fun hc=>?_) fun hc=>?_
  ·rw [hc]
   refine et d8 $ kr (mv (az [])) Z $ et L6 ?_
   rfl
  ·rw [hc]
   refine et l7 $ et d8 $ kr (dy a0 [(1,(Pt 1)),(3,(I 0))]) Z $ et (l6 Z) $ et B3 ?_
   refine kx k a0 _ _ ?h_ref11_Valid_L1_0 ?hr_ref11_Valid_L1 k 0
   ·intro y0
    refine et s5 $ et d8 $ kr (dy a0 [(1,(Pt 1)),(6,(I 0))]) Z $ et (l6 Z) $ et B3 ?_
    refine kz k a0 _ _ ?h_ref11_Valid_L3_0 ?hr_ref11_Valid_L3 k 0
    ·intro y1
     refine et s5 $ kr (mv [(2,(Bo true))]) Z $ et l5 ?_
     rfl
    ·intro s; exact rfl
   ·intro s; exact rfl
def pc:Str→V×List V:=fun r=>((Sr r),[])
theorem C3 (k:Nat) (a0:Int):EV k 30 [(I a0)]=(m0 k a0).map pc:=by
 induction k generalizing a0 with
 | zero=>intros; rfl
 | succ k ih=>
  unfold m0
  refine et (l8 (c:=f30c) (N:=41) (regs:=Gg) Z func30 Z (by decide) Z Z Z) $ kra [] Z $ et (l6 Z) $ kga Cv Z (fun (o1:Bool)=>[(3,(Bo o1))]) ?_ fun o1=>?_
  ·refine rd 3 [(4,(I a0)),(5,(Bo (decide (a0 < 0)))),(6,(Bo (decide (a0 < 0))))] Z Z $ u1 (fun hc=>?_) fun hc=>?_
   ·rw [hc]
    exact i7 Z
   ·rw [hc]
    exact i7 Z
  refine kcl Z Z (fun hc=>?_) fun hc=>?_
  ·rw [hc]
   refine kg Cw Z (fun (o4:Str)=>(pW [(2,(Sr o4))])) (rd 2 [(10,(I a0)),(11,(I (sqW (0 - a0))))] Z Z $ rp Z (j9 Z Z Z Z Z (ih (sqW (0 - a0))) (.inl Z)) fun v2=>bd 3 [(12,(Sr v2))] Z Z $ rs Z (m8 Z Z Z) fun v3=>b6 Z) fun o4=>et l5 $ et w6 ?_
   rfl
  ·rw [hc]
   refine kr (pW [(0,(I a0)),(14,(Bo (decide (a0 < 0))))]) Z $ kcl Z Z (fun hc=>?_) fun hc=>?_
   ·rw [hc]
    refine kg Cx Z (fun (o0:Str)=>(pW [(2,(Sr o0))])) (rd 1 [(17,(I a0))] Z Z $ rp Z (wu Z Z Z) fun v5=>bd 2 [(18,(I v5))] Z Z $ rp Z (j9 Z Z Z Z Z (ih v5) (.inl Z)) fun v6=>bd 4 [(19,(Sr v6)),(20,(I a0))] Z Z $ rp Z (ww Z Z Z) fun v7=>bd 6 [(21,(I v7)),(22,(I (sqW (0 - v7))))] Z Z $ rp Z (j9 Z Z Z Z Z (ih (sqW (0 - v7))) (.inl Z)) fun v8=>bd 7 [(23,(Sr v8))] Z Z $ rs Z (m8 Z Z Z) fun v9=>b6 Z) fun o0=>et l5 $ et w6 ?_
    rfl
   ·rw [hc]
    refine kr (pW [(0,(I a0)),(25,(Bo (decide (a0 < 10))))]) Z $ kcl Z Z (fun hc=>?_) fun hc=>?_
    ·rw [hc]
     refine kg Cy Z (fun (o2:Str)=>(pW [(2,(Sr o2))])) (rd 3 [(28,(I a0)),(29,(I (sqW (48+a0)))),(30,(V.int .i32 (Go.IntKind.wrap .i32 (sqW (48+a0)))))] Z Z $ rs Z (sW Z Z underlying21 underlying9) fun v0=>b6 Z) fun o2=>et l5 $ et w6 ?_
     rfl
    ·rw [hc]
     refine et w9 $ et j8 $ kg Cz Z (fun (o3:Str)=>(pW [(2,(Sr o3))])) (rd 1 [(32,(I a0))] Z Z $ rp Z (wu Z Z Z) fun v1=>bd 2 [(33,(I v1))] Z Z $ rp Z (j9 Z Z Z Z Z (ih v1) (.inl Z)) fun v4=>bd 4 [(34,(Sr v4)),(35,(I a0))] Z Z $ rp Z (ww Z Z Z) fun va=>bd 7 [(36,(I va)),(37,(I (sqW (48+va)))),(38,(V.int .i32 (Go.IntKind.wrap .i32 (sqW (48+va)))))] Z Z $ rp Z (sW Z Z underlying21 underlying9) fun vb=>bd 8 [(39,(Sr vb))] Z Z $ rs Z (m8 Z Z Z) fun vc=>b6 Z) fun o3=>et l5 ?_
     rfl
def dD:Str→V×List V:=fun r=>((Sr r),[])
theorem mP (k:Nat) (a0:Str)  (K0:Str→Int→Option Str) (Kst:X×St→Option (V×List V)) (hK0:∀ (y0:Str) (y1:Int),Kst (X.exit 0,(cT [(0,(Sr a0)),(3,(Sr y0)),(4,(I y1)),(8,(Bo false))]))=(K0 y0 y1).map dD) (hret:∀ s,Kst (X.ret,s)=R6 prog 35 [(Sr a0)] [] [.tmp 2] (X.ret,s)):
  ∀ (m:Nat) (x0:Str) (x1:Int),(M9 (D0 prog (EV k) Fl k CB) m (cT [(0,(Sr a0)),(3,(Sr x0)),(4,(I x1))])).bind Kst=(al a0 K0 m x0 x1).map dD:=by
 intro m
 induction m with
 | zero=>intros; rfl
 | succ m ih=>
  intro x0 x1
  unfold al
  refine et A5 $ et d8 $ kra [(8,(Bo (decide (x1 < (a0.length:Int)))))] Z $ kc Z Z (fun hc=>?_) fun hc=>?_
  ·rw [hc]
   refine et l7 $ et (l6 Z) $ kdl CA Z (fun (o0:Str)=>(cT [(0,(Sr a0)),(3,(Sr o0)),(4,(I x1))])) (et (k0 (p:=23) (dk:=true) (t:=[(0,(Sr a0)),(3,(Sr x0)),(4,(I x1)),(8,(Bo true))]) (σ:=[]) (n:=35) Z (by decide) (by decide) Z) $ et (l9 (m:=3) (j:=3) (t':=(tt a0 x0 x1 [])) Z Z Z) $ et (b4 (x:=(X6 a0 x1)) (w:=fun v0=>(sqU v0)) Z Z Z Z Z (M0 Z Z Z underlying9)) $ j2 fun v0=>et (b9 (m:=0) (j:=4) (t':=(tt a0 x0 x1 [(14,(sqU v0))])) Z Z Z) $ et (b4 (x:=(lG .u8 v0 16)) (w:=fun v1=>(sqU v1)) Z Z Z Z Z (wu Z Z Z)) $ j2 fun v1=>et (b9 (m:=2) (j:=7) (t':=(tt a0 x0 x1 [(14,(sqU v0)),(15,(sqU v1)),(16,(Sr a0)),(17,(I x1))])) Z Z Z) $ et (b4 (x:=(X6 a0 x1)) (w:=fun v2=>(sqU v2)) Z Z Z Z Z (M0 Z Z Z underlying9)) $ j2 fun v2=>et (b9 (m:=0) (j:=8) (t':=(tt a0 x0 x1 [(14,(sqU v0)),(15,(sqU v1)),(16,(Sr a0)),(17,(I x1)),(18,(sqU v2))])) Z Z Z) $ et (b4 (x:=(lG .u8 v2 16)) (w:=fun v3=>(sqU v3)) Z Z Z Z Z (wu Z Z Z)) $ j2 fun v3=>et (b9 (m:=1) (j:=10) (t':=(tt a0 x0 x1 [(14,(sqU v0)),(15,(sqU v1)),(16,(Sr a0)),(17,(I x1)),(18,(sqU v2)),(19,(sqU v3)),(20,(sqU (sqB (v3+1))))])) Z Z Z) $ et (b4 (x:=(cut ([48,49,50,51,52,53,54,55,56,57,97,98,99,100,101,102]:Str) v1 (sqB (v3+1)))) (w:=fun v4=>(Sr v4)) Z Z Z Z Z (kt Z Z Z Z Z Z underlying9)) $ j2 fun v4=>et (b9 (m:=2) (j:=13) (t':=(oD a0 x0 x1 v0 v1 v2 v3 (sqB (v3+1)) v4 [])) Z Z Z) $ et (b4 (x:=(X6 a0 x1)) (w:=fun v5=>(sqU v5)) Z Z Z Z Z (M0 Z Z Z underlying9)) $ j2 fun v5=>et (b9 (m:=0) (j:=14) (t':=(oD a0 x0 x1 v0 v1 v2 v3 (sqB (v3+1)) v4 [(24,(sqU v5))])) Z Z Z) $ et (b4 (x:=(lL v5 16)) (w:=fun v6=>(sqU v6)) Z Z Z Z Z (ww Z Z Z)) $ j2 fun v6=>et (b9 (m:=2) (j:=17) (t':=(oD a0 x0 x1 v0 v1 v2 v3 (sqB (v3+1)) v4 [(24,(sqU v5)),(25,(sqU v6)),(26,(Sr a0)),(27,(I x1))])) Z Z Z) $ et (b4 (x:=(X6 a0 x1)) (w:=fun v7=>(sqU v7)) Z Z Z Z Z (M0 Z Z Z underlying9)) $ j2 fun v7=>et (b9 (m:=0) (j:=18) (t':=(oD a0 x0 x1 v0 v1 v2 v3 (sqB (v3+1)) v4 [(24,(sqU v5)),(25,(sqU v6)),(26,(Sr a0)),(27,(I x1)),(28,(sqU v7))])) Z Z Z) $ et (b4 (x:=(lL v7 16)) (w:=fun v8=>(sqU v8)) Z Z Z Z Z (ww Z Z Z)) $ j2 fun v8=>et (b9 (m:=1) (j:=20) (t':=(oD a0 x0 x1 v0 v1 v2 v3 (sqB (v3+1)) v4 [(24,(sqU v5)),(25,(sqU v6)),(26,(Sr a0)),(27,(I x1)),(28,(sqU v7)),(29,(sqU v8)),(30,(sqU (sqB (v8+1))))])) Z Z Z) $ et (b4 (x:=(cut ([48,49,50,51,52,53,54,55,56,57,97,98,99,100,101,102]:Str) v6 (sqB (v8+1)))) (w:=fun v9=>(Sr v9)) Z Z Z Z Z (kt Z Z Z Z Z Z underlying9)) $ j2 fun v9=>et (b9 (m:=0) (j:=21) (t':=(oD a0 x0 x1 v0 v1 v2 v3 (sqB (v3+1)) v4 [(24,(sqU v5)),(25,(sqU v6)),(26,(Sr a0)),(27,(I x1)),(28,(sqU v7)),(29,(sqU v8)),(30,(sqU (sqB (v8+1)))),(31,(Sr v9))])) Z Z Z) $ et (b4 (x:=(cat v4 v9)) (w:=fun va=>(Sr va)) Z Z Z Z Z (m8 Z Z Z)) $ j2 fun va=>et (b9 (m:=0) (j:=22) (t':=(oD a0 x0 x1 v0 v1 v2 v3 (sqB (v3+1)) v4 [(24,(sqU v5)),(25,(sqU v6)),(26,(Sr a0)),(27,(I x1)),(28,(sqU v7)),(29,(sqU v8)),(30,(sqU (sqB (v8+1)))),(31,(Sr v9)),(32,(Sr va))])) Z Z Z) $ et (b4 (x:=(cat x0 va)) (w:=fun vb=>(Sr vb)) Z Z Z Z Z (m8 Z Z Z)) $ u7 fun vb=>s7 Z) fun o0=>?_
   exact et j8 $ kl (cT [(0,(Sr a0)),(3,(Sr o0)),(4,(I (sqW (x1+1))))]) Z $ et j7 $ ih o0 (sqW (x1+1))
  ·rw [hc]
   exact et C7 $ et s6 $ hK0 x0 x1
theorem rA (k:Nat) (a0:Str):EV k 31 [(Sr a0)]=(em k a0).map dD:=by
 cases k with
 | zero=>rfl
 | succ k=>
  unfold em
  refine et (l8 (c:=f31c) (N:=35) (regs:=Fl) Z func31 Z (by decide) Z Z Z) $ kra [] Z $ kra [(3,(Sr ([]:Str)))] Z $ et d8 $ kra [(4,(I 0))] Z $ et (l6 Z) $ et B3 ?_
  refine mP k a0 _ _ ?h_ref01_Hex_L1_0 ?hr_ref01_Hex_L1 k ([]:Str) 0
  ·intro y0 y1
   refine et s5 $ kr (cT [(2,(Sr y0))]) Z $ et l5 ?_
   rfl
  ·intro s; exact rfl
def H7:(Str×Int)→V×List V:=fun r=>(.tup [(Sr r.1),(I r.2)],[])
theorem P9 (k:Nat) (a0:a6) (x0:Int) (o0:a7)  (K0:Str→Int→Option (Str×Int)) (Kst:X×St→Option (V×List V)) (hK0:∀ (y0:Str) (y1:Int),Kst (X.exit 2,(aE a0 o0 (V0 y0 x0 [(9,(I y1)),(77,(Bo false))])))=(K0 y0 y1).map H7) (hret:∀ s,Kst (X.ret,s)=R6 prog 161 [(j5 a0)] [] [.tmp 2,.tmp 3] (X.ret,s)):
  ∀ (m:Nat) (x1:Str) (x2:Int),(M9 (D0 prog (EV k) yG k BG) m (aE a0 o0 (V0 x1 x0 [(9,(I x2))]))).bind Kst=(B8 k o0 K0 m x1 x2).map H7:=by
 intro m
 induction m with
 | zero=>intros; rfl
 | succ m ih=>
  intro x1 x2
  unfold B8
  refine et A5 $ et d8 $ krp yB Z (aE a0 o0 (V0 x1 x0 [(9,(I x2)),(77,(Bo (decide (x2 < (o0.fFields.length:Int)))))])) ?_ ?_
  ·exact rd 3 [(73,(I x2)),(74,(V.ptr 6 0 4)),(75,(c8 o0.fFields))] Z Z $ rl Z (w7 (e:=j3) Z Z Z Z Z Z underlying50) $ b6 Z
  refine kc Z Z (fun hc=>?_) fun hc=>?_
  ·rw [hc]
   refine et l7 $ et (l6 Z) $ kg yC Z (fun (o1:b8)=>⟨(fI x1 x0 x2 []),(xW a0 o0 o1),161⟩) (rd 3 [(80,(V.ptr 6 0 4)),(81,(c8 o0.fFields)),(82,(I x2))] Z Z $ rs Z (j6 (e:=j3) Z Z Z underlying50 Z (by decide)) fun v0=>b6 Z) fun o1=>kra [(11,(Sr ([45]:Str)))] Z $ et d8 $ kra [(88,(Bo (x2 == o0.fKey)))] Z $ kc Z Z (fun hc=>?_) fun hc=>?_
   ·rw [hc]
    refine et d8 $ kr ⟨(fI x1 x0 x2 [(11,(Sr ([77]:Str)))]),(xW a0 o0 o1),161⟩ rfl $ et d8 $ kra [(90,(Bo o0.fUnique))] Z $ kc Z Z (fun hc=>?_) fun hc=>?_
    ·rw [hc]
     refine kr ⟨(fI x1 x0 x2 [(11,(Sr ([85]:Str)))]),(xW a0 o0 o1),161⟩ rfl $ kdl qI Z (fun (o2:Str)=>(aE a0 o0 (V0 o2 x0 [(9,(I x2))]))) (et (k0 (p:=19) (dk:=true) (t:=(fI x1 x0 x2 [(11,(Sr ([85]:Str)))])) (σ:=(xW a0 o0 o1)) (n:=161) Z (by decide) (by decide) Z) $ et (l9 (m:=3) (j:=3) (t':=(fI x1 x0 x2 [(11,(Sr ([85]:Str))),(91,(Sr x1)),(92,(Pt 10)),(93,(Sr o1.fName))])) Z Z Z) $ et (b4 (x:=(cat ([70,73,69,76,68,32]:Str) o1.fName)) (w:=fun v1=>(Sr v1)) Z Z Z Z Z (m8 Z Z Z)) $ j2 fun v1=>et (b9 (m:=0) (j:=4) (t':=(fI x1 x0 x2 [(11,(Sr ([85]:Str))),(91,(Sr x1)),(92,(Pt 10)),(93,(Sr o1.fName)),(94,(Sr v1))])) Z Z Z) $ et (b4 (x:=(cat v1 ([32]:Str))) (w:=fun v2=>(Sr v2)) Z Z Z Z Z (m8 Z Z Z)) $ j2 fun v2=>et (b9 (m:=2) (j:=7) (t':=(kP x1 x0 x2 o1.fName v1 v2 o1.fAt [])) Z Z Z) $ et (b4 (x:=(m0 k o1.fAt)) (w:=fun v3=>(Sr v3)) Z Z Z Z Z (j9 Z Z Z Z Z (C3 k o1.fAt) (.inl Z))) $ j2 fun v3=>et (b9 (m:=0) (j:=8) (t':=(kP x1 x0 x2 o1.fName v1 v2 o1.fAt [(98,(Sr v3))])) Z Z Z) $ et (b4 (x:=(cat v2 v3)) (w:=fun v4=>(Sr v4)) Z Z Z Z Z (m8 Z Z Z)) $ j2 fun v4=>et (b9 (m:=0) (j:=9) (t':=(kP x1 x0 x2 o1.fName v1 v2 o1.fAt [(98,(Sr v3)),(99,(Sr v4))])) Z Z Z) $ et (b4 (x:=(cat v4 ([32]:Str))) (w:=fun v5=>(Sr v5)) Z Z Z Z Z (m8 Z Z Z)) $ j2 fun v5=>et (b9 (m:=2) (j:=12) (t':=(kP x1 x0 x2 o1.fName v1 v2 o1.fAt [(98,(Sr v3)),(99,(Sr v4)),(100,(Sr v5)),(101,(V.ptr 10 0 2)),(102,(I o1.fBytes))])) Z Z Z) $ et (b4 (x:=(m0 k o1.fBytes)) (w:=fun v6=>(Sr v6)) Z Z Z Z Z (j9 Z Z Z Z Z (C3 k o1.fBytes) (.inl Z))) $ j2 fun v6=>et (b9 (m:=0) (j:=13) (t':=(kP x1 x0 x2 o1.fName v1 v2 o1.fAt [(98,(Sr v3)),(99,(Sr v4)),(100,(Sr v5)),(101,(V.ptr 10 0 2)),(102,(I o1.fBytes)),(103,(Sr v6))])) Z Z Z) $ et (b4 (x:=(cat v5 v6)) (w:=fun v7=>(Sr v7)) Z Z Z Z Z (m8 Z Z Z)) $ j2 fun v7=>et (b9 (m:=0) (j:=14) (t':=(kP x1 x0 x2 o1.fName v1 v2 o1.fAt [(98,(Sr v3)),(99,(Sr v4)),(100,(Sr v5)),(101,(V.ptr 10 0 2)),(102,(I o1.fBytes)),(103,(Sr v6)),(104,(Sr v7))])) Z Z Z) $ et (b4 (x:=(cat v7 ([32]:Str))) (w:=fun v8=>(Sr v8)) Z Z Z Z Z (m8 Z Z Z)) $ j2 fun v8=>et (b9 (m:=1) (j:=16) (t':=(kP x1 x0 x2 o1.fName v1 v2 o1.fAt [(98,(Sr v3)),(99,(Sr v4)),(100,(Sr v5)),(101,(V.ptr 10 0 2)),(102,(I o1.fBytes)),(103,(Sr v6)),(104,(Sr v7)),(105,(Sr v8)),(106,(Sr ([85]:Str)))])) Z Z Z) $ et (b4 (x:=(cat v8 ([85]:Str))) (w:=fun v9=>(Sr v9)) Z Z Z Z Z (m8 Z Z Z)) $ j2 fun v9=>et (b9 (m:=0) (j:=17) (t':=(kP x1 x0 x2 o1.fName v1 v2 o1.fAt [(98,(Sr v3)),(99,(Sr v4)),(100,(Sr v5)),(101,(V.ptr 10 0 2)),(102,(I o1.fBytes)),(103,(Sr v6)),(104,(Sr v7)),(105,(Sr v8)),(106,(Sr ([85]:Str))),(107,(Sr v9))])) Z Z Z) $ et (b4 (x:=(cat v9 ([10]:Str))) (w:=fun va=>(Sr va)) Z Z Z Z Z (m8 Z Z Z)) $ j2 fun va=>et (b9 (m:=0) (j:=18) (t':=(kP x1 x0 x2 o1.fName v1 v2 o1.fAt [(98,(Sr v3)),(99,(Sr v4)),(100,(Sr v5)),(101,(V.ptr 10 0 2)),(102,(I o1.fBytes)),(103,(Sr v6)),(104,(Sr v7)),(105,(Sr v8)),(106,(Sr ([85]:Str))),(107,(Sr v9)),(108,(Sr va))])) Z Z Z) $ et (b4 (x:=(cat x1 va)) (w:=fun vb=>(Sr vb)) Z Z Z Z Z (m8 Z Z Z)) $ u7 fun vb=>s7 Z) fun o2=>?_
     exact et j8 $ kl (aE a0 o0 (V0 o2 x0 [(9,(I (sqW (x2+1))))])) Z $ et j7 $ ih o2 (sqW (x2+1))
    ·rw [hc]
     refine et l7 $ kdl qI Z (fun (o3:Str)=>(aE a0 o0 (V0 o3 x0 [(9,(I x2))]))) ?_ fun o3=>?_
     ·refine et (k0 (p:=19) (dk:=true) (t:=(fI x1 x0 x2 [(11,(Sr ([77]:Str))),(90,(Bo false))])) (σ:=(xW a0 o0 o1)) (n:=161) Z (by decide) (by decide) Z) $ et (l9 (m:=3) (j:=3) (t':=(fI x1 x0 x2 [(11,(Sr ([77]:Str))),(90,(Bo false)),(91,(Sr x1)),(92,(Pt 10)),(93,(Sr o1.fName))])) Z Z Z) $ et (b4 (x:=(cat ([70,73,69,76,68,32]:Str) o1.fName)) (w:=fun vc=>(Sr vc)) Z Z Z Z Z (m8 Z Z Z)) $ j2 fun vc=>et (b9 (m:=0) (j:=4) (t':=(fI x1 x0 x2 [(11,(Sr ([77]:Str))),(90,(Bo false)),(91,(Sr x1)),(92,(Pt 10)),(93,(Sr o1.fName)),(94,(Sr vc))])) Z Z Z) $ et (b4 (x:=(cat vc ([32]:Str))) (w:=fun vd=>(Sr vd)) Z Z Z Z Z (m8 Z Z Z)) $ j2 fun vd=>et (b9 (m:=2) (j:=7) (t':=(kN x1 x0 x2 o1.fName vc vd o1.fAt [])) Z Z Z) $ et (b4 (x:=(m0 k o1.fAt)) (w:=fun ve=>(Sr ve)) Z Z Z Z Z (j9 Z Z Z Z Z (C3 k o1.fAt) (.inl Z))) $ j2 fun ve=>et (b9 (m:=0) (j:=8) (t':=(kN x1 x0 x2 o1.fName vc vd o1.fAt [(98,(Sr ve))])) Z Z Z) $ et (b4 (x:=(cat vd ve)) (w:=fun vf=>(Sr vf)) Z Z Z Z Z (m8 Z Z Z)) $ j2 fun vf=>et (b9 (m:=0) (j:=9) (t':=(kN x1 x0 x2 o1.fName vc vd o1.fAt [(98,(Sr ve)),(99,(Sr vf))])) Z Z Z) $ et (b4 (x:=(cat vf ([32]:Str))) (w:=fun vg=>(Sr vg)) Z Z Z Z Z (m8 Z Z Z)) $ j2 fun vg=>et (b9 (m:=2) (j:=12) (t':=(kN x1 x0 x2 o1.fName vc vd o1.fAt [(98,(Sr ve)),(99,(Sr vf)),(100,(Sr vg)),(101,(V.ptr 10 0 2)),(102,(I o1.fBytes))])) Z Z Z) $ et (b4 (x:=(m0 k o1.fBytes)) (w:=fun vh=>(Sr vh)) Z Z Z Z Z (j9 Z Z Z Z Z (C3 k o1.fBytes) (.inl Z))) $ j2 fun vh=>et (b9 (m:=0) (j:=13) (t':=(kN x1 x0 x2 o1.fName vc vd o1.fAt [(98,(Sr ve)),(99,(Sr vf)),(100,(Sr vg)),(101,(V.ptr 10 0 2)),(102,(I o1.fBytes)),(103,(Sr vh))])) Z Z Z) $ et (b4 (x:=(cat vg vh)) (w:=fun vi=>(Sr vi)) Z Z Z Z Z (m8 Z Z Z)) $ j2 fun vi=>et (b9 (m:=0) (j:=14) (t':=(kN x1 x0 x2 o1.fName vc vd o1.fAt [(98,(Sr ve)),(99,(Sr vf)),(100,(Sr vg)),(101,(V.ptr 10 0 2)),(102,(I o1.fBytes)),(103,(Sr vh)),(104,(Sr vi))])) Z Z Z) $ et (b4 (x:=(cat vi ([32]:Str))) (w:=fun vj=>(Sr vj)) Z Z Z Z Z (m8 Z Z Z)) $ j2 fun vj=>et (b9 (m:=1) (j:=16) (t':=(kN x1 x0 x2 o1.fName vc vd o1.fAt [(98,(Sr ve)),(99,(Sr vf)),(100,(Sr vg)),(101,(V.ptr 10 0 2)),(102,(I o1.fBytes)),(103,(Sr vh)),(104,(Sr vi)),(105,(Sr vj)),(106,(Sr ([77]:Str)))])) Z Z Z) $ et (b4 (x:=(cat vj ([77]:Str))) (w:=fun vk=>(Sr vk)) Z Z Z Z Z (m8 Z Z Z)) $ j2 fun vk=>et (b9 (m:=0) (j:=17) (t':=(kN x1 x0 x2 o1.fName vc vd o1.fAt [(98,(Sr ve)),(99,(Sr vf)),(100,(Sr vg)),(101,(V.ptr 10 0 2)),(102,(I o1.fBytes)),(103,(Sr vh)),(104,(Sr vi)),(105,(Sr vj)),(106,(Sr ([77]:Str))),(107,(Sr vk))])) Z Z Z) $ et (b4 (x:=(cat vk ([10]:Str))) (w:=fun vl=>(Sr vl)) Z Z Z Z Z (m8 Z Z Z)) $ j2 fun vl=>et (b9 (m:=0) (j:=18) (t':=(kN x1 x0 x2 o1.fName vc vd o1.fAt [(98,(Sr ve)),(99,(Sr vf)),(100,(Sr vg)),(101,(V.ptr 10 0 2)),(102,(I o1.fBytes)),(103,(Sr vh)),(104,(Sr vi)),(105,(Sr vj)),(106,(Sr ([77]:Str))),(107,(Sr vk)),(108,(Sr vl))])) Z Z Z) ?_
      exact et (b4 (x:=(cat x1 vl)) (w:=fun vm=>(Sr vm)) Z Z Z Z Z (m8 Z Z Z)) $ u7 fun vm=>s7 Z
     exact et j8 $ kl (aE a0 o0 (V0 o3 x0 [(9,(I (sqW (x2+1))))])) Z $ et j7 $ ih o3 (sqW (x2+1))
   ·rw [hc]
    refine et l7 $ kdl qI Z (fun (o4:Str)=>(aE a0 o0 (V0 o4 x0 [(9,(I x2))]))) ?_ fun o4=>?_
    ·refine et (k0 (p:=19) (dk:=true) (t:=(fI x1 x0 x2 [(11,(Sr ([45]:Str))),(88,(Bo false))])) (σ:=(xW a0 o0 o1)) (n:=161) Z (by decide) (by decide) Z) $ et (l9 (m:=3) (j:=3) (t':=(fI x1 x0 x2 [(11,(Sr ([45]:Str))),(88,(Bo false)),(91,(Sr x1)),(92,(Pt 10)),(93,(Sr o1.fName))])) Z Z Z) $ et (b4 (x:=(cat ([70,73,69,76,68,32]:Str) o1.fName)) (w:=fun vn=>(Sr vn)) Z Z Z Z Z (m8 Z Z Z)) $ j2 fun vn=>et (b9 (m:=0) (j:=4) (t':=(fI x1 x0 x2 [(11,(Sr ([45]:Str))),(88,(Bo false)),(91,(Sr x1)),(92,(Pt 10)),(93,(Sr o1.fName)),(94,(Sr vn))])) Z Z Z) $ et (b4 (x:=(cat vn ([32]:Str))) (w:=fun vo=>(Sr vo)) Z Z Z Z Z (m8 Z Z Z)) $ j2 fun vo=>et (b9 (m:=2) (j:=7) (t':=(kO x1 x0 x2 o1.fName vn vo o1.fAt [])) Z Z Z) $ et (b4 (x:=(m0 k o1.fAt)) (w:=fun vp=>(Sr vp)) Z Z Z Z Z (j9 Z Z Z Z Z (C3 k o1.fAt) (.inl Z))) $ j2 fun vp=>et (b9 (m:=0) (j:=8) (t':=(kO x1 x0 x2 o1.fName vn vo o1.fAt [(98,(Sr vp))])) Z Z Z) $ et (b4 (x:=(cat vo vp)) (w:=fun vq=>(Sr vq)) Z Z Z Z Z (m8 Z Z Z)) $ j2 fun vq=>et (b9 (m:=0) (j:=9) (t':=(kO x1 x0 x2 o1.fName vn vo o1.fAt [(98,(Sr vp)),(99,(Sr vq))])) Z Z Z) $ et (b4 (x:=(cat vq ([32]:Str))) (w:=fun vr=>(Sr vr)) Z Z Z Z Z (m8 Z Z Z)) $ j2 fun vr=>et (b9 (m:=2) (j:=12) (t':=(kO x1 x0 x2 o1.fName vn vo o1.fAt [(98,(Sr vp)),(99,(Sr vq)),(100,(Sr vr)),(101,(V.ptr 10 0 2)),(102,(I o1.fBytes))])) Z Z Z) $ et (b4 (x:=(m0 k o1.fBytes)) (w:=fun vs=>(Sr vs)) Z Z Z Z Z (j9 Z Z Z Z Z (C3 k o1.fBytes) (.inl Z))) $ j2 fun vs=>et (b9 (m:=0) (j:=13) (t':=(kO x1 x0 x2 o1.fName vn vo o1.fAt [(98,(Sr vp)),(99,(Sr vq)),(100,(Sr vr)),(101,(V.ptr 10 0 2)),(102,(I o1.fBytes)),(103,(Sr vs))])) Z Z Z) $ et (b4 (x:=(cat vr vs)) (w:=fun vt=>(Sr vt)) Z Z Z Z Z (m8 Z Z Z)) $ j2 fun vt=>et (b9 (m:=0) (j:=14) (t':=(kO x1 x0 x2 o1.fName vn vo o1.fAt [(98,(Sr vp)),(99,(Sr vq)),(100,(Sr vr)),(101,(V.ptr 10 0 2)),(102,(I o1.fBytes)),(103,(Sr vs)),(104,(Sr vt))])) Z Z Z) $ et (b4 (x:=(cat vt ([32]:Str))) (w:=fun vu=>(Sr vu)) Z Z Z Z Z (m8 Z Z Z)) $ j2 fun vu=>et (b9 (m:=1) (j:=16) (t':=(kO x1 x0 x2 o1.fName vn vo o1.fAt [(98,(Sr vp)),(99,(Sr vq)),(100,(Sr vr)),(101,(V.ptr 10 0 2)),(102,(I o1.fBytes)),(103,(Sr vs)),(104,(Sr vt)),(105,(Sr vu)),(106,(Sr ([45]:Str)))])) Z Z Z) $ et (b4 (x:=(cat vu ([45]:Str))) (w:=fun vv=>(Sr vv)) Z Z Z Z Z (m8 Z Z Z)) $ j2 fun vv=>et (b9 (m:=0) (j:=17) (t':=(kO x1 x0 x2 o1.fName vn vo o1.fAt [(98,(Sr vp)),(99,(Sr vq)),(100,(Sr vr)),(101,(V.ptr 10 0 2)),(102,(I o1.fBytes)),(103,(Sr vs)),(104,(Sr vt)),(105,(Sr vu)),(106,(Sr ([45]:Str))),(107,(Sr vv))])) Z Z Z) $ et (b4 (x:=(cat vv ([10]:Str))) (w:=fun vw=>(Sr vw)) Z Z Z Z Z (m8 Z Z Z)) $ j2 fun vw=>et (b9 (m:=0) (j:=18) (t':=(kO x1 x0 x2 o1.fName vn vo o1.fAt [(98,(Sr vp)),(99,(Sr vq)),(100,(Sr vr)),(101,(V.ptr 10 0 2)),(102,(I o1.fBytes)),(103,(Sr vs)),(104,(Sr vt)),(105,(Sr vu)),(106,(Sr ([45]:Str))),(107,(Sr vv)),(108,(Sr vw))])) Z Z Z) ?_
     exact et (b4 (x:=(cat x1 vw)) (w:=fun vx=>(Sr vx)) Z Z Z Z Z (m8 Z Z Z)) $ u7 fun vx=>s7 Z
    exact et j8 $ kl (aE a0 o0 (V0 o4 x0 [(9,(I (sqW (x2+1))))])) Z $ et j7 $ ih o4 (sqW (x2+1))
  ·rw [hc]
   exact et C7 $ et s6 $ hK0 x1 x2
theorem jf (k:Nat) (a0:a6)  (K0:Str→Int→Option (Str×Int)) (Kst:X×St→Option (V×List V)) (hK0:∀ (y0:Str) (y1:Int),Kst (X.exit 0,(bw a0 (bT y0 [(5,(I y1)),(31,(Bo false))])))=(K0 y0 y1).map H7) (hret:∀ s,Kst (X.ret,s)=R6 prog 161 [(j5 a0)] [] [.tmp 2,.tmp 3] (X.ret,s)):
  ∀ (m:Nat) (x0:Str) (x1:Int),(M9 (D0 prog (EV k) yG k BH) m (bw a0 (bT x0 [(5,(I x1))]))).bind Kst=(C8 k a0 K0 m x0 x1).map H7:=by
 intro m
 induction m with
 | zero=>intros; rfl
 | succ m ih=>
  intro x0 x1
  unfold C8
  refine et A5 $ et d8 $ krp BE Z (bw a0 (bT x0 [(5,(I x1)),(31,(Bo (decide (x1 < (a0.fTypes.length:Int)))))])) ?_ ?_
  ·exact rd 3 [(27,(I x1)),(28,(V.ptr 1 0 2)),(29,(d4 a0.fTypes))] Z Z $ rl Z (w7 (e:=d9) Z Z Z Z Z Z underlying23) $ b6 Z
  refine kc Z Z (fun hc=>?_) fun hc=>?_
  ·rw [hc]
   refine et l7 $ et (l6 Z) $ kg BF Z (fun (o0:a7)=>(aE a0 o0 (V0 x0 x1 []))) (rd 3 [(34,(V.ptr 1 0 2)),(35,(d4 a0.fTypes)),(36,(I x1))] Z Z $ rs Z (j6 (e:=d9) Z Z Z underlying23 Z (by decide)) fun v0=>b6 Z) fun o0=>kra [(7,(Sr ([45]:Str))),(8,(Sr ([70]:Str)))] Z $ et d8 $ kra [(41,(Bo (decide (o0.fParent ≥ 0))))] Z $ kc Z Z (fun hc=>?_) fun hc=>?_
   ·rw [hc]
    refine kg yA Z (fun (o1:Str)=>(aE a0 o0 (V0 x0 x1 [(7,(Sr o1)),(8,(Sr ([70]:Str)))]))) (rd 4 [(42,(V.ptr 1 0 2)),(43,(d4 a0.fTypes)),(44,(V.ptr 6 0 1)),(45,(I o0.fParent))] Z Z $ rp Z (j6 (e:=d9) Z Z Z underlying23 Z (by decide)) fun v1=>b6 Z) fun o1=>et d8 $ kra [(50,(Bo o0.fLast))] Z $ kc Z Z (fun hc=>?_) fun hc=>?_
    ·rw [hc]
     refine kr (aE a0 o0 (V0 x0 x1 [(7,(Sr o1)),(8,(Sr ([76]:Str)))])) Z $ kd nG Z (fun (o2:Str)=>(aE a0 o0 (V0 o2 x1 []))) (et (k0 (p:=22) (dk:=true) (t:=(V0 x0 x1 [(7,(Sr o1)),(8,(Sr ([76]:Str)))])) (σ:=(Ah a0 o0)) (n:=161) Z (by decide) (by decide) Z) $ et (l9 (m:=3) (j:=3) (t':=(wP x0 x1 o1 o0.fName [])) Z Z Z) $ et (b4 (x:=(cat ([83,69,71,77,32]:Str) o0.fName)) (w:=fun v2=>(Sr v2)) Z Z Z Z Z (m8 Z Z Z)) $ j2 fun v2=>et (b9 (m:=0) (j:=4) (t':=(wP x0 x1 o1 o0.fName [(54,(Sr v2))])) Z Z Z) $ et (b4 (x:=(cat v2 ([32]:Str))) (w:=fun v3=>(Sr v3)) Z Z Z Z Z (m8 Z Z Z)) $ j2 fun v3=>et (b9 (m:=1) (j:=6) (t':=(wP x0 x1 o1 o0.fName [(54,(Sr v2)),(55,(Sr v3)),(56,(Sr o1))])) Z Z Z) $ et (b4 (x:=(cat v3 o1)) (w:=fun v4=>(Sr v4)) Z Z Z Z Z (m8 Z Z Z)) $ j2 fun v4=>et (b9 (m:=0) (j:=7) (t':=(wP x0 x1 o1 o0.fName [(54,(Sr v2)),(55,(Sr v3)),(56,(Sr o1)),(57,(Sr v4))])) Z Z Z) $ et (b4 (x:=(cat v4 ([32]:Str))) (w:=fun v5=>(Sr v5)) Z Z Z Z Z (m8 Z Z Z)) $ j2 fun v5=>et (b9 (m:=2) (j:=10) (t':=(kM x0 x1 o1 o0.fName v2 v3 v4 v5 o0.fMin [])) Z Z Z) $ et (b4 (x:=(m0 k o0.fMin)) (w:=fun v6=>(Sr v6)) Z Z Z Z Z (j9 Z Z Z Z Z (C3 k o0.fMin) (.inl Z))) $ j2 fun v6=>et (b9 (m:=0) (j:=11) (t':=(kM x0 x1 o1 o0.fName v2 v3 v4 v5 o0.fMin [(61,(Sr v6))])) Z Z Z) $ et (b4 (x:=(cat v5 v6)) (w:=fun v7=>(Sr v7)) Z Z Z Z Z (m8 Z Z Z)) $ j2 fun v7=>et (b9 (m:=0) (j:=12) (t':=(kM x0 x1 o1 o0.fName v2 v3 v4 v5 o0.fMin [(61,(Sr v6)),(62,(Sr v7))])) Z Z Z) $ et (b4 (x:=(cat v7 ([32]:Str))) (w:=fun v8=>(Sr v8)) Z Z Z Z Z (m8 Z Z Z)) $ j2 fun v8=>et (b9 (m:=2) (j:=15) (t':=(kM x0 x1 o1 o0.fName v2 v3 v4 v5 o0.fMin [(61,(Sr v6)),(62,(Sr v7)),(63,(Sr v8)),(64,(V.ptr 6 0 3)),(65,(I o0.fSize))])) Z Z Z) $ et (b4 (x:=(m0 k o0.fSize)) (w:=fun v9=>(Sr v9)) Z Z Z Z Z (j9 Z Z Z Z Z (C3 k o0.fSize) (.inl Z))) $ j2 fun v9=>et (b9 (m:=0) (j:=16) (t':=(kM x0 x1 o1 o0.fName v2 v3 v4 v5 o0.fMin [(61,(Sr v6)),(62,(Sr v7)),(63,(Sr v8)),(64,(V.ptr 6 0 3)),(65,(I o0.fSize)),(66,(Sr v9))])) Z Z Z) $ et (b4 (x:=(cat v8 v9)) (w:=fun va=>(Sr va)) Z Z Z Z Z (m8 Z Z Z)) $ j2 fun va=>et (b9 (m:=0) (j:=17) (t':=(kM x0 x1 o1 o0.fName v2 v3 v4 v5 o0.fMin [(61,(Sr v6)),(62,(Sr v7)),(63,(Sr v8)),(64,(V.ptr 6 0 3)),(65,(I o0.fSize)),(66,(Sr v9)),(67,(Sr va))])) Z Z Z) $ et (b4 (x:=(cat va ([32]:Str))) (w:=fun vb=>(Sr vb)) Z Z Z Z Z (m8 Z Z Z)) $ j2 fun vb=>et (b9 (m:=1) (j:=19) (t':=(kM x0 x1 o1 o0.fName v2 v3 v4 v5 o0.fMin [(61,(Sr v6)),(62,(Sr v7)),(63,(Sr v8)),(64,(V.ptr 6 0 3)),(65,(I o0.fSize)),(66,(Sr v9)),(67,(Sr va)),(68,(Sr vb)),(69,(Sr ([76]:Str)))])) Z Z Z) $ et (b4 (x:=(cat vb ([76]:Str))) (w:=fun vc=>(Sr vc)) Z Z Z Z Z (m8 Z Z Z)) $ j2 fun vc=>et (b9 (m:=0) (j:=20) (t':=(kM x0 x1 o1 o0.fName v2 v3 v4 v5 o0.fMin [(61,(Sr v6)),(62,(Sr v7)),(63,(Sr v8)),(64,(V.ptr 6 0 3)),(65,(I o0.fSize)),(66,(Sr v9)),(67,(Sr va)),(68,(Sr vb)),(69,(Sr ([76]:Str))),(70,(Sr vc))])) Z Z Z) $ et (b4 (x:=(cat vc ([10]:Str))) (w:=fun vd=>(Sr vd)) Z Z Z Z Z (m8 Z Z Z)) $ j2 fun vd=>et (b9 (m:=0) (j:=21) (t':=(kM x0 x1 o1 o0.fName v2 v3 v4 v5 o0.fMin [(61,(Sr v6)),(62,(Sr v7)),(63,(Sr v8)),(64,(V.ptr 6 0 3)),(65,(I o0.fSize)),(66,(Sr v9)),(67,(Sr va)),(68,(Sr vb)),(69,(Sr ([76]:Str))),(70,(Sr vc)),(71,(Sr vd))])) Z Z Z) $ et (b4 (x:=(cat x0 vd)) (w:=fun ve=>(Sr ve)) Z Z Z Z Z (m8 Z Z Z)) $ u7 fun ve=>s7 Z) fun o2=>?_
     refine kra [(9,(I 0))] Z $ et (Q5 Z) $ et B3 ?_
     refine P9 k a0 x1 o0 _ _ ?h_ref11_Format_L2_0 ?hr_ref11_Format_L2 k o2 0
     ·intro y2 y3
      exact et s5 $ et w9 $ et j8 $ kl (bw a0 (bT y2 [(5,(I (sqW (x1+1))))])) Z $ et j7 $ ih y2 (sqW (x1+1))
     ·intro s; exact hret s
    ·rw [hc]
     refine et l7 $ kd nG Z (fun (o3:Str)=>(aE a0 o0 (V0 o3 x1 []))) (et (k0 (p:=22) (dk:=true) (t:=(V0 x0 x1 [(7,(Sr o1)),(8,(Sr ([70]:Str))),(50,(Bo false))])) (σ:=(Ah a0 o0)) (n:=161) Z (by decide) (by decide) Z) $ et (l9 (m:=3) (j:=3) (t':=(wO x0 x1 o1 o0.fName [])) Z Z Z) $ et (b4 (x:=(cat ([83,69,71,77,32]:Str) o0.fName)) (w:=fun vf=>(Sr vf)) Z Z Z Z Z (m8 Z Z Z)) $ j2 fun vf=>et (b9 (m:=0) (j:=4) (t':=(wO x0 x1 o1 o0.fName [(54,(Sr vf))])) Z Z Z) $ et (b4 (x:=(cat vf ([32]:Str))) (w:=fun vg=>(Sr vg)) Z Z Z Z Z (m8 Z Z Z)) $ j2 fun vg=>et (b9 (m:=1) (j:=6) (t':=(wO x0 x1 o1 o0.fName [(54,(Sr vf)),(55,(Sr vg)),(56,(Sr o1))])) Z Z Z) $ et (b4 (x:=(cat vg o1)) (w:=fun vh=>(Sr vh)) Z Z Z Z Z (m8 Z Z Z)) $ j2 fun vh=>et (b9 (m:=0) (j:=7) (t':=(wO x0 x1 o1 o0.fName [(54,(Sr vf)),(55,(Sr vg)),(56,(Sr o1)),(57,(Sr vh))])) Z Z Z) $ et (b4 (x:=(cat vh ([32]:Str))) (w:=fun vi=>(Sr vi)) Z Z Z Z Z (m8 Z Z Z)) $ j2 fun vi=>et (b9 (m:=2) (j:=10) (t':=(kL x0 x1 o1 o0.fName vf vg vh vi o0.fMin [])) Z Z Z) $ et (b4 (x:=(m0 k o0.fMin)) (w:=fun vj=>(Sr vj)) Z Z Z Z Z (j9 Z Z Z Z Z (C3 k o0.fMin) (.inl Z))) $ j2 fun vj=>et (b9 (m:=0) (j:=11) (t':=(kL x0 x1 o1 o0.fName vf vg vh vi o0.fMin [(61,(Sr vj))])) Z Z Z) $ et (b4 (x:=(cat vi vj)) (w:=fun vk=>(Sr vk)) Z Z Z Z Z (m8 Z Z Z)) $ j2 fun vk=>et (b9 (m:=0) (j:=12) (t':=(kL x0 x1 o1 o0.fName vf vg vh vi o0.fMin [(61,(Sr vj)),(62,(Sr vk))])) Z Z Z) $ et (b4 (x:=(cat vk ([32]:Str))) (w:=fun vl=>(Sr vl)) Z Z Z Z Z (m8 Z Z Z)) $ j2 fun vl=>et (b9 (m:=2) (j:=15) (t':=(kL x0 x1 o1 o0.fName vf vg vh vi o0.fMin [(61,(Sr vj)),(62,(Sr vk)),(63,(Sr vl)),(64,(V.ptr 6 0 3)),(65,(I o0.fSize))])) Z Z Z) $ et (b4 (x:=(m0 k o0.fSize)) (w:=fun vm=>(Sr vm)) Z Z Z Z Z (j9 Z Z Z Z Z (C3 k o0.fSize) (.inl Z))) $ j2 fun vm=>et (b9 (m:=0) (j:=16) (t':=(kL x0 x1 o1 o0.fName vf vg vh vi o0.fMin [(61,(Sr vj)),(62,(Sr vk)),(63,(Sr vl)),(64,(V.ptr 6 0 3)),(65,(I o0.fSize)),(66,(Sr vm))])) Z Z Z) $ et (b4 (x:=(cat vl vm)) (w:=fun vn=>(Sr vn)) Z Z Z Z Z (m8 Z Z Z)) $ j2 fun vn=>et (b9 (m:=0) (j:=17) (t':=(kL x0 x1 o1 o0.fName vf vg vh vi o0.fMin [(61,(Sr vj)),(62,(Sr vk)),(63,(Sr vl)),(64,(V.ptr 6 0 3)),(65,(I o0.fSize)),(66,(Sr vm)),(67,(Sr vn))])) Z Z Z) $ et (b4 (x:=(cat vn ([32]:Str))) (w:=fun vo=>(Sr vo)) Z Z Z Z Z (m8 Z Z Z)) $ j2 fun vo=>et (b9 (m:=1) (j:=19) (t':=(kL x0 x1 o1 o0.fName vf vg vh vi o0.fMin [(61,(Sr vj)),(62,(Sr vk)),(63,(Sr vl)),(64,(V.ptr 6 0 3)),(65,(I o0.fSize)),(66,(Sr vm)),(67,(Sr vn)),(68,(Sr vo)),(69,(Sr ([70]:Str)))])) Z Z Z) $ et (b4 (x:=(cat vo ([70]:Str))) (w:=fun vp=>(Sr vp)) Z Z Z Z Z (m8 Z Z Z)) $ j2 fun vp=>et (b9 (m:=0) (j:=20) (t':=(kL x0 x1 o1 o0.fName vf vg vh vi o0.fMin [(61,(Sr vj)),(62,(Sr vk)),(63,(Sr vl)),(64,(V.ptr 6 0 3)),(65,(I o0.fSize)),(66,(Sr vm)),(67,(Sr vn)),(68,(Sr vo)),(69,(Sr ([70]:Str))),(70,(Sr vp))])) Z Z Z) $ et (b4 (x:=(cat vp ([10]:Str))) (w:=fun vq=>(Sr vq)) Z Z Z Z Z (m8 Z Z Z)) $ j2 fun vq=>et (b9 (m:=0) (j:=21) (t':=(kL x0 x1 o1 o0.fName vf vg vh vi o0.fMin [(61,(Sr vj)),(62,(Sr vk)),(63,(Sr vl)),(64,(V.ptr 6 0 3)),(65,(I o0.fSize)),(66,(Sr vm)),(67,(Sr vn)),(68,(Sr vo)),(69,(Sr ([70]:Str))),(70,(Sr vp)),(71,(Sr vq))])) Z Z Z) $ et (b4 (x:=(cat x0 vq)) (w:=fun vr=>(Sr vr)) Z Z Z Z Z (m8 Z Z Z)) $ u7 fun vr=>s7 Z) fun o3=>?_
     refine kra [(9,(I 0))] Z $ et (Q5 Z) $ et B3 ?_
     refine P9 k a0 x1 o0 _ _ ?h_ref11_Format_L3_0 ?hr_ref11_Format_L3 k o3 0
     ·intro y4 y5
      exact et s5 $ et w9 $ et j8 $ kl (bw a0 (bT y4 [(5,(I (sqW (x1+1))))])) Z $ et j7 $ ih y4 (sqW (x1+1))
     ·intro s; exact hret s
   ·rw [hc]
    refine et l7 $ et d8 $ kr (aE a0 o0 (V0 x0 x1 [(7,(Sr ([45]:Str))),(8,(Sr ([70]:Str))),(50,(Bo o0.fLast))])) Z $ kc Z Z (fun hc=>?_) fun hc=>?_
    ·rw [hc]
     refine kr (aE a0 o0 (V0 x0 x1 [(7,(Sr ([45]:Str))),(8,(Sr ([76]:Str)))])) Z $ kd nG Z (fun (o4:Str)=>(aE a0 o0 (V0 o4 x1 []))) (et (k0 (p:=22) (dk:=true) (t:=(V0 x0 x1 [(7,(Sr ([45]:Str))),(8,(Sr ([76]:Str)))])) (σ:=(Ah a0 o0)) (n:=161) Z (by decide) (by decide) Z) $ et (l9 (m:=3) (j:=3) (t':=(wN x0 x1 o0.fName [])) Z Z Z) $ et (b4 (x:=(cat ([83,69,71,77,32]:Str) o0.fName)) (w:=fun vs=>(Sr vs)) Z Z Z Z Z (m8 Z Z Z)) $ j2 fun vs=>et (b9 (m:=0) (j:=4) (t':=(wN x0 x1 o0.fName [(54,(Sr vs))])) Z Z Z) $ et (b4 (x:=(cat vs ([32]:Str))) (w:=fun vt=>(Sr vt)) Z Z Z Z Z (m8 Z Z Z)) $ j2 fun vt=>et (b9 (m:=1) (j:=6) (t':=(wN x0 x1 o0.fName [(54,(Sr vs)),(55,(Sr vt)),(56,(Sr ([45]:Str)))])) Z Z Z) $ et (b4 (x:=(cat vt ([45]:Str))) (w:=fun vu=>(Sr vu)) Z Z Z Z Z (m8 Z Z Z)) $ j2 fun vu=>et (b9 (m:=0) (j:=7) (t':=(wN x0 x1 o0.fName [(54,(Sr vs)),(55,(Sr vt)),(56,(Sr ([45]:Str))),(57,(Sr vu))])) Z Z Z) $ et (b4 (x:=(cat vu ([32]:Str))) (w:=fun vv=>(Sr vv)) Z Z Z Z Z (m8 Z Z Z)) $ j2 fun vv=>et (b9 (m:=2) (j:=10) (t':=(kK x0 x1 o0.fName vs vt vu vv o0.fMin [])) Z Z Z) $ et (b4 (x:=(m0 k o0.fMin)) (w:=fun vw=>(Sr vw)) Z Z Z Z Z (j9 Z Z Z Z Z (C3 k o0.fMin) (.inl Z))) $ j2 fun vw=>et (b9 (m:=0) (j:=11) (t':=(kK x0 x1 o0.fName vs vt vu vv o0.fMin [(61,(Sr vw))])) Z Z Z) $ et (b4 (x:=(cat vv vw)) (w:=fun vx=>(Sr vx)) Z Z Z Z Z (m8 Z Z Z)) $ j2 fun vx=>et (b9 (m:=0) (j:=12) (t':=(kK x0 x1 o0.fName vs vt vu vv o0.fMin [(61,(Sr vw)),(62,(Sr vx))])) Z Z Z) $ et (b4 (x:=(cat vx ([32]:Str))) (w:=fun vy=>(Sr vy)) Z Z Z Z Z (m8 Z Z Z)) $ j2 fun vy=>et (b9 (m:=2) (j:=15) (t':=(kK x0 x1 o0.fName vs vt vu vv o0.fMin [(61,(Sr vw)),(62,(Sr vx)),(63,(Sr vy)),(64,(V.ptr 6 0 3)),(65,(I o0.fSize))])) Z Z Z) $ et (b4 (x:=(m0 k o0.fSize)) (w:=fun vz=>(Sr vz)) Z Z Z Z Z (j9 Z Z Z Z Z (C3 k o0.fSize) (.inl Z))) $ j2 fun vz=>et (b9 (m:=0) (j:=16) (t':=(kK x0 x1 o0.fName vs vt vu vv o0.fMin [(61,(Sr vw)),(62,(Sr vx)),(63,(Sr vy)),(64,(V.ptr 6 0 3)),(65,(I o0.fSize)),(66,(Sr vz))])) Z Z Z) $ et (b4 (x:=(cat vy vz)) (w:=fun vA=>(Sr vA)) Z Z Z Z Z (m8 Z Z Z)) $ j2 fun vA=>et (b9 (m:=0) (j:=17) (t':=(kK x0 x1 o0.fName vs vt vu vv o0.fMin [(61,(Sr vw)),(62,(Sr vx)),(63,(Sr vy)),(64,(V.ptr 6 0 3)),(65,(I o0.fSize)),(66,(Sr vz)),(67,(Sr vA))])) Z Z Z) $ et (b4 (x:=(cat vA ([32]:Str))) (w:=fun vB=>(Sr vB)) Z Z Z Z Z (m8 Z Z Z)) $ j2 fun vB=>et (b9 (m:=1) (j:=19) (t':=(kK x0 x1 o0.fName vs vt vu vv o0.fMin [(61,(Sr vw)),(62,(Sr vx)),(63,(Sr vy)),(64,(V.ptr 6 0 3)),(65,(I o0.fSize)),(66,(Sr vz)),(67,(Sr vA)),(68,(Sr vB)),(69,(Sr ([76]:Str)))])) Z Z Z) $ et (b4 (x:=(cat vB ([76]:Str))) (w:=fun vC=>(Sr vC)) Z Z Z Z Z (m8 Z Z Z)) $ j2 fun vC=>et (b9 (m:=0) (j:=20) (t':=(kK x0 x1 o0.fName vs vt vu vv o0.fMin [(61,(Sr vw)),(62,(Sr vx)),(63,(Sr vy)),(64,(V.ptr 6 0 3)),(65,(I o0.fSize)),(66,(Sr vz)),(67,(Sr vA)),(68,(Sr vB)),(69,(Sr ([76]:Str))),(70,(Sr vC))])) Z Z Z) $ et (b4 (x:=(cat vC ([10]:Str))) (w:=fun vD=>(Sr vD)) Z Z Z Z Z (m8 Z Z Z)) $ j2 fun vD=>et (b9 (m:=0) (j:=21) (t':=(kK x0 x1 o0.fName vs vt vu vv o0.fMin [(61,(Sr vw)),(62,(Sr vx)),(63,(Sr vy)),(64,(V.ptr 6 0 3)),(65,(I o0.fSize)),(66,(Sr vz)),(67,(Sr vA)),(68,(Sr vB)),(69,(Sr ([76]:Str))),(70,(Sr vC)),(71,(Sr vD))])) Z Z Z) $ et (b4 (x:=(cat x0 vD)) (w:=fun vE=>(Sr vE)) Z Z Z Z Z (m8 Z Z Z)) $ u7 fun vE=>s7 Z) fun o4=>?_
     refine kra [(9,(I 0))] Z $ et (Q5 Z) $ et B3 ?_
     refine P9 k a0 x1 o0 _ _ ?h_ref11_Format_L4_0 ?hr_ref11_Format_L4 k o4 0
     ·intro y6 y7
      exact et s5 $ et w9 $ et j8 $ kl (bw a0 (bT y6 [(5,(I (sqW (x1+1))))])) Z $ et j7 $ ih y6 (sqW (x1+1))
     ·intro s; exact hret s
    ·rw [hc]
     refine et l7 $ kd nG Z (fun (o5:Str)=>(aE a0 o0 (V0 o5 x1 []))) (et (k0 (p:=22) (dk:=true) (t:=(V0 x0 x1 [(7,(Sr ([45]:Str))),(8,(Sr ([70]:Str))),(50,(Bo false))])) (σ:=(Ah a0 o0)) (n:=161) Z (by decide) (by decide) Z) $ et (l9 (m:=3) (j:=3) (t':=(wM x0 x1 o0.fName [])) Z Z Z) $ et (b4 (x:=(cat ([83,69,71,77,32]:Str) o0.fName)) (w:=fun vF=>(Sr vF)) Z Z Z Z Z (m8 Z Z Z)) $ j2 fun vF=>et (b9 (m:=0) (j:=4) (t':=(wM x0 x1 o0.fName [(54,(Sr vF))])) Z Z Z) $ et (b4 (x:=(cat vF ([32]:Str))) (w:=fun vG=>(Sr vG)) Z Z Z Z Z (m8 Z Z Z)) $ j2 fun vG=>et (b9 (m:=1) (j:=6) (t':=(wM x0 x1 o0.fName [(54,(Sr vF)),(55,(Sr vG)),(56,(Sr ([45]:Str)))])) Z Z Z) $ et (b4 (x:=(cat vG ([45]:Str))) (w:=fun vH=>(Sr vH)) Z Z Z Z Z (m8 Z Z Z)) $ j2 fun vH=>et (b9 (m:=0) (j:=7) (t':=(wM x0 x1 o0.fName [(54,(Sr vF)),(55,(Sr vG)),(56,(Sr ([45]:Str))),(57,(Sr vH))])) Z Z Z) $ et (b4 (x:=(cat vH ([32]:Str))) (w:=fun vI=>(Sr vI)) Z Z Z Z Z (m8 Z Z Z)) $ j2 fun vI=>et (b9 (m:=2) (j:=10) (t':=(kJ x0 x1 o0.fName vF vG vH vI o0.fMin [])) Z Z Z) $ et (b4 (x:=(m0 k o0.fMin)) (w:=fun vJ=>(Sr vJ)) Z Z Z Z Z (j9 Z Z Z Z Z (C3 k o0.fMin) (.inl Z))) $ j2 fun vJ=>et (b9 (m:=0) (j:=11) (t':=(kJ x0 x1 o0.fName vF vG vH vI o0.fMin [(61,(Sr vJ))])) Z Z Z) $ et (b4 (x:=(cat vI vJ)) (w:=fun vK=>(Sr vK)) Z Z Z Z Z (m8 Z Z Z)) $ j2 fun vK=>et (b9 (m:=0) (j:=12) (t':=(kJ x0 x1 o0.fName vF vG vH vI o0.fMin [(61,(Sr vJ)),(62,(Sr vK))])) Z Z Z) $ et (b4 (x:=(cat vK ([32]:Str))) (w:=fun vL=>(Sr vL)) Z Z Z Z Z (m8 Z Z Z)) $ j2 fun vL=>et (b9 (m:=2) (j:=15) (t':=(kJ x0 x1 o0.fName vF vG vH vI o0.fMin [(61,(Sr vJ)),(62,(Sr vK)),(63,(Sr vL)),(64,(V.ptr 6 0 3)),(65,(I o0.fSize))])) Z Z Z) $ et (b4 (x:=(m0 k o0.fSize)) (w:=fun vM=>(Sr vM)) Z Z Z Z Z (j9 Z Z Z Z Z (C3 k o0.fSize) (.inl Z))) $ j2 fun vM=>et (b9 (m:=0) (j:=16) (t':=(kJ x0 x1 o0.fName vF vG vH vI o0.fMin [(61,(Sr vJ)),(62,(Sr vK)),(63,(Sr vL)),(64,(V.ptr 6 0 3)),(65,(I o0.fSize)),(66,(Sr vM))])) Z Z Z) $ et (b4 (x:=(cat vL vM)) (w:=fun vN=>(Sr vN)) Z Z Z Z Z (m8 Z Z Z)) $ j2 fun vN=>et (b9 (m:=0) (j:=17) (t':=(kJ x0 x1 o0.fName vF vG vH vI o0.fMin [(61,(Sr vJ)),(62,(Sr vK)),(63,(Sr vL)),(64,(V.ptr 6 0 3)),(65,(I o0.fSize)),(66,(Sr vM)),(67,(Sr vN))])) Z Z Z) $ et (b4 (x:=(cat vN ([32]:Str))) (w:=fun vO=>(Sr vO)) Z Z Z Z Z (m8 Z Z Z)) $ j2 fun vO=>et (b9 (m:=1) (j:=19) (t':=(kJ x0 x1 o0.fName vF vG vH vI o0.fMin [(61,(Sr vJ)),(62,(Sr vK)),(63,(Sr vL)),(64,(V.ptr 6 0 3)),(65,(I o0.fSize)),(66,(Sr vM)),(67,(Sr vN)),(68,(Sr vO)),(69,(Sr ([70]:Str)))])) Z Z Z) $ et (b4 (x:=(cat vO ([70]:Str))) (w:=fun vP=>(Sr vP)) Z Z Z Z Z (m8 Z Z Z)) $ j2 fun vP=>et (b9 (m:=0) (j:=20) (t':=(kJ x0 x1 o0.fName vF vG vH vI o0.fMin [(61,(Sr vJ)),(62,(Sr vK)),(63,(Sr vL)),(64,(V.ptr 6 0 3)),(65,(I o0.fSize)),(66,(Sr vM)),(67,(Sr vN)),(68,(Sr vO)),(69,(Sr ([70]:Str))),(70,(Sr vP))])) Z Z Z) $ et (b4 (x:=(cat vP ([10]:Str))) (w:=fun vQ=>(Sr vQ)) Z Z Z Z Z (m8 Z Z Z)) $ j2 fun vQ=>et (b9 (m:=0) (j:=21) (t':=(kJ x0 x1 o0.fName vF vG vH vI o0.fMin [(61,(Sr vJ)),(62,(Sr vK)),(63,(Sr vL)),(64,(V.ptr 6 0 3)),(65,(I o0.fSize)),(66,(Sr vM)),(67,(Sr vN)),(68,(Sr vO)),(69,(Sr ([70]:Str))),(70,(Sr vP)),(71,(Sr vQ))])) Z Z Z) $ et (b4 (x:=(cat x0 vQ)) (w:=fun vR=>(Sr vR)) Z Z Z Z Z (m8 Z Z Z)) $ u7 fun vR=>s7 Z) fun o5=>?_
     refine kra [(9,(I 0))] Z $ et (Q5 Z) $ et B3 ?_
     refine P9 k a0 x1 o0 _ _ ?h_ref11_Format_L5_0 ?hr_ref11_Format_L5 k o5 0
     ·intro y8 y9
      exact et s5 $ et w9 $ et j8 $ kl (bw a0 (bT y8 [(5,(I (sqW (x1+1))))])) Z $ et j7 $ ih y8 (sqW (x1+1))
     ·intro s; exact hret s
  ·rw [hc]
   exact et C7 $ et s6 $ hK0 x0 x1
end
end Go.AE
