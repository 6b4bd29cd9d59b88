/- The program, function by function: the evaluator comes to the typed functions. Conditions: none. -/
import Derived.Test.YtcfnmbmmncmjiaaGreatDoorA3
import Derived.KernelRfl
import Derived.Test.YtcfnmbmmncmjiaaGreatDoorProg
import Derived.Test.YtcfnmbmmncmjiaaGreatDoorB1
set_option linter.unusedSimpArgs false
set_option linter.unusedVariables false
namespace Go.AE
open Go.Proofs.Tryz Go.Sh
set_option maxRecDepth 100000
set_option maxHeartbeats 4000000
noncomputable section
abbrev Pt (n:Nat):V:=.ptr n 0 0
abbrev Bo (b:Bool):V:=.bool b
abbrev Sr (s:Str):V:=.str s
abbrev Pr (v:V):V:=.pro v
abbrev sS (l:List Str):V:=.sl 0 1 (List.map V.str l)
abbrev vS (n:Nat) (v:V):w9:=⟨false,n,[v]⟩
abbrev aL {α:Type} (d:Nat) (e:α→V) (l:List α):V:=.aref d 0 (List.map e l).length
theorem IE:prog.eqGuardType prog.depth 54=false:=by kernel_rfl
theorem JR:prog.stoodInHeld 54=false:=by kernel_rfl
theorem IF:prog.eqGuardType prog.depth 56=false:=by kernel_rfl
theorem JS:prog.stoodInHeld 56=false:=by kernel_rfl
def d9 (a:b6):V:=.agg [(V.str a.fName),(V.int .i64 a.fAt),(V.int .i64 a.fBytes)]
def d7 (a:a6):V:=.agg [(V.str a.fName),(V.int .i64 a.fParent),(V.int .i64 a.fMin),(V.int .i64 a.fSize),(V.sl 0 3 (List.map d9 a.fFields)),(V.int .i64 a.fKey),(V.bool a.fUnique),(V.bool a.fLast)]
def b8 (a:b4):V:=.agg [(V.str a.fName),(V.int .i64 a.fType),(V.int .i64 a.fField),(V.str a.fSparse)]
def j8 (a:a8):V:=.agg [(V.str a.fName),(V.int .i64 a.fKind),(V.sl 0 8 (List.map d7 a.fTypes)),(V.sl 0 4 (List.map b8 a.fIndexes))]
def a7 (a:a6):V:=.agg [(V.str a.fName),(V.int .i64 a.fParent),(V.int .i64 a.fMin),(V.int .i64 a.fSize),(V.sl 1 3 (List.map d9 a.fFields)),(V.int .i64 a.fKey),(V.bool a.fUnique),(V.bool a.fLast)]
noncomputable def f18c:Code:=(.seq (.region 0 (oN f18 2) false) (.seq (.region 1 (oN f18 5) false) .ret))
def IK:List (Nat×j2):=[(0,⟨[],[]⟩),(1,⟨[1,2,3,4,5,6,7,8,9,10],[]⟩)]
def DN:j2:=⟨[10,11,12,13,14,15,16,17,18,19],[]⟩
def DO:j2:=⟨[3,4,20,21,22,23,24,25,26,27,28,29,30,31,32,33,34,35,36],[]⟩
def DP:j2:=⟨[0,6,7,8,39,40,41,42,43,44,45,46],[]⟩
noncomputable def DQ:Code:=(.seq (.region 2 (oN f12 69) false) (.seq (.cond (.tmp 8) .skip (.exit 0)) (.seq (.block 1 (.seq (.region 3 (oN f12 1125) false) (.seq (.region 4 (oN f12 2661) false) (.seq (.region 5 (oN f12 5733) false) (.cond (.tmp 37) (.seq (.region 6 (oN f12 20069) false) .ret) .skip))))) (.region 7 (oN f12 485) false))))
noncomputable def f12c:Code:=(.seq (.region 0 (oN f12 2) false) (.seq (.seq (.region 1 (oN f12 9) false) (.block 0 (.loop DQ))) (.seq (.region 8 (oN f12 11) false) .ret)))
def HH:List (Nat×j2):=[(0,⟨[2],[]⟩),(1,⟨[5],[]⟩),(2,⟨[],[]⟩),(3,⟨[8,9],[]⟩),(4,DN),(5,DO),(6,⟨[0,6,7,37],[]⟩),(7,⟨[37,38],[]⟩),(8,DP)]
def Gw:j2:=⟨[6],[]⟩
def Gx:j2:=⟨[11,12,13,14,15],[]⟩
noncomputable def Gy:Code:=(.seq (.region 2 (oN f75 69) false) (.seq (.cond (.tmp 9) .skip (.exit 0)) (.seq (.block 1 (.seq (.region 3 (oN f75 1125) false) (.seq (.region 4 (oN f75 2661) false) (.cond (.tmp 16) (.seq (.region 5 (oN f75 9829) false) .ret) .skip)))) (.region 6 (oN f75 485) false))))
noncomputable def f75c:Code:=(.seq (.region 0 (oN f75 2) false) (.seq (.seq (.region 1 (oN f75 9) false) (.block 0 (.loop Gy))) (.seq (.region 7 (oN f75 11) false) .ret)))
def HV:List (Nat×j2):=[(0,⟨[4],[]⟩),(1,Gw),(2,⟨[],[]⟩),(3,⟨[9,10],[]⟩),(4,Gx),(5,⟨[0,1,5,7,8,16,17],[]⟩),(6,⟨[5,16,18],[]⟩),(7,⟨[0,1,7,8,9],[]⟩)]
def Ae:j2:=⟨[0,1,5,6,7,8],[]⟩
noncomputable def IG:Code:=(.seq (.region 0 (oN f102 2) false) (.seq (.region 1 (oN f102 5) false) .ret))
def DE:List (Nat×j2):=[(0,⟨[4],[]⟩),(1,Ae)]
noncomputable def IH:Code:=(.seq (.region 0 (oN f103 2) false) (.seq (.region 1 (oN f103 5) false) .ret))
def DF:List (Nat×j2):=[(0,⟨[0,3],[]⟩),(1,⟨[1,2,4,5,6,7,8],[]⟩)]
def GG:j2:=⟨[],[]⟩
def GH:j2:=⟨[10,11,12,13],[]⟩
def GI:j2:=⟨[14,15,16,17,18,19,20,21,22,23,24,25,26,27,28,29,30,31,32,33,34,35,36,37,38,39,40,41],[]⟩
def GJ:j2:=⟨[5,6,42,43,44,45,46],[]⟩
def GK:j2:=⟨[0,1,7,8,9,10,49,50,51],[]⟩
noncomputable def GL:Code:=(.seq (.region 2 (oN f83 69) false) (.seq (.cond (.tmp 10) .skip (.exit 0)) (.seq (.block 1 (.seq (.region 3 (oN f83 1125) false) (.seq (.seq (.region 4 (oN f83 4709) false) (.cond (.tmp 42) (.seq (.region 5 (oN f83 19045) false) .ret) .skip)) (.seq (.region 6 (oN f83 5733) false) (.cond (.tmp 47) (.seq (.region 7 (oN f83 20069) false) .ret) .skip))))) (.region 8 (oN f83 485) false))))
noncomputable def f83c:Code:=(.seq (.region 0 (oN f83 2) false) (.seq (.seq (.region 1 (oN f83 9) false) (.block 0 (.loop GL))) (.seq (.region 9 (oN f83 11) false) .ret)))
def HX:List (Nat×j2):=[(0,⟨[4],[]⟩),(1,GG),(2,⟨[],[]⟩),(3,GH),(4,GI),(5,⟨[0,1,5,6,7,8,9,42],[]⟩),(6,GJ),(7,⟨[0,1,7,8,9,47],[]⟩),(8,⟨[47,48],[]⟩),(9,GK)]
def Ga:j2:=⟨[4,5,6,7,8,9,10,11,12,13,14,15,16,17,18,19,20,21,22,23,24,25,26,27,28,29,30,31,32],[]⟩
def Gb:j2:=⟨[33,41,42,43,44,45,46,47,48,49,50,51],[]⟩
def Gc:j2:=⟨[1,40,52,53,54,55,56,57,58,59,60,61,62,63,64,65,66,67,68,69],[]⟩
noncomputable def f56c:Code:=(.seq (.region 0 (oN f56 2) false) (.seq (.block 0 (.seq (.region 1 (oN f56 17) false) (.cond (.tmp 3) (.seq (.region 2 (oN f56 73) false) .ret) (.seq (.region 3 (oN f56 89) false) (.cond (.tmp 33) (.seq (.region 4 (oN f56 313) false) .ret) (.seq (.region 5 (oN f56 377) false) (.cond (.tmp 40) (.seq (.region 6 (oN f56 1273) false) .ret) .skip))))))) (.seq (.region 7 (oN f56 11) true) .ret)))
def Jc:List (Nat×j2):=[(0,⟨[0,2],[]⟩),(1,Ga),(2,⟨[1,3],[]⟩),(3,⟨[3,34,35,36],[]⟩),(4,⟨[1,33,37,38,39],[]⟩),(5,Gb),(6,⟨[1,40],[]⟩),(7,Gc)]
def Gr:j2:=⟨[6],[]⟩
def Gs:j2:=⟨[11,12,13,14,15],[]⟩
noncomputable def Gt:Code:=(.seq (.region 2 (oN f72 69) false) (.seq (.cond (.tmp 9) .skip (.exit 0)) (.seq (.block 1 (.seq (.region 3 (oN f72 1125) false) (.seq (.region 4 (oN f72 2661) false) (.cond (.tmp 16) (.seq (.region 5 (oN f72 9829) false) .ret) .skip)))) (.region 6 (oN f72 485) false))))
noncomputable def f72c:Code:=(.seq (.region 0 (oN f72 2) false) (.seq (.seq (.region 1 (oN f72 9) false) (.block 0 (.loop Gt))) (.seq (.region 7 (oN f72 11) false) .ret)))
def HU:List (Nat×j2):=[(0,⟨[4],[]⟩),(1,Gr),(2,⟨[],[]⟩),(3,⟨[9,10],[]⟩),(4,Gs),(5,⟨[0,1,5,7,8,16,17],[]⟩),(6,⟨[5,16,18],[]⟩),(7,⟨[0,1,7,8,9],[]⟩)]
def Gd:j2:=⟨[0,1,5,6,7,8],[]⟩
noncomputable def f57c:Code:=(.seq (.region 0 (oN f57 2) false) (.seq (.region 1 (oN f57 5) false) .ret))
def Jd:List (Nat×j2):=[(0,⟨[4],[]⟩),(1,Gd)]
noncomputable def f58c:Code:=(.seq (.region 0 (oN f58 2) false) (.seq (.region 1 (oN f58 5) false) .ret))
def Je:List (Nat×j2):=[(0,⟨[0,3],[]⟩),(1,⟨[1,2,4,5,6,7,8],[]⟩)]
def Ge:j2:=⟨[6],[]⟩
def Gf:j2:=⟨[11,12,13,14,15],[]⟩
noncomputable def Gg:Code:=(.seq (.region 2 (oN f59 69) false) (.seq (.cond (.tmp 9) .skip (.exit 0)) (.seq (.block 1 (.seq (.region 3 (oN f59 1125) false) (.seq (.region 4 (oN f59 2661) false) (.cond (.tmp 16) (.seq (.region 5 (oN f59 9829) false) .ret) .skip)))) (.region 6 (oN f59 485) false))))
noncomputable def f59c:Code:=(.seq (.region 0 (oN f59 2) false) (.seq (.seq (.region 1 (oN f59 9) false) (.block 0 (.loop Gg))) (.seq (.region 7 (oN f59 11) false) .ret)))
def HT:List (Nat×j2):=[(0,⟨[4],[]⟩),(1,Ge),(2,⟨[],[]⟩),(3,⟨[9,10],[]⟩),(4,Gf),(5,⟨[0,1,5,7,8,16,17],[]⟩),(6,⟨[5,16,18],[]⟩),(7,⟨[0,1,7,8,9],[]⟩)]
def ER:j2:=⟨[7,8,9,10,11,12,13],[]⟩
def ES:j2:=⟨[],[]⟩
def ET:j2:=⟨[18,19,20,21],[]⟩
def EU:j2:=⟨[22,23,24,25,26,27,28,29,30],[]⟩
def EW:j2:=⟨[31,32,33,34,35],[]⟩
def AZ:j2:=⟨[5,36,37,38,39,40,41,42,43,44,45,46,47,48,49,50,51,52,53,54,55,56,57,58,59,60,61,62,63,64,65,66,67,68,69],[]⟩
def Ba:j2:=⟨[4,6,70,71,72,73,74,75,76,77],[]⟩
def Bb:j2:=⟨[78,79],[]⟩
noncomputable def EX:Code:=(.seq (.region 5 (oN f32 279) false) (.seq (.cond (.tmp 18) .skip (.exit 0)) (.seq (.block 1 (.seq (.region 6 (oN f32 4503) false) (.seq (.seq (.region 7 (oN f32 18839) false) (.cond (.tmp 31) (.seq (.region 8 (oN f32 76183) false) .ret) .skip)) (.seq (.region 9 (oN f32 22935) false) (.seq (.seq (.region 10 (oN f32 80279) false) (.cond (.tmp 70) (.seq (.region 11 (oN f32 309655) false) .ret) .skip)) (.seq (.region 12 (oN f32 96663) false) (.seq (.region 13 (oN f32 194967) false) (.cond (.tmp 80) (.seq (.region 14 (oN f32 653719) false) .ret) .skip)))))))) (.region 15 (oN f32 1943) false))))
noncomputable def f32c:Code:=(.seq (.region 0 (oN f32 2) false) (.seq (.seq (.region 1 (oN f32 9) false) (.cond (.tmp 14) (.seq (.region 2 (oN f32 37) false) .ret) .skip)) (.seq (.region 3 (oN f32 11) false) (.seq (.seq (.region 4 (oN f32 39) false) (.block 0 (.loop EX))) (.seq (.region 16 (oN f32 47) false) .ret)))))
def HM:List (Nat×j2):=[(0,⟨[2],[]⟩),(1,ER),(2,⟨[0,14],[]⟩),(3,⟨[14],[(0,{ site:=true })]⟩),(4,ES),(5,⟨[],[]⟩),(6,ET),(7,EU),(8,⟨[0,3,4,5,15,16,17,31],[]⟩),(9,EW),(10,AZ),(11,⟨[0,3,4,6,15,16,17,70],[]⟩),(12,Ba),(13,Bb),(14,⟨[0,3,15,16,17,80],[]⟩),(15,⟨[80,81],[]⟩),(16,⟨[0,3,15,16,17,18],[]⟩)]
def GM:j2:=⟨[6],[]⟩
def GN:j2:=⟨[11,12,13,14,15],[]⟩
noncomputable def GO:Code:=(.seq (.region 2 (oN f84 69) false) (.seq (.cond (.tmp 9) .skip (.exit 0)) (.seq (.block 1 (.seq (.region 3 (oN f84 1125) false) (.seq (.region 4 (oN f84 2661) false) (.cond (.tmp 16) (.seq (.region 5 (oN f84 9829) false) .ret) .skip)))) (.region 6 (oN f84 485) false))))
noncomputable def f84c:Code:=(.seq (.region 0 (oN f84 2) false) (.seq (.seq (.region 1 (oN f84 9) false) (.block 0 (.loop GO))) (.seq (.region 7 (oN f84 11) false) .ret)))
def HY:List (Nat×j2):=[(0,⟨[4],[]⟩),(1,GM),(2,⟨[],[]⟩),(3,⟨[9,10],[]⟩),(4,GN),(5,⟨[0,1,5,7,8,16,17],[]⟩),(6,⟨[5,16,18],[]⟩),(7,⟨[0,1,7,8,9],[]⟩)]
def Gh:j2:=⟨[0,1,5,6,7,8],[]⟩
noncomputable def f60c:Code:=(.seq (.region 0 (oN f60 2) false) (.seq (.region 1 (oN f60 5) false) .ret))
def Ji:List (Nat×j2):=[(0,⟨[4],[]⟩),(1,Gh)]
noncomputable def f61c:Code:=(.seq (.region 0 (oN f61 2) false) (.seq (.region 1 (oN f61 5) false) .ret))
def Jj:List (Nat×j2):=[(0,⟨[0,3],[]⟩),(1,⟨[1,2,4,5,6,7,8],[]⟩)]
def EY:j2:=⟨[],[]⟩
def EZ:j2:=⟨[11,12,13,14],[]⟩
def Fa:j2:=⟨[5,15,16,17,18,19,20,21,22,23,24,25,26,27,28,29,30,31,32,33,34,35,36,37,38,39,40,41,42],[]⟩
def Fb:j2:=⟨[43,44,45,46,47,48,49],[]⟩
def Fc:j2:=⟨[6,7,50,51,52,53,54,55,56,57,58,59,60,61,62,63,64,65,66,67],[]⟩
def Bc:j2:=⟨[0,1,8,9,10,11,70,71,72],[]⟩
noncomputable def Fd:Code:=(.seq (.region 2 (oN f33 69) false) (.seq (.cond (.tmp 11) .skip (.exit 0)) (.seq (.block 1 (.seq (.region 3 (oN f33 1125) false) (.seq (.seq (.region 4 (oN f33 4709) false) (.cond (.tmp 43) (.seq (.region 5 (oN f33 19045) false) .ret) .skip)) (.seq (.region 6 (oN f33 5733) false) (.seq (.region 7 (oN f33 11877) false) (.cond (.tmp 68) (.seq (.region 8 (oN f33 40549) false) .ret) .skip)))))) (.region 9 (oN f33 485) false))))
noncomputable def f33c:Code:=(.seq (.region 0 (oN f33 2) false) (.seq (.seq (.region 1 (oN f33 9) false) (.block 0 (.loop Fd))) (.seq (.region 10 (oN f33 11) false) .ret)))
def HN:List (Nat×j2):=[(0,⟨[4],[]⟩),(1,EY),(2,⟨[],[]⟩),(3,EZ),(4,Fa),(5,⟨[0,1,6,8,9,10,43],[]⟩),(6,Fb),(7,Fc),(8,⟨[0,1,8,9,10,68],[]⟩),(9,⟨[68,69],[]⟩),(10,Bc)]
def DV:j2:=⟨[1,3,4,5,6,7,8,9,10,11,12,13,14,15,16,17,18,19,20,21,22,23,24,25,26,27],[]⟩
noncomputable def f14c:Code:=(.seq (.region 0 (oN f14 2) false) (.seq (.region 1 (oN f14 5) false) .ret))
def II:List (Nat×j2):=[(0,⟨[0,2],[]⟩),(1,DV)]
def GP:j2:=⟨[6],[]⟩
def GQ:j2:=⟨[11,12,13,14,15],[]⟩
noncomputable def GR:Code:=(.seq (.region 2 (oN f85 69) false) (.seq (.cond (.tmp 9) .skip (.exit 0)) (.seq (.block 1 (.seq (.region 3 (oN f85 1125) false) (.seq (.region 4 (oN f85 2661) false) (.cond (.tmp 16) (.seq (.region 5 (oN f85 9829) false) .ret) .skip)))) (.region 6 (oN f85 485) false))))
noncomputable def f85c:Code:=(.seq (.region 0 (oN f85 2) false) (.seq (.seq (.region 1 (oN f85 9) false) (.block 0 (.loop GR))) (.seq (.region 7 (oN f85 11) false) .ret)))
def HZ:List (Nat×j2):=[(0,⟨[4],[]⟩),(1,GP),(2,⟨[],[]⟩),(3,⟨[9,10],[]⟩),(4,GQ),(5,⟨[0,1,5,7,8,16,17],[]⟩),(6,⟨[5,16,18],[]⟩),(7,⟨[0,1,7,8,9],[]⟩)]
def Gi:j2:=⟨[0,1,5,6,7,8],[]⟩
noncomputable def f62c:Code:=(.seq (.region 0 (oN f62 2) false) (.seq (.region 1 (oN f62 5) false) .ret))
def Jk:List (Nat×j2):=[(0,⟨[4],[]⟩),(1,Gi)]
def Gj:j2:=⟨[0,1,4,5,6,7,8,9,10,11,12],[]⟩
noncomputable def f63c:Code:=(.seq (.region 0 (oN f63 2) false) (.seq (.region 1 (oN f63 5) false) .ret))
def Jl:List (Nat×j2):=[(0,⟨[3],[]⟩),(1,Gj)]
def Fp:j2:=⟨[6,7,8],[]⟩
def Fq:j2:=⟨[1,2,5,10,11,12],[]⟩
noncomputable def f41c:Code:=(.seq (.region 0 (oN f41 2) false) (.seq (.block 0 (.seq (.region 1 (oN f41 17) false) (.cond (.tmp 5) (.seq (.region 2 (oN f41 73) false) .ret) (.seq (.region 3 (oN f41 89) false) (.cond (.tmp 9) (.seq (.region 4 (oN f41 313) false) .ret) .skip))))) (.seq (.region 5 (oN f41 11) false) .ret)))
def IX:List (Nat×j2):=[(0,⟨[0,4],[]⟩),(1,Fp),(2,⟨[1,2,5],[]⟩),(3,Fq),(4,⟨[9],[]⟩),(5,⟨[9],[]⟩)]
def Fr:j2:=⟨[8,9,10,11,12,13],[]⟩
def Fs:j2:=⟨[7,14,15,16,17],[]⟩
def Ft:j2:=⟨[1,2,7,18,19],[(1,{ eff:=true })]⟩
def Fu:j2:=⟨[5,20],[(1,{ close:=true })]⟩
noncomputable def Fv:Code:=(.seq (.seq (.region 2 (oN f42 131) false) (.cond (.tmp 7) .skip (.exit 0))) (.seq (.block 1 (.region 4 (oN f42 291) false)) (.region 3 (oN f42 227) false)))
noncomputable def f42c:Code:=(.seq (.region 0 (oN f42 2) false) (.seq (.region 1 (oN f42 5) false) (.seq (.block 0 (.loop Fv)) (.seq (.region 5 (oN f42 23) false) (.seq (.region 6 (oN f42 47) false) .ret)))))
def HQ:List (Nat×j2):=[(0,⟨[0,4],[]⟩),(1,⟨[],[(0,{ site:=true })]⟩),(2,⟨[6],[]⟩),(3,Fr),(4,Fs),(5,Ft),(6,Fu)]
def Ee:j2:=⟨[7,8,9,10],[]⟩
def Eh:j2:=⟨[1,2,6,12,14,15,16],[]⟩
noncomputable def f17c:Code:=(.seq (.region 0 (oN f17 2) false) (.seq (.seq (.region 1 (oN f17 9) false) (.seq (.region 2 (oN f17 21) false) (.cond (.tmp 12) (.seq (.region 3 (oN f17 77) false) .ret) .skip))) (.seq (.region 4 (oN f17 11) false) .ret)))
def IJ:List (Nat×j2):=[(0,⟨[0,4,5],[]⟩),(1,Ee),(2,⟨[11],[]⟩),(3,⟨[1,2,6,12,13],[]⟩),(4,Eh)]
def Ei:j2:=⟨[10,11,12,13],[]⟩
def Ej:j2:=⟨[2,17],[]⟩
def Ek:j2:=⟨[21,22,23,24],[]⟩
def El:j2:=⟨[8,28,29,30,31,32],[(0,{ tk:=[7],keep:=[0] }),(3,{ tk:=[29],keep:=[0] }),(4,{ tk:=[32],keep:=[0] })]⟩
noncomputable def Em:Code:=(.seq (.region 6 (oN f19 279) false) (.seq (.cond (.tmp 21) .skip (.exit 0)) (.seq (.block 1 (.seq (.region 7 (oN f19 4503) false) (.seq (.region 8 (oN f19 10647) false) (.cond (.tmp 28) (.region 9 (oN f19 22935) false) .skip)))) (.region 10 (oN f19 1943) false))))
noncomputable def f19c:Code:=(.seq (.region 0 (oN f19 2) false) (.seq (.seq (.region 1 (oN f19 9) false) (.seq (.region 2 (oN f19 21) false) (.cond (.tmp 15) (.seq (.region 3 (oN f19 77) false) .ret) .skip))) (.seq (.region 4 (oN f19 11) false) (.seq (.seq (.region 5 (oN f19 39) false) (.block 0 (.loop Em))) (.seq (.region 11 (oN f19 47) false) .ret)))))
def HJ:List (Nat×j2):=[(0,⟨[0,4,5],[]⟩),(1,Ei),(2,⟨[14],[]⟩),(3,⟨[1,2,6,15,16],[]⟩),(4,⟨[6,15],[(0,{ keep:=[0] })]⟩),(5,Ej),(6,⟨[],[]⟩),(7,Ek),(8,⟨[9,25,26,27],[]⟩),(9,El),(10,⟨[8,28,33],[]⟩),(11,⟨[1,7,18,19,20,21,34],[]⟩)]
def En:j2:=⟨[6,7,8,9],[]⟩
def Eo:j2:=⟨[11,12,13],[]⟩
def Ep:j2:=⟨[14,17,18,19,20,21,22,23,24],[]⟩
noncomputable def Er:Code:=(.seq (.seq (.region 4 (oN f20 267) false) (.cond (.tmp 14) .skip (.exit 0))) (.seq (.block 1 (.seq (.region 6 (oN f20 1099) true) (.cond (.tmp 25) (.seq (.region 7 (oN f20 4683) false) .ret) .skip))) (.region 5 (oN f20 459) false)))
noncomputable def f20c:Code:=(.seq (.region 0 (oN f20 2) false) (.seq (.seq (.region 1 (oN f20 9) false) (.cond (.tmp 10) (.seq (.region 2 (oN f20 37) false) .ret) .skip)) (.seq (.seq (.region 3 (oN f20 19) false) (.block 0 (.loop Er))) (.seq (.region 8 (oN f20 23) false) .ret))))
def HK:List (Nat×j2):=[(0,⟨[4],[]⟩),(1,En),(2,⟨[0,1,10],[]⟩),(3,⟨[10],[]⟩),(4,Eo),(5,⟨[15,16,25],[]⟩),(6,Ep),(7,⟨[0,1,5,25],[]⟩),(8,⟨[0,1,5,14],[]⟩)]
def Jf:j2:=⟨[5,6,7,8,9],[]⟩
def Jg:j2:=⟨[10,11,12,13,14],[]⟩
def Jh:j2:=⟨[1,2,3,4,15,16,17,18,19,20,21,22,23,24,25,26,27,28,29,30],[]⟩
noncomputable def f5c:Code:=(.seq (.region 0 (oN f5 2) false) (.seq (.region 1 (oN f5 5) false) (.seq (.region 2 (oN f5 11) false) (.seq (.region 3 (oN f5 23) false) .ret))))
def f5n:List (Nat×j2):=[(0,⟨[0],[]⟩),(1,Jf),(2,Jg),(3,Jh)]
def Gn:j2:=⟨[0,11,12,13,14,15],[]⟩
def Gp:j2:=⟨[1,16,17,18,19,20],[]⟩
def Gq:j2:=⟨[7,8,9,10,21,22,23,24,25,26],[]⟩
noncomputable def f71c:Code:=(.seq (.region 0 (oN f71 2) false) (.seq (.region 1 (oN f71 5) false) (.seq (.region 2 (oN f71 11) false) (.seq (.region 3 (oN f71 23) false) .ret))))
def Jr:List (Nat×j2):=[(0,⟨[4,5,6],[]⟩),(1,Gn),(2,Gp),(3,Gq)]
def Gu:j2:=⟨[1,2,4,5,6,7,8,9],[]⟩
noncomputable def f73c:Code:=(.seq (.region 0 (oN f73 2) false) (.seq (.region 1 (oN f73 5) true) .ret))
def Js:List (Nat×j2):=[(0,⟨[0,3],[]⟩),(1,Gu)]
def Fw:j2:=⟨[9,10,11,12,13,14,15,16,17,18,19],[]⟩
def Fx:j2:=⟨[20,21,22],[]⟩
def Fy:j2:=⟨[23,24,25,26,27,28,29],[(0,{ gh:=[(0,68,2,0)] }),(6,{ gh:=[(1,68,2,0)] })]⟩
def Fz:j2:=⟨[30,31,32,33,34],[]⟩
def Bh:j2:=⟨[0,5,6,8,23,35,36,37,38,39,40,41,42,43,44,45,46,47,48,49,50,51,52,53,54],[(0,{ noio:=true }),(1,{ noio:=true }),(2,{ noio:=true }),(3,{ noio:=true }),(4,{ keep:=[1003],mem:=true,noio:=true }),(5,{ noio:=true }),(6,{ noio:=true }),(7,{ noio:=true }),(8,{ noio:=true }),(9,{ noio:=true }),(10,{ noio:=true }),(11,{ noio:=true }),(12,{ noio:=true }),(13,{ noio:=true }),(14,{ noio:=true }),(15,{ keep:=[1004],noio:=true }),(16,{ noio:=true }),(17,{ tk:=[39],keep:=[1003],noio:=true }),(20,{ tk:=[52] })]⟩
def Bi:j2:=⟨[3,7,55,56,57,58,59,60,61,62,63,64,65,66,67],[]⟩
noncomputable def f46c:Code:=(.seq (.region 0 (oN f46 2) false) (.seq (.region 1 (oN f46 5) true) (.seq (.region 2 (oN f46 11) false) (.seq (.seq (.region 3 (oN f46 39) false) (.cond (.tmp 23) (.seq (.region 4 (oN f46 151) false) (.region 5 (oN f46 215) false)) .skip)) (.seq (.region 6 (oN f46 47) true) (.seq (.region 7 (oN f46 95) false) .ret))))))
def IY:List (Nat×j2):=[(0,⟨[1,4],[]⟩),(1,Fw),(2,⟨[],[]⟩),(3,Fx),(4,Fy),(5,Fz),(6,Bh),(7,Bi)]
def FA:j2:=⟨[9,10,11,12,13],[(0,{ gh:=[(0,94,2,0)] })]⟩
def FB:j2:=⟨[0,1,14],[(0,{ gh:=[(1,94,2,0)] })]⟩
def FC:j2:=⟨[14,15,16,17,18,19,20,21,22,23,24,25],[]⟩
def FD:j2:=⟨[26,27,28,29,30,31,32,33,34,35,36],[]⟩
def FE:j2:=⟨[6,7,37,38,39,40,41,42,43,44,45,46,47,48,49,50,51],[(0,{ noio:=true }),(1,{ noio:=true }),(2,{ noio:=true }),(3,{ noio:=true }),(4,{ keep:=[0],mem:=true,noio:=true }),(5,{ noio:=true }),(6,{ noio:=true }),(7,{ noio:=true }),(8,{ noio:=true }),(9,{ noio:=true }),(10,{ noio:=true }),(11,{ noio:=true }),(12,{ tk:=[41],keep:=[0],noio:=true }),(15,{ tk:=[49] })]⟩
def FF:j2:=⟨[52,53,54],[]⟩
def FG:j2:=⟨[0,1,5,8,55,56],[(1,{ gh:=[(1,94,2,0)] })]⟩
def FH:j2:=⟨[55,57,58,59,60,61,62,63,64,65,66,67,68,69,70,71,72,73,74,75,76],[]⟩
def FI:j2:=⟨[77,78,79,80,81,82,83,84,85],[]⟩
def Bj:j2:=⟨[1,5,86,87,88,89,90,91,92],[]⟩
def Bk:j2:=⟨[0,8,93],[(1,{ gh:=[(1,94,2,0)] })]⟩
noncomputable def f47c:Code:=(.seq (.region 0 (oN f47 2) false) (.seq (.seq (.region 1 (oN f47 9) false) (.cond (.tmp 14) (.seq (.region 2 (oN f47 37) false) .ret) .skip)) (.seq (.region 3 (oN f47 11) true) (.seq (.region 4 (oN f47 23) true) (.seq (.region 5 (oN f47 47) true) (.seq (.seq (.region 6 (oN f47 159) false) (.cond (.tmp 55) (.seq (.region 7 (oN f47 607) false) .ret) .skip)) (.seq (.region 8 (oN f47 191) false) (.seq (.region 9 (oN f47 383) false) (.seq (.region 10 (oN f47 767) false) (.seq (.region 11 (oN f47 1535) false) .ret))))))))))
def IZ:List (Nat×j2):=[(0,⟨[4],[]⟩),(1,FA),(2,FB),(3,FC),(4,FD),(5,FE),(6,FF),(7,FG),(8,FH),(9,FI),(10,Bj),(11,Bk)]
def Gv:j2:=⟨[1,2,4,5,6,7,8,9],[]⟩
noncomputable def f74c:Code:=(.seq (.region 0 (oN f74 2) false) (.seq (.region 1 (oN f74 5) true) .ret))
def Jt:List (Nat×j2):=[(0,⟨[0,3],[]⟩),(1,Gv)]
def Gz:j2:=⟨[1,2,4,5,6,7,8,9],[]⟩
noncomputable def f76c:Code:=(.seq (.region 0 (oN f76 2) false) (.seq (.region 1 (oN f76 5) true) .ret))
def Ju:List (Nat×j2):=[(0,⟨[0,3],[]⟩),(1,Gz)]
def FJ:j2:=⟨[10,11,12,13,14,15],[(0,{ gh:=[(0,76,2,0)] })]⟩
def FK:j2:=⟨[0,3,5,17],[(0,{ gh:=[(1,76,2,0)] })]⟩
def FL:j2:=⟨[17,18,19,20,21,22,23,24,25,26,27],[]⟩
def FM:j2:=⟨[28,29,30],[]⟩
def FN:j2:=⟨[7,31,32,33,34,35],[]⟩
def FO:j2:=⟨[0,3,5,6,36],[(0,{ gh:=[(1,76,2,0)] })]⟩
def FP:j2:=⟨[36,37,38,39,40,41,42,43,44,45,46],[]⟩
def Bl:j2:=⟨[47,48,49,50,51],[]⟩
def Bm:j2:=⟨[0,3,5,6,8,9,52],[(0,{ gh:=[(1,76,2,0)] })]⟩
def Bn:j2:=⟨[8,9,52,53,54,55,56,57,58,59],[]⟩
def wx:j2:=⟨[3,5,6,7,31,60,61,62,63,64,65,66,67,68,69,70,71,72,73,74,75],[(0,{ noio:=true }),(1,{ noio:=true }),(2,{ noio:=true }),(3,{ noio:=true }),(4,{ keep:=[0],mem:=true,noio:=true }),(5,{ noio:=true }),(6,{ noio:=true }),(7,{ noio:=true }),(8,{ noio:=true }),(9,{ noio:=true }),(10,{ noio:=true }),(11,{ noio:=true }),(12,{ noio:=true }),(13,{ tk:=[64],keep:=[0],noio:=true }),(16,{ tk:=[73] })]⟩
def wy:j2:=⟨[0],[(0,{ gh:=[(1,76,2,0)] })]⟩
noncomputable def f48c:Code:=(.seq (.region 0 (oN f48 2) false) (.seq (.region 1 (oN f48 5) false) (.seq (.seq (.region 2 (oN f48 19) false) (.cond (.tmp 17) (.seq (.region 3 (oN f48 75) false) .ret) .skip)) (.seq (.region 4 (oN f48 23) false) (.seq (.region 5 (oN f48 47) false) (.seq (.seq (.region 6 (oN f48 159) false) (.cond (.tmp 31) (.seq (.seq (.region 7 (oN f48 1119) false) (.cond (.tmp 36) (.seq (.region 8 (oN f48 4703) false) .ret) .skip)) (.seq (.region 9 (oN f48 1375) true) (.seq (.seq (.region 10 (oN f48 4959) false) (.cond (.tmp 52) (.seq (.region 11 (oN f48 19295) false) .ret) .skip)) (.region 12 (oN f48 3935) false)))) .skip)) (.seq (.region 13 (oN f48 191) true) (.seq (.region 14 (oN f48 383) false) .ret))))))))
def Ja:List (Nat×j2):=[(0,⟨[1,4],[]⟩),(1,FJ),(2,⟨[16],[]⟩),(3,FK),(4,FL),(5,⟨[],[]⟩),(6,FM),(7,FN),(8,FO),(9,FP),(10,Bl),(11,Bm),(12,Bn),(13,wx),(14,wy)]
def Es:j2:=⟨[6,7,8,9,10,11,12,13,14,15,16,17,18,19,20,21,22],[]⟩
def Et:j2:=⟨[0,1,5,23,24,25],[(2,{ eff:=true })]⟩
def Eu:j2:=⟨[5,27,28,29,30,31,32,33,34,35,36,37,38,39,40,41,42,43],[]⟩
def Ev:j2:=⟨[0,1,26,44,45,46],[(2,{ eff:=true })]⟩
def Ew:j2:=⟨[26,48,49,50,51,52,53,54,55,56],[]⟩
def Ex:j2:=⟨[0,1,47,57,58,59],[(2,{ eff:=true })]⟩
noncomputable def f25c:Code:=(.seq (.region 0 (oN f25 2) false) (.seq (.block 0 (.seq (.region 1 (oN f25 17) false) (.cond (.tmp 5) (.seq (.region 2 (oN f25 73) false) .ret) (.seq (.region 3 (oN f25 89) false) (.cond (.tmp 26) (.seq (.region 4 (oN f25 313) false) .ret) (.seq (.region 5 (oN f25 377) false) (.cond (.tmp 47) (.seq (.region 6 (oN f25 1273) false) .ret) .skip))))))) (.seq (.region 7 (oN f25 11) false) .ret)))
def IL:List (Nat×j2):=[(0,⟨[4],[]⟩),(1,Es),(2,Et),(3,Eu),(4,Ev),(5,Ew),(6,Ex),(7,⟨[0,1,47],[]⟩)]
def EI:j2:=⟨[1,4,5,6,7],[(3,{ eff:=true })]⟩
def EJ:j2:=⟨[0,8,9],[(1,{ eff:=true })]⟩
noncomputable def f27c:Code:=(.seq (.region 0 (oN f27 2) false) (.region 1 (oN f27 3) false))
def IM:List (Nat×j2):=[(0,EI),(1,EJ)]
def JG:j2:=⟨[17,18],[]⟩
def JH:j2:=⟨[20,21,22,23,24,25,26],[(6,{ eff:=true })]⟩
def JI:j2:=⟨[27],[]⟩
def JJ:j2:=⟨[31,32,33],[]⟩
def GW:j2:=⟨[36,37,38,39,40,41,42,43],[]⟩
def tV:j2:=⟨[7,8,45,46,47,48,49,50,51,52,53,54,55,56,57],[(11,{ eff:=true })]⟩
def tW:j2:=⟨[58],[]⟩
def GX:j2:=⟨[62,63,64,65],[]⟩
def xB:j2:=⟨[10,11,69,71,72,73,74,75,76,77,78,79,80,81,82],[(10,{ eff:=true })]⟩
def GY:j2:=⟨[28,29,30,31,85],[]⟩
def GZ:j2:=⟨[89,90,91],[]⟩
def Ha:j2:=⟨[14,94,95,96,97],[]⟩
def Hb:j2:=⟨[15,98,99,100,101,102,103,104,105,106,107,108,109,110],[]⟩
def Bt:j2:=⟨[94,111,112,113,114,115,116],[]⟩
def Bu:j2:=⟨[13,14,16,117,118,119,120,121,122,123,124,125,126,127,128,129,130],[(13,{ eff:=true })]⟩
def Hc:j2:=⟨[1,4,86,87,88,89,132],[(0,{ eff:=true })]⟩
noncomputable def JK:Code:=(.seq (.region 15 (oN f9 2356015) false) (.seq (.cond (.tmp 62) .skip (.exit 2)) (.seq (.block 3 (.seq (.region 16 (oN f9 36959023) false) (.seq (.region 17 (oN f9 87290671) false) (.seq (.seq (.region 18 (oN f9 322171695) false) (.cond (.tmp 69) (.seq (.region 19 (oN f9 1261695791) false) (.seq (.region 20 (oN f9 2872308527) false) (.cond (.tmp 71) (.region 21 (oN f9 6093533999) false) .skip))) .skip)) (.region 22 (oN f9 255062831) true))))) (.region 23 (oN f9 15987503) false))))
noncomputable def JL:Code:=(.seq (.region 6 (oN f9 559) false) (.seq (.cond (.tmp 31) .skip (.exit 0)) (.seq (.block 1 (.seq (.region 7 (oN f9 9007) false) (.seq (.region 8 (oN f9 21295) false) (.seq (.seq (.region 9 (oN f9 78639) false) (.cond (.tmp 36) (.region 10 (oN f9 176943) false) .skip)) (.seq (.seq (.region 11 (oN f9 160559) false) (.cond (.tmp 45) (.region 12 (oN f9 357167) false) .skip)) (.seq (.region 13 (oN f9 193327) true) (.seq (.region 14 (oN f9 389935) false) (.block 2 (.loop JK))))))))) (.region 24 (oN f9 3887) false))))
noncomputable def JM:Code:=(.seq (.region 26 (oN f9 1119) false) (.seq (.cond (.tmp 89) .skip (.exit 4)) (.seq (.block 5 (.seq (.region 27 (oN f9 18015) false) (.seq (.region 28 (oN f9 42591) false) (.seq (.seq (.region 29 (oN f9 157279) false) (.cond (.tmp 94) (.seq (.region 30 (oN f9 616031) false) (.region 31 (oN f9 878175) true)) .skip)) (.seq (.region 32 (oN f9 190047) false) (.region 33 (oN f9 255583) true)))))) (.region 34 (oN f9 7775) false))))
noncomputable def f9c:Code:=(.seq (.region 0 (oN f9 2) false) (.seq (.seq (.region 1 (oN f9 9) false) (.cond (.tmp 19) (.seq (.region 2 (oN f9 37) false) .ret) .skip)) (.seq (.region 3 (oN f9 11) false) (.seq (.region 4 (oN f9 23) true) (.seq (.seq (.region 5 (oN f9 79) false) (.block 0 (.loop JL))) (.seq (.seq (.region 25 (oN f9 159) false) (.block 4 (.loop JM))) (.seq (.region 35 (oN f9 191) false) .ret)))))))
def f9n:List (Nat×j2):=[(0,⟨[0,2,3],[]⟩),(1,JG),(2,⟨[1,19],[]⟩),(3,⟨[19],[(0,{ site:=true })]⟩),(4,JH),(5,JI),(6,⟨[],[]⟩),(7,JJ),(8,⟨[],[]⟩),(9,⟨[34,35],[]⟩),(10,GW),(11,⟨[36,44],[]⟩),(12,⟨[45],[]⟩),(13,tV),(14,tW),(15,⟨[],[]⟩),(16,GX),(17,⟨[],[]⟩),(18,⟨[9,66,67,68],[]⟩),(19,⟨[69],[]⟩),(20,⟨[70],[]⟩),(21,⟨[71],[]⟩),(22,xB),(23,⟨[83],[]⟩),(24,⟨[6,59,60,61,62,84],[]⟩),(25,GY),(26,⟨[],[]⟩),(27,GZ),(28,⟨[],[]⟩),(29,⟨[92,93],[]⟩),(30,Ha),(31,Hb),(32,Bt),(33,Bu),(34,⟨[131],[]⟩),(35,Hc)]
def Jm:j2:=⟨[11],[]⟩
def Jn:j2:=⟨[15,16,17,18],[]⟩
def Jo:j2:=⟨[6,20,21,22,23],[]⟩
def Jp:j2:=⟨[25,26,27,28,29,30,31,32,33],[]⟩
def Gk:j2:=⟨[8,34,35,36,37,38],[]⟩
def Gl:j2:=⟨[7,39,40,41,42,43,44,45,46],[]⟩
def Gm:j2:=⟨[7,25,47,48],[(1,{ eff:=true })]⟩
def Br:j2:=⟨[5,6,12,13,14,15,20,53,54,55,56,57],[(0,{ gh:=[(3,4,2,0)] })]⟩
def Bs:j2:=⟨[0,9,10,58,59,60,61,62,63],[]⟩
noncomputable def Jq:Code:=(.seq (.region 3 (oN f6 139) false) (.seq (.cond (.tmp 15) .skip (.exit 0)) (.seq (.block 1 (.seq (.region 4 (oN f6 2251) false) (.seq (.seq (.region 5 (oN f6 9419) false) (.cond (.tmp 20) (.exit 0) .skip)) (.seq (.region 6 (oN f6 11467) false) (.seq (.region 7 (oN f6 23755) false) (.seq (.seq (.region 8 (oN f6 81099) false) (.cond (.tmp 25) (.seq (.region 9 (oN f6 310475) false) (.cond (.tmp 34) (.seq (.region 10 (oN f6 1227979) false) (.region 11 (oN f6 1752267) false)) .skip)) (.region 12 (oN f6 244939) false))) (.seq (.region 13 (oN f6 97483) false) (.cond (.tmp 50) (.seq (.region 14 (oN f6 326859) false) .ret) .skip)))))))) (.region 15 (oN f6 971) false))))
noncomputable def f6c:Code:=(.seq (.region 0 (oN f6 2) false) (.seq (.region 1 (oN f6 5) false) (.seq (.seq (.region 2 (oN f6 19) false) (.block 0 (.loop Jq))) (.seq (.seq (.region 16 (oN f6 39) false) (.seq (.region 17 (oN f6 87) false) (.cond (.tmp 64) (.seq (.region 18 (oN f6 311) false) .ret) .skip))) (.seq (.region 19 (oN f6 47) false) .ret)))))
def f6n:List (Nat×j2):=[(0,⟨[3],[]⟩),(1,⟨[],[(0,{ keep:=[1002,3] })]⟩),(2,Jm),(3,⟨[],[]⟩),(4,Jn),(5,⟨[19],[]⟩),(6,Jo),(7,⟨[],[]⟩),(8,⟨[5,24],[]⟩),(9,Jp),(10,Gk),(11,Gl),(12,Gm),(13,⟨[7,8,34,49],[]⟩),(14,⟨[0,4,12,13,14,50,51],[]⟩),(15,⟨[50,52],[]⟩),(16,Br),(17,Bs),(18,⟨[4,64,65],[]⟩),(19,⟨[4,64,66],[]⟩)]
def FQ:j2:=⟨[11,14,15,16,17],[]⟩
def FR:j2:=⟨[6,18,19,20,21,22,23,24,25],[(0,{ tk:=[5],keep:=[0] }),(6,{ tk:=[19],keep:=[0] }),(7,{ tk:=[25],keep:=[0] })]⟩
def FS:j2:=⟨[0,1,5,6,7,11,28,29,30,31,32,33],[(0,{ tk:=[5],keep:=[0] }),(5,{ tk:=[28] })]⟩
noncomputable def FT:Code:=(.seq (.seq (.region 4 (oN f49 535) false) (.cond (.tmp 11) .skip (.exit 0))) (.seq (.block 1 (.seq (.region 6 (oN f49 2199) false) (.cond (.tmp 18) (.seq (.region 7 (oN f49 9367) false) (.region 8 (oN f49 13463) false)) .skip))) (.region 5 (oN f49 919) false)))
noncomputable def f49c:Code:=(.seq (.region 0 (oN f49 2) false) (.seq (.region 1 (oN f49 5) false) (.seq (.region 2 (oN f49 11) false) (.seq (.seq (.region 3 (oN f49 39) false) (.block 0 (.loop FT))) (.seq (.region 9 (oN f49 47) false) .ret)))))
def HR:List (Nat×j2):=[(0,⟨[4],[]⟩),(1,⟨[],[(0,{ keep:=[0] })]⟩),(2,⟨[],[]⟩),(3,⟨[],[]⟩),(4,⟨[8,9,10],[]⟩),(5,⟨[12,13,18],[]⟩),(6,FQ),(7,FR),(8,⟨[26,27],[]⟩),(9,FS)]
def GA:j2:=⟨[6,7,8,9,10,11,12],[]⟩
def GB:j2:=⟨[17,20,21,22,23,24,25,26,27,28],[]⟩
def GC:j2:=⟨[29,30,31,32,33,34,35,36,37],[]⟩
noncomputable def GD:Code:=(.seq (.seq (.region 5 (oN f78 535) false) (.cond (.tmp 17) .skip (.exit 0))) (.seq (.block 1 (.seq (.seq (.region 7 (oN f78 4247) false) (.cond (.tmp 29) (.seq (.region 8 (oN f78 18583) false) .ret) .skip)) (.region 9 (oN f78 3223) false))) (.region 6 (oN f78 919) false)))
noncomputable def f78c:Code:=(.seq (.region 0 (oN f78 2) false) (.seq (.seq (.region 1 (oN f78 9) false) (.cond (.tmp 13) (.seq (.region 2 (oN f78 37) false) .ret) .skip)) (.seq (.region 3 (oN f78 11) false) (.seq (.seq (.region 4 (oN f78 39) false) (.block 0 (.loop GD))) (.seq (.region 10 (oN f78 47) false) .ret)))))
def HW:List (Nat×j2):=[(0,⟨[2,3],[]⟩),(1,GA),(2,⟨[0,13],[]⟩),(3,⟨[13],[]⟩),(4,⟨[],[]⟩),(5,⟨[14,15,16],[]⟩),(6,⟨[18,19],[]⟩),(7,GB),(8,⟨[0,4,5,29],[]⟩),(9,GC),(10,⟨[0,4,5,17,38],[]⟩)]
def EK:j2:=⟨[4,5,6,7,8,9],[]⟩
def EL:j2:=⟨[0,3,10,11,12,13],[]⟩
def EM:j2:=⟨[0,14,17,18,19,20,21,22,23,24],[]⟩
def EN:j2:=⟨[0,25,28,29,30,31],[]⟩
def EO:j2:=⟨[0,25,32,33,34,35,36,37,38,39,40],[]⟩
noncomputable def f30c:Code:=(.seq (.region 0 (oN f30 2) false) (.seq (.block 0 (.seq (.region 1 (oN f30 17) false) (.cond (.tmp 3) (.seq (.region 2 (oN f30 73) false) .ret) (.seq (.region 3 (oN f30 89) false) (.cond (.tmp 14) (.seq (.region 4 (oN f30 313) false) .ret) (.seq (.region 5 (oN f30 377) false) (.cond (.tmp 25) (.seq (.region 6 (oN f30 1273) false) .ret) .skip))))))) (.seq (.region 7 (oN f30 11) false) .ret)))
def IO:List (Nat×j2):=[(0,⟨[2],[]⟩),(1,EK),(2,EL),(3,⟨[3,15,16],[]⟩),(4,EM),(5,⟨[14,26,27],[]⟩),(6,EN),(7,EO)]
def FU:j2:=⟨[6,7,8,9,10],[]⟩
def FV:j2:=⟨[0,5,11,12,13,14,15,16,17],[]⟩
noncomputable def f50c:Code:=(.seq (.region 0 (oN f50 2) false) (.seq (.region 1 (oN f50 5) false) (.seq (.seq (.region 2 (oN f50 19) false) (.cond (.tmp 18) (.seq (.region 3 (oN f50 75) false) .ret) .skip)) (.seq (.region 4 (oN f50 23) false) .ret))))
def Jb:List (Nat×j2):=[(0,⟨[2,3],[]⟩),(1,FU),(2,FV),(3,⟨[4,18],[]⟩),(4,⟨[4,18,19],[]⟩)]
def GE:j2:=⟨[4,5,6,7,8,9],[]⟩
def GF:j2:=⟨[3,14,15,16,17,18,19],[]⟩
noncomputable def f79c:Code:=(.seq (.region 0 (oN f79 2) false) (.seq (.block 0 (.seq (.region 1 (oN f79 17) false) (.cond (.tmp 3) (.seq (.region 2 (oN f79 73) false) .ret) (.seq (.region 3 (oN f79 89) false) (.cond (.tmp 13) (.seq (.region 4 (oN f79 313) false) .ret) .skip))))) (.seq (.region 5 (oN f79 11) false) .ret)))
def Jv:List (Nat×j2):=[(0,⟨[2],[]⟩),(1,GE),(2,⟨[0,3,10,11,12],[]⟩),(3,GF),(4,⟨[0,13,20,21,22,23],[]⟩),(5,⟨[0,13],[]⟩)]
def FW:j2:=⟨[8,9,10],[]⟩
def FX:j2:=⟨[15,18,19,20,21,22,23,24,25,26],[]⟩
def FY:j2:=⟨[27,28,29,30,31],[]⟩
def Bp:j2:=⟨[6,7,32,33,34,35,36,37,38,39,40],[(0,{ tk:=[4],keep:=[0] }),(7,{ tk:=[33],keep:=[0] }),(8,{ tk:=[40],keep:=[0] })]⟩
def Bq:j2:=⟨[0,4,5,15,41,42],[]⟩
noncomputable def FZ:Code:=(.seq (.seq (.region 5 (oN f51 535) false) (.cond (.tmp 15) .skip (.exit 0))) (.seq (.block 1 (.seq (.region 7 (oN f51 2199) true) (.seq (.seq (.region 8 (oN f51 9367) false) (.cond (.tmp 32) (.seq (.region 9 (oN f51 38039) false) .ret) .skip)) (.region 10 (oN f51 7319) false)))) (.region 6 (oN f51 919) false)))
noncomputable def f51c:Code:=(.seq (.region 0 (oN f51 2) false) (.seq (.seq (.region 1 (oN f51 9) false) (.cond (.tmp 11) (.seq (.region 2 (oN f51 37) false) .ret) .skip)) (.seq (.region 3 (oN f51 11) false) (.seq (.seq (.region 4 (oN f51 39) false) (.block 0 (.loop FZ))) (.seq (.region 11 (oN f51 47) false) .ret)))))
def HS:List (Nat×j2):=[(0,⟨[2,3],[]⟩),(1,FW),(2,⟨[0,11],[]⟩),(3,⟨[11],[(0,{ keep:=[0] })]⟩),(4,⟨[],[]⟩),(5,⟨[12,13,14],[]⟩),(6,⟨[16,17],[]⟩),(7,FX),(8,FY),(9,⟨[0,4,5,6,7,32],[]⟩),(10,Bp),(11,Bq)]
def Ey:j2:=⟨[0,17,18],[]⟩
def Ez:j2:=⟨[19,20,21,22],[]⟩
def EA:j2:=⟨[23,26,27,28,29,30],[]⟩
def EB:j2:=⟨[4,5,6,7,31,194],[(0,{ gh:=[(2,4,2,0),(3,4,2,0)] })]⟩
def EC:j2:=⟨[33,34,35,36,37,38,39,40,41,42,43,44,45],[]⟩
def ED:j2:=⟨[32,46,47,48,49],[]⟩
def Au:j2:=⟨[7,50,51,52,53,54,55,56,57],[]⟩
def Av:j2:=⟨[32,59,60,61,62,63,64,65,66,67],[]⟩
def Aw:j2:=⟨[58,68,69,70,71,72,73,74,75],[(7,{ keep:=[1004] })]⟩
def Ax:j2:=⟨[],[(0,{ gh:=[(0,4,2,0)] })]⟩
def Ay:j2:=⟨[76,77,78,79],[]⟩
def Az:j2:=⟨[80,83,84,85,86,87,88,89,90,91],[]⟩
def AA:j2:=⟨[9,80,95,96,97,98,99,100,101,102],[(0,{ gh:=[(2,4,2,0)] })]⟩
def AB:j2:=⟨[7,103,104,105,106,107,108,109,110],[]⟩
def AC:j2:=⟨[8,111,112,113,114,115,116],[(1,{ keep:=[1003],mem:=true }),(2,{ keep:=[1004] }),(4,{ tk:=[112],keep:=[1003] }),(6,{ tk:=[115] })]⟩
def AD:j2:=⟨[58,118,119,120,121,122,123,124,125,126,127,128,129,130,131,132],[(0,{ gh:=[(0,4,2,0)] })]⟩
def AF:j2:=⟨[117,133,134,135,136,137,138,139,140],[(7,{ keep:=[4],mem:=true }),(9,{ tk:=[140] })]⟩
def AG:j2:=⟨[141,142,143,144],[]⟩
def AH:j2:=⟨[145,146,147,148,149,150,151,152],[]⟩
def AJ:j2:=⟨[153,154,155,156,157,158,159,160],[]⟩
def AK:j2:=⟨[161,162,163,164,165,166,167,168,169],[]⟩
def AL:j2:=⟨[170,171,172,173,174],[]⟩
def AM:j2:=⟨[7,175,176,177,178,179],[]⟩
def wt:j2:=⟨[7,11,170,180,181,182,183,184,185],[(1,{ keep:=[0],mem:=true }),(4,{ tk:=[181],keep:=[0] }),(6,{ tk:=[184] })]⟩
def wu:j2:=⟨[10,186,187,188,189,190,191,192,193],[(6,{ keep:=[4],mem:=true }),(8,{ tk:=[192],gh:=[(1,4,2,0)] })]⟩
def AN:j2:=⟨[117,195,196,197,198,199,200,201,202,203],[]⟩
def AO:j2:=⟨[194,204,205,206,207],[]⟩
def AP:j2:=⟨[208,209,210,211],[]⟩
def AQ:j2:=⟨[212,215,216,217,218,219,220,221,222,223],[]⟩
def AR:j2:=⟨[227,228,229,230,231,232,233,234,235,236,237,238,239,240],[]⟩
def AU:j2:=⟨[241,244,245,246,247,248,249,250,251,252,253,254,255,256,257],[]⟩
def AV:j2:=⟨[14,241,261,262,263],[]⟩
def AW:j2:=⟨[7,264,265,266,267,268,269,270,271],[]⟩
def AX:j2:=⟨[4,5,6,12,15,273,274],[(0,{ gh:=[(2,4,2,0),(3,4,2,0)] })]⟩
def ww:j2:=⟨[7,12,264,277,278,279,280,281,282],[(1,{ keep:=[0],mem:=true }),(4,{ tk:=[278],keep:=[0] }),(6,{ tk:=[281],gh:=[(1,4,2,0)] })]⟩
def AY:j2:=⟨[4,5,6,23,283],[(0,{ gh:=[(3,4,2,0)] })]⟩
noncomputable def EE:Code:=(.seq (.seq (.region 14 (oN f26 8746135) false) (.cond (.tmp 80) .skip (.exit 3))) (.seq (.block 4 (.seq (.region 16 (oN f26 36009111) true) (.cond (.tmp 92) (.region 17 (oN f26 86340759) false) .skip))) (.region 15 (oN f26 15037591) false)))
noncomputable def EF:Code:=(.seq (.seq (.region 34 (oN f26 139981975) false) (.cond (.tmp 212) .skip (.exit 5))) (.seq (.block 6 (.seq (.region 36 (oN f26 576189591) true) (.cond (.tmp 224) (.region 37 (oN f26 1381495959) false) .skip))) (.region 35 (oN f26 240645271) false)))
noncomputable def EG:Code:=(.seq (.seq (.region 39 (oN f26 280491159) false) (.cond (.tmp 241) .skip (.exit 7))) (.seq (.block 8 (.seq (.region 41 (oN f26 1152906391) true) (.cond (.tmp 258) (.region 42 (oN f26 2763519127) false) .skip))) (.region 40 (oN f26 481817751) false)))
noncomputable def EH:Code:=(.seq (.seq (.region 4 (oN f26 535) false) (.cond (.tmp 23) .skip (.exit 0))) (.seq (.block 1 (.seq (.region 6 (oN f26 2199) false) (.block 2 (.seq (.region 8 (oN f26 9367) false) (.cond (.tmp 32) (.seq (.region 9 (oN f26 38039) false) (.region 10 (oN f26 54423) false)) (.seq (.region 11 (oN f26 46231) false) (.cond (.tmp 58) (.seq (.region 12 (oN f26 160919) true) (.seq (.seq (.region 13 (oN f26 619671) false) (.block 3 (.loop EE))) (.seq (.region 18 (oN f26 750743) false) (.seq (.region 19 (oN f26 1537175) false) (.region 20 (oN f26 2061463) false))))) (.seq (.region 21 (oN f26 193687) false) (.cond (.tmp 117) (.seq (.region 22 (oN f26 652439) false) (.seq (.region 23 (oN f26 1438871) false) (.seq (.region 24 (oN f26 3011735) false) (.seq (.region 25 (oN f26 6157463) false) (.seq (.seq (.region 26 (oN f26 20837527) false) (.cond (.tmp 170) (.seq (.region 27 (oN f26 79557783) false) (.region 28 (oN f26 113112215) false)) .skip)) (.seq (.region 29 (oN f26 25031831) false) (.region 30 (oN f26 33420439) false))))))) (.seq (.region 31 (oN f26 783511) false) (.cond (.tmp 194) (.seq (.region 32 (oN f26 2618519) false) (.seq (.seq (.region 33 (oN f26 9958551) false) (.block 5 (.loop EF))) (.seq (.seq (.region 38 (oN f26 20444311) false) (.block 7 (.loop EG))) (.seq (.seq (.region 43 (oN f26 41415831) false) (.cond (.tmp 264) (.seq (.region 44 (oN f26 158856343) false) (.seq (.seq (.region 45 (oN f26 628618391) false) (.cond (.tmp 273) (.seq (.region 46 (oN f26 2507666583) false) .ret) .skip)) (.region 47 (oN f26 494400663) false))) .skip)) (.region 48 (oN f26 33027223) false))))) (.seq (.region 7 (oN f26 3142807) false) .ret)))))))))))) (.region 5 (oN f26 919) false)))
noncomputable def f26c:Code:=(.seq (.region 0 (oN f26 2) false) (.seq (.region 1 (oN f26 5) false) (.seq (.region 2 (oN f26 11) false) (.seq (.seq (.region 3 (oN f26 39) false) (.block 0 (.loop EH))) (.seq (.region 49 (oN f26 47) false) .ret)))))
def yL:List (Nat×j2):=[(0,⟨[3],[]⟩),(1,⟨[],[(0,{ keep:=[1002,3] })]⟩),(2,Ey),(3,⟨[],[]⟩),(4,Ez),(5,⟨[24,25],[]⟩),(6,EA),(7,EB),(8,EC),(9,ED),(10,Au),(11,Av),(12,Aw),(13,Ax),(14,Ay),(15,⟨[81,82,92],[]⟩),(16,Az),(17,⟨[92,93,94],[]⟩),(18,AA),(19,AB),(20,AC),(21,AD),(22,AF),(23,AG),(24,AH),(25,AJ),(26,AK),(27,AL),(28,AM),(29,wt),(30,wu),(31,AN),(32,AO),(33,⟨[],[]⟩),(34,AP),(35,⟨[213,214,224],[]⟩),(36,AQ),(37,⟨[224,225,226],[]⟩),(38,⟨[13,212],[]⟩),(39,AR),(40,⟨[242,243,258],[]⟩),(41,AU),(42,⟨[258,259,260],[]⟩),(43,AV),(44,AW),(45,⟨[16,272],[]⟩),(46,AX),(47,⟨[15,273,275,276],[]⟩),(48,ww),(49,AY)]
def DR:j2:=⟨[8,11,12,13,14,15,16,17,18,19,20],[]⟩
def DS:j2:=⟨[4,21,22,23,24,25,26,27,28,29,30,31,32,33,34,35,36,37],[]⟩
def DT:j2:=⟨[0,3,8,39,40,41,42,43,44,45,46],[]⟩
noncomputable def DU:Code:=(.seq (.seq (.region 2 (oN f13 133) false) (.cond (.tmp 8) .skip (.exit 0))) (.seq (.block 1 (.seq (.region 4 (oN f13 549) false) (.seq (.region 5 (oN f13 1317) false) (.cond (.tmp 38) (.seq (.region 6 (oN f13 4901) false) .ret) .skip)))) (.region 3 (oN f13 229) false)))
noncomputable def f13c:Code:=(.seq (.region 0 (oN f13 2) false) (.seq (.seq (.region 1 (oN f13 9) false) (.block 0 (.loop DU))) (.seq (.region 7 (oN f13 11) false) .ret)))
def HI:List (Nat×j2):=[(0,⟨[2],[]⟩),(1,⟨[],[]⟩),(2,⟨[5,6,7],[]⟩),(3,⟨[9,10,38],[]⟩),(4,DR),(5,DS),(6,⟨[0,3,38],[]⟩),(7,DT)]
def Fe:j2:=⟨[6,7,8,9],[]⟩
def Ff:j2:=⟨[10,13,14,15,16,17],[]⟩
def Fg:j2:=⟨[18,19,20,21,22,23,24,25,26,27,28,29,30,31,32,33,34,35,36,37,38,39,40,41,42,43,44,45,46,47],[]⟩
def Bd:j2:=⟨[51,54,55,56,57,58,59,60,61],[]⟩
def Be:j2:=⟨[3,10,63,64,65,66,67,68,69,70,71,72,73,74,75,76,77,78,79,80,81],[]⟩
def Bf:j2:=⟨[1,82,83,84,85,86,87,88,89,90,91,92,93,94,95,96,97,98,99,100,101,102,103,104,105,106,107,108,109,110,111],[]⟩
noncomputable def Fh:Code:=(.seq (.seq (.region 8 (oN f34 34597) false) (.cond (.tmp 51) .skip (.exit 2))) (.seq (.block 3 (.seq (.region 10 (oN f34 141093) true) (.cond (.tmp 62) (.seq (.region 11 (oN f34 599845) false) .ret) .skip))) (.region 9 (oN f34 59173) false)))
noncomputable def Fi:Code:=(.seq (.seq (.region 2 (oN f34 133) false) (.cond (.tmp 10) .skip (.exit 0))) (.seq (.block 1 (.seq (.region 4 (oN f34 549) false) (.seq (.seq (.region 5 (oN f34 2341) false) (.cond (.tmp 48) (.seq (.region 6 (oN f34 9509) false) .ret) .skip)) (.seq (.region 7 (oN f34 2853) false) (.block 2 (.loop Fh)))))) (.region 3 (oN f34 229) false)))
noncomputable def f34c:Code:=(.seq (.region 0 (oN f34 2) false) (.seq (.seq (.region 1 (oN f34 9) false) (.block 0 (.loop Fi))) (.seq (.seq (.region 12 (oN f34 19) false) (.cond (.tmp 82) (.seq (.region 13 (oN f34 75) false) .ret) .skip)) (.seq (.region 14 (oN f34 23) true) .ret))))
def CX:List (Nat×j2):=[(0,⟨[0,2],[]⟩),(1,⟨[],[]⟩),(2,Fe),(3,⟨[4,5,11,12,51],[]⟩),(4,Ff),(5,Fg),(6,⟨[1,3,4,48],[]⟩),(7,⟨[48],[]⟩),(8,⟨[49,50],[]⟩),(9,⟨[52,53,62],[]⟩),(10,Bd),(11,⟨[1,3,4,5,62],[]⟩),(12,Be),(13,⟨[1,82],[]⟩),(14,Bf)]
def Fj:j2:=⟨[7,8,9,10,11,12],[]⟩
def Fk:j2:=⟨[15,16,17,18,19,20,23],[]⟩
noncomputable def Fl:Code:=(.seq (.seq (.region 2 (oN f35 133) false) (.cond (.tmp 14) .skip (.exit 0))) (.seq (.block 1 (.seq (.region 4 (oN f35 549) false) (.cond (.tmp 23) (.seq (.region 5 (oN f35 2341) false) .ret) .skip))) (.region 3 (oN f35 229) false)))
noncomputable def f35c:Code:=(.seq (.region 0 (oN f35 2) false) (.seq (.seq (.region 1 (oN f35 9) false) (.block 0 (.loop Fl))) (.seq (.region 6 (oN f35 11) false) .ret)))
def HO:List (Nat×j2):=[(0,⟨[0,6],[]⟩),(1,Fj),(2,⟨[13],[]⟩),(3,Fk),(4,⟨[14,21,22],[]⟩),(5,⟨[1,2,3,23],[]⟩),(6,⟨[1,2,3,14],[]⟩)]
def Fm:j2:=⟨[7,8,9,10,11],[(1,{ keep:=[0] }),(3,{ tk:=[9] })]⟩
def Fn:j2:=⟨[12,13,14,15,16,17],[]⟩
noncomputable def Fo:Code:=(.seq (.seq (.region 2 (oN f36 131) false) (.cond (.tmp 7) .skip (.exit 0))) (.block 1 (.seq (.region 3 (oN f36 291) false) (.region 4 (oN f36 419) false))))
noncomputable def f36c:Code:=(.seq (.region 0 (oN f36 2) false) (.seq (.region 1 (oN f36 5) false) (.seq (.block 0 (.loop Fo)) (.seq (.region 5 (oN f36 23) false) .ret))))
def HP:List (Nat×j2):=[(0,⟨[0,4],[]⟩),(1,⟨[],[]⟩),(2,⟨[6],[]⟩),(3,Fm),(4,Fn),(5,⟨[1,2,5,7,18],[]⟩)]
def DW:j2:=⟨[9,10,11,12,13,14,15,16,17,18,19,20,21,22,23,24,25,26,27,28,29,30,31,32,33,34,35,36,37,38,39],[]⟩
def DX:j2:=⟨[41,42,43,44],[]⟩
def DY:j2:=⟨[45,48,49,50,51,52],[]⟩
def DZ:j2:=⟨[53,54,55,56,57,58,59,60,61,62,63,64,65,66,67,68,69,70,71,72,73,74,75,76,77],[]⟩
def Am:j2:=⟨[81,84,85,86,87,88,89,90,91],[]⟩
def Ao:j2:=⟨[4,94,95,96,97,98,99,100,101,102,103,104,105,106,107,108,109,110,111,112,113,114,115,116],[]⟩
def Ap:j2:=⟨[4,94,118,119,120,121,122,123,124,125,126,127,128,129,130,131,132,133,134,135,136,137,138,139,140,141,142,143,144,145,146,147,148],[]⟩
def Aq:j2:=⟨[150,151,152,153],[]⟩
def Ar:j2:=⟨[154,157,158,159,160,161],[]⟩
def As:j2:=⟨[162,163,164,165,166,167,168,169,170,171,172,173,174,175,176,177,178,179,180,181,182,183,184,185,186,187,188,189,190,191,192,193,194,195,196,197,198,199,200,201,202,203,204,205,206,207,208,209,210,211,212,213,214,215,216],[]⟩
def At:j2:=⟨[220,223,224,225,226,227,228,229,230],[]⟩
noncomputable def Ea:Code:=(.seq (.seq (.region 10 (oN f15 136779) false) (.cond (.tmp 81) .skip (.exit 2))) (.seq (.block 3 (.seq (.region 12 (oN f15 562763) true) (.cond (.tmp 92) (.seq (.region 13 (oN f15 2397771) false) .ret) .skip))) (.region 11 (oN f15 235083) false)))
noncomputable def Eb:Code:=(.seq (.seq (.region 4 (oN f15 267) false) (.cond (.tmp 45) .skip (.exit 0))) (.seq (.block 1 (.seq (.region 6 (oN f15 1099) false) (.seq (.seq (.region 7 (oN f15 4683) false) (.cond (.tmp 78) (.seq (.region 8 (oN f15 19019) false) .ret) .skip)) (.seq (.seq (.region 9 (oN f15 9803) false) (.block 2 (.loop Ea))) (.seq (.seq (.region 14 (oN f15 20043) false) (.cond (.tmp 94) (.seq (.seq (.region 15 (oN f15 142923) false) (.cond (.tmp 117) (.seq (.region 16 (oN f15 601675) false) .ret) .skip)) (.exit 1)) .skip)) (.seq (.region 17 (oN f15 24139) false) (.cond (.tmp 149) (.seq (.region 18 (oN f15 81483) false) .ret) .skip))))))) (.region 5 (oN f15 459) false)))
noncomputable def Ec:Code:=(.seq (.seq (.region 26 (oN f15 138391) false) (.cond (.tmp 220) .skip (.exit 6))) (.seq (.block 7 (.seq (.region 28 (oN f15 564375) true) (.cond (.tmp 231) (.seq (.region 29 (oN f15 2399383) false) .ret) .skip))) (.region 27 (oN f15 236695) false)))
noncomputable def Ed:Code:=(.seq (.seq (.region 20 (oN f15 535) false) (.cond (.tmp 154) .skip (.exit 4))) (.seq (.block 5 (.seq (.region 22 (oN f15 2199) false) (.seq (.seq (.region 23 (oN f15 9367) true) (.cond (.tmp 217) (.seq (.region 24 (oN f15 38039) false) .ret) .skip)) (.seq (.region 25 (oN f15 11415) false) (.block 6 (.loop Ec)))))) (.region 21 (oN f15 919) false)))
noncomputable def f15c:Code:=(.seq (.region 0 (oN f15 2) false) (.seq (.seq (.region 1 (oN f15 9) false) (.cond (.tmp 40) (.seq (.region 2 (oN f15 37) false) .ret) .skip)) (.seq (.seq (.region 3 (oN f15 19) false) (.block 0 (.loop Eb))) (.seq (.seq (.region 19 (oN f15 39) false) (.block 4 (.loop Ed))) (.seq (.region 30 (oN f15 47) false) .ret)))))
def yK:List (Nat×j2):=[(0,⟨[0,2],[]⟩),(1,DW),(2,⟨[1,40],[]⟩),(3,⟨[40],[]⟩),(4,DX),(5,⟨[46,47,117,149],[]⟩),(6,DY),(7,DZ),(8,⟨[1,3,4,78],[]⟩),(9,⟨[78],[]⟩),(10,⟨[79,80],[]⟩),(11,⟨[82,83,92],[]⟩),(12,Am),(13,⟨[1,3,4,5,92],[]⟩),(14,⟨[5,81,93],[]⟩),(15,Ao),(16,⟨[1,3,117],[]⟩),(17,Ap),(18,⟨[1,3,149],[]⟩),(19,⟨[3,45],[]⟩),(20,Aq),(21,⟨[7,8,155,156,220],[]⟩),(22,Ar),(23,As),(24,⟨[1,6,7,217],[]⟩),(25,⟨[217],[]⟩),(26,⟨[218,219],[]⟩),(27,⟨[221,222,231],[]⟩),(28,At),(29,⟨[1,6,7,8,231],[]⟩),(30,⟨[1,6,154],[]⟩)]
def EP:j2:=⟨[8,11,12,13,14,15,16,17,18,19,20,21,22,23,24,25,26,27,28,29,30,31,32,33],[(23,{ eff:=true })]⟩
noncomputable def EQ:Code:=(.seq (.seq (.region 3 (oN f31 267) false) (.cond (.tmp 8) .skip (.exit 0))) (.seq (.block 1 (.region 5 (oN f31 587) true)) (.region 4 (oN f31 459) false)))
noncomputable def f31c:Code:=(.seq (.region 0 (oN f31 2) false) (.seq (.region 1 (oN f31 5) false) (.seq (.seq (.region 2 (oN f31 19) false) (.block 0 (.loop EQ))) (.seq (.region 6 (oN f31 23) false) .ret))))
def HL:List (Nat×j2):=[(0,⟨[2],[]⟩),(1,⟨[],[]⟩),(2,⟨[],[]⟩),(3,⟨[5,6,7],[]⟩),(4,⟨[9,10],[]⟩),(5,EP),(6,⟨[0,3,4,8,34],[]⟩)]
def DG:j2:=⟨[15,16],[]⟩
def DH:j2:=⟨[17,18,19,20,21,22,23,24,25,26],[]⟩
def DI:j2:=⟨[27,28,29,30],[]⟩
def DJ:j2:=⟨[31,34,35,36,37,38],[]⟩
def Af:j2:=⟨[41,42,43,44,45,46,47,48],[]⟩
def oV:j2:=⟨[7,8,50,51,52,53,54,55,56,57,58,59,60,61,62,63,64,65,66,67,68,69,70,71,72],[(22,{ eff:=true })]⟩
def Ag:j2:=⟨[73,74,75,76],[]⟩
def Ah:j2:=⟨[77,80,81,82,83,84],[]⟩
def sE:j2:=⟨[10,11,88,90,91,92,93,94,95,96,97,98,99,100,101,102,103,104,105,106,107,108,109],[(19,{ eff:=true })]⟩
def Ai:j2:=⟨[110,111,112,113],[]⟩
def Aj:j2:=⟨[114,117,118,119,120,121],[]⟩
def Ak:j2:=⟨[124,125,126,127],[]⟩
def wr:j2:=⟨[13,14,124,128,129,130,131,132,133,134,135,136,137,138,139,140,141,142,143,144,145,146,147,148,149,150,151,152,153,154,155,156,157,158,159],[(32,{ eff:=true })]⟩
noncomputable def DK:Code:=(.seq (.seq (.region 15 (oN f11 1113239) false) (.cond (.tmp 77) .skip (.exit 2))) (.seq (.block 3 (.seq (.region 17 (oN f11 4521111) false) (.seq (.region 18 (oN f11 10812567) false) (.seq (.seq (.region 19 (oN f11 40172695) false) (.cond (.tmp 88) (.seq (.region 20 (oN f11 157613207) false) (.seq (.region 21 (oN f11 358939799) false) (.cond (.tmp 90) (.region 22 (oN f11 761592983) false) .skip))) .skip)) (.region 23 (oN f11 31784087) true))))) (.region 16 (oN f11 1899671) false)))
noncomputable def DL:Code:=(.seq (.seq (.region 5 (oN f11 535) false) (.cond (.tmp 31) .skip (.exit 0))) (.seq (.block 1 (.seq (.region 7 (oN f11 2199) false) (.seq (.region 8 (oN f11 5271) false) (.seq (.seq (.region 9 (oN f11 19607) false) (.cond (.tmp 41) (.region 10 (oN f11 44183) false) .skip)) (.seq (.seq (.region 11 (oN f11 40087) false) (.cond (.tmp 50) (.region 12 (oN f11 89239) false) .skip)) (.seq (.region 13 (oN f11 48279) true) (.seq (.region 14 (oN f11 97431) false) (.block 2 (.loop DK))))))))) (.region 6 (oN f11 919) false)))
noncomputable def DM:Code:=(.seq (.seq (.region 25 (oN f11 1071) false) (.cond (.tmp 114) .skip (.exit 4))) (.seq (.block 5 (.seq (.region 27 (oN f11 4399) false) (.seq (.region 28 (oN f11 10543) false) (.seq (.seq (.region 29 (oN f11 39215) false) (.cond (.tmp 124) (.region 30 (oN f11 88367) false) .skip)) (.region 31 (oN f11 31023) true))))) (.region 26 (oN f11 1839) false)))
noncomputable def f11c:Code:=(.seq (.region 0 (oN f11 2) false) (.seq (.seq (.region 1 (oN f11 9) false) (.cond (.tmp 17) (.seq (.region 2 (oN f11 37) false) .ret) .skip)) (.seq (.region 3 (oN f11 11) true) (.seq (.seq (.region 4 (oN f11 39) false) (.block 0 (.loop DL))) (.seq (.seq (.region 24 (oN f11 79) false) (.block 4 (.loop DM))) (.seq (.region 32 (oN f11 95) false) .ret))))))
def Al:List (Nat×j2):=[(0,⟨[0,2,3],[]⟩),(1,DG),(2,⟨[1,17],[]⟩),(3,DH),(4,⟨[],[]⟩),(5,DI),(6,⟨[6,9,32,33,77],[]⟩),(7,DJ),(8,⟨[],[]⟩),(9,⟨[39,40],[]⟩),(10,Af),(11,⟨[41,49],[]⟩),(12,⟨[50],[]⟩),(13,oV),(14,⟨[],[]⟩),(15,Ag),(16,⟨[78,79],[]⟩),(17,Ah),(18,⟨[],[]⟩),(19,⟨[85,86,87],[]⟩),(20,⟨[88],[]⟩),(21,⟨[89],[]⟩),(22,⟨[90],[]⟩),(23,sE),(24,⟨[5,31],[]⟩),(25,Ai),(26,⟨[115,116],[]⟩),(27,Aj),(28,⟨[],[]⟩),(29,⟨[122,123],[]⟩),(30,Ak),(31,wr),(32,⟨[1,4,12,114,160],[]⟩)]
def Jw:j2:=⟨[8,9,10,11,12],[]⟩
def Jx:j2:=⟨[13,14,15,16,17,18],[]⟩
def Jy:j2:=⟨[0,6,7,19,20,21,22,23,24],[]⟩
noncomputable def f7c:Code:=(.seq (.region 0 (oN f7 2) false) (.seq (.region 1 (oN f7 5) false) (.seq (.seq (.region 2 (oN f7 19) false) (.cond (.tmp 13) (.seq (.region 3 (oN f7 75) false) (.seq (.region 4 (oN f7 171) false) (.cond (.tmp 25) (.seq (.region 5 (oN f7 619) false) .ret) .skip))) .skip)) (.seq (.region 6 (oN f7 23) false) .ret))))
def f7n:List (Nat×j2):=[(0,⟨[3],[]⟩),(1,Jw),(2,⟨[5],[]⟩),(3,Jx),(4,Jy),(5,⟨[4,25,26],[]⟩),(6,⟨[0,4,13,25,27],[]⟩)]
def Jz:j2:=⟨[10,11,12,13,14,15,16,17,18,19,20,21,22,23,24,25,26,27,28,29,30,31,32,33,34,35,36,37,38],[]⟩
def JA:j2:=⟨[40,41,42,43],[]⟩
def JB:j2:=⟨[44,47,48,49,50,51,52,53,54,55,56],[]⟩
def JC:j2:=⟨[57,58,59,60,61,62,63,64,65,66,67,68,69,70,71,72,73,74,75,76,77,78,79,80,81,82,83,84,85,86,87,88,89,90,91,92,93,94,95,96,97,98,99,100,101,102,103,104,105,106,107,108,109,110,111],[]⟩
def GS:j2:=⟨[113,114,115,116],[]⟩
def GT:j2:=⟨[117,120,121,122,123,124,125,126,127,128,129],[]⟩
def GU:j2:=⟨[131,132,133,134],[]⟩
def GV:j2:=⟨[135,138,139,140,141,142,143,144,145,146,147],[]⟩
noncomputable def JD:Code:=(.seq (.seq (.region 10 (oN f8 69195) false) (.cond (.tmp 117) .skip (.exit 2))) (.seq (.block 3 (.seq (.region 12 (oN f8 282187) true) (.cond (.tmp 130) (.seq (.region 13 (oN f8 1199691) false) .ret) .skip))) (.region 11 (oN f8 118347) false)))
noncomputable def JE:Code:=(.seq (.seq (.region 4 (oN f8 267) false) (.cond (.tmp 44) .skip (.exit 0))) (.seq (.block 1 (.seq (.region 6 (oN f8 1099) true) (.seq (.seq (.region 7 (oN f8 4683) false) (.cond (.tmp 112) (.seq (.region 8 (oN f8 19019) false) .ret) .skip)) (.seq (.region 9 (oN f8 5707) false) (.block 2 (.loop JD)))))) (.region 5 (oN f8 459) false)))
noncomputable def JF:Code:=(.seq (.seq (.region 15 (oN f8 535) false) (.cond (.tmp 135) .skip (.exit 4))) (.seq (.block 5 (.seq (.region 17 (oN f8 2199) true) (.cond (.tmp 148) (.seq (.region 18 (oN f8 9367) false) .ret) .skip))) (.region 16 (oN f8 919) false)))
noncomputable def f8c:Code:=(.seq (.region 0 (oN f8 2) false) (.seq (.seq (.region 1 (oN f8 9) false) (.cond (.tmp 39) (.seq (.region 2 (oN f8 37) false) .ret) .skip)) (.seq (.seq (.region 3 (oN f8 19) false) (.block 0 (.loop JE))) (.seq (.seq (.region 14 (oN f8 39) false) (.block 4 (.loop JF))) (.seq (.region 19 (oN f8 47) false) .ret)))))
def f8n:List (Nat×j2):=[(0,⟨[0,1,4],[]⟩),(1,Jz),(2,⟨[2,3,39],[]⟩),(3,⟨[39],[]⟩),(4,JA),(5,⟨[6,7,8,45,46,117],[]⟩),(6,JB),(7,JC),(8,⟨[2,3,5,6,7,112],[]⟩),(9,⟨[112],[]⟩),(10,GS),(11,⟨[118,119,130],[]⟩),(12,GT),(13,⟨[2,3,5,6,7,8,130],[]⟩),(14,⟨[5,44],[]⟩),(15,GU),(16,⟨[136,137,148],[]⟩),(17,GV),(18,⟨[2,3,9,148],[]⟩),(19,⟨[2,3,9,135],[]⟩)]
def IP:j2:=⟨[0,11,12],[]⟩
def IQ:j2:=⟨[11,13,14,15,16,17],[]⟩
def IR:j2:=⟨[18,19,20,21,22],[]⟩
def IU:j2:=⟨[5,6,23,24,25,26,27,28,29,30],[]⟩
def IV:j2:=⟨[3,33,34,35,36,37,38],[]⟩
def IW:j2:=⟨[0,7,8,39,40,41,42,43,44],[]⟩
def Bg:j2:=⟨[0,3,33,45,46],[]⟩
noncomputable def f3c:Code:=(.seq (.region 0 (oN f3 2) false) (.seq (.seq (.region 1 (oN f3 9) false) (.cond (.tmp 11) (.seq (.region 2 (oN f3 37) false) .ret) .skip)) (.seq (.region 3 (oN f3 11) false) (.seq (.region 4 (oN f3 23) false) (.seq (.seq (.region 5 (oN f3 79) false) (.cond (.tmp 31) (.seq (.region 6 (oN f3 303) false) .ret) .skip)) (.seq (.seq (.region 7 (oN f3 159) false) (.cond (.tmp 33) (.seq (.region 8 (oN f3 607) false) (.seq (.region 9 (oN f3 1375) false) (.cond (.tmp 45) (.seq (.region 10 (oN f3 4959) false) .ret) .skip))) .skip)) (.seq (.region 11 (oN f3 191) false) .ret)))))))
def f3n:List (Nat×j2):=[(0,⟨[2],[]⟩),(1,⟨[9,10],[]⟩),(2,IP),(3,IQ),(4,IR),(5,IU),(6,⟨[0,3,4,31],[]⟩),(7,⟨[4,31,32],[]⟩),(8,IV),(9,IW),(10,⟨[45],[]⟩),(11,Bg)]
def ANNS:List (Nat×uX):=[(3,⟨f3n,[],[]⟩),(5,⟨f5n,[],[]⟩),(6,⟨f6n,[],[]⟩),(7,⟨f7n,[],[]⟩),(8,⟨f8n,[],[]⟩),(9,⟨f9n,[],[]⟩),(11,⟨Al,[],[]⟩),(12,⟨HH,[],[]⟩),(13,⟨HI,[],[]⟩),(14,⟨II,[],[]⟩),(15,⟨yK,[],[]⟩),(17,⟨IJ,[],[]⟩),(18,⟨IK,[],[]⟩),(19,⟨HJ,[],[]⟩),(20,⟨HK,[],[]⟩),(25,⟨IL,[],[]⟩),(26,⟨yL,[],[]⟩),(27,⟨IM,[],[]⟩),(30,⟨IO,[],[]⟩),(31,⟨HL,[],[]⟩),(32,⟨HM,[],[]⟩),(33,⟨HN,[],[]⟩),(34,⟨CX,[],[]⟩),(35,⟨HO,[],[]⟩),(36,⟨HP,[],[]⟩),(41,⟨IX,[],[]⟩),(42,⟨HQ,[],[]⟩),(46,⟨IY,[],[]⟩),(47,⟨IZ,[],[]⟩),(48,⟨Ja,[],[]⟩),(49,⟨HR,[],[]⟩),(50,⟨Jb,[],[]⟩),(51,⟨HS,[],[]⟩),(56,⟨Jc,[],[]⟩),(57,⟨Jd,[],[]⟩),(58,⟨Je,[],[]⟩),(59,⟨HT,[],[]⟩),(60,⟨Ji,[],[]⟩),(61,⟨Jj,[],[]⟩),(62,⟨Jk,[],[]⟩),(63,⟨Jl,[],[]⟩),(71,⟨Jr,[],[]⟩),(72,⟨HU,[],[]⟩),(73,⟨Js,[],[]⟩),(74,⟨Jt,[],[]⟩),(75,⟨HV,[],[]⟩),(76,⟨Ju,[],[]⟩),(78,⟨HW,[],[]⟩),(79,⟨Jv,[],[]⟩),(83,⟨HX,[],[]⟩),(84,⟨HY,[],[]⟩),(85,⟨HZ,[],[]⟩),(102,⟨DE,[],[]⟩),(103,⟨DF,[],[]⟩)]
def b9:FuncId→uX:=fun f=>(i7 f ANNS).getD {}
def ext:yx:=fun f args=>bif Nat.beq f 64 then some (bt args) else bif Nat.beq f 21 then some (sD args) else bif Nat.beq f 23 then some (lW args) else bif Nat.beq f 22 then some (wq args) else bif Nat.beq f 24 then some (wo false args) else bif Nat.beq f 77 then some (lV args) else bif Nat.beq f 28 then some (sC args) else bif Nat.beq f 53 then some (cT args) else bif Nat.beq f 52 then some (sA 60 5 args) else bif Nat.beq f 54 then some (sx 60 5 args) else bif Nat.beq f 29 then some (sy 60 5 args) else none
noncomputable abbrev EV (k:Nat):P4:=evF prog b9 ext k
noncomputable abbrev RE (k:Nat) (a:j2) (o:Array Oper) (d:Bool) (s:St):Option St:=P6 prog (EV k) a o d s
abbrev I (n:Int):V:=.int .i64 n
abbrev i6 (l:List a6):V:=.sl 0 8 (List.map d7 l)
abbrev j4 (l:List b6):V:=.sl 0 3 (List.map d9 l)
abbrev i8 (l:List b4):V:=.sl 0 4 (List.map b8 l)
abbrev sI (l:List Int):V:=.sl 0 1 (List.map I l)
def pq:a8→V×List V:=fun r=>((j8 r),[])
abbrev l8:=List (Nat×V)
abbrev ab:=List (Nat×w9)
theorem Z {α:Sort _} {a:α}:a=a:=rfl
abbrev Cr (p0:a8):ab:=[(1,vS 4 (j8 p0))]
abbrev JV (p0:List Str) (p1:Str) (p2:Int) (p3:List a6) (p4:List b4):ab:=[(3,vS 1 (sS p0)),(68,⟨false,4,[(V.agg [(Sr p1),(I p2),(V.sl 3 8 (List.map a7 p3)),(V.sl 1 4 (List.map b8 p4))])]⟩)]
abbrev sqS3 (p0:List a6) (p1:List Str) (p2:Str) (p3:Int) (p4:List b4):ab:=[(0,⟨true,8,List.map a7 p0⟩),(3,vS 1 (sS p1)),(68,⟨false,4,[(V.agg [(Sr p2),(I p3),(aL 0 a7 p0),(V.sl 1 4 (List.map b8 p4))])]⟩)]
abbrev Iw (p0:List a6) (p1:Str) (p2:Int) (p3:List b4):ab:=[(0,⟨true,8,List.map a7 p0⟩),(94,⟨false,4,[(V.agg [(Sr p1),(I p2),(aL 0 a7 p0),(V.sl 1 4 (List.map b8 p3))])]⟩)]
abbrev sqS5 (p0:Str) (p1:Int) (p2:List a6) (p3:List b4):ab:=[(94,⟨false,4,[(V.agg [(Sr p0),(I p1),(V.sl 3 8 (List.map a7 p2)),(V.sl 1 4 (List.map b8 p3))])]⟩)]
abbrev sqS6 (p0:List Str) (p1:Str) (p2:Int) (p3:List a6) (p4:List b4):ab:=[(3,vS 1 (sS p0)),(76,⟨false,4,[(V.agg [(Sr p1),(I p2),(V.sl 3 8 (List.map a7 p3)),(V.sl 1 4 (List.map b8 p4))])]⟩)]
abbrev JY (p0:List a6) (p1:List Str) (p2:Str) (p3:Int) (p4:List b4):ab:=[(0,⟨true,8,List.map a7 p0⟩),(3,vS 1 (sS p1)),(76,⟨false,4,[(V.agg [(Sr p2),(I p3),(aL 0 a7 p0),(V.sl 1 4 (List.map b8 p4))])]⟩)]
abbrev sqS8 (p0:Str) (p1:Int) (p2:List a6) (p3:List b4):ab:=[(76,⟨false,4,[(V.agg [(Sr p0),(I p1),(V.sl 3 8 (List.map a7 p2)),(V.sl 1 4 (List.map b8 p3))])]⟩)]
abbrev sqS9 (p0:List a6) (p1:Str) (p2:Int) (p3:List b4):ab:=[(0,⟨true,8,List.map a7 p0⟩),(76,⟨false,4,[(V.agg [(Sr p1),(I p2),(aL 0 a7 p0),(V.sl 1 4 (List.map b8 p3))])]⟩)]
abbrev JT (p0:Str) (p1:Int) (p2:List a6) (p3:List b4):ab:=[(60,⟨false,4,[(V.agg [(Sr p0),(I p1),(V.sl 3 8 (List.map a7 p2)),(V.sl 1 4 (List.map b8 p3))])]⟩)]
abbrev Cs (p0:a8):ab:=[(1,vS 4 (j8 p0)),(4,⟨false,2,[(V.agg [V.tp 4 60,V.row 5 ([]:Str)])]⟩)]
abbrev Ct (p0:Str) (p1:Int) (p2:List a6) (p3:List b4):ab:=[(2,⟨false,4,[(V.agg [(Sr []),(I 0),(V.sl 2 8 (List.map d7 ([]:List a6))),(V.sl 2 4 (List.map b8 ([]:List b4)))])]⟩),(4,⟨false,4,[(V.agg [(Sr p0),(I p1),(V.sl 3 8 (List.map a7 p2)),(V.sl 1 4 (List.map b8 p3))])]⟩)]
abbrev rM (p0:a8):ab:=[(2,⟨false,4,[(j8 p0)]⟩)]
abbrev Cu:ab:=[(2,⟨false,4,[(V.agg [(Sr []),(I 0),(V.sl 2 8 (List.map d7 ([]:List a6))),(V.sl 2 4 (List.map b8 ([]:List b4)))])]⟩)]
abbrev Cv:ab:=[(2,⟨false,4,[(V.agg [(Sr []),(I 0),(V.sl 2 8 (List.map d7 ([]:List a6))),(V.sl 2 4 (List.map b8 ([]:List b4)))])]⟩),(4,⟨false,4,[(V.agg [(Sr []),(I 0),(V.sl 3 8 (List.map a7 ([]:List a6))),(V.sl 1 4 (List.map b8 ([]:List b4)))])]⟩)]
abbrev Hm (p0:List a6) (p1:Str) (p2:Int) (p3:List b4) (p4:Str) (p5:Int) (p6:Bool):ab:=[(0,⟨true,8,List.map a7 p0⟩),(2,⟨false,4,[(V.agg [(Sr []),(I 0),(V.sl 2 8 (List.map d7 ([]:List a6))),(V.sl 2 4 (List.map b8 ([]:List b4)))])]⟩),(4,⟨false,4,[(V.agg [(Sr p1),(I p2),(aL 0 a7 p0),(V.sl 1 4 (List.map b8 p3))])]⟩),(8,⟨false,8,[(V.agg [(Sr p4),(I p5),(I 0),(I 0),(V.sl 5 3 (List.map d9 ([]:List b6))),(I (-1)),(Bo false),(Bo p6)])]⟩)]
abbrev Cw (p0:List a6) (p1:Str) (p2:Int) (p3:List b4) (p4:b4):ab:=[(0,⟨true,8,List.map a7 p0⟩),(2,⟨false,4,[(V.agg [(Sr []),(I 0),(V.sl 2 8 (List.map d7 ([]:List a6))),(V.sl 2 4 (List.map b8 ([]:List b4)))])]⟩),(4,⟨false,4,[(V.agg [(Sr p1),(I p2),(aL 0 a7 p0),(V.sl 1 4 (List.map b8 p3))])]⟩),(12,vS 4 (b8 p4))]
abbrev JU (p0:List a6) (p1:Str) (p2:Int) (p3:List b4) (p4:Str) (p5:Bool):ab:=[(0,⟨true,8,List.map a7 p0⟩),(2,⟨false,4,[(V.agg [(Sr []),(I 0),(V.sl 2 8 (List.map d7 ([]:List a6))),(V.sl 2 4 (List.map b8 ([]:List b4)))])]⟩),(4,⟨false,4,[(V.agg [(Sr p1),(I p2),(aL 0 a7 p0),(V.sl 1 4 (List.map b8 p3))])]⟩),(8,⟨false,8,[(V.agg [(Sr p4),(I (-1)),(I 0),(I 0),(V.sl 5 3 (List.map d9 ([]:List b6))),(I (-1)),(Bo false),(Bo p5)])]⟩)]
abbrev Cx (p0:Str) (p1:Int) (p2:List a6) (p3:List b4) (p4:Str) (p5:Int) (p6:Bool):ab:=[(2,⟨false,4,[(V.agg [(Sr []),(I 0),(V.sl 2 8 (List.map d7 ([]:List a6))),(V.sl 2 4 (List.map b8 ([]:List b4)))])]⟩),(4,⟨false,4,[(V.agg [(Sr p0),(I p1),(V.sl 3 8 (List.map a7 p2)),(V.sl 1 4 (List.map b8 p3))])]⟩),(8,⟨false,8,[(V.agg [(Sr p4),(I p5),(I 0),(I 0),(V.sl 5 3 (List.map d9 ([]:List b6))),(I (-1)),(Bo false),(Bo p6)])]⟩)]
abbrev Hn (p0:Str) (p1:Int) (p2:List a6) (p3:List b4) (p4:Str) (p5:Int) (p6:Int) (p7:Int) (p8:Bool):ab:=[(2,⟨false,4,[(V.agg [(Sr []),(I 0),(V.sl 2 8 (List.map d7 ([]:List a6))),(V.sl 2 4 (List.map b8 ([]:List b4)))])]⟩),(4,⟨false,4,[(V.agg [(Sr p0),(I p1),(V.sl 3 8 (List.map a7 p2)),(V.sl 1 4 (List.map b8 p3))])]⟩),(8,⟨false,8,[(V.agg [(Sr p4),(I p5),(I p6),(I p7),(V.sl 5 3 (List.map d9 ([]:List b6))),(I (-1)),(Bo false),(Bo p8)])]⟩)]
abbrev JW (p0:List a6) (p1:Str) (p2:Int) (p3:List b4):ab:=[(0,⟨true,8,List.map a7 p0⟩),(2,⟨false,4,[(V.agg [(Sr []),(I 0),(V.sl 2 8 (List.map d7 ([]:List a6))),(V.sl 2 4 (List.map b8 ([]:List b4)))])]⟩),(4,⟨false,4,[(V.agg [(Sr p1),(I p2),(aL 0 a7 p0),(V.sl 1 4 (List.map b8 p3))])]⟩)]
abbrev Ho (p0:Str) (p1:Int) (p2:List a6) (p3:List b4) (p4:a6):ab:=[(2,⟨false,4,[(V.agg [(Sr []),(I 0),(V.sl 2 8 (List.map d7 ([]:List a6))),(V.sl 2 4 (List.map b8 ([]:List b4)))])]⟩),(4,⟨false,4,[(V.agg [(Sr p0),(I p1),(V.sl 3 8 (List.map a7 p2)),(V.sl 1 4 (List.map b8 p3))])]⟩),(10,⟨false,8,[(d7 p4)]⟩)]
abbrev Hp (p0:Str) (p1:Int) (p2:List a6) (p3:List b4) (p4:b4):ab:=[(2,⟨false,4,[(V.agg [(Sr []),(I 0),(V.sl 2 8 (List.map d7 ([]:List a6))),(V.sl 2 4 (List.map b8 ([]:List b4)))])]⟩),(4,⟨false,4,[(V.agg [(Sr p0),(I p1),(V.sl 3 8 (List.map a7 p2)),(V.sl 1 4 (List.map b8 p3))])]⟩),(12,vS 4 (b8 p4))]
abbrev Hq (p0:a6) (p1:b6):ab:=[(1,vS 8 (d7 p0)),(4,vS 3 (d9 p1))]
abbrev Hr (p0:a8) (p1:a6):ab:=[(1,vS 4 (j8 p0)),(4,vS 8 (d7 p1))]
abbrev Cy (p0:a8) (p1:b4):ab:=[(1,vS 4 (j8 p0)),(7,vS 4 (b8 p1))]
abbrev uG (p0:a8) (p1:a6):ab:=[(1,vS 4 (j8 p0)),(6,vS 8 (d7 p1))]
abbrev rN (p0:a8) (p1:a6) (p2:b6):ab:=[(1,vS 4 (j8 p0)),(6,vS 8 (d7 p1)),(10,vS 3 (d9 p2))]
abbrev JX (p0:a8):ab:=[(2,⟨false,4,[(V.agg [(Sr []),(I 0),(V.sl 2 8 (List.map d7 ([]:List a6))),(V.sl 2 4 (List.map b8 ([]:List b4)))])]⟩),(4,vS 4 (j8 p0))]
abbrev Hs (p0:a8) (p1:a8) (p2:a6) (p3:a6):ab:=[(2,vS 4 (j8 p0)),(3,vS 4 (j8 p1)),(6,vS 8 (d7 p2)),(7,vS 8 (d7 p3))]
abbrev Cz (p0:a8) (p1:a8):ab:=[(2,vS 4 (j8 p0)),(3,vS 4 (j8 p1))]
abbrev H4 (p0:List Str) (p1:Int) (r:l8):l8:=(2,(Pt 2)) :: (4,(Pt 4)) :: (5,(sS p0)) :: (6,(I p1)) :: r
abbrev X1 (p0:Str) (p1:Int) (r:l8):l8:=(1,(Pt 1)) :: (4,(Sr p0)) :: (5,(I p1)) :: (6,(Pt 6)) :: r
abbrev lp (p0:Int) (p1:Str) (p2:Bool) (p3:Int) (r:l8):l8:=(1,(Pt 1)) :: (6,(I p0)) :: (7,(Pt 7)) :: (162,(Pt 7)) :: (163,(Sr p1)) :: (164,(Bo p2)) :: (165,(Bo false)) :: (166,(Bo false)) :: (167,(V.ptr 7 0 1)) :: (168,(I p3)) :: (169,(Bo false)) :: (170,(Bo false)) :: (171,(Bo false)) :: (172,(V.ptr 7 0 1)) :: (173,(I p3)) :: (174,(V.ptr 1 0 2)) :: r
abbrev aP (r:l8):l8:=(1,(Pt 1)) :: (4,(Pt 4)) :: r
abbrev ji (p0:Str) (p1:Int) (p2:Str) (p3:Str) (p4:Str) (r:l8):l8:=(1,(Pt 1)) :: (4,(Sr p0)) :: (12,(I p1)) :: (13,(Pt 13)) :: (14,(Sr ([45]:Str))) :: (124,(Bo false)) :: (128,(Sr p0)) :: (129,(Pt 13)) :: (130,(Sr p2)) :: (131,(Sr p3)) :: (132,(Sr p4)) :: (133,(V.ptr 1 0 2)) :: r
abbrev lq (p0:Str) (p1:Int) (p2:Str) (p3:Str) (p4:Str) (p5:Str) (p6:Str) (p7:Int) (r:l8):l8:=(1,(Pt 1)) :: (4,(Sr p0)) :: (5,(I p1)) :: (6,(Pt 6)) :: (7,(Sr ([45]:Str))) :: (8,(Sr ([70]:Str))) :: (50,(Bo false)) :: (51,(Sr p0)) :: (52,(Pt 6)) :: (53,(Sr p2)) :: (54,(Sr p3)) :: (55,(Sr p4)) :: (56,(Sr ([45]:Str))) :: (57,(Sr p5)) :: (58,(Sr p6)) :: (59,(V.ptr 6 0 2)) :: (60,(I p7)) :: r
abbrev ls (p0:Str) (p1:Int) (p2:Str) (p3:Str) (p4:Str) (p5:Str) (p6:Str) (p7:Int) (r:l8):l8:=(1,(Pt 1)) :: (4,(Sr p0)) :: (5,(I p1)) :: (6,(Pt 6)) :: (7,(Sr ([45]:Str))) :: (8,(Sr ([76]:Str))) :: (51,(Sr p0)) :: (52,(Pt 6)) :: (53,(Sr p2)) :: (54,(Sr p3)) :: (55,(Sr p4)) :: (56,(Sr ([45]:Str))) :: (57,(Sr p5)) :: (58,(Sr p6)) :: (59,(V.ptr 6 0 2)) :: (60,(I p7)) :: r
abbrev pW (p0:Str) (p1:Str) (p2:Int) (p3:Int) (p4:Int) (p5:Int) (p6:Int) (p7:Int) (p8:Str) (r:l8):l8:=(0,(Sr p0)) :: (3,(Sr p1)) :: (4,(I p2)) :: (8,(Bo true)) :: (11,(Sr p1)) :: (12,(Sr p0)) :: (13,(I p2)) :: (14,(V.int .u8 p3)) :: (15,(V.int .u8 p4)) :: (16,(Sr p0)) :: (17,(I p2)) :: (18,(V.int .u8 p5)) :: (19,(V.int .u8 p6)) :: (20,(V.int .u8 p7)) :: (21,(Sr p8)) :: (22,(Sr p0)) :: (23,(I p2)) :: r
abbrev lv (p0:Str) (p1:Int) (p2:Str) (p3:Str) (p4:Str) (p5:Str) (p6:Str) (p7:Str) (p8:Int) (r:l8):l8:=(1,(Pt 1)) :: (4,(Sr p0)) :: (5,(I p1)) :: (6,(Pt 6)) :: (7,(Sr p2)) :: (8,(Sr ([70]:Str))) :: (50,(Bo false)) :: (51,(Sr p0)) :: (52,(Pt 6)) :: (53,(Sr p3)) :: (54,(Sr p4)) :: (55,(Sr p5)) :: (56,(Sr p2)) :: (57,(Sr p6)) :: (58,(Sr p7)) :: (59,(V.ptr 6 0 2)) :: (60,(I p8)) :: r
abbrev jk (p0:Str) (p1:Int) (p2:Str) (p3:Str) (p4:Str) (p5:Str) (r:l8):l8:=(1,(Pt 1)) :: (4,(Sr p0)) :: (12,(I p1)) :: (13,(Pt 13)) :: (14,(Sr p2)) :: (128,(Sr p0)) :: (129,(Pt 13)) :: (130,(Sr p3)) :: (131,(Sr p4)) :: (132,(Sr p5)) :: (133,(V.ptr 1 0 2)) :: r
abbrev lw (p0:Str) (p1:Int) (p2:Str) (p3:Str) (p4:Str) (p5:Str) (p6:Str) (p7:Str) (p8:Int) (r:l8):l8:=(1,(Pt 1)) :: (4,(Sr p0)) :: (5,(I p1)) :: (6,(Pt 6)) :: (7,(Sr p2)) :: (8,(Sr ([76]:Str))) :: (51,(Sr p0)) :: (52,(Pt 6)) :: (53,(Sr p3)) :: (54,(Sr p4)) :: (55,(Sr p5)) :: (56,(Sr p2)) :: (57,(Sr p6)) :: (58,(Sr p7)) :: (59,(V.ptr 6 0 2)) :: (60,(I p8)) :: r
abbrev lx (p0:Str) (p1:Int) (p2:Int) (p3:Str) (p4:Str) (p5:Str) (p6:Int) (r:l8):l8:=(1,(Pt 1)) :: (4,(Sr p0)) :: (5,(I p1)) :: (6,(Pt 6)) :: (9,(I p2)) :: (10,(Pt 10)) :: (11,(Sr ([77]:Str))) :: (90,(Bo false)) :: (91,(Sr p0)) :: (92,(Pt 10)) :: (93,(Sr p3)) :: (94,(Sr p4)) :: (95,(Sr p5)) :: (96,(V.ptr 10 0 1)) :: (97,(I p6)) :: r
abbrev ly (p0:Str) (p1:Int) (p2:Int) (p3:Str) (p4:Str) (p5:Str) (p6:Int) (r:l8):l8:=(1,(Pt 1)) :: (4,(Sr p0)) :: (5,(I p1)) :: (6,(Pt 6)) :: (9,(I p2)) :: (10,(Pt 10)) :: (11,(Sr ([45]:Str))) :: (88,(Bo false)) :: (91,(Sr p0)) :: (92,(Pt 10)) :: (93,(Sr p3)) :: (94,(Sr p4)) :: (95,(Sr p5)) :: (96,(V.ptr 10 0 1)) :: (97,(I p6)) :: r
abbrev lz (p0:Str) (p1:Int) (p2:Int) (p3:Str) (p4:Str) (p5:Str) (p6:Int) (r:l8):l8:=(1,(Pt 1)) :: (4,(Sr p0)) :: (5,(I p1)) :: (6,(Pt 6)) :: (9,(I p2)) :: (10,(Pt 10)) :: (11,(Sr ([85]:Str))) :: (91,(Sr p0)) :: (92,(Pt 10)) :: (93,(Sr p3)) :: (94,(Sr p4)) :: (95,(Sr p5)) :: (96,(V.ptr 10 0 1)) :: (97,(I p6)) :: r
abbrev dR (p0:Str) (r:l8):l8:=(0,(Sr p0)) :: (2,(Pt 2)) :: (4,(Pt 4)) :: r
abbrev aQ (r:l8):l8:=(1,(Pt 1)) :: (4,(Pt 4)) :: (6,(Pt 6)) :: r
abbrev gg (p0:Int) (p1:Int) (p2:Bool) (r:l8):l8:=(0,(Pt 68)) :: (3,(Pt 3)) :: (5,(I p0)) :: (6,(I p1)) :: (7,(Bo p2)) :: r
abbrev Q7 (p0:List Str) (p1:Int) (p2:List Str) (r:l8):l8:=(2,(Pt 2)) :: (4,(Pt 4)) :: (5,(sS p0)) :: (6,(I p1)) :: (7,(sS p2)) :: r
abbrev gj (p0:Int) (p1:Int) (r:l8):l8:=(0,(Pt 76)) :: (3,(Pt 3)) :: (5,(I p0)) :: (6,(I p1)) :: r
abbrev aR (r:l8):l8:=(2,(Pt 2)) :: (3,(Pt 3)) :: r
abbrev S4 (p0:List Str) (r:l8):l8:=(0,(Pt 94)) :: (1,(sS p0)) :: r
abbrev bR (p0:Int) (r:l8):l8:=(1,(Pt 1)) :: (3,(I p0)) :: (4,(Pt 4)) :: r
abbrev jl (p0:Str) (p1:List Int) (p2:Int) (r:l8):l8:=(0,(Sr p0)) :: (4,(V.sl 1 1 (List.map (V.int .u8) p1))) :: (5,(I p2)) :: r
abbrev cm (p0:Str) (r:l8):l8:=(1,(Pt 1)) :: (4,(Sr p0)) :: r
abbrev eP (p0:Int) (r:l8):l8:=(1,(Pt 1)) :: (6,(I p0)) :: (7,(Pt 7)) :: r
abbrev Q8 (p0:List Str) (p1:Int) (p2:List Str) (r:l8):l8:=(2,(Pt 2)) :: (4,(Pt 4)) :: (5,(sS p0)) :: (6,(I p1)) :: (7,(sS p2)) :: (12,(Pt 12)) :: r
abbrev ik (p0:Int) (r:l8):l8:=(2,(Pt 2)) :: (3,(Pt 3)) :: (5,(I p0)) :: (6,(Pt 6)) :: (7,(Pt 7)) :: r
abbrev uH (p0:Str) (p1:Str) (p2:Int) (r:l8):l8:=(0,(Sr p0)) :: (3,(Sr p1)) :: (4,(I p2)) :: (8,(Bo true)) :: (11,(Sr p1)) :: (12,(Sr p0)) :: (13,(I p2)) :: r
abbrev pX (p0:Str) (p1:Int) (p2:List Str) (r:l8):l8:=(0,(Sr p0)) :: (1,(V.int .u8 p1)) :: (5,(V.sl 1 1 (List.map V.str p2))) :: r
abbrev yj (p0:Str) (p1:Int) (p2:Str) (r:l8):l8:=(1,(Pt 1)) :: (4,(Sr p0)) :: (5,(I p1)) :: (6,(Pt 6)) :: (7,(Sr ([45]:Str))) :: (8,(Sr ([70]:Str))) :: (50,(Bo false)) :: (51,(Sr p0)) :: (52,(Pt 6)) :: (53,(Sr p2)) :: r
abbrev dS (r:l8):l8:=(1,(Pt 1)) :: (4,(Pt 4)) :: (13,(Pt 13)) :: r
abbrev du (p0:Int) (r:l8):l8:=(1,(I p0)) :: (2,(Pt 2)) :: r
abbrev jm (p0:Str) (p1:List Str) (p2:Int) (p3:Int) (r:l8):l8:=(0,(Sr p0)) :: (2,(Pt 2)) :: (4,(Pt 4)) :: (12,(sS p1)) :: (13,(I p2)) :: (14,(I p3)) :: r
abbrev am (r:l8):l8:=(2,(Bo false)) :: r
abbrev im (r:l8):l8:=(1,(Pt 1)) :: (4,(Pt 4)) :: (6,(Pt 6)) :: (7,(Sr ([45]:Str))) :: r
abbrev Ht (p0:Int) (p1:Bool) (r:l8):l8:=(28,(I p0)) :: (29,(Bo p1)) :: (30,(Bo p1)) :: (31,(Bo p1)) :: r
abbrev yk (p0:List Str) (p1:Int) (p2:List Str) (p3:Int) (p4:List a6) (p5:Int) (r:l8):l8:=(2,(Pt 2)) :: (4,(Pt 4)) :: (5,(sS p0)) :: (6,(I p1)) :: (7,(sS p2)) :: (12,(Pt 12)) :: (14,(I p3)) :: (241,(Bo true)) :: (244,(V.ptr 4 0 2)) :: (245,(aL 0 a7 p4)) :: (246,(V.ptr 12 0 1)) :: (247,(I p5)) :: r
abbrev jo (r:l8):l8:=(0,(Pt 76)) :: (3,(Pt 3)) :: r
abbrev uI (p0:Str) (r:l8):l8:=(1,(Pt 1)) :: (17,(Bo false)) :: (18,(Pt 1)) :: (19,(Sr p0)) :: r
abbrev gm (p0:Str) (p1:Int) (p2:Int) (r:l8):l8:=(1,(Pt 1)) :: (4,(Sr p0)) :: (5,(I p1)) :: (6,(Pt 6)) :: (9,(I p2)) :: (10,(Pt 10)) :: r
abbrev yl (p0:Str) (p1:Int) (p2:Str) (r:l8):l8:=(1,(Pt 1)) :: (4,(Sr p0)) :: (5,(I p1)) :: (6,(Pt 6)) :: (7,(Sr ([45]:Str))) :: (8,(Sr ([76]:Str))) :: (51,(Sr p0)) :: (52,(Pt 6)) :: (53,(Sr p2)) :: r
abbrev uJ (r:l8):l8:=(1,(Pt 1)) :: (82,(Bo false)) :: (83,(V.ptr 1 0 4)) :: r
abbrev ym (p0:Str) (p1:Int) (p2:Str) (p3:Str) (r:l8):l8:=(1,(Pt 1)) :: (4,(Sr p0)) :: (5,(I p1)) :: (6,(Pt 6)) :: (7,(Sr p2)) :: (8,(Sr ([70]:Str))) :: (50,(Bo false)) :: (51,(Sr p0)) :: (52,(Pt 6)) :: (53,(Sr p3)) :: r
abbrev dT (p0:List Str) (p1:Int) (p2:List Str) (p3:Int) (r:l8):l8:=(2,(Pt 2)) :: (4,(Pt 4)) :: (5,(sS p0)) :: (6,(I p1)) :: (7,(sS p2)) :: (8,(Pt 8)) :: (9,(I p3)) :: r
abbrev dv (r:l8):l8:=(1,(Pt 1)) :: (4,(Pt 4)) :: (6,(Pt 6)) :: (10,(Pt 10)) :: r
abbrev lA (p0:List Str) (r:l8):l8:=(1,(Pr (sS p0))) :: (2,(Pt 2)) :: r
abbrev dw (r:l8):l8:=(4,(Bo false)) :: r
abbrev ip (p0:Int) (r:l8):l8:=(1,(Pt 1)) :: (3,(I p0)) :: r
abbrev Hu (p0:List Str) (p1:List a6) (r:l8):l8:=(0,(Pt 94)) :: (1,(sS p0)) :: (14,(Bo false)) :: (15,(Pt 94)) :: (16,(Pt 94)) :: (17,(V.ptr 94 0 2)) :: (18,(aL 0 a7 p1)) :: (19,(Pt 94)) :: (20,(Pt 94)) :: (21,(V.ptr 94 0 2)) :: (22,(aL 0 a7 p1)) :: r
abbrev uK (p0:Int) (p1:Int) (p2:List Str) (p3:Str) (r:l8):l8:=(0,(Pt 76)) :: (3,(Pt 3)) :: (5,(I p0)) :: (6,(I p1)) :: (36,(Bo false)) :: (37,(sS p2)) :: (38,(Pr (Sr p3))) :: (39,(Sr p3)) :: r
abbrev nn (p0:Str) (p1:Int) (r:l8):l8:=(1,(Pt 1)) :: (4,(Sr p0)) :: (12,(I p1)) :: (13,(Pt 13)) :: r
abbrev pY (p0:Int) (p1:Int) (r:l8):l8:=(1,(I p0)) :: (2,(I p1)) :: (3,(Pt 3)) :: r
abbrev yn (p0:Str) (p1:Int) (p2:Str) (p3:Str) (r:l8):l8:=(1,(Pt 1)) :: (4,(Sr p0)) :: (5,(I p1)) :: (6,(Pt 6)) :: (7,(Sr p2)) :: (8,(Sr ([76]:Str))) :: (51,(Sr p0)) :: (52,(Pt 6)) :: (53,(Sr p3)) :: r
abbrev pZ (r:l8):l8:=(2,(Pt 2)) :: (3,(I 3)) :: r
abbrev rO (p0:List Str) (p1:Int) (r:l8):l8:=(2,(Pt 2)) :: (4,(Pt 4)) :: (5,(sS p0)) :: (6,(I p1)) :: (10,(Pt 10)) :: (186,(V.ptr 4 0 2)) :: r
abbrev CA (p0:Int) (p1:Int) (p2:Bool) (r:l8):l8:=(0,(Pt 68)) :: (3,(Pt 3)) :: (5,(I p0)) :: (6,(I p1)) :: (7,(Bo p2)) :: (8,(I (-1))) :: (23,(Bo false)) :: (35,(Pt 68)) :: (36,(Pt 68)) :: (37,(Pt 68)) :: (38,(V.ptr 68 0 2)) :: r
abbrev Hv (p0:List a6) (r:l8):l8:=(186,(V.ptr 4 0 2)) :: (187,(aL 0 a7 p0)) :: (188,(V.ptr 4 0 2)) :: (189,(aL 0 a7 p0)) :: r
abbrev uL (p0:Str) (p1:Int) (p2:Str) (p3:List Str) (p4:Int) (p5:Int) (r:l8):l8:=(0,(Sr p0)) :: (2,(Pt 2)) :: (4,(Pt 4)) :: (5,(I p1)) :: (6,(Sr p2)) :: (12,(sS p3)) :: (13,(I p4)) :: (14,(I p5)) :: r
abbrev uM (p0:Str) (r:l8):l8:=(1,(Pt 1)) :: (4,(Pt 4)) :: (6,(Pt 6)) :: (7,(Sr p0)) :: (8,(Sr ([70]:Str))) :: r
abbrev uN (p0:Str) (r:l8):l8:=(1,(Pt 1)) :: (4,(Pt 4)) :: (6,(Pt 6)) :: (7,(Sr p0)) :: (8,(Sr ([76]:Str))) :: r
abbrev yo (r:l8):l8:=(1,(Pt 1)) :: (4,(Pt 4)) :: (13,(Pt 13)) :: (14,(Sr ([45]:Str))) :: (16,(Pt 16)) :: r
abbrev uO (r:l8):l8:=(0,(Pt 68)) :: (3,(Pt 3)) :: r
abbrev X0 (t:l8):St:=⟨t,[],47⟩
abbrev I0 (t:l8):St:=⟨t,[],19⟩
abbrev pV (t:l8):St:=⟨t,[],9⟩
abbrev nk (t:l8):St:=⟨t,[],52⟩
abbrev yi (t:l8):St:=⟨t,[],70⟩
abbrev uF (t:l8):St:=⟨t,[],82⟩
abbrev ig (t:l8):St:=⟨t,[],73⟩
abbrev pR (t:l8):St:=⟨t,[],13⟩
abbrev Z9 (t:l8):St:=⟨t,[],35⟩
abbrev eg (t:l8):St:=⟨t,[],26⟩
abbrev fJ (p0:List Str) (p1:Str) (p2:Int) (p3:List a6) (p4:List b4) (t:l8):St:=⟨t,JV p0 p1 p2 p3 p4,68⟩
abbrev pS (p0:List a6) (p1:List Str) (p2:Str) (p3:Int) (p4:List b4) (t:l8):St:=⟨t,sqS3 p0 p1 p2 p3 p4,68⟩
abbrev X5 (p0:List a6) (p1:Str) (p2:Int) (p3:List b4) (t:l8):St:=⟨t,Iw p0 p1 p2 p3,94⟩
abbrev mE (p0:Str) (p1:Int) (p2:List a6) (p3:List b4) (t:l8):St:=⟨t,sqS5 p0 p1 p2 p3,94⟩
abbrev tr (p0:List Str) (p1:Str) (p2:Int) (p3:List a6) (p4:List b4) (t:l8):St:=⟨t,sqS6 p0 p1 p2 p3 p4,76⟩
abbrev aN (p0:List a6) (p1:List Str) (p2:Str) (p3:Int) (p4:List b4) (t:l8):St:=⟨t,JY p0 p1 p2 p3 p4,76⟩
abbrev jV (p0:Str) (p1:Int) (p2:List a6) (p3:List b4) (t:l8):St:=⟨t,sqS8 p0 p1 p2 p3,76⟩
abbrev mF (p0:List a6) (p1:Str) (p2:Int) (p3:List b4) (t:l8):St:=⟨t,sqS9 p0 p1 p2 p3,76⟩
abbrev mG (p0:Str) (p1:Int) (p2:List a6) (p3:List b4) (t:l8):St:=⟨t,JT p0 p1 p2 p3,60⟩
abbrev X6 (p0:Str) (p1:Int) (p2:List a6) (p3:List b4) (t:l8):St:=⟨t,Ct p0 p1 p2 p3,67⟩
abbrev jW (p0:a8) (t:l8):St:=⟨t,rM p0,67⟩
abbrev eh (t:l8):St:=⟨t,[],34⟩
abbrev fK (t:l8):St:=⟨t,[],39⟩
abbrev mH (t:l8):St:=⟨t,[],41⟩
abbrev mI (t:l8):St:=⟨t,[],24⟩
abbrev ei (t:l8):St:=⟨t,[],43⟩
abbrev jX (p0:List a6) (p1:Str) (p2:Int) (p3:List b4) (p4:Str) (p5:Int) (p6:Bool) (t:l8):St:=⟨t,Hm p0 p1 p2 p3 p4 p5 p6,284⟩
abbrev P2 (p0:List a6) (p1:Str) (p2:Int) (p3:List b4) (p4:b4) (t:l8):St:=⟨t,Cw p0 p1 p2 p3 p4,284⟩
abbrev T3 (p0:Str) (p1:Int) (p2:List a6) (p3:List b4) (t:l8):St:=⟨t,Ct p0 p1 p2 p3,284⟩
abbrev tt (p0:List a6) (p1:Str) (p2:Int) (p3:List b4) (p4:Str) (p5:Bool) (t:l8):St:=⟨t,JU p0 p1 p2 p3 p4 p5,284⟩
abbrev pT (p0:List a6) (p1:Str) (p2:Int) (p3:List b4) (t:l8):St:=⟨t,JW p0 p1 p2 p3,284⟩
abbrev mJ (p0:a6) (p1:b6) (t:l8):St:=⟨t,Hq p0 p1,112⟩
abbrev tu (t:l8):St:=⟨t,[],112⟩
abbrev jY (p0:a8) (p1:a6) (t:l8):St:=⟨t,Hr p0 p1,232⟩
abbrev ij (t:l8):St:=⟨t,[],232⟩
abbrev aO (p0:a8) (t:l8):St:=⟨t,Cr p0,232⟩
abbrev jZ (p0:a8) (p1:b4) (t:l8):St:=⟨t,Cy p0 p1,232⟩
abbrev T4 (p0:a8) (p1:a6) (t:l8):St:=⟨t,uG p0 p1,161⟩
abbrev V2 (p0:a8) (t:l8):St:=⟨t,Cr p0,161⟩
abbrev tv (p0:a8) (t:l8):St:=⟨t,JX p0,28⟩
abbrev ka (p0:a8) (p1:a8) (p2:a6) (p3:a6) (t:l8):St:=⟨t,Hs p0 p1 p2 p3,149⟩
abbrev pU (t:l8):St:=⟨t,[],149⟩
abbrev ch (p0:a8) (p1:a8) (t:l8):St:=⟨t,Cz p0 p1,149⟩
abbrev sqW (n:Int):Int:=Go.IntKind.wrap .i64 n
abbrev sqU (n:Int):V:=V.int .u8 n
abbrev sqB (n:Int):Int:=Go.IntKind.wrap .u8 n
theorem jd (k:Nat) :EV k 18 []=(Z5 k).map pq:=by
 cases k with
 | zero=>rfl
 | succ k=>
  unfold Z5
  refine et (l9 (c:=f18c) (N:=11) (regs:=IK) Z func18 Z (by decide) Z Z Z) $ kr ⟨[(0,(Pt 0))],[(0,⟨false,4,[(V.agg [(Sr []),(I 0),(V.sl 2 8 (List.map d7 ([]:List a6))),(V.sl 2 4 (List.map b8 ([]:List b4)))])]⟩)],11⟩ rfl $ kr ⟨[(0,(Pt 0))],[(0,⟨false,4,[(j8 ({ fName:=([83,72,79,80]:Str),fKind:=4,fTypes:=([({ fName:=([67,85,83,84]:Str),fParent:=(-1),fMin:=4,fSize:=10,fFields:=([({ fName:=([67,85,83,84,78,79]:Str),fAt:=0,fBytes:=4 }:b6)]:List b6),fKey:=0,fUnique:=true,fLast:=false }:a6),({ fName:=([79,82,68,69,82]:Str),fParent:=0,fMin:=4,fSize:=12,fFields:=([({ fName:=([79,82,68,78,79]:Str),fAt:=0,fBytes:=4 }:b6)]:List b6),fKey:=0,fUnique:=false,fLast:=false }:a6),({ fName:=([73,84,69,77]:Str),fParent:=1,fMin:=1,fSize:=8,fFields:=([]:List b6),fKey:=(-1),fUnique:=false,fLast:=true }:a6),({ fName:=([80,72,79,78,69]:Str),fParent:=0,fMin:=1,fSize:=8,fFields:=([]:List b6),fKey:=(-1),fUnique:=false,fLast:=false }:a6)]:List a6),fIndexes:=([]:List b4) }:a8))]⟩)],11⟩ rfl $ et l7 ?_
  rfl
def cN:Bool→V×List V:=fun r=>((Bo r),[])
theorem lQ (k:Nat) (a0:Str)  (K0:Int→Option Bool) (Kst:X×St→Option (V×List V)) (hK0:∀ (y0:Int),Kst (X.exit 0,(X0 [(0,(Sr a0)),(6,(I (a0.length:Int))),(7,(I y0)),(8,(Bo false))]))=(K0 y0).map cN) (hret:∀ s,Kst (X.ret,s)=P5 prog 47 [(Sr a0)] [] [.tmp 2] (X.ret,s)):
  ∀ (m:Nat) (x7:Int),(L6 (C5 prog (EV k) HH k DQ) m (X0 [(0,(Sr a0)),(6,(I (a0.length:Int))),(7,(I x7))])).bind Kst=(I2 a0 K0 m x7).map cN:=by
 intro m
 induction m with
 | zero=>intros; rfl
 | succ m ih=>
  intro x7
  unfold I2
  refine et A6 $ kra [(8,(Bo (decide (x7 < (a0.length:Int)))))] Z $ kc Z Z (fun hc=>?_) fun hc=>?_
  ·rw [hc]
   refine et l6 $ et (l5 Z) $ kr (X0 [(0,(Sr a0)),(3,(I x7)),(6,(I (a0.length:Int))),(7,(I x7))]) Z $ kg DN Z (fun (o0:Bool)=>(X0 [(0,(Sr a0)),(3,(I x7)),(4,(Bo o0)),(6,(I (a0.length:Int))),(7,(I x7))])) ?_ fun o0=>?_
   ·refine rd 2 [(10,(Sr a0)),(11,(I x7))] Z Z $ rp Z (F0 Z Z Z underlying9) fun v8=>bd 5 [(12,(sqU v8)),(13,(Bo (decide (v8 ≥ 65)))),(14,(Bo (decide (v8 ≥ 65))))] Z Z $ w8 (fun hc=>?_) fun hc=>?_
    ·rw [hc]
     exact rd 7 [(15,(Sr a0)),(16,(I x7))] Z Z $ rp Z (F0 Z Z Z underlying9) fun v9=>b7 Z
    ·rw [hc]
     exact d8 Z
   refine kg DO Z (fun (o1:Bool)=>(X0 [(0,(Sr a0)),(6,(I (a0.length:Int))),(7,(I x7)),(37,(Bo o1))])) ?_ fun o1=>?_
   ·refine rd 3 [(20,(Bo o0)),(21,(Bo (!o0))),(22,(Bo (!o0)))] Z Z $ w8 (fun hc=>?_) fun hc=>?_
    ·rw [hc]
     refine rd 6 [(23,(I x7)),(24,(Bo (x7 == 0))),(25,(Bo (x7 == 0)))] Z Z $ w8 (fun hc=>?_) fun hc=>?_
     ·rw [hc]
      exact d8 Z
     ·rw [hc]
      refine rd 8 [(26,(Sr a0)),(27,(I x7))] Z Z $ rp Z (F0 Z Z Z underlying9) fun v0=>bd 12 [(28,(sqU v0)),(29,(Bo (decide (v0 < 48)))),(30,(Bo (decide (v0 < 48)))),(31,(Bo (decide (v0 < 48))))] Z Z $ w8 (fun hc=>?_) fun hc=>?_
      ·rw [hc]
       exact d8 Z
      ·rw [hc]
       exact rd 14 [(32,(Sr a0)),(33,(I x7))] Z Z $ rp Z (F0 Z Z Z underlying9) fun v1=>b7 Z
    ·rw [hc]
     exact d8 Z
   refine kcl Z Z (fun hc=>?_) fun hc=>?_
   ·rw [hc]
    refine kr (X0 (am [])) Z $ et l7 $ et u6 $ et A0 $ et (hret _) ?_
    rfl
   ·rw [hc]
    exact et w6 $ et j5 $ kl (X0 [(0,(Sr a0)),(6,(I (a0.length:Int))),(7,(I (sqW (x7+1))))]) Z $ et j6 $ ih (sqW (x7+1))
  ·rw [hc]
   exact et C1 $ et s5 $ hK0 x7
theorem br (k:Nat) (a0:Str):EV k 12 [(Sr a0)]=(Q9 k a0).map cN:=by
 cases k with
 | zero=>rfl
 | succ k=>
  unfold Q9
  refine et (l9 (c:=f12c) (N:=47) (regs:=HH) Z func12 Z (by decide) Z Z Z) $ kra [] Z $ et d4 $ kra [(6,(I (a0.length:Int))),(7,(I 0))] Z $ et (l5 Z) $ et B0 ?_
  refine lQ k a0 _ _ ?h_dbd_IsName_L1_0 ?hr_dbd_IsName_L1 k 0
  ·intro y0
   refine et r9 $ kg DP Z (fun (o0:Bool)=>(X0 [(2,(Bo o0))])) ?_ fun o0=>?_
   ·refine rd 4 [(39,(Sr a0)),(40,(I (a0.length:Int))),(41,(Bo (decide ((a0.length:Int) ≥ 1)))),(42,(Bo (decide ((a0.length:Int) ≥ 1))))] Z Z $ w8 (fun hc=>?_) fun hc=>?_
    ·rw [hc]
     exact d8 Z
    ·rw [hc]
     exact d8 Z
   refine et l7 ?_
   rfl
  ·intro s; exact rfl
def M4:Int→V×List V:=fun r=>((I r),[])
theorem cg (k:Nat) (a0:(List b6)) (a1:Nat→b6→Option Bool) (a1_fid:Go.FuncId) (a1_c0:V) (a1_hok:∀ j x0,EV j a1_fid [(d9 x0),V.pro a1_c0]=(a1 j x0).map fun b=>((Bo b),[])) (K0:Int→Option Int) (Kst:X×St→Option (V×List V)) (hK0:∀ (y0:Int),Kst (X.exit 0,(I0 [(0,(j4 a0)),(1,(V.fn a1_fid [] [V.pro a1_c0])),(7,(I (a0.length:Int))),(8,(I y0)),(9,(Bo false))]))=(K0 y0).map M4) (hret:∀ s,Kst (X.ret,s)=P5 prog 19 [(j4 a0),(V.fn a1_fid [] [V.pro a1_c0])] [] [.tmp 4] (X.ret,s)):
  ∀ (m:Nat) (x4:Int),(L6 (C5 prog (EV k) HV k Gy) m (I0 [(0,(j4 a0)),(1,(V.fn a1_fid [] [V.pro a1_c0])),(7,(I (a0.length:Int))),(8,(I x4))])).bind Kst=(E5 k a0 a1 K0 m x4).map M4:=by
 intro m
 induction m with
 | zero=>intros; rfl
 | succ m ih=>
  intro x4
  unfold E5
  refine et A6 $ kra [(9,(Bo (decide (x4 < (a0.length:Int)))))] Z $ kc Z Z (fun hc=>?_) fun hc=>?_
  ·rw [hc]
   refine et l6 $ et (l5 Z) $ kr (I0 [(0,(j4 a0)),(1,(V.fn a1_fid [] [V.pro a1_c0])),(5,(I x4)),(7,(I (a0.length:Int))),(8,(I x4))]) Z $ kga Gx Z (fun (o7:Bool)=>[(16,(Bo o7))]) (rd 3 [(11,(V.fn a1_fid [] [V.pro a1_c0])),(12,(j4 a0)),(13,(I x4))] Z Z $ rp Z (j7 (e:=d9) Z Z Z underlying50 Z (by decide)) fun v5=>bd 5 [(14,(Pr (d9 v5))),(15,(d9 v5))] Z Z $ rs Z (j9 Z Z Z Z Z (a1_hok k v5) (.inl Z)) fun v6=>b7 Z) fun o7=>kcl Z Z (fun hc=>?_) fun hc=>?_
   ·rw [hc]
    refine kr (I0 [(4,(I x4))]) Z $ et l7 $ et u6 $ et A0 $ et (hret _) ?_
    rfl
   ·rw [hc]
    exact et w6 $ et j5 $ kl (I0 [(0,(j4 a0)),(1,(V.fn a1_fid [] [V.pro a1_c0])),(7,(I (a0.length:Int))),(8,(I (sqW (x4+1))))]) Z $ et j6 $ ih (sqW (x4+1))
  ·rw [hc]
   exact et C1 $ et s5 $ hK0 x4
theorem W9 (k:Nat) (a0:(List b6)) (a1:Nat→b6→Option Bool) (a1_fid:Go.FuncId) (a1_c0:V) (a1_hok:∀ j x0,EV j a1_fid [(d9 x0),V.pro a1_c0]=(a1 j x0).map fun b=>((Bo b),[])):EV k 75 [(j4 a0),(V.fn a1_fid [] [V.pro a1_c0])]=(E4 k a0 a1).map M4:=by
 cases k with
 | zero=>rfl
 | succ k=>
  unfold E4
  refine et (l9 (c:=f75c) (N:=19) (regs:=HV) Z func75 Z (by decide) Z Z Z) $ kra [] Z $ et d4 $ krp Gw Z (I0 [(0,(j4 a0)),(1,(V.fn a1_fid [] [V.pro a1_c0])),(7,(I (a0.length:Int))),(8,(I 0))]) ?_ ?_
  ·exact rd 1 [(6,(j4 a0))] Z Z $ rl Z (A8 (e:=d9) Z Z Z Z Z Z underlying50) $ b7 Z
  refine et (l5 Z) $ et B0 ?_
  refine cg k a0 a1 a1_fid a1_c0 a1_hok _ _ ?h_slices_IndexFunc_Field_L1_0 ?hr_slices_IndexFunc_Field_L1 k 0
  ·intro y8
   refine et r9 $ kr (I0 [(4,(I (-1)))]) Z $ et l7 ?_
   rfl
  ·intro s; exact rfl
def bO:Bool→V×List V:=fun r=>((Bo r),[])
theorem ce (k:Nat) (a0:(List b6)) (a1:Nat→b6→Option Bool) (a1_fid:Go.FuncId) (a1_c0:V) (a1_hok:∀ j x0,EV j a1_fid [(d9 x0),V.pro a1_c0]=(a1 j x0).map fun b=>((Bo b),[])):EV k 102 [(j4 a0),(V.fn a1_fid [] [V.pro a1_c0])]=(C4 k a0 a1).map bO:=by
 cases k with
 | zero=>rfl
 | succ k=>
  unfold C4
  refine et (l9 (c:=IG) (N:=9) (regs:=DE) Z func102 Z (by decide) Z Z Z) $ kra [] Z $ kg Ae Z (fun (o2:Bool)=>(pV [(4,(Bo o2))])) (rd 2 [(5,(j4 a0)),(6,(V.fn a1_fid [] [V.pro a1_c0]))] Z Z $ rp Z (j9 Z Z Z Z Z (W9 k a0 a1 a1_fid a1_c0 a1_hok) (.inl Z)) fun v1=>b7 Z) fun o2=>et l7 ?_
  rfl
def iH:Bool→V×List V:=fun r=>((Bo r),[])
theorem ju (k:Nat) (a0:b6) (a1:b6):EV k 103 [(d9 a0),(Pr (d9 a1))]=(R8 k a0 a1).map iH:=by
 cases k with
 | zero=>rfl
 | succ k=>
  unfold R8
  refine et (l9 (c:=IH) (N:=9) (regs:=DF) Z func103 Z (by decide) Z Z Z) $ kr ⟨[(1,(Pr (d9 a1))),(2,(Pt 2))],[(2,vS 3 (d9 a0))],9⟩ rfl $ kr (pV [(3,(Bo (a0.fName == a1.fName)))]) Z $ et l7 ?_
  rfl
def az:Bool→V×List V:=fun r=>((Bo r),[])
theorem iI (k:Nat) (a0:(List b6)) (a1:Int)  (K0:Int→Option Bool) (Kst:X×St→Option (V×List V)) (hK0:∀ (y0:Int),Kst (X.exit 0,(nk [(0,(j4 a0)),(1,(I a1)),(7,(j4 a0)),(8,(I (a0.length:Int))),(9,(I y0)),(10,(Bo false))]))=(K0 y0).map az) (hret:∀ s,Kst (X.ret,s)=P5 prog 52 [(j4 a0),(I a1)] [] [.tmp 4] (X.ret,s)):
  ∀ (m:Nat) (x8:Int),(L6 (C5 prog (EV k) HX k GL) m (nk [(0,(j4 a0)),(1,(I a1)),(7,(j4 a0)),(8,(I (a0.length:Int))),(9,(I x8))])).bind Kst=(H5 k a0 a1 K0 m x8).map az:=by
 intro m
 induction m with
 | zero=>intros; rfl
 | succ m ih=>
  intro x8
  unfold H5
  refine et A6 $ kra [(10,(Bo (decide (x8 < (a0.length:Int)))))] Z $ kc Z Z (fun hc=>?_) fun hc=>?_
  ·rw [hc]
   refine et l6 $ et (l5 Z) $ kg GH Z (fun (o0:Int×b6)=>⟨[(0,(j4 a0)),(1,(I a1)),(5,(I o0.1)),(6,(Pt 6)),(7,(j4 a0)),(8,(I (a0.length:Int))),(9,(I x8))],[(6,vS 3 (d9 o0.2))],52⟩) (rd 1 [(11,(I x8))] Z Z $ rp Z (j7 (e:=d9) Z Z Z underlying50 Z (by decide)) fun v9=>b7 Z) fun o0=>et d4 $ kga GI Z (fun (o1:Bool)=>[(42,(Bo o1))]) ?_ fun o1=>?_
   ·refine rd 2 [(14,(Pt 6)),(15,(Sr o0.2.fName))] Z Z $ rp Z (j9 Z Z Z Z Z (br k o0.2.fName) (.inl Z)) fun v0=>bd 5 [(16,(Bo v0)),(17,(Bo (!v0))),(18,(Bo (!v0)))] Z Z $ w8 (fun hc=>?_) fun hc=>?_
    ·rw [hc]
     exact d8 Z
    ·rw [hc]
     refine rd 10 [(19,(V.ptr 6 0 1)),(20,(I o0.2.fAt)),(21,(Bo (decide (o0.2.fAt < 0)))),(22,(Bo (decide (o0.2.fAt < 0)))),(23,(Bo (decide (o0.2.fAt < 0))))] Z Z $ w8 (fun hc=>?_) fun hc=>?_
     ·rw [hc]
      exact d8 Z
     ·rw [hc]
      refine rd 16 [(24,(V.ptr 6 0 1)),(25,(I o0.2.fAt)),(26,(I a1)),(27,(Bo (decide (o0.2.fAt ≥ a1)))),(28,(Bo (decide (o0.2.fAt ≥ a1)))),(29,(Bo (decide (o0.2.fAt ≥ a1))))] Z Z $ w8 (fun hc=>?_) fun hc=>?_
      ·rw [hc]
       exact d8 Z
      ·rw [hc]
       refine rd 21 [(30,(V.ptr 6 0 2)),(31,(I o0.2.fBytes)),(32,(Bo (decide (o0.2.fBytes < 1)))),(33,(Bo (decide (o0.2.fBytes < 1)))),(34,(Bo (decide (o0.2.fBytes < 1))))] Z Z $ w8 (fun hc=>?_) fun hc=>?_
       ·rw [hc]
        exact d8 Z
       ·rw [hc]
        exact d8 Z
   refine kc Z Z (fun hc=>?_) fun hc=>?_
   ·rw [hc]
    refine et d4 $ kr (nk (dw [])) Z $ et I4 $ et u6 $ et A0 $ et (hret _) ?_
    rfl
   ·rw [hc]
    refine et l6 $ kg GJ Z (fun (o2:Bool)=>(nk [(0,(j4 a0)),(1,(I a1)),(7,(j4 a0)),(8,(I (a0.length:Int))),(9,(I x8)),(47,(Bo o2))])) (rd 2 [(43,(j4 a0)),(44,(I o0.1))] Z Z $ rp Z (sZ (e:=d9) Z Z Z Z Z Z underlying50 Z (by decide)) fun v1=>bd 4 [(45,(j4 v1)),(46,(V.fn 103 [] [(Pt 6)]))] Z Z $ rs Z (j9 Z Z Z Z Z (ce k v1 (fun j x0=>(R8 j x0 o0.2)) 103 (d9 o0.2) (fun j x0=>(ju j x0 o0.2))) (.inr (fun _=>rfl))) fun v2=>b7 Z) fun o2=>kcl Z Z (fun hc=>?_) fun hc=>?_
    ·rw [hc]
     refine kr (nk (dw [])) Z $ et l7 $ et u6 $ et A0 $ et (hret _) ?_
     rfl
    ·rw [hc]
     exact et w6 $ et j5 $ kl (nk [(0,(j4 a0)),(1,(I a1)),(7,(j4 a0)),(8,(I (a0.length:Int))),(9,(I (sqW (x8+1))))]) Z $ et j6 $ ih (sqW (x8+1))
  ·rw [hc]
   exact et C1 $ et s5 $ hK0 x8
theorem lR (k:Nat) (a0:(List b6)) (a1:Int):EV k 83 [(j4 a0),(I a1)]=(Y0 k a0 a1).map az:=by
 cases k with
 | zero=>rfl
 | succ k=>
  unfold Y0
  refine et (l9 (c:=f83c) (N:=52) (regs:=HX) Z func83 Z (by decide) Z Z Z) $ kra [] Z $ et d4 $ krp GG Z (nk [(0,(j4 a0)),(1,(I a1)),(7,(j4 a0)),(8,(I (a0.length:Int))),(9,(I 0))]) ?_ ?_
  ·exact rd 1 [(7,(j4 a0))] Z Z $ rl Z (A8 (e:=d9) Z Z Z Z Z Z underlying50) $ b7 Z
  refine et (l5 Z) $ et B0 ?_
  refine iI k a0 a1 _ _ ?h_dbd_areFields_L1_0 ?hr_dbd_areFields_L1 k 0
  ·intro y0
   refine et r9 $ krp GK Z (nk [(4,(Bo (decide ((a0.length:Int)≤5))))]) ?_ ?_
   ·exact rd 1 [(49,(j4 a0))] Z Z $ rl Z (A8 (e:=d9) Z Z Z Z Z Z underlying50) $ b7 Z
   refine et l7 ?_
   rfl
  ·intro s; exact rfl
def oK:Bool→V×List V:=fun r=>((Bo r),[])
theorem qm (k:Nat) (a0:a6):EV k 56 [(d7 a0)]=(cQ k a0).map oK:=by
 cases k with
 | zero=>rfl
 | succ k=>
  unfold cQ
  refine et (l9 (c:=f56c) (N:=70) (regs:=Jc) Z func56 Z (by decide) Z Z Z) $ kr ⟨[(1,(Pt 1))],[(1,vS 8 (d7 a0))],70⟩ rfl $ et (l5 Z) $ kga Ga Z (fun (o3:Bool)=>[(3,(Bo o3))]) ?_ fun o3=>?_
  ·refine rd 2 [(4,(Pt 1)),(5,(Sr a0.fName))] Z Z $ rp Z (j9 Z Z Z Z Z (br k a0.fName) (.inl Z)) fun v1=>bd 5 [(6,(Bo v1)),(7,(Bo (!v1))),(8,(Bo (!v1)))] Z Z $ w8 (fun hc=>?_) fun hc=>?_
   ·rw [hc]
    exact d8 Z
   ·rw [hc]
    refine rd 10 [(9,(V.ptr 1 0 2)),(10,(I a0.fMin)),(11,(Bo (decide (a0.fMin < 1)))),(12,(Bo (decide (a0.fMin < 1)))),(13,(Bo (decide (a0.fMin < 1))))] Z Z $ w8 (fun hc=>?_) fun hc=>?_
    ·rw [hc]
     exact d8 Z
    ·rw [hc]
     refine rd 17 [(14,(V.ptr 1 0 2)),(15,(I a0.fMin)),(16,(V.ptr 1 0 3)),(17,(I a0.fSize)),(18,(Bo (decide (a0.fMin > a0.fSize)))),(19,(Bo (decide (a0.fMin > a0.fSize)))),(20,(Bo (decide (a0.fMin > a0.fSize))))] Z Z $ w8 (fun hc=>?_) fun hc=>?_
     ·rw [hc]
      exact d8 Z
     ·rw [hc]
      refine rd 22 [(21,(V.ptr 1 0 3)),(22,(I a0.fSize)),(23,(Bo (decide (a0.fSize > 40)))),(24,(Bo (decide (a0.fSize > 40)))),(25,(Bo (decide (a0.fSize > 40))))] Z Z $ w8 (fun hc=>?_) fun hc=>?_
      ·rw [hc]
       exact d8 Z
      ·rw [hc]
       exact rd 26 [(26,(V.ptr 1 0 4)),(27,(j4 a0.fFields)),(28,(V.ptr 1 0 3)),(29,(I a0.fSize))] Z Z $ rp Z (j9 Z Z Z Z Z (lR k a0.fFields a0.fSize) (.inl Z)) fun v2=>b7 Z
  refine kcl Z Z (fun hc=>?_) fun hc=>?_
  ·rw [hc]
   refine kr (yi (am [])) Z $ et l7 $ et u6 ?_
   rfl
  ·rw [hc]
   refine kr ⟨[(1,(Pt 1)),(33,(Bo (a0.fKey == (-1))))],[(1,vS 8 (d7 a0))],70⟩ rfl $ kcl Z Z (fun hc=>?_) fun hc=>?_
   ·rw [hc]
    refine kr (yi [(2,(Bo (!a0.fUnique)))]) Z $ et l7 $ et u6 ?_
    rfl
   ·rw [hc]
    refine kg Gb Z (fun (o4:Bool)=>⟨[(1,(Pt 1)),(40,(Bo o4))],[(1,vS 8 (d7 a0))],70⟩) ?_ fun o4=>?_
    ·refine rd 4 [(41,(V.ptr 1 0 5)),(42,(I a0.fKey)),(43,(Bo (decide (a0.fKey < 0)))),(44,(Bo (decide (a0.fKey < 0))))] Z Z $ w8 (fun hc=>?_) fun hc=>?_
     ·rw [hc]
      exact d8 Z
     ·rw [hc]
      exact rd 8 [(45,(V.ptr 1 0 5)),(46,(I a0.fKey)),(47,(V.ptr 1 0 4)),(48,(j4 a0.fFields))] Z Z $ rl Z (A8 (e:=d9) Z Z Z Z Z Z underlying50) $ b7 Z
    refine kcl Z Z (fun hc=>?_) fun hc=>?_
    ·rw [hc]
     refine kr (yi (am [])) Z $ et l7 $ et u6 ?_
     rfl
    ·rw [hc]
     refine et w6 $ et j5 $ kd Gc Z (fun (o7:Bool)=>(yi [(2,(Bo o7))])) (et (k0 (p:=19) (dk:=true) (t:=[(1,(Pt 1)),(40,(Bo false))]) (σ:=[(1,vS 8 (d7 a0))]) (n:=70) Z (by decide) (by decide) Z) $ et (m8 (m:=4) (j:=4) (t':=[(1,(Pt 1)),(40,(Bo false)),(52,(V.ptr 1 0 4)),(53,(j4 a0.fFields)),(54,(V.ptr 1 0 5)),(55,(I a0.fKey))]) Z Z Z) $ et (b5 (x:=(idx a0.fFields a0.fKey)) (w:=fun v5=>(Pr (d9 v5))) Z Z Z Z Z (j7 (e:=d9) Z Z Z underlying50 Z (by decide))) $ j3 fun v5=>et (c8 (m:=6) (j:=11) (t':=[(1,(Pt 1)),(40,(Bo false)),(52,(V.ptr 1 0 4)),(53,(j4 a0.fFields)),(54,(V.ptr 1 0 5)),(55,(I a0.fKey)),(56,(Pr (d9 v5))),(57,(Pr (I v5.fAt))),(58,(I v5.fAt)),(59,(V.ptr 1 0 4)),(60,(j4 a0.fFields)),(61,(V.ptr 1 0 5)),(62,(I a0.fKey))]) Z Z Z) $ et (b5 (x:=(idx a0.fFields a0.fKey)) (w:=fun v6=>(Pr (d9 v6))) Z Z Z Z Z (j7 (e:=d9) Z Z Z underlying50 Z (by decide))) $ j3 fun v6=>u0 Z) fun o7=>et l7 ?_
     rfl
def M8:Int→V×List V:=fun r=>((I r),[])
theorem cy (k:Nat) (a0:(List a6)) (a1:Nat→a6→Option Bool) (a1_fid:Go.FuncId) (a1_c0:V) (a1_hok:∀ j x0,EV j a1_fid [(d7 x0),V.pro a1_c0]=(a1 j x0).map fun b=>((Bo b),[])) (K0:Int→Option Int) (Kst:X×St→Option (V×List V)) (hK0:∀ (y0:Int),Kst (X.exit 0,(I0 [(0,(i6 a0)),(1,(V.fn a1_fid [] [V.pro a1_c0])),(7,(I (a0.length:Int))),(8,(I y0)),(9,(Bo false))]))=(K0 y0).map M8) (hret:∀ s,Kst (X.ret,s)=P5 prog 19 [(i6 a0),(V.fn a1_fid [] [V.pro a1_c0])] [] [.tmp 4] (X.ret,s)):
  ∀ (m:Nat) (x4:Int),(L6 (C5 prog (EV k) HU k Gt) m (I0 [(0,(i6 a0)),(1,(V.fn a1_fid [] [V.pro a1_c0])),(7,(I (a0.length:Int))),(8,(I x4))])).bind Kst=(F2 k a0 a1 K0 m x4).map M8:=by
 intro m
 induction m with
 | zero=>intros; rfl
 | succ m ih=>
  intro x4
  unfold F2
  refine et A6 $ kra [(9,(Bo (decide (x4 < (a0.length:Int)))))] Z $ kc Z Z (fun hc=>?_) fun hc=>?_
  ·rw [hc]
   refine et l6 $ et (l5 Z) $ kr (I0 [(0,(i6 a0)),(1,(V.fn a1_fid [] [V.pro a1_c0])),(5,(I x4)),(7,(I (a0.length:Int))),(8,(I x4))]) Z $ kga Gs Z (fun (o7:Bool)=>[(16,(Bo o7))]) (rd 3 [(11,(V.fn a1_fid [] [V.pro a1_c0])),(12,(i6 a0)),(13,(I x4))] Z Z $ rp Z (j7 (e:=d7) Z Z Z underlying23 Z (by decide)) fun v5=>bd 5 [(14,(Pr (d7 v5))),(15,(d7 v5))] Z Z $ rs Z (j9 Z Z Z Z Z (a1_hok k v5) (.inl Z)) fun v6=>b7 Z) fun o7=>kcl Z Z (fun hc=>?_) fun hc=>?_
   ·rw [hc]
    refine kr (I0 [(4,(I x4))]) Z $ et l7 $ et u6 $ et A0 $ et (hret _) ?_
    rfl
   ·rw [hc]
    exact et w6 $ et j5 $ kl (I0 [(0,(i6 a0)),(1,(V.fn a1_fid [] [V.pro a1_c0])),(7,(I (a0.length:Int))),(8,(I (sqW (x4+1))))]) Z $ et j6 $ ih (sqW (x4+1))
  ·rw [hc]
   exact et C1 $ et s5 $ hK0 x4
theorem P0 (k:Nat) (a0:(List a6)) (a1:Nat→a6→Option Bool) (a1_fid:Go.FuncId) (a1_c0:V) (a1_hok:∀ j x0,EV j a1_fid [(d7 x0),V.pro a1_c0]=(a1 j x0).map fun b=>((Bo b),[])):EV k 72 [(i6 a0),(V.fn a1_fid [] [V.pro a1_c0])]=(B6 k a0 a1).map M8:=by
 cases k with
 | zero=>rfl
 | succ k=>
  unfold B6
  refine et (l9 (c:=f72c) (N:=19) (regs:=HU) Z func72 Z (by decide) Z Z Z) $ kra [] Z $ et d4 $ krp Gr Z (I0 [(0,(i6 a0)),(1,(V.fn a1_fid [] [V.pro a1_c0])),(7,(I (a0.length:Int))),(8,(I 0))]) ?_ ?_
  ·exact rd 1 [(6,(i6 a0))] Z Z $ rl Z (A8 (e:=d7) Z Z Z Z Z Z underlying23) $ b7 Z
  refine et (l5 Z) $ et B0 ?_
  refine cy k a0 a1 a1_fid a1_c0 a1_hok _ _ ?h_slices_IndexFunc_Type_L1_0 ?hr_slices_IndexFunc_Type_L1 k 0
  ·intro y8
   refine et r9 $ kr (I0 [(4,(I (-1)))]) Z $ et l7 ?_
   rfl
  ·intro s; exact rfl
def cf:Bool→V×List V:=fun r=>((Bo r),[])
theorem cw (k:Nat) (a0:(List a6)) (a1:Nat→a6→Option Bool) (a1_fid:Go.FuncId) (a1_c0:V) (a1_hok:∀ j x0,EV j a1_fid [(d7 x0),V.pro a1_c0]=(a1 j x0).map fun b=>((Bo b),[])):EV k 57 [(i6 a0),(V.fn a1_fid [] [V.pro a1_c0])]=(D0 k a0 a1).map cf:=by
 cases k with
 | zero=>rfl
 | succ k=>
  unfold D0
  refine et (l9 (c:=f57c) (N:=9) (regs:=Jd) Z func57 Z (by decide) Z Z Z) $ kra [] Z $ kg Gd Z (fun (o2:Bool)=>(pV [(4,(Bo o2))])) (rd 2 [(5,(i6 a0)),(6,(V.fn a1_fid [] [V.pro a1_c0]))] Z Z $ rp Z (j9 Z Z Z Z Z (P0 k a0 a1 a1_fid a1_c0 a1_hok) (.inl Z)) fun v1=>b7 Z) fun o2=>et l7 ?_
  rfl
def jw:Bool→V×List V:=fun r=>((Bo r),[])
theorem kB (k:Nat) (a0:a6) (a1:a6):EV k 58 [(d7 a0),(Pr (d7 a1))]=(U1 k a0 a1).map jw:=by
 cases k with
 | zero=>rfl
 | succ k=>
  unfold U1
  refine et (l9 (c:=f58c) (N:=9) (regs:=Je) Z func58 Z (by decide) Z Z Z) $ kr ⟨[(1,(Pr (d7 a1))),(2,(Pt 2))],[(2,vS 8 (d7 a0))],9⟩ rfl $ kr (pV [(3,(Bo (a0.fName == a1.fName)))]) Z $ et l7 ?_
  rfl
def V1:Int→V×List V:=fun r=>((I r),[])
theorem fH (k:Nat) (a0:(List Int)) (a1:Int)  (K0:Int→Option Int) (Kst:X×St→Option (V×List V)) (hK0:∀ (y0:Int),Kst (X.exit 0,(I0 [(0,(sI a0)),(1,(I a1)),(7,(I (a0.length:Int))),(8,(I y0)),(9,(Bo false))]))=(K0 y0).map V1) (hret:∀ s,Kst (X.ret,s)=P5 prog 19 [(sI a0),(I a1)] [] [.tmp 4] (X.ret,s)):
  ∀ (m:Nat) (x3:Int),(L6 (C5 prog (EV k) HT k Gg) m (I0 [(0,(sI a0)),(1,(I a1)),(7,(I (a0.length:Int))),(8,(I x3))])).bind Kst=(J5 a0 a1 K0 m x3).map V1:=by
 intro m
 induction m with
 | zero=>intros; rfl
 | succ m ih=>
  intro x3
  unfold J5
  refine et A6 $ kra [(9,(Bo (decide (x3 < (a0.length:Int)))))] Z $ kc Z Z (fun hc=>?_) fun hc=>?_
  ·rw [hc]
   refine et l6 $ et (l5 Z) $ kr (I0 [(0,(sI a0)),(1,(I a1)),(5,(I x3)),(7,(I (a0.length:Int))),(8,(I x3))]) Z $ kga Gf Z (fun (o5:Bool)=>[(16,(Bo o5))]) (rd 3 [(11,(I a1)),(12,(sI a0)),(13,(I x3))] Z Z $ rp Z (j7 (e:=I) Z Z Z underlying36 Z (by decide)) fun v4=>b7 Z) fun o5=>kcl Z Z (fun hc=>?_) fun hc=>?_
   ·rw [hc]
    refine kr (I0 [(4,(I x3))]) Z $ et l7 $ et u6 $ et A0 $ et (hret _) ?_
    rfl
   ·rw [hc]
    exact et w6 $ et j5 $ kl (I0 [(0,(sI a0)),(1,(I a1)),(7,(I (a0.length:Int))),(8,(I (sqW (x3+1))))]) Z $ et j6 $ ih (sqW (x3+1))
  ·rw [hc]
   exact et C1 $ et s5 $ hK0 x3
theorem iV (k:Nat) (a0:(List Int)) (a1:Int):EV k 59 [(sI a0),(I a1)]=(W6 k a0 a1).map V1:=by
 cases k with
 | zero=>rfl
 | succ k=>
  unfold W6
  refine et (l9 (c:=f59c) (N:=19) (regs:=HT) Z func59 Z (by decide) Z Z Z) $ kra [] Z $ et d4 $ krp Ge Z (I0 [(0,(sI a0)),(1,(I a1)),(7,(I (a0.length:Int))),(8,(I 0))]) ?_ ?_
  ·exact rd 1 [(6,(sI a0))] Z Z $ rl Z (A8 (e:=I) Z Z Z Z Z Z underlying36) $ b7 Z
  refine et (l5 Z) $ et B0 ?_
  refine fH k a0 a1 _ _ ?h_slices_Index_int_L1_0 ?hr_slices_Index_int_L1 k 0
  ·intro y6
   refine et r9 $ kr (I0 [(4,(I (-1)))]) Z $ et l7 ?_
   rfl
  ·intro s; exact rfl
def bc:Bool→V×List V:=fun r=>((Bo r),[])
theorem jx (k:Nat) (a0:(List a6))  (K0:Int→(List Int)→Option Bool) (Kst:X×St→Option (V×List V)) (hK0:∀ (y0:Int) (y1:(List Int)),Kst (X.exit 0,⟨[(0,(i6 a0)),(3,(aL 3 I y1)),(15,(i6 a0)),(16,(I (a0.length:Int))),(17,(I y0)),(18,(Bo false))],[(3,⟨true,1,List.map I y1⟩)],82⟩)=(K0 y0 y1).map bc) (hret:∀ s,Kst (X.ret,s)=P5 prog 82 [(i6 a0)] [] [.tmp 2] (X.ret,s)):
  ∀ (m:Nat) (x1:Int) (x2:(List Int)),(L6 (C5 prog (EV k) HM k EX) m ⟨[(0,(i6 a0)),(3,(aL 3 I x2)),(15,(i6 a0)),(16,(I (a0.length:Int))),(17,(I x1))],[(3,⟨true,1,List.map I x2⟩)],82⟩).bind Kst=(J1 k a0 K0 m x1 x2).map bc:=by
 intro m
 induction m with
 | zero=>intros; rfl
 | succ m ih=>
  intro x1 x2
  unfold J1
  refine et A6 $ kra [(18,(Bo (decide (x1 < (a0.length:Int)))))] Z $ kc Z Z (fun hc=>?_) fun hc=>?_
  ·rw [hc]
   refine et l6 $ et (l5 Z) $ kg ET Z (fun (o0:Int×a6)=>⟨[(0,(i6 a0)),(3,(aL 3 I x2)),(4,(I o0.1)),(5,(Pt 5)),(15,(i6 a0)),(16,(I (a0.length:Int))),(17,(I x1))],[(3,⟨true,1,List.map I x2⟩),(5,vS 8 (d7 o0.2))],82⟩) (rd 1 [(19,(I x1))] Z Z $ rp Z (j7 (e:=d7) Z Z Z underlying23 Z (by decide)) fun v0=>b7 Z) fun o0=>et d4 $ kga EU Z (fun (o1:Bool)=>[(31,(Bo o1))]) ?_ fun o1=>?_
   ·refine rd 1 [(22,(d7 o0.2))] Z Z $ rp Z (j9 Z Z Z Z Z (qm k o0.2) (.inl Z)) fun v1=>bd 4 [(23,(Bo v1)),(24,(Bo (!v1))),(25,(Bo (!v1)))] Z Z $ w8 (fun hc=>?_) fun hc=>?_
    ·rw [hc]
     exact d8 Z
    ·rw [hc]
     exact rd 6 [(26,(i6 a0)),(27,(I o0.1))] Z Z $ rp Z (sZ (e:=d7) Z Z Z Z Z Z underlying23 Z (by decide)) fun v2=>bd 8 [(28,(i6 v2)),(29,(V.fn 58 [] [(Pt 5)]))] Z Z $ rs Z (j9 Z Z Z Z Z (cw k v2 (fun j x0=>(U1 j x0 o0.2)) 58 (d7 o0.2) (fun j x0=>(kB j x0 o0.2))) (.inr (fun _=>rfl))) fun v3=>b7 Z
   refine kc Z Z (fun hc=>?_) fun hc=>?_
   ·rw [hc]
    refine et d4 $ kr (uF (am [])) Z $ et I4 $ et u6 $ et A0 $ et (hret _) ?_
    rfl
   ·rw [hc]
    refine et l6 $ kg EW Z (fun (o2:Int)=>⟨[(0,(i6 a0)),(3,(aL 3 I x2)),(4,(I o0.1)),(5,(Pt 5)),(6,(I o2)),(15,(i6 a0)),(16,(I (a0.length:Int))),(17,(I x1))],[(3,⟨true,1,List.map I x2⟩),(5,vS 8 (d7 o0.2))],82⟩) (rd 3 [(32,(aL 3 I x2)),(33,(V.ptr 5 0 1)),(34,(I o0.2.fParent))] Z Z $ rs Z (j9 Z Z Z Z (qH (JP (e:=I) Z) (by intro s i q h; cases h) (qH Z (by intro s i q h; cases h) Z)) (iV k x2 o0.2.fParent) (.inr (fun _=>rfl))) fun v4=>b7 Z) fun o2=>et d4 $ kg AZ Z (fun (o3:Bool)=>⟨[(0,(i6 a0)),(3,(aL 3 I x2)),(4,(I o0.1)),(6,(I o2)),(15,(i6 a0)),(16,(I (a0.length:Int))),(17,(I x1)),(70,(Bo o3))],[(3,⟨true,1,List.map I x2⟩)],82⟩) ?_ fun o3=>?_
    ·refine rd 3 [(36,(I o0.1)),(37,(Bo (o0.1 == 0))),(38,(Bo (o0.1 == 0)))] Z Z $ w8 (fun hc=>?_) fun hc=>?_
     ·rw [hc]
      refine rd 7 [(39,(V.ptr 5 0 1)),(40,(I o0.2.fParent)),(41,(Bo (o0.2.fParent != (-1)))),(42,(Bo (o0.2.fParent != (-1))))] Z Z $ w8 (fun hc=>?_) fun hc=>?_
      ·rw [hc]
       exact d8 Z
      ·rw [hc]
       refine rd 12 [(43,(V.ptr 5 0 5)),(44,(I o0.2.fKey)),(45,(Bo (decide (o0.2.fKey < 0)))),(46,(Bo (decide (o0.2.fKey < 0)))),(47,(Bo (decide (o0.2.fKey < 0))))] Z Z $ w8 (fun hc=>?_) fun hc=>?_
       ·rw [hc]
        exact d8 Z
       ·rw [hc]
        refine rd 17 [(48,(V.ptr 5 0 6)),(49,(Bo o0.2.fUnique)),(50,(Bo (!o0.2.fUnique))),(51,(Bo (!o0.2.fUnique))),(52,(Bo (!o0.2.fUnique)))] Z Z $ w8 (fun hc=>?_) fun hc=>?_
        ·rw [hc]
         exact d8 Z
        ·rw [hc]
         refine rd 21 [(53,(V.ptr 5 0 4)),(54,(j4 o0.2.fFields)),(55,(V.ptr 5 0 5)),(56,(I o0.2.fKey))] Z Z $ rp Z (j7 (e:=d9) Z Z Z underlying50 Z (by decide)) fun v5=>bd 28 [(57,(Pr (d9 v5))),(58,(Pr (I v5.fBytes))),(59,(I v5.fBytes)),(60,(Bo (decide (v5.fBytes > 24)))),(61,(Bo (decide (v5.fBytes > 24)))),(62,(Bo (decide (v5.fBytes > 24)))),(63,(Bo (decide (v5.fBytes > 24))))] Z Z $ w8 (fun hc=>?_) fun hc=>?_
         ·rw [hc]
          exact d8 Z
         ·rw [hc]
          refine rd 31 [(64,(I o0.1)),(65,(Bo (decide (o0.1 > 0)))),(66,(Bo (decide (o0.1 > 0))))] Z Z $ w8 (fun hc=>?_) fun hc=>?_
          ·rw [hc]
           exact d8 Z
          ·rw [hc]
           exact d8 Z
     ·rw [hc]
      refine rd 31 [(39,(V.tup [])),(40,(V.tup [])),(41,(V.tup [])),(42,(V.tup [])),(43,(V.tup [])),(44,(V.tup [])),(45,(V.tup [])),(46,(V.tup [])),(47,(V.tup [])),(48,(V.tup [])),(49,(V.tup [])),(50,(V.tup [])),(51,(V.tup [])),(52,(V.tup [])),(53,(V.tup [])),(54,(V.tup [])),(55,(V.tup [])),(56,(V.tup [])),(57,(V.tup [])),(58,(V.tup [])),(59,(V.tup [])),(60,(V.tup [])),(61,(V.tup [])),(62,(Bo false)),(63,(Bo false)),(64,(I o0.1)),(65,(Bo (decide (o0.1 > 0)))),(66,(Bo (decide (o0.1 > 0))))] Z Z $ w8 (fun hc=>?_) fun hc=>?_
      ·rw [hc]
       exact d8 Z
      ·rw [hc]
       exact d8 Z
    refine kc Z Z (fun hc=>?_) fun hc=>?_
    ·rw [hc]
     refine et d4 $ kr (uF (am [])) Z $ et I4 $ et u6 $ et A0 $ et (hret _) ?_
     rfl
    ·rw [hc]
     refine et l6 $ kg Ba Z (fun (o4:(List Int))=>⟨[(0,(i6 a0)),(3,(aL 3 I o4)),(15,(i6 a0)),(16,(I (a0.length:Int))),(17,(I x1))],[(3,⟨true,1,List.map I o4⟩)],82⟩) (rd 3 [(71,(aL 3 I x2)),(72,(I o2)),(73,(I (sqW (o2+1))))] Z Z $ rx Z (Cb (e:=I) Z Z Z underlying36 (by decide)) fun v6 hv27=>bd 6 [(74,(V.aref 3 0 v6)),(75,(I o0.1)),(76,(sI (([o0.1]:List Int))))] Z Z $ et (z6 (x:=(app (List.take v6 x2) ([o0.1]:List Int))) (w:=fun v7=>((aL 3 I v7),_)) Z Z Z Z (BZ (e:=I) (l:=x2) Z Z Z Z Z Z Z Z Z Z Z (DB hv27) (of_decide_eq_true Z))) $ s8 fun v7=>b7 Z) fun o4=>krp Bb Z ⟨[(0,(i6 a0)),(3,(aL 3 I o4)),(15,(i6 a0)),(16,(I (a0.length:Int))),(17,(I x1)),(80,(Bo (decide ((o4.length:Int) > 5))))],[(3,⟨true,1,List.map I o4⟩)],82⟩ ?_ ?_
     ·exact rd 1 [(78,(aL 3 I o4))] Z Z $ rl Z (fB (e:=I) Z Z Z Z Z Z underlying36) $ b7 Z
     refine kcl Z Z (fun hc=>?_) fun hc=>?_
     ·rw [hc]
      refine kr (uF (am [])) Z $ et l7 $ et u6 $ et A0 $ et (hret _) ?_
      rfl
     ·rw [hc]
      exact et w6 $ et j5 $ kl ⟨[(0,(i6 a0)),(3,(aL 3 I o4)),(15,(i6 a0)),(16,(I (a0.length:Int))),(17,(I (sqW (x1+1))))],[(3,⟨true,1,List.map I o4⟩)],82⟩ rfl $ et j6 $ ih (sqW (x1+1)) o4
  ·rw [hc]
   exact et C1 $ et s5 $ hK0 x1 x2
theorem ny (k:Nat) (a0:(List a6)):EV k 32 [(i6 a0)]=(aA k a0).map bc:=by
 cases k with
 | zero=>rfl
 | succ k=>
  unfold aA
  refine et (l9 (c:=f32c) (N:=82) (regs:=HM) Z func32 Z (by decide) Z Z Z) $ kra [] Z $ et d4 $ kga ER Z (fun (o1:Bool)=>[(14,(Bo o1))]) ?_ fun o1=>?_
  ·refine rd 1 [(7,(i6 a0))] Z Z $ rl Z (A8 (e:=d7) Z Z Z Z Z Z underlying23) $ bd 4 [(8,(I (a0.length:Int))),(9,(Bo (decide ((a0.length:Int) < 1)))),(10,(Bo (decide ((a0.length:Int) < 1))))] Z Z $ w8 (fun hc=>?_) fun hc=>?_
   ·rw [hc]
    exact d8 Z
   ·rw [hc]
    exact rd 5 [(11,(i6 a0))] Z Z $ rl Z (A8 (e:=d7) Z Z Z Z Z Z underlying23) $ b7 Z
  refine kc Z Z (fun hc=>?_) fun hc=>?_
  ·rw [hc]
   refine et d4 $ kr (uF (am [])) Z $ et I4 ?_
   rfl
  ·rw [hc]
   refine et l6 $ kr ⟨[(0,(i6 a0)),(3,(aL 3 I ([]:List Int)))],[(3,⟨true,1,List.map I ([]:List Int)⟩)],82⟩ rfl $ et d4 $ krp ES Z ⟨[(0,(i6 a0)),(3,(aL 3 I ([]:List Int))),(15,(i6 a0)),(16,(I (a0.length:Int))),(17,(I 0))],[(3,⟨true,1,List.map I ([]:List Int)⟩)],82⟩ ?_ ?_
   ·exact rd 1 [(15,(i6 a0))] Z Z $ rl Z (A8 (e:=d7) Z Z Z Z Z Z underlying23) $ b7 Z
   refine et (l5 Z) $ et B0 ?_
   refine jx k a0 _ _ ?h_dbd_areTypes_L1_0 ?hr_dbd_areTypes_L1 k 0 ([]:List Int)
   ·intro y0 y1
    refine et r9 $ kr (uF [(2,(Bo true))]) Z $ et l7 ?_
    rfl
   ·intro s; exact rfl
def K3:Int→V×List V:=fun r=>((I r),[])
theorem bQ (k:Nat) (a0:(List b4)) (a1:Nat→b4→Option Bool) (a1_fid:Go.FuncId) (a1_c0:V) (a1_hok:∀ j x0,EV j a1_fid [(b8 x0),V.pro a1_c0]=(a1 j x0).map fun b=>((Bo b),[])) (K0:Int→Option Int) (Kst:X×St→Option (V×List V)) (hK0:∀ (y0:Int),Kst (X.exit 0,(I0 [(0,(i8 a0)),(1,(V.fn a1_fid [] [V.pro a1_c0])),(7,(I (a0.length:Int))),(8,(I y0)),(9,(Bo false))]))=(K0 y0).map K3) (hret:∀ s,Kst (X.ret,s)=P5 prog 19 [(i8 a0),(V.fn a1_fid [] [V.pro a1_c0])] [] [.tmp 4] (X.ret,s)):
  ∀ (m:Nat) (x4:Int),(L6 (C5 prog (EV k) HY k GO) m (I0 [(0,(i8 a0)),(1,(V.fn a1_fid [] [V.pro a1_c0])),(7,(I (a0.length:Int))),(8,(I x4))])).bind Kst=(D7 k a0 a1 K0 m x4).map K3:=by
 intro m
 induction m with
 | zero=>intros; rfl
 | succ m ih=>
  intro x4
  unfold D7
  refine et A6 $ kra [(9,(Bo (decide (x4 < (a0.length:Int)))))] Z $ kc Z Z (fun hc=>?_) fun hc=>?_
  ·rw [hc]
   refine et l6 $ et (l5 Z) $ kr (I0 [(0,(i8 a0)),(1,(V.fn a1_fid [] [V.pro a1_c0])),(5,(I x4)),(7,(I (a0.length:Int))),(8,(I x4))]) Z $ kga GN Z (fun (o7:Bool)=>[(16,(Bo o7))]) (rd 3 [(11,(V.fn a1_fid [] [V.pro a1_c0])),(12,(i8 a0)),(13,(I x4))] Z Z $ rp Z (j7 (e:=b8) Z Z Z underlying24 Z (by decide)) fun v5=>bd 5 [(14,(Pr (b8 v5))),(15,(b8 v5))] Z Z $ rs Z (j9 Z Z Z Z Z (a1_hok k v5) (.inl Z)) fun v6=>b7 Z) fun o7=>kcl Z Z (fun hc=>?_) fun hc=>?_
   ·rw [hc]
    refine kr (I0 [(4,(I x4))]) Z $ et l7 $ et u6 $ et A0 $ et (hret _) ?_
    rfl
   ·rw [hc]
    exact et w6 $ et j5 $ kl (I0 [(0,(i8 a0)),(1,(V.fn a1_fid [] [V.pro a1_c0])),(7,(I (a0.length:Int))),(8,(I (sqW (x4+1))))]) Z $ et j6 $ ih (sqW (x4+1))
  ·rw [hc]
   exact et C1 $ et s5 $ hK0 x4
theorem dq (k:Nat) (a0:(List b4)) (a1:Nat→b4→Option Bool) (a1_fid:Go.FuncId) (a1_c0:V) (a1_hok:∀ j x0,EV j a1_fid [(b8 x0),V.pro a1_c0]=(a1 j x0).map fun b=>((Bo b),[])):EV k 84 [(i8 a0),(V.fn a1_fid [] [V.pro a1_c0])]=(J0 k a0 a1).map K3:=by
 cases k with
 | zero=>rfl
 | succ k=>
  unfold J0
  refine et (l9 (c:=f84c) (N:=19) (regs:=HY) Z func84 Z (by decide) Z Z Z) $ kra [] Z $ et d4 $ krp GM Z (I0 [(0,(i8 a0)),(1,(V.fn a1_fid [] [V.pro a1_c0])),(7,(I (a0.length:Int))),(8,(I 0))]) ?_ ?_
  ·exact rd 1 [(6,(i8 a0))] Z Z $ rl Z (A8 (e:=b8) Z Z Z Z Z Z underlying24) $ b7 Z
  refine et (l5 Z) $ et B0 ?_
  refine bQ k a0 a1 a1_fid a1_c0 a1_hok _ _ ?h_slices_IndexFunc_Search_L1_0 ?hr_slices_IndexFunc_Search_L1 k 0
  ·intro y8
   refine et r9 $ kr (I0 [(4,(I (-1)))]) Z $ et l7 ?_
   rfl
  ·intro s; exact rfl
def bn:Bool→V×List V:=fun r=>((Bo r),[])
theorem bP (k:Nat) (a0:(List b4)) (a1:Nat→b4→Option Bool) (a1_fid:Go.FuncId) (a1_c0:V) (a1_hok:∀ j x0,EV j a1_fid [(b8 x0),V.pro a1_c0]=(a1 j x0).map fun b=>((Bo b),[])):EV k 60 [(i8 a0),(V.fn a1_fid [] [V.pro a1_c0])]=(C2 k a0 a1).map bn:=by
 cases k with
 | zero=>rfl
 | succ k=>
  unfold C2
  refine et (l9 (c:=f60c) (N:=9) (regs:=Ji) Z func60 Z (by decide) Z Z Z) $ kra [] Z $ kg Gh Z (fun (o2:Bool)=>(pV [(4,(Bo o2))])) (rd 2 [(5,(i8 a0)),(6,(V.fn a1_fid [] [V.pro a1_c0]))] Z Z $ rp Z (j9 Z Z Z Z Z (dq k a0 a1 a1_fid a1_c0 a1_hok) (.inl Z)) fun v1=>b7 Z) fun o2=>et l7 ?_
  rfl
def gF:Bool→V×List V:=fun r=>((Bo r),[])
theorem iJ (k:Nat) (a0:b4) (a1:b4):EV k 61 [(b8 a0),(Pr (b8 a1))]=(P9 k a0 a1).map gF:=by
 cases k with
 | zero=>rfl
 | succ k=>
  unfold P9
  refine et (l9 (c:=f61c) (N:=9) (regs:=Jj) Z func61 Z (by decide) Z Z Z) $ kr ⟨[(1,(Pr (b8 a1))),(2,(Pt 2))],[(2,vS 4 (b8 a0))],9⟩ rfl $ kr (pV [(3,(Bo (a0.fName == a1.fName)))]) Z $ et l7 ?_
  rfl
def Z1:Bool→V×List V:=fun r=>((Bo r),[])
theorem gG (k:Nat) (a0:(List b4)) (a1:(List a6))  (K0:Int→Option Bool) (Kst:X×St→Option (V×List V)) (hK0:∀ (y0:Int),Kst (X.exit 0,(ig [(0,(i8 a0)),(1,(i6 a1)),(8,(i8 a0)),(9,(I (a0.length:Int))),(10,(I y0)),(11,(Bo false))]))=(K0 y0).map Z1) (hret:∀ s,Kst (X.ret,s)=P5 prog 73 [(i8 a0),(i6 a1)] [] [.tmp 4] (X.ret,s)):
  ∀ (m:Nat) (x1:Int),(L6 (C5 prog (EV k) HN k Fd) m (ig [(0,(i8 a0)),(1,(i6 a1)),(8,(i8 a0)),(9,(I (a0.length:Int))),(10,(I x1))])).bind Kst=(F9 k a0 a1 K0 m x1).map Z1:=by
 intro m
 induction m with
 | zero=>intros; rfl
 | succ m ih=>
  intro x1
  unfold F9
  refine et A6 $ kra [(11,(Bo (decide (x1 < (a0.length:Int)))))] Z $ kc Z Z (fun hc=>?_) fun hc=>?_
  ·rw [hc]
   refine et l6 $ et (l5 Z) $ kg EZ Z (fun (o0:Int×b4)=>⟨[(0,(i8 a0)),(1,(i6 a1)),(5,(I o0.1)),(6,(Pt 6)),(8,(i8 a0)),(9,(I (a0.length:Int))),(10,(I x1))],[(6,vS 4 (b8 o0.2))],73⟩) (rd 1 [(12,(I x1))] Z Z $ rp Z (j7 (e:=b8) Z Z Z underlying24 Z (by decide)) fun v0=>b7 Z) fun o0=>et d4 $ kg Fa Z (fun (o1:Bool)=>⟨[(0,(i8 a0)),(1,(i6 a1)),(6,(Pt 6)),(8,(i8 a0)),(9,(I (a0.length:Int))),(10,(I x1)),(43,(Bo o1))],[(6,vS 4 (b8 o0.2))],73⟩) ?_ fun o1=>?_
   ·refine rd 2 [(15,(Pt 6)),(16,(Sr o0.2.fName))] Z Z $ rp Z (j9 Z Z Z Z Z (br k o0.2.fName) (.inl Z)) fun v1=>bd 5 [(17,(Bo v1)),(18,(Bo (!v1))),(19,(Bo (!v1)))] Z Z $ w8 (fun hc=>?_) fun hc=>?_
    ·rw [hc]
     exact d8 Z
    ·rw [hc]
     refine rd 10 [(20,(V.ptr 6 0 1)),(21,(I o0.2.fType)),(22,(Bo (decide (o0.2.fType < 0)))),(23,(Bo (decide (o0.2.fType < 0)))),(24,(Bo (decide (o0.2.fType < 0))))] Z Z $ w8 (fun hc=>?_) fun hc=>?_
     ·rw [hc]
      exact d8 Z
     ·rw [hc]
      refine rd 13 [(25,(V.ptr 6 0 1)),(26,(I o0.2.fType)),(27,(i6 a1))] Z Z $ rl Z (A8 (e:=d7) Z Z Z Z Z Z underlying23) $ bd 17 (Ht (a1.length:Int) (decide (o0.2.fType ≥ (a1.length:Int))) []) Z Z $ w8 (fun hc=>?_) fun hc=>?_
      ·rw [hc]
       exact d8 Z
      ·rw [hc]
       refine rd 23 [(32,(V.ptr 6 0 3)),(33,(Sr o0.2.fSparse)),(34,(I (o0.2.fSparse.length:Int))),(35,(Bo (decide ((o0.2.fSparse.length:Int) > 1)))),(36,(Bo (decide ((o0.2.fSparse.length:Int) > 1)))),(37,(Bo (decide ((o0.2.fSparse.length:Int) > 1))))] Z Z $ w8 (fun hc=>?_) fun hc=>?_
       ·rw [hc]
        exact d8 Z
       ·rw [hc]
        exact rd 25 [(38,(i8 a0)),(39,(I o0.1))] Z Z $ rp Z (sZ (e:=b8) Z Z Z Z Z Z underlying24 Z (by decide)) fun v2=>bd 27 [(40,(i8 v2)),(41,(V.fn 61 [] [(Pt 6)]))] Z Z $ rs Z (j9 Z Z Z Z Z (bP k v2 (fun j x0=>(P9 j x0 o0.2)) 61 (b8 o0.2) (fun j x0=>(iJ j x0 o0.2))) (.inr (fun _=>rfl))) fun v3=>b7 Z
   refine kc Z Z (fun hc=>?_) fun hc=>?_
   ·rw [hc]
    refine et d4 $ kr (ig (dw [])) Z $ et I4 $ et u6 $ et A0 $ et (hret _) ?_
    rfl
   ·rw [hc]
    refine et l6 $ kg Fb Z (fun (o2:(List b6))=>⟨[(0,(i8 a0)),(1,(i6 a1)),(6,(Pt 6)),(7,(j4 o2)),(8,(i8 a0)),(9,(I (a0.length:Int))),(10,(I x1))],[(6,vS 4 (b8 o0.2))],73⟩) (rd 3 [(44,(i6 a1)),(45,(V.ptr 6 0 1)),(46,(I o0.2.fType))] Z Z $ rp Z (j7 (e:=d7) Z Z Z underlying23 Z (by decide)) fun v4=>b7 Z) fun o2=>kg Fc Z (fun (o3:Bool)=>(ig [(0,(i8 a0)),(1,(i6 a1)),(8,(i8 a0)),(9,(I (a0.length:Int))),(10,(I x1)),(68,(Bo o3))])) ?_ fun o3=>?_
    ·refine rd 4 [(50,(V.ptr 6 0 2)),(51,(I o0.2.fField)),(52,(Bo (decide (o0.2.fField < 0)))),(53,(Bo (decide (o0.2.fField < 0))))] Z Z $ w8 (fun hc=>?_) fun hc=>?_
     ·rw [hc]
      exact d8 Z
     ·rw [hc]
      refine rd 7 [(54,(V.ptr 6 0 2)),(55,(I o0.2.fField)),(56,(j4 o2))] Z Z $ rl Z (A8 (e:=d9) Z Z Z Z Z Z underlying50) $ bd 11 [(57,(I (o2.length:Int))),(58,(Bo (decide (o0.2.fField ≥ (o2.length:Int))))),(59,(Bo (decide (o0.2.fField ≥ (o2.length:Int))))),(60,(Bo (decide (o0.2.fField ≥ (o2.length:Int)))))] Z Z $ w8 (fun hc=>?_) fun hc=>?_
      ·rw [hc]
       exact d8 Z
      ·rw [hc]
       exact rd 14 [(61,(j4 o2)),(62,(V.ptr 6 0 2)),(63,(I o0.2.fField))] Z Z $ rp Z (j7 (e:=d9) Z Z Z underlying50 Z (by decide)) fun v5=>b7 Z
    refine kcl Z Z (fun hc=>?_) fun hc=>?_
    ·rw [hc]
     refine kr (ig (dw [])) Z $ et l7 $ et u6 $ et A0 $ et (hret _) ?_
     rfl
    ·rw [hc]
     exact et w6 $ et j5 $ kl (ig [(0,(i8 a0)),(1,(i6 a1)),(8,(i8 a0)),(9,(I (a0.length:Int))),(10,(I (sqW (x1+1))))]) Z $ et j6 $ ih (sqW (x1+1))
  ·rw [hc]
   exact et C1 $ et s5 $ hK0 x1
theorem kA (k:Nat) (a0:(List b4)) (a1:(List a6)):EV k 33 [(i8 a0),(i6 a1)]=(U0 k a0 a1).map Z1:=by
 cases k with
 | zero=>rfl
 | succ k=>
  unfold U0
  refine et (l9 (c:=f33c) (N:=73) (regs:=HN) Z func33 Z (by decide) Z Z Z) $ kra [] Z $ et d4 $ krp EY Z (ig [(0,(i8 a0)),(1,(i6 a1)),(8,(i8 a0)),(9,(I (a0.length:Int))),(10,(I 0))]) ?_ ?_
  ·exact rd 1 [(8,(i8 a0))] Z Z $ rl Z (A8 (e:=b8) Z Z Z Z Z Z underlying24) $ b7 Z
  refine et (l5 Z) $ et B0 ?_
  refine gG k a0 a1 _ _ ?h_dbd_areIndexes_L1_0 ?hr_dbd_areIndexes_L1 k 0
  ·intro y0
   refine et r9 $ krp Bc Z (ig [(4,(Bo (decide ((a0.length:Int)≤3))))]) ?_ ?_
   ·exact rd 1 [(70,(i8 a0))] Z Z $ rl Z (A8 (e:=b8) Z Z Z Z Z Z underlying24) $ b7 Z
   refine et l7 ?_
   rfl
  ·intro s; exact rfl
def qk:Bool→V×List V:=fun r=>((Bo r),[])
theorem ky (k:Nat) (a0:a8):EV k 14 [(j8 a0)]=(cC k a0).map qk:=by
 cases k with
 | zero=>rfl
 | succ k=>
  unfold cC
  refine et (l9 (c:=f14c) (N:=28) (regs:=II) Z func14 Z (by decide) Z Z Z) $ kr ⟨[(1,(Pt 1))],(Cr a0),28⟩ rfl $ kg DV Z (fun (o4:Bool)=>⟨[(2,(Bo o4))],[],28⟩) ?_ fun o4=>?_
  ·refine rd 2 [(3,(Pt 1)),(4,(Sr a0.fName))] Z Z $ rp Z (j9 Z Z Z Z Z (br k a0.fName) (.inl Z)) fun v1=>bd 4 [(5,(Bo v1)),(6,(Bo v1))] Z Z $ w8 (fun hc=>?_) fun hc=>?_
   ·rw [hc]
    refine rd 9 [(7,(V.ptr 1 0 1)),(8,(I a0.fKind)),(9,(Bo (decide (a0.fKind ≥ 1)))),(10,(Bo (decide (a0.fKind ≥ 1)))),(11,(Bo (decide (a0.fKind ≥ 1))))] Z Z $ w8 (fun hc=>?_) fun hc=>?_
    ·rw [hc]
     refine rd 14 [(12,(V.ptr 1 0 1)),(13,(I a0.fKind)),(14,(Bo (decide (a0.fKind≤4)))),(15,(Bo (decide (a0.fKind≤4)))),(16,(Bo (decide (a0.fKind≤4))))] Z Z $ w8 (fun hc=>?_) fun hc=>?_
     ·rw [hc]
      refine rd 16 [(17,(V.ptr 1 0 2)),(18,(i6 a0.fTypes))] Z Z $ rp Z (j9 Z Z Z Z Z (ny k a0.fTypes) (.inl Z)) fun v2=>bd 19 [(19,(Bo v2)),(20,(Bo v2)),(21,(Bo v2))] Z Z $ w8 (fun hc=>?_) fun hc=>?_
      ·rw [hc]
       exact rd 23 [(22,(V.ptr 1 0 3)),(23,(i8 a0.fIndexes)),(24,(V.ptr 1 0 2)),(25,(i6 a0.fTypes))] Z Z $ rs Z (j9 Z Z Z Z Z (kA k a0.fIndexes a0.fTypes) (.inl Z)) fun v3=>b7 Z
      ·rw [hc]
       exact d8 Z
     ·rw [hc]
      exact d8 Z
    ·rw [hc]
     exact d8 Z
   ·rw [hc]
    exact d8 Z
  refine et l7 ?_
  rfl
def P1:Int→V×List V:=fun r=>((I r),[])
theorem dt (k:Nat) (a0:(List Int)) (a1:Nat→Int→Option Bool) (a1_fid:Go.FuncId) (a1_c0:V) (a1_hok:∀ j x0,EV j a1_fid [(I x0),V.pro a1_c0]=(a1 j x0).map fun b=>((Bo b),[])) (K0:Int→Option Int) (Kst:X×St→Option (V×List V)) (hK0:∀ (y0:Int),Kst (X.exit 0,(I0 [(0,(sI a0)),(1,(V.fn a1_fid [] [V.pro a1_c0])),(7,(I (a0.length:Int))),(8,(I y0)),(9,(Bo false))]))=(K0 y0).map P1) (hret:∀ s,Kst (X.ret,s)=P5 prog 19 [(sI a0),(V.fn a1_fid [] [V.pro a1_c0])] [] [.tmp 4] (X.ret,s)):
  ∀ (m:Nat) (x4:Int),(L6 (C5 prog (EV k) HZ k GR) m (I0 [(0,(sI a0)),(1,(V.fn a1_fid [] [V.pro a1_c0])),(7,(I (a0.length:Int))),(8,(I x4))])).bind Kst=(F5 k a0 a1 K0 m x4).map P1:=by
 intro m
 induction m with
 | zero=>intros; rfl
 | succ m ih=>
  intro x4
  unfold F5
  refine et A6 $ kra [(9,(Bo (decide (x4 < (a0.length:Int)))))] Z $ kc Z Z (fun hc=>?_) fun hc=>?_
  ·rw [hc]
   refine et l6 $ et (l5 Z) $ kr (I0 [(0,(sI a0)),(1,(V.fn a1_fid [] [V.pro a1_c0])),(5,(I x4)),(7,(I (a0.length:Int))),(8,(I x4))]) Z $ kga GQ Z (fun (o7:Bool)=>[(16,(Bo o7))]) (rd 3 [(11,(V.fn a1_fid [] [V.pro a1_c0])),(12,(sI a0)),(13,(I x4))] Z Z $ rp Z (j7 (e:=I) Z Z Z underlying36 Z (by decide)) fun v5=>bd 5 [(14,(Pr (I v5))),(15,(I v5))] Z Z $ rs Z (j9 Z Z Z Z Z (a1_hok k v5) (.inl Z)) fun v6=>b7 Z) fun o7=>kcl Z Z (fun hc=>?_) fun hc=>?_
   ·rw [hc]
    refine kr (I0 [(4,(I x4))]) Z $ et l7 $ et u6 $ et A0 $ et (hret _) ?_
    rfl
   ·rw [hc]
    exact et w6 $ et j5 $ kl (I0 [(0,(sI a0)),(1,(V.fn a1_fid [] [V.pro a1_c0])),(7,(I (a0.length:Int))),(8,(I (sqW (x4+1))))]) Z $ et j6 $ ih (sqW (x4+1))
  ·rw [hc]
   exact et C1 $ et s5 $ hK0 x4
theorem eO (k:Nat) (a0:(List Int)) (a1:Nat→Int→Option Bool) (a1_fid:Go.FuncId) (a1_c0:V) (a1_hok:∀ j x0,EV j a1_fid [(I x0),V.pro a1_c0]=(a1 j x0).map fun b=>((Bo b),[])):EV k 85 [(sI a0),(V.fn a1_fid [] [V.pro a1_c0])]=(O6 k a0 a1).map P1:=by
 cases k with
 | zero=>rfl
 | succ k=>
  unfold O6
  refine et (l9 (c:=f85c) (N:=19) (regs:=HZ) Z func85 Z (by decide) Z Z Z) $ kra [] Z $ et d4 $ krp GP Z (I0 [(0,(sI a0)),(1,(V.fn a1_fid [] [V.pro a1_c0])),(7,(I (a0.length:Int))),(8,(I 0))]) ?_ ?_
  ·exact rd 1 [(6,(sI a0))] Z Z $ rl Z (A8 (e:=I) Z Z Z Z Z Z underlying36) $ b7 Z
  refine et (l5 Z) $ et B0 ?_
  refine dt k a0 a1 a1_fid a1_c0 a1_hok _ _ ?h_slices_IndexFunc_int_L1_0 ?hr_slices_IndexFunc_int_L1 k 0
  ·intro y8
   refine et r9 $ kr (I0 [(4,(I (-1)))]) Z $ et l7 ?_
   rfl
  ·intro s; exact rfl
def cx:Bool→V×List V:=fun r=>((Bo r),[])
theorem dp (k:Nat) (a0:(List Int)) (a1:Nat→Int→Option Bool) (a1_fid:Go.FuncId) (a1_c0:V) (a1_hok:∀ j x0,EV j a1_fid [(I x0),V.pro a1_c0]=(a1 j x0).map fun b=>((Bo b),[])):EV k 62 [(sI a0),(V.fn a1_fid [] [V.pro a1_c0])]=(D3 k a0 a1).map cx:=by
 cases k with
 | zero=>rfl
 | succ k=>
  unfold D3
  refine et (l9 (c:=f62c) (N:=9) (regs:=Jk) Z func62 Z (by decide) Z Z Z) $ kra [] Z $ kg Gi Z (fun (o2:Bool)=>(pV [(4,(Bo o2))])) (rd 2 [(5,(sI a0)),(6,(V.fn a1_fid [] [V.pro a1_c0]))] Z Z $ rp Z (j9 Z Z Z Z Z (eO k a0 a1 a1_fid a1_c0 a1_hok) (.inl Z)) fun v1=>b7 Z) fun o2=>et l7 ?_
  rfl
def nz:Bool→V×List V:=fun r=>((Bo r),[])
theorem oH (k:Nat) (a0:Int) (a1:a8):EV k 63 [(I a0),(Pr (j8 a1))]=(af k a0 a1).map nz:=by
 cases k with
 | zero=>rfl
 | succ k=>
  unfold af
  refine et (l9 (c:=f63c) (N:=13) (regs:=Jl) Z func63 Z (by decide) Z Z Z) $ kra [] Z $ kg Gj Z (fun (o1:Bool)=>(pR [(3,(Bo o1))])) ?_ fun o1=>?_
  ·refine rd 3 [(4,(I a0)),(5,(Bo (decide (a0 < 0)))),(6,(Bo (decide (a0 < 0))))] Z Z $ w8 (fun hc=>?_) fun hc=>?_
   ·rw [hc]
    exact d8 Z
   ·rw [hc]
    exact rd 6 [(7,(I a0)),(8,(Pr (i6 a1.fTypes))),(9,(i6 a1.fTypes))] Z Z $ rl Z (A8 (e:=d7) Z Z Z Z Z Z underlying23) $ b7 Z
  refine et l7 ?_
  rfl
def ql:Int→V×List V:=fun r=>((I r),[])
theorem kD (k:Nat) (a0:a8) (a1:(List Int)):EV k 41 [(j8 a0),(sI a1)]=(cD k a0 a1).map ql:=by
 cases k with
 | zero=>rfl
 | succ k=>
  unfold cD
  refine et (l9 (c:=f41c) (N:=13) (regs:=IX) Z func41 Z (by decide) Z Z Z) $ kr ⟨[(1,(sI a1)),(2,(Pt 2))],[(2,vS 4 (j8 a0))],13⟩ rfl $ et (l5 Z) $ kga Fp Z (fun (o2:Bool)=>[(5,(Bo o2))]) (rd 1 [(6,(j8 a0))] Z Z $ rp Z (j9 Z Z Z Z Z (ky k a0) (.inl Z)) fun v1=>b7 Z) fun o2=>kcl Z Z (fun hc=>?_) fun hc=>?_
  ·rw [hc]
   refine kr (pR [(4,(I 100))]) Z $ et l7 $ et u6 ?_
   rfl
  ·rw [hc]
   refine kg Fq Z (fun (o4:Bool)=>(pR [(9,(Bo o4))])) (rd 2 [(10,(sI a1)),(11,(V.fn 63 [] [(Pt 2)]))] Z Z $ rs Z (j9 Z Z Z Z Z (dp k a1 (fun j x0=>(af j x0 a0)) 63 (j8 a0) (fun j x0=>(oH j x0 a0))) (.inr (fun _=>rfl))) fun v3=>b7 Z) fun o4=>kcl Z Z (fun hc=>?_) fun hc=>?_
   ·rw [hc]
    refine kr (pR [(4,(I 2))]) Z $ et l7 $ et u6 ?_
    rfl
   ·rw [hc]
    refine et w6 $ et j5 $ kr (pR [(4,(I 0))]) Z $ et l7 ?_
    rfl
def fI:List Int→V×List V:=fun r=>(.tup [],[.sl 2 1 (List.map I r)])
theorem gu (k:Nat) (l:List Int):EV k 64 [(V.sl 2 1 (List.map I l))]=(slices_Reverse_int k l).map fI:=by
 cases k with
 | zero=>rfl
 | succ k=>exact (aC (ext:=ext) (f:=64) Z).trans (kI l)
def gJ:(List Int)→V×List V:=fun r=>((sI r),[])
theorem qp (k:Nat) (a0:a8) (a1:Int)  (K0:Int→(List Int)→Option (List Int)) (Kst:X×St→Option (V×List V)) (hK0:∀ (y0:Int) (y1:(List Int)),Kst (X.exit 0,⟨(du y0 [(5,(aL 5 I y1)),(7,(Bo false))]),[(2,vS 4 (j8 a0)),(5,⟨true,1,List.map I y1⟩)],21⟩)=(K0 y0 y1).map gJ) (hret:∀ s,Kst (X.ret,s)=P5 prog 21 [(j8 a0),(I a1)] [] [.tmp 4] (X.ret,s)):
  ∀ (m:Nat) (x5:Int) (x6:(List Int)),(L6 (C5 prog (EV k) HQ k Fv) m ⟨(du x5 [(5,(aL 5 I x6))]),[(2,vS 4 (j8 a0)),(5,⟨true,1,List.map I x6⟩)],21⟩).bind Kst=(Z3 a0 K0 m x5 x6).map gJ:=by
 intro m
 induction m with
 | zero=>intros; rfl
 | succ m ih=>
  intro x5 x6
  unfold Z3
  refine et A6 $ et d4 $ kra [(7,(Bo (decide (x5 ≥ 0))))] Z $ kc Z Z (fun hc=>?_) fun hc=>?_
  ·rw [hc]
   exact et l6 $ et (l5 Z) $ kgl Fs Z (fun (o8:(List Int))=>⟨(du x5 [(5,(aL 5 I o8))]),[(2,vS 4 (j8 a0)),(5,⟨true,1,List.map I o8⟩)],21⟩) (rd 3 [(14,(aL 5 I x6)),(15,(I x5)),(16,(sI (([x5]:List Int))))] Z Z $ et (z6 (x:=(app x6 ([x5]:List Int))) (w:=fun v7=>((aL 5 I v7),_)) Z Z Z Z (Ir (e:=I) (l:=x6) Z Z Z Z Z Z Z Z Z Z Z (of_decide_eq_true Z))) $ s8 fun v7=>b7 Z) fun o8=>et j5 $ kgl Fr Z (fun (o0:Int)=>⟨(du o0 [(5,(aL 5 I o8))]),[(2,vS 4 (j8 a0)),(5,⟨true,1,List.map I o8⟩)],21⟩) (rd 3 [(8,(V.ptr 2 0 2)),(9,(i6 a0.fTypes)),(10,(I x5))] Z Z $ rp Z (j7 (e:=d7) Z Z Z underlying23 Z (by decide)) fun v9=>b7 Z) fun o0=>et j6 $ ih o0 o8
  ·rw [hc]
   exact et C1 $ et s5 $ hK0 x5 x6
theorem wi (k:Nat) (a0:a8) (a1:Int):EV k 42 [(j8 a0),(I a1)]=(kG k a0 a1).map gJ:=by
 cases k with
 | zero=>rfl
 | succ k=>
  unfold kG
  refine et (l9 (c:=f42c) (N:=21) (regs:=HQ) Z func42 Z (by decide) Z Z Z) $ kr ⟨(du a1 []),[(2,vS 4 (j8 a0))],21⟩ rfl $ kr ⟨(du a1 [(5,(aL 5 I ([]:List Int)))]),[(2,vS 4 (j8 a0)),(5,⟨true,1,List.map I ([]:List Int)⟩)],21⟩ rfl $ et (l5 Z) $ et B0 ?_
  refine qp k a0 a1 _ _ ?h_dbd_way_L1_0 ?hr_dbd_way_L1 k a1 ([]:List Int)
  ·intro y0 y1
   refine et r9 $ kg Ft Z (fun (o0:(List Int))=>⟨[(5,(aL 5 I o0))],[(5,⟨true,1,List.map I o0⟩)],21⟩) (rd 1 [(18,(aL 5 I y1))] Z Z $ et (z6 (x:=((slices_Reverse_int k y1).bind (bB y1))) (w:=fun v0=>(V.tup [],_)) Z Z Z Z (Dt (S:=(fun n_=>⟨(du y0 [(5,(V.aref 5 0 n_)),(7,(Bo false)),(18,(V.aref 5 0 n_))]),[(2,vS 4 (j8 a0)),(5,⟨true,1,List.map I y1⟩)],21⟩)) (e:=I) Z Z Z Z Z (Hy (e:=I) Z) Z (gu k y1))) $ s8 fun v0=>b7 Z) fun o0=>krp Fu Z ⟨[(4,(sI o0))],[],21⟩ ?_ ?_
   ·exact rd 1 [(20,(aL 5 I o0))] Z Z $ et (z6 (x:=some ()) (w:=fun _=>((V.sl 2 1 (List.map I o0)),_)) Z Z Z Z (Du (e:=I) Z Z Z Z Z (of_decide_eq_true Z))) $ et x9 $ b7 Z
   refine et l7 ?_
   rfl
  ·intro s; exact rfl
def tM:((List Int)×Int)→V×List V:=fun r=>(.tup [(sI r.1),(I r.2)],[])
theorem wg (k:Nat) (a0:a8) (a1:Int):EV k 17 [(j8 a0),(I a1)]=(kz k a0 a1).map tM:=by
 cases k with
 | zero=>rfl
 | succ k=>
  unfold kz
  refine et (l9 (c:=f17c) (N:=17) (regs:=IJ) Z func17 Z (by decide) Z Z Z) $ kr ⟨(du a1 []),[(2,vS 4 (j8 a0))],17⟩ rfl $ et d4 $ kga Ee Z (fun (o2:Int)=>[(6,(I o2))]) (rd 3 [(7,(j8 a0)),(8,(I a1)),(9,(sI (([a1]:List Int))))] Z Z $ rs Z (j9 Z Z Z Z Z (kD k a0 ([a1]:List Int)) (.inl Z)) fun v1=>b7 Z) fun o2=>et d4 $ kra [(12,(Bo (o2 != 0)))] Z $ kc Z Z (fun hc=>?_) fun hc=>?_
  ·rw [hc]
   refine et d4 $ kr ⟨[(4,(sI (([]:List Int)))),(5,(I o2))],[],17⟩ rfl $ et I4 ?_
   rfl
  ·rw [hc]
   refine et l6 $ kg Eh Z (fun (o4:(List Int)×Int)=>⟨[(4,(sI o4.1)),(5,(I o4.2))],[],17⟩) (rd 2 [(14,(j8 a0)),(15,(I a1))] Z Z $ rp Z (j9 Z Z Z Z Z (wi k a0 a1) (.inl Z)) fun v3=>b7 Z) fun o4=>et l7 ?_
   rfl
def aY:((List Int)×Int)→V×List V:=fun r=>(.tup [(sI r.1),(I r.2)],[])
theorem jt (k:Nat) (a0:a8) (a1:Int)  (K0:(List Int)→Int→Option ((List Int)×Int)) (Kst:X×St→Option (V×List V)) (hK0:∀ (y0:(List Int)) (y1:Int),Kst (X.exit 0,(Z9 [(1,(I a1)),(7,(V.sl 1 1 (List.map I y0))),(18,(i6 a0.fTypes)),(19,(I (a0.fTypes.length:Int))),(20,(I y1)),(21,(Bo false))]))=(K0 y0 y1).map aY) (hret:∀ s,Kst (X.ret,s)=P5 prog 35 [(j8 a0),(I a1)] [] [.tmp 4,.tmp 5] (X.ret,s)):
  ∀ (m:Nat) (x7:(List Int)) (x8:Int),(L6 (C5 prog (EV k) HJ k Em) m (Z9 [(1,(I a1)),(7,(V.sl 1 1 (List.map I x7))),(18,(i6 a0.fTypes)),(19,(I (a0.fTypes.length:Int))),(20,(I x8))])).bind Kst=(G5 a0 a1 K0 m x7 x8).map aY:=by
 intro m
 induction m with
 | zero=>intros; rfl
 | succ m ih=>
  intro x7 x8
  unfold G5
  refine et A6 $ kra [(21,(Bo (decide (x8 < (a0.fTypes.length:Int)))))] Z $ kc Z Z (fun hc=>?_) fun hc=>?_
  ·rw [hc]
   refine et l6 $ et (l5 Z) $ kg Ek Z (fun (o0:Int×a6)=>⟨[(1,(I a1)),(7,(V.sl 1 1 (List.map I x7))),(8,(I o0.1)),(9,(Pt 9)),(18,(i6 a0.fTypes)),(19,(I (a0.fTypes.length:Int))),(20,(I x8))],[(9,vS 8 (d7 o0.2))],35⟩) (rd 1 [(22,(I x8))] Z Z $ rp Z (j7 (e:=d7) Z Z Z underlying23 Z (by decide)) fun v9=>b7 Z) fun o0=>kr (Z9 [(1,(I a1)),(7,(V.sl 1 1 (List.map I x7))),(8,(I o0.1)),(18,(i6 a0.fTypes)),(19,(I (a0.fTypes.length:Int))),(20,(I x8)),(28,(Bo (o0.2.fParent == a1)))]) Z $ kcl Z Z (fun hc=>?_) fun hc=>?_
   ·rw [hc]
    exact kgl El Z (fun (o1:(List Int))=>(Z9 [(1,(I a1)),(7,(V.sl 1 1 (List.map I o1))),(18,(i6 a0.fTypes)),(19,(I (a0.fTypes.length:Int))),(20,(I x8))])) (ra 3 3 (Z9 [(1,(I a1)),(7,(sI x7)),(8,(I o0.1)),(18,(i6 a0.fTypes)),(19,(I (a0.fTypes.length:Int))),(20,(I x8)),(28,(Bo true)),(29,(V.sl 1 1 (List.map I x7))),(30,(I o0.1)),(31,(sI (([o0.1]:List Int))))]) Z Z Z $ et (z6 (x:=(app x7 ([o0.1]:List Int))) (w:=fun v0=>((V.sl 1 1 (List.map I v0)),_)) Z Z Z Z (ga (e:=I) Z Z Z Z Z Z Z Z Z Z (by decide))) $ s8 fun v0=>b7 Z) fun o1=>et j5 $ kl (Z9 [(1,(I a1)),(7,(V.sl 1 1 (List.map I o1))),(18,(i6 a0.fTypes)),(19,(I (a0.fTypes.length:Int))),(20,(I (sqW (x8+1))))]) Z $ et j6 $ ih o1 (sqW (x8+1))
   ·rw [hc]
    exact et w6 $ et j5 $ kl (Z9 [(1,(I a1)),(7,(V.sl 1 1 (List.map I x7))),(18,(i6 a0.fTypes)),(19,(I (a0.fTypes.length:Int))),(20,(I (sqW (x8+1))))]) Z $ et j6 $ ih x7 (sqW (x8+1))
  ·rw [hc]
   exact et C1 $ et s5 $ hK0 x7 x8
theorem nw (k:Nat) (a0:a8) (a1:Int):EV k 19 [(j8 a0),(I a1)]=(ay k a0 a1).map aY:=by
 cases k with
 | zero=>rfl
 | succ k=>
  unfold ay
  refine et (l9 (c:=f19c) (N:=35) (regs:=HJ) Z func19 Z (by decide) Z Z Z) $ kr ⟨(du a1 []),[(2,vS 4 (j8 a0))],35⟩ rfl $ et d4 $ kga Ei Z (fun (o2:Int)=>[(6,(I o2))]) (rd 3 [(10,(j8 a0)),(11,(I a1)),(12,(sI (([a1]:List Int))))] Z Z $ rs Z (j9 Z Z Z Z Z (kD k a0 ([a1]:List Int)) (.inl Z)) fun v1=>b7 Z) fun o2=>et d4 $ kra [(15,(Bo (o2 != 0)))] Z $ kc Z Z (fun hc=>?_) fun hc=>?_
  ·rw [hc]
   refine et d4 $ kr (Z9 [(4,(sI (([]:List Int)))),(5,(I o2))]) Z $ et I4 ?_
   rfl
  ·rw [hc]
   refine et l6 $ kr ⟨(du a1 [(7,(V.sl 1 1 (List.map I ([]:List Int))))]),[(2,vS 4 (j8 a0))],35⟩ rfl $ et d4 $ krp Ej Z (Z9 [(1,(I a1)),(7,(V.sl 1 1 (List.map I ([]:List Int)))),(18,(i6 a0.fTypes)),(19,(I (a0.fTypes.length:Int))),(20,(I 0))]) ?_ ?_
   ·exact rd 2 [(17,(V.ptr 2 0 2)),(18,(i6 a0.fTypes))] Z Z $ rl Z (A8 (e:=d7) Z Z Z Z Z Z underlying23) $ b7 Z
   refine et (l5 Z) $ et B0 ?_
   refine jt k a0 a1 _ _ ?h_dbd_Children_L1_0 ?hr_dbd_Children_L1 k ([]:List Int) 0
   ·intro y0 y1
    refine et r9 $ kr (Z9 [(4,(sI y0)),(5,(I 0))]) Z $ et l7 ?_
    rfl
   ·intro s; exact rfl
def Z8:Bool→V×List V:=fun r=>((Bo r),[])
theorem hZ (k:Nat) (a0:(List Int)) (a1:(List Int))  (K0:Int→Option Bool) (Kst:X×St→Option (V×List V)) (hK0:∀ (y0:Int),Kst (X.exit 0,(eg [(0,(sI a0)),(1,(sI a1)),(5,(I y0)),(14,(Bo false))]))=(K0 y0).map Z8) (hret:∀ s,Kst (X.ret,s)=P5 prog 26 [(sI a0),(sI a1)] [] [.tmp 4] (X.ret,s)):
  ∀ (m:Nat) (x4:Int),(L6 (C5 prog (EV k) HK k Er) m (eg [(0,(sI a0)),(1,(sI a1)),(5,(I x4))])).bind Kst=(G2 a0 a1 K0 m x4).map Z8:=by
 intro m
 induction m with
 | zero=>intros; rfl
 | succ m ih=>
  intro x4
  unfold G2
  refine et A6 $ et d4 $ krp Eo Z (eg [(0,(sI a0)),(1,(sI a1)),(5,(I x4)),(14,(Bo (decide (x4 < (a0.length:Int)))))]) ?_ ?_
  ·exact rd 2 [(11,(I x4)),(12,(sI a0))] Z Z $ rl Z (A8 (e:=I) Z Z Z Z Z Z underlying36) $ b7 Z
  refine kc Z Z (fun hc=>?_) fun hc=>?_
  ·rw [hc]
   refine et l6 $ et (l5 Z) $ kd Ep Z (fun (o7:Bool)=>(eg [(0,(sI a0)),(1,(sI a1)),(5,(I x4)),(25,(Bo o7))])) (et (k0 (p:=9) (dk:=true) (t:=[(0,(sI a0)),(1,(sI a1)),(5,(I x4)),(14,(Bo true))]) (σ:=[]) (n:=26) Z (by decide) (by decide) Z) $ et (m8 (m:=2) (j:=2) (t':=[(0,(sI a0)),(1,(sI a1)),(5,(I x4)),(14,(Bo true)),(17,(sI a0)),(18,(I x4))]) Z Z Z) $ et (b5 (x:=(idx a0 x4)) (w:=fun v5=>(Pr (I v5))) Z Z Z Z Z (j7 (e:=I) Z Z Z underlying36 Z (by decide))) $ j3 fun v5=>et (c8 (m:=3) (j:=6) (t':=[(0,(sI a0)),(1,(sI a1)),(5,(I x4)),(14,(Bo true)),(17,(sI a0)),(18,(I x4)),(19,(Pr (I v5))),(20,(I v5)),(21,(sI a1)),(22,(I x4))]) Z Z Z) $ et (b5 (x:=(idx a1 x4)) (w:=fun v6=>(Pr (I v6))) Z Z Z Z Z (j7 (e:=I) Z Z Z underlying36 Z (by decide))) $ j3 fun v6=>u0 Z) fun o7=>kcl Z Z (fun hc=>?_) fun hc=>?_
   ·rw [hc]
    refine kr (eg (dw [])) Z $ et l7 $ et u6 $ et A0 $ et (hret _) ?_
    rfl
   ·rw [hc]
    exact et w6 $ et j5 $ kl (eg [(0,(sI a0)),(1,(sI a1)),(5,(I (sqW (x4+1))))]) Z $ et j6 $ ih (sqW (x4+1))
  ·rw [hc]
   exact et C1 $ et s5 $ hK0 x4
theorem dN (k:Nat) (a0:(List Int)) (a1:(List Int)):EV k 20 [(sI a0),(sI a1)]=(Q1 k a0 a1).map Z8:=by
 cases k with
 | zero=>rfl
 | succ k=>
  unfold Q1
  refine et (l9 (c:=f20c) (N:=26) (regs:=HK) Z func20 Z (by decide) Z Z Z) $ kra [] Z $ et d4 $ krp En Z (eg [(0,(sI a0)),(1,(sI a1)),(10,(Bo ((a0.length:Int) != (a1.length:Int))))]) ?_ ?_
  ·exact rd 1 [(6,(sI a0))] Z Z $ rl Z (A8 (e:=I) Z Z Z Z Z Z underlying36) $ bd 3 [(7,(I (a0.length:Int))),(8,(sI a1))] Z Z $ rl Z (A8 (e:=I) Z Z Z Z Z Z underlying36) $ b7 Z
  refine kc Z Z (fun hc=>?_) fun hc=>?_
  ·rw [hc]
   refine et d4 $ kr (eg (dw [])) Z $ et I4 ?_
   rfl
  ·rw [hc]
   refine et l6 $ et d4 $ kr (eg [(0,(sI a0)),(1,(sI a1)),(5,(I 0))]) Z $ et (l5 Z) $ et B0 ?_
   refine hZ k a0 a1 _ _ ?h_ref01_SameInts_L1_0 ?hr_ref01_SameInts_L1 k 0
   ·intro y8
    refine et r9 $ kr (eg [(4,(Bo true))]) Z $ et l7 ?_
    rfl
   ·intro s; exact rfl
def nF:Bool→V×List V:=fun r=>((Bo r),[])
theorem da (k:Nat) :EV k 5 []=(U5 k).map nF:=by
 cases k with
 | zero=>rfl
 | succ k=>
  unfold U5
  refine et (l9 (c:=f5c) (N:=31) (regs:=f5n) Z func5 Z (by decide) Z Z Z) $ kra [] Z $ kga Jf Z (fun (o3:(List Int)×Int)=>[(1,(sI o3.1)),(2,(I o3.2))]) (rp Z (j9 Z Z Z Z Z (jd k) (.inl Z)) fun v1=>bd 1 [(6,(j8 v1))] Z Z $ rp Z (j9 Z Z Z Z Z (wg k v1 2) (.inl Z)) fun v2=>b7 Z) fun o3=>kga Jg Z (fun (o6:(List Int)×Int)=>[(3,(sI o6.1)),(4,(I o6.2))]) (rp Z (j9 Z Z Z Z Z (jd k) (.inl Z)) fun v4=>bd 1 [(11,(j8 v4))] Z Z $ rp Z (j9 Z Z Z Z Z (nw k v4 0) (.inl Z)) fun v5=>b7 Z) fun o6=>kg Jh Z (fun (o9:Bool)=>⟨[(0,(Bo o9))],[],31⟩) ?_ fun o9=>?_
  ·refine rd 3 [(15,(I o3.2)),(16,(Bo (o3.2 == 0))),(17,(Bo (o3.2 == 0)))] Z Z $ w8 (fun hc=>?_) fun hc=>?_
   ·rw [hc]
    refine rd 7 [(18,(I o6.2)),(19,(Bo (o6.2 == 0))),(20,(Bo (o6.2 == 0))),(21,(Bo (o6.2 == 0)))] Z Z $ w8 (fun hc=>?_) fun hc=>?_
    ·rw [hc]
     refine rd 9 [(22,(sI o3.1)),(23,(sI (([0,1,2]:List Int))))] Z Z $ rp Z (j9 Z Z Z Z Z (dN k o3.1 ([0,1,2]:List Int)) (.inl Z)) fun v7=>bd 12 [(24,(Bo v7)),(25,(Bo v7)),(26,(Bo v7))] Z Z $ w8 (fun hc=>?_) fun hc=>?_
     ·rw [hc]
      exact rd 14 [(27,(sI o6.1)),(28,(sI (([1,3]:List Int))))] Z Z $ rs Z (j9 Z Z Z Z Z (dN k o6.1 ([1,3]:List Int)) (.inl Z)) fun v8=>b7 Z
     ·rw [hc]
      exact d8 Z
    ·rw [hc]
     exact d8 Z
   ·rw [hc]
    exact d8 Z
  refine et l7 ?_
  rfl
def fM:(List Str)→V×List V:=fun r=>((sS r),[])
theorem gw (k:Nat) (s:Str) (t:Str):EV k 21 [(Sr s),(Sr t)]=(ac k s t).map fM:=by
 cases k with
 | zero=>rfl
 | succ k=>exact (aC (ext:=ext) (f:=21) Z).trans Z
def fN:Str→V×List V:=fun r=>((Sr r),[])
theorem gx (k:Nat) (s:Str) (t:Str):EV k 23 [(Sr s),(Sr t)]=(strings_TrimSuffix k s t).map fN:=by
 cases k with
 | zero=>rfl
 | succ k=>exact (aC (ext:=ext) (f:=23) Z).trans Z
def lC:(List Str)→V×List V:=fun r=>((sS r),[])
theorem mN (k:Nat) (s:Str) (t:Str):EV k 22 [(Sr s),(Sr t)]=(strings_Split k s t).map lC:=by
 cases k with
 | zero=>rfl
 | succ k=>exact (aC (ext:=ext) (f:=22) Z).trans Z
def oL:(Int×Bool)→V×List V:=fun r=>((V.tup [(I r.1),(Bo r.2)]),[])
theorem dV (k:Nat) (s:Str):EV k 24 [(Sr s)]=(Z2 k s).map oL:=by
 cases k with
 | zero=>rfl
 | succ k=>exact (aC (ext:=ext) (f:=24) Z).trans Z
def nD:(Int×Int×Bool)→V×List V:=fun r=>(.tup [(I r.1),(I r.2.1),(Bo r.2.2)],[])
theorem gI (k:Nat) (a0:Str) (a1:Str):EV k 71 [(Sr a0),(Sr a1)]=(Q4 k a0 a1).map nD:=by
 cases k with
 | zero=>rfl
 | succ k=>
  unfold Q4
  refine et (l9 (c:=f71c) (N:=27) (regs:=Jr) Z func71 Z (by decide) Z Z Z) $ kra [] Z $ kg Gn Z (fun (o2:Int×Bool)=>⟨[(1,(Sr a1)),(7,(I o2.1)),(8,(Bo o2.2))],[],27⟩) (rd 1 [(12,(Sr a0))] Z Z $ rp Z (j9 Z Z Z Z Z (dV k a0) (.inl Z)) fun v1=>b7 Z) fun o2=>kg Gp Z (fun (o4:Int×Bool)=>⟨[(7,(I o2.1)),(8,(Bo o2.2)),(9,(I o4.1)),(10,(Bo o4.2))],[],27⟩) (rd 1 [(17,(Sr a1))] Z Z $ rp Z (j9 Z Z Z Z Z (dV k a1) (.inl Z)) fun v3=>b7 Z) fun o4=>kg Gq Z (fun (o5:Int×Int×Bool)=>⟨[(4,(I o5.1)),(5,(I o5.2.1)),(6,(Bo o5.2.2))],[],27⟩) ?_ fun o5=>?_
  ·refine rd 4 [(21,(I o2.1)),(22,(I o4.1)),(23,(Bo o2.2)),(24,(Bo o2.2))] Z Z $ w8 (fun hc=>?_) fun hc=>?_
   ·rw [hc]
    exact d8 Z
   ·rw [hc]
    exact d8 Z
  refine et l7 ?_
  rfl
def nE:Bool→V×List V:=fun r=>((Bo r),[])
theorem oM (k:Nat) (a0:a6) (a1:(List Str)):EV k 73 [(d7 a0),(Pr (sS a1))]=(ah k a0 a1).map nE:=by
 cases k with
 | zero=>rfl
 | succ k=>
  unfold ah
  refine et (l9 (c:=f73c) (N:=10) (regs:=Js) Z func73 Z (by decide) Z Z Z) $ kr ⟨(lA a1 []),[(2,vS 8 (d7 a0))],10⟩ rfl $ kd Gu Z (fun (o2:Bool)=>⟨[(3,(Bo o2))],[],10⟩) (et (k0 (p:=7) (dk:=true) (t:=(lA a1 [])) (σ:=[(2,vS 8 (d7 a0))]) (n:=10) Z (by decide) (by decide) Z) $ et (m8 (m:=3) (j:=3) (t':=(lA a1 [(4,(Pt 2)),(5,(Sr a0.fName)),(6,(sS a1))])) Z Z Z) $ et (b5 (x:=(idx a1 2)) (w:=fun v1=>(Pr (Sr v1))) Z Z Z Z Z (j7 (e:=V.str) Z Z Z underlying41 Z (by decide))) $ j3 fun v1=>u0 Z) fun o2=>et l7 ?_
  rfl
def qo:(Bool×a8)→V×List V:=fun r=>((Bo r.1),[(V.io (V.agg [(Sr r.2.fName),(I r.2.fKind),(V.sl 3 8 (List.map a7 r.2.fTypes)),(V.sl 1 4 (List.map b8 r.2.fIndexes))]))])
theorem si (k:Nat) (a0:a8) (a1:(List Str)):EV k 46 [(V.io (V.agg [(Sr a0.fName),(I a0.fKind),(V.sl 3 8 (List.map a7 a0.fTypes)),(V.sl 1 4 (List.map b8 a0.fIndexes))])),(sS a1)]=(ag k a0 a1).map qo:=by
 cases k with
 | zero=>rfl
 | succ k=>
  unfold ag
  refine et (l9 (c:=f46c) (N:=68) (regs:=IY) Z func46 Z (by decide) Z Z Z) $ kr (fJ a1 a0.fName a0.fKind a0.fTypes a0.fIndexes (uO [])) Z $ kd Fw Z (fun (o4:Int×Int×Bool)=>(fJ a1 a0.fName a0.fKind a0.fTypes a0.fIndexes (gg o4.1 o4.2.1 o4.2.2 []))) (et (k0 (p:=14) (dk:=true) (t:=(uO [])) (σ:=(JV a1 a0.fName a0.fKind a0.fTypes a0.fIndexes)) (n:=68) Z (by decide) (by decide) Z) $ et (m8 (m:=1) (j:=1) (t':=(uO [(10,(sS a1))])) Z Z Z) $ et (b5 (x:=(idx a1 3)) (w:=fun v1=>(Pr (Sr v1))) Z Z Z Z Z (j7 (e:=V.str) Z Z Z underlying41 Z (by decide))) $ j3 fun v1=>et (c8 (m:=2) (j:=4) (t':=(uO [(10,(sS a1)),(11,(Pr (Sr v1))),(12,(Sr v1)),(13,(sS a1))])) Z Z Z) $ et (b5 (x:=(idx a1 4)) (w:=fun v2=>(Pr (Sr v2))) Z Z Z Z Z (j7 (e:=V.str) Z Z Z underlying41 Z (by decide))) $ j3 fun v2=>et (c8 (m:=1) (j:=6) (t':=(uO [(10,(sS a1)),(11,(Pr (Sr v1))),(12,(Sr v1)),(13,(sS a1)),(14,(Pr (Sr v2))),(15,(Sr v2))])) Z Z Z) $ et (b5 (x:=(Q4 k v1 v2)) (w:=fun v3=>(V.tup [(I v3.1),(I v3.2.1),(Bo v3.2.2)])) Z Z Z Z Z (j9 Z Z Z Z Z (gI k v1 v2) (.inl Z))) $ j3 fun v3=>u0 Z) fun o4=>kra [(8,(I (-1)))] Z $ et d4 $ kga Fx Z (fun (o6:Bool)=>[(23,(Bo o6))]) (rd 1 [(20,(sS a1))] Z Z $ rp Z (j7 (e:=V.str) Z Z Z underlying41 Z (by decide)) fun v5=>b7 Z) fun o6=>kc Z Z (fun hc=>?_) fun hc=>?_
  ·rw [hc]
   refine et d4 $ kg Fy Z (fun (o8:Int)=>(fJ a1 a0.fName a0.fKind a0.fTypes a0.fIndexes (gg o4.1 o4.2.1 o4.2.2 [(8,(I o8))]))) (et (J9 (x:=some ()) (st1:=(pS a0.fTypes a1 a0.fName a0.fKind a0.fIndexes (gg o4.1 o4.2.1 o4.2.2 [(8,(I (-1))),(23,(Bo true))]))) (w:=fun _=>((Pt 68),(pS a0.fTypes a1 a0.fName a0.fKind a0.fIndexes (gg o4.1 o4.2.1 o4.2.2 [(8,(I (-1))),(23,(Bo true))])))) (u:=fun _=>(pS a0.fTypes a1 a0.fName a0.fKind a0.fIndexes (gg o4.1 o4.2.1 o4.2.2 [(8,(I (-1))),(23,(Bo true)),(24,(Pt 68))]))) Z Z Z Z Z Z Z Z (fun _=>rfl)) $ et x9 $ rd 5 [(25,(Pt 68)),(26,(V.ptr 68 0 2)),(27,(aL 0 a7 a0.fTypes)),(28,(V.fn 73 [] [(Pt 3)]))] Z Z $ rp Z (j9 Z Z Z Z (qH (BV (e:=a7) (e':=d7) (fun _=>rfl) Z) (by intro s i q h; cases h) (qH Z (by intro s i q h; cases h) Z)) (P0 k a0.fTypes (fun j x0=>(ah j x0 a1)) 73 (sS a1) (fun j x0=>(oM j x0 a1))) (.inr (fun _=>rfl))) fun v7=>bd 6 [(29,(I v7))] Z Z $ et (J9 (x:=some ()) (st1:=(pS a0.fTypes a1 a0.fName a0.fKind a0.fIndexes (gg o4.1 o4.2.1 o4.2.2 [(8,(I (-1))),(23,(Bo true)),(24,(Pt 68)),(25,(Pt 68)),(26,(V.ptr 68 0 2)),(27,(aL 0 a7 a0.fTypes)),(28,(V.fn 73 [] [(Pt 3)])),(29,(I v7))]))) (w:=fun _=>((I v7),(pS a0.fTypes a1 a0.fName a0.fKind a0.fIndexes (gg o4.1 o4.2.1 o4.2.2 [(8,(I (-1))),(23,(Bo true)),(24,(Pt 68)),(25,(Pt 68)),(26,(V.ptr 68 0 2)),(27,(aL 0 a7 a0.fTypes)),(28,(V.fn 73 [] [(Pt 3)])),(29,(I v7))])))) (u:=fun _=>(fJ a1 a0.fName a0.fKind a0.fTypes a0.fIndexes (gg o4.1 o4.2.1 o4.2.2 [(8,(I v7)),(23,(Bo true)),(24,(Pt 68)),(25,(Pt 68)),(26,(V.ptr 68 0 2)),(27,V.undef),(28,(V.fn 73 [] [(Pt 3)])),(29,(I v7))]))) Z Z Z Z Z Z Z Z (fun _=>gh1 Z (P7 Z Z Z Z Z))) $ et x9 $ d8 Z) fun o8=>kg Fz Z (fun (o9:Bool)=>(fJ a1 a0.fName a0.fKind a0.fTypes a0.fIndexes (gg o4.1 o4.2.1 o9 [(8,(I o8))]))) ?_ fun o9=>?_
   ·refine rd 2 [(30,(Bo o4.2.2)),(31,(Bo o4.2.2))] Z Z $ w8 (fun hc=>?_) fun hc=>?_
    ·rw [hc]
     exact d8 Z
    ·rw [hc]
     exact d8 Z
   refine kd Bh Z (fun (o0:(List a6))=>(fJ a1 a0.fName a0.fKind o0 a0.fIndexes [(3,(Pt 3)),(7,(Bo o9))])) (et (aM (by decide)) $ rdN 1 [(35,(Pt 68))] Z Z $ rdN 2 [(36,(Pt 68))] Z Z $ rdN 3 [(37,(Pt 68))] Z Z $ rdN 4 [(38,(V.ptr 68 0 2))] Z Z $ et (z6 (x:=some ()) (w:=fun _=>((V.sl 3 8 (List.map a7 a0.fTypes)),_)) Z Z Z Z (ta Z Z Z Z Z Z)) $ et x9 $ baN 0 5 ⟨(gg o4.1 o4.2.1 o9 [(8,(I o8)),(35,(Pt 68)),(36,(Pt 68)),(37,(Pt 68)),(38,(V.ptr 68 0 2)),(39,(V.sl 3 8 (List.map a7 a0.fTypes)))]),[(3,vS 1 (sS a1)),(68,⟨false,4,[(V.agg [(Sr a0.fName),(I a0.fKind),(V.strip1 (V.sl 3 8 (List.map a7 a0.fTypes))),(V.sl 1 4 (List.map b8 a0.fIndexes))])]⟩)],68⟩ rfl Z Z $ rdN 6 [(40,(sS a1))] Z Z $ rp Z (j7 (e:=V.str) Z Z Z underlying41 Z (by decide)) fun v0=>bdN 8 [(41,(Pr (Sr v0))),(42,(Sr v0))] Z Z $ rdN 9 [(43,(I o8))] Z Z $ rdN 10 [(44,(I o4.1))] Z Z $ rdN 11 [(45,(I o4.2.1))] Z Z $ rdN 12 [(46,(sS a1))] Z Z $ rp Z (j7 (e:=V.str) Z Z Z underlying41 Z (by decide)) fun v4=>bdN 14 [(47,(Pr (Sr v4))),(48,(Sr v4))] Z Z $ rdN 15 [(49,(Bo (v4 == ([76]:Str))))] Z Z $ rdN 16 [(50,(V.agg [(Sr v0),(I o8),(I o4.1),(I o4.2.1),(V.sl 5 3 (List.map d9 ([]:List b6))),(I (-1)),(Bo false),(Bo (v4 == ([76]:Str)))]))] Z Z $ rdN 17 [(51,(V.sl 0 8 [(V.agg [(Sr v0),(I o8),(I o4.1),(I o4.2.1),(V.sl 5 3 (List.map d9 ([]:List b6))),(I (-1)),(Bo false),(Bo (v4 == ([76]:Str)))])]))] Z Z $ et (z6 (x:=(app a0.fTypes [({ fName:=v0,fParent:=o8,fMin:=o4.1,fSize:=o4.2.1,fFields:=([]:List b6),fKey:=(-1),fUnique:=false,fLast:=(v4 == ([76]:Str)) }:a6)])) (w:=fun v6=>((V.sl 3 8 (List.map a7 v6)),_)) Z Z Z Z (wW (e:=a7) (l:=a0.fTypes) (m:=[({ fName:=v0,fParent:=o8,fMin:=o4.1,fSize:=o4.2.1,fFields:=([]:List b6),fKey:=(-1),fUnique:=false,fLast:=(v4 == ([76]:Str)) }:a6)]) Z Z Z Z Z Z Z Z Z Z Z Z)) $ j3 fun v6=>baN 1 19 ⟨(gg o4.1 o4.2.1 o9 [(8,(I o8)),(35,(Pt 68)),(36,(Pt 68)),(37,(Pt 68)),(38,(V.ptr 68 0 2)),(39,(V.strip1 (V.sl 3 8 (List.map a7 a0.fTypes)))),(40,(sS a1)),(41,(Pr (Sr v0))),(42,(Sr v0)),(43,(I o8)),(44,(I o4.1)),(45,(I o4.2.1)),(46,(sS a1)),(47,(Pr (Sr v4))),(48,(Sr v4)),(49,(Bo (v4 == ([76]:Str)))),(50,(V.agg [(Sr v0),(I o8),(I o4.1),(I o4.2.1),(V.sl 5 3 (List.map d9 ([]:List b6))),(I (-1)),(Bo false),(Bo (v4 == ([76]:Str)))])),(51,(V.sl 0 8 [(V.agg [(Sr v0),(I o8),(I o4.1),(I o4.2.1),(V.sl 5 3 (List.map d9 ([]:List b6))),(I (-1)),(Bo false),(Bo (v4 == ([76]:Str)))])])),(52,(V.sl 3 8 (List.map a7 v6))),(53,(Pt 68))]),[(3,vS 1 (sS a1)),(68,⟨false,4,[(V.agg [(Sr a0.fName),(I a0.fKind),(V.strip1 (V.sl 3 8 (List.map a7 a0.fTypes))),(V.sl 1 4 (List.map b8 a0.fIndexes))])]⟩)],68⟩ rfl Z Z $ rdN 20 [(54,(V.ptr 68 0 2))] Z Z $ raN 1 21 (fJ a1 a0.fName a0.fKind v6 a0.fIndexes (gg o4.1 o4.2.1 o9 [(8,(I o8)),(35,(Pt 68)),(36,(Pt 68)),(37,(Pt 68)),(38,(V.ptr 68 0 2)),(39,(V.strip1 (V.sl 3 8 (List.map a7 a0.fTypes)))),(40,(sS a1)),(41,(Pr (Sr v0))),(42,(Sr v0)),(43,(I o8)),(44,(I o4.1)),(45,(I o4.2.1)),(46,(sS a1)),(47,(Pr (Sr v4))),(48,(Sr v4)),(49,(Bo (v4 == ([76]:Str)))),(50,(V.agg [(Sr v0),(I o8),(I o4.1),(I o4.2.1),(V.sl 5 3 (List.map d9 ([]:List b6))),(I (-1)),(Bo false),(Bo (v4 == ([76]:Str)))])),(51,(V.sl 0 8 [(V.agg [(Sr v0),(I o8),(I o4.1),(I o4.2.1),(V.sl 5 3 (List.map d9 ([]:List b6))),(I (-1)),(Bo false),(Bo (v4 == ([76]:Str)))])])),(52,(V.strip1 (V.sl 3 8 (List.map a7 v6)))),(53,(Pt 68)),(54,(V.ptr 68 0 2))])) Z Z Z $ pN Z) fun o0=>kg Bi Z (fun (o1:Bool)=>⟨[(4,(Bo o1))],[(68,⟨false,4,[(V.agg [(Sr a0.fName),(I a0.fKind),(V.sl 3 8 (List.map a7 o0)),(V.sl 1 4 (List.map b8 a0.fIndexes))])]⟩)],68⟩) ?_ fun o1=>?_
   ·refine rd 2 [(55,(Bo o9)),(56,(Bo o9))] Z Z $ w8 (fun hc=>?_) fun hc=>?_
    ·rw [hc]
     refine rd 3 [(57,(sS a1))] Z Z $ rp Z (j7 (e:=V.str) Z Z Z underlying41 Z (by decide)) fun v8=>bd 7 [(58,(Pr (Sr v8))),(59,(Sr v8)),(60,(Bo (v8 == ([76]:Str)))),(61,(Bo (v8 == ([76]:Str))))] Z Z $ w8 (fun hc=>?_) fun hc=>?_
     ·rw [hc]
      exact d8 Z
     ·rw [hc]
      exact rd 8 [(62,(sS a1))] Z Z $ rp Z (j7 (e:=V.str) Z Z Z underlying41 Z (by decide)) fun v9=>b7 Z
    ·rw [hc]
     exact d8 Z
   refine et l7 ?_
   rfl
  ·rw [hc]
   refine et l6 $ kd Bh Z (fun (o2:(List a6))=>(fJ a1 a0.fName a0.fKind o2 a0.fIndexes [(3,(Pt 3)),(7,(Bo o4.2.2))])) (et (aM (by decide)) $ rdN 1 [(35,(Pt 68))] Z Z $ rdN 2 [(36,(Pt 68))] Z Z $ rdN 3 [(37,(Pt 68))] Z Z $ rdN 4 [(38,(V.ptr 68 0 2))] Z Z $ et (z6 (x:=some ()) (w:=fun _=>((V.sl 3 8 (List.map a7 a0.fTypes)),_)) Z Z Z Z (ta Z Z Z Z Z Z)) $ et x9 $ baN 0 5 ⟨(CA o4.1 o4.2.1 o4.2.2 [(39,(V.sl 3 8 (List.map a7 a0.fTypes)))]),[(3,vS 1 (sS a1)),(68,⟨false,4,[(V.agg [(Sr a0.fName),(I a0.fKind),(V.strip1 (V.sl 3 8 (List.map a7 a0.fTypes))),(V.sl 1 4 (List.map b8 a0.fIndexes))])]⟩)],68⟩ rfl Z Z $ rdN 6 [(40,(sS a1))] Z Z $ rp Z (j7 (e:=V.str) Z Z Z underlying41 Z (by decide)) fun va=>bdN 8 [(41,(Pr (Sr va))),(42,(Sr va))] Z Z $ rdN 9 [(43,(I (-1)))] Z Z $ rdN 10 [(44,(I o4.1))] Z Z $ rdN 11 [(45,(I o4.2.1))] Z Z $ rdN 12 [(46,(sS a1))] Z Z $ rp Z (j7 (e:=V.str) Z Z Z underlying41 Z (by decide)) fun vb=>bdN 14 [(47,(Pr (Sr vb))),(48,(Sr vb))] Z Z $ rdN 15 [(49,(Bo (vb == ([76]:Str))))] Z Z $ rdN 16 [(50,(V.agg [(Sr va),(I (-1)),(I o4.1),(I o4.2.1),(V.sl 5 3 (List.map d9 ([]:List b6))),(I (-1)),(Bo false),(Bo (vb == ([76]:Str)))]))] Z Z $ rdN 17 [(51,(V.sl 0 8 [(V.agg [(Sr va),(I (-1)),(I o4.1),(I o4.2.1),(V.sl 5 3 (List.map d9 ([]:List b6))),(I (-1)),(Bo false),(Bo (vb == ([76]:Str)))])]))] Z Z $ et (z6 (x:=(app a0.fTypes [({ fName:=va,fParent:=(-1),fMin:=o4.1,fSize:=o4.2.1,fFields:=([]:List b6),fKey:=(-1),fUnique:=false,fLast:=(vb == ([76]:Str)) }:a6)])) (w:=fun vc=>((V.sl 3 8 (List.map a7 vc)),_)) Z Z Z Z (wW (e:=a7) (l:=a0.fTypes) (m:=[({ fName:=va,fParent:=(-1),fMin:=o4.1,fSize:=o4.2.1,fFields:=([]:List b6),fKey:=(-1),fUnique:=false,fLast:=(vb == ([76]:Str)) }:a6)]) Z Z Z Z Z Z Z Z Z Z Z Z)) $ j3 fun vc=>baN 1 19 ⟨(CA o4.1 o4.2.1 o4.2.2 [(39,(V.strip1 (V.sl 3 8 (List.map a7 a0.fTypes)))),(40,(sS a1)),(41,(Pr (Sr va))),(42,(Sr va)),(43,(I (-1))),(44,(I o4.1)),(45,(I o4.2.1)),(46,(sS a1)),(47,(Pr (Sr vb))),(48,(Sr vb)),(49,(Bo (vb == ([76]:Str)))),(50,(V.agg [(Sr va),(I (-1)),(I o4.1),(I o4.2.1),(V.sl 5 3 (List.map d9 ([]:List b6))),(I (-1)),(Bo false),(Bo (vb == ([76]:Str)))])),(51,(V.sl 0 8 [(V.agg [(Sr va),(I (-1)),(I o4.1),(I o4.2.1),(V.sl 5 3 (List.map d9 ([]:List b6))),(I (-1)),(Bo false),(Bo (vb == ([76]:Str)))])])),(52,(V.sl 3 8 (List.map a7 vc))),(53,(Pt 68))]),[(3,vS 1 (sS a1)),(68,⟨false,4,[(V.agg [(Sr a0.fName),(I a0.fKind),(V.strip1 (V.sl 3 8 (List.map a7 a0.fTypes))),(V.sl 1 4 (List.map b8 a0.fIndexes))])]⟩)],68⟩ rfl Z Z $ rdN 20 [(54,(V.ptr 68 0 2))] Z Z $ raN 1 21 (fJ a1 a0.fName a0.fKind vc a0.fIndexes (CA o4.1 o4.2.1 o4.2.2 [(39,(V.strip1 (V.sl 3 8 (List.map a7 a0.fTypes)))),(40,(sS a1)),(41,(Pr (Sr va))),(42,(Sr va)),(43,(I (-1))),(44,(I o4.1)),(45,(I o4.2.1)),(46,(sS a1)),(47,(Pr (Sr vb))),(48,(Sr vb)),(49,(Bo (vb == ([76]:Str)))),(50,(V.agg [(Sr va),(I (-1)),(I o4.1),(I o4.2.1),(V.sl 5 3 (List.map d9 ([]:List b6))),(I (-1)),(Bo false),(Bo (vb == ([76]:Str)))])),(51,(V.sl 0 8 [(V.agg [(Sr va),(I (-1)),(I o4.1),(I o4.2.1),(V.sl 5 3 (List.map d9 ([]:List b6))),(I (-1)),(Bo false),(Bo (vb == ([76]:Str)))])])),(52,(V.strip1 (V.sl 3 8 (List.map a7 vc)))),(53,(Pt 68)),(54,(V.ptr 68 0 2))])) Z Z Z $ pN Z) fun o2=>kg Bi Z (fun (o3:Bool)=>⟨[(4,(Bo o3))],[(68,⟨false,4,[(V.agg [(Sr a0.fName),(I a0.fKind),(V.sl 3 8 (List.map a7 o2)),(V.sl 1 4 (List.map b8 a0.fIndexes))])]⟩)],68⟩) ?_ fun o3=>?_
   ·refine rd 2 [(55,(Bo o4.2.2)),(56,(Bo o4.2.2))] Z Z $ w8 (fun hc=>?_) fun hc=>?_
    ·rw [hc]
     refine rd 3 [(57,(sS a1))] Z Z $ rp Z (j7 (e:=V.str) Z Z Z underlying41 Z (by decide)) fun vd=>bd 7 [(58,(Pr (Sr vd))),(59,(Sr vd)),(60,(Bo (vd == ([76]:Str)))),(61,(Bo (vd == ([76]:Str))))] Z Z $ w8 (fun hc=>?_) fun hc=>?_
     ·rw [hc]
      exact d8 Z
     ·rw [hc]
      exact rd 8 [(62,(sS a1))] Z Z $ rp Z (j7 (e:=V.str) Z Z Z underlying41 Z (by decide)) fun ve=>b7 Z
    ·rw [hc]
     exact d8 Z
   refine et l7 ?_
   rfl
def nA:(Bool×a8)→V×List V:=fun r=>((Bo r.1),[(V.io (V.agg [(Sr r.2.fName),(I r.2.fKind),(V.sl 3 8 (List.map a7 r.2.fTypes)),(V.sl 1 4 (List.map b8 r.2.fIndexes))]))])
theorem oI (k:Nat) (a0:a8) (a1:(List Str)):EV k 47 [(V.io (V.agg [(Sr a0.fName),(I a0.fKind),(V.sl 3 8 (List.map a7 a0.fTypes)),(V.sl 1 4 (List.map b8 a0.fIndexes))])),(sS a1)]=(N5 k a0 a1).map nA:=by
 cases k with
 | zero=>rfl
 | succ k=>
  unfold N5
  refine et (l9 (c:=f47c) (N:=94) (regs:=IZ) Z func47 Z (by decide) Z Z Z) $ kra [] Z $ et d4 $ krp FA Z (X5 a0.fTypes a0.fName a0.fKind a0.fIndexes (S4 a1 [(14,(Bo ((a0.fTypes.length:Int) == 0)))])) ?_ ?_
  ·exact et (J9 (x:=some ()) (st1:=(X5 a0.fTypes a0.fName a0.fKind a0.fIndexes (S4 a1 []))) (w:=fun _=>((Pt 94),(X5 a0.fTypes a0.fName a0.fKind a0.fIndexes (S4 a1 [])))) (u:=fun _=>(X5 a0.fTypes a0.fName a0.fKind a0.fIndexes (S4 a1 [(9,(Pt 94))]))) Z Z Z Z Z Z Z Z (fun _=>rfl)) $ et x9 $ rd 4 [(10,(Pt 94)),(11,(V.ptr 94 0 2)),(12,(aL 0 a7 a0.fTypes))] Z Z $ rl Z (fB (e:=a7) Z Z Z Z Z Z underlying23) $ b7 Z
  refine kc Z Z (fun hc=>?_) fun hc=>?_
  ·rw [hc]
   refine et d4 $ krp FB Z (mE a0.fName a0.fKind a0.fTypes a0.fIndexes (dw [])) ?_ ?_
   ·exact et (J9 (x:=some ()) (st1:=(X5 a0.fTypes a0.fName a0.fKind a0.fIndexes (S4 a1 [(14,(Bo true))]))) (w:=fun _=>((Bo false),(X5 a0.fTypes a0.fName a0.fKind a0.fIndexes (S4 a1 [(14,(Bo true))])))) (u:=fun _=>(mE a0.fName a0.fKind a0.fTypes a0.fIndexes (S4 a1 [(4,(Bo false)),(14,(Bo true))]))) Z Z Z Z Z Z Z Z (fun _=>gh1 Z (P7 Z Z Z Z Z))) $ et x9 $ d8 Z
   refine et I4 ?_
   rfl
  ·rw [hc]
   refine et l6 $ kd FC Z (fun (o2:Unit)=>(X5 a0.fTypes a0.fName a0.fKind a0.fIndexes (S4 a1 [(5,(V.ptr 0 (0+(sqW ((a0.fTypes.length:Int) - 1)).toNat) 0))]))) (et (k0 (p:=12) (dk:=true) (t:=(S4 a1 [(14,(Bo false))])) (σ:=(Iw a0.fTypes a0.fName a0.fKind a0.fIndexes)) (n:=94) Z (by decide) (by decide) Z) $ et (m8 (m:=8) (j:=8) (t':=(Hu a1 a0.fTypes [])) Z Z Z) $ et (b5 (x:=some ()) (w:=fun _=>(I (a0.fTypes.length:Int))) Z Z Z Z Z (fB (e:=a7) Z Z Z Z Z Z underlying23)) $ et x9 $ et (c8 (m:=1) (j:=10) (t':=(Hu a1 a0.fTypes [(23,(I (a0.fTypes.length:Int))),(24,(I (sqW ((a0.fTypes.length:Int) - 1))))])) Z Z Z) $ et (b5 (x:=(inB a0.fTypes.length (sqW ((a0.fTypes.length:Int) - 1)))) (w:=fun v1=>(V.ptr 0 (0+(sqW ((a0.fTypes.length:Int) - 1)).toNat) 0)) Z Z Z Z Z (de (e:=a7) Z Z Z underlying23 Z Z (by decide))) $ j3 fun v1=>u0 Z) fun o2=>kd FD Z (fun (o6:Int×Int×Bool)=>(X5 a0.fTypes a0.fName a0.fKind a0.fIndexes (S4 a1 [(5,(V.ptr 0 (0+(sqW ((a0.fTypes.length:Int) - 1)).toNat) 0)),(6,(I o6.1)),(7,(I o6.2.1)),(8,(Bo o6.2.2))]))) (et (k0 (p:=14) (dk:=true) (t:=(S4 a1 [(5,(V.ptr 0 (0+(sqW ((a0.fTypes.length:Int) - 1)).toNat) 0))])) (σ:=(Iw a0.fTypes a0.fName a0.fKind a0.fIndexes)) (n:=94) Z (by decide) (by decide) Z) $ et (m8 (m:=1) (j:=1) (t':=(S4 a1 [(5,(V.ptr 0 (0+(sqW ((a0.fTypes.length:Int) - 1)).toNat) 0)),(27,(sS a1))])) Z Z Z) $ et (b5 (x:=(idx a1 2)) (w:=fun v3=>(Pr (Sr v3))) Z Z Z Z Z (j7 (e:=V.str) Z Z Z underlying41 Z (by decide))) $ j3 fun v3=>et (c8 (m:=2) (j:=4) (t':=(S4 a1 [(5,(V.ptr 0 (0+(sqW ((a0.fTypes.length:Int) - 1)).toNat) 0)),(27,(sS a1)),(28,(Pr (Sr v3))),(29,(Sr v3)),(30,(sS a1))])) Z Z Z) $ et (b5 (x:=(idx a1 3)) (w:=fun v4=>(Pr (Sr v4))) Z Z Z Z Z (j7 (e:=V.str) Z Z Z underlying41 Z (by decide))) $ j3 fun v4=>et (c8 (m:=1) (j:=6) (t':=(S4 a1 [(5,(V.ptr 0 (0+(sqW ((a0.fTypes.length:Int) - 1)).toNat) 0)),(27,(sS a1)),(28,(Pr (Sr v3))),(29,(Sr v3)),(30,(sS a1)),(31,(Pr (Sr v4))),(32,(Sr v4))])) Z Z Z) $ et (b5 (x:=(Q4 k v3 v4)) (w:=fun v5=>(V.tup [(I v5.1),(I v5.2.1),(Bo v5.2.2)])) Z Z Z Z Z (j9 Z Z Z Z Z (gI k v3 v4) (.inl Z))) $ j3 fun v5=>u0 Z) fun o6=>kd FE Z (fun (o0:(List a6))=>(X5 o0 a0.fName a0.fKind a0.fIndexes (S4 a1 [(5,(V.ptr 0 (0+(sqW ((a0.fTypes.length:Int) - 1)).toNat) 0)),(8,(Bo o6.2.2))]))) ?_ fun o0=>?_
   ·refine et (aM (by decide)) $ rd 4 [(37,(V.ptr 0 (0+(sqW ((a0.fTypes.length:Int) - 1)).toNat) 0)),(38,(V.ptr 0 (0+(sqW ((a0.fTypes.length:Int) - 1)).toNat) 0)),(39,(V.ptr 0 (0+(sqW ((a0.fTypes.length:Int) - 1)).toNat) 0)),(40,(V.ptr 0 (0+(sqW ((a0.fTypes.length:Int) - 1)).toNat) 4))] Z Z $ et (z6 (x:=(a0.fTypes[0+(sqW ((a0.fTypes.length:Int) - 1)).toNat]?)) (w:=fun v7=>((V.sl 1 3 (List.map d9 v7.fFields)),_)) Z Z Z Z (xS (e:=a7) (e':=d7) (part:=(fun a=>(V.sl 1 3 (List.map d9 a.fFields)))) Z Z Z Z (fun _=>rfl) (fun _=>rfl))) ?_
    refine j3 fun v7=>ba 1 6 ⟨(S4 a1 [(5,(V.ptr 0 (0+(sqW ((a0.fTypes.length:Int) - 1)).toNat) 0)),(6,(I o6.1)),(7,(I o6.2.1)),(8,(Bo o6.2.2)),(37,(V.ptr 0 (0+(sqW ((a0.fTypes.length:Int) - 1)).toNat) 0)),(38,(V.ptr 0 (0+(sqW ((a0.fTypes.length:Int) - 1)).toNat) 0)),(39,(V.ptr 0 (0+(sqW ((a0.fTypes.length:Int) - 1)).toNat) 0)),(40,(V.ptr 0 (0+(sqW ((a0.fTypes.length:Int) - 1)).toNat) 4)),(41,(V.sl 1 3 (List.map d9 v7.fFields))),(42,(sS a1))]),[(0,⟨true,8,(List.map a7 a0.fTypes).set (0+(sqW ((a0.fTypes.length:Int) - 1)).toNat) (d7 v7)⟩),(94,⟨false,4,[(V.agg [(Sr a0.fName),(I a0.fKind),(aL 0 a7 a0.fTypes),(V.sl 1 4 (List.map b8 a0.fIndexes))])]⟩)],94⟩ rfl Z Z $ rp Z (j7 (e:=V.str) Z Z Z underlying41 Z (by decide)) fun v8=>bd 12 [(43,(Pr (Sr v8))),(44,(Sr v8)),(45,(I o6.1)),(46,(I o6.2.1)),(47,(d9 ({ fName:=v8,fAt:=o6.1,fBytes:=o6.2.1 }:b6))),(48,(j4 (([({ fName:=v8,fAt:=o6.1,fBytes:=o6.2.1 }:b6)]:List b6))))] Z Z $ et (z6 (x:=(app v7.fFields ([({ fName:=v8,fAt:=o6.1,fBytes:=o6.2.1 }:b6)]:List b6))) (w:=fun v9=>((V.sl 1 3 (List.map d9 v9)),_)) Z Z Z Z (ga (e:=d9) Z Z Z Z Z Z Z Z Z Z (by decide))) $ j3 fun v9=>ba 2 15 ⟨(S4 a1 [(5,(V.ptr 0 (0+(sqW ((a0.fTypes.length:Int) - 1)).toNat) 0)),(6,(I o6.1)),(7,(I o6.2.1)),(8,(Bo o6.2.2)),(37,(V.ptr 0 (0+(sqW ((a0.fTypes.length:Int) - 1)).toNat) 0)),(38,(V.ptr 0 (0+(sqW ((a0.fTypes.length:Int) - 1)).toNat) 0)),(39,(V.ptr 0 (0+(sqW ((a0.fTypes.length:Int) - 1)).toNat) 0)),(40,(V.ptr 0 (0+(sqW ((a0.fTypes.length:Int) - 1)).toNat) 4)),(41,(j4 v7.fFields)),(42,(sS a1)),(43,(Pr (Sr v8))),(44,(Sr v8)),(45,(I o6.1)),(46,(I o6.2.1)),(47,(d9 ({ fName:=v8,fAt:=o6.1,fBytes:=o6.2.1 }:b6))),(48,(j4 (([({ fName:=v8,fAt:=o6.1,fBytes:=o6.2.1 }:b6)]:List b6)))),(49,(V.sl 1 3 (List.map d9 v9))),(50,(V.ptr 0 (0+(sqW ((a0.fTypes.length:Int) - 1)).toNat) 0)),(51,(V.ptr 0 (0+(sqW ((a0.fTypes.length:Int) - 1)).toNat) 4))]),[(0,⟨true,8,(List.map a7 a0.fTypes).set (0+(sqW ((a0.fTypes.length:Int) - 1)).toNat) (d7 v7)⟩),(94,⟨false,4,[(V.agg [(Sr a0.fName),(I a0.fKind),(aL 0 a7 a0.fTypes),(V.sl 1 4 (List.map b8 a0.fIndexes))])]⟩)],94⟩ rfl Z Z $ et (z6 (x:=(a0.fTypes[0+(sqW ((a0.fTypes.length:Int) - 1)).toNat]?)) (w:=fun _=>(V.tup [],_)) Z Z Z Z (pD (S:=(fun n_=>⟨(S4 a1 [(5,(V.ptr 0 (0+(sqW ((a0.fTypes.length:Int) - 1)).toNat) 0)),(6,(I o6.1)),(7,(I o6.2.1)),(8,(Bo o6.2.2)),(37,(V.ptr 0 (0+(sqW ((a0.fTypes.length:Int) - 1)).toNat) 0)),(38,(V.ptr 0 (0+(sqW ((a0.fTypes.length:Int) - 1)).toNat) 0)),(39,(V.ptr 0 (0+(sqW ((a0.fTypes.length:Int) - 1)).toNat) 0)),(40,(V.ptr 0 (0+(sqW ((a0.fTypes.length:Int) - 1)).toNat) 4)),(41,(j4 v7.fFields)),(42,(sS a1)),(43,(Pr (Sr v8))),(44,(Sr v8)),(45,(I o6.1)),(46,(I o6.2.1)),(47,(d9 ({ fName:=v8,fAt:=o6.1,fBytes:=o6.2.1 }:b6))),(48,(j4 (([({ fName:=v8,fAt:=o6.1,fBytes:=o6.2.1 }:b6)]:List b6)))),(49,(V.sl 1 3 (List.map d9 v9))),(50,(V.ptr 0 (0+(sqW ((a0.fTypes.length:Int) - 1)).toNat) 0)),(51,(V.ptr 0 (0+(sqW ((a0.fTypes.length:Int) - 1)).toNat) 4))]),[(0,⟨true,8,(List.map a7 a0.fTypes).set (0+(sqW ((a0.fTypes.length:Int) - 1)).toNat) (d7 v7)⟩),(94,⟨false,4,[(V.agg [(Sr a0.fName),(I a0.fKind),(V.aref 0 0 n_),(V.sl 1 4 (List.map b8 a0.fIndexes))])]⟩)],94⟩)) (e:=a7) (l:=a0.fTypes) (v:={ v7 with fFields:=v9 }) Z Z Z Z Z Z Z Z Z Z Z)) ?_
    exact j3 fun v0=>b7 Z
   refine et d4 $ kga FF Z (fun (o1:Bool)=>[(55,(Bo o1))]) (rd 1 [(52,(sS a1))] Z Z $ rp Z (j7 (e:=V.str) Z Z Z underlying41 Z (by decide)) fun v2=>b7 Z) fun o1=>kc Z Z (fun hc=>?_) fun hc=>?_
   ·rw [hc]
    refine et d4 $ krp FG Z (mE a0.fName a0.fKind o0 a0.fIndexes [(4,(Bo o6.2.2))]) ?_ ?_
    ·exact rd 1 [(56,(Bo o6.2.2))] Z Z $ et (J9 (x:=some ()) (st1:=(X5 o0 a0.fName a0.fKind a0.fIndexes (S4 a1 [(5,(V.ptr 0 (0+(sqW ((a0.fTypes.length:Int) - 1)).toNat) 0)),(8,(Bo o6.2.2)),(55,(Bo true)),(56,(Bo o6.2.2))]))) (w:=fun _=>((Bo o6.2.2),(X5 o0 a0.fName a0.fKind a0.fIndexes (S4 a1 [(5,(V.ptr 0 (0+(sqW ((a0.fTypes.length:Int) - 1)).toNat) 0)),(8,(Bo o6.2.2)),(55,(Bo true)),(56,(Bo o6.2.2))])))) (u:=fun _=>(mE a0.fName a0.fKind o0 a0.fIndexes (S4 a1 [(4,(Bo o6.2.2)),(5,V.undef),(8,(Bo o6.2.2)),(55,(Bo true)),(56,(Bo o6.2.2))]))) Z Z Z Z Z Z Z Z (fun _=>gh1 Z (P7 Z Z Z Z Z))) $ et x9 $ d8 Z
    refine et I4 ?_
    rfl
   ·rw [hc]
    refine et l6 $ kg FH Z (fun (o3:Bool)=>(X5 o0 a0.fName a0.fKind a0.fIndexes (S4 a1 [(5,(V.ptr 0 (0+(sqW ((a0.fTypes.length:Int) - 1)).toNat) 0)),(8,(Bo o3))]))) ?_ fun o3=>?_
    ·refine rd 2 [(57,(Bo o6.2.2)),(58,(Bo o6.2.2))] Z Z $ w8 (fun hc=>?_) fun hc=>?_
     ·rw [hc]
      refine rd 5 [(59,(V.ptr 0 (0+(sqW ((a0.fTypes.length:Int) - 1)).toNat) 0)),(60,(V.ptr 0 (0+(sqW ((a0.fTypes.length:Int) - 1)).toNat) 0)),(61,(V.ptr 0 (0+(sqW ((a0.fTypes.length:Int) - 1)).toNat) 5))] Z Z $ rp Z (fC (e:=a7) (part:=fun a=>(I a.fKey)) Z Z Z (fun _=>rfl)) fun v6=>bd 9 [(62,(I v6.fKey)),(63,(Bo (decide (v6.fKey < 0)))),(64,(Bo (decide (v6.fKey < 0)))),(65,(Bo (decide (v6.fKey < 0))))] Z Z $ w8 (fun hc=>?_) fun hc=>?_
      ·rw [hc]
       refine rd 10 [(66,(sS a1))] Z Z $ rp Z (j7 (e:=V.str) Z Z Z underlying41 Z (by decide)) fun va=>bd 14 [(67,(Pr (Sr va))),(68,(Sr va)),(69,(Bo (va == ([85]:Str)))),(70,(Bo (va == ([85]:Str))))] Z Z $ w8 (fun hc=>?_) fun hc=>?_
       ·rw [hc]
        exact d8 Z
       ·rw [hc]
        exact rd 15 [(71,(sS a1))] Z Z $ rp Z (j7 (e:=V.str) Z Z Z underlying41 Z (by decide)) fun vb=>b7 Z
      ·rw [hc]
       exact d8 Z
     ·rw [hc]
      exact d8 Z
    refine kg FI Z (fun (o4:(List a6))=>(X5 o4 a0.fName a0.fKind a0.fIndexes (S4 a1 [(5,(V.ptr 0 (0+(sqW ((a0.fTypes.length:Int) - 1)).toNat) 0)),(8,(Bo o3))]))) ?_ fun o4=>?_
    ·refine rd 4 [(77,(V.ptr 0 (0+(sqW ((a0.fTypes.length:Int) - 1)).toNat) 0)),(78,(V.ptr 0 (0+(sqW ((a0.fTypes.length:Int) - 1)).toNat) 0)),(79,(V.ptr 0 (0+(sqW ((a0.fTypes.length:Int) - 1)).toNat) 0)),(80,(V.ptr 0 (0+(sqW ((a0.fTypes.length:Int) - 1)).toNat) 4))] Z Z $ rp Z (fC (e:=a7) (part:=fun a=>(j4 a.fFields)) Z Z Z (fun _=>rfl)) fun vc=>bd 5 [(81,(j4 vc.fFields))] Z Z $ rl Z (A8 (e:=d9) Z Z Z Z Z Z underlying50) $ bd 9 [(82,(I (vc.fFields.length:Int))),(83,(I (sqW ((vc.fFields.length:Int) - 1)))),(84,(V.ptr 0 (0+(sqW ((a0.fTypes.length:Int) - 1)).toNat) 0)),(85,(V.ptr 0 (0+(sqW ((a0.fTypes.length:Int) - 1)).toNat) 5))] Z Z $ et (z6 (x:=(o0[0+(sqW ((a0.fTypes.length:Int) - 1)).toNat]?)) (w:=fun vd=>(V.tup [],_)) Z Z Z Z (uu (S:=(fun n_=>⟨(S4 a1 [(5,(V.ptr 0 (0+(sqW ((a0.fTypes.length:Int) - 1)).toNat) 0)),(8,(Bo o3)),(77,(V.ptr 0 (0+(sqW ((a0.fTypes.length:Int) - 1)).toNat) 0)),(78,(V.ptr 0 (0+(sqW ((a0.fTypes.length:Int) - 1)).toNat) 0)),(79,(V.ptr 0 (0+(sqW ((a0.fTypes.length:Int) - 1)).toNat) 0)),(80,(V.ptr 0 (0+(sqW ((a0.fTypes.length:Int) - 1)).toNat) 4)),(81,(j4 vc.fFields)),(82,(I (vc.fFields.length:Int))),(83,(I (sqW ((vc.fFields.length:Int) - 1)))),(84,(V.ptr 0 (0+(sqW ((a0.fTypes.length:Int) - 1)).toNat) 0)),(85,(V.ptr 0 (0+(sqW ((a0.fTypes.length:Int) - 1)).toNat) 5))]),[(0,⟨true,8,List.map a7 o0⟩),(94,⟨false,4,[(V.agg [(Sr a0.fName),(I a0.fKind),(V.aref 0 0 n_),(V.sl 1 4 (List.map b8 a0.fIndexes))])]⟩)],94⟩)) (e:=a7) (l:=o0) (u:=(I (sqW ((vc.fFields.length:Int) - 1)))) (upd:=fun vd=>{ vd with fKey:=(sqW ((vc.fFields.length:Int) - 1)) }) Z Z Z Z Z Z Z Z Z Z (fun _=>rfl))) ?_
     exact j3 fun vd=>b7 Z
    refine kg Bj Z (fun (o5:(List a6))=>(X5 o5 a0.fName a0.fKind a0.fIndexes [(0,(Pt 94)),(8,(Bo o3))])) ?_ fun o5=>?_
    ·refine rd 2 [(86,(V.ptr 0 (0+(sqW ((a0.fTypes.length:Int) - 1)).toNat) 0)),(87,(sS a1))] Z Z $ rp Z (j7 (e:=V.str) Z Z Z underlying41 Z (by decide)) fun ve=>bd 7 [(88,(Pr (Sr ve))),(89,(Sr ve)),(90,(Bo (ve == ([85]:Str)))),(91,(V.ptr 0 (0+(sqW ((a0.fTypes.length:Int) - 1)).toNat) 0)),(92,(V.ptr 0 (0+(sqW ((a0.fTypes.length:Int) - 1)).toNat) 6))] Z Z $ et (z6 (x:=(o4[0+(sqW ((a0.fTypes.length:Int) - 1)).toNat]?)) (w:=fun vf=>(V.tup [],_)) Z Z Z Z (uu (S:=(fun n_=>⟨(S4 a1 [(5,(V.ptr 0 (0+(sqW ((a0.fTypes.length:Int) - 1)).toNat) 0)),(8,(Bo o3)),(86,(V.ptr 0 (0+(sqW ((a0.fTypes.length:Int) - 1)).toNat) 0)),(87,(sS a1)),(88,(Pr (Sr ve))),(89,(Sr ve)),(90,(Bo (ve == ([85]:Str)))),(91,(V.ptr 0 (0+(sqW ((a0.fTypes.length:Int) - 1)).toNat) 0)),(92,(V.ptr 0 (0+(sqW ((a0.fTypes.length:Int) - 1)).toNat) 6))]),[(0,⟨true,8,List.map a7 o4⟩),(94,⟨false,4,[(V.agg [(Sr a0.fName),(I a0.fKind),(V.aref 0 0 n_),(V.sl 1 4 (List.map b8 a0.fIndexes))])]⟩)],94⟩)) (e:=a7) (l:=o4) (u:=(Bo (ve == ([85]:Str)))) (upd:=fun vf=>{ vf with fUnique:=(ve == ([85]:Str)) }) Z Z Z Z Z Z Z Z Z Z (fun _=>rfl))) ?_
     exact j3 fun vf=>b7 Z
    refine krp Bk Z (mE a0.fName a0.fKind o5 a0.fIndexes [(4,(Bo o3))]) ?_ ?_
    ·exact rd 1 [(93,(Bo o3))] Z Z $ et (J9 (x:=some ()) (st1:=(X5 o5 a0.fName a0.fKind a0.fIndexes [(0,(Pt 94)),(8,(Bo o3)),(93,(Bo o3))])) (w:=fun _=>((Bo o3),(X5 o5 a0.fName a0.fKind a0.fIndexes [(0,(Pt 94)),(8,(Bo o3)),(93,(Bo o3))]))) (u:=fun _=>(mE a0.fName a0.fKind o5 a0.fIndexes [(0,(Pt 94)),(4,(Bo o3)),(8,(Bo o3)),(93,(Bo o3))])) Z Z Z Z Z Z Z Z (fun _=>gh1 Z (P7 Z Z Z Z Z))) $ et x9 $ d8 Z
    refine et l7 ?_
    rfl
def kE:Bool→V×List V:=fun r=>((Bo r),[])
theorem lS (k:Nat) (a0:a6) (a1:(List Str)):EV k 74 [(d7 a0),(Pr (sS a1))]=(S7 k a0 a1).map kE:=by
 cases k with
 | zero=>rfl
 | succ k=>
  unfold S7
  refine et (l9 (c:=f74c) (N:=10) (regs:=Jt) Z func74 Z (by decide) Z Z Z) $ kr ⟨(lA a1 []),[(2,vS 8 (d7 a0))],10⟩ rfl $ kd Gv Z (fun (o2:Bool)=>⟨[(3,(Bo o2))],[],10⟩) (et (k0 (p:=7) (dk:=true) (t:=(lA a1 [])) (σ:=[(2,vS 8 (d7 a0))]) (n:=10) Z (by decide) (by decide) Z) $ et (m8 (m:=3) (j:=3) (t':=(lA a1 [(4,(Pt 2)),(5,(Sr a0.fName)),(6,(sS a1))])) Z Z Z) $ et (b5 (x:=(idx a1 2)) (w:=fun v1=>(Pr (Sr v1))) Z Z Z Z Z (j7 (e:=V.str) Z Z Z underlying41 Z (by decide))) $ j3 fun v1=>u0 Z) fun o2=>et l7 ?_
  rfl
def kF:Bool→V×List V:=fun r=>((Bo r),[])
theorem lT (k:Nat) (a0:b6) (a1:(List Str)):EV k 76 [(d9 a0),(Pr (sS a1))]=(S8 k a0 a1).map kF:=by
 cases k with
 | zero=>rfl
 | succ k=>
  unfold S8
  refine et (l9 (c:=f76c) (N:=10) (regs:=Ju) Z func76 Z (by decide) Z Z Z) $ kr ⟨(lA a1 []),[(2,vS 3 (d9 a0))],10⟩ rfl $ kd Gz Z (fun (o2:Bool)=>⟨[(3,(Bo o2))],[],10⟩) (et (k0 (p:=7) (dk:=true) (t:=(lA a1 [])) (σ:=[(2,vS 3 (d9 a0))]) (n:=10) Z (by decide) (by decide) Z) $ et (m8 (m:=3) (j:=3) (t':=(lA a1 [(4,(Pt 2)),(5,(Sr a0.fName)),(6,(sS a1))])) Z Z Z) $ et (b5 (x:=(idx a1 3)) (w:=fun v1=>(Pr (Sr v1))) Z Z Z Z Z (j7 (e:=V.str) Z Z Z underlying41 Z (by decide))) $ j3 fun v1=>u0 Z) fun o2=>et l7 ?_
  rfl
def gv:Int→V×List V:=fun r=>(I r,[])
theorem bT (k:Nat) (s:Str) (n:Int):EV k 77 [(Sr s),(sqU n)]=(strings_IndexByte k s n).map gv:=by
 cases k with
 | zero=>rfl
 | succ k=>exact (aC (ext:=ext) (f:=77) Z).trans Z
def nB:(Bool×a8)→V×List V:=fun r=>((Bo r.1),[(V.io (V.agg [(Sr r.2.fName),(I r.2.fKind),(V.sl 3 8 (List.map a7 r.2.fTypes)),(V.sl 1 4 (List.map b8 r.2.fIndexes))]))])
theorem oJ (k:Nat) (a0:a8) (a1:(List Str)):EV k 48 [(V.io (V.agg [(Sr a0.fName),(I a0.fKind),(V.sl 3 8 (List.map a7 a0.fTypes)),(V.sl 1 4 (List.map b8 a0.fIndexes))])),(sS a1)]=(K6 k a0 a1).map nB:=by
 cases k with
 | zero=>rfl
 | succ k=>
  unfold K6
  refine et (l9 (c:=f48c) (N:=76) (regs:=Ja) Z func48 Z (by decide) Z Z Z) $ kr (tr a1 a0.fName a0.fKind a0.fTypes a0.fIndexes (jo [])) Z $ kg FJ Z (fun (o2:Int×(List a6))=>(aN o2.2 a1 a0.fName a0.fKind a0.fIndexes (jo [(5,(I o2.1))]))) (et (J9 (x:=some ()) (st1:=(aN a0.fTypes a1 a0.fName a0.fKind a0.fIndexes (jo []))) (w:=fun _=>((Pt 76),(aN a0.fTypes a1 a0.fName a0.fKind a0.fIndexes (jo [])))) (u:=fun _=>(aN a0.fTypes a1 a0.fName a0.fKind a0.fIndexes (jo [(10,(Pt 76))]))) Z Z Z Z Z Z Z Z (fun _=>rfl)) $ et x9 $ rd 5 [(11,(Pt 76)),(12,(V.ptr 76 0 2)),(13,(aL 0 a7 a0.fTypes)),(14,(V.fn 74 [] [(Pt 3)]))] Z Z $ rp Z (j9 Z Z Z Z (qH (BV (e:=a7) (e':=d7) (fun _=>rfl) Z) (by intro s i q h; cases h) (qH Z (by intro s i q h; cases h) Z)) (P0 k a0.fTypes (fun j x0=>(S7 j x0 a1)) 74 (sS a1) (fun j x0=>(lS j x0 a1))) (.inr (fun _=>rfl))) fun v1=>b7 Z) fun o2=>et d4 $ kra [(17,(Bo (decide (o2.1 < 0))))] Z $ kc Z Z (fun hc=>?_) fun hc=>?_
  ·rw [hc]
   refine et d4 $ krp FK Z (jV a0.fName a0.fKind o2.2 a0.fIndexes (dw [])) ?_ ?_
   ·exact et (J9 (x:=some ()) (st1:=(aN o2.2 a1 a0.fName a0.fKind a0.fIndexes (jo [(5,(I o2.1)),(17,(Bo true))]))) (w:=fun _=>((Bo false),(aN o2.2 a1 a0.fName a0.fKind a0.fIndexes (jo [(5,(I o2.1)),(17,(Bo true))])))) (u:=fun _=>(tr a1 a0.fName a0.fKind o2.2 a0.fIndexes (jo [(4,(Bo false)),(5,(I o2.1)),(17,(Bo true))]))) Z Z Z Z Z Z Z Z (fun _=>gh1 Z (P7 Z Z Z Z Z))) $ et x9 $ d8 Z
   refine et I4 ?_
   rfl
  ·rw [hc]
   refine et l6 $ kg FL Z (fun (o6:Int)=>(aN o2.2 a1 a0.fName a0.fKind a0.fIndexes (gj o2.1 o6 []))) (rd 5 [(18,(Pt 76)),(19,(Pt 76)),(20,(V.ptr 76 0 2)),(21,(aL 0 a7 o2.2)),(22,(I o2.1))] Z Z $ rp Z (de (e:=a7) Z Z Z underlying23 Z Z (by decide)) fun v3=>bd 7 [(23,(V.ptr 0 (0+o2.1.toNat) 0)),(24,(V.ptr 0 (0+o2.1.toNat) 4))] Z Z $ rp Z (fC (e:=a7) (part:=fun a=>(j4 a.fFields)) Z Z Z (fun _=>rfl)) fun v4=>bd 9 [(25,(j4 v4.fFields)),(26,(V.fn 76 [] [(Pt 3)]))] Z Z $ rs Z (j9 Z Z Z Z Z (W9 k v4.fFields (fun j x0=>(S8 j x0 a1)) 76 (sS a1) (fun j x0=>(lT j x0 a1))) (.inr (fun _=>rfl))) fun v5=>b7 Z) fun o6=>kra [(7,(Sr ([]:Str)))] Z $ et d4 $ kga FM Z (fun (o8:Bool)=>[(31,(Bo o8))]) (rd 1 [(28,(sS a1))] Z Z $ rp Z (j7 (e:=V.str) Z Z Z underlying41 Z (by decide)) fun v7=>b7 Z) fun o8=>kc Z Z (fun hc=>?_) fun hc=>?_
   ·rw [hc]
    refine et d4 $ et d4 $ kg FN Z (fun (o0:Bool)=>(aN o2.2 a1 a0.fName a0.fKind a0.fIndexes (gj o2.1 o6 [(36,(Bo o0))]))) (rd 1 [(32,(sS a1))] Z Z $ rp Z (j7 (e:=V.str) Z Z Z underlying41 Z (by decide)) fun v9=>b7 Z) fun o0=>kc Z Z (fun hc=>?_) fun hc=>?_
    ·rw [hc]
     refine et d4 $ krp FO Z (jV a0.fName a0.fKind o2.2 a0.fIndexes (dw [])) ?_ ?_
     ·exact et (J9 (x:=some ()) (st1:=(aN o2.2 a1 a0.fName a0.fKind a0.fIndexes (gj o2.1 o6 [(36,(Bo true))]))) (w:=fun _=>((Bo false),(aN o2.2 a1 a0.fName a0.fKind a0.fIndexes (gj o2.1 o6 [(36,(Bo true))])))) (u:=fun _=>(tr a1 a0.fName a0.fKind o2.2 a0.fIndexes (jo [(4,(Bo false)),(5,(I o2.1)),(6,(I o6)),(36,(Bo true))]))) Z Z Z Z Z Z Z Z (fun _=>gh1 Z (P7 Z Z Z Z Z))) $ et x9 $ d8 Z
     refine et I4 ?_
     rfl
    ·rw [hc]
     refine et l6 $ et d4 $ kd FP Z (fun (o1:Int×Int)=>(aN o2.2 a1 a0.fName a0.fKind a0.fIndexes (gj o2.1 o6 [(8,(I o1.1)),(9,(I o1.2))]))) (et (k0 (p:=12) (dk:=true) (t:=(gj o2.1 o6 [(36,(Bo false))])) (σ:=(JY o2.2 a1 a0.fName a0.fKind a0.fIndexes)) (n:=76) Z (by decide) (by decide) Z) $ et (m8 (m:=1) (j:=1) (t':=(gj o2.1 o6 [(36,(Bo false)),(37,(sS a1))])) Z Z Z) $ et (b5 (x:=(idx a1 4)) (w:=fun v0=>(Pr (Sr v0))) Z Z Z Z Z (j7 (e:=V.str) Z Z Z underlying41 Z (by decide))) $ j3 fun v0=>et (c8 (m:=1) (j:=3) (t':=(uK o2.1 o6 a1 v0 [])) Z Z Z) $ et (b5 (x:=(R2 v0 0)) (w:=fun v2=>(sqU v2)) Z Z Z Z Z (F0 Z Z Z underlying9)) $ j3 fun v2=>et (c8 (m:=0) (j:=4) (t':=(uK o2.1 o6 a1 v0 [(40,(sqU v2))])) Z Z Z) $ et (b5 (x:=(strings_IndexByte k ([48,49,50,51,52,53,54,55,56,57,97,98,99,100,101,102]:Str) v2)) (w:=fun v6=>(I v6)) Z Z Z Z Z (j9 Z Z Z Z Z (bT k ([48,49,50,51,52,53,54,55,56,57,97,98,99,100,101,102]:Str) v2) (.inl Z))) $ j3 fun v6=>et (c8 (m:=1) (j:=6) (t':=(uK o2.1 o6 a1 v0 [(40,(sqU v2)),(41,(I v6)),(42,(sS a1))])) Z Z Z) $ et (b5 (x:=(idx a1 4)) (w:=fun v8=>(Pr (Sr v8))) Z Z Z Z Z (j7 (e:=V.str) Z Z Z underlying41 Z (by decide))) $ j3 fun v8=>et (c8 (m:=1) (j:=8) (t':=(uK o2.1 o6 a1 v0 [(40,(sqU v2)),(41,(I v6)),(42,(sS a1)),(43,(Pr (Sr v8))),(44,(Sr v8))])) Z Z Z) $ et (b5 (x:=(R2 v8 1)) (w:=fun va=>(sqU va)) Z Z Z Z Z (F0 Z Z Z underlying9)) $ j3 fun va=>et (c8 (m:=0) (j:=9) (t':=(uK o2.1 o6 a1 v0 [(40,(sqU v2)),(41,(I v6)),(42,(sS a1)),(43,(Pr (Sr v8))),(44,(Sr v8)),(45,(sqU va))])) Z Z Z) $ et (b5 (x:=(strings_IndexByte k ([48,49,50,51,52,53,54,55,56,57,97,98,99,100,101,102]:Str) va)) (w:=fun vb=>(I vb)) Z Z Z Z Z (j9 Z Z Z Z Z (bT k ([48,49,50,51,52,53,54,55,56,57,97,98,99,100,101,102]:Str) va) (.inl Z))) $ j3 fun vb=>u0 Z) fun o1=>et d4 $ et d4 $ kga Bl Z (fun (o3:Bool)=>[(52,(Bo o3))]) ?_ fun o3=>?_
     ·refine rd 3 [(47,(I o1.1)),(48,(Bo (decide (o1.1 < 0)))),(49,(Bo (decide (o1.1 < 0))))] Z Z $ w8 (fun hc=>?_) fun hc=>?_
      ·rw [hc]
       exact d8 Z
      ·rw [hc]
       exact d8 Z
     refine kc Z Z (fun hc=>?_) fun hc=>?_
     ·rw [hc]
      refine et d4 $ krp Bm Z (jV a0.fName a0.fKind o2.2 a0.fIndexes (dw [])) ?_ ?_
      ·exact et (J9 (x:=some ()) (st1:=(aN o2.2 a1 a0.fName a0.fKind a0.fIndexes (gj o2.1 o6 [(8,(I o1.1)),(9,(I o1.2)),(52,(Bo true))]))) (w:=fun _=>((Bo false),(aN o2.2 a1 a0.fName a0.fKind a0.fIndexes (gj o2.1 o6 [(8,(I o1.1)),(9,(I o1.2)),(52,(Bo true))])))) (u:=fun _=>(tr a1 a0.fName a0.fKind o2.2 a0.fIndexes (jo [(4,(Bo false)),(5,(I o2.1)),(6,(I o6)),(8,(I o1.1)),(9,(I o1.2)),(52,(Bo true))]))) Z Z Z Z Z Z Z Z (fun _=>gh1 Z (P7 Z Z Z Z Z))) $ et x9 $ d8 Z
      refine et I4 ?_
      rfl
     ·rw [hc]
      refine et l6 $ kg Bn Z (fun (o4:Str)=>(aN o2.2 a1 a0.fName a0.fKind a0.fIndexes (gj o2.1 o6 [(7,(Sr o4))]))) (rd 1 [(53,(I o1.1))] Z Z $ rp Z (JQ Z Z Z) fun vc=>bd 6 [(54,(I vc)),(55,(I o1.2)),(56,(I (orI .i64 vc o1.2))),(57,(sqU (sqB (orI .i64 vc o1.2)))),(58,(V.sl 0 1 (List.map (sqU) ([(sqB (orI .i64 vc o1.2))]:List Int))))] Z Z $ rl Z (un (l:=([(sqB (orI .i64 vc o1.2))]:List Int)) Z Z underlying58 underlying9 underlying5) $ b7 Z) fun o4=>kd wx Z (fun (o5:(List b4))=>(mF o2.2 a0.fName a0.fKind o5 [(0,(Pt 76))])) (et (aM (by decide)) $ ra 6 6 ⟨(gj o2.1 o6 [(7,(Sr o4)),(60,(Pt 76)),(61,(Pt 76)),(62,(Pt 76)),(63,(V.ptr 76 0 3)),(64,(V.sl 1 4 (List.map b8 a0.fIndexes))),(65,(sS a1))]),[(0,⟨true,8,List.map a7 o2.2⟩),(3,vS 1 (sS a1)),(76,⟨false,4,[(V.agg [(Sr a0.fName),(I a0.fKind),(aL 0 a7 o2.2),(i8 a0.fIndexes)])]⟩)],76⟩ rfl Z Z $ rp Z (j7 (e:=V.str) Z Z Z underlying41 Z (by decide)) fun vd=>bd 13 [(66,(Pr (Sr vd))),(67,(Sr vd)),(68,(I o2.1)),(69,(I o6)),(70,(Sr o4)),(71,(b8 ({ fName:=vd,fType:=o2.1,fField:=o6,fSparse:=o4 }:b4))),(72,(i8 (([({ fName:=vd,fType:=o2.1,fField:=o6,fSparse:=o4 }:b4)]:List b4))))] Z Z $ et (z6 (x:=(app a0.fIndexes ([({ fName:=vd,fType:=o2.1,fField:=o6,fSparse:=o4 }:b4)]:List b4))) (w:=fun ve=>((V.sl 1 4 (List.map b8 ve)),_)) Z Z Z Z (ga (e:=b8) Z Z Z Z Z Z Z Z Z Z (by decide))) $ s8 fun ve=>b7 Z) fun o5=>krp wy Z (jV a0.fName a0.fKind o2.2 o5 [(4,(Bo true))]) ?_ ?_
      ·exact et (J9 (x:=some ()) (st1:=(mF o2.2 a0.fName a0.fKind o5 [(0,(Pt 76))])) (w:=fun _=>((Bo true),(mF o2.2 a0.fName a0.fKind o5 [(0,(Pt 76))]))) (u:=fun _=>(jV a0.fName a0.fKind o2.2 o5 [(0,(Pt 76)),(4,(Bo true))])) Z Z Z Z Z Z Z Z (fun _=>gh1 Z (P7 Z Z Z Z Z))) $ et x9 $ d8 Z
      refine et l7 ?_
      rfl
   ·rw [hc]
    refine et l6 $ kd wx Z (fun (o7:(List b4))=>(mF o2.2 a0.fName a0.fKind o7 [(0,(Pt 76))])) (et (aM (by decide)) $ ra 6 6 ⟨(gj o2.1 o6 [(7,(Sr ([]:Str))),(31,(Bo false)),(60,(Pt 76)),(61,(Pt 76)),(62,(Pt 76)),(63,(V.ptr 76 0 3)),(64,(V.sl 1 4 (List.map b8 a0.fIndexes))),(65,(sS a1))]),[(0,⟨true,8,List.map a7 o2.2⟩),(3,vS 1 (sS a1)),(76,⟨false,4,[(V.agg [(Sr a0.fName),(I a0.fKind),(aL 0 a7 o2.2),(i8 a0.fIndexes)])]⟩)],76⟩ rfl Z Z $ rp Z (j7 (e:=V.str) Z Z Z underlying41 Z (by decide)) fun vf=>bd 13 [(66,(Pr (Sr vf))),(67,(Sr vf)),(68,(I o2.1)),(69,(I o6)),(70,(Sr ([]:Str))),(71,(b8 ({ fName:=vf,fType:=o2.1,fField:=o6,fSparse:=([]:Str) }:b4))),(72,(i8 (([({ fName:=vf,fType:=o2.1,fField:=o6,fSparse:=([]:Str) }:b4)]:List b4))))] Z Z $ et (z6 (x:=(app a0.fIndexes ([({ fName:=vf,fType:=o2.1,fField:=o6,fSparse:=([]:Str) }:b4)]:List b4))) (w:=fun vg=>((V.sl 1 4 (List.map b8 vg)),_)) Z Z Z Z (ga (e:=b8) Z Z Z Z Z Z Z Z Z Z (by decide))) $ s8 fun vg=>b7 Z) fun o7=>krp wy Z (jV a0.fName a0.fKind o2.2 o7 [(4,(Bo true))]) ?_ ?_
    ·exact et (J9 (x:=some ()) (st1:=(mF o2.2 a0.fName a0.fKind o7 [(0,(Pt 76))])) (w:=fun _=>((Bo true),(mF o2.2 a0.fName a0.fKind o7 [(0,(Pt 76))]))) (u:=fun _=>(jV a0.fName a0.fKind o2.2 o7 [(0,(Pt 76)),(4,(Bo true))])) Z Z Z Z Z Z Z Z (fun _=>gh1 Z (P7 Z Z Z Z Z))) $ et x9 $ d8 Z
    refine et l7 ?_
    rfl
def tN:(Bool×a8)→V×List V:=fun r=>((Bo r.1),[(V.io (V.agg [(Sr r.2.fName),(I r.2.fKind),(V.sl 3 8 (List.map a7 r.2.fTypes)),(V.sl 1 4 (List.map b8 r.2.fIndexes))]))])
theorem wh (k:Nat) (a0:a8) (a1:(List Str)):EV k 25 [(V.io (V.agg [(Sr a0.fName),(I a0.fKind),(V.sl 3 8 (List.map a7 a0.fTypes)),(V.sl 1 4 (List.map b8 a0.fIndexes))])),(sS a1)]=(V7 k a0 a1).map tN:=by
 cases k with
 | zero=>rfl
 | succ k=>
  unfold V7
  refine et (l9 (c:=f25c) (N:=60) (regs:=IL) Z func25 Z (by decide) Z Z Z) $ kra [] Z $ et (l5 Z) $ kga Es Z (fun (o2:Bool)=>[(5,(Bo o2))]) ?_ fun o2=>?_
  ·refine rd 1 [(6,(sS a1))] Z Z $ rl Z (A8 (e:=V.str) Z Z Z Z Z Z underlying41) $ bd 4 [(7,(I (a1.length:Int))),(8,(Bo ((a1.length:Int) == 6))),(9,(Bo ((a1.length:Int) == 6)))] Z Z $ w8 (fun hc=>?_) fun hc=>?_
   ·rw [hc]
    refine rd 5 [(10,(sS a1))] Z Z $ rp Z (j7 (e:=V.str) Z Z Z underlying41 Z (by decide)) fun v1=>bd 10 [(11,(Pr (Sr v1))),(12,(Sr v1)),(13,(Bo (v1 == ([83,69,71,77]:Str)))),(14,(Bo (v1 == ([83,69,71,77]:Str)))),(15,(Bo (v1 == ([83,69,71,77]:Str))))] Z Z $ w8 (fun hc=>?_) fun hc=>?_
    ·rw [hc]
     exact rd 14 [(16,(Pt 60)),(17,(Pt 60)),(18,(V.ptr 60 0 3)),(19,(i8 a0.fIndexes))] Z Z $ rl Z (A8 (e:=b8) Z Z Z Z Z Z underlying24) $ b7 Z
    ·rw [hc]
     exact d8 Z
   ·rw [hc]
    exact d8 Z
  refine kcl Z Z (fun hc=>?_) fun hc=>?_
  ·rw [hc]
   refine kg Et Z (fun (o4:Bool×Str×Int×(List a6)×(List b4))=>(mG o4.2.1 o4.2.2.1 o4.2.2.2.1 o4.2.2.2.2 [(4,(Bo o4.1))])) (rd 2 [(23,(Pt 60)),(24,(sS a1))] Z Z $ et (z6 (x:=(ag k ({ fName:=a0.fName,fKind:=a0.fKind,fTypes:=a0.fTypes,fIndexes:=a0.fIndexes }:a8) a1)) (w:=fun (v3:(Bool×a8))=>((Bo v3.1),_)) Z Z Z Z (I5 (fr:=fun (v3:(Bool×a8))=>(Bo v3.1)) (fe:=fun (v3:(Bool×a8))=>(V.agg [(Sr v3.2.fName),(I v3.2.fKind),(V.sl 3 8 (List.map a7 v3.2.fTypes)),(V.sl 1 4 (List.map b8 v3.2.fIndexes))])) (fe':=fun (v3:(Bool×a8))=>(V.agg [(Sr v3.2.fName),(I v3.2.fKind),(V.sl 3 8 (List.map a7 v3.2.fTypes)),(V.sl 1 4 (List.map b8 v3.2.fIndexes))])) Z Z Z Z Z Z Z (si k ({ fName:=a0.fName,fKind:=a0.fKind,fTypes:=a0.fTypes,fIndexes:=a0.fIndexes }:a8) a1) (fun _=>rfl))) $ j3 fun v3=>b7 Z) fun o4=>et l7 $ et u6 ?_
   rfl
  ·rw [hc]
   refine kg Eu Z (fun (o6:Bool)=>(mG a0.fName a0.fKind a0.fTypes a0.fIndexes [(0,(Pt 60)),(1,(sS a1)),(26,(Bo o6))])) ?_ fun o6=>?_
   ·refine rd 1 [(27,(sS a1))] Z Z $ rl Z (A8 (e:=V.str) Z Z Z Z Z Z underlying41) $ bd 4 [(28,(I (a1.length:Int))),(29,(Bo ((a1.length:Int) == 5))),(30,(Bo ((a1.length:Int) == 5)))] Z Z $ w8 (fun hc=>?_) fun hc=>?_
    ·rw [hc]
     refine rd 5 [(31,(sS a1))] Z Z $ rp Z (j7 (e:=V.str) Z Z Z underlying41 Z (by decide)) fun v5=>bd 10 [(32,(Pr (Sr v5))),(33,(Sr v5)),(34,(Bo (v5 == ([70,73,69,76,68]:Str)))),(35,(Bo (v5 == ([70,73,69,76,68]:Str)))),(36,(Bo (v5 == ([70,73,69,76,68]:Str))))] Z Z $ w8 (fun hc=>?_) fun hc=>?_
     ·rw [hc]
      exact rd 14 [(37,(Pt 60)),(38,(Pt 60)),(39,(V.ptr 60 0 3)),(40,(i8 a0.fIndexes))] Z Z $ rl Z (A8 (e:=b8) Z Z Z Z Z Z underlying24) $ b7 Z
     ·rw [hc]
      exact d8 Z
    ·rw [hc]
     exact d8 Z
   refine kcl Z Z (fun hc=>?_) fun hc=>?_
   ·rw [hc]
    refine kg Ev Z (fun (o8:Bool×Str×Int×(List a6)×(List b4))=>(mG o8.2.1 o8.2.2.1 o8.2.2.2.1 o8.2.2.2.2 [(4,(Bo o8.1))])) (rd 2 [(44,(Pt 60)),(45,(sS a1))] Z Z $ et (z6 (x:=(N5 k ({ fName:=a0.fName,fKind:=a0.fKind,fTypes:=a0.fTypes,fIndexes:=a0.fIndexes }:a8) a1)) (w:=fun (v7:(Bool×a8))=>((Bo v7.1),_)) Z Z Z Z (I5 (fr:=fun (v7:(Bool×a8))=>(Bo v7.1)) (fe:=fun (v7:(Bool×a8))=>(V.agg [(Sr v7.2.fName),(I v7.2.fKind),(V.sl 3 8 (List.map a7 v7.2.fTypes)),(V.sl 1 4 (List.map b8 v7.2.fIndexes))])) (fe':=fun (v7:(Bool×a8))=>(V.agg [(Sr v7.2.fName),(I v7.2.fKind),(V.sl 3 8 (List.map a7 v7.2.fTypes)),(V.sl 1 4 (List.map b8 v7.2.fIndexes))])) Z Z Z Z Z Z Z (oI k ({ fName:=a0.fName,fKind:=a0.fKind,fTypes:=a0.fTypes,fIndexes:=a0.fIndexes }:a8) a1) (fun _=>rfl))) $ j3 fun v7=>b7 Z) fun o8=>et l7 $ et u6 ?_
    rfl
   ·rw [hc]
    refine kg Ew Z (fun (o0:Bool)=>(mG a0.fName a0.fKind a0.fTypes a0.fIndexes [(0,(Pt 60)),(1,(sS a1)),(47,(Bo o0))])) ?_ fun o0=>?_
    ·refine rd 1 [(48,(sS a1))] Z Z $ rl Z (A8 (e:=V.str) Z Z Z Z Z Z underlying41) $ bd 4 [(49,(I (a1.length:Int))),(50,(Bo ((a1.length:Int) == 5))),(51,(Bo ((a1.length:Int) == 5)))] Z Z $ w8 (fun hc=>?_) fun hc=>?_
     ·rw [hc]
      exact rd 5 [(52,(sS a1))] Z Z $ rp Z (j7 (e:=V.str) Z Z Z underlying41 Z (by decide)) fun v9=>b7 Z
     ·rw [hc]
      exact d8 Z
    refine kcl Z Z (fun hc=>?_) fun hc=>?_
    ·rw [hc]
     refine kg Ex Z (fun (o1:Bool×Str×Int×(List a6)×(List b4))=>(mG o1.2.1 o1.2.2.1 o1.2.2.2.1 o1.2.2.2.2 [(4,(Bo o1.1))])) (rd 2 [(57,(Pt 60)),(58,(sS a1))] Z Z $ et (z6 (x:=(K6 k ({ fName:=a0.fName,fKind:=a0.fKind,fTypes:=a0.fTypes,fIndexes:=a0.fIndexes }:a8) a1)) (w:=fun (v0:(Bool×a8))=>((Bo v0.1),_)) Z Z Z Z (I5 (fr:=fun (v0:(Bool×a8))=>(Bo v0.1)) (fe:=fun (v0:(Bool×a8))=>(V.agg [(Sr v0.2.fName),(I v0.2.fKind),(V.sl 3 8 (List.map a7 v0.2.fTypes)),(V.sl 1 4 (List.map b8 v0.2.fIndexes))])) (fe':=fun (v0:(Bool×a8))=>(V.agg [(Sr v0.2.fName),(I v0.2.fKind),(V.sl 3 8 (List.map a7 v0.2.fTypes)),(V.sl 1 4 (List.map b8 v0.2.fIndexes))])) Z Z Z Z Z Z Z (oJ k ({ fName:=a0.fName,fKind:=a0.fKind,fTypes:=a0.fTypes,fIndexes:=a0.fIndexes }:a8) a1) (fun _=>rfl))) $ j3 fun v0=>b7 Z) fun o1=>et l7 $ et u6 ?_
     rfl
    ·rw [hc]
     refine et w6 $ et j5 $ kr (mG a0.fName a0.fKind a0.fTypes a0.fIndexes (dw [])) Z $ et l7 ?_
     rfl
def mL:Str→V×List V:=fun r=>(Sr r,[])
theorem A3 (k:Nat) (n:Int):EV k 28 [(I n)]=(strconv_Itoa k n).map mL:=by
 cases k with
 | zero=>rfl
 | succ k=>exact (aC (ext:=ext) (f:=28) Z).trans Z
def mM:Str→V×List V:=fun r=>(Sr r,[])
theorem nO (k:Nat) (s:List Str) (n:Str):EV k 53 [(sS s),(Sr n)]=(strings_Join k s n).map mM:=by
 cases k with
 | zero=>rfl
 | succ k=>exact (aC (ext:=ext) (f:=53) Z).trans (oU s n)
def aV (s:Str):Str→V×List V:=fun r=>((V.tup [(I (s.length:Int)),V.nilif]),[(V.io (V.agg [V.tp 0 60,V.row 5 r]))])
theorem bo (k:Nat) (b:Str) (s:Str):EV k 52 [(V.io (V.agg [V.tp 0 60,V.row 5 b])),(Sr s)]=(F6 k b s).map (aV s):=by
 cases k with
 | zero=>rfl
 | succ k=>exact (aC (ext:=ext) (f:=52) Z).trans Z
def bS:Str→V×List V:=fun r=>(V.nilif,[(V.io (V.agg [V.tp 0 60,V.row 5 r]))])
theorem cj (k:Nat) (b:Str) (s:Int):EV k 54 [(V.io (V.agg [V.tp 0 60,V.row 5 b])),(sqU s)]=(H0 k b s).map (bS):=by
 cases k with
 | zero=>rfl
 | succ k=>exact (aC (ext:=ext) (f:=54) Z).trans Z
def sg:(Str)→V×List V:=fun r=>((.tup []),[(V.io (V.agg [V.tp 0 60,V.row 5 r]))])
theorem K7 (k:Nat) (a0:Str) (a1:(List Str)):EV k 27 [(V.io (V.agg [V.tp 0 60,V.row 5 a0])),(sS a1)]=(z8 k a0 a1).map sg:=by
 cases k with
 | zero=>rfl
 | succ k=>
  unfold z8
  refine et (l9 (c:=f27c) (N:=10) (regs:=IM) Z func27 Z (by decide) Z Z Z) $ kg EI Z (fun (o3:Str)=>⟨[(0,(Pt 10))],[(10,⟨false,2,[(V.agg [V.tp 10 60,V.row 5 o3])]⟩)],10⟩) (rd 2 [(4,(Pt 10)),(5,(sS a1))] Z Z $ rp Z (j9 Z Z Z Z Z (nO k a1 ([32]:Str)) (.inl Z)) fun v1=>bd 3 [(6,(Sr v1))] Z Z $ et (z6 (x:=(F6 k a0 v1)) (w:=fun (v2:Str)=>((V.tup [(I (v1.length:Int)),V.nilif]),_)) Z Z Z Z (I5 (fr:=fun (v2:Str)=>(V.tup [(I (v1.length:Int)),V.nilif])) (fe:=fun (v2:Str)=>(V.agg [V.tp 0 60,V.row 5 v2])) (fe':=fun (v2:Str)=>(V.agg [V.tp 10 60,V.row 5 v2])) Z Z Z Z Z Z Z (bo k a0 v1) (fun _=>rfl))) $ s8 fun v2=>b7 Z) fun o3=>kgl EJ Z (fun (o5:Str)=>⟨[],[(10,⟨false,2,[(V.agg [V.tp 10 60,V.row 5 o5])]⟩)],10⟩) (rd 1 [(8,(Pt 10))] Z Z $ et (z6 (x:=(H0 k o3 10)) (w:=fun (v4:Str)=>(V.nilif,_)) Z Z Z Z (I5 (fr:=fun (v4:Str)=>V.nilif) (fe:=fun (v4:Str)=>(V.agg [V.tp 0 60,V.row 5 v4])) (fe':=fun (v4:Str)=>(V.agg [V.tp 10 60,V.row 5 v4])) Z Z Z Z Z Z Z (cj k o3 10) (fun _=>rfl))) $ s8 fun v4=>b7 Z) fun o5=>?_
  first | rfl | (cases o5; simp only at hc; subst hc; rfl)
def dx:Str→V×List V:=fun r=>((Sr r),[(V.io (V.agg [V.tp 0 60,V.row 5 r]))])
theorem dA (k:Nat) (b:Str):EV k 29 [(V.io (V.agg [V.tp 0 60,V.row 5 b]))]=(K4 k b).map (dx):=by
 cases k with
 | zero=>rfl
 | succ k=>exact (aC (ext:=ext) (f:=29) Z).trans Z
def L7:(Str×Int)→V×List V:=fun r=>(.tup [(Sr r.1),(I r.2)],[])
theorem V6 (k:Nat) (a0:a8) (x0:Int) (o0:a6)  (K0:Int→Str→Option (Str×Int)) (Kst:X×St→Option (V×List V)) (hK0:∀ (y0:Int) (y1:Str),Kst (X.exit 2,⟨(aQ [(28,(i6 a0.fTypes)),(29,(I (a0.fTypes.length:Int))),(30,(I x0)),(59,(j4 o0.fFields)),(60,(I (o0.fFields.length:Int))),(61,(I y0)),(62,(Bo false))]),[(1,vS 4 (j8 a0)),(4,⟨false,2,[(V.agg [V.tp 4 60,V.row 5 y1])]⟩),(6,vS 8 (d7 o0))],133⟩)=(K0 y0 y1).map L7) (hret:∀ s,Kst (X.ret,s)=P5 prog 133 [(j8 a0)] [] [.tmp 2,.tmp 3] (X.ret,s)):
  ∀ (m:Nat) (x1:Int) (x2:Str),(L6 (C5 prog (EV k) f9n k JK) m ⟨(aQ [(28,(i6 a0.fTypes)),(29,(I (a0.fTypes.length:Int))),(30,(I x0)),(59,(j4 o0.fFields)),(60,(I (o0.fFields.length:Int))),(61,(I x1))]),[(1,vS 4 (j8 a0)),(4,⟨false,2,[(V.agg [V.tp 4 60,V.row 5 x2])]⟩),(6,vS 8 (d7 o0))],133⟩).bind Kst=(D8 k o0 K0 m x1 x2).map L7:=by
 intro m
 induction m with
 | zero=>intros; rfl
 | succ m ih=>
  intro x1 x2
  unfold D8
  refine et A6 $ kra [(62,(Bo (decide (x1 < (o0.fFields.length:Int)))))] Z $ kc Z Z (fun hc=>?_) fun hc=>?_
  ·rw [hc]
   refine et l6 $ et (l5 Z) $ kg GX Z (fun (o1:Int×b6)=>⟨(aQ [(9,(I o1.1)),(10,(Pt 10)),(28,(i6 a0.fTypes)),(29,(I (a0.fTypes.length:Int))),(30,(I x0)),(59,(j4 o0.fFields)),(60,(I (o0.fFields.length:Int))),(61,(I x1))]),[(1,vS 4 (j8 a0)),(4,⟨false,2,[(V.agg [V.tp 4 60,V.row 5 x2])]⟩),(6,vS 8 (d7 o0)),(10,vS 3 (d9 o1.2))],133⟩) (rd 1 [(63,(I x1))] Z Z $ rp Z (j7 (e:=d9) Z Z Z underlying50 Z (by decide)) fun v0=>b7 Z) fun o1=>kr ⟨(aQ [(9,(I o1.1)),(10,(Pt 10)),(11,(Sr ([45]:Str))),(28,(i6 a0.fTypes)),(29,(I (a0.fTypes.length:Int))),(30,(I x0)),(59,(j4 o0.fFields)),(60,(I (o0.fFields.length:Int))),(61,(I x1))]),[(1,vS 4 (j8 a0)),(4,⟨false,2,[(V.agg [V.tp 4 60,V.row 5 x2])]⟩),(6,vS 8 (d7 o0)),(10,vS 3 (d9 o1.2))],133⟩ rfl $ et d4 $ kr ⟨(dv [(11,(Sr ([45]:Str))),(28,(i6 a0.fTypes)),(29,(I (a0.fTypes.length:Int))),(30,(I x0)),(59,(j4 o0.fFields)),(60,(I (o0.fFields.length:Int))),(61,(I x1)),(69,(Bo (o1.1 == o0.fKey)))]),[(1,vS 4 (j8 a0)),(4,⟨false,2,[(V.agg [V.tp 4 60,V.row 5 x2])]⟩),(6,vS 8 (d7 o0)),(10,vS 3 (d9 o1.2))],133⟩ rfl $ kc Z Z (fun hc=>?_) fun hc=>?_
   ·rw [hc]
    refine et d4 $ kr ⟨(dv [(11,(Sr ([77]:Str))),(28,(i6 a0.fTypes)),(29,(I (a0.fTypes.length:Int))),(30,(I x0)),(59,(j4 o0.fFields)),(60,(I (o0.fFields.length:Int))),(61,(I x1))]),[(1,vS 4 (j8 a0)),(4,⟨false,2,[(V.agg [V.tp 4 60,V.row 5 x2])]⟩),(6,vS 8 (d7 o0)),(10,vS 3 (d9 o1.2))],133⟩ rfl $ et d4 $ kra [(71,(Bo o0.fUnique))] Z $ kc Z Z (fun hc=>?_) fun hc=>?_
    ·rw [hc]
     exact kr ⟨(dv [(11,(Sr ([85]:Str))),(28,(i6 a0.fTypes)),(29,(I (a0.fTypes.length:Int))),(30,(I x0)),(59,(j4 o0.fFields)),(60,(I (o0.fFields.length:Int))),(61,(I x1))]),[(1,vS 4 (j8 a0)),(4,⟨false,2,[(V.agg [V.tp 4 60,V.row 5 x2])]⟩),(6,vS 8 (d7 o0)),(10,vS 3 (d9 o1.2))],133⟩ rfl $ kdl xB Z (fun (o2:Str)=>⟨(aQ [(28,(i6 a0.fTypes)),(29,(I (a0.fTypes.length:Int))),(30,(I x0)),(59,(j4 o0.fFields)),(60,(I (o0.fFields.length:Int))),(61,(I x1))]),[(1,vS 4 (j8 a0)),(4,⟨false,2,[(V.agg [V.tp 4 60,V.row 5 o2])]⟩),(6,vS 8 (d7 o0))],133⟩) (et (k0 (p:=10) (dk:=true) (t:=(dv [(11,(Sr ([85]:Str))),(28,(i6 a0.fTypes)),(29,(I (a0.fTypes.length:Int))),(30,(I x0)),(59,(j4 o0.fFields)),(60,(I (o0.fFields.length:Int))),(61,(I x1))])) (σ:=[(1,vS 4 (j8 a0)),(4,⟨false,2,[(V.agg [V.tp 4 60,V.row 5 x2])]⟩),(6,vS 8 (d7 o0)),(10,vS 3 (d9 o1.2))]) (n:=133) Z (by decide) (by decide) Z) $ et (m8 (m:=4) (j:=4) (t':=(dv [(11,(Sr ([85]:Str))),(28,(i6 a0.fTypes)),(29,(I (a0.fTypes.length:Int))),(30,(I x0)),(59,(j4 o0.fFields)),(60,(I (o0.fFields.length:Int))),(61,(I x1)),(72,(Pt 10)),(73,(Sr o1.2.fName)),(74,(V.ptr 10 0 1)),(75,(I o1.2.fAt))])) Z Z Z) $ et (b5 (x:=(strconv_Itoa k o1.2.fAt)) (w:=fun v1=>(Sr v1)) Z Z Z Z Z (j9 Z Z Z Z Z (A3 k o1.2.fAt) (.inl Z))) $ j3 fun v1=>et (c8 (m:=2) (j:=7) (t':=(dv [(11,(Sr ([85]:Str))),(28,(i6 a0.fTypes)),(29,(I (a0.fTypes.length:Int))),(30,(I x0)),(59,(j4 o0.fFields)),(60,(I (o0.fFields.length:Int))),(61,(I x1)),(72,(Pt 10)),(73,(Sr o1.2.fName)),(74,(V.ptr 10 0 1)),(75,(I o1.2.fAt)),(76,(Sr v1)),(77,(V.ptr 10 0 2)),(78,(I o1.2.fBytes))])) Z Z Z) $ et (b5 (x:=(strconv_Itoa k o1.2.fBytes)) (w:=fun v2=>(Sr v2)) Z Z Z Z Z (j9 Z Z Z Z Z (A3 k o1.2.fBytes) (.inl Z))) $ j3 fun v2=>et (Y3 (m:=0) (j:=10) (st':=⟨(dv [(11,(Sr ([85]:Str))),(28,(i6 a0.fTypes)),(29,(I (a0.fTypes.length:Int))),(30,(I x0)),(59,(j4 o0.fFields)),(60,(I (o0.fFields.length:Int))),(61,(I x1)),(72,(Pt 10)),(73,(Sr o1.2.fName)),(74,(V.ptr 10 0 1)),(75,(I o1.2.fAt)),(76,(Sr v1)),(77,(V.ptr 10 0 2)),(78,(I o1.2.fBytes)),(79,(Sr v2)),(80,(Sr ([85]:Str))),(81,(sS (([([70,73,69,76,68]:Str),o1.2.fName,v1,v2,([85]:Str)]:List Str))))]),[(1,vS 4 (j8 a0)),(4,⟨false,2,[(V.agg [V.tp 4 60,V.row 5 x2])]⟩),(6,vS 8 (d7 o0)),(10,vS 3 (d9 o1.2))],133⟩) Z Z Z) $ et (z6 (x:=(z8 k x2 ([([70,73,69,76,68]:Str),o1.2.fName,v1,v2,([85]:Str)]:List Str))) (w:=fun (v3:(Str))=>((V.tup []),_)) Z Z Z Z (I5 (fr:=fun (v3:(Str))=>(V.tup [])) (fe:=fun (v3:(Str))=>(V.agg [V.tp 0 60,V.row 5 v3])) (fe':=fun (v3:(Str))=>(V.agg [V.tp 4 60,V.row 5 v3])) Z Z Z Z Z Z Z (K7 k x2 ([([70,73,69,76,68]:Str),o1.2.fName,v1,v2,([85]:Str)]:List Str)) (fun _=>rfl))) $ s8 fun v3=>b7 Z) fun o2=>et j5 $ kl ⟨(aQ [(28,(i6 a0.fTypes)),(29,(I (a0.fTypes.length:Int))),(30,(I x0)),(59,(j4 o0.fFields)),(60,(I (o0.fFields.length:Int))),(61,(I (sqW (x1+1))))]),[(1,vS 4 (j8 a0)),(4,⟨false,2,[(V.agg [V.tp 4 60,V.row 5 o2])]⟩),(6,vS 8 (d7 o0))],133⟩ rfl $ et j6 $ ih (sqW (x1+1)) o2
    ·rw [hc]
     exact et l6 $ kdl xB Z (fun (o3:Str)=>⟨(aQ [(28,(i6 a0.fTypes)),(29,(I (a0.fTypes.length:Int))),(30,(I x0)),(59,(j4 o0.fFields)),(60,(I (o0.fFields.length:Int))),(61,(I x1))]),[(1,vS 4 (j8 a0)),(4,⟨false,2,[(V.agg [V.tp 4 60,V.row 5 o3])]⟩),(6,vS 8 (d7 o0))],133⟩) (et (k0 (p:=10) (dk:=true) (t:=(dv [(11,(Sr ([77]:Str))),(28,(i6 a0.fTypes)),(29,(I (a0.fTypes.length:Int))),(30,(I x0)),(59,(j4 o0.fFields)),(60,(I (o0.fFields.length:Int))),(61,(I x1)),(71,(Bo false))])) (σ:=[(1,vS 4 (j8 a0)),(4,⟨false,2,[(V.agg [V.tp 4 60,V.row 5 x2])]⟩),(6,vS 8 (d7 o0)),(10,vS 3 (d9 o1.2))]) (n:=133) Z (by decide) (by decide) Z) $ et (m8 (m:=4) (j:=4) (t':=(dv [(11,(Sr ([77]:Str))),(28,(i6 a0.fTypes)),(29,(I (a0.fTypes.length:Int))),(30,(I x0)),(59,(j4 o0.fFields)),(60,(I (o0.fFields.length:Int))),(61,(I x1)),(71,(Bo false)),(72,(Pt 10)),(73,(Sr o1.2.fName)),(74,(V.ptr 10 0 1)),(75,(I o1.2.fAt))])) Z Z Z) $ et (b5 (x:=(strconv_Itoa k o1.2.fAt)) (w:=fun v4=>(Sr v4)) Z Z Z Z Z (j9 Z Z Z Z Z (A3 k o1.2.fAt) (.inl Z))) $ j3 fun v4=>et (c8 (m:=2) (j:=7) (t':=(dv [(11,(Sr ([77]:Str))),(28,(i6 a0.fTypes)),(29,(I (a0.fTypes.length:Int))),(30,(I x0)),(59,(j4 o0.fFields)),(60,(I (o0.fFields.length:Int))),(61,(I x1)),(71,(Bo false)),(72,(Pt 10)),(73,(Sr o1.2.fName)),(74,(V.ptr 10 0 1)),(75,(I o1.2.fAt)),(76,(Sr v4)),(77,(V.ptr 10 0 2)),(78,(I o1.2.fBytes))])) Z Z Z) $ et (b5 (x:=(strconv_Itoa k o1.2.fBytes)) (w:=fun v5=>(Sr v5)) Z Z Z Z Z (j9 Z Z Z Z Z (A3 k o1.2.fBytes) (.inl Z))) $ j3 fun v5=>et (Y3 (m:=0) (j:=10) (st':=⟨(dv [(11,(Sr ([77]:Str))),(28,(i6 a0.fTypes)),(29,(I (a0.fTypes.length:Int))),(30,(I x0)),(59,(j4 o0.fFields)),(60,(I (o0.fFields.length:Int))),(61,(I x1)),(71,(Bo false)),(72,(Pt 10)),(73,(Sr o1.2.fName)),(74,(V.ptr 10 0 1)),(75,(I o1.2.fAt)),(76,(Sr v4)),(77,(V.ptr 10 0 2)),(78,(I o1.2.fBytes)),(79,(Sr v5)),(80,(Sr ([77]:Str))),(81,(sS (([([70,73,69,76,68]:Str),o1.2.fName,v4,v5,([77]:Str)]:List Str))))]),[(1,vS 4 (j8 a0)),(4,⟨false,2,[(V.agg [V.tp 4 60,V.row 5 x2])]⟩),(6,vS 8 (d7 o0)),(10,vS 3 (d9 o1.2))],133⟩) Z Z Z) $ et (z6 (x:=(z8 k x2 ([([70,73,69,76,68]:Str),o1.2.fName,v4,v5,([77]:Str)]:List Str))) (w:=fun (v6:(Str))=>((V.tup []),_)) Z Z Z Z (I5 (fr:=fun (v6:(Str))=>(V.tup [])) (fe:=fun (v6:(Str))=>(V.agg [V.tp 0 60,V.row 5 v6])) (fe':=fun (v6:(Str))=>(V.agg [V.tp 4 60,V.row 5 v6])) Z Z Z Z Z Z Z (K7 k x2 ([([70,73,69,76,68]:Str),o1.2.fName,v4,v5,([77]:Str)]:List Str)) (fun _=>rfl))) $ s8 fun v6=>b7 Z) fun o3=>et j5 $ kl ⟨(aQ [(28,(i6 a0.fTypes)),(29,(I (a0.fTypes.length:Int))),(30,(I x0)),(59,(j4 o0.fFields)),(60,(I (o0.fFields.length:Int))),(61,(I (sqW (x1+1))))]),[(1,vS 4 (j8 a0)),(4,⟨false,2,[(V.agg [V.tp 4 60,V.row 5 o3])]⟩),(6,vS 8 (d7 o0))],133⟩ rfl $ et j6 $ ih (sqW (x1+1)) o3
   ·rw [hc]
    exact et l6 $ kdl xB Z (fun (o4:Str)=>⟨(aQ [(28,(i6 a0.fTypes)),(29,(I (a0.fTypes.length:Int))),(30,(I x0)),(59,(j4 o0.fFields)),(60,(I (o0.fFields.length:Int))),(61,(I x1))]),[(1,vS 4 (j8 a0)),(4,⟨false,2,[(V.agg [V.tp 4 60,V.row 5 o4])]⟩),(6,vS 8 (d7 o0))],133⟩) (et (k0 (p:=10) (dk:=true) (t:=(dv [(11,(Sr ([45]:Str))),(28,(i6 a0.fTypes)),(29,(I (a0.fTypes.length:Int))),(30,(I x0)),(59,(j4 o0.fFields)),(60,(I (o0.fFields.length:Int))),(61,(I x1)),(69,(Bo false))])) (σ:=[(1,vS 4 (j8 a0)),(4,⟨false,2,[(V.agg [V.tp 4 60,V.row 5 x2])]⟩),(6,vS 8 (d7 o0)),(10,vS 3 (d9 o1.2))]) (n:=133) Z (by decide) (by decide) Z) $ et (m8 (m:=4) (j:=4) (t':=(dv [(11,(Sr ([45]:Str))),(28,(i6 a0.fTypes)),(29,(I (a0.fTypes.length:Int))),(30,(I x0)),(59,(j4 o0.fFields)),(60,(I (o0.fFields.length:Int))),(61,(I x1)),(69,(Bo false)),(72,(Pt 10)),(73,(Sr o1.2.fName)),(74,(V.ptr 10 0 1)),(75,(I o1.2.fAt))])) Z Z Z) $ et (b5 (x:=(strconv_Itoa k o1.2.fAt)) (w:=fun v7=>(Sr v7)) Z Z Z Z Z (j9 Z Z Z Z Z (A3 k o1.2.fAt) (.inl Z))) $ j3 fun v7=>et (c8 (m:=2) (j:=7) (t':=(dv [(11,(Sr ([45]:Str))),(28,(i6 a0.fTypes)),(29,(I (a0.fTypes.length:Int))),(30,(I x0)),(59,(j4 o0.fFields)),(60,(I (o0.fFields.length:Int))),(61,(I x1)),(69,(Bo false)),(72,(Pt 10)),(73,(Sr o1.2.fName)),(74,(V.ptr 10 0 1)),(75,(I o1.2.fAt)),(76,(Sr v7)),(77,(V.ptr 10 0 2)),(78,(I o1.2.fBytes))])) Z Z Z) $ et (b5 (x:=(strconv_Itoa k o1.2.fBytes)) (w:=fun v8=>(Sr v8)) Z Z Z Z Z (j9 Z Z Z Z Z (A3 k o1.2.fBytes) (.inl Z))) $ j3 fun v8=>et (Y3 (m:=0) (j:=10) (st':=⟨(dv [(11,(Sr ([45]:Str))),(28,(i6 a0.fTypes)),(29,(I (a0.fTypes.length:Int))),(30,(I x0)),(59,(j4 o0.fFields)),(60,(I (o0.fFields.length:Int))),(61,(I x1)),(69,(Bo false)),(72,(Pt 10)),(73,(Sr o1.2.fName)),(74,(V.ptr 10 0 1)),(75,(I o1.2.fAt)),(76,(Sr v7)),(77,(V.ptr 10 0 2)),(78,(I o1.2.fBytes)),(79,(Sr v8)),(80,(Sr ([45]:Str))),(81,(sS (([([70,73,69,76,68]:Str),o1.2.fName,v7,v8,([45]:Str)]:List Str))))]),[(1,vS 4 (j8 a0)),(4,⟨false,2,[(V.agg [V.tp 4 60,V.row 5 x2])]⟩),(6,vS 8 (d7 o0)),(10,vS 3 (d9 o1.2))],133⟩) Z Z Z) $ et (z6 (x:=(z8 k x2 ([([70,73,69,76,68]:Str),o1.2.fName,v7,v8,([45]:Str)]:List Str))) (w:=fun (v9:(Str))=>((V.tup []),_)) Z Z Z Z (I5 (fr:=fun (v9:(Str))=>(V.tup [])) (fe:=fun (v9:(Str))=>(V.agg [V.tp 0 60,V.row 5 v9])) (fe':=fun (v9:(Str))=>(V.agg [V.tp 4 60,V.row 5 v9])) Z Z Z Z Z Z Z (K7 k x2 ([([70,73,69,76,68]:Str),o1.2.fName,v7,v8,([45]:Str)]:List Str)) (fun _=>rfl))) $ s8 fun v9=>b7 Z) fun o4=>et j5 $ kl ⟨(aQ [(28,(i6 a0.fTypes)),(29,(I (a0.fTypes.length:Int))),(30,(I x0)),(59,(j4 o0.fFields)),(60,(I (o0.fFields.length:Int))),(61,(I (sqW (x1+1))))]),[(1,vS 4 (j8 a0)),(4,⟨false,2,[(V.agg [V.tp 4 60,V.row 5 o4])]⟩),(6,vS 8 (d7 o0))],133⟩ rfl $ et j6 $ ih (sqW (x1+1)) o4
  ·rw [hc]
   exact et C1 $ et s5 $ hK0 x1 x2
theorem lO (k:Nat) (a0:a8)  (K0:Int→Str→Option (Str×Int)) (Kst:X×St→Option (V×List V)) (hK0:∀ (y0:Int) (y1:Str),Kst (X.exit 0,⟨(aP [(28,(i6 a0.fTypes)),(29,(I (a0.fTypes.length:Int))),(30,(I y0)),(31,(Bo false))]),[(1,vS 4 (j8 a0)),(4,⟨false,2,[(V.agg [V.tp 4 60,V.row 5 y1])]⟩)],133⟩)=(K0 y0 y1).map L7) (hret:∀ s,Kst (X.ret,s)=P5 prog 133 [(j8 a0)] [] [.tmp 2,.tmp 3] (X.ret,s)):
  ∀ (m:Nat) (x0:Int) (x1:Str),(L6 (C5 prog (EV k) f9n k JL) m ⟨(aP [(28,(i6 a0.fTypes)),(29,(I (a0.fTypes.length:Int))),(30,(I x0))]),[(1,vS 4 (j8 a0)),(4,⟨false,2,[(V.agg [V.tp 4 60,V.row 5 x1])]⟩)],133⟩).bind Kst=(E9 k a0 K0 m x0 x1).map L7:=by
 intro m
 induction m with
 | zero=>intros; rfl
 | succ m ih=>
  intro x0 x1
  unfold E9
  refine et A6 $ kra [(31,(Bo (decide (x0 < (a0.fTypes.length:Int)))))] Z $ kc Z Z (fun hc=>?_) fun hc=>?_
  ·rw [hc]
   refine et l6 $ et (l5 Z) $ kg JJ Z (fun (o0:a6)=>⟨(aQ [(28,(i6 a0.fTypes)),(29,(I (a0.fTypes.length:Int))),(30,(I x0))]),[(1,vS 4 (j8 a0)),(4,⟨false,2,[(V.agg [V.tp 4 60,V.row 5 x1])]⟩),(6,vS 8 (d7 o0))],133⟩) (rs Z (j7 (e:=d7) Z Z Z underlying23 Z (by decide)) fun v0=>b7 Z) fun o0=>kr ⟨(im [(8,(Sr ([70]:Str))),(28,(i6 a0.fTypes)),(29,(I (a0.fTypes.length:Int))),(30,(I x0))]),[(1,vS 4 (j8 a0)),(4,⟨false,2,[(V.agg [V.tp 4 60,V.row 5 x1])]⟩),(6,vS 8 (d7 o0))],133⟩ rfl $ et d4 $ kra [(36,(Bo (decide (o0.fParent ≥ 0))))] Z $ kc Z Z (fun hc=>?_) fun hc=>?_
   ·rw [hc]
    refine kg GW Z (fun (o1:Str)=>⟨(uM o1 [(28,(i6 a0.fTypes)),(29,(I (a0.fTypes.length:Int))),(30,(I x0))]),[(1,vS 4 (j8 a0)),(4,⟨false,2,[(V.agg [V.tp 4 60,V.row 5 x1])]⟩),(6,vS 8 (d7 o0))],133⟩) (rd 4 [(37,(V.ptr 1 0 2)),(38,(i6 a0.fTypes)),(39,(V.ptr 6 0 1)),(40,(I o0.fParent))] Z Z $ rp Z (j7 (e:=d7) Z Z Z underlying23 Z (by decide)) fun v1=>b7 Z) fun o1=>et d4 $ kra [(45,(Bo o0.fLast))] Z $ kc Z Z (fun hc=>?_) fun hc=>?_
    ·rw [hc]
     refine kr ⟨(uN o1 [(28,(i6 a0.fTypes)),(29,(I (a0.fTypes.length:Int))),(30,(I x0))]),[(1,vS 4 (j8 a0)),(4,⟨false,2,[(V.agg [V.tp 4 60,V.row 5 x1])]⟩),(6,vS 8 (d7 o0))],133⟩ rfl $ kd tV Z (fun (o2:Str)=>⟨(aQ [(28,(i6 a0.fTypes)),(29,(I (a0.fTypes.length:Int))),(30,(I x0))]),[(1,vS 4 (j8 a0)),(4,⟨false,2,[(V.agg [V.tp 4 60,V.row 5 o2])]⟩),(6,vS 8 (d7 o0))],133⟩) (et (k0 (p:=11) (dk:=true) (t:=(uN o1 [(28,(i6 a0.fTypes)),(29,(I (a0.fTypes.length:Int))),(30,(I x0))])) (σ:=[(1,vS 4 (j8 a0)),(4,⟨false,2,[(V.agg [V.tp 4 60,V.row 5 x1])]⟩),(6,vS 8 (d7 o0))]) (n:=133) Z (by decide) (by decide) Z) $ et (m8 (m:=5) (j:=5) (t':=(uN o1 [(28,(i6 a0.fTypes)),(29,(I (a0.fTypes.length:Int))),(30,(I x0)),(46,(Pt 6)),(47,(Sr o0.fName)),(48,(Sr o1)),(49,(V.ptr 6 0 2)),(50,(I o0.fMin))])) Z Z Z) $ et (b5 (x:=(strconv_Itoa k o0.fMin)) (w:=fun v2=>(Sr v2)) Z Z Z Z Z (j9 Z Z Z Z Z (A3 k o0.fMin) (.inl Z))) $ j3 fun v2=>et (c8 (m:=2) (j:=8) (t':=(uN o1 [(28,(i6 a0.fTypes)),(29,(I (a0.fTypes.length:Int))),(30,(I x0)),(46,(Pt 6)),(47,(Sr o0.fName)),(48,(Sr o1)),(49,(V.ptr 6 0 2)),(50,(I o0.fMin)),(51,(Sr v2)),(52,(V.ptr 6 0 3)),(53,(I o0.fSize))])) Z Z Z) $ et (b5 (x:=(strconv_Itoa k o0.fSize)) (w:=fun v3=>(Sr v3)) Z Z Z Z Z (j9 Z Z Z Z Z (A3 k o0.fSize) (.inl Z))) $ j3 fun v3=>et (Y3 (m:=0) (j:=11) (st':=⟨(uN o1 [(28,(i6 a0.fTypes)),(29,(I (a0.fTypes.length:Int))),(30,(I x0)),(46,(Pt 6)),(47,(Sr o0.fName)),(48,(Sr o1)),(49,(V.ptr 6 0 2)),(50,(I o0.fMin)),(51,(Sr v2)),(52,(V.ptr 6 0 3)),(53,(I o0.fSize)),(54,(Sr v3)),(55,(Sr ([76]:Str))),(56,(sS (([([83,69,71,77]:Str),o0.fName,o1,v2,v3,([76]:Str)]:List Str))))]),[(1,vS 4 (j8 a0)),(4,⟨false,2,[(V.agg [V.tp 4 60,V.row 5 x1])]⟩),(6,vS 8 (d7 o0))],133⟩) Z Z Z) $ et (z6 (x:=(z8 k x1 ([([83,69,71,77]:Str),o0.fName,o1,v2,v3,([76]:Str)]:List Str))) (w:=fun (v4:(Str))=>((V.tup []),_)) Z Z Z Z (I5 (fr:=fun (v4:(Str))=>(V.tup [])) (fe:=fun (v4:(Str))=>(V.agg [V.tp 0 60,V.row 5 v4])) (fe':=fun (v4:(Str))=>(V.agg [V.tp 4 60,V.row 5 v4])) Z Z Z Z Z Z Z (K7 k x1 ([([83,69,71,77]:Str),o0.fName,o1,v2,v3,([76]:Str)]:List Str)) (fun _=>rfl))) $ s8 fun v4=>b7 Z) fun o2=>krp tW Z ⟨(aQ [(28,(i6 a0.fTypes)),(29,(I (a0.fTypes.length:Int))),(30,(I x0)),(59,(j4 o0.fFields)),(60,(I (o0.fFields.length:Int))),(61,(I 0))]),[(1,vS 4 (j8 a0)),(4,⟨false,2,[(V.agg [V.tp 4 60,V.row 5 o2])]⟩),(6,vS 8 (d7 o0))],133⟩ ?_ ?_
     ·exact rd 2 [(58,(V.ptr 6 0 4)),(59,(j4 o0.fFields))] Z Z $ rl Z (A8 (e:=d9) Z Z Z Z Z Z underlying50) $ b7 Z
     refine et (Q0 Z) $ et B0 ?_
     refine V6 k a0 x0 o0 _ _ ?h_dbd_Format_L2_0 ?hr_dbd_Format_L2 k 0 o2
     ·intro y2 y3
      exact et r9 $ et w6 $ et j5 $ kl ⟨(aP [(28,(i6 a0.fTypes)),(29,(I (a0.fTypes.length:Int))),(30,(I (sqW (x0+1))))]),[(1,vS 4 (j8 a0)),(4,⟨false,2,[(V.agg [V.tp 4 60,V.row 5 y3])]⟩)],133⟩ rfl $ et j6 $ ih (sqW (x0+1)) y3
     ·intro s; exact hret s
    ·rw [hc]
     refine et l6 $ kd tV Z (fun (o3:Str)=>⟨(aQ [(28,(i6 a0.fTypes)),(29,(I (a0.fTypes.length:Int))),(30,(I x0))]),[(1,vS 4 (j8 a0)),(4,⟨false,2,[(V.agg [V.tp 4 60,V.row 5 o3])]⟩),(6,vS 8 (d7 o0))],133⟩) (et (k0 (p:=11) (dk:=true) (t:=(uM o1 [(28,(i6 a0.fTypes)),(29,(I (a0.fTypes.length:Int))),(30,(I x0)),(45,(Bo false))])) (σ:=[(1,vS 4 (j8 a0)),(4,⟨false,2,[(V.agg [V.tp 4 60,V.row 5 x1])]⟩),(6,vS 8 (d7 o0))]) (n:=133) Z (by decide) (by decide) Z) $ et (m8 (m:=5) (j:=5) (t':=(uM o1 [(28,(i6 a0.fTypes)),(29,(I (a0.fTypes.length:Int))),(30,(I x0)),(45,(Bo false)),(46,(Pt 6)),(47,(Sr o0.fName)),(48,(Sr o1)),(49,(V.ptr 6 0 2)),(50,(I o0.fMin))])) Z Z Z) $ et (b5 (x:=(strconv_Itoa k o0.fMin)) (w:=fun v5=>(Sr v5)) Z Z Z Z Z (j9 Z Z Z Z Z (A3 k o0.fMin) (.inl Z))) $ j3 fun v5=>et (c8 (m:=2) (j:=8) (t':=(uM o1 [(28,(i6 a0.fTypes)),(29,(I (a0.fTypes.length:Int))),(30,(I x0)),(45,(Bo false)),(46,(Pt 6)),(47,(Sr o0.fName)),(48,(Sr o1)),(49,(V.ptr 6 0 2)),(50,(I o0.fMin)),(51,(Sr v5)),(52,(V.ptr 6 0 3)),(53,(I o0.fSize))])) Z Z Z) $ et (b5 (x:=(strconv_Itoa k o0.fSize)) (w:=fun v6=>(Sr v6)) Z Z Z Z Z (j9 Z Z Z Z Z (A3 k o0.fSize) (.inl Z))) $ j3 fun v6=>et (Y3 (m:=0) (j:=11) (st':=⟨(uM o1 [(28,(i6 a0.fTypes)),(29,(I (a0.fTypes.length:Int))),(30,(I x0)),(45,(Bo false)),(46,(Pt 6)),(47,(Sr o0.fName)),(48,(Sr o1)),(49,(V.ptr 6 0 2)),(50,(I o0.fMin)),(51,(Sr v5)),(52,(V.ptr 6 0 3)),(53,(I o0.fSize)),(54,(Sr v6)),(55,(Sr ([70]:Str))),(56,(sS (([([83,69,71,77]:Str),o0.fName,o1,v5,v6,([70]:Str)]:List Str))))]),[(1,vS 4 (j8 a0)),(4,⟨false,2,[(V.agg [V.tp 4 60,V.row 5 x1])]⟩),(6,vS 8 (d7 o0))],133⟩) Z Z Z) $ et (z6 (x:=(z8 k x1 ([([83,69,71,77]:Str),o0.fName,o1,v5,v6,([70]:Str)]:List Str))) (w:=fun (v7:(Str))=>((V.tup []),_)) Z Z Z Z (I5 (fr:=fun (v7:(Str))=>(V.tup [])) (fe:=fun (v7:(Str))=>(V.agg [V.tp 0 60,V.row 5 v7])) (fe':=fun (v7:(Str))=>(V.agg [V.tp 4 60,V.row 5 v7])) Z Z Z Z Z Z Z (K7 k x1 ([([83,69,71,77]:Str),o0.fName,o1,v5,v6,([70]:Str)]:List Str)) (fun _=>rfl))) $ s8 fun v7=>b7 Z) fun o3=>krp tW Z ⟨(aQ [(28,(i6 a0.fTypes)),(29,(I (a0.fTypes.length:Int))),(30,(I x0)),(59,(j4 o0.fFields)),(60,(I (o0.fFields.length:Int))),(61,(I 0))]),[(1,vS 4 (j8 a0)),(4,⟨false,2,[(V.agg [V.tp 4 60,V.row 5 o3])]⟩),(6,vS 8 (d7 o0))],133⟩ ?_ ?_
     ·exact rd 2 [(58,(V.ptr 6 0 4)),(59,(j4 o0.fFields))] Z Z $ rl Z (A8 (e:=d9) Z Z Z Z Z Z underlying50) $ b7 Z
     refine et (Q0 Z) $ et B0 ?_
     refine V6 k a0 x0 o0 _ _ ?h_dbd_Format_L3_0 ?hr_dbd_Format_L3 k 0 o3
     ·intro y4 y5
      exact et r9 $ et w6 $ et j5 $ kl ⟨(aP [(28,(i6 a0.fTypes)),(29,(I (a0.fTypes.length:Int))),(30,(I (sqW (x0+1))))]),[(1,vS 4 (j8 a0)),(4,⟨false,2,[(V.agg [V.tp 4 60,V.row 5 y5])]⟩)],133⟩ rfl $ et j6 $ ih (sqW (x0+1)) y5
     ·intro s; exact hret s
   ·rw [hc]
    refine et l6 $ et d4 $ kr ⟨(im [(8,(Sr ([70]:Str))),(28,(i6 a0.fTypes)),(29,(I (a0.fTypes.length:Int))),(30,(I x0)),(45,(Bo o0.fLast))]),[(1,vS 4 (j8 a0)),(4,⟨false,2,[(V.agg [V.tp 4 60,V.row 5 x1])]⟩),(6,vS 8 (d7 o0))],133⟩ rfl $ kc Z Z (fun hc=>?_) fun hc=>?_
    ·rw [hc]
     refine kr ⟨(im [(8,(Sr ([76]:Str))),(28,(i6 a0.fTypes)),(29,(I (a0.fTypes.length:Int))),(30,(I x0))]),[(1,vS 4 (j8 a0)),(4,⟨false,2,[(V.agg [V.tp 4 60,V.row 5 x1])]⟩),(6,vS 8 (d7 o0))],133⟩ rfl $ kd tV Z (fun (o4:Str)=>⟨(aQ [(28,(i6 a0.fTypes)),(29,(I (a0.fTypes.length:Int))),(30,(I x0))]),[(1,vS 4 (j8 a0)),(4,⟨false,2,[(V.agg [V.tp 4 60,V.row 5 o4])]⟩),(6,vS 8 (d7 o0))],133⟩) (et (k0 (p:=11) (dk:=true) (t:=(im [(8,(Sr ([76]:Str))),(28,(i6 a0.fTypes)),(29,(I (a0.fTypes.length:Int))),(30,(I x0))])) (σ:=[(1,vS 4 (j8 a0)),(4,⟨false,2,[(V.agg [V.tp 4 60,V.row 5 x1])]⟩),(6,vS 8 (d7 o0))]) (n:=133) Z (by decide) (by decide) Z) $ et (m8 (m:=5) (j:=5) (t':=(im [(8,(Sr ([76]:Str))),(28,(i6 a0.fTypes)),(29,(I (a0.fTypes.length:Int))),(30,(I x0)),(46,(Pt 6)),(47,(Sr o0.fName)),(48,(Sr ([45]:Str))),(49,(V.ptr 6 0 2)),(50,(I o0.fMin))])) Z Z Z) $ et (b5 (x:=(strconv_Itoa k o0.fMin)) (w:=fun v8=>(Sr v8)) Z Z Z Z Z (j9 Z Z Z Z Z (A3 k o0.fMin) (.inl Z))) $ j3 fun v8=>et (c8 (m:=2) (j:=8) (t':=(im [(8,(Sr ([76]:Str))),(28,(i6 a0.fTypes)),(29,(I (a0.fTypes.length:Int))),(30,(I x0)),(46,(Pt 6)),(47,(Sr o0.fName)),(48,(Sr ([45]:Str))),(49,(V.ptr 6 0 2)),(50,(I o0.fMin)),(51,(Sr v8)),(52,(V.ptr 6 0 3)),(53,(I o0.fSize))])) Z Z Z) $ et (b5 (x:=(strconv_Itoa k o0.fSize)) (w:=fun v9=>(Sr v9)) Z Z Z Z Z (j9 Z Z Z Z Z (A3 k o0.fSize) (.inl Z))) $ j3 fun v9=>et (Y3 (m:=0) (j:=11) (st':=⟨(im [(8,(Sr ([76]:Str))),(28,(i6 a0.fTypes)),(29,(I (a0.fTypes.length:Int))),(30,(I x0)),(46,(Pt 6)),(47,(Sr o0.fName)),(48,(Sr ([45]:Str))),(49,(V.ptr 6 0 2)),(50,(I o0.fMin)),(51,(Sr v8)),(52,(V.ptr 6 0 3)),(53,(I o0.fSize)),(54,(Sr v9)),(55,(Sr ([76]:Str))),(56,(sS (([([83,69,71,77]:Str),o0.fName,([45]:Str),v8,v9,([76]:Str)]:List Str))))]),[(1,vS 4 (j8 a0)),(4,⟨false,2,[(V.agg [V.tp 4 60,V.row 5 x1])]⟩),(6,vS 8 (d7 o0))],133⟩) Z Z Z) $ et (z6 (x:=(z8 k x1 ([([83,69,71,77]:Str),o0.fName,([45]:Str),v8,v9,([76]:Str)]:List Str))) (w:=fun (va:(Str))=>((V.tup []),_)) Z Z Z Z (I5 (fr:=fun (va:(Str))=>(V.tup [])) (fe:=fun (va:(Str))=>(V.agg [V.tp 0 60,V.row 5 va])) (fe':=fun (va:(Str))=>(V.agg [V.tp 4 60,V.row 5 va])) Z Z Z Z Z Z Z (K7 k x1 ([([83,69,71,77]:Str),o0.fName,([45]:Str),v8,v9,([76]:Str)]:List Str)) (fun _=>rfl))) $ s8 fun va=>b7 Z) fun o4=>krp tW Z ⟨(aQ [(28,(i6 a0.fTypes)),(29,(I (a0.fTypes.length:Int))),(30,(I x0)),(59,(j4 o0.fFields)),(60,(I (o0.fFields.length:Int))),(61,(I 0))]),[(1,vS 4 (j8 a0)),(4,⟨false,2,[(V.agg [V.tp 4 60,V.row 5 o4])]⟩),(6,vS 8 (d7 o0))],133⟩ ?_ ?_
     ·exact rd 2 [(58,(V.ptr 6 0 4)),(59,(j4 o0.fFields))] Z Z $ rl Z (A8 (e:=d9) Z Z Z Z Z Z underlying50) $ b7 Z
     refine et (Q0 Z) $ et B0 ?_
     refine V6 k a0 x0 o0 _ _ ?h_dbd_Format_L4_0 ?hr_dbd_Format_L4 k 0 o4
     ·intro y6 y7
      exact et r9 $ et w6 $ et j5 $ kl ⟨(aP [(28,(i6 a0.fTypes)),(29,(I (a0.fTypes.length:Int))),(30,(I (sqW (x0+1))))]),[(1,vS 4 (j8 a0)),(4,⟨false,2,[(V.agg [V.tp 4 60,V.row 5 y7])]⟩)],133⟩ rfl $ et j6 $ ih (sqW (x0+1)) y7
     ·intro s; exact hret s
    ·rw [hc]
     refine et l6 $ kd tV Z (fun (o5:Str)=>⟨(aQ [(28,(i6 a0.fTypes)),(29,(I (a0.fTypes.length:Int))),(30,(I x0))]),[(1,vS 4 (j8 a0)),(4,⟨false,2,[(V.agg [V.tp 4 60,V.row 5 o5])]⟩),(6,vS 8 (d7 o0))],133⟩) (et (k0 (p:=11) (dk:=true) (t:=(im [(8,(Sr ([70]:Str))),(28,(i6 a0.fTypes)),(29,(I (a0.fTypes.length:Int))),(30,(I x0)),(45,(Bo false))])) (σ:=[(1,vS 4 (j8 a0)),(4,⟨false,2,[(V.agg [V.tp 4 60,V.row 5 x1])]⟩),(6,vS 8 (d7 o0))]) (n:=133) Z (by decide) (by decide) Z) $ et (m8 (m:=5) (j:=5) (t':=(im [(8,(Sr ([70]:Str))),(28,(i6 a0.fTypes)),(29,(I (a0.fTypes.length:Int))),(30,(I x0)),(45,(Bo false)),(46,(Pt 6)),(47,(Sr o0.fName)),(48,(Sr ([45]:Str))),(49,(V.ptr 6 0 2)),(50,(I o0.fMin))])) Z Z Z) $ et (b5 (x:=(strconv_Itoa k o0.fMin)) (w:=fun vb=>(Sr vb)) Z Z Z Z Z (j9 Z Z Z Z Z (A3 k o0.fMin) (.inl Z))) $ j3 fun vb=>et (c8 (m:=2) (j:=8) (t':=(im [(8,(Sr ([70]:Str))),(28,(i6 a0.fTypes)),(29,(I (a0.fTypes.length:Int))),(30,(I x0)),(45,(Bo false)),(46,(Pt 6)),(47,(Sr o0.fName)),(48,(Sr ([45]:Str))),(49,(V.ptr 6 0 2)),(50,(I o0.fMin)),(51,(Sr vb)),(52,(V.ptr 6 0 3)),(53,(I o0.fSize))])) Z Z Z) $ et (b5 (x:=(strconv_Itoa k o0.fSize)) (w:=fun vc=>(Sr vc)) Z Z Z Z Z (j9 Z Z Z Z Z (A3 k o0.fSize) (.inl Z))) $ j3 fun vc=>et (Y3 (m:=0) (j:=11) (st':=⟨(im [(8,(Sr ([70]:Str))),(28,(i6 a0.fTypes)),(29,(I (a0.fTypes.length:Int))),(30,(I x0)),(45,(Bo false)),(46,(Pt 6)),(47,(Sr o0.fName)),(48,(Sr ([45]:Str))),(49,(V.ptr 6 0 2)),(50,(I o0.fMin)),(51,(Sr vb)),(52,(V.ptr 6 0 3)),(53,(I o0.fSize)),(54,(Sr vc)),(55,(Sr ([70]:Str))),(56,(sS (([([83,69,71,77]:Str),o0.fName,([45]:Str),vb,vc,([70]:Str)]:List Str))))]),[(1,vS 4 (j8 a0)),(4,⟨false,2,[(V.agg [V.tp 4 60,V.row 5 x1])]⟩),(6,vS 8 (d7 o0))],133⟩) Z Z Z) $ et (z6 (x:=(z8 k x1 ([([83,69,71,77]:Str),o0.fName,([45]:Str),vb,vc,([70]:Str)]:List Str))) (w:=fun (vd:(Str))=>((V.tup []),_)) Z Z Z Z (I5 (fr:=fun (vd:(Str))=>(V.tup [])) (fe:=fun (vd:(Str))=>(V.agg [V.tp 0 60,V.row 5 vd])) (fe':=fun (vd:(Str))=>(V.agg [V.tp 4 60,V.row 5 vd])) Z Z Z Z Z Z Z (K7 k x1 ([([83,69,71,77]:Str),o0.fName,([45]:Str),vb,vc,([70]:Str)]:List Str)) (fun _=>rfl))) $ s8 fun vd=>b7 Z) fun o5=>krp tW Z ⟨(aQ [(28,(i6 a0.fTypes)),(29,(I (a0.fTypes.length:Int))),(30,(I x0)),(59,(j4 o0.fFields)),(60,(I (o0.fFields.length:Int))),(61,(I 0))]),[(1,vS 4 (j8 a0)),(4,⟨false,2,[(V.agg [V.tp 4 60,V.row 5 o5])]⟩),(6,vS 8 (d7 o0))],133⟩ ?_ ?_
     ·exact rd 2 [(58,(V.ptr 6 0 4)),(59,(j4 o0.fFields))] Z Z $ rl Z (A8 (e:=d9) Z Z Z Z Z Z underlying50) $ b7 Z
     refine et (Q0 Z) $ et B0 ?_
     refine V6 k a0 x0 o0 _ _ ?h_dbd_Format_L5_0 ?hr_dbd_Format_L5 k 0 o5
     ·intro y8 y9
      exact et r9 $ et w6 $ et j5 $ kl ⟨(aP [(28,(i6 a0.fTypes)),(29,(I (a0.fTypes.length:Int))),(30,(I (sqW (x0+1))))]),[(1,vS 4 (j8 a0)),(4,⟨false,2,[(V.agg [V.tp 4 60,V.row 5 y9])]⟩)],133⟩ rfl $ et j6 $ ih (sqW (x0+1)) y9
     ·intro s; exact hret s
  ·rw [hc]
   exact et C1 $ et s5 $ hK0 x0 x1
theorem lP (k:Nat) (a0:a8)  (K0:Int→Str→Option (Str×Int)) (Kst:X×St→Option (V×List V)) (hK0:∀ (y0:Int) (y1:Str),Kst (X.exit 4,⟨(aP [(86,(i8 a0.fIndexes)),(87,(I (a0.fIndexes.length:Int))),(88,(I y0)),(89,(Bo false))]),[(1,vS 4 (j8 a0)),(4,⟨false,2,[(V.agg [V.tp 4 60,V.row 5 y1])]⟩)],133⟩)=(K0 y0 y1).map L7) (hret:∀ s,Kst (X.ret,s)=P5 prog 133 [(j8 a0)] [] [.tmp 2,.tmp 3] (X.ret,s)):
  ∀ (m:Nat) (x0:Int) (x1:Str),(L6 (C5 prog (EV k) f9n k JM) m ⟨(aP [(86,(i8 a0.fIndexes)),(87,(I (a0.fIndexes.length:Int))),(88,(I x0))]),[(1,vS 4 (j8 a0)),(4,⟨false,2,[(V.agg [V.tp 4 60,V.row 5 x1])]⟩)],133⟩).bind Kst=(K5 k a0 K0 m x0 x1).map L7:=by
 intro m
 induction m with
 | zero=>intros; rfl
 | succ m ih=>
  intro x0 x1
  unfold K5
  refine et A6 $ kra [(89,(Bo (decide (x0 < (a0.fIndexes.length:Int)))))] Z $ kc Z Z (fun hc=>?_) fun hc=>?_
  ·rw [hc]
   refine et l6 $ et (l5 Z) $ kg GZ Z (fun (o0:b4)=>⟨(dS [(86,(i8 a0.fIndexes)),(87,(I (a0.fIndexes.length:Int))),(88,(I x0))]),[(1,vS 4 (j8 a0)),(4,⟨false,2,[(V.agg [V.tp 4 60,V.row 5 x1])]⟩),(13,vS 4 (b8 o0))],133⟩) (rs Z (j7 (e:=b8) Z Z Z underlying24 Z (by decide)) fun v0=>b7 Z) fun o0=>kr ⟨(dS [(14,(Sr ([45]:Str))),(86,(i8 a0.fIndexes)),(87,(I (a0.fIndexes.length:Int))),(88,(I x0))]),[(1,vS 4 (j8 a0)),(4,⟨false,2,[(V.agg [V.tp 4 60,V.row 5 x1])]⟩),(13,vS 4 (b8 o0))],133⟩ rfl $ et d4 $ kra [(94,(Bo (!(o0.fSparse == ([]:Str)))))] Z $ kc Z Z (fun hc=>?_) fun hc=>?_
   ·rw [hc]
    exact et d4 $ kg Ha Z (fun (o1:Int)=>⟨(dS [(15,(sqU o1)),(86,(i8 a0.fIndexes)),(87,(I (a0.fIndexes.length:Int))),(88,(I x0))]),[(1,vS 4 (j8 a0)),(4,⟨false,2,[(V.agg [V.tp 4 60,V.row 5 x1])]⟩),(13,vS 4 (b8 o0))],133⟩) (rd 2 [(95,(V.ptr 13 0 3)),(96,(Sr o0.fSparse))] Z Z $ rs Z (F0 Z Z Z underlying9) fun v1=>b7 Z) fun o1=>kd Hb Z (fun (o2:Str)=>⟨(dS [(14,(Sr o2)),(86,(i8 a0.fIndexes)),(87,(I (a0.fIndexes.length:Int))),(88,(I x0))]),[(1,vS 4 (j8 a0)),(4,⟨false,2,[(V.agg [V.tp 4 60,V.row 5 x1])]⟩),(13,vS 4 (b8 o0))],133⟩) (et (k0 (p:=14) (dk:=true) (t:=(dS [(15,(sqU o1)),(86,(i8 a0.fIndexes)),(87,(I (a0.fIndexes.length:Int))),(88,(I x0))])) (σ:=[(1,vS 4 (j8 a0)),(4,⟨false,2,[(V.agg [V.tp 4 60,V.row 5 x1])]⟩),(13,vS 4 (b8 o0))]) (n:=133) Z (by decide) (by decide) Z) $ et (m8 (m:=1) (j:=1) (t':=(dS [(15,(sqU o1)),(86,(i8 a0.fIndexes)),(87,(I (a0.fIndexes.length:Int))),(88,(I x0)),(98,(sqU o1))])) Z Z Z) $ et (b5 (x:=(tn .u8 o1 4)) (w:=fun v2=>(sqU v2)) Z Z Z Z Z (Hh Z Z Z)) $ j3 fun v2=>et (c8 (m:=1) (j:=3) (t':=(dS [(15,(sqU o1)),(86,(i8 a0.fIndexes)),(87,(I (a0.fIndexes.length:Int))),(88,(I x0)),(98,(sqU o1)),(99,(sqU v2)),(100,(sqU o1))])) Z Z Z) $ et (b5 (x:=(tn .u8 o1 4)) (w:=fun v3=>(sqU v3)) Z Z Z Z Z (Hh Z Z Z)) $ j3 fun v3=>et (c8 (m:=1) (j:=5) (t':=(dS [(15,(sqU o1)),(86,(i8 a0.fIndexes)),(87,(I (a0.fIndexes.length:Int))),(88,(I x0)),(98,(sqU o1)),(99,(sqU v2)),(100,(sqU o1)),(101,(sqU v3)),(102,(sqU (sqB (v3+1))))])) Z Z Z) $ et (b5 (x:=(cut ([48,49,50,51,52,53,54,55,56,57,97,98,99,100,101,102]:Str) v2 (sqB (v3+1)))) (w:=fun v4=>(Sr v4)) Z Z Z Z Z (eL Z Z Z Z Z Z underlying9)) $ j3 fun v4=>et (c8 (m:=5) (j:=11) (t':=(dS [(15,(sqU o1)),(86,(i8 a0.fIndexes)),(87,(I (a0.fIndexes.length:Int))),(88,(I x0)),(98,(sqU o1)),(99,(sqU v2)),(100,(sqU o1)),(101,(sqU v3)),(102,(sqU (sqB (v3+1)))),(103,(Sr v4)),(104,(sqU o1)),(105,(sqU (lI .u8 o1 15))),(106,(sqU o1)),(107,(sqU (lI .u8 o1 15))),(108,(sqU (sqB ((lI .u8 o1 15)+1))))])) Z Z Z) $ et (b5 (x:=(cut ([48,49,50,51,52,53,54,55,56,57,97,98,99,100,101,102]:Str) (lI .u8 o1 15) (sqB ((lI .u8 o1 15)+1)))) (w:=fun v5=>(Sr v5)) Z Z Z Z Z (eL Z Z Z Z Z Z underlying9)) $ j3 fun v5=>et (c8 (m:=0) (j:=12) (t':=(dS [(15,(sqU o1)),(86,(i8 a0.fIndexes)),(87,(I (a0.fIndexes.length:Int))),(88,(I x0)),(98,(sqU o1)),(99,(sqU v2)),(100,(sqU o1)),(101,(sqU v3)),(102,(sqU (sqB (v3+1)))),(103,(Sr v4)),(104,(sqU o1)),(105,(sqU (lI .u8 o1 15))),(106,(sqU o1)),(107,(sqU (lI .u8 o1 15))),(108,(sqU (sqB ((lI .u8 o1 15)+1)))),(109,(Sr v5))])) Z Z Z) $ et (b5 (x:=(cat v4 v5)) (w:=fun v6=>(Sr v6)) Z Z Z Z Z (p9 Z Z Z)) $ s8 fun v6=>u0 Z) fun o2=>kg Bt Z (fun (o3:a6)=>⟨(dS [(14,(Sr o2)),(16,(Pt 16)),(86,(i8 a0.fIndexes)),(87,(I (a0.fIndexes.length:Int))),(88,(I x0))]),[(1,vS 4 (j8 a0)),(4,⟨false,2,[(V.agg [V.tp 4 60,V.row 5 x1])]⟩),(13,vS 4 (b8 o0)),(16,vS 8 (d7 o3))],133⟩) (rd 4 [(111,(V.ptr 1 0 2)),(112,(i6 a0.fTypes)),(113,(V.ptr 13 0 1)),(114,(I o0.fType))] Z Z $ rs Z (j7 (e:=d7) Z Z Z underlying23 Z (by decide)) fun v7=>b7 Z) fun o3=>kdl Bu Z (fun (o4:Str)=>⟨(aP [(86,(i8 a0.fIndexes)),(87,(I (a0.fIndexes.length:Int))),(88,(I x0))]),[(1,vS 4 (j8 a0)),(4,⟨false,2,[(V.agg [V.tp 4 60,V.row 5 o4])]⟩)],133⟩) (et (k0 (p:=13) (dk:=true) (t:=(dS [(14,(Sr o2)),(16,(Pt 16)),(86,(i8 a0.fIndexes)),(87,(I (a0.fIndexes.length:Int))),(88,(I x0))])) (σ:=[(1,vS 4 (j8 a0)),(4,⟨false,2,[(V.agg [V.tp 4 60,V.row 5 x1])]⟩),(13,vS 4 (b8 o0)),(16,vS 8 (d7 o3))]) (n:=133) Z (by decide) (by decide) Z) $ et (m8 (m:=8) (j:=8) (t':=(dS [(14,(Sr o2)),(16,(Pt 16)),(86,(i8 a0.fIndexes)),(87,(I (a0.fIndexes.length:Int))),(88,(I x0)),(117,(Pt 13)),(118,(Sr o0.fName)),(119,(Pt 16)),(120,(Sr o3.fName)),(121,(V.ptr 16 0 4)),(122,(j4 o3.fFields)),(123,(V.ptr 13 0 2)),(124,(I o0.fField))])) Z Z Z) $ et (b5 (x:=(idx o3.fFields o0.fField)) (w:=fun v8=>(Pr (d9 v8))) Z Z Z Z Z (j7 (e:=d9) Z Z Z underlying50 Z (by decide))) $ j3 fun v8=>et (Y3 (m:=0) (j:=13) (st':=⟨(dS [(14,(Sr o2)),(16,(Pt 16)),(86,(i8 a0.fIndexes)),(87,(I (a0.fIndexes.length:Int))),(88,(I x0)),(117,(Pt 13)),(118,(Sr o0.fName)),(119,(Pt 16)),(120,(Sr o3.fName)),(121,(V.ptr 16 0 4)),(122,(j4 o3.fFields)),(123,(V.ptr 13 0 2)),(124,(I o0.fField)),(125,(Pr (d9 v8))),(126,(Pr (Sr v8.fName))),(127,(Sr v8.fName)),(128,(Sr o2)),(129,(sS (([([73,78,68,69,88]:Str),o0.fName,o3.fName,v8.fName,o2]:List Str))))]),[(1,vS 4 (j8 a0)),(4,⟨false,2,[(V.agg [V.tp 4 60,V.row 5 x1])]⟩),(13,vS 4 (b8 o0)),(16,vS 8 (d7 o3))],133⟩) Z Z Z) $ et (z6 (x:=(z8 k x1 ([([73,78,68,69,88]:Str),o0.fName,o3.fName,v8.fName,o2]:List Str))) (w:=fun (v9:(Str))=>((V.tup []),_)) Z Z Z Z (I5 (fr:=fun (v9:(Str))=>(V.tup [])) (fe:=fun (v9:(Str))=>(V.agg [V.tp 0 60,V.row 5 v9])) (fe':=fun (v9:(Str))=>(V.agg [V.tp 4 60,V.row 5 v9])) Z Z Z Z Z Z Z (K7 k x1 ([([73,78,68,69,88]:Str),o0.fName,o3.fName,v8.fName,o2]:List Str)) (fun _=>rfl))) $ s8 fun v9=>b7 Z) fun o4=>et j5 $ kl ⟨(aP [(86,(i8 a0.fIndexes)),(87,(I (a0.fIndexes.length:Int))),(88,(I (sqW (x0+1))))]),[(1,vS 4 (j8 a0)),(4,⟨false,2,[(V.agg [V.tp 4 60,V.row 5 o4])]⟩)],133⟩ rfl $ et j6 $ ih (sqW (x0+1)) o4
   ·rw [hc]
    exact et l6 $ kg Bt Z (fun (o5:a6)=>⟨(yo [(86,(i8 a0.fIndexes)),(87,(I (a0.fIndexes.length:Int))),(88,(I x0))]),[(1,vS 4 (j8 a0)),(4,⟨false,2,[(V.agg [V.tp 4 60,V.row 5 x1])]⟩),(13,vS 4 (b8 o0)),(16,vS 8 (d7 o5))],133⟩) (rd 4 [(111,(V.ptr 1 0 2)),(112,(i6 a0.fTypes)),(113,(V.ptr 13 0 1)),(114,(I o0.fType))] Z Z $ rs Z (j7 (e:=d7) Z Z Z underlying23 Z (by decide)) fun va=>b7 Z) fun o5=>kdl Bu Z (fun (o6:Str)=>⟨(aP [(86,(i8 a0.fIndexes)),(87,(I (a0.fIndexes.length:Int))),(88,(I x0))]),[(1,vS 4 (j8 a0)),(4,⟨false,2,[(V.agg [V.tp 4 60,V.row 5 o6])]⟩)],133⟩) (et (k0 (p:=13) (dk:=true) (t:=(yo [(86,(i8 a0.fIndexes)),(87,(I (a0.fIndexes.length:Int))),(88,(I x0))])) (σ:=[(1,vS 4 (j8 a0)),(4,⟨false,2,[(V.agg [V.tp 4 60,V.row 5 x1])]⟩),(13,vS 4 (b8 o0)),(16,vS 8 (d7 o5))]) (n:=133) Z (by decide) (by decide) Z) $ et (m8 (m:=8) (j:=8) (t':=(yo [(86,(i8 a0.fIndexes)),(87,(I (a0.fIndexes.length:Int))),(88,(I x0)),(117,(Pt 13)),(118,(Sr o0.fName)),(119,(Pt 16)),(120,(Sr o5.fName)),(121,(V.ptr 16 0 4)),(122,(j4 o5.fFields)),(123,(V.ptr 13 0 2)),(124,(I o0.fField))])) Z Z Z) $ et (b5 (x:=(idx o5.fFields o0.fField)) (w:=fun vb=>(Pr (d9 vb))) Z Z Z Z Z (j7 (e:=d9) Z Z Z underlying50 Z (by decide))) $ j3 fun vb=>et (Y3 (m:=0) (j:=13) (st':=⟨(yo [(86,(i8 a0.fIndexes)),(87,(I (a0.fIndexes.length:Int))),(88,(I x0)),(117,(Pt 13)),(118,(Sr o0.fName)),(119,(Pt 16)),(120,(Sr o5.fName)),(121,(V.ptr 16 0 4)),(122,(j4 o5.fFields)),(123,(V.ptr 13 0 2)),(124,(I o0.fField)),(125,(Pr (d9 vb))),(126,(Pr (Sr vb.fName))),(127,(Sr vb.fName)),(128,(Sr ([45]:Str))),(129,(sS (([([73,78,68,69,88]:Str),o0.fName,o5.fName,vb.fName,([45]:Str)]:List Str))))]),[(1,vS 4 (j8 a0)),(4,⟨false,2,[(V.agg [V.tp 4 60,V.row 5 x1])]⟩),(13,vS 4 (b8 o0)),(16,vS 8 (d7 o5))],133⟩) Z Z Z) $ et (z6 (x:=(z8 k x1 ([([73,78,68,69,88]:Str),o0.fName,o5.fName,vb.fName,([45]:Str)]:List Str))) (w:=fun (vc:(Str))=>((V.tup []),_)) Z Z Z Z (I5 (fr:=fun (vc:(Str))=>(V.tup [])) (fe:=fun (vc:(Str))=>(V.agg [V.tp 0 60,V.row 5 vc])) (fe':=fun (vc:(Str))=>(V.agg [V.tp 4 60,V.row 5 vc])) Z Z Z Z Z Z Z (K7 k x1 ([([73,78,68,69,88]:Str),o0.fName,o5.fName,vb.fName,([45]:Str)]:List Str)) (fun _=>rfl))) $ s8 fun vc=>b7 Z) fun o6=>et j5 $ kl ⟨(aP [(86,(i8 a0.fIndexes)),(87,(I (a0.fIndexes.length:Int))),(88,(I (sqW (x0+1))))]),[(1,vS 4 (j8 a0)),(4,⟨false,2,[(V.agg [V.tp 4 60,V.row 5 o6])]⟩)],133⟩ rfl $ et j6 $ ih (sqW (x0+1)) o6
  ·rw [hc]
   exact et C1 $ et s5 $ hK0 x0 x1
theorem S6 (k:Nat) (a0:a8):EV k 9 [(j8 a0)]=(T9 k a0).map L7:=by
 cases k with
 | zero=>rfl
 | succ k=>
  unfold T9
  refine et (l9 (c:=f9c) (N:=133) (regs:=f9n) Z func9 Z (by decide) Z Z Z) $ kr ⟨[(1,(Pt 1))],(Cr a0),133⟩ rfl $ et d4 $ kga JG Z (fun (o2:Bool)=>[(19,(Bo o2))]) (rd 1 [(17,(j8 a0))] Z Z $ rp Z (j9 Z Z Z Z Z (ky k a0) (.inl Z)) fun v1=>b7 Z) fun o2=>kc Z Z (fun hc=>?_) fun hc=>?_
  ·rw [hc]
   refine et d4 $ kr ⟨[(2,(Sr ([]:Str))),(3,(I 100))],[],133⟩ rfl $ et I4 ?_
   rfl
  ·rw [hc]
   refine et l6 $ kr ⟨(aP []),(Cs a0),133⟩ rfl $ kd JH Z (fun (o5:Str)=>⟨(aP []),[(1,vS 4 (j8 a0)),(4,⟨false,2,[(V.agg [V.tp 4 60,V.row 5 o5])]⟩)],133⟩) (et (k0 (p:=6) (dk:=true) (t:=(aP [])) (σ:=(Cs a0)) (n:=133) Z (by decide) (by decide) Z) $ et (m8 (m:=4) (j:=4) (t':=(aP [(20,(Pt 1)),(21,(Sr a0.fName)),(22,(V.ptr 1 0 1)),(23,(I a0.fKind))])) Z Z Z) $ et (b5 (x:=(strconv_Itoa k a0.fKind)) (w:=fun v3=>(Sr v3)) Z Z Z Z Z (j9 Z Z Z Z Z (A3 k a0.fKind) (.inl Z))) $ j3 fun v3=>et (Y3 (m:=0) (j:=6) (st':=⟨(aP [(20,(Pt 1)),(21,(Sr a0.fName)),(22,(V.ptr 1 0 1)),(23,(I a0.fKind)),(24,(Sr v3)),(25,(sS (([([68,66,68]:Str),a0.fName,v3]:List Str))))]),(Cs a0),133⟩) Z Z Z) $ et (z6 (x:=(z8 k ([]:Str) ([([68,66,68]:Str),a0.fName,v3]:List Str))) (w:=fun (v4:(Str))=>((V.tup []),_)) Z Z Z Z (I5 (fr:=fun (v4:(Str))=>(V.tup [])) (fe:=fun (v4:(Str))=>(V.agg [V.tp 0 60,V.row 5 v4])) (fe':=fun (v4:(Str))=>(V.agg [V.tp 4 60,V.row 5 v4])) Z Z Z Z Z Z Z (K7 k ([]:Str) ([([68,66,68]:Str),a0.fName,v3]:List Str)) (fun _=>rfl))) $ s8 fun v4=>b7 Z) fun o5=>et d4 $ krp JI Z ⟨(aP [(28,(i6 a0.fTypes)),(29,(I (a0.fTypes.length:Int))),(30,(I 0))]),[(1,vS 4 (j8 a0)),(4,⟨false,2,[(V.agg [V.tp 4 60,V.row 5 o5])]⟩)],133⟩ ?_ ?_
   ·exact rd 2 [(27,(V.ptr 1 0 2)),(28,(i6 a0.fTypes))] Z Z $ rl Z (A8 (e:=d7) Z Z Z Z Z Z underlying23) $ b7 Z
   refine et (l5 Z) $ et B0 ?_
   refine lO k a0 _ _ ?h_dbd_Format_L1_0 ?hr_dbd_Format_L1 k 0 o5
   ·intro y0 y1
    refine et r9 $ et d4 $ krp GY Z ⟨(aP [(86,(i8 a0.fIndexes)),(87,(I (a0.fIndexes.length:Int))),(88,(I 0))]),[(1,vS 4 (j8 a0)),(4,⟨false,2,[(V.agg [V.tp 4 60,V.row 5 y1])]⟩)],133⟩ ?_ ?_
    ·exact rd 2 [(85,(V.ptr 1 0 3)),(86,(i8 a0.fIndexes))] Z Z $ rl Z (A8 (e:=b8) Z Z Z Z Z Z underlying24) $ b7 Z
    refine et (l5 Z) $ et B0 ?_
    refine lP k a0 _ _ ?h_dbd_Format_L6_0 ?hr_dbd_Format_L6 k 0 y1
    ·intro y2 y3
     refine et r9 $ kg Hc Z (fun (o0:Str×Int)=>⟨[(2,(Sr o0.1)),(3,(I o0.2))],[],133⟩) (et (z6 (x:=(K4 k y3)) (w:=fun (v0:Str)=>((Sr v0),_)) Z Z Z Z (I5 (fr:=fun (v0:Str)=>(Sr v0)) (fe:=fun (v0:Str)=>(V.agg [V.tp 0 60,V.row 5 v0])) (fe':=fun (v0:Str)=>(V.agg [V.tp 4 60,V.row 5 v0])) Z Z Z Z Z Z Z (dA k y3) (fun _=>rfl))) $ j3 fun v0=>b7 Z) fun o0=>et l7 ?_
     rfl
    ·intro s; exact rfl
   ·intro s; exact rfl
def bs:(a8×Int)→V×List V:=fun r=>(.tup [(j8 r.1),(I r.2)],[])
theorem nx (k:Nat) (a0:Str) (o2:(List Str)×Int×Int)  (K0:Int→Str→Int→Str→Int→(List a6)→(List b4)→Option (a8×Int)) (K1:Int→Str→Int→(List a6)→(List b4)→Option (a8×Int)) (Kst:X×St→Option (V×List V)) (hK0:∀ (y0:Int) (y1:Str) (y2:Int) (y3:Str) (y4:Int) (y5:(List a6)) (y6:(List b4)),Kst (X.exit 0,(X6 y3 y4 y5 y6 (uL a0 y0 y1 o2.1 o2.2.1 y2 [(20,(Bo true))])))=(K0 y0 y1 y2 y3 y4 y5 y6).map bs) (hK1:∀ (y0:Int) (y1:Str) (y2:Int) (y3:(List a6)) (y4:(List b4)),Kst (X.exit 0,(X6 y1 y2 y3 y4 (jm a0 o2.1 o2.2.1 y0 [(15,(Bo false))])))=(K1 y0 y1 y2 y3 y4).map bs) (hret:∀ s,Kst (X.ret,s)=P5 prog 67 [(Sr a0)] [] [.cell 2 26,.tmp 3] (X.ret,s)):
  ∀ (m:Nat) (x0:Int) (x1:Str) (x2:Int) (x3:(List a6)) (x4:(List b4)),(L6 (C5 prog (EV k) f6n k Jq) m (X6 x1 x2 x3 x4 (jm a0 o2.1 o2.2.1 x0 []))).bind Kst=(D1 k o2 K0 K1 m x0 x1 x2 x3 x4).map bs:=by
 intro m
 induction m with
 | zero=>intros; rfl
 | succ m ih=>
  intro x0 x1 x2 x3 x4
  unfold D1
  refine et A6 $ kra [(15,(Bo (decide (x0 < o2.2.1))))] Z $ kc Z Z (fun hc=>?_) fun hc=>?_
  ·rw [hc]
   refine et l6 $ et (l5 Z) $ kg Jn Z (fun (o0:Int×Str)=>(X6 x1 x2 x3 x4 (uL a0 o0.1 o0.2 o2.1 o2.2.1 x0 []))) (rd 1 [(16,(I x0))] Z Z $ rp Z (j7 (e:=V.str) Z Z Z underlying41 Z (by decide)) fun v0=>b7 Z) fun o0=>et d4 $ kra [(20,(Bo (o0.2 == ([]:Str))))] Z $ kc Z Z (fun hc=>?_) fun hc=>?_
   ·rw [hc]
    exact et C1 $ et (yE Z) $ et s5 $ hK0 o0.1 o0.2 x0 x1 x2 x3 x4
   ·rw [hc]
    refine et l6 $ kg Jo Z (fun (o1:(List Str))=>(X6 x1 x2 x3 x4 (dR a0 [(5,(I o0.1)),(7,(sS o1)),(12,(sS o2.1)),(13,(I o2.2.1)),(14,(I x0))]))) (rd 1 [(21,(Sr o0.2))] Z Z $ rp Z (j9 Z Z Z Z Z (gx k o0.2 ([10]:Str)) (.inl Z)) fun v1=>bd 2 [(22,(Sr v1))] Z Z $ rs Z (j9 Z Z Z Z Z (mN k v1 ([32]:Str)) (.inl Z)) fun v2=>b7 Z) fun o1=>kr (X6 x1 x2 x3 x4 (dR a0 [(5,(I o0.1)),(7,(sS o1)),(8,(Bo false)),(12,(sS o2.1)),(13,(I o2.2.1)),(14,(I x0))])) Z $ et d4 $ kr (X6 x1 x2 x3 x4 (dR a0 [(7,(sS o1)),(8,(Bo false)),(12,(sS o2.1)),(13,(I o2.2.1)),(14,(I x0)),(25,(Bo (o0.1 == 0)))])) Z $ kc Z Z (fun hc=>?_) fun hc=>?_
    ·rw [hc]
     refine et d4 $ kg Jp Z (fun (o3:Bool)=>(X6 x1 x2 x3 x4 (dR a0 [(7,(sS o1)),(8,(Bo false)),(12,(sS o2.1)),(13,(I o2.2.1)),(14,(I x0)),(34,(Bo o3))]))) ?_ fun o3=>?_
     ·refine rd 1 [(26,(sS o1))] Z Z $ rl Z (A8 (e:=V.str) Z Z Z Z Z Z underlying41) $ bd 4 [(27,(I (o1.length:Int))),(28,(Bo ((o1.length:Int) == 3))),(29,(Bo ((o1.length:Int) == 3)))] Z Z $ w8 (fun hc=>?_) fun hc=>?_
      ·rw [hc]
       exact rd 5 [(30,(sS o1))] Z Z $ rp Z (j7 (e:=V.str) Z Z Z underlying41 Z (by decide)) fun v3=>b7 Z
      ·rw [hc]
       exact d8 Z
     refine kc Z Z (fun hc=>?_) fun hc=>?_
     ·rw [hc]
      refine et d4 $ kg Gk Z (fun (o4:Str)=>(X6 o4 x2 x3 x4 (dR a0 [(7,(sS o1)),(12,(sS o2.1)),(13,(I o2.2.1)),(14,(I x0))]))) (rd 1 [(35,(sS o1))] Z Z $ rs Z (j7 (e:=V.str) Z Z Z underlying41 Z (by decide)) fun v4=>b7 Z) fun o4=>kg Gl Z (fun (o5:Bool×Int)=>(X6 o4 o5.2 x3 x4 (dR a0 [(8,(Bo o5.1)),(12,(sS o2.1)),(13,(I o2.2.1)),(14,(I x0))]))) (rd 1 [(40,(sS o1))] Z Z $ rp Z (j7 (e:=V.str) Z Z Z underlying41 Z (by decide)) fun v5=>bd 3 [(41,(Pr (Sr v5))),(42,(Sr v5))] Z Z $ rp Z (j9 Z Z Z Z Z (dV k v5) (.inl Z)) fun v6=>b7 Z) fun o5=>kr (X6 o4 o5.2 x3 x4 (jm a0 o2.1 o2.2.1 x0 [(50,(Bo (!o5.1)))])) Z $ kcl Z Z (fun hc=>?_) fun hc=>?_
      ·rw [hc]
       refine kr (jW ({ fName:=[],fKind:=0,fTypes:=([]:List a6),fIndexes:=([]:List b4) }:a8) (pZ [])) Z $ et l7 $ et u6 $ et A0 $ et (hret _) ?_
       rfl
      ·rw [hc]
       exact et w6 $ et j5 $ kl (X6 o4 o5.2 x3 x4 (jm a0 o2.1 o2.2.1 (sqW (x0+1)) [])) Z $ et j6 $ ih (sqW (x0+1)) o4 o5.2 x3 x4
     ·rw [hc]
      refine et l6 $ kr (X6 x1 x2 x3 x4 (jm a0 o2.1 o2.2.1 x0 [(50,(Bo true))])) Z $ et (xK (t:=true) Z Z) $ kr (jW ({ fName:=[],fKind:=0,fTypes:=([]:List a6),fIndexes:=([]:List b4) }:a8) (pZ [])) Z $ et l7 $ et u6 $ et A0 $ et (hret _) ?_
      rfl
    ·rw [hc]
     refine kg Gm Z (fun (o6:Bool×Str×Int×(List a6)×(List b4))=>(X6 o6.2.1 o6.2.2.1 o6.2.2.2.1 o6.2.2.2.2 (dR a0 [(8,(Bo o6.1)),(12,(sS o2.1)),(13,(I o2.2.1)),(14,(I x0))]))) (rd 1 [(47,(sS o1))] Z Z $ et (z6 (x:=(V7 k ({ fName:=x1,fKind:=x2,fTypes:=x3,fIndexes:=x4 }:a8) o1)) (w:=fun (v7:(Bool×a8))=>((Bo v7.1),_)) Z Z Z Z (I5 (fr:=fun (v7:(Bool×a8))=>(Bo v7.1)) (fe:=fun (v7:(Bool×a8))=>(V.agg [(Sr v7.2.fName),(I v7.2.fKind),(V.sl 3 8 (List.map a7 v7.2.fTypes)),(V.sl 1 4 (List.map b8 v7.2.fIndexes))])) (fe':=fun (v7:(Bool×a8))=>(V.agg [(Sr v7.2.fName),(I v7.2.fKind),(V.sl 3 8 (List.map a7 v7.2.fTypes)),(V.sl 1 4 (List.map b8 v7.2.fIndexes))])) Z Z Z Z Z Z Z (wh k ({ fName:=x1,fKind:=x2,fTypes:=x3,fIndexes:=x4 }:a8) o1) (fun _=>rfl))) $ j3 fun v7=>b7 Z) fun o6=>kr (X6 o6.2.1 o6.2.2.1 o6.2.2.2.1 o6.2.2.2.2 (jm a0 o2.1 o2.2.1 x0 [(50,(Bo (!o6.1)))])) Z $ kcl Z Z (fun hc=>?_) fun hc=>?_
     ·rw [hc]
      refine kr (jW ({ fName:=[],fKind:=0,fTypes:=([]:List a6),fIndexes:=([]:List b4) }:a8) (pZ [])) Z $ et l7 $ et u6 $ et A0 $ et (hret _) ?_
      rfl
     ·rw [hc]
      exact et w6 $ et j5 $ kl (X6 o6.2.1 o6.2.2.1 o6.2.2.2.1 o6.2.2.2.2 (jm a0 o2.1 o2.2.1 (sqW (x0+1)) [])) Z $ et j6 $ ih (sqW (x0+1)) o6.2.1 o6.2.2.1 o6.2.2.2.1 o6.2.2.2.2
  ·rw [hc]
   exact et C1 $ et s5 $ hK1 x0 x1 x2 x3 x4
theorem eY (k:Nat) (a0:Str):EV k 6 [(Sr a0)]=(aZ k a0).map bs:=by
 cases k with
 | zero=>rfl
 | succ k=>
  unfold aZ
  refine et (l9 (c:=f6c) (N:=67) (regs:=f6n) Z func6 Z (by decide) Z Z Z) $ kr ⟨[(0,(Sr a0)),(2,(Pt 2))],Cu,67⟩ rfl $ kr ⟨(dR a0 []),Cv,67⟩ rfl $ et d4 $ kga Jm Z (fun (o2:(List Str)×Int×Int)=>[(12,(sS o2.1)),(13,(I o2.2.1)),(14,(I o2.2.2))]) (rd 1 [(11,(Sr a0))] Z Z $ rp Z (j9 Z Z Z Z Z (gw k a0 ([10]:Str)) (.inl Z)) fun v1=>bd 2 [(12,(sS v1))] Z Z $ rl Z (A8 (e:=V.str) Z Z Z Z Z Z underlying41) $ b7 Z) fun o2=>et (l5 Z) $ et B0 ?_
  refine nx k a0 o2 _ _ _ ?h_dbd_Parse_L1_0 ?h_dbd_Parse_L1_1 ?hr_dbd_Parse_L1 k o2.2.2 [] 0 ([]:List a6) ([]:List b4)
  ·intro y0 y1 y2 y3 y4 y5 y6
   refine et r9 $ et d4 $ kg Br Z (fun (o0:Str×Int)=>⟨(dR a0 [(9,(Sr o0.1)),(10,(I o0.2))]),[(2,⟨false,4,[(V.agg [(Sr []),(I 0),(V.sl 2 8 (List.map d7 ([]:List a6))),(V.sl 2 4 (List.map b8 ([]:List b4)))])]⟩),(4,⟨false,4,[(V.agg [(Sr y3),(I y4),(i6 y5),(i8 y6)])]⟩)],67⟩) (et (J9 (x:=some ()) (st1:=⟨(uL a0 y0 y1 o2.1 o2.2.1 y2 [(20,(Bo true))]),[(2,⟨false,4,[(V.agg [(Sr []),(I 0),(V.sl 2 8 (List.map d7 ([]:List a6))),(V.sl 2 4 (List.map b8 ([]:List b4)))])]⟩),(4,⟨false,4,[(V.agg [(Sr y3),(I y4),(i6 y5),(V.sl 1 4 (List.map b8 y6))])]⟩)],67⟩) (w:=fun _=>((V.agg [(Sr y3),(I y4),(i6 y5),(V.sl 1 4 (List.map b8 y6))]),⟨(uL a0 y0 y1 o2.1 o2.2.1 y2 [(20,(Bo true))]),[(2,⟨false,4,[(V.agg [(Sr []),(I 0),(V.sl 2 8 (List.map d7 ([]:List a6))),(V.sl 2 4 (List.map b8 ([]:List b4)))])]⟩),(4,⟨false,4,[(V.agg [(Sr y3),(I y4),(i6 y5),(i8 y6)])]⟩)],67⟩)) (u:=fun _=>⟨(uL a0 y0 y1 o2.1 o2.2.1 y2 [(20,(Bo true)),(54,(V.agg [(Sr y3),(I y4),(i6 y5),(i8 y6)]))]),[(2,⟨false,4,[(V.agg [(Sr []),(I 0),(V.sl 2 8 (List.map d7 ([]:List a6))),(V.sl 2 4 (List.map b8 ([]:List b4)))])]⟩),(4,⟨false,4,[(V.agg [(Sr y3),(I y4),(i6 y5),(i8 y6)])]⟩)],67⟩) Z Z Z Z Z Z (gh3 (kH (e:=a7) (e':=d7) (fun _=>rfl) Z Z Z)) Z (fun _=>rfl)) $ et x9 $ rp Z (j9 Z Z Z Z Z (S6 k ({ fName:=y3,fKind:=y4,fTypes:=y5,fIndexes:=y6 }:a8)) (.inl Z)) fun v0=>b7 Z) fun o0=>et d4 $ kg Bs Z (fun (o1:Bool)=>⟨[(2,(Pt 2)),(4,(Pt 4)),(64,(Bo o1))],[(2,⟨false,4,[(V.agg [(Sr []),(I 0),(V.sl 2 8 (List.map d7 ([]:List a6))),(V.sl 2 4 (List.map b8 ([]:List b4)))])]⟩),(4,⟨false,4,[(V.agg [(Sr y3),(I y4),(i6 y5),(i8 y6)])]⟩)],67⟩) ?_ fun o1=>?_
   ·refine rd 3 [(58,(I o0.2)),(59,(Bo (o0.2 != 0))),(60,(Bo (o0.2 != 0)))] Z Z $ w8 (fun hc=>?_) fun hc=>?_
    ·rw [hc]
     exact d8 Z
    ·rw [hc]
     exact d8 Z
   refine kc Z Z (fun hc=>?_) fun hc=>?_
   ·rw [hc]
    refine et d4 $ kr (jW ({ fName:=[],fKind:=0,fTypes:=([]:List a6),fIndexes:=([]:List b4) }:a8) (pZ [])) Z $ et I4 ?_
    rfl
   ·rw [hc]
    refine et l6 $ kr (jW ({ fName:=y3,fKind:=y4,fTypes:=y5,fIndexes:=y6 }:a8) [(2,(Pt 2)),(3,(I 0))]) Z $ et l7 ?_
    rfl
  ·intro y7 y8 y9 ya yb
   refine et r9 $ et d4 $ kg Br Z (fun (o3:Str×Int)=>⟨(dR a0 [(9,(Sr o3.1)),(10,(I o3.2))]),[(2,⟨false,4,[(V.agg [(Sr []),(I 0),(V.sl 2 8 (List.map d7 ([]:List a6))),(V.sl 2 4 (List.map b8 ([]:List b4)))])]⟩),(4,⟨false,4,[(V.agg [(Sr y8),(I y9),(i6 ya),(i8 yb)])]⟩)],67⟩) (et (J9 (x:=some ()) (st1:=⟨(jm a0 o2.1 o2.2.1 y7 [(15,(Bo false))]),[(2,⟨false,4,[(V.agg [(Sr []),(I 0),(V.sl 2 8 (List.map d7 ([]:List a6))),(V.sl 2 4 (List.map b8 ([]:List b4)))])]⟩),(4,⟨false,4,[(V.agg [(Sr y8),(I y9),(i6 ya),(V.sl 1 4 (List.map b8 yb))])]⟩)],67⟩) (w:=fun _=>((V.agg [(Sr y8),(I y9),(i6 ya),(V.sl 1 4 (List.map b8 yb))]),⟨(jm a0 o2.1 o2.2.1 y7 [(15,(Bo false))]),[(2,⟨false,4,[(V.agg [(Sr []),(I 0),(V.sl 2 8 (List.map d7 ([]:List a6))),(V.sl 2 4 (List.map b8 ([]:List b4)))])]⟩),(4,⟨false,4,[(V.agg [(Sr y8),(I y9),(i6 ya),(i8 yb)])]⟩)],67⟩)) (u:=fun _=>⟨(jm a0 o2.1 o2.2.1 y7 [(15,(Bo false)),(54,(V.agg [(Sr y8),(I y9),(i6 ya),(i8 yb)]))]),[(2,⟨false,4,[(V.agg [(Sr []),(I 0),(V.sl 2 8 (List.map d7 ([]:List a6))),(V.sl 2 4 (List.map b8 ([]:List b4)))])]⟩),(4,⟨false,4,[(V.agg [(Sr y8),(I y9),(i6 ya),(i8 yb)])]⟩)],67⟩) Z Z Z Z Z Z (gh3 (kH (e:=a7) (e':=d7) (fun _=>rfl) Z Z Z)) Z (fun _=>rfl)) $ et x9 $ rp Z (j9 Z Z Z Z Z (S6 k ({ fName:=y8,fKind:=y9,fTypes:=ya,fIndexes:=yb }:a8)) (.inl Z)) fun v2=>b7 Z) fun o3=>et d4 $ kg Bs Z (fun (o4:Bool)=>⟨[(2,(Pt 2)),(4,(Pt 4)),(64,(Bo o4))],[(2,⟨false,4,[(V.agg [(Sr []),(I 0),(V.sl 2 8 (List.map d7 ([]:List a6))),(V.sl 2 4 (List.map b8 ([]:List b4)))])]⟩),(4,⟨false,4,[(V.agg [(Sr y8),(I y9),(i6 ya),(i8 yb)])]⟩)],67⟩) ?_ fun o4=>?_
   ·refine rd 3 [(58,(I o3.2)),(59,(Bo (o3.2 != 0))),(60,(Bo (o3.2 != 0)))] Z Z $ w8 (fun hc=>?_) fun hc=>?_
    ·rw [hc]
     exact d8 Z
    ·rw [hc]
     exact d8 Z
   refine kc Z Z (fun hc=>?_) fun hc=>?_
   ·rw [hc]
    refine et d4 $ kr (jW ({ fName:=[],fKind:=0,fTypes:=([]:List a6),fIndexes:=([]:List b4) }:a8) (pZ [])) Z $ et I4 ?_
    rfl
   ·rw [hc]
    refine et l6 $ kr (jW ({ fName:=y8,fKind:=y9,fTypes:=ya,fIndexes:=yb }:a8) [(2,(Pt 2)),(3,(I 0))]) Z $ et l7 ?_
    rfl
  ·intro s; exact rfl
def dY:(List Str)→V×List V:=fun r=>((sS r),[])
theorem nH (k:Nat) (a0:Str) (a1:Int)  (K0:(List Str)→Int→Int→Option (List Str)) (Kst:X×St→Option (V×List V)) (hK0:∀ (y0:(List Str)) (y1:Int) (y2:Int),Kst (X.exit 0,(eh (pX a0 a1 y0 [(6,(I y1)),(7,(I y2)),(11,(Bo false))])))=(K0 y0 y1 y2).map dY) (hret:∀ s,Kst (X.ret,s)=P5 prog 34 [(Sr a0),(sqU a1)] [] [.tmp 4] (X.ret,s)):
  ∀ (m:Nat) (x6:(List Str)) (x7:Int) (x8:Int),(L6 (C5 prog (EV k) HR k FT) m (eh (pX a0 a1 x6 [(6,(I x7)),(7,(I x8))]))).bind Kst=(O4 a0 a1 K0 m x6 x7 x8).map dY:=by
 intro m
 induction m with
 | zero=>intros; rfl
 | succ m ih=>
  intro x6 x7 x8
  unfold O4
  refine et A6 $ et d4 $ kra [(11,(Bo (decide (x8 < (a0.length:Int)))))] Z $ kc Z Z (fun hc=>?_) fun hc=>?_
  ·rw [hc]
   refine et l6 $ et (l5 Z) $ kg FQ Z (fun (o0:Bool)=>(eh (pX a0 a1 x6 [(6,(I x7)),(7,(I x8)),(18,(Bo o0))]))) (rd 2 [(14,(Sr a0)),(15,(I x8))] Z Z $ rp Z (F0 Z Z Z underlying9) fun v9=>b7 Z) fun o0=>kcl Z Z (fun hc=>?_) fun hc=>?_
   ·rw [hc]
    exact kg FR Z (fun (o1:(List Str))=>(eh (pX a0 a1 o1 [(7,(I x8))]))) (ra 4 4 (eh [(0,(Sr a0)),(1,(sqU a1)),(5,(sS x6)),(6,(I x7)),(7,(I x8)),(18,(Bo true)),(19,(V.sl 1 1 (List.map V.str x6))),(20,(Sr a0)),(21,(I x7)),(22,(I x8))]) Z Z Z $ rp Z (eL Z Z Z Z Z Z underlying9) fun v0=>bd 6 [(23,(Sr v0)),(24,(sS (([v0]:List Str))))] Z Z $ et (z6 (x:=(app x6 ([v0]:List Str))) (w:=fun v1=>((V.sl 1 1 (List.map V.str v1)),_)) Z Z Z Z (ga (e:=V.str) Z Z Z Z Z Z Z Z Z Z (by decide))) $ s8 fun v1=>b7 Z) fun o1=>kl (eh (pX a0 a1 o1 [(6,(I (sqW (x8+1)))),(7,(I x8))])) Z $ et j5 $ kl (eh (pX a0 a1 o1 [(6,(I (sqW (x8+1)))),(7,(I (sqW (x8+1))))])) Z $ et j6 $ ih o1 (sqW (x8+1)) (sqW (x8+1))
   ·rw [hc]
    exact et w6 $ et j5 $ kl (eh (pX a0 a1 x6 [(6,(I x7)),(7,(I (sqW (x8+1))))])) Z $ et j6 $ ih x6 x7 (sqW (x8+1))
  ·rw [hc]
   exact et C1 $ et s5 $ hK0 x6 x7 x8
theorem lb (k:Nat) (a0:Str) (a1:Int):EV k 49 [(Sr a0),(sqU a1)]=(N1 k a0 a1).map dY:=by
 cases k with
 | zero=>rfl
 | succ k=>
  unfold N1
  refine et (l9 (c:=f49c) (N:=34) (regs:=HR) Z func49 Z (by decide) Z Z Z) $ kra [] Z $ kra [(5,(V.sl 1 1 (List.map V.str ([]:List Str))))] Z $ kra [(6,(I 0))] Z $ et d4 $ kra [(7,(I 0))] Z $ et (l5 Z) $ et B0 ?_
  refine nH k a0 a1 _ _ ?h_ref01_Cut_L1_0 ?hr_ref01_Cut_L1 k ([]:List Str) 0 0
  ·intro y0 y1 y2
   refine et r9 $ kg FS Z (fun (o0:(List Str))=>(eh [(4,(sS o0))])) (ra 3 3 (eh [(0,(Sr a0)),(1,(sqU a1)),(5,(sS y0)),(6,(I y1)),(7,(I y2)),(11,(Bo false)),(28,(V.sl 1 1 (List.map V.str y0))),(29,(Sr a0)),(30,(I y1))]) Z Z Z $ rp Z (eL Z Z Z Z Z Z underlying9) fun v0=>bd 5 [(31,(Sr v0)),(32,(sS (([v0]:List Str))))] Z Z $ et (z6 (x:=(app y0 ([v0]:List Str))) (w:=fun v1=>((V.sl 1 1 (List.map V.str v1)),_)) Z Z Z Z (ga (e:=V.str) Z Z Z Z Z Z Z Z Z Z (by decide))) $ s8 fun v1=>b7 Z) fun o0=>et l7 ?_
   rfl
  ·intro s; exact rfl
def U7:(Int×Int)→V×List V:=fun r=>(.tup [(I r.1),(I r.2)],[])
theorem fE (k:Nat) (a0:Str)  (K0:Int→Int→Option (Int×Int)) (Kst:X×St→Option (V×List V)) (hK0:∀ (y0:Int) (y1:Int),Kst (X.exit 0,(fK [(0,(Sr a0)),(4,(I y0)),(5,(I y1)),(17,(Bo false))]))=(K0 y0 y1).map U7) (hret:∀ s,Kst (X.ret,s)=P5 prog 39 [(Sr a0)] [] [.tmp 2,.tmp 3] (X.ret,s)):
  ∀ (m:Nat) (x7:Int) (x8:Int),(L6 (C5 prog (EV k) HW k GD) m (fK [(0,(Sr a0)),(4,(I x7)),(5,(I x8))])).bind Kst=(E6 a0 K0 m x7 x8).map U7:=by
 intro m
 induction m with
 | zero=>intros; rfl
 | succ m ih=>
  intro x7 x8
  unfold E6
  refine et A6 $ et d4 $ kra [(17,(Bo (decide (x8 < (a0.length:Int)))))] Z $ kc Z Z (fun hc=>?_) fun hc=>?_
  ·rw [hc]
   refine et l6 $ et (l5 Z) $ et d4 $ kg GB Z (fun (o0:Bool)=>(fK [(0,(Sr a0)),(4,(I x7)),(5,(I x8)),(29,(Bo o0))])) ?_ fun o0=>?_
   ·refine rd 2 [(20,(Sr a0)),(21,(I x8))] Z Z $ rp Z (F0 Z Z Z underlying9) fun v9=>bd 5 [(22,(sqU v9)),(23,(Bo (decide (v9 < 48)))),(24,(Bo (decide (v9 < 48))))] Z Z $ w8 (fun hc=>?_) fun hc=>?_
    ·rw [hc]
     exact d8 Z
    ·rw [hc]
     exact rd 7 [(25,(Sr a0)),(26,(I x8))] Z Z $ rp Z (F0 Z Z Z underlying9) fun v0=>b7 Z
   refine kc Z Z (fun hc=>?_) fun hc=>?_
   ·rw [hc]
    refine et d4 $ kr (fK [(2,(I 0)),(3,(I 3))]) Z $ et I4 $ et u6 $ et A0 $ et (hret _) ?_
    rfl
   ·rw [hc]
    exact et l6 $ kgl GC Z (fun (o1:Int)=>(fK [(0,(Sr a0)),(4,(I o1)),(5,(I x8))])) (rd 4 [(30,(I x7)),(31,(I (sqW (10 * x7)))),(32,(Sr a0)),(33,(I x8))] Z Z $ rp Z (F0 Z Z Z underlying9) fun v1=>b7 Z) fun o1=>et j5 $ kl (fK [(0,(Sr a0)),(4,(I o1)),(5,(I (sqW (x8+1))))]) Z $ et j6 $ ih o1 (sqW (x8+1))
  ·rw [hc]
   exact et C1 $ et s5 $ hK0 x7 x8
theorem iO (k:Nat) (a0:Str):EV k 78 [(Sr a0)]=(H7 k a0).map U7:=by
 cases k with
 | zero=>rfl
 | succ k=>
  unfold H7
  refine et (l9 (c:=f78c) (N:=39) (regs:=HW) Z func78 Z (by decide) Z Z Z) $ kra [] Z $ et d4 $ kga GA Z (fun (o1:Bool)=>[(13,(Bo o1))]) ?_ fun o1=>?_
  ·refine rd 4 [(6,(Sr a0)),(7,(I (a0.length:Int))),(8,(Bo (decide ((a0.length:Int) < 1)))),(9,(Bo (decide ((a0.length:Int) < 1))))] Z Z $ w8 (fun hc=>?_) fun hc=>?_
   ·rw [hc]
    exact d8 Z
   ·rw [hc]
    exact d8 Z
  refine kc Z Z (fun hc=>?_) fun hc=>?_
  ·rw [hc]
   refine et d4 $ kr (fK [(2,(I 0)),(3,(I 3))]) Z $ et I4 ?_
   rfl
  ·rw [hc]
   refine et l6 $ kr (fK [(0,(Sr a0)),(4,(I 0))]) Z $ et d4 $ kra [(5,(I 0))] Z $ et (l5 Z) $ et B0 ?_
   refine fE k a0 _ _ ?h_ref01_FromDigits_L1_0 ?hr_ref01_FromDigits_L1 k 0 0
   ·intro y0 y1
    refine et r9 $ kr (fK [(2,(I y0)),(3,(I 0))]) Z $ et l7 ?_
    rfl
   ·intro s; exact rfl
def qA:Str→V×List V:=fun r=>((Sr r),[])
theorem B8 (k:Nat) (a0:Int):EV k 30 [(I a0)]=(m9 k a0).map qA:=by
 induction k generalizing a0 with
 | zero=>intros; rfl
 | succ k ih=>
  unfold m9
  refine et (l9 (c:=f30c) (N:=41) (regs:=IO) Z func30 Z (by decide) Z Z Z) $ kra [] Z $ et (l5 Z) $ kga EK Z (fun (o1:Bool)=>[(3,(Bo o1))]) ?_ fun o1=>?_
  ·refine rd 3 [(4,(I a0)),(5,(Bo (decide (a0 < 0)))),(6,(Bo (decide (a0 < 0))))] Z Z $ w8 (fun hc=>?_) fun hc=>?_
   ·rw [hc]
    exact d8 Z
   ·rw [hc]
    exact d8 Z
  refine kcl Z Z (fun hc=>?_) fun hc=>?_
  ·rw [hc]
   refine kg EL Z (fun (o4:Str)=>(mH [(2,(Sr o4))])) (rd 2 [(10,(I a0)),(11,(I (sqW (0 - a0))))] Z Z $ rp Z (j9 Z Z Z Z Z (ih (sqW (0 - a0))) (.inl Z)) fun v2=>bd 3 [(12,(Sr v2))] Z Z $ rs Z (p9 Z Z Z) fun v3=>b7 Z) fun o4=>et l7 $ et u6 ?_
   rfl
  ·rw [hc]
   refine kr (mH [(0,(I a0)),(14,(Bo (decide (a0 < 0))))]) Z $ kcl Z Z (fun hc=>?_) fun hc=>?_
   ·rw [hc]
    refine kg EM Z (fun (o0:Str)=>(mH [(2,(Sr o0))])) (rd 1 [(17,(I a0))] Z Z $ rp Z (xR Z Z Z) fun v5=>bd 2 [(18,(I v5))] Z Z $ rp Z (j9 Z Z Z Z Z (ih v5) (.inl Z)) fun v6=>bd 4 [(19,(Sr v6)),(20,(I a0))] Z Z $ rp Z (ut Z Z Z) fun v7=>bd 6 [(21,(I v7)),(22,(I (sqW (0 - v7))))] Z Z $ rp Z (j9 Z Z Z Z Z (ih (sqW (0 - v7))) (.inl Z)) fun v8=>bd 7 [(23,(Sr v8))] Z Z $ rs Z (p9 Z Z Z) fun v9=>b7 Z) fun o0=>et l7 $ et u6 ?_
    rfl
   ·rw [hc]
    refine kr (mH [(0,(I a0)),(25,(Bo (decide (a0 < 10))))]) Z $ kcl Z Z (fun hc=>?_) fun hc=>?_
    ·rw [hc]
     refine kg EN Z (fun (o2:Str)=>(mH [(2,(Sr o2))])) (rd 3 [(28,(I a0)),(29,(I (sqW (48+a0)))),(30,(V.int .i32 (Go.IntKind.wrap .i32 (sqW (48+a0)))))] Z Z $ rs Z (uo Z Z underlying21 underlying9) fun v0=>b7 Z) fun o2=>et l7 $ et u6 ?_
     rfl
    ·rw [hc]
     refine et w6 $ et j5 $ kg EO Z (fun (o3:Str)=>(mH [(2,(Sr o3))])) (rd 1 [(32,(I a0))] Z Z $ rp Z (xR Z Z Z) fun v1=>bd 2 [(33,(I v1))] Z Z $ rp Z (j9 Z Z Z Z Z (ih v1) (.inl Z)) fun v4=>bd 4 [(34,(Sr v4)),(35,(I a0))] Z Z $ rp Z (ut Z Z Z) fun va=>bd 7 [(36,(I va)),(37,(I (sqW (48+va)))),(38,(V.int .i32 (Go.IntKind.wrap .i32 (sqW (48+va)))))] Z Z $ rp Z (uo Z Z underlying21 underlying9) fun vb=>bd 8 [(39,(Sr vb))] Z Z $ rs Z (p9 Z Z Z) fun vc=>b7 Z) fun o3=>et l7 ?_
     rfl
def nJ:(Int×Bool)→V×List V:=fun r=>(.tup [(I r.1),(Bo r.2)],[])
end
end Go.AE
