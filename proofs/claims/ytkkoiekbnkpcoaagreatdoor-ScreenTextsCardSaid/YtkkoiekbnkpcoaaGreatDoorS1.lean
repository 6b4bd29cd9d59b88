/- Contracts of the library, laid at this program. Conditions: those that each theorem names. -/
import Derived.Shelf.Strings.BuilderK
import Derived.Shelf.LaysM
import Derived.Shelf.LaysC
import Derived.Shelf.Strconv.Itoa3
import Derived.Shelf.Strconv.AtoiAll
import Derived.Shelf.Strings.Cut
import Derived.Shelf.Strings.Split
import Derived.Shelf.Bits.Mul64
import Derived.Shelf.Strings.Repeat
import Derived.Shelf.Strings.Shaped
import Derived.Test.YtkkoiekbnkpcoaaGreatDoorProg
import Derived.WalkKit
import Derived.Laws.CopyOwn
import Derived.Deep.RegionLaw
import Derived.Deep.LoopGhost
namespace Go.Proofs
open Go.Shelf
def Tryz.lays169_ren : Go.Shelf.Ren := ⟨fun | 169 => 21 | n => n, fun | 70 => 43 | 9 => 9 | 0 => 0 | 72 => 46 | 37 => 44 | 127 => 76 | 3 => 3 | 5 => 5 | n => n, fun | n => n⟩
theorem Tryz.lays169 : Go.Proofs.Lays.n169 Tryz.prog Tryz.lays169_ren := {
 mixed := by kernel_rfl
 f169 := Tryz.func21.trans (congrArg some (by kernel_rfl))
 t0 := Tryz.underlying0
 a0 := Tryz.isAgg0
 z0 := Tryz.sizeOf0
 v0 := Tryz.zeroValue0
 t3 := Tryz.underlying3
 a3 := Tryz.isAgg3
 z3 := Tryz.sizeOf3
 v3 := Tryz.zeroValue3
 t9 := Tryz.underlying9
 a9 := Tryz.isAgg9
 z9 := Tryz.sizeOf9
 v9 := Tryz.zeroValue9
 t37 := Tryz.underlying44
 a37 := Tryz.isAgg44
 z37 := Tryz.sizeOf44
 v37 := Tryz.zeroValue44
 t70 := Tryz.underlying43
 a70 := Tryz.isAgg43
 z70 := Tryz.sizeOf43
 v70 := Tryz.zeroValue43
 t72 := Tryz.underlying46
 a72 := Tryz.isAgg46
 z72 := Tryz.sizeOf46
 v72 := Tryz.zeroValue46
 t127 := Tryz.underlying76
 a127 := Tryz.isAgg76
 z127 := Tryz.sizeOf76
 v127 := Tryz.zeroValue76 }
theorem Tryz.Builder_Extra_169 : Builder.Extra Tryz.prog Tryz.lays169_ren := {
 sizeBuilder := by kernel_rfl
 liesBuilder := by kernel_rfl
 t5 := Tryz.underlying5
 a5 := Tryz.isAgg5
 z5 := Tryz.sizeOf5
 v5 := Tryz.zeroValue5
 infoByte := by kernel_rfl
 cellsByte := by kernel_rfl
 sizeByte := by kernel_rfl
 neB5 := by decide }
def Tryz.lays156_ren : Go.Shelf.Ren := ⟨fun | 156 => 17 | 165 => 40 | 166 => 16 | 169 => 21 | 240 => 39 | 241 => 64 | 276 => 63 | 277 => 80 | n => n, fun | 31 => 39 | 9 => 9 | 3 => 3 | 4 => 4 | 0 => 0 | 20 => 20 | 72 => 46 | 76 => 49 | 70 => 43 | 37 => 44 | 75 => 48 | 127 => 76 | 164 => 100 | 5 => 5 | 80 => 55 | n => n, fun | n => n⟩
theorem Tryz.lays156 : Go.Proofs.Lays.n156 Tryz.prog Tryz.lays156_ren := {
 mixed := by kernel_rfl
 f156 := Tryz.func17.trans (congrArg some (by kernel_rfl))
 f165 := Tryz.func40.trans (congrArg some (by kernel_rfl))
 f166 := Tryz.func16.trans (congrArg some (by kernel_rfl))
 f169 := Tryz.func21.trans (congrArg some (by kernel_rfl))
 f240 := Tryz.func39.trans (congrArg some (by kernel_rfl))
 f241 := Tryz.func64.trans (congrArg some (by kernel_rfl))
 f276 := Tryz.func63.trans (congrArg some (by kernel_rfl))
 f277 := Tryz.func80.trans (congrArg some (by kernel_rfl))
 t0 := Tryz.underlying0
 a0 := Tryz.isAgg0
 z0 := Tryz.sizeOf0
 v0 := Tryz.zeroValue0
 t3 := Tryz.underlying3
 a3 := Tryz.isAgg3
 z3 := Tryz.sizeOf3
 v3 := Tryz.zeroValue3
 t4 := Tryz.underlying4
 a4 := Tryz.isAgg4
 z4 := Tryz.sizeOf4
 v4 := Tryz.zeroValue4
 t9 := Tryz.underlying9
 a9 := Tryz.isAgg9
 z9 := Tryz.sizeOf9
 v9 := Tryz.zeroValue9
 t20 := Tryz.underlying20
 a20 := Tryz.isAgg20
 z20 := Tryz.sizeOf20
 v20 := Tryz.zeroValue20
 t31 := Tryz.underlying39
 a31 := Tryz.isAgg39
 z31 := Tryz.sizeOf39
 v31 := Tryz.zeroValue39
 t37 := Tryz.underlying44
 a37 := Tryz.isAgg44
 z37 := Tryz.sizeOf44
 v37 := Tryz.zeroValue44
 t70 := Tryz.underlying43
 a70 := Tryz.isAgg43
 z70 := Tryz.sizeOf43
 v70 := Tryz.zeroValue43
 t72 := Tryz.underlying46
 a72 := Tryz.isAgg46
 z72 := Tryz.sizeOf46
 v72 := Tryz.zeroValue46
 t75 := Tryz.underlying48
 a75 := Tryz.isAgg48
 z75 := Tryz.sizeOf48
 v75 := Tryz.zeroValue48
 t76 := Tryz.underlying49
 a76 := Tryz.isAgg49
 z76 := Tryz.sizeOf49
 v76 := Tryz.zeroValue49
 t127 := Tryz.underlying76
 a127 := Tryz.isAgg76
 z127 := Tryz.sizeOf76
 v127 := Tryz.zeroValue76
 t164 := Tryz.underlying100
 a164 := Tryz.isAgg100
 z164 := Tryz.sizeOf100
 v164 := Tryz.zeroValue100 }
theorem Tryz.Builder_Extra_156 : Builder.Extra Tryz.prog Tryz.lays156_ren := {
 sizeBuilder := by kernel_rfl
 liesBuilder := by kernel_rfl
 t5 := Tryz.underlying5
 a5 := Tryz.isAgg5
 z5 := Tryz.sizeOf5
 v5 := Tryz.zeroValue5
 infoByte := by kernel_rfl
 cellsByte := by kernel_rfl
 sizeByte := by kernel_rfl
 neB5 := by decide }
def Tryz.laysM171_ren : Go.Shelf.Ren := ⟨fun | 171 => 19 | 243 => 41 | 246 => 65 | 283 => 81 | 284 => 82 | 285 => 83 | 286 => 84 | 129 => 94 | 317 => 93 | 318 => 95 | 319 => 96 | 320 => 97 | 337 => 105 | 338 => 106 | n => n, fun | 3 => 3 | 9 => 9 | 2 => 2 | 4 => 4 | 171 => 116 | 0 => 0 | 53 => 117 | 37 => 44 | 5 => 5 | 173 => 120 | 212 => 133 | 51 => 126 | 20 => 20 | 213 => 134 | 46 => 108 | 232 => 149 | 233 => 150 | n => n, fun | 17 => 1 | 18 => 4 | 19 => 5 | n => n⟩
theorem Tryz.laysM171 : Go.Proofs.LaysM.n171 Tryz.prog Tryz.laysM171_ren := {
 mixed := by kernel_rfl
 f129 := Tryz.func94.trans (congrArg some (by kernel_rfl))
 f171 := Tryz.func19.trans (congrArg some (by kernel_rfl))
 f243 := Tryz.func41.trans (congrArg some (by kernel_rfl))
 f246 := Tryz.func65.trans (congrArg some (by kernel_rfl))
 f283 := Tryz.func81.trans (congrArg some (by kernel_rfl))
 f284 := Tryz.func82.trans (congrArg some (by kernel_rfl))
 f285 := Tryz.func83.trans (congrArg some (by kernel_rfl))
 f286 := Tryz.func84.trans (congrArg some (by kernel_rfl))
 f317 := Tryz.func93.trans (congrArg some (by kernel_rfl))
 f318 := Tryz.func95.trans (congrArg some (by kernel_rfl))
 f319 := Tryz.func96.trans (congrArg some (by kernel_rfl))
 f320 := Tryz.func97.trans (congrArg some (by kernel_rfl))
 f337 := Tryz.func105.trans (congrArg some (by kernel_rfl))
 f338 := Tryz.func106.trans (congrArg some (by kernel_rfl))
 t0 := Tryz.underlying0
 a0 := Tryz.isAgg0
 z0 := Tryz.sizeOf0
 v0 := Tryz.zeroValue0
 t2 := Tryz.underlying2
 a2 := Tryz.isAgg2
 z2 := Tryz.sizeOf2
 v2 := Tryz.zeroValue2
 t3 := Tryz.underlying3
 a3 := Tryz.isAgg3
 z3 := Tryz.sizeOf3
 v3 := Tryz.zeroValue3
 t4 := Tryz.underlying4
 a4 := Tryz.isAgg4
 z4 := Tryz.sizeOf4
 v4 := Tryz.zeroValue4
 t5 := Tryz.underlying5
 a5 := Tryz.isAgg5
 z5 := Tryz.sizeOf5
 v5 := Tryz.zeroValue5
 t9 := Tryz.underlying9
 a9 := Tryz.isAgg9
 z9 := Tryz.sizeOf9
 v9 := Tryz.zeroValue9
 t20 := Tryz.underlying20
 a20 := Tryz.isAgg20
 z20 := Tryz.sizeOf20
 v20 := Tryz.zeroValue20
 t37 := Tryz.underlying44
 a37 := Tryz.isAgg44
 z37 := Tryz.sizeOf44
 v37 := Tryz.zeroValue44
 t46 := Tryz.underlying108
 a46 := Tryz.isAgg108
 z46 := Tryz.sizeOf108
 v46 := Tryz.zeroValue108
 t51 := Tryz.underlying126
 a51 := Tryz.isAgg126
 z51 := Tryz.sizeOf126
 v51 := Tryz.zeroValue126
 t53 := Tryz.underlying117
 a53 := Tryz.isAgg117
 z53 := Tryz.sizeOf117
 v53 := Tryz.zeroValue117
 t171 := Tryz.underlying116
 a171 := Tryz.isAgg116
 z171 := Tryz.sizeOf116
 v171 := Tryz.zeroValue116
 t173 := Tryz.underlying120
 a173 := Tryz.isAgg120
 z173 := Tryz.sizeOf120
 v173 := Tryz.zeroValue120
 t212 := Tryz.underlying133
 a212 := Tryz.isAgg133
 z212 := Tryz.sizeOf133
 v212 := Tryz.zeroValue133
 t213 := Tryz.underlying134
 a213 := Tryz.isAgg134
 z213 := Tryz.sizeOf134
 t232 := Tryz.underlying149
 a232 := Tryz.isAgg149
 z232 := Tryz.sizeOf149
 v232 := Tryz.zeroValue149
 t233 := Tryz.underlying150
 a233 := Tryz.isAgg150
 z233 := Tryz.sizeOf150
 v233 := Tryz.zeroValue150
 g17 := by kernel_rfl
 g18 := by kernel_rfl
 g19 := by kernel_rfl
 i0 := by kernel_rfl
 i2 := by kernel_rfl
 i3 := by kernel_rfl
 i4 := by kernel_rfl
 i5 := by kernel_rfl
 i9 := by kernel_rfl
 i20 := by kernel_rfl
 i37 := by kernel_rfl
 i46 := by kernel_rfl
 i51 := by kernel_rfl
 i53 := by kernel_rfl
 i171 := by kernel_rfl
 i173 := by kernel_rfl
 i212 := by kernel_rfl
 i232 := by kernel_rfl
 i233 := by kernel_rfl
 m17 := by kernel_rfl
 m18 := by kernel_rfl
 m19 := by kernel_rfl }
def Tryz.laysC172_ren : Go.Shelf.Ren := ⟨fun | 172 => 89 | 244 => 103 | 245 => 104 | 247 => 109 | 279 => 110 | 280 => 111 | 281 => 112 | 282 => 113 | 287 => 114 | 316 => 115 | 171 => 19 | 205 => 116 | 321 => 117 | 322 => 118 | 243 => 41 | 246 => 65 | 283 => 81 | 284 => 82 | 285 => 83 | 286 => 84 | 129 => 94 | 317 => 93 | 318 => 95 | 319 => 96 | 320 => 97 | 337 => 105 | 338 => 106 | n => n, fun | 9 => 9 | 3 => 3 | 75 => 48 | 76 => 49 | 4 => 4 | 5 => 5 | 167 => 143 | 37 => 44 | 0 => 0 | 85 => 144 | 2 => 2 | 168 => 146 | 53 => 117 | 175 => 151 | 46 => 108 | 210 => 155 | 127 => 76 | 145 => 160 | 143 => 158 | 21 => 21 | 171 => 116 | 173 => 120 | 212 => 133 | 51 => 126 | 20 => 20 | 213 => 134 | 232 => 149 | 233 => 150 | 80 => 55 | n => n, fun | 15 => 6 | 16 => 7 | 17 => 1 | 18 => 4 | 19 => 5 | n => n⟩
theorem Tryz.laysC172 : Go.Proofs.LaysC.n172 Tryz.prog Tryz.laysC172_ren := {
 mixed := by kernel_rfl
 f129 := Tryz.func94.trans (congrArg some (by kernel_rfl))
 f171 := Tryz.func19.trans (congrArg some (by kernel_rfl))
 f172 := Tryz.func89.trans (congrArg some (by kernel_rfl))
 f205 := Tryz.func116.trans (congrArg some (by kernel_rfl))
 f243 := Tryz.func41.trans (congrArg some (by kernel_rfl))
 f244 := Tryz.func103.trans (congrArg some (by kernel_rfl))
 f245 := Tryz.func104.trans (congrArg some (by kernel_rfl))
 f246 := Tryz.func65.trans (congrArg some (by kernel_rfl))
 f247 := Tryz.func109.trans (congrArg some (by kernel_rfl))
 f279 := Tryz.func110.trans (congrArg some (by kernel_rfl))
 f280 := Tryz.func111.trans (congrArg some (by kernel_rfl))
 f281 := Tryz.func112.trans (congrArg some (by kernel_rfl))
 f282 := Tryz.func113.trans (congrArg some (by kernel_rfl))
 f283 := Tryz.func81.trans (congrArg some (by kernel_rfl))
 f284 := Tryz.func82.trans (congrArg some (by kernel_rfl))
 f285 := Tryz.func83.trans (congrArg some (by kernel_rfl))
 f286 := Tryz.func84.trans (congrArg some (by kernel_rfl))
 f287 := Tryz.func114.trans (congrArg some (by kernel_rfl))
 f316 := Tryz.func115.trans (congrArg some (by kernel_rfl))
 f317 := Tryz.func93.trans (congrArg some (by kernel_rfl))
 f318 := Tryz.func95.trans (congrArg some (by kernel_rfl))
 f319 := Tryz.func96.trans (congrArg some (by kernel_rfl))
 f320 := Tryz.func97.trans (congrArg some (by kernel_rfl))
 f321 := Tryz.func117.trans (congrArg some (by kernel_rfl))
 f322 := Tryz.func118.trans (congrArg some (by kernel_rfl))
 f337 := Tryz.func105.trans (congrArg some (by kernel_rfl))
 f338 := Tryz.func106.trans (congrArg some (by kernel_rfl))
 t0 := Tryz.underlying0
 a0 := Tryz.isAgg0
 z0 := Tryz.sizeOf0
 v0 := Tryz.zeroValue0
 t2 := Tryz.underlying2
 a2 := Tryz.isAgg2
 z2 := Tryz.sizeOf2
 v2 := Tryz.zeroValue2
 t3 := Tryz.underlying3
 a3 := Tryz.isAgg3
 z3 := Tryz.sizeOf3
 v3 := Tryz.zeroValue3
 t4 := Tryz.underlying4
 a4 := Tryz.isAgg4
 z4 := Tryz.sizeOf4
 v4 := Tryz.zeroValue4
 t5 := Tryz.underlying5
 a5 := Tryz.isAgg5
 z5 := Tryz.sizeOf5
 v5 := Tryz.zeroValue5
 t9 := Tryz.underlying9
 a9 := Tryz.isAgg9
 z9 := Tryz.sizeOf9
 v9 := Tryz.zeroValue9
 t20 := Tryz.underlying20
 a20 := Tryz.isAgg20
 z20 := Tryz.sizeOf20
 v20 := Tryz.zeroValue20
 t21 := Tryz.underlying21
 a21 := Tryz.isAgg21
 z21 := Tryz.sizeOf21
 v21 := Tryz.zeroValue21
 t37 := Tryz.underlying44
 a37 := Tryz.isAgg44
 z37 := Tryz.sizeOf44
 v37 := Tryz.zeroValue44
 t46 := Tryz.underlying108
 a46 := Tryz.isAgg108
 z46 := Tryz.sizeOf108
 v46 := Tryz.zeroValue108
 t51 := Tryz.underlying126
 a51 := Tryz.isAgg126
 z51 := Tryz.sizeOf126
 v51 := Tryz.zeroValue126
 t53 := Tryz.underlying117
 a53 := Tryz.isAgg117
 z53 := Tryz.sizeOf117
 v53 := Tryz.zeroValue117
 t75 := Tryz.underlying48
 a75 := Tryz.isAgg48
 z75 := Tryz.sizeOf48
 v75 := Tryz.zeroValue48
 t76 := Tryz.underlying49
 a76 := Tryz.isAgg49
 z76 := Tryz.sizeOf49
 v76 := Tryz.zeroValue49
 t85 := Tryz.underlying144
 a85 := Tryz.isAgg144
 z85 := Tryz.sizeOf144
 v85 := Tryz.zeroValue144
 t127 := Tryz.underlying76
 a127 := Tryz.isAgg76
 z127 := Tryz.sizeOf76
 v127 := Tryz.zeroValue76
 t143 := Tryz.underlying158
 a143 := Tryz.isAgg158
 z143 := Tryz.sizeOf158
 v143 := Tryz.zeroValue158
 t145 := Tryz.underlying160
 a145 := Tryz.isAgg160
 z145 := Tryz.sizeOf160
 v145 := Tryz.zeroValue160
 t167 := Tryz.underlying143
 a167 := Tryz.isAgg143
 z167 := Tryz.sizeOf143
 v167 := Tryz.zeroValue143
 t168 := Tryz.underlying146
 a168 := Tryz.isAgg146
 z168 := Tryz.sizeOf146
 v168 := Tryz.zeroValue146
 t171 := Tryz.underlying116
 a171 := Tryz.isAgg116
 z171 := Tryz.sizeOf116
 v171 := Tryz.zeroValue116
 t173 := Tryz.underlying120
 a173 := Tryz.isAgg120
 z173 := Tryz.sizeOf120
 v173 := Tryz.zeroValue120
 t175 := Tryz.underlying151
 a175 := Tryz.isAgg151
 z175 := Tryz.sizeOf151
 v175 := Tryz.zeroValue151
 t210 := Tryz.underlying155
 a210 := Tryz.isAgg155
 z210 := Tryz.sizeOf155
 v210 := Tryz.zeroValue155
 t212 := Tryz.underlying133
 a212 := Tryz.isAgg133
 z212 := Tryz.sizeOf133
 v212 := Tryz.zeroValue133
 t213 := Tryz.underlying134
 a213 := Tryz.isAgg134
 z213 := Tryz.sizeOf134
 t232 := Tryz.underlying149
 a232 := Tryz.isAgg149
 z232 := Tryz.sizeOf149
 v232 := Tryz.zeroValue149
 t233 := Tryz.underlying150
 a233 := Tryz.isAgg150
 z233 := Tryz.sizeOf150
 v233 := Tryz.zeroValue150
 g15 := by kernel_rfl
 g16 := by kernel_rfl
 g17 := by kernel_rfl
 g18 := by kernel_rfl
 g19 := by kernel_rfl
 t80 := Tryz.underlying55
 a80 := Tryz.isAgg55
 z80 := Tryz.sizeOf55
 v80 := Tryz.zeroValue55
 i0 := by kernel_rfl
 i2 := by kernel_rfl
 i3 := by kernel_rfl
 i4 := by kernel_rfl
 i5 := by kernel_rfl
 i9 := by kernel_rfl
 i20 := by kernel_rfl
 i21 := by kernel_rfl
 i37 := by kernel_rfl
 i46 := by kernel_rfl
 i51 := by kernel_rfl
 i53 := by kernel_rfl
 i75 := by kernel_rfl
 i76 := by kernel_rfl
 i80 := by kernel_rfl
 i85 := by kernel_rfl
 i127 := by kernel_rfl
 i143 := by kernel_rfl
 i145 := by kernel_rfl
 i167 := by kernel_rfl
 i168 := by kernel_rfl
 i171 := by kernel_rfl
 i173 := by kernel_rfl
 i175 := by kernel_rfl
 i210 := by kernel_rfl
 i212 := by kernel_rfl
 i232 := by kernel_rfl
 i233 := by kernel_rfl
 m15 := by kernel_rfl
 m16 := by kernel_rfl
 m17 := by kernel_rfl
 m18 := by kernel_rfl
 m19 := by kernel_rfl
 c0 := by kernel_rfl
 c2 := by kernel_rfl
 c3 := by kernel_rfl
 c4 := by kernel_rfl
 c5 := by kernel_rfl
 c9 := by kernel_rfl
 c20 := by kernel_rfl
 c21 := by kernel_rfl
 c37 := by kernel_rfl
 c46 := by kernel_rfl
 c51 := by kernel_rfl
 c53 := by kernel_rfl
 c75 := by kernel_rfl
 c76 := by kernel_rfl
 c80 := by kernel_rfl
 c85 := by kernel_rfl
 c127 := by kernel_rfl
 c143 := by kernel_rfl
 c145 := by kernel_rfl
 c167 := by kernel_rfl
 c168 := by kernel_rfl
 c171 := by kernel_rfl
 c173 := by kernel_rfl
 c175 := by kernel_rfl
 c210 := by kernel_rfl
 c212 := by kernel_rfl
 c213 := by kernel_rfl
 c232 := by kernel_rfl
 c233 := by kernel_rfl }
def Tryz.lays145_ren : Go.Shelf.Ren := ⟨fun | 145 => 46 | 220 => 70 | 219 => 88 | 217 => 99 | 225 => 100 | 224 => 101 | 267 => 102 | 266 => 107 | 314 => 108 | n => n, fun | 9 => 9 | 4 => 4 | 59 => 83 | 3 => 3 | 5 => 5 | 46 => 108 | 146 => 127 | 51 => 126 | n => n, fun | 1 => 0 | n => n⟩
theorem Tryz.lays145 : Go.Proofs.Lays.n145 Tryz.prog Tryz.lays145_ren := {
 mixed := by kernel_rfl
 f145 := Tryz.func46.trans (congrArg some (by kernel_rfl))
 f217 := Tryz.func99.trans (congrArg some (by kernel_rfl))
 f219 := Tryz.func88.trans (congrArg some (by kernel_rfl))
 f220 := Tryz.func70.trans (congrArg some (by kernel_rfl))
 f224 := Tryz.func101.trans (congrArg some (by kernel_rfl))
 f225 := Tryz.func100.trans (congrArg some (by kernel_rfl))
 f266 := Tryz.func107.trans (congrArg some (by kernel_rfl))
 f267 := Tryz.func102.trans (congrArg some (by kernel_rfl))
 f314 := Tryz.func108.trans (congrArg some (by kernel_rfl))
 t3 := Tryz.underlying3
 a3 := Tryz.isAgg3
 z3 := Tryz.sizeOf3
 v3 := Tryz.zeroValue3
 t4 := Tryz.underlying4
 a4 := Tryz.isAgg4
 z4 := Tryz.sizeOf4
 v4 := Tryz.zeroValue4
 t5 := Tryz.underlying5
 a5 := Tryz.isAgg5
 z5 := Tryz.sizeOf5
 v5 := Tryz.zeroValue5
 t9 := Tryz.underlying9
 a9 := Tryz.isAgg9
 z9 := Tryz.sizeOf9
 v9 := Tryz.zeroValue9
 t46 := Tryz.underlying108
 a46 := Tryz.isAgg108
 z46 := Tryz.sizeOf108
 v46 := Tryz.zeroValue108
 t51 := Tryz.underlying126
 a51 := Tryz.isAgg126
 z51 := Tryz.sizeOf126
 v51 := Tryz.zeroValue126
 t59 := Tryz.underlying83
 a59 := Tryz.isAgg83
 z59 := Tryz.sizeOf83
 v59 := Tryz.zeroValue83
 t146 := Tryz.underlying127
 a146 := Tryz.isAgg127
 z146 := Tryz.sizeOf127
 v146 := Tryz.zeroValue127
 g1 := by kernel_rfl }
def Tryz.lays146_ren : Go.Shelf.Ren := ⟨fun | 146 => 25 | 221 => 45 | 268 => 67 | 138 => 68 | 143 => 69 | 195 => 85 | 197 => 86 | 218 => 87 | 219 => 88 | 260 => 98 | 217 => 99 | 225 => 100 | 224 => 101 | 267 => 102 | 266 => 107 | 314 => 108 | n => n, fun | 9 => 9 | 31 => 39 | 3 => 3 | 4 => 4 | 0 => 0 | 105 => 123 | 21 => 21 | 5 => 5 | 46 => 108 | 119 => 138 | 139 => 141 | 138 => 140 | 146 => 127 | 51 => 126 | n => n, fun | 1 => 0 | 3 => 2 | 4 => 3 | n => n⟩
theorem Tryz.lays146 : Go.Proofs.Lays.n146 Tryz.prog Tryz.lays146_ren := {
 mixed := by kernel_rfl
 f138 := Tryz.func68.trans (congrArg some (by kernel_rfl))
 f143 := Tryz.func69.trans (congrArg some (by kernel_rfl))
 f146 := Tryz.func25.trans (congrArg some (by kernel_rfl))
 f195 := Tryz.func85.trans (congrArg some (by kernel_rfl))
 f197 := Tryz.func86.trans (congrArg some (by kernel_rfl))
 f217 := Tryz.func99.trans (congrArg some (by kernel_rfl))
 f218 := Tryz.func87.trans (congrArg some (by kernel_rfl))
 f219 := Tryz.func88.trans (congrArg some (by kernel_rfl))
 f221 := Tryz.func45.trans (congrArg some (by kernel_rfl))
 f224 := Tryz.func101.trans (congrArg some (by kernel_rfl))
 f225 := Tryz.func100.trans (congrArg some (by kernel_rfl))
 f260 := Tryz.func98.trans (congrArg some (by kernel_rfl))
 f266 := Tryz.func107.trans (congrArg some (by kernel_rfl))
 f267 := Tryz.func102.trans (congrArg some (by kernel_rfl))
 f268 := Tryz.func67.trans (congrArg some (by kernel_rfl))
 f314 := Tryz.func108.trans (congrArg some (by kernel_rfl))
 t0 := Tryz.underlying0
 a0 := Tryz.isAgg0
 z0 := Tryz.sizeOf0
 v0 := Tryz.zeroValue0
 t3 := Tryz.underlying3
 a3 := Tryz.isAgg3
 z3 := Tryz.sizeOf3
 v3 := Tryz.zeroValue3
 t4 := Tryz.underlying4
 a4 := Tryz.isAgg4
 z4 := Tryz.sizeOf4
 v4 := Tryz.zeroValue4
 t5 := Tryz.underlying5
 a5 := Tryz.isAgg5
 z5 := Tryz.sizeOf5
 v5 := Tryz.zeroValue5
 t9 := Tryz.underlying9
 a9 := Tryz.isAgg9
 z9 := Tryz.sizeOf9
 v9 := Tryz.zeroValue9
 t21 := Tryz.underlying21
 a21 := Tryz.isAgg21
 z21 := Tryz.sizeOf21
 v21 := Tryz.zeroValue21
 t31 := Tryz.underlying39
 a31 := Tryz.isAgg39
 z31 := Tryz.sizeOf39
 v31 := Tryz.zeroValue39
 t46 := Tryz.underlying108
 a46 := Tryz.isAgg108
 z46 := Tryz.sizeOf108
 v46 := Tryz.zeroValue108
 t51 := Tryz.underlying126
 a51 := Tryz.isAgg126
 z51 := Tryz.sizeOf126
 v51 := Tryz.zeroValue126
 t105 := Tryz.underlying123
 a105 := Tryz.isAgg123
 z105 := Tryz.sizeOf123
 v105 := Tryz.zeroValue123
 t119 := Tryz.underlying138
 a119 := Tryz.isAgg138
 z119 := Tryz.sizeOf138
 t138 := Tryz.underlying140
 a138 := Tryz.isAgg140
 z138 := Tryz.sizeOf140
 v138 := Tryz.zeroValue140
 t139 := Tryz.underlying141
 a139 := Tryz.isAgg141
 z139 := Tryz.sizeOf141
 v139 := Tryz.zeroValue141
 t146 := Tryz.underlying127
 a146 := Tryz.isAgg127
 z146 := Tryz.sizeOf127
 v146 := Tryz.zeroValue127
 g1 := by kernel_rfl
 g3 := by kernel_rfl
 g4 := by kernel_rfl }
def Tryz.lays147_ren : Go.Shelf.Ren := ⟨fun | 147 => 48 | 221 => 45 | 268 => 67 | 138 => 68 | 143 => 69 | 195 => 85 | 197 => 86 | 218 => 87 | 219 => 88 | 260 => 98 | 217 => 99 | 225 => 100 | 224 => 101 | 267 => 102 | 266 => 107 | 314 => 108 | n => n, fun | 9 => 9 | 3 => 3 | 31 => 39 | 4 => 4 | 0 => 0 | 105 => 123 | 21 => 21 | 5 => 5 | 46 => 108 | 119 => 138 | 139 => 141 | 138 => 140 | 146 => 127 | 51 => 126 | n => n, fun | 1 => 0 | 3 => 2 | 4 => 3 | n => n⟩
theorem Tryz.lays147 : Go.Proofs.Lays.n147 Tryz.prog Tryz.lays147_ren := {
 mixed := by kernel_rfl
 f138 := Tryz.func68.trans (congrArg some (by kernel_rfl))
 f143 := Tryz.func69.trans (congrArg some (by kernel_rfl))
 f147 := Tryz.func48.trans (congrArg some (by kernel_rfl))
 f195 := Tryz.func85.trans (congrArg some (by kernel_rfl))
 f197 := Tryz.func86.trans (congrArg some (by kernel_rfl))
 f217 := Tryz.func99.trans (congrArg some (by kernel_rfl))
 f218 := Tryz.func87.trans (congrArg some (by kernel_rfl))
 f219 := Tryz.func88.trans (congrArg some (by kernel_rfl))
 f221 := Tryz.func45.trans (congrArg some (by kernel_rfl))
 f224 := Tryz.func101.trans (congrArg some (by kernel_rfl))
 f225 := Tryz.func100.trans (congrArg some (by kernel_rfl))
 f260 := Tryz.func98.trans (congrArg some (by kernel_rfl))
 f266 := Tryz.func107.trans (congrArg some (by kernel_rfl))
 f267 := Tryz.func102.trans (congrArg some (by kernel_rfl))
 f268 := Tryz.func67.trans (congrArg some (by kernel_rfl))
 f314 := Tryz.func108.trans (congrArg some (by kernel_rfl))
 t0 := Tryz.underlying0
 a0 := Tryz.isAgg0
 z0 := Tryz.sizeOf0
 v0 := Tryz.zeroValue0
 t3 := Tryz.underlying3
 a3 := Tryz.isAgg3
 z3 := Tryz.sizeOf3
 v3 := Tryz.zeroValue3
 t4 := Tryz.underlying4
 a4 := Tryz.isAgg4
 z4 := Tryz.sizeOf4
 v4 := Tryz.zeroValue4
 t5 := Tryz.underlying5
 a5 := Tryz.isAgg5
 z5 := Tryz.sizeOf5
 v5 := Tryz.zeroValue5
 t9 := Tryz.underlying9
 a9 := Tryz.isAgg9
 z9 := Tryz.sizeOf9
 v9 := Tryz.zeroValue9
 t21 := Tryz.underlying21
 a21 := Tryz.isAgg21
 z21 := Tryz.sizeOf21
 v21 := Tryz.zeroValue21
 t31 := Tryz.underlying39
 a31 := Tryz.isAgg39
 z31 := Tryz.sizeOf39
 v31 := Tryz.zeroValue39
 t46 := Tryz.underlying108
 a46 := Tryz.isAgg108
 z46 := Tryz.sizeOf108
 v46 := Tryz.zeroValue108
 t51 := Tryz.underlying126
 a51 := Tryz.isAgg126
 z51 := Tryz.sizeOf126
 v51 := Tryz.zeroValue126
 t105 := Tryz.underlying123
 a105 := Tryz.isAgg123
 z105 := Tryz.sizeOf123
 v105 := Tryz.zeroValue123
 t119 := Tryz.underlying138
 a119 := Tryz.isAgg138
 z119 := Tryz.sizeOf138
 t138 := Tryz.underlying140
 a138 := Tryz.isAgg140
 z138 := Tryz.sizeOf140
 v138 := Tryz.zeroValue140
 t139 := Tryz.underlying141
 a139 := Tryz.isAgg141
 z139 := Tryz.sizeOf141
 v139 := Tryz.zeroValue141
 t146 := Tryz.underlying127
 a146 := Tryz.isAgg127
 z146 := Tryz.sizeOf127
 v146 := Tryz.zeroValue127
 g1 := by kernel_rfl
 g3 := by kernel_rfl
 g4 := by kernel_rfl }
def Tryz.laysM146_ren : Go.Shelf.Ren := ⟨fun | 146 => 25 | 221 => 45 | 268 => 67 | 138 => 68 | 143 => 69 | 195 => 85 | 197 => 86 | 218 => 87 | 219 => 88 | 260 => 98 | 217 => 99 | 225 => 100 | 224 => 101 | 267 => 102 | 266 => 107 | 314 => 108 | n => n, fun | 9 => 9 | 31 => 39 | 3 => 3 | 4 => 4 | 0 => 0 | 105 => 123 | 21 => 21 | 5 => 5 | 46 => 108 | 119 => 138 | 139 => 141 | 138 => 140 | 146 => 127 | 51 => 126 | n => n, fun | 1 => 0 | 3 => 2 | 4 => 3 | n => n⟩
theorem Tryz.laysM146 : Go.Proofs.LaysM.n146 Tryz.prog Tryz.laysM146_ren := {
 mixed := by kernel_rfl
 f138 := Tryz.func68.trans (congrArg some (by kernel_rfl))
 f143 := Tryz.func69.trans (congrArg some (by kernel_rfl))
 f146 := Tryz.func25.trans (congrArg some (by kernel_rfl))
 f195 := Tryz.func85.trans (congrArg some (by kernel_rfl))
 f197 := Tryz.func86.trans (congrArg some (by kernel_rfl))
 f217 := Tryz.func99.trans (congrArg some (by kernel_rfl))
 f218 := Tryz.func87.trans (congrArg some (by kernel_rfl))
 f219 := Tryz.func88.trans (congrArg some (by kernel_rfl))
 f221 := Tryz.func45.trans (congrArg some (by kernel_rfl))
 f224 := Tryz.func101.trans (congrArg some (by kernel_rfl))
 f225 := Tryz.func100.trans (congrArg some (by kernel_rfl))
 f260 := Tryz.func98.trans (congrArg some (by kernel_rfl))
 f266 := Tryz.func107.trans (congrArg some (by kernel_rfl))
 f267 := Tryz.func102.trans (congrArg some (by kernel_rfl))
 f268 := Tryz.func67.trans (congrArg some (by kernel_rfl))
 f314 := Tryz.func108.trans (congrArg some (by kernel_rfl))
 t0 := Tryz.underlying0
 a0 := Tryz.isAgg0
 z0 := Tryz.sizeOf0
 v0 := Tryz.zeroValue0
 t3 := Tryz.underlying3
 a3 := Tryz.isAgg3
 z3 := Tryz.sizeOf3
 v3 := Tryz.zeroValue3
 t4 := Tryz.underlying4
 a4 := Tryz.isAgg4
 z4 := Tryz.sizeOf4
 v4 := Tryz.zeroValue4
 t5 := Tryz.underlying5
 a5 := Tryz.isAgg5
 z5 := Tryz.sizeOf5
 v5 := Tryz.zeroValue5
 t9 := Tryz.underlying9
 a9 := Tryz.isAgg9
 z9 := Tryz.sizeOf9
 v9 := Tryz.zeroValue9
 t21 := Tryz.underlying21
 a21 := Tryz.isAgg21
 z21 := Tryz.sizeOf21
 v21 := Tryz.zeroValue21
 t31 := Tryz.underlying39
 a31 := Tryz.isAgg39
 z31 := Tryz.sizeOf39
 v31 := Tryz.zeroValue39
 t46 := Tryz.underlying108
 a46 := Tryz.isAgg108
 z46 := Tryz.sizeOf108
 v46 := Tryz.zeroValue108
 t51 := Tryz.underlying126
 a51 := Tryz.isAgg126
 z51 := Tryz.sizeOf126
 v51 := Tryz.zeroValue126
 t105 := Tryz.underlying123
 a105 := Tryz.isAgg123
 z105 := Tryz.sizeOf123
 v105 := Tryz.zeroValue123
 t119 := Tryz.underlying138
 a119 := Tryz.isAgg138
 z119 := Tryz.sizeOf138
 t138 := Tryz.underlying140
 a138 := Tryz.isAgg140
 z138 := Tryz.sizeOf140
 v138 := Tryz.zeroValue140
 t139 := Tryz.underlying141
 a139 := Tryz.isAgg141
 z139 := Tryz.sizeOf141
 v139 := Tryz.zeroValue141
 t146 := Tryz.underlying127
 a146 := Tryz.isAgg127
 z146 := Tryz.sizeOf127
 v146 := Tryz.zeroValue127
 g1 := by kernel_rfl
 g3 := by kernel_rfl
 g4 := by kernel_rfl
 i0 := by kernel_rfl
 i3 := by kernel_rfl
 i4 := by kernel_rfl
 i5 := by kernel_rfl
 i9 := by kernel_rfl
 i21 := by kernel_rfl
 i31 := by kernel_rfl
 i46 := by kernel_rfl
 i51 := by kernel_rfl
 i105 := by kernel_rfl
 i138 := by kernel_rfl
 i139 := by kernel_rfl
 i146 := by kernel_rfl
 m1 := by kernel_rfl
 s1_3 := fun w h => Go.Proofs.cell_of_shapedOpen_int (zero := #[.int .i64 0]) (t := 3) h (of_decide_eq_true (by kernel_rfl)) (by kernel_rfl) rfl (by kernel_rfl) (by kernel_rfl) Tryz.underlying3
 m3 := by kernel_rfl
 m4 := by kernel_rfl }
def Tryz.lays212_ren : Go.Shelf.Ren := ⟨fun | 212 => 74 | 263 => 90 | 264 => 91 | n => n, fun | 46 => 108 | 51 => 126 | 146 => 127 | 53 => 117 | 148 => 129 | n => n, fun | n => n⟩
theorem Tryz.lays212 : Go.Proofs.Lays.n212 Tryz.prog Tryz.lays212_ren := {
 mixed := by kernel_rfl
 f212 := Tryz.func74.trans (congrArg some (by kernel_rfl))
 f263 := Tryz.func90.trans (congrArg some (by kernel_rfl))
 f264 := Tryz.func91.trans (congrArg some (by kernel_rfl))
 t46 := Tryz.underlying108
 a46 := Tryz.isAgg108
 z46 := Tryz.sizeOf108
 v46 := Tryz.zeroValue108
 t51 := Tryz.underlying126
 a51 := Tryz.isAgg126
 z51 := Tryz.sizeOf126
 v51 := Tryz.zeroValue126
 t53 := Tryz.underlying117
 a53 := Tryz.isAgg117
 z53 := Tryz.sizeOf117
 v53 := Tryz.zeroValue117
 t146 := Tryz.underlying127
 a146 := Tryz.isAgg127
 z146 := Tryz.sizeOf127
 v146 := Tryz.zeroValue127
 t148 := Tryz.underlying129
 a148 := Tryz.isAgg129
 z148 := Tryz.sizeOf129
 v148 := Tryz.zeroValue129 }
def Tryz.lays105_ren : Go.Shelf.Ren := ⟨fun | 105 => 53 | 212 => 74 | 99 => 75 | 165 => 40 | 166 => 16 | 170 => 76 | 169 => 21 | 263 => 90 | 264 => 91 | 206 => 92 | 240 => 39 | 241 => 64 | 276 => 63 | 277 => 80 | n => n, fun | 9 => 9 | 3 => 3 | 4 => 4 | 20 => 20 | 0 => 0 | 46 => 108 | 109 => 109 | 5 => 5 | 72 => 46 | 76 => 49 | 51 => 126 | 146 => 127 | 53 => 117 | 148 => 129 | 70 => 43 | 37 => 44 | 75 => 48 | 127 => 76 | 164 => 100 | 80 => 55 | n => n, fun | n => n⟩
theorem Tryz.lays105 : Go.Proofs.Lays.n105 Tryz.prog Tryz.lays105_ren := {
 mixed := by kernel_rfl
 f99 := Tryz.func75.trans (congrArg some (by kernel_rfl))
 f105 := Tryz.func53.trans (congrArg some (by kernel_rfl))
 f165 := Tryz.func40.trans (congrArg some (by kernel_rfl))
 f166 := Tryz.func16.trans (congrArg some (by kernel_rfl))
 f169 := Tryz.func21.trans (congrArg some (by kernel_rfl))
 f170 := Tryz.func76.trans (congrArg some (by kernel_rfl))
 f206 := Tryz.func92.trans (congrArg some (by kernel_rfl))
 f212 := Tryz.func74.trans (congrArg some (by kernel_rfl))
 f240 := Tryz.func39.trans (congrArg some (by kernel_rfl))
 f241 := Tryz.func64.trans (congrArg some (by kernel_rfl))
 f263 := Tryz.func90.trans (congrArg some (by kernel_rfl))
 f264 := Tryz.func91.trans (congrArg some (by kernel_rfl))
 f276 := Tryz.func63.trans (congrArg some (by kernel_rfl))
 f277 := Tryz.func80.trans (congrArg some (by kernel_rfl))
 t0 := Tryz.underlying0
 a0 := Tryz.isAgg0
 z0 := Tryz.sizeOf0
 v0 := Tryz.zeroValue0
 t3 := Tryz.underlying3
 a3 := Tryz.isAgg3
 z3 := Tryz.sizeOf3
 v3 := Tryz.zeroValue3
 t4 := Tryz.underlying4
 a4 := Tryz.isAgg4
 z4 := Tryz.sizeOf4
 v4 := Tryz.zeroValue4
 t5 := Tryz.underlying5
 a5 := Tryz.isAgg5
 z5 := Tryz.sizeOf5
 v5 := Tryz.zeroValue5
 t9 := Tryz.underlying9
 a9 := Tryz.isAgg9
 z9 := Tryz.sizeOf9
 v9 := Tryz.zeroValue9
 t20 := Tryz.underlying20
 a20 := Tryz.isAgg20
 z20 := Tryz.sizeOf20
 v20 := Tryz.zeroValue20
 t37 := Tryz.underlying44
 a37 := Tryz.isAgg44
 z37 := Tryz.sizeOf44
 v37 := Tryz.zeroValue44
 t46 := Tryz.underlying108
 a46 := Tryz.isAgg108
 z46 := Tryz.sizeOf108
 v46 := Tryz.zeroValue108
 t51 := Tryz.underlying126
 a51 := Tryz.isAgg126
 z51 := Tryz.sizeOf126
 v51 := Tryz.zeroValue126
 t53 := Tryz.underlying117
 a53 := Tryz.isAgg117
 z53 := Tryz.sizeOf117
 v53 := Tryz.zeroValue117
 t70 := Tryz.underlying43
 a70 := Tryz.isAgg43
 z70 := Tryz.sizeOf43
 v70 := Tryz.zeroValue43
 t72 := Tryz.underlying46
 a72 := Tryz.isAgg46
 z72 := Tryz.sizeOf46
 v72 := Tryz.zeroValue46
 t75 := Tryz.underlying48
 a75 := Tryz.isAgg48
 z75 := Tryz.sizeOf48
 v75 := Tryz.zeroValue48
 t76 := Tryz.underlying49
 a76 := Tryz.isAgg49
 z76 := Tryz.sizeOf49
 v76 := Tryz.zeroValue49
 t109 := Tryz.underlying109
 a109 := Tryz.isAgg109
 z109 := Tryz.sizeOf109
 v109 := Tryz.zeroValue109
 t127 := Tryz.underlying76
 a127 := Tryz.isAgg76
 z127 := Tryz.sizeOf76
 v127 := Tryz.zeroValue76
 t146 := Tryz.underlying127
 a146 := Tryz.isAgg127
 z146 := Tryz.sizeOf127
 v146 := Tryz.zeroValue127
 t148 := Tryz.underlying129
 a148 := Tryz.isAgg129
 z148 := Tryz.sizeOf129
 v148 := Tryz.zeroValue129
 t164 := Tryz.underlying100
 a164 := Tryz.isAgg100
 z164 := Tryz.sizeOf100
 v164 := Tryz.zeroValue100 }
theorem Tryz.Builder_Extra_105 : Builder.Extra Tryz.prog Tryz.lays105_ren := {
 sizeBuilder := by kernel_rfl
 liesBuilder := by kernel_rfl
 t5 := Tryz.underlying5
 a5 := Tryz.isAgg5
 z5 := Tryz.sizeOf5
 v5 := Tryz.zeroValue5
 infoByte := by kernel_rfl
 cellsByte := by kernel_rfl
 sizeByte := by kernel_rfl
 neB5 := by decide }
end Go.Proofs

namespace Go.Proofs
open Go.Shelf Go.RowKit
set_option linter.unusedVariables false
set_option linter.unusedSimpArgs false
def repRow (c m : Nat) (x z : Value) : List Value := List.replicate m x ++ List.replicate (c - m) z
theorem length_repRow {c m : Nat} (x z : Value) (h : m ≤ c) : (repRow c m x z).length = c := by
 unfold repRow; simp; omega
theorem repRow_first {c : Nat} (x z : Value) (h : 1 ≤ c) : splice (List.replicate c z) 0 [x] = repRow c 1 x z := by
 unfold splice repRow
 simp
theorem repRow_next {c m q : Nat} (x z : Value) (h : m + q ≤ c) : splice (repRow c m x z) m (List.replicate q x) = repRow c (m + q) x z := by
 unfold splice repRow
 rw [List.take_append_of_le_length (by simp), List.take_of_length_le (by simp), List.length_replicate, ← List.append_assoc, List.replicate_append_replicate, List.drop_append, List.drop_of_length_le (by simp), List.length_replicate, List.drop_replicate, List.nil_append]
 congr 2
 omega
theorem made_row {w w1 : World} {c e : Nat} {z : Value} (h : w1.ownsRow w.heap.size e 1 (.slice (some ⟨w.heap.size, 0, none⟩) c c) c (madeCells #[z] (c * 1)).toList) (hg : w.grownBy w1 none) (h0 : 1 ≤ c) :
  w1.heap[w.heap.size]? = some (.cells (List.replicate c z).toArray e (0, 0)) ∧ Below w.heap.size w w1 := by
 refine ⟨?_, (Below.refl _ w).grown hg (Nat.le_refl _) (fun k hk => by cases hk)⟩
 rcases h.2 with ⟨h1, _⟩ | ⟨g, cap, cur, h1, h2, h3, h4, h5, h6, h7⟩
 ·cases h1
 ·injection h1 with h1 h8 h9
  injection h1 with h1
  injection h1 with h1
  subst h1; subst h9
  rw [toList_madeCells_one, Nat.mul_one, List.take_of_length_le (by simp; omega)] at h7
  rw [h3, ← h7]
theorem one_cell_at {w w1 : World} {b off : Nat} {v : Value} (hb : Below w.heap.size w w1) (h : w.cell? ⟨b, off, none⟩ = some v) : ∀ (j : Nat) u, [v][j]? = some u → w1.cell? ((⟨b, off, none⟩ : Addr).add j) = some u := by
 intro j u hj
 match j, hj with
 | 0, hj =>
  simp at hj
  subst hj
  have e : ((⟨b, off, none⟩ : Addr).add 0) = ⟨b, off, none⟩ := by simp [Addr.add]
  rw [e, hb.cell (World.block_lt_of_cell? w _ h)]
  exact h
theorem SRep_info : (Tryz.prog.info? 9).map (fun i => (i.zero, i.size, i.bytes)) = some (some (.string ByteArray.empty), 1, 16) := by kernel_rfl
theorem SRep_size : (Tryz.prog.info? 9).map (·.size) = some 1 := by kernel_rfl
theorem SRep_copy1 {c b off cap : Nat} {s : ByteArray} {w w1 : World} {z : Value} (h1 : 1 ≤ c) (hs : w.cell? ⟨b, off, none⟩ = some (.string s)) (hg : w1.heap[w.heap.size]? = some (.cells (List.replicate c z).toArray 9 (0, 0))) (hb : Below w.heap.size w w1) :
  ∃ w2, (Builtin.copy_ #[39, 39] 3 #[.slice (some ⟨w.heap.size, 0, none⟩) c c, .slice (some ⟨b, off, none⟩) 1 cap]).run Tryz.prog w1 = .ok (goInt 1) w2 ∧ w2.heap[w.heap.size]? = some (.cells (repRow c 1 (.string s) z).toArray 9 (0, 0)) ∧ Below w.heap.size w w2 := by
 have := run_copy_row (P := Tryz.prog) w1 39 39 3 9 w.heap.size 0 c c ⟨b, off, none⟩ 1 cap _ 9 [.string s] Tryz.underlying39 SRep_size hg (by show 1 = min 1 c; omega) (one_cell_at hb hs) (by simp; omega) (by intro v hv; simp at hv; subst hv; rfl)
 refine ⟨_, this, ?_, below_setRow hb (Nat.le_refl _) _⟩
 have h2 := setRow_heap w1 w.heap.size _ ((List.replicate c z).toArray.toList.take 0 ++ [Value.string s] ++ (List.replicate c z).toArray.toList.drop (0 + [Value.string s].length)).toArray _ _ hg
 rw [h2, ← repRow_first _ _ h1]
 rfl
theorem SRep_copy2 {c m H : Nat} {s : ByteArray} {w w1 : World} {z : Value} (h1 : m < c) (hg : w1.heap[H]? = some (.cells (repRow c m (.string s) z).toArray 9 (0, 0))) (hH : w.heap.size ≤ H) (hb : Below w.heap.size w w1) :
  ∃ w2, (Builtin.copy_ #[39, 39] 3 #[.slice (some ⟨H, m, none⟩) (c - m) (c - m), .slice (some ⟨H, 0, none⟩) m c]).run Tryz.prog w1 = .ok (goInt (Nat.min m (c - m) : Nat)) w2 ∧ w2.heap[H]? = some (.cells (repRow c (m + Nat.min m (c - m)) (.string s) z).toArray 9 (0, 0)) ∧ Below w.heap.size w w2 := by
 have hq : m + Nat.min m (c - m) ≤ c := by have : Nat.min m (c - m) ≤ c - m := Nat.min_le_right _ _; omega
 have := run_copy_row (P := Tryz.prog) w1 39 39 3 9 H m (c - m) (c - m) ⟨H, 0, none⟩ m c _ 9 (List.replicate (Nat.min m (c - m)) (.string s)) Tryz.underlying39 SRep_size hg (by simp) (fun j v hj => by
  have hj2 : j < Nat.min m (c - m) := by
   rcases Nat.lt_or_ge j (Nat.min m (c - m)) with h | h
   ·exact h
   ·rw [List.getElem?_eq_none (by simpa using h)] at hj; cases hj
  rw [List.getElem?_replicate, if_pos hj2] at hj
  have hjm : j < m := Nat.lt_of_lt_of_le hj2 (Nat.min_le_left _ _)
  have e : ((⟨H, 0, none⟩ : Addr).add j) = ⟨H, j, none⟩ := by unfold Addr.add; simp; try omega
  rw [e]
  simp only [World.cell?, hg]
  rw [List.getElem?_toArray]
  unfold repRow
  rw [List.getElem?_append_left (by simpa using hjm), List.getElem?_replicate, if_pos hjm]
  exact hj) (by simp [length_repRow _ _ (Nat.le_of_lt h1)]; omega) (by intro v hv; rw [List.eq_of_mem_replicate hv]; rfl)
 rw [List.length_replicate] at this
 refine ⟨_, this, ?_, below_setRow hb hH _⟩
 rw [setRow_heap w1 H _ _ _ _ hg, ← repRow_next _ _ hq]
 unfold splice
 rw [List.append_assoc, List.length_replicate]
set_option maxRecDepth 1000000 in
theorem SRep_walk (c : Nat) (h1 : 1 ≤ c) (h2 : c ≤ 1000000) (b off cap : Nat) (s : ByteArray) (w : World) (hs : w.cell? ⟨b, off, none⟩ = some (.string s)) :
  Calls Tryz.prog 52 #[.slice (some ⟨b, off, none⟩) 1 cap, .int .i64 (c : Int)] w fun e w' => ∃ g et, e = .returned (.slice (some ⟨g, 0, none⟩) c c) ∧ w.heap.size ≤ g ∧ w'.heap[g]? = some (.cells (Array.replicate c (.string s)) et (0, 0)) ∧ Below w.heap.size w w' := by
 have hMul := Any.bits_Mul Tryz.lays212 1 c (by omega) (by omega) w
 rw [Nat.div_eq_of_lt (by omega), Nat.mod_eq_of_lt (by omega), Nat.one_mul] at hMul
 obtain ⟨i0, hi, hz0, hz1, hz2⟩ := info_parts SRep_info
 have hMul' : Calls Tryz.prog 74 #[.int .u64 1, .int .u64 (c : Int)] w fun e w' => e = .returned (.tuple #[.int .u64 0, .int .u64 (c : Int)]) ∧ w' = w := hMul
 clear hMul
 go_enter Tryz.func52, Tryz.ntmps52
 go_wp2_with (first
  | (go_at_call 74; refine hMul'.mono ?_; rintro e w' ⟨rfl, hw⟩; rw [hw])
  | (with_reducible refine wpList_make_full _ rfl (.tmp 29) (.tmp 29) 39 rfl w.heap.size 9 i0 (.string ByteArray.empty) 1 Tryz.underlying39 hi hz0 hz1 .i64 .i64 _ _ c rfl rfl (by omega) (by omega) (by rw [hz2]; omega) (by unfold maxLen; omega) (Nat.le_refl _) ?_; intro w1 hown hgrow; have hm := made_row hown hgrow h1; obtain ⟨w2, hrun, hg2, hb2⟩ := SRep_copy1 (cap := cap) h1 hs hm.1 hm.2; clear hown hgrow hm))
 clear hMul'
 go_loopw [8] (fun i wr => ∃ m : Nat, 1 ≤ m ∧ m ≤ c ∧ i = .int .i64 (m : Int) ∧ wr.heap[w.heap.size]? = some (.cells (repRow c m (.string s) (.string ByteArray.empty)).toArray 9 (0, 0)) ∧ Below w.heap.size w wr) (fun i _ => c - (intOf i).toNat)
 case atStart => exact ⟨1, Nat.le_refl _, h1, rfl, hg2, hb2⟩
 case round =>
  obtain ⟨m, hm1, hmc, rfl, hg, hb⟩ := hrel
  by_cases hmx : m < c
  ·obtain ⟨w3, hr3, hg3, hb3⟩ := SRep_copy2 (w := w) (w1 := wr.drew) hmx hg (Nat.le_refl _) hb.drew
   have hq1 : Nat.min m (c - m) ≤ c - m := Nat.min_le_right _ _
   have hq2 : 1 ≤ Nat.min m (c - m) := Nat.le_min.2 ⟨hm1, by omega⟩
   generalize Nat.min m (c - m) = q at hr3 hg3 hq1 hq2
   go_wp2
   go_region
   all_goals go_wp2
   all_goals go_roundw
   case rel => exact ⟨m + q, by omega, by omega, by go_num, hg3, hb3⟩
   case measure => simp [intOf]; omega
  ·obtain rfl : m = c := by omega
   go_wp2
   go_ret
   refine ⟨w.heap.size, 9, rfl, Nat.le_refl _, ?_, hb⟩
   rw [hg]
   unfold repRow
   simp
theorem Tryz.lays166x : Go.Proofs.Lays.n166 Tryz.prog Tryz.lays156_ren := { Tryz.lays156 with }
def Tryz.lays167x_ren : Go.Shelf.Ren := ⟨fun | 167 => 18 | n => Tryz.lays156_ren.f n, Tryz.lays156_ren.t, Tryz.lays156_ren.g⟩
theorem Tryz.lays167x : Go.Proofs.Lays.n167 Tryz.prog Tryz.lays167x_ren := {
 mixed := Tryz.lays156.mixed
 f167 := Tryz.func18.trans (congrArg some (by kernel_rfl))
 f240 := Tryz.func39.trans (congrArg some (by kernel_rfl))
 f276 := Tryz.func63.trans (congrArg some (by kernel_rfl))
 t0 := Tryz.underlying0
 a0 := Tryz.isAgg0
 z0 := Tryz.sizeOf0
 v0 := Tryz.zeroValue0
 t4 := Tryz.underlying4
 a4 := Tryz.isAgg4
 z4 := Tryz.sizeOf4
 v4 := Tryz.zeroValue4
 t5 := Tryz.underlying5
 a5 := Tryz.isAgg5
 z5 := Tryz.sizeOf5
 v5 := Tryz.zeroValue5
 t9 := Tryz.underlying9
 a9 := Tryz.isAgg9
 z9 := Tryz.sizeOf9
 v9 := Tryz.zeroValue9
 t20 := Tryz.underlying20
 a20 := Tryz.isAgg20
 z20 := Tryz.sizeOf20
 v20 := Tryz.zeroValue20
 t37 := Tryz.underlying44
 a37 := Tryz.isAgg44
 z37 := Tryz.sizeOf44
 v37 := Tryz.zeroValue44
 t70 := Tryz.underlying43
 a70 := Tryz.isAgg43
 z70 := Tryz.sizeOf43
 v70 := Tryz.zeroValue43
 t72 := Tryz.underlying46
 a72 := Tryz.isAgg46
 z72 := Tryz.sizeOf46
 v72 := Tryz.zeroValue46
 t75 := Tryz.underlying48
 a75 := Tryz.isAgg48
 z75 := Tryz.sizeOf48
 v75 := Tryz.zeroValue48
 t164 := Tryz.underlying100
 a164 := Tryz.isAgg100
 z164 := Tryz.sizeOf100
 v164 := Tryz.zeroValue100 }
theorem Tryz.Builder_Extra_167x : Builder.Extra Tryz.prog Tryz.lays167x_ren := {
 sizeBuilder := by kernel_rfl
 liesBuilder := by kernel_rfl
 t5 := Tryz.underlying5
 a5 := Tryz.isAgg5
 z5 := Tryz.sizeOf5
 v5 := Tryz.zeroValue5
 infoByte := by kernel_rfl
 cellsByte := by kernel_rfl
 sizeByte := by kernel_rfl
 neB5 := by decide }
end Go.Proofs

