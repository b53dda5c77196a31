/- The library's contracts that are proved once over any program, at this one; and what its tables hold. -/
import Derived.Test.YtddbjmambkepkaaGreatDoorTypes
import Derived.Shelf.Strconv.Itoa3
import Derived.Shelf.Strconv.AtoiAll
import Derived.Shelf.Strings.Split
import Derived.Shelf.Strings.Fields
import Derived.Shelf.RegionOpenPlain
import Derived.WalkKit
import Derived.Lib.Walk
import Derived.Lib.Strings
import Derived.Test.YtddbjmambkepkaaGreatDoorScriptRemarksF1
import Derived.Test.YtddbjmambkepkaaGreatDoorScriptRemarksF3
set_option linter.unusedVariables false
set_option linter.unusedSimpArgs false
set_option maxRecDepth 100000
namespace Go.Proofs
open Go Go.Shelf
def Tryz.laysM171_ren : Go.Shelf.Ren := ⟨fun | 171 => 39 | 243 => 67 | 246 => 114 | 283 => 165 | 284 => 166 | 285 => 167 | 286 => 168 | 129 => 232 | 317 => 231 | 318 => 233 | 319 => 234 | 320 => 235 | 337 => 287 | 338 => 288 | n => n, fun | 3 => 3 | 9 => 9 | 2 => 2 | 4 => 4 | 171 => 186 | 0 => 0 | 53 => 187 | 37 => 22 | 5 => 5 | 173 => 190 | 212 => 250 | 51 => 182 | 20 => 20 | 213 => 251 | 46 => 108 | 232 => 321 | 233 => 322 | n => n, fun | 17 => 5 | 18 => 8 | 19 => 9 | n => n⟩
theorem Tryz.laysM171 : Go.Proofs.LaysM.n171 Tryz.prog Tryz.laysM171_ren := {
 mixed := by kernel_rfl
 f129 := Tryz.func232.trans (congrArg some (by kernel_rfl))
 f171 := Tryz.func39.trans (congrArg some (by kernel_rfl))
 f243 := Tryz.func67.trans (congrArg some (by kernel_rfl))
 f246 := Tryz.func114.trans (congrArg some (by kernel_rfl))
 f283 := Tryz.func165.trans (congrArg some (by kernel_rfl))
 f284 := Tryz.func166.trans (congrArg some (by kernel_rfl))
 f285 := Tryz.func167.trans (congrArg some (by kernel_rfl))
 f286 := Tryz.func168.trans (congrArg some (by kernel_rfl))
 f317 := Tryz.func231.trans (congrArg some (by kernel_rfl))
 f318 := Tryz.func233.trans (congrArg some (by kernel_rfl))
 f319 := Tryz.func234.trans (congrArg some (by kernel_rfl))
 f320 := Tryz.func235.trans (congrArg some (by kernel_rfl))
 f337 := Tryz.func287.trans (congrArg some (by kernel_rfl))
 f338 := Tryz.func288.trans (congrArg some (by kernel_rfl))
 t0 := Tryz.underlying0
 a0 := Tryz.isAgg0
 z0 := Tryz.sizeOf0
 v0 := Tryz.zeroValue0
 t2 := Tryz.underlying2
 a2 := Tryz.isAgg2
 z2 := Tryz.sizeOf2
 v2 := Tryz.zeroValue2
 t3 := Tryz.underlying3
 a3 := Tryz.isAgg3
 z3 := Tryz.sizeOf3
 v3 := Tryz.zeroValue3
 t4 := Tryz.underlying4
 a4 := Tryz.isAgg4
 z4 := Tryz.sizeOf4
 v4 := Tryz.zeroValue4
 t5 := Tryz.underlying5
 a5 := Tryz.isAgg5
 z5 := Tryz.sizeOf5
 v5 := Tryz.zeroValue5
 t9 := Tryz.underlying9
 a9 := Tryz.isAgg9
 z9 := Tryz.sizeOf9
 v9 := Tryz.zeroValue9
 t20 := Tryz.underlying20
 a20 := Tryz.isAgg20
 z20 := Tryz.sizeOf20
 v20 := Tryz.zeroValue20
 t37 := Tryz.underlying22
 a37 := Tryz.isAgg22
 z37 := Tryz.sizeOf22
 v37 := Tryz.zeroValue22
 t46 := Tryz.underlying108
 a46 := Tryz.isAgg108
 z46 := Tryz.sizeOf108
 v46 := Tryz.zeroValue108
 t51 := Tryz.underlying182
 a51 := Tryz.isAgg182
 z51 := Tryz.sizeOf182
 v51 := Tryz.zeroValue182
 t53 := Tryz.underlying187
 a53 := Tryz.isAgg187
 z53 := Tryz.sizeOf187
 v53 := Tryz.zeroValue187
 t171 := Tryz.underlying186
 a171 := Tryz.isAgg186
 z171 := Tryz.sizeOf186
 v171 := Tryz.zeroValue186
 t173 := Tryz.underlying190
 a173 := Tryz.isAgg190
 z173 := Tryz.sizeOf190
 v173 := Tryz.zeroValue190
 t212 := Tryz.underlying250
 a212 := Tryz.isAgg250
 z212 := Tryz.sizeOf250
 v212 := Tryz.zeroValue250
 t213 := Tryz.underlying251
 a213 := Tryz.isAgg251
 z213 := Tryz.sizeOf251
 t232 := Tryz.underlying321
 a232 := Tryz.isAgg321
 z232 := Tryz.sizeOf321
 v232 := Tryz.zeroValue321
 t233 := Tryz.underlying322
 a233 := Tryz.isAgg322
 z233 := Tryz.sizeOf322
 v233 := Tryz.zeroValue322
 g17 := by kernel_rfl
 g18 := by kernel_rfl
 g19 := by kernel_rfl
 i0 := by kernel_rfl
 i2 := by kernel_rfl
 i3 := by kernel_rfl
 i4 := by kernel_rfl
 i5 := by kernel_rfl
 i9 := by kernel_rfl
 i20 := by kernel_rfl
 i37 := by kernel_rfl
 i46 := by kernel_rfl
 i51 := by kernel_rfl
 i53 := by kernel_rfl
 i171 := by kernel_rfl
 i173 := by kernel_rfl
 i212 := by kernel_rfl
 i232 := by kernel_rfl
 i233 := by kernel_rfl
 m17 := by kernel_rfl
 m18 := by kernel_rfl
 m19 := by kernel_rfl }
def Tryz.laysC172_ren : Go.Shelf.Ren := ⟨fun | 172 => 109 | 244 => 163 | 245 => 164 | 247 => 226 | 279 => 227 | 280 => 228 | 281 => 229 | 282 => 230 | 287 => 284 | 316 => 285 | 171 => 39 | 205 => 286 | 321 => 325 | 322 => 326 | 243 => 67 | 246 => 114 | 283 => 165 | 284 => 166 | 285 => 167 | 286 => 168 | 129 => 232 | 317 => 231 | 318 => 233 | 319 => 234 | 320 => 235 | 337 => 287 | 338 => 288 | n => n, fun | 9 => 9 | 3 => 3 | 75 => 138 | 76 => 139 | 4 => 4 | 5 => 5 | 167 => 243 | 37 => 22 | 0 => 0 | 85 => 244 | 2 => 2 | 168 => 246 | 53 => 187 | 175 => 287 | 46 => 108 | 210 => 290 | 127 => 317 | 145 => 320 | 143 => 318 | 21 => 21 | 171 => 186 | 173 => 190 | 212 => 250 | 51 => 182 | 20 => 20 | 213 => 251 | 232 => 321 | 233 => 322 | 80 => 336 | n => n, fun | 15 => 6 | 16 => 7 | 17 => 5 | 18 => 8 | 19 => 9 | n => n⟩
theorem Tryz.laysC172 : Go.Proofs.LaysC.n172 Tryz.prog Tryz.laysC172_ren := {
 mixed := by kernel_rfl
 f129 := Tryz.func232.trans (congrArg some (by kernel_rfl))
 f171 := Tryz.func39.trans (congrArg some (by kernel_rfl))
 f172 := Tryz.func109.trans (congrArg some (by kernel_rfl))
 f205 := Tryz.func286.trans (congrArg some (by kernel_rfl))
 f243 := Tryz.func67.trans (congrArg some (by kernel_rfl))
 f244 := Tryz.func163.trans (congrArg some (by kernel_rfl))
 f245 := Tryz.func164.trans (congrArg some (by kernel_rfl))
 f246 := Tryz.func114.trans (congrArg some (by kernel_rfl))
 f247 := Tryz.func226.trans (congrArg some (by kernel_rfl))
 f279 := Tryz.func227.trans (congrArg some (by kernel_rfl))
 f280 := Tryz.func228.trans (congrArg some (by kernel_rfl))
 f281 := Tryz.func229.trans (congrArg some (by kernel_rfl))
 f282 := Tryz.func230.trans (congrArg some (by kernel_rfl))
 f283 := Tryz.func165.trans (congrArg some (by kernel_rfl))
 f284 := Tryz.func166.trans (congrArg some (by kernel_rfl))
 f285 := Tryz.func167.trans (congrArg some (by kernel_rfl))
 f286 := Tryz.func168.trans (congrArg some (by kernel_rfl))
 f287 := Tryz.func284.trans (congrArg some (by kernel_rfl))
 f316 := Tryz.func285.trans (congrArg some (by kernel_rfl))
 f317 := Tryz.func231.trans (congrArg some (by kernel_rfl))
 f318 := Tryz.func233.trans (congrArg some (by kernel_rfl))
 f319 := Tryz.func234.trans (congrArg some (by kernel_rfl))
 f320 := Tryz.func235.trans (congrArg some (by kernel_rfl))
 f321 := Tryz.func325.trans (congrArg some (by kernel_rfl))
 f322 := Tryz.func326.trans (congrArg some (by kernel_rfl))
 f337 := Tryz.func287.trans (congrArg some (by kernel_rfl))
 f338 := Tryz.func288.trans (congrArg some (by kernel_rfl))
 t0 := Tryz.underlying0
 a0 := Tryz.isAgg0
 z0 := Tryz.sizeOf0
 v0 := Tryz.zeroValue0
 t2 := Tryz.underlying2
 a2 := Tryz.isAgg2
 z2 := Tryz.sizeOf2
 v2 := Tryz.zeroValue2
 t3 := Tryz.underlying3
 a3 := Tryz.isAgg3
 z3 := Tryz.sizeOf3
 v3 := Tryz.zeroValue3
 t4 := Tryz.underlying4
 a4 := Tryz.isAgg4
 z4 := Tryz.sizeOf4
 v4 := Tryz.zeroValue4
 t5 := Tryz.underlying5
 a5 := Tryz.isAgg5
 z5 := Tryz.sizeOf5
 v5 := Tryz.zeroValue5
 t9 := Tryz.underlying9
 a9 := Tryz.isAgg9
 z9 := Tryz.sizeOf9
 v9 := Tryz.zeroValue9
 t20 := Tryz.underlying20
 a20 := Tryz.isAgg20
 z20 := Tryz.sizeOf20
 v20 := Tryz.zeroValue20
 t21 := Tryz.underlying21
 a21 := Tryz.isAgg21
 z21 := Tryz.sizeOf21
 v21 := Tryz.zeroValue21
 t37 := Tryz.underlying22
 a37 := Tryz.isAgg22
 z37 := Tryz.sizeOf22
 v37 := Tryz.zeroValue22
 t46 := Tryz.underlying108
 a46 := Tryz.isAgg108
 z46 := Tryz.sizeOf108
 v46 := Tryz.zeroValue108
 t51 := Tryz.underlying182
 a51 := Tryz.isAgg182
 z51 := Tryz.sizeOf182
 v51 := Tryz.zeroValue182
 t53 := Tryz.underlying187
 a53 := Tryz.isAgg187
 z53 := Tryz.sizeOf187
 v53 := Tryz.zeroValue187
 t75 := Tryz.underlying138
 a75 := Tryz.isAgg138
 z75 := Tryz.sizeOf138
 v75 := Tryz.zeroValue138
 t76 := Tryz.underlying139
 a76 := Tryz.isAgg139
 z76 := Tryz.sizeOf139
 v76 := Tryz.zeroValue139
 t85 := Tryz.underlying244
 a85 := Tryz.isAgg244
 z85 := Tryz.sizeOf244
 v85 := Tryz.zeroValue244
 t127 := Tryz.underlying317
 a127 := Tryz.isAgg317
 z127 := Tryz.sizeOf317
 v127 := Tryz.zeroValue317
 t143 := Tryz.underlying318
 a143 := Tryz.isAgg318
 z143 := Tryz.sizeOf318
 v143 := Tryz.zeroValue318
 t145 := Tryz.underlying320
 a145 := Tryz.isAgg320
 z145 := Tryz.sizeOf320
 v145 := Tryz.zeroValue320
 t167 := Tryz.underlying243
 a167 := Tryz.isAgg243
 z167 := Tryz.sizeOf243
 v167 := Tryz.zeroValue243
 t168 := Tryz.underlying246
 a168 := Tryz.isAgg246
 z168 := Tryz.sizeOf246
 v168 := Tryz.zeroValue246
 t171 := Tryz.underlying186
 a171 := Tryz.isAgg186
 z171 := Tryz.sizeOf186
 v171 := Tryz.zeroValue186
 t173 := Tryz.underlying190
 a173 := Tryz.isAgg190
 z173 := Tryz.sizeOf190
 v173 := Tryz.zeroValue190
 t175 := Tryz.underlying287
 a175 := Tryz.isAgg287
 z175 := Tryz.sizeOf287
 v175 := Tryz.zeroValue287
 t210 := Tryz.underlying290
 a210 := Tryz.isAgg290
 z210 := Tryz.sizeOf290
 v210 := Tryz.zeroValue290
 t212 := Tryz.underlying250
 a212 := Tryz.isAgg250
 z212 := Tryz.sizeOf250
 v212 := Tryz.zeroValue250
 t213 := Tryz.underlying251
 a213 := Tryz.isAgg251
 z213 := Tryz.sizeOf251
 t232 := Tryz.underlying321
 a232 := Tryz.isAgg321
 z232 := Tryz.sizeOf321
 v232 := Tryz.zeroValue321
 t233 := Tryz.underlying322
 a233 := Tryz.isAgg322
 z233 := Tryz.sizeOf322
 v233 := Tryz.zeroValue322
 g15 := by kernel_rfl
 g16 := by kernel_rfl
 g17 := by kernel_rfl
 g18 := by kernel_rfl
 g19 := by kernel_rfl
 t80 := Tryz.underlying336
 a80 := Tryz.isAgg336
 z80 := Tryz.sizeOf336
 v80 := Tryz.zeroValue336
 i0 := by kernel_rfl
 i2 := by kernel_rfl
 i3 := by kernel_rfl
 i4 := by kernel_rfl
 i5 := by kernel_rfl
 i9 := by kernel_rfl
 i20 := by kernel_rfl
 i21 := by kernel_rfl
 i37 := by kernel_rfl
 i46 := by kernel_rfl
 i51 := by kernel_rfl
 i53 := by kernel_rfl
 i75 := by kernel_rfl
 i76 := by kernel_rfl
 i80 := by kernel_rfl
 i85 := by kernel_rfl
 i127 := by kernel_rfl
 i143 := by kernel_rfl
 i145 := by kernel_rfl
 i167 := by kernel_rfl
 i168 := by kernel_rfl
 i171 := by kernel_rfl
 i173 := by kernel_rfl
 i175 := by kernel_rfl
 i210 := by kernel_rfl
 i212 := by kernel_rfl
 i232 := by kernel_rfl
 i233 := by kernel_rfl
 m15 := by kernel_rfl
 m16 := by kernel_rfl
 m17 := by kernel_rfl
 m18 := by kernel_rfl
 m19 := by kernel_rfl
 c0 := by kernel_rfl
 c2 := by kernel_rfl
 c3 := by kernel_rfl
 c4 := by kernel_rfl
 c5 := by kernel_rfl
 c9 := by kernel_rfl
 c20 := by kernel_rfl
 c21 := by kernel_rfl
 c37 := by kernel_rfl
 c46 := by kernel_rfl
 c51 := by kernel_rfl
 c53 := by kernel_rfl
 c75 := by kernel_rfl
 c76 := by kernel_rfl
 c80 := by kernel_rfl
 c85 := by kernel_rfl
 c127 := by kernel_rfl
 c143 := by kernel_rfl
 c145 := by kernel_rfl
 c167 := by kernel_rfl
 c168 := by kernel_rfl
 c171 := by kernel_rfl
 c173 := by kernel_rfl
 c175 := by kernel_rfl
 c210 := by kernel_rfl
 c212 := by kernel_rfl
 c213 := by kernel_rfl
 c232 := by kernel_rfl
 c233 := by kernel_rfl }
def Tryz.lays146_ren : Go.Shelf.Ren := ⟨fun | 146 => 10 | 221 => 28 | 268 => 53 | 138 => 54 | 143 => 55 | 195 => 103 | 197 => 104 | 218 => 105 | 219 => 106 | 260 => 157 | 217 => 158 | 225 => 159 | 224 => 160 | 267 => 161 | 266 => 222 | 314 => 223 | n => n, fun | 9 => 9 | 31 => 35 | 3 => 3 | 4 => 4 | 0 => 0 | 105 => 131 | 21 => 21 | 5 => 5 | 46 => 108 | 119 => 134 | 139 => 229 | 138 => 228 | 146 => 230 | 51 => 182 | n => n, fun | 1 => 1 | 3 => 3 | 4 => 4 | n => n⟩
theorem Tryz.lays146 : Go.Proofs.Lays.n146 Tryz.prog Tryz.lays146_ren := {
 mixed := by kernel_rfl
 f138 := Tryz.func54.trans (congrArg some (by kernel_rfl))
 f143 := Tryz.func55.trans (congrArg some (by kernel_rfl))
 f146 := Tryz.func10.trans (congrArg some (by kernel_rfl))
 f195 := Tryz.func103.trans (congrArg some (by kernel_rfl))
 f197 := Tryz.func104.trans (congrArg some (by kernel_rfl))
 f217 := Tryz.func158.trans (congrArg some (by kernel_rfl))
 f218 := Tryz.func105.trans (congrArg some (by kernel_rfl))
 f219 := Tryz.func106.trans (congrArg some (by kernel_rfl))
 f221 := Tryz.func28.trans (congrArg some (by kernel_rfl))
 f224 := Tryz.func160.trans (congrArg some (by kernel_rfl))
 f225 := Tryz.func159.trans (congrArg some (by kernel_rfl))
 f260 := Tryz.func157.trans (congrArg some (by kernel_rfl))
 f266 := Tryz.func222.trans (congrArg some (by kernel_rfl))
 f267 := Tryz.func161.trans (congrArg some (by kernel_rfl))
 f268 := Tryz.func53.trans (congrArg some (by kernel_rfl))
 f314 := Tryz.func223.trans (congrArg some (by kernel_rfl))
 t0 := Tryz.underlying0
 a0 := Tryz.isAgg0
 z0 := Tryz.sizeOf0
 v0 := Tryz.zeroValue0
 t3 := Tryz.underlying3
 a3 := Tryz.isAgg3
 z3 := Tryz.sizeOf3
 v3 := Tryz.zeroValue3
 t4 := Tryz.underlying4
 a4 := Tryz.isAgg4
 z4 := Tryz.sizeOf4
 v4 := Tryz.zeroValue4
 t5 := Tryz.underlying5
 a5 := Tryz.isAgg5
 z5 := Tryz.sizeOf5
 v5 := Tryz.zeroValue5
 t9 := Tryz.underlying9
 a9 := Tryz.isAgg9
 z9 := Tryz.sizeOf9
 v9 := Tryz.zeroValue9
 t21 := Tryz.underlying21
 a21 := Tryz.isAgg21
 z21 := Tryz.sizeOf21
 v21 := Tryz.zeroValue21
 t31 := Tryz.underlying35
 a31 := Tryz.isAgg35
 z31 := Tryz.sizeOf35
 v31 := Tryz.zeroValue35
 t46 := Tryz.underlying108
 a46 := Tryz.isAgg108
 z46 := Tryz.sizeOf108
 v46 := Tryz.zeroValue108
 t51 := Tryz.underlying182
 a51 := Tryz.isAgg182
 z51 := Tryz.sizeOf182
 v51 := Tryz.zeroValue182
 t105 := Tryz.underlying131
 a105 := Tryz.isAgg131
 z105 := Tryz.sizeOf131
 v105 := Tryz.zeroValue131
 t119 := Tryz.underlying134
 a119 := Tryz.isAgg134
 z119 := Tryz.sizeOf134
 t138 := Tryz.underlying228
 a138 := Tryz.isAgg228
 z138 := Tryz.sizeOf228
 v138 := Tryz.zeroValue228
 t139 := Tryz.underlying229
 a139 := Tryz.isAgg229
 z139 := Tryz.sizeOf229
 v139 := Tryz.zeroValue229
 t146 := Tryz.underlying230
 a146 := Tryz.isAgg230
 z146 := Tryz.sizeOf230
 v146 := Tryz.zeroValue230
 g1 := by kernel_rfl
 g3 := by kernel_rfl
 g4 := by kernel_rfl }
def Tryz.lays157_ren : Go.Shelf.Ren := ⟨fun | 157 => 56 | 229 => 107 | 199 => 108 | 261 => 162 | 311 => 224 | 312 => 225 | n => n, fun | 9 => 9 | 31 => 35 | 3 => 3 | 5 => 5 | 4 => 4 | 119 => 134 | 0 => 0 | 40 => 136 | 152 => 179 | 21 => 21 | 154 => 181 | 51 => 182 | 141 => 184 | 196 => 235 | 193 => 232 | 198 => 238 | 49 => 236 | 194 => 233 | 201 => 241 | 226 => 285 | 46 => 108 | 227 => 286 | n => n, fun | 0 => 0 | 6 => 2 | n => n⟩
theorem Tryz.lays157 : Go.Proofs.Lays.n157 Tryz.prog Tryz.lays157_ren := {
 mixed := by kernel_rfl
 f157 := Tryz.func56.trans (congrArg some (by kernel_rfl))
 f199 := Tryz.func108.trans (congrArg some (by kernel_rfl))
 f229 := Tryz.func107.trans (congrArg some (by kernel_rfl))
 f261 := Tryz.func162.trans (congrArg some (by kernel_rfl))
 f311 := Tryz.func224.trans (congrArg some (by kernel_rfl))
 f312 := Tryz.func225.trans (congrArg some (by kernel_rfl))
 t0 := Tryz.underlying0
 a0 := Tryz.isAgg0
 z0 := Tryz.sizeOf0
 v0 := Tryz.zeroValue0
 t3 := Tryz.underlying3
 a3 := Tryz.isAgg3
 z3 := Tryz.sizeOf3
 v3 := Tryz.zeroValue3
 t4 := Tryz.underlying4
 a4 := Tryz.isAgg4
 z4 := Tryz.sizeOf4
 v4 := Tryz.zeroValue4
 t5 := Tryz.underlying5
 a5 := Tryz.isAgg5
 z5 := Tryz.sizeOf5
 v5 := Tryz.zeroValue5
 t9 := Tryz.underlying9
 a9 := Tryz.isAgg9
 z9 := Tryz.sizeOf9
 v9 := Tryz.zeroValue9
 t21 := Tryz.underlying21
 a21 := Tryz.isAgg21
 z21 := Tryz.sizeOf21
 v21 := Tryz.zeroValue21
 t31 := Tryz.underlying35
 a31 := Tryz.isAgg35
 z31 := Tryz.sizeOf35
 v31 := Tryz.zeroValue35
 t40 := Tryz.underlying136
 a40 := Tryz.isAgg136
 z40 := Tryz.sizeOf136
 v40 := Tryz.zeroValue136
 t46 := Tryz.underlying108
 a46 := Tryz.isAgg108
 z46 := Tryz.sizeOf108
 v46 := Tryz.zeroValue108
 t49 := Tryz.underlying236
 a49 := Tryz.isAgg236
 z49 := Tryz.sizeOf236
 v49 := Tryz.zeroValue236
 t51 := Tryz.underlying182
 a51 := Tryz.isAgg182
 z51 := Tryz.sizeOf182
 v51 := Tryz.zeroValue182
 t119 := Tryz.underlying134
 a119 := Tryz.isAgg134
 z119 := Tryz.sizeOf134
 t141 := Tryz.underlying184
 a141 := Tryz.isAgg184
 z141 := Tryz.sizeOf184
 v141 := Tryz.zeroValue184
 t152 := Tryz.underlying179
 a152 := Tryz.isAgg179
 z152 := Tryz.sizeOf179
 v152 := Tryz.zeroValue179
 t154 := Tryz.underlying181
 a154 := Tryz.isAgg181
 z154 := Tryz.sizeOf181
 v154 := Tryz.zeroValue181
 t193 := Tryz.underlying232
 a193 := Tryz.isAgg232
 z193 := Tryz.sizeOf232
 v193 := Tryz.zeroValue232
 t194 := Tryz.underlying233
 a194 := Tryz.isAgg233
 z194 := Tryz.sizeOf233
 v194 := Tryz.zeroValue233
 t196 := Tryz.underlying235
 a196 := Tryz.isAgg235
 z196 := Tryz.sizeOf235
 v196 := Tryz.zeroValue235
 t198 := Tryz.underlying238
 a198 := Tryz.isAgg238
 z198 := Tryz.sizeOf238
 v198 := Tryz.zeroValue238
 t201 := Tryz.underlying241
 a201 := Tryz.isAgg241
 z201 := Tryz.sizeOf241
 v201 := Tryz.zeroValue241
 t226 := Tryz.underlying285
 a226 := Tryz.isAgg285
 z226 := Tryz.sizeOf285
 v226 := Tryz.zeroValue285
 t227 := Tryz.underlying286
 a227 := Tryz.isAgg286
 z227 := Tryz.sizeOf286
 v227 := Tryz.zeroValue286
 g0 := by kernel_rfl
 g6 := by kernel_rfl }
end Go.Proofs
namespace Go.Sx.Tryz
open Go Go.Sx Go.Proofs
open Go.IntKind renaming i64 → K6
noncomputable section
theorem ZnZ {p : Nat → Prop} {w : World} {g : Nat} {name : String} {k : IntKind} {zs : List Int} (hg : Tryz.prog.globalNamed name = some g) (h : ∃ e f, w.heap[g]? = some (.cells (zs.map fun z => Value.int k z).toArray e f)) : Lib.TabIs Tryz.prog w name k zs := by
 obtain ⟨e, f, he⟩ := h
 unfold Lib.TabIs World.var?
 rw [hg]
 simp only [Option.bind_some, he]
theorem Zi4 {p : Nat → Prop} {w : World} (h : PA p w) : Lib.TabIs Tryz.prog w "internal/strconv.uint64pow10" .u64 Lib.pow10Tab :=
 ZnZ (p := p) (g := 5) (by kernel_rfl) (h _ (show _ ∈ Zoj from .tail _ (.tail _ (.tail _ (.tail _ (.head _)))))).2
theorem Zka {p : Nat → Prop} {w : World} (h : PA p w) : Lib.TabIs Tryz.prog w "strings.asciiSpace" .u8 Lib.asciiSpaceTab :=
 ZnZ (p := p) (g := 0) (by kernel_rfl) (h _ (show _ ∈ Zoj from .head _)).2
theorem Zif {w : World} {g : Nat} {v : Value} {e : TypeId} {f : Nat × Nat} (h : w.heap[g]? = some (.cells #[v] e f)) : w.cell? ⟨g, 0, none⟩ = some v := by
 simp [World.cell?, h]
theorem Znj {p : Nat → Prop} {w : World} (h : PA p w) : ∃ m, w.cell? ⟨1, 0, none⟩ = some (.int .i64 m) := by
 obtain ⟨_, m, e, f, he⟩ := h _ (show _ ∈ Zoj from .tail _ (.head _))
 exact ⟨m, Zif he⟩
theorem Znk {p : Nat → Prop} {w : World} (h : PA p w) : (∃ t v, w.cell? ⟨6, 0, none⟩ = some (.iface t v)) ∧ ∃ t v, w.cell? ⟨7, 0, none⟩ = some (.iface t v) := by
 obtain ⟨_, t, v, e, f, he⟩ := h _ (show _ ∈ Zoj from .tail _ (.tail _ (.head _)))
 obtain ⟨_, t', v', e', f', he'⟩ := h _ (show _ ∈ Zoj from .tail _ (.tail _ (.tail _ (.head _))))
 exact ⟨⟨t, v, Zif he⟩, t', v', Zif he'⟩
theorem ZgR (w : World) (k : Nat) (os : Array Obj) : FM w (Go.Sort.grow (w.drewN k) os) [] := by
 have hs : w.heap.size ≤ (w.heap ++ os).size := by rw [Array.size_append]; omega
 have hh : ∀ i, i < w.heap.size → (w.heap ++ os)[i]? = w.heap[i]? := fun i hi => by rw [Array.getElem?_append_left hi]
 refine ⟨hs, fun i hi _ => hh i hi, ⟨fun i hi => .inl ?_, rfl, rfl, hs⟩⟩
 show ZkG (w.heap ++ os)[i]? = _
 rw [hh i hi]
theorem MG {w w' : World} (h : RowKit.Below w.heap.size w w') : FM w w' [] :=
 ⟨h.size, fun k hk _ => h.block k hk, ⟨fun k hk => .inl (by rw [h.block k hk]), h.os, h.output, h.size⟩⟩
theorem Zdr (w : World) (o : Obj) (hf : ZkG (some o) = (0, 0)) : FM w (w.alloc o) [] :=
 ⟨by show _ ≤ (w.heap.push o).size; rw [Array.size_push]; omega, fun k hk _ => V8 hk, DV w o hf⟩
theorem Ze4 {p : Nat → Prop} {w : World} {x : ByteArray} {l : List SV} {cargs : List Value} {S : List Nat} {B : List LC} (h : CVL p w (.val .str x :: l) cargs S B) : ∃ r, cargs = .string x :: r ∧ CVL p w l r S B := by
 simp only [CVL] at h
 obtain ⟨c, r, S1, S2, B1, B2, rfl, rfl, rfl, h1, h2⟩ := h
 simp only [CV] at h1
 obtain ⟨rfl, rfl, cs, hr, rfl⟩ := h1
 simp only [TR] at hr
 obtain ⟨rfl, _⟩ := hr
 exact ⟨r, rfl, h2⟩
theorem Zig {p : Nat → Prop} {w : World} {cargs : List Value} {S : List Nat} {B : List LC} (h : CVL p w [] cargs S B) : cargs = [] ∧ S = [] ∧ B = [] := by simpa only [CVL] using h
theorem Zi5 {im : Nat → Prop} {w : World} {o : Bool} : ∀ l : List ByteArray, Ye (TR im w o .str) l (l.map Value.string) []
 | [] => ⟨rfl, rfl⟩
 | x :: l => ⟨[.string x], l.map Value.string, [], [], rfl, rfl, ⟨rfl, rfl⟩, Zi5 l⟩
theorem Zi6 {im : Nat → Prop} {w : World} (l : List ByteArray) (t : TypeId) : CV im (w.alloc (.cells (l.map Value.string).toArray t)) (.fv (.sl true .str) l) (.slice (some ⟨w.heap.size, 0, none⟩) l.length l.length) [w.heap.size] [] := by
 refine ⟨rfl, rfl, [.slice (some ⟨w.heap.size, 0, none⟩) l.length l.length], ⟨some ⟨w.heap.size, 0, none⟩, l.length, rfl, Nat.le_refl _, ?_⟩, rfl⟩
 rw [if_pos (by rfl)]
 refine ⟨rfl, l.map Value.string, [], rfl, ⟨(l.map Value.string).toArray, t, J5, ?_, fun j c hj => ?_⟩, Zi5 l⟩
 ·simp [Ty.size]
 ·simpa using hj
end
end Go.Sx.Tryz
set_option maxRecDepth 100000
namespace Go.Sx.Tryz
section
open Go Go.Proofs Go.Shelf Go.RowKit
theorem fIn : Tryz.prog.funcs[60]? = some Tryz.f60 := by kernel_rfl
theorem nIn : Tryz.f60.ntmps = 15 := by kernel_rfl
theorem Zsv : Tryz.prog.funcs[18]? = some Tryz.f18 := by kernel_rfl
theorem Zsw : Tryz.f18.ntmps = 5 := by kernel_rfl
theorem fRd : Tryz.prog.funcs[57]? = some Tryz.f57 := by kernel_rfl
theorem nRd : Tryz.f57.ntmps = 25 := by kernel_rfl
set_option maxHeartbeats 4000000 in
theorem ZlL (n : Int) (w : World) : Calls Tryz.prog 60 #[.int .i64 n, .int .i64 0, .int .i64 1000000000] w fun e w' => e = .returned (.bool (decide (0 ≤ n) && decide (n ≤ 1000000000))) ∧ w' = w := by
 have u3 : ∀ w, (underlying 3).run Tryz.prog w = .ok (.int .i64) w := fun w => Sx.run_underlying (by kernel_rfl)
 have u4 : ∀ w, (underlying 4).run Tryz.prog w = .ok .bool w := fun w => Sx.run_underlying (by kernel_rfl)
 have mixed : Tryz.prog.follows .mixedOrders = true := by kernel_rfl
 by_cases h : 0 ≤ n
 ·by_cases h2 : n ≤ 1000000000
  ·go_enter fIn, nIn
   go_wp2
   go_ret
   simp [h, h2]
  ·go_enter fIn, nIn
   go_wp2
   go_ret
   simp [h, h2]
 ·go_enter fIn, nIn
  go_wp2
  go_ret
  simp only [and_true]
  rw [decide_eq_false (by omega)]
  rfl
set_option maxHeartbeats 4000000 in
theorem Znl (n : Int) (h0 : -9223372036854775808 ≤ n) (h1 : n ≤ 9223372036854775807) (w : World) (htab : Lib.TabIs Tryz.prog w "internal/strconv.uint64pow10" .u64 Lib.pow10Tab) :
  Calls Tryz.prog 18 #[.int .i64 n] w fun e w' => e = .returned (.string ⟨(Lib.itoa n).toArray⟩) ∧ ∃ k os, w' = Go.Sort.grow (w.drewN k) os := by
 have u3 : ∀ w, (underlying 3).run Tryz.prog w = .ok (.int .i64) w := fun w => Sx.run_underlying (by kernel_rfl)
 have mixed : Tryz.prog.follows .mixedOrders = true := by kernel_rfl
 go_enter Zsv, Zsw
 go_wp2_with (go_at_call 39; refine (Any.strconv_Itoa Tryz.laysM171 n h0 h1 _ htab).mono ?_; rintro e w' ⟨rfl, k, os, rfl⟩)
 go_ret
 exact ⟨rfl, _, _, rfl⟩
set_option maxHeartbeats 8000000 in
theorem Zn0 (s : ByteArray) (n : Int) (R : World → Prop) (w : World) (hA : Calls Tryz.prog 109 #[.string s] w fun e w' => ∃ te pe, e = .returned (.tuple #[.int .i64 n, .iface te pe]) ∧ R w') :
  Calls Tryz.prog 57 #[.string s] w fun e w' => e = .returned (.tuple #[.int .i64 0, .bool false]) ∧ R w' := by
 have u3 : ∀ w, (underlying 3).run Tryz.prog w = .ok (.int .i64) w := fun w => Sx.run_underlying (by kernel_rfl)
 have u4 : ∀ w, (underlying 4).run Tryz.prog w = .ok .bool w := fun w => Sx.run_underlying (by kernel_rfl)
 have t99 := Tryz.underlying138
 have mixed : Tryz.prog.follows .mixedOrders = true := by kernel_rfl
 go_enter fRd, nRd
 go_wp2_with (go_at_call 109; refine hA.mono ?_; rintro e w' ⟨te, pe, rfl, hR⟩)
 go_wp2
 go_ret2
 exact ⟨rfl, hR⟩
set_option maxHeartbeats 8000000 in
theorem Zqx (s : ByteArray) (v : Int) (R : World → Prop) (w : World) (hA : Calls Tryz.prog 109 #[.string s] w fun e w' => e = .returned (.tuple #[.int .i64 v, .nilIface]) ∧ R w') (hv : (decide (0 ≤ v) && decide (v ≤ 1000000000)) = false) :
  Calls Tryz.prog 57 #[.string s] w fun e w' => e = .returned (.tuple #[.int .i64 0, .bool false]) ∧ R w' := by
 have u3 : ∀ w, (underlying 3).run Tryz.prog w = .ok (.int .i64) w := fun w => Sx.run_underlying (by kernel_rfl)
 have u4 : ∀ w, (underlying 4).run Tryz.prog w = .ok .bool w := fun w => Sx.run_underlying (by kernel_rfl)
 have t99 := Tryz.underlying138
 have mixed : Tryz.prog.follows .mixedOrders = true := by kernel_rfl
 have hin := fun w => ZlL v w
 rw [hv] at hin
 go_enter fRd, nRd
 go_wp2_with (first
  | (go_at_call 109; refine hA.mono ?_; rintro e w' ⟨rfl, hR⟩)
  | (go_at_call 60; refine (hin _).mono ?_; rintro e w' ⟨rfl, rfl⟩))
 go_ret2
 exact ⟨rfl, hR⟩
set_option maxHeartbeats 8000000 in
theorem ZrW (s : ByteArray) (v : Int) (R R2 : World → Prop) (w : World) (hA : Calls Tryz.prog 109 #[.string s] w fun e w' => e = .returned (.tuple #[.int .i64 v, .nilIface]) ∧ R w') (hv : (decide (0 ≤ v) && decide (v ≤ 1000000000)) = true)
  (hD : ∀ w1, R w1 → Calls Tryz.prog 18 #[.int .i64 v] w1 fun e w' => e = .returned (.string ⟨(Lib.itoa v).toArray⟩) ∧ R2 w') :
  Calls Tryz.prog 57 #[.string s] w fun e w' => e = .returned (.tuple #[.int .i64 (if (⟨(Lib.itoa v).toArray⟩ : ByteArray) = s then v else 0), .bool (decide ((⟨(Lib.itoa v).toArray⟩ : ByteArray) = s))]) ∧ R2 w' := by
 have u3 : ∀ w, (underlying 3).run Tryz.prog w = .ok (.int .i64) w := fun w => Sx.run_underlying (by kernel_rfl)
 have u4 : ∀ w, (underlying 4).run Tryz.prog w = .ok .bool w := fun w => Sx.run_underlying (by kernel_rfl)
 have u9 : ∀ w, (underlying 9).run Tryz.prog w = .ok .string w := fun w => Sx.run_underlying (by kernel_rfl)
 have t99 := Tryz.underlying138
 have mixed : Tryz.prog.follows .mixedOrders = true := by kernel_rfl
 have hin := fun w => ZlL v w
 rw [hv] at hin
 generalize (⟨(Lib.itoa v).toArray⟩ : ByteArray) = d at hD ⊢
 by_cases hd : d = s
 ·subst hd
  go_enter fRd, nRd
  go_wp2_with (first
   | (go_at_call 109; refine hA.mono ?_; rintro e w' ⟨rfl, hR⟩)
   | (go_at_call 60; refine (hin _).mono ?_; rintro e w' ⟨rfl, rfl⟩)
   | (go_at_call 18; refine (hD _ (by assumption)).mono ?_; rintro e w' ⟨rfl, hR2⟩))
  go_ret2
  simp [hR2]
 ·have hne : (d.toList == s.toList) = false := by
   cases hb : (d.toList == s.toList) with
   | false => rfl
   | true =>
    have h1 : d.toList = s.toList := by simpa using hb
    rw [Lib.toList_data, Lib.toList_data] at h1
    exact absurd (ByteArray.ext (Array.toList_inj.1 h1)) hd
  go_enter fRd, nRd
  go_wp2_with (first
   | (go_at_call 109; refine hA.mono ?_; rintro e w' ⟨rfl, hR⟩)
   | (go_at_call 60; refine (hin _).mono ?_; rintro e w' ⟨rfl, rfl⟩)
   | (go_at_call 18; refine (hD _ (by assumption)).mono ?_; rintro e w' ⟨rfl, hR2⟩))
  go_ret2
  simp [hd, hR2]
end
open Go Go.Sx Go.Proofs
open Go.IntKind renaming i64 → K6
noncomputable section
def ZgS (n : Int) : ByteArray := ⟨(Lib.itoa n).toArray⟩
def rdV (s : ByteArray) : Int × Bool × Unit :=
 match Lib.atoiAll s.data.toList with
 | .ok v => bif (decide (0 ≤ v) && decide (v ≤ 1000000000)) then (if ZgS v = s then v else 0, decide (ZgS v = s), ()) else (0, false, ())
 | _ => (0, false, ())
def QT (_n : Nat) (x : Pg [Zf]) : Option (Int × Bool × Unit) := if ByteArray.size x.1 ≤ 281474976710656 then some (rdV x.1) else none
def DH : Con := roS [Zf] true (shT [(false, Zk), (false, ZA)]) (QT big)
theorem IX : KW Tryz.prog 57 DH := Zf2 ⟨Tryz.f57, by kernel_rfl, rfl, by decide⟩ fun xs v h => by
 obtain ⟨s, u⟩ := xs
 cases u
 unfold QT at h
 dsimp only at h
 split at h
 ·rename_i h0
  obtain rfl := Option.some.inj h
  intro p w cargs S B hcv hnd hS hp hnt
  have hcv' : CVL p w [.val .str s] cargs S B := hcv
  obtain ⟨r, rfl, h2⟩ := Ze4 hcv'
  obtain ⟨rfl, rfl, rfl⟩ := Zig h2
  obtain ⟨⟨t5, v5, h5⟩, t6, v6, h6⟩ := Znk hnt
  have fin : ∀ (n : Int) (b : Bool), Calls Tryz.prog 57 #[.string s] w (fun e w' => e = .returned (.tuple #[.int .i64 n, .bool b]) ∧ FM w w' []) → rdV s = (n, b, ()) → Calls Tryz.prog 57 #[.string s] w fun e w' => ∃ cr S1 S2, e = .returned cr ∧ (S1 ++ S2).Nodup ∧ (∀ k ∈ S1 ++ S2, (k ∈ [] ∨ w.heap.size ≤ k) ∧ k < w'.heap.size) ∧ FM w w' [] ∧
    CV (after p [] (S1 ++ S2) w w') w' ((shT [(false, Zk), (false, ZA)]).sh (rdV s)).1 cr S1 [] ∧ UO (after p [] (S1 ++ S2) w w') w' ((shT [(false, Zk), (false, ZA)]).sh (rdV s)).2 [] S2 := fun n b hc e => by
   rw [e]
   refine hc.mono ?_
   rintro e w' ⟨rfl, hk⟩
   refine ⟨_, [], [], rfl, List.nodup_nil, (fun k hk => by cases hk), hk, ?_, rfl⟩
   refine ⟨[.int .i64 n, .bool b], rfl, .int .i64 n, [.bool b], [], [], [], [], rfl, rfl, rfl, ⟨rfl, rfl, _, ⟨rfl, rfl⟩, rfl⟩, .bool b, [], [], [], [], [], rfl, rfl, rfl, ⟨rfl, rfl, _, ⟨rfl, rfl⟩, rfl⟩, rfl, rfl, rfl⟩
  have hbw : ∀ (w' : World) (t : TypeId), (w' = w ∨ ∃ t, w' = Lib.bytesWorld w 5 t) → FM w w' [] := fun w' _ h => by
   rcases h with rfl | ⟨t, rfl⟩
   ·exact FM.refl _ _
   ·exact MG (Lib.bytesWorld_below _ _ _)
  cases ha : Lib.atoiAll s.data.toList with
  | «syntax» =>
   have hA := Any.strconv_Atoi_syntax Tryz.laysC172 s h0 ha _ w h5 (.inr ⟨t5, v5, rfl⟩)
   refine fin 0 false (Zn0 s 0 (fun w' => FM w w' []) w (hA.mono ?_)) (by unfold rdV; rw [ha])
   rintro e w' ⟨N, rfl, _, _, hb⟩
   exact ⟨_, _, rfl, MG hb⟩
  | range =>
   have hA := Any.strconv_Atoi_range Tryz.laysC172 s h0 ha _ w h6 (.inr ⟨t6, v6, rfl⟩)
   refine fin 0 false (Zn0 s (Lib.atoiSat s.data.toList) (fun w' => FM w w' []) w (hA.mono ?_)) (by unfold rdV; rw [ha])
   rintro e w' ⟨N, rfl, _, _, hb⟩
   exact ⟨_, _, rfl, MG hb⟩
  | ok v =>
   have hA := Any.strconv_Atoi_ok Tryz.laysC172 s (Nat.le_trans h0 (by decide)) v ha w
   obtain ⟨hl, hu⟩ := Lib.atoiAll_bounds ha
   cases hv : (decide (0 ≤ v) && decide (v ≤ 1000000000)) with
   | false =>
    refine fin 0 false (Zqx s v (fun w' => FM w w' []) w (hA.mono ?_) hv) (by unfold rdV; rw [ha]; dsimp only; rw [hv]; rfl)
    rintro e w' ⟨rfl, hw⟩
    exact ⟨rfl, hbw w' 0 hw⟩
   | true =>
    refine fin _ _ (ZrW s v (fun w' => FM w w' []) (fun w' => FM w w' []) w (hA.mono ?_) hv ?_) (by unfold rdV; rw [ha]; dsimp only; rw [hv]; rfl)
    ·rintro e w' ⟨rfl, hw⟩
     exact ⟨rfl, hbw w' 0 hw⟩
    ·intro w1 hk1
     have hn1 : PA p w1 := fun t ht => ⟨(hnt t ht).1, by rw [hk1.same t.1 (hp _ (hnt t ht).1) (by simp)]; exact (hnt t ht).2⟩
     refine (Znl v (by omega) (by omega) w1 (Zi4 hn1)).mono ?_
     rintro e w' ⟨rfl, k, os, rfl⟩
     exact ⟨rfl, hk1.trans (ZgR w1 k os) (by simp)⟩
 ·cases h
def Yv (n : Nat) (a0 : ByteArray) : Option (Int × Bool × Unit) := QT n (a0, ())
theorem IY (n : Nat) (a0 : ByteArray) : Yv n a0 = if ByteArray.size a0 ≤ 281474976710656 then some (rdV a0) else none := rfl
def QU : Yf := (57, DH) :: IW
theorem KG : Yg QU := cons_cons IX OS
def I0 := FX.mk (false, false, []) QU [] [none] Tryz.f52 (shV WN)
def I1 : Con := cR I0 [Zk] true
theorem OT : CO 52 I1 := ZI KG
def Qp (n : Nat) (a0 : Int) : Option Int := qR I0 [Zk] n (a0, ())
theorem OU (n : Nat) (a0) : Qp n a0 =
  bif decide (a0 < (10 : Int)) then some (IntKind.u8.wrap (K6.wrap ((48 : Int) + a0)))
 else some (IntKind.u8.wrap (K6.wrap (K6.wrap ((97 : Int) + a0) - (10 : Int)))) := by kernel_rfl
def AH : Yf := (52, I1) :: QU
theorem Bo : Yg AH := cons_cons OT KG
abbrev I2 : W0 := ([.ro Zc, .drop, .drop, .ro ZA, .ro Zf, .drop, .drop, .drop, .drop, .drop, .drop, .drop, .drop, .drop, .drop, .drop, .drop, .drop, .drop, .drop, .drop, .drop, .drop, .drop, .drop, .drop, .drop, .drop, .drop, .drop], [])
def G1 := FX.mk (false, false, []) AH [(5, I2)] [none] Tryz.f25 (shV Zf)
def TJ : Con := cR G1 [Zk] true
theorem ZbU : CO 25 TJ := ZI Bo
def Xh (n : Nat) (a0 : Int) : Option ByteArray := qR G1 [Zk] n (a0, ())
def VA (n : Nat) (s0 : Int) (s3 : Bool) (s4 : ByteArray) : Option ByteArray := rR G1 (zs [Zk]) 5 I2 n (s0, s3, s4, ()) ()
theorem ZbV (n : Nat) (a0) : Xh n a0 =
  bif decide (a0 = (0 : Int)) then some (ByteArray.mk #[48])
 else VA n a0 (decide (a0 < (0 : Int))) (ByteArray.mk #[]) := by kernel_rfl
theorem OV (n : Nat) (s0 s3 s4) : VA (n + 1) s0 s3 s4 =
  bif !decide (s0 = (0 : Int)) then
 bif decide (s0.tmod (10 : Int) < (0 : Int)) then
 (Qp big (K6.wrap ((0 : Int) - s0.tmod (10 : Int)))).bind fun y =>
 if (ByteArray.mk (List.map (fun n => UInt8.ofNat n.toNat) [y]).toArray).size + s4.size ≤ lim then
 VA n (K6.wrap (s0.tdiv (10 : Int))) s3
 (ByteArray.mk (List.map (fun n => UInt8.ofNat n.toNat) [y]).toArray ++ s4)
 else none
 else
 (Qp big (s0.tmod (10 : Int))).bind fun y =>
 if (ByteArray.mk (List.map (fun n => UInt8.ofNat n.toNat) [y]).toArray).size + s4.size ≤ lim then
 VA n (K6.wrap (s0.tdiv (10 : Int))) s3
 (ByteArray.mk (List.map (fun n => UInt8.ofNat n.toNat) [y]).toArray ++ s4)
 else none
 else
 bif s3 then
 if (ByteArray.mk #[45]).size + s4.size ≤ lim then some (ByteArray.mk #[45] ++ s4) else none
 else some s4 := by kernel_rfl
def G2 : Yf := (25, TJ) :: AH
theorem Fq : Yg G2 := cons_cons ZbU Bo
abbrev JP : W0 := ([.ro Zf, .drop, .drop, .drop, .ro Zc, .ro Zc, .drop, .drop, .drop, .drop, .drop, .drop, .drop, .drop, .drop, .drop, .drop, .drop, .drop, .drop, .drop, .drop, .drop, .drop, .drop, .drop, .drop, .drop, .drop, .drop, .drop, .drop, .drop, .drop, .drop, .drop, .drop, .drop, .drop, .drop, .drop, .drop], [])
def QV := FX.mk (false, false, []) G2 [(5, JP)] [none, none] Tryz.f15 (shT [(false, Zk), (false, ZA)])
def DI : Con := cR QV [Zf] true
theorem I3 : CO 15 DI := ZI Fq
def ZV (n : Nat) (a0 : ByteArray) : Option (Int × Bool × Unit) := qR QV [Zf] n (a0, ())
def WB (n : Nat) (s0 : ByteArray) (s4 s5 : Int) : Option (Int × Bool × Unit) := rR QV (zs [Zf]) 5 JP n (s0, s4, s5, ()) ()
theorem I4 (n : Nat) (a0) : ZV n a0 =
  bif decide ((10 : Int) < (↑a0.size : Int)) then some ((0 : Int), false, PUnit.unit)
 else WB n a0 (0 : Int) (0 : Int) := by kernel_rfl
theorem Em (n : Nat) (s0 s4 s5) : WB (n + 1) s0 s4 s5 =
  bif decide (s5 < (↑s0.size : Int)) then
 if (0 : Int) ≤ s5 then
 (nth s0.data.toList s5.toNat).bind fun y =>
 bif decide ((↑y.toNat : Int) < (48 : Int)) then some ((0 : Int), false, PUnit.unit)
 else
 if (0 : Int) ≤ s5 then
 (nth s0.data.toList s5.toNat).bind fun y =>
 bif decide ((57 : Int) < (↑y.toNat : Int)) then some ((0 : Int), false, PUnit.unit)
 else
 if (0 : Int) ≤ s5 then
 (nth s0.data.toList s5.toNat).bind fun y =>
 WB n s0
 (K6.wrap
 (K6.wrap (K6.wrap ((10 : Int) * s4) + K6.wrap (↑y.toNat : Int)) -
 (48 : Int)))
 (K6.wrap (s5 + (1 : Int)))
 else none
 else none
 else none
 else
 bif decide ((1000000000 : Int) < s4) then some ((0 : Int), false, PUnit.unit)
 else
 (Xh big s4).bind fun y =>
 bif !decide (y = s0) then some ((0 : Int), false, PUnit.unit) else some (s4, true, PUnit.unit) := by kernel_rfl
def QW : Yf := (15, DI) :: G2
theorem KH : Yg QW := cons_cons I3 Fq
def TL := FX.mk (false, false, [1, 5, 9, 10, 16, 17, 21, 22, 28, 33, 37, 42, 47, 51, 56, 57]) QW [] [none] Tryz.f26 (shV Zf)
def TM : Con := cR TL [Yz] true
theorem ZbW : CO 26 TM := ZI KH
def AI (n : Nat) (a0 : Yl) : Option ByteArray := qR TL [Yz] n (a0, ())
theorem ZbX (n : Nat) (a0) : AI n a0 =
  bif decide (a0.1 = (1 : Int)) then
 Wf
 (if (0 : Int) ≤ a0.2.2.2.2.1.1 then
 if
 a0.2.2.2.2.1.1 <
 (↑[ByteArray.mk #[], ByteArray.mk #[115, 101, 116],
 ByteArray.mk #[97, 100, 100],
 ByteArray.mk #[116, 97, 107, 101]].length :
 Int) then
 (nth
 [ByteArray.mk #[], ByteArray.mk #[115, 101, 116],
 ByteArray.mk #[97, 100, 100],
 ByteArray.mk #[116, 97, 107, 101]]
 (Int.toNat a0.2.2.2.2.1.1)).bind
 fun y =>
 if
 (ByteArray.mk
 #[(111 : UInt8), (102 : UInt8), (102 : UInt8), (101 : UInt8), (114 : UInt8),
 (32 : UInt8)]).size +
 ByteArray.size y ≤
 lim then
 if
 (ByteArray.mk
 #[(111 : UInt8), (102 : UInt8), (102 : UInt8), (101 : UInt8), (114 : UInt8),
 (32 : UInt8)] ++
 y).size +
 (ByteArray.mk #[32]).size ≤
 lim then
 if
 (ByteArray.mk
 #[(111 : UInt8), (102 : UInt8), (102 : UInt8), (101 : UInt8), (114 : UInt8),
 (32 : UInt8)] ++
 y ++
 ByteArray.mk #[32]).size +
 ByteArray.size a0.2.2.2.2.1.2.1 ≤
 lim then
 if
 (ByteArray.mk
 #[(111 : UInt8), (102 : UInt8), (102 : UInt8), (101 : UInt8), (114 : UInt8),
 (32 : UInt8)] ++
 y ++
 ByteArray.mk #[32] ++
 a0.2.2.2.2.1.2.1).size +
 (ByteArray.mk #[32]).size ≤
 lim then
 (Xh big a0.2.2.2.2.1.2.2.1).bind fun a =>
 if
 (ByteArray.mk
 #[(111 : UInt8), (102 : UInt8), (102 : UInt8), (101 : UInt8), (114 : UInt8),
 (32 : UInt8)] ++
 y ++
 ByteArray.mk #[32] ++
 a0.2.2.2.2.1.2.1 ++
 ByteArray.mk #[32]).size +
 ByteArray.size a ≤
 lim then
 some
 (ByteArray.mk
 #[(111 : UInt8), (102 : UInt8), (102 : UInt8), (101 : UInt8), (114 : UInt8),
 (32 : UInt8)] ++
 y ++
 ByteArray.mk #[32] ++
 a0.2.2.2.2.1.2.1 ++
 ByteArray.mk #[32] ++
 a)
 else none
 else none
 else none
 else none
 else none
 else none
 else none)
 ((Xh big a0.2.2.2.2.1.2.2.1).bind fun y =>
 if (0 : Int) ≤ a0.2.2.2.2.1.1 then
 if
 a0.2.2.2.2.1.1 <
 (↑[ByteArray.mk #[], ByteArray.mk #[115, 101, 116],
 ByteArray.mk #[97, 100, 100],
 ByteArray.mk #[116, 97, 107, 101]].length :
 Int) then
 (nth
 [ByteArray.mk #[], ByteArray.mk #[115, 101, 116],
 ByteArray.mk #[97, 100, 100],
 ByteArray.mk #[116, 97, 107, 101]]
 (Int.toNat a0.2.2.2.2.1.1)).bind
 fun a =>
 if
 (ByteArray.mk
 #[(111 : UInt8), (102 : UInt8), (102 : UInt8), (101 : UInt8), (114 : UInt8),
 (32 : UInt8)]).size +
 ByteArray.size a ≤
 lim then
 if
 (ByteArray.mk
 #[(111 : UInt8), (102 : UInt8), (102 : UInt8), (101 : UInt8), (114 : UInt8),
 (32 : UInt8)] ++
 a).size +
 (ByteArray.mk #[32]).size ≤
 lim then
 if
 (ByteArray.mk
 #[(111 : UInt8), (102 : UInt8), (102 : UInt8), (101 : UInt8), (114 : UInt8),
 (32 : UInt8)] ++
 a ++
 ByteArray.mk #[32]).size +
 ByteArray.size a0.2.2.2.2.1.2.1 ≤
 lim then
 if
 (ByteArray.mk
 #[(111 : UInt8), (102 : UInt8), (102 : UInt8), (101 : UInt8), (114 : UInt8),
 (32 : UInt8)] ++
 a ++
 ByteArray.mk #[32] ++
 a0.2.2.2.2.1.2.1).size +
 (ByteArray.mk #[32]).size ≤
 lim then
 if
 (ByteArray.mk
 #[(111 : UInt8), (102 : UInt8), (102 : UInt8), (101 : UInt8), (114 : UInt8),
 (32 : UInt8)] ++
 a ++
 ByteArray.mk #[32] ++
 a0.2.2.2.2.1.2.1 ++
 ByteArray.mk #[32]).size +
 ByteArray.size y ≤
 lim then
 some
 (ByteArray.mk
 #[(111 : UInt8), (102 : UInt8), (102 : UInt8), (101 : UInt8), (114 : UInt8),
 (32 : UInt8)] ++
 a ++
 ByteArray.mk #[32] ++
 a0.2.2.2.2.1.2.1 ++
 ByteArray.mk #[32] ++
 y)
 else none
 else none
 else none
 else none
 else none
 else none
 else none)
 else
 if (0 : Int) ≤ a0.1 then
 if
 a0.1 <
 (↑[ByteArray.mk #[], ByteArray.mk #[],
 ByteArray.mk #[115, 104, 111, 119],
 ByteArray.mk #[99, 97, 114, 114, 121],
 ByteArray.mk #[108, 111, 115, 101],
 ByteArray.mk #[116, 119, 105, 99, 101],
 ByteArray.mk #[119, 97, 105, 116],
 ByteArray.mk #[102, 97, 108, 108],
 ByteArray.mk #[118, 111, 116, 101],
 ByteArray.mk #[113, 99],
 ByteArray.mk #[98, 108, 111, 99, 107],
 ByteArray.mk #[118, 105, 101, 119]].length :
 Int) then
 (nth
 [ByteArray.mk #[], ByteArray.mk #[],
 ByteArray.mk #[115, 104, 111, 119],
 ByteArray.mk #[99, 97, 114, 114, 121],
 ByteArray.mk #[108, 111, 115, 101],
 ByteArray.mk #[116, 119, 105, 99, 101],
 ByteArray.mk #[119, 97, 105, 116],
 ByteArray.mk #[102, 97, 108, 108],
 ByteArray.mk #[118, 111, 116, 101],
 ByteArray.mk #[113, 99],
 ByteArray.mk #[98, 108, 111, 99, 107],
 ByteArray.mk #[118, 105, 101, 119]]
 (Int.toNat a0.1)).bind
 fun y =>
 if ByteArray.size y + (ByteArray.mk #[32]).size ≤ lim then
 (Xh big a0.2.1).bind fun a =>
 if (y ++ ByteArray.mk #[32]).size + ByteArray.size a ≤ lim then
 bif decide ((8 : Int) ≤ a0.1) then
 if (y ++ ByteArray.mk #[32] ++ a).size + (ByteArray.mk #[32]).size ≤ lim then
 (Xh big a0.2.2.1).bind fun b =>
 if
 (y ++ ByteArray.mk #[32] ++ a ++ ByteArray.mk #[32]).size +
 ByteArray.size b ≤
 lim then
 if
 (y ++ ByteArray.mk #[32] ++ a ++ ByteArray.mk #[32] ++ b).size +
 (ByteArray.mk #[32]).size ≤
 lim then
 (Xh big a0.2.2.2.1).bind fun c =>
 if
 (y ++ ByteArray.mk #[32] ++ a ++ ByteArray.mk #[32] ++ b ++
 ByteArray.mk #[32]).size +
 ByteArray.size c ≤
 lim then
 bif decide (a0.1 = (10 : Int)) then
 if
 (y ++ ByteArray.mk #[32] ++ a ++ ByteArray.mk #[32] ++ b ++
 ByteArray.mk #[32] ++
 c).size +
 (ByteArray.mk #[32]).size ≤
 lim then
 if
 (y ++ ByteArray.mk #[32] ++ a ++ ByteArray.mk #[32] ++
 b ++
 ByteArray.mk #[32] ++
 c ++
 ByteArray.mk #[32]).size +
 ByteArray.size a0.2.2.2.2.1.2.1 ≤
 lim then
 some
 (y ++ ByteArray.mk #[32] ++ a ++ ByteArray.mk #[32] ++
 b ++
 ByteArray.mk #[32] ++
 c ++
 ByteArray.mk #[32] ++
 a0.2.2.2.2.1.2.1)
 else none
 else none
 else
 some
 (y ++ ByteArray.mk #[32] ++ a ++ ByteArray.mk #[32] ++ b ++
 ByteArray.mk #[32] ++
 c)
 else none
 else none
 else none
 else none
 else
 bif decide (a0.1 = (10 : Int)) then
 if (y ++ ByteArray.mk #[32] ++ a).size + (ByteArray.mk #[32]).size ≤ lim then
 if
 (y ++ ByteArray.mk #[32] ++ a ++ ByteArray.mk #[32]).size +
 ByteArray.size a0.2.2.2.2.1.2.1 ≤
 lim then
 some
 (y ++ ByteArray.mk #[32] ++ a ++ ByteArray.mk #[32] ++
 a0.2.2.2.2.1.2.1)
 else none
 else none
 else some (y ++ ByteArray.mk #[32] ++ a)
 else none
 else none
 else none
 else none := by kernel_rfl
def G3 : Yf := (26, TM) :: QW
theorem Fr : Yg G3 := cons_cons ZbW KH
abbrev I5 : W0 := ([.ro Zc, .ro WN, .drop, .drop, .drop, .is (.own 0 0), .ro Zc, .drop, .drop, .drop, .drop, .drop, .drop, .drop, .drop, .drop, .drop, .drop, .drop, .drop], [.arr WN])
def G4 := FX.mk (false, false, []) G3 [(3, I5)] [none] Tryz.f27 (shV Zf)
def TN : Con := cR G4 [Zk, WN] true
theorem ZbY : CO 27 TN := ZI Fr
def G5 (n : Nat) (a0 a1 : Int) : Option ByteArray := qR G4 [Zk, WN] n (a0, a1, ())
def VB (n : Nat) (s0 s1 s6 : Int) (b0 : List Int) : Option ByteArray := rR G4 (zs [Zk, WN]) 3 I5 n (s0, s1, s6, ()) (b0, ())
theorem ZbZ (n : Nat) (a0 a1) : G5 n a0 a1 =
  if (0 : Int) ≤ a0 then
 if a0 ≤ a0 then
 if a0 ≤ (↑lim : Int) then
 VB n a0 a1 (0 : Int)
 (List.replicate a0.toNat (0 : Int))
 else none
 else none
 else none := by kernel_rfl
theorem Bp (n : Nat) (s0 s1 s6 b0) : VB (n + 1) s0 s1 s6 b0 =
  bif decide (s6 < s0) then
 if (0 : Int) ≤ s6 then
 if s6 < (↑b0.length : Int) then
 (nth b0 s6.toNat).bind fun y =>
 (Ei b0 s6.toNat s1).bind fun y => VB n s0 s1 (K6.wrap (s6 + (1 : Int))) y
 else none
 else none
 else some (ByteArray.mk (List.map (fun n => UInt8.ofNat n.toNat) b0).toArray) := by kernel_rfl
def G6 : Yf := (27, TN) :: G3
theorem Fs : Yg G6 := cons_cons ZbY Fr
abbrev DJ : W0 := ([.drop, .drop, .drop, .drop, .ro Zc, .ro Zc, .drop, .drop, .is (.own 1 0), .ro Zf, .ro Zc, .drop, .drop, .drop, .drop, .drop, .drop, .drop, .drop, .drop, .drop, .drop, .drop, .drop, .drop, .drop, .drop, .drop, .drop, .drop, .drop, .drop, .drop, .drop, .drop, .drop, .drop, .drop, .drop, .drop, .drop, .drop, .drop, .drop, .drop, .drop, .drop, .drop, .drop, .drop, .drop, .drop, .drop, .drop, .drop, .drop, .drop, .drop, .drop, .drop, .drop, .drop, .drop, .drop, .drop, .drop, .drop, .drop, .drop, .drop, .drop, .drop, .drop, .drop, .drop, .drop, .drop, .drop, .drop, .drop, .drop, .drop, .drop, .drop, .drop, .drop, .drop, .drop, .drop, .drop, .drop, .drop, .drop, .drop, .drop, .drop, .drop, .drop, .drop, .drop, .drop, .drop, .drop, .drop, .drop, .drop, .drop, .drop, .drop, .drop, .drop, .drop, .drop, .drop, .drop, .drop, .drop, .drop, .drop, .drop, .drop, .drop], [.drop, .arr Zy])
abbrev Bq : W0 := ([.drop, .drop, .drop, .drop, .ro Zc, .drop, .drop, .drop, .drop, .ro Zf, .drop, .drop, .ro Zc, .drop, .drop, .drop, .drop, .drop, .drop, .drop, .drop, .drop, .drop, .drop, .drop, .drop, .drop, .drop, .drop, .drop, .drop, .drop, .drop, .drop, .drop, .drop, .drop, .drop, .drop, .drop, .drop, .drop, .drop, .drop, .drop, .drop, .drop, .drop, .drop, .drop, .drop, .drop, .drop, .drop, .drop, .drop, .drop, .drop, .drop, .drop, .drop, .drop, .drop, .drop, .drop, .drop, .drop, .drop, .drop, .drop, .drop, .drop, .drop, .drop, .drop, .drop, .drop, .drop, .drop, .drop, .drop, .drop, .drop, .drop, .drop, .drop, .drop, .drop, .drop, .drop, .drop, .drop, .drop, .drop, .drop, .drop, .drop, .drop, .drop, .drop, .drop, .drop, .drop, .drop, .drop, .drop, .drop, .drop, .drop, .drop, .drop, .drop, .drop, .drop, .drop, .drop, .drop, .drop, .drop, .drop, .drop, .drop], [])
def Qq := FX.mk (false, false, []) G6 [(9, DJ), (27, Bq)] [none] Tryz.f9 (shV Zf)
def I6 : Con := cR Qq [Z9] true
theorem OW : CO 9 I6 := ZI Fs
def I7 (n : Nat) (a0 : Vq) : Option ByteArray := qR Qq [Z9] n (a0, ())
def Yw (n : Nat) (s4 s5 : Int) (s9 : ByteArray) (s10 : Int) (b1 : List Zs) : Option ByteArray := rR Qq (zs [Z9]) 9 DJ n (s4, s5, s9, s10, ()) (b1, ())
def WW (n : Nat) (s4 : Int) (s9 : ByteArray) (s12 : Int) : Option ByteArray := rR Qq (zs [Z9]) 27 Bq n (s4, s9, s12, ()) ()
theorem OX (n : Nat) (a0) : I7 n a0 =
  (Ea big a0).bind fun y =>
 (Ym big y (30 : Int)).bind fun y =>
 (Ym big y.2.1 (60 : Int)).bind fun c =>
 (AG big a0).bind fun a =>
 (Xh big a.2.1).bind fun b =>
 if
 (ByteArray.mk
 #[(99 : UInt8), (108 : UInt8), (117 : UInt8), (115 : UInt8), (116 : UInt8), (101 : UInt8),
 (114 : UInt8), (32 : UInt8), (52 : UInt8), (32 : UInt8), (97 : UInt8), (115 : UInt8),
 (107 : UInt8), (32 : UInt8)]).size +
 ByteArray.size b ≤
 lim then
 if
 (ByteArray.mk
 #[(99 : UInt8), (108 : UInt8), (117 : UInt8), (115 : UInt8), (116 : UInt8), (101 : UInt8),
 (114 : UInt8), (32 : UInt8), (52 : UInt8), (32 : UInt8), (97 : UInt8), (115 : UInt8),
 (107 : UInt8), (32 : UInt8)] ++
 b).size +
 (ByteArray.mk #[10]).size ≤
 lim then
 bif a.1 then
 (Xh big a.2.1).bind fun d =>
 if
 (ByteArray.mk
 #[(99 : UInt8), (108 : UInt8), (117 : UInt8), (115 : UInt8), (116 : UInt8),
 (101 : UInt8), (114 : UInt8), (32 : UInt8), (52 : UInt8), (32 : UInt8), (99 : UInt8),
 (104 : UInt8), (97 : UInt8), (105 : UInt8), (110 : UInt8), (32 : UInt8)]).size +
 ByteArray.size d ≤
 lim then
 if
 (ByteArray.mk
 #[(99 : UInt8), (108 : UInt8), (117 : UInt8), (115 : UInt8), (116 : UInt8),
 (101 : UInt8), (114 : UInt8), (32 : UInt8), (52 : UInt8), (32 : UInt8),
 (99 : UInt8), (104 : UInt8), (97 : UInt8), (105 : UInt8), (110 : UInt8),
 (32 : UInt8)] ++
 d).size +
 (ByteArray.mk #[10]).size ≤
 lim then
 Yw n y.1 c.1
 (ByteArray.mk
 #[(99 : UInt8), (108 : UInt8), (117 : UInt8), (115 : UInt8), (116 : UInt8),
 (101 : UInt8), (114 : UInt8), (32 : UInt8), (52 : UInt8), (32 : UInt8), (99 : UInt8),
 (104 : UInt8), (97 : UInt8), (105 : UInt8), (110 : UInt8), (32 : UInt8)] ++
 d ++
 ByteArray.mk #[10])
 (0 : Int) a.2.2.1
 else none
 else none
 else
 Yw n y.1 c.1
 (ByteArray.mk
 #[(99 : UInt8), (108 : UInt8), (117 : UInt8), (115 : UInt8), (116 : UInt8), (101 : UInt8),
 (114 : UInt8), (32 : UInt8), (52 : UInt8), (32 : UInt8), (97 : UInt8), (115 : UInt8),
 (107 : UInt8), (32 : UInt8)] ++
 b ++
 ByteArray.mk #[10])
 (0 : Int) a.2.2.1
 else none
 else none := by kernel_rfl
theorem KI (n : Nat) (s4 s5 s9 s10 b1) : Yw (n + 1) s4 s5 s9 s10 b1 =
  bif decide (s10 < (↑b1.length : Int)) then
 bif decide ((K6.wrap (K6.wrap (s10 * (7 : Int)) + s5)).tmod (17 : Int) = (0 : Int)) then
 if (0 : Int) ≤ s5.tmod (4 : Int) then
 if
 s5.tmod (4 : Int) <
 (↑[ByteArray.mk #[10], ByteArray.mk #[32, 32, 10],
 ByteArray.mk
 #[(35 : UInt8), (32 : UInt8), (97 : UInt8), (32 : UInt8), (119 : UInt8), (111 : UInt8),
 (114 : UInt8), (100 : UInt8), (10 : UInt8)],
 ByteArray.mk
 #[(32 : UInt8), (32 : UInt8), (35 : UInt8), (32 : UInt8), (98 : UInt8), (10 : UInt8)]].length :
 Int) then
 (nth
 [ByteArray.mk #[10], ByteArray.mk #[32, 32, 10],
 ByteArray.mk
 #[(35 : UInt8), (32 : UInt8), (97 : UInt8), (32 : UInt8), (119 : UInt8), (111 : UInt8),
 (114 : UInt8), (100 : UInt8), (10 : UInt8)],
 ByteArray.mk #[32, 32, 35, 32, 98, 10]]
 (s5.tmod (4 : Int)).toNat).bind
 fun y =>
 if s9.size + ByteArray.size y ≤ lim then
 if (0 : Int) ≤ s10 then
 if s10 < (↑b1.length : Int) then
 (nth b1 s10.toNat).bind fun c =>
 (AI big c).bind fun a =>
 bif decide (s10 = s5) then
 if (0 : Int) ≤ s5.tmod (9 : Int) then
 if
 s5.tmod (9 : Int) <
 (↑[ByteArray.mk #[115, 104, 111, 119],
 ByteArray.mk
 #[(115 : UInt8), (104 : UInt8), (111 : UInt8), (119 : UInt8), (32 : UInt8),
 (120 : UInt8)],
 ByteArray.mk
 #[(118 : UInt8), (111 : UInt8), (116 : UInt8), (101 : UInt8), (32 : UInt8),
 (49 : UInt8), (32 : UInt8), (50 : UInt8)],
 ByteArray.mk #[119, 104, 97, 116],
 ByteArray.mk
 #[(111 : UInt8), (102 : UInt8), (102 : UInt8), (101 : UInt8), (114 : UInt8),
 (32 : UInt8), (115 : UInt8), (101 : UInt8), (116 : UInt8), (32 : UInt8),
 (97 : UInt8)],
 ByteArray.mk #[7],
 ByteArray.mk #[99, 97, 108, 109],
 ByteArray.mk
 #[(99 : UInt8), (108 : UInt8), (117 : UInt8), (115 : UInt8), (116 : UInt8),
 (101 : UInt8), (114 : UInt8), (32 : UInt8), (52 : UInt8), (32 : UInt8),
 (97 : UInt8), (115 : UInt8), (107 : UInt8), (32 : UInt8), (48 : UInt8)],
 ByteArray.mk
 #[(98 : UInt8), (108 : UInt8), (111 : UInt8), (99 : UInt8), (107 : UInt8),
 (32 : UInt8), (51 : UInt8), (32 : UInt8), (49 : UInt8), (32 : UInt8),
 (50 : UInt8)]].length :
 Int) then
 (nth
 [ByteArray.mk #[115, 104, 111, 119],
 ByteArray.mk
 #[(115 : UInt8), (104 : UInt8), (111 : UInt8), (119 : UInt8), (32 : UInt8),
 (120 : UInt8)],
 ByteArray.mk
 #[(118 : UInt8), (111 : UInt8), (116 : UInt8), (101 : UInt8), (32 : UInt8),
 (49 : UInt8), (32 : UInt8), (50 : UInt8)],
 ByteArray.mk #[119, 104, 97, 116],
 ByteArray.mk
 #[(111 : UInt8), (102 : UInt8), (102 : UInt8), (101 : UInt8), (114 : UInt8),
 (32 : UInt8), (115 : UInt8), (101 : UInt8), (116 : UInt8), (32 : UInt8),
 (97 : UInt8)],
 ByteArray.mk #[7],
 ByteArray.mk #[99, 97, 108, 109],
 ByteArray.mk
 #[(99 : UInt8), (108 : UInt8), (117 : UInt8), (115 : UInt8), (116 : UInt8),
 (101 : UInt8), (114 : UInt8), (32 : UInt8), (52 : UInt8), (32 : UInt8),
 (97 : UInt8), (115 : UInt8), (107 : UInt8), (32 : UInt8), (48 : UInt8)],
 ByteArray.mk
 #[(98 : UInt8), (108 : UInt8), (111 : UInt8), (99 : UInt8), (107 : UInt8),
 (32 : UInt8), (51 : UInt8), (32 : UInt8), (49 : UInt8), (32 : UInt8),
 (50 : UInt8)]]
 (s5.tmod (9 : Int)).toNat).bind
 fun b =>
 if (s9 ++ y).size + ByteArray.size b ≤ lim then
 if (s9 ++ y ++ b).size + (ByteArray.mk #[10]).size ≤ lim then
 Yw n s4 s5 (s9 ++ y ++ b ++ ByteArray.mk #[10])
 (K6.wrap (s10 + (1 : Int))) b1
 else none
 else none
 else none
 else none
 else
 if (s9 ++ y).size + ByteArray.size a ≤ lim then
 if (s9 ++ y ++ a).size + (ByteArray.mk #[10]).size ≤ lim then
 Yw n s4 s5 (s9 ++ y ++ a ++ ByteArray.mk #[10])
 (K6.wrap (s10 + (1 : Int))) b1
 else none
 else none
 else none
 else none
 else none
 else none
 else none
 else
 if (0 : Int) ≤ s10 then
 if s10 < (↑b1.length : Int) then
 (nth b1 s10.toNat).bind fun y =>
 (AI big y).bind fun y =>
 bif decide (s10 = s5) then
 if (0 : Int) ≤ s5.tmod (9 : Int) then
 if
 s5.tmod (9 : Int) <
 (↑[ByteArray.mk #[115, 104, 111, 119],
 ByteArray.mk
 #[(115 : UInt8), (104 : UInt8), (111 : UInt8), (119 : UInt8), (32 : UInt8),
 (120 : UInt8)],
 ByteArray.mk
 #[(118 : UInt8), (111 : UInt8), (116 : UInt8), (101 : UInt8), (32 : UInt8),
 (49 : UInt8), (32 : UInt8), (50 : UInt8)],
 ByteArray.mk #[119, 104, 97, 116],
 ByteArray.mk
 #[(111 : UInt8), (102 : UInt8), (102 : UInt8), (101 : UInt8), (114 : UInt8),
 (32 : UInt8), (115 : UInt8), (101 : UInt8), (116 : UInt8), (32 : UInt8),
 (97 : UInt8)],
 ByteArray.mk #[7],
 ByteArray.mk #[99, 97, 108, 109],
 ByteArray.mk
 #[(99 : UInt8), (108 : UInt8), (117 : UInt8), (115 : UInt8), (116 : UInt8),
 (101 : UInt8), (114 : UInt8), (32 : UInt8), (52 : UInt8), (32 : UInt8),
 (97 : UInt8), (115 : UInt8), (107 : UInt8), (32 : UInt8), (48 : UInt8)],
 ByteArray.mk
 #[(98 : UInt8), (108 : UInt8), (111 : UInt8), (99 : UInt8), (107 : UInt8),
 (32 : UInt8), (51 : UInt8), (32 : UInt8), (49 : UInt8), (32 : UInt8),
 (50 : UInt8)]].length :
 Int) then
 (nth
 [ByteArray.mk #[115, 104, 111, 119],
 ByteArray.mk
 #[(115 : UInt8), (104 : UInt8), (111 : UInt8), (119 : UInt8), (32 : UInt8),
 (120 : UInt8)],
 ByteArray.mk
 #[(118 : UInt8), (111 : UInt8), (116 : UInt8), (101 : UInt8), (32 : UInt8), (49 : UInt8),
 (32 : UInt8), (50 : UInt8)],
 ByteArray.mk #[119, 104, 97, 116],
 ByteArray.mk
 #[(111 : UInt8), (102 : UInt8), (102 : UInt8), (101 : UInt8), (114 : UInt8), (32 : UInt8),
 (115 : UInt8), (101 : UInt8), (116 : UInt8), (32 : UInt8), (97 : UInt8)],
 ByteArray.mk #[7],
 ByteArray.mk #[99, 97, 108, 109],
 ByteArray.mk
 #[(99 : UInt8), (108 : UInt8), (117 : UInt8), (115 : UInt8), (116 : UInt8), (101 : UInt8),
 (114 : UInt8), (32 : UInt8), (52 : UInt8), (32 : UInt8), (97 : UInt8), (115 : UInt8),
 (107 : UInt8), (32 : UInt8), (48 : UInt8)],
 ByteArray.mk
 #[(98 : UInt8), (108 : UInt8), (111 : UInt8), (99 : UInt8), (107 : UInt8), (32 : UInt8),
 (51 : UInt8), (32 : UInt8), (49 : UInt8), (32 : UInt8), (50 : UInt8)]]
 (s5.tmod (9 : Int)).toNat).bind
 fun y =>
 if s9.size + ByteArray.size y ≤ lim then
 if (s9 ++ y).size + (ByteArray.mk #[10]).size ≤ lim then
 Yw n s4 s5 (s9 ++ y ++ ByteArray.mk #[10])
 (K6.wrap (s10 + (1 : Int))) b1
 else none
 else none
 else none
 else none
 else
 if s9.size + ByteArray.size y ≤ lim then
 if (s9 ++ y).size + (ByteArray.mk #[10]).size ≤ lim then
 Yw n s4 s5 (s9 ++ y ++ ByteArray.mk #[10])
 (K6.wrap (s10 + (1 : Int))) b1
 else none
 else none
 else none
 else none
 else
 bif decide (s4 = (0 : Int)) then
 if (0 : Int) ≤ s5.tmod (8 : Int) then
 if
 s5.tmod (8 : Int) <
 (↑[ByteArray.mk #[], ByteArray.mk #[35],
 ByteArray.mk
 #[(99 : UInt8), (108 : UInt8), (117 : UInt8), (115 : UInt8), (116 : UInt8), (101 : UInt8),
 (114 : UInt8), (32 : UInt8), (52 : UInt8), (32 : UInt8), (97 : UInt8), (115 : UInt8),
 (107 : UInt8), (32 : UInt8), (48 : UInt8)],
 ByteArray.mk
 #[(99 : UInt8), (108 : UInt8), (117 : UInt8), (115 : UInt8), (116 : UInt8), (101 : UInt8),
 (114 : UInt8), (32 : UInt8), (57 : UInt8), (32 : UInt8), (97 : UInt8), (115 : UInt8),
 (107 : UInt8), (32 : UInt8), (48 : UInt8), (10 : UInt8)],
 ByteArray.mk
 #[(115 : UInt8), (104 : UInt8), (111 : UInt8), (119 : UInt8), (32 : UInt8), (48 : UInt8),
 (10 : UInt8)],
 ByteArray.mk
 #[(99 : UInt8), (108 : UInt8), (117 : UInt8), (115 : UInt8), (116 : UInt8), (101 : UInt8),
 (114 : UInt8), (32 : UInt8), (52 : UInt8), (32 : UInt8), (98 : UInt8), (111 : UInt8),
 (116 : UInt8), (104 : UInt8), (32 : UInt8), (48 : UInt8), (10 : UInt8)],
 ByteArray.mk
 #[(99 : UInt8), (108 : UInt8), (117 : UInt8), (115 : UInt8), (116 : UInt8), (101 : UInt8),
 (114 : UInt8), (32 : UInt8), (52 : UInt8), (32 : UInt8), (97 : UInt8), (115 : UInt8),
 (107 : UInt8), (32 : UInt8), (51 : UInt8), (10 : UInt8)],
 ByteArray.mk
 #[(99 : UInt8), (108 : UInt8), (117 : UInt8), (115 : UInt8), (116 : UInt8), (101 : UInt8),
 (114 : UInt8), (32 : UInt8), (49 : UInt8), (32 : UInt8), (99 : UInt8), (104 : UInt8),
 (97 : UInt8), (105 : UInt8), (110 : UInt8), (32 : UInt8), (48 : UInt8), (10 : UInt8),
 (111 : UInt8), (102 : UInt8), (102 : UInt8), (101 : UInt8), (114 : UInt8), (32 : UInt8),
 (115 : UInt8), (101 : UInt8), (116 : UInt8), (32 : UInt8), (97 : UInt8), (32 : UInt8),
 (49 : UInt8), (10 : UInt8), (99 : UInt8), (97 : UInt8), (108 : UInt8), (109 : UInt8),
 (32 : UInt8), (57 : UInt8)]].length :
 Int) then
 (nth
 [ByteArray.mk #[], ByteArray.mk #[35],
 ByteArray.mk
 #[(99 : UInt8), (108 : UInt8), (117 : UInt8), (115 : UInt8), (116 : UInt8), (101 : UInt8),
 (114 : UInt8), (32 : UInt8), (52 : UInt8), (32 : UInt8), (97 : UInt8), (115 : UInt8),
 (107 : UInt8), (32 : UInt8), (48 : UInt8)],
 ByteArray.mk
 #[(99 : UInt8), (108 : UInt8), (117 : UInt8), (115 : UInt8), (116 : UInt8), (101 : UInt8),
 (114 : UInt8), (32 : UInt8), (57 : UInt8), (32 : UInt8), (97 : UInt8), (115 : UInt8),
 (107 : UInt8), (32 : UInt8), (48 : UInt8), (10 : UInt8)],
 ByteArray.mk
 #[(115 : UInt8), (104 : UInt8), (111 : UInt8), (119 : UInt8), (32 : UInt8), (48 : UInt8),
 (10 : UInt8)],
 ByteArray.mk
 #[(99 : UInt8), (108 : UInt8), (117 : UInt8), (115 : UInt8), (116 : UInt8), (101 : UInt8),
 (114 : UInt8), (32 : UInt8), (52 : UInt8), (32 : UInt8), (98 : UInt8), (111 : UInt8),
 (116 : UInt8), (104 : UInt8), (32 : UInt8), (48 : UInt8), (10 : UInt8)],
 ByteArray.mk
 #[(99 : UInt8), (108 : UInt8), (117 : UInt8), (115 : UInt8), (116 : UInt8), (101 : UInt8),
 (114 : UInt8), (32 : UInt8), (52 : UInt8), (32 : UInt8), (97 : UInt8), (115 : UInt8),
 (107 : UInt8), (32 : UInt8), (51 : UInt8), (10 : UInt8)],
 ByteArray.mk
 #[(99 : UInt8), (108 : UInt8), (117 : UInt8), (115 : UInt8), (116 : UInt8), (101 : UInt8),
 (114 : UInt8), (32 : UInt8), (49 : UInt8), (32 : UInt8), (99 : UInt8), (104 : UInt8),
 (97 : UInt8), (105 : UInt8), (110 : UInt8), (32 : UInt8), (48 : UInt8), (10 : UInt8),
 (111 : UInt8), (102 : UInt8), (102 : UInt8), (101 : UInt8), (114 : UInt8), (32 : UInt8),
 (115 : UInt8), (101 : UInt8), (116 : UInt8), (32 : UInt8), (97 : UInt8), (32 : UInt8),
 (49 : UInt8), (10 : UInt8), (99 : UInt8), (97 : UInt8), (108 : UInt8), (109 : UInt8),
 (32 : UInt8), (57 : UInt8)]]
 (s5.tmod (8 : Int)).toNat).bind
 fun y => some y
 else none
 else none
 else
 bif decide (s4 = (1 : Int)) then
 bif decide ((↑s9.size : Int) < (3000 : Int)) then
 if s9.size + (ByteArray.mk #[35]).size ≤ lim then
 (G5 big
 (K6.wrap
 (K6.wrap (K6.wrap ((3000 : Int) - (↑s9.size : Int)) - (1 : Int)) +
 s5.tmod (2 : Int)))
 (32 : Int)).bind
 fun y =>
 if (s9 ++ ByteArray.mk #[35]).size + ByteArray.size y ≤ lim then
 bif decide ((20 : Int) < s4) then
 if
 (0 : Int) ≤
 K6.wrap ((↑(s9 ++ ByteArray.mk #[35] ++ y).size : Int) - (1 : Int)) then
 (nth (s9 ++ ByteArray.mk #[35] ++ y).data.toList
 (K6.wrap
 ((↑(s9 ++ ByteArray.mk #[35] ++ y).size : Int) - (1 : Int))).toNat).bind
 fun c =>
 bif decide ((↑c.toNat : Int) = (10 : Int)) then
 if
 (s9 ++ ByteArray.mk #[35] ++ y).size +
 (ByteArray.mk
 #[(99 : UInt8), (97 : UInt8), (108 : UInt8), (109 : UInt8), (32 : UInt8),
 (54 : UInt8), (10 : UInt8)]).size ≤
 lim then
 some
 (s9 ++ ByteArray.mk #[35] ++ y ++
 ByteArray.mk
 #[(99 : UInt8), (97 : UInt8), (108 : UInt8), (109 : UInt8), (32 : UInt8), (54 : UInt8),
 (10 : UInt8)])
 else none
 else some (s9 ++ ByteArray.mk #[35] ++ y)
 else none
 else some (s9 ++ ByteArray.mk #[35] ++ y)
 else none
 else none
 else
 bif decide ((20 : Int) < s4) then
 if (0 : Int) ≤ K6.wrap ((↑s9.size : Int) - (1 : Int)) then
 (nth s9.data.toList (K6.wrap ((↑s9.size : Int) - (1 : Int))).toNat).bind fun y =>
 bif decide ((↑y.toNat : Int) = (10 : Int)) then
 if
 s9.size +
 (ByteArray.mk
 #[(99 : UInt8), (97 : UInt8), (108 : UInt8), (109 : UInt8), (32 : UInt8), (54 : UInt8),
 (10 : UInt8)]).size ≤
 lim then
 some
 (s9 ++
 ByteArray.mk
 #[(99 : UInt8), (97 : UInt8), (108 : UInt8), (109 : UInt8), (32 : UInt8), (54 : UInt8),
 (10 : UInt8)])
 else none
 else some s9
 else none
 else some s9
 else
 bif decide (s4 = (2 : Int)) then
 if (0 : Int) ≤ K6.wrap ((↑s9.size : Int) - (1 : Int)) then
 if K6.wrap ((↑s9.size : Int) - (1 : Int)) ≤ (↑s9.size : Int) then
 bif decide ((20 : Int) < s4) then
 if
 (0 : Int) ≤
 K6.wrap
 ((↑(s9.extract (0 : Nat) (K6.wrap ((↑s9.size : Int) - (1 : Int))).toNat).size : Int) -
 (1 : Int)) then
 (nth (s9.extract (0 : Nat) (K6.wrap ((↑s9.size : Int) - (1 : Int))).toNat).data.toList
 (K6.wrap
 ((↑(s9.extract (0 : Nat) (K6.wrap ((↑s9.size : Int) - (1 : Int))).toNat).size :
 Int) -
 (1 : Int))).toNat).bind
 fun y =>
 bif decide ((↑y.toNat : Int) = (10 : Int)) then
 if
 (s9.extract (0 : Nat) (K6.wrap ((↑s9.size : Int) - (1 : Int))).toNat).size +
 (ByteArray.mk
 #[(99 : UInt8), (97 : UInt8), (108 : UInt8), (109 : UInt8), (32 : UInt8),
 (54 : UInt8), (10 : UInt8)]).size ≤
 lim then
 some
 (s9.extract (0 : Nat) (K6.wrap ((↑s9.size : Int) - (1 : Int))).toNat ++
 ByteArray.mk
 #[(99 : UInt8), (97 : UInt8), (108 : UInt8), (109 : UInt8), (32 : UInt8), (54 : UInt8),
 (10 : UInt8)])
 else none
 else some (s9.extract (0 : Nat) (K6.wrap ((↑s9.size : Int) - (1 : Int))).toNat)
 else none
 else some (s9.extract (0 : Nat) (K6.wrap ((↑s9.size : Int) - (1 : Int))).toNat)
 else none
 else none
 else
 bif decide (s4 = (3 : Int)) then WW n s4 s9 (0 : Int)
 else
 bif decide ((20 : Int) < s4) then
 if (0 : Int) ≤ K6.wrap ((↑s9.size : Int) - (1 : Int)) then
 (nth s9.data.toList (K6.wrap ((↑s9.size : Int) - (1 : Int))).toNat).bind fun y =>
 bif decide ((↑y.toNat : Int) = (10 : Int)) then
 if
 s9.size +
 (ByteArray.mk
 #[(99 : UInt8), (97 : UInt8), (108 : UInt8), (109 : UInt8), (32 : UInt8), (54 : UInt8),
 (10 : UInt8)]).size ≤
 lim then
 some
 (s9 ++
 ByteArray.mk
 #[(99 : UInt8), (97 : UInt8), (108 : UInt8), (109 : UInt8), (32 : UInt8), (54 : UInt8),
 (10 : UInt8)])
 else none
 else some s9
 else none
 else some s9 := by kernel_rfl
theorem QX (n : Nat) (s4 s9 s12) : WW (n + 1) s4 s9 s12 =
  bif decide (s12 < (121 : Int)) then
 if
 s9.size +
 (ByteArray.mk
 #[(99 : UInt8), (97 : UInt8), (114 : UInt8), (114 : UInt8), (121 : UInt8), (32 : UInt8), (48 : UInt8),
 (10 : UInt8)]).size ≤
 lim then
 WW n s4
 (s9 ++
 ByteArray.mk
 #[(99 : UInt8), (97 : UInt8), (114 : UInt8), (114 : UInt8), (121 : UInt8), (32 : UInt8), (48 : UInt8),
 (10 : UInt8)])
 (K6.wrap (s12 + (1 : Int)))
 else none
 else
 bif decide ((20 : Int) < s4) then
 if (0 : Int) ≤ K6.wrap ((↑s9.size : Int) - (1 : Int)) then
 (nth s9.data.toList (K6.wrap ((↑s9.size : Int) - (1 : Int))).toNat).bind fun y =>
 bif decide ((↑y.toNat : Int) = (10 : Int)) then
 if
 s9.size +
 (ByteArray.mk
 #[(99 : UInt8), (97 : UInt8), (108 : UInt8), (109 : UInt8), (32 : UInt8), (54 : UInt8),
 (10 : UInt8)]).size ≤
 lim then
 some
 (s9 ++
 ByteArray.mk
 #[(99 : UInt8), (97 : UInt8), (108 : UInt8), (109 : UInt8), (32 : UInt8), (54 : UInt8),
 (10 : UInt8)])
 else none
 else some s9
 else none
 else some s9 := by kernel_rfl
def AJ : Yf := (9, I6) :: G6
theorem Br : Yg AJ := cons_cons OW Fs
def KJ := FX.mk (false, false, []) AJ [] [none] Tryz.f5 (shV Zf)
def VC : Con := cR KJ [Z9] true
theorem Uy : CO 5 VC := ZI Br
def VD (n : Nat) (a0 : Vq) : Option ByteArray := qR KJ [Z9] n (a0, ())
theorem DK (n : Nat) (a0) : VD n a0 =
  (I7 big a0).bind fun y => some y := by kernel_rfl
def KK : Yf := (5, VC) :: AJ
theorem DL : Yg KK := cons_cons Uy Br
def KL (s : ByteArray) : List ByteArray := (Lib.fields s.data.toList).map fun l => ⟨l.toArray⟩
def VE (_n : Nat) (x : Pg [Zf]) : Option (List ByteArray) := if ByteArray.size x.1 < 4294967281 then (if ((ByteArray.data x.1).toList.all fun b => decide (b.toNat < 128)) = true then some (KL x.1) else none) else none
def KM : Con := roS [Zf] true (shF Uq) (VE big)
theorem DM : KW Tryz.prog 56 KM := Zf2 ⟨Tryz.f56, by kernel_rfl, rfl, by decide⟩ fun xs v h => by
 obtain ⟨s, u⟩ := xs
 cases u
 unfold VE at h
 dsimp only at h
 split at h
 ·rename_i h0
  split at h
  ·rename_i h1
   simp only [Option.some.injEq] at h
   subst h
   intro p w cargs S B hcv hnd hS hp hnt
   have hcv' : CVL p w [.val .str s] cargs S B := hcv
   obtain ⟨r, rfl, h2⟩ := Ze4 hcv'
   obtain ⟨rfl, rfl, rfl⟩ := Zig h2
   have hc := Any.strings_Fields Tryz.lays157 (by kernel_rfl) (by kernel_rfl) s w h0 (fun j b hb => by
    have := List.all_eq_true.1 h1 b (List.mem_of_getElem? hb)
    simpa using this) (Zka hnt)
   have hlen : (KL s).length = (Lib.fields s.data.toList).length := by simp [KL]
   have hmap : (Lib.fields s.data.toList).map (fun l => Value.string ⟨l.toArray⟩) = (KL s).map Value.string := by simp [KL]
   refine hc.mono ?_
   rw [hmap, ← hlen]
   rintro e w' ⟨rfl, rfl⟩
   refine ⟨_, [w.heap.size], [], rfl, by simp, ?_, Zdr w _ rfl, ?_, rfl⟩
   ·intro k hk
    simp only [List.append_nil, List.mem_singleton] at hk
    subst hk
    exact ⟨.inr (Nat.le_refl _), by show _ < (w.heap.push _).size; rw [Array.size_push]; omega⟩
   ·exact Zi6 (KL s) _
  ·cases h
 ·cases h
def KN (n : Nat) (a0 : ByteArray) : Option (List ByteArray) := VE n (a0, ())
theorem DN (n : Nat) (a0 : ByteArray) : KN n a0 = if ByteArray.size a0 < 4294967281 then (if (a0.data.toList.all fun b => decide (b.toNat < 128)) = true then some (KL a0) else none) else none := rfl
def VF : Yf := (56, KM) :: KK
theorem Uz : Yg VF := cons_cons DM DL
abbrev I8 : W0 := ([.ro Zf, .drop, .drop, .drop, .drop, .drop, .drop, .drop, .drop, .drop, .ro Zc, .ro Zc, .drop, .drop, .drop, .drop, .drop, .drop, .drop, .drop, .drop, .drop, .drop, .drop, .drop, .drop, .drop, .drop, .drop, .drop, .drop], [])
def G7 := FX.mk (false, false, []) VF [(4, I8)] [some Uq, none] Tryz.f29 (shT [(true, Uq), (false, ZA)])
def TO : Con := cR G7 [Zf] true
theorem Zb0 : CO 29 TO := ZI Uz
def G8 (n : Nat) (a0 : ByteArray) : Option (Y5 × Bool × Unit) := qR G7 [Zf] n (a0, ())
def Qr (n : Nat) (s0 : ByteArray) (s10 s11 : Int) : Option (Y5 × Bool × Unit) := rR G7 (zs [Zf]) 4 I8 n (s0, s10, s11, ()) ()
theorem Zb1 (n : Nat) (a0) : G8 n a0 =
  bif decide ((600 : Int) < (↑a0.size : Int)) then some ([], false, PUnit.unit)
 else Qr n a0 (↑a0.size : Int) (0 : Int) := by kernel_rfl
theorem OY (n : Nat) (s0 s10 s11) : Qr (n + 1) s0 s10 s11 =
  bif decide (s11 < s10) then
 if (0 : Int) ≤ s11 then
 (nth s0.data.toList s11.toNat).bind fun y =>
 bif decide ((↑y.toNat : Int) < (32 : Int)) then some ([], false, PUnit.unit)
 else
 if (0 : Int) ≤ s11 then
 (nth s0.data.toList s11.toNat).bind fun y =>
 bif decide ((126 : Int) < (↑y.toNat : Int)) then some ([], false, PUnit.unit)
 else Qr n s0 s10 (K6.wrap (s11 + (1 : Int)))
 else none
 else none
 else
 (KN big s0).bind fun y =>
 bif decide ((10 : Int) < (↑(List.length y) : Int)) then some ([], false, PUnit.unit)
 else some (y, true, PUnit.unit) := by kernel_rfl
def G9 : Yf := (29, TO) :: VF
theorem Ft : Yg G9 := cons_cons Zb0 Uz
abbrev I9 : W0 := ([.ro Zf, .drop, .drop, .drop, .own Zf, .ro Zc, .ro Zc, .drop, .drop, .drop, .drop, .drop, .drop, .drop, .drop, .drop, .drop, .drop, .drop, .drop, .drop, .drop, .drop, .drop, .drop, .drop, .drop, .drop, .drop, .drop, .drop, .drop, .drop, .drop, .drop, .drop, .drop, .drop, .drop, .drop, .drop, .drop, .drop, .drop, .drop, .drop, .drop, .drop, .drop, .drop, .drop, .drop, .drop, .drop, .drop, .drop, .drop, .drop, .drop, .drop, .drop, .drop], [])
def Ha := FX.mk (false, false, []) G9 [(6, I9)] [some Uq, none] Tryz.f13 (shT [(true, Uq), (false, ZA)])
def TP : Con := cR Ha [Zf] true
theorem Zb2 : CO 13 TP := ZI Ft
def Hb (n : Nat) (a0 : ByteArray) : Option (Y5 × Bool × Unit) := qR Ha [Zf] n (a0, ())
def Yj (n : Nat) (s0 : ByteArray) (s4 : List ByteArray) (s5 s6 : Int) : Option (Y5 × Bool × Unit) := rR Ha (zs [Zf]) 6 I9 n (s0, s4, s5, s6, ()) ()
theorem Zb3 (n : Nat) (a0) : Hb n a0 =
  bif decide ((600 : Int) < (↑a0.size : Int)) then some ([], false, PUnit.unit)
 else Yj n a0 [] (0 : Int) (0 : Int) := by kernel_rfl
theorem UH (n : Nat) (s0 s4 s5 s6) : Yj (n + 1) s0 s4 s5 s6 =
  bif decide (s6 ≤ (↑s0.size : Int)) then
 bif decide (s6 < (↑s0.size : Int)) then
 if (0 : Int) ≤ s6 then
 (nth s0.data.toList s6.toNat).bind fun y =>
 bif decide ((↑y.toNat : Int) < (32 : Int)) then some ([], false, PUnit.unit)
 else
 if (0 : Int) ≤ s6 then
 (nth s0.data.toList s6.toNat).bind fun y =>
 bif decide ((126 : Int) < (↑y.toNat : Int)) then some ([], false, PUnit.unit)
 else
 bif decide (s6 < (↑s0.size : Int)) then
 if (0 : Int) ≤ s6 then
 (nth s0.data.toList s6.toNat).bind fun y =>
 bif !decide ((↑y.toNat : Int) = (32 : Int)) then
 Yj n s0 s4 s5 (K6.wrap (s6 + (1 : Int)))
 else
 bif decide (s5 < s6) then
 if (0 : Int) ≤ s6 then
 if s6 ≤ (↑s0.size : Int) then
 if (0 : Int) ≤ s5 then
 if s5 ≤ s6 then
 if s4.length + [s0.extract s5.toNat s6.toNat].length ≤ lim then
 Yj n s0 (s4.append [s0.extract s5.toNat s6.toNat])
 (K6.wrap (s6 + (1 : Int))) (K6.wrap (s6 + (1 : Int)))
 else none
 else none
 else none
 else none
 else none
 else
 Yj n s0 s4 (K6.wrap (s6 + (1 : Int)))
 (K6.wrap (s6 + (1 : Int)))
 else none
 else
 bif decide (s5 < s6) then
 if (0 : Int) ≤ s6 then
 if s6 ≤ (↑s0.size : Int) then
 if (0 : Int) ≤ s5 then
 if s5 ≤ s6 then
 if s4.length + [s0.extract s5.toNat s6.toNat].length ≤ lim then
 Yj n s0 (s4.append [s0.extract s5.toNat s6.toNat])
 (K6.wrap (s6 + (1 : Int))) (K6.wrap (s6 + (1 : Int)))
 else none
 else none
 else none
 else none
 else none
 else Yj n s0 s4 (K6.wrap (s6 + (1 : Int))) (K6.wrap (s6 + (1 : Int)))
 else none
 else none
 else
 bif decide (s6 < (↑s0.size : Int)) then
 if (0 : Int) ≤ s6 then
 (nth s0.data.toList s6.toNat).bind fun y =>
 bif !decide ((↑y.toNat : Int) = (32 : Int)) then
 Yj n s0 s4 s5 (K6.wrap (s6 + (1 : Int)))
 else
 bif decide (s5 < s6) then
 if (0 : Int) ≤ s6 then
 if s6 ≤ (↑s0.size : Int) then
 if (0 : Int) ≤ s5 then
 if s5 ≤ s6 then
 if s4.length + [s0.extract s5.toNat s6.toNat].length ≤ lim then
 Yj n s0 (s4.append [s0.extract s5.toNat s6.toNat])
 (K6.wrap (s6 + (1 : Int))) (K6.wrap (s6 + (1 : Int)))
 else none
 else none
 else none
 else none
 else none
 else Yj n s0 s4 (K6.wrap (s6 + (1 : Int))) (K6.wrap (s6 + (1 : Int)))
 else none
 else
 bif decide (s5 < s6) then
 if (0 : Int) ≤ s6 then
 if s6 ≤ (↑s0.size : Int) then
 if (0 : Int) ≤ s5 then
 if s5 ≤ s6 then
 if s4.length + [s0.extract s5.toNat s6.toNat].length ≤ lim then
 Yj n s0 (s4.append [s0.extract s5.toNat s6.toNat]) (K6.wrap (s6 + (1 : Int)))
 (K6.wrap (s6 + (1 : Int)))
 else none
 else none
 else none
 else none
 else none
 else Yj n s0 s4 (K6.wrap (s6 + (1 : Int))) (K6.wrap (s6 + (1 : Int)))
 else
 bif decide ((10 : Int) < (↑s4.length : Int)) then some ([], false, PUnit.unit)
 else some (s4, true, PUnit.unit) := by kernel_rfl
def Hc : Yf := (13, TP) :: G9
theorem Fu : Yg Hc := cons_cons Zb2 Ft
def Zn1 := FX.mk (false, false, []) Hc [] [none] Tryz.f60 (shV ZA)
def Zn2 : Con := cR Zn1 [Zk, Zk, Zk] true
theorem ZlM : CO 60 Zn2 := ZI Fu
def Om (n : Nat) (a0 a1 a2 : Int) : Option Bool := qR Zn1 [Zk, Zk, Zk] n (a0, a1, a2, ())
theorem ZlN (n : Nat) (a0 a1 a2) : Om n a0 a1 a2 = bif decide (a1 ≤ a0) then some (decide (a0 ≤ a2)) else some false := by kernel_rfl
def ZlO : Yf := (60, Zn2) :: Hc
theorem ZgT : Yg ZlO := cons_cons ZlM Fu
abbrev La : W0 := ([.ro Zc, .drop, .drop, .ro Zc, .drop, .ro Zc, .drop, .drop, .drop, .drop, .drop, .drop, .drop, .drop, .drop, .drop, .drop, .drop], [])
def Hd := FX.mk (false, false, []) ZlO [(3, La)] [none] Tryz.f68 (shV Zk)
def TQ : Con := cR Hd [Zk] true
theorem Zb4 : CO 68 TQ := ZI ZgT
def He (n : Nat) (a0 : Int) : Option Int := qR Hd [Zk] n (a0, ())
def VG (n : Nat) (s0 s3 s5 : Int) : Option Int := rR Hd (zs [Zk]) 3 La n (s0, s3, s5, ()) ()
theorem Zb5 (n : Nat) (a0) : He n a0 =
  VG n a0 (0 : Int) (0 : Int) := by kernel_rfl
theorem OZ (n : Nat) (s0 s3 s5) : VG (n + 1) s0 s3 s5 =
  bif decide (s5 < (7 : Int)) then
 bif decide ((0 : Int) < s0) then
 if s5 < (0 : Int) then none
 else
 VG n s0
 (K6.wrap
 (s3 +
 K6.wrap
 (↑(BitVec.ofInt K6.bits (s0.fdiv ((2 : Int) ^ min s5.toNat K6.bits)) &&&
 BitVec.ofInt K6.bits (1 : Int)).toNat :
 Int)))
 (K6.wrap (s5 + (1 : Int)))
 else VG n s0 s3 (K6.wrap (s5 + (1 : Int)))
 else some s3 := by kernel_rfl
def Hf : Yf := (68, TQ) :: ZlO
theorem Fv : Yg Hf := cons_cons Zb4 ZgT
def Zds := FX.mk (false, false, []) Hf [] [none] Tryz.f69 (shV Zk)
def Zdt : Con := cR Zds [Zk] true
theorem Ze5 : CO 69 Zdt := ZI Fv
def MH (n : Nat) (a0 : Int) : Option Int := qR Zds [Zk] n (a0, ())
theorem Ze6 (n : Nat) (a0) : MH n a0 =
  bif decide (a0 < (1 : Int)) then some (0 : Int)
 else some (K6.wrap ((K6.wrap (a0 - (1 : Int))).tdiv (3 : Int))) := by kernel_rfl
def MI : Yf := (69, Zdt) :: Hf
theorem Lb : Yg MI := cons_cons Ze5 Fv
def Zb6 := FX.mk (false, false, []) MI [] [some Vn] Tryz.f115 (shF Vn)
def Fw : Con := cR Zb6 [] true
theorem MJ : CO 115 Fw := ZI Lb
def K5 : Yf := (115, Fw) :: MI
theorem JQ : Yg K5 := cons_cons MJ Lb
def Zih := FX.mk (true, false, []) K5 [] [some Wl] Tryz.f70 (shF Wl)
def TS : Con := cR Zih [] true
theorem Zb7 : CO 70 TS := ZI JQ
def Hg : Yf := (70, TS) :: K5
theorem Fx : Yg Hg := cons_cons Zb7 JQ
def Zii := FX.mk (false, false, []) Hg [] [some ZQ] Tryz.f71 (shF ZQ)
def TT : Con := cR Zii [Zk] true
theorem Zb8 : CO 71 TT := ZI Fx
def Hh : Yf := (71, TT) :: Hg
theorem Fy : Yg Hh := cons_cons Zb8 Fx
abbrev Bs : W0 := ([.drop, .drop, .drop, .drop, .drop, .drop, .is (.ptr 0 0), .drop, .is (.ptr 2 0), .drop, .drop, .drop, .drop, .drop, .drop, .drop, .drop, .drop, .drop, .drop, .drop, .drop, .drop, .drop, .drop, .drop, .drop, .drop, .drop, .drop, .drop, .drop, .drop, .drop, .ro Zc, .ro Zc, .drop, .drop, .drop, .drop, .drop, .drop, .drop, .drop, .drop, .drop, .drop], [.vars [.ro Zc, .ro ZA, .ro Zc, .own Vn, .own ZQ, .own ZJ, .own Z8, .own W1], .drop, .vars [.ro Zc, .ro ZA, .ro Zc, .own Zr, .own ZQ, .own ZJ, .own Z8, .own W1]])
def K7 := FX.mk (true, false, [8, 38]) Hh [(5, Bs)] [some Zz, none] Tryz.f40 (shT [(true, Zz), (false, ZA)])
def Fz : Con := cR K7 [Zk, ZA, Zk] true
theorem MK : CO 40 Fz := ZI Fy
def Ui (n : Nat) (a0 : Int) (a1 : Bool) (a2 : Int) : Option (Zi × Bool × Unit) := qR K7 [Zk, ZA, Zk] n (a0, a1, a2, ())
def WX (n : Nat) (s34 s35 aa : Int) (ab : Bool) (ac : Int) (ad : List ZL) (ae : List Zw) (af : List Zo) (ag : List Z3) (ah : List VX) (ai : Int) (aj : Bool) (ak : Int) (al : List Zt) (am : List Zw) (an : List Zo) (ao : List Z3) (ap : List VX) : Option (Zi × Bool × Unit) := rR K7 (zs [Zk, ZA, Zk]) 5 Bs n (s34, s35, ()) ((aa, ab, ac, ad, ae, af, ag, ah, ()), (ai, aj, ak, al, am, an, ao, ap, ()), ())
theorem ML (n : Nat) (a0 a1 a2) : Ui n a0 a1 a2 =
  (Om big a0 (1 : Int) (7 : Int)).bind fun y =>
 bif !y then some (((0 : Int), false, (0 : Int), [], [], [], [], [], PUnit.unit), false, PUnit.unit)
 else
 if a0 < (0 : Int) then none
 else
 (Om big a2 (0 : Int)
 (K6.wrap
 (K6.wrap ((1 : Int) * (2 : Int) ^ min a0.toNat K6.bits) - (1 : Int)))).bind
 fun y =>
 bif !y then some (((0 : Int), false, (0 : Int), [], [], [], [], [], PUnit.unit), false, PUnit.unit)
 else
 (He big a2).bind fun y =>
 (MH big a0).bind fun a =>
 bif decide (a < y) then
 some (((0 : Int), false, (0 : Int), [], [], [], [], [], PUnit.unit), false, PUnit.unit)
 else
 WX n a0 (0 : Int) (0 : Int) false (0 : Int) [] [] [] [] [] a0 a1 a2
 [((-1 : Int), (0 : Int), [], ((0 : Int), (0 : Int), (0 : Int), (0 : Int), PUnit.unit), PUnit.unit)]
 [] [] [] [] := by kernel_rfl
theorem Hi (n : Nat) (s34 s35 aa ab ac ad ae af ag ah ai aj ak al am an ao ap) : WX (n + 1) s34 s35 aa ab ac ad ae af ag ah ai aj ak al am an ao ap =
  bif decide (s35 < s34) then
 if am.length + (1 : Nat) ≤ lim then
 WX n s34 (K6.wrap (s35 + (1 : Int))) aa ab ac ad ae af ag ah ai aj ak
 al
 (am.append
 [(s35, (1 : Int), ((0 : Int), (0 : Int), (0 : Int), (0 : Int), ()),
 ((0 : Int), (0 : Int), (0 : Int), (0 : Int), ()), ((0 : Int), (0 : Int), (0 : Int), (0 : Int), ()), [],
 [], [], [], [], [], (0 : Int), ())])
 an ao ap
 else none
 else some ((ai, aj, ak, al, am, an, ao, ap, PUnit.unit), true, PUnit.unit) := by kernel_rfl
def K8 : Yf := (40, Fz) :: Hh
theorem JR : Yg K8 := cons_cons MK Fy
abbrev TU : W0 := (.ro Zf :: dp 4 (.ro Zc :: .ro Zc :: dp 16 []), [])
def TV := FX.mk (false, false, []) K8 [(2, TU)] [none] Tryz.f111 (shV ZA)
def ZgU : Con := cR TV [Zf] true
theorem ZgV : CO 111 ZgU := ZI JR
def TW (n : Nat) (a0 : ByteArray) : Option Bool := qR TV [Zf] n (a0, ())
def AK (n : Nat) (s0 : ByteArray) (s5 s6 : Int) : Option Bool := rR TV (zs [Zf]) 2 TU n (s0, s5, s6, ()) ()
theorem ZgW (n : Nat) (a0) : TW n a0 = AK n a0 (↑a0.size : Int) 0 := by kernel_rfl
theorem FA (n : Nat) (s0 s5 s6) : AK (n + 1) s0 s5 s6 = bif decide (s6 < s5) then if 0 ≤ s6 then (nth s0.data.toList s6.toNat).bind fun y => bif decide ((↑y.toNat : Int) < 97) then some false else if 0 ≤ s6 then (nth s0.data.toList s6.toNat).bind fun y => bif decide (122 < (↑y.toNat : Int)) then some false else AK n s0 s5 (K6.wrap (s6 + 1)) else none else none else (Om big (↑s0.size : Int) 1 3).bind fun y => some y := by kernel_rfl
def TX : Yf := (111, ZgU) :: K8
theorem On : Yg TX := cons_cons ZgV JR
def ZgX := FX.mk (false, false, []) TX [] [none] Tryz.f112 (shV ZA)
def ZgY : Con := cR ZgX [Zk] true
theorem ZgZ : CO 112 ZgY := ZI On
def TY (n : Nat) (a0 : Int) : Option Bool := qR ZgX [Zk] n (a0, ())
theorem Zg0 (n : Nat) (a0) : TY n a0 = (Om big a0 0 1000000000).bind fun y => some y := by kernel_rfl
def TZ : Yf := (112, ZgY) :: TX
theorem Oo : Yg TZ := cons_cons ZgZ On
def Zg1 := FX.mk (false, false, [1, 3, 7, 12]) TZ [] [none] Tryz.f61 (shV ZA)
def Zg2 : Con := cR Zg1 [W1] true
theorem Zg3 : CO 61 Zg2 := ZI Oo
def Lc (n : Nat) (a0 : VX) : Option Bool := qR Zg1 [W1] n (a0, ())
theorem Zg4 (n : Nat) (a0) : Lc n a0 = (Om big a0.1 1 3).bind fun y => bif y then (TW big a0.2.1).bind fun y => bif y then (TY big a0.2.2.1).bind fun y => some y else some false else some false := by kernel_rfl
def T8 : Yf := (61, Zg2) :: TZ
theorem Oq : Yg T8 := cons_cons Zg3 Oo
def T9 := FX.mk (false, false, [1, 3, 8, 13, 18, 22, 26, 30, 33]) T8 [] [none] Tryz.f33 (shV ZA)
def Zaa : Con := cR T9 [Yz] true
theorem Zb9 : CO 33 Zaa := ZI Oq
def Hj (n : Nat) (a0 : Yl) : Option Bool := qR T9 [Yz] n (a0, ())
theorem Zca (n : Nat) (a0) : Hj n a0 =
  (Om big a0.1 (1 : Int) (11 : Int)).bind fun y =>
 bif !y then some false
 else
 bif decide (a0.2.1 < (0 : Int)) then some false
 else
 bif decide (a0.2.2.1 < (0 : Int)) then some false
 else
 bif decide (a0.2.2.2.1 < (0 : Int)) then some false
 else
 bif decide (a0.1 = (1 : Int)) then (Lc big a0.2.2.2.2.1).bind fun y => some y
 else
 bif decide (a0.1 = (10 : Int)) then (Lc big a0.2.2.2.2.1).bind fun y => some y
 else some (eqD W1 a0.2.2.2.2.1 ((0 : Int), ByteArray.empty, (0 : Int), ())) := by kernel_rfl
def Hk : Yf := (33, Zaa) :: T8
theorem FB : Yg Hk := cons_cons Zb9 Oq
def Zab := FX.mk (false, false, [1, 3, 8, 13, 18, 22, 26, 30, 33]) Hk [] [none] Tryz.f17 (shV ZA)
def Zac : Con := cR Zab [Yz] true
theorem Zcb : CO 17 Zac := ZI FB
def AL (n : Nat) (a0 : Yl) : Option Bool := qR Zab [Yz] n (a0, ())
theorem Zcc (n : Nat) (a0) : AL n a0 =
  (ZB big a0.1 (1 : Int) (11 : Int)).bind fun y =>
 bif !y then some false
 else
 bif decide (a0.2.1 < (0 : Int)) then some false
 else
 bif decide (a0.2.2.1 < (0 : Int)) then some false
 else
 bif decide (a0.2.2.2.1 < (0 : Int)) then some false
 else
 bif decide (a0.1 = (1 : Int)) then (QJ big a0.2.2.2.2.1).bind fun y => some y
 else
 bif decide (a0.1 = (10 : Int)) then (QJ big a0.2.2.2.2.1).bind fun y => some y
 else some (eqD W1 a0.2.2.2.2.1 ((0 : Int), ByteArray.empty, (0 : Int), ())) := by kernel_rfl
def Hl : Yf := (17, Zac) :: Hk
theorem FC : Yg Hl := cons_cons Zcb FB
abbrev KO : W0 := ([.ro Yr, .ro Zf, .drop, .drop, .drop, .drop, .drop, .ro Zc, .ro Zc, .drop, .drop, .drop, .drop, .drop, .drop, .drop, .drop, .drop, .drop], [])
def UI := FX.mk (false, false, []) Hl [(2, KO)] [none] Tryz.f110 (shV Zk)
def Bt : Con := cR UI [Yr, Zf] true
theorem Hm : CO 110 Bt := ZI FC
def XW (n : Nat) (a0 : Y5) (a1 : ByteArray) : Option Int := qR UI [Yr, Zf] n (a0, a1, ())
def Wd (n : Nat) (s0 : Y5) (s1 : ByteArray) (s7 s8 : Int) : Option Int := rR UI (zs [Yr, Zf]) 2 KO n (s0, s1, s7, s8, ()) ()
theorem Hn (n : Nat) (a0 a1) : XW n a0 a1 =
  Wd n a0 a1 (↑(List.length a0) : Int) (0 : Int) := by kernel_rfl
theorem DO (n : Nat) (s0 s1 s7 s8) : Wd (n + 1) s0 s1 s7 s8 =
  bif decide (s8 < s7) then
 if (0 : Int) ≤ s8 then
 (nth s0 s8.toNat).bind fun y =>
 bif decide (s1 = y) then some s8 else Wd n s0 s1 s7 (K6.wrap (s8 + (1 : Int)))
 else none
 else some (-1 : Int) := by kernel_rfl
def UJ : Yf := (110, Bt) :: Hl
theorem QY : Yg UJ := cons_cons Hm FC
def Ld := FX.mk (false, false, []) UJ [] [none, none] Tryz.f58 (shT [(false, Yz), (false, ZA)])
def Le : Con := cR Ld [Yr] true
theorem O0 : CO 58 Le := ZI QY
def Lf (n : Nat) (a0 : Y5) : Option (Yl × Bool × Unit) := qR Ld [Yr] n (a0, ())
theorem O1 (n : Nat) (a0) : Lf n a0 =
  bif !decide ((↑(List.length a0) : Int) = (3 : Int)) then
 some
 (((0 : Int), (0 : Int), (0 : Int), (0 : Int), ((0 : Int), ByteArray.empty, (0 : Int), PUnit.unit), PUnit.unit),
 false, PUnit.unit)
 else
 (nth a0 (Int.toNat (0 : Int))).bind fun y =>
 (XW big
 [ByteArray.mk #[], ByteArray.mk #[115, 101, 116],
 ByteArray.mk #[97, 100, 100],
 ByteArray.mk #[116, 97, 107, 101]]
 y).bind
 fun y =>
 (nth a0 (Int.toNat (2 : Int))).bind fun b =>
 (Yv big b).bind fun a =>
 bif !a.2.1 then
 some
 (((0 : Int), (0 : Int), (0 : Int), (0 : Int), ((0 : Int), ByteArray.empty, (0 : Int), PUnit.unit),
 PUnit.unit),
 false, PUnit.unit)
 else
 bif decide (y < (1 : Int)) then
 some
 (((0 : Int), (0 : Int), (0 : Int), (0 : Int), ((0 : Int), ByteArray.empty, (0 : Int), PUnit.unit),
 PUnit.unit),
 false, PUnit.unit)
 else
 (nth a0 (Int.toNat (1 : Int))).bind fun c =>
 some
 (((1 : Int), (0 : Int), (0 : Int), (0 : Int), (y, c, a.1, PUnit.unit), PUnit.unit), true,
 PUnit.unit) := by kernel_rfl
def AM : Yf := (58, Le) :: UJ
theorem Bu : Yg AM := cons_cons O0 QY
def Lg := FX.mk (false, false, []) AM [] [none, none] Tryz.f59 (shT [(false, Zk), (false, Zk)])
def Lh : Con := cR Lg [Zf] true
theorem O2 : CO 59 Lh := ZI Bu
def AN (n : Nat) (a0 : ByteArray) : Option (Int × Int × Unit) := qR Lg [Zf] n (a0, ())
theorem O3 (n : Nat) (a0) : AN n a0 =
  (XW big
 [ByteArray.mk #[115, 104, 111, 119],
 ByteArray.mk #[99, 97, 114, 114, 121],
 ByteArray.mk #[108, 111, 115, 101],
 ByteArray.mk #[116, 119, 105, 99, 101],
 ByteArray.mk #[119, 97, 105, 116],
 ByteArray.mk #[102, 97, 108, 108]]
 a0).bind
 fun y =>
 (XW big
 [ByteArray.mk #[118, 111, 116, 101],
 ByteArray.mk #[113, 99],
 ByteArray.mk #[98, 108, 111, 99, 107],
 ByteArray.mk #[118, 105, 101, 119]]
 a0).bind
 fun a =>
 bif decide ((0 : Int) ≤ y) then some (K6.wrap ((2 : Int) + y), (1 : Int), PUnit.unit)
 else
 bif decide ((0 : Int) ≤ a) then some (K6.wrap ((8 : Int) + a), (3 : Int), PUnit.unit)
 else some ((0 : Int), (0 : Int), PUnit.unit) := by kernel_rfl
def AO : Yf := (59, Lh) :: AM
theorem Bv : Yg AO := cons_cons O2 Bu
abbrev DP : W0 := ([.drop, .drop, .drop, .drop, .own Zc, .drop, .drop, .drop, .drop, .drop, .ro Yr, .ro Zc, .ro Zc, .drop, .drop, .drop, .drop, .drop, .drop, .drop, .drop, .drop, .drop, .drop, .drop, .drop, .drop, .drop, .drop], [])
def AQ := FX.mk (false, false, []) AO [(3, DP)] [some AY, none] Tryz.f31 (shT [(true, AY), (false, ZA)])
def Li : Con := cR AQ [Yr] true
theorem O4 : CO 31 Li := ZI Bv
def VH (n : Nat) (a0 : Y5) : Option (WO × Bool × Unit) := qR AQ [Yr] n (a0, ())
def VI (n : Nat) (s4 : List Int) (s10 : Y5) (s11 s12 : Int) : Option (WO × Bool × Unit) := rR AQ (zs [Yr]) 3 DP n (s4, s10, s11, s12, ()) ()
theorem O5 (n : Nat) (a0) : VH n a0 =
  VI n [] a0 (↑(List.length a0) : Int) (0 : Int) := by kernel_rfl
theorem Lj (n : Nat) (s4 s10 s11 s12) : VI (n + 1) s4 s10 s11 s12 =
  bif decide (s12 < s11) then
 if (0 : Int) ≤ s12 then
 (nth s10 s12.toNat).bind fun y =>
 (Yv big y).bind fun y =>
 bif !y.2.1 then some ([], false, PUnit.unit)
 else
 if s4.length + (1 : Nat) ≤ lim then
 VI n (s4.append [y.1]) s10 s11 (K6.wrap (s12 + (1 : Int)))
 else none
 else none
 else some (s4, true, PUnit.unit) := by kernel_rfl
def AR : Yf := (31, Li) :: AO
theorem Bw : Yg AR := cons_cons O4 Bv
def Lk := FX.mk (false, false, [9]) AR [] [none, none] Tryz.f32 (shT [(false, Yz), (false, ZA)])
def Ll : Con := cR Lk [Yr] true
theorem O6 : CO 32 Ll := ZI Bw
def AS (n : Nat) (a0 : Y5) : Option (Yl × Bool × Unit) := qR Lk [Yr] n (a0, ())
theorem O7 (n : Nat) (a0) : AS n a0 =
  (nth a0 (Int.toNat (0 : Int))).bind fun y =>
 bif decide (y = ByteArray.mk #[111, 102, 102, 101, 114]) then
 if (1 : Int) ≤ (↑(List.length a0) : Int) then
 (Lf big (List.take (List.length a0 - Int.toNat (1 : Int)) (List.drop (Int.toNat (1 : Int)) a0))).bind
 fun y => some y
 else none
 else
 (nth a0 (Int.toNat (0 : Int))).bind fun y =>
 (AN big y).bind fun y =>
 bif decide (y.1 = (10 : Int)) then
 bif decide (y.1 = (0 : Int)) then
 some
 (((0 : Int), (0 : Int), (0 : Int), (0 : Int), ((0 : Int), ByteArray.empty, (0 : Int), PUnit.unit),
 PUnit.unit),
 false, PUnit.unit)
 else
 bif
 !decide
 ((↑(List.length a0) : Int) =
 K6.wrap (K6.wrap (y.2.1 + (1 : Int)) + (1 : Int))) then
 some
 (((0 : Int), (0 : Int), (0 : Int), (0 : Int), ((0 : Int), ByteArray.empty, (0 : Int), PUnit.unit),
 PUnit.unit),
 false, PUnit.unit)
 else
 if (0 : Int) ≤ K6.wrap (y.2.1 + (1 : Int)) then
 if K6.wrap (y.2.1 + (1 : Int)) ≤ (↑(List.length a0) : Int) then
 if (1 : Int) ≤ K6.wrap (y.2.1 + (1 : Int)) then
 (VH big
 (List.take ((K6.wrap (y.2.1 + (1 : Int))).toNat - Int.toNat (1 : Int))
 (List.drop (Int.toNat (1 : Int)) a0))).bind
 fun a =>
 bif !a.2.1 then
 some
 (((0 : Int), (0 : Int), (0 : Int), (0 : Int),
 ((0 : Int), ByteArray.empty, (0 : Int), PUnit.unit), PUnit.unit),
 false, PUnit.unit)
 else
 if (0 : Int) < (↑(List.length a.1) : Int) then
 (nth a.1 (Int.toNat (0 : Int))).bind fun d =>
 bif decide (y.2.1 = (3 : Int)) then
 if (1 : Int) < (↑(List.length a.1) : Int) then
 (nth a.1 (Int.toNat (1 : Int))).bind fun c =>
 Wf
 (if (2 : Int) < (↑(List.length a.1) : Int) then
 Wf
 ((nth a.1 (Int.toNat (2 : Int))).bind fun b =>
 bif decide (y.1 = (10 : Int)) then
 (nth a0 (Int.toNat (4 : Int))).bind fun e =>
 if (2 : Int) < (↑(List.length a.1) : Int) then
 (nth a.1 (Int.toNat (2 : Int))).bind fun f =>
 some
 ((y.1, d, c, b, ((1 : Int), e, f, PUnit.unit),
 PUnit.unit),
 true, PUnit.unit)
 else none
 else
 some
 ((y.1, d, c, b,
 ((0 : Int), ByteArray.empty, (0 : Int), PUnit.unit), PUnit.unit),
 true, PUnit.unit))
 ((nth a.1 (Int.toNat (2 : Int))).bind fun b =>
 bif decide (y.1 = (10 : Int)) then
 (nth a0 (Int.toNat (4 : Int))).bind fun e =>
 if (2 : Int) < (↑(List.length a.1) : Int) then
 (nth a.1 (Int.toNat (2 : Int))).bind fun f =>
 some
 ((y.1, d, c, b, ((1 : Int), e, f, PUnit.unit),
 PUnit.unit),
 true, PUnit.unit)
 else none
 else
 some
 ((y.1, d, c, b,
 ((0 : Int), ByteArray.empty, (0 : Int), PUnit.unit), PUnit.unit),
 true, PUnit.unit))
 else none)
 (if (2 : Int) < (↑(List.length a.1) : Int) then
 (nth a.1 (Int.toNat (2 : Int))).bind fun b =>
 bif decide (y.1 = (10 : Int)) then
 (nth a0 (Int.toNat (4 : Int))).bind fun e =>
 if (2 : Int) < (↑(List.length a.1) : Int) then
 (nth a.1 (Int.toNat (2 : Int))).bind fun f =>
 some
 ((y.1, d, c, b, ((1 : Int), e, f, PUnit.unit),
 PUnit.unit),
 true, PUnit.unit)
 else none
 else
 some
 ((y.1, d, c, b,
 ((0 : Int), ByteArray.empty, (0 : Int), PUnit.unit), PUnit.unit),
 true, PUnit.unit)
 else none)
 else none
 else
 bif decide (y.1 = (10 : Int)) then
 (nth a0 (Int.toNat (4 : Int))).bind fun c =>
 if (2 : Int) < (↑(List.length a.1) : Int) then
 (nth a.1 (Int.toNat (2 : Int))).bind fun b =>
 some
 ((y.1, d, (0 : Int), (0 : Int), ((1 : Int), c, b, PUnit.unit),
 PUnit.unit),
 true, PUnit.unit)
 else none
 else
 some
 ((y.1, d, (0 : Int), (0 : Int),
 ((0 : Int), ByteArray.empty, (0 : Int), PUnit.unit), PUnit.unit),
 true, PUnit.unit)
 else none
 else none
 else none
 else none
 else
 bif decide (y.1 = (0 : Int)) then
 some
 (((0 : Int), (0 : Int), (0 : Int), (0 : Int), ((0 : Int), ByteArray.empty, (0 : Int), PUnit.unit),
 PUnit.unit),
 false, PUnit.unit)
 else
 bif !decide ((↑(List.length a0) : Int) = K6.wrap (y.2.1 + (1 : Int))) then
 some
 (((0 : Int), (0 : Int), (0 : Int), (0 : Int), ((0 : Int), ByteArray.empty, (0 : Int), PUnit.unit),
 PUnit.unit),
 false, PUnit.unit)
 else
 if (0 : Int) ≤ K6.wrap (y.2.1 + (1 : Int)) then
 if K6.wrap (y.2.1 + (1 : Int)) ≤ (↑(List.length a0) : Int) then
 if (1 : Int) ≤ K6.wrap (y.2.1 + (1 : Int)) then
 (VH big
 (List.take ((K6.wrap (y.2.1 + (1 : Int))).toNat - Int.toNat (1 : Int))
 (List.drop (Int.toNat (1 : Int)) a0))).bind
 fun a =>
 bif !a.2.1 then
 some
 (((0 : Int), (0 : Int), (0 : Int), (0 : Int),
 ((0 : Int), ByteArray.empty, (0 : Int), PUnit.unit), PUnit.unit),
 false, PUnit.unit)
 else
 if (0 : Int) < (↑(List.length a.1) : Int) then
 (nth a.1 (Int.toNat (0 : Int))).bind fun d =>
 bif decide (y.2.1 = (3 : Int)) then
 if (1 : Int) < (↑(List.length a.1) : Int) then
 (nth a.1 (Int.toNat (1 : Int))).bind fun c =>
 Wf
 (if (2 : Int) < (↑(List.length a.1) : Int) then
 Wf
 ((nth a.1 (Int.toNat (2 : Int))).bind fun b =>
 bif decide (y.1 = (10 : Int)) then
 (nth a0 (Int.toNat (4 : Int))).bind fun e =>
 if (2 : Int) < (↑(List.length a.1) : Int) then
 (nth a.1 (Int.toNat (2 : Int))).bind fun f =>
 some
 ((y.1, d, c, b, ((1 : Int), e, f, PUnit.unit),
 PUnit.unit),
 true, PUnit.unit)
 else none
 else
 some
 ((y.1, d, c, b,
 ((0 : Int), ByteArray.empty, (0 : Int), PUnit.unit), PUnit.unit),
 true, PUnit.unit))
 ((nth a.1 (Int.toNat (2 : Int))).bind fun b =>
 bif decide (y.1 = (10 : Int)) then
 (nth a0 (Int.toNat (4 : Int))).bind fun e =>
 if (2 : Int) < (↑(List.length a.1) : Int) then
 (nth a.1 (Int.toNat (2 : Int))).bind fun f =>
 some
 ((y.1, d, c, b, ((1 : Int), e, f, PUnit.unit),
 PUnit.unit),
 true, PUnit.unit)
 else none
 else
 some
 ((y.1, d, c, b,
 ((0 : Int), ByteArray.empty, (0 : Int), PUnit.unit), PUnit.unit),
 true, PUnit.unit))
 else none)
 (if (2 : Int) < (↑(List.length a.1) : Int) then
 (nth a.1 (Int.toNat (2 : Int))).bind fun b =>
 bif decide (y.1 = (10 : Int)) then
 (nth a0 (Int.toNat (4 : Int))).bind fun e =>
 if (2 : Int) < (↑(List.length a.1) : Int) then
 (nth a.1 (Int.toNat (2 : Int))).bind fun f =>
 some
 ((y.1, d, c, b, ((1 : Int), e, f, PUnit.unit),
 PUnit.unit),
 true, PUnit.unit)
 else none
 else
 some
 ((y.1, d, c, b,
 ((0 : Int), ByteArray.empty, (0 : Int), PUnit.unit), PUnit.unit),
 true, PUnit.unit)
 else none)
 else none
 else
 bif decide (y.1 = (10 : Int)) then
 (nth a0 (Int.toNat (4 : Int))).bind fun c =>
 if (2 : Int) < (↑(List.length a.1) : Int) then
 (nth a.1 (Int.toNat (2 : Int))).bind fun b =>
 some
 ((y.1, d, (0 : Int), (0 : Int), ((1 : Int), c, b, PUnit.unit),
 PUnit.unit),
 true, PUnit.unit)
 else none
 else
 some
 ((y.1, d, (0 : Int), (0 : Int),
 ((0 : Int), ByteArray.empty, (0 : Int), PUnit.unit), PUnit.unit),
 true, PUnit.unit)
 else none
 else none
 else none
 else none := by kernel_rfl
def AT : Yf := (32, Ll) :: AR
theorem By : Yg AT := cons_cons O6 Bw
abbrev Ot : W0 := ([.ro Zf, .drop, .drop, .is (.own 0 0), .ro Zc, .drop, .drop, .drop, .drop, .drop, .drop, .drop, .drop, .drop, .drop, .drop, .drop], [.arr Zf])
def MM := FX.mk (false, false, []) AT [(3, Ot)] [none] Tryz.f35 (shV Zk)
def Zdu : Con := cR MM [Zf] true
theorem Ze7 : CO 35 Zdu := ZI By
def JS (n : Nat) (a0 : ByteArray) : Option Int := qR MM [Zf] n (a0, ())
def Xb (n : Nat) (s0 : ByteArray) (s4 : Int) (b0 : List ByteArray) : Option Int := rR MM (zs [Zf]) 3 Ot n (s0, s4, ()) (b0, ())
theorem Ze8 (n : Nat) (a0) : JS n a0 =
  Xb n a0 (1 : Int)
 [ByteArray.mk #[], ByteArray.mk #[115, 101, 116],
 ByteArray.mk #[97, 100, 100],
 ByteArray.mk #[116, 97, 107, 101]] := by kernel_rfl
theorem VJ (n : Nat) (s0 s4 b0) : Xb (n + 1) s0 s4 b0 =
  bif decide (s4 < (4 : Int)) then
 if (0 : Int) ≤ s4 then
 if s4 < (↑b0.length : Int) then
 (nth b0 s4.toNat).bind fun y =>
 bif decide (y = s0) then some s4 else Xb n s0 (K6.wrap (s4 + (1 : Int))) b0
 else none
 else none
 else some (0 : Int) := by kernel_rfl
def MN : Yf := (35, Zdu) :: AT
theorem Lm : Yg MN := cons_cons Ze7 By
end
end Go.Sx.Tryz
