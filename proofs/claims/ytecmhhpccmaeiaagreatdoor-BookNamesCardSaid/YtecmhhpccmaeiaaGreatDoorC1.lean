/- What functions of the program return, each for every input that its theorem names. Made small by a program of ours. -/
import Derived.Test.YtecmhhpccmaeiaaGreatDoorB1
import Derived.Shelf.Strconv.Itoa3
import Derived.Shelf.Strconv.AtoiAll
import Derived.Shelf.Strings.Split
import Derived.Shelf.Strings.Cut
import Derived.Shelf.Strings.Prefix
import Derived.Shelf.Strings.LastIndex
import Derived.Shelf.Strings.Search1
import Derived.Shelf.Small.Strs
import Derived.KernelRfl
import Derived.Test.YtecmhhpccmaeiaaGreatDoorProg
import Derived.Lib.SplitLaws
import Derived.Lib.AtoiAll
import Derived.Lib.ItoaNum
import Derived.IntWalk
import Derived.Shelf.Strings.Builder1
set_option linter.unusedVariables false
set_option linter.unusedSimpArgs false
set_option maxRecDepth 100000
set_option maxHeartbeats 4000000
set_option maxHeartbeats 1000000
namespace Go.Proofs.YtecmhhpccmaeiaaGreatDoor
section
open Go.Shelf
def aDW : Go.Shelf.Ren := ⟨fun | 146 => 147 | 221 => 170 | 268 => 180 | 138 => 181 | 143 => 182 | 195 => 196 | 197 => 197 | 218 => 198 | 219 => 178 | 260 => 208 | 217 => 179 | 225 => 192 | 224 => 193 | 267 => 194 | 266 => 195 | 314 => 207 | n => n, fun | 9 => 9 | 31 => 183 | 3 => 3 | 4 => 4 | 0 => 0 | 105 => 283 | 21 => 21 | 5 => 5 | 46 => 143 | 119 => 300 | 139 => 303 | 138 => 302 | 146 => 256 | 51 => 255 | n => n, fun | 1 => 0 | 3 => 4 | 4 => 5 | n => n⟩
theorem aKI : Go.Proofs.Lays.n146 Tryz.prog aDW := {
 mixed := by kernel_rfl
 f138 := Tryz.func181.trans (congrArg some (by kernel_rfl))
 f143 := Tryz.func182.trans (congrArg some (by kernel_rfl))
 f146 := Tryz.func147.trans (congrArg some (by kernel_rfl))
 f195 := Tryz.func196.trans (congrArg some (by kernel_rfl))
 f197 := Tryz.func197.trans (congrArg some (by kernel_rfl))
 f217 := Tryz.func179.trans (congrArg some (by kernel_rfl))
 f218 := Tryz.func198.trans (congrArg some (by kernel_rfl))
 f219 := Tryz.func178.trans (congrArg some (by kernel_rfl))
 f221 := Tryz.func170.trans (congrArg some (by kernel_rfl))
 f224 := Tryz.func193.trans (congrArg some (by kernel_rfl))
 f225 := Tryz.func192.trans (congrArg some (by kernel_rfl))
 f260 := Tryz.func208.trans (congrArg some (by kernel_rfl))
 f266 := Tryz.func195.trans (congrArg some (by kernel_rfl))
 f267 := Tryz.func194.trans (congrArg some (by kernel_rfl))
 f268 := Tryz.func180.trans (congrArg some (by kernel_rfl))
 f314 := Tryz.func207.trans (congrArg some (by kernel_rfl))
 t0 := Tryz.underlying0
 a0 := Tryz.isAgg0
 z0 := Tryz.sizeOf0
 v0 := Tryz.zeroValue0
 t3 := Tryz.underlying3
 a3 := Tryz.isAgg3
 z3 := Tryz.sizeOf3
 v3 := Tryz.zeroValue3
 t4 := Tryz.underlying4
 a4 := Tryz.isAgg4
 z4 := Tryz.sizeOf4
 v4 := Tryz.zeroValue4
 t5 := Tryz.underlying5
 a5 := Tryz.isAgg5
 z5 := Tryz.sizeOf5
 v5 := Tryz.zeroValue5
 t9 := Tryz.underlying9
 a9 := Tryz.isAgg9
 z9 := Tryz.sizeOf9
 v9 := Tryz.zeroValue9
 t21 := Tryz.underlying21
 a21 := Tryz.isAgg21
 z21 := Tryz.sizeOf21
 v21 := Tryz.zeroValue21
 t31 := Tryz.underlying183
 a31 := Tryz.isAgg183
 z31 := Tryz.sizeOf183
 v31 := Tryz.zeroValue183
 t46 := Tryz.underlying143
 a46 := Tryz.isAgg143
 z46 := Tryz.sizeOf143
 v46 := Tryz.zeroValue143
 t51 := Tryz.underlying255
 a51 := Tryz.isAgg255
 z51 := Tryz.sizeOf255
 v51 := Tryz.zeroValue255
 t105 := Tryz.underlying283
 a105 := Tryz.isAgg283
 z105 := Tryz.sizeOf283
 v105 := Tryz.zeroValue283
 t119 := Tryz.underlying300
 a119 := Tryz.isAgg300
 z119 := Tryz.sizeOf300
 t138 := Tryz.underlying302
 a138 := Tryz.isAgg302
 z138 := Tryz.sizeOf302
 v138 := Tryz.zeroValue302
 t139 := Tryz.underlying303
 a139 := Tryz.isAgg303
 z139 := Tryz.sizeOf303
 v139 := Tryz.zeroValue303
 t146 := Tryz.underlying256
 a146 := Tryz.isAgg256
 z146 := Tryz.sizeOf256
 v146 := Tryz.zeroValue256
 g1 := by kernel_rfl
 g3 := by kernel_rfl
 g4 := by kernel_rfl }
def aDX : Go.Shelf.Ren := ⟨fun | 145 => 139 | 220 => 165 | 219 => 178 | 217 => 179 | 225 => 192 | 224 => 193 | 267 => 194 | 266 => 195 | 314 => 207 | n => n, fun | 9 => 9 | 4 => 4 | 59 => 233 | 3 => 3 | 5 => 5 | 46 => 143 | 146 => 256 | 51 => 255 | n => n, fun | 1 => 0 | n => n⟩
theorem aKJ : Go.Proofs.Lays.n145 Tryz.prog aDX := {
 mixed := by kernel_rfl
 f145 := Tryz.func139.trans (congrArg some (by kernel_rfl))
 f217 := Tryz.func179.trans (congrArg some (by kernel_rfl))
 f219 := Tryz.func178.trans (congrArg some (by kernel_rfl))
 f220 := Tryz.func165.trans (congrArg some (by kernel_rfl))
 f224 := Tryz.func193.trans (congrArg some (by kernel_rfl))
 f225 := Tryz.func192.trans (congrArg some (by kernel_rfl))
 f266 := Tryz.func195.trans (congrArg some (by kernel_rfl))
 f267 := Tryz.func194.trans (congrArg some (by kernel_rfl))
 f314 := Tryz.func207.trans (congrArg some (by kernel_rfl))
 t3 := Tryz.underlying3
 a3 := Tryz.isAgg3
 z3 := Tryz.sizeOf3
 v3 := Tryz.zeroValue3
 t4 := Tryz.underlying4
 a4 := Tryz.isAgg4
 z4 := Tryz.sizeOf4
 v4 := Tryz.zeroValue4
 t5 := Tryz.underlying5
 a5 := Tryz.isAgg5
 z5 := Tryz.sizeOf5
 v5 := Tryz.zeroValue5
 t9 := Tryz.underlying9
 a9 := Tryz.isAgg9
 z9 := Tryz.sizeOf9
 v9 := Tryz.zeroValue9
 t46 := Tryz.underlying143
 a46 := Tryz.isAgg143
 z46 := Tryz.sizeOf143
 v46 := Tryz.zeroValue143
 t51 := Tryz.underlying255
 a51 := Tryz.isAgg255
 z51 := Tryz.sizeOf255
 v51 := Tryz.zeroValue255
 t59 := Tryz.underlying233
 a59 := Tryz.isAgg233
 z59 := Tryz.sizeOf233
 v59 := Tryz.zeroValue233
 t146 := Tryz.underlying256
 a146 := Tryz.isAgg256
 z146 := Tryz.sizeOf256
 v146 := Tryz.zeroValue256
 g1 := by kernel_rfl }
def aDY : Go.Shelf.Ren := ⟨fun | 102 => 93 | 209 => 134 | 207 => 161 | n => n, fun | 9 => 9 | 4 => 4 | 3 => 3 | n => n, fun | n => n⟩
theorem aKK : Go.Proofs.Lays.n102 Tryz.prog aDY := {
 mixed := by kernel_rfl
 f102 := Tryz.func93.trans (congrArg some (by kernel_rfl))
 f207 := Tryz.func161.trans (congrArg some (by kernel_rfl))
 f209 := Tryz.func134.trans (congrArg some (by kernel_rfl))
 t3 := Tryz.underlying3
 a3 := Tryz.isAgg3
 z3 := Tryz.sizeOf3
 v3 := Tryz.zeroValue3
 t4 := Tryz.underlying4
 a4 := Tryz.isAgg4
 z4 := Tryz.sizeOf4
 v4 := Tryz.zeroValue4
 t9 := Tryz.underlying9
 a9 := Tryz.isAgg9
 z9 := Tryz.sizeOf9
 v9 := Tryz.zeroValue9 }
def aDZ : Go.Shelf.Ren := ⟨fun | 100 => 145 | 207 => 161 | n => n, fun | 9 => 9 | 4 => 4 | 3 => 3 | n => n, fun | n => n⟩
theorem aKL : Go.Proofs.Lays.n100 Tryz.prog aDZ := {
 mixed := by kernel_rfl
 f100 := Tryz.func145.trans (congrArg some (by kernel_rfl))
 f207 := Tryz.func161.trans (congrArg some (by kernel_rfl))
 t3 := Tryz.underlying3
 a3 := Tryz.isAgg3
 z3 := Tryz.sizeOf3
 v3 := Tryz.zeroValue3
 t4 := Tryz.underlying4
 a4 := Tryz.isAgg4
 z4 := Tryz.sizeOf4
 v4 := Tryz.zeroValue4
 t9 := Tryz.underlying9
 a9 := Tryz.isAgg9
 z9 := Tryz.sizeOf9
 v9 := Tryz.zeroValue9 }
def aD0 : Go.Shelf.Ren := ⟨fun | 137 => 169 | 217 => 179 | 266 => 195 | n => n, fun | 9 => 9 | 5 => 5 | 3 => 3 | n => n, fun | n => n⟩
theorem aKM : Go.Proofs.Lays.n137 Tryz.prog aD0 := {
 mixed := by kernel_rfl
 f137 := Tryz.func169.trans (congrArg some (by kernel_rfl))
 f217 := Tryz.func179.trans (congrArg some (by kernel_rfl))
 f266 := Tryz.func195.trans (congrArg some (by kernel_rfl))
 t3 := Tryz.underlying3
 a3 := Tryz.isAgg3
 z3 := Tryz.sizeOf3
 v3 := Tryz.zeroValue3
 t5 := Tryz.underlying5
 a5 := Tryz.isAgg5
 z5 := Tryz.sizeOf5
 v5 := Tryz.zeroValue5
 t9 := Tryz.underlying9
 a9 := Tryz.isAgg9
 z9 := Tryz.sizeOf9
 v9 := Tryz.zeroValue9 }
def aCO : Go.Shelf.Ren := ⟨fun | 172 => 164 | 244 => 176 | 245 => 177 | 247 => 187 | 279 => 188 | 280 => 189 | 281 => 190 | 282 => 191 | 287 => 204 | 316 => 205 | 171 => 137 | 205 => 206 | 321 => 211 | 322 => 212 | 243 => 163 | 246 => 175 | 283 => 183 | 284 => 184 | 285 => 185 | 286 => 186 | 129 => 200 | 317 => 199 | 318 => 201 | 319 => 202 | 320 => 203 | 337 => 209 | 338 => 210 | n => n, fun | 9 => 9 | 3 => 3 | 75 => 228 | 76 => 230 | 4 => 4 | 5 => 5 | 167 => 276 | 37 => 53 | 0 => 0 | 85 => 277 | 2 => 2 | 168 => 279 | 53 => 271 | 175 => 290 | 46 => 143 | 210 => 293 | 127 => 225 | 145 => 299 | 143 => 297 | 21 => 21 | 171 => 270 | 173 => 274 | 212 => 286 | 51 => 255 | 20 => 20 | 213 => 287 | 232 => 304 | 233 => 305 | 80 => 160 | n => n, fun | 15 => 2 | 16 => 3 | 17 => 1 | 18 => 6 | 19 => 7 | n => n⟩
theorem aAY : Go.Proofs.LaysC.n172 Tryz.prog aCO := {
 mixed := by kernel_rfl
 f129 := Tryz.func200.trans (congrArg some (by kernel_rfl))
 f171 := Tryz.func137.trans (congrArg some (by kernel_rfl))
 f172 := Tryz.func164.trans (congrArg some (by kernel_rfl))
 f205 := Tryz.func206.trans (congrArg some (by kernel_rfl))
 f243 := Tryz.func163.trans (congrArg some (by kernel_rfl))
 f244 := Tryz.func176.trans (congrArg some (by kernel_rfl))
 f245 := Tryz.func177.trans (congrArg some (by kernel_rfl))
 f246 := Tryz.func175.trans (congrArg some (by kernel_rfl))
 f247 := Tryz.func187.trans (congrArg some (by kernel_rfl))
 f279 := Tryz.func188.trans (congrArg some (by kernel_rfl))
 f280 := Tryz.func189.trans (congrArg some (by kernel_rfl))
 f281 := Tryz.func190.trans (congrArg some (by kernel_rfl))
 f282 := Tryz.func191.trans (congrArg some (by kernel_rfl))
 f283 := Tryz.func183.trans (congrArg some (by kernel_rfl))
 f284 := Tryz.func184.trans (congrArg some (by kernel_rfl))
 f285 := Tryz.func185.trans (congrArg some (by kernel_rfl))
 f286 := Tryz.func186.trans (congrArg some (by kernel_rfl))
 f287 := Tryz.func204.trans (congrArg some (by kernel_rfl))
 f316 := Tryz.func205.trans (congrArg some (by kernel_rfl))
 f317 := Tryz.func199.trans (congrArg some (by kernel_rfl))
 f318 := Tryz.func201.trans (congrArg some (by kernel_rfl))
 f319 := Tryz.func202.trans (congrArg some (by kernel_rfl))
 f320 := Tryz.func203.trans (congrArg some (by kernel_rfl))
 f321 := Tryz.func211.trans (congrArg some (by kernel_rfl))
 f322 := Tryz.func212.trans (congrArg some (by kernel_rfl))
 f337 := Tryz.func209.trans (congrArg some (by kernel_rfl))
 f338 := Tryz.func210.trans (congrArg some (by kernel_rfl))
 t0 := Tryz.underlying0
 a0 := Tryz.isAgg0
 z0 := Tryz.sizeOf0
 v0 := Tryz.zeroValue0
 t2 := Tryz.underlying2
 a2 := Tryz.isAgg2
 z2 := Tryz.sizeOf2
 v2 := Tryz.zeroValue2
 t3 := Tryz.underlying3
 a3 := Tryz.isAgg3
 z3 := Tryz.sizeOf3
 v3 := Tryz.zeroValue3
 t4 := Tryz.underlying4
 a4 := Tryz.isAgg4
 z4 := Tryz.sizeOf4
 v4 := Tryz.zeroValue4
 t5 := Tryz.underlying5
 a5 := Tryz.isAgg5
 z5 := Tryz.sizeOf5
 v5 := Tryz.zeroValue5
 t9 := Tryz.underlying9
 a9 := Tryz.isAgg9
 z9 := Tryz.sizeOf9
 v9 := Tryz.zeroValue9
 t20 := Tryz.underlying20
 a20 := Tryz.isAgg20
 z20 := Tryz.sizeOf20
 v20 := Tryz.zeroValue20
 t21 := Tryz.underlying21
 a21 := Tryz.isAgg21
 z21 := Tryz.sizeOf21
 v21 := Tryz.zeroValue21
 t37 := Tryz.underlying53
 a37 := Tryz.isAgg53
 z37 := Tryz.sizeOf53
 v37 := Tryz.zeroValue53
 t46 := Tryz.underlying143
 a46 := Tryz.isAgg143
 z46 := Tryz.sizeOf143
 v46 := Tryz.zeroValue143
 t51 := Tryz.underlying255
 a51 := Tryz.isAgg255
 z51 := Tryz.sizeOf255
 v51 := Tryz.zeroValue255
 t53 := Tryz.underlying271
 a53 := Tryz.isAgg271
 z53 := Tryz.sizeOf271
 v53 := Tryz.zeroValue271
 t75 := Tryz.underlying228
 a75 := Tryz.isAgg228
 z75 := Tryz.sizeOf228
 v75 := Tryz.zeroValue228
 t76 := Tryz.underlying230
 a76 := Tryz.isAgg230
 z76 := Tryz.sizeOf230
 v76 := Tryz.zeroValue230
 t85 := Tryz.underlying277
 a85 := Tryz.isAgg277
 z85 := Tryz.sizeOf277
 v85 := Tryz.zeroValue277
 t127 := Tryz.underlying225
 a127 := Tryz.isAgg225
 z127 := Tryz.sizeOf225
 v127 := Tryz.zeroValue225
 t143 := Tryz.underlying297
 a143 := Tryz.isAgg297
 z143 := Tryz.sizeOf297
 v143 := Tryz.zeroValue297
 t145 := Tryz.underlying299
 a145 := Tryz.isAgg299
 z145 := Tryz.sizeOf299
 v145 := Tryz.zeroValue299
 t167 := Tryz.underlying276
 a167 := Tryz.isAgg276
 z167 := Tryz.sizeOf276
 v167 := Tryz.zeroValue276
 t168 := Tryz.underlying279
 a168 := Tryz.isAgg279
 z168 := Tryz.sizeOf279
 v168 := Tryz.zeroValue279
 t171 := Tryz.underlying270
 a171 := Tryz.isAgg270
 z171 := Tryz.sizeOf270
 v171 := Tryz.zeroValue270
 t173 := Tryz.underlying274
 a173 := Tryz.isAgg274
 z173 := Tryz.sizeOf274
 v173 := Tryz.zeroValue274
 t175 := Tryz.underlying290
 a175 := Tryz.isAgg290
 z175 := Tryz.sizeOf290
 v175 := Tryz.zeroValue290
 t210 := Tryz.underlying293
 a210 := Tryz.isAgg293
 z210 := Tryz.sizeOf293
 v210 := Tryz.zeroValue293
 t212 := Tryz.underlying286
 a212 := Tryz.isAgg286
 z212 := Tryz.sizeOf286
 v212 := Tryz.zeroValue286
 t213 := Tryz.underlying287
 a213 := Tryz.isAgg287
 z213 := Tryz.sizeOf287
 t232 := Tryz.underlying304
 a232 := Tryz.isAgg304
 z232 := Tryz.sizeOf304
 v232 := Tryz.zeroValue304
 t233 := Tryz.underlying305
 a233 := Tryz.isAgg305
 z233 := Tryz.sizeOf305
 v233 := Tryz.zeroValue305
 g15 := by kernel_rfl
 g16 := by kernel_rfl
 g17 := by kernel_rfl
 g18 := by kernel_rfl
 g19 := by kernel_rfl
 t80 := Tryz.underlying160
 a80 := Tryz.isAgg160
 z80 := Tryz.sizeOf160
 v80 := Tryz.zeroValue160
 i0 := by kernel_rfl
 i2 := by kernel_rfl
 i3 := by kernel_rfl
 i4 := by kernel_rfl
 i5 := by kernel_rfl
 i9 := by kernel_rfl
 i20 := by kernel_rfl
 i21 := by kernel_rfl
 i37 := by kernel_rfl
 i46 := by kernel_rfl
 i51 := by kernel_rfl
 i53 := by kernel_rfl
 i75 := by kernel_rfl
 i76 := by kernel_rfl
 i80 := by kernel_rfl
 i85 := by kernel_rfl
 i127 := by kernel_rfl
 i143 := by kernel_rfl
 i145 := by kernel_rfl
 i167 := by kernel_rfl
 i168 := by kernel_rfl
 i171 := by kernel_rfl
 i173 := by kernel_rfl
 i175 := by kernel_rfl
 i210 := by kernel_rfl
 i212 := by kernel_rfl
 i232 := by kernel_rfl
 i233 := by kernel_rfl
 m15 := by kernel_rfl
 m16 := by kernel_rfl
 m17 := by kernel_rfl
 m18 := by kernel_rfl
 m19 := by kernel_rfl
 c0 := by kernel_rfl
 c2 := by kernel_rfl
 c3 := by kernel_rfl
 c4 := by kernel_rfl
 c5 := by kernel_rfl
 c9 := by kernel_rfl
 c20 := by kernel_rfl
 c21 := by kernel_rfl
 c37 := by kernel_rfl
 c46 := by kernel_rfl
 c51 := by kernel_rfl
 c53 := by kernel_rfl
 c75 := by kernel_rfl
 c76 := by kernel_rfl
 c80 := by kernel_rfl
 c85 := by kernel_rfl
 c127 := by kernel_rfl
 c143 := by kernel_rfl
 c145 := by kernel_rfl
 c167 := by kernel_rfl
 c168 := by kernel_rfl
 c171 := by kernel_rfl
 c173 := by kernel_rfl
 c175 := by kernel_rfl
 c210 := by kernel_rfl
 c212 := by kernel_rfl
 c213 := by kernel_rfl
 c232 := by kernel_rfl
 c233 := by kernel_rfl }
def aD1 : Go.Shelf.Ren := ⟨fun | 285 => 185 | n => n, fun | 37 => 53 | 53 => 271 | 3 => 3 | 4 => 4 | 51 => 255 | 9 => 9 | 5 => 5 | 0 => 0 | n => n, fun | n => n⟩
theorem aKN : Go.Proofs.Lays.n285 Tryz.prog aD1 := {
 mixed := by kernel_rfl
 f285 := Tryz.func185.trans (congrArg some (by kernel_rfl))
 t0 := Tryz.underlying0
 a0 := Tryz.isAgg0
 z0 := Tryz.sizeOf0
 v0 := Tryz.zeroValue0
 t3 := Tryz.underlying3
 a3 := Tryz.isAgg3
 z3 := Tryz.sizeOf3
 v3 := Tryz.zeroValue3
 t4 := Tryz.underlying4
 a4 := Tryz.isAgg4
 z4 := Tryz.sizeOf4
 v4 := Tryz.zeroValue4
 t5 := Tryz.underlying5
 a5 := Tryz.isAgg5
 z5 := Tryz.sizeOf5
 v5 := Tryz.zeroValue5
 t9 := Tryz.underlying9
 a9 := Tryz.isAgg9
 z9 := Tryz.sizeOf9
 v9 := Tryz.zeroValue9
 t37 := Tryz.underlying53
 a37 := Tryz.isAgg53
 z37 := Tryz.sizeOf53
 v37 := Tryz.zeroValue53
 t51 := Tryz.underlying255
 a51 := Tryz.isAgg255
 z51 := Tryz.sizeOf255
 v51 := Tryz.zeroValue255
 t53 := Tryz.underlying271
 a53 := Tryz.isAgg271
 z53 := Tryz.sizeOf271
 v53 := Tryz.zeroValue271 }
def aD2 : Go.Shelf.Ren := ⟨fun | 129 => 200 | n => n, fun | 53 => 271 | 3 => 3 | 4 => 4 | 46 => 143 | 5 => 5 | 9 => 9 | n => n, fun | n => n⟩
theorem aKO : Go.Proofs.Lays.n129 Tryz.prog aD2 := {
 mixed := by kernel_rfl
 f129 := Tryz.func200.trans (congrArg some (by kernel_rfl))
 t3 := Tryz.underlying3
 a3 := Tryz.isAgg3
 z3 := Tryz.sizeOf3
 v3 := Tryz.zeroValue3
 t4 := Tryz.underlying4
 a4 := Tryz.isAgg4
 z4 := Tryz.sizeOf4
 v4 := Tryz.zeroValue4
 t5 := Tryz.underlying5
 a5 := Tryz.isAgg5
 z5 := Tryz.sizeOf5
 v5 := Tryz.zeroValue5
 t9 := Tryz.underlying9
 a9 := Tryz.isAgg9
 z9 := Tryz.sizeOf9
 v9 := Tryz.zeroValue9
 t46 := Tryz.underlying143
 a46 := Tryz.isAgg143
 z46 := Tryz.sizeOf143
 v46 := Tryz.zeroValue143
 t53 := Tryz.underlying271
 a53 := Tryz.isAgg271
 z53 := Tryz.sizeOf271
 v53 := Tryz.zeroValue271 }
def aD3 : Go.Shelf.Ren := ⟨fun | 317 => 199 | n => n, fun | 3 => 3 | 46 => 143 | n => n, fun | n => n⟩
theorem aKP : Go.Proofs.Lays.n317 Tryz.prog aD3 := {
 mixed := by kernel_rfl
 f317 := Tryz.func199.trans (congrArg some (by kernel_rfl))
 t3 := Tryz.underlying3
 a3 := Tryz.isAgg3
 z3 := Tryz.sizeOf3
 v3 := Tryz.zeroValue3
 t46 := Tryz.underlying143
 a46 := Tryz.isAgg143
 z46 := Tryz.sizeOf143
 v46 := Tryz.zeroValue143 }
def aD4 : Go.Shelf.Ren := ⟨fun | 318 => 201 | n => n, fun | 3 => 3 | 4 => 4 | n => n, fun | n => n⟩
theorem aKQ : Go.Proofs.Lays.n318 Tryz.prog aD4 := {
 mixed := by kernel_rfl
 f318 := Tryz.func201.trans (congrArg some (by kernel_rfl))
 t3 := Tryz.underlying3
 a3 := Tryz.isAgg3
 z3 := Tryz.sizeOf3
 v3 := Tryz.zeroValue3
 t4 := Tryz.underlying4
 a4 := Tryz.isAgg4
 z4 := Tryz.sizeOf4
 v4 := Tryz.zeroValue4 }
def aD5 : Go.Shelf.Ren := ⟨fun | 246 => 175 | 283 => 183 | 284 => 184 | 285 => 185 | 286 => 186 | 129 => 200 | 317 => 199 | 318 => 201 | 319 => 202 | 320 => 203 | 337 => 209 | 338 => 210 | n => n, fun | 2 => 2 | 3 => 3 | 9 => 9 | 4 => 4 | 171 => 270 | 0 => 0 | 53 => 271 | 37 => 53 | 5 => 5 | 173 => 274 | 212 => 286 | 51 => 255 | 20 => 20 | 213 => 287 | 46 => 143 | 232 => 304 | 233 => 305 | n => n, fun | 17 => 1 | 18 => 6 | 19 => 7 | n => n⟩
theorem aKR : Go.Proofs.Lays.n246 Tryz.prog aD5 := {
 mixed := by kernel_rfl
 f129 := Tryz.func200.trans (congrArg some (by kernel_rfl))
 f246 := Tryz.func175.trans (congrArg some (by kernel_rfl))
 f283 := Tryz.func183.trans (congrArg some (by kernel_rfl))
 f284 := Tryz.func184.trans (congrArg some (by kernel_rfl))
 f285 := Tryz.func185.trans (congrArg some (by kernel_rfl))
 f286 := Tryz.func186.trans (congrArg some (by kernel_rfl))
 f317 := Tryz.func199.trans (congrArg some (by kernel_rfl))
 f318 := Tryz.func201.trans (congrArg some (by kernel_rfl))
 f319 := Tryz.func202.trans (congrArg some (by kernel_rfl))
 f320 := Tryz.func203.trans (congrArg some (by kernel_rfl))
 f337 := Tryz.func209.trans (congrArg some (by kernel_rfl))
 f338 := Tryz.func210.trans (congrArg some (by kernel_rfl))
 t0 := Tryz.underlying0
 a0 := Tryz.isAgg0
 z0 := Tryz.sizeOf0
 v0 := Tryz.zeroValue0
 t2 := Tryz.underlying2
 a2 := Tryz.isAgg2
 z2 := Tryz.sizeOf2
 v2 := Tryz.zeroValue2
 t3 := Tryz.underlying3
 a3 := Tryz.isAgg3
 z3 := Tryz.sizeOf3
 v3 := Tryz.zeroValue3
 t4 := Tryz.underlying4
 a4 := Tryz.isAgg4
 z4 := Tryz.sizeOf4
 v4 := Tryz.zeroValue4
 t5 := Tryz.underlying5
 a5 := Tryz.isAgg5
 z5 := Tryz.sizeOf5
 v5 := Tryz.zeroValue5
 t9 := Tryz.underlying9
 a9 := Tryz.isAgg9
 z9 := Tryz.sizeOf9
 v9 := Tryz.zeroValue9
 t20 := Tryz.underlying20
 a20 := Tryz.isAgg20
 z20 := Tryz.sizeOf20
 v20 := Tryz.zeroValue20
 t37 := Tryz.underlying53
 a37 := Tryz.isAgg53
 z37 := Tryz.sizeOf53
 v37 := Tryz.zeroValue53
 t46 := Tryz.underlying143
 a46 := Tryz.isAgg143
 z46 := Tryz.sizeOf143
 v46 := Tryz.zeroValue143
 t51 := Tryz.underlying255
 a51 := Tryz.isAgg255
 z51 := Tryz.sizeOf255
 v51 := Tryz.zeroValue255
 t53 := Tryz.underlying271
 a53 := Tryz.isAgg271
 z53 := Tryz.sizeOf271
 v53 := Tryz.zeroValue271
 t171 := Tryz.underlying270
 a171 := Tryz.isAgg270
 z171 := Tryz.sizeOf270
 v171 := Tryz.zeroValue270
 t173 := Tryz.underlying274
 a173 := Tryz.isAgg274
 z173 := Tryz.sizeOf274
 v173 := Tryz.zeroValue274
 t212 := Tryz.underlying286
 a212 := Tryz.isAgg286
 z212 := Tryz.sizeOf286
 v212 := Tryz.zeroValue286
 t213 := Tryz.underlying287
 a213 := Tryz.isAgg287
 z213 := Tryz.sizeOf287
 t232 := Tryz.underlying304
 a232 := Tryz.isAgg304
 z232 := Tryz.sizeOf304
 v232 := Tryz.zeroValue304
 t233 := Tryz.underlying305
 a233 := Tryz.isAgg305
 z233 := Tryz.sizeOf305
 v233 := Tryz.zeroValue305
 g17 := by kernel_rfl
 g18 := by kernel_rfl
 g19 := by kernel_rfl }
end
section
open Go
def dF (c : UInt8) : List UInt8 → List (List UInt8)
 | [] => [[]]
 | b :: l => if b = c then [] :: dF c l else match dF c l with
  | p :: ps => (b :: p) :: ps
  | [] => [[b]]
theorem xX (c : UInt8) : ∀ l, dF c l ≠ []
 | [] => by simp [dF]
 | b :: l => by
  rw [dF]
  split
  ·simp
  ·split <;> simp
def bQ : List UInt8 → List (List UInt8)
 | [] => []
 | b :: l => if b = 10 then [10] :: bQ l else match bQ l with
  | p :: ps => (b :: p) :: ps
  | [] => [[b]]
theorem tG (c : UInt8) (l : List UInt8) : Lib.index (c :: l) [c] = 0 := by
 simp [Lib.index]
theorem tH (b c : UInt8) (l : List UInt8) (h : b ≠ c) : Lib.index (b :: l) [c] = if Lib.index l [c] == -1 then -1 else Lib.index l [c] + 1 := by
 have h2 : ¬ c = b := fun e => h e.symm
 simp [Lib.index, h2]
theorem aMz (l : List UInt8) (c : UInt8) : -1 ≤ Lib.index l [c] := by
 induction l with
 | nil => simp [Lib.index]
 | cons b l ih =>
  by_cases h : b = c
  ·subst h; rw [tG]; omega
  ·rw [tH b c l h]; split <;> omega
theorem xY (c : UInt8) : ∀ (l : List UInt8) (k : Nat), k = l.count c → Lib.splitK [c] 0 k l = dF c l
 | [], k, hk => by simp at hk; subst hk; rfl
 | b :: l, k, hk => by
  by_cases h : b = c
  ·subst h
   rw [List.count_cons_self] at hk
   subst hk
   have := xY b l (l.count b) rfl
   simp only [Lib.splitK, tG]
   simp [dF, this]
  ·rw [List.count_cons_of_ne h] at hk
   have ih := xY c l k hk
   cases k with
   | zero =>
    have hl : dF c l = [l] := by rw [← ih]; rfl
    rw [dF, if_neg h, hl]; rfl
   | succ k =>
    rw [dF, if_neg h, ← ih]
    simp only [Lib.splitK, tH b c l h]
    have hge := aMz l c
    by_cases hm : Lib.index l [c] = -1
    ·simp [hm]
    ·have h0 : 0 ≤ Lib.index l [c] := by omega
     obtain ⟨i, hi⟩ := Int.eq_ofNat_of_zero_le h0
     rw [hi]
     have e1 : ((i : Int) == -1) = false := by simp
     have e2 : (((i : Int) + 1 : Int) == -1) = false := by
      have : ¬ ((i : Int) + 1 = -1) := by omega
      simpa using this
     have e3 : ((i : Int) + 1).toNat = i + 1 := by omega
     simp only [e1, e2, Bool.false_eq_true, if_false, e3]
     simp
theorem aG5 (s : List UInt8) (c : UInt8) : (Lib.splitB ⟨#[c]⟩ 0 (Lib.countB ⟨⟨s⟩⟩ ⟨#[c]⟩) ⟨⟨s⟩⟩).map (·.data.toList) = dF c s := by
 rw [Lib.splitB_data]
 exact xY c s _ (Lib.count_one c s)
def jA (s : List UInt8) : Int × Bool := match Lib.atoiAll s with
 | .ok v => (v, true)
 | .range => (Lib.atoiSat s, false)
 | _ => (0, false)
theorem aB5 : ∀ (s : List UInt8) (i : Nat), Lib.indexByte s 10 = i → bQ s = s.take (i + 1) :: bQ (s.drop (i + 1))
 | [], i, h => by exfalso; simp only [Lib.indexByte] at h; omega
 | b :: l, i, h => by
  unfold Lib.indexByte at h
  by_cases hb : b = 10
  ·subst hb
   have hi : i = 0 := by simpa using h.symm
   subst hi
   simp [bQ]
  ·have h1 : (b == 10) = false := by simpa using hb
   rw [h1] at h
   simp only [Bool.false_eq_true, if_false] at h
   have hge := Lib.indexByte_ge l 10
   by_cases hm : Lib.indexByte l 10 = -1
   ·exfalso; rw [hm] at h; simp only [BEq.rfl, if_true] at h; omega
   ·obtain ⟨j, hj⟩ := Int.eq_ofNat_of_zero_le (show 0 ≤ Lib.indexByte l 10 by omega)
    rw [hj] at h
    have e1 : ((j : Int) == -1) = false := by simp
    rw [e1] at h
    simp only [Bool.false_eq_true, if_false] at h
    obtain rfl : i = j + 1 := by omega
    have := aB5 l j hj
    rw [bQ, if_neg hb, this]
    rfl
theorem zC : ∀ (s : List UInt8), s ≠ [] → Lib.indexByte s 10 = -1 → bQ s = [s]
 | [], h, _ => absurd rfl h
 | b :: l, _, h => by
  unfold Lib.indexByte at h
  by_cases hb : b = 10
  ·subst hb; simp at h
  ·have h1 : (b == 10) = false := by simpa using hb
   rw [h1] at h
   simp only [Bool.false_eq_true, if_false] at h
   have hge := Lib.indexByte_ge l 10
   have hm : Lib.indexByte l 10 = -1 := by
    by_cases hm : Lib.indexByte l 10 = -1
    ·exact hm
    ·have : (Lib.indexByte l 10 == -1) = false := by simpa using hm
     rw [this] at h
     simp only [Bool.false_eq_true, if_false] at h
     omega
   rw [bQ, if_neg hb]
   cases l with
   | nil => rfl
   | cons d l => rw [zC (d :: l) (by simp) hm]
end
section
open Go.Gh
open Go.RowKit
theorem zD (s p : List UInt8) (h : s.length ≤ 9223372036854775807) : bZ Tryz.prog 145 [.str s, .str p] (.ok (.bool (Lib.hasSuffix s p))) :=
 fW (v := .bool (Lib.hasSuffix s p)) (fun π => by simp only [aS]) fun π w vs hg hk hv => by
  simp only [aU, aS] at hv
  obtain ⟨_, _, rfl, rfl, _, _, rfl, rfl, rfl⟩ := hv
  exact (Any.strings_HasSuffix aKL ⟨⟨s⟩⟩ ⟨⟨p⟩⟩ w h).mono fun e w' ⟨he, hw⟩ => ⟨he, hw ▸ Below.refl _ _⟩
theorem aCP (s p : List UInt8) (h : s.length ≤ 9223372036854775807) : bZ Tryz.prog 93 [.str s, .str p] (.ok (.str (Lib.trimSuffix s p))) :=
 fW (v := .string ⟨⟨Lib.trimSuffix s p⟩⟩) (fun π => by simp only [aS]) fun π w vs hg hk hv => by
  simp only [aU, aS] at hv
  obtain ⟨_, _, rfl, rfl, _, _, rfl, rfl, rfl⟩ := hv
  exact (Any.strings_TrimSuffix aKK ⟨⟨s⟩⟩ ⟨⟨p⟩⟩ w h).mono fun e w' ⟨he, hw⟩ => ⟨he, hw ▸ Below.refl _ _⟩
theorem aD6 (s : List UInt8) (c : UInt8) : bZ Tryz.prog 169 [.str s, .int .u8 c.toNat] (.ok (.int .i64 (Lib.indexByte s c))) :=
 fW (v := .int .i64 (Lib.indexByte s c)) (fun π => by simp only [aS]) fun π w vs hg hk hv => by
  simp only [aU, aS] at hv
  obtain ⟨_, _, rfl, rfl, _, _, rfl, rfl, rfl⟩ := hv
  refine (Any.strings_IndexByte aKM ⟨⟨s⟩⟩ c.toNat w).mono fun e w' ⟨he, hw⟩ => ⟨?_, hw ▸ Below.refl _ _⟩
  rw [he]
  simp
theorem aE7 {w : World} (n : Nat) : Below w.heap.size w (w.drewN n) := ⟨rfl, rfl, rfl, Nat.le_refl _, fun _ _ => rfl⟩
theorem aF7 (s p : List UInt8) (h : s.length < 4294967281) : bZ Tryz.prog 139 [.str s, .str p] (.ok (.tuple [.str (Lib.cut s p).1, .str (Lib.cut s p).2.1, .bool (Lib.cut s p).2.2])) :=
 fW (v := .tuple #[.string ⟨⟨(Lib.cut s p).1⟩⟩, .string ⟨⟨(Lib.cut s p).2.1⟩⟩, .bool (Lib.cut s p).2.2]) (fun π => by simp [aS, aU]) fun π w vs hg hk hv => by
  simp only [aU, aS] at hv
  obtain ⟨_, _, rfl, rfl, _, _, rfl, rfl, rfl⟩ := hv
  obtain ⟨_, ⟨m, hm⟩, _⟩ := hg
  exact (Any.strings_Cut aKJ ⟨⟨s⟩⟩ ⟨⟨p⟩⟩ m w h (hk _ _ _ hm)).mono fun e w' ⟨he, n, hw⟩ => ⟨he, hw ▸ aE7 n⟩
theorem aB6 {π : PM} {b : Nat} : ∀ (l : List (List UInt8)) (o : Nat), (∀ (j : Nat) s, l[j]? = some s → π b (o + j) = some (.string ⟨⟨s⟩⟩)) → bD π b o (l.map P.str)
 | [], o, _ => by simp only [List.map_nil, bD]
 | s :: l, o, h => by
  simp only [List.map_cons, bD]
  refine ⟨⟨_, h 0 s rfl, by simp only [aS], rfl⟩, aB6 l (o + 1) fun j s hj => ?_⟩
  have := h (j + 1) s (by simpa using hj)
  rwa [Nat.add_assoc, Nat.add_comm 1]
theorem aKS (s : List UInt8) (c : UInt8) (h : s.length < 4294967281) : bZ Tryz.prog 147 [.str s, .str [c]] (.ok (.list ((dF c s).map P.str))) :=
 xW fun π w vs hg hk hv => by
  simp only [aU, aS] at hv
  obtain ⟨_, _, rfl, rfl, _, _, rfl, rfl, rfl⟩ := hv
  obtain ⟨_, ⟨m, hm⟩, _⟩ := hg
  refine (Any.strings_Split aKI (by kernel_rfl) ⟨⟨s⟩⟩ ⟨#[c]⟩ m w h (hk _ _ _ hm) (Nat.le_refl _)).mono fun e w' ⟨he, hw⟩ => ?_
  have hl := aG5 s c
  have hlen : (dF c s).length = Lib.countB ⟨⟨s⟩⟩ ⟨#[c]⟩ + 1 := by rw [← hl, List.length_map]; exact Lib.splitB_all _ (Nat.le_refl _) 0 _ _ rfl
  have hcell : ∀ (j : Nat) x, (dF c s)[j]? = some x → ((Lib.splitB ⟨#[c]⟩ 0 (Lib.countB ⟨⟨s⟩⟩ ⟨#[c]⟩) ⟨⟨s⟩⟩).map Value.string)[j]? = some (.string ⟨⟨x⟩⟩) := fun j x hx => by
   rw [← hl, List.getElem?_map] at hx
   rw [List.getElem?_map]
   cases hb : (Lib.splitB ⟨#[c]⟩ 0 (Lib.countB ⟨⟨s⟩⟩ ⟨#[c]⟩) ⟨⟨s⟩⟩)[j]? with
   | none => rw [hb] at hx; cases hx
   | some y => rw [hb] at hx; cases hx; rfl
  have hfr : ∀ o, π w.heap.size o = none := nO hk (Nat.le_refl _)
  subst hw
  refine ⟨_, π.add w.heap.size ((Lib.splitB ⟨#[c]⟩ 0 (Lib.countB ⟨⟨s⟩⟩ ⟨#[c]⟩) ⟨⟨s⟩⟩).map Value.string), he, ?_, ?_, PM.add_le (fun o v ho => (by rw [hfr o] at ho; cases ho)), fun b o v hv => ?_, fun b hb => ?_⟩
  ·simp only [aS]
   refine ⟨_, _, _, rfl, by rw [List.length_map, hlen], Nat.le_refl _, .inr ⟨_, _, rfl, aB6 _ _ fun j x hx => ?_⟩⟩
   simp only [PM.add, if_true, Nat.zero_add]
   exact hcell j x hx
  ·exact ⟨rfl, rfl, rfl, by simp, fun k hk => Below.heap_alloc w _ k hk⟩
  ·simp only [PM.add] at hv
   split at hv
   ·rename_i e; subst e
    rw [World.cell?_alloc_at (hn := rfl)]
    simpa using hv
   ·exact eW hk _ _ _ _ hv
  ·funext o
   simp only [PM.add]
   rw [if_neg (by omega)]
theorem aG6 (s : List UInt8) (v : Int) (h : s.length ≤ 9223372036854775806) (hs : jA s = (v, true)) : bZ Tryz.prog 164 [.str s] (.ok (.tuple [.int .i64 v, .niliface])) :=
 fW (v := .tuple #[.int .i64 v, .nilIface]) (fun π => by simp [aS, aU]) fun π w vs hg hk hv => by
  simp only [aU, aS] at hv
  obtain ⟨_, _, rfl, rfl, rfl⟩ := hv
  have ha : Lib.atoiAll s = .ok v := by
   unfold jA at hs
   split at hs
   ·rename_i u hu; cases hs; exact hu
   ·simp at hs
   ·simp at hs
  refine (Any.strconv_Atoi_ok aAY ⟨⟨s⟩⟩ h v ha w).mono fun e w' ⟨he, hw⟩ => ⟨he, ?_⟩
  rcases hw with rfl | ⟨t, rfl⟩
  ·exact Below.refl _ _
  ·unfold Lib.bytesWorld
   exact Lib.below_freeze (((Below.refl _ w).drew).alloc (Nat.le_refl _) _) (Nat.le_refl _) _
theorem aG7 (s : List UInt8) (v : Int) (h : s.length ≤ 281474976710656) (hs : jA s = (v, false)) : bZ Tryz.prog 164 [.str s] (.ok (.tuple [.int .i64 v, .iface 279 (.ptr [])])) :=
 xW fun π w vs hg hk hv => by
  simp only [aU, aS] at hv
  obtain ⟨_, _, rfl, rfl, rfl⟩ := hv
  obtain ⟨_, _, ⟨t1, v1, h1⟩, t2, v2, h2⟩ := hg
  have fin : ∀ u, (Calls Tryz.prog 164 #[.string ⟨⟨s⟩⟩] w fun e w' => ∃ N, e = .returned (.tuple #[.int .i64 u, .iface 279 (.pointer (some ⟨N, 0, none⟩))]) ∧ w.heap.size ≤ N ∧ w'.heap[N]? = some (.cells #[.string ⟨#[65, 116, 111, 105]⟩, .string ⟨⟨s⟩⟩, .iface t1 v1] 293 (0, 0)) ∧ Below w.heap.size w w') ∨
    (Calls Tryz.prog 164 #[.string ⟨⟨s⟩⟩] w fun e w' => ∃ N, e = .returned (.tuple #[.int .i64 u, .iface 279 (.pointer (some ⟨N, 0, none⟩))]) ∧ w.heap.size ≤ N ∧ w'.heap[N]? = some (.cells #[.string ⟨#[65, 116, 111, 105]⟩, .string ⟨⟨s⟩⟩, .iface t2 v2] 293 (0, 0)) ∧ Below w.heap.size w w') →
    Calls Tryz.prog 164 ⟨[.string ⟨⟨s⟩⟩]⟩ w fun e w' => ∃ v π', e = .returned v ∧ aS π' (.tuple [.int .i64 u, .iface 279 (.ptr [])]) v ∧ Below w.heap.size w w' ∧ PM.le π π' ∧ (∀ b o v, π' b o = some v → w'.cell? ⟨b, o, none⟩ = some v) ∧ ∀ b, b < w.heap.size → π' b = π b := fun u hc => by
   have key : ∀ w', Below w.heap.size w w' → ∀ b o v, π b o = some v → w'.cell? ⟨b, o, none⟩ = some v := fun w' hb b o v hv =>
    (World.cell?_of_block (hb.block b (World.block_lt_of_cell? w ⟨b, o, none⟩ (hk _ _ _ hv)))).trans (hk _ _ _ hv)
   rcases hc with hc | hc <;> refine hc.mono fun e w' ⟨N, he, _, _, hb⟩ => ⟨_, π, he, (by simp only [aS, aU, dJ]; exact ⟨_, rfl, _, _, rfl, rfl, _, _, rfl, ⟨_, rfl, _, _, rfl, trivial⟩, rfl⟩), hb, PM.le_refl _, key w' hb, fun _ _ => rfl⟩
  unfold jA at hs
  split at hs
  ·simp at hs
  ·rename_i hr
   cases hs
   exact fin _ (.inr (Any.strconv_Atoi_range aAY ⟨⟨s⟩⟩ h hr _ w (hk _ _ _ h2) (.inr ⟨_, _, rfl⟩)))
  ·rename_i n1 n2
   cases hs
   cases hq : Lib.atoiAll s with
   | ok v => exact absurd hq (n1 v)
   | range => exact absurd hq n2
   | _ => exact fin _ (.inl (Any.strconv_Atoi_syntax aAY ⟨⟨s⟩⟩ h hq _ w (hk _ _ _ h1) (.inr ⟨_, _, rfl⟩)))
end
section
open Go.Gh
structure eR1 {α : Type} (a b : α) : Prop where
 h : a = b := by (simp only [zQ, oS, wM, zR, zS, rN, rO, jX, rP, rQ, rR, rS, rT, rU, rV, rW, rX, rY, rZ, sA, sB, sC, sD, sE, sF, sG, sH, sI, sJ, sK, sL, sM, lE, lF, lG, lH, lI, lJ, lK, lL, lM, lN, lO, lP, lQ, lR, lS, lT, lU, lV, lW, lX, lY, lZ, mA, mB, mC, mD, mE, mF, mG, mH, mJ, mL, mM, mN, mO, mQ, mR] <;> rfl)
variable {E : Env Tryz.prog} {C : Cx E} {r : Option Nat} {ops : Array Oper} {Q : GE → Sg E → Prop} {rest lst : List Oper} {l l' : List (Nat × G)} {m : List (Nat × Ob)} {A : E.α} {df : List GD}
variable {t : Nat} {op : Op} {ty : TypeId} {pos : String} {af : Array Edge} {c : Prop} {g : G} {ob : Ob} {i j : Nat} {gd : Option (Nat × Bool)} {b x : Bool} {cd : Code} {J : List Nat}
theorem gi0 (x : P) {tt e : TypeId} {i j : TI} {m2 gl : Nat} {ix : Operand} {kk : IntKind} {n : Int}
  (ht : ti Tryz.prog tt = some i := by exact eR1.h {}) (hd : i.desc = .array m2 e := by rfl) (he : ti Tryz.prog e = some j := by exact eR1.h {})
  (hix : gev (bA l) ix = .p (.int kk n) := by (simp only [gev, aT, Nat.reduceEqDiff, reduceIte] <;> rfl)) (h1x : x.one = true := by rfl) (hN : t < C.N := by omega) (h0 : 0 ≤ n := by omega) (h1 : n < m2 := by omega) (hx : ∀ π, Kn.good Tryz.prog π → ∃ u, π gl (n.toNat * j.size) = some u ∧ aS π x u)
  (k : cJ C r ops Q rest (sg ((t, .ptr [.p x]) :: l) m A df)) : cJ C r ops Q (⟨some t, .indexAddr tt (.global gl) ix, ty, pos, af, none⟩ :: rest) (sg l m A df) :=
 jN (aIQ (σ := sg l m A df) rfl ht hd he (bJ rfl) hix h0 h1 h1x hx (fun t' e => by cases e; exact hN)) k
theorem bs0 (s : List UInt8) {tt d e : TypeId} {i j : TI} {o : Operand} (hx : gev (bA l) o = .p (.list (s.map fun b => .int .u8 b.toNat))) (k : cJ C r ops Q rest (sg ((t, .p (.str s)) :: l) m A df)) (ht : ti Tryz.prog tt = some i := by exact eR1.h {}) (hd : i.desc = .slice e := by rfl) (he : Tryz.prog.underlying e = some (.int .u8) := by kernel_rfl) (hj : ti Tryz.prog d = some j := by exact eR1.h {}) (hdj : j.desc = .string := by rfl) (hN : t < C.N := by omega) : cJ C r ops Q (⟨some t, .convert tt d o, ty, pos, af, none⟩ :: rest) (sg l m A df) :=
 jN (aKA (σ := sg l m A df) rfl ht hd he hj hdj (bJ rfl) hx (fun t' e => by cases e; exact hN)) k
theorem fs0 (s : List UInt8) {id off fz : Nat} {cs : List G} {tt d e : TypeId} {i j : TI} {o : Operand} (hx : gev (bA l) o = .fsl id off s.length) (ho : aG m id = .cells cs fz) (hl : (cs.drop off).take s.length = s.map fun b => .p (.int .u8 b.toNat))
  (ht : ti Tryz.prog tt = some i := by exact eR1.h {}) (hd : i.desc = .slice e := by rfl) (he : Tryz.prog.underlying e = some (.int .u8) := by kernel_rfl) (hj : ti Tryz.prog d = some j := by exact eR1.h {}) (hdj : j.desc = .string := by rfl) (hN : t < C.N := by omega)
  (k : cJ C r ops Q rest (sg ((t, .p (.str s)) :: l) m A df)) : cJ C r ops Q (⟨some t, .convert tt d o, ty, pos, af, none⟩ :: rest) (sg l m A df) :=
 jN (aKB (σ := sg l m A df) rfl ht hd he hj hdj (bJ rfl) hx ho hl (fun t' e => by cases e; exact hN)) k
end
section
open Go.Gh
variable {E : Env Tryz.prog} {A : E.α}
open Go.RowKit
def uD (k u : Nat) : List UInt8 := (List.range k).map fun t => Lib.dg u (k - 1 - t)
theorem aAZ (k u : Nat) : (uD k u).length = k := by simp [uD]
def u8s (l : List UInt8) : List P := l.map fun b => .int .u8 b.toNat
theorem aKT (u : Nat) (h : u < 18446744073709551616) : bZ Tryz.prog 200 [.int .u64 u] (.ok (.int .i64 (Lib.bitLen u))) :=
 fW (v := .int .i64 (Lib.bitLen u)) (fun π => by simp only [aS]) fun π w vs hg hk hv => by
  simp only [aU, aS] at hv
  obtain ⟨_, _, rfl, rfl, rfl⟩ := hv
  refine (Any.bits_Len64 aKO u w (by omega) (by omega)).mono fun e w' ⟨he, hw⟩ => ⟨?_, hw ▸ Below.refl _ _⟩
  rw [he]; simp
theorem aN4 (x : Nat) (h : x ≤ 64) : bZ Tryz.prog 199 [.int .i64 x] (.ok (.int .i64 (Lib.l10 x))) :=
 fW (v := .int .i64 (Lib.l10 x)) (fun π => by simp only [aS]) fun π w vs hg hk hv => by
  simp only [aU, aS] at hv
  obtain ⟨_, _, rfl, rfl, rfl⟩ := hv
  exact (Any.internal_strconv_log10Pow2 aKP x h w).mono fun e w' ⟨he, hw⟩ => ⟨he, hw ▸ Below.refl _ _⟩
theorem aKU (b : Bool) : bZ Tryz.prog 201 [.bool b] (.ok (.int .i64 (if b then 1 else 0))) :=
 fW (v := .int .i64 (if b then 1 else 0)) (fun π => by simp only [aS]) fun π w vs hg hk hv => by
  simp only [aU, aS] at hv
  obtain ⟨_, _, rfl, rfl, rfl⟩ := hv
  exact (Any.internal_strconv_bool2_int aKQ b w).mono fun e w' ⟨he, hw⟩ => ⟨he, hw ▸ Below.refl _ _⟩
theorem aKV (i : Nat) (h : i < 100) : bZ Tryz.prog 175 [.int .i64 i, .int .i64 10] (.ok (.str (Lib.decDigits i))) :=
 fW (v := .string ⟨⟨Lib.decDigits i⟩⟩) (fun π => by simp only [aS]) fun π w vs hg hk hv => by
  simp only [aU, aS] at hv
  obtain ⟨_, _, rfl, rfl, _, _, rfl, rfl, rfl⟩ := hv
  exact (Any.internal_strconv_FormatInt_10_small aKR i h w).mono fun e w' ⟨he, hw⟩ => ⟨he, hw ▸ Below.refl _ _⟩
theorem aE8 {w : World} {b : Nat} {vs : List Value} {e : TypeId} (d : Array UInt8) (off : Nat) (hw : w.heap[b]? = some (.cells ⟨vs⟩ e (0, 0))) (hf : off + d.size ≤ vs.length) :
  Sort.putRow (fun (b : UInt8) => Value.int .u8 (b.toNat : Int)) w b off d = w.setRow b ⟨vs.take off ++ d.toList.map (fun b => Value.int .u8 (b.toNat : Int)) ++ vs.drop (off + d.size)⟩ := by
 obtain ⟨ds, hds⟩ : ∃ ds, ds = d.toList.map (fun b => Value.int .u8 (b.toNat : Int)) := ⟨_, rfl⟩
 have hl : ds.length = d.size := by rw [hds, List.length_map, Array.length_toList]
 have hg : ∀ q, q < d.size → ds[q]? = some (Value.int .u8 ((d[q]!).toNat : Int)) := fun q hq => by
  rw [hds, List.getElem?_map, Array.getElem?_toList, Array.getElem?_eq_getElem hq, getElem!_pos d q hq]; rfl
 rw [← hds]
 unfold Sort.putRow Sort.mapBlock World.setRow
 congr 1
 apply Array.ext_getElem?
 intro k
 simp only [Array.getElem?_modify]
 by_cases hk : b = k
 ·subst hk
  simp only [if_true, hw, Option.map_some, Sort.onCells]
  congr 2
  apply Array.ext_getElem?
  intro q
  have ht : (vs.take off).length = off := by rw [List.length_take]; omega
  have ht2 : (vs.take off ++ ds).length = off + d.size := by rw [List.length_append, ht, hl]
  simp only [Sort.putCells, Array.getElem?_mapIdx, List.getElem?_toArray]
  by_cases h1 : q < off
  ·rw [List.getElem?_append_left (by omega), List.getElem?_append_left (by omega), List.getElem?_take, if_pos h1]
   cases vs[q]? with
   | none => rfl
   | some x => simp only [Option.map_some]; rw [if_neg (by omega)]
  ·by_cases h2 : q < off + d.size
   ·rw [List.getElem?_append_left (by omega), List.getElem?_append_right (by omega), ht, hg _ (by omega), List.getElem?_eq_getElem (show q < vs.length by omega)]
    simp only [Option.map_some]
    rw [if_pos (by omega)]
   ·rw [List.getElem?_append_right (by omega), ht2, List.getElem?_drop, show off + d.size + (q - (off + d.size)) = q by omega]
    cases vs[q]? with
    | none => rfl
    | some x => simp only [Option.map_some]; rw [if_neg (by omega)]
 ·simp only [if_neg hk]
theorem aN5 (c0 : P) (h0 : c0.one = true) (xs zs : List UInt8) (u : Nat) (hu : u < 10 ^ xs.length) (hu2 : u < 18446744073709551616) (hx : xs.length < 24) :
  Gh.bE E 185 [.fsl 0 1 xs.length, .p (.int .u64 u)] (aG [(0, .cells ((c0 :: (u8s xs ++ u8s zs)).map G.p) 0)]) A (fun y => y = .ok (.p (.tuple [])) (aG [(0, .cells ((c0 :: (u8s (uD xs.length u) ++ u8s zs)).map G.p) 0)]) A) := by
 intro π ρ S w vs R hv
 simp only [aQ, aK, aS] at hv
 obtain ⟨_, _, rfl, ⟨cap, rfl, hcap⟩, _, _, rfl, rfl, rfl⟩ := hv
 have hob := R.objs 0
 obtain ⟨ws, e, hw, hr, hone, hf, hn⟩ := (show jZ π ρ E.yv w 0 (.cells ((c0 :: (u8s xs ++ u8s zs)).map G.p) 0) from hob)
 have hlen := hr.length
 simp only [List.length_map, List.length_cons, List.length_append, u8s] at hlen
 have hcell : ∀ t, t < xs.length → w.cell? ⟨(ρ 0).blk, 1 + t, none⟩ = some (.int .u8 ((xs.toArray[t]!).toNat : Int)) ∧ w.frozen? ⟨(ρ 0).blk, 1 + t, none⟩ = false := fun t ht => by
  obtain ⟨v, hv, hrv⟩ := hr.get (1 + t) (.p (.int .u8 (xs[t].toNat : Int))) (by
   rw [List.getElem?_map, Nat.add_comm, List.getElem?_cons_succ, List.getElem?_append_left (by simp [u8s]; omega)]
   simp [u8s, ht])
  simp only [aK, aS] at hrv
  subst hrv
  constructor
  ·rw [fI hw]
   simp [hv, getElem!_pos xs.toArray t (by simpa using ht)]
  ·simp [World.frozen?, hw]
 have hH : Sort.Holds (fun (b : UInt8) => Value.int .u8 (b.toNat : Int)) w (ρ 0).blk 1 xs.toArray := fun t ht => hcell t (by simpa using ht)
 have hc := Any.internal_strconv_formatBase10 aKN (ρ 0).blk 1 cap u xs.toArray w hH (by simpa using hu) hu2 (by simp; omega)
 simp only [List.size_toArray] at hc
 refine (callsIn_wide.2 hc).mono fun e2 w' ⟨he, n, v', dk, hw', hinv⟩ => ?_
 subst he
 have hsz : dk.size = xs.length := by simpa using hinv.size
 have hdk : dk.toList = uD xs.length u := by
  apply List.ext_getElem?
  intro q
  by_cases hq : q < xs.length
  ·rw [Array.getElem?_toList, Array.getElem?_eq_getElem (by omega)]
   have := hinv.done q (by omega) (by simpa using hq)
   rw [getElem!_pos dk q (by omega)] at this
   rw [this]
   simp [uD, hq]
  ·rw [Array.getElem?_toList, Array.getElem?_eq_none (by omega), List.getElem?_eq_none (by rw [aAZ]; omega)]
 rw [aE8 dk 1 hw (by omega), hdk, hsz] at hw'
 have hr2 : aQ π ρ E.yv ((c0 :: (u8s (uD xs.length u) ++ u8s zs)).map G.p) (ws.take 1 ++ (uD xs.length u).map (fun b => Value.int .u8 (b.toNat : Int)) ++ ws.drop (1 + xs.length)) := by
  have h1 : aQ π ρ E.yv (u8s (uD xs.length u) |>.map G.p) ((uD xs.length u).map fun b => Value.int .u8 (b.toNat : Int)) := by
   refine .of_PRels ?_
   generalize uD xs.length u = l
   induction l with
   | nil => simp only [u8s, List.map_nil, aU]
   | cons b l ih => simp only [u8s, List.map_cons, aU, aS]; exact ⟨_, _, rfl, rfl, ih⟩
  have h2 := hr.splice h1 1
  have e1 : splice ((c0 :: (u8s xs ++ u8s zs)).map G.p) 1 ((u8s (uD xs.length u)).map G.p) = (c0 :: (u8s (uD xs.length u) ++ u8s zs)).map G.p := by
   simp only [splice, List.map_cons, List.take_succ_cons, List.take_zero, List.length_map, u8s, aAZ, Nat.add_comm 1, List.drop_succ_cons, List.map_append, List.cons_append, List.nil_append]
   rw [List.drop_left' (by simp)]
  rw [e1] at h2
  have e2 : ((uD xs.length u).map fun b => Value.int .u8 (b.toNat : Int)).length = xs.length := by rw [List.length_map, aAZ]
  rw [e2] at h2
  exact h2
 have U := R.setCells (id := 0) (cs := (c0 :: (u8s xs ++ u8s zs)).map G.p) (fz := 0) rfl hw hr2 (fun c hc => by
  obtain ⟨p, hp, rfl⟩ := List.mem_map.1 hc
  rcases List.mem_cons.1 hp with rfl | hp
  ·exact h0
  ·rcases List.mem_append.1 hp with hp | hp <;> (obtain ⟨b, _, rfl⟩ := List.mem_map.1 hp; rfl)) (fun j hj => absurd hj (Nat.not_lt_zero _))
 have hhp : ∀ ob : Ob, upd (aG [(0, (.cells ((c0 :: (u8s xs ++ u8s zs)).map G.p) 0 : Ob))]) 0 ob = aG [(0, ob)] := fun ob => by
  funext j
  simp only [upd, aE, aI]
  split <;> rfl
 rw [hhp] at U
 obtain ⟨U1, U2⟩ := U
 have hd : ∀ (W : World), W.heap = w'.heap → W.os = w'.os → W.tape = w'.tape → W.output = w'.output → True := fun _ _ _ _ _ => trivial
 have hres := fun (W : World) (hW : W = w.setRow (ρ 0).blk ⟨ws.take 1 ++ (uD xs.length u).map (fun b => Value.int .u8 (b.toNat : Int)) ++ ws.drop (1 + xs.length)⟩) => hW
 subst hw'
 refine ⟨π, ρ, _, A, S, .p (.tuple []), ⟨⟨U1.know, U1.objs, U1.apart, U1.sep, E.stable U1.res U1.inb (Nat.le_refl _) (fun _ _ => ⟨rfl, rfl⟩) (PM.le_refl _) U1.know, U1.inb, U1.gl⟩, ⟨U2.size, U2.os, U2.tape, U2.output, U2.keep, U2.le, U2.own⟩, fun _ _ => .inl rfl, fun j id hm => ?_⟩, by simp only [aK, aS, aU]; exact ⟨_, rfl, rfl⟩, fun id hm => by simp [G.men] at hm, rfl⟩
 simp only [aE, aI] at hm
 split at hm
 ·simp only [Ob.men] at hm
  rw [gO] at hm; cases hm
 ·simp [Ob.men] at hm
end
section
open Go.Gh
theorem aN6 (x : Nat) (h : x ≤ 19) : ∀ π, Kn.good Tryz.prog π → ∃ u, π 1 (((x : Nat) : Int).toNat * 1) = some u ∧ aS π (.int .u64 ((10 ^ x : Nat) : Int)) u := fun π hg =>
 ⟨_, hg.1 _ ((10 ^ x : Nat) : Int) (by
  have h2 : ((x : Int).toNat * 1) = x := by simp
  rw [h2]
  have h3 : x < 20 := by omega
  simp [Lib.pow10Tab, h3]), by simp only [aS]⟩
theorem wrap_u64 (n : Int) (h0 : 0 ≤ n) (h1 : n < 18446744073709551616) : IntKind.u64.wrap n = n := IntWalk.u64_in n (by omega)
theorem aMA : aJ Tryz.prog 200 := aJ.mk Tryz.func200 (by kernel_rfl) rfl
theorem aMB : aJ Tryz.prog 199 := aJ.mk Tryz.func199 (by kernel_rfl) rfl
theorem aMC : aJ Tryz.prog 201 := aJ.mk Tryz.func201 (by kernel_rfl) rfl
theorem aIY : aJ Tryz.prog 184 := aJ.mk Tryz.func184 (by kernel_rfl) rfl
theorem aN7 (u : Nat) (h1 : 1 ≤ u) (h2 : u < 18446744073709551616) : bZ Tryz.prog 184 [.int .u64 u] (.ok (.int .i64 (Lib.nDigits u : Nat))) := by
 refine bS Tryz.func184 (rfl : Tryz.f184.body = some _) rfl ?_
 intro E A C hN hL
 replace hN : C.N = 15 := hN
 simp only [Gh.num, List.map_cons, List.map_nil, Nat.reduceAdd]
 obtain ⟨hn1, hn2⟩ := Lib.numDigits_eq u h1 h2
 obtain ⟨pw, hpw⟩ : ∃ pw, pw = 10 ^ (Lib.l10 (Lib.bitLen u)) := ⟨_, rfl⟩
 rw [← hpw] at hn1
 have hq : ((10:Int) ^ (Lib.l10 (Lib.bitLen u))) = ((pw : Nat) : Int) := by rw [hpw]; push_cast; rfl
 have hb : Lib.bitLen u ≤ 64 := by unfold Lib.bitLen; exact Lib.bitLen_le u 64 (Nat.le_refl _) h2
 repeat apply aA
 apply aB
 refine v0 ?_
 apply aC
 refine cl [0] ?_
 repeat apply aA
 apply aB
 refine v0 ?_
 refine pc0 (spec := aKT u h2) (hent := aMA) ?_
 refine pc0 (spec := aN4 _ hb) (hent := aMB) ?_
 refine v0 ?_
 apply aC
 refine cl [0, 3] ?_
 repeat apply aA
 apply aB
 iterate 3 refine v0 ?_
 refine gi0 (.int .u64 ((pw : Nat) : Int)) (hx := ?_) (k := ?_)
 subst hpw
 exact aN6 _ hn2
 iterate 2 refine v0 ?_
 refine pc0 (spec := aKU _) (hent := aMC) ?_
 refine v1 (hc := by (first | exact True.intro | (simp only [inI]; split <;> omega))) ?_
 refine v0 ?_
 apply aC
 repeat apply aA
 refine aL ?_
 repeat (first | refine aH ?_ | refine aF ?_ | refine aD ?_)
 refine aM ?_
 refine fp ?_
 rw [← hn1]
 by_cases h : pw ≤ u
 ·simp [h, dS.at, hq]
 ·simp [h, dS.at, hq]
end
section
open Go.Gh
variable {E : Env Tryz.prog} {A : E.α}
structure vH (c : Prop) : Prop where
 h : c := by (first | exact True.intro | omega | (simp only [inI]; omega) | (simp [P.size, bR, bF, bN, bB, cR, good, G.one, P.one, P.cells] <;> first | omega | assumption | simp_all))
theorem aD7 (u : Nat) : uD (Lib.nDigits u) u = Lib.decDigits u := (Lib.decDigits_eq u).symm
theorem aF8 (k : Nat) (h : k ≤ 23) : u8s (List.replicate 23 0) = u8s (List.replicate k 0) ++ u8s (List.replicate (23 - k) 0) := by
 unfold u8s
 rw [← List.map_append, List.replicate_append_replicate, show k + (23 - k) = 23 by omega]
theorem aN8 (s : List UInt8) : (u8s s).map G.p = s.map fun b => .p (.int .u8 b.toNat) := by unfold u8s; rw [List.map_map]; rfl
theorem aLy (c : P) (s z : List UInt8) : ((((c :: (u8s s ++ u8s z)).map G.p).drop 1).take s.length) = s.map fun b => .p (.int .u8 b.toNat) := by
 rw [List.map_cons, List.drop_succ_cons, List.drop_zero, List.map_append, List.take_left' (by rw [List.length_map]; unfold u8s; rw [List.length_map]), aN8]
theorem aIZ (c0 : P) (h0 : c0.one = true) (xs zs : List UInt8) (n : Nat) (hn : n = xs.length) (u : Nat) (hu : u < 10 ^ xs.length) (hu2 : u < 18446744073709551616) (hx : xs.length < 24) :
  Gh.bE E 185 [.fsl 0 1 n, .p (.int .u64 u)] (aG [(0, .cells ((c0 :: (u8s xs ++ u8s zs)).map G.p) 0)]) A (fun y => y = .ok (.p (.tuple [])) (aG [(0, .cells ((c0 :: (u8s (uD xs.length u) ++ u8s zs)).map G.p) 0)]) A) := by
 subst hn; exact aN5 c0 h0 xs zs u hu hu2 hx
theorem aI0 : aJ Tryz.prog 185 := aJ.mk Tryz.func185 (by kernel_rfl) rfl
theorem aMD : aJ Tryz.prog 175 := aJ.mk Tryz.func175 (by kernel_rfl) rfl
theorem aME (u : Nat) (h1 : 100 ≤ u) (h2' : u < 9223372036854775808) : bZ Tryz.prog 175 [.int .i64 (u : Nat), .int .i64 10] (.ok (.str (Lib.decDigits u))) := by
 refine bS Tryz.func175 (rfl : Tryz.f175.body = some _) rfl ?_
 intro E A C hN hL
 replace hN : C.N = 54 := hN
 simp only [Gh.num, List.map_cons, List.map_nil, Nat.reduceAdd]
 have h2 : u < 18446744073709551616 := by omega
 have hd3 : Lib.nDigits u ≤ 23 := by have := Lib.numDigits_eq u (by omega) h2; split at this <;> omega
 have hwr : IntKind.u64.wrap (u : Int) = (u : Int) := wrap_u64 _ (by omega) (by omega)
 have hd1 := Lib.nDigits_pos u
 repeat apply aA
 apply aB
 refine v0 ?_
 apply aC
 refine cl [0, 1] ?_
 repeat apply aA
 apply aB
 iterate 2 refine v0 ?_
 refine rb 11 true (h := by (first | with_reducible rfl | exact decide_eq_true (by omega) | rfl | decide)) ?_
 apply aC
 repeat apply aA
 refine cT ?_
 repeat apply aA
 apply aB
 iterate 2 refine v0 ?_
 refine rb 13 true (h := by (first | with_reducible rfl | exact decide_eq_true (by omega) | rfl | decide)) ?_
 refine v0 ?_
 iterate 2 refine w0 ?_
 refine rb 16 false (h := by (first | with_reducible rfl | exact decide_eq_false (by omega) | rfl | decide)) ?_
 refine v0 ?_
 refine rb 17 false (h := by (first | with_reducible rfl | exact decide_eq_false (by omega) | rfl | decide)) ?_
 apply aC
 repeat apply aA
 refine cF ?_
 repeat apply aA
 refine aR ?_
 refine cl [0] ?_
 repeat apply aA
 apply aB
 refine n1 150 false (hc := vH.h {}) ?_
 apply aC
 refine cl [0, 5] ?_
 repeat apply aA
 apply aB
 refine v0 ?_
 refine v1 (hc := vH.h {}) ?_
 refine v0 ?_
 apply aC
 refine cl [0, 5, 6] ?_
 repeat apply aA
 apply aB
 iterate 2 refine v0 ?_
 refine rb 23 false (h := by (first | with_reducible rfl | exact decide_eq_false (by omega) | rfl | decide)) ?_
 apply aC
 repeat apply aA
 refine cF ?_
 repeat apply aA
 refine aR ?_
 refine cl [0, 5, 6] ?_
 repeat apply aA
 try rw [hwr]
 apply aB
 refine v0 ?_
 refine pc0 (spec := aN7 u (by omega) h2) (hent := aIY) ?_
 refine v0 ?_
 apply aC
 refine cl [0, 5, 6, 7] ?_
 repeat apply aA
 apply aB
 refine v0 ?_
 iterate 2 refine v1 (hc := vH.h {}) ?_
 refine v0 ?_
 change cJ _ _ _ _ _ (sg _ [(150, .cells (((P.int .u8 0) :: u8s (List.replicate 23 0)).map G.p) 0)] _ _)
 rw [aF8 (Lib.nDigits u) hd3]
 refine oc0 [(0, 150)] [] [0, 0] none (spec := aIZ (.int .u8 0) rfl (List.replicate (Lib.nDigits u) 0) (List.replicate (23 - Lib.nDigits u) 0) ((1 + (Lib.nDigits u : Int)).toNat - 1) (by rw [List.length_replicate]; omega) u (by rw [List.length_replicate]; exact Lib.lt_pow_nDigits u) h2 (by rw [List.length_replicate]; omega)) (hent := aI0) ?_
 apply aC
 refine cl [0, 5, 7] ?_
 repeat apply aA
 apply aB
 iterate 2 refine v0 ?_
 refine rb 34 false (h := by (first | with_reducible rfl | exact decide_eq_false (by omega) | rfl | decide)) ?_
 apply aC
 repeat apply aA
 refine cF ?_
 repeat apply aA
 refine aR ?_
 refine cl [5, 7] ?_
 repeat apply aA
 apply aB
 refine v0 ?_
 iterate 2 refine v1 (hc := vH.h {}) ?_
 refine fs0 (Lib.decDigits u) (id := 150) (off := 1) (hx := ?_) (ho := by (simp only [aE, aI, Nat.reduceEqDiff, reduceIte] <;> rfl)) (hl := ?_) (k := ?_)
 ·show G.fsl 150 1 _ = _; rw [Lib.decDigits_length, show ((1 + (Lib.nDigits u : Int)).toNat - 1) = Lib.nDigits u by omega]
 ·rw [List.length_replicate, aD7]; exact aLy _ _ _
 refine v0 ?_
 apply aC
 repeat apply aA
 refine aL ?_
 repeat (first | refine aH ?_ | refine aF ?_ | refine aD ?_)
 refine aM ?_
 refine fp ?_
 rfl
theorem aMF (u : Nat) (h1 : 1 ≤ u) (h2' : u < 9223372036854775809) : bZ Tryz.prog 175 [.int .i64 (-(u : Int)), .int .i64 10] (.ok (.str (45 :: Lib.decDigits u))) := by
 refine bS Tryz.func175 (rfl : Tryz.f175.body = some _) rfl ?_
 intro E A C hN hL
 replace hN : C.N = 54 := hN
 simp only [Gh.num, List.map_cons, List.map_nil, Nat.reduceAdd]
 have h2 : u < 18446744073709551616 := by omega
 have hd3 : Lib.nDigits u ≤ 23 := by have := Lib.numDigits_eq u (by omega) h2; split at this <;> omega
 have hwr : IntKind.u64.wrap (0 - (IntKind.u64.wrap (-(u : Int)))) = (u : Int) := by rw [IntKind.wrap_u64, IntKind.wrap_u64]; omega
 have hd1 := Lib.nDigits_pos u
 repeat apply aA
 apply aB
 refine v0 ?_
 apply aC
 refine cl [0, 1] ?_
 repeat apply aA
 apply aB
 iterate 2 refine v0 ?_
 refine rb 11 true (h := by (first | with_reducible rfl | exact decide_eq_true (by omega) | rfl | decide)) ?_
 apply aC
 repeat apply aA
 refine cT ?_
 repeat apply aA
 apply aB
 iterate 2 refine v0 ?_
 refine rb 13 false (h := by (first | with_reducible rfl | exact decide_eq_false (by omega) | rfl | decide)) ?_
 refine v0 ?_
 iterate 2 refine x0 ?_
 refine v0 ?_
 refine rb 17 false (h := by (first | with_reducible rfl | exact decide_eq_false (by omega) | rfl | decide)) ?_
 apply aC
 repeat apply aA
 refine cF ?_
 repeat apply aA
 refine aR ?_
 refine cl [0] ?_
 repeat apply aA
 apply aB
 refine n1 150 false (hc := vH.h {}) ?_
 apply aC
 refine cl [0, 5] ?_
 repeat apply aA
 apply aB
 refine v0 ?_
 refine v1 (hc := vH.h {}) ?_
 refine v0 ?_
 apply aC
 refine cl [0, 5, 6] ?_
 repeat apply aA
 apply aB
 iterate 2 refine v0 ?_
 refine rb 23 true (h := by (first | with_reducible rfl | exact decide_eq_true (by omega) | rfl | decide)) ?_
 apply aC
 repeat apply aA
 refine cT ?_
 repeat apply aA
 apply aB
 refine v0 ?_
 refine v1 (hc := vH.h {}) ?_
 refine v0 ?_
 apply aC
 refine cl [0, 5, 6] ?_
 repeat apply aA
 try rw [hwr]
 apply aB
 refine v0 ?_
 refine pc0 (spec := aN7 u (by omega) h2) (hent := aIY) ?_
 refine v0 ?_
 apply aC
 refine cl [0, 5, 6, 7] ?_
 repeat apply aA
 apply aB
 refine v0 ?_
 iterate 2 refine v1 (hc := vH.h {}) ?_
 refine v0 ?_
 change cJ _ _ _ _ _ (sg _ [(150, .cells (((P.int .u8 0) :: u8s (List.replicate 23 0)).map G.p) 0)] _ _)
 rw [aF8 (Lib.nDigits u) hd3]
 refine oc0 [(0, 150)] [] [0, 0] none (spec := aIZ (.int .u8 0) rfl (List.replicate (Lib.nDigits u) 0) (List.replicate (23 - Lib.nDigits u) 0) ((1 + (Lib.nDigits u : Int)).toNat - 1) (by rw [List.length_replicate]; omega) u (by rw [List.length_replicate]; exact Lib.lt_pow_nDigits u) h2 (by rw [List.length_replicate]; omega)) (hent := aI0) ?_
 apply aC
 refine cl [0, 5, 7] ?_
 repeat apply aA
 apply aB
 iterate 2 refine v0 ?_
 refine rb 34 true (h := by (first | with_reducible rfl | exact decide_eq_true (by omega) | rfl | decide)) ?_
 apply aC
 repeat apply aA
 refine cT ?_
 repeat apply aA
 apply aB
 refine v1 (hc := vH.h {}) ?_
 refine s1 (hc := vH.h {}) ?_
 apply aC
 refine cl [5, 7] ?_
 repeat apply aA
 apply aB
 refine v0 ?_
 iterate 2 refine v1 (hc := vH.h {}) ?_
 refine fs0 (45 :: Lib.decDigits u) (id := 150) (off := 0) (hx := ?_) (ho := by (simp only [aE, aI, Nat.reduceEqDiff, reduceIte] <;> rfl)) (hl := ?_) (k := ?_)
 ·show G.fsl 150 0 _ = _; rw [List.length_cons, Lib.decDigits_length, show ((1 + (Lib.nDigits u : Int)).toNat - 0) = Lib.nDigits u + 1 by omega]
 ·rw [List.length_replicate, aD7, List.length_cons, List.drop_zero, List.take_succ_cons, List.map_cons]; exact congrArg (_ :: ·) (aLy (.int .u8 0) _ _)
 refine v0 ?_
 apply aC
 repeat apply aA
 refine aL ?_
 repeat (first | refine aH ?_ | refine aF ?_ | refine aD ?_)
 refine aM ?_
 refine fp ?_
 rfl
theorem aMG (n : Int) (h1 : -9223372036854775808 ≤ n) (h2 : n < 9223372036854775808) : bZ Tryz.prog 175 [.int .i64 n, .int .i64 10] (.ok (.str (Lib.itoa n))) := by
 by_cases h : n < 0
 ·obtain ⟨u, rfl⟩ : ∃ u : Nat, n = -(u : Int) := ⟨n.natAbs, by omega⟩
  rw [Lib.itoa_neg u (by omega)]
  exact aMF u (by omega) (by omega)
 ·obtain ⟨u, rfl⟩ : ∃ u : Nat, n = (u : Int) := ⟨n.toNat, by omega⟩
  rw [Lib.itoa_nonneg]
  by_cases h3 : u < 100
  ·exact aKV u h3
  ·exact aME u (by omega) (by omega)
theorem aKW (n : Int) (h1 : -9223372036854775808 ≤ n) (h2 : n < 9223372036854775808) : bZ Tryz.prog 163 [.int .i64 n] (.ok (.str (Lib.itoa n))) := by
 refine bS Tryz.func163 (rfl : Tryz.f163.body = some _) rfl ?_
 intro E A C hN hL
 replace hN : C.N = 5 := hN
 simp only [Gh.num, List.map_cons, List.map_nil, Nat.reduceAdd]
 repeat apply aA
 apply aB
 refine v0 ?_
 apply aC
 refine cl [0] ?_
 repeat apply aA
 apply aB
 refine v0 ?_
 refine pc0 (spec := aMG n h1 h2) (hent := aMD) ?_
 refine v0 ?_
 apply aC
 repeat apply aA
 refine aL ?_
 repeat (first | refine aH ?_ | refine aF ?_ | refine aD ?_)
 refine aM ?_
 refine fp ?_
 rfl
theorem aMH : aJ Tryz.prog 163 := aJ.mk Tryz.func163 (by kernel_rfl) rfl
theorem iO (n : Int) (h1 : -9223372036854775808 ≤ n) (h2 : n < 9223372036854775808) : bZ Tryz.prog 137 [.int .i64 n] (.ok (.str (Lib.itoa n))) := by
 refine bS Tryz.func137 (rfl : Tryz.f137.body = some _) rfl ?_
 intro E A C hN hL
 replace hN : C.N = 5 := hN
 simp only [Gh.num, List.map_cons, List.map_nil, Nat.reduceAdd]
 repeat apply aA
 apply aB
 refine v0 ?_
 apply aC
 refine cl [0] ?_
 repeat apply aA
 apply aB
 refine v0 ?_
 refine pc0 (spec := aKW n h1 h2) (hent := aMH) ?_
 refine v0 ?_
 apply aC
 repeat apply aA
 refine aL ?_
 repeat (first | refine aH ?_ | refine aF ?_ | refine aD ?_)
 refine aM ?_
 refine fp ?_
 rfl
end
section
open Go.Gh
variable {E : Env Tryz.prog} {A : E.α}
structure aMI (c : Prop) : Prop where
 h : c := by (first | exact True.intro | omega | (simp only [inI]; omega) | (simp [P.size, bR, bF, bN, bB, cR, good, G.one, P.one, P.cells] <;> first | omega | assumption | simp_all))
theorem mS : aJ Tryz.prog 128 := aJ.mk Tryz.func128 (by kernel_rfl) rfl
theorem gB (n lo hi : Int) : bZ Tryz.prog 128 [.int .i64 n, .int .i64 lo, .int .i64 hi] (.ok (.bool (decide (lo ≤ n) && decide (n ≤ hi)))) := by
 refine bS Tryz.func128 (rfl : Tryz.f128.body = some _) rfl ?_
 intro E A C hN hL
 replace hN : C.N = 15 := hN
 simp only [Gh.num, List.map_cons, List.map_nil, Nat.reduceAdd]
 repeat apply aA
 apply aB
 refine v0 ?_
 apply aC
 refine cl [0, 1, 2] ?_
 repeat apply aA
 apply aB
 iterate 4 refine v0 ?_
 refine b0 (k1 := fun hb1 => ?_) (k0 := fun hb1 => ?_)
 ·replace hb1 := hB.h {} hb1
  iterate 3 refine w0 ?_
  iterate 2 refine v0 ?_
  apply aC
  repeat apply aA
  refine aL ?_
  repeat (first | refine aH ?_ | refine aF ?_ | refine aD ?_)
  refine aM ?_
  refine fp ?_
  simp_all [dS.at] <;> omega
 ·replace hb1 := hB.h {} hb1
  iterate 3 refine x0 ?_
  iterate 2 refine v0 ?_
  apply aC
  repeat apply aA
  refine aL ?_
  repeat (first | refine aH ?_ | refine aF ?_ | refine aD ?_)
  refine aM ?_
  refine fp ?_
  simp_all [dS.at] <;> omega
theorem tI : aJ Tryz.prog 127 := aJ.mk Tryz.func127 (by kernel_rfl) rfl
theorem kX (a b lo hi : Int) : bZ Tryz.prog 127 [.agg [.int .i64 a, .int .i64 b], .int .i64 lo, .int .i64 hi] (.ok (.bool (decide (lo ≤ a) && decide (a ≤ b) && decide (b ≤ hi)))) := by
 refine bS Tryz.func127 (rfl : Tryz.f127.body = some _) rfl ?_
 intro E A C hN hL
 replace hN : C.N = 24 := hN
 simp only [Gh.num, List.map_cons, List.map_nil, Nat.reduceAdd]
 repeat apply aA
 apply aB
 refine n1 130 false (hc := by (first | exact True.intro | (simp only [inI]; omega) | (simp [P.size] <;> omega))) ?_
 refine v0 ?_
 apply aC
 refine cl [1, 2, 3] ?_
 repeat apply aA
 apply aB
 iterate 5 refine v0 ?_
 refine b0 (k1 := fun hb1 => ?_) (k0 := fun hb1 => ?_)
 ·replace hb1 := hB.h {} hb1
  iterate 5 refine w0 ?_
  iterate 2 refine v0 ?_
  refine b0 (k1 := fun hb2 => ?_) (k0 := fun hb2 => ?_)
  ·replace hb2 := hB.h {} hb2
   iterate 4 refine w0 ?_
   iterate 2 refine v0 ?_
   apply aC
   repeat apply aA
   refine aL ?_
   repeat (first | refine aH ?_ | refine aF ?_ | refine aD ?_)
   refine aM ?_
   refine fp ?_
   simp_all [dS.at] <;> omega
  ·replace hb2 := hB.h {} hb2
   iterate 4 refine x0 ?_
   iterate 2 refine v0 ?_
   apply aC
   repeat apply aA
   refine aL ?_
   repeat (first | refine aH ?_ | refine aF ?_ | refine aD ?_)
   refine aM ?_
   refine fp ?_
   simp_all [dS.at] <;> omega
 ·replace hb1 := hB.h {} hb1
  iterate 5 refine x0 ?_
  iterate 2 refine v0 ?_
  iterate 4 refine x0 ?_
  iterate 2 refine v0 ?_
  apply aC
  repeat apply aA
  refine aL ?_
  repeat (first | refine aH ?_ | refine aF ?_ | refine aD ?_)
  refine aM ?_
  refine fp ?_
  simp_all [dS.at] <;> omega
theorem bX : aJ Tryz.prog 75 := aJ.mk Tryz.func75 (by kernel_rfl) rfl
theorem bG (e : Int) : bZ Tryz.prog 75 [.bool true, .int .i64 e] (.ok (.tuple [])) := by
 refine bS Tryz.func75 (rfl : Tryz.f75.body = some _) rfl ?_
 intro E A C hN hL
 replace hN : C.N = 9 := hN
 simp only [Gh.num, List.map_cons, List.map_nil, Nat.reduceAdd]
 repeat apply aA
 apply aB
 iterate 2 refine v0 ?_
 apply aC
 repeat apply aA
 refine cF ?_
 repeat apply aA
 refine aR ?_
 try refine bK ?_
 refine cW ?_
 refine fp0 ?_
 rfl
theorem dE (e : Int) : bZ Tryz.prog 75 [.bool false, .int .i64 e] (.panic (.iface 218 (.agg [.int .i64 e]))) := by
 refine bS Tryz.func75 (rfl : Tryz.f75.body = some _) rfl ?_
 intro E A C hN hL
 replace hN : C.N = 9 := hN
 simp only [Gh.num, List.map_cons, List.map_nil, Nat.reduceAdd]
 repeat apply aA
 apply aB
 iterate 2 refine v0 ?_
 apply aC
 repeat apply aA
 refine cT ?_
 repeat apply aA
 apply aB
 iterate 3 refine v0 ?_
 refine pn0 ?_
 repeat (first | refine aO ?_ | refine aN ?_)
 exact aBP rfl
theorem sN : aJ Tryz.prog 74 := aJ.mk Tryz.func74 (by kernel_rfl) rfl
theorem qU (e : Int) : Gh.bE E 74 [.p .niliface, .ref 0 0] (aG [(0, .cells [.p (.int .i64 e)] 0)]) A (fun y => y = .ok (.p (.tuple [])) (aG [(0, .cells [.p (.int .i64 e)] 0)]) A) := by
 refine spX 20 Tryz.func74 rfl ?_
 intro C hN hL
 simp only [Gh.num, List.map_cons, List.map_nil, Nat.reduceAdd]
 repeat apply aA
 apply aB
 iterate 2 refine v0 ?_
 refine rb 7 true (h := by (rfl)) ?_
 apply aC
 repeat apply aA
 refine cT ?_
 repeat apply aA
 refine aL ?_
 repeat (first | refine aH ?_ | refine aF ?_ | refine aD ?_)
 refine aM ?_
 refine fh0 [0] ?_
 rfl
theorem gU (e n : Int) : Gh.bE E 74 [.p (.iface 218 (.agg [.int .i64 n])), .ref 0 0] (aG [(0, .cells [.p (.int .i64 e)] 0)]) A (fun y => y = .ok (.p (.tuple [])) (aG [(0, .cells [.p (.int .i64 n)] 0)]) A) := by
 refine spX 20 Tryz.func74 rfl ?_
 intro C hN hL
 simp only [Gh.num, List.map_cons, List.map_nil, Nat.reduceAdd]
 repeat apply aA
 apply aB
 iterate 2 refine v0 ?_
 refine rb 7 false (h := by (rfl)) ?_
 apply aC
 repeat apply aA
 refine cF ?_
 repeat apply aA
 refine aR ?_
 refine cl [0, 1] ?_
 repeat apply aA
 apply aB
 iterate 5 refine v0 ?_
 refine rb 12 true (h := by (rfl)) ?_
 refine n1 140 false (hc := aMI.h {}) ?_
 refine s1 (hc := aMI.h {}) ?_
 refine v0 ?_
 apply aC
 refine cl [0, 1, 4, 5] ?_
 repeat apply aA
 apply aB
 iterate 2 refine v0 ?_
 apply aC
 repeat apply aA
 refine cF ?_
 repeat apply aA
 refine aR ?_
 refine cl [0, 1, 4] ?_
 repeat apply aA
 apply aB
 iterate 4 refine v0 ?_
 refine s1 (hc := aMI.h {}) ?_
 apply aC
 try refine bK ?_
 refine cW ?_
 refine fh0 [0] ?_
 rfl
theorem aA0 : aJ Tryz.prog 105 := aJ.mk Tryz.func105 (by kernel_rfl) rfl
theorem aG8 (c0 c1 c2 c3 c4 c5 c6 : P) : kV E 105 [.ref 0 0, .ref 1 0] (aG [(0, .cells [.p (.int .i64 0)] 0), (1, .cells [.p c0, .p c1, .p c2, .p c3, .p c4, .p c5, .p c6] 0)]) A (none) (fun y => y = .ok (.p (.tuple [])) (aG [(0, .cells [.p (.int .i64 0)] 0), (1, .cells [.p c0, .p c1, .p c2, .p c3, .p c4, .p c5, .p c6] 0)]) A) := by
 refine fZ Tryz.func105 (some _) (rfl : Tryz.f105.body = some _) rfl rfl rfl (by decide) (Nat.le_of_ble_eq_true rfl) (fun id h => ?_) (fun j id h => ?_) ?_
 ·exact nD h
 ·exact nE h
 intro C hN hL
 replace hN : C.N = 8 := hN
 simp only [Gh.num, List.map_cons, List.map_nil, Nat.reduceAdd, pJ]
 refine oc0 [(0, 0)] [] [0, 0] none (spec := qU 0) (hent := sN) ?_
 apply aC
 refine (?_ : gwp C none _ _ (sg _ _ _ []))
 repeat apply aA
 apply aB
 iterate 2 refine v0 ?_
 refine rb 6 false (h := by (first | with_reducible rfl | exact decide_eq_false (by omega) | rfl | decide)) ?_
 apply aC
 repeat apply aA
 refine cF ?_
 repeat apply aA
 refine aR ?_
 repeat refine bW ?_
 refine dT ?_
 refine fh0 [0, 1] ?_
 rfl
theorem aA1 : aJ Tryz.prog 116 := aJ.mk Tryz.func116 (by kernel_rfl) rfl
theorem aG9 (c0 c1 c2 : P) : kV E 116 [.ref 0 0, .ref 1 0] (aG [(0, .cells [.p (.int .i64 0)] 0), (1, .cells [.p c0, .p c1, .p c2] 0)]) A (none) (fun y => y = .ok (.p (.tuple [])) (aG [(0, .cells [.p (.int .i64 0)] 0), (1, .cells [.p c0, .p c1, .p c2] 0)]) A) := by
 refine fZ Tryz.func116 (some _) (rfl : Tryz.f116.body = some _) rfl rfl rfl (by decide) (Nat.le_of_ble_eq_true rfl) (fun id h => ?_) (fun j id h => ?_) ?_
 ·exact nD h
 ·exact nE h
 intro C hN hL
 replace hN : C.N = 8 := hN
 simp only [Gh.num, List.map_cons, List.map_nil, Nat.reduceAdd, pJ]
 refine oc0 [(0, 0)] [] [0, 0] none (spec := qU 0) (hent := sN) ?_
 apply aC
 refine (?_ : gwp C none _ _ (sg _ _ _ []))
 repeat apply aA
 apply aB
 iterate 2 refine v0 ?_
 refine rb 6 false (h := by (first | with_reducible rfl | exact decide_eq_false (by omega) | rfl | decide)) ?_
 apply aC
 repeat apply aA
 refine cF ?_
 repeat apply aA
 refine aR ?_
 repeat refine bW ?_
 refine dT ?_
 refine fh0 [0, 1] ?_
 rfl
end
section
open Go.Gh
variable {E : Env Tryz.prog} {A : E.α}
structure aCQ (c : Prop) : Prop where
 h : c := by (first | exact True.intro | omega | (simp only [inI]; omega) | (simp [P.size, bR, bF, bN, bB, cR, good, G.one, P.one, P.cells] <;> first | omega | assumption | simp_all))
abbrev Str := List UInt8
def bT (xs : List Str) : P := .list (xs.map P.str)
def mT : List Str → Option Int
 | [] => none
 | x :: _ => if (jA x).2 then some (jA x).1 else none
def dB : List Str → Option (Int × Int)
 | [] => none
 | x :: _ => if (Lib.cut x [44]).2.2 && ((jA (Lib.cut x [44]).1).2 && (jA (Lib.cut x [44]).2.1).2) then some ((jA (Lib.cut x [44]).1).1, (jA (Lib.cut x [44]).2.1).1) else none
def cE (xs : List Str) : Prop := ∀ x ∈ xs, x.length ≤ 10000
theorem cU {xs : List Str} (h : cE xs) : cE xs.tail := fun x hx => h x (List.mem_of_mem_tail hx)
theorem aAc (x p : Str) : (Lib.cut x p).1.length ≤ x.length ∧ (Lib.cut x p).2.1.length ≤ x.length := by
 unfold Lib.cut
 split
 ·exact ⟨by rw [List.length_take]; omega, by rw [List.length_drop]; omega⟩
 ·exact ⟨Nat.le_refl _, Nat.zero_le _⟩
theorem aCR {x : Str} (h : (jA x).2 = true) : jA x = ((jA x).1, true) := by rw [← h]
theorem aE9 {x : Str} (h : (jA x).2 = false) : jA x = ((jA x).1, false) := by rw [← h]
theorem dL : aJ Tryz.prog 107 := aJ.mk Tryz.func107 (by kernel_rfl) rfl
theorem cN (x : Str) (xs : List Str) : Gh.bE E 107 [.ref 0 0] (aG [(0, .cells [.p (bT (x :: xs))] 0)]) A (fun y => y = .ok (.p (.str x)) (aG [(0, .cells [.p (bT xs)] 0)]) A) := by
 refine spX 26 Tryz.func107 rfl ?_
 intro C hN hL
 simp only [Gh.num, List.map_cons, List.map_nil, Nat.reduceAdd]
 unfold bT
 repeat apply aA
 apply aB
 refine v0 ?_
 apply aC
 refine cl [0] ?_
 repeat apply aA
 apply aB
 iterate 6 refine v0 ?_
 refine rb 9 true (h := by (simp)) ?_
 refine pc0 (spec := bG _) (hent := bX) ?_
 apply aC
 refine cl [0] ?_
 repeat apply aA
 apply aB
 iterate 4 refine v0 ?_
 refine v1 (hc := aCQ.h {}) ?_
 iterate 2 refine v0 ?_
 apply aC
 refine cl [0, 3] ?_
 repeat apply aA
 apply aB
 iterate 5 refine v0 ?_
 refine v1 (hc := aCQ.h {}) ?_
 iterate 2 refine v0 ?_
 refine s1 (hc := aCQ.h {}) ?_
 apply aC
 refine cl [0, 3] ?_
 repeat apply aA
 apply aB
 iterate 2 refine v0 ?_
 apply aC
 repeat apply aA
 refine aL ?_
 repeat (first | refine aH ?_ | refine aF ?_ | refine aD ?_)
 refine aM ?_
 refine fh [0] ?_
 simp [List.take_of_length_le]
theorem aD8  : Gh.bE E 107 [.ref 0 0] (aG [(0, .cells [.p (bT [])] 0)]) A (fun y => y = .panic (.iface 218 (.agg [.int .i64 8])) (aG [(0, .cells [.p (bT [])] 0)]) A) := by
 refine spX 26 Tryz.func107 rfl ?_
 intro C hN hL
 simp only [Gh.num, List.map_cons, List.map_nil, Nat.reduceAdd]
 unfold bT
 repeat apply aA
 apply aB
 refine v0 ?_
 apply aC
 refine cl [0] ?_
 repeat apply aA
 apply aB
 iterate 6 refine v0 ?_
 refine rb 9 false (h := by (simp)) ?_
 refine pp0 (spec := dE _) (hent := bX) ?_
 repeat (first | refine aO ?_ | refine aN ?_)
 refine fph [0] ?_
 rfl
theorem aI1 : aJ Tryz.prog 164 := aJ.mk Tryz.func164 (by kernel_rfl) rfl
theorem vI : aJ Tryz.prog 138 := aJ.mk Tryz.func138 (by kernel_rfl) rfl
theorem aAd (s : Str) (v : Int) (h : s.length ≤ 10000) (hs : jA s = (v, true)) : bZ Tryz.prog 138 [.str s] (.ok (.int .i64 v)) := by
 refine bS Tryz.func138 (rfl : Tryz.f138.body = some _) rfl ?_
 intro E A C hN hL
 replace hN : C.N = 14 := hN
 simp only [Gh.num, List.map_cons, List.map_nil, Nat.reduceAdd]
 repeat apply aA
 apply aB
 refine v0 ?_
 apply aC
 refine cl [0] ?_
 repeat apply aA
 apply aB
 refine v0 ?_
 refine pc0 (spec := aG6 s v (by omega) hs) (hent := aI1) ?_
 iterate 5 refine v0 ?_
 apply aC
 refine cl [3, 4] ?_
 repeat apply aA
 apply aB
 iterate 2 refine v0 ?_
 refine rb 11 true (h := by (rfl)) ?_
 refine pc0 (spec := bG _) (hent := bX) ?_
 apply aC
 refine cl [3] ?_
 repeat apply aA
 apply aB
 iterate 2 refine v0 ?_
 apply aC
 repeat apply aA
 refine aL ?_
 repeat (first | refine aH ?_ | refine aF ?_ | refine aD ?_)
 refine aM ?_
 refine fp ?_
 rfl
theorem aCS (s : Str) (v : Int) (h : s.length ≤ 10000) (hs : jA s = (v, false)) : bZ Tryz.prog 138 [.str s] (.panic (.iface 218 (.agg [.int .i64 8]))) := by
 refine bS Tryz.func138 (rfl : Tryz.f138.body = some _) rfl ?_
 intro E A C hN hL
 replace hN : C.N = 14 := hN
 simp only [Gh.num, List.map_cons, List.map_nil, Nat.reduceAdd]
 repeat apply aA
 apply aB
 refine v0 ?_
 apply aC
 refine cl [0] ?_
 repeat apply aA
 apply aB
 refine v0 ?_
 refine pc0 (spec := aG7 s v (by omega) hs) (hent := aI1) ?_
 iterate 5 refine v0 ?_
 apply aC
 refine cl [3, 4] ?_
 repeat apply aA
 apply aB
 iterate 2 refine v0 ?_
 refine rb 11 false (h := by (rfl)) ?_
 refine pp0 (spec := dE _) (hent := bX) ?_
 repeat (first | refine aO ?_ | refine aN ?_)
 exact aBP rfl
theorem sO : aJ Tryz.prog 99 := aJ.mk Tryz.func99 (by kernel_rfl) rfl
theorem pD (xs : List Str) (v : Int) (hs : cE xs) (h : mT xs = some v) : Gh.bE E 99 [.ref 0 0] (aG [(0, .cells [.p (bT xs)] 0)]) A (fun y => y = .ok (.p (.int .i64 v)) (aG [(0, .cells [.p (bT xs.tail)] 0)]) A) := by
 refine spX 6 Tryz.func99 rfl ?_
 intro C hN hL
 simp only [Gh.num, List.map_cons, List.map_nil, Nat.reduceAdd]
 obtain ⟨x, xs, rfl⟩ : ∃ x xs', xs = x :: xs' := by cases xs with | nil => cases h | cons x xs => exact ⟨x, xs, rfl⟩
 have hx := hs x (List.mem_cons_self ..)
 have hv : jA x = (v, true) := by simp only [mT] at h; split at h; (rename_i h2; cases h; exact aCR h2); cases h
 repeat apply aA
 apply aB
 refine v0 ?_
 apply aC
 refine cl [0] ?_
 repeat apply aA
 apply aB
 refine v0 ?_
 refine oc0 [(0, 0)] [] [0] none (spec := cN x xs) (hent := dL) ?_
 refine pc0 (spec := aAd x v hx hv) (hent := vI) ?_
 refine v0 ?_
 apply aC
 repeat apply aA
 refine aL ?_
 repeat (first | refine aH ?_ | refine aF ?_ | refine aD ?_)
 refine aM ?_
 refine fh [0] ?_
 rfl
theorem aI2  : Gh.bE E 99 [.ref 0 0] (aG [(0, .cells [.p (bT [])] 0)]) A (fun y => y = .panic (.iface 218 (.agg [.int .i64 8])) (aG [(0, .cells [.p (bT [])] 0)]) A) := by
 refine spX 6 Tryz.func99 rfl ?_
 intro C hN hL
 simp only [Gh.num, List.map_cons, List.map_nil, Nat.reduceAdd]
 repeat apply aA
 apply aB
 refine v0 ?_
 apply aC
 refine cl [0] ?_
 repeat apply aA
 apply aB
 refine v0 ?_
 refine op0 [(0, 0)] [] [0] none (spec := aD8) (hent := dL) ?_
 repeat (first | refine aO ?_ | refine aN ?_)
 refine fph [0] ?_
 rfl
theorem aI3 (x : Str) (xs : List Str) (v : Int) (hx : x.length ≤ 10000) (hv : jA x = (v, false)) : Gh.bE E 99 [.ref 0 0] (aG [(0, .cells [.p (bT (x :: xs))] 0)]) A (fun y => y = .panic (.iface 218 (.agg [.int .i64 8])) (aG [(0, .cells [.p (bT xs)] 0)]) A) := by
 refine spX 6 Tryz.func99 rfl ?_
 intro C hN hL
 simp only [Gh.num, List.map_cons, List.map_nil, Nat.reduceAdd]
 repeat apply aA
 apply aB
 refine v0 ?_
 apply aC
 refine cl [0] ?_
 repeat apply aA
 apply aB
 refine v0 ?_
 refine oc0 [(0, 0)] [] [0] none (spec := cN x xs) (hent := dL) ?_
 refine pp0 (spec := aCS x v hx hv) (hent := vI) ?_
 repeat (first | refine aO ?_ | refine aN ?_)
 refine fph [0] ?_
 rfl
theorem aAe (xs : List Str) (hs : cE xs) (h : mT xs = none) : Gh.bE E 99 [.ref 0 0] (aG [(0, .cells [.p (bT xs)] 0)]) A (fun y => y = .panic (.iface 218 (.agg [.int .i64 8])) (aG [(0, .cells [.p (bT xs.tail)] 0)]) A) := by
 cases xs with
 | nil => exact aI2
 | cons x xs =>
  refine aI3 x xs (jA x).1 (hs x (List.mem_cons_self ..)) (aE9 ?_)
  simp only [mT] at h
  split at h
  ·cases h
  ·exact Bool.eq_false_iff.2 (by assumption)
theorem aCT : aJ Tryz.prog 139 := aJ.mk Tryz.func139 (by kernel_rfl) rfl
theorem aI4 (x : Str) (xs : List Str) (a b : Str) (c : Bool) (hx : x.length ≤ 10000) (hcut : Lib.cut x [44] = (a, b, c)) (u v : Int) (hc : c = true) (hu : jA a = (u, true)) (hv : jA b = (v, true)) : Gh.bE E 100 [.ref 0 0] (aG [(0, .cells [.p (bT (x :: xs))] 0)]) A (fun y => y = .ok (.p (.agg [.int .i64 u, .int .i64 v])) (aG [(0, .cells [.p (bT xs)] 0)]) A) := by
 refine spX 20 Tryz.func100 rfl ?_
 intro C hN hL
 simp only [Gh.num, List.map_cons, List.map_nil, Nat.reduceAdd]
 have h1 := aAc x [44]
 rw [hcut] at h1
 have hC : bZ Tryz.prog 139 [.str x, .str [44]] (.ok (.tuple [.str a, .str b, .bool c])) := by have := aF7 x [44] (by omega); rw [hcut] at this; exact this
 have ha : a.length ≤ 10000 := by have := h1.1; simp only at this; omega
 have hb : b.length ≤ 10000 := by have := h1.2; simp only at this; omega
 subst hc
 repeat apply aA
 apply aB
 refine n1 120 false (hc := aCQ.h {}) ?_
 apply aC
 refine cl [0, 2] ?_
 repeat apply aA
 apply aB
 refine v0 ?_
 refine oc0 [(0, 0)] [] [0] none (spec := cN x xs) (hent := dL) ?_
 refine pc0 (spec := hC) (hent := aCT) ?_
 iterate 7 refine v0 ?_
 refine rb 5 true (h := by (rfl)) ?_
 apply aC
 refine cl [0, 2, 3, 4, 5] ?_
 repeat apply aA
 apply aB
 refine v0 ?_
 refine pc0 (spec := bG _) (hent := bX) ?_
 apply aC
 refine cl [0, 2, 3, 4] ?_
 repeat apply aA
 apply aB
 refine v0 ?_
 refine pc0 (spec := aAd a u ha hu) (hent := vI) ?_
 refine v0 ?_
 refine pc0 (spec := aAd b v hb hv) (hent := vI) ?_
 refine v0 ?_
 refine s1 (hc := aCQ.h {}) ?_
 apply aC
 repeat apply aA
 refine aL ?_
 repeat (first | refine aH ?_ | refine aF ?_ | refine aD ?_)
 refine aM ?_
 refine fh [0] ?_
 rfl
theorem aHa  : Gh.bE E 100 [.ref 0 0] (aG [(0, .cells [.p (bT [])] 0)]) A (fun y => y = .panic (.iface 218 (.agg [.int .i64 8])) (aG [(0, .cells [.p (bT [])] 0)]) A) := by
 refine spX 20 Tryz.func100 rfl ?_
 intro C hN hL
 simp only [Gh.num, List.map_cons, List.map_nil, Nat.reduceAdd]
 repeat apply aA
 apply aB
 refine n1 120 false (hc := aCQ.h {}) ?_
 apply aC
 refine cl [0, 2] ?_
 repeat apply aA
 apply aB
 refine v0 ?_
 refine op0 [(0, 0)] [] [0] none (spec := aD8) (hent := dL) ?_
 repeat (first | refine aO ?_ | refine aN ?_)
 refine fph [0] ?_
 rfl
theorem aHb (x : Str) (xs : List Str) (a b : Str) (c : Bool) (hx : x.length ≤ 10000) (hcut : Lib.cut x [44] = (a, b, c)) (hc : c = false) : Gh.bE E 100 [.ref 0 0] (aG [(0, .cells [.p (bT (x :: xs))] 0)]) A (fun y => y = .panic (.iface 218 (.agg [.int .i64 8])) (aG [(0, .cells [.p (bT xs)] 0)]) A) := by
 refine spX 20 Tryz.func100 rfl ?_
 intro C hN hL
 simp only [Gh.num, List.map_cons, List.map_nil, Nat.reduceAdd]
 have h1 := aAc x [44]
 rw [hcut] at h1
 have hC : bZ Tryz.prog 139 [.str x, .str [44]] (.ok (.tuple [.str a, .str b, .bool c])) := by have := aF7 x [44] (by omega); rw [hcut] at this; exact this
 have ha : a.length ≤ 10000 := by have := h1.1; simp only at this; omega
 have hb : b.length ≤ 10000 := by have := h1.2; simp only at this; omega
 subst hc
 repeat apply aA
 apply aB
 refine n1 120 false (hc := aCQ.h {}) ?_
 apply aC
 refine cl [0, 2] ?_
 repeat apply aA
 apply aB
 refine v0 ?_
 refine oc0 [(0, 0)] [] [0] none (spec := cN x xs) (hent := dL) ?_
 refine pc0 (spec := hC) (hent := aCT) ?_
 iterate 7 refine v0 ?_
 refine rb 5 false (h := by (rfl)) ?_
 apply aC
 refine cl [0, 2, 3, 4, 5] ?_
 repeat apply aA
 apply aB
 refine v0 ?_
 refine pp0 (spec := dE _) (hent := bX) ?_
 repeat (first | refine aO ?_ | refine aN ?_)
 refine fph [0] ?_
 rfl
theorem aHc (x : Str) (xs : List Str) (a b : Str) (c : Bool) (hx : x.length ≤ 10000) (hcut : Lib.cut x [44] = (a, b, c)) (u : Int) (hc : c = true) (hu : jA a = (u, false)) : Gh.bE E 100 [.ref 0 0] (aG [(0, .cells [.p (bT (x :: xs))] 0)]) A (fun y => y = .panic (.iface 218 (.agg [.int .i64 8])) (aG [(0, .cells [.p (bT xs)] 0)]) A) := by
 refine spX 20 Tryz.func100 rfl ?_
 intro C hN hL
 simp only [Gh.num, List.map_cons, List.map_nil, Nat.reduceAdd]
 have h1 := aAc x [44]
 rw [hcut] at h1
 have hC : bZ Tryz.prog 139 [.str x, .str [44]] (.ok (.tuple [.str a, .str b, .bool c])) := by have := aF7 x [44] (by omega); rw [hcut] at this; exact this
 have ha : a.length ≤ 10000 := by have := h1.1; simp only at this; omega
 have hb : b.length ≤ 10000 := by have := h1.2; simp only at this; omega
 subst hc
 repeat apply aA
 apply aB
 refine n1 120 false (hc := aCQ.h {}) ?_
 apply aC
 refine cl [0, 2] ?_
 repeat apply aA
 apply aB
 refine v0 ?_
 refine oc0 [(0, 0)] [] [0] none (spec := cN x xs) (hent := dL) ?_
 refine pc0 (spec := hC) (hent := aCT) ?_
 iterate 7 refine v0 ?_
 refine rb 5 true (h := by (rfl)) ?_
 apply aC
 refine cl [0, 2, 3, 4, 5] ?_
 repeat apply aA
 apply aB
 refine v0 ?_
 refine pc0 (spec := bG _) (hent := bX) ?_
 apply aC
 refine cl [0, 2, 3, 4] ?_
 repeat apply aA
 apply aB
 refine v0 ?_
 refine pp0 (spec := aCS a u ha hu) (hent := vI) ?_
 repeat (first | refine aO ?_ | refine aN ?_)
 refine fph [0] ?_
 rfl
theorem aHd (x : Str) (xs : List Str) (a b : Str) (c : Bool) (hx : x.length ≤ 10000) (hcut : Lib.cut x [44] = (a, b, c)) (u v : Int) (hc : c = true) (hu : jA a = (u, true)) (hv : jA b = (v, false)) : Gh.bE E 100 [.ref 0 0] (aG [(0, .cells [.p (bT (x :: xs))] 0)]) A (fun y => y = .panic (.iface 218 (.agg [.int .i64 8])) (aG [(0, .cells [.p (bT xs)] 0)]) A) := by
 refine spX 20 Tryz.func100 rfl ?_
 intro C hN hL
 simp only [Gh.num, List.map_cons, List.map_nil, Nat.reduceAdd]
 have h1 := aAc x [44]
 rw [hcut] at h1
 have hC : bZ Tryz.prog 139 [.str x, .str [44]] (.ok (.tuple [.str a, .str b, .bool c])) := by have := aF7 x [44] (by omega); rw [hcut] at this; exact this
 have ha : a.length ≤ 10000 := by have := h1.1; simp only at this; omega
 have hb : b.length ≤ 10000 := by have := h1.2; simp only at this; omega
 subst hc
 repeat apply aA
 apply aB
 refine n1 120 false (hc := aCQ.h {}) ?_
 apply aC
 refine cl [0, 2] ?_
 repeat apply aA
 apply aB
 refine v0 ?_
 refine oc0 [(0, 0)] [] [0] none (spec := cN x xs) (hent := dL) ?_
 refine pc0 (spec := hC) (hent := aCT) ?_
 iterate 7 refine v0 ?_
 refine rb 5 true (h := by (rfl)) ?_
 apply aC
 refine cl [0, 2, 3, 4, 5] ?_
 repeat apply aA
 apply aB
 refine v0 ?_
 refine pc0 (spec := bG _) (hent := bX) ?_
 apply aC
 refine cl [0, 2, 3, 4] ?_
 repeat apply aA
 apply aB
 refine v0 ?_
 refine pc0 (spec := aAd a u ha hu) (hent := vI) ?_
 refine v0 ?_
 refine pp0 (spec := aCS b v hb hv) (hent := vI) ?_
 repeat (first | refine aO ?_ | refine aN ?_)
 refine fph [0] ?_
 rfl
theorem eI (xs : List Str) (u v : Int) (hs : cE xs) (h : dB xs = some (u, v)) : Gh.bE E 100 [.ref 0 0] (aG [(0, .cells [.p (bT xs)] 0)]) A (fun y => y = .ok (.p (.agg [.int .i64 u, .int .i64 v])) (aG [(0, .cells [.p (bT xs.tail)] 0)]) A) := by
 cases xs with
 | nil => cases h
 | cons x xs =>
  simp only [dB] at h
  split at h
  ·rename_i h2
   simp only [Bool.and_eq_true] at h2
   obtain ⟨h2, h3, h4⟩ := h2
   cases h
   exact aI4 x xs _ _ _ (hs x (List.mem_cons_self ..)) rfl _ _ h2 (aCR h3) (aCR h4)
  ·cases h
theorem kY (xs : List Str) (hs : cE xs) (h : dB xs = none) : Gh.bE E 100 [.ref 0 0] (aG [(0, .cells [.p (bT xs)] 0)]) A (fun y => y = .panic (.iface 218 (.agg [.int .i64 8])) (aG [(0, .cells [.p (bT xs.tail)] 0)]) A) := by
 cases xs with
 | nil => exact aHa
 | cons x xs =>
  simp only [dB] at h
  split at h
  ·cases h
  ·rename_i h2
   have hx := hs x (List.mem_cons_self ..)
   cases h5 : (Lib.cut x [44]).2.2 with
   | false => exact aHb x xs _ _ _ hx rfl h5
   | true =>
    cases h3 : (jA (Lib.cut x [44]).1).2 with
    | false => exact aHc x xs _ _ _ hx rfl _ h5 (aE9 h3)
    | true =>
     cases h4 : (jA (Lib.cut x [44]).2.1).2 with
     | false => exact aHd x xs _ _ _ hx rfl _ _ h5 (aCR h3) (aE9 h4)
     | true => rw [h5, h3, h4] at h2; exact absurd rfl h2
end
section
open Go.Gh
structure aHe (c : Prop) : Prop where
 h : c := by (first | exact True.intro | omega | (simp only [inI]; omega) | (simp [P.size, bR, bF, bN, bB, cR, good, G.one, P.one, P.cells] <;> first | omega | assumption | simp_all))
theorem fQ {α : Type} {l : List α} {k : Nat} (h : k < l.length) : ∃ x, l[k]? = some x := ⟨l[k], List.getElem?_eq_getElem h⟩
theorem sgE {E : Env Tryz.prog} {l l' : List (Nat × G)} {m m' : List (Nat × Ob)} {A : E.α} {df : List GD} (h : l = l') (h2 : m = m') : (sg l m A df : Sg E) = sg l' m' A df := by rw [h, h2]
theorem aF9 {α : Type} {l : List α} {k : Nat} {x : α} {tl : List α} (h : l.drop k = x :: tl) : l[k]? = some x ∧ l.drop (k + 1) = tl := by
 constructor
 ·have := congrArg (·[0]?) h
  simpa using this
 ·rw [← List.drop_drop, h]; rfl
theorem qV {α : Type} {l : List α} {k : Nat} (h : l.drop k = []) (hk : k ≤ l.length) : k = l.length := by
 have := congrArg List.length h
 rw [List.length_drop, List.length_nil] at this; omega
theorem aFa : ∀ (s : Str) (i : Nat), Lib.indexByte s 10 = i → i < s.length
 | [], i, h => by exfalso; simp only [Lib.indexByte] at h; omega
 | b :: l, i, h => by
  rw [List.length_cons]
  unfold Lib.indexByte at h
  by_cases hb : b = 10
  ·subst hb
   have hi : i = 0 := by simpa using h.symm
   omega
  ·have h1 : (b == 10) = false := by simpa using hb
   rw [h1] at h
   simp only [Bool.false_eq_true, if_false] at h
   have hge := Lib.indexByte_ge l 10
   by_cases hm : Lib.indexByte l 10 = -1
   ·exfalso; rw [hm] at h; simp only [BEq.rfl, if_true] at h; omega
   ·obtain ⟨j, hj⟩ := Int.eq_ofNat_of_zero_le (show 0 ≤ Lib.indexByte l 10 by omega)
    rw [hj] at h
    have e1 : ((j : Int) == -1) = false := by simp
    rw [e1] at h
    simp only [Bool.false_eq_true, if_false] at h
    have := aFa l j hj
    omega
abbrev yls (s : Str) : List (List Y0) := (bQ s).map fun l => [Y0.p (.str l)]
theorem xZ {s ln : Str} {k : Nat} (h : (bQ s)[k]? = some ln) : (yls s)[k]? = some [Y0.p (.str ln)] := by rw [yls, List.getElem?_map, h]; rfl
theorem aN9 (rest : Str) (i : Nat) : P.str (List.take (((i : Int) + 1).toNat - 0) rest) = P.str (rest.take (i + 1)) := by rw [show ((i : Int) + 1).toNat - 0 = i + 1 by omega]
theorem aOa (rest : Str) (i : Nat) : P.str (List.take (rest.length - ((i : Int) + 1).toNat) (List.drop ((i : Int) + 1).toNat rest)) = P.str (rest.drop (i + 1)) := by
 rw [show ((i : Int) + 1).toNat = i + 1 by omega, List.take_of_length_le (Nat.le_of_eq (List.length_drop ..))]
theorem aI5 {s rest : Str} {k i : Nat} (hdr : bQ rest = (bQ s).drop k) (hi : Lib.indexByte rest 10 = i) : ∃ ln r2, P.str (rest.take (i + 1)) = P.str ln ∧ P.str (rest.drop (i + 1)) = P.str r2 ∧ r2.length < rest.length ∧ (bQ s)[k]? = some ln ∧ (bQ s).drop (k + 1) = bQ r2 := by
 have hil := aFa rest i hi
 have hat := aF9 (hdr.symm.trans (aB5 rest i hi))
 exact ⟨_, _, rfl, rfl, by rw [List.length_drop]; omega, hat.1, hat.2⟩
theorem aI6 {s rest : Str} {k : Nat} (hdr : bQ rest = (bQ s).drop k) (hne : rest ≠ []) (hi : Lib.indexByte rest 10 = -1) : ∃ ln r2, P.str rest = P.str ln ∧ P.str [] = P.str r2 ∧ r2.length < rest.length ∧ (bQ s)[k]? = some ln ∧ (bQ s).drop (k + 1) = bQ r2 := by
 have hat := aF9 (hdr.symm.trans (zC rest hne hi))
 exact ⟨_, [], rfl, rfl, List.length_pos_iff.2 hne, hat.1, hat.2⟩
theorem aMJ : aJ Tryz.prog 169 := aJ.mk Tryz.func169 (by kernel_rfl) rfl
theorem aMK : aJ Tryz.prog 168 := aJ.mk Tryz.func168 (by kernel_rfl) rfl
theorem aI7 (s : Str) (h : s.length ≤ 100000) (pan : Bool) :
  aB0 Tryz.prog 168 [.abs, .ref 0 0] (aG [(0, .cells [.p (.str s)] 0)]) (yls s) none pan := by
 intro E J Z ZP hcan hy A hA
 refine spX 25 Tryz.func168 rfl ?_
 intro C hN hL
 simp only [Gh.num, List.map_cons, List.map_nil, Nat.reduceAdd]
 repeat apply aA
 refine aP ?_
 repeat apply aA
 refine cI (fun mz σ => ∃ (k : Nat) (A2 : E.α) (rest : Str), (k ≤ (bQ s).length) ∧ (J k A2) ∧ (bQ rest = (bQ s).drop k) ∧ (rest.length ≤ 100000) ∧ mz = rest.length ∧ σ = (sg [(0, .abs), (1, .ref 0 0)] [(0, .cells [.p (.str rest)] 0)] A2 [] : Sg E)) ?_ (fun mz σ hI => ?_)
 ·refine gA [0, 1] ?_
  exact ⟨_, 0, A, s, by omega, hA, by simp, h, rfl, rfl⟩
 obtain ⟨k, A2, rest, hk, hJ, hdr, hrl, hn, rfl⟩ := hI
 repeat apply aA
 apply aB
 iterate 3 refine v0 ?_
 apply aC
 repeat apply aA
 refine cB (k1 := fun hb1 => ?_) (k0 := fun hb1 => ?_)
 ·replace hb1 := hB.h {} hb1
  repeat apply aA
  refine aR ?_
  refine cl [0, 1] ?_
  repeat apply aA
  refine aP ?_
  repeat apply aA
  apply aB
  refine v0 ?_
  apply aC
  refine cl [0, 1] ?_
  repeat apply aA
  apply aB
  refine v0 ?_
  refine pc0 (spec := aD6 rest 10) (hent := aMJ) ?_
  refine v0 ?_
  apply aC
  refine cl [0, 1, 4] ?_
  repeat apply aA
  apply aB
  iterate 2 refine v0 ?_
  apply aC
  repeat apply aA
  refine cB (k1 := fun hb2 => ?_) (k0 := fun hb2 => ?_)
  ·replace hb2 := hB.h {} hb2
   repeat apply aA
   obtain ⟨i, hi⟩ := Int.eq_ofNat_of_zero_le (show 0 ≤ Lib.indexByte rest 10 by assumption)
   have hil := aFa rest i hi
   rw [hi]
   refine rd ?_
   refine d0 0 ?_
   refine d0 1 ?_
   refine d1 2 (hc := aHe.h {}) ?_
   refine d1 3 (hc := aHe.h {}) ?_
   refine d0 4 ?_
   refine d0 5 ?_
   refine d1 6 (hc := aHe.h {}) ?_
   refine d1 7 (hc := aHe.h {}) ?_
   refine d0 8 ?_
   refine ds1 9 (hc := aHe.h {}) ?_
   refine dz 10 [0, 0, 2, 7, 0, 0, 32, 112, 15, 511] ?_
   refine de 10 ?_
   refine cl [0, 1, 3] ?_
   repeat apply aA
   first | (obtain ⟨ln, r2, h1, h2, hrl2, hat⟩ := aI5 hdr hi; rw [aN9 rest i, aOa rest i, h1, h2]) | (obtain ⟨ln, r2, h1, h2, hrl2, hat⟩ := aI6 hdr hne hi; rw [h1, h2])
   apply aB
   iterate 2 refine v0 ?_
   refine y0 (xs := [P.str ln]) (hcan := ?_) (k := fun b A3 hY => ?_) (kp := fun p A3 hY => ?_)
   ·exact hcan _ _ _ hJ (xZ hat.1)
   ·have hy2 := hy _ _ _ _ _ hJ (xZ hat.1) hY
    refine v0 ?_
    apply aC
    repeat apply aA
    refine cB (k1 := fun hb3 => ?_) (k0 := fun hb3 => ?_)
    ·replace hb3 := hB.h {} hb3
     repeat apply aA
     refine aL ?_
     repeat (first | refine aH ?_ | refine aF ?_ | refine aD ?_)
     refine aM ?_
     refine fp0 ?_
     first
     | (
       obtain rfl : b = false := by simp_all
       exact .inl ⟨_, _, _, rfl, .inr hy2⟩)
     | (have hr0 : rest = [] := List.length_eq_zero_iff.1 (by omega); subst hr0; have hkl := qV hdr.symm hk; exact .inl ⟨_, _, _, rfl, .inl ⟨trivial, by rw [yls, List.length_map, ← hkl]; exact hJ⟩⟩)
    ·replace hb3 := hB.h {} hb3
     repeat apply aA
     refine aR ?_
     repeat refine bW ?_
     refine eC [0, 1] (h := ?_) (hV := ?_) (n' := r2.length)
     ·omega
     obtain rfl : b = true := by simp_all
     exact ⟨k + 1, A3, r2, by have := (List.getElem?_eq_some_iff.1 hat.1).1; omega, hy2, hat.2.symm, by omega, rfl, rfl⟩
   ·have hy2 := hy _ _ _ _ _ hJ (xZ hat.1) hY
    repeat (first | refine aO ?_ | refine aN ?_)
    refine fph [] ?_
    exact .inr ⟨_, _, _, rfl, .inr hy2.2⟩
  ·replace hb2 := hB.h {} hb2
   repeat apply aA
   have hi : Lib.indexByte rest 10 = -1 := by have := Lib.indexByte_ge rest 10; omega
   have hne : rest ≠ [] := by intro e; subst e; simp at *
   apply aB
   iterate 2 refine v0 ?_
   refine s1 (hc := aHe.h {}) ?_
   apply aC
   refine cl [0, 1, 3] ?_
   repeat apply aA
   first | (obtain ⟨ln, r2, h1, h2, hrl2, hat⟩ := aI5 hdr hi; rw [aN9 rest i, aOa rest i, h1, h2]) | (obtain ⟨ln, r2, h1, h2, hrl2, hat⟩ := aI6 hdr hne hi; rw [h1, h2])
   apply aB
   iterate 2 refine v0 ?_
   refine y0 (xs := [P.str ln]) (hcan := ?_) (k := fun b A3 hY => ?_) (kp := fun p A3 hY => ?_)
   ·exact hcan _ _ _ hJ (xZ hat.1)
   ·have hy2 := hy _ _ _ _ _ hJ (xZ hat.1) hY
    refine v0 ?_
    apply aC
    repeat apply aA
    refine cB (k1 := fun hb4 => ?_) (k0 := fun hb4 => ?_)
    ·replace hb4 := hB.h {} hb4
     repeat apply aA
     refine aL ?_
     repeat (first | refine aH ?_ | refine aF ?_ | refine aD ?_)
     refine aM ?_
     refine fp0 ?_
     first
     | (
       obtain rfl : b = false := by simp_all
       exact .inl ⟨_, _, _, rfl, .inr hy2⟩)
     | (have hr0 : rest = [] := List.length_eq_zero_iff.1 (by omega); subst hr0; have hkl := qV hdr.symm hk; exact .inl ⟨_, _, _, rfl, .inl ⟨trivial, by rw [yls, List.length_map, ← hkl]; exact hJ⟩⟩)
    ·replace hb4 := hB.h {} hb4
     repeat apply aA
     refine aR ?_
     repeat refine bW ?_
     refine eC [0, 1] (h := ?_) (hV := ?_) (n' := r2.length)
     ·omega
     obtain rfl : b = true := by simp_all
     exact ⟨k + 1, A3, r2, by have := (List.getElem?_eq_some_iff.1 hat.1).1; omega, hy2, hat.2.symm, by omega, rfl, rfl⟩
   ·have hy2 := hy _ _ _ _ _ hJ (xZ hat.1) hY
    repeat (first | refine aO ?_ | refine aN ?_)
    refine fph [] ?_
    exact .inr ⟨_, _, _, rfl, .inr hy2.2⟩
 ·replace hb1 := hB.h {} hb1
  repeat apply aA
  refine bV ?_
  repeat (first | refine bH ?_ | refine aY ?_ | refine bC ?_ | refine bI rfl ?_)
  try refine bK ?_
  refine cW ?_
  refine fp0 ?_
  first
  | (
    obtain rfl : b = false := by simp_all
    exact .inl ⟨_, _, _, rfl, .inr hy2⟩)
  | (have hr0 : rest = [] := List.length_eq_zero_iff.1 (by omega); subst hr0; have hkl := qV hdr.symm hk; exact .inl ⟨_, _, _, rfl, .inl ⟨trivial, by rw [yls, List.length_map, ← hkl]; exact hJ⟩⟩)
end
section
open Go.Gh
variable {E : Env Tryz.prog} {A : E.α}
structure aOb (c : Prop) : Prop where
 h : c := by (first | exact True.intro | omega | (simp only [inI]; omega) | (simp [P.size, bR, bF, bN, bB, cR, good, G.one, P.one, P.cells] <;> first | omega | assumption | simp_all))
theorem aML : aJ Tryz.prog 146 := aJ.mk Tryz.func146 (by kernel_rfl) rfl
theorem aKX (s : Str) : Gh.bE E 146 [.p (.str s)] (aG []) A (fun y => y = .ok (.fn (.func 168) [] [.ref 110 0]) (aG [(110, .cells [.p (.str s)] 0)]) A) := by
 refine spX 4 Tryz.func146 rfl ?_
 intro C hN hL
 simp only [Gh.num, List.map_cons, List.map_nil, Nat.reduceAdd]
 repeat apply aA
 apply aB
 refine n1 110 false (hc := aOb.h {}) ?_
 refine v0 ?_
 apply aC
 refine cl [1] ?_
 repeat apply aA
 apply aB
 iterate 2 refine v0 ?_
 apply aC
 repeat apply aA
 refine aL ?_
 repeat (first | refine aH ?_ | refine aF ?_ | refine aD ?_)
 refine aM ?_
 refine fh [110] ?_
 rfl
theorem yA : aJ Tryz.prog 106 := aJ.mk Tryz.func106 (by kernel_rfl) rfl
theorem iY (s : Str) : Gh.bE E 106 [.p (.str s)] (aG []) A (fun y => y = .ok (.fn (.func 144) [] [.ptr [.p (.str s)]]) (aG []) A) := by
 refine spX 4 Tryz.func106 rfl ?_
 intro C hN hL
 simp only [Gh.num, List.map_cons, List.map_nil, Nat.reduceAdd]
 repeat apply aA
 apply aB
 refine n1 110 false (hc := aOb.h {}) ?_
 refine v0 ?_
 apply aC
 refine cl [1] ?_
 repeat apply aA
 apply aB
 iterate 2 refine v0 ?_
 apply aC
 repeat apply aA
 refine fz 110 1 [.k] ?_
 refine cv 2 (.f [.n [.k]]) ?_
 refine aL ?_
 repeat (first | refine aH ?_ | refine aF ?_ | refine aD ?_)
 refine aM ?_
 refine fh [] ?_
 rfl
end
section
open Go.Gh
structure eS1 {α : Type} (a b : α) : Prop where
 h : a = b := by (simp only [aDQ, List.map_cons, List.map_nil, G.men, G.mens, Nat.reduceBEq, Bool.or_false, Bool.false_or, Bool.or_true, Bool.true_or, cond_true, cond_false] <;> rfl)
structure eS2 {α : Type} (a b : α) : Prop where
 h : a = b := by (simp only [aBS, eX, dP, iC, dD, bM, bY, kE, pB, dU, G.idl, G.idls, cL, List.nil_append, List.append_nil, List.cons_append, aE, aI, Nat.reduceEqDiff, reduceIte, List.mem_cons, List.not_mem_nil, or_false, or_true, true_or, false_or, List.filter_cons, List.filter_nil, ne_eq, not_true_eq_false, not_false_eq_true, decide_true, decide_false, Bool.false_eq_true, List.all_cons, List.all_nil, Bool.and_true] <;> rfl)
structure eS3 {α : Type} (a b : α) : Prop where
 h : a = b := by (simp only [eX, dP, iC, dD, bM, bY, kE, pB, dU, G.idl, G.idls, cL, List.nil_append, List.append_nil, List.cons_append, aE, aI, Nat.reduceEqDiff, reduceIte, List.mem_cons, List.not_mem_nil, or_false, or_true, true_or, false_or, List.filter_cons, List.filter_nil, ne_eq, not_true_eq_false, not_false_eq_true, decide_true, decide_false, Bool.false_eq_true, List.all_cons, List.all_nil, Bool.and_true] <;> rfl)
structure eS4 {α : Type} (a b : α) : Prop where
 h : a = b := by (simp only [oF, gev, aT, Nat.reduceEqDiff, reduceIte, List.map_cons, List.map_nil, List.cons_append, List.nil_append, List.append_nil, toP, hE, fV, ofV, rhp, aE, aI, List.mem_cons, List.not_mem_nil, or_false, and_true, true_and] <;> rfl)
structure eS5 {α : Type} (a b : α) : Prop where
 h : a = b := by (simp only [cvS, hZ, toP, hE, fV, aT, fH, aE, aI, Nat.reduceEqDiff, reduceIte, List.take_succ_cons, List.take_zero, List.drop_succ_cons, List.drop_zero, List.take_nil, List.drop_nil, List.length_cons, List.length_nil, Nat.reduceAdd, Nat.add_zero, Nat.zero_add, List.map_cons, List.map_nil, List.cons_append, List.nil_append, List.append_nil, and_true, true_and] <;> rfl)
variable {E : Env Tryz.prog} {C : Cx E} {r : Option Nat} {ops : Array Oper} {Q : GE → Sg E → Prop} {rest lst : List Oper} {l l' : List (Nat × G)} {m : List (Nat × Ob)} {A : E.α} {df : List GD}
variable {t : Nat} {op : Op} {ty : TypeId} {pos : String} {af : Array Edge} {c : Prop} {g : G} {ob : Ob} {i j : Nat} {gd : Option (Nat × Bool)} {b x : Bool} {cd : Code} {J : List Nat}
theorem aO8 (n : Nat) (tab : List Nat) (id : Nat) (cs : List P) {cl : Call} {x y : Operand} {l1 : List (Nat × G)} {m1 : List (Nat × Ob)} (ho : ops[n]? = some ⟨some t, .call cl, ty, pos, af, none⟩ := by rfl) (hwt : nZ tab ops.toList 0 = true := by kernel_rfl) (hct : aEQ tab n 1 ops.size = true := by kernel_rfl) (hx : cl.callee = .value x := by rfl) (hy : gev (bA l) x = .abs := by (simp only [gev, aT, Nat.reduceEqDiff, reduceIte] <;> rfl)) (hcl : cl.args.toList = [y] := by rfl) (hgs : gev (bA l) y = .ref id 0 := by (simp only [gev, aT, Nat.reduceEqDiff, reduceIte] <;> rfl))
  (hob : aG m id = .cells (cs.map .p) 0 := by (simp only [aE, Nat.reduceEqDiff, reduceIte] <;> rfl)) (hid : C.lim ≤ id := by omega) (hn1 : id ∉ bM m (m.map (·.1)) := by (simp [bM, dD, G.idl, G.idls, aE, aI])) (hn2 : id ∉ dP df := by (simp [dP, iC, G.idl, G.idls])) (hl1 : aDQ id l = l1 := by exact eS1.h {}) (hm1 : tF id m = m1 := by (simp only [tF, Nat.reduceBEq, cond_true, cond_false] <;> rfl)) (hcan : E.Can A [.o cs]) (ht : t < C.N := by omega)
  (k : ∀ b A', E.Y A [.o cs] (.b b) A' → pV C r ops (cD C Q) (n + 1) (sg ((t, .p (.bool b)) :: l1) m1 A' df)) (kp : ∀ p A', E.Y A [.o cs] (.p p) A' → Q (.panic p) (sg l1 m1 A' df)) : pV C r ops (cD C Q) n (sg l m A df) :=
 aKx tab ho hwt hct fun K hK => aCM hx (bJ rfl) hy hcl hgs hob hid hn1 hn2 hl1 hm1 hcan ht (fun b A' h => hK _ (k b A' h)) kp
theorem xcl {e : Bool} (vs : List Nat) {m' : List (Nat × Ob)} {I : List Nat} (k : qR e C r cd Q (sg l' m' A df)) (hl : (vs.map fun v => (v, bA l v)) = l' := by (simp only [List.map_cons, List.map_nil, aT, fH, Nat.reduceEqDiff, reduceIte] <;> rfl)) (hI : aBS l' m df = I := by exact eS2.h {}) (hm : bY I m = m' := by exact eS3.h {}) (h1 : dU (eX l') I = true := by exact eS3.h {}) (h2 : dU (dP df) I = true := by exact eS3.h {}) (h3 : dU (bM m I) I = true := by exact eS3.h {}) : qR e C r cd Q (sg l m A df) := aKu (pY vs hl hm h1 h2 h3) k
theorem rfY {Z : Type} {e : Bool} {ps : Array Nat} {o : Operand} {assign body : Code} {f : FuncId} {ga gb aa ab : List G} {ca cb : Prop} (lim d : Nat) (psl : List Nat) {xs : List (List Y0)} {tail : Option P} {pan : Bool} (I : Nat → Z → E.α → Prop) (mI : Z → List (Nat × Ob)) (K : GE → Z → E.α → Prop) (mK : GE → Z → List (Nat × Ob)) (KP : P → Z → E.α → Prop) (mP : P → Z → List (Nat × Ob)) (ka kb : List Sp)
  (it : aAO Tryz.prog f (aa ++ (.abs :: ab)) xs tail pan) (hent : aJ Tryz.prog f) (hg : oF (bA l) o = some (f, ga, gb) := by exact eS4.h {}) (hca : hZ (aG m) ka ga = some (ca, aa) := by exact eS5.h {}) (hcb : hZ (aG m) kb gb = some (cb, ab) := by exact eS5.h {}) (hia : imm.imms aa = true := by simp [imm, imm.imms]) (hib : imm.imms ab = true := by simp [imm, imm.imms]) (h1 : ca := by simp [bB, G.one, P.one]) (h2 : cb := by simp [bB, G.one, P.one])
  (hps : ps.toList = psl := by rfl) (hlim : C.lim ≤ lim := by omega) (hlim2 : lim ≤ 90000 := by omega) (hpn : ∀ p ∈ psl, p < C.N := by (simp <;> omega)) (hlen : ∀ x ∈ xs, x.length = psl.length) (hd : C.lim ≤ d := by omega)
  (wI : ∀ k z A, I k z A → wG l df lim d (mI z) := by (intro k z A hI; first | exact hI.elim | (constructor <;> simp [zB, eX, dP, iC, G.idl, G.idls, zA, aE, aI]))) (wK : ∀ e z A, K e z A → wG l df lim d (mK e z) := by (intro k z A hI; first | exact hI.elim | (constructor <;> simp [zB, eX, dP, iC, G.idl, G.idls, zA, aE, aI])))
  (hshp : ∀ x ∈ xs, (∃ ys : List P, x = ys.map Y0.p) ∨ ∃ cs, x = [.o cs]) (wP : ∀ p z A, KP p z A → pan = true ∧ wG l df lim d (mP p z) := by (intro k z A hI; first | exact hI.elim | (refine ⟨rfl, ?_⟩; constructor <;> simp [zB, eX, dP, iC, G.idl, G.idls, zA, aE, aI]))) (h0 : ∃ z, I 0 z A ∧ mI z = m)
  (round : ∀ k z A' x, I k z A' → xs[k]? = some x → ∀ (lp : Nat) (bs : List (Nat × Obj)) (C1 : Cx (E.guard bs)), C1.N = C.N → C1.lim = lim →
   gwp C1 (some lp) assign (fun e σ => e = .normal ∧ ∀ (bs : List (Nat × Obj)) (C2 : Cx (E.guard bs)), C2.N = C.N → C2.lim = lim → (∃ r0, (lp, Obj.loop r0) ∈ bs) → gwp C2 (some lp) body (fun e σ => match e with
    | .normal => ∃ σ3 z, Le C2 σ σ3 ∧ σ3.h = aG (mI z) ∧ I (k + 1) z σ3.A
    | .panic p => σ.df = [] ∧ ∃ z, Sub (aG (mP p z)) σ.h ∧ KP p z σ.A
    | e => ∃ σ3 z, Le C2 σ σ3 ∧ σ3.h = aG (mK e z) ∧ K e z σ3.A) ⟨σ.fr, σ.h, σ.A, σ.df⟩) ⟨zP (bA l) psl x, qA (aG (mI z)) x, A', []⟩)
  (hK : ∀ e z A', K e z A' → Q e (sg l ((d, .mark) :: mK e z) A' (.mark d :: df))) (hP : ∀ p z A', KP p z A' → Q (.panic p) (sg l ((d, .mark) :: mP p z) A' (.mark d :: df))) (hT : ∀ p z A', tail = some p → I xs.length z A' → Q (.panic p) (sg l ((d, .mark) :: mI z) A' (.mark d :: df))) (hI : ∀ z A', tail = none → I xs.length z A' → Q .normal (sg l ((d, .mark) :: mI z) A' (.mark d :: df)))
  (he : pan = true → e = true := by simp) : qR e C none (.rangeFunc o ps assign body) Q (sg l m A df) :=
 aGY lim d psl xs tail pan I mI K mK KP mP ka kb it hent hg hca hcb hia hib h1 h2 hps hlim hlim2 hpn hlen hd wI wK hshp wP h0 round hK hP hT hI he
theorem rfH {Z : Type} {e : Bool} {ps : Array Nat} {o : Operand} {assign body : Code} {f : FuncId} {ga gb : List G} {l1 : List (Nat × G)} {m1 : List (Nat × Ob)} (lim d id : Nat) (psl : List Nat) {xs : List (List Y0)} {tail : Option P} {pan : Bool} (I : Nat → Z → E.α → Prop) (mI : Z → List (Nat × Ob)) (K : GE → Z → E.α → Prop) (mK : GE → Z → List (Nat × Ob)) (KP : P → Z → E.α → Prop) (mP : P → Z → List (Nat × Ob)) (cs : List P)
  (it : aB0 Tryz.prog f [.abs, .ref 0 0] (aG [(0, .cells (cs.map .p) 0)]) xs tail pan) (hent : aJ Tryz.prog f) (hg : oF (bA l) o = some (f, ga, gb) := by exact eS4.h {}) (hgb : ga = [] ∧ gb = [.ref id 0] := by exact ⟨rfl, rfl⟩) (hob : aG m id = .cells (cs.map .p) 0 := by (simp only [aE, Nat.reduceEqDiff, reduceIte] <;> rfl)) (hn1 : id ∉ bM m (m.map (·.1)) := by (simp [bM, dD, G.idl, G.idls, aE, aI])) (hn2 : id ∉ dP df := by (simp [dP, iC, G.idl, G.idls])) (hl1 : aDQ id l = l1 := by exact eS1.h {}) (hm1 : tF id m = m1 := by (simp only [tF, Nat.reduceBEq, cond_true, cond_false] <;> rfl))
  (hps : ps.toList = psl := by rfl) (hlim : C.lim ≤ lim := by omega) (hlim2 : lim ≤ 90000 := by omega) (hpn : ∀ p ∈ psl, p < C.N := by (simp <;> omega)) (hlen : ∀ x ∈ xs, x.length = psl.length) (hd : C.lim ≤ d := by omega)
  (wI : ∀ k z A, I k z A → wG l1 df lim d (mI z) := by (intro k z A hI; first | exact hI.elim | (constructor <;> simp [zB, eX, dP, iC, G.idl, G.idls, zA, aE, aI]))) (wK : ∀ e z A, K e z A → wG l1 df lim d (mK e z) := by (intro k z A hI; first | exact hI.elim | (constructor <;> simp [zB, eX, dP, iC, G.idl, G.idls, zA, aE, aI])))
  (hshp : ∀ x ∈ xs, (∃ ys : List P, x = ys.map Y0.p) ∨ ∃ cs, x = [.o cs]) (wP : ∀ p z A, KP p z A → pan = true ∧ wG l1 df lim d (mP p z) := by (intro k z A hI; first | exact hI.elim | (refine ⟨rfl, ?_⟩; constructor <;> simp [zB, eX, dP, iC, G.idl, G.idls, zA, aE, aI]))) (h0 : ∃ z, I 0 z A ∧ mI z = m1)
  (round : ∀ k z A' x, I k z A' → xs[k]? = some x → ∀ (lp : Nat) (bs : List (Nat × Obj)) (C1 : Cx (E.guard bs)), C1.N = C.N → C1.lim = lim →
   gwp C1 (some lp) assign (fun e σ => e = .normal ∧ ∀ (bs : List (Nat × Obj)) (C2 : Cx (E.guard bs)), C2.N = C.N → C2.lim = lim → (∃ r0, (lp, Obj.loop r0) ∈ bs) → gwp C2 (some lp) body (fun e σ => match e with
    | .normal => ∃ σ3 z, Le C2 σ σ3 ∧ σ3.h = aG (mI z) ∧ I (k + 1) z σ3.A
    | .panic p => σ.df = [] ∧ ∃ z, Sub (aG (mP p z)) σ.h ∧ KP p z σ.A
    | e => ∃ σ3 z, Le C2 σ σ3 ∧ σ3.h = aG (mK e z) ∧ K e z σ3.A) ⟨σ.fr, σ.h, σ.A, σ.df⟩) ⟨zP (bA l1) psl x, qA (aG (mI z)) x, A', []⟩)
  (hK : ∀ e z A', K e z A' → Q e (sg l1 ((d, .mark) :: mK e z) A' (.mark d :: df))) (hP : ∀ p z A', KP p z A' → Q (.panic p) (sg l1 ((d, .mark) :: mP p z) A' (.mark d :: df))) (hT : ∀ p z A', tail = some p → I xs.length z A' → Q (.panic p) (sg l1 ((d, .mark) :: mI z) A' (.mark d :: df))) (hI : ∀ z A', tail = none → I xs.length z A' → Q .normal (sg l1 ((d, .mark) :: mI z) A' (.mark d :: df)))
  (he : pan = true → e = true := by simp) : qR e C none (.rangeFunc o ps assign body) Q (sg l m A df) :=
 aG1 lim d id psl xs tail pan I mI K mK KP mP it hent hg hgb hob hn1 hn2 hl1 hm1 hps hlim hlim2 hpn hlen hd wI wK hshp wP h0 round hK hP hT hI he
end
section
open Go.Gh
structure aMM (c : Prop) : Prop where
 h : c := by (first | exact True.intro | omega | (simp only [inI]; omega) | (simp [P.size, bR, bF, bN, bB, cR, good, G.one, P.one, P.cells] <;> first | omega | assumption | simp_all))
def gV (ln : Str) : List Str := dF 32 (Lib.trimSuffix ln [10])
abbrev pls (s : Str) : List (List Y0) := (bQ s).map fun ln => [Y0.o [bT (gV ln)]]
theorem oG : ∀ (s : Str), ∀ l ∈ bQ s, l.length ≤ s.length
 | [], l, h => by simp [bQ] at h
 | b :: s, l, h => by
  rw [bQ] at h
  split at h
  ·rcases List.mem_cons.1 h with rfl | h
   ·simp
   ·have := oG s l h; rw [List.length_cons]; omega
  ·cases e : bQ s with
   | nil => rw [e] at h; simp only [List.mem_singleton] at h; subst h; simp
   | cons p ps =>
    rw [e] at h
    rcases List.mem_cons.1 h with rfl | h
    ·have := oG s p (by rw [e]; exact List.mem_cons_self ..); simp only [List.length_cons]; omega
    ·have := oG s l (by rw [e]; exact List.mem_cons_of_mem _ h); rw [List.length_cons]; omega
theorem aA2 (s p : Str) : (Lib.trimSuffix s p).length ≤ s.length := by
 unfold Lib.trimSuffix
 split
 ·rw [List.length_take]; omega
 ·exact Nat.le_refl _
theorem aFb {s ln : Str} {k : Nat} (h : (bQ s)[k]? = some ln) : (pls s)[k]? = some [Y0.o [bT (gV ln)]] := by rw [pls, List.getElem?_map, h]; rfl
theorem aKY {s : Str} {k : Nat} {x : List Y0} (h : (yls s)[k]? = some x) : ∃ ln, (bQ s)[k]? = some ln ∧ x = [Y0.p (.str ln)] := by
 rw [yls, List.getElem?_map] at h
 cases e : (bQ s)[k]? with
 | none => rw [e] at h; cases h
 | some ln => rw [e] at h; cases h; exact ⟨ln, rfl, rfl⟩
theorem aOc : aJ Tryz.prog 93 := aJ.mk Tryz.func93 (by kernel_rfl) rfl
theorem aI8 : aJ Tryz.prog 145 := aJ.mk Tryz.func145 (by kernel_rfl) rfl
theorem aMN : aJ Tryz.prog 147 := aJ.mk Tryz.func147 (by kernel_rfl) rfl
theorem yB : aJ Tryz.prog 144 := aJ.mk Tryz.func144 (by kernel_rfl) rfl
theorem aCU (s : Str) (h : s.length ≤ 100000) (hs : Lib.hasSuffix s [10] = true) :
  aAO Tryz.prog 144 [.abs, .ptr [.p (.str s)]] (pls s) none true := by
 intro E J Z ZP hcan hy A hA
 refine kW Tryz.func144 (rfl : Tryz.f144.body = some _) (Nat.le_of_ble_eq_true rfl) (fun id h => ?_) (fun j id h => ?_) ?_
 ·exact nD h
 ·exact nE h
 intro C hN hL
 replace hN : C.N = 18 := hN
 simp only [Gh.num, List.map_cons, List.map_nil, Nat.reduceAdd]
 repeat apply aX
 refine bO ?_
 apply aB
 refine n1 120 false (hc := aMM.h {}) ?_
 apply aC
 refine xcl [1, 2] ?_
 repeat apply aX
 refine bO ?_
 apply aB
 refine v0 ?_
 refine pc0 (spec := zD s [10] (by omega)) (hent := aI8) ?_
 refine rb 5 true (h := by (exact hs)) ?_
 refine pc0 (spec := bG _) (hent := bX) ?_
 apply aC
 refine xcl [1, 2] ?_
 repeat apply aX
 refine bO ?_
 apply aB
 refine v0 ?_
 refine oc0 [(110, 2000)] [] [0] none (spec := aKX s) (hent := aML) ?_
 apply aC
 refine xcl [2, 8] ?_
 repeat apply aX
 refine iN ?_
 repeat apply aX
 refine rfH 10000 99001 2000 [9] (fun k (_ : Unit) A1 => J k A1) (fun _ => [(120, .cells [.abs] 0)]) (fun e (_ : Unit) A1 => e = .ret ∧ Z A1) (fun _ _ => [(120, .cells [.abs] 0)]) (fun p (_ : Unit) A1 => ZP p A1) (fun _ _ => [(120, .cells [.abs] 0)]) [P.str s] (it := aI7 s h true) (hent := aMK) (hlen := fun x hx => by obtain ⟨w, _, rfl⟩ := List.mem_map.1 hx; rfl) (hshp := fun x hx => by obtain ⟨w, _, rfl⟩ := List.mem_map.1 hx; exact .inl ⟨[.str w], rfl⟩) (h0 := ?_) (round := fun k z A1 x hI hx lp bs C1 hN1 hL1 => ?_) (hK := fun e z A1 hK => ?_) (hP := fun p z A1 hP => ?_) (hT := fun p z A1 ht hT => ?_) (hI := fun z A1 ht hI => ?_)
 ·exact ⟨(), hA, rfl⟩
 ·obtain ⟨ln, hln, rfl⟩ := aKY hx
  have hll : ln.length ≤ 100000 := by have := oG s ln (List.mem_of_getElem? hln); omega
  have htl := aA2 ln [10]
  replace hN1 : C1.N = 18 := hN1.trans hN
  refine (?_ : gwp C1 (some lp) _ _ (sg ((9, .p (.str ln)) :: _) [(120, .cells [.abs] 0)] A1 []))
  repeat apply aA
  apply aB
  refine v0 ?_
  apply aC
  refine ⟨rfl, fun bs2 C2 hN2 hL2 hr2 => ?_⟩
  replace hN2 : C2.N = 18 := hN2.trans hN
  refine (?_ : gwp C2 (some lp) _ _ (sg _ _ _ []))
  repeat apply aA
  refine aP ?_
  repeat apply aA
  refine rd ?_
  refine d0 0 ?_
  refine d0 1 ?_
  refine oT 2 (spec := aCP ln [10] (by omega)) (hent := aOc) ?_
  refine oT 3 (spec := aKS (Lib.trimSuffix ln [10]) 32 (by omega)) (hent := aMN) ?_
  refine d0 4 ?_
  refine dn1 5 10250 false (hc := aMM.h {}) ?_
  refine dz 6 [0, 0, 2, 6, 14, 30, 63, 127] ?_
  refine aO8 6 [0, 0, 2, 6, 14, 30, 63, 127] 10250 [bT (gV ln)] (hcan := ?_) (k := fun b A3 hY => ?_) (kp := fun p A3 hY => ?_)
  ·exact hcan _ _ _ hI (aFb hln)
  ·have hy2 := hy _ _ _ _ _ hI (aFb hln) hY
   refine dst ?_
   refine d0 0 ?_
   refine dz 1 [0, 0, 2, 6, 14, 30, 63, 127] ?_
   refine de 8 ?_
   repeat apply aA
   refine cB (k1 := fun hb1 => ?_) (k0 := fun hb1 => ?_)
   ·replace hb1 := hB.h {} hb1
    repeat apply aA
    refine aL ?_
    repeat (first | refine aH ?_ | refine aF ?_ | refine aD ?_)
    obtain rfl : b = false := by simp_all
    exact ⟨sg [] [(120, .cells [.abs] 0)] A3 [], (), lc [120], rfl, rfl, hy2⟩
   ·replace hb1 := hB.h {} hb1
    repeat apply aA
    refine aR ?_
    repeat refine bW ?_
    obtain rfl : b = true := by simp_all
    exact ⟨sg [] [(120, .cells [.abs] 0)] A3 [], (), lc [120], rfl, hy2⟩
  ·have hy2 := hy _ _ _ _ _ hI (aFb hln) hY
   repeat (first | refine aO ?_ | refine aN ?_)
   exact ⟨rfl, (), ⟨fun _ => .inl rfl, fun j id hm => by simp only [aE, aI] at hm; split at hm <;> simp [Ob.men, G.mens, G.men] at hm⟩, hy2.2⟩
 ·obtain ⟨rfl, hz⟩ := hK
  repeat (first | refine aH ?_ | refine aF ?_)
  refine tE ?_
  try refine om (h3 := by simp [bM, dD, G.idl, G.idls, cL, aE, aI]) ?_
  refine cV ?_
  refine fp0 ?_
  exact .inl ⟨_, _, _, rfl, .inr hz⟩
 ·repeat (first | refine aO ?_ | refine aN ?_)
  refine bP ?_
  try refine om (h3 := by simp [bM, dD, G.idl, G.idls, cL, aE, aI]) ?_
  refine aBZ ?_
  exact .inr ⟨_, _, _, rfl, .inr hP⟩
 ·cases ht
 ·try refine bK ?_
  refine aDN ?_
  try refine om (h3 := by simp [bM, dD, G.idl, G.idls, cL, aE, aI]) ?_
  refine cV ?_
  refine fp0 ?_
  exact .inl ⟨_, _, _, rfl, .inl ⟨trivial, by simpa [pls, yls] using hI⟩⟩
theorem yC (s : Str) (h : s.length ≤ 100000) (hs : Lib.hasSuffix s [10] = false) :
  aAO Tryz.prog 144 [.abs, .ptr [.p (.str s)]] [] (some (.iface 218 (.agg [.int .i64 8]))) true := by
 intro E J Z ZP hcan hy A hA
 refine kW Tryz.func144 (rfl : Tryz.f144.body = some _) (Nat.le_of_ble_eq_true rfl) (fun id h => ?_) (fun j id h => ?_) ?_
 ·exact nD h
 ·exact nE h
 intro C hN hL
 replace hN : C.N = 18 := hN
 simp only [Gh.num, List.map_cons, List.map_nil, Nat.reduceAdd]
 repeat apply aX
 refine bO ?_
 apply aB
 refine n1 120 false (hc := aMM.h {}) ?_
 apply aC
 refine xcl [1, 2] ?_
 repeat apply aX
 refine bO ?_
 apply aB
 refine v0 ?_
 refine pc0 (spec := zD s [10] (by omega)) (hent := aI8) ?_
 refine rb 5 false (h := by (exact hs)) ?_
 refine pp0 (spec := dE _) (hent := bX) ?_
 repeat (first | refine aO ?_ | refine aN ?_)
 refine bP ?_
 refine aBZ ?_
 exact .inr ⟨_, _, _, rfl, .inl ⟨rfl, hA⟩⟩
end
section
open Go.Gh
open Go.RowKit
open Go.Shelf
theorem aKZ (b : Nat) (w : World) (h0 : w.cell? ⟨b, 0, none⟩ = some (.pointer (some ⟨b, 0, none⟩))) :
  Calls Tryz.prog 162 #[.pointer (some ⟨b, 0, none⟩)] w fun e w' => e = .returned (.tuple #[]) ∧ w' = w := by
 have hj : (Tryz.prog.info? 156).map (·.size) = some 2 := by kernel_rfl
 obtain ⟨j, hj, _⟩ := Option.map_eq_some_iff.1 hj
 have mixed : Tryz.prog.follows .mixedOrders = true := by kernel_rfl
 have u154 := run_underlying Tryz.underlying154
 go_enter Tryz.func162, Tryz.ntmps162
 go_wp2
 rw [Lib.run_neq_ptr_same w _ Tryz.underlying154 hj]
 go_wp2
 go_end0
 exact ⟨rfl, rfl⟩
theorem aI9 (b : Nat) (w : World) (h0 : w.cell? ⟨b, 0, none⟩ = some (.pointer none)) (hsh : w.shape? b = some (158, 2)) (hfz : w.frozen? ⟨b, 0, none⟩ = false) :
  Calls Tryz.prog 162 #[.pointer (some ⟨b, 0, none⟩)] w fun e w' => e = .returned (.tuple #[]) ∧ w' = w.setCell ⟨b, 0, none⟩ (.pointer (some ⟨b, 0, none⟩)) := by
 have hj : (Tryz.prog.info? 156).map (·.size) = some 2 := by kernel_rfl
 obtain ⟨j, hj, hjs⟩ := Option.map_eq_some_iff.1 hj
 have mixed : Tryz.prog.follows .mixedOrders = true := by kernel_rfl
 have u154 := run_underlying Tryz.underlying154
 go_enter Tryz.func162, Tryz.ntmps162
 go_wp2
 rw [Lib.run_to_unsafe w ⟨b, 0, none⟩ Tryz.underlying154 Tryz.underlying265 hj (by rw [hjs]; decide) hsh (Nat.zero_lt_succ 1)]
 simp only [Result.andThen]
 rw [Oper.upon_value]
 go_wp2
 rw [run_callFunc_extern Tryz.func174 (by kernel_rfl) (by kernel_rfl) (by kernel_rfl) (e := Extern.AbiNoEscape.same) (by kernel_rfl)]
 rw [Lib.run_noEscape]
 simp only [Result.andThen]
 rw [Oper.upon_value]
 go_wp2
 rw [Lib.run_from_unsafe w ⟨b, 0, none⟩ Tryz.underlying265 Tryz.underlying154 hj hsh (by kernel_rfl)]
 simp only [Result.andThen]
 rw [Oper.upon_value]
 go_wp2
 go_end0
 exact ⟨rfl, rfl⟩
theorem aK0 (b g cap : Nat) (p : Value) (e0 : TypeId) (cur : Array Value) (l : List UInt8) (w : World) (h0 : l ≠ []) (hbk : w.heap[b]? = some (.cells #[p, .slice (some ⟨g, 0, none⟩) l.length cap] e0 (0, 0)))
  (hg : w.heap[g]? = some (.cells cur 5 (0, 0))) (hn : l.length ≤ cur.size) (hcap : l.length ≤ cap) (hc : l.length ≤ maxLen) (hcell : ∀ (j : Nat) x, l[j]? = some x → w.cell? (({ block := g, off := 0 } : Addr).add j) = some (.int .u8 x.toNat)) :
  Calls Tryz.prog 94 #[.pointer (some ⟨b, 0, none⟩)] w fun e w' => e = .returned (.string ⟨l.toArray⟩) ∧ w' = w.drew.freeze ⟨g, 0, none⟩ l.length := by
 have hl0 : l.length ≠ 0 := by simpa using h0
 have c1 : w.drew.cell? ⟨b, 1, none⟩ = some (.slice (some ⟨g, 0, none⟩) l.length cap) := by
  have : w.drew.heap[b]? = some (.cells #[p, .slice (some ⟨g, 0, none⟩) l.length cap] e0 (0, 0)) := hbk
  rw [Lib.cell_of_heap this]; rfl
 have hSD : (Builtin.unsafeSliceData_ #[53] 225 #[.slice (some ⟨g, 0, none⟩) l.length cap]).run Tryz.prog w.drew = .ok (.pointer (some ⟨g, 0, none⟩)) w.drew :=
  Lib.run_unsafeSliceData_row _ _ _ _ _ _ (by omega)
 have hUS : (Builtin.unsafeString_ #[225, 3] 9 #[.pointer (some ⟨g, 0, none⟩), .int .i64 l.length]).run Tryz.prog w.drew = .ok (.string ⟨l.toArray⟩) (w.drew.freeze ⟨g, 0, none⟩ l.length) := by
  refine Lib.run_unsafeString_row w.drew 225 3 9 5 Tryz.underlying225 (by kernel_rfl) g cur.size (by have hg' : w.drew.heap[g]? = some (.cells cur 5 (0, 0)) := hg; simp [World.shape?, hg']) l h0 (by omega) (by unfold maxLen at hc; omega) ?_
  intro j x hx
  exact hcell j x hx
 have mixed : Tryz.prog.follows .mixedOrders = true := by kernel_rfl
 have u154 := run_underlying Tryz.underlying154
 go_enter Tryz.func94, Tryz.ntmps94
 go_wp2
 go_region_o
 all_goals (go_wp2; go_ret; exact ⟨rfl, rfl⟩)
end
section
open Go.Gh
variable {E : Env Tryz.prog} {A : E.α}
open Go.RowKit
theorem aMO : Gh.bE E 162 [.ref 0 0] (aG [(0, .tcells 158 [.p .nilptr, .nils])]) A (fun y => y = .ok (.p (.tuple [])) (aG [(0, .cells [.ref 0 0, .nils] 0)]) A) := by
 intro π ρ S w vs R hv
 simp only [aQ, aK] at hv
 obtain ⟨_, _, rfl, rfl, rfl⟩ := hv
 obtain ⟨ws, hw, hr, hone, hn⟩ := (show jZ π ρ E.yv w 0 (.tcells 158 [.p .nilptr, .nils]) from R.objs 0)
 simp only [aQ, aK, aS] at hr
 obtain ⟨_, _, rfl, rfl, _, _, rfl, rfl, rfl⟩ := hr
 refine (callsIn_wide.2 (aI9 (ρ 0).blk w (by simp [World.cell?, hw]) (by simp [World.shape?, hw]) (by simp [World.frozen?, hw]))).mono fun e w' ⟨he, hw'⟩ => ?_
 have hb : ∀ b, b ≠ (ρ 0).blk → (w.setCell ⟨(ρ 0).blk, 0, none⟩ (.pointer (some ⟨(ρ 0).blk, 0, none⟩))).heap[b]? = w.heap[b]? := fun b hb => Below.heap_setCell _ _ _ _ (fun e => hb (by simp [e]))
 have hrefl : upd ρ 0 (ρ 0) = ρ := by funext j; unfold upd; split <;> simp_all
 have U := R.turn (w' := w.setCell ⟨(ρ 0).blk, 0, none⟩ (.pointer (some ⟨(ρ 0).blk, 0, none⟩))) (π' := π) 0 (ρ 0) (.cells [.ref 0 0, .nils] 0) (by simp [World.setCell]) rfl rfl rfl
  (fun b _ hne => ⟨hb b fun e => hne (by simp [aE, bL, e]), rfl⟩) (PM.le_refl _) (fun b o v hv => by
   have hne : b ≠ (ρ 0).blk := fun e => by rw [e, hn o] at hv; cases hv
   have := R.know _ _ _ hv
   simpa [World.cell?, hb b hne] using this) (fun j _ _ => .inl rfl)
  (by
   rw [hrefl]
   refine ⟨[.pointer (some ⟨(ρ 0).blk, 0, none⟩), .slice none 0 0], 158, ?_, ?_, ?_, fun j u h => absurd h (Nat.not_lt_zero _), fun j _ => hn j⟩
   ·simp [World.setCell, Array.getElem?_modify, hw]
   ·simp only [aQ, aK]; exact ⟨_, _, rfl, rfl, _, _, rfl, rfl, rfl⟩
   ·intro c hc; simp only [List.mem_cons, List.not_mem_nil, or_false] at hc; rcases hc with rfl | rfl <;> rfl)
  (fun b hb => by rw [hrefl] at hb; exact .inl hb)
 rw [hrefl] at U
 have hhp : upd (aG [(0, (.tcells 158 [.p .nilptr, .nils] : Ob))]) 0 (.cells [.ref 0 0, .nils] 0) = aG [(0, .cells [.ref 0 0, .nils] 0)] := by
  funext j
  simp only [upd, aE, aI]
  split <;> rfl
 rw [hhp] at U
 obtain ⟨U1, U2⟩ := U
 subst hw' he
 refine ⟨π, ρ, _, A, S, .p (.tuple []), ⟨U1, U2, fun _ _ => .inl rfl, fun j id hm => ?_⟩, by simp only [aK, aS, aU]; exact ⟨_, rfl, rfl⟩, fun id hm => by simp [G.men] at hm, rfl⟩
 simp only [aE, aI] at hm ⊢
 split at hm
 ·simp [Ob.men, G.mens, G.men] at hm
  simp [hm]
 ·simp [Ob.men] at hm
theorem aJa (e sz n : Nat) (xs : List P) : Gh.bE E 162 [.ref 0 0] (aG [(0, .cells [.ref 0 0, .own 1 n] 0), (1, .arr e sz xs false)]) A (fun y => y = .ok (.p (.tuple [])) (aG [(0, .cells [.ref 0 0, .own 1 n] 0), (1, .arr e sz xs false)]) A) := by
 intro π ρ S w vs R hv
 simp only [aQ, aK] at hv
 obtain ⟨_, _, rfl, rfl, rfl⟩ := hv
 obtain ⟨ws, e, hw, hr, hone, hn⟩ := (show jZ π ρ E.yv w 0 (.cells [.ref 0 0, .own 1 n] 0) from R.objs 0)
 simp only [aQ, aK] at hr
 obtain ⟨_, _, rfl, rfl, _, _, rfl, _, rfl⟩ := hr
 refine (callsIn_wide.2 (aKZ (ρ 0).blk w (by simp [World.cell?, hw]))).mono fun e w' ⟨he, hw'⟩ => ?_
 subst hw' he
 refine ⟨π, ρ, _, A, S, .p (.tuple []), ⟨R, cG.refl _ _ _, fun _ _ => .inl rfl, fun j id hm => ?_⟩, by simp only [aK, aS, aU]; exact ⟨_, rfl, rfl⟩, fun id hm => by simp [G.men] at hm, rfl⟩
 simp only [aE, aI] at hm ⊢
 split at hm
 ·simp [Ob.men, G.mens, G.men] at hm
  rcases hm with rfl | rfl <;> simp
 ·split at hm <;> simp [Ob.men] at hm
theorem aD9 (l : List UInt8) : (u8s l).flatMap P.cells = u8s l := by
 unfold u8s
 induction l with
 | nil => rfl
 | cons b l ih => simp only [List.map_cons, List.flatMap_cons, ih]; rfl
theorem aB7 {π : PM} : ∀ {l : List UInt8} {cs : List Value}, aU π (u8s l) cs → cs = l.map fun b => Value.int .u8 (b.toNat : Int)
 | [], cs, h => by simpa only [u8s, List.map_nil, aU] using h
 | b :: l, cs, h => by
  simp only [u8s, List.map_cons, aU, aS] at h
  obtain ⟨_, vs, rfl, rfl, h⟩ := h
  rw [List.map_cons, aB7 (l := l) h]
theorem aA3 (l : List UInt8) (hl : l ≠ []) : Gh.bE E 94 [.ref 0 0] (aG [(0, .cells [.ref 0 0, .own 1 l.length] 0), (1, .arr 5 1 (u8s l) false)]) A (fun y => y = .ok (.p (.str l)) (aG [(0, .gone), (1, .gone)]) A) := by
 intro π ρ S w vs R hv
 simp only [aQ, aK] at hv
 obtain ⟨_, _, rfl, rfl, rfl⟩ := hv
 obtain ⟨ws, e, hw, hr, hone, hn⟩ := (show jZ π ρ E.yv w 0 (.cells [.ref 0 0, .own 1 l.length] 0) from R.objs 0)
 obtain ⟨cs, ho, hlen, hp, _, _, hfz⟩ := (show jZ π ρ E.yv w 1 (.arr 5 1 (u8s l) false) from R.objs 1)
 have hul : (u8s l).length = l.length := by simp [u8s]
 rw [hul] at hlen
 simp only [aQ, aK] at hr
 obtain ⟨_, _, rfl, rfl, v1, _, rfl, ⟨_, hv1⟩, rfl⟩ := hr
 have hv1 := hv1 hlen
 subst hv1
 rw [aD9] at hp
 have hcs := aB7 hp
 have hl0 : l.length ≠ 0 := by simpa using hl
 rcases ho with ⟨h0, _⟩ | ⟨hown, b1, hb1⟩
 ·exfalso; apply hl0; rw [← hul, h0]; rfl
 rw [hul] at hown
 obtain ⟨g, cap, cur, hgv, hg0, hg, hnc, hcm, hcz, htake⟩ : ∃ g cap cur, (ρ 1).v = .slice (some ⟨g, 0, none⟩) l.length cap ∧ 0 ≤ g ∧ w.heap[g]? = some (.cells cur 5 (0, 0)) ∧ l.length ≤ cap ∧ cap ≤ maxLen ∧ cur.size = cap * 1 ∧ cur.toList.take (l.length * 1) = cs := by
  rcases hown.2 with ⟨_, hz⟩ | ⟨g, cap, cur, hv, r⟩
  ·exact absurd hz hl0
  ·exact ⟨g, cap, cur, hv, r⟩
 have hcb : cP (ρ 1).v = some g := by
  obtain ⟨c', hc'⟩ : ∃ c', cap = c' + 1 := ⟨cap - 1, by omega⟩
  rw [hgv, hc']; rfl
 rw [hgv] at hw
 refine (callsIn_wide.2 (aK0 (ρ 0).blk g cap (.pointer (some ⟨(ρ 0).blk, 0, none⟩)) e cur l w hl hw hg (by omega) hnc (by omega) (fun j x hx => ?_))).mono fun e w' ⟨he, hw'⟩ => ?_
 ·exact hown.cells (g := g) (jD hcb) j (.int .u8 x.toNat) (by rw [hcs, List.getElem?_map, hx]; rfl)
 have hb : ∀ b, b ≠ g → w'.heap[b]? = w.heap[b]? := fun b hb => by
  rw [hw']
  unfold World.freeze
  rw [if_neg hl0]
  show (w.heap.modify g _)[b]? = _
  rw [Array.getElem?_modify, if_neg (fun e => hb e.symm)]
 have hcell : ∀ b o, w'.cell? ⟨b, o, none⟩ = w.cell? ⟨b, o, none⟩ := fun b o => by
  by_cases e : b = g
  ·subst e
   have : w'.heap[b]? = some (.cells cur 5 (0, 0 + l.length)) := by
    rw [hw']
    unfold World.freeze
    rw [if_neg hl0]
    show (w.heap.modify b _)[b]? = _
    rw [Array.getElem?_modify, if_pos rfl, hg]
    simp
   simp [World.cell?, this, hg]
  ·simp only [World.cell?, hb b e]
 have hsz : w'.heap.size = w.heap.size := by
  rw [hw']; unfold World.freeze; rw [if_neg hl0]; show (w.heap.modify g _).size = _; simp
 have hr0 : ∀ k, upd ρ k (ρ k) = ρ := fun k => by funext j; unfold upd; split <;> simp_all
 have e1 : w'.os = w.os := by rw [hw']; unfold World.freeze; rw [if_neg hl0]; rfl
 have e2 : w'.tape = w.tape := by rw [hw']; unfold World.freeze; rw [if_neg hl0]; rfl
 have e3 : w'.output = w.output := by rw [hw']; unfold World.freeze; rw [if_neg hl0]; rfl
 have U := R.turn (w' := w') (π' := π) 1 (ρ 1) .gone (by omega) e1 e2 e3
  (fun b _ hne => ⟨hb b fun e => hne (by simp [aE, bL, hcb, e]), rfl⟩) (PM.le_refl _) (fun b o v hv => by rw [hcell]; exact R.know _ _ _ hv) (fun j _ _ => .inl rfl)
  (by trivial) (fun b hb => by simp [bL] at hb)
 rw [hr0] at U
 obtain ⟨U1, U2⟩ := U
 have V := U1.turn (w' := w') (π' := π) 0 (ρ 0) .gone (Nat.le_refl _) rfl rfl rfl (fun b _ _ => ⟨rfl, rfl⟩) (PM.le_refl _) U1.know (fun j _ _ => .inl rfl) (by trivial) (fun b hb => by simp [bL] at hb)
 rw [hr0] at V
 obtain ⟨V1, V2⟩ := V
 have hhp : upd (upd (aG [(0, (.cells [.ref 0 0, .own 1 l.length] 0 : Ob)), (1, .arr 5 1 (u8s l) false)]) 1 .gone) 0 .gone = aG [(0, .gone), (1, .gone)] := by
  funext j
  simp only [upd, aE, aI]
  split
  ·rfl
  ·by_cases h1 : j = 1
   ·simp [h1]
   ·simp [h1]
 rw [hhp] at V1 V2
 subst he
 refine ⟨π, ρ, _, A, S, .p (.str l), ⟨V1, U2.trans V2, fun _ _ => .inl rfl, fun j id hm => ?_⟩, by simp only [aK, aS], fun id hm => by simp [G.men] at hm, rfl⟩
 simp only [aE, aI] at hm
 split at hm
 ·simp [Ob.men] at hm
 ·split at hm <;> simp [Ob.men] at hm
end
section
open Go.Gh
variable {E : Env Tryz.prog} {A : E.α}
structure aFc (c : Prop) : Prop where
 h : c := by (first | exact True.intro | omega | (simp only [inI]; omega) | (have := dQ; simp [P.size, bU] <;> first | omega | exact this _ | exact ⟨this _, by omega⟩ | grind))
theorem bU (l : List UInt8) : (u8s l).length = l.length := by simp [u8s]
theorem dQ (l : List UInt8) : ∀ x ∈ u8s l, x.size = 1 := by intro x hx; obtain ⟨b, _, rfl⟩ := List.mem_map.1 hx; rfl
theorem aFd : aJ Tryz.prog 162 := aJ.mk Tryz.func162 (by kernel_rfl) rfl
theorem iP : aJ Tryz.prog 136 := aJ.mk Tryz.func136 (by kernel_rfl) rfl
theorem aFe (s : List UInt8) (h : s.length ≤ 1000000) : Gh.bE E 136 [.ref 0 0, .p (.str s)] (aG [(0, .tcells 158 [.p .nilptr, .nils])]) A (fun y => y = .ok (.p (.tuple [.int .i64 (s.length : Nat), .niliface])) (aG [(0, .cells [.ref 0 0, .own 240 (s).length] 0), (240, .arr 5 1 (u8s (s)) false)]) A) := by
 refine spX 19 Tryz.func136 rfl ?_
 intro C hN hL
 simp only [Gh.num, List.map_cons, List.map_nil, Nat.reduceAdd]
 repeat apply aA
 apply aB
 iterate 2 refine v0 ?_
 apply aC
 refine cl [0, 1] ?_
 repeat apply aA
 apply aB
 refine v0 ?_
 refine oc0 [(0, 0)] [] [0] none (spec := aMO) (hent := aFd) ?_
 apply aC
 refine cl [0, 1] ?_
 repeat apply aA
 apply aB
 iterate 6 refine v0 ?_
 refine n1 240 true (hc := aFc.h {}) ?_
 iterate 2 refine v0 ?_
 refine s1 (hc := aFc.h {}) ?_
 apply aC
 refine cl [0, 1] ?_
 repeat apply aA
 apply aB
 iterate 4 refine v0 ?_
 apply aC
 repeat apply aA
 refine aL ?_
 repeat (first | refine aH ?_ | refine aF ?_ | refine aD ?_)
 refine aM ?_
 refine fh2 [0, 240] ?_
 simp [u8s]
theorem mU (l s : List UInt8) (h : l.length ≤ 1000000) (h2 : s.length ≤ 1000000) : Gh.bE E 136 [.ref 0 0, .p (.str s)] (aG [(0, .cells [.ref 0 0, .own 1 (l).length] 0), (1, .arr 5 1 (u8s (l)) false)]) A (fun y => y = .ok (.p (.tuple [.int .i64 (s.length : Nat), .niliface])) (aG [(0, .cells [.ref 0 0, .own 1 (l ++ s).length] 0), (1, .arr 5 1 (u8s (l ++ s)) false)]) A) := by
 refine spX 19 Tryz.func136 rfl ?_
 intro C hN hL
 simp only [Gh.num, List.map_cons, List.map_nil, Nat.reduceAdd]
 repeat apply aA
 apply aB
 iterate 2 refine v0 ?_
 apply aC
 refine cl [0, 1] ?_
 repeat apply aA
 apply aB
 refine v0 ?_
 refine oc0 [(0, 0), (1, 1)] [] [0] none (spec := aJa 5 1 l.length (u8s l)) (hent := aFd) ?_
 apply aC
 refine cl [0, 1] ?_
 repeat apply aA
 apply aB
 iterate 6 refine v0 ?_
 refine n1 240 true (hc := aFc.h {}) ?_
 iterate 2 refine v0 ?_
 refine s1 (hc := aFc.h {}) ?_
 apply aC
 refine cl [0, 1] ?_
 repeat apply aA
 apply aB
 iterate 4 refine v0 ?_
 apply aC
 repeat apply aA
 refine aL ?_
 repeat (first | refine aH ?_ | refine aF ?_ | refine aD ?_)
 refine aM ?_
 refine fh2 [0, 1] ?_
 simp [u8s]
theorem tJ : aJ Tryz.prog 135 := aJ.mk Tryz.func135 (by kernel_rfl) rfl
theorem tK (l : List UInt8) (c : UInt8) (h : l.length ≤ 1000000) : Gh.bE E 135 [.ref 0 0, .p (.int .u8 c.toNat)] (aG [(0, .cells [.ref 0 0, .own 1 (l).length] 0), (1, .arr 5 1 (u8s (l)) false)]) A (fun y => y = .ok (.p .niliface) (aG [(0, .cells [.ref 0 0, .own 1 (l ++ [c]).length] 0), (1, .arr 5 1 (u8s (l ++ [c])) false)]) A) := by
 refine spX 17 Tryz.func135 rfl ?_
 intro C hN hL
 simp only [Gh.num, List.map_cons, List.map_nil, Nat.reduceAdd]
 repeat apply aA
 apply aB
 refine v0 ?_
 apply aC
 refine cl [0, 1] ?_
 repeat apply aA
 apply aB
 refine v0 ?_
 refine oc0 [(0, 0), (1, 1)] [] [0] none (spec := aJa 5 1 l.length (u8s l)) (hent := aFd) ?_
 apply aC
 refine cl [0, 1] ?_
 repeat apply aA
 apply aB
 iterate 6 refine v0 ?_
 refine n1 230 false (hc := aFc.h {}) ?_
 refine n1 240 true (hc := aFc.h {}) ?_
 iterate 2 refine v0 ?_
 refine s1 (hc := aFc.h {}) ?_
 apply aC
 refine cl [0] ?_
 repeat apply aA
 apply aB
 refine v0 ?_
 apply aC
 repeat apply aA
 refine aL ?_
 repeat (first | refine aH ?_ | refine aF ?_ | refine aD ?_)
 refine aM ?_
 refine fh [0, 1] ?_
 simp [u8s]
end
end Go.Proofs.YtecmhhpccmaeiaaGreatDoor
