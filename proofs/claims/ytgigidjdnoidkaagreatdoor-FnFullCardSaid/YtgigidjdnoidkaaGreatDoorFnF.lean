/- Part 6 of the proof that laws.FnFull answers true at every input and leaves it as it was: an own small semantics of the translated code, contracts of the functions, the plain law. No condition. -/
import Derived.Ground.Names8Prog
import Derived.Ground.NamesProg
import Derived.KernelRfl
import Derived.Shelf.SlGeneric
import Derived.Shelf.Spec.SlicesGrow
import Derived.Shelf.Strconv.Atoi
import Derived.Shelf.Strconv.Itoa3
import Derived.Shelf.Strings.Repeat
import Derived.Shelf.Strings.Trim
import Derived.Test.YtgigidjdnoidkaaGreatDoorFnE
set_option linter.unusedVariables false
set_option linter.unusedSimpArgs false
set_option linter.unnecessarySimpa false
namespace Go.Proofs
open Go.Shelf
def Tryz.layItoa_ren : Go.Shelf.Ren := ⟨fun | 171 => 62 | 243 => 118 | 246 => 167 | 283 => 196 | 284 => 197 | 285 => 198 | 286 => 199 | 129 => 220 | 317 => 219 | 318 => 221 | 319 => 222 | 320 => 223 | 337 => 233 | 338 => 234 | n => n, fun | 3 => 3 | 9 => 9 | 2 => 2 | 4 => 4 | 171 => 232 | 0 => 0 | 53 => 209 | 37 => 22 | 5 => 5 | 173 => 235 | 212 => 256 | 51 => 206 | 20 => 20 | 213 => 257 | 46 => 122 | 232 => 275 | 233 => 276 | n => n, fun | 17 => 0 | 18 => 4 | 19 => 5 | n => n⟩
theorem Tryz.layItoa : Go.Proofs.Lays.n171 Tryz.prog Tryz.layItoa_ren := {
  mixed := by kernel_rfl
  f129 := Tryz.func220.trans (congrArg some (by kernel_rfl))
  f171 := Tryz.func62.trans (congrArg some (by kernel_rfl))
  f243 := Tryz.func118.trans (congrArg some (by kernel_rfl))
  f246 := Tryz.func167.trans (congrArg some (by kernel_rfl))
  f283 := Tryz.func196.trans (congrArg some (by kernel_rfl))
  f284 := Tryz.func197.trans (congrArg some (by kernel_rfl))
  f285 := Tryz.func198.trans (congrArg some (by kernel_rfl))
  f286 := Tryz.func199.trans (congrArg some (by kernel_rfl))
  f317 := Tryz.func219.trans (congrArg some (by kernel_rfl))
  f318 := Tryz.func221.trans (congrArg some (by kernel_rfl))
  f319 := Tryz.func222.trans (congrArg some (by kernel_rfl))
  f320 := Tryz.func223.trans (congrArg some (by kernel_rfl))
  f337 := Tryz.func233.trans (congrArg some (by kernel_rfl))
  f338 := Tryz.func234.trans (congrArg some (by kernel_rfl))
  t0 := Tryz.underlying0
  a0 := Tryz.isAgg0
  z0 := Tryz.sizeOf0
  v0 := Tryz.zeroValue0
  t2 := Tryz.underlying2
  a2 := Tryz.isAgg2
  z2 := Tryz.sizeOf2
  v2 := Tryz.zeroValue2
  t3 := Tryz.underlying3
  a3 := Tryz.isAgg3
  z3 := Tryz.sizeOf3
  v3 := Tryz.zeroValue3
  t4 := Tryz.underlying4
  a4 := Tryz.isAgg4
  z4 := Tryz.sizeOf4
  v4 := Tryz.zeroValue4
  t5 := Tryz.underlying5
  a5 := Tryz.isAgg5
  z5 := Tryz.sizeOf5
  v5 := Tryz.zeroValue5
  t9 := Tryz.underlying9
  a9 := Tryz.isAgg9
  z9 := Tryz.sizeOf9
  v9 := Tryz.zeroValue9
  t20 := Tryz.underlying20
  a20 := Tryz.isAgg20
  z20 := Tryz.sizeOf20
  v20 := Tryz.zeroValue20
  t37 := Tryz.underlying22
  a37 := Tryz.isAgg22
  z37 := Tryz.sizeOf22
  v37 := Tryz.zeroValue22
  t46 := Tryz.underlying122
  a46 := Tryz.isAgg122
  z46 := Tryz.sizeOf122
  v46 := Tryz.zeroValue122
  t51 := Tryz.underlying206
  a51 := Tryz.isAgg206
  z51 := Tryz.sizeOf206
  v51 := Tryz.zeroValue206
  t53 := Tryz.underlying209
  a53 := Tryz.isAgg209
  z53 := Tryz.sizeOf209
  v53 := Tryz.zeroValue209
  t171 := Tryz.underlying232
  a171 := Tryz.isAgg232
  z171 := Tryz.sizeOf232
  v171 := Tryz.zeroValue232
  t173 := Tryz.underlying235
  a173 := Tryz.isAgg235
  z173 := Tryz.sizeOf235
  v173 := Tryz.zeroValue235
  t212 := Tryz.underlying256
  a212 := Tryz.isAgg256
  z212 := Tryz.sizeOf256
  v212 := Tryz.zeroValue256
  t213 := Tryz.underlying257
  a213 := Tryz.isAgg257
  z213 := Tryz.sizeOf257
  t232 := Tryz.underlying275
  a232 := Tryz.isAgg275
  z232 := Tryz.sizeOf275
  v232 := Tryz.zeroValue275
  t233 := Tryz.underlying276
  a233 := Tryz.isAgg276
  z233 := Tryz.sizeOf276
  v233 := Tryz.zeroValue276
  g17 := by kernel_rfl
  g18 := by kernel_rfl
  g19 := by kernel_rfl }
def Tryz.layAtoi_ren : Go.Shelf.Ren := ⟨fun | 172 => 136 | 244 => 177 | 245 => 178 | 247 => 203 | 279 => 204 | 280 => 205 | 281 => 206 | 282 => 207 | 287 => 224 | 316 => 225 | 171 => 62 | 205 => 226 | 321 => 235 | 322 => 236 | 243 => 118 | 246 => 167 | 283 => 196 | 284 => 197 | 285 => 198 | 286 => 199 | 129 => 220 | 317 => 219 | 318 => 221 | 319 => 222 | 320 => 223 | 337 => 233 | 338 => 234 | n => n, fun | 9 => 9 | 3 => 3 | 75 => 171 | 76 => 172 | 4 => 4 | 5 => 5 | 167 => 242 | 37 => 22 | 0 => 0 | 85 => 243 | 2 => 2 | 168 => 245 | 53 => 209 | 175 => 259 | 46 => 122 | 210 => 262 | 127 => 212 | 145 => 270 | 143 => 268 | 21 => 21 | 171 => 232 | 173 => 235 | 212 => 256 | 51 => 206 | 20 => 20 | 213 => 257 | 232 => 275 | 233 => 276 | 80 => 175 | n => n, fun | 15 => 2 | 16 => 3 | 17 => 0 | 18 => 4 | 19 => 5 | n => n⟩
theorem Tryz.layAtoi : Go.Proofs.Lays.n172 Tryz.prog Tryz.layAtoi_ren := {
  mixed := by kernel_rfl
  f129 := Tryz.func220.trans (congrArg some (by kernel_rfl))
  f171 := Tryz.func62.trans (congrArg some (by kernel_rfl))
  f172 := Tryz.func136.trans (congrArg some (by kernel_rfl))
  f205 := Tryz.func226.trans (congrArg some (by kernel_rfl))
  f243 := Tryz.func118.trans (congrArg some (by kernel_rfl))
  f244 := Tryz.func177.trans (congrArg some (by kernel_rfl))
  f245 := Tryz.func178.trans (congrArg some (by kernel_rfl))
  f246 := Tryz.func167.trans (congrArg some (by kernel_rfl))
  f247 := Tryz.func203.trans (congrArg some (by kernel_rfl))
  f279 := Tryz.func204.trans (congrArg some (by kernel_rfl))
  f280 := Tryz.func205.trans (congrArg some (by kernel_rfl))
  f281 := Tryz.func206.trans (congrArg some (by kernel_rfl))
  f282 := Tryz.func207.trans (congrArg some (by kernel_rfl))
  f283 := Tryz.func196.trans (congrArg some (by kernel_rfl))
  f284 := Tryz.func197.trans (congrArg some (by kernel_rfl))
  f285 := Tryz.func198.trans (congrArg some (by kernel_rfl))
  f286 := Tryz.func199.trans (congrArg some (by kernel_rfl))
  f287 := Tryz.func224.trans (congrArg some (by kernel_rfl))
  f316 := Tryz.func225.trans (congrArg some (by kernel_rfl))
  f317 := Tryz.func219.trans (congrArg some (by kernel_rfl))
  f318 := Tryz.func221.trans (congrArg some (by kernel_rfl))
  f319 := Tryz.func222.trans (congrArg some (by kernel_rfl))
  f320 := Tryz.func223.trans (congrArg some (by kernel_rfl))
  f321 := Tryz.func235.trans (congrArg some (by kernel_rfl))
  f322 := Tryz.func236.trans (congrArg some (by kernel_rfl))
  f337 := Tryz.func233.trans (congrArg some (by kernel_rfl))
  f338 := Tryz.func234.trans (congrArg some (by kernel_rfl))
  t0 := Tryz.underlying0
  a0 := Tryz.isAgg0
  z0 := Tryz.sizeOf0
  v0 := Tryz.zeroValue0
  t2 := Tryz.underlying2
  a2 := Tryz.isAgg2
  z2 := Tryz.sizeOf2
  v2 := Tryz.zeroValue2
  t3 := Tryz.underlying3
  a3 := Tryz.isAgg3
  z3 := Tryz.sizeOf3
  v3 := Tryz.zeroValue3
  t4 := Tryz.underlying4
  a4 := Tryz.isAgg4
  z4 := Tryz.sizeOf4
  v4 := Tryz.zeroValue4
  t5 := Tryz.underlying5
  a5 := Tryz.isAgg5
  z5 := Tryz.sizeOf5
  v5 := Tryz.zeroValue5
  t9 := Tryz.underlying9
  a9 := Tryz.isAgg9
  z9 := Tryz.sizeOf9
  v9 := Tryz.zeroValue9
  t20 := Tryz.underlying20
  a20 := Tryz.isAgg20
  z20 := Tryz.sizeOf20
  v20 := Tryz.zeroValue20
  t21 := Tryz.underlying21
  a21 := Tryz.isAgg21
  z21 := Tryz.sizeOf21
  v21 := Tryz.zeroValue21
  t37 := Tryz.underlying22
  a37 := Tryz.isAgg22
  z37 := Tryz.sizeOf22
  v37 := Tryz.zeroValue22
  t46 := Tryz.underlying122
  a46 := Tryz.isAgg122
  z46 := Tryz.sizeOf122
  v46 := Tryz.zeroValue122
  t51 := Tryz.underlying206
  a51 := Tryz.isAgg206
  z51 := Tryz.sizeOf206
  v51 := Tryz.zeroValue206
  t53 := Tryz.underlying209
  a53 := Tryz.isAgg209
  z53 := Tryz.sizeOf209
  v53 := Tryz.zeroValue209
  t75 := Tryz.underlying171
  a75 := Tryz.isAgg171
  z75 := Tryz.sizeOf171
  v75 := Tryz.zeroValue171
  t76 := Tryz.underlying172
  a76 := Tryz.isAgg172
  z76 := Tryz.sizeOf172
  v76 := Tryz.zeroValue172
  t85 := Tryz.underlying243
  a85 := Tryz.isAgg243
  z85 := Tryz.sizeOf243
  v85 := Tryz.zeroValue243
  t127 := Tryz.underlying212
  a127 := Tryz.isAgg212
  z127 := Tryz.sizeOf212
  v127 := Tryz.zeroValue212
  t143 := Tryz.underlying268
  a143 := Tryz.isAgg268
  z143 := Tryz.sizeOf268
  v143 := Tryz.zeroValue268
  t145 := Tryz.underlying270
  a145 := Tryz.isAgg270
  z145 := Tryz.sizeOf270
  v145 := Tryz.zeroValue270
  t167 := Tryz.underlying242
  a167 := Tryz.isAgg242
  z167 := Tryz.sizeOf242
  v167 := Tryz.zeroValue242
  t168 := Tryz.underlying245
  a168 := Tryz.isAgg245
  z168 := Tryz.sizeOf245
  v168 := Tryz.zeroValue245
  t171 := Tryz.underlying232
  a171 := Tryz.isAgg232
  z171 := Tryz.sizeOf232
  v171 := Tryz.zeroValue232
  t173 := Tryz.underlying235
  a173 := Tryz.isAgg235
  z173 := Tryz.sizeOf235
  v173 := Tryz.zeroValue235
  t175 := Tryz.underlying259
  a175 := Tryz.isAgg259
  z175 := Tryz.sizeOf259
  v175 := Tryz.zeroValue259
  t210 := Tryz.underlying262
  a210 := Tryz.isAgg262
  z210 := Tryz.sizeOf262
  v210 := Tryz.zeroValue262
  t212 := Tryz.underlying256
  a212 := Tryz.isAgg256
  z212 := Tryz.sizeOf256
  v212 := Tryz.zeroValue256
  t213 := Tryz.underlying257
  a213 := Tryz.isAgg257
  z213 := Tryz.sizeOf257
  t232 := Tryz.underlying275
  a232 := Tryz.isAgg275
  z232 := Tryz.sizeOf275
  v232 := Tryz.zeroValue275
  t233 := Tryz.underlying276
  a233 := Tryz.isAgg276
  z233 := Tryz.sizeOf276
  v233 := Tryz.zeroValue276
  g15 := by kernel_rfl
  g16 := by kernel_rfl
  g17 := by kernel_rfl
  g18 := by kernel_rfl
  g19 := by kernel_rfl }
def Tryz.layRepeat_ren : Go.Shelf.Ren := ⟨fun | 105 => 63 | 212 => 119 | 99 => 120 | 165 => 121 | 166 => 122 | 170 => 123 | 169 => 124 | 263 => 168 | 264 => 169 | 206 => 170 | 240 => 171 | 241 => 172 | 276 => 200 | 277 => 201 | n => n, fun | 9 => 9 | 3 => 3 | 4 => 4 | 20 => 20 | 0 => 0 | 46 => 122 | 109 => 163 | 5 => 5 | 72 => 168 | 76 => 172 | 51 => 206 | 146 => 207 | 53 => 209 | 148 => 210 | 70 => 166 | 37 => 22 | 75 => 171 | 127 => 212 | 164 => 237 | 80 => 175 | n => n, fun | n => n⟩
theorem Tryz.layRepeat : Go.Proofs.Lays.n105 Tryz.prog Tryz.layRepeat_ren := {
  mixed := by kernel_rfl
  f99 := Tryz.func120.trans (congrArg some (by kernel_rfl))
  f105 := Tryz.func63.trans (congrArg some (by kernel_rfl))
  f165 := Tryz.func121.trans (congrArg some (by kernel_rfl))
  f166 := Tryz.func122.trans (congrArg some (by kernel_rfl))
  f169 := Tryz.func124.trans (congrArg some (by kernel_rfl))
  f170 := Tryz.func123.trans (congrArg some (by kernel_rfl))
  f206 := Tryz.func170.trans (congrArg some (by kernel_rfl))
  f212 := Tryz.func119.trans (congrArg some (by kernel_rfl))
  f240 := Tryz.func171.trans (congrArg some (by kernel_rfl))
  f241 := Tryz.func172.trans (congrArg some (by kernel_rfl))
  f263 := Tryz.func168.trans (congrArg some (by kernel_rfl))
  f264 := Tryz.func169.trans (congrArg some (by kernel_rfl))
  f276 := Tryz.func200.trans (congrArg some (by kernel_rfl))
  f277 := Tryz.func201.trans (congrArg some (by kernel_rfl))
  t0 := Tryz.underlying0
  a0 := Tryz.isAgg0
  z0 := Tryz.sizeOf0
  v0 := Tryz.zeroValue0
  t3 := Tryz.underlying3
  a3 := Tryz.isAgg3
  z3 := Tryz.sizeOf3
  v3 := Tryz.zeroValue3
  t4 := Tryz.underlying4
  a4 := Tryz.isAgg4
  z4 := Tryz.sizeOf4
  v4 := Tryz.zeroValue4
  t5 := Tryz.underlying5
  a5 := Tryz.isAgg5
  z5 := Tryz.sizeOf5
  v5 := Tryz.zeroValue5
  t9 := Tryz.underlying9
  a9 := Tryz.isAgg9
  z9 := Tryz.sizeOf9
  v9 := Tryz.zeroValue9
  t20 := Tryz.underlying20
  a20 := Tryz.isAgg20
  z20 := Tryz.sizeOf20
  v20 := Tryz.zeroValue20
  t37 := Tryz.underlying22
  a37 := Tryz.isAgg22
  z37 := Tryz.sizeOf22
  v37 := Tryz.zeroValue22
  t46 := Tryz.underlying122
  a46 := Tryz.isAgg122
  z46 := Tryz.sizeOf122
  v46 := Tryz.zeroValue122
  t51 := Tryz.underlying206
  a51 := Tryz.isAgg206
  z51 := Tryz.sizeOf206
  v51 := Tryz.zeroValue206
  t53 := Tryz.underlying209
  a53 := Tryz.isAgg209
  z53 := Tryz.sizeOf209
  v53 := Tryz.zeroValue209
  t70 := Tryz.underlying166
  a70 := Tryz.isAgg166
  z70 := Tryz.sizeOf166
  v70 := Tryz.zeroValue166
  t72 := Tryz.underlying168
  a72 := Tryz.isAgg168
  z72 := Tryz.sizeOf168
  v72 := Tryz.zeroValue168
  t75 := Tryz.underlying171
  a75 := Tryz.isAgg171
  z75 := Tryz.sizeOf171
  v75 := Tryz.zeroValue171
  t76 := Tryz.underlying172
  a76 := Tryz.isAgg172
  z76 := Tryz.sizeOf172
  v76 := Tryz.zeroValue172
  t109 := Tryz.underlying163
  a109 := Tryz.isAgg163
  z109 := Tryz.sizeOf163
  v109 := Tryz.zeroValue163
  t127 := Tryz.underlying212
  a127 := Tryz.isAgg212
  z127 := Tryz.sizeOf212
  v127 := Tryz.zeroValue212
  t146 := Tryz.underlying207
  a146 := Tryz.isAgg207
  z146 := Tryz.sizeOf207
  v146 := Tryz.zeroValue207
  t148 := Tryz.underlying210
  a148 := Tryz.isAgg210
  z148 := Tryz.sizeOf210
  v148 := Tryz.zeroValue210
  t164 := Tryz.underlying237
  a164 := Tryz.isAgg237
  z164 := Tryz.sizeOf237
  v164 := Tryz.zeroValue237 }
def Tryz.layTrim_ren : Go.Shelf.Ren := ⟨fun | 162 => 137 | 232 => 179 | 227 => 180 | 234 => 181 | 236 => 182 | 228 => 208 | 271 => 209 | 151 => 210 | 120 => 227 | 197 => 228 | 152 => 229 | 260 => 237 | 137 => 238 | 119 => 239 | 224 => 240 | 225 => 241 | 217 => 243 | 266 => 244 | n => n, fun | 9 => 9 | 4 => 4 | 3 => 3 | 5 => 5 | 117 => 222 | 116 => 221 | 0 => 0 | 124 => 225 | 21 => 21 | 105 => 249 | 46 => 122 | 119 => 277 | 139 => 280 | 138 => 279 | n => n, fun | 3 => 6 | 4 => 7 | n => n⟩
theorem Tryz.layTrim : Go.Proofs.Lays.n162 Tryz.prog Tryz.layTrim_ren := {
  mixed := by kernel_rfl
  f119 := Tryz.func239.trans (congrArg some (by kernel_rfl))
  f120 := Tryz.func227.trans (congrArg some (by kernel_rfl))
  f137 := Tryz.func238.trans (congrArg some (by kernel_rfl))
  f151 := Tryz.func210.trans (congrArg some (by kernel_rfl))
  f152 := Tryz.func229.trans (congrArg some (by kernel_rfl))
  f162 := Tryz.func137.trans (congrArg some (by kernel_rfl))
  f197 := Tryz.func228.trans (congrArg some (by kernel_rfl))
  f217 := Tryz.func243.trans (congrArg some (by kernel_rfl))
  f224 := Tryz.func240.trans (congrArg some (by kernel_rfl))
  f225 := Tryz.func241.trans (congrArg some (by kernel_rfl))
  f227 := Tryz.func180.trans (congrArg some (by kernel_rfl))
  f228 := Tryz.func208.trans (congrArg some (by kernel_rfl))
  f232 := Tryz.func179.trans (congrArg some (by kernel_rfl))
  f234 := Tryz.func181.trans (congrArg some (by kernel_rfl))
  f236 := Tryz.func182.trans (congrArg some (by kernel_rfl))
  f260 := Tryz.func237.trans (congrArg some (by kernel_rfl))
  f266 := Tryz.func244.trans (congrArg some (by kernel_rfl))
  f271 := Tryz.func209.trans (congrArg some (by kernel_rfl))
  t0 := Tryz.underlying0
  a0 := Tryz.isAgg0
  z0 := Tryz.sizeOf0
  v0 := Tryz.zeroValue0
  t3 := Tryz.underlying3
  a3 := Tryz.isAgg3
  z3 := Tryz.sizeOf3
  v3 := Tryz.zeroValue3
  t4 := Tryz.underlying4
  a4 := Tryz.isAgg4
  z4 := Tryz.sizeOf4
  v4 := Tryz.zeroValue4
  t5 := Tryz.underlying5
  a5 := Tryz.isAgg5
  z5 := Tryz.sizeOf5
  v5 := Tryz.zeroValue5
  t9 := Tryz.underlying9
  a9 := Tryz.isAgg9
  z9 := Tryz.sizeOf9
  v9 := Tryz.zeroValue9
  t21 := Tryz.underlying21
  a21 := Tryz.isAgg21
  z21 := Tryz.sizeOf21
  v21 := Tryz.zeroValue21
  t46 := Tryz.underlying122
  a46 := Tryz.isAgg122
  z46 := Tryz.sizeOf122
  v46 := Tryz.zeroValue122
  t105 := Tryz.underlying249
  a105 := Tryz.isAgg249
  z105 := Tryz.sizeOf249
  v105 := Tryz.zeroValue249
  t116 := Tryz.underlying221
  a116 := Tryz.isAgg221
  z116 := Tryz.sizeOf221
  t117 := Tryz.underlying222
  a117 := Tryz.isAgg222
  z117 := Tryz.sizeOf222
  v117 := Tryz.zeroValue222
  t119 := Tryz.underlying277
  a119 := Tryz.isAgg277
  z119 := Tryz.sizeOf277
  t124 := Tryz.underlying225
  a124 := Tryz.isAgg225
  z124 := Tryz.sizeOf225
  v124 := Tryz.zeroValue225
  t138 := Tryz.underlying279
  a138 := Tryz.isAgg279
  z138 := Tryz.sizeOf279
  v138 := Tryz.zeroValue279
  t139 := Tryz.underlying280
  a139 := Tryz.isAgg280
  z139 := Tryz.sizeOf280
  v139 := Tryz.zeroValue280
  g3 := by kernel_rfl
  g4 := by kernel_rfl }
def Tryz.layGrow_ren : Go.Shelf.Ren := ⟨fun | 4 => 202 | n => n, fun | 22 => 35 | 25 => 3 | 3 => 3 | 4 => 4 | 9 => 9 | 20 => 20 | 0 => 0 | n => n, fun | n => n⟩
theorem Tryz.layGrow : Go.Proofs.Lays8.n4 Tryz.prog Tryz.layGrow_ren := {
  mixed := by kernel_rfl
  f4 := ⟨Tryz.f202.name, by decide, Tryz.func202.trans (congrArg some (by kernel_rfl))⟩
  t0 := Tryz.underlying0
  a0 := Tryz.isAgg0
  z0 := Tryz.sizeOf0
  v0 := Tryz.zeroValue0
  t3 := Tryz.underlying3
  a3 := Tryz.isAgg3
  z3 := Tryz.sizeOf3
  v3 := Tryz.zeroValue3
  t4 := Tryz.underlying4
  a4 := Tryz.isAgg4
  z4 := Tryz.sizeOf4
  v4 := Tryz.zeroValue4
  t9 := Tryz.underlying9
  a9 := Tryz.isAgg9
  z9 := Tryz.sizeOf9
  v9 := Tryz.zeroValue9
  t20 := Tryz.underlying20
  a20 := Tryz.isAgg20
  z20 := Tryz.sizeOf20
  v20 := Tryz.zeroValue20
  t22 := Tryz.underlying35
  a22 := Tryz.isAgg35
  z22 := Tryz.sizeOf35
  v22 := Tryz.zeroValue35 }
theorem Tryz.layExtra : Builder.Extra Tryz.prog Tryz.layRepeat_ren := {
  sizeBuilder := by kernel_rfl
  liesBuilder := by kernel_rfl
  t5 := Tryz.layRepeat.t5
  a5 := Tryz.layRepeat.a5
  z5 := Tryz.layRepeat.z5
  v5 := Tryz.layRepeat.v5
  infoByte := by kernel_rfl
  cellsByte := by kernel_rfl
  sizeByte := by kernel_rfl
  neB5 := by decide }
end Go.Proofs
namespace Go.AW
open Go.Proofs
theorem id_Itoa : Tryz.layItoa_ren.f 171 = f_strconv_Itoa := by decide
theorem id_Atoi : Tryz.layAtoi_ren.f 172 = f_strconv_Atoi := by decide
theorem id_Repeat : Tryz.layRepeat_ren.f 105 = f_strings_Repeat := by decide
theorem id_Trim : Tryz.layTrim_ren.f 162 = f_strings_TrimRight := by decide
theorem keeps_of_below {w w' : World} (h : RowKit.Below w.heap.size w w') : Keeps [] w w' := ⟨h.os, h.tape, h.output, h.size, fun k hk _ => h.block k hk⟩
theorem ARels_vs {w : World} {M : Nat → Prop} : ∀ {ps : List P} {vs : List Value} {bs : List Nat}, ARels w M (ps.map .v) vs bs → PRels w M ps vs ∧ bs = []
  | [], vs, bs, h => by simp only [List.map_nil, ARels] at h; simp [PRels, h.1, h.2]
  | p :: ps, vs, bs, h => by
    simp only [List.map_cons, ARels, ARel] at h
    obtain ⟨v, rest, b1, b2, rfl, rfl, ⟨rfl, h1⟩, h2⟩ := h
    obtain ⟨h3, rfl⟩ := ARels_vs h2
    simp only [PRels]
    exact ⟨⟨v, rest, rfl, h1, h3⟩, rfl⟩
theorem OutRel_vs {w : World} {M : Nat → Prop} : ∀ {ps : List P} {vs : List Value}, OutRel w M (ps.map .v) vs [] []
  | [], vs => by simp [OutRel]
  | p :: ps, vs => by simp only [List.map_cons, OutRel]; exact OutRel_vs
/-- a function of the library, from its contract -/
theorem ret_of_calls {f : FuncId} (he : Enter PG f) (ps : List P) (vals : List Value) (v : Value) (r : R) (hv : ∀ w M vs, PRels w M ps vs → vs = vals) (hr : ∀ w M, RRel w M r v [])
    (hc : ∀ w, Calls PG f vals.toArray w fun e w' => e = .returned v ∧ Keeps [] w w') : Ret PG f (ps.map .v) r [] := by
  refine ⟨he, fun w M vs D ha hn hD hM => ?_⟩
  obtain ⟨h1, rfl⟩ := ARels_vs ha
  obtain rfl := hv _ _ _ h1
  refine (hc w).mono ?_
  rintro e w' ⟨rfl, hk⟩
  exact ⟨v, [], [], rfl, hk, OutRel_vs, hr _ _, by simp, by simp⟩
theorem Itoa_small (i : Nat) (hi : i < 100) : Ret PG f_strconv_Itoa [aI i] (oS (Lib.decDigits i)) [] := by
  refine ret_of_calls en_strconv_Itoa [.int .i64 i] [.int .i64 i] (.string ⟨(Lib.decDigits i).toArray⟩) _ ?_ ?_ fun w => ?_
  · intro w M vs h; simp only [PRels, PRel] at h; obtain ⟨v, r, rfl, rfl, rfl⟩ := h; rfl
  · intro w M; simp [RRel, ORel, PRel]
  · have := Any.strconv_Itoa_small Tryz.layItoa i hi w
    rw [id_Itoa] at this
    exact this.mono fun e w' ⟨h1, h2⟩ => ⟨h1, h2 ▸ Keeps.refl _ _⟩
theorem bytesWorld_keeps (w : World) (e : TypeId) (s : ByteArray) : Keeps [] w (Lib.bytesWorld w e s) := ⟨rfl, rfl, rfl, by rw [Lib.bytesWorld_size]; omega, fun k hk _ => Lib.bytesWorld_at_old w e s k (by omega)⟩
theorem Atoi_short (s : Str) (n : Int) (hs : s.length ≤ 18) (h : Lib.atoi s = some n) : Ret PG f_strconv_Atoi [aS s] (.tup [oI n, .o (.p (.lit .nilIface))]) [] := by
  refine ret_of_calls en_strconv_Atoi [.str s] [.string ⟨s.toArray⟩] (.tuple #[.int .i64 n, .nilIface]) _ ?_ ?_ fun w => ?_
  · intro w M vs h; simp only [PRels, PRel] at h; obtain ⟨v, r, rfl, rfl, rfl⟩ := h; rfl
  · intro w M
    simp only [RRel, RRels, ORel, PRel]
    exact ⟨_, rfl, _, _, [], [], rfl, rfl, ⟨rfl, rfl⟩, _, _, [], [], rfl, rfl, ⟨rfl, rfl⟩, rfl, rfl⟩
  · have := Any.strconv_Atoi Tryz.layAtoi ⟨s.toArray⟩ n (by simpa [ByteArray.size] using hs) (by simpa using h) w
    rw [id_Atoi] at this
    exact this.mono fun e w' ⟨h1, t, h2⟩ => ⟨h1, h2 ▸ bytesWorld_keeps _ _ _⟩
theorem Repeat_ret (s : Str) (c : Nat) (hc : s.length * c ≤ 140737488355328) (hc2 : c ≤ 9223372036854775807) : Ret PG f_strings_Repeat [aS s, aI c] (oS (Lib.repeatL s c)) [] := by
  refine ret_of_calls en_strings_Repeat [.str s, .int .i64 c] [.string ⟨s.toArray⟩, .int .i64 c] (.string ⟨(Lib.repeatL s c).toArray⟩) _ ?_ ?_ fun w => ?_
  · intro w M vs h; simp only [PRels, PRel] at h; obtain ⟨v, r, rfl, rfl, v', r', rfl, rfl, rfl⟩ := h; rfl
  · intro w M; simp [RRel, ORel, PRel]
  · have := Any.strings_Repeat Tryz.layRepeat Tryz.layExtra ⟨s.toArray⟩ c w hc2 (by simpa [ByteArray.size] using hc)
    rw [id_Repeat] at this
    exact this.mono fun e w' ⟨h1, h2⟩ => ⟨by simpa using h1, keeps_of_below h2⟩
theorem TrimRight_ret (s : Str) (c : UInt8) (hc : c.toNat < 128) (hs : s.length ≤ 9223372036854775807) : Ret PG f_strings_TrimRight [aS s, aS [c]] (oS (Lib.trimRightB s c)) [] := by
  refine ret_of_calls en_strings_TrimRight [.str s, .str [c]] [.string ⟨s.toArray⟩, .string ⟨#[c]⟩] (.string ⟨(Lib.trimRightB s c).toArray⟩) _ ?_ ?_ fun w => ?_
  · intro w M vs h; simp only [PRels, PRel] at h; obtain ⟨v, r, rfl, rfl, v', r', rfl, rfl, rfl⟩ := h; rfl
  · intro w M; simp [RRel, ORel, PRel]
  · have := Any.strings_TrimRight_one Tryz.layTrim ⟨s.toArray⟩ c hc w (by simpa [ByteArray.size] using hs)
    rw [id_Trim] at this
    exact this.mono fun e w' ⟨h1, h2⟩ => ⟨by simpa using h1, h2 ▸ Keeps.refl _ _⟩
theorem id_Grow : Tryz.layGrow_ren.f 4 = f_slices_Grow_int_int := by decide
theorem zeroCells_size (z : Array Value) (n : Nat) : (Builtin.zeroCells z n).size = n * z.size := by simp [Builtin.zeroCells]
theorem Grow_ret (n : Nat) (h0 : 0 < n) (hn : n ≤ 4611686018427387904) (hb : n * 8 ≤ 140737488355328) : Ret PG f_slices_Grow_int_int [.v (.z 1), aI n] (.o (.own 1 [])) [] := by
  have key : ∃ i0 z, PG.info? (Tryz.layGrow_ren.t 25) = some i0 ∧ i0.zero = some z ∧ i0.size = 1 ∧ i0.bytes = 8 ∧ z.cells.size = 1 := by
    have g1 : ((PG.info? (Tryz.layGrow_ren.t 25)).map fun i => (i.size, i.bytes, i.zero.map fun z => z.cells.size)) = some (1, 8, some 1) := by kernel_rfl
    cases hi : PG.info? (Tryz.layGrow_ren.t 25) with
    | none => rw [hi] at g1; cases g1
    | some i0 =>
      rw [hi] at g1
      simp only [Option.map_some, Option.some.injEq, Prod.mk.injEq] at g1
      obtain ⟨g2, g3, g4⟩ := g1
      cases hz : i0.zero with
      | none => rw [hz] at g4; cases g4
      | some z => rw [hz] at g4; exact ⟨i0, z, rfl, hz, g2, g3, by simpa using g4⟩
  obtain ⟨i0, z, k1, k2, k3, k4, k5⟩ := key
  refine ⟨en_slices_Grow_int_int, fun w M vs D ha hnd hD hM => ?_⟩
  obtain ⟨h1, rfl⟩ := ARels_vs (ps := [.z 1, .int .i64 n]) ha
  simp only [PRels, PRel] at h1
  obtain ⟨v, r, rfl, ⟨a, rfl⟩, v', r', rfl, rfl, rfl⟩ := h1
  have := Any8.slices_Grow_grow Tryz.layGrow i0 z k1 k2 (by omega) a 0 0 n [] w (Nat.le_refl _) (by omega) (by rw [k4]; omega) (by omega) (by simp) (fun _ => rfl) (by intro a _ j v h; simp at h)
  rw [id_Grow] at this
  refine this.mono ?_
  rintro e w' ⟨rfl, rfl⟩
  have hp : ∀ o : Obj, (w.drew.alloc o).heap = w.heap.push o := fun _ => rfl
  refine ⟨_, [], [w.heap.size], rfl, ⟨rfl, rfl, rfl, ?_, ?_⟩, OutRel_vs (ps := [.z 1, .int .i64 n]), ?_, by simp, ?_⟩
  · rw [hp]; simp
  · intro k hk _
    rw [hp, Array.getElem?_push, if_neg (by omega)]
  · simp only [RRel, ORel]
    refine ⟨w.heap.size, _, _, _, [], _, rfl, rfl, Nat.zero_le _, by rw [hp, Array.getElem?_push, if_pos rfl], ?_, by simp [PElems], by simp; rfl⟩
    simp only [Array.size_append, zeroCells_size, k5]
    simp
    omega
  · intro b hb; simp at hb; subst hb; rw [hp]; simp
end Go.AW
