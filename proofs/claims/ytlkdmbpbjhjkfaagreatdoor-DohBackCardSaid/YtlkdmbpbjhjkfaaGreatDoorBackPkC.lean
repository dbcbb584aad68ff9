/- The parts of the proof that this law needs, in the order of their texts: the logic of walks, the plain laws, the walks. -/
import Derived.Test.YtlkdmbpbjhjkfaaGreatDoorBackPkB
namespace Go.Proofs
open Go.Shelf
def Tryz.lays160_ren : Go.Shelf.Ren := ⟨fun | 160 => 102 | 232 => 144 | 231 => 143 | 227 => 145 | 234 => 147 | 233 => 146 | 236 => 149 | 235 => 148 | 228 => 183 | 271 => 185 | 151 => 184 | 197 => 167 | 120 => 214 | 152 => 213 | 260 => 195 | 137 => 226 | 119 => 223 | 224 => 114 | 225 => 164 | 217 => 163 | 266 => 193 | n => n, fun | 9 => 9 | 4 => 4 | 3 => 3 | 5 => 5 | 117 => 183 | 116 => 182 | 0 => 0 | 124 => 186 | 21 => 21 | 105 => 201 | 46 => 156 | 119 => 166 | 139 => 253 | 138 => 252 | n => n, fun | 3 => 4 | 4 => 5 | n => n⟩
theorem Tryz.lays160 : Go.Proofs.Lays.n160 Tryz.prog Tryz.lays160_ren := {
  mixed := by kernel_rfl
  f119 := Tryz.func223.trans (congrArg some (by kernel_rfl))
  f120 := Tryz.func214.trans (congrArg some (by kernel_rfl))
  f137 := Tryz.func226.trans (congrArg some (by kernel_rfl))
  f151 := Tryz.func184.trans (congrArg some (by kernel_rfl))
  f152 := Tryz.func213.trans (congrArg some (by kernel_rfl))
  f160 := Tryz.func102.trans (congrArg some (by kernel_rfl))
  f197 := Tryz.func167.trans (congrArg some (by kernel_rfl))
  f217 := Tryz.func163.trans (congrArg some (by kernel_rfl))
  f224 := Tryz.func114.trans (congrArg some (by kernel_rfl))
  f225 := Tryz.func164.trans (congrArg some (by kernel_rfl))
  f227 := Tryz.func145.trans (congrArg some (by kernel_rfl))
  f228 := Tryz.func183.trans (congrArg some (by kernel_rfl))
  f231 := Tryz.func143.trans (congrArg some (by kernel_rfl))
  f232 := Tryz.func144.trans (congrArg some (by kernel_rfl))
  f233 := Tryz.func146.trans (congrArg some (by kernel_rfl))
  f234 := Tryz.func147.trans (congrArg some (by kernel_rfl))
  f235 := Tryz.func148.trans (congrArg some (by kernel_rfl))
  f236 := Tryz.func149.trans (congrArg some (by kernel_rfl))
  f260 := Tryz.func195.trans (congrArg some (by kernel_rfl))
  f266 := Tryz.func193.trans (congrArg some (by kernel_rfl))
  f271 := Tryz.func185.trans (congrArg some (by kernel_rfl))
  t0 := Tryz.underlying0
  a0 := Tryz.isAgg0
  z0 := Tryz.sizeOf0
  v0 := Tryz.zeroValue0
  t3 := Tryz.underlying3
  a3 := Tryz.isAgg3
  z3 := Tryz.sizeOf3
  v3 := Tryz.zeroValue3
  t4 := Tryz.underlying4
  a4 := Tryz.isAgg4
  z4 := Tryz.sizeOf4
  v4 := Tryz.zeroValue4
  t5 := Tryz.underlying5
  a5 := Tryz.isAgg5
  z5 := Tryz.sizeOf5
  v5 := Tryz.zeroValue5
  t9 := Tryz.underlying9
  a9 := Tryz.isAgg9
  z9 := Tryz.sizeOf9
  v9 := Tryz.zeroValue9
  t21 := Tryz.underlying21
  a21 := Tryz.isAgg21
  z21 := Tryz.sizeOf21
  v21 := Tryz.zeroValue21
  t46 := Tryz.underlying156
  a46 := Tryz.isAgg156
  z46 := Tryz.sizeOf156
  v46 := Tryz.zeroValue156
  t105 := Tryz.underlying201
  a105 := Tryz.isAgg201
  z105 := Tryz.sizeOf201
  v105 := Tryz.zeroValue201
  t116 := Tryz.underlying182
  a116 := Tryz.isAgg182
  z116 := Tryz.sizeOf182
  t117 := Tryz.underlying183
  a117 := Tryz.isAgg183
  z117 := Tryz.sizeOf183
  v117 := Tryz.zeroValue183
  t119 := Tryz.underlying166
  a119 := Tryz.isAgg166
  z119 := Tryz.sizeOf166
  t124 := Tryz.underlying186
  a124 := Tryz.isAgg186
  z124 := Tryz.sizeOf186
  v124 := Tryz.zeroValue186
  t138 := Tryz.underlying252
  a138 := Tryz.isAgg252
  z138 := Tryz.sizeOf252
  v138 := Tryz.zeroValue252
  t139 := Tryz.underlying253
  a139 := Tryz.isAgg253
  z139 := Tryz.sizeOf253
  v139 := Tryz.zeroValue253
  g3 := by kernel_rfl
  g4 := by kernel_rfl }
open Go.RowKit in
def Tryz.lays103_ren : Go.Shelf.Ren := ⟨fun | 103 => 89 | 210 => 129 | 206 => 166 | n => n, fun | 9 => 9 | 4 => 4 | 24 => 28 | 3 => 3 | n => n, fun | n => n⟩
theorem Tryz.lays103 : Go.Proofs.Lays.n103 Tryz.prog Tryz.lays103_ren := {
  mixed := by kernel_rfl
  f103 := Tryz.func89.trans (congrArg some (by kernel_rfl))
  f206 := Tryz.func166.trans (congrArg some (by kernel_rfl))
  f210 := Tryz.func129.trans (congrArg some (by kernel_rfl))
  t3 := Tryz.underlying3
  a3 := Tryz.isAgg3
  z3 := Tryz.sizeOf3
  v3 := Tryz.zeroValue3
  t4 := Tryz.underlying4
  a4 := Tryz.isAgg4
  z4 := Tryz.sizeOf4
  v4 := Tryz.zeroValue4
  t9 := Tryz.underlying9
  a9 := Tryz.isAgg9
  z9 := Tryz.sizeOf9
  v9 := Tryz.zeroValue9
  t24 := Tryz.underlying28
  a24 := Tryz.isAgg28
  z24 := Tryz.sizeOf28
  v24 := Tryz.zeroValue28 }
open Go.RowKit in
theorem Tryz.strings_CutPrefix (s p : ByteArray) (w : World) :
    Calls Tryz.prog 89 #[.string s, .string p] w fun e w' => e = .returned (.tuple #[.string ⟨(Lib.trimPrefix s.data.toList p.data.toList).toArray⟩, .bool (Lib.hasPrefix s.data.toList p.data.toList)]) ∧ w' = w := Any.strings_CutPrefix Tryz.lays103 s p w
def Tryz.laysM171_ren : Go.Shelf.Ren := ⟨fun | 171 => 42 | 243 => 61 | 246 => 105 | 283 => 151 | 284 => 152 | 285 => 153 | 286 => 154 | 129 => 187 | 317 => 186 | 318 => 188 | 319 => 189 | 320 => 190 | 337 => 215 | 338 => 216 | n => n, fun | 3 => 3 | 9 => 9 | 2 => 2 | 4 => 4 | 171 => 187 | 0 => 0 | 53 => 188 | 37 => 22 | 5 => 5 | 173 => 191 | 212 => 220 | 51 => 196 | 20 => 20 | 213 => 221 | 46 => 156 | 232 => 266 | 233 => 267 | n => n, fun | 17 => 1 | 18 => 6 | 19 => 7 | n => n⟩
theorem Tryz.laysM171 : Go.Proofs.LaysM.n171 Tryz.prog Tryz.laysM171_ren := {
  mixed := by kernel_rfl
  f129 := Tryz.func187.trans (congrArg some (by kernel_rfl))
  f171 := Tryz.func42.trans (congrArg some (by kernel_rfl))
  f243 := Tryz.func61.trans (congrArg some (by kernel_rfl))
  f246 := Tryz.func105.trans (congrArg some (by kernel_rfl))
  f283 := Tryz.func151.trans (congrArg some (by kernel_rfl))
  f284 := Tryz.func152.trans (congrArg some (by kernel_rfl))
  f285 := Tryz.func153.trans (congrArg some (by kernel_rfl))
  f286 := Tryz.func154.trans (congrArg some (by kernel_rfl))
  f317 := Tryz.func186.trans (congrArg some (by kernel_rfl))
  f318 := Tryz.func188.trans (congrArg some (by kernel_rfl))
  f319 := Tryz.func189.trans (congrArg some (by kernel_rfl))
  f320 := Tryz.func190.trans (congrArg some (by kernel_rfl))
  f337 := Tryz.func215.trans (congrArg some (by kernel_rfl))
  f338 := Tryz.func216.trans (congrArg some (by kernel_rfl))
  t0 := Tryz.underlying0
  a0 := Tryz.isAgg0
  z0 := Tryz.sizeOf0
  v0 := Tryz.zeroValue0
  t2 := Tryz.underlying2
  a2 := Tryz.isAgg2
  z2 := Tryz.sizeOf2
  v2 := Tryz.zeroValue2
  t3 := Tryz.underlying3
  a3 := Tryz.isAgg3
  z3 := Tryz.sizeOf3
  v3 := Tryz.zeroValue3
  t4 := Tryz.underlying4
  a4 := Tryz.isAgg4
  z4 := Tryz.sizeOf4
  v4 := Tryz.zeroValue4
  t5 := Tryz.underlying5
  a5 := Tryz.isAgg5
  z5 := Tryz.sizeOf5
  v5 := Tryz.zeroValue5
  t9 := Tryz.underlying9
  a9 := Tryz.isAgg9
  z9 := Tryz.sizeOf9
  v9 := Tryz.zeroValue9
  t20 := Tryz.underlying20
  a20 := Tryz.isAgg20
  z20 := Tryz.sizeOf20
  v20 := Tryz.zeroValue20
  t37 := Tryz.underlying22
  a37 := Tryz.isAgg22
  z37 := Tryz.sizeOf22
  v37 := Tryz.zeroValue22
  t46 := Tryz.underlying156
  a46 := Tryz.isAgg156
  z46 := Tryz.sizeOf156
  v46 := Tryz.zeroValue156
  t51 := Tryz.underlying196
  a51 := Tryz.isAgg196
  z51 := Tryz.sizeOf196
  v51 := Tryz.zeroValue196
  t53 := Tryz.underlying188
  a53 := Tryz.isAgg188
  z53 := Tryz.sizeOf188
  v53 := Tryz.zeroValue188
  t171 := Tryz.underlying187
  a171 := Tryz.isAgg187
  z171 := Tryz.sizeOf187
  v171 := Tryz.zeroValue187
  t173 := Tryz.underlying191
  a173 := Tryz.isAgg191
  z173 := Tryz.sizeOf191
  v173 := Tryz.zeroValue191
  t212 := Tryz.underlying220
  a212 := Tryz.isAgg220
  z212 := Tryz.sizeOf220
  v212 := Tryz.zeroValue220
  t213 := Tryz.underlying221
  a213 := Tryz.isAgg221
  z213 := Tryz.sizeOf221
  t232 := Tryz.underlying266
  a232 := Tryz.isAgg266
  z232 := Tryz.sizeOf266
  v232 := Tryz.zeroValue266
  t233 := Tryz.underlying267
  a233 := Tryz.isAgg267
  z233 := Tryz.sizeOf267
  v233 := Tryz.zeroValue267
  g17 := by kernel_rfl
  g18 := by kernel_rfl
  g19 := by kernel_rfl
  i0 := by kernel_rfl
  i2 := by kernel_rfl
  i3 := by kernel_rfl
  i4 := by kernel_rfl
  i5 := by kernel_rfl
  i9 := by kernel_rfl
  i20 := by kernel_rfl
  i37 := by kernel_rfl
  i46 := by kernel_rfl
  i51 := by kernel_rfl
  i53 := by kernel_rfl
  i171 := by kernel_rfl
  i173 := by kernel_rfl
  i212 := by kernel_rfl
  i232 := by kernel_rfl
  i233 := by kernel_rfl
  m17 := by kernel_rfl
  m18 := by kernel_rfl
  m19 := by kernel_rfl }
open Go.RowKit Go.Sort Go.Lib in
theorem Tryz.strconv_Itoa (n : Int) (h0 : -9223372036854775808 ≤ n) (h1 : n ≤ 9223372036854775807) (w : World) (htab : Lib.TabIs Tryz.prog w "internal/strconv.uint64pow10" .u64 Lib.pow10Tab) :
    Calls Tryz.prog 42 #[.int .i64 n] w fun e w' => e = .returned (.string ⟨(Lib.itoa n).toArray⟩) ∧ ∃ k os, w' = grow (w.drewN k) os := Any.strconv_Itoa Tryz.laysM171 n h0 h1 w htab
def Tryz.laysC172_ren : Go.Shelf.Ren := ⟨fun | 172 => 94 | 244 => 135 | 245 => 136 | 247 => 175 | 279 => 176 | 280 => 177 | 281 => 178 | 282 => 179 | 287 => 200 | 316 => 201 | 171 => 42 | 205 => 202 | 321 => 219 | 322 => 220 | 243 => 61 | 246 => 105 | 283 => 151 | 284 => 152 | 285 => 153 | 286 => 154 | 129 => 187 | 317 => 186 | 318 => 188 | 319 => 189 | 320 => 190 | 337 => 215 | 338 => 216 | n => n, fun | 9 => 9 | 3 => 3 | 75 => 111 | 76 => 112 | 4 => 4 | 5 => 5 | 167 => 207 | 37 => 22 | 0 => 0 | 85 => 208 | 2 => 2 | 168 => 210 | 53 => 188 | 175 => 227 | 46 => 156 | 210 => 230 | 127 => 153 | 145 => 258 | 143 => 256 | 21 => 21 | 171 => 187 | 173 => 191 | 212 => 220 | 51 => 196 | 20 => 20 | 213 => 221 | 232 => 266 | 233 => 267 | 80 => 115 | n => n, fun | 15 => 2 | 16 => 3 | 17 => 1 | 18 => 6 | 19 => 7 | n => n⟩
theorem Tryz.laysC172 : Go.Proofs.LaysC.n172 Tryz.prog Tryz.laysC172_ren := {
  mixed := by kernel_rfl
  f129 := Tryz.func187.trans (congrArg some (by kernel_rfl))
  f171 := Tryz.func42.trans (congrArg some (by kernel_rfl))
  f172 := Tryz.func94.trans (congrArg some (by kernel_rfl))
  f205 := Tryz.func202.trans (congrArg some (by kernel_rfl))
  f243 := Tryz.func61.trans (congrArg some (by kernel_rfl))
  f244 := Tryz.func135.trans (congrArg some (by kernel_rfl))
  f245 := Tryz.func136.trans (congrArg some (by kernel_rfl))
  f246 := Tryz.func105.trans (congrArg some (by kernel_rfl))
  f247 := Tryz.func175.trans (congrArg some (by kernel_rfl))
  f279 := Tryz.func176.trans (congrArg some (by kernel_rfl))
  f280 := Tryz.func177.trans (congrArg some (by kernel_rfl))
  f281 := Tryz.func178.trans (congrArg some (by kernel_rfl))
  f282 := Tryz.func179.trans (congrArg some (by kernel_rfl))
  f283 := Tryz.func151.trans (congrArg some (by kernel_rfl))
  f284 := Tryz.func152.trans (congrArg some (by kernel_rfl))
  f285 := Tryz.func153.trans (congrArg some (by kernel_rfl))
  f286 := Tryz.func154.trans (congrArg some (by kernel_rfl))
  f287 := Tryz.func200.trans (congrArg some (by kernel_rfl))
  f316 := Tryz.func201.trans (congrArg some (by kernel_rfl))
  f317 := Tryz.func186.trans (congrArg some (by kernel_rfl))
  f318 := Tryz.func188.trans (congrArg some (by kernel_rfl))
  f319 := Tryz.func189.trans (congrArg some (by kernel_rfl))
  f320 := Tryz.func190.trans (congrArg some (by kernel_rfl))
  f321 := Tryz.func219.trans (congrArg some (by kernel_rfl))
  f322 := Tryz.func220.trans (congrArg some (by kernel_rfl))
  f337 := Tryz.func215.trans (congrArg some (by kernel_rfl))
  f338 := Tryz.func216.trans (congrArg some (by kernel_rfl))
  t0 := Tryz.underlying0
  a0 := Tryz.isAgg0
  z0 := Tryz.sizeOf0
  v0 := Tryz.zeroValue0
  t2 := Tryz.underlying2
  a2 := Tryz.isAgg2
  z2 := Tryz.sizeOf2
  v2 := Tryz.zeroValue2
  t3 := Tryz.underlying3
  a3 := Tryz.isAgg3
  z3 := Tryz.sizeOf3
  v3 := Tryz.zeroValue3
  t4 := Tryz.underlying4
  a4 := Tryz.isAgg4
  z4 := Tryz.sizeOf4
  v4 := Tryz.zeroValue4
  t5 := Tryz.underlying5
  a5 := Tryz.isAgg5
  z5 := Tryz.sizeOf5
  v5 := Tryz.zeroValue5
  t9 := Tryz.underlying9
  a9 := Tryz.isAgg9
  z9 := Tryz.sizeOf9
  v9 := Tryz.zeroValue9
  t20 := Tryz.underlying20
  a20 := Tryz.isAgg20
  z20 := Tryz.sizeOf20
  v20 := Tryz.zeroValue20
  t21 := Tryz.underlying21
  a21 := Tryz.isAgg21
  z21 := Tryz.sizeOf21
  v21 := Tryz.zeroValue21
  t37 := Tryz.underlying22
  a37 := Tryz.isAgg22
  z37 := Tryz.sizeOf22
  v37 := Tryz.zeroValue22
  t46 := Tryz.underlying156
  a46 := Tryz.isAgg156
  z46 := Tryz.sizeOf156
  v46 := Tryz.zeroValue156
  t51 := Tryz.underlying196
  a51 := Tryz.isAgg196
  z51 := Tryz.sizeOf196
  v51 := Tryz.zeroValue196
  t53 := Tryz.underlying188
  a53 := Tryz.isAgg188
  z53 := Tryz.sizeOf188
  v53 := Tryz.zeroValue188
  t75 := Tryz.underlying111
  a75 := Tryz.isAgg111
  z75 := Tryz.sizeOf111
  v75 := Tryz.zeroValue111
  t76 := Tryz.underlying112
  a76 := Tryz.isAgg112
  z76 := Tryz.sizeOf112
  v76 := Tryz.zeroValue112
  t85 := Tryz.underlying208
  a85 := Tryz.isAgg208
  z85 := Tryz.sizeOf208
  v85 := Tryz.zeroValue208
  t127 := Tryz.underlying153
  a127 := Tryz.isAgg153
  z127 := Tryz.sizeOf153
  v127 := Tryz.zeroValue153
  t143 := Tryz.underlying256
  a143 := Tryz.isAgg256
  z143 := Tryz.sizeOf256
  v143 := Tryz.zeroValue256
  t145 := Tryz.underlying258
  a145 := Tryz.isAgg258
  z145 := Tryz.sizeOf258
  v145 := Tryz.zeroValue258
  t167 := Tryz.underlying207
  a167 := Tryz.isAgg207
  z167 := Tryz.sizeOf207
  v167 := Tryz.zeroValue207
  t168 := Tryz.underlying210
  a168 := Tryz.isAgg210
  z168 := Tryz.sizeOf210
  v168 := Tryz.zeroValue210
  t171 := Tryz.underlying187
  a171 := Tryz.isAgg187
  z171 := Tryz.sizeOf187
  v171 := Tryz.zeroValue187
  t173 := Tryz.underlying191
  a173 := Tryz.isAgg191
  z173 := Tryz.sizeOf191
  v173 := Tryz.zeroValue191
  t175 := Tryz.underlying227
  a175 := Tryz.isAgg227
  z175 := Tryz.sizeOf227
  v175 := Tryz.zeroValue227
  t210 := Tryz.underlying230
  a210 := Tryz.isAgg230
  z210 := Tryz.sizeOf230
  v210 := Tryz.zeroValue230
  t212 := Tryz.underlying220
  a212 := Tryz.isAgg220
  z212 := Tryz.sizeOf220
  v212 := Tryz.zeroValue220
  t213 := Tryz.underlying221
  a213 := Tryz.isAgg221
  z213 := Tryz.sizeOf221
  t232 := Tryz.underlying266
  a232 := Tryz.isAgg266
  z232 := Tryz.sizeOf266
  v232 := Tryz.zeroValue266
  t233 := Tryz.underlying267
  a233 := Tryz.isAgg267
  z233 := Tryz.sizeOf267
  v233 := Tryz.zeroValue267
  g15 := by kernel_rfl
  g16 := by kernel_rfl
  g17 := by kernel_rfl
  g18 := by kernel_rfl
  g19 := by kernel_rfl
  t80 := Tryz.underlying115
  a80 := Tryz.isAgg115
  z80 := Tryz.sizeOf115
  v80 := Tryz.zeroValue115
  i0 := by kernel_rfl
  i2 := by kernel_rfl
  i3 := by kernel_rfl
  i4 := by kernel_rfl
  i5 := by kernel_rfl
  i9 := by kernel_rfl
  i20 := by kernel_rfl
  i21 := by kernel_rfl
  i37 := by kernel_rfl
  i46 := by kernel_rfl
  i51 := by kernel_rfl
  i53 := by kernel_rfl
  i75 := by kernel_rfl
  i76 := by kernel_rfl
  i80 := by kernel_rfl
  i85 := by kernel_rfl
  i127 := by kernel_rfl
  i143 := by kernel_rfl
  i145 := by kernel_rfl
  i167 := by kernel_rfl
  i168 := by kernel_rfl
  i171 := by kernel_rfl
  i173 := by kernel_rfl
  i175 := by kernel_rfl
  i210 := by kernel_rfl
  i212 := by kernel_rfl
  i232 := by kernel_rfl
  i233 := by kernel_rfl
  m15 := by kernel_rfl
  m16 := by kernel_rfl
  m17 := by kernel_rfl
  m18 := by kernel_rfl
  m19 := by kernel_rfl
  c0 := by kernel_rfl
  c2 := by kernel_rfl
  c3 := by kernel_rfl
  c4 := by kernel_rfl
  c5 := by kernel_rfl
  c9 := by kernel_rfl
  c20 := by kernel_rfl
  c21 := by kernel_rfl
  c37 := by kernel_rfl
  c46 := by kernel_rfl
  c51 := by kernel_rfl
  c53 := by kernel_rfl
  c75 := by kernel_rfl
  c76 := by kernel_rfl
  c80 := by kernel_rfl
  c85 := by kernel_rfl
  c127 := by kernel_rfl
  c143 := by kernel_rfl
  c145 := by kernel_rfl
  c167 := by kernel_rfl
  c168 := by kernel_rfl
  c171 := by kernel_rfl
  c173 := by kernel_rfl
  c175 := by kernel_rfl
  c210 := by kernel_rfl
  c212 := by kernel_rfl
  c213 := by kernel_rfl
  c232 := by kernel_rfl
  c233 := by kernel_rfl }
open Go.RowKit in
theorem Tryz.strconv_Atoi_ok (s : ByteArray) (hmax : s.size ≤ 9223372036854775806) (v : Int) (h : Lib.atoiAll s.data.toList = .ok v) (w : World) :
    Calls Tryz.prog 94 #[.string s] w fun e w' => e = .returned (.tuple #[.int .i64 v, .nilIface]) ∧ (w' = w ∨ ∃ t, w' = Lib.bytesWorld w 5 t) := Any.strconv_Atoi_ok Tryz.laysC172 s hmax v h w
def Tryz.lays145_ren : Go.Shelf.Ren := ⟨fun | 145 => 53 | 220 => 88 | 219 => 128 | 217 => 163 | 225 => 164 | 224 => 114 | 267 => 165 | 266 => 193 | 314 => 194 | n => n, fun | 9 => 9 | 4 => 4 | 59 => 96 | 3 => 3 | 5 => 5 | 46 => 156 | 146 => 197 | 51 => 196 | n => n, fun | 1 => 0 | n => n⟩
theorem Tryz.lays145 : Go.Proofs.Lays.n145 Tryz.prog Tryz.lays145_ren := {
  mixed := by kernel_rfl
  f145 := Tryz.func53.trans (congrArg some (by kernel_rfl))
  f217 := Tryz.func163.trans (congrArg some (by kernel_rfl))
  f219 := Tryz.func128.trans (congrArg some (by kernel_rfl))
  f220 := Tryz.func88.trans (congrArg some (by kernel_rfl))
  f224 := Tryz.func114.trans (congrArg some (by kernel_rfl))
  f225 := Tryz.func164.trans (congrArg some (by kernel_rfl))
  f266 := Tryz.func193.trans (congrArg some (by kernel_rfl))
  f267 := Tryz.func165.trans (congrArg some (by kernel_rfl))
  f314 := Tryz.func194.trans (congrArg some (by kernel_rfl))
  t3 := Tryz.underlying3
  a3 := Tryz.isAgg3
  z3 := Tryz.sizeOf3
  v3 := Tryz.zeroValue3
  t4 := Tryz.underlying4
  a4 := Tryz.isAgg4
  z4 := Tryz.sizeOf4
  v4 := Tryz.zeroValue4
  t5 := Tryz.underlying5
  a5 := Tryz.isAgg5
  z5 := Tryz.sizeOf5
  v5 := Tryz.zeroValue5
  t9 := Tryz.underlying9
  a9 := Tryz.isAgg9
  z9 := Tryz.sizeOf9
  v9 := Tryz.zeroValue9
  t46 := Tryz.underlying156
  a46 := Tryz.isAgg156
  z46 := Tryz.sizeOf156
  v46 := Tryz.zeroValue156
  t51 := Tryz.underlying196
  a51 := Tryz.isAgg196
  z51 := Tryz.sizeOf196
  v51 := Tryz.zeroValue196
  t59 := Tryz.underlying96
  a59 := Tryz.isAgg96
  z59 := Tryz.sizeOf96
  v59 := Tryz.zeroValue96
  t146 := Tryz.underlying197
  a146 := Tryz.isAgg197
  z146 := Tryz.sizeOf197
  v146 := Tryz.zeroValue197
  g1 := by kernel_rfl }
open Go.RowKit Go.Lib in
theorem Tryz.strings_Cut (s sep : ByteArray) (m : Int) (w : World) (hs : s.size < 4294967281) (hm : w.cell? ⟨0, 0, none⟩ = some (.int .i64 m)) :
    Calls Tryz.prog 53 #[.string s, .string sep] w fun e w' => e = .returned (.tuple #[.string ⟨(Lib.cut s.data.toList sep.data.toList).1.toArray⟩, .string ⟨(Lib.cut s.data.toList sep.data.toList).2.1.toArray⟩, .bool (Lib.cut s.data.toList sep.data.toList).2.2]) ∧ ∃ n, w' = w.drewN n := Any.strings_Cut Tryz.lays145 s sep m w hs hm
def Tryz.lays146_ren : Go.Shelf.Ren := ⟨fun | 146 => 92 | 221 => 134 | 268 => 172 | 138 => 173 | 143 => 174 | 195 => 198 | 197 => 167 | 218 => 199 | 219 => 128 | 260 => 195 | 217 => 163 | 225 => 164 | 224 => 114 | 267 => 165 | 266 => 193 | 314 => 194 | n => n, fun | 9 => 9 | 31 => 109 | 3 => 3 | 4 => 4 | 0 => 0 | 105 => 201 | 21 => 21 | 5 => 5 | 46 => 156 | 119 => 166 | 139 => 253 | 138 => 252 | 146 => 197 | 51 => 196 | n => n, fun | 1 => 0 | 3 => 4 | 4 => 5 | n => n⟩
theorem Tryz.lays146 : Go.Proofs.Lays.n146 Tryz.prog Tryz.lays146_ren := {
  mixed := by kernel_rfl
  f138 := Tryz.func173.trans (congrArg some (by kernel_rfl))
  f143 := Tryz.func174.trans (congrArg some (by kernel_rfl))
  f146 := Tryz.func92.trans (congrArg some (by kernel_rfl))
  f195 := Tryz.func198.trans (congrArg some (by kernel_rfl))
  f197 := Tryz.func167.trans (congrArg some (by kernel_rfl))
  f217 := Tryz.func163.trans (congrArg some (by kernel_rfl))
  f218 := Tryz.func199.trans (congrArg some (by kernel_rfl))
  f219 := Tryz.func128.trans (congrArg some (by kernel_rfl))
  f221 := Tryz.func134.trans (congrArg some (by kernel_rfl))
  f224 := Tryz.func114.trans (congrArg some (by kernel_rfl))
  f225 := Tryz.func164.trans (congrArg some (by kernel_rfl))
  f260 := Tryz.func195.trans (congrArg some (by kernel_rfl))
  f266 := Tryz.func193.trans (congrArg some (by kernel_rfl))
  f267 := Tryz.func165.trans (congrArg some (by kernel_rfl))
  f268 := Tryz.func172.trans (congrArg some (by kernel_rfl))
  f314 := Tryz.func194.trans (congrArg some (by kernel_rfl))
  t0 := Tryz.underlying0
  a0 := Tryz.isAgg0
  z0 := Tryz.sizeOf0
  v0 := Tryz.zeroValue0
  t3 := Tryz.underlying3
  a3 := Tryz.isAgg3
  z3 := Tryz.sizeOf3
  v3 := Tryz.zeroValue3
  t4 := Tryz.underlying4
  a4 := Tryz.isAgg4
  z4 := Tryz.sizeOf4
  v4 := Tryz.zeroValue4
  t5 := Tryz.underlying5
  a5 := Tryz.isAgg5
  z5 := Tryz.sizeOf5
  v5 := Tryz.zeroValue5
  t9 := Tryz.underlying9
  a9 := Tryz.isAgg9
  z9 := Tryz.sizeOf9
  v9 := Tryz.zeroValue9
  t21 := Tryz.underlying21
  a21 := Tryz.isAgg21
  z21 := Tryz.sizeOf21
  v21 := Tryz.zeroValue21
  t31 := Tryz.underlying109
  a31 := Tryz.isAgg109
  z31 := Tryz.sizeOf109
  v31 := Tryz.zeroValue109
  t46 := Tryz.underlying156
  a46 := Tryz.isAgg156
  z46 := Tryz.sizeOf156
  v46 := Tryz.zeroValue156
  t51 := Tryz.underlying196
  a51 := Tryz.isAgg196
  z51 := Tryz.sizeOf196
  v51 := Tryz.zeroValue196
  t105 := Tryz.underlying201
  a105 := Tryz.isAgg201
  z105 := Tryz.sizeOf201
  v105 := Tryz.zeroValue201
  t119 := Tryz.underlying166
  a119 := Tryz.isAgg166
  z119 := Tryz.sizeOf166
  t138 := Tryz.underlying252
  a138 := Tryz.isAgg252
  z138 := Tryz.sizeOf252
  v138 := Tryz.zeroValue252
  t139 := Tryz.underlying253
  a139 := Tryz.isAgg253
  z139 := Tryz.sizeOf253
  v139 := Tryz.zeroValue253
  t146 := Tryz.underlying197
  a146 := Tryz.isAgg197
  z146 := Tryz.sizeOf197
  v146 := Tryz.zeroValue197
  g1 := by kernel_rfl
  g3 := by kernel_rfl
  g4 := by kernel_rfl }
open Go.RowKit Go.Lib in
theorem Tryz.strings_Split (s sep : ByteArray) (m : Int) (w : World) (hs : s.size < 4294967281) (hm : w.cell? ⟨0, 0, none⟩ = some (.int .i64 m)) (h1 : 1 ≤ sep.size) :
    Calls Tryz.prog 92 #[.string s, .string sep] w fun e w' =>
      e = .returned (.slice (some ⟨w.heap.size, 0, none⟩) (Lib.countB s sep + 1) (Lib.countB s sep + 1)) ∧ w' = w.alloc (.cells ((Lib.splitB sep 0 (Lib.countB s sep) s).map Value.string).toArray 9) := Any.strings_Split Tryz.lays146 (by kernel_rfl) s sep m w hs hm h1
def Tryz.lays147_ren : Go.Shelf.Ren := ⟨fun | 147 => 93 | 221 => 134 | 268 => 172 | 138 => 173 | 143 => 174 | 195 => 198 | 197 => 167 | 218 => 199 | 219 => 128 | 260 => 195 | 217 => 163 | 225 => 164 | 224 => 114 | 267 => 165 | 266 => 193 | 314 => 194 | n => n, fun | 9 => 9 | 3 => 3 | 31 => 109 | 4 => 4 | 0 => 0 | 105 => 201 | 21 => 21 | 5 => 5 | 46 => 156 | 119 => 166 | 139 => 253 | 138 => 252 | 146 => 197 | 51 => 196 | n => n, fun | 1 => 0 | 3 => 4 | 4 => 5 | n => n⟩
theorem Tryz.lays147 : Go.Proofs.Lays.n147 Tryz.prog Tryz.lays147_ren := {
  mixed := by kernel_rfl
  f138 := Tryz.func173.trans (congrArg some (by kernel_rfl))
  f143 := Tryz.func174.trans (congrArg some (by kernel_rfl))
  f147 := Tryz.func93.trans (congrArg some (by kernel_rfl))
  f195 := Tryz.func198.trans (congrArg some (by kernel_rfl))
  f197 := Tryz.func167.trans (congrArg some (by kernel_rfl))
  f217 := Tryz.func163.trans (congrArg some (by kernel_rfl))
  f218 := Tryz.func199.trans (congrArg some (by kernel_rfl))
  f219 := Tryz.func128.trans (congrArg some (by kernel_rfl))
  f221 := Tryz.func134.trans (congrArg some (by kernel_rfl))
  f224 := Tryz.func114.trans (congrArg some (by kernel_rfl))
  f225 := Tryz.func164.trans (congrArg some (by kernel_rfl))
  f260 := Tryz.func195.trans (congrArg some (by kernel_rfl))
  f266 := Tryz.func193.trans (congrArg some (by kernel_rfl))
  f267 := Tryz.func165.trans (congrArg some (by kernel_rfl))
  f268 := Tryz.func172.trans (congrArg some (by kernel_rfl))
  f314 := Tryz.func194.trans (congrArg some (by kernel_rfl))
  t0 := Tryz.underlying0
  a0 := Tryz.isAgg0
  z0 := Tryz.sizeOf0
  v0 := Tryz.zeroValue0
  t3 := Tryz.underlying3
  a3 := Tryz.isAgg3
  z3 := Tryz.sizeOf3
  v3 := Tryz.zeroValue3
  t4 := Tryz.underlying4
  a4 := Tryz.isAgg4
  z4 := Tryz.sizeOf4
  v4 := Tryz.zeroValue4
  t5 := Tryz.underlying5
  a5 := Tryz.isAgg5
  z5 := Tryz.sizeOf5
  v5 := Tryz.zeroValue5
  t9 := Tryz.underlying9
  a9 := Tryz.isAgg9
  z9 := Tryz.sizeOf9
  v9 := Tryz.zeroValue9
  t21 := Tryz.underlying21
  a21 := Tryz.isAgg21
  z21 := Tryz.sizeOf21
  v21 := Tryz.zeroValue21
  t31 := Tryz.underlying109
  a31 := Tryz.isAgg109
  z31 := Tryz.sizeOf109
  v31 := Tryz.zeroValue109
  t46 := Tryz.underlying156
  a46 := Tryz.isAgg156
  z46 := Tryz.sizeOf156
  v46 := Tryz.zeroValue156
  t51 := Tryz.underlying196
  a51 := Tryz.isAgg196
  z51 := Tryz.sizeOf196
  v51 := Tryz.zeroValue196
  t105 := Tryz.underlying201
  a105 := Tryz.isAgg201
  z105 := Tryz.sizeOf201
  v105 := Tryz.zeroValue201
  t119 := Tryz.underlying166
  a119 := Tryz.isAgg166
  z119 := Tryz.sizeOf166
  t138 := Tryz.underlying252
  a138 := Tryz.isAgg252
  z138 := Tryz.sizeOf252
  v138 := Tryz.zeroValue252
  t139 := Tryz.underlying253
  a139 := Tryz.isAgg253
  z139 := Tryz.sizeOf253
  v139 := Tryz.zeroValue253
  t146 := Tryz.underlying197
  a146 := Tryz.isAgg197
  z146 := Tryz.sizeOf197
  v146 := Tryz.zeroValue197
  g1 := by kernel_rfl
  g3 := by kernel_rfl
  g4 := by kernel_rfl }
open Go.RowKit Go.Lib in
theorem Tryz.strings_SplitN (s sep : ByteArray) (n : Nat) (m : Int) (w : World) (hs : s.size < 4294967281) (hm : w.cell? ⟨0, 0, none⟩ = some (.int .i64 m)) (h1 : 1 ≤ sep.size) (hn : 1 ≤ n) (hn63 : n ≤ 9223372036854775807) :
    Calls Tryz.prog 93 #[.string s, .string sep, .int .i64 n] w fun e w' =>
      e = .returned (.slice (some ⟨w.heap.size, 0, none⟩) (Lib.splitB sep 0 (min n (s.size + 1) - 1) s).length (min n (s.size + 1))) ∧ w' = w.alloc (.cells (Lib.cellsOf (Lib.splitB sep 0 (min n (s.size + 1) - 1) s) (min n (s.size + 1))) 9) := Any.strings_SplitN Tryz.lays147 (by kernel_rfl) s sep n m w hs hm h1 hn hn63
def Tryz.lays230_ren : Go.Shelf.Ren := ⟨fun | 230 => 132 | 197 => 167 | 118 => 168 | 165 => 169 | 166 => 64 | 168 => 170 | 270 => 171 | 167 => 70 | 169 => 66 | 260 => 195 | 240 => 108 | 241 => 196 | 242 => 197 | 276 => 156 | 277 => 217 | 278 => 218 | n => n, fun | 107 => 170 | 9 => 9 | 72 => 108 | 0 => 0 | 4 => 4 | 3 => 3 | 21 => 21 | 105 => 201 | 76 => 112 | 5 => 5 | 75 => 111 | 70 => 106 | 20 => 20 | 37 => 22 | 127 => 153 | 119 => 166 | 46 => 156 | 139 => 253 | 138 => 252 | 164 => 194 | 51 => 196 | 80 => 115 | n => n, fun | 3 => 4 | 4 => 5 | n => n⟩
theorem Tryz.lays230 : Go.Proofs.Lays.n230 Tryz.prog Tryz.lays230_ren := {
  mixed := by kernel_rfl
  f118 := Tryz.func168.trans (congrArg some (by kernel_rfl))
  f165 := Tryz.func169.trans (congrArg some (by kernel_rfl))
  f166 := Tryz.func64.trans (congrArg some (by kernel_rfl))
  f167 := Tryz.func70.trans (congrArg some (by kernel_rfl))
  f168 := Tryz.func170.trans (congrArg some (by kernel_rfl))
  f169 := Tryz.func66.trans (congrArg some (by kernel_rfl))
  f197 := Tryz.func167.trans (congrArg some (by kernel_rfl))
  f230 := Tryz.func132.trans (congrArg some (by kernel_rfl))
  f240 := Tryz.func108.trans (congrArg some (by kernel_rfl))
  f241 := Tryz.func196.trans (congrArg some (by kernel_rfl))
  f242 := Tryz.func197.trans (congrArg some (by kernel_rfl))
  f260 := Tryz.func195.trans (congrArg some (by kernel_rfl))
  f270 := Tryz.func171.trans (congrArg some (by kernel_rfl))
  f276 := Tryz.func156.trans (congrArg some (by kernel_rfl))
  f277 := Tryz.func217.trans (congrArg some (by kernel_rfl))
  f278 := Tryz.func218.trans (congrArg some (by kernel_rfl))
  t0 := Tryz.underlying0
  a0 := Tryz.isAgg0
  z0 := Tryz.sizeOf0
  v0 := Tryz.zeroValue0
  t3 := Tryz.underlying3
  a3 := Tryz.isAgg3
  z3 := Tryz.sizeOf3
  v3 := Tryz.zeroValue3
  t4 := Tryz.underlying4
  a4 := Tryz.isAgg4
  z4 := Tryz.sizeOf4
  v4 := Tryz.zeroValue4
  t5 := Tryz.underlying5
  a5 := Tryz.isAgg5
  z5 := Tryz.sizeOf5
  v5 := Tryz.zeroValue5
  t9 := Tryz.underlying9
  a9 := Tryz.isAgg9
  z9 := Tryz.sizeOf9
  v9 := Tryz.zeroValue9
  t20 := Tryz.underlying20
  a20 := Tryz.isAgg20
  z20 := Tryz.sizeOf20
  v20 := Tryz.zeroValue20
  t21 := Tryz.underlying21
  a21 := Tryz.isAgg21
  z21 := Tryz.sizeOf21
  v21 := Tryz.zeroValue21
  t37 := Tryz.underlying22
  a37 := Tryz.isAgg22
  z37 := Tryz.sizeOf22
  v37 := Tryz.zeroValue22
  t46 := Tryz.underlying156
  a46 := Tryz.isAgg156
  z46 := Tryz.sizeOf156
  v46 := Tryz.zeroValue156
  t51 := Tryz.underlying196
  a51 := Tryz.isAgg196
  z51 := Tryz.sizeOf196
  v51 := Tryz.zeroValue196
  t70 := Tryz.underlying106
  a70 := Tryz.isAgg106
  z70 := Tryz.sizeOf106
  v70 := Tryz.zeroValue106
  t72 := Tryz.underlying108
  a72 := Tryz.isAgg108
  z72 := Tryz.sizeOf108
  v72 := Tryz.zeroValue108
  t75 := Tryz.underlying111
  a75 := Tryz.isAgg111
  z75 := Tryz.sizeOf111
  v75 := Tryz.zeroValue111
  t76 := Tryz.underlying112
  a76 := Tryz.isAgg112
  z76 := Tryz.sizeOf112
  v76 := Tryz.zeroValue112
  t105 := Tryz.underlying201
  a105 := Tryz.isAgg201
  z105 := Tryz.sizeOf201
  v105 := Tryz.zeroValue201
  t107 := Tryz.underlying170
  a107 := Tryz.isAgg170
  z107 := Tryz.sizeOf170
  v107 := Tryz.zeroValue170
  t119 := Tryz.underlying166
  a119 := Tryz.isAgg166
  z119 := Tryz.sizeOf166
  t127 := Tryz.underlying153
  a127 := Tryz.isAgg153
  z127 := Tryz.sizeOf153
  v127 := Tryz.zeroValue153
  t138 := Tryz.underlying252
  a138 := Tryz.isAgg252
  z138 := Tryz.sizeOf252
  v138 := Tryz.zeroValue252
  t139 := Tryz.underlying253
  a139 := Tryz.isAgg253
  z139 := Tryz.sizeOf253
  v139 := Tryz.zeroValue253
  t164 := Tryz.underlying194
  a164 := Tryz.isAgg194
  z164 := Tryz.sizeOf194
  v164 := Tryz.zeroValue194
  g3 := by kernel_rfl
  g4 := by kernel_rfl }
theorem Tryz.Builder_Extra_230 : Builder.Extra Tryz.prog Tryz.lays230_ren := {
  sizeBuilder := by kernel_rfl
  liesBuilder := by kernel_rfl
  t5 := Tryz.underlying5
  a5 := Tryz.isAgg5
  z5 := Tryz.sizeOf5
  v5 := Tryz.zeroValue5
  infoByte := by kernel_rfl
  cellsByte := by kernel_rfl
  sizeByte := by kernel_rfl
  neB5 := by decide }
open Go.RowKit Go.Lib in
theorem Tryz.strings_Map_runes (g : Nat) (lb : Array Value) (eg : ∀ args w, (callFunc g args).run Tryz.prog w = .ok (.enter g args) w) (f : Int → Int) (s : ByteArray) (w : World) (hs : s.size < 35184372088832) (hf : MapAtRunes Tryz.prog g lb f w) (hnn : ∀ x : Nat, x ≤ 1114111 → 0 ≤ f x ∧ f x ≤ 2147483647) (hT : Lib.Utf8Tabs 4 5 w) :
    Calls Tryz.prog 132 #[.func (.func g) #[] lb, .string s] w fun e w' => e = .returned (.string ⟨(Lib.mapD f s.data.toList).toArray⟩) ∧ Below w.heap.size w w' := Any.strings_Map_runes Tryz.lays230 Tryz.Builder_Extra_230 g lb eg f s w hs hf hnn hT
def Tryz.lays185_ren : Go.Shelf.Ren := ⟨fun | 185 => 74 | 187 => 112 | 115 => 96 | 253 => 113 | 224 => 114 | 254 => 115 | 255 => 158 | 291 => 159 | n => n, fun | 37 => 22 | 3 => 3 | 4 => 4 | 0 => 0 | 5 => 5 | 46 => 156 | 9 => 9 | 146 => 197 | 51 => 196 | n => n, fun | 1 => 0 | n => n⟩
theorem Tryz.lays185 : Go.Proofs.Lays.n185 Tryz.prog Tryz.lays185_ren := {
  mixed := by kernel_rfl
  f115 := Tryz.func96.trans (congrArg some (by kernel_rfl))
  f185 := Tryz.func74.trans (congrArg some (by kernel_rfl))
  f187 := Tryz.func112.trans (congrArg some (by kernel_rfl))
  f224 := Tryz.func114.trans (congrArg some (by kernel_rfl))
  f253 := Tryz.func113.trans (congrArg some (by kernel_rfl))
  f254 := Tryz.func115.trans (congrArg some (by kernel_rfl))
  f255 := Tryz.func158.trans (congrArg some (by kernel_rfl))
  f291 := Tryz.func159.trans (congrArg some (by kernel_rfl))
  t0 := Tryz.underlying0
  a0 := Tryz.isAgg0
  z0 := Tryz.sizeOf0
  v0 := Tryz.zeroValue0
  t3 := Tryz.underlying3
  a3 := Tryz.isAgg3
  z3 := Tryz.sizeOf3
  v3 := Tryz.zeroValue3
  t4 := Tryz.underlying4
  a4 := Tryz.isAgg4
  z4 := Tryz.sizeOf4
  v4 := Tryz.zeroValue4
  t5 := Tryz.underlying5
  a5 := Tryz.isAgg5
  z5 := Tryz.sizeOf5
  v5 := Tryz.zeroValue5
  t9 := Tryz.underlying9
  a9 := Tryz.isAgg9
  z9 := Tryz.sizeOf9
  v9 := Tryz.zeroValue9
  t37 := Tryz.underlying22
  a37 := Tryz.isAgg22
  z37 := Tryz.sizeOf22
  v37 := Tryz.zeroValue22
  t46 := Tryz.underlying156
  a46 := Tryz.isAgg156
  z46 := Tryz.sizeOf156
  v46 := Tryz.zeroValue156
  t51 := Tryz.underlying196
  a51 := Tryz.isAgg196
  z51 := Tryz.sizeOf196
  v51 := Tryz.zeroValue196
  t146 := Tryz.underlying197
  a146 := Tryz.isAgg197
  z146 := Tryz.sizeOf197
  v146 := Tryz.zeroValue197
  g1 := by kernel_rfl }
open Go.Proofs Go.RowKit Go.Lib in
theorem Tryz.bytes_Index_at (a1 a2 : Addr) (n c1 k c2 : Nat) (xs ys : List Int) (m : Int) (w : World) (hx : xs.length = n) (hy : ys.length = k) (hr1 : ∀ x ∈ xs, 0 ≤ x ∧ x < 256) (hr2 : ∀ y ∈ ys, 0 ≤ y ∧ y < 256) (hc1 : ∀ i, i < n → w.cell? (a1.add i) = some (.int .u8 (xs.getD i 0))) (hc2 : ∀ i, i < k → w.cell? (a2.add i) = some (.int .u8 (ys.getD i 0))) (hcap : n ≤ c1) (hs : n < 4294967281) (hk : k ≤ 9223372036854775807) (hm : w.cell? ⟨0, 0, none⟩ = some (.int .i64 m)) :
    Calls Tryz.prog 74 #[.slice (some a1) n c1, .slice (some a2) k c2] w fun e w' => e = .returned (.int .i64 (Lib.index (Lib.bytesOf xs) (Lib.bytesOf ys))) ∧ ∃ q, w' = w.drewN q := Any.bytes_Index_at Tryz.lays185 a1 a2 n c1 k c2 xs ys m w hx hy hr1 hr2 hc1 hc2 hcap hs hk hm
open Go.Proofs Go.RowKit Go.Lib in
theorem Tryz.bytes_Index_nil (p2 : Option Addr) (k c2 : Nat) (w : World) (hk : k ≤ 9223372036854775807) (h1 : k = 1 → ∃ b2 o2 cv, p2 = some ⟨b2, o2, none⟩ ∧ w.cell? ⟨b2, o2, none⟩ = some (.int .u8 cv)) :
    Calls Tryz.prog 74 #[.slice none 0 0, .slice p2 k c2] w fun e w' => e = .returned (.int .i64 (if k = 0 then 0 else -1)) ∧ w' = w := Any.bytes_Index_nil Tryz.lays185 p2 k c2 w hk h1
end Go.Proofs
namespace Go.Proofs.YtlkdmbpbjhjkfaaGreatDoor
set_option linter.unusedVariables false
set_option linter.unusedSimpArgs false
set_option maxRecDepth 100000
def nums (l : List UInt8) : List Int := l.map fun u => (u.toNat : Int)
theorem nums_bytes (l : List UInt8) : Lib.bytesOf (nums l) = l := by
  unfold Lib.bytesOf nums
  rw [List.map_map]
  conv => rhs; rw [← List.map_id l]
  apply List.map_congr_left
  intro x _
  simp
theorem nums_rng (l : List UInt8) : ∀ x ∈ nums l, 0 ≤ x ∧ x < 256 := by
  intro x hx
  obtain ⟨u, _, rfl⟩ := List.mem_map.1 hx
  have := u.toNat_lt
  omega
theorem nums_get (l : List UInt8) (i : Nat) (h : i < l.length) : (nums l).getD i 0 = ((l.getD i 0).toNat : Int) := by
  simp [nums, List.getD, h]
theorem Rd.byte {w0 : World} {base : Nat} {H : List Seg} {A : Addr} {C : Nat} {l : List UInt8} (h : Rd tyB w0 base H (some A) C l) {w : World} (S : Sep w0 base w H) (i : Nat) (hi : i < l.length) : w.cell? (A.add i) = some (.int .u8 ((nums l).getD i 0)) := by
  obtain ⟨b, off, hA, hc⟩ := h.cells (by rintro rfl; simp at hi)
  cases hA
  rw [addr_add, nums_get l i hi]
  refine hc w S i _ ?_
  rw [tyB_cells]
  simp [hi, byt, List.getD]
theorem index_ok {w0 : World} {base : Nat} {H : List Seg} {A A2 : Option Addr} {C C2 : Nat} {l l2 : List UInt8} (h : Rd tyB w0 base H A C l) (h2 : Rd tyB w0 base H A2 C2 l2) (hl : l.length < 4294967281) (h3 : 2 ≤ l2.length) (T : Tabs w0 base) :
    SCalls Tryz.prog 74 [.slice A l.length C, .slice A2 l2.length C2] w0 base H (fun v H' => v = int (Lib.index l l2) ∧ H' = H) := by
  obtain ⟨m, hm⟩ := T.max
  have hc2 := h2.cap
  have hl2 := h2.le
  cases A with
  | none =>
    have hC := h.nil rfl
    have hle := h.le
    obtain rfl : l = [] := List.eq_nil_of_length_eq_zero (by omega)
    subst hC
    refine SCalls.of_same fun w S => ?_
    have := Tryz.bytes_Index_nil A2 l2.length C2 w (by omega) (by omega)
    rw [if_neg (by omega)] at this
    have e : Lib.index [] l2 = -1 := by
      cases l2 with
      | nil => simp at h3
      | cons c l2 => rfl
    rw [e]
    exact this
  | some a =>
    cases A2 with
    | none => have := h2.nil rfl; omega
    | some a2 =>
      refine SCalls.of_draws fun w S => ?_
      have := Tryz.bytes_Index_at a a2 l.length C l2.length C2 (nums l) (nums l2) m w (by simp [nums]) (by simp [nums]) (nums_rng _) (nums_rng _) (fun i hi => h.byte S i hi) (fun i hi => h2.byte S i hi) h.le hl (by omega) (S.cellBelow T.lt0 hm)
      rw [nums_bytes, nums_bytes] at this
      exact this
theorem cut_c (c : UInt8) (x : List UInt8) : cutC c x = if (Lib.cut x [c]).2.2 = true then some ((Lib.cut x [c]).1, (Lib.cut x [c]).2.1) else none := by
  induction x with
  | nil => rfl
  | cons a x ih =>
    have hg := Lib.index_ge x [c]
    unfold cutC
    by_cases h : a = c
    · subst h
      rw [if_pos rfl]
      have e : Lib.index (a :: x) [a] = 0 := by unfold Lib.index; simp [List.isPrefixOf]
      simp [Lib.cut, e]
    · rw [if_neg h, ih]
      have hp : List.isPrefixOf [c] (a :: x) = false := by
        simp only [List.isPrefixOf, Bool.and_true]
        simpa using fun h1 : c = a => h h1.symm
      have e : Lib.index (a :: x) [c] = if Lib.index x [c] = -1 then -1 else Lib.index x [c] + 1 := by
        rw [Lib.index, hp]
        by_cases h3 : Lib.index x [c] = -1 <;> simp [h3]
      unfold Lib.cut
      rw [e]
      by_cases h3 : Lib.index x [c] = -1
      · simp [h3]
      · have h4 : 0 ≤ Lib.index x [c] := by omega
        have h5 : 0 ≤ Lib.index x [c] + 1 := by omega
        have h6 : (Lib.index x [c] + 1).toNat = (Lib.index x [c]).toNat + 1 := by omega
        simp [h3, h4, h5, h6, Nat.add_right_comm]
theorem cut_le (c : UInt8) (x : List UInt8) : (Lib.cut x [c]).1.length ≤ x.length ∧ (Lib.cut x [c]).2.1.length ≤ x.length := by
  unfold Lib.cut
  split <;> simp; omega
theorem cut_ok {w0 : World} {base : Nat} {H : List Seg} {x : List UInt8} (c : UInt8) (hx : x.length < 4294967281) (T : Tabs w0 base) :
    SCalls Tryz.prog 53 [str x, str [c]] w0 base H (fun v H' => v = .tuple #[str (Lib.cut x [c]).1, str (Lib.cut x [c]).2.1, .bool (Lib.cut x [c]).2.2] ∧ H' = H) := by
  obtain ⟨m, hm⟩ := T.max
  refine SCalls.of_draws fun w S => ?_
  exact Tryz.strings_Cut ⟨⟨x⟩⟩ ⟨⟨[c]⟩⟩ m w (by rw [str_size]; omega) (S.cellBelow T.lt0 hm)
theorem spF_len (c : UInt8) (l : List UInt8) : (spF c l).length = l.count c + 1 := by
  induction l with
  | nil => rfl
  | cons a l ih =>
    unfold spF
    by_cases h : a = c
    · subst h; simp [ih]
    · have : (spF c l) ≠ [] := spF_ne c l
      cases hs : spF c l with
      | nil => exact absurd hs this
      | cons y ys =>
        rw [hs] at ih
        simp at ih
        rw [List.count_cons]
        simp [h, ih]
theorem split_ok {w0 : World} {base : Nat} {H : List Seg} {x : List UInt8} (c : UInt8) (hx : x.length < 4294967281) (T : Tabs w0 base) :
    SCalls Tryz.prog 92 [str x, str [c]] w0 base H (fun v H' => ∃ y : Sl tyS 9, y.l = spF c x ∧ v = .slice y.A y.l.length y.C ∧ H' = y.s :: H) := by
  obtain ⟨m, hm⟩ := T.max
  have hk : Lib.countB ⟨⟨x⟩⟩ ⟨⟨[c]⟩⟩ = x.count c := by
    exact count_c c _ x (Nat.lt_succ_self _)
  have hb : (Lib.splitB ⟨⟨[c]⟩⟩ 0 (Lib.countB ⟨⟨x⟩⟩ ⟨⟨[c]⟩⟩) ⟨⟨x⟩⟩).map (fun b => b.data.toList) = spF c x := by
    rw [Lib.splitB_data, hk]
    exact splitK_sp c x
  have hcells : ((Lib.splitB ⟨⟨[c]⟩⟩ 0 (Lib.countB ⟨⟨x⟩⟩ ⟨⟨[c]⟩⟩) ⟨⟨x⟩⟩).map Value.string).toArray = (tyS.cells (spF c x)).toArray := by
    rw [← hb]
    congr 1
    rw [show tyS.cells = fun l => l.map str from funext fun l => by simp [Ty.cells, tyS, str, Value.cells, List.flatMap_singleton', List.map_eq_flatMap]]
    simp only [List.map_map]
    rfl
  have hc := SCalls.of_alloc (P := Tryz.prog) (f := 92) (args := [str x, str [c]]) (w0 := w0) (base := base) (H := H) (v := fun b => .slice (some ⟨b, 0, none⟩) (x.count c + 1) (x.count c + 1)) (o := .cells (tyS.cells (spF c x)).toArray 9) fun w S => by
    have := Tryz.strings_Split ⟨⟨x⟩⟩ ⟨⟨[c]⟩⟩ m w (by rw [str_size]; omega) (S.cellBelow T.lt0 hm) (Nat.le_refl 1)
    rw [hcells, hk] at this
    exact this.mono fun e w' ⟨h1, h2⟩ => ⟨h1, 0, h2⟩
  refine hc.mono ?_
  rintro v H' ⟨b, rfl, rfl⟩
  have hle : (spF c x).length ≤ x.length + 1 := by rw [spF_len]; have := List.count_le_length (a := c) (l := x); omega
  obtain ⟨s, hs, ho⟩ := own_new tyS 9 b (spF c x) (spF c x).length _ rfl rfl (by omega)
  subst hs
  exact ⟨⟨_, _, _, _, ho⟩, rfl, by simp only [spF_len], rfl⟩
theorem trim_ok {w0 : World} {base : Nat} {H : List Seg} {x cs : List UInt8} (hx : x.length ≤ 9223372036854775807) (hcs : cs.length < 4294967281) (ha : cs.all (fun b => decide (b.toNat < 128)) = true) :
    SCalls Tryz.prog 102 [str x, str cs] w0 base H (fun v H' => v = str (Lib.trimS x cs) ∧ H' = H) := by
  refine SCalls.of_below fun w S => ?_
  exact Any.strings_Trim_laid Tryz.lays160 (by kernel_rfl) ⟨⟨x⟩⟩ ⟨⟨cs⟩⟩ w (by rw [str_size]; omega) (by rw [str_size]; omega) (fun j b hb => of_decide_eq_true (List.all_eq_true.1 ha b (List.mem_iff_getElem?.2 ⟨j, hb⟩)))
end Go.Proofs.YtlkdmbpbjhjkfaaGreatDoor
namespace Go.Proofs.YtlkdmbpbjhjkfaaGreatDoor
open Go.RowKit (Below)
set_option linter.unusedVariables false
set_option linter.unusedSimpArgs false
set_option linter.unusedSectionVars false
structure Ky (κ : Type) where
  val : κ → Value
  kd : TypeDesc → Bool
  same : ∀ d a b, kd d = true → ∃ t : Bool, Instr.sameNow d (val a) (val b) = some t ∧ (t = true ↔ a = b)
  plain : ∀ d, kd d = true → (match d with | .interface _ => false | .array _ _ => false | .struct _ => false | _ => true) = true
def kyI : Ky Int where
  val := int
  kd d := match d with | .int _ => true | _ => false
  same d a b h := by
    cases d <;> first | (cases h; done) | exact ⟨a == b, by simp [Instr.sameNow, int], by simp⟩
  plain d h := by cases d <;> first | (cases h; done) | rfl
def kyS : Ky (List UInt8) where
  val := str
  kd d := match d with | .string => true | _ => false
  same d a b h := by
    cases d <;> first | (cases h; done) | skip
    refine ⟨(ByteArray.mk ⟨a⟩ == ByteArray.mk ⟨b⟩), rfl, ?_⟩
    show ((Array.mk a) == (Array.mk b)) = true ↔ a = b
    simp
  plain d h := by cases d <;> first | (cases h; done) | rfl
section
variable {κ β : Type} (Q : Ky κ) (tv : β → Value)
def mapE : Nat → List (κ × β) → List MapEntry
  | _, [] => []
  | n, p :: r => ⟨Q.val p.1, tv p.2, n⟩ :: mapE (n + 1) r
def mapO (kvs : List (κ × β)) : Obj := .map (mapE Q tv 0 kvs).toArray kvs.length
end
def atK {κ β : Type} [DecidableEq κ] (a : κ) : List (κ × β) → Option β
  | [] => none
  | p :: r => if a = p.1 then some p.2 else atK a r
section
variable {κ β : Type} [DecidableEq κ] {Q : Ky κ} {tv : β → Value}
theorem mapE_snoc (n : Nat) (kvs : List (κ × β)) (a : κ) (v : β) : mapE Q tv n (kvs ++ [(a, v)]) = mapE Q tv n kvs ++ [⟨Q.val a, tv v, n + kvs.length⟩] := by
  induction kvs generalizing n with
  | nil => rfl
  | cons p r ih => simp only [List.cons_append, mapE, ih, List.length_cons]; rw [show n + 1 + r.length = n + (r.length + 1) by omega]
theorem findNow_at {d : TypeDesc} (hd : Q.kd d = true) (a : κ) (kvs : List (κ × β)) (n i : Nat) : ∃ r, Instr.findNow d (Q.val a) (mapE Q tv n kvs) i = some r ∧ r.map (·.2) = (atK a kvs).map tv := by
  induction kvs generalizing n i with
  | nil => exact ⟨none, rfl, rfl⟩
  | cons p r ih =>
    obtain ⟨t, ht, hab⟩ := Q.same d a p.1 hd
    rw [mapE, Instr.findNow]
    simp only [ht]
    cases t with
    | true => exact ⟨_, rfl, by rw [atK, if_pos (hab.1 rfl)]; rfl⟩
    | false =>
      obtain ⟨q, h1, h2⟩ := ih (n + 1) (i + 1)
      have : ¬ a = p.1 := fun h => by have := hab.2 h; cases this
      exact ⟨q, h1, by rw [atK, if_neg this]; exact h2⟩
theorem checkKey_run {P : Program} {w : World} {t : TypeId} {d : TypeDesc} (hu : P.underlying t = some d) (hd : Q.kd d = true) (a : κ) (e : Bool) : (Instr.checkKey e 10000 t (Q.val a)).run P w = .ok () w := by
  have hp := Q.plain d hd
  show (Instr.checkKey e (9999 + 1) t (Q.val a)).run P w = _
  unfold Instr.checkKey
  simp only [run_underlying hu, Sem.run_bind, Result.andThen_ok]
  cases d <;> first | (cases hp; done) | rfl
end
section
variable {X : Pt} {k : List Item} {E : Env} {ds : List Deferred} {H : List Seg} {ops : Array Oper} {os : List Oper}
  {d : Nat} {ty : TypeId} {pos : String} {after : Array Edge} {g : Option (Nat × Bool)} {κ β : Type} [DecidableEq κ] {Q : Ky κ} {tv : β → Value}
theorem Do.makeMap (Q : Ky κ) (tv : β → Value) {t : TypeId} : Does X E H (.makeMap t none) (fun v H' => ∃ b, v = .map (some b) ∧ H' = [(b, mapO Q tv ([] : List (κ × β)))] :: H) :=
  Does.core rfl fun dst ty pos after g ρ w hρ S => ⟨.map (some w.heap.size), w.alloc (.map #[] 0), _, by
    simp [execOp, Instr.makeMap, newObj, Sem.run], S.alloc _, w.heap.size, rfl, rfl⟩
theorem AtL.makeMap (Q : Ky κ) (tv : β → Value) {t : TypeId} (hg : Wd X ops E g) (hd : Nat.blt d X.n = true) (hk : ∀ b, AtL X ops os k ((d, .map (some b)) :: E) ds ([(b, mapO Q tv ([] : List (κ × β)))] :: H)) :
    AtL X ops (⟨some d, .makeMap t none, ty, pos, after, g⟩ :: os) k E ds H :=
  AtL.of (Do.makeMap Q tv) hg hd fun _ _ ⟨b, hv, hH⟩ => by subst hv; subst hH; exact hk b
theorem mapUpdate_run {P : Program} {w : World} {t kt et : TypeId} {dd : TypeDesc} {b : Nat} {kvs : List (κ × β)} {a : κ} {v : β} (hu : P.underlying t = some (.map kt et)) (hk : P.underlying kt = some dd) (hd : Q.kd dd = true) (hb : w.heap[b]? = some (mapO Q tv kvs)) (hno : atK a kvs = none) :
    (Instr.mapUpdate t (.map (some b)) (Q.val a) (tv v)).run P w = .ok () { w with heap := w.heap.setIfInBounds b (mapO Q tv (kvs ++ [(a, v)])) } := by
  obtain ⟨r, h1, h2⟩ := findNow_at (tv := tv) hd a kvs 0 0
  rw [hno] at h2
  obtain rfl : r = none := by cases r with | none => rfl | some q => cases h2
  have hg : (getObj b).run P w = .ok (mapO Q tv kvs) w := getObj_at hb rfl
  have hs : ∀ o, (setObj b o).run P w = .ok () { w with heap := w.heap.setIfInBounds b o } := fun o => setObj_run hb rfl
  unfold Instr.mapUpdate
  simp only [run_underlying hu, Sem.run_bind, Result.andThen_ok, hg, mapO, checkKey_run hk hd, Instr.findKey, run_underlying hk, h1, Sem.run_pure, hs]
  simp only [mapE_snoc, Nat.zero_add, List.push_toArray, List.length_append, List.length_singleton]
theorem Do.insert {t kt et : TypeId} {dd : TypeDesc} {x y z : Operand} {b : Nat} {kvs : List (κ × β)} {a : κ} {v : β} {s : Seg} {H' : List Seg} (i j : Nat) (hu : X.P.underlying t = some (.map kt et)) (hk : X.P.underlying kt = some dd) (hd : Q.kd dd = true)
    (hi : H[i]? = some s) (hj : s[j]? = some (b, mapO Q tv kvs)) (hno : atK a kvs = none) (hx : ev E x = some (.map (some b))) (hy : ev E y = some (Q.val a)) (hz : ev E z = some (tv v)) (hH : H.set i (s.set j (b, mapO Q tv (kvs ++ [(a, v)]))) = H') : Does X E H (.insert t x y z) (Is undef H') :=
  Does.coreU rfl fun dst ty pos after g ρ w hρ S => by
    have hb := (S.at_ hi hj).1
    refine ⟨_, H', ?_, hH ▸ S.setObj hi hj _, rfl, rfl⟩
    have := mapUpdate_run (P := X.P) hu hk hd hb hno (v := v)
    simp [execOp, hρ _ _ hx, hρ _ _ hy, hρ _ _ hz, this]
theorem AtL.insert {t kt et : TypeId} {dd : TypeDesc} {x y z : Operand} {b : Nat} {kvs : List (κ × β)} {a : κ} {v : β} {s : Seg} {H' : List Seg} (i j : Nat) (hu : X.P.underlying t = some (.map kt et)) (hk : X.P.underlying kt = some dd) (hd : Q.kd dd = true) (hg : Wd X ops E g)
    (hi : H[i]? = some s) (hj : s[j]? = some (b, mapO Q tv kvs)) (hno : atK a kvs = none) (hx : ev E x = some (.map (some b))) (hy : ev E y = some (Q.val a)) (hz : ev E z = some (tv v)) (hH : H.set i (s.set j (b, mapO Q tv (kvs ++ [(a, v)]))) = H') (hk2 : AtL X ops os k E ds H') :
    AtL X ops (⟨none, .insert t x y z, ty, pos, after, g⟩ :: os) k E ds H :=
  AtL.of (Do.insert i j hu hk hd hi hj hno hx hy hz hH) hg rfl fun _ _ ⟨hv, hH⟩ => by subst hv; subst hH; exact hk2
theorem lookup_run {P : Program} {w : World} {t kt et : TypeId} {dd : TypeDesc} {b : Nat} {kvs : List (κ × β)} {a : κ} {z : Value} (ok : Bool) (hu : P.underlying t = some (.map kt et)) (hk : P.underlying kt = some dd) (hd : Q.kd dd = true) (hb : w.heap[b]? = some (mapO Q tv kvs)) (hz : zeroV P et = some z) :
    (Instr.lookup t (.map (some b)) (Q.val a) ok).run P w = .ok (if ok then .tuple #[((atK a kvs).map tv).getD z, .bool (atK a kvs).isSome] else ((atK a kvs).map tv).getD z) w := by
  obtain ⟨r, h1, h2⟩ := findNow_at (tv := tv) hd a kvs 0 0
  have hg : (getObj b).run P w = .ok (mapO Q tv kvs) w := getObj_at hb rfl
  unfold Instr.lookup
  simp only [run_underlying hu, Sem.run_bind, Result.andThen_ok, hg, mapO, Sem.run_pure, checkKey_run hk hd, Instr.findKey, run_underlying hk, h1]
  cases r with
  | none =>
    have h3 : atK a kvs = none := by cases h : atK a kvs with | none => rfl | some q => rw [h] at h2; cases h2
    simp only [zeroV_run hz, Sem.run_bind, Result.andThen_ok, Sem.run_pure, h3, Option.map_none, Option.getD_none, Option.isSome_none]
  | some q =>
    obtain ⟨q1, q2⟩ := q
    cases h3 : atK a kvs with
    | none => rw [h3] at h2; cases h2
    | some u =>
      rw [h3] at h2
      simp only [Option.map_some, Option.some.injEq] at h2
      subst h2
      cases ok <;> rfl
theorem Do.lookup {t kt et : TypeId} {dd : TypeDesc} {x y : Operand} {b : Nat} {kvs : List (κ × β)} {a : κ} {z : Value} {s : Seg} {v : Value} (ok : Bool) (i j : Nat) (hu : X.P.underlying t = some (.map kt et)) (hk : X.P.underlying kt = some dd) (hd : Q.kd dd = true) (hz : zeroV X.P et = some z)
    (hi : H[i]? = some s) (hj : s[j]? = some (b, mapO Q tv kvs)) (hx : ev E x = some (.map (some b))) (hy : ev E y = some (Q.val a)) (hv : (if ok then .tuple #[((atK a kvs).map tv).getD z, .bool (atK a kvs).isSome] else ((atK a kvs).map tv).getD z) = v) : Does X E H (.lookup t x y ok) (Is v H) :=
  Does.core rfl fun dst ty pos after g ρ w hρ S => ⟨v, w, H, by
    have := lookup_run (P := X.P) (a := a) ok hu hk hd (S.at_ hi hj).1 hz
    simp [execOp, hρ _ _ hx, hρ _ _ hy, this, hv], S, rfl, rfl⟩
theorem AtL.lookup {t kt et : TypeId} {dd : TypeDesc} {x y : Operand} {b : Nat} {kvs : List (κ × β)} {a : κ} {z : Value} {s : Seg} {v : Value} {ok : Bool} (i j : Nat) (hu : X.P.underlying t = some (.map kt et)) (hk : X.P.underlying kt = some dd) (hd : Q.kd dd = true) (hz : zeroV X.P et = some z) (hg : Wd X ops E g) (hd2 : Nat.blt d X.n = true)
    (hi : H[i]? = some s) (hj : s[j]? = some (b, mapO Q tv kvs)) (hx : ev E x = some (.map (some b))) (hy : ev E y = some (Q.val a)) (hv : (if ok then .tuple #[((atK a kvs).map tv).getD z, .bool (atK a kvs).isSome] else ((atK a kvs).map tv).getD z) = v) (hk2 : AtL X ops os k ((d, v) :: E) ds H) :
    AtL X ops (⟨some d, .lookup t x y ok, ty, pos, after, g⟩ :: os) k E ds H := AtL.ofIs (Do.lookup ok i j hu hk hd hz hi hj hx hy hv) hg hd2 hk2
end
end Go.Proofs.YtlkdmbpbjhjkfaaGreatDoor
namespace Go.Proofs.YtlkdmbpbjhjkfaaGreatDoor
open Go.RowKit (Below)
set_option linter.unusedVariables false
set_option linter.unusedSimpArgs false
def errV (te : TypeId) (a : Option Addr) (ok : Bool) : Value := if ok then .nilIface else .iface te (.pointer a)
theorem eqIn_err {P : Program} {w : World} {n : Nat} {t te : TypeId} {a : Option Addr} {ok : Bool} {ms : Array (String × TypeId)} (hu : P.underlying t = some (.interface ms)) : (Op.equalIn (n + 1) t (errV te a ok) .nilIface).run P w = .ok ok w := by
  cases ok with
  | true => exact eqIn_nilIface hu
  | false => exact eqIn_iface_nil hu
section rules
variable {X : Pt} {E : Env} {H : List Seg} {ops : Array Oper} {os : List Oper} {k : List Item} {ds : List Deferred} {d : Nat} {ty : TypeId} {pos : String} {after : Array Edge} {g : Option (Nat × Bool)}
theorem Do.neErr {tx tz : TypeId} {x : Operand} {ms : Array (String × TypeId)} {te : TypeId} {a : Option Addr} {ok : Bool} (hu : X.P.underlying tx = some (.interface ms)) (hx : ev E x = some (errV te a ok)) : Does X E H (.binOp .neq tx x (.const .nilIface) tz) (Is (.bool (!ok)) H) :=
  Do.neBy (by cases ok <;> rfl) (by cases ok <;> cases x <;> rfl) hx rfl (fun w => eqIn_err hu)
theorem AtL.neErr {tx tz : TypeId} {x : Operand} {ms : Array (String × TypeId)} {te : TypeId} {a : Option Addr} {ok : Bool} (hu : X.P.underlying tx = some (.interface ms)) (hg : Wd X ops E g) (hd : Nat.blt d X.n = true) (hx : ev E x = some (errV te a ok)) (hk : AtL X ops os k ((d, .bool (!ok)) :: E) ds H) :
    AtL X ops (⟨some d, .binOp .neq tx x (.const .nilIface) tz, ty, pos, after, g⟩ :: os) k E ds H :=
  AtL.ofIs (Do.neErr hu hx) hg hd hk
end rules
section calls
variable {P : Program} {f : FuncId} {args : List Value} {w0 : World} {base : Nat} {H : List Seg}
theorem SCalls.of_belowX {Q : Value → Prop} (h : ∀ w, Sep w0 base w H → Calls P f args.toArray w fun e w' => ∃ v, e = .returned v ∧ Q v ∧ Below w.heap.size w w') : SCalls P f args w0 base H (fun u H' => Q u ∧ H' = H) :=
  fun w S => (h w S).mono fun e w' ⟨v, he, hq, hw⟩ => ⟨v, H, he, ⟨hq, rfl⟩, S.kept hw⟩
end calls
end Go.Proofs.YtlkdmbpbjhjkfaaGreatDoor
namespace Go.Proofs.YtlkdmbpbjhjkfaaGreatDoor
set_option linter.unusedVariables false
set_option linter.unusedSimpArgs false
set_option maxRecDepth 100000
def rsV (l : List UInt8) : Value := .agg #[str l]
def REASONS : List (Int × List UInt8) := [(200, [79, 75]), (400, [66, 97, 100, 32, 82, 101, 113, 117, 101, 115, 116]), (404, [78, 111, 116, 32, 70, 111, 117, 110, 100]), (405, [77, 101, 116, 104, 111, 100, 32, 78, 111, 116, 32, 65, 108, 108, 111, 119, 101, 100]), (411, [76, 101, 110, 103, 116, 104, 32, 82, 101, 113, 117, 105, 114, 101, 100]), (413, [67, 111, 110, 116, 101, 110, 116, 32, 84, 111, 111, 32, 76, 97, 114, 103, 101]), (414, [85, 82, 73, 32, 84, 111, 111, 32, 76, 111, 110, 103]), (415, [85, 110, 115, 117, 112, 112, 111, 114, 116, 101, 100, 32, 77, 101, 100, 105, 97, 32, 84, 121, 112, 101]), (417, [69, 120, 112, 101, 99, 116, 97, 116, 105, 111, 110, 32, 70, 97, 105, 108, 101, 100]), (429, [84, 111, 111, 32, 77, 97, 110, 121, 32, 82, 101, 113, 117, 101, 115, 116, 115]), (431, [82, 101, 113, 117, 101, 115, 116, 32, 72, 101, 97, 100, 101, 114, 32, 70, 105, 101, 108, 100, 115, 32, 84, 111, 111, 32, 76, 97, 114, 103, 101]), (501, [78, 111, 116, 32, 73, 109, 112, 108, 101, 109, 101, 110, 116, 101, 100]), (503, [83, 101, 114, 118, 105, 99, 101, 32, 85, 110, 97, 118, 97, 105, 108, 97, 98, 108, 101]), (505, [72, 84, 84, 80, 32, 86, 101, 114, 115, 105, 111, 110, 32, 78, 111, 116, 32, 83, 117, 112, 112, 111, 114, 116, 101, 100])]
def reasonF (s : Int) : List UInt8 := (atK s REASONS).getD []
theorem rs_get (o : Option (List UInt8)) : ((o.map rsV).getD (.agg #[str []])) = .agg #[str (o.getD [])] := by cases o <;> rfl
theorem reasonF_len (s : Int) : (reasonF s).length ≤ 40 := by
  have key : ∀ l : List (Int × List UInt8), (∀ p ∈ l, p.2.length ≤ 40) → ((atK s l).getD []).length ≤ 40 := by
    intro l
    induction l with
    | nil => intro _; simp [atK]
    | cons p r ih =>
      intro h
      rw [atK]
      split
      · exact h p (by simp)
      · exact ih fun q hq => h q (by simp [hq])
  exact key REASONS (by decide)
theorem reason_200 {s : Int} (h : reasonF s ≠ []) : 200 ≤ s ∧ s ≤ 505 := by
  have key : ∀ l : List (Int × List UInt8), (∀ p ∈ l, 200 ≤ p.1 ∧ p.1 ≤ 505) → (atK s l).getD [] ≠ [] → 200 ≤ s ∧ s ≤ 505 := by
    intro l
    induction l with
    | nil => intro _ h; simp [atK] at h
    | cons p r ih =>
      intro h h2
      rw [atK] at h2
      split at h2
      · rename_i h3; rw [h3]; exact h p (by simp)
      · exact ih (fun q hq => h q (by simp [hq])) h2
  exact key REASONS (by decide) h
def ownF (f : Fld) : Bool := decide (lowerF f.1 = lowerF CLEN ∨ lowerF f.1 = lowerF CONN ∨ lowerF f.1 = lowerF TENC)
theorem one_field (f : Fld) (nm : List UInt8) : (fieldF [f] nm).2 = if lowerF f.1 = lowerF nm then 1 else 0 := by
  by_cases h : lowerF f.1 = lowerF nm <;> simp [fieldF, allF, h]
theorem one_pos {f : Fld} {nm : List UInt8} : (0 : Int) < ((fieldF [f] nm).2 : Int) ↔ lowerF f.1 = lowerF nm := by
  rw [one_field]; split <;> simp [*]
def fldR (f : Fld) : Bool := fieldOk f && !ownF f
def sumF (fs : List Fld) : Nat := (fs.map fun f => f.1.length + f.2.length).sum
theorem sumF_snoc (fs : List Fld) (k : Nat) (h : k < fs.length) : sumF (fs.take (k + 1)) = sumF (fs.take k) + ((fs.getD k ([], [])).1.length + (fs.getD k ([], [])).2.length) := by
  rw [List.take_succ_eq_append_getElem h, show fs.getD k ([], []) = fs[k] by simp [List.getD, h]]
  simp only [sumF, List.map_append, List.sum_append, List.map_cons, List.map_nil, List.sum_cons, List.sum_nil, Nat.add_zero]
theorem sumF_take (fs : List Fld) (k : Nat) : sumF (fs.take k) ≤ sumF fs := by
  conv => rhs; rw [← List.take_append_drop k fs]
  simp only [sumF, List.map_append, List.sum_append]; omega
structure RespV where
  st : Int
  fs : List Fld
  body : List UInt8
  keep : Bool
deriving DecidableEq
def RespV.zero : RespV := ⟨0, [], [], false⟩
def okR (r : RespV) : Bool := decide (reasonF r.st ≠ []) && decide (r.fs.length ≤ 16) && decide (r.body.length ≤ 65535) && r.fs.all fldR && decide (sumF r.fs ≤ 4096)
def respE (r : RespV) : Int := if okR r then 0 else 2
theorem respE_ok {r : RespV} (h : respE r = 0) : okR r = true := by
  unfold respE at h
  split at h
  · assumption
  · cases h
def H11 : List UInt8 := [72, 84, 84, 80, 47, 49, 46, 49, 32]
def CLN : List UInt8 := [67, 111, 110, 116, 101, 110, 116, 45, 76, 101, 110, 103, 116, 104, 58, 32]
def CCL : List UInt8 := [67, 111, 110, 110, 101, 99, 116, 105, 111, 110, 58, 32, 99, 108, 111, 115, 101]
def fieldsR (fs : List Fld) : List UInt8 := fs.flatMap fun f => f.1 ++ ([58, 32] ++ (f.2 ++ [13, 10]))
def stB (st : Int) : List UInt8 := H11 ++ (decF st.toNat ++ ([32] ++ (reasonF st ++ [13, 10])))
def lenB (n : Nat) : List UInt8 := CLN ++ (decF n ++ [13, 10])
def endB (keep : Bool) : List UInt8 := (if keep then [] else CCL ++ [13, 10]) ++ [13, 10]
def headR (r : RespV) : List UInt8 := stB r.st ++ (fieldsR r.fs ++ (lenB r.body.length ++ endB r.keep))
def respB (r : RespV) : List UInt8 := headR r ++ r.body
def respL (r : RespV) : List UInt8 := if okR r then respB r else []
theorem fieldsR_snoc (fs : List Fld) (k : Nat) (h : k < fs.length) : fieldsR (fs.take (k + 1)) = fieldsR (fs.take k) ++ ((fs.getD k ([], [])).1 ++ ([58, 32] ++ ((fs.getD k ([], [])).2 ++ [13, 10]))) := by
  rw [List.take_succ_eq_append_getElem h, show fs.getD k ([], []) = fs[k] by simp [List.getD, h]]
  simp only [fieldsR, List.flatMap_append, List.flatMap_cons, List.flatMap_nil, List.append_nil]
theorem fieldsR_len (fs : List Fld) : (fieldsR fs).length = sumF fs + 4 * fs.length := by
  induction fs with
  | nil => rfl
  | cons f fs ih =>
    simp only [fieldsR, List.flatMap_cons, List.length_append, List.length_cons, List.length_nil, sumF, List.map_cons, List.sum_cons] at ih ⊢
    omega
theorem part_ok {n c : List UInt8} (hc : c.length ≤ 2000) : writeE ⟨[65], [47], 0, [(n, ([120] ++ c) ++ [120])]⟩ = if (wordF n 64 && c.all valCh) = true then 0 else 2 := by
  have hv : valueF (([120] ++ c) ++ [120]) = c.all valCh := by
    have h1 : trimF (([120] ++ c) ++ [120]) = ([120] ++ c) ++ [120] := by
      rw [trim_same]
      right
      refine ⟨by simp; decide, ?_⟩
      have : ((([120] ++ c) ++ [120]) : List UInt8).getD ((([120] ++ c) ++ [120] : List UInt8).length - 1) 0 = 120 := by simp
      rw [this]; decide
    have h2 : (([120] ++ c) ++ [120] : List UInt8).all valCh = c.all valCh := by
      rw [List.all_append, List.all_append]
      have : ([120] : List UInt8).all valCh = true := by decide
      rw [this]; simp
    rw [valueF, h1, h2]; simp
  have hh : hostsF [(n, ([120] ++ c) ++ [120])] 0 = true := by
    rw [hostsF, one_field]
    split <;> simp
  have hok : okF ⟨[65], [47], 0, [(n, ([120] ++ c) ++ [120])]⟩ = (wordF n 64 && c.all valCh) := by
    simp only [okF, hh, List.all_cons, List.all_nil, fieldOk, hv, List.length_cons, List.length_nil, Bool.and_true]
    have h1 : wordF [65] 16 = true := by decide +kernel
    have h2 : targetF [47] = true := by decide +kernel
    rw [h1, h2]; simp
  rw [writeE, writeOk, hok]
  by_cases hw : (wordF n 64 && c.all valCh) = true
  · have hn : n.length ≤ 64 := by
      simp only [Bool.and_eq_true, wordF, decide_eq_true_eq] at hw; omega
    rw [hw, if_pos rfl, decide_eq_true (by
      simp only [headB, lineB, fieldsB, fieldB, HTTP1, List.length_append, List.length_cons, List.length_nil]; omega)]
    rfl
  · rw [if_neg hw]
    rw [Bool.not_eq_true] at hw
    rw [hw]; rfl
set_option maxHeartbeats 400000 in
theorem reason_ok {w0 : World} {base : Nat} {H : List Seg} (st : Int) :
    SCalls Tryz.prog 65 [.int .i64 st] w0 base (H) (fun v H' => v = str (reasonF st) ∧ H' = H) := by
  refine SCalls.of_walk (n := 22) Tryz.func65 rfl rfl rfl fun cs => ?_
  refine At.seq ?_
  refine At.region ?_
  refine AtL.assign (.inl rfl) rfl rfl ?_
  refine AtL.done ?_
  refine At.seq ?_
  refine At.region ?_
  refine AtL.makeMap kyI rsV (.inl rfl) rfl ?_
  intro b1
  refine AtL.build (cs := [str [79, 75]]) tf_lay151 (.inl rfl) rfl rfl rfl ?_
  refine AtL.insert (Q := kyI) (tv := rsV) (a := 200) (v := [79, 75]) (H' := [(b1, mapO kyI rsV (REASONS.take 1))] :: H) 0 0 Tryz.underlying152 Tryz.underlying3 rfl (.inl rfl) rfl rfl (by first | decide | rfl) rfl rfl rfl rfl ?_
  refine AtL.build (cs := [str [66, 97, 100, 32, 82, 101, 113, 117, 101, 115, 116]]) tf_lay151 (.inl rfl) rfl rfl rfl ?_
  refine AtL.insert (Q := kyI) (tv := rsV) (a := 400) (v := [66, 97, 100, 32, 82, 101, 113, 117, 101, 115, 116]) (H' := [(b1, mapO kyI rsV (REASONS.take 2))] :: H) 0 0 Tryz.underlying152 Tryz.underlying3 rfl (.inl rfl) rfl rfl (by first | decide | rfl) rfl rfl rfl rfl ?_
  refine AtL.build (cs := [str [78, 111, 116, 32, 70, 111, 117, 110, 100]]) tf_lay151 (.inl rfl) rfl rfl rfl ?_
  refine AtL.insert (Q := kyI) (tv := rsV) (a := 404) (v := [78, 111, 116, 32, 70, 111, 117, 110, 100]) (H' := [(b1, mapO kyI rsV (REASONS.take 3))] :: H) 0 0 Tryz.underlying152 Tryz.underlying3 rfl (.inl rfl) rfl rfl (by first | decide | rfl) rfl rfl rfl rfl ?_
  refine AtL.build (cs := [str [77, 101, 116, 104, 111, 100, 32, 78, 111, 116, 32, 65, 108, 108, 111, 119, 101, 100]]) tf_lay151 (.inl rfl) rfl rfl rfl ?_
  refine AtL.insert (Q := kyI) (tv := rsV) (a := 405) (v := [77, 101, 116, 104, 111, 100, 32, 78, 111, 116, 32, 65, 108, 108, 111, 119, 101, 100]) (H' := [(b1, mapO kyI rsV (REASONS.take 4))] :: H) 0 0 Tryz.underlying152 Tryz.underlying3 rfl (.inl rfl) rfl rfl (by first | decide | rfl) rfl rfl rfl rfl ?_
  refine AtL.build (cs := [str [76, 101, 110, 103, 116, 104, 32, 82, 101, 113, 117, 105, 114, 101, 100]]) tf_lay151 (.inl rfl) rfl rfl rfl ?_
  refine AtL.insert (Q := kyI) (tv := rsV) (a := 411) (v := [76, 101, 110, 103, 116, 104, 32, 82, 101, 113, 117, 105, 114, 101, 100]) (H' := [(b1, mapO kyI rsV (REASONS.take 5))] :: H) 0 0 Tryz.underlying152 Tryz.underlying3 rfl (.inl rfl) rfl rfl (by first | decide | rfl) rfl rfl rfl rfl ?_
  refine AtL.build (cs := [str [67, 111, 110, 116, 101, 110, 116, 32, 84, 111, 111, 32, 76, 97, 114, 103, 101]]) tf_lay151 (.inl rfl) rfl rfl rfl ?_
  refine AtL.insert (Q := kyI) (tv := rsV) (a := 413) (v := [67, 111, 110, 116, 101, 110, 116, 32, 84, 111, 111, 32, 76, 97, 114, 103, 101]) (H' := [(b1, mapO kyI rsV (REASONS.take 6))] :: H) 0 0 Tryz.underlying152 Tryz.underlying3 rfl (.inl rfl) rfl rfl (by first | decide | rfl) rfl rfl rfl rfl ?_
  refine AtL.build (cs := [str [85, 82, 73, 32, 84, 111, 111, 32, 76, 111, 110, 103]]) tf_lay151 (.inl rfl) rfl rfl rfl ?_
  refine AtL.insert (Q := kyI) (tv := rsV) (a := 414) (v := [85, 82, 73, 32, 84, 111, 111, 32, 76, 111, 110, 103]) (H' := [(b1, mapO kyI rsV (REASONS.take 7))] :: H) 0 0 Tryz.underlying152 Tryz.underlying3 rfl (.inl rfl) rfl rfl (by first | decide | rfl) rfl rfl rfl rfl ?_
  refine AtL.build (cs := [str [85, 110, 115, 117, 112, 112, 111, 114, 116, 101, 100, 32, 77, 101, 100, 105, 97, 32, 84, 121, 112, 101]]) tf_lay151 (.inl rfl) rfl rfl rfl ?_
  refine AtL.insert (Q := kyI) (tv := rsV) (a := 415) (v := [85, 110, 115, 117, 112, 112, 111, 114, 116, 101, 100, 32, 77, 101, 100, 105, 97, 32, 84, 121, 112, 101]) (H' := [(b1, mapO kyI rsV (REASONS.take 8))] :: H) 0 0 Tryz.underlying152 Tryz.underlying3 rfl (.inl rfl) rfl rfl (by first | decide | rfl) rfl rfl rfl rfl ?_
  refine AtL.build (cs := [str [69, 120, 112, 101, 99, 116, 97, 116, 105, 111, 110, 32, 70, 97, 105, 108, 101, 100]]) tf_lay151 (.inl rfl) rfl rfl rfl ?_
  refine AtL.insert (Q := kyI) (tv := rsV) (a := 417) (v := [69, 120, 112, 101, 99, 116, 97, 116, 105, 111, 110, 32, 70, 97, 105, 108, 101, 100]) (H' := [(b1, mapO kyI rsV (REASONS.take 9))] :: H) 0 0 Tryz.underlying152 Tryz.underlying3 rfl (.inl rfl) rfl rfl (by first | decide | rfl) rfl rfl rfl rfl ?_
  refine AtL.build (cs := [str [84, 111, 111, 32, 77, 97, 110, 121, 32, 82, 101, 113, 117, 101, 115, 116, 115]]) tf_lay151 (.inl rfl) rfl rfl rfl ?_
  refine AtL.insert (Q := kyI) (tv := rsV) (a := 429) (v := [84, 111, 111, 32, 77, 97, 110, 121, 32, 82, 101, 113, 117, 101, 115, 116, 115]) (H' := [(b1, mapO kyI rsV (REASONS.take 10))] :: H) 0 0 Tryz.underlying152 Tryz.underlying3 rfl (.inl rfl) rfl rfl (by first | decide | rfl) rfl rfl rfl rfl ?_
  refine AtL.build (cs := [str [82, 101, 113, 117, 101, 115, 116, 32, 72, 101, 97, 100, 101, 114, 32, 70, 105, 101, 108, 100, 115, 32, 84, 111, 111, 32, 76, 97, 114, 103, 101]]) tf_lay151 (.inl rfl) rfl rfl rfl ?_
  refine AtL.insert (Q := kyI) (tv := rsV) (a := 431) (v := [82, 101, 113, 117, 101, 115, 116, 32, 72, 101, 97, 100, 101, 114, 32, 70, 105, 101, 108, 100, 115, 32, 84, 111, 111, 32, 76, 97, 114, 103, 101]) (H' := [(b1, mapO kyI rsV (REASONS.take 11))] :: H) 0 0 Tryz.underlying152 Tryz.underlying3 rfl (.inl rfl) rfl rfl (by first | decide | rfl) rfl rfl rfl rfl ?_
  refine AtL.build (cs := [str [78, 111, 116, 32, 73, 109, 112, 108, 101, 109, 101, 110, 116, 101, 100]]) tf_lay151 (.inl rfl) rfl rfl rfl ?_
  refine AtL.insert (Q := kyI) (tv := rsV) (a := 501) (v := [78, 111, 116, 32, 73, 109, 112, 108, 101, 109, 101, 110, 116, 101, 100]) (H' := [(b1, mapO kyI rsV (REASONS.take 12))] :: H) 0 0 Tryz.underlying152 Tryz.underlying3 rfl (.inl rfl) rfl rfl (by first | decide | rfl) rfl rfl rfl rfl ?_
  refine AtL.build (cs := [str [83, 101, 114, 118, 105, 99, 101, 32, 85, 110, 97, 118, 97, 105, 108, 97, 98, 108, 101]]) tf_lay151 (.inl rfl) rfl rfl rfl ?_
  refine AtL.insert (Q := kyI) (tv := rsV) (a := 503) (v := [83, 101, 114, 118, 105, 99, 101, 32, 85, 110, 97, 118, 97, 105, 108, 97, 98, 108, 101]) (H' := [(b1, mapO kyI rsV (REASONS.take 13))] :: H) 0 0 Tryz.underlying152 Tryz.underlying3 rfl (.inl rfl) rfl rfl (by first | decide | rfl) rfl rfl rfl rfl ?_
  refine AtL.build (cs := [str [72, 84, 84, 80, 32, 86, 101, 114, 115, 105, 111, 110, 32, 78, 111, 116, 32, 83, 117, 112, 112, 111, 114, 116, 101, 100]]) tf_lay151 (.inl rfl) rfl rfl rfl ?_
  refine AtL.insert (Q := kyI) (tv := rsV) (a := 505) (v := [72, 84, 84, 80, 32, 86, 101, 114, 115, 105, 111, 110, 32, 78, 111, 116, 32, 83, 117, 112, 112, 111, 114, 116, 101, 100]) (H' := [(b1, mapO kyI rsV (REASONS.take 14))] :: H) 0 0 Tryz.underlying152 Tryz.underlying3 rfl (.inl rfl) rfl rfl (by first | decide | rfl) rfl rfl rfl rfl ?_
  refine AtL.move (.inl rfl) rfl rfl ?_
  refine AtL.move (.inl rfl) rfl rfl ?_
  refine AtL.lookup (Q := kyI) (tv := rsV) (a := st) (v := .agg #[str ((atK st (REASONS.take 14)).getD [])]) 0 0 Tryz.underlying152 Tryz.underlying3 rfl tf_zero151 (.inl rfl) rfl rfl rfl rfl rfl (rs_get _) ?_
  refine AtL.field (v := str ((atK st (REASONS.take 14)).getD [])) (.inl rfl) rfl rfl rfl ?_
  refine AtL.assign (.inl rfl) rfl rfl ?_
  refine AtL.done ?_
  refine At.pick (H' := H) [] 1 rfl rfl ?_
  exact At.ret Tryz.func65 rfl rfl (⟨rfl, rfl⟩)
end Go.Proofs.YtlkdmbpbjhjkfaaGreatDoor
namespace Go.Proofs.YtlkdmbpbjhjkfaaGreatDoor
set_option linter.unusedVariables false
set_option linter.unusedSimpArgs false
set_option maxRecDepth 100000
theorem own_yes {f : Fld} (h : lowerF f.1 = lowerF CLEN ∨ lowerF f.1 = lowerF CONN ∨ lowerF f.1 = lowerF TENC) : ownF f = true := decide_eq_true h
theorem own_not {f : Fld} (h1 : ¬ lowerF f.1 = lowerF CLEN) (h2 : ¬ lowerF f.1 = lowerF CONN) (h3 : ¬ lowerF f.1 = lowerF TENC) : ownF f = false := decide_eq_false (by rintro (h | h | h); exact h1 h; exact h2 h; exact h3 h)
set_option maxHeartbeats 400000 in
theorem own_ok {w0 : World} {base : Nat} {H : List Seg} {n v : List UInt8} (hn : n.length ≤ 140737488355000) (hv : v.length ≤ 140737488355000) :
    SCalls Tryz.prog 106 [.agg #[str n, str v]] w0 base (H) (fun u H' => u = .bool (ownF (n, v)) ∧ H' = H) := by
  refine SCalls.of_walk (n := 24) Tryz.func106 rfl rfl rfl fun cs => ?_
  refine At.seq ?_
  refine At.region ?_
  refine AtL.box (cs := #[str n, str v]) rfl (.inl rfl) rfl rfl ?_
  intro b1
  refine AtL.assign (.inl rfl) rfl rfl ?_
  refine AtL.done ?_
  refine At.seq ?_
  refine At.seq ?_
  refine At.region ?_
  refine AtL.buildSlice (cs := [str [99, 111, 110, 116, 101, 110, 116, 45, 108, 101, 110, 103, 116, 104], str [99, 111, 110, 110, 101, 99, 116, 105, 111, 110], str [116, 114, 97, 110, 115, 102, 101, 114, 45, 101, 110, 99, 111, 100, 105, 110, 103]]) Tryz.underlying109 tf_zero9 tf_sz9 rfl rfl (.inl rfl) rfl rfl rfl ?_
  intro b2
  refine AtL.own1 tyS (l := ([[99, 111, 110, 116, 101, 110, 116, 45, 108, 101, 110, 103, 116, 104], [99, 111, 110, 110, 101, 99, 116, 105, 111, 110], [116, 114, 97, 110, 115, 102, 101, 114, 45, 101, 110, 99, 111, 100, 105, 110, 103]] : List (List UInt8))) rfl rfl (by first | decide | simp) ?_
  intro s3 o4
  refine AtL.lenL Tryz.underlying109 (.inl rfl) rfl rfl ?_
  refine AtL.move (.inl rfl) rfl rfl ?_
  refine AtL.done ?_
  refine At.block ?_
  refine At.unroll ?_
  refine At.seq ?_
  refine At.region ?_
  refine AtL.lss (.inl rfl) rfl rfl rfl ?_
  refine AtL.done ?_
  refine At.seq ?_
  refine At.condIs true rfl (by decide) ?_
  refine At.skip ?_
  refine At.seq ?_
  refine At.block ?_
  refine At.seq ?_
  refine At.region ?_
  refine AtL.indexL 0 (o4.rd (i := 0) rfl) Tryz.underlying109 tf_sz9 (.inl rfl) rfl rfl rfl rfl (by decide) ?_
  refine AtL.load (v := str (([[99, 111, 110, 116, 101, 110, 116, 45, 108, 101, 110, 103, 116, 104], [99, 111, 110, 110, 101, 99, 116, 105, 111, 110], [116, 114, 97, 110, 115, 102, 101, 114, 45, 101, 110, 99, 111, 100, 105, 110, 103]]).getD 0 [])) tf_flat9 (.inl rfl) rfl rfl (Rd.cell0 (o4.rd (i := 0) rfl) (getD_some [] (by decide)) rfl) ?_
  refine AtL.assign (.inl rfl) rfl rfl ?_
  refine AtL.done ?_
  refine At.seq ?_
  refine At.region ?_
  refine AtL.loadN (cs := [str n, str v]) tf_agg78 (.inl rfl) rfl rfl rfl (cellsOwn 1 0 0 rfl rfl rfl) ?_
  refine AtL.buildSlice (cs := [str n, str v]) Tryz.underlying45 tf_zero78 tf_sz78 rfl rfl (.inl rfl) rfl rfl rfl ?_
  intro b5
  refine AtL.own1 tyField (l := ([(n, v)] : List (List UInt8 × List UInt8))) rfl rfl (by first | decide | simp) ?_
  intro s6 o7
  refine AtL.build (cs := [str [], str [], .int .i64 0, .slice (some ⟨b5, 0, none⟩) [(n, v)].length 1]) tf_lay47 (.inl rfl) rfl rfl rfl ?_
  refine AtL.move (.inl rfl) rfl rfl ?_
  refine AtL.call tf_body76 (.inl rfl) rfl rfl (field_ok (fs := [(n, v)]) (o7.rd (i := 0) rfl) (nm := (([[99, 111, 110, 116, 101, 110, 116, 45, 108, 101, 110, 103, 116, 104], [99, 111, 110, 110, 101, 99, 116, 105, 111, 110], [116, 114, 97, 110, 115, 102, 101, 114, 45, 101, 110, 99, 111, 100, 105, 110, 103]]).getD 0 [])) (by decide) (by simp) (fun f hf => by simp only [List.mem_singleton] at hf; subst hf; exact ⟨hn, hv⟩)) ?_
  rintro _ _ ⟨rfl, rfl⟩
  refine AtL.move (.inl rfl) rfl rfl ?_
  refine AtL.extract (.inl rfl) rfl rfl rfl ?_
  refine AtL.extract (.inl rfl) rfl rfl rfl ?_
  refine AtL.assign (.inl rfl) rfl rfl ?_
  refine AtL.assign (.inl rfl) rfl rfl ?_
  refine AtL.done ?_
  refine At.seq ?_
  refine At.region ?_
  refine AtL.move (.inl rfl) rfl rfl ?_
  refine AtL.gtr (.inl rfl) rfl rfl rfl ?_
  refine AtL.done ?_
  refine At.cond rfl ?_ ?_
  · intro hc2
    have hc2 : 0 < ((fieldF [(n, v)] (([[99, 111, 110, 116, 101, 110, 116, 45, 108, 101, 110, 103, 116, 104], [99, 111, 110, 110, 101, 99, 116, 105, 111, 110], [116, 114, 97, 110, 115, 102, 101, 114, 45, 101, 110, 99, 111, 100, 105, 110, 103]]).getD 0 [])).2 : Int) := of_decide_eq_true hc2
    refine At.seq ?_
    refine At.region ?_
    refine AtL.assign (.inl rfl) rfl rfl ?_
    refine AtL.done ?_
    refine At.pick (H' := H) [] 3 rfl rfl ?_
    exact At.ret Tryz.func106 rfl rfl (⟨congrArg Value.bool (own_yes (.inl (one_pos.1 hc2))).symm, rfl⟩)
  · intro hc2
    have hc2 : ¬ (0 < ((fieldF [(n, v)] (([[99, 111, 110, 116, 101, 110, 116, 45, 108, 101, 110, 103, 116, 104], [99, 111, 110, 110, 101, 99, 116, 105, 111, 110], [116, 114, 97, 110, 115, 102, 101, 114, 45, 101, 110, 99, 111, 100, 105, 110, 103]]).getD 0 [])).2 : Int)) := of_decide_eq_false hc2
    have hno1 := mt one_pos.2 hc2
    refine At.skip ?_
    refine At.inBlock ?_
    refine At.region ?_
    refine AtL.add (z := 1) (.inl rfl) rfl rfl rfl (by decide) ?_
    refine AtL.move (.inl rfl) rfl rfl ?_
    refine AtL.done ?_
    refine At.again ?_
    refine At.seq ?_
    refine At.region ?_
    refine AtL.lss (.inl rfl) rfl rfl rfl ?_
    refine AtL.done ?_
    refine At.seq ?_
    refine At.condIs true rfl (by decide) ?_
    refine At.skip ?_
    refine At.seq ?_
    refine At.block ?_
    refine At.seq ?_
    refine At.region ?_
    refine AtL.indexL 1 (o4.rd (i := 1) rfl) Tryz.underlying109 tf_sz9 (.inl rfl) rfl rfl rfl rfl (by decide) ?_
    refine AtL.load (v := str (([[99, 111, 110, 116, 101, 110, 116, 45, 108, 101, 110, 103, 116, 104], [99, 111, 110, 110, 101, 99, 116, 105, 111, 110], [116, 114, 97, 110, 115, 102, 101, 114, 45, 101, 110, 99, 111, 100, 105, 110, 103]]).getD 1 [])) tf_flat9 (.inl rfl) rfl rfl (Rd.cell0 (o4.rd (i := 1) rfl) (getD_some [] (by decide)) rfl) ?_
    refine AtL.assign (.inl rfl) rfl rfl ?_
    refine AtL.done ?_
    refine At.seq ?_
    refine At.region ?_
    refine AtL.loadN (cs := [str n, str v]) tf_agg78 (.inl rfl) rfl rfl rfl (cellsOwn 2 0 0 rfl rfl rfl) ?_
    refine AtL.buildSlice (cs := [str n, str v]) Tryz.underlying45 tf_zero78 tf_sz78 rfl rfl (.inl rfl) rfl rfl rfl ?_
    intro b8
    refine AtL.own1 tyField (l := ([(n, v)] : List (List UInt8 × List UInt8))) rfl rfl (by first | decide | simp) ?_
    intro s9 o10
    refine AtL.build (cs := [str [], str [], .int .i64 0, .slice (some ⟨b8, 0, none⟩) [(n, v)].length 1]) tf_lay47 (.inl rfl) rfl rfl rfl ?_
    refine AtL.move (.inl rfl) rfl rfl ?_
    refine AtL.call tf_body76 (.inl rfl) rfl rfl (field_ok (fs := [(n, v)]) (o10.rd (i := 0) rfl) (nm := (([[99, 111, 110, 116, 101, 110, 116, 45, 108, 101, 110, 103, 116, 104], [99, 111, 110, 110, 101, 99, 116, 105, 111, 110], [116, 114, 97, 110, 115, 102, 101, 114, 45, 101, 110, 99, 111, 100, 105, 110, 103]]).getD 1 [])) (by decide) (by simp) (fun f hf => by simp only [List.mem_singleton] at hf; subst hf; exact ⟨hn, hv⟩)) ?_
    rintro _ _ ⟨rfl, rfl⟩
    refine AtL.move (.inl rfl) rfl rfl ?_
    refine AtL.extract (.inl rfl) rfl rfl rfl ?_
    refine AtL.extract (.inl rfl) rfl rfl rfl ?_
    refine AtL.assign (.inl rfl) rfl rfl ?_
    refine AtL.assign (.inl rfl) rfl rfl ?_
    refine AtL.done ?_
    refine At.seq ?_
    refine At.region ?_
    refine AtL.move (.inl rfl) rfl rfl ?_
    refine AtL.gtr (.inl rfl) rfl rfl rfl ?_
    refine AtL.done ?_
    refine At.cond rfl ?_ ?_
    · intro hc2
      have hc2 : 0 < ((fieldF [(n, v)] (([[99, 111, 110, 116, 101, 110, 116, 45, 108, 101, 110, 103, 116, 104], [99, 111, 110, 110, 101, 99, 116, 105, 111, 110], [116, 114, 97, 110, 115, 102, 101, 114, 45, 101, 110, 99, 111, 100, 105, 110, 103]]).getD 1 [])).2 : Int) := of_decide_eq_true hc2
      refine At.seq ?_
      refine At.region ?_
      refine AtL.assign (.inl rfl) rfl rfl ?_
      refine AtL.done ?_
      refine At.pick (H' := H) [] 4 rfl rfl ?_
      exact At.ret Tryz.func106 rfl rfl (⟨congrArg Value.bool (own_yes (.inr (.inl (one_pos.1 hc2)))).symm, rfl⟩)
    · intro hc2
      have hc2 : ¬ (0 < ((fieldF [(n, v)] (([[99, 111, 110, 116, 101, 110, 116, 45, 108, 101, 110, 103, 116, 104], [99, 111, 110, 110, 101, 99, 116, 105, 111, 110], [116, 114, 97, 110, 115, 102, 101, 114, 45, 101, 110, 99, 111, 100, 105, 110, 103]]).getD 1 [])).2 : Int)) := of_decide_eq_false hc2
      have hno2 := mt one_pos.2 hc2
      refine At.skip ?_
      refine At.inBlock ?_
      refine At.region ?_
      refine AtL.add (z := 2) (.inl rfl) rfl rfl rfl (by decide) ?_
      refine AtL.move (.inl rfl) rfl rfl ?_
      refine AtL.done ?_
      refine At.again ?_
      refine At.seq ?_
      refine At.region ?_
      refine AtL.lss (.inl rfl) rfl rfl rfl ?_
      refine AtL.done ?_
      refine At.seq ?_
      refine At.condIs true rfl (by decide) ?_
      refine At.skip ?_
      refine At.seq ?_
      refine At.block ?_
      refine At.seq ?_
      refine At.region ?_
      refine AtL.indexL 2 (o4.rd (i := 2) rfl) Tryz.underlying109 tf_sz9 (.inl rfl) rfl rfl rfl rfl (by decide) ?_
      refine AtL.load (v := str (([[99, 111, 110, 116, 101, 110, 116, 45, 108, 101, 110, 103, 116, 104], [99, 111, 110, 110, 101, 99, 116, 105, 111, 110], [116, 114, 97, 110, 115, 102, 101, 114, 45, 101, 110, 99, 111, 100, 105, 110, 103]]).getD 2 [])) tf_flat9 (.inl rfl) rfl rfl (Rd.cell0 (o4.rd (i := 2) rfl) (getD_some [] (by decide)) rfl) ?_
      refine AtL.assign (.inl rfl) rfl rfl ?_
      refine AtL.done ?_
      refine At.seq ?_
      refine At.region ?_
      refine AtL.loadN (cs := [str n, str v]) tf_agg78 (.inl rfl) rfl rfl rfl (cellsOwn 3 0 0 rfl rfl rfl) ?_
      refine AtL.buildSlice (cs := [str n, str v]) Tryz.underlying45 tf_zero78 tf_sz78 rfl rfl (.inl rfl) rfl rfl rfl ?_
      intro b11
      refine AtL.own1 tyField (l := ([(n, v)] : List (List UInt8 × List UInt8))) rfl rfl (by first | decide | simp) ?_
      intro s12 o13
      refine AtL.build (cs := [str [], str [], .int .i64 0, .slice (some ⟨b11, 0, none⟩) [(n, v)].length 1]) tf_lay47 (.inl rfl) rfl rfl rfl ?_
      refine AtL.move (.inl rfl) rfl rfl ?_
      refine AtL.call tf_body76 (.inl rfl) rfl rfl (field_ok (fs := [(n, v)]) (o13.rd (i := 0) rfl) (nm := (([[99, 111, 110, 116, 101, 110, 116, 45, 108, 101, 110, 103, 116, 104], [99, 111, 110, 110, 101, 99, 116, 105, 111, 110], [116, 114, 97, 110, 115, 102, 101, 114, 45, 101, 110, 99, 111, 100, 105, 110, 103]]).getD 2 [])) (by decide) (by simp) (fun f hf => by simp only [List.mem_singleton] at hf; subst hf; exact ⟨hn, hv⟩)) ?_
      rintro _ _ ⟨rfl, rfl⟩
      refine AtL.move (.inl rfl) rfl rfl ?_
      refine AtL.extract (.inl rfl) rfl rfl rfl ?_
      refine AtL.extract (.inl rfl) rfl rfl rfl ?_
      refine AtL.assign (.inl rfl) rfl rfl ?_
      refine AtL.assign (.inl rfl) rfl rfl ?_
      refine AtL.done ?_
      refine At.seq ?_
      refine At.region ?_
      refine AtL.move (.inl rfl) rfl rfl ?_
      refine AtL.gtr (.inl rfl) rfl rfl rfl ?_
      refine AtL.done ?_
      refine At.cond rfl ?_ ?_
      · intro hc2
        have hc2 : 0 < ((fieldF [(n, v)] (([[99, 111, 110, 116, 101, 110, 116, 45, 108, 101, 110, 103, 116, 104], [99, 111, 110, 110, 101, 99, 116, 105, 111, 110], [116, 114, 97, 110, 115, 102, 101, 114, 45, 101, 110, 99, 111, 100, 105, 110, 103]]).getD 2 [])).2 : Int) := of_decide_eq_true hc2
        refine At.seq ?_
        refine At.region ?_
        refine AtL.assign (.inl rfl) rfl rfl ?_
        refine AtL.done ?_
        refine At.pick (H' := H) [] 5 rfl rfl ?_
        exact At.ret Tryz.func106 rfl rfl (⟨congrArg Value.bool (own_yes (.inr (.inr (one_pos.1 hc2)))).symm, rfl⟩)
      · intro hc2
        have hc2 : ¬ (0 < ((fieldF [(n, v)] (([[99, 111, 110, 116, 101, 110, 116, 45, 108, 101, 110, 103, 116, 104], [99, 111, 110, 110, 101, 99, 116, 105, 111, 110], [116, 114, 97, 110, 115, 102, 101, 114, 45, 101, 110, 99, 111, 100, 105, 110, 103]]).getD 2 [])).2 : Int)) := of_decide_eq_false hc2
        have hno3 := mt one_pos.2 hc2
        refine At.skip ?_
        refine At.inBlock ?_
        refine At.region ?_
        refine AtL.add (z := 3) (.inl rfl) rfl rfl rfl (by decide) ?_
        refine AtL.move (.inl rfl) rfl rfl ?_
        refine AtL.done ?_
        refine At.again ?_
        refine At.seq ?_
        refine At.region ?_
        refine AtL.lss (.inl rfl) rfl rfl rfl ?_
        refine AtL.done ?_
        refine At.seq ?_
        refine At.condIs false rfl (by decide) ?_
        refine At.exit rfl ?_
        refine At.seq ?_
        refine At.region ?_
        refine AtL.assign (.inl rfl) rfl rfl ?_
        refine AtL.done ?_
        refine At.pick (H' := H) [] 5 rfl rfl ?_
        exact At.ret Tryz.func106 rfl rfl (⟨congrArg Value.bool (own_not hno1 hno2 hno3).symm, rfl⟩)
theorem fine_trim {n v : List UInt8} (h : ¬ Lib.trimS v [9, 32] = v) : fieldOk (n, v) = false := by
  rw [trim_set] at h
  rw [fieldOk, valueF, decide_eq_false h]; simp
theorem fine_start {n v : List UInt8} (h : Lib.trimS v [9, 32] = v) : (wordF n 64 && v.all valCh) = fieldOk (n, v) := by
  rw [trim_set] at h
  rw [fieldOk, valueF, decide_eq_true h, Bool.and_true]
theorem fine_no {n y : List UInt8} {k : Nat} {r : Bool} (h : (wordF n 64 && y.all valCh) = r) (hc : ¬ writeE ⟨[65], [47], 0, [(n, ([120] ++ subl y 0 k) ++ [120])]⟩ = 0) (hk : k ≤ 2000) (hky : k ≤ y.length) : r = false := by
  rw [part_ok (by rw [subl_len hky]; omega)] at hc
  cases r with
  | false => rfl
  | true =>
    exfalso
    apply hc
    simp only [Bool.and_eq_true] at h
    rw [if_pos]
    rw [subl_to, h.1, Bool.true_and, List.all_eq_true]
    intro x hx
    exact List.all_eq_true.1 h.2 x (List.mem_of_mem_take hx)
theorem fine_next {n y : List UInt8} {k : Nat} {r : Bool} (h : (wordF n 64 && y.all valCh) = r) (hc : writeE ⟨[65], [47], 0, [(n, ([120] ++ subl y 0 k) ++ [120])]⟩ = 0) (hk : k ≤ 2000) (hky : k ≤ y.length) : (wordF n 64 && (subl y k y.length).all valCh) = r ∧ wordF n 64 = true := by
  rw [part_ok (by rw [subl_len hky]; omega)] at hc
  split at hc
  · rename_i h2
    simp only [Bool.and_eq_true, subl_to] at h2
    refine ⟨?_, h2.1⟩
    rw [← h, subl_from, ← List.take_append_drop k y, List.all_append]
    rw [List.take_append_drop]
    rw [h2.2, Bool.true_and]
  · cases hc
set_option maxHeartbeats 400000 in
theorem pfine_ok {w0 : World} {base : Nat} {H : List Seg} {n v : List UInt8} (hn : n.length ≤ 140737488300000) (hv : v.length ≤ 140737488355000) :
    SCalls Tryz.prog 107 [.agg #[str n, str v]] w0 base (H) (fun u H' => u = .bool (fieldOk (n, v)) ∧ H' = H) := by
  refine SCalls.of_walk (n := 33) Tryz.func107 rfl rfl rfl fun cs => ?_
  refine At.seq ?_
  refine At.region ?_
  refine AtL.box (cs := #[str n, str v]) rfl (.inl rfl) rfl rfl ?_
  intro b1
  refine AtL.assign (.inl rfl) rfl rfl ?_
  refine AtL.done ?_
  refine At.seq ?_
  refine At.region ?_
  refine AtL.fieldAddrB tf_fo78_1 (.inl rfl) rfl rfl rfl ?_
  refine AtL.load tf_flat9 (.inl rfl) rfl rfl (Cell.own 0 0 rfl rfl rfl) ?_
  refine AtL.assign (.inl rfl) rfl rfl ?_
  refine AtL.done ?_
  refine At.seq ?_
  refine At.seq ?_
  refine At.region ?_
  refine AtL.move (.inl rfl) rfl rfl ?_
  refine AtL.call tf_body102 (.inl rfl) rfl rfl (trim_ok (x := v) (cs := [9, 32]) (by omega) (by decide) (by decide)) ?_
  rintro _ _ ⟨rfl, rfl⟩
  refine AtL.move (.inl rfl) rfl rfl ?_
  refine AtL.nes (a := Lib.trimS v [9, 32]) (b := v) (.inl rfl) rfl rfl rfl ?_
  refine AtL.done ?_
  refine At.cond rfl ?_ ?_
  · intro hc1
    have hc1 : ¬ (Lib.trimS v [9, 32] = v) := of_decide_eq_false (bnot_true hc1)
    refine At.seq ?_
    refine At.region ?_
    refine AtL.assign (.inl rfl) rfl rfl ?_
    refine AtL.done ?_
    refine At.pick (H' := H) [] 1 rfl rfl ?_
    exact At.ret Tryz.func107 rfl rfl (⟨congrArg Value.bool (fine_trim hc1).symm, rfl⟩)
  · intro hc1
    have hc1 : Lib.trimS v [9, 32] = v := of_decide_eq_true (bnot_false hc1)
    refine At.skip ?_
    refine At.block ?_
    refine At.loop (fun (y : List UInt8) => [(1, .pointer (some ⟨b1, 0, none⟩)), (3, str y)]) (fun (y : List UInt8) => [(b1, .cells #[str n, str v] 78 (0, 0))] :: H) (fun (y : List UInt8) => (wordF n 64 && y.all valCh) = fieldOk (n, v) ∧ y.length ≤ v.length) (fun (y : List UInt8) => y.length) v (⟨fine_start hc1, Nat.le_refl _⟩) ⟨rfl, rfl, trivial⟩ rfl ?_
    rintro y ⟨hf, hy⟩ ihL1
    refine At.block ?_
    refine At.seq ?_
    refine At.region ?_
    refine AtL.move (.inl rfl) rfl rfl ?_
    refine AtL.lenS (l := y) Tryz.underlying9 (.inl rfl) rfl rfl ?_
    refine AtL.minZ (z := ((min y.length 2000 : Nat) : Int)) (.inl rfl) rfl rfl rfl (by omega) ?_
    refine AtL.assign (.inl rfl) rfl rfl ?_
    refine AtL.done ?_
    obtain ⟨k, hk⟩ : ∃ k : Nat, k = min y.length 2000 := ⟨_, rfl⟩
    rw [← hk]
    have hk1 : k ≤ 2000 := by omega
    have hk2 : k ≤ y.length := by omega
    refine At.seq ?_
    refine At.joinQ (fun E2 H2 => ∃ (b5 : Nat), ∃ (xs3 : Sl tyField 78), xs3.l = [(n, ([120] ++ (subl y 0 k)) ++ [120])] ∧ Sub [(1, .pointer (some ⟨b1, 0, none⟩)), (3, str y), (4, .int .i64 (k : Int)), (5, .pointer (some ⟨b5, 0, none⟩))] E2 ∧ H2 = [(b5, .cells #[str [65], str [47], .int .i64 0, .slice xs3.A xs3.l.length xs3.C] 47 (0, 0))] :: xs3.s :: [(b1, .cells #[str n, str v] 78 (0, 0))] :: H) (fun J => ?_) ?_
    · skip
      refine At.drawM (n := 3) (fs := [8, 10]) (pv := [(0, .pointer (some ⟨b1, 0, none⟩)), (1, str n), (2, str y), (3, .int .i64 (k : Int)), (4, str (subl y 0 k)), (5, str ([120] ++ (subl y 0 k))), (6, str (([120] ++ (subl y 0 k)) ++ [120])), (7, .agg #[str n, str (([120] ++ (subl y 0 k)) ++ [120])])]) tf_mixed (by kernel_rfl) (by kernel_rfl) (by kernel_rfl) ?_
      refine ⟨⟨.inr ⟨_, rfl, rfl, .inl ⟨rfl, Do.fieldAddrB tf_fo78_0 rfl rfl⟩⟩, .inr ⟨_, rfl, rfl, .inl ⟨rfl, Do.load tf_flat9 rfl (Cell.own 0 0 rfl rfl rfl)⟩⟩, .inr ⟨_, rfl, rfl, .inl ⟨rfl, Do.move rfl⟩⟩, .inr ⟨_, rfl, rfl, .inl ⟨rfl, Do.move rfl⟩⟩, .inr ⟨_, rfl, rfl, .inl ⟨rfl, Do.sliceS (l := y) 0 k rfl (evBound_some rfl rfl) (by omega) (by omega) Tryz.underlying9 rfl⟩⟩, .inr ⟨_, rfl, rfl, .inl ⟨rfl, Do.cat rfl rfl (by simp only [List.length_append, List.length_cons, List.length_nil, subl_len hk2]; omega)⟩⟩, .inr ⟨_, rfl, rfl, .inl ⟨rfl, Do.cat rfl rfl (by simp only [List.length_append, List.length_cons, List.length_nil, subl_len hk2]; omega)⟩⟩, .inr ⟨_, rfl, rfl, .inl ⟨rfl, Do.build (cs := [str n, str (([120] ++ (subl y 0 k)) ++ [120])]) tf_lay78 rfl rfl⟩⟩, trivial⟩, List.cons_ne_nil _ _, by kernel_rfl, by kernel_rfl, ⟨_, rfl, rfl, rfl, _, Do.own1 tyField (l := ([(n, ([120] ++ (subl y 0 k)) ++ [120])] : List (List UInt8 × List UInt8))) (Do.buildSlice (cs := [str n, str (([120] ++ (subl y 0 k)) ++ [120])]) Tryz.underlying45 tf_zero78 tf_sz78 rfl rfl rfl rfl) rfl rfl (by first | decide | simp), ?_⟩, ⟨_, rfl, rfl, rfl, _, Do.alloc tf_zero47 (cs := #[str [], str [], .int .i64 0, .slice none 0 0]) rfl, ?_⟩, trivial⟩
      · skip
        rintro _ _ ⟨b6, s7, o8, rfl, rfl⟩
        refine ⟨[(9, .agg #[str [65], str [47], .int .i64 0, .slice (some ⟨b6, 0, none⟩) ([(n, ([120] ++ (subl y 0 k)) ++ [120])]).length 1])], [10], rfl, ?_⟩
        refine ⟨⟨.inr ⟨_, rfl, rfl, .inl ⟨rfl, Do.build (cs := [str [65], str [47], .int .i64 0, .slice (some ⟨b6, 0, none⟩) ([(n, ([120] ++ (subl y 0 k)) ++ [120])]).length 1]) tf_lay47 rfl rfl⟩⟩, .inl (by kernel_rfl), .inl (by kernel_rfl), .inl (by kernel_rfl), .inl (by kernel_rfl), .inl (by kernel_rfl), .inl (by kernel_rfl), .inl (by kernel_rfl), .inl (by kernel_rfl), trivial⟩, List.cons_ne_nil _ _, by kernel_rfl, by kernel_rfl, ⟨_, rfl, rfl, rfl, _, Do.alloc tf_zero47 (cs := #[str [], str [], .int .i64 0, .slice none 0 0]) rfl, ?_⟩, trivial⟩
        rintro _ _ ⟨b10, rfl, rfl⟩
        refine ⟨[], [11], rfl, ?_⟩
        refine ⟨⟨.inr ⟨_, rfl, rfl, .inl ⟨rfl, Do.build (cs := [str [65], str [47], .int .i64 0, .slice (some ⟨b6, 0, none⟩) ([(n, ([120] ++ (subl y 0 k)) ++ [120])]).length 1]) tf_lay47 rfl rfl⟩⟩, .inl (by kernel_rfl), .inl (by kernel_rfl), .inl (by kernel_rfl), .inl (by kernel_rfl), .inl (by kernel_rfl), .inl (by kernel_rfl), .inl (by kernel_rfl), .inl (by kernel_rfl), trivial⟩, List.cons_ne_nil _ _, by kernel_rfl, by kernel_rfl, ⟨_, rfl, rfl, rfl, _, Do.store (H' := [(b10, .cells #[str [65], str [47], .int .i64 0, .slice (some ⟨b6, 0, none⟩) ([(n, ([120] ++ (subl y 0 k)) ++ [120])]).length 1] 47 (0, 0))] :: s7 :: [(b1, .cells #[str n, str v] 78 (0, 0))] :: H) 0 0 tf_sz47 rfl rfl rfl rfl rfl rfl rfl rfl rfl, ?_⟩, trivial⟩
        rintro _ _ ⟨rfl, rfl⟩
        refine ⟨[], [], rfl, ?_⟩
        refine ⟨⟨.inl (by kernel_rfl), .inl (by kernel_rfl), .inl (by kernel_rfl), .inl (by kernel_rfl), .inl (by kernel_rfl), .inl (by kernel_rfl), .inl (by kernel_rfl), .inl (by kernel_rfl), .inl (by kernel_rfl), trivial⟩, by kernel_rfl, ?_⟩
        exact J _ _ ⟨b10, ⟨(some ⟨b6, 0, none⟩), 1, [(n, ([120] ++ (subl y 0 k)) ++ [120])], s7, o8⟩, rfl, ⟨rfl, rfl, rfl, rfl, trivial⟩, rfl⟩
      · skip
        rintro _ _ ⟨b9, rfl, rfl⟩
        refine ⟨[], [8], rfl, ?_⟩
        refine ⟨⟨.inr ⟨_, rfl, rfl, .inl ⟨rfl, Do.fieldAddrB tf_fo78_0 rfl rfl⟩⟩, .inr ⟨_, rfl, rfl, .inl ⟨rfl, Do.load tf_flat9 rfl (Cell.own 1 0 rfl rfl rfl)⟩⟩, .inr ⟨_, rfl, rfl, .inl ⟨rfl, Do.move rfl⟩⟩, .inr ⟨_, rfl, rfl, .inl ⟨rfl, Do.move rfl⟩⟩, .inr ⟨_, rfl, rfl, .inl ⟨rfl, Do.sliceS (l := y) 0 k rfl (evBound_some rfl rfl) (by omega) (by omega) Tryz.underlying9 rfl⟩⟩, .inr ⟨_, rfl, rfl, .inl ⟨rfl, Do.cat rfl rfl (by simp only [List.length_append, List.length_cons, List.length_nil, subl_len hk2]; omega)⟩⟩, .inr ⟨_, rfl, rfl, .inl ⟨rfl, Do.cat rfl rfl (by simp only [List.length_append, List.length_cons, List.length_nil, subl_len hk2]; omega)⟩⟩, .inr ⟨_, rfl, rfl, .inl ⟨rfl, Do.build (cs := [str n, str (([120] ++ (subl y 0 k)) ++ [120])]) tf_lay78 rfl rfl⟩⟩, trivial⟩, List.cons_ne_nil _ _, by kernel_rfl, by kernel_rfl, ⟨_, rfl, rfl, rfl, _, Do.own1 tyField (l := ([(n, ([120] ++ (subl y 0 k)) ++ [120])] : List (List UInt8 × List UInt8))) (Do.buildSlice (cs := [str n, str (([120] ++ (subl y 0 k)) ++ [120])]) Tryz.underlying45 tf_zero78 tf_sz78 rfl rfl rfl rfl) rfl rfl (by first | decide | simp), ?_⟩, trivial⟩
        rintro _ _ ⟨b11, s12, o13, rfl, rfl⟩
        refine ⟨[(9, .agg #[str [65], str [47], .int .i64 0, .slice (some ⟨b11, 0, none⟩) ([(n, ([120] ++ (subl y 0 k)) ++ [120])]).length 1])], [11], rfl, ?_⟩
        refine ⟨⟨.inr ⟨_, rfl, rfl, .inl ⟨rfl, Do.build (cs := [str [65], str [47], .int .i64 0, .slice (some ⟨b11, 0, none⟩) ([(n, ([120] ++ (subl y 0 k)) ++ [120])]).length 1]) tf_lay47 rfl rfl⟩⟩, .inl (by kernel_rfl), .inl (by kernel_rfl), .inl (by kernel_rfl), .inl (by kernel_rfl), .inl (by kernel_rfl), .inl (by kernel_rfl), .inl (by kernel_rfl), .inl (by kernel_rfl), trivial⟩, List.cons_ne_nil _ _, by kernel_rfl, by kernel_rfl, ⟨_, rfl, rfl, rfl, _, Do.store (H' := s12 :: [(b9, .cells #[str [65], str [47], .int .i64 0, .slice (some ⟨b11, 0, none⟩) ([(n, ([120] ++ (subl y 0 k)) ++ [120])]).length 1] 47 (0, 0))] :: [(b1, .cells #[str n, str v] 78 (0, 0))] :: H) 1 0 tf_sz47 rfl rfl rfl rfl rfl rfl rfl rfl rfl, ?_⟩, trivial⟩
        rintro _ _ ⟨rfl, rfl⟩
        refine ⟨[], [], rfl, ?_⟩
        refine ⟨⟨.inl (by kernel_rfl), .inl (by kernel_rfl), .inl (by kernel_rfl), .inl (by kernel_rfl), .inl (by kernel_rfl), .inl (by kernel_rfl), .inl (by kernel_rfl), .inl (by kernel_rfl), .inl (by kernel_rfl), trivial⟩, by kernel_rfl, ?_⟩
        refine At.pick (H' := [(b9, .cells #[str [65], str [47], .int .i64 0, .slice (some ⟨b11, 0, none⟩) ([(n, ([120] ++ (subl y 0 k)) ++ [120])]).length 1] 47 (0, 0))] :: s12 :: [(b1, .cells #[str n, str v] 78 (0, 0))] :: H) [1, 0, 2] 3 rfl rfl ?_
        exact J _ _ ⟨b9, ⟨(some ⟨b11, 0, none⟩), 1, [(n, ([120] ++ (subl y 0 k)) ++ [120])], s12, o13⟩, rfl, ⟨rfl, rfl, rfl, rfl, trivial⟩, rfl⟩
    · skip
      rintro E2 H2 ⟨b5, xs3, hxs3, hsub, rfl⟩
      refine At.mono hsub ?_
      clear hsub
      obtain ⟨Axs3, Cxs3, lxs3, sxs3, oxs3⟩ := xs3
      dsimp only at hxs3 ⊢
      obtain rfl : [(n, ([120] ++ (subl y 0 k)) ++ [120])] = lxs3 := hxs3.symm
      refine At.seq ?_
      refine At.seq ?_
      refine At.region ?_
      refine AtL.loadN (cs := [str [65], str [47], .int .i64 0, .slice Axs3 ([(n, ([120] ++ (subl y 0 k)) ++ [120])]).length Cxs3]) tf_agg47 (.inl rfl) rfl rfl rfl (cellsOwn 0 0 0 rfl rfl rfl) ?_
      refine AtL.call tf_body155 (.inl rfl) rfl rfl (check_ok (m := [65]) (t := [47]) (minor := 0) (fs := [(n, ([120] ++ (subl y 0 k)) ++ [120])]) (oxs3.rd (i := 1) rfl) (by simp) (by simp only [szF, List.map_cons, List.map_nil, List.sum_cons, List.sum_nil, List.length_append, List.length_cons, List.length_nil, subl_len hk2]; omega)) ?_
      rintro _ _ ⟨rfl, rfl⟩
      refine AtL.nei (.inl rfl) rfl rfl rfl ?_
      refine AtL.done ?_
      refine At.cond rfl ?_ ?_
      · intro hc2
        have hc2 : ¬ ((writeE ⟨[65], [47], 0, [(n, ([120] ++ (subl y 0 k)) ++ [120])]⟩ : Int) = 0) := of_decide_eq_false (bnot_true hc2)
        refine At.seq ?_
        refine At.region ?_
        refine AtL.assign (.inl rfl) rfl rfl ?_
        refine AtL.done ?_
        refine At.pick (H' := H) [] 3 rfl rfl ?_
        exact At.ret Tryz.func107 rfl rfl (⟨congrArg Value.bool (fine_no hf hc2 hk1 hk2).symm, rfl⟩)
      · intro hc2
        have hc2 : (writeE ⟨[65], [47], 0, [(n, ([120] ++ (subl y 0 k)) ++ [120])]⟩ : Int) = 0 := of_decide_eq_true (bnot_false hc2)
        have hf2 := fine_next hf hc2 hk1 hk2
        refine At.skip ?_
        refine At.seq ?_
        refine At.region ?_
        refine AtL.move (.inl rfl) rfl rfl ?_
        refine AtL.move (.inl rfl) rfl rfl ?_
        refine AtL.sliceS (l := y) k y.length (evBound_some rfl rfl) rfl (by omega) (by omega) Tryz.underlying9 (.inl rfl) rfl rfl ?_
        refine AtL.assign (.inl rfl) rfl rfl ?_
        refine AtL.done ?_
        refine At.seq ?_
        refine At.region ?_
        refine AtL.move (.inl rfl) rfl rfl ?_
        refine AtL.eqs (a := subl y k y.length) (b := []) (.inl rfl) rfl rfl rfl ?_
        refine AtL.done ?_
        refine At.cond rfl ?_ ?_
        · intro hc3
          have hc3 : subl y k y.length = [] := of_decide_eq_true hc3
          refine At.seq ?_
          refine At.region ?_
          refine AtL.assign (.inl rfl) rfl rfl ?_
          refine AtL.done ?_
          refine At.pick (H' := H) [] 3 rfl rfl ?_
          exact At.ret Tryz.func107 rfl rfl (⟨congrArg Value.bool (by rw [hc3, hf2.2] at hf2; exact hf2.1), rfl⟩)
        · intro hc3
          have hc3 : ¬ (subl y k y.length = []) := of_decide_eq_false hc3
          refine At.skip ?_
          refine At.inBlock ?_
          refine At.pick (H' := [(b1, .cells #[str n, str v] 78 (0, 0))] :: H) [2] 3 rfl rfl ?_
          refine ihL1 (subl y k y.length) (⟨hf2.1, by rw [subl_len (Nat.le_refl _)]; omega⟩) (by have h0 : (subl y k y.length).length ≠ 0 := fun h => hc3 (List.eq_nil_of_length_eq_zero h); rw [subl_len (Nat.le_refl _)] at h0 ⊢; omega) _ ?_
          exact ⟨rfl, (by first | rfl | exact slLen (by simp []) | exact intEq (by omega) | exact intEq (by simp []) | exact slLen (by simp []; omega)), trivial⟩
theorem chk_head {r : RespV} (h : (reasonF r.st = [] ∨ (16 : Int) < (r.fs.length : Int)) ∨ (65535 : Int) < (r.body.length : Int)) : respE r = 2 := by
  unfold respE
  rw [if_neg]
  intro ho
  simp only [okR, Bool.and_eq_true, decide_eq_true_eq] at ho
  obtain ⟨⟨⟨⟨h1, h2⟩, h3⟩, _⟩, _⟩ := ho
  rcases h with (h | h) | h
  · exact h1 h
  · omega
  · omega
theorem chk_bad {r : RespV} {k : Nat} (hk : k < r.fs.length) (h : fldR (r.fs.getD k (([], []) : List UInt8 × List UInt8)) = false ∨ 4096 < sumF (r.fs.take (k + 1))) : respE r = 2 := by
  unfold respE
  rw [if_neg]
  intro ho
  simp only [okR, Bool.and_eq_true, decide_eq_true_eq] at ho
  obtain ⟨⟨_, h4⟩, h5⟩ := ho
  rcases h with h | h
  · rw [List.all_eq_true.1 h4 _ (getD_mem hk)] at h; cases h
  · have := sumF_take r.fs (k + 1); omega
theorem chk_ok {r : RespV} (h : ¬ ((reasonF r.st = [] ∨ (16 : Int) < (r.fs.length : Int)) ∨ (65535 : Int) < (r.body.length : Int))) {k : Nat} (hk : r.fs.length ≤ k) (ha : (r.fs.take k).all fldR = true) (hs : sumF (r.fs.take k) ≤ 4096) : respE r = 0 := by
  rw [List.take_of_length_le hk] at ha hs
  unfold respE
  rw [if_pos]
  simp only [not_or] at h
  obtain ⟨⟨h1, h2⟩, h3⟩ := h
  simp only [okR, ha, Bool.and_eq_true, decide_eq_true_eq]
  exact ⟨⟨⟨⟨h1, by omega⟩, by omega⟩, trivial⟩, hs⟩
theorem fldR_no1 {f : Fld} (h : ownF f = true) : fldR f = false := by rw [fldR, h]; simp
theorem fldR_no2 {f : Fld} (h : fieldOk f = false) : fldR f = false := by rw [fldR, h]; rfl
theorem fldR_yes {f : Fld} (h1 : ¬ ownF f = true) (h2 : ¬ fieldOk f = false) : fldR f = true := by
  rw [fldR]; cases h3 : ownF f <;> cases h4 : fieldOk f <;> simp_all
theorem all_snoc {p : Fld → Bool} {fs : List Fld} {k : Nat} (h : k < fs.length) (ha : (fs.take k).all p = true) (hp : p (fs.getD k (([], []) : List UInt8 × List UInt8)) = true) : (fs.take (k + 1)).all p = true := by
  rw [List.take_succ_eq_append_getElem h, List.all_append, ha]
  simpa [List.getD, h] using hp
set_option maxHeartbeats 400000 in
theorem rchk_ok0 {w0 : World} {base : Nat} {H : List Seg} {st : Int} {A A2 : Option Addr} {C C2 : Nat} {fs : List (List UInt8 × List UInt8)} {b : List UInt8} {kp : Bool} (h : Rd tyField w0 base H A C fs) (h2 : Rd tyB w0 base H A2 C2 b) (hb : ∀ f ∈ fs, f.1.length ≤ 140737488355000 ∧ f.2.length ≤ 140737488355000) :
    SCalls Tryz.prog 62 [.agg #[.int .i64 st, .slice A fs.length C, .slice A2 b.length C2, .bool kp]] w0 base (H) (fun u H' => u = int (respE ⟨st, fs, b, kp⟩) ∧ H' = H) := by
  have hle0 := h.le
  have hcap0 := h.cap
  have hle2 := h2.le
  have hcap2 := h2.cap
  refine SCalls.of_walk (n := 50) Tryz.func62 rfl rfl rfl fun cs => ?_
  refine At.seq ?_
  refine At.region ?_
  refine AtL.box (cs := #[.int .i64 st, .slice A fs.length C, .slice A2 b.length C2, .bool kp]) rfl (.inl rfl) rfl rfl ?_
  intro b1
  refine AtL.assign (.inl rfl) rfl rfl ?_
  refine AtL.done ?_
  refine At.seq ?_
  refine At.seq ?_
  refine At.region ?_
  refine AtL.fieldAddrB tf_fo74_0 (.inl rfl) rfl rfl rfl ?_
  refine AtL.load tf_flat3 (.inl rfl) rfl rfl (Cell.own 0 0 rfl rfl rfl) ?_
  refine AtL.call tf_body65 (.inl rfl) rfl rfl (reason_ok st) ?_
  rintro _ _ ⟨rfl, rfl⟩
  refine AtL.eqs (a := reasonF st) (b := []) (.inl rfl) rfl rfl rfl ?_
  refine AtL.move (.inl rfl) rfl rfl ?_
  refine AtL.join 5 (E' := [(15, .bool (decide ((reasonF st = []) ∨ (16 < (fs.length : Int))))), (1, .pointer (some ⟨b1, 0, none⟩))]) (H' := [(b1, .cells #[.int .i64 st, .slice A fs.length C, .slice A2 b.length C2, .bool kp] 74 (0, 0))] :: H) (fun J => ?_) ?_
  · refine AtL.split (t := 10) rfl ?_ ?_
    · intro hs10
      have hs10 : reasonF st = [] := of_decide_eq_true hs10
      refine AtL.skipped rfl rfl rfl rfl rfl rfl ?_
      refine AtL.skipped rfl rfl rfl rfl rfl rfl ?_
      refine AtL.skipped rfl rfl rfl rfl rfl rfl ?_
      refine AtL.skipped rfl rfl rfl rfl rfl rfl ?_
      refine AtL.pickT (.inl rfl) rfl rfl rfl ?_
      exact J _ (by exact ⟨(boolIs (by clear J; first | (simp [hs10]; done) | (simp_all; done) | grind)), rfl, trivial⟩)
    · intro hs10
      have hs10 : ¬ (reasonF st = []) := of_decide_eq_false hs10
      refine AtL.fieldAddrB tf_fo74_1 (.inr ⟨_, _, _, rfl, rfl, rfl, rfl⟩) rfl rfl rfl ?_
      refine AtL.load tf_flat45 (.inr ⟨_, _, _, rfl, rfl, rfl, rfl⟩) rfl rfl (Cell.own 0 0 rfl rfl rfl) ?_
      refine AtL.lenL Tryz.underlying45 (.inr ⟨_, _, _, rfl, rfl, rfl, rfl⟩) rfl rfl ?_
      refine AtL.gtr (.inr ⟨_, _, _, rfl, rfl, rfl, rfl⟩) rfl rfl rfl ?_
      refine AtL.pickF (.inl rfl) rfl rfl rfl ?_
      exact J _ (by exact ⟨(boolIs (by clear J; first | (simp [hs10]; done) | (simp_all; done) | grind)), rfl, trivial⟩)
  · skip
    refine AtL.move (.inl rfl) rfl rfl ?_
    refine AtL.join 5 (E' := [(21, .bool (decide (((reasonF st = []) ∨ (16 < (fs.length : Int))) ∨ (65535 < (b.length : Int))))), (1, .pointer (some ⟨b1, 0, none⟩))]) (H' := [(b1, .cells #[.int .i64 st, .slice A fs.length C, .slice A2 b.length C2, .bool kp] 74 (0, 0))] :: H) (fun J => ?_) ?_
    · refine AtL.split (t := 16) rfl ?_ ?_
      · intro hs16
        have hs16 : (reasonF st = []) ∨ (16 < (fs.length : Int)) := of_decide_eq_true hs16
        refine AtL.skipped rfl rfl rfl rfl rfl rfl ?_
        refine AtL.skipped rfl rfl rfl rfl rfl rfl ?_
        refine AtL.skipped rfl rfl rfl rfl rfl rfl ?_
        refine AtL.skipped rfl rfl rfl rfl rfl rfl ?_
        refine AtL.pickT (.inl rfl) rfl rfl rfl ?_
        exact J _ (by exact ⟨(boolIs (by clear J; first | (simp [hs16]; done) | (simp_all; done) | grind)), rfl, trivial⟩)
      · intro hs16
        have hs16 : ¬ ((reasonF st = []) ∨ (16 < (fs.length : Int))) := of_decide_eq_false hs16
        refine AtL.fieldAddrB tf_fo74_2 (.inr ⟨_, _, _, rfl, rfl, rfl, rfl⟩) rfl rfl rfl ?_
        refine AtL.load tf_flat22 (.inr ⟨_, _, _, rfl, rfl, rfl, rfl⟩) rfl rfl (Cell.own 0 0 rfl rfl rfl) ?_
        refine AtL.lenL Tryz.underlying22 (.inr ⟨_, _, _, rfl, rfl, rfl, rfl⟩) rfl rfl ?_
        refine AtL.gtr (.inr ⟨_, _, _, rfl, rfl, rfl, rfl⟩) rfl rfl rfl ?_
        refine AtL.pickF (.inl rfl) rfl rfl rfl ?_
        exact J _ (by exact ⟨(boolIs (by clear J; first | (simp [hs16]; done) | (simp_all; done) | grind)), rfl, trivial⟩)
    · skip
      refine AtL.done ?_
      refine At.cond rfl ?_ ?_
      · intro hc1
        have hc1 : ((reasonF st = []) ∨ (16 < (fs.length : Int))) ∨ (65535 < (b.length : Int)) := of_decide_eq_true hc1
        refine At.seq ?_
        refine At.region ?_
        refine AtL.assign (.inl rfl) rfl rfl ?_
        refine AtL.done ?_
        refine At.pick (H' := H) [] 1 rfl rfl ?_
        exact At.ret Tryz.func62 rfl rfl (⟨congrArg int (chk_head (r := ⟨st, fs, b, kp⟩) hc1).symm, rfl⟩)
      · intro hc1
        have hc1 : ¬ (((reasonF st = []) ∨ (16 < (fs.length : Int))) ∨ (65535 < (b.length : Int))) := of_decide_eq_false hc1
        have hfl : fs.length ≤ 1000 := by by_cases hx : (16 : Int) < (fs.length : Int); exact absurd (.inl (.inr hx)) hc1; omega
        refine At.skip ?_
        refine At.seq ?_
        refine At.region ?_
        refine AtL.assign (.inl rfl) rfl rfl ?_
        refine AtL.done ?_
        refine At.seq ?_
        refine At.seq ?_
        refine At.region ?_
        refine AtL.fieldAddrB tf_fo74_1 (.inl rfl) rfl rfl rfl ?_
        refine AtL.load tf_flat45 (.inl rfl) rfl rfl (Cell.own 0 0 rfl rfl rfl) ?_
        refine AtL.lenL Tryz.underlying45 (.inl rfl) rfl rfl ?_
        refine AtL.move (.inl rfl) rfl rfl ?_
        refine AtL.done ?_
        refine At.block ?_
        refine At.loop2 (fun (k : Nat) (s : Nat) => [(3, .int .i64 (s : Int)), (23, .slice A fs.length C), (24, .int .i64 (fs.length : Int)), (25, .int .i64 (k : Int))]) (fun (k : Nat) (s : Nat) => [(b1, .cells #[.int .i64 st, .slice A fs.length C, .slice A2 b.length C2, .bool kp] 74 (0, 0))] :: H) (fun (k : Nat) (s : Nat) => k ≤ fs.length ∧ (fs.take k).all fldR = true ∧ s = sumF (fs.take k) ∧ s ≤ 4096) (fun (k : Nat) (s : Nat) => fs.length - k) 0 0 (⟨Nat.zero_le _, rfl, rfl, by omega⟩) ⟨rfl, rfl, rfl, rfl, trivial⟩ rfl ?_
        rintro k s ⟨hk, ha, hs, hsb⟩ ihL1
        refine At.seq ?_
        refine At.region ?_
        refine AtL.lss (.inl rfl) rfl rfl rfl ?_
        refine AtL.done ?_
        refine At.seq ?_
        refine At.cond rfl ?_ ?_
        · intro hc2
          have hc2 : (k : Int) < (fs.length : Int) := of_decide_eq_true hc2
          have hbk := hb _ (getD_mem (l := fs) (i := k) (d := (([], []) : List UInt8 × List UInt8)) (by omega))
          refine At.skip ?_
          refine At.seq ?_
          refine At.block ?_
          refine At.seq ?_
          refine At.region ?_
          refine AtL.indexL k (Rd.skip 1 h) Tryz.underlying45 tf_sz78 (.inl rfl) rfl rfl rfl rfl (by omega) ?_
          refine AtL.loadE (n := 0) (Rd.skip 1 h) (getD_some (([], []) : List UInt8 × List UInt8) (by omega)) rfl tf_agg78 (.inl rfl) rfl rfl ?_
          refine AtL.alloc tf_zero78 (cs := #[str [], str []]) rfl (.inl rfl) rfl ?_
          intro b2
          refine AtL.store (H' := [(b2, .cells #[str ((fs.getD k (([], []) : List UInt8 × List UInt8)).1), str ((fs.getD k (([], []) : List UInt8 × List UInt8)).2)] 78 (0, 0))] :: [(b1, .cells #[.int .i64 st, .slice A fs.length C, .slice A2 b.length C2, .bool kp] 74 (0, 0))] :: H) 0 0 tf_sz78 (.inl rfl) rfl rfl rfl rfl rfl rfl rfl rfl rfl ?_
          refine AtL.done ?_
          refine At.seq ?_
          refine At.region ?_
          refine AtL.move (.inl rfl) rfl rfl ?_
          refine AtL.fieldAddrB tf_fo78_0 (.inl rfl) rfl rfl rfl ?_
          refine AtL.load tf_flat9 (.inl rfl) rfl rfl (Cell.own 0 0 rfl rfl rfl) ?_
          refine AtL.lenS (l := (fs.getD k (([], []) : List UInt8 × List UInt8)).1) Tryz.underlying9 (.inl rfl) rfl rfl ?_
          refine AtL.fieldAddrB tf_fo78_1 (.inl rfl) rfl rfl rfl ?_
          refine AtL.load tf_flat9 (.inl rfl) rfl rfl (Cell.own 0 0 rfl rfl rfl) ?_
          refine AtL.lenS (l := (fs.getD k (([], []) : List UInt8 × List UInt8)).2) Tryz.underlying9 (.inl rfl) rfl rfl ?_
          refine AtL.add (z := (((fs.getD k (([], []) : List UInt8 × List UInt8)).1).length : Int) + (((fs.getD k (([], []) : List UInt8 × List UInt8)).2).length : Int)) (.inl rfl) rfl rfl rfl (w64 (by omega) (by omega)) ?_
          refine AtL.add (z := (s : Int) + ((((fs.getD k (([], []) : List UInt8 × List UInt8)).1).length : Int) + (((fs.getD k (([], []) : List UInt8 × List UInt8)).2).length : Int))) (.inl rfl) rfl rfl rfl (w64 (by omega) (by omega)) ?_
          refine AtL.assign (.inl rfl) rfl rfl ?_
          refine AtL.done ?_
          refine At.seq ?_
          refine At.region ?_
          refine AtL.move (.inl rfl) rfl rfl ?_
          refine AtL.gtr (.inl rfl) rfl rfl rfl ?_
          refine AtL.move (.inl rfl) rfl rfl ?_
          refine AtL.join 3 (E' := [(43, .bool (decide ((4096 < ((s : Int) + ((((fs.getD k (([], []) : List UInt8 × List UInt8)).1).length : Int) + (((fs.getD k (([], []) : List UInt8 × List UInt8)).2).length : Int)))) ∨ ((ownF ((fs.getD k (([], []) : List UInt8 × List UInt8)).1, (fs.getD k (([], []) : List UInt8 × List UInt8)).2)) = true)))), (3, .int .i64 ((s : Int) + ((((fs.getD k (([], []) : List UInt8 × List UInt8)).1).length : Int) + (((fs.getD k (([], []) : List UInt8 × List UInt8)).2).length : Int)))), (5, .pointer (some ⟨b2, 0, none⟩)), (23, .slice A fs.length C), (24, .int .i64 (fs.length : Int)), (25, .int .i64 (k : Int))]) (H' := [(b2, .cells #[str ((fs.getD k (([], []) : List UInt8 × List UInt8)).1), str ((fs.getD k (([], []) : List UInt8 × List UInt8)).2)] 78 (0, 0))] :: [(b1, .cells #[.int .i64 st, .slice A fs.length C, .slice A2 b.length C2, .bool kp] 74 (0, 0))] :: H) (fun J => ?_) ?_
          · refine AtL.split (t := 40) rfl ?_ ?_
            · intro hs40
              have hs40 : 4096 < ((s : Int) + ((((fs.getD k (([], []) : List UInt8 × List UInt8)).1).length : Int) + (((fs.getD k (([], []) : List UInt8 × List UInt8)).2).length : Int))) := of_decide_eq_true hs40
              refine AtL.skipped rfl rfl rfl rfl rfl rfl ?_
              refine AtL.skipped rfl rfl rfl rfl rfl rfl ?_
              refine AtL.pickT (.inl rfl) rfl rfl rfl ?_
              exact J _ (by exact ⟨(boolIs (by clear J; first | (simp [hs40]; done) | (simp_all; done) | grind)), rfl, rfl, rfl, rfl, rfl, trivial⟩)
            · intro hs40
              have hs40 : ¬ (4096 < ((s : Int) + ((((fs.getD k (([], []) : List UInt8 × List UInt8)).1).length : Int) + (((fs.getD k (([], []) : List UInt8 × List UInt8)).2).length : Int)))) := of_decide_eq_false hs40
              refine AtL.loadN (cs := [str ((fs.getD k (([], []) : List UInt8 × List UInt8)).1), str ((fs.getD k (([], []) : List UInt8 × List UInt8)).2)]) tf_agg78 (.inr ⟨_, _, _, rfl, rfl, rfl, rfl⟩) rfl rfl rfl (cellsOwn 0 0 0 rfl rfl rfl) ?_
              refine AtL.call tf_body106 (.inr ⟨_, _, _, rfl, rfl, rfl, rfl⟩) rfl rfl (own_ok (n := (fs.getD k (([], []) : List UInt8 × List UInt8)).1) (v := (fs.getD k (([], []) : List UInt8 × List UInt8)).2) (by omega) (by omega)) ?_
              rintro _ _ ⟨rfl, rfl⟩
              refine AtL.pickF (.inl rfl) rfl rfl rfl ?_
              exact J _ (by exact ⟨(boolIs (by clear J; first | (simp [hs40]; done) | (simp_all; done) | grind)), rfl, rfl, rfl, rfl, rfl, trivial⟩)
          · skip
            refine AtL.move (.inl rfl) rfl rfl ?_
            refine AtL.join 4 (E' := [(48, .bool (decide (((4096 < ((s : Int) + ((((fs.getD k (([], []) : List UInt8 × List UInt8)).1).length : Int) + (((fs.getD k (([], []) : List UInt8 × List UInt8)).2).length : Int)))) ∨ ((ownF ((fs.getD k (([], []) : List UInt8 × List UInt8)).1, (fs.getD k (([], []) : List UInt8 × List UInt8)).2)) = true)) ∨ ((fieldOk ((fs.getD k (([], []) : List UInt8 × List UInt8)).1, (fs.getD k (([], []) : List UInt8 × List UInt8)).2)) = false)))), (3, .int .i64 ((s : Int) + ((((fs.getD k (([], []) : List UInt8 × List UInt8)).1).length : Int) + (((fs.getD k (([], []) : List UInt8 × List UInt8)).2).length : Int)))), (23, .slice A fs.length C), (24, .int .i64 (fs.length : Int)), (25, .int .i64 (k : Int))]) (H' := [(b2, .cells #[str ((fs.getD k (([], []) : List UInt8 × List UInt8)).1), str ((fs.getD k (([], []) : List UInt8 × List UInt8)).2)] 78 (0, 0))] :: [(b1, .cells #[.int .i64 st, .slice A fs.length C, .slice A2 b.length C2, .bool kp] 74 (0, 0))] :: H) (fun J => ?_) ?_
            · refine AtL.split (t := 44) rfl ?_ ?_
              · intro hs44
                have hs44 : (4096 < ((s : Int) + ((((fs.getD k (([], []) : List UInt8 × List UInt8)).1).length : Int) + (((fs.getD k (([], []) : List UInt8 × List UInt8)).2).length : Int)))) ∨ ((ownF ((fs.getD k (([], []) : List UInt8 × List UInt8)).1, (fs.getD k (([], []) : List UInt8 × List UInt8)).2)) = true) := of_decide_eq_true hs44
                refine AtL.skipped rfl rfl rfl rfl rfl rfl ?_
                refine AtL.skipped rfl rfl rfl rfl rfl rfl ?_
                refine AtL.skipped rfl rfl rfl rfl rfl rfl ?_
                refine AtL.pickT (.inl rfl) rfl rfl rfl ?_
                exact J _ (by exact ⟨(boolIs (by clear J; first | (simp [hs44]; done) | (simp_all; done) | grind)), rfl, rfl, rfl, rfl, trivial⟩)
              · intro hs44
                have hs44 : ¬ ((4096 < ((s : Int) + ((((fs.getD k (([], []) : List UInt8 × List UInt8)).1).length : Int) + (((fs.getD k (([], []) : List UInt8 × List UInt8)).2).length : Int)))) ∨ ((ownF ((fs.getD k (([], []) : List UInt8 × List UInt8)).1, (fs.getD k (([], []) : List UInt8 × List UInt8)).2)) = true)) := of_decide_eq_false hs44
                refine AtL.loadN (cs := [str ((fs.getD k (([], []) : List UInt8 × List UInt8)).1), str ((fs.getD k (([], []) : List UInt8 × List UInt8)).2)]) tf_agg78 (.inr ⟨_, _, _, rfl, rfl, rfl, rfl⟩) rfl rfl rfl (cellsOwn 0 0 0 rfl rfl rfl) ?_
                refine AtL.call tf_body107 (.inr ⟨_, _, _, rfl, rfl, rfl, rfl⟩) rfl rfl (pfine_ok (n := (fs.getD k (([], []) : List UInt8 × List UInt8)).1) (v := (fs.getD k (([], []) : List UInt8 × List UInt8)).2) (by omega) (by omega)) ?_
                rintro _ _ ⟨rfl, rfl⟩
                refine AtL.not (.inr ⟨_, _, _, rfl, rfl, rfl, rfl⟩) rfl rfl ?_
                refine AtL.pickF (.inl rfl) rfl rfl rfl ?_
                exact J _ (by exact ⟨(boolIs (by clear J; first | (simp [hs44]; done) | (simp_all; done) | grind)), rfl, rfl, rfl, rfl, trivial⟩)
            · skip
              refine AtL.done ?_
              refine At.cond rfl ?_ ?_
              · intro hc3
                have hc3 : ((4096 < ((s : Int) + ((((fs.getD k (([], []) : List UInt8 × List UInt8)).1).length : Int) + (((fs.getD k (([], []) : List UInt8 × List UInt8)).2).length : Int)))) ∨ ((ownF ((fs.getD k (([], []) : List UInt8 × List UInt8)).1, (fs.getD k (([], []) : List UInt8 × List UInt8)).2)) = true)) ∨ ((fieldOk ((fs.getD k (([], []) : List UInt8 × List UInt8)).1, (fs.getD k (([], []) : List UInt8 × List UInt8)).2)) = false) := of_decide_eq_true hc3
                refine At.seq ?_
                refine At.region ?_
                refine AtL.assign (.inl rfl) rfl rfl ?_
                refine AtL.done ?_
                refine At.pick (H' := H) [] 2 rfl rfl ?_
                exact At.ret Tryz.func62 rfl rfl (⟨congrArg int (chk_bad (r := ⟨st, fs, b, kp⟩) (k := k) (by show k < fs.length; omega) (by rcases hc3 with (h | h) | h; exact .inr (by show 4096 < sumF (fs.take (k + 1)); rw [sumF_snoc fs k (by omega), ← hs]; omega); exact .inl (fldR_no1 h); exact .inl (fldR_no2 h))).symm, rfl⟩)
              · intro hc3
                have hc3 : ¬ (((4096 < ((s : Int) + ((((fs.getD k (([], []) : List UInt8 × List UInt8)).1).length : Int) + (((fs.getD k (([], []) : List UInt8 × List UInt8)).2).length : Int)))) ∨ ((ownF ((fs.getD k (([], []) : List UInt8 × List UInt8)).1, (fs.getD k (([], []) : List UInt8 × List UInt8)).2)) = true)) ∨ ((fieldOk ((fs.getD k (([], []) : List UInt8 × List UInt8)).1, (fs.getD k (([], []) : List UInt8 × List UInt8)).2)) = false)) := of_decide_eq_false hc3
                simp only [not_or] at hc3
                have hfR : fldR (fs.getD k (([], []) : List UInt8 × List UInt8)) = true := fldR_yes hc3.1.2 hc3.2
                have hall2 := all_snoc (p := fldR) (by omega) ha hfR
                refine At.skip ?_
                refine At.inBlock ?_
                refine At.region ?_
                refine AtL.add (z := (k : Int) + 1) (.inl rfl) rfl rfl rfl (w64 (by omega) (by omega)) ?_
                refine AtL.move (.inl rfl) rfl rfl ?_
                refine AtL.done ?_
                refine At.pick (H' := [(b1, .cells #[.int .i64 st, .slice A fs.length C, .slice A2 b.length C2, .bool kp] 74 (0, 0))] :: H) [1] 2 rfl rfl ?_
                refine ihL1 (k + 1) (s + ((((fs.getD k (([], []) : List UInt8 × List UInt8)).1).length) + (((fs.getD k (([], []) : List UInt8 × List UInt8)).2).length))) (⟨by omega, hall2, by rw [sumF_snoc fs k (by omega), ← hs] <;> omega, by omega⟩) (by omega) _ ?_
                exact ⟨(by first | rfl | exact slLen (by simp []) | exact intEq (by omega) | exact intEq (by simp []) | exact slLen (by simp []; omega)), rfl, rfl, (by first | rfl | exact slLen (by simp []) | exact intEq (by omega) | exact intEq (by simp []) | exact slLen (by simp []; omega)), trivial⟩
        · intro hc2
          have hc2 : ¬ ((k : Int) < (fs.length : Int)) := of_decide_eq_false hc2
          refine At.exit rfl ?_
          refine At.seq ?_
          refine At.region ?_
          refine AtL.assign (.inl rfl) rfl rfl ?_
          refine AtL.done ?_
          refine At.pick (H' := H) [] 1 rfl rfl ?_
          exact At.ret Tryz.func62 rfl rfl (⟨congrArg int (chk_ok (r := ⟨st, fs, b, kp⟩) hc1 (by show fs.length ≤ k; omega) ha (by show sumF (fs.take k) ≤ 4096; omega)).symm, rfl⟩)
end Go.Proofs.YtlkdmbpbjhjkfaaGreatDoor
namespace Go.Proofs.YtlkdmbpbjhjkfaaGreatDoor
set_option linter.unusedVariables false
set_option linter.unusedSimpArgs false
set_option maxRecDepth 100000
theorem noesc (x : Value) (w : World) : (callFunc 156 #[x]).run Tryz.prog w = .ok (.value x) w := by
  rw [run_callFunc_extern Tryz.func156 (by kernel_rfl) (by kernel_rfl) (by kernel_rfl) (e := Extern.AbiNoEscape.same) (by kernel_rfl)]
  rfl
set_option maxHeartbeats 400000 in
theorem bchk_new {w0 : World} {base : Nat} {H : List Seg} {b : Nat} {v : Value} :
    SCalls Tryz.prog 108 [.pointer (some ⟨b, 0, none⟩)] w0 base ([(b, .cells #[.pointer none, v] 108 (0, 0))] :: H) (fun u H' => u = .tuple #[] ∧ H' = [(b, .cells #[.pointer (some ⟨b, 0, none⟩), v] 108 (0, 0))] :: H) := by
  refine SCalls.of_walk (n := 20) Tryz.func108 rfl rfl rfl fun cs => ?_
  refine At.seq ?_
  refine At.region ?_
  refine AtL.move (.inl rfl) rfl rfl ?_
  refine AtL.nilCheck (.inl rfl) rfl rfl ?_
  refine AtL.fieldAddrB tf_fo108_0 (.inl rfl) rfl rfl rfl ?_
  refine AtL.load tf_flat106 (.inl rfl) rfl rfl (Cell.own 0 0 rfl rfl rfl) ?_
  refine AtL.eqPtrNil Tryz.underlying106 (.inl rfl) rfl rfl rfl ?_
  refine AtL.done ?_
  refine At.condT rfl ?_
  refine At.region ?_
  refine AtL.move (.inl rfl) rfl rfl ?_
  refine AtL.move (.inl rfl) rfl rfl ?_
  refine AtL.toUnsafe (n := 2) 0 0 Tryz.underlying106 Tryz.underlying194 tf_sz108 (by decide) (.inl rfl) rfl rfl rfl (by simp) rfl ?_
  refine AtL.callX (v := .pointer (some ⟨b, 0, none⟩)) (fun w S => noesc _ w) (.inl rfl) rfl rfl ?_
  refine AtL.fromUnsafe 0 0 Tryz.underlying194 Tryz.underlying106 tf_sz108 (.inl rfl) rfl rfl rfl (by kernel_rfl) rfl ?_
  refine AtL.nilCheck (.inl rfl) rfl rfl ?_
  refine AtL.fieldAddrB tf_fo108_0 (.inl rfl) rfl rfl rfl ?_
  refine AtL.store (H' := [(b, .cells #[.pointer (some ⟨b, 0, none⟩), v] 108 (0, 0))] :: H) 0 0 tf_sz106 (.inl rfl) rfl rfl rfl rfl rfl rfl rfl rfl rfl ?_
  refine AtL.done ?_
  exact At.end_ Tryz.func108 rfl rfl (⟨rfl, rfl⟩)
set_option maxHeartbeats 400000 in
theorem bchk_old {w0 : World} {base : Nat} {H : List Seg} {b : Nat} {v : Value} :
    SCalls Tryz.prog 108 [.pointer (some ⟨b, 0, none⟩)] w0 base ([(b, .cells #[.pointer (some ⟨b, 0, none⟩), v] 108 (0, 0))] :: H) (fun u H' => u = .tuple #[] ∧ H' = [(b, .cells #[.pointer (some ⟨b, 0, none⟩), v] 108 (0, 0))] :: H) := by
  refine SCalls.of_walk (n := 20) Tryz.func108 rfl rfl rfl fun cs => ?_
  refine At.seq ?_
  refine At.region ?_
  refine AtL.move (.inl rfl) rfl rfl ?_
  refine AtL.nilCheck (.inl rfl) rfl rfl ?_
  refine AtL.fieldAddrB tf_fo108_0 (.inl rfl) rfl rfl rfl ?_
  refine AtL.load tf_flat106 (.inl rfl) rfl rfl (Cell.own 0 0 rfl rfl rfl) ?_
  refine AtL.eqPtrNil Tryz.underlying106 (.inl rfl) rfl rfl rfl ?_
  refine AtL.done ?_
  refine At.condF rfl ?_
  refine At.seq ?_
  refine At.region ?_
  refine AtL.move (.inl rfl) rfl rfl ?_
  refine AtL.nilCheck (.inl rfl) rfl rfl ?_
  refine AtL.fieldAddrB tf_fo108_0 (.inl rfl) rfl rfl rfl ?_
  refine AtL.load tf_flat106 (.inl rfl) rfl rfl (Cell.own 0 0 rfl rfl rfl) ?_
  refine AtL.move (.inl rfl) rfl rfl ?_
  refine AtL.nePtrSame (n := 2) Tryz.underlying106 tf_sz108 (by decide) (.inl rfl) rfl rfl rfl ?_
  refine AtL.done ?_
  refine At.condF rfl ?_
  refine At.skip ?_
  exact At.end_ Tryz.func108 rfl rfl (⟨rfl, rfl⟩)
def bown (b : Nat) (p : Value) : Prop := p = .pointer none ∨ p = .pointer (some ⟨b, 0, none⟩)
theorem bchk_ok {w0 : World} {base : Nat} {H : List Seg} {b : Nat} {p v : Value} (h : bown b p) : SCalls Tryz.prog 108 [.pointer (some ⟨b, 0, none⟩)] w0 base ([(b, .cells #[p, v] 108 (0, 0))] :: H) (fun u H' => u = .tuple #[] ∧ H' = [(b, .cells #[.pointer (some ⟨b, 0, none⟩), v] 108 (0, 0))] :: H) := by
  rcases h with rfl | rfl
  · exact bchk_new
  · exact bchk_old
set_option maxHeartbeats 400000 in
theorem bwrite_ok {w0 : World} {base : Nat} {H : List Seg} {b : Nat} {p : Value} (hp : bown b p) {x : Sl tyB 5} {v : List UInt8} (hl : x.l.length + v.length ≤ 140737488355328) :
    SCalls Tryz.prog 64 [.pointer (some ⟨b, 0, none⟩), str v] w0 base (x.s :: [(b, .cells #[p, .slice x.A x.l.length x.C] 108 (0, 0))] :: H) (fun u H' => ∃ y : Sl tyB 5, y.l = x.l ++ v ∧ u = .tuple #[int (v.length : Int), .nilIface] ∧ H' = y.s :: [(b, .cells #[.pointer (some ⟨b, 0, none⟩), .slice y.A y.l.length y.C] 108 (0, 0))] :: H) := by
  refine SCalls.of_walk (n := 19) Tryz.func64 rfl rfl rfl fun cs => ?_
  refine At.seq ?_
  refine At.region ?_
  refine AtL.assign (.inl rfl) rfl rfl ?_
  refine AtL.assign (.inl rfl) rfl rfl ?_
  refine AtL.done ?_
  refine At.seq ?_
  refine At.region ?_
  refine AtL.move (.inl rfl) rfl rfl ?_
  refine AtL.pick (H' := [(b, .cells #[p, .slice x.A x.l.length x.C] 108 (0, 0))] :: x.s :: H) [1, 0] 2 rfl rfl ?_
  refine AtL.call tf_body108 (.inl rfl) rfl rfl (bchk_ok hp) ?_
  rintro _ _ ⟨rfl, rfl⟩
  refine AtL.done ?_
  refine At.seq ?_
  refine At.region ?_
  refine AtL.move (.inl rfl) rfl rfl ?_
  refine AtL.move (.inl rfl) rfl rfl ?_
  refine AtL.nilCheck (.inl rfl) rfl rfl ?_
  refine AtL.fieldAddrB tf_fo108_1 (.inl rfl) rfl rfl rfl ?_
  refine AtL.load tf_flat22 (.inl rfl) rfl rfl (Cell.own 0 0 rfl rfl rfl) ?_
  refine AtL.move (.inl rfl) rfl rfl ?_
  refine AtL.appendS (l := x.l) (news := v) 1 tf_el22 Tryz.underlying9 rfl x.own (by omega) (.inl rfl) rfl rfl rfl ?_
  intro A1 C2 s3 o4
  refine AtL.nilCheck (.inl rfl) rfl rfl ?_
  refine AtL.fieldAddrB tf_fo108_1 (.inl rfl) rfl rfl rfl ?_
  refine AtL.store (H' := [(b, .cells #[.pointer (some ⟨b, 0, none⟩), .slice A1 (x.l ++ v).length C2] 108 (0, 0))] :: s3 :: H) 0 0 tf_sz22 (.inl rfl) rfl rfl rfl rfl rfl rfl rfl rfl rfl ?_
  refine AtL.done ?_
  refine At.seq ?_
  refine At.region ?_
  refine AtL.move (.inl rfl) rfl rfl ?_
  refine AtL.lenS (l := v) Tryz.underlying9 (.inl rfl) rfl rfl ?_
  refine AtL.assign (.inl rfl) rfl rfl ?_
  refine AtL.assign (.inl rfl) rfl rfl ?_
  refine AtL.done ?_
  refine At.pick (H' := s3 :: [(b, .cells #[.pointer (some ⟨b, 0, none⟩), .slice A1 (x.l ++ v).length C2] 108 (0, 0))] :: H) [1, 0] 2 rfl rfl ?_
  exact At.ret Tryz.func64 rfl rfl (⟨⟨A1, C2, x.l ++ v, s3, o4⟩, rfl, rfl, rfl⟩)
set_option maxHeartbeats 400000 in
theorem bstring_ok {w0 : World} {base : Nat} {H : List Seg} {b : Nat} {p : Value} {a : Addr} {C : Nat} {l : List UInt8} {s : Seg} (o : Own tyB 5 (some a) C l s) (h0 : l ≠ []) (hl0 : l.length ≠ 0) (hC : C ≠ 0) :
    SCalls Tryz.prog 66 [.pointer (some ⟨b, 0, none⟩)] w0 base (s :: [(b, .cells #[p, .slice (some a) l.length C] 108 (0, 0))] :: H) (fun u H' => ∃ s', u = str l ∧ H' = s' :: H) := by
  refine SCalls.of_walk (n := 14) Tryz.func66 rfl rfl rfl fun cs => ?_
  refine At.seq ?_
  refine At.region ?_
  refine AtL.assign (.inl rfl) rfl rfl ?_
  refine AtL.done ?_
  refine At.seq ?_
  refine At.draw (es := [10]) (pv := [(0, .pointer (some ⟨b, 0, none⟩)), (1, .pointer (some ⟨b, 0, none⟩)), (2, .pointer (some ⟨b, 1, none⟩)), (3, .slice (some a) l.length C), (4, .pointer (some a)), (5, .pointer (some ⟨b, 0, none⟩)), (6, .pointer (some ⟨b, 0, none⟩)), (7, .pointer (some ⟨b, 1, none⟩)), (8, .slice (some a) l.length C), (9, .int .i64 (l.length : Int))]) tf_mixed (by kernel_rfl) (by kernel_rfl) (by kernel_rfl) ?_
  refine ⟨⟨.inr ⟨_, rfl, rfl, .inl ⟨rfl, Do.move rfl⟩⟩, .inr ⟨_, rfl, rfl, .inl ⟨rfl, Do.nilCheck rfl⟩⟩, .inr ⟨_, rfl, rfl, .inl ⟨rfl, Do.fieldAddrB tf_fo108_1 rfl rfl⟩⟩, .inr ⟨_, rfl, rfl, .inl ⟨rfl, Do.load tf_flat22 rfl (Cell.own 1 0 rfl rfl rfl)⟩⟩, .inr ⟨_, rfl, rfl, .inl ⟨rfl, Do.sliceData hC rfl⟩⟩, .inr ⟨_, rfl, rfl, .inl ⟨rfl, Do.move rfl⟩⟩, .inr ⟨_, rfl, rfl, .inl ⟨rfl, Do.nilCheck rfl⟩⟩, .inr ⟨_, rfl, rfl, .inl ⟨rfl, Do.fieldAddrB tf_fo108_1 rfl rfl⟩⟩, .inr ⟨_, rfl, rfl, .inl ⟨rfl, Do.load tf_flat22 rfl (Cell.own 1 0 rfl rfl rfl)⟩⟩, .inr ⟨_, rfl, rfl, .inl ⟨rfl, Do.lenL Tryz.underlying22 rfl⟩⟩, trivial⟩, rfl, rfl, by kernel_rfl, _, rfl, rfl, rfl, _, Do.unsafeStr (l := l) 0 Tryz.underlying153 (by kernel_rfl) rfl o h0 rfl rfl, ?_⟩
  rintro _ _ ⟨s1, rfl, rfl⟩
  refine ⟨[(11, str l)], rfl, ?_⟩
  refine ⟨⟨.inr ⟨_, rfl, rfl, .inl ⟨rfl, Do.assign rfl⟩⟩, .inl (by kernel_rfl), .inl (by kernel_rfl), .inl (by kernel_rfl), .inl (by kernel_rfl), .inl (by kernel_rfl), .inl (by kernel_rfl), .inl (by kernel_rfl), .inl (by kernel_rfl), .inl (by kernel_rfl), .inl (by kernel_rfl), trivial⟩, by kernel_rfl, ?_⟩
  refine At.mono (E' := [(2, str l)]) ⟨rfl, trivial⟩ ?_
  refine At.pick (H' := s1 :: H) [0] 2 rfl rfl ?_
  exact At.ret Tryz.func66 rfl rfl (⟨_, rfl, rfl⟩)
theorem bstr_ok {w0 : World} {base : Nat} {H : List Seg} {b : Nat} {p : Value} {x : Sl tyB 5} (h0 : x.l ≠ []) : SCalls Tryz.prog 66 [.pointer (some ⟨b, 0, none⟩)] w0 base (x.s :: [(b, .cells #[p, .slice x.A x.l.length x.C] 108 (0, 0))] :: H) (fun u H' => ∃ s', u = str x.l ∧ H' = s' :: H) := by
  obtain ⟨A, C, l, s, o⟩ := x
  have hl0 : l.length ≠ 0 := fun h => h0 (List.eq_nil_of_length_eq_zero h)
  have hle := o.le_cap
  cases A with
  | none =>
    obtain ⟨r, _, h⟩ := o
    rcases h with ⟨_, h, _⟩ | ⟨_, _, _, _, h, _⟩
    · exact absurd h h0
    · cases h
  | some a =>
    have hC : C ≠ 0 := by have := hle; omega
    exact bstring_ok o h0 hl0 hC
structure Tab10 (w0 : World) (base : Nat) : Prop where
  lt : 1 < base
  var : Lib.TabIs Tryz.prog w0 "internal/strconv.uint64pow10" .u64 Lib.pow10Tab
theorem Tab10.at {w0 : World} {base : Nat} {w : World} {H : List Seg} (T : Tab10 w0 base) (S : Sep w0 base w H) : Lib.TabIs Tryz.prog w "internal/strconv.uint64pow10" .u64 Lib.pow10Tab := by
  have h := T.var
  have hg : Tryz.prog.globalNamed "internal/strconv.uint64pow10" = some 1 := by kernel_rfl
  have hb := S.below.block _ T.lt
  unfold Lib.TabIs World.var? at h ⊢
  rw [hg] at h ⊢
  simp only [Option.bind_some] at h ⊢
  rw [hb]; exact h
theorem decF_dig (n : Nat) : decF n = Lib.decDigits n := by
  induction n using Nat.strongRecOn with
  | _ n ih =>
    rw [decF, Lib.decDigits]
    by_cases h : n < 10
    · rw [if_pos h, dif_pos h]
    · rw [if_neg h, dif_neg h, ih (n / 10) (by omega)]
theorem below_grow {w : World} {k : Nat} {os : Array Obj} : Go.RowKit.Below w.heap.size w (Go.Sort.grow (w.drewN k) os) :=
  ⟨rfl, rfl, rfl, by simp [Go.Sort.grow], fun j hj => by
    show (w.heap ++ os)[j]? = _
    rw [Array.getElem?_append_left hj]⟩
theorem itoa_any {w0 : World} {base : Nat} {H : List Seg} {n : Int} (h0 : 0 ≤ n) (h1 : n ≤ 9223372036854775807) (T : Tab10 w0 base) : SCalls Tryz.prog 42 [int n] w0 base H (fun v H' => v = str (decF n.toNat) ∧ H' = H) := by
  refine SCalls.of_below fun w S => ?_
  refine (Tryz.strconv_Itoa n (by omega) h1 w (T.at S)).mono ?_
  rintro e w' ⟨he, k, os, rfl⟩
  refine ⟨?_, below_grow⟩
  rw [he, decF_dig, Lib.itoa, if_neg (by omega)]
  rfl
theorem decF_len (n : Nat) (h : n ≤ 1073741824) : (decF n).length ≤ 10 := by
  refine (decF_num n).2.2 9 ?_
  have h2 : (10 : Nat) ^ 10 = 10000000000 := by decide
  omega
theorem itoa_nat {w0 : World} {base : Nat} {H : List Seg} (n : Nat) (h1 : n ≤ 9223372036854775807) (T : Tab10 w0 base) : SCalls Tryz.prog 42 [int (n : Int)] w0 base H (fun v H' => v = str (decF n) ∧ H' = H) :=
  itoa_any (n := (n : Int)) (by omega) (by omega) T
theorem flat_take_le2 (ls : List (List UInt8)) (k : Nat) : ((ls.take k).flatten).length ≤ (ls.flatten).length := by
  conv => rhs; rw [← List.take_append_drop k ls, List.flatten_append, List.length_append]
  omega
theorem take_flat {ls : List (List UInt8)} {k : Nat} (h : k < ls.length) : (ls.take k).flatten ++ ls.getD k [] = (ls.take (k + 1)).flatten := by
  rw [List.take_succ_eq_append_getElem h, List.flatten_append]
  simp [List.getD, h]
theorem get_flat {ls : List (List UInt8)} {k : Nat} (h : k < ls.length) : ((ls.take k).flatten).length + (ls.getD k []).length ≤ (ls.flatten).length := by
  have := flat_take_le2 ls (k + 1)
  rw [← take_flat h, List.length_append] at this; exact this
set_option maxHeartbeats 400000 in
theorem line_ok {w0 : World} {base : Nat} {H : List Seg} {b : Nat} {p : Value} (hp : bown b p) {x : Sl tyB 5} {A : Option Addr} {C : Nat} {ls : List (List UInt8)} (h : Rd tyS w0 base H A C ls) (hl : x.l.length + (ls.flatten).length + 2 ≤ 140737488355328) :
    SCalls Tryz.prog 63 [.slice A ls.length C, .pointer (some ⟨b, 0, none⟩)] w0 base (x.s :: [(b, .cells #[p, .slice x.A x.l.length x.C] 108 (0, 0))] :: H) (fun u H' => ∃ y : Sl tyB 5, y.l = x.l ++ (ls.flatten ++ [13, 10]) ∧ u = .tuple #[] ∧ H' = y.s :: [(b, .cells #[.pointer (some ⟨b, 0, none⟩), .slice y.A y.l.length y.C] 108 (0, 0))] :: H) := by
  have hle0 := h.le
  have hcap0 := h.cap
  refine SCalls.of_walk (n := 15) Tryz.func63 rfl rfl rfl fun cs => ?_
  refine At.seq ?_
  refine At.seq ?_
  refine At.region ?_
  refine AtL.move (.inl rfl) rfl rfl ?_
  refine AtL.lenL Tryz.underlying109 (.inl rfl) rfl rfl ?_
  refine AtL.move (.inl rfl) rfl rfl ?_
  refine AtL.done ?_
  refine At.block ?_
  refine At.loop3 (fun (k : Nat) (y : Sl tyB 5) (q : Value) => [(1, .pointer (some ⟨b, 0, none⟩)), (5, .slice A ls.length C), (6, .int .i64 (ls.length : Int)), (7, .int .i64 (k : Int))]) (fun (k : Nat) (y : Sl tyB 5) (q : Value) => y.s :: [(b, .cells #[q, .slice y.A y.l.length y.C] 108 (0, 0))] :: H) (fun (k : Nat) (y : Sl tyB 5) (q : Value) => k ≤ ls.length ∧ y.l = x.l ++ (ls.take k).flatten ∧ bown b q) (fun (k : Nat) (y : Sl tyB 5) (q : Value) => ls.length - k) 0 x p (⟨Nat.zero_le _, by simp, hp⟩) ⟨rfl, rfl, rfl, rfl, trivial⟩ rfl ?_
  rintro k y q ⟨hk, hy, hq⟩ ihL1
  have hyl : y.l.length = x.l.length + ((ls.take k).flatten).length := by rw [hy, List.length_append]
  have hfl := flat_take_le2 ls k
  refine At.seq ?_
  refine At.region ?_
  refine AtL.lss (.inl rfl) rfl rfl rfl ?_
  refine AtL.done ?_
  refine At.seq ?_
  refine At.cond rfl ?_ ?_
  · intro hc1
    have hc1 : (k : Int) < (ls.length : Int) := of_decide_eq_true hc1
    have hgf := get_flat (ls := ls) (k := k) (by omega)
    refine At.skip ?_
    refine At.seq ?_
    refine At.block ?_
    refine At.seq ?_
    refine At.region ?_
    refine AtL.indexL k (Rd.skip 2 h) Tryz.underlying109 tf_sz9 (.inl rfl) rfl rfl rfl rfl (by omega) ?_
    refine AtL.load (v := str (ls.getD k [])) tf_flat9 (.inl rfl) rfl rfl (Rd.cell0 (Rd.skip 2 h) (getD_some [] (by omega)) rfl) ?_
    refine AtL.assign (.inl rfl) rfl rfl ?_
    refine AtL.done ?_
    refine At.region ?_
    refine AtL.move (.inl rfl) rfl rfl ?_
    refine AtL.call tf_body64 (.inl rfl) rfl rfl (bwrite_ok hq (x := y) (v := (ls.getD k [])) (by first | omega | (simp only [List.length_append, List.length_cons, List.length_nil]; omega))) ?_
    rintro _ _ ⟨⟨A1, C2, l3, s4, o5⟩, hx6, rfl, rfl⟩
    obtain rfl : y.l ++ (ls.getD k []) = l3 := hx6.symm
    refine AtL.done ?_
    refine At.inBlock ?_
    refine At.region ?_
    refine AtL.add (z := (k : Int) + 1) (.inl rfl) rfl rfl rfl (w64 (by omega) (by omega)) ?_
    refine AtL.move (.inl rfl) rfl rfl ?_
    refine AtL.done ?_
    refine ihL1 (k + 1) (⟨A1, C2, y.l ++ (ls.getD k []), s4, o5⟩) (.pointer (some ⟨b, 0, none⟩)) (⟨by omega, by dsimp only; rw [hy, List.append_assoc, take_flat (by omega)], .inr rfl⟩) (by omega) _ ?_
    exact ⟨rfl, rfl, rfl, (by first | rfl | exact slLen (by simp []) | exact intEq (by omega) | exact intEq (by simp []) | exact slLen (by simp []; omega)), trivial⟩
  · intro hc1
    have hc1 : ¬ ((k : Int) < (ls.length : Int)) := of_decide_eq_false hc1
    rw [List.take_of_length_le (by omega)] at hy
    refine At.exit rfl ?_
    refine At.region ?_
    refine AtL.call tf_body64 (.inl rfl) rfl rfl (bwrite_ok hq (x := y) (v := [13, 10]) (by first | omega | (simp only [List.length_append, List.length_cons, List.length_nil]; omega))) ?_
    rintro _ _ ⟨⟨A7, C8, l9, s10, o11⟩, hx12, rfl, rfl⟩
    obtain rfl : y.l ++ [13, 10] = l9 := hx12.symm
    refine AtL.done ?_
    exact At.end_ Tryz.func63 rfl rfl (⟨⟨A7, C8, y.l ++ [13, 10], s10, o11⟩, by dsimp only; rw [hy, List.append_assoc], rfl, rfl⟩)
theorem resp_bad {r : RespV} (h : ¬ respE r = 0) : respE r = 2 ∧ respL r = [] := by
  unfold respE respL at *
  split
  · rename_i h2; rw [if_pos h2] at h; exact absurd rfl h
  · exact ⟨rfl, rfl⟩
theorem resp_good {r : RespV} (h : respE r = 0) : respL r = respB r ∧ 200 ≤ r.st ∧ r.st ≤ 505 ∧ r.fs.length ≤ 16 ∧ r.body.length ≤ 65535 ∧ sumF r.fs ≤ 4096 := by
  have ho := respE_ok h
  refine ⟨by rw [respL, if_pos ho], ?_⟩
  simp only [okR, Bool.and_eq_true, decide_eq_true_eq] at ho
  obtain ⟨⟨⟨⟨h1, h2⟩, h3⟩, _⟩, h5⟩ := ho
  have := reason_200 h1
  exact ⟨this.1, this.2, h2, h3, h5⟩
theorem stB_line (st : Int) : ([[72, 84, 84, 80, 47, 49, 46, 49, 32], decF st.toNat, [32], reasonF st] : List (List UInt8)).flatten ++ [13, 10] = stB st := by simp [stB, H11]
theorem lenB_line (n : Nat) : ([[67, 111, 110, 116, 101, 110, 116, 45, 76, 101, 110, 103, 116, 104, 58, 32], decF n] : List (List UInt8)).flatten ++ [13, 10] = lenB n := by simp [lenB, CLN]
theorem fld_line (f : Fld) : ([f.1, [58, 32], f.2] : List (List UInt8)).flatten ++ [13, 10] = f.1 ++ ([58, 32] ++ (f.2 ++ [13, 10])) := by simp
theorem ccl_line : ([[67, 111, 110, 110, 101, 99, 116, 105, 111, 110, 58, 32, 99, 108, 111, 115, 101]] : List (List UInt8)).flatten ++ [13, 10] = CCL ++ [13, 10] := by decide
theorem nil_line : ([] : List (List UInt8)).flatten ++ [13, 10] = [13, 10] := rfl
theorem stB_len (st : Int) (h : (decF st.toNat).length ≤ 10) : (stB st).length ≤ 62 := by
  have := reasonF_len st
  simp only [stB, H11, List.length_append, List.length_cons, List.length_nil]; omega
theorem lenB_len (n : Nat) (h : (decF n).length ≤ 10) : (lenB n).length ≤ 28 := by
  simp only [lenB, CLN, List.length_append, List.length_cons, List.length_nil]; omega
theorem fields_upto {fs : List Fld} (k : Nat) : (fieldsR (fs.take k)).length ≤ (fieldsR fs).length := by
  rw [fieldsR_len, fieldsR_len]
  have h1 := sumF_take fs k
  have h2 : (fs.take k).length ≤ fs.length := by rw [List.length_take]; omega
  omega
theorem fields_at {fs : List Fld} {k : Nat} (h : k < fs.length) : (fieldsR (fs.take k)).length + (((fs.getD k (([], []) : List UInt8 × List UInt8)).1 ++ ([58, 32] ++ ((fs.getD k (([], []) : List UInt8 × List UInt8)).2 ++ [13, 10]))).length) ≤ (fieldsR fs).length := by
  have := fields_upto (fs := fs) (k + 1)
  rw [fieldsR_snoc fs k h, List.length_append] at this; exact this
set_option maxHeartbeats 1000000 in
theorem rwrite_okP {w0 : World} {base : Nat} {H : List Seg} {st : Int} {A A2 : Option Addr} {C C2 : Nat} {fs : List (List UInt8 × List UInt8)} {b : List UInt8} {kp : Bool} (h : Rd tyField w0 base H A C fs) (h2 : Rd tyB w0 base H A2 C2 b) (hb : ∀ f ∈ fs, f.1.length ≤ 140737488355000 ∧ f.2.length ≤ 140737488355000) (T10 : Tab10 w0 base) :
    SCalls Tryz.prog 43 [.agg #[.int .i64 st, .slice A fs.length C, .slice A2 b.length C2, .bool kp]] w0 base (H) (fun v H' => ∃ x : Sl tyB 5, x.l = respL ⟨st, fs, b, kp⟩ ∧ v = .tuple #[.slice x.A x.l.length x.C, int (respE ⟨st, fs, b, kp⟩)] ∧ H' = x.s :: H) := by
  have hle0 := h.le
  have hcap0 := h.cap
  have hle2 := h2.le
  have hcap2 := h2.cap
  refine SCalls.of_walk (n := 59) Tryz.func43 rfl rfl rfl fun cs => ?_
  refine At.seq ?_
  refine At.region ?_
  refine AtL.box (cs := #[.int .i64 st, .slice A fs.length C, .slice A2 b.length C2, .bool kp]) rfl (.inl rfl) rfl rfl ?_
  intro b1
  refine AtL.assign (.inl rfl) rfl rfl ?_
  refine AtL.assign (.inl rfl) rfl rfl ?_
  refine AtL.done ?_
  refine At.seq ?_
  refine At.seq ?_
  refine At.region ?_
  refine AtL.loadN (cs := [.int .i64 st, .slice A fs.length C, .slice A2 b.length C2, .bool kp]) tf_agg74 (.inl rfl) rfl rfl rfl (cellsOwn 0 0 0 rfl rfl rfl) ?_
  refine AtL.call tf_body62 (.inl rfl) rfl rfl (rchk_ok0 (st := st) (fs := fs) (b := b) (kp := kp) (Rd.skip 1 h) (Rd.skip 1 h2) hb) ?_
  rintro _ _ ⟨rfl, rfl⟩
  refine AtL.assign (.inl rfl) rfl rfl ?_
  refine AtL.done ?_
  refine At.seq ?_
  refine At.region ?_
  refine AtL.move (.inl rfl) rfl rfl ?_
  refine AtL.nei (.inl rfl) rfl rfl rfl ?_
  refine AtL.done ?_
  refine At.cond rfl ?_ ?_
  · intro hc1
    have hc1 : ¬ ((respE ⟨st, fs, b, kp⟩ : Int) = 0) := of_decide_eq_false (bnot_true hc1)
    refine At.seq ?_
    refine At.region ?_
    refine AtL.move (.inl rfl) rfl rfl ?_
    refine AtL.assign (.inl rfl) rfl rfl ?_
    refine AtL.assign (.inl rfl) rfl rfl ?_
    refine AtL.done ?_
    obtain ⟨he2, hl0⟩ := resp_bad (r := ⟨st, fs, b, kp⟩) hc1
    refine At.nil ?_
    refine At.pick (H' := [] :: H) [0] 2 rfl rfl ?_
    exact At.ret Tryz.func43 rfl rfl (⟨Sl.nil, by rw [hl0]; rfl, by rw [he2]; rfl, rfl⟩)
  · intro hc1
    have hc1 : (respE ⟨st, fs, b, kp⟩ : Int) = 0 := of_decide_eq_true (bnot_false hc1)
    have he0 : respE ⟨st, fs, b, kp⟩ = 0 := by simpa using hc1
    obtain ⟨hgL, hg1, hg2, hg3, hg4, hg5⟩ := resp_good he0
    dsimp only at hg1 hg2 hg3 hg4 hg5
    have hdl := decF_len st.toNat (by omega)
    have hdb := decF_len b.length (by omega)
    have hrl := reasonF_len st
    have hsl := stB_len st hdl
    have hll := lenB_len b.length hdb
    have hfsl : (fieldsR fs).length ≤ 5000 := by rw [fieldsR_len]; omega
    refine At.skip ?_
    refine At.seq ?_
    refine At.region ?_
    refine AtL.alloc tf_zero108 (cs := #[.pointer none, .slice none 0 0]) rfl (.inl rfl) rfl ?_
    intro b2
    refine AtL.done ?_
    refine At.seq ?_
    refine At.region ?_
    refine AtL.makeFunc (.inl rfl) rfl rfl rfl ?_
    refine AtL.assign (.inl rfl) rfl rfl ?_
    refine AtL.done ?_
    refine At.nil ?_
    refine At.seq ?_
    refine At.draw (es := [7, 8]) (pv := [(0, .func (.func 63) #[] #[.pointer (some ⟨b2, 0, none⟩)]), (1, .pointer (some ⟨b1, 0, none⟩)), (2, .int .i64 st), (3, str (decF (Int.toNat st))), (4, .pointer (some ⟨b1, 0, none⟩)), (5, .int .i64 st), (6, str (reasonF st))]) tf_mixed (by kernel_rfl) (by kernel_rfl) (by kernel_rfl) ?_
    refine ⟨⟨.inr ⟨_, rfl, rfl, .inl ⟨rfl, Do.move rfl⟩⟩, .inr ⟨_, rfl, rfl, .inl ⟨rfl, Do.fieldAddrB tf_fo74_0 rfl rfl⟩⟩, .inr ⟨_, rfl, rfl, .inl ⟨rfl, Do.load tf_flat3 rfl (Cell.own 2 0 rfl rfl rfl)⟩⟩, .inr ⟨_, rfl, rfl, .inl ⟨rfl, Do.call tf_body42 rfl (itoa_any (n := st) (by omega) (by omega) T10)⟩⟩, .inr ⟨_, rfl, rfl, .inl ⟨rfl, Do.fieldAddrB tf_fo74_0 rfl rfl⟩⟩, .inr ⟨_, rfl, rfl, .inl ⟨rfl, Do.load tf_flat3 rfl (Cell.own 2 0 rfl rfl rfl)⟩⟩, .inr ⟨_, rfl, rfl, .inl ⟨rfl, Do.call tf_body65 rfl (reason_ok st)⟩⟩, trivial⟩, rfl, rfl, by kernel_rfl, _, rfl, rfl, rfl, _, Do.own1 tyS (l := ([[72, 84, 84, 80, 47, 49, 46, 49, 32], decF (Int.toNat st), [32], reasonF st] : List (List UInt8))) (Do.buildSlice (cs := [str [72, 84, 84, 80, 47, 49, 46, 49, 32], str (decF (Int.toNat st)), str [32], str (reasonF st)]) Tryz.underlying109 tf_zero9 tf_sz9 rfl rfl rfl rfl) rfl rfl (by first | decide | simp), ?_⟩
    rintro _ _ ⟨b3, s4, o5, rfl, rfl⟩
    refine ⟨[], rfl, ?_⟩
    refine ⟨⟨.inr ⟨_, rfl, rfl, .inl ⟨rfl, Do.move rfl⟩⟩, .inl (by kernel_rfl), .inl (by kernel_rfl), .inl (by kernel_rfl), .inl (by kernel_rfl), .inl (by kernel_rfl), .inl (by kernel_rfl), trivial⟩, rfl, rfl, by kernel_rfl, _, rfl, rfl, rfl, _, Does.pick (H' := [] :: [(b2, .cells #[.pointer none, .slice none 0 0] 108 (0, 0))] :: s4 :: [(b1, .cells #[.int .i64 st, .slice A fs.length C, .slice A2 b.length C2, .bool kp] 74 (0, 0))] :: H) [1, 2, 0, 3] 4 rfl rfl (Do.callV tf_body63 rfl rfl rfl (line_ok (.inl rfl) (x := Sl.nil) (ls := [[72, 84, 84, 80, 47, 49, 46, 49, 32], decF (Int.toNat st), [32], reasonF st]) (o5.rd (i := 0) rfl) (by have hq := congrArg List.length (stB_line st); rw [List.length_append] at hq; first | (simp only [List.length_cons, List.length_nil, Sl.nil] at hq ⊢; omega) | (simp only [List.length_cons, List.length_nil, Sl.nil, List.length_append, CCL] at hq ⊢; omega)))), ?_⟩
    rintro _ _ ⟨⟨A6, C7, l8, s9, o10⟩, hx11, rfl, rfl⟩
    rw [stB_line st] at hx11
    obtain rfl : stB st = l8 := hx11.symm
    refine ⟨[], rfl, ?_⟩
    refine ⟨⟨.inl (by kernel_rfl), .inl (by kernel_rfl), .inl (by kernel_rfl), .inl (by kernel_rfl), .inl (by kernel_rfl), .inl (by kernel_rfl), .inl (by kernel_rfl), trivial⟩, by kernel_rfl, ?_⟩
    refine At.mono (E' := [(1, .pointer (some ⟨b1, 0, none⟩)), (5, .pointer (some ⟨b2, 0, none⟩)), (6, .func (.func 63) #[] #[.pointer (some ⟨b2, 0, none⟩)])]) ⟨rfl, rfl, rfl, trivial⟩ ?_
    refine At.seq ?_
    refine At.seq ?_
    refine At.region ?_
    refine AtL.fieldAddrB tf_fo74_1 (.inl rfl) rfl rfl rfl ?_
    refine AtL.load tf_flat45 (.inl rfl) rfl rfl (Cell.own 3 0 rfl rfl rfl) ?_
    refine AtL.lenL Tryz.underlying45 (.inl rfl) rfl rfl ?_
    refine AtL.move (.inl rfl) rfl rfl ?_
    refine AtL.done ?_
    refine At.block ?_
    refine At.pick (H' := s9 :: [(b2, .cells #[.pointer (some ⟨b2, 0, none⟩), .slice A6 (stB st).length C7] 108 (0, 0))] :: [(b1, .cells #[.int .i64 st, .slice A fs.length C, .slice A2 b.length C2, .bool kp] 74 (0, 0))] :: H) [0, 1, 3] 4 rfl rfl ?_
    refine At.loop2 (fun (k : Nat) (y : Sl tyB 5) => [(1, .pointer (some ⟨b1, 0, none⟩)), (5, .pointer (some ⟨b2, 0, none⟩)), (6, .func (.func 63) #[] #[.pointer (some ⟨b2, 0, none⟩)]), (25, .slice A fs.length C), (26, .int .i64 (fs.length : Int)), (27, .int .i64 (k : Int))]) (fun (k : Nat) (y : Sl tyB 5) => y.s :: [(b2, .cells #[.pointer (some ⟨b2, 0, none⟩), .slice y.A y.l.length y.C] 108 (0, 0))] :: [(b1, .cells #[.int .i64 st, .slice A fs.length C, .slice A2 b.length C2, .bool kp] 74 (0, 0))] :: H) (fun (k : Nat) (y : Sl tyB 5) => k ≤ fs.length ∧ y.l = stB st ++ fieldsR (fs.take k)) (fun (k : Nat) (y : Sl tyB 5) => fs.length - k) 0 (⟨A6, C7, stB st, s9, o10⟩) (⟨Nat.zero_le _, by simp [fieldsR]⟩) ⟨rfl, rfl, rfl, rfl, rfl, rfl, trivial⟩ rfl ?_
    rintro k y ⟨hk, hy⟩ ihL1
    have hyl : y.l.length = (stB st).length + (fieldsR (fs.take k)).length := by rw [hy, List.length_append]
    have hfu := fields_upto (fs := fs) k
    refine At.seq ?_
    refine At.region ?_
    refine AtL.lss (.inl rfl) rfl rfl rfl ?_
    refine AtL.done ?_
    refine At.seq ?_
    refine At.cond rfl ?_ ?_
    · intro hc2
      have hc2 : (k : Int) < (fs.length : Int) := of_decide_eq_true hc2
      have hfa := fields_at (fs := fs) (k := k) (by omega)
      have hbk := hb _ (getD_mem (l := fs) (i := k) (d := (([], []) : List UInt8 × List UInt8)) (by omega))
      refine At.skip ?_
      refine At.seq ?_
      refine At.block ?_
      refine At.seq ?_
      refine At.region ?_
      refine AtL.indexL k (Rd.skip 3 h) Tryz.underlying45 tf_sz78 (.inl rfl) rfl rfl rfl rfl (by omega) ?_
      refine AtL.loadE (n := 0) (Rd.skip 3 h) (getD_some (([], []) : List UInt8 × List UInt8) (by omega)) rfl tf_agg78 (.inl rfl) rfl rfl ?_
      refine AtL.alloc tf_zero78 (cs := #[str [], str []]) rfl (.inl rfl) rfl ?_
      intro b21
      refine AtL.store (H' := [(b21, .cells #[str ((fs.getD k (([], []) : List UInt8 × List UInt8)).1), str ((fs.getD k (([], []) : List UInt8 × List UInt8)).2)] 78 (0, 0))] :: y.s :: [(b2, .cells #[.pointer (some ⟨b2, 0, none⟩), .slice y.A y.l.length y.C] 108 (0, 0))] :: [(b1, .cells #[.int .i64 st, .slice A fs.length C, .slice A2 b.length C2, .bool kp] 74 (0, 0))] :: H) 0 0 tf_sz78 (.inl rfl) rfl rfl rfl rfl rfl rfl rfl rfl rfl ?_
      refine AtL.done ?_
      refine At.region ?_
      refine AtL.move (.inl rfl) rfl rfl ?_
      refine AtL.fieldAddrB tf_fo78_0 (.inl rfl) rfl rfl rfl ?_
      refine AtL.load tf_flat9 (.inl rfl) rfl rfl (Cell.own 0 0 rfl rfl rfl) ?_
      refine AtL.fieldAddrB tf_fo78_1 (.inl rfl) rfl rfl rfl ?_
      refine AtL.load tf_flat9 (.inl rfl) rfl rfl (Cell.own 0 0 rfl rfl rfl) ?_
      refine AtL.buildSlice (cs := [str ((fs.getD k (([], []) : List UInt8 × List UInt8)).1), str [58, 32], str ((fs.getD k (([], []) : List UInt8 × List UInt8)).2)]) Tryz.underlying109 tf_zero9 tf_sz9 rfl rfl (.inl rfl) rfl rfl rfl ?_
      intro b22
      refine AtL.own1 tyS (l := ([(fs.getD k (([], []) : List UInt8 × List UInt8)).1, [58, 32], (fs.getD k (([], []) : List UInt8 × List UInt8)).2] : List (List UInt8))) rfl rfl (by first | decide | simp) ?_
      intro s23 o24
      refine AtL.pick (H' := y.s :: [(b2, .cells #[.pointer (some ⟨b2, 0, none⟩), .slice y.A y.l.length y.C] 108 (0, 0))] :: s23 :: [(b21, .cells #[str ((fs.getD k (([], []) : List UInt8 × List UInt8)).1), str ((fs.getD k (([], []) : List UInt8 × List UInt8)).2)] 78 (0, 0))] :: [(b1, .cells #[.int .i64 st, .slice A fs.length C, .slice A2 b.length C2, .bool kp] 74 (0, 0))] :: H) [2, 3, 0, 1, 4] 5 rfl rfl ?_
      refine AtL.callV tf_body63 (.inl rfl) rfl rfl rfl rfl (line_ok (.inr rfl) (x := y) (ls := [(fs.getD k (([], []) : List UInt8 × List UInt8)).1, [58, 32], (fs.getD k (([], []) : List UInt8 × List UInt8)).2]) (o24.rd (i := 0) rfl) (by have hq := congrArg List.length (fld_line (fs.getD k (([], []) : List UInt8 × List UInt8))); rw [List.length_append] at hq; first | (simp only [List.length_cons, List.length_nil, Sl.nil] at hq ⊢; omega) | (simp only [List.length_cons, List.length_nil, Sl.nil, List.length_append, CCL] at hq ⊢; omega))) ?_
      rintro _ _ ⟨⟨A25, C26, l27, s28, o29⟩, hx30, rfl, rfl⟩
      rw [fld_line (fs.getD k (([], []) : List UInt8 × List UInt8))] at hx30
      obtain rfl : y.l ++ ((fs.getD k (([], []) : List UInt8 × List UInt8)).1 ++ ([58, 32] ++ ((fs.getD k (([], []) : List UInt8 × List UInt8)).2 ++ [13, 10]))) = l27 := hx30.symm
      refine AtL.done ?_
      refine At.inBlock ?_
      refine At.region ?_
      refine AtL.add (z := (k : Int) + 1) (.inl rfl) rfl rfl rfl (w64 (by omega) (by omega)) ?_
      refine AtL.move (.inl rfl) rfl rfl ?_
      refine AtL.done ?_
      refine At.pick (H' := s28 :: [(b2, .cells #[.pointer (some ⟨b2, 0, none⟩), .slice A25 (y.l ++ ((fs.getD k (([], []) : List UInt8 × List UInt8)).1 ++ ([58, 32] ++ ((fs.getD k (([], []) : List UInt8 × List UInt8)).2 ++ [13, 10])))).length C26] 108 (0, 0))] :: [(b1, .cells #[.int .i64 st, .slice A fs.length C, .slice A2 b.length C2, .bool kp] 74 (0, 0))] :: H) [0, 1, 4] 5 rfl rfl ?_
      refine ihL1 (k + 1) (⟨A25, C26, y.l ++ ((fs.getD k (([], []) : List UInt8 × List UInt8)).1 ++ ([58, 32] ++ ((fs.getD k (([], []) : List UInt8 × List UInt8)).2 ++ [13, 10]))), s28, o29⟩) (⟨by omega, by dsimp only; rw [hy, fieldsR_snoc fs k (by omega), List.append_assoc]⟩) (by omega) _ ?_
      exact ⟨rfl, rfl, rfl, rfl, rfl, (by first | rfl | exact slLen (by simp []) | exact intEq (by omega) | exact intEq (by simp []) | exact slLen (by simp []; omega)), trivial⟩
    · intro hc2
      have hc2 : ¬ ((k : Int) < (fs.length : Int)) := of_decide_eq_false hc2
      rw [List.take_of_length_le (by omega)] at hy hyl
      refine At.exit rfl ?_
      refine At.seq ?_
      refine At.region ?_
      refine AtL.move (.inl rfl) rfl rfl ?_
      refine AtL.fieldAddrB tf_fo74_2 (.inl rfl) rfl rfl rfl ?_
      refine AtL.load tf_flat22 (.inl rfl) rfl rfl (Cell.own 2 0 rfl rfl rfl) ?_
      refine AtL.lenL Tryz.underlying22 (.inl rfl) rfl rfl ?_
      refine AtL.call tf_body42 (.inl rfl) rfl rfl (itoa_nat b.length (by omega) T10) ?_
      rintro _ _ ⟨rfl, rfl⟩
      refine AtL.buildSlice (cs := [str [67, 111, 110, 116, 101, 110, 116, 45, 76, 101, 110, 103, 116, 104, 58, 32], str (decF b.length)]) Tryz.underlying109 tf_zero9 tf_sz9 rfl rfl (.inl rfl) rfl rfl rfl ?_
      intro b31
      refine AtL.own1 tyS (l := ([[67, 111, 110, 116, 101, 110, 116, 45, 76, 101, 110, 103, 116, 104, 58, 32], decF b.length] : List (List UInt8))) rfl rfl (by first | decide | simp) ?_
      intro s32 o33
      refine AtL.pick (H' := y.s :: [(b2, .cells #[.pointer (some ⟨b2, 0, none⟩), .slice y.A y.l.length y.C] 108 (0, 0))] :: s32 :: [(b1, .cells #[.int .i64 st, .slice A fs.length C, .slice A2 b.length C2, .bool kp] 74 (0, 0))] :: H) [1, 2, 0, 3] 4 rfl rfl ?_
      refine AtL.callV tf_body63 (.inl rfl) rfl rfl rfl rfl (line_ok (.inr rfl) (x := y) (ls := [[67, 111, 110, 116, 101, 110, 116, 45, 76, 101, 110, 103, 116, 104, 58, 32], decF b.length]) (o33.rd (i := 0) rfl) (by have hq := congrArg List.length (lenB_line b.length); rw [List.length_append] at hq; first | (simp only [List.length_cons, List.length_nil, Sl.nil] at hq ⊢; omega) | (simp only [List.length_cons, List.length_nil, Sl.nil, List.length_append, CCL] at hq ⊢; omega))) ?_
      rintro _ _ ⟨⟨A34, C35, l36, s37, o38⟩, hx39, rfl, rfl⟩
      rw [lenB_line b.length] at hx39
      obtain rfl : y.l ++ lenB b.length = l36 := hx39.symm
      refine AtL.done ?_
      refine At.seq ?_
      refine At.seq ?_
      refine At.region ?_
      refine AtL.fieldAddrB tf_fo74_3 (.inl rfl) rfl rfl rfl ?_
      refine AtL.load tf_flat4 (.inl rfl) rfl rfl (Cell.own 3 0 rfl rfl rfl) ?_
      refine AtL.not (.inl rfl) rfl rfl ?_
      refine AtL.done ?_
      refine At.cond rfl ?_ ?_
      · intro hc3
        have hc3 : kp = false := bnot_true hc3
        refine At.region ?_
        refine AtL.move (.inl rfl) rfl rfl ?_
        refine AtL.buildSlice (cs := [str [67, 111, 110, 110, 101, 99, 116, 105, 111, 110, 58, 32, 99, 108, 111, 115, 101]]) Tryz.underlying109 tf_zero9 tf_sz9 rfl rfl (.inl rfl) rfl rfl rfl ?_
        intro b40
        refine AtL.own1 tyS (l := ([[67, 111, 110, 110, 101, 99, 116, 105, 111, 110, 58, 32, 99, 108, 111, 115, 101]] : List (List UInt8))) rfl rfl (by first | decide | simp) ?_
        intro s41 o42
        refine AtL.pick (H' := s37 :: [(b2, .cells #[.pointer (some ⟨b2, 0, none⟩), .slice A34 (y.l ++ lenB b.length).length C35] 108 (0, 0))] :: s41 :: s32 :: [(b1, .cells #[.int .i64 st, .slice A fs.length C, .slice A2 b.length C2, .bool kp] 74 (0, 0))] :: H) [1, 2, 0, 3, 4] 5 rfl rfl ?_
        refine AtL.callV tf_body63 (.inl rfl) rfl rfl rfl rfl (line_ok (.inr rfl) (x := ⟨A34, C35, y.l ++ lenB b.length, s37, o38⟩) (ls := [[67, 111, 110, 110, 101, 99, 116, 105, 111, 110, 58, 32, 99, 108, 111, 115, 101]]) (o42.rd (i := 0) rfl) (by have hq := congrArg List.length (ccl_line); rw [List.length_append] at hq; first | (simp only [List.length_cons, List.length_nil, Sl.nil] at hq ⊢; omega) | (simp only [List.length_cons, List.length_nil, Sl.nil, List.length_append, CCL] at hq ⊢; omega))) ?_
        rintro _ _ ⟨⟨A43, C44, l45, s46, o47⟩, hx48, rfl, rfl⟩
        rw [ccl_line] at hx48
        obtain rfl : (y.l ++ lenB b.length) ++ (CCL ++ [13, 10]) = l45 := hx48.symm
        refine AtL.done ?_
        refine At.seq ?_
        refine At.region ?_
        refine AtL.move (.inl rfl) rfl rfl ?_
        refine AtL.callV tf_body63 (.inl rfl) rfl rfl rfl rfl (line_ok (.inr rfl) (x := ⟨A43, C44, (y.l ++ lenB b.length) ++ (CCL ++ [13, 10]), s46, o47⟩) (ls := []) Rd.nil_ (by have hq := congrArg List.length (nil_line); rw [List.length_append] at hq; first | (simp only [List.length_cons, List.length_nil, Sl.nil] at hq ⊢; omega) | (simp only [List.length_cons, List.length_nil, Sl.nil, List.length_append, CCL] at hq ⊢; omega))) ?_
        rintro _ _ ⟨⟨A49, C50, l51, s52, o53⟩, hx54, rfl, rfl⟩
        rw [nil_line] at hx54
        obtain rfl : ((y.l ++ lenB b.length) ++ (CCL ++ [13, 10])) ++ [13, 10] = l51 := hx54.symm
        refine AtL.done ?_
        refine At.seq ?_
        refine At.draw (es := [0, 1, 4]) (pv := [(2, .pointer (some ⟨b1, 2, none⟩)), (3, .slice A2 b.length C2)]) tf_mixed (by kernel_rfl) (by kernel_rfl) (by kernel_rfl) ?_
        refine ⟨⟨.inr ⟨_, rfl, rfl, .inl ⟨rfl, Do.fieldAddrB tf_fo74_2 rfl rfl⟩⟩, .inr ⟨_, rfl, rfl, .inl ⟨rfl, Do.load tf_flat22 rfl (Cell.own 4 0 rfl rfl rfl)⟩⟩, trivial⟩, rfl, rfl, by kernel_rfl, _, rfl, rfl, rfl, _, Do.call tf_body66 rfl (bstr_ok (x := ⟨A49, C50, ((y.l ++ lenB b.length) ++ (CCL ++ [13, 10])) ++ [13, 10], s52, o53⟩) (by simp)), ?_⟩
        rintro _ _ ⟨s55, rfl, rfl⟩
        refine ⟨[], rfl, ?_⟩
        refine ⟨⟨.inr ⟨_, rfl, rfl, .inl ⟨rfl, Do.fieldAddrB tf_fo74_2 rfl rfl⟩⟩, .inr ⟨_, rfl, rfl, .inl ⟨rfl, Do.load tf_flat22 rfl (Cell.own 3 0 rfl rfl rfl)⟩⟩, trivial⟩, rfl, rfl, by kernel_rfl, _, rfl, rfl, rfl, _, Do.bytesOf (l := ((y.l ++ lenB b.length) ++ (CCL ++ [13, 10])) ++ [13, 10]) Tryz.underlying9 Tryz.underlying22 Tryz.underlying5 (by simp only [List.length_append, List.length_cons, List.length_nil, CCL] <;> omega) rfl, ?_⟩
        rintro _ _ ⟨A56, C57, s58, n60, o59, rfl, rfl⟩
        refine ⟨[], rfl, ?_⟩
        refine ⟨⟨.inr ⟨_, rfl, rfl, .inl ⟨rfl, Do.fieldAddrB tf_fo74_2 rfl rfl⟩⟩, .inr ⟨_, rfl, rfl, .inl ⟨rfl, Do.load tf_flat22 rfl (Cell.own 4 0 rfl rfl rfl)⟩⟩, trivial⟩, rfl, rfl, by kernel_rfl, _, rfl, rfl, rfl, _, Do.append (l := ((y.l ++ lenB b.length) ++ (CCL ++ [13, 10])) ++ [13, 10]) (news := b) 0 tf_el22 rfl o59 (Rd.skip 5 h2) (by simp only [List.length_append, List.length_cons, List.length_nil, CCL] <;> omega) rfl rfl, ?_⟩
        rintro _ _ ⟨A61, C62, s63, o64, rfl, rfl⟩
        refine ⟨[(5, .slice A61 ((((y.l ++ lenB b.length) ++ (CCL ++ [13, 10])) ++ [13, 10]) ++ b).length C62), (6, .int .i64 0)], rfl, ?_⟩
        refine ⟨⟨.inr ⟨_, rfl, rfl, .inl ⟨rfl, Do.assign rfl⟩⟩, .inr ⟨_, rfl, rfl, .inl ⟨rfl, Do.assign rfl⟩⟩, .inl (by kernel_rfl), .inl (by kernel_rfl), trivial⟩, by kernel_rfl, ?_⟩
        refine At.mono (E' := [(2, .slice A61 ((((y.l ++ lenB b.length) ++ (CCL ++ [13, 10])) ++ [13, 10]) ++ b).length C62), (3, .int .i64 0)]) ⟨rfl, rfl, trivial⟩ ?_
        refine At.pick (H' := s63 :: H) [0] 5 rfl rfl ?_
        exact At.ret Tryz.func43 rfl rfl (⟨⟨A61, C62, (((y.l ++ lenB b.length) ++ (CCL ++ [13, 10])) ++ [13, 10]) ++ b, s63, o64⟩, by dsimp only; rw [hgL, hy]; simp [respB, headR, endB, hc3, List.append_assoc], by rw [he0]; rfl, rfl⟩)
      · intro hc3
        have hc3 : kp = true := bnot_false hc3
        refine At.skip ?_
        refine At.seq ?_
        refine At.region ?_
        refine AtL.move (.inl rfl) rfl rfl ?_
        refine AtL.callV tf_body63 (.inl rfl) rfl rfl rfl rfl (line_ok (.inr rfl) (x := ⟨A34, C35, y.l ++ lenB b.length, s37, o38⟩) (ls := []) Rd.nil_ (by have hq := congrArg List.length (nil_line); rw [List.length_append] at hq; first | (simp only [List.length_cons, List.length_nil, Sl.nil] at hq ⊢; omega) | (simp only [List.length_cons, List.length_nil, Sl.nil, List.length_append, CCL] at hq ⊢; omega))) ?_
        rintro _ _ ⟨⟨A75, C76, l77, s78, o79⟩, hx80, rfl, rfl⟩
        rw [nil_line] at hx80
        obtain rfl : (y.l ++ lenB b.length) ++ [13, 10] = l77 := hx80.symm
        refine AtL.done ?_
        refine At.seq ?_
        refine At.draw (es := [0, 1, 4]) (pv := [(2, .pointer (some ⟨b1, 2, none⟩)), (3, .slice A2 b.length C2)]) tf_mixed (by kernel_rfl) (by kernel_rfl) (by kernel_rfl) ?_
        refine ⟨⟨.inr ⟨_, rfl, rfl, .inl ⟨rfl, Do.fieldAddrB tf_fo74_2 rfl rfl⟩⟩, .inr ⟨_, rfl, rfl, .inl ⟨rfl, Do.load tf_flat22 rfl (Cell.own 3 0 rfl rfl rfl)⟩⟩, trivial⟩, rfl, rfl, by kernel_rfl, _, rfl, rfl, rfl, _, Do.call tf_body66 rfl (bstr_ok (x := ⟨A75, C76, (y.l ++ lenB b.length) ++ [13, 10], s78, o79⟩) (by simp)), ?_⟩
        rintro _ _ ⟨s81, rfl, rfl⟩
        refine ⟨[], rfl, ?_⟩
        refine ⟨⟨.inr ⟨_, rfl, rfl, .inl ⟨rfl, Do.fieldAddrB tf_fo74_2 rfl rfl⟩⟩, .inr ⟨_, rfl, rfl, .inl ⟨rfl, Do.load tf_flat22 rfl (Cell.own 2 0 rfl rfl rfl)⟩⟩, trivial⟩, rfl, rfl, by kernel_rfl, _, rfl, rfl, rfl, _, Do.bytesOf (l := (y.l ++ lenB b.length) ++ [13, 10]) Tryz.underlying9 Tryz.underlying22 Tryz.underlying5 (by simp only [List.length_append, List.length_cons, List.length_nil, CCL] <;> omega) rfl, ?_⟩
        rintro _ _ ⟨A82, C83, s84, n86, o85, rfl, rfl⟩
        refine ⟨[], rfl, ?_⟩
        refine ⟨⟨.inr ⟨_, rfl, rfl, .inl ⟨rfl, Do.fieldAddrB tf_fo74_2 rfl rfl⟩⟩, .inr ⟨_, rfl, rfl, .inl ⟨rfl, Do.load tf_flat22 rfl (Cell.own 3 0 rfl rfl rfl)⟩⟩, trivial⟩, rfl, rfl, by kernel_rfl, _, rfl, rfl, rfl, _, Do.append (l := (y.l ++ lenB b.length) ++ [13, 10]) (news := b) 0 tf_el22 rfl o85 (Rd.skip 4 h2) (by simp only [List.length_append, List.length_cons, List.length_nil, CCL] <;> omega) rfl rfl, ?_⟩
        rintro _ _ ⟨A87, C88, s89, o90, rfl, rfl⟩
        refine ⟨[(5, .slice A87 (((y.l ++ lenB b.length) ++ [13, 10]) ++ b).length C88), (6, .int .i64 0)], rfl, ?_⟩
        refine ⟨⟨.inr ⟨_, rfl, rfl, .inl ⟨rfl, Do.assign rfl⟩⟩, .inr ⟨_, rfl, rfl, .inl ⟨rfl, Do.assign rfl⟩⟩, .inl (by kernel_rfl), .inl (by kernel_rfl), trivial⟩, by kernel_rfl, ?_⟩
        refine At.mono (E' := [(2, .slice A87 (((y.l ++ lenB b.length) ++ [13, 10]) ++ b).length C88), (3, .int .i64 0)]) ⟨rfl, rfl, trivial⟩ ?_
        refine At.pick (H' := s89 :: H) [0] 4 rfl rfl ?_
        exact At.ret Tryz.func43 rfl rfl (⟨⟨A87, C88, ((y.l ++ lenB b.length) ++ [13, 10]) ++ b, s89, o90⟩, by dsimp only; rw [hgL, hy]; simp [respB, headR, endB, hc3, List.append_assoc], by rw [he0]; rfl, rfl⟩)
end Go.Proofs.YtlkdmbpbjhjkfaaGreatDoor
namespace Go.Proofs.YtlkdmbpbjhjkfaaGreatDoor
set_option linter.unusedVariables false
set_option linter.unusedSimpArgs false
set_option maxRecDepth 100000
def okB (s : List UInt8) : Bool := s.all fun c => decide (num64 c < 64)
theorem bitsS_inj : ∀ {a b : List UInt8}, okB a = true → okB b = true → bitsS a = bitsS b → a = b
  | [], [], _, _, _ => rfl
  | [], y :: b, _, _, h => by have := congrArg List.length h; simp only [bitsS_len, List.length_cons, List.length_nil] at this; omega
  | x :: a, [], _, _, h => by have := congrArg List.length h; simp only [bitsS_len, List.length_cons, List.length_nil] at this; omega
  | x :: a, y :: b, ha, hb, h => by
    simp only [okB, List.all_cons, Bool.and_eq_true, decide_eq_true_eq] at ha hb
    have h2 : b6 (num64 x) ++ bitsS a = b6 (num64 y) ++ bitsS b := h
    obtain ⟨h3, h4⟩ := List.append_inj h2 rfl
    have h5 : num64 x = num64 y := by rw [← bv_b6 ha.1, ← bv_b6 hb.1, h3]
    rw [bitsS_inj ha.2 hb.2 h4, ← num_let ha.1, h5, num_let hb.1]
theorem bits6_of (B : List Bool) (n : Nat) (h : 6 * n ≤ B.length) : bitsS ((List.range n).map fun j => letB.getD (bv ((B.drop (6 * j)).take 6)) 0) = B.take (6 * n) ∧ okB ((List.range n).map fun j => letB.getD (bv ((B.drop (6 * j)).take 6)) 0) = true := by
  induction n with
  | zero => exact ⟨rfl, rfl⟩
  | succ n ih =>
    obtain ⟨i1, i2⟩ := ih (by omega)
    have e : ((B.drop (6 * n)).take 6).length = 6 := by rw [List.length_take, List.length_drop]; omega
    have e2 := bv_64 e
    constructor
    · rw [List.range_succ, List.map_append, bitsS_app, i1]
      simp only [List.map_cons, List.map_nil, bitsS, List.flatMap_cons, List.flatMap_nil, List.append_nil]
      rw [let_num e2, b6_bv e, show 6 * (n + 1) = 6 * n + 6 by omega, List.take_add]
    · rw [List.range_succ, List.map_append, okB, List.all_append]
      have i3 := i2
      rw [okB] at i3
      rw [i3]
      simp only [List.map_cons, List.map_nil, List.all_cons, List.all_nil]
      rw [let_num e2, decide_eq_true e2]; rfl
theorem enc_bits (b : List UInt8) : ∃ m, m < 6 ∧ bitsS (encB b) = bits8 b ++ List.replicate m false ∧ okB (encB b) = true := by
  obtain ⟨h1, h2⟩ := bits6_of (bits8 b ++ List.replicate 6 false) ((8 * b.length + 5) / 6) (by rw [List.length_append, bits8_len, List.length_replicate]; omega)
  refine ⟨6 * ((8 * b.length + 5) / 6) - 8 * b.length, by omega, ?_, h2⟩
  rw [encB, h1, List.take_append, bits8_len, List.take_of_length_le (by rw [bits8_len]; omega), List.take_replicate]
  congr 2; omega
theorem enc_uniq {b out : List UInt8} {m : Nat} (hm : m < 6) (ho : okB out = true) (h : bitsS out = bits8 b ++ List.replicate m false) : out = encB b := by
  obtain ⟨k, hk, h1, h2⟩ := enc_bits b
  have l1 := congrArg List.length h
  have l2 := congrArg List.length h1
  rw [List.length_append, bits8_len, List.length_replicate, bitsS_len] at l1 l2
  have : m = k := by omega
  subst this
  exact bitsS_inj ho h2 (h.trans h1.symm)
theorem dec_enc (b : List UInt8) : decB (encB b) = some b := by
  obtain ⟨m, hm, h1, h2⟩ := enc_bits b
  have l2 := congrArg List.length h1
  rw [List.length_append, bits8_len, List.length_replicate, bitsS_len] at l2
  rw [decB_of h2 (p := List.replicate m false) (by rw [List.length_replicate]; omega) h1.symm, if_neg]
  rintro (h | h)
  · omega
  · rw [List.any_eq_true] at h
    obtain ⟨x, hx, hx2⟩ := h
    rw [(List.mem_replicate.1 hx).2] at hx2; cases hx2
theorem ok_push {x : List UInt8} {q : List Bool} (hx : okB x = true) (hq : 6 ≤ q.length) : okB (x ++ [letB.getD (bv (q.take 6)) 0]) = true ∧ bitsS (x ++ [letB.getD (bv (q.take 6)) 0]) ++ q.drop 6 = bitsS x ++ q := by
  have e : (q.take 6).length = 6 := by rw [List.length_take]; omega
  have e2 := bv_64 e
  constructor
  · rw [okB, List.all_append]
    have h3 := hx
    rw [okB] at h3
    rw [h3, List.all_cons, List.all_nil, let_num e2, decide_eq_true e2]; rfl
  · rw [bitsS_app]
    simp only [bitsS, List.flatMap_cons, List.flatMap_nil, List.append_nil]
    rw [let_num e2, b6_bv e, List.append_assoc, List.take_append_drop]
theorem bits8_take {b : List UInt8} {k : Nat} (h : k < b.length) : bits8 (b.take (k + 1)) = bits8 (b.take k) ++ b8 (b.getD k 0) := by
  rw [List.take_succ_eq_append_getElem h, bits8_app]
  have : b[k] = b.getD k 0 := by simp [List.getD, h]
  rw [this]; simp [bits8]
theorem zeros_bv (n : Nat) : bv (List.replicate n false) = 0 := (bv_zero _).2 (by rw [List.any_eq_false]; intro x hx; rw [(List.mem_replicate.1 hx).2]; decide)
set_option maxHeartbeats 400000 in
theorem bwbyte_ok {w0 : World} {base : Nat} {H : List Seg} {b : Nat} {p : Value} (hp : bown b p) {x : Sl tyB 5} {c : UInt8} (hl : x.l.length + 1 ≤ 140737488355328) :
    SCalls Tryz.prog 70 [.pointer (some ⟨b, 0, none⟩), .int .u8 (c.toNat : Int)] w0 base (x.s :: [(b, .cells #[p, .slice x.A x.l.length x.C] 108 (0, 0))] :: H) (fun u H' => ∃ y : Sl tyB 5, y.l = x.l ++ [c] ∧ u = .nilIface ∧ H' = y.s :: [(b, .cells #[.pointer (some ⟨b, 0, none⟩), .slice y.A y.l.length y.C] 108 (0, 0))] :: H) := by
  refine SCalls.of_walk (n := 17) Tryz.func70 rfl rfl rfl fun cs => ?_
  refine At.seq ?_
  refine At.region ?_
  refine AtL.assign (.inl rfl) rfl rfl ?_
  refine AtL.done ?_
  refine At.seq ?_
  refine At.region ?_
  refine AtL.move (.inl rfl) rfl rfl ?_
  refine AtL.pick (H' := [(b, .cells #[p, .slice x.A x.l.length x.C] 108 (0, 0))] :: x.s :: H) [1, 0] 2 rfl rfl ?_
  refine AtL.call tf_body108 (.inl rfl) rfl rfl (bchk_ok hp) ?_
  rintro _ _ ⟨rfl, rfl⟩
  refine AtL.done ?_
  refine At.seq ?_
  refine At.region ?_
  refine AtL.move (.inl rfl) rfl rfl ?_
  refine AtL.move (.inl rfl) rfl rfl ?_
  refine AtL.nilCheck (.inl rfl) rfl rfl ?_
  refine AtL.fieldAddrB tf_fo108_1 (.inl rfl) rfl rfl rfl ?_
  refine AtL.load tf_flat22 (.inl rfl) rfl rfl (Cell.own 0 0 rfl rfl rfl) ?_
  refine AtL.move (.inl rfl) rfl rfl ?_
  refine AtL.buildSlice (cs := [.int .u8 (c.toNat : Int)]) Tryz.underlying22 tf_zero5 tf_sz5 rfl rfl (.inl rfl) rfl rfl rfl ?_
  intro b1
  refine AtL.own1 tyB (l := ([c] : List UInt8)) rfl rfl (by first | decide | simp) ?_
  intro s2 o3
  refine AtL.append (l := x.l) (news := [c]) 2 tf_el22 rfl x.own (o3.rd (i := 0) rfl) (by simp only [List.length_cons, List.length_nil]; omega) (.inl rfl) rfl rfl rfl ?_
  intro A4 C5 s6 o7
  refine AtL.nilCheck (.inl rfl) rfl rfl ?_
  refine AtL.fieldAddrB tf_fo108_1 (.inl rfl) rfl rfl rfl ?_
  refine AtL.store (H' := s2 :: [(b, .cells #[.pointer (some ⟨b, 0, none⟩), .slice A4 (x.l ++ [c]).length C5] 108 (0, 0))] :: s6 :: H) 1 0 tf_sz22 (.inl rfl) rfl rfl rfl rfl rfl rfl rfl rfl rfl ?_
  refine AtL.done ?_
  refine At.seq ?_
  refine At.region ?_
  refine AtL.assign (.inl rfl) rfl rfl ?_
  refine AtL.done ?_
  refine At.pick (H' := s6 :: [(b, .cells #[.pointer (some ⟨b, 0, none⟩), .slice A4 (x.l ++ [c]).length C5] 108 (0, 0))] :: H) [2, 1] 3 rfl rfl ?_
  exact At.ret Tryz.func70 rfl rfl (⟨⟨A4, C5, x.l ++ [c], s6, o7⟩, rfl, rfl, rfl⟩)
set_option maxHeartbeats 400000 in
theorem b64enc_ok {w0 : World} {base : Nat} {H : List Seg} {A : Option Addr} {C : Nat} {b : List UInt8} (h : Rd tyB w0 base H A C b) (h1 : 1 ≤ b.length) (hbl : b.length ≤ 4294967280) :
    SCalls Tryz.prog 45 [.slice A b.length C] w0 base (H) (fun v H' => v = str (encB b) ∧ H' = H) := by
  have hle0 := h.le
  have hcap0 := h.cap
  refine SCalls.of_walk (n := 34) Tryz.func45 rfl rfl rfl fun cs => ?_
  refine At.seq ?_
  refine At.region ?_
  refine AtL.assign (.inl rfl) rfl rfl ?_
  refine AtL.done ?_
  refine At.seq ?_
  refine At.region ?_
  refine AtL.alloc tf_zero108 (cs := #[.pointer none, .slice none 0 0]) rfl (.inl rfl) rfl ?_
  intro b1
  refine AtL.done ?_
  refine At.seq ?_
  refine At.region ?_
  refine AtL.alloc tf_zero117 (cs := #[.int .i64 0, .int .i64 0]) rfl (.inl rfl) rfl ?_
  intro b2
  refine AtL.done ?_
  refine At.seq ?_
  refine At.seq ?_
  refine At.region ?_
  refine AtL.move (.inl rfl) rfl rfl ?_
  refine AtL.lenL Tryz.underlying22 (.inl rfl) rfl rfl ?_
  refine AtL.move (.inl rfl) rfl rfl ?_
  refine AtL.done ?_
  refine At.block ?_
  refine At.nil ?_
  refine At.pick (H' := [] :: [(b1, .cells #[.pointer none, .slice none 0 0] 108 (0, 0))] :: [(b2, .cells #[.int .i64 0, .int .i64 0] 117 (0, 0))] :: H) [0, 2, 1] 3 rfl rfl ?_
  refine At.loop4 (fun (k : Nat) (p : List Bool) (y : Sl tyB 5) (q : Value) => [(3, .pointer (some ⟨b1, 0, none⟩)), (4, .pointer (some ⟨b2, 0, none⟩)), (7, .slice A b.length C), (8, .int .i64 (b.length : Int)), (9, .int .i64 (k : Int))]) (fun (k : Nat) (p : List Bool) (y : Sl tyB 5) (q : Value) => y.s :: [(b1, .cells #[q, .slice y.A y.l.length y.C] 108 (0, 0))] :: [(b2, .cells #[.int .i64 (bv p : Int), .int .i64 (p.length : Int)] 117 (0, 0))] :: H) (fun (k : Nat) (p : List Bool) (y : Sl tyB 5) (q : Value) => k ≤ b.length ∧ p.length < 6 ∧ okB y.l = true ∧ bitsS y.l ++ p = bits8 (b.take k) ∧ bown b1 q) (fun (k : Nat) (p : List Bool) (y : Sl tyB 5) (q : Value) => b.length - k) 0 [] Sl.nil (.pointer none) (⟨Nat.zero_le _, by decide, rfl, rfl, .inl rfl⟩) ⟨rfl, rfl, rfl, rfl, rfl, trivial⟩ rfl ?_
  rintro k p y q ⟨hk, hpl, hok, hb, hq⟩ ihL1
  have hlen := congrArg List.length hb; rw [List.length_append, bitsS_len, bits8_len, List.length_take] at hlen
  refine At.seq ?_
  refine At.region ?_
  refine AtL.lss (.inl rfl) rfl rfl rfl ?_
  refine AtL.done ?_
  refine At.seq ?_
  refine At.cond rfl ?_ ?_
  · intro hc1
    have hc1 : (k : Int) < (b.length : Int) := of_decide_eq_true hc1
    refine At.skip ?_
    refine At.seq ?_
    refine At.block ?_
    refine At.seq ?_
    refine At.region ?_
    refine AtL.indexL k (Rd.skip 3 h) Tryz.underlying22 tf_sz5 (.inl rfl) rfl rfl rfl rfl (by omega) ?_
    refine AtL.load (v := .int .u8 ((b.getD k 0).toNat : Int)) tf_flat5 (.inl rfl) rfl rfl (Rd.cell0 (Rd.skip 3 h) (getD_some 0 (by omega)) rfl) ?_
    refine AtL.assign (.inl rfl) rfl rfl ?_
    refine AtL.done ?_
    refine At.seq ?_
    refine At.region ?_
    refine AtL.move (.inl rfl) rfl rfl ?_
    have hB3 := u8_le ((b.getD k 0))
    refine AtL.convInt (z := ((b.getD k 0).toNat : Int)) Tryz.underlying5 Tryz.underlying3 (.inl rfl) rfl rfl (u8_i64 _) ?_
    refine AtL.pick (H' := [(b2, .cells #[.int .i64 (bv p : Int), .int .i64 (p.length : Int)] 117 (0, 0))] :: y.s :: [(b1, .cells #[q, .slice y.A y.l.length y.C] 108 (0, 0))] :: H) [2, 0, 1] 3 rfl rfl ?_
    refine AtL.call tf_body69 (.inl rfl) rfl rfl (put_ok (p := p) (q := (b8 (b.getD k 0))) (by rw [bv_b8]) rfl (by omega) (by first | decide | (rw [b6_len]; decide) | (rw [b8_len]; decide) | (rw [List.length_replicate]; omega))) ?_
    rintro _ _ ⟨rfl, rfl⟩
    refine AtL.done ?_
    refine At.block ?_
    refine At.pick (H' := y.s :: [(b1, .cells #[q, .slice y.A y.l.length y.C] 108 (0, 0))] :: [(b2, .cells #[.int .i64 (bv (p ++ (b8 (b.getD k 0))) : Int), .int .i64 ((p ++ (b8 (b.getD k 0))).length : Int)] 117 (0, 0))] :: H) [1, 2, 0] 3 rfl rfl ?_
    have hb8 : bitsS y.l ++ (p ++ (b8 (b.getD k 0))) = bits8 (b.take (k + 1)) := by rw [bits8_take (by omega), ← hb, List.append_assoc]
    have hpl8 : ((p ++ (b8 (b.getD k 0)))).length < 14 := by rw [List.length_append, b8_len]; omega
    refine At.loop3 (fun (p2 : List Bool) (y2 : Sl tyB 5) (q2 : Value) => [(3, .pointer (some ⟨b1, 0, none⟩)), (4, .pointer (some ⟨b2, 0, none⟩)), (7, .slice A b.length C), (8, .int .i64 (b.length : Int)), (9, .int .i64 (k : Int))]) (fun (p2 : List Bool) (y2 : Sl tyB 5) (q2 : Value) => y2.s :: [(b1, .cells #[q2, .slice y2.A y2.l.length y2.C] 108 (0, 0))] :: [(b2, .cells #[.int .i64 (bv p2 : Int), .int .i64 (p2.length : Int)] 117 (0, 0))] :: H) (fun (p2 : List Bool) (y2 : Sl tyB 5) (q2 : Value) => p2.length < 14 ∧ okB y2.l = true ∧ bitsS y2.l ++ p2 = bits8 (b.take (k + 1)) ∧ bown b1 q2) (fun (p2 : List Bool) (y2 : Sl tyB 5) (q2 : Value) => p2.length) (p ++ (b8 (b.getD k 0))) y q (⟨hpl8, hok, hb8, hq⟩) ⟨rfl, rfl, rfl, rfl, rfl, trivial⟩ rfl ?_
    rintro p2 y2 q2 ⟨hpl2, hok2, hb2, hq2⟩ ihL2
    have hlen2 := congrArg List.length hb2; rw [List.length_append, bitsS_len, bits8_len, List.length_take] at hlen2
    refine At.seq ?_
    refine At.seq ?_
    refine At.region ?_
    refine AtL.fieldAddrB tf_fo117_1 (.inl rfl) rfl rfl rfl ?_
    refine AtL.load tf_flat3 (.inl rfl) rfl rfl (Cell.own 2 0 rfl rfl rfl) ?_
    refine AtL.geq (.inl rfl) rfl rfl rfl ?_
    refine AtL.done ?_
    refine At.cond rfl ?_ ?_
    · intro hc2
      have hc2 : 6 ≤ (p2.length : Int) := of_decide_eq_true hc2
      refine At.skip ?_
      refine At.block ?_
      refine At.region ?_
      refine AtL.pick (H' := [(b2, .cells #[.int .i64 (bv p2 : Int), .int .i64 (p2.length : Int)] 117 (0, 0))] :: y2.s :: [(b1, .cells #[q2, .slice y2.A y2.l.length y2.C] 108 (0, 0))] :: H) [2, 0, 1] 3 rfl rfl ?_
      refine AtL.call tf_body71 (.inl rfl) rfl rfl (get_ok (p := p2) 6 rfl (by omega) (by omega)) ?_
      rintro _ _ ⟨rfl, rfl⟩
      refine AtL.indexS (l := letB) (bv (p2.take 6)) rfl (by rw [letB_len]; exact bv_64 (by rw [List.length_take]; omega)) Tryz.underlying9 (.inl rfl) rfl rfl rfl ?_
      refine AtL.pick (H' := y2.s :: [(b1, .cells #[q2, .slice y2.A y2.l.length y2.C] 108 (0, 0))] :: [(b2, .cells #[.int .i64 (bv (p2.drop 6) : Int), .int .i64 ((p2.drop 6).length : Int)] 117 (0, 0))] :: H) [1, 2, 0] 3 rfl rfl ?_
      refine AtL.call tf_body70 (.inl rfl) rfl rfl (bwbyte_ok (by first | exact hq2 | exact hq) (x := y2) (c := letB.getD (bv (p2.take 6)) 0) (by omega)) ?_
      rintro _ _ ⟨⟨A4, C5, l6, s7, o8⟩, hx9, rfl, rfl⟩
      obtain rfl : y2.l ++ [letB.getD (bv (p2.take 6)) 0] = l6 := hx9.symm
      refine AtL.done ?_
      refine At.inBlock ?_
      refine ihL2 (p2.drop 6) (⟨A4, C5, y2.l ++ [letB.getD (bv (p2.take 6)) 0], s7, o8⟩) (.pointer (some ⟨b1, 0, none⟩)) (⟨by rw [List.length_drop]; omega, (ok_push hok2 (by omega)).1, by dsimp only; rw [(ok_push hok2 (by omega)).2]; exact hb2, .inr rfl⟩) (by rw [List.length_drop]; omega) _ ?_
      exact ⟨rfl, rfl, rfl, rfl, rfl, trivial⟩
    · intro hc2
      have hc2 : ¬ (6 ≤ (p2.length : Int)) := of_decide_eq_false hc2
      refine At.exit rfl ?_
      refine At.inBlock ?_
      refine At.region ?_
      refine AtL.add (z := (k : Int) + 1) (.inl rfl) rfl rfl rfl (w64 (by omega) (by omega)) ?_
      refine AtL.move (.inl rfl) rfl rfl ?_
      refine AtL.done ?_
      refine ihL1 (k + 1) p2 y2 q2 (⟨by omega, by omega, hok2, hb2, hq2⟩) (by omega) _ ?_
      exact ⟨rfl, rfl, rfl, rfl, (by first | rfl | exact slLen (by simp []) | exact intEq (by omega) | exact intEq (by simp []) | exact slLen (by simp []; omega)), trivial⟩
  · intro hc1
    have hc1 : ¬ ((k : Int) < (b.length : Int)) := of_decide_eq_false hc1
    rw [List.take_of_length_le (by omega)] at hb
    refine At.exit rfl ?_
    refine At.seq ?_
    refine At.seq ?_
    refine At.region ?_
    refine AtL.fieldAddrB tf_fo117_1 (.inl rfl) rfl rfl rfl ?_
    refine AtL.load tf_flat3 (.inl rfl) rfl rfl (Cell.own 2 0 rfl rfl rfl) ?_
    refine AtL.gtr (.inl rfl) rfl rfl rfl ?_
    refine AtL.done ?_
    refine At.cond rfl ?_ ?_
    · intro hc3
      have hc3 : 0 < (p.length : Int) := of_decide_eq_true hc3
      have hql : (p ++ List.replicate (6 - p.length) false).length = 6 := by rw [List.length_append, List.length_replicate]; omega
      obtain ⟨hf1, hf2⟩ := ok_push (q := p ++ List.replicate (6 - p.length) false) hok (by omega)
      rw [List.drop_of_length_le (by omega), List.append_nil, ← List.append_assoc, hb] at hf2
      have hfin := enc_uniq (by omega) hf1 hf2
      refine At.seq ?_
      refine At.region ?_
      refine AtL.fieldAddrB tf_fo117_1 (.inl rfl) rfl rfl rfl ?_
      refine AtL.load tf_flat3 (.inl rfl) rfl rfl (Cell.own 2 0 rfl rfl rfl) ?_
      refine AtL.sub (z := 6 - (p.length : Int)) (.inl rfl) rfl rfl rfl (w64 (by omega) (by omega)) ?_
      refine AtL.pick (H' := [(b2, .cells #[.int .i64 (bv p : Int), .int .i64 (p.length : Int)] 117 (0, 0))] :: y.s :: [(b1, .cells #[q, .slice y.A y.l.length y.C] 108 (0, 0))] :: H) [2, 0, 1] 3 rfl rfl ?_
      refine AtL.call tf_body69 (.inl rfl) rfl rfl (put_ok (p := p) (q := (List.replicate (6 - p.length) false)) (by rw [zeros_bv]; rfl) (by rw [List.length_replicate]; omega) (by omega) (by first | decide | (rw [b6_len]; decide) | (rw [b8_len]; decide) | (rw [List.length_replicate]; omega))) ?_
      rintro _ _ ⟨rfl, rfl⟩
      refine AtL.done ?_
      refine At.region ?_
      refine AtL.call tf_body71 (.inl rfl) rfl rfl (get_ok (p := (p ++ (List.replicate (6 - p.length) false))) 6 rfl (by omega) (by omega)) ?_
      rintro _ _ ⟨rfl, rfl⟩
      refine AtL.indexS (l := letB) (bv ((p ++ (List.replicate (6 - p.length) false)).take 6)) rfl (by rw [letB_len]; exact bv_64 (by rw [List.length_take]; omega)) Tryz.underlying9 (.inl rfl) rfl rfl rfl ?_
      refine AtL.pick (H' := y.s :: [(b1, .cells #[q, .slice y.A y.l.length y.C] 108 (0, 0))] :: [(b2, .cells #[.int .i64 (bv ((p ++ (List.replicate (6 - p.length) false)).drop 6) : Int), .int .i64 (((p ++ (List.replicate (6 - p.length) false)).drop 6).length : Int)] 117 (0, 0))] :: H) [1, 2, 0] 3 rfl rfl ?_
      refine AtL.call tf_body70 (.inl rfl) rfl rfl (bwbyte_ok (by first | exact hq2 | exact hq) (x := y) (c := letB.getD (bv ((p ++ (List.replicate (6 - p.length) false)).take 6)) 0) (by omega)) ?_
      rintro _ _ ⟨⟨A10, C11, l12, s13, o14⟩, hx15, rfl, rfl⟩
      obtain rfl : y.l ++ [letB.getD (bv ((p ++ (List.replicate (6 - p.length) false)).take 6)) 0] = l12 := hx15.symm
      refine AtL.done ?_
      refine At.seq ?_
      refine At.region ?_
      refine AtL.call tf_body66 (.inl rfl) rfl rfl (bstr_ok (x := ⟨A10, C11, y.l ++ [letB.getD (bv ((p ++ (List.replicate (6 - p.length) false)).take 6)) 0], s13, o14⟩) (by first | exact hyn | simp)) ?_
      rintro _ _ ⟨s16, rfl, rfl⟩
      refine AtL.assign (.inl rfl) rfl rfl ?_
      refine AtL.done ?_
      refine At.pick (H' := H) [] 2 rfl rfl ?_
      exact At.ret Tryz.func45 rfl rfl (⟨congrArg str hfin, rfl⟩)
    · intro hc3
      have hc3 : ¬ (0 < (p.length : Int)) := of_decide_eq_false hc3
      have hp0 : p = [] := List.eq_nil_of_length_eq_zero (by omega)
      have hfin := enc_uniq (m := 0) (by omega) hok (by rw [← hb, hp0]; simp)
      have hyn : y.l ≠ [] := by intro h; rw [hp0, h] at hb; have := congrArg List.length hb; rw [bits8_len] at this; simp [bitsS] at this; omega
      refine At.skip ?_
      refine At.seq ?_
      refine At.region ?_
      refine AtL.call tf_body66 (.inl rfl) rfl rfl (bstr_ok (x := y) (by first | exact hyn | simp)) ?_
      rintro _ _ ⟨s17, rfl, rfl⟩
      refine AtL.assign (.inl rfl) rfl rfl ?_
      refine AtL.done ?_
      refine At.pick (H' := H) [] 2 rfl rfl ?_
      exact At.ret Tryz.func45 rfl rfl (⟨congrArg str hfin, rfl⟩)
end Go.Proofs.YtlkdmbpbjhjkfaaGreatDoor
namespace Go.Proofs.YtlkdmbpbjhjkfaaGreatDoor
set_option linter.unusedVariables false
set_option linter.unusedSimpArgs false
set_option maxRecDepth 100000
def TPRE : List UInt8 := [47, 100, 110, 115, 45, 113, 117, 101, 114, 121, 63, 100, 110, 115, 61]
def targetF16 (b : List UInt8) : List UInt8 × Bool := if b.length < 12 ∨ 2048 < b.length then ([], false) else if 2048 < (TPRE ++ encB b).length then ([], false) else (TPRE ++ encB b, true)
theorem target_few {b : List UInt8} (h : b.length < 12 ∨ 2048 < b.length) : targetF16 b = ([], false) := by rw [targetF16, if_pos h]
theorem target_long {b : List UInt8} (h : ¬ (b.length < 12 ∨ 2048 < b.length)) (h2 : 2048 < (TPRE ++ encB b).length) : targetF16 b = ([], false) := by rw [targetF16, if_neg h, if_pos h2]
theorem tgt_ok {b : List UInt8} (h : ¬ (b.length < 12 ∨ 2048 < b.length)) (h2 : ¬ 2048 < (TPRE ++ encB b).length) : targetF16 b = (TPRE ++ encB b, true) := by rw [targetF16, if_neg h, if_neg h2]
theorem target_300 {b : List UInt8} (h1 : 12 ≤ b.length) (h2 : b.length ≤ 1400) : targetF16 b = (TPRE ++ encB b, true) := by
  refine tgt_ok (by omega) ?_
  rw [List.length_append, encB_len]
  have : TPRE.length = 15 := rfl
  omega
set_option maxHeartbeats 400000 in
theorem target_ok16 {w0 : World} {base : Nat} {H : List Seg} {A : Option Addr} {C : Nat} {b : List UInt8} (h : Rd tyB w0 base H A C b) :
    SCalls Tryz.prog 16 [.slice A b.length C] w0 base (H) (fun v H' => v = .tuple #[str (targetF16 b).1, .bool (targetF16 b).2] ∧ H' = H) := by
  have hle0 := h.le
  have hcap0 := h.cap
  refine SCalls.of_walk (n := 20) Tryz.func16 rfl rfl rfl fun cs => ?_
  refine At.seq ?_
  refine At.region ?_
  refine AtL.assign (.inl rfl) rfl rfl ?_
  refine AtL.assign (.inl rfl) rfl rfl ?_
  refine AtL.done ?_
  refine At.seq ?_
  refine At.seq ?_
  refine At.region ?_
  refine AtL.move (.inl rfl) rfl rfl ?_
  refine AtL.lenL Tryz.underlying22 (.inl rfl) rfl rfl ?_
  refine AtL.lss (.inl rfl) rfl rfl rfl ?_
  refine AtL.move (.inl rfl) rfl rfl ?_
  refine AtL.join 4 (E' := [(12, .bool (decide (((b.length : Int) < 12) ∨ (2048 < (b.length : Int))))), (0, .slice A b.length C)]) (H' := H) (fun J => ?_) ?_
  · refine AtL.split (t := 8) rfl ?_ ?_
    · intro hs8
      have hs8 : (b.length : Int) < 12 := of_decide_eq_true hs8
      refine AtL.skipped rfl rfl rfl rfl rfl rfl ?_
      refine AtL.skipped rfl rfl rfl rfl rfl rfl ?_
      refine AtL.skipped rfl rfl rfl rfl rfl rfl ?_
      refine AtL.pickT (.inl rfl) rfl rfl rfl ?_
      exact J _ (by exact ⟨(boolIs (by clear J; first | (simp [hs8]; done) | (simp_all; done) | grind)), rfl, trivial⟩)
    · intro hs8
      have hs8 : ¬ ((b.length : Int) < 12) := of_decide_eq_false hs8
      refine AtL.move (.inr ⟨_, _, _, rfl, rfl, rfl, rfl⟩) rfl rfl ?_
      refine AtL.lenL Tryz.underlying22 (.inr ⟨_, _, _, rfl, rfl, rfl, rfl⟩) rfl rfl ?_
      refine AtL.gtr (.inr ⟨_, _, _, rfl, rfl, rfl, rfl⟩) rfl rfl rfl ?_
      refine AtL.pickF (.inl rfl) rfl rfl rfl ?_
      exact J _ (by exact ⟨(boolIs (by clear J; first | (simp [hs8]; done) | (simp_all; done) | grind)), rfl, trivial⟩)
  · skip
    refine AtL.done ?_
    refine At.cond rfl ?_ ?_
    · intro hc1
      have hc1 : ((b.length : Int) < 12) ∨ (2048 < (b.length : Int)) := of_decide_eq_true hc1
      refine At.seq ?_
      refine At.region ?_
      refine AtL.assign (.inl rfl) rfl rfl ?_
      refine AtL.assign (.inl rfl) rfl rfl ?_
      refine AtL.done ?_
      exact At.ret Tryz.func16 rfl rfl (⟨by rw [target_few (by omega)]; rfl, rfl⟩)
    · intro hc1
      have hc1 : ¬ (((b.length : Int) < 12) ∨ (2048 < (b.length : Int))) := of_decide_eq_false hc1
      have hel := encB_len b
      refine At.skip ?_
      refine At.seq ?_
      refine At.region ?_
      refine AtL.move (.inl rfl) rfl rfl ?_
      refine AtL.call tf_body45 (.inl rfl) rfl rfl (b64enc_ok (b := b) h (by omega) (by omega)) ?_
      rintro _ _ ⟨rfl, hHq⟩
      obtain rfl := hHq.symm
      refine AtL.cat (.inl rfl) rfl rfl rfl (by simp only [List.length_cons, List.length_nil]; omega) ?_
      refine AtL.assign (.inl rfl) rfl rfl ?_
      refine AtL.done ?_
      refine At.seq ?_
      refine At.seq ?_
      refine At.region ?_
      refine AtL.move (.inl rfl) rfl rfl ?_
      refine AtL.lenS (l := [47, 100, 110, 115, 45, 113, 117, 101, 114, 121, 63, 100, 110, 115, 61] ++ (encB b)) Tryz.underlying9 (.inl rfl) rfl rfl ?_
      refine AtL.gtr (.inl rfl) rfl rfl rfl ?_
      refine AtL.done ?_
      refine At.cond rfl ?_ ?_
      · intro hc2
        have hc2 : 2048 < (([47, 100, 110, 115, 45, 113, 117, 101, 114, 121, 63, 100, 110, 115, 61] ++ (encB b)).length : Int) := of_decide_eq_true hc2
        refine At.seq ?_
        refine At.region ?_
        refine AtL.assign (.inl rfl) rfl rfl ?_
        refine AtL.assign (.inl rfl) rfl rfl ?_
        refine AtL.done ?_
        exact At.ret Tryz.func16 rfl rfl (⟨by rw [target_long (by omega) (by have h2 := hc2; show 2048 < (TPRE ++ encB b).length; exact Int.ofNat_lt.1 h2)]; rfl, rfl⟩)
      · intro hc2
        have hc2 : ¬ (2048 < (([47, 100, 110, 115, 45, 113, 117, 101, 114, 121, 63, 100, 110, 115, 61] ++ (encB b)).length : Int)) := of_decide_eq_false hc2
        refine At.skip ?_
        refine At.seq ?_
        refine At.region ?_
        refine AtL.move (.inl rfl) rfl rfl ?_
        refine AtL.assign (.inl rfl) rfl rfl ?_
        refine AtL.assign (.inl rfl) rfl rfl ?_
        refine AtL.done ?_
        exact At.ret Tryz.func16 rfl rfl (⟨by rw [tgt_ok (by omega) (by intro h2; exact hc2 (Int.ofNat_lt.2 h2))]; rfl, rfl⟩)
end Go.Proofs.YtlkdmbpbjhjkfaaGreatDoor
namespace Go.Proofs.YtlkdmbpbjhjkfaaGreatDoor
set_option linter.unusedVariables false
set_option linter.unusedSimpArgs false
set_option maxRecDepth 100000
def CTN16 : List UInt8 := [67, 111, 110, 116, 101, 110, 116, 45, 84, 121, 112, 101]
def MED16 : List UInt8 := [97, 112, 112, 108, 105, 99, 97, 116, 105, 111, 110, 47, 100, 110, 115, 45, 109, 101, 115, 115, 97, 103, 101]
def CCN16 : List UInt8 := [67, 97, 99, 104, 101, 45, 67, 111, 110, 116, 114, 111, 108]
def MAX16 : List UInt8 := [109, 97, 120, 45, 97, 103, 101, 61]
def ansFs (age : Int) : List Fld := [(CTN16, MED16), (CCN16, MAX16 ++ decF age.toNat)]
def ansF (b : List UInt8) (age : Int) (kp : Bool) : List UInt8 × Int :=
  if b.length < 12 then ([], 4) else if 65535 < b.length then ([], 3) else if age < 0 ∨ 2147483648 ≤ age then ([], 5) else (respL ⟨200, ansFs age, b, kp⟩, respE ⟨200, ansFs age, b, kp⟩)
theorem ans_4 {b : List UInt8} {age : Int} {kp : Bool} (h : b.length < 12) : ansF b age kp = ([], 4) := by rw [ansF, if_pos h]
theorem ans_3 {b : List UInt8} {age : Int} {kp : Bool} (h : ¬ b.length < 12) (h2 : 65535 < b.length) : ansF b age kp = ([], 3) := by rw [ansF, if_neg h, if_pos h2]
theorem ans_5 {b : List UInt8} {age : Int} {kp : Bool} (h : ¬ b.length < 12) (h2 : ¬ 65535 < b.length) (h3 : age < 0 ∨ 2147483648 ≤ age) : ansF b age kp = ([], 5) := by rw [ansF, if_neg h, if_neg h2, if_pos h3]
theorem ans_ok {b : List UInt8} {age : Int} {kp : Bool} (h : ¬ b.length < 12) (h2 : ¬ 65535 < b.length) (h3 : ¬ (age < 0 ∨ 2147483648 ≤ age)) : ansF b age kp = (respL ⟨200, ansFs age, b, kp⟩, respE ⟨200, ansFs age, b, kp⟩) := by rw [ansF, if_neg h, if_neg h2, if_neg h3]
set_option maxHeartbeats 400000 in
theorem answer_ok16 {w0 : World} {base : Nat} {H : List Seg} {A : Option Addr} {C : Nat} {b : List UInt8} (h : Rd tyB w0 base H A C b) (hbl : b.length ≤ 4294967280) (age : Int) (kp : Bool) (T10 : Tab10 w0 base) :
    SCalls Tryz.prog 14 [.slice A b.length C, .int .i64 age, .bool kp] w0 base (H) (fun v H' => ∃ x : Sl tyB 5, x.l = (ansF b age kp).1 ∧ v = .tuple #[.slice x.A x.l.length x.C, int (ansF b age kp).2] ∧ H' = x.s :: H) := by
  have hle0 := h.le
  have hcap0 := h.cap
  refine SCalls.of_walk (n := 37) Tryz.func14 rfl rfl rfl fun cs => ?_
  refine At.seq ?_
  refine At.region ?_
  refine AtL.assign (.inl rfl) rfl rfl ?_
  refine AtL.assign (.inl rfl) rfl rfl ?_
  refine AtL.done ?_
  refine At.seq ?_
  refine At.block ?_
  refine At.seq ?_
  refine At.region ?_
  refine AtL.move (.inl rfl) rfl rfl ?_
  refine AtL.lenL Tryz.underlying22 (.inl rfl) rfl rfl ?_
  refine AtL.lss (.inl rfl) rfl rfl rfl ?_
  refine AtL.assign (.inl rfl) rfl rfl ?_
  refine AtL.done ?_
  refine At.cond rfl ?_ ?_
  · intro hc1
    have hc1 : (b.length : Int) < 12 := of_decide_eq_true hc1
    refine At.seq ?_
    refine At.region ?_
    refine AtL.assign (.inl rfl) rfl rfl ?_
    refine AtL.assign (.inl rfl) rfl rfl ?_
    refine AtL.done ?_
    refine At.nil ?_
    exact At.ret Tryz.func14 rfl rfl (⟨Sl.nil, by rw [ans_4 (by omega)]; rfl, by rw [ans_4 (by omega)]; rfl, rfl⟩)
  · intro hc1
    have hc1 : ¬ ((b.length : Int) < 12) := of_decide_eq_false hc1
    refine At.seq ?_
    refine At.region ?_
    refine AtL.move (.inl rfl) rfl rfl ?_
    refine AtL.lenL Tryz.underlying22 (.inl rfl) rfl rfl ?_
    refine AtL.gtr (.inl rfl) rfl rfl rfl ?_
    refine AtL.assign (.inl rfl) rfl rfl ?_
    refine AtL.done ?_
    refine At.cond rfl ?_ ?_
    · intro hc2
      have hc2 : 65535 < (b.length : Int) := of_decide_eq_true hc2
      refine At.seq ?_
      refine At.region ?_
      refine AtL.assign (.inl rfl) rfl rfl ?_
      refine AtL.assign (.inl rfl) rfl rfl ?_
      refine AtL.done ?_
      refine At.nil ?_
      exact At.ret Tryz.func14 rfl rfl (⟨Sl.nil, by rw [ans_3 (by omega) (by omega)]; rfl, by rw [ans_3 (by omega) (by omega)]; rfl, rfl⟩)
    · intro hc2
      have hc2 : ¬ (65535 < (b.length : Int)) := of_decide_eq_false hc2
      refine At.seq ?_
      refine At.region ?_
      refine AtL.move (.inl rfl) rfl rfl ?_
      refine AtL.lss (.inl rfl) rfl rfl rfl ?_
      refine AtL.move (.inl rfl) rfl rfl ?_
      refine AtL.join 3 (E' := [(23, .bool (decide (((age : Int) < 0) ∨ (2147483648 ≤ (age : Int))))), (0, .slice A b.length C), (1, .int .i64 age), (2, .bool kp)]) (H' := H) (fun J => ?_) ?_
      · refine AtL.split (t := 20) rfl ?_ ?_
        · intro hs20
          have hs20 : (age : Int) < 0 := of_decide_eq_true hs20
          refine AtL.skipped rfl rfl rfl rfl rfl rfl ?_
          refine AtL.skipped rfl rfl rfl rfl rfl rfl ?_
          refine AtL.pickT (.inl rfl) rfl rfl rfl ?_
          exact J _ (by exact ⟨(boolIs (by clear J; first | (simp [hs20]; done) | (simp_all; done) | grind)), rfl, rfl, rfl, trivial⟩)
        · intro hs20
          have hs20 : ¬ ((age : Int) < 0) := of_decide_eq_false hs20
          refine AtL.move (.inr ⟨_, _, _, rfl, rfl, rfl, rfl⟩) rfl rfl ?_
          refine AtL.geq (.inr ⟨_, _, _, rfl, rfl, rfl, rfl⟩) rfl rfl rfl ?_
          refine AtL.pickF (.inl rfl) rfl rfl rfl ?_
          exact J _ (by exact ⟨(boolIs (by clear J; first | (simp [hs20]; done) | (simp_all; done) | grind)), rfl, rfl, rfl, trivial⟩)
      · skip
        refine AtL.assign (.inl rfl) rfl rfl ?_
        refine AtL.done ?_
        refine At.cond rfl ?_ ?_
        · intro hc3
          have hc3 : ((age : Int) < 0) ∨ (2147483648 ≤ (age : Int)) := of_decide_eq_true hc3
          refine At.seq ?_
          refine At.region ?_
          refine AtL.assign (.inl rfl) rfl rfl ?_
          refine AtL.assign (.inl rfl) rfl rfl ?_
          refine AtL.done ?_
          refine At.nil ?_
          exact At.ret Tryz.func14 rfl rfl (⟨Sl.nil, by rw [ans_5 (by omega) (by omega) (by omega)]; rfl, by rw [ans_5 (by omega) (by omega) (by omega)]; rfl, rfl⟩)
        · intro hc3
          have hc3 : ¬ (((age : Int) < 0) ∨ (2147483648 ≤ (age : Int))) := of_decide_eq_false hc3
          have hdec : (decF age.toNat).length ≤ 19 := by
                      have h2 : (10 : Nat) ^ 19 = 10000000000000000000 := by decide
                      exact (decF_num age.toNat).2.2 18 (by omega)
          refine At.skip ?_
          refine At.inBlock ?_
          refine At.seq ?_
          refine At.region ?_
          refine AtL.build (cs := [str [67, 111, 110, 116, 101, 110, 116, 45, 84, 121, 112, 101], str [97, 112, 112, 108, 105, 99, 97, 116, 105, 111, 110, 47, 100, 110, 115, 45, 109, 101, 115, 115, 97, 103, 101]]) tf_lay78 (.inl rfl) rfl rfl rfl ?_
          refine AtL.move (.inl rfl) rfl rfl ?_
          refine AtL.call tf_body42 (.inl rfl) rfl rfl (itoa_any (n := age) (by omega) (by omega) T10) ?_
          rintro _ _ ⟨rfl, hHq⟩
          obtain rfl := hHq.symm
          refine AtL.cat (.inl rfl) rfl rfl rfl (by first | omega | (simp only [List.length_append, List.length_cons, List.length_nil]; omega) | (simp; omega)) ?_
          refine AtL.build (cs := [str [67, 97, 99, 104, 101, 45, 67, 111, 110, 116, 114, 111, 108], str ([109, 97, 120, 45, 97, 103, 101, 61] ++ (decF (Int.toNat age)))]) tf_lay78 (.inl rfl) rfl rfl rfl ?_
          refine AtL.buildSlice (cs := [str [67, 111, 110, 116, 101, 110, 116, 45, 84, 121, 112, 101], str [97, 112, 112, 108, 105, 99, 97, 116, 105, 111, 110, 47, 100, 110, 115, 45, 109, 101, 115, 115, 97, 103, 101], str [67, 97, 99, 104, 101, 45, 67, 111, 110, 116, 114, 111, 108], str ([109, 97, 120, 45, 97, 103, 101, 61] ++ (decF (Int.toNat age)))]) Tryz.underlying45 tf_zero78 tf_sz78 rfl rfl (.inl rfl) rfl rfl rfl ?_
          intro b1
          refine AtL.own1 tyField (l := ([(([67, 111, 110, 116, 101, 110, 116, 45, 84, 121, 112, 101] : List UInt8), ([97, 112, 112, 108, 105, 99, 97, 116, 105, 111, 110, 47, 100, 110, 115, 45, 109, 101, 115, 115, 97, 103, 101] : List UInt8)), (([67, 97, 99, 104, 101, 45, 67, 111, 110, 116, 114, 111, 108] : List UInt8), ([109, 97, 120, 45, 97, 103, 101, 61] ++ (decF (Int.toNat age)) : List UInt8))] : List (List UInt8 × List UInt8))) rfl rfl (by first | decide | simp) ?_
          intro s2 o3
          refine AtL.assign (.inl rfl) rfl rfl ?_
          refine AtL.done ?_
          refine At.seq ?_
          refine At.region ?_
          refine AtL.move (.inl rfl) rfl rfl ?_
          refine AtL.move (.inl rfl) rfl rfl ?_
          refine AtL.move (.inl rfl) rfl rfl ?_
          refine AtL.build (cs := [.int .i64 200, .slice (some ⟨b1, 0, none⟩) ([(([67, 111, 110, 116, 101, 110, 116, 45, 84, 121, 112, 101] : List UInt8), ([97, 112, 112, 108, 105, 99, 97, 116, 105, 111, 110, 47, 100, 110, 115, 45, 109, 101, 115, 115, 97, 103, 101] : List UInt8)), (([67, 97, 99, 104, 101, 45, 67, 111, 110, 116, 114, 111, 108] : List UInt8), ([109, 97, 120, 45, 97, 103, 101, 61] ++ (decF (Int.toNat age)) : List UInt8))]).length 2, .slice A b.length C, .bool kp]) tf_lay74 (.inl rfl) rfl rfl rfl ?_
          have hfb : ∀ f ∈ ansFs age, f.1.length ≤ 140737488355000 ∧ f.2.length ≤ 140737488355000 := by
            intro f hf
            rcases List.mem_cons.1 hf with rfl | hf
            · exact ⟨by decide, by decide⟩
            · obtain rfl := List.mem_singleton.1 hf
              refine ⟨(by decide : CCN16.length ≤ 140737488355000), ?_⟩
              show (MAX16 ++ decF age.toNat).length ≤ _; rw [List.length_append]; have : MAX16.length = 8 := rfl; omega
          refine AtL.call tf_body43 (.inl rfl) rfl rfl (rwrite_okP (st := 200) (fs := [(([67, 111, 110, 116, 101, 110, 116, 45, 84, 121, 112, 101] : List UInt8), ([97, 112, 112, 108, 105, 99, 97, 116, 105, 111, 110, 47, 100, 110, 115, 45, 109, 101, 115, 115, 97, 103, 101] : List UInt8)), (([67, 97, 99, 104, 101, 45, 67, 111, 110, 116, 114, 111, 108] : List UInt8), ([109, 97, 120, 45, 97, 103, 101, 61] ++ (decF (Int.toNat age)) : List UInt8))]) (b := b) (kp := kp) (o3.rd (i := 0) rfl) (Rd.skip 1 h) hfb T10) ?_
          rintro _ _ ⟨⟨A4, C5, l6, s7, o8⟩, hx9, rfl, rfl⟩
          obtain rfl : respL ⟨200, [(([67, 111, 110, 116, 101, 110, 116, 45, 84, 121, 112, 101] : List UInt8), ([97, 112, 112, 108, 105, 99, 97, 116, 105, 111, 110, 47, 100, 110, 115, 45, 109, 101, 115, 115, 97, 103, 101] : List UInt8)), (([67, 97, 99, 104, 101, 45, 67, 111, 110, 116, 114, 111, 108] : List UInt8), ([109, 97, 120, 45, 97, 103, 101, 61] ++ (decF (Int.toNat age)) : List UInt8))], b, kp⟩ = l6 := hx9.symm
          refine AtL.extract (.inl rfl) rfl rfl rfl ?_
          refine AtL.extract (.inl rfl) rfl rfl rfl ?_
          refine AtL.assign (.inl rfl) rfl rfl ?_
          refine AtL.assign (.inl rfl) rfl rfl ?_
          refine AtL.done ?_
          refine At.pick (H' := s7 :: H) [0] 2 rfl rfl ?_
          exact At.ret Tryz.func14 rfl rfl (⟨⟨A4, C5, respL ⟨200, [(([67, 111, 110, 116, 101, 110, 116, 45, 84, 121, 112, 101] : List UInt8), ([97, 112, 112, 108, 105, 99, 97, 116, 105, 111, 110, 47, 100, 110, 115, 45, 109, 101, 115, 115, 97, 103, 101] : List UInt8)), (([67, 97, 99, 104, 101, 45, 67, 111, 110, 116, 114, 111, 108] : List UInt8), ([109, 97, 120, 45, 97, 103, 101, 61] ++ (decF (Int.toNat age)) : List UInt8))], b, kp⟩, s7, o8⟩, by rw [ans_ok (by omega) (by omega) (by omega)]; rfl, by rw [ans_ok (by omega) (by omega) (by omega)]; rfl, rfl⟩)
end Go.Proofs.YtlkdmbpbjhjkfaaGreatDoor
namespace Go.Proofs.YtlkdmbpbjhjkfaaGreatDoor
set_option linter.unusedVariables false
set_option linter.unusedSimpArgs false
set_option maxRecDepth 100000
def lowI (r : Int) : Int := if 65 ≤ r ∧ r ≤ 90 then r + 32 else r
theorem low_ascii {c : UInt8} (h : c.toNat < 128) : Go.Lib.encodeRune (lowI (c.toNat : Int)) = [lowB c] := by
  have := (by decide +kernel : ∀ n : Fin 128, Go.Lib.encodeRune (lowI (n.val : Int)) = [lowB (UInt8.ofNat n.val)]) ⟨c.toNat, h⟩
  simpa using this
theorem lowI_nn {r : Int} (h : 0 ≤ r) : 0 ≤ lowI r := by unfold lowI; split <;> omega
theorem lowB_big {c : UInt8} (h : ¬ c.toNat < 128) : lowB c = c := by
  have := (by decide +kernel : ∀ n : Fin 256, ¬ n.val < 128 → lowB (UInt8.ofNat n.val) = UInt8.ofNat n.val) ⟨c.toNat, c.toNat_lt⟩ h
  simpa using this
theorem map_big {c : UInt8} (l : List UInt8) (h : ¬ c.toNat < 128) : ∃ x r, Go.Lib.mapD lowI (c :: l) = x :: r ∧ ¬ x.toNat < 128 := by
  rw [Go.Lib.mapD_step _ _ (by simp)]
  by_cases hv : (Go.Lib.decodeL (c :: l)).1 = 65533 ∧ (Go.Lib.decodeL (c :: l)).2 = 1
  · rw [hv.1]
    have e : (if 0 ≤ lowI ((65533 : Nat) : Int) then Go.Lib.encodeRune (lowI ((65533 : Nat) : Int)) else []) = [239, 191, 189] := by decide +kernel
    rw [e]; exact ⟨239, _, rfl, by decide⟩
  · have he := Go.Lib.encode_decode (c :: l) (by simp) hv
    have hl : 1 ≤ (Go.Lib.encodeRune ((Go.Lib.decodeL (c :: l)).1 : Int)).length := by
      have := (Go.Lib.encodeRuneZ_length ((Go.Lib.decodeL (c :: l)).1 : Int)).1
      rw [Go.Lib.encodeRune, List.length_map]; exact this
    obtain ⟨n, hn⟩ : ∃ n, (Go.Lib.decodeL (c :: l)).2 = n + 1 := by
      cases hq : (Go.Lib.decodeL (c :: l)).2 with
      | zero => rw [he, hq] at hl; simp at hl
      | succ n => exact ⟨n, rfl⟩
    rw [hn] at he
    have hr : ¬ ((Go.Lib.decodeL (c :: l)).1 : Int) ≤ 127 := by
      intro h1
      rw [Go.Lib.encodeRune, Go.Lib.encodeRuneZ_one (by omega) h1] at he
      simp only [List.map_cons, List.map_nil, List.take_succ_cons] at he
      have h2 := (List.cons.inj he).1
      rw [← h2] at h
      apply h
      simp; omega
    have hlow : lowI ((Go.Lib.decodeL (c :: l)).1 : Int) = ((Go.Lib.decodeL (c :: l)).1 : Int) := by unfold lowI; rw [if_neg (by omega)]
    rw [hlow, if_pos (by omega), he, List.take_succ_cons]
    exact ⟨c, _, rfl, h⟩
theorem map_low {m : List UInt8} (hm : m.all (fun c => decide (c.toNat < 128)) = true) (v : List UInt8) : Go.Lib.mapD lowI v = m ↔ lowerF v = m := by
  induction v generalizing m with
  | nil => exact Iff.rfl
  | cons c l ih =>
    have el : lowerF (c :: l) = lowB c :: lowerF l := rfl
    by_cases h : c.toNat < 128
    · have e : Go.Lib.mapD lowI (c :: l) = lowB c :: Go.Lib.mapD lowI l := by
        rw [Go.Lib.mapD_step _ _ (by simp), Go.Lib.decodeL_ascii c l h]
        dsimp only
        rw [if_pos (lowI_nn (by omega)), low_ascii h]; rfl
      rw [e, el]
      cases m with
      | nil => simp
      | cons d m =>
        simp only [List.all_cons, Bool.and_eq_true] at hm
        simp only [List.cons.injEq, ih hm.2]
    · obtain ⟨x, r, e, hx⟩ := map_big l h
      rw [e, el, lowB_big h]
      cases m with
      | nil => simp
      | cons d m =>
        simp only [List.all_cons, Bool.and_eq_true, decide_eq_true_eq] at hm
        constructor
        · intro h2; rw [(List.cons.inj h2).1] at hx; exact absurd hm.1 hx
        · intro h2; rw [(List.cons.inj h2).1] at h; exact absurd hm.1 h
def MEDIA : List UInt8 := [97, 112, 112, 108, 105, 99, 97, 116, 105, 111, 110, 47, 100, 110, 115, 45, 109, 101, 115, 115, 97, 103, 101]
def CTYPE : List UInt8 := [99, 111, 110, 116, 101, 110, 116, 45, 116, 121, 112, 101]
def DNSQ : List UInt8 := [47, 100, 110, 115, 45, 113, 117, 101, 114, 121]
def DNSE : List UInt8 := [100, 110, 115, 61]
def GETM : List UInt8 := [71, 69, 84]
def POSTM : List UInt8 := [80, 79, 83, 84]
theorem media_low (v : List UInt8) : Go.Lib.mapD lowI v = MEDIA ↔ lowerF v = lowerF MEDIA := by
  have h := map_low (m := MEDIA) (by decide) v
  have e : lowerF MEDIA = MEDIA := by decide
  rw [h, e]
theorem cut_less {q : List UInt8} (h : (Go.Lib.cut q [38]).2.2 = true) : (Go.Lib.cut q [38]).2.1.length < q.length := by
  unfold Go.Lib.cut at h ⊢
  split
  · rename_i h1
    have := Go.Lib.index_room q [38] h1
    simp only [List.length_drop, List.length_cons, List.length_nil] at this ⊢; omega
  · rename_i h1; rw [if_neg h1] at h; cases h
def partF (q : List UInt8) : Option (List UInt8) :=
  if DNSE <+: (Go.Lib.cut q [38]).1 then some ((Go.Lib.cut q [38]).1.drop 4) else if h : (Go.Lib.cut q [38]).2.2 = true then partF (Go.Lib.cut q [38]).2.1 else none
termination_by q.length
decreasing_by exact cut_less h
theorem part_yes {q : List UInt8} (h : DNSE <+: (Go.Lib.cut q [38]).1) : partF q = some ((Go.Lib.cut q [38]).1.drop 4) := by rw [partF, if_pos h]
theorem part_more {q : List UInt8} (h : ¬ DNSE <+: (Go.Lib.cut q [38]).1) (h2 : (Go.Lib.cut q [38]).2.2 = true) : partF q = partF (Go.Lib.cut q [38]).2.1 := by rw [partF, if_neg h, dif_pos h2]
theorem part_none {q : List UInt8} (h : ¬ DNSE <+: (Go.Lib.cut q [38]).1) (h2 : (Go.Lib.cut q [38]).2.2 = false) : partF q = none := by rw [partF, if_neg h, dif_neg (by rw [h2]; simp)]
def sizesF (b : List UInt8) : List UInt8 × Int := if b.length < 12 then ([], 400) else if 65535 < b.length then ([], 413) else (b, 200)
def getF (target : List UInt8) : List UInt8 × Int := match partF (Go.Lib.cut target [63]).2.1 with | none => ([], 400) | some t => match decB t with | none => ([], 400) | some b => (b, 200)
def postF (fs : List Fld) (body : List UInt8) : List UInt8 × Int := if ¬ (fieldF fs CTYPE).2 = 1 ∨ ¬ lowerF (fieldF fs CTYPE).1 = lowerF MEDIA then ([], 415) else (body, 200)
def thenF (r : List UInt8 × Int) : List UInt8 × Int := if r.2 = 200 then sizesF r.1 else ([], r.2)
def askF (m t : List UInt8) (fs : List Fld) (body : List UInt8) : List UInt8 × Int :=
  if ¬ (Go.Lib.cut t [63]).1 = DNSQ then ([], 404) else if m = GETM then thenF (getF t) else if m = POSTM then thenF (postF fs body) else ([], 405)
theorem low1 (w : World) : Go.Proofs.MapAtRunes Tryz.prog 133 #[] lowI w := fun W x hx _ => by
  unfold FnGives
  by_cases h1 : 65 ≤ x <;> by_cases h2 : x ≤ 90
  all_goals
    have z1 : (65 : Int) ≤ (x : Int) ↔ 65 ≤ x := by omega
    have z2 : (x : Int) ≤ 90 ↔ x ≤ 90 := by omega
    go_enter Tryz.func133, Tryz.ntmps133
    go_wp2
    all_goals first | (exfalso; omega) | (go_ret; refine ⟨?_, 0, rfl⟩; unfold lowI; (first | rw [if_pos (by omega)] | rw [if_neg (by omega)]); rfl)
theorem Tabs.u8 {w0 w : World} {base : Nat} {H : List Seg} (T : Tabs w0 base) (S : Sep w0 base w H) : Lib.Utf8Tabs 4 5 w :=
  ⟨fun c hc => S.cellBelow T.lt (T.first c hc), fun i hi => ⟨S.cellBelow T.lt2 (T.acc i hi).1, S.cellBelow T.lt2 (T.acc i hi).2⟩⟩
theorem smap_ok {w0 : World} {base : Nat} {H : List Seg} {x : List UInt8} (hx : x.length ≤ 4294967280) (T : Tabs w0 base) : SCalls Tryz.prog 132 [.func (.func 133) #[] #[], str x] w0 base H (fun u H' => u = str (Lib.mapD lowI x) ∧ H' = H) := by
  refine SCalls.of_below fun w S => ?_
  exact Tryz.strings_Map_runes 133 #[] (enters_of Tryz.func133 (by kernel_rfl) rfl) lowI ⟨⟨x⟩⟩ w (by rw [str_size]; omega) (low1 w) (fun y hy => by unfold lowI; split <;> omega) (T.u8 S)
theorem cutW_ok {w0 : World} {base : Nat} {H : List Seg} {x : List UInt8} (sep : List UInt8) (hx : x.length < 4294967281) (T : Tabs w0 base) :
    SCalls Tryz.prog 53 [str x, str sep] w0 base H (fun v H' => v = .tuple #[str (Lib.cut x sep).1, str (Lib.cut x sep).2.1, .bool (Lib.cut x sep).2.2] ∧ H' = H) := by
  obtain ⟨m, hm⟩ := T.max
  refine SCalls.of_draws fun w S => ?_
  exact Tryz.strings_Cut ⟨⟨x⟩⟩ ⟨⟨sep⟩⟩ m w (by rw [str_size]; omega) (S.cellBelow T.lt0 hm)
theorem cutW_le (sep x : List UInt8) : (Lib.cut x sep).1.length ≤ x.length ∧ (Lib.cut x sep).2.1.length ≤ x.length := by
  unfold Lib.cut
  split <;> simp; omega
theorem cutp_ok {w0 : World} {base : Nat} {H : List Seg} (x p : List UInt8) :
    SCalls Tryz.prog 89 [str x, str p] w0 base H (fun v H' => v = .tuple #[str (if p <+: x then x.drop p.length else x), .bool (decide (p <+: x))] ∧ H' = H) := by
  refine SCalls.of_same fun w S => ?_
  have h := Tryz.strings_CutPrefix ⟨⟨x⟩⟩ ⟨⟨p⟩⟩ w
  have e : Lib.hasPrefix x p = decide (p <+: x) := by
    rw [Lib.hasPrefix, Bool.eq_iff_iff, decide_eq_true_eq, List.isPrefixOf_iff_prefix]
  have e2 : Lib.trimPrefix x p = if p <+: x then x.drop p.length else x := by
    rw [Lib.trimPrefix, e]; by_cases hp : p <+: x <;> simp [hp]
  rw [← e, ← e2]
  exact h
set_option maxHeartbeats 400000 in
theorem dlower_ok {w0 : World} {base : Nat} {H : List Seg} {x : List UInt8} (hx : x.length ≤ 4294967280) (T : Tabs w0 base) :
    SCalls Tryz.prog 91 [str x] w0 base (H) (fun v H' => v = str (Lib.mapD lowI x) ∧ H' = H) := by
  refine SCalls.of_walk (n := 5) Tryz.func91 rfl rfl rfl fun cs => ?_
  refine At.seq ?_
  refine At.region ?_
  refine AtL.assign (.inl rfl) rfl rfl ?_
  refine AtL.done ?_
  refine At.seq ?_
  refine At.region ?_
  refine AtL.move (.inl rfl) rfl rfl ?_
  refine AtL.call tf_body132 (.inl rfl) rfl rfl (smap_ok (x := x) (by omega) T) ?_
  rintro _ _ ⟨rfl, hHq⟩
  obtain rfl := hHq.symm
  refine AtL.assign (.inl rfl) rfl rfl ?_
  refine AtL.done ?_
  exact At.ret Tryz.func91 rfl rfl (⟨rfl, rfl⟩)
set_option maxHeartbeats 400000 in
theorem path_ok {w0 : World} {base : Nat} {H : List Seg} {t : List UInt8} (ht : t.length ≤ 4294967280) (T : Tabs w0 base) :
    SCalls Tryz.prog 35 [str t] w0 base (H) (fun v H' => v = .tuple #[str (Lib.cut t [63]).1, str (Lib.cut t [63]).2.1] ∧ H' = H) := by
  refine SCalls.of_walk (n := 15) Tryz.func35 rfl rfl rfl fun cs => ?_
  refine At.seq ?_
  refine At.region ?_
  refine AtL.assign (.inl rfl) rfl rfl ?_
  refine AtL.assign (.inl rfl) rfl rfl ?_
  refine AtL.done ?_
  refine At.seq ?_
  refine At.region ?_
  refine AtL.move (.inl rfl) rfl rfl ?_
  refine AtL.call tf_body53 (.inl rfl) rfl rfl (cutW_ok (x := t) [63] (by omega) T) ?_
  rintro _ _ ⟨rfl, hHq⟩
  obtain rfl := hHq.symm
  refine AtL.move (.inl rfl) rfl rfl ?_
  refine AtL.extract (.inl rfl) rfl rfl rfl ?_
  refine AtL.extract (.inl rfl) rfl rfl rfl ?_
  refine AtL.extract (.inl rfl) rfl rfl rfl ?_
  refine AtL.assign (.inl rfl) rfl rfl ?_
  refine AtL.assign (.inl rfl) rfl rfl ?_
  refine AtL.assign (.inl rfl) rfl rfl ?_
  refine AtL.done ?_
  refine At.seq ?_
  refine At.region ?_
  refine AtL.move (.inl rfl) rfl rfl ?_
  refine AtL.move (.inl rfl) rfl rfl ?_
  refine AtL.assign (.inl rfl) rfl rfl ?_
  refine AtL.assign (.inl rfl) rfl rfl ?_
  refine AtL.done ?_
  exact At.ret Tryz.func35 rfl rfl (⟨rfl, rfl⟩)
end Go.Proofs.YtlkdmbpbjhjkfaaGreatDoor
namespace Go.Proofs.YtlkdmbpbjhjkfaaGreatDoor
set_option linter.unusedVariables false
set_option linter.unusedSimpArgs false
set_option maxRecDepth 100000
set_option maxHeartbeats 400000 in
theorem dget_ok {w0 : World} {base : Nat} {H : List Seg} {m t : List UInt8} {minor : Int} {A : Option Addr} {C : Nat} {fs : List (List UInt8 × List UInt8)} (h : Rd tyField w0 base H A C fs) {Ab : Option Addr} {Cb : Nat} {body : List UInt8} (hbody : Rd tyB w0 base H Ab Cb body) (ht : t.length ≤ 4294967280) (T : Tabs w0 base) :
    SCalls Tryz.prog 54 [.agg #[str m, str t, .int .i64 minor, .slice A fs.length C], .slice Ab body.length Cb] w0 base (H) (fun v H' => ∃ x : Sl tyB 5, x.l = (getF t).1 ∧ v = .tuple #[.slice x.A x.l.length x.C, int (getF t).2] ∧ H' = x.s :: H) := by
  have hle0 := h.le
  have hcap0 := h.cap
  have hleb := hbody.le
  have hcapb := hbody.cap
  refine SCalls.of_walk (n := 42) Tryz.func54 rfl rfl rfl fun cs => ?_
  refine At.seq ?_
  refine At.region ?_
  refine AtL.box (cs := #[str m, str t, .int .i64 minor, .slice A fs.length C]) rfl (.inl rfl) rfl rfl ?_
  intro b1
  refine AtL.assign (.inl rfl) rfl rfl ?_
  refine AtL.assign (.inl rfl) rfl rfl ?_
  refine AtL.done ?_
  refine At.seq ?_
  refine At.region ?_
  refine AtL.fieldAddrB tf_fo47_1 (.inl rfl) rfl rfl rfl ?_
  refine AtL.load tf_flat9 (.inl rfl) rfl rfl (Cell.own 0 0 rfl rfl rfl) ?_
  refine AtL.call tf_body35 (.inl rfl) rfl rfl (path_ok (t := t) (by omega) T) ?_
  rintro _ _ ⟨rfl, rfl⟩
  refine AtL.move (.inl rfl) rfl rfl ?_
  refine AtL.extract (.inl rfl) rfl rfl rfl ?_
  refine AtL.extract (.inl rfl) rfl rfl rfl ?_
  refine AtL.assign (.inl rfl) rfl rfl ?_
  refine AtL.assign (.inl rfl) rfl rfl ?_
  refine AtL.done ?_
  refine At.seq ?_
  refine At.seq ?_
  refine At.region ?_
  refine AtL.assign (.inl rfl) rfl rfl ?_
  refine AtL.done ?_
  refine At.block ?_
  refine At.loop2 (fun (q : List UInt8) (mr : Bool) => [(7, str q), (8, .bool mr)]) (fun (q : List UInt8) (mr : Bool) => [(b1, .cells #[str m, str t, .int .i64 minor, .slice A fs.length C] 47 (0, 0))] :: H) (fun (q : List UInt8) (mr : Bool) => (mr = true → partF (Lib.cut t [63]).2.1 = partF q) ∧ (mr = false → partF (Lib.cut t [63]).2.1 = none) ∧ q.length ≤ t.length) (fun (q : List UInt8) (mr : Bool) => q.length + (if mr = true then 1 else 0)) ((Lib.cut t [63]).2.1) true (⟨(fun _ => rfl), (fun h => by cases h), (cutW_le [63] t).2⟩) ⟨rfl, rfl, trivial⟩ rfl ?_
  rintro q mr ⟨hq1, hq2, hql⟩ ihL1
  refine At.seq ?_
  refine At.seq ?_
  refine At.region ?_
  refine AtL.move (.inl rfl) rfl rfl ?_
  refine AtL.done ?_
  refine At.cond rfl ?_ ?_
  · intro hc1
    have hc1 : mr = true := hc1
    have hcl := cutW_le [38] q
    refine At.skip ?_
    refine At.block ?_
    refine At.seq ?_
    refine At.region ?_
    refine AtL.assign (.inl rfl) rfl rfl ?_
    refine AtL.done ?_
    refine At.seq ?_
    refine At.region ?_
    refine AtL.move (.inl rfl) rfl rfl ?_
    refine AtL.call tf_body53 (.inl rfl) rfl rfl (cutW_ok (x := q) [38] (by omega) T) ?_
    rintro _ _ ⟨rfl, rfl⟩
    refine AtL.move (.inl rfl) rfl rfl ?_
    refine AtL.extract (.inl rfl) rfl rfl rfl ?_
    refine AtL.extract (.inl rfl) rfl rfl rfl ?_
    refine AtL.extract (.inl rfl) rfl rfl rfl ?_
    refine AtL.assign (.inl rfl) rfl rfl ?_
    refine AtL.assign (.inl rfl) rfl rfl ?_
    refine AtL.assign (.inl rfl) rfl rfl ?_
    refine AtL.done ?_
    refine At.seq ?_
    refine At.region ?_
    refine AtL.move (.inl rfl) rfl rfl ?_
    refine AtL.call tf_body89 (.inl rfl) rfl rfl (cutp_ok ((Lib.cut q [38]).1) [100, 110, 115, 61]) ?_
    rintro _ _ ⟨rfl, rfl⟩
    refine AtL.move (.inl rfl) rfl rfl ?_
    refine AtL.extract (.inl rfl) rfl rfl rfl ?_
    refine AtL.extract (.inl rfl) rfl rfl rfl ?_
    refine AtL.assign (.inl rfl) rfl rfl ?_
    refine AtL.assign (.inl rfl) rfl rfl ?_
    refine AtL.done ?_
    refine At.seq ?_
    refine At.region ?_
    refine AtL.move (.inl rfl) rfl rfl ?_
    refine AtL.done ?_
    refine At.cond rfl ?_ ?_
    · intro hc2
      have hc2 : [100, 110, 115, 61] <+: ((Lib.cut q [38]).1) := of_decide_eq_true hc2
      have hpd : (List.drop 4 (Lib.cut q [38]).1).length ≤ q.length := by rw [List.length_drop]; omega
      rw [if_pos hc2]
      refine At.seq ?_
      refine At.region ?_
      refine AtL.move (.inl rfl) rfl rfl ?_
      refine AtL.call tf_body90 (.inl rfl) rfl rfl (b64dec_ok (s := (Lib.cut q [38]).1.drop 4) (by omega)) ?_
      rintro _ _ ⟨⟨A2, C3, l4, s5, o6⟩, at8, hx7, rfl, rfl⟩
      obtain rfl : (decB ((Lib.cut q [38]).1.drop 4)).getD [] = l4 := hx7.symm
      refine AtL.move (.inl rfl) rfl rfl ?_
      refine AtL.extract (.inl rfl) rfl rfl rfl ?_
      refine AtL.extract (.inl rfl) rfl rfl rfl ?_
      refine AtL.alloc tf_zero133 (cs := #[.int .i64 0, .int .i64 0]) rfl (.inl rfl) rfl ?_
      intro b9
      refine AtL.assign (.inl rfl) rfl rfl ?_
      refine AtL.store (H' := [(b9, .cells #[.int .i64 (if (decB ((Lib.cut q [38]).1.drop 4)).isSome = true then 0 else 4), .int .i64 at8] 133 (0, 0))] :: s5 :: [(b1, .cells #[str m, str t, .int .i64 minor, .slice A fs.length C] 47 (0, 0))] :: H) 0 0 tf_sz133 (.inl rfl) rfl rfl rfl rfl rfl rfl rfl rfl rfl ?_
      refine AtL.done ?_
      refine At.seq ?_
      refine At.seq ?_
      refine At.region ?_
      refine AtL.fieldAddrB tf_fo133_0 (.inl rfl) rfl rfl rfl ?_
      refine AtL.load tf_flat25 (.inl rfl) rfl rfl (Cell.own 0 0 rfl rfl rfl) ?_
      refine AtL.nei (.inl rfl) rfl rfl rfl ?_
      refine AtL.done ?_
      refine At.cond rfl ?_ ?_
      · intro hc3
        have hc3 : ¬ (((if (decB ((Lib.cut q [38]).1.drop 4)).isSome = true then 0 else 4) : Int) = 0) := of_decide_eq_false (bnot_true hc3)
        refine At.seq ?_
        refine At.region ?_
        refine AtL.assign (.inl rfl) rfl rfl ?_
        refine AtL.assign (.inl rfl) rfl rfl ?_
        refine AtL.done ?_
        have hp1 : partF (Lib.cut t [63]).2.1 = some ((Lib.cut q [38]).1.drop 4) := by rw [hq1 hc1, part_yes hc2]
        have hr : getF t = ([], 400) := by cases hd : decB ((Lib.cut q [38]).1.drop 4) with | none => (rw [getF, hp1]; dsimp only; rw [hd]) | some b => (rw [hd] at hc3; exact absurd rfl hc3)
        refine At.nil ?_
        refine At.pick (H' := [] :: H) [0] 4 rfl rfl ?_
        exact At.ret Tryz.func54 rfl rfl (⟨Sl.nil, by rw [hr]; rfl, by rw [hr]; rfl, rfl⟩)
      · intro hc3
        have hc3 : ((if (decB ((Lib.cut q [38]).1.drop 4)).isSome = true then 0 else 4) : Int) = 0 := of_decide_eq_true (bnot_false hc3)
        refine At.skip ?_
        refine At.seq ?_
        refine At.region ?_
        refine AtL.move (.inl rfl) rfl rfl ?_
        refine AtL.assign (.inl rfl) rfl rfl ?_
        refine AtL.assign (.inl rfl) rfl rfl ?_
        refine AtL.done ?_
        have hp1 : partF (Lib.cut t [63]).2.1 = some ((Lib.cut q [38]).1.drop 4) := by rw [hq1 hc1, part_yes hc2]
        have hr : getF t = ((decB ((Lib.cut q [38]).1.drop 4)).getD [], 200) := by cases hd : decB ((Lib.cut q [38]).1.drop 4) with | none => (rw [hd] at hc3; exact absurd hc3 (by decide)) | some b => (rw [getF, hp1]; dsimp only; rw [hd]; rfl)
        refine At.pick (H' := s5 :: H) [1] 3 rfl rfl ?_
        exact At.ret Tryz.func54 rfl rfl (⟨⟨A2, C3, ((decB ((Lib.cut q [38]).1.drop 4)).getD []), s5, o6⟩, by rw [hr], by rw [hr]; rfl, rfl⟩)
    · intro hc2
      have hc2 : ¬ ([100, 110, 115, 61] <+: ((Lib.cut q [38]).1)) := of_decide_eq_false hc2
      refine At.skip ?_
      refine At.inBlock ?_
      refine ihL1 ((Lib.cut q [38]).2.1) ((Lib.cut q [38]).2.2) (⟨fun hm => by rw [hq1 hc1, part_more hc2 hm], fun hm => by rw [hq1 hc1, part_none hc2 hm], by omega⟩) (by rw [if_pos hc1]; by_cases hm : (Lib.cut q [38]).2.2 = true; rw [if_pos hm]; have := cut_less hm; omega; rw [if_neg hm, show (Lib.cut q [38]).2.1 = [] from by unfold Lib.cut at hm ⊢; split <;> simp_all]; simp) _ ?_
      exact ⟨(by first | rfl | exact slLen (by simp []) | exact intEq (by omega) | exact intEq (by simp []) | exact slLen (by simp []; omega)), (by first | rfl | exact slLen (by simp []) | exact intEq (by omega) | exact intEq (by simp []) | exact slLen (by simp []; omega)), trivial⟩
  · intro hc1
    have hc1 : mr = false := hc1
    refine At.exit rfl ?_
    refine At.seq ?_
    refine At.region ?_
    refine AtL.assign (.inl rfl) rfl rfl ?_
    refine AtL.assign (.inl rfl) rfl rfl ?_
    refine AtL.done ?_
    have hr : getF t = ([], 400) := by rw [getF, hq2 (by simpa using hc1)]
    refine At.nil ?_
    refine At.pick (H' := [] :: H) [0] 2 rfl rfl ?_
    exact At.ret Tryz.func54 rfl rfl (⟨Sl.nil, by rw [hr]; rfl, by rw [hr]; rfl, rfl⟩)
theorem post_cond {fs : List Fld} : (¬ ((fieldF fs CTYPE).2 : Int) = 1 ∨ ¬ Go.Lib.mapD lowI (fieldF fs CTYPE).1 = MEDIA) ↔ (¬ (fieldF fs CTYPE).2 = 1 ∨ ¬ lowerF (fieldF fs CTYPE).1 = lowerF MEDIA) := by
  have e : ((fieldF fs CTYPE).2 : Int) = 1 ↔ (fieldF fs CTYPE).2 = 1 := by omega
  rw [media_low, e]
theorem field_mem {fs : List Fld} {nm : List UInt8} {n : Nat} (hb : ∀ f ∈ fs, f.2.length ≤ n) : (fieldF fs nm).1.length ≤ n := by
  unfold fieldF
  cases h : allF fs nm with
  | nil => simp
  | cons x l =>
    have : x ∈ allF fs nm := by rw [h]; simp
    obtain ⟨f, hf, rfl⟩ := List.mem_map.1 this
    exact hb f (List.mem_filter.1 hf).1
set_option maxHeartbeats 400000 in
theorem dpost_ok {w0 : World} {base : Nat} {H : List Seg} {m t : List UInt8} {minor : Int} {A : Option Addr} {C : Nat} {fs : List (List UInt8 × List UInt8)} (h : Rd tyField w0 base H A C fs) {Ab : Option Addr} {Cb : Nat} {body : List UInt8} (hbody : Rd tyB w0 base H Ab Cb body) (hfl : fs.length ≤ 1000) (hb : ∀ f ∈ fs, f.1.length ≤ 4294967280 ∧ f.2.length ≤ 4294967280) (hbl : body.length ≤ 4294967280) (T : Tabs w0 base) :
    SCalls Tryz.prog 55 [.agg #[str m, str t, .int .i64 minor, .slice A fs.length C], .slice Ab body.length Cb] w0 base (H) (fun v H' => ∃ x : Sl tyB 5, x.l = (postF fs body).1 ∧ v = .tuple #[.slice x.A x.l.length x.C, int (postF fs body).2] ∧ H' = x.s :: H) := by
  have hle0 := h.le
  have hcap0 := h.cap
  have hleb := hbody.le
  have hcapb := hbody.cap
  refine SCalls.of_walk (n := 22) Tryz.func55 rfl rfl rfl fun cs => ?_
  refine At.seq ?_
  refine At.region ?_
  refine AtL.box (cs := #[str m, str t, .int .i64 minor, .slice A fs.length C]) rfl (.inl rfl) rfl rfl ?_
  intro b1
  refine AtL.assign (.inl rfl) rfl rfl ?_
  refine AtL.assign (.inl rfl) rfl rfl ?_
  refine AtL.done ?_
  refine At.seq ?_
  refine At.seq ?_
  refine At.region ?_
  refine AtL.loadN (cs := [str m, str t, .int .i64 minor, .slice A fs.length C]) tf_agg47 (.inl rfl) rfl rfl rfl (cellsOwn 0 0 0 rfl rfl rfl) ?_
  refine AtL.call tf_body76 (.inl rfl) rfl rfl (field_ok (fs := fs) (Rd.skip 1 h) (nm := [99, 111, 110, 116, 101, 110, 116, 45, 116, 121, 112, 101]) (by decide) (by omega) (fun f hf => by have := hb f hf; omega)) ?_
  rintro _ _ ⟨rfl, rfl⟩
  refine AtL.move (.inl rfl) rfl rfl ?_
  refine AtL.extract (.inl rfl) rfl rfl rfl ?_
  refine AtL.extract (.inl rfl) rfl rfl rfl ?_
  refine AtL.assign (.inl rfl) rfl rfl ?_
  refine AtL.assign (.inl rfl) rfl rfl ?_
  refine AtL.done ?_
  refine At.seq ?_
  refine At.region ?_
  refine AtL.move (.inl rfl) rfl rfl ?_
  refine AtL.nei (.inl rfl) rfl rfl rfl ?_
  refine AtL.move (.inl rfl) rfl rfl ?_
  refine AtL.join 4 (E' := [(19, .bool (decide ((¬ (((fieldF fs [99, 111, 110, 116, 101, 110, 116, 45, 116, 121, 112, 101]).2 : Int) = 1)) ∨ (¬ (Lib.mapD lowI ((fieldF fs [99, 111, 110, 116, 101, 110, 116, 45, 116, 121, 112, 101]).1) = [97, 112, 112, 108, 105, 99, 97, 116, 105, 111, 110, 47, 100, 110, 115, 45, 109, 101, 115, 115, 97, 103, 101]))))), (1, .slice Ab body.length Cb)]) (H' := [(b1, .cells #[str m, str t, .int .i64 minor, .slice A fs.length C] 47 (0, 0))] :: H) (fun J => ?_) ?_
  · refine AtL.split (t := 15) rfl ?_ ?_
    · intro hs15
      have hs15 : ¬ (((fieldF fs [99, 111, 110, 116, 101, 110, 116, 45, 116, 121, 112, 101]).2 : Int) = 1) := of_decide_eq_false (bnot_true hs15)
      refine AtL.skipped rfl rfl rfl rfl rfl rfl ?_
      refine AtL.skipped rfl rfl rfl rfl rfl rfl ?_
      refine AtL.skipped rfl rfl rfl rfl rfl rfl ?_
      refine AtL.pickT (.inl rfl) rfl rfl rfl ?_
      exact J _ (by exact ⟨(boolIs (by clear J; first | (simp [hs15]; done) | (simp_all; done) | grind)), rfl, trivial⟩)
    · intro hs15
      have hs15 : ((fieldF fs [99, 111, 110, 116, 101, 110, 116, 45, 116, 121, 112, 101]).2 : Int) = 1 := of_decide_eq_true (bnot_false hs15)
      refine AtL.move (.inr ⟨_, _, _, rfl, rfl, rfl, rfl⟩) rfl rfl ?_
      refine AtL.call tf_body91 (.inr ⟨_, _, _, rfl, rfl, rfl, rfl⟩) rfl rfl (dlower_ok (x := (fieldF fs [99, 111, 110, 116, 101, 110, 116, 45, 116, 121, 112, 101]).1) (field_mem fun f hf => (hb f hf).2) T) ?_
      rintro _ _ ⟨rfl, rfl⟩
      refine AtL.nes (a := Lib.mapD lowI ((fieldF fs [99, 111, 110, 116, 101, 110, 116, 45, 116, 121, 112, 101]).1)) (b := [97, 112, 112, 108, 105, 99, 97, 116, 105, 111, 110, 47, 100, 110, 115, 45, 109, 101, 115, 115, 97, 103, 101]) (.inr ⟨_, _, _, rfl, rfl, rfl, rfl⟩) rfl rfl rfl ?_
      refine AtL.pickF (.inl rfl) rfl rfl rfl ?_
      exact J _ (by exact ⟨(boolIs (by clear J; first | (simp [hs15]; done) | (simp_all; done) | grind)), rfl, trivial⟩)
  · skip
    refine AtL.done ?_
    refine At.cond rfl ?_ ?_
    · intro hc1
      have hc1 : (¬ (((fieldF fs [99, 111, 110, 116, 101, 110, 116, 45, 116, 121, 112, 101]).2 : Int) = 1)) ∨ (¬ (Lib.mapD lowI ((fieldF fs [99, 111, 110, 116, 101, 110, 116, 45, 116, 121, 112, 101]).1) = [97, 112, 112, 108, 105, 99, 97, 116, 105, 111, 110, 47, 100, 110, 115, 45, 109, 101, 115, 115, 97, 103, 101])) := of_decide_eq_true hc1
      refine At.seq ?_
      refine At.region ?_
      refine AtL.assign (.inl rfl) rfl rfl ?_
      refine AtL.assign (.inl rfl) rfl rfl ?_
      refine AtL.done ?_
      have hr : postF fs body = ([], 415) := by rw [postF, if_pos (post_cond.1 hc1)]
      refine At.nil ?_
      refine At.pick (H' := [] :: H) [0] 2 rfl rfl ?_
      exact At.ret Tryz.func55 rfl rfl (⟨Sl.nil, by rw [hr]; rfl, by rw [hr]; rfl, rfl⟩)
    · intro hc1
      have hc1 : ¬ ((¬ (((fieldF fs [99, 111, 110, 116, 101, 110, 116, 45, 116, 121, 112, 101]).2 : Int) = 1)) ∨ (¬ (Lib.mapD lowI ((fieldF fs [99, 111, 110, 116, 101, 110, 116, 45, 116, 121, 112, 101]).1) = [97, 112, 112, 108, 105, 99, 97, 116, 105, 111, 110, 47, 100, 110, 115, 45, 109, 101, 115, 115, 97, 103, 101]))) := of_decide_eq_false hc1
      refine At.skip ?_
      refine At.seq ?_
      refine At.region ?_
      refine AtL.move (.inl rfl) rfl rfl ?_
      refine AtL.nil ?_
      refine AtL.append (l := []) (news := body) 0 tf_el22 rfl (Own.nil tyB 5) (Rd.skip 2 hbody) (by first | omega | (simp only [List.length_append, List.length_cons, List.length_nil]; omega) | (simp; done) | (simp; omega)) (.inl rfl) rfl rfl rfl ?_
      intro A2 C3 s4 o5
      refine AtL.assign (.inl rfl) rfl rfl ?_
      refine AtL.assign (.inl rfl) rfl rfl ?_
      refine AtL.done ?_
      have hr : postF fs body = (body, 200) := by rw [postF, if_neg (mt post_cond.2 hc1)]
      refine At.pick (H' := s4 :: H) [0] 2 rfl rfl ?_
      exact At.ret Tryz.func55 rfl rfl (⟨⟨A2, C3, body, s4, o5⟩, by rw [hr], by rw [hr]; rfl, rfl⟩)
def fnV (n : Nat) : Value := .func (.func n) #[] #[]
theorem ask_m {m : List UInt8} (h1 : ¬ m = GETM) (h2 : ¬ m = POSTM) : (if true = true then (.tuple #[((atK m [([71, 69, 84], 54), ([80, 79, 83, 84], 55)]).map fnV).getD .nilFunc, .bool (atK m [([71, 69, 84], 54), ([80, 79, 83, 84], 55)]).isSome] : Value) else ((atK m [([71, 69, 84], 54), ([80, 79, 83, 84], 55)]).map fnV).getD .nilFunc) = .tuple #[.nilFunc, .bool false] := by
  have e : atK m [([71, 69, 84], 54), ([80, 79, 83, 84], 55)] = none := by
    rw [atK, if_neg (show ¬ m = ([71, 69, 84] : List UInt8) from h1), atK, if_neg (show ¬ m = ([80, 79, 83, 84] : List UInt8) from h2), atK]
  rw [e]; rfl
set_option maxHeartbeats 400000 in
theorem ask_ok {w0 : World} {base : Nat} {H : List Seg} {m t : List UInt8} {minor : Int} {A : Option Addr} {C : Nat} {fs : List (List UInt8 × List UInt8)} (h : Rd tyField w0 base H A C fs) {Ab : Option Addr} {Cb : Nat} {body : List UInt8} (hbody : Rd tyB w0 base H Ab Cb body) (hfl : fs.length ≤ 1000) (hb : ∀ f ∈ fs, f.1.length ≤ 4294967280 ∧ f.2.length ≤ 4294967280) (hbl : body.length ≤ 4294967280) (ht : t.length ≤ 4294967280) (T : Tabs w0 base) :
    SCalls Tryz.prog 36 [.agg #[str m, str t, .int .i64 minor, .slice A fs.length C], .slice Ab body.length Cb] w0 base (H) (fun v H' => ∃ x : Sl tyB 5, x.l = (askF m t fs body).1 ∧ v = .tuple #[.slice x.A x.l.length x.C, int (askF m t fs body).2] ∧ H' = x.s :: H) := by
  have hle0 := h.le
  have hcap0 := h.cap
  have hleb := hbody.le
  have hcapb := hbody.cap
  refine SCalls.of_walk (n := 50) Tryz.func36 rfl rfl rfl fun cs => ?_
  refine At.seq ?_
  refine At.region ?_
  refine AtL.box (cs := #[str m, str t, .int .i64 minor, .slice A fs.length C]) rfl (.inl rfl) rfl rfl ?_
  intro b1
  refine AtL.assign (.inl rfl) rfl rfl ?_
  refine AtL.assign (.inl rfl) rfl rfl ?_
  refine AtL.done ?_
  refine At.seq ?_
  refine At.seq ?_
  refine At.region ?_
  refine AtL.fieldAddrB tf_fo47_1 (.inl rfl) rfl rfl rfl ?_
  refine AtL.load tf_flat9 (.inl rfl) rfl rfl (Cell.own 0 0 rfl rfl rfl) ?_
  refine AtL.call tf_body35 (.inl rfl) rfl rfl (path_ok (t := t) (by omega) T) ?_
  rintro _ _ ⟨rfl, rfl⟩
  refine AtL.move (.inl rfl) rfl rfl ?_
  refine AtL.extract (.inl rfl) rfl rfl rfl ?_
  refine AtL.extract (.inl rfl) rfl rfl rfl ?_
  refine AtL.assign (.inl rfl) rfl rfl ?_
  refine AtL.assign (.inl rfl) rfl rfl ?_
  refine AtL.done ?_
  refine At.seq ?_
  refine At.region ?_
  refine AtL.move (.inl rfl) rfl rfl ?_
  refine AtL.nes (a := (Lib.cut t [63]).1) (b := [47, 100, 110, 115, 45, 113, 117, 101, 114, 121]) (.inl rfl) rfl rfl rfl ?_
  refine AtL.done ?_
  refine At.cond rfl ?_ ?_
  · intro hc1
    have hc1 : ¬ ((Lib.cut t [63]).1 = [47, 100, 110, 115, 45, 113, 117, 101, 114, 121]) := of_decide_eq_false (bnot_true hc1)
    refine At.seq ?_
    refine At.region ?_
    refine AtL.assign (.inl rfl) rfl rfl ?_
    refine AtL.assign (.inl rfl) rfl rfl ?_
    refine AtL.done ?_
    have hr : (askF m t fs body) = ([], 404) := by rw [askF, if_pos (show ¬ (Lib.cut t [63]).1 = DNSQ from hc1)]
    refine At.nil ?_
    refine At.pick (H' := [] :: H) [0] 2 rfl rfl ?_
    exact At.ret Tryz.func36 rfl rfl (⟨Sl.nil, by rw [hr]; rfl, by rw [hr]; rfl, rfl⟩)
  · intro hc1
    have hc1 : (Lib.cut t [63]).1 = [47, 100, 110, 115, 45, 113, 117, 101, 114, 121] := of_decide_eq_true (bnot_false hc1)
    refine At.skip ?_
    refine At.seq ?_
    rcases Classical.em (m = GETM) with hm1 | hm1
    · skip
      obtain rfl : [71, 69, 84] = m := hm1.symm
      refine At.region ?_
      refine AtL.makeMap kyS fnV (.inl rfl) rfl ?_
      intro b2
      refine AtL.insert (Q := kyS) (tv := fnV) (a := [71, 69, 84]) (v := 54) (H' := [(b2, mapO kyS fnV ([([71, 69, 84], 54)]))] :: [(b1, .cells #[str [71, 69, 84], str t, .int .i64 minor, .slice A fs.length C] 47 (0, 0))] :: H) 0 0 Tryz.underlying99 Tryz.underlying9 rfl (.inl rfl) rfl rfl (by first | decide | rfl) rfl rfl rfl rfl ?_
      refine AtL.insert (Q := kyS) (tv := fnV) (a := [80, 79, 83, 84]) (v := 55) (H' := [(b2, mapO kyS fnV ([([71, 69, 84], 54), ([80, 79, 83, 84], 55)]))] :: [(b1, .cells #[str [71, 69, 84], str t, .int .i64 minor, .slice A fs.length C] 47 (0, 0))] :: H) 0 0 Tryz.underlying99 Tryz.underlying9 rfl (.inl rfl) rfl rfl (by first | decide | rfl) rfl rfl rfl rfl ?_
      refine AtL.move (.inl rfl) rfl rfl ?_
      refine AtL.fieldAddrB tf_fo47_0 (.inl rfl) rfl rfl rfl ?_
      refine AtL.load tf_flat9 (.inl rfl) rfl rfl (Cell.own 1 0 rfl rfl rfl) ?_
      refine AtL.lookup (Q := kyS) (tv := fnV) (a := [71, 69, 84]) (v := .tuple #[.func ((.func 54)) #[] #[], .bool true]) 0 0 Tryz.underlying99 Tryz.underlying9 rfl tf_zero70 (.inl rfl) rfl rfl rfl rfl rfl rfl ?_
      refine AtL.move (.inl rfl) rfl rfl ?_
      refine AtL.extract (.inl rfl) rfl rfl rfl ?_
      refine AtL.extract (.inl rfl) rfl rfl rfl ?_
      refine AtL.assign (.inl rfl) rfl rfl ?_
      refine AtL.assign (.inl rfl) rfl rfl ?_
      refine AtL.done ?_
      refine At.seq ?_
      refine At.seq ?_
      refine At.region ?_
      refine AtL.move (.inl rfl) rfl rfl ?_
      refine AtL.not (.inl rfl) rfl rfl ?_
      refine AtL.done ?_
      refine At.condF rfl ?_
      refine At.skip ?_
      refine At.seq ?_
      refine At.region ?_
      refine AtL.move (.inl rfl) rfl rfl ?_
      refine AtL.loadN (cs := [str [71, 69, 84], str t, .int .i64 minor, .slice A fs.length C]) tf_agg47 (.inl rfl) rfl rfl rfl (cellsOwn 1 0 0 rfl rfl rfl) ?_
      refine AtL.move (.inl rfl) rfl rfl ?_
      refine AtL.callV tf_body54 (.inl rfl) rfl rfl rfl rfl (dget_ok (m := [71, 69, 84]) (t := t) (minor := minor) (fs := fs) (body := body) (Rd.skip 2 h) (Rd.skip 2 hbody) (by omega) T) ?_
      rintro _ _ ⟨⟨A3, C4, l5, s6, o7⟩, hx8, rfl, rfl⟩
      obtain rfl : (getF t).1 = l5 := hx8.symm
      refine AtL.move (.inl rfl) rfl rfl ?_
      refine AtL.extract (.inl rfl) rfl rfl rfl ?_
      refine AtL.extract (.inl rfl) rfl rfl rfl ?_
      refine AtL.assign (.inl rfl) rfl rfl ?_
      refine AtL.assign (.inl rfl) rfl rfl ?_
      refine AtL.done ?_
      refine At.seq ?_
      refine At.block ?_
      refine At.seq ?_
      refine At.region ?_
      refine AtL.move (.inl rfl) rfl rfl ?_
      refine AtL.nei (.inl rfl) rfl rfl rfl ?_
      refine AtL.assign (.inl rfl) rfl rfl ?_
      refine AtL.done ?_
      refine At.cond rfl ?_ ?_
      · intro hc3
        have hc3 : ¬ (((getF t).2 : Int) = 200) := of_decide_eq_false (bnot_true hc3)
        refine At.seq ?_
        refine At.region ?_
        refine AtL.move (.inl rfl) rfl rfl ?_
        refine AtL.assign (.inl rfl) rfl rfl ?_
        refine AtL.assign (.inl rfl) rfl rfl ?_
        refine AtL.done ?_
        have hr : (askF [71, 69, 84] t fs body) = ([], (getF t).2) := by rw [askF, if_neg (show ¬ ¬ (Lib.cut t [63]).1 = DNSQ from fun h => h hc1), if_pos (show ([71, 69, 84] : List UInt8) = GETM from rfl), thenF, if_neg hc3]
        refine At.nil ?_
        refine At.pick (H' := [] :: H) [0] 4 rfl rfl ?_
        exact At.ret Tryz.func36 rfl rfl (⟨Sl.nil, by rw [hr]; rfl, by rw [hr]; rfl, rfl⟩)
      · intro hc3
        have hc3 : ((getF t).2 : Int) = 200 := of_decide_eq_true (bnot_false hc3)
        refine At.seq ?_
        refine At.region ?_
        refine AtL.move (.inl rfl) rfl rfl ?_
        refine AtL.lenL Tryz.underlying22 (.inl rfl) rfl rfl ?_
        refine AtL.lss (.inl rfl) rfl rfl rfl ?_
        refine AtL.assign (.inl rfl) rfl rfl ?_
        refine AtL.done ?_
        refine At.cond rfl ?_ ?_
        · intro hc4
          have hc4 : (((getF t).1).length : Int) < 12 := of_decide_eq_true hc4
          refine At.seq ?_
          refine At.region ?_
          refine AtL.assign (.inl rfl) rfl rfl ?_
          refine AtL.assign (.inl rfl) rfl rfl ?_
          refine AtL.done ?_
          have hr : (askF [71, 69, 84] t fs body) = ([], 400) := by rw [askF, if_neg (show ¬ ¬ (Lib.cut t [63]).1 = DNSQ from fun h => h hc1), if_pos (show ([71, 69, 84] : List UInt8) = GETM from rfl), thenF, if_pos hc3, sizesF, if_pos (by omega)]
          refine At.nil ?_
          refine At.pick (H' := [] :: H) [0] 4 rfl rfl ?_
          exact At.ret Tryz.func36 rfl rfl (⟨Sl.nil, by rw [hr]; rfl, by rw [hr]; rfl, rfl⟩)
        · intro hc4
          have hc4 : ¬ ((((getF t).1).length : Int) < 12) := of_decide_eq_false hc4
          refine At.seq ?_
          refine At.region ?_
          refine AtL.move (.inl rfl) rfl rfl ?_
          refine AtL.lenL Tryz.underlying22 (.inl rfl) rfl rfl ?_
          refine AtL.gtr (.inl rfl) rfl rfl rfl ?_
          refine AtL.assign (.inl rfl) rfl rfl ?_
          refine AtL.done ?_
          refine At.cond rfl ?_ ?_
          · intro hc5
            have hc5 : 65535 < (((getF t).1).length : Int) := of_decide_eq_true hc5
            refine At.seq ?_
            refine At.region ?_
            refine AtL.assign (.inl rfl) rfl rfl ?_
            refine AtL.assign (.inl rfl) rfl rfl ?_
            refine AtL.done ?_
            have hr : (askF [71, 69, 84] t fs body) = ([], 413) := by rw [askF, if_neg (show ¬ ¬ (Lib.cut t [63]).1 = DNSQ from fun h => h hc1), if_pos (show ([71, 69, 84] : List UInt8) = GETM from rfl), thenF, if_pos hc3, sizesF, if_neg (by omega), if_pos (by omega)]
            refine At.nil ?_
            refine At.pick (H' := [] :: H) [0] 4 rfl rfl ?_
            exact At.ret Tryz.func36 rfl rfl (⟨Sl.nil, by rw [hr]; rfl, by rw [hr]; rfl, rfl⟩)
          · intro hc5
            have hc5 : ¬ (65535 < (((getF t).1).length : Int)) := of_decide_eq_false hc5
            refine At.skip ?_
            refine At.inBlock ?_
            refine At.seq ?_
            refine At.region ?_
            refine AtL.move (.inl rfl) rfl rfl ?_
            refine AtL.assign (.inl rfl) rfl rfl ?_
            refine AtL.assign (.inl rfl) rfl rfl ?_
            refine AtL.done ?_
            have hr : (askF [71, 69, 84] t fs body) = ((getF t).1, 200) := by rw [askF, if_neg (show ¬ ¬ (Lib.cut t [63]).1 = DNSQ from fun h => h hc1), if_pos (show ([71, 69, 84] : List UInt8) = GETM from rfl), thenF, if_pos hc3, sizesF, if_neg (by omega), if_neg (by omega)]
            refine At.pick (H' := s6 :: H) [0] 3 rfl rfl ?_
            exact At.ret Tryz.func36 rfl rfl (⟨⟨A3, C4, ((getF t).1), s6, o7⟩, by rw [hr], by rw [hr]; rfl, rfl⟩)
    · skip
      rcases Classical.em (m = POSTM) with hm2 | hm2
      · skip
        obtain rfl : [80, 79, 83, 84] = m := hm2.symm
        refine At.region ?_
        refine AtL.makeMap kyS fnV (.inl rfl) rfl ?_
        intro b9
        refine AtL.insert (Q := kyS) (tv := fnV) (a := [71, 69, 84]) (v := 54) (H' := [(b9, mapO kyS fnV ([([71, 69, 84], 54)]))] :: [(b1, .cells #[str [80, 79, 83, 84], str t, .int .i64 minor, .slice A fs.length C] 47 (0, 0))] :: H) 0 0 Tryz.underlying99 Tryz.underlying9 rfl (.inl rfl) rfl rfl (by first | decide | rfl) rfl rfl rfl rfl ?_
        refine AtL.insert (Q := kyS) (tv := fnV) (a := [80, 79, 83, 84]) (v := 55) (H' := [(b9, mapO kyS fnV ([([71, 69, 84], 54), ([80, 79, 83, 84], 55)]))] :: [(b1, .cells #[str [80, 79, 83, 84], str t, .int .i64 minor, .slice A fs.length C] 47 (0, 0))] :: H) 0 0 Tryz.underlying99 Tryz.underlying9 rfl (.inl rfl) rfl rfl (by first | decide | rfl) rfl rfl rfl rfl ?_
        refine AtL.move (.inl rfl) rfl rfl ?_
        refine AtL.fieldAddrB tf_fo47_0 (.inl rfl) rfl rfl rfl ?_
        refine AtL.load tf_flat9 (.inl rfl) rfl rfl (Cell.own 1 0 rfl rfl rfl) ?_
        refine AtL.lookup (Q := kyS) (tv := fnV) (a := [80, 79, 83, 84]) (v := .tuple #[.func ((.func 55)) #[] #[], .bool true]) 0 0 Tryz.underlying99 Tryz.underlying9 rfl tf_zero70 (.inl rfl) rfl rfl rfl rfl rfl rfl ?_
        refine AtL.move (.inl rfl) rfl rfl ?_
        refine AtL.extract (.inl rfl) rfl rfl rfl ?_
        refine AtL.extract (.inl rfl) rfl rfl rfl ?_
        refine AtL.assign (.inl rfl) rfl rfl ?_
        refine AtL.assign (.inl rfl) rfl rfl ?_
        refine AtL.done ?_
        refine At.seq ?_
        refine At.seq ?_
        refine At.region ?_
        refine AtL.move (.inl rfl) rfl rfl ?_
        refine AtL.not (.inl rfl) rfl rfl ?_
        refine AtL.done ?_
        refine At.condF rfl ?_
        refine At.skip ?_
        refine At.seq ?_
        refine At.region ?_
        refine AtL.move (.inl rfl) rfl rfl ?_
        refine AtL.loadN (cs := [str [80, 79, 83, 84], str t, .int .i64 minor, .slice A fs.length C]) tf_agg47 (.inl rfl) rfl rfl rfl (cellsOwn 1 0 0 rfl rfl rfl) ?_
        refine AtL.move (.inl rfl) rfl rfl ?_
        refine AtL.callV tf_body55 (.inl rfl) rfl rfl rfl rfl (dpost_ok (m := [80, 79, 83, 84]) (t := t) (minor := minor) (fs := fs) (body := body) (Rd.skip 2 h) (Rd.skip 2 hbody) (by omega) hb (by omega) T) ?_
        rintro _ _ ⟨⟨A10, C11, l12, s13, o14⟩, hx15, rfl, rfl⟩
        obtain rfl : (postF fs body).1 = l12 := hx15.symm
        refine AtL.move (.inl rfl) rfl rfl ?_
        refine AtL.extract (.inl rfl) rfl rfl rfl ?_
        refine AtL.extract (.inl rfl) rfl rfl rfl ?_
        refine AtL.assign (.inl rfl) rfl rfl ?_
        refine AtL.assign (.inl rfl) rfl rfl ?_
        refine AtL.done ?_
        refine At.seq ?_
        refine At.block ?_
        refine At.seq ?_
        refine At.region ?_
        refine AtL.move (.inl rfl) rfl rfl ?_
        refine AtL.nei (.inl rfl) rfl rfl rfl ?_
        refine AtL.assign (.inl rfl) rfl rfl ?_
        refine AtL.done ?_
        refine At.cond rfl ?_ ?_
        · intro hc3
          have hc3 : ¬ (((postF fs body).2 : Int) = 200) := of_decide_eq_false (bnot_true hc3)
          refine At.seq ?_
          refine At.region ?_
          refine AtL.move (.inl rfl) rfl rfl ?_
          refine AtL.assign (.inl rfl) rfl rfl ?_
          refine AtL.assign (.inl rfl) rfl rfl ?_
          refine AtL.done ?_
          have hr : (askF [80, 79, 83, 84] t fs body) = ([], (postF fs body).2) := by rw [askF, if_neg (show ¬ ¬ (Lib.cut t [63]).1 = DNSQ from fun h => h hc1), if_neg (show ¬ ([80, 79, 83, 84] : List UInt8) = GETM by decide), if_pos (show ([80, 79, 83, 84] : List UInt8) = POSTM from rfl), thenF, if_neg hc3]
          refine At.nil ?_
          refine At.pick (H' := [] :: H) [0] 4 rfl rfl ?_
          exact At.ret Tryz.func36 rfl rfl (⟨Sl.nil, by rw [hr]; rfl, by rw [hr]; rfl, rfl⟩)
        · intro hc3
          have hc3 : ((postF fs body).2 : Int) = 200 := of_decide_eq_true (bnot_false hc3)
          refine At.seq ?_
          refine At.region ?_
          refine AtL.move (.inl rfl) rfl rfl ?_
          refine AtL.lenL Tryz.underlying22 (.inl rfl) rfl rfl ?_
          refine AtL.lss (.inl rfl) rfl rfl rfl ?_
          refine AtL.assign (.inl rfl) rfl rfl ?_
          refine AtL.done ?_
          refine At.cond rfl ?_ ?_
          · intro hc4
            have hc4 : (((postF fs body).1).length : Int) < 12 := of_decide_eq_true hc4
            refine At.seq ?_
            refine At.region ?_
            refine AtL.assign (.inl rfl) rfl rfl ?_
            refine AtL.assign (.inl rfl) rfl rfl ?_
            refine AtL.done ?_
            have hr : (askF [80, 79, 83, 84] t fs body) = ([], 400) := by rw [askF, if_neg (show ¬ ¬ (Lib.cut t [63]).1 = DNSQ from fun h => h hc1), if_neg (show ¬ ([80, 79, 83, 84] : List UInt8) = GETM by decide), if_pos (show ([80, 79, 83, 84] : List UInt8) = POSTM from rfl), thenF, if_pos hc3, sizesF, if_pos (by omega)]
            refine At.nil ?_
            refine At.pick (H' := [] :: H) [0] 4 rfl rfl ?_
            exact At.ret Tryz.func36 rfl rfl (⟨Sl.nil, by rw [hr]; rfl, by rw [hr]; rfl, rfl⟩)
          · intro hc4
            have hc4 : ¬ ((((postF fs body).1).length : Int) < 12) := of_decide_eq_false hc4
            refine At.seq ?_
            refine At.region ?_
            refine AtL.move (.inl rfl) rfl rfl ?_
            refine AtL.lenL Tryz.underlying22 (.inl rfl) rfl rfl ?_
            refine AtL.gtr (.inl rfl) rfl rfl rfl ?_
            refine AtL.assign (.inl rfl) rfl rfl ?_
            refine AtL.done ?_
            refine At.cond rfl ?_ ?_
            · intro hc5
              have hc5 : 65535 < (((postF fs body).1).length : Int) := of_decide_eq_true hc5
              refine At.seq ?_
              refine At.region ?_
              refine AtL.assign (.inl rfl) rfl rfl ?_
              refine AtL.assign (.inl rfl) rfl rfl ?_
              refine AtL.done ?_
              have hr : (askF [80, 79, 83, 84] t fs body) = ([], 413) := by rw [askF, if_neg (show ¬ ¬ (Lib.cut t [63]).1 = DNSQ from fun h => h hc1), if_neg (show ¬ ([80, 79, 83, 84] : List UInt8) = GETM by decide), if_pos (show ([80, 79, 83, 84] : List UInt8) = POSTM from rfl), thenF, if_pos hc3, sizesF, if_neg (by omega), if_pos (by omega)]
              refine At.nil ?_
              refine At.pick (H' := [] :: H) [0] 4 rfl rfl ?_
              exact At.ret Tryz.func36 rfl rfl (⟨Sl.nil, by rw [hr]; rfl, by rw [hr]; rfl, rfl⟩)
            · intro hc5
              have hc5 : ¬ (65535 < (((postF fs body).1).length : Int)) := of_decide_eq_false hc5
              refine At.skip ?_
              refine At.inBlock ?_
              refine At.seq ?_
              refine At.region ?_
              refine AtL.move (.inl rfl) rfl rfl ?_
              refine AtL.assign (.inl rfl) rfl rfl ?_
              refine AtL.assign (.inl rfl) rfl rfl ?_
              refine AtL.done ?_
              have hr : (askF [80, 79, 83, 84] t fs body) = ((postF fs body).1, 200) := by rw [askF, if_neg (show ¬ ¬ (Lib.cut t [63]).1 = DNSQ from fun h => h hc1), if_neg (show ¬ ([80, 79, 83, 84] : List UInt8) = GETM by decide), if_pos (show ([80, 79, 83, 84] : List UInt8) = POSTM from rfl), thenF, if_pos hc3, sizesF, if_neg (by omega), if_neg (by omega)]
              refine At.pick (H' := s13 :: H) [0] 3 rfl rfl ?_
              exact At.ret Tryz.func36 rfl rfl (⟨⟨A10, C11, ((postF fs body).1), s13, o14⟩, by rw [hr], by rw [hr]; rfl, rfl⟩)
      · skip
        refine At.region ?_
        refine AtL.makeMap kyS fnV (.inl rfl) rfl ?_
        intro b16
        refine AtL.insert (Q := kyS) (tv := fnV) (a := [71, 69, 84]) (v := 54) (H' := [(b16, mapO kyS fnV ([([71, 69, 84], 54)]))] :: [(b1, .cells #[str m, str t, .int .i64 minor, .slice A fs.length C] 47 (0, 0))] :: H) 0 0 Tryz.underlying99 Tryz.underlying9 rfl (.inl rfl) rfl rfl (by first | decide | rfl) rfl rfl rfl rfl ?_
        refine AtL.insert (Q := kyS) (tv := fnV) (a := [80, 79, 83, 84]) (v := 55) (H' := [(b16, mapO kyS fnV ([([71, 69, 84], 54), ([80, 79, 83, 84], 55)]))] :: [(b1, .cells #[str m, str t, .int .i64 minor, .slice A fs.length C] 47 (0, 0))] :: H) 0 0 Tryz.underlying99 Tryz.underlying9 rfl (.inl rfl) rfl rfl (by first | decide | rfl) rfl rfl rfl rfl ?_
        refine AtL.move (.inl rfl) rfl rfl ?_
        refine AtL.fieldAddrB tf_fo47_0 (.inl rfl) rfl rfl rfl ?_
        refine AtL.load tf_flat9 (.inl rfl) rfl rfl (Cell.own 1 0 rfl rfl rfl) ?_
        refine AtL.lookup (Q := kyS) (tv := fnV) (a := m) (v := .tuple #[.nilFunc, .bool false]) 0 0 Tryz.underlying99 Tryz.underlying9 rfl tf_zero70 (.inl rfl) rfl rfl rfl rfl rfl (ask_m hm1 hm2) ?_
        refine AtL.move (.inl rfl) rfl rfl ?_
        refine AtL.extract (.inl rfl) rfl rfl rfl ?_
        refine AtL.extract (.inl rfl) rfl rfl rfl ?_
        refine AtL.assign (.inl rfl) rfl rfl ?_
        refine AtL.assign (.inl rfl) rfl rfl ?_
        refine AtL.done ?_
        refine At.seq ?_
        refine At.seq ?_
        refine At.region ?_
        refine AtL.move (.inl rfl) rfl rfl ?_
        refine AtL.not (.inl rfl) rfl rfl ?_
        refine AtL.done ?_
        refine At.condT rfl ?_
        refine At.seq ?_
        refine At.region ?_
        refine AtL.assign (.inl rfl) rfl rfl ?_
        refine AtL.assign (.inl rfl) rfl rfl ?_
        refine AtL.done ?_
        have hr : (askF m t fs body) = ([], 405) := by rw [askF, if_neg (show ¬ ¬ (Lib.cut t [63]).1 = DNSQ from fun h => h hc1), if_neg hm1, if_neg hm2]
        refine At.nil ?_
        refine At.pick (H' := [] :: H) [0] 3 rfl rfl ?_
        exact At.ret Tryz.func36 rfl rfl (⟨Sl.nil, by rw [hr]; rfl, by rw [hr]; rfl, rfl⟩)
end Go.Proofs.YtlkdmbpbjhjkfaaGreatDoor
namespace Go.Proofs.YtlkdmbpbjhjkfaaGreatDoor
set_option linter.unusedVariables false
set_option linter.unusedSimpArgs false
set_option maxRecDepth 100000
theorem ask_404 {m t body : List UInt8} {fs : List Fld} (h : ¬ (Lib.cut t [63]).1 = DNSQ) : askF m t fs body = ([], 404) := by rw [askF, if_pos h]
theorem ask_get {m t body : List UInt8} {fs : List Fld} (h : (Lib.cut t [63]).1 = DNSQ) (hm : m = GETM) : askF m t fs body = thenF (getF t) := by rw [askF, if_neg (fun h2 => h2 h), if_pos hm]
theorem get_none {t : List UInt8} (h : partF (Lib.cut t [63]).2.1 = none) : getF t = ([], 400) := by rw [getF, h]
theorem get_good {t s b : List UInt8} (h : partF (Lib.cut t [63]).2.1 = some s) (h2 : decB s = some b) : getF t = (b, 200) := by rw [getF, h]; dsimp only; rw [h2]
theorem then_ok {b : List UInt8} (h : ¬ b.length < 12) (h2 : ¬ 65535 < b.length) : thenF (b, 200) = (b, 200) := by rw [thenF, if_pos rfl, sizesF, if_neg h, if_neg h2]
end Go.Proofs.YtlkdmbpbjhjkfaaGreatDoor
namespace Go.Proofs.YtlkdmbpbjhjkfaaGreatDoor
set_option linter.unusedVariables false
set_option linter.unusedSimpArgs false
set_option maxRecDepth 100000
set_option maxHeartbeats 400000 in
theorem get16_ok {w0 : World} {base : Nat} {H : List Seg} {m t : List UInt8} :
    SCalls Tryz.prog 37 [str m, str t] w0 base (H) (fun v H' => ∃ x : Sl tyField 78, x.l = [(([72, 111, 115, 116] : List UInt8), ([120] : List UInt8))] ∧ v = .agg #[str m, str t, int 1, .slice x.A x.l.length x.C] ∧ H' = x.s :: H) := by
  refine SCalls.of_walk (n := 10) Tryz.func37 rfl rfl rfl fun cs => ?_
  refine At.seq ?_
  refine At.region ?_
  refine AtL.alloc tf_zero47 (cs := #[str [], str [], .int .i64 0, .slice none 0 0]) rfl (.inl rfl) rfl ?_
  intro b1
  refine AtL.done ?_
  refine At.seq ?_
  refine At.region ?_
  refine AtL.move (.inl rfl) rfl rfl ?_
  refine AtL.move (.inl rfl) rfl rfl ?_
  refine AtL.build (cs := [str [72, 111, 115, 116], str [120]]) tf_lay78 (.inl rfl) rfl rfl rfl ?_
  refine AtL.buildSlice (cs := [str [72, 111, 115, 116], str [120]]) Tryz.underlying45 tf_zero78 tf_sz78 rfl rfl (.inl rfl) rfl rfl rfl ?_
  intro b2
  refine AtL.own1 tyField (l := ([(([72, 111, 115, 116] : List UInt8), ([120] : List UInt8))] : List (List UInt8 × List UInt8))) rfl rfl (by first | decide | simp) ?_
  intro s3 o4
  refine AtL.build (cs := [str m, str t, .int .i64 1, .slice (some ⟨b2, 0, none⟩) ([(([72, 111, 115, 116] : List UInt8), ([120] : List UInt8))]).length 1]) tf_lay47 (.inl rfl) rfl rfl rfl ?_
  refine AtL.store (H' := s3 :: [(b1, .cells #[str m, str t, .int .i64 1, .slice (some ⟨b2, 0, none⟩) ([(([72, 111, 115, 116] : List UInt8), ([120] : List UInt8))]).length 1] 47 (0, 0))] :: H) 1 0 tf_sz47 (.inl rfl) rfl rfl rfl rfl rfl rfl rfl rfl rfl ?_
  refine AtL.done ?_
  exact At.retMP (vs := [.agg #[str m, str t, .int .i64 1, .slice (some ⟨b2, 0, none⟩) ([(([72, 111, 115, 116] : List UInt8), ([120] : List UInt8))]).length 1]]) (H2 := s3 :: H) [0] 2 rfl rfl Tryz.func37 rfl ⟨⟨_, rfl, LoadsTo.agg (cs := [str m, str t, .int .i64 1, .slice (some ⟨b2, 0, none⟩) ([(([72, 111, 115, 116] : List UInt8), ([120] : List UInt8))]).length 1]) tf_agg47 rfl (cellsOwn 1 0 0 rfl rfl rfl)⟩, trivial⟩ (⟨⟨(some ⟨b2, 0, none⟩), 1, [(([72, 111, 115, 116] : List UInt8), ([120] : List UInt8))], s3, o4⟩, rfl, rfl, rfl⟩)
end Go.Proofs.YtlkdmbpbjhjkfaaGreatDoor
namespace Go.Proofs.YtlkdmbpbjhjkfaaGreatDoor
set_option linter.unusedVariables false
set_option linter.unusedSimpArgs false
set_option maxRecDepth 100000
theorem ho16 : ([(([72, 111, 115, 116] : List UInt8), ([120] : List UInt8))] : List Fld).length ≤ 1000 ∧ ∀ f ∈ ([(([72, 111, 115, 116] : List UInt8), ([120] : List UInt8))] : List Fld), f.1.length ≤ 4294967280 ∧ f.2.length ≤ 4294967280 := by decide
theorem ask_kn {w0 : World} {base : Nat} {H : List Seg} {m t : List UInt8} {minor : Int} {A Ab : Option Addr} {C Cb : Nat} {fs : List (List UInt8 × List UInt8)} {body L : List UInt8} {s : Int} (hk : askF m t fs body = (L, s)) (h : Rd tyField w0 base H A C fs) (hbody : Rd tyB w0 base H Ab Cb body) (hfl : fs.length ≤ 1000) (hb : ∀ f ∈ fs, f.1.length ≤ 4294967280 ∧ f.2.length ≤ 4294967280) (hbl : body.length ≤ 4294967280) (ht : t.length ≤ 4294967280) (T : Tabs w0 base) :
    SCalls Tryz.prog 36 [.agg #[str m, str t, int minor, .slice A fs.length C], .slice Ab body.length Cb] w0 base H (fun v H' => ∃ x : Sl tyB 5, x.l = L ∧ v = .tuple #[.slice x.A x.l.length x.C, int s] ∧ H' = x.s :: H) := by
  refine (ask_ok h hbody hfl hb hbl ht T).mono ?_
  rintro v H' ⟨x, hx, rfl, rfl⟩
  rw [hk] at hx ⊢
  exact ⟨x, hx, rfl, rfl⟩
def t16 : List UInt8 := [47, 100, 110, 115, 45, 113, 117, 101, 114, 121, 63, 120, 61, 49, 38, 100, 110, 115, 61, 65, 65, 65, 65, 65, 65, 65, 65, 65, 65, 65, 65, 65, 65, 65, 65]
theorem askT1 (fs : List Fld) : askF [71, 69, 84] t16 fs [] = ([0, 0, 0, 0, 0, 0, 0, 0, 0, 0, 0, 0], 200) := by
  have hq : Lib.cut t16 [63] = ([47, 100, 110, 115, 45, 113, 117, 101, 114, 121], [120, 61, 49, 38, 100, 110, 115, 61, 65, 65, 65, 65, 65, 65, 65, 65, 65, 65, 65, 65, 65, 65, 65, 65], true) := by decide +kernel
  have hq2 : Lib.cut [120, 61, 49, 38, 100, 110, 115, 61, 65, 65, 65, 65, 65, 65, 65, 65, 65, 65, 65, 65, 65, 65, 65, 65] [38] = ([120, 61, 49], [100, 110, 115, 61, 65, 65, 65, 65, 65, 65, 65, 65, 65, 65, 65, 65, 65, 65, 65, 65], true) := by decide +kernel
  have hq3 : Lib.cut [100, 110, 115, 61, 65, 65, 65, 65, 65, 65, 65, 65, 65, 65, 65, 65, 65, 65, 65, 65] [38] = ([100, 110, 115, 61, 65, 65, 65, 65, 65, 65, 65, 65, 65, 65, 65, 65, 65, 65, 65, 65], [], false) := by decide +kernel
  have hp : partF (Lib.cut t16 [63]).2.1 = some [65, 65, 65, 65, 65, 65, 65, 65, 65, 65, 65, 65, 65, 65, 65, 65] := by
    rw [hq]
    show partF [120, 61, 49, 38, 100, 110, 115, 61, 65, 65, 65, 65, 65, 65, 65, 65, 65, 65, 65, 65, 65, 65, 65, 65] = _
    rw [part_more (by rw [hq2]; decide) (by rw [hq2]), hq2]
    show partF [100, 110, 115, 61, 65, 65, 65, 65, 65, 65, 65, 65, 65, 65, 65, 65, 65, 65, 65, 65] = _
    rw [part_yes (by rw [hq3]; decide), hq3]; rfl
  have hd : decB [65, 65, 65, 65, 65, 65, 65, 65, 65, 65, 65, 65, 65, 65, 65, 65] = some [0, 0, 0, 0, 0, 0, 0, 0, 0, 0, 0, 0] := by decide +kernel
  refine (ask_get (m := [71, 69, 84]) (t := t16) (by rw [hq]; rfl) rfl).trans ?_
  rw [get_good hp hd]
  exact then_ok (by decide) (by decide)
theorem askT2 (fs : List Fld) : askF [71, 69, 84] [47, 97] fs [] = ([], 404) := ask_404 (by decide +kernel)
set_option maxHeartbeats 400000 in
theorem awake16_ok {w0 : World} {base : Nat} {H : List Seg} (T : Tabs w0 base) :
    SCalls Tryz.prog 12 [] w0 base (H) (fun v H' => v = .bool true ∧ H' = H) := by
  refine SCalls.of_walk (n := 40) Tryz.func12 rfl rfl rfl fun cs => ?_
  refine At.seq ?_
  refine At.region ?_
  refine AtL.assign (.inl rfl) rfl rfl ?_
  refine AtL.done ?_
  refine At.seq ?_
  refine At.region ?_
  refine AtL.call tf_body37 (.inl rfl) rfl rfl (get16_ok (m := [71, 69, 84]) (t := t16)) ?_
  rintro _ _ ⟨⟨A1, C2, l3, s4, o5⟩, hx6, rfl, rfl⟩
  obtain rfl : [(([72, 111, 115, 116] : List UInt8), ([120] : List UInt8))] = l3 := hx6.symm
  refine AtL.call tf_body36 (.inl rfl) rfl rfl (ask_kn (Ab := none) (Cb := 0) (body := []) (m := [71, 69, 84]) (t := t16) (askT1 ([(([72, 111, 115, 116] : List UInt8), ([120] : List UInt8))])) (o5.rd (i := 0) rfl) Rd.nil_ ho16.1 ho16.2 (by decide) (by decide) T) ?_
  rintro _ _ ⟨⟨A7, C8, l9, s10, o11⟩, hx12, rfl, rfl⟩
  obtain rfl : ([0, 0, 0, 0, 0, 0, 0, 0, 0, 0, 0, 0] : List UInt8) = l9 := hx12.symm
  refine AtL.move (.inl rfl) rfl rfl ?_
  refine AtL.extract (.inl rfl) rfl rfl rfl ?_
  refine AtL.extract (.inl rfl) rfl rfl rfl ?_
  refine AtL.assign (.inl rfl) rfl rfl ?_
  refine AtL.assign (.inl rfl) rfl rfl ?_
  refine AtL.done ?_
  refine At.seq ?_
  refine At.region ?_
  refine AtL.call tf_body35 (.inl rfl) rfl rfl ((path_ok (t := [47, 97, 63, 98, 61, 99]) (by decide) T).mono (fun v H' h => by rw [show Lib.cut [47, 97, 63, 98, 61, 99] [63] = ([47, 97], [98, 61, 99], true) by decide +kernel] at h; exact h)) ?_
  rintro _ _ ⟨rfl, rfl⟩
  refine AtL.move (.inl rfl) rfl rfl ?_
  refine AtL.extract (.inl rfl) rfl rfl rfl ?_
  refine AtL.extract (.inl rfl) rfl rfl rfl ?_
  refine AtL.assign (.inl rfl) rfl rfl ?_
  refine AtL.assign (.inl rfl) rfl rfl ?_
  refine AtL.done ?_
  refine At.seq ?_
  refine At.region ?_
  refine AtL.call tf_body37 (.inl rfl) rfl rfl (get16_ok (m := [71, 69, 84]) (t := [47, 97])) ?_
  rintro _ _ ⟨⟨A13, C14, l15, s16, o17⟩, hx18, rfl, rfl⟩
  obtain rfl : [(([72, 111, 115, 116] : List UInt8), ([120] : List UInt8))] = l15 := hx18.symm
  refine AtL.call tf_body36 (.inl rfl) rfl rfl (ask_kn (Ab := none) (Cb := 0) (body := []) (m := [71, 69, 84]) (t := [47, 97]) (askT2 ([(([72, 111, 115, 116] : List UInt8), ([120] : List UInt8))])) (o17.rd (i := 0) rfl) Rd.nil_ ho16.1 ho16.2 (by decide) (by decide) T) ?_
  rintro _ _ ⟨⟨A19, C20, l21, s22, o23⟩, hx24, rfl, rfl⟩
  obtain rfl : ([] : List UInt8) = l21 := hx24.symm
  refine AtL.move (.inl rfl) rfl rfl ?_
  refine AtL.extract (.inl rfl) rfl rfl rfl ?_
  refine AtL.extract (.inl rfl) rfl rfl rfl ?_
  refine AtL.assign (.inl rfl) rfl rfl ?_
  refine AtL.assign (.inl rfl) rfl rfl ?_
  refine AtL.done ?_
  refine At.seq ?_
  refine At.region ?_
  refine AtL.move (.inl rfl) rfl rfl ?_
  refine AtL.eqi (.inl rfl) rfl rfl rfl ?_
  refine AtL.move (.inl rfl) rfl rfl ?_
  refine AtL.move (.inr ⟨_, _, _, rfl, rfl, rfl, rfl⟩) rfl rfl ?_
  refine AtL.makeSlice (n := 12) (c := 12) tf_el22 (by decide) (.inr ⟨_, _, _, rfl, rfl, rfl, rfl⟩) rfl rfl rfl (by omega) (by omega) ?_
  intro A25 s26 o27 q28
  refine AtL.call tf_body18 (.inr ⟨_, _, _, rfl, rfl, rfl, rfl⟩) rfl rfl (same_ok (l := ([0, 0, 0, 0, 0, 0, 0, 0, 0, 0, 0, 0] : List UInt8)) (l2 := List.replicate 12 (0 : UInt8)) (o11.rd (i := 3) rfl) (o27.rd (i := 0) rfl)) ?_
  rintro _ _ ⟨rfl, rfl⟩
  refine AtL.pickT (.inl rfl) rfl rfl rfl ?_
  refine AtL.move (.inl rfl) rfl rfl ?_
  refine AtL.join 3 (E' := [(31, .bool (decide (([47, 97] : List UInt8) = [47, 97]))), (4, str [98, 61, 99]), (6, .int .i64 404)]) (H' := s26 :: s22 :: s16 :: s10 :: s4 :: H) (fun J => ?_) ?_
  · refine AtL.split (t := 28) rfl ?_ ?_
    · intro hs28
      have hs28 : ([0, 0, 0, 0, 0, 0, 0, 0, 0, 0, 0, 0] : List UInt8) = List.replicate 12 (0 : UInt8) := of_decide_eq_true hs28
      refine AtL.move (.inr ⟨_, _, _, rfl, rfl, rfl, rfl⟩) rfl rfl ?_
      refine AtL.eqs (a := [47, 97]) (b := [47, 97]) (.inr ⟨_, _, _, rfl, rfl, rfl, rfl⟩) rfl rfl rfl ?_
      refine AtL.pickT (.inl rfl) rfl rfl rfl ?_
      exact J _ (by exact ⟨(boolIs (by clear J; first | (simp [hs28]; done) | (simp_all; done) | grind)), rfl, rfl, trivial⟩)
    · intro hs28
      have hs28 : ¬ (([0, 0, 0, 0, 0, 0, 0, 0, 0, 0, 0, 0] : List UInt8) = List.replicate 12 (0 : UInt8)) := of_decide_eq_false hs28
      exfalso; revert hs28; simp
  · skip
    refine AtL.move (.inl rfl) rfl rfl ?_
    refine AtL.join 3 (E' := [(35, .bool (decide (([98, 61, 99] : List UInt8) = [98, 61, 99]))), (6, .int .i64 404)]) (H' := s26 :: s22 :: s16 :: s10 :: s4 :: H) (fun J => ?_) ?_
    · refine AtL.split (t := 32) rfl ?_ ?_
      · intro hs32
        have hs32 : ([47, 97] : List UInt8) = [47, 97] := of_decide_eq_true hs32
        refine AtL.move (.inr ⟨_, _, _, rfl, rfl, rfl, rfl⟩) rfl rfl ?_
        refine AtL.eqs (a := [98, 61, 99]) (b := [98, 61, 99]) (.inr ⟨_, _, _, rfl, rfl, rfl, rfl⟩) rfl rfl rfl ?_
        refine AtL.pickT (.inl rfl) rfl rfl rfl ?_
        exact J _ (by exact ⟨(boolIs (by clear J; first | (simp [hs32]; done) | (simp_all; done) | grind)), rfl, trivial⟩)
      · intro hs32
        exact Bool.noConfusion (hs32.symm.trans (decide_eq_true rfl))
    · skip
      refine AtL.move (.inl rfl) rfl rfl ?_
      refine AtL.join 3 (E' := [(39, .bool true)]) (H' := s26 :: s22 :: s16 :: s10 :: s4 :: H) (fun J => ?_) ?_
      · refine AtL.split (t := 36) rfl ?_ ?_
        · intro hs36
          have hs36 : ([98, 61, 99] : List UInt8) = [98, 61, 99] := of_decide_eq_true hs36
          refine AtL.move (.inr ⟨_, _, _, rfl, rfl, rfl, rfl⟩) rfl rfl ?_
          refine AtL.eqi (.inr ⟨_, _, _, rfl, rfl, rfl, rfl⟩) rfl rfl rfl ?_
          refine AtL.pickT (.inl rfl) rfl rfl rfl ?_
          exact J _ (by exact ⟨rfl, trivial⟩)
        · intro hs36
          exact Bool.noConfusion (hs36.symm.trans (decide_eq_true rfl))
      · skip
        refine AtL.assign (.inl rfl) rfl rfl ?_
        refine AtL.done ?_
        refine At.pick (H' := H) [] 5 rfl rfl ?_
        exact At.ret Tryz.func12 rfl rfl (⟨rfl, rfl⟩)
end Go.Proofs.YtlkdmbpbjhjkfaaGreatDoor
namespace Go.Proofs.YtlkdmbpbjhjkfaaGreatDoor
set_option linter.unusedVariables false
set_option linter.unusedSimpArgs false
set_option maxRecDepth 100000
theorem decF_cl (n : Nat) : (decF n).any crlf = false := by
  induction n using Nat.strongRecOn with
  | _ n ih =>
    have key : ∀ k : Fin 10, crlf (UInt8.ofNat (48 + k.val)) = false := by decide
    rw [decF]
    split
    · rename_i h; simpa using key ⟨n, h⟩
    · rw [List.any_append, ih (n / 10) (by omega)]
      simpa using key ⟨n % 10, by omega⟩
theorem reason_cl (s : Int) : (reasonF s).any crlf = false := by
  have key : ∀ l : List (Int × List UInt8), (∀ p ∈ l, p.2.any crlf = false) → ((atK s l).getD []).any crlf = false := by
    intro l
    induction l with
    | nil => intro _; rfl
    | cons p r ih =>
      intro h
      rw [atK]
      split
      · exact h p (by simp)
      · exact ih fun q hq => h q (by simp [hq])
  exact key REASONS (by decide)
def atoiV (s : List UInt8) : Int := match Lib.atoiAll s with | .ok v => v | .range => Lib.atoiSat s | _ => 0
def atoiK (s : List UInt8) : Bool := match Lib.atoiAll s with | .ok _ => true | _ => false
theorem atoi_dec (n : Nat) (h : n ≤ 1073741824) : atoiV (decF n) = (n : Int) ∧ atoiK (decF n) = true := by
  have h1 := size_atoi (size_dec n h)
  have h2 := decF_len n h
  have h3 : Lib.atoiAll (decF n) = .ok (n : Int) := by rw [Lib.atoiAll_short _ (by omega), h1]; rfl
  simp [atoiV, atoiK, h3]
theorem index_skip {c : UInt8} {l : List UInt8} (sub rest : List UInt8) (h : l.any (fun x => x == c) = false) : Lib.index (l ++ rest) (c :: sub) = if Lib.index rest (c :: sub) = -1 then -1 else Lib.index rest (c :: sub) + (l.length : Int) := by
  have hg := Lib.index_ge rest (c :: sub)
  induction l with
  | nil => simp only [List.nil_append, List.length_nil]; split <;> omega
  | cons a l ih =>
    have h1 : ¬ a = c := by simp at h; exact h.1
    have h2 : l.any (fun x => x == c) = false := by simp at h; simpa using h.2
    have hp : List.isPrefixOf (c :: sub) (a :: (l ++ rest)) = false := by
      simp only [List.isPrefixOf, Bool.and_eq_false_iff, beq_eq_false_iff_ne]; exact .inl fun e => h1 e.symm
    rw [List.cons_append, Lib.index, hp, ih h2]
    by_cases h3 : Lib.index rest (c :: sub) = -1
    · simp [h3]
    · have h4 : ¬ (Lib.index rest (c :: sub) + (l.length : Int) == -1) = true := by simp only [beq_iff_eq]; omega
      simp only [if_neg h3, if_neg h4, Bool.false_eq_true, if_false, List.length_cons]; omega
theorem index_hit {c : UInt8} {l : List UInt8} (sub rest : List UInt8) (h : l.any (fun x => x == c) = false) : Lib.index (l ++ c :: (sub ++ rest)) (c :: sub) = (l.length : Int) := by
  have e : Lib.index (c :: (sub ++ rest)) (c :: sub) = 0 := by
    rw [Lib.index, if_pos]
    rw [List.isPrefixOf_iff_prefix]; exact ⟨rest, by simp⟩
  rw [index_skip sub _ h, e]; simp
theorem index_no {c : UInt8} {l : List UInt8} (sub : List UInt8) (h : l.any (fun x => x == c) = false) : Lib.index l (c :: sub) = -1 := by
  have := index_skip sub [] h
  rw [List.append_nil] at this
  rw [this]; simp [Lib.index]
theorem cl_13 {l : List UInt8} (h : l.any crlf = false) : l.any (fun x => x == 13) = false := by
  rw [List.any_eq_false] at h ⊢
  intro x hx h2
  apply h x hx
  rw [eq_of_beq h2]; rfl
theorem cut_hit {c : UInt8} {n v sub : List UInt8} (h : n.any (fun x => x == c) = false) : Lib.cut (n ++ c :: (sub ++ v)) (c :: sub) = (n, v, true) := by
  unfold Lib.cut
  rw [index_hit sub v h, if_pos (by omega)]
  simp
def joinE : List (List UInt8) → List UInt8
  | [] => []
  | l :: ls => l ++ 13 :: 10 :: joinE ls
def joinI : List UInt8 → List (List UInt8) → List UInt8
  | l, [] => l
  | l, m :: ls => l ++ 13 :: 10 :: joinI m ls
theorem joinE_I (l : List UInt8) (ls : List (List UInt8)) : joinE (l :: ls) = joinI l ls ++ [13, 10] := by
  induction ls generalizing l with
  | nil => rfl
  | cons m ls ih => rw [joinE, ih m, joinI]; simp
theorem joinE_app (a b : List (List UInt8)) : joinE (a ++ b) = joinE a ++ joinE b := by
  induction a with
  | nil => rfl
  | cons l a ih => rw [List.cons_append, joinE, joinE, ih]; simp
theorem joinI_head (a : UInt8) (l : List UInt8) (ls : List (List UInt8)) : ∃ r, joinI (a :: l) ls = a :: r := by
  cases ls with
  | nil => exact ⟨_, rfl⟩
  | cons m ls => exact ⟨_, rfl⟩
theorem index_end (l : List UInt8) (ls : List (List UInt8)) (t : List UInt8) (h : ∀ x ∈ l :: ls, x ≠ [] ∧ x.any crlf = false) : Lib.index (joinI l ls ++ ([13, 10, 13, 10] ++ t)) [13, 10, 13, 10] = ((joinI l ls).length : Int) := by
  induction ls generalizing l with
  | nil => exact index_hit [10, 13, 10] t (cl_13 (h l (by simp)).2)
  | cons m ls ih =>
    have hm := h m (by simp)
    have hi := ih m fun x hx => h x (by simp only [List.mem_cons] at hx ⊢; exact .inr hx)
    cases m with
    | nil => exact absurd rfl hm.1
    | cons a m =>
      have ha : ¬ a = 13 := by have := hm.2; simp [crlf] at this; exact this.1.1
      obtain ⟨r, hr⟩ := joinI_head a m ls
      rw [hr, List.cons_append] at hi
      rw [joinI, List.append_assoc, index_skip _ _ (cl_13 (h l (by simp)).2), List.cons_append, List.cons_append, hr, List.cons_append]
      have p1 : List.isPrefixOf [13, 10, 13, 10] (13 :: 10 :: a :: (r ++ ([13, 10, 13, 10] ++ t))) = false := by
        simp [List.isPrefixOf]; intro e; exact absurd e.symm ha
      have p2 : List.isPrefixOf [13, 10, 13, 10] (10 :: a :: (r ++ ([13, 10, 13, 10] ++ t))) = false := by
        simp [List.isPrefixOf]
      have e2 : Lib.index (10 :: a :: (r ++ ([13, 10, 13, 10] ++ t))) [13, 10, 13, 10] = ((a :: r).length : Int) + 1 := by
        rw [Lib.index, p2, hi, if_neg (by simp), if_neg (by simp only [beq_iff_eq]; omega)]
      have e1 : Lib.index (13 :: 10 :: a :: (r ++ ([13, 10, 13, 10] ++ t))) [13, 10, 13, 10] = ((a :: r).length : Int) + 1 + 1 := by
        rw [Lib.index, p1, e2, if_neg (by simp), if_neg (by simp only [beq_iff_eq]; omega)]
      rw [e1, if_neg (by omega)]
      simp only [List.length_append, List.length_cons]; omega
theorem splitK_join (l : List UInt8) (ls : List (List UInt8)) (h : ∀ x ∈ l :: ls, x.any crlf = false) : Lib.splitK [13, 10] 0 ls.length (joinI l ls) = l :: ls := by
  induction ls generalizing l with
  | nil => rfl
  | cons m ls ih =>
    have hi : Lib.index (joinI l (m :: ls)) [13, 10] = (l.length : Int) := index_hit [10] (joinI m ls) (cl_13 (h l (by simp)))
    rw [List.length_cons, Lib.splitK, hi, if_neg (by simp only [beq_iff_eq]; omega)]
    have e1 : (joinI l (m :: ls)).take (((l.length : Int)).toNat + 0) = l := by rw [joinI]; simp
    have e2 : (joinI l (m :: ls)).drop (((l.length : Int)).toNat + ([13, 10] : List UInt8).length) = joinI m ls := by rw [joinI]; simp
    rw [e1, e2, ih m fun x hx => h x (by simp only [List.mem_cons] at hx ⊢; exact .inr hx)]
theorem count_join (n : Nat) (l : List UInt8) (ls : List (List UInt8)) (h : ∀ x ∈ l :: ls, x.any crlf = false) (hn : (joinI l ls).length < n) : Lib.countFrom [13, 10] n (joinI l ls) = ls.length := by
  induction ls generalizing l n with
  | nil =>
    cases n with
    | zero => omega
    | succ n => rw [joinI, Lib.countFrom, index_no _ (cl_13 (h l (by simp)))]; rfl
  | cons m ls ih =>
    cases n with
    | zero => omega
    | succ n =>
      have hi : Lib.index (joinI l (m :: ls)) [13, 10] = (l.length : Int) := index_hit [10] (joinI m ls) (cl_13 (h l (by simp)))
      have e2 : (joinI l (m :: ls)).drop (((l.length : Int)).toNat + ([13, 10] : List UInt8).length) = joinI m ls := by rw [joinI]; simp
      rw [Lib.countFrom, hi, if_neg (by simp only [beq_iff_eq]; omega), e2, ih n m (fun x hx => h x (by simp only [List.mem_cons] at hx ⊢; exact .inr hx)) (by rw [joinI] at hn; simp only [List.length_append, List.length_cons] at hn; omega)]
      simp only [List.length_cons]; omega
theorem split_join (l : List UInt8) (ls : List (List UInt8)) (h : ∀ x ∈ l :: ls, x.any crlf = false) : Lib.split (joinI l ls) [13, 10] = l :: ls := by
  rw [Lib.split, Lib.count, count_join _ l ls h (by omega), splitK_join l ls h]
def CNM : List UInt8 := [67, 111, 110, 110, 101, 99, 116, 105, 111, 110]
def stL (st : Int) : List UInt8 := H11 ++ (decF st.toNat ++ ([32] ++ reasonF st))
def fldL (f : Fld) : List UInt8 := f.1 ++ ([58, 32] ++ f.2)
def lenL (n : Nat) : List UInt8 := CLN ++ decF n
def tailL (keep : Bool) : List (List UInt8) := if keep then [] else [CCL]
def restL (r : RespV) : List (List UInt8) := r.fs.map fldL ++ (lenL r.body.length :: tailL r.keep)
theorem fields_join (fs : List Fld) : joinE (fs.map fldL) = fieldsR fs := by
  induction fs with
  | nil => rfl
  | cons f fs ih => rw [List.map_cons, joinE, ih]; simp [fieldsR, fldL]
theorem headR_join (r : RespV) : headR r = joinE (stL r.st :: restL r) ++ [13, 10] := by
  rw [joinE, restL, joinE_app, fields_join, joinE]
  cases hk : r.keep <;> simp [headR, stB, stL, lenB, lenL, endB, tailL, joinE, hk]
theorem respB_join (r : RespV) (t : List UInt8) : respB r ++ t = joinI (stL r.st) (restL r) ++ ([13, 10, 13, 10] ++ (r.body ++ t)) := by
  rw [respB, headR_join, joinE_I]; simp
theorem okR_of {r : RespV} (h : okR r = true) : reasonF r.st ≠ [] ∧ 200 ≤ r.st ∧ r.st ≤ 505 ∧ r.body.length ≤ 65535 ∧ r.fs.all fldR = true := by
  simp only [okR, Bool.and_eq_true, decide_eq_true_eq] at h
  obtain ⟨⟨⟨⟨h1, h2⟩, h3⟩, h4⟩, h5⟩ := h
  have := reason_200 h1
  exact ⟨h1, this.1, this.2, h3, h4⟩
theorem fldR_of {f : Fld} (h : fldR f = true) : f.1 ≠ [] ∧ f.1.any crlf = false ∧ f.1.any (fun x => x == 58) = false ∧ f.2.any crlf = false ∧ f.1 ≠ CL1 ∧ f.1 ≠ CNM := by
  simp only [fldR, fieldOk, Bool.and_eq_true] at h
  obtain ⟨⟨hw, hv⟩, ho⟩ := h
  obtain ⟨w1, w2, w3, w4⟩ := word_cl hw
  have ho2 : ownF f = false := by simpa using ho
  have hn := of_decide_eq_false ho2
  refine ⟨w1, w2, w4, (value_cl hv).1, fun e => hn (.inl ?_), fun e => hn (.inr (.inl ?_))⟩
  · rw [e]; decide +kernel
  · rw [e]; decide +kernel
theorem fldL_ok {f : Fld} (h : fldR f = true) : fldL f ≠ [] ∧ (fldL f).any crlf = false := by
  obtain ⟨h1, h2, _, h4, _⟩ := fldR_of h
  refine ⟨by simp [fldL], ?_⟩
  rw [fldL, List.any_append, List.any_append, h2, h4]; decide
theorem stL_ok (st : Int) : stL st ≠ [] ∧ (stL st).any crlf = false := by
  refine ⟨by simp [stL, H11], ?_⟩
  rw [stL, List.any_append, List.any_append, List.any_append, decF_cl, reason_cl]; decide
theorem lenL_ok (n : Nat) : lenL n ≠ [] ∧ (lenL n).any crlf = false := by
  refine ⟨by simp [lenL, CLN], ?_⟩
  rw [lenL, List.any_append, decF_cl]; decide
theorem tailL_ok {k : Bool} {x : List UInt8} (h : x ∈ tailL k) : x = CCL := by
  cases k <;> simp [tailL] at h; exact h
theorem rest_ok {r : RespV} (h : okR r = true) : ∀ x ∈ stL r.st :: restL r, x ≠ [] ∧ x.any crlf = false := by
  obtain ⟨_, _, _, _, h4⟩ := okR_of h
  intro x hx
  simp only [restL, List.mem_cons, List.mem_append, List.mem_map] at hx
  rcases hx with rfl | ⟨f, hf, rfl⟩ | rfl | hx
  · exact stL_ok _
  · exact fldL_ok (List.all_eq_true.1 h4 f hf)
  · exact lenL_ok _
  · rw [tailL_ok hx]; decide
def linesP (ok : Bool) (st : Int) (body : List UInt8) : List Fld → List (List UInt8) → Option RespV
  | _, [] => none
  | fs, x :: xs =>
    if (Lib.cut x [58, 32]).1 ≠ CL1 then linesP ok st body (fs ++ [((Lib.cut x [58, 32]).1, (Lib.cut x [58, 32]).2.1)]) xs
    else if (((((Lib.cut x [58, 32]).2.2 = false ∨ ok = false) ∨ atoiK (Lib.cut x [58, 32]).2.1 = false) ∨ atoiV (Lib.cut x [58, 32]).2.1 < 0) ∨ (body.length : Int) < atoiV (Lib.cut x [58, 32]).2.1) then none
    else some ⟨st, fs, body.take (atoiV (Lib.cut x [58, 32]).2.1).toNat, decide (xs = [])⟩
def rparseF (b : List UInt8) : Option RespV :=
  if Lib.index b [13, 10, 13, 10] < 0 then none
  else if (Lib.splitN ((Lib.split (b.take (Lib.index b [13, 10, 13, 10]).toNat) [13, 10]).getD 0 []) [32] 3).length < 2 then none
  else linesP (atoiK ((Lib.splitN ((Lib.split (b.take (Lib.index b [13, 10, 13, 10]).toNat) [13, 10]).getD 0 []) [32] 3).getD 1 [])) (atoiV ((Lib.splitN ((Lib.split (b.take (Lib.index b [13, 10, 13, 10]).toNat) [13, 10]).getD 0 []) [32] 3).getD 1 []))
    (b.drop ((Lib.index b [13, 10, 13, 10]).toNat + 4)) [] ((Lib.split (b.take (Lib.index b [13, 10, 13, 10]).toNat) [13, 10]).drop 1)
theorem linesP_fields (ok : Bool) (st : Int) (body : List UInt8) (xs : List (List UInt8)) (fs acc : List Fld) (h : fs.all fldR = true) : linesP ok st body acc (fs.map fldL ++ xs) = linesP ok st body (acc ++ fs) xs := by
  induction fs generalizing acc with
  | nil => simp
  | cons f fs ih =>
    simp only [List.all_cons, Bool.and_eq_true] at h
    obtain ⟨_, _, h3, _, h5, _⟩ := fldR_of h.1
    have hc : Lib.cut (fldL f) [58, 32] = (f.1, f.2, true) := cut_hit (sub := [32]) h3
    rw [List.map_cons, List.cons_append, linesP, hc, if_pos h5, ih _ h.2]
    simp
theorem cut_len (n : Nat) : Lib.cut (lenL n) [58, 32] = (CL1, decF n, true) := by
  have h : CL1.any (fun x => x == 58) = false := by decide
  have e : lenL n = CL1 ++ 58 :: ([32] ++ decF n) := by simp [lenL, CLN, CL1]
  rw [e]; exact cut_hit (sub := [32]) h
theorem linesP_end (st : Int) (b t : List UInt8) (fs : List Fld) (keep : Bool) (h : b.length ≤ 65535) : linesP true st (b ++ t) fs (lenL b.length :: tailL keep) = some ⟨st, fs, b, keep⟩ := by
  obtain ⟨h1, h2⟩ := atoi_dec b.length (by omega)
  have e : decide (tailL keep = []) = keep := by cases keep <;> simp [tailL]
  rw [linesP, cut_len, if_neg (by simp), if_neg, h1, e]
  · simp
  · simp only [h1, h2, List.length_append]
    intro hq
    rcases hq with (((h | h) | h) | h) | h
    · cases h
    · cases h
    · cases h
    · omega
    · omega
theorem decF_sp (n : Nat) : (decF n).any (fun x => x == 32) = false := by
  induction n using Nat.strongRecOn with
  | _ n ih =>
    have key : ∀ k : Fin 10, (UInt8.ofNat (48 + k.val) == 32) = false := by decide
    rw [decF]
    split
    · rename_i h; simpa using key ⟨n, h⟩
    · rw [List.any_append, ih (n / 10) (by omega)]
      simpa using key ⟨n % 10, by omega⟩
theorem words_st (st : Int) : (Lib.splitN (stL st) [32] 3).length = 3 ∧ (Lib.splitN (stL st) [32] 3).getD 1 [] = decF st.toNat := by
  have hl : 9 ≤ (stL st).length := by simp only [stL, H11, List.length_append, List.length_cons, List.length_nil]; omega
  have e0 : min 3 ((stL st).length + 1) - 1 = 2 := by omega
  have e1 : stL st = [72, 84, 84, 80, 47, 49, 46, 49] ++ 32 :: ([] ++ (decF st.toNat ++ 32 :: ([] ++ reasonF st))) := by simp [stL, H11]
  have i1 : Lib.index (stL st) [32] = 8 := by rw [e1]; exact index_hit [] _ (by decide)
  have d1 : (stL st).drop ((8 : Int).toNat + ([32] : List UInt8).length) = decF st.toNat ++ 32 :: ([] ++ reasonF st) := by rw [e1]; rfl
  have i2 : Lib.index (decF st.toNat ++ 32 :: ([] ++ reasonF st)) [32] = ((decF st.toNat).length : Int) := index_hit [] _ (decF_sp _)
  have t2 : (decF st.toNat ++ 32 :: ([] ++ reasonF st)).take (((decF st.toNat).length : Int).toNat + 0) = decF st.toNat := by simp
  have e : Lib.splitN (stL st) [32] 3 = [(stL st).take ((8 : Int).toNat + 0), decF st.toNat, (decF st.toNat ++ 32 :: ([] ++ reasonF st)).drop (((decF st.toNat).length : Int).toNat + ([32] : List UInt8).length)] := by
    rw [Lib.splitN, e0, Lib.splitK, i1, if_neg (by decide), d1, Lib.splitK, i2, if_neg (by simp only [beq_iff_eq]; omega), t2, Lib.splitK]
  rw [e]; exact ⟨rfl, rfl⟩
theorem rparse_back {r : RespV} (h : okR r = true) (t : List UInt8) : rparseF (respB r ++ t) = some r := by
  obtain ⟨h1, h2, h3, h4, h5⟩ := okR_of h
  have hr := rest_ok h
  have hi := index_end (stL r.st) (restL r) (r.body ++ t) hr
  have e1 : (joinI (stL r.st) (restL r) ++ ([13, 10, 13, 10] ++ (r.body ++ t))).take (((joinI (stL r.st) (restL r)).length : Int)).toNat = joinI (stL r.st) (restL r) := by simp
  have e2 : (joinI (stL r.st) (restL r) ++ ([13, 10, 13, 10] ++ (r.body ++ t))).drop ((((joinI (stL r.st) (restL r)).length : Int)).toNat + 4) = r.body ++ t := by
    rw [Int.toNat_natCast, List.drop_append]
    have : (joinI (stL r.st) (restL r)).length + 4 - (joinI (stL r.st) (restL r)).length = 4 := by omega
    rw [this, List.drop_of_length_le (by omega)]; rfl
  have e3 := split_join (stL r.st) (restL r) fun x hx => (hr x hx).2
  obtain ⟨w1, w2⟩ := words_st r.st
  obtain ⟨a1, a2⟩ := atoi_dec r.st.toNat (by omega)
  rw [respB_join, rparseF, hi, e1, e2, e3, if_neg (by omega)]
  have e4 : ((stL r.st :: restL r).getD 0 []) = stL r.st := rfl
  rw [e4, w1, w2, a1, a2, if_neg (by omega)]
  have e5 : (stL r.st :: restL r).drop 1 = r.fs.map fldL ++ (lenL r.body.length :: tailL r.keep) := rfl
  rw [e5, linesP_fields _ _ _ _ _ _ h5, List.nil_append, show ((r.st.toNat : Nat) : Int) = r.st by omega]
  exact linesP_end r.st r.body t r.fs r.keep h4
def readF (b : List UInt8) (at_ : Int) : RespV × Int × Int :=
  if at_ < 0 ∨ (b.length : Int) < at_ then (.zero, 0, 5)
  else match rparseF (b.drop at_.toNat) with
    | none => (.zero, 0, 4)
    | some r => if okR r = true ∧ respB r <+: b.drop at_.toNat then (r, at_ + ((respB r).length : Int), 0) else (.zero, 0, 4)
theorem read_range {b : List UInt8} {at_ : Int} (h : at_ < 0 ∨ (b.length : Int) < at_) : readF b at_ = (.zero, 0, 5) := by rw [readF, if_pos h]
theorem read_no {b : List UInt8} {at_ : Int} (h : ¬ (at_ < 0 ∨ (b.length : Int) < at_)) (h2 : ∀ r, okR r = true → ¬ respB r <+: b.drop at_.toNat) : readF b at_ = (.zero, 0, 4) := by
  rw [readF, if_neg h]
  split
  · rfl
  · rename_i r hr; rw [if_neg (fun h3 => h2 r h3.1 h3.2)]
theorem read_yes {b : List UInt8} {at_ : Int} {r : RespV} (h : ¬ (at_ < 0 ∨ (b.length : Int) < at_)) (h1 : okR r = true) (h2 : respB r <+: b.drop at_.toNat) : readF b at_ = (r, at_ + ((respB r).length : Int), 0) := by
  obtain ⟨t, ht⟩ := h2
  have := rparse_back h1 t
  rw [ht] at this
  rw [readF, if_neg h, this]
  dsimp only
  rw [if_pos ⟨h1, t, ht⟩]
end Go.Proofs.YtlkdmbpbjhjkfaaGreatDoor
