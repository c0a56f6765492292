import Derived.Test.YthdlaekahejdnaaGreatDoorKH
import Derived.Shelf.Small.Strs
import Derived.Shelf.Strings.Search1
import Derived.Shelf.Strings.Search2
import Derived.Shelf.Strings.Cut
import Derived.Shelf.Strings.Split
import Derived.Shelf.Strings.Trim
import Derived.Shelf.Strings.SlTrimAscii
import Derived.Shelf.Strconv.Atoi
import Derived.Shelf.Strings.Builder1
import Derived.Shelf.SlSortCmp.WholeK
import Derived.Ground.SlsfProg
import Derived.Ground.NamesProg
import Derived.Test.YthdlaekahejdnaaGreatDoorProg
set_option linter.unusedVariables false
set_option linter.unusedSimpArgs false
/-
  DERIVED: THE SHELF's CONTRACTS AT THIS DUMP, IN PLAIN WORDS (tools/lay-plain.mjs out of 'TryzLib.lean', which tools/lay-shelf.mjs wrote): THE SAME DECLARATIONS UNDER THE SAME NAMES: 'import', 'namespace', 'open', 'def', 'theorem' AND NOTHING ELSE: no command of the shelf's: FOR A HAND-IN. Each laying: the table of numbers ('.._ren') and one theorem, a field a fact of the dump's own or the kernel's comparison; each contract: ONE APPLICATION.
-/
namespace Go.Proofs
open Go.Shelf
def Tryz.lays169_ren : Go.Shelf.Ren := ⟨fun | 169 => 37 | n => n, fun | 70 => 89 | 9 => 9 | 0 => 0 | 72 => 92 | 37 => 90 | 127 => 180 | 3 => 3 | 5 => 5 | n => n, fun | n => n⟩
theorem Tryz.lays169 : Go.Proofs.Lays.n169 Tryz.prog Tryz.lays169_ren := {
  mixed := by kernel_rfl
  f169 := Tryz.func37.trans (congrArg some (by kernel_rfl))
  t0 := Tryz.underlying0
  a0 := Tryz.isAgg0
  z0 := Tryz.sizeOf0
  v0 := Tryz.zeroValue0
  t3 := Tryz.underlying3
  a3 := Tryz.isAgg3
  z3 := Tryz.sizeOf3
  v3 := Tryz.zeroValue3
  t9 := Tryz.underlying9
  a9 := Tryz.isAgg9
  z9 := Tryz.sizeOf9
  v9 := Tryz.zeroValue9
  t37 := Tryz.underlying90
  a37 := Tryz.isAgg90
  z37 := Tryz.sizeOf90
  v37 := Tryz.zeroValue90
  t70 := Tryz.underlying89
  a70 := Tryz.isAgg89
  z70 := Tryz.sizeOf89
  v70 := Tryz.zeroValue89
  t72 := Tryz.underlying92
  a72 := Tryz.isAgg92
  z72 := Tryz.sizeOf92
  v72 := Tryz.zeroValue92
  t127 := Tryz.underlying180
  a127 := Tryz.isAgg180
  z127 := Tryz.sizeOf180
  v127 := Tryz.zeroValue180 }
theorem Tryz.Builder_Extra_169 : Builder.Extra Tryz.prog Tryz.lays169_ren := {
  sizeBuilder := by kernel_rfl
  liesBuilder := by kernel_rfl
  t5 := Tryz.underlying5
  a5 := Tryz.isAgg5
  z5 := Tryz.sizeOf5
  v5 := Tryz.zeroValue5
  infoByte := by kernel_rfl
  cellsByte := by kernel_rfl
  sizeByte := by kernel_rfl
  neB5 := by decide }
def Tryz.lays160_ren : Go.Shelf.Ren := ⟨fun | 160 => 123 | 232 => 159 | 231 => 158 | 227 => 160 | 234 => 162 | 233 => 161 | 236 => 164 | 235 => 163 | 228 => 195 | 271 => 198 | 151 => 197 | 197 => 196 | 120 => 216 | 152 => 215 | 260 => 214 | 137 => 228 | 119 => 229 | 224 => 223 | 225 => 222 | 217 => 221 | 266 => 233 | n => n, fun | 9 => 9 | 4 => 4 | 3 => 3 | 5 => 5 | 117 => 258 | 116 => 257 | 0 => 0 | 124 => 261 | 21 => 21 | 105 => 283 | 46 => 199 | 119 => 306 | 139 => 309 | 138 => 308 | n => n, fun | 3 => 3 | 4 => 4 | n => n⟩
theorem Tryz.lays160 : Go.Proofs.Lays.n160 Tryz.prog Tryz.lays160_ren := {
  mixed := by kernel_rfl
  f119 := Tryz.func229.trans (congrArg some (by kernel_rfl))
  f120 := Tryz.func216.trans (congrArg some (by kernel_rfl))
  f137 := Tryz.func228.trans (congrArg some (by kernel_rfl))
  f151 := Tryz.func197.trans (congrArg some (by kernel_rfl))
  f152 := Tryz.func215.trans (congrArg some (by kernel_rfl))
  f160 := Tryz.func123.trans (congrArg some (by kernel_rfl))
  f197 := Tryz.func196.trans (congrArg some (by kernel_rfl))
  f217 := Tryz.func221.trans (congrArg some (by kernel_rfl))
  f224 := Tryz.func223.trans (congrArg some (by kernel_rfl))
  f225 := Tryz.func222.trans (congrArg some (by kernel_rfl))
  f227 := Tryz.func160.trans (congrArg some (by kernel_rfl))
  f228 := Tryz.func195.trans (congrArg some (by kernel_rfl))
  f231 := Tryz.func158.trans (congrArg some (by kernel_rfl))
  f232 := Tryz.func159.trans (congrArg some (by kernel_rfl))
  f233 := Tryz.func161.trans (congrArg some (by kernel_rfl))
  f234 := Tryz.func162.trans (congrArg some (by kernel_rfl))
  f235 := Tryz.func163.trans (congrArg some (by kernel_rfl))
  f236 := Tryz.func164.trans (congrArg some (by kernel_rfl))
  f260 := Tryz.func214.trans (congrArg some (by kernel_rfl))
  f266 := Tryz.func233.trans (congrArg some (by kernel_rfl))
  f271 := Tryz.func198.trans (congrArg some (by kernel_rfl))
  t0 := Tryz.underlying0
  a0 := Tryz.isAgg0
  z0 := Tryz.sizeOf0
  v0 := Tryz.zeroValue0
  t3 := Tryz.underlying3
  a3 := Tryz.isAgg3
  z3 := Tryz.sizeOf3
  v3 := Tryz.zeroValue3
  t4 := Tryz.underlying4
  a4 := Tryz.isAgg4
  z4 := Tryz.sizeOf4
  v4 := Tryz.zeroValue4
  t5 := Tryz.underlying5
  a5 := Tryz.isAgg5
  z5 := Tryz.sizeOf5
  v5 := Tryz.zeroValue5
  t9 := Tryz.underlying9
  a9 := Tryz.isAgg9
  z9 := Tryz.sizeOf9
  v9 := Tryz.zeroValue9
  t21 := Tryz.underlying21
  a21 := Tryz.isAgg21
  z21 := Tryz.sizeOf21
  v21 := Tryz.zeroValue21
  t46 := Tryz.underlying199
  a46 := Tryz.isAgg199
  z46 := Tryz.sizeOf199
  v46 := Tryz.zeroValue199
  t105 := Tryz.underlying283
  a105 := Tryz.isAgg283
  z105 := Tryz.sizeOf283
  v105 := Tryz.zeroValue283
  t116 := Tryz.underlying257
  a116 := Tryz.isAgg257
  z116 := Tryz.sizeOf257
  t117 := Tryz.underlying258
  a117 := Tryz.isAgg258
  z117 := Tryz.sizeOf258
  v117 := Tryz.zeroValue258
  t119 := Tryz.underlying306
  a119 := Tryz.isAgg306
  z119 := Tryz.sizeOf306
  t124 := Tryz.underlying261
  a124 := Tryz.isAgg261
  z124 := Tryz.sizeOf261
  v124 := Tryz.zeroValue261
  t138 := Tryz.underlying308
  a138 := Tryz.isAgg308
  z138 := Tryz.sizeOf308
  v138 := Tryz.zeroValue308
  t139 := Tryz.underlying309
  a139 := Tryz.isAgg309
  z139 := Tryz.sizeOf309
  v139 := Tryz.zeroValue309
  g3 := by kernel_rfl
  g4 := by kernel_rfl }
def Tryz.lays106_ren : Go.Shelf.Ren := ⟨fun | 106 => 80 | 213 => 115 | 265 => 151 | n => n, fun | 9 => 9 | 3 => 3 | n => n, fun | n => n⟩
theorem Tryz.lays106 : Go.Proofs.Lays.n106 Tryz.prog Tryz.lays106_ren := {
  mixed := by kernel_rfl
  f106 := Tryz.func80.trans (congrArg some (by kernel_rfl))
  f213 := Tryz.func115.trans (congrArg some (by kernel_rfl))
  f265 := Tryz.func151.trans (congrArg some (by kernel_rfl))
  t3 := Tryz.underlying3
  a3 := Tryz.isAgg3
  z3 := Tryz.sizeOf3
  v3 := Tryz.zeroValue3
  t9 := Tryz.underlying9
  a9 := Tryz.isAgg9
  z9 := Tryz.sizeOf9
  v9 := Tryz.zeroValue9 }
def Tryz.lays137_ren : Go.Shelf.Ren := ⟨fun | 137 => 228 | 217 => 221 | 266 => 233 | n => n, fun | 9 => 9 | 5 => 5 | 3 => 3 | n => n, fun | n => n⟩
theorem Tryz.lays137 : Go.Proofs.Lays.n137 Tryz.prog Tryz.lays137_ren := {
  mixed := by kernel_rfl
  f137 := Tryz.func228.trans (congrArg some (by kernel_rfl))
  f217 := Tryz.func221.trans (congrArg some (by kernel_rfl))
  f266 := Tryz.func233.trans (congrArg some (by kernel_rfl))
  t3 := Tryz.underlying3
  a3 := Tryz.isAgg3
  z3 := Tryz.sizeOf3
  v3 := Tryz.zeroValue3
  t5 := Tryz.underlying5
  a5 := Tryz.isAgg5
  z5 := Tryz.sizeOf5
  v5 := Tryz.zeroValue5
  t9 := Tryz.underlying9
  a9 := Tryz.isAgg9
  z9 := Tryz.sizeOf9
  v9 := Tryz.zeroValue9 }
def Tryz.lays172_ren : Go.Shelf.Ren := ⟨fun | 172 => 124 | 244 => 165 | 245 => 166 | 247 => 199 | 279 => 200 | 280 => 201 | 281 => 202 | 282 => 203 | 287 => 217 | 316 => 218 | 171 => 220 | 205 => 219 | 321 => 230 | 322 => 231 | 243 => 232 | 246 => 235 | 283 => 236 | 284 => 237 | 285 => 238 | 286 => 239 | 129 => 138 | 317 => 240 | 318 => 241 | 319 => 242 | 320 => 243 | 337 => 244 | 338 => 245 | n => n, fun | 9 => 9 | 3 => 3 | 75 => 94 | 76 => 95 | 4 => 4 | 5 => 5 | 167 => 286 | 37 => 90 | 0 => 0 | 85 => 287 | 2 => 2 | 168 => 289 | 53 => 242 | 175 => 300 | 46 => 199 | 210 => 303 | 127 => 180 | 145 => 314 | 143 => 312 | 21 => 21 | 171 => 318 | 173 => 320 | 212 => 323 | 51 => 59 | 20 => 20 | 213 => 324 | 232 => 325 | 233 => 326 | 80 => 98 | n => n, fun | 15 => 1 | 16 => 2 | 17 => 5 | 18 => 6 | 19 => 7 | n => n⟩
theorem Tryz.lays172 : Go.Proofs.Lays.n172 Tryz.prog Tryz.lays172_ren := {
  mixed := by kernel_rfl
  f129 := Tryz.func138.trans (congrArg some (by kernel_rfl))
  f171 := Tryz.func220.trans (congrArg some (by kernel_rfl))
  f172 := Tryz.func124.trans (congrArg some (by kernel_rfl))
  f205 := Tryz.func219.trans (congrArg some (by kernel_rfl))
  f243 := Tryz.func232.trans (congrArg some (by kernel_rfl))
  f244 := Tryz.func165.trans (congrArg some (by kernel_rfl))
  f245 := Tryz.func166.trans (congrArg some (by kernel_rfl))
  f246 := Tryz.func235.trans (congrArg some (by kernel_rfl))
  f247 := Tryz.func199.trans (congrArg some (by kernel_rfl))
  f279 := Tryz.func200.trans (congrArg some (by kernel_rfl))
  f280 := Tryz.func201.trans (congrArg some (by kernel_rfl))
  f281 := Tryz.func202.trans (congrArg some (by kernel_rfl))
  f282 := Tryz.func203.trans (congrArg some (by kernel_rfl))
  f283 := Tryz.func236.trans (congrArg some (by kernel_rfl))
  f284 := Tryz.func237.trans (congrArg some (by kernel_rfl))
  f285 := Tryz.func238.trans (congrArg some (by kernel_rfl))
  f286 := Tryz.func239.trans (congrArg some (by kernel_rfl))
  f287 := Tryz.func217.trans (congrArg some (by kernel_rfl))
  f316 := Tryz.func218.trans (congrArg some (by kernel_rfl))
  f317 := Tryz.func240.trans (congrArg some (by kernel_rfl))
  f318 := Tryz.func241.trans (congrArg some (by kernel_rfl))
  f319 := Tryz.func242.trans (congrArg some (by kernel_rfl))
  f320 := Tryz.func243.trans (congrArg some (by kernel_rfl))
  f321 := Tryz.func230.trans (congrArg some (by kernel_rfl))
  f322 := Tryz.func231.trans (congrArg some (by kernel_rfl))
  f337 := Tryz.func244.trans (congrArg some (by kernel_rfl))
  f338 := Tryz.func245.trans (congrArg some (by kernel_rfl))
  t0 := Tryz.underlying0
  a0 := Tryz.isAgg0
  z0 := Tryz.sizeOf0
  v0 := Tryz.zeroValue0
  t2 := Tryz.underlying2
  a2 := Tryz.isAgg2
  z2 := Tryz.sizeOf2
  v2 := Tryz.zeroValue2
  t3 := Tryz.underlying3
  a3 := Tryz.isAgg3
  z3 := Tryz.sizeOf3
  v3 := Tryz.zeroValue3
  t4 := Tryz.underlying4
  a4 := Tryz.isAgg4
  z4 := Tryz.sizeOf4
  v4 := Tryz.zeroValue4
  t5 := Tryz.underlying5
  a5 := Tryz.isAgg5
  z5 := Tryz.sizeOf5
  v5 := Tryz.zeroValue5
  t9 := Tryz.underlying9
  a9 := Tryz.isAgg9
  z9 := Tryz.sizeOf9
  v9 := Tryz.zeroValue9
  t20 := Tryz.underlying20
  a20 := Tryz.isAgg20
  z20 := Tryz.sizeOf20
  v20 := Tryz.zeroValue20
  t21 := Tryz.underlying21
  a21 := Tryz.isAgg21
  z21 := Tryz.sizeOf21
  v21 := Tryz.zeroValue21
  t37 := Tryz.underlying90
  a37 := Tryz.isAgg90
  z37 := Tryz.sizeOf90
  v37 := Tryz.zeroValue90
  t46 := Tryz.underlying199
  a46 := Tryz.isAgg199
  z46 := Tryz.sizeOf199
  v46 := Tryz.zeroValue199
  t51 := Tryz.underlying59
  a51 := Tryz.isAgg59
  z51 := Tryz.sizeOf59
  v51 := Tryz.zeroValue59
  t53 := Tryz.underlying242
  a53 := Tryz.isAgg242
  z53 := Tryz.sizeOf242
  v53 := Tryz.zeroValue242
  t75 := Tryz.underlying94
  a75 := Tryz.isAgg94
  z75 := Tryz.sizeOf94
  v75 := Tryz.zeroValue94
  t76 := Tryz.underlying95
  a76 := Tryz.isAgg95
  z76 := Tryz.sizeOf95
  v76 := Tryz.zeroValue95
  t85 := Tryz.underlying287
  a85 := Tryz.isAgg287
  z85 := Tryz.sizeOf287
  v85 := Tryz.zeroValue287
  t127 := Tryz.underlying180
  a127 := Tryz.isAgg180
  z127 := Tryz.sizeOf180
  v127 := Tryz.zeroValue180
  t143 := Tryz.underlying312
  a143 := Tryz.isAgg312
  z143 := Tryz.sizeOf312
  v143 := Tryz.zeroValue312
  t145 := Tryz.underlying314
  a145 := Tryz.isAgg314
  z145 := Tryz.sizeOf314
  v145 := Tryz.zeroValue314
  t167 := Tryz.underlying286
  a167 := Tryz.isAgg286
  z167 := Tryz.sizeOf286
  v167 := Tryz.zeroValue286
  t168 := Tryz.underlying289
  a168 := Tryz.isAgg289
  z168 := Tryz.sizeOf289
  v168 := Tryz.zeroValue289
  t171 := Tryz.underlying318
  a171 := Tryz.isAgg318
  z171 := Tryz.sizeOf318
  v171 := Tryz.zeroValue318
  t173 := Tryz.underlying320
  a173 := Tryz.isAgg320
  z173 := Tryz.sizeOf320
  v173 := Tryz.zeroValue320
  t175 := Tryz.underlying300
  a175 := Tryz.isAgg300
  z175 := Tryz.sizeOf300
  v175 := Tryz.zeroValue300
  t210 := Tryz.underlying303
  a210 := Tryz.isAgg303
  z210 := Tryz.sizeOf303
  v210 := Tryz.zeroValue303
  t212 := Tryz.underlying323
  a212 := Tryz.isAgg323
  z212 := Tryz.sizeOf323
  v212 := Tryz.zeroValue323
  t213 := Tryz.underlying324
  a213 := Tryz.isAgg324
  z213 := Tryz.sizeOf324
  t232 := Tryz.underlying325
  a232 := Tryz.isAgg325
  z232 := Tryz.sizeOf325
  v232 := Tryz.zeroValue325
  t233 := Tryz.underlying326
  a233 := Tryz.isAgg326
  z233 := Tryz.sizeOf326
  v233 := Tryz.zeroValue326
  g15 := by kernel_rfl
  g16 := by kernel_rfl
  g17 := by kernel_rfl
  g18 := by kernel_rfl
  g19 := by kernel_rfl }
def Tryz.lays144_ren : Go.Shelf.Ren := ⟨fun | 144 => 187 | 143 => 185 | 219 => 204 | 217 => 221 | 225 => 222 | 224 => 223 | 267 => 224 | 266 => 233 | 314 => 234 | n => n, fun | 9 => 9 | 4 => 4 | 3 => 3 | 5 => 5 | 46 => 199 | 146 => 315 | 51 => 59 | n => n, fun | 1 => 0 | n => n⟩
theorem Tryz.lays144 : Go.Proofs.Lays.n144 Tryz.prog Tryz.lays144_ren := {
  mixed := by kernel_rfl
  f143 := Tryz.func185.trans (congrArg some (by kernel_rfl))
  f144 := Tryz.func187.trans (congrArg some (by kernel_rfl))
  f217 := Tryz.func221.trans (congrArg some (by kernel_rfl))
  f219 := Tryz.func204.trans (congrArg some (by kernel_rfl))
  f224 := Tryz.func223.trans (congrArg some (by kernel_rfl))
  f225 := Tryz.func222.trans (congrArg some (by kernel_rfl))
  f266 := Tryz.func233.trans (congrArg some (by kernel_rfl))
  f267 := Tryz.func224.trans (congrArg some (by kernel_rfl))
  f314 := Tryz.func234.trans (congrArg some (by kernel_rfl))
  t3 := Tryz.underlying3
  a3 := Tryz.isAgg3
  z3 := Tryz.sizeOf3
  v3 := Tryz.zeroValue3
  t4 := Tryz.underlying4
  a4 := Tryz.isAgg4
  z4 := Tryz.sizeOf4
  v4 := Tryz.zeroValue4
  t5 := Tryz.underlying5
  a5 := Tryz.isAgg5
  z5 := Tryz.sizeOf5
  v5 := Tryz.zeroValue5
  t9 := Tryz.underlying9
  a9 := Tryz.isAgg9
  z9 := Tryz.sizeOf9
  v9 := Tryz.zeroValue9
  t46 := Tryz.underlying199
  a46 := Tryz.isAgg199
  z46 := Tryz.sizeOf199
  v46 := Tryz.zeroValue199
  t51 := Tryz.underlying59
  a51 := Tryz.isAgg59
  z51 := Tryz.sizeOf59
  v51 := Tryz.zeroValue59
  t146 := Tryz.underlying315
  a146 := Tryz.isAgg315
  z146 := Tryz.sizeOf315
  v146 := Tryz.zeroValue315
  g1 := by kernel_rfl }
def Tryz.lays145_ren : Go.Shelf.Ren := ⟨fun | 145 => 125 | 220 => 167 | 219 => 204 | 217 => 221 | 225 => 222 | 224 => 223 | 267 => 224 | 266 => 233 | 314 => 234 | n => n, fun | 9 => 9 | 4 => 4 | 59 => 228 | 3 => 3 | 5 => 5 | 46 => 199 | 146 => 315 | 51 => 59 | n => n, fun | 1 => 0 | n => n⟩
theorem Tryz.lays145 : Go.Proofs.Lays.n145 Tryz.prog Tryz.lays145_ren := {
  mixed := by kernel_rfl
  f145 := Tryz.func125.trans (congrArg some (by kernel_rfl))
  f217 := Tryz.func221.trans (congrArg some (by kernel_rfl))
  f219 := Tryz.func204.trans (congrArg some (by kernel_rfl))
  f220 := Tryz.func167.trans (congrArg some (by kernel_rfl))
  f224 := Tryz.func223.trans (congrArg some (by kernel_rfl))
  f225 := Tryz.func222.trans (congrArg some (by kernel_rfl))
  f266 := Tryz.func233.trans (congrArg some (by kernel_rfl))
  f267 := Tryz.func224.trans (congrArg some (by kernel_rfl))
  f314 := Tryz.func234.trans (congrArg some (by kernel_rfl))
  t3 := Tryz.underlying3
  a3 := Tryz.isAgg3
  z3 := Tryz.sizeOf3
  v3 := Tryz.zeroValue3
  t4 := Tryz.underlying4
  a4 := Tryz.isAgg4
  z4 := Tryz.sizeOf4
  v4 := Tryz.zeroValue4
  t5 := Tryz.underlying5
  a5 := Tryz.isAgg5
  z5 := Tryz.sizeOf5
  v5 := Tryz.zeroValue5
  t9 := Tryz.underlying9
  a9 := Tryz.isAgg9
  z9 := Tryz.sizeOf9
  v9 := Tryz.zeroValue9
  t46 := Tryz.underlying199
  a46 := Tryz.isAgg199
  z46 := Tryz.sizeOf199
  v46 := Tryz.zeroValue199
  t51 := Tryz.underlying59
  a51 := Tryz.isAgg59
  z51 := Tryz.sizeOf59
  v51 := Tryz.zeroValue59
  t59 := Tryz.underlying228
  a59 := Tryz.isAgg228
  z59 := Tryz.sizeOf228
  v59 := Tryz.zeroValue228
  t146 := Tryz.underlying315
  a146 := Tryz.isAgg315
  z146 := Tryz.sizeOf315
  v146 := Tryz.zeroValue315
  g1 := by kernel_rfl }
def Tryz.lays146_ren : Go.Shelf.Ren := ⟨fun | 146 => 107 | 221 => 139 | 268 => 183 | 138 => 184 | 143 => 185 | 195 => 209 | 197 => 196 | 218 => 210 | 219 => 204 | 260 => 214 | 217 => 221 | 225 => 222 | 224 => 223 | 267 => 224 | 266 => 233 | 314 => 234 | n => n, fun | 9 => 9 | 31 => 43 | 3 => 3 | 4 => 4 | 0 => 0 | 105 => 283 | 21 => 21 | 5 => 5 | 46 => 199 | 119 => 306 | 139 => 309 | 138 => 308 | 146 => 315 | 51 => 59 | n => n, fun | 1 => 0 | 3 => 3 | 4 => 4 | n => n⟩
theorem Tryz.lays146 : Go.Proofs.Lays.n146 Tryz.prog Tryz.lays146_ren := {
  mixed := by kernel_rfl
  f138 := Tryz.func184.trans (congrArg some (by kernel_rfl))
  f143 := Tryz.func185.trans (congrArg some (by kernel_rfl))
  f146 := Tryz.func107.trans (congrArg some (by kernel_rfl))
  f195 := Tryz.func209.trans (congrArg some (by kernel_rfl))
  f197 := Tryz.func196.trans (congrArg some (by kernel_rfl))
  f217 := Tryz.func221.trans (congrArg some (by kernel_rfl))
  f218 := Tryz.func210.trans (congrArg some (by kernel_rfl))
  f219 := Tryz.func204.trans (congrArg some (by kernel_rfl))
  f221 := Tryz.func139.trans (congrArg some (by kernel_rfl))
  f224 := Tryz.func223.trans (congrArg some (by kernel_rfl))
  f225 := Tryz.func222.trans (congrArg some (by kernel_rfl))
  f260 := Tryz.func214.trans (congrArg some (by kernel_rfl))
  f266 := Tryz.func233.trans (congrArg some (by kernel_rfl))
  f267 := Tryz.func224.trans (congrArg some (by kernel_rfl))
  f268 := Tryz.func183.trans (congrArg some (by kernel_rfl))
  f314 := Tryz.func234.trans (congrArg some (by kernel_rfl))
  t0 := Tryz.underlying0
  a0 := Tryz.isAgg0
  z0 := Tryz.sizeOf0
  v0 := Tryz.zeroValue0
  t3 := Tryz.underlying3
  a3 := Tryz.isAgg3
  z3 := Tryz.sizeOf3
  v3 := Tryz.zeroValue3
  t4 := Tryz.underlying4
  a4 := Tryz.isAgg4
  z4 := Tryz.sizeOf4
  v4 := Tryz.zeroValue4
  t5 := Tryz.underlying5
  a5 := Tryz.isAgg5
  z5 := Tryz.sizeOf5
  v5 := Tryz.zeroValue5
  t9 := Tryz.underlying9
  a9 := Tryz.isAgg9
  z9 := Tryz.sizeOf9
  v9 := Tryz.zeroValue9
  t21 := Tryz.underlying21
  a21 := Tryz.isAgg21
  z21 := Tryz.sizeOf21
  v21 := Tryz.zeroValue21
  t31 := Tryz.underlying43
  a31 := Tryz.isAgg43
  z31 := Tryz.sizeOf43
  v31 := Tryz.zeroValue43
  t46 := Tryz.underlying199
  a46 := Tryz.isAgg199
  z46 := Tryz.sizeOf199
  v46 := Tryz.zeroValue199
  t51 := Tryz.underlying59
  a51 := Tryz.isAgg59
  z51 := Tryz.sizeOf59
  v51 := Tryz.zeroValue59
  t105 := Tryz.underlying283
  a105 := Tryz.isAgg283
  z105 := Tryz.sizeOf283
  v105 := Tryz.zeroValue283
  t119 := Tryz.underlying306
  a119 := Tryz.isAgg306
  z119 := Tryz.sizeOf306
  t138 := Tryz.underlying308
  a138 := Tryz.isAgg308
  z138 := Tryz.sizeOf308
  v138 := Tryz.zeroValue308
  t139 := Tryz.underlying309
  a139 := Tryz.isAgg309
  z139 := Tryz.sizeOf309
  v139 := Tryz.zeroValue309
  t146 := Tryz.underlying315
  a146 := Tryz.isAgg315
  z146 := Tryz.sizeOf315
  v146 := Tryz.zeroValue315
  g1 := by kernel_rfl
  g3 := by kernel_rfl
  g4 := by kernel_rfl }
def Tryz.sortAct_ren : Go.Shelf.Ren := ⟨fun | 6 => 78 | 15 => 101 | 14 => 114 | 28 => 137 | 29 => 138 | 20 => 143 | 21 => 144 | 22 => 145 | 23 => 146 | 24 => 147 | 25 => 148 | 26 => 149 | 27 => 150 | 46 => 188 | 47 => 179 | 48 => 180 | 49 => 189 | 50 => 190 | 57 => 212 | n => n, fun | 22 => 24 | 24 => 33 | 25 => 175 | 3 => 3 | 39 => 199 | 0 => 0 | 53 => 59 | 55 => 242 | 4 => 4 | 46 => 235 | 45 => 234 | 50 => 112 | 5 => 5 | 9 => 9 | 66 => 270 | 70 => 274 | 76 => 294 | 77 => 295 | n => n, fun | n => n⟩
theorem Tryz.sortAct : Go.Proofs.SlLaysF0.n6 Tryz.prog Tryz.sortAct_ren := {
  mixed := by kernel_rfl
  f6 := ⟨Tryz.f78.name, by decide, Tryz.func78.trans (congrArg some (by kernel_rfl))⟩
  f14 := ⟨Tryz.f114.name, by decide, Tryz.func114.trans (congrArg some (by kernel_rfl))⟩
  f15 := Tryz.func101.trans (congrArg some (by kernel_rfl))
  f20 := ⟨Tryz.f143.name, by decide, Tryz.func143.trans (congrArg some (by kernel_rfl))⟩
  f21 := ⟨Tryz.f144.name, by decide, Tryz.func144.trans (congrArg some (by kernel_rfl))⟩
  f22 := ⟨Tryz.f145.name, by decide, Tryz.func145.trans (congrArg some (by kernel_rfl))⟩
  f23 := ⟨Tryz.f146.name, by decide, Tryz.func146.trans (congrArg some (by kernel_rfl))⟩
  f24 := ⟨Tryz.f147.name, by decide, Tryz.func147.trans (congrArg some (by kernel_rfl))⟩
  f25 := ⟨Tryz.f148.name, by decide, Tryz.func148.trans (congrArg some (by kernel_rfl))⟩
  f26 := ⟨Tryz.f149.name, by decide, Tryz.func149.trans (congrArg some (by kernel_rfl))⟩
  f27 := ⟨Tryz.f150.name, by decide, Tryz.func150.trans (congrArg some (by kernel_rfl))⟩
  f28 := Tryz.func137.trans (congrArg some (by kernel_rfl))
  f29 := Tryz.func138.trans (congrArg some (by kernel_rfl))
  f46 := ⟨Tryz.f188.name, by decide, Tryz.func188.trans (congrArg some (by kernel_rfl))⟩
  f47 := Tryz.func179.trans (congrArg some (by kernel_rfl))
  f48 := Tryz.func180.trans (congrArg some (by kernel_rfl))
  f49 := ⟨Tryz.f189.name, by decide, Tryz.func189.trans (congrArg some (by kernel_rfl))⟩
  f50 := ⟨Tryz.f190.name, by decide, Tryz.func190.trans (congrArg some (by kernel_rfl))⟩
  f57 := ⟨Tryz.f212.name, by decide, Tryz.func212.trans (congrArg some (by kernel_rfl))⟩
  t0 := Tryz.underlying0
  a0 := Tryz.isAgg0
  z0 := Tryz.sizeOf0
  v0 := Tryz.zeroValue0
  t3 := Tryz.underlying3
  a3 := Tryz.isAgg3
  z3 := Tryz.sizeOf3
  v3 := Tryz.zeroValue3
  t4 := Tryz.underlying4
  a4 := Tryz.isAgg4
  z4 := Tryz.sizeOf4
  v4 := Tryz.zeroValue4
  t5 := Tryz.underlying5
  a5 := Tryz.isAgg5
  z5 := Tryz.sizeOf5
  v5 := Tryz.zeroValue5
  t9 := Tryz.underlying9
  a9 := Tryz.isAgg9
  z9 := Tryz.sizeOf9
  v9 := Tryz.zeroValue9
  t22 := Tryz.underlying24
  a22 := Tryz.isAgg24
  z22 := Tryz.sizeOf24
  v22 := Tryz.zeroValue24
  t25 := Tryz.underlying175
  a25 := Tryz.isAgg175
  z25 := Tryz.sizeOf175
  v25 := Tryz.zeroValue175
  t39 := Tryz.underlying199
  a39 := Tryz.isAgg199
  z39 := Tryz.sizeOf199
  v39 := Tryz.zeroValue199
  t45 := Tryz.underlying234
  a45 := Tryz.isAgg234
  z45 := Tryz.sizeOf234
  v45 := Tryz.zeroValue234
  t46 := Tryz.underlying235
  a46 := Tryz.isAgg235
  z46 := Tryz.sizeOf235
  v46 := Tryz.zeroValue235
  t50 := Tryz.underlying112
  a50 := Tryz.isAgg112
  z50 := Tryz.sizeOf112
  v50 := Tryz.zeroValue112
  t53 := Tryz.underlying59
  a53 := Tryz.isAgg59
  z53 := Tryz.sizeOf59
  v53 := Tryz.zeroValue59
  t55 := Tryz.underlying242
  a55 := Tryz.isAgg242
  z55 := Tryz.sizeOf242
  v55 := Tryz.zeroValue242
  t66 := Tryz.underlying270
  a66 := Tryz.isAgg270
  z66 := Tryz.sizeOf270
  v66 := Tryz.zeroValue270
  t70 := Tryz.underlying274
  a70 := Tryz.isAgg274
  z70 := Tryz.sizeOf274
  v70 := Tryz.zeroValue274
  t76 := Tryz.underlying294
  a76 := Tryz.isAgg294
  z76 := Tryz.sizeOf294
  v76 := Tryz.zeroValue294
  t77 := Tryz.underlying295
  a77 := Tryz.isAgg295
  z77 := Tryz.sizeOf295
  v77 := Tryz.zeroValue295 }
end Go.Proofs

namespace Go.Proofs.W
set_option linter.unusedSimpArgs false
set_option maxRecDepth 20000
open Go Go.IL Go.Proofs Go.RowKit
variable {W0 : World}
/-- The library's functions that the program calls. -/
theorem l_IndexByte : PureF Tryz.prog W0 228 sIndexByte := by
  refine .below ⟨_, Tryz.func228, by kernel_rfl, by kernel_rfl⟩ ?_
  intro args H v hs G nx w vals hsim hb hsz hr
  unfold sIndexByte at hs
  split at hs
  · rename_i l c
    simp only [Option.map_eq_some_iff] at hs
    obtain ⟨b, hc, rfl⟩ := hs
    have := u8?_some hc
    subst this
    obtain ⟨y, z, rfl, hy, hz⟩ := vals_two hsz hr
    rw [rep_str hy, rep_val hz]
    refine (Any.strings_IndexByte Tryz.lays137 ⟨l.toArray⟩ b.toNat w).mono ?_
    rintro e w' ⟨rfl, rfl⟩
    refine ⟨_, rfl, ?_, Below.refl _ _, fun _ => Nat.le_refl _⟩
    have e1 : ((b.toNat : Int)).toNat.toUInt8 = b := by simp
    rw [e1]
    simp only [idx_byte]
    exact .val
  · cases hs
theorem l_Compare : PureF Tryz.prog W0 80 sCmpStr := by
  refine .below ⟨_, Tryz.func80, by kernel_rfl, by kernel_rfl⟩ ?_
  intro args H v hs G nx w vals hsim hb hsz hr
  unfold sCmpStr at hs
  split at hs <;> cases hs
  rename_i a b
  obtain ⟨y, z, rfl, hy, hz⟩ := vals_two hsz hr
  rw [rep_str hy, rep_str hz]
  refine (Any.strings_Compare Tryz.lays106 ⟨a.toArray⟩ ⟨b.toArray⟩ w).mono ?_
  rintro e w' ⟨rfl, rfl⟩
  refine ⟨_, rfl, ?_, Below.refl _ _, fun _ => Nat.le_refl _⟩
  simp only [cmp_bytes]
  exact .val
theorem l_Contains : PureF Tryz.prog W0 187 sContains := by
  refine .below ⟨_, Tryz.func187, by kernel_rfl, by kernel_rfl⟩ ?_
  intro args H v hs G nx w vals hsim hb hsz hr
  unfold sContains at hs
  split at hs
  · rename_i l c
    split at hs <;> cases hs
    obtain ⟨y, z, rfl, hy, hz⟩ := vals_two hsz hr
    rw [rep_str hy, rep_str hz]
    refine (Any.strings_Contains_one Tryz.lays144 ⟨l.toArray⟩ c w).mono ?_
    rintro e w' ⟨rfl, rfl⟩
    refine ⟨_, rfl, ?_, Below.refl _ _, fun _ => Nat.le_refl _⟩
    simp only [has_one]
    exact .val
  · cases hs
theorem l_Trim (hd : W0.drawn ≠ 1) : PureF Tryz.prog W0 123 sTrim := by
  refine .below ⟨_, Tryz.func123, by kernel_rfl, by kernel_rfl⟩ ?_
  intro args H v hs G nx w vals hsim hb hsz hr
  unfold sTrim at hs
  split at hs
  · rename_i l
    split at hs <;> cases hs
    rename_i hl
    unfold big at hl
    obtain ⟨y, z, rfl, hy, hz⟩ := vals_two hsz hr
    rw [rep_str hy, rep_str hz]
    have hm : G.mono = false := by rw [hb.mono]; simp [hd]
    refine (Any.strings_Trim_laid Tryz.lays160 (by kernel_rfl) ⟨l.toArray⟩ ⟨#[48, 49, 50, 51, 52, 53, 54, 55, 56, 57]⟩ w (by show l.toArray.size ≤ _; simp; omega) (by decide) (ascii_of_all (by decide))).mono ?_
    rintro e w' ⟨rfl, hB⟩
    refine ⟨_, rfl, ?_, hB, fun h => by rw [hm] at h; cases h⟩
    rw [trim_digits]
    exact .str
  · cases hs
theorem l_Atoi : PureF Tryz.prog W0 124 sAtoi := by
  refine .below ⟨_, Tryz.func124, by kernel_rfl, by kernel_rfl⟩ ?_
  intro args H v hs G nx w vals hsim hb hsz hr
  unfold sAtoi at hs
  split at hs
  · rename_i l
    split at hs <;> cases hs
    rename_i hc
    obtain ⟨h0, hl, hd⟩ := hc
    obtain ⟨y, rfl, hy⟩ := vals_one hsz hr
    rw [rep_str hy]
    refine (Any.strconv_Atoi Tryz.lays172 ⟨l.toArray⟩ _ (by show l.toArray.size ≤ _; simp; omega) (atoi_digits h0 hd) w).mono ?_
    rintro e w' ⟨rfl, t, rfl⟩
    refine ⟨_, rfl, ?_, ?_, ?_⟩
    · refine .tup #[.int .i64 (valB l : Nat), .nilIface] rfl ?_
      intro j u z hu hz
      match j with
      | 0 => simp at hu hz; subst hu hz; exact .val
      | 1 => simp at hu hz; subst hu hz; exact .val
      | j + 2 => simp at hu
    · exact ⟨rfl, rfl, rfl, by rw [Lib.bytesWorld_size]; omega, fun k hk => Lib.bytesWorld_at_old w 5 t k hk⟩
    · intro _; exact Nat.le_succ _
  · cases hs
theorem l_Cut {m : Int} (hW : W0.cell? ⟨0, 0, none⟩ = some (.int .i64 m)) : PureF Tryz.prog W0 125 sCut := by
  refine .below ⟨_, Tryz.func125, by kernel_rfl, by kernel_rfl⟩ ?_
  intro args H v hs G nx w vals hsim hb hsz hr
  unfold sCut at hs
  split at hs
  · rename_i l c
    split at hs <;> cases hs
    rename_i hl
    unfold big at hl
    obtain ⟨y, z, rfl, hy, hz⟩ := vals_two hsz hr
    rw [rep_str hy, rep_str hz]
    have hcell : w.cell? ⟨0, 0, none⟩ = some (.int .i64 m) := by rw [← hW]; exact cell_of_block (hb.keep 0 (cell_lt hW))
    refine (Any.strings_Cut Tryz.lays145 ⟨l.toArray⟩ ⟨#[c]⟩ m w (by show l.toArray.size < _; simp; omega) hcell).mono ?_
    rintro e w' ⟨rfl, n, rfl⟩
    refine ⟨_, rfl, ?_, ⟨rfl, rfl, rfl, Nat.le_refl _, fun _ _ => rfl⟩, fun _ => Nat.le_add_right _ _⟩
    rw [cut_one]
    refine .tup #[.string ⟨(cutB c l).1.toArray⟩, .string ⟨(cutB c l).2.1.toArray⟩, .bool (cutB c l).2.2] rfl ?_
    intro j u z hu hz
    match j with
    | 0 => simp at hu hz; subst hu hz; exact .str
    | 1 => simp at hu hz; subst hu hz; exact .str
    | 2 => simp at hu hz; subst hu hz; exact .val
    | j + 3 => simp at hu
  · cases hs
theorem countB_one (c : UInt8) : ∀ (n : Nat) (l : Text), l.length ≤ n → l.count c ≤ Lib.count l [c]
  | 0, l, hn => by
    have : l = [] := List.eq_nil_of_length_eq_zero (by omega)
    subst this
    simp
  | n + 1, l, hn => by
    rcases Int.lt_or_le (bIdx l c) 0 with h | h
    · rw [List.count_eq_zero.2 (bIdx_neg h).2]; exact Nat.zero_le _
    · obtain ⟨i, hi⟩ := Int.eq_ofNat_of_zero_le h
      obtain ⟨e1, e2, e3⟩ := bIdx_split hi
      have hx : Lib.index l [c] = i := by rw [index_one, idx_byte, hi]
      rw [Lib.count_hit (by simp) hx]
      have h1 : 0 < l.length := List.length_pos_of_mem e3
      have ih := countB_one c n (l.drop (i + 1)) (by simp; omega)
      have h0 : (l.take i).count c = 0 := by
        rw [List.count_eq_zero, e1]
        intro hm
        have := List.all_eq_true.1 (List.all_takeWhile (l := l) (p := fun b => decide (b ≠ c))) c hm
        simp at this
      have h2 : l.count c ≤ 1 + (l.drop (i + 1)).count c := by
        have h3 : (l.drop i).count c ≤ 1 + (l.drop (i + 1)).count c := by
          cases hd : l.drop i with
          | nil => simp
          | cons x r =>
            have : l.drop (i + 1) = r := by rw [← List.drop_drop, hd]; rfl
            rw [this, List.count_cons]
            split <;> omega
        have h4 : l.count c = (l.take i).count c + (l.drop i).count c := by rw [← List.count_append, List.take_append_drop]
        omega
      simp only [List.length_singleton]
      omega
theorem l_Split {m : Int} (hW : W0.cell? ⟨0, 0, none⟩ = some (.int .i64 m)) : PureF Tryz.prog W0 107 sSplit := by
  intro args H v hs
  refine ⟨⟨_, Tryz.func107, by kernel_rfl, by kernel_rfl⟩, ?_⟩
  intro G nx w vals hsz hr hb hsim
  unfold sSplit at hs
  split at hs
  · rename_i l c
    split at hs <;> cases hs
    rename_i hl
    unfold big at hl
    obtain ⟨y, z, rfl, hy, hz⟩ := vals_two hsz hr
    rw [rep_str hy, rep_str hz]
    have hcell : w.cell? ⟨0, 0, none⟩ = some (.int .i64 m) := by rw [← hW]; exact cell_of_block (hb.keep 0 (cell_lt hW))
    refine (Any.strings_Split Tryz.lays146 (by kernel_rfl) ⟨l.toArray⟩ ⟨#[c]⟩ m w (by show l.toArray.size < _; simp; omega) hcell (by exact Nat.le_refl 1)).mono ?_
    rintro e w' ⟨rfl, rfl⟩
    have hparts : (Lib.splitB ⟨#[c]⟩ 0 (Lib.countB ⟨l.toArray⟩ ⟨#[c]⟩) ⟨l.toArray⟩).map (·.data.toList) = partsB c l := by
      rw [Lib.splitB_data]
      exact splitK_parts c _ _ l (Nat.le_refl _) (countB_one c _ l (Nat.le_refl _))
    have hlen : (partsB c l).length = Lib.countB ⟨l.toArray⟩ ⟨#[c]⟩ + 1 := by
      rw [← hparts, List.length_map]
      exact Lib.splitB_all ⟨#[c]⟩ (by exact Nat.le_refl 1) 0 _ _ rfl
    generalize hps : Lib.splitB ⟨#[c]⟩ 0 (Lib.countB ⟨l.toArray⟩ ⟨#[c]⟩) ⟨l.toArray⟩ = ps at *
    generalize hn : Lib.countB ⟨l.toArray⟩ ⟨#[c]⟩ = n at *
    obtain ⟨hx, hs', him⟩ := hold_new (ys := ps.map Value.string) (T := 9) hsim (by intro y hy; simp only [List.mem_map] at hy; obtain ⟨a, -, rfl⟩ := hy; rfl)
    refine ⟨_, rfl, _, H, _, nx, Nat.le_refl _, hx, hs', ?_, rfl, rfl⟩
    have hk : ps.map Value.string = (partsB c l).map fun p => Value.string ⟨p.toArray⟩ := by
      rw [← hparts, List.map_map]
      apply List.map_congr_left
      intro a _
      simp
    have hsl : Rep (G.hold w.heap.size (ps.map Value.string).toArray) (.sl ((partsB c l).map .str)) (.slice (some ⟨w.heap.size, 0, none⟩) ((partsB c l).map V.str).length (n + 1)) := by
      refine .sl (es := 1) (by simp [hlen]) (fun i _ => .string ⟨((partsB c l)[i]?.getD []).toArray⟩) ?_ ?_ ?_
      · intro i x hx
        simp only [List.getElem?_map, Option.map_eq_some_iff] at hx
        obtain ⟨a, -, rfl⟩ := hx
        rfl
      · intro i j hi hj
        have : j = 0 := by omega
        subst this
        simp only [Nat.mul_one, Nat.add_zero, Nat.zero_add]
        apply him
        rw [hk, List.getElem?_map]
        simp only [List.length_map] at hi
        simp [hi]
      · intro i j x v hx hv
        simp only [List.getElem?_map, Option.map_eq_some_iff] at hx
        obtain ⟨a, ha, rfl⟩ := hx
        have hv' : [V.str a][j]? = some v := hv
        match j with
        | 0 => simp at hv'; subst hv'; rw [ha]; exact .str
        | j + 1 => simp at hv'
    rw [List.length_map, hlen] at hsl
    exact hsl
  · cases hs
end Go.Proofs.W

/- All actions, in order: plain functions. -/
namespace Go.Proofs.W
open Go Go.IL Go.Sort

def actCmp (a b : Act) : Int := orL [cmp3 (decide (a.kind < b.kind)) (decide (a.kind = b.kind)), cmp3 (Op.bytesLess a.name b.name) (decide (a.name = b.name))]
def actLt (a b : Act) : Bool := if a.kind = b.kind then Op.bytesLess a.name b.name else decide (a.kind < b.kind)
theorem act_neg (a b : Act) : decide (actCmp a b < 0) = actLt a b := by
  unfold actCmp actLt
  by_cases e1 : a.kind = b.kind
  · simp only [e1, orL, cmp3, Int.lt_irrefl, decide_true, decide_false]
    cases h : Op.bytesLess a.name b.name <;> by_cases e3 : a.name = b.name <;> simp [e3]
  · by_cases h : a.kind < b.kind <;> simp [e1, orL, cmp3, h]
theorem ltOf_act : ltOf actCmp = actLt := by
  funext a b; unfold ltOf; exact act_neg a b
theorem bl_ntrans {a b c : Text} (h1 : Op.bytesLess a b = false) (h2 : Op.bytesLess b c = false) : Op.bytesLess a c = false := by
  cases h : Op.bytesLess a c with
  | false => rfl
  | true =>
    cases h3 : Op.bytesLess b a with
    | true => rw [bl_trans h3 h] at h2; cases h2
    | false => have := bl_total h1 h3; subst this; rw [h] at h2; cases h2
theorem act_swo : SWO actLt where
  irrefl x := by unfold actLt; simp [bl_irrefl]
  trans x y z h1 h2 := by
    unfold actLt at *
    by_cases e1 : x.kind = y.kind
    · rw [if_pos e1] at h1
      by_cases e2 : y.kind = z.kind
      · rw [if_pos e2] at h2; rw [if_pos (e1.trans e2)]; exact bl_trans h1 h2
      · rw [if_neg e2] at h2; rw [if_neg (by rw [e1]; exact e2), e1]; exact h2
    · rw [if_neg e1] at h1
      by_cases e2 : y.kind = z.kind
      · rw [if_neg (by rw [← e2]; exact e1), ← e2]; exact h1
      · rw [if_neg e2] at h2
        simp only [decide_eq_true_eq] at h1 h2
        rw [if_neg (by omega)]; simp; omega
  ntrans x y z h1 h2 := by
    unfold actLt at *
    by_cases e1 : x.kind = y.kind
    · rw [if_pos e1] at h1
      by_cases e2 : y.kind = z.kind
      · rw [if_pos e2] at h2; rw [if_pos (e1.trans e2)]; exact bl_ntrans h1 h2
      · rw [if_neg e2] at h2; rw [if_neg (by rw [e1]; exact e2), e1]; exact h2
    · rw [if_neg e1] at h1
      by_cases e2 : y.kind = z.kind
      · rw [if_neg (by rw [← e2]; exact e1), ← e2]; exact h1
      · rw [if_neg e2] at h2
        simp only [decide_eq_false_iff_not] at h1 h2
        rw [if_neg (by omega)]; simp; omega
theorem act_total (a b : Act) (h : actLt a b = false) (h' : actLt b a = false) : a = b := by
  unfold actLt at h h'
  by_cases e : a.kind = b.kind
  · rw [if_pos e] at h; rw [if_pos e.symm] at h'
    have := bl_total h h'
    cases a; cases b; simp_all
  · rw [if_neg e] at h; rw [if_neg (Ne.symm e)] at h'
    simp only [decide_eq_false_iff_not] at h h'
    omega
/-- In order: one row alone. -/
def insA (a : Act) : List Act → List Act
  | [] => [a]
  | b :: l => if actLt b a = true then b :: insA a l else a :: b :: l
def sortA : List Act → List Act
  | [] => []
  | a :: l => insA a (sortA l)
theorem insA_perm (a : Act) : ∀ l, (insA a l).Perm (a :: l)
  | [] => .refl _
  | b :: l => by
    unfold insA
    split
    · exact ((insA_perm a l).cons b).trans (.swap a b l)
    · exact .refl _
theorem sortA_perm : ∀ l, (sortA l).Perm l
  | [] => .refl _
  | a :: l => (insA_perm a _).trans ((sortA_perm l).cons a)
theorem insA_sorted (a : Act) : ∀ l, l.Pairwise (fun a b => actLt b a = false) → (insA a l).Pairwise (fun a b => actLt b a = false)
  | [], _ => by unfold insA; exact .cons (by simp) .nil
  | b :: l, h => by
    obtain ⟨h1, h2⟩ := List.pairwise_cons.1 h
    unfold insA
    split
    · rename_i hlt
      refine .cons (fun c hc => ?_) (insA_sorted a l h2)
      rcases List.mem_cons.1 ((insA_perm a l).mem_iff.1 hc) with rfl | hc
      · cases hx : actLt c b with
        | false => rfl
        | true => have := act_swo.trans _ _ _ hx hlt; rw [act_swo.irrefl] at this; cases this
      · exact h1 c hc
    · rename_i hlt
      have hlt : actLt b a = false := by simpa using hlt
      refine .cons (fun c hc => ?_) h
      rcases List.mem_cons.1 hc with rfl | hc
      · exact hlt
      · exact act_swo.ntrans _ _ _ (h1 c hc) hlt
theorem sortA_sorted : ∀ l, (sortA l).Pairwise (fun a b => actLt b a = false)
  | [] => .nil
  | a :: l => insA_sorted a _ (sortA_sorted l)
theorem sortA_unique {l l' : List Act} (hp : l'.Perm l) (hs : l'.Pairwise (fun a b => actLt b a = false)) : l' = sortA l :=
  List.Perm.eq_of_pairwise (le := fun a b => actLt b a = false) (fun a b _ _ h h' => act_total a b h' h) hs (sortA_sorted l) (hp.trans (sortA_perm l).symm)
end Go.Proofs.W

namespace Go.Proofs.W
set_option linter.unusedSimpArgs false
set_option maxRecDepth 20000
open Go Go.IL Go.Proofs Go.Sort
def plCmp.c : IC :=
  (.seq (.reg 0 [⟨some 2, (.box 33 (.tmp (0 : Nat))), none⟩,
    ⟨some 3, (.box 33 (.tmp (1 : Nat))), none⟩,
    ⟨some 4, (.assign (.const (.int .i64 0))), none⟩] false)
  (.seq (.reg 1 [⟨some 5, (.fieldAddr 33 (.tmp (2 : Nat)) 0), none⟩,
    ⟨some 6, (.load 3 (.tmp (5 : Nat))), none⟩,
    ⟨some 7, (.fieldAddr 33 (.tmp (3 : Nat)) 0), none⟩,
    ⟨some 8, (.load 3 (.tmp (7 : Nat))), none⟩,
    ⟨some 9, (.call { callee := (.value (.func (55 : Nat))), args := #[(.tmp (6 : Nat)), (.tmp (8 : Nat))], argTypes := #[3, 3] }), none⟩,
    ⟨some 10, (.fieldAddr 33 (.tmp (2 : Nat)) 1), none⟩,
    ⟨some 11, (.load 9 (.tmp (10 : Nat))), none⟩,
    ⟨some 12, (.fieldAddr 33 (.tmp (3 : Nat)) 1), none⟩,
    ⟨some 13, (.load 9 (.tmp (12 : Nat))), none⟩,
    ⟨some 14, (.call { callee := (.value (.func (80 : Nat))), args := #[(.tmp (11 : Nat)), (.tmp (13 : Nat))], argTypes := #[9, 9] }), none⟩,
    ⟨some 15, (.buildSlice 110 2 #[(0, (.tmp (9 : Nat))), (1, (.tmp (14 : Nat)))]), none⟩,
    ⟨some 16, (.call { callee := (.value (.func (53 : Nat))), args := #[(.tmp (15 : Nat))], argTypes := #[110] }), none⟩,
    ⟨some 4, (.assign (.tmp (16 : Nat))), none⟩] true)
  .ret))
theorem plCmp.of : Tryz.f79.body.bind IC.of = some plCmp.c := by kernel_rfl
theorem plCmp.ok : Tryz.f79.body.map (okCode Tryz.prog Tryz.f79.ntmps (fun _ _ => false)) = some true := by kernel_rfl
variable {W0 : World}
def sActCmp : Sem1 := fun args _ => match args with
  | [.agg [.val (.int .i64 k), .str n], .agg [.val (.int .i64 k'), .str n']] => some (.val (.int .i64 (actCmp ⟨k, n⟩ ⟨k', n'⟩)))
  | _ => none
@[go_sem] theorem sActCmp_eq (k k' : Int) (n n' : Text) (H : Heap) : sActCmp [.agg [.val (.int .i64 k), .str n], .agg [.val (.int .i64 k'), .str n']] H = some (.val (.int .i64 (actCmp ⟨k, n⟩ ⟨k', n'⟩))) := rfl
theorem w_plCmp (h1 : PureF Tryz.prog W0 55 sCmpInt) (h2 : PureF Tryz.prog W0 80 sCmpStr) (h3 : PureF Tryz.prog W0 53 sOr) : PureF Tryz.prog W0 79 sActCmp := by
  refine PureF.of (rs := [(.tmp 4)]) (fun _ _ => false) (Φ := [(55, sCmpInt), (80, sCmpStr), (53, sOr)]) ⟨h1, h2, h3, trivial⟩ T.mixed Tryz.func79 plCmp.of rfl plCmp.ok rfl ?_
  intro args H v hs
  unfold sActCmp at hs
  split at hs <;> cases hs
  rename_i k n k' n'
  refine ⟨by simp [Tryz.f79], ?_⟩
  unfold plCmp.c
  simp (implicitDefEqProofs := false) (contextual := true) only [go_sem, reduceIte, Nat.reduceEqDiff, Nat.reduceAdd, Nat.reduceSub, Nat.reduceMul, Nat.reduceLeDiff, Int.reduceLT, Int.reduceLE, Int.reduceEq, Int.reduceAdd, Int.reduceSub, Int.reduceMul, Int.reduceNeg, Int.reduceToNat, reduceCtorEq, Nat.reduceBEq, Nat.reduceLT, actCmp, big]
theorem plCmp_all (W : World) : PureF Tryz.prog W 79 sActCmp := w_plCmp (w_cmpInt w_cmpNaN) l_Compare w_cmpOr
theorem w_slSortA {l : List Act} {id : Nat} {H : Heap} (hl : l.length ≤ 1073741824) (hH : H id = .mem 2 (l.map actV)) :
    IT Tryz.prog W0 78 [.ar id 2 0 l.length, .fn 79 []] H (fun v H' => v = .tup [] ∧ H' = H.set id (.mem 2 ((sortA l).map actV))) := by
  refine (sort_rows 2 actV (fun a => [.int .i64 a.kind, .string ⟨a.name.toArray⟩]) actCmp ⟨_, Tryz.func78, by kernel_rfl, by kernel_rfl⟩ (plCmp_all W0 [actV default, actV default] (fun _ => .dead) _ rfl).1 (fun _ => rfl) ?_ (fun a => ?_) (by decide) ?_ ?_ hl hH).mono ?_
  · intro x v hv
    simp at hv
    rcases hv with rfl | rfl <;> rfl
  · rfl
  · intro W
    exact ⟨_, plCmp_all W, fun x y => rfl⟩
  · intro blk off cap d w eg hcmp hH hblk hsz
    exact AnyQ.slices_SortFunc Tryz.sortAct 2 (by intro w; exact Tryz.isAgg33 w) (by intro w; exact Tryz.sizeOf33 w) (fun a : Act => [.int .i64 a.kind, .string ⟨a.name.toArray⟩]) (fun _ => rfl) (fun x v hv => by simp at hv; rcases hv with rfl | rfl <;> rfl) actCmp (by rw [ltOf_act]; exact act_swo) 79 #[] blk off cap d w eg hcmp hH hblk hsz
  · rintro v H' ⟨rfl, l', hp, hs, rfl⟩
    rw [ltOf_act] at hs
    rw [sortA_unique hp hs]
    exact ⟨rfl, rfl⟩
end Go.Proofs.W

namespace Go.Proofs.W
set_option linter.unusedSimpArgs false
set_option maxRecDepth 20000
open Go Go.IL Go.Proofs Go.Sort Go.RowKit Go.Shelf
def slSortA.c : IC :=
  (.seq (.reg 0 [⟨some 5, (.move (.tmp (0 : Nat))), none⟩,
    ⟨some 6, (.call { callee := (.builtin .len), args := #[(.tmp (5 : Nat))], argTypes := #[24] }), none⟩,
    ⟨some 4, (.assign (.tmp (6 : Nat))), none⟩] false)
  (.reg 1 [⟨some 7, (.move (.tmp (0 : Nat))), none⟩,
    ⟨some 8, (.move (.tmp (4 : Nat))), none⟩,
    ⟨some 9, (.move (.tmp (4 : Nat))), none⟩,
    ⟨some 10, (.convert 3 199 (.tmp (9 : Nat))), none⟩,
    ⟨some 11, (.call { callee := (.value (.func (101 : Nat))), args := #[(.tmp (10 : Nat))], argTypes := #[199] }), none⟩,
    ⟨some 12, (.move (.tmp (1 : Nat))), none⟩,
    ⟨some 13, (.call { callee := (.value (.func (114 : Nat))), args := #[(.tmp (7 : Nat)), (.const (.int .i64 0)), (.tmp (8 : Nat)), (.tmp (11 : Nat)), (.tmp (12 : Nat))], argTypes := #[24, 3, 3, 3, 175] }), none⟩] false))
theorem slSortA.of : Tryz.f78.body.bind IC.of = some slSortA.c := by kernel_rfl
theorem slSortA.ok : Tryz.f78.body.map (okCode Tryz.prog Tryz.f78.ntmps (fun _ _ => false)) = some true := by kernel_rfl
def slPdqA.R0 : IC :=
  (.seq (.seq (.reg 17 [⟨some 81, (.move (.tmp (1 : Nat))), none⟩,
    ⟨some 82, (.binOp .gtr 3 (.tmp (81 : Nat)) (.const (.int .i64 0)) 3), none⟩,
    ⟨some 83, (.move (.tmp (82 : Nat))), none⟩,
    ⟨some 84, (.move (.tmp (4 : Nat))), some (83, true)⟩,
    ⟨some 85, (.move (.tmp (0 : Nat))), some (83, true)⟩,
    ⟨some 86, (.move (.tmp (1 : Nat))), some (83, true)⟩,
    ⟨some 87, (.binOp .sub 3 (.tmp (86 : Nat)) (.const (.int .i64 1)) 3), some (83, true)⟩,
    ⟨some 88, (.indexAddr 24 (.tmp (85 : Nat)) (.tmp (87 : Nat))), some (83, true)⟩,
    ⟨some 89, (.load 33 (.tmp (88 : Nat))), some (83, true)⟩,
    ⟨some 90, (.move (.tmp (0 : Nat))), some (83, true)⟩,
    ⟨some 91, (.move (.tmp (13 : Nat))), some (83, true)⟩,
    ⟨some 92, (.indexAddr 24 (.tmp (90 : Nat)) (.tmp (91 : Nat))), some (83, true)⟩,
    ⟨some 93, (.load 33 (.tmp (92 : Nat))), some (83, true)⟩,
    ⟨some 94, (.call { callee := (.value (.tmp (84 : Nat))), args := #[(.tmp (89 : Nat)), (.tmp (93 : Nat))], argTypes := #[33, 33] }), some (83, true)⟩,
    ⟨some 95, (.binOp .lss 3 (.tmp (94 : Nat)) (.const (.int .i64 0)) 3), some (83, true)⟩,
    ⟨some 96, (.unOp .not 4 (.tmp (95 : Nat))), some (83, true)⟩,
    ⟨some 97, (.pick (.tmp (83 : Nat)) (.tmp (96 : Nat)) (.const (.bool false))), none⟩] true)
  (.cond (.tmp (97 : Nat)) (.seq (.reg 18 [⟨some 98, (.move (.tmp (0 : Nat))), none⟩,
    ⟨some 99, (.move (.tmp (1 : Nat))), none⟩,
    ⟨some 100, (.move (.tmp (2 : Nat))), none⟩,
    ⟨some 101, (.move (.tmp (13 : Nat))), none⟩,
    ⟨some 102, (.move (.tmp (4 : Nat))), none⟩,
    ⟨some 103, (.call { callee := (.value (.func (149 : Nat))), args := #[(.tmp (98 : Nat)), (.tmp (99 : Nat)), (.tmp (100 : Nat)), (.tmp (101 : Nat)), (.tmp (102 : Nat))], argTypes := #[24, 3, 3, 3, 175] }), none⟩,
    ⟨some 15, (.assign (.tmp (103 : Nat))), none⟩] false)
  (.seq (.reg 19 [⟨some 104, (.move (.tmp (15 : Nat))), none⟩,
    ⟨some 1, (.assign (.tmp (104 : Nat))), none⟩] false)
  (.exit 1))) .skip))
  (.seq (.reg 20 [⟨some 106, (.move (.tmp (0 : Nat))), none⟩,
    ⟨some 107, (.move (.tmp (1 : Nat))), none⟩,
    ⟨some 108, (.move (.tmp (2 : Nat))), none⟩,
    ⟨some 109, (.move (.tmp (13 : Nat))), none⟩,
    ⟨some 110, (.move (.tmp (4 : Nat))), none⟩,
    ⟨some 111, (.call { callee := (.value (.func (150 : Nat))), args := #[(.tmp (106 : Nat)), (.tmp (107 : Nat)), (.tmp (108 : Nat)), (.tmp (109 : Nat)), (.tmp (110 : Nat))], argTypes := #[24, 3, 3, 3, 175] }), none⟩,
    ⟨some 105, (.move (.tmp (111 : Nat))), none⟩,
    ⟨some 112, (.extract (.tmp (105 : Nat)) 0), none⟩,
    ⟨some 113, (.extract (.tmp (105 : Nat)) 1), none⟩,
    ⟨some 16, (.assign (.tmp (112 : Nat))), none⟩,
    ⟨some 17, (.assign (.tmp (113 : Nat))), none⟩] false)
  (.seq (.reg 21 [⟨some 114, (.move (.tmp (17 : Nat))), none⟩,
    ⟨some 11, (.assign (.tmp (114 : Nat))), none⟩] false)
  (.seq (.reg 22 [⟨some 115, (.move (.tmp (16 : Nat))), none⟩,
    ⟨some 116, (.move (.tmp (1 : Nat))), none⟩,
    ⟨some 117, (.binOp .sub 3 (.tmp (115 : Nat)) (.tmp (116 : Nat)) 3), none⟩,
    ⟨some 118, (.move (.tmp (2 : Nat))), none⟩,
    ⟨some 119, (.move (.tmp (16 : Nat))), none⟩,
    ⟨some 120, (.binOp .sub 3 (.tmp (118 : Nat)) (.tmp (119 : Nat)) 3), none⟩,
    ⟨some 18, (.assign (.tmp (117 : Nat))), none⟩,
    ⟨some 19, (.assign (.tmp (120 : Nat))), none⟩] false)
  (.seq (.reg 23 [⟨some 121, (.move (.tmp (12 : Nat))), none⟩,
    ⟨some 122, (.binOp .quo 3 (.tmp (121 : Nat)) (.const (.int .i64 8)) 3), none⟩,
    ⟨some 20, (.assign (.tmp (122 : Nat))), none⟩] false)
  (.seq (.reg 24 [⟨some 123, (.move (.tmp (18 : Nat))), none⟩,
    ⟨some 124, (.move (.tmp (19 : Nat))), none⟩,
    ⟨some 125, (.binOp .lss 3 (.tmp (123 : Nat)) (.tmp (124 : Nat)) 3), none⟩] false)
  (.cond (.tmp (125 : Nat)) (.seq (.reg 25 [⟨some 126, (.move (.tmp (18 : Nat))), none⟩,
    ⟨some 127, (.move (.tmp (20 : Nat))), none⟩,
    ⟨some 128, (.binOp .geq 3 (.tmp (126 : Nat)) (.tmp (127 : Nat)) 3), none⟩,
    ⟨some 10, (.assign (.tmp (128 : Nat))), none⟩] false)
  (.seq (.reg 26 [⟨some 129, (.move (.tmp (0 : Nat))), none⟩,
    ⟨some 130, (.move (.tmp (1 : Nat))), none⟩,
    ⟨some 131, (.move (.tmp (16 : Nat))), none⟩,
    ⟨some 132, (.move (.tmp (3 : Nat))), none⟩,
    ⟨some 133, (.move (.tmp (4 : Nat))), none⟩,
    ⟨some 134, (.call { callee := (.value (.func (114 : Nat))), args := #[(.tmp (129 : Nat)), (.tmp (130 : Nat)), (.tmp (131 : Nat)), (.tmp (132 : Nat)), (.tmp (133 : Nat))], argTypes := #[24, 3, 3, 3, 175] }), none⟩] false)
  (.reg 27 [⟨some 135, (.move (.tmp (16 : Nat))), none⟩,
    ⟨some 136, (.binOp .add 3 (.tmp (135 : Nat)) (.const (.int .i64 1)) 3), none⟩,
    ⟨some 1, (.assign (.tmp (136 : Nat))), none⟩] false))) (.seq (.reg 28 [⟨some 137, (.move (.tmp (19 : Nat))), none⟩,
    ⟨some 138, (.move (.tmp (20 : Nat))), none⟩,
    ⟨some 139, (.binOp .geq 3 (.tmp (137 : Nat)) (.tmp (138 : Nat)) 3), none⟩,
    ⟨some 10, (.assign (.tmp (139 : Nat))), none⟩] false)
  (.seq (.reg 29 [⟨some 140, (.move (.tmp (0 : Nat))), none⟩,
    ⟨some 141, (.move (.tmp (16 : Nat))), none⟩,
    ⟨some 142, (.binOp .add 3 (.tmp (141 : Nat)) (.const (.int .i64 1)) 3), none⟩,
    ⟨some 143, (.move (.tmp (2 : Nat))), none⟩,
    ⟨some 144, (.move (.tmp (3 : Nat))), none⟩,
    ⟨some 145, (.move (.tmp (4 : Nat))), none⟩,
    ⟨some 146, (.call { callee := (.value (.func (114 : Nat))), args := #[(.tmp (140 : Nat)), (.tmp (142 : Nat)), (.tmp (143 : Nat)), (.tmp (144 : Nat)), (.tmp (145 : Nat))], argTypes := #[24, 3, 3, 3, 175] }), none⟩] false)
  (.reg 30 [⟨some 147, (.move (.tmp (16 : Nat))), none⟩,
    ⟨some 2, (.assign (.tmp (147 : Nat))), none⟩] false))))))))))
def slPdqA.R1 : IC :=
  (.seq (.seq (.reg 15 [⟨some 68, (.move (.tmp (10 : Nat))), none⟩,
    ⟨some 69, (.move (.tmp (68 : Nat))), none⟩,
    ⟨some 70, (.move (.tmp (11 : Nat))), some (69, true)⟩,
    ⟨some 71, (.pick (.tmp (69 : Nat)) (.tmp (70 : Nat)) (.const (.bool false))), none⟩,
    ⟨some 72, (.move (.tmp (71 : Nat))), none⟩,
    ⟨some 73, (.move (.tmp (14 : Nat))), some (72, true)⟩,
    ⟨some 74, (.binOp .eql 234 (.tmp (73 : Nat)) (.const (.int .i64 1)) 234), some (72, true)⟩,
    ⟨some 75, (.pick (.tmp (72 : Nat)) (.tmp (74 : Nat)) (.const (.bool false))), none⟩] false)
  (.cond (.tmp (75 : Nat)) (.seq (.reg 16 [⟨some 76, (.move (.tmp (0 : Nat))), none⟩,
    ⟨some 77, (.move (.tmp (1 : Nat))), none⟩,
    ⟨some 78, (.move (.tmp (2 : Nat))), none⟩,
    ⟨some 79, (.move (.tmp (4 : Nat))), none⟩,
    ⟨some 80, (.call { callee := (.value (.func (148 : Nat))), args := #[(.tmp (76 : Nat)), (.tmp (77 : Nat)), (.tmp (78 : Nat)), (.tmp (79 : Nat))], argTypes := #[24, 3, 3, 175] }), none⟩] false)
  (.cond (.tmp (80 : Nat)) .ret .skip)) .skip))
  (cutIC slPdqA.R0))
def slPdqA.R2 : IC :=
  (.seq (.reg 10 [⟨some 48, (.move (.tmp (0 : Nat))), none⟩,
    ⟨some 49, (.move (.tmp (1 : Nat))), none⟩,
    ⟨some 50, (.move (.tmp (2 : Nat))), none⟩,
    ⟨some 51, (.move (.tmp (4 : Nat))), none⟩,
    ⟨some 52, (.call { callee := (.value (.func (146 : Nat))), args := #[(.tmp (48 : Nat)), (.tmp (49 : Nat)), (.tmp (50 : Nat)), (.tmp (51 : Nat))], argTypes := #[24, 3, 3, 175] }), none⟩,
    ⟨some 47, (.move (.tmp (52 : Nat))), none⟩,
    ⟨some 53, (.extract (.tmp (47 : Nat)) 0), none⟩,
    ⟨some 54, (.extract (.tmp (47 : Nat)) 1), none⟩,
    ⟨some 13, (.assign (.tmp (53 : Nat))), none⟩,
    ⟨some 14, (.assign (.tmp (54 : Nat))), none⟩] false)
  (.seq (.seq (.reg 11 [⟨some 55, (.move (.tmp (14 : Nat))), none⟩,
    ⟨some 56, (.binOp .eql 234 (.tmp (55 : Nat)) (.const (.int .i64 2)) 234), none⟩] false)
  (.cond (.tmp (56 : Nat)) (.seq (.reg 12 [⟨some 57, (.move (.tmp (0 : Nat))), none⟩,
    ⟨some 58, (.move (.tmp (1 : Nat))), none⟩,
    ⟨some 59, (.move (.tmp (2 : Nat))), none⟩,
    ⟨some 60, (.move (.tmp (4 : Nat))), none⟩,
    ⟨some 61, (.call { callee := (.value (.func (147 : Nat))), args := #[(.tmp (57 : Nat)), (.tmp (58 : Nat)), (.tmp (59 : Nat)), (.tmp (60 : Nat))], argTypes := #[24, 3, 3, 175] }), none⟩] false)
  (.seq (.reg 13 [⟨some 62, (.move (.tmp (2 : Nat))), none⟩,
    ⟨some 63, (.binOp .sub 3 (.tmp (62 : Nat)) (.const (.int .i64 1)) 3), none⟩,
    ⟨some 64, (.move (.tmp (13 : Nat))), none⟩,
    ⟨some 65, (.move (.tmp (1 : Nat))), none⟩,
    ⟨some 66, (.binOp .sub 3 (.tmp (64 : Nat)) (.tmp (65 : Nat)) 3), none⟩,
    ⟨some 67, (.binOp .sub 3 (.tmp (63 : Nat)) (.tmp (66 : Nat)) 3), none⟩,
    ⟨some 13, (.assign (.tmp (67 : Nat))), none⟩] false)
  (.reg 14 [⟨some 14, (.assign (.const (.int .i64 1))), none⟩] false))) .skip))
  (cutIC slPdqA.R1)))
def slPdqA.L0 : IC :=
  (.block 1 (.seq (.reg 2 [⟨some 21, (.move (.tmp (2 : Nat))), none⟩,
    ⟨some 22, (.move (.tmp (1 : Nat))), none⟩,
    ⟨some 23, (.binOp .sub 3 (.tmp (21 : Nat)) (.tmp (22 : Nat)) 3), none⟩,
    ⟨some 12, (.assign (.tmp (23 : Nat))), none⟩] false)
  (.seq (.seq (.reg 3 [⟨some 24, (.move (.tmp (12 : Nat))), none⟩,
    ⟨some 25, (.binOp .leq 3 (.tmp (24 : Nat)) (.const (.int .i64 12)) 3), none⟩] false)
  (.cond (.tmp (25 : Nat)) (.seq (.reg 4 [⟨some 26, (.move (.tmp (0 : Nat))), none⟩,
    ⟨some 27, (.move (.tmp (1 : Nat))), none⟩,
    ⟨some 28, (.move (.tmp (2 : Nat))), none⟩,
    ⟨some 29, (.move (.tmp (4 : Nat))), none⟩,
    ⟨some 30, (.call { callee := (.value (.func (143 : Nat))), args := #[(.tmp (26 : Nat)), (.tmp (27 : Nat)), (.tmp (28 : Nat)), (.tmp (29 : Nat))], argTypes := #[24, 3, 3, 175] }), none⟩] false)
  .ret) .skip))
  (.seq (.seq (.reg 5 [⟨some 31, (.move (.tmp (3 : Nat))), none⟩,
    ⟨some 32, (.binOp .eql 3 (.tmp (31 : Nat)) (.const (.int .i64 0)) 3), none⟩] false)
  (.cond (.tmp (32 : Nat)) (.seq (.reg 6 [⟨some 33, (.move (.tmp (0 : Nat))), none⟩,
    ⟨some 34, (.move (.tmp (1 : Nat))), none⟩,
    ⟨some 35, (.move (.tmp (2 : Nat))), none⟩,
    ⟨some 36, (.move (.tmp (4 : Nat))), none⟩,
    ⟨some 37, (.call { callee := (.value (.func (144 : Nat))), args := #[(.tmp (33 : Nat)), (.tmp (34 : Nat)), (.tmp (35 : Nat)), (.tmp (36 : Nat))], argTypes := #[24, 3, 3, 175] }), none⟩] false)
  .ret) .skip))
  (.seq (.seq (.reg 7 [⟨some 38, (.move (.tmp (10 : Nat))), none⟩,
    ⟨some 39, (.unOp .not 4 (.tmp (38 : Nat))), none⟩] false)
  (.cond (.tmp (39 : Nat)) (.seq (.reg 8 [⟨some 40, (.move (.tmp (0 : Nat))), none⟩,
    ⟨some 41, (.move (.tmp (1 : Nat))), none⟩,
    ⟨some 42, (.move (.tmp (2 : Nat))), none⟩,
    ⟨some 43, (.move (.tmp (4 : Nat))), none⟩,
    ⟨some 44, (.call { callee := (.value (.func (145 : Nat))), args := #[(.tmp (40 : Nat)), (.tmp (41 : Nat)), (.tmp (42 : Nat)), (.tmp (43 : Nat))], argTypes := #[24, 3, 3, 175] }), none⟩] false)
  (.reg 9 [⟨some 45, (.move (.tmp (3 : Nat))), none⟩,
    ⟨some 46, (.binOp .sub 3 (.tmp (45 : Nat)) (.const (.int .i64 1)) 3), none⟩,
    ⟨some 3, (.assign (.tmp (46 : Nat))), none⟩] false)) .skip))
  (cutIC slPdqA.R2))))))
def slPdqA.c : IC :=
  (.seq (.reg 0 [⟨some 10, (.assign (.const (.bool true))), none⟩] false)
  (.seq (.reg 1 [⟨some 11, (.assign (.const (.bool true))), none⟩] false)
  (.block 0 (.loop slPdqA.L0))))
theorem slPdqA.of : Tryz.f114.body.bind IC.of = some slPdqA.c := by kernel_rfl
theorem slPdqA.ok : Tryz.f114.body.map (okCode Tryz.prog Tryz.f114.ntmps (fun _ _ => false)) = some true := by kernel_rfl
def slInsA.L0 : IC :=
  (.seq (.seq (.reg 4 [⟨some 18, (.move (.tmp (9 : Nat))), none⟩,
    ⟨some 19, (.move (.tmp (1 : Nat))), none⟩,
    ⟨some 20, (.binOp .gtr 3 (.tmp (18 : Nat)) (.tmp (19 : Nat)) 3), none⟩,
    ⟨some 21, (.move (.tmp (20 : Nat))), none⟩,
    ⟨some 22, (.move (.tmp (3 : Nat))), some (21, true)⟩,
    ⟨some 23, (.move (.tmp (0 : Nat))), some (21, true)⟩,
    ⟨some 24, (.move (.tmp (9 : Nat))), some (21, true)⟩,
    ⟨some 25, (.indexAddr 24 (.tmp (23 : Nat)) (.tmp (24 : Nat))), some (21, true)⟩,
    ⟨some 26, (.load 33 (.tmp (25 : Nat))), some (21, true)⟩,
    ⟨some 27, (.move (.tmp (0 : Nat))), some (21, true)⟩,
    ⟨some 28, (.move (.tmp (9 : Nat))), some (21, true)⟩,
    ⟨some 29, (.binOp .sub 3 (.tmp (28 : Nat)) (.const (.int .i64 1)) 3), some (21, true)⟩,
    ⟨some 30, (.indexAddr 24 (.tmp (27 : Nat)) (.tmp (29 : Nat))), some (21, true)⟩,
    ⟨some 31, (.load 33 (.tmp (30 : Nat))), some (21, true)⟩,
    ⟨some 32, (.call { callee := (.value (.tmp (22 : Nat))), args := #[(.tmp (26 : Nat)), (.tmp (31 : Nat))], argTypes := #[33, 33] }), some (21, true)⟩,
    ⟨some 33, (.binOp .lss 3 (.tmp (32 : Nat)) (.const (.int .i64 0)) 3), some (21, true)⟩,
    ⟨some 34, (.pick (.tmp (21 : Nat)) (.tmp (33 : Nat)) (.const (.bool false))), none⟩] true)
  (.cond (.tmp (34 : Nat)) .skip (.exit 2)))
  (.seq (.block 3 (.reg 6 [⟨some 37, (.move (.tmp (0 : Nat))), none⟩,
    ⟨some 38, (.move (.tmp (9 : Nat))), none⟩,
    ⟨some 39, (.move (.tmp (0 : Nat))), none⟩,
    ⟨some 40, (.move (.tmp (9 : Nat))), none⟩,
    ⟨some 41, (.binOp .sub 3 (.tmp (40 : Nat)) (.const (.int .i64 1)) 3), none⟩,
    ⟨some 42, (.move (.tmp (0 : Nat))), none⟩,
    ⟨some 43, (.move (.tmp (9 : Nat))), none⟩,
    ⟨some 44, (.binOp .sub 3 (.tmp (43 : Nat)) (.const (.int .i64 1)) 3), none⟩,
    ⟨some 45, (.indexAddr 24 (.tmp (42 : Nat)) (.tmp (44 : Nat))), none⟩,
    ⟨some 46, (.load 33 (.tmp (45 : Nat))), none⟩,
    ⟨some 47, (.move (.tmp (0 : Nat))), none⟩,
    ⟨some 48, (.move (.tmp (9 : Nat))), none⟩,
    ⟨some 49, (.indexAddr 24 (.tmp (47 : Nat)) (.tmp (48 : Nat))), none⟩,
    ⟨some 50, (.load 33 (.tmp (49 : Nat))), none⟩,
    ⟨some 51, (.indexAddr 24 (.tmp (37 : Nat)) (.tmp (38 : Nat))), none⟩,
    ⟨none, (.store 33 (.tmp (51 : Nat)) (.tmp (46 : Nat))), none⟩,
    ⟨some 52, (.indexAddr 24 (.tmp (39 : Nat)) (.tmp (41 : Nat))), none⟩,
    ⟨none, (.store 33 (.tmp (52 : Nat)) (.tmp (50 : Nat))), none⟩] true))
  (.reg 5 [⟨some 35, (.move (.tmp (9 : Nat))), none⟩,
    ⟨some 36, (.binOp .sub 3 (.tmp (35 : Nat)) (.const (.int .i64 1)) 3), none⟩,
    ⟨some 9, (.assign (.tmp (36 : Nat))), none⟩] false)))
def slInsA.R0 : IC :=
  (.reg 2 [⟨some 15, (.move (.tmp (8 : Nat))), none⟩,
    ⟨some 16, (.binOp .add 3 (.tmp (15 : Nat)) (.const (.int .i64 1)) 3), none⟩,
    ⟨some 8, (.assign (.tmp (16 : Nat))), none⟩] false)
def slInsA.L1 : IC :=
  (.seq (.seq (.reg 1 [⟨some 12, (.move (.tmp (8 : Nat))), none⟩,
    ⟨some 13, (.move (.tmp (2 : Nat))), none⟩,
    ⟨some 14, (.binOp .lss 3 (.tmp (12 : Nat)) (.tmp (13 : Nat)) 3), none⟩] false)
  (.cond (.tmp (14 : Nat)) .skip (.exit 0)))
  (.seq (.block 1 (.seq (.reg 3 [⟨some 17, (.move (.tmp (8 : Nat))), none⟩,
    ⟨some 9, (.assign (.tmp (17 : Nat))), none⟩] false)
  (.block 2 (.loop slInsA.L0))))
  (cutIC slInsA.R0)))
def slInsA.c : IC :=
  (.seq (.reg 0 [⟨some 10, (.move (.tmp (1 : Nat))), none⟩,
    ⟨some 11, (.binOp .add 3 (.tmp (10 : Nat)) (.const (.int .i64 1)) 3), none⟩,
    ⟨some 8, (.assign (.tmp (11 : Nat))), none⟩] false)
  (.block 0 (.loop slInsA.L1)))
theorem slInsA.of : Tryz.f143.body.bind IC.of = some slInsA.c := by kernel_rfl
theorem slInsA.ok : Tryz.f143.body.map (okCode Tryz.prog Tryz.f143.ntmps (fun _ _ => false)) = some true := by kernel_rfl
variable {W0 : World}
theorem wrapu0 : IntKind.u64.wrap 0 = 0 := rfl
theorem wrapi0 : IntKind.i64.wrap 0 = 0 := rfl
theorem wrapi1 : IntKind.i64.wrap 1 = 1 := rfl
def sLen0 : Sem1 := fun args _ => match args with
  | [.val (.int .u64 0)] => some (.val (.int .i64 0))
  | _ => none
@[go_sem] theorem sLen0_eq (H : Heap) : sLen0 [.val (.int .u64 0)] H = some (.val (.int .i64 0)) := rfl
theorem l_Len0 : PureF Tryz.prog W0 101 sLen0 := by
  refine .below ⟨_, Tryz.func101, by kernel_rfl, by kernel_rfl⟩ ?_
  intro args H v hs G nx w vals hsim hb hsz hr
  unfold sLen0 at hs
  split at hs <;> cases hs
  obtain ⟨y, rfl, hy⟩ := vals_one hsz hr
  rw [rep_val hy]
  have L := Tryz.sortAct
  refine (Any.bits_Len (SlLaysF0.n15.bits (P := Tryz.prog) (ρ := Tryz.sortAct_ren) { L with }) 0 w (by omega) (by omega)).mono ?_
  rintro e w' ⟨rfl, rfl⟩
  exact ⟨_, rfl, .val, Below.refl _ _, fun _ => Nat.le_refl _⟩
theorem w_insNil (f : Nat) {H : Heap} : IT Tryz.prog W0 143 [.nil, .val (.int .i64 0), .val (.int .i64 0), .fn f []] H (fun v H' => v = .tup [] ∧ H' = H) := by
  refine IT.ofS_x (rs := []) (fun _ _ => false) (Φ := []) trivial T.mixed Tryz.func143 slInsA.of rfl slInsA.ok rfl (by simp [Tryz.f143]) ?_
  unfold slInsA.c
  simp (implicitDefEqProofs := false) only [go_sem, reduceIte, Nat.reduceEqDiff, Nat.reduceAdd, Nat.reduceSub, Nat.reduceMul, Nat.reduceLeDiff, Int.reduceLT, Int.reduceLE, Int.reduceEq, Int.reduceAdd, Int.reduceSub, Int.reduceMul, Int.reduceNeg, Int.reduceToNat, reduceCtorEq, Nat.reduceBEq, Nat.reduceLT]
  refine wpO_up 0 (fun i fr H' => H' = H ∧ fr 2 = .val (.int .i64 0) ∧ fr 8 = .val (.int .i64 1)) 0 ?_ ?_
  · simp (implicitDefEqProofs := false) only [go_sem, reduceIte, Nat.reduceEqDiff, Nat.reduceAdd, Nat.reduceSub, Nat.reduceMul, Nat.reduceLeDiff, Int.reduceLT, Int.reduceLE, Int.reduceEq, Int.reduceAdd, Int.reduceSub, Int.reduceMul, Int.reduceNeg, Int.reduceToNat, reduceCtorEq, Nat.reduceBEq, Nat.reduceLT, wrapi1]
  · rintro i fr H' ⟨rfl, f2, f8⟩
    unfold slInsA.L1
    simp (implicitDefEqProofs := false) only [go_sem, reduceIte, Nat.reduceEqDiff, Nat.reduceAdd, Nat.reduceSub, Nat.reduceMul, Nat.reduceLeDiff, Int.reduceLT, Int.reduceLE, Int.reduceEq, Int.reduceAdd, Int.reduceSub, Int.reduceMul, Int.reduceNeg, Int.reduceToNat, reduceCtorEq, Nat.reduceBEq, Nat.reduceLT, f2, f8]
theorem w_pdqNil (f : Nat) {H : Heap} : IT Tryz.prog W0 114 [.nil, .val (.int .i64 0), .val (.int .i64 0), .val (.int .i64 0), .fn f []] H (fun v H' => v = .tup [] ∧ H' = H) := by
  refine IT.ofS_x (rs := []) (fun _ _ => false) (Φ := []) trivial T.mixed Tryz.func114 slPdqA.of rfl slPdqA.ok rfl (by simp [Tryz.f114]) ?_
  unfold slPdqA.c
  simp (implicitDefEqProofs := false) only [go_sem, reduceIte, Nat.reduceEqDiff, Nat.reduceAdd, Nat.reduceSub, Nat.reduceMul, Nat.reduceLeDiff, Int.reduceLT, Int.reduceLE, Int.reduceEq, Int.reduceAdd, Int.reduceSub, Int.reduceMul, Int.reduceNeg, Int.reduceToNat, reduceCtorEq, Nat.reduceBEq, Nat.reduceLT]
  refine wpO_up 0 (fun i fr H' => H' = H ∧ fr 0 = .nil ∧ fr 1 = .val (.int .i64 0) ∧ fr 2 = .val (.int .i64 0) ∧ fr 4 = .fn f []) 0 ?_ ?_
  · simp (implicitDefEqProofs := false) only [go_sem, reduceIte, Nat.reduceEqDiff, Nat.reduceAdd, Nat.reduceSub, Nat.reduceMul, Nat.reduceLeDiff, Int.reduceLT, Int.reduceLE, Int.reduceEq, Int.reduceAdd, Int.reduceSub, Int.reduceMul, Int.reduceNeg, Int.reduceToNat, reduceCtorEq, Nat.reduceBEq, Nat.reduceLT, wrapi1]
  · rintro i fr H' ⟨rfl, f0, f1, f2, f4⟩
    unfold slPdqA.L0
    simp (implicitDefEqProofs := false) only [go_sem, reduceIte, Nat.reduceEqDiff, Nat.reduceAdd, Nat.reduceSub, Nat.reduceMul, Nat.reduceLeDiff, Int.reduceLT, Int.reduceLE, Int.reduceEq, Int.reduceAdd, Int.reduceSub, Int.reduceMul, Int.reduceNeg, Int.reduceToNat, reduceCtorEq, Nat.reduceBEq, Nat.reduceLT, f0, f1, f2, f4, wrapi0]
    rw [itO_eq]
    refine (w_insNil f).mono ?_
    rintro v H1 ⟨rfl, rfl⟩
    simp (implicitDefEqProofs := false) only [go_sem, reduceIte, Nat.reduceEqDiff, Nat.reduceAdd, Nat.reduceSub, Nat.reduceMul, Nat.reduceLeDiff, Int.reduceLT, Int.reduceLE, Int.reduceEq, Int.reduceAdd, Int.reduceSub, Int.reduceMul, Int.reduceNeg, Int.reduceToNat, reduceCtorEq, Nat.reduceBEq, Nat.reduceLT]
theorem w_sortNil (f : Nat) {H : Heap} : IT Tryz.prog W0 78 [.nil, .fn f []] H (fun v H' => v = .tup [] ∧ H' = H) := by
  refine IT.ofS_x (rs := []) (fun _ _ => false) (Φ := [(101, sLen0)]) ⟨l_Len0, trivial⟩ T.mixed Tryz.func78 slSortA.of rfl slSortA.ok rfl (by simp [Tryz.f78]) ?_
  unfold slSortA.c
  simp (implicitDefEqProofs := false) only [go_sem, reduceIte, Nat.reduceEqDiff, Nat.reduceAdd, Nat.reduceSub, Nat.reduceMul, Nat.reduceLeDiff, Int.reduceLT, Int.reduceLE, Int.reduceEq, Int.reduceAdd, Int.reduceSub, Int.reduceMul, Int.reduceNeg, Int.reduceToNat, reduceCtorEq, Nat.reduceBEq, Nat.reduceLT, wrapu0]
  rw [itO_eq]
  refine (w_pdqNil f).mono ?_
  rintro v H' ⟨rfl, rfl⟩
  simp (implicitDefEqProofs := false) only [go_sem, reduceIte, Nat.reduceEqDiff, Nat.reduceAdd, Nat.reduceSub, Nat.reduceMul, Nat.reduceLeDiff, Int.reduceLT, Int.reduceLE, Int.reduceEq, Int.reduceAdd, Int.reduceSub, Int.reduceMul, Int.reduceNeg, Int.reduceToNat, reduceCtorEq, Nat.reduceBEq, Nat.reduceLT]
end Go.Proofs.W

namespace Go.Proofs.W
set_option linter.unusedSimpArgs false
set_option maxRecDepth 20000
open Go Go.IL Go.Proofs
def plIn.c : IC :=
  (.seq (.reg 0 [⟨some 4, (.assign (.const (.bool false))), none⟩] false)
  (.seq (.reg 1 [⟨some 5, (.move (.tmp (0 : Nat))), none⟩,
    ⟨some 6, (.load 9 (.tmp (1 : Nat))), none⟩,
    ⟨some 7, (.call { callee := (.value (.func (64 : Nat))), args := #[(.tmp (5 : Nat)), (.const (.int .i64 2)), (.tmp (6 : Nat)), (.const (.string ⟨#[97, 114, 101, 97]⟩))], argTypes := #[29, 3, 9, 9] }), none⟩,
    ⟨some 8, (.fieldAddr 80 (.tmp (2 : Nat)) 1), none⟩,
    ⟨some 9, (.load 9 (.tmp (8 : Nat))), none⟩,
    ⟨some 10, (.binOp .eql 9 (.tmp (7 : Nat)) (.tmp (9 : Nat)) 9), none⟩,
    ⟨some 4, (.assign (.tmp (10 : Nat))), none⟩] true)
  .ret))
theorem plIn.of : Tryz.f73.body.bind IC.of = some plIn.c := by kernel_rfl
theorem plIn.ok : Tryz.f73.body.map (okCode Tryz.prog Tryz.f73.ntmps (fun _ _ => false)) = some true := by kernel_rfl
def plArea.R0 : IC :=
  (.reg 9 [⟨some 52, (.binOp .add 3 (.tmp (22 : Nat)) (.const (.int .i64 1)) 3), none⟩,
    ⟨some 22, (.move (.tmp (52 : Nat))), none⟩] false)
def plArea.L0 : IC :=
  (.seq (.reg 4 [⟨some 23, (.binOp .lss 3 (.tmp (22 : Nat)) (.tmp (21 : Nat)) 3), none⟩] false)
  (.seq (.cond (.tmp (23 : Nat)) .skip (.exit 0))
  (.seq (.block 1 (.seq (.reg 5 [⟨some 24, (.indexAddr 43 (.tmp (20 : Nat)) (.tmp (22 : Nat))), none⟩,
    ⟨some 25, (.load 9 (.tmp (24 : Nat))), none⟩,
    ⟨some 5, (.alloc 9), none⟩,
    ⟨none, (.store 9 (.tmp (5 : Nat)) (.tmp (25 : Nat))), none⟩] false)
  (.seq (.reg 6 [⟨some 26, (.makeFunc (.func 73) #[] #[(.tmp (5 : Nat)), (.tmp (3 : Nat))]), none⟩,
    ⟨some 6, (.assign (.tmp (26 : Nat))), none⟩] false)
  (.seq (.reg 7 [⟨some 27, (.move (.tmp (0 : Nat))), none⟩,
    ⟨some 28, (.nilCheck (.tmp (27 : Nat))), none⟩,
    ⟨some 29, (.fieldAddr 78 (.tmp (28 : Nat)) 1), none⟩,
    ⟨some 30, (.load 29 (.tmp (29 : Nat))), none⟩,
    ⟨some 31, (.load 9 (.tmp (5 : Nat))), none⟩,
    ⟨some 32, (.call { callee := (.value (.func (74 : Nat))), args := #[(.tmp (30 : Nat)), (.tmp (31 : Nat))], argTypes := #[29, 9] }), none⟩,
    ⟨some 33, (.move (.tmp (32 : Nat))), none⟩,
    ⟨some 34, (.move (.tmp (6 : Nat))), some (33, true)⟩,
    ⟨some 35, (.move (.tmp (0 : Nat))), some (33, true)⟩,
    ⟨some 36, (.nilCheck (.tmp (35 : Nat))), some (33, true)⟩,
    ⟨some 37, (.fieldAddr 78 (.tmp (36 : Nat)) 0), some (33, true)⟩,
    ⟨some 38, (.load 29 (.tmp (37 : Nat))), some (33, true)⟩,
    ⟨some 39, (.call { callee := (.value (.tmp (34 : Nat))), args := #[(.tmp (38 : Nat))], argTypes := #[29] }), some (33, true)⟩,
    ⟨some 40, (.pick (.tmp (33 : Nat)) (.tmp (39 : Nat)) (.const (.bool false))), none⟩,
    ⟨some 41, (.move (.tmp (40 : Nat))), none⟩,
    ⟨some 42, (.move (.tmp (6 : Nat))), some (41, true)⟩,
    ⟨some 43, (.move (.tmp (0 : Nat))), some (41, true)⟩,
    ⟨some 44, (.nilCheck (.tmp (43 : Nat))), some (41, true)⟩,
    ⟨some 45, (.fieldAddr 78 (.tmp (44 : Nat)) 1), some (41, true)⟩,
    ⟨some 46, (.load 29 (.tmp (45 : Nat))), some (41, true)⟩,
    ⟨some 47, (.call { callee := (.value (.tmp (42 : Nat))), args := #[(.tmp (46 : Nat))], argTypes := #[29] }), some (41, true)⟩,
    ⟨some 48, (.pick (.tmp (41 : Nat)) (.tmp (47 : Nat)) (.const (.bool false))), none⟩] true)
  (.cond (.tmp (48 : Nat)) (.reg 8 [⟨some 49, (.move (.tmp (0 : Nat))), none⟩,
    ⟨some 50, (.load 9 (.tmp (5 : Nat))), none⟩,
    ⟨some 51, (.call { callee := (.value (.func (75 : Nat))), args := #[(.tmp (49 : Nat)), (.tmp (50 : Nat)), (.const (.int .i64 5))], argTypes := #[74, 9, 3] }), none⟩] false) .skip)))))
  (cutIC plArea.R0))))
def plArea.c : IC :=
  (.seq (.reg 0 [⟨some 3, (.box 80 (.tmp (1 : Nat))), none⟩] false)
  (.seq (.seq (.reg 1 [⟨some 7, (.fieldAddr 80 (.tmp (3 : Nat)) 2), none⟩,
    ⟨some 8, (.load 9 (.tmp (7 : Nat))), none⟩,
    ⟨some 9, (.binOp .eql 9 (.tmp (8 : Nat)) (.const (.string ⟨#[99, 111, 115, 116]⟩)) 9), none⟩] false)
  (.cond (.tmp (9 : Nat)) (.seq (.reg 2 [⟨some 10, (.move (.tmp (0 : Nat))), none⟩,
    ⟨some 11, (.nilCheck (.tmp (10 : Nat))), none⟩,
    ⟨some 12, (.fieldAddr 78 (.tmp (11 : Nat)) 3), none⟩,
    ⟨some 13, (.load 76 (.tmp (12 : Nat))), none⟩,
    ⟨some 14, (.fieldAddr 80 (.tmp (3 : Nat)) 1), none⟩,
    ⟨some 15, (.load 9 (.tmp (14 : Nat))), none⟩,
    ⟨none, (.mapUpdate 76 (.tmp (13 : Nat)) (.tmp (15 : Nat)) (.const (.bool true))), none⟩] true)
  .ret) .skip))
  (.seq (.reg 3 [⟨some 16, (.move (.tmp (0 : Nat))), none⟩,
    ⟨some 17, (.nilCheck (.tmp (16 : Nat))), none⟩,
    ⟨some 18, (.fieldAddr 78 (.tmp (17 : Nat)) 0), none⟩,
    ⟨some 19, (.load 29 (.tmp (18 : Nat))), none⟩,
    ⟨some 20, (.call { callee := (.value (.func (29 : Nat))), args := #[(.tmp (19 : Nat)), (.const (.int .i64 2))], argTypes := #[29, 3] }), none⟩,
    ⟨some 21, (.call { callee := (.builtin .len), args := #[(.tmp (20 : Nat))], argTypes := #[43] }), none⟩,
    ⟨some 22, (.move (.const (.int .i64 0))), none⟩] false)
  (.block 0 (.loop plArea.L0)))))
theorem plArea.of : Tryz.f30.body.bind IC.of = some plArea.c := by kernel_rfl
theorem plArea.ok : Tryz.f30.body.map (okCode Tryz.prog Tryz.f30.ntmps (fun _ f => decide (f = 75))) = some true := by kernel_rfl
def plIface.c : IC :=
  (.seq (.reg 0 [⟨some 3, (.box 80 (.tmp (1 : Nat))), none⟩] false)
  (.block 0 (.seq (.reg 3 [⟨some 22, (.move (.tmp (0 : Nat))), none⟩,
    ⟨some 23, (.nilCheck (.tmp (22 : Nat))), none⟩,
    ⟨some 24, (.fieldAddr 78 (.tmp (23 : Nat)) 1), none⟩,
    ⟨some 25, (.load 29 (.tmp (24 : Nat))), none⟩,
    ⟨some 26, (.fieldAddr 80 (.tmp (3 : Nat)) 1), none⟩,
    ⟨some 27, (.load 9 (.tmp (26 : Nat))), none⟩,
    ⟨some 28, (.call { callee := (.value (.func (74 : Nat))), args := #[(.tmp (25 : Nat)), (.tmp (27 : Nat))], argTypes := #[29, 9] }), none⟩,
    ⟨some 29, (.unOp .not 4 (.tmp (28 : Nat))), none⟩,
    ⟨some 21, (.assign (.tmp (29 : Nat))), none⟩] true)
  (.cond (.tmp (21 : Nat)) (.reg 4 [⟨some 30, (.move (.tmp (0 : Nat))), none⟩,
    ⟨some 31, (.fieldAddr 80 (.tmp (3 : Nat)) 1), none⟩,
    ⟨some 32, (.load 9 (.tmp (31 : Nat))), none⟩,
    ⟨some 33, (.call { callee := (.value (.func (75 : Nat))), args := #[(.tmp (30 : Nat)), (.tmp (32 : Nat)), (.const (.int .i64 2))], argTypes := #[74, 9, 3] }), none⟩] false) (.seq (.reg 5 [⟨some 35, (.move (.tmp (0 : Nat))), none⟩,
    ⟨some 36, (.nilCheck (.tmp (35 : Nat))), none⟩,
    ⟨some 37, (.fieldAddr 78 (.tmp (36 : Nat)) 0), none⟩,
    ⟨some 38, (.load 29 (.tmp (37 : Nat))), none⟩,
    ⟨some 39, (.fieldAddr 80 (.tmp (3 : Nat)) 1), none⟩,
    ⟨some 40, (.load 9 (.tmp (39 : Nat))), none⟩,
    ⟨some 41, (.call { callee := (.value (.func (74 : Nat))), args := #[(.tmp (38 : Nat)), (.tmp (40 : Nat))], argTypes := #[29, 9] }), none⟩,
    ⟨some 42, (.unOp .not 4 (.tmp (41 : Nat))), none⟩,
    ⟨some 34, (.assign (.tmp (42 : Nat))), none⟩] true)
  (.cond (.tmp (34 : Nat)) (.reg 6 [⟨some 43, (.move (.tmp (0 : Nat))), none⟩,
    ⟨some 44, (.fieldAddr 80 (.tmp (3 : Nat)) 1), none⟩,
    ⟨some 45, (.load 9 (.tmp (44 : Nat))), none⟩,
    ⟨some 46, (.call { callee := (.value (.func (75 : Nat))), args := #[(.tmp (43 : Nat)), (.tmp (45 : Nat)), (.const (.int .i64 6))], argTypes := #[74, 9, 3] }), none⟩] false) (.seq (.reg 1 [⟨some 7, (.fieldAddr 80 (.tmp (3 : Nat)) 0), none⟩,
    ⟨some 8, (.load 3 (.tmp (7 : Nat))), none⟩,
    ⟨some 9, (.fieldAddr 80 (.tmp (3 : Nat)) 2), none⟩,
    ⟨some 10, (.load 9 (.tmp (9 : Nat))), none⟩,
    ⟨some 11, (.call { callee := (.value (.func (76 : Nat))), args := #[(.tmp (8 : Nat)), (.tmp (10 : Nat))], argTypes := #[3, 9] }), none⟩,
    ⟨some 6, (.move (.tmp (11 : Nat))), none⟩,
    ⟨some 12, (.extract (.tmp (6 : Nat)) 0), none⟩,
    ⟨some 13, (.extract (.tmp (6 : Nat)) 1), none⟩,
    ⟨some 4, (.alloc 169), none⟩,
    ⟨none, (.store 169 (.tmp (4 : Nat)) (.tmp (12 : Nat))), none⟩,
    ⟨some 5, (.assign (.tmp (13 : Nat))), none⟩] false)
  (.reg 2 [⟨some 14, (.move (.tmp (0 : Nat))), none⟩,
    ⟨some 15, (.fieldAddr 80 (.tmp (3 : Nat)) 1), none⟩,
    ⟨some 16, (.load 9 (.tmp (15 : Nat))), none⟩,
    ⟨some 17, (.fieldAddr 169 (.tmp (4 : Nat)) 7), none⟩,
    ⟨some 18, (.load 3 (.tmp (17 : Nat))), none⟩,
    ⟨some 19, (.call { callee := (.value (.func (77 : Nat))), args := #[(.tmp (18 : Nat))], argTypes := #[3] }), none⟩,
    ⟨some 20, (.call { callee := (.value (.func (75 : Nat))), args := #[(.tmp (14 : Nat)), (.tmp (16 : Nat)), (.tmp (19 : Nat))], argTypes := #[74, 9, 3] }), none⟩] true))))))))
theorem plIface.of : Tryz.f31.body.bind IC.of = some plIface.c := by kernel_rfl
theorem plIface.ok : Tryz.f31.body.map (okCode Tryz.prog Tryz.f31.ntmps (fun _ f => decide (f = 75))) = some true := by kernel_rfl
variable {W0 : World}
theorem any_find {n : Text} {s : List Text} : s.any (fun m => decide (n = m)) = (s.findIdx? fun m => decide (n = m)).isSome := by
  induction s with
  | nil => rfl
  | cons a s ih =>
    rw [List.any_cons, List.findIdx?_cons, ih]
    by_cases h : n = a <;> simp [h]
theorem add_set (s : List Text) (n : Text) : setKV (s.map areaV) (s.findIdx? fun m => decide (n = m)) (.str n) (.val (.bool true)) = (addB s n).map areaV := by
  unfold addB
  rw [any_find]
  cases hf : s.findIdx? (fun m => decide (n = m)) with
  | none => simp [setKV, areaV]
  | some i =>
    rw [List.findIdx?_eq_some_iff_getElem] at hf
    obtain ⟨hi, hp, -⟩ := hf
    simp only [decide_eq_true_eq] at hp
    simp only [Option.isSome_some, if_true, setKV]
    exact set_at_self (by rw [List.getElem?_map, List.getElem?_eq_getElem hi, ← hp]; rfl)
def inI (x : V) (o o' : IL.Obj) : Option V := match o, o' with
  | .mem 1 [.str n], .mem 4 [.agg [.val (.int .i64 _), .str a, .str _, .str _]] => (confOf x).bind fun c => if confOk c then some (.val (.bool (decide (valueB c 2 n [97, 114, 101, 97] = a)))) else none
  | _, _ => none
/-- The closure: is an interface's area that one? -/
def sIn : Sem1 := fun args H => match args with
  | [x, .ptr i 1 0 0, .ptr j 4 0 0] => inI x (H i) (H j)
  | _ => none
@[go_sem] theorem sIn_eq (x : V) (i j : Nat) (H : Heap) : sIn [x, .ptr i 1 0 0, .ptr j 4 0 0] H = inI x (H i) (H j) := rfl
@[go_sem] theorem inI_eq (x : V) (n a b d : Text) (k : Int) : inI x (.mem 1 [.str n]) (.mem 4 [.agg [.val (.int .i64 k), .str a, .str b, .str d]]) = (confOf x).bind fun c => if confOk c then some (.val (.bool (decide (valueB c 2 n [97, 114, 101, 97] = a)))) else none := rfl
theorem w_plIn (h1 : PureF Tryz.prog W0 64 sValue) : PureF Tryz.prog W0 73 sIn := by
  refine PureF.of (rs := [(.tmp 4)]) (fun _ _ => false) (Φ := [(64, sValue)]) ⟨h1, trivial⟩ T.mixed Tryz.func73 plIn.of rfl plIn.ok rfl ?_
  intro args H v hs
  unfold sIn at hs
  split at hs
  · rename_i x i j
    unfold inI at hs
    split at hs
    · rename_i n k a b d hi hj
      simp only [Option.bind_eq_some_iff] at hs
      obtain ⟨c, hc, hs⟩ := hs
      split at hs <;> cases hs
      rename_i hok
      refine ⟨by simp [Tryz.f73], ?_⟩
      unfold plIn.c
      simp (implicitDefEqProofs := false) only [go_sem, reduceIte, Nat.reduceEqDiff, Nat.reduceAdd, Nat.reduceSub, Nat.reduceMul, Nat.reduceLeDiff, Int.reduceLT, Int.reduceLE, Int.reduceEq, Int.reduceAdd, Int.reduceSub, Int.reduceMul, Int.reduceNeg, Int.reduceToNat, reduceCtorEq, Nat.reduceBEq, Nat.reduceLT, hc, hok, hi, hj]
    · cases hs
  · cases hs
/-- What a line of an interface lets be done. -/
def ifaceB (a b : List Line) (f : List (Text × Int)) (l : Line) : List (Text × Int) :=
  leastB f l.name (if hasB b l.name = true then (if hasB a l.name = true then kindB ((findRow l.head l.leaf).getD row0).cls else 6) else 2)
theorem w_plIface {H : Heap} {p mi mj : Nat} {xa xb : V} {a b : List Line} {st : Plan} (h1 : PureF Tryz.prog W0 74 sHasC) (h2 : PureF Tryz.prog W0 76 sFind) (h3 : PureF Tryz.prog W0 77 sKind)
    (ha : confOf xa = some a) (hb : confOf xb = some b) (oka : confOk a) (okb : confOk b) (hp : PlanAt H p mi mj xa xb st) (l : Line) :
    IT Tryz.prog W0 31 [.ptr p 4 0 0, lineV l] H (fun v H' => v = .tup [] ∧ PlanTo H H' p mi mj xa xb { st with faces := ifaceB a b st.faces l }) := by
  refine IT.ofS_x (rs := []) (fun _ f => decide (f = 75)) (Φ := [(74, sHasC), (76, sFind), (77, sKind)]) ⟨h1, h2, h3, trivial⟩ T.mixed Tryz.func31 plIface.of rfl plIface.ok rfl (by simp [Tryz.f31]) ?_
  have hat := hp.at_
  unfold plIface.c ifaceB
  have fin : ∀ (k : Int) (id : Nat) (o : IL.Obj), H id = .dead → (∀ m s, o ≠ .iter m s) → ∀ (v : V) H', (v = .tup [] ∧ PlanTo (H.set id o) H' p mi mj xa xb { st with faces := leastB st.faces l.name k }) → PlanTo H H' p mi mj xa xb { st with faces := leastB st.faces l.name k } := by
    intro k id o hid ho v H' h
    exact ((PlanTo.start hp).new hid ho).trans h.2
  cases hhb : hasB b l.name with
  | false =>
    simp (implicitDefEqProofs := false) (contextual := true) only [go_sem, reduceIte, Nat.reduceEqDiff, Nat.reduceAdd, Nat.reduceSub, Nat.reduceMul, Nat.reduceLeDiff, Int.reduceLT, Int.reduceLE, Int.reduceEq, Int.reduceAdd, Int.reduceSub, Int.reduceMul, Int.reduceNeg, Int.reduceToNat, reduceCtorEq, Nat.reduceBEq, Nat.reduceLT, lineV, hat, ha, hb, oka, okb, hhb]
    intro id hid
    rw [itO_eq]
    refine (w_plLeast (hp.new hid (by intro m s e; cases e)) l.name 2).mono ?_
    rintro v H' h
    simp (implicitDefEqProofs := false) only [go_sem, reduceIte, Nat.reduceEqDiff, Nat.reduceAdd, Nat.reduceSub, Nat.reduceMul, Nat.reduceLeDiff, Int.reduceLT, Int.reduceLE, Int.reduceEq, Int.reduceAdd, Int.reduceSub, Int.reduceMul, Int.reduceNeg, Int.reduceToNat, reduceCtorEq, Nat.reduceBEq, Nat.reduceLT, h.1]
    exact fin 2 id _ hid (by intro m s e; cases e) v H' h
  | true =>
    cases hha : hasB a l.name with
    | false =>
      simp (implicitDefEqProofs := false) (contextual := true) only [go_sem, reduceIte, Nat.reduceEqDiff, Nat.reduceAdd, Nat.reduceSub, Nat.reduceMul, Nat.reduceLeDiff, Int.reduceLT, Int.reduceLE, Int.reduceEq, Int.reduceAdd, Int.reduceSub, Int.reduceMul, Int.reduceNeg, Int.reduceToNat, reduceCtorEq, Nat.reduceBEq, Nat.reduceLT, lineV, hat, ha, hb, oka, okb, hhb, hha]
      intro id hid
      rw [itO_eq]
      refine (w_plLeast (hp.new hid (by intro m s e; cases e)) l.name 6).mono ?_
      rintro v H' h
      simp (implicitDefEqProofs := false) only [go_sem, reduceIte, Nat.reduceEqDiff, Nat.reduceAdd, Nat.reduceSub, Nat.reduceMul, Nat.reduceLeDiff, Int.reduceLT, Int.reduceLE, Int.reduceEq, Int.reduceAdd, Int.reduceSub, Int.reduceMul, Int.reduceNeg, Int.reduceToNat, reduceCtorEq, Nat.reduceBEq, Nat.reduceLT, h.1]
      exact fin 6 id _ hid (by intro m s e; cases e) v H' h
    | true =>
      simp (implicitDefEqProofs := false) (contextual := true) only [go_sem, reduceIte, Nat.reduceEqDiff, Nat.reduceAdd, Nat.reduceSub, Nat.reduceMul, Nat.reduceLeDiff, Int.reduceLT, Int.reduceLE, Int.reduceEq, Int.reduceAdd, Int.reduceSub, Int.reduceMul, Int.reduceNeg, Int.reduceToNat, reduceCtorEq, Nat.reduceBEq, Nat.reduceLT, lineV, hat, ha, hb, oka, okb, hhb, hha, rowV]
      intro id hid id2 n1 n2 hid2
      have hp2 := (hp.new hid (o := .mem 4 [.agg [.val (.int .i64 l.head), .str l.name, .str l.leaf, .str l.value]]) (by intro m s e; cases e))
      have hd2 : (H.set id (.mem 4 [.agg [.val (.int .i64 l.head), .str l.name, .str l.leaf, .str l.value]])) id2 = .dead := by rw [Heap.set_ne _ _ n1]; exact hid2
      rw [itO_eq]
      refine (w_plLeast (hp2.new hd2 (by intro m s e; cases e)) l.name _).mono ?_
      rintro v H' h
      simp (implicitDefEqProofs := false) only [go_sem, reduceIte, Nat.reduceEqDiff, Nat.reduceAdd, Nat.reduceSub, Nat.reduceMul, Nat.reduceLeDiff, Int.reduceLT, Int.reduceLE, Int.reduceEq, Int.reduceAdd, Int.reduceSub, Int.reduceMul, Int.reduceNeg, Int.reduceToNat, reduceCtorEq, Nat.reduceBEq, Nat.reduceLT, h.1]
      exact (((PlanTo.start hp).new hid (by intro m s e; cases e)).new hd2 (by intro m s e; cases e)).trans h.2
/-- What a line of an area lets be done. -/
def facesB (a b : List Line) (m : Text) (f : List (Text × Int)) (n : Text) : List (Text × Int) :=
  if hasB b n = true ∧ valueB a 2 n [97, 114, 101, 97] = m ∧ valueB b 2 n [97, 114, 101, 97] = m then leastB f n 5 else f
def areaB (a b : List Line) (st : Plan) (l : Line) : Plan :=
  if l.leaf = [99, 111, 115, 116] then { st with areas := addB st.areas l.name } else { st with faces := (namesB a 2).foldl (facesB a b l.name) st.faces }
theorem w_plArea {H : Heap} {p mi mj : Nat} {xa xb : V} {a b : List Line} {st : Plan} (h1 : PureF Tryz.prog W0 74 sHasC) (h2 : PureF Tryz.prog W0 73 sIn) (h3 : PureF Tryz.prog W0 29 sNames)
    (ha : confOf xa = some a) (hb : confOf xb = some b) (oka : confOk a) (okb : confOk b) (hp : PlanAt H p mi mj xa xb st) (l : Line) :
    IT Tryz.prog W0 30 [.ptr p 4 0 0, lineV l] H (fun v H' => v = .tup [] ∧ PlanTo H H' p mi mj xa xb (areaB a b st l)) := by
  refine IT.ofS_x (rs := []) (fun _ f => decide (f = 75)) (Φ := [(74, sHasC), (73, sIn), (29, sNames)]) ⟨h1, h2, h3, trivial⟩ T.mixed Tryz.func30 plArea.of rfl plArea.ok rfl (by simp [Tryz.f30]) ?_
  have hat := hp.at_
  have hai := hp.areas
  have hnj := hp.nj
  unfold plArea.c areaB
  by_cases ec : l.leaf = [99, 111, 115, 116]
  · simp (implicitDefEqProofs := false) (contextual := true) only [go_sem, reduceIte, Nat.reduceEqDiff, Nat.reduceAdd, Nat.reduceSub, Nat.reduceMul, Nat.reduceLeDiff, Int.reduceLT, Int.reduceLE, Int.reduceEq, Int.reduceAdd, Int.reduceSub, Int.reduceMul, Int.reduceNeg, Int.reduceToNat, reduceCtorEq, Nat.reduceBEq, Nat.reduceLT, lineV, hat, hai, hnj, ec, add_set]
    intro id hid
    have := ((PlanTo.start hp).new (o := .mem 4 [.agg [.val (.int .i64 l.head), .str l.name, .str l.leaf, .str l.value]]) hid (by intro m s e; cases e)).area (addB st.areas l.name)
    rw [ec] at this
    exact this
  · simp (implicitDefEqProofs := false) (contextual := true) only [go_sem, reduceIte, Nat.reduceEqDiff, Nat.reduceAdd, Nat.reduceSub, Nat.reduceMul, Nat.reduceLeDiff, Int.reduceLT, Int.reduceLE, Int.reduceEq, Int.reduceAdd, Int.reduceSub, Int.reduceMul, Int.reduceNeg, Int.reduceToNat, reduceCtorEq, Nat.reduceBEq, Nat.reduceLT, lineV, hat, ha, oka, ec, List.length_map]
    intro id hid
    have hp1 := (PlanTo.start hp).new (o := .mem 4 [lineV l]) hid (by intro m s e; cases e)
    have e1 : id ≠ mi := fun e => by subst e; rw [hp.faces] at hid; cases hid
    have e2 : id ≠ mj := fun e => by subst e; rw [hp.areas] at hid; cases hid
    refine wpO_up (namesB a 2).length (fun i fr H' => i ≤ (namesB a 2).length ∧ fr 0 = .ptr p 4 0 0 ∧ fr 3 = .ptr id 4 0 0 ∧ fr 20 = .sl ((namesB a 2).map .str) ∧ fr 21 = .val (.int .i64 ((namesB a 2).length : Nat)) ∧ fr 22 = .val (.int .i64 i) ∧
      PlanTo (H.set id (.mem 4 [lineV l])) H' p mi mj xa xb { st with faces := ((namesB a 2).take i).foldl (facesB a b l.name) st.faces }) 0 ?_ ?_
    · simp (implicitDefEqProofs := false) only [go_sem, reduceIte, Nat.reduceEqDiff, Nat.reduceAdd, Nat.reduceSub, Nat.reduceMul, Nat.reduceLeDiff, Int.reduceLT, Int.reduceLE, Int.reduceEq, Int.reduceAdd, Int.reduceSub, Int.reduceMul, Int.reduceNeg, Int.reduceToNat, reduceCtorEq, Nat.reduceBEq, Nat.reduceLT, List.take_zero, List.foldl_nil]
      exact ⟨Nat.zero_le _, PlanTo.start hp1.1⟩
    · rintro i fr H' ⟨hi, f0, f3, f20, f21, f22, hto⟩
      have hbox : H' id = .mem 4 [lineV l] := by rw [hto.2 id (by simp) e1 e2, Heap.set_same]
      have hat' := hto.1.at_
      unfold plArea.L0
      have hnl := names_len a 2
      have hw : IntKind.i64.wrap ((i : Int) + 1) = ((i + 1 : Nat) : Int) := wrap64 (by omega)
      by_cases hlt : i < (namesB a 2).length
      · obtain ⟨n, hn⟩ : ∃ n, (namesB a 2)[i]? = some n := ⟨_, List.getElem?_eq_getElem hlt⟩
        have htk : ((namesB a 2).take (i + 1)).foldl (facesB a b l.name) st.faces = facesB a b l.name (((namesB a 2).take i).foldl (facesB a b l.name) st.faces) n := by
          rw [List.take_add_one, hn, Option.toList_some, List.foldl_append]; rfl
        have upd : ∀ (v : V) H2 (j : Nat), H' j = .dead → (v = .tup [] ∧ PlanTo (H'.set j (.mem 1 [.str n])) H2 p mi mj xa xb { st with faces := leastB (((namesB a 2).take i).foldl (facesB a b l.name) st.faces) n 5 }) →
            PlanTo (H.set id (.mem 4 [lineV l])) H2 p mi mj xa xb { st with faces := leastB (((namesB a 2).take i).foldl (facesB a b l.name) st.faces) n 5 } :=
          fun v H2 j hj h => (hto.new hj (by intro m s e; cases e)).trans h.2
        by_cases c1 : hasB b n = true
        · by_cases c2 : valueB a 2 n [97, 114, 101, 97] = l.name
          · by_cases c3 : valueB b 2 n [97, 114, 101, 97] = l.name
            · have hfb : facesB a b l.name (((namesB a 2).take i).foldl (facesB a b l.name) st.faces) n = leastB (((namesB a 2).take i).foldl (facesB a b l.name) st.faces) n 5 := by unfold facesB; rw [if_pos ⟨c1, c2, c3⟩]
              rw [hfb] at htk
              simp (implicitDefEqProofs := false) (contextual := true) only [go_sem, reduceIte, Nat.reduceEqDiff, Nat.reduceAdd, Nat.reduceSub, Nat.reduceMul, Nat.reduceLeDiff, Int.reduceLT, Int.reduceLE, Int.reduceEq, Int.reduceAdd, Int.reduceSub, Int.reduceMul, Int.reduceNeg, Int.reduceToNat, reduceCtorEq, Nat.reduceBEq, Nat.reduceLT, f0, f3, f20, f21, f22, hlt, hn, hat', hbox, lineV, ha, hb, oka, okb, c1, c2, c3]
              intro j hj
              rw [itO_eq]
              refine (w_plLeast (hto.1.new hj (by intro m s e; cases e)) n 5).mono ?_
              rintro v H2 h
              have h' := upd v H2 j hj h
              simp (implicitDefEqProofs := false) only [go_sem, reduceIte, Nat.reduceEqDiff, Nat.reduceAdd, Nat.reduceSub, Nat.reduceMul, Nat.reduceLeDiff, Int.reduceLT, Int.reduceLE, Int.reduceEq, Int.reduceAdd, Int.reduceSub, Int.reduceMul, Int.reduceNeg, Int.reduceToNat, reduceCtorEq, Nat.reduceBEq, Nat.reduceLT, h.1]
              rw [wpO_eq]
              unfold plArea.R0
              simp (implicitDefEqProofs := false) only [go_sem, reduceIte, Nat.reduceEqDiff, Nat.reduceAdd, Nat.reduceSub, Nat.reduceMul, Nat.reduceLeDiff, Int.reduceLT, Int.reduceLE, Int.reduceEq, Int.reduceAdd, Int.reduceSub, Int.reduceMul, Int.reduceNeg, Int.reduceToNat, reduceCtorEq, Nat.reduceBEq, Nat.reduceLT, f0, f3, f20, f21, f22, hw]
              exact ⟨hlt, by omega, by rw [htk]; exact h'⟩
            · have hfb : facesB a b l.name (((namesB a 2).take i).foldl (facesB a b l.name) st.faces) n = ((namesB a 2).take i).foldl (facesB a b l.name) st.faces := by unfold facesB; rw [if_neg (fun h => c3 h.2.2)]
              rw [hfb] at htk
              simp (implicitDefEqProofs := false) (contextual := true) only [go_sem, reduceIte, Nat.reduceEqDiff, Nat.reduceAdd, Nat.reduceSub, Nat.reduceMul, Nat.reduceLeDiff, Int.reduceLT, Int.reduceLE, Int.reduceEq, Int.reduceAdd, Int.reduceSub, Int.reduceMul, Int.reduceNeg, Int.reduceToNat, reduceCtorEq, Nat.reduceBEq, Nat.reduceLT, f0, f3, f20, f21, f22, hlt, hn, hat', hbox, lineV, ha, hb, oka, okb, c1, c2, c3]
              intro j hj
              rw [wpO_eq]
              unfold plArea.R0
              simp (implicitDefEqProofs := false) only [go_sem, reduceIte, Nat.reduceEqDiff, Nat.reduceAdd, Nat.reduceSub, Nat.reduceMul, Nat.reduceLeDiff, Int.reduceLT, Int.reduceLE, Int.reduceEq, Int.reduceAdd, Int.reduceSub, Int.reduceMul, Int.reduceNeg, Int.reduceToNat, reduceCtorEq, Nat.reduceBEq, Nat.reduceLT, f0, f3, f20, f21, f22, hw]
              exact ⟨hlt, by omega, by rw [htk]; exact hto.new hj (by intro m s e; cases e)⟩
          · have hfb : facesB a b l.name (((namesB a 2).take i).foldl (facesB a b l.name) st.faces) n = ((namesB a 2).take i).foldl (facesB a b l.name) st.faces := by unfold facesB; rw [if_neg (fun h => c2 h.2.1)]
            rw [hfb] at htk
            simp (implicitDefEqProofs := false) (contextual := true) only [go_sem, reduceIte, Nat.reduceEqDiff, Nat.reduceAdd, Nat.reduceSub, Nat.reduceMul, Nat.reduceLeDiff, Int.reduceLT, Int.reduceLE, Int.reduceEq, Int.reduceAdd, Int.reduceSub, Int.reduceMul, Int.reduceNeg, Int.reduceToNat, reduceCtorEq, Nat.reduceBEq, Nat.reduceLT, f0, f3, f20, f21, f22, hlt, hn, hat', hbox, lineV, ha, hb, oka, okb, c1, c2]
            intro j hj
            rw [wpO_eq]
            unfold plArea.R0
            simp (implicitDefEqProofs := false) only [go_sem, reduceIte, Nat.reduceEqDiff, Nat.reduceAdd, Nat.reduceSub, Nat.reduceMul, Nat.reduceLeDiff, Int.reduceLT, Int.reduceLE, Int.reduceEq, Int.reduceAdd, Int.reduceSub, Int.reduceMul, Int.reduceNeg, Int.reduceToNat, reduceCtorEq, Nat.reduceBEq, Nat.reduceLT, f0, f3, f20, f21, f22, hw]
            exact ⟨hlt, by omega, by rw [htk]; exact hto.new hj (by intro m s e; cases e)⟩
        · have c1' : hasB b n = false := by simpa using c1
          have hfb : facesB a b l.name (((namesB a 2).take i).foldl (facesB a b l.name) st.faces) n = ((namesB a 2).take i).foldl (facesB a b l.name) st.faces := by unfold facesB; rw [if_neg (fun h => c1 h.1)]
          rw [hfb] at htk
          simp (implicitDefEqProofs := false) (contextual := true) only [go_sem, reduceIte, Nat.reduceEqDiff, Nat.reduceAdd, Nat.reduceSub, Nat.reduceMul, Nat.reduceLeDiff, Int.reduceLT, Int.reduceLE, Int.reduceEq, Int.reduceAdd, Int.reduceSub, Int.reduceMul, Int.reduceNeg, Int.reduceToNat, reduceCtorEq, Nat.reduceBEq, Nat.reduceLT, f0, f3, f20, f21, f22, hlt, hn, hat', hbox, lineV, ha, hb, oka, okb, c1']
          intro j hj
          rw [wpO_eq]
          unfold plArea.R0
          simp (implicitDefEqProofs := false) only [go_sem, reduceIte, Nat.reduceEqDiff, Nat.reduceAdd, Nat.reduceSub, Nat.reduceMul, Nat.reduceLeDiff, Int.reduceLT, Int.reduceLE, Int.reduceEq, Int.reduceAdd, Int.reduceSub, Int.reduceMul, Int.reduceNeg, Int.reduceToNat, reduceCtorEq, Nat.reduceBEq, Nat.reduceLT, f0, f3, f20, f21, f22, hw]
          exact ⟨hlt, by omega, by rw [htk]; exact hto.new hj (by intro m s e; cases e)⟩
      · have hic : i = (namesB a 2).length := by omega
        rw [hic, List.take_length] at hto
        rw [if_neg ec]
        simp (implicitDefEqProofs := false) only [go_sem, reduceIte, Nat.reduceEqDiff, Nat.reduceAdd, Nat.reduceSub, Nat.reduceMul, Nat.reduceLeDiff, Int.reduceLT, Int.reduceLE, Int.reduceEq, Int.reduceAdd, Int.reduceSub, Int.reduceMul, Int.reduceNeg, Int.reduceToNat, reduceCtorEq, Nat.reduceBEq, Nat.reduceLT, f0, f3, f20, f21, f22, hlt]
        exact hp1.trans hto
end Go.Proofs.W

namespace Go.Proofs.W
set_option linter.unusedSimpArgs false
set_option maxRecDepth 20000
open Go Go.IL Go.Proofs
def plActions.L0 : IC :=
  (.seq (.reg 3 [⟨some 12, (.next (.tmp (11 : Nat)) false), none⟩,
    ⟨some 13, (.extract (.tmp (12 : Nat)) 0), none⟩] false)
  (.seq (.cond (.tmp (13 : Nat)) .skip (.exit 0))
  (.block 1 (.seq (.reg 4 [⟨some 14, (.entry (.tmp (11 : Nat))), none⟩,
    ⟨some 15, (.extract (.tmp (14 : Nat)) 0), none⟩,
    ⟨some 16, (.extract (.tmp (14 : Nat)) 1), none⟩,
    ⟨some 4, (.assign (.tmp (15 : Nat))), none⟩,
    ⟨some 5, (.assign (.tmp (16 : Nat))), none⟩] false)
  (.reg 5 [⟨some 17, (.move (.tmp (3 : Nat))), none⟩,
    ⟨some 18, (.move (.tmp (5 : Nat))), none⟩,
    ⟨some 19, (.move (.tmp (4 : Nat))), none⟩,
    ⟨some 20, (.build 33 #[(0, (.tmp (18 : Nat))), (1, (.tmp (19 : Nat)))]), none⟩,
    ⟨some 21, (.buildSlice 24 1 #[(0, (.tmp (20 : Nat)))]), none⟩,
    ⟨some 22, (.call { callee := (.builtin .append), args := #[(.tmp (17 : Nat)), (.tmp (21 : Nat))], argTypes := #[24, 24] }), none⟩,
    ⟨some 3, (.assign (.tmp (22 : Nat))), none⟩] false)))))
def plActions.L1 : IC :=
  (.seq (.reg 7 [⟨some 28, (.next (.tmp (27 : Nat)) false), none⟩,
    ⟨some 29, (.extract (.tmp (28 : Nat)) 0), none⟩] false)
  (.seq (.cond (.tmp (29 : Nat)) .skip (.exit 2))
  (.block 3 (.seq (.reg 8 [⟨some 30, (.entry (.tmp (27 : Nat))), none⟩,
    ⟨some 31, (.extract (.tmp (30 : Nat)) 0), none⟩,
    ⟨some 6, (.assign (.tmp (31 : Nat))), none⟩] false)
  (.reg 9 [⟨some 32, (.move (.tmp (3 : Nat))), none⟩,
    ⟨some 33, (.move (.tmp (6 : Nat))), none⟩,
    ⟨some 34, (.build 33 #[(0, (.const (.int .i64 7))), (1, (.tmp (33 : Nat)))]), none⟩,
    ⟨some 35, (.buildSlice 24 1 #[(0, (.tmp (34 : Nat)))]), none⟩,
    ⟨some 36, (.call { callee := (.builtin .append), args := #[(.tmp (32 : Nat)), (.tmp (35 : Nat))], argTypes := #[24, 24] }), none⟩,
    ⟨some 3, (.assign (.tmp (36 : Nat))), none⟩] false)))))
def plActions.R0 : IC :=
  (.seq (.reg 10 [⟨some 37, (.move (.tmp (3 : Nat))), none⟩,
    ⟨some 38, (.call { callee := (.value (.func (78 : Nat))), args := #[(.tmp (37 : Nat)), (.func (79 : Nat))], argTypes := #[24, 175] }), none⟩] false)
  (.seq (.reg 11 [⟨some 39, (.move (.tmp (3 : Nat))), none⟩,
    ⟨some 40, (.call { callee := (.value (.func (81 : Nat))), args := #[(.tmp (39 : Nat))], argTypes := #[24] }), none⟩,
    ⟨some 2, (.assign (.tmp (40 : Nat))), none⟩] false)
  .ret))
def plActions.R1 : IC :=
  (.seq (.seq (.reg 6 [⟨some 23, (.move (.tmp (0 : Nat))), none⟩,
    ⟨some 24, (.nilCheck (.tmp (23 : Nat))), none⟩,
    ⟨some 25, (.fieldAddr 78 (.tmp (24 : Nat)) 3), none⟩,
    ⟨some 26, (.load 76 (.tmp (25 : Nat))), none⟩,
    ⟨some 27, (.range 76 (.tmp (26 : Nat))), none⟩] false)
  (.block 2 (.loop plActions.L1)))
  (cutIC plActions.R0))
def plActions.c : IC :=
  (.seq (.reg 0 [⟨some 2, (.assign (.const (.slice none 0 0))), none⟩] false)
  (.seq (.reg 1 [⟨some 3, (.assign (.const (.slice none 0 0))), none⟩] false)
  (.seq (.seq (.reg 2 [⟨some 7, (.move (.tmp (0 : Nat))), none⟩,
    ⟨some 8, (.nilCheck (.tmp (7 : Nat))), none⟩,
    ⟨some 9, (.fieldAddr 78 (.tmp (8 : Nat)) 2), none⟩,
    ⟨some 10, (.load 75 (.tmp (9 : Nat))), none⟩,
    ⟨some 11, (.range 75 (.tmp (10 : Nat))), none⟩] false)
  (.block 0 (.loop plActions.L0)))
  (cutIC plActions.R1))))
theorem plActions.of : Tryz.f32.body.bind IC.of = some plActions.c := by kernel_rfl
theorem plActions.ok : Tryz.f32.body.map (okCode Tryz.prog Tryz.f32.ntmps (fun _ _ => false)) = some true := by kernel_rfl
variable {W0 : World}
def faceA (p : Text × Int) : Act := ⟨p.2, p.1⟩
def areaA (n : Text) : Act := ⟨7, n⟩
def actsB (st : Plan) : List Act := compactL (sortA (st.faces.map faceA ++ st.areas.map areaA))
theorem erase_perm {α : Type} : ∀ {l : List α} {j : Nat} {p : α}, l[j]? = some p → (p :: l.eraseIdx j).Perm l
  | [], _, _, h => by simp at h
  | a :: l, 0, p, h => by simp at h; subst h; exact .refl _
  | a :: l, j + 1, p, h => by
    have := erase_perm (l := l) (j := j) (p := p) (by simpa using h)
    rw [List.eraseIdx_cons_succ]
    exact (List.Perm.swap a p _).trans (this.cons a)
theorem eraseIdx_map {α β : Type} (f : α → β) : ∀ (l : List α) (j : Nat), (l.map f).eraseIdx j = (l.eraseIdx j).map f
  | [], _ => by simp
  | a :: l, 0 => rfl
  | a :: l, j + 1 => by simp [eraseIdx_map f l j]
theorem w_plActions {H : Heap} {p mi mj : Nat} {xa xb : V} {st : Plan} (hp : PlanAt H p mi mj xa xb st) (hf : st.faces.length ≤ 65536) (hs : st.areas.length ≤ 65536) :
    IT Tryz.prog W0 32 [.ptr p 4 0 0] H (fun v H' => v = .sl ((actsB st).map actV) ∧ Keeps H H') := by
  refine IT.ofS_f (rs := [(.tmp 2)]) (fun _ _ => false) (Φ := []) trivial T.mixed Tryz.func32 plActions.of rfl plActions.ok rfl (by simp [Tryz.f32]) ?_
  unfold plActions.c
  have hat := hp.at_
  simp (implicitDefEqProofs := false) only [go_sem, reduceIte, Nat.reduceEqDiff, Nat.reduceAdd, Nat.reduceSub, Nat.reduceMul, Nat.reduceLeDiff, Int.reduceLT, Int.reduceLE, Int.reduceEq, Int.reduceAdd, Int.reduceSub, Int.reduceMul, Int.reduceNeg, Int.reduceToNat, reduceCtorEq, Nat.reduceBEq, Nat.reduceLT, hat, hp.faces]
  intro id hid
  refine wpO_loop (fun m fr H' => ∃ (left : List (Text × Int)) (done : List (Text × Int)) (o : Option (V × V)), m = left.length ∧ (done ++ left).Perm st.faces ∧ fr 0 = .ptr p 4 0 0 ∧ fr 11 = .it id ∧ H' id = .iter mi (left.map faceV, o) ∧ Grow H H' 2 (fr 3) (done.map fun q => actV (faceA q))) st.faces.length ?_ ?_
  · simp (implicitDefEqProofs := false) only [go_sem, reduceIte, Nat.reduceEqDiff, Nat.reduceAdd, Nat.reduceSub, Nat.reduceMul, Nat.reduceLeDiff, Int.reduceLT, Int.reduceLE, Int.reduceEq, Int.reduceAdd, Int.reduceSub, Int.reduceMul, Int.reduceNeg, Int.reduceToNat, reduceCtorEq, Nat.reduceBEq, Nat.reduceLT]
    exact ⟨st.faces, [], none, rfl, by simp, rfl, Grow.start ((Keeps.refl H).set hid)⟩
  · rintro m fr H' ⟨left, done, o, rfl, hperm, f0, f11, hit, hg⟩
    unfold plActions.L0
    have hlen : done.length + left.length ≤ 65536 := by have := hperm.length_eq; rw [List.length_append] at this; omega
    have hx : ∀ n, fr 3 ≠ .ar id 2 0 n := by
      intro n e
      rcases hg.2 with ⟨-, h⟩ | ⟨-, i, h1, h2, -⟩
      · rw [h] at e; cases e
      · rw [h1] at e; cases e; rw [hit] at h2; cases h2
    simp (implicitDefEqProofs := false) only [go_sem, reduceIte, Nat.reduceEqDiff, Nat.reduceAdd, Nat.reduceSub, Nat.reduceMul, Nat.reduceLeDiff, Int.reduceLT, Int.reduceLE, Int.reduceEq, Int.reduceAdd, Int.reduceSub, Int.reduceMul, Int.reduceNeg, Int.reduceToNat, reduceCtorEq, Nat.reduceBEq, Nat.reduceLT, f0, f11, hit]
    refine ⟨fun hl => ?_, fun j q hq => ?_⟩
    · have hl' : left = [] := by simpa using hl
      subst hl'
      rw [List.append_nil] at hperm
      have hg1 : Grow H (H'.set id .dead) 2 (fr 3) (done.map fun q => actV (faceA q)) := hg.turn hid hx
      generalize H'.set id .dead = H1 at hg1
      clear hit hx hg hl
      rw [wpO_eq]
      unfold plActions.R1
      have hat1 : H1 p = .mem 4 [.agg [xa, xb, .mp mi, .mp mj]] := by rw [hg1.keeps p (by rw [hat]; simp)]; exact hat
      have har1 : H1 mj = .map (st.areas.map areaV) := by rw [hg1.keeps mj (by rw [hp.areas]; simp)]; exact hp.areas
      simp (implicitDefEqProofs := false) only [go_sem, reduceIte, Nat.reduceEqDiff, Nat.reduceAdd, Nat.reduceSub, Nat.reduceMul, Nat.reduceLeDiff, Int.reduceLT, Int.reduceLE, Int.reduceEq, Int.reduceAdd, Int.reduceSub, Int.reduceMul, Int.reduceNeg, Int.reduceToNat, reduceCtorEq, Nat.reduceBEq, Nat.reduceLT, f0, hat1, har1]
      intro id2 hid2
      have hlen1 : done.length ≤ 65536 := by rw [hperm.length_eq]; exact hf
      refine wpO_loop (fun m fr H' => ∃ (left : List Text) (don : List Text) (o : Option (V × V)), m = left.length ∧ (don ++ left).Perm st.areas ∧ fr 27 = .it id2 ∧ H' id2 = .iter mj (left.map areaV, o) ∧ Grow H H' 2 (fr 3) ((done.map fun q => actV (faceA q)) ++ don.map fun q => actV (areaA q))) st.areas.length ?_ ?_
      · simp (implicitDefEqProofs := false) only [go_sem, reduceIte, Nat.reduceEqDiff, Nat.reduceAdd, Nat.reduceSub, Nat.reduceMul, Nat.reduceLeDiff, Int.reduceLT, Int.reduceLE, Int.reduceEq, Int.reduceAdd, Int.reduceSub, Int.reduceMul, Int.reduceNeg, Int.reduceToNat, reduceCtorEq, Nat.reduceBEq, Nat.reduceLT]
        refine ⟨st.areas, [], none, rfl, by simp, rfl, ?_⟩
        simpa using hg1.new hid2
      · have hidd : H id2 = .dead := hg1.keeps.dead hid2
        clear f0 f11 hat1 har1 hid2 hg1
        rintro m fr H' ⟨left, don, o, rfl, hperm2, f27, hit, hg⟩
        unfold plActions.L1
        have hlen : don.length + left.length ≤ 65536 := by have := hperm2.length_eq; rw [List.length_append] at this; omega
        have hx : ∀ n, fr 3 ≠ .ar id2 2 0 n := by
          intro n e
          rcases hg.2 with ⟨-, h⟩ | ⟨-, i, h1, h2, -⟩
          · rw [h] at e; cases e
          · rw [h1] at e; cases e; rw [hit] at h2; cases h2
        simp (implicitDefEqProofs := false) only [go_sem, reduceIte, Nat.reduceEqDiff, Nat.reduceAdd, Nat.reduceSub, Nat.reduceMul, Nat.reduceLeDiff, Int.reduceLT, Int.reduceLE, Int.reduceEq, Int.reduceAdd, Int.reduceSub, Int.reduceMul, Int.reduceNeg, Int.reduceToNat, reduceCtorEq, Nat.reduceBEq, Nat.reduceLT, f27, hit]
        refine ⟨fun hl => ?_, fun j q hq => ?_⟩
        · have hl' : left = [] := by simpa using hl
          subst hl'
          rw [List.append_nil] at hperm2
          have hg1 : Grow H (H'.set id2 .dead) 2 (fr 3) ((done.map fun q => actV (faceA q)) ++ don.map fun q => actV (areaA q)) := hg.turn hidd hx
          generalize H'.set id2 .dead = H1 at hg1
          have hall : (done.map fun q => actV (faceA q)) ++ (don.map fun q => actV (areaA q)) = (done.map faceA ++ don.map areaA).map actV := by rw [List.map_append, List.map_map, List.map_map]; rfl
          have hsort : sortA (done.map faceA ++ don.map areaA) = sortA (st.faces.map faceA ++ st.areas.map areaA) := by
            refine sortA_unique ((sortA_perm _).trans ((hperm.map faceA).append (hperm2.map areaA))) (sortA_sorted _)
          have hcl : actsB st = compactL (sortA (done.map faceA ++ don.map areaA)) := by unfold actsB; rw [hsort]
          have hls : (done.map faceA ++ don.map areaA).length = done.length + don.length := by simp
          rw [hall] at hg1
          generalize hal : done.map faceA ++ don.map areaA = al at *
          clear hit hx hg hl
          rw [wpO_eq]
          unfold plActions.R0
          simp (implicitDefEqProofs := false) only [go_sem, reduceIte, Nat.reduceEqDiff, Nat.reduceAdd, Nat.reduceSub, Nat.reduceMul, Nat.reduceLeDiff, Int.reduceLT, Int.reduceLE, Int.reduceEq, Int.reduceAdd, Int.reduceSub, Int.reduceMul, Int.reduceNeg, Int.reduceToNat, reduceCtorEq, Nat.reduceBEq, Nat.reduceLT]
          obtain ⟨hkp, h⟩ := hg1
          rcases h with ⟨h0, hnil⟩ | ⟨hne, i, hx, hi, hdd⟩
          · have hal0 : al = [] := by simpa using h0
            subst hal0
            rw [hnil, itO_eq]
            refine (w_sortNil _).mono ?_
            rintro v H2 ⟨rfl, rfl⟩
            simp (implicitDefEqProofs := false) only [go_sem, reduceIte, Nat.reduceEqDiff, Nat.reduceAdd, Nat.reduceSub, Nat.reduceMul, Nat.reduceLeDiff, Int.reduceLT, Int.reduceLE, Int.reduceEq, Int.reduceAdd, Int.reduceSub, Int.reduceMul, Int.reduceNeg, Int.reduceToNat, reduceCtorEq, Nat.reduceBEq, Nat.reduceLT, hnil]
            rw [itO_eq]
            refine w_compactA_nil.mono ?_
            rintro v H2 ⟨rfl, rfl⟩
            rw [hcl]
            simp (implicitDefEqProofs := false) only [go_sem, reduceIte, Nat.reduceEqDiff, Nat.reduceAdd, Nat.reduceSub, Nat.reduceMul, Nat.reduceLeDiff, Int.reduceLT, Int.reduceLE, Int.reduceEq, Int.reduceAdd, Int.reduceSub, Int.reduceMul, Int.reduceNeg, Int.reduceToNat, reduceCtorEq, Nat.reduceBEq, Nat.reduceLT]
            exact ⟨rfl, hkp⟩
          · rw [hx, itO_eq, List.length_map]
            refine (w_slSortA (by omega) hi).mono ?_
            rintro v H2 ⟨rfl, rfl⟩
            simp (implicitDefEqProofs := false) only [go_sem, reduceIte, Nat.reduceEqDiff, Nat.reduceAdd, Nat.reduceSub, Nat.reduceMul, Nat.reduceLeDiff, Int.reduceLT, Int.reduceLE, Int.reduceEq, Int.reduceAdd, Int.reduceSub, Int.reduceMul, Int.reduceNeg, Int.reduceToNat, reduceCtorEq, Nat.reduceBEq, Nat.reduceLT, hx]
            rw [itO_eq, show al.length = (sortA al).length from (sortA_perm al).length_eq.symm]
            refine (w_compactA (l := sortA al) (by unfold big; rw [(sortA_perm al).length_eq]; omega) (Heap.set_same _ _ _)).mono ?_
            rintro v H3 ⟨xs, rfl, rfl, htk, hle⟩
            rw [hcl]
            simp (implicitDefEqProofs := false) only [go_sem, reduceIte, Nat.reduceEqDiff, Nat.reduceAdd, Nat.reduceSub, Nat.reduceMul, Nat.reduceLeDiff, Int.reduceLT, Int.reduceLE, Int.reduceEq, Int.reduceAdd, Int.reduceSub, Int.reduceMul, Int.reduceNeg, Int.reduceToNat, reduceCtorEq, Nat.reduceBEq, Nat.reduceLT, htk, hle]
            exact hkp.set hdd
        · obtain ⟨r, hr, rfl⟩ : ∃ r, left[j]? = some r ∧ q = areaV r := by
            rw [Option.map_eq_some_iff] at hq
            obtain ⟨r, h1, h2⟩ := hq
            exact ⟨r, h1, h2.symm⟩
          have hpm := erase_perm hr
          have hll := hpm.length_eq
          rw [List.length_cons] at hll
          simp (implicitDefEqProofs := false) only [go_sem, reduceIte, Nat.reduceEqDiff, Nat.reduceAdd, Nat.reduceSub, Nat.reduceMul, Nat.reduceLeDiff, Int.reduceLT, Int.reduceLE, Int.reduceEq, Int.reduceAdd, Int.reduceSub, Int.reduceMul, Int.reduceNeg, Int.reduceToNat, reduceCtorEq, Nat.reduceBEq, Nat.reduceLT, areaV]
          intro s n1 n2 hs id3 n3 n4 n5 n6 hid3
          have hg1 : Grow H (H'.set id2 (.iter mj ((left.map areaV).eraseIdx j, some (.str r, .val (.bool true))))) 2 (fr 3) ((done.map fun q => actV (faceA q)) ++ don.map fun q => actV (areaA q)) := hg.turn hidd hx
          refine hg1.app (v := actV (areaA r)) (by rw [Heap.set_ne _ _ n1]; exact hs) ?_ T.el24 T.sz33 T.zk33 (by rfl) (by rw [T.by24]; simp; omega) ?_
          · rw [Heap.set_ne _ _ n3, Heap.set_ne _ _ n5]; exact hid3
          · intro H'' hg' hkeep _
            have hit2 : H'' id2 = .iter mj ((left.map areaV).eraseIdx j, some (.str r, .val (.bool true))) := by
              rw [hkeep id2 (by simp) hx]; simp
            have hem : (left.map areaV).eraseIdx j = (left.eraseIdx j).map areaV := eraseIdx_map areaV left j
            simp (implicitDefEqProofs := false) only [go_sem, reduceIte, Nat.reduceEqDiff, Nat.reduceAdd, Nat.reduceSub, Nat.reduceMul, Nat.reduceLeDiff, Int.reduceLT, Int.reduceLE, Int.reduceEq, Int.reduceAdd, Int.reduceSub, Int.reduceMul, Int.reduceNeg, Int.reduceToNat, reduceCtorEq, Nat.reduceBEq, Nat.reduceLT]
            refine ⟨(left.eraseIdx j).length, by omega, left.eraseIdx j, don ++ [r], _, rfl, ?_, f27, by rw [hit2, hem], ?_⟩
            · have h2 : (don ++ [r] ++ left.eraseIdx j).Perm (don ++ left) := by simpa using hpm.append_left don
              exact h2.trans hperm2
            · simpa using hg'
    · obtain ⟨r, hr, rfl⟩ : ∃ r, left[j]? = some r ∧ q = faceV r := by
        rw [Option.map_eq_some_iff] at hq
        obtain ⟨r, h1, h2⟩ := hq
        exact ⟨r, h1, h2.symm⟩
      have hpm := erase_perm hr
      have hll := hpm.length_eq
      rw [List.length_cons] at hll
      simp (implicitDefEqProofs := false) only [go_sem, reduceIte, Nat.reduceEqDiff, Nat.reduceAdd, Nat.reduceSub, Nat.reduceMul, Nat.reduceLeDiff, Int.reduceLT, Int.reduceLE, Int.reduceEq, Int.reduceAdd, Int.reduceSub, Int.reduceMul, Int.reduceNeg, Int.reduceToNat, reduceCtorEq, Nat.reduceBEq, Nat.reduceLT, faceV]
      intro s n1 n2 hs id2 n3 n4 n5 n6 hid2
      have hg1 : Grow H (H'.set id (.iter mi ((left.map faceV).eraseIdx j, some (.str r.1, .val (.int .i64 r.2))))) 2 (fr 3) (done.map fun q => actV (faceA q)) := hg.turn hid hx
      refine hg1.app (v := actV (faceA r)) (by rw [Heap.set_ne _ _ n1]; exact hs) ?_ T.el24 T.sz33 T.zk33 (by rfl) (by rw [T.by24]; simp; omega) ?_
      · rw [Heap.set_ne _ _ n3, Heap.set_ne _ _ n5]; exact hid2
      · intro H'' hg' hkeep _
        have hit2 : H'' id = .iter mi ((left.map faceV).eraseIdx j, some (.str r.1, .val (.int .i64 r.2))) := by
          rw [hkeep id (by simp) hx]; simp
        have hem : (left.map faceV).eraseIdx j = (left.eraseIdx j).map faceV := eraseIdx_map faceV left j
        simp (implicitDefEqProofs := false) only [go_sem, reduceIte, Nat.reduceEqDiff, Nat.reduceAdd, Nat.reduceSub, Nat.reduceMul, Nat.reduceLeDiff, Int.reduceLT, Int.reduceLE, Int.reduceEq, Int.reduceAdd, Int.reduceSub, Int.reduceMul, Int.reduceNeg, Int.reduceToNat, reduceCtorEq, Nat.reduceBEq, Nat.reduceLT, f0]
        refine ⟨(left.eraseIdx j).length, by omega, left.eraseIdx j, done ++ [r], _, rfl, ?_, f11, by rw [hit2, hem], ?_⟩
        · have h2 : (done ++ [r] ++ left.eraseIdx j).Perm (done ++ left) := by simpa using hpm.append_left done
          exact h2.trans hperm
        · simpa using hg'
end Go.Proofs.W
