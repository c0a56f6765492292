import Derived.Test.YthdlaekahejdnaaGreatDoorKD
import Derived.KernelRfl
import Derived.Test.YthdlaekahejdnaaGreatDoorProg
set_option linter.unusedVariables false
set_option linter.unusedSimpArgs false
namespace Go.Proofs.W
set_option linter.unusedSimpArgs false
set_option maxRecDepth 100000
open Go Go.IL Go.Proofs
theorem T.mixed : Tryz.prog.follows .mixedOrders = true := by kernel_rfl
@[go_sem] theorem T.sz3 : szI Tryz.prog 3 = 1 := by kernel_rfl
@[go_sem] theorem T.kd3 : kindI Tryz.prog 3 = some false := by kernel_rfl
@[go_sem] theorem T.is3 : (Tryz.prog.info? 3).isSome = true := by kernel_rfl
@[go_sem] theorem T.bl3 : bldT Tryz.prog 3 = false := by kernel_rfl
@[go_sem] theorem T.co3 : Tryz.prog.cellsOf 3 = 1 := by kernel_rfl
@[go_sem] theorem T.zf3 : zeroF Tryz.prog 3 = some (1, .val (.int .i64 0)) := by kernel_rfl
@[go_sem] theorem T.zk3 : zok Tryz.prog 3 = true := by kernel_rfl
@[go_sem] theorem T.eln3 : elI Tryz.prog 3 = none := by kernel_rfl
@[go_sem] theorem T.un3 : Tryz.prog.underlying 3 = some (.int .i64) := by kernel_rfl
@[go_sem] theorem T.sz4 : szI Tryz.prog 4 = 1 := by kernel_rfl
@[go_sem] theorem T.kd4 : kindI Tryz.prog 4 = some false := by kernel_rfl
@[go_sem] theorem T.is4 : (Tryz.prog.info? 4).isSome = true := by kernel_rfl
@[go_sem] theorem T.bl4 : bldT Tryz.prog 4 = false := by kernel_rfl
@[go_sem] theorem T.zf4 : zeroF Tryz.prog 4 = some (1, .val (.bool false)) := by kernel_rfl
@[go_sem] theorem T.zk4 : zok Tryz.prog 4 = true := by kernel_rfl
@[go_sem] theorem T.eln4 : elI Tryz.prog 4 = none := by kernel_rfl
@[go_sem] theorem T.un4 : Tryz.prog.underlying 4 = some .bool := by kernel_rfl
@[go_sem] theorem T.sz5 : szI Tryz.prog 5 = 1 := by kernel_rfl
@[go_sem] theorem T.kd5 : kindI Tryz.prog 5 = some false := by kernel_rfl
@[go_sem] theorem T.is5 : (Tryz.prog.info? 5).isSome = true := by kernel_rfl
@[go_sem] theorem T.bl5 : bldT Tryz.prog 5 = false := by kernel_rfl
@[go_sem] theorem T.co5 : Tryz.prog.cellsOf 5 = 1 := by kernel_rfl
@[go_sem] theorem T.zf5 : zeroF Tryz.prog 5 = some (1, .val (.int .u8 0)) := by kernel_rfl
@[go_sem] theorem T.zk5 : zok Tryz.prog 5 = true := by kernel_rfl
@[go_sem] theorem T.eln5 : elI Tryz.prog 5 = none := by kernel_rfl
@[go_sem] theorem T.un5 : Tryz.prog.underlying 5 = some (.int .u8) := by kernel_rfl
@[go_sem] theorem T.sz9 : szI Tryz.prog 9 = 1 := by kernel_rfl
@[go_sem] theorem T.kd9 : kindI Tryz.prog 9 = some false := by kernel_rfl
@[go_sem] theorem T.is9 : (Tryz.prog.info? 9).isSome = true := by kernel_rfl
@[go_sem] theorem T.bl9 : bldT Tryz.prog 9 = false := by kernel_rfl
@[go_sem] theorem T.st9 : isStr (Tryz.prog.underlying 9) = true := by kernel_rfl
@[go_sem] theorem T.zf9 : zeroF Tryz.prog 9 = some (1, .str []) := by kernel_rfl
@[go_sem] theorem T.zk9 : zok Tryz.prog 9 = true := by kernel_rfl
@[go_sem] theorem T.eln9 : elI Tryz.prog 9 = none := by kernel_rfl
@[go_sem] theorem T.src9 : isSrc (Tryz.prog.underlying 9) = true := by kernel_rfl
@[go_sem] theorem T.un9 : Tryz.prog.underlying 9 = some .string := by kernel_rfl
@[go_sem] theorem T.sz22 : szI Tryz.prog 22 = 1 := by kernel_rfl
@[go_sem] theorem T.kd22 : kindI Tryz.prog 22 = some false := by kernel_rfl
@[go_sem] theorem T.is22 : (Tryz.prog.info? 22).isSome = true := by kernel_rfl
@[go_sem] theorem T.bl22 : bldT Tryz.prog 22 = false := by kernel_rfl
@[go_sem] theorem T.st22 : isStr (Tryz.prog.underlying 22) = false := by kernel_rfl
@[go_sem] theorem T.zf22 : zeroF Tryz.prog 22 = some (1, .nil) := by kernel_rfl
@[go_sem] theorem T.zk22 : zok Tryz.prog 22 = true := by kernel_rfl
@[go_sem] theorem T.el22 : elI Tryz.prog 22 = some 86 := by kernel_rfl
@[go_sem] theorem T.by22 : byI Tryz.prog 86 = 56 := by kernel_rfl
@[go_sem] theorem T.src22 : isSrc (Tryz.prog.underlying 22) = true := by kernel_rfl
@[go_sem] theorem T.un22 : Tryz.prog.underlying 22 = some (.slice 86) := by kernel_rfl
@[go_sem] theorem T.sz23 : szI Tryz.prog 23 = 1 := by kernel_rfl
@[go_sem] theorem T.kd23 : kindI Tryz.prog 23 = some false := by kernel_rfl
@[go_sem] theorem T.is23 : (Tryz.prog.info? 23).isSome = true := by kernel_rfl
@[go_sem] theorem T.bl23 : bldT Tryz.prog 23 = false := by kernel_rfl
@[go_sem] theorem T.st23 : isStr (Tryz.prog.underlying 23) = false := by kernel_rfl
@[go_sem] theorem T.zf23 : zeroF Tryz.prog 23 = some (1, .nil) := by kernel_rfl
@[go_sem] theorem T.zk23 : zok Tryz.prog 23 = true := by kernel_rfl
@[go_sem] theorem T.el23 : elI Tryz.prog 23 = some 32 := by kernel_rfl
@[go_sem] theorem T.by23 : byI Tryz.prog 32 = 24 := by kernel_rfl
@[go_sem] theorem T.src23 : isSrc (Tryz.prog.underlying 23) = true := by kernel_rfl
@[go_sem] theorem T.un23 : Tryz.prog.underlying 23 = some (.slice 32) := by kernel_rfl
@[go_sem] theorem T.sz24 : szI Tryz.prog 24 = 1 := by kernel_rfl
@[go_sem] theorem T.kd24 : kindI Tryz.prog 24 = some false := by kernel_rfl
@[go_sem] theorem T.is24 : (Tryz.prog.info? 24).isSome = true := by kernel_rfl
@[go_sem] theorem T.bl24 : bldT Tryz.prog 24 = false := by kernel_rfl
@[go_sem] theorem T.st24 : isStr (Tryz.prog.underlying 24) = false := by kernel_rfl
@[go_sem] theorem T.zf24 : zeroF Tryz.prog 24 = some (1, .nil) := by kernel_rfl
@[go_sem] theorem T.zk24 : zok Tryz.prog 24 = true := by kernel_rfl
@[go_sem] theorem T.el24 : elI Tryz.prog 24 = some 33 := by kernel_rfl
@[go_sem] theorem T.by24 : byI Tryz.prog 33 = 24 := by kernel_rfl
@[go_sem] theorem T.src24 : isSrc (Tryz.prog.underlying 24) = true := by kernel_rfl
@[go_sem] theorem T.un24 : Tryz.prog.underlying 24 = some (.slice 33) := by kernel_rfl
@[go_sem] theorem T.sz25 : szI Tryz.prog 25 = 1 := by kernel_rfl
@[go_sem] theorem T.kd25 : kindI Tryz.prog 25 = some false := by kernel_rfl
@[go_sem] theorem T.is25 : (Tryz.prog.info? 25).isSome = true := by kernel_rfl
@[go_sem] theorem T.bl25 : bldT Tryz.prog 25 = false := by kernel_rfl
@[go_sem] theorem T.co25 : Tryz.prog.cellsOf 25 = 1 := by kernel_rfl
@[go_sem] theorem T.zf25 : zeroF Tryz.prog 25 = some (1, .val (.int .i64 0)) := by kernel_rfl
@[go_sem] theorem T.zk25 : zok Tryz.prog 25 = true := by kernel_rfl
@[go_sem] theorem T.eln25 : elI Tryz.prog 25 = none := by kernel_rfl
@[go_sem] theorem T.un25 : Tryz.prog.underlying 25 = some (.int .i64) := by kernel_rfl
@[go_sem] theorem T.sz29 : szI Tryz.prog 29 = 1 := by kernel_rfl
@[go_sem] theorem T.kd29 : kindI Tryz.prog 29 = some false := by kernel_rfl
@[go_sem] theorem T.is29 : (Tryz.prog.info? 29).isSome = true := by kernel_rfl
@[go_sem] theorem T.bl29 : bldT Tryz.prog 29 = false := by kernel_rfl
@[go_sem] theorem T.st29 : isStr (Tryz.prog.underlying 29) = false := by kernel_rfl
@[go_sem] theorem T.zf29 : zeroF Tryz.prog 29 = some (1, .nil) := by kernel_rfl
@[go_sem] theorem T.zk29 : zok Tryz.prog 29 = true := by kernel_rfl
@[go_sem] theorem T.el29 : elI Tryz.prog 29 = some 80 := by kernel_rfl
@[go_sem] theorem T.by29 : byI Tryz.prog 80 = 56 := by kernel_rfl
@[go_sem] theorem T.src29 : isSrc (Tryz.prog.underlying 29) = true := by kernel_rfl
@[go_sem] theorem T.un29 : Tryz.prog.underlying 29 = some (.slice 80) := by kernel_rfl
@[go_sem] theorem T.sz32 : szI Tryz.prog 32 = 2 := by kernel_rfl
@[go_sem] theorem T.kd32 : kindI Tryz.prog 32 = some true := by kernel_rfl
@[go_sem] theorem T.is32 : (Tryz.prog.info? 32).isSome = true := by kernel_rfl
@[go_sem] theorem T.bl32 : bldT Tryz.prog 32 = false := by kernel_rfl
@[go_sem] theorem T.zf32 : zeroF Tryz.prog 32 = some (2, .agg [.val (.int .i64 0), .str []]) := by kernel_rfl
@[go_sem] theorem T.zl32 : zeroL Tryz.prog 32 = some [.val (.int .i64 0), .str []] := by kernel_rfl
@[go_sem] theorem T.zk32 : zok Tryz.prog 32 = true := by kernel_rfl
@[go_sem] theorem T.fl32_0 : fldI Tryz.prog 32 0 = some (0, 3) := by kernel_rfl
@[go_sem] theorem T.pl32_0 : placesI Tryz.prog 32 0 = some (0, 3) := by kernel_rfl
@[go_sem] theorem T.fl32_1 : fldI Tryz.prog 32 1 = some (1, 9) := by kernel_rfl
@[go_sem] theorem T.pl32_1 : placesI Tryz.prog 32 1 = some (1, 9) := by kernel_rfl
@[go_sem] theorem T.ft32 : flatI Tryz.prog 32 = some [0, 1] := by kernel_rfl
@[go_sem] theorem T.eln32 : elI Tryz.prog 32 = none := by kernel_rfl
@[go_sem] theorem T.sz33 : szI Tryz.prog 33 = 2 := by kernel_rfl
@[go_sem] theorem T.kd33 : kindI Tryz.prog 33 = some true := by kernel_rfl
@[go_sem] theorem T.is33 : (Tryz.prog.info? 33).isSome = true := by kernel_rfl
@[go_sem] theorem T.bl33 : bldT Tryz.prog 33 = false := by kernel_rfl
@[go_sem] theorem T.zf33 : zeroF Tryz.prog 33 = some (2, .agg [.val (.int .i64 0), .str []]) := by kernel_rfl
@[go_sem] theorem T.zl33 : zeroL Tryz.prog 33 = some [.val (.int .i64 0), .str []] := by kernel_rfl
@[go_sem] theorem T.zk33 : zok Tryz.prog 33 = true := by kernel_rfl
@[go_sem] theorem T.fl33_0 : fldI Tryz.prog 33 0 = some (0, 3) := by kernel_rfl
@[go_sem] theorem T.pl33_0 : placesI Tryz.prog 33 0 = some (0, 3) := by kernel_rfl
@[go_sem] theorem T.fl33_1 : fldI Tryz.prog 33 1 = some (1, 9) := by kernel_rfl
@[go_sem] theorem T.pl33_1 : placesI Tryz.prog 33 1 = some (1, 9) := by kernel_rfl
@[go_sem] theorem T.ft33 : flatI Tryz.prog 33 = some [0, 1] := by kernel_rfl
@[go_sem] theorem T.eln33 : elI Tryz.prog 33 = none := by kernel_rfl
@[go_sem] theorem T.sz43 : szI Tryz.prog 43 = 1 := by kernel_rfl
@[go_sem] theorem T.kd43 : kindI Tryz.prog 43 = some false := by kernel_rfl
@[go_sem] theorem T.is43 : (Tryz.prog.info? 43).isSome = true := by kernel_rfl
@[go_sem] theorem T.bl43 : bldT Tryz.prog 43 = false := by kernel_rfl
@[go_sem] theorem T.st43 : isStr (Tryz.prog.underlying 43) = false := by kernel_rfl
@[go_sem] theorem T.zf43 : zeroF Tryz.prog 43 = some (1, .nil) := by kernel_rfl
@[go_sem] theorem T.zk43 : zok Tryz.prog 43 = true := by kernel_rfl
@[go_sem] theorem T.el43 : elI Tryz.prog 43 = some 9 := by kernel_rfl
@[go_sem] theorem T.by43 : byI Tryz.prog 9 = 16 := by kernel_rfl
@[go_sem] theorem T.src43 : isSrc (Tryz.prog.underlying 43) = true := by kernel_rfl
@[go_sem] theorem T.un43 : Tryz.prog.underlying 43 = some (.slice 9) := by kernel_rfl
@[go_sem] theorem T.sz45 : szI Tryz.prog 45 = 3 := by kernel_rfl
@[go_sem] theorem T.kd45 : kindI Tryz.prog 45 = some true := by kernel_rfl
@[go_sem] theorem T.is45 : (Tryz.prog.info? 45).isSome = true := by kernel_rfl
@[go_sem] theorem T.bl45 : bldT Tryz.prog 45 = false := by kernel_rfl
@[go_sem] theorem T.zf45 : zeroF Tryz.prog 45 = some (3, .agg [.nil, .nil, .val (.bool false)]) := by kernel_rfl
@[go_sem] theorem T.zl45 : zeroL Tryz.prog 45 = some [.nil, .nil, .val (.bool false)] := by kernel_rfl
@[go_sem] theorem T.zk45 : zok Tryz.prog 45 = true := by kernel_rfl
@[go_sem] theorem T.fl45_0 : fldI Tryz.prog 45 0 = some (0, 43) := by kernel_rfl
@[go_sem] theorem T.pl45_0 : placesI Tryz.prog 45 0 = some (0, 43) := by kernel_rfl
@[go_sem] theorem T.fl45_1 : fldI Tryz.prog 45 1 = some (1, 43) := by kernel_rfl
@[go_sem] theorem T.pl45_1 : placesI Tryz.prog 45 1 = some (1, 43) := by kernel_rfl
@[go_sem] theorem T.fl45_2 : fldI Tryz.prog 45 2 = some (2, 4) := by kernel_rfl
@[go_sem] theorem T.pl45_2 : placesI Tryz.prog 45 2 = some (2, 4) := by kernel_rfl
@[go_sem] theorem T.eln45 : elI Tryz.prog 45 = none := by kernel_rfl
@[go_sem] theorem T.sz59 : szI Tryz.prog 59 = 1 := by kernel_rfl
@[go_sem] theorem T.kd59 : kindI Tryz.prog 59 = some false := by kernel_rfl
@[go_sem] theorem T.is59 : (Tryz.prog.info? 59).isSome = true := by kernel_rfl
@[go_sem] theorem T.bl59 : bldT Tryz.prog 59 = false := by kernel_rfl
@[go_sem] theorem T.co59 : Tryz.prog.cellsOf 59 = 1 := by kernel_rfl
@[go_sem] theorem T.zf59 : zeroF Tryz.prog 59 = some (1, .val (.int .u32 0)) := by kernel_rfl
@[go_sem] theorem T.zk59 : zok Tryz.prog 59 = true := by kernel_rfl
@[go_sem] theorem T.eln59 : elI Tryz.prog 59 = none := by kernel_rfl
@[go_sem] theorem T.un59 : Tryz.prog.underlying 59 = some (.int .u32) := by kernel_rfl
@[go_sem] theorem T.sz71 : szI Tryz.prog 71 = 1 := by kernel_rfl
@[go_sem] theorem T.kd71 : kindI Tryz.prog 71 = some false := by kernel_rfl
@[go_sem] theorem T.is71 : (Tryz.prog.info? 71).isSome = true := by kernel_rfl
@[go_sem] theorem T.bl71 : bldT Tryz.prog 71 = false := by kernel_rfl
@[go_sem] theorem T.st71 : isStr (Tryz.prog.underlying 71) = false := by kernel_rfl
@[go_sem] theorem T.zf71 : zeroF Tryz.prog 71 = some (1, .nil) := by kernel_rfl
@[go_sem] theorem T.zk71 : zok Tryz.prog 71 = true := by kernel_rfl
@[go_sem] theorem T.el71 : elI Tryz.prog 71 = some 82 := by kernel_rfl
@[go_sem] theorem T.by71 : byI Tryz.prog 82 = 88 := by kernel_rfl
@[go_sem] theorem T.src71 : isSrc (Tryz.prog.underlying 71) = true := by kernel_rfl
@[go_sem] theorem T.un71 : Tryz.prog.underlying 71 = some (.slice 82) := by kernel_rfl
@[go_sem] theorem T.sz74 : szI Tryz.prog 74 = 1 := by kernel_rfl
@[go_sem] theorem T.kd74 : kindI Tryz.prog 74 = some false := by kernel_rfl
@[go_sem] theorem T.is74 : (Tryz.prog.info? 74).isSome = true := by kernel_rfl
@[go_sem] theorem T.bl74 : bldT Tryz.prog 74 = false := by kernel_rfl
@[go_sem] theorem T.pe74 : ptrElI Tryz.prog 74 = some 78 := by kernel_rfl
@[go_sem] theorem T.zf74 : zeroF Tryz.prog 74 = some (1, .val (.pointer none)) := by kernel_rfl
@[go_sem] theorem T.zk74 : zok Tryz.prog 74 = true := by kernel_rfl
@[go_sem] theorem T.eln74 : elI Tryz.prog 74 = none := by kernel_rfl
@[go_sem] theorem T.un74 : Tryz.prog.underlying 74 = some (.pointer 78) := by kernel_rfl
@[go_sem] theorem T.sz75 : szI Tryz.prog 75 = 1 := by kernel_rfl
@[go_sem] theorem T.kd75 : kindI Tryz.prog 75 = some false := by kernel_rfl
@[go_sem] theorem T.is75 : (Tryz.prog.info? 75).isSome = true := by kernel_rfl
@[go_sem] theorem T.bl75 : bldT Tryz.prog 75 = false := by kernel_rfl
@[go_sem] theorem T.zf75 : zeroF Tryz.prog 75 = some (1, .val (.map none)) := by kernel_rfl
@[go_sem] theorem T.zk75 : zok Tryz.prog 75 = true := by kernel_rfl
@[go_sem] theorem T.eln75 : elI Tryz.prog 75 = none := by kernel_rfl
@[go_sem] theorem T.un75 : Tryz.prog.underlying 75 = some (.map 9 3) := by kernel_rfl
@[go_sem] theorem T.mp75 : mapI Tryz.prog 75 = some (9, 3) := by kernel_rfl
@[go_sem] theorem T.mk75 : mapK Tryz.prog 75 = some (9, 3) := by kernel_rfl
@[go_sem] theorem T.ky75 : keyI Tryz.prog 9 = eqCell 1 := by kernel_rfl
@[go_sem] theorem T.sz76 : szI Tryz.prog 76 = 1 := by kernel_rfl
@[go_sem] theorem T.kd76 : kindI Tryz.prog 76 = some false := by kernel_rfl
@[go_sem] theorem T.is76 : (Tryz.prog.info? 76).isSome = true := by kernel_rfl
@[go_sem] theorem T.bl76 : bldT Tryz.prog 76 = false := by kernel_rfl
@[go_sem] theorem T.zf76 : zeroF Tryz.prog 76 = some (1, .val (.map none)) := by kernel_rfl
@[go_sem] theorem T.zk76 : zok Tryz.prog 76 = true := by kernel_rfl
@[go_sem] theorem T.eln76 : elI Tryz.prog 76 = none := by kernel_rfl
@[go_sem] theorem T.un76 : Tryz.prog.underlying 76 = some (.map 9 4) := by kernel_rfl
@[go_sem] theorem T.mp76 : mapI Tryz.prog 76 = some (9, 4) := by kernel_rfl
@[go_sem] theorem T.mk76 : mapK Tryz.prog 76 = some (9, 4) := by kernel_rfl
@[go_sem] theorem T.sz78 : szI Tryz.prog 78 = 4 := by kernel_rfl
@[go_sem] theorem T.kd78 : kindI Tryz.prog 78 = some true := by kernel_rfl
@[go_sem] theorem T.is78 : (Tryz.prog.info? 78).isSome = true := by kernel_rfl
@[go_sem] theorem T.bl78 : bldT Tryz.prog 78 = false := by kernel_rfl
@[go_sem] theorem T.zf78 : zeroF Tryz.prog 78 = some (4, .agg [.nil, .nil, .val (.map none), .val (.map none)]) := by kernel_rfl
@[go_sem] theorem T.zl78 : zeroL Tryz.prog 78 = some [.nil, .nil, .val (.map none), .val (.map none)] := by kernel_rfl
@[go_sem] theorem T.zk78 : zok Tryz.prog 78 = true := by kernel_rfl
@[go_sem] theorem T.fl78_0 : fldI Tryz.prog 78 0 = some (0, 29) := by kernel_rfl
@[go_sem] theorem T.pl78_0 : placesI Tryz.prog 78 0 = some (0, 29) := by kernel_rfl
@[go_sem] theorem T.fl78_1 : fldI Tryz.prog 78 1 = some (1, 29) := by kernel_rfl
@[go_sem] theorem T.pl78_1 : placesI Tryz.prog 78 1 = some (1, 29) := by kernel_rfl
@[go_sem] theorem T.fl78_2 : fldI Tryz.prog 78 2 = some (2, 75) := by kernel_rfl
@[go_sem] theorem T.pl78_2 : placesI Tryz.prog 78 2 = some (2, 75) := by kernel_rfl
@[go_sem] theorem T.fl78_3 : fldI Tryz.prog 78 3 = some (3, 76) := by kernel_rfl
@[go_sem] theorem T.pl78_3 : placesI Tryz.prog 78 3 = some (3, 76) := by kernel_rfl
@[go_sem] theorem T.eln78 : elI Tryz.prog 78 = none := by kernel_rfl
@[go_sem] theorem T.sz80 : szI Tryz.prog 80 = 4 := by kernel_rfl
@[go_sem] theorem T.kd80 : kindI Tryz.prog 80 = some true := by kernel_rfl
@[go_sem] theorem T.is80 : (Tryz.prog.info? 80).isSome = true := by kernel_rfl
@[go_sem] theorem T.bl80 : bldT Tryz.prog 80 = false := by kernel_rfl
@[go_sem] theorem T.zf80 : zeroF Tryz.prog 80 = some (4, .agg [.val (.int .i64 0), .str [], .str [], .str []]) := by kernel_rfl
@[go_sem] theorem T.zl80 : zeroL Tryz.prog 80 = some [.val (.int .i64 0), .str [], .str [], .str []] := by kernel_rfl
@[go_sem] theorem T.zk80 : zok Tryz.prog 80 = true := by kernel_rfl
@[go_sem] theorem T.fl80_0 : fldI Tryz.prog 80 0 = some (0, 3) := by kernel_rfl
@[go_sem] theorem T.pl80_0 : placesI Tryz.prog 80 0 = some (0, 3) := by kernel_rfl
@[go_sem] theorem T.fl80_1 : fldI Tryz.prog 80 1 = some (1, 9) := by kernel_rfl
@[go_sem] theorem T.pl80_1 : placesI Tryz.prog 80 1 = some (1, 9) := by kernel_rfl
@[go_sem] theorem T.fl80_2 : fldI Tryz.prog 80 2 = some (2, 9) := by kernel_rfl
@[go_sem] theorem T.pl80_2 : placesI Tryz.prog 80 2 = some (2, 9) := by kernel_rfl
@[go_sem] theorem T.fl80_3 : fldI Tryz.prog 80 3 = some (3, 9) := by kernel_rfl
@[go_sem] theorem T.pl80_3 : placesI Tryz.prog 80 3 = some (3, 9) := by kernel_rfl
@[go_sem] theorem T.ft80 : flatI Tryz.prog 80 = some [0, 1, 1, 1] := by kernel_rfl
@[go_sem] theorem T.eln80 : elI Tryz.prog 80 = none := by kernel_rfl
@[go_sem] theorem T.sz82 : szI Tryz.prog 82 = 6 := by kernel_rfl
@[go_sem] theorem T.kd82 : kindI Tryz.prog 82 = some true := by kernel_rfl
@[go_sem] theorem T.is82 : (Tryz.prog.info? 82).isSome = true := by kernel_rfl
@[go_sem] theorem T.bl82 : bldT Tryz.prog 82 = false := by kernel_rfl
@[go_sem] theorem T.zf82 : zeroF Tryz.prog 82 = some (6, .agg [.val (.int .i64 0), .str [], .str [], .str [], .str [], .str []]) := by kernel_rfl
@[go_sem] theorem T.zl82 : zeroL Tryz.prog 82 = some [.val (.int .i64 0), .str [], .str [], .str [], .str [], .str []] := by kernel_rfl
@[go_sem] theorem T.zk82 : zok Tryz.prog 82 = true := by kernel_rfl
@[go_sem] theorem T.fl82_0 : fldI Tryz.prog 82 0 = some (0, 80) := by kernel_rfl
@[go_sem] theorem T.pl82_0 : placesI Tryz.prog 82 0 = some (0, 80) := by kernel_rfl
@[go_sem] theorem T.fl82_1 : fldI Tryz.prog 82 1 = some (4, 9) := by kernel_rfl
@[go_sem] theorem T.pl82_1 : placesI Tryz.prog 82 1 = some (4, 9) := by kernel_rfl
@[go_sem] theorem T.fl82_2 : fldI Tryz.prog 82 2 = some (5, 9) := by kernel_rfl
@[go_sem] theorem T.pl82_2 : placesI Tryz.prog 82 2 = some (5, 9) := by kernel_rfl
@[go_sem] theorem T.eln82 : elI Tryz.prog 82 = none := by kernel_rfl
@[go_sem] theorem T.sz86 : szI Tryz.prog 86 = 4 := by kernel_rfl
@[go_sem] theorem T.kd86 : kindI Tryz.prog 86 = some true := by kernel_rfl
@[go_sem] theorem T.is86 : (Tryz.prog.info? 86).isSome = true := by kernel_rfl
@[go_sem] theorem T.bl86 : bldT Tryz.prog 86 = false := by kernel_rfl
@[go_sem] theorem T.zf86 : zeroF Tryz.prog 86 = some (4, .agg [.val (.int .i64 0), .str [], .str [], .str []]) := by kernel_rfl
@[go_sem] theorem T.zl86 : zeroL Tryz.prog 86 = some [.val (.int .i64 0), .str [], .str [], .str []] := by kernel_rfl
@[go_sem] theorem T.zk86 : zok Tryz.prog 86 = true := by kernel_rfl
@[go_sem] theorem T.fl86_0 : fldI Tryz.prog 86 0 = some (0, 3) := by kernel_rfl
@[go_sem] theorem T.pl86_0 : placesI Tryz.prog 86 0 = some (0, 3) := by kernel_rfl
@[go_sem] theorem T.fl86_1 : fldI Tryz.prog 86 1 = some (1, 9) := by kernel_rfl
@[go_sem] theorem T.pl86_1 : placesI Tryz.prog 86 1 = some (1, 9) := by kernel_rfl
@[go_sem] theorem T.fl86_2 : fldI Tryz.prog 86 2 = some (2, 9) := by kernel_rfl
@[go_sem] theorem T.pl86_2 : placesI Tryz.prog 86 2 = some (2, 9) := by kernel_rfl
@[go_sem] theorem T.fl86_3 : fldI Tryz.prog 86 3 = some (3, 9) := by kernel_rfl
@[go_sem] theorem T.pl86_3 : placesI Tryz.prog 86 3 = some (3, 9) := by kernel_rfl
@[go_sem] theorem T.ft86 : flatI Tryz.prog 86 = some [0, 1, 1, 1] := by kernel_rfl
@[go_sem] theorem T.eln86 : elI Tryz.prog 86 = none := by kernel_rfl
@[go_sem] theorem T.sz89 : szI Tryz.prog 89 = 1 := by kernel_rfl
@[go_sem] theorem T.kd89 : kindI Tryz.prog 89 = some false := by kernel_rfl
@[go_sem] theorem T.is89 : (Tryz.prog.info? 89).isSome = true := by kernel_rfl
@[go_sem] theorem T.bl89 : bldT Tryz.prog 89 = false := by kernel_rfl
@[go_sem] theorem T.pe89 : ptrElI Tryz.prog 89 = some 92 := by kernel_rfl
@[go_sem] theorem T.zf89 : zeroF Tryz.prog 89 = some (1, .val (.pointer none)) := by kernel_rfl
@[go_sem] theorem T.zk89 : zok Tryz.prog 89 = true := by kernel_rfl
@[go_sem] theorem T.eln89 : elI Tryz.prog 89 = none := by kernel_rfl
@[go_sem] theorem T.un89 : Tryz.prog.underlying 89 = some (.pointer 92) := by kernel_rfl
@[go_sem] theorem T.sz90 : szI Tryz.prog 90 = 1 := by kernel_rfl
@[go_sem] theorem T.kd90 : kindI Tryz.prog 90 = some false := by kernel_rfl
@[go_sem] theorem T.is90 : (Tryz.prog.info? 90).isSome = true := by kernel_rfl
@[go_sem] theorem T.bl90 : bldT Tryz.prog 90 = false := by kernel_rfl
@[go_sem] theorem T.st90 : isStr (Tryz.prog.underlying 90) = false := by kernel_rfl
@[go_sem] theorem T.zf90 : zeroF Tryz.prog 90 = some (1, .nil) := by kernel_rfl
@[go_sem] theorem T.zk90 : zok Tryz.prog 90 = true := by kernel_rfl
@[go_sem] theorem T.el90 : elI Tryz.prog 90 = some 5 := by kernel_rfl
@[go_sem] theorem T.by90 : byI Tryz.prog 5 = 1 := by kernel_rfl
@[go_sem] theorem T.src90 : isSrc (Tryz.prog.underlying 90) = true := by kernel_rfl
@[go_sem] theorem T.un90 : Tryz.prog.underlying 90 = some (.slice 5) := by kernel_rfl
@[go_sem] theorem T.sz92 : szI Tryz.prog 92 = 2 := by kernel_rfl
@[go_sem] theorem T.kd92 : kindI Tryz.prog 92 = some true := by kernel_rfl
@[go_sem] theorem T.is92 : (Tryz.prog.info? 92).isSome = true := by kernel_rfl
@[go_sem] theorem T.bl92 : bldT Tryz.prog 92 = true := by kernel_rfl
@[go_sem] theorem T.zf92 : zeroF Tryz.prog 92 = some (2, .agg [.val (.pointer none), .nil]) := by kernel_rfl
@[go_sem] theorem T.zl92 : zeroL Tryz.prog 92 = some [.val (.pointer none), .nil] := by kernel_rfl
@[go_sem] theorem T.zk92 : zok Tryz.prog 92 = true := by kernel_rfl
@[go_sem] theorem T.fl92_0 : fldI Tryz.prog 92 0 = some (0, 89) := by kernel_rfl
@[go_sem] theorem T.pl92_0 : placesI Tryz.prog 92 0 = some (0, 89) := by kernel_rfl
@[go_sem] theorem T.fl92_1 : fldI Tryz.prog 92 1 = some (1, 90) := by kernel_rfl
@[go_sem] theorem T.pl92_1 : placesI Tryz.prog 92 1 = some (1, 90) := by kernel_rfl
@[go_sem] theorem T.eln92 : elI Tryz.prog 92 = none := by kernel_rfl
@[go_sem] theorem T.ifc94 : isIface (Tryz.prog.underlying 94) = true := by kernel_rfl
@[go_sem] theorem T.sz101 : szI Tryz.prog 101 = 1 := by kernel_rfl
@[go_sem] theorem T.kd101 : kindI Tryz.prog 101 = some false := by kernel_rfl
@[go_sem] theorem T.is101 : (Tryz.prog.info? 101).isSome = true := by kernel_rfl
@[go_sem] theorem T.bl101 : bldT Tryz.prog 101 = false := by kernel_rfl
@[go_sem] theorem T.st101 : isStr (Tryz.prog.underlying 101) = false := by kernel_rfl
@[go_sem] theorem T.zf101 : zeroF Tryz.prog 101 = some (1, .nil) := by kernel_rfl
@[go_sem] theorem T.zk101 : zok Tryz.prog 101 = true := by kernel_rfl
@[go_sem] theorem T.el101 : elI Tryz.prog 101 = some 105 := by kernel_rfl
@[go_sem] theorem T.by101 : byI Tryz.prog 105 = 88 := by kernel_rfl
@[go_sem] theorem T.src101 : isSrc (Tryz.prog.underlying 101) = true := by kernel_rfl
@[go_sem] theorem T.un101 : Tryz.prog.underlying 101 = some (.slice 105) := by kernel_rfl
@[go_sem] theorem T.sz105 : szI Tryz.prog 105 = 6 := by kernel_rfl
@[go_sem] theorem T.kd105 : kindI Tryz.prog 105 = some true := by kernel_rfl
@[go_sem] theorem T.is105 : (Tryz.prog.info? 105).isSome = true := by kernel_rfl
@[go_sem] theorem T.bl105 : bldT Tryz.prog 105 = false := by kernel_rfl
@[go_sem] theorem T.zf105 : zeroF Tryz.prog 105 = some (6, .agg [.val (.int .i64 0), .str [], .str [], .str [], .str [], .str []]) := by kernel_rfl
@[go_sem] theorem T.zl105 : zeroL Tryz.prog 105 = some [.val (.int .i64 0), .str [], .str [], .str [], .str [], .str []] := by kernel_rfl
@[go_sem] theorem T.zk105 : zok Tryz.prog 105 = true := by kernel_rfl
@[go_sem] theorem T.fl105_0 : fldI Tryz.prog 105 0 = some (0, 86) := by kernel_rfl
@[go_sem] theorem T.pl105_0 : placesI Tryz.prog 105 0 = some (0, 86) := by kernel_rfl
@[go_sem] theorem T.fl105_1 : fldI Tryz.prog 105 1 = some (4, 9) := by kernel_rfl
@[go_sem] theorem T.pl105_1 : placesI Tryz.prog 105 1 = some (4, 9) := by kernel_rfl
@[go_sem] theorem T.fl105_2 : fldI Tryz.prog 105 2 = some (5, 9) := by kernel_rfl
@[go_sem] theorem T.pl105_2 : placesI Tryz.prog 105 2 = some (5, 9) := by kernel_rfl
@[go_sem] theorem T.eln105 : elI Tryz.prog 105 = none := by kernel_rfl
@[go_sem] theorem T.sz107 : szI Tryz.prog 107 = 8 := by kernel_rfl
@[go_sem] theorem T.kd107 : kindI Tryz.prog 107 = some true := by kernel_rfl
@[go_sem] theorem T.is107 : (Tryz.prog.info? 107).isSome = true := by kernel_rfl
@[go_sem] theorem T.bl107 : bldT Tryz.prog 107 = false := by kernel_rfl
@[go_sem] theorem T.zf107 : zeroF Tryz.prog 107 = some (8, .agg [.val (.int .i64 0), .str [], .val (.int .i64 0), .val (.int .i64 0), .val (.int .i64 0), .nil, .str [], .val (.int .i64 0)]) := by kernel_rfl
@[go_sem] theorem T.zl107 : zeroL Tryz.prog 107 = some [.val (.int .i64 0), .str [], .val (.int .i64 0), .val (.int .i64 0), .val (.int .i64 0), .nil, .str [], .val (.int .i64 0)] := by kernel_rfl
@[go_sem] theorem T.zk107 : zok Tryz.prog 107 = true := by kernel_rfl
@[go_sem] theorem T.fl107_0 : fldI Tryz.prog 107 0 = some (0, 3) := by kernel_rfl
@[go_sem] theorem T.pl107_0 : placesI Tryz.prog 107 0 = some (0, 3) := by kernel_rfl
@[go_sem] theorem T.fl107_1 : fldI Tryz.prog 107 1 = some (1, 9) := by kernel_rfl
@[go_sem] theorem T.pl107_1 : placesI Tryz.prog 107 1 = some (1, 9) := by kernel_rfl
@[go_sem] theorem T.fl107_2 : fldI Tryz.prog 107 2 = some (2, 3) := by kernel_rfl
@[go_sem] theorem T.pl107_2 : placesI Tryz.prog 107 2 = some (2, 3) := by kernel_rfl
@[go_sem] theorem T.fl107_3 : fldI Tryz.prog 107 3 = some (3, 3) := by kernel_rfl
@[go_sem] theorem T.pl107_3 : placesI Tryz.prog 107 3 = some (3, 3) := by kernel_rfl
@[go_sem] theorem T.fl107_4 : fldI Tryz.prog 107 4 = some (4, 3) := by kernel_rfl
@[go_sem] theorem T.pl107_4 : placesI Tryz.prog 107 4 = some (4, 3) := by kernel_rfl
@[go_sem] theorem T.fl107_5 : fldI Tryz.prog 107 5 = some (5, 43) := by kernel_rfl
@[go_sem] theorem T.pl107_5 : placesI Tryz.prog 107 5 = some (5, 43) := by kernel_rfl
@[go_sem] theorem T.fl107_6 : fldI Tryz.prog 107 6 = some (6, 9) := by kernel_rfl
@[go_sem] theorem T.pl107_6 : placesI Tryz.prog 107 6 = some (6, 9) := by kernel_rfl
@[go_sem] theorem T.fl107_7 : fldI Tryz.prog 107 7 = some (7, 3) := by kernel_rfl
@[go_sem] theorem T.pl107_7 : placesI Tryz.prog 107 7 = some (7, 3) := by kernel_rfl
@[go_sem] theorem T.eln107 : elI Tryz.prog 107 = none := by kernel_rfl
@[go_sem] theorem T.sz110 : szI Tryz.prog 110 = 1 := by kernel_rfl
@[go_sem] theorem T.kd110 : kindI Tryz.prog 110 = some false := by kernel_rfl
@[go_sem] theorem T.is110 : (Tryz.prog.info? 110).isSome = true := by kernel_rfl
@[go_sem] theorem T.bl110 : bldT Tryz.prog 110 = false := by kernel_rfl
@[go_sem] theorem T.st110 : isStr (Tryz.prog.underlying 110) = false := by kernel_rfl
@[go_sem] theorem T.zf110 : zeroF Tryz.prog 110 = some (1, .nil) := by kernel_rfl
@[go_sem] theorem T.zk110 : zok Tryz.prog 110 = true := by kernel_rfl
@[go_sem] theorem T.el110 : elI Tryz.prog 110 = some 3 := by kernel_rfl
@[go_sem] theorem T.by110 : byI Tryz.prog 3 = 8 := by kernel_rfl
@[go_sem] theorem T.src110 : isSrc (Tryz.prog.underlying 110) = true := by kernel_rfl
@[go_sem] theorem T.un110 : Tryz.prog.underlying 110 = some (.slice 3) := by kernel_rfl
@[go_sem] theorem T.sz169 : szI Tryz.prog 169 = 8 := by kernel_rfl
@[go_sem] theorem T.kd169 : kindI Tryz.prog 169 = some true := by kernel_rfl
@[go_sem] theorem T.is169 : (Tryz.prog.info? 169).isSome = true := by kernel_rfl
@[go_sem] theorem T.bl169 : bldT Tryz.prog 169 = false := by kernel_rfl
@[go_sem] theorem T.zf169 : zeroF Tryz.prog 169 = some (8, .agg [.val (.int .i64 0), .str [], .val (.int .i64 0), .val (.int .i64 0), .val (.int .i64 0), .nil, .str [], .val (.int .i64 0)]) := by kernel_rfl
@[go_sem] theorem T.zl169 : zeroL Tryz.prog 169 = some [.val (.int .i64 0), .str [], .val (.int .i64 0), .val (.int .i64 0), .val (.int .i64 0), .nil, .str [], .val (.int .i64 0)] := by kernel_rfl
@[go_sem] theorem T.zk169 : zok Tryz.prog 169 = true := by kernel_rfl
@[go_sem] theorem T.fl169_0 : fldI Tryz.prog 169 0 = some (0, 3) := by kernel_rfl
@[go_sem] theorem T.pl169_0 : placesI Tryz.prog 169 0 = some (0, 3) := by kernel_rfl
@[go_sem] theorem T.fl169_1 : fldI Tryz.prog 169 1 = some (1, 9) := by kernel_rfl
@[go_sem] theorem T.pl169_1 : placesI Tryz.prog 169 1 = some (1, 9) := by kernel_rfl
@[go_sem] theorem T.fl169_2 : fldI Tryz.prog 169 2 = some (2, 3) := by kernel_rfl
@[go_sem] theorem T.pl169_2 : placesI Tryz.prog 169 2 = some (2, 3) := by kernel_rfl
@[go_sem] theorem T.fl169_3 : fldI Tryz.prog 169 3 = some (3, 3) := by kernel_rfl
@[go_sem] theorem T.pl169_3 : placesI Tryz.prog 169 3 = some (3, 3) := by kernel_rfl
@[go_sem] theorem T.fl169_4 : fldI Tryz.prog 169 4 = some (4, 3) := by kernel_rfl
@[go_sem] theorem T.pl169_4 : placesI Tryz.prog 169 4 = some (4, 3) := by kernel_rfl
@[go_sem] theorem T.fl169_5 : fldI Tryz.prog 169 5 = some (5, 43) := by kernel_rfl
@[go_sem] theorem T.pl169_5 : placesI Tryz.prog 169 5 = some (5, 43) := by kernel_rfl
@[go_sem] theorem T.fl169_6 : fldI Tryz.prog 169 6 = some (6, 9) := by kernel_rfl
@[go_sem] theorem T.pl169_6 : placesI Tryz.prog 169 6 = some (6, 9) := by kernel_rfl
@[go_sem] theorem T.fl169_7 : fldI Tryz.prog 169 7 = some (7, 3) := by kernel_rfl
@[go_sem] theorem T.pl169_7 : placesI Tryz.prog 169 7 = some (7, 3) := by kernel_rfl
@[go_sem] theorem T.eln169 : elI Tryz.prog 169 = none := by kernel_rfl
@[go_sem] theorem T.sz179 : szI Tryz.prog 179 = 10 := by kernel_rfl
@[go_sem] theorem T.kd179 : kindI Tryz.prog 179 = some true := by kernel_rfl
@[go_sem] theorem T.is179 : (Tryz.prog.info? 179).isSome = true := by kernel_rfl
@[go_sem] theorem T.bl179 : bldT Tryz.prog 179 = false := by kernel_rfl
@[go_sem] theorem T.zf179 : zeroF Tryz.prog 179 = some (10, .agg [.str [], .str [], .str [], .str [], .str [], .str [], .str [], .str [], .str [], .str []]) := by kernel_rfl
@[go_sem] theorem T.zl179 : zeroL Tryz.prog 179 = some [.str [], .str [], .str [], .str [], .str [], .str [], .str [], .str [], .str [], .str []] := by kernel_rfl
@[go_sem] theorem T.zk179 : zok Tryz.prog 179 = true := by kernel_rfl
@[go_sem] theorem T.ai179 : arrI Tryz.prog 179 = some (10, 9) := by kernel_rfl
@[go_sem] theorem T.en179 : elI Tryz.prog 179 = none := by kernel_rfl
@[go_sem] theorem T.pl179_0 : placesI Tryz.prog 179 0 = some (0, 9) := by kernel_rfl
@[go_sem] theorem T.pl179_1 : placesI Tryz.prog 179 1 = some (1, 9) := by kernel_rfl
@[go_sem] theorem T.pl179_2 : placesI Tryz.prog 179 2 = some (2, 9) := by kernel_rfl
@[go_sem] theorem T.pl179_3 : placesI Tryz.prog 179 3 = some (3, 9) := by kernel_rfl
@[go_sem] theorem T.pl179_4 : placesI Tryz.prog 179 4 = some (4, 9) := by kernel_rfl
@[go_sem] theorem T.pl179_5 : placesI Tryz.prog 179 5 = some (5, 9) := by kernel_rfl
@[go_sem] theorem T.pl179_6 : placesI Tryz.prog 179 6 = some (6, 9) := by kernel_rfl
@[go_sem] theorem T.pl179_7 : placesI Tryz.prog 179 7 = some (7, 9) := by kernel_rfl
@[go_sem] theorem T.pl179_8 : placesI Tryz.prog 179 8 = some (8, 9) := by kernel_rfl
@[go_sem] theorem T.pl179_9 : placesI Tryz.prog 179 9 = some (9, 9) := by kernel_rfl
@[go_sem] theorem T.un179 : Tryz.prog.underlying 179 = some (.array 10 9) := by kernel_rfl
@[go_sem] theorem T.sz180 : szI Tryz.prog 180 = 1 := by kernel_rfl
@[go_sem] theorem T.kd180 : kindI Tryz.prog 180 = some false := by kernel_rfl
@[go_sem] theorem T.is180 : (Tryz.prog.info? 180).isSome = true := by kernel_rfl
@[go_sem] theorem T.bl180 : bldT Tryz.prog 180 = false := by kernel_rfl
@[go_sem] theorem T.pe180 : ptrElI Tryz.prog 180 = some 5 := by kernel_rfl
@[go_sem] theorem T.zf180 : zeroF Tryz.prog 180 = some (1, .val (.pointer none)) := by kernel_rfl
@[go_sem] theorem T.zk180 : zok Tryz.prog 180 = true := by kernel_rfl
@[go_sem] theorem T.eln180 : elI Tryz.prog 180 = none := by kernel_rfl
@[go_sem] theorem T.un180 : Tryz.prog.underlying 180 = some (.pointer 5) := by kernel_rfl
@[go_sem] theorem T.sz183 : szI Tryz.prog 183 = 1 := by kernel_rfl
@[go_sem] theorem T.kd183 : kindI Tryz.prog 183 = some false := by kernel_rfl
@[go_sem] theorem T.is183 : (Tryz.prog.info? 183).isSome = true := by kernel_rfl
@[go_sem] theorem T.bl183 : bldT Tryz.prog 183 = false := by kernel_rfl
@[go_sem] theorem T.st183 : isStr (Tryz.prog.underlying 183) = false := by kernel_rfl
@[go_sem] theorem T.zf183 : zeroF Tryz.prog 183 = some (1, .nil) := by kernel_rfl
@[go_sem] theorem T.zk183 : zok Tryz.prog 183 = true := by kernel_rfl
@[go_sem] theorem T.el183 : elI Tryz.prog 183 = some 107 := by kernel_rfl
@[go_sem] theorem T.by183 : byI Tryz.prog 107 = 96 := by kernel_rfl
@[go_sem] theorem T.src183 : isSrc (Tryz.prog.underlying 183) = true := by kernel_rfl
@[go_sem] theorem T.un183 : Tryz.prog.underlying 183 = some (.slice 107) := by kernel_rfl
@[go_sem] theorem T.sz199 : szI Tryz.prog 199 = 1 := by kernel_rfl
@[go_sem] theorem T.kd199 : kindI Tryz.prog 199 = some false := by kernel_rfl
@[go_sem] theorem T.is199 : (Tryz.prog.info? 199).isSome = true := by kernel_rfl
@[go_sem] theorem T.bl199 : bldT Tryz.prog 199 = false := by kernel_rfl
@[go_sem] theorem T.co199 : Tryz.prog.cellsOf 199 = 1 := by kernel_rfl
@[go_sem] theorem T.zf199 : zeroF Tryz.prog 199 = some (1, .val (.int .u64 0)) := by kernel_rfl
@[go_sem] theorem T.zk199 : zok Tryz.prog 199 = true := by kernel_rfl
@[go_sem] theorem T.eln199 : elI Tryz.prog 199 = none := by kernel_rfl
@[go_sem] theorem T.un199 : Tryz.prog.underlying 199 = some (.int .u64) := by kernel_rfl
@[go_sem] theorem T.sz212 : szI Tryz.prog 212 = 1 := by kernel_rfl
@[go_sem] theorem T.kd212 : kindI Tryz.prog 212 = some false := by kernel_rfl
@[go_sem] theorem T.is212 : (Tryz.prog.info? 212).isSome = true := by kernel_rfl
@[go_sem] theorem T.bl212 : bldT Tryz.prog 212 = false := by kernel_rfl
@[go_sem] theorem T.st212 : isStr (Tryz.prog.underlying 212) = false := by kernel_rfl
@[go_sem] theorem T.zf212 : zeroF Tryz.prog 212 = some (1, .nil) := by kernel_rfl
@[go_sem] theorem T.zk212 : zok Tryz.prog 212 = true := by kernel_rfl
@[go_sem] theorem T.el212 : elI Tryz.prog 212 = some 169 := by kernel_rfl
@[go_sem] theorem T.by212 : byI Tryz.prog 169 = 96 := by kernel_rfl
@[go_sem] theorem T.src212 : isSrc (Tryz.prog.underlying 212) = true := by kernel_rfl
@[go_sem] theorem T.un212 : Tryz.prog.underlying 212 = some (.slice 169) := by kernel_rfl

end Go.Proofs.W

namespace Go.Proofs.W
set_option linter.unusedSimpArgs false
set_option maxRecDepth 100000
open Go Go.IL Go.Proofs
def scNumber.c : IC :=
  (.seq (.reg 0 [⟨some 12, (.alloc 169), none⟩] false)
  (.seq (.reg 1 [⟨some 13, (.move (.tmp (0 : Nat))), none⟩,
    ⟨some 14, (.move (.tmp (1 : Nat))), none⟩,
    ⟨some 15, (.move (.tmp (2 : Nat))), none⟩,
    ⟨some 16, (.move (.tmp (3 : Nat))), none⟩,
    ⟨some 17, (.move (.tmp (4 : Nat))), none⟩,
    ⟨some 18, (.move (.tmp (5 : Nat))), none⟩,
    ⟨some 19, (.build 169 #[(0, (.tmp (13 : Nat))), (1, (.tmp (14 : Nat))), (2, (.const (.int .i64 2))), (3, (.tmp (15 : Nat))), (4, (.tmp (16 : Nat))), (6, (.tmp (17 : Nat))), (7, (.tmp (18 : Nat)))]), none⟩,
    ⟨none, (.store 169 (.tmp (12 : Nat)) (.tmp (19 : Nat))), none⟩] false)
  .ret))
theorem scNumber.of : Tryz.f142.body.bind IC.of = some scNumber.c := by kernel_rfl
theorem scNumber.ok : Tryz.f142.body.map (okCode Tryz.prog Tryz.f142.ntmps (fun _ _ => false)) = some true := by kernel_rfl
def scTable.c : IC :=
  (.seq (.reg 0 [⟨some 0, (.assign (.const (.slice none 0 0))), none⟩] false)
  (.seq (.reg 1 [⟨some 1, (.build 169 #[(1, (.const (.string ⟨#[114, 111, 117, 116, 101, 114, 45, 105, 100]⟩))), (7, (.const (.int .i64 6)))]), none⟩,
    ⟨some 2, (.call { callee := (.value (.func (142 : Nat))), args := #[(.const (.int .i64 1)), (.const (.string ⟨#[99, 111, 115, 116]⟩)), (.const (.int .i64 0)), (.const (.int .i64 65535)), (.const (.string ⟨#[49]⟩)), (.const (.int .i64 2))], argTypes := #[3, 9, 3, 3, 9, 3] }), none⟩,
    ⟨some 3, (.buildSlice 43 3 #[(0, (.const (.string ⟨#[110, 111, 114, 109, 97, 108]⟩))), (1, (.const (.string ⟨#[115, 116, 117, 98]⟩))), (2, (.const (.string ⟨#[110, 115, 115, 97]⟩)))]), none⟩,
    ⟨some 4, (.build 169 #[(0, (.const (.int .i64 1))), (1, (.const (.string ⟨#[116, 121, 112, 101]⟩))), (2, (.const (.int .i64 3))), (5, (.tmp (3 : Nat))), (6, (.const (.string ⟨#[110, 111, 114, 109, 97, 108]⟩))), (7, (.const (.int .i64 3)))]), none⟩,
    ⟨some 5, (.build 169 #[(0, (.const (.int .i64 2))), (1, (.const (.string ⟨#[97, 100, 100, 114, 101, 115, 115]⟩))), (2, (.const (.int .i64 1))), (7, (.const (.int .i64 4)))]), none⟩,
    ⟨some 6, (.build 169 #[(0, (.const (.int .i64 2))), (1, (.const (.string ⟨#[97, 114, 101, 97]⟩))), (7, (.const (.int .i64 5)))]), none⟩,
    ⟨some 7, (.build 169 #[(0, (.const (.int .i64 2))), (1, (.const (.string ⟨#[97, 117, 116, 104]⟩))), (2, (.const (.int .i64 4))), (4, (.const (.int .i64 8))), (7, (.const (.int .i64 3)))]), none⟩,
    ⟨some 8, (.call { callee := (.value (.func (142 : Nat))), args := #[(.const (.int .i64 2)), (.const (.string ⟨#[99, 111, 115, 116]⟩)), (.const (.int .i64 1)), (.const (.int .i64 65535)), (.const (.string ⟨#[49, 48]⟩)), (.const (.int .i64 2))], argTypes := #[3, 9, 3, 3, 9, 3] }), none⟩,
    ⟨some 9, (.call { callee := (.value (.func (142 : Nat))), args := #[(.const (.int .i64 2)), (.const (.string ⟨#[100, 101, 97, 100]⟩)), (.const (.int .i64 1)), (.const (.int .i64 65535)), (.const (.string ⟨#[52, 48]⟩)), (.const (.int .i64 3))], argTypes := #[3, 9, 3, 3, 9, 3] }), none⟩,
    ⟨some 10, (.call { callee := (.value (.func (142 : Nat))), args := #[(.const (.int .i64 2)), (.const (.string ⟨#[104, 101, 108, 108, 111]⟩)), (.const (.int .i64 1)), (.const (.int .i64 65535)), (.const (.string ⟨#[49, 48]⟩)), (.const (.int .i64 3))], argTypes := #[3, 9, 3, 3, 9, 3] }), none⟩,
    ⟨some 11, (.buildSlice 43 2 #[(0, (.const (.string ⟨#[98, 114, 111, 97, 100, 99, 97, 115, 116]⟩))), (1, (.const (.string ⟨#[112, 111, 105, 110, 116, 45, 116, 111, 45, 112, 111, 105, 110, 116]⟩)))]), none⟩,
    ⟨some 12, (.build 169 #[(0, (.const (.int .i64 2))), (1, (.const (.string ⟨#[110, 101, 116, 119, 111, 114, 107]⟩))), (2, (.const (.int .i64 3))), (5, (.tmp (11 : Nat))), (6, (.const (.string ⟨#[98, 114, 111, 97, 100, 99, 97, 115, 116]⟩))), (7, (.const (.int .i64 4)))]), none⟩,
    ⟨some 13, (.call { callee := (.value (.func (142 : Nat))), args := #[(.const (.int .i64 2)), (.const (.string ⟨#[112, 114, 105, 111, 114, 105, 116, 121]⟩)), (.const (.int .i64 0)), (.const (.int .i64 255)), (.const (.string ⟨#[49]⟩)), (.const (.int .i64 1))], argTypes := #[3, 9, 3, 3, 9, 3] }), none⟩,
    ⟨some 14, (.call { callee := (.value (.func (142 : Nat))), args := #[(.const (.int .i64 2)), (.const (.string ⟨#[114, 101, 116, 114, 97, 110, 115, 109, 105, 116]⟩)), (.const (.int .i64 1)), (.const (.int .i64 3600)), (.const (.string ⟨#[53]⟩)), (.const (.int .i64 0))], argTypes := #[3, 9, 3, 3, 9, 3] }), none⟩,
    ⟨some 15, (.buildSlice 212 12 #[(0, (.tmp (1 : Nat))), (1, (.tmp (2 : Nat))), (2, (.tmp (4 : Nat))), (3, (.tmp (5 : Nat))), (4, (.tmp (6 : Nat))), (5, (.tmp (7 : Nat))), (6, (.tmp (8 : Nat))), (7, (.tmp (9 : Nat))), (8, (.tmp (10 : Nat))), (9, (.tmp (12 : Nat))), (10, (.tmp (13 : Nat))), (11, (.tmp (14 : Nat)))]), none⟩,
    ⟨some 0, (.assign (.tmp (15 : Nat))), none⟩] false)
  .ret))
theorem scTable.of : Tryz.f113.body.bind IC.of = some scTable.c := by kernel_rfl
theorem scTable.ok : Tryz.f113.body.map (okCode Tryz.prog Tryz.f113.ntmps (fun _ _ => false)) = some true := by kernel_rfl
def scFind.L0 : IC :=
  (.seq (.reg 2 [⟨some 11, (.binOp .lss 3 (.tmp (10 : Nat)) (.tmp (9 : Nat)) 3), none⟩] false)
  (.seq (.cond (.tmp (11 : Nat)) .skip (.exit 0))
  (.seq (.block 1 (.seq (.reg 3 [⟨some 12, (.indexAddr 212 (.tmp (8 : Nat)) (.tmp (10 : Nat))), none⟩,
    ⟨some 13, (.load 169 (.tmp (12 : Nat))), none⟩,
    ⟨some 7, (.alloc 169), none⟩,
    ⟨none, (.store 169 (.tmp (7 : Nat)) (.tmp (13 : Nat))), none⟩] false)
  (.seq (.reg 4 [⟨some 14, (.fieldAddr 169 (.tmp (7 : Nat)) 0), none⟩,
    ⟨some 15, (.load 3 (.tmp (14 : Nat))), none⟩,
    ⟨some 16, (.move (.tmp (0 : Nat))), none⟩,
    ⟨some 17, (.binOp .eql 3 (.tmp (15 : Nat)) (.tmp (16 : Nat)) 3), none⟩,
    ⟨some 18, (.move (.tmp (17 : Nat))), none⟩,
    ⟨some 19, (.fieldAddr 169 (.tmp (7 : Nat)) 1), some (18, true)⟩,
    ⟨some 20, (.load 9 (.tmp (19 : Nat))), some (18, true)⟩,
    ⟨some 21, (.move (.tmp (1 : Nat))), some (18, true)⟩,
    ⟨some 22, (.binOp .eql 9 (.tmp (20 : Nat)) (.tmp (21 : Nat)) 9), some (18, true)⟩,
    ⟨some 23, (.pick (.tmp (18 : Nat)) (.tmp (22 : Nat)) (.const (.bool false))), none⟩] false)
  (.cond (.tmp (23 : Nat)) (.seq (.reg 5 [⟨some 24, (.load 169 (.tmp (7 : Nat))), none⟩,
    ⟨none, (.store 169 (.tmp (4 : Nat)) (.tmp (24 : Nat))), none⟩,
    ⟨some 5, (.assign (.const (.bool true))), none⟩] false)
  .ret) .skip))))
  (.reg 6 [⟨some 25, (.binOp .add 3 (.tmp (10 : Nat)) (.const (.int .i64 1)) 3), none⟩,
    ⟨some 10, (.move (.tmp (25 : Nat))), none⟩] false))))
def scFind.R0 : IC :=
  (.seq (.reg 7 [⟨some 26, (.build 169 #[]), none⟩,
    ⟨none, (.store 169 (.tmp (4 : Nat)) (.tmp (26 : Nat))), none⟩,
    ⟨some 5, (.assign (.const (.bool false))), none⟩] false)
  .ret)
def scFind.c : IC :=
  (.seq (.reg 0 [⟨some 4, (.alloc 169), none⟩,
    ⟨some 5, (.assign (.const (.bool false))), none⟩] false)
  (.seq (.seq (.reg 1 [⟨some 8, (.call { callee := (.value (.func (113 : Nat))), args := #[], argTypes := #[] }), none⟩,
    ⟨some 9, (.call { callee := (.builtin .len), args := #[(.tmp (8 : Nat))], argTypes := #[212] }), none⟩,
    ⟨some 10, (.move (.const (.int .i64 0))), none⟩] false)
  (.block 0 (.loop scFind.L0)))
  (cutIC scFind.R0)))
theorem scFind.of : Tryz.f76.body.bind IC.of = some scFind.c := by kernel_rfl
theorem scFind.ok : Tryz.f76.body.map (okCode Tryz.prog Tryz.f76.ntmps (fun _ _ => false)) = some true := by kernel_rfl
def r4Table.c : IC :=
  (.seq (.reg 0 [⟨some 0, (.assign (.const (.slice none 0 0))), none⟩] false)
  (.seq (.reg 1 [⟨some 1, (.build 107 #[(1, (.const (.string ⟨#[114, 111, 117, 116, 101, 114, 45, 105, 100]⟩))), (7, (.const (.int .i64 6)))]), none⟩,
    ⟨some 2, (.build 107 #[(0, (.const (.int .i64 1))), (1, (.const (.string ⟨#[99, 111, 115, 116]⟩))), (2, (.const (.int .i64 2))), (4, (.const (.int .i64 65535))), (6, (.const (.string ⟨#[49]⟩))), (7, (.const (.int .i64 2)))]), none⟩,
    ⟨some 3, (.buildSlice 43 3 #[(0, (.const (.string ⟨#[110, 111, 114, 109, 97, 108]⟩))), (1, (.const (.string ⟨#[115, 116, 117, 98]⟩))), (2, (.const (.string ⟨#[110, 115, 115, 97]⟩)))]), none⟩,
    ⟨some 4, (.build 107 #[(0, (.const (.int .i64 1))), (1, (.const (.string ⟨#[116, 121, 112, 101]⟩))), (2, (.const (.int .i64 3))), (5, (.tmp (3 : Nat))), (6, (.const (.string ⟨#[110, 111, 114, 109, 97, 108]⟩))), (7, (.const (.int .i64 3)))]), none⟩,
    ⟨some 5, (.build 107 #[(0, (.const (.int .i64 2))), (1, (.const (.string ⟨#[97, 100, 100, 114, 101, 115, 115]⟩))), (2, (.const (.int .i64 1))), (7, (.const (.int .i64 4)))]), none⟩,
    ⟨some 6, (.build 107 #[(0, (.const (.int .i64 2))), (1, (.const (.string ⟨#[97, 114, 101, 97]⟩))), (7, (.const (.int .i64 5)))]), none⟩,
    ⟨some 7, (.build 107 #[(0, (.const (.int .i64 2))), (1, (.const (.string ⟨#[97, 117, 116, 104]⟩))), (2, (.const (.int .i64 4))), (4, (.const (.int .i64 8))), (7, (.const (.int .i64 3)))]), none⟩,
    ⟨some 8, (.build 107 #[(0, (.const (.int .i64 2))), (1, (.const (.string ⟨#[99, 111, 115, 116]⟩))), (2, (.const (.int .i64 2))), (3, (.const (.int .i64 1))), (4, (.const (.int .i64 65535))), (6, (.const (.string ⟨#[49, 48]⟩))), (7, (.const (.int .i64 2)))]), none⟩,
    ⟨some 9, (.build 107 #[(0, (.const (.int .i64 2))), (1, (.const (.string ⟨#[100, 101, 97, 100]⟩))), (2, (.const (.int .i64 2))), (3, (.const (.int .i64 1))), (4, (.const (.int .i64 65535))), (6, (.const (.string ⟨#[52, 48]⟩))), (7, (.const (.int .i64 3)))]), none⟩,
    ⟨some 10, (.build 107 #[(0, (.const (.int .i64 2))), (1, (.const (.string ⟨#[104, 101, 108, 108, 111]⟩))), (2, (.const (.int .i64 2))), (3, (.const (.int .i64 1))), (4, (.const (.int .i64 65535))), (6, (.const (.string ⟨#[49, 48]⟩))), (7, (.const (.int .i64 3)))]), none⟩,
    ⟨some 11, (.buildSlice 43 2 #[(0, (.const (.string ⟨#[98, 114, 111, 97, 100, 99, 97, 115, 116]⟩))), (1, (.const (.string ⟨#[112, 111, 105, 110, 116, 45, 116, 111, 45, 112, 111, 105, 110, 116]⟩)))]), none⟩,
    ⟨some 12, (.build 107 #[(0, (.const (.int .i64 2))), (1, (.const (.string ⟨#[110, 101, 116, 119, 111, 114, 107]⟩))), (2, (.const (.int .i64 3))), (5, (.tmp (11 : Nat))), (6, (.const (.string ⟨#[98, 114, 111, 97, 100, 99, 97, 115, 116]⟩))), (7, (.const (.int .i64 4)))]), none⟩,
    ⟨some 13, (.build 107 #[(0, (.const (.int .i64 2))), (1, (.const (.string ⟨#[112, 114, 105, 111, 114, 105, 116, 121]⟩))), (2, (.const (.int .i64 2))), (4, (.const (.int .i64 255))), (6, (.const (.string ⟨#[49]⟩))), (7, (.const (.int .i64 1)))]), none⟩,
    ⟨some 14, (.build 107 #[(0, (.const (.int .i64 2))), (1, (.const (.string ⟨#[114, 101, 116, 114, 97, 110, 115, 109, 105, 116]⟩))), (2, (.const (.int .i64 2))), (3, (.const (.int .i64 1))), (4, (.const (.int .i64 3600))), (6, (.const (.string ⟨#[53]⟩)))]), none⟩,
    ⟨some 15, (.buildSlice 183 12 #[(0, (.tmp (1 : Nat))), (1, (.tmp (2 : Nat))), (2, (.tmp (4 : Nat))), (3, (.tmp (5 : Nat))), (4, (.tmp (6 : Nat))), (5, (.tmp (7 : Nat))), (6, (.tmp (8 : Nat))), (7, (.tmp (9 : Nat))), (8, (.tmp (10 : Nat))), (9, (.tmp (12 : Nat))), (10, (.tmp (13 : Nat))), (11, (.tmp (14 : Nat)))]), none⟩,
    ⟨some 0, (.assign (.tmp (15 : Nat))), none⟩] false)
  .ret))
theorem r4Table.of : Tryz.f87.body.bind IC.of = some r4Table.c := by kernel_rfl
theorem r4Table.ok : Tryz.f87.body.map (okCode Tryz.prog Tryz.f87.ntmps (fun _ _ => false)) = some true := by kernel_rfl
def r4Find.L0 : IC :=
  (.seq (.seq (.reg 3 [⟨some 9, (.move (.tmp (7 : Nat))), none⟩,
    ⟨some 10, (.move (.tmp (6 : Nat))), none⟩,
    ⟨some 11, (.call { callee := (.builtin .len), args := #[(.tmp (10 : Nat))], argTypes := #[183] }), none⟩,
    ⟨some 12, (.binOp .lss 3 (.tmp (9 : Nat)) (.tmp (11 : Nat)) 3), none⟩] false)
  (.cond (.tmp (12 : Nat)) .skip (.exit 0)))
  (.seq (.block 1 (.seq (.reg 5 [⟨some 15, (.move (.tmp (6 : Nat))), none⟩,
    ⟨some 16, (.move (.tmp (7 : Nat))), none⟩,
    ⟨some 17, (.indexAddr 183 (.tmp (15 : Nat)) (.tmp (16 : Nat))), none⟩,
    ⟨some 18, (.fieldAddr 107 (.tmp (17 : Nat)) 0), none⟩,
    ⟨some 19, (.load 3 (.tmp (18 : Nat))), none⟩,
    ⟨some 20, (.move (.tmp (0 : Nat))), none⟩,
    ⟨some 21, (.binOp .eql 3 (.tmp (19 : Nat)) (.tmp (20 : Nat)) 3), none⟩,
    ⟨some 22, (.move (.tmp (21 : Nat))), none⟩,
    ⟨some 23, (.move (.tmp (6 : Nat))), some (22, true)⟩,
    ⟨some 24, (.move (.tmp (7 : Nat))), some (22, true)⟩,
    ⟨some 25, (.indexAddr 183 (.tmp (23 : Nat)) (.tmp (24 : Nat))), some (22, true)⟩,
    ⟨some 26, (.fieldAddr 107 (.tmp (25 : Nat)) 1), some (22, true)⟩,
    ⟨some 27, (.load 9 (.tmp (26 : Nat))), some (22, true)⟩,
    ⟨some 28, (.move (.tmp (1 : Nat))), some (22, true)⟩,
    ⟨some 29, (.binOp .eql 9 (.tmp (27 : Nat)) (.tmp (28 : Nat)) 9), some (22, true)⟩,
    ⟨some 30, (.pick (.tmp (22 : Nat)) (.tmp (29 : Nat)) (.const (.bool false))), none⟩] false)
  (.cond (.tmp (30 : Nat)) (.seq (.reg 6 [⟨some 31, (.move (.tmp (6 : Nat))), none⟩,
    ⟨some 32, (.move (.tmp (7 : Nat))), none⟩,
    ⟨some 33, (.indexAddr 183 (.tmp (31 : Nat)) (.tmp (32 : Nat))), none⟩,
    ⟨some 34, (.load 107 (.tmp (33 : Nat))), none⟩,
    ⟨none, (.store 107 (.tmp (4 : Nat)) (.tmp (34 : Nat))), none⟩,
    ⟨some 5, (.assign (.const (.bool true))), none⟩] false)
  .ret) .skip)))
  (.reg 4 [⟨some 13, (.move (.tmp (7 : Nat))), none⟩,
    ⟨some 14, (.binOp .add 3 (.tmp (13 : Nat)) (.const (.int .i64 1)) 3), none⟩,
    ⟨some 7, (.assign (.tmp (14 : Nat))), none⟩] false)))
def r4Find.R0 : IC :=
  (.seq (.reg 7 [⟨some 35, (.build 107 #[]), none⟩,
    ⟨none, (.store 107 (.tmp (4 : Nat)) (.tmp (35 : Nat))), none⟩,
    ⟨some 5, (.assign (.const (.bool false))), none⟩] false)
  .ret)
def r4Find.c : IC :=
  (.seq (.reg 0 [⟨some 4, (.alloc 107), none⟩,
    ⟨some 5, (.assign (.const (.bool false))), none⟩] false)
  (.seq (.reg 1 [⟨some 8, (.call { callee := (.value (.func (87 : Nat))), args := #[], argTypes := #[] }), none⟩,
    ⟨some 6, (.assign (.tmp (8 : Nat))), none⟩] false)
  (.seq (.seq (.reg 2 [⟨some 7, (.assign (.const (.int .i64 0))), none⟩] false)
  (.block 0 (.loop r4Find.L0)))
  (cutIC r4Find.R0))))
theorem r4Find.of : Tryz.f41.body.bind IC.of = some r4Find.c := by kernel_rfl
theorem r4Find.ok : Tryz.f41.body.map (okCode Tryz.prog Tryz.f41.ntmps (fun _ _ => false)) = some true := by kernel_rfl
variable {W0 : World}
theorem w_number : PureF Tryz.prog W0 142 sNumber := by
  refine PureF.of (rs := [(.cell 12 169)]) (fun _ _ => false) (Φ := []) trivial T.mixed Tryz.func142 scNumber.of rfl scNumber.ok rfl ?_
  intro args H v hs
  unfold sNumber at hs
  split at hs <;> cases hs
  refine ⟨by simp [Tryz.f142], ?_⟩
  unfold scNumber.c
  simp (implicitDefEqProofs := false) (contextual := true) only [go_sem, reduceIte, Nat.reduceEqDiff, Nat.reduceAdd, Nat.reduceSub, Nat.reduceMul, Nat.reduceLeDiff, Int.reduceLT, Int.reduceLE, Int.reduceEq, Int.reduceAdd, Int.reduceSub, Int.reduceMul, Int.reduceNeg, Int.reduceToNat, reduceCtorEq, Nat.reduceBEq, Nat.reduceLT, rowV]
theorem w_scTable (h1 : PureF Tryz.prog W0 142 sNumber) : PureF Tryz.prog W0 113 sTable := by
  refine PureF.of (rs := [(.tmp 0)]) (fun _ _ => false) (Φ := [(142, sNumber)]) ⟨h1, trivial⟩ T.mixed Tryz.func113 scTable.of rfl scTable.ok rfl ?_
  intro args H v hs
  unfold sTable at hs
  split at hs <;> cases hs
  refine ⟨by simp, ?_⟩
  unfold scTable.c
  simp (implicitDefEqProofs := false) (contextual := true) only [go_sem, reduceIte, Nat.reduceEqDiff, Nat.reduceAdd, Nat.reduceSub, Nat.reduceMul, Nat.reduceLeDiff, Int.reduceLT, Int.reduceLE, Int.reduceEq, Int.reduceAdd, Int.reduceSub, Int.reduceMul, Int.reduceNeg, Int.reduceToNat, reduceCtorEq, Nat.reduceBEq, Nat.reduceLT, rowV, table]
theorem w_r4Table : PureF Tryz.prog W0 87 sTable := by
  refine PureF.of (rs := [(.tmp 0)]) (fun _ _ => false) (Φ := []) trivial T.mixed Tryz.func87 r4Table.of rfl r4Table.ok rfl ?_
  intro args H v hs
  unfold sTable at hs
  split at hs <;> cases hs
  refine ⟨by simp, ?_⟩
  unfold r4Table.c
  simp (implicitDefEqProofs := false) (contextual := true) only [go_sem, reduceIte, Nat.reduceEqDiff, Nat.reduceAdd, Nat.reduceSub, Nat.reduceMul, Nat.reduceLeDiff, Int.reduceLT, Int.reduceLE, Int.reduceEq, Int.reduceAdd, Int.reduceSub, Int.reduceMul, Int.reduceNeg, Int.reduceToNat, reduceCtorEq, Nat.reduceBEq, Nat.reduceLT, rowV, table]
theorem w_scFind (h1 : PureF Tryz.prog W0 113 sTable) : PureF Tryz.prog W0 76 sFind := by
  refine PureF.of (rs := [(.cell 4 169), (.tmp 5)]) (fun _ _ => false) (Φ := [(113, sTable)]) ⟨h1, trivial⟩ T.mixed Tryz.func76 scFind.of rfl scFind.ok rfl ?_
  intro args H v hs
  unfold sFind at hs
  split at hs <;> cases hs
  rename_i h n
  refine ⟨by simp [Tryz.f76], ?_⟩
  unfold scFind.c
  simp (implicitDefEqProofs := false) (contextual := true) only [go_sem, reduceIte, Nat.reduceEqDiff, Nat.reduceAdd, Nat.reduceSub, Nat.reduceMul, Nat.reduceLeDiff, Int.reduceLT, Int.reduceLE, Int.reduceEq, Int.reduceAdd, Int.reduceSub, Int.reduceMul, Int.reduceNeg, Int.reduceToNat, reduceCtorEq, Nat.reduceBEq, Nat.reduceLT, List.length_map]
  intro id hid
  refine wpO_up 12 (fun i fr H' => i ≤ 12 ∧ fr 0 = .val (.int .i64 h) ∧ fr 1 = .str n ∧ fr 4 = .ptr id 8 0 0 ∧ fr 8 = .sl (table.map rowV) ∧ fr 9 = .val (.int .i64 12) ∧
    fr 10 = .val (.int .i64 i) ∧ (∀ j r, j < i → table[j]? = some r → (decide (r.head = h) && decide (r.name = n)) = false) ∧ Keeps H H' ∧
    H' id = .mem 8 [.agg [.val (.int .i64 0), .str [], .val (.int .i64 0), .val (.int .i64 0), .val (.int .i64 0), .nil, .str [], .val (.int .i64 0)]]) 0 ?_ ?_
  · simp (implicitDefEqProofs := false) (contextual := true) only [go_sem, reduceIte, Nat.reduceEqDiff, Nat.reduceAdd, Nat.reduceSub, Nat.reduceMul, Nat.reduceLeDiff, Int.reduceLT, Int.reduceLE, Int.reduceEq, Int.reduceAdd, Int.reduceSub, Int.reduceMul, Int.reduceNeg, Int.reduceToNat, reduceCtorEq, Nat.reduceBEq, Nat.reduceLT, Keeps_set, hid]
    simp
  · rintro i fr H' ⟨hi, f0, f1, f4, f8, f9, f10, hb, hk, hr0⟩
    unfold scFind.L0
    by_cases hlt : (i : Int) < 12
    · have hlt' : i < 12 := by omega
      obtain ⟨r, hr⟩ : ∃ r, table[i]? = some r := ⟨_, List.getElem?_eq_getElem (by simpa [table] using hlt')⟩
      have next : (decide (r.head = h) && decide (r.name = n)) = false → ∀ j r', j < i + 1 → table[j]? = some r' → (decide (r'.head = h) && decide (r'.name = n)) = false := by
        intro hn j r' hj hr'
        by_cases e : j = i
        · subst e; rw [hr] at hr'; cases hr'; exact hn
        · exact hb j r' (by omega) hr'
      simp (implicitDefEqProofs := false) (contextual := true) only [go_sem, reduceIte, Nat.reduceEqDiff, Nat.reduceAdd, Nat.reduceSub, Nat.reduceMul, Nat.reduceLeDiff, Int.reduceLT, Int.reduceLE, Int.reduceEq, Int.reduceAdd, Int.reduceSub, Int.reduceMul, Int.reduceNeg, Int.reduceToNat, reduceCtorEq, Nat.reduceBEq, Nat.reduceLT, f0, f1, f4, f8, f9, f10, hr, rowV, hr0, hlt]
      intro id1 hd1
      have hw : IntKind.i64.wrap ((i : Int) + 1) = ((i + 1 : Nat) : Int) := wrap64 (by omega)
      have hk1 := hk.dead hd1
      refine ⟨fun e1 => ⟨fun e2 => ⟨?_, (hk.set hk1).set hid⟩, fun e2 => ⟨hlt', by omega, by rw [hw], next (by simp [e2]), hk.set hk1⟩⟩, fun e1 => ⟨hlt', by omega, by rw [hw], next (by simp [e1]), hk.set hk1⟩⟩
      have : findRow h n = some r := find_at (i := i) hb hr (by simp [e1, e2])
      rw [this, ← e1, ← e2]; simp
    · simp (implicitDefEqProofs := false) (contextual := true) only [go_sem, reduceIte, Nat.reduceEqDiff, Nat.reduceAdd, Nat.reduceSub, Nat.reduceMul, Nat.reduceLeDiff, Int.reduceLT, Int.reduceLE, Int.reduceEq, Int.reduceAdd, Int.reduceSub, Int.reduceMul, Int.reduceNeg, Int.reduceToNat, reduceCtorEq, Nat.reduceBEq, Nat.reduceLT, f0, f1, f4, f8, f9, f10, hlt]
      rw [wpO_eq]
      unfold scFind.R0
      have hfn : findRow h n = none := find_none fun j r hj hr => hb j r (by rw [table_len] at hj; omega) hr
      simp (implicitDefEqProofs := false) (contextual := true) only [go_sem, reduceIte, Nat.reduceEqDiff, Nat.reduceAdd, Nat.reduceSub, Nat.reduceMul, Nat.reduceLeDiff, Int.reduceLT, Int.reduceLE, Int.reduceEq, Int.reduceAdd, Int.reduceSub, Int.reduceMul, Int.reduceNeg, Int.reduceToNat, reduceCtorEq, Nat.reduceBEq, Nat.reduceLT, f4, hr0, hfn, Option.isSome_none, row0, rowV]
      exact hk.set hid
theorem w_r4Find (h1 : PureF Tryz.prog W0 87 sTable) : PureF Tryz.prog W0 41 sFind := by
  refine PureF.of (rs := [(.cell 4 107), (.tmp 5)]) (fun _ _ => false) (Φ := [(87, sTable)]) ⟨h1, trivial⟩ T.mixed Tryz.func41 r4Find.of rfl r4Find.ok rfl ?_
  intro args H v hs
  unfold sFind at hs
  split at hs <;> cases hs
  rename_i h n
  refine ⟨by simp [Tryz.f41], ?_⟩
  unfold r4Find.c
  simp (implicitDefEqProofs := false) (contextual := true) only [go_sem, reduceIte, Nat.reduceEqDiff, Nat.reduceAdd, Nat.reduceSub, Nat.reduceMul, Nat.reduceLeDiff, Int.reduceLT, Int.reduceLE, Int.reduceEq, Int.reduceAdd, Int.reduceSub, Int.reduceMul, Int.reduceNeg, Int.reduceToNat, reduceCtorEq, Nat.reduceBEq, Nat.reduceLT, List.length_map]
  intro id hid
  refine wpO_up 12 (fun i fr H' => i ≤ 12 ∧ fr 0 = .val (.int .i64 h) ∧ fr 1 = .str n ∧ fr 4 = .ptr id 8 0 0 ∧ fr 6 = .sl (table.map rowV) ∧
    fr 7 = .val (.int .i64 i) ∧ (∀ j r, j < i → table[j]? = some r → (decide (r.head = h) && decide (r.name = n)) = false) ∧
    H' = H.set id (.mem 8 [.agg [.val (.int .i64 0), .str [], .val (.int .i64 0), .val (.int .i64 0), .val (.int .i64 0), .nil, .str [], .val (.int .i64 0)]])) 0 ?_ ?_
  · simp (implicitDefEqProofs := false) (contextual := true) only [go_sem, reduceIte, Nat.reduceEqDiff, Nat.reduceAdd, Nat.reduceSub, Nat.reduceMul, Nat.reduceLeDiff, Int.reduceLT, Int.reduceLE, Int.reduceEq, Int.reduceAdd, Int.reduceSub, Int.reduceMul, Int.reduceNeg, Int.reduceToNat, reduceCtorEq, Nat.reduceBEq, Nat.reduceLT]
    simp
  · rintro i fr H' ⟨hi, f0, f1, f4, f6, f7, hb, rfl⟩
    unfold r4Find.L0
    by_cases hlt : (i : Int) < 12
    · have hlt' : i < 12 := by omega
      obtain ⟨r, hr⟩ : ∃ r, table[i]? = some r := ⟨_, List.getElem?_eq_getElem (by simpa [table] using hlt')⟩
      have next : (decide (r.head = h) && decide (r.name = n)) = false → ∀ j r', j < i + 1 → table[j]? = some r' → (decide (r'.head = h) && decide (r'.name = n)) = false := by
        intro hn j r' hj hr'
        by_cases e : j = i
        · subst e; rw [hr] at hr'; cases hr'; exact hn
        · exact hb j r' (by omega) hr'
      have hw : IntKind.i64.wrap ((i : Int) + 1) = ((i + 1 : Nat) : Int) := wrap64 (by omega)
      by_cases e1 : r.head = h
      · by_cases e2 : r.name = n
        · have : findRow h n = some r := find_at (i := i) hb hr (by simp [e1, e2])
          simp (implicitDefEqProofs := false) only [go_sem, reduceIte, Nat.reduceEqDiff, Nat.reduceAdd, Nat.reduceSub, Nat.reduceMul, Nat.reduceLeDiff, Int.reduceLT, Int.reduceLE, Int.reduceEq, Int.reduceAdd, Int.reduceSub, Int.reduceMul, Int.reduceNeg, Int.reduceToNat, reduceCtorEq, Nat.reduceBEq, Nat.reduceLT, f0, f1, f4, f6, f7, hr, rowV, hlt, List.length_map, hid, e1, e2, this, Option.isSome_some]
        · simp (implicitDefEqProofs := false) only [go_sem, reduceIte, Nat.reduceEqDiff, Nat.reduceAdd, Nat.reduceSub, Nat.reduceMul, Nat.reduceLeDiff, Int.reduceLT, Int.reduceLE, Int.reduceEq, Int.reduceAdd, Int.reduceSub, Int.reduceMul, Int.reduceNeg, Int.reduceToNat, reduceCtorEq, Nat.reduceBEq, Nat.reduceLT, f0, f1, f4, f6, f7, hr, rowV, hlt, List.length_map, e1, e2]
          exact ⟨hlt', by omega, by rw [hw], next (by simp [e2])⟩
      · simp (implicitDefEqProofs := false) only [go_sem, reduceIte, Nat.reduceEqDiff, Nat.reduceAdd, Nat.reduceSub, Nat.reduceMul, Nat.reduceLeDiff, Int.reduceLT, Int.reduceLE, Int.reduceEq, Int.reduceAdd, Int.reduceSub, Int.reduceMul, Int.reduceNeg, Int.reduceToNat, reduceCtorEq, Nat.reduceBEq, Nat.reduceLT, f0, f1, f4, f6, f7, hr, rowV, hlt, List.length_map, e1]
        exact ⟨hlt', by omega, by rw [hw], next (by simp [e1])⟩
    · simp (implicitDefEqProofs := false) (contextual := true) only [go_sem, reduceIte, Nat.reduceEqDiff, Nat.reduceAdd, Nat.reduceSub, Nat.reduceMul, Nat.reduceLeDiff, Int.reduceLT, Int.reduceLE, Int.reduceEq, Int.reduceAdd, Int.reduceSub, Int.reduceMul, Int.reduceNeg, Int.reduceToNat, reduceCtorEq, Nat.reduceBEq, Nat.reduceLT, f0, f1, f4, f6, f7, hlt, List.length_map]
      rw [wpO_eq]
      unfold r4Find.R0
      have hfn : findRow h n = none := find_none fun j r hj hr => hb j r (by rw [table_len] at hj; omega) hr
      simp (implicitDefEqProofs := false) (contextual := true) only [go_sem, reduceIte, Nat.reduceEqDiff, Nat.reduceAdd, Nat.reduceSub, Nat.reduceMul, Nat.reduceLeDiff, Int.reduceLT, Int.reduceLE, Int.reduceEq, Int.reduceAdd, Int.reduceSub, Int.reduceMul, Int.reduceNeg, Int.reduceToNat, reduceCtorEq, Nat.reduceBEq, Nat.reduceLT, f4, hfn, Option.isSome_none, row0, rowV, hid]

end Go.Proofs.W

namespace Go.Proofs.W
set_option linter.unusedSimpArgs false
set_option maxRecDepth 20000
open Go Go.IL Go.Proofs
def r5RightLine.c : IC :=
  (.seq (.reg 0 [⟨some 1, (.box 86 (.tmp (0 : Nat))), none⟩,
    ⟨some 2, (.assign (.const (.bool false))), none⟩] false)
  (.seq (.reg 1 [⟨some 6, (.fieldAddr 86 (.tmp (1 : Nat)) 0), none⟩,
    ⟨some 7, (.load 3 (.tmp (6 : Nat))), none⟩,
    ⟨some 8, (.fieldAddr 86 (.tmp (1 : Nat)) 2), none⟩,
    ⟨some 9, (.load 9 (.tmp (8 : Nat))), none⟩,
    ⟨some 10, (.call { callee := (.value (.func (41 : Nat))), args := #[(.tmp (7 : Nat)), (.tmp (9 : Nat))], argTypes := #[3, 9] }), none⟩,
    ⟨some 5, (.move (.tmp (10 : Nat))), none⟩,
    ⟨some 11, (.extract (.tmp (5 : Nat)) 0), none⟩,
    ⟨some 12, (.extract (.tmp (5 : Nat)) 1), none⟩,
    ⟨some 3, (.alloc 107), none⟩,
    ⟨none, (.store 107 (.tmp (3 : Nat)) (.tmp (11 : Nat))), none⟩,
    ⟨some 4, (.assign (.tmp (12 : Nat))), none⟩] false)
  (.seq (.reg 2 [⟨some 13, (.move (.tmp (4 : Nat))), none⟩,
    ⟨some 14, (.move (.tmp (13 : Nat))), none⟩,
    ⟨some 15, (.fieldAddr 86 (.tmp (1 : Nat)) 0), some (14, true)⟩,
    ⟨some 16, (.load 3 (.tmp (15 : Nat))), some (14, true)⟩,
    ⟨some 17, (.fieldAddr 86 (.tmp (1 : Nat)) 1), some (14, true)⟩,
    ⟨some 18, (.load 9 (.tmp (17 : Nat))), some (14, true)⟩,
    ⟨some 19, (.call { callee := (.value (.func (82 : Nat))), args := #[(.tmp (16 : Nat)), (.tmp (18 : Nat))], argTypes := #[3, 9] }), some (14, true)⟩,
    ⟨some 20, (.pick (.tmp (14 : Nat)) (.tmp (19 : Nat)) (.const (.bool false))), none⟩,
    ⟨some 21, (.move (.tmp (20 : Nat))), none⟩,
    ⟨some 22, (.load 107 (.tmp (3 : Nat))), some (21, true)⟩,
    ⟨some 23, (.fieldAddr 86 (.tmp (1 : Nat)) 3), some (21, true)⟩,
    ⟨some 24, (.load 9 (.tmp (23 : Nat))), some (21, true)⟩,
    ⟨some 25, (.call { callee := (.value (.func (83 : Nat))), args := #[(.tmp (22 : Nat)), (.tmp (24 : Nat))], argTypes := #[107, 9] }), some (21, true)⟩,
    ⟨some 26, (.pick (.tmp (21 : Nat)) (.tmp (25 : Nat)) (.const (.bool false))), none⟩,
    ⟨some 2, (.assign (.tmp (26 : Nat))), none⟩] false)
  .ret)))
theorem r5RightLine.of : Tryz.f33.body.bind IC.of = some r5RightLine.c := by kernel_rfl
theorem r5RightLine.ok : Tryz.f33.body.map (okCode Tryz.prog Tryz.f33.ntmps (fun _ _ => false)) = some true := by kernel_rfl
def r5Less.c : IC :=
  (.seq (.reg 0 [⟨some 2, (.box 86 (.tmp (0 : Nat))), none⟩,
    ⟨some 3, (.box 86 (.tmp (1 : Nat))), none⟩,
    ⟨some 4, (.assign (.const (.bool false))), none⟩] false)
  (.seq (.seq (.reg 1 [⟨some 5, (.fieldAddr 86 (.tmp (2 : Nat)) 0), none⟩,
    ⟨some 6, (.load 3 (.tmp (5 : Nat))), none⟩,
    ⟨some 7, (.fieldAddr 86 (.tmp (3 : Nat)) 0), none⟩,
    ⟨some 8, (.load 3 (.tmp (7 : Nat))), none⟩,
    ⟨some 9, (.binOp .neq 3 (.tmp (6 : Nat)) (.tmp (8 : Nat)) 3), none⟩] false)
  (.cond (.tmp (9 : Nat)) (.seq (.reg 2 [⟨some 10, (.fieldAddr 86 (.tmp (2 : Nat)) 0), none⟩,
    ⟨some 11, (.load 3 (.tmp (10 : Nat))), none⟩,
    ⟨some 12, (.fieldAddr 86 (.tmp (3 : Nat)) 0), none⟩,
    ⟨some 13, (.load 3 (.tmp (12 : Nat))), none⟩,
    ⟨some 14, (.binOp .lss 3 (.tmp (11 : Nat)) (.tmp (13 : Nat)) 3), none⟩,
    ⟨some 4, (.assign (.tmp (14 : Nat))), none⟩] false)
  .ret) .skip))
  (.seq (.seq (.reg 3 [⟨some 15, (.fieldAddr 86 (.tmp (2 : Nat)) 1), none⟩,
    ⟨some 16, (.load 9 (.tmp (15 : Nat))), none⟩,
    ⟨some 17, (.fieldAddr 86 (.tmp (3 : Nat)) 1), none⟩,
    ⟨some 18, (.load 9 (.tmp (17 : Nat))), none⟩,
    ⟨some 19, (.binOp .neq 9 (.tmp (16 : Nat)) (.tmp (18 : Nat)) 9), none⟩] false)
  (.cond (.tmp (19 : Nat)) (.seq (.reg 4 [⟨some 20, (.fieldAddr 86 (.tmp (2 : Nat)) 1), none⟩,
    ⟨some 21, (.load 9 (.tmp (20 : Nat))), none⟩,
    ⟨some 22, (.fieldAddr 86 (.tmp (3 : Nat)) 1), none⟩,
    ⟨some 23, (.load 9 (.tmp (22 : Nat))), none⟩,
    ⟨some 24, (.binOp .lss 9 (.tmp (21 : Nat)) (.tmp (23 : Nat)) 9), none⟩,
    ⟨some 4, (.assign (.tmp (24 : Nat))), none⟩] false)
  .ret) .skip))
  (.seq (.reg 5 [⟨some 25, (.fieldAddr 86 (.tmp (2 : Nat)) 2), none⟩,
    ⟨some 26, (.load 9 (.tmp (25 : Nat))), none⟩,
    ⟨some 27, (.fieldAddr 86 (.tmp (3 : Nat)) 2), none⟩,
    ⟨some 28, (.load 9 (.tmp (27 : Nat))), none⟩,
    ⟨some 29, (.binOp .lss 9 (.tmp (26 : Nat)) (.tmp (28 : Nat)) 9), none⟩,
    ⟨some 4, (.assign (.tmp (29 : Nat))), none⟩] false)
  .ret))))
theorem r5Less.of : Tryz.f34.body.bind IC.of = some r5Less.c := by kernel_rfl
theorem r5Less.ok : Tryz.f34.body.map (okCode Tryz.prog Tryz.f34.ntmps (fun _ _ => false)) = some true := by kernel_rfl
def r5Right.L0 : IC :=
  (.seq (.seq (.reg 2 [⟨some 4, (.move (.tmp (3 : Nat))), none⟩,
    ⟨some 5, (.move (.tmp (0 : Nat))), none⟩,
    ⟨some 6, (.call { callee := (.builtin .len), args := #[(.tmp (5 : Nat))], argTypes := #[22] }), none⟩,
    ⟨some 7, (.binOp .lss 3 (.tmp (4 : Nat)) (.tmp (6 : Nat)) 3), none⟩] false)
  (.cond (.tmp (7 : Nat)) .skip (.exit 0)))
  (.seq (.block 1 (.seq (.reg 4 [⟨some 10, (.move (.tmp (0 : Nat))), none⟩,
    ⟨some 11, (.move (.tmp (3 : Nat))), none⟩,
    ⟨some 12, (.indexAddr 22 (.tmp (10 : Nat)) (.tmp (11 : Nat))), none⟩,
    ⟨some 13, (.load 86 (.tmp (12 : Nat))), none⟩,
    ⟨some 14, (.call { callee := (.value (.func (33 : Nat))), args := #[(.tmp (13 : Nat))], argTypes := #[86] }), none⟩,
    ⟨some 15, (.unOp .not 4 (.tmp (14 : Nat))), none⟩,
    ⟨some 16, (.move (.tmp (15 : Nat))), none⟩,
    ⟨some 17, (.move (.tmp (3 : Nat))), some (16, false)⟩,
    ⟨some 18, (.binOp .gtr 3 (.tmp (17 : Nat)) (.const (.int .i64 0)) 3), some (16, false)⟩,
    ⟨some 19, (.move (.tmp (18 : Nat))), some (16, false)⟩,
    ⟨some 20, (.move (.tmp (0 : Nat))), some (19, true)⟩,
    ⟨some 21, (.move (.tmp (3 : Nat))), some (19, true)⟩,
    ⟨some 22, (.binOp .sub 3 (.tmp (21 : Nat)) (.const (.int .i64 1)) 3), some (19, true)⟩,
    ⟨some 23, (.indexAddr 22 (.tmp (20 : Nat)) (.tmp (22 : Nat))), some (19, true)⟩,
    ⟨some 24, (.load 86 (.tmp (23 : Nat))), some (19, true)⟩,
    ⟨some 25, (.move (.tmp (0 : Nat))), some (19, true)⟩,
    ⟨some 26, (.move (.tmp (3 : Nat))), some (19, true)⟩,
    ⟨some 27, (.indexAddr 22 (.tmp (25 : Nat)) (.tmp (26 : Nat))), some (19, true)⟩,
    ⟨some 28, (.load 86 (.tmp (27 : Nat))), some (19, true)⟩,
    ⟨some 29, (.call { callee := (.value (.func (34 : Nat))), args := #[(.tmp (24 : Nat)), (.tmp (28 : Nat))], argTypes := #[86, 86] }), some (19, true)⟩,
    ⟨some 30, (.unOp .not 4 (.tmp (29 : Nat))), some (19, true)⟩,
    ⟨some 31, (.pick (.tmp (19 : Nat)) (.tmp (30 : Nat)) (.const (.bool false))), some (16, false)⟩,
    ⟨some 32, (.pick (.tmp (16 : Nat)) (.const (.bool true)) (.tmp (31 : Nat))), none⟩] true)
  (.cond (.tmp (32 : Nat)) (.seq (.reg 5 [⟨some 2, (.assign (.const (.bool false))), none⟩] false)
  .ret) .skip)))
  (.reg 3 [⟨some 8, (.move (.tmp (3 : Nat))), none⟩,
    ⟨some 9, (.binOp .add 3 (.tmp (8 : Nat)) (.const (.int .i64 1)) 3), none⟩,
    ⟨some 3, (.assign (.tmp (9 : Nat))), none⟩] false)))
def r5Right.R0 : IC :=
  (.seq (.reg 6 [⟨some 33, (.move (.tmp (0 : Nat))), none⟩,
    ⟨some 34, (.call { callee := (.builtin .len), args := #[(.tmp (33 : Nat))], argTypes := #[22] }), none⟩,
    ⟨some 35, (.binOp .leq 3 (.tmp (34 : Nat)) (.const (.int .i64 64)) 3), none⟩,
    ⟨some 2, (.assign (.tmp (35 : Nat))), none⟩] false)
  .ret)
def r5Right.c : IC :=
  (.seq (.reg 0 [⟨some 2, (.assign (.const (.bool false))), none⟩] false)
  (.seq (.seq (.reg 1 [⟨some 3, (.assign (.const (.int .i64 0))), none⟩] false)
  (.block 0 (.loop r5Right.L0)))
  (cutIC r5Right.R0)))
theorem r5Right.of : Tryz.f10.body.bind IC.of = some r5Right.c := by kernel_rfl
theorem r5Right.ok : Tryz.f10.body.map (okCode Tryz.prog Tryz.f10.ntmps (fun _ _ => false)) = some true := by kernel_rfl
variable {W0 : World}
theorem w_r5Less : PureF Tryz.prog W0 34 sLess := by
  refine PureF.of (rs := [(.tmp 4)]) (fun _ _ => false) (Φ := []) trivial T.mixed Tryz.func34 r5Less.of rfl r5Less.ok rfl ?_
  intro args H v hs
  unfold sLess at hs
  split at hs <;> cases hs
  rename_i h n f v h' n' f' v'
  refine ⟨by simp [Tryz.f34], ?_⟩
  unfold r5Less.c
  by_cases e1 : h = h'
  · by_cases e2 : n = n'
    · simp (implicitDefEqProofs := false) (contextual := true) only [go_sem, reduceIte, Nat.reduceEqDiff, Nat.reduceAdd, Nat.reduceSub, Nat.reduceMul, Nat.reduceLeDiff, Int.reduceLT, Int.reduceLE, Int.reduceEq, Int.reduceAdd, Int.reduceSub, Int.reduceMul, Int.reduceNeg, Int.reduceToNat, reduceCtorEq, Nat.reduceBEq, Nat.reduceLT, lessB, e1, e2]
    · simp (implicitDefEqProofs := false) (contextual := true) only [go_sem, reduceIte, Nat.reduceEqDiff, Nat.reduceAdd, Nat.reduceSub, Nat.reduceMul, Nat.reduceLeDiff, Int.reduceLT, Int.reduceLE, Int.reduceEq, Int.reduceAdd, Int.reduceSub, Int.reduceMul, Int.reduceNeg, Int.reduceToNat, reduceCtorEq, Nat.reduceBEq, Nat.reduceLT, lessB, e1, e2]
  · simp (implicitDefEqProofs := false) (contextual := true) only [go_sem, reduceIte, Nat.reduceEqDiff, Nat.reduceAdd, Nat.reduceSub, Nat.reduceMul, Nat.reduceLeDiff, Int.reduceLT, Int.reduceLE, Int.reduceEq, Int.reduceAdd, Int.reduceSub, Int.reduceMul, Int.reduceNeg, Int.reduceToNat, reduceCtorEq, Nat.reduceBEq, Nat.reduceLT, lessB, e1]
theorem sorted_take : ∀ (l : List Line) (k : Nat), sortedB l = true → sortedB (l.take k) = true
  | [], k, _ => by simp [sortedB]
  | [a], k, _ => by cases k <;> simp [sortedB]
  | a :: b :: l, 0, _ => rfl
  | a :: b :: l, 1, _ => rfl
  | a :: b :: l, k + 2, h => by
    simp only [sortedB, Bool.and_eq_true, List.take_succ_cons] at h ⊢
    exact ⟨h.1, by have := sorted_take (b :: l) (k + 1) h.2; simpa using this⟩
theorem w_r5RightLine (h1 : PureF Tryz.prog W0 41 sFind) (h2 : PureF Tryz.prog W0 82 sNamed) (h3 : PureF Tryz.prog W0 83 sRight) : PureF Tryz.prog W0 33 sLineOk := by
  refine PureF.of (rs := [(.tmp 2)]) (fun _ _ => false) (Φ := [(41, sFind), (82, sNamed), (83, sRight)]) ⟨h1, h2, h3, trivial⟩ T.mixed Tryz.func33 r5RightLine.of rfl r5RightLine.ok rfl ?_
  intro args H v hs
  unfold sLineOk at hs
  split at hs
  · rename_i h n f v
    split at hs <;> cases hs
    rename_i hf
    obtain ⟨f1, f2, f3⟩ := hf
    simp only at f1 f2 f3
    refine ⟨by simp [Tryz.f33], ?_⟩
    unfold r5RightLine.c
    cases hr : findRow h f with
    | none => simp (implicitDefEqProofs := false) (contextual := true) only [go_sem, reduceIte, Nat.reduceEqDiff, Nat.reduceAdd, Nat.reduceSub, Nat.reduceMul, Nat.reduceLeDiff, Int.reduceLT, Int.reduceLE, Int.reduceEq, Int.reduceAdd, Int.reduceSub, Int.reduceMul, Int.reduceNeg, Int.reduceToNat, reduceCtorEq, Nat.reduceBEq, Nat.reduceLT, hr, lineOkB, row0, rowV, Option.isSome_none]
    | some r =>
      have hc : r.choices.length ≤ big := by
        have := List.mem_of_find?_eq_some hr
        simp only [table, List.mem_cons, List.not_mem_nil, or_false] at this
        rcases this with h | h | h | h | h | h | h | h | h | h | h | h <;> subst h <;> decide
      cases hn : namedB h n with
      | false => simp (implicitDefEqProofs := false) (contextual := true) only [go_sem, reduceIte, Nat.reduceEqDiff, Nat.reduceAdd, Nat.reduceSub, Nat.reduceMul, Nat.reduceLeDiff, Int.reduceLT, Int.reduceLE, Int.reduceEq, Int.reduceAdd, Int.reduceSub, Int.reduceMul, Int.reduceNeg, Int.reduceToNat, reduceCtorEq, Nat.reduceBEq, Nat.reduceLT, hr, lineOkB, rowV, Option.isSome_some, hn, f1, f2, f3]
      | true => simp (implicitDefEqProofs := false) (contextual := true) only [go_sem, reduceIte, Nat.reduceEqDiff, Nat.reduceAdd, Nat.reduceSub, Nat.reduceMul, Nat.reduceLeDiff, Int.reduceLT, Int.reduceLE, Int.reduceEq, Int.reduceAdd, Int.reduceSub, Int.reduceMul, Int.reduceNeg, Int.reduceToNat, reduceCtorEq, Nat.reduceBEq, Nat.reduceLT, hr, lineOkB, rowV, Option.isSome_some, hn, f1, f2, f3, hc, List.length_map]
  · cases hs
theorem sorted_snoc : ∀ (l : List Line) (a : Line), sortedB (l ++ [a]) = (sortedB l && match l.getLast? with | none => true | some b => lessB b a)
  | [], a => rfl
  | [b], a => by simp [sortedB]
  | b :: c :: l, a => by
    have := sorted_snoc (c :: l) a
    simp only [List.cons_append] at this ⊢
    simp only [sortedB]
    rw [this, List.getLast?_cons_cons, Bool.and_assoc]
theorem w_r5Right (h1 : PureF Tryz.prog W0 33 sLineOk) (h2 : PureF Tryz.prog W0 34 sLess) : PureF Tryz.prog W0 10 sRights := by
  refine PureF.of (rs := [(.tmp 2)]) (fun _ _ => false) (Φ := [(33, sLineOk), (34, sLess)]) ⟨h1, h2, trivial⟩ T.mixed Tryz.func10 r5Right.of rfl r5Right.ok rfl ?_
  intro args H v hs
  unfold sRights at hs
  split at hs
  · rename_i x
    simp only [Option.bind_eq_some_iff] at hs
    obtain ⟨c, hc, hs⟩ := hs
    split at hs <;> cases hs
    rename_i hok
    obtain ⟨hl, hfit⟩ := hok
    unfold big at hl
    refine ⟨by simp [Tryz.f10], ?_⟩
    have hx : x = .nil ∧ c = [] ∨ x = .sl (c.map lineV) := by
      unfold confOf at hc
      split at hc
      · exact .inr (by rw [linesOf_some hc])
      · cases hc; exact .inl ⟨rfl, rfl⟩
      · cases hc
    unfold r5Right.c
    rcases hx with ⟨rfl, rfl⟩ | rfl
    · simp (implicitDefEqProofs := false) (contextual := true) only [go_sem, reduceIte, Nat.reduceEqDiff, Nat.reduceAdd, Nat.reduceSub, Nat.reduceMul, Nat.reduceLeDiff, Int.reduceLT, Int.reduceLE, Int.reduceEq, Int.reduceAdd, Int.reduceSub, Int.reduceMul, Int.reduceNeg, Int.reduceToNat, reduceCtorEq, Nat.reduceBEq, Nat.reduceLT]
      refine wpO_up 0 (fun i fr H' => fr 0 = .nil ∧ fr 3 = .val (.int .i64 0) ∧ H' = H) 0 ?_ ?_
      · simp (implicitDefEqProofs := false) (contextual := true) only [go_sem, reduceIte, Nat.reduceEqDiff, Nat.reduceAdd, Nat.reduceSub, Nat.reduceMul, Nat.reduceLeDiff, Int.reduceLT, Int.reduceLE, Int.reduceEq, Int.reduceAdd, Int.reduceSub, Int.reduceMul, Int.reduceNeg, Int.reduceToNat, reduceCtorEq, Nat.reduceBEq, Nat.reduceLT]
      · rintro i fr H' ⟨f0, f3, rfl⟩
        unfold r5Right.L0
        simp (implicitDefEqProofs := false) only [go_sem, reduceIte, Nat.reduceEqDiff, Nat.reduceAdd, Nat.reduceSub, Nat.reduceMul, Nat.reduceLeDiff, Int.reduceLT, Int.reduceLE, Int.reduceEq, Int.reduceAdd, Int.reduceSub, Int.reduceMul, Int.reduceNeg, Int.reduceToNat, reduceCtorEq, Nat.reduceBEq, Nat.reduceLT, f0, f3]
        rw [wpO_eq]
        unfold r5Right.R0
        simp (implicitDefEqProofs := false) only [go_sem, reduceIte, Nat.reduceEqDiff, Nat.reduceAdd, Nat.reduceSub, Nat.reduceMul, Nat.reduceLeDiff, Int.reduceLT, Int.reduceLE, Int.reduceEq, Int.reduceAdd, Int.reduceSub, Int.reduceMul, Int.reduceNeg, Int.reduceToNat, reduceCtorEq, Nat.reduceBEq, Nat.reduceLT, f0, f3]
        rfl
    · simp (implicitDefEqProofs := false) (contextual := true) only [go_sem, reduceIte, Nat.reduceEqDiff, Nat.reduceAdd, Nat.reduceSub, Nat.reduceMul, Nat.reduceLeDiff, Int.reduceLT, Int.reduceLE, Int.reduceEq, Int.reduceAdd, Int.reduceSub, Int.reduceMul, Int.reduceNeg, Int.reduceToNat, reduceCtorEq, Nat.reduceBEq, Nat.reduceLT]
      refine wpO_up c.length (fun i fr H' => i ≤ c.length ∧ fr 0 = .sl (c.map lineV) ∧ fr 3 = .val (.int .i64 i) ∧ (c.take i).all lineOkB = true ∧ sortedB (c.take i) = true ∧ H' = H) 0 ?_ ?_
      · simp (implicitDefEqProofs := false) (contextual := true) only [go_sem, reduceIte, Nat.reduceEqDiff, Nat.reduceAdd, Nat.reduceSub, Nat.reduceMul, Nat.reduceLeDiff, Int.reduceLT, Int.reduceLE, Int.reduceEq, Int.reduceAdd, Int.reduceSub, Int.reduceMul, Int.reduceNeg, Int.reduceToNat, reduceCtorEq, Nat.reduceBEq, Nat.reduceLT]
        simp [sortedB]
      · rintro i fr H' ⟨hi, f0, f3, ha, hso, rfl⟩
        unfold r5Right.L0
        have hw : IntKind.i64.wrap ((i : Int) + 1) = ((i + 1 : Nat) : Int) := wrap64 (by omega)
        by_cases hlt : i < c.length
        · obtain ⟨l, hli⟩ : ∃ l, c[i]? = some l := ⟨_, List.getElem?_eq_getElem hlt⟩
          have hlf : l.fits := hfit l (List.mem_of_getElem? hli)
          have htk : c.take (i + 1) = c.take i ++ [l] := by rw [List.take_add_one, hli]; rfl
          cases hg : lineOkB l with
          | false =>
            have hr : rightsB c = false := by
              unfold rightsB
              have : c.all lineOkB = false := by
                rw [← Bool.not_eq_true, List.all_eq_true]
                intro h
                rw [h l (List.mem_of_getElem? hli)] at hg; cases hg
              simp [this]
            simp (implicitDefEqProofs := false) only [go_sem, reduceIte, Nat.reduceEqDiff, Nat.reduceAdd, Nat.reduceSub, Nat.reduceMul, Nat.reduceLeDiff, Int.reduceLT, Int.reduceLE, Int.reduceEq, Int.reduceAdd, Int.reduceSub, Int.reduceMul, Int.reduceNeg, Int.reduceToNat, reduceCtorEq, Nat.reduceBEq, Nat.reduceLT, f0, f3, hlt, hli, List.length_map, lineV, hlf, hg, hr]
          | true =>
            match i, hi, hlt, hli, htk, ha, hso, hw, f3 with
            | 0, hi, hlt, hli, htk, ha, hso, hw, f3 =>
              have hpos : (0 : Int) < (c.length : Int) := by omega
              simp (implicitDefEqProofs := false) only [go_sem, reduceIte, Nat.reduceEqDiff, Nat.reduceAdd, Nat.reduceSub, Nat.reduceMul, Nat.reduceLeDiff, Int.reduceLT, Int.reduceLE, Int.reduceEq, Int.reduceAdd, Int.reduceSub, Int.reduceMul, Int.reduceNeg, Int.reduceToNat, reduceCtorEq, Nat.reduceBEq, Nat.reduceLT, f0, f3, hlt, hli, List.length_map, lineV, hlf, hg, hpos]
              and_intros
              all_goals first | omega | (simpa using hw) | (rw [htk]; simp [hg]; done) | (rw [htk]; rfl)
            | k + 1, hi, hlt, hli, htk, ha, hso, hw, f3 =>
              obtain ⟨p, hpi⟩ : ∃ p, c[k]? = some p := ⟨_, List.getElem?_eq_getElem (by omega)⟩
              have hw2 : IntKind.i64.wrap (((k + 1 : Nat) : Int) - 1) = (k : Int) := by rw [wrap64 (by omega)]; omega
              have h0 : (0 : Int) < ((k + 1 : Nat) : Int) := by omega
              have hlast : (c.take (k + 1)).getLast? = some p := by rw [List.take_add_one, hpi]; simp
              have hs1 := sorted_snoc (c.take (k + 1)) l
              rw [hlast, ← htk] at hs1
              simp only at hs1
              cases hq : lessB p l with
              | false =>
                have hr : rightsB c = false := by
                  have hns : sortedB c = false := by
                    rw [← Bool.not_eq_true]
                    intro h
                    have := sorted_take c (k + 1 + 1) h
                    rw [hs1, hq] at this; simp at this
                  unfold rightsB; simp [hns]
                simp (implicitDefEqProofs := false) only [go_sem, reduceIte, Nat.reduceEqDiff, Nat.reduceAdd, Nat.reduceSub, Nat.reduceMul, Nat.reduceLeDiff, Int.reduceLT, Int.reduceLE, Int.reduceEq, Int.reduceAdd, Int.reduceSub, Int.reduceMul, Int.reduceNeg, Int.reduceToNat, reduceCtorEq, Nat.reduceBEq, Nat.reduceLT, f0, f3, hlt, hli, hpi, List.length_map, lineV, hlf, hg, hr, hw2, h0, hq]
              | true =>
                simp (implicitDefEqProofs := false) only [go_sem, reduceIte, Nat.reduceEqDiff, Nat.reduceAdd, Nat.reduceSub, Nat.reduceMul, Nat.reduceLeDiff, Int.reduceLT, Int.reduceLE, Int.reduceEq, Int.reduceAdd, Int.reduceSub, Int.reduceMul, Int.reduceNeg, Int.reduceToNat, reduceCtorEq, Nat.reduceBEq, Nat.reduceLT, f0, f3, hlt, hli, hpi, List.length_map, lineV, hlf, hg, hw2, h0, hq]
                and_intros
                all_goals first | omega | (rw [hw]; done) | (rw [htk]; simp [hg, ha]; done) | (rw [hs1, hso, hq]; rfl)
        · simp (implicitDefEqProofs := false) only [go_sem, reduceIte, Nat.reduceEqDiff, Nat.reduceAdd, Nat.reduceSub, Nat.reduceMul, Nat.reduceLeDiff, Int.reduceLT, Int.reduceLE, Int.reduceEq, Int.reduceAdd, Int.reduceSub, Int.reduceMul, Int.reduceNeg, Int.reduceToNat, reduceCtorEq, Nat.reduceBEq, Nat.reduceLT, f0, f3, hlt, List.length_map]
          rw [wpO_eq]
          unfold r5Right.R0
          have hic : i = c.length := by omega
          subst hic
          rw [List.take_length] at ha hso
          simp (implicitDefEqProofs := false) only [go_sem, reduceIte, Nat.reduceEqDiff, Nat.reduceAdd, Nat.reduceSub, Nat.reduceMul, Nat.reduceLeDiff, Int.reduceLT, Int.reduceLE, Int.reduceEq, Int.reduceAdd, Int.reduceSub, Int.reduceMul, Int.reduceNeg, Int.reduceToNat, reduceCtorEq, Nat.reduceBEq, Nat.reduceLT, f0, f3, List.length_map]
          simp only [rightsB, ha, hso, Bool.true_and]
          congr 3
          simp
          omega
  · cases hs

end Go.Proofs.W

namespace Go.Proofs.W
set_option linter.unusedSimpArgs false
set_option maxRecDepth 20000
open Go Go.IL Go.Proofs
def cmpNaN.c : IC :=
  (.seq (.reg 0 [⟨some 2, (.assign (.const (.bool false))), none⟩] false)
  (.seq (.reg 1 [⟨some 3, (.move (.tmp (0 : Nat))), none⟩,
    ⟨some 4, (.move (.tmp (0 : Nat))), none⟩,
    ⟨some 5, (.binOp .neq 3 (.tmp (3 : Nat)) (.tmp (4 : Nat)) 3), none⟩,
    ⟨some 2, (.assign (.tmp (5 : Nat))), none⟩] false)
  .ret))
theorem cmpNaN.of : Tryz.f103.body.bind IC.of = some cmpNaN.c := by kernel_rfl
theorem cmpNaN.ok : Tryz.f103.body.map (okCode Tryz.prog Tryz.f103.ntmps (fun _ _ => false)) = some true := by kernel_rfl
def cmpInt.c : IC :=
  (.seq (.reg 0 [⟨some 4, (.assign (.const (.int .i64 0))), none⟩] false)
  (.seq (.reg 1 [⟨some 7, (.move (.tmp (0 : Nat))), none⟩,
    ⟨some 8, (.call { callee := (.value (.func (103 : Nat))), args := #[(.tmp (7 : Nat))], argTypes := #[3] }), none⟩,
    ⟨some 5, (.assign (.tmp (8 : Nat))), none⟩] false)
  (.seq (.reg 2 [⟨some 9, (.move (.tmp (1 : Nat))), none⟩,
    ⟨some 10, (.call { callee := (.value (.func (103 : Nat))), args := #[(.tmp (9 : Nat))], argTypes := #[3] }), none⟩,
    ⟨some 6, (.assign (.tmp (10 : Nat))), none⟩] false)
  (.seq (.seq (.reg 3 [⟨some 11, (.move (.tmp (5 : Nat))), none⟩] false)
  (.cond (.tmp (11 : Nat)) (.seq (.seq (.reg 4 [⟨some 12, (.move (.tmp (6 : Nat))), none⟩] false)
  (.cond (.tmp (12 : Nat)) (.seq (.reg 5 [⟨some 4, (.assign (.const (.int .i64 0))), none⟩] false)
  .ret) .skip))
  (.seq (.reg 6 [⟨some 4, (.assign (.const (.int .i64 (-1)))), none⟩] false)
  .ret)) .skip))
  (.seq (.seq (.reg 7 [⟨some 13, (.move (.tmp (6 : Nat))), none⟩] false)
  (.cond (.tmp (13 : Nat)) (.seq (.reg 8 [⟨some 4, (.assign (.const (.int .i64 1))), none⟩] false)
  .ret) .skip))
  (.seq (.seq (.reg 9 [⟨some 14, (.move (.tmp (0 : Nat))), none⟩,
    ⟨some 15, (.move (.tmp (1 : Nat))), none⟩,
    ⟨some 16, (.binOp .lss 3 (.tmp (14 : Nat)) (.tmp (15 : Nat)) 3), none⟩] false)
  (.cond (.tmp (16 : Nat)) (.seq (.reg 10 [⟨some 4, (.assign (.const (.int .i64 (-1)))), none⟩] false)
  .ret) .skip))
  (.seq (.seq (.reg 11 [⟨some 17, (.move (.tmp (0 : Nat))), none⟩,
    ⟨some 18, (.move (.tmp (1 : Nat))), none⟩,
    ⟨some 19, (.binOp .gtr 3 (.tmp (17 : Nat)) (.tmp (18 : Nat)) 3), none⟩] false)
  (.cond (.tmp (19 : Nat)) (.seq (.reg 12 [⟨some 4, (.assign (.const (.int .i64 1))), none⟩] false)
  .ret) .skip))
  (.seq (.reg 13 [⟨some 4, (.assign (.const (.int .i64 0))), none⟩] false)
  .ret))))))))
theorem cmpInt.of : Tryz.f55.body.bind IC.of = some cmpInt.c := by kernel_rfl
theorem cmpInt.ok : Tryz.f55.body.map (okCode Tryz.prog Tryz.f55.ntmps (fun _ _ => false)) = some true := by kernel_rfl
def cmpOr.L0 : IC :=
  (.seq (.reg 3 [⟨some 9, (.binOp .lss 3 (.tmp (8 : Nat)) (.tmp (7 : Nat)) 3), none⟩] false)
  (.seq (.cond (.tmp (9 : Nat)) .skip (.exit 0))
  (.seq (.block 1 (.seq (.reg 4 [⟨some 10, (.indexAddr 110 (.tmp (6 : Nat)) (.tmp (8 : Nat))), none⟩,
    ⟨some 11, (.load 3 (.tmp (10 : Nat))), none⟩,
    ⟨some 5, (.assign (.tmp (11 : Nat))), none⟩] false)
  (.seq (.reg 5 [⟨some 12, (.move (.tmp (5 : Nat))), none⟩,
    ⟨some 13, (.move (.tmp (3 : Nat))), none⟩,
    ⟨some 14, (.binOp .neq 3 (.tmp (12 : Nat)) (.tmp (13 : Nat)) 3), none⟩] false)
  (.cond (.tmp (14 : Nat)) (.seq (.reg 6 [⟨some 15, (.move (.tmp (5 : Nat))), none⟩,
    ⟨some 2, (.assign (.tmp (15 : Nat))), none⟩] false)
  .ret) .skip))))
  (.reg 7 [⟨some 16, (.binOp .add 3 (.tmp (8 : Nat)) (.const (.int .i64 1)) 3), none⟩,
    ⟨some 8, (.move (.tmp (16 : Nat))), none⟩] false))))
def cmpOr.R0 : IC :=
  (.seq (.reg 8 [⟨some 17, (.move (.tmp (3 : Nat))), none⟩,
    ⟨some 2, (.assign (.tmp (17 : Nat))), none⟩] false)
  .ret)
def cmpOr.c : IC :=
  (.seq (.reg 0 [⟨some 2, (.assign (.const (.int .i64 0))), none⟩] false)
  (.seq (.reg 1 [⟨some 3, (.assign (.const (.int .i64 0))), none⟩] false)
  (.seq (.seq (.reg 2 [⟨some 6, (.move (.tmp (0 : Nat))), none⟩,
    ⟨some 7, (.call { callee := (.builtin .len), args := #[(.tmp (6 : Nat))], argTypes := #[110] }), none⟩,
    ⟨some 8, (.move (.const (.int .i64 0))), none⟩] false)
  (.block 0 (.loop cmpOr.L0)))
  (cutIC cmpOr.R0))))
theorem cmpOr.of : Tryz.f53.body.bind IC.of = some cmpOr.c := by kernel_rfl
theorem cmpOr.ok : Tryz.f53.body.map (okCode Tryz.prog Tryz.f53.ntmps (fun _ _ => false)) = some true := by kernel_rfl
def cfOrder.c : IC :=
  (.seq (.reg 0 [⟨some 2, (.box 80 (.tmp (0 : Nat))), none⟩,
    ⟨some 3, (.box 80 (.tmp (1 : Nat))), none⟩,
    ⟨some 4, (.assign (.const (.int .i64 0))), none⟩] false)
  (.seq (.reg 1 [⟨some 5, (.fieldAddr 80 (.tmp (2 : Nat)) 0), none⟩,
    ⟨some 6, (.load 3 (.tmp (5 : Nat))), none⟩,
    ⟨some 7, (.fieldAddr 80 (.tmp (3 : Nat)) 0), none⟩,
    ⟨some 8, (.load 3 (.tmp (7 : Nat))), none⟩,
    ⟨some 9, (.call { callee := (.value (.func (55 : Nat))), args := #[(.tmp (6 : Nat)), (.tmp (8 : Nat))], argTypes := #[3, 3] }), none⟩,
    ⟨some 10, (.fieldAddr 80 (.tmp (2 : Nat)) 1), none⟩,
    ⟨some 11, (.load 9 (.tmp (10 : Nat))), none⟩,
    ⟨some 12, (.fieldAddr 80 (.tmp (3 : Nat)) 1), none⟩,
    ⟨some 13, (.load 9 (.tmp (12 : Nat))), none⟩,
    ⟨some 14, (.call { callee := (.value (.func (80 : Nat))), args := #[(.tmp (11 : Nat)), (.tmp (13 : Nat))], argTypes := #[9, 9] }), none⟩,
    ⟨some 15, (.fieldAddr 80 (.tmp (2 : Nat)) 2), none⟩,
    ⟨some 16, (.load 9 (.tmp (15 : Nat))), none⟩,
    ⟨some 17, (.fieldAddr 80 (.tmp (3 : Nat)) 2), none⟩,
    ⟨some 18, (.load 9 (.tmp (17 : Nat))), none⟩,
    ⟨some 19, (.call { callee := (.value (.func (80 : Nat))), args := #[(.tmp (16 : Nat)), (.tmp (18 : Nat))], argTypes := #[9, 9] }), none⟩,
    ⟨some 20, (.buildSlice 110 3 #[(0, (.tmp (9 : Nat))), (1, (.tmp (14 : Nat))), (2, (.tmp (19 : Nat)))]), none⟩,
    ⟨some 21, (.call { callee := (.value (.func (53 : Nat))), args := #[(.tmp (20 : Nat))], argTypes := #[110] }), none⟩,
    ⟨some 4, (.assign (.tmp (21 : Nat))), none⟩] true)
  .ret))
theorem cfOrder.of : Tryz.f109.body.bind IC.of = some cfOrder.c := by kernel_rfl
theorem cfOrder.ok : Tryz.f109.body.map (okCode Tryz.prog Tryz.f109.ntmps (fun _ _ => false)) = some true := by kernel_rfl
def cfLess.c : IC :=
  (.seq (.reg 0 [⟨some 2, (.box 80 (.tmp (0 : Nat))), none⟩,
    ⟨some 3, (.box 80 (.tmp (1 : Nat))), none⟩,
    ⟨some 4, (.assign (.const (.bool false))), none⟩] false)
  (.seq (.reg 1 [⟨some 5, (.load 80 (.tmp (2 : Nat))), none⟩,
    ⟨some 6, (.load 80 (.tmp (3 : Nat))), none⟩,
    ⟨some 7, (.call { callee := (.value (.func (109 : Nat))), args := #[(.tmp (5 : Nat)), (.tmp (6 : Nat))], argTypes := #[80, 80] }), none⟩,
    ⟨some 8, (.binOp .lss 3 (.tmp (7 : Nat)) (.const (.int .i64 0)) 3), none⟩,
    ⟨some 4, (.assign (.tmp (8 : Nat))), none⟩] false)
  .ret))
theorem cfLess.of : Tryz.f70.body.bind IC.of = some cfLess.c := by kernel_rfl
theorem cfLess.ok : Tryz.f70.body.map (okCode Tryz.prog Tryz.f70.ntmps (fun _ _ => false)) = some true := by kernel_rfl
def cfRight1.c : IC :=
  (.seq (.reg 0 [⟨some 1, (.box 80 (.tmp (0 : Nat))), none⟩,
    ⟨some 2, (.assign (.const (.bool false))), none⟩] false)
  (.seq (.reg 1 [⟨some 6, (.fieldAddr 80 (.tmp (1 : Nat)) 0), none⟩,
    ⟨some 7, (.load 3 (.tmp (6 : Nat))), none⟩,
    ⟨some 8, (.fieldAddr 80 (.tmp (1 : Nat)) 2), none⟩,
    ⟨some 9, (.load 9 (.tmp (8 : Nat))), none⟩,
    ⟨some 10, (.call { callee := (.value (.func (76 : Nat))), args := #[(.tmp (7 : Nat)), (.tmp (9 : Nat))], argTypes := #[3, 9] }), none⟩,
    ⟨some 5, (.move (.tmp (10 : Nat))), none⟩,
    ⟨some 11, (.extract (.tmp (5 : Nat)) 0), none⟩,
    ⟨some 12, (.extract (.tmp (5 : Nat)) 1), none⟩,
    ⟨some 3, (.alloc 169), none⟩,
    ⟨none, (.store 169 (.tmp (3 : Nat)) (.tmp (11 : Nat))), none⟩,
    ⟨some 4, (.assign (.tmp (12 : Nat))), none⟩] false)
  (.seq (.reg 2 [⟨some 13, (.move (.tmp (4 : Nat))), none⟩,
    ⟨some 14, (.move (.tmp (13 : Nat))), none⟩,
    ⟨some 15, (.fieldAddr 80 (.tmp (1 : Nat)) 0), some (14, true)⟩,
    ⟨some 16, (.load 3 (.tmp (15 : Nat))), some (14, true)⟩,
    ⟨some 17, (.fieldAddr 80 (.tmp (1 : Nat)) 1), some (14, true)⟩,
    ⟨some 18, (.load 9 (.tmp (17 : Nat))), some (14, true)⟩,
    ⟨some 19, (.call { callee := (.value (.func (140 : Nat))), args := #[(.tmp (16 : Nat)), (.tmp (18 : Nat))], argTypes := #[3, 9] }), some (14, true)⟩,
    ⟨some 20, (.pick (.tmp (14 : Nat)) (.tmp (19 : Nat)) (.const (.bool false))), none⟩,
    ⟨some 21, (.move (.tmp (20 : Nat))), none⟩,
    ⟨some 22, (.load 169 (.tmp (3 : Nat))), some (21, true)⟩,
    ⟨some 23, (.fieldAddr 80 (.tmp (1 : Nat)) 3), some (21, true)⟩,
    ⟨some 24, (.load 9 (.tmp (23 : Nat))), some (21, true)⟩,
    ⟨some 25, (.call { callee := (.value (.func (141 : Nat))), args := #[(.tmp (22 : Nat)), (.tmp (24 : Nat))], argTypes := #[169, 9] }), some (21, true)⟩,
    ⟨some 26, (.pick (.tmp (21 : Nat)) (.tmp (25 : Nat)) (.const (.bool false))), none⟩,
    ⟨some 2, (.assign (.tmp (26 : Nat))), none⟩] false)
  .ret)))
theorem cfRight1.of : Tryz.f112.body.bind IC.of = some cfRight1.c := by kernel_rfl
theorem cfRight1.ok : Tryz.f112.body.map (okCode Tryz.prog Tryz.f112.ntmps (fun _ _ => false)) = some true := by kernel_rfl
def cfRight.L0 : IC :=
  (.seq (.reg 2 [⟨some 8, (.binOp .lss 3 (.tmp (7 : Nat)) (.tmp (6 : Nat)) 3), none⟩] false)
  (.seq (.cond (.tmp (8 : Nat)) .skip (.exit 0))
  (.seq (.block 1 (.seq (.reg 3 [⟨some 9, (.move (.tmp (7 : Nat))), none⟩,
    ⟨some 10, (.indexAddr 29 (.tmp (5 : Nat)) (.tmp (7 : Nat))), none⟩,
    ⟨some 11, (.load 80 (.tmp (10 : Nat))), none⟩,
    ⟨some 4, (.alloc 80), none⟩,
    ⟨some 3, (.assign (.tmp (9 : Nat))), none⟩,
    ⟨none, (.store 80 (.tmp (4 : Nat)) (.tmp (11 : Nat))), none⟩] false)
  (.seq (.reg 4 [⟨some 12, (.load 80 (.tmp (4 : Nat))), none⟩,
    ⟨some 13, (.call { callee := (.value (.func (112 : Nat))), args := #[(.tmp (12 : Nat))], argTypes := #[80] }), none⟩,
    ⟨some 14, (.unOp .not 4 (.tmp (13 : Nat))), none⟩,
    ⟨some 15, (.move (.tmp (14 : Nat))), none⟩,
    ⟨some 16, (.move (.tmp (3 : Nat))), some (15, false)⟩,
    ⟨some 17, (.binOp .gtr 3 (.tmp (16 : Nat)) (.const (.int .i64 0)) 3), some (15, false)⟩,
    ⟨some 18, (.move (.tmp (17 : Nat))), some (15, false)⟩,
    ⟨some 19, (.move (.tmp (0 : Nat))), some (18, true)⟩,
    ⟨some 20, (.move (.tmp (3 : Nat))), some (18, true)⟩,
    ⟨some 21, (.binOp .sub 3 (.tmp (20 : Nat)) (.const (.int .i64 1)) 3), some (18, true)⟩,
    ⟨some 22, (.indexAddr 29 (.tmp (19 : Nat)) (.tmp (21 : Nat))), some (18, true)⟩,
    ⟨some 23, (.load 80 (.tmp (22 : Nat))), some (18, true)⟩,
    ⟨some 24, (.load 80 (.tmp (4 : Nat))), some (18, true)⟩,
    ⟨some 25, (.call { callee := (.value (.func (70 : Nat))), args := #[(.tmp (23 : Nat)), (.tmp (24 : Nat))], argTypes := #[80, 80] }), some (18, true)⟩,
    ⟨some 26, (.unOp .not 4 (.tmp (25 : Nat))), some (18, true)⟩,
    ⟨some 27, (.pick (.tmp (18 : Nat)) (.tmp (26 : Nat)) (.const (.bool false))), some (15, false)⟩,
    ⟨some 28, (.pick (.tmp (15 : Nat)) (.const (.bool true)) (.tmp (27 : Nat))), none⟩] true)
  (.cond (.tmp (28 : Nat)) (.seq (.reg 5 [⟨some 2, (.assign (.const (.bool false))), none⟩] false)
  .ret) .skip))))
  (.reg 6 [⟨some 29, (.binOp .add 3 (.tmp (7 : Nat)) (.const (.int .i64 1)) 3), none⟩,
    ⟨some 7, (.move (.tmp (29 : Nat))), none⟩] false))))
def cfRight.R0 : IC :=
  (.seq (.reg 7 [⟨some 30, (.move (.tmp (0 : Nat))), none⟩,
    ⟨some 31, (.call { callee := (.builtin .len), args := #[(.tmp (30 : Nat))], argTypes := #[29] }), none⟩,
    ⟨some 32, (.binOp .leq 3 (.tmp (31 : Nat)) (.const (.int .i64 64)) 3), none⟩,
    ⟨some 2, (.assign (.tmp (32 : Nat))), none⟩] false)
  .ret)
def cfRight.c : IC :=
  (.seq (.reg 0 [⟨some 2, (.assign (.const (.bool false))), none⟩] false)
  (.seq (.seq (.reg 1 [⟨some 5, (.move (.tmp (0 : Nat))), none⟩,
    ⟨some 6, (.call { callee := (.builtin .len), args := #[(.tmp (5 : Nat))], argTypes := #[29] }), none⟩,
    ⟨some 7, (.move (.const (.int .i64 0))), none⟩] false)
  (.block 0 (.loop cfRight.L0)))
  (cutIC cfRight.R0)))
theorem cfRight.of : Tryz.f69.body.bind IC.of = some cfRight.c := by kernel_rfl
theorem cfRight.ok : Tryz.f69.body.map (okCode Tryz.prog Tryz.f69.ntmps (fun _ _ => false)) = some true := by kernel_rfl
variable {W0 : World}
def sNaN : Sem1 := fun args _ => match args with
  | [.val (.int .i64 _)] => some (.val (.bool false))
  | _ => none
@[go_sem] theorem sNaN_eq (a : Int) (H : Heap) : sNaN [.val (.int .i64 a)] H = some (.val (.bool false)) := rfl
theorem w_cmpNaN : PureF Tryz.prog W0 103 sNaN := by
  refine PureF.of (rs := [(.tmp 2)]) (fun _ _ => false) (Φ := []) trivial T.mixed Tryz.func103 cmpNaN.of rfl cmpNaN.ok rfl ?_
  intro args H v hs
  unfold sNaN at hs
  split at hs <;> cases hs
  refine ⟨by simp [Tryz.f103], ?_⟩
  unfold cmpNaN.c
  simp (implicitDefEqProofs := false) (contextual := true) only [go_sem, reduceIte, Nat.reduceEqDiff, Nat.reduceAdd, Nat.reduceSub, Nat.reduceMul, Nat.reduceLeDiff, Int.reduceLT, Int.reduceLE, Int.reduceEq, Int.reduceAdd, Int.reduceSub, Int.reduceMul, Int.reduceNeg, Int.reduceToNat, reduceCtorEq, Nat.reduceBEq, Nat.reduceLT]
theorem w_cmpInt (h1 : PureF Tryz.prog W0 103 sNaN) : PureF Tryz.prog W0 55 sCmpInt := by
  refine PureF.of (rs := [(.tmp 4)]) (fun _ _ => false) (Φ := [(103, sNaN)]) ⟨h1, trivial⟩ T.mixed Tryz.func55 cmpInt.of rfl cmpInt.ok rfl ?_
  intro args H v hs
  unfold sCmpInt at hs
  split at hs <;> cases hs
  rename_i a b
  refine ⟨by simp [Tryz.f55], ?_⟩
  unfold cmpInt.c
  by_cases q1 : a < b
  · simp (implicitDefEqProofs := false) (contextual := true) only [go_sem, reduceIte, Nat.reduceEqDiff, Nat.reduceAdd, Nat.reduceSub, Nat.reduceMul, Nat.reduceLeDiff, Int.reduceLT, Int.reduceLE, Int.reduceEq, Int.reduceAdd, Int.reduceSub, Int.reduceMul, Int.reduceNeg, Int.reduceToNat, reduceCtorEq, Nat.reduceBEq, Nat.reduceLT, q1, cmp3]
  · by_cases q2 : b < a
    · have q3 : ¬ a = b := by omega
      simp (implicitDefEqProofs := false) (contextual := true) only [go_sem, reduceIte, Nat.reduceEqDiff, Nat.reduceAdd, Nat.reduceSub, Nat.reduceMul, Nat.reduceLeDiff, Int.reduceLT, Int.reduceLE, Int.reduceEq, Int.reduceAdd, Int.reduceSub, Int.reduceMul, Int.reduceNeg, Int.reduceToNat, reduceCtorEq, Nat.reduceBEq, Nat.reduceLT, q1, q2, q3, cmp3]
    · have q3 : a = b := by omega
      subst q3
      simp (implicitDefEqProofs := false) (contextual := true) only [go_sem, reduceIte, Nat.reduceEqDiff, Nat.reduceAdd, Nat.reduceSub, Nat.reduceMul, Nat.reduceLeDiff, Int.reduceLT, Int.reduceLE, Int.reduceEq, Int.reduceAdd, Int.reduceSub, Int.reduceMul, Int.reduceNeg, Int.reduceToNat, reduceCtorEq, Nat.reduceBEq, Nat.reduceLT, q1, q2, cmp3]
theorem orL_cons (a : Int) (l : List Int) : orL (a :: l) = if a = 0 then orL l else a := rfl
theorem orL_drop : ∀ (l : List Int) (i : Nat), (∀ j n, j < i → l[j]? = some n → n = 0) → orL l = orL (l.drop i)
  | l, 0, _ => by simp
  | [], i + 1, _ => by simp
  | a :: l, i + 1, h => by
    have h0 := h 0 a (by omega) rfl
    subst h0
    rw [orL_cons, if_pos rfl, List.drop_succ_cons]
    exact orL_drop l i fun j n hj hn => h (j + 1) n (by omega) (by simpa using hn)
theorem w_cmpOr : PureF Tryz.prog W0 53 sOr := by
  refine PureF.of (rs := [(.tmp 2)]) (fun _ _ => false) (Φ := []) trivial T.mixed Tryz.func53 cmpOr.of rfl cmpOr.ok rfl ?_
  intro args H v hs
  unfold sOr at hs
  split at hs
  · rename_i id n
    simp only [Option.map_eq_some_iff] at hs
    obtain ⟨l, hl, rfl⟩ := hs
    unfold ownInts at hl
    split at hl
    · rename_i xs hH
      split at hl
      · rename_i hn
        obtain ⟨hn, hb⟩ := hn
        have := intsOf_some hl
        subst this
        rw [List.length_map] at hn
        subst hn
        unfold big at hb
        refine ⟨by simp [Tryz.f53], ?_⟩
        unfold cmpOr.c
        simp (implicitDefEqProofs := false) (contextual := true) only [go_sem, reduceIte, Nat.reduceEqDiff, Nat.reduceAdd, Nat.reduceSub, Nat.reduceMul, Nat.reduceLeDiff, Int.reduceLT, Int.reduceLE, Int.reduceEq, Int.reduceAdd, Int.reduceSub, Int.reduceMul, Int.reduceNeg, Int.reduceToNat, reduceCtorEq, Nat.reduceBEq, Nat.reduceLT]
        refine wpO_up l.length (fun i fr H' => i ≤ l.length ∧ fr 3 = .val (.int .i64 0) ∧ fr 6 = .ar id 1 0 l.length ∧ fr 7 = .val (.int .i64 (l.length : Nat)) ∧ fr 8 = .val (.int .i64 i) ∧ (∀ j n, j < i → l[j]? = some n → n = 0) ∧ H' = H) 0 ?_ ?_
        · simp (implicitDefEqProofs := false) (contextual := true) only [go_sem, reduceIte, Nat.reduceEqDiff, Nat.reduceAdd, Nat.reduceSub, Nat.reduceMul, Nat.reduceLeDiff, Int.reduceLT, Int.reduceLE, Int.reduceEq, Int.reduceAdd, Int.reduceSub, Int.reduceMul, Int.reduceNeg, Int.reduceToNat, reduceCtorEq, Nat.reduceBEq, Nat.reduceLT]
          simp
        · rintro i fr H' ⟨hi, f3, f6, f7, f8, hz, rfl⟩
          unfold cmpOr.L0
          have hw : IntKind.i64.wrap ((i : Int) + 1) = ((i + 1 : Nat) : Int) := wrap64 (by omega)
          by_cases hlt : i < l.length
          · obtain ⟨a, ha⟩ : ∃ a, l[i]? = some a := ⟨_, List.getElem?_eq_getElem hlt⟩
            by_cases e : a = 0
            · simp (implicitDefEqProofs := false) only [go_sem, reduceIte, Nat.reduceEqDiff, Nat.reduceAdd, Nat.reduceSub, Nat.reduceMul, Nat.reduceLeDiff, Int.reduceLT, Int.reduceLE, Int.reduceEq, Int.reduceAdd, Int.reduceSub, Int.reduceMul, Int.reduceNeg, Int.reduceToNat, reduceCtorEq, Nat.reduceBEq, Nat.reduceLT, f3, f6, f7, f8, hlt, hH, ha, e, hw]
              and_intros
              all_goals first | omega | skip
              intro j n hj hn
              by_cases ej : j = i
              · subst ej; rw [ha] at hn; cases hn; exact e
              · exact hz j n (by omega) hn
            · have ho : orL l = a := by
                rw [orL_drop l i hz, List.drop_eq_getElem_cons hlt, orL_cons]
                rw [List.getElem?_eq_getElem hlt] at ha
                cases ha
                rw [if_neg e]
              simp (implicitDefEqProofs := false) only [go_sem, reduceIte, Nat.reduceEqDiff, Nat.reduceAdd, Nat.reduceSub, Nat.reduceMul, Nat.reduceLeDiff, Int.reduceLT, Int.reduceLE, Int.reduceEq, Int.reduceAdd, Int.reduceSub, Int.reduceMul, Int.reduceNeg, Int.reduceToNat, reduceCtorEq, Nat.reduceBEq, Nat.reduceLT, f3, f6, f7, f8, hlt, hH, ha, e, ho]
          · simp (implicitDefEqProofs := false) only [go_sem, reduceIte, Nat.reduceEqDiff, Nat.reduceAdd, Nat.reduceSub, Nat.reduceMul, Nat.reduceLeDiff, Int.reduceLT, Int.reduceLE, Int.reduceEq, Int.reduceAdd, Int.reduceSub, Int.reduceMul, Int.reduceNeg, Int.reduceToNat, reduceCtorEq, Nat.reduceBEq, Nat.reduceLT, f3, f6, f7, f8, hlt]
            rw [wpO_eq]
            unfold cmpOr.R0
            have ho : orL l = 0 := by rw [orL_drop l i hz, List.drop_of_length_le (by omega)]; rfl
            simp (implicitDefEqProofs := false) only [go_sem, reduceIte, Nat.reduceEqDiff, Nat.reduceAdd, Nat.reduceSub, Nat.reduceMul, Nat.reduceLeDiff, Int.reduceLT, Int.reduceLE, Int.reduceEq, Int.reduceAdd, Int.reduceSub, Int.reduceMul, Int.reduceNeg, Int.reduceToNat, reduceCtorEq, Nat.reduceBEq, Nat.reduceLT, f3, ho]
      · cases hl
    · cases hl
  · cases hs
theorem w_cfOrder (h1 : PureF Tryz.prog W0 55 sCmpInt) (h2 : PureF Tryz.prog W0 80 sCmpStr) (h3 : PureF Tryz.prog W0 53 sOr) : PureF Tryz.prog W0 109 sOrder := by
  refine PureF.of (rs := [(.tmp 4)]) (fun _ _ => false) (Φ := [(55, sCmpInt), (80, sCmpStr), (53, sOr)]) ⟨h1, h2, h3, trivial⟩ T.mixed Tryz.func109 cfOrder.of rfl cfOrder.ok rfl ?_
  intro args H v hs
  unfold sOrder at hs
  split at hs <;> cases hs
  rename_i h n f v h' n' f' v'
  refine ⟨by simp [Tryz.f109], ?_⟩
  unfold cfOrder.c
  simp (implicitDefEqProofs := false) (contextual := true) only [go_sem, reduceIte, Nat.reduceEqDiff, Nat.reduceAdd, Nat.reduceSub, Nat.reduceMul, Nat.reduceLeDiff, Int.reduceLT, Int.reduceLE, Int.reduceEq, Int.reduceAdd, Int.reduceSub, Int.reduceMul, Int.reduceNeg, Int.reduceToNat, reduceCtorEq, Nat.reduceBEq, Nat.reduceLT, orderB, big]
theorem bytesLess_irrefl : ∀ a : Text, Op.bytesLess a a = false
  | [] => rfl
  | x :: a => by
    have := bytesLess_irrefl a
    simp [Op.bytesLess, this]
theorem order_less (a b : Line) : decide (orderB a b < 0) = lessB a b := by
  unfold orderB lessB
  by_cases e1 : a.head = b.head
  · by_cases e2 : a.name = b.name
    · simp only [e1, e2, bytesLess_irrefl, orL, cmp3, Int.lt_irrefl, decide_true, decide_false]
      cases h : Op.bytesLess a.leaf b.leaf <;> by_cases e3 : a.leaf = b.leaf <;> simp [e3]
    · simp only [e1, e2, orL, cmp3, Int.lt_irrefl, decide_true, decide_false]
      cases h : Op.bytesLess a.name b.name <;> simp [e2]
  · by_cases h : a.head < b.head <;> simp [e1, orL, cmp3, h]
theorem w_cfLess (h1 : PureF Tryz.prog W0 109 sOrder) : PureF Tryz.prog W0 70 sLess := by
  refine PureF.of (rs := [(.tmp 4)]) (fun _ _ => false) (Φ := [(109, sOrder)]) ⟨h1, trivial⟩ T.mixed Tryz.func70 cfLess.of rfl cfLess.ok rfl ?_
  intro args H v hs
  unfold sLess at hs
  split at hs <;> cases hs
  rename_i h n f v h' n' f' v'
  refine ⟨by simp [Tryz.f70], ?_⟩
  have := order_less ⟨h, n, f, v⟩ ⟨h', n', f', v'⟩
  unfold cfLess.c
  simp (implicitDefEqProofs := false) (contextual := true) only [go_sem, reduceIte, Nat.reduceEqDiff, Nat.reduceAdd, Nat.reduceSub, Nat.reduceMul, Nat.reduceLeDiff, Int.reduceLT, Int.reduceLE, Int.reduceEq, Int.reduceAdd, Int.reduceSub, Int.reduceMul, Int.reduceNeg, Int.reduceToNat, reduceCtorEq, Nat.reduceBEq, Nat.reduceLT, this]
theorem w_cfRight1 (h1 : PureF Tryz.prog W0 76 sFind) (h2 : PureF Tryz.prog W0 140 sNamed) (h3 : PureF Tryz.prog W0 141 sRight) : PureF Tryz.prog W0 112 sLineOk := by
  refine PureF.of (rs := [(.tmp 2)]) (fun _ _ => false) (Φ := [(76, sFind), (140, sNamed), (141, sRight)]) ⟨h1, h2, h3, trivial⟩ T.mixed Tryz.func112 cfRight1.of rfl cfRight1.ok rfl ?_
  intro args H v hs
  unfold sLineOk at hs
  split at hs
  · rename_i h n f v
    split at hs <;> cases hs
    rename_i hf
    obtain ⟨f1, f2, f3⟩ := hf
    simp only at f1 f2 f3
    refine ⟨by simp [Tryz.f112], ?_⟩
    unfold cfRight1.c
    cases hr : findRow h f with
    | none => simp (implicitDefEqProofs := false) (contextual := true) only [go_sem, reduceIte, Nat.reduceEqDiff, Nat.reduceAdd, Nat.reduceSub, Nat.reduceMul, Nat.reduceLeDiff, Int.reduceLT, Int.reduceLE, Int.reduceEq, Int.reduceAdd, Int.reduceSub, Int.reduceMul, Int.reduceNeg, Int.reduceToNat, reduceCtorEq, Nat.reduceBEq, Nat.reduceLT, hr, lineOkB, row0, rowV, Option.isSome_none]
    | some r =>
      have hc : r.choices.length ≤ big := by
        have := List.mem_of_find?_eq_some hr
        simp only [table, List.mem_cons, List.not_mem_nil, or_false] at this
        rcases this with h | h | h | h | h | h | h | h | h | h | h | h <;> subst h <;> decide
      cases hn : namedB h n with
      | false => simp (implicitDefEqProofs := false) (contextual := true) only [go_sem, reduceIte, Nat.reduceEqDiff, Nat.reduceAdd, Nat.reduceSub, Nat.reduceMul, Nat.reduceLeDiff, Int.reduceLT, Int.reduceLE, Int.reduceEq, Int.reduceAdd, Int.reduceSub, Int.reduceMul, Int.reduceNeg, Int.reduceToNat, reduceCtorEq, Nat.reduceBEq, Nat.reduceLT, hr, lineOkB, rowV, Option.isSome_some, hn, f1, f2, f3]
      | true => simp (implicitDefEqProofs := false) (contextual := true) only [go_sem, reduceIte, Nat.reduceEqDiff, Nat.reduceAdd, Nat.reduceSub, Nat.reduceMul, Nat.reduceLeDiff, Int.reduceLT, Int.reduceLE, Int.reduceEq, Int.reduceAdd, Int.reduceSub, Int.reduceMul, Int.reduceNeg, Int.reduceToNat, reduceCtorEq, Nat.reduceBEq, Nat.reduceLT, hr, lineOkB, rowV, Option.isSome_some, hn, f1, f2, f3, hc, List.length_map]
  · cases hs
theorem w_cfRight (h1 : PureF Tryz.prog W0 112 sLineOk) (h2 : PureF Tryz.prog W0 70 sLess) : PureF Tryz.prog W0 69 sRights := by
  refine PureF.of (rs := [(.tmp 2)]) (fun _ _ => false) (Φ := [(112, sLineOk), (70, sLess)]) ⟨h1, h2, trivial⟩ T.mixed Tryz.func69 cfRight.of rfl cfRight.ok rfl ?_
  intro args H v hs
  unfold sRights at hs
  split at hs
  · rename_i x
    simp only [Option.bind_eq_some_iff] at hs
    obtain ⟨c, hc, hs⟩ := hs
    split at hs <;> cases hs
    rename_i hok
    obtain ⟨hl, hfit⟩ := hok
    unfold big at hl
    refine ⟨by simp [Tryz.f69], ?_⟩
    have hx : x = .nil ∧ c = [] ∨ x = .sl (c.map lineV) := by
      unfold confOf at hc
      split at hc
      · exact .inr (by rw [linesOf_some hc])
      · cases hc; exact .inl ⟨rfl, rfl⟩
      · cases hc
    unfold cfRight.c
    rcases hx with ⟨rfl, rfl⟩ | rfl
    · simp (implicitDefEqProofs := false) (contextual := true) only [go_sem, reduceIte, Nat.reduceEqDiff, Nat.reduceAdd, Nat.reduceSub, Nat.reduceMul, Nat.reduceLeDiff, Int.reduceLT, Int.reduceLE, Int.reduceEq, Int.reduceAdd, Int.reduceSub, Int.reduceMul, Int.reduceNeg, Int.reduceToNat, reduceCtorEq, Nat.reduceBEq, Nat.reduceLT]
      refine wpO_up 0 (fun i fr H' => fr 0 = .nil ∧ fr 6 = .val (.int .i64 0) ∧ fr 7 = .val (.int .i64 0) ∧ H' = H) 0 ?_ ?_
      · simp (implicitDefEqProofs := false) (contextual := true) only [go_sem, reduceIte, Nat.reduceEqDiff, Nat.reduceAdd, Nat.reduceSub, Nat.reduceMul, Nat.reduceLeDiff, Int.reduceLT, Int.reduceLE, Int.reduceEq, Int.reduceAdd, Int.reduceSub, Int.reduceMul, Int.reduceNeg, Int.reduceToNat, reduceCtorEq, Nat.reduceBEq, Nat.reduceLT]
      · rintro i fr H' ⟨f0, f6, f7, rfl⟩
        unfold cfRight.L0
        simp (implicitDefEqProofs := false) only [go_sem, reduceIte, Nat.reduceEqDiff, Nat.reduceAdd, Nat.reduceSub, Nat.reduceMul, Nat.reduceLeDiff, Int.reduceLT, Int.reduceLE, Int.reduceEq, Int.reduceAdd, Int.reduceSub, Int.reduceMul, Int.reduceNeg, Int.reduceToNat, reduceCtorEq, Nat.reduceBEq, Nat.reduceLT, f0, f6, f7]
        rw [wpO_eq]
        unfold cfRight.R0
        simp (implicitDefEqProofs := false) only [go_sem, reduceIte, Nat.reduceEqDiff, Nat.reduceAdd, Nat.reduceSub, Nat.reduceMul, Nat.reduceLeDiff, Int.reduceLT, Int.reduceLE, Int.reduceEq, Int.reduceAdd, Int.reduceSub, Int.reduceMul, Int.reduceNeg, Int.reduceToNat, reduceCtorEq, Nat.reduceBEq, Nat.reduceLT, f0]
        rfl
    · simp (implicitDefEqProofs := false) (contextual := true) only [go_sem, reduceIte, Nat.reduceEqDiff, Nat.reduceAdd, Nat.reduceSub, Nat.reduceMul, Nat.reduceLeDiff, Int.reduceLT, Int.reduceLE, Int.reduceEq, Int.reduceAdd, Int.reduceSub, Int.reduceMul, Int.reduceNeg, Int.reduceToNat, reduceCtorEq, Nat.reduceBEq, Nat.reduceLT]
      refine wpO_up c.length (fun i fr H' => i ≤ c.length ∧ fr 0 = .sl (c.map lineV) ∧ fr 5 = .sl (c.map lineV) ∧ fr 6 = .val (.int .i64 (c.length : Nat)) ∧ fr 7 = .val (.int .i64 i) ∧ (c.take i).all lineOkB = true ∧ sortedB (c.take i) = true ∧ Keeps H H') 0 ?_ ?_
      · simp (implicitDefEqProofs := false) (contextual := true) only [go_sem, reduceIte, Nat.reduceEqDiff, Nat.reduceAdd, Nat.reduceSub, Nat.reduceMul, Nat.reduceLeDiff, Int.reduceLT, Int.reduceLE, Int.reduceEq, Int.reduceAdd, Int.reduceSub, Int.reduceMul, Int.reduceNeg, Int.reduceToNat, reduceCtorEq, Nat.reduceBEq, Nat.reduceLT]
        simp [sortedB]
      · rintro i fr H' ⟨hi, f0, f5, f6, f7, ha, hso, hk⟩
        unfold cfRight.L0
        have hw : IntKind.i64.wrap ((i : Int) + 1) = ((i + 1 : Nat) : Int) := wrap64 (by omega)
        by_cases hlt : i < c.length
        · obtain ⟨l, hli⟩ : ∃ l, c[i]? = some l := ⟨_, List.getElem?_eq_getElem hlt⟩
          have hlf : l.fits := hfit l (List.mem_of_getElem? hli)
          have htk : c.take (i + 1) = c.take i ++ [l] := by rw [List.take_add_one, hli]; rfl
          cases hg : lineOkB l with
          | false =>
            have hr : rightsB c = false := by
              unfold rightsB
              have : c.all lineOkB = false := by
                rw [← Bool.not_eq_true, List.all_eq_true]
                intro h
                rw [h l (List.mem_of_getElem? hli)] at hg; cases hg
              simp [this]
            simp (implicitDefEqProofs := false) only [go_sem, reduceIte, Nat.reduceEqDiff, Nat.reduceAdd, Nat.reduceSub, Nat.reduceMul, Nat.reduceLeDiff, Int.reduceLT, Int.reduceLE, Int.reduceEq, Int.reduceAdd, Int.reduceSub, Int.reduceMul, Int.reduceNeg, Int.reduceToNat, reduceCtorEq, Nat.reduceBEq, Nat.reduceLT, f0, f5, f6, f7, hlt, hli, lineV, hlf, hg, hr]
            intro id hid
            exact hk.set (hk.dead hid)
          | true =>
            match i, hi, hlt, hli, htk, ha, hso, hw, f7 with
            | 0, hi, hlt, hli, htk, ha, hso, hw, f7 =>
              have hpos : (0 : Int) < (c.length : Int) := by omega
              simp (implicitDefEqProofs := false) only [go_sem, reduceIte, Nat.reduceEqDiff, Nat.reduceAdd, Nat.reduceSub, Nat.reduceMul, Nat.reduceLeDiff, Int.reduceLT, Int.reduceLE, Int.reduceEq, Int.reduceAdd, Int.reduceSub, Int.reduceMul, Int.reduceNeg, Int.reduceToNat, reduceCtorEq, Nat.reduceBEq, Nat.reduceLT, f0, f5, f6, f7, hlt, hli, lineV, hlf, hg, hpos]
              intro id hid
              and_intros
              all_goals first | omega | (simpa using hw) | (rw [htk]; simp [hg]; done) | (rw [htk]; rfl) | exact hk.set (hk.dead hid)
            | k + 1, hi, hlt, hli, htk, ha, hso, hw, f7 =>
              obtain ⟨p, hpi⟩ : ∃ p, c[k]? = some p := ⟨_, List.getElem?_eq_getElem (by omega)⟩
              have hw2 : IntKind.i64.wrap (((k + 1 : Nat) : Int) - 1) = (k : Int) := by rw [wrap64 (by omega)]; omega
              have h0 : (0 : Int) < ((k + 1 : Nat) : Int) := by omega
              have hlast : (c.take (k + 1)).getLast? = some p := by rw [List.take_add_one, hpi]; simp
              have hs1 := sorted_snoc (c.take (k + 1)) l
              rw [hlast, ← htk] at hs1
              simp only at hs1
              cases hq : lessB p l with
              | false =>
                have hr : rightsB c = false := by
                  have hns : sortedB c = false := by
                    rw [← Bool.not_eq_true]
                    intro h
                    have := sorted_take c (k + 1 + 1) h
                    rw [hs1, hq] at this; simp at this
                  unfold rightsB; simp [hns]
                simp (implicitDefEqProofs := false) only [go_sem, reduceIte, Nat.reduceEqDiff, Nat.reduceAdd, Nat.reduceSub, Nat.reduceMul, Nat.reduceLeDiff, Int.reduceLT, Int.reduceLE, Int.reduceEq, Int.reduceAdd, Int.reduceSub, Int.reduceMul, Int.reduceNeg, Int.reduceToNat, reduceCtorEq, Nat.reduceBEq, Nat.reduceLT, f0, f5, f6, f7, hlt, hli, hpi, lineV, hlf, hg, hr, hw2, h0, hq]
                intro id hid
                exact hk.set (hk.dead hid)
              | true =>
                simp (implicitDefEqProofs := false) only [go_sem, reduceIte, Nat.reduceEqDiff, Nat.reduceAdd, Nat.reduceSub, Nat.reduceMul, Nat.reduceLeDiff, Int.reduceLT, Int.reduceLE, Int.reduceEq, Int.reduceAdd, Int.reduceSub, Int.reduceMul, Int.reduceNeg, Int.reduceToNat, reduceCtorEq, Nat.reduceBEq, Nat.reduceLT, f0, f5, f6, f7, hlt, hli, hpi, lineV, hlf, hg, hw2, h0, hq]
                intro id hid
                and_intros
                all_goals first | omega | (rw [hw]; done) | (rw [htk]; simp [hg, ha]; done) | (rw [hs1, hso, hq]; rfl) | exact hk.set (hk.dead hid)
        · simp (implicitDefEqProofs := false) only [go_sem, reduceIte, Nat.reduceEqDiff, Nat.reduceAdd, Nat.reduceSub, Nat.reduceMul, Nat.reduceLeDiff, Int.reduceLT, Int.reduceLE, Int.reduceEq, Int.reduceAdd, Int.reduceSub, Int.reduceMul, Int.reduceNeg, Int.reduceToNat, reduceCtorEq, Nat.reduceBEq, Nat.reduceLT, f0, f5, f6, f7, hlt]
          rw [wpO_eq]
          unfold cfRight.R0
          have hic : i = c.length := by omega
          subst hic
          rw [List.take_length] at ha hso
          simp (implicitDefEqProofs := false) only [go_sem, reduceIte, Nat.reduceEqDiff, Nat.reduceAdd, Nat.reduceSub, Nat.reduceMul, Nat.reduceLeDiff, Int.reduceLT, Int.reduceLE, Int.reduceEq, Int.reduceAdd, Int.reduceSub, Int.reduceMul, Int.reduceNeg, Int.reduceToNat, reduceCtorEq, Nat.reduceBEq, Nat.reduceLT, f0]
          refine ⟨?_, hk⟩
          simp only [rightsB, ha, hso, Bool.true_and]
          congr 3
          simp
          omega
  · cases hs

end Go.Proofs.W
