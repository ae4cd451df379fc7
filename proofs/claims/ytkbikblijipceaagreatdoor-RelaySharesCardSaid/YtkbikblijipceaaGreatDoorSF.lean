/- Facts about the program's types: made by wip/ot/facts.py. -/
import Derived.Test.YtkbikblijipceaaGreatDoorProg
import Derived.Test.YtkbikblijipceaaGreatDoorOtD
set_option linter.unusedVariables false
namespace Go.Proofs.Tryz.F
open Go Go.Proofs Go.Ot
@[push_cast] theorem c3 : prog.cellsOf 3 = 1 := by kernel_rfl
@[push_cast] theorem g3 : isAggB prog 3 = false := by kernel_rfl
@[push_cast] theorem s3 : (prog.underlying 3).isSome = true := by kernel_rfl
@[push_cast] theorem i3 : (prog.info? 3).isSome = true := by kernel_rfl
@[push_cast] theorem m3 : concreteB prog 3 = true := by kernel_rfl
@[push_cast] theorem a3 : elemOk prog 3 = true := by kernel_rfl
@[push_cast] theorem b3 : bytesOf prog 3 = 8 := by kernel_rfl
@[push_cast] theorem z3 : zeroD prog 3 = some ([.t (.v (.int .i64 0))]) := by kernel_rfl
@[push_cast] theorem u3 : prog.underlying 3 = some (.int .i64) := by kernel_rfl
@[push_cast] theorem c4 : prog.cellsOf 4 = 1 := by kernel_rfl
@[push_cast] theorem g4 : isAggB prog 4 = false := by kernel_rfl
@[push_cast] theorem s4 : (prog.underlying 4).isSome = true := by kernel_rfl
@[push_cast] theorem i4 : (prog.info? 4).isSome = true := by kernel_rfl
@[push_cast] theorem m4 : concreteB prog 4 = true := by kernel_rfl
@[push_cast] theorem a4 : elemOk prog 4 = true := by kernel_rfl
@[push_cast] theorem b4 : bytesOf prog 4 = 1 := by kernel_rfl
@[push_cast] theorem z4 : zeroD prog 4 = some ([.t (.v (.bool false))]) := by kernel_rfl
@[push_cast] theorem u4 : prog.underlying 4 = some .bool := by kernel_rfl
@[push_cast] theorem c5 : prog.cellsOf 5 = 1 := by kernel_rfl
@[push_cast] theorem g5 : isAggB prog 5 = false := by kernel_rfl
@[push_cast] theorem s5 : (prog.underlying 5).isSome = true := by kernel_rfl
@[push_cast] theorem i5 : (prog.info? 5).isSome = true := by kernel_rfl
@[push_cast] theorem m5 : concreteB prog 5 = true := by kernel_rfl
@[push_cast] theorem a5 : elemOk prog 5 = true := by kernel_rfl
@[push_cast] theorem b5 : bytesOf prog 5 = 1 := by kernel_rfl
@[push_cast] theorem z5 : zeroD prog 5 = some ([.t (.v (.int .u8 0))]) := by kernel_rfl
@[push_cast] theorem u5 : prog.underlying 5 = some (.int .u8) := by kernel_rfl
@[push_cast] theorem c9 : prog.cellsOf 9 = 1 := by kernel_rfl
@[push_cast] theorem g9 : isAggB prog 9 = false := by kernel_rfl
@[push_cast] theorem s9 : (prog.underlying 9).isSome = true := by kernel_rfl
@[push_cast] theorem i9 : (prog.info? 9).isSome = true := by kernel_rfl
@[push_cast] theorem m9 : concreteB prog 9 = true := by kernel_rfl
@[push_cast] theorem a9 : elemOk prog 9 = true := by kernel_rfl
@[push_cast] theorem b9 : bytesOf prog 9 = 16 := by kernel_rfl
@[push_cast] theorem z9 : zeroD prog 9 = some ([.t (.v (.string ⟨#[]⟩))]) := by kernel_rfl
@[push_cast] theorem u9 : prog.underlying 9 = some .string := by kernel_rfl
@[push_cast] theorem c17 : prog.cellsOf 17 = 1 := by kernel_rfl
@[push_cast] theorem g17 : isAggB prog 17 = false := by kernel_rfl
@[push_cast] theorem s17 : (prog.underlying 17).isSome = true := by kernel_rfl
@[push_cast] theorem i17 : (prog.info? 17).isSome = true := by kernel_rfl
@[push_cast] theorem m17 : concreteB prog 17 = true := by kernel_rfl
@[push_cast] theorem a17 : elemOk prog 17 = true := by kernel_rfl
@[push_cast] theorem b17 : bytesOf prog 17 = 8 := by kernel_rfl
@[push_cast] theorem z17 : zeroD prog 17 = some ([.t (.v (.pointer none))]) := by kernel_rfl
@[push_cast] theorem c20 : prog.cellsOf 20 = 1 := by kernel_rfl
@[push_cast] theorem g20 : isAggB prog 20 = false := by kernel_rfl
@[push_cast] theorem s20 : (prog.underlying 20).isSome = true := by kernel_rfl
@[push_cast] theorem i20 : (prog.info? 20).isSome = true := by kernel_rfl
@[push_cast] theorem a20 : elemOk prog 20 = true := by kernel_rfl
@[push_cast] theorem b20 : bytesOf prog 20 = 16 := by kernel_rfl
@[push_cast] theorem z20 : zeroD prog 20 = some ([.t (.v .nilIface)]) := by kernel_rfl
@[push_cast] theorem u20 : prog.underlying 20 = some (.interface (prog.methodsAt 20)) := by kernel_rfl
@[push_cast] theorem c22 : prog.cellsOf 22 = 1 := by kernel_rfl
@[push_cast] theorem g22 : isAggB prog 22 = false := by kernel_rfl
@[push_cast] theorem s22 : (prog.underlying 22).isSome = true := by kernel_rfl
@[push_cast] theorem i22 : (prog.info? 22).isSome = true := by kernel_rfl
@[push_cast] theorem m22 : concreteB prog 22 = true := by kernel_rfl
@[push_cast] theorem a22 : elemOk prog 22 = true := by kernel_rfl
@[push_cast] theorem b22 : bytesOf prog 22 = 24 := by kernel_rfl
@[push_cast] theorem z22 : zeroD prog 22 = some ([.t (.v (.slice none 0 0))]) := by kernel_rfl
@[push_cast] theorem u22 : prog.underlying 22 = some (.slice 5) := by kernel_rfl
@[push_cast] theorem e22 : prog.elem 22 = 5 := by kernel_rfl
@[push_cast] theorem c27 : prog.cellsOf 27 = 1 := by kernel_rfl
@[push_cast] theorem g27 : isAggB prog 27 = false := by kernel_rfl
@[push_cast] theorem s27 : (prog.underlying 27).isSome = true := by kernel_rfl
@[push_cast] theorem i27 : (prog.info? 27).isSome = true := by kernel_rfl
@[push_cast] theorem m27 : concreteB prog 27 = true := by kernel_rfl
@[push_cast] theorem a27 : elemOk prog 27 = true := by kernel_rfl
@[push_cast] theorem b27 : bytesOf prog 27 = 24 := by kernel_rfl
@[push_cast] theorem z27 : zeroD prog 27 = some ([.t (.v (.slice none 0 0))]) := by kernel_rfl
@[push_cast] theorem u27 : prog.underlying 27 = some (.slice 76) := by kernel_rfl
@[push_cast] theorem e27 : prog.elem 27 = 76 := by kernel_rfl
@[push_cast] theorem c28 : prog.cellsOf 28 = 1 := by kernel_rfl
@[push_cast] theorem g28 : isAggB prog 28 = false := by kernel_rfl
@[push_cast] theorem s28 : (prog.underlying 28).isSome = true := by kernel_rfl
@[push_cast] theorem i28 : (prog.info? 28).isSome = true := by kernel_rfl
@[push_cast] theorem m28 : concreteB prog 28 = true := by kernel_rfl
@[push_cast] theorem a28 : elemOk prog 28 = true := by kernel_rfl
@[push_cast] theorem b28 : bytesOf prog 28 = 24 := by kernel_rfl
@[push_cast] theorem z28 : zeroD prog 28 = some ([.t (.v (.slice none 0 0))]) := by kernel_rfl
@[push_cast] theorem u28 : prog.underlying 28 = some (.slice 9) := by kernel_rfl
@[push_cast] theorem e28 : prog.elem 28 = 9 := by kernel_rfl
@[push_cast] theorem c29 : prog.cellsOf 29 = 1 := by kernel_rfl
@[push_cast] theorem g29 : isAggB prog 29 = false := by kernel_rfl
@[push_cast] theorem s29 : (prog.underlying 29).isSome = true := by kernel_rfl
@[push_cast] theorem i29 : (prog.info? 29).isSome = true := by kernel_rfl
@[push_cast] theorem m29 : concreteB prog 29 = true := by kernel_rfl
@[push_cast] theorem a29 : elemOk prog 29 = true := by kernel_rfl
@[push_cast] theorem b29 : bytesOf prog 29 = 24 := by kernel_rfl
@[push_cast] theorem z29 : zeroD prog 29 = some ([.t (.v (.slice none 0 0))]) := by kernel_rfl
@[push_cast] theorem u29 : prog.underlying 29 = some (.slice 3) := by kernel_rfl
@[push_cast] theorem e29 : prog.elem 29 = 3 := by kernel_rfl
@[push_cast] theorem c31 : prog.cellsOf 31 = 5 := by kernel_rfl
@[push_cast] theorem g31 : isAggB prog 31 = true := by kernel_rfl
@[push_cast] theorem s31 : (prog.underlying 31).isSome = true := by kernel_rfl
@[push_cast] theorem i31 : (prog.info? 31).isSome = true := by kernel_rfl
@[push_cast] theorem m31 : concreteB prog 31 = true := by kernel_rfl
@[push_cast] theorem a31 : elemOk prog 31 = true := by kernel_rfl
@[push_cast] theorem b31 : bytesOf prog 31 = 96 := by kernel_rfl
@[push_cast] theorem z31 : zeroD prog 31 = some ([.t (.v (.slice none 0 0)), .t (.v (.slice none 0 0)), .t (.v (.string ⟨#[]⟩)), .t (.v (.int .i64 0)), .t (.v (.slice none 0 0))]) := by kernel_rfl
@[push_cast] theorem f31_0 : fieldOf prog 31 0 = some (0, 1, 27) := by kernel_rfl
@[push_cast] theorem q31_0 : placeOf prog 31 0 = some (0, 1) := by kernel_rfl
@[push_cast] theorem f31_1 : fieldOf prog 31 1 = some (1, 1, 28) := by kernel_rfl
@[push_cast] theorem q31_1 : placeOf prog 31 1 = some (1, 1) := by kernel_rfl
@[push_cast] theorem f31_2 : fieldOf prog 31 2 = some (2, 1, 9) := by kernel_rfl
@[push_cast] theorem q31_2 : placeOf prog 31 2 = some (2, 1) := by kernel_rfl
@[push_cast] theorem f31_3 : fieldOf prog 31 3 = some (3, 1, 3) := by kernel_rfl
@[push_cast] theorem q31_3 : placeOf prog 31 3 = some (3, 1) := by kernel_rfl
@[push_cast] theorem f31_4 : fieldOf prog 31 4 = some (4, 1, 29) := by kernel_rfl
@[push_cast] theorem q31_4 : placeOf prog 31 4 = some (4, 1) := by kernel_rfl
@[push_cast] theorem p31 : placesOk prog 31 = true := by kernel_rfl
@[push_cast] theorem c41 : prog.cellsOf 41 = 4 := by kernel_rfl
@[push_cast] theorem g41 : isAggB prog 41 = true := by kernel_rfl
@[push_cast] theorem s41 : (prog.underlying 41).isSome = true := by kernel_rfl
@[push_cast] theorem i41 : (prog.info? 41).isSome = true := by kernel_rfl
@[push_cast] theorem m41 : concreteB prog 41 = true := by kernel_rfl
@[push_cast] theorem a41 : elemOk prog 41 = true := by kernel_rfl
@[push_cast] theorem b41 : bytesOf prog 41 = 40 := by kernel_rfl
@[push_cast] theorem z41 : zeroD prog 41 = some ([.t (.v (.int .i64 0)), .t (.v (.int .i64 0)), .t (.v (.int .i64 0)), .t (.v (.string ⟨#[]⟩))]) := by kernel_rfl
@[push_cast] theorem f41_0 : fieldOf prog 41 0 = some (0, 1, 3) := by kernel_rfl
@[push_cast] theorem q41_0 : placeOf prog 41 0 = some (0, 1) := by kernel_rfl
@[push_cast] theorem f41_1 : fieldOf prog 41 1 = some (1, 1, 3) := by kernel_rfl
@[push_cast] theorem q41_1 : placeOf prog 41 1 = some (1, 1) := by kernel_rfl
@[push_cast] theorem f41_2 : fieldOf prog 41 2 = some (2, 1, 3) := by kernel_rfl
@[push_cast] theorem q41_2 : placeOf prog 41 2 = some (2, 1) := by kernel_rfl
@[push_cast] theorem f41_3 : fieldOf prog 41 3 = some (3, 1, 9) := by kernel_rfl
@[push_cast] theorem q41_3 : placeOf prog 41 3 = some (3, 1) := by kernel_rfl
@[push_cast] theorem p41 : placesOk prog 41 = true := by kernel_rfl
@[push_cast] theorem c42 : prog.cellsOf 42 = 1 := by kernel_rfl
@[push_cast] theorem g42 : isAggB prog 42 = false := by kernel_rfl
@[push_cast] theorem s42 : (prog.underlying 42).isSome = true := by kernel_rfl
@[push_cast] theorem i42 : (prog.info? 42).isSome = true := by kernel_rfl
@[push_cast] theorem m42 : concreteB prog 42 = true := by kernel_rfl
@[push_cast] theorem a42 : elemOk prog 42 = true := by kernel_rfl
@[push_cast] theorem b42 : bytesOf prog 42 = 8 := by kernel_rfl
@[push_cast] theorem z42 : zeroD prog 42 = some ([.t (.v (.int .i64 0))]) := by kernel_rfl
@[push_cast] theorem u42 : prog.underlying 42 = some (.int .i64) := by kernel_rfl
@[push_cast] theorem c44 : prog.cellsOf 44 = 4 := by kernel_rfl
@[push_cast] theorem g44 : isAggB prog 44 = true := by kernel_rfl
@[push_cast] theorem s44 : (prog.underlying 44).isSome = true := by kernel_rfl
@[push_cast] theorem i44 : (prog.info? 44).isSome = true := by kernel_rfl
@[push_cast] theorem m44 : concreteB prog 44 = true := by kernel_rfl
@[push_cast] theorem a44 : elemOk prog 44 = true := by kernel_rfl
@[push_cast] theorem b44 : bytesOf prog 44 = 48 := by kernel_rfl
@[push_cast] theorem z44 : zeroD prog 44 = some ([.t (.v (.int .i64 0)), .t (.v (.int .i64 0)), .t (.v (.int .i64 0)), .t (.v (.slice none 0 0))]) := by kernel_rfl
@[push_cast] theorem f44_0 : fieldOf prog 44 0 = some (0, 1, 3) := by kernel_rfl
@[push_cast] theorem q44_0 : placeOf prog 44 0 = some (0, 1) := by kernel_rfl
@[push_cast] theorem f44_1 : fieldOf prog 44 1 = some (1, 1, 42) := by kernel_rfl
@[push_cast] theorem q44_1 : placeOf prog 44 1 = some (1, 1) := by kernel_rfl
@[push_cast] theorem f44_2 : fieldOf prog 44 2 = some (2, 1, 3) := by kernel_rfl
@[push_cast] theorem q44_2 : placeOf prog 44 2 = some (2, 1) := by kernel_rfl
@[push_cast] theorem f44_3 : fieldOf prog 44 3 = some (3, 1, 28) := by kernel_rfl
@[push_cast] theorem q44_3 : placeOf prog 44 3 = some (3, 1) := by kernel_rfl
@[push_cast] theorem p44 : placesOk prog 44 = true := by kernel_rfl
@[push_cast] theorem c46 : prog.cellsOf 46 = 5 := by kernel_rfl
@[push_cast] theorem g46 : isAggB prog 46 = true := by kernel_rfl
@[push_cast] theorem s46 : (prog.underlying 46).isSome = true := by kernel_rfl
@[push_cast] theorem i46 : (prog.info? 46).isSome = true := by kernel_rfl
@[push_cast] theorem m46 : concreteB prog 46 = true := by kernel_rfl
@[push_cast] theorem a46 : elemOk prog 46 = true := by kernel_rfl
@[push_cast] theorem b46 : bytesOf prog 46 = 56 := by kernel_rfl
@[push_cast] theorem z46 : zeroD prog 46 = some ([.t (.v (.int .i64 0)), .t (.v (.int .i64 0)), .t (.v (.int .i64 0)), .t (.v (.slice none 0 0)), .t (.v (.bool false))]) := by kernel_rfl
@[push_cast] theorem f46_0 : fieldOf prog 46 0 = some (0, 4, 44) := by kernel_rfl
@[push_cast] theorem q46_0 : placeOf prog 46 0 = some (0, 4) := by kernel_rfl
@[push_cast] theorem f46_1 : fieldOf prog 46 1 = some (4, 1, 4) := by kernel_rfl
@[push_cast] theorem q46_1 : placeOf prog 46 1 = some (4, 1) := by kernel_rfl
@[push_cast] theorem p46 : placesOk prog 46 = true := by kernel_rfl
@[push_cast] theorem c76 : prog.cellsOf 76 = 2 := by kernel_rfl
@[push_cast] theorem g76 : isAggB prog 76 = true := by kernel_rfl
@[push_cast] theorem s76 : (prog.underlying 76).isSome = true := by kernel_rfl
@[push_cast] theorem i76 : (prog.info? 76).isSome = true := by kernel_rfl
@[push_cast] theorem m76 : concreteB prog 76 = true := by kernel_rfl
@[push_cast] theorem a76 : elemOk prog 76 = true := by kernel_rfl
@[push_cast] theorem b76 : bytesOf prog 76 = 32 := by kernel_rfl
@[push_cast] theorem z76 : zeroD prog 76 = some ([.t (.v (.int .i64 0)), .t (.v (.slice none 0 0))]) := by kernel_rfl
@[push_cast] theorem f76_0 : fieldOf prog 76 0 = some (0, 1, 3) := by kernel_rfl
@[push_cast] theorem q76_0 : placeOf prog 76 0 = some (0, 1) := by kernel_rfl
@[push_cast] theorem f76_1 : fieldOf prog 76 1 = some (1, 1, 28) := by kernel_rfl
@[push_cast] theorem q76_1 : placeOf prog 76 1 = some (1, 1) := by kernel_rfl
@[push_cast] theorem p76 : placesOk prog 76 = true := by kernel_rfl
@[push_cast] theorem c81 : prog.cellsOf 81 = 1 := by kernel_rfl
@[push_cast] theorem g81 : isAggB prog 81 = false := by kernel_rfl
@[push_cast] theorem s81 : (prog.underlying 81).isSome = true := by kernel_rfl
@[push_cast] theorem i81 : (prog.info? 81).isSome = true := by kernel_rfl
@[push_cast] theorem a81 : elemOk prog 81 = true := by kernel_rfl
@[push_cast] theorem b81 : bytesOf prog 81 = 16 := by kernel_rfl
@[push_cast] theorem z81 : zeroD prog 81 = some ([.t (.v .nilIface)]) := by kernel_rfl
@[push_cast] theorem u81 : prog.underlying 81 = some (.interface (prog.methodsAt 81)) := by kernel_rfl
@[push_cast] theorem c83 : prog.cellsOf 83 = 1 := by kernel_rfl
@[push_cast] theorem g83 : isAggB prog 83 = false := by kernel_rfl
@[push_cast] theorem s83 : (prog.underlying 83).isSome = true := by kernel_rfl
@[push_cast] theorem i83 : (prog.info? 83).isSome = true := by kernel_rfl
@[push_cast] theorem m83 : concreteB prog 83 = true := by kernel_rfl
@[push_cast] theorem a83 : elemOk prog 83 = true := by kernel_rfl
@[push_cast] theorem b83 : bytesOf prog 83 = 8 := by kernel_rfl
@[push_cast] theorem z83 : zeroD prog 83 = some ([.t (.v (.pointer none))]) := by kernel_rfl
@[push_cast] theorem c84 : prog.cellsOf 84 = 1 := by kernel_rfl
@[push_cast] theorem g84 : isAggB prog 84 = false := by kernel_rfl
@[push_cast] theorem s84 : (prog.underlying 84).isSome = true := by kernel_rfl
@[push_cast] theorem i84 : (prog.info? 84).isSome = true := by kernel_rfl
@[push_cast] theorem m84 : concreteB prog 84 = true := by kernel_rfl
@[push_cast] theorem a84 : elemOk prog 84 = true := by kernel_rfl
@[push_cast] theorem b84 : bytesOf prog 84 = 8 := by kernel_rfl
@[push_cast] theorem z84 : zeroD prog 84 = some ([.t (.v (.pointer none))]) := by kernel_rfl
@[push_cast] theorem c86 : prog.cellsOf 86 = 2 := by kernel_rfl
@[push_cast] theorem g86 : isAggB prog 86 = true := by kernel_rfl
@[push_cast] theorem s86 : (prog.underlying 86).isSome = true := by kernel_rfl
@[push_cast] theorem i86 : (prog.info? 86).isSome = true := by kernel_rfl
@[push_cast] theorem m86 : concreteB prog 86 = true := by kernel_rfl
@[push_cast] theorem a86 : elemOk prog 86 = true := by kernel_rfl
@[push_cast] theorem b86 : bytesOf prog 86 = 24 := by kernel_rfl
@[push_cast] theorem z86 : zeroD prog 86 = some ([.t (.v (.int .i64 0)), .t (.v .nilIface)]) := by kernel_rfl
@[push_cast] theorem f86_0 : fieldOf prog 86 0 = some (0, 1, 3) := by kernel_rfl
@[push_cast] theorem q86_0 : placeOf prog 86 0 = some (0, 1) := by kernel_rfl
@[push_cast] theorem f86_1 : fieldOf prog 86 1 = some (1, 1, 81) := by kernel_rfl
@[push_cast] theorem q86_1 : placeOf prog 86 1 = some (1, 1) := by kernel_rfl
@[push_cast] theorem p86 : placesOk prog 86 = true := by kernel_rfl
@[push_cast] theorem c88 : prog.cellsOf 88 = 1 := by kernel_rfl
@[push_cast] theorem g88 : isAggB prog 88 = true := by kernel_rfl
@[push_cast] theorem s88 : (prog.underlying 88).isSome = true := by kernel_rfl
@[push_cast] theorem i88 : (prog.info? 88).isSome = true := by kernel_rfl
@[push_cast] theorem m88 : concreteB prog 88 = true := by kernel_rfl
@[push_cast] theorem a88 : elemOk prog 88 = true := by kernel_rfl
@[push_cast] theorem b88 : bytesOf prog 88 = 8 := by kernel_rfl
@[push_cast] theorem z88 : zeroD prog 88 = some ([.t (.v (.int .i64 0))]) := by kernel_rfl
@[push_cast] theorem f88_0 : fieldOf prog 88 0 = some (0, 1, 42) := by kernel_rfl
@[push_cast] theorem q88_0 : placeOf prog 88 0 = some (0, 1) := by kernel_rfl
@[push_cast] theorem p88 : placesOk prog 88 = true := by kernel_rfl
@[push_cast] theorem c90 : prog.cellsOf 90 = 1 := by kernel_rfl
@[push_cast] theorem g90 : isAggB prog 90 = false := by kernel_rfl
@[push_cast] theorem s90 : (prog.underlying 90).isSome = true := by kernel_rfl
@[push_cast] theorem i90 : (prog.info? 90).isSome = true := by kernel_rfl
@[push_cast] theorem m90 : concreteB prog 90 = true := by kernel_rfl
@[push_cast] theorem a90 : elemOk prog 90 = true := by kernel_rfl
@[push_cast] theorem b90 : bytesOf prog 90 = 8 := by kernel_rfl
@[push_cast] theorem z90 : zeroD prog 90 = some ([.t (.v (.pointer none))]) := by kernel_rfl
@[push_cast] theorem c92 : prog.cellsOf 92 = 1 := by kernel_rfl
@[push_cast] theorem g92 : isAggB prog 92 = false := by kernel_rfl
@[push_cast] theorem s92 : (prog.underlying 92).isSome = true := by kernel_rfl
@[push_cast] theorem i92 : (prog.info? 92).isSome = true := by kernel_rfl
@[push_cast] theorem m92 : concreteB prog 92 = true := by kernel_rfl
@[push_cast] theorem a92 : elemOk prog 92 = true := by kernel_rfl
@[push_cast] theorem b92 : bytesOf prog 92 = 24 := by kernel_rfl
@[push_cast] theorem z92 : zeroD prog 92 = some ([.t (.v (.slice none 0 0))]) := by kernel_rfl
@[push_cast] theorem u92 : prog.underlying 92 = some (.slice 94) := by kernel_rfl
@[push_cast] theorem e92 : prog.elem 92 = 94 := by kernel_rfl
@[push_cast] theorem c94 : prog.cellsOf 94 = 4 := by kernel_rfl
@[push_cast] theorem g94 : isAggB prog 94 = true := by kernel_rfl
@[push_cast] theorem s94 : (prog.underlying 94).isSome = true := by kernel_rfl
@[push_cast] theorem i94 : (prog.info? 94).isSome = true := by kernel_rfl
@[push_cast] theorem m94 : concreteB prog 94 = true := by kernel_rfl
@[push_cast] theorem a94 : elemOk prog 94 = true := by kernel_rfl
@[push_cast] theorem b94 : bytesOf prog 94 = 56 := by kernel_rfl
@[push_cast] theorem z94 : zeroD prog 94 = some ([.t (.v (.int .i64 0)), .t (.v (.int .i64 0)), .t (.v (.string ⟨#[]⟩)), .t (.v (.slice none 0 0))]) := by kernel_rfl
@[push_cast] theorem f94_0 : fieldOf prog 94 0 = some (0, 1, 3) := by kernel_rfl
@[push_cast] theorem q94_0 : placeOf prog 94 0 = some (0, 1) := by kernel_rfl
@[push_cast] theorem f94_1 : fieldOf prog 94 1 = some (1, 1, 3) := by kernel_rfl
@[push_cast] theorem q94_1 : placeOf prog 94 1 = some (1, 1) := by kernel_rfl
@[push_cast] theorem f94_2 : fieldOf prog 94 2 = some (2, 1, 9) := by kernel_rfl
@[push_cast] theorem q94_2 : placeOf prog 94 2 = some (2, 1) := by kernel_rfl
@[push_cast] theorem f94_3 : fieldOf prog 94 3 = some (3, 1, 92) := by kernel_rfl
@[push_cast] theorem q94_3 : placeOf prog 94 3 = some (3, 1) := by kernel_rfl
@[push_cast] theorem p94 : placesOk prog 94 = true := by kernel_rfl
@[push_cast] theorem c102 : prog.cellsOf 102 = 5 := by kernel_rfl
@[push_cast] theorem g102 : isAggB prog 102 = true := by kernel_rfl
@[push_cast] theorem s102 : (prog.underlying 102).isSome = true := by kernel_rfl
@[push_cast] theorem i102 : (prog.info? 102).isSome = true := by kernel_rfl
@[push_cast] theorem m102 : concreteB prog 102 = true := by kernel_rfl
@[push_cast] theorem a102 : elemOk prog 102 = true := by kernel_rfl
@[push_cast] theorem b102 : bytesOf prog 102 = 64 := by kernel_rfl
@[push_cast] theorem z102 : zeroD prog 102 = some ([.t (.v (.int .i64 0)), .t (.v (.int .i64 0)), .t (.v (.string ⟨#[]⟩)), .t (.v (.slice none 0 0)), .t (.v (.bool false))]) := by kernel_rfl
@[push_cast] theorem f102_0 : fieldOf prog 102 0 = some (0, 4, 94) := by kernel_rfl
@[push_cast] theorem q102_0 : placeOf prog 102 0 = some (0, 4) := by kernel_rfl
@[push_cast] theorem f102_1 : fieldOf prog 102 1 = some (4, 1, 4) := by kernel_rfl
@[push_cast] theorem q102_1 : placeOf prog 102 1 = some (4, 1) := by kernel_rfl
@[push_cast] theorem p102 : placesOk prog 102 = true := by kernel_rfl
@[push_cast] theorem c106 : prog.cellsOf 106 = 1 := by kernel_rfl
@[push_cast] theorem g106 : isAggB prog 106 = false := by kernel_rfl
@[push_cast] theorem s106 : (prog.underlying 106).isSome = true := by kernel_rfl
@[push_cast] theorem i106 : (prog.info? 106).isSome = true := by kernel_rfl
@[push_cast] theorem m106 : concreteB prog 106 = true := by kernel_rfl
@[push_cast] theorem a106 : elemOk prog 106 = true := by kernel_rfl
@[push_cast] theorem b106 : bytesOf prog 106 = 8 := by kernel_rfl
@[push_cast] theorem z106 : zeroD prog 106 = some ([.t (.v (.int .u64 0))]) := by kernel_rfl
@[push_cast] theorem u106 : prog.underlying 106 = some (.int .u64) := by kernel_rfl
@[push_cast] theorem c111 : prog.cellsOf 111 = 5 := by kernel_rfl
@[push_cast] theorem g111 : isAggB prog 111 = true := by kernel_rfl
@[push_cast] theorem s111 : (prog.underlying 111).isSome = true := by kernel_rfl
@[push_cast] theorem i111 : (prog.info? 111).isSome = true := by kernel_rfl
@[push_cast] theorem m111 : concreteB prog 111 = true := by kernel_rfl
@[push_cast] theorem a111 : elemOk prog 111 = true := by kernel_rfl
@[push_cast] theorem b111 : bytesOf prog 111 = 48 := by kernel_rfl
@[push_cast] theorem z111 : zeroD prog 111 = some ([.t (.v (.int .i64 0)), .t (.v (.int .i64 0)), .t (.v (.int .i64 0)), .t (.v (.string ⟨#[]⟩)), .t (.v (.bool false))]) := by kernel_rfl
@[push_cast] theorem f111_0 : fieldOf prog 111 0 = some (0, 4, 41) := by kernel_rfl
@[push_cast] theorem q111_0 : placeOf prog 111 0 = some (0, 4) := by kernel_rfl
@[push_cast] theorem f111_1 : fieldOf prog 111 1 = some (4, 1, 4) := by kernel_rfl
@[push_cast] theorem q111_1 : placeOf prog 111 1 = some (4, 1) := by kernel_rfl
@[push_cast] theorem p111 : placesOk prog 111 = true := by kernel_rfl
@[push_cast] theorem c138 : prog.cellsOf 138 = 1 := by kernel_rfl
@[push_cast] theorem g138 : isAggB prog 138 = false := by kernel_rfl
@[push_cast] theorem s138 : (prog.underlying 138).isSome = true := by kernel_rfl
@[push_cast] theorem i138 : (prog.info? 138).isSome = true := by kernel_rfl
@[push_cast] theorem m138 : concreteB prog 138 = true := by kernel_rfl
@[push_cast] theorem a138 : elemOk prog 138 = true := by kernel_rfl
@[push_cast] theorem b138 : bytesOf prog 138 = 8 := by kernel_rfl
@[push_cast] theorem z138 : zeroD prog 138 = some ([.t (.v (.pointer none))]) := by kernel_rfl
@[push_cast] theorem c139 : prog.cellsOf 139 = 1 := by kernel_rfl
@[push_cast] theorem g139 : isAggB prog 139 = false := by kernel_rfl
@[push_cast] theorem s139 : (prog.underlying 139).isSome = true := by kernel_rfl
@[push_cast] theorem i139 : (prog.info? 139).isSome = true := by kernel_rfl
@[push_cast] theorem m139 : concreteB prog 139 = true := by kernel_rfl
@[push_cast] theorem a139 : elemOk prog 139 = true := by kernel_rfl
@[push_cast] theorem b139 : bytesOf prog 139 = 8 := by kernel_rfl
@[push_cast] theorem z139 : zeroD prog 139 = some ([.t (.v (.int .u64 0))]) := by kernel_rfl
@[push_cast] theorem u139 : prog.underlying 139 = some (.int .u64) := by kernel_rfl
@[push_cast] theorem c141 : prog.cellsOf 141 = 3 := by kernel_rfl
@[push_cast] theorem g141 : isAggB prog 141 = true := by kernel_rfl
@[push_cast] theorem s141 : (prog.underlying 141).isSome = true := by kernel_rfl
@[push_cast] theorem i141 : (prog.info? 141).isSome = true := by kernel_rfl
@[push_cast] theorem m141 : concreteB prog 141 = true := by kernel_rfl
@[push_cast] theorem a141 : elemOk prog 141 = true := by kernel_rfl
@[push_cast] theorem b141 : bytesOf prog 141 = 24 := by kernel_rfl
@[push_cast] theorem z141 : zeroD prog 141 = some ([.t (.v (.pointer none)), .t (.v (.pointer none)), .t (.v (.int .u64 0))]) := by kernel_rfl
@[push_cast] theorem f141_0 : fieldOf prog 141 0 = some (0, 1, 17) := by kernel_rfl
@[push_cast] theorem q141_0 : placeOf prog 141 0 = some (0, 1) := by kernel_rfl
@[push_cast] theorem f141_1 : fieldOf prog 141 1 = some (1, 1, 138) := by kernel_rfl
@[push_cast] theorem q141_1 : placeOf prog 141 1 = some (1, 1) := by kernel_rfl
@[push_cast] theorem f141_2 : fieldOf prog 141 2 = some (2, 1, 139) := by kernel_rfl
@[push_cast] theorem q141_2 : placeOf prog 141 2 = some (2, 1) := by kernel_rfl
@[push_cast] theorem p141 : placesOk prog 141 = true := by kernel_rfl
@[push_cast] theorem c144 : prog.cellsOf 144 = 1 := by kernel_rfl
@[push_cast] theorem g144 : isAggB prog 144 = false := by kernel_rfl
@[push_cast] theorem s144 : (prog.underlying 144).isSome = true := by kernel_rfl
@[push_cast] theorem i144 : (prog.info? 144).isSome = true := by kernel_rfl
@[push_cast] theorem a144 : elemOk prog 144 = true := by kernel_rfl
@[push_cast] theorem b144 : bytesOf prog 144 = 16 := by kernel_rfl
@[push_cast] theorem z144 : zeroD prog 144 = some ([.t (.v .nilIface)]) := by kernel_rfl
@[push_cast] theorem u144 : prog.underlying 144 = some (.interface (prog.methodsAt 144)) := by kernel_rfl
@[push_cast] theorem c146 : prog.cellsOf 146 = 1 := by kernel_rfl
@[push_cast] theorem g146 : isAggB prog 146 = false := by kernel_rfl
@[push_cast] theorem s146 : (prog.underlying 146).isSome = true := by kernel_rfl
@[push_cast] theorem i146 : (prog.info? 146).isSome = true := by kernel_rfl
@[push_cast] theorem m146 : concreteB prog 146 = true := by kernel_rfl
@[push_cast] theorem a146 : elemOk prog 146 = true := by kernel_rfl
@[push_cast] theorem b146 : bytesOf prog 146 = 1 := by kernel_rfl
@[push_cast] theorem z146 : zeroD prog 146 = some ([.t (.v (.int .u8 0))]) := by kernel_rfl
@[push_cast] theorem u146 : prog.underlying 146 = some (.int .u8) := by kernel_rfl
@[push_cast] theorem c150 : prog.cellsOf 150 = 1 := by kernel_rfl
@[push_cast] theorem g150 : isAggB prog 150 = false := by kernel_rfl
@[push_cast] theorem s150 : (prog.underlying 150).isSome = true := by kernel_rfl
@[push_cast] theorem i150 : (prog.info? 150).isSome = true := by kernel_rfl
@[push_cast] theorem m150 : concreteB prog 150 = true := by kernel_rfl
@[push_cast] theorem a150 : elemOk prog 150 = true := by kernel_rfl
@[push_cast] theorem b150 : bytesOf prog 150 = 8 := by kernel_rfl
@[push_cast] theorem z150 : zeroD prog 150 = some ([.t (.v .nilFunc)]) := by kernel_rfl
@[push_cast] theorem c153 : prog.cellsOf 153 = 5 := by kernel_rfl
@[push_cast] theorem g153 : isAggB prog 153 = true := by kernel_rfl
@[push_cast] theorem s153 : (prog.underlying 153).isSome = true := by kernel_rfl
@[push_cast] theorem i153 : (prog.info? 153).isSome = true := by kernel_rfl
@[push_cast] theorem m153 : concreteB prog 153 = true := by kernel_rfl
@[push_cast] theorem a153 : elemOk prog 153 = true := by kernel_rfl
@[push_cast] theorem b153 : bytesOf prog 153 = 64 := by kernel_rfl
@[push_cast] theorem z153 : zeroD prog 153 = some ([.t (.v (.int .i64 0)), .t (.v (.int .i64 0)), .t (.v (.string ⟨#[]⟩)), .t (.v (.slice none 0 0)), .t (.v (.int .i64 0))]) := by kernel_rfl
@[push_cast] theorem f153_0 : fieldOf prog 153 0 = some (0, 4, 94) := by kernel_rfl
@[push_cast] theorem q153_0 : placeOf prog 153 0 = some (0, 4) := by kernel_rfl
@[push_cast] theorem f153_1 : fieldOf prog 153 1 = some (4, 1, 3) := by kernel_rfl
@[push_cast] theorem q153_1 : placeOf prog 153 1 = some (4, 1) := by kernel_rfl
@[push_cast] theorem p153 : placesOk prog 153 = true := by kernel_rfl
@[push_cast] theorem c165 : prog.cellsOf 165 = 1 := by kernel_rfl
@[push_cast] theorem g165 : isAggB prog 165 = false := by kernel_rfl
@[push_cast] theorem s165 : (prog.underlying 165).isSome = true := by kernel_rfl
@[push_cast] theorem i165 : (prog.info? 165).isSome = true := by kernel_rfl
@[push_cast] theorem m165 : concreteB prog 165 = true := by kernel_rfl
@[push_cast] theorem a165 : elemOk prog 165 = true := by kernel_rfl
@[push_cast] theorem b165 : bytesOf prog 165 = 8 := by kernel_rfl
@[push_cast] theorem z165 : zeroD prog 165 = some ([.t (.v (.pointer none))]) := by kernel_rfl
@[push_cast] theorem c167 : prog.cellsOf 167 = 1 := by kernel_rfl
@[push_cast] theorem g167 : isAggB prog 167 = true := by kernel_rfl
@[push_cast] theorem s167 : (prog.underlying 167).isSome = true := by kernel_rfl
@[push_cast] theorem i167 : (prog.info? 167).isSome = true := by kernel_rfl
@[push_cast] theorem m167 : concreteB prog 167 = true := by kernel_rfl
@[push_cast] theorem a167 : elemOk prog 167 = true := by kernel_rfl
@[push_cast] theorem b167 : bytesOf prog 167 = 16 := by kernel_rfl
@[push_cast] theorem z167 : zeroD prog 167 = some ([.t (.v (.string ⟨#[]⟩))]) := by kernel_rfl
@[push_cast] theorem f167_0 : fieldOf prog 167 0 = some (0, 1, 9) := by kernel_rfl
@[push_cast] theorem q167_0 : placeOf prog 167 0 = some (0, 1) := by kernel_rfl
@[push_cast] theorem p167 : placesOk prog 167 = true := by kernel_rfl
@[push_cast] theorem c170 : prog.cellsOf 170 = 1 := by kernel_rfl
@[push_cast] theorem g170 : isAggB prog 170 = false := by kernel_rfl
@[push_cast] theorem s170 : (prog.underlying 170).isSome = true := by kernel_rfl
@[push_cast] theorem i170 : (prog.info? 170).isSome = true := by kernel_rfl
@[push_cast] theorem m170 : concreteB prog 170 = true := by kernel_rfl
@[push_cast] theorem a170 : elemOk prog 170 = true := by kernel_rfl
@[push_cast] theorem b170 : bytesOf prog 170 = 16 := by kernel_rfl
@[push_cast] theorem z170 : zeroD prog 170 = some ([.t (.v (.string ⟨#[]⟩))]) := by kernel_rfl
@[push_cast] theorem u170 : prog.underlying 170 = some .string := by kernel_rfl
@[push_cast] theorem c171 : prog.cellsOf 171 = 1 := by kernel_rfl
@[push_cast] theorem g171 : isAggB prog 171 = false := by kernel_rfl
@[push_cast] theorem s171 : (prog.underlying 171).isSome = true := by kernel_rfl
@[push_cast] theorem i171 : (prog.info? 171).isSome = true := by kernel_rfl
@[push_cast] theorem m171 : concreteB prog 171 = true := by kernel_rfl
@[push_cast] theorem a171 : elemOk prog 171 = true := by kernel_rfl
@[push_cast] theorem b171 : bytesOf prog 171 = 8 := by kernel_rfl
@[push_cast] theorem z171 : zeroD prog 171 = some ([.t (.v (.pointer none))]) := by kernel_rfl
@[push_cast] theorem c179 : prog.cellsOf 179 = 1 := by kernel_rfl
@[push_cast] theorem g179 : isAggB prog 179 = false := by kernel_rfl
@[push_cast] theorem s179 : (prog.underlying 179).isSome = true := by kernel_rfl
@[push_cast] theorem i179 : (prog.info? 179).isSome = true := by kernel_rfl
@[push_cast] theorem m179 : concreteB prog 179 = true := by kernel_rfl
@[push_cast] theorem a179 : elemOk prog 179 = true := by kernel_rfl
@[push_cast] theorem b179 : bytesOf prog 179 = 16 := by kernel_rfl
@[push_cast] theorem z179 : zeroD prog 179 = some ([.t (.v (.string ⟨#[]⟩))]) := by kernel_rfl
@[push_cast] theorem u179 : prog.underlying 179 = some .string := by kernel_rfl
@[push_cast] theorem c181 : prog.cellsOf 181 = 2 := by kernel_rfl
@[push_cast] theorem g181 : isAggB prog 181 = true := by kernel_rfl
@[push_cast] theorem s181 : (prog.underlying 181).isSome = true := by kernel_rfl
@[push_cast] theorem i181 : (prog.info? 181).isSome = true := by kernel_rfl
@[push_cast] theorem m181 : concreteB prog 181 = true := by kernel_rfl
@[push_cast] theorem a181 : elemOk prog 181 = true := by kernel_rfl
@[push_cast] theorem b181 : bytesOf prog 181 = 32 := by kernel_rfl
@[push_cast] theorem z181 : zeroD prog 181 = some ([.t (.v (.string ⟨#[]⟩)), .t (.v .nilIface)]) := by kernel_rfl
@[push_cast] theorem f181_0 : fieldOf prog 181 0 = some (0, 1, 9) := by kernel_rfl
@[push_cast] theorem q181_0 : placeOf prog 181 0 = some (0, 1) := by kernel_rfl
@[push_cast] theorem f181_1 : fieldOf prog 181 1 = some (1, 1, 81) := by kernel_rfl
@[push_cast] theorem q181_1 : placeOf prog 181 1 = some (1, 1) := by kernel_rfl
@[push_cast] theorem p181 : placesOk prog 181 = true := by kernel_rfl
@[push_cast] theorem c188 : prog.cellsOf 188 = 1 := by kernel_rfl
@[push_cast] theorem g188 : isAggB prog 188 = true := by kernel_rfl
@[push_cast] theorem s188 : (prog.underlying 188).isSome = true := by kernel_rfl
@[push_cast] theorem i188 : (prog.info? 188).isSome = true := by kernel_rfl
@[push_cast] theorem m188 : concreteB prog 188 = true := by kernel_rfl
@[push_cast] theorem a188 : elemOk prog 188 = true := by kernel_rfl
@[push_cast] theorem b188 : bytesOf prog 188 = 8 := by kernel_rfl
@[push_cast] theorem z188 : zeroD prog 188 = some ([.t (.v (.pointer none))]) := by kernel_rfl
@[push_cast] theorem f188_0 : fieldOf prog 188 0 = some (0, 1, 17) := by kernel_rfl
@[push_cast] theorem q188_0 : placeOf prog 188 0 = some (0, 1) := by kernel_rfl
@[push_cast] theorem p188 : placesOk prog 188 = true := by kernel_rfl
@[push_cast] theorem c193 : prog.cellsOf 193 = 1 := by kernel_rfl
@[push_cast] theorem g193 : isAggB prog 193 = false := by kernel_rfl
@[push_cast] theorem s193 : (prog.underlying 193).isSome = true := by kernel_rfl
@[push_cast] theorem i193 : (prog.info? 193).isSome = true := by kernel_rfl
@[push_cast] theorem a193 : elemOk prog 193 = true := by kernel_rfl
@[push_cast] theorem b193 : bytesOf prog 193 = 16 := by kernel_rfl
@[push_cast] theorem z193 : zeroD prog 193 = some ([.t (.v .nilIface)]) := by kernel_rfl
@[push_cast] theorem u193 : prog.underlying 193 = some (.interface (prog.methodsAt 193)) := by kernel_rfl
@[push_cast] theorem c196 : prog.cellsOf 196 = 1 := by kernel_rfl
@[push_cast] theorem g196 : isAggB prog 196 = false := by kernel_rfl
@[push_cast] theorem s196 : (prog.underlying 196).isSome = true := by kernel_rfl
@[push_cast] theorem i196 : (prog.info? 196).isSome = true := by kernel_rfl
@[push_cast] theorem a196 : elemOk prog 196 = true := by kernel_rfl
@[push_cast] theorem b196 : bytesOf prog 196 = 16 := by kernel_rfl
@[push_cast] theorem z196 : zeroD prog 196 = some ([.t (.v .nilIface)]) := by kernel_rfl
@[push_cast] theorem u196 : prog.underlying 196 = some (.interface (prog.methodsAt 196)) := by kernel_rfl
@[push_cast] theorem c198 : prog.cellsOf 198 = 1 := by kernel_rfl
@[push_cast] theorem g198 : isAggB prog 198 = false := by kernel_rfl
@[push_cast] theorem s198 : (prog.underlying 198).isSome = true := by kernel_rfl
@[push_cast] theorem i198 : (prog.info? 198).isSome = true := by kernel_rfl
@[push_cast] theorem a198 : elemOk prog 198 = true := by kernel_rfl
@[push_cast] theorem b198 : bytesOf prog 198 = 16 := by kernel_rfl
@[push_cast] theorem z198 : zeroD prog 198 = some ([.t (.v .nilIface)]) := by kernel_rfl
@[push_cast] theorem u198 : prog.underlying 198 = some (.interface (prog.methodsAt 198)) := by kernel_rfl
@[push_cast] theorem c199 : prog.cellsOf 199 = 1 := by kernel_rfl
@[push_cast] theorem g199 : isAggB prog 199 = false := by kernel_rfl
@[push_cast] theorem s199 : (prog.underlying 199).isSome = true := by kernel_rfl
@[push_cast] theorem i199 : (prog.info? 199).isSome = true := by kernel_rfl
@[push_cast] theorem m199 : concreteB prog 199 = true := by kernel_rfl
@[push_cast] theorem a199 : elemOk prog 199 = true := by kernel_rfl
@[push_cast] theorem b199 : bytesOf prog 199 = 24 := by kernel_rfl
@[push_cast] theorem z199 : zeroD prog 199 = some ([.t (.v (.slice none 0 0))]) := by kernel_rfl
@[push_cast] theorem u199 : prog.underlying 199 = some (.slice 81) := by kernel_rfl
@[push_cast] theorem e199 : prog.elem 199 = 81 := by kernel_rfl
@[push_cast] theorem c216 : prog.cellsOf 216 = 2 := by kernel_rfl
@[push_cast] theorem g216 : isAggB prog 216 = true := by kernel_rfl
@[push_cast] theorem s216 : (prog.underlying 216).isSome = true := by kernel_rfl
@[push_cast] theorem i216 : (prog.info? 216).isSome = true := by kernel_rfl
@[push_cast] theorem m216 : concreteB prog 216 = true := by kernel_rfl
@[push_cast] theorem a216 : elemOk prog 216 = true := by kernel_rfl
@[push_cast] theorem b216 : bytesOf prog 216 = 24 := by kernel_rfl
@[push_cast] theorem z216 : zeroD prog 216 = some ([.t (.v (.int .i64 0)), .t (.v .nilIface)]) := by kernel_rfl
@[push_cast] theorem f216_0 : fieldOf prog 216 0 = some (0, 1, 3) := by kernel_rfl
@[push_cast] theorem q216_0 : placeOf prog 216 0 = some (0, 1) := by kernel_rfl
@[push_cast] theorem f216_1 : fieldOf prog 216 1 = some (1, 1, 81) := by kernel_rfl
@[push_cast] theorem q216_1 : placeOf prog 216 1 = some (1, 1) := by kernel_rfl
@[push_cast] theorem p216 : placesOk prog 216 = true := by kernel_rfl
@[push_cast] theorem c222 : prog.cellsOf 222 = 1 := by kernel_rfl
@[push_cast] theorem g222 : isAggB prog 222 = false := by kernel_rfl
@[push_cast] theorem s222 : (prog.underlying 222).isSome = true := by kernel_rfl
@[push_cast] theorem i222 : (prog.info? 222).isSome = true := by kernel_rfl
@[push_cast] theorem m222 : concreteB prog 222 = true := by kernel_rfl
@[push_cast] theorem a222 : elemOk prog 222 = true := by kernel_rfl
@[push_cast] theorem b222 : bytesOf prog 222 = 8 := by kernel_rfl
@[push_cast] theorem z222 : zeroD prog 222 = some ([.t (.v (.int .u64 0))]) := by kernel_rfl
@[push_cast] theorem u222 : prog.underlying 222 = some (.int .u64) := by kernel_rfl
@[push_cast] theorem c237 : prog.cellsOf 237 = 1 := by kernel_rfl
@[push_cast] theorem g237 : isAggB prog 237 = false := by kernel_rfl
@[push_cast] theorem s237 : (prog.underlying 237).isSome = true := by kernel_rfl
@[push_cast] theorem i237 : (prog.info? 237).isSome = true := by kernel_rfl
@[push_cast] theorem a237 : elemOk prog 237 = true := by kernel_rfl
@[push_cast] theorem b237 : bytesOf prog 237 = 16 := by kernel_rfl
@[push_cast] theorem z237 : zeroD prog 237 = some ([.t (.v .nilIface)]) := by kernel_rfl
@[push_cast] theorem u237 : prog.underlying 237 = some (.interface (prog.methodsAt 237)) := by kernel_rfl
@[push_cast] theorem k2 : callOk prog 2 = true := by kernel_rfl
@[push_cast] theorem k3 : callOk prog 3 = true := by kernel_rfl
@[push_cast] theorem k4 : callOk prog 4 = true := by kernel_rfl
@[push_cast] theorem k5 : callOk prog 5 = true := by kernel_rfl
@[push_cast] theorem k6 : callOk prog 6 = true := by kernel_rfl
@[push_cast] theorem k7 : callOk prog 7 = true := by kernel_rfl
@[push_cast] theorem k8 : callOk prog 8 = true := by kernel_rfl
@[push_cast] theorem k9 : callOk prog 9 = true := by kernel_rfl
@[push_cast] theorem k10 : callOk prog 10 = true := by kernel_rfl
@[push_cast] theorem k11 : callOk prog 11 = true := by kernel_rfl
@[push_cast] theorem k12 : callOk prog 12 = true := by kernel_rfl
@[push_cast] theorem k13 : callOk prog 13 = true := by kernel_rfl
@[push_cast] theorem k14 : callOk prog 14 = true := by kernel_rfl
@[push_cast] theorem k15 : callOk prog 15 = true := by kernel_rfl
@[push_cast] theorem k16 : callOk prog 16 = true := by kernel_rfl
@[push_cast] theorem k17 : callOk prog 17 = true := by kernel_rfl
@[push_cast] theorem k18 : callOk prog 18 = true := by kernel_rfl
@[push_cast] theorem k19 : callOk prog 19 = true := by kernel_rfl
@[push_cast] theorem k20 : callOk prog 20 = true := by kernel_rfl
@[push_cast] theorem k21 : callOk prog 21 = true := by kernel_rfl
@[push_cast] theorem k22 : callOk prog 22 = true := by kernel_rfl
@[push_cast] theorem k23 : callOk prog 23 = true := by kernel_rfl
@[push_cast] theorem k24 : callOk prog 24 = true := by kernel_rfl
@[push_cast] theorem k25 : callOk prog 25 = true := by kernel_rfl
@[push_cast] theorem k26 : callOk prog 26 = true := by kernel_rfl
@[push_cast] theorem k27 : callOk prog 27 = true := by kernel_rfl
@[push_cast] theorem k28 : callOk prog 28 = true := by kernel_rfl
@[push_cast] theorem k29 : callOk prog 29 = true := by kernel_rfl
@[push_cast] theorem k30 : callOk prog 30 = true := by kernel_rfl
@[push_cast] theorem k31 : callOk prog 31 = true := by kernel_rfl
@[push_cast] theorem k32 : callOk prog 32 = true := by kernel_rfl
@[push_cast] theorem k33 : callOk prog 33 = true := by kernel_rfl
@[push_cast] theorem k34 : callOk prog 34 = true := by kernel_rfl
@[push_cast] theorem k35 : callOk prog 35 = true := by kernel_rfl
@[push_cast] theorem k36 : callOk prog 36 = true := by kernel_rfl
@[push_cast] theorem k37 : callOk prog 37 = true := by kernel_rfl
@[push_cast] theorem k38 : callOk prog 38 = true := by kernel_rfl
@[push_cast] theorem k39 : callOk prog 39 = true := by kernel_rfl
@[push_cast] theorem k40 : callOk prog 40 = true := by kernel_rfl
@[push_cast] theorem k41 : callOk prog 41 = true := by kernel_rfl
@[push_cast] theorem k42 : callOk prog 42 = true := by kernel_rfl
@[push_cast] theorem k43 : callOk prog 43 = true := by kernel_rfl
@[push_cast] theorem k44 : callOk prog 44 = true := by kernel_rfl
@[push_cast] theorem k45 : callOk prog 45 = true := by kernel_rfl
@[push_cast] theorem k46 : callOk prog 46 = true := by kernel_rfl
@[push_cast] theorem k47 : callOk prog 47 = true := by kernel_rfl
@[push_cast] theorem k48 : callOk prog 48 = true := by kernel_rfl
@[push_cast] theorem k49 : callOk prog 49 = true := by kernel_rfl
@[push_cast] theorem k50 : callOk prog 50 = true := by kernel_rfl
@[push_cast] theorem k51 : callOk prog 51 = true := by kernel_rfl
@[push_cast] theorem k52 : callOk prog 52 = true := by kernel_rfl
@[push_cast] theorem k53 : callOk prog 53 = true := by kernel_rfl
@[push_cast] theorem k54 : callOk prog 54 = true := by kernel_rfl
@[push_cast] theorem k55 : callOk prog 55 = true := by kernel_rfl
@[push_cast] theorem k56 : callOk prog 56 = true := by kernel_rfl
@[push_cast] theorem k57 : callOk prog 57 = true := by kernel_rfl
@[push_cast] theorem k58 : callOk prog 58 = true := by kernel_rfl
@[push_cast] theorem k59 : callOk prog 59 = true := by kernel_rfl
@[push_cast] theorem k60 : callOk prog 60 = true := by kernel_rfl
@[push_cast] theorem k61 : callOk prog 61 = true := by kernel_rfl
@[push_cast] theorem k62 : callOk prog 62 = true := by kernel_rfl
@[push_cast] theorem k63 : callOk prog 63 = true := by kernel_rfl
@[push_cast] theorem k64 : callOk prog 64 = true := by kernel_rfl
@[push_cast] theorem k65 : callOk prog 65 = true := by kernel_rfl
@[push_cast] theorem k66 : callOk prog 66 = true := by kernel_rfl
@[push_cast] theorem k67 : callOk prog 67 = true := by kernel_rfl
@[push_cast] theorem k68 : callOk prog 68 = true := by kernel_rfl
@[push_cast] theorem k69 : callOk prog 69 = true := by kernel_rfl
@[push_cast] theorem k70 : callOk prog 70 = true := by kernel_rfl
@[push_cast] theorem k71 : callOk prog 71 = true := by kernel_rfl
@[push_cast] theorem k72 : callOk prog 72 = true := by kernel_rfl
@[push_cast] theorem k73 : callOk prog 73 = true := by kernel_rfl
@[push_cast] theorem k74 : callOk prog 74 = true := by kernel_rfl
@[push_cast] theorem k75 : callOk prog 75 = true := by kernel_rfl
@[push_cast] theorem k76 : callOk prog 76 = true := by kernel_rfl
@[push_cast] theorem k77 : callOk prog 77 = true := by kernel_rfl
@[push_cast] theorem k78 : callOk prog 78 = true := by kernel_rfl
@[push_cast] theorem k79 : callOk prog 79 = true := by kernel_rfl
@[push_cast] theorem k80 : callOk prog 80 = true := by kernel_rfl
@[push_cast] theorem k81 : callOk prog 81 = true := by kernel_rfl
@[push_cast] theorem k82 : callOk prog 82 = true := by kernel_rfl
@[push_cast] theorem k83 : callOk prog 83 = true := by kernel_rfl
@[push_cast] theorem k84 : callOk prog 84 = true := by kernel_rfl
@[push_cast] theorem k85 : callOk prog 85 = true := by kernel_rfl
@[push_cast] theorem k86 : callOk prog 86 = true := by kernel_rfl
@[push_cast] theorem k87 : callOk prog 87 = true := by kernel_rfl
@[push_cast] theorem k88 : callOk prog 88 = true := by kernel_rfl
@[push_cast] theorem k89 : callOk prog 89 = true := by kernel_rfl
@[push_cast] theorem k90 : callOk prog 90 = true := by kernel_rfl
@[push_cast] theorem k91 : callOk prog 91 = true := by kernel_rfl
@[push_cast] theorem k92 : callOk prog 92 = true := by kernel_rfl
@[push_cast] theorem k93 : callOk prog 93 = true := by kernel_rfl
@[push_cast] theorem k94 : callOk prog 94 = true := by kernel_rfl
@[push_cast] theorem k95 : callOk prog 95 = true := by kernel_rfl
@[push_cast] theorem k99 : callOk prog 99 = true := by kernel_rfl
@[push_cast] theorem k100 : callOk prog 100 = true := by kernel_rfl
@[push_cast] theorem k101 : callOk prog 101 = true := by kernel_rfl
@[push_cast] theorem k102 : callOk prog 102 = true := by kernel_rfl
@[push_cast] theorem k103 : callOk prog 103 = true := by kernel_rfl
@[push_cast] theorem k104 : callOk prog 104 = true := by kernel_rfl
@[push_cast] theorem k105 : callOk prog 105 = true := by kernel_rfl
@[push_cast] theorem k106 : callOk prog 106 = true := by kernel_rfl
@[push_cast] theorem k107 : callOk prog 107 = true := by kernel_rfl
@[push_cast] theorem k108 : callOk prog 108 = true := by kernel_rfl
@[push_cast] theorem k109 : callOk prog 109 = true := by kernel_rfl
@[push_cast] theorem k110 : callOk prog 110 = true := by kernel_rfl
@[push_cast] theorem k111 : callOk prog 111 = true := by kernel_rfl
@[push_cast] theorem k112 : callOk prog 112 = true := by kernel_rfl
@[push_cast] theorem k113 : callOk prog 113 = true := by kernel_rfl
@[push_cast] theorem k114 : callOk prog 114 = true := by kernel_rfl
@[push_cast] theorem k115 : callOk prog 115 = true := by kernel_rfl
@[push_cast] theorem k116 : callOk prog 116 = true := by kernel_rfl
@[push_cast] theorem k117 : callOk prog 117 = true := by kernel_rfl
@[push_cast] theorem k118 : callOk prog 118 = true := by kernel_rfl
@[push_cast] theorem k119 : callOk prog 119 = true := by kernel_rfl
@[push_cast] theorem k120 : callOk prog 120 = true := by kernel_rfl
@[push_cast] theorem k121 : callOk prog 121 = true := by kernel_rfl
@[push_cast] theorem k122 : callOk prog 122 = true := by kernel_rfl
@[push_cast] theorem k123 : callOk prog 123 = true := by kernel_rfl
@[push_cast] theorem k124 : callOk prog 124 = true := by kernel_rfl
@[push_cast] theorem k125 : callOk prog 125 = true := by kernel_rfl
@[push_cast] theorem k126 : callOk prog 126 = true := by kernel_rfl
@[push_cast] theorem k127 : callOk prog 127 = true := by kernel_rfl
@[push_cast] theorem k128 : callOk prog 128 = true := by kernel_rfl
@[push_cast] theorem k129 : callOk prog 129 = true := by kernel_rfl
@[push_cast] theorem k130 : callOk prog 130 = true := by kernel_rfl
@[push_cast] theorem k134 : callOk prog 134 = true := by kernel_rfl
@[push_cast] theorem k135 : callOk prog 135 = true := by kernel_rfl
@[push_cast] theorem k136 : callOk prog 136 = true := by kernel_rfl
@[push_cast] theorem k137 : callOk prog 137 = true := by kernel_rfl
@[push_cast] theorem k138 : callOk prog 138 = true := by kernel_rfl
@[push_cast] theorem k139 : callOk prog 139 = true := by kernel_rfl
@[push_cast] theorem k140 : callOk prog 140 = true := by kernel_rfl
@[push_cast] theorem k141 : callOk prog 141 = true := by kernel_rfl
@[push_cast] theorem k142 : callOk prog 142 = true := by kernel_rfl
@[push_cast] theorem k143 : callOk prog 143 = true := by kernel_rfl
@[push_cast] theorem k144 : callOk prog 144 = true := by kernel_rfl
@[push_cast] theorem k145 : callOk prog 145 = true := by kernel_rfl
@[push_cast] theorem k146 : callOk prog 146 = true := by kernel_rfl
@[push_cast] theorem k147 : callOk prog 147 = true := by kernel_rfl
@[push_cast] theorem k148 : callOk prog 148 = true := by kernel_rfl
@[push_cast] theorem k149 : callOk prog 149 = true := by kernel_rfl
@[push_cast] theorem k150 : callOk prog 150 = true := by kernel_rfl
@[push_cast] theorem k151 : callOk prog 151 = true := by kernel_rfl
@[push_cast] theorem k152 : callOk prog 152 = true := by kernel_rfl
@[push_cast] theorem k153 : callOk prog 153 = true := by kernel_rfl
@[push_cast] theorem k154 : callOk prog 154 = true := by kernel_rfl
@[push_cast] theorem k155 : callOk prog 155 = true := by kernel_rfl
@[push_cast] theorem k156 : callOk prog 156 = true := by kernel_rfl
@[push_cast] theorem k157 : callOk prog 157 = true := by kernel_rfl
@[push_cast] theorem k158 : callOk prog 158 = true := by kernel_rfl
@[push_cast] theorem k159 : callOk prog 159 = true := by kernel_rfl
@[push_cast] theorem k160 : callOk prog 160 = true := by kernel_rfl
@[push_cast] theorem k161 : callOk prog 161 = true := by kernel_rfl
@[push_cast] theorem k162 : callOk prog 162 = true := by kernel_rfl
@[push_cast] theorem k163 : callOk prog 163 = true := by kernel_rfl
@[push_cast] theorem k164 : callOk prog 164 = true := by kernel_rfl
@[push_cast] theorem k165 : callOk prog 165 = true := by kernel_rfl
@[push_cast] theorem k166 : callOk prog 166 = true := by kernel_rfl
@[push_cast] theorem k167 : callOk prog 167 = true := by kernel_rfl
@[push_cast] theorem k168 : callOk prog 168 = true := by kernel_rfl
@[push_cast] theorem k169 : callOk prog 169 = true := by kernel_rfl
@[push_cast] theorem k170 : callOk prog 170 = true := by kernel_rfl
@[push_cast] theorem k171 : callOk prog 171 = true := by kernel_rfl
@[push_cast] theorem k172 : callOk prog 172 = true := by kernel_rfl
@[push_cast] theorem k173 : callOk prog 173 = true := by kernel_rfl
@[push_cast] theorem k174 : callOk prog 174 = true := by kernel_rfl
@[push_cast] theorem k175 : callOk prog 175 = true := by kernel_rfl
@[push_cast] theorem k176 : callOk prog 176 = true := by kernel_rfl
@[push_cast] theorem k177 : callOk prog 177 = true := by kernel_rfl
@[push_cast] theorem k178 : callOk prog 178 = true := by kernel_rfl
@[push_cast] theorem k179 : callOk prog 179 = true := by kernel_rfl
@[push_cast] theorem k180 : callOk prog 180 = true := by kernel_rfl
@[push_cast] theorem k181 : callOk prog 181 = true := by kernel_rfl
@[push_cast] theorem k182 : callOk prog 182 = true := by kernel_rfl
@[push_cast] theorem k183 : callOk prog 183 = true := by kernel_rfl
@[push_cast] theorem k184 : callOk prog 184 = true := by kernel_rfl
@[push_cast] theorem k185 : callOk prog 185 = true := by kernel_rfl
@[push_cast] theorem k186 : callOk prog 186 = true := by kernel_rfl
@[push_cast] theorem k187 : callOk prog 187 = true := by kernel_rfl
@[push_cast] theorem k188 : callOk prog 188 = true := by kernel_rfl
@[push_cast] theorem k189 : callOk prog 189 = true := by kernel_rfl
@[push_cast] theorem k190 : callOk prog 190 = true := by kernel_rfl
@[push_cast] theorem k211 : callOk prog 211 = true := by kernel_rfl
@[push_cast] theorem k219 : callOk prog 219 = true := by kernel_rfl
@[push_cast] theorem k233 : callOk prog 233 = true := by kernel_rfl
@[push_cast] theorem k235 : callOk prog 235 = true := by kernel_rfl
@[push_cast] theorem k241 : callOk prog 241 = true := by kernel_rfl
@[push_cast] theorem mix : prog.follows .mixedOrders = true := by kernel_rfl
end Go.Proofs.Tryz.F
