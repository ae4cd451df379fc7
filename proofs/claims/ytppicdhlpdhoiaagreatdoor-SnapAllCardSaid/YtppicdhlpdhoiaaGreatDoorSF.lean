/- Facts about the program's types: made by wip/ot/facts.py. -/
import Derived.Test.YtppicdhlpdhoiaaGreatDoorProg
import Derived.Test.YtppicdhlpdhoiaaGreatDoorOtD
set_option linter.unusedVariables false
namespace Go.Proofs.Tryz.F
open Go Go.Proofs Go.Ot
@[push_cast] theorem c3 : prog.cellsOf 3 = 1 := by kernel_rfl
@[push_cast] theorem g3 : isAggB prog 3 = false := by kernel_rfl
@[push_cast] theorem s3 : (prog.underlying 3).isSome = true := by kernel_rfl
@[push_cast] theorem i3 : (prog.info? 3).isSome = true := by kernel_rfl
@[push_cast] theorem m3 : concreteB prog 3 = true := by kernel_rfl
@[push_cast] theorem a3 : elemOk prog 3 = true := by kernel_rfl
@[push_cast] theorem b3 : bytesOf prog 3 = 8 := by kernel_rfl
@[push_cast] theorem z3 : zeroD prog 3 = some ([.t (.v (.int .i64 0))]) := by kernel_rfl
@[push_cast] theorem u3 : prog.underlying 3 = some (.int .i64) := by kernel_rfl
@[push_cast] theorem c4 : prog.cellsOf 4 = 1 := by kernel_rfl
@[push_cast] theorem g4 : isAggB prog 4 = false := by kernel_rfl
@[push_cast] theorem s4 : (prog.underlying 4).isSome = true := by kernel_rfl
@[push_cast] theorem i4 : (prog.info? 4).isSome = true := by kernel_rfl
@[push_cast] theorem m4 : concreteB prog 4 = true := by kernel_rfl
@[push_cast] theorem a4 : elemOk prog 4 = true := by kernel_rfl
@[push_cast] theorem b4 : bytesOf prog 4 = 1 := by kernel_rfl
@[push_cast] theorem z4 : zeroD prog 4 = some ([.t (.v (.bool false))]) := by kernel_rfl
@[push_cast] theorem u4 : prog.underlying 4 = some .bool := by kernel_rfl
@[push_cast] theorem c5 : prog.cellsOf 5 = 1 := by kernel_rfl
@[push_cast] theorem g5 : isAggB prog 5 = false := by kernel_rfl
@[push_cast] theorem s5 : (prog.underlying 5).isSome = true := by kernel_rfl
@[push_cast] theorem i5 : (prog.info? 5).isSome = true := by kernel_rfl
@[push_cast] theorem m5 : concreteB prog 5 = true := by kernel_rfl
@[push_cast] theorem a5 : elemOk prog 5 = true := by kernel_rfl
@[push_cast] theorem b5 : bytesOf prog 5 = 1 := by kernel_rfl
@[push_cast] theorem z5 : zeroD prog 5 = some ([.t (.v (.int .u8 0))]) := by kernel_rfl
@[push_cast] theorem u5 : prog.underlying 5 = some (.int .u8) := by kernel_rfl
@[push_cast] theorem c9 : prog.cellsOf 9 = 1 := by kernel_rfl
@[push_cast] theorem g9 : isAggB prog 9 = false := by kernel_rfl
@[push_cast] theorem s9 : (prog.underlying 9).isSome = true := by kernel_rfl
@[push_cast] theorem i9 : (prog.info? 9).isSome = true := by kernel_rfl
@[push_cast] theorem m9 : concreteB prog 9 = true := by kernel_rfl
@[push_cast] theorem a9 : elemOk prog 9 = true := by kernel_rfl
@[push_cast] theorem b9 : bytesOf prog 9 = 16 := by kernel_rfl
@[push_cast] theorem z9 : zeroD prog 9 = some ([.t (.v (.string ⟨#[]⟩))]) := by kernel_rfl
@[push_cast] theorem u9 : prog.underlying 9 = some .string := by kernel_rfl
@[push_cast] theorem c17 : prog.cellsOf 17 = 1 := by kernel_rfl
@[push_cast] theorem g17 : isAggB prog 17 = false := by kernel_rfl
@[push_cast] theorem s17 : (prog.underlying 17).isSome = true := by kernel_rfl
@[push_cast] theorem i17 : (prog.info? 17).isSome = true := by kernel_rfl
@[push_cast] theorem m17 : concreteB prog 17 = true := by kernel_rfl
@[push_cast] theorem a17 : elemOk prog 17 = true := by kernel_rfl
@[push_cast] theorem b17 : bytesOf prog 17 = 8 := by kernel_rfl
@[push_cast] theorem z17 : zeroD prog 17 = some ([.t (.v (.pointer none))]) := by kernel_rfl
@[push_cast] theorem c20 : prog.cellsOf 20 = 1 := by kernel_rfl
@[push_cast] theorem g20 : isAggB prog 20 = false := by kernel_rfl
@[push_cast] theorem s20 : (prog.underlying 20).isSome = true := by kernel_rfl
@[push_cast] theorem i20 : (prog.info? 20).isSome = true := by kernel_rfl
@[push_cast] theorem a20 : elemOk prog 20 = true := by kernel_rfl
@[push_cast] theorem b20 : bytesOf prog 20 = 16 := by kernel_rfl
@[push_cast] theorem z20 : zeroD prog 20 = some ([.t (.v .nilIface)]) := by kernel_rfl
@[push_cast] theorem u20 : prog.underlying 20 = some (.interface (prog.methodsAt 20)) := by kernel_rfl
@[push_cast] theorem c22 : prog.cellsOf 22 = 1 := by kernel_rfl
@[push_cast] theorem g22 : isAggB prog 22 = false := by kernel_rfl
@[push_cast] theorem s22 : (prog.underlying 22).isSome = true := by kernel_rfl
@[push_cast] theorem i22 : (prog.info? 22).isSome = true := by kernel_rfl
@[push_cast] theorem m22 : concreteB prog 22 = true := by kernel_rfl
@[push_cast] theorem a22 : elemOk prog 22 = true := by kernel_rfl
@[push_cast] theorem b22 : bytesOf prog 22 = 24 := by kernel_rfl
@[push_cast] theorem z22 : zeroD prog 22 = some ([.t (.v (.slice none 0 0))]) := by kernel_rfl
@[push_cast] theorem u22 : prog.underlying 22 = some (.slice 59) := by kernel_rfl
@[push_cast] theorem e22 : prog.elem 22 = 59 := by kernel_rfl
@[push_cast] theorem c23 : prog.cellsOf 23 = 1 := by kernel_rfl
@[push_cast] theorem g23 : isAggB prog 23 = false := by kernel_rfl
@[push_cast] theorem s23 : (prog.underlying 23).isSome = true := by kernel_rfl
@[push_cast] theorem i23 : (prog.info? 23).isSome = true := by kernel_rfl
@[push_cast] theorem m23 : concreteB prog 23 = true := by kernel_rfl
@[push_cast] theorem a23 : elemOk prog 23 = true := by kernel_rfl
@[push_cast] theorem b23 : bytesOf prog 23 = 24 := by kernel_rfl
@[push_cast] theorem z23 : zeroD prog 23 = some ([.t (.v (.slice none 0 0))]) := by kernel_rfl
@[push_cast] theorem u23 : prog.underlying 23 = some (.slice 39) := by kernel_rfl
@[push_cast] theorem e23 : prog.elem 23 = 39 := by kernel_rfl
@[push_cast] theorem c25 : prog.cellsOf 25 = 2 := by kernel_rfl
@[push_cast] theorem g25 : isAggB prog 25 = true := by kernel_rfl
@[push_cast] theorem s25 : (prog.underlying 25).isSome = true := by kernel_rfl
@[push_cast] theorem i25 : (prog.info? 25).isSome = true := by kernel_rfl
@[push_cast] theorem m25 : concreteB prog 25 = true := by kernel_rfl
@[push_cast] theorem a25 : elemOk prog 25 = true := by kernel_rfl
@[push_cast] theorem b25 : bytesOf prog 25 = 48 := by kernel_rfl
@[push_cast] theorem z25 : zeroD prog 25 = some ([.t (.v (.slice none 0 0)), .t (.v (.slice none 0 0))]) := by kernel_rfl
@[push_cast] theorem f25_0 : fieldOf prog 25 0 = some (0, 1, 22) := by kernel_rfl
@[push_cast] theorem q25_0 : placeOf prog 25 0 = some (0, 1) := by kernel_rfl
@[push_cast] theorem f25_1 : fieldOf prog 25 1 = some (1, 1, 23) := by kernel_rfl
@[push_cast] theorem q25_1 : placeOf prog 25 1 = some (1, 1) := by kernel_rfl
@[push_cast] theorem p25 : placesOk prog 25 = true := by kernel_rfl
@[push_cast] theorem c31 : prog.cellsOf 31 = 3 := by kernel_rfl
@[push_cast] theorem g31 : isAggB prog 31 = true := by kernel_rfl
@[push_cast] theorem s31 : (prog.underlying 31).isSome = true := by kernel_rfl
@[push_cast] theorem i31 : (prog.info? 31).isSome = true := by kernel_rfl
@[push_cast] theorem m31 : concreteB prog 31 = true := by kernel_rfl
@[push_cast] theorem a31 : elemOk prog 31 = true := by kernel_rfl
@[push_cast] theorem b31 : bytesOf prog 31 = 56 := by kernel_rfl
@[push_cast] theorem z31 : zeroD prog 31 = some ([.t (.v (.slice none 0 0)), .t (.v (.slice none 0 0)), .t (.v (.bool false))]) := by kernel_rfl
@[push_cast] theorem f31_0 : fieldOf prog 31 0 = some (0, 2, 25) := by kernel_rfl
@[push_cast] theorem q31_0 : placeOf prog 31 0 = some (0, 2) := by kernel_rfl
@[push_cast] theorem f31_1 : fieldOf prog 31 1 = some (2, 1, 4) := by kernel_rfl
@[push_cast] theorem q31_1 : placeOf prog 31 1 = some (2, 1) := by kernel_rfl
@[push_cast] theorem p31 : placesOk prog 31 = true := by kernel_rfl
@[push_cast] theorem c37 : prog.cellsOf 37 = 2 := by kernel_rfl
@[push_cast] theorem g37 : isAggB prog 37 = true := by kernel_rfl
@[push_cast] theorem s37 : (prog.underlying 37).isSome = true := by kernel_rfl
@[push_cast] theorem i37 : (prog.info? 37).isSome = true := by kernel_rfl
@[push_cast] theorem m37 : concreteB prog 37 = true := by kernel_rfl
@[push_cast] theorem a37 : elemOk prog 37 = true := by kernel_rfl
@[push_cast] theorem b37 : bytesOf prog 37 = 16 := by kernel_rfl
@[push_cast] theorem z37 : zeroD prog 37 = some ([.t (.v (.int .i64 0)), .t (.v (.int .i64 0))]) := by kernel_rfl
@[push_cast] theorem f37_0 : fieldOf prog 37 0 = some (0, 1, 3) := by kernel_rfl
@[push_cast] theorem q37_0 : placeOf prog 37 0 = some (0, 1) := by kernel_rfl
@[push_cast] theorem f37_1 : fieldOf prog 37 1 = some (1, 1, 3) := by kernel_rfl
@[push_cast] theorem q37_1 : placeOf prog 37 1 = some (1, 1) := by kernel_rfl
@[push_cast] theorem p37 : placesOk prog 37 = true := by kernel_rfl
@[push_cast] theorem c39 : prog.cellsOf 39 = 6 := by kernel_rfl
@[push_cast] theorem g39 : isAggB prog 39 = true := by kernel_rfl
@[push_cast] theorem s39 : (prog.underlying 39).isSome = true := by kernel_rfl
@[push_cast] theorem i39 : (prog.info? 39).isSome = true := by kernel_rfl
@[push_cast] theorem m39 : concreteB prog 39 = true := by kernel_rfl
@[push_cast] theorem a39 : elemOk prog 39 = true := by kernel_rfl
@[push_cast] theorem b39 : bytesOf prog 39 = 64 := by kernel_rfl
@[push_cast] theorem z39 : zeroD prog 39 = some ([.t (.v (.int .i64 0)), .t (.v (.int .i64 0)), .t (.v (.string ⟨#[]⟩)), .t (.v (.int .i64 0)), .t (.v (.string ⟨#[]⟩)), .t (.v (.int .i64 0))]) := by kernel_rfl
@[push_cast] theorem f39_0 : fieldOf prog 39 0 = some (0, 2, 37) := by kernel_rfl
@[push_cast] theorem q39_0 : placeOf prog 39 0 = some (0, 2) := by kernel_rfl
@[push_cast] theorem f39_1 : fieldOf prog 39 1 = some (2, 1, 9) := by kernel_rfl
@[push_cast] theorem q39_1 : placeOf prog 39 1 = some (2, 1) := by kernel_rfl
@[push_cast] theorem f39_2 : fieldOf prog 39 2 = some (3, 1, 3) := by kernel_rfl
@[push_cast] theorem q39_2 : placeOf prog 39 2 = some (3, 1) := by kernel_rfl
@[push_cast] theorem f39_3 : fieldOf prog 39 3 = some (4, 1, 9) := by kernel_rfl
@[push_cast] theorem q39_3 : placeOf prog 39 3 = some (4, 1) := by kernel_rfl
@[push_cast] theorem f39_4 : fieldOf prog 39 4 = some (5, 1, 3) := by kernel_rfl
@[push_cast] theorem q39_4 : placeOf prog 39 4 = some (5, 1) := by kernel_rfl
@[push_cast] theorem p39 : placesOk prog 39 = true := by kernel_rfl
@[push_cast] theorem c41 : prog.cellsOf 41 = 1 := by kernel_rfl
@[push_cast] theorem g41 : isAggB prog 41 = false := by kernel_rfl
@[push_cast] theorem s41 : (prog.underlying 41).isSome = true := by kernel_rfl
@[push_cast] theorem i41 : (prog.info? 41).isSome = true := by kernel_rfl
@[push_cast] theorem m41 : concreteB prog 41 = true := by kernel_rfl
@[push_cast] theorem a41 : elemOk prog 41 = true := by kernel_rfl
@[push_cast] theorem b41 : bytesOf prog 41 = 24 := by kernel_rfl
@[push_cast] theorem z41 : zeroD prog 41 = some ([.t (.v (.slice none 0 0))]) := by kernel_rfl
@[push_cast] theorem u41 : prog.underlying 41 = some (.slice 5) := by kernel_rfl
@[push_cast] theorem e41 : prog.elem 41 = 5 := by kernel_rfl
@[push_cast] theorem c42 : prog.cellsOf 42 = 1 := by kernel_rfl
@[push_cast] theorem g42 : isAggB prog 42 = false := by kernel_rfl
@[push_cast] theorem s42 : (prog.underlying 42).isSome = true := by kernel_rfl
@[push_cast] theorem i42 : (prog.info? 42).isSome = true := by kernel_rfl
@[push_cast] theorem m42 : concreteB prog 42 = true := by kernel_rfl
@[push_cast] theorem a42 : elemOk prog 42 = true := by kernel_rfl
@[push_cast] theorem b42 : bytesOf prog 42 = 24 := by kernel_rfl
@[push_cast] theorem z42 : zeroD prog 42 = some ([.t (.v (.slice none 0 0))]) := by kernel_rfl
@[push_cast] theorem u42 : prog.underlying 42 = some (.slice 44) := by kernel_rfl
@[push_cast] theorem e42 : prog.elem 42 = 44 := by kernel_rfl
@[push_cast] theorem c44 : prog.cellsOf 44 = 4 := by kernel_rfl
@[push_cast] theorem g44 : isAggB prog 44 = true := by kernel_rfl
@[push_cast] theorem s44 : (prog.underlying 44).isSome = true := by kernel_rfl
@[push_cast] theorem i44 : (prog.info? 44).isSome = true := by kernel_rfl
@[push_cast] theorem m44 : concreteB prog 44 = true := by kernel_rfl
@[push_cast] theorem a44 : elemOk prog 44 = true := by kernel_rfl
@[push_cast] theorem b44 : bytesOf prog 44 = 56 := by kernel_rfl
@[push_cast] theorem z44 : zeroD prog 44 = some ([.t (.v (.int .i64 0)), .t (.v (.int .i64 0)), .t (.v (.string ⟨#[]⟩)), .t (.v (.slice none 0 0))]) := by kernel_rfl
@[push_cast] theorem f44_0 : fieldOf prog 44 0 = some (0, 1, 3) := by kernel_rfl
@[push_cast] theorem q44_0 : placeOf prog 44 0 = some (0, 1) := by kernel_rfl
@[push_cast] theorem f44_1 : fieldOf prog 44 1 = some (1, 1, 3) := by kernel_rfl
@[push_cast] theorem q44_1 : placeOf prog 44 1 = some (1, 1) := by kernel_rfl
@[push_cast] theorem f44_2 : fieldOf prog 44 2 = some (2, 1, 9) := by kernel_rfl
@[push_cast] theorem q44_2 : placeOf prog 44 2 = some (2, 1) := by kernel_rfl
@[push_cast] theorem f44_3 : fieldOf prog 44 3 = some (3, 1, 42) := by kernel_rfl
@[push_cast] theorem q44_3 : placeOf prog 44 3 = some (3, 1) := by kernel_rfl
@[push_cast] theorem p44 : placesOk prog 44 = true := by kernel_rfl
@[push_cast] theorem c48 : prog.cellsOf 48 = 1 := by kernel_rfl
@[push_cast] theorem g48 : isAggB prog 48 = false := by kernel_rfl
@[push_cast] theorem s48 : (prog.underlying 48).isSome = true := by kernel_rfl
@[push_cast] theorem i48 : (prog.info? 48).isSome = true := by kernel_rfl
@[push_cast] theorem a48 : elemOk prog 48 = true := by kernel_rfl
@[push_cast] theorem b48 : bytesOf prog 48 = 16 := by kernel_rfl
@[push_cast] theorem z48 : zeroD prog 48 = some ([.t (.v .nilIface)]) := by kernel_rfl
@[push_cast] theorem u48 : prog.underlying 48 = some (.interface (prog.methodsAt 48)) := by kernel_rfl
@[push_cast] theorem c51 : prog.cellsOf 51 = 1 := by kernel_rfl
@[push_cast] theorem g51 : isAggB prog 51 = false := by kernel_rfl
@[push_cast] theorem s51 : (prog.underlying 51).isSome = true := by kernel_rfl
@[push_cast] theorem i51 : (prog.info? 51).isSome = true := by kernel_rfl
@[push_cast] theorem m51 : concreteB prog 51 = true := by kernel_rfl
@[push_cast] theorem a51 : elemOk prog 51 = true := by kernel_rfl
@[push_cast] theorem b51 : bytesOf prog 51 = 16 := by kernel_rfl
@[push_cast] theorem z51 : zeroD prog 51 = some ([.t (.v (.string ⟨#[]⟩))]) := by kernel_rfl
@[push_cast] theorem u51 : prog.underlying 51 = some .string := by kernel_rfl
@[push_cast] theorem c53 : prog.cellsOf 53 = 1 := by kernel_rfl
@[push_cast] theorem g53 : isAggB prog 53 = false := by kernel_rfl
@[push_cast] theorem s53 : (prog.underlying 53).isSome = true := by kernel_rfl
@[push_cast] theorem i53 : (prog.info? 53).isSome = true := by kernel_rfl
@[push_cast] theorem m53 : concreteB prog 53 = true := by kernel_rfl
@[push_cast] theorem a53 : elemOk prog 53 = true := by kernel_rfl
@[push_cast] theorem b53 : bytesOf prog 53 = 8 := by kernel_rfl
@[push_cast] theorem z53 : zeroD prog 53 = some ([.t (.v (.pointer none))]) := by kernel_rfl
@[push_cast] theorem c55 : prog.cellsOf 55 = 5 := by kernel_rfl
@[push_cast] theorem g55 : isAggB prog 55 = true := by kernel_rfl
@[push_cast] theorem s55 : (prog.underlying 55).isSome = true := by kernel_rfl
@[push_cast] theorem i55 : (prog.info? 55).isSome = true := by kernel_rfl
@[push_cast] theorem m55 : concreteB prog 55 = true := by kernel_rfl
@[push_cast] theorem a55 : elemOk prog 55 = true := by kernel_rfl
@[push_cast] theorem b55 : bytesOf prog 55 = 64 := by kernel_rfl
@[push_cast] theorem z55 : zeroD prog 55 = some ([.t (.v (.int .i64 0)), .t (.v (.int .i64 0)), .t (.v (.string ⟨#[]⟩)), .t (.v (.slice none 0 0)), .t (.v (.bool false))]) := by kernel_rfl
@[push_cast] theorem f55_0 : fieldOf prog 55 0 = some (0, 4, 44) := by kernel_rfl
@[push_cast] theorem q55_0 : placeOf prog 55 0 = some (0, 4) := by kernel_rfl
@[push_cast] theorem f55_1 : fieldOf prog 55 1 = some (4, 1, 4) := by kernel_rfl
@[push_cast] theorem q55_1 : placeOf prog 55 1 = some (4, 1) := by kernel_rfl
@[push_cast] theorem p55 : placesOk prog 55 = true := by kernel_rfl
@[push_cast] theorem c59 : prog.cellsOf 59 = 3 := by kernel_rfl
@[push_cast] theorem g59 : isAggB prog 59 = true := by kernel_rfl
@[push_cast] theorem s59 : (prog.underlying 59).isSome = true := by kernel_rfl
@[push_cast] theorem i59 : (prog.info? 59).isSome = true := by kernel_rfl
@[push_cast] theorem m59 : concreteB prog 59 = true := by kernel_rfl
@[push_cast] theorem a59 : elemOk prog 59 = true := by kernel_rfl
@[push_cast] theorem b59 : bytesOf prog 59 = 24 := by kernel_rfl
@[push_cast] theorem z59 : zeroD prog 59 = some ([.t (.v (.int .i64 0)), .t (.v (.int .i64 0)), .t (.v (.int .i64 0))]) := by kernel_rfl
@[push_cast] theorem f59_0 : fieldOf prog 59 0 = some (0, 1, 3) := by kernel_rfl
@[push_cast] theorem q59_0 : placeOf prog 59 0 = some (0, 1) := by kernel_rfl
@[push_cast] theorem f59_1 : fieldOf prog 59 1 = some (1, 1, 3) := by kernel_rfl
@[push_cast] theorem q59_1 : placeOf prog 59 1 = some (1, 1) := by kernel_rfl
@[push_cast] theorem f59_2 : fieldOf prog 59 2 = some (2, 1, 3) := by kernel_rfl
@[push_cast] theorem q59_2 : placeOf prog 59 2 = some (2, 1) := by kernel_rfl
@[push_cast] theorem p59 : placesOk prog 59 = true := by kernel_rfl
@[push_cast] theorem c65 : prog.cellsOf 65 = 1 := by kernel_rfl
@[push_cast] theorem g65 : isAggB prog 65 = false := by kernel_rfl
@[push_cast] theorem s65 : (prog.underlying 65).isSome = true := by kernel_rfl
@[push_cast] theorem i65 : (prog.info? 65).isSome = true := by kernel_rfl
@[push_cast] theorem m65 : concreteB prog 65 = true := by kernel_rfl
@[push_cast] theorem a65 : elemOk prog 65 = true := by kernel_rfl
@[push_cast] theorem b65 : bytesOf prog 65 = 24 := by kernel_rfl
@[push_cast] theorem z65 : zeroD prog 65 = some ([.t (.v (.slice none 0 0))]) := by kernel_rfl
@[push_cast] theorem u65 : prog.underlying 65 = some (.slice 3) := by kernel_rfl
@[push_cast] theorem e65 : prog.elem 65 = 3 := by kernel_rfl
@[push_cast] theorem c69 : prog.cellsOf 69 = 3 := by kernel_rfl
@[push_cast] theorem g69 : isAggB prog 69 = true := by kernel_rfl
@[push_cast] theorem s69 : (prog.underlying 69).isSome = true := by kernel_rfl
@[push_cast] theorem i69 : (prog.info? 69).isSome = true := by kernel_rfl
@[push_cast] theorem m69 : concreteB prog 69 = true := by kernel_rfl
@[push_cast] theorem a69 : elemOk prog 69 = true := by kernel_rfl
@[push_cast] theorem b69 : bytesOf prog 69 = 56 := by kernel_rfl
@[push_cast] theorem z69 : zeroD prog 69 = some ([.t (.v (.slice none 0 0)), .t (.v (.slice none 0 0)), .t (.v (.int .i64 0))]) := by kernel_rfl
@[push_cast] theorem f69_0 : fieldOf prog 69 0 = some (0, 2, 25) := by kernel_rfl
@[push_cast] theorem q69_0 : placeOf prog 69 0 = some (0, 2) := by kernel_rfl
@[push_cast] theorem f69_1 : fieldOf prog 69 1 = some (2, 1, 3) := by kernel_rfl
@[push_cast] theorem q69_1 : placeOf prog 69 1 = some (2, 1) := by kernel_rfl
@[push_cast] theorem p69 : placesOk prog 69 = true := by kernel_rfl
@[push_cast] theorem c72 : prog.cellsOf 72 = 4 := by kernel_rfl
@[push_cast] theorem g72 : isAggB prog 72 = true := by kernel_rfl
@[push_cast] theorem s72 : (prog.underlying 72).isSome = true := by kernel_rfl
@[push_cast] theorem i72 : (prog.info? 72).isSome = true := by kernel_rfl
@[push_cast] theorem m72 : concreteB prog 72 = true := by kernel_rfl
@[push_cast] theorem a72 : elemOk prog 72 = true := by kernel_rfl
@[push_cast] theorem b72 : bytesOf prog 72 = 48 := by kernel_rfl
@[push_cast] theorem z72 : zeroD prog 72 = some ([.t (.v (.int .i64 0)), .t (.v (.string ⟨#[]⟩)), .t (.v (.string ⟨#[]⟩)), .t (.v (.int .i64 0))]) := by kernel_rfl
@[push_cast] theorem f72_0 : fieldOf prog 72 0 = some (0, 1, 3) := by kernel_rfl
@[push_cast] theorem q72_0 : placeOf prog 72 0 = some (0, 1) := by kernel_rfl
@[push_cast] theorem f72_1 : fieldOf prog 72 1 = some (1, 1, 9) := by kernel_rfl
@[push_cast] theorem q72_1 : placeOf prog 72 1 = some (1, 1) := by kernel_rfl
@[push_cast] theorem f72_2 : fieldOf prog 72 2 = some (2, 1, 9) := by kernel_rfl
@[push_cast] theorem q72_2 : placeOf prog 72 2 = some (2, 1) := by kernel_rfl
@[push_cast] theorem f72_3 : fieldOf prog 72 3 = some (3, 1, 3) := by kernel_rfl
@[push_cast] theorem q72_3 : placeOf prog 72 3 = some (3, 1) := by kernel_rfl
@[push_cast] theorem p72 : placesOk prog 72 = true := by kernel_rfl
@[push_cast] theorem c75 : prog.cellsOf 75 = 1 := by kernel_rfl
@[push_cast] theorem g75 : isAggB prog 75 = false := by kernel_rfl
@[push_cast] theorem s75 : (prog.underlying 75).isSome = true := by kernel_rfl
@[push_cast] theorem i75 : (prog.info? 75).isSome = true := by kernel_rfl
@[push_cast] theorem m75 : concreteB prog 75 = true := by kernel_rfl
@[push_cast] theorem a75 : elemOk prog 75 = true := by kernel_rfl
@[push_cast] theorem b75 : bytesOf prog 75 = 8 := by kernel_rfl
@[push_cast] theorem z75 : zeroD prog 75 = some ([.t (.v (.pointer none))]) := by kernel_rfl
@[push_cast] theorem c77 : prog.cellsOf 77 = 1 := by kernel_rfl
@[push_cast] theorem g77 : isAggB prog 77 = true := by kernel_rfl
@[push_cast] theorem s77 : (prog.underlying 77).isSome = true := by kernel_rfl
@[push_cast] theorem i77 : (prog.info? 77).isSome = true := by kernel_rfl
@[push_cast] theorem m77 : concreteB prog 77 = true := by kernel_rfl
@[push_cast] theorem a77 : elemOk prog 77 = true := by kernel_rfl
@[push_cast] theorem b77 : bytesOf prog 77 = 16 := by kernel_rfl
@[push_cast] theorem z77 : zeroD prog 77 = some ([.t (.v (.string ⟨#[]⟩))]) := by kernel_rfl
@[push_cast] theorem f77_0 : fieldOf prog 77 0 = some (0, 1, 9) := by kernel_rfl
@[push_cast] theorem q77_0 : placeOf prog 77 0 = some (0, 1) := by kernel_rfl
@[push_cast] theorem p77 : placesOk prog 77 = true := by kernel_rfl
@[push_cast] theorem c80 : prog.cellsOf 80 = 1 := by kernel_rfl
@[push_cast] theorem g80 : isAggB prog 80 = false := by kernel_rfl
@[push_cast] theorem s80 : (prog.underlying 80).isSome = true := by kernel_rfl
@[push_cast] theorem i80 : (prog.info? 80).isSome = true := by kernel_rfl
@[push_cast] theorem m80 : concreteB prog 80 = true := by kernel_rfl
@[push_cast] theorem a80 : elemOk prog 80 = true := by kernel_rfl
@[push_cast] theorem b80 : bytesOf prog 80 = 16 := by kernel_rfl
@[push_cast] theorem z80 : zeroD prog 80 = some ([.t (.v (.string ⟨#[]⟩))]) := by kernel_rfl
@[push_cast] theorem u80 : prog.underlying 80 = some .string := by kernel_rfl
@[push_cast] theorem c81 : prog.cellsOf 81 = 1 := by kernel_rfl
@[push_cast] theorem g81 : isAggB prog 81 = false := by kernel_rfl
@[push_cast] theorem s81 : (prog.underlying 81).isSome = true := by kernel_rfl
@[push_cast] theorem i81 : (prog.info? 81).isSome = true := by kernel_rfl
@[push_cast] theorem m81 : concreteB prog 81 = true := by kernel_rfl
@[push_cast] theorem a81 : elemOk prog 81 = true := by kernel_rfl
@[push_cast] theorem b81 : bytesOf prog 81 = 8 := by kernel_rfl
@[push_cast] theorem z81 : zeroD prog 81 = some ([.t (.v (.pointer none))]) := by kernel_rfl
@[push_cast] theorem c85 : prog.cellsOf 85 = 2 := by kernel_rfl
@[push_cast] theorem g85 : isAggB prog 85 = true := by kernel_rfl
@[push_cast] theorem s85 : (prog.underlying 85).isSome = true := by kernel_rfl
@[push_cast] theorem i85 : (prog.info? 85).isSome = true := by kernel_rfl
@[push_cast] theorem m85 : concreteB prog 85 = true := by kernel_rfl
@[push_cast] theorem a85 : elemOk prog 85 = true := by kernel_rfl
@[push_cast] theorem b85 : bytesOf prog 85 = 32 := by kernel_rfl
@[push_cast] theorem z85 : zeroD prog 85 = some ([.t (.v (.string ⟨#[]⟩)), .t (.v .nilIface)]) := by kernel_rfl
@[push_cast] theorem f85_0 : fieldOf prog 85 0 = some (0, 1, 9) := by kernel_rfl
@[push_cast] theorem q85_0 : placeOf prog 85 0 = some (0, 1) := by kernel_rfl
@[push_cast] theorem f85_1 : fieldOf prog 85 1 = some (1, 1, 48) := by kernel_rfl
@[push_cast] theorem q85_1 : placeOf prog 85 1 = some (1, 1) := by kernel_rfl
@[push_cast] theorem p85 : placesOk prog 85 = true := by kernel_rfl
@[push_cast] theorem c90 : prog.cellsOf 90 = 1 := by kernel_rfl
@[push_cast] theorem g90 : isAggB prog 90 = false := by kernel_rfl
@[push_cast] theorem s90 : (prog.underlying 90).isSome = true := by kernel_rfl
@[push_cast] theorem i90 : (prog.info? 90).isSome = true := by kernel_rfl
@[push_cast] theorem m90 : concreteB prog 90 = true := by kernel_rfl
@[push_cast] theorem a90 : elemOk prog 90 = true := by kernel_rfl
@[push_cast] theorem b90 : bytesOf prog 90 = 8 := by kernel_rfl
@[push_cast] theorem z90 : zeroD prog 90 = some ([.t (.v (.pointer none))]) := by kernel_rfl
@[push_cast] theorem c91 : prog.cellsOf 91 = 1 := by kernel_rfl
@[push_cast] theorem g91 : isAggB prog 91 = false := by kernel_rfl
@[push_cast] theorem s91 : (prog.underlying 91).isSome = true := by kernel_rfl
@[push_cast] theorem i91 : (prog.info? 91).isSome = true := by kernel_rfl
@[push_cast] theorem m91 : concreteB prog 91 = true := by kernel_rfl
@[push_cast] theorem a91 : elemOk prog 91 = true := by kernel_rfl
@[push_cast] theorem b91 : bytesOf prog 91 = 8 := by kernel_rfl
@[push_cast] theorem z91 : zeroD prog 91 = some ([.t (.v (.int .u64 0))]) := by kernel_rfl
@[push_cast] theorem u91 : prog.underlying 91 = some (.int .u64) := by kernel_rfl
@[push_cast] theorem c93 : prog.cellsOf 93 = 3 := by kernel_rfl
@[push_cast] theorem g93 : isAggB prog 93 = true := by kernel_rfl
@[push_cast] theorem s93 : (prog.underlying 93).isSome = true := by kernel_rfl
@[push_cast] theorem i93 : (prog.info? 93).isSome = true := by kernel_rfl
@[push_cast] theorem m93 : concreteB prog 93 = true := by kernel_rfl
@[push_cast] theorem a93 : elemOk prog 93 = true := by kernel_rfl
@[push_cast] theorem b93 : bytesOf prog 93 = 24 := by kernel_rfl
@[push_cast] theorem z93 : zeroD prog 93 = some ([.t (.v (.pointer none)), .t (.v (.pointer none)), .t (.v (.int .u64 0))]) := by kernel_rfl
@[push_cast] theorem f93_0 : fieldOf prog 93 0 = some (0, 1, 17) := by kernel_rfl
@[push_cast] theorem q93_0 : placeOf prog 93 0 = some (0, 1) := by kernel_rfl
@[push_cast] theorem f93_1 : fieldOf prog 93 1 = some (1, 1, 90) := by kernel_rfl
@[push_cast] theorem q93_1 : placeOf prog 93 1 = some (1, 1) := by kernel_rfl
@[push_cast] theorem f93_2 : fieldOf prog 93 2 = some (2, 1, 91) := by kernel_rfl
@[push_cast] theorem q93_2 : placeOf prog 93 2 = some (2, 1) := by kernel_rfl
@[push_cast] theorem p93 : placesOk prog 93 = true := by kernel_rfl
@[push_cast] theorem c96 : prog.cellsOf 96 = 1 := by kernel_rfl
@[push_cast] theorem g96 : isAggB prog 96 = false := by kernel_rfl
@[push_cast] theorem s96 : (prog.underlying 96).isSome = true := by kernel_rfl
@[push_cast] theorem i96 : (prog.info? 96).isSome = true := by kernel_rfl
@[push_cast] theorem a96 : elemOk prog 96 = true := by kernel_rfl
@[push_cast] theorem b96 : bytesOf prog 96 = 16 := by kernel_rfl
@[push_cast] theorem z96 : zeroD prog 96 = some ([.t (.v .nilIface)]) := by kernel_rfl
@[push_cast] theorem u96 : prog.underlying 96 = some (.interface (prog.methodsAt 96)) := by kernel_rfl
@[push_cast] theorem c98 : prog.cellsOf 98 = 1 := by kernel_rfl
@[push_cast] theorem g98 : isAggB prog 98 = false := by kernel_rfl
@[push_cast] theorem s98 : (prog.underlying 98).isSome = true := by kernel_rfl
@[push_cast] theorem i98 : (prog.info? 98).isSome = true := by kernel_rfl
@[push_cast] theorem m98 : concreteB prog 98 = true := by kernel_rfl
@[push_cast] theorem a98 : elemOk prog 98 = true := by kernel_rfl
@[push_cast] theorem b98 : bytesOf prog 98 = 1 := by kernel_rfl
@[push_cast] theorem z98 : zeroD prog 98 = some ([.t (.v (.int .u8 0))]) := by kernel_rfl
@[push_cast] theorem u98 : prog.underlying 98 = some (.int .u8) := by kernel_rfl
@[push_cast] theorem c103 : prog.cellsOf 103 = 5 := by kernel_rfl
@[push_cast] theorem g103 : isAggB prog 103 = true := by kernel_rfl
@[push_cast] theorem s103 : (prog.underlying 103).isSome = true := by kernel_rfl
@[push_cast] theorem i103 : (prog.info? 103).isSome = true := by kernel_rfl
@[push_cast] theorem m103 : concreteB prog 103 = true := by kernel_rfl
@[push_cast] theorem a103 : elemOk prog 103 = true := by kernel_rfl
@[push_cast] theorem b103 : bytesOf prog 103 = 64 := by kernel_rfl
@[push_cast] theorem z103 : zeroD prog 103 = some ([.t (.v (.int .i64 0)), .t (.v (.int .i64 0)), .t (.v (.string ⟨#[]⟩)), .t (.v (.slice none 0 0)), .t (.v (.int .i64 0))]) := by kernel_rfl
@[push_cast] theorem f103_0 : fieldOf prog 103 0 = some (0, 4, 44) := by kernel_rfl
@[push_cast] theorem q103_0 : placeOf prog 103 0 = some (0, 4) := by kernel_rfl
@[push_cast] theorem f103_1 : fieldOf prog 103 1 = some (4, 1, 3) := by kernel_rfl
@[push_cast] theorem q103_1 : placeOf prog 103 1 = some (4, 1) := by kernel_rfl
@[push_cast] theorem p103 : placesOk prog 103 = true := by kernel_rfl
@[push_cast] theorem c110 : prog.cellsOf 110 = 1 := by kernel_rfl
@[push_cast] theorem g110 : isAggB prog 110 = false := by kernel_rfl
@[push_cast] theorem s110 : (prog.underlying 110).isSome = true := by kernel_rfl
@[push_cast] theorem i110 : (prog.info? 110).isSome = true := by kernel_rfl
@[push_cast] theorem m110 : concreteB prog 110 = true := by kernel_rfl
@[push_cast] theorem a110 : elemOk prog 110 = true := by kernel_rfl
@[push_cast] theorem b110 : bytesOf prog 110 = 8 := by kernel_rfl
@[push_cast] theorem z110 : zeroD prog 110 = some ([.t (.v .nilFunc)]) := by kernel_rfl
@[push_cast] theorem c112 : prog.cellsOf 112 = 1 := by kernel_rfl
@[push_cast] theorem g112 : isAggB prog 112 = false := by kernel_rfl
@[push_cast] theorem s112 : (prog.underlying 112).isSome = true := by kernel_rfl
@[push_cast] theorem i112 : (prog.info? 112).isSome = true := by kernel_rfl
@[push_cast] theorem m112 : concreteB prog 112 = true := by kernel_rfl
@[push_cast] theorem a112 : elemOk prog 112 = true := by kernel_rfl
@[push_cast] theorem b112 : bytesOf prog 112 = 24 := by kernel_rfl
@[push_cast] theorem z112 : zeroD prog 112 = some ([.t (.v (.slice none 0 0))]) := by kernel_rfl
@[push_cast] theorem u112 : prog.underlying 112 = some (.slice 37) := by kernel_rfl
@[push_cast] theorem e112 : prog.elem 112 = 37 := by kernel_rfl
@[push_cast] theorem c118 : prog.cellsOf 118 = 1 := by kernel_rfl
@[push_cast] theorem g118 : isAggB prog 118 = false := by kernel_rfl
@[push_cast] theorem s118 : (prog.underlying 118).isSome = true := by kernel_rfl
@[push_cast] theorem i118 : (prog.info? 118).isSome = true := by kernel_rfl
@[push_cast] theorem m118 : concreteB prog 118 = true := by kernel_rfl
@[push_cast] theorem a118 : elemOk prog 118 = true := by kernel_rfl
@[push_cast] theorem b118 : bytesOf prog 118 = 8 := by kernel_rfl
@[push_cast] theorem z118 : zeroD prog 118 = some ([.t (.v (.int .u64 0))]) := by kernel_rfl
@[push_cast] theorem u118 : prog.underlying 118 = some (.int .u64) := by kernel_rfl
@[push_cast] theorem c124 : prog.cellsOf 124 = 2 := by kernel_rfl
@[push_cast] theorem g124 : isAggB prog 124 = true := by kernel_rfl
@[push_cast] theorem s124 : (prog.underlying 124).isSome = true := by kernel_rfl
@[push_cast] theorem i124 : (prog.info? 124).isSome = true := by kernel_rfl
@[push_cast] theorem m124 : concreteB prog 124 = true := by kernel_rfl
@[push_cast] theorem a124 : elemOk prog 124 = true := by kernel_rfl
@[push_cast] theorem b124 : bytesOf prog 124 = 24 := by kernel_rfl
@[push_cast] theorem z124 : zeroD prog 124 = some ([.t (.v (.int .i64 0)), .t (.v .nilIface)]) := by kernel_rfl
@[push_cast] theorem f124_0 : fieldOf prog 124 0 = some (0, 1, 3) := by kernel_rfl
@[push_cast] theorem q124_0 : placeOf prog 124 0 = some (0, 1) := by kernel_rfl
@[push_cast] theorem f124_1 : fieldOf prog 124 1 = some (1, 1, 48) := by kernel_rfl
@[push_cast] theorem q124_1 : placeOf prog 124 1 = some (1, 1) := by kernel_rfl
@[push_cast] theorem p124 : placesOk prog 124 = true := by kernel_rfl
@[push_cast] theorem c126 : prog.cellsOf 126 = 1 := by kernel_rfl
@[push_cast] theorem g126 : isAggB prog 126 = true := by kernel_rfl
@[push_cast] theorem s126 : (prog.underlying 126).isSome = true := by kernel_rfl
@[push_cast] theorem i126 : (prog.info? 126).isSome = true := by kernel_rfl
@[push_cast] theorem m126 : concreteB prog 126 = true := by kernel_rfl
@[push_cast] theorem a126 : elemOk prog 126 = true := by kernel_rfl
@[push_cast] theorem b126 : bytesOf prog 126 = 8 := by kernel_rfl
@[push_cast] theorem z126 : zeroD prog 126 = some ([.t (.v (.pointer none))]) := by kernel_rfl
@[push_cast] theorem f126_0 : fieldOf prog 126 0 = some (0, 1, 17) := by kernel_rfl
@[push_cast] theorem q126_0 : placeOf prog 126 0 = some (0, 1) := by kernel_rfl
@[push_cast] theorem p126 : placesOk prog 126 = true := by kernel_rfl
@[push_cast] theorem c131 : prog.cellsOf 131 = 1 := by kernel_rfl
@[push_cast] theorem g131 : isAggB prog 131 = false := by kernel_rfl
@[push_cast] theorem s131 : (prog.underlying 131).isSome = true := by kernel_rfl
@[push_cast] theorem i131 : (prog.info? 131).isSome = true := by kernel_rfl
@[push_cast] theorem a131 : elemOk prog 131 = true := by kernel_rfl
@[push_cast] theorem b131 : bytesOf prog 131 = 16 := by kernel_rfl
@[push_cast] theorem z131 : zeroD prog 131 = some ([.t (.v .nilIface)]) := by kernel_rfl
@[push_cast] theorem u131 : prog.underlying 131 = some (.interface (prog.methodsAt 131)) := by kernel_rfl
@[push_cast] theorem c134 : prog.cellsOf 134 = 1 := by kernel_rfl
@[push_cast] theorem g134 : isAggB prog 134 = false := by kernel_rfl
@[push_cast] theorem s134 : (prog.underlying 134).isSome = true := by kernel_rfl
@[push_cast] theorem i134 : (prog.info? 134).isSome = true := by kernel_rfl
@[push_cast] theorem a134 : elemOk prog 134 = true := by kernel_rfl
@[push_cast] theorem b134 : bytesOf prog 134 = 16 := by kernel_rfl
@[push_cast] theorem z134 : zeroD prog 134 = some ([.t (.v .nilIface)]) := by kernel_rfl
@[push_cast] theorem u134 : prog.underlying 134 = some (.interface (prog.methodsAt 134)) := by kernel_rfl
@[push_cast] theorem c137 : prog.cellsOf 137 = 1 := by kernel_rfl
@[push_cast] theorem g137 : isAggB prog 137 = false := by kernel_rfl
@[push_cast] theorem s137 : (prog.underlying 137).isSome = true := by kernel_rfl
@[push_cast] theorem i137 : (prog.info? 137).isSome = true := by kernel_rfl
@[push_cast] theorem m137 : concreteB prog 137 = true := by kernel_rfl
@[push_cast] theorem a137 : elemOk prog 137 = true := by kernel_rfl
@[push_cast] theorem b137 : bytesOf prog 137 = 24 := by kernel_rfl
@[push_cast] theorem z137 : zeroD prog 137 = some ([.t (.v (.slice none 0 0))]) := by kernel_rfl
@[push_cast] theorem u137 : prog.underlying 137 = some (.slice 48) := by kernel_rfl
@[push_cast] theorem e137 : prog.elem 137 = 48 := by kernel_rfl
@[push_cast] theorem c140 : prog.cellsOf 140 = 1 := by kernel_rfl
@[push_cast] theorem g140 : isAggB prog 140 = false := by kernel_rfl
@[push_cast] theorem s140 : (prog.underlying 140).isSome = true := by kernel_rfl
@[push_cast] theorem i140 : (prog.info? 140).isSome = true := by kernel_rfl
@[push_cast] theorem m140 : concreteB prog 140 = true := by kernel_rfl
@[push_cast] theorem a140 : elemOk prog 140 = true := by kernel_rfl
@[push_cast] theorem b140 : bytesOf prog 140 = 8 := by kernel_rfl
@[push_cast] theorem z140 : zeroD prog 140 = some ([.t (.v .nilFunc)]) := by kernel_rfl
@[push_cast] theorem c150 : prog.cellsOf 150 = 1 := by kernel_rfl
@[push_cast] theorem g150 : isAggB prog 150 = false := by kernel_rfl
@[push_cast] theorem s150 : (prog.underlying 150).isSome = true := by kernel_rfl
@[push_cast] theorem i150 : (prog.info? 150).isSome = true := by kernel_rfl
@[push_cast] theorem m150 : concreteB prog 150 = true := by kernel_rfl
@[push_cast] theorem a150 : elemOk prog 150 = true := by kernel_rfl
@[push_cast] theorem b150 : bytesOf prog 150 = 8 := by kernel_rfl
@[push_cast] theorem z150 : zeroD prog 150 = some ([.t (.v (.int .u64 0))]) := by kernel_rfl
@[push_cast] theorem u150 : prog.underlying 150 = some (.int .u64) := by kernel_rfl
@[push_cast] theorem k2 : callOk prog 2 = true := by kernel_rfl
@[push_cast] theorem k3 : callOk prog 3 = true := by kernel_rfl
@[push_cast] theorem k4 : callOk prog 4 = true := by kernel_rfl
@[push_cast] theorem k5 : callOk prog 5 = true := by kernel_rfl
@[push_cast] theorem k6 : callOk prog 6 = true := by kernel_rfl
@[push_cast] theorem k7 : callOk prog 7 = true := by kernel_rfl
@[push_cast] theorem k8 : callOk prog 8 = true := by kernel_rfl
@[push_cast] theorem k9 : callOk prog 9 = true := by kernel_rfl
@[push_cast] theorem k10 : callOk prog 10 = true := by kernel_rfl
@[push_cast] theorem k11 : callOk prog 11 = true := by kernel_rfl
@[push_cast] theorem k12 : callOk prog 12 = true := by kernel_rfl
@[push_cast] theorem k13 : callOk prog 13 = true := by kernel_rfl
@[push_cast] theorem k14 : callOk prog 14 = true := by kernel_rfl
@[push_cast] theorem k15 : callOk prog 15 = true := by kernel_rfl
@[push_cast] theorem k16 : callOk prog 16 = true := by kernel_rfl
@[push_cast] theorem k17 : callOk prog 17 = true := by kernel_rfl
@[push_cast] theorem k18 : callOk prog 18 = true := by kernel_rfl
@[push_cast] theorem k19 : callOk prog 19 = true := by kernel_rfl
@[push_cast] theorem k20 : callOk prog 20 = true := by kernel_rfl
@[push_cast] theorem k21 : callOk prog 21 = true := by kernel_rfl
@[push_cast] theorem k22 : callOk prog 22 = true := by kernel_rfl
@[push_cast] theorem k23 : callOk prog 23 = true := by kernel_rfl
@[push_cast] theorem k24 : callOk prog 24 = true := by kernel_rfl
@[push_cast] theorem k25 : callOk prog 25 = true := by kernel_rfl
@[push_cast] theorem k26 : callOk prog 26 = true := by kernel_rfl
@[push_cast] theorem k27 : callOk prog 27 = true := by kernel_rfl
@[push_cast] theorem k28 : callOk prog 28 = true := by kernel_rfl
@[push_cast] theorem k29 : callOk prog 29 = true := by kernel_rfl
@[push_cast] theorem k30 : callOk prog 30 = true := by kernel_rfl
@[push_cast] theorem k31 : callOk prog 31 = true := by kernel_rfl
@[push_cast] theorem k32 : callOk prog 32 = true := by kernel_rfl
@[push_cast] theorem k33 : callOk prog 33 = true := by kernel_rfl
@[push_cast] theorem k34 : callOk prog 34 = true := by kernel_rfl
@[push_cast] theorem k35 : callOk prog 35 = true := by kernel_rfl
@[push_cast] theorem k39 : callOk prog 39 = true := by kernel_rfl
@[push_cast] theorem k40 : callOk prog 40 = true := by kernel_rfl
@[push_cast] theorem k41 : callOk prog 41 = true := by kernel_rfl
@[push_cast] theorem k42 : callOk prog 42 = true := by kernel_rfl
@[push_cast] theorem k43 : callOk prog 43 = true := by kernel_rfl
@[push_cast] theorem k44 : callOk prog 44 = true := by kernel_rfl
@[push_cast] theorem k45 : callOk prog 45 = true := by kernel_rfl
@[push_cast] theorem k46 : callOk prog 46 = true := by kernel_rfl
@[push_cast] theorem k47 : callOk prog 47 = true := by kernel_rfl
@[push_cast] theorem k48 : callOk prog 48 = true := by kernel_rfl
@[push_cast] theorem k49 : callOk prog 49 = true := by kernel_rfl
@[push_cast] theorem k50 : callOk prog 50 = true := by kernel_rfl
@[push_cast] theorem k51 : callOk prog 51 = true := by kernel_rfl
@[push_cast] theorem k52 : callOk prog 52 = true := by kernel_rfl
@[push_cast] theorem k53 : callOk prog 53 = true := by kernel_rfl
@[push_cast] theorem k54 : callOk prog 54 = true := by kernel_rfl
@[push_cast] theorem k55 : callOk prog 55 = true := by kernel_rfl
@[push_cast] theorem k56 : callOk prog 56 = true := by kernel_rfl
@[push_cast] theorem k57 : callOk prog 57 = true := by kernel_rfl
@[push_cast] theorem k58 : callOk prog 58 = true := by kernel_rfl
@[push_cast] theorem k59 : callOk prog 59 = true := by kernel_rfl
@[push_cast] theorem k60 : callOk prog 60 = true := by kernel_rfl
@[push_cast] theorem k64 : callOk prog 64 = true := by kernel_rfl
@[push_cast] theorem k65 : callOk prog 65 = true := by kernel_rfl
@[push_cast] theorem k66 : callOk prog 66 = true := by kernel_rfl
@[push_cast] theorem k67 : callOk prog 67 = true := by kernel_rfl
@[push_cast] theorem k68 : callOk prog 68 = true := by kernel_rfl
@[push_cast] theorem k69 : callOk prog 69 = true := by kernel_rfl
@[push_cast] theorem k70 : callOk prog 70 = true := by kernel_rfl
@[push_cast] theorem k71 : callOk prog 71 = true := by kernel_rfl
@[push_cast] theorem k72 : callOk prog 72 = true := by kernel_rfl
@[push_cast] theorem k73 : callOk prog 73 = true := by kernel_rfl
@[push_cast] theorem k74 : callOk prog 74 = true := by kernel_rfl
@[push_cast] theorem k75 : callOk prog 75 = true := by kernel_rfl
@[push_cast] theorem k76 : callOk prog 76 = true := by kernel_rfl
@[push_cast] theorem k77 : callOk prog 77 = true := by kernel_rfl
@[push_cast] theorem k78 : callOk prog 78 = true := by kernel_rfl
@[push_cast] theorem k79 : callOk prog 79 = true := by kernel_rfl
@[push_cast] theorem k80 : callOk prog 80 = true := by kernel_rfl
@[push_cast] theorem k81 : callOk prog 81 = true := by kernel_rfl
@[push_cast] theorem k82 : callOk prog 82 = true := by kernel_rfl
@[push_cast] theorem k83 : callOk prog 83 = true := by kernel_rfl
@[push_cast] theorem k104 : callOk prog 104 = true := by kernel_rfl
@[push_cast] theorem k109 : callOk prog 109 = true := by kernel_rfl
@[push_cast] theorem k125 : callOk prog 125 = true := by kernel_rfl
@[push_cast] theorem mix : prog.follows .mixedOrders = true := by kernel_rfl
end Go.Proofs.Tryz.F
