/- Facts about the program's types: made by wip/ot/facts.py. -/
import Derived.Test.YtkbikblijipceaaGreatDoorProg
import Derived.Test.YtkbikblijipceaaGreatDoorOtD
set_option linter.unusedVariables false
namespace Go.Proofs.Tryz.F
open Go Go.Proofs Go.Ot
@[push_cast] theorem c3 : prog.cellsOf 3 = 1 := by kernel_rfl
@[push_cast] theorem g3 : xP prog 3 = false := by kernel_rfl
@[push_cast] theorem s3 : (prog.underlying 3).isSome = true := by kernel_rfl
@[push_cast] theorem i3 : (prog.info? 3).isSome = true := by kernel_rfl
@[push_cast] theorem m3 : xI prog 3 = true := by kernel_rfl
@[push_cast] theorem a3 : wD prog 3 = true := by kernel_rfl
@[push_cast] theorem b3 : bytesOf prog 3 = 8 := by kernel_rfl
@[push_cast] theorem z3 : wM prog 3 = some ([.t (.v (.int .i64 0))]) := by kernel_rfl
@[push_cast] theorem u3 : prog.underlying 3 = some (.int .i64) := by kernel_rfl
@[push_cast] theorem c4 : prog.cellsOf 4 = 1 := by kernel_rfl
@[push_cast] theorem g4 : xP prog 4 = false := by kernel_rfl
@[push_cast] theorem s4 : (prog.underlying 4).isSome = true := by kernel_rfl
@[push_cast] theorem i4 : (prog.info? 4).isSome = true := by kernel_rfl
@[push_cast] theorem m4 : xI prog 4 = true := by kernel_rfl
@[push_cast] theorem a4 : wD prog 4 = true := by kernel_rfl
@[push_cast] theorem b4 : bytesOf prog 4 = 1 := by kernel_rfl
@[push_cast] theorem z4 : wM prog 4 = some ([.t (.v (.bool false))]) := by kernel_rfl
@[push_cast] theorem u4 : prog.underlying 4 = some .bool := by kernel_rfl
@[push_cast] theorem c5 : prog.cellsOf 5 = 1 := by kernel_rfl
@[push_cast] theorem g5 : xP prog 5 = false := by kernel_rfl
@[push_cast] theorem s5 : (prog.underlying 5).isSome = true := by kernel_rfl
@[push_cast] theorem i5 : (prog.info? 5).isSome = true := by kernel_rfl
@[push_cast] theorem m5 : xI prog 5 = true := by kernel_rfl
@[push_cast] theorem a5 : wD prog 5 = true := by kernel_rfl
@[push_cast] theorem b5 : bytesOf prog 5 = 1 := by kernel_rfl
@[push_cast] theorem z5 : wM prog 5 = some ([.t (.v (.int .u8 0))]) := by kernel_rfl
@[push_cast] theorem u5 : prog.underlying 5 = some (.int .u8) := by kernel_rfl
@[push_cast] theorem c9 : prog.cellsOf 9 = 1 := by kernel_rfl
@[push_cast] theorem g9 : xP prog 9 = false := by kernel_rfl
@[push_cast] theorem s9 : (prog.underlying 9).isSome = true := by kernel_rfl
@[push_cast] theorem i9 : (prog.info? 9).isSome = true := by kernel_rfl
@[push_cast] theorem m9 : xI prog 9 = true := by kernel_rfl
@[push_cast] theorem a9 : wD prog 9 = true := by kernel_rfl
@[push_cast] theorem b9 : bytesOf prog 9 = 16 := by kernel_rfl
@[push_cast] theorem z9 : wM prog 9 = some ([.t (.v (.string ⟨#[]⟩))]) := by kernel_rfl
@[push_cast] theorem u9 : prog.underlying 9 = some .string := by kernel_rfl
@[push_cast] theorem c17 : prog.cellsOf 17 = 1 := by kernel_rfl
@[push_cast] theorem g17 : xP prog 17 = false := by kernel_rfl
@[push_cast] theorem s17 : (prog.underlying 17).isSome = true := by kernel_rfl
@[push_cast] theorem i17 : (prog.info? 17).isSome = true := by kernel_rfl
@[push_cast] theorem m17 : xI prog 17 = true := by kernel_rfl
@[push_cast] theorem a17 : wD prog 17 = true := by kernel_rfl
@[push_cast] theorem b17 : bytesOf prog 17 = 8 := by kernel_rfl
@[push_cast] theorem z17 : wM prog 17 = some ([.t (.v (.pointer none))]) := by kernel_rfl
@[push_cast] theorem c20 : prog.cellsOf 20 = 1 := by kernel_rfl
@[push_cast] theorem g20 : xP prog 20 = false := by kernel_rfl
@[push_cast] theorem s20 : (prog.underlying 20).isSome = true := by kernel_rfl
@[push_cast] theorem i20 : (prog.info? 20).isSome = true := by kernel_rfl
@[push_cast] theorem a20 : wD prog 20 = true := by kernel_rfl
@[push_cast] theorem b20 : bytesOf prog 20 = 16 := by kernel_rfl
@[push_cast] theorem z20 : wM prog 20 = some ([.t (.v .nilIface)]) := by kernel_rfl
@[push_cast] theorem u20 : prog.underlying 20 = some (.interface (prog.methodsAt 20)) := by kernel_rfl
@[push_cast] theorem c22 : prog.cellsOf 22 = 1 := by kernel_rfl
@[push_cast] theorem g22 : xP prog 22 = false := by kernel_rfl
@[push_cast] theorem s22 : (prog.underlying 22).isSome = true := by kernel_rfl
@[push_cast] theorem i22 : (prog.info? 22).isSome = true := by kernel_rfl
@[push_cast] theorem m22 : xI prog 22 = true := by kernel_rfl
@[push_cast] theorem a22 : wD prog 22 = true := by kernel_rfl
@[push_cast] theorem b22 : bytesOf prog 22 = 24 := by kernel_rfl
@[push_cast] theorem z22 : wM prog 22 = some ([.t (.v (.slice none 0 0))]) := by kernel_rfl
@[push_cast] theorem u22 : prog.underlying 22 = some (.slice 5) := by kernel_rfl
@[push_cast] theorem e22 : prog.elem 22 = 5 := by kernel_rfl
@[push_cast] theorem c25 : prog.cellsOf 25 = 1 := by kernel_rfl
@[push_cast] theorem g25 : xP prog 25 = false := by kernel_rfl
@[push_cast] theorem s25 : (prog.underlying 25).isSome = true := by kernel_rfl
@[push_cast] theorem i25 : (prog.info? 25).isSome = true := by kernel_rfl
@[push_cast] theorem m25 : xI prog 25 = true := by kernel_rfl
@[push_cast] theorem a25 : wD prog 25 = true := by kernel_rfl
@[push_cast] theorem b25 : bytesOf prog 25 = 24 := by kernel_rfl
@[push_cast] theorem z25 : wM prog 25 = some ([.t (.v (.slice none 0 0))]) := by kernel_rfl
@[push_cast] theorem u25 : prog.underlying 25 = some (.slice 39) := by kernel_rfl
@[push_cast] theorem e25 : prog.elem 25 = 39 := by kernel_rfl
@[push_cast] theorem c27 : prog.cellsOf 27 = 1 := by kernel_rfl
@[push_cast] theorem g27 : xP prog 27 = false := by kernel_rfl
@[push_cast] theorem s27 : (prog.underlying 27).isSome = true := by kernel_rfl
@[push_cast] theorem i27 : (prog.info? 27).isSome = true := by kernel_rfl
@[push_cast] theorem m27 : xI prog 27 = true := by kernel_rfl
@[push_cast] theorem a27 : wD prog 27 = true := by kernel_rfl
@[push_cast] theorem b27 : bytesOf prog 27 = 24 := by kernel_rfl
@[push_cast] theorem z27 : wM prog 27 = some ([.t (.v (.slice none 0 0))]) := by kernel_rfl
@[push_cast] theorem u27 : prog.underlying 27 = some (.slice 76) := by kernel_rfl
@[push_cast] theorem e27 : prog.elem 27 = 76 := by kernel_rfl
@[push_cast] theorem c28 : prog.cellsOf 28 = 1 := by kernel_rfl
@[push_cast] theorem g28 : xP prog 28 = false := by kernel_rfl
@[push_cast] theorem s28 : (prog.underlying 28).isSome = true := by kernel_rfl
@[push_cast] theorem i28 : (prog.info? 28).isSome = true := by kernel_rfl
@[push_cast] theorem m28 : xI prog 28 = true := by kernel_rfl
@[push_cast] theorem a28 : wD prog 28 = true := by kernel_rfl
@[push_cast] theorem b28 : bytesOf prog 28 = 24 := by kernel_rfl
@[push_cast] theorem z28 : wM prog 28 = some ([.t (.v (.slice none 0 0))]) := by kernel_rfl
@[push_cast] theorem u28 : prog.underlying 28 = some (.slice 9) := by kernel_rfl
@[push_cast] theorem e28 : prog.elem 28 = 9 := by kernel_rfl
@[push_cast] theorem c29 : prog.cellsOf 29 = 1 := by kernel_rfl
@[push_cast] theorem g29 : xP prog 29 = false := by kernel_rfl
@[push_cast] theorem s29 : (prog.underlying 29).isSome = true := by kernel_rfl
@[push_cast] theorem i29 : (prog.info? 29).isSome = true := by kernel_rfl
@[push_cast] theorem m29 : xI prog 29 = true := by kernel_rfl
@[push_cast] theorem a29 : wD prog 29 = true := by kernel_rfl
@[push_cast] theorem b29 : bytesOf prog 29 = 24 := by kernel_rfl
@[push_cast] theorem z29 : wM prog 29 = some ([.t (.v (.slice none 0 0))]) := by kernel_rfl
@[push_cast] theorem u29 : prog.underlying 29 = some (.slice 3) := by kernel_rfl
@[push_cast] theorem e29 : prog.elem 29 = 3 := by kernel_rfl
@[push_cast] theorem c31 : prog.cellsOf 31 = 5 := by kernel_rfl
@[push_cast] theorem g31 : xP prog 31 = true := by kernel_rfl
@[push_cast] theorem s31 : (prog.underlying 31).isSome = true := by kernel_rfl
@[push_cast] theorem i31 : (prog.info? 31).isSome = true := by kernel_rfl
@[push_cast] theorem m31 : xI prog 31 = true := by kernel_rfl
@[push_cast] theorem a31 : wD prog 31 = true := by kernel_rfl
@[push_cast] theorem b31 : bytesOf prog 31 = 96 := by kernel_rfl
@[push_cast] theorem z31 : wM prog 31 = some ([.t (.v (.slice none 0 0)), .t (.v (.slice none 0 0)), .t (.v (.string ⟨#[]⟩)), .t (.v (.int .i64 0)), .t (.v (.slice none 0 0))]) := by kernel_rfl
@[push_cast] theorem f31_0 : wB prog 31 0 = some (0, 1, 27) := by kernel_rfl
@[push_cast] theorem q31_0 : placeOf prog 31 0 = some (0, 1) := by kernel_rfl
@[push_cast] theorem f31_1 : wB prog 31 1 = some (1, 1, 28) := by kernel_rfl
@[push_cast] theorem q31_1 : placeOf prog 31 1 = some (1, 1) := by kernel_rfl
@[push_cast] theorem f31_2 : wB prog 31 2 = some (2, 1, 9) := by kernel_rfl
@[push_cast] theorem q31_2 : placeOf prog 31 2 = some (2, 1) := by kernel_rfl
@[push_cast] theorem f31_3 : wB prog 31 3 = some (3, 1, 3) := by kernel_rfl
@[push_cast] theorem q31_3 : placeOf prog 31 3 = some (3, 1) := by kernel_rfl
@[push_cast] theorem f31_4 : wB prog 31 4 = some (4, 1, 29) := by kernel_rfl
@[push_cast] theorem q31_4 : placeOf prog 31 4 = some (4, 1) := by kernel_rfl
@[push_cast] theorem p31 : wO prog 31 = true := by kernel_rfl
@[push_cast] theorem c37 : prog.cellsOf 37 = 1 := by kernel_rfl
@[push_cast] theorem g37 : xP prog 37 = false := by kernel_rfl
@[push_cast] theorem s37 : (prog.underlying 37).isSome = true := by kernel_rfl
@[push_cast] theorem i37 : (prog.info? 37).isSome = true := by kernel_rfl
@[push_cast] theorem m37 : xI prog 37 = true := by kernel_rfl
@[push_cast] theorem a37 : wD prog 37 = true := by kernel_rfl
@[push_cast] theorem b37 : bytesOf prog 37 = 24 := by kernel_rfl
@[push_cast] theorem z37 : wM prog 37 = some ([.t (.v (.slice none 0 0))]) := by kernel_rfl
@[push_cast] theorem u37 : prog.underlying 37 = some (.slice 100) := by kernel_rfl
@[push_cast] theorem e37 : prog.elem 37 = 100 := by kernel_rfl
@[push_cast] theorem c39 : prog.cellsOf 39 = 6 := by kernel_rfl
@[push_cast] theorem g39 : xP prog 39 = true := by kernel_rfl
@[push_cast] theorem s39 : (prog.underlying 39).isSome = true := by kernel_rfl
@[push_cast] theorem i39 : (prog.info? 39).isSome = true := by kernel_rfl
@[push_cast] theorem m39 : xI prog 39 = true := by kernel_rfl
@[push_cast] theorem a39 : wD prog 39 = true := by kernel_rfl
@[push_cast] theorem b39 : bytesOf prog 39 = 80 := by kernel_rfl
@[push_cast] theorem z39 : wM prog 39 = some ([.t (.v (.int .i64 0)), .t (.v (.string ⟨#[]⟩)), .t (.v (.int .i64 0)), .t (.v (.int .i64 0)), .t (.v (.slice none 0 0)), .t (.v (.string ⟨#[]⟩))]) := by kernel_rfl
@[push_cast] theorem f39_0 : wB prog 39 0 = some (0, 1, 3) := by kernel_rfl
@[push_cast] theorem q39_0 : placeOf prog 39 0 = some (0, 1) := by kernel_rfl
@[push_cast] theorem f39_1 : wB prog 39 1 = some (1, 1, 9) := by kernel_rfl
@[push_cast] theorem q39_1 : placeOf prog 39 1 = some (1, 1) := by kernel_rfl
@[push_cast] theorem f39_2 : wB prog 39 2 = some (2, 1, 3) := by kernel_rfl
@[push_cast] theorem q39_2 : placeOf prog 39 2 = some (2, 1) := by kernel_rfl
@[push_cast] theorem f39_3 : wB prog 39 3 = some (3, 1, 3) := by kernel_rfl
@[push_cast] theorem q39_3 : placeOf prog 39 3 = some (3, 1) := by kernel_rfl
@[push_cast] theorem f39_4 : wB prog 39 4 = some (4, 1, 37) := by kernel_rfl
@[push_cast] theorem q39_4 : placeOf prog 39 4 = some (4, 1) := by kernel_rfl
@[push_cast] theorem f39_5 : wB prog 39 5 = some (5, 1, 9) := by kernel_rfl
@[push_cast] theorem q39_5 : placeOf prog 39 5 = some (5, 1) := by kernel_rfl
@[push_cast] theorem p39 : wO prog 39 = true := by kernel_rfl
@[push_cast] theorem c41 : prog.cellsOf 41 = 4 := by kernel_rfl
@[push_cast] theorem g41 : xP prog 41 = true := by kernel_rfl
@[push_cast] theorem s41 : (prog.underlying 41).isSome = true := by kernel_rfl
@[push_cast] theorem i41 : (prog.info? 41).isSome = true := by kernel_rfl
@[push_cast] theorem m41 : xI prog 41 = true := by kernel_rfl
@[push_cast] theorem a41 : wD prog 41 = true := by kernel_rfl
@[push_cast] theorem b41 : bytesOf prog 41 = 40 := by kernel_rfl
@[push_cast] theorem z41 : wM prog 41 = some ([.t (.v (.int .i64 0)), .t (.v (.int .i64 0)), .t (.v (.int .i64 0)), .t (.v (.string ⟨#[]⟩))]) := by kernel_rfl
@[push_cast] theorem f41_0 : wB prog 41 0 = some (0, 1, 3) := by kernel_rfl
@[push_cast] theorem q41_0 : placeOf prog 41 0 = some (0, 1) := by kernel_rfl
@[push_cast] theorem f41_1 : wB prog 41 1 = some (1, 1, 3) := by kernel_rfl
@[push_cast] theorem q41_1 : placeOf prog 41 1 = some (1, 1) := by kernel_rfl
@[push_cast] theorem f41_2 : wB prog 41 2 = some (2, 1, 3) := by kernel_rfl
@[push_cast] theorem q41_2 : placeOf prog 41 2 = some (2, 1) := by kernel_rfl
@[push_cast] theorem f41_3 : wB prog 41 3 = some (3, 1, 9) := by kernel_rfl
@[push_cast] theorem q41_3 : placeOf prog 41 3 = some (3, 1) := by kernel_rfl
@[push_cast] theorem p41 : wO prog 41 = true := by kernel_rfl
@[push_cast] theorem c42 : prog.cellsOf 42 = 1 := by kernel_rfl
@[push_cast] theorem g42 : xP prog 42 = false := by kernel_rfl
@[push_cast] theorem s42 : (prog.underlying 42).isSome = true := by kernel_rfl
@[push_cast] theorem i42 : (prog.info? 42).isSome = true := by kernel_rfl
@[push_cast] theorem m42 : xI prog 42 = true := by kernel_rfl
@[push_cast] theorem a42 : wD prog 42 = true := by kernel_rfl
@[push_cast] theorem b42 : bytesOf prog 42 = 8 := by kernel_rfl
@[push_cast] theorem z42 : wM prog 42 = some ([.t (.v (.int .i64 0))]) := by kernel_rfl
@[push_cast] theorem u42 : prog.underlying 42 = some (.int .i64) := by kernel_rfl
@[push_cast] theorem c44 : prog.cellsOf 44 = 4 := by kernel_rfl
@[push_cast] theorem g44 : xP prog 44 = true := by kernel_rfl
@[push_cast] theorem s44 : (prog.underlying 44).isSome = true := by kernel_rfl
@[push_cast] theorem i44 : (prog.info? 44).isSome = true := by kernel_rfl
@[push_cast] theorem m44 : xI prog 44 = true := by kernel_rfl
@[push_cast] theorem a44 : wD prog 44 = true := by kernel_rfl
@[push_cast] theorem b44 : bytesOf prog 44 = 48 := by kernel_rfl
@[push_cast] theorem z44 : wM prog 44 = some ([.t (.v (.int .i64 0)), .t (.v (.int .i64 0)), .t (.v (.int .i64 0)), .t (.v (.slice none 0 0))]) := by kernel_rfl
@[push_cast] theorem f44_0 : wB prog 44 0 = some (0, 1, 3) := by kernel_rfl
@[push_cast] theorem q44_0 : placeOf prog 44 0 = some (0, 1) := by kernel_rfl
@[push_cast] theorem f44_1 : wB prog 44 1 = some (1, 1, 42) := by kernel_rfl
@[push_cast] theorem q44_1 : placeOf prog 44 1 = some (1, 1) := by kernel_rfl
@[push_cast] theorem f44_2 : wB prog 44 2 = some (2, 1, 3) := by kernel_rfl
@[push_cast] theorem q44_2 : placeOf prog 44 2 = some (2, 1) := by kernel_rfl
@[push_cast] theorem f44_3 : wB prog 44 3 = some (3, 1, 28) := by kernel_rfl
@[push_cast] theorem q44_3 : placeOf prog 44 3 = some (3, 1) := by kernel_rfl
@[push_cast] theorem p44 : wO prog 44 = true := by kernel_rfl
@[push_cast] theorem c46 : prog.cellsOf 46 = 5 := by kernel_rfl
@[push_cast] theorem g46 : xP prog 46 = true := by kernel_rfl
@[push_cast] theorem s46 : (prog.underlying 46).isSome = true := by kernel_rfl
@[push_cast] theorem i46 : (prog.info? 46).isSome = true := by kernel_rfl
@[push_cast] theorem m46 : xI prog 46 = true := by kernel_rfl
@[push_cast] theorem a46 : wD prog 46 = true := by kernel_rfl
@[push_cast] theorem b46 : bytesOf prog 46 = 56 := by kernel_rfl
@[push_cast] theorem z46 : wM prog 46 = some ([.t (.v (.int .i64 0)), .t (.v (.int .i64 0)), .t (.v (.int .i64 0)), .t (.v (.slice none 0 0)), .t (.v (.bool false))]) := by kernel_rfl
@[push_cast] theorem f46_0 : wB prog 46 0 = some (0, 4, 44) := by kernel_rfl
@[push_cast] theorem q46_0 : placeOf prog 46 0 = some (0, 4) := by kernel_rfl
@[push_cast] theorem f46_1 : wB prog 46 1 = some (4, 1, 4) := by kernel_rfl
@[push_cast] theorem q46_1 : placeOf prog 46 1 = some (4, 1) := by kernel_rfl
@[push_cast] theorem p46 : wO prog 46 = true := by kernel_rfl
@[push_cast] theorem c73 : prog.cellsOf 73 = 7 := by kernel_rfl
@[push_cast] theorem g73 : xP prog 73 = true := by kernel_rfl
@[push_cast] theorem s73 : (prog.underlying 73).isSome = true := by kernel_rfl
@[push_cast] theorem i73 : (prog.info? 73).isSome = true := by kernel_rfl
@[push_cast] theorem m73 : xI prog 73 = true := by kernel_rfl
@[push_cast] theorem a73 : wD prog 73 = true := by kernel_rfl
@[push_cast] theorem b73 : bytesOf prog 73 = 88 := by kernel_rfl
@[push_cast] theorem z73 : wM prog 73 = some ([.t (.v (.int .i64 0)), .t (.v (.string ⟨#[]⟩)), .t (.v (.int .i64 0)), .t (.v (.int .i64 0)), .t (.v (.slice none 0 0)), .t (.v (.string ⟨#[]⟩)), .t (.v (.int .i64 0))]) := by kernel_rfl
@[push_cast] theorem f73_0 : wB prog 73 0 = some (0, 6, 39) := by kernel_rfl
@[push_cast] theorem q73_0 : placeOf prog 73 0 = some (0, 6) := by kernel_rfl
@[push_cast] theorem f73_1 : wB prog 73 1 = some (6, 1, 3) := by kernel_rfl
@[push_cast] theorem q73_1 : placeOf prog 73 1 = some (6, 1) := by kernel_rfl
@[push_cast] theorem p73 : wO prog 73 = true := by kernel_rfl
@[push_cast] theorem c76 : prog.cellsOf 76 = 2 := by kernel_rfl
@[push_cast] theorem g76 : xP prog 76 = true := by kernel_rfl
@[push_cast] theorem s76 : (prog.underlying 76).isSome = true := by kernel_rfl
@[push_cast] theorem i76 : (prog.info? 76).isSome = true := by kernel_rfl
@[push_cast] theorem m76 : xI prog 76 = true := by kernel_rfl
@[push_cast] theorem a76 : wD prog 76 = true := by kernel_rfl
@[push_cast] theorem b76 : bytesOf prog 76 = 32 := by kernel_rfl
@[push_cast] theorem z76 : wM prog 76 = some ([.t (.v (.int .i64 0)), .t (.v (.slice none 0 0))]) := by kernel_rfl
@[push_cast] theorem f76_0 : wB prog 76 0 = some (0, 1, 3) := by kernel_rfl
@[push_cast] theorem q76_0 : placeOf prog 76 0 = some (0, 1) := by kernel_rfl
@[push_cast] theorem f76_1 : wB prog 76 1 = some (1, 1, 28) := by kernel_rfl
@[push_cast] theorem q76_1 : placeOf prog 76 1 = some (1, 1) := by kernel_rfl
@[push_cast] theorem p76 : wO prog 76 = true := by kernel_rfl
@[push_cast] theorem c81 : prog.cellsOf 81 = 1 := by kernel_rfl
@[push_cast] theorem g81 : xP prog 81 = false := by kernel_rfl
@[push_cast] theorem s81 : (prog.underlying 81).isSome = true := by kernel_rfl
@[push_cast] theorem i81 : (prog.info? 81).isSome = true := by kernel_rfl
@[push_cast] theorem a81 : wD prog 81 = true := by kernel_rfl
@[push_cast] theorem b81 : bytesOf prog 81 = 16 := by kernel_rfl
@[push_cast] theorem z81 : wM prog 81 = some ([.t (.v .nilIface)]) := by kernel_rfl
@[push_cast] theorem u81 : prog.underlying 81 = some (.interface (prog.methodsAt 81)) := by kernel_rfl
@[push_cast] theorem c83 : prog.cellsOf 83 = 1 := by kernel_rfl
@[push_cast] theorem g83 : xP prog 83 = false := by kernel_rfl
@[push_cast] theorem s83 : (prog.underlying 83).isSome = true := by kernel_rfl
@[push_cast] theorem i83 : (prog.info? 83).isSome = true := by kernel_rfl
@[push_cast] theorem m83 : xI prog 83 = true := by kernel_rfl
@[push_cast] theorem a83 : wD prog 83 = true := by kernel_rfl
@[push_cast] theorem b83 : bytesOf prog 83 = 8 := by kernel_rfl
@[push_cast] theorem z83 : wM prog 83 = some ([.t (.v (.pointer none))]) := by kernel_rfl
@[push_cast] theorem c84 : prog.cellsOf 84 = 1 := by kernel_rfl
@[push_cast] theorem g84 : xP prog 84 = false := by kernel_rfl
@[push_cast] theorem s84 : (prog.underlying 84).isSome = true := by kernel_rfl
@[push_cast] theorem i84 : (prog.info? 84).isSome = true := by kernel_rfl
@[push_cast] theorem m84 : xI prog 84 = true := by kernel_rfl
@[push_cast] theorem a84 : wD prog 84 = true := by kernel_rfl
@[push_cast] theorem b84 : bytesOf prog 84 = 8 := by kernel_rfl
@[push_cast] theorem z84 : wM prog 84 = some ([.t (.v (.pointer none))]) := by kernel_rfl
@[push_cast] theorem c86 : prog.cellsOf 86 = 2 := by kernel_rfl
@[push_cast] theorem g86 : xP prog 86 = true := by kernel_rfl
@[push_cast] theorem s86 : (prog.underlying 86).isSome = true := by kernel_rfl
@[push_cast] theorem i86 : (prog.info? 86).isSome = true := by kernel_rfl
@[push_cast] theorem m86 : xI prog 86 = true := by kernel_rfl
@[push_cast] theorem a86 : wD prog 86 = true := by kernel_rfl
@[push_cast] theorem b86 : bytesOf prog 86 = 24 := by kernel_rfl
@[push_cast] theorem z86 : wM prog 86 = some ([.t (.v (.int .i64 0)), .t (.v .nilIface)]) := by kernel_rfl
@[push_cast] theorem f86_0 : wB prog 86 0 = some (0, 1, 3) := by kernel_rfl
@[push_cast] theorem q86_0 : placeOf prog 86 0 = some (0, 1) := by kernel_rfl
@[push_cast] theorem f86_1 : wB prog 86 1 = some (1, 1, 81) := by kernel_rfl
@[push_cast] theorem q86_1 : placeOf prog 86 1 = some (1, 1) := by kernel_rfl
@[push_cast] theorem p86 : wO prog 86 = true := by kernel_rfl
@[push_cast] theorem c88 : prog.cellsOf 88 = 1 := by kernel_rfl
@[push_cast] theorem g88 : xP prog 88 = true := by kernel_rfl
@[push_cast] theorem s88 : (prog.underlying 88).isSome = true := by kernel_rfl
@[push_cast] theorem i88 : (prog.info? 88).isSome = true := by kernel_rfl
@[push_cast] theorem m88 : xI prog 88 = true := by kernel_rfl
@[push_cast] theorem a88 : wD prog 88 = true := by kernel_rfl
@[push_cast] theorem b88 : bytesOf prog 88 = 8 := by kernel_rfl
@[push_cast] theorem z88 : wM prog 88 = some ([.t (.v (.int .i64 0))]) := by kernel_rfl
@[push_cast] theorem f88_0 : wB prog 88 0 = some (0, 1, 42) := by kernel_rfl
@[push_cast] theorem q88_0 : placeOf prog 88 0 = some (0, 1) := by kernel_rfl
@[push_cast] theorem p88 : wO prog 88 = true := by kernel_rfl
@[push_cast] theorem c90 : prog.cellsOf 90 = 1 := by kernel_rfl
@[push_cast] theorem g90 : xP prog 90 = false := by kernel_rfl
@[push_cast] theorem s90 : (prog.underlying 90).isSome = true := by kernel_rfl
@[push_cast] theorem i90 : (prog.info? 90).isSome = true := by kernel_rfl
@[push_cast] theorem m90 : xI prog 90 = true := by kernel_rfl
@[push_cast] theorem a90 : wD prog 90 = true := by kernel_rfl
@[push_cast] theorem b90 : bytesOf prog 90 = 8 := by kernel_rfl
@[push_cast] theorem z90 : wM prog 90 = some ([.t (.v (.pointer none))]) := by kernel_rfl
@[push_cast] theorem c92 : prog.cellsOf 92 = 1 := by kernel_rfl
@[push_cast] theorem g92 : xP prog 92 = false := by kernel_rfl
@[push_cast] theorem s92 : (prog.underlying 92).isSome = true := by kernel_rfl
@[push_cast] theorem i92 : (prog.info? 92).isSome = true := by kernel_rfl
@[push_cast] theorem m92 : xI prog 92 = true := by kernel_rfl
@[push_cast] theorem a92 : wD prog 92 = true := by kernel_rfl
@[push_cast] theorem b92 : bytesOf prog 92 = 24 := by kernel_rfl
@[push_cast] theorem z92 : wM prog 92 = some ([.t (.v (.slice none 0 0))]) := by kernel_rfl
@[push_cast] theorem u92 : prog.underlying 92 = some (.slice 94) := by kernel_rfl
@[push_cast] theorem e92 : prog.elem 92 = 94 := by kernel_rfl
@[push_cast] theorem c94 : prog.cellsOf 94 = 4 := by kernel_rfl
@[push_cast] theorem g94 : xP prog 94 = true := by kernel_rfl
@[push_cast] theorem s94 : (prog.underlying 94).isSome = true := by kernel_rfl
@[push_cast] theorem i94 : (prog.info? 94).isSome = true := by kernel_rfl
@[push_cast] theorem m94 : xI prog 94 = true := by kernel_rfl
@[push_cast] theorem a94 : wD prog 94 = true := by kernel_rfl
@[push_cast] theorem b94 : bytesOf prog 94 = 56 := by kernel_rfl
@[push_cast] theorem z94 : wM prog 94 = some ([.t (.v (.int .i64 0)), .t (.v (.int .i64 0)), .t (.v (.string ⟨#[]⟩)), .t (.v (.slice none 0 0))]) := by kernel_rfl
@[push_cast] theorem f94_0 : wB prog 94 0 = some (0, 1, 3) := by kernel_rfl
@[push_cast] theorem q94_0 : placeOf prog 94 0 = some (0, 1) := by kernel_rfl
@[push_cast] theorem f94_1 : wB prog 94 1 = some (1, 1, 3) := by kernel_rfl
@[push_cast] theorem q94_1 : placeOf prog 94 1 = some (1, 1) := by kernel_rfl
@[push_cast] theorem f94_2 : wB prog 94 2 = some (2, 1, 9) := by kernel_rfl
@[push_cast] theorem q94_2 : placeOf prog 94 2 = some (2, 1) := by kernel_rfl
@[push_cast] theorem f94_3 : wB prog 94 3 = some (3, 1, 92) := by kernel_rfl
@[push_cast] theorem q94_3 : placeOf prog 94 3 = some (3, 1) := by kernel_rfl
@[push_cast] theorem p94 : wO prog 94 = true := by kernel_rfl
@[push_cast] theorem c100 : prog.cellsOf 100 = 2 := by kernel_rfl
@[push_cast] theorem g100 : xP prog 100 = true := by kernel_rfl
@[push_cast] theorem s100 : (prog.underlying 100).isSome = true := by kernel_rfl
@[push_cast] theorem i100 : (prog.info? 100).isSome = true := by kernel_rfl
@[push_cast] theorem m100 : xI prog 100 = true := by kernel_rfl
@[push_cast] theorem a100 : wD prog 100 = true := by kernel_rfl
@[push_cast] theorem b100 : bytesOf prog 100 = 24 := by kernel_rfl
@[push_cast] theorem z100 : wM prog 100 = some ([.t (.v (.int .i64 0)), .t (.v (.string ⟨#[]⟩))]) := by kernel_rfl
@[push_cast] theorem f100_0 : wB prog 100 0 = some (0, 1, 3) := by kernel_rfl
@[push_cast] theorem q100_0 : placeOf prog 100 0 = some (0, 1) := by kernel_rfl
@[push_cast] theorem f100_1 : wB prog 100 1 = some (1, 1, 9) := by kernel_rfl
@[push_cast] theorem q100_1 : placeOf prog 100 1 = some (1, 1) := by kernel_rfl
@[push_cast] theorem p100 : wO prog 100 = true := by kernel_rfl
@[push_cast] theorem c102 : prog.cellsOf 102 = 5 := by kernel_rfl
@[push_cast] theorem g102 : xP prog 102 = true := by kernel_rfl
@[push_cast] theorem s102 : (prog.underlying 102).isSome = true := by kernel_rfl
@[push_cast] theorem i102 : (prog.info? 102).isSome = true := by kernel_rfl
@[push_cast] theorem m102 : xI prog 102 = true := by kernel_rfl
@[push_cast] theorem a102 : wD prog 102 = true := by kernel_rfl
@[push_cast] theorem b102 : bytesOf prog 102 = 64 := by kernel_rfl
@[push_cast] theorem z102 : wM prog 102 = some ([.t (.v (.int .i64 0)), .t (.v (.int .i64 0)), .t (.v (.string ⟨#[]⟩)), .t (.v (.slice none 0 0)), .t (.v (.bool false))]) := by kernel_rfl
@[push_cast] theorem f102_0 : wB prog 102 0 = some (0, 4, 94) := by kernel_rfl
@[push_cast] theorem q102_0 : placeOf prog 102 0 = some (0, 4) := by kernel_rfl
@[push_cast] theorem f102_1 : wB prog 102 1 = some (4, 1, 4) := by kernel_rfl
@[push_cast] theorem q102_1 : placeOf prog 102 1 = some (4, 1) := by kernel_rfl
@[push_cast] theorem p102 : wO prog 102 = true := by kernel_rfl
@[push_cast] theorem c106 : prog.cellsOf 106 = 1 := by kernel_rfl
@[push_cast] theorem g106 : xP prog 106 = false := by kernel_rfl
@[push_cast] theorem s106 : (prog.underlying 106).isSome = true := by kernel_rfl
@[push_cast] theorem i106 : (prog.info? 106).isSome = true := by kernel_rfl
@[push_cast] theorem m106 : xI prog 106 = true := by kernel_rfl
@[push_cast] theorem a106 : wD prog 106 = true := by kernel_rfl
@[push_cast] theorem b106 : bytesOf prog 106 = 8 := by kernel_rfl
@[push_cast] theorem z106 : wM prog 106 = some ([.t (.v (.int .u64 0))]) := by kernel_rfl
@[push_cast] theorem u106 : prog.underlying 106 = some (.int .u64) := by kernel_rfl
@[push_cast] theorem c111 : prog.cellsOf 111 = 5 := by kernel_rfl
@[push_cast] theorem g111 : xP prog 111 = true := by kernel_rfl
@[push_cast] theorem s111 : (prog.underlying 111).isSome = true := by kernel_rfl
@[push_cast] theorem i111 : (prog.info? 111).isSome = true := by kernel_rfl
@[push_cast] theorem m111 : xI prog 111 = true := by kernel_rfl
@[push_cast] theorem a111 : wD prog 111 = true := by kernel_rfl
@[push_cast] theorem b111 : bytesOf prog 111 = 48 := by kernel_rfl
@[push_cast] theorem z111 : wM prog 111 = some ([.t (.v (.int .i64 0)), .t (.v (.int .i64 0)), .t (.v (.int .i64 0)), .t (.v (.string ⟨#[]⟩)), .t (.v (.bool false))]) := by kernel_rfl
@[push_cast] theorem f111_0 : wB prog 111 0 = some (0, 4, 41) := by kernel_rfl
@[push_cast] theorem q111_0 : placeOf prog 111 0 = some (0, 4) := by kernel_rfl
@[push_cast] theorem f111_1 : wB prog 111 1 = some (4, 1, 4) := by kernel_rfl
@[push_cast] theorem q111_1 : placeOf prog 111 1 = some (4, 1) := by kernel_rfl
@[push_cast] theorem p111 : wO prog 111 = true := by kernel_rfl
@[push_cast] theorem c118 : prog.cellsOf 118 = 1 := by kernel_rfl
@[push_cast] theorem g118 : xP prog 118 = false := by kernel_rfl
@[push_cast] theorem s118 : (prog.underlying 118).isSome = true := by kernel_rfl
@[push_cast] theorem i118 : (prog.info? 118).isSome = true := by kernel_rfl
@[push_cast] theorem m118 : xI prog 118 = true := by kernel_rfl
@[push_cast] theorem a118 : wD prog 118 = true := by kernel_rfl
@[push_cast] theorem b118 : bytesOf prog 118 = 8 := by kernel_rfl
@[push_cast] theorem z118 : wM prog 118 = some ([.t (.v .nilFunc)]) := by kernel_rfl
@[push_cast] theorem c138 : prog.cellsOf 138 = 1 := by kernel_rfl
@[push_cast] theorem g138 : xP prog 138 = false := by kernel_rfl
@[push_cast] theorem s138 : (prog.underlying 138).isSome = true := by kernel_rfl
@[push_cast] theorem i138 : (prog.info? 138).isSome = true := by kernel_rfl
@[push_cast] theorem m138 : xI prog 138 = true := by kernel_rfl
@[push_cast] theorem a138 : wD prog 138 = true := by kernel_rfl
@[push_cast] theorem b138 : bytesOf prog 138 = 8 := by kernel_rfl
@[push_cast] theorem z138 : wM prog 138 = some ([.t (.v (.pointer none))]) := by kernel_rfl
@[push_cast] theorem c139 : prog.cellsOf 139 = 1 := by kernel_rfl
@[push_cast] theorem g139 : xP prog 139 = false := by kernel_rfl
@[push_cast] theorem s139 : (prog.underlying 139).isSome = true := by kernel_rfl
@[push_cast] theorem i139 : (prog.info? 139).isSome = true := by kernel_rfl
@[push_cast] theorem m139 : xI prog 139 = true := by kernel_rfl
@[push_cast] theorem a139 : wD prog 139 = true := by kernel_rfl
@[push_cast] theorem b139 : bytesOf prog 139 = 8 := by kernel_rfl
@[push_cast] theorem z139 : wM prog 139 = some ([.t (.v (.int .u64 0))]) := by kernel_rfl
@[push_cast] theorem u139 : prog.underlying 139 = some (.int .u64) := by kernel_rfl
@[push_cast] theorem c141 : prog.cellsOf 141 = 3 := by kernel_rfl
@[push_cast] theorem g141 : xP prog 141 = true := by kernel_rfl
@[push_cast] theorem s141 : (prog.underlying 141).isSome = true := by kernel_rfl
@[push_cast] theorem i141 : (prog.info? 141).isSome = true := by kernel_rfl
@[push_cast] theorem m141 : xI prog 141 = true := by kernel_rfl
@[push_cast] theorem a141 : wD prog 141 = true := by kernel_rfl
@[push_cast] theorem b141 : bytesOf prog 141 = 24 := by kernel_rfl
@[push_cast] theorem z141 : wM prog 141 = some ([.t (.v (.pointer none)), .t (.v (.pointer none)), .t (.v (.int .u64 0))]) := by kernel_rfl
@[push_cast] theorem f141_0 : wB prog 141 0 = some (0, 1, 17) := by kernel_rfl
@[push_cast] theorem q141_0 : placeOf prog 141 0 = some (0, 1) := by kernel_rfl
@[push_cast] theorem f141_1 : wB prog 141 1 = some (1, 1, 138) := by kernel_rfl
@[push_cast] theorem q141_1 : placeOf prog 141 1 = some (1, 1) := by kernel_rfl
@[push_cast] theorem f141_2 : wB prog 141 2 = some (2, 1, 139) := by kernel_rfl
@[push_cast] theorem q141_2 : placeOf prog 141 2 = some (2, 1) := by kernel_rfl
@[push_cast] theorem p141 : wO prog 141 = true := by kernel_rfl
@[push_cast] theorem c144 : prog.cellsOf 144 = 1 := by kernel_rfl
@[push_cast] theorem g144 : xP prog 144 = false := by kernel_rfl
@[push_cast] theorem s144 : (prog.underlying 144).isSome = true := by kernel_rfl
@[push_cast] theorem i144 : (prog.info? 144).isSome = true := by kernel_rfl
@[push_cast] theorem a144 : wD prog 144 = true := by kernel_rfl
@[push_cast] theorem b144 : bytesOf prog 144 = 16 := by kernel_rfl
@[push_cast] theorem z144 : wM prog 144 = some ([.t (.v .nilIface)]) := by kernel_rfl
@[push_cast] theorem u144 : prog.underlying 144 = some (.interface (prog.methodsAt 144)) := by kernel_rfl
@[push_cast] theorem c146 : prog.cellsOf 146 = 1 := by kernel_rfl
@[push_cast] theorem g146 : xP prog 146 = false := by kernel_rfl
@[push_cast] theorem s146 : (prog.underlying 146).isSome = true := by kernel_rfl
@[push_cast] theorem i146 : (prog.info? 146).isSome = true := by kernel_rfl
@[push_cast] theorem m146 : xI prog 146 = true := by kernel_rfl
@[push_cast] theorem a146 : wD prog 146 = true := by kernel_rfl
@[push_cast] theorem b146 : bytesOf prog 146 = 1 := by kernel_rfl
@[push_cast] theorem z146 : wM prog 146 = some ([.t (.v (.int .u8 0))]) := by kernel_rfl
@[push_cast] theorem u146 : prog.underlying 146 = some (.int .u8) := by kernel_rfl
@[push_cast] theorem c150 : prog.cellsOf 150 = 1 := by kernel_rfl
@[push_cast] theorem g150 : xP prog 150 = false := by kernel_rfl
@[push_cast] theorem s150 : (prog.underlying 150).isSome = true := by kernel_rfl
@[push_cast] theorem i150 : (prog.info? 150).isSome = true := by kernel_rfl
@[push_cast] theorem m150 : xI prog 150 = true := by kernel_rfl
@[push_cast] theorem a150 : wD prog 150 = true := by kernel_rfl
@[push_cast] theorem b150 : bytesOf prog 150 = 8 := by kernel_rfl
@[push_cast] theorem z150 : wM prog 150 = some ([.t (.v .nilFunc)]) := by kernel_rfl
@[push_cast] theorem c153 : prog.cellsOf 153 = 5 := by kernel_rfl
@[push_cast] theorem g153 : xP prog 153 = true := by kernel_rfl
@[push_cast] theorem s153 : (prog.underlying 153).isSome = true := by kernel_rfl
@[push_cast] theorem i153 : (prog.info? 153).isSome = true := by kernel_rfl
@[push_cast] theorem m153 : xI prog 153 = true := by kernel_rfl
@[push_cast] theorem a153 : wD prog 153 = true := by kernel_rfl
@[push_cast] theorem b153 : bytesOf prog 153 = 64 := by kernel_rfl
@[push_cast] theorem z153 : wM prog 153 = some ([.t (.v (.int .i64 0)), .t (.v (.int .i64 0)), .t (.v (.string ⟨#[]⟩)), .t (.v (.slice none 0 0)), .t (.v (.int .i64 0))]) := by kernel_rfl
@[push_cast] theorem f153_0 : wB prog 153 0 = some (0, 4, 94) := by kernel_rfl
@[push_cast] theorem q153_0 : placeOf prog 153 0 = some (0, 4) := by kernel_rfl
@[push_cast] theorem f153_1 : wB prog 153 1 = some (4, 1, 3) := by kernel_rfl
@[push_cast] theorem q153_1 : placeOf prog 153 1 = some (4, 1) := by kernel_rfl
@[push_cast] theorem p153 : wO prog 153 = true := by kernel_rfl
@[push_cast] theorem c165 : prog.cellsOf 165 = 1 := by kernel_rfl
@[push_cast] theorem g165 : xP prog 165 = false := by kernel_rfl
@[push_cast] theorem s165 : (prog.underlying 165).isSome = true := by kernel_rfl
@[push_cast] theorem i165 : (prog.info? 165).isSome = true := by kernel_rfl
@[push_cast] theorem m165 : xI prog 165 = true := by kernel_rfl
@[push_cast] theorem a165 : wD prog 165 = true := by kernel_rfl
@[push_cast] theorem b165 : bytesOf prog 165 = 8 := by kernel_rfl
@[push_cast] theorem z165 : wM prog 165 = some ([.t (.v (.pointer none))]) := by kernel_rfl
@[push_cast] theorem c167 : prog.cellsOf 167 = 1 := by kernel_rfl
@[push_cast] theorem g167 : xP prog 167 = true := by kernel_rfl
@[push_cast] theorem s167 : (prog.underlying 167).isSome = true := by kernel_rfl
@[push_cast] theorem i167 : (prog.info? 167).isSome = true := by kernel_rfl
@[push_cast] theorem m167 : xI prog 167 = true := by kernel_rfl
@[push_cast] theorem a167 : wD prog 167 = true := by kernel_rfl
@[push_cast] theorem b167 : bytesOf prog 167 = 16 := by kernel_rfl
@[push_cast] theorem z167 : wM prog 167 = some ([.t (.v (.string ⟨#[]⟩))]) := by kernel_rfl
@[push_cast] theorem f167_0 : wB prog 167 0 = some (0, 1, 9) := by kernel_rfl
@[push_cast] theorem q167_0 : placeOf prog 167 0 = some (0, 1) := by kernel_rfl
@[push_cast] theorem p167 : wO prog 167 = true := by kernel_rfl
@[push_cast] theorem c170 : prog.cellsOf 170 = 1 := by kernel_rfl
@[push_cast] theorem g170 : xP prog 170 = false := by kernel_rfl
@[push_cast] theorem s170 : (prog.underlying 170).isSome = true := by kernel_rfl
@[push_cast] theorem i170 : (prog.info? 170).isSome = true := by kernel_rfl
@[push_cast] theorem m170 : xI prog 170 = true := by kernel_rfl
@[push_cast] theorem a170 : wD prog 170 = true := by kernel_rfl
@[push_cast] theorem b170 : bytesOf prog 170 = 16 := by kernel_rfl
@[push_cast] theorem z170 : wM prog 170 = some ([.t (.v (.string ⟨#[]⟩))]) := by kernel_rfl
@[push_cast] theorem u170 : prog.underlying 170 = some .string := by kernel_rfl
@[push_cast] theorem c171 : prog.cellsOf 171 = 1 := by kernel_rfl
@[push_cast] theorem g171 : xP prog 171 = false := by kernel_rfl
@[push_cast] theorem s171 : (prog.underlying 171).isSome = true := by kernel_rfl
@[push_cast] theorem i171 : (prog.info? 171).isSome = true := by kernel_rfl
@[push_cast] theorem m171 : xI prog 171 = true := by kernel_rfl
@[push_cast] theorem a171 : wD prog 171 = true := by kernel_rfl
@[push_cast] theorem b171 : bytesOf prog 171 = 8 := by kernel_rfl
@[push_cast] theorem z171 : wM prog 171 = some ([.t (.v (.pointer none))]) := by kernel_rfl
@[push_cast] theorem c179 : prog.cellsOf 179 = 1 := by kernel_rfl
@[push_cast] theorem g179 : xP prog 179 = false := by kernel_rfl
@[push_cast] theorem s179 : (prog.underlying 179).isSome = true := by kernel_rfl
@[push_cast] theorem i179 : (prog.info? 179).isSome = true := by kernel_rfl
@[push_cast] theorem m179 : xI prog 179 = true := by kernel_rfl
@[push_cast] theorem a179 : wD prog 179 = true := by kernel_rfl
@[push_cast] theorem b179 : bytesOf prog 179 = 16 := by kernel_rfl
@[push_cast] theorem z179 : wM prog 179 = some ([.t (.v (.string ⟨#[]⟩))]) := by kernel_rfl
@[push_cast] theorem u179 : prog.underlying 179 = some .string := by kernel_rfl
@[push_cast] theorem c181 : prog.cellsOf 181 = 2 := by kernel_rfl
@[push_cast] theorem g181 : xP prog 181 = true := by kernel_rfl
@[push_cast] theorem s181 : (prog.underlying 181).isSome = true := by kernel_rfl
@[push_cast] theorem i181 : (prog.info? 181).isSome = true := by kernel_rfl
@[push_cast] theorem m181 : xI prog 181 = true := by kernel_rfl
@[push_cast] theorem a181 : wD prog 181 = true := by kernel_rfl
@[push_cast] theorem b181 : bytesOf prog 181 = 32 := by kernel_rfl
@[push_cast] theorem z181 : wM prog 181 = some ([.t (.v (.string ⟨#[]⟩)), .t (.v .nilIface)]) := by kernel_rfl
@[push_cast] theorem f181_0 : wB prog 181 0 = some (0, 1, 9) := by kernel_rfl
@[push_cast] theorem q181_0 : placeOf prog 181 0 = some (0, 1) := by kernel_rfl
@[push_cast] theorem f181_1 : wB prog 181 1 = some (1, 1, 81) := by kernel_rfl
@[push_cast] theorem q181_1 : placeOf prog 181 1 = some (1, 1) := by kernel_rfl
@[push_cast] theorem p181 : wO prog 181 = true := by kernel_rfl
@[push_cast] theorem c188 : prog.cellsOf 188 = 1 := by kernel_rfl
@[push_cast] theorem g188 : xP prog 188 = true := by kernel_rfl
@[push_cast] theorem s188 : (prog.underlying 188).isSome = true := by kernel_rfl
@[push_cast] theorem i188 : (prog.info? 188).isSome = true := by kernel_rfl
@[push_cast] theorem m188 : xI prog 188 = true := by kernel_rfl
@[push_cast] theorem a188 : wD prog 188 = true := by kernel_rfl
@[push_cast] theorem b188 : bytesOf prog 188 = 8 := by kernel_rfl
@[push_cast] theorem z188 : wM prog 188 = some ([.t (.v (.pointer none))]) := by kernel_rfl
@[push_cast] theorem f188_0 : wB prog 188 0 = some (0, 1, 17) := by kernel_rfl
@[push_cast] theorem q188_0 : placeOf prog 188 0 = some (0, 1) := by kernel_rfl
@[push_cast] theorem p188 : wO prog 188 = true := by kernel_rfl
@[push_cast] theorem c193 : prog.cellsOf 193 = 1 := by kernel_rfl
@[push_cast] theorem g193 : xP prog 193 = false := by kernel_rfl
@[push_cast] theorem s193 : (prog.underlying 193).isSome = true := by kernel_rfl
@[push_cast] theorem i193 : (prog.info? 193).isSome = true := by kernel_rfl
@[push_cast] theorem a193 : wD prog 193 = true := by kernel_rfl
@[push_cast] theorem b193 : bytesOf prog 193 = 16 := by kernel_rfl
@[push_cast] theorem z193 : wM prog 193 = some ([.t (.v .nilIface)]) := by kernel_rfl
@[push_cast] theorem u193 : prog.underlying 193 = some (.interface (prog.methodsAt 193)) := by kernel_rfl
@[push_cast] theorem c196 : prog.cellsOf 196 = 1 := by kernel_rfl
@[push_cast] theorem g196 : xP prog 196 = false := by kernel_rfl
@[push_cast] theorem s196 : (prog.underlying 196).isSome = true := by kernel_rfl
@[push_cast] theorem i196 : (prog.info? 196).isSome = true := by kernel_rfl
@[push_cast] theorem a196 : wD prog 196 = true := by kernel_rfl
@[push_cast] theorem b196 : bytesOf prog 196 = 16 := by kernel_rfl
@[push_cast] theorem z196 : wM prog 196 = some ([.t (.v .nilIface)]) := by kernel_rfl
@[push_cast] theorem u196 : prog.underlying 196 = some (.interface (prog.methodsAt 196)) := by kernel_rfl
@[push_cast] theorem c198 : prog.cellsOf 198 = 1 := by kernel_rfl
@[push_cast] theorem g198 : xP prog 198 = false := by kernel_rfl
@[push_cast] theorem s198 : (prog.underlying 198).isSome = true := by kernel_rfl
@[push_cast] theorem i198 : (prog.info? 198).isSome = true := by kernel_rfl
@[push_cast] theorem a198 : wD prog 198 = true := by kernel_rfl
@[push_cast] theorem b198 : bytesOf prog 198 = 16 := by kernel_rfl
@[push_cast] theorem z198 : wM prog 198 = some ([.t (.v .nilIface)]) := by kernel_rfl
@[push_cast] theorem u198 : prog.underlying 198 = some (.interface (prog.methodsAt 198)) := by kernel_rfl
@[push_cast] theorem c199 : prog.cellsOf 199 = 1 := by kernel_rfl
@[push_cast] theorem g199 : xP prog 199 = false := by kernel_rfl
@[push_cast] theorem s199 : (prog.underlying 199).isSome = true := by kernel_rfl
@[push_cast] theorem i199 : (prog.info? 199).isSome = true := by kernel_rfl
@[push_cast] theorem m199 : xI prog 199 = true := by kernel_rfl
@[push_cast] theorem a199 : wD prog 199 = true := by kernel_rfl
@[push_cast] theorem b199 : bytesOf prog 199 = 24 := by kernel_rfl
@[push_cast] theorem z199 : wM prog 199 = some ([.t (.v (.slice none 0 0))]) := by kernel_rfl
@[push_cast] theorem u199 : prog.underlying 199 = some (.slice 81) := by kernel_rfl
@[push_cast] theorem e199 : prog.elem 199 = 81 := by kernel_rfl
@[push_cast] theorem c209 : prog.cellsOf 209 = 1 := by kernel_rfl
@[push_cast] theorem g209 : xP prog 209 = false := by kernel_rfl
@[push_cast] theorem s209 : (prog.underlying 209).isSome = true := by kernel_rfl
@[push_cast] theorem i209 : (prog.info? 209).isSome = true := by kernel_rfl
@[push_cast] theorem m209 : xI prog 209 = true := by kernel_rfl
@[push_cast] theorem a209 : wD prog 209 = true := by kernel_rfl
@[push_cast] theorem b209 : bytesOf prog 209 = 16 := by kernel_rfl
@[push_cast] theorem z209 : wM prog 209 = some ([.t (.v (.string ⟨#[]⟩))]) := by kernel_rfl
@[push_cast] theorem u209 : prog.underlying 209 = some .string := by kernel_rfl
@[push_cast] theorem c216 : prog.cellsOf 216 = 2 := by kernel_rfl
@[push_cast] theorem g216 : xP prog 216 = true := by kernel_rfl
@[push_cast] theorem s216 : (prog.underlying 216).isSome = true := by kernel_rfl
@[push_cast] theorem i216 : (prog.info? 216).isSome = true := by kernel_rfl
@[push_cast] theorem m216 : xI prog 216 = true := by kernel_rfl
@[push_cast] theorem a216 : wD prog 216 = true := by kernel_rfl
@[push_cast] theorem b216 : bytesOf prog 216 = 24 := by kernel_rfl
@[push_cast] theorem z216 : wM prog 216 = some ([.t (.v (.int .i64 0)), .t (.v .nilIface)]) := by kernel_rfl
@[push_cast] theorem f216_0 : wB prog 216 0 = some (0, 1, 3) := by kernel_rfl
@[push_cast] theorem q216_0 : placeOf prog 216 0 = some (0, 1) := by kernel_rfl
@[push_cast] theorem f216_1 : wB prog 216 1 = some (1, 1, 81) := by kernel_rfl
@[push_cast] theorem q216_1 : placeOf prog 216 1 = some (1, 1) := by kernel_rfl
@[push_cast] theorem p216 : wO prog 216 = true := by kernel_rfl
@[push_cast] theorem c219 : prog.cellsOf 219 = 1 := by kernel_rfl
@[push_cast] theorem g219 : xP prog 219 = false := by kernel_rfl
@[push_cast] theorem s219 : (prog.underlying 219).isSome = true := by kernel_rfl
@[push_cast] theorem i219 : (prog.info? 219).isSome = true := by kernel_rfl
@[push_cast] theorem m219 : xI prog 219 = true := by kernel_rfl
@[push_cast] theorem a219 : wD prog 219 = true := by kernel_rfl
@[push_cast] theorem b219 : bytesOf prog 219 = 4 := by kernel_rfl
@[push_cast] theorem z219 : wM prog 219 = some ([.t (.v (.int .u32 0))]) := by kernel_rfl
@[push_cast] theorem u219 : prog.underlying 219 = some (.int .u32) := by kernel_rfl
@[push_cast] theorem c220 : prog.cellsOf 220 = 1 := by kernel_rfl
@[push_cast] theorem g220 : xP prog 220 = false := by kernel_rfl
@[push_cast] theorem s220 : (prog.underlying 220).isSome = true := by kernel_rfl
@[push_cast] theorem i220 : (prog.info? 220).isSome = true := by kernel_rfl
@[push_cast] theorem m220 : xI prog 220 = true := by kernel_rfl
@[push_cast] theorem a220 : wD prog 220 = true := by kernel_rfl
@[push_cast] theorem b220 : bytesOf prog 220 = 24 := by kernel_rfl
@[push_cast] theorem z220 : wM prog 220 = some ([.t (.v (.slice none 0 0))]) := by kernel_rfl
@[push_cast] theorem u220 : prog.underlying 220 = some (.slice 219) := by kernel_rfl
@[push_cast] theorem e220 : prog.elem 220 = 219 := by kernel_rfl
@[push_cast] theorem c222 : prog.cellsOf 222 = 1 := by kernel_rfl
@[push_cast] theorem g222 : xP prog 222 = false := by kernel_rfl
@[push_cast] theorem s222 : (prog.underlying 222).isSome = true := by kernel_rfl
@[push_cast] theorem i222 : (prog.info? 222).isSome = true := by kernel_rfl
@[push_cast] theorem m222 : xI prog 222 = true := by kernel_rfl
@[push_cast] theorem a222 : wD prog 222 = true := by kernel_rfl
@[push_cast] theorem b222 : bytesOf prog 222 = 8 := by kernel_rfl
@[push_cast] theorem z222 : wM prog 222 = some ([.t (.v (.int .u64 0))]) := by kernel_rfl
@[push_cast] theorem u222 : prog.underlying 222 = some (.int .u64) := by kernel_rfl
@[push_cast] theorem c232 : prog.cellsOf 232 = 2 := by kernel_rfl
@[push_cast] theorem g232 : xP prog 232 = true := by kernel_rfl
@[push_cast] theorem s232 : (prog.underlying 232).isSome = true := by kernel_rfl
@[push_cast] theorem i232 : (prog.info? 232).isSome = true := by kernel_rfl
@[push_cast] theorem m232 : xI prog 232 = true := by kernel_rfl
@[push_cast] theorem a232 : wD prog 232 = true := by kernel_rfl
@[push_cast] theorem b232 : bytesOf prog 232 = 24 := by kernel_rfl
@[push_cast] theorem z232 : wM prog 232 = some ([.t (.v (.int .i64 0)), .t (.v .nilIface)]) := by kernel_rfl
@[push_cast] theorem f232_0 : wB prog 232 0 = some (0, 1, 3) := by kernel_rfl
@[push_cast] theorem q232_0 : placeOf prog 232 0 = some (0, 1) := by kernel_rfl
@[push_cast] theorem f232_1 : wB prog 232 1 = some (1, 1, 81) := by kernel_rfl
@[push_cast] theorem q232_1 : placeOf prog 232 1 = some (1, 1) := by kernel_rfl
@[push_cast] theorem p232 : wO prog 232 = true := by kernel_rfl
@[push_cast] theorem c234 : prog.cellsOf 234 = 16 := by kernel_rfl
@[push_cast] theorem g234 : xP prog 234 = true := by kernel_rfl
@[push_cast] theorem s234 : (prog.underlying 234).isSome = true := by kernel_rfl
@[push_cast] theorem i234 : (prog.info? 234).isSome = true := by kernel_rfl
@[push_cast] theorem m234 : xI prog 234 = true := by kernel_rfl
@[push_cast] theorem a234 : wD prog 234 = true := by kernel_rfl
@[push_cast] theorem b234 : bytesOf prog 234 = 64 := by kernel_rfl
@[push_cast] theorem z234 : wM prog 234 = some (List.replicate 16 (.t (.v (.int .u32 0)))) := by kernel_rfl
@[push_cast] theorem u234 : prog.underlying 234 = some (.array 16 219) := by kernel_rfl
@[push_cast] theorem e234 : prog.elem 234 = 219 := by kernel_rfl
@[push_cast] theorem l234 : prog.arrayLen 234 = 16 := by kernel_rfl
@[push_cast] theorem p234 : wO prog 234 = true := by kernel_rfl
@[push_cast] theorem q234 (i : Nat) : placeOf prog 234 i = some (i * 1, 1) := by rw [qN u234, c219]
@[push_cast] theorem c237 : prog.cellsOf 237 = 1 := by kernel_rfl
@[push_cast] theorem g237 : xP prog 237 = false := by kernel_rfl
@[push_cast] theorem s237 : (prog.underlying 237).isSome = true := by kernel_rfl
@[push_cast] theorem i237 : (prog.info? 237).isSome = true := by kernel_rfl
@[push_cast] theorem a237 : wD prog 237 = true := by kernel_rfl
@[push_cast] theorem b237 : bytesOf prog 237 = 16 := by kernel_rfl
@[push_cast] theorem z237 : wM prog 237 = some ([.t (.v .nilIface)]) := by kernel_rfl
@[push_cast] theorem u237 : prog.underlying 237 = some (.interface (prog.methodsAt 237)) := by kernel_rfl
@[push_cast] theorem c239 : prog.cellsOf 239 = 8 := by kernel_rfl
@[push_cast] theorem g239 : xP prog 239 = true := by kernel_rfl
@[push_cast] theorem s239 : (prog.underlying 239).isSome = true := by kernel_rfl
@[push_cast] theorem i239 : (prog.info? 239).isSome = true := by kernel_rfl
@[push_cast] theorem m239 : xI prog 239 = true := by kernel_rfl
@[push_cast] theorem a239 : wD prog 239 = true := by kernel_rfl
@[push_cast] theorem b239 : bytesOf prog 239 = 8 := by kernel_rfl
@[push_cast] theorem z239 : wM prog 239 = some ([.t (.v (.bool false)), .t (.v (.bool false)), .t (.v (.bool false)), .t (.v (.bool false)), .t (.v (.bool false)), .t (.v (.bool false)), .t (.v (.bool false)), .t (.v (.bool false))]) := by kernel_rfl
@[push_cast] theorem u239 : prog.underlying 239 = some (.array 8 4) := by kernel_rfl
@[push_cast] theorem e239 : prog.elem 239 = 4 := by kernel_rfl
@[push_cast] theorem l239 : prog.arrayLen 239 = 8 := by kernel_rfl
@[push_cast] theorem p239 : wO prog 239 = true := by kernel_rfl
@[push_cast] theorem q239 (i : Nat) : placeOf prog 239 i = some (i * 1, 1) := by rw [qN u239, c4]
@[push_cast] theorem c245 : prog.cellsOf 245 = 8 := by kernel_rfl
@[push_cast] theorem g245 : xP prog 245 = true := by kernel_rfl
@[push_cast] theorem s245 : (prog.underlying 245).isSome = true := by kernel_rfl
@[push_cast] theorem i245 : (prog.info? 245).isSome = true := by kernel_rfl
@[push_cast] theorem m245 : xI prog 245 = true := by kernel_rfl
@[push_cast] theorem a245 : wD prog 245 = true := by kernel_rfl
@[push_cast] theorem b245 : bytesOf prog 245 = 32 := by kernel_rfl
@[push_cast] theorem z245 : wM prog 245 = some ([.t (.v (.int .u32 0)), .t (.v (.int .u32 0)), .t (.v (.int .u32 0)), .t (.v (.int .u32 0)), .t (.v (.int .u32 0)), .t (.v (.int .u32 0)), .t (.v (.int .u32 0)), .t (.v (.int .u32 0))]) := by kernel_rfl
@[push_cast] theorem u245 : prog.underlying 245 = some (.array 8 219) := by kernel_rfl
@[push_cast] theorem e245 : prog.elem 245 = 219 := by kernel_rfl
@[push_cast] theorem l245 : prog.arrayLen 245 = 8 := by kernel_rfl
@[push_cast] theorem p245 : wO prog 245 = true := by kernel_rfl
@[push_cast] theorem q245 (i : Nat) : placeOf prog 245 i = some (i * 1, 1) := by rw [qN u245, c219]
@[push_cast] theorem c247 : prog.cellsOf 247 = 64 := by kernel_rfl
@[push_cast] theorem g247 : xP prog 247 = true := by kernel_rfl
@[push_cast] theorem s247 : (prog.underlying 247).isSome = true := by kernel_rfl
@[push_cast] theorem i247 : (prog.info? 247).isSome = true := by kernel_rfl
@[push_cast] theorem m247 : xI prog 247 = true := by kernel_rfl
@[push_cast] theorem a247 : wD prog 247 = true := by kernel_rfl
@[push_cast] theorem b247 : bytesOf prog 247 = 256 := by kernel_rfl
@[push_cast] theorem z247 : wM prog 247 = some (List.replicate 64 (.t (.v (.int .u32 0)))) := by kernel_rfl
@[push_cast] theorem u247 : prog.underlying 247 = some (.array 64 219) := by kernel_rfl
@[push_cast] theorem e247 : prog.elem 247 = 219 := by kernel_rfl
@[push_cast] theorem l247 : prog.arrayLen 247 = 64 := by kernel_rfl
@[push_cast] theorem p247 : wO prog 247 = true := by kernel_rfl
@[push_cast] theorem q247 (i : Nat) : placeOf prog 247 i = some (i * 1, 1) := by rw [qN u247, c219]
@[push_cast] theorem c250 : prog.cellsOf 250 = 1 := by kernel_rfl
@[push_cast] theorem g250 : xP prog 250 = false := by kernel_rfl
@[push_cast] theorem s250 : (prog.underlying 250).isSome = true := by kernel_rfl
@[push_cast] theorem i250 : (prog.info? 250).isSome = true := by kernel_rfl
@[push_cast] theorem m250 : xI prog 250 = true := by kernel_rfl
@[push_cast] theorem a250 : wD prog 250 = true := by kernel_rfl
@[push_cast] theorem b250 : bytesOf prog 250 = 8 := by kernel_rfl
@[push_cast] theorem z250 : wM prog 250 = some ([.t (.v (.pointer none))]) := by kernel_rfl
@[push_cast] theorem c252 : prog.cellsOf 252 = 2 := by kernel_rfl
@[push_cast] theorem g252 : xP prog 252 = true := by kernel_rfl
@[push_cast] theorem s252 : (prog.underlying 252).isSome = true := by kernel_rfl
@[push_cast] theorem i252 : (prog.info? 252).isSome = true := by kernel_rfl
@[push_cast] theorem m252 : xI prog 252 = true := by kernel_rfl
@[push_cast] theorem a252 : wD prog 252 = true := by kernel_rfl
@[push_cast] theorem b252 : bytesOf prog 252 = 32 := by kernel_rfl
@[push_cast] theorem z252 : wM prog 252 = some ([.t (.v (.pointer none)), .t (.v (.slice none 0 0))]) := by kernel_rfl
@[push_cast] theorem f252_0 : wB prog 252 0 = some (0, 1, 250) := by kernel_rfl
@[push_cast] theorem q252_0 : placeOf prog 252 0 = some (0, 1) := by kernel_rfl
@[push_cast] theorem f252_1 : wB prog 252 1 = some (1, 1, 22) := by kernel_rfl
@[push_cast] theorem q252_1 : placeOf prog 252 1 = some (1, 1) := by kernel_rfl
@[push_cast] theorem p252 : wO prog 252 = true := by kernel_rfl
@[push_cast] theorem c263 : prog.cellsOf 263 = 1 := by kernel_rfl
@[push_cast] theorem g263 : xP prog 263 = false := by kernel_rfl
@[push_cast] theorem s263 : (prog.underlying 263).isSome = true := by kernel_rfl
@[push_cast] theorem i263 : (prog.info? 263).isSome = true := by kernel_rfl
@[push_cast] theorem m263 : xI prog 263 = true := by kernel_rfl
@[push_cast] theorem a263 : wD prog 263 = true := by kernel_rfl
@[push_cast] theorem b263 : bytesOf prog 263 = 8 := by kernel_rfl
@[push_cast] theorem z263 : wM prog 263 = some ([.t (.v (.pointer none))]) := by kernel_rfl
@[push_cast] theorem k2 : yQ prog 2 = true := by kernel_rfl
@[push_cast] theorem k3 : yQ prog 3 = true := by kernel_rfl
@[push_cast] theorem k4 : yQ prog 4 = true := by kernel_rfl
@[push_cast] theorem k5 : yQ prog 5 = true := by kernel_rfl
@[push_cast] theorem k6 : yQ prog 6 = true := by kernel_rfl
@[push_cast] theorem k7 : yQ prog 7 = true := by kernel_rfl
@[push_cast] theorem k8 : yQ prog 8 = true := by kernel_rfl
@[push_cast] theorem k9 : yQ prog 9 = true := by kernel_rfl
@[push_cast] theorem k10 : yQ prog 10 = true := by kernel_rfl
@[push_cast] theorem k11 : yQ prog 11 = true := by kernel_rfl
@[push_cast] theorem k12 : yQ prog 12 = true := by kernel_rfl
@[push_cast] theorem k13 : yQ prog 13 = true := by kernel_rfl
@[push_cast] theorem k14 : yQ prog 14 = true := by kernel_rfl
@[push_cast] theorem k15 : yQ prog 15 = true := by kernel_rfl
@[push_cast] theorem k16 : yQ prog 16 = true := by kernel_rfl
@[push_cast] theorem k17 : yQ prog 17 = true := by kernel_rfl
@[push_cast] theorem k18 : yQ prog 18 = true := by kernel_rfl
@[push_cast] theorem k19 : yQ prog 19 = true := by kernel_rfl
@[push_cast] theorem k20 : yQ prog 20 = true := by kernel_rfl
@[push_cast] theorem k21 : yQ prog 21 = true := by kernel_rfl
@[push_cast] theorem k22 : yQ prog 22 = true := by kernel_rfl
@[push_cast] theorem k23 : yQ prog 23 = true := by kernel_rfl
@[push_cast] theorem k24 : yQ prog 24 = true := by kernel_rfl
@[push_cast] theorem k25 : yQ prog 25 = true := by kernel_rfl
@[push_cast] theorem k26 : yQ prog 26 = true := by kernel_rfl
@[push_cast] theorem k27 : yQ prog 27 = true := by kernel_rfl
@[push_cast] theorem k28 : yQ prog 28 = true := by kernel_rfl
@[push_cast] theorem k29 : yQ prog 29 = true := by kernel_rfl
@[push_cast] theorem k30 : yQ prog 30 = true := by kernel_rfl
@[push_cast] theorem k31 : yQ prog 31 = true := by kernel_rfl
@[push_cast] theorem k32 : yQ prog 32 = true := by kernel_rfl
@[push_cast] theorem k33 : yQ prog 33 = true := by kernel_rfl
@[push_cast] theorem k34 : yQ prog 34 = true := by kernel_rfl
@[push_cast] theorem k35 : yQ prog 35 = true := by kernel_rfl
@[push_cast] theorem k36 : yQ prog 36 = true := by kernel_rfl
@[push_cast] theorem k37 : yQ prog 37 = true := by kernel_rfl
@[push_cast] theorem k38 : yQ prog 38 = true := by kernel_rfl
@[push_cast] theorem k39 : yQ prog 39 = true := by kernel_rfl
@[push_cast] theorem k40 : yQ prog 40 = true := by kernel_rfl
@[push_cast] theorem k41 : yQ prog 41 = true := by kernel_rfl
@[push_cast] theorem k42 : yQ prog 42 = true := by kernel_rfl
@[push_cast] theorem k43 : yQ prog 43 = true := by kernel_rfl
@[push_cast] theorem k44 : yQ prog 44 = true := by kernel_rfl
@[push_cast] theorem k45 : yQ prog 45 = true := by kernel_rfl
@[push_cast] theorem k46 : yQ prog 46 = true := by kernel_rfl
@[push_cast] theorem k47 : yQ prog 47 = true := by kernel_rfl
@[push_cast] theorem k48 : yQ prog 48 = true := by kernel_rfl
@[push_cast] theorem k49 : yQ prog 49 = true := by kernel_rfl
@[push_cast] theorem k50 : yQ prog 50 = true := by kernel_rfl
@[push_cast] theorem k51 : yQ prog 51 = true := by kernel_rfl
@[push_cast] theorem k52 : yQ prog 52 = true := by kernel_rfl
@[push_cast] theorem k53 : yQ prog 53 = true := by kernel_rfl
@[push_cast] theorem k54 : yQ prog 54 = true := by kernel_rfl
@[push_cast] theorem k55 : yQ prog 55 = true := by kernel_rfl
@[push_cast] theorem k56 : yQ prog 56 = true := by kernel_rfl
@[push_cast] theorem k57 : yQ prog 57 = true := by kernel_rfl
@[push_cast] theorem k58 : yQ prog 58 = true := by kernel_rfl
@[push_cast] theorem k59 : yQ prog 59 = true := by kernel_rfl
@[push_cast] theorem k60 : yQ prog 60 = true := by kernel_rfl
@[push_cast] theorem k61 : yQ prog 61 = true := by kernel_rfl
@[push_cast] theorem k62 : yQ prog 62 = true := by kernel_rfl
@[push_cast] theorem k63 : yQ prog 63 = true := by kernel_rfl
@[push_cast] theorem k64 : yQ prog 64 = true := by kernel_rfl
@[push_cast] theorem k65 : yQ prog 65 = true := by kernel_rfl
@[push_cast] theorem k66 : yQ prog 66 = true := by kernel_rfl
@[push_cast] theorem k67 : yQ prog 67 = true := by kernel_rfl
@[push_cast] theorem k68 : yQ prog 68 = true := by kernel_rfl
@[push_cast] theorem k69 : yQ prog 69 = true := by kernel_rfl
@[push_cast] theorem k70 : yQ prog 70 = true := by kernel_rfl
@[push_cast] theorem k71 : yQ prog 71 = true := by kernel_rfl
@[push_cast] theorem k72 : yQ prog 72 = true := by kernel_rfl
@[push_cast] theorem k73 : yQ prog 73 = true := by kernel_rfl
@[push_cast] theorem k74 : yQ prog 74 = true := by kernel_rfl
@[push_cast] theorem k75 : yQ prog 75 = true := by kernel_rfl
@[push_cast] theorem k76 : yQ prog 76 = true := by kernel_rfl
@[push_cast] theorem k77 : yQ prog 77 = true := by kernel_rfl
@[push_cast] theorem k78 : yQ prog 78 = true := by kernel_rfl
@[push_cast] theorem k79 : yQ prog 79 = true := by kernel_rfl
@[push_cast] theorem k80 : yQ prog 80 = true := by kernel_rfl
@[push_cast] theorem k81 : yQ prog 81 = true := by kernel_rfl
@[push_cast] theorem k82 : yQ prog 82 = true := by kernel_rfl
@[push_cast] theorem k83 : yQ prog 83 = true := by kernel_rfl
@[push_cast] theorem k84 : yQ prog 84 = true := by kernel_rfl
@[push_cast] theorem k85 : yQ prog 85 = true := by kernel_rfl
@[push_cast] theorem k86 : yQ prog 86 = true := by kernel_rfl
@[push_cast] theorem k87 : yQ prog 87 = true := by kernel_rfl
@[push_cast] theorem k88 : yQ prog 88 = true := by kernel_rfl
@[push_cast] theorem k89 : yQ prog 89 = true := by kernel_rfl
@[push_cast] theorem k90 : yQ prog 90 = true := by kernel_rfl
@[push_cast] theorem k91 : yQ prog 91 = true := by kernel_rfl
@[push_cast] theorem k92 : yQ prog 92 = true := by kernel_rfl
@[push_cast] theorem k93 : yQ prog 93 = true := by kernel_rfl
@[push_cast] theorem k94 : yQ prog 94 = true := by kernel_rfl
@[push_cast] theorem k95 : yQ prog 95 = true := by kernel_rfl
@[push_cast] theorem k99 : yQ prog 99 = true := by kernel_rfl
@[push_cast] theorem k100 : yQ prog 100 = true := by kernel_rfl
@[push_cast] theorem k101 : yQ prog 101 = true := by kernel_rfl
@[push_cast] theorem k102 : yQ prog 102 = true := by kernel_rfl
@[push_cast] theorem k103 : yQ prog 103 = true := by kernel_rfl
@[push_cast] theorem k104 : yQ prog 104 = true := by kernel_rfl
@[push_cast] theorem k105 : yQ prog 105 = true := by kernel_rfl
@[push_cast] theorem k106 : yQ prog 106 = true := by kernel_rfl
@[push_cast] theorem k107 : yQ prog 107 = true := by kernel_rfl
@[push_cast] theorem k108 : yQ prog 108 = true := by kernel_rfl
@[push_cast] theorem k109 : yQ prog 109 = true := by kernel_rfl
@[push_cast] theorem k110 : yQ prog 110 = true := by kernel_rfl
@[push_cast] theorem k111 : yQ prog 111 = true := by kernel_rfl
@[push_cast] theorem k112 : yQ prog 112 = true := by kernel_rfl
@[push_cast] theorem k113 : yQ prog 113 = true := by kernel_rfl
@[push_cast] theorem k114 : yQ prog 114 = true := by kernel_rfl
@[push_cast] theorem k115 : yQ prog 115 = true := by kernel_rfl
@[push_cast] theorem k116 : yQ prog 116 = true := by kernel_rfl
@[push_cast] theorem k117 : yQ prog 117 = true := by kernel_rfl
@[push_cast] theorem k118 : yQ prog 118 = true := by kernel_rfl
@[push_cast] theorem k119 : yQ prog 119 = true := by kernel_rfl
@[push_cast] theorem k120 : yQ prog 120 = true := by kernel_rfl
@[push_cast] theorem k121 : yQ prog 121 = true := by kernel_rfl
@[push_cast] theorem k122 : yQ prog 122 = true := by kernel_rfl
@[push_cast] theorem k123 : yQ prog 123 = true := by kernel_rfl
@[push_cast] theorem k124 : yQ prog 124 = true := by kernel_rfl
@[push_cast] theorem k125 : yQ prog 125 = true := by kernel_rfl
@[push_cast] theorem k126 : yQ prog 126 = true := by kernel_rfl
@[push_cast] theorem k127 : yQ prog 127 = true := by kernel_rfl
@[push_cast] theorem k128 : yQ prog 128 = true := by kernel_rfl
@[push_cast] theorem k129 : yQ prog 129 = true := by kernel_rfl
@[push_cast] theorem k130 : yQ prog 130 = true := by kernel_rfl
@[push_cast] theorem k134 : yQ prog 134 = true := by kernel_rfl
@[push_cast] theorem k135 : yQ prog 135 = true := by kernel_rfl
@[push_cast] theorem k136 : yQ prog 136 = true := by kernel_rfl
@[push_cast] theorem k137 : yQ prog 137 = true := by kernel_rfl
@[push_cast] theorem k138 : yQ prog 138 = true := by kernel_rfl
@[push_cast] theorem k139 : yQ prog 139 = true := by kernel_rfl
@[push_cast] theorem k140 : yQ prog 140 = true := by kernel_rfl
@[push_cast] theorem k141 : yQ prog 141 = true := by kernel_rfl
@[push_cast] theorem k142 : yQ prog 142 = true := by kernel_rfl
@[push_cast] theorem k143 : yQ prog 143 = true := by kernel_rfl
@[push_cast] theorem k144 : yQ prog 144 = true := by kernel_rfl
@[push_cast] theorem k145 : yQ prog 145 = true := by kernel_rfl
@[push_cast] theorem k146 : yQ prog 146 = true := by kernel_rfl
@[push_cast] theorem k147 : yQ prog 147 = true := by kernel_rfl
@[push_cast] theorem k148 : yQ prog 148 = true := by kernel_rfl
@[push_cast] theorem k149 : yQ prog 149 = true := by kernel_rfl
@[push_cast] theorem k150 : yQ prog 150 = true := by kernel_rfl
@[push_cast] theorem k151 : yQ prog 151 = true := by kernel_rfl
@[push_cast] theorem k152 : yQ prog 152 = true := by kernel_rfl
@[push_cast] theorem k153 : yQ prog 153 = true := by kernel_rfl
@[push_cast] theorem k154 : yQ prog 154 = true := by kernel_rfl
@[push_cast] theorem k155 : yQ prog 155 = true := by kernel_rfl
@[push_cast] theorem k156 : yQ prog 156 = true := by kernel_rfl
@[push_cast] theorem k157 : yQ prog 157 = true := by kernel_rfl
@[push_cast] theorem k158 : yQ prog 158 = true := by kernel_rfl
@[push_cast] theorem k159 : yQ prog 159 = true := by kernel_rfl
@[push_cast] theorem k160 : yQ prog 160 = true := by kernel_rfl
@[push_cast] theorem k161 : yQ prog 161 = true := by kernel_rfl
@[push_cast] theorem k162 : yQ prog 162 = true := by kernel_rfl
@[push_cast] theorem k163 : yQ prog 163 = true := by kernel_rfl
@[push_cast] theorem k164 : yQ prog 164 = true := by kernel_rfl
@[push_cast] theorem k165 : yQ prog 165 = true := by kernel_rfl
@[push_cast] theorem k166 : yQ prog 166 = true := by kernel_rfl
@[push_cast] theorem k167 : yQ prog 167 = true := by kernel_rfl
@[push_cast] theorem k168 : yQ prog 168 = true := by kernel_rfl
@[push_cast] theorem k169 : yQ prog 169 = true := by kernel_rfl
@[push_cast] theorem k170 : yQ prog 170 = true := by kernel_rfl
@[push_cast] theorem k171 : yQ prog 171 = true := by kernel_rfl
@[push_cast] theorem k172 : yQ prog 172 = true := by kernel_rfl
@[push_cast] theorem k173 : yQ prog 173 = true := by kernel_rfl
@[push_cast] theorem k174 : yQ prog 174 = true := by kernel_rfl
@[push_cast] theorem k175 : yQ prog 175 = true := by kernel_rfl
@[push_cast] theorem k176 : yQ prog 176 = true := by kernel_rfl
@[push_cast] theorem k177 : yQ prog 177 = true := by kernel_rfl
@[push_cast] theorem k178 : yQ prog 178 = true := by kernel_rfl
@[push_cast] theorem k179 : yQ prog 179 = true := by kernel_rfl
@[push_cast] theorem k180 : yQ prog 180 = true := by kernel_rfl
@[push_cast] theorem k181 : yQ prog 181 = true := by kernel_rfl
@[push_cast] theorem k182 : yQ prog 182 = true := by kernel_rfl
@[push_cast] theorem k183 : yQ prog 183 = true := by kernel_rfl
@[push_cast] theorem k184 : yQ prog 184 = true := by kernel_rfl
@[push_cast] theorem k185 : yQ prog 185 = true := by kernel_rfl
@[push_cast] theorem k186 : yQ prog 186 = true := by kernel_rfl
@[push_cast] theorem k187 : yQ prog 187 = true := by kernel_rfl
@[push_cast] theorem k188 : yQ prog 188 = true := by kernel_rfl
@[push_cast] theorem k189 : yQ prog 189 = true := by kernel_rfl
@[push_cast] theorem k190 : yQ prog 190 = true := by kernel_rfl
@[push_cast] theorem k211 : yQ prog 211 = true := by kernel_rfl
@[push_cast] theorem k219 : yQ prog 219 = true := by kernel_rfl
@[push_cast] theorem k233 : yQ prog 233 = true := by kernel_rfl
@[push_cast] theorem k235 : yQ prog 235 = true := by kernel_rfl
@[push_cast] theorem k241 : yQ prog 241 = true := by kernel_rfl
@[push_cast] theorem mix : prog.follows .mixedOrders = true := by kernel_rfl
end Go.Proofs.Tryz.F
