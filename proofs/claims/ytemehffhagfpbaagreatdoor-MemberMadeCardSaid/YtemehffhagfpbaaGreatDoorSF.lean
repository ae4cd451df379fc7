/- Facts about the program's types: made by wip/ot/facts.py. -/
import Derived.Test.YtemehffhagfpbaaGreatDoorProg
import Derived.Test.YtemehffhagfpbaaGreatDoorOtD
set_option linter.unusedVariables false
namespace Go.Proofs.Tryz.F
open Go Go.Proofs Go.Ot
@[push_cast] theorem c3 : prog.cellsOf 3 = 1 := by kernel_rfl
@[push_cast] theorem g3 : isAggB prog 3 = false := by kernel_rfl
@[push_cast] theorem s3 : (prog.underlying 3).isSome = true := by kernel_rfl
@[push_cast] theorem i3 : (prog.info? 3).isSome = true := by kernel_rfl
@[push_cast] theorem m3 : concreteB prog 3 = true := by kernel_rfl
@[push_cast] theorem a3 : elemOk prog 3 = true := by kernel_rfl
@[push_cast] theorem b3 : bytesOf prog 3 = 8 := by kernel_rfl
@[push_cast] theorem z3 : zeroD prog 3 = some ([.t (.v (.int .i64 0))]) := by kernel_rfl
@[push_cast] theorem u3 : prog.underlying 3 = some (.int .i64) := by kernel_rfl
@[push_cast] theorem c4 : prog.cellsOf 4 = 1 := by kernel_rfl
@[push_cast] theorem g4 : isAggB prog 4 = false := by kernel_rfl
@[push_cast] theorem s4 : (prog.underlying 4).isSome = true := by kernel_rfl
@[push_cast] theorem i4 : (prog.info? 4).isSome = true := by kernel_rfl
@[push_cast] theorem m4 : concreteB prog 4 = true := by kernel_rfl
@[push_cast] theorem a4 : elemOk prog 4 = true := by kernel_rfl
@[push_cast] theorem b4 : bytesOf prog 4 = 1 := by kernel_rfl
@[push_cast] theorem z4 : zeroD prog 4 = some ([.t (.v (.bool false))]) := by kernel_rfl
@[push_cast] theorem u4 : prog.underlying 4 = some .bool := by kernel_rfl
@[push_cast] theorem c5 : prog.cellsOf 5 = 1 := by kernel_rfl
@[push_cast] theorem g5 : isAggB prog 5 = false := by kernel_rfl
@[push_cast] theorem s5 : (prog.underlying 5).isSome = true := by kernel_rfl
@[push_cast] theorem i5 : (prog.info? 5).isSome = true := by kernel_rfl
@[push_cast] theorem m5 : concreteB prog 5 = true := by kernel_rfl
@[push_cast] theorem a5 : elemOk prog 5 = true := by kernel_rfl
@[push_cast] theorem b5 : bytesOf prog 5 = 1 := by kernel_rfl
@[push_cast] theorem z5 : zeroD prog 5 = some ([.t (.v (.int .u8 0))]) := by kernel_rfl
@[push_cast] theorem u5 : prog.underlying 5 = some (.int .u8) := by kernel_rfl
@[push_cast] theorem c9 : prog.cellsOf 9 = 1 := by kernel_rfl
@[push_cast] theorem g9 : isAggB prog 9 = false := by kernel_rfl
@[push_cast] theorem s9 : (prog.underlying 9).isSome = true := by kernel_rfl
@[push_cast] theorem i9 : (prog.info? 9).isSome = true := by kernel_rfl
@[push_cast] theorem m9 : concreteB prog 9 = true := by kernel_rfl
@[push_cast] theorem a9 : elemOk prog 9 = true := by kernel_rfl
@[push_cast] theorem b9 : bytesOf prog 9 = 16 := by kernel_rfl
@[push_cast] theorem z9 : zeroD prog 9 = some ([.t (.v (.string ⟨#[]⟩))]) := by kernel_rfl
@[push_cast] theorem u9 : prog.underlying 9 = some .string := by kernel_rfl
@[push_cast] theorem c17 : prog.cellsOf 17 = 1 := by kernel_rfl
@[push_cast] theorem g17 : isAggB prog 17 = false := by kernel_rfl
@[push_cast] theorem s17 : (prog.underlying 17).isSome = true := by kernel_rfl
@[push_cast] theorem i17 : (prog.info? 17).isSome = true := by kernel_rfl
@[push_cast] theorem m17 : concreteB prog 17 = true := by kernel_rfl
@[push_cast] theorem a17 : elemOk prog 17 = true := by kernel_rfl
@[push_cast] theorem b17 : bytesOf prog 17 = 8 := by kernel_rfl
@[push_cast] theorem z17 : zeroD prog 17 = some ([.t (.v (.pointer none))]) := by kernel_rfl
@[push_cast] theorem c20 : prog.cellsOf 20 = 1 := by kernel_rfl
@[push_cast] theorem g20 : isAggB prog 20 = false := by kernel_rfl
@[push_cast] theorem s20 : (prog.underlying 20).isSome = true := by kernel_rfl
@[push_cast] theorem i20 : (prog.info? 20).isSome = true := by kernel_rfl
@[push_cast] theorem a20 : elemOk prog 20 = true := by kernel_rfl
@[push_cast] theorem b20 : bytesOf prog 20 = 16 := by kernel_rfl
@[push_cast] theorem z20 : zeroD prog 20 = some ([.t (.v .nilIface)]) := by kernel_rfl
@[push_cast] theorem u20 : prog.underlying 20 = some (.interface (prog.methodsAt 20)) := by kernel_rfl
@[push_cast] theorem c22 : prog.cellsOf 22 = 1 := by kernel_rfl
@[push_cast] theorem g22 : isAggB prog 22 = false := by kernel_rfl
@[push_cast] theorem s22 : (prog.underlying 22).isSome = true := by kernel_rfl
@[push_cast] theorem i22 : (prog.info? 22).isSome = true := by kernel_rfl
@[push_cast] theorem m22 : concreteB prog 22 = true := by kernel_rfl
@[push_cast] theorem a22 : elemOk prog 22 = true := by kernel_rfl
@[push_cast] theorem b22 : bytesOf prog 22 = 24 := by kernel_rfl
@[push_cast] theorem z22 : zeroD prog 22 = some ([.t (.v (.slice none 0 0))]) := by kernel_rfl
@[push_cast] theorem u22 : prog.underlying 22 = some (.slice 26) := by kernel_rfl
@[push_cast] theorem e22 : prog.elem 22 = 26 := by kernel_rfl
@[push_cast] theorem c24 : prog.cellsOf 24 = 1 := by kernel_rfl
@[push_cast] theorem g24 : isAggB prog 24 = false := by kernel_rfl
@[push_cast] theorem s24 : (prog.underlying 24).isSome = true := by kernel_rfl
@[push_cast] theorem i24 : (prog.info? 24).isSome = true := by kernel_rfl
@[push_cast] theorem m24 : concreteB prog 24 = true := by kernel_rfl
@[push_cast] theorem a24 : elemOk prog 24 = true := by kernel_rfl
@[push_cast] theorem b24 : bytesOf prog 24 = 24 := by kernel_rfl
@[push_cast] theorem z24 : zeroD prog 24 = some ([.t (.v (.slice none 0 0))]) := by kernel_rfl
@[push_cast] theorem u24 : prog.underlying 24 = some (.slice 37) := by kernel_rfl
@[push_cast] theorem e24 : prog.elem 24 = 37 := by kernel_rfl
@[push_cast] theorem c26 : prog.cellsOf 26 = 6 := by kernel_rfl
@[push_cast] theorem g26 : isAggB prog 26 = true := by kernel_rfl
@[push_cast] theorem s26 : (prog.underlying 26).isSome = true := by kernel_rfl
@[push_cast] theorem i26 : (prog.info? 26).isSome = true := by kernel_rfl
@[push_cast] theorem m26 : concreteB prog 26 = true := by kernel_rfl
@[push_cast] theorem a26 : elemOk prog 26 = true := by kernel_rfl
@[push_cast] theorem b26 : bytesOf prog 26 = 80 := by kernel_rfl
@[push_cast] theorem z26 : zeroD prog 26 = some ([.t (.v (.int .i64 0)), .t (.v (.string ⟨#[]⟩)), .t (.v (.int .i64 0)), .t (.v (.int .i64 0)), .t (.v (.slice none 0 0)), .t (.v (.string ⟨#[]⟩))]) := by kernel_rfl
@[push_cast] theorem f26_0 : fieldOf prog 26 0 = some (0, 1, 3) := by kernel_rfl
@[push_cast] theorem q26_0 : placeOf prog 26 0 = some (0, 1) := by kernel_rfl
@[push_cast] theorem f26_1 : fieldOf prog 26 1 = some (1, 1, 9) := by kernel_rfl
@[push_cast] theorem q26_1 : placeOf prog 26 1 = some (1, 1) := by kernel_rfl
@[push_cast] theorem f26_2 : fieldOf prog 26 2 = some (2, 1, 3) := by kernel_rfl
@[push_cast] theorem q26_2 : placeOf prog 26 2 = some (2, 1) := by kernel_rfl
@[push_cast] theorem f26_3 : fieldOf prog 26 3 = some (3, 1, 3) := by kernel_rfl
@[push_cast] theorem q26_3 : placeOf prog 26 3 = some (3, 1) := by kernel_rfl
@[push_cast] theorem f26_4 : fieldOf prog 26 4 = some (4, 1, 24) := by kernel_rfl
@[push_cast] theorem q26_4 : placeOf prog 26 4 = some (4, 1) := by kernel_rfl
@[push_cast] theorem f26_5 : fieldOf prog 26 5 = some (5, 1, 9) := by kernel_rfl
@[push_cast] theorem q26_5 : placeOf prog 26 5 = some (5, 1) := by kernel_rfl
@[push_cast] theorem p26 : placesOk prog 26 = true := by kernel_rfl
@[push_cast] theorem c30 : prog.cellsOf 30 = 1 := by kernel_rfl
@[push_cast] theorem g30 : isAggB prog 30 = false := by kernel_rfl
@[push_cast] theorem s30 : (prog.underlying 30).isSome = true := by kernel_rfl
@[push_cast] theorem i30 : (prog.info? 30).isSome = true := by kernel_rfl
@[push_cast] theorem m30 : concreteB prog 30 = true := by kernel_rfl
@[push_cast] theorem a30 : elemOk prog 30 = true := by kernel_rfl
@[push_cast] theorem b30 : bytesOf prog 30 = 24 := by kernel_rfl
@[push_cast] theorem z30 : zeroD prog 30 = some ([.t (.v (.slice none 0 0))]) := by kernel_rfl
@[push_cast] theorem u30 : prog.underlying 30 = some (.slice 5) := by kernel_rfl
@[push_cast] theorem e30 : prog.elem 30 = 5 := by kernel_rfl
@[push_cast] theorem c37 : prog.cellsOf 37 = 2 := by kernel_rfl
@[push_cast] theorem g37 : isAggB prog 37 = true := by kernel_rfl
@[push_cast] theorem s37 : (prog.underlying 37).isSome = true := by kernel_rfl
@[push_cast] theorem i37 : (prog.info? 37).isSome = true := by kernel_rfl
@[push_cast] theorem m37 : concreteB prog 37 = true := by kernel_rfl
@[push_cast] theorem a37 : elemOk prog 37 = true := by kernel_rfl
@[push_cast] theorem b37 : bytesOf prog 37 = 24 := by kernel_rfl
@[push_cast] theorem z37 : zeroD prog 37 = some ([.t (.v (.int .i64 0)), .t (.v (.string ⟨#[]⟩))]) := by kernel_rfl
@[push_cast] theorem f37_0 : fieldOf prog 37 0 = some (0, 1, 3) := by kernel_rfl
@[push_cast] theorem q37_0 : placeOf prog 37 0 = some (0, 1) := by kernel_rfl
@[push_cast] theorem f37_1 : fieldOf prog 37 1 = some (1, 1, 9) := by kernel_rfl
@[push_cast] theorem q37_1 : placeOf prog 37 1 = some (1, 1) := by kernel_rfl
@[push_cast] theorem p37 : placesOk prog 37 = true := by kernel_rfl
@[push_cast] theorem c39 : prog.cellsOf 39 = 1 := by kernel_rfl
@[push_cast] theorem g39 : isAggB prog 39 = false := by kernel_rfl
@[push_cast] theorem s39 : (prog.underlying 39).isSome = true := by kernel_rfl
@[push_cast] theorem i39 : (prog.info? 39).isSome = true := by kernel_rfl
@[push_cast] theorem m39 : concreteB prog 39 = true := by kernel_rfl
@[push_cast] theorem a39 : elemOk prog 39 = true := by kernel_rfl
@[push_cast] theorem b39 : bytesOf prog 39 = 24 := by kernel_rfl
@[push_cast] theorem z39 : zeroD prog 39 = some ([.t (.v (.slice none 0 0))]) := by kernel_rfl
@[push_cast] theorem u39 : prog.underlying 39 = some (.slice 3) := by kernel_rfl
@[push_cast] theorem e39 : prog.elem 39 = 3 := by kernel_rfl
@[push_cast] theorem c41 : prog.cellsOf 41 = 1 := by kernel_rfl
@[push_cast] theorem g41 : isAggB prog 41 = false := by kernel_rfl
@[push_cast] theorem s41 : (prog.underlying 41).isSome = true := by kernel_rfl
@[push_cast] theorem i41 : (prog.info? 41).isSome = true := by kernel_rfl
@[push_cast] theorem a41 : elemOk prog 41 = true := by kernel_rfl
@[push_cast] theorem b41 : bytesOf prog 41 = 16 := by kernel_rfl
@[push_cast] theorem z41 : zeroD prog 41 = some ([.t (.v .nilIface)]) := by kernel_rfl
@[push_cast] theorem u41 : prog.underlying 41 = some (.interface (prog.methodsAt 41)) := by kernel_rfl
@[push_cast] theorem c44 : prog.cellsOf 44 = 1 := by kernel_rfl
@[push_cast] theorem g44 : isAggB prog 44 = false := by kernel_rfl
@[push_cast] theorem s44 : (prog.underlying 44).isSome = true := by kernel_rfl
@[push_cast] theorem i44 : (prog.info? 44).isSome = true := by kernel_rfl
@[push_cast] theorem m44 : concreteB prog 44 = true := by kernel_rfl
@[push_cast] theorem a44 : elemOk prog 44 = true := by kernel_rfl
@[push_cast] theorem b44 : bytesOf prog 44 = 16 := by kernel_rfl
@[push_cast] theorem z44 : zeroD prog 44 = some ([.t (.v (.string ⟨#[]⟩))]) := by kernel_rfl
@[push_cast] theorem u44 : prog.underlying 44 = some .string := by kernel_rfl
@[push_cast] theorem c46 : prog.cellsOf 46 = 1 := by kernel_rfl
@[push_cast] theorem g46 : isAggB prog 46 = false := by kernel_rfl
@[push_cast] theorem s46 : (prog.underlying 46).isSome = true := by kernel_rfl
@[push_cast] theorem i46 : (prog.info? 46).isSome = true := by kernel_rfl
@[push_cast] theorem m46 : concreteB prog 46 = true := by kernel_rfl
@[push_cast] theorem a46 : elemOk prog 46 = true := by kernel_rfl
@[push_cast] theorem b46 : bytesOf prog 46 = 8 := by kernel_rfl
@[push_cast] theorem z46 : zeroD prog 46 = some ([.t (.v .nilFunc)]) := by kernel_rfl
@[push_cast] theorem c48 : prog.cellsOf 48 = 1 := by kernel_rfl
@[push_cast] theorem g48 : isAggB prog 48 = false := by kernel_rfl
@[push_cast] theorem s48 : (prog.underlying 48).isSome = true := by kernel_rfl
@[push_cast] theorem i48 : (prog.info? 48).isSome = true := by kernel_rfl
@[push_cast] theorem m48 : concreteB prog 48 = true := by kernel_rfl
@[push_cast] theorem a48 : elemOk prog 48 = true := by kernel_rfl
@[push_cast] theorem b48 : bytesOf prog 48 = 24 := by kernel_rfl
@[push_cast] theorem z48 : zeroD prog 48 = some ([.t (.v (.slice none 0 0))]) := by kernel_rfl
@[push_cast] theorem u48 : prog.underlying 48 = some (.slice 50) := by kernel_rfl
@[push_cast] theorem e48 : prog.elem 48 = 50 := by kernel_rfl
@[push_cast] theorem c50 : prog.cellsOf 50 = 4 := by kernel_rfl
@[push_cast] theorem g50 : isAggB prog 50 = true := by kernel_rfl
@[push_cast] theorem s50 : (prog.underlying 50).isSome = true := by kernel_rfl
@[push_cast] theorem i50 : (prog.info? 50).isSome = true := by kernel_rfl
@[push_cast] theorem m50 : concreteB prog 50 = true := by kernel_rfl
@[push_cast] theorem a50 : elemOk prog 50 = true := by kernel_rfl
@[push_cast] theorem b50 : bytesOf prog 50 = 56 := by kernel_rfl
@[push_cast] theorem z50 : zeroD prog 50 = some ([.t (.v (.int .i64 0)), .t (.v (.int .i64 0)), .t (.v (.string ⟨#[]⟩)), .t (.v (.slice none 0 0))]) := by kernel_rfl
@[push_cast] theorem f50_0 : fieldOf prog 50 0 = some (0, 1, 3) := by kernel_rfl
@[push_cast] theorem q50_0 : placeOf prog 50 0 = some (0, 1) := by kernel_rfl
@[push_cast] theorem f50_1 : fieldOf prog 50 1 = some (1, 1, 3) := by kernel_rfl
@[push_cast] theorem q50_1 : placeOf prog 50 1 = some (1, 1) := by kernel_rfl
@[push_cast] theorem f50_2 : fieldOf prog 50 2 = some (2, 1, 9) := by kernel_rfl
@[push_cast] theorem q50_2 : placeOf prog 50 2 = some (2, 1) := by kernel_rfl
@[push_cast] theorem f50_3 : fieldOf prog 50 3 = some (3, 1, 48) := by kernel_rfl
@[push_cast] theorem q50_3 : placeOf prog 50 3 = some (3, 1) := by kernel_rfl
@[push_cast] theorem p50 : placesOk prog 50 = true := by kernel_rfl
@[push_cast] theorem c62 : prog.cellsOf 62 = 2 := by kernel_rfl
@[push_cast] theorem g62 : isAggB prog 62 = true := by kernel_rfl
@[push_cast] theorem s62 : (prog.underlying 62).isSome = true := by kernel_rfl
@[push_cast] theorem i62 : (prog.info? 62).isSome = true := by kernel_rfl
@[push_cast] theorem m62 : concreteB prog 62 = true := by kernel_rfl
@[push_cast] theorem a62 : elemOk prog 62 = true := by kernel_rfl
@[push_cast] theorem b62 : bytesOf prog 62 = 24 := by kernel_rfl
@[push_cast] theorem z62 : zeroD prog 62 = some ([.t (.v (.int .i64 0)), .t (.v .nilIface)]) := by kernel_rfl
@[push_cast] theorem f62_0 : fieldOf prog 62 0 = some (0, 1, 3) := by kernel_rfl
@[push_cast] theorem q62_0 : placeOf prog 62 0 = some (0, 1) := by kernel_rfl
@[push_cast] theorem f62_1 : fieldOf prog 62 1 = some (1, 1, 41) := by kernel_rfl
@[push_cast] theorem q62_1 : placeOf prog 62 1 = some (1, 1) := by kernel_rfl
@[push_cast] theorem p62 : placesOk prog 62 = true := by kernel_rfl
@[push_cast] theorem c64 : prog.cellsOf 64 = 1 := by kernel_rfl
@[push_cast] theorem g64 : isAggB prog 64 = false := by kernel_rfl
@[push_cast] theorem s64 : (prog.underlying 64).isSome = true := by kernel_rfl
@[push_cast] theorem i64 : (prog.info? 64).isSome = true := by kernel_rfl
@[push_cast] theorem a64 : elemOk prog 64 = true := by kernel_rfl
@[push_cast] theorem b64 : bytesOf prog 64 = 16 := by kernel_rfl
@[push_cast] theorem z64 : zeroD prog 64 = some ([.t (.v .nilIface)]) := by kernel_rfl
@[push_cast] theorem u64 : prog.underlying 64 = some (.interface (prog.methodsAt 64)) := by kernel_rfl
@[push_cast] theorem c68 : prog.cellsOf 68 = 1 := by kernel_rfl
@[push_cast] theorem g68 : isAggB prog 68 = false := by kernel_rfl
@[push_cast] theorem s68 : (prog.underlying 68).isSome = true := by kernel_rfl
@[push_cast] theorem i68 : (prog.info? 68).isSome = true := by kernel_rfl
@[push_cast] theorem m68 : concreteB prog 68 = true := by kernel_rfl
@[push_cast] theorem a68 : elemOk prog 68 = true := by kernel_rfl
@[push_cast] theorem b68 : bytesOf prog 68 = 8 := by kernel_rfl
@[push_cast] theorem z68 : zeroD prog 68 = some ([.t (.v (.pointer none))]) := by kernel_rfl
@[push_cast] theorem c70 : prog.cellsOf 70 = 1 := by kernel_rfl
@[push_cast] theorem g70 : isAggB prog 70 = true := by kernel_rfl
@[push_cast] theorem s70 : (prog.underlying 70).isSome = true := by kernel_rfl
@[push_cast] theorem i70 : (prog.info? 70).isSome = true := by kernel_rfl
@[push_cast] theorem m70 : concreteB prog 70 = true := by kernel_rfl
@[push_cast] theorem a70 : elemOk prog 70 = true := by kernel_rfl
@[push_cast] theorem b70 : bytesOf prog 70 = 16 := by kernel_rfl
@[push_cast] theorem z70 : zeroD prog 70 = some ([.t (.v (.string ⟨#[]⟩))]) := by kernel_rfl
@[push_cast] theorem f70_0 : fieldOf prog 70 0 = some (0, 1, 9) := by kernel_rfl
@[push_cast] theorem q70_0 : placeOf prog 70 0 = some (0, 1) := by kernel_rfl
@[push_cast] theorem p70 : placesOk prog 70 = true := by kernel_rfl
@[push_cast] theorem c73 : prog.cellsOf 73 = 1 := by kernel_rfl
@[push_cast] theorem g73 : isAggB prog 73 = false := by kernel_rfl
@[push_cast] theorem s73 : (prog.underlying 73).isSome = true := by kernel_rfl
@[push_cast] theorem i73 : (prog.info? 73).isSome = true := by kernel_rfl
@[push_cast] theorem m73 : concreteB prog 73 = true := by kernel_rfl
@[push_cast] theorem a73 : elemOk prog 73 = true := by kernel_rfl
@[push_cast] theorem b73 : bytesOf prog 73 = 16 := by kernel_rfl
@[push_cast] theorem z73 : zeroD prog 73 = some ([.t (.v (.string ⟨#[]⟩))]) := by kernel_rfl
@[push_cast] theorem u73 : prog.underlying 73 = some .string := by kernel_rfl
@[push_cast] theorem c75 : prog.cellsOf 75 = 1 := by kernel_rfl
@[push_cast] theorem g75 : isAggB prog 75 = false := by kernel_rfl
@[push_cast] theorem s75 : (prog.underlying 75).isSome = true := by kernel_rfl
@[push_cast] theorem i75 : (prog.info? 75).isSome = true := by kernel_rfl
@[push_cast] theorem m75 : concreteB prog 75 = true := by kernel_rfl
@[push_cast] theorem a75 : elemOk prog 75 = true := by kernel_rfl
@[push_cast] theorem b75 : bytesOf prog 75 = 8 := by kernel_rfl
@[push_cast] theorem z75 : zeroD prog 75 = some ([.t (.v (.pointer none))]) := by kernel_rfl
@[push_cast] theorem c78 : prog.cellsOf 78 = 1 := by kernel_rfl
@[push_cast] theorem g78 : isAggB prog 78 = false := by kernel_rfl
@[push_cast] theorem s78 : (prog.underlying 78).isSome = true := by kernel_rfl
@[push_cast] theorem i78 : (prog.info? 78).isSome = true := by kernel_rfl
@[push_cast] theorem m78 : concreteB prog 78 = true := by kernel_rfl
@[push_cast] theorem a78 : elemOk prog 78 = true := by kernel_rfl
@[push_cast] theorem b78 : bytesOf prog 78 = 8 := by kernel_rfl
@[push_cast] theorem z78 : zeroD prog 78 = some ([.t (.v .nilFunc)]) := by kernel_rfl
@[push_cast] theorem c81 : prog.cellsOf 81 = 1 := by kernel_rfl
@[push_cast] theorem g81 : isAggB prog 81 = false := by kernel_rfl
@[push_cast] theorem s81 : (prog.underlying 81).isSome = true := by kernel_rfl
@[push_cast] theorem i81 : (prog.info? 81).isSome = true := by kernel_rfl
@[push_cast] theorem m81 : concreteB prog 81 = true := by kernel_rfl
@[push_cast] theorem a81 : elemOk prog 81 = true := by kernel_rfl
@[push_cast] theorem b81 : bytesOf prog 81 = 4 := by kernel_rfl
@[push_cast] theorem z81 : zeroD prog 81 = some ([.t (.v (.int .u32 0))]) := by kernel_rfl
@[push_cast] theorem u81 : prog.underlying 81 = some (.int .u32) := by kernel_rfl
@[push_cast] theorem c82 : prog.cellsOf 82 = 1 := by kernel_rfl
@[push_cast] theorem g82 : isAggB prog 82 = false := by kernel_rfl
@[push_cast] theorem s82 : (prog.underlying 82).isSome = true := by kernel_rfl
@[push_cast] theorem i82 : (prog.info? 82).isSome = true := by kernel_rfl
@[push_cast] theorem m82 : concreteB prog 82 = true := by kernel_rfl
@[push_cast] theorem a82 : elemOk prog 82 = true := by kernel_rfl
@[push_cast] theorem b82 : bytesOf prog 82 = 24 := by kernel_rfl
@[push_cast] theorem z82 : zeroD prog 82 = some ([.t (.v (.slice none 0 0))]) := by kernel_rfl
@[push_cast] theorem u82 : prog.underlying 82 = some (.slice 81) := by kernel_rfl
@[push_cast] theorem e82 : prog.elem 82 = 81 := by kernel_rfl
@[push_cast] theorem c84 : prog.cellsOf 84 = 1 := by kernel_rfl
@[push_cast] theorem g84 : isAggB prog 84 = false := by kernel_rfl
@[push_cast] theorem s84 : (prog.underlying 84).isSome = true := by kernel_rfl
@[push_cast] theorem i84 : (prog.info? 84).isSome = true := by kernel_rfl
@[push_cast] theorem m84 : concreteB prog 84 = true := by kernel_rfl
@[push_cast] theorem a84 : elemOk prog 84 = true := by kernel_rfl
@[push_cast] theorem b84 : bytesOf prog 84 = 8 := by kernel_rfl
@[push_cast] theorem z84 : zeroD prog 84 = some ([.t (.v (.int .u64 0))]) := by kernel_rfl
@[push_cast] theorem u84 : prog.underlying 84 = some (.int .u64) := by kernel_rfl
@[push_cast] theorem c88 : prog.cellsOf 88 = 1 := by kernel_rfl
@[push_cast] theorem g88 : isAggB prog 88 = false := by kernel_rfl
@[push_cast] theorem s88 : (prog.underlying 88).isSome = true := by kernel_rfl
@[push_cast] theorem i88 : (prog.info? 88).isSome = true := by kernel_rfl
@[push_cast] theorem m88 : concreteB prog 88 = true := by kernel_rfl
@[push_cast] theorem a88 : elemOk prog 88 = true := by kernel_rfl
@[push_cast] theorem b88 : bytesOf prog 88 = 24 := by kernel_rfl
@[push_cast] theorem z88 : zeroD prog 88 = some ([.t (.v (.slice none 0 0))]) := by kernel_rfl
@[push_cast] theorem u88 : prog.underlying 88 = some (.slice 9) := by kernel_rfl
@[push_cast] theorem e88 : prog.elem 88 = 9 := by kernel_rfl
@[push_cast] theorem c90 : prog.cellsOf 90 = 1 := by kernel_rfl
@[push_cast] theorem g90 : isAggB prog 90 = false := by kernel_rfl
@[push_cast] theorem s90 : (prog.underlying 90).isSome = true := by kernel_rfl
@[push_cast] theorem i90 : (prog.info? 90).isSome = true := by kernel_rfl
@[push_cast] theorem m90 : concreteB prog 90 = true := by kernel_rfl
@[push_cast] theorem a90 : elemOk prog 90 = true := by kernel_rfl
@[push_cast] theorem b90 : bytesOf prog 90 = 8 := by kernel_rfl
@[push_cast] theorem z90 : zeroD prog 90 = some ([.t (.v (.int .u64 0))]) := by kernel_rfl
@[push_cast] theorem u90 : prog.underlying 90 = some (.int .u64) := by kernel_rfl
@[push_cast] theorem c92 : prog.cellsOf 92 = 8 := by kernel_rfl
@[push_cast] theorem g92 : isAggB prog 92 = true := by kernel_rfl
@[push_cast] theorem s92 : (prog.underlying 92).isSome = true := by kernel_rfl
@[push_cast] theorem i92 : (prog.info? 92).isSome = true := by kernel_rfl
@[push_cast] theorem m92 : concreteB prog 92 = true := by kernel_rfl
@[push_cast] theorem a92 : elemOk prog 92 = true := by kernel_rfl
@[push_cast] theorem b92 : bytesOf prog 92 = 32 := by kernel_rfl
@[push_cast] theorem z92 : zeroD prog 92 = some ([.t (.v (.int .u32 0)), .t (.v (.int .u32 0)), .t (.v (.int .u32 0)), .t (.v (.int .u32 0)), .t (.v (.int .u32 0)), .t (.v (.int .u32 0)), .t (.v (.int .u32 0)), .t (.v (.int .u32 0))]) := by kernel_rfl
@[push_cast] theorem u92 : prog.underlying 92 = some (.array 8 81) := by kernel_rfl
@[push_cast] theorem e92 : prog.elem 92 = 81 := by kernel_rfl
@[push_cast] theorem l92 : prog.arrayLen 92 = 8 := by kernel_rfl
@[push_cast] theorem p92 : placesOk prog 92 = true := by kernel_rfl
@[push_cast] theorem q92 (i : Nat) : placeOf prog 92 i = some (i * 1, 1) := by rw [placeOf_arr u92, c81]
@[push_cast] theorem c94 : prog.cellsOf 94 = 64 := by kernel_rfl
@[push_cast] theorem g94 : isAggB prog 94 = true := by kernel_rfl
@[push_cast] theorem s94 : (prog.underlying 94).isSome = true := by kernel_rfl
@[push_cast] theorem i94 : (prog.info? 94).isSome = true := by kernel_rfl
@[push_cast] theorem m94 : concreteB prog 94 = true := by kernel_rfl
@[push_cast] theorem a94 : elemOk prog 94 = true := by kernel_rfl
@[push_cast] theorem b94 : bytesOf prog 94 = 256 := by kernel_rfl
@[push_cast] theorem z94 : zeroD prog 94 = some (List.replicate 64 (.t (.v (.int .u32 0)))) := by kernel_rfl
@[push_cast] theorem u94 : prog.underlying 94 = some (.array 64 81) := by kernel_rfl
@[push_cast] theorem e94 : prog.elem 94 = 81 := by kernel_rfl
@[push_cast] theorem l94 : prog.arrayLen 94 = 64 := by kernel_rfl
@[push_cast] theorem p94 : placesOk prog 94 = true := by kernel_rfl
@[push_cast] theorem q94 (i : Nat) : placeOf prog 94 i = some (i * 1, 1) := by rw [placeOf_arr u94, c81]
@[push_cast] theorem c99 : prog.cellsOf 99 = 1 := by kernel_rfl
@[push_cast] theorem g99 : isAggB prog 99 = true := by kernel_rfl
@[push_cast] theorem s99 : (prog.underlying 99).isSome = true := by kernel_rfl
@[push_cast] theorem i99 : (prog.info? 99).isSome = true := by kernel_rfl
@[push_cast] theorem m99 : concreteB prog 99 = true := by kernel_rfl
@[push_cast] theorem a99 : elemOk prog 99 = true := by kernel_rfl
@[push_cast] theorem b99 : bytesOf prog 99 = 8 := by kernel_rfl
@[push_cast] theorem z99 : zeroD prog 99 = some ([.t (.v (.pointer none))]) := by kernel_rfl
@[push_cast] theorem f99_0 : fieldOf prog 99 0 = some (0, 1, 17) := by kernel_rfl
@[push_cast] theorem q99_0 : placeOf prog 99 0 = some (0, 1) := by kernel_rfl
@[push_cast] theorem p99 : placesOk prog 99 = true := by kernel_rfl
@[push_cast] theorem c101 : prog.cellsOf 101 = 1 := by kernel_rfl
@[push_cast] theorem g101 : isAggB prog 101 = false := by kernel_rfl
@[push_cast] theorem s101 : (prog.underlying 101).isSome = true := by kernel_rfl
@[push_cast] theorem i101 : (prog.info? 101).isSome = true := by kernel_rfl
@[push_cast] theorem a101 : elemOk prog 101 = true := by kernel_rfl
@[push_cast] theorem b101 : bytesOf prog 101 = 16 := by kernel_rfl
@[push_cast] theorem z101 : zeroD prog 101 = some ([.t (.v .nilIface)]) := by kernel_rfl
@[push_cast] theorem u101 : prog.underlying 101 = some (.interface (prog.methodsAt 101)) := by kernel_rfl
@[push_cast] theorem c104 : prog.cellsOf 104 = 1 := by kernel_rfl
@[push_cast] theorem g104 : isAggB prog 104 = false := by kernel_rfl
@[push_cast] theorem s104 : (prog.underlying 104).isSome = true := by kernel_rfl
@[push_cast] theorem i104 : (prog.info? 104).isSome = true := by kernel_rfl
@[push_cast] theorem a104 : elemOk prog 104 = true := by kernel_rfl
@[push_cast] theorem b104 : bytesOf prog 104 = 16 := by kernel_rfl
@[push_cast] theorem z104 : zeroD prog 104 = some ([.t (.v .nilIface)]) := by kernel_rfl
@[push_cast] theorem u104 : prog.underlying 104 = some (.interface (prog.methodsAt 104)) := by kernel_rfl
@[push_cast] theorem c106 : prog.cellsOf 106 = 1 := by kernel_rfl
@[push_cast] theorem g106 : isAggB prog 106 = false := by kernel_rfl
@[push_cast] theorem s106 : (prog.underlying 106).isSome = true := by kernel_rfl
@[push_cast] theorem i106 : (prog.info? 106).isSome = true := by kernel_rfl
@[push_cast] theorem a106 : elemOk prog 106 = true := by kernel_rfl
@[push_cast] theorem b106 : bytesOf prog 106 = 16 := by kernel_rfl
@[push_cast] theorem z106 : zeroD prog 106 = some ([.t (.v .nilIface)]) := by kernel_rfl
@[push_cast] theorem u106 : prog.underlying 106 = some (.interface (prog.methodsAt 106)) := by kernel_rfl
@[push_cast] theorem c107 : prog.cellsOf 107 = 1 := by kernel_rfl
@[push_cast] theorem g107 : isAggB prog 107 = false := by kernel_rfl
@[push_cast] theorem s107 : (prog.underlying 107).isSome = true := by kernel_rfl
@[push_cast] theorem i107 : (prog.info? 107).isSome = true := by kernel_rfl
@[push_cast] theorem m107 : concreteB prog 107 = true := by kernel_rfl
@[push_cast] theorem a107 : elemOk prog 107 = true := by kernel_rfl
@[push_cast] theorem b107 : bytesOf prog 107 = 24 := by kernel_rfl
@[push_cast] theorem z107 : zeroD prog 107 = some ([.t (.v (.slice none 0 0))]) := by kernel_rfl
@[push_cast] theorem u107 : prog.underlying 107 = some (.slice 41) := by kernel_rfl
@[push_cast] theorem e107 : prog.elem 107 = 41 := by kernel_rfl
@[push_cast] theorem c114 : prog.cellsOf 114 = 2 := by kernel_rfl
@[push_cast] theorem g114 : isAggB prog 114 = true := by kernel_rfl
@[push_cast] theorem s114 : (prog.underlying 114).isSome = true := by kernel_rfl
@[push_cast] theorem i114 : (prog.info? 114).isSome = true := by kernel_rfl
@[push_cast] theorem m114 : concreteB prog 114 = true := by kernel_rfl
@[push_cast] theorem a114 : elemOk prog 114 = true := by kernel_rfl
@[push_cast] theorem b114 : bytesOf prog 114 = 24 := by kernel_rfl
@[push_cast] theorem z114 : zeroD prog 114 = some ([.t (.v (.int .i64 0)), .t (.v .nilIface)]) := by kernel_rfl
@[push_cast] theorem f114_0 : fieldOf prog 114 0 = some (0, 1, 3) := by kernel_rfl
@[push_cast] theorem q114_0 : placeOf prog 114 0 = some (0, 1) := by kernel_rfl
@[push_cast] theorem f114_1 : fieldOf prog 114 1 = some (1, 1, 41) := by kernel_rfl
@[push_cast] theorem q114_1 : placeOf prog 114 1 = some (1, 1) := by kernel_rfl
@[push_cast] theorem p114 : placesOk prog 114 = true := by kernel_rfl
@[push_cast] theorem c115 : prog.cellsOf 115 = 1 := by kernel_rfl
@[push_cast] theorem g115 : isAggB prog 115 = false := by kernel_rfl
@[push_cast] theorem s115 : (prog.underlying 115).isSome = true := by kernel_rfl
@[push_cast] theorem i115 : (prog.info? 115).isSome = true := by kernel_rfl
@[push_cast] theorem m115 : concreteB prog 115 = true := by kernel_rfl
@[push_cast] theorem a115 : elemOk prog 115 = true := by kernel_rfl
@[push_cast] theorem b115 : bytesOf prog 115 = 8 := by kernel_rfl
@[push_cast] theorem z115 : zeroD prog 115 = some ([.t (.v (.pointer none))]) := by kernel_rfl
@[push_cast] theorem c116 : prog.cellsOf 116 = 1 := by kernel_rfl
@[push_cast] theorem g116 : isAggB prog 116 = false := by kernel_rfl
@[push_cast] theorem s116 : (prog.underlying 116).isSome = true := by kernel_rfl
@[push_cast] theorem i116 : (prog.info? 116).isSome = true := by kernel_rfl
@[push_cast] theorem m116 : concreteB prog 116 = true := by kernel_rfl
@[push_cast] theorem a116 : elemOk prog 116 = true := by kernel_rfl
@[push_cast] theorem b116 : bytesOf prog 116 = 8 := by kernel_rfl
@[push_cast] theorem z116 : zeroD prog 116 = some ([.t (.v (.int .u64 0))]) := by kernel_rfl
@[push_cast] theorem u116 : prog.underlying 116 = some (.int .u64) := by kernel_rfl
@[push_cast] theorem c118 : prog.cellsOf 118 = 3 := by kernel_rfl
@[push_cast] theorem g118 : isAggB prog 118 = true := by kernel_rfl
@[push_cast] theorem s118 : (prog.underlying 118).isSome = true := by kernel_rfl
@[push_cast] theorem i118 : (prog.info? 118).isSome = true := by kernel_rfl
@[push_cast] theorem m118 : concreteB prog 118 = true := by kernel_rfl
@[push_cast] theorem a118 : elemOk prog 118 = true := by kernel_rfl
@[push_cast] theorem b118 : bytesOf prog 118 = 24 := by kernel_rfl
@[push_cast] theorem z118 : zeroD prog 118 = some ([.t (.v (.pointer none)), .t (.v (.pointer none)), .t (.v (.int .u64 0))]) := by kernel_rfl
@[push_cast] theorem f118_0 : fieldOf prog 118 0 = some (0, 1, 17) := by kernel_rfl
@[push_cast] theorem q118_0 : placeOf prog 118 0 = some (0, 1) := by kernel_rfl
@[push_cast] theorem f118_1 : fieldOf prog 118 1 = some (1, 1, 115) := by kernel_rfl
@[push_cast] theorem q118_1 : placeOf prog 118 1 = some (1, 1) := by kernel_rfl
@[push_cast] theorem f118_2 : fieldOf prog 118 2 = some (2, 1, 116) := by kernel_rfl
@[push_cast] theorem q118_2 : placeOf prog 118 2 = some (2, 1) := by kernel_rfl
@[push_cast] theorem p118 : placesOk prog 118 = true := by kernel_rfl
@[push_cast] theorem c121 : prog.cellsOf 121 = 1 := by kernel_rfl
@[push_cast] theorem g121 : isAggB prog 121 = false := by kernel_rfl
@[push_cast] theorem s121 : (prog.underlying 121).isSome = true := by kernel_rfl
@[push_cast] theorem i121 : (prog.info? 121).isSome = true := by kernel_rfl
@[push_cast] theorem m121 : concreteB prog 121 = true := by kernel_rfl
@[push_cast] theorem a121 : elemOk prog 121 = true := by kernel_rfl
@[push_cast] theorem b121 : bytesOf prog 121 = 1 := by kernel_rfl
@[push_cast] theorem z121 : zeroD prog 121 = some ([.t (.v (.int .u8 0))]) := by kernel_rfl
@[push_cast] theorem u121 : prog.underlying 121 = some (.int .u8) := by kernel_rfl
@[push_cast] theorem c128 : prog.cellsOf 128 = 1 := by kernel_rfl
@[push_cast] theorem g128 : isAggB prog 128 = false := by kernel_rfl
@[push_cast] theorem s128 : (prog.underlying 128).isSome = true := by kernel_rfl
@[push_cast] theorem i128 : (prog.info? 128).isSome = true := by kernel_rfl
@[push_cast] theorem m128 : concreteB prog 128 = true := by kernel_rfl
@[push_cast] theorem a128 : elemOk prog 128 = true := by kernel_rfl
@[push_cast] theorem b128 : bytesOf prog 128 = 8 := by kernel_rfl
@[push_cast] theorem z128 : zeroD prog 128 = some ([.t (.v (.pointer none))]) := by kernel_rfl
@[push_cast] theorem c130 : prog.cellsOf 130 = 2 := by kernel_rfl
@[push_cast] theorem g130 : isAggB prog 130 = true := by kernel_rfl
@[push_cast] theorem s130 : (prog.underlying 130).isSome = true := by kernel_rfl
@[push_cast] theorem i130 : (prog.info? 130).isSome = true := by kernel_rfl
@[push_cast] theorem m130 : concreteB prog 130 = true := by kernel_rfl
@[push_cast] theorem a130 : elemOk prog 130 = true := by kernel_rfl
@[push_cast] theorem b130 : bytesOf prog 130 = 32 := by kernel_rfl
@[push_cast] theorem z130 : zeroD prog 130 = some ([.t (.v (.pointer none)), .t (.v (.slice none 0 0))]) := by kernel_rfl
@[push_cast] theorem f130_0 : fieldOf prog 130 0 = some (0, 1, 128) := by kernel_rfl
@[push_cast] theorem q130_0 : placeOf prog 130 0 = some (0, 1) := by kernel_rfl
@[push_cast] theorem f130_1 : fieldOf prog 130 1 = some (1, 1, 30) := by kernel_rfl
@[push_cast] theorem q130_1 : placeOf prog 130 1 = some (1, 1) := by kernel_rfl
@[push_cast] theorem p130 : placesOk prog 130 = true := by kernel_rfl
@[push_cast] theorem c143 : prog.cellsOf 143 = 1 := by kernel_rfl
@[push_cast] theorem g143 : isAggB prog 143 = false := by kernel_rfl
@[push_cast] theorem s143 : (prog.underlying 143).isSome = true := by kernel_rfl
@[push_cast] theorem i143 : (prog.info? 143).isSome = true := by kernel_rfl
@[push_cast] theorem a143 : elemOk prog 143 = true := by kernel_rfl
@[push_cast] theorem b143 : bytesOf prog 143 = 16 := by kernel_rfl
@[push_cast] theorem z143 : zeroD prog 143 = some ([.t (.v .nilIface)]) := by kernel_rfl
@[push_cast] theorem u143 : prog.underlying 143 = some (.interface (prog.methodsAt 143)) := by kernel_rfl
@[push_cast] theorem k2 : callOk prog 2 = true := by kernel_rfl
@[push_cast] theorem k3 : callOk prog 3 = true := by kernel_rfl
@[push_cast] theorem k4 : callOk prog 4 = true := by kernel_rfl
@[push_cast] theorem k5 : callOk prog 5 = true := by kernel_rfl
@[push_cast] theorem k6 : callOk prog 6 = true := by kernel_rfl
@[push_cast] theorem k7 : callOk prog 7 = true := by kernel_rfl
@[push_cast] theorem k8 : callOk prog 8 = true := by kernel_rfl
@[push_cast] theorem k9 : callOk prog 9 = true := by kernel_rfl
@[push_cast] theorem k10 : callOk prog 10 = true := by kernel_rfl
@[push_cast] theorem k11 : callOk prog 11 = true := by kernel_rfl
@[push_cast] theorem k12 : callOk prog 12 = true := by kernel_rfl
@[push_cast] theorem k13 : callOk prog 13 = true := by kernel_rfl
@[push_cast] theorem k14 : callOk prog 14 = true := by kernel_rfl
@[push_cast] theorem k15 : callOk prog 15 = true := by kernel_rfl
@[push_cast] theorem k16 : callOk prog 16 = true := by kernel_rfl
@[push_cast] theorem k17 : callOk prog 17 = true := by kernel_rfl
@[push_cast] theorem k18 : callOk prog 18 = true := by kernel_rfl
@[push_cast] theorem k19 : callOk prog 19 = true := by kernel_rfl
@[push_cast] theorem k20 : callOk prog 20 = true := by kernel_rfl
@[push_cast] theorem k21 : callOk prog 21 = true := by kernel_rfl
@[push_cast] theorem k22 : callOk prog 22 = true := by kernel_rfl
@[push_cast] theorem k23 : callOk prog 23 = true := by kernel_rfl
@[push_cast] theorem k24 : callOk prog 24 = true := by kernel_rfl
@[push_cast] theorem k25 : callOk prog 25 = true := by kernel_rfl
@[push_cast] theorem k26 : callOk prog 26 = true := by kernel_rfl
@[push_cast] theorem k27 : callOk prog 27 = true := by kernel_rfl
@[push_cast] theorem k28 : callOk prog 28 = true := by kernel_rfl
@[push_cast] theorem k29 : callOk prog 29 = true := by kernel_rfl
@[push_cast] theorem k30 : callOk prog 30 = true := by kernel_rfl
@[push_cast] theorem k31 : callOk prog 31 = true := by kernel_rfl
@[push_cast] theorem k32 : callOk prog 32 = true := by kernel_rfl
@[push_cast] theorem k34 : callOk prog 34 = true := by kernel_rfl
@[push_cast] theorem k35 : callOk prog 35 = true := by kernel_rfl
@[push_cast] theorem k36 : callOk prog 36 = true := by kernel_rfl
@[push_cast] theorem k37 : callOk prog 37 = true := by kernel_rfl
@[push_cast] theorem k38 : callOk prog 38 = true := by kernel_rfl
@[push_cast] theorem k39 : callOk prog 39 = true := by kernel_rfl
@[push_cast] theorem k40 : callOk prog 40 = true := by kernel_rfl
@[push_cast] theorem k41 : callOk prog 41 = true := by kernel_rfl
@[push_cast] theorem k42 : callOk prog 42 = true := by kernel_rfl
@[push_cast] theorem k43 : callOk prog 43 = true := by kernel_rfl
@[push_cast] theorem k44 : callOk prog 44 = true := by kernel_rfl
@[push_cast] theorem k45 : callOk prog 45 = true := by kernel_rfl
@[push_cast] theorem k46 : callOk prog 46 = true := by kernel_rfl
@[push_cast] theorem k47 : callOk prog 47 = true := by kernel_rfl
@[push_cast] theorem k48 : callOk prog 48 = true := by kernel_rfl
@[push_cast] theorem k49 : callOk prog 49 = true := by kernel_rfl
@[push_cast] theorem k50 : callOk prog 50 = true := by kernel_rfl
@[push_cast] theorem k51 : callOk prog 51 = true := by kernel_rfl
@[push_cast] theorem k52 : callOk prog 52 = true := by kernel_rfl
@[push_cast] theorem k53 : callOk prog 53 = true := by kernel_rfl
@[push_cast] theorem k54 : callOk prog 54 = true := by kernel_rfl
@[push_cast] theorem k55 : callOk prog 55 = true := by kernel_rfl
@[push_cast] theorem k56 : callOk prog 56 = true := by kernel_rfl
@[push_cast] theorem k57 : callOk prog 57 = true := by kernel_rfl
@[push_cast] theorem k58 : callOk prog 58 = true := by kernel_rfl
@[push_cast] theorem k62 : callOk prog 62 = true := by kernel_rfl
@[push_cast] theorem k63 : callOk prog 63 = true := by kernel_rfl
@[push_cast] theorem k64 : callOk prog 64 = true := by kernel_rfl
@[push_cast] theorem k65 : callOk prog 65 = true := by kernel_rfl
@[push_cast] theorem k66 : callOk prog 66 = true := by kernel_rfl
@[push_cast] theorem k67 : callOk prog 67 = true := by kernel_rfl
@[push_cast] theorem k68 : callOk prog 68 = true := by kernel_rfl
@[push_cast] theorem k69 : callOk prog 69 = true := by kernel_rfl
@[push_cast] theorem k70 : callOk prog 70 = true := by kernel_rfl
@[push_cast] theorem k71 : callOk prog 71 = true := by kernel_rfl
@[push_cast] theorem k72 : callOk prog 72 = true := by kernel_rfl
@[push_cast] theorem k73 : callOk prog 73 = true := by kernel_rfl
@[push_cast] theorem k74 : callOk prog 74 = true := by kernel_rfl
@[push_cast] theorem k75 : callOk prog 75 = true := by kernel_rfl
@[push_cast] theorem k78 : callOk prog 78 = true := by kernel_rfl
@[push_cast] theorem k79 : callOk prog 79 = true := by kernel_rfl
@[push_cast] theorem k80 : callOk prog 80 = true := by kernel_rfl
@[push_cast] theorem k81 : callOk prog 81 = true := by kernel_rfl
@[push_cast] theorem k82 : callOk prog 82 = true := by kernel_rfl
@[push_cast] theorem k83 : callOk prog 83 = true := by kernel_rfl
@[push_cast] theorem k84 : callOk prog 84 = true := by kernel_rfl
@[push_cast] theorem k85 : callOk prog 85 = true := by kernel_rfl
@[push_cast] theorem k86 : callOk prog 86 = true := by kernel_rfl
@[push_cast] theorem k87 : callOk prog 87 = true := by kernel_rfl
@[push_cast] theorem k88 : callOk prog 88 = true := by kernel_rfl
@[push_cast] theorem k89 : callOk prog 89 = true := by kernel_rfl
@[push_cast] theorem k111 : callOk prog 111 = true := by kernel_rfl
@[push_cast] theorem k125 : callOk prog 125 = true := by kernel_rfl
@[push_cast] theorem k134 : callOk prog 134 = true := by kernel_rfl
@[push_cast] theorem mix : prog.follows .mixedOrders = true := by kernel_rfl
end Go.Proofs.Tryz.F
