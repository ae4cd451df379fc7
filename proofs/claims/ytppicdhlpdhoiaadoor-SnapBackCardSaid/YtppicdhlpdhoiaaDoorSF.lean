/- Facts about the program's types: made by wip/ot/facts.py. -/
import Derived.Test.YtppicdhlpdhoiaaDoorProg
import Derived.Test.YtppicdhlpdhoiaaDoorOtD
set_option linter.unusedVariables false
namespace Go.Proofs.Tryd.F
open Go Go.Proofs Go.Ot
@[push_cast] theorem c3 : prog.cellsOf 3 = 1 := by kernel_rfl
@[push_cast] theorem g3 : isAggB prog 3 = false := by kernel_rfl
@[push_cast] theorem s3 : (prog.underlying 3).isSome = true := by kernel_rfl
@[push_cast] theorem i3 : (prog.info? 3).isSome = true := by kernel_rfl
@[push_cast] theorem m3 : concreteB prog 3 = true := by kernel_rfl
@[push_cast] theorem a3 : elemOk prog 3 = true := by kernel_rfl
@[push_cast] theorem b3 : bytesOf prog 3 = 8 := by kernel_rfl
@[push_cast] theorem z3 : zeroD prog 3 = some ([.t (.v (.int .i64 0))]) := by kernel_rfl
@[push_cast] theorem u3 : prog.underlying 3 = some (.int .i64) := by kernel_rfl
@[push_cast] theorem c4 : prog.cellsOf 4 = 1 := by kernel_rfl
@[push_cast] theorem g4 : isAggB prog 4 = false := by kernel_rfl
@[push_cast] theorem s4 : (prog.underlying 4).isSome = true := by kernel_rfl
@[push_cast] theorem i4 : (prog.info? 4).isSome = true := by kernel_rfl
@[push_cast] theorem m4 : concreteB prog 4 = true := by kernel_rfl
@[push_cast] theorem a4 : elemOk prog 4 = true := by kernel_rfl
@[push_cast] theorem b4 : bytesOf prog 4 = 1 := by kernel_rfl
@[push_cast] theorem z4 : zeroD prog 4 = some ([.t (.v (.bool false))]) := by kernel_rfl
@[push_cast] theorem u4 : prog.underlying 4 = some .bool := by kernel_rfl
@[push_cast] theorem c5 : prog.cellsOf 5 = 1 := by kernel_rfl
@[push_cast] theorem g5 : isAggB prog 5 = false := by kernel_rfl
@[push_cast] theorem s5 : (prog.underlying 5).isSome = true := by kernel_rfl
@[push_cast] theorem i5 : (prog.info? 5).isSome = true := by kernel_rfl
@[push_cast] theorem m5 : concreteB prog 5 = true := by kernel_rfl
@[push_cast] theorem a5 : elemOk prog 5 = true := by kernel_rfl
@[push_cast] theorem b5 : bytesOf prog 5 = 1 := by kernel_rfl
@[push_cast] theorem z5 : zeroD prog 5 = some ([.t (.v (.int .u8 0))]) := by kernel_rfl
@[push_cast] theorem u5 : prog.underlying 5 = some (.int .u8) := by kernel_rfl
@[push_cast] theorem c9 : prog.cellsOf 9 = 1 := by kernel_rfl
@[push_cast] theorem g9 : isAggB prog 9 = false := by kernel_rfl
@[push_cast] theorem s9 : (prog.underlying 9).isSome = true := by kernel_rfl
@[push_cast] theorem i9 : (prog.info? 9).isSome = true := by kernel_rfl
@[push_cast] theorem m9 : concreteB prog 9 = true := by kernel_rfl
@[push_cast] theorem a9 : elemOk prog 9 = true := by kernel_rfl
@[push_cast] theorem b9 : bytesOf prog 9 = 16 := by kernel_rfl
@[push_cast] theorem z9 : zeroD prog 9 = some ([.t (.v (.string ⟨#[]⟩))]) := by kernel_rfl
@[push_cast] theorem u9 : prog.underlying 9 = some .string := by kernel_rfl
@[push_cast] theorem c17 : prog.cellsOf 17 = 1 := by kernel_rfl
@[push_cast] theorem g17 : isAggB prog 17 = false := by kernel_rfl
@[push_cast] theorem s17 : (prog.underlying 17).isSome = true := by kernel_rfl
@[push_cast] theorem i17 : (prog.info? 17).isSome = true := by kernel_rfl
@[push_cast] theorem m17 : concreteB prog 17 = true := by kernel_rfl
@[push_cast] theorem a17 : elemOk prog 17 = true := by kernel_rfl
@[push_cast] theorem b17 : bytesOf prog 17 = 8 := by kernel_rfl
@[push_cast] theorem z17 : zeroD prog 17 = some ([.t (.v (.pointer none))]) := by kernel_rfl
@[push_cast] theorem c20 : prog.cellsOf 20 = 1 := by kernel_rfl
@[push_cast] theorem g20 : isAggB prog 20 = false := by kernel_rfl
@[push_cast] theorem s20 : (prog.underlying 20).isSome = true := by kernel_rfl
@[push_cast] theorem i20 : (prog.info? 20).isSome = true := by kernel_rfl
@[push_cast] theorem a20 : elemOk prog 20 = true := by kernel_rfl
@[push_cast] theorem b20 : bytesOf prog 20 = 16 := by kernel_rfl
@[push_cast] theorem z20 : zeroD prog 20 = some ([.t (.v .nilIface)]) := by kernel_rfl
@[push_cast] theorem u20 : prog.underlying 20 = some (.interface (prog.methodsAt 20)) := by kernel_rfl
@[push_cast] theorem c22 : prog.cellsOf 22 = 1 := by kernel_rfl
@[push_cast] theorem g22 : isAggB prog 22 = false := by kernel_rfl
@[push_cast] theorem s22 : (prog.underlying 22).isSome = true := by kernel_rfl
@[push_cast] theorem i22 : (prog.info? 22).isSome = true := by kernel_rfl
@[push_cast] theorem m22 : concreteB prog 22 = true := by kernel_rfl
@[push_cast] theorem a22 : elemOk prog 22 = true := by kernel_rfl
@[push_cast] theorem b22 : bytesOf prog 22 = 24 := by kernel_rfl
@[push_cast] theorem z22 : zeroD prog 22 = some ([.t (.v (.slice none 0 0))]) := by kernel_rfl
@[push_cast] theorem u22 : prog.underlying 22 = some (.slice 5) := by kernel_rfl
@[push_cast] theorem e22 : prog.elem 22 = 5 := by kernel_rfl
@[push_cast] theorem c23 : prog.cellsOf 23 = 1 := by kernel_rfl
@[push_cast] theorem g23 : isAggB prog 23 = false := by kernel_rfl
@[push_cast] theorem s23 : (prog.underlying 23).isSome = true := by kernel_rfl
@[push_cast] theorem i23 : (prog.info? 23).isSome = true := by kernel_rfl
@[push_cast] theorem m23 : concreteB prog 23 = true := by kernel_rfl
@[push_cast] theorem a23 : elemOk prog 23 = true := by kernel_rfl
@[push_cast] theorem b23 : bytesOf prog 23 = 2 := by kernel_rfl
@[push_cast] theorem z23 : zeroD prog 23 = some ([.t (.v (.int .u16 0))]) := by kernel_rfl
@[push_cast] theorem u23 : prog.underlying 23 = some (.int .u16) := by kernel_rfl
@[push_cast] theorem c25 : prog.cellsOf 25 = 1 := by kernel_rfl
@[push_cast] theorem g25 : isAggB prog 25 = false := by kernel_rfl
@[push_cast] theorem s25 : (prog.underlying 25).isSome = true := by kernel_rfl
@[push_cast] theorem i25 : (prog.info? 25).isSome = true := by kernel_rfl
@[push_cast] theorem m25 : concreteB prog 25 = true := by kernel_rfl
@[push_cast] theorem a25 : elemOk prog 25 = true := by kernel_rfl
@[push_cast] theorem b25 : bytesOf prog 25 = 24 := by kernel_rfl
@[push_cast] theorem z25 : zeroD prog 25 = some ([.t (.v (.slice none 0 0))]) := by kernel_rfl
@[push_cast] theorem u25 : prog.underlying 25 = some (.slice 46) := by kernel_rfl
@[push_cast] theorem e25 : prog.elem 25 = 46 := by kernel_rfl
@[push_cast] theorem c26 : prog.cellsOf 26 = 1 := by kernel_rfl
@[push_cast] theorem g26 : isAggB prog 26 = false := by kernel_rfl
@[push_cast] theorem s26 : (prog.underlying 26).isSome = true := by kernel_rfl
@[push_cast] theorem i26 : (prog.info? 26).isSome = true := by kernel_rfl
@[push_cast] theorem m26 : concreteB prog 26 = true := by kernel_rfl
@[push_cast] theorem a26 : elemOk prog 26 = true := by kernel_rfl
@[push_cast] theorem b26 : bytesOf prog 26 = 24 := by kernel_rfl
@[push_cast] theorem z26 : zeroD prog 26 = some ([.t (.v (.slice none 0 0))]) := by kernel_rfl
@[push_cast] theorem u26 : prog.underlying 26 = some (.slice 42) := by kernel_rfl
@[push_cast] theorem e26 : prog.elem 26 = 42 := by kernel_rfl
@[push_cast] theorem c28 : prog.cellsOf 28 = 2 := by kernel_rfl
@[push_cast] theorem g28 : isAggB prog 28 = true := by kernel_rfl
@[push_cast] theorem s28 : (prog.underlying 28).isSome = true := by kernel_rfl
@[push_cast] theorem i28 : (prog.info? 28).isSome = true := by kernel_rfl
@[push_cast] theorem m28 : concreteB prog 28 = true := by kernel_rfl
@[push_cast] theorem a28 : elemOk prog 28 = true := by kernel_rfl
@[push_cast] theorem b28 : bytesOf prog 28 = 48 := by kernel_rfl
@[push_cast] theorem z28 : zeroD prog 28 = some ([.t (.v (.slice none 0 0)), .t (.v (.slice none 0 0))]) := by kernel_rfl
@[push_cast] theorem f28_0 : fieldOf prog 28 0 = some (0, 1, 25) := by kernel_rfl
@[push_cast] theorem q28_0 : placeOf prog 28 0 = some (0, 1) := by kernel_rfl
@[push_cast] theorem f28_1 : fieldOf prog 28 1 = some (1, 1, 26) := by kernel_rfl
@[push_cast] theorem q28_1 : placeOf prog 28 1 = some (1, 1) := by kernel_rfl
@[push_cast] theorem p28 : placesOk prog 28 = true := by kernel_rfl
@[push_cast] theorem c30 : prog.cellsOf 30 = 1 := by kernel_rfl
@[push_cast] theorem g30 : isAggB prog 30 = false := by kernel_rfl
@[push_cast] theorem s30 : (prog.underlying 30).isSome = true := by kernel_rfl
@[push_cast] theorem i30 : (prog.info? 30).isSome = true := by kernel_rfl
@[push_cast] theorem m30 : concreteB prog 30 = true := by kernel_rfl
@[push_cast] theorem a30 : elemOk prog 30 = true := by kernel_rfl
@[push_cast] theorem b30 : bytesOf prog 30 = 24 := by kernel_rfl
@[push_cast] theorem z30 : zeroD prog 30 = some ([.t (.v (.slice none 0 0))]) := by kernel_rfl
@[push_cast] theorem u30 : prog.underlying 30 = some (.slice 28) := by kernel_rfl
@[push_cast] theorem e30 : prog.elem 30 = 28 := by kernel_rfl
@[push_cast] theorem c40 : prog.cellsOf 40 = 2 := by kernel_rfl
@[push_cast] theorem g40 : isAggB prog 40 = true := by kernel_rfl
@[push_cast] theorem s40 : (prog.underlying 40).isSome = true := by kernel_rfl
@[push_cast] theorem i40 : (prog.info? 40).isSome = true := by kernel_rfl
@[push_cast] theorem m40 : concreteB prog 40 = true := by kernel_rfl
@[push_cast] theorem a40 : elemOk prog 40 = true := by kernel_rfl
@[push_cast] theorem b40 : bytesOf prog 40 = 16 := by kernel_rfl
@[push_cast] theorem z40 : zeroD prog 40 = some ([.t (.v (.int .i64 0)), .t (.v (.int .i64 0))]) := by kernel_rfl
@[push_cast] theorem f40_0 : fieldOf prog 40 0 = some (0, 1, 3) := by kernel_rfl
@[push_cast] theorem q40_0 : placeOf prog 40 0 = some (0, 1) := by kernel_rfl
@[push_cast] theorem f40_1 : fieldOf prog 40 1 = some (1, 1, 3) := by kernel_rfl
@[push_cast] theorem q40_1 : placeOf prog 40 1 = some (1, 1) := by kernel_rfl
@[push_cast] theorem p40 : placesOk prog 40 = true := by kernel_rfl
@[push_cast] theorem c42 : prog.cellsOf 42 = 6 := by kernel_rfl
@[push_cast] theorem g42 : isAggB prog 42 = true := by kernel_rfl
@[push_cast] theorem s42 : (prog.underlying 42).isSome = true := by kernel_rfl
@[push_cast] theorem i42 : (prog.info? 42).isSome = true := by kernel_rfl
@[push_cast] theorem m42 : concreteB prog 42 = true := by kernel_rfl
@[push_cast] theorem a42 : elemOk prog 42 = true := by kernel_rfl
@[push_cast] theorem b42 : bytesOf prog 42 = 64 := by kernel_rfl
@[push_cast] theorem z42 : zeroD prog 42 = some ([.t (.v (.int .i64 0)), .t (.v (.int .i64 0)), .t (.v (.string ⟨#[]⟩)), .t (.v (.int .i64 0)), .t (.v (.string ⟨#[]⟩)), .t (.v (.int .i64 0))]) := by kernel_rfl
@[push_cast] theorem f42_0 : fieldOf prog 42 0 = some (0, 2, 40) := by kernel_rfl
@[push_cast] theorem q42_0 : placeOf prog 42 0 = some (0, 2) := by kernel_rfl
@[push_cast] theorem f42_1 : fieldOf prog 42 1 = some (2, 1, 9) := by kernel_rfl
@[push_cast] theorem q42_1 : placeOf prog 42 1 = some (2, 1) := by kernel_rfl
@[push_cast] theorem f42_2 : fieldOf prog 42 2 = some (3, 1, 3) := by kernel_rfl
@[push_cast] theorem q42_2 : placeOf prog 42 2 = some (3, 1) := by kernel_rfl
@[push_cast] theorem f42_3 : fieldOf prog 42 3 = some (4, 1, 9) := by kernel_rfl
@[push_cast] theorem q42_3 : placeOf prog 42 3 = some (4, 1) := by kernel_rfl
@[push_cast] theorem f42_4 : fieldOf prog 42 4 = some (5, 1, 3) := by kernel_rfl
@[push_cast] theorem q42_4 : placeOf prog 42 4 = some (5, 1) := by kernel_rfl
@[push_cast] theorem p42 : placesOk prog 42 = true := by kernel_rfl
@[push_cast] theorem c46 : prog.cellsOf 46 = 3 := by kernel_rfl
@[push_cast] theorem g46 : isAggB prog 46 = true := by kernel_rfl
@[push_cast] theorem s46 : (prog.underlying 46).isSome = true := by kernel_rfl
@[push_cast] theorem i46 : (prog.info? 46).isSome = true := by kernel_rfl
@[push_cast] theorem m46 : concreteB prog 46 = true := by kernel_rfl
@[push_cast] theorem a46 : elemOk prog 46 = true := by kernel_rfl
@[push_cast] theorem b46 : bytesOf prog 46 = 24 := by kernel_rfl
@[push_cast] theorem z46 : zeroD prog 46 = some ([.t (.v (.int .i64 0)), .t (.v (.int .i64 0)), .t (.v (.int .i64 0))]) := by kernel_rfl
@[push_cast] theorem f46_0 : fieldOf prog 46 0 = some (0, 1, 3) := by kernel_rfl
@[push_cast] theorem q46_0 : placeOf prog 46 0 = some (0, 1) := by kernel_rfl
@[push_cast] theorem f46_1 : fieldOf prog 46 1 = some (1, 1, 3) := by kernel_rfl
@[push_cast] theorem q46_1 : placeOf prog 46 1 = some (1, 1) := by kernel_rfl
@[push_cast] theorem f46_2 : fieldOf prog 46 2 = some (2, 1, 3) := by kernel_rfl
@[push_cast] theorem q46_2 : placeOf prog 46 2 = some (2, 1) := by kernel_rfl
@[push_cast] theorem p46 : placesOk prog 46 = true := by kernel_rfl
@[push_cast] theorem c50 : prog.cellsOf 50 = 3 := by kernel_rfl
@[push_cast] theorem g50 : isAggB prog 50 = true := by kernel_rfl
@[push_cast] theorem s50 : (prog.underlying 50).isSome = true := by kernel_rfl
@[push_cast] theorem i50 : (prog.info? 50).isSome = true := by kernel_rfl
@[push_cast] theorem m50 : concreteB prog 50 = true := by kernel_rfl
@[push_cast] theorem a50 : elemOk prog 50 = true := by kernel_rfl
@[push_cast] theorem b50 : bytesOf prog 50 = 56 := by kernel_rfl
@[push_cast] theorem z50 : zeroD prog 50 = some ([.t (.v (.slice none 0 0)), .t (.v (.slice none 0 0)), .t (.v (.int .i64 0))]) := by kernel_rfl
@[push_cast] theorem f50_0 : fieldOf prog 50 0 = some (0, 2, 28) := by kernel_rfl
@[push_cast] theorem q50_0 : placeOf prog 50 0 = some (0, 2) := by kernel_rfl
@[push_cast] theorem f50_1 : fieldOf prog 50 1 = some (2, 1, 3) := by kernel_rfl
@[push_cast] theorem q50_1 : placeOf prog 50 1 = some (2, 1) := by kernel_rfl
@[push_cast] theorem p50 : placesOk prog 50 = true := by kernel_rfl
@[push_cast] theorem c53 : prog.cellsOf 53 = 4 := by kernel_rfl
@[push_cast] theorem g53 : isAggB prog 53 = true := by kernel_rfl
@[push_cast] theorem s53 : (prog.underlying 53).isSome = true := by kernel_rfl
@[push_cast] theorem i53 : (prog.info? 53).isSome = true := by kernel_rfl
@[push_cast] theorem m53 : concreteB prog 53 = true := by kernel_rfl
@[push_cast] theorem a53 : elemOk prog 53 = true := by kernel_rfl
@[push_cast] theorem b53 : bytesOf prog 53 = 48 := by kernel_rfl
@[push_cast] theorem z53 : zeroD prog 53 = some ([.t (.v (.int .i64 0)), .t (.v (.string ⟨#[]⟩)), .t (.v (.string ⟨#[]⟩)), .t (.v (.int .i64 0))]) := by kernel_rfl
@[push_cast] theorem f53_0 : fieldOf prog 53 0 = some (0, 1, 3) := by kernel_rfl
@[push_cast] theorem q53_0 : placeOf prog 53 0 = some (0, 1) := by kernel_rfl
@[push_cast] theorem f53_1 : fieldOf prog 53 1 = some (1, 1, 9) := by kernel_rfl
@[push_cast] theorem q53_1 : placeOf prog 53 1 = some (1, 1) := by kernel_rfl
@[push_cast] theorem f53_2 : fieldOf prog 53 2 = some (2, 1, 9) := by kernel_rfl
@[push_cast] theorem q53_2 : placeOf prog 53 2 = some (2, 1) := by kernel_rfl
@[push_cast] theorem f53_3 : fieldOf prog 53 3 = some (3, 1, 3) := by kernel_rfl
@[push_cast] theorem q53_3 : placeOf prog 53 3 = some (3, 1) := by kernel_rfl
@[push_cast] theorem p53 : placesOk prog 53 = true := by kernel_rfl
@[push_cast] theorem c55 : prog.cellsOf 55 = 1 := by kernel_rfl
@[push_cast] theorem g55 : isAggB prog 55 = false := by kernel_rfl
@[push_cast] theorem s55 : (prog.underlying 55).isSome = true := by kernel_rfl
@[push_cast] theorem i55 : (prog.info? 55).isSome = true := by kernel_rfl
@[push_cast] theorem m55 : concreteB prog 55 = true := by kernel_rfl
@[push_cast] theorem a55 : elemOk prog 55 = true := by kernel_rfl
@[push_cast] theorem b55 : bytesOf prog 55 = 24 := by kernel_rfl
@[push_cast] theorem z55 : zeroD prog 55 = some ([.t (.v (.slice none 0 0))]) := by kernel_rfl
@[push_cast] theorem u55 : prog.underlying 55 = some (.slice 57) := by kernel_rfl
@[push_cast] theorem e55 : prog.elem 55 = 57 := by kernel_rfl
@[push_cast] theorem c57 : prog.cellsOf 57 = 4 := by kernel_rfl
@[push_cast] theorem g57 : isAggB prog 57 = true := by kernel_rfl
@[push_cast] theorem s57 : (prog.underlying 57).isSome = true := by kernel_rfl
@[push_cast] theorem i57 : (prog.info? 57).isSome = true := by kernel_rfl
@[push_cast] theorem m57 : concreteB prog 57 = true := by kernel_rfl
@[push_cast] theorem a57 : elemOk prog 57 = true := by kernel_rfl
@[push_cast] theorem b57 : bytesOf prog 57 = 56 := by kernel_rfl
@[push_cast] theorem z57 : zeroD prog 57 = some ([.t (.v (.int .i64 0)), .t (.v (.int .i64 0)), .t (.v (.string ⟨#[]⟩)), .t (.v (.slice none 0 0))]) := by kernel_rfl
@[push_cast] theorem f57_0 : fieldOf prog 57 0 = some (0, 1, 3) := by kernel_rfl
@[push_cast] theorem q57_0 : placeOf prog 57 0 = some (0, 1) := by kernel_rfl
@[push_cast] theorem f57_1 : fieldOf prog 57 1 = some (1, 1, 3) := by kernel_rfl
@[push_cast] theorem q57_1 : placeOf prog 57 1 = some (1, 1) := by kernel_rfl
@[push_cast] theorem f57_2 : fieldOf prog 57 2 = some (2, 1, 9) := by kernel_rfl
@[push_cast] theorem q57_2 : placeOf prog 57 2 = some (2, 1) := by kernel_rfl
@[push_cast] theorem f57_3 : fieldOf prog 57 3 = some (3, 1, 55) := by kernel_rfl
@[push_cast] theorem q57_3 : placeOf prog 57 3 = some (3, 1) := by kernel_rfl
@[push_cast] theorem p57 : placesOk prog 57 = true := by kernel_rfl
@[push_cast] theorem c65 : prog.cellsOf 65 = 1 := by kernel_rfl
@[push_cast] theorem g65 : isAggB prog 65 = false := by kernel_rfl
@[push_cast] theorem s65 : (prog.underlying 65).isSome = true := by kernel_rfl
@[push_cast] theorem i65 : (prog.info? 65).isSome = true := by kernel_rfl
@[push_cast] theorem a65 : elemOk prog 65 = true := by kernel_rfl
@[push_cast] theorem b65 : bytesOf prog 65 = 16 := by kernel_rfl
@[push_cast] theorem z65 : zeroD prog 65 = some ([.t (.v .nilIface)]) := by kernel_rfl
@[push_cast] theorem u65 : prog.underlying 65 = some (.interface (prog.methodsAt 65)) := by kernel_rfl
@[push_cast] theorem c68 : prog.cellsOf 68 = 1 := by kernel_rfl
@[push_cast] theorem g68 : isAggB prog 68 = false := by kernel_rfl
@[push_cast] theorem s68 : (prog.underlying 68).isSome = true := by kernel_rfl
@[push_cast] theorem i68 : (prog.info? 68).isSome = true := by kernel_rfl
@[push_cast] theorem m68 : concreteB prog 68 = true := by kernel_rfl
@[push_cast] theorem a68 : elemOk prog 68 = true := by kernel_rfl
@[push_cast] theorem b68 : bytesOf prog 68 = 16 := by kernel_rfl
@[push_cast] theorem z68 : zeroD prog 68 = some ([.t (.v (.string ⟨#[]⟩))]) := by kernel_rfl
@[push_cast] theorem u68 : prog.underlying 68 = some .string := by kernel_rfl
@[push_cast] theorem c70 : prog.cellsOf 70 = 1 := by kernel_rfl
@[push_cast] theorem g70 : isAggB prog 70 = false := by kernel_rfl
@[push_cast] theorem s70 : (prog.underlying 70).isSome = true := by kernel_rfl
@[push_cast] theorem i70 : (prog.info? 70).isSome = true := by kernel_rfl
@[push_cast] theorem m70 : concreteB prog 70 = true := by kernel_rfl
@[push_cast] theorem a70 : elemOk prog 70 = true := by kernel_rfl
@[push_cast] theorem b70 : bytesOf prog 70 = 8 := by kernel_rfl
@[push_cast] theorem z70 : zeroD prog 70 = some ([.t (.v (.pointer none))]) := by kernel_rfl
@[push_cast] theorem c78 : prog.cellsOf 78 = 1 := by kernel_rfl
@[push_cast] theorem g78 : isAggB prog 78 = false := by kernel_rfl
@[push_cast] theorem s78 : (prog.underlying 78).isSome = true := by kernel_rfl
@[push_cast] theorem i78 : (prog.info? 78).isSome = true := by kernel_rfl
@[push_cast] theorem m78 : concreteB prog 78 = true := by kernel_rfl
@[push_cast] theorem a78 : elemOk prog 78 = true := by kernel_rfl
@[push_cast] theorem b78 : bytesOf prog 78 = 24 := by kernel_rfl
@[push_cast] theorem z78 : zeroD prog 78 = some ([.t (.v (.slice none 0 0))]) := by kernel_rfl
@[push_cast] theorem u78 : prog.underlying 78 = some (.slice 40) := by kernel_rfl
@[push_cast] theorem e78 : prog.elem 78 = 40 := by kernel_rfl
@[push_cast] theorem c83 : prog.cellsOf 83 = 1 := by kernel_rfl
@[push_cast] theorem g83 : isAggB prog 83 = false := by kernel_rfl
@[push_cast] theorem s83 : (prog.underlying 83).isSome = true := by kernel_rfl
@[push_cast] theorem i83 : (prog.info? 83).isSome = true := by kernel_rfl
@[push_cast] theorem m83 : concreteB prog 83 = true := by kernel_rfl
@[push_cast] theorem a83 : elemOk prog 83 = true := by kernel_rfl
@[push_cast] theorem b83 : bytesOf prog 83 = 8 := by kernel_rfl
@[push_cast] theorem z83 : zeroD prog 83 = some ([.t (.v .nilFunc)]) := by kernel_rfl
@[push_cast] theorem c85 : prog.cellsOf 85 = 1 := by kernel_rfl
@[push_cast] theorem g85 : isAggB prog 85 = false := by kernel_rfl
@[push_cast] theorem s85 : (prog.underlying 85).isSome = true := by kernel_rfl
@[push_cast] theorem i85 : (prog.info? 85).isSome = true := by kernel_rfl
@[push_cast] theorem m85 : concreteB prog 85 = true := by kernel_rfl
@[push_cast] theorem a85 : elemOk prog 85 = true := by kernel_rfl
@[push_cast] theorem b85 : bytesOf prog 85 = 8 := by kernel_rfl
@[push_cast] theorem z85 : zeroD prog 85 = some ([.t (.v (.pointer none))]) := by kernel_rfl
@[push_cast] theorem c87 : prog.cellsOf 87 = 1 := by kernel_rfl
@[push_cast] theorem g87 : isAggB prog 87 = true := by kernel_rfl
@[push_cast] theorem s87 : (prog.underlying 87).isSome = true := by kernel_rfl
@[push_cast] theorem i87 : (prog.info? 87).isSome = true := by kernel_rfl
@[push_cast] theorem m87 : concreteB prog 87 = true := by kernel_rfl
@[push_cast] theorem a87 : elemOk prog 87 = true := by kernel_rfl
@[push_cast] theorem b87 : bytesOf prog 87 = 16 := by kernel_rfl
@[push_cast] theorem z87 : zeroD prog 87 = some ([.t (.v (.string ⟨#[]⟩))]) := by kernel_rfl
@[push_cast] theorem f87_0 : fieldOf prog 87 0 = some (0, 1, 9) := by kernel_rfl
@[push_cast] theorem q87_0 : placeOf prog 87 0 = some (0, 1) := by kernel_rfl
@[push_cast] theorem p87 : placesOk prog 87 = true := by kernel_rfl
@[push_cast] theorem c90 : prog.cellsOf 90 = 1 := by kernel_rfl
@[push_cast] theorem g90 : isAggB prog 90 = false := by kernel_rfl
@[push_cast] theorem s90 : (prog.underlying 90).isSome = true := by kernel_rfl
@[push_cast] theorem i90 : (prog.info? 90).isSome = true := by kernel_rfl
@[push_cast] theorem m90 : concreteB prog 90 = true := by kernel_rfl
@[push_cast] theorem a90 : elemOk prog 90 = true := by kernel_rfl
@[push_cast] theorem b90 : bytesOf prog 90 = 16 := by kernel_rfl
@[push_cast] theorem z90 : zeroD prog 90 = some ([.t (.v (.string ⟨#[]⟩))]) := by kernel_rfl
@[push_cast] theorem u90 : prog.underlying 90 = some .string := by kernel_rfl
@[push_cast] theorem c91 : prog.cellsOf 91 = 1 := by kernel_rfl
@[push_cast] theorem g91 : isAggB prog 91 = false := by kernel_rfl
@[push_cast] theorem s91 : (prog.underlying 91).isSome = true := by kernel_rfl
@[push_cast] theorem i91 : (prog.info? 91).isSome = true := by kernel_rfl
@[push_cast] theorem m91 : concreteB prog 91 = true := by kernel_rfl
@[push_cast] theorem a91 : elemOk prog 91 = true := by kernel_rfl
@[push_cast] theorem b91 : bytesOf prog 91 = 8 := by kernel_rfl
@[push_cast] theorem z91 : zeroD prog 91 = some ([.t (.v (.pointer none))]) := by kernel_rfl
@[push_cast] theorem c95 : prog.cellsOf 95 = 2 := by kernel_rfl
@[push_cast] theorem g95 : isAggB prog 95 = true := by kernel_rfl
@[push_cast] theorem s95 : (prog.underlying 95).isSome = true := by kernel_rfl
@[push_cast] theorem i95 : (prog.info? 95).isSome = true := by kernel_rfl
@[push_cast] theorem m95 : concreteB prog 95 = true := by kernel_rfl
@[push_cast] theorem a95 : elemOk prog 95 = true := by kernel_rfl
@[push_cast] theorem b95 : bytesOf prog 95 = 32 := by kernel_rfl
@[push_cast] theorem z95 : zeroD prog 95 = some ([.t (.v (.string ⟨#[]⟩)), .t (.v .nilIface)]) := by kernel_rfl
@[push_cast] theorem f95_0 : fieldOf prog 95 0 = some (0, 1, 9) := by kernel_rfl
@[push_cast] theorem q95_0 : placeOf prog 95 0 = some (0, 1) := by kernel_rfl
@[push_cast] theorem f95_1 : fieldOf prog 95 1 = some (1, 1, 65) := by kernel_rfl
@[push_cast] theorem q95_1 : placeOf prog 95 1 = some (1, 1) := by kernel_rfl
@[push_cast] theorem p95 : placesOk prog 95 = true := by kernel_rfl
@[push_cast] theorem c100 : prog.cellsOf 100 = 1 := by kernel_rfl
@[push_cast] theorem g100 : isAggB prog 100 = false := by kernel_rfl
@[push_cast] theorem s100 : (prog.underlying 100).isSome = true := by kernel_rfl
@[push_cast] theorem i100 : (prog.info? 100).isSome = true := by kernel_rfl
@[push_cast] theorem m100 : concreteB prog 100 = true := by kernel_rfl
@[push_cast] theorem a100 : elemOk prog 100 = true := by kernel_rfl
@[push_cast] theorem b100 : bytesOf prog 100 = 8 := by kernel_rfl
@[push_cast] theorem z100 : zeroD prog 100 = some ([.t (.v (.pointer none))]) := by kernel_rfl
@[push_cast] theorem c101 : prog.cellsOf 101 = 1 := by kernel_rfl
@[push_cast] theorem g101 : isAggB prog 101 = false := by kernel_rfl
@[push_cast] theorem s101 : (prog.underlying 101).isSome = true := by kernel_rfl
@[push_cast] theorem i101 : (prog.info? 101).isSome = true := by kernel_rfl
@[push_cast] theorem m101 : concreteB prog 101 = true := by kernel_rfl
@[push_cast] theorem a101 : elemOk prog 101 = true := by kernel_rfl
@[push_cast] theorem b101 : bytesOf prog 101 = 8 := by kernel_rfl
@[push_cast] theorem z101 : zeroD prog 101 = some ([.t (.v (.int .u64 0))]) := by kernel_rfl
@[push_cast] theorem u101 : prog.underlying 101 = some (.int .u64) := by kernel_rfl
@[push_cast] theorem c103 : prog.cellsOf 103 = 3 := by kernel_rfl
@[push_cast] theorem g103 : isAggB prog 103 = true := by kernel_rfl
@[push_cast] theorem s103 : (prog.underlying 103).isSome = true := by kernel_rfl
@[push_cast] theorem i103 : (prog.info? 103).isSome = true := by kernel_rfl
@[push_cast] theorem m103 : concreteB prog 103 = true := by kernel_rfl
@[push_cast] theorem a103 : elemOk prog 103 = true := by kernel_rfl
@[push_cast] theorem b103 : bytesOf prog 103 = 24 := by kernel_rfl
@[push_cast] theorem z103 : zeroD prog 103 = some ([.t (.v (.pointer none)), .t (.v (.pointer none)), .t (.v (.int .u64 0))]) := by kernel_rfl
@[push_cast] theorem f103_0 : fieldOf prog 103 0 = some (0, 1, 17) := by kernel_rfl
@[push_cast] theorem q103_0 : placeOf prog 103 0 = some (0, 1) := by kernel_rfl
@[push_cast] theorem f103_1 : fieldOf prog 103 1 = some (1, 1, 100) := by kernel_rfl
@[push_cast] theorem q103_1 : placeOf prog 103 1 = some (1, 1) := by kernel_rfl
@[push_cast] theorem f103_2 : fieldOf prog 103 2 = some (2, 1, 101) := by kernel_rfl
@[push_cast] theorem q103_2 : placeOf prog 103 2 = some (2, 1) := by kernel_rfl
@[push_cast] theorem p103 : placesOk prog 103 = true := by kernel_rfl
@[push_cast] theorem c106 : prog.cellsOf 106 = 1 := by kernel_rfl
@[push_cast] theorem g106 : isAggB prog 106 = false := by kernel_rfl
@[push_cast] theorem s106 : (prog.underlying 106).isSome = true := by kernel_rfl
@[push_cast] theorem i106 : (prog.info? 106).isSome = true := by kernel_rfl
@[push_cast] theorem a106 : elemOk prog 106 = true := by kernel_rfl
@[push_cast] theorem b106 : bytesOf prog 106 = 16 := by kernel_rfl
@[push_cast] theorem z106 : zeroD prog 106 = some ([.t (.v .nilIface)]) := by kernel_rfl
@[push_cast] theorem u106 : prog.underlying 106 = some (.interface (prog.methodsAt 106)) := by kernel_rfl
@[push_cast] theorem c108 : prog.cellsOf 108 = 1 := by kernel_rfl
@[push_cast] theorem g108 : isAggB prog 108 = false := by kernel_rfl
@[push_cast] theorem s108 : (prog.underlying 108).isSome = true := by kernel_rfl
@[push_cast] theorem i108 : (prog.info? 108).isSome = true := by kernel_rfl
@[push_cast] theorem m108 : concreteB prog 108 = true := by kernel_rfl
@[push_cast] theorem a108 : elemOk prog 108 = true := by kernel_rfl
@[push_cast] theorem b108 : bytesOf prog 108 = 1 := by kernel_rfl
@[push_cast] theorem z108 : zeroD prog 108 = some ([.t (.v (.int .u8 0))]) := by kernel_rfl
@[push_cast] theorem u108 : prog.underlying 108 = some (.int .u8) := by kernel_rfl
@[push_cast] theorem c113 : prog.cellsOf 113 = 1 := by kernel_rfl
@[push_cast] theorem g113 : isAggB prog 113 = false := by kernel_rfl
@[push_cast] theorem s113 : (prog.underlying 113).isSome = true := by kernel_rfl
@[push_cast] theorem i113 : (prog.info? 113).isSome = true := by kernel_rfl
@[push_cast] theorem m113 : concreteB prog 113 = true := by kernel_rfl
@[push_cast] theorem a113 : elemOk prog 113 = true := by kernel_rfl
@[push_cast] theorem b113 : bytesOf prog 113 = 8 := by kernel_rfl
@[push_cast] theorem z113 : zeroD prog 113 = some ([.t (.v .nilFunc)]) := by kernel_rfl
@[push_cast] theorem c120 : prog.cellsOf 120 = 1 := by kernel_rfl
@[push_cast] theorem g120 : isAggB prog 120 = false := by kernel_rfl
@[push_cast] theorem s120 : (prog.underlying 120).isSome = true := by kernel_rfl
@[push_cast] theorem i120 : (prog.info? 120).isSome = true := by kernel_rfl
@[push_cast] theorem m120 : concreteB prog 120 = true := by kernel_rfl
@[push_cast] theorem a120 : elemOk prog 120 = true := by kernel_rfl
@[push_cast] theorem b120 : bytesOf prog 120 = 8 := by kernel_rfl
@[push_cast] theorem z120 : zeroD prog 120 = some ([.t (.v (.int .u64 0))]) := by kernel_rfl
@[push_cast] theorem u120 : prog.underlying 120 = some (.int .u64) := by kernel_rfl
@[push_cast] theorem c126 : prog.cellsOf 126 = 2 := by kernel_rfl
@[push_cast] theorem g126 : isAggB prog 126 = true := by kernel_rfl
@[push_cast] theorem s126 : (prog.underlying 126).isSome = true := by kernel_rfl
@[push_cast] theorem i126 : (prog.info? 126).isSome = true := by kernel_rfl
@[push_cast] theorem m126 : concreteB prog 126 = true := by kernel_rfl
@[push_cast] theorem a126 : elemOk prog 126 = true := by kernel_rfl
@[push_cast] theorem b126 : bytesOf prog 126 = 24 := by kernel_rfl
@[push_cast] theorem z126 : zeroD prog 126 = some ([.t (.v (.int .i64 0)), .t (.v .nilIface)]) := by kernel_rfl
@[push_cast] theorem f126_0 : fieldOf prog 126 0 = some (0, 1, 3) := by kernel_rfl
@[push_cast] theorem q126_0 : placeOf prog 126 0 = some (0, 1) := by kernel_rfl
@[push_cast] theorem f126_1 : fieldOf prog 126 1 = some (1, 1, 65) := by kernel_rfl
@[push_cast] theorem q126_1 : placeOf prog 126 1 = some (1, 1) := by kernel_rfl
@[push_cast] theorem p126 : placesOk prog 126 = true := by kernel_rfl
@[push_cast] theorem c128 : prog.cellsOf 128 = 1 := by kernel_rfl
@[push_cast] theorem g128 : isAggB prog 128 = true := by kernel_rfl
@[push_cast] theorem s128 : (prog.underlying 128).isSome = true := by kernel_rfl
@[push_cast] theorem i128 : (prog.info? 128).isSome = true := by kernel_rfl
@[push_cast] theorem m128 : concreteB prog 128 = true := by kernel_rfl
@[push_cast] theorem a128 : elemOk prog 128 = true := by kernel_rfl
@[push_cast] theorem b128 : bytesOf prog 128 = 8 := by kernel_rfl
@[push_cast] theorem z128 : zeroD prog 128 = some ([.t (.v (.pointer none))]) := by kernel_rfl
@[push_cast] theorem f128_0 : fieldOf prog 128 0 = some (0, 1, 17) := by kernel_rfl
@[push_cast] theorem q128_0 : placeOf prog 128 0 = some (0, 1) := by kernel_rfl
@[push_cast] theorem p128 : placesOk prog 128 = true := by kernel_rfl
@[push_cast] theorem c133 : prog.cellsOf 133 = 1 := by kernel_rfl
@[push_cast] theorem g133 : isAggB prog 133 = false := by kernel_rfl
@[push_cast] theorem s133 : (prog.underlying 133).isSome = true := by kernel_rfl
@[push_cast] theorem i133 : (prog.info? 133).isSome = true := by kernel_rfl
@[push_cast] theorem a133 : elemOk prog 133 = true := by kernel_rfl
@[push_cast] theorem b133 : bytesOf prog 133 = 16 := by kernel_rfl
@[push_cast] theorem z133 : zeroD prog 133 = some ([.t (.v .nilIface)]) := by kernel_rfl
@[push_cast] theorem u133 : prog.underlying 133 = some (.interface (prog.methodsAt 133)) := by kernel_rfl
@[push_cast] theorem c136 : prog.cellsOf 136 = 1 := by kernel_rfl
@[push_cast] theorem g136 : isAggB prog 136 = false := by kernel_rfl
@[push_cast] theorem s136 : (prog.underlying 136).isSome = true := by kernel_rfl
@[push_cast] theorem i136 : (prog.info? 136).isSome = true := by kernel_rfl
@[push_cast] theorem a136 : elemOk prog 136 = true := by kernel_rfl
@[push_cast] theorem b136 : bytesOf prog 136 = 16 := by kernel_rfl
@[push_cast] theorem z136 : zeroD prog 136 = some ([.t (.v .nilIface)]) := by kernel_rfl
@[push_cast] theorem u136 : prog.underlying 136 = some (.interface (prog.methodsAt 136)) := by kernel_rfl
@[push_cast] theorem c139 : prog.cellsOf 139 = 1 := by kernel_rfl
@[push_cast] theorem g139 : isAggB prog 139 = false := by kernel_rfl
@[push_cast] theorem s139 : (prog.underlying 139).isSome = true := by kernel_rfl
@[push_cast] theorem i139 : (prog.info? 139).isSome = true := by kernel_rfl
@[push_cast] theorem m139 : concreteB prog 139 = true := by kernel_rfl
@[push_cast] theorem a139 : elemOk prog 139 = true := by kernel_rfl
@[push_cast] theorem b139 : bytesOf prog 139 = 24 := by kernel_rfl
@[push_cast] theorem z139 : zeroD prog 139 = some ([.t (.v (.slice none 0 0))]) := by kernel_rfl
@[push_cast] theorem u139 : prog.underlying 139 = some (.slice 65) := by kernel_rfl
@[push_cast] theorem e139 : prog.elem 139 = 65 := by kernel_rfl
@[push_cast] theorem c141 : prog.cellsOf 141 = 1 := by kernel_rfl
@[push_cast] theorem g141 : isAggB prog 141 = false := by kernel_rfl
@[push_cast] theorem s141 : (prog.underlying 141).isSome = true := by kernel_rfl
@[push_cast] theorem i141 : (prog.info? 141).isSome = true := by kernel_rfl
@[push_cast] theorem m141 : concreteB prog 141 = true := by kernel_rfl
@[push_cast] theorem a141 : elemOk prog 141 = true := by kernel_rfl
@[push_cast] theorem b141 : bytesOf prog 141 = 24 := by kernel_rfl
@[push_cast] theorem z141 : zeroD prog 141 = some ([.t (.v (.slice none 0 0))]) := by kernel_rfl
@[push_cast] theorem u141 : prog.underlying 141 = some (.slice 3) := by kernel_rfl
@[push_cast] theorem e141 : prog.elem 141 = 3 := by kernel_rfl
@[push_cast] theorem c146 : prog.cellsOf 146 = 1 := by kernel_rfl
@[push_cast] theorem g146 : isAggB prog 146 = false := by kernel_rfl
@[push_cast] theorem s146 : (prog.underlying 146).isSome = true := by kernel_rfl
@[push_cast] theorem i146 : (prog.info? 146).isSome = true := by kernel_rfl
@[push_cast] theorem m146 : concreteB prog 146 = true := by kernel_rfl
@[push_cast] theorem a146 : elemOk prog 146 = true := by kernel_rfl
@[push_cast] theorem b146 : bytesOf prog 146 = 8 := by kernel_rfl
@[push_cast] theorem z146 : zeroD prog 146 = some ([.t (.v (.int .u64 0))]) := by kernel_rfl
@[push_cast] theorem u146 : prog.underlying 146 = some (.int .u64) := by kernel_rfl
@[push_cast] theorem k2 : callOk prog 2 = true := by kernel_rfl
@[push_cast] theorem k3 : callOk prog 3 = true := by kernel_rfl
@[push_cast] theorem k4 : callOk prog 4 = true := by kernel_rfl
@[push_cast] theorem k5 : callOk prog 5 = true := by kernel_rfl
@[push_cast] theorem k6 : callOk prog 6 = true := by kernel_rfl
@[push_cast] theorem k7 : callOk prog 7 = true := by kernel_rfl
@[push_cast] theorem k8 : callOk prog 8 = true := by kernel_rfl
@[push_cast] theorem k9 : callOk prog 9 = true := by kernel_rfl
@[push_cast] theorem k10 : callOk prog 10 = true := by kernel_rfl
@[push_cast] theorem k11 : callOk prog 11 = true := by kernel_rfl
@[push_cast] theorem k12 : callOk prog 12 = true := by kernel_rfl
@[push_cast] theorem k13 : callOk prog 13 = true := by kernel_rfl
@[push_cast] theorem k14 : callOk prog 14 = true := by kernel_rfl
@[push_cast] theorem k15 : callOk prog 15 = true := by kernel_rfl
@[push_cast] theorem k16 : callOk prog 16 = true := by kernel_rfl
@[push_cast] theorem k17 : callOk prog 17 = true := by kernel_rfl
@[push_cast] theorem k18 : callOk prog 18 = true := by kernel_rfl
@[push_cast] theorem k19 : callOk prog 19 = true := by kernel_rfl
@[push_cast] theorem k20 : callOk prog 20 = true := by kernel_rfl
@[push_cast] theorem k21 : callOk prog 21 = true := by kernel_rfl
@[push_cast] theorem k22 : callOk prog 22 = true := by kernel_rfl
@[push_cast] theorem k23 : callOk prog 23 = true := by kernel_rfl
@[push_cast] theorem k24 : callOk prog 24 = true := by kernel_rfl
@[push_cast] theorem k25 : callOk prog 25 = true := by kernel_rfl
@[push_cast] theorem k26 : callOk prog 26 = true := by kernel_rfl
@[push_cast] theorem k27 : callOk prog 27 = true := by kernel_rfl
@[push_cast] theorem k28 : callOk prog 28 = true := by kernel_rfl
@[push_cast] theorem k29 : callOk prog 29 = true := by kernel_rfl
@[push_cast] theorem k30 : callOk prog 30 = true := by kernel_rfl
@[push_cast] theorem k31 : callOk prog 31 = true := by kernel_rfl
@[push_cast] theorem k32 : callOk prog 32 = true := by kernel_rfl
@[push_cast] theorem k33 : callOk prog 33 = true := by kernel_rfl
@[push_cast] theorem k34 : callOk prog 34 = true := by kernel_rfl
@[push_cast] theorem k35 : callOk prog 35 = true := by kernel_rfl
@[push_cast] theorem k36 : callOk prog 36 = true := by kernel_rfl
@[push_cast] theorem k37 : callOk prog 37 = true := by kernel_rfl
@[push_cast] theorem k38 : callOk prog 38 = true := by kernel_rfl
@[push_cast] theorem k39 : callOk prog 39 = true := by kernel_rfl
@[push_cast] theorem k40 : callOk prog 40 = true := by kernel_rfl
@[push_cast] theorem k41 : callOk prog 41 = true := by kernel_rfl
@[push_cast] theorem k42 : callOk prog 42 = true := by kernel_rfl
@[push_cast] theorem k43 : callOk prog 43 = true := by kernel_rfl
@[push_cast] theorem k44 : callOk prog 44 = true := by kernel_rfl
@[push_cast] theorem k45 : callOk prog 45 = true := by kernel_rfl
@[push_cast] theorem k49 : callOk prog 49 = true := by kernel_rfl
@[push_cast] theorem k50 : callOk prog 50 = true := by kernel_rfl
@[push_cast] theorem k51 : callOk prog 51 = true := by kernel_rfl
@[push_cast] theorem k52 : callOk prog 52 = true := by kernel_rfl
@[push_cast] theorem k53 : callOk prog 53 = true := by kernel_rfl
@[push_cast] theorem k54 : callOk prog 54 = true := by kernel_rfl
@[push_cast] theorem k55 : callOk prog 55 = true := by kernel_rfl
@[push_cast] theorem k56 : callOk prog 56 = true := by kernel_rfl
@[push_cast] theorem k57 : callOk prog 57 = true := by kernel_rfl
@[push_cast] theorem k58 : callOk prog 58 = true := by kernel_rfl
@[push_cast] theorem k59 : callOk prog 59 = true := by kernel_rfl
@[push_cast] theorem k60 : callOk prog 60 = true := by kernel_rfl
@[push_cast] theorem k64 : callOk prog 64 = true := by kernel_rfl
@[push_cast] theorem k65 : callOk prog 65 = true := by kernel_rfl
@[push_cast] theorem k66 : callOk prog 66 = true := by kernel_rfl
@[push_cast] theorem k67 : callOk prog 67 = true := by kernel_rfl
@[push_cast] theorem k68 : callOk prog 68 = true := by kernel_rfl
@[push_cast] theorem k69 : callOk prog 69 = true := by kernel_rfl
@[push_cast] theorem k90 : callOk prog 90 = true := by kernel_rfl
@[push_cast] theorem k95 : callOk prog 95 = true := by kernel_rfl
@[push_cast] theorem k111 : callOk prog 111 = true := by kernel_rfl
@[push_cast] theorem mix : prog.follows .mixedOrders = true := by kernel_rfl
end Go.Proofs.Tryd.F
