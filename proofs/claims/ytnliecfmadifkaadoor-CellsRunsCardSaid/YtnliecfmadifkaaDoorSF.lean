/- Facts about the program's types: made by wip/ot/facts.py. -/
import Derived.Test.YtnliecfmadifkaaDoorProg
import Derived.Test.YtnliecfmadifkaaDoorOtD
set_option linter.unusedVariables false
namespace Go.Proofs.Tryd.F
open Go Go.Proofs Go.Ot
@[push_cast] theorem c1 : prog.cellsOf 1 = 1 := by kernel_rfl
@[push_cast] theorem g1 : isAggB prog 1 = false := by kernel_rfl
@[push_cast] theorem s1 : (prog.underlying 1).isSome = true := by kernel_rfl
@[push_cast] theorem i1 : (prog.info? 1).isSome = true := by kernel_rfl
@[push_cast] theorem m1 : concreteB prog 1 = true := by kernel_rfl
@[push_cast] theorem a1 : elemOk prog 1 = true := by kernel_rfl
@[push_cast] theorem b1 : bytesOf prog 1 = 8 := by kernel_rfl
@[push_cast] theorem z1 : zeroD prog 1 = some ([.t (.v .nilFunc)]) := by kernel_rfl
@[push_cast] theorem c2 : prog.cellsOf 2 = 1 := by kernel_rfl
@[push_cast] theorem g2 : isAggB prog 2 = false := by kernel_rfl
@[push_cast] theorem s2 : (prog.underlying 2).isSome = true := by kernel_rfl
@[push_cast] theorem i2 : (prog.info? 2).isSome = true := by kernel_rfl
@[push_cast] theorem m2 : concreteB prog 2 = true := by kernel_rfl
@[push_cast] theorem a2 : elemOk prog 2 = true := by kernel_rfl
@[push_cast] theorem b2 : bytesOf prog 2 = 8 := by kernel_rfl
@[push_cast] theorem z2 : zeroD prog 2 = some ([.t (.v (.int .i64 0))]) := by kernel_rfl
@[push_cast] theorem u2 : prog.underlying 2 = some (.int .i64) := by kernel_rfl
@[push_cast] theorem c3 : prog.cellsOf 3 = 1 := by kernel_rfl
@[push_cast] theorem g3 : isAggB prog 3 = false := by kernel_rfl
@[push_cast] theorem s3 : (prog.underlying 3).isSome = true := by kernel_rfl
@[push_cast] theorem i3 : (prog.info? 3).isSome = true := by kernel_rfl
@[push_cast] theorem m3 : concreteB prog 3 = true := by kernel_rfl
@[push_cast] theorem a3 : elemOk prog 3 = true := by kernel_rfl
@[push_cast] theorem b3 : bytesOf prog 3 = 8 := by kernel_rfl
@[push_cast] theorem z3 : zeroD prog 3 = some ([.t (.v (.int .i64 0))]) := by kernel_rfl
@[push_cast] theorem u3 : prog.underlying 3 = some (.int .i64) := by kernel_rfl
@[push_cast] theorem c4 : prog.cellsOf 4 = 1 := by kernel_rfl
@[push_cast] theorem g4 : isAggB prog 4 = false := by kernel_rfl
@[push_cast] theorem s4 : (prog.underlying 4).isSome = true := by kernel_rfl
@[push_cast] theorem i4 : (prog.info? 4).isSome = true := by kernel_rfl
@[push_cast] theorem m4 : concreteB prog 4 = true := by kernel_rfl
@[push_cast] theorem a4 : elemOk prog 4 = true := by kernel_rfl
@[push_cast] theorem b4 : bytesOf prog 4 = 1 := by kernel_rfl
@[push_cast] theorem z4 : zeroD prog 4 = some ([.t (.v (.bool false))]) := by kernel_rfl
@[push_cast] theorem u4 : prog.underlying 4 = some .bool := by kernel_rfl
@[push_cast] theorem c5 : prog.cellsOf 5 = 1 := by kernel_rfl
@[push_cast] theorem g5 : isAggB prog 5 = false := by kernel_rfl
@[push_cast] theorem s5 : (prog.underlying 5).isSome = true := by kernel_rfl
@[push_cast] theorem i5 : (prog.info? 5).isSome = true := by kernel_rfl
@[push_cast] theorem m5 : concreteB prog 5 = true := by kernel_rfl
@[push_cast] theorem a5 : elemOk prog 5 = true := by kernel_rfl
@[push_cast] theorem b5 : bytesOf prog 5 = 1 := by kernel_rfl
@[push_cast] theorem z5 : zeroD prog 5 = some ([.t (.v (.int .u8 0))]) := by kernel_rfl
@[push_cast] theorem u5 : prog.underlying 5 = some (.int .u8) := by kernel_rfl
@[push_cast] theorem c6 : prog.cellsOf 6 = 1 := by kernel_rfl
@[push_cast] theorem g6 : isAggB prog 6 = false := by kernel_rfl
@[push_cast] theorem s6 : (prog.underlying 6).isSome = true := by kernel_rfl
@[push_cast] theorem i6 : (prog.info? 6).isSome = true := by kernel_rfl
@[push_cast] theorem m6 : concreteB prog 6 = true := by kernel_rfl
@[push_cast] theorem a6 : elemOk prog 6 = true := by kernel_rfl
@[push_cast] theorem b6 : bytesOf prog 6 = 1 := by kernel_rfl
@[push_cast] theorem z6 : zeroD prog 6 = some ([.t (.v (.int .u8 0))]) := by kernel_rfl
@[push_cast] theorem u6 : prog.underlying 6 = some (.int .u8) := by kernel_rfl
@[push_cast] theorem c7 : prog.cellsOf 7 = 4 := by kernel_rfl
@[push_cast] theorem g7 : isAggB prog 7 = true := by kernel_rfl
@[push_cast] theorem s7 : (prog.underlying 7).isSome = true := by kernel_rfl
@[push_cast] theorem i7 : (prog.info? 7).isSome = true := by kernel_rfl
@[push_cast] theorem m7 : concreteB prog 7 = true := by kernel_rfl
@[push_cast] theorem a7 : elemOk prog 7 = true := by kernel_rfl
@[push_cast] theorem b7 : bytesOf prog 7 = 24 := by kernel_rfl
@[push_cast] theorem z7 : zeroD prog 7 = some ([.t (.v (.int .i64 0)), .t (.v (.int .i64 0)), .t (.v (.bool false)), .t (.v (.int .u8 0))]) := by kernel_rfl
@[push_cast] theorem f7_0 : fieldOf prog 7 0 = some (0, 1, 2) := by kernel_rfl
@[push_cast] theorem q7_0 : placeOf prog 7 0 = some (0, 1) := by kernel_rfl
@[push_cast] theorem f7_1 : fieldOf prog 7 1 = some (1, 1, 3) := by kernel_rfl
@[push_cast] theorem q7_1 : placeOf prog 7 1 = some (1, 1) := by kernel_rfl
@[push_cast] theorem f7_2 : fieldOf prog 7 2 = some (2, 1, 4) := by kernel_rfl
@[push_cast] theorem q7_2 : placeOf prog 7 2 = some (2, 1) := by kernel_rfl
@[push_cast] theorem f7_3 : fieldOf prog 7 3 = some (3, 1, 6) := by kernel_rfl
@[push_cast] theorem q7_3 : placeOf prog 7 3 = some (3, 1) := by kernel_rfl
@[push_cast] theorem p7 : placesOk prog 7 = true := by kernel_rfl
@[push_cast] theorem c8 : prog.cellsOf 8 = 4 := by kernel_rfl
@[push_cast] theorem g8 : isAggB prog 8 = true := by kernel_rfl
@[push_cast] theorem s8 : (prog.underlying 8).isSome = true := by kernel_rfl
@[push_cast] theorem i8 : (prog.info? 8).isSome = true := by kernel_rfl
@[push_cast] theorem m8 : concreteB prog 8 = true := by kernel_rfl
@[push_cast] theorem a8 : elemOk prog 8 = true := by kernel_rfl
@[push_cast] theorem b8 : bytesOf prog 8 = 24 := by kernel_rfl
@[push_cast] theorem z8 : zeroD prog 8 = some ([.t (.v (.int .i64 0)), .t (.v (.int .i64 0)), .t (.v (.bool false)), .t (.v (.int .u8 0))]) := by kernel_rfl
@[push_cast] theorem f8_0 : fieldOf prog 8 0 = some (0, 1, 2) := by kernel_rfl
@[push_cast] theorem q8_0 : placeOf prog 8 0 = some (0, 1) := by kernel_rfl
@[push_cast] theorem f8_1 : fieldOf prog 8 1 = some (1, 1, 3) := by kernel_rfl
@[push_cast] theorem q8_1 : placeOf prog 8 1 = some (1, 1) := by kernel_rfl
@[push_cast] theorem f8_2 : fieldOf prog 8 2 = some (2, 1, 4) := by kernel_rfl
@[push_cast] theorem q8_2 : placeOf prog 8 2 = some (2, 1) := by kernel_rfl
@[push_cast] theorem f8_3 : fieldOf prog 8 3 = some (3, 1, 6) := by kernel_rfl
@[push_cast] theorem q8_3 : placeOf prog 8 3 = some (3, 1) := by kernel_rfl
@[push_cast] theorem p8 : placesOk prog 8 = true := by kernel_rfl
@[push_cast] theorem c9 : prog.cellsOf 9 = 1 := by kernel_rfl
@[push_cast] theorem g9 : isAggB prog 9 = false := by kernel_rfl
@[push_cast] theorem s9 : (prog.underlying 9).isSome = true := by kernel_rfl
@[push_cast] theorem i9 : (prog.info? 9).isSome = true := by kernel_rfl
@[push_cast] theorem m9 : concreteB prog 9 = true := by kernel_rfl
@[push_cast] theorem a9 : elemOk prog 9 = true := by kernel_rfl
@[push_cast] theorem b9 : bytesOf prog 9 = 16 := by kernel_rfl
@[push_cast] theorem z9 : zeroD prog 9 = some ([.t (.v (.string ⟨#[]⟩))]) := by kernel_rfl
@[push_cast] theorem u9 : prog.underlying 9 = some .string := by kernel_rfl
@[push_cast] theorem c10 : prog.cellsOf 10 = 1 := by kernel_rfl
@[push_cast] theorem g10 : isAggB prog 10 = false := by kernel_rfl
@[push_cast] theorem s10 : (prog.underlying 10).isSome = true := by kernel_rfl
@[push_cast] theorem i10 : (prog.info? 10).isSome = true := by kernel_rfl
@[push_cast] theorem m10 : concreteB prog 10 = true := by kernel_rfl
@[push_cast] theorem a10 : elemOk prog 10 = true := by kernel_rfl
@[push_cast] theorem b10 : bytesOf prog 10 = 16 := by kernel_rfl
@[push_cast] theorem z10 : zeroD prog 10 = some ([.t (.v (.string ⟨#[]⟩))]) := by kernel_rfl
@[push_cast] theorem u10 : prog.underlying 10 = some .string := by kernel_rfl
@[push_cast] theorem c11 : prog.cellsOf 11 = 1 := by kernel_rfl
@[push_cast] theorem g11 : isAggB prog 11 = false := by kernel_rfl
@[push_cast] theorem s11 : (prog.underlying 11).isSome = true := by kernel_rfl
@[push_cast] theorem i11 : (prog.info? 11).isSome = true := by kernel_rfl
@[push_cast] theorem m11 : concreteB prog 11 = true := by kernel_rfl
@[push_cast] theorem a11 : elemOk prog 11 = true := by kernel_rfl
@[push_cast] theorem b11 : bytesOf prog 11 = 16 := by kernel_rfl
@[push_cast] theorem z11 : zeroD prog 11 = some ([.t (.v (.string ⟨#[]⟩))]) := by kernel_rfl
@[push_cast] theorem u11 : prog.underlying 11 = some .string := by kernel_rfl
@[push_cast] theorem c12 : prog.cellsOf 12 = 1 := by kernel_rfl
@[push_cast] theorem g12 : isAggB prog 12 = false := by kernel_rfl
@[push_cast] theorem s12 : (prog.underlying 12).isSome = true := by kernel_rfl
@[push_cast] theorem i12 : (prog.info? 12).isSome = true := by kernel_rfl
@[push_cast] theorem m12 : concreteB prog 12 = true := by kernel_rfl
@[push_cast] theorem a12 : elemOk prog 12 = true := by kernel_rfl
@[push_cast] theorem b12 : bytesOf prog 12 = 8 := by kernel_rfl
@[push_cast] theorem z12 : zeroD prog 12 = some ([.t (.v (.int .u64 0))]) := by kernel_rfl
@[push_cast] theorem u12 : prog.underlying 12 = some (.int .u64) := by kernel_rfl
@[push_cast] theorem c13 : prog.cellsOf 13 = 2 := by kernel_rfl
@[push_cast] theorem g13 : isAggB prog 13 = true := by kernel_rfl
@[push_cast] theorem s13 : (prog.underlying 13).isSome = true := by kernel_rfl
@[push_cast] theorem i13 : (prog.info? 13).isSome = true := by kernel_rfl
@[push_cast] theorem m13 : concreteB prog 13 = true := by kernel_rfl
@[push_cast] theorem a13 : elemOk prog 13 = true := by kernel_rfl
@[push_cast] theorem b13 : bytesOf prog 13 = 24 := by kernel_rfl
@[push_cast] theorem z13 : zeroD prog 13 = some ([.t (.v (.string ⟨#[]⟩)), .t (.v (.int .u64 0))]) := by kernel_rfl
@[push_cast] theorem f13_0 : fieldOf prog 13 0 = some (0, 1, 9) := by kernel_rfl
@[push_cast] theorem q13_0 : placeOf prog 13 0 = some (0, 1) := by kernel_rfl
@[push_cast] theorem f13_1 : fieldOf prog 13 1 = some (1, 1, 12) := by kernel_rfl
@[push_cast] theorem q13_1 : placeOf prog 13 1 = some (1, 1) := by kernel_rfl
@[push_cast] theorem p13 : placesOk prog 13 = true := by kernel_rfl
@[push_cast] theorem c14 : prog.cellsOf 14 = 2 := by kernel_rfl
@[push_cast] theorem g14 : isAggB prog 14 = true := by kernel_rfl
@[push_cast] theorem s14 : (prog.underlying 14).isSome = true := by kernel_rfl
@[push_cast] theorem i14 : (prog.info? 14).isSome = true := by kernel_rfl
@[push_cast] theorem m14 : concreteB prog 14 = true := by kernel_rfl
@[push_cast] theorem a14 : elemOk prog 14 = true := by kernel_rfl
@[push_cast] theorem b14 : bytesOf prog 14 = 24 := by kernel_rfl
@[push_cast] theorem z14 : zeroD prog 14 = some ([.t (.v (.string ⟨#[]⟩)), .t (.v (.int .u64 0))]) := by kernel_rfl
@[push_cast] theorem f14_0 : fieldOf prog 14 0 = some (0, 1, 9) := by kernel_rfl
@[push_cast] theorem q14_0 : placeOf prog 14 0 = some (0, 1) := by kernel_rfl
@[push_cast] theorem f14_1 : fieldOf prog 14 1 = some (1, 1, 12) := by kernel_rfl
@[push_cast] theorem q14_1 : placeOf prog 14 1 = some (1, 1) := by kernel_rfl
@[push_cast] theorem p14 : placesOk prog 14 = true := by kernel_rfl
@[push_cast] theorem c15 : prog.cellsOf 15 = 1 := by kernel_rfl
@[push_cast] theorem g15 : isAggB prog 15 = false := by kernel_rfl
@[push_cast] theorem s15 : (prog.underlying 15).isSome = true := by kernel_rfl
@[push_cast] theorem i15 : (prog.info? 15).isSome = true := by kernel_rfl
@[push_cast] theorem m15 : concreteB prog 15 = true := by kernel_rfl
@[push_cast] theorem a15 : elemOk prog 15 = true := by kernel_rfl
@[push_cast] theorem b15 : bytesOf prog 15 = 8 := by kernel_rfl
@[push_cast] theorem z15 : zeroD prog 15 = some ([.t (.v (.pointer none))]) := by kernel_rfl
@[push_cast] theorem c16 : prog.cellsOf 16 = 1 := by kernel_rfl
@[push_cast] theorem g16 : isAggB prog 16 = false := by kernel_rfl
@[push_cast] theorem s16 : (prog.underlying 16).isSome = true := by kernel_rfl
@[push_cast] theorem i16 : (prog.info? 16).isSome = true := by kernel_rfl
@[push_cast] theorem m16 : concreteB prog 16 = true := by kernel_rfl
@[push_cast] theorem a16 : elemOk prog 16 = true := by kernel_rfl
@[push_cast] theorem b16 : bytesOf prog 16 = 8 := by kernel_rfl
@[push_cast] theorem z16 : zeroD prog 16 = some ([.t (.v (.pointer none))]) := by kernel_rfl
@[push_cast] theorem c17 : prog.cellsOf 17 = 1 := by kernel_rfl
@[push_cast] theorem g17 : isAggB prog 17 = false := by kernel_rfl
@[push_cast] theorem s17 : (prog.underlying 17).isSome = true := by kernel_rfl
@[push_cast] theorem i17 : (prog.info? 17).isSome = true := by kernel_rfl
@[push_cast] theorem m17 : concreteB prog 17 = true := by kernel_rfl
@[push_cast] theorem a17 : elemOk prog 17 = true := by kernel_rfl
@[push_cast] theorem b17 : bytesOf prog 17 = 8 := by kernel_rfl
@[push_cast] theorem z17 : zeroD prog 17 = some ([.t (.v (.pointer none))]) := by kernel_rfl
@[push_cast] theorem c18 : prog.cellsOf 18 = 1 := by kernel_rfl
@[push_cast] theorem g18 : isAggB prog 18 = true := by kernel_rfl
@[push_cast] theorem s18 : (prog.underlying 18).isSome = true := by kernel_rfl
@[push_cast] theorem i18 : (prog.info? 18).isSome = true := by kernel_rfl
@[push_cast] theorem m18 : concreteB prog 18 = true := by kernel_rfl
@[push_cast] theorem a18 : elemOk prog 18 = true := by kernel_rfl
@[push_cast] theorem b18 : bytesOf prog 18 = 8 := by kernel_rfl
@[push_cast] theorem z18 : zeroD prog 18 = some ([.t (.v (.pointer none))]) := by kernel_rfl
@[push_cast] theorem f18_0 : fieldOf prog 18 0 = some (0, 1, 17) := by kernel_rfl
@[push_cast] theorem q18_0 : placeOf prog 18 0 = some (0, 1) := by kernel_rfl
@[push_cast] theorem p18 : placesOk prog 18 = true := by kernel_rfl
@[push_cast] theorem c19 : prog.cellsOf 19 = 1 := by kernel_rfl
@[push_cast] theorem g19 : isAggB prog 19 = true := by kernel_rfl
@[push_cast] theorem s19 : (prog.underlying 19).isSome = true := by kernel_rfl
@[push_cast] theorem i19 : (prog.info? 19).isSome = true := by kernel_rfl
@[push_cast] theorem m19 : concreteB prog 19 = true := by kernel_rfl
@[push_cast] theorem a19 : elemOk prog 19 = true := by kernel_rfl
@[push_cast] theorem b19 : bytesOf prog 19 = 8 := by kernel_rfl
@[push_cast] theorem z19 : zeroD prog 19 = some ([.t (.v (.pointer none))]) := by kernel_rfl
@[push_cast] theorem f19_0 : fieldOf prog 19 0 = some (0, 1, 17) := by kernel_rfl
@[push_cast] theorem q19_0 : placeOf prog 19 0 = some (0, 1) := by kernel_rfl
@[push_cast] theorem p19 : placesOk prog 19 = true := by kernel_rfl
@[push_cast] theorem c20 : prog.cellsOf 20 = 1 := by kernel_rfl
@[push_cast] theorem g20 : isAggB prog 20 = false := by kernel_rfl
@[push_cast] theorem s20 : (prog.underlying 20).isSome = true := by kernel_rfl
@[push_cast] theorem i20 : (prog.info? 20).isSome = true := by kernel_rfl
@[push_cast] theorem a20 : elemOk prog 20 = true := by kernel_rfl
@[push_cast] theorem b20 : bytesOf prog 20 = 16 := by kernel_rfl
@[push_cast] theorem z20 : zeroD prog 20 = some ([.t (.v .nilIface)]) := by kernel_rfl
@[push_cast] theorem u20 : prog.underlying 20 = some (.interface (prog.methodsAt 20)) := by kernel_rfl
@[push_cast] theorem c21 : prog.cellsOf 21 = 1 := by kernel_rfl
@[push_cast] theorem g21 : isAggB prog 21 = false := by kernel_rfl
@[push_cast] theorem s21 : (prog.underlying 21).isSome = true := by kernel_rfl
@[push_cast] theorem i21 : (prog.info? 21).isSome = true := by kernel_rfl
@[push_cast] theorem m21 : concreteB prog 21 = true := by kernel_rfl
@[push_cast] theorem a21 : elemOk prog 21 = true := by kernel_rfl
@[push_cast] theorem b21 : bytesOf prog 21 = 4 := by kernel_rfl
@[push_cast] theorem z21 : zeroD prog 21 = some ([.t (.v (.int .i32 0))]) := by kernel_rfl
@[push_cast] theorem u21 : prog.underlying 21 = some (.int .i32) := by kernel_rfl
@[push_cast] theorem c22 : prog.cellsOf 22 = 1 := by kernel_rfl
@[push_cast] theorem g22 : isAggB prog 22 = false := by kernel_rfl
@[push_cast] theorem s22 : (prog.underlying 22).isSome = true := by kernel_rfl
@[push_cast] theorem i22 : (prog.info? 22).isSome = true := by kernel_rfl
@[push_cast] theorem m22 : concreteB prog 22 = true := by kernel_rfl
@[push_cast] theorem a22 : elemOk prog 22 = true := by kernel_rfl
@[push_cast] theorem b22 : bytesOf prog 22 = 24 := by kernel_rfl
@[push_cast] theorem z22 : zeroD prog 22 = some ([.t (.v (.slice none 0 0))]) := by kernel_rfl
@[push_cast] theorem u22 : prog.underlying 22 = some (.slice 5) := by kernel_rfl
@[push_cast] theorem e22 : prog.elem 22 = 5 := by kernel_rfl
@[push_cast] theorem c23 : prog.cellsOf 23 = 1 := by kernel_rfl
@[push_cast] theorem g23 : isAggB prog 23 = false := by kernel_rfl
@[push_cast] theorem s23 : (prog.underlying 23).isSome = true := by kernel_rfl
@[push_cast] theorem i23 : (prog.info? 23).isSome = true := by kernel_rfl
@[push_cast] theorem m23 : concreteB prog 23 = true := by kernel_rfl
@[push_cast] theorem a23 : elemOk prog 23 = true := by kernel_rfl
@[push_cast] theorem b23 : bytesOf prog 23 = 24 := by kernel_rfl
@[push_cast] theorem z23 : zeroD prog 23 = some ([.t (.v (.slice none 0 0))]) := by kernel_rfl
@[push_cast] theorem u23 : prog.underlying 23 = some (.slice 9) := by kernel_rfl
@[push_cast] theorem e23 : prog.elem 23 = 9 := by kernel_rfl
@[push_cast] theorem c24 : prog.cellsOf 24 = 1 := by kernel_rfl
@[push_cast] theorem g24 : isAggB prog 24 = false := by kernel_rfl
@[push_cast] theorem s24 : (prog.underlying 24).isSome = true := by kernel_rfl
@[push_cast] theorem i24 : (prog.info? 24).isSome = true := by kernel_rfl
@[push_cast] theorem m24 : concreteB prog 24 = true := by kernel_rfl
@[push_cast] theorem a24 : elemOk prog 24 = true := by kernel_rfl
@[push_cast] theorem b24 : bytesOf prog 24 = 8 := by kernel_rfl
@[push_cast] theorem z24 : zeroD prog 24 = some ([.t (.v .nilFunc)]) := by kernel_rfl
@[push_cast] theorem c25 : prog.cellsOf 25 = 1 := by kernel_rfl
@[push_cast] theorem g25 : isAggB prog 25 = false := by kernel_rfl
@[push_cast] theorem s25 : (prog.underlying 25).isSome = true := by kernel_rfl
@[push_cast] theorem i25 : (prog.info? 25).isSome = true := by kernel_rfl
@[push_cast] theorem m25 : concreteB prog 25 = true := by kernel_rfl
@[push_cast] theorem a25 : elemOk prog 25 = true := by kernel_rfl
@[push_cast] theorem b25 : bytesOf prog 25 = 8 := by kernel_rfl
@[push_cast] theorem z25 : zeroD prog 25 = some ([.t (.v (.pointer none))]) := by kernel_rfl
@[push_cast] theorem c26 : prog.cellsOf 26 = 1 := by kernel_rfl
@[push_cast] theorem g26 : isAggB prog 26 = false := by kernel_rfl
@[push_cast] theorem s26 : (prog.underlying 26).isSome = true := by kernel_rfl
@[push_cast] theorem i26 : (prog.info? 26).isSome = true := by kernel_rfl
@[push_cast] theorem m26 : concreteB prog 26 = true := by kernel_rfl
@[push_cast] theorem a26 : elemOk prog 26 = true := by kernel_rfl
@[push_cast] theorem b26 : bytesOf prog 26 = 8 := by kernel_rfl
@[push_cast] theorem z26 : zeroD prog 26 = some ([.t (.v .nilFunc)]) := by kernel_rfl
@[push_cast] theorem c27 : prog.cellsOf 27 = 1 := by kernel_rfl
@[push_cast] theorem g27 : isAggB prog 27 = false := by kernel_rfl
@[push_cast] theorem s27 : (prog.underlying 27).isSome = true := by kernel_rfl
@[push_cast] theorem i27 : (prog.info? 27).isSome = true := by kernel_rfl
@[push_cast] theorem m27 : concreteB prog 27 = true := by kernel_rfl
@[push_cast] theorem a27 : elemOk prog 27 = true := by kernel_rfl
@[push_cast] theorem b27 : bytesOf prog 27 = 24 := by kernel_rfl
@[push_cast] theorem z27 : zeroD prog 27 = some ([.t (.v (.slice none 0 0))]) := by kernel_rfl
@[push_cast] theorem u27 : prog.underlying 27 = some (.slice 4) := by kernel_rfl
@[push_cast] theorem e27 : prog.elem 27 = 4 := by kernel_rfl
@[push_cast] theorem c28 : prog.cellsOf 28 = 2 := by kernel_rfl
@[push_cast] theorem g28 : isAggB prog 28 = true := by kernel_rfl
@[push_cast] theorem s28 : (prog.underlying 28).isSome = true := by kernel_rfl
@[push_cast] theorem i28 : (prog.info? 28).isSome = true := by kernel_rfl
@[push_cast] theorem m28 : concreteB prog 28 = true := by kernel_rfl
@[push_cast] theorem a28 : elemOk prog 28 = true := by kernel_rfl
@[push_cast] theorem b28 : bytesOf prog 28 = 32 := by kernel_rfl
@[push_cast] theorem z28 : zeroD prog 28 = some ([.t (.v (.int .i64 0)), .t (.v (.slice none 0 0))]) := by kernel_rfl
@[push_cast] theorem f28_0 : fieldOf prog 28 0 = some (0, 1, 3) := by kernel_rfl
@[push_cast] theorem q28_0 : placeOf prog 28 0 = some (0, 1) := by kernel_rfl
@[push_cast] theorem f28_1 : fieldOf prog 28 1 = some (1, 1, 27) := by kernel_rfl
@[push_cast] theorem q28_1 : placeOf prog 28 1 = some (1, 1) := by kernel_rfl
@[push_cast] theorem p28 : placesOk prog 28 = true := by kernel_rfl
@[push_cast] theorem c29 : prog.cellsOf 29 = 2 := by kernel_rfl
@[push_cast] theorem g29 : isAggB prog 29 = true := by kernel_rfl
@[push_cast] theorem s29 : (prog.underlying 29).isSome = true := by kernel_rfl
@[push_cast] theorem i29 : (prog.info? 29).isSome = true := by kernel_rfl
@[push_cast] theorem m29 : concreteB prog 29 = true := by kernel_rfl
@[push_cast] theorem a29 : elemOk prog 29 = true := by kernel_rfl
@[push_cast] theorem b29 : bytesOf prog 29 = 32 := by kernel_rfl
@[push_cast] theorem z29 : zeroD prog 29 = some ([.t (.v (.int .i64 0)), .t (.v (.slice none 0 0))]) := by kernel_rfl
@[push_cast] theorem f29_0 : fieldOf prog 29 0 = some (0, 1, 3) := by kernel_rfl
@[push_cast] theorem q29_0 : placeOf prog 29 0 = some (0, 1) := by kernel_rfl
@[push_cast] theorem f29_1 : fieldOf prog 29 1 = some (1, 1, 27) := by kernel_rfl
@[push_cast] theorem q29_1 : placeOf prog 29 1 = some (1, 1) := by kernel_rfl
@[push_cast] theorem p29 : placesOk prog 29 = true := by kernel_rfl
@[push_cast] theorem c30 : prog.cellsOf 30 = 1 := by kernel_rfl
@[push_cast] theorem g30 : isAggB prog 30 = false := by kernel_rfl
@[push_cast] theorem s30 : (prog.underlying 30).isSome = true := by kernel_rfl
@[push_cast] theorem i30 : (prog.info? 30).isSome = true := by kernel_rfl
@[push_cast] theorem m30 : concreteB prog 30 = true := by kernel_rfl
@[push_cast] theorem a30 : elemOk prog 30 = true := by kernel_rfl
@[push_cast] theorem b30 : bytesOf prog 30 = 8 := by kernel_rfl
@[push_cast] theorem z30 : zeroD prog 30 = some ([.t (.v .nilFunc)]) := by kernel_rfl
@[push_cast] theorem c31 : prog.cellsOf 31 = 1 := by kernel_rfl
@[push_cast] theorem g31 : isAggB prog 31 = false := by kernel_rfl
@[push_cast] theorem s31 : (prog.underlying 31).isSome = true := by kernel_rfl
@[push_cast] theorem i31 : (prog.info? 31).isSome = true := by kernel_rfl
@[push_cast] theorem m31 : concreteB prog 31 = true := by kernel_rfl
@[push_cast] theorem a31 : elemOk prog 31 = true := by kernel_rfl
@[push_cast] theorem b31 : bytesOf prog 31 = 8 := by kernel_rfl
@[push_cast] theorem z31 : zeroD prog 31 = some ([.t (.v (.int .i64 0))]) := by kernel_rfl
@[push_cast] theorem u31 : prog.underlying 31 = some (.int .i64) := by kernel_rfl
@[push_cast] theorem c32 : prog.cellsOf 32 = 1 := by kernel_rfl
@[push_cast] theorem g32 : isAggB prog 32 = false := by kernel_rfl
@[push_cast] theorem s32 : (prog.underlying 32).isSome = true := by kernel_rfl
@[push_cast] theorem i32 : (prog.info? 32).isSome = true := by kernel_rfl
@[push_cast] theorem m32 : concreteB prog 32 = true := by kernel_rfl
@[push_cast] theorem a32 : elemOk prog 32 = true := by kernel_rfl
@[push_cast] theorem b32 : bytesOf prog 32 = 8 := by kernel_rfl
@[push_cast] theorem z32 : zeroD prog 32 = some ([.t (.v .nilFunc)]) := by kernel_rfl
@[push_cast] theorem c34 : prog.cellsOf 34 = 1 := by kernel_rfl
@[push_cast] theorem g34 : isAggB prog 34 = false := by kernel_rfl
@[push_cast] theorem s34 : (prog.underlying 34).isSome = true := by kernel_rfl
@[push_cast] theorem i34 : (prog.info? 34).isSome = true := by kernel_rfl
@[push_cast] theorem m34 : concreteB prog 34 = true := by kernel_rfl
@[push_cast] theorem a34 : elemOk prog 34 = true := by kernel_rfl
@[push_cast] theorem b34 : bytesOf prog 34 = 8 := by kernel_rfl
@[push_cast] theorem z34 : zeroD prog 34 = some ([.t (.v .nilFunc)]) := by kernel_rfl
@[push_cast] theorem c35 : prog.cellsOf 35 = 1 := by kernel_rfl
@[push_cast] theorem g35 : isAggB prog 35 = false := by kernel_rfl
@[push_cast] theorem s35 : (prog.underlying 35).isSome = true := by kernel_rfl
@[push_cast] theorem i35 : (prog.info? 35).isSome = true := by kernel_rfl
@[push_cast] theorem m35 : concreteB prog 35 = true := by kernel_rfl
@[push_cast] theorem a35 : elemOk prog 35 = true := by kernel_rfl
@[push_cast] theorem b35 : bytesOf prog 35 = 8 := by kernel_rfl
@[push_cast] theorem z35 : zeroD prog 35 = some ([.t (.v .nilFunc)]) := by kernel_rfl
@[push_cast] theorem c36 : prog.cellsOf 36 = 1 := by kernel_rfl
@[push_cast] theorem g36 : isAggB prog 36 = false := by kernel_rfl
@[push_cast] theorem s36 : (prog.underlying 36).isSome = true := by kernel_rfl
@[push_cast] theorem i36 : (prog.info? 36).isSome = true := by kernel_rfl
@[push_cast] theorem m36 : concreteB prog 36 = true := by kernel_rfl
@[push_cast] theorem a36 : elemOk prog 36 = true := by kernel_rfl
@[push_cast] theorem b36 : bytesOf prog 36 = 8 := by kernel_rfl
@[push_cast] theorem z36 : zeroD prog 36 = some ([.t (.v .nilFunc)]) := by kernel_rfl
@[push_cast] theorem c37 : prog.cellsOf 37 = 1 := by kernel_rfl
@[push_cast] theorem g37 : isAggB prog 37 = false := by kernel_rfl
@[push_cast] theorem s37 : (prog.underlying 37).isSome = true := by kernel_rfl
@[push_cast] theorem i37 : (prog.info? 37).isSome = true := by kernel_rfl
@[push_cast] theorem m37 : concreteB prog 37 = true := by kernel_rfl
@[push_cast] theorem a37 : elemOk prog 37 = true := by kernel_rfl
@[push_cast] theorem b37 : bytesOf prog 37 = 8 := by kernel_rfl
@[push_cast] theorem z37 : zeroD prog 37 = some ([.t (.v .nilFunc)]) := by kernel_rfl
@[push_cast] theorem c38 : prog.cellsOf 38 = 1 := by kernel_rfl
@[push_cast] theorem g38 : isAggB prog 38 = false := by kernel_rfl
@[push_cast] theorem s38 : (prog.underlying 38).isSome = true := by kernel_rfl
@[push_cast] theorem i38 : (prog.info? 38).isSome = true := by kernel_rfl
@[push_cast] theorem m38 : concreteB prog 38 = true := by kernel_rfl
@[push_cast] theorem a38 : elemOk prog 38 = true := by kernel_rfl
@[push_cast] theorem b38 : bytesOf prog 38 = 8 := by kernel_rfl
@[push_cast] theorem z38 : zeroD prog 38 = some ([.t (.v .nilFunc)]) := by kernel_rfl
@[push_cast] theorem c39 : prog.cellsOf 39 = 1 := by kernel_rfl
@[push_cast] theorem g39 : isAggB prog 39 = false := by kernel_rfl
@[push_cast] theorem s39 : (prog.underlying 39).isSome = true := by kernel_rfl
@[push_cast] theorem i39 : (prog.info? 39).isSome = true := by kernel_rfl
@[push_cast] theorem m39 : concreteB prog 39 = true := by kernel_rfl
@[push_cast] theorem a39 : elemOk prog 39 = true := by kernel_rfl
@[push_cast] theorem b39 : bytesOf prog 39 = 8 := by kernel_rfl
@[push_cast] theorem z39 : zeroD prog 39 = some ([.t (.v .nilFunc)]) := by kernel_rfl
@[push_cast] theorem c40 : prog.cellsOf 40 = 1 := by kernel_rfl
@[push_cast] theorem g40 : isAggB prog 40 = false := by kernel_rfl
@[push_cast] theorem s40 : (prog.underlying 40).isSome = true := by kernel_rfl
@[push_cast] theorem i40 : (prog.info? 40).isSome = true := by kernel_rfl
@[push_cast] theorem m40 : concreteB prog 40 = true := by kernel_rfl
@[push_cast] theorem a40 : elemOk prog 40 = true := by kernel_rfl
@[push_cast] theorem b40 : bytesOf prog 40 = 24 := by kernel_rfl
@[push_cast] theorem z40 : zeroD prog 40 = some ([.t (.v (.slice none 0 0))]) := by kernel_rfl
@[push_cast] theorem u40 : prog.underlying 40 = some (.slice 44) := by kernel_rfl
@[push_cast] theorem e40 : prog.elem 40 = 44 := by kernel_rfl
@[push_cast] theorem c41 : prog.cellsOf 41 = 1 := by kernel_rfl
@[push_cast] theorem g41 : isAggB prog 41 = false := by kernel_rfl
@[push_cast] theorem s41 : (prog.underlying 41).isSome = true := by kernel_rfl
@[push_cast] theorem i41 : (prog.info? 41).isSome = true := by kernel_rfl
@[push_cast] theorem m41 : concreteB prog 41 = true := by kernel_rfl
@[push_cast] theorem a41 : elemOk prog 41 = true := by kernel_rfl
@[push_cast] theorem b41 : bytesOf prog 41 = 8 := by kernel_rfl
@[push_cast] theorem z41 : zeroD prog 41 = some ([.t (.v (.pointer none))]) := by kernel_rfl
@[push_cast] theorem c42 : prog.cellsOf 42 = 1 := by kernel_rfl
@[push_cast] theorem g42 : isAggB prog 42 = false := by kernel_rfl
@[push_cast] theorem s42 : (prog.underlying 42).isSome = true := by kernel_rfl
@[push_cast] theorem i42 : (prog.info? 42).isSome = true := by kernel_rfl
@[push_cast] theorem m42 : concreteB prog 42 = true := by kernel_rfl
@[push_cast] theorem a42 : elemOk prog 42 = true := by kernel_rfl
@[push_cast] theorem b42 : bytesOf prog 42 = 8 := by kernel_rfl
@[push_cast] theorem z42 : zeroD prog 42 = some ([.t (.v .nilFunc)]) := by kernel_rfl
@[push_cast] theorem c43 : prog.cellsOf 43 = 5 := by kernel_rfl
@[push_cast] theorem g43 : isAggB prog 43 = true := by kernel_rfl
@[push_cast] theorem s43 : (prog.underlying 43).isSome = true := by kernel_rfl
@[push_cast] theorem i43 : (prog.info? 43).isSome = true := by kernel_rfl
@[push_cast] theorem m43 : concreteB prog 43 = true := by kernel_rfl
@[push_cast] theorem a43 : elemOk prog 43 = true := by kernel_rfl
@[push_cast] theorem b43 : bytesOf prog 43 = 64 := by kernel_rfl
@[push_cast] theorem z43 : zeroD prog 43 = some ([.t (.v (.int .i64 0)), .t (.v (.int .i64 0)), .t (.v (.string ⟨#[]⟩)), .t (.v (.int .i64 0)), .t (.v (.slice none 0 0))]) := by kernel_rfl
@[push_cast] theorem f43_0 : fieldOf prog 43 0 = some (0, 1, 3) := by kernel_rfl
@[push_cast] theorem q43_0 : placeOf prog 43 0 = some (0, 1) := by kernel_rfl
@[push_cast] theorem f43_1 : fieldOf prog 43 1 = some (1, 1, 3) := by kernel_rfl
@[push_cast] theorem q43_1 : placeOf prog 43 1 = some (1, 1) := by kernel_rfl
@[push_cast] theorem f43_2 : fieldOf prog 43 2 = some (2, 1, 9) := by kernel_rfl
@[push_cast] theorem q43_2 : placeOf prog 43 2 = some (2, 1) := by kernel_rfl
@[push_cast] theorem f43_3 : fieldOf prog 43 3 = some (3, 2, 29) := by kernel_rfl
@[push_cast] theorem q43_3 : placeOf prog 43 3 = some (3, 2) := by kernel_rfl
@[push_cast] theorem p43 : placesOk prog 43 = true := by kernel_rfl
@[push_cast] theorem c44 : prog.cellsOf 44 = 5 := by kernel_rfl
@[push_cast] theorem g44 : isAggB prog 44 = true := by kernel_rfl
@[push_cast] theorem s44 : (prog.underlying 44).isSome = true := by kernel_rfl
@[push_cast] theorem i44 : (prog.info? 44).isSome = true := by kernel_rfl
@[push_cast] theorem m44 : concreteB prog 44 = true := by kernel_rfl
@[push_cast] theorem a44 : elemOk prog 44 = true := by kernel_rfl
@[push_cast] theorem b44 : bytesOf prog 44 = 64 := by kernel_rfl
@[push_cast] theorem z44 : zeroD prog 44 = some ([.t (.v (.int .i64 0)), .t (.v (.int .i64 0)), .t (.v (.string ⟨#[]⟩)), .t (.v (.int .i64 0)), .t (.v (.slice none 0 0))]) := by kernel_rfl
@[push_cast] theorem f44_0 : fieldOf prog 44 0 = some (0, 1, 3) := by kernel_rfl
@[push_cast] theorem q44_0 : placeOf prog 44 0 = some (0, 1) := by kernel_rfl
@[push_cast] theorem f44_1 : fieldOf prog 44 1 = some (1, 1, 3) := by kernel_rfl
@[push_cast] theorem q44_1 : placeOf prog 44 1 = some (1, 1) := by kernel_rfl
@[push_cast] theorem f44_2 : fieldOf prog 44 2 = some (2, 1, 9) := by kernel_rfl
@[push_cast] theorem q44_2 : placeOf prog 44 2 = some (2, 1) := by kernel_rfl
@[push_cast] theorem f44_3 : fieldOf prog 44 3 = some (3, 2, 29) := by kernel_rfl
@[push_cast] theorem q44_3 : placeOf prog 44 3 = some (3, 2) := by kernel_rfl
@[push_cast] theorem p44 : placesOk prog 44 = true := by kernel_rfl
@[push_cast] theorem c45 : prog.cellsOf 45 = 1 := by kernel_rfl
@[push_cast] theorem g45 : isAggB prog 45 = false := by kernel_rfl
@[push_cast] theorem s45 : (prog.underlying 45).isSome = true := by kernel_rfl
@[push_cast] theorem i45 : (prog.info? 45).isSome = true := by kernel_rfl
@[push_cast] theorem m45 : concreteB prog 45 = true := by kernel_rfl
@[push_cast] theorem a45 : elemOk prog 45 = true := by kernel_rfl
@[push_cast] theorem b45 : bytesOf prog 45 = 8 := by kernel_rfl
@[push_cast] theorem z45 : zeroD prog 45 = some ([.t (.v .nilFunc)]) := by kernel_rfl
@[push_cast] theorem c46 : prog.cellsOf 46 = 1 := by kernel_rfl
@[push_cast] theorem g46 : isAggB prog 46 = false := by kernel_rfl
@[push_cast] theorem s46 : (prog.underlying 46).isSome = true := by kernel_rfl
@[push_cast] theorem i46 : (prog.info? 46).isSome = true := by kernel_rfl
@[push_cast] theorem m46 : concreteB prog 46 = true := by kernel_rfl
@[push_cast] theorem a46 : elemOk prog 46 = true := by kernel_rfl
@[push_cast] theorem b46 : bytesOf prog 46 = 8 := by kernel_rfl
@[push_cast] theorem z46 : zeroD prog 46 = some ([.t (.v .nilFunc)]) := by kernel_rfl
@[push_cast] theorem c48 : prog.cellsOf 48 = 1 := by kernel_rfl
@[push_cast] theorem g48 : isAggB prog 48 = false := by kernel_rfl
@[push_cast] theorem s48 : (prog.underlying 48).isSome = true := by kernel_rfl
@[push_cast] theorem i48 : (prog.info? 48).isSome = true := by kernel_rfl
@[push_cast] theorem m48 : concreteB prog 48 = true := by kernel_rfl
@[push_cast] theorem a48 : elemOk prog 48 = true := by kernel_rfl
@[push_cast] theorem b48 : bytesOf prog 48 = 8 := by kernel_rfl
@[push_cast] theorem z48 : zeroD prog 48 = some ([.t (.v .nilFunc)]) := by kernel_rfl
@[push_cast] theorem c49 : prog.cellsOf 49 = 4 := by kernel_rfl
@[push_cast] theorem g49 : isAggB prog 49 = true := by kernel_rfl
@[push_cast] theorem s49 : (prog.underlying 49).isSome = true := by kernel_rfl
@[push_cast] theorem i49 : (prog.info? 49).isSome = true := by kernel_rfl
@[push_cast] theorem m49 : concreteB prog 49 = true := by kernel_rfl
@[push_cast] theorem a49 : elemOk prog 49 = true := by kernel_rfl
@[push_cast] theorem b49 : bytesOf prog 49 = 64 := by kernel_rfl
@[push_cast] theorem z49 : zeroD prog 49 = some ([.t (.v (.string ⟨#[]⟩)), .t (.v (.string ⟨#[]⟩)), .t (.v (.string ⟨#[]⟩)), .t (.v (.string ⟨#[]⟩))]) := by kernel_rfl
@[push_cast] theorem u49 : prog.underlying 49 = some (.array 4 9) := by kernel_rfl
@[push_cast] theorem e49 : prog.elem 49 = 9 := by kernel_rfl
@[push_cast] theorem l49 : prog.arrayLen 49 = 4 := by kernel_rfl
@[push_cast] theorem p49 : placesOk prog 49 = true := by kernel_rfl
@[push_cast] theorem q49 (i : Nat) : placeOf prog 49 i = some (i * 1, 1) := by rw [placeOf_arr u49, c9]
@[push_cast] theorem c50 : prog.cellsOf 50 = 1 := by kernel_rfl
@[push_cast] theorem g50 : isAggB prog 50 = false := by kernel_rfl
@[push_cast] theorem s50 : (prog.underlying 50).isSome = true := by kernel_rfl
@[push_cast] theorem i50 : (prog.info? 50).isSome = true := by kernel_rfl
@[push_cast] theorem m50 : concreteB prog 50 = true := by kernel_rfl
@[push_cast] theorem a50 : elemOk prog 50 = true := by kernel_rfl
@[push_cast] theorem b50 : bytesOf prog 50 = 24 := by kernel_rfl
@[push_cast] theorem z50 : zeroD prog 50 = some ([.t (.v (.slice none 0 0))]) := by kernel_rfl
@[push_cast] theorem u50 : prog.underlying 50 = some (.slice 67) := by kernel_rfl
@[push_cast] theorem e50 : prog.elem 50 = 67 := by kernel_rfl
@[push_cast] theorem c51 : prog.cellsOf 51 = 7 := by kernel_rfl
@[push_cast] theorem g51 : isAggB prog 51 = true := by kernel_rfl
@[push_cast] theorem s51 : (prog.underlying 51).isSome = true := by kernel_rfl
@[push_cast] theorem i51 : (prog.info? 51).isSome = true := by kernel_rfl
@[push_cast] theorem m51 : concreteB prog 51 = true := by kernel_rfl
@[push_cast] theorem a51 : elemOk prog 51 = true := by kernel_rfl
@[push_cast] theorem b51 : bytesOf prog 51 = 104 := by kernel_rfl
@[push_cast] theorem z51 : zeroD prog 51 = some ([.t (.v (.string ⟨#[]⟩)), .t (.v (.string ⟨#[]⟩)), .t (.v (.string ⟨#[]⟩)), .t (.v (.string ⟨#[]⟩)), .t (.v (.slice none 0 0)), .t (.v (.int .i64 0)), .t (.v (.bool false))]) := by kernel_rfl
@[push_cast] theorem f51_0 : fieldOf prog 51 0 = some (0, 4, 49) := by kernel_rfl
@[push_cast] theorem q51_0 : placeOf prog 51 0 = some (0, 4) := by kernel_rfl
@[push_cast] theorem f51_1 : fieldOf prog 51 1 = some (4, 1, 50) := by kernel_rfl
@[push_cast] theorem q51_1 : placeOf prog 51 1 = some (4, 1) := by kernel_rfl
@[push_cast] theorem f51_2 : fieldOf prog 51 2 = some (5, 1, 3) := by kernel_rfl
@[push_cast] theorem q51_2 : placeOf prog 51 2 = some (5, 1) := by kernel_rfl
@[push_cast] theorem f51_3 : fieldOf prog 51 3 = some (6, 1, 4) := by kernel_rfl
@[push_cast] theorem q51_3 : placeOf prog 51 3 = some (6, 1) := by kernel_rfl
@[push_cast] theorem p51 : placesOk prog 51 = true := by kernel_rfl
@[push_cast] theorem c52 : prog.cellsOf 52 = 7 := by kernel_rfl
@[push_cast] theorem g52 : isAggB prog 52 = true := by kernel_rfl
@[push_cast] theorem s52 : (prog.underlying 52).isSome = true := by kernel_rfl
@[push_cast] theorem i52 : (prog.info? 52).isSome = true := by kernel_rfl
@[push_cast] theorem m52 : concreteB prog 52 = true := by kernel_rfl
@[push_cast] theorem a52 : elemOk prog 52 = true := by kernel_rfl
@[push_cast] theorem b52 : bytesOf prog 52 = 104 := by kernel_rfl
@[push_cast] theorem z52 : zeroD prog 52 = some ([.t (.v (.string ⟨#[]⟩)), .t (.v (.string ⟨#[]⟩)), .t (.v (.string ⟨#[]⟩)), .t (.v (.string ⟨#[]⟩)), .t (.v (.slice none 0 0)), .t (.v (.int .i64 0)), .t (.v (.bool false))]) := by kernel_rfl
@[push_cast] theorem f52_0 : fieldOf prog 52 0 = some (0, 4, 49) := by kernel_rfl
@[push_cast] theorem q52_0 : placeOf prog 52 0 = some (0, 4) := by kernel_rfl
@[push_cast] theorem f52_1 : fieldOf prog 52 1 = some (4, 1, 50) := by kernel_rfl
@[push_cast] theorem q52_1 : placeOf prog 52 1 = some (4, 1) := by kernel_rfl
@[push_cast] theorem f52_2 : fieldOf prog 52 2 = some (5, 1, 3) := by kernel_rfl
@[push_cast] theorem q52_2 : placeOf prog 52 2 = some (5, 1) := by kernel_rfl
@[push_cast] theorem f52_3 : fieldOf prog 52 3 = some (6, 1, 4) := by kernel_rfl
@[push_cast] theorem q52_3 : placeOf prog 52 3 = some (6, 1) := by kernel_rfl
@[push_cast] theorem p52 : placesOk prog 52 = true := by kernel_rfl
@[push_cast] theorem c53 : prog.cellsOf 53 = 1 := by kernel_rfl
@[push_cast] theorem g53 : isAggB prog 53 = false := by kernel_rfl
@[push_cast] theorem s53 : (prog.underlying 53).isSome = true := by kernel_rfl
@[push_cast] theorem i53 : (prog.info? 53).isSome = true := by kernel_rfl
@[push_cast] theorem m53 : concreteB prog 53 = true := by kernel_rfl
@[push_cast] theorem a53 : elemOk prog 53 = true := by kernel_rfl
@[push_cast] theorem b53 : bytesOf prog 53 = 8 := by kernel_rfl
@[push_cast] theorem z53 : zeroD prog 53 = some ([.t (.v .nilFunc)]) := by kernel_rfl
@[push_cast] theorem c54 : prog.cellsOf 54 = 1 := by kernel_rfl
@[push_cast] theorem g54 : isAggB prog 54 = false := by kernel_rfl
@[push_cast] theorem s54 : (prog.underlying 54).isSome = true := by kernel_rfl
@[push_cast] theorem i54 : (prog.info? 54).isSome = true := by kernel_rfl
@[push_cast] theorem m54 : concreteB prog 54 = true := by kernel_rfl
@[push_cast] theorem a54 : elemOk prog 54 = true := by kernel_rfl
@[push_cast] theorem b54 : bytesOf prog 54 = 8 := by kernel_rfl
@[push_cast] theorem z54 : zeroD prog 54 = some ([.t (.v .nilFunc)]) := by kernel_rfl
@[push_cast] theorem c55 : prog.cellsOf 55 = 1 := by kernel_rfl
@[push_cast] theorem g55 : isAggB prog 55 = false := by kernel_rfl
@[push_cast] theorem s55 : (prog.underlying 55).isSome = true := by kernel_rfl
@[push_cast] theorem i55 : (prog.info? 55).isSome = true := by kernel_rfl
@[push_cast] theorem m55 : concreteB prog 55 = true := by kernel_rfl
@[push_cast] theorem a55 : elemOk prog 55 = true := by kernel_rfl
@[push_cast] theorem b55 : bytesOf prog 55 = 24 := by kernel_rfl
@[push_cast] theorem z55 : zeroD prog 55 = some ([.t (.v (.slice none 0 0))]) := by kernel_rfl
@[push_cast] theorem u55 : prog.underlying 55 = some (.slice 64) := by kernel_rfl
@[push_cast] theorem e55 : prog.elem 55 = 64 := by kernel_rfl
@[push_cast] theorem c56 : prog.cellsOf 56 = 9 := by kernel_rfl
@[push_cast] theorem g56 : isAggB prog 56 = true := by kernel_rfl
@[push_cast] theorem s56 : (prog.underlying 56).isSome = true := by kernel_rfl
@[push_cast] theorem i56 : (prog.info? 56).isSome = true := by kernel_rfl
@[push_cast] theorem m56 : concreteB prog 56 = true := by kernel_rfl
@[push_cast] theorem a56 : elemOk prog 56 = true := by kernel_rfl
@[push_cast] theorem b56 : bytesOf prog 56 = 136 := by kernel_rfl
@[push_cast] theorem z56 : zeroD prog 56 = some ([.t (.v (.string ⟨#[]⟩)), .t (.v (.string ⟨#[]⟩)), .t (.v (.string ⟨#[]⟩)), .t (.v (.string ⟨#[]⟩)), .t (.v (.slice none 0 0)), .t (.v (.int .i64 0)), .t (.v (.slice none 0 0)), .t (.v (.int .i64 0)), .t (.v (.bool false))]) := by kernel_rfl
@[push_cast] theorem f56_0 : fieldOf prog 56 0 = some (0, 4, 49) := by kernel_rfl
@[push_cast] theorem q56_0 : placeOf prog 56 0 = some (0, 4) := by kernel_rfl
@[push_cast] theorem f56_1 : fieldOf prog 56 1 = some (4, 1, 55) := by kernel_rfl
@[push_cast] theorem q56_1 : placeOf prog 56 1 = some (4, 1) := by kernel_rfl
@[push_cast] theorem f56_2 : fieldOf prog 56 2 = some (5, 2, 29) := by kernel_rfl
@[push_cast] theorem q56_2 : placeOf prog 56 2 = some (5, 2) := by kernel_rfl
@[push_cast] theorem f56_3 : fieldOf prog 56 3 = some (7, 1, 3) := by kernel_rfl
@[push_cast] theorem q56_3 : placeOf prog 56 3 = some (7, 1) := by kernel_rfl
@[push_cast] theorem f56_4 : fieldOf prog 56 4 = some (8, 1, 4) := by kernel_rfl
@[push_cast] theorem q56_4 : placeOf prog 56 4 = some (8, 1) := by kernel_rfl
@[push_cast] theorem p56 : placesOk prog 56 = true := by kernel_rfl
@[push_cast] theorem c57 : prog.cellsOf 57 = 9 := by kernel_rfl
@[push_cast] theorem g57 : isAggB prog 57 = true := by kernel_rfl
@[push_cast] theorem s57 : (prog.underlying 57).isSome = true := by kernel_rfl
@[push_cast] theorem i57 : (prog.info? 57).isSome = true := by kernel_rfl
@[push_cast] theorem m57 : concreteB prog 57 = true := by kernel_rfl
@[push_cast] theorem a57 : elemOk prog 57 = true := by kernel_rfl
@[push_cast] theorem b57 : bytesOf prog 57 = 136 := by kernel_rfl
@[push_cast] theorem z57 : zeroD prog 57 = some ([.t (.v (.string ⟨#[]⟩)), .t (.v (.string ⟨#[]⟩)), .t (.v (.string ⟨#[]⟩)), .t (.v (.string ⟨#[]⟩)), .t (.v (.slice none 0 0)), .t (.v (.int .i64 0)), .t (.v (.slice none 0 0)), .t (.v (.int .i64 0)), .t (.v (.bool false))]) := by kernel_rfl
@[push_cast] theorem f57_0 : fieldOf prog 57 0 = some (0, 4, 49) := by kernel_rfl
@[push_cast] theorem q57_0 : placeOf prog 57 0 = some (0, 4) := by kernel_rfl
@[push_cast] theorem f57_1 : fieldOf prog 57 1 = some (4, 1, 55) := by kernel_rfl
@[push_cast] theorem q57_1 : placeOf prog 57 1 = some (4, 1) := by kernel_rfl
@[push_cast] theorem f57_2 : fieldOf prog 57 2 = some (5, 2, 29) := by kernel_rfl
@[push_cast] theorem q57_2 : placeOf prog 57 2 = some (5, 2) := by kernel_rfl
@[push_cast] theorem f57_3 : fieldOf prog 57 3 = some (7, 1, 3) := by kernel_rfl
@[push_cast] theorem q57_3 : placeOf prog 57 3 = some (7, 1) := by kernel_rfl
@[push_cast] theorem f57_4 : fieldOf prog 57 4 = some (8, 1, 4) := by kernel_rfl
@[push_cast] theorem q57_4 : placeOf prog 57 4 = some (8, 1) := by kernel_rfl
@[push_cast] theorem p57 : placesOk prog 57 = true := by kernel_rfl
@[push_cast] theorem c58 : prog.cellsOf 58 = 1 := by kernel_rfl
@[push_cast] theorem g58 : isAggB prog 58 = false := by kernel_rfl
@[push_cast] theorem s58 : (prog.underlying 58).isSome = true := by kernel_rfl
@[push_cast] theorem i58 : (prog.info? 58).isSome = true := by kernel_rfl
@[push_cast] theorem a58 : elemOk prog 58 = true := by kernel_rfl
@[push_cast] theorem b58 : bytesOf prog 58 = 16 := by kernel_rfl
@[push_cast] theorem z58 : zeroD prog 58 = some ([.t (.v .nilIface)]) := by kernel_rfl
@[push_cast] theorem u58 : prog.underlying 58 = some (.interface (prog.methodsAt 58)) := by kernel_rfl
@[push_cast] theorem c59 : prog.cellsOf 59 = 1 := by kernel_rfl
@[push_cast] theorem g59 : isAggB prog 59 = false := by kernel_rfl
@[push_cast] theorem s59 : (prog.underlying 59).isSome = true := by kernel_rfl
@[push_cast] theorem i59 : (prog.info? 59).isSome = true := by kernel_rfl
@[push_cast] theorem a59 : elemOk prog 59 = true := by kernel_rfl
@[push_cast] theorem b59 : bytesOf prog 59 = 16 := by kernel_rfl
@[push_cast] theorem z59 : zeroD prog 59 = some ([.t (.v .nilIface)]) := by kernel_rfl
@[push_cast] theorem u59 : prog.underlying 59 = some (.interface (prog.methodsAt 59)) := by kernel_rfl
@[push_cast] theorem c60 : prog.cellsOf 60 = 1 := by kernel_rfl
@[push_cast] theorem g60 : isAggB prog 60 = false := by kernel_rfl
@[push_cast] theorem s60 : (prog.underlying 60).isSome = true := by kernel_rfl
@[push_cast] theorem i60 : (prog.info? 60).isSome = true := by kernel_rfl
@[push_cast] theorem m60 : concreteB prog 60 = true := by kernel_rfl
@[push_cast] theorem a60 : elemOk prog 60 = true := by kernel_rfl
@[push_cast] theorem b60 : bytesOf prog 60 = 8 := by kernel_rfl
@[push_cast] theorem z60 : zeroD prog 60 = some ([.t (.v .nilFunc)]) := by kernel_rfl
@[push_cast] theorem c61 : prog.cellsOf 61 = 1 := by kernel_rfl
@[push_cast] theorem g61 : isAggB prog 61 = false := by kernel_rfl
@[push_cast] theorem s61 : (prog.underlying 61).isSome = true := by kernel_rfl
@[push_cast] theorem i61 : (prog.info? 61).isSome = true := by kernel_rfl
@[push_cast] theorem m61 : concreteB prog 61 = true := by kernel_rfl
@[push_cast] theorem a61 : elemOk prog 61 = true := by kernel_rfl
@[push_cast] theorem b61 : bytesOf prog 61 = 8 := by kernel_rfl
@[push_cast] theorem z61 : zeroD prog 61 = some ([.t (.v .nilFunc)]) := by kernel_rfl
@[push_cast] theorem c62 : prog.cellsOf 62 = 1 := by kernel_rfl
@[push_cast] theorem g62 : isAggB prog 62 = false := by kernel_rfl
@[push_cast] theorem s62 : (prog.underlying 62).isSome = true := by kernel_rfl
@[push_cast] theorem i62 : (prog.info? 62).isSome = true := by kernel_rfl
@[push_cast] theorem m62 : concreteB prog 62 = true := by kernel_rfl
@[push_cast] theorem a62 : elemOk prog 62 = true := by kernel_rfl
@[push_cast] theorem b62 : bytesOf prog 62 = 8 := by kernel_rfl
@[push_cast] theorem z62 : zeroD prog 62 = some ([.t (.v .nilFunc)]) := by kernel_rfl
@[push_cast] theorem c63 : prog.cellsOf 63 = 2 := by kernel_rfl
@[push_cast] theorem g63 : isAggB prog 63 = true := by kernel_rfl
@[push_cast] theorem s63 : (prog.underlying 63).isSome = true := by kernel_rfl
@[push_cast] theorem i63 : (prog.info? 63).isSome = true := by kernel_rfl
@[push_cast] theorem m63 : concreteB prog 63 = true := by kernel_rfl
@[push_cast] theorem a63 : elemOk prog 63 = true := by kernel_rfl
@[push_cast] theorem b63 : bytesOf prog 63 = 24 := by kernel_rfl
@[push_cast] theorem z63 : zeroD prog 63 = some ([.t (.v (.int .i64 0)), .t (.v (.string ⟨#[]⟩))]) := by kernel_rfl
@[push_cast] theorem f63_0 : fieldOf prog 63 0 = some (0, 1, 3) := by kernel_rfl
@[push_cast] theorem q63_0 : placeOf prog 63 0 = some (0, 1) := by kernel_rfl
@[push_cast] theorem f63_1 : fieldOf prog 63 1 = some (1, 1, 9) := by kernel_rfl
@[push_cast] theorem q63_1 : placeOf prog 63 1 = some (1, 1) := by kernel_rfl
@[push_cast] theorem p63 : placesOk prog 63 = true := by kernel_rfl
@[push_cast] theorem c64 : prog.cellsOf 64 = 2 := by kernel_rfl
@[push_cast] theorem g64 : isAggB prog 64 = true := by kernel_rfl
@[push_cast] theorem s64 : (prog.underlying 64).isSome = true := by kernel_rfl
@[push_cast] theorem i64 : (prog.info? 64).isSome = true := by kernel_rfl
@[push_cast] theorem m64 : concreteB prog 64 = true := by kernel_rfl
@[push_cast] theorem a64 : elemOk prog 64 = true := by kernel_rfl
@[push_cast] theorem b64 : bytesOf prog 64 = 24 := by kernel_rfl
@[push_cast] theorem z64 : zeroD prog 64 = some ([.t (.v (.int .i64 0)), .t (.v (.string ⟨#[]⟩))]) := by kernel_rfl
@[push_cast] theorem f64_0 : fieldOf prog 64 0 = some (0, 1, 3) := by kernel_rfl
@[push_cast] theorem q64_0 : placeOf prog 64 0 = some (0, 1) := by kernel_rfl
@[push_cast] theorem f64_1 : fieldOf prog 64 1 = some (1, 1, 9) := by kernel_rfl
@[push_cast] theorem q64_1 : placeOf prog 64 1 = some (1, 1) := by kernel_rfl
@[push_cast] theorem p64 : placesOk prog 64 = true := by kernel_rfl
@[push_cast] theorem c65 : prog.cellsOf 65 = 1 := by kernel_rfl
@[push_cast] theorem g65 : isAggB prog 65 = false := by kernel_rfl
@[push_cast] theorem s65 : (prog.underlying 65).isSome = true := by kernel_rfl
@[push_cast] theorem i65 : (prog.info? 65).isSome = true := by kernel_rfl
@[push_cast] theorem m65 : concreteB prog 65 = true := by kernel_rfl
@[push_cast] theorem a65 : elemOk prog 65 = true := by kernel_rfl
@[push_cast] theorem b65 : bytesOf prog 65 = 8 := by kernel_rfl
@[push_cast] theorem z65 : zeroD prog 65 = some ([.t (.v .nilFunc)]) := by kernel_rfl
@[push_cast] theorem c66 : prog.cellsOf 66 = 2 := by kernel_rfl
@[push_cast] theorem g66 : isAggB prog 66 = true := by kernel_rfl
@[push_cast] theorem s66 : (prog.underlying 66).isSome = true := by kernel_rfl
@[push_cast] theorem i66 : (prog.info? 66).isSome = true := by kernel_rfl
@[push_cast] theorem m66 : concreteB prog 66 = true := by kernel_rfl
@[push_cast] theorem a66 : elemOk prog 66 = true := by kernel_rfl
@[push_cast] theorem b66 : bytesOf prog 66 = 24 := by kernel_rfl
@[push_cast] theorem z66 : zeroD prog 66 = some ([.t (.v (.int .i64 0)), .t (.v (.string ⟨#[]⟩))]) := by kernel_rfl
@[push_cast] theorem f66_0 : fieldOf prog 66 0 = some (0, 1, 3) := by kernel_rfl
@[push_cast] theorem q66_0 : placeOf prog 66 0 = some (0, 1) := by kernel_rfl
@[push_cast] theorem f66_1 : fieldOf prog 66 1 = some (1, 1, 9) := by kernel_rfl
@[push_cast] theorem q66_1 : placeOf prog 66 1 = some (1, 1) := by kernel_rfl
@[push_cast] theorem p66 : placesOk prog 66 = true := by kernel_rfl
@[push_cast] theorem c67 : prog.cellsOf 67 = 2 := by kernel_rfl
@[push_cast] theorem g67 : isAggB prog 67 = true := by kernel_rfl
@[push_cast] theorem s67 : (prog.underlying 67).isSome = true := by kernel_rfl
@[push_cast] theorem i67 : (prog.info? 67).isSome = true := by kernel_rfl
@[push_cast] theorem m67 : concreteB prog 67 = true := by kernel_rfl
@[push_cast] theorem a67 : elemOk prog 67 = true := by kernel_rfl
@[push_cast] theorem b67 : bytesOf prog 67 = 24 := by kernel_rfl
@[push_cast] theorem z67 : zeroD prog 67 = some ([.t (.v (.int .i64 0)), .t (.v (.string ⟨#[]⟩))]) := by kernel_rfl
@[push_cast] theorem f67_0 : fieldOf prog 67 0 = some (0, 1, 3) := by kernel_rfl
@[push_cast] theorem q67_0 : placeOf prog 67 0 = some (0, 1) := by kernel_rfl
@[push_cast] theorem f67_1 : fieldOf prog 67 1 = some (1, 1, 9) := by kernel_rfl
@[push_cast] theorem q67_1 : placeOf prog 67 1 = some (1, 1) := by kernel_rfl
@[push_cast] theorem p67 : placesOk prog 67 = true := by kernel_rfl
@[push_cast] theorem c68 : prog.cellsOf 68 = 1 := by kernel_rfl
@[push_cast] theorem g68 : isAggB prog 68 = true := by kernel_rfl
@[push_cast] theorem s68 : (prog.underlying 68).isSome = true := by kernel_rfl
@[push_cast] theorem i68 : (prog.info? 68).isSome = true := by kernel_rfl
@[push_cast] theorem m68 : concreteB prog 68 = true := by kernel_rfl
@[push_cast] theorem a68 : elemOk prog 68 = true := by kernel_rfl
@[push_cast] theorem b68 : bytesOf prog 68 = 8 := by kernel_rfl
@[push_cast] theorem z68 : zeroD prog 68 = some ([.t (.v (.int .i64 0))]) := by kernel_rfl
@[push_cast] theorem f68_0 : fieldOf prog 68 0 = some (0, 1, 31) := by kernel_rfl
@[push_cast] theorem q68_0 : placeOf prog 68 0 = some (0, 1) := by kernel_rfl
@[push_cast] theorem p68 : placesOk prog 68 = true := by kernel_rfl
@[push_cast] theorem c69 : prog.cellsOf 69 = 1 := by kernel_rfl
@[push_cast] theorem g69 : isAggB prog 69 = true := by kernel_rfl
@[push_cast] theorem s69 : (prog.underlying 69).isSome = true := by kernel_rfl
@[push_cast] theorem i69 : (prog.info? 69).isSome = true := by kernel_rfl
@[push_cast] theorem m69 : concreteB prog 69 = true := by kernel_rfl
@[push_cast] theorem a69 : elemOk prog 69 = true := by kernel_rfl
@[push_cast] theorem b69 : bytesOf prog 69 = 8 := by kernel_rfl
@[push_cast] theorem z69 : zeroD prog 69 = some ([.t (.v (.int .i64 0))]) := by kernel_rfl
@[push_cast] theorem f69_0 : fieldOf prog 69 0 = some (0, 1, 31) := by kernel_rfl
@[push_cast] theorem q69_0 : placeOf prog 69 0 = some (0, 1) := by kernel_rfl
@[push_cast] theorem p69 : placesOk prog 69 = true := by kernel_rfl
@[push_cast] theorem c70 : prog.cellsOf 70 = 2 := by kernel_rfl
@[push_cast] theorem g70 : isAggB prog 70 = true := by kernel_rfl
@[push_cast] theorem s70 : (prog.underlying 70).isSome = true := by kernel_rfl
@[push_cast] theorem i70 : (prog.info? 70).isSome = true := by kernel_rfl
@[push_cast] theorem m70 : concreteB prog 70 = true := by kernel_rfl
@[push_cast] theorem a70 : elemOk prog 70 = true := by kernel_rfl
@[push_cast] theorem b70 : bytesOf prog 70 = 32 := by kernel_rfl
@[push_cast] theorem z70 : zeroD prog 70 = some ([.t (.v (.string ⟨#[]⟩)), .t (.v .nilIface)]) := by kernel_rfl
@[push_cast] theorem f70_0 : fieldOf prog 70 0 = some (0, 1, 9) := by kernel_rfl
@[push_cast] theorem q70_0 : placeOf prog 70 0 = some (0, 1) := by kernel_rfl
@[push_cast] theorem f70_1 : fieldOf prog 70 1 = some (1, 1, 59) := by kernel_rfl
@[push_cast] theorem q70_1 : placeOf prog 70 1 = some (1, 1) := by kernel_rfl
@[push_cast] theorem p70 : placesOk prog 70 = true := by kernel_rfl
@[push_cast] theorem c71 : prog.cellsOf 71 = 2 := by kernel_rfl
@[push_cast] theorem g71 : isAggB prog 71 = true := by kernel_rfl
@[push_cast] theorem s71 : (prog.underlying 71).isSome = true := by kernel_rfl
@[push_cast] theorem i71 : (prog.info? 71).isSome = true := by kernel_rfl
@[push_cast] theorem m71 : concreteB prog 71 = true := by kernel_rfl
@[push_cast] theorem a71 : elemOk prog 71 = true := by kernel_rfl
@[push_cast] theorem b71 : bytesOf prog 71 = 32 := by kernel_rfl
@[push_cast] theorem z71 : zeroD prog 71 = some ([.t (.v (.string ⟨#[]⟩)), .t (.v .nilIface)]) := by kernel_rfl
@[push_cast] theorem f71_0 : fieldOf prog 71 0 = some (0, 1, 9) := by kernel_rfl
@[push_cast] theorem q71_0 : placeOf prog 71 0 = some (0, 1) := by kernel_rfl
@[push_cast] theorem f71_1 : fieldOf prog 71 1 = some (1, 1, 59) := by kernel_rfl
@[push_cast] theorem q71_1 : placeOf prog 71 1 = some (1, 1) := by kernel_rfl
@[push_cast] theorem p71 : placesOk prog 71 = true := by kernel_rfl
@[push_cast] theorem c72 : prog.cellsOf 72 = 1 := by kernel_rfl
@[push_cast] theorem g72 : isAggB prog 72 = false := by kernel_rfl
@[push_cast] theorem s72 : (prog.underlying 72).isSome = true := by kernel_rfl
@[push_cast] theorem i72 : (prog.info? 72).isSome = true := by kernel_rfl
@[push_cast] theorem m72 : concreteB prog 72 = true := by kernel_rfl
@[push_cast] theorem a72 : elemOk prog 72 = true := by kernel_rfl
@[push_cast] theorem b72 : bytesOf prog 72 = 8 := by kernel_rfl
@[push_cast] theorem z72 : zeroD prog 72 = some ([.t (.v .nilFunc)]) := by kernel_rfl
@[push_cast] theorem c73 : prog.cellsOf 73 = 1 := by kernel_rfl
@[push_cast] theorem g73 : isAggB prog 73 = false := by kernel_rfl
@[push_cast] theorem s73 : (prog.underlying 73).isSome = true := by kernel_rfl
@[push_cast] theorem i73 : (prog.info? 73).isSome = true := by kernel_rfl
@[push_cast] theorem m73 : concreteB prog 73 = true := by kernel_rfl
@[push_cast] theorem a73 : elemOk prog 73 = true := by kernel_rfl
@[push_cast] theorem b73 : bytesOf prog 73 = 8 := by kernel_rfl
@[push_cast] theorem z73 : zeroD prog 73 = some ([.t (.v (.pointer none))]) := by kernel_rfl
@[push_cast] theorem c74 : prog.cellsOf 74 = 1 := by kernel_rfl
@[push_cast] theorem g74 : isAggB prog 74 = false := by kernel_rfl
@[push_cast] theorem s74 : (prog.underlying 74).isSome = true := by kernel_rfl
@[push_cast] theorem i74 : (prog.info? 74).isSome = true := by kernel_rfl
@[push_cast] theorem m74 : concreteB prog 74 = true := by kernel_rfl
@[push_cast] theorem a74 : elemOk prog 74 = true := by kernel_rfl
@[push_cast] theorem b74 : bytesOf prog 74 = 8 := by kernel_rfl
@[push_cast] theorem z74 : zeroD prog 74 = some ([.t (.v (.pointer none))]) := by kernel_rfl
@[push_cast] theorem c75 : prog.cellsOf 75 = 1 := by kernel_rfl
@[push_cast] theorem g75 : isAggB prog 75 = false := by kernel_rfl
@[push_cast] theorem s75 : (prog.underlying 75).isSome = true := by kernel_rfl
@[push_cast] theorem i75 : (prog.info? 75).isSome = true := by kernel_rfl
@[push_cast] theorem m75 : concreteB prog 75 = true := by kernel_rfl
@[push_cast] theorem a75 : elemOk prog 75 = true := by kernel_rfl
@[push_cast] theorem b75 : bytesOf prog 75 = 8 := by kernel_rfl
@[push_cast] theorem z75 : zeroD prog 75 = some ([.t (.v (.int .u64 0))]) := by kernel_rfl
@[push_cast] theorem u75 : prog.underlying 75 = some (.int .u64) := by kernel_rfl
@[push_cast] theorem c76 : prog.cellsOf 76 = 3 := by kernel_rfl
@[push_cast] theorem g76 : isAggB prog 76 = true := by kernel_rfl
@[push_cast] theorem s76 : (prog.underlying 76).isSome = true := by kernel_rfl
@[push_cast] theorem i76 : (prog.info? 76).isSome = true := by kernel_rfl
@[push_cast] theorem m76 : concreteB prog 76 = true := by kernel_rfl
@[push_cast] theorem a76 : elemOk prog 76 = true := by kernel_rfl
@[push_cast] theorem b76 : bytesOf prog 76 = 24 := by kernel_rfl
@[push_cast] theorem z76 : zeroD prog 76 = some ([.t (.v (.pointer none)), .t (.v (.pointer none)), .t (.v (.int .u64 0))]) := by kernel_rfl
@[push_cast] theorem f76_0 : fieldOf prog 76 0 = some (0, 1, 17) := by kernel_rfl
@[push_cast] theorem q76_0 : placeOf prog 76 0 = some (0, 1) := by kernel_rfl
@[push_cast] theorem f76_1 : fieldOf prog 76 1 = some (1, 1, 74) := by kernel_rfl
@[push_cast] theorem q76_1 : placeOf prog 76 1 = some (1, 1) := by kernel_rfl
@[push_cast] theorem f76_2 : fieldOf prog 76 2 = some (2, 1, 75) := by kernel_rfl
@[push_cast] theorem q76_2 : placeOf prog 76 2 = some (2, 1) := by kernel_rfl
@[push_cast] theorem p76 : placesOk prog 76 = true := by kernel_rfl
@[push_cast] theorem c77 : prog.cellsOf 77 = 3 := by kernel_rfl
@[push_cast] theorem g77 : isAggB prog 77 = true := by kernel_rfl
@[push_cast] theorem s77 : (prog.underlying 77).isSome = true := by kernel_rfl
@[push_cast] theorem i77 : (prog.info? 77).isSome = true := by kernel_rfl
@[push_cast] theorem m77 : concreteB prog 77 = true := by kernel_rfl
@[push_cast] theorem a77 : elemOk prog 77 = true := by kernel_rfl
@[push_cast] theorem b77 : bytesOf prog 77 = 24 := by kernel_rfl
@[push_cast] theorem z77 : zeroD prog 77 = some ([.t (.v (.pointer none)), .t (.v (.pointer none)), .t (.v (.int .u64 0))]) := by kernel_rfl
@[push_cast] theorem f77_0 : fieldOf prog 77 0 = some (0, 1, 17) := by kernel_rfl
@[push_cast] theorem q77_0 : placeOf prog 77 0 = some (0, 1) := by kernel_rfl
@[push_cast] theorem f77_1 : fieldOf prog 77 1 = some (1, 1, 74) := by kernel_rfl
@[push_cast] theorem q77_1 : placeOf prog 77 1 = some (1, 1) := by kernel_rfl
@[push_cast] theorem f77_2 : fieldOf prog 77 2 = some (2, 1, 75) := by kernel_rfl
@[push_cast] theorem q77_2 : placeOf prog 77 2 = some (2, 1) := by kernel_rfl
@[push_cast] theorem p77 : placesOk prog 77 = true := by kernel_rfl
@[push_cast] theorem c78 : prog.cellsOf 78 = 1 := by kernel_rfl
@[push_cast] theorem g78 : isAggB prog 78 = false := by kernel_rfl
@[push_cast] theorem s78 : (prog.underlying 78).isSome = true := by kernel_rfl
@[push_cast] theorem i78 : (prog.info? 78).isSome = true := by kernel_rfl
@[push_cast] theorem m78 : concreteB prog 78 = true := by kernel_rfl
@[push_cast] theorem a78 : elemOk prog 78 = true := by kernel_rfl
@[push_cast] theorem b78 : bytesOf prog 78 = 8 := by kernel_rfl
@[push_cast] theorem z78 : zeroD prog 78 = some ([.t (.v .nilFunc)]) := by kernel_rfl
@[push_cast] theorem c79 : prog.cellsOf 79 = 1 := by kernel_rfl
@[push_cast] theorem g79 : isAggB prog 79 = false := by kernel_rfl
@[push_cast] theorem s79 : (prog.underlying 79).isSome = true := by kernel_rfl
@[push_cast] theorem i79 : (prog.info? 79).isSome = true := by kernel_rfl
@[push_cast] theorem a79 : elemOk prog 79 = true := by kernel_rfl
@[push_cast] theorem b79 : bytesOf prog 79 = 16 := by kernel_rfl
@[push_cast] theorem z79 : zeroD prog 79 = some ([.t (.v .nilIface)]) := by kernel_rfl
@[push_cast] theorem u79 : prog.underlying 79 = some (.interface (prog.methodsAt 79)) := by kernel_rfl
@[push_cast] theorem c80 : prog.cellsOf 80 = 1 := by kernel_rfl
@[push_cast] theorem g80 : isAggB prog 80 = false := by kernel_rfl
@[push_cast] theorem s80 : (prog.underlying 80).isSome = true := by kernel_rfl
@[push_cast] theorem i80 : (prog.info? 80).isSome = true := by kernel_rfl
@[push_cast] theorem a80 : elemOk prog 80 = true := by kernel_rfl
@[push_cast] theorem b80 : bytesOf prog 80 = 16 := by kernel_rfl
@[push_cast] theorem z80 : zeroD prog 80 = some ([.t (.v .nilIface)]) := by kernel_rfl
@[push_cast] theorem u80 : prog.underlying 80 = some (.interface (prog.methodsAt 80)) := by kernel_rfl
@[push_cast] theorem c81 : prog.cellsOf 81 = 1 := by kernel_rfl
@[push_cast] theorem g81 : isAggB prog 81 = false := by kernel_rfl
@[push_cast] theorem s81 : (prog.underlying 81).isSome = true := by kernel_rfl
@[push_cast] theorem i81 : (prog.info? 81).isSome = true := by kernel_rfl
@[push_cast] theorem m81 : concreteB prog 81 = true := by kernel_rfl
@[push_cast] theorem a81 : elemOk prog 81 = true := by kernel_rfl
@[push_cast] theorem b81 : bytesOf prog 81 = 8 := by kernel_rfl
@[push_cast] theorem z81 : zeroD prog 81 = some ([.t (.v .nilFunc)]) := by kernel_rfl
@[push_cast] theorem c82 : prog.cellsOf 82 = 1 := by kernel_rfl
@[push_cast] theorem g82 : isAggB prog 82 = false := by kernel_rfl
@[push_cast] theorem s82 : (prog.underlying 82).isSome = true := by kernel_rfl
@[push_cast] theorem i82 : (prog.info? 82).isSome = true := by kernel_rfl
@[push_cast] theorem m82 : concreteB prog 82 = true := by kernel_rfl
@[push_cast] theorem a82 : elemOk prog 82 = true := by kernel_rfl
@[push_cast] theorem b82 : bytesOf prog 82 = 1 := by kernel_rfl
@[push_cast] theorem z82 : zeroD prog 82 = some ([.t (.v (.int .u8 0))]) := by kernel_rfl
@[push_cast] theorem u82 : prog.underlying 82 = some (.int .u8) := by kernel_rfl
@[push_cast] theorem c83 : prog.cellsOf 83 = 1 := by kernel_rfl
@[push_cast] theorem g83 : isAggB prog 83 = false := by kernel_rfl
@[push_cast] theorem s83 : (prog.underlying 83).isSome = true := by kernel_rfl
@[push_cast] theorem i83 : (prog.info? 83).isSome = true := by kernel_rfl
@[push_cast] theorem m83 : concreteB prog 83 = true := by kernel_rfl
@[push_cast] theorem a83 : elemOk prog 83 = true := by kernel_rfl
@[push_cast] theorem b83 : bytesOf prog 83 = 8 := by kernel_rfl
@[push_cast] theorem z83 : zeroD prog 83 = some ([.t (.v .nilFunc)]) := by kernel_rfl
@[push_cast] theorem c84 : prog.cellsOf 84 = 1 := by kernel_rfl
@[push_cast] theorem g84 : isAggB prog 84 = false := by kernel_rfl
@[push_cast] theorem s84 : (prog.underlying 84).isSome = true := by kernel_rfl
@[push_cast] theorem i84 : (prog.info? 84).isSome = true := by kernel_rfl
@[push_cast] theorem m84 : concreteB prog 84 = true := by kernel_rfl
@[push_cast] theorem a84 : elemOk prog 84 = true := by kernel_rfl
@[push_cast] theorem b84 : bytesOf prog 84 = 8 := by kernel_rfl
@[push_cast] theorem z84 : zeroD prog 84 = some ([.t (.v .nilFunc)]) := by kernel_rfl
@[push_cast] theorem c85 : prog.cellsOf 85 = 1 := by kernel_rfl
@[push_cast] theorem g85 : isAggB prog 85 = false := by kernel_rfl
@[push_cast] theorem s85 : (prog.underlying 85).isSome = true := by kernel_rfl
@[push_cast] theorem i85 : (prog.info? 85).isSome = true := by kernel_rfl
@[push_cast] theorem m85 : concreteB prog 85 = true := by kernel_rfl
@[push_cast] theorem a85 : elemOk prog 85 = true := by kernel_rfl
@[push_cast] theorem b85 : bytesOf prog 85 = 8 := by kernel_rfl
@[push_cast] theorem z85 : zeroD prog 85 = some ([.t (.v .nilFunc)]) := by kernel_rfl
@[push_cast] theorem c86 : prog.cellsOf 86 = 1 := by kernel_rfl
@[push_cast] theorem g86 : isAggB prog 86 = true := by kernel_rfl
@[push_cast] theorem s86 : (prog.underlying 86).isSome = true := by kernel_rfl
@[push_cast] theorem i86 : (prog.info? 86).isSome = true := by kernel_rfl
@[push_cast] theorem m86 : concreteB prog 86 = true := by kernel_rfl
@[push_cast] theorem a86 : elemOk prog 86 = true := by kernel_rfl
@[push_cast] theorem b86 : bytesOf prog 86 = 8 := by kernel_rfl
@[push_cast] theorem z86 : zeroD prog 86 = some ([.t (.v (.pointer none))]) := by kernel_rfl
@[push_cast] theorem f86_0 : fieldOf prog 86 0 = some (0, 1, 17) := by kernel_rfl
@[push_cast] theorem q86_0 : placeOf prog 86 0 = some (0, 1) := by kernel_rfl
@[push_cast] theorem p86 : placesOk prog 86 = true := by kernel_rfl
@[push_cast] theorem c87 : prog.cellsOf 87 = 1 := by kernel_rfl
@[push_cast] theorem g87 : isAggB prog 87 = true := by kernel_rfl
@[push_cast] theorem s87 : (prog.underlying 87).isSome = true := by kernel_rfl
@[push_cast] theorem i87 : (prog.info? 87).isSome = true := by kernel_rfl
@[push_cast] theorem m87 : concreteB prog 87 = true := by kernel_rfl
@[push_cast] theorem a87 : elemOk prog 87 = true := by kernel_rfl
@[push_cast] theorem b87 : bytesOf prog 87 = 8 := by kernel_rfl
@[push_cast] theorem z87 : zeroD prog 87 = some ([.t (.v (.pointer none))]) := by kernel_rfl
@[push_cast] theorem f87_0 : fieldOf prog 87 0 = some (0, 1, 17) := by kernel_rfl
@[push_cast] theorem q87_0 : placeOf prog 87 0 = some (0, 1) := by kernel_rfl
@[push_cast] theorem p87 : placesOk prog 87 = true := by kernel_rfl
@[push_cast] theorem c88 : prog.cellsOf 88 = 1 := by kernel_rfl
@[push_cast] theorem g88 : isAggB prog 88 = false := by kernel_rfl
@[push_cast] theorem s88 : (prog.underlying 88).isSome = true := by kernel_rfl
@[push_cast] theorem i88 : (prog.info? 88).isSome = true := by kernel_rfl
@[push_cast] theorem m88 : concreteB prog 88 = true := by kernel_rfl
@[push_cast] theorem a88 : elemOk prog 88 = true := by kernel_rfl
@[push_cast] theorem b88 : bytesOf prog 88 = 8 := by kernel_rfl
@[push_cast] theorem z88 : zeroD prog 88 = some ([.t (.v (.pointer none))]) := by kernel_rfl
@[push_cast] theorem c89 : prog.cellsOf 89 = 1 := by kernel_rfl
@[push_cast] theorem g89 : isAggB prog 89 = false := by kernel_rfl
@[push_cast] theorem s89 : (prog.underlying 89).isSome = true := by kernel_rfl
@[push_cast] theorem i89 : (prog.info? 89).isSome = true := by kernel_rfl
@[push_cast] theorem m89 : concreteB prog 89 = true := by kernel_rfl
@[push_cast] theorem a89 : elemOk prog 89 = true := by kernel_rfl
@[push_cast] theorem b89 : bytesOf prog 89 = 8 := by kernel_rfl
@[push_cast] theorem z89 : zeroD prog 89 = some ([.t (.v .nilFunc)]) := by kernel_rfl
@[push_cast] theorem c90 : prog.cellsOf 90 = 1 := by kernel_rfl
@[push_cast] theorem g90 : isAggB prog 90 = false := by kernel_rfl
@[push_cast] theorem s90 : (prog.underlying 90).isSome = true := by kernel_rfl
@[push_cast] theorem i90 : (prog.info? 90).isSome = true := by kernel_rfl
@[push_cast] theorem m90 : concreteB prog 90 = true := by kernel_rfl
@[push_cast] theorem a90 : elemOk prog 90 = true := by kernel_rfl
@[push_cast] theorem b90 : bytesOf prog 90 = 8 := by kernel_rfl
@[push_cast] theorem z90 : zeroD prog 90 = some ([.t (.v .nilFunc)]) := by kernel_rfl
@[push_cast] theorem c91 : prog.cellsOf 91 = 1 := by kernel_rfl
@[push_cast] theorem g91 : isAggB prog 91 = false := by kernel_rfl
@[push_cast] theorem s91 : (prog.underlying 91).isSome = true := by kernel_rfl
@[push_cast] theorem i91 : (prog.info? 91).isSome = true := by kernel_rfl
@[push_cast] theorem m91 : concreteB prog 91 = true := by kernel_rfl
@[push_cast] theorem a91 : elemOk prog 91 = true := by kernel_rfl
@[push_cast] theorem b91 : bytesOf prog 91 = 8 := by kernel_rfl
@[push_cast] theorem z91 : zeroD prog 91 = some ([.t (.v .nilFunc)]) := by kernel_rfl
@[push_cast] theorem c92 : prog.cellsOf 92 = 1 := by kernel_rfl
@[push_cast] theorem g92 : isAggB prog 92 = false := by kernel_rfl
@[push_cast] theorem s92 : (prog.underlying 92).isSome = true := by kernel_rfl
@[push_cast] theorem i92 : (prog.info? 92).isSome = true := by kernel_rfl
@[push_cast] theorem a92 : elemOk prog 92 = true := by kernel_rfl
@[push_cast] theorem b92 : bytesOf prog 92 = 16 := by kernel_rfl
@[push_cast] theorem z92 : zeroD prog 92 = some ([.t (.v .nilIface)]) := by kernel_rfl
@[push_cast] theorem u92 : prog.underlying 92 = some (.interface (prog.methodsAt 92)) := by kernel_rfl
@[push_cast] theorem c94 : prog.cellsOf 94 = 1 := by kernel_rfl
@[push_cast] theorem g94 : isAggB prog 94 = false := by kernel_rfl
@[push_cast] theorem s94 : (prog.underlying 94).isSome = true := by kernel_rfl
@[push_cast] theorem i94 : (prog.info? 94).isSome = true := by kernel_rfl
@[push_cast] theorem m94 : concreteB prog 94 = true := by kernel_rfl
@[push_cast] theorem a94 : elemOk prog 94 = true := by kernel_rfl
@[push_cast] theorem b94 : bytesOf prog 94 = 8 := by kernel_rfl
@[push_cast] theorem z94 : zeroD prog 94 = some ([.t (.v .nilFunc)]) := by kernel_rfl
@[push_cast] theorem c95 : prog.cellsOf 95 = 1 := by kernel_rfl
@[push_cast] theorem g95 : isAggB prog 95 = false := by kernel_rfl
@[push_cast] theorem s95 : (prog.underlying 95).isSome = true := by kernel_rfl
@[push_cast] theorem i95 : (prog.info? 95).isSome = true := by kernel_rfl
@[push_cast] theorem a95 : elemOk prog 95 = true := by kernel_rfl
@[push_cast] theorem b95 : bytesOf prog 95 = 16 := by kernel_rfl
@[push_cast] theorem z95 : zeroD prog 95 = some ([.t (.v .nilIface)]) := by kernel_rfl
@[push_cast] theorem u95 : prog.underlying 95 = some (.interface (prog.methodsAt 95)) := by kernel_rfl
@[push_cast] theorem c96 : prog.cellsOf 96 = 1 := by kernel_rfl
@[push_cast] theorem g96 : isAggB prog 96 = false := by kernel_rfl
@[push_cast] theorem s96 : (prog.underlying 96).isSome = true := by kernel_rfl
@[push_cast] theorem i96 : (prog.info? 96).isSome = true := by kernel_rfl
@[push_cast] theorem m96 : concreteB prog 96 = true := by kernel_rfl
@[push_cast] theorem a96 : elemOk prog 96 = true := by kernel_rfl
@[push_cast] theorem b96 : bytesOf prog 96 = 8 := by kernel_rfl
@[push_cast] theorem z96 : zeroD prog 96 = some ([.t (.v .nilFunc)]) := by kernel_rfl
@[push_cast] theorem c97 : prog.cellsOf 97 = 1 := by kernel_rfl
@[push_cast] theorem g97 : isAggB prog 97 = false := by kernel_rfl
@[push_cast] theorem s97 : (prog.underlying 97).isSome = true := by kernel_rfl
@[push_cast] theorem i97 : (prog.info? 97).isSome = true := by kernel_rfl
@[push_cast] theorem a97 : elemOk prog 97 = true := by kernel_rfl
@[push_cast] theorem b97 : bytesOf prog 97 = 16 := by kernel_rfl
@[push_cast] theorem z97 : zeroD prog 97 = some ([.t (.v .nilIface)]) := by kernel_rfl
@[push_cast] theorem u97 : prog.underlying 97 = some (.interface (prog.methodsAt 97)) := by kernel_rfl
@[push_cast] theorem c98 : prog.cellsOf 98 = 1 := by kernel_rfl
@[push_cast] theorem g98 : isAggB prog 98 = false := by kernel_rfl
@[push_cast] theorem s98 : (prog.underlying 98).isSome = true := by kernel_rfl
@[push_cast] theorem i98 : (prog.info? 98).isSome = true := by kernel_rfl
@[push_cast] theorem m98 : concreteB prog 98 = true := by kernel_rfl
@[push_cast] theorem a98 : elemOk prog 98 = true := by kernel_rfl
@[push_cast] theorem b98 : bytesOf prog 98 = 24 := by kernel_rfl
@[push_cast] theorem z98 : zeroD prog 98 = some ([.t (.v (.slice none 0 0))]) := by kernel_rfl
@[push_cast] theorem u98 : prog.underlying 98 = some (.slice 59) := by kernel_rfl
@[push_cast] theorem e98 : prog.elem 98 = 59 := by kernel_rfl
@[push_cast] theorem c99 : prog.cellsOf 99 = 1 := by kernel_rfl
@[push_cast] theorem g99 : isAggB prog 99 = false := by kernel_rfl
@[push_cast] theorem s99 : (prog.underlying 99).isSome = true := by kernel_rfl
@[push_cast] theorem i99 : (prog.info? 99).isSome = true := by kernel_rfl
@[push_cast] theorem m99 : concreteB prog 99 = true := by kernel_rfl
@[push_cast] theorem a99 : elemOk prog 99 = true := by kernel_rfl
@[push_cast] theorem b99 : bytesOf prog 99 = 8 := by kernel_rfl
@[push_cast] theorem z99 : zeroD prog 99 = some ([.t (.v .nilFunc)]) := by kernel_rfl
@[push_cast] theorem c100 : prog.cellsOf 100 = 1 := by kernel_rfl
@[push_cast] theorem g100 : isAggB prog 100 = false := by kernel_rfl
@[push_cast] theorem s100 : (prog.underlying 100).isSome = true := by kernel_rfl
@[push_cast] theorem i100 : (prog.info? 100).isSome = true := by kernel_rfl
@[push_cast] theorem m100 : concreteB prog 100 = true := by kernel_rfl
@[push_cast] theorem a100 : elemOk prog 100 = true := by kernel_rfl
@[push_cast] theorem b100 : bytesOf prog 100 = 8 := by kernel_rfl
@[push_cast] theorem z100 : zeroD prog 100 = some ([.t (.v .nilFunc)]) := by kernel_rfl
@[push_cast] theorem c101 : prog.cellsOf 101 = 4 := by kernel_rfl
@[push_cast] theorem g101 : isAggB prog 101 = true := by kernel_rfl
@[push_cast] theorem s101 : (prog.underlying 101).isSome = true := by kernel_rfl
@[push_cast] theorem i101 : (prog.info? 101).isSome = true := by kernel_rfl
@[push_cast] theorem m101 : concreteB prog 101 = true := by kernel_rfl
@[push_cast] theorem a101 : elemOk prog 101 = true := by kernel_rfl
@[push_cast] theorem b101 : bytesOf prog 101 = 40 := by kernel_rfl
@[push_cast] theorem z101 : zeroD prog 101 = some ([.t (.v (.pointer none)), .t (.v (.pointer none)), .t (.v (.pointer none)), .t (.v (.string ⟨#[]⟩))]) := by kernel_rfl
@[push_cast] theorem f101_0 : fieldOf prog 101 0 = some (0, 1, 17) := by kernel_rfl
@[push_cast] theorem q101_0 : placeOf prog 101 0 = some (0, 1) := by kernel_rfl
@[push_cast] theorem f101_1 : fieldOf prog 101 1 = some (1, 1, 17) := by kernel_rfl
@[push_cast] theorem q101_1 : placeOf prog 101 1 = some (1, 1) := by kernel_rfl
@[push_cast] theorem f101_2 : fieldOf prog 101 2 = some (2, 1, 17) := by kernel_rfl
@[push_cast] theorem q101_2 : placeOf prog 101 2 = some (2, 1) := by kernel_rfl
@[push_cast] theorem f101_3 : fieldOf prog 101 3 = some (3, 1, 9) := by kernel_rfl
@[push_cast] theorem q101_3 : placeOf prog 101 3 = some (3, 1) := by kernel_rfl
@[push_cast] theorem p101 : placesOk prog 101 = true := by kernel_rfl
@[push_cast] theorem c102 : prog.cellsOf 102 = 4 := by kernel_rfl
@[push_cast] theorem g102 : isAggB prog 102 = true := by kernel_rfl
@[push_cast] theorem s102 : (prog.underlying 102).isSome = true := by kernel_rfl
@[push_cast] theorem i102 : (prog.info? 102).isSome = true := by kernel_rfl
@[push_cast] theorem m102 : concreteB prog 102 = true := by kernel_rfl
@[push_cast] theorem a102 : elemOk prog 102 = true := by kernel_rfl
@[push_cast] theorem b102 : bytesOf prog 102 = 40 := by kernel_rfl
@[push_cast] theorem z102 : zeroD prog 102 = some ([.t (.v (.pointer none)), .t (.v (.pointer none)), .t (.v (.pointer none)), .t (.v (.string ⟨#[]⟩))]) := by kernel_rfl
@[push_cast] theorem f102_0 : fieldOf prog 102 0 = some (0, 1, 17) := by kernel_rfl
@[push_cast] theorem q102_0 : placeOf prog 102 0 = some (0, 1) := by kernel_rfl
@[push_cast] theorem f102_1 : fieldOf prog 102 1 = some (1, 1, 17) := by kernel_rfl
@[push_cast] theorem q102_1 : placeOf prog 102 1 = some (1, 1) := by kernel_rfl
@[push_cast] theorem f102_2 : fieldOf prog 102 2 = some (2, 1, 17) := by kernel_rfl
@[push_cast] theorem q102_2 : placeOf prog 102 2 = some (2, 1) := by kernel_rfl
@[push_cast] theorem f102_3 : fieldOf prog 102 3 = some (3, 1, 9) := by kernel_rfl
@[push_cast] theorem q102_3 : placeOf prog 102 3 = some (3, 1) := by kernel_rfl
@[push_cast] theorem p102 : placesOk prog 102 = true := by kernel_rfl
@[push_cast] theorem c103 : prog.cellsOf 103 = 0 := by kernel_rfl
@[push_cast] theorem g103 : isAggB prog 103 = true := by kernel_rfl
@[push_cast] theorem s103 : (prog.underlying 103).isSome = true := by kernel_rfl
@[push_cast] theorem i103 : (prog.info? 103).isSome = true := by kernel_rfl
@[push_cast] theorem m103 : concreteB prog 103 = true := by kernel_rfl
@[push_cast] theorem a103 : elemOk prog 103 = true := by kernel_rfl
@[push_cast] theorem b103 : bytesOf prog 103 = 0 := by kernel_rfl
@[push_cast] theorem z103 : zeroD prog 103 = some ([]) := by kernel_rfl
@[push_cast] theorem u103 : prog.underlying 103 = some (.array 0 16) := by kernel_rfl
@[push_cast] theorem e103 : prog.elem 103 = 16 := by kernel_rfl
@[push_cast] theorem l103 : prog.arrayLen 103 = 0 := by kernel_rfl
@[push_cast] theorem p103 : placesOk prog 103 = true := by kernel_rfl
@[push_cast] theorem q103 (i : Nat) : placeOf prog 103 i = some (i * 1, 1) := by rw [placeOf_arr u103, c16]
@[push_cast] theorem c104 : prog.cellsOf 104 = 0 := by kernel_rfl
@[push_cast] theorem g104 : isAggB prog 104 = true := by kernel_rfl
@[push_cast] theorem s104 : (prog.underlying 104).isSome = true := by kernel_rfl
@[push_cast] theorem i104 : (prog.info? 104).isSome = true := by kernel_rfl
@[push_cast] theorem m104 : concreteB prog 104 = true := by kernel_rfl
@[push_cast] theorem a104 : elemOk prog 104 = true := by kernel_rfl
@[push_cast] theorem b104 : bytesOf prog 104 = 0 := by kernel_rfl
@[push_cast] theorem z104 : zeroD prog 104 = some ([]) := by kernel_rfl
@[push_cast] theorem f104_0 : fieldOf prog 104 0 = some (0, 0, 103) := by kernel_rfl
@[push_cast] theorem q104_0 : placeOf prog 104 0 = some (0, 0) := by kernel_rfl
@[push_cast] theorem p104 : placesOk prog 104 = true := by kernel_rfl
@[push_cast] theorem c105 : prog.cellsOf 105 = 0 := by kernel_rfl
@[push_cast] theorem g105 : isAggB prog 105 = true := by kernel_rfl
@[push_cast] theorem s105 : (prog.underlying 105).isSome = true := by kernel_rfl
@[push_cast] theorem i105 : (prog.info? 105).isSome = true := by kernel_rfl
@[push_cast] theorem m105 : concreteB prog 105 = true := by kernel_rfl
@[push_cast] theorem a105 : elemOk prog 105 = true := by kernel_rfl
@[push_cast] theorem b105 : bytesOf prog 105 = 0 := by kernel_rfl
@[push_cast] theorem z105 : zeroD prog 105 = some ([]) := by kernel_rfl
@[push_cast] theorem f105_0 : fieldOf prog 105 0 = some (0, 0, 103) := by kernel_rfl
@[push_cast] theorem q105_0 : placeOf prog 105 0 = some (0, 0) := by kernel_rfl
@[push_cast] theorem p105 : placesOk prog 105 = true := by kernel_rfl
@[push_cast] theorem c106 : prog.cellsOf 106 = 1 := by kernel_rfl
@[push_cast] theorem g106 : isAggB prog 106 = false := by kernel_rfl
@[push_cast] theorem s106 : (prog.underlying 106).isSome = true := by kernel_rfl
@[push_cast] theorem i106 : (prog.info? 106).isSome = true := by kernel_rfl
@[push_cast] theorem m106 : concreteB prog 106 = true := by kernel_rfl
@[push_cast] theorem a106 : elemOk prog 106 = true := by kernel_rfl
@[push_cast] theorem b106 : bytesOf prog 106 = 8 := by kernel_rfl
@[push_cast] theorem z106 : zeroD prog 106 = some ([.t (.v .nilFunc)]) := by kernel_rfl
@[push_cast] theorem c107 : prog.cellsOf 107 = 1 := by kernel_rfl
@[push_cast] theorem g107 : isAggB prog 107 = false := by kernel_rfl
@[push_cast] theorem s107 : (prog.underlying 107).isSome = true := by kernel_rfl
@[push_cast] theorem i107 : (prog.info? 107).isSome = true := by kernel_rfl
@[push_cast] theorem m107 : concreteB prog 107 = true := by kernel_rfl
@[push_cast] theorem a107 : elemOk prog 107 = true := by kernel_rfl
@[push_cast] theorem b107 : bytesOf prog 107 = 4 := by kernel_rfl
@[push_cast] theorem z107 : zeroD prog 107 = some ([.t (.v (.int .u32 0))]) := by kernel_rfl
@[push_cast] theorem u107 : prog.underlying 107 = some (.int .u32) := by kernel_rfl
@[push_cast] theorem c108 : prog.cellsOf 108 = 1 := by kernel_rfl
@[push_cast] theorem g108 : isAggB prog 108 = false := by kernel_rfl
@[push_cast] theorem s108 : (prog.underlying 108).isSome = true := by kernel_rfl
@[push_cast] theorem i108 : (prog.info? 108).isSome = true := by kernel_rfl
@[push_cast] theorem m108 : concreteB prog 108 = true := by kernel_rfl
@[push_cast] theorem a108 : elemOk prog 108 = true := by kernel_rfl
@[push_cast] theorem b108 : bytesOf prog 108 = 1 := by kernel_rfl
@[push_cast] theorem z108 : zeroD prog 108 = some ([.t (.v (.int .u8 0))]) := by kernel_rfl
@[push_cast] theorem u108 : prog.underlying 108 = some (.int .u8) := by kernel_rfl
@[push_cast] theorem c109 : prog.cellsOf 109 = 1 := by kernel_rfl
@[push_cast] theorem g109 : isAggB prog 109 = false := by kernel_rfl
@[push_cast] theorem s109 : (prog.underlying 109).isSome = true := by kernel_rfl
@[push_cast] theorem i109 : (prog.info? 109).isSome = true := by kernel_rfl
@[push_cast] theorem m109 : concreteB prog 109 = true := by kernel_rfl
@[push_cast] theorem a109 : elemOk prog 109 = true := by kernel_rfl
@[push_cast] theorem b109 : bytesOf prog 109 = 8 := by kernel_rfl
@[push_cast] theorem z109 : zeroD prog 109 = some ([.t (.v .nilFunc)]) := by kernel_rfl
@[push_cast] theorem c110 : prog.cellsOf 110 = 1 := by kernel_rfl
@[push_cast] theorem g110 : isAggB prog 110 = false := by kernel_rfl
@[push_cast] theorem s110 : (prog.underlying 110).isSome = true := by kernel_rfl
@[push_cast] theorem i110 : (prog.info? 110).isSome = true := by kernel_rfl
@[push_cast] theorem m110 : concreteB prog 110 = true := by kernel_rfl
@[push_cast] theorem a110 : elemOk prog 110 = true := by kernel_rfl
@[push_cast] theorem b110 : bytesOf prog 110 = 8 := by kernel_rfl
@[push_cast] theorem z110 : zeroD prog 110 = some ([.t (.v (.pointer none))]) := by kernel_rfl
@[push_cast] theorem c111 : prog.cellsOf 111 = 1 := by kernel_rfl
@[push_cast] theorem g111 : isAggB prog 111 = false := by kernel_rfl
@[push_cast] theorem s111 : (prog.underlying 111).isSome = true := by kernel_rfl
@[push_cast] theorem i111 : (prog.info? 111).isSome = true := by kernel_rfl
@[push_cast] theorem m111 : concreteB prog 111 = true := by kernel_rfl
@[push_cast] theorem a111 : elemOk prog 111 = true := by kernel_rfl
@[push_cast] theorem b111 : bytesOf prog 111 = 4 := by kernel_rfl
@[push_cast] theorem z111 : zeroD prog 111 = some ([.t (.v (.int .i32 0))]) := by kernel_rfl
@[push_cast] theorem u111 : prog.underlying 111 = some (.int .i32) := by kernel_rfl
@[push_cast] theorem c112 : prog.cellsOf 112 = 1 := by kernel_rfl
@[push_cast] theorem g112 : isAggB prog 112 = false := by kernel_rfl
@[push_cast] theorem s112 : (prog.underlying 112).isSome = true := by kernel_rfl
@[push_cast] theorem i112 : (prog.info? 112).isSome = true := by kernel_rfl
@[push_cast] theorem m112 : concreteB prog 112 = true := by kernel_rfl
@[push_cast] theorem a112 : elemOk prog 112 = true := by kernel_rfl
@[push_cast] theorem b112 : bytesOf prog 112 = 4 := by kernel_rfl
@[push_cast] theorem z112 : zeroD prog 112 = some ([.t (.v (.int .i32 0))]) := by kernel_rfl
@[push_cast] theorem u112 : prog.underlying 112 = some (.int .i32) := by kernel_rfl
@[push_cast] theorem c113 : prog.cellsOf 113 = 11 := by kernel_rfl
@[push_cast] theorem g113 : isAggB prog 113 = true := by kernel_rfl
@[push_cast] theorem s113 : (prog.underlying 113).isSome = true := by kernel_rfl
@[push_cast] theorem i113 : (prog.info? 113).isSome = true := by kernel_rfl
@[push_cast] theorem m113 : concreteB prog 113 = true := by kernel_rfl
@[push_cast] theorem a113 : elemOk prog 113 = true := by kernel_rfl
@[push_cast] theorem b113 : bytesOf prog 113 = 48 := by kernel_rfl
@[push_cast] theorem z113 : zeroD prog 113 = some ([.t (.v (.int .u64 0)), .t (.v (.int .u64 0)), .t (.v (.int .u32 0)), .t (.v (.int .u8 0)), .t (.v (.int .u8 0)), .t (.v (.int .u8 0)), .t (.v (.int .u8 0)), .t (.v .nilFunc), .t (.v (.pointer none)), .t (.v (.int .i32 0)), .t (.v (.int .i32 0))]) := by kernel_rfl
@[push_cast] theorem f113_0 : fieldOf prog 113 0 = some (0, 1, 12) := by kernel_rfl
@[push_cast] theorem q113_0 : placeOf prog 113 0 = some (0, 1) := by kernel_rfl
@[push_cast] theorem f113_1 : fieldOf prog 113 1 = some (1, 1, 12) := by kernel_rfl
@[push_cast] theorem q113_1 : placeOf prog 113 1 = some (1, 1) := by kernel_rfl
@[push_cast] theorem f113_2 : fieldOf prog 113 2 = some (2, 1, 107) := by kernel_rfl
@[push_cast] theorem q113_2 : placeOf prog 113 2 = some (2, 1) := by kernel_rfl
@[push_cast] theorem f113_3 : fieldOf prog 113 3 = some (3, 1, 108) := by kernel_rfl
@[push_cast] theorem q113_3 : placeOf prog 113 3 = some (3, 1) := by kernel_rfl
@[push_cast] theorem f113_4 : fieldOf prog 113 4 = some (4, 1, 5) := by kernel_rfl
@[push_cast] theorem q113_4 : placeOf prog 113 4 = some (4, 1) := by kernel_rfl
@[push_cast] theorem f113_5 : fieldOf prog 113 5 = some (5, 1, 5) := by kernel_rfl
@[push_cast] theorem q113_5 : placeOf prog 113 5 = some (5, 1) := by kernel_rfl
@[push_cast] theorem f113_6 : fieldOf prog 113 6 = some (6, 1, 82) := by kernel_rfl
@[push_cast] theorem q113_6 : placeOf prog 113 6 = some (6, 1) := by kernel_rfl
@[push_cast] theorem f113_7 : fieldOf prog 113 7 = some (7, 1, 109) := by kernel_rfl
@[push_cast] theorem q113_7 : placeOf prog 113 7 = some (7, 1) := by kernel_rfl
@[push_cast] theorem f113_8 : fieldOf prog 113 8 = some (8, 1, 110) := by kernel_rfl
@[push_cast] theorem q113_8 : placeOf prog 113 8 = some (8, 1) := by kernel_rfl
@[push_cast] theorem f113_9 : fieldOf prog 113 9 = some (9, 1, 111) := by kernel_rfl
@[push_cast] theorem q113_9 : placeOf prog 113 9 = some (9, 1) := by kernel_rfl
@[push_cast] theorem f113_10 : fieldOf prog 113 10 = some (10, 1, 112) := by kernel_rfl
@[push_cast] theorem q113_10 : placeOf prog 113 10 = some (10, 1) := by kernel_rfl
@[push_cast] theorem p113 : placesOk prog 113 = true := by kernel_rfl
@[push_cast] theorem c114 : prog.cellsOf 114 = 11 := by kernel_rfl
@[push_cast] theorem g114 : isAggB prog 114 = true := by kernel_rfl
@[push_cast] theorem s114 : (prog.underlying 114).isSome = true := by kernel_rfl
@[push_cast] theorem i114 : (prog.info? 114).isSome = true := by kernel_rfl
@[push_cast] theorem m114 : concreteB prog 114 = true := by kernel_rfl
@[push_cast] theorem a114 : elemOk prog 114 = true := by kernel_rfl
@[push_cast] theorem b114 : bytesOf prog 114 = 48 := by kernel_rfl
@[push_cast] theorem z114 : zeroD prog 114 = some ([.t (.v (.int .u64 0)), .t (.v (.int .u64 0)), .t (.v (.int .u32 0)), .t (.v (.int .u8 0)), .t (.v (.int .u8 0)), .t (.v (.int .u8 0)), .t (.v (.int .u8 0)), .t (.v .nilFunc), .t (.v (.pointer none)), .t (.v (.int .i32 0)), .t (.v (.int .i32 0))]) := by kernel_rfl
@[push_cast] theorem f114_0 : fieldOf prog 114 0 = some (0, 1, 12) := by kernel_rfl
@[push_cast] theorem q114_0 : placeOf prog 114 0 = some (0, 1) := by kernel_rfl
@[push_cast] theorem f114_1 : fieldOf prog 114 1 = some (1, 1, 12) := by kernel_rfl
@[push_cast] theorem q114_1 : placeOf prog 114 1 = some (1, 1) := by kernel_rfl
@[push_cast] theorem f114_2 : fieldOf prog 114 2 = some (2, 1, 107) := by kernel_rfl
@[push_cast] theorem q114_2 : placeOf prog 114 2 = some (2, 1) := by kernel_rfl
@[push_cast] theorem f114_3 : fieldOf prog 114 3 = some (3, 1, 108) := by kernel_rfl
@[push_cast] theorem q114_3 : placeOf prog 114 3 = some (3, 1) := by kernel_rfl
@[push_cast] theorem f114_4 : fieldOf prog 114 4 = some (4, 1, 5) := by kernel_rfl
@[push_cast] theorem q114_4 : placeOf prog 114 4 = some (4, 1) := by kernel_rfl
@[push_cast] theorem f114_5 : fieldOf prog 114 5 = some (5, 1, 5) := by kernel_rfl
@[push_cast] theorem q114_5 : placeOf prog 114 5 = some (5, 1) := by kernel_rfl
@[push_cast] theorem f114_6 : fieldOf prog 114 6 = some (6, 1, 82) := by kernel_rfl
@[push_cast] theorem q114_6 : placeOf prog 114 6 = some (6, 1) := by kernel_rfl
@[push_cast] theorem f114_7 : fieldOf prog 114 7 = some (7, 1, 109) := by kernel_rfl
@[push_cast] theorem q114_7 : placeOf prog 114 7 = some (7, 1) := by kernel_rfl
@[push_cast] theorem f114_8 : fieldOf prog 114 8 = some (8, 1, 110) := by kernel_rfl
@[push_cast] theorem q114_8 : placeOf prog 114 8 = some (8, 1) := by kernel_rfl
@[push_cast] theorem f114_9 : fieldOf prog 114 9 = some (9, 1, 111) := by kernel_rfl
@[push_cast] theorem q114_9 : placeOf prog 114 9 = some (9, 1) := by kernel_rfl
@[push_cast] theorem f114_10 : fieldOf prog 114 10 = some (10, 1, 112) := by kernel_rfl
@[push_cast] theorem q114_10 : placeOf prog 114 10 = some (10, 1) := by kernel_rfl
@[push_cast] theorem p114 : placesOk prog 114 = true := by kernel_rfl
@[push_cast] theorem c115 : prog.cellsOf 115 = 1 := by kernel_rfl
@[push_cast] theorem g115 : isAggB prog 115 = false := by kernel_rfl
@[push_cast] theorem s115 : (prog.underlying 115).isSome = true := by kernel_rfl
@[push_cast] theorem i115 : (prog.info? 115).isSome = true := by kernel_rfl
@[push_cast] theorem m115 : concreteB prog 115 = true := by kernel_rfl
@[push_cast] theorem a115 : elemOk prog 115 = true := by kernel_rfl
@[push_cast] theorem b115 : bytesOf prog 115 = 8 := by kernel_rfl
@[push_cast] theorem z115 : zeroD prog 115 = some ([.t (.v .nilFunc)]) := by kernel_rfl
@[push_cast] theorem c116 : prog.cellsOf 116 = 1 := by kernel_rfl
@[push_cast] theorem g116 : isAggB prog 116 = false := by kernel_rfl
@[push_cast] theorem s116 : (prog.underlying 116).isSome = true := by kernel_rfl
@[push_cast] theorem i116 : (prog.info? 116).isSome = true := by kernel_rfl
@[push_cast] theorem m116 : concreteB prog 116 = true := by kernel_rfl
@[push_cast] theorem a116 : elemOk prog 116 = true := by kernel_rfl
@[push_cast] theorem b116 : bytesOf prog 116 = 8 := by kernel_rfl
@[push_cast] theorem z116 : zeroD prog 116 = some ([.t (.v .nilFunc)]) := by kernel_rfl
@[push_cast] theorem c117 : prog.cellsOf 117 = 2 := by kernel_rfl
@[push_cast] theorem g117 : isAggB prog 117 = true := by kernel_rfl
@[push_cast] theorem s117 : (prog.underlying 117).isSome = true := by kernel_rfl
@[push_cast] theorem i117 : (prog.info? 117).isSome = true := by kernel_rfl
@[push_cast] theorem m117 : concreteB prog 117 = true := by kernel_rfl
@[push_cast] theorem a117 : elemOk prog 117 = true := by kernel_rfl
@[push_cast] theorem b117 : bytesOf prog 117 = 24 := by kernel_rfl
@[push_cast] theorem z117 : zeroD prog 117 = some ([.t (.v (.string ⟨#[]⟩)), .t (.v (.int .u8 0))]) := by kernel_rfl
@[push_cast] theorem f117_0 : fieldOf prog 117 0 = some (0, 1, 9) := by kernel_rfl
@[push_cast] theorem q117_0 : placeOf prog 117 0 = some (0, 1) := by kernel_rfl
@[push_cast] theorem f117_1 : fieldOf prog 117 1 = some (1, 1, 82) := by kernel_rfl
@[push_cast] theorem q117_1 : placeOf prog 117 1 = some (1, 1) := by kernel_rfl
@[push_cast] theorem p117 : placesOk prog 117 = true := by kernel_rfl
@[push_cast] theorem c118 : prog.cellsOf 118 = 2 := by kernel_rfl
@[push_cast] theorem g118 : isAggB prog 118 = true := by kernel_rfl
@[push_cast] theorem s118 : (prog.underlying 118).isSome = true := by kernel_rfl
@[push_cast] theorem i118 : (prog.info? 118).isSome = true := by kernel_rfl
@[push_cast] theorem m118 : concreteB prog 118 = true := by kernel_rfl
@[push_cast] theorem a118 : elemOk prog 118 = true := by kernel_rfl
@[push_cast] theorem b118 : bytesOf prog 118 = 24 := by kernel_rfl
@[push_cast] theorem z118 : zeroD prog 118 = some ([.t (.v (.string ⟨#[]⟩)), .t (.v (.int .u8 0))]) := by kernel_rfl
@[push_cast] theorem f118_0 : fieldOf prog 118 0 = some (0, 1, 9) := by kernel_rfl
@[push_cast] theorem q118_0 : placeOf prog 118 0 = some (0, 1) := by kernel_rfl
@[push_cast] theorem f118_1 : fieldOf prog 118 1 = some (1, 1, 82) := by kernel_rfl
@[push_cast] theorem q118_1 : placeOf prog 118 1 = some (1, 1) := by kernel_rfl
@[push_cast] theorem p118 : placesOk prog 118 = true := by kernel_rfl
@[push_cast] theorem c119 : prog.cellsOf 119 = 1 := by kernel_rfl
@[push_cast] theorem g119 : isAggB prog 119 = false := by kernel_rfl
@[push_cast] theorem s119 : (prog.underlying 119).isSome = true := by kernel_rfl
@[push_cast] theorem i119 : (prog.info? 119).isSome = true := by kernel_rfl
@[push_cast] theorem m119 : concreteB prog 119 = true := by kernel_rfl
@[push_cast] theorem a119 : elemOk prog 119 = true := by kernel_rfl
@[push_cast] theorem b119 : bytesOf prog 119 = 8 := by kernel_rfl
@[push_cast] theorem z119 : zeroD prog 119 = some ([.t (.v (.pointer none))]) := by kernel_rfl
@[push_cast] theorem c120 : prog.cellsOf 120 = 1 := by kernel_rfl
@[push_cast] theorem g120 : isAggB prog 120 = false := by kernel_rfl
@[push_cast] theorem s120 : (prog.underlying 120).isSome = true := by kernel_rfl
@[push_cast] theorem i120 : (prog.info? 120).isSome = true := by kernel_rfl
@[push_cast] theorem m120 : concreteB prog 120 = true := by kernel_rfl
@[push_cast] theorem a120 : elemOk prog 120 = true := by kernel_rfl
@[push_cast] theorem b120 : bytesOf prog 120 = 8 := by kernel_rfl
@[push_cast] theorem z120 : zeroD prog 120 = some ([.t (.v .nilFunc)]) := by kernel_rfl
@[push_cast] theorem c121 : prog.cellsOf 121 = 1 := by kernel_rfl
@[push_cast] theorem g121 : isAggB prog 121 = false := by kernel_rfl
@[push_cast] theorem s121 : (prog.underlying 121).isSome = true := by kernel_rfl
@[push_cast] theorem i121 : (prog.info? 121).isSome = true := by kernel_rfl
@[push_cast] theorem m121 : concreteB prog 121 = true := by kernel_rfl
@[push_cast] theorem a121 : elemOk prog 121 = true := by kernel_rfl
@[push_cast] theorem b121 : bytesOf prog 121 = 2 := by kernel_rfl
@[push_cast] theorem z121 : zeroD prog 121 = some ([.t (.v (.int .u16 0))]) := by kernel_rfl
@[push_cast] theorem u121 : prog.underlying 121 = some (.int .u16) := by kernel_rfl
@[push_cast] theorem c122 : prog.cellsOf 122 = 5 := by kernel_rfl
@[push_cast] theorem g122 : isAggB prog 122 = true := by kernel_rfl
@[push_cast] theorem s122 : (prog.underlying 122).isSome = true := by kernel_rfl
@[push_cast] theorem i122 : (prog.info? 122).isSome = true := by kernel_rfl
@[push_cast] theorem m122 : concreteB prog 122 = true := by kernel_rfl
@[push_cast] theorem a122 : elemOk prog 122 = true := by kernel_rfl
@[push_cast] theorem b122 : bytesOf prog 122 = 16 := by kernel_rfl
@[push_cast] theorem z122 : zeroD prog 122 = some ([.t (.v (.int .i32 0)), .t (.v (.int .u16 0)), .t (.v (.int .u16 0)), .t (.v (.int .u32 0)), .t (.v (.int .u32 0))]) := by kernel_rfl
@[push_cast] theorem f122_0 : fieldOf prog 122 0 = some (0, 1, 111) := by kernel_rfl
@[push_cast] theorem q122_0 : placeOf prog 122 0 = some (0, 1) := by kernel_rfl
@[push_cast] theorem f122_1 : fieldOf prog 122 1 = some (1, 1, 121) := by kernel_rfl
@[push_cast] theorem q122_1 : placeOf prog 122 1 = some (1, 1) := by kernel_rfl
@[push_cast] theorem f122_2 : fieldOf prog 122 2 = some (2, 1, 121) := by kernel_rfl
@[push_cast] theorem q122_2 : placeOf prog 122 2 = some (2, 1) := by kernel_rfl
@[push_cast] theorem f122_3 : fieldOf prog 122 3 = some (3, 1, 107) := by kernel_rfl
@[push_cast] theorem q122_3 : placeOf prog 122 3 = some (3, 1) := by kernel_rfl
@[push_cast] theorem f122_4 : fieldOf prog 122 4 = some (4, 1, 107) := by kernel_rfl
@[push_cast] theorem q122_4 : placeOf prog 122 4 = some (4, 1) := by kernel_rfl
@[push_cast] theorem p122 : placesOk prog 122 = true := by kernel_rfl
@[push_cast] theorem c123 : prog.cellsOf 123 = 5 := by kernel_rfl
@[push_cast] theorem g123 : isAggB prog 123 = true := by kernel_rfl
@[push_cast] theorem s123 : (prog.underlying 123).isSome = true := by kernel_rfl
@[push_cast] theorem i123 : (prog.info? 123).isSome = true := by kernel_rfl
@[push_cast] theorem m123 : concreteB prog 123 = true := by kernel_rfl
@[push_cast] theorem a123 : elemOk prog 123 = true := by kernel_rfl
@[push_cast] theorem b123 : bytesOf prog 123 = 16 := by kernel_rfl
@[push_cast] theorem z123 : zeroD prog 123 = some ([.t (.v (.int .i32 0)), .t (.v (.int .u16 0)), .t (.v (.int .u16 0)), .t (.v (.int .u32 0)), .t (.v (.int .u32 0))]) := by kernel_rfl
@[push_cast] theorem f123_0 : fieldOf prog 123 0 = some (0, 1, 111) := by kernel_rfl
@[push_cast] theorem q123_0 : placeOf prog 123 0 = some (0, 1) := by kernel_rfl
@[push_cast] theorem f123_1 : fieldOf prog 123 1 = some (1, 1, 121) := by kernel_rfl
@[push_cast] theorem q123_1 : placeOf prog 123 1 = some (1, 1) := by kernel_rfl
@[push_cast] theorem f123_2 : fieldOf prog 123 2 = some (2, 1, 121) := by kernel_rfl
@[push_cast] theorem q123_2 : placeOf prog 123 2 = some (2, 1) := by kernel_rfl
@[push_cast] theorem f123_3 : fieldOf prog 123 3 = some (3, 1, 107) := by kernel_rfl
@[push_cast] theorem q123_3 : placeOf prog 123 3 = some (3, 1) := by kernel_rfl
@[push_cast] theorem f123_4 : fieldOf prog 123 4 = some (4, 1, 107) := by kernel_rfl
@[push_cast] theorem q123_4 : placeOf prog 123 4 = some (4, 1) := by kernel_rfl
@[push_cast] theorem p123 : placesOk prog 123 = true := by kernel_rfl
@[push_cast] theorem c124 : prog.cellsOf 124 = 1 := by kernel_rfl
@[push_cast] theorem g124 : isAggB prog 124 = false := by kernel_rfl
@[push_cast] theorem s124 : (prog.underlying 124).isSome = true := by kernel_rfl
@[push_cast] theorem i124 : (prog.info? 124).isSome = true := by kernel_rfl
@[push_cast] theorem m124 : concreteB prog 124 = true := by kernel_rfl
@[push_cast] theorem a124 : elemOk prog 124 = true := by kernel_rfl
@[push_cast] theorem b124 : bytesOf prog 124 = 24 := by kernel_rfl
@[push_cast] theorem z124 : zeroD prog 124 = some ([.t (.v (.slice none 0 0))]) := by kernel_rfl
@[push_cast] theorem u124 : prog.underlying 124 = some (.slice 127) := by kernel_rfl
@[push_cast] theorem e124 : prog.elem 124 = 127 := by kernel_rfl
@[push_cast] theorem c125 : prog.cellsOf 125 = 1 := by kernel_rfl
@[push_cast] theorem g125 : isAggB prog 125 = false := by kernel_rfl
@[push_cast] theorem s125 : (prog.underlying 125).isSome = true := by kernel_rfl
@[push_cast] theorem i125 : (prog.info? 125).isSome = true := by kernel_rfl
@[push_cast] theorem m125 : concreteB prog 125 = true := by kernel_rfl
@[push_cast] theorem a125 : elemOk prog 125 = true := by kernel_rfl
@[push_cast] theorem b125 : bytesOf prog 125 = 4 := by kernel_rfl
@[push_cast] theorem z125 : zeroD prog 125 = some ([.t (.v (.int .i32 0))]) := by kernel_rfl
@[push_cast] theorem u125 : prog.underlying 125 = some (.int .i32) := by kernel_rfl
@[push_cast] theorem c126 : prog.cellsOf 126 = 4 := by kernel_rfl
@[push_cast] theorem g126 : isAggB prog 126 = true := by kernel_rfl
@[push_cast] theorem s126 : (prog.underlying 126).isSome = true := by kernel_rfl
@[push_cast] theorem i126 : (prog.info? 126).isSome = true := by kernel_rfl
@[push_cast] theorem m126 : concreteB prog 126 = true := by kernel_rfl
@[push_cast] theorem a126 : elemOk prog 126 = true := by kernel_rfl
@[push_cast] theorem b126 : bytesOf prog 126 = 16 := by kernel_rfl
@[push_cast] theorem z126 : zeroD prog 126 = some ([.t (.v (.int .i32 0)), .t (.v (.int .i32 0)), .t (.v (.int .i32 0)), .t (.v (.int .i32 0))]) := by kernel_rfl
@[push_cast] theorem f126_0 : fieldOf prog 126 0 = some (0, 1, 111) := by kernel_rfl
@[push_cast] theorem q126_0 : placeOf prog 126 0 = some (0, 1) := by kernel_rfl
@[push_cast] theorem f126_1 : fieldOf prog 126 1 = some (1, 1, 112) := by kernel_rfl
@[push_cast] theorem q126_1 : placeOf prog 126 1 = some (1, 1) := by kernel_rfl
@[push_cast] theorem f126_2 : fieldOf prog 126 2 = some (2, 1, 125) := by kernel_rfl
@[push_cast] theorem q126_2 : placeOf prog 126 2 = some (2, 1) := by kernel_rfl
@[push_cast] theorem f126_3 : fieldOf prog 126 3 = some (3, 1, 125) := by kernel_rfl
@[push_cast] theorem q126_3 : placeOf prog 126 3 = some (3, 1) := by kernel_rfl
@[push_cast] theorem p126 : placesOk prog 126 = true := by kernel_rfl
@[push_cast] theorem c127 : prog.cellsOf 127 = 4 := by kernel_rfl
@[push_cast] theorem g127 : isAggB prog 127 = true := by kernel_rfl
@[push_cast] theorem s127 : (prog.underlying 127).isSome = true := by kernel_rfl
@[push_cast] theorem i127 : (prog.info? 127).isSome = true := by kernel_rfl
@[push_cast] theorem m127 : concreteB prog 127 = true := by kernel_rfl
@[push_cast] theorem a127 : elemOk prog 127 = true := by kernel_rfl
@[push_cast] theorem b127 : bytesOf prog 127 = 16 := by kernel_rfl
@[push_cast] theorem z127 : zeroD prog 127 = some ([.t (.v (.int .i32 0)), .t (.v (.int .i32 0)), .t (.v (.int .i32 0)), .t (.v (.int .i32 0))]) := by kernel_rfl
@[push_cast] theorem f127_0 : fieldOf prog 127 0 = some (0, 1, 111) := by kernel_rfl
@[push_cast] theorem q127_0 : placeOf prog 127 0 = some (0, 1) := by kernel_rfl
@[push_cast] theorem f127_1 : fieldOf prog 127 1 = some (1, 1, 112) := by kernel_rfl
@[push_cast] theorem q127_1 : placeOf prog 127 1 = some (1, 1) := by kernel_rfl
@[push_cast] theorem f127_2 : fieldOf prog 127 2 = some (2, 1, 125) := by kernel_rfl
@[push_cast] theorem q127_2 : placeOf prog 127 2 = some (2, 1) := by kernel_rfl
@[push_cast] theorem f127_3 : fieldOf prog 127 3 = some (3, 1, 125) := by kernel_rfl
@[push_cast] theorem q127_3 : placeOf prog 127 3 = some (3, 1) := by kernel_rfl
@[push_cast] theorem p127 : placesOk prog 127 = true := by kernel_rfl
@[push_cast] theorem c128 : prog.cellsOf 128 = 1 := by kernel_rfl
@[push_cast] theorem g128 : isAggB prog 128 = false := by kernel_rfl
@[push_cast] theorem s128 : (prog.underlying 128).isSome = true := by kernel_rfl
@[push_cast] theorem i128 : (prog.info? 128).isSome = true := by kernel_rfl
@[push_cast] theorem m128 : concreteB prog 128 = true := by kernel_rfl
@[push_cast] theorem a128 : elemOk prog 128 = true := by kernel_rfl
@[push_cast] theorem b128 : bytesOf prog 128 = 8 := by kernel_rfl
@[push_cast] theorem z128 : zeroD prog 128 = some ([.t (.v (.pointer none))]) := by kernel_rfl
@[push_cast] theorem k2 : callOk prog 2 = true := by kernel_rfl
@[push_cast] theorem k3 : callOk prog 3 = true := by kernel_rfl
@[push_cast] theorem k4 : callOk prog 4 = true := by kernel_rfl
@[push_cast] theorem k5 : callOk prog 5 = true := by kernel_rfl
@[push_cast] theorem k6 : callOk prog 6 = true := by kernel_rfl
@[push_cast] theorem k7 : callOk prog 7 = true := by kernel_rfl
@[push_cast] theorem k8 : callOk prog 8 = true := by kernel_rfl
@[push_cast] theorem k9 : callOk prog 9 = true := by kernel_rfl
@[push_cast] theorem k10 : callOk prog 10 = true := by kernel_rfl
@[push_cast] theorem k11 : callOk prog 11 = true := by kernel_rfl
@[push_cast] theorem k12 : callOk prog 12 = true := by kernel_rfl
@[push_cast] theorem k13 : callOk prog 13 = true := by kernel_rfl
@[push_cast] theorem k14 : callOk prog 14 = true := by kernel_rfl
@[push_cast] theorem k15 : callOk prog 15 = true := by kernel_rfl
@[push_cast] theorem k16 : callOk prog 16 = true := by kernel_rfl
@[push_cast] theorem k17 : callOk prog 17 = true := by kernel_rfl
@[push_cast] theorem k18 : callOk prog 18 = true := by kernel_rfl
@[push_cast] theorem k19 : callOk prog 19 = true := by kernel_rfl
@[push_cast] theorem k20 : callOk prog 20 = true := by kernel_rfl
@[push_cast] theorem k21 : callOk prog 21 = true := by kernel_rfl
@[push_cast] theorem k22 : callOk prog 22 = true := by kernel_rfl
@[push_cast] theorem k23 : callOk prog 23 = true := by kernel_rfl
@[push_cast] theorem k24 : callOk prog 24 = true := by kernel_rfl
@[push_cast] theorem k25 : callOk prog 25 = true := by kernel_rfl
@[push_cast] theorem k26 : callOk prog 26 = true := by kernel_rfl
@[push_cast] theorem k27 : callOk prog 27 = true := by kernel_rfl
@[push_cast] theorem k28 : callOk prog 28 = true := by kernel_rfl
@[push_cast] theorem k29 : callOk prog 29 = true := by kernel_rfl
@[push_cast] theorem k30 : callOk prog 30 = true := by kernel_rfl
@[push_cast] theorem k34 : callOk prog 34 = true := by kernel_rfl
@[push_cast] theorem k57 : callOk prog 57 = true := by kernel_rfl
@[push_cast] theorem k76 : callOk prog 76 = true := by kernel_rfl
@[push_cast] theorem mix : prog.follows .mixedOrders = true := by kernel_rfl
end Go.Proofs.Tryd.F
