/- Facts about the program's types: made by wip/ot/facts.py. -/
import Derived.Test.YtemehffhagfpbaaDoorProg
import Derived.Test.YtemehffhagfpbaaDoorOtD
set_option linter.unusedVariables false
namespace Go.Proofs.Tryd.F
open Go Go.Proofs Go.Ot
@[push_cast] theorem c1 : prog.cellsOf 1 = 1 := by kernel_rfl
@[push_cast] theorem g1 : isAggB prog 1 = false := by kernel_rfl
@[push_cast] theorem s1 : (prog.underlying 1).isSome = true := by kernel_rfl
@[push_cast] theorem i1 : (prog.info? 1).isSome = true := by kernel_rfl
@[push_cast] theorem m1 : concreteB prog 1 = true := by kernel_rfl
@[push_cast] theorem a1 : elemOk prog 1 = true := by kernel_rfl
@[push_cast] theorem b1 : bytesOf prog 1 = 8 := by kernel_rfl
@[push_cast] theorem z1 : zeroD prog 1 = some ([.t (.v .nilFunc)]) := by kernel_rfl
@[push_cast] theorem c2 : prog.cellsOf 2 = 1 := by kernel_rfl
@[push_cast] theorem g2 : isAggB prog 2 = false := by kernel_rfl
@[push_cast] theorem s2 : (prog.underlying 2).isSome = true := by kernel_rfl
@[push_cast] theorem i2 : (prog.info? 2).isSome = true := by kernel_rfl
@[push_cast] theorem m2 : concreteB prog 2 = true := by kernel_rfl
@[push_cast] theorem a2 : elemOk prog 2 = true := by kernel_rfl
@[push_cast] theorem b2 : bytesOf prog 2 = 8 := by kernel_rfl
@[push_cast] theorem z2 : zeroD prog 2 = some ([.t (.v (.int .i64 0))]) := by kernel_rfl
@[push_cast] theorem u2 : prog.underlying 2 = some (.int .i64) := by kernel_rfl
@[push_cast] theorem c3 : prog.cellsOf 3 = 1 := by kernel_rfl
@[push_cast] theorem g3 : isAggB prog 3 = false := by kernel_rfl
@[push_cast] theorem s3 : (prog.underlying 3).isSome = true := by kernel_rfl
@[push_cast] theorem i3 : (prog.info? 3).isSome = true := by kernel_rfl
@[push_cast] theorem m3 : concreteB prog 3 = true := by kernel_rfl
@[push_cast] theorem a3 : elemOk prog 3 = true := by kernel_rfl
@[push_cast] theorem b3 : bytesOf prog 3 = 8 := by kernel_rfl
@[push_cast] theorem z3 : zeroD prog 3 = some ([.t (.v (.int .i64 0))]) := by kernel_rfl
@[push_cast] theorem u3 : prog.underlying 3 = some (.int .i64) := by kernel_rfl
@[push_cast] theorem c4 : prog.cellsOf 4 = 1 := by kernel_rfl
@[push_cast] theorem g4 : isAggB prog 4 = false := by kernel_rfl
@[push_cast] theorem s4 : (prog.underlying 4).isSome = true := by kernel_rfl
@[push_cast] theorem i4 : (prog.info? 4).isSome = true := by kernel_rfl
@[push_cast] theorem m4 : concreteB prog 4 = true := by kernel_rfl
@[push_cast] theorem a4 : elemOk prog 4 = true := by kernel_rfl
@[push_cast] theorem b4 : bytesOf prog 4 = 1 := by kernel_rfl
@[push_cast] theorem z4 : zeroD prog 4 = some ([.t (.v (.bool false))]) := by kernel_rfl
@[push_cast] theorem u4 : prog.underlying 4 = some .bool := by kernel_rfl
@[push_cast] theorem c5 : prog.cellsOf 5 = 1 := by kernel_rfl
@[push_cast] theorem g5 : isAggB prog 5 = false := by kernel_rfl
@[push_cast] theorem s5 : (prog.underlying 5).isSome = true := by kernel_rfl
@[push_cast] theorem i5 : (prog.info? 5).isSome = true := by kernel_rfl
@[push_cast] theorem m5 : concreteB prog 5 = true := by kernel_rfl
@[push_cast] theorem a5 : elemOk prog 5 = true := by kernel_rfl
@[push_cast] theorem b5 : bytesOf prog 5 = 1 := by kernel_rfl
@[push_cast] theorem z5 : zeroD prog 5 = some ([.t (.v (.int .u8 0))]) := by kernel_rfl
@[push_cast] theorem u5 : prog.underlying 5 = some (.int .u8) := by kernel_rfl
@[push_cast] theorem c6 : prog.cellsOf 6 = 1 := by kernel_rfl
@[push_cast] theorem g6 : isAggB prog 6 = false := by kernel_rfl
@[push_cast] theorem s6 : (prog.underlying 6).isSome = true := by kernel_rfl
@[push_cast] theorem i6 : (prog.info? 6).isSome = true := by kernel_rfl
@[push_cast] theorem m6 : concreteB prog 6 = true := by kernel_rfl
@[push_cast] theorem a6 : elemOk prog 6 = true := by kernel_rfl
@[push_cast] theorem b6 : bytesOf prog 6 = 1 := by kernel_rfl
@[push_cast] theorem z6 : zeroD prog 6 = some ([.t (.v (.int .u8 0))]) := by kernel_rfl
@[push_cast] theorem u6 : prog.underlying 6 = some (.int .u8) := by kernel_rfl
@[push_cast] theorem c7 : prog.cellsOf 7 = 4 := by kernel_rfl
@[push_cast] theorem g7 : isAggB prog 7 = true := by kernel_rfl
@[push_cast] theorem s7 : (prog.underlying 7).isSome = true := by kernel_rfl
@[push_cast] theorem i7 : (prog.info? 7).isSome = true := by kernel_rfl
@[push_cast] theorem m7 : concreteB prog 7 = true := by kernel_rfl
@[push_cast] theorem a7 : elemOk prog 7 = true := by kernel_rfl
@[push_cast] theorem b7 : bytesOf prog 7 = 24 := by kernel_rfl
@[push_cast] theorem z7 : zeroD prog 7 = some ([.t (.v (.int .i64 0)), .t (.v (.int .i64 0)), .t (.v (.bool false)), .t (.v (.int .u8 0))]) := by kernel_rfl
@[push_cast] theorem f7_0 : fieldOf prog 7 0 = some (0, 1, 2) := by kernel_rfl
@[push_cast] theorem q7_0 : placeOf prog 7 0 = some (0, 1) := by kernel_rfl
@[push_cast] theorem f7_1 : fieldOf prog 7 1 = some (1, 1, 3) := by kernel_rfl
@[push_cast] theorem q7_1 : placeOf prog 7 1 = some (1, 1) := by kernel_rfl
@[push_cast] theorem f7_2 : fieldOf prog 7 2 = some (2, 1, 4) := by kernel_rfl
@[push_cast] theorem q7_2 : placeOf prog 7 2 = some (2, 1) := by kernel_rfl
@[push_cast] theorem f7_3 : fieldOf prog 7 3 = some (3, 1, 6) := by kernel_rfl
@[push_cast] theorem q7_3 : placeOf prog 7 3 = some (3, 1) := by kernel_rfl
@[push_cast] theorem p7 : placesOk prog 7 = true := by kernel_rfl
@[push_cast] theorem c8 : prog.cellsOf 8 = 4 := by kernel_rfl
@[push_cast] theorem g8 : isAggB prog 8 = true := by kernel_rfl
@[push_cast] theorem s8 : (prog.underlying 8).isSome = true := by kernel_rfl
@[push_cast] theorem i8 : (prog.info? 8).isSome = true := by kernel_rfl
@[push_cast] theorem m8 : concreteB prog 8 = true := by kernel_rfl
@[push_cast] theorem a8 : elemOk prog 8 = true := by kernel_rfl
@[push_cast] theorem b8 : bytesOf prog 8 = 24 := by kernel_rfl
@[push_cast] theorem z8 : zeroD prog 8 = some ([.t (.v (.int .i64 0)), .t (.v (.int .i64 0)), .t (.v (.bool false)), .t (.v (.int .u8 0))]) := by kernel_rfl
@[push_cast] theorem f8_0 : fieldOf prog 8 0 = some (0, 1, 2) := by kernel_rfl
@[push_cast] theorem q8_0 : placeOf prog 8 0 = some (0, 1) := by kernel_rfl
@[push_cast] theorem f8_1 : fieldOf prog 8 1 = some (1, 1, 3) := by kernel_rfl
@[push_cast] theorem q8_1 : placeOf prog 8 1 = some (1, 1) := by kernel_rfl
@[push_cast] theorem f8_2 : fieldOf prog 8 2 = some (2, 1, 4) := by kernel_rfl
@[push_cast] theorem q8_2 : placeOf prog 8 2 = some (2, 1) := by kernel_rfl
@[push_cast] theorem f8_3 : fieldOf prog 8 3 = some (3, 1, 6) := by kernel_rfl
@[push_cast] theorem q8_3 : placeOf prog 8 3 = some (3, 1) := by kernel_rfl
@[push_cast] theorem p8 : placesOk prog 8 = true := by kernel_rfl
@[push_cast] theorem c9 : prog.cellsOf 9 = 1 := by kernel_rfl
@[push_cast] theorem g9 : isAggB prog 9 = false := by kernel_rfl
@[push_cast] theorem s9 : (prog.underlying 9).isSome = true := by kernel_rfl
@[push_cast] theorem i9 : (prog.info? 9).isSome = true := by kernel_rfl
@[push_cast] theorem m9 : concreteB prog 9 = true := by kernel_rfl
@[push_cast] theorem a9 : elemOk prog 9 = true := by kernel_rfl
@[push_cast] theorem b9 : bytesOf prog 9 = 16 := by kernel_rfl
@[push_cast] theorem z9 : zeroD prog 9 = some ([.t (.v (.string ⟨#[]⟩))]) := by kernel_rfl
@[push_cast] theorem u9 : prog.underlying 9 = some .string := by kernel_rfl
@[push_cast] theorem c10 : prog.cellsOf 10 = 1 := by kernel_rfl
@[push_cast] theorem g10 : isAggB prog 10 = false := by kernel_rfl
@[push_cast] theorem s10 : (prog.underlying 10).isSome = true := by kernel_rfl
@[push_cast] theorem i10 : (prog.info? 10).isSome = true := by kernel_rfl
@[push_cast] theorem m10 : concreteB prog 10 = true := by kernel_rfl
@[push_cast] theorem a10 : elemOk prog 10 = true := by kernel_rfl
@[push_cast] theorem b10 : bytesOf prog 10 = 16 := by kernel_rfl
@[push_cast] theorem z10 : zeroD prog 10 = some ([.t (.v (.string ⟨#[]⟩))]) := by kernel_rfl
@[push_cast] theorem u10 : prog.underlying 10 = some .string := by kernel_rfl
@[push_cast] theorem c11 : prog.cellsOf 11 = 1 := by kernel_rfl
@[push_cast] theorem g11 : isAggB prog 11 = false := by kernel_rfl
@[push_cast] theorem s11 : (prog.underlying 11).isSome = true := by kernel_rfl
@[push_cast] theorem i11 : (prog.info? 11).isSome = true := by kernel_rfl
@[push_cast] theorem m11 : concreteB prog 11 = true := by kernel_rfl
@[push_cast] theorem a11 : elemOk prog 11 = true := by kernel_rfl
@[push_cast] theorem b11 : bytesOf prog 11 = 16 := by kernel_rfl
@[push_cast] theorem z11 : zeroD prog 11 = some ([.t (.v (.string ⟨#[]⟩))]) := by kernel_rfl
@[push_cast] theorem u11 : prog.underlying 11 = some .string := by kernel_rfl
@[push_cast] theorem c12 : prog.cellsOf 12 = 1 := by kernel_rfl
@[push_cast] theorem g12 : isAggB prog 12 = false := by kernel_rfl
@[push_cast] theorem s12 : (prog.underlying 12).isSome = true := by kernel_rfl
@[push_cast] theorem i12 : (prog.info? 12).isSome = true := by kernel_rfl
@[push_cast] theorem m12 : concreteB prog 12 = true := by kernel_rfl
@[push_cast] theorem a12 : elemOk prog 12 = true := by kernel_rfl
@[push_cast] theorem b12 : bytesOf prog 12 = 8 := by kernel_rfl
@[push_cast] theorem z12 : zeroD prog 12 = some ([.t (.v (.int .u64 0))]) := by kernel_rfl
@[push_cast] theorem u12 : prog.underlying 12 = some (.int .u64) := by kernel_rfl
@[push_cast] theorem c13 : prog.cellsOf 13 = 2 := by kernel_rfl
@[push_cast] theorem g13 : isAggB prog 13 = true := by kernel_rfl
@[push_cast] theorem s13 : (prog.underlying 13).isSome = true := by kernel_rfl
@[push_cast] theorem i13 : (prog.info? 13).isSome = true := by kernel_rfl
@[push_cast] theorem m13 : concreteB prog 13 = true := by kernel_rfl
@[push_cast] theorem a13 : elemOk prog 13 = true := by kernel_rfl
@[push_cast] theorem b13 : bytesOf prog 13 = 24 := by kernel_rfl
@[push_cast] theorem z13 : zeroD prog 13 = some ([.t (.v (.string ⟨#[]⟩)), .t (.v (.int .u64 0))]) := by kernel_rfl
@[push_cast] theorem f13_0 : fieldOf prog 13 0 = some (0, 1, 9) := by kernel_rfl
@[push_cast] theorem q13_0 : placeOf prog 13 0 = some (0, 1) := by kernel_rfl
@[push_cast] theorem f13_1 : fieldOf prog 13 1 = some (1, 1, 12) := by kernel_rfl
@[push_cast] theorem q13_1 : placeOf prog 13 1 = some (1, 1) := by kernel_rfl
@[push_cast] theorem p13 : placesOk prog 13 = true := by kernel_rfl
@[push_cast] theorem c14 : prog.cellsOf 14 = 2 := by kernel_rfl
@[push_cast] theorem g14 : isAggB prog 14 = true := by kernel_rfl
@[push_cast] theorem s14 : (prog.underlying 14).isSome = true := by kernel_rfl
@[push_cast] theorem i14 : (prog.info? 14).isSome = true := by kernel_rfl
@[push_cast] theorem m14 : concreteB prog 14 = true := by kernel_rfl
@[push_cast] theorem a14 : elemOk prog 14 = true := by kernel_rfl
@[push_cast] theorem b14 : bytesOf prog 14 = 24 := by kernel_rfl
@[push_cast] theorem z14 : zeroD prog 14 = some ([.t (.v (.string ⟨#[]⟩)), .t (.v (.int .u64 0))]) := by kernel_rfl
@[push_cast] theorem f14_0 : fieldOf prog 14 0 = some (0, 1, 9) := by kernel_rfl
@[push_cast] theorem q14_0 : placeOf prog 14 0 = some (0, 1) := by kernel_rfl
@[push_cast] theorem f14_1 : fieldOf prog 14 1 = some (1, 1, 12) := by kernel_rfl
@[push_cast] theorem q14_1 : placeOf prog 14 1 = some (1, 1) := by kernel_rfl
@[push_cast] theorem p14 : placesOk prog 14 = true := by kernel_rfl
@[push_cast] theorem c15 : prog.cellsOf 15 = 1 := by kernel_rfl
@[push_cast] theorem g15 : isAggB prog 15 = false := by kernel_rfl
@[push_cast] theorem s15 : (prog.underlying 15).isSome = true := by kernel_rfl
@[push_cast] theorem i15 : (prog.info? 15).isSome = true := by kernel_rfl
@[push_cast] theorem m15 : concreteB prog 15 = true := by kernel_rfl
@[push_cast] theorem a15 : elemOk prog 15 = true := by kernel_rfl
@[push_cast] theorem b15 : bytesOf prog 15 = 8 := by kernel_rfl
@[push_cast] theorem z15 : zeroD prog 15 = some ([.t (.v (.pointer none))]) := by kernel_rfl
@[push_cast] theorem c16 : prog.cellsOf 16 = 1 := by kernel_rfl
@[push_cast] theorem g16 : isAggB prog 16 = false := by kernel_rfl
@[push_cast] theorem s16 : (prog.underlying 16).isSome = true := by kernel_rfl
@[push_cast] theorem i16 : (prog.info? 16).isSome = true := by kernel_rfl
@[push_cast] theorem m16 : concreteB prog 16 = true := by kernel_rfl
@[push_cast] theorem a16 : elemOk prog 16 = true := by kernel_rfl
@[push_cast] theorem b16 : bytesOf prog 16 = 8 := by kernel_rfl
@[push_cast] theorem z16 : zeroD prog 16 = some ([.t (.v (.pointer none))]) := by kernel_rfl
@[push_cast] theorem c17 : prog.cellsOf 17 = 1 := by kernel_rfl
@[push_cast] theorem g17 : isAggB prog 17 = false := by kernel_rfl
@[push_cast] theorem s17 : (prog.underlying 17).isSome = true := by kernel_rfl
@[push_cast] theorem i17 : (prog.info? 17).isSome = true := by kernel_rfl
@[push_cast] theorem m17 : concreteB prog 17 = true := by kernel_rfl
@[push_cast] theorem a17 : elemOk prog 17 = true := by kernel_rfl
@[push_cast] theorem b17 : bytesOf prog 17 = 8 := by kernel_rfl
@[push_cast] theorem z17 : zeroD prog 17 = some ([.t (.v (.pointer none))]) := by kernel_rfl
@[push_cast] theorem c18 : prog.cellsOf 18 = 1 := by kernel_rfl
@[push_cast] theorem g18 : isAggB prog 18 = true := by kernel_rfl
@[push_cast] theorem s18 : (prog.underlying 18).isSome = true := by kernel_rfl
@[push_cast] theorem i18 : (prog.info? 18).isSome = true := by kernel_rfl
@[push_cast] theorem m18 : concreteB prog 18 = true := by kernel_rfl
@[push_cast] theorem a18 : elemOk prog 18 = true := by kernel_rfl
@[push_cast] theorem b18 : bytesOf prog 18 = 8 := by kernel_rfl
@[push_cast] theorem z18 : zeroD prog 18 = some ([.t (.v (.pointer none))]) := by kernel_rfl
@[push_cast] theorem f18_0 : fieldOf prog 18 0 = some (0, 1, 17) := by kernel_rfl
@[push_cast] theorem q18_0 : placeOf prog 18 0 = some (0, 1) := by kernel_rfl
@[push_cast] theorem p18 : placesOk prog 18 = true := by kernel_rfl
@[push_cast] theorem c19 : prog.cellsOf 19 = 1 := by kernel_rfl
@[push_cast] theorem g19 : isAggB prog 19 = true := by kernel_rfl
@[push_cast] theorem s19 : (prog.underlying 19).isSome = true := by kernel_rfl
@[push_cast] theorem i19 : (prog.info? 19).isSome = true := by kernel_rfl
@[push_cast] theorem m19 : concreteB prog 19 = true := by kernel_rfl
@[push_cast] theorem a19 : elemOk prog 19 = true := by kernel_rfl
@[push_cast] theorem b19 : bytesOf prog 19 = 8 := by kernel_rfl
@[push_cast] theorem z19 : zeroD prog 19 = some ([.t (.v (.pointer none))]) := by kernel_rfl
@[push_cast] theorem f19_0 : fieldOf prog 19 0 = some (0, 1, 17) := by kernel_rfl
@[push_cast] theorem q19_0 : placeOf prog 19 0 = some (0, 1) := by kernel_rfl
@[push_cast] theorem p19 : placesOk prog 19 = true := by kernel_rfl
@[push_cast] theorem c20 : prog.cellsOf 20 = 1 := by kernel_rfl
@[push_cast] theorem g20 : isAggB prog 20 = false := by kernel_rfl
@[push_cast] theorem s20 : (prog.underlying 20).isSome = true := by kernel_rfl
@[push_cast] theorem i20 : (prog.info? 20).isSome = true := by kernel_rfl
@[push_cast] theorem a20 : elemOk prog 20 = true := by kernel_rfl
@[push_cast] theorem b20 : bytesOf prog 20 = 16 := by kernel_rfl
@[push_cast] theorem z20 : zeroD prog 20 = some ([.t (.v .nilIface)]) := by kernel_rfl
@[push_cast] theorem u20 : prog.underlying 20 = some (.interface (prog.methodsAt 20)) := by kernel_rfl
@[push_cast] theorem c21 : prog.cellsOf 21 = 1 := by kernel_rfl
@[push_cast] theorem g21 : isAggB prog 21 = false := by kernel_rfl
@[push_cast] theorem s21 : (prog.underlying 21).isSome = true := by kernel_rfl
@[push_cast] theorem i21 : (prog.info? 21).isSome = true := by kernel_rfl
@[push_cast] theorem m21 : concreteB prog 21 = true := by kernel_rfl
@[push_cast] theorem a21 : elemOk prog 21 = true := by kernel_rfl
@[push_cast] theorem b21 : bytesOf prog 21 = 4 := by kernel_rfl
@[push_cast] theorem z21 : zeroD prog 21 = some ([.t (.v (.int .i32 0))]) := by kernel_rfl
@[push_cast] theorem u21 : prog.underlying 21 = some (.int .i32) := by kernel_rfl
@[push_cast] theorem c22 : prog.cellsOf 22 = 1 := by kernel_rfl
@[push_cast] theorem g22 : isAggB prog 22 = false := by kernel_rfl
@[push_cast] theorem s22 : (prog.underlying 22).isSome = true := by kernel_rfl
@[push_cast] theorem i22 : (prog.info? 22).isSome = true := by kernel_rfl
@[push_cast] theorem m22 : concreteB prog 22 = true := by kernel_rfl
@[push_cast] theorem a22 : elemOk prog 22 = true := by kernel_rfl
@[push_cast] theorem b22 : bytesOf prog 22 = 24 := by kernel_rfl
@[push_cast] theorem z22 : zeroD prog 22 = some ([.t (.v (.slice none 0 0))]) := by kernel_rfl
@[push_cast] theorem u22 : prog.underlying 22 = some (.slice 25) := by kernel_rfl
@[push_cast] theorem e22 : prog.elem 22 = 25 := by kernel_rfl
@[push_cast] theorem c23 : prog.cellsOf 23 = 1 := by kernel_rfl
@[push_cast] theorem g23 : isAggB prog 23 = false := by kernel_rfl
@[push_cast] theorem s23 : (prog.underlying 23).isSome = true := by kernel_rfl
@[push_cast] theorem i23 : (prog.info? 23).isSome = true := by kernel_rfl
@[push_cast] theorem m23 : concreteB prog 23 = true := by kernel_rfl
@[push_cast] theorem a23 : elemOk prog 23 = true := by kernel_rfl
@[push_cast] theorem b23 : bytesOf prog 23 = 24 := by kernel_rfl
@[push_cast] theorem z23 : zeroD prog 23 = some ([.t (.v (.slice none 0 0))]) := by kernel_rfl
@[push_cast] theorem u23 : prog.underlying 23 = some (.slice 57) := by kernel_rfl
@[push_cast] theorem e23 : prog.elem 23 = 57 := by kernel_rfl
@[push_cast] theorem c24 : prog.cellsOf 24 = 6 := by kernel_rfl
@[push_cast] theorem g24 : isAggB prog 24 = true := by kernel_rfl
@[push_cast] theorem s24 : (prog.underlying 24).isSome = true := by kernel_rfl
@[push_cast] theorem i24 : (prog.info? 24).isSome = true := by kernel_rfl
@[push_cast] theorem m24 : concreteB prog 24 = true := by kernel_rfl
@[push_cast] theorem a24 : elemOk prog 24 = true := by kernel_rfl
@[push_cast] theorem b24 : bytesOf prog 24 = 80 := by kernel_rfl
@[push_cast] theorem z24 : zeroD prog 24 = some ([.t (.v (.int .i64 0)), .t (.v (.string ⟨#[]⟩)), .t (.v (.int .i64 0)), .t (.v (.int .i64 0)), .t (.v (.slice none 0 0)), .t (.v (.string ⟨#[]⟩))]) := by kernel_rfl
@[push_cast] theorem f24_0 : fieldOf prog 24 0 = some (0, 1, 3) := by kernel_rfl
@[push_cast] theorem q24_0 : placeOf prog 24 0 = some (0, 1) := by kernel_rfl
@[push_cast] theorem f24_1 : fieldOf prog 24 1 = some (1, 1, 9) := by kernel_rfl
@[push_cast] theorem q24_1 : placeOf prog 24 1 = some (1, 1) := by kernel_rfl
@[push_cast] theorem f24_2 : fieldOf prog 24 2 = some (2, 1, 3) := by kernel_rfl
@[push_cast] theorem q24_2 : placeOf prog 24 2 = some (2, 1) := by kernel_rfl
@[push_cast] theorem f24_3 : fieldOf prog 24 3 = some (3, 1, 3) := by kernel_rfl
@[push_cast] theorem q24_3 : placeOf prog 24 3 = some (3, 1) := by kernel_rfl
@[push_cast] theorem f24_4 : fieldOf prog 24 4 = some (4, 1, 23) := by kernel_rfl
@[push_cast] theorem q24_4 : placeOf prog 24 4 = some (4, 1) := by kernel_rfl
@[push_cast] theorem f24_5 : fieldOf prog 24 5 = some (5, 1, 9) := by kernel_rfl
@[push_cast] theorem q24_5 : placeOf prog 24 5 = some (5, 1) := by kernel_rfl
@[push_cast] theorem p24 : placesOk prog 24 = true := by kernel_rfl
@[push_cast] theorem c25 : prog.cellsOf 25 = 6 := by kernel_rfl
@[push_cast] theorem g25 : isAggB prog 25 = true := by kernel_rfl
@[push_cast] theorem s25 : (prog.underlying 25).isSome = true := by kernel_rfl
@[push_cast] theorem i25 : (prog.info? 25).isSome = true := by kernel_rfl
@[push_cast] theorem m25 : concreteB prog 25 = true := by kernel_rfl
@[push_cast] theorem a25 : elemOk prog 25 = true := by kernel_rfl
@[push_cast] theorem b25 : bytesOf prog 25 = 80 := by kernel_rfl
@[push_cast] theorem z25 : zeroD prog 25 = some ([.t (.v (.int .i64 0)), .t (.v (.string ⟨#[]⟩)), .t (.v (.int .i64 0)), .t (.v (.int .i64 0)), .t (.v (.slice none 0 0)), .t (.v (.string ⟨#[]⟩))]) := by kernel_rfl
@[push_cast] theorem f25_0 : fieldOf prog 25 0 = some (0, 1, 3) := by kernel_rfl
@[push_cast] theorem q25_0 : placeOf prog 25 0 = some (0, 1) := by kernel_rfl
@[push_cast] theorem f25_1 : fieldOf prog 25 1 = some (1, 1, 9) := by kernel_rfl
@[push_cast] theorem q25_1 : placeOf prog 25 1 = some (1, 1) := by kernel_rfl
@[push_cast] theorem f25_2 : fieldOf prog 25 2 = some (2, 1, 3) := by kernel_rfl
@[push_cast] theorem q25_2 : placeOf prog 25 2 = some (2, 1) := by kernel_rfl
@[push_cast] theorem f25_3 : fieldOf prog 25 3 = some (3, 1, 3) := by kernel_rfl
@[push_cast] theorem q25_3 : placeOf prog 25 3 = some (3, 1) := by kernel_rfl
@[push_cast] theorem f25_4 : fieldOf prog 25 4 = some (4, 1, 23) := by kernel_rfl
@[push_cast] theorem q25_4 : placeOf prog 25 4 = some (4, 1) := by kernel_rfl
@[push_cast] theorem f25_5 : fieldOf prog 25 5 = some (5, 1, 9) := by kernel_rfl
@[push_cast] theorem q25_5 : placeOf prog 25 5 = some (5, 1) := by kernel_rfl
@[push_cast] theorem p25 : placesOk prog 25 = true := by kernel_rfl
@[push_cast] theorem c26 : prog.cellsOf 26 = 1 := by kernel_rfl
@[push_cast] theorem g26 : isAggB prog 26 = false := by kernel_rfl
@[push_cast] theorem s26 : (prog.underlying 26).isSome = true := by kernel_rfl
@[push_cast] theorem i26 : (prog.info? 26).isSome = true := by kernel_rfl
@[push_cast] theorem m26 : concreteB prog 26 = true := by kernel_rfl
@[push_cast] theorem a26 : elemOk prog 26 = true := by kernel_rfl
@[push_cast] theorem b26 : bytesOf prog 26 = 8 := by kernel_rfl
@[push_cast] theorem z26 : zeroD prog 26 = some ([.t (.v .nilFunc)]) := by kernel_rfl
@[push_cast] theorem c27 : prog.cellsOf 27 = 1 := by kernel_rfl
@[push_cast] theorem g27 : isAggB prog 27 = false := by kernel_rfl
@[push_cast] theorem s27 : (prog.underlying 27).isSome = true := by kernel_rfl
@[push_cast] theorem i27 : (prog.info? 27).isSome = true := by kernel_rfl
@[push_cast] theorem m27 : concreteB prog 27 = true := by kernel_rfl
@[push_cast] theorem a27 : elemOk prog 27 = true := by kernel_rfl
@[push_cast] theorem b27 : bytesOf prog 27 = 8 := by kernel_rfl
@[push_cast] theorem z27 : zeroD prog 27 = some ([.t (.v .nilFunc)]) := by kernel_rfl
@[push_cast] theorem c28 : prog.cellsOf 28 = 1 := by kernel_rfl
@[push_cast] theorem g28 : isAggB prog 28 = false := by kernel_rfl
@[push_cast] theorem s28 : (prog.underlying 28).isSome = true := by kernel_rfl
@[push_cast] theorem i28 : (prog.info? 28).isSome = true := by kernel_rfl
@[push_cast] theorem m28 : concreteB prog 28 = true := by kernel_rfl
@[push_cast] theorem a28 : elemOk prog 28 = true := by kernel_rfl
@[push_cast] theorem b28 : bytesOf prog 28 = 8 := by kernel_rfl
@[push_cast] theorem z28 : zeroD prog 28 = some ([.t (.v .nilFunc)]) := by kernel_rfl
@[push_cast] theorem c29 : prog.cellsOf 29 = 1 := by kernel_rfl
@[push_cast] theorem g29 : isAggB prog 29 = false := by kernel_rfl
@[push_cast] theorem s29 : (prog.underlying 29).isSome = true := by kernel_rfl
@[push_cast] theorem i29 : (prog.info? 29).isSome = true := by kernel_rfl
@[push_cast] theorem m29 : concreteB prog 29 = true := by kernel_rfl
@[push_cast] theorem a29 : elemOk prog 29 = true := by kernel_rfl
@[push_cast] theorem b29 : bytesOf prog 29 = 8 := by kernel_rfl
@[push_cast] theorem z29 : zeroD prog 29 = some ([.t (.v .nilFunc)]) := by kernel_rfl
@[push_cast] theorem c30 : prog.cellsOf 30 = 1 := by kernel_rfl
@[push_cast] theorem g30 : isAggB prog 30 = false := by kernel_rfl
@[push_cast] theorem s30 : (prog.underlying 30).isSome = true := by kernel_rfl
@[push_cast] theorem i30 : (prog.info? 30).isSome = true := by kernel_rfl
@[push_cast] theorem m30 : concreteB prog 30 = true := by kernel_rfl
@[push_cast] theorem a30 : elemOk prog 30 = true := by kernel_rfl
@[push_cast] theorem b30 : bytesOf prog 30 = 8 := by kernel_rfl
@[push_cast] theorem z30 : zeroD prog 30 = some ([.t (.v .nilFunc)]) := by kernel_rfl
@[push_cast] theorem c31 : prog.cellsOf 31 = 1 := by kernel_rfl
@[push_cast] theorem g31 : isAggB prog 31 = false := by kernel_rfl
@[push_cast] theorem s31 : (prog.underlying 31).isSome = true := by kernel_rfl
@[push_cast] theorem i31 : (prog.info? 31).isSome = true := by kernel_rfl
@[push_cast] theorem m31 : concreteB prog 31 = true := by kernel_rfl
@[push_cast] theorem a31 : elemOk prog 31 = true := by kernel_rfl
@[push_cast] theorem b31 : bytesOf prog 31 = 2 := by kernel_rfl
@[push_cast] theorem z31 : zeroD prog 31 = some ([.t (.v (.int .u16 0))]) := by kernel_rfl
@[push_cast] theorem u31 : prog.underlying 31 = some (.int .u16) := by kernel_rfl
@[push_cast] theorem c32 : prog.cellsOf 32 = 1 := by kernel_rfl
@[push_cast] theorem g32 : isAggB prog 32 = false := by kernel_rfl
@[push_cast] theorem s32 : (prog.underlying 32).isSome = true := by kernel_rfl
@[push_cast] theorem i32 : (prog.info? 32).isSome = true := by kernel_rfl
@[push_cast] theorem m32 : concreteB prog 32 = true := by kernel_rfl
@[push_cast] theorem a32 : elemOk prog 32 = true := by kernel_rfl
@[push_cast] theorem b32 : bytesOf prog 32 = 8 := by kernel_rfl
@[push_cast] theorem z32 : zeroD prog 32 = some ([.t (.v .nilFunc)]) := by kernel_rfl
@[push_cast] theorem c34 : prog.cellsOf 34 = 1 := by kernel_rfl
@[push_cast] theorem g34 : isAggB prog 34 = false := by kernel_rfl
@[push_cast] theorem s34 : (prog.underlying 34).isSome = true := by kernel_rfl
@[push_cast] theorem i34 : (prog.info? 34).isSome = true := by kernel_rfl
@[push_cast] theorem m34 : concreteB prog 34 = true := by kernel_rfl
@[push_cast] theorem a34 : elemOk prog 34 = true := by kernel_rfl
@[push_cast] theorem b34 : bytesOf prog 34 = 8 := by kernel_rfl
@[push_cast] theorem z34 : zeroD prog 34 = some ([.t (.v .nilFunc)]) := by kernel_rfl
@[push_cast] theorem c35 : prog.cellsOf 35 = 1 := by kernel_rfl
@[push_cast] theorem g35 : isAggB prog 35 = false := by kernel_rfl
@[push_cast] theorem s35 : (prog.underlying 35).isSome = true := by kernel_rfl
@[push_cast] theorem i35 : (prog.info? 35).isSome = true := by kernel_rfl
@[push_cast] theorem m35 : concreteB prog 35 = true := by kernel_rfl
@[push_cast] theorem a35 : elemOk prog 35 = true := by kernel_rfl
@[push_cast] theorem b35 : bytesOf prog 35 = 8 := by kernel_rfl
@[push_cast] theorem z35 : zeroD prog 35 = some ([.t (.v .nilFunc)]) := by kernel_rfl
@[push_cast] theorem c36 : prog.cellsOf 36 = 1 := by kernel_rfl
@[push_cast] theorem g36 : isAggB prog 36 = false := by kernel_rfl
@[push_cast] theorem s36 : (prog.underlying 36).isSome = true := by kernel_rfl
@[push_cast] theorem i36 : (prog.info? 36).isSome = true := by kernel_rfl
@[push_cast] theorem m36 : concreteB prog 36 = true := by kernel_rfl
@[push_cast] theorem a36 : elemOk prog 36 = true := by kernel_rfl
@[push_cast] theorem b36 : bytesOf prog 36 = 24 := by kernel_rfl
@[push_cast] theorem z36 : zeroD prog 36 = some ([.t (.v (.slice none 0 0))]) := by kernel_rfl
@[push_cast] theorem u36 : prog.underlying 36 = some (.slice 5) := by kernel_rfl
@[push_cast] theorem e36 : prog.elem 36 = 5 := by kernel_rfl
@[push_cast] theorem c37 : prog.cellsOf 37 = 1 := by kernel_rfl
@[push_cast] theorem g37 : isAggB prog 37 = false := by kernel_rfl
@[push_cast] theorem s37 : (prog.underlying 37).isSome = true := by kernel_rfl
@[push_cast] theorem i37 : (prog.info? 37).isSome = true := by kernel_rfl
@[push_cast] theorem m37 : concreteB prog 37 = true := by kernel_rfl
@[push_cast] theorem a37 : elemOk prog 37 = true := by kernel_rfl
@[push_cast] theorem b37 : bytesOf prog 37 = 8 := by kernel_rfl
@[push_cast] theorem z37 : zeroD prog 37 = some ([.t (.v .nilFunc)]) := by kernel_rfl
@[push_cast] theorem c38 : prog.cellsOf 38 = 1 := by kernel_rfl
@[push_cast] theorem g38 : isAggB prog 38 = false := by kernel_rfl
@[push_cast] theorem s38 : (prog.underlying 38).isSome = true := by kernel_rfl
@[push_cast] theorem i38 : (prog.info? 38).isSome = true := by kernel_rfl
@[push_cast] theorem m38 : concreteB prog 38 = true := by kernel_rfl
@[push_cast] theorem a38 : elemOk prog 38 = true := by kernel_rfl
@[push_cast] theorem b38 : bytesOf prog 38 = 8 := by kernel_rfl
@[push_cast] theorem z38 : zeroD prog 38 = some ([.t (.v .nilFunc)]) := by kernel_rfl
@[push_cast] theorem c39 : prog.cellsOf 39 = 1 := by kernel_rfl
@[push_cast] theorem g39 : isAggB prog 39 = false := by kernel_rfl
@[push_cast] theorem s39 : (prog.underlying 39).isSome = true := by kernel_rfl
@[push_cast] theorem i39 : (prog.info? 39).isSome = true := by kernel_rfl
@[push_cast] theorem m39 : concreteB prog 39 = true := by kernel_rfl
@[push_cast] theorem a39 : elemOk prog 39 = true := by kernel_rfl
@[push_cast] theorem b39 : bytesOf prog 39 = 8 := by kernel_rfl
@[push_cast] theorem z39 : zeroD prog 39 = some ([.t (.v .nilFunc)]) := by kernel_rfl
@[push_cast] theorem c40 : prog.cellsOf 40 = 1 := by kernel_rfl
@[push_cast] theorem g40 : isAggB prog 40 = false := by kernel_rfl
@[push_cast] theorem s40 : (prog.underlying 40).isSome = true := by kernel_rfl
@[push_cast] theorem i40 : (prog.info? 40).isSome = true := by kernel_rfl
@[push_cast] theorem m40 : concreteB prog 40 = true := by kernel_rfl
@[push_cast] theorem a40 : elemOk prog 40 = true := by kernel_rfl
@[push_cast] theorem b40 : bytesOf prog 40 = 24 := by kernel_rfl
@[push_cast] theorem z40 : zeroD prog 40 = some ([.t (.v (.slice none 0 0))]) := by kernel_rfl
@[push_cast] theorem u40 : prog.underlying 40 = some (.slice 3) := by kernel_rfl
@[push_cast] theorem e40 : prog.elem 40 = 3 := by kernel_rfl
@[push_cast] theorem c41 : prog.cellsOf 41 = 1 := by kernel_rfl
@[push_cast] theorem g41 : isAggB prog 41 = false := by kernel_rfl
@[push_cast] theorem s41 : (prog.underlying 41).isSome = true := by kernel_rfl
@[push_cast] theorem i41 : (prog.info? 41).isSome = true := by kernel_rfl
@[push_cast] theorem a41 : elemOk prog 41 = true := by kernel_rfl
@[push_cast] theorem b41 : bytesOf prog 41 = 16 := by kernel_rfl
@[push_cast] theorem z41 : zeroD prog 41 = some ([.t (.v .nilIface)]) := by kernel_rfl
@[push_cast] theorem u41 : prog.underlying 41 = some (.interface (prog.methodsAt 41)) := by kernel_rfl
@[push_cast] theorem c42 : prog.cellsOf 42 = 1 := by kernel_rfl
@[push_cast] theorem g42 : isAggB prog 42 = false := by kernel_rfl
@[push_cast] theorem s42 : (prog.underlying 42).isSome = true := by kernel_rfl
@[push_cast] theorem i42 : (prog.info? 42).isSome = true := by kernel_rfl
@[push_cast] theorem a42 : elemOk prog 42 = true := by kernel_rfl
@[push_cast] theorem b42 : bytesOf prog 42 = 16 := by kernel_rfl
@[push_cast] theorem z42 : zeroD prog 42 = some ([.t (.v .nilIface)]) := by kernel_rfl
@[push_cast] theorem u42 : prog.underlying 42 = some (.interface (prog.methodsAt 42)) := by kernel_rfl
@[push_cast] theorem c43 : prog.cellsOf 43 = 1 := by kernel_rfl
@[push_cast] theorem g43 : isAggB prog 43 = false := by kernel_rfl
@[push_cast] theorem s43 : (prog.underlying 43).isSome = true := by kernel_rfl
@[push_cast] theorem i43 : (prog.info? 43).isSome = true := by kernel_rfl
@[push_cast] theorem m43 : concreteB prog 43 = true := by kernel_rfl
@[push_cast] theorem a43 : elemOk prog 43 = true := by kernel_rfl
@[push_cast] theorem b43 : bytesOf prog 43 = 8 := by kernel_rfl
@[push_cast] theorem z43 : zeroD prog 43 = some ([.t (.v .nilFunc)]) := by kernel_rfl
@[push_cast] theorem c44 : prog.cellsOf 44 = 1 := by kernel_rfl
@[push_cast] theorem g44 : isAggB prog 44 = false := by kernel_rfl
@[push_cast] theorem s44 : (prog.underlying 44).isSome = true := by kernel_rfl
@[push_cast] theorem i44 : (prog.info? 44).isSome = true := by kernel_rfl
@[push_cast] theorem m44 : concreteB prog 44 = true := by kernel_rfl
@[push_cast] theorem a44 : elemOk prog 44 = true := by kernel_rfl
@[push_cast] theorem b44 : bytesOf prog 44 = 8 := by kernel_rfl
@[push_cast] theorem z44 : zeroD prog 44 = some ([.t (.v .nilFunc)]) := by kernel_rfl
@[push_cast] theorem c45 : prog.cellsOf 45 = 1 := by kernel_rfl
@[push_cast] theorem g45 : isAggB prog 45 = false := by kernel_rfl
@[push_cast] theorem s45 : (prog.underlying 45).isSome = true := by kernel_rfl
@[push_cast] theorem i45 : (prog.info? 45).isSome = true := by kernel_rfl
@[push_cast] theorem m45 : concreteB prog 45 = true := by kernel_rfl
@[push_cast] theorem a45 : elemOk prog 45 = true := by kernel_rfl
@[push_cast] theorem b45 : bytesOf prog 45 = 16 := by kernel_rfl
@[push_cast] theorem z45 : zeroD prog 45 = some ([.t (.v (.string ⟨#[]⟩))]) := by kernel_rfl
@[push_cast] theorem u45 : prog.underlying 45 = some .string := by kernel_rfl
@[push_cast] theorem c46 : prog.cellsOf 46 = 1 := by kernel_rfl
@[push_cast] theorem g46 : isAggB prog 46 = false := by kernel_rfl
@[push_cast] theorem s46 : (prog.underlying 46).isSome = true := by kernel_rfl
@[push_cast] theorem i46 : (prog.info? 46).isSome = true := by kernel_rfl
@[push_cast] theorem m46 : concreteB prog 46 = true := by kernel_rfl
@[push_cast] theorem a46 : elemOk prog 46 = true := by kernel_rfl
@[push_cast] theorem b46 : bytesOf prog 46 = 8 := by kernel_rfl
@[push_cast] theorem z46 : zeroD prog 46 = some ([.t (.v .nilFunc)]) := by kernel_rfl
@[push_cast] theorem c47 : prog.cellsOf 47 = 1 := by kernel_rfl
@[push_cast] theorem g47 : isAggB prog 47 = false := by kernel_rfl
@[push_cast] theorem s47 : (prog.underlying 47).isSome = true := by kernel_rfl
@[push_cast] theorem i47 : (prog.info? 47).isSome = true := by kernel_rfl
@[push_cast] theorem m47 : concreteB prog 47 = true := by kernel_rfl
@[push_cast] theorem a47 : elemOk prog 47 = true := by kernel_rfl
@[push_cast] theorem b47 : bytesOf prog 47 = 8 := by kernel_rfl
@[push_cast] theorem z47 : zeroD prog 47 = some ([.t (.v .nilFunc)]) := by kernel_rfl
@[push_cast] theorem c48 : prog.cellsOf 48 = 1 := by kernel_rfl
@[push_cast] theorem g48 : isAggB prog 48 = false := by kernel_rfl
@[push_cast] theorem s48 : (prog.underlying 48).isSome = true := by kernel_rfl
@[push_cast] theorem i48 : (prog.info? 48).isSome = true := by kernel_rfl
@[push_cast] theorem m48 : concreteB prog 48 = true := by kernel_rfl
@[push_cast] theorem a48 : elemOk prog 48 = true := by kernel_rfl
@[push_cast] theorem b48 : bytesOf prog 48 = 8 := by kernel_rfl
@[push_cast] theorem z48 : zeroD prog 48 = some ([.t (.v .nilFunc)]) := by kernel_rfl
@[push_cast] theorem c49 : prog.cellsOf 49 = 1 := by kernel_rfl
@[push_cast] theorem g49 : isAggB prog 49 = false := by kernel_rfl
@[push_cast] theorem s49 : (prog.underlying 49).isSome = true := by kernel_rfl
@[push_cast] theorem i49 : (prog.info? 49).isSome = true := by kernel_rfl
@[push_cast] theorem m49 : concreteB prog 49 = true := by kernel_rfl
@[push_cast] theorem a49 : elemOk prog 49 = true := by kernel_rfl
@[push_cast] theorem b49 : bytesOf prog 49 = 4 := by kernel_rfl
@[push_cast] theorem z49 : zeroD prog 49 = some ([.t (.v (.int .u32 0))]) := by kernel_rfl
@[push_cast] theorem u49 : prog.underlying 49 = some (.int .u32) := by kernel_rfl
@[push_cast] theorem c50 : prog.cellsOf 50 = 1 := by kernel_rfl
@[push_cast] theorem g50 : isAggB prog 50 = false := by kernel_rfl
@[push_cast] theorem s50 : (prog.underlying 50).isSome = true := by kernel_rfl
@[push_cast] theorem i50 : (prog.info? 50).isSome = true := by kernel_rfl
@[push_cast] theorem m50 : concreteB prog 50 = true := by kernel_rfl
@[push_cast] theorem a50 : elemOk prog 50 = true := by kernel_rfl
@[push_cast] theorem b50 : bytesOf prog 50 = 24 := by kernel_rfl
@[push_cast] theorem z50 : zeroD prog 50 = some ([.t (.v (.slice none 0 0))]) := by kernel_rfl
@[push_cast] theorem u50 : prog.underlying 50 = some (.slice 49) := by kernel_rfl
@[push_cast] theorem e50 : prog.elem 50 = 49 := by kernel_rfl
@[push_cast] theorem c51 : prog.cellsOf 51 = 1 := by kernel_rfl
@[push_cast] theorem g51 : isAggB prog 51 = false := by kernel_rfl
@[push_cast] theorem s51 : (prog.underlying 51).isSome = true := by kernel_rfl
@[push_cast] theorem i51 : (prog.info? 51).isSome = true := by kernel_rfl
@[push_cast] theorem m51 : concreteB prog 51 = true := by kernel_rfl
@[push_cast] theorem a51 : elemOk prog 51 = true := by kernel_rfl
@[push_cast] theorem b51 : bytesOf prog 51 = 8 := by kernel_rfl
@[push_cast] theorem z51 : zeroD prog 51 = some ([.t (.v .nilFunc)]) := by kernel_rfl
@[push_cast] theorem c52 : prog.cellsOf 52 = 1 := by kernel_rfl
@[push_cast] theorem g52 : isAggB prog 52 = false := by kernel_rfl
@[push_cast] theorem s52 : (prog.underlying 52).isSome = true := by kernel_rfl
@[push_cast] theorem i52 : (prog.info? 52).isSome = true := by kernel_rfl
@[push_cast] theorem m52 : concreteB prog 52 = true := by kernel_rfl
@[push_cast] theorem a52 : elemOk prog 52 = true := by kernel_rfl
@[push_cast] theorem b52 : bytesOf prog 52 = 8 := by kernel_rfl
@[push_cast] theorem z52 : zeroD prog 52 = some ([.t (.v (.int .u64 0))]) := by kernel_rfl
@[push_cast] theorem u52 : prog.underlying 52 = some (.int .u64) := by kernel_rfl
@[push_cast] theorem c53 : prog.cellsOf 53 = 1 := by kernel_rfl
@[push_cast] theorem g53 : isAggB prog 53 = false := by kernel_rfl
@[push_cast] theorem s53 : (prog.underlying 53).isSome = true := by kernel_rfl
@[push_cast] theorem i53 : (prog.info? 53).isSome = true := by kernel_rfl
@[push_cast] theorem m53 : concreteB prog 53 = true := by kernel_rfl
@[push_cast] theorem a53 : elemOk prog 53 = true := by kernel_rfl
@[push_cast] theorem b53 : bytesOf prog 53 = 8 := by kernel_rfl
@[push_cast] theorem z53 : zeroD prog 53 = some ([.t (.v .nilFunc)]) := by kernel_rfl
@[push_cast] theorem c54 : prog.cellsOf 54 = 1 := by kernel_rfl
@[push_cast] theorem g54 : isAggB prog 54 = false := by kernel_rfl
@[push_cast] theorem s54 : (prog.underlying 54).isSome = true := by kernel_rfl
@[push_cast] theorem i54 : (prog.info? 54).isSome = true := by kernel_rfl
@[push_cast] theorem m54 : concreteB prog 54 = true := by kernel_rfl
@[push_cast] theorem a54 : elemOk prog 54 = true := by kernel_rfl
@[push_cast] theorem b54 : bytesOf prog 54 = 8 := by kernel_rfl
@[push_cast] theorem z54 : zeroD prog 54 = some ([.t (.v .nilFunc)]) := by kernel_rfl
@[push_cast] theorem c55 : prog.cellsOf 55 = 1 := by kernel_rfl
@[push_cast] theorem g55 : isAggB prog 55 = false := by kernel_rfl
@[push_cast] theorem s55 : (prog.underlying 55).isSome = true := by kernel_rfl
@[push_cast] theorem i55 : (prog.info? 55).isSome = true := by kernel_rfl
@[push_cast] theorem m55 : concreteB prog 55 = true := by kernel_rfl
@[push_cast] theorem a55 : elemOk prog 55 = true := by kernel_rfl
@[push_cast] theorem b55 : bytesOf prog 55 = 24 := by kernel_rfl
@[push_cast] theorem z55 : zeroD prog 55 = some ([.t (.v (.slice none 0 0))]) := by kernel_rfl
@[push_cast] theorem u55 : prog.underlying 55 = some (.slice 59) := by kernel_rfl
@[push_cast] theorem e55 : prog.elem 55 = 59 := by kernel_rfl
@[push_cast] theorem c56 : prog.cellsOf 56 = 2 := by kernel_rfl
@[push_cast] theorem g56 : isAggB prog 56 = true := by kernel_rfl
@[push_cast] theorem s56 : (prog.underlying 56).isSome = true := by kernel_rfl
@[push_cast] theorem i56 : (prog.info? 56).isSome = true := by kernel_rfl
@[push_cast] theorem m56 : concreteB prog 56 = true := by kernel_rfl
@[push_cast] theorem a56 : elemOk prog 56 = true := by kernel_rfl
@[push_cast] theorem b56 : bytesOf prog 56 = 24 := by kernel_rfl
@[push_cast] theorem z56 : zeroD prog 56 = some ([.t (.v (.int .i64 0)), .t (.v (.string ⟨#[]⟩))]) := by kernel_rfl
@[push_cast] theorem f56_0 : fieldOf prog 56 0 = some (0, 1, 3) := by kernel_rfl
@[push_cast] theorem q56_0 : placeOf prog 56 0 = some (0, 1) := by kernel_rfl
@[push_cast] theorem f56_1 : fieldOf prog 56 1 = some (1, 1, 9) := by kernel_rfl
@[push_cast] theorem q56_1 : placeOf prog 56 1 = some (1, 1) := by kernel_rfl
@[push_cast] theorem p56 : placesOk prog 56 = true := by kernel_rfl
@[push_cast] theorem c57 : prog.cellsOf 57 = 2 := by kernel_rfl
@[push_cast] theorem g57 : isAggB prog 57 = true := by kernel_rfl
@[push_cast] theorem s57 : (prog.underlying 57).isSome = true := by kernel_rfl
@[push_cast] theorem i57 : (prog.info? 57).isSome = true := by kernel_rfl
@[push_cast] theorem m57 : concreteB prog 57 = true := by kernel_rfl
@[push_cast] theorem a57 : elemOk prog 57 = true := by kernel_rfl
@[push_cast] theorem b57 : bytesOf prog 57 = 24 := by kernel_rfl
@[push_cast] theorem z57 : zeroD prog 57 = some ([.t (.v (.int .i64 0)), .t (.v (.string ⟨#[]⟩))]) := by kernel_rfl
@[push_cast] theorem f57_0 : fieldOf prog 57 0 = some (0, 1, 3) := by kernel_rfl
@[push_cast] theorem q57_0 : placeOf prog 57 0 = some (0, 1) := by kernel_rfl
@[push_cast] theorem f57_1 : fieldOf prog 57 1 = some (1, 1, 9) := by kernel_rfl
@[push_cast] theorem q57_1 : placeOf prog 57 1 = some (1, 1) := by kernel_rfl
@[push_cast] theorem p57 : placesOk prog 57 = true := by kernel_rfl
@[push_cast] theorem c58 : prog.cellsOf 58 = 4 := by kernel_rfl
@[push_cast] theorem g58 : isAggB prog 58 = true := by kernel_rfl
@[push_cast] theorem s58 : (prog.underlying 58).isSome = true := by kernel_rfl
@[push_cast] theorem i58 : (prog.info? 58).isSome = true := by kernel_rfl
@[push_cast] theorem m58 : concreteB prog 58 = true := by kernel_rfl
@[push_cast] theorem a58 : elemOk prog 58 = true := by kernel_rfl
@[push_cast] theorem b58 : bytesOf prog 58 = 56 := by kernel_rfl
@[push_cast] theorem z58 : zeroD prog 58 = some ([.t (.v (.int .i64 0)), .t (.v (.int .i64 0)), .t (.v (.string ⟨#[]⟩)), .t (.v (.slice none 0 0))]) := by kernel_rfl
@[push_cast] theorem f58_0 : fieldOf prog 58 0 = some (0, 1, 3) := by kernel_rfl
@[push_cast] theorem q58_0 : placeOf prog 58 0 = some (0, 1) := by kernel_rfl
@[push_cast] theorem f58_1 : fieldOf prog 58 1 = some (1, 1, 3) := by kernel_rfl
@[push_cast] theorem q58_1 : placeOf prog 58 1 = some (1, 1) := by kernel_rfl
@[push_cast] theorem f58_2 : fieldOf prog 58 2 = some (2, 1, 9) := by kernel_rfl
@[push_cast] theorem q58_2 : placeOf prog 58 2 = some (2, 1) := by kernel_rfl
@[push_cast] theorem f58_3 : fieldOf prog 58 3 = some (3, 1, 55) := by kernel_rfl
@[push_cast] theorem q58_3 : placeOf prog 58 3 = some (3, 1) := by kernel_rfl
@[push_cast] theorem p58 : placesOk prog 58 = true := by kernel_rfl
@[push_cast] theorem c59 : prog.cellsOf 59 = 4 := by kernel_rfl
@[push_cast] theorem g59 : isAggB prog 59 = true := by kernel_rfl
@[push_cast] theorem s59 : (prog.underlying 59).isSome = true := by kernel_rfl
@[push_cast] theorem i59 : (prog.info? 59).isSome = true := by kernel_rfl
@[push_cast] theorem m59 : concreteB prog 59 = true := by kernel_rfl
@[push_cast] theorem a59 : elemOk prog 59 = true := by kernel_rfl
@[push_cast] theorem b59 : bytesOf prog 59 = 56 := by kernel_rfl
@[push_cast] theorem z59 : zeroD prog 59 = some ([.t (.v (.int .i64 0)), .t (.v (.int .i64 0)), .t (.v (.string ⟨#[]⟩)), .t (.v (.slice none 0 0))]) := by kernel_rfl
@[push_cast] theorem f59_0 : fieldOf prog 59 0 = some (0, 1, 3) := by kernel_rfl
@[push_cast] theorem q59_0 : placeOf prog 59 0 = some (0, 1) := by kernel_rfl
@[push_cast] theorem f59_1 : fieldOf prog 59 1 = some (1, 1, 3) := by kernel_rfl
@[push_cast] theorem q59_1 : placeOf prog 59 1 = some (1, 1) := by kernel_rfl
@[push_cast] theorem f59_2 : fieldOf prog 59 2 = some (2, 1, 9) := by kernel_rfl
@[push_cast] theorem q59_2 : placeOf prog 59 2 = some (2, 1) := by kernel_rfl
@[push_cast] theorem f59_3 : fieldOf prog 59 3 = some (3, 1, 55) := by kernel_rfl
@[push_cast] theorem q59_3 : placeOf prog 59 3 = some (3, 1) := by kernel_rfl
@[push_cast] theorem p59 : placesOk prog 59 = true := by kernel_rfl
@[push_cast] theorem c60 : prog.cellsOf 60 = 1 := by kernel_rfl
@[push_cast] theorem g60 : isAggB prog 60 = false := by kernel_rfl
@[push_cast] theorem s60 : (prog.underlying 60).isSome = true := by kernel_rfl
@[push_cast] theorem i60 : (prog.info? 60).isSome = true := by kernel_rfl
@[push_cast] theorem m60 : concreteB prog 60 = true := by kernel_rfl
@[push_cast] theorem a60 : elemOk prog 60 = true := by kernel_rfl
@[push_cast] theorem b60 : bytesOf prog 60 = 8 := by kernel_rfl
@[push_cast] theorem z60 : zeroD prog 60 = some ([.t (.v .nilFunc)]) := by kernel_rfl
@[push_cast] theorem c61 : prog.cellsOf 61 = 1 := by kernel_rfl
@[push_cast] theorem g61 : isAggB prog 61 = false := by kernel_rfl
@[push_cast] theorem s61 : (prog.underlying 61).isSome = true := by kernel_rfl
@[push_cast] theorem i61 : (prog.info? 61).isSome = true := by kernel_rfl
@[push_cast] theorem m61 : concreteB prog 61 = true := by kernel_rfl
@[push_cast] theorem a61 : elemOk prog 61 = true := by kernel_rfl
@[push_cast] theorem b61 : bytesOf prog 61 = 8 := by kernel_rfl
@[push_cast] theorem z61 : zeroD prog 61 = some ([.t (.v .nilFunc)]) := by kernel_rfl
@[push_cast] theorem c62 : prog.cellsOf 62 = 1 := by kernel_rfl
@[push_cast] theorem g62 : isAggB prog 62 = false := by kernel_rfl
@[push_cast] theorem s62 : (prog.underlying 62).isSome = true := by kernel_rfl
@[push_cast] theorem i62 : (prog.info? 62).isSome = true := by kernel_rfl
@[push_cast] theorem m62 : concreteB prog 62 = true := by kernel_rfl
@[push_cast] theorem a62 : elemOk prog 62 = true := by kernel_rfl
@[push_cast] theorem b62 : bytesOf prog 62 = 8 := by kernel_rfl
@[push_cast] theorem z62 : zeroD prog 62 = some ([.t (.v .nilFunc)]) := by kernel_rfl
@[push_cast] theorem c63 : prog.cellsOf 63 = 1 := by kernel_rfl
@[push_cast] theorem g63 : isAggB prog 63 = false := by kernel_rfl
@[push_cast] theorem s63 : (prog.underlying 63).isSome = true := by kernel_rfl
@[push_cast] theorem i63 : (prog.info? 63).isSome = true := by kernel_rfl
@[push_cast] theorem m63 : concreteB prog 63 = true := by kernel_rfl
@[push_cast] theorem a63 : elemOk prog 63 = true := by kernel_rfl
@[push_cast] theorem b63 : bytesOf prog 63 = 8 := by kernel_rfl
@[push_cast] theorem z63 : zeroD prog 63 = some ([.t (.v .nilFunc)]) := by kernel_rfl
@[push_cast] theorem c65 : prog.cellsOf 65 = 1 := by kernel_rfl
@[push_cast] theorem g65 : isAggB prog 65 = false := by kernel_rfl
@[push_cast] theorem s65 : (prog.underlying 65).isSome = true := by kernel_rfl
@[push_cast] theorem i65 : (prog.info? 65).isSome = true := by kernel_rfl
@[push_cast] theorem m65 : concreteB prog 65 = true := by kernel_rfl
@[push_cast] theorem a65 : elemOk prog 65 = true := by kernel_rfl
@[push_cast] theorem b65 : bytesOf prog 65 = 8 := by kernel_rfl
@[push_cast] theorem z65 : zeroD prog 65 = some ([.t (.v .nilFunc)]) := by kernel_rfl
@[push_cast] theorem c66 : prog.cellsOf 66 = 1 := by kernel_rfl
@[push_cast] theorem g66 : isAggB prog 66 = false := by kernel_rfl
@[push_cast] theorem s66 : (prog.underlying 66).isSome = true := by kernel_rfl
@[push_cast] theorem i66 : (prog.info? 66).isSome = true := by kernel_rfl
@[push_cast] theorem m66 : concreteB prog 66 = true := by kernel_rfl
@[push_cast] theorem a66 : elemOk prog 66 = true := by kernel_rfl
@[push_cast] theorem b66 : bytesOf prog 66 = 24 := by kernel_rfl
@[push_cast] theorem z66 : zeroD prog 66 = some ([.t (.v (.slice none 0 0))]) := by kernel_rfl
@[push_cast] theorem u66 : prog.underlying 66 = some (.slice 9) := by kernel_rfl
@[push_cast] theorem e66 : prog.elem 66 = 9 := by kernel_rfl
@[push_cast] theorem c67 : prog.cellsOf 67 = 1 := by kernel_rfl
@[push_cast] theorem g67 : isAggB prog 67 = false := by kernel_rfl
@[push_cast] theorem s67 : (prog.underlying 67).isSome = true := by kernel_rfl
@[push_cast] theorem i67 : (prog.info? 67).isSome = true := by kernel_rfl
@[push_cast] theorem m67 : concreteB prog 67 = true := by kernel_rfl
@[push_cast] theorem a67 : elemOk prog 67 = true := by kernel_rfl
@[push_cast] theorem b67 : bytesOf prog 67 = 8 := by kernel_rfl
@[push_cast] theorem z67 : zeroD prog 67 = some ([.t (.v .nilFunc)]) := by kernel_rfl
@[push_cast] theorem c68 : prog.cellsOf 68 = 1 := by kernel_rfl
@[push_cast] theorem g68 : isAggB prog 68 = false := by kernel_rfl
@[push_cast] theorem s68 : (prog.underlying 68).isSome = true := by kernel_rfl
@[push_cast] theorem i68 : (prog.info? 68).isSome = true := by kernel_rfl
@[push_cast] theorem m68 : concreteB prog 68 = true := by kernel_rfl
@[push_cast] theorem a68 : elemOk prog 68 = true := by kernel_rfl
@[push_cast] theorem b68 : bytesOf prog 68 = 8 := by kernel_rfl
@[push_cast] theorem z68 : zeroD prog 68 = some ([.t (.v (.int .u64 0))]) := by kernel_rfl
@[push_cast] theorem u68 : prog.underlying 68 = some (.int .u64) := by kernel_rfl
@[push_cast] theorem c69 : prog.cellsOf 69 = 1 := by kernel_rfl
@[push_cast] theorem g69 : isAggB prog 69 = false := by kernel_rfl
@[push_cast] theorem s69 : (prog.underlying 69).isSome = true := by kernel_rfl
@[push_cast] theorem i69 : (prog.info? 69).isSome = true := by kernel_rfl
@[push_cast] theorem m69 : concreteB prog 69 = true := by kernel_rfl
@[push_cast] theorem a69 : elemOk prog 69 = true := by kernel_rfl
@[push_cast] theorem b69 : bytesOf prog 69 = 8 := by kernel_rfl
@[push_cast] theorem z69 : zeroD prog 69 = some ([.t (.v .nilFunc)]) := by kernel_rfl
@[push_cast] theorem c70 : prog.cellsOf 70 = 8 := by kernel_rfl
@[push_cast] theorem g70 : isAggB prog 70 = true := by kernel_rfl
@[push_cast] theorem s70 : (prog.underlying 70).isSome = true := by kernel_rfl
@[push_cast] theorem i70 : (prog.info? 70).isSome = true := by kernel_rfl
@[push_cast] theorem m70 : concreteB prog 70 = true := by kernel_rfl
@[push_cast] theorem a70 : elemOk prog 70 = true := by kernel_rfl
@[push_cast] theorem b70 : bytesOf prog 70 = 32 := by kernel_rfl
@[push_cast] theorem z70 : zeroD prog 70 = some ([.t (.v (.int .u32 0)), .t (.v (.int .u32 0)), .t (.v (.int .u32 0)), .t (.v (.int .u32 0)), .t (.v (.int .u32 0)), .t (.v (.int .u32 0)), .t (.v (.int .u32 0)), .t (.v (.int .u32 0))]) := by kernel_rfl
@[push_cast] theorem u70 : prog.underlying 70 = some (.array 8 49) := by kernel_rfl
@[push_cast] theorem e70 : prog.elem 70 = 49 := by kernel_rfl
@[push_cast] theorem l70 : prog.arrayLen 70 = 8 := by kernel_rfl
@[push_cast] theorem p70 : placesOk prog 70 = true := by kernel_rfl
@[push_cast] theorem q70 (i : Nat) : placeOf prog 70 i = some (i * 1, 1) := by rw [placeOf_arr u70, c49]
@[push_cast] theorem c71 : prog.cellsOf 71 = 1 := by kernel_rfl
@[push_cast] theorem g71 : isAggB prog 71 = false := by kernel_rfl
@[push_cast] theorem s71 : (prog.underlying 71).isSome = true := by kernel_rfl
@[push_cast] theorem i71 : (prog.info? 71).isSome = true := by kernel_rfl
@[push_cast] theorem m71 : concreteB prog 71 = true := by kernel_rfl
@[push_cast] theorem a71 : elemOk prog 71 = true := by kernel_rfl
@[push_cast] theorem b71 : bytesOf prog 71 = 8 := by kernel_rfl
@[push_cast] theorem z71 : zeroD prog 71 = some ([.t (.v .nilFunc)]) := by kernel_rfl
@[push_cast] theorem c72 : prog.cellsOf 72 = 64 := by kernel_rfl
@[push_cast] theorem g72 : isAggB prog 72 = true := by kernel_rfl
@[push_cast] theorem s72 : (prog.underlying 72).isSome = true := by kernel_rfl
@[push_cast] theorem i72 : (prog.info? 72).isSome = true := by kernel_rfl
@[push_cast] theorem m72 : concreteB prog 72 = true := by kernel_rfl
@[push_cast] theorem a72 : elemOk prog 72 = true := by kernel_rfl
@[push_cast] theorem b72 : bytesOf prog 72 = 256 := by kernel_rfl
@[push_cast] theorem z72 : zeroD prog 72 = some (List.replicate 64 (.t (.v (.int .u32 0)))) := by kernel_rfl
@[push_cast] theorem u72 : prog.underlying 72 = some (.array 64 49) := by kernel_rfl
@[push_cast] theorem e72 : prog.elem 72 = 49 := by kernel_rfl
@[push_cast] theorem l72 : prog.arrayLen 72 = 64 := by kernel_rfl
@[push_cast] theorem p72 : placesOk prog 72 = true := by kernel_rfl
@[push_cast] theorem q72 (i : Nat) : placeOf prog 72 i = some (i * 1, 1) := by rw [placeOf_arr u72, c49]
@[push_cast] theorem c73 : prog.cellsOf 73 = 1 := by kernel_rfl
@[push_cast] theorem g73 : isAggB prog 73 = false := by kernel_rfl
@[push_cast] theorem s73 : (prog.underlying 73).isSome = true := by kernel_rfl
@[push_cast] theorem i73 : (prog.info? 73).isSome = true := by kernel_rfl
@[push_cast] theorem m73 : concreteB prog 73 = true := by kernel_rfl
@[push_cast] theorem a73 : elemOk prog 73 = true := by kernel_rfl
@[push_cast] theorem b73 : bytesOf prog 73 = 8 := by kernel_rfl
@[push_cast] theorem z73 : zeroD prog 73 = some ([.t (.v .nilFunc)]) := by kernel_rfl
@[push_cast] theorem c74 : prog.cellsOf 74 = 1 := by kernel_rfl
@[push_cast] theorem g74 : isAggB prog 74 = false := by kernel_rfl
@[push_cast] theorem s74 : (prog.underlying 74).isSome = true := by kernel_rfl
@[push_cast] theorem i74 : (prog.info? 74).isSome = true := by kernel_rfl
@[push_cast] theorem m74 : concreteB prog 74 = true := by kernel_rfl
@[push_cast] theorem a74 : elemOk prog 74 = true := by kernel_rfl
@[push_cast] theorem b74 : bytesOf prog 74 = 8 := by kernel_rfl
@[push_cast] theorem z74 : zeroD prog 74 = some ([.t (.v .nilFunc)]) := by kernel_rfl
@[push_cast] theorem c75 : prog.cellsOf 75 = 1 := by kernel_rfl
@[push_cast] theorem g75 : isAggB prog 75 = false := by kernel_rfl
@[push_cast] theorem s75 : (prog.underlying 75).isSome = true := by kernel_rfl
@[push_cast] theorem i75 : (prog.info? 75).isSome = true := by kernel_rfl
@[push_cast] theorem m75 : concreteB prog 75 = true := by kernel_rfl
@[push_cast] theorem a75 : elemOk prog 75 = true := by kernel_rfl
@[push_cast] theorem b75 : bytesOf prog 75 = 8 := by kernel_rfl
@[push_cast] theorem z75 : zeroD prog 75 = some ([.t (.v .nilFunc)]) := by kernel_rfl
@[push_cast] theorem c76 : prog.cellsOf 76 = 2 := by kernel_rfl
@[push_cast] theorem g76 : isAggB prog 76 = true := by kernel_rfl
@[push_cast] theorem s76 : (prog.underlying 76).isSome = true := by kernel_rfl
@[push_cast] theorem i76 : (prog.info? 76).isSome = true := by kernel_rfl
@[push_cast] theorem m76 : concreteB prog 76 = true := by kernel_rfl
@[push_cast] theorem a76 : elemOk prog 76 = true := by kernel_rfl
@[push_cast] theorem b76 : bytesOf prog 76 = 24 := by kernel_rfl
@[push_cast] theorem z76 : zeroD prog 76 = some ([.t (.v (.int .i64 0)), .t (.v .nilIface)]) := by kernel_rfl
@[push_cast] theorem f76_0 : fieldOf prog 76 0 = some (0, 1, 3) := by kernel_rfl
@[push_cast] theorem q76_0 : placeOf prog 76 0 = some (0, 1) := by kernel_rfl
@[push_cast] theorem f76_1 : fieldOf prog 76 1 = some (1, 1, 42) := by kernel_rfl
@[push_cast] theorem q76_1 : placeOf prog 76 1 = some (1, 1) := by kernel_rfl
@[push_cast] theorem p76 : placesOk prog 76 = true := by kernel_rfl
@[push_cast] theorem c77 : prog.cellsOf 77 = 2 := by kernel_rfl
@[push_cast] theorem g77 : isAggB prog 77 = true := by kernel_rfl
@[push_cast] theorem s77 : (prog.underlying 77).isSome = true := by kernel_rfl
@[push_cast] theorem i77 : (prog.info? 77).isSome = true := by kernel_rfl
@[push_cast] theorem m77 : concreteB prog 77 = true := by kernel_rfl
@[push_cast] theorem a77 : elemOk prog 77 = true := by kernel_rfl
@[push_cast] theorem b77 : bytesOf prog 77 = 24 := by kernel_rfl
@[push_cast] theorem z77 : zeroD prog 77 = some ([.t (.v (.int .i64 0)), .t (.v .nilIface)]) := by kernel_rfl
@[push_cast] theorem f77_0 : fieldOf prog 77 0 = some (0, 1, 3) := by kernel_rfl
@[push_cast] theorem q77_0 : placeOf prog 77 0 = some (0, 1) := by kernel_rfl
@[push_cast] theorem f77_1 : fieldOf prog 77 1 = some (1, 1, 42) := by kernel_rfl
@[push_cast] theorem q77_1 : placeOf prog 77 1 = some (1, 1) := by kernel_rfl
@[push_cast] theorem p77 : placesOk prog 77 = true := by kernel_rfl
@[push_cast] theorem c78 : prog.cellsOf 78 = 1 := by kernel_rfl
@[push_cast] theorem g78 : isAggB prog 78 = false := by kernel_rfl
@[push_cast] theorem s78 : (prog.underlying 78).isSome = true := by kernel_rfl
@[push_cast] theorem i78 : (prog.info? 78).isSome = true := by kernel_rfl
@[push_cast] theorem a78 : elemOk prog 78 = true := by kernel_rfl
@[push_cast] theorem b78 : bytesOf prog 78 = 16 := by kernel_rfl
@[push_cast] theorem z78 : zeroD prog 78 = some ([.t (.v .nilIface)]) := by kernel_rfl
@[push_cast] theorem u78 : prog.underlying 78 = some (.interface (prog.methodsAt 78)) := by kernel_rfl
@[push_cast] theorem c79 : prog.cellsOf 79 = 1 := by kernel_rfl
@[push_cast] theorem g79 : isAggB prog 79 = false := by kernel_rfl
@[push_cast] theorem s79 : (prog.underlying 79).isSome = true := by kernel_rfl
@[push_cast] theorem i79 : (prog.info? 79).isSome = true := by kernel_rfl
@[push_cast] theorem a79 : elemOk prog 79 = true := by kernel_rfl
@[push_cast] theorem b79 : bytesOf prog 79 = 16 := by kernel_rfl
@[push_cast] theorem z79 : zeroD prog 79 = some ([.t (.v .nilIface)]) := by kernel_rfl
@[push_cast] theorem u79 : prog.underlying 79 = some (.interface (prog.methodsAt 79)) := by kernel_rfl
@[push_cast] theorem c80 : prog.cellsOf 80 = 1 := by kernel_rfl
@[push_cast] theorem g80 : isAggB prog 80 = false := by kernel_rfl
@[push_cast] theorem s80 : (prog.underlying 80).isSome = true := by kernel_rfl
@[push_cast] theorem i80 : (prog.info? 80).isSome = true := by kernel_rfl
@[push_cast] theorem m80 : concreteB prog 80 = true := by kernel_rfl
@[push_cast] theorem a80 : elemOk prog 80 = true := by kernel_rfl
@[push_cast] theorem b80 : bytesOf prog 80 = 8 := by kernel_rfl
@[push_cast] theorem z80 : zeroD prog 80 = some ([.t (.v .nilFunc)]) := by kernel_rfl
@[push_cast] theorem c81 : prog.cellsOf 81 = 1 := by kernel_rfl
@[push_cast] theorem g81 : isAggB prog 81 = false := by kernel_rfl
@[push_cast] theorem s81 : (prog.underlying 81).isSome = true := by kernel_rfl
@[push_cast] theorem i81 : (prog.info? 81).isSome = true := by kernel_rfl
@[push_cast] theorem m81 : concreteB prog 81 = true := by kernel_rfl
@[push_cast] theorem a81 : elemOk prog 81 = true := by kernel_rfl
@[push_cast] theorem b81 : bytesOf prog 81 = 8 := by kernel_rfl
@[push_cast] theorem z81 : zeroD prog 81 = some ([.t (.v .nilFunc)]) := by kernel_rfl
@[push_cast] theorem c82 : prog.cellsOf 82 = 1 := by kernel_rfl
@[push_cast] theorem g82 : isAggB prog 82 = false := by kernel_rfl
@[push_cast] theorem s82 : (prog.underlying 82).isSome = true := by kernel_rfl
@[push_cast] theorem i82 : (prog.info? 82).isSome = true := by kernel_rfl
@[push_cast] theorem m82 : concreteB prog 82 = true := by kernel_rfl
@[push_cast] theorem a82 : elemOk prog 82 = true := by kernel_rfl
@[push_cast] theorem b82 : bytesOf prog 82 = 8 := by kernel_rfl
@[push_cast] theorem z82 : zeroD prog 82 = some ([.t (.v .nilFunc)]) := by kernel_rfl
@[push_cast] theorem c83 : prog.cellsOf 83 = 1 := by kernel_rfl
@[push_cast] theorem g83 : isAggB prog 83 = false := by kernel_rfl
@[push_cast] theorem s83 : (prog.underlying 83).isSome = true := by kernel_rfl
@[push_cast] theorem i83 : (prog.info? 83).isSome = true := by kernel_rfl
@[push_cast] theorem m83 : concreteB prog 83 = true := by kernel_rfl
@[push_cast] theorem a83 : elemOk prog 83 = true := by kernel_rfl
@[push_cast] theorem b83 : bytesOf prog 83 = 8 := by kernel_rfl
@[push_cast] theorem z83 : zeroD prog 83 = some ([.t (.v .nilFunc)]) := by kernel_rfl
@[push_cast] theorem c84 : prog.cellsOf 84 = 1 := by kernel_rfl
@[push_cast] theorem g84 : isAggB prog 84 = false := by kernel_rfl
@[push_cast] theorem s84 : (prog.underlying 84).isSome = true := by kernel_rfl
@[push_cast] theorem i84 : (prog.info? 84).isSome = true := by kernel_rfl
@[push_cast] theorem m84 : concreteB prog 84 = true := by kernel_rfl
@[push_cast] theorem a84 : elemOk prog 84 = true := by kernel_rfl
@[push_cast] theorem b84 : bytesOf prog 84 = 8 := by kernel_rfl
@[push_cast] theorem z84 : zeroD prog 84 = some ([.t (.v .nilFunc)]) := by kernel_rfl
@[push_cast] theorem c85 : prog.cellsOf 85 = 1 := by kernel_rfl
@[push_cast] theorem g85 : isAggB prog 85 = false := by kernel_rfl
@[push_cast] theorem s85 : (prog.underlying 85).isSome = true := by kernel_rfl
@[push_cast] theorem i85 : (prog.info? 85).isSome = true := by kernel_rfl
@[push_cast] theorem m85 : concreteB prog 85 = true := by kernel_rfl
@[push_cast] theorem a85 : elemOk prog 85 = true := by kernel_rfl
@[push_cast] theorem b85 : bytesOf prog 85 = 8 := by kernel_rfl
@[push_cast] theorem z85 : zeroD prog 85 = some ([.t (.v .nilFunc)]) := by kernel_rfl
@[push_cast] theorem c86 : prog.cellsOf 86 = 1 := by kernel_rfl
@[push_cast] theorem g86 : isAggB prog 86 = false := by kernel_rfl
@[push_cast] theorem s86 : (prog.underlying 86).isSome = true := by kernel_rfl
@[push_cast] theorem i86 : (prog.info? 86).isSome = true := by kernel_rfl
@[push_cast] theorem m86 : concreteB prog 86 = true := by kernel_rfl
@[push_cast] theorem a86 : elemOk prog 86 = true := by kernel_rfl
@[push_cast] theorem b86 : bytesOf prog 86 = 8 := by kernel_rfl
@[push_cast] theorem z86 : zeroD prog 86 = some ([.t (.v .nilFunc)]) := by kernel_rfl
@[push_cast] theorem c87 : prog.cellsOf 87 = 1 := by kernel_rfl
@[push_cast] theorem g87 : isAggB prog 87 = false := by kernel_rfl
@[push_cast] theorem s87 : (prog.underlying 87).isSome = true := by kernel_rfl
@[push_cast] theorem i87 : (prog.info? 87).isSome = true := by kernel_rfl
@[push_cast] theorem m87 : concreteB prog 87 = true := by kernel_rfl
@[push_cast] theorem a87 : elemOk prog 87 = true := by kernel_rfl
@[push_cast] theorem b87 : bytesOf prog 87 = 8 := by kernel_rfl
@[push_cast] theorem z87 : zeroD prog 87 = some ([.t (.v .nilFunc)]) := by kernel_rfl
@[push_cast] theorem c88 : prog.cellsOf 88 = 1 := by kernel_rfl
@[push_cast] theorem g88 : isAggB prog 88 = false := by kernel_rfl
@[push_cast] theorem s88 : (prog.underlying 88).isSome = true := by kernel_rfl
@[push_cast] theorem i88 : (prog.info? 88).isSome = true := by kernel_rfl
@[push_cast] theorem m88 : concreteB prog 88 = true := by kernel_rfl
@[push_cast] theorem a88 : elemOk prog 88 = true := by kernel_rfl
@[push_cast] theorem b88 : bytesOf prog 88 = 8 := by kernel_rfl
@[push_cast] theorem z88 : zeroD prog 88 = some ([.t (.v (.pointer none))]) := by kernel_rfl
@[push_cast] theorem c89 : prog.cellsOf 89 = 1 := by kernel_rfl
@[push_cast] theorem g89 : isAggB prog 89 = true := by kernel_rfl
@[push_cast] theorem s89 : (prog.underlying 89).isSome = true := by kernel_rfl
@[push_cast] theorem i89 : (prog.info? 89).isSome = true := by kernel_rfl
@[push_cast] theorem m89 : concreteB prog 89 = true := by kernel_rfl
@[push_cast] theorem a89 : elemOk prog 89 = true := by kernel_rfl
@[push_cast] theorem b89 : bytesOf prog 89 = 16 := by kernel_rfl
@[push_cast] theorem z89 : zeroD prog 89 = some ([.t (.v (.string ⟨#[]⟩))]) := by kernel_rfl
@[push_cast] theorem f89_0 : fieldOf prog 89 0 = some (0, 1, 9) := by kernel_rfl
@[push_cast] theorem q89_0 : placeOf prog 89 0 = some (0, 1) := by kernel_rfl
@[push_cast] theorem p89 : placesOk prog 89 = true := by kernel_rfl
@[push_cast] theorem c90 : prog.cellsOf 90 = 1 := by kernel_rfl
@[push_cast] theorem g90 : isAggB prog 90 = true := by kernel_rfl
@[push_cast] theorem s90 : (prog.underlying 90).isSome = true := by kernel_rfl
@[push_cast] theorem i90 : (prog.info? 90).isSome = true := by kernel_rfl
@[push_cast] theorem m90 : concreteB prog 90 = true := by kernel_rfl
@[push_cast] theorem a90 : elemOk prog 90 = true := by kernel_rfl
@[push_cast] theorem b90 : bytesOf prog 90 = 16 := by kernel_rfl
@[push_cast] theorem z90 : zeroD prog 90 = some ([.t (.v (.string ⟨#[]⟩))]) := by kernel_rfl
@[push_cast] theorem f90_0 : fieldOf prog 90 0 = some (0, 1, 9) := by kernel_rfl
@[push_cast] theorem q90_0 : placeOf prog 90 0 = some (0, 1) := by kernel_rfl
@[push_cast] theorem p90 : placesOk prog 90 = true := by kernel_rfl
@[push_cast] theorem c92 : prog.cellsOf 92 = 1 := by kernel_rfl
@[push_cast] theorem g92 : isAggB prog 92 = false := by kernel_rfl
@[push_cast] theorem s92 : (prog.underlying 92).isSome = true := by kernel_rfl
@[push_cast] theorem i92 : (prog.info? 92).isSome = true := by kernel_rfl
@[push_cast] theorem m92 : concreteB prog 92 = true := by kernel_rfl
@[push_cast] theorem a92 : elemOk prog 92 = true := by kernel_rfl
@[push_cast] theorem b92 : bytesOf prog 92 = 8 := by kernel_rfl
@[push_cast] theorem z92 : zeroD prog 92 = some ([.t (.v .nilFunc)]) := by kernel_rfl
@[push_cast] theorem c93 : prog.cellsOf 93 = 1 := by kernel_rfl
@[push_cast] theorem g93 : isAggB prog 93 = false := by kernel_rfl
@[push_cast] theorem s93 : (prog.underlying 93).isSome = true := by kernel_rfl
@[push_cast] theorem i93 : (prog.info? 93).isSome = true := by kernel_rfl
@[push_cast] theorem m93 : concreteB prog 93 = true := by kernel_rfl
@[push_cast] theorem a93 : elemOk prog 93 = true := by kernel_rfl
@[push_cast] theorem b93 : bytesOf prog 93 = 16 := by kernel_rfl
@[push_cast] theorem z93 : zeroD prog 93 = some ([.t (.v (.string ⟨#[]⟩))]) := by kernel_rfl
@[push_cast] theorem u93 : prog.underlying 93 = some .string := by kernel_rfl
@[push_cast] theorem c94 : prog.cellsOf 94 = 1 := by kernel_rfl
@[push_cast] theorem g94 : isAggB prog 94 = false := by kernel_rfl
@[push_cast] theorem s94 : (prog.underlying 94).isSome = true := by kernel_rfl
@[push_cast] theorem i94 : (prog.info? 94).isSome = true := by kernel_rfl
@[push_cast] theorem m94 : concreteB prog 94 = true := by kernel_rfl
@[push_cast] theorem a94 : elemOk prog 94 = true := by kernel_rfl
@[push_cast] theorem b94 : bytesOf prog 94 = 8 := by kernel_rfl
@[push_cast] theorem z94 : zeroD prog 94 = some ([.t (.v .nilFunc)]) := by kernel_rfl
@[push_cast] theorem c95 : prog.cellsOf 95 = 1 := by kernel_rfl
@[push_cast] theorem g95 : isAggB prog 95 = false := by kernel_rfl
@[push_cast] theorem s95 : (prog.underlying 95).isSome = true := by kernel_rfl
@[push_cast] theorem i95 : (prog.info? 95).isSome = true := by kernel_rfl
@[push_cast] theorem m95 : concreteB prog 95 = true := by kernel_rfl
@[push_cast] theorem a95 : elemOk prog 95 = true := by kernel_rfl
@[push_cast] theorem b95 : bytesOf prog 95 = 8 := by kernel_rfl
@[push_cast] theorem z95 : zeroD prog 95 = some ([.t (.v (.pointer none))]) := by kernel_rfl
@[push_cast] theorem c96 : prog.cellsOf 96 = 1 := by kernel_rfl
@[push_cast] theorem g96 : isAggB prog 96 = false := by kernel_rfl
@[push_cast] theorem s96 : (prog.underlying 96).isSome = true := by kernel_rfl
@[push_cast] theorem i96 : (prog.info? 96).isSome = true := by kernel_rfl
@[push_cast] theorem m96 : concreteB prog 96 = true := by kernel_rfl
@[push_cast] theorem a96 : elemOk prog 96 = true := by kernel_rfl
@[push_cast] theorem b96 : bytesOf prog 96 = 8 := by kernel_rfl
@[push_cast] theorem z96 : zeroD prog 96 = some ([.t (.v (.pointer none))]) := by kernel_rfl
@[push_cast] theorem c97 : prog.cellsOf 97 = 2 := by kernel_rfl
@[push_cast] theorem g97 : isAggB prog 97 = true := by kernel_rfl
@[push_cast] theorem s97 : (prog.underlying 97).isSome = true := by kernel_rfl
@[push_cast] theorem i97 : (prog.info? 97).isSome = true := by kernel_rfl
@[push_cast] theorem m97 : concreteB prog 97 = true := by kernel_rfl
@[push_cast] theorem a97 : elemOk prog 97 = true := by kernel_rfl
@[push_cast] theorem b97 : bytesOf prog 97 = 32 := by kernel_rfl
@[push_cast] theorem z97 : zeroD prog 97 = some ([.t (.v (.pointer none)), .t (.v (.slice none 0 0))]) := by kernel_rfl
@[push_cast] theorem f97_0 : fieldOf prog 97 0 = some (0, 1, 96) := by kernel_rfl
@[push_cast] theorem q97_0 : placeOf prog 97 0 = some (0, 1) := by kernel_rfl
@[push_cast] theorem f97_1 : fieldOf prog 97 1 = some (1, 1, 36) := by kernel_rfl
@[push_cast] theorem q97_1 : placeOf prog 97 1 = some (1, 1) := by kernel_rfl
@[push_cast] theorem p97 : placesOk prog 97 = true := by kernel_rfl
@[push_cast] theorem c98 : prog.cellsOf 98 = 2 := by kernel_rfl
@[push_cast] theorem g98 : isAggB prog 98 = true := by kernel_rfl
@[push_cast] theorem s98 : (prog.underlying 98).isSome = true := by kernel_rfl
@[push_cast] theorem i98 : (prog.info? 98).isSome = true := by kernel_rfl
@[push_cast] theorem m98 : concreteB prog 98 = true := by kernel_rfl
@[push_cast] theorem a98 : elemOk prog 98 = true := by kernel_rfl
@[push_cast] theorem b98 : bytesOf prog 98 = 32 := by kernel_rfl
@[push_cast] theorem z98 : zeroD prog 98 = some ([.t (.v (.pointer none)), .t (.v (.slice none 0 0))]) := by kernel_rfl
@[push_cast] theorem f98_0 : fieldOf prog 98 0 = some (0, 1, 96) := by kernel_rfl
@[push_cast] theorem q98_0 : placeOf prog 98 0 = some (0, 1) := by kernel_rfl
@[push_cast] theorem f98_1 : fieldOf prog 98 1 = some (1, 1, 36) := by kernel_rfl
@[push_cast] theorem q98_1 : placeOf prog 98 1 = some (1, 1) := by kernel_rfl
@[push_cast] theorem p98 : placesOk prog 98 = true := by kernel_rfl
@[push_cast] theorem c99 : prog.cellsOf 99 = 1 := by kernel_rfl
@[push_cast] theorem g99 : isAggB prog 99 = false := by kernel_rfl
@[push_cast] theorem s99 : (prog.underlying 99).isSome = true := by kernel_rfl
@[push_cast] theorem i99 : (prog.info? 99).isSome = true := by kernel_rfl
@[push_cast] theorem m99 : concreteB prog 99 = true := by kernel_rfl
@[push_cast] theorem a99 : elemOk prog 99 = true := by kernel_rfl
@[push_cast] theorem b99 : bytesOf prog 99 = 8 := by kernel_rfl
@[push_cast] theorem z99 : zeroD prog 99 = some ([.t (.v .nilFunc)]) := by kernel_rfl
@[push_cast] theorem c101 : prog.cellsOf 101 = 1 := by kernel_rfl
@[push_cast] theorem g101 : isAggB prog 101 = false := by kernel_rfl
@[push_cast] theorem s101 : (prog.underlying 101).isSome = true := by kernel_rfl
@[push_cast] theorem i101 : (prog.info? 101).isSome = true := by kernel_rfl
@[push_cast] theorem m101 : concreteB prog 101 = true := by kernel_rfl
@[push_cast] theorem a101 : elemOk prog 101 = true := by kernel_rfl
@[push_cast] theorem b101 : bytesOf prog 101 = 8 := by kernel_rfl
@[push_cast] theorem z101 : zeroD prog 101 = some ([.t (.v .nilFunc)]) := by kernel_rfl
@[push_cast] theorem c102 : prog.cellsOf 102 = 1 := by kernel_rfl
@[push_cast] theorem g102 : isAggB prog 102 = false := by kernel_rfl
@[push_cast] theorem s102 : (prog.underlying 102).isSome = true := by kernel_rfl
@[push_cast] theorem i102 : (prog.info? 102).isSome = true := by kernel_rfl
@[push_cast] theorem m102 : concreteB prog 102 = true := by kernel_rfl
@[push_cast] theorem a102 : elemOk prog 102 = true := by kernel_rfl
@[push_cast] theorem b102 : bytesOf prog 102 = 8 := by kernel_rfl
@[push_cast] theorem z102 : zeroD prog 102 = some ([.t (.v .nilFunc)]) := by kernel_rfl
@[push_cast] theorem c104 : prog.cellsOf 104 = 1 := by kernel_rfl
@[push_cast] theorem g104 : isAggB prog 104 = false := by kernel_rfl
@[push_cast] theorem s104 : (prog.underlying 104).isSome = true := by kernel_rfl
@[push_cast] theorem i104 : (prog.info? 104).isSome = true := by kernel_rfl
@[push_cast] theorem m104 : concreteB prog 104 = true := by kernel_rfl
@[push_cast] theorem a104 : elemOk prog 104 = true := by kernel_rfl
@[push_cast] theorem b104 : bytesOf prog 104 = 8 := by kernel_rfl
@[push_cast] theorem z104 : zeroD prog 104 = some ([.t (.v .nilFunc)]) := by kernel_rfl
@[push_cast] theorem c105 : prog.cellsOf 105 = 1 := by kernel_rfl
@[push_cast] theorem g105 : isAggB prog 105 = false := by kernel_rfl
@[push_cast] theorem s105 : (prog.underlying 105).isSome = true := by kernel_rfl
@[push_cast] theorem i105 : (prog.info? 105).isSome = true := by kernel_rfl
@[push_cast] theorem m105 : concreteB prog 105 = true := by kernel_rfl
@[push_cast] theorem a105 : elemOk prog 105 = true := by kernel_rfl
@[push_cast] theorem b105 : bytesOf prog 105 = 8 := by kernel_rfl
@[push_cast] theorem z105 : zeroD prog 105 = some ([.t (.v .nilFunc)]) := by kernel_rfl
@[push_cast] theorem c106 : prog.cellsOf 106 = 1 := by kernel_rfl
@[push_cast] theorem g106 : isAggB prog 106 = false := by kernel_rfl
@[push_cast] theorem s106 : (prog.underlying 106).isSome = true := by kernel_rfl
@[push_cast] theorem i106 : (prog.info? 106).isSome = true := by kernel_rfl
@[push_cast] theorem m106 : concreteB prog 106 = true := by kernel_rfl
@[push_cast] theorem a106 : elemOk prog 106 = true := by kernel_rfl
@[push_cast] theorem b106 : bytesOf prog 106 = 8 := by kernel_rfl
@[push_cast] theorem z106 : zeroD prog 106 = some ([.t (.v .nilFunc)]) := by kernel_rfl
@[push_cast] theorem c107 : prog.cellsOf 107 = 1 := by kernel_rfl
@[push_cast] theorem g107 : isAggB prog 107 = false := by kernel_rfl
@[push_cast] theorem s107 : (prog.underlying 107).isSome = true := by kernel_rfl
@[push_cast] theorem i107 : (prog.info? 107).isSome = true := by kernel_rfl
@[push_cast] theorem m107 : concreteB prog 107 = true := by kernel_rfl
@[push_cast] theorem a107 : elemOk prog 107 = true := by kernel_rfl
@[push_cast] theorem b107 : bytesOf prog 107 = 8 := by kernel_rfl
@[push_cast] theorem z107 : zeroD prog 107 = some ([.t (.v .nilFunc)]) := by kernel_rfl
@[push_cast] theorem c108 : prog.cellsOf 108 = 1 := by kernel_rfl
@[push_cast] theorem g108 : isAggB prog 108 = false := by kernel_rfl
@[push_cast] theorem s108 : (prog.underlying 108).isSome = true := by kernel_rfl
@[push_cast] theorem i108 : (prog.info? 108).isSome = true := by kernel_rfl
@[push_cast] theorem m108 : concreteB prog 108 = true := by kernel_rfl
@[push_cast] theorem a108 : elemOk prog 108 = true := by kernel_rfl
@[push_cast] theorem b108 : bytesOf prog 108 = 8 := by kernel_rfl
@[push_cast] theorem z108 : zeroD prog 108 = some ([.t (.v .nilFunc)]) := by kernel_rfl
@[push_cast] theorem c109 : prog.cellsOf 109 = 1 := by kernel_rfl
@[push_cast] theorem g109 : isAggB prog 109 = false := by kernel_rfl
@[push_cast] theorem s109 : (prog.underlying 109).isSome = true := by kernel_rfl
@[push_cast] theorem i109 : (prog.info? 109).isSome = true := by kernel_rfl
@[push_cast] theorem m109 : concreteB prog 109 = true := by kernel_rfl
@[push_cast] theorem a109 : elemOk prog 109 = true := by kernel_rfl
@[push_cast] theorem b109 : bytesOf prog 109 = 8 := by kernel_rfl
@[push_cast] theorem z109 : zeroD prog 109 = some ([.t (.v .nilFunc)]) := by kernel_rfl
@[push_cast] theorem c110 : prog.cellsOf 110 = 1 := by kernel_rfl
@[push_cast] theorem g110 : isAggB prog 110 = true := by kernel_rfl
@[push_cast] theorem s110 : (prog.underlying 110).isSome = true := by kernel_rfl
@[push_cast] theorem i110 : (prog.info? 110).isSome = true := by kernel_rfl
@[push_cast] theorem m110 : concreteB prog 110 = true := by kernel_rfl
@[push_cast] theorem a110 : elemOk prog 110 = true := by kernel_rfl
@[push_cast] theorem b110 : bytesOf prog 110 = 8 := by kernel_rfl
@[push_cast] theorem z110 : zeroD prog 110 = some ([.t (.v (.pointer none))]) := by kernel_rfl
@[push_cast] theorem f110_0 : fieldOf prog 110 0 = some (0, 1, 17) := by kernel_rfl
@[push_cast] theorem q110_0 : placeOf prog 110 0 = some (0, 1) := by kernel_rfl
@[push_cast] theorem p110 : placesOk prog 110 = true := by kernel_rfl
@[push_cast] theorem c111 : prog.cellsOf 111 = 1 := by kernel_rfl
@[push_cast] theorem g111 : isAggB prog 111 = true := by kernel_rfl
@[push_cast] theorem s111 : (prog.underlying 111).isSome = true := by kernel_rfl
@[push_cast] theorem i111 : (prog.info? 111).isSome = true := by kernel_rfl
@[push_cast] theorem m111 : concreteB prog 111 = true := by kernel_rfl
@[push_cast] theorem a111 : elemOk prog 111 = true := by kernel_rfl
@[push_cast] theorem b111 : bytesOf prog 111 = 8 := by kernel_rfl
@[push_cast] theorem z111 : zeroD prog 111 = some ([.t (.v (.pointer none))]) := by kernel_rfl
@[push_cast] theorem f111_0 : fieldOf prog 111 0 = some (0, 1, 17) := by kernel_rfl
@[push_cast] theorem q111_0 : placeOf prog 111 0 = some (0, 1) := by kernel_rfl
@[push_cast] theorem p111 : placesOk prog 111 = true := by kernel_rfl
@[push_cast] theorem c112 : prog.cellsOf 112 = 1 := by kernel_rfl
@[push_cast] theorem g112 : isAggB prog 112 = false := by kernel_rfl
@[push_cast] theorem s112 : (prog.underlying 112).isSome = true := by kernel_rfl
@[push_cast] theorem i112 : (prog.info? 112).isSome = true := by kernel_rfl
@[push_cast] theorem m112 : concreteB prog 112 = true := by kernel_rfl
@[push_cast] theorem a112 : elemOk prog 112 = true := by kernel_rfl
@[push_cast] theorem b112 : bytesOf prog 112 = 8 := by kernel_rfl
@[push_cast] theorem z112 : zeroD prog 112 = some ([.t (.v (.pointer none))]) := by kernel_rfl
@[push_cast] theorem c113 : prog.cellsOf 113 = 1 := by kernel_rfl
@[push_cast] theorem g113 : isAggB prog 113 = false := by kernel_rfl
@[push_cast] theorem s113 : (prog.underlying 113).isSome = true := by kernel_rfl
@[push_cast] theorem i113 : (prog.info? 113).isSome = true := by kernel_rfl
@[push_cast] theorem a113 : elemOk prog 113 = true := by kernel_rfl
@[push_cast] theorem b113 : bytesOf prog 113 = 16 := by kernel_rfl
@[push_cast] theorem z113 : zeroD prog 113 = some ([.t (.v .nilIface)]) := by kernel_rfl
@[push_cast] theorem u113 : prog.underlying 113 = some (.interface (prog.methodsAt 113)) := by kernel_rfl
@[push_cast] theorem c115 : prog.cellsOf 115 = 1 := by kernel_rfl
@[push_cast] theorem g115 : isAggB prog 115 = false := by kernel_rfl
@[push_cast] theorem s115 : (prog.underlying 115).isSome = true := by kernel_rfl
@[push_cast] theorem i115 : (prog.info? 115).isSome = true := by kernel_rfl
@[push_cast] theorem m115 : concreteB prog 115 = true := by kernel_rfl
@[push_cast] theorem a115 : elemOk prog 115 = true := by kernel_rfl
@[push_cast] theorem b115 : bytesOf prog 115 = 8 := by kernel_rfl
@[push_cast] theorem z115 : zeroD prog 115 = some ([.t (.v .nilFunc)]) := by kernel_rfl
@[push_cast] theorem c116 : prog.cellsOf 116 = 1 := by kernel_rfl
@[push_cast] theorem g116 : isAggB prog 116 = false := by kernel_rfl
@[push_cast] theorem s116 : (prog.underlying 116).isSome = true := by kernel_rfl
@[push_cast] theorem i116 : (prog.info? 116).isSome = true := by kernel_rfl
@[push_cast] theorem a116 : elemOk prog 116 = true := by kernel_rfl
@[push_cast] theorem b116 : bytesOf prog 116 = 16 := by kernel_rfl
@[push_cast] theorem z116 : zeroD prog 116 = some ([.t (.v .nilIface)]) := by kernel_rfl
@[push_cast] theorem u116 : prog.underlying 116 = some (.interface (prog.methodsAt 116)) := by kernel_rfl
@[push_cast] theorem c117 : prog.cellsOf 117 = 1 := by kernel_rfl
@[push_cast] theorem g117 : isAggB prog 117 = false := by kernel_rfl
@[push_cast] theorem s117 : (prog.underlying 117).isSome = true := by kernel_rfl
@[push_cast] theorem i117 : (prog.info? 117).isSome = true := by kernel_rfl
@[push_cast] theorem m117 : concreteB prog 117 = true := by kernel_rfl
@[push_cast] theorem a117 : elemOk prog 117 = true := by kernel_rfl
@[push_cast] theorem b117 : bytesOf prog 117 = 8 := by kernel_rfl
@[push_cast] theorem z117 : zeroD prog 117 = some ([.t (.v .nilFunc)]) := by kernel_rfl
@[push_cast] theorem c118 : prog.cellsOf 118 = 1 := by kernel_rfl
@[push_cast] theorem g118 : isAggB prog 118 = false := by kernel_rfl
@[push_cast] theorem s118 : (prog.underlying 118).isSome = true := by kernel_rfl
@[push_cast] theorem i118 : (prog.info? 118).isSome = true := by kernel_rfl
@[push_cast] theorem a118 : elemOk prog 118 = true := by kernel_rfl
@[push_cast] theorem b118 : bytesOf prog 118 = 16 := by kernel_rfl
@[push_cast] theorem z118 : zeroD prog 118 = some ([.t (.v .nilIface)]) := by kernel_rfl
@[push_cast] theorem u118 : prog.underlying 118 = some (.interface (prog.methodsAt 118)) := by kernel_rfl
@[push_cast] theorem c119 : prog.cellsOf 119 = 1 := by kernel_rfl
@[push_cast] theorem g119 : isAggB prog 119 = false := by kernel_rfl
@[push_cast] theorem s119 : (prog.underlying 119).isSome = true := by kernel_rfl
@[push_cast] theorem i119 : (prog.info? 119).isSome = true := by kernel_rfl
@[push_cast] theorem m119 : concreteB prog 119 = true := by kernel_rfl
@[push_cast] theorem a119 : elemOk prog 119 = true := by kernel_rfl
@[push_cast] theorem b119 : bytesOf prog 119 = 24 := by kernel_rfl
@[push_cast] theorem z119 : zeroD prog 119 = some ([.t (.v (.slice none 0 0))]) := by kernel_rfl
@[push_cast] theorem u119 : prog.underlying 119 = some (.slice 42) := by kernel_rfl
@[push_cast] theorem e119 : prog.elem 119 = 42 := by kernel_rfl
@[push_cast] theorem c120 : prog.cellsOf 120 = 1 := by kernel_rfl
@[push_cast] theorem g120 : isAggB prog 120 = false := by kernel_rfl
@[push_cast] theorem s120 : (prog.underlying 120).isSome = true := by kernel_rfl
@[push_cast] theorem i120 : (prog.info? 120).isSome = true := by kernel_rfl
@[push_cast] theorem m120 : concreteB prog 120 = true := by kernel_rfl
@[push_cast] theorem a120 : elemOk prog 120 = true := by kernel_rfl
@[push_cast] theorem b120 : bytesOf prog 120 = 8 := by kernel_rfl
@[push_cast] theorem z120 : zeroD prog 120 = some ([.t (.v .nilFunc)]) := by kernel_rfl
@[push_cast] theorem c121 : prog.cellsOf 121 = 1 := by kernel_rfl
@[push_cast] theorem g121 : isAggB prog 121 = false := by kernel_rfl
@[push_cast] theorem s121 : (prog.underlying 121).isSome = true := by kernel_rfl
@[push_cast] theorem i121 : (prog.info? 121).isSome = true := by kernel_rfl
@[push_cast] theorem m121 : concreteB prog 121 = true := by kernel_rfl
@[push_cast] theorem a121 : elemOk prog 121 = true := by kernel_rfl
@[push_cast] theorem b121 : bytesOf prog 121 = 8 := by kernel_rfl
@[push_cast] theorem z121 : zeroD prog 121 = some ([.t (.v .nilFunc)]) := by kernel_rfl
@[push_cast] theorem c122 : prog.cellsOf 122 = 1 := by kernel_rfl
@[push_cast] theorem g122 : isAggB prog 122 = false := by kernel_rfl
@[push_cast] theorem s122 : (prog.underlying 122).isSome = true := by kernel_rfl
@[push_cast] theorem i122 : (prog.info? 122).isSome = true := by kernel_rfl
@[push_cast] theorem m122 : concreteB prog 122 = true := by kernel_rfl
@[push_cast] theorem a122 : elemOk prog 122 = true := by kernel_rfl
@[push_cast] theorem b122 : bytesOf prog 122 = 8 := by kernel_rfl
@[push_cast] theorem z122 : zeroD prog 122 = some ([.t (.v .nilFunc)]) := by kernel_rfl
@[push_cast] theorem c123 : prog.cellsOf 123 = 1 := by kernel_rfl
@[push_cast] theorem g123 : isAggB prog 123 = false := by kernel_rfl
@[push_cast] theorem s123 : (prog.underlying 123).isSome = true := by kernel_rfl
@[push_cast] theorem i123 : (prog.info? 123).isSome = true := by kernel_rfl
@[push_cast] theorem m123 : concreteB prog 123 = true := by kernel_rfl
@[push_cast] theorem a123 : elemOk prog 123 = true := by kernel_rfl
@[push_cast] theorem b123 : bytesOf prog 123 = 8 := by kernel_rfl
@[push_cast] theorem z123 : zeroD prog 123 = some ([.t (.v .nilFunc)]) := by kernel_rfl
@[push_cast] theorem c125 : prog.cellsOf 125 = 1 := by kernel_rfl
@[push_cast] theorem g125 : isAggB prog 125 = false := by kernel_rfl
@[push_cast] theorem s125 : (prog.underlying 125).isSome = true := by kernel_rfl
@[push_cast] theorem i125 : (prog.info? 125).isSome = true := by kernel_rfl
@[push_cast] theorem m125 : concreteB prog 125 = true := by kernel_rfl
@[push_cast] theorem a125 : elemOk prog 125 = true := by kernel_rfl
@[push_cast] theorem b125 : bytesOf prog 125 = 8 := by kernel_rfl
@[push_cast] theorem z125 : zeroD prog 125 = some ([.t (.v .nilFunc)]) := by kernel_rfl
@[push_cast] theorem c127 : prog.cellsOf 127 = 1 := by kernel_rfl
@[push_cast] theorem g127 : isAggB prog 127 = false := by kernel_rfl
@[push_cast] theorem s127 : (prog.underlying 127).isSome = true := by kernel_rfl
@[push_cast] theorem i127 : (prog.info? 127).isSome = true := by kernel_rfl
@[push_cast] theorem m127 : concreteB prog 127 = true := by kernel_rfl
@[push_cast] theorem a127 : elemOk prog 127 = true := by kernel_rfl
@[push_cast] theorem b127 : bytesOf prog 127 = 8 := by kernel_rfl
@[push_cast] theorem z127 : zeroD prog 127 = some ([.t (.v .nilFunc)]) := by kernel_rfl
@[push_cast] theorem c128 : prog.cellsOf 128 = 2 := by kernel_rfl
@[push_cast] theorem g128 : isAggB prog 128 = true := by kernel_rfl
@[push_cast] theorem s128 : (prog.underlying 128).isSome = true := by kernel_rfl
@[push_cast] theorem i128 : (prog.info? 128).isSome = true := by kernel_rfl
@[push_cast] theorem m128 : concreteB prog 128 = true := by kernel_rfl
@[push_cast] theorem a128 : elemOk prog 128 = true := by kernel_rfl
@[push_cast] theorem b128 : bytesOf prog 128 = 24 := by kernel_rfl
@[push_cast] theorem z128 : zeroD prog 128 = some ([.t (.v (.int .i64 0)), .t (.v .nilIface)]) := by kernel_rfl
@[push_cast] theorem f128_0 : fieldOf prog 128 0 = some (0, 1, 3) := by kernel_rfl
@[push_cast] theorem q128_0 : placeOf prog 128 0 = some (0, 1) := by kernel_rfl
@[push_cast] theorem f128_1 : fieldOf prog 128 1 = some (1, 1, 42) := by kernel_rfl
@[push_cast] theorem q128_1 : placeOf prog 128 1 = some (1, 1) := by kernel_rfl
@[push_cast] theorem p128 : placesOk prog 128 = true := by kernel_rfl
@[push_cast] theorem c129 : prog.cellsOf 129 = 2 := by kernel_rfl
@[push_cast] theorem g129 : isAggB prog 129 = true := by kernel_rfl
@[push_cast] theorem s129 : (prog.underlying 129).isSome = true := by kernel_rfl
@[push_cast] theorem i129 : (prog.info? 129).isSome = true := by kernel_rfl
@[push_cast] theorem m129 : concreteB prog 129 = true := by kernel_rfl
@[push_cast] theorem a129 : elemOk prog 129 = true := by kernel_rfl
@[push_cast] theorem b129 : bytesOf prog 129 = 24 := by kernel_rfl
@[push_cast] theorem z129 : zeroD prog 129 = some ([.t (.v (.int .i64 0)), .t (.v .nilIface)]) := by kernel_rfl
@[push_cast] theorem f129_0 : fieldOf prog 129 0 = some (0, 1, 3) := by kernel_rfl
@[push_cast] theorem q129_0 : placeOf prog 129 0 = some (0, 1) := by kernel_rfl
@[push_cast] theorem f129_1 : fieldOf prog 129 1 = some (1, 1, 42) := by kernel_rfl
@[push_cast] theorem q129_1 : placeOf prog 129 1 = some (1, 1) := by kernel_rfl
@[push_cast] theorem p129 : placesOk prog 129 = true := by kernel_rfl
@[push_cast] theorem c130 : prog.cellsOf 130 = 1 := by kernel_rfl
@[push_cast] theorem g130 : isAggB prog 130 = false := by kernel_rfl
@[push_cast] theorem s130 : (prog.underlying 130).isSome = true := by kernel_rfl
@[push_cast] theorem i130 : (prog.info? 130).isSome = true := by kernel_rfl
@[push_cast] theorem m130 : concreteB prog 130 = true := by kernel_rfl
@[push_cast] theorem a130 : elemOk prog 130 = true := by kernel_rfl
@[push_cast] theorem b130 : bytesOf prog 130 = 8 := by kernel_rfl
@[push_cast] theorem z130 : zeroD prog 130 = some ([.t (.v (.pointer none))]) := by kernel_rfl
@[push_cast] theorem c131 : prog.cellsOf 131 = 1 := by kernel_rfl
@[push_cast] theorem g131 : isAggB prog 131 = false := by kernel_rfl
@[push_cast] theorem s131 : (prog.underlying 131).isSome = true := by kernel_rfl
@[push_cast] theorem i131 : (prog.info? 131).isSome = true := by kernel_rfl
@[push_cast] theorem m131 : concreteB prog 131 = true := by kernel_rfl
@[push_cast] theorem a131 : elemOk prog 131 = true := by kernel_rfl
@[push_cast] theorem b131 : bytesOf prog 131 = 8 := by kernel_rfl
@[push_cast] theorem z131 : zeroD prog 131 = some ([.t (.v (.int .u64 0))]) := by kernel_rfl
@[push_cast] theorem u131 : prog.underlying 131 = some (.int .u64) := by kernel_rfl
@[push_cast] theorem c132 : prog.cellsOf 132 = 3 := by kernel_rfl
@[push_cast] theorem g132 : isAggB prog 132 = true := by kernel_rfl
@[push_cast] theorem s132 : (prog.underlying 132).isSome = true := by kernel_rfl
@[push_cast] theorem i132 : (prog.info? 132).isSome = true := by kernel_rfl
@[push_cast] theorem m132 : concreteB prog 132 = true := by kernel_rfl
@[push_cast] theorem a132 : elemOk prog 132 = true := by kernel_rfl
@[push_cast] theorem b132 : bytesOf prog 132 = 24 := by kernel_rfl
@[push_cast] theorem z132 : zeroD prog 132 = some ([.t (.v (.pointer none)), .t (.v (.pointer none)), .t (.v (.int .u64 0))]) := by kernel_rfl
@[push_cast] theorem f132_0 : fieldOf prog 132 0 = some (0, 1, 17) := by kernel_rfl
@[push_cast] theorem q132_0 : placeOf prog 132 0 = some (0, 1) := by kernel_rfl
@[push_cast] theorem f132_1 : fieldOf prog 132 1 = some (1, 1, 130) := by kernel_rfl
@[push_cast] theorem q132_1 : placeOf prog 132 1 = some (1, 1) := by kernel_rfl
@[push_cast] theorem f132_2 : fieldOf prog 132 2 = some (2, 1, 131) := by kernel_rfl
@[push_cast] theorem q132_2 : placeOf prog 132 2 = some (2, 1) := by kernel_rfl
@[push_cast] theorem p132 : placesOk prog 132 = true := by kernel_rfl
@[push_cast] theorem c133 : prog.cellsOf 133 = 3 := by kernel_rfl
@[push_cast] theorem g133 : isAggB prog 133 = true := by kernel_rfl
@[push_cast] theorem s133 : (prog.underlying 133).isSome = true := by kernel_rfl
@[push_cast] theorem i133 : (prog.info? 133).isSome = true := by kernel_rfl
@[push_cast] theorem m133 : concreteB prog 133 = true := by kernel_rfl
@[push_cast] theorem a133 : elemOk prog 133 = true := by kernel_rfl
@[push_cast] theorem b133 : bytesOf prog 133 = 24 := by kernel_rfl
@[push_cast] theorem z133 : zeroD prog 133 = some ([.t (.v (.pointer none)), .t (.v (.pointer none)), .t (.v (.int .u64 0))]) := by kernel_rfl
@[push_cast] theorem f133_0 : fieldOf prog 133 0 = some (0, 1, 17) := by kernel_rfl
@[push_cast] theorem q133_0 : placeOf prog 133 0 = some (0, 1) := by kernel_rfl
@[push_cast] theorem f133_1 : fieldOf prog 133 1 = some (1, 1, 130) := by kernel_rfl
@[push_cast] theorem q133_1 : placeOf prog 133 1 = some (1, 1) := by kernel_rfl
@[push_cast] theorem f133_2 : fieldOf prog 133 2 = some (2, 1, 131) := by kernel_rfl
@[push_cast] theorem q133_2 : placeOf prog 133 2 = some (2, 1) := by kernel_rfl
@[push_cast] theorem p133 : placesOk prog 133 = true := by kernel_rfl
@[push_cast] theorem c134 : prog.cellsOf 134 = 1 := by kernel_rfl
@[push_cast] theorem g134 : isAggB prog 134 = false := by kernel_rfl
@[push_cast] theorem s134 : (prog.underlying 134).isSome = true := by kernel_rfl
@[push_cast] theorem i134 : (prog.info? 134).isSome = true := by kernel_rfl
@[push_cast] theorem m134 : concreteB prog 134 = true := by kernel_rfl
@[push_cast] theorem a134 : elemOk prog 134 = true := by kernel_rfl
@[push_cast] theorem b134 : bytesOf prog 134 = 8 := by kernel_rfl
@[push_cast] theorem z134 : zeroD prog 134 = some ([.t (.v .nilFunc)]) := by kernel_rfl
@[push_cast] theorem c135 : prog.cellsOf 135 = 1 := by kernel_rfl
@[push_cast] theorem g135 : isAggB prog 135 = false := by kernel_rfl
@[push_cast] theorem s135 : (prog.underlying 135).isSome = true := by kernel_rfl
@[push_cast] theorem i135 : (prog.info? 135).isSome = true := by kernel_rfl
@[push_cast] theorem m135 : concreteB prog 135 = true := by kernel_rfl
@[push_cast] theorem a135 : elemOk prog 135 = true := by kernel_rfl
@[push_cast] theorem b135 : bytesOf prog 135 = 8 := by kernel_rfl
@[push_cast] theorem z135 : zeroD prog 135 = some ([.t (.v .nilFunc)]) := by kernel_rfl
@[push_cast] theorem c136 : prog.cellsOf 136 = 1 := by kernel_rfl
@[push_cast] theorem g136 : isAggB prog 136 = false := by kernel_rfl
@[push_cast] theorem s136 : (prog.underlying 136).isSome = true := by kernel_rfl
@[push_cast] theorem i136 : (prog.info? 136).isSome = true := by kernel_rfl
@[push_cast] theorem m136 : concreteB prog 136 = true := by kernel_rfl
@[push_cast] theorem a136 : elemOk prog 136 = true := by kernel_rfl
@[push_cast] theorem b136 : bytesOf prog 136 = 1 := by kernel_rfl
@[push_cast] theorem z136 : zeroD prog 136 = some ([.t (.v (.int .u8 0))]) := by kernel_rfl
@[push_cast] theorem u136 : prog.underlying 136 = some (.int .u8) := by kernel_rfl
@[push_cast] theorem c137 : prog.cellsOf 137 = 1 := by kernel_rfl
@[push_cast] theorem g137 : isAggB prog 137 = false := by kernel_rfl
@[push_cast] theorem s137 : (prog.underlying 137).isSome = true := by kernel_rfl
@[push_cast] theorem i137 : (prog.info? 137).isSome = true := by kernel_rfl
@[push_cast] theorem m137 : concreteB prog 137 = true := by kernel_rfl
@[push_cast] theorem a137 : elemOk prog 137 = true := by kernel_rfl
@[push_cast] theorem b137 : bytesOf prog 137 = 8 := by kernel_rfl
@[push_cast] theorem z137 : zeroD prog 137 = some ([.t (.v .nilFunc)]) := by kernel_rfl
@[push_cast] theorem c138 : prog.cellsOf 138 = 1 := by kernel_rfl
@[push_cast] theorem g138 : isAggB prog 138 = false := by kernel_rfl
@[push_cast] theorem s138 : (prog.underlying 138).isSome = true := by kernel_rfl
@[push_cast] theorem i138 : (prog.info? 138).isSome = true := by kernel_rfl
@[push_cast] theorem m138 : concreteB prog 138 = true := by kernel_rfl
@[push_cast] theorem a138 : elemOk prog 138 = true := by kernel_rfl
@[push_cast] theorem b138 : bytesOf prog 138 = 8 := by kernel_rfl
@[push_cast] theorem z138 : zeroD prog 138 = some ([.t (.v .nilFunc)]) := by kernel_rfl
@[push_cast] theorem c139 : prog.cellsOf 139 = 1 := by kernel_rfl
@[push_cast] theorem g139 : isAggB prog 139 = false := by kernel_rfl
@[push_cast] theorem s139 : (prog.underlying 139).isSome = true := by kernel_rfl
@[push_cast] theorem i139 : (prog.info? 139).isSome = true := by kernel_rfl
@[push_cast] theorem m139 : concreteB prog 139 = true := by kernel_rfl
@[push_cast] theorem a139 : elemOk prog 139 = true := by kernel_rfl
@[push_cast] theorem b139 : bytesOf prog 139 = 8 := by kernel_rfl
@[push_cast] theorem z139 : zeroD prog 139 = some ([.t (.v .nilFunc)]) := by kernel_rfl
@[push_cast] theorem c140 : prog.cellsOf 140 = 1 := by kernel_rfl
@[push_cast] theorem g140 : isAggB prog 140 = false := by kernel_rfl
@[push_cast] theorem s140 : (prog.underlying 140).isSome = true := by kernel_rfl
@[push_cast] theorem i140 : (prog.info? 140).isSome = true := by kernel_rfl
@[push_cast] theorem m140 : concreteB prog 140 = true := by kernel_rfl
@[push_cast] theorem a140 : elemOk prog 140 = true := by kernel_rfl
@[push_cast] theorem b140 : bytesOf prog 140 = 8 := by kernel_rfl
@[push_cast] theorem z140 : zeroD prog 140 = some ([.t (.v (.pointer none))]) := by kernel_rfl
@[push_cast] theorem c142 : prog.cellsOf 142 = 1 := by kernel_rfl
@[push_cast] theorem g142 : isAggB prog 142 = false := by kernel_rfl
@[push_cast] theorem s142 : (prog.underlying 142).isSome = true := by kernel_rfl
@[push_cast] theorem i142 : (prog.info? 142).isSome = true := by kernel_rfl
@[push_cast] theorem m142 : concreteB prog 142 = true := by kernel_rfl
@[push_cast] theorem a142 : elemOk prog 142 = true := by kernel_rfl
@[push_cast] theorem b142 : bytesOf prog 142 = 8 := by kernel_rfl
@[push_cast] theorem z142 : zeroD prog 142 = some ([.t (.v .nilFunc)]) := by kernel_rfl
@[push_cast] theorem c144 : prog.cellsOf 144 = 1 := by kernel_rfl
@[push_cast] theorem g144 : isAggB prog 144 = false := by kernel_rfl
@[push_cast] theorem s144 : (prog.underlying 144).isSome = true := by kernel_rfl
@[push_cast] theorem i144 : (prog.info? 144).isSome = true := by kernel_rfl
@[push_cast] theorem m144 : concreteB prog 144 = true := by kernel_rfl
@[push_cast] theorem a144 : elemOk prog 144 = true := by kernel_rfl
@[push_cast] theorem b144 : bytesOf prog 144 = 8 := by kernel_rfl
@[push_cast] theorem z144 : zeroD prog 144 = some ([.t (.v .nilFunc)]) := by kernel_rfl
@[push_cast] theorem c145 : prog.cellsOf 145 = 1 := by kernel_rfl
@[push_cast] theorem g145 : isAggB prog 145 = false := by kernel_rfl
@[push_cast] theorem s145 : (prog.underlying 145).isSome = true := by kernel_rfl
@[push_cast] theorem i145 : (prog.info? 145).isSome = true := by kernel_rfl
@[push_cast] theorem m145 : concreteB prog 145 = true := by kernel_rfl
@[push_cast] theorem a145 : elemOk prog 145 = true := by kernel_rfl
@[push_cast] theorem b145 : bytesOf prog 145 = 8 := by kernel_rfl
@[push_cast] theorem z145 : zeroD prog 145 = some ([.t (.v .nilFunc)]) := by kernel_rfl
@[push_cast] theorem c146 : prog.cellsOf 146 = 1 := by kernel_rfl
@[push_cast] theorem g146 : isAggB prog 146 = false := by kernel_rfl
@[push_cast] theorem s146 : (prog.underlying 146).isSome = true := by kernel_rfl
@[push_cast] theorem i146 : (prog.info? 146).isSome = true := by kernel_rfl
@[push_cast] theorem m146 : concreteB prog 146 = true := by kernel_rfl
@[push_cast] theorem a146 : elemOk prog 146 = true := by kernel_rfl
@[push_cast] theorem b146 : bytesOf prog 146 = 8 := by kernel_rfl
@[push_cast] theorem z146 : zeroD prog 146 = some ([.t (.v .nilFunc)]) := by kernel_rfl
@[push_cast] theorem c147 : prog.cellsOf 147 = 1 := by kernel_rfl
@[push_cast] theorem g147 : isAggB prog 147 = false := by kernel_rfl
@[push_cast] theorem s147 : (prog.underlying 147).isSome = true := by kernel_rfl
@[push_cast] theorem i147 : (prog.info? 147).isSome = true := by kernel_rfl
@[push_cast] theorem m147 : concreteB prog 147 = true := by kernel_rfl
@[push_cast] theorem a147 : elemOk prog 147 = true := by kernel_rfl
@[push_cast] theorem b147 : bytesOf prog 147 = 8 := by kernel_rfl
@[push_cast] theorem z147 : zeroD prog 147 = some ([.t (.v .nilFunc)]) := by kernel_rfl
@[push_cast] theorem c148 : prog.cellsOf 148 = 1 := by kernel_rfl
@[push_cast] theorem g148 : isAggB prog 148 = false := by kernel_rfl
@[push_cast] theorem s148 : (prog.underlying 148).isSome = true := by kernel_rfl
@[push_cast] theorem i148 : (prog.info? 148).isSome = true := by kernel_rfl
@[push_cast] theorem m148 : concreteB prog 148 = true := by kernel_rfl
@[push_cast] theorem a148 : elemOk prog 148 = true := by kernel_rfl
@[push_cast] theorem b148 : bytesOf prog 148 = 8 := by kernel_rfl
@[push_cast] theorem z148 : zeroD prog 148 = some ([.t (.v .nilFunc)]) := by kernel_rfl
@[push_cast] theorem c149 : prog.cellsOf 149 = 1 := by kernel_rfl
@[push_cast] theorem g149 : isAggB prog 149 = false := by kernel_rfl
@[push_cast] theorem s149 : (prog.underlying 149).isSome = true := by kernel_rfl
@[push_cast] theorem i149 : (prog.info? 149).isSome = true := by kernel_rfl
@[push_cast] theorem a149 : elemOk prog 149 = true := by kernel_rfl
@[push_cast] theorem b149 : bytesOf prog 149 = 16 := by kernel_rfl
@[push_cast] theorem z149 : zeroD prog 149 = some ([.t (.v .nilIface)]) := by kernel_rfl
@[push_cast] theorem u149 : prog.underlying 149 = some (.interface (prog.methodsAt 149)) := by kernel_rfl
@[push_cast] theorem c151 : prog.cellsOf 151 = 1 := by kernel_rfl
@[push_cast] theorem g151 : isAggB prog 151 = false := by kernel_rfl
@[push_cast] theorem s151 : (prog.underlying 151).isSome = true := by kernel_rfl
@[push_cast] theorem i151 : (prog.info? 151).isSome = true := by kernel_rfl
@[push_cast] theorem m151 : concreteB prog 151 = true := by kernel_rfl
@[push_cast] theorem a151 : elemOk prog 151 = true := by kernel_rfl
@[push_cast] theorem b151 : bytesOf prog 151 = 8 := by kernel_rfl
@[push_cast] theorem z151 : zeroD prog 151 = some ([.t (.v .nilFunc)]) := by kernel_rfl
@[push_cast] theorem c152 : prog.cellsOf 152 = 1 := by kernel_rfl
@[push_cast] theorem g152 : isAggB prog 152 = false := by kernel_rfl
@[push_cast] theorem s152 : (prog.underlying 152).isSome = true := by kernel_rfl
@[push_cast] theorem i152 : (prog.info? 152).isSome = true := by kernel_rfl
@[push_cast] theorem m152 : concreteB prog 152 = true := by kernel_rfl
@[push_cast] theorem a152 : elemOk prog 152 = true := by kernel_rfl
@[push_cast] theorem b152 : bytesOf prog 152 = 8 := by kernel_rfl
@[push_cast] theorem z152 : zeroD prog 152 = some ([.t (.v .nilFunc)]) := by kernel_rfl
@[push_cast] theorem c153 : prog.cellsOf 153 = 1 := by kernel_rfl
@[push_cast] theorem g153 : isAggB prog 153 = false := by kernel_rfl
@[push_cast] theorem s153 : (prog.underlying 153).isSome = true := by kernel_rfl
@[push_cast] theorem i153 : (prog.info? 153).isSome = true := by kernel_rfl
@[push_cast] theorem m153 : concreteB prog 153 = true := by kernel_rfl
@[push_cast] theorem a153 : elemOk prog 153 = true := by kernel_rfl
@[push_cast] theorem b153 : bytesOf prog 153 = 8 := by kernel_rfl
@[push_cast] theorem z153 : zeroD prog 153 = some ([.t (.v .nilFunc)]) := by kernel_rfl
@[push_cast] theorem c154 : prog.cellsOf 154 = 1 := by kernel_rfl
@[push_cast] theorem g154 : isAggB prog 154 = false := by kernel_rfl
@[push_cast] theorem s154 : (prog.underlying 154).isSome = true := by kernel_rfl
@[push_cast] theorem i154 : (prog.info? 154).isSome = true := by kernel_rfl
@[push_cast] theorem m154 : concreteB prog 154 = true := by kernel_rfl
@[push_cast] theorem a154 : elemOk prog 154 = true := by kernel_rfl
@[push_cast] theorem b154 : bytesOf prog 154 = 8 := by kernel_rfl
@[push_cast] theorem z154 : zeroD prog 154 = some ([.t (.v .nilFunc)]) := by kernel_rfl
@[push_cast] theorem c155 : prog.cellsOf 155 = 4 := by kernel_rfl
@[push_cast] theorem g155 : isAggB prog 155 = true := by kernel_rfl
@[push_cast] theorem s155 : (prog.underlying 155).isSome = true := by kernel_rfl
@[push_cast] theorem i155 : (prog.info? 155).isSome = true := by kernel_rfl
@[push_cast] theorem m155 : concreteB prog 155 = true := by kernel_rfl
@[push_cast] theorem a155 : elemOk prog 155 = true := by kernel_rfl
@[push_cast] theorem b155 : bytesOf prog 155 = 40 := by kernel_rfl
@[push_cast] theorem z155 : zeroD prog 155 = some ([.t (.v (.pointer none)), .t (.v (.pointer none)), .t (.v (.pointer none)), .t (.v (.string ⟨#[]⟩))]) := by kernel_rfl
@[push_cast] theorem f155_0 : fieldOf prog 155 0 = some (0, 1, 17) := by kernel_rfl
@[push_cast] theorem q155_0 : placeOf prog 155 0 = some (0, 1) := by kernel_rfl
@[push_cast] theorem f155_1 : fieldOf prog 155 1 = some (1, 1, 17) := by kernel_rfl
@[push_cast] theorem q155_1 : placeOf prog 155 1 = some (1, 1) := by kernel_rfl
@[push_cast] theorem f155_2 : fieldOf prog 155 2 = some (2, 1, 17) := by kernel_rfl
@[push_cast] theorem q155_2 : placeOf prog 155 2 = some (2, 1) := by kernel_rfl
@[push_cast] theorem f155_3 : fieldOf prog 155 3 = some (3, 1, 9) := by kernel_rfl
@[push_cast] theorem q155_3 : placeOf prog 155 3 = some (3, 1) := by kernel_rfl
@[push_cast] theorem p155 : placesOk prog 155 = true := by kernel_rfl
@[push_cast] theorem c156 : prog.cellsOf 156 = 4 := by kernel_rfl
@[push_cast] theorem g156 : isAggB prog 156 = true := by kernel_rfl
@[push_cast] theorem s156 : (prog.underlying 156).isSome = true := by kernel_rfl
@[push_cast] theorem i156 : (prog.info? 156).isSome = true := by kernel_rfl
@[push_cast] theorem m156 : concreteB prog 156 = true := by kernel_rfl
@[push_cast] theorem a156 : elemOk prog 156 = true := by kernel_rfl
@[push_cast] theorem b156 : bytesOf prog 156 = 40 := by kernel_rfl
@[push_cast] theorem z156 : zeroD prog 156 = some ([.t (.v (.pointer none)), .t (.v (.pointer none)), .t (.v (.pointer none)), .t (.v (.string ⟨#[]⟩))]) := by kernel_rfl
@[push_cast] theorem f156_0 : fieldOf prog 156 0 = some (0, 1, 17) := by kernel_rfl
@[push_cast] theorem q156_0 : placeOf prog 156 0 = some (0, 1) := by kernel_rfl
@[push_cast] theorem f156_1 : fieldOf prog 156 1 = some (1, 1, 17) := by kernel_rfl
@[push_cast] theorem q156_1 : placeOf prog 156 1 = some (1, 1) := by kernel_rfl
@[push_cast] theorem f156_2 : fieldOf prog 156 2 = some (2, 1, 17) := by kernel_rfl
@[push_cast] theorem q156_2 : placeOf prog 156 2 = some (2, 1) := by kernel_rfl
@[push_cast] theorem f156_3 : fieldOf prog 156 3 = some (3, 1, 9) := by kernel_rfl
@[push_cast] theorem q156_3 : placeOf prog 156 3 = some (3, 1) := by kernel_rfl
@[push_cast] theorem p156 : placesOk prog 156 = true := by kernel_rfl
@[push_cast] theorem c157 : prog.cellsOf 157 = 0 := by kernel_rfl
@[push_cast] theorem g157 : isAggB prog 157 = true := by kernel_rfl
@[push_cast] theorem s157 : (prog.underlying 157).isSome = true := by kernel_rfl
@[push_cast] theorem i157 : (prog.info? 157).isSome = true := by kernel_rfl
@[push_cast] theorem m157 : concreteB prog 157 = true := by kernel_rfl
@[push_cast] theorem a157 : elemOk prog 157 = true := by kernel_rfl
@[push_cast] theorem b157 : bytesOf prog 157 = 0 := by kernel_rfl
@[push_cast] theorem z157 : zeroD prog 157 = some ([]) := by kernel_rfl
@[push_cast] theorem u157 : prog.underlying 157 = some (.array 0 16) := by kernel_rfl
@[push_cast] theorem e157 : prog.elem 157 = 16 := by kernel_rfl
@[push_cast] theorem l157 : prog.arrayLen 157 = 0 := by kernel_rfl
@[push_cast] theorem p157 : placesOk prog 157 = true := by kernel_rfl
@[push_cast] theorem q157 (i : Nat) : placeOf prog 157 i = some (i * 1, 1) := by rw [placeOf_arr u157, c16]
@[push_cast] theorem c158 : prog.cellsOf 158 = 0 := by kernel_rfl
@[push_cast] theorem g158 : isAggB prog 158 = true := by kernel_rfl
@[push_cast] theorem s158 : (prog.underlying 158).isSome = true := by kernel_rfl
@[push_cast] theorem i158 : (prog.info? 158).isSome = true := by kernel_rfl
@[push_cast] theorem m158 : concreteB prog 158 = true := by kernel_rfl
@[push_cast] theorem a158 : elemOk prog 158 = true := by kernel_rfl
@[push_cast] theorem b158 : bytesOf prog 158 = 0 := by kernel_rfl
@[push_cast] theorem z158 : zeroD prog 158 = some ([]) := by kernel_rfl
@[push_cast] theorem f158_0 : fieldOf prog 158 0 = some (0, 0, 157) := by kernel_rfl
@[push_cast] theorem q158_0 : placeOf prog 158 0 = some (0, 0) := by kernel_rfl
@[push_cast] theorem p158 : placesOk prog 158 = true := by kernel_rfl
@[push_cast] theorem c159 : prog.cellsOf 159 = 0 := by kernel_rfl
@[push_cast] theorem g159 : isAggB prog 159 = true := by kernel_rfl
@[push_cast] theorem s159 : (prog.underlying 159).isSome = true := by kernel_rfl
@[push_cast] theorem i159 : (prog.info? 159).isSome = true := by kernel_rfl
@[push_cast] theorem m159 : concreteB prog 159 = true := by kernel_rfl
@[push_cast] theorem a159 : elemOk prog 159 = true := by kernel_rfl
@[push_cast] theorem b159 : bytesOf prog 159 = 0 := by kernel_rfl
@[push_cast] theorem z159 : zeroD prog 159 = some ([]) := by kernel_rfl
@[push_cast] theorem f159_0 : fieldOf prog 159 0 = some (0, 0, 157) := by kernel_rfl
@[push_cast] theorem q159_0 : placeOf prog 159 0 = some (0, 0) := by kernel_rfl
@[push_cast] theorem p159 : placesOk prog 159 = true := by kernel_rfl
@[push_cast] theorem c160 : prog.cellsOf 160 = 1 := by kernel_rfl
@[push_cast] theorem g160 : isAggB prog 160 = false := by kernel_rfl
@[push_cast] theorem s160 : (prog.underlying 160).isSome = true := by kernel_rfl
@[push_cast] theorem i160 : (prog.info? 160).isSome = true := by kernel_rfl
@[push_cast] theorem m160 : concreteB prog 160 = true := by kernel_rfl
@[push_cast] theorem a160 : elemOk prog 160 = true := by kernel_rfl
@[push_cast] theorem b160 : bytesOf prog 160 = 8 := by kernel_rfl
@[push_cast] theorem z160 : zeroD prog 160 = some ([.t (.v .nilFunc)]) := by kernel_rfl
@[push_cast] theorem c161 : prog.cellsOf 161 = 1 := by kernel_rfl
@[push_cast] theorem g161 : isAggB prog 161 = false := by kernel_rfl
@[push_cast] theorem s161 : (prog.underlying 161).isSome = true := by kernel_rfl
@[push_cast] theorem i161 : (prog.info? 161).isSome = true := by kernel_rfl
@[push_cast] theorem m161 : concreteB prog 161 = true := by kernel_rfl
@[push_cast] theorem a161 : elemOk prog 161 = true := by kernel_rfl
@[push_cast] theorem b161 : bytesOf prog 161 = 1 := by kernel_rfl
@[push_cast] theorem z161 : zeroD prog 161 = some ([.t (.v (.int .u8 0))]) := by kernel_rfl
@[push_cast] theorem u161 : prog.underlying 161 = some (.int .u8) := by kernel_rfl
@[push_cast] theorem c162 : prog.cellsOf 162 = 1 := by kernel_rfl
@[push_cast] theorem g162 : isAggB prog 162 = false := by kernel_rfl
@[push_cast] theorem s162 : (prog.underlying 162).isSome = true := by kernel_rfl
@[push_cast] theorem i162 : (prog.info? 162).isSome = true := by kernel_rfl
@[push_cast] theorem m162 : concreteB prog 162 = true := by kernel_rfl
@[push_cast] theorem a162 : elemOk prog 162 = true := by kernel_rfl
@[push_cast] theorem b162 : bytesOf prog 162 = 8 := by kernel_rfl
@[push_cast] theorem z162 : zeroD prog 162 = some ([.t (.v .nilFunc)]) := by kernel_rfl
@[push_cast] theorem c163 : prog.cellsOf 163 = 1 := by kernel_rfl
@[push_cast] theorem g163 : isAggB prog 163 = false := by kernel_rfl
@[push_cast] theorem s163 : (prog.underlying 163).isSome = true := by kernel_rfl
@[push_cast] theorem i163 : (prog.info? 163).isSome = true := by kernel_rfl
@[push_cast] theorem m163 : concreteB prog 163 = true := by kernel_rfl
@[push_cast] theorem a163 : elemOk prog 163 = true := by kernel_rfl
@[push_cast] theorem b163 : bytesOf prog 163 = 4 := by kernel_rfl
@[push_cast] theorem z163 : zeroD prog 163 = some ([.t (.v (.int .i32 0))]) := by kernel_rfl
@[push_cast] theorem u163 : prog.underlying 163 = some (.int .i32) := by kernel_rfl
@[push_cast] theorem c164 : prog.cellsOf 164 = 1 := by kernel_rfl
@[push_cast] theorem g164 : isAggB prog 164 = false := by kernel_rfl
@[push_cast] theorem s164 : (prog.underlying 164).isSome = true := by kernel_rfl
@[push_cast] theorem i164 : (prog.info? 164).isSome = true := by kernel_rfl
@[push_cast] theorem m164 : concreteB prog 164 = true := by kernel_rfl
@[push_cast] theorem a164 : elemOk prog 164 = true := by kernel_rfl
@[push_cast] theorem b164 : bytesOf prog 164 = 4 := by kernel_rfl
@[push_cast] theorem z164 : zeroD prog 164 = some ([.t (.v (.int .i32 0))]) := by kernel_rfl
@[push_cast] theorem u164 : prog.underlying 164 = some (.int .i32) := by kernel_rfl
@[push_cast] theorem c165 : prog.cellsOf 165 = 11 := by kernel_rfl
@[push_cast] theorem g165 : isAggB prog 165 = true := by kernel_rfl
@[push_cast] theorem s165 : (prog.underlying 165).isSome = true := by kernel_rfl
@[push_cast] theorem i165 : (prog.info? 165).isSome = true := by kernel_rfl
@[push_cast] theorem m165 : concreteB prog 165 = true := by kernel_rfl
@[push_cast] theorem a165 : elemOk prog 165 = true := by kernel_rfl
@[push_cast] theorem b165 : bytesOf prog 165 = 48 := by kernel_rfl
@[push_cast] theorem z165 : zeroD prog 165 = some ([.t (.v (.int .u64 0)), .t (.v (.int .u64 0)), .t (.v (.int .u32 0)), .t (.v (.int .u8 0)), .t (.v (.int .u8 0)), .t (.v (.int .u8 0)), .t (.v (.int .u8 0)), .t (.v .nilFunc), .t (.v (.pointer none)), .t (.v (.int .i32 0)), .t (.v (.int .i32 0))]) := by kernel_rfl
@[push_cast] theorem f165_0 : fieldOf prog 165 0 = some (0, 1, 12) := by kernel_rfl
@[push_cast] theorem q165_0 : placeOf prog 165 0 = some (0, 1) := by kernel_rfl
@[push_cast] theorem f165_1 : fieldOf prog 165 1 = some (1, 1, 12) := by kernel_rfl
@[push_cast] theorem q165_1 : placeOf prog 165 1 = some (1, 1) := by kernel_rfl
@[push_cast] theorem f165_2 : fieldOf prog 165 2 = some (2, 1, 49) := by kernel_rfl
@[push_cast] theorem q165_2 : placeOf prog 165 2 = some (2, 1) := by kernel_rfl
@[push_cast] theorem f165_3 : fieldOf prog 165 3 = some (3, 1, 161) := by kernel_rfl
@[push_cast] theorem q165_3 : placeOf prog 165 3 = some (3, 1) := by kernel_rfl
@[push_cast] theorem f165_4 : fieldOf prog 165 4 = some (4, 1, 5) := by kernel_rfl
@[push_cast] theorem q165_4 : placeOf prog 165 4 = some (4, 1) := by kernel_rfl
@[push_cast] theorem f165_5 : fieldOf prog 165 5 = some (5, 1, 5) := by kernel_rfl
@[push_cast] theorem q165_5 : placeOf prog 165 5 = some (5, 1) := by kernel_rfl
@[push_cast] theorem f165_6 : fieldOf prog 165 6 = some (6, 1, 136) := by kernel_rfl
@[push_cast] theorem q165_6 : placeOf prog 165 6 = some (6, 1) := by kernel_rfl
@[push_cast] theorem f165_7 : fieldOf prog 165 7 = some (7, 1, 162) := by kernel_rfl
@[push_cast] theorem q165_7 : placeOf prog 165 7 = some (7, 1) := by kernel_rfl
@[push_cast] theorem f165_8 : fieldOf prog 165 8 = some (8, 1, 140) := by kernel_rfl
@[push_cast] theorem q165_8 : placeOf prog 165 8 = some (8, 1) := by kernel_rfl
@[push_cast] theorem f165_9 : fieldOf prog 165 9 = some (9, 1, 163) := by kernel_rfl
@[push_cast] theorem q165_9 : placeOf prog 165 9 = some (9, 1) := by kernel_rfl
@[push_cast] theorem f165_10 : fieldOf prog 165 10 = some (10, 1, 164) := by kernel_rfl
@[push_cast] theorem q165_10 : placeOf prog 165 10 = some (10, 1) := by kernel_rfl
@[push_cast] theorem p165 : placesOk prog 165 = true := by kernel_rfl
@[push_cast] theorem c166 : prog.cellsOf 166 = 11 := by kernel_rfl
@[push_cast] theorem g166 : isAggB prog 166 = true := by kernel_rfl
@[push_cast] theorem s166 : (prog.underlying 166).isSome = true := by kernel_rfl
@[push_cast] theorem i166 : (prog.info? 166).isSome = true := by kernel_rfl
@[push_cast] theorem m166 : concreteB prog 166 = true := by kernel_rfl
@[push_cast] theorem a166 : elemOk prog 166 = true := by kernel_rfl
@[push_cast] theorem b166 : bytesOf prog 166 = 48 := by kernel_rfl
@[push_cast] theorem z166 : zeroD prog 166 = some ([.t (.v (.int .u64 0)), .t (.v (.int .u64 0)), .t (.v (.int .u32 0)), .t (.v (.int .u8 0)), .t (.v (.int .u8 0)), .t (.v (.int .u8 0)), .t (.v (.int .u8 0)), .t (.v .nilFunc), .t (.v (.pointer none)), .t (.v (.int .i32 0)), .t (.v (.int .i32 0))]) := by kernel_rfl
@[push_cast] theorem f166_0 : fieldOf prog 166 0 = some (0, 1, 12) := by kernel_rfl
@[push_cast] theorem q166_0 : placeOf prog 166 0 = some (0, 1) := by kernel_rfl
@[push_cast] theorem f166_1 : fieldOf prog 166 1 = some (1, 1, 12) := by kernel_rfl
@[push_cast] theorem q166_1 : placeOf prog 166 1 = some (1, 1) := by kernel_rfl
@[push_cast] theorem f166_2 : fieldOf prog 166 2 = some (2, 1, 49) := by kernel_rfl
@[push_cast] theorem q166_2 : placeOf prog 166 2 = some (2, 1) := by kernel_rfl
@[push_cast] theorem f166_3 : fieldOf prog 166 3 = some (3, 1, 161) := by kernel_rfl
@[push_cast] theorem q166_3 : placeOf prog 166 3 = some (3, 1) := by kernel_rfl
@[push_cast] theorem f166_4 : fieldOf prog 166 4 = some (4, 1, 5) := by kernel_rfl
@[push_cast] theorem q166_4 : placeOf prog 166 4 = some (4, 1) := by kernel_rfl
@[push_cast] theorem f166_5 : fieldOf prog 166 5 = some (5, 1, 5) := by kernel_rfl
@[push_cast] theorem q166_5 : placeOf prog 166 5 = some (5, 1) := by kernel_rfl
@[push_cast] theorem f166_6 : fieldOf prog 166 6 = some (6, 1, 136) := by kernel_rfl
@[push_cast] theorem q166_6 : placeOf prog 166 6 = some (6, 1) := by kernel_rfl
@[push_cast] theorem f166_7 : fieldOf prog 166 7 = some (7, 1, 162) := by kernel_rfl
@[push_cast] theorem q166_7 : placeOf prog 166 7 = some (7, 1) := by kernel_rfl
@[push_cast] theorem f166_8 : fieldOf prog 166 8 = some (8, 1, 140) := by kernel_rfl
@[push_cast] theorem q166_8 : placeOf prog 166 8 = some (8, 1) := by kernel_rfl
@[push_cast] theorem f166_9 : fieldOf prog 166 9 = some (9, 1, 163) := by kernel_rfl
@[push_cast] theorem q166_9 : placeOf prog 166 9 = some (9, 1) := by kernel_rfl
@[push_cast] theorem f166_10 : fieldOf prog 166 10 = some (10, 1, 164) := by kernel_rfl
@[push_cast] theorem q166_10 : placeOf prog 166 10 = some (10, 1) := by kernel_rfl
@[push_cast] theorem p166 : placesOk prog 166 = true := by kernel_rfl
@[push_cast] theorem c167 : prog.cellsOf 167 = 1 := by kernel_rfl
@[push_cast] theorem g167 : isAggB prog 167 = false := by kernel_rfl
@[push_cast] theorem s167 : (prog.underlying 167).isSome = true := by kernel_rfl
@[push_cast] theorem i167 : (prog.info? 167).isSome = true := by kernel_rfl
@[push_cast] theorem m167 : concreteB prog 167 = true := by kernel_rfl
@[push_cast] theorem a167 : elemOk prog 167 = true := by kernel_rfl
@[push_cast] theorem b167 : bytesOf prog 167 = 8 := by kernel_rfl
@[push_cast] theorem z167 : zeroD prog 167 = some ([.t (.v .nilFunc)]) := by kernel_rfl
@[push_cast] theorem c168 : prog.cellsOf 168 = 1 := by kernel_rfl
@[push_cast] theorem g168 : isAggB prog 168 = false := by kernel_rfl
@[push_cast] theorem s168 : (prog.underlying 168).isSome = true := by kernel_rfl
@[push_cast] theorem i168 : (prog.info? 168).isSome = true := by kernel_rfl
@[push_cast] theorem m168 : concreteB prog 168 = true := by kernel_rfl
@[push_cast] theorem a168 : elemOk prog 168 = true := by kernel_rfl
@[push_cast] theorem b168 : bytesOf prog 168 = 8 := by kernel_rfl
@[push_cast] theorem z168 : zeroD prog 168 = some ([.t (.v .nilFunc)]) := by kernel_rfl
@[push_cast] theorem c169 : prog.cellsOf 169 = 2 := by kernel_rfl
@[push_cast] theorem g169 : isAggB prog 169 = true := by kernel_rfl
@[push_cast] theorem s169 : (prog.underlying 169).isSome = true := by kernel_rfl
@[push_cast] theorem i169 : (prog.info? 169).isSome = true := by kernel_rfl
@[push_cast] theorem m169 : concreteB prog 169 = true := by kernel_rfl
@[push_cast] theorem a169 : elemOk prog 169 = true := by kernel_rfl
@[push_cast] theorem b169 : bytesOf prog 169 = 24 := by kernel_rfl
@[push_cast] theorem z169 : zeroD prog 169 = some ([.t (.v (.string ⟨#[]⟩)), .t (.v (.int .u8 0))]) := by kernel_rfl
@[push_cast] theorem f169_0 : fieldOf prog 169 0 = some (0, 1, 9) := by kernel_rfl
@[push_cast] theorem q169_0 : placeOf prog 169 0 = some (0, 1) := by kernel_rfl
@[push_cast] theorem f169_1 : fieldOf prog 169 1 = some (1, 1, 136) := by kernel_rfl
@[push_cast] theorem q169_1 : placeOf prog 169 1 = some (1, 1) := by kernel_rfl
@[push_cast] theorem p169 : placesOk prog 169 = true := by kernel_rfl
@[push_cast] theorem c170 : prog.cellsOf 170 = 2 := by kernel_rfl
@[push_cast] theorem g170 : isAggB prog 170 = true := by kernel_rfl
@[push_cast] theorem s170 : (prog.underlying 170).isSome = true := by kernel_rfl
@[push_cast] theorem i170 : (prog.info? 170).isSome = true := by kernel_rfl
@[push_cast] theorem m170 : concreteB prog 170 = true := by kernel_rfl
@[push_cast] theorem a170 : elemOk prog 170 = true := by kernel_rfl
@[push_cast] theorem b170 : bytesOf prog 170 = 24 := by kernel_rfl
@[push_cast] theorem z170 : zeroD prog 170 = some ([.t (.v (.string ⟨#[]⟩)), .t (.v (.int .u8 0))]) := by kernel_rfl
@[push_cast] theorem f170_0 : fieldOf prog 170 0 = some (0, 1, 9) := by kernel_rfl
@[push_cast] theorem q170_0 : placeOf prog 170 0 = some (0, 1) := by kernel_rfl
@[push_cast] theorem f170_1 : fieldOf prog 170 1 = some (1, 1, 136) := by kernel_rfl
@[push_cast] theorem q170_1 : placeOf prog 170 1 = some (1, 1) := by kernel_rfl
@[push_cast] theorem p170 : placesOk prog 170 = true := by kernel_rfl
@[push_cast] theorem c171 : prog.cellsOf 171 = 1 := by kernel_rfl
@[push_cast] theorem g171 : isAggB prog 171 = false := by kernel_rfl
@[push_cast] theorem s171 : (prog.underlying 171).isSome = true := by kernel_rfl
@[push_cast] theorem i171 : (prog.info? 171).isSome = true := by kernel_rfl
@[push_cast] theorem m171 : concreteB prog 171 = true := by kernel_rfl
@[push_cast] theorem a171 : elemOk prog 171 = true := by kernel_rfl
@[push_cast] theorem b171 : bytesOf prog 171 = 8 := by kernel_rfl
@[push_cast] theorem z171 : zeroD prog 171 = some ([.t (.v (.pointer none))]) := by kernel_rfl
@[push_cast] theorem c172 : prog.cellsOf 172 = 1 := by kernel_rfl
@[push_cast] theorem g172 : isAggB prog 172 = false := by kernel_rfl
@[push_cast] theorem s172 : (prog.underlying 172).isSome = true := by kernel_rfl
@[push_cast] theorem i172 : (prog.info? 172).isSome = true := by kernel_rfl
@[push_cast] theorem m172 : concreteB prog 172 = true := by kernel_rfl
@[push_cast] theorem a172 : elemOk prog 172 = true := by kernel_rfl
@[push_cast] theorem b172 : bytesOf prog 172 = 8 := by kernel_rfl
@[push_cast] theorem z172 : zeroD prog 172 = some ([.t (.v .nilFunc)]) := by kernel_rfl
@[push_cast] theorem c173 : prog.cellsOf 173 = 5 := by kernel_rfl
@[push_cast] theorem g173 : isAggB prog 173 = true := by kernel_rfl
@[push_cast] theorem s173 : (prog.underlying 173).isSome = true := by kernel_rfl
@[push_cast] theorem i173 : (prog.info? 173).isSome = true := by kernel_rfl
@[push_cast] theorem m173 : concreteB prog 173 = true := by kernel_rfl
@[push_cast] theorem a173 : elemOk prog 173 = true := by kernel_rfl
@[push_cast] theorem b173 : bytesOf prog 173 = 16 := by kernel_rfl
@[push_cast] theorem z173 : zeroD prog 173 = some ([.t (.v (.int .i32 0)), .t (.v (.int .u16 0)), .t (.v (.int .u16 0)), .t (.v (.int .u32 0)), .t (.v (.int .u32 0))]) := by kernel_rfl
@[push_cast] theorem f173_0 : fieldOf prog 173 0 = some (0, 1, 163) := by kernel_rfl
@[push_cast] theorem q173_0 : placeOf prog 173 0 = some (0, 1) := by kernel_rfl
@[push_cast] theorem f173_1 : fieldOf prog 173 1 = some (1, 1, 31) := by kernel_rfl
@[push_cast] theorem q173_1 : placeOf prog 173 1 = some (1, 1) := by kernel_rfl
@[push_cast] theorem f173_2 : fieldOf prog 173 2 = some (2, 1, 31) := by kernel_rfl
@[push_cast] theorem q173_2 : placeOf prog 173 2 = some (2, 1) := by kernel_rfl
@[push_cast] theorem f173_3 : fieldOf prog 173 3 = some (3, 1, 49) := by kernel_rfl
@[push_cast] theorem q173_3 : placeOf prog 173 3 = some (3, 1) := by kernel_rfl
@[push_cast] theorem f173_4 : fieldOf prog 173 4 = some (4, 1, 49) := by kernel_rfl
@[push_cast] theorem q173_4 : placeOf prog 173 4 = some (4, 1) := by kernel_rfl
@[push_cast] theorem p173 : placesOk prog 173 = true := by kernel_rfl
@[push_cast] theorem c174 : prog.cellsOf 174 = 5 := by kernel_rfl
@[push_cast] theorem g174 : isAggB prog 174 = true := by kernel_rfl
@[push_cast] theorem s174 : (prog.underlying 174).isSome = true := by kernel_rfl
@[push_cast] theorem i174 : (prog.info? 174).isSome = true := by kernel_rfl
@[push_cast] theorem m174 : concreteB prog 174 = true := by kernel_rfl
@[push_cast] theorem a174 : elemOk prog 174 = true := by kernel_rfl
@[push_cast] theorem b174 : bytesOf prog 174 = 16 := by kernel_rfl
@[push_cast] theorem z174 : zeroD prog 174 = some ([.t (.v (.int .i32 0)), .t (.v (.int .u16 0)), .t (.v (.int .u16 0)), .t (.v (.int .u32 0)), .t (.v (.int .u32 0))]) := by kernel_rfl
@[push_cast] theorem f174_0 : fieldOf prog 174 0 = some (0, 1, 163) := by kernel_rfl
@[push_cast] theorem q174_0 : placeOf prog 174 0 = some (0, 1) := by kernel_rfl
@[push_cast] theorem f174_1 : fieldOf prog 174 1 = some (1, 1, 31) := by kernel_rfl
@[push_cast] theorem q174_1 : placeOf prog 174 1 = some (1, 1) := by kernel_rfl
@[push_cast] theorem f174_2 : fieldOf prog 174 2 = some (2, 1, 31) := by kernel_rfl
@[push_cast] theorem q174_2 : placeOf prog 174 2 = some (2, 1) := by kernel_rfl
@[push_cast] theorem f174_3 : fieldOf prog 174 3 = some (3, 1, 49) := by kernel_rfl
@[push_cast] theorem q174_3 : placeOf prog 174 3 = some (3, 1) := by kernel_rfl
@[push_cast] theorem f174_4 : fieldOf prog 174 4 = some (4, 1, 49) := by kernel_rfl
@[push_cast] theorem q174_4 : placeOf prog 174 4 = some (4, 1) := by kernel_rfl
@[push_cast] theorem p174 : placesOk prog 174 = true := by kernel_rfl
@[push_cast] theorem c175 : prog.cellsOf 175 = 1 := by kernel_rfl
@[push_cast] theorem g175 : isAggB prog 175 = false := by kernel_rfl
@[push_cast] theorem s175 : (prog.underlying 175).isSome = true := by kernel_rfl
@[push_cast] theorem i175 : (prog.info? 175).isSome = true := by kernel_rfl
@[push_cast] theorem m175 : concreteB prog 175 = true := by kernel_rfl
@[push_cast] theorem a175 : elemOk prog 175 = true := by kernel_rfl
@[push_cast] theorem b175 : bytesOf prog 175 = 24 := by kernel_rfl
@[push_cast] theorem z175 : zeroD prog 175 = some ([.t (.v (.slice none 0 0))]) := by kernel_rfl
@[push_cast] theorem u175 : prog.underlying 175 = some (.slice 178) := by kernel_rfl
@[push_cast] theorem e175 : prog.elem 175 = 178 := by kernel_rfl
@[push_cast] theorem c176 : prog.cellsOf 176 = 1 := by kernel_rfl
@[push_cast] theorem g176 : isAggB prog 176 = false := by kernel_rfl
@[push_cast] theorem s176 : (prog.underlying 176).isSome = true := by kernel_rfl
@[push_cast] theorem i176 : (prog.info? 176).isSome = true := by kernel_rfl
@[push_cast] theorem m176 : concreteB prog 176 = true := by kernel_rfl
@[push_cast] theorem a176 : elemOk prog 176 = true := by kernel_rfl
@[push_cast] theorem b176 : bytesOf prog 176 = 4 := by kernel_rfl
@[push_cast] theorem z176 : zeroD prog 176 = some ([.t (.v (.int .i32 0))]) := by kernel_rfl
@[push_cast] theorem u176 : prog.underlying 176 = some (.int .i32) := by kernel_rfl
@[push_cast] theorem c177 : prog.cellsOf 177 = 4 := by kernel_rfl
@[push_cast] theorem g177 : isAggB prog 177 = true := by kernel_rfl
@[push_cast] theorem s177 : (prog.underlying 177).isSome = true := by kernel_rfl
@[push_cast] theorem i177 : (prog.info? 177).isSome = true := by kernel_rfl
@[push_cast] theorem m177 : concreteB prog 177 = true := by kernel_rfl
@[push_cast] theorem a177 : elemOk prog 177 = true := by kernel_rfl
@[push_cast] theorem b177 : bytesOf prog 177 = 16 := by kernel_rfl
@[push_cast] theorem z177 : zeroD prog 177 = some ([.t (.v (.int .i32 0)), .t (.v (.int .i32 0)), .t (.v (.int .i32 0)), .t (.v (.int .i32 0))]) := by kernel_rfl
@[push_cast] theorem f177_0 : fieldOf prog 177 0 = some (0, 1, 163) := by kernel_rfl
@[push_cast] theorem q177_0 : placeOf prog 177 0 = some (0, 1) := by kernel_rfl
@[push_cast] theorem f177_1 : fieldOf prog 177 1 = some (1, 1, 164) := by kernel_rfl
@[push_cast] theorem q177_1 : placeOf prog 177 1 = some (1, 1) := by kernel_rfl
@[push_cast] theorem f177_2 : fieldOf prog 177 2 = some (2, 1, 176) := by kernel_rfl
@[push_cast] theorem q177_2 : placeOf prog 177 2 = some (2, 1) := by kernel_rfl
@[push_cast] theorem f177_3 : fieldOf prog 177 3 = some (3, 1, 176) := by kernel_rfl
@[push_cast] theorem q177_3 : placeOf prog 177 3 = some (3, 1) := by kernel_rfl
@[push_cast] theorem p177 : placesOk prog 177 = true := by kernel_rfl
@[push_cast] theorem c178 : prog.cellsOf 178 = 4 := by kernel_rfl
@[push_cast] theorem g178 : isAggB prog 178 = true := by kernel_rfl
@[push_cast] theorem s178 : (prog.underlying 178).isSome = true := by kernel_rfl
@[push_cast] theorem i178 : (prog.info? 178).isSome = true := by kernel_rfl
@[push_cast] theorem m178 : concreteB prog 178 = true := by kernel_rfl
@[push_cast] theorem a178 : elemOk prog 178 = true := by kernel_rfl
@[push_cast] theorem b178 : bytesOf prog 178 = 16 := by kernel_rfl
@[push_cast] theorem z178 : zeroD prog 178 = some ([.t (.v (.int .i32 0)), .t (.v (.int .i32 0)), .t (.v (.int .i32 0)), .t (.v (.int .i32 0))]) := by kernel_rfl
@[push_cast] theorem f178_0 : fieldOf prog 178 0 = some (0, 1, 163) := by kernel_rfl
@[push_cast] theorem q178_0 : placeOf prog 178 0 = some (0, 1) := by kernel_rfl
@[push_cast] theorem f178_1 : fieldOf prog 178 1 = some (1, 1, 164) := by kernel_rfl
@[push_cast] theorem q178_1 : placeOf prog 178 1 = some (1, 1) := by kernel_rfl
@[push_cast] theorem f178_2 : fieldOf prog 178 2 = some (2, 1, 176) := by kernel_rfl
@[push_cast] theorem q178_2 : placeOf prog 178 2 = some (2, 1) := by kernel_rfl
@[push_cast] theorem f178_3 : fieldOf prog 178 3 = some (3, 1, 176) := by kernel_rfl
@[push_cast] theorem q178_3 : placeOf prog 178 3 = some (3, 1) := by kernel_rfl
@[push_cast] theorem p178 : placesOk prog 178 = true := by kernel_rfl
@[push_cast] theorem c179 : prog.cellsOf 179 = 1 := by kernel_rfl
@[push_cast] theorem g179 : isAggB prog 179 = false := by kernel_rfl
@[push_cast] theorem s179 : (prog.underlying 179).isSome = true := by kernel_rfl
@[push_cast] theorem i179 : (prog.info? 179).isSome = true := by kernel_rfl
@[push_cast] theorem m179 : concreteB prog 179 = true := by kernel_rfl
@[push_cast] theorem a179 : elemOk prog 179 = true := by kernel_rfl
@[push_cast] theorem b179 : bytesOf prog 179 = 8 := by kernel_rfl
@[push_cast] theorem z179 : zeroD prog 179 = some ([.t (.v (.pointer none))]) := by kernel_rfl
@[push_cast] theorem k2 : callOk prog 2 = true := by kernel_rfl
@[push_cast] theorem k3 : callOk prog 3 = true := by kernel_rfl
@[push_cast] theorem k4 : callOk prog 4 = true := by kernel_rfl
@[push_cast] theorem k5 : callOk prog 5 = true := by kernel_rfl
@[push_cast] theorem k6 : callOk prog 6 = true := by kernel_rfl
@[push_cast] theorem k7 : callOk prog 7 = true := by kernel_rfl
@[push_cast] theorem k8 : callOk prog 8 = true := by kernel_rfl
@[push_cast] theorem k9 : callOk prog 9 = true := by kernel_rfl
@[push_cast] theorem k10 : callOk prog 10 = true := by kernel_rfl
@[push_cast] theorem k11 : callOk prog 11 = true := by kernel_rfl
@[push_cast] theorem k12 : callOk prog 12 = true := by kernel_rfl
@[push_cast] theorem k13 : callOk prog 13 = true := by kernel_rfl
@[push_cast] theorem k14 : callOk prog 14 = true := by kernel_rfl
@[push_cast] theorem k15 : callOk prog 15 = true := by kernel_rfl
@[push_cast] theorem k16 : callOk prog 16 = true := by kernel_rfl
@[push_cast] theorem k17 : callOk prog 17 = true := by kernel_rfl
@[push_cast] theorem k18 : callOk prog 18 = true := by kernel_rfl
@[push_cast] theorem k19 : callOk prog 19 = true := by kernel_rfl
@[push_cast] theorem k20 : callOk prog 20 = true := by kernel_rfl
@[push_cast] theorem k21 : callOk prog 21 = true := by kernel_rfl
@[push_cast] theorem k22 : callOk prog 22 = true := by kernel_rfl
@[push_cast] theorem k23 : callOk prog 23 = true := by kernel_rfl
@[push_cast] theorem k24 : callOk prog 24 = true := by kernel_rfl
@[push_cast] theorem k25 : callOk prog 25 = true := by kernel_rfl
@[push_cast] theorem k26 : callOk prog 26 = true := by kernel_rfl
@[push_cast] theorem k27 : callOk prog 27 = true := by kernel_rfl
@[push_cast] theorem k28 : callOk prog 28 = true := by kernel_rfl
@[push_cast] theorem k29 : callOk prog 29 = true := by kernel_rfl
@[push_cast] theorem k30 : callOk prog 30 = true := by kernel_rfl
@[push_cast] theorem k31 : callOk prog 31 = true := by kernel_rfl
@[push_cast] theorem k32 : callOk prog 32 = true := by kernel_rfl
@[push_cast] theorem k33 : callOk prog 33 = true := by kernel_rfl
@[push_cast] theorem k34 : callOk prog 34 = true := by kernel_rfl
@[push_cast] theorem k35 : callOk prog 35 = true := by kernel_rfl
@[push_cast] theorem k36 : callOk prog 36 = true := by kernel_rfl
@[push_cast] theorem k37 : callOk prog 37 = true := by kernel_rfl
@[push_cast] theorem k39 : callOk prog 39 = true := by kernel_rfl
@[push_cast] theorem k40 : callOk prog 40 = true := by kernel_rfl
@[push_cast] theorem k41 : callOk prog 41 = true := by kernel_rfl
@[push_cast] theorem k42 : callOk prog 42 = true := by kernel_rfl
@[push_cast] theorem k43 : callOk prog 43 = true := by kernel_rfl
@[push_cast] theorem k44 : callOk prog 44 = true := by kernel_rfl
@[push_cast] theorem k45 : callOk prog 45 = true := by kernel_rfl
@[push_cast] theorem k46 : callOk prog 46 = true := by kernel_rfl
@[push_cast] theorem k47 : callOk prog 47 = true := by kernel_rfl
@[push_cast] theorem k48 : callOk prog 48 = true := by kernel_rfl
@[push_cast] theorem k49 : callOk prog 49 = true := by kernel_rfl
@[push_cast] theorem k50 : callOk prog 50 = true := by kernel_rfl
@[push_cast] theorem k51 : callOk prog 51 = true := by kernel_rfl
@[push_cast] theorem k52 : callOk prog 52 = true := by kernel_rfl
@[push_cast] theorem k53 : callOk prog 53 = true := by kernel_rfl
@[push_cast] theorem k54 : callOk prog 54 = true := by kernel_rfl
@[push_cast] theorem k55 : callOk prog 55 = true := by kernel_rfl
@[push_cast] theorem k56 : callOk prog 56 = true := by kernel_rfl
@[push_cast] theorem k57 : callOk prog 57 = true := by kernel_rfl
@[push_cast] theorem k58 : callOk prog 58 = true := by kernel_rfl
@[push_cast] theorem k59 : callOk prog 59 = true := by kernel_rfl
@[push_cast] theorem k60 : callOk prog 60 = true := by kernel_rfl
@[push_cast] theorem k61 : callOk prog 61 = true := by kernel_rfl
@[push_cast] theorem k62 : callOk prog 62 = true := by kernel_rfl
@[push_cast] theorem k66 : callOk prog 66 = true := by kernel_rfl
@[push_cast] theorem k67 : callOk prog 67 = true := by kernel_rfl
@[push_cast] theorem k68 : callOk prog 68 = true := by kernel_rfl
@[push_cast] theorem k69 : callOk prog 69 = true := by kernel_rfl
@[push_cast] theorem k70 : callOk prog 70 = true := by kernel_rfl
@[push_cast] theorem k71 : callOk prog 71 = true := by kernel_rfl
@[push_cast] theorem k72 : callOk prog 72 = true := by kernel_rfl
@[push_cast] theorem k73 : callOk prog 73 = true := by kernel_rfl
@[push_cast] theorem k74 : callOk prog 74 = true := by kernel_rfl
@[push_cast] theorem k79 : callOk prog 79 = true := by kernel_rfl
@[push_cast] theorem k99 : callOk prog 99 = true := by kernel_rfl
@[push_cast] theorem k114 : callOk prog 114 = true := by kernel_rfl
@[push_cast] theorem k122 : callOk prog 122 = true := by kernel_rfl
@[push_cast] theorem mix : prog.follows .mixedOrders = true := by kernel_rfl
end Go.Proofs.Tryd.F
