/- Facts about the program's types: made by wip/ot/facts.py. -/
import Derived.Test.YtgjinljngfbjmaaProg
import Derived.Test.YtgjinljngfbjmaaOtUse
set_option linter.unusedVariables false
namespace Go.Proofs.Try.F
open Go Go.Proofs Go.Ot
@[push_cast] theorem c1 : Try.prog.cellsOf 1 = 1 := by kernel_rfl
@[push_cast] theorem g1 : isAggB Try.prog 1 = false := by kernel_rfl
@[push_cast] theorem s1 : (Try.prog.underlying 1).isSome = true := by kernel_rfl
@[push_cast] theorem i1 : (Try.prog.info? 1).isSome = true := by kernel_rfl
@[push_cast] theorem m1 : concreteB Try.prog 1 = true := by kernel_rfl
@[push_cast] theorem a1 : elemOk Try.prog 1 = true := by kernel_rfl
@[push_cast] theorem b1 : bytesOf Try.prog 1 = 8 := by kernel_rfl
@[push_cast] theorem z1 : zeroD Try.prog 1 = some ([.t (.v .nilFunc)]) := by kernel_rfl
@[push_cast] theorem c2 : Try.prog.cellsOf 2 = 1 := by kernel_rfl
@[push_cast] theorem g2 : isAggB Try.prog 2 = false := by kernel_rfl
@[push_cast] theorem s2 : (Try.prog.underlying 2).isSome = true := by kernel_rfl
@[push_cast] theorem i2 : (Try.prog.info? 2).isSome = true := by kernel_rfl
@[push_cast] theorem m2 : concreteB Try.prog 2 = true := by kernel_rfl
@[push_cast] theorem a2 : elemOk Try.prog 2 = true := by kernel_rfl
@[push_cast] theorem b2 : bytesOf Try.prog 2 = 8 := by kernel_rfl
@[push_cast] theorem z2 : zeroD Try.prog 2 = some ([.t (.v (.int .i64 0))]) := by kernel_rfl
@[push_cast] theorem u2 : Try.prog.underlying 2 = some (.int .i64) := by kernel_rfl
@[push_cast] theorem c3 : Try.prog.cellsOf 3 = 1 := by kernel_rfl
@[push_cast] theorem g3 : isAggB Try.prog 3 = false := by kernel_rfl
@[push_cast] theorem s3 : (Try.prog.underlying 3).isSome = true := by kernel_rfl
@[push_cast] theorem i3 : (Try.prog.info? 3).isSome = true := by kernel_rfl
@[push_cast] theorem m3 : concreteB Try.prog 3 = true := by kernel_rfl
@[push_cast] theorem a3 : elemOk Try.prog 3 = true := by kernel_rfl
@[push_cast] theorem b3 : bytesOf Try.prog 3 = 8 := by kernel_rfl
@[push_cast] theorem z3 : zeroD Try.prog 3 = some ([.t (.v (.int .i64 0))]) := by kernel_rfl
@[push_cast] theorem u3 : Try.prog.underlying 3 = some (.int .i64) := by kernel_rfl
@[push_cast] theorem c4 : Try.prog.cellsOf 4 = 1 := by kernel_rfl
@[push_cast] theorem g4 : isAggB Try.prog 4 = false := by kernel_rfl
@[push_cast] theorem s4 : (Try.prog.underlying 4).isSome = true := by kernel_rfl
@[push_cast] theorem i4 : (Try.prog.info? 4).isSome = true := by kernel_rfl
@[push_cast] theorem m4 : concreteB Try.prog 4 = true := by kernel_rfl
@[push_cast] theorem a4 : elemOk Try.prog 4 = true := by kernel_rfl
@[push_cast] theorem b4 : bytesOf Try.prog 4 = 1 := by kernel_rfl
@[push_cast] theorem z4 : zeroD Try.prog 4 = some ([.t (.v (.bool false))]) := by kernel_rfl
@[push_cast] theorem u4 : Try.prog.underlying 4 = some .bool := by kernel_rfl
@[push_cast] theorem c5 : Try.prog.cellsOf 5 = 1 := by kernel_rfl
@[push_cast] theorem g5 : isAggB Try.prog 5 = false := by kernel_rfl
@[push_cast] theorem s5 : (Try.prog.underlying 5).isSome = true := by kernel_rfl
@[push_cast] theorem i5 : (Try.prog.info? 5).isSome = true := by kernel_rfl
@[push_cast] theorem m5 : concreteB Try.prog 5 = true := by kernel_rfl
@[push_cast] theorem a5 : elemOk Try.prog 5 = true := by kernel_rfl
@[push_cast] theorem b5 : bytesOf Try.prog 5 = 1 := by kernel_rfl
@[push_cast] theorem z5 : zeroD Try.prog 5 = some ([.t (.v (.int .u8 0))]) := by kernel_rfl
@[push_cast] theorem u5 : Try.prog.underlying 5 = some (.int .u8) := by kernel_rfl
@[push_cast] theorem c6 : Try.prog.cellsOf 6 = 1 := by kernel_rfl
@[push_cast] theorem g6 : isAggB Try.prog 6 = false := by kernel_rfl
@[push_cast] theorem s6 : (Try.prog.underlying 6).isSome = true := by kernel_rfl
@[push_cast] theorem i6 : (Try.prog.info? 6).isSome = true := by kernel_rfl
@[push_cast] theorem m6 : concreteB Try.prog 6 = true := by kernel_rfl
@[push_cast] theorem a6 : elemOk Try.prog 6 = true := by kernel_rfl
@[push_cast] theorem b6 : bytesOf Try.prog 6 = 1 := by kernel_rfl
@[push_cast] theorem z6 : zeroD Try.prog 6 = some ([.t (.v (.int .u8 0))]) := by kernel_rfl
@[push_cast] theorem u6 : Try.prog.underlying 6 = some (.int .u8) := by kernel_rfl
@[push_cast] theorem c7 : Try.prog.cellsOf 7 = 4 := by kernel_rfl
@[push_cast] theorem g7 : isAggB Try.prog 7 = true := by kernel_rfl
@[push_cast] theorem s7 : (Try.prog.underlying 7).isSome = true := by kernel_rfl
@[push_cast] theorem i7 : (Try.prog.info? 7).isSome = true := by kernel_rfl
@[push_cast] theorem m7 : concreteB Try.prog 7 = true := by kernel_rfl
@[push_cast] theorem a7 : elemOk Try.prog 7 = true := by kernel_rfl
@[push_cast] theorem b7 : bytesOf Try.prog 7 = 24 := by kernel_rfl
@[push_cast] theorem z7 : zeroD Try.prog 7 = some ([.t (.v (.int .i64 0)), .t (.v (.int .i64 0)), .t (.v (.bool false)), .t (.v (.int .u8 0))]) := by kernel_rfl
@[push_cast] theorem f7_0 : fieldOf Try.prog 7 0 = some (0, 1, 2) := by kernel_rfl
@[push_cast] theorem q7_0 : placeOf Try.prog 7 0 = some (0, 1) := by kernel_rfl
@[push_cast] theorem f7_1 : fieldOf Try.prog 7 1 = some (1, 1, 3) := by kernel_rfl
@[push_cast] theorem q7_1 : placeOf Try.prog 7 1 = some (1, 1) := by kernel_rfl
@[push_cast] theorem f7_2 : fieldOf Try.prog 7 2 = some (2, 1, 4) := by kernel_rfl
@[push_cast] theorem q7_2 : placeOf Try.prog 7 2 = some (2, 1) := by kernel_rfl
@[push_cast] theorem f7_3 : fieldOf Try.prog 7 3 = some (3, 1, 6) := by kernel_rfl
@[push_cast] theorem q7_3 : placeOf Try.prog 7 3 = some (3, 1) := by kernel_rfl
@[push_cast] theorem p7 : placesOk Try.prog 7 = true := by kernel_rfl
@[push_cast] theorem c8 : Try.prog.cellsOf 8 = 4 := by kernel_rfl
@[push_cast] theorem g8 : isAggB Try.prog 8 = true := by kernel_rfl
@[push_cast] theorem s8 : (Try.prog.underlying 8).isSome = true := by kernel_rfl
@[push_cast] theorem i8 : (Try.prog.info? 8).isSome = true := by kernel_rfl
@[push_cast] theorem m8 : concreteB Try.prog 8 = true := by kernel_rfl
@[push_cast] theorem a8 : elemOk Try.prog 8 = true := by kernel_rfl
@[push_cast] theorem b8 : bytesOf Try.prog 8 = 24 := by kernel_rfl
@[push_cast] theorem z8 : zeroD Try.prog 8 = some ([.t (.v (.int .i64 0)), .t (.v (.int .i64 0)), .t (.v (.bool false)), .t (.v (.int .u8 0))]) := by kernel_rfl
@[push_cast] theorem f8_0 : fieldOf Try.prog 8 0 = some (0, 1, 2) := by kernel_rfl
@[push_cast] theorem q8_0 : placeOf Try.prog 8 0 = some (0, 1) := by kernel_rfl
@[push_cast] theorem f8_1 : fieldOf Try.prog 8 1 = some (1, 1, 3) := by kernel_rfl
@[push_cast] theorem q8_1 : placeOf Try.prog 8 1 = some (1, 1) := by kernel_rfl
@[push_cast] theorem f8_2 : fieldOf Try.prog 8 2 = some (2, 1, 4) := by kernel_rfl
@[push_cast] theorem q8_2 : placeOf Try.prog 8 2 = some (2, 1) := by kernel_rfl
@[push_cast] theorem f8_3 : fieldOf Try.prog 8 3 = some (3, 1, 6) := by kernel_rfl
@[push_cast] theorem q8_3 : placeOf Try.prog 8 3 = some (3, 1) := by kernel_rfl
@[push_cast] theorem p8 : placesOk Try.prog 8 = true := by kernel_rfl
@[push_cast] theorem c9 : Try.prog.cellsOf 9 = 1 := by kernel_rfl
@[push_cast] theorem g9 : isAggB Try.prog 9 = false := by kernel_rfl
@[push_cast] theorem s9 : (Try.prog.underlying 9).isSome = true := by kernel_rfl
@[push_cast] theorem i9 : (Try.prog.info? 9).isSome = true := by kernel_rfl
@[push_cast] theorem m9 : concreteB Try.prog 9 = true := by kernel_rfl
@[push_cast] theorem a9 : elemOk Try.prog 9 = true := by kernel_rfl
@[push_cast] theorem b9 : bytesOf Try.prog 9 = 16 := by kernel_rfl
@[push_cast] theorem z9 : zeroD Try.prog 9 = some ([.t (.v (.string ⟨#[]⟩))]) := by kernel_rfl
@[push_cast] theorem u9 : Try.prog.underlying 9 = some .string := by kernel_rfl
@[push_cast] theorem c10 : Try.prog.cellsOf 10 = 1 := by kernel_rfl
@[push_cast] theorem g10 : isAggB Try.prog 10 = false := by kernel_rfl
@[push_cast] theorem s10 : (Try.prog.underlying 10).isSome = true := by kernel_rfl
@[push_cast] theorem i10 : (Try.prog.info? 10).isSome = true := by kernel_rfl
@[push_cast] theorem m10 : concreteB Try.prog 10 = true := by kernel_rfl
@[push_cast] theorem a10 : elemOk Try.prog 10 = true := by kernel_rfl
@[push_cast] theorem b10 : bytesOf Try.prog 10 = 16 := by kernel_rfl
@[push_cast] theorem z10 : zeroD Try.prog 10 = some ([.t (.v (.string ⟨#[]⟩))]) := by kernel_rfl
@[push_cast] theorem u10 : Try.prog.underlying 10 = some .string := by kernel_rfl
@[push_cast] theorem c11 : Try.prog.cellsOf 11 = 1 := by kernel_rfl
@[push_cast] theorem g11 : isAggB Try.prog 11 = false := by kernel_rfl
@[push_cast] theorem s11 : (Try.prog.underlying 11).isSome = true := by kernel_rfl
@[push_cast] theorem i11 : (Try.prog.info? 11).isSome = true := by kernel_rfl
@[push_cast] theorem m11 : concreteB Try.prog 11 = true := by kernel_rfl
@[push_cast] theorem a11 : elemOk Try.prog 11 = true := by kernel_rfl
@[push_cast] theorem b11 : bytesOf Try.prog 11 = 16 := by kernel_rfl
@[push_cast] theorem z11 : zeroD Try.prog 11 = some ([.t (.v (.string ⟨#[]⟩))]) := by kernel_rfl
@[push_cast] theorem u11 : Try.prog.underlying 11 = some .string := by kernel_rfl
@[push_cast] theorem c12 : Try.prog.cellsOf 12 = 1 := by kernel_rfl
@[push_cast] theorem g12 : isAggB Try.prog 12 = false := by kernel_rfl
@[push_cast] theorem s12 : (Try.prog.underlying 12).isSome = true := by kernel_rfl
@[push_cast] theorem i12 : (Try.prog.info? 12).isSome = true := by kernel_rfl
@[push_cast] theorem m12 : concreteB Try.prog 12 = true := by kernel_rfl
@[push_cast] theorem a12 : elemOk Try.prog 12 = true := by kernel_rfl
@[push_cast] theorem b12 : bytesOf Try.prog 12 = 8 := by kernel_rfl
@[push_cast] theorem z12 : zeroD Try.prog 12 = some ([.t (.v (.int .u64 0))]) := by kernel_rfl
@[push_cast] theorem u12 : Try.prog.underlying 12 = some (.int .u64) := by kernel_rfl
@[push_cast] theorem c13 : Try.prog.cellsOf 13 = 2 := by kernel_rfl
@[push_cast] theorem g13 : isAggB Try.prog 13 = true := by kernel_rfl
@[push_cast] theorem s13 : (Try.prog.underlying 13).isSome = true := by kernel_rfl
@[push_cast] theorem i13 : (Try.prog.info? 13).isSome = true := by kernel_rfl
@[push_cast] theorem m13 : concreteB Try.prog 13 = true := by kernel_rfl
@[push_cast] theorem a13 : elemOk Try.prog 13 = true := by kernel_rfl
@[push_cast] theorem b13 : bytesOf Try.prog 13 = 24 := by kernel_rfl
@[push_cast] theorem z13 : zeroD Try.prog 13 = some ([.t (.v (.string ⟨#[]⟩)), .t (.v (.int .u64 0))]) := by kernel_rfl
@[push_cast] theorem f13_0 : fieldOf Try.prog 13 0 = some (0, 1, 9) := by kernel_rfl
@[push_cast] theorem q13_0 : placeOf Try.prog 13 0 = some (0, 1) := by kernel_rfl
@[push_cast] theorem f13_1 : fieldOf Try.prog 13 1 = some (1, 1, 12) := by kernel_rfl
@[push_cast] theorem q13_1 : placeOf Try.prog 13 1 = some (1, 1) := by kernel_rfl
@[push_cast] theorem p13 : placesOk Try.prog 13 = true := by kernel_rfl
@[push_cast] theorem c14 : Try.prog.cellsOf 14 = 2 := by kernel_rfl
@[push_cast] theorem g14 : isAggB Try.prog 14 = true := by kernel_rfl
@[push_cast] theorem s14 : (Try.prog.underlying 14).isSome = true := by kernel_rfl
@[push_cast] theorem i14 : (Try.prog.info? 14).isSome = true := by kernel_rfl
@[push_cast] theorem m14 : concreteB Try.prog 14 = true := by kernel_rfl
@[push_cast] theorem a14 : elemOk Try.prog 14 = true := by kernel_rfl
@[push_cast] theorem b14 : bytesOf Try.prog 14 = 24 := by kernel_rfl
@[push_cast] theorem z14 : zeroD Try.prog 14 = some ([.t (.v (.string ⟨#[]⟩)), .t (.v (.int .u64 0))]) := by kernel_rfl
@[push_cast] theorem f14_0 : fieldOf Try.prog 14 0 = some (0, 1, 9) := by kernel_rfl
@[push_cast] theorem q14_0 : placeOf Try.prog 14 0 = some (0, 1) := by kernel_rfl
@[push_cast] theorem f14_1 : fieldOf Try.prog 14 1 = some (1, 1, 12) := by kernel_rfl
@[push_cast] theorem q14_1 : placeOf Try.prog 14 1 = some (1, 1) := by kernel_rfl
@[push_cast] theorem p14 : placesOk Try.prog 14 = true := by kernel_rfl
@[push_cast] theorem c15 : Try.prog.cellsOf 15 = 1 := by kernel_rfl
@[push_cast] theorem g15 : isAggB Try.prog 15 = false := by kernel_rfl
@[push_cast] theorem s15 : (Try.prog.underlying 15).isSome = true := by kernel_rfl
@[push_cast] theorem i15 : (Try.prog.info? 15).isSome = true := by kernel_rfl
@[push_cast] theorem m15 : concreteB Try.prog 15 = true := by kernel_rfl
@[push_cast] theorem a15 : elemOk Try.prog 15 = true := by kernel_rfl
@[push_cast] theorem b15 : bytesOf Try.prog 15 = 8 := by kernel_rfl
@[push_cast] theorem z15 : zeroD Try.prog 15 = some ([.t (.v (.pointer none))]) := by kernel_rfl
@[push_cast] theorem c16 : Try.prog.cellsOf 16 = 1 := by kernel_rfl
@[push_cast] theorem g16 : isAggB Try.prog 16 = false := by kernel_rfl
@[push_cast] theorem s16 : (Try.prog.underlying 16).isSome = true := by kernel_rfl
@[push_cast] theorem i16 : (Try.prog.info? 16).isSome = true := by kernel_rfl
@[push_cast] theorem m16 : concreteB Try.prog 16 = true := by kernel_rfl
@[push_cast] theorem a16 : elemOk Try.prog 16 = true := by kernel_rfl
@[push_cast] theorem b16 : bytesOf Try.prog 16 = 8 := by kernel_rfl
@[push_cast] theorem z16 : zeroD Try.prog 16 = some ([.t (.v (.pointer none))]) := by kernel_rfl
@[push_cast] theorem c17 : Try.prog.cellsOf 17 = 1 := by kernel_rfl
@[push_cast] theorem g17 : isAggB Try.prog 17 = false := by kernel_rfl
@[push_cast] theorem s17 : (Try.prog.underlying 17).isSome = true := by kernel_rfl
@[push_cast] theorem i17 : (Try.prog.info? 17).isSome = true := by kernel_rfl
@[push_cast] theorem m17 : concreteB Try.prog 17 = true := by kernel_rfl
@[push_cast] theorem a17 : elemOk Try.prog 17 = true := by kernel_rfl
@[push_cast] theorem b17 : bytesOf Try.prog 17 = 8 := by kernel_rfl
@[push_cast] theorem z17 : zeroD Try.prog 17 = some ([.t (.v (.pointer none))]) := by kernel_rfl
@[push_cast] theorem c18 : Try.prog.cellsOf 18 = 1 := by kernel_rfl
@[push_cast] theorem g18 : isAggB Try.prog 18 = true := by kernel_rfl
@[push_cast] theorem s18 : (Try.prog.underlying 18).isSome = true := by kernel_rfl
@[push_cast] theorem i18 : (Try.prog.info? 18).isSome = true := by kernel_rfl
@[push_cast] theorem m18 : concreteB Try.prog 18 = true := by kernel_rfl
@[push_cast] theorem a18 : elemOk Try.prog 18 = true := by kernel_rfl
@[push_cast] theorem b18 : bytesOf Try.prog 18 = 8 := by kernel_rfl
@[push_cast] theorem z18 : zeroD Try.prog 18 = some ([.t (.v (.pointer none))]) := by kernel_rfl
@[push_cast] theorem f18_0 : fieldOf Try.prog 18 0 = some (0, 1, 17) := by kernel_rfl
@[push_cast] theorem q18_0 : placeOf Try.prog 18 0 = some (0, 1) := by kernel_rfl
@[push_cast] theorem p18 : placesOk Try.prog 18 = true := by kernel_rfl
@[push_cast] theorem c19 : Try.prog.cellsOf 19 = 1 := by kernel_rfl
@[push_cast] theorem g19 : isAggB Try.prog 19 = true := by kernel_rfl
@[push_cast] theorem s19 : (Try.prog.underlying 19).isSome = true := by kernel_rfl
@[push_cast] theorem i19 : (Try.prog.info? 19).isSome = true := by kernel_rfl
@[push_cast] theorem m19 : concreteB Try.prog 19 = true := by kernel_rfl
@[push_cast] theorem a19 : elemOk Try.prog 19 = true := by kernel_rfl
@[push_cast] theorem b19 : bytesOf Try.prog 19 = 8 := by kernel_rfl
@[push_cast] theorem z19 : zeroD Try.prog 19 = some ([.t (.v (.pointer none))]) := by kernel_rfl
@[push_cast] theorem f19_0 : fieldOf Try.prog 19 0 = some (0, 1, 17) := by kernel_rfl
@[push_cast] theorem q19_0 : placeOf Try.prog 19 0 = some (0, 1) := by kernel_rfl
@[push_cast] theorem p19 : placesOk Try.prog 19 = true := by kernel_rfl
@[push_cast] theorem c20 : Try.prog.cellsOf 20 = 1 := by kernel_rfl
@[push_cast] theorem g20 : isAggB Try.prog 20 = false := by kernel_rfl
@[push_cast] theorem s20 : (Try.prog.underlying 20).isSome = true := by kernel_rfl
@[push_cast] theorem i20 : (Try.prog.info? 20).isSome = true := by kernel_rfl
@[push_cast] theorem a20 : elemOk Try.prog 20 = true := by kernel_rfl
@[push_cast] theorem b20 : bytesOf Try.prog 20 = 16 := by kernel_rfl
@[push_cast] theorem z20 : zeroD Try.prog 20 = some ([.t (.v .nilIface)]) := by kernel_rfl
@[push_cast] theorem u20 : Try.prog.underlying 20 = some (.interface (Try.prog.methodsAt 20)) := by kernel_rfl
@[push_cast] theorem c21 : Try.prog.cellsOf 21 = 1 := by kernel_rfl
@[push_cast] theorem g21 : isAggB Try.prog 21 = false := by kernel_rfl
@[push_cast] theorem s21 : (Try.prog.underlying 21).isSome = true := by kernel_rfl
@[push_cast] theorem i21 : (Try.prog.info? 21).isSome = true := by kernel_rfl
@[push_cast] theorem m21 : concreteB Try.prog 21 = true := by kernel_rfl
@[push_cast] theorem a21 : elemOk Try.prog 21 = true := by kernel_rfl
@[push_cast] theorem b21 : bytesOf Try.prog 21 = 4 := by kernel_rfl
@[push_cast] theorem z21 : zeroD Try.prog 21 = some ([.t (.v (.int .i32 0))]) := by kernel_rfl
@[push_cast] theorem u21 : Try.prog.underlying 21 = some (.int .i32) := by kernel_rfl
@[push_cast] theorem c22 : Try.prog.cellsOf 22 = 1 := by kernel_rfl
@[push_cast] theorem g22 : isAggB Try.prog 22 = false := by kernel_rfl
@[push_cast] theorem s22 : (Try.prog.underlying 22).isSome = true := by kernel_rfl
@[push_cast] theorem i22 : (Try.prog.info? 22).isSome = true := by kernel_rfl
@[push_cast] theorem m22 : concreteB Try.prog 22 = true := by kernel_rfl
@[push_cast] theorem a22 : elemOk Try.prog 22 = true := by kernel_rfl
@[push_cast] theorem b22 : bytesOf Try.prog 22 = 8 := by kernel_rfl
@[push_cast] theorem z22 : zeroD Try.prog 22 = some ([.t (.v .nilFunc)]) := by kernel_rfl
@[push_cast] theorem c23 : Try.prog.cellsOf 23 = 1 := by kernel_rfl
@[push_cast] theorem g23 : isAggB Try.prog 23 = false := by kernel_rfl
@[push_cast] theorem s23 : (Try.prog.underlying 23).isSome = true := by kernel_rfl
@[push_cast] theorem i23 : (Try.prog.info? 23).isSome = true := by kernel_rfl
@[push_cast] theorem m23 : concreteB Try.prog 23 = true := by kernel_rfl
@[push_cast] theorem a23 : elemOk Try.prog 23 = true := by kernel_rfl
@[push_cast] theorem b23 : bytesOf Try.prog 23 = 8 := by kernel_rfl
@[push_cast] theorem z23 : zeroD Try.prog 23 = some ([.t (.v .nilFunc)]) := by kernel_rfl
@[push_cast] theorem c24 : Try.prog.cellsOf 24 = 1 := by kernel_rfl
@[push_cast] theorem g24 : isAggB Try.prog 24 = false := by kernel_rfl
@[push_cast] theorem s24 : (Try.prog.underlying 24).isSome = true := by kernel_rfl
@[push_cast] theorem i24 : (Try.prog.info? 24).isSome = true := by kernel_rfl
@[push_cast] theorem m24 : concreteB Try.prog 24 = true := by kernel_rfl
@[push_cast] theorem a24 : elemOk Try.prog 24 = true := by kernel_rfl
@[push_cast] theorem b24 : bytesOf Try.prog 24 = 8 := by kernel_rfl
@[push_cast] theorem z24 : zeroD Try.prog 24 = some ([.t (.v .nilFunc)]) := by kernel_rfl
@[push_cast] theorem c25 : Try.prog.cellsOf 25 = 1 := by kernel_rfl
@[push_cast] theorem g25 : isAggB Try.prog 25 = false := by kernel_rfl
@[push_cast] theorem s25 : (Try.prog.underlying 25).isSome = true := by kernel_rfl
@[push_cast] theorem i25 : (Try.prog.info? 25).isSome = true := by kernel_rfl
@[push_cast] theorem m25 : concreteB Try.prog 25 = true := by kernel_rfl
@[push_cast] theorem a25 : elemOk Try.prog 25 = true := by kernel_rfl
@[push_cast] theorem b25 : bytesOf Try.prog 25 = 8 := by kernel_rfl
@[push_cast] theorem z25 : zeroD Try.prog 25 = some ([.t (.v .nilFunc)]) := by kernel_rfl
@[push_cast] theorem c26 : Try.prog.cellsOf 26 = 1 := by kernel_rfl
@[push_cast] theorem g26 : isAggB Try.prog 26 = false := by kernel_rfl
@[push_cast] theorem s26 : (Try.prog.underlying 26).isSome = true := by kernel_rfl
@[push_cast] theorem i26 : (Try.prog.info? 26).isSome = true := by kernel_rfl
@[push_cast] theorem m26 : concreteB Try.prog 26 = true := by kernel_rfl
@[push_cast] theorem a26 : elemOk Try.prog 26 = true := by kernel_rfl
@[push_cast] theorem b26 : bytesOf Try.prog 26 = 24 := by kernel_rfl
@[push_cast] theorem z26 : zeroD Try.prog 26 = some ([.t (.v (.slice none 0 0))]) := by kernel_rfl
@[push_cast] theorem u26 : Try.prog.underlying 26 = some (.slice 5) := by kernel_rfl
@[push_cast] theorem e26 : Try.prog.elem 26 = 5 := by kernel_rfl
@[push_cast] theorem c27 : Try.prog.cellsOf 27 = 1 := by kernel_rfl
@[push_cast] theorem g27 : isAggB Try.prog 27 = false := by kernel_rfl
@[push_cast] theorem s27 : (Try.prog.underlying 27).isSome = true := by kernel_rfl
@[push_cast] theorem i27 : (Try.prog.info? 27).isSome = true := by kernel_rfl
@[push_cast] theorem m27 : concreteB Try.prog 27 = true := by kernel_rfl
@[push_cast] theorem a27 : elemOk Try.prog 27 = true := by kernel_rfl
@[push_cast] theorem b27 : bytesOf Try.prog 27 = 8 := by kernel_rfl
@[push_cast] theorem z27 : zeroD Try.prog 27 = some ([.t (.v .nilFunc)]) := by kernel_rfl
@[push_cast] theorem c28 : Try.prog.cellsOf 28 = 1 := by kernel_rfl
@[push_cast] theorem g28 : isAggB Try.prog 28 = false := by kernel_rfl
@[push_cast] theorem s28 : (Try.prog.underlying 28).isSome = true := by kernel_rfl
@[push_cast] theorem i28 : (Try.prog.info? 28).isSome = true := by kernel_rfl
@[push_cast] theorem m28 : concreteB Try.prog 28 = true := by kernel_rfl
@[push_cast] theorem a28 : elemOk Try.prog 28 = true := by kernel_rfl
@[push_cast] theorem b28 : bytesOf Try.prog 28 = 2 := by kernel_rfl
@[push_cast] theorem z28 : zeroD Try.prog 28 = some ([.t (.v (.int .u16 0))]) := by kernel_rfl
@[push_cast] theorem u28 : Try.prog.underlying 28 = some (.int .u16) := by kernel_rfl
@[push_cast] theorem c29 : Try.prog.cellsOf 29 = 1 := by kernel_rfl
@[push_cast] theorem g29 : isAggB Try.prog 29 = false := by kernel_rfl
@[push_cast] theorem s29 : (Try.prog.underlying 29).isSome = true := by kernel_rfl
@[push_cast] theorem i29 : (Try.prog.info? 29).isSome = true := by kernel_rfl
@[push_cast] theorem m29 : concreteB Try.prog 29 = true := by kernel_rfl
@[push_cast] theorem a29 : elemOk Try.prog 29 = true := by kernel_rfl
@[push_cast] theorem b29 : bytesOf Try.prog 29 = 8 := by kernel_rfl
@[push_cast] theorem z29 : zeroD Try.prog 29 = some ([.t (.v .nilFunc)]) := by kernel_rfl
@[push_cast] theorem c30 : Try.prog.cellsOf 30 = 1 := by kernel_rfl
@[push_cast] theorem g30 : isAggB Try.prog 30 = false := by kernel_rfl
@[push_cast] theorem s30 : (Try.prog.underlying 30).isSome = true := by kernel_rfl
@[push_cast] theorem i30 : (Try.prog.info? 30).isSome = true := by kernel_rfl
@[push_cast] theorem m30 : concreteB Try.prog 30 = true := by kernel_rfl
@[push_cast] theorem a30 : elemOk Try.prog 30 = true := by kernel_rfl
@[push_cast] theorem b30 : bytesOf Try.prog 30 = 8 := by kernel_rfl
@[push_cast] theorem z30 : zeroD Try.prog 30 = some ([.t (.v .nilFunc)]) := by kernel_rfl
@[push_cast] theorem c31 : Try.prog.cellsOf 31 = 1 := by kernel_rfl
@[push_cast] theorem g31 : isAggB Try.prog 31 = false := by kernel_rfl
@[push_cast] theorem s31 : (Try.prog.underlying 31).isSome = true := by kernel_rfl
@[push_cast] theorem i31 : (Try.prog.info? 31).isSome = true := by kernel_rfl
@[push_cast] theorem m31 : concreteB Try.prog 31 = true := by kernel_rfl
@[push_cast] theorem a31 : elemOk Try.prog 31 = true := by kernel_rfl
@[push_cast] theorem b31 : bytesOf Try.prog 31 = 8 := by kernel_rfl
@[push_cast] theorem z31 : zeroD Try.prog 31 = some ([.t (.v .nilFunc)]) := by kernel_rfl
@[push_cast] theorem c32 : Try.prog.cellsOf 32 = 1 := by kernel_rfl
@[push_cast] theorem g32 : isAggB Try.prog 32 = false := by kernel_rfl
@[push_cast] theorem s32 : (Try.prog.underlying 32).isSome = true := by kernel_rfl
@[push_cast] theorem i32 : (Try.prog.info? 32).isSome = true := by kernel_rfl
@[push_cast] theorem m32 : concreteB Try.prog 32 = true := by kernel_rfl
@[push_cast] theorem a32 : elemOk Try.prog 32 = true := by kernel_rfl
@[push_cast] theorem b32 : bytesOf Try.prog 32 = 8 := by kernel_rfl
@[push_cast] theorem z32 : zeroD Try.prog 32 = some ([.t (.v .nilFunc)]) := by kernel_rfl
@[push_cast] theorem c33 : Try.prog.cellsOf 33 = 1 := by kernel_rfl
@[push_cast] theorem g33 : isAggB Try.prog 33 = false := by kernel_rfl
@[push_cast] theorem s33 : (Try.prog.underlying 33).isSome = true := by kernel_rfl
@[push_cast] theorem i33 : (Try.prog.info? 33).isSome = true := by kernel_rfl
@[push_cast] theorem m33 : concreteB Try.prog 33 = true := by kernel_rfl
@[push_cast] theorem a33 : elemOk Try.prog 33 = true := by kernel_rfl
@[push_cast] theorem b33 : bytesOf Try.prog 33 = 8 := by kernel_rfl
@[push_cast] theorem z33 : zeroD Try.prog 33 = some ([.t (.v .nilFunc)]) := by kernel_rfl
@[push_cast] theorem c34 : Try.prog.cellsOf 34 = 1 := by kernel_rfl
@[push_cast] theorem g34 : isAggB Try.prog 34 = false := by kernel_rfl
@[push_cast] theorem s34 : (Try.prog.underlying 34).isSome = true := by kernel_rfl
@[push_cast] theorem i34 : (Try.prog.info? 34).isSome = true := by kernel_rfl
@[push_cast] theorem m34 : concreteB Try.prog 34 = true := by kernel_rfl
@[push_cast] theorem a34 : elemOk Try.prog 34 = true := by kernel_rfl
@[push_cast] theorem b34 : bytesOf Try.prog 34 = 8 := by kernel_rfl
@[push_cast] theorem z34 : zeroD Try.prog 34 = some ([.t (.v .nilFunc)]) := by kernel_rfl
@[push_cast] theorem c35 : Try.prog.cellsOf 35 = 1 := by kernel_rfl
@[push_cast] theorem g35 : isAggB Try.prog 35 = false := by kernel_rfl
@[push_cast] theorem s35 : (Try.prog.underlying 35).isSome = true := by kernel_rfl
@[push_cast] theorem i35 : (Try.prog.info? 35).isSome = true := by kernel_rfl
@[push_cast] theorem m35 : concreteB Try.prog 35 = true := by kernel_rfl
@[push_cast] theorem a35 : elemOk Try.prog 35 = true := by kernel_rfl
@[push_cast] theorem b35 : bytesOf Try.prog 35 = 24 := by kernel_rfl
@[push_cast] theorem z35 : zeroD Try.prog 35 = some ([.t (.v (.slice none 0 0))]) := by kernel_rfl
@[push_cast] theorem u35 : Try.prog.underlying 35 = some (.slice 9) := by kernel_rfl
@[push_cast] theorem e35 : Try.prog.elem 35 = 9 := by kernel_rfl
@[push_cast] theorem c36 : Try.prog.cellsOf 36 = 1 := by kernel_rfl
@[push_cast] theorem g36 : isAggB Try.prog 36 = false := by kernel_rfl
@[push_cast] theorem s36 : (Try.prog.underlying 36).isSome = true := by kernel_rfl
@[push_cast] theorem i36 : (Try.prog.info? 36).isSome = true := by kernel_rfl
@[push_cast] theorem m36 : concreteB Try.prog 36 = true := by kernel_rfl
@[push_cast] theorem a36 : elemOk Try.prog 36 = true := by kernel_rfl
@[push_cast] theorem b36 : bytesOf Try.prog 36 = 8 := by kernel_rfl
@[push_cast] theorem z36 : zeroD Try.prog 36 = some ([.t (.v .nilFunc)]) := by kernel_rfl
@[push_cast] theorem c37 : Try.prog.cellsOf 37 = 1 := by kernel_rfl
@[push_cast] theorem g37 : isAggB Try.prog 37 = false := by kernel_rfl
@[push_cast] theorem s37 : (Try.prog.underlying 37).isSome = true := by kernel_rfl
@[push_cast] theorem i37 : (Try.prog.info? 37).isSome = true := by kernel_rfl
@[push_cast] theorem m37 : concreteB Try.prog 37 = true := by kernel_rfl
@[push_cast] theorem a37 : elemOk Try.prog 37 = true := by kernel_rfl
@[push_cast] theorem b37 : bytesOf Try.prog 37 = 8 := by kernel_rfl
@[push_cast] theorem z37 : zeroD Try.prog 37 = some ([.t (.v .nilFunc)]) := by kernel_rfl
@[push_cast] theorem c38 : Try.prog.cellsOf 38 = 1 := by kernel_rfl
@[push_cast] theorem g38 : isAggB Try.prog 38 = false := by kernel_rfl
@[push_cast] theorem s38 : (Try.prog.underlying 38).isSome = true := by kernel_rfl
@[push_cast] theorem i38 : (Try.prog.info? 38).isSome = true := by kernel_rfl
@[push_cast] theorem m38 : concreteB Try.prog 38 = true := by kernel_rfl
@[push_cast] theorem a38 : elemOk Try.prog 38 = true := by kernel_rfl
@[push_cast] theorem b38 : bytesOf Try.prog 38 = 8 := by kernel_rfl
@[push_cast] theorem z38 : zeroD Try.prog 38 = some ([.t (.v .nilFunc)]) := by kernel_rfl
@[push_cast] theorem c39 : Try.prog.cellsOf 39 = 1 := by kernel_rfl
@[push_cast] theorem g39 : isAggB Try.prog 39 = false := by kernel_rfl
@[push_cast] theorem s39 : (Try.prog.underlying 39).isSome = true := by kernel_rfl
@[push_cast] theorem i39 : (Try.prog.info? 39).isSome = true := by kernel_rfl
@[push_cast] theorem a39 : elemOk Try.prog 39 = true := by kernel_rfl
@[push_cast] theorem b39 : bytesOf Try.prog 39 = 16 := by kernel_rfl
@[push_cast] theorem z39 : zeroD Try.prog 39 = some ([.t (.v .nilIface)]) := by kernel_rfl
@[push_cast] theorem u39 : Try.prog.underlying 39 = some (.interface (Try.prog.methodsAt 39)) := by kernel_rfl
@[push_cast] theorem c40 : Try.prog.cellsOf 40 = 1 := by kernel_rfl
@[push_cast] theorem g40 : isAggB Try.prog 40 = false := by kernel_rfl
@[push_cast] theorem s40 : (Try.prog.underlying 40).isSome = true := by kernel_rfl
@[push_cast] theorem i40 : (Try.prog.info? 40).isSome = true := by kernel_rfl
@[push_cast] theorem a40 : elemOk Try.prog 40 = true := by kernel_rfl
@[push_cast] theorem b40 : bytesOf Try.prog 40 = 16 := by kernel_rfl
@[push_cast] theorem z40 : zeroD Try.prog 40 = some ([.t (.v .nilIface)]) := by kernel_rfl
@[push_cast] theorem u40 : Try.prog.underlying 40 = some (.interface (Try.prog.methodsAt 40)) := by kernel_rfl
@[push_cast] theorem c41 : Try.prog.cellsOf 41 = 1 := by kernel_rfl
@[push_cast] theorem g41 : isAggB Try.prog 41 = false := by kernel_rfl
@[push_cast] theorem s41 : (Try.prog.underlying 41).isSome = true := by kernel_rfl
@[push_cast] theorem i41 : (Try.prog.info? 41).isSome = true := by kernel_rfl
@[push_cast] theorem m41 : concreteB Try.prog 41 = true := by kernel_rfl
@[push_cast] theorem a41 : elemOk Try.prog 41 = true := by kernel_rfl
@[push_cast] theorem b41 : bytesOf Try.prog 41 = 8 := by kernel_rfl
@[push_cast] theorem z41 : zeroD Try.prog 41 = some ([.t (.v .nilFunc)]) := by kernel_rfl
@[push_cast] theorem c42 : Try.prog.cellsOf 42 = 1 := by kernel_rfl
@[push_cast] theorem g42 : isAggB Try.prog 42 = false := by kernel_rfl
@[push_cast] theorem s42 : (Try.prog.underlying 42).isSome = true := by kernel_rfl
@[push_cast] theorem i42 : (Try.prog.info? 42).isSome = true := by kernel_rfl
@[push_cast] theorem m42 : concreteB Try.prog 42 = true := by kernel_rfl
@[push_cast] theorem a42 : elemOk Try.prog 42 = true := by kernel_rfl
@[push_cast] theorem b42 : bytesOf Try.prog 42 = 8 := by kernel_rfl
@[push_cast] theorem z42 : zeroD Try.prog 42 = some ([.t (.v .nilFunc)]) := by kernel_rfl
@[push_cast] theorem c43 : Try.prog.cellsOf 43 = 1 := by kernel_rfl
@[push_cast] theorem g43 : isAggB Try.prog 43 = false := by kernel_rfl
@[push_cast] theorem s43 : (Try.prog.underlying 43).isSome = true := by kernel_rfl
@[push_cast] theorem i43 : (Try.prog.info? 43).isSome = true := by kernel_rfl
@[push_cast] theorem m43 : concreteB Try.prog 43 = true := by kernel_rfl
@[push_cast] theorem a43 : elemOk Try.prog 43 = true := by kernel_rfl
@[push_cast] theorem b43 : bytesOf Try.prog 43 = 16 := by kernel_rfl
@[push_cast] theorem z43 : zeroD Try.prog 43 = some ([.t (.v (.string ⟨#[]⟩))]) := by kernel_rfl
@[push_cast] theorem u43 : Try.prog.underlying 43 = some .string := by kernel_rfl
@[push_cast] theorem c44 : Try.prog.cellsOf 44 = 1 := by kernel_rfl
@[push_cast] theorem g44 : isAggB Try.prog 44 = false := by kernel_rfl
@[push_cast] theorem s44 : (Try.prog.underlying 44).isSome = true := by kernel_rfl
@[push_cast] theorem i44 : (Try.prog.info? 44).isSome = true := by kernel_rfl
@[push_cast] theorem m44 : concreteB Try.prog 44 = true := by kernel_rfl
@[push_cast] theorem a44 : elemOk Try.prog 44 = true := by kernel_rfl
@[push_cast] theorem b44 : bytesOf Try.prog 44 = 8 := by kernel_rfl
@[push_cast] theorem z44 : zeroD Try.prog 44 = some ([.t (.v (.pointer none))]) := by kernel_rfl
@[push_cast] theorem c45 : Try.prog.cellsOf 45 = 2 := by kernel_rfl
@[push_cast] theorem g45 : isAggB Try.prog 45 = true := by kernel_rfl
@[push_cast] theorem s45 : (Try.prog.underlying 45).isSome = true := by kernel_rfl
@[push_cast] theorem i45 : (Try.prog.info? 45).isSome = true := by kernel_rfl
@[push_cast] theorem m45 : concreteB Try.prog 45 = true := by kernel_rfl
@[push_cast] theorem a45 : elemOk Try.prog 45 = true := by kernel_rfl
@[push_cast] theorem b45 : bytesOf Try.prog 45 = 32 := by kernel_rfl
@[push_cast] theorem z45 : zeroD Try.prog 45 = some ([.t (.v (.pointer none)), .t (.v (.slice none 0 0))]) := by kernel_rfl
@[push_cast] theorem f45_0 : fieldOf Try.prog 45 0 = some (0, 1, 44) := by kernel_rfl
@[push_cast] theorem q45_0 : placeOf Try.prog 45 0 = some (0, 1) := by kernel_rfl
@[push_cast] theorem f45_1 : fieldOf Try.prog 45 1 = some (1, 1, 26) := by kernel_rfl
@[push_cast] theorem q45_1 : placeOf Try.prog 45 1 = some (1, 1) := by kernel_rfl
@[push_cast] theorem p45 : placesOk Try.prog 45 = true := by kernel_rfl
@[push_cast] theorem c46 : Try.prog.cellsOf 46 = 2 := by kernel_rfl
@[push_cast] theorem g46 : isAggB Try.prog 46 = true := by kernel_rfl
@[push_cast] theorem s46 : (Try.prog.underlying 46).isSome = true := by kernel_rfl
@[push_cast] theorem i46 : (Try.prog.info? 46).isSome = true := by kernel_rfl
@[push_cast] theorem m46 : concreteB Try.prog 46 = true := by kernel_rfl
@[push_cast] theorem a46 : elemOk Try.prog 46 = true := by kernel_rfl
@[push_cast] theorem b46 : bytesOf Try.prog 46 = 32 := by kernel_rfl
@[push_cast] theorem z46 : zeroD Try.prog 46 = some ([.t (.v (.pointer none)), .t (.v (.slice none 0 0))]) := by kernel_rfl
@[push_cast] theorem f46_0 : fieldOf Try.prog 46 0 = some (0, 1, 44) := by kernel_rfl
@[push_cast] theorem q46_0 : placeOf Try.prog 46 0 = some (0, 1) := by kernel_rfl
@[push_cast] theorem f46_1 : fieldOf Try.prog 46 1 = some (1, 1, 26) := by kernel_rfl
@[push_cast] theorem q46_1 : placeOf Try.prog 46 1 = some (1, 1) := by kernel_rfl
@[push_cast] theorem p46 : placesOk Try.prog 46 = true := by kernel_rfl
@[push_cast] theorem c47 : Try.prog.cellsOf 47 = 1 := by kernel_rfl
@[push_cast] theorem g47 : isAggB Try.prog 47 = false := by kernel_rfl
@[push_cast] theorem s47 : (Try.prog.underlying 47).isSome = true := by kernel_rfl
@[push_cast] theorem i47 : (Try.prog.info? 47).isSome = true := by kernel_rfl
@[push_cast] theorem m47 : concreteB Try.prog 47 = true := by kernel_rfl
@[push_cast] theorem a47 : elemOk Try.prog 47 = true := by kernel_rfl
@[push_cast] theorem b47 : bytesOf Try.prog 47 = 8 := by kernel_rfl
@[push_cast] theorem z47 : zeroD Try.prog 47 = some ([.t (.v .nilFunc)]) := by kernel_rfl
@[push_cast] theorem c49 : Try.prog.cellsOf 49 = 1 := by kernel_rfl
@[push_cast] theorem g49 : isAggB Try.prog 49 = false := by kernel_rfl
@[push_cast] theorem s49 : (Try.prog.underlying 49).isSome = true := by kernel_rfl
@[push_cast] theorem i49 : (Try.prog.info? 49).isSome = true := by kernel_rfl
@[push_cast] theorem m49 : concreteB Try.prog 49 = true := by kernel_rfl
@[push_cast] theorem a49 : elemOk Try.prog 49 = true := by kernel_rfl
@[push_cast] theorem b49 : bytesOf Try.prog 49 = 8 := by kernel_rfl
@[push_cast] theorem z49 : zeroD Try.prog 49 = some ([.t (.v .nilFunc)]) := by kernel_rfl
@[push_cast] theorem c50 : Try.prog.cellsOf 50 = 1 := by kernel_rfl
@[push_cast] theorem g50 : isAggB Try.prog 50 = false := by kernel_rfl
@[push_cast] theorem s50 : (Try.prog.underlying 50).isSome = true := by kernel_rfl
@[push_cast] theorem i50 : (Try.prog.info? 50).isSome = true := by kernel_rfl
@[push_cast] theorem m50 : concreteB Try.prog 50 = true := by kernel_rfl
@[push_cast] theorem a50 : elemOk Try.prog 50 = true := by kernel_rfl
@[push_cast] theorem b50 : bytesOf Try.prog 50 = 8 := by kernel_rfl
@[push_cast] theorem z50 : zeroD Try.prog 50 = some ([.t (.v .nilFunc)]) := by kernel_rfl
@[push_cast] theorem c51 : Try.prog.cellsOf 51 = 1 := by kernel_rfl
@[push_cast] theorem g51 : isAggB Try.prog 51 = false := by kernel_rfl
@[push_cast] theorem s51 : (Try.prog.underlying 51).isSome = true := by kernel_rfl
@[push_cast] theorem i51 : (Try.prog.info? 51).isSome = true := by kernel_rfl
@[push_cast] theorem m51 : concreteB Try.prog 51 = true := by kernel_rfl
@[push_cast] theorem a51 : elemOk Try.prog 51 = true := by kernel_rfl
@[push_cast] theorem b51 : bytesOf Try.prog 51 = 8 := by kernel_rfl
@[push_cast] theorem z51 : zeroD Try.prog 51 = some ([.t (.v .nilFunc)]) := by kernel_rfl
@[push_cast] theorem c52 : Try.prog.cellsOf 52 = 1 := by kernel_rfl
@[push_cast] theorem g52 : isAggB Try.prog 52 = false := by kernel_rfl
@[push_cast] theorem s52 : (Try.prog.underlying 52).isSome = true := by kernel_rfl
@[push_cast] theorem i52 : (Try.prog.info? 52).isSome = true := by kernel_rfl
@[push_cast] theorem m52 : concreteB Try.prog 52 = true := by kernel_rfl
@[push_cast] theorem a52 : elemOk Try.prog 52 = true := by kernel_rfl
@[push_cast] theorem b52 : bytesOf Try.prog 52 = 8 := by kernel_rfl
@[push_cast] theorem z52 : zeroD Try.prog 52 = some ([.t (.v (.int .u64 0))]) := by kernel_rfl
@[push_cast] theorem u52 : Try.prog.underlying 52 = some (.int .u64) := by kernel_rfl
@[push_cast] theorem c53 : Try.prog.cellsOf 53 = 1 := by kernel_rfl
@[push_cast] theorem g53 : isAggB Try.prog 53 = false := by kernel_rfl
@[push_cast] theorem s53 : (Try.prog.underlying 53).isSome = true := by kernel_rfl
@[push_cast] theorem i53 : (Try.prog.info? 53).isSome = true := by kernel_rfl
@[push_cast] theorem m53 : concreteB Try.prog 53 = true := by kernel_rfl
@[push_cast] theorem a53 : elemOk Try.prog 53 = true := by kernel_rfl
@[push_cast] theorem b53 : bytesOf Try.prog 53 = 8 := by kernel_rfl
@[push_cast] theorem z53 : zeroD Try.prog 53 = some ([.t (.v .nilFunc)]) := by kernel_rfl
@[push_cast] theorem c54 : Try.prog.cellsOf 54 = 1 := by kernel_rfl
@[push_cast] theorem g54 : isAggB Try.prog 54 = false := by kernel_rfl
@[push_cast] theorem s54 : (Try.prog.underlying 54).isSome = true := by kernel_rfl
@[push_cast] theorem i54 : (Try.prog.info? 54).isSome = true := by kernel_rfl
@[push_cast] theorem m54 : concreteB Try.prog 54 = true := by kernel_rfl
@[push_cast] theorem a54 : elemOk Try.prog 54 = true := by kernel_rfl
@[push_cast] theorem b54 : bytesOf Try.prog 54 = 4 := by kernel_rfl
@[push_cast] theorem z54 : zeroD Try.prog 54 = some ([.t (.v (.int .u32 0))]) := by kernel_rfl
@[push_cast] theorem u54 : Try.prog.underlying 54 = some (.int .u32) := by kernel_rfl
@[push_cast] theorem c55 : Try.prog.cellsOf 55 = 8 := by kernel_rfl
@[push_cast] theorem g55 : isAggB Try.prog 55 = true := by kernel_rfl
@[push_cast] theorem s55 : (Try.prog.underlying 55).isSome = true := by kernel_rfl
@[push_cast] theorem i55 : (Try.prog.info? 55).isSome = true := by kernel_rfl
@[push_cast] theorem m55 : concreteB Try.prog 55 = true := by kernel_rfl
@[push_cast] theorem a55 : elemOk Try.prog 55 = true := by kernel_rfl
@[push_cast] theorem b55 : bytesOf Try.prog 55 = 32 := by kernel_rfl
@[push_cast] theorem z55 : zeroD Try.prog 55 = some ([.t (.v (.int .u32 0)), .t (.v (.int .u32 0)), .t (.v (.int .u32 0)), .t (.v (.int .u32 0)), .t (.v (.int .u32 0)), .t (.v (.int .u32 0)), .t (.v (.int .u32 0)), .t (.v (.int .u32 0))]) := by kernel_rfl
@[push_cast] theorem u55 : Try.prog.underlying 55 = some (.array 8 54) := by kernel_rfl
@[push_cast] theorem e55 : Try.prog.elem 55 = 54 := by kernel_rfl
@[push_cast] theorem l55 : Try.prog.arrayLen 55 = 8 := by kernel_rfl
@[push_cast] theorem p55 : placesOk Try.prog 55 = true := by kernel_rfl
@[push_cast] theorem q55 (i : Nat) : placeOf Try.prog 55 i = some (i * 1, 1) := by rw [placeOf_arr u55, c54]
@[push_cast] theorem c56 : Try.prog.cellsOf 56 = 1 := by kernel_rfl
@[push_cast] theorem g56 : isAggB Try.prog 56 = false := by kernel_rfl
@[push_cast] theorem s56 : (Try.prog.underlying 56).isSome = true := by kernel_rfl
@[push_cast] theorem i56 : (Try.prog.info? 56).isSome = true := by kernel_rfl
@[push_cast] theorem m56 : concreteB Try.prog 56 = true := by kernel_rfl
@[push_cast] theorem a56 : elemOk Try.prog 56 = true := by kernel_rfl
@[push_cast] theorem b56 : bytesOf Try.prog 56 = 8 := by kernel_rfl
@[push_cast] theorem z56 : zeroD Try.prog 56 = some ([.t (.v .nilFunc)]) := by kernel_rfl
@[push_cast] theorem c57 : Try.prog.cellsOf 57 = 64 := by kernel_rfl
@[push_cast] theorem g57 : isAggB Try.prog 57 = true := by kernel_rfl
@[push_cast] theorem s57 : (Try.prog.underlying 57).isSome = true := by kernel_rfl
@[push_cast] theorem i57 : (Try.prog.info? 57).isSome = true := by kernel_rfl
@[push_cast] theorem m57 : concreteB Try.prog 57 = true := by kernel_rfl
@[push_cast] theorem a57 : elemOk Try.prog 57 = true := by kernel_rfl
@[push_cast] theorem b57 : bytesOf Try.prog 57 = 256 := by kernel_rfl
@[push_cast] theorem z57 : zeroD Try.prog 57 = some (List.replicate 64 (.t (.v (.int .u32 0)))) := by kernel_rfl
@[push_cast] theorem u57 : Try.prog.underlying 57 = some (.array 64 54) := by kernel_rfl
@[push_cast] theorem e57 : Try.prog.elem 57 = 54 := by kernel_rfl
@[push_cast] theorem l57 : Try.prog.arrayLen 57 = 64 := by kernel_rfl
@[push_cast] theorem p57 : placesOk Try.prog 57 = true := by kernel_rfl
@[push_cast] theorem q57 (i : Nat) : placeOf Try.prog 57 i = some (i * 1, 1) := by rw [placeOf_arr u57, c54]
@[push_cast] theorem c58 : Try.prog.cellsOf 58 = 1 := by kernel_rfl
@[push_cast] theorem g58 : isAggB Try.prog 58 = false := by kernel_rfl
@[push_cast] theorem s58 : (Try.prog.underlying 58).isSome = true := by kernel_rfl
@[push_cast] theorem i58 : (Try.prog.info? 58).isSome = true := by kernel_rfl
@[push_cast] theorem m58 : concreteB Try.prog 58 = true := by kernel_rfl
@[push_cast] theorem a58 : elemOk Try.prog 58 = true := by kernel_rfl
@[push_cast] theorem b58 : bytesOf Try.prog 58 = 8 := by kernel_rfl
@[push_cast] theorem z58 : zeroD Try.prog 58 = some ([.t (.v .nilFunc)]) := by kernel_rfl
@[push_cast] theorem c59 : Try.prog.cellsOf 59 = 1 := by kernel_rfl
@[push_cast] theorem g59 : isAggB Try.prog 59 = false := by kernel_rfl
@[push_cast] theorem s59 : (Try.prog.underlying 59).isSome = true := by kernel_rfl
@[push_cast] theorem i59 : (Try.prog.info? 59).isSome = true := by kernel_rfl
@[push_cast] theorem m59 : concreteB Try.prog 59 = true := by kernel_rfl
@[push_cast] theorem a59 : elemOk Try.prog 59 = true := by kernel_rfl
@[push_cast] theorem b59 : bytesOf Try.prog 59 = 8 := by kernel_rfl
@[push_cast] theorem z59 : zeroD Try.prog 59 = some ([.t (.v .nilFunc)]) := by kernel_rfl
@[push_cast] theorem c60 : Try.prog.cellsOf 60 = 1 := by kernel_rfl
@[push_cast] theorem g60 : isAggB Try.prog 60 = false := by kernel_rfl
@[push_cast] theorem s60 : (Try.prog.underlying 60).isSome = true := by kernel_rfl
@[push_cast] theorem i60 : (Try.prog.info? 60).isSome = true := by kernel_rfl
@[push_cast] theorem m60 : concreteB Try.prog 60 = true := by kernel_rfl
@[push_cast] theorem a60 : elemOk Try.prog 60 = true := by kernel_rfl
@[push_cast] theorem b60 : bytesOf Try.prog 60 = 8 := by kernel_rfl
@[push_cast] theorem z60 : zeroD Try.prog 60 = some ([.t (.v (.int .u64 0))]) := by kernel_rfl
@[push_cast] theorem u60 : Try.prog.underlying 60 = some (.int .u64) := by kernel_rfl
@[push_cast] theorem c61 : Try.prog.cellsOf 61 = 1 := by kernel_rfl
@[push_cast] theorem g61 : isAggB Try.prog 61 = false := by kernel_rfl
@[push_cast] theorem s61 : (Try.prog.underlying 61).isSome = true := by kernel_rfl
@[push_cast] theorem i61 : (Try.prog.info? 61).isSome = true := by kernel_rfl
@[push_cast] theorem m61 : concreteB Try.prog 61 = true := by kernel_rfl
@[push_cast] theorem a61 : elemOk Try.prog 61 = true := by kernel_rfl
@[push_cast] theorem b61 : bytesOf Try.prog 61 = 8 := by kernel_rfl
@[push_cast] theorem z61 : zeroD Try.prog 61 = some ([.t (.v .nilFunc)]) := by kernel_rfl
@[push_cast] theorem c62 : Try.prog.cellsOf 62 = 1 := by kernel_rfl
@[push_cast] theorem g62 : isAggB Try.prog 62 = false := by kernel_rfl
@[push_cast] theorem s62 : (Try.prog.underlying 62).isSome = true := by kernel_rfl
@[push_cast] theorem i62 : (Try.prog.info? 62).isSome = true := by kernel_rfl
@[push_cast] theorem m62 : concreteB Try.prog 62 = true := by kernel_rfl
@[push_cast] theorem a62 : elemOk Try.prog 62 = true := by kernel_rfl
@[push_cast] theorem b62 : bytesOf Try.prog 62 = 24 := by kernel_rfl
@[push_cast] theorem z62 : zeroD Try.prog 62 = some ([.t (.v (.slice none 0 0))]) := by kernel_rfl
@[push_cast] theorem u62 : Try.prog.underlying 62 = some (.slice 54) := by kernel_rfl
@[push_cast] theorem e62 : Try.prog.elem 62 = 54 := by kernel_rfl
@[push_cast] theorem c63 : Try.prog.cellsOf 63 = 1 := by kernel_rfl
@[push_cast] theorem g63 : isAggB Try.prog 63 = false := by kernel_rfl
@[push_cast] theorem s63 : (Try.prog.underlying 63).isSome = true := by kernel_rfl
@[push_cast] theorem i63 : (Try.prog.info? 63).isSome = true := by kernel_rfl
@[push_cast] theorem m63 : concreteB Try.prog 63 = true := by kernel_rfl
@[push_cast] theorem a63 : elemOk Try.prog 63 = true := by kernel_rfl
@[push_cast] theorem b63 : bytesOf Try.prog 63 = 8 := by kernel_rfl
@[push_cast] theorem z63 : zeroD Try.prog 63 = some ([.t (.v .nilFunc)]) := by kernel_rfl
@[push_cast] theorem c64 : Try.prog.cellsOf 64 = 1 := by kernel_rfl
@[push_cast] theorem g64 : isAggB Try.prog 64 = false := by kernel_rfl
@[push_cast] theorem s64 : (Try.prog.underlying 64).isSome = true := by kernel_rfl
@[push_cast] theorem i64 : (Try.prog.info? 64).isSome = true := by kernel_rfl
@[push_cast] theorem m64 : concreteB Try.prog 64 = true := by kernel_rfl
@[push_cast] theorem a64 : elemOk Try.prog 64 = true := by kernel_rfl
@[push_cast] theorem b64 : bytesOf Try.prog 64 = 8 := by kernel_rfl
@[push_cast] theorem z64 : zeroD Try.prog 64 = some ([.t (.v .nilFunc)]) := by kernel_rfl
@[push_cast] theorem c65 : Try.prog.cellsOf 65 = 1 := by kernel_rfl
@[push_cast] theorem g65 : isAggB Try.prog 65 = false := by kernel_rfl
@[push_cast] theorem s65 : (Try.prog.underlying 65).isSome = true := by kernel_rfl
@[push_cast] theorem i65 : (Try.prog.info? 65).isSome = true := by kernel_rfl
@[push_cast] theorem m65 : concreteB Try.prog 65 = true := by kernel_rfl
@[push_cast] theorem a65 : elemOk Try.prog 65 = true := by kernel_rfl
@[push_cast] theorem b65 : bytesOf Try.prog 65 = 8 := by kernel_rfl
@[push_cast] theorem z65 : zeroD Try.prog 65 = some ([.t (.v .nilFunc)]) := by kernel_rfl
@[push_cast] theorem c66 : Try.prog.cellsOf 66 = 1 := by kernel_rfl
@[push_cast] theorem g66 : isAggB Try.prog 66 = true := by kernel_rfl
@[push_cast] theorem s66 : (Try.prog.underlying 66).isSome = true := by kernel_rfl
@[push_cast] theorem i66 : (Try.prog.info? 66).isSome = true := by kernel_rfl
@[push_cast] theorem m66 : concreteB Try.prog 66 = true := by kernel_rfl
@[push_cast] theorem a66 : elemOk Try.prog 66 = true := by kernel_rfl
@[push_cast] theorem b66 : bytesOf Try.prog 66 = 16 := by kernel_rfl
@[push_cast] theorem z66 : zeroD Try.prog 66 = some ([.t (.v .nilIface)]) := by kernel_rfl
@[push_cast] theorem f66_0 : fieldOf Try.prog 66 0 = some (0, 1, 40) := by kernel_rfl
@[push_cast] theorem q66_0 : placeOf Try.prog 66 0 = some (0, 1) := by kernel_rfl
@[push_cast] theorem p66 : placesOk Try.prog 66 = true := by kernel_rfl
@[push_cast] theorem c67 : Try.prog.cellsOf 67 = 1 := by kernel_rfl
@[push_cast] theorem g67 : isAggB Try.prog 67 = true := by kernel_rfl
@[push_cast] theorem s67 : (Try.prog.underlying 67).isSome = true := by kernel_rfl
@[push_cast] theorem i67 : (Try.prog.info? 67).isSome = true := by kernel_rfl
@[push_cast] theorem m67 : concreteB Try.prog 67 = true := by kernel_rfl
@[push_cast] theorem a67 : elemOk Try.prog 67 = true := by kernel_rfl
@[push_cast] theorem b67 : bytesOf Try.prog 67 = 16 := by kernel_rfl
@[push_cast] theorem z67 : zeroD Try.prog 67 = some ([.t (.v .nilIface)]) := by kernel_rfl
@[push_cast] theorem f67_0 : fieldOf Try.prog 67 0 = some (0, 1, 40) := by kernel_rfl
@[push_cast] theorem q67_0 : placeOf Try.prog 67 0 = some (0, 1) := by kernel_rfl
@[push_cast] theorem p67 : placesOk Try.prog 67 = true := by kernel_rfl
@[push_cast] theorem c68 : Try.prog.cellsOf 68 = 1 := by kernel_rfl
@[push_cast] theorem g68 : isAggB Try.prog 68 = false := by kernel_rfl
@[push_cast] theorem s68 : (Try.prog.underlying 68).isSome = true := by kernel_rfl
@[push_cast] theorem i68 : (Try.prog.info? 68).isSome = true := by kernel_rfl
@[push_cast] theorem a68 : elemOk Try.prog 68 = true := by kernel_rfl
@[push_cast] theorem b68 : bytesOf Try.prog 68 = 16 := by kernel_rfl
@[push_cast] theorem z68 : zeroD Try.prog 68 = some ([.t (.v .nilIface)]) := by kernel_rfl
@[push_cast] theorem u68 : Try.prog.underlying 68 = some (.interface (Try.prog.methodsAt 68)) := by kernel_rfl
@[push_cast] theorem c69 : Try.prog.cellsOf 69 = 1 := by kernel_rfl
@[push_cast] theorem g69 : isAggB Try.prog 69 = false := by kernel_rfl
@[push_cast] theorem s69 : (Try.prog.underlying 69).isSome = true := by kernel_rfl
@[push_cast] theorem i69 : (Try.prog.info? 69).isSome = true := by kernel_rfl
@[push_cast] theorem a69 : elemOk Try.prog 69 = true := by kernel_rfl
@[push_cast] theorem b69 : bytesOf Try.prog 69 = 16 := by kernel_rfl
@[push_cast] theorem z69 : zeroD Try.prog 69 = some ([.t (.v .nilIface)]) := by kernel_rfl
@[push_cast] theorem u69 : Try.prog.underlying 69 = some (.interface (Try.prog.methodsAt 69)) := by kernel_rfl
@[push_cast] theorem c70 : Try.prog.cellsOf 70 = 1 := by kernel_rfl
@[push_cast] theorem g70 : isAggB Try.prog 70 = false := by kernel_rfl
@[push_cast] theorem s70 : (Try.prog.underlying 70).isSome = true := by kernel_rfl
@[push_cast] theorem i70 : (Try.prog.info? 70).isSome = true := by kernel_rfl
@[push_cast] theorem m70 : concreteB Try.prog 70 = true := by kernel_rfl
@[push_cast] theorem a70 : elemOk Try.prog 70 = true := by kernel_rfl
@[push_cast] theorem b70 : bytesOf Try.prog 70 = 8 := by kernel_rfl
@[push_cast] theorem z70 : zeroD Try.prog 70 = some ([.t (.v .nilFunc)]) := by kernel_rfl
@[push_cast] theorem c71 : Try.prog.cellsOf 71 = 1 := by kernel_rfl
@[push_cast] theorem g71 : isAggB Try.prog 71 = false := by kernel_rfl
@[push_cast] theorem s71 : (Try.prog.underlying 71).isSome = true := by kernel_rfl
@[push_cast] theorem i71 : (Try.prog.info? 71).isSome = true := by kernel_rfl
@[push_cast] theorem m71 : concreteB Try.prog 71 = true := by kernel_rfl
@[push_cast] theorem a71 : elemOk Try.prog 71 = true := by kernel_rfl
@[push_cast] theorem b71 : bytesOf Try.prog 71 = 8 := by kernel_rfl
@[push_cast] theorem z71 : zeroD Try.prog 71 = some ([.t (.v .nilFunc)]) := by kernel_rfl
@[push_cast] theorem c72 : Try.prog.cellsOf 72 = 1 := by kernel_rfl
@[push_cast] theorem g72 : isAggB Try.prog 72 = false := by kernel_rfl
@[push_cast] theorem s72 : (Try.prog.underlying 72).isSome = true := by kernel_rfl
@[push_cast] theorem i72 : (Try.prog.info? 72).isSome = true := by kernel_rfl
@[push_cast] theorem m72 : concreteB Try.prog 72 = true := by kernel_rfl
@[push_cast] theorem a72 : elemOk Try.prog 72 = true := by kernel_rfl
@[push_cast] theorem b72 : bytesOf Try.prog 72 = 8 := by kernel_rfl
@[push_cast] theorem z72 : zeroD Try.prog 72 = some ([.t (.v (.pointer none))]) := by kernel_rfl
@[push_cast] theorem c73 : Try.prog.cellsOf 73 = 1 := by kernel_rfl
@[push_cast] theorem g73 : isAggB Try.prog 73 = false := by kernel_rfl
@[push_cast] theorem s73 : (Try.prog.underlying 73).isSome = true := by kernel_rfl
@[push_cast] theorem i73 : (Try.prog.info? 73).isSome = true := by kernel_rfl
@[push_cast] theorem m73 : concreteB Try.prog 73 = true := by kernel_rfl
@[push_cast] theorem a73 : elemOk Try.prog 73 = true := by kernel_rfl
@[push_cast] theorem b73 : bytesOf Try.prog 73 = 8 := by kernel_rfl
@[push_cast] theorem z73 : zeroD Try.prog 73 = some ([.t (.v .nilFunc)]) := by kernel_rfl
@[push_cast] theorem c75 : Try.prog.cellsOf 75 = 1 := by kernel_rfl
@[push_cast] theorem g75 : isAggB Try.prog 75 = false := by kernel_rfl
@[push_cast] theorem s75 : (Try.prog.underlying 75).isSome = true := by kernel_rfl
@[push_cast] theorem i75 : (Try.prog.info? 75).isSome = true := by kernel_rfl
@[push_cast] theorem m75 : concreteB Try.prog 75 = true := by kernel_rfl
@[push_cast] theorem a75 : elemOk Try.prog 75 = true := by kernel_rfl
@[push_cast] theorem b75 : bytesOf Try.prog 75 = 8 := by kernel_rfl
@[push_cast] theorem z75 : zeroD Try.prog 75 = some ([.t (.v .nilFunc)]) := by kernel_rfl
@[push_cast] theorem c76 : Try.prog.cellsOf 76 = 1 := by kernel_rfl
@[push_cast] theorem g76 : isAggB Try.prog 76 = false := by kernel_rfl
@[push_cast] theorem s76 : (Try.prog.underlying 76).isSome = true := by kernel_rfl
@[push_cast] theorem i76 : (Try.prog.info? 76).isSome = true := by kernel_rfl
@[push_cast] theorem m76 : concreteB Try.prog 76 = true := by kernel_rfl
@[push_cast] theorem a76 : elemOk Try.prog 76 = true := by kernel_rfl
@[push_cast] theorem b76 : bytesOf Try.prog 76 = 8 := by kernel_rfl
@[push_cast] theorem z76 : zeroD Try.prog 76 = some ([.t (.v .nilFunc)]) := by kernel_rfl
@[push_cast] theorem c77 : Try.prog.cellsOf 77 = 1 := by kernel_rfl
@[push_cast] theorem g77 : isAggB Try.prog 77 = false := by kernel_rfl
@[push_cast] theorem s77 : (Try.prog.underlying 77).isSome = true := by kernel_rfl
@[push_cast] theorem i77 : (Try.prog.info? 77).isSome = true := by kernel_rfl
@[push_cast] theorem m77 : concreteB Try.prog 77 = true := by kernel_rfl
@[push_cast] theorem a77 : elemOk Try.prog 77 = true := by kernel_rfl
@[push_cast] theorem b77 : bytesOf Try.prog 77 = 8 := by kernel_rfl
@[push_cast] theorem z77 : zeroD Try.prog 77 = some ([.t (.v .nilFunc)]) := by kernel_rfl
@[push_cast] theorem c78 : Try.prog.cellsOf 78 = 1 := by kernel_rfl
@[push_cast] theorem g78 : isAggB Try.prog 78 = true := by kernel_rfl
@[push_cast] theorem s78 : (Try.prog.underlying 78).isSome = true := by kernel_rfl
@[push_cast] theorem i78 : (Try.prog.info? 78).isSome = true := by kernel_rfl
@[push_cast] theorem m78 : concreteB Try.prog 78 = true := by kernel_rfl
@[push_cast] theorem a78 : elemOk Try.prog 78 = true := by kernel_rfl
@[push_cast] theorem b78 : bytesOf Try.prog 78 = 8 := by kernel_rfl
@[push_cast] theorem z78 : zeroD Try.prog 78 = some ([.t (.v (.pointer none))]) := by kernel_rfl
@[push_cast] theorem f78_0 : fieldOf Try.prog 78 0 = some (0, 1, 17) := by kernel_rfl
@[push_cast] theorem q78_0 : placeOf Try.prog 78 0 = some (0, 1) := by kernel_rfl
@[push_cast] theorem p78 : placesOk Try.prog 78 = true := by kernel_rfl
@[push_cast] theorem c79 : Try.prog.cellsOf 79 = 1 := by kernel_rfl
@[push_cast] theorem g79 : isAggB Try.prog 79 = true := by kernel_rfl
@[push_cast] theorem s79 : (Try.prog.underlying 79).isSome = true := by kernel_rfl
@[push_cast] theorem i79 : (Try.prog.info? 79).isSome = true := by kernel_rfl
@[push_cast] theorem m79 : concreteB Try.prog 79 = true := by kernel_rfl
@[push_cast] theorem a79 : elemOk Try.prog 79 = true := by kernel_rfl
@[push_cast] theorem b79 : bytesOf Try.prog 79 = 8 := by kernel_rfl
@[push_cast] theorem z79 : zeroD Try.prog 79 = some ([.t (.v (.pointer none))]) := by kernel_rfl
@[push_cast] theorem f79_0 : fieldOf Try.prog 79 0 = some (0, 1, 17) := by kernel_rfl
@[push_cast] theorem q79_0 : placeOf Try.prog 79 0 = some (0, 1) := by kernel_rfl
@[push_cast] theorem p79 : placesOk Try.prog 79 = true := by kernel_rfl
@[push_cast] theorem c80 : Try.prog.cellsOf 80 = 1 := by kernel_rfl
@[push_cast] theorem g80 : isAggB Try.prog 80 = false := by kernel_rfl
@[push_cast] theorem s80 : (Try.prog.underlying 80).isSome = true := by kernel_rfl
@[push_cast] theorem i80 : (Try.prog.info? 80).isSome = true := by kernel_rfl
@[push_cast] theorem m80 : concreteB Try.prog 80 = true := by kernel_rfl
@[push_cast] theorem a80 : elemOk Try.prog 80 = true := by kernel_rfl
@[push_cast] theorem b80 : bytesOf Try.prog 80 = 8 := by kernel_rfl
@[push_cast] theorem z80 : zeroD Try.prog 80 = some ([.t (.v (.pointer none))]) := by kernel_rfl
@[push_cast] theorem c81 : Try.prog.cellsOf 81 = 1 := by kernel_rfl
@[push_cast] theorem g81 : isAggB Try.prog 81 = false := by kernel_rfl
@[push_cast] theorem s81 : (Try.prog.underlying 81).isSome = true := by kernel_rfl
@[push_cast] theorem i81 : (Try.prog.info? 81).isSome = true := by kernel_rfl
@[push_cast] theorem a81 : elemOk Try.prog 81 = true := by kernel_rfl
@[push_cast] theorem b81 : bytesOf Try.prog 81 = 16 := by kernel_rfl
@[push_cast] theorem z81 : zeroD Try.prog 81 = some ([.t (.v .nilIface)]) := by kernel_rfl
@[push_cast] theorem u81 : Try.prog.underlying 81 = some (.interface (Try.prog.methodsAt 81)) := by kernel_rfl
@[push_cast] theorem c83 : Try.prog.cellsOf 83 = 1 := by kernel_rfl
@[push_cast] theorem g83 : isAggB Try.prog 83 = false := by kernel_rfl
@[push_cast] theorem s83 : (Try.prog.underlying 83).isSome = true := by kernel_rfl
@[push_cast] theorem i83 : (Try.prog.info? 83).isSome = true := by kernel_rfl
@[push_cast] theorem m83 : concreteB Try.prog 83 = true := by kernel_rfl
@[push_cast] theorem a83 : elemOk Try.prog 83 = true := by kernel_rfl
@[push_cast] theorem b83 : bytesOf Try.prog 83 = 8 := by kernel_rfl
@[push_cast] theorem z83 : zeroD Try.prog 83 = some ([.t (.v .nilFunc)]) := by kernel_rfl
@[push_cast] theorem c84 : Try.prog.cellsOf 84 = 1 := by kernel_rfl
@[push_cast] theorem g84 : isAggB Try.prog 84 = false := by kernel_rfl
@[push_cast] theorem s84 : (Try.prog.underlying 84).isSome = true := by kernel_rfl
@[push_cast] theorem i84 : (Try.prog.info? 84).isSome = true := by kernel_rfl
@[push_cast] theorem a84 : elemOk Try.prog 84 = true := by kernel_rfl
@[push_cast] theorem b84 : bytesOf Try.prog 84 = 16 := by kernel_rfl
@[push_cast] theorem z84 : zeroD Try.prog 84 = some ([.t (.v .nilIface)]) := by kernel_rfl
@[push_cast] theorem u84 : Try.prog.underlying 84 = some (.interface (Try.prog.methodsAt 84)) := by kernel_rfl
@[push_cast] theorem c85 : Try.prog.cellsOf 85 = 1 := by kernel_rfl
@[push_cast] theorem g85 : isAggB Try.prog 85 = false := by kernel_rfl
@[push_cast] theorem s85 : (Try.prog.underlying 85).isSome = true := by kernel_rfl
@[push_cast] theorem i85 : (Try.prog.info? 85).isSome = true := by kernel_rfl
@[push_cast] theorem m85 : concreteB Try.prog 85 = true := by kernel_rfl
@[push_cast] theorem a85 : elemOk Try.prog 85 = true := by kernel_rfl
@[push_cast] theorem b85 : bytesOf Try.prog 85 = 8 := by kernel_rfl
@[push_cast] theorem z85 : zeroD Try.prog 85 = some ([.t (.v .nilFunc)]) := by kernel_rfl
@[push_cast] theorem c86 : Try.prog.cellsOf 86 = 1 := by kernel_rfl
@[push_cast] theorem g86 : isAggB Try.prog 86 = false := by kernel_rfl
@[push_cast] theorem s86 : (Try.prog.underlying 86).isSome = true := by kernel_rfl
@[push_cast] theorem i86 : (Try.prog.info? 86).isSome = true := by kernel_rfl
@[push_cast] theorem a86 : elemOk Try.prog 86 = true := by kernel_rfl
@[push_cast] theorem b86 : bytesOf Try.prog 86 = 16 := by kernel_rfl
@[push_cast] theorem z86 : zeroD Try.prog 86 = some ([.t (.v .nilIface)]) := by kernel_rfl
@[push_cast] theorem u86 : Try.prog.underlying 86 = some (.interface (Try.prog.methodsAt 86)) := by kernel_rfl
@[push_cast] theorem c87 : Try.prog.cellsOf 87 = 1 := by kernel_rfl
@[push_cast] theorem g87 : isAggB Try.prog 87 = false := by kernel_rfl
@[push_cast] theorem s87 : (Try.prog.underlying 87).isSome = true := by kernel_rfl
@[push_cast] theorem i87 : (Try.prog.info? 87).isSome = true := by kernel_rfl
@[push_cast] theorem m87 : concreteB Try.prog 87 = true := by kernel_rfl
@[push_cast] theorem a87 : elemOk Try.prog 87 = true := by kernel_rfl
@[push_cast] theorem b87 : bytesOf Try.prog 87 = 24 := by kernel_rfl
@[push_cast] theorem z87 : zeroD Try.prog 87 = some ([.t (.v (.slice none 0 0))]) := by kernel_rfl
@[push_cast] theorem u87 : Try.prog.underlying 87 = some (.slice 40) := by kernel_rfl
@[push_cast] theorem e87 : Try.prog.elem 87 = 40 := by kernel_rfl
@[push_cast] theorem c88 : Try.prog.cellsOf 88 = 1 := by kernel_rfl
@[push_cast] theorem g88 : isAggB Try.prog 88 = false := by kernel_rfl
@[push_cast] theorem s88 : (Try.prog.underlying 88).isSome = true := by kernel_rfl
@[push_cast] theorem i88 : (Try.prog.info? 88).isSome = true := by kernel_rfl
@[push_cast] theorem m88 : concreteB Try.prog 88 = true := by kernel_rfl
@[push_cast] theorem a88 : elemOk Try.prog 88 = true := by kernel_rfl
@[push_cast] theorem b88 : bytesOf Try.prog 88 = 8 := by kernel_rfl
@[push_cast] theorem z88 : zeroD Try.prog 88 = some ([.t (.v .nilFunc)]) := by kernel_rfl
@[push_cast] theorem c89 : Try.prog.cellsOf 89 = 1 := by kernel_rfl
@[push_cast] theorem g89 : isAggB Try.prog 89 = false := by kernel_rfl
@[push_cast] theorem s89 : (Try.prog.underlying 89).isSome = true := by kernel_rfl
@[push_cast] theorem i89 : (Try.prog.info? 89).isSome = true := by kernel_rfl
@[push_cast] theorem m89 : concreteB Try.prog 89 = true := by kernel_rfl
@[push_cast] theorem a89 : elemOk Try.prog 89 = true := by kernel_rfl
@[push_cast] theorem b89 : bytesOf Try.prog 89 = 8 := by kernel_rfl
@[push_cast] theorem z89 : zeroD Try.prog 89 = some ([.t (.v (.pointer none))]) := by kernel_rfl
@[push_cast] theorem c90 : Try.prog.cellsOf 90 = 1 := by kernel_rfl
@[push_cast] theorem g90 : isAggB Try.prog 90 = false := by kernel_rfl
@[push_cast] theorem s90 : (Try.prog.underlying 90).isSome = true := by kernel_rfl
@[push_cast] theorem i90 : (Try.prog.info? 90).isSome = true := by kernel_rfl
@[push_cast] theorem m90 : concreteB Try.prog 90 = true := by kernel_rfl
@[push_cast] theorem a90 : elemOk Try.prog 90 = true := by kernel_rfl
@[push_cast] theorem b90 : bytesOf Try.prog 90 = 8 := by kernel_rfl
@[push_cast] theorem z90 : zeroD Try.prog 90 = some ([.t (.v .nilFunc)]) := by kernel_rfl
@[push_cast] theorem c92 : Try.prog.cellsOf 92 = 1 := by kernel_rfl
@[push_cast] theorem g92 : isAggB Try.prog 92 = false := by kernel_rfl
@[push_cast] theorem s92 : (Try.prog.underlying 92).isSome = true := by kernel_rfl
@[push_cast] theorem i92 : (Try.prog.info? 92).isSome = true := by kernel_rfl
@[push_cast] theorem m92 : concreteB Try.prog 92 = true := by kernel_rfl
@[push_cast] theorem a92 : elemOk Try.prog 92 = true := by kernel_rfl
@[push_cast] theorem b92 : bytesOf Try.prog 92 = 8 := by kernel_rfl
@[push_cast] theorem z92 : zeroD Try.prog 92 = some ([.t (.v .nilFunc)]) := by kernel_rfl
@[push_cast] theorem c94 : Try.prog.cellsOf 94 = 1 := by kernel_rfl
@[push_cast] theorem g94 : isAggB Try.prog 94 = false := by kernel_rfl
@[push_cast] theorem s94 : (Try.prog.underlying 94).isSome = true := by kernel_rfl
@[push_cast] theorem i94 : (Try.prog.info? 94).isSome = true := by kernel_rfl
@[push_cast] theorem m94 : concreteB Try.prog 94 = true := by kernel_rfl
@[push_cast] theorem a94 : elemOk Try.prog 94 = true := by kernel_rfl
@[push_cast] theorem b94 : bytesOf Try.prog 94 = 8 := by kernel_rfl
@[push_cast] theorem z94 : zeroD Try.prog 94 = some ([.t (.v .nilFunc)]) := by kernel_rfl
@[push_cast] theorem c95 : Try.prog.cellsOf 95 = 1 := by kernel_rfl
@[push_cast] theorem g95 : isAggB Try.prog 95 = false := by kernel_rfl
@[push_cast] theorem s95 : (Try.prog.underlying 95).isSome = true := by kernel_rfl
@[push_cast] theorem i95 : (Try.prog.info? 95).isSome = true := by kernel_rfl
@[push_cast] theorem m95 : concreteB Try.prog 95 = true := by kernel_rfl
@[push_cast] theorem a95 : elemOk Try.prog 95 = true := by kernel_rfl
@[push_cast] theorem b95 : bytesOf Try.prog 95 = 24 := by kernel_rfl
@[push_cast] theorem z95 : zeroD Try.prog 95 = some ([.t (.v (.slice none 0 0))]) := by kernel_rfl
@[push_cast] theorem u95 : Try.prog.underlying 95 = some (.slice 3) := by kernel_rfl
@[push_cast] theorem e95 : Try.prog.elem 95 = 3 := by kernel_rfl
@[push_cast] theorem c96 : Try.prog.cellsOf 96 = 1 := by kernel_rfl
@[push_cast] theorem g96 : isAggB Try.prog 96 = false := by kernel_rfl
@[push_cast] theorem s96 : (Try.prog.underlying 96).isSome = true := by kernel_rfl
@[push_cast] theorem i96 : (Try.prog.info? 96).isSome = true := by kernel_rfl
@[push_cast] theorem m96 : concreteB Try.prog 96 = true := by kernel_rfl
@[push_cast] theorem a96 : elemOk Try.prog 96 = true := by kernel_rfl
@[push_cast] theorem b96 : bytesOf Try.prog 96 = 8 := by kernel_rfl
@[push_cast] theorem z96 : zeroD Try.prog 96 = some ([.t (.v .nilFunc)]) := by kernel_rfl
@[push_cast] theorem c97 : Try.prog.cellsOf 97 = 1 := by kernel_rfl
@[push_cast] theorem g97 : isAggB Try.prog 97 = false := by kernel_rfl
@[push_cast] theorem s97 : (Try.prog.underlying 97).isSome = true := by kernel_rfl
@[push_cast] theorem i97 : (Try.prog.info? 97).isSome = true := by kernel_rfl
@[push_cast] theorem m97 : concreteB Try.prog 97 = true := by kernel_rfl
@[push_cast] theorem a97 : elemOk Try.prog 97 = true := by kernel_rfl
@[push_cast] theorem b97 : bytesOf Try.prog 97 = 8 := by kernel_rfl
@[push_cast] theorem z97 : zeroD Try.prog 97 = some ([.t (.v .nilFunc)]) := by kernel_rfl
@[push_cast] theorem c98 : Try.prog.cellsOf 98 = 4 := by kernel_rfl
@[push_cast] theorem g98 : isAggB Try.prog 98 = true := by kernel_rfl
@[push_cast] theorem s98 : (Try.prog.underlying 98).isSome = true := by kernel_rfl
@[push_cast] theorem i98 : (Try.prog.info? 98).isSome = true := by kernel_rfl
@[push_cast] theorem m98 : concreteB Try.prog 98 = true := by kernel_rfl
@[push_cast] theorem a98 : elemOk Try.prog 98 = true := by kernel_rfl
@[push_cast] theorem b98 : bytesOf Try.prog 98 = 40 := by kernel_rfl
@[push_cast] theorem z98 : zeroD Try.prog 98 = some ([.t (.v (.pointer none)), .t (.v (.pointer none)), .t (.v (.pointer none)), .t (.v (.string ⟨#[]⟩))]) := by kernel_rfl
@[push_cast] theorem f98_0 : fieldOf Try.prog 98 0 = some (0, 1, 17) := by kernel_rfl
@[push_cast] theorem q98_0 : placeOf Try.prog 98 0 = some (0, 1) := by kernel_rfl
@[push_cast] theorem f98_1 : fieldOf Try.prog 98 1 = some (1, 1, 17) := by kernel_rfl
@[push_cast] theorem q98_1 : placeOf Try.prog 98 1 = some (1, 1) := by kernel_rfl
@[push_cast] theorem f98_2 : fieldOf Try.prog 98 2 = some (2, 1, 17) := by kernel_rfl
@[push_cast] theorem q98_2 : placeOf Try.prog 98 2 = some (2, 1) := by kernel_rfl
@[push_cast] theorem f98_3 : fieldOf Try.prog 98 3 = some (3, 1, 9) := by kernel_rfl
@[push_cast] theorem q98_3 : placeOf Try.prog 98 3 = some (3, 1) := by kernel_rfl
@[push_cast] theorem p98 : placesOk Try.prog 98 = true := by kernel_rfl
@[push_cast] theorem c99 : Try.prog.cellsOf 99 = 4 := by kernel_rfl
@[push_cast] theorem g99 : isAggB Try.prog 99 = true := by kernel_rfl
@[push_cast] theorem s99 : (Try.prog.underlying 99).isSome = true := by kernel_rfl
@[push_cast] theorem i99 : (Try.prog.info? 99).isSome = true := by kernel_rfl
@[push_cast] theorem m99 : concreteB Try.prog 99 = true := by kernel_rfl
@[push_cast] theorem a99 : elemOk Try.prog 99 = true := by kernel_rfl
@[push_cast] theorem b99 : bytesOf Try.prog 99 = 40 := by kernel_rfl
@[push_cast] theorem z99 : zeroD Try.prog 99 = some ([.t (.v (.pointer none)), .t (.v (.pointer none)), .t (.v (.pointer none)), .t (.v (.string ⟨#[]⟩))]) := by kernel_rfl
@[push_cast] theorem f99_0 : fieldOf Try.prog 99 0 = some (0, 1, 17) := by kernel_rfl
@[push_cast] theorem q99_0 : placeOf Try.prog 99 0 = some (0, 1) := by kernel_rfl
@[push_cast] theorem f99_1 : fieldOf Try.prog 99 1 = some (1, 1, 17) := by kernel_rfl
@[push_cast] theorem q99_1 : placeOf Try.prog 99 1 = some (1, 1) := by kernel_rfl
@[push_cast] theorem f99_2 : fieldOf Try.prog 99 2 = some (2, 1, 17) := by kernel_rfl
@[push_cast] theorem q99_2 : placeOf Try.prog 99 2 = some (2, 1) := by kernel_rfl
@[push_cast] theorem f99_3 : fieldOf Try.prog 99 3 = some (3, 1, 9) := by kernel_rfl
@[push_cast] theorem q99_3 : placeOf Try.prog 99 3 = some (3, 1) := by kernel_rfl
@[push_cast] theorem p99 : placesOk Try.prog 99 = true := by kernel_rfl
@[push_cast] theorem c100 : Try.prog.cellsOf 100 = 0 := by kernel_rfl
@[push_cast] theorem g100 : isAggB Try.prog 100 = true := by kernel_rfl
@[push_cast] theorem s100 : (Try.prog.underlying 100).isSome = true := by kernel_rfl
@[push_cast] theorem i100 : (Try.prog.info? 100).isSome = true := by kernel_rfl
@[push_cast] theorem m100 : concreteB Try.prog 100 = true := by kernel_rfl
@[push_cast] theorem a100 : elemOk Try.prog 100 = true := by kernel_rfl
@[push_cast] theorem b100 : bytesOf Try.prog 100 = 0 := by kernel_rfl
@[push_cast] theorem z100 : zeroD Try.prog 100 = some ([]) := by kernel_rfl
@[push_cast] theorem u100 : Try.prog.underlying 100 = some (.array 0 16) := by kernel_rfl
@[push_cast] theorem e100 : Try.prog.elem 100 = 16 := by kernel_rfl
@[push_cast] theorem l100 : Try.prog.arrayLen 100 = 0 := by kernel_rfl
@[push_cast] theorem p100 : placesOk Try.prog 100 = true := by kernel_rfl
@[push_cast] theorem q100 (i : Nat) : placeOf Try.prog 100 i = some (i * 1, 1) := by rw [placeOf_arr u100, c16]
@[push_cast] theorem c101 : Try.prog.cellsOf 101 = 0 := by kernel_rfl
@[push_cast] theorem g101 : isAggB Try.prog 101 = true := by kernel_rfl
@[push_cast] theorem s101 : (Try.prog.underlying 101).isSome = true := by kernel_rfl
@[push_cast] theorem i101 : (Try.prog.info? 101).isSome = true := by kernel_rfl
@[push_cast] theorem m101 : concreteB Try.prog 101 = true := by kernel_rfl
@[push_cast] theorem a101 : elemOk Try.prog 101 = true := by kernel_rfl
@[push_cast] theorem b101 : bytesOf Try.prog 101 = 0 := by kernel_rfl
@[push_cast] theorem z101 : zeroD Try.prog 101 = some ([]) := by kernel_rfl
@[push_cast] theorem f101_0 : fieldOf Try.prog 101 0 = some (0, 0, 100) := by kernel_rfl
@[push_cast] theorem q101_0 : placeOf Try.prog 101 0 = some (0, 0) := by kernel_rfl
@[push_cast] theorem p101 : placesOk Try.prog 101 = true := by kernel_rfl
@[push_cast] theorem c102 : Try.prog.cellsOf 102 = 0 := by kernel_rfl
@[push_cast] theorem g102 : isAggB Try.prog 102 = true := by kernel_rfl
@[push_cast] theorem s102 : (Try.prog.underlying 102).isSome = true := by kernel_rfl
@[push_cast] theorem i102 : (Try.prog.info? 102).isSome = true := by kernel_rfl
@[push_cast] theorem m102 : concreteB Try.prog 102 = true := by kernel_rfl
@[push_cast] theorem a102 : elemOk Try.prog 102 = true := by kernel_rfl
@[push_cast] theorem b102 : bytesOf Try.prog 102 = 0 := by kernel_rfl
@[push_cast] theorem z102 : zeroD Try.prog 102 = some ([]) := by kernel_rfl
@[push_cast] theorem f102_0 : fieldOf Try.prog 102 0 = some (0, 0, 100) := by kernel_rfl
@[push_cast] theorem q102_0 : placeOf Try.prog 102 0 = some (0, 0) := by kernel_rfl
@[push_cast] theorem p102 : placesOk Try.prog 102 = true := by kernel_rfl
@[push_cast] theorem c103 : Try.prog.cellsOf 103 = 1 := by kernel_rfl
@[push_cast] theorem g103 : isAggB Try.prog 103 = false := by kernel_rfl
@[push_cast] theorem s103 : (Try.prog.underlying 103).isSome = true := by kernel_rfl
@[push_cast] theorem i103 : (Try.prog.info? 103).isSome = true := by kernel_rfl
@[push_cast] theorem m103 : concreteB Try.prog 103 = true := by kernel_rfl
@[push_cast] theorem a103 : elemOk Try.prog 103 = true := by kernel_rfl
@[push_cast] theorem b103 : bytesOf Try.prog 103 = 1 := by kernel_rfl
@[push_cast] theorem z103 : zeroD Try.prog 103 = some ([.t (.v (.int .u8 0))]) := by kernel_rfl
@[push_cast] theorem u103 : Try.prog.underlying 103 = some (.int .u8) := by kernel_rfl
@[push_cast] theorem c104 : Try.prog.cellsOf 104 = 1 := by kernel_rfl
@[push_cast] theorem g104 : isAggB Try.prog 104 = false := by kernel_rfl
@[push_cast] theorem s104 : (Try.prog.underlying 104).isSome = true := by kernel_rfl
@[push_cast] theorem i104 : (Try.prog.info? 104).isSome = true := by kernel_rfl
@[push_cast] theorem m104 : concreteB Try.prog 104 = true := by kernel_rfl
@[push_cast] theorem a104 : elemOk Try.prog 104 = true := by kernel_rfl
@[push_cast] theorem b104 : bytesOf Try.prog 104 = 1 := by kernel_rfl
@[push_cast] theorem z104 : zeroD Try.prog 104 = some ([.t (.v (.int .u8 0))]) := by kernel_rfl
@[push_cast] theorem u104 : Try.prog.underlying 104 = some (.int .u8) := by kernel_rfl
@[push_cast] theorem c105 : Try.prog.cellsOf 105 = 1 := by kernel_rfl
@[push_cast] theorem g105 : isAggB Try.prog 105 = false := by kernel_rfl
@[push_cast] theorem s105 : (Try.prog.underlying 105).isSome = true := by kernel_rfl
@[push_cast] theorem i105 : (Try.prog.info? 105).isSome = true := by kernel_rfl
@[push_cast] theorem m105 : concreteB Try.prog 105 = true := by kernel_rfl
@[push_cast] theorem a105 : elemOk Try.prog 105 = true := by kernel_rfl
@[push_cast] theorem b105 : bytesOf Try.prog 105 = 8 := by kernel_rfl
@[push_cast] theorem z105 : zeroD Try.prog 105 = some ([.t (.v .nilFunc)]) := by kernel_rfl
@[push_cast] theorem c106 : Try.prog.cellsOf 106 = 1 := by kernel_rfl
@[push_cast] theorem g106 : isAggB Try.prog 106 = false := by kernel_rfl
@[push_cast] theorem s106 : (Try.prog.underlying 106).isSome = true := by kernel_rfl
@[push_cast] theorem i106 : (Try.prog.info? 106).isSome = true := by kernel_rfl
@[push_cast] theorem m106 : concreteB Try.prog 106 = true := by kernel_rfl
@[push_cast] theorem a106 : elemOk Try.prog 106 = true := by kernel_rfl
@[push_cast] theorem b106 : bytesOf Try.prog 106 = 4 := by kernel_rfl
@[push_cast] theorem z106 : zeroD Try.prog 106 = some ([.t (.v (.int .i32 0))]) := by kernel_rfl
@[push_cast] theorem u106 : Try.prog.underlying 106 = some (.int .i32) := by kernel_rfl
@[push_cast] theorem c107 : Try.prog.cellsOf 107 = 1 := by kernel_rfl
@[push_cast] theorem g107 : isAggB Try.prog 107 = false := by kernel_rfl
@[push_cast] theorem s107 : (Try.prog.underlying 107).isSome = true := by kernel_rfl
@[push_cast] theorem i107 : (Try.prog.info? 107).isSome = true := by kernel_rfl
@[push_cast] theorem m107 : concreteB Try.prog 107 = true := by kernel_rfl
@[push_cast] theorem a107 : elemOk Try.prog 107 = true := by kernel_rfl
@[push_cast] theorem b107 : bytesOf Try.prog 107 = 4 := by kernel_rfl
@[push_cast] theorem z107 : zeroD Try.prog 107 = some ([.t (.v (.int .i32 0))]) := by kernel_rfl
@[push_cast] theorem u107 : Try.prog.underlying 107 = some (.int .i32) := by kernel_rfl
@[push_cast] theorem c108 : Try.prog.cellsOf 108 = 11 := by kernel_rfl
@[push_cast] theorem g108 : isAggB Try.prog 108 = true := by kernel_rfl
@[push_cast] theorem s108 : (Try.prog.underlying 108).isSome = true := by kernel_rfl
@[push_cast] theorem i108 : (Try.prog.info? 108).isSome = true := by kernel_rfl
@[push_cast] theorem m108 : concreteB Try.prog 108 = true := by kernel_rfl
@[push_cast] theorem a108 : elemOk Try.prog 108 = true := by kernel_rfl
@[push_cast] theorem b108 : bytesOf Try.prog 108 = 48 := by kernel_rfl
@[push_cast] theorem z108 : zeroD Try.prog 108 = some ([.t (.v (.int .u64 0)), .t (.v (.int .u64 0)), .t (.v (.int .u32 0)), .t (.v (.int .u8 0)), .t (.v (.int .u8 0)), .t (.v (.int .u8 0)), .t (.v (.int .u8 0)), .t (.v .nilFunc), .t (.v (.pointer none)), .t (.v (.int .i32 0)), .t (.v (.int .i32 0))]) := by kernel_rfl
@[push_cast] theorem f108_0 : fieldOf Try.prog 108 0 = some (0, 1, 12) := by kernel_rfl
@[push_cast] theorem q108_0 : placeOf Try.prog 108 0 = some (0, 1) := by kernel_rfl
@[push_cast] theorem f108_1 : fieldOf Try.prog 108 1 = some (1, 1, 12) := by kernel_rfl
@[push_cast] theorem q108_1 : placeOf Try.prog 108 1 = some (1, 1) := by kernel_rfl
@[push_cast] theorem f108_2 : fieldOf Try.prog 108 2 = some (2, 1, 54) := by kernel_rfl
@[push_cast] theorem q108_2 : placeOf Try.prog 108 2 = some (2, 1) := by kernel_rfl
@[push_cast] theorem f108_3 : fieldOf Try.prog 108 3 = some (3, 1, 103) := by kernel_rfl
@[push_cast] theorem q108_3 : placeOf Try.prog 108 3 = some (3, 1) := by kernel_rfl
@[push_cast] theorem f108_4 : fieldOf Try.prog 108 4 = some (4, 1, 5) := by kernel_rfl
@[push_cast] theorem q108_4 : placeOf Try.prog 108 4 = some (4, 1) := by kernel_rfl
@[push_cast] theorem f108_5 : fieldOf Try.prog 108 5 = some (5, 1, 5) := by kernel_rfl
@[push_cast] theorem q108_5 : placeOf Try.prog 108 5 = some (5, 1) := by kernel_rfl
@[push_cast] theorem f108_6 : fieldOf Try.prog 108 6 = some (6, 1, 104) := by kernel_rfl
@[push_cast] theorem q108_6 : placeOf Try.prog 108 6 = some (6, 1) := by kernel_rfl
@[push_cast] theorem f108_7 : fieldOf Try.prog 108 7 = some (7, 1, 105) := by kernel_rfl
@[push_cast] theorem q108_7 : placeOf Try.prog 108 7 = some (7, 1) := by kernel_rfl
@[push_cast] theorem f108_8 : fieldOf Try.prog 108 8 = some (8, 1, 72) := by kernel_rfl
@[push_cast] theorem q108_8 : placeOf Try.prog 108 8 = some (8, 1) := by kernel_rfl
@[push_cast] theorem f108_9 : fieldOf Try.prog 108 9 = some (9, 1, 106) := by kernel_rfl
@[push_cast] theorem q108_9 : placeOf Try.prog 108 9 = some (9, 1) := by kernel_rfl
@[push_cast] theorem f108_10 : fieldOf Try.prog 108 10 = some (10, 1, 107) := by kernel_rfl
@[push_cast] theorem q108_10 : placeOf Try.prog 108 10 = some (10, 1) := by kernel_rfl
@[push_cast] theorem p108 : placesOk Try.prog 108 = true := by kernel_rfl
@[push_cast] theorem c109 : Try.prog.cellsOf 109 = 11 := by kernel_rfl
@[push_cast] theorem g109 : isAggB Try.prog 109 = true := by kernel_rfl
@[push_cast] theorem s109 : (Try.prog.underlying 109).isSome = true := by kernel_rfl
@[push_cast] theorem i109 : (Try.prog.info? 109).isSome = true := by kernel_rfl
@[push_cast] theorem m109 : concreteB Try.prog 109 = true := by kernel_rfl
@[push_cast] theorem a109 : elemOk Try.prog 109 = true := by kernel_rfl
@[push_cast] theorem b109 : bytesOf Try.prog 109 = 48 := by kernel_rfl
@[push_cast] theorem z109 : zeroD Try.prog 109 = some ([.t (.v (.int .u64 0)), .t (.v (.int .u64 0)), .t (.v (.int .u32 0)), .t (.v (.int .u8 0)), .t (.v (.int .u8 0)), .t (.v (.int .u8 0)), .t (.v (.int .u8 0)), .t (.v .nilFunc), .t (.v (.pointer none)), .t (.v (.int .i32 0)), .t (.v (.int .i32 0))]) := by kernel_rfl
@[push_cast] theorem f109_0 : fieldOf Try.prog 109 0 = some (0, 1, 12) := by kernel_rfl
@[push_cast] theorem q109_0 : placeOf Try.prog 109 0 = some (0, 1) := by kernel_rfl
@[push_cast] theorem f109_1 : fieldOf Try.prog 109 1 = some (1, 1, 12) := by kernel_rfl
@[push_cast] theorem q109_1 : placeOf Try.prog 109 1 = some (1, 1) := by kernel_rfl
@[push_cast] theorem f109_2 : fieldOf Try.prog 109 2 = some (2, 1, 54) := by kernel_rfl
@[push_cast] theorem q109_2 : placeOf Try.prog 109 2 = some (2, 1) := by kernel_rfl
@[push_cast] theorem f109_3 : fieldOf Try.prog 109 3 = some (3, 1, 103) := by kernel_rfl
@[push_cast] theorem q109_3 : placeOf Try.prog 109 3 = some (3, 1) := by kernel_rfl
@[push_cast] theorem f109_4 : fieldOf Try.prog 109 4 = some (4, 1, 5) := by kernel_rfl
@[push_cast] theorem q109_4 : placeOf Try.prog 109 4 = some (4, 1) := by kernel_rfl
@[push_cast] theorem f109_5 : fieldOf Try.prog 109 5 = some (5, 1, 5) := by kernel_rfl
@[push_cast] theorem q109_5 : placeOf Try.prog 109 5 = some (5, 1) := by kernel_rfl
@[push_cast] theorem f109_6 : fieldOf Try.prog 109 6 = some (6, 1, 104) := by kernel_rfl
@[push_cast] theorem q109_6 : placeOf Try.prog 109 6 = some (6, 1) := by kernel_rfl
@[push_cast] theorem f109_7 : fieldOf Try.prog 109 7 = some (7, 1, 105) := by kernel_rfl
@[push_cast] theorem q109_7 : placeOf Try.prog 109 7 = some (7, 1) := by kernel_rfl
@[push_cast] theorem f109_8 : fieldOf Try.prog 109 8 = some (8, 1, 72) := by kernel_rfl
@[push_cast] theorem q109_8 : placeOf Try.prog 109 8 = some (8, 1) := by kernel_rfl
@[push_cast] theorem f109_9 : fieldOf Try.prog 109 9 = some (9, 1, 106) := by kernel_rfl
@[push_cast] theorem q109_9 : placeOf Try.prog 109 9 = some (9, 1) := by kernel_rfl
@[push_cast] theorem f109_10 : fieldOf Try.prog 109 10 = some (10, 1, 107) := by kernel_rfl
@[push_cast] theorem q109_10 : placeOf Try.prog 109 10 = some (10, 1) := by kernel_rfl
@[push_cast] theorem p109 : placesOk Try.prog 109 = true := by kernel_rfl
@[push_cast] theorem c110 : Try.prog.cellsOf 110 = 1 := by kernel_rfl
@[push_cast] theorem g110 : isAggB Try.prog 110 = false := by kernel_rfl
@[push_cast] theorem s110 : (Try.prog.underlying 110).isSome = true := by kernel_rfl
@[push_cast] theorem i110 : (Try.prog.info? 110).isSome = true := by kernel_rfl
@[push_cast] theorem m110 : concreteB Try.prog 110 = true := by kernel_rfl
@[push_cast] theorem a110 : elemOk Try.prog 110 = true := by kernel_rfl
@[push_cast] theorem b110 : bytesOf Try.prog 110 = 8 := by kernel_rfl
@[push_cast] theorem z110 : zeroD Try.prog 110 = some ([.t (.v .nilFunc)]) := by kernel_rfl
@[push_cast] theorem c111 : Try.prog.cellsOf 111 = 1 := by kernel_rfl
@[push_cast] theorem g111 : isAggB Try.prog 111 = false := by kernel_rfl
@[push_cast] theorem s111 : (Try.prog.underlying 111).isSome = true := by kernel_rfl
@[push_cast] theorem i111 : (Try.prog.info? 111).isSome = true := by kernel_rfl
@[push_cast] theorem m111 : concreteB Try.prog 111 = true := by kernel_rfl
@[push_cast] theorem a111 : elemOk Try.prog 111 = true := by kernel_rfl
@[push_cast] theorem b111 : bytesOf Try.prog 111 = 8 := by kernel_rfl
@[push_cast] theorem z111 : zeroD Try.prog 111 = some ([.t (.v .nilFunc)]) := by kernel_rfl
@[push_cast] theorem c112 : Try.prog.cellsOf 112 = 1 := by kernel_rfl
@[push_cast] theorem g112 : isAggB Try.prog 112 = false := by kernel_rfl
@[push_cast] theorem s112 : (Try.prog.underlying 112).isSome = true := by kernel_rfl
@[push_cast] theorem i112 : (Try.prog.info? 112).isSome = true := by kernel_rfl
@[push_cast] theorem m112 : concreteB Try.prog 112 = true := by kernel_rfl
@[push_cast] theorem a112 : elemOk Try.prog 112 = true := by kernel_rfl
@[push_cast] theorem b112 : bytesOf Try.prog 112 = 8 := by kernel_rfl
@[push_cast] theorem z112 : zeroD Try.prog 112 = some ([.t (.v .nilFunc)]) := by kernel_rfl
@[push_cast] theorem c113 : Try.prog.cellsOf 113 = 1 := by kernel_rfl
@[push_cast] theorem g113 : isAggB Try.prog 113 = false := by kernel_rfl
@[push_cast] theorem s113 : (Try.prog.underlying 113).isSome = true := by kernel_rfl
@[push_cast] theorem i113 : (Try.prog.info? 113).isSome = true := by kernel_rfl
@[push_cast] theorem m113 : concreteB Try.prog 113 = true := by kernel_rfl
@[push_cast] theorem a113 : elemOk Try.prog 113 = true := by kernel_rfl
@[push_cast] theorem b113 : bytesOf Try.prog 113 = 8 := by kernel_rfl
@[push_cast] theorem z113 : zeroD Try.prog 113 = some ([.t (.v .nilFunc)]) := by kernel_rfl
@[push_cast] theorem c114 : Try.prog.cellsOf 114 = 1 := by kernel_rfl
@[push_cast] theorem g114 : isAggB Try.prog 114 = false := by kernel_rfl
@[push_cast] theorem s114 : (Try.prog.underlying 114).isSome = true := by kernel_rfl
@[push_cast] theorem i114 : (Try.prog.info? 114).isSome = true := by kernel_rfl
@[push_cast] theorem m114 : concreteB Try.prog 114 = true := by kernel_rfl
@[push_cast] theorem a114 : elemOk Try.prog 114 = true := by kernel_rfl
@[push_cast] theorem b114 : bytesOf Try.prog 114 = 8 := by kernel_rfl
@[push_cast] theorem z114 : zeroD Try.prog 114 = some ([.t (.v .nilFunc)]) := by kernel_rfl
@[push_cast] theorem c115 : Try.prog.cellsOf 115 = 1 := by kernel_rfl
@[push_cast] theorem g115 : isAggB Try.prog 115 = false := by kernel_rfl
@[push_cast] theorem s115 : (Try.prog.underlying 115).isSome = true := by kernel_rfl
@[push_cast] theorem i115 : (Try.prog.info? 115).isSome = true := by kernel_rfl
@[push_cast] theorem m115 : concreteB Try.prog 115 = true := by kernel_rfl
@[push_cast] theorem a115 : elemOk Try.prog 115 = true := by kernel_rfl
@[push_cast] theorem b115 : bytesOf Try.prog 115 = 8 := by kernel_rfl
@[push_cast] theorem z115 : zeroD Try.prog 115 = some ([.t (.v .nilFunc)]) := by kernel_rfl
@[push_cast] theorem c116 : Try.prog.cellsOf 116 = 2 := by kernel_rfl
@[push_cast] theorem g116 : isAggB Try.prog 116 = true := by kernel_rfl
@[push_cast] theorem s116 : (Try.prog.underlying 116).isSome = true := by kernel_rfl
@[push_cast] theorem i116 : (Try.prog.info? 116).isSome = true := by kernel_rfl
@[push_cast] theorem m116 : concreteB Try.prog 116 = true := by kernel_rfl
@[push_cast] theorem a116 : elemOk Try.prog 116 = true := by kernel_rfl
@[push_cast] theorem b116 : bytesOf Try.prog 116 = 24 := by kernel_rfl
@[push_cast] theorem z116 : zeroD Try.prog 116 = some ([.t (.v (.string ⟨#[]⟩)), .t (.v (.int .u8 0))]) := by kernel_rfl
@[push_cast] theorem f116_0 : fieldOf Try.prog 116 0 = some (0, 1, 9) := by kernel_rfl
@[push_cast] theorem q116_0 : placeOf Try.prog 116 0 = some (0, 1) := by kernel_rfl
@[push_cast] theorem f116_1 : fieldOf Try.prog 116 1 = some (1, 1, 104) := by kernel_rfl
@[push_cast] theorem q116_1 : placeOf Try.prog 116 1 = some (1, 1) := by kernel_rfl
@[push_cast] theorem p116 : placesOk Try.prog 116 = true := by kernel_rfl
@[push_cast] theorem c117 : Try.prog.cellsOf 117 = 2 := by kernel_rfl
@[push_cast] theorem g117 : isAggB Try.prog 117 = true := by kernel_rfl
@[push_cast] theorem s117 : (Try.prog.underlying 117).isSome = true := by kernel_rfl
@[push_cast] theorem i117 : (Try.prog.info? 117).isSome = true := by kernel_rfl
@[push_cast] theorem m117 : concreteB Try.prog 117 = true := by kernel_rfl
@[push_cast] theorem a117 : elemOk Try.prog 117 = true := by kernel_rfl
@[push_cast] theorem b117 : bytesOf Try.prog 117 = 24 := by kernel_rfl
@[push_cast] theorem z117 : zeroD Try.prog 117 = some ([.t (.v (.string ⟨#[]⟩)), .t (.v (.int .u8 0))]) := by kernel_rfl
@[push_cast] theorem f117_0 : fieldOf Try.prog 117 0 = some (0, 1, 9) := by kernel_rfl
@[push_cast] theorem q117_0 : placeOf Try.prog 117 0 = some (0, 1) := by kernel_rfl
@[push_cast] theorem f117_1 : fieldOf Try.prog 117 1 = some (1, 1, 104) := by kernel_rfl
@[push_cast] theorem q117_1 : placeOf Try.prog 117 1 = some (1, 1) := by kernel_rfl
@[push_cast] theorem p117 : placesOk Try.prog 117 = true := by kernel_rfl
@[push_cast] theorem c118 : Try.prog.cellsOf 118 = 1 := by kernel_rfl
@[push_cast] theorem g118 : isAggB Try.prog 118 = false := by kernel_rfl
@[push_cast] theorem s118 : (Try.prog.underlying 118).isSome = true := by kernel_rfl
@[push_cast] theorem i118 : (Try.prog.info? 118).isSome = true := by kernel_rfl
@[push_cast] theorem m118 : concreteB Try.prog 118 = true := by kernel_rfl
@[push_cast] theorem a118 : elemOk Try.prog 118 = true := by kernel_rfl
@[push_cast] theorem b118 : bytesOf Try.prog 118 = 8 := by kernel_rfl
@[push_cast] theorem z118 : zeroD Try.prog 118 = some ([.t (.v (.pointer none))]) := by kernel_rfl
@[push_cast] theorem c119 : Try.prog.cellsOf 119 = 1 := by kernel_rfl
@[push_cast] theorem g119 : isAggB Try.prog 119 = false := by kernel_rfl
@[push_cast] theorem s119 : (Try.prog.underlying 119).isSome = true := by kernel_rfl
@[push_cast] theorem i119 : (Try.prog.info? 119).isSome = true := by kernel_rfl
@[push_cast] theorem m119 : concreteB Try.prog 119 = true := by kernel_rfl
@[push_cast] theorem a119 : elemOk Try.prog 119 = true := by kernel_rfl
@[push_cast] theorem b119 : bytesOf Try.prog 119 = 8 := by kernel_rfl
@[push_cast] theorem z119 : zeroD Try.prog 119 = some ([.t (.v .nilFunc)]) := by kernel_rfl
@[push_cast] theorem c120 : Try.prog.cellsOf 120 = 5 := by kernel_rfl
@[push_cast] theorem g120 : isAggB Try.prog 120 = true := by kernel_rfl
@[push_cast] theorem s120 : (Try.prog.underlying 120).isSome = true := by kernel_rfl
@[push_cast] theorem i120 : (Try.prog.info? 120).isSome = true := by kernel_rfl
@[push_cast] theorem m120 : concreteB Try.prog 120 = true := by kernel_rfl
@[push_cast] theorem a120 : elemOk Try.prog 120 = true := by kernel_rfl
@[push_cast] theorem b120 : bytesOf Try.prog 120 = 16 := by kernel_rfl
@[push_cast] theorem z120 : zeroD Try.prog 120 = some ([.t (.v (.int .i32 0)), .t (.v (.int .u16 0)), .t (.v (.int .u16 0)), .t (.v (.int .u32 0)), .t (.v (.int .u32 0))]) := by kernel_rfl
@[push_cast] theorem f120_0 : fieldOf Try.prog 120 0 = some (0, 1, 106) := by kernel_rfl
@[push_cast] theorem q120_0 : placeOf Try.prog 120 0 = some (0, 1) := by kernel_rfl
@[push_cast] theorem f120_1 : fieldOf Try.prog 120 1 = some (1, 1, 28) := by kernel_rfl
@[push_cast] theorem q120_1 : placeOf Try.prog 120 1 = some (1, 1) := by kernel_rfl
@[push_cast] theorem f120_2 : fieldOf Try.prog 120 2 = some (2, 1, 28) := by kernel_rfl
@[push_cast] theorem q120_2 : placeOf Try.prog 120 2 = some (2, 1) := by kernel_rfl
@[push_cast] theorem f120_3 : fieldOf Try.prog 120 3 = some (3, 1, 54) := by kernel_rfl
@[push_cast] theorem q120_3 : placeOf Try.prog 120 3 = some (3, 1) := by kernel_rfl
@[push_cast] theorem f120_4 : fieldOf Try.prog 120 4 = some (4, 1, 54) := by kernel_rfl
@[push_cast] theorem q120_4 : placeOf Try.prog 120 4 = some (4, 1) := by kernel_rfl
@[push_cast] theorem p120 : placesOk Try.prog 120 = true := by kernel_rfl
@[push_cast] theorem c121 : Try.prog.cellsOf 121 = 5 := by kernel_rfl
@[push_cast] theorem g121 : isAggB Try.prog 121 = true := by kernel_rfl
@[push_cast] theorem s121 : (Try.prog.underlying 121).isSome = true := by kernel_rfl
@[push_cast] theorem i121 : (Try.prog.info? 121).isSome = true := by kernel_rfl
@[push_cast] theorem m121 : concreteB Try.prog 121 = true := by kernel_rfl
@[push_cast] theorem a121 : elemOk Try.prog 121 = true := by kernel_rfl
@[push_cast] theorem b121 : bytesOf Try.prog 121 = 16 := by kernel_rfl
@[push_cast] theorem z121 : zeroD Try.prog 121 = some ([.t (.v (.int .i32 0)), .t (.v (.int .u16 0)), .t (.v (.int .u16 0)), .t (.v (.int .u32 0)), .t (.v (.int .u32 0))]) := by kernel_rfl
@[push_cast] theorem f121_0 : fieldOf Try.prog 121 0 = some (0, 1, 106) := by kernel_rfl
@[push_cast] theorem q121_0 : placeOf Try.prog 121 0 = some (0, 1) := by kernel_rfl
@[push_cast] theorem f121_1 : fieldOf Try.prog 121 1 = some (1, 1, 28) := by kernel_rfl
@[push_cast] theorem q121_1 : placeOf Try.prog 121 1 = some (1, 1) := by kernel_rfl
@[push_cast] theorem f121_2 : fieldOf Try.prog 121 2 = some (2, 1, 28) := by kernel_rfl
@[push_cast] theorem q121_2 : placeOf Try.prog 121 2 = some (2, 1) := by kernel_rfl
@[push_cast] theorem f121_3 : fieldOf Try.prog 121 3 = some (3, 1, 54) := by kernel_rfl
@[push_cast] theorem q121_3 : placeOf Try.prog 121 3 = some (3, 1) := by kernel_rfl
@[push_cast] theorem f121_4 : fieldOf Try.prog 121 4 = some (4, 1, 54) := by kernel_rfl
@[push_cast] theorem q121_4 : placeOf Try.prog 121 4 = some (4, 1) := by kernel_rfl
@[push_cast] theorem p121 : placesOk Try.prog 121 = true := by kernel_rfl
@[push_cast] theorem c122 : Try.prog.cellsOf 122 = 1 := by kernel_rfl
@[push_cast] theorem g122 : isAggB Try.prog 122 = false := by kernel_rfl
@[push_cast] theorem s122 : (Try.prog.underlying 122).isSome = true := by kernel_rfl
@[push_cast] theorem i122 : (Try.prog.info? 122).isSome = true := by kernel_rfl
@[push_cast] theorem m122 : concreteB Try.prog 122 = true := by kernel_rfl
@[push_cast] theorem a122 : elemOk Try.prog 122 = true := by kernel_rfl
@[push_cast] theorem b122 : bytesOf Try.prog 122 = 24 := by kernel_rfl
@[push_cast] theorem z122 : zeroD Try.prog 122 = some ([.t (.v (.slice none 0 0))]) := by kernel_rfl
@[push_cast] theorem u122 : Try.prog.underlying 122 = some (.slice 125) := by kernel_rfl
@[push_cast] theorem e122 : Try.prog.elem 122 = 125 := by kernel_rfl
@[push_cast] theorem c123 : Try.prog.cellsOf 123 = 1 := by kernel_rfl
@[push_cast] theorem g123 : isAggB Try.prog 123 = false := by kernel_rfl
@[push_cast] theorem s123 : (Try.prog.underlying 123).isSome = true := by kernel_rfl
@[push_cast] theorem i123 : (Try.prog.info? 123).isSome = true := by kernel_rfl
@[push_cast] theorem m123 : concreteB Try.prog 123 = true := by kernel_rfl
@[push_cast] theorem a123 : elemOk Try.prog 123 = true := by kernel_rfl
@[push_cast] theorem b123 : bytesOf Try.prog 123 = 4 := by kernel_rfl
@[push_cast] theorem z123 : zeroD Try.prog 123 = some ([.t (.v (.int .i32 0))]) := by kernel_rfl
@[push_cast] theorem u123 : Try.prog.underlying 123 = some (.int .i32) := by kernel_rfl
@[push_cast] theorem c124 : Try.prog.cellsOf 124 = 4 := by kernel_rfl
@[push_cast] theorem g124 : isAggB Try.prog 124 = true := by kernel_rfl
@[push_cast] theorem s124 : (Try.prog.underlying 124).isSome = true := by kernel_rfl
@[push_cast] theorem i124 : (Try.prog.info? 124).isSome = true := by kernel_rfl
@[push_cast] theorem m124 : concreteB Try.prog 124 = true := by kernel_rfl
@[push_cast] theorem a124 : elemOk Try.prog 124 = true := by kernel_rfl
@[push_cast] theorem b124 : bytesOf Try.prog 124 = 16 := by kernel_rfl
@[push_cast] theorem z124 : zeroD Try.prog 124 = some ([.t (.v (.int .i32 0)), .t (.v (.int .i32 0)), .t (.v (.int .i32 0)), .t (.v (.int .i32 0))]) := by kernel_rfl
@[push_cast] theorem f124_0 : fieldOf Try.prog 124 0 = some (0, 1, 106) := by kernel_rfl
@[push_cast] theorem q124_0 : placeOf Try.prog 124 0 = some (0, 1) := by kernel_rfl
@[push_cast] theorem f124_1 : fieldOf Try.prog 124 1 = some (1, 1, 107) := by kernel_rfl
@[push_cast] theorem q124_1 : placeOf Try.prog 124 1 = some (1, 1) := by kernel_rfl
@[push_cast] theorem f124_2 : fieldOf Try.prog 124 2 = some (2, 1, 123) := by kernel_rfl
@[push_cast] theorem q124_2 : placeOf Try.prog 124 2 = some (2, 1) := by kernel_rfl
@[push_cast] theorem f124_3 : fieldOf Try.prog 124 3 = some (3, 1, 123) := by kernel_rfl
@[push_cast] theorem q124_3 : placeOf Try.prog 124 3 = some (3, 1) := by kernel_rfl
@[push_cast] theorem p124 : placesOk Try.prog 124 = true := by kernel_rfl
@[push_cast] theorem c125 : Try.prog.cellsOf 125 = 4 := by kernel_rfl
@[push_cast] theorem g125 : isAggB Try.prog 125 = true := by kernel_rfl
@[push_cast] theorem s125 : (Try.prog.underlying 125).isSome = true := by kernel_rfl
@[push_cast] theorem i125 : (Try.prog.info? 125).isSome = true := by kernel_rfl
@[push_cast] theorem m125 : concreteB Try.prog 125 = true := by kernel_rfl
@[push_cast] theorem a125 : elemOk Try.prog 125 = true := by kernel_rfl
@[push_cast] theorem b125 : bytesOf Try.prog 125 = 16 := by kernel_rfl
@[push_cast] theorem z125 : zeroD Try.prog 125 = some ([.t (.v (.int .i32 0)), .t (.v (.int .i32 0)), .t (.v (.int .i32 0)), .t (.v (.int .i32 0))]) := by kernel_rfl
@[push_cast] theorem f125_0 : fieldOf Try.prog 125 0 = some (0, 1, 106) := by kernel_rfl
@[push_cast] theorem q125_0 : placeOf Try.prog 125 0 = some (0, 1) := by kernel_rfl
@[push_cast] theorem f125_1 : fieldOf Try.prog 125 1 = some (1, 1, 107) := by kernel_rfl
@[push_cast] theorem q125_1 : placeOf Try.prog 125 1 = some (1, 1) := by kernel_rfl
@[push_cast] theorem f125_2 : fieldOf Try.prog 125 2 = some (2, 1, 123) := by kernel_rfl
@[push_cast] theorem q125_2 : placeOf Try.prog 125 2 = some (2, 1) := by kernel_rfl
@[push_cast] theorem f125_3 : fieldOf Try.prog 125 3 = some (3, 1, 123) := by kernel_rfl
@[push_cast] theorem q125_3 : placeOf Try.prog 125 3 = some (3, 1) := by kernel_rfl
@[push_cast] theorem p125 : placesOk Try.prog 125 = true := by kernel_rfl
@[push_cast] theorem k2 : callOk Try.prog 2 = true := by kernel_rfl
@[push_cast] theorem k3 : callOk Try.prog 3 = true := by kernel_rfl
@[push_cast] theorem k4 : callOk Try.prog 4 = true := by kernel_rfl
@[push_cast] theorem k5 : callOk Try.prog 5 = true := by kernel_rfl
@[push_cast] theorem k6 : callOk Try.prog 6 = true := by kernel_rfl
@[push_cast] theorem k7 : callOk Try.prog 7 = true := by kernel_rfl
@[push_cast] theorem k8 : callOk Try.prog 8 = true := by kernel_rfl
@[push_cast] theorem k9 : callOk Try.prog 9 = true := by kernel_rfl
@[push_cast] theorem k10 : callOk Try.prog 10 = true := by kernel_rfl
@[push_cast] theorem k11 : callOk Try.prog 11 = true := by kernel_rfl
@[push_cast] theorem k12 : callOk Try.prog 12 = true := by kernel_rfl
@[push_cast] theorem k13 : callOk Try.prog 13 = true := by kernel_rfl
@[push_cast] theorem k14 : callOk Try.prog 14 = true := by kernel_rfl
@[push_cast] theorem k15 : callOk Try.prog 15 = true := by kernel_rfl
@[push_cast] theorem k16 : callOk Try.prog 16 = true := by kernel_rfl
@[push_cast] theorem k17 : callOk Try.prog 17 = true := by kernel_rfl
@[push_cast] theorem k18 : callOk Try.prog 18 = true := by kernel_rfl
@[push_cast] theorem k19 : callOk Try.prog 19 = true := by kernel_rfl
@[push_cast] theorem k20 : callOk Try.prog 20 = true := by kernel_rfl
@[push_cast] theorem k21 : callOk Try.prog 21 = true := by kernel_rfl
@[push_cast] theorem k22 : callOk Try.prog 22 = true := by kernel_rfl
@[push_cast] theorem k23 : callOk Try.prog 23 = true := by kernel_rfl
@[push_cast] theorem k24 : callOk Try.prog 24 = true := by kernel_rfl
@[push_cast] theorem k25 : callOk Try.prog 25 = true := by kernel_rfl
@[push_cast] theorem k26 : callOk Try.prog 26 = true := by kernel_rfl
@[push_cast] theorem k27 : callOk Try.prog 27 = true := by kernel_rfl
@[push_cast] theorem k28 : callOk Try.prog 28 = true := by kernel_rfl
@[push_cast] theorem k29 : callOk Try.prog 29 = true := by kernel_rfl
@[push_cast] theorem k30 : callOk Try.prog 30 = true := by kernel_rfl
@[push_cast] theorem k31 : callOk Try.prog 31 = true := by kernel_rfl
@[push_cast] theorem k32 : callOk Try.prog 32 = true := by kernel_rfl
@[push_cast] theorem k34 : callOk Try.prog 34 = true := by kernel_rfl
@[push_cast] theorem k35 : callOk Try.prog 35 = true := by kernel_rfl
@[push_cast] theorem k36 : callOk Try.prog 36 = true := by kernel_rfl
@[push_cast] theorem k37 : callOk Try.prog 37 = true := by kernel_rfl
@[push_cast] theorem k38 : callOk Try.prog 38 = true := by kernel_rfl
@[push_cast] theorem k39 : callOk Try.prog 39 = true := by kernel_rfl
@[push_cast] theorem k40 : callOk Try.prog 40 = true := by kernel_rfl
@[push_cast] theorem k42 : callOk Try.prog 42 = true := by kernel_rfl
@[push_cast] theorem k43 : callOk Try.prog 43 = true := by kernel_rfl
@[push_cast] theorem k44 : callOk Try.prog 44 = true := by kernel_rfl
@[push_cast] theorem k45 : callOk Try.prog 45 = true := by kernel_rfl
@[push_cast] theorem k46 : callOk Try.prog 46 = true := by kernel_rfl
@[push_cast] theorem k66 : callOk Try.prog 66 = true := by kernel_rfl
@[push_cast] theorem mix : Try.prog.follows .mixedOrders = true := by kernel_rfl
end Go.Proofs.Try.F
