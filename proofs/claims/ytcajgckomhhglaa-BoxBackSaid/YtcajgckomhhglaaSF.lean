/- Facts about the program's types: made by wip/ot/facts.py. -/
import Derived.Test.YtcajgckomhhglaaProg
import Derived.Test.YtcajgckomhhglaaOtUse
set_option linter.unusedVariables false
namespace Go.Proofs.Try.F
open Go Go.Proofs Go.Ot
@[push_cast] theorem c1 : Try.prog.cellsOf 1 = 1 := by kernel_rfl
@[push_cast] theorem g1 : isAggB Try.prog 1 = false := by kernel_rfl
@[push_cast] theorem s1 : (Try.prog.underlying 1).isSome = true := by kernel_rfl
@[push_cast] theorem i1 : (Try.prog.info? 1).isSome = true := by kernel_rfl
@[push_cast] theorem m1 : concreteB Try.prog 1 = true := by kernel_rfl
@[push_cast] theorem a1 : elemOk Try.prog 1 = true := by kernel_rfl
@[push_cast] theorem b1 : bytesOf Try.prog 1 = 8 := by kernel_rfl
@[push_cast] theorem z1 : zeroD Try.prog 1 = some ([.t (.v .nilFunc)]) := by kernel_rfl
@[push_cast] theorem c2 : Try.prog.cellsOf 2 = 1 := by kernel_rfl
@[push_cast] theorem g2 : isAggB Try.prog 2 = false := by kernel_rfl
@[push_cast] theorem s2 : (Try.prog.underlying 2).isSome = true := by kernel_rfl
@[push_cast] theorem i2 : (Try.prog.info? 2).isSome = true := by kernel_rfl
@[push_cast] theorem m2 : concreteB Try.prog 2 = true := by kernel_rfl
@[push_cast] theorem a2 : elemOk Try.prog 2 = true := by kernel_rfl
@[push_cast] theorem b2 : bytesOf Try.prog 2 = 8 := by kernel_rfl
@[push_cast] theorem z2 : zeroD Try.prog 2 = some ([.t (.v (.int .i64 0))]) := by kernel_rfl
@[push_cast] theorem u2 : Try.prog.underlying 2 = some (.int .i64) := by kernel_rfl
@[push_cast] theorem c3 : Try.prog.cellsOf 3 = 1 := by kernel_rfl
@[push_cast] theorem g3 : isAggB Try.prog 3 = false := by kernel_rfl
@[push_cast] theorem s3 : (Try.prog.underlying 3).isSome = true := by kernel_rfl
@[push_cast] theorem i3 : (Try.prog.info? 3).isSome = true := by kernel_rfl
@[push_cast] theorem m3 : concreteB Try.prog 3 = true := by kernel_rfl
@[push_cast] theorem a3 : elemOk Try.prog 3 = true := by kernel_rfl
@[push_cast] theorem b3 : bytesOf Try.prog 3 = 8 := by kernel_rfl
@[push_cast] theorem z3 : zeroD Try.prog 3 = some ([.t (.v (.int .i64 0))]) := by kernel_rfl
@[push_cast] theorem u3 : Try.prog.underlying 3 = some (.int .i64) := by kernel_rfl
@[push_cast] theorem c4 : Try.prog.cellsOf 4 = 1 := by kernel_rfl
@[push_cast] theorem g4 : isAggB Try.prog 4 = false := by kernel_rfl
@[push_cast] theorem s4 : (Try.prog.underlying 4).isSome = true := by kernel_rfl
@[push_cast] theorem i4 : (Try.prog.info? 4).isSome = true := by kernel_rfl
@[push_cast] theorem m4 : concreteB Try.prog 4 = true := by kernel_rfl
@[push_cast] theorem a4 : elemOk Try.prog 4 = true := by kernel_rfl
@[push_cast] theorem b4 : bytesOf Try.prog 4 = 1 := by kernel_rfl
@[push_cast] theorem z4 : zeroD Try.prog 4 = some ([.t (.v (.bool false))]) := by kernel_rfl
@[push_cast] theorem u4 : Try.prog.underlying 4 = some .bool := by kernel_rfl
@[push_cast] theorem c5 : Try.prog.cellsOf 5 = 1 := by kernel_rfl
@[push_cast] theorem g5 : isAggB Try.prog 5 = false := by kernel_rfl
@[push_cast] theorem s5 : (Try.prog.underlying 5).isSome = true := by kernel_rfl
@[push_cast] theorem i5 : (Try.prog.info? 5).isSome = true := by kernel_rfl
@[push_cast] theorem m5 : concreteB Try.prog 5 = true := by kernel_rfl
@[push_cast] theorem a5 : elemOk Try.prog 5 = true := by kernel_rfl
@[push_cast] theorem b5 : bytesOf Try.prog 5 = 1 := by kernel_rfl
@[push_cast] theorem z5 : zeroD Try.prog 5 = some ([.t (.v (.int .u8 0))]) := by kernel_rfl
@[push_cast] theorem u5 : Try.prog.underlying 5 = some (.int .u8) := by kernel_rfl
@[push_cast] theorem c6 : Try.prog.cellsOf 6 = 1 := by kernel_rfl
@[push_cast] theorem g6 : isAggB Try.prog 6 = false := by kernel_rfl
@[push_cast] theorem s6 : (Try.prog.underlying 6).isSome = true := by kernel_rfl
@[push_cast] theorem i6 : (Try.prog.info? 6).isSome = true := by kernel_rfl
@[push_cast] theorem m6 : concreteB Try.prog 6 = true := by kernel_rfl
@[push_cast] theorem a6 : elemOk Try.prog 6 = true := by kernel_rfl
@[push_cast] theorem b6 : bytesOf Try.prog 6 = 1 := by kernel_rfl
@[push_cast] theorem z6 : zeroD Try.prog 6 = some ([.t (.v (.int .u8 0))]) := by kernel_rfl
@[push_cast] theorem u6 : Try.prog.underlying 6 = some (.int .u8) := by kernel_rfl
@[push_cast] theorem c7 : Try.prog.cellsOf 7 = 4 := by kernel_rfl
@[push_cast] theorem g7 : isAggB Try.prog 7 = true := by kernel_rfl
@[push_cast] theorem s7 : (Try.prog.underlying 7).isSome = true := by kernel_rfl
@[push_cast] theorem i7 : (Try.prog.info? 7).isSome = true := by kernel_rfl
@[push_cast] theorem m7 : concreteB Try.prog 7 = true := by kernel_rfl
@[push_cast] theorem a7 : elemOk Try.prog 7 = true := by kernel_rfl
@[push_cast] theorem b7 : bytesOf Try.prog 7 = 24 := by kernel_rfl
@[push_cast] theorem z7 : zeroD Try.prog 7 = some ([.t (.v (.int .i64 0)), .t (.v (.int .i64 0)), .t (.v (.bool false)), .t (.v (.int .u8 0))]) := by kernel_rfl
@[push_cast] theorem f7_0 : fieldOf Try.prog 7 0 = some (0, 1, 2) := by kernel_rfl
@[push_cast] theorem q7_0 : placeOf Try.prog 7 0 = some (0, 1) := by kernel_rfl
@[push_cast] theorem f7_1 : fieldOf Try.prog 7 1 = some (1, 1, 3) := by kernel_rfl
@[push_cast] theorem q7_1 : placeOf Try.prog 7 1 = some (1, 1) := by kernel_rfl
@[push_cast] theorem f7_2 : fieldOf Try.prog 7 2 = some (2, 1, 4) := by kernel_rfl
@[push_cast] theorem q7_2 : placeOf Try.prog 7 2 = some (2, 1) := by kernel_rfl
@[push_cast] theorem f7_3 : fieldOf Try.prog 7 3 = some (3, 1, 6) := by kernel_rfl
@[push_cast] theorem q7_3 : placeOf Try.prog 7 3 = some (3, 1) := by kernel_rfl
@[push_cast] theorem p7 : placesOk Try.prog 7 = true := by kernel_rfl
@[push_cast] theorem c8 : Try.prog.cellsOf 8 = 4 := by kernel_rfl
@[push_cast] theorem g8 : isAggB Try.prog 8 = true := by kernel_rfl
@[push_cast] theorem s8 : (Try.prog.underlying 8).isSome = true := by kernel_rfl
@[push_cast] theorem i8 : (Try.prog.info? 8).isSome = true := by kernel_rfl
@[push_cast] theorem m8 : concreteB Try.prog 8 = true := by kernel_rfl
@[push_cast] theorem a8 : elemOk Try.prog 8 = true := by kernel_rfl
@[push_cast] theorem b8 : bytesOf Try.prog 8 = 24 := by kernel_rfl
@[push_cast] theorem z8 : zeroD Try.prog 8 = some ([.t (.v (.int .i64 0)), .t (.v (.int .i64 0)), .t (.v (.bool false)), .t (.v (.int .u8 0))]) := by kernel_rfl
@[push_cast] theorem f8_0 : fieldOf Try.prog 8 0 = some (0, 1, 2) := by kernel_rfl
@[push_cast] theorem q8_0 : placeOf Try.prog 8 0 = some (0, 1) := by kernel_rfl
@[push_cast] theorem f8_1 : fieldOf Try.prog 8 1 = some (1, 1, 3) := by kernel_rfl
@[push_cast] theorem q8_1 : placeOf Try.prog 8 1 = some (1, 1) := by kernel_rfl
@[push_cast] theorem f8_2 : fieldOf Try.prog 8 2 = some (2, 1, 4) := by kernel_rfl
@[push_cast] theorem q8_2 : placeOf Try.prog 8 2 = some (2, 1) := by kernel_rfl
@[push_cast] theorem f8_3 : fieldOf Try.prog 8 3 = some (3, 1, 6) := by kernel_rfl
@[push_cast] theorem q8_3 : placeOf Try.prog 8 3 = some (3, 1) := by kernel_rfl
@[push_cast] theorem p8 : placesOk Try.prog 8 = true := by kernel_rfl
@[push_cast] theorem c9 : Try.prog.cellsOf 9 = 1 := by kernel_rfl
@[push_cast] theorem g9 : isAggB Try.prog 9 = false := by kernel_rfl
@[push_cast] theorem s9 : (Try.prog.underlying 9).isSome = true := by kernel_rfl
@[push_cast] theorem i9 : (Try.prog.info? 9).isSome = true := by kernel_rfl
@[push_cast] theorem m9 : concreteB Try.prog 9 = true := by kernel_rfl
@[push_cast] theorem a9 : elemOk Try.prog 9 = true := by kernel_rfl
@[push_cast] theorem b9 : bytesOf Try.prog 9 = 16 := by kernel_rfl
@[push_cast] theorem z9 : zeroD Try.prog 9 = some ([.t (.v (.string ⟨#[]⟩))]) := by kernel_rfl
@[push_cast] theorem u9 : Try.prog.underlying 9 = some .string := by kernel_rfl
@[push_cast] theorem c10 : Try.prog.cellsOf 10 = 1 := by kernel_rfl
@[push_cast] theorem g10 : isAggB Try.prog 10 = false := by kernel_rfl
@[push_cast] theorem s10 : (Try.prog.underlying 10).isSome = true := by kernel_rfl
@[push_cast] theorem i10 : (Try.prog.info? 10).isSome = true := by kernel_rfl
@[push_cast] theorem m10 : concreteB Try.prog 10 = true := by kernel_rfl
@[push_cast] theorem a10 : elemOk Try.prog 10 = true := by kernel_rfl
@[push_cast] theorem b10 : bytesOf Try.prog 10 = 16 := by kernel_rfl
@[push_cast] theorem z10 : zeroD Try.prog 10 = some ([.t (.v (.string ⟨#[]⟩))]) := by kernel_rfl
@[push_cast] theorem u10 : Try.prog.underlying 10 = some .string := by kernel_rfl
@[push_cast] theorem c11 : Try.prog.cellsOf 11 = 1 := by kernel_rfl
@[push_cast] theorem g11 : isAggB Try.prog 11 = false := by kernel_rfl
@[push_cast] theorem s11 : (Try.prog.underlying 11).isSome = true := by kernel_rfl
@[push_cast] theorem i11 : (Try.prog.info? 11).isSome = true := by kernel_rfl
@[push_cast] theorem m11 : concreteB Try.prog 11 = true := by kernel_rfl
@[push_cast] theorem a11 : elemOk Try.prog 11 = true := by kernel_rfl
@[push_cast] theorem b11 : bytesOf Try.prog 11 = 16 := by kernel_rfl
@[push_cast] theorem z11 : zeroD Try.prog 11 = some ([.t (.v (.string ⟨#[]⟩))]) := by kernel_rfl
@[push_cast] theorem u11 : Try.prog.underlying 11 = some .string := by kernel_rfl
@[push_cast] theorem c12 : Try.prog.cellsOf 12 = 1 := by kernel_rfl
@[push_cast] theorem g12 : isAggB Try.prog 12 = false := by kernel_rfl
@[push_cast] theorem s12 : (Try.prog.underlying 12).isSome = true := by kernel_rfl
@[push_cast] theorem i12 : (Try.prog.info? 12).isSome = true := by kernel_rfl
@[push_cast] theorem m12 : concreteB Try.prog 12 = true := by kernel_rfl
@[push_cast] theorem a12 : elemOk Try.prog 12 = true := by kernel_rfl
@[push_cast] theorem b12 : bytesOf Try.prog 12 = 8 := by kernel_rfl
@[push_cast] theorem z12 : zeroD Try.prog 12 = some ([.t (.v (.int .u64 0))]) := by kernel_rfl
@[push_cast] theorem u12 : Try.prog.underlying 12 = some (.int .u64) := by kernel_rfl
@[push_cast] theorem c13 : Try.prog.cellsOf 13 = 2 := by kernel_rfl
@[push_cast] theorem g13 : isAggB Try.prog 13 = true := by kernel_rfl
@[push_cast] theorem s13 : (Try.prog.underlying 13).isSome = true := by kernel_rfl
@[push_cast] theorem i13 : (Try.prog.info? 13).isSome = true := by kernel_rfl
@[push_cast] theorem m13 : concreteB Try.prog 13 = true := by kernel_rfl
@[push_cast] theorem a13 : elemOk Try.prog 13 = true := by kernel_rfl
@[push_cast] theorem b13 : bytesOf Try.prog 13 = 24 := by kernel_rfl
@[push_cast] theorem z13 : zeroD Try.prog 13 = some ([.t (.v (.string ⟨#[]⟩)), .t (.v (.int .u64 0))]) := by kernel_rfl
@[push_cast] theorem f13_0 : fieldOf Try.prog 13 0 = some (0, 1, 9) := by kernel_rfl
@[push_cast] theorem q13_0 : placeOf Try.prog 13 0 = some (0, 1) := by kernel_rfl
@[push_cast] theorem f13_1 : fieldOf Try.prog 13 1 = some (1, 1, 12) := by kernel_rfl
@[push_cast] theorem q13_1 : placeOf Try.prog 13 1 = some (1, 1) := by kernel_rfl
@[push_cast] theorem p13 : placesOk Try.prog 13 = true := by kernel_rfl
@[push_cast] theorem c14 : Try.prog.cellsOf 14 = 2 := by kernel_rfl
@[push_cast] theorem g14 : isAggB Try.prog 14 = true := by kernel_rfl
@[push_cast] theorem s14 : (Try.prog.underlying 14).isSome = true := by kernel_rfl
@[push_cast] theorem i14 : (Try.prog.info? 14).isSome = true := by kernel_rfl
@[push_cast] theorem m14 : concreteB Try.prog 14 = true := by kernel_rfl
@[push_cast] theorem a14 : elemOk Try.prog 14 = true := by kernel_rfl
@[push_cast] theorem b14 : bytesOf Try.prog 14 = 24 := by kernel_rfl
@[push_cast] theorem z14 : zeroD Try.prog 14 = some ([.t (.v (.string ⟨#[]⟩)), .t (.v (.int .u64 0))]) := by kernel_rfl
@[push_cast] theorem f14_0 : fieldOf Try.prog 14 0 = some (0, 1, 9) := by kernel_rfl
@[push_cast] theorem q14_0 : placeOf Try.prog 14 0 = some (0, 1) := by kernel_rfl
@[push_cast] theorem f14_1 : fieldOf Try.prog 14 1 = some (1, 1, 12) := by kernel_rfl
@[push_cast] theorem q14_1 : placeOf Try.prog 14 1 = some (1, 1) := by kernel_rfl
@[push_cast] theorem p14 : placesOk Try.prog 14 = true := by kernel_rfl
@[push_cast] theorem c15 : Try.prog.cellsOf 15 = 1 := by kernel_rfl
@[push_cast] theorem g15 : isAggB Try.prog 15 = false := by kernel_rfl
@[push_cast] theorem s15 : (Try.prog.underlying 15).isSome = true := by kernel_rfl
@[push_cast] theorem i15 : (Try.prog.info? 15).isSome = true := by kernel_rfl
@[push_cast] theorem m15 : concreteB Try.prog 15 = true := by kernel_rfl
@[push_cast] theorem a15 : elemOk Try.prog 15 = true := by kernel_rfl
@[push_cast] theorem b15 : bytesOf Try.prog 15 = 8 := by kernel_rfl
@[push_cast] theorem z15 : zeroD Try.prog 15 = some ([.t (.v (.pointer none))]) := by kernel_rfl
@[push_cast] theorem c16 : Try.prog.cellsOf 16 = 1 := by kernel_rfl
@[push_cast] theorem g16 : isAggB Try.prog 16 = false := by kernel_rfl
@[push_cast] theorem s16 : (Try.prog.underlying 16).isSome = true := by kernel_rfl
@[push_cast] theorem i16 : (Try.prog.info? 16).isSome = true := by kernel_rfl
@[push_cast] theorem m16 : concreteB Try.prog 16 = true := by kernel_rfl
@[push_cast] theorem a16 : elemOk Try.prog 16 = true := by kernel_rfl
@[push_cast] theorem b16 : bytesOf Try.prog 16 = 8 := by kernel_rfl
@[push_cast] theorem z16 : zeroD Try.prog 16 = some ([.t (.v (.pointer none))]) := by kernel_rfl
@[push_cast] theorem c17 : Try.prog.cellsOf 17 = 1 := by kernel_rfl
@[push_cast] theorem g17 : isAggB Try.prog 17 = false := by kernel_rfl
@[push_cast] theorem s17 : (Try.prog.underlying 17).isSome = true := by kernel_rfl
@[push_cast] theorem i17 : (Try.prog.info? 17).isSome = true := by kernel_rfl
@[push_cast] theorem m17 : concreteB Try.prog 17 = true := by kernel_rfl
@[push_cast] theorem a17 : elemOk Try.prog 17 = true := by kernel_rfl
@[push_cast] theorem b17 : bytesOf Try.prog 17 = 8 := by kernel_rfl
@[push_cast] theorem z17 : zeroD Try.prog 17 = some ([.t (.v (.pointer none))]) := by kernel_rfl
@[push_cast] theorem c18 : Try.prog.cellsOf 18 = 1 := by kernel_rfl
@[push_cast] theorem g18 : isAggB Try.prog 18 = true := by kernel_rfl
@[push_cast] theorem s18 : (Try.prog.underlying 18).isSome = true := by kernel_rfl
@[push_cast] theorem i18 : (Try.prog.info? 18).isSome = true := by kernel_rfl
@[push_cast] theorem m18 : concreteB Try.prog 18 = true := by kernel_rfl
@[push_cast] theorem a18 : elemOk Try.prog 18 = true := by kernel_rfl
@[push_cast] theorem b18 : bytesOf Try.prog 18 = 8 := by kernel_rfl
@[push_cast] theorem z18 : zeroD Try.prog 18 = some ([.t (.v (.pointer none))]) := by kernel_rfl
@[push_cast] theorem f18_0 : fieldOf Try.prog 18 0 = some (0, 1, 17) := by kernel_rfl
@[push_cast] theorem q18_0 : placeOf Try.prog 18 0 = some (0, 1) := by kernel_rfl
@[push_cast] theorem p18 : placesOk Try.prog 18 = true := by kernel_rfl
@[push_cast] theorem c19 : Try.prog.cellsOf 19 = 1 := by kernel_rfl
@[push_cast] theorem g19 : isAggB Try.prog 19 = true := by kernel_rfl
@[push_cast] theorem s19 : (Try.prog.underlying 19).isSome = true := by kernel_rfl
@[push_cast] theorem i19 : (Try.prog.info? 19).isSome = true := by kernel_rfl
@[push_cast] theorem m19 : concreteB Try.prog 19 = true := by kernel_rfl
@[push_cast] theorem a19 : elemOk Try.prog 19 = true := by kernel_rfl
@[push_cast] theorem b19 : bytesOf Try.prog 19 = 8 := by kernel_rfl
@[push_cast] theorem z19 : zeroD Try.prog 19 = some ([.t (.v (.pointer none))]) := by kernel_rfl
@[push_cast] theorem f19_0 : fieldOf Try.prog 19 0 = some (0, 1, 17) := by kernel_rfl
@[push_cast] theorem q19_0 : placeOf Try.prog 19 0 = some (0, 1) := by kernel_rfl
@[push_cast] theorem p19 : placesOk Try.prog 19 = true := by kernel_rfl
@[push_cast] theorem c20 : Try.prog.cellsOf 20 = 1 := by kernel_rfl
@[push_cast] theorem g20 : isAggB Try.prog 20 = false := by kernel_rfl
@[push_cast] theorem s20 : (Try.prog.underlying 20).isSome = true := by kernel_rfl
@[push_cast] theorem i20 : (Try.prog.info? 20).isSome = true := by kernel_rfl
@[push_cast] theorem a20 : elemOk Try.prog 20 = true := by kernel_rfl
@[push_cast] theorem b20 : bytesOf Try.prog 20 = 16 := by kernel_rfl
@[push_cast] theorem z20 : zeroD Try.prog 20 = some ([.t (.v .nilIface)]) := by kernel_rfl
@[push_cast] theorem u20 : Try.prog.underlying 20 = some (.interface (Try.prog.methodsAt 20)) := by kernel_rfl
@[push_cast] theorem c21 : Try.prog.cellsOf 21 = 1 := by kernel_rfl
@[push_cast] theorem g21 : isAggB Try.prog 21 = false := by kernel_rfl
@[push_cast] theorem s21 : (Try.prog.underlying 21).isSome = true := by kernel_rfl
@[push_cast] theorem i21 : (Try.prog.info? 21).isSome = true := by kernel_rfl
@[push_cast] theorem m21 : concreteB Try.prog 21 = true := by kernel_rfl
@[push_cast] theorem a21 : elemOk Try.prog 21 = true := by kernel_rfl
@[push_cast] theorem b21 : bytesOf Try.prog 21 = 4 := by kernel_rfl
@[push_cast] theorem z21 : zeroD Try.prog 21 = some ([.t (.v (.int .i32 0))]) := by kernel_rfl
@[push_cast] theorem u21 : Try.prog.underlying 21 = some (.int .i32) := by kernel_rfl
@[push_cast] theorem c22 : Try.prog.cellsOf 22 = 1 := by kernel_rfl
@[push_cast] theorem g22 : isAggB Try.prog 22 = false := by kernel_rfl
@[push_cast] theorem s22 : (Try.prog.underlying 22).isSome = true := by kernel_rfl
@[push_cast] theorem i22 : (Try.prog.info? 22).isSome = true := by kernel_rfl
@[push_cast] theorem m22 : concreteB Try.prog 22 = true := by kernel_rfl
@[push_cast] theorem a22 : elemOk Try.prog 22 = true := by kernel_rfl
@[push_cast] theorem b22 : bytesOf Try.prog 22 = 8 := by kernel_rfl
@[push_cast] theorem z22 : zeroD Try.prog 22 = some ([.t (.v .nilFunc)]) := by kernel_rfl
@[push_cast] theorem c24 : Try.prog.cellsOf 24 = 1 := by kernel_rfl
@[push_cast] theorem g24 : isAggB Try.prog 24 = false := by kernel_rfl
@[push_cast] theorem s24 : (Try.prog.underlying 24).isSome = true := by kernel_rfl
@[push_cast] theorem i24 : (Try.prog.info? 24).isSome = true := by kernel_rfl
@[push_cast] theorem m24 : concreteB Try.prog 24 = true := by kernel_rfl
@[push_cast] theorem a24 : elemOk Try.prog 24 = true := by kernel_rfl
@[push_cast] theorem b24 : bytesOf Try.prog 24 = 8 := by kernel_rfl
@[push_cast] theorem z24 : zeroD Try.prog 24 = some ([.t (.v .nilFunc)]) := by kernel_rfl
@[push_cast] theorem c25 : Try.prog.cellsOf 25 = 2 := by kernel_rfl
@[push_cast] theorem g25 : isAggB Try.prog 25 = true := by kernel_rfl
@[push_cast] theorem s25 : (Try.prog.underlying 25).isSome = true := by kernel_rfl
@[push_cast] theorem i25 : (Try.prog.info? 25).isSome = true := by kernel_rfl
@[push_cast] theorem m25 : concreteB Try.prog 25 = true := by kernel_rfl
@[push_cast] theorem a25 : elemOk Try.prog 25 = true := by kernel_rfl
@[push_cast] theorem b25 : bytesOf Try.prog 25 = 24 := by kernel_rfl
@[push_cast] theorem z25 : zeroD Try.prog 25 = some ([.t (.v (.string ⟨#[]⟩)), .t (.v (.bool false))]) := by kernel_rfl
@[push_cast] theorem f25_0 : fieldOf Try.prog 25 0 = some (0, 1, 9) := by kernel_rfl
@[push_cast] theorem q25_0 : placeOf Try.prog 25 0 = some (0, 1) := by kernel_rfl
@[push_cast] theorem f25_1 : fieldOf Try.prog 25 1 = some (1, 1, 4) := by kernel_rfl
@[push_cast] theorem q25_1 : placeOf Try.prog 25 1 = some (1, 1) := by kernel_rfl
@[push_cast] theorem p25 : placesOk Try.prog 25 = true := by kernel_rfl
@[push_cast] theorem c26 : Try.prog.cellsOf 26 = 2 := by kernel_rfl
@[push_cast] theorem g26 : isAggB Try.prog 26 = true := by kernel_rfl
@[push_cast] theorem s26 : (Try.prog.underlying 26).isSome = true := by kernel_rfl
@[push_cast] theorem i26 : (Try.prog.info? 26).isSome = true := by kernel_rfl
@[push_cast] theorem m26 : concreteB Try.prog 26 = true := by kernel_rfl
@[push_cast] theorem a26 : elemOk Try.prog 26 = true := by kernel_rfl
@[push_cast] theorem b26 : bytesOf Try.prog 26 = 24 := by kernel_rfl
@[push_cast] theorem z26 : zeroD Try.prog 26 = some ([.t (.v (.string ⟨#[]⟩)), .t (.v (.bool false))]) := by kernel_rfl
@[push_cast] theorem f26_0 : fieldOf Try.prog 26 0 = some (0, 1, 9) := by kernel_rfl
@[push_cast] theorem q26_0 : placeOf Try.prog 26 0 = some (0, 1) := by kernel_rfl
@[push_cast] theorem f26_1 : fieldOf Try.prog 26 1 = some (1, 1, 4) := by kernel_rfl
@[push_cast] theorem q26_1 : placeOf Try.prog 26 1 = some (1, 1) := by kernel_rfl
@[push_cast] theorem p26 : placesOk Try.prog 26 = true := by kernel_rfl
@[push_cast] theorem c27 : Try.prog.cellsOf 27 = 1 := by kernel_rfl
@[push_cast] theorem g27 : isAggB Try.prog 27 = false := by kernel_rfl
@[push_cast] theorem s27 : (Try.prog.underlying 27).isSome = true := by kernel_rfl
@[push_cast] theorem i27 : (Try.prog.info? 27).isSome = true := by kernel_rfl
@[push_cast] theorem m27 : concreteB Try.prog 27 = true := by kernel_rfl
@[push_cast] theorem a27 : elemOk Try.prog 27 = true := by kernel_rfl
@[push_cast] theorem b27 : bytesOf Try.prog 27 = 8 := by kernel_rfl
@[push_cast] theorem z27 : zeroD Try.prog 27 = some ([.t (.v .nilFunc)]) := by kernel_rfl
@[push_cast] theorem c28 : Try.prog.cellsOf 28 = 1 := by kernel_rfl
@[push_cast] theorem g28 : isAggB Try.prog 28 = false := by kernel_rfl
@[push_cast] theorem s28 : (Try.prog.underlying 28).isSome = true := by kernel_rfl
@[push_cast] theorem i28 : (Try.prog.info? 28).isSome = true := by kernel_rfl
@[push_cast] theorem m28 : concreteB Try.prog 28 = true := by kernel_rfl
@[push_cast] theorem a28 : elemOk Try.prog 28 = true := by kernel_rfl
@[push_cast] theorem b28 : bytesOf Try.prog 28 = 8 := by kernel_rfl
@[push_cast] theorem z28 : zeroD Try.prog 28 = some ([.t (.v .nilFunc)]) := by kernel_rfl
@[push_cast] theorem c29 : Try.prog.cellsOf 29 = 1 := by kernel_rfl
@[push_cast] theorem g29 : isAggB Try.prog 29 = false := by kernel_rfl
@[push_cast] theorem s29 : (Try.prog.underlying 29).isSome = true := by kernel_rfl
@[push_cast] theorem i29 : (Try.prog.info? 29).isSome = true := by kernel_rfl
@[push_cast] theorem m29 : concreteB Try.prog 29 = true := by kernel_rfl
@[push_cast] theorem a29 : elemOk Try.prog 29 = true := by kernel_rfl
@[push_cast] theorem b29 : bytesOf Try.prog 29 = 8 := by kernel_rfl
@[push_cast] theorem z29 : zeroD Try.prog 29 = some ([.t (.v .nilFunc)]) := by kernel_rfl
@[push_cast] theorem c30 : Try.prog.cellsOf 30 = 1 := by kernel_rfl
@[push_cast] theorem g30 : isAggB Try.prog 30 = false := by kernel_rfl
@[push_cast] theorem s30 : (Try.prog.underlying 30).isSome = true := by kernel_rfl
@[push_cast] theorem i30 : (Try.prog.info? 30).isSome = true := by kernel_rfl
@[push_cast] theorem m30 : concreteB Try.prog 30 = true := by kernel_rfl
@[push_cast] theorem a30 : elemOk Try.prog 30 = true := by kernel_rfl
@[push_cast] theorem b30 : bytesOf Try.prog 30 = 24 := by kernel_rfl
@[push_cast] theorem z30 : zeroD Try.prog 30 = some ([.t (.v (.slice none 0 0))]) := by kernel_rfl
@[push_cast] theorem u30 : Try.prog.underlying 30 = some (.slice 5) := by kernel_rfl
@[push_cast] theorem e30 : Try.prog.elem 30 = 5 := by kernel_rfl
@[push_cast] theorem c31 : Try.prog.cellsOf 31 = 1 := by kernel_rfl
@[push_cast] theorem g31 : isAggB Try.prog 31 = false := by kernel_rfl
@[push_cast] theorem s31 : (Try.prog.underlying 31).isSome = true := by kernel_rfl
@[push_cast] theorem i31 : (Try.prog.info? 31).isSome = true := by kernel_rfl
@[push_cast] theorem m31 : concreteB Try.prog 31 = true := by kernel_rfl
@[push_cast] theorem a31 : elemOk Try.prog 31 = true := by kernel_rfl
@[push_cast] theorem b31 : bytesOf Try.prog 31 = 2 := by kernel_rfl
@[push_cast] theorem z31 : zeroD Try.prog 31 = some ([.t (.v (.int .u16 0))]) := by kernel_rfl
@[push_cast] theorem u31 : Try.prog.underlying 31 = some (.int .u16) := by kernel_rfl
@[push_cast] theorem c32 : Try.prog.cellsOf 32 = 1 := by kernel_rfl
@[push_cast] theorem g32 : isAggB Try.prog 32 = false := by kernel_rfl
@[push_cast] theorem s32 : (Try.prog.underlying 32).isSome = true := by kernel_rfl
@[push_cast] theorem i32 : (Try.prog.info? 32).isSome = true := by kernel_rfl
@[push_cast] theorem m32 : concreteB Try.prog 32 = true := by kernel_rfl
@[push_cast] theorem a32 : elemOk Try.prog 32 = true := by kernel_rfl
@[push_cast] theorem b32 : bytesOf Try.prog 32 = 8 := by kernel_rfl
@[push_cast] theorem z32 : zeroD Try.prog 32 = some ([.t (.v .nilFunc)]) := by kernel_rfl
@[push_cast] theorem c33 : Try.prog.cellsOf 33 = 1 := by kernel_rfl
@[push_cast] theorem g33 : isAggB Try.prog 33 = false := by kernel_rfl
@[push_cast] theorem s33 : (Try.prog.underlying 33).isSome = true := by kernel_rfl
@[push_cast] theorem i33 : (Try.prog.info? 33).isSome = true := by kernel_rfl
@[push_cast] theorem m33 : concreteB Try.prog 33 = true := by kernel_rfl
@[push_cast] theorem a33 : elemOk Try.prog 33 = true := by kernel_rfl
@[push_cast] theorem b33 : bytesOf Try.prog 33 = 24 := by kernel_rfl
@[push_cast] theorem z33 : zeroD Try.prog 33 = some ([.t (.v (.slice none 0 0))]) := by kernel_rfl
@[push_cast] theorem u33 : Try.prog.underlying 33 = some (.slice 30) := by kernel_rfl
@[push_cast] theorem e33 : Try.prog.elem 33 = 30 := by kernel_rfl
@[push_cast] theorem c34 : Try.prog.cellsOf 34 = 1 := by kernel_rfl
@[push_cast] theorem g34 : isAggB Try.prog 34 = false := by kernel_rfl
@[push_cast] theorem s34 : (Try.prog.underlying 34).isSome = true := by kernel_rfl
@[push_cast] theorem i34 : (Try.prog.info? 34).isSome = true := by kernel_rfl
@[push_cast] theorem m34 : concreteB Try.prog 34 = true := by kernel_rfl
@[push_cast] theorem a34 : elemOk Try.prog 34 = true := by kernel_rfl
@[push_cast] theorem b34 : bytesOf Try.prog 34 = 8 := by kernel_rfl
@[push_cast] theorem z34 : zeroD Try.prog 34 = some ([.t (.v .nilFunc)]) := by kernel_rfl
@[push_cast] theorem c35 : Try.prog.cellsOf 35 = 1 := by kernel_rfl
@[push_cast] theorem g35 : isAggB Try.prog 35 = false := by kernel_rfl
@[push_cast] theorem s35 : (Try.prog.underlying 35).isSome = true := by kernel_rfl
@[push_cast] theorem i35 : (Try.prog.info? 35).isSome = true := by kernel_rfl
@[push_cast] theorem m35 : concreteB Try.prog 35 = true := by kernel_rfl
@[push_cast] theorem a35 : elemOk Try.prog 35 = true := by kernel_rfl
@[push_cast] theorem b35 : bytesOf Try.prog 35 = 8 := by kernel_rfl
@[push_cast] theorem z35 : zeroD Try.prog 35 = some ([.t (.v .nilFunc)]) := by kernel_rfl
@[push_cast] theorem c36 : Try.prog.cellsOf 36 = 1 := by kernel_rfl
@[push_cast] theorem g36 : isAggB Try.prog 36 = false := by kernel_rfl
@[push_cast] theorem s36 : (Try.prog.underlying 36).isSome = true := by kernel_rfl
@[push_cast] theorem i36 : (Try.prog.info? 36).isSome = true := by kernel_rfl
@[push_cast] theorem m36 : concreteB Try.prog 36 = true := by kernel_rfl
@[push_cast] theorem a36 : elemOk Try.prog 36 = true := by kernel_rfl
@[push_cast] theorem b36 : bytesOf Try.prog 36 = 8 := by kernel_rfl
@[push_cast] theorem z36 : zeroD Try.prog 36 = some ([.t (.v .nilFunc)]) := by kernel_rfl
@[push_cast] theorem c37 : Try.prog.cellsOf 37 = 1 := by kernel_rfl
@[push_cast] theorem g37 : isAggB Try.prog 37 = false := by kernel_rfl
@[push_cast] theorem s37 : (Try.prog.underlying 37).isSome = true := by kernel_rfl
@[push_cast] theorem i37 : (Try.prog.info? 37).isSome = true := by kernel_rfl
@[push_cast] theorem m37 : concreteB Try.prog 37 = true := by kernel_rfl
@[push_cast] theorem a37 : elemOk Try.prog 37 = true := by kernel_rfl
@[push_cast] theorem b37 : bytesOf Try.prog 37 = 8 := by kernel_rfl
@[push_cast] theorem z37 : zeroD Try.prog 37 = some ([.t (.v .nilFunc)]) := by kernel_rfl
@[push_cast] theorem c38 : Try.prog.cellsOf 38 = 1 := by kernel_rfl
@[push_cast] theorem g38 : isAggB Try.prog 38 = false := by kernel_rfl
@[push_cast] theorem s38 : (Try.prog.underlying 38).isSome = true := by kernel_rfl
@[push_cast] theorem i38 : (Try.prog.info? 38).isSome = true := by kernel_rfl
@[push_cast] theorem m38 : concreteB Try.prog 38 = true := by kernel_rfl
@[push_cast] theorem a38 : elemOk Try.prog 38 = true := by kernel_rfl
@[push_cast] theorem b38 : bytesOf Try.prog 38 = 8 := by kernel_rfl
@[push_cast] theorem z38 : zeroD Try.prog 38 = some ([.t (.v .nilFunc)]) := by kernel_rfl
@[push_cast] theorem c39 : Try.prog.cellsOf 39 = 1 := by kernel_rfl
@[push_cast] theorem g39 : isAggB Try.prog 39 = false := by kernel_rfl
@[push_cast] theorem s39 : (Try.prog.underlying 39).isSome = true := by kernel_rfl
@[push_cast] theorem i39 : (Try.prog.info? 39).isSome = true := by kernel_rfl
@[push_cast] theorem m39 : concreteB Try.prog 39 = true := by kernel_rfl
@[push_cast] theorem a39 : elemOk Try.prog 39 = true := by kernel_rfl
@[push_cast] theorem b39 : bytesOf Try.prog 39 = 8 := by kernel_rfl
@[push_cast] theorem z39 : zeroD Try.prog 39 = some ([.t (.v .nilFunc)]) := by kernel_rfl
@[push_cast] theorem c40 : Try.prog.cellsOf 40 = 1 := by kernel_rfl
@[push_cast] theorem g40 : isAggB Try.prog 40 = false := by kernel_rfl
@[push_cast] theorem s40 : (Try.prog.underlying 40).isSome = true := by kernel_rfl
@[push_cast] theorem i40 : (Try.prog.info? 40).isSome = true := by kernel_rfl
@[push_cast] theorem a40 : elemOk Try.prog 40 = true := by kernel_rfl
@[push_cast] theorem b40 : bytesOf Try.prog 40 = 16 := by kernel_rfl
@[push_cast] theorem z40 : zeroD Try.prog 40 = some ([.t (.v .nilIface)]) := by kernel_rfl
@[push_cast] theorem u40 : Try.prog.underlying 40 = some (.interface (Try.prog.methodsAt 40)) := by kernel_rfl
@[push_cast] theorem c41 : Try.prog.cellsOf 41 = 1 := by kernel_rfl
@[push_cast] theorem g41 : isAggB Try.prog 41 = false := by kernel_rfl
@[push_cast] theorem s41 : (Try.prog.underlying 41).isSome = true := by kernel_rfl
@[push_cast] theorem i41 : (Try.prog.info? 41).isSome = true := by kernel_rfl
@[push_cast] theorem a41 : elemOk Try.prog 41 = true := by kernel_rfl
@[push_cast] theorem b41 : bytesOf Try.prog 41 = 16 := by kernel_rfl
@[push_cast] theorem z41 : zeroD Try.prog 41 = some ([.t (.v .nilIface)]) := by kernel_rfl
@[push_cast] theorem u41 : Try.prog.underlying 41 = some (.interface (Try.prog.methodsAt 41)) := by kernel_rfl
@[push_cast] theorem c43 : Try.prog.cellsOf 43 = 1 := by kernel_rfl
@[push_cast] theorem g43 : isAggB Try.prog 43 = false := by kernel_rfl
@[push_cast] theorem s43 : (Try.prog.underlying 43).isSome = true := by kernel_rfl
@[push_cast] theorem i43 : (Try.prog.info? 43).isSome = true := by kernel_rfl
@[push_cast] theorem m43 : concreteB Try.prog 43 = true := by kernel_rfl
@[push_cast] theorem a43 : elemOk Try.prog 43 = true := by kernel_rfl
@[push_cast] theorem b43 : bytesOf Try.prog 43 = 8 := by kernel_rfl
@[push_cast] theorem z43 : zeroD Try.prog 43 = some ([.t (.v .nilFunc)]) := by kernel_rfl
@[push_cast] theorem c44 : Try.prog.cellsOf 44 = 1 := by kernel_rfl
@[push_cast] theorem g44 : isAggB Try.prog 44 = false := by kernel_rfl
@[push_cast] theorem s44 : (Try.prog.underlying 44).isSome = true := by kernel_rfl
@[push_cast] theorem i44 : (Try.prog.info? 44).isSome = true := by kernel_rfl
@[push_cast] theorem m44 : concreteB Try.prog 44 = true := by kernel_rfl
@[push_cast] theorem a44 : elemOk Try.prog 44 = true := by kernel_rfl
@[push_cast] theorem b44 : bytesOf Try.prog 44 = 8 := by kernel_rfl
@[push_cast] theorem z44 : zeroD Try.prog 44 = some ([.t (.v .nilFunc)]) := by kernel_rfl
@[push_cast] theorem c45 : Try.prog.cellsOf 45 = 1 := by kernel_rfl
@[push_cast] theorem g45 : isAggB Try.prog 45 = false := by kernel_rfl
@[push_cast] theorem s45 : (Try.prog.underlying 45).isSome = true := by kernel_rfl
@[push_cast] theorem i45 : (Try.prog.info? 45).isSome = true := by kernel_rfl
@[push_cast] theorem m45 : concreteB Try.prog 45 = true := by kernel_rfl
@[push_cast] theorem a45 : elemOk Try.prog 45 = true := by kernel_rfl
@[push_cast] theorem b45 : bytesOf Try.prog 45 = 16 := by kernel_rfl
@[push_cast] theorem z45 : zeroD Try.prog 45 = some ([.t (.v (.string ⟨#[]⟩))]) := by kernel_rfl
@[push_cast] theorem u45 : Try.prog.underlying 45 = some .string := by kernel_rfl
@[push_cast] theorem c46 : Try.prog.cellsOf 46 = 1 := by kernel_rfl
@[push_cast] theorem g46 : isAggB Try.prog 46 = false := by kernel_rfl
@[push_cast] theorem s46 : (Try.prog.underlying 46).isSome = true := by kernel_rfl
@[push_cast] theorem i46 : (Try.prog.info? 46).isSome = true := by kernel_rfl
@[push_cast] theorem m46 : concreteB Try.prog 46 = true := by kernel_rfl
@[push_cast] theorem a46 : elemOk Try.prog 46 = true := by kernel_rfl
@[push_cast] theorem b46 : bytesOf Try.prog 46 = 8 := by kernel_rfl
@[push_cast] theorem z46 : zeroD Try.prog 46 = some ([.t (.v .nilFunc)]) := by kernel_rfl
@[push_cast] theorem c47 : Try.prog.cellsOf 47 = 1 := by kernel_rfl
@[push_cast] theorem g47 : isAggB Try.prog 47 = false := by kernel_rfl
@[push_cast] theorem s47 : (Try.prog.underlying 47).isSome = true := by kernel_rfl
@[push_cast] theorem i47 : (Try.prog.info? 47).isSome = true := by kernel_rfl
@[push_cast] theorem m47 : concreteB Try.prog 47 = true := by kernel_rfl
@[push_cast] theorem a47 : elemOk Try.prog 47 = true := by kernel_rfl
@[push_cast] theorem b47 : bytesOf Try.prog 47 = 8 := by kernel_rfl
@[push_cast] theorem z47 : zeroD Try.prog 47 = some ([.t (.v .nilFunc)]) := by kernel_rfl
@[push_cast] theorem c48 : Try.prog.cellsOf 48 = 1 := by kernel_rfl
@[push_cast] theorem g48 : isAggB Try.prog 48 = false := by kernel_rfl
@[push_cast] theorem s48 : (Try.prog.underlying 48).isSome = true := by kernel_rfl
@[push_cast] theorem i48 : (Try.prog.info? 48).isSome = true := by kernel_rfl
@[push_cast] theorem m48 : concreteB Try.prog 48 = true := by kernel_rfl
@[push_cast] theorem a48 : elemOk Try.prog 48 = true := by kernel_rfl
@[push_cast] theorem b48 : bytesOf Try.prog 48 = 8 := by kernel_rfl
@[push_cast] theorem z48 : zeroD Try.prog 48 = some ([.t (.v .nilFunc)]) := by kernel_rfl
@[push_cast] theorem c49 : Try.prog.cellsOf 49 = 2 := by kernel_rfl
@[push_cast] theorem g49 : isAggB Try.prog 49 = true := by kernel_rfl
@[push_cast] theorem s49 : (Try.prog.underlying 49).isSome = true := by kernel_rfl
@[push_cast] theorem i49 : (Try.prog.info? 49).isSome = true := by kernel_rfl
@[push_cast] theorem m49 : concreteB Try.prog 49 = true := by kernel_rfl
@[push_cast] theorem a49 : elemOk Try.prog 49 = true := by kernel_rfl
@[push_cast] theorem b49 : bytesOf Try.prog 49 = 32 := by kernel_rfl
@[push_cast] theorem z49 : zeroD Try.prog 49 = some ([.t (.v (.string ⟨#[]⟩)), .t (.v .nilIface)]) := by kernel_rfl
@[push_cast] theorem f49_0 : fieldOf Try.prog 49 0 = some (0, 1, 9) := by kernel_rfl
@[push_cast] theorem q49_0 : placeOf Try.prog 49 0 = some (0, 1) := by kernel_rfl
@[push_cast] theorem f49_1 : fieldOf Try.prog 49 1 = some (1, 1, 41) := by kernel_rfl
@[push_cast] theorem q49_1 : placeOf Try.prog 49 1 = some (1, 1) := by kernel_rfl
@[push_cast] theorem p49 : placesOk Try.prog 49 = true := by kernel_rfl
@[push_cast] theorem c50 : Try.prog.cellsOf 50 = 2 := by kernel_rfl
@[push_cast] theorem g50 : isAggB Try.prog 50 = true := by kernel_rfl
@[push_cast] theorem s50 : (Try.prog.underlying 50).isSome = true := by kernel_rfl
@[push_cast] theorem i50 : (Try.prog.info? 50).isSome = true := by kernel_rfl
@[push_cast] theorem m50 : concreteB Try.prog 50 = true := by kernel_rfl
@[push_cast] theorem a50 : elemOk Try.prog 50 = true := by kernel_rfl
@[push_cast] theorem b50 : bytesOf Try.prog 50 = 32 := by kernel_rfl
@[push_cast] theorem z50 : zeroD Try.prog 50 = some ([.t (.v (.string ⟨#[]⟩)), .t (.v .nilIface)]) := by kernel_rfl
@[push_cast] theorem f50_0 : fieldOf Try.prog 50 0 = some (0, 1, 9) := by kernel_rfl
@[push_cast] theorem q50_0 : placeOf Try.prog 50 0 = some (0, 1) := by kernel_rfl
@[push_cast] theorem f50_1 : fieldOf Try.prog 50 1 = some (1, 1, 41) := by kernel_rfl
@[push_cast] theorem q50_1 : placeOf Try.prog 50 1 = some (1, 1) := by kernel_rfl
@[push_cast] theorem p50 : placesOk Try.prog 50 = true := by kernel_rfl
@[push_cast] theorem c51 : Try.prog.cellsOf 51 = 1 := by kernel_rfl
@[push_cast] theorem g51 : isAggB Try.prog 51 = false := by kernel_rfl
@[push_cast] theorem s51 : (Try.prog.underlying 51).isSome = true := by kernel_rfl
@[push_cast] theorem i51 : (Try.prog.info? 51).isSome = true := by kernel_rfl
@[push_cast] theorem m51 : concreteB Try.prog 51 = true := by kernel_rfl
@[push_cast] theorem a51 : elemOk Try.prog 51 = true := by kernel_rfl
@[push_cast] theorem b51 : bytesOf Try.prog 51 = 8 := by kernel_rfl
@[push_cast] theorem z51 : zeroD Try.prog 51 = some ([.t (.v .nilFunc)]) := by kernel_rfl
@[push_cast] theorem c52 : Try.prog.cellsOf 52 = 1 := by kernel_rfl
@[push_cast] theorem g52 : isAggB Try.prog 52 = false := by kernel_rfl
@[push_cast] theorem s52 : (Try.prog.underlying 52).isSome = true := by kernel_rfl
@[push_cast] theorem i52 : (Try.prog.info? 52).isSome = true := by kernel_rfl
@[push_cast] theorem a52 : elemOk Try.prog 52 = true := by kernel_rfl
@[push_cast] theorem b52 : bytesOf Try.prog 52 = 16 := by kernel_rfl
@[push_cast] theorem z52 : zeroD Try.prog 52 = some ([.t (.v .nilIface)]) := by kernel_rfl
@[push_cast] theorem u52 : Try.prog.underlying 52 = some (.interface (Try.prog.methodsAt 52)) := by kernel_rfl
@[push_cast] theorem c53 : Try.prog.cellsOf 53 = 1 := by kernel_rfl
@[push_cast] theorem g53 : isAggB Try.prog 53 = false := by kernel_rfl
@[push_cast] theorem s53 : (Try.prog.underlying 53).isSome = true := by kernel_rfl
@[push_cast] theorem i53 : (Try.prog.info? 53).isSome = true := by kernel_rfl
@[push_cast] theorem a53 : elemOk Try.prog 53 = true := by kernel_rfl
@[push_cast] theorem b53 : bytesOf Try.prog 53 = 16 := by kernel_rfl
@[push_cast] theorem z53 : zeroD Try.prog 53 = some ([.t (.v .nilIface)]) := by kernel_rfl
@[push_cast] theorem u53 : Try.prog.underlying 53 = some (.interface (Try.prog.methodsAt 53)) := by kernel_rfl
@[push_cast] theorem c54 : Try.prog.cellsOf 54 = 1 := by kernel_rfl
@[push_cast] theorem g54 : isAggB Try.prog 54 = false := by kernel_rfl
@[push_cast] theorem s54 : (Try.prog.underlying 54).isSome = true := by kernel_rfl
@[push_cast] theorem i54 : (Try.prog.info? 54).isSome = true := by kernel_rfl
@[push_cast] theorem m54 : concreteB Try.prog 54 = true := by kernel_rfl
@[push_cast] theorem a54 : elemOk Try.prog 54 = true := by kernel_rfl
@[push_cast] theorem b54 : bytesOf Try.prog 54 = 8 := by kernel_rfl
@[push_cast] theorem z54 : zeroD Try.prog 54 = some ([.t (.v .nilFunc)]) := by kernel_rfl
@[push_cast] theorem c55 : Try.prog.cellsOf 55 = 1 := by kernel_rfl
@[push_cast] theorem g55 : isAggB Try.prog 55 = false := by kernel_rfl
@[push_cast] theorem s55 : (Try.prog.underlying 55).isSome = true := by kernel_rfl
@[push_cast] theorem i55 : (Try.prog.info? 55).isSome = true := by kernel_rfl
@[push_cast] theorem m55 : concreteB Try.prog 55 = true := by kernel_rfl
@[push_cast] theorem a55 : elemOk Try.prog 55 = true := by kernel_rfl
@[push_cast] theorem b55 : bytesOf Try.prog 55 = 8 := by kernel_rfl
@[push_cast] theorem z55 : zeroD Try.prog 55 = some ([.t (.v .nilFunc)]) := by kernel_rfl
@[push_cast] theorem c56 : Try.prog.cellsOf 56 = 1 := by kernel_rfl
@[push_cast] theorem g56 : isAggB Try.prog 56 = false := by kernel_rfl
@[push_cast] theorem s56 : (Try.prog.underlying 56).isSome = true := by kernel_rfl
@[push_cast] theorem i56 : (Try.prog.info? 56).isSome = true := by kernel_rfl
@[push_cast] theorem m56 : concreteB Try.prog 56 = true := by kernel_rfl
@[push_cast] theorem a56 : elemOk Try.prog 56 = true := by kernel_rfl
@[push_cast] theorem b56 : bytesOf Try.prog 56 = 8 := by kernel_rfl
@[push_cast] theorem z56 : zeroD Try.prog 56 = some ([.t (.v .nilFunc)]) := by kernel_rfl
@[push_cast] theorem c57 : Try.prog.cellsOf 57 = 1 := by kernel_rfl
@[push_cast] theorem g57 : isAggB Try.prog 57 = false := by kernel_rfl
@[push_cast] theorem s57 : (Try.prog.underlying 57).isSome = true := by kernel_rfl
@[push_cast] theorem i57 : (Try.prog.info? 57).isSome = true := by kernel_rfl
@[push_cast] theorem m57 : concreteB Try.prog 57 = true := by kernel_rfl
@[push_cast] theorem a57 : elemOk Try.prog 57 = true := by kernel_rfl
@[push_cast] theorem b57 : bytesOf Try.prog 57 = 8 := by kernel_rfl
@[push_cast] theorem z57 : zeroD Try.prog 57 = some ([.t (.v .nilFunc)]) := by kernel_rfl
@[push_cast] theorem c58 : Try.prog.cellsOf 58 = 1 := by kernel_rfl
@[push_cast] theorem g58 : isAggB Try.prog 58 = false := by kernel_rfl
@[push_cast] theorem s58 : (Try.prog.underlying 58).isSome = true := by kernel_rfl
@[push_cast] theorem i58 : (Try.prog.info? 58).isSome = true := by kernel_rfl
@[push_cast] theorem m58 : concreteB Try.prog 58 = true := by kernel_rfl
@[push_cast] theorem a58 : elemOk Try.prog 58 = true := by kernel_rfl
@[push_cast] theorem b58 : bytesOf Try.prog 58 = 8 := by kernel_rfl
@[push_cast] theorem z58 : zeroD Try.prog 58 = some ([.t (.v .nilFunc)]) := by kernel_rfl
@[push_cast] theorem c59 : Try.prog.cellsOf 59 = 1 := by kernel_rfl
@[push_cast] theorem g59 : isAggB Try.prog 59 = false := by kernel_rfl
@[push_cast] theorem s59 : (Try.prog.underlying 59).isSome = true := by kernel_rfl
@[push_cast] theorem i59 : (Try.prog.info? 59).isSome = true := by kernel_rfl
@[push_cast] theorem m59 : concreteB Try.prog 59 = true := by kernel_rfl
@[push_cast] theorem a59 : elemOk Try.prog 59 = true := by kernel_rfl
@[push_cast] theorem b59 : bytesOf Try.prog 59 = 8 := by kernel_rfl
@[push_cast] theorem z59 : zeroD Try.prog 59 = some ([.t (.v .nilFunc)]) := by kernel_rfl
@[push_cast] theorem c60 : Try.prog.cellsOf 60 = 1 := by kernel_rfl
@[push_cast] theorem g60 : isAggB Try.prog 60 = false := by kernel_rfl
@[push_cast] theorem s60 : (Try.prog.underlying 60).isSome = true := by kernel_rfl
@[push_cast] theorem i60 : (Try.prog.info? 60).isSome = true := by kernel_rfl
@[push_cast] theorem m60 : concreteB Try.prog 60 = true := by kernel_rfl
@[push_cast] theorem a60 : elemOk Try.prog 60 = true := by kernel_rfl
@[push_cast] theorem b60 : bytesOf Try.prog 60 = 4 := by kernel_rfl
@[push_cast] theorem z60 : zeroD Try.prog 60 = some ([.t (.v (.int .u32 0))]) := by kernel_rfl
@[push_cast] theorem u60 : Try.prog.underlying 60 = some (.int .u32) := by kernel_rfl
@[push_cast] theorem c61 : Try.prog.cellsOf 61 = 16 := by kernel_rfl
@[push_cast] theorem g61 : isAggB Try.prog 61 = true := by kernel_rfl
@[push_cast] theorem s61 : (Try.prog.underlying 61).isSome = true := by kernel_rfl
@[push_cast] theorem i61 : (Try.prog.info? 61).isSome = true := by kernel_rfl
@[push_cast] theorem m61 : concreteB Try.prog 61 = true := by kernel_rfl
@[push_cast] theorem a61 : elemOk Try.prog 61 = true := by kernel_rfl
@[push_cast] theorem b61 : bytesOf Try.prog 61 = 64 := by kernel_rfl
@[push_cast] theorem z61 : zeroD Try.prog 61 = some (List.replicate 16 (.t (.v (.int .u32 0)))) := by kernel_rfl
@[push_cast] theorem u61 : Try.prog.underlying 61 = some (.array 16 60) := by kernel_rfl
@[push_cast] theorem e61 : Try.prog.elem 61 = 60 := by kernel_rfl
@[push_cast] theorem l61 : Try.prog.arrayLen 61 = 16 := by kernel_rfl
@[push_cast] theorem p61 : placesOk Try.prog 61 = true := by kernel_rfl
@[push_cast] theorem q61 (i : Nat) : placeOf Try.prog 61 i = some (i * 1, 1) := by rw [placeOf_arr u61, c60]
@[push_cast] theorem c62 : Try.prog.cellsOf 62 = 1 := by kernel_rfl
@[push_cast] theorem g62 : isAggB Try.prog 62 = false := by kernel_rfl
@[push_cast] theorem s62 : (Try.prog.underlying 62).isSome = true := by kernel_rfl
@[push_cast] theorem i62 : (Try.prog.info? 62).isSome = true := by kernel_rfl
@[push_cast] theorem m62 : concreteB Try.prog 62 = true := by kernel_rfl
@[push_cast] theorem a62 : elemOk Try.prog 62 = true := by kernel_rfl
@[push_cast] theorem b62 : bytesOf Try.prog 62 = 8 := by kernel_rfl
@[push_cast] theorem z62 : zeroD Try.prog 62 = some ([.t (.v .nilFunc)]) := by kernel_rfl
@[push_cast] theorem c63 : Try.prog.cellsOf 63 = 1 := by kernel_rfl
@[push_cast] theorem g63 : isAggB Try.prog 63 = false := by kernel_rfl
@[push_cast] theorem s63 : (Try.prog.underlying 63).isSome = true := by kernel_rfl
@[push_cast] theorem i63 : (Try.prog.info? 63).isSome = true := by kernel_rfl
@[push_cast] theorem m63 : concreteB Try.prog 63 = true := by kernel_rfl
@[push_cast] theorem a63 : elemOk Try.prog 63 = true := by kernel_rfl
@[push_cast] theorem b63 : bytesOf Try.prog 63 = 24 := by kernel_rfl
@[push_cast] theorem z63 : zeroD Try.prog 63 = some ([.t (.v (.slice none 0 0))]) := by kernel_rfl
@[push_cast] theorem u63 : Try.prog.underlying 63 = some (.slice 60) := by kernel_rfl
@[push_cast] theorem e63 : Try.prog.elem 63 = 60 := by kernel_rfl
@[push_cast] theorem c64 : Try.prog.cellsOf 64 = 1 := by kernel_rfl
@[push_cast] theorem g64 : isAggB Try.prog 64 = false := by kernel_rfl
@[push_cast] theorem s64 : (Try.prog.underlying 64).isSome = true := by kernel_rfl
@[push_cast] theorem i64 : (Try.prog.info? 64).isSome = true := by kernel_rfl
@[push_cast] theorem m64 : concreteB Try.prog 64 = true := by kernel_rfl
@[push_cast] theorem a64 : elemOk Try.prog 64 = true := by kernel_rfl
@[push_cast] theorem b64 : bytesOf Try.prog 64 = 8 := by kernel_rfl
@[push_cast] theorem z64 : zeroD Try.prog 64 = some ([.t (.v .nilFunc)]) := by kernel_rfl
@[push_cast] theorem c65 : Try.prog.cellsOf 65 = 1 := by kernel_rfl
@[push_cast] theorem g65 : isAggB Try.prog 65 = false := by kernel_rfl
@[push_cast] theorem s65 : (Try.prog.underlying 65).isSome = true := by kernel_rfl
@[push_cast] theorem i65 : (Try.prog.info? 65).isSome = true := by kernel_rfl
@[push_cast] theorem m65 : concreteB Try.prog 65 = true := by kernel_rfl
@[push_cast] theorem a65 : elemOk Try.prog 65 = true := by kernel_rfl
@[push_cast] theorem b65 : bytesOf Try.prog 65 = 8 := by kernel_rfl
@[push_cast] theorem z65 : zeroD Try.prog 65 = some ([.t (.v (.int .u64 0))]) := by kernel_rfl
@[push_cast] theorem u65 : Try.prog.underlying 65 = some (.int .u64) := by kernel_rfl
@[push_cast] theorem c66 : Try.prog.cellsOf 66 = 1 := by kernel_rfl
@[push_cast] theorem g66 : isAggB Try.prog 66 = true := by kernel_rfl
@[push_cast] theorem s66 : (Try.prog.underlying 66).isSome = true := by kernel_rfl
@[push_cast] theorem i66 : (Try.prog.info? 66).isSome = true := by kernel_rfl
@[push_cast] theorem m66 : concreteB Try.prog 66 = true := by kernel_rfl
@[push_cast] theorem a66 : elemOk Try.prog 66 = true := by kernel_rfl
@[push_cast] theorem b66 : bytesOf Try.prog 66 = 8 := by kernel_rfl
@[push_cast] theorem z66 : zeroD Try.prog 66 = some ([.t (.v (.pointer none))]) := by kernel_rfl
@[push_cast] theorem f66_0 : fieldOf Try.prog 66 0 = some (0, 1, 17) := by kernel_rfl
@[push_cast] theorem q66_0 : placeOf Try.prog 66 0 = some (0, 1) := by kernel_rfl
@[push_cast] theorem p66 : placesOk Try.prog 66 = true := by kernel_rfl
@[push_cast] theorem c67 : Try.prog.cellsOf 67 = 1 := by kernel_rfl
@[push_cast] theorem g67 : isAggB Try.prog 67 = true := by kernel_rfl
@[push_cast] theorem s67 : (Try.prog.underlying 67).isSome = true := by kernel_rfl
@[push_cast] theorem i67 : (Try.prog.info? 67).isSome = true := by kernel_rfl
@[push_cast] theorem m67 : concreteB Try.prog 67 = true := by kernel_rfl
@[push_cast] theorem a67 : elemOk Try.prog 67 = true := by kernel_rfl
@[push_cast] theorem b67 : bytesOf Try.prog 67 = 8 := by kernel_rfl
@[push_cast] theorem z67 : zeroD Try.prog 67 = some ([.t (.v (.pointer none))]) := by kernel_rfl
@[push_cast] theorem f67_0 : fieldOf Try.prog 67 0 = some (0, 1, 17) := by kernel_rfl
@[push_cast] theorem q67_0 : placeOf Try.prog 67 0 = some (0, 1) := by kernel_rfl
@[push_cast] theorem p67 : placesOk Try.prog 67 = true := by kernel_rfl
@[push_cast] theorem c68 : Try.prog.cellsOf 68 = 1 := by kernel_rfl
@[push_cast] theorem g68 : isAggB Try.prog 68 = false := by kernel_rfl
@[push_cast] theorem s68 : (Try.prog.underlying 68).isSome = true := by kernel_rfl
@[push_cast] theorem i68 : (Try.prog.info? 68).isSome = true := by kernel_rfl
@[push_cast] theorem m68 : concreteB Try.prog 68 = true := by kernel_rfl
@[push_cast] theorem a68 : elemOk Try.prog 68 = true := by kernel_rfl
@[push_cast] theorem b68 : bytesOf Try.prog 68 = 8 := by kernel_rfl
@[push_cast] theorem z68 : zeroD Try.prog 68 = some ([.t (.v (.pointer none))]) := by kernel_rfl
@[push_cast] theorem c69 : Try.prog.cellsOf 69 = 1 := by kernel_rfl
@[push_cast] theorem g69 : isAggB Try.prog 69 = false := by kernel_rfl
@[push_cast] theorem s69 : (Try.prog.underlying 69).isSome = true := by kernel_rfl
@[push_cast] theorem i69 : (Try.prog.info? 69).isSome = true := by kernel_rfl
@[push_cast] theorem a69 : elemOk Try.prog 69 = true := by kernel_rfl
@[push_cast] theorem b69 : bytesOf Try.prog 69 = 16 := by kernel_rfl
@[push_cast] theorem z69 : zeroD Try.prog 69 = some ([.t (.v .nilIface)]) := by kernel_rfl
@[push_cast] theorem u69 : Try.prog.underlying 69 = some (.interface (Try.prog.methodsAt 69)) := by kernel_rfl
@[push_cast] theorem c71 : Try.prog.cellsOf 71 = 1 := by kernel_rfl
@[push_cast] theorem g71 : isAggB Try.prog 71 = false := by kernel_rfl
@[push_cast] theorem s71 : (Try.prog.underlying 71).isSome = true := by kernel_rfl
@[push_cast] theorem i71 : (Try.prog.info? 71).isSome = true := by kernel_rfl
@[push_cast] theorem m71 : concreteB Try.prog 71 = true := by kernel_rfl
@[push_cast] theorem a71 : elemOk Try.prog 71 = true := by kernel_rfl
@[push_cast] theorem b71 : bytesOf Try.prog 71 = 8 := by kernel_rfl
@[push_cast] theorem z71 : zeroD Try.prog 71 = some ([.t (.v .nilFunc)]) := by kernel_rfl
@[push_cast] theorem c72 : Try.prog.cellsOf 72 = 1 := by kernel_rfl
@[push_cast] theorem g72 : isAggB Try.prog 72 = false := by kernel_rfl
@[push_cast] theorem s72 : (Try.prog.underlying 72).isSome = true := by kernel_rfl
@[push_cast] theorem i72 : (Try.prog.info? 72).isSome = true := by kernel_rfl
@[push_cast] theorem a72 : elemOk Try.prog 72 = true := by kernel_rfl
@[push_cast] theorem b72 : bytesOf Try.prog 72 = 16 := by kernel_rfl
@[push_cast] theorem z72 : zeroD Try.prog 72 = some ([.t (.v .nilIface)]) := by kernel_rfl
@[push_cast] theorem u72 : Try.prog.underlying 72 = some (.interface (Try.prog.methodsAt 72)) := by kernel_rfl
@[push_cast] theorem c73 : Try.prog.cellsOf 73 = 1 := by kernel_rfl
@[push_cast] theorem g73 : isAggB Try.prog 73 = false := by kernel_rfl
@[push_cast] theorem s73 : (Try.prog.underlying 73).isSome = true := by kernel_rfl
@[push_cast] theorem i73 : (Try.prog.info? 73).isSome = true := by kernel_rfl
@[push_cast] theorem m73 : concreteB Try.prog 73 = true := by kernel_rfl
@[push_cast] theorem a73 : elemOk Try.prog 73 = true := by kernel_rfl
@[push_cast] theorem b73 : bytesOf Try.prog 73 = 8 := by kernel_rfl
@[push_cast] theorem z73 : zeroD Try.prog 73 = some ([.t (.v .nilFunc)]) := by kernel_rfl
@[push_cast] theorem c74 : Try.prog.cellsOf 74 = 1 := by kernel_rfl
@[push_cast] theorem g74 : isAggB Try.prog 74 = false := by kernel_rfl
@[push_cast] theorem s74 : (Try.prog.underlying 74).isSome = true := by kernel_rfl
@[push_cast] theorem i74 : (Try.prog.info? 74).isSome = true := by kernel_rfl
@[push_cast] theorem a74 : elemOk Try.prog 74 = true := by kernel_rfl
@[push_cast] theorem b74 : bytesOf Try.prog 74 = 16 := by kernel_rfl
@[push_cast] theorem z74 : zeroD Try.prog 74 = some ([.t (.v .nilIface)]) := by kernel_rfl
@[push_cast] theorem u74 : Try.prog.underlying 74 = some (.interface (Try.prog.methodsAt 74)) := by kernel_rfl
@[push_cast] theorem c75 : Try.prog.cellsOf 75 = 1 := by kernel_rfl
@[push_cast] theorem g75 : isAggB Try.prog 75 = false := by kernel_rfl
@[push_cast] theorem s75 : (Try.prog.underlying 75).isSome = true := by kernel_rfl
@[push_cast] theorem i75 : (Try.prog.info? 75).isSome = true := by kernel_rfl
@[push_cast] theorem m75 : concreteB Try.prog 75 = true := by kernel_rfl
@[push_cast] theorem a75 : elemOk Try.prog 75 = true := by kernel_rfl
@[push_cast] theorem b75 : bytesOf Try.prog 75 = 24 := by kernel_rfl
@[push_cast] theorem z75 : zeroD Try.prog 75 = some ([.t (.v (.slice none 0 0))]) := by kernel_rfl
@[push_cast] theorem u75 : Try.prog.underlying 75 = some (.slice 41) := by kernel_rfl
@[push_cast] theorem e75 : Try.prog.elem 75 = 41 := by kernel_rfl
@[push_cast] theorem c76 : Try.prog.cellsOf 76 = 1 := by kernel_rfl
@[push_cast] theorem g76 : isAggB Try.prog 76 = false := by kernel_rfl
@[push_cast] theorem s76 : (Try.prog.underlying 76).isSome = true := by kernel_rfl
@[push_cast] theorem i76 : (Try.prog.info? 76).isSome = true := by kernel_rfl
@[push_cast] theorem m76 : concreteB Try.prog 76 = true := by kernel_rfl
@[push_cast] theorem a76 : elemOk Try.prog 76 = true := by kernel_rfl
@[push_cast] theorem b76 : bytesOf Try.prog 76 = 8 := by kernel_rfl
@[push_cast] theorem z76 : zeroD Try.prog 76 = some ([.t (.v .nilFunc)]) := by kernel_rfl
@[push_cast] theorem c77 : Try.prog.cellsOf 77 = 1 := by kernel_rfl
@[push_cast] theorem g77 : isAggB Try.prog 77 = false := by kernel_rfl
@[push_cast] theorem s77 : (Try.prog.underlying 77).isSome = true := by kernel_rfl
@[push_cast] theorem i77 : (Try.prog.info? 77).isSome = true := by kernel_rfl
@[push_cast] theorem m77 : concreteB Try.prog 77 = true := by kernel_rfl
@[push_cast] theorem a77 : elemOk Try.prog 77 = true := by kernel_rfl
@[push_cast] theorem b77 : bytesOf Try.prog 77 = 8 := by kernel_rfl
@[push_cast] theorem z77 : zeroD Try.prog 77 = some ([.t (.v .nilFunc)]) := by kernel_rfl
@[push_cast] theorem c78 : Try.prog.cellsOf 78 = 1 := by kernel_rfl
@[push_cast] theorem g78 : isAggB Try.prog 78 = false := by kernel_rfl
@[push_cast] theorem s78 : (Try.prog.underlying 78).isSome = true := by kernel_rfl
@[push_cast] theorem i78 : (Try.prog.info? 78).isSome = true := by kernel_rfl
@[push_cast] theorem m78 : concreteB Try.prog 78 = true := by kernel_rfl
@[push_cast] theorem a78 : elemOk Try.prog 78 = true := by kernel_rfl
@[push_cast] theorem b78 : bytesOf Try.prog 78 = 8 := by kernel_rfl
@[push_cast] theorem z78 : zeroD Try.prog 78 = some ([.t (.v .nilFunc)]) := by kernel_rfl
@[push_cast] theorem c79 : Try.prog.cellsOf 79 = 1 := by kernel_rfl
@[push_cast] theorem g79 : isAggB Try.prog 79 = false := by kernel_rfl
@[push_cast] theorem s79 : (Try.prog.underlying 79).isSome = true := by kernel_rfl
@[push_cast] theorem i79 : (Try.prog.info? 79).isSome = true := by kernel_rfl
@[push_cast] theorem m79 : concreteB Try.prog 79 = true := by kernel_rfl
@[push_cast] theorem a79 : elemOk Try.prog 79 = true := by kernel_rfl
@[push_cast] theorem b79 : bytesOf Try.prog 79 = 8 := by kernel_rfl
@[push_cast] theorem z79 : zeroD Try.prog 79 = some ([.t (.v (.int .u64 0))]) := by kernel_rfl
@[push_cast] theorem u79 : Try.prog.underlying 79 = some (.int .u64) := by kernel_rfl
@[push_cast] theorem c80 : Try.prog.cellsOf 80 = 1 := by kernel_rfl
@[push_cast] theorem g80 : isAggB Try.prog 80 = false := by kernel_rfl
@[push_cast] theorem s80 : (Try.prog.underlying 80).isSome = true := by kernel_rfl
@[push_cast] theorem i80 : (Try.prog.info? 80).isSome = true := by kernel_rfl
@[push_cast] theorem m80 : concreteB Try.prog 80 = true := by kernel_rfl
@[push_cast] theorem a80 : elemOk Try.prog 80 = true := by kernel_rfl
@[push_cast] theorem b80 : bytesOf Try.prog 80 = 8 := by kernel_rfl
@[push_cast] theorem z80 : zeroD Try.prog 80 = some ([.t (.v .nilFunc)]) := by kernel_rfl
@[push_cast] theorem c81 : Try.prog.cellsOf 81 = 64 := by kernel_rfl
@[push_cast] theorem g81 : isAggB Try.prog 81 = true := by kernel_rfl
@[push_cast] theorem s81 : (Try.prog.underlying 81).isSome = true := by kernel_rfl
@[push_cast] theorem i81 : (Try.prog.info? 81).isSome = true := by kernel_rfl
@[push_cast] theorem m81 : concreteB Try.prog 81 = true := by kernel_rfl
@[push_cast] theorem a81 : elemOk Try.prog 81 = true := by kernel_rfl
@[push_cast] theorem b81 : bytesOf Try.prog 81 = 64 := by kernel_rfl
@[push_cast] theorem z81 : zeroD Try.prog 81 = some (List.replicate 64 (.t (.v (.int .u8 0)))) := by kernel_rfl
@[push_cast] theorem u81 : Try.prog.underlying 81 = some (.array 64 5) := by kernel_rfl
@[push_cast] theorem e81 : Try.prog.elem 81 = 5 := by kernel_rfl
@[push_cast] theorem l81 : Try.prog.arrayLen 81 = 64 := by kernel_rfl
@[push_cast] theorem p81 : placesOk Try.prog 81 = true := by kernel_rfl
@[push_cast] theorem q81 (i : Nat) : placeOf Try.prog 81 i = some (i * 1, 1) := by rw [placeOf_arr u81, c5]
@[push_cast] theorem c82 : Try.prog.cellsOf 82 = 1 := by kernel_rfl
@[push_cast] theorem g82 : isAggB Try.prog 82 = false := by kernel_rfl
@[push_cast] theorem s82 : (Try.prog.underlying 82).isSome = true := by kernel_rfl
@[push_cast] theorem i82 : (Try.prog.info? 82).isSome = true := by kernel_rfl
@[push_cast] theorem m82 : concreteB Try.prog 82 = true := by kernel_rfl
@[push_cast] theorem a82 : elemOk Try.prog 82 = true := by kernel_rfl
@[push_cast] theorem b82 : bytesOf Try.prog 82 = 8 := by kernel_rfl
@[push_cast] theorem z82 : zeroD Try.prog 82 = some ([.t (.v .nilFunc)]) := by kernel_rfl
@[push_cast] theorem c83 : Try.prog.cellsOf 83 = 1 := by kernel_rfl
@[push_cast] theorem g83 : isAggB Try.prog 83 = false := by kernel_rfl
@[push_cast] theorem s83 : (Try.prog.underlying 83).isSome = true := by kernel_rfl
@[push_cast] theorem i83 : (Try.prog.info? 83).isSome = true := by kernel_rfl
@[push_cast] theorem m83 : concreteB Try.prog 83 = true := by kernel_rfl
@[push_cast] theorem a83 : elemOk Try.prog 83 = true := by kernel_rfl
@[push_cast] theorem b83 : bytesOf Try.prog 83 = 24 := by kernel_rfl
@[push_cast] theorem z83 : zeroD Try.prog 83 = some ([.t (.v (.slice none 0 0))]) := by kernel_rfl
@[push_cast] theorem u83 : Try.prog.underlying 83 = some (.slice 9) := by kernel_rfl
@[push_cast] theorem e83 : Try.prog.elem 83 = 9 := by kernel_rfl
@[push_cast] theorem c84 : Try.prog.cellsOf 84 = 1 := by kernel_rfl
@[push_cast] theorem g84 : isAggB Try.prog 84 = false := by kernel_rfl
@[push_cast] theorem s84 : (Try.prog.underlying 84).isSome = true := by kernel_rfl
@[push_cast] theorem i84 : (Try.prog.info? 84).isSome = true := by kernel_rfl
@[push_cast] theorem m84 : concreteB Try.prog 84 = true := by kernel_rfl
@[push_cast] theorem a84 : elemOk Try.prog 84 = true := by kernel_rfl
@[push_cast] theorem b84 : bytesOf Try.prog 84 = 8 := by kernel_rfl
@[push_cast] theorem z84 : zeroD Try.prog 84 = some ([.t (.v .nilFunc)]) := by kernel_rfl
@[push_cast] theorem c85 : Try.prog.cellsOf 85 = 1 := by kernel_rfl
@[push_cast] theorem g85 : isAggB Try.prog 85 = false := by kernel_rfl
@[push_cast] theorem s85 : (Try.prog.underlying 85).isSome = true := by kernel_rfl
@[push_cast] theorem i85 : (Try.prog.info? 85).isSome = true := by kernel_rfl
@[push_cast] theorem m85 : concreteB Try.prog 85 = true := by kernel_rfl
@[push_cast] theorem a85 : elemOk Try.prog 85 = true := by kernel_rfl
@[push_cast] theorem b85 : bytesOf Try.prog 85 = 8 := by kernel_rfl
@[push_cast] theorem z85 : zeroD Try.prog 85 = some ([.t (.v .nilFunc)]) := by kernel_rfl
@[push_cast] theorem c86 : Try.prog.cellsOf 86 = 1 := by kernel_rfl
@[push_cast] theorem g86 : isAggB Try.prog 86 = false := by kernel_rfl
@[push_cast] theorem s86 : (Try.prog.underlying 86).isSome = true := by kernel_rfl
@[push_cast] theorem i86 : (Try.prog.info? 86).isSome = true := by kernel_rfl
@[push_cast] theorem m86 : concreteB Try.prog 86 = true := by kernel_rfl
@[push_cast] theorem a86 : elemOk Try.prog 86 = true := by kernel_rfl
@[push_cast] theorem b86 : bytesOf Try.prog 86 = 8 := by kernel_rfl
@[push_cast] theorem z86 : zeroD Try.prog 86 = some ([.t (.v .nilFunc)]) := by kernel_rfl
@[push_cast] theorem c87 : Try.prog.cellsOf 87 = 1 := by kernel_rfl
@[push_cast] theorem g87 : isAggB Try.prog 87 = false := by kernel_rfl
@[push_cast] theorem s87 : (Try.prog.underlying 87).isSome = true := by kernel_rfl
@[push_cast] theorem i87 : (Try.prog.info? 87).isSome = true := by kernel_rfl
@[push_cast] theorem m87 : concreteB Try.prog 87 = true := by kernel_rfl
@[push_cast] theorem a87 : elemOk Try.prog 87 = true := by kernel_rfl
@[push_cast] theorem b87 : bytesOf Try.prog 87 = 8 := by kernel_rfl
@[push_cast] theorem z87 : zeroD Try.prog 87 = some ([.t (.v .nilFunc)]) := by kernel_rfl
@[push_cast] theorem c88 : Try.prog.cellsOf 88 = 16 := by kernel_rfl
@[push_cast] theorem g88 : isAggB Try.prog 88 = true := by kernel_rfl
@[push_cast] theorem s88 : (Try.prog.underlying 88).isSome = true := by kernel_rfl
@[push_cast] theorem i88 : (Try.prog.info? 88).isSome = true := by kernel_rfl
@[push_cast] theorem m88 : concreteB Try.prog 88 = true := by kernel_rfl
@[push_cast] theorem a88 : elemOk Try.prog 88 = true := by kernel_rfl
@[push_cast] theorem b88 : bytesOf Try.prog 88 = 64 := by kernel_rfl
@[push_cast] theorem z88 : zeroD Try.prog 88 = some (List.replicate 16 (.t (.v (.int .u32 0)))) := by kernel_rfl
@[push_cast] theorem u88 : Try.prog.underlying 88 = some (.array 16 60) := by kernel_rfl
@[push_cast] theorem e88 : Try.prog.elem 88 = 60 := by kernel_rfl
@[push_cast] theorem l88 : Try.prog.arrayLen 88 = 16 := by kernel_rfl
@[push_cast] theorem p88 : placesOk Try.prog 88 = true := by kernel_rfl
@[push_cast] theorem q88 (i : Nat) : placeOf Try.prog 88 i = some (i * 1, 1) := by rw [placeOf_arr u88, c60]
@[push_cast] theorem c89 : Try.prog.cellsOf 89 = 1 := by kernel_rfl
@[push_cast] theorem g89 : isAggB Try.prog 89 = false := by kernel_rfl
@[push_cast] theorem s89 : (Try.prog.underlying 89).isSome = true := by kernel_rfl
@[push_cast] theorem i89 : (Try.prog.info? 89).isSome = true := by kernel_rfl
@[push_cast] theorem m89 : concreteB Try.prog 89 = true := by kernel_rfl
@[push_cast] theorem a89 : elemOk Try.prog 89 = true := by kernel_rfl
@[push_cast] theorem b89 : bytesOf Try.prog 89 = 8 := by kernel_rfl
@[push_cast] theorem z89 : zeroD Try.prog 89 = some ([.t (.v .nilFunc)]) := by kernel_rfl
@[push_cast] theorem c90 : Try.prog.cellsOf 90 = 1 := by kernel_rfl
@[push_cast] theorem g90 : isAggB Try.prog 90 = false := by kernel_rfl
@[push_cast] theorem s90 : (Try.prog.underlying 90).isSome = true := by kernel_rfl
@[push_cast] theorem i90 : (Try.prog.info? 90).isSome = true := by kernel_rfl
@[push_cast] theorem m90 : concreteB Try.prog 90 = true := by kernel_rfl
@[push_cast] theorem a90 : elemOk Try.prog 90 = true := by kernel_rfl
@[push_cast] theorem b90 : bytesOf Try.prog 90 = 8 := by kernel_rfl
@[push_cast] theorem z90 : zeroD Try.prog 90 = some ([.t (.v .nilFunc)]) := by kernel_rfl
@[push_cast] theorem c91 : Try.prog.cellsOf 91 = 1 := by kernel_rfl
@[push_cast] theorem g91 : isAggB Try.prog 91 = false := by kernel_rfl
@[push_cast] theorem s91 : (Try.prog.underlying 91).isSome = true := by kernel_rfl
@[push_cast] theorem i91 : (Try.prog.info? 91).isSome = true := by kernel_rfl
@[push_cast] theorem m91 : concreteB Try.prog 91 = true := by kernel_rfl
@[push_cast] theorem a91 : elemOk Try.prog 91 = true := by kernel_rfl
@[push_cast] theorem b91 : bytesOf Try.prog 91 = 8 := by kernel_rfl
@[push_cast] theorem z91 : zeroD Try.prog 91 = some ([.t (.v .nilFunc)]) := by kernel_rfl
@[push_cast] theorem c92 : Try.prog.cellsOf 92 = 8 := by kernel_rfl
@[push_cast] theorem g92 : isAggB Try.prog 92 = true := by kernel_rfl
@[push_cast] theorem s92 : (Try.prog.underlying 92).isSome = true := by kernel_rfl
@[push_cast] theorem i92 : (Try.prog.info? 92).isSome = true := by kernel_rfl
@[push_cast] theorem m92 : concreteB Try.prog 92 = true := by kernel_rfl
@[push_cast] theorem a92 : elemOk Try.prog 92 = true := by kernel_rfl
@[push_cast] theorem b92 : bytesOf Try.prog 92 = 32 := by kernel_rfl
@[push_cast] theorem z92 : zeroD Try.prog 92 = some ([.t (.v (.int .u32 0)), .t (.v (.int .u32 0)), .t (.v (.int .u32 0)), .t (.v (.int .u32 0)), .t (.v (.int .u32 0)), .t (.v (.int .u32 0)), .t (.v (.int .u32 0)), .t (.v (.int .u32 0))]) := by kernel_rfl
@[push_cast] theorem u92 : Try.prog.underlying 92 = some (.array 8 60) := by kernel_rfl
@[push_cast] theorem e92 : Try.prog.elem 92 = 60 := by kernel_rfl
@[push_cast] theorem l92 : Try.prog.arrayLen 92 = 8 := by kernel_rfl
@[push_cast] theorem p92 : placesOk Try.prog 92 = true := by kernel_rfl
@[push_cast] theorem q92 (i : Nat) : placeOf Try.prog 92 i = some (i * 1, 1) := by rw [placeOf_arr u92, c60]
@[push_cast] theorem c93 : Try.prog.cellsOf 93 = 1 := by kernel_rfl
@[push_cast] theorem g93 : isAggB Try.prog 93 = false := by kernel_rfl
@[push_cast] theorem s93 : (Try.prog.underlying 93).isSome = true := by kernel_rfl
@[push_cast] theorem i93 : (Try.prog.info? 93).isSome = true := by kernel_rfl
@[push_cast] theorem m93 : concreteB Try.prog 93 = true := by kernel_rfl
@[push_cast] theorem a93 : elemOk Try.prog 93 = true := by kernel_rfl
@[push_cast] theorem b93 : bytesOf Try.prog 93 = 8 := by kernel_rfl
@[push_cast] theorem z93 : zeroD Try.prog 93 = some ([.t (.v .nilFunc)]) := by kernel_rfl
@[push_cast] theorem c94 : Try.prog.cellsOf 94 = 64 := by kernel_rfl
@[push_cast] theorem g94 : isAggB Try.prog 94 = true := by kernel_rfl
@[push_cast] theorem s94 : (Try.prog.underlying 94).isSome = true := by kernel_rfl
@[push_cast] theorem i94 : (Try.prog.info? 94).isSome = true := by kernel_rfl
@[push_cast] theorem m94 : concreteB Try.prog 94 = true := by kernel_rfl
@[push_cast] theorem a94 : elemOk Try.prog 94 = true := by kernel_rfl
@[push_cast] theorem b94 : bytesOf Try.prog 94 = 256 := by kernel_rfl
@[push_cast] theorem z94 : zeroD Try.prog 94 = some (List.replicate 64 (.t (.v (.int .u32 0)))) := by kernel_rfl
@[push_cast] theorem u94 : Try.prog.underlying 94 = some (.array 64 60) := by kernel_rfl
@[push_cast] theorem e94 : Try.prog.elem 94 = 60 := by kernel_rfl
@[push_cast] theorem l94 : Try.prog.arrayLen 94 = 64 := by kernel_rfl
@[push_cast] theorem p94 : placesOk Try.prog 94 = true := by kernel_rfl
@[push_cast] theorem q94 (i : Nat) : placeOf Try.prog 94 i = some (i * 1, 1) := by rw [placeOf_arr u94, c60]
@[push_cast] theorem c95 : Try.prog.cellsOf 95 = 1 := by kernel_rfl
@[push_cast] theorem g95 : isAggB Try.prog 95 = false := by kernel_rfl
@[push_cast] theorem s95 : (Try.prog.underlying 95).isSome = true := by kernel_rfl
@[push_cast] theorem i95 : (Try.prog.info? 95).isSome = true := by kernel_rfl
@[push_cast] theorem m95 : concreteB Try.prog 95 = true := by kernel_rfl
@[push_cast] theorem a95 : elemOk Try.prog 95 = true := by kernel_rfl
@[push_cast] theorem b95 : bytesOf Try.prog 95 = 8 := by kernel_rfl
@[push_cast] theorem z95 : zeroD Try.prog 95 = some ([.t (.v .nilFunc)]) := by kernel_rfl
@[push_cast] theorem c96 : Try.prog.cellsOf 96 = 1 := by kernel_rfl
@[push_cast] theorem g96 : isAggB Try.prog 96 = false := by kernel_rfl
@[push_cast] theorem s96 : (Try.prog.underlying 96).isSome = true := by kernel_rfl
@[push_cast] theorem i96 : (Try.prog.info? 96).isSome = true := by kernel_rfl
@[push_cast] theorem m96 : concreteB Try.prog 96 = true := by kernel_rfl
@[push_cast] theorem a96 : elemOk Try.prog 96 = true := by kernel_rfl
@[push_cast] theorem b96 : bytesOf Try.prog 96 = 8 := by kernel_rfl
@[push_cast] theorem z96 : zeroD Try.prog 96 = some ([.t (.v .nilFunc)]) := by kernel_rfl
@[push_cast] theorem c97 : Try.prog.cellsOf 97 = 1 := by kernel_rfl
@[push_cast] theorem g97 : isAggB Try.prog 97 = false := by kernel_rfl
@[push_cast] theorem s97 : (Try.prog.underlying 97).isSome = true := by kernel_rfl
@[push_cast] theorem i97 : (Try.prog.info? 97).isSome = true := by kernel_rfl
@[push_cast] theorem m97 : concreteB Try.prog 97 = true := by kernel_rfl
@[push_cast] theorem a97 : elemOk Try.prog 97 = true := by kernel_rfl
@[push_cast] theorem b97 : bytesOf Try.prog 97 = 8 := by kernel_rfl
@[push_cast] theorem z97 : zeroD Try.prog 97 = some ([.t (.v (.pointer none))]) := by kernel_rfl
@[push_cast] theorem c98 : Try.prog.cellsOf 98 = 1 := by kernel_rfl
@[push_cast] theorem g98 : isAggB Try.prog 98 = false := by kernel_rfl
@[push_cast] theorem s98 : (Try.prog.underlying 98).isSome = true := by kernel_rfl
@[push_cast] theorem i98 : (Try.prog.info? 98).isSome = true := by kernel_rfl
@[push_cast] theorem m98 : concreteB Try.prog 98 = true := by kernel_rfl
@[push_cast] theorem a98 : elemOk Try.prog 98 = true := by kernel_rfl
@[push_cast] theorem b98 : bytesOf Try.prog 98 = 8 := by kernel_rfl
@[push_cast] theorem z98 : zeroD Try.prog 98 = some ([.t (.v (.pointer none))]) := by kernel_rfl
@[push_cast] theorem c99 : Try.prog.cellsOf 99 = 2 := by kernel_rfl
@[push_cast] theorem g99 : isAggB Try.prog 99 = true := by kernel_rfl
@[push_cast] theorem s99 : (Try.prog.underlying 99).isSome = true := by kernel_rfl
@[push_cast] theorem i99 : (Try.prog.info? 99).isSome = true := by kernel_rfl
@[push_cast] theorem m99 : concreteB Try.prog 99 = true := by kernel_rfl
@[push_cast] theorem a99 : elemOk Try.prog 99 = true := by kernel_rfl
@[push_cast] theorem b99 : bytesOf Try.prog 99 = 32 := by kernel_rfl
@[push_cast] theorem z99 : zeroD Try.prog 99 = some ([.t (.v (.pointer none)), .t (.v (.slice none 0 0))]) := by kernel_rfl
@[push_cast] theorem f99_0 : fieldOf Try.prog 99 0 = some (0, 1, 98) := by kernel_rfl
@[push_cast] theorem q99_0 : placeOf Try.prog 99 0 = some (0, 1) := by kernel_rfl
@[push_cast] theorem f99_1 : fieldOf Try.prog 99 1 = some (1, 1, 30) := by kernel_rfl
@[push_cast] theorem q99_1 : placeOf Try.prog 99 1 = some (1, 1) := by kernel_rfl
@[push_cast] theorem p99 : placesOk Try.prog 99 = true := by kernel_rfl
@[push_cast] theorem c100 : Try.prog.cellsOf 100 = 2 := by kernel_rfl
@[push_cast] theorem g100 : isAggB Try.prog 100 = true := by kernel_rfl
@[push_cast] theorem s100 : (Try.prog.underlying 100).isSome = true := by kernel_rfl
@[push_cast] theorem i100 : (Try.prog.info? 100).isSome = true := by kernel_rfl
@[push_cast] theorem m100 : concreteB Try.prog 100 = true := by kernel_rfl
@[push_cast] theorem a100 : elemOk Try.prog 100 = true := by kernel_rfl
@[push_cast] theorem b100 : bytesOf Try.prog 100 = 32 := by kernel_rfl
@[push_cast] theorem z100 : zeroD Try.prog 100 = some ([.t (.v (.pointer none)), .t (.v (.slice none 0 0))]) := by kernel_rfl
@[push_cast] theorem f100_0 : fieldOf Try.prog 100 0 = some (0, 1, 98) := by kernel_rfl
@[push_cast] theorem q100_0 : placeOf Try.prog 100 0 = some (0, 1) := by kernel_rfl
@[push_cast] theorem f100_1 : fieldOf Try.prog 100 1 = some (1, 1, 30) := by kernel_rfl
@[push_cast] theorem q100_1 : placeOf Try.prog 100 1 = some (1, 1) := by kernel_rfl
@[push_cast] theorem p100 : placesOk Try.prog 100 = true := by kernel_rfl
@[push_cast] theorem c101 : Try.prog.cellsOf 101 = 1 := by kernel_rfl
@[push_cast] theorem g101 : isAggB Try.prog 101 = false := by kernel_rfl
@[push_cast] theorem s101 : (Try.prog.underlying 101).isSome = true := by kernel_rfl
@[push_cast] theorem i101 : (Try.prog.info? 101).isSome = true := by kernel_rfl
@[push_cast] theorem m101 : concreteB Try.prog 101 = true := by kernel_rfl
@[push_cast] theorem a101 : elemOk Try.prog 101 = true := by kernel_rfl
@[push_cast] theorem b101 : bytesOf Try.prog 101 = 8 := by kernel_rfl
@[push_cast] theorem z101 : zeroD Try.prog 101 = some ([.t (.v .nilFunc)]) := by kernel_rfl
@[push_cast] theorem c103 : Try.prog.cellsOf 103 = 1 := by kernel_rfl
@[push_cast] theorem g103 : isAggB Try.prog 103 = false := by kernel_rfl
@[push_cast] theorem s103 : (Try.prog.underlying 103).isSome = true := by kernel_rfl
@[push_cast] theorem i103 : (Try.prog.info? 103).isSome = true := by kernel_rfl
@[push_cast] theorem m103 : concreteB Try.prog 103 = true := by kernel_rfl
@[push_cast] theorem a103 : elemOk Try.prog 103 = true := by kernel_rfl
@[push_cast] theorem b103 : bytesOf Try.prog 103 = 8 := by kernel_rfl
@[push_cast] theorem z103 : zeroD Try.prog 103 = some ([.t (.v .nilFunc)]) := by kernel_rfl
@[push_cast] theorem c104 : Try.prog.cellsOf 104 = 1 := by kernel_rfl
@[push_cast] theorem g104 : isAggB Try.prog 104 = false := by kernel_rfl
@[push_cast] theorem s104 : (Try.prog.underlying 104).isSome = true := by kernel_rfl
@[push_cast] theorem i104 : (Try.prog.info? 104).isSome = true := by kernel_rfl
@[push_cast] theorem m104 : concreteB Try.prog 104 = true := by kernel_rfl
@[push_cast] theorem a104 : elemOk Try.prog 104 = true := by kernel_rfl
@[push_cast] theorem b104 : bytesOf Try.prog 104 = 8 := by kernel_rfl
@[push_cast] theorem z104 : zeroD Try.prog 104 = some ([.t (.v .nilFunc)]) := by kernel_rfl
@[push_cast] theorem c106 : Try.prog.cellsOf 106 = 1 := by kernel_rfl
@[push_cast] theorem g106 : isAggB Try.prog 106 = false := by kernel_rfl
@[push_cast] theorem s106 : (Try.prog.underlying 106).isSome = true := by kernel_rfl
@[push_cast] theorem i106 : (Try.prog.info? 106).isSome = true := by kernel_rfl
@[push_cast] theorem m106 : concreteB Try.prog 106 = true := by kernel_rfl
@[push_cast] theorem a106 : elemOk Try.prog 106 = true := by kernel_rfl
@[push_cast] theorem b106 : bytesOf Try.prog 106 = 8 := by kernel_rfl
@[push_cast] theorem z106 : zeroD Try.prog 106 = some ([.t (.v .nilFunc)]) := by kernel_rfl
@[push_cast] theorem c107 : Try.prog.cellsOf 107 = 1 := by kernel_rfl
@[push_cast] theorem g107 : isAggB Try.prog 107 = false := by kernel_rfl
@[push_cast] theorem s107 : (Try.prog.underlying 107).isSome = true := by kernel_rfl
@[push_cast] theorem i107 : (Try.prog.info? 107).isSome = true := by kernel_rfl
@[push_cast] theorem m107 : concreteB Try.prog 107 = true := by kernel_rfl
@[push_cast] theorem a107 : elemOk Try.prog 107 = true := by kernel_rfl
@[push_cast] theorem b107 : bytesOf Try.prog 107 = 8 := by kernel_rfl
@[push_cast] theorem z107 : zeroD Try.prog 107 = some ([.t (.v .nilFunc)]) := by kernel_rfl
@[push_cast] theorem c108 : Try.prog.cellsOf 108 = 1 := by kernel_rfl
@[push_cast] theorem g108 : isAggB Try.prog 108 = false := by kernel_rfl
@[push_cast] theorem s108 : (Try.prog.underlying 108).isSome = true := by kernel_rfl
@[push_cast] theorem i108 : (Try.prog.info? 108).isSome = true := by kernel_rfl
@[push_cast] theorem m108 : concreteB Try.prog 108 = true := by kernel_rfl
@[push_cast] theorem a108 : elemOk Try.prog 108 = true := by kernel_rfl
@[push_cast] theorem b108 : bytesOf Try.prog 108 = 8 := by kernel_rfl
@[push_cast] theorem z108 : zeroD Try.prog 108 = some ([.t (.v .nilFunc)]) := by kernel_rfl
@[push_cast] theorem c109 : Try.prog.cellsOf 109 = 1 := by kernel_rfl
@[push_cast] theorem g109 : isAggB Try.prog 109 = false := by kernel_rfl
@[push_cast] theorem s109 : (Try.prog.underlying 109).isSome = true := by kernel_rfl
@[push_cast] theorem i109 : (Try.prog.info? 109).isSome = true := by kernel_rfl
@[push_cast] theorem m109 : concreteB Try.prog 109 = true := by kernel_rfl
@[push_cast] theorem a109 : elemOk Try.prog 109 = true := by kernel_rfl
@[push_cast] theorem b109 : bytesOf Try.prog 109 = 8 := by kernel_rfl
@[push_cast] theorem z109 : zeroD Try.prog 109 = some ([.t (.v .nilFunc)]) := by kernel_rfl
@[push_cast] theorem c110 : Try.prog.cellsOf 110 = 1 := by kernel_rfl
@[push_cast] theorem g110 : isAggB Try.prog 110 = false := by kernel_rfl
@[push_cast] theorem s110 : (Try.prog.underlying 110).isSome = true := by kernel_rfl
@[push_cast] theorem i110 : (Try.prog.info? 110).isSome = true := by kernel_rfl
@[push_cast] theorem m110 : concreteB Try.prog 110 = true := by kernel_rfl
@[push_cast] theorem a110 : elemOk Try.prog 110 = true := by kernel_rfl
@[push_cast] theorem b110 : bytesOf Try.prog 110 = 8 := by kernel_rfl
@[push_cast] theorem z110 : zeroD Try.prog 110 = some ([.t (.v .nilFunc)]) := by kernel_rfl
@[push_cast] theorem c111 : Try.prog.cellsOf 111 = 1 := by kernel_rfl
@[push_cast] theorem g111 : isAggB Try.prog 111 = false := by kernel_rfl
@[push_cast] theorem s111 : (Try.prog.underlying 111).isSome = true := by kernel_rfl
@[push_cast] theorem i111 : (Try.prog.info? 111).isSome = true := by kernel_rfl
@[push_cast] theorem m111 : concreteB Try.prog 111 = true := by kernel_rfl
@[push_cast] theorem a111 : elemOk Try.prog 111 = true := by kernel_rfl
@[push_cast] theorem b111 : bytesOf Try.prog 111 = 8 := by kernel_rfl
@[push_cast] theorem z111 : zeroD Try.prog 111 = some ([.t (.v (.pointer none))]) := by kernel_rfl
@[push_cast] theorem c113 : Try.prog.cellsOf 113 = 1 := by kernel_rfl
@[push_cast] theorem g113 : isAggB Try.prog 113 = false := by kernel_rfl
@[push_cast] theorem s113 : (Try.prog.underlying 113).isSome = true := by kernel_rfl
@[push_cast] theorem i113 : (Try.prog.info? 113).isSome = true := by kernel_rfl
@[push_cast] theorem m113 : concreteB Try.prog 113 = true := by kernel_rfl
@[push_cast] theorem a113 : elemOk Try.prog 113 = true := by kernel_rfl
@[push_cast] theorem b113 : bytesOf Try.prog 113 = 8 := by kernel_rfl
@[push_cast] theorem z113 : zeroD Try.prog 113 = some ([.t (.v .nilFunc)]) := by kernel_rfl
@[push_cast] theorem c115 : Try.prog.cellsOf 115 = 1 := by kernel_rfl
@[push_cast] theorem g115 : isAggB Try.prog 115 = false := by kernel_rfl
@[push_cast] theorem s115 : (Try.prog.underlying 115).isSome = true := by kernel_rfl
@[push_cast] theorem i115 : (Try.prog.info? 115).isSome = true := by kernel_rfl
@[push_cast] theorem m115 : concreteB Try.prog 115 = true := by kernel_rfl
@[push_cast] theorem a115 : elemOk Try.prog 115 = true := by kernel_rfl
@[push_cast] theorem b115 : bytesOf Try.prog 115 = 8 := by kernel_rfl
@[push_cast] theorem z115 : zeroD Try.prog 115 = some ([.t (.v .nilFunc)]) := by kernel_rfl
@[push_cast] theorem c116 : Try.prog.cellsOf 116 = 1 := by kernel_rfl
@[push_cast] theorem g116 : isAggB Try.prog 116 = false := by kernel_rfl
@[push_cast] theorem s116 : (Try.prog.underlying 116).isSome = true := by kernel_rfl
@[push_cast] theorem i116 : (Try.prog.info? 116).isSome = true := by kernel_rfl
@[push_cast] theorem m116 : concreteB Try.prog 116 = true := by kernel_rfl
@[push_cast] theorem a116 : elemOk Try.prog 116 = true := by kernel_rfl
@[push_cast] theorem b116 : bytesOf Try.prog 116 = 24 := by kernel_rfl
@[push_cast] theorem z116 : zeroD Try.prog 116 = some ([.t (.v (.slice none 0 0))]) := by kernel_rfl
@[push_cast] theorem u116 : Try.prog.underlying 116 = some (.slice 3) := by kernel_rfl
@[push_cast] theorem e116 : Try.prog.elem 116 = 3 := by kernel_rfl
@[push_cast] theorem c117 : Try.prog.cellsOf 117 = 1 := by kernel_rfl
@[push_cast] theorem g117 : isAggB Try.prog 117 = false := by kernel_rfl
@[push_cast] theorem s117 : (Try.prog.underlying 117).isSome = true := by kernel_rfl
@[push_cast] theorem i117 : (Try.prog.info? 117).isSome = true := by kernel_rfl
@[push_cast] theorem m117 : concreteB Try.prog 117 = true := by kernel_rfl
@[push_cast] theorem a117 : elemOk Try.prog 117 = true := by kernel_rfl
@[push_cast] theorem b117 : bytesOf Try.prog 117 = 8 := by kernel_rfl
@[push_cast] theorem z117 : zeroD Try.prog 117 = some ([.t (.v (.pointer none))]) := by kernel_rfl
@[push_cast] theorem c118 : Try.prog.cellsOf 118 = 1 := by kernel_rfl
@[push_cast] theorem g118 : isAggB Try.prog 118 = false := by kernel_rfl
@[push_cast] theorem s118 : (Try.prog.underlying 118).isSome = true := by kernel_rfl
@[push_cast] theorem i118 : (Try.prog.info? 118).isSome = true := by kernel_rfl
@[push_cast] theorem m118 : concreteB Try.prog 118 = true := by kernel_rfl
@[push_cast] theorem a118 : elemOk Try.prog 118 = true := by kernel_rfl
@[push_cast] theorem b118 : bytesOf Try.prog 118 = 8 := by kernel_rfl
@[push_cast] theorem z118 : zeroD Try.prog 118 = some ([.t (.v .nilFunc)]) := by kernel_rfl
@[push_cast] theorem c119 : Try.prog.cellsOf 119 = 1 := by kernel_rfl
@[push_cast] theorem g119 : isAggB Try.prog 119 = false := by kernel_rfl
@[push_cast] theorem s119 : (Try.prog.underlying 119).isSome = true := by kernel_rfl
@[push_cast] theorem i119 : (Try.prog.info? 119).isSome = true := by kernel_rfl
@[push_cast] theorem m119 : concreteB Try.prog 119 = true := by kernel_rfl
@[push_cast] theorem a119 : elemOk Try.prog 119 = true := by kernel_rfl
@[push_cast] theorem b119 : bytesOf Try.prog 119 = 8 := by kernel_rfl
@[push_cast] theorem z119 : zeroD Try.prog 119 = some ([.t (.v .nilFunc)]) := by kernel_rfl
@[push_cast] theorem c120 : Try.prog.cellsOf 120 = 4 := by kernel_rfl
@[push_cast] theorem g120 : isAggB Try.prog 120 = true := by kernel_rfl
@[push_cast] theorem s120 : (Try.prog.underlying 120).isSome = true := by kernel_rfl
@[push_cast] theorem i120 : (Try.prog.info? 120).isSome = true := by kernel_rfl
@[push_cast] theorem m120 : concreteB Try.prog 120 = true := by kernel_rfl
@[push_cast] theorem a120 : elemOk Try.prog 120 = true := by kernel_rfl
@[push_cast] theorem b120 : bytesOf Try.prog 120 = 40 := by kernel_rfl
@[push_cast] theorem z120 : zeroD Try.prog 120 = some ([.t (.v (.pointer none)), .t (.v (.pointer none)), .t (.v (.pointer none)), .t (.v (.string ⟨#[]⟩))]) := by kernel_rfl
@[push_cast] theorem f120_0 : fieldOf Try.prog 120 0 = some (0, 1, 17) := by kernel_rfl
@[push_cast] theorem q120_0 : placeOf Try.prog 120 0 = some (0, 1) := by kernel_rfl
@[push_cast] theorem f120_1 : fieldOf Try.prog 120 1 = some (1, 1, 17) := by kernel_rfl
@[push_cast] theorem q120_1 : placeOf Try.prog 120 1 = some (1, 1) := by kernel_rfl
@[push_cast] theorem f120_2 : fieldOf Try.prog 120 2 = some (2, 1, 17) := by kernel_rfl
@[push_cast] theorem q120_2 : placeOf Try.prog 120 2 = some (2, 1) := by kernel_rfl
@[push_cast] theorem f120_3 : fieldOf Try.prog 120 3 = some (3, 1, 9) := by kernel_rfl
@[push_cast] theorem q120_3 : placeOf Try.prog 120 3 = some (3, 1) := by kernel_rfl
@[push_cast] theorem p120 : placesOk Try.prog 120 = true := by kernel_rfl
@[push_cast] theorem c121 : Try.prog.cellsOf 121 = 4 := by kernel_rfl
@[push_cast] theorem g121 : isAggB Try.prog 121 = true := by kernel_rfl
@[push_cast] theorem s121 : (Try.prog.underlying 121).isSome = true := by kernel_rfl
@[push_cast] theorem i121 : (Try.prog.info? 121).isSome = true := by kernel_rfl
@[push_cast] theorem m121 : concreteB Try.prog 121 = true := by kernel_rfl
@[push_cast] theorem a121 : elemOk Try.prog 121 = true := by kernel_rfl
@[push_cast] theorem b121 : bytesOf Try.prog 121 = 40 := by kernel_rfl
@[push_cast] theorem z121 : zeroD Try.prog 121 = some ([.t (.v (.pointer none)), .t (.v (.pointer none)), .t (.v (.pointer none)), .t (.v (.string ⟨#[]⟩))]) := by kernel_rfl
@[push_cast] theorem f121_0 : fieldOf Try.prog 121 0 = some (0, 1, 17) := by kernel_rfl
@[push_cast] theorem q121_0 : placeOf Try.prog 121 0 = some (0, 1) := by kernel_rfl
@[push_cast] theorem f121_1 : fieldOf Try.prog 121 1 = some (1, 1, 17) := by kernel_rfl
@[push_cast] theorem q121_1 : placeOf Try.prog 121 1 = some (1, 1) := by kernel_rfl
@[push_cast] theorem f121_2 : fieldOf Try.prog 121 2 = some (2, 1, 17) := by kernel_rfl
@[push_cast] theorem q121_2 : placeOf Try.prog 121 2 = some (2, 1) := by kernel_rfl
@[push_cast] theorem f121_3 : fieldOf Try.prog 121 3 = some (3, 1, 9) := by kernel_rfl
@[push_cast] theorem q121_3 : placeOf Try.prog 121 3 = some (3, 1) := by kernel_rfl
@[push_cast] theorem p121 : placesOk Try.prog 121 = true := by kernel_rfl
@[push_cast] theorem c122 : Try.prog.cellsOf 122 = 0 := by kernel_rfl
@[push_cast] theorem g122 : isAggB Try.prog 122 = true := by kernel_rfl
@[push_cast] theorem s122 : (Try.prog.underlying 122).isSome = true := by kernel_rfl
@[push_cast] theorem i122 : (Try.prog.info? 122).isSome = true := by kernel_rfl
@[push_cast] theorem m122 : concreteB Try.prog 122 = true := by kernel_rfl
@[push_cast] theorem a122 : elemOk Try.prog 122 = true := by kernel_rfl
@[push_cast] theorem b122 : bytesOf Try.prog 122 = 0 := by kernel_rfl
@[push_cast] theorem z122 : zeroD Try.prog 122 = some ([]) := by kernel_rfl
@[push_cast] theorem u122 : Try.prog.underlying 122 = some (.array 0 16) := by kernel_rfl
@[push_cast] theorem e122 : Try.prog.elem 122 = 16 := by kernel_rfl
@[push_cast] theorem l122 : Try.prog.arrayLen 122 = 0 := by kernel_rfl
@[push_cast] theorem p122 : placesOk Try.prog 122 = true := by kernel_rfl
@[push_cast] theorem q122 (i : Nat) : placeOf Try.prog 122 i = some (i * 1, 1) := by rw [placeOf_arr u122, c16]
@[push_cast] theorem c123 : Try.prog.cellsOf 123 = 0 := by kernel_rfl
@[push_cast] theorem g123 : isAggB Try.prog 123 = true := by kernel_rfl
@[push_cast] theorem s123 : (Try.prog.underlying 123).isSome = true := by kernel_rfl
@[push_cast] theorem i123 : (Try.prog.info? 123).isSome = true := by kernel_rfl
@[push_cast] theorem m123 : concreteB Try.prog 123 = true := by kernel_rfl
@[push_cast] theorem a123 : elemOk Try.prog 123 = true := by kernel_rfl
@[push_cast] theorem b123 : bytesOf Try.prog 123 = 0 := by kernel_rfl
@[push_cast] theorem z123 : zeroD Try.prog 123 = some ([]) := by kernel_rfl
@[push_cast] theorem f123_0 : fieldOf Try.prog 123 0 = some (0, 0, 122) := by kernel_rfl
@[push_cast] theorem q123_0 : placeOf Try.prog 123 0 = some (0, 0) := by kernel_rfl
@[push_cast] theorem p123 : placesOk Try.prog 123 = true := by kernel_rfl
@[push_cast] theorem c124 : Try.prog.cellsOf 124 = 0 := by kernel_rfl
@[push_cast] theorem g124 : isAggB Try.prog 124 = true := by kernel_rfl
@[push_cast] theorem s124 : (Try.prog.underlying 124).isSome = true := by kernel_rfl
@[push_cast] theorem i124 : (Try.prog.info? 124).isSome = true := by kernel_rfl
@[push_cast] theorem m124 : concreteB Try.prog 124 = true := by kernel_rfl
@[push_cast] theorem a124 : elemOk Try.prog 124 = true := by kernel_rfl
@[push_cast] theorem b124 : bytesOf Try.prog 124 = 0 := by kernel_rfl
@[push_cast] theorem z124 : zeroD Try.prog 124 = some ([]) := by kernel_rfl
@[push_cast] theorem f124_0 : fieldOf Try.prog 124 0 = some (0, 0, 122) := by kernel_rfl
@[push_cast] theorem q124_0 : placeOf Try.prog 124 0 = some (0, 0) := by kernel_rfl
@[push_cast] theorem p124 : placesOk Try.prog 124 = true := by kernel_rfl
@[push_cast] theorem c125 : Try.prog.cellsOf 125 = 1 := by kernel_rfl
@[push_cast] theorem g125 : isAggB Try.prog 125 = false := by kernel_rfl
@[push_cast] theorem s125 : (Try.prog.underlying 125).isSome = true := by kernel_rfl
@[push_cast] theorem i125 : (Try.prog.info? 125).isSome = true := by kernel_rfl
@[push_cast] theorem m125 : concreteB Try.prog 125 = true := by kernel_rfl
@[push_cast] theorem a125 : elemOk Try.prog 125 = true := by kernel_rfl
@[push_cast] theorem b125 : bytesOf Try.prog 125 = 1 := by kernel_rfl
@[push_cast] theorem z125 : zeroD Try.prog 125 = some ([.t (.v (.int .u8 0))]) := by kernel_rfl
@[push_cast] theorem u125 : Try.prog.underlying 125 = some (.int .u8) := by kernel_rfl
@[push_cast] theorem c126 : Try.prog.cellsOf 126 = 1 := by kernel_rfl
@[push_cast] theorem g126 : isAggB Try.prog 126 = false := by kernel_rfl
@[push_cast] theorem s126 : (Try.prog.underlying 126).isSome = true := by kernel_rfl
@[push_cast] theorem i126 : (Try.prog.info? 126).isSome = true := by kernel_rfl
@[push_cast] theorem m126 : concreteB Try.prog 126 = true := by kernel_rfl
@[push_cast] theorem a126 : elemOk Try.prog 126 = true := by kernel_rfl
@[push_cast] theorem b126 : bytesOf Try.prog 126 = 1 := by kernel_rfl
@[push_cast] theorem z126 : zeroD Try.prog 126 = some ([.t (.v (.int .u8 0))]) := by kernel_rfl
@[push_cast] theorem u126 : Try.prog.underlying 126 = some (.int .u8) := by kernel_rfl
@[push_cast] theorem c127 : Try.prog.cellsOf 127 = 1 := by kernel_rfl
@[push_cast] theorem g127 : isAggB Try.prog 127 = false := by kernel_rfl
@[push_cast] theorem s127 : (Try.prog.underlying 127).isSome = true := by kernel_rfl
@[push_cast] theorem i127 : (Try.prog.info? 127).isSome = true := by kernel_rfl
@[push_cast] theorem m127 : concreteB Try.prog 127 = true := by kernel_rfl
@[push_cast] theorem a127 : elemOk Try.prog 127 = true := by kernel_rfl
@[push_cast] theorem b127 : bytesOf Try.prog 127 = 8 := by kernel_rfl
@[push_cast] theorem z127 : zeroD Try.prog 127 = some ([.t (.v .nilFunc)]) := by kernel_rfl
@[push_cast] theorem c128 : Try.prog.cellsOf 128 = 1 := by kernel_rfl
@[push_cast] theorem g128 : isAggB Try.prog 128 = false := by kernel_rfl
@[push_cast] theorem s128 : (Try.prog.underlying 128).isSome = true := by kernel_rfl
@[push_cast] theorem i128 : (Try.prog.info? 128).isSome = true := by kernel_rfl
@[push_cast] theorem m128 : concreteB Try.prog 128 = true := by kernel_rfl
@[push_cast] theorem a128 : elemOk Try.prog 128 = true := by kernel_rfl
@[push_cast] theorem b128 : bytesOf Try.prog 128 = 4 := by kernel_rfl
@[push_cast] theorem z128 : zeroD Try.prog 128 = some ([.t (.v (.int .i32 0))]) := by kernel_rfl
@[push_cast] theorem u128 : Try.prog.underlying 128 = some (.int .i32) := by kernel_rfl
@[push_cast] theorem c129 : Try.prog.cellsOf 129 = 1 := by kernel_rfl
@[push_cast] theorem g129 : isAggB Try.prog 129 = false := by kernel_rfl
@[push_cast] theorem s129 : (Try.prog.underlying 129).isSome = true := by kernel_rfl
@[push_cast] theorem i129 : (Try.prog.info? 129).isSome = true := by kernel_rfl
@[push_cast] theorem m129 : concreteB Try.prog 129 = true := by kernel_rfl
@[push_cast] theorem a129 : elemOk Try.prog 129 = true := by kernel_rfl
@[push_cast] theorem b129 : bytesOf Try.prog 129 = 4 := by kernel_rfl
@[push_cast] theorem z129 : zeroD Try.prog 129 = some ([.t (.v (.int .i32 0))]) := by kernel_rfl
@[push_cast] theorem u129 : Try.prog.underlying 129 = some (.int .i32) := by kernel_rfl
@[push_cast] theorem c130 : Try.prog.cellsOf 130 = 11 := by kernel_rfl
@[push_cast] theorem g130 : isAggB Try.prog 130 = true := by kernel_rfl
@[push_cast] theorem s130 : (Try.prog.underlying 130).isSome = true := by kernel_rfl
@[push_cast] theorem i130 : (Try.prog.info? 130).isSome = true := by kernel_rfl
@[push_cast] theorem m130 : concreteB Try.prog 130 = true := by kernel_rfl
@[push_cast] theorem a130 : elemOk Try.prog 130 = true := by kernel_rfl
@[push_cast] theorem b130 : bytesOf Try.prog 130 = 48 := by kernel_rfl
@[push_cast] theorem z130 : zeroD Try.prog 130 = some ([.t (.v (.int .u64 0)), .t (.v (.int .u64 0)), .t (.v (.int .u32 0)), .t (.v (.int .u8 0)), .t (.v (.int .u8 0)), .t (.v (.int .u8 0)), .t (.v (.int .u8 0)), .t (.v .nilFunc), .t (.v (.pointer none)), .t (.v (.int .i32 0)), .t (.v (.int .i32 0))]) := by kernel_rfl
@[push_cast] theorem f130_0 : fieldOf Try.prog 130 0 = some (0, 1, 12) := by kernel_rfl
@[push_cast] theorem q130_0 : placeOf Try.prog 130 0 = some (0, 1) := by kernel_rfl
@[push_cast] theorem f130_1 : fieldOf Try.prog 130 1 = some (1, 1, 12) := by kernel_rfl
@[push_cast] theorem q130_1 : placeOf Try.prog 130 1 = some (1, 1) := by kernel_rfl
@[push_cast] theorem f130_2 : fieldOf Try.prog 130 2 = some (2, 1, 60) := by kernel_rfl
@[push_cast] theorem q130_2 : placeOf Try.prog 130 2 = some (2, 1) := by kernel_rfl
@[push_cast] theorem f130_3 : fieldOf Try.prog 130 3 = some (3, 1, 125) := by kernel_rfl
@[push_cast] theorem q130_3 : placeOf Try.prog 130 3 = some (3, 1) := by kernel_rfl
@[push_cast] theorem f130_4 : fieldOf Try.prog 130 4 = some (4, 1, 5) := by kernel_rfl
@[push_cast] theorem q130_4 : placeOf Try.prog 130 4 = some (4, 1) := by kernel_rfl
@[push_cast] theorem f130_5 : fieldOf Try.prog 130 5 = some (5, 1, 5) := by kernel_rfl
@[push_cast] theorem q130_5 : placeOf Try.prog 130 5 = some (5, 1) := by kernel_rfl
@[push_cast] theorem f130_6 : fieldOf Try.prog 130 6 = some (6, 1, 126) := by kernel_rfl
@[push_cast] theorem q130_6 : placeOf Try.prog 130 6 = some (6, 1) := by kernel_rfl
@[push_cast] theorem f130_7 : fieldOf Try.prog 130 7 = some (7, 1, 127) := by kernel_rfl
@[push_cast] theorem q130_7 : placeOf Try.prog 130 7 = some (7, 1) := by kernel_rfl
@[push_cast] theorem f130_8 : fieldOf Try.prog 130 8 = some (8, 1, 111) := by kernel_rfl
@[push_cast] theorem q130_8 : placeOf Try.prog 130 8 = some (8, 1) := by kernel_rfl
@[push_cast] theorem f130_9 : fieldOf Try.prog 130 9 = some (9, 1, 128) := by kernel_rfl
@[push_cast] theorem q130_9 : placeOf Try.prog 130 9 = some (9, 1) := by kernel_rfl
@[push_cast] theorem f130_10 : fieldOf Try.prog 130 10 = some (10, 1, 129) := by kernel_rfl
@[push_cast] theorem q130_10 : placeOf Try.prog 130 10 = some (10, 1) := by kernel_rfl
@[push_cast] theorem p130 : placesOk Try.prog 130 = true := by kernel_rfl
@[push_cast] theorem c131 : Try.prog.cellsOf 131 = 11 := by kernel_rfl
@[push_cast] theorem g131 : isAggB Try.prog 131 = true := by kernel_rfl
@[push_cast] theorem s131 : (Try.prog.underlying 131).isSome = true := by kernel_rfl
@[push_cast] theorem i131 : (Try.prog.info? 131).isSome = true := by kernel_rfl
@[push_cast] theorem m131 : concreteB Try.prog 131 = true := by kernel_rfl
@[push_cast] theorem a131 : elemOk Try.prog 131 = true := by kernel_rfl
@[push_cast] theorem b131 : bytesOf Try.prog 131 = 48 := by kernel_rfl
@[push_cast] theorem z131 : zeroD Try.prog 131 = some ([.t (.v (.int .u64 0)), .t (.v (.int .u64 0)), .t (.v (.int .u32 0)), .t (.v (.int .u8 0)), .t (.v (.int .u8 0)), .t (.v (.int .u8 0)), .t (.v (.int .u8 0)), .t (.v .nilFunc), .t (.v (.pointer none)), .t (.v (.int .i32 0)), .t (.v (.int .i32 0))]) := by kernel_rfl
@[push_cast] theorem f131_0 : fieldOf Try.prog 131 0 = some (0, 1, 12) := by kernel_rfl
@[push_cast] theorem q131_0 : placeOf Try.prog 131 0 = some (0, 1) := by kernel_rfl
@[push_cast] theorem f131_1 : fieldOf Try.prog 131 1 = some (1, 1, 12) := by kernel_rfl
@[push_cast] theorem q131_1 : placeOf Try.prog 131 1 = some (1, 1) := by kernel_rfl
@[push_cast] theorem f131_2 : fieldOf Try.prog 131 2 = some (2, 1, 60) := by kernel_rfl
@[push_cast] theorem q131_2 : placeOf Try.prog 131 2 = some (2, 1) := by kernel_rfl
@[push_cast] theorem f131_3 : fieldOf Try.prog 131 3 = some (3, 1, 125) := by kernel_rfl
@[push_cast] theorem q131_3 : placeOf Try.prog 131 3 = some (3, 1) := by kernel_rfl
@[push_cast] theorem f131_4 : fieldOf Try.prog 131 4 = some (4, 1, 5) := by kernel_rfl
@[push_cast] theorem q131_4 : placeOf Try.prog 131 4 = some (4, 1) := by kernel_rfl
@[push_cast] theorem f131_5 : fieldOf Try.prog 131 5 = some (5, 1, 5) := by kernel_rfl
@[push_cast] theorem q131_5 : placeOf Try.prog 131 5 = some (5, 1) := by kernel_rfl
@[push_cast] theorem f131_6 : fieldOf Try.prog 131 6 = some (6, 1, 126) := by kernel_rfl
@[push_cast] theorem q131_6 : placeOf Try.prog 131 6 = some (6, 1) := by kernel_rfl
@[push_cast] theorem f131_7 : fieldOf Try.prog 131 7 = some (7, 1, 127) := by kernel_rfl
@[push_cast] theorem q131_7 : placeOf Try.prog 131 7 = some (7, 1) := by kernel_rfl
@[push_cast] theorem f131_8 : fieldOf Try.prog 131 8 = some (8, 1, 111) := by kernel_rfl
@[push_cast] theorem q131_8 : placeOf Try.prog 131 8 = some (8, 1) := by kernel_rfl
@[push_cast] theorem f131_9 : fieldOf Try.prog 131 9 = some (9, 1, 128) := by kernel_rfl
@[push_cast] theorem q131_9 : placeOf Try.prog 131 9 = some (9, 1) := by kernel_rfl
@[push_cast] theorem f131_10 : fieldOf Try.prog 131 10 = some (10, 1, 129) := by kernel_rfl
@[push_cast] theorem q131_10 : placeOf Try.prog 131 10 = some (10, 1) := by kernel_rfl
@[push_cast] theorem p131 : placesOk Try.prog 131 = true := by kernel_rfl
@[push_cast] theorem c132 : Try.prog.cellsOf 132 = 1 := by kernel_rfl
@[push_cast] theorem g132 : isAggB Try.prog 132 = false := by kernel_rfl
@[push_cast] theorem s132 : (Try.prog.underlying 132).isSome = true := by kernel_rfl
@[push_cast] theorem i132 : (Try.prog.info? 132).isSome = true := by kernel_rfl
@[push_cast] theorem m132 : concreteB Try.prog 132 = true := by kernel_rfl
@[push_cast] theorem a132 : elemOk Try.prog 132 = true := by kernel_rfl
@[push_cast] theorem b132 : bytesOf Try.prog 132 = 8 := by kernel_rfl
@[push_cast] theorem z132 : zeroD Try.prog 132 = some ([.t (.v .nilFunc)]) := by kernel_rfl
@[push_cast] theorem c133 : Try.prog.cellsOf 133 = 1 := by kernel_rfl
@[push_cast] theorem g133 : isAggB Try.prog 133 = false := by kernel_rfl
@[push_cast] theorem s133 : (Try.prog.underlying 133).isSome = true := by kernel_rfl
@[push_cast] theorem i133 : (Try.prog.info? 133).isSome = true := by kernel_rfl
@[push_cast] theorem m133 : concreteB Try.prog 133 = true := by kernel_rfl
@[push_cast] theorem a133 : elemOk Try.prog 133 = true := by kernel_rfl
@[push_cast] theorem b133 : bytesOf Try.prog 133 = 8 := by kernel_rfl
@[push_cast] theorem z133 : zeroD Try.prog 133 = some ([.t (.v .nilFunc)]) := by kernel_rfl
@[push_cast] theorem c134 : Try.prog.cellsOf 134 = 1 := by kernel_rfl
@[push_cast] theorem g134 : isAggB Try.prog 134 = false := by kernel_rfl
@[push_cast] theorem s134 : (Try.prog.underlying 134).isSome = true := by kernel_rfl
@[push_cast] theorem i134 : (Try.prog.info? 134).isSome = true := by kernel_rfl
@[push_cast] theorem m134 : concreteB Try.prog 134 = true := by kernel_rfl
@[push_cast] theorem a134 : elemOk Try.prog 134 = true := by kernel_rfl
@[push_cast] theorem b134 : bytesOf Try.prog 134 = 8 := by kernel_rfl
@[push_cast] theorem z134 : zeroD Try.prog 134 = some ([.t (.v .nilFunc)]) := by kernel_rfl
@[push_cast] theorem c135 : Try.prog.cellsOf 135 = 1 := by kernel_rfl
@[push_cast] theorem g135 : isAggB Try.prog 135 = false := by kernel_rfl
@[push_cast] theorem s135 : (Try.prog.underlying 135).isSome = true := by kernel_rfl
@[push_cast] theorem i135 : (Try.prog.info? 135).isSome = true := by kernel_rfl
@[push_cast] theorem m135 : concreteB Try.prog 135 = true := by kernel_rfl
@[push_cast] theorem a135 : elemOk Try.prog 135 = true := by kernel_rfl
@[push_cast] theorem b135 : bytesOf Try.prog 135 = 8 := by kernel_rfl
@[push_cast] theorem z135 : zeroD Try.prog 135 = some ([.t (.v .nilFunc)]) := by kernel_rfl
@[push_cast] theorem c136 : Try.prog.cellsOf 136 = 1 := by kernel_rfl
@[push_cast] theorem g136 : isAggB Try.prog 136 = false := by kernel_rfl
@[push_cast] theorem s136 : (Try.prog.underlying 136).isSome = true := by kernel_rfl
@[push_cast] theorem i136 : (Try.prog.info? 136).isSome = true := by kernel_rfl
@[push_cast] theorem m136 : concreteB Try.prog 136 = true := by kernel_rfl
@[push_cast] theorem a136 : elemOk Try.prog 136 = true := by kernel_rfl
@[push_cast] theorem b136 : bytesOf Try.prog 136 = 8 := by kernel_rfl
@[push_cast] theorem z136 : zeroD Try.prog 136 = some ([.t (.v .nilFunc)]) := by kernel_rfl
@[push_cast] theorem c137 : Try.prog.cellsOf 137 = 1 := by kernel_rfl
@[push_cast] theorem g137 : isAggB Try.prog 137 = false := by kernel_rfl
@[push_cast] theorem s137 : (Try.prog.underlying 137).isSome = true := by kernel_rfl
@[push_cast] theorem i137 : (Try.prog.info? 137).isSome = true := by kernel_rfl
@[push_cast] theorem m137 : concreteB Try.prog 137 = true := by kernel_rfl
@[push_cast] theorem a137 : elemOk Try.prog 137 = true := by kernel_rfl
@[push_cast] theorem b137 : bytesOf Try.prog 137 = 8 := by kernel_rfl
@[push_cast] theorem z137 : zeroD Try.prog 137 = some ([.t (.v .nilFunc)]) := by kernel_rfl
@[push_cast] theorem c138 : Try.prog.cellsOf 138 = 2 := by kernel_rfl
@[push_cast] theorem g138 : isAggB Try.prog 138 = true := by kernel_rfl
@[push_cast] theorem s138 : (Try.prog.underlying 138).isSome = true := by kernel_rfl
@[push_cast] theorem i138 : (Try.prog.info? 138).isSome = true := by kernel_rfl
@[push_cast] theorem m138 : concreteB Try.prog 138 = true := by kernel_rfl
@[push_cast] theorem a138 : elemOk Try.prog 138 = true := by kernel_rfl
@[push_cast] theorem b138 : bytesOf Try.prog 138 = 24 := by kernel_rfl
@[push_cast] theorem z138 : zeroD Try.prog 138 = some ([.t (.v (.string ⟨#[]⟩)), .t (.v (.int .u8 0))]) := by kernel_rfl
@[push_cast] theorem f138_0 : fieldOf Try.prog 138 0 = some (0, 1, 9) := by kernel_rfl
@[push_cast] theorem q138_0 : placeOf Try.prog 138 0 = some (0, 1) := by kernel_rfl
@[push_cast] theorem f138_1 : fieldOf Try.prog 138 1 = some (1, 1, 126) := by kernel_rfl
@[push_cast] theorem q138_1 : placeOf Try.prog 138 1 = some (1, 1) := by kernel_rfl
@[push_cast] theorem p138 : placesOk Try.prog 138 = true := by kernel_rfl
@[push_cast] theorem c139 : Try.prog.cellsOf 139 = 2 := by kernel_rfl
@[push_cast] theorem g139 : isAggB Try.prog 139 = true := by kernel_rfl
@[push_cast] theorem s139 : (Try.prog.underlying 139).isSome = true := by kernel_rfl
@[push_cast] theorem i139 : (Try.prog.info? 139).isSome = true := by kernel_rfl
@[push_cast] theorem m139 : concreteB Try.prog 139 = true := by kernel_rfl
@[push_cast] theorem a139 : elemOk Try.prog 139 = true := by kernel_rfl
@[push_cast] theorem b139 : bytesOf Try.prog 139 = 24 := by kernel_rfl
@[push_cast] theorem z139 : zeroD Try.prog 139 = some ([.t (.v (.string ⟨#[]⟩)), .t (.v (.int .u8 0))]) := by kernel_rfl
@[push_cast] theorem f139_0 : fieldOf Try.prog 139 0 = some (0, 1, 9) := by kernel_rfl
@[push_cast] theorem q139_0 : placeOf Try.prog 139 0 = some (0, 1) := by kernel_rfl
@[push_cast] theorem f139_1 : fieldOf Try.prog 139 1 = some (1, 1, 126) := by kernel_rfl
@[push_cast] theorem q139_1 : placeOf Try.prog 139 1 = some (1, 1) := by kernel_rfl
@[push_cast] theorem p139 : placesOk Try.prog 139 = true := by kernel_rfl
@[push_cast] theorem c140 : Try.prog.cellsOf 140 = 1 := by kernel_rfl
@[push_cast] theorem g140 : isAggB Try.prog 140 = false := by kernel_rfl
@[push_cast] theorem s140 : (Try.prog.underlying 140).isSome = true := by kernel_rfl
@[push_cast] theorem i140 : (Try.prog.info? 140).isSome = true := by kernel_rfl
@[push_cast] theorem m140 : concreteB Try.prog 140 = true := by kernel_rfl
@[push_cast] theorem a140 : elemOk Try.prog 140 = true := by kernel_rfl
@[push_cast] theorem b140 : bytesOf Try.prog 140 = 8 := by kernel_rfl
@[push_cast] theorem z140 : zeroD Try.prog 140 = some ([.t (.v (.pointer none))]) := by kernel_rfl
@[push_cast] theorem c141 : Try.prog.cellsOf 141 = 1 := by kernel_rfl
@[push_cast] theorem g141 : isAggB Try.prog 141 = false := by kernel_rfl
@[push_cast] theorem s141 : (Try.prog.underlying 141).isSome = true := by kernel_rfl
@[push_cast] theorem i141 : (Try.prog.info? 141).isSome = true := by kernel_rfl
@[push_cast] theorem m141 : concreteB Try.prog 141 = true := by kernel_rfl
@[push_cast] theorem a141 : elemOk Try.prog 141 = true := by kernel_rfl
@[push_cast] theorem b141 : bytesOf Try.prog 141 = 8 := by kernel_rfl
@[push_cast] theorem z141 : zeroD Try.prog 141 = some ([.t (.v .nilFunc)]) := by kernel_rfl
@[push_cast] theorem c142 : Try.prog.cellsOf 142 = 5 := by kernel_rfl
@[push_cast] theorem g142 : isAggB Try.prog 142 = true := by kernel_rfl
@[push_cast] theorem s142 : (Try.prog.underlying 142).isSome = true := by kernel_rfl
@[push_cast] theorem i142 : (Try.prog.info? 142).isSome = true := by kernel_rfl
@[push_cast] theorem m142 : concreteB Try.prog 142 = true := by kernel_rfl
@[push_cast] theorem a142 : elemOk Try.prog 142 = true := by kernel_rfl
@[push_cast] theorem b142 : bytesOf Try.prog 142 = 16 := by kernel_rfl
@[push_cast] theorem z142 : zeroD Try.prog 142 = some ([.t (.v (.int .i32 0)), .t (.v (.int .u16 0)), .t (.v (.int .u16 0)), .t (.v (.int .u32 0)), .t (.v (.int .u32 0))]) := by kernel_rfl
@[push_cast] theorem f142_0 : fieldOf Try.prog 142 0 = some (0, 1, 128) := by kernel_rfl
@[push_cast] theorem q142_0 : placeOf Try.prog 142 0 = some (0, 1) := by kernel_rfl
@[push_cast] theorem f142_1 : fieldOf Try.prog 142 1 = some (1, 1, 31) := by kernel_rfl
@[push_cast] theorem q142_1 : placeOf Try.prog 142 1 = some (1, 1) := by kernel_rfl
@[push_cast] theorem f142_2 : fieldOf Try.prog 142 2 = some (2, 1, 31) := by kernel_rfl
@[push_cast] theorem q142_2 : placeOf Try.prog 142 2 = some (2, 1) := by kernel_rfl
@[push_cast] theorem f142_3 : fieldOf Try.prog 142 3 = some (3, 1, 60) := by kernel_rfl
@[push_cast] theorem q142_3 : placeOf Try.prog 142 3 = some (3, 1) := by kernel_rfl
@[push_cast] theorem f142_4 : fieldOf Try.prog 142 4 = some (4, 1, 60) := by kernel_rfl
@[push_cast] theorem q142_4 : placeOf Try.prog 142 4 = some (4, 1) := by kernel_rfl
@[push_cast] theorem p142 : placesOk Try.prog 142 = true := by kernel_rfl
@[push_cast] theorem c143 : Try.prog.cellsOf 143 = 5 := by kernel_rfl
@[push_cast] theorem g143 : isAggB Try.prog 143 = true := by kernel_rfl
@[push_cast] theorem s143 : (Try.prog.underlying 143).isSome = true := by kernel_rfl
@[push_cast] theorem i143 : (Try.prog.info? 143).isSome = true := by kernel_rfl
@[push_cast] theorem m143 : concreteB Try.prog 143 = true := by kernel_rfl
@[push_cast] theorem a143 : elemOk Try.prog 143 = true := by kernel_rfl
@[push_cast] theorem b143 : bytesOf Try.prog 143 = 16 := by kernel_rfl
@[push_cast] theorem z143 : zeroD Try.prog 143 = some ([.t (.v (.int .i32 0)), .t (.v (.int .u16 0)), .t (.v (.int .u16 0)), .t (.v (.int .u32 0)), .t (.v (.int .u32 0))]) := by kernel_rfl
@[push_cast] theorem f143_0 : fieldOf Try.prog 143 0 = some (0, 1, 128) := by kernel_rfl
@[push_cast] theorem q143_0 : placeOf Try.prog 143 0 = some (0, 1) := by kernel_rfl
@[push_cast] theorem f143_1 : fieldOf Try.prog 143 1 = some (1, 1, 31) := by kernel_rfl
@[push_cast] theorem q143_1 : placeOf Try.prog 143 1 = some (1, 1) := by kernel_rfl
@[push_cast] theorem f143_2 : fieldOf Try.prog 143 2 = some (2, 1, 31) := by kernel_rfl
@[push_cast] theorem q143_2 : placeOf Try.prog 143 2 = some (2, 1) := by kernel_rfl
@[push_cast] theorem f143_3 : fieldOf Try.prog 143 3 = some (3, 1, 60) := by kernel_rfl
@[push_cast] theorem q143_3 : placeOf Try.prog 143 3 = some (3, 1) := by kernel_rfl
@[push_cast] theorem f143_4 : fieldOf Try.prog 143 4 = some (4, 1, 60) := by kernel_rfl
@[push_cast] theorem q143_4 : placeOf Try.prog 143 4 = some (4, 1) := by kernel_rfl
@[push_cast] theorem p143 : placesOk Try.prog 143 = true := by kernel_rfl
@[push_cast] theorem c144 : Try.prog.cellsOf 144 = 1 := by kernel_rfl
@[push_cast] theorem g144 : isAggB Try.prog 144 = false := by kernel_rfl
@[push_cast] theorem s144 : (Try.prog.underlying 144).isSome = true := by kernel_rfl
@[push_cast] theorem i144 : (Try.prog.info? 144).isSome = true := by kernel_rfl
@[push_cast] theorem m144 : concreteB Try.prog 144 = true := by kernel_rfl
@[push_cast] theorem a144 : elemOk Try.prog 144 = true := by kernel_rfl
@[push_cast] theorem b144 : bytesOf Try.prog 144 = 24 := by kernel_rfl
@[push_cast] theorem z144 : zeroD Try.prog 144 = some ([.t (.v (.slice none 0 0))]) := by kernel_rfl
@[push_cast] theorem u144 : Try.prog.underlying 144 = some (.slice 147) := by kernel_rfl
@[push_cast] theorem e144 : Try.prog.elem 144 = 147 := by kernel_rfl
@[push_cast] theorem c145 : Try.prog.cellsOf 145 = 1 := by kernel_rfl
@[push_cast] theorem g145 : isAggB Try.prog 145 = false := by kernel_rfl
@[push_cast] theorem s145 : (Try.prog.underlying 145).isSome = true := by kernel_rfl
@[push_cast] theorem i145 : (Try.prog.info? 145).isSome = true := by kernel_rfl
@[push_cast] theorem m145 : concreteB Try.prog 145 = true := by kernel_rfl
@[push_cast] theorem a145 : elemOk Try.prog 145 = true := by kernel_rfl
@[push_cast] theorem b145 : bytesOf Try.prog 145 = 4 := by kernel_rfl
@[push_cast] theorem z145 : zeroD Try.prog 145 = some ([.t (.v (.int .i32 0))]) := by kernel_rfl
@[push_cast] theorem u145 : Try.prog.underlying 145 = some (.int .i32) := by kernel_rfl
@[push_cast] theorem c146 : Try.prog.cellsOf 146 = 4 := by kernel_rfl
@[push_cast] theorem g146 : isAggB Try.prog 146 = true := by kernel_rfl
@[push_cast] theorem s146 : (Try.prog.underlying 146).isSome = true := by kernel_rfl
@[push_cast] theorem i146 : (Try.prog.info? 146).isSome = true := by kernel_rfl
@[push_cast] theorem m146 : concreteB Try.prog 146 = true := by kernel_rfl
@[push_cast] theorem a146 : elemOk Try.prog 146 = true := by kernel_rfl
@[push_cast] theorem b146 : bytesOf Try.prog 146 = 16 := by kernel_rfl
@[push_cast] theorem z146 : zeroD Try.prog 146 = some ([.t (.v (.int .i32 0)), .t (.v (.int .i32 0)), .t (.v (.int .i32 0)), .t (.v (.int .i32 0))]) := by kernel_rfl
@[push_cast] theorem f146_0 : fieldOf Try.prog 146 0 = some (0, 1, 128) := by kernel_rfl
@[push_cast] theorem q146_0 : placeOf Try.prog 146 0 = some (0, 1) := by kernel_rfl
@[push_cast] theorem f146_1 : fieldOf Try.prog 146 1 = some (1, 1, 129) := by kernel_rfl
@[push_cast] theorem q146_1 : placeOf Try.prog 146 1 = some (1, 1) := by kernel_rfl
@[push_cast] theorem f146_2 : fieldOf Try.prog 146 2 = some (2, 1, 145) := by kernel_rfl
@[push_cast] theorem q146_2 : placeOf Try.prog 146 2 = some (2, 1) := by kernel_rfl
@[push_cast] theorem f146_3 : fieldOf Try.prog 146 3 = some (3, 1, 145) := by kernel_rfl
@[push_cast] theorem q146_3 : placeOf Try.prog 146 3 = some (3, 1) := by kernel_rfl
@[push_cast] theorem p146 : placesOk Try.prog 146 = true := by kernel_rfl
@[push_cast] theorem c147 : Try.prog.cellsOf 147 = 4 := by kernel_rfl
@[push_cast] theorem g147 : isAggB Try.prog 147 = true := by kernel_rfl
@[push_cast] theorem s147 : (Try.prog.underlying 147).isSome = true := by kernel_rfl
@[push_cast] theorem i147 : (Try.prog.info? 147).isSome = true := by kernel_rfl
@[push_cast] theorem m147 : concreteB Try.prog 147 = true := by kernel_rfl
@[push_cast] theorem a147 : elemOk Try.prog 147 = true := by kernel_rfl
@[push_cast] theorem b147 : bytesOf Try.prog 147 = 16 := by kernel_rfl
@[push_cast] theorem z147 : zeroD Try.prog 147 = some ([.t (.v (.int .i32 0)), .t (.v (.int .i32 0)), .t (.v (.int .i32 0)), .t (.v (.int .i32 0))]) := by kernel_rfl
@[push_cast] theorem f147_0 : fieldOf Try.prog 147 0 = some (0, 1, 128) := by kernel_rfl
@[push_cast] theorem q147_0 : placeOf Try.prog 147 0 = some (0, 1) := by kernel_rfl
@[push_cast] theorem f147_1 : fieldOf Try.prog 147 1 = some (1, 1, 129) := by kernel_rfl
@[push_cast] theorem q147_1 : placeOf Try.prog 147 1 = some (1, 1) := by kernel_rfl
@[push_cast] theorem f147_2 : fieldOf Try.prog 147 2 = some (2, 1, 145) := by kernel_rfl
@[push_cast] theorem q147_2 : placeOf Try.prog 147 2 = some (2, 1) := by kernel_rfl
@[push_cast] theorem f147_3 : fieldOf Try.prog 147 3 = some (3, 1, 145) := by kernel_rfl
@[push_cast] theorem q147_3 : placeOf Try.prog 147 3 = some (3, 1) := by kernel_rfl
@[push_cast] theorem p147 : placesOk Try.prog 147 = true := by kernel_rfl
@[push_cast] theorem k2 : callOk Try.prog 2 = true := by kernel_rfl
@[push_cast] theorem k3 : callOk Try.prog 3 = true := by kernel_rfl
@[push_cast] theorem k4 : callOk Try.prog 4 = true := by kernel_rfl
@[push_cast] theorem k5 : callOk Try.prog 5 = true := by kernel_rfl
@[push_cast] theorem k6 : callOk Try.prog 6 = true := by kernel_rfl
@[push_cast] theorem k7 : callOk Try.prog 7 = true := by kernel_rfl
@[push_cast] theorem k8 : callOk Try.prog 8 = true := by kernel_rfl
@[push_cast] theorem k9 : callOk Try.prog 9 = true := by kernel_rfl
@[push_cast] theorem k10 : callOk Try.prog 10 = true := by kernel_rfl
@[push_cast] theorem k11 : callOk Try.prog 11 = true := by kernel_rfl
@[push_cast] theorem k12 : callOk Try.prog 12 = true := by kernel_rfl
@[push_cast] theorem k13 : callOk Try.prog 13 = true := by kernel_rfl
@[push_cast] theorem k14 : callOk Try.prog 14 = true := by kernel_rfl
@[push_cast] theorem k15 : callOk Try.prog 15 = true := by kernel_rfl
@[push_cast] theorem k16 : callOk Try.prog 16 = true := by kernel_rfl
@[push_cast] theorem k17 : callOk Try.prog 17 = true := by kernel_rfl
@[push_cast] theorem k18 : callOk Try.prog 18 = true := by kernel_rfl
@[push_cast] theorem k19 : callOk Try.prog 19 = true := by kernel_rfl
@[push_cast] theorem k20 : callOk Try.prog 20 = true := by kernel_rfl
@[push_cast] theorem k21 : callOk Try.prog 21 = true := by kernel_rfl
@[push_cast] theorem k22 : callOk Try.prog 22 = true := by kernel_rfl
@[push_cast] theorem k23 : callOk Try.prog 23 = true := by kernel_rfl
@[push_cast] theorem k25 : callOk Try.prog 25 = true := by kernel_rfl
@[push_cast] theorem k26 : callOk Try.prog 26 = true := by kernel_rfl
@[push_cast] theorem k27 : callOk Try.prog 27 = true := by kernel_rfl
@[push_cast] theorem k28 : callOk Try.prog 28 = true := by kernel_rfl
@[push_cast] theorem k29 : callOk Try.prog 29 = true := by kernel_rfl
@[push_cast] theorem k30 : callOk Try.prog 30 = true := by kernel_rfl
@[push_cast] theorem k31 : callOk Try.prog 31 = true := by kernel_rfl
@[push_cast] theorem k32 : callOk Try.prog 32 = true := by kernel_rfl
@[push_cast] theorem k33 : callOk Try.prog 33 = true := by kernel_rfl
@[push_cast] theorem k34 : callOk Try.prog 34 = true := by kernel_rfl
@[push_cast] theorem k35 : callOk Try.prog 35 = true := by kernel_rfl
@[push_cast] theorem k36 : callOk Try.prog 36 = true := by kernel_rfl
@[push_cast] theorem k37 : callOk Try.prog 37 = true := by kernel_rfl
@[push_cast] theorem k38 : callOk Try.prog 38 = true := by kernel_rfl
@[push_cast] theorem k39 : callOk Try.prog 39 = true := by kernel_rfl
@[push_cast] theorem k40 : callOk Try.prog 40 = true := by kernel_rfl
@[push_cast] theorem k41 : callOk Try.prog 41 = true := by kernel_rfl
@[push_cast] theorem k42 : callOk Try.prog 42 = true := by kernel_rfl
@[push_cast] theorem k43 : callOk Try.prog 43 = true := by kernel_rfl
@[push_cast] theorem k44 : callOk Try.prog 44 = true := by kernel_rfl
@[push_cast] theorem k45 : callOk Try.prog 45 = true := by kernel_rfl
@[push_cast] theorem k46 : callOk Try.prog 46 = true := by kernel_rfl
@[push_cast] theorem k47 : callOk Try.prog 47 = true := by kernel_rfl
@[push_cast] theorem k48 : callOk Try.prog 48 = true := by kernel_rfl
@[push_cast] theorem k49 : callOk Try.prog 49 = true := by kernel_rfl
@[push_cast] theorem k50 : callOk Try.prog 50 = true := by kernel_rfl
@[push_cast] theorem k51 : callOk Try.prog 51 = true := by kernel_rfl
@[push_cast] theorem k52 : callOk Try.prog 52 = true := by kernel_rfl
@[push_cast] theorem k53 : callOk Try.prog 53 = true := by kernel_rfl
@[push_cast] theorem k54 : callOk Try.prog 54 = true := by kernel_rfl
@[push_cast] theorem k55 : callOk Try.prog 55 = true := by kernel_rfl
@[push_cast] theorem k56 : callOk Try.prog 56 = true := by kernel_rfl
@[push_cast] theorem k57 : callOk Try.prog 57 = true := by kernel_rfl
@[push_cast] theorem k58 : callOk Try.prog 58 = true := by kernel_rfl
@[push_cast] theorem k59 : callOk Try.prog 59 = true := by kernel_rfl
@[push_cast] theorem k60 : callOk Try.prog 60 = true := by kernel_rfl
@[push_cast] theorem k61 : callOk Try.prog 61 = true := by kernel_rfl
@[push_cast] theorem k62 : callOk Try.prog 62 = true := by kernel_rfl
@[push_cast] theorem k63 : callOk Try.prog 63 = true := by kernel_rfl
@[push_cast] theorem k83 : callOk Try.prog 83 = true := by kernel_rfl
@[push_cast] theorem mix : Try.prog.follows .mixedOrders = true := by kernel_rfl
end Go.Proofs.Try.F
