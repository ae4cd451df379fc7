/- Facts about the program's types: made by wip/ot/facts.py. -/
import Derived.Test.YtbpponebopnfaaaProg
import Derived.Test.YtbpponebopnfaaaOtDo
set_option linter.unusedVariables false
namespace Go.Proofs.Try.F
open Go Go.Proofs Go.Ot
@[push_cast] theorem c1 : Try.prog.cellsOf 1 = 1 := by kernel_rfl
@[push_cast] theorem g1 : isAggB Try.prog 1 = false := by kernel_rfl
@[push_cast] theorem s1 : (Try.prog.underlying 1).isSome = true := by kernel_rfl
@[push_cast] theorem i1 : (Try.prog.info? 1).isSome = true := by kernel_rfl
@[push_cast] theorem m1 : concreteB Try.prog 1 = true := by kernel_rfl
@[push_cast] theorem a1 : elemOk Try.prog 1 = true := by kernel_rfl
@[push_cast] theorem b1 : bytesOf Try.prog 1 = 8 := by kernel_rfl
@[push_cast] theorem z1 : zeroD Try.prog 1 = some ([.t (.v .nilFunc)]) := by kernel_rfl
@[push_cast] theorem c2 : Try.prog.cellsOf 2 = 1 := by kernel_rfl
@[push_cast] theorem g2 : isAggB Try.prog 2 = false := by kernel_rfl
@[push_cast] theorem s2 : (Try.prog.underlying 2).isSome = true := by kernel_rfl
@[push_cast] theorem i2 : (Try.prog.info? 2).isSome = true := by kernel_rfl
@[push_cast] theorem m2 : concreteB Try.prog 2 = true := by kernel_rfl
@[push_cast] theorem a2 : elemOk Try.prog 2 = true := by kernel_rfl
@[push_cast] theorem b2 : bytesOf Try.prog 2 = 8 := by kernel_rfl
@[push_cast] theorem z2 : zeroD Try.prog 2 = some ([.t (.v (.int .i64 0))]) := by kernel_rfl
@[push_cast] theorem u2 : Try.prog.underlying 2 = some (.int .i64) := by kernel_rfl
@[push_cast] theorem c3 : Try.prog.cellsOf 3 = 1 := by kernel_rfl
@[push_cast] theorem g3 : isAggB Try.prog 3 = false := by kernel_rfl
@[push_cast] theorem s3 : (Try.prog.underlying 3).isSome = true := by kernel_rfl
@[push_cast] theorem i3 : (Try.prog.info? 3).isSome = true := by kernel_rfl
@[push_cast] theorem m3 : concreteB Try.prog 3 = true := by kernel_rfl
@[push_cast] theorem a3 : elemOk Try.prog 3 = true := by kernel_rfl
@[push_cast] theorem b3 : bytesOf Try.prog 3 = 8 := by kernel_rfl
@[push_cast] theorem z3 : zeroD Try.prog 3 = some ([.t (.v (.int .i64 0))]) := by kernel_rfl
@[push_cast] theorem u3 : Try.prog.underlying 3 = some (.int .i64) := by kernel_rfl
@[push_cast] theorem c4 : Try.prog.cellsOf 4 = 1 := by kernel_rfl
@[push_cast] theorem g4 : isAggB Try.prog 4 = false := by kernel_rfl
@[push_cast] theorem s4 : (Try.prog.underlying 4).isSome = true := by kernel_rfl
@[push_cast] theorem i4 : (Try.prog.info? 4).isSome = true := by kernel_rfl
@[push_cast] theorem m4 : concreteB Try.prog 4 = true := by kernel_rfl
@[push_cast] theorem a4 : elemOk Try.prog 4 = true := by kernel_rfl
@[push_cast] theorem b4 : bytesOf Try.prog 4 = 1 := by kernel_rfl
@[push_cast] theorem z4 : zeroD Try.prog 4 = some ([.t (.v (.bool false))]) := by kernel_rfl
@[push_cast] theorem u4 : Try.prog.underlying 4 = some .bool := by kernel_rfl
@[push_cast] theorem c5 : Try.prog.cellsOf 5 = 1 := by kernel_rfl
@[push_cast] theorem g5 : isAggB Try.prog 5 = false := by kernel_rfl
@[push_cast] theorem s5 : (Try.prog.underlying 5).isSome = true := by kernel_rfl
@[push_cast] theorem i5 : (Try.prog.info? 5).isSome = true := by kernel_rfl
@[push_cast] theorem m5 : concreteB Try.prog 5 = true := by kernel_rfl
@[push_cast] theorem a5 : elemOk Try.prog 5 = true := by kernel_rfl
@[push_cast] theorem b5 : bytesOf Try.prog 5 = 1 := by kernel_rfl
@[push_cast] theorem z5 : zeroD Try.prog 5 = some ([.t (.v (.int .u8 0))]) := by kernel_rfl
@[push_cast] theorem u5 : Try.prog.underlying 5 = some (.int .u8) := by kernel_rfl
@[push_cast] theorem c6 : Try.prog.cellsOf 6 = 1 := by kernel_rfl
@[push_cast] theorem g6 : isAggB Try.prog 6 = false := by kernel_rfl
@[push_cast] theorem s6 : (Try.prog.underlying 6).isSome = true := by kernel_rfl
@[push_cast] theorem i6 : (Try.prog.info? 6).isSome = true := by kernel_rfl
@[push_cast] theorem m6 : concreteB Try.prog 6 = true := by kernel_rfl
@[push_cast] theorem a6 : elemOk Try.prog 6 = true := by kernel_rfl
@[push_cast] theorem b6 : bytesOf Try.prog 6 = 1 := by kernel_rfl
@[push_cast] theorem z6 : zeroD Try.prog 6 = some ([.t (.v (.int .u8 0))]) := by kernel_rfl
@[push_cast] theorem u6 : Try.prog.underlying 6 = some (.int .u8) := by kernel_rfl
@[push_cast] theorem c7 : Try.prog.cellsOf 7 = 4 := by kernel_rfl
@[push_cast] theorem g7 : isAggB Try.prog 7 = true := by kernel_rfl
@[push_cast] theorem s7 : (Try.prog.underlying 7).isSome = true := by kernel_rfl
@[push_cast] theorem i7 : (Try.prog.info? 7).isSome = true := by kernel_rfl
@[push_cast] theorem m7 : concreteB Try.prog 7 = true := by kernel_rfl
@[push_cast] theorem a7 : elemOk Try.prog 7 = true := by kernel_rfl
@[push_cast] theorem b7 : bytesOf Try.prog 7 = 24 := by kernel_rfl
@[push_cast] theorem z7 : zeroD Try.prog 7 = some ([.t (.v (.int .i64 0)), .t (.v (.int .i64 0)), .t (.v (.bool false)), .t (.v (.int .u8 0))]) := by kernel_rfl
@[push_cast] theorem f7_0 : fieldOf Try.prog 7 0 = some (0, 1, 2) := by kernel_rfl
@[push_cast] theorem q7_0 : placeOf Try.prog 7 0 = some (0, 1) := by kernel_rfl
@[push_cast] theorem f7_1 : fieldOf Try.prog 7 1 = some (1, 1, 3) := by kernel_rfl
@[push_cast] theorem q7_1 : placeOf Try.prog 7 1 = some (1, 1) := by kernel_rfl
@[push_cast] theorem f7_2 : fieldOf Try.prog 7 2 = some (2, 1, 4) := by kernel_rfl
@[push_cast] theorem q7_2 : placeOf Try.prog 7 2 = some (2, 1) := by kernel_rfl
@[push_cast] theorem f7_3 : fieldOf Try.prog 7 3 = some (3, 1, 6) := by kernel_rfl
@[push_cast] theorem q7_3 : placeOf Try.prog 7 3 = some (3, 1) := by kernel_rfl
@[push_cast] theorem p7 : placesOk Try.prog 7 = true := by kernel_rfl
@[push_cast] theorem c8 : Try.prog.cellsOf 8 = 4 := by kernel_rfl
@[push_cast] theorem g8 : isAggB Try.prog 8 = true := by kernel_rfl
@[push_cast] theorem s8 : (Try.prog.underlying 8).isSome = true := by kernel_rfl
@[push_cast] theorem i8 : (Try.prog.info? 8).isSome = true := by kernel_rfl
@[push_cast] theorem m8 : concreteB Try.prog 8 = true := by kernel_rfl
@[push_cast] theorem a8 : elemOk Try.prog 8 = true := by kernel_rfl
@[push_cast] theorem b8 : bytesOf Try.prog 8 = 24 := by kernel_rfl
@[push_cast] theorem z8 : zeroD Try.prog 8 = some ([.t (.v (.int .i64 0)), .t (.v (.int .i64 0)), .t (.v (.bool false)), .t (.v (.int .u8 0))]) := by kernel_rfl
@[push_cast] theorem f8_0 : fieldOf Try.prog 8 0 = some (0, 1, 2) := by kernel_rfl
@[push_cast] theorem q8_0 : placeOf Try.prog 8 0 = some (0, 1) := by kernel_rfl
@[push_cast] theorem f8_1 : fieldOf Try.prog 8 1 = some (1, 1, 3) := by kernel_rfl
@[push_cast] theorem q8_1 : placeOf Try.prog 8 1 = some (1, 1) := by kernel_rfl
@[push_cast] theorem f8_2 : fieldOf Try.prog 8 2 = some (2, 1, 4) := by kernel_rfl
@[push_cast] theorem q8_2 : placeOf Try.prog 8 2 = some (2, 1) := by kernel_rfl
@[push_cast] theorem f8_3 : fieldOf Try.prog 8 3 = some (3, 1, 6) := by kernel_rfl
@[push_cast] theorem q8_3 : placeOf Try.prog 8 3 = some (3, 1) := by kernel_rfl
@[push_cast] theorem p8 : placesOk Try.prog 8 = true := by kernel_rfl
@[push_cast] theorem c9 : Try.prog.cellsOf 9 = 1 := by kernel_rfl
@[push_cast] theorem g9 : isAggB Try.prog 9 = false := by kernel_rfl
@[push_cast] theorem s9 : (Try.prog.underlying 9).isSome = true := by kernel_rfl
@[push_cast] theorem i9 : (Try.prog.info? 9).isSome = true := by kernel_rfl
@[push_cast] theorem m9 : concreteB Try.prog 9 = true := by kernel_rfl
@[push_cast] theorem a9 : elemOk Try.prog 9 = true := by kernel_rfl
@[push_cast] theorem b9 : bytesOf Try.prog 9 = 16 := by kernel_rfl
@[push_cast] theorem z9 : zeroD Try.prog 9 = some ([.t (.v (.string ⟨#[]⟩))]) := by kernel_rfl
@[push_cast] theorem u9 : Try.prog.underlying 9 = some .string := by kernel_rfl
@[push_cast] theorem c10 : Try.prog.cellsOf 10 = 1 := by kernel_rfl
@[push_cast] theorem g10 : isAggB Try.prog 10 = false := by kernel_rfl
@[push_cast] theorem s10 : (Try.prog.underlying 10).isSome = true := by kernel_rfl
@[push_cast] theorem i10 : (Try.prog.info? 10).isSome = true := by kernel_rfl
@[push_cast] theorem m10 : concreteB Try.prog 10 = true := by kernel_rfl
@[push_cast] theorem a10 : elemOk Try.prog 10 = true := by kernel_rfl
@[push_cast] theorem b10 : bytesOf Try.prog 10 = 16 := by kernel_rfl
@[push_cast] theorem z10 : zeroD Try.prog 10 = some ([.t (.v (.string ⟨#[]⟩))]) := by kernel_rfl
@[push_cast] theorem u10 : Try.prog.underlying 10 = some .string := by kernel_rfl
@[push_cast] theorem c11 : Try.prog.cellsOf 11 = 1 := by kernel_rfl
@[push_cast] theorem g11 : isAggB Try.prog 11 = false := by kernel_rfl
@[push_cast] theorem s11 : (Try.prog.underlying 11).isSome = true := by kernel_rfl
@[push_cast] theorem i11 : (Try.prog.info? 11).isSome = true := by kernel_rfl
@[push_cast] theorem m11 : concreteB Try.prog 11 = true := by kernel_rfl
@[push_cast] theorem a11 : elemOk Try.prog 11 = true := by kernel_rfl
@[push_cast] theorem b11 : bytesOf Try.prog 11 = 16 := by kernel_rfl
@[push_cast] theorem z11 : zeroD Try.prog 11 = some ([.t (.v (.string ⟨#[]⟩))]) := by kernel_rfl
@[push_cast] theorem u11 : Try.prog.underlying 11 = some .string := by kernel_rfl
@[push_cast] theorem c12 : Try.prog.cellsOf 12 = 1 := by kernel_rfl
@[push_cast] theorem g12 : isAggB Try.prog 12 = false := by kernel_rfl
@[push_cast] theorem s12 : (Try.prog.underlying 12).isSome = true := by kernel_rfl
@[push_cast] theorem i12 : (Try.prog.info? 12).isSome = true := by kernel_rfl
@[push_cast] theorem m12 : concreteB Try.prog 12 = true := by kernel_rfl
@[push_cast] theorem a12 : elemOk Try.prog 12 = true := by kernel_rfl
@[push_cast] theorem b12 : bytesOf Try.prog 12 = 8 := by kernel_rfl
@[push_cast] theorem z12 : zeroD Try.prog 12 = some ([.t (.v (.int .u64 0))]) := by kernel_rfl
@[push_cast] theorem u12 : Try.prog.underlying 12 = some (.int .u64) := by kernel_rfl
@[push_cast] theorem c13 : Try.prog.cellsOf 13 = 2 := by kernel_rfl
@[push_cast] theorem g13 : isAggB Try.prog 13 = true := by kernel_rfl
@[push_cast] theorem s13 : (Try.prog.underlying 13).isSome = true := by kernel_rfl
@[push_cast] theorem i13 : (Try.prog.info? 13).isSome = true := by kernel_rfl
@[push_cast] theorem m13 : concreteB Try.prog 13 = true := by kernel_rfl
@[push_cast] theorem a13 : elemOk Try.prog 13 = true := by kernel_rfl
@[push_cast] theorem b13 : bytesOf Try.prog 13 = 24 := by kernel_rfl
@[push_cast] theorem z13 : zeroD Try.prog 13 = some ([.t (.v (.string ⟨#[]⟩)), .t (.v (.int .u64 0))]) := by kernel_rfl
@[push_cast] theorem f13_0 : fieldOf Try.prog 13 0 = some (0, 1, 9) := by kernel_rfl
@[push_cast] theorem q13_0 : placeOf Try.prog 13 0 = some (0, 1) := by kernel_rfl
@[push_cast] theorem f13_1 : fieldOf Try.prog 13 1 = some (1, 1, 12) := by kernel_rfl
@[push_cast] theorem q13_1 : placeOf Try.prog 13 1 = some (1, 1) := by kernel_rfl
@[push_cast] theorem p13 : placesOk Try.prog 13 = true := by kernel_rfl
@[push_cast] theorem c14 : Try.prog.cellsOf 14 = 2 := by kernel_rfl
@[push_cast] theorem g14 : isAggB Try.prog 14 = true := by kernel_rfl
@[push_cast] theorem s14 : (Try.prog.underlying 14).isSome = true := by kernel_rfl
@[push_cast] theorem i14 : (Try.prog.info? 14).isSome = true := by kernel_rfl
@[push_cast] theorem m14 : concreteB Try.prog 14 = true := by kernel_rfl
@[push_cast] theorem a14 : elemOk Try.prog 14 = true := by kernel_rfl
@[push_cast] theorem b14 : bytesOf Try.prog 14 = 24 := by kernel_rfl
@[push_cast] theorem z14 : zeroD Try.prog 14 = some ([.t (.v (.string ⟨#[]⟩)), .t (.v (.int .u64 0))]) := by kernel_rfl
@[push_cast] theorem f14_0 : fieldOf Try.prog 14 0 = some (0, 1, 9) := by kernel_rfl
@[push_cast] theorem q14_0 : placeOf Try.prog 14 0 = some (0, 1) := by kernel_rfl
@[push_cast] theorem f14_1 : fieldOf Try.prog 14 1 = some (1, 1, 12) := by kernel_rfl
@[push_cast] theorem q14_1 : placeOf Try.prog 14 1 = some (1, 1) := by kernel_rfl
@[push_cast] theorem p14 : placesOk Try.prog 14 = true := by kernel_rfl
@[push_cast] theorem c15 : Try.prog.cellsOf 15 = 1 := by kernel_rfl
@[push_cast] theorem g15 : isAggB Try.prog 15 = false := by kernel_rfl
@[push_cast] theorem s15 : (Try.prog.underlying 15).isSome = true := by kernel_rfl
@[push_cast] theorem i15 : (Try.prog.info? 15).isSome = true := by kernel_rfl
@[push_cast] theorem m15 : concreteB Try.prog 15 = true := by kernel_rfl
@[push_cast] theorem a15 : elemOk Try.prog 15 = true := by kernel_rfl
@[push_cast] theorem b15 : bytesOf Try.prog 15 = 8 := by kernel_rfl
@[push_cast] theorem z15 : zeroD Try.prog 15 = some ([.t (.v (.pointer none))]) := by kernel_rfl
@[push_cast] theorem c16 : Try.prog.cellsOf 16 = 1 := by kernel_rfl
@[push_cast] theorem g16 : isAggB Try.prog 16 = false := by kernel_rfl
@[push_cast] theorem s16 : (Try.prog.underlying 16).isSome = true := by kernel_rfl
@[push_cast] theorem i16 : (Try.prog.info? 16).isSome = true := by kernel_rfl
@[push_cast] theorem m16 : concreteB Try.prog 16 = true := by kernel_rfl
@[push_cast] theorem a16 : elemOk Try.prog 16 = true := by kernel_rfl
@[push_cast] theorem b16 : bytesOf Try.prog 16 = 8 := by kernel_rfl
@[push_cast] theorem z16 : zeroD Try.prog 16 = some ([.t (.v (.pointer none))]) := by kernel_rfl
@[push_cast] theorem c17 : Try.prog.cellsOf 17 = 1 := by kernel_rfl
@[push_cast] theorem g17 : isAggB Try.prog 17 = false := by kernel_rfl
@[push_cast] theorem s17 : (Try.prog.underlying 17).isSome = true := by kernel_rfl
@[push_cast] theorem i17 : (Try.prog.info? 17).isSome = true := by kernel_rfl
@[push_cast] theorem m17 : concreteB Try.prog 17 = true := by kernel_rfl
@[push_cast] theorem a17 : elemOk Try.prog 17 = true := by kernel_rfl
@[push_cast] theorem b17 : bytesOf Try.prog 17 = 8 := by kernel_rfl
@[push_cast] theorem z17 : zeroD Try.prog 17 = some ([.t (.v (.pointer none))]) := by kernel_rfl
@[push_cast] theorem c18 : Try.prog.cellsOf 18 = 1 := by kernel_rfl
@[push_cast] theorem g18 : isAggB Try.prog 18 = true := by kernel_rfl
@[push_cast] theorem s18 : (Try.prog.underlying 18).isSome = true := by kernel_rfl
@[push_cast] theorem i18 : (Try.prog.info? 18).isSome = true := by kernel_rfl
@[push_cast] theorem m18 : concreteB Try.prog 18 = true := by kernel_rfl
@[push_cast] theorem a18 : elemOk Try.prog 18 = true := by kernel_rfl
@[push_cast] theorem b18 : bytesOf Try.prog 18 = 8 := by kernel_rfl
@[push_cast] theorem z18 : zeroD Try.prog 18 = some ([.t (.v (.pointer none))]) := by kernel_rfl
@[push_cast] theorem f18_0 : fieldOf Try.prog 18 0 = some (0, 1, 17) := by kernel_rfl
@[push_cast] theorem q18_0 : placeOf Try.prog 18 0 = some (0, 1) := by kernel_rfl
@[push_cast] theorem p18 : placesOk Try.prog 18 = true := by kernel_rfl
@[push_cast] theorem c19 : Try.prog.cellsOf 19 = 1 := by kernel_rfl
@[push_cast] theorem g19 : isAggB Try.prog 19 = true := by kernel_rfl
@[push_cast] theorem s19 : (Try.prog.underlying 19).isSome = true := by kernel_rfl
@[push_cast] theorem i19 : (Try.prog.info? 19).isSome = true := by kernel_rfl
@[push_cast] theorem m19 : concreteB Try.prog 19 = true := by kernel_rfl
@[push_cast] theorem a19 : elemOk Try.prog 19 = true := by kernel_rfl
@[push_cast] theorem b19 : bytesOf Try.prog 19 = 8 := by kernel_rfl
@[push_cast] theorem z19 : zeroD Try.prog 19 = some ([.t (.v (.pointer none))]) := by kernel_rfl
@[push_cast] theorem f19_0 : fieldOf Try.prog 19 0 = some (0, 1, 17) := by kernel_rfl
@[push_cast] theorem q19_0 : placeOf Try.prog 19 0 = some (0, 1) := by kernel_rfl
@[push_cast] theorem p19 : placesOk Try.prog 19 = true := by kernel_rfl
@[push_cast] theorem c20 : Try.prog.cellsOf 20 = 1 := by kernel_rfl
@[push_cast] theorem g20 : isAggB Try.prog 20 = false := by kernel_rfl
@[push_cast] theorem s20 : (Try.prog.underlying 20).isSome = true := by kernel_rfl
@[push_cast] theorem i20 : (Try.prog.info? 20).isSome = true := by kernel_rfl
@[push_cast] theorem a20 : elemOk Try.prog 20 = true := by kernel_rfl
@[push_cast] theorem b20 : bytesOf Try.prog 20 = 16 := by kernel_rfl
@[push_cast] theorem z20 : zeroD Try.prog 20 = some ([.t (.v .nilIface)]) := by kernel_rfl
@[push_cast] theorem u20 : Try.prog.underlying 20 = some (.interface (Try.prog.methodsAt 20)) := by kernel_rfl
@[push_cast] theorem c21 : Try.prog.cellsOf 21 = 1 := by kernel_rfl
@[push_cast] theorem g21 : isAggB Try.prog 21 = false := by kernel_rfl
@[push_cast] theorem s21 : (Try.prog.underlying 21).isSome = true := by kernel_rfl
@[push_cast] theorem i21 : (Try.prog.info? 21).isSome = true := by kernel_rfl
@[push_cast] theorem m21 : concreteB Try.prog 21 = true := by kernel_rfl
@[push_cast] theorem a21 : elemOk Try.prog 21 = true := by kernel_rfl
@[push_cast] theorem b21 : bytesOf Try.prog 21 = 4 := by kernel_rfl
@[push_cast] theorem z21 : zeroD Try.prog 21 = some ([.t (.v (.int .i32 0))]) := by kernel_rfl
@[push_cast] theorem u21 : Try.prog.underlying 21 = some (.int .i32) := by kernel_rfl
@[push_cast] theorem c22 : Try.prog.cellsOf 22 = 1 := by kernel_rfl
@[push_cast] theorem g22 : isAggB Try.prog 22 = false := by kernel_rfl
@[push_cast] theorem s22 : (Try.prog.underlying 22).isSome = true := by kernel_rfl
@[push_cast] theorem i22 : (Try.prog.info? 22).isSome = true := by kernel_rfl
@[push_cast] theorem m22 : concreteB Try.prog 22 = true := by kernel_rfl
@[push_cast] theorem a22 : elemOk Try.prog 22 = true := by kernel_rfl
@[push_cast] theorem b22 : bytesOf Try.prog 22 = 24 := by kernel_rfl
@[push_cast] theorem z22 : zeroD Try.prog 22 = some ([.t (.v (.slice none 0 0))]) := by kernel_rfl
@[push_cast] theorem u22 : Try.prog.underlying 22 = some (.slice 9) := by kernel_rfl
@[push_cast] theorem e22 : Try.prog.elem 22 = 9 := by kernel_rfl
@[push_cast] theorem c23 : Try.prog.cellsOf 23 = 2 := by kernel_rfl
@[push_cast] theorem g23 : isAggB Try.prog 23 = true := by kernel_rfl
@[push_cast] theorem s23 : (Try.prog.underlying 23).isSome = true := by kernel_rfl
@[push_cast] theorem i23 : (Try.prog.info? 23).isSome = true := by kernel_rfl
@[push_cast] theorem m23 : concreteB Try.prog 23 = true := by kernel_rfl
@[push_cast] theorem a23 : elemOk Try.prog 23 = true := by kernel_rfl
@[push_cast] theorem b23 : bytesOf Try.prog 23 = 32 := by kernel_rfl
@[push_cast] theorem z23 : zeroD Try.prog 23 = some ([.t (.v (.int .i64 0)), .t (.v (.slice none 0 0))]) := by kernel_rfl
@[push_cast] theorem f23_0 : fieldOf Try.prog 23 0 = some (0, 1, 3) := by kernel_rfl
@[push_cast] theorem q23_0 : placeOf Try.prog 23 0 = some (0, 1) := by kernel_rfl
@[push_cast] theorem f23_1 : fieldOf Try.prog 23 1 = some (1, 1, 22) := by kernel_rfl
@[push_cast] theorem q23_1 : placeOf Try.prog 23 1 = some (1, 1) := by kernel_rfl
@[push_cast] theorem p23 : placesOk Try.prog 23 = true := by kernel_rfl
@[push_cast] theorem c24 : Try.prog.cellsOf 24 = 2 := by kernel_rfl
@[push_cast] theorem g24 : isAggB Try.prog 24 = true := by kernel_rfl
@[push_cast] theorem s24 : (Try.prog.underlying 24).isSome = true := by kernel_rfl
@[push_cast] theorem i24 : (Try.prog.info? 24).isSome = true := by kernel_rfl
@[push_cast] theorem m24 : concreteB Try.prog 24 = true := by kernel_rfl
@[push_cast] theorem a24 : elemOk Try.prog 24 = true := by kernel_rfl
@[push_cast] theorem b24 : bytesOf Try.prog 24 = 32 := by kernel_rfl
@[push_cast] theorem z24 : zeroD Try.prog 24 = some ([.t (.v (.int .i64 0)), .t (.v (.slice none 0 0))]) := by kernel_rfl
@[push_cast] theorem f24_0 : fieldOf Try.prog 24 0 = some (0, 1, 3) := by kernel_rfl
@[push_cast] theorem q24_0 : placeOf Try.prog 24 0 = some (0, 1) := by kernel_rfl
@[push_cast] theorem f24_1 : fieldOf Try.prog 24 1 = some (1, 1, 22) := by kernel_rfl
@[push_cast] theorem q24_1 : placeOf Try.prog 24 1 = some (1, 1) := by kernel_rfl
@[push_cast] theorem p24 : placesOk Try.prog 24 = true := by kernel_rfl
@[push_cast] theorem c25 : Try.prog.cellsOf 25 = 1 := by kernel_rfl
@[push_cast] theorem g25 : isAggB Try.prog 25 = false := by kernel_rfl
@[push_cast] theorem s25 : (Try.prog.underlying 25).isSome = true := by kernel_rfl
@[push_cast] theorem i25 : (Try.prog.info? 25).isSome = true := by kernel_rfl
@[push_cast] theorem m25 : concreteB Try.prog 25 = true := by kernel_rfl
@[push_cast] theorem a25 : elemOk Try.prog 25 = true := by kernel_rfl
@[push_cast] theorem b25 : bytesOf Try.prog 25 = 8 := by kernel_rfl
@[push_cast] theorem z25 : zeroD Try.prog 25 = some ([.t (.v .nilFunc)]) := by kernel_rfl
@[push_cast] theorem c26 : Try.prog.cellsOf 26 = 1 := by kernel_rfl
@[push_cast] theorem g26 : isAggB Try.prog 26 = false := by kernel_rfl
@[push_cast] theorem s26 : (Try.prog.underlying 26).isSome = true := by kernel_rfl
@[push_cast] theorem i26 : (Try.prog.info? 26).isSome = true := by kernel_rfl
@[push_cast] theorem m26 : concreteB Try.prog 26 = true := by kernel_rfl
@[push_cast] theorem a26 : elemOk Try.prog 26 = true := by kernel_rfl
@[push_cast] theorem b26 : bytesOf Try.prog 26 = 8 := by kernel_rfl
@[push_cast] theorem z26 : zeroD Try.prog 26 = some ([.t (.v .nilFunc)]) := by kernel_rfl
@[push_cast] theorem c27 : Try.prog.cellsOf 27 = 1 := by kernel_rfl
@[push_cast] theorem g27 : isAggB Try.prog 27 = false := by kernel_rfl
@[push_cast] theorem s27 : (Try.prog.underlying 27).isSome = true := by kernel_rfl
@[push_cast] theorem i27 : (Try.prog.info? 27).isSome = true := by kernel_rfl
@[push_cast] theorem m27 : concreteB Try.prog 27 = true := by kernel_rfl
@[push_cast] theorem a27 : elemOk Try.prog 27 = true := by kernel_rfl
@[push_cast] theorem b27 : bytesOf Try.prog 27 = 8 := by kernel_rfl
@[push_cast] theorem z27 : zeroD Try.prog 27 = some ([.t (.v (.int .i64 0))]) := by kernel_rfl
@[push_cast] theorem u27 : Try.prog.underlying 27 = some (.int .i64) := by kernel_rfl
@[push_cast] theorem c29 : Try.prog.cellsOf 29 = 1 := by kernel_rfl
@[push_cast] theorem g29 : isAggB Try.prog 29 = false := by kernel_rfl
@[push_cast] theorem s29 : (Try.prog.underlying 29).isSome = true := by kernel_rfl
@[push_cast] theorem i29 : (Try.prog.info? 29).isSome = true := by kernel_rfl
@[push_cast] theorem m29 : concreteB Try.prog 29 = true := by kernel_rfl
@[push_cast] theorem a29 : elemOk Try.prog 29 = true := by kernel_rfl
@[push_cast] theorem b29 : bytesOf Try.prog 29 = 8 := by kernel_rfl
@[push_cast] theorem z29 : zeroD Try.prog 29 = some ([.t (.v .nilFunc)]) := by kernel_rfl
@[push_cast] theorem c31 : Try.prog.cellsOf 31 = 1 := by kernel_rfl
@[push_cast] theorem g31 : isAggB Try.prog 31 = false := by kernel_rfl
@[push_cast] theorem s31 : (Try.prog.underlying 31).isSome = true := by kernel_rfl
@[push_cast] theorem i31 : (Try.prog.info? 31).isSome = true := by kernel_rfl
@[push_cast] theorem m31 : concreteB Try.prog 31 = true := by kernel_rfl
@[push_cast] theorem a31 : elemOk Try.prog 31 = true := by kernel_rfl
@[push_cast] theorem b31 : bytesOf Try.prog 31 = 8 := by kernel_rfl
@[push_cast] theorem z31 : zeroD Try.prog 31 = some ([.t (.v .nilFunc)]) := by kernel_rfl
@[push_cast] theorem c33 : Try.prog.cellsOf 33 = 1 := by kernel_rfl
@[push_cast] theorem g33 : isAggB Try.prog 33 = false := by kernel_rfl
@[push_cast] theorem s33 : (Try.prog.underlying 33).isSome = true := by kernel_rfl
@[push_cast] theorem i33 : (Try.prog.info? 33).isSome = true := by kernel_rfl
@[push_cast] theorem m33 : concreteB Try.prog 33 = true := by kernel_rfl
@[push_cast] theorem a33 : elemOk Try.prog 33 = true := by kernel_rfl
@[push_cast] theorem b33 : bytesOf Try.prog 33 = 8 := by kernel_rfl
@[push_cast] theorem z33 : zeroD Try.prog 33 = some ([.t (.v .nilFunc)]) := by kernel_rfl
@[push_cast] theorem c34 : Try.prog.cellsOf 34 = 1 := by kernel_rfl
@[push_cast] theorem g34 : isAggB Try.prog 34 = false := by kernel_rfl
@[push_cast] theorem s34 : (Try.prog.underlying 34).isSome = true := by kernel_rfl
@[push_cast] theorem i34 : (Try.prog.info? 34).isSome = true := by kernel_rfl
@[push_cast] theorem m34 : concreteB Try.prog 34 = true := by kernel_rfl
@[push_cast] theorem a34 : elemOk Try.prog 34 = true := by kernel_rfl
@[push_cast] theorem b34 : bytesOf Try.prog 34 = 8 := by kernel_rfl
@[push_cast] theorem z34 : zeroD Try.prog 34 = some ([.t (.v .nilFunc)]) := by kernel_rfl
@[push_cast] theorem c35 : Try.prog.cellsOf 35 = 1 := by kernel_rfl
@[push_cast] theorem g35 : isAggB Try.prog 35 = false := by kernel_rfl
@[push_cast] theorem s35 : (Try.prog.underlying 35).isSome = true := by kernel_rfl
@[push_cast] theorem i35 : (Try.prog.info? 35).isSome = true := by kernel_rfl
@[push_cast] theorem m35 : concreteB Try.prog 35 = true := by kernel_rfl
@[push_cast] theorem a35 : elemOk Try.prog 35 = true := by kernel_rfl
@[push_cast] theorem b35 : bytesOf Try.prog 35 = 8 := by kernel_rfl
@[push_cast] theorem z35 : zeroD Try.prog 35 = some ([.t (.v .nilFunc)]) := by kernel_rfl
@[push_cast] theorem c36 : Try.prog.cellsOf 36 = 1 := by kernel_rfl
@[push_cast] theorem g36 : isAggB Try.prog 36 = false := by kernel_rfl
@[push_cast] theorem s36 : (Try.prog.underlying 36).isSome = true := by kernel_rfl
@[push_cast] theorem i36 : (Try.prog.info? 36).isSome = true := by kernel_rfl
@[push_cast] theorem m36 : concreteB Try.prog 36 = true := by kernel_rfl
@[push_cast] theorem a36 : elemOk Try.prog 36 = true := by kernel_rfl
@[push_cast] theorem b36 : bytesOf Try.prog 36 = 8 := by kernel_rfl
@[push_cast] theorem z36 : zeroD Try.prog 36 = some ([.t (.v .nilFunc)]) := by kernel_rfl
@[push_cast] theorem c37 : Try.prog.cellsOf 37 = 1 := by kernel_rfl
@[push_cast] theorem g37 : isAggB Try.prog 37 = false := by kernel_rfl
@[push_cast] theorem s37 : (Try.prog.underlying 37).isSome = true := by kernel_rfl
@[push_cast] theorem i37 : (Try.prog.info? 37).isSome = true := by kernel_rfl
@[push_cast] theorem m37 : concreteB Try.prog 37 = true := by kernel_rfl
@[push_cast] theorem a37 : elemOk Try.prog 37 = true := by kernel_rfl
@[push_cast] theorem b37 : bytesOf Try.prog 37 = 8 := by kernel_rfl
@[push_cast] theorem z37 : zeroD Try.prog 37 = some ([.t (.v .nilFunc)]) := by kernel_rfl
@[push_cast] theorem c38 : Try.prog.cellsOf 38 = 1 := by kernel_rfl
@[push_cast] theorem g38 : isAggB Try.prog 38 = false := by kernel_rfl
@[push_cast] theorem s38 : (Try.prog.underlying 38).isSome = true := by kernel_rfl
@[push_cast] theorem i38 : (Try.prog.info? 38).isSome = true := by kernel_rfl
@[push_cast] theorem m38 : concreteB Try.prog 38 = true := by kernel_rfl
@[push_cast] theorem a38 : elemOk Try.prog 38 = true := by kernel_rfl
@[push_cast] theorem b38 : bytesOf Try.prog 38 = 8 := by kernel_rfl
@[push_cast] theorem z38 : zeroD Try.prog 38 = some ([.t (.v .nilFunc)]) := by kernel_rfl
@[push_cast] theorem c39 : Try.prog.cellsOf 39 = 1 := by kernel_rfl
@[push_cast] theorem g39 : isAggB Try.prog 39 = false := by kernel_rfl
@[push_cast] theorem s39 : (Try.prog.underlying 39).isSome = true := by kernel_rfl
@[push_cast] theorem i39 : (Try.prog.info? 39).isSome = true := by kernel_rfl
@[push_cast] theorem m39 : concreteB Try.prog 39 = true := by kernel_rfl
@[push_cast] theorem a39 : elemOk Try.prog 39 = true := by kernel_rfl
@[push_cast] theorem b39 : bytesOf Try.prog 39 = 24 := by kernel_rfl
@[push_cast] theorem z39 : zeroD Try.prog 39 = some ([.t (.v (.slice none 0 0))]) := by kernel_rfl
@[push_cast] theorem u39 : Try.prog.underlying 39 = some (.slice 40) := by kernel_rfl
@[push_cast] theorem e39 : Try.prog.elem 39 = 40 := by kernel_rfl
@[push_cast] theorem c40 : Try.prog.cellsOf 40 = 1 := by kernel_rfl
@[push_cast] theorem g40 : isAggB Try.prog 40 = false := by kernel_rfl
@[push_cast] theorem s40 : (Try.prog.underlying 40).isSome = true := by kernel_rfl
@[push_cast] theorem i40 : (Try.prog.info? 40).isSome = true := by kernel_rfl
@[push_cast] theorem m40 : concreteB Try.prog 40 = true := by kernel_rfl
@[push_cast] theorem a40 : elemOk Try.prog 40 = true := by kernel_rfl
@[push_cast] theorem b40 : bytesOf Try.prog 40 = 2 := by kernel_rfl
@[push_cast] theorem z40 : zeroD Try.prog 40 = some ([.t (.v (.int .u16 0))]) := by kernel_rfl
@[push_cast] theorem u40 : Try.prog.underlying 40 = some (.int .u16) := by kernel_rfl
@[push_cast] theorem c41 : Try.prog.cellsOf 41 = 1 := by kernel_rfl
@[push_cast] theorem g41 : isAggB Try.prog 41 = false := by kernel_rfl
@[push_cast] theorem s41 : (Try.prog.underlying 41).isSome = true := by kernel_rfl
@[push_cast] theorem i41 : (Try.prog.info? 41).isSome = true := by kernel_rfl
@[push_cast] theorem m41 : concreteB Try.prog 41 = true := by kernel_rfl
@[push_cast] theorem a41 : elemOk Try.prog 41 = true := by kernel_rfl
@[push_cast] theorem b41 : bytesOf Try.prog 41 = 8 := by kernel_rfl
@[push_cast] theorem z41 : zeroD Try.prog 41 = some ([.t (.v .nilFunc)]) := by kernel_rfl
@[push_cast] theorem c42 : Try.prog.cellsOf 42 = 1 := by kernel_rfl
@[push_cast] theorem g42 : isAggB Try.prog 42 = false := by kernel_rfl
@[push_cast] theorem s42 : (Try.prog.underlying 42).isSome = true := by kernel_rfl
@[push_cast] theorem i42 : (Try.prog.info? 42).isSome = true := by kernel_rfl
@[push_cast] theorem m42 : concreteB Try.prog 42 = true := by kernel_rfl
@[push_cast] theorem a42 : elemOk Try.prog 42 = true := by kernel_rfl
@[push_cast] theorem b42 : bytesOf Try.prog 42 = 8 := by kernel_rfl
@[push_cast] theorem z42 : zeroD Try.prog 42 = some ([.t (.v .nilFunc)]) := by kernel_rfl
@[push_cast] theorem c43 : Try.prog.cellsOf 43 = 1 := by kernel_rfl
@[push_cast] theorem g43 : isAggB Try.prog 43 = false := by kernel_rfl
@[push_cast] theorem s43 : (Try.prog.underlying 43).isSome = true := by kernel_rfl
@[push_cast] theorem i43 : (Try.prog.info? 43).isSome = true := by kernel_rfl
@[push_cast] theorem m43 : concreteB Try.prog 43 = true := by kernel_rfl
@[push_cast] theorem a43 : elemOk Try.prog 43 = true := by kernel_rfl
@[push_cast] theorem b43 : bytesOf Try.prog 43 = 8 := by kernel_rfl
@[push_cast] theorem z43 : zeroD Try.prog 43 = some ([.t (.v .nilFunc)]) := by kernel_rfl
@[push_cast] theorem c44 : Try.prog.cellsOf 44 = 1 := by kernel_rfl
@[push_cast] theorem g44 : isAggB Try.prog 44 = false := by kernel_rfl
@[push_cast] theorem s44 : (Try.prog.underlying 44).isSome = true := by kernel_rfl
@[push_cast] theorem i44 : (Try.prog.info? 44).isSome = true := by kernel_rfl
@[push_cast] theorem m44 : concreteB Try.prog 44 = true := by kernel_rfl
@[push_cast] theorem a44 : elemOk Try.prog 44 = true := by kernel_rfl
@[push_cast] theorem b44 : bytesOf Try.prog 44 = 8 := by kernel_rfl
@[push_cast] theorem z44 : zeroD Try.prog 44 = some ([.t (.v .nilFunc)]) := by kernel_rfl
@[push_cast] theorem c45 : Try.prog.cellsOf 45 = 1 := by kernel_rfl
@[push_cast] theorem g45 : isAggB Try.prog 45 = false := by kernel_rfl
@[push_cast] theorem s45 : (Try.prog.underlying 45).isSome = true := by kernel_rfl
@[push_cast] theorem i45 : (Try.prog.info? 45).isSome = true := by kernel_rfl
@[push_cast] theorem m45 : concreteB Try.prog 45 = true := by kernel_rfl
@[push_cast] theorem a45 : elemOk Try.prog 45 = true := by kernel_rfl
@[push_cast] theorem b45 : bytesOf Try.prog 45 = 8 := by kernel_rfl
@[push_cast] theorem z45 : zeroD Try.prog 45 = some ([.t (.v .nilFunc)]) := by kernel_rfl
@[push_cast] theorem c46 : Try.prog.cellsOf 46 = 1 := by kernel_rfl
@[push_cast] theorem g46 : isAggB Try.prog 46 = false := by kernel_rfl
@[push_cast] theorem s46 : (Try.prog.underlying 46).isSome = true := by kernel_rfl
@[push_cast] theorem i46 : (Try.prog.info? 46).isSome = true := by kernel_rfl
@[push_cast] theorem m46 : concreteB Try.prog 46 = true := by kernel_rfl
@[push_cast] theorem a46 : elemOk Try.prog 46 = true := by kernel_rfl
@[push_cast] theorem b46 : bytesOf Try.prog 46 = 8 := by kernel_rfl
@[push_cast] theorem z46 : zeroD Try.prog 46 = some ([.t (.v (.int .u64 0))]) := by kernel_rfl
@[push_cast] theorem u46 : Try.prog.underlying 46 = some (.int .u64) := by kernel_rfl
@[push_cast] theorem c47 : Try.prog.cellsOf 47 = 1 := by kernel_rfl
@[push_cast] theorem g47 : isAggB Try.prog 47 = false := by kernel_rfl
@[push_cast] theorem s47 : (Try.prog.underlying 47).isSome = true := by kernel_rfl
@[push_cast] theorem i47 : (Try.prog.info? 47).isSome = true := by kernel_rfl
@[push_cast] theorem m47 : concreteB Try.prog 47 = true := by kernel_rfl
@[push_cast] theorem a47 : elemOk Try.prog 47 = true := by kernel_rfl
@[push_cast] theorem b47 : bytesOf Try.prog 47 = 24 := by kernel_rfl
@[push_cast] theorem z47 : zeroD Try.prog 47 = some ([.t (.v (.slice none 0 0))]) := by kernel_rfl
@[push_cast] theorem u47 : Try.prog.underlying 47 = some (.slice 5) := by kernel_rfl
@[push_cast] theorem e47 : Try.prog.elem 47 = 5 := by kernel_rfl
@[push_cast] theorem c48 : Try.prog.cellsOf 48 = 1 := by kernel_rfl
@[push_cast] theorem g48 : isAggB Try.prog 48 = false := by kernel_rfl
@[push_cast] theorem s48 : (Try.prog.underlying 48).isSome = true := by kernel_rfl
@[push_cast] theorem i48 : (Try.prog.info? 48).isSome = true := by kernel_rfl
@[push_cast] theorem m48 : concreteB Try.prog 48 = true := by kernel_rfl
@[push_cast] theorem a48 : elemOk Try.prog 48 = true := by kernel_rfl
@[push_cast] theorem b48 : bytesOf Try.prog 48 = 8 := by kernel_rfl
@[push_cast] theorem z48 : zeroD Try.prog 48 = some ([.t (.v .nilFunc)]) := by kernel_rfl
@[push_cast] theorem c49 : Try.prog.cellsOf 49 = 4 := by kernel_rfl
@[push_cast] theorem g49 : isAggB Try.prog 49 = true := by kernel_rfl
@[push_cast] theorem s49 : (Try.prog.underlying 49).isSome = true := by kernel_rfl
@[push_cast] theorem i49 : (Try.prog.info? 49).isSome = true := by kernel_rfl
@[push_cast] theorem m49 : concreteB Try.prog 49 = true := by kernel_rfl
@[push_cast] theorem a49 : elemOk Try.prog 49 = true := by kernel_rfl
@[push_cast] theorem b49 : bytesOf Try.prog 49 = 40 := by kernel_rfl
@[push_cast] theorem z49 : zeroD Try.prog 49 = some ([.t (.v (.pointer none)), .t (.v (.pointer none)), .t (.v (.pointer none)), .t (.v (.string ⟨#[]⟩))]) := by kernel_rfl
@[push_cast] theorem f49_0 : fieldOf Try.prog 49 0 = some (0, 1, 17) := by kernel_rfl
@[push_cast] theorem q49_0 : placeOf Try.prog 49 0 = some (0, 1) := by kernel_rfl
@[push_cast] theorem f49_1 : fieldOf Try.prog 49 1 = some (1, 1, 17) := by kernel_rfl
@[push_cast] theorem q49_1 : placeOf Try.prog 49 1 = some (1, 1) := by kernel_rfl
@[push_cast] theorem f49_2 : fieldOf Try.prog 49 2 = some (2, 1, 17) := by kernel_rfl
@[push_cast] theorem q49_2 : placeOf Try.prog 49 2 = some (2, 1) := by kernel_rfl
@[push_cast] theorem f49_3 : fieldOf Try.prog 49 3 = some (3, 1, 9) := by kernel_rfl
@[push_cast] theorem q49_3 : placeOf Try.prog 49 3 = some (3, 1) := by kernel_rfl
@[push_cast] theorem p49 : placesOk Try.prog 49 = true := by kernel_rfl
@[push_cast] theorem c50 : Try.prog.cellsOf 50 = 4 := by kernel_rfl
@[push_cast] theorem g50 : isAggB Try.prog 50 = true := by kernel_rfl
@[push_cast] theorem s50 : (Try.prog.underlying 50).isSome = true := by kernel_rfl
@[push_cast] theorem i50 : (Try.prog.info? 50).isSome = true := by kernel_rfl
@[push_cast] theorem m50 : concreteB Try.prog 50 = true := by kernel_rfl
@[push_cast] theorem a50 : elemOk Try.prog 50 = true := by kernel_rfl
@[push_cast] theorem b50 : bytesOf Try.prog 50 = 40 := by kernel_rfl
@[push_cast] theorem z50 : zeroD Try.prog 50 = some ([.t (.v (.pointer none)), .t (.v (.pointer none)), .t (.v (.pointer none)), .t (.v (.string ⟨#[]⟩))]) := by kernel_rfl
@[push_cast] theorem f50_0 : fieldOf Try.prog 50 0 = some (0, 1, 17) := by kernel_rfl
@[push_cast] theorem q50_0 : placeOf Try.prog 50 0 = some (0, 1) := by kernel_rfl
@[push_cast] theorem f50_1 : fieldOf Try.prog 50 1 = some (1, 1, 17) := by kernel_rfl
@[push_cast] theorem q50_1 : placeOf Try.prog 50 1 = some (1, 1) := by kernel_rfl
@[push_cast] theorem f50_2 : fieldOf Try.prog 50 2 = some (2, 1, 17) := by kernel_rfl
@[push_cast] theorem q50_2 : placeOf Try.prog 50 2 = some (2, 1) := by kernel_rfl
@[push_cast] theorem f50_3 : fieldOf Try.prog 50 3 = some (3, 1, 9) := by kernel_rfl
@[push_cast] theorem q50_3 : placeOf Try.prog 50 3 = some (3, 1) := by kernel_rfl
@[push_cast] theorem p50 : placesOk Try.prog 50 = true := by kernel_rfl
@[push_cast] theorem c51 : Try.prog.cellsOf 51 = 0 := by kernel_rfl
@[push_cast] theorem g51 : isAggB Try.prog 51 = true := by kernel_rfl
@[push_cast] theorem s51 : (Try.prog.underlying 51).isSome = true := by kernel_rfl
@[push_cast] theorem i51 : (Try.prog.info? 51).isSome = true := by kernel_rfl
@[push_cast] theorem m51 : concreteB Try.prog 51 = true := by kernel_rfl
@[push_cast] theorem a51 : elemOk Try.prog 51 = true := by kernel_rfl
@[push_cast] theorem b51 : bytesOf Try.prog 51 = 0 := by kernel_rfl
@[push_cast] theorem z51 : zeroD Try.prog 51 = some ([]) := by kernel_rfl
@[push_cast] theorem u51 : Try.prog.underlying 51 = some (.array 0 16) := by kernel_rfl
@[push_cast] theorem e51 : Try.prog.elem 51 = 16 := by kernel_rfl
@[push_cast] theorem l51 : Try.prog.arrayLen 51 = 0 := by kernel_rfl
@[push_cast] theorem p51 : placesOk Try.prog 51 = true := by kernel_rfl
@[push_cast] theorem c52 : Try.prog.cellsOf 52 = 0 := by kernel_rfl
@[push_cast] theorem g52 : isAggB Try.prog 52 = true := by kernel_rfl
@[push_cast] theorem s52 : (Try.prog.underlying 52).isSome = true := by kernel_rfl
@[push_cast] theorem i52 : (Try.prog.info? 52).isSome = true := by kernel_rfl
@[push_cast] theorem m52 : concreteB Try.prog 52 = true := by kernel_rfl
@[push_cast] theorem a52 : elemOk Try.prog 52 = true := by kernel_rfl
@[push_cast] theorem b52 : bytesOf Try.prog 52 = 0 := by kernel_rfl
@[push_cast] theorem z52 : zeroD Try.prog 52 = some ([]) := by kernel_rfl
@[push_cast] theorem f52_0 : fieldOf Try.prog 52 0 = some (0, 0, 51) := by kernel_rfl
@[push_cast] theorem q52_0 : placeOf Try.prog 52 0 = some (0, 0) := by kernel_rfl
@[push_cast] theorem p52 : placesOk Try.prog 52 = true := by kernel_rfl
@[push_cast] theorem c53 : Try.prog.cellsOf 53 = 0 := by kernel_rfl
@[push_cast] theorem g53 : isAggB Try.prog 53 = true := by kernel_rfl
@[push_cast] theorem s53 : (Try.prog.underlying 53).isSome = true := by kernel_rfl
@[push_cast] theorem i53 : (Try.prog.info? 53).isSome = true := by kernel_rfl
@[push_cast] theorem m53 : concreteB Try.prog 53 = true := by kernel_rfl
@[push_cast] theorem a53 : elemOk Try.prog 53 = true := by kernel_rfl
@[push_cast] theorem b53 : bytesOf Try.prog 53 = 0 := by kernel_rfl
@[push_cast] theorem z53 : zeroD Try.prog 53 = some ([]) := by kernel_rfl
@[push_cast] theorem f53_0 : fieldOf Try.prog 53 0 = some (0, 0, 51) := by kernel_rfl
@[push_cast] theorem q53_0 : placeOf Try.prog 53 0 = some (0, 0) := by kernel_rfl
@[push_cast] theorem p53 : placesOk Try.prog 53 = true := by kernel_rfl
@[push_cast] theorem c54 : Try.prog.cellsOf 54 = 1 := by kernel_rfl
@[push_cast] theorem g54 : isAggB Try.prog 54 = false := by kernel_rfl
@[push_cast] theorem s54 : (Try.prog.underlying 54).isSome = true := by kernel_rfl
@[push_cast] theorem i54 : (Try.prog.info? 54).isSome = true := by kernel_rfl
@[push_cast] theorem m54 : concreteB Try.prog 54 = true := by kernel_rfl
@[push_cast] theorem a54 : elemOk Try.prog 54 = true := by kernel_rfl
@[push_cast] theorem b54 : bytesOf Try.prog 54 = 8 := by kernel_rfl
@[push_cast] theorem z54 : zeroD Try.prog 54 = some ([.t (.v .nilFunc)]) := by kernel_rfl
@[push_cast] theorem c55 : Try.prog.cellsOf 55 = 1 := by kernel_rfl
@[push_cast] theorem g55 : isAggB Try.prog 55 = false := by kernel_rfl
@[push_cast] theorem s55 : (Try.prog.underlying 55).isSome = true := by kernel_rfl
@[push_cast] theorem i55 : (Try.prog.info? 55).isSome = true := by kernel_rfl
@[push_cast] theorem m55 : concreteB Try.prog 55 = true := by kernel_rfl
@[push_cast] theorem a55 : elemOk Try.prog 55 = true := by kernel_rfl
@[push_cast] theorem b55 : bytesOf Try.prog 55 = 4 := by kernel_rfl
@[push_cast] theorem z55 : zeroD Try.prog 55 = some ([.t (.v (.int .u32 0))]) := by kernel_rfl
@[push_cast] theorem u55 : Try.prog.underlying 55 = some (.int .u32) := by kernel_rfl
@[push_cast] theorem c56 : Try.prog.cellsOf 56 = 1 := by kernel_rfl
@[push_cast] theorem g56 : isAggB Try.prog 56 = false := by kernel_rfl
@[push_cast] theorem s56 : (Try.prog.underlying 56).isSome = true := by kernel_rfl
@[push_cast] theorem i56 : (Try.prog.info? 56).isSome = true := by kernel_rfl
@[push_cast] theorem m56 : concreteB Try.prog 56 = true := by kernel_rfl
@[push_cast] theorem a56 : elemOk Try.prog 56 = true := by kernel_rfl
@[push_cast] theorem b56 : bytesOf Try.prog 56 = 1 := by kernel_rfl
@[push_cast] theorem z56 : zeroD Try.prog 56 = some ([.t (.v (.int .u8 0))]) := by kernel_rfl
@[push_cast] theorem u56 : Try.prog.underlying 56 = some (.int .u8) := by kernel_rfl
@[push_cast] theorem c57 : Try.prog.cellsOf 57 = 1 := by kernel_rfl
@[push_cast] theorem g57 : isAggB Try.prog 57 = false := by kernel_rfl
@[push_cast] theorem s57 : (Try.prog.underlying 57).isSome = true := by kernel_rfl
@[push_cast] theorem i57 : (Try.prog.info? 57).isSome = true := by kernel_rfl
@[push_cast] theorem m57 : concreteB Try.prog 57 = true := by kernel_rfl
@[push_cast] theorem a57 : elemOk Try.prog 57 = true := by kernel_rfl
@[push_cast] theorem b57 : bytesOf Try.prog 57 = 1 := by kernel_rfl
@[push_cast] theorem z57 : zeroD Try.prog 57 = some ([.t (.v (.int .u8 0))]) := by kernel_rfl
@[push_cast] theorem u57 : Try.prog.underlying 57 = some (.int .u8) := by kernel_rfl
@[push_cast] theorem c58 : Try.prog.cellsOf 58 = 1 := by kernel_rfl
@[push_cast] theorem g58 : isAggB Try.prog 58 = false := by kernel_rfl
@[push_cast] theorem s58 : (Try.prog.underlying 58).isSome = true := by kernel_rfl
@[push_cast] theorem i58 : (Try.prog.info? 58).isSome = true := by kernel_rfl
@[push_cast] theorem m58 : concreteB Try.prog 58 = true := by kernel_rfl
@[push_cast] theorem a58 : elemOk Try.prog 58 = true := by kernel_rfl
@[push_cast] theorem b58 : bytesOf Try.prog 58 = 8 := by kernel_rfl
@[push_cast] theorem z58 : zeroD Try.prog 58 = some ([.t (.v .nilFunc)]) := by kernel_rfl
@[push_cast] theorem c59 : Try.prog.cellsOf 59 = 1 := by kernel_rfl
@[push_cast] theorem g59 : isAggB Try.prog 59 = false := by kernel_rfl
@[push_cast] theorem s59 : (Try.prog.underlying 59).isSome = true := by kernel_rfl
@[push_cast] theorem i59 : (Try.prog.info? 59).isSome = true := by kernel_rfl
@[push_cast] theorem m59 : concreteB Try.prog 59 = true := by kernel_rfl
@[push_cast] theorem a59 : elemOk Try.prog 59 = true := by kernel_rfl
@[push_cast] theorem b59 : bytesOf Try.prog 59 = 8 := by kernel_rfl
@[push_cast] theorem z59 : zeroD Try.prog 59 = some ([.t (.v (.pointer none))]) := by kernel_rfl
@[push_cast] theorem c60 : Try.prog.cellsOf 60 = 1 := by kernel_rfl
@[push_cast] theorem g60 : isAggB Try.prog 60 = false := by kernel_rfl
@[push_cast] theorem s60 : (Try.prog.underlying 60).isSome = true := by kernel_rfl
@[push_cast] theorem i60 : (Try.prog.info? 60).isSome = true := by kernel_rfl
@[push_cast] theorem m60 : concreteB Try.prog 60 = true := by kernel_rfl
@[push_cast] theorem a60 : elemOk Try.prog 60 = true := by kernel_rfl
@[push_cast] theorem b60 : bytesOf Try.prog 60 = 4 := by kernel_rfl
@[push_cast] theorem z60 : zeroD Try.prog 60 = some ([.t (.v (.int .i32 0))]) := by kernel_rfl
@[push_cast] theorem u60 : Try.prog.underlying 60 = some (.int .i32) := by kernel_rfl
@[push_cast] theorem c61 : Try.prog.cellsOf 61 = 1 := by kernel_rfl
@[push_cast] theorem g61 : isAggB Try.prog 61 = false := by kernel_rfl
@[push_cast] theorem s61 : (Try.prog.underlying 61).isSome = true := by kernel_rfl
@[push_cast] theorem i61 : (Try.prog.info? 61).isSome = true := by kernel_rfl
@[push_cast] theorem m61 : concreteB Try.prog 61 = true := by kernel_rfl
@[push_cast] theorem a61 : elemOk Try.prog 61 = true := by kernel_rfl
@[push_cast] theorem b61 : bytesOf Try.prog 61 = 4 := by kernel_rfl
@[push_cast] theorem z61 : zeroD Try.prog 61 = some ([.t (.v (.int .i32 0))]) := by kernel_rfl
@[push_cast] theorem u61 : Try.prog.underlying 61 = some (.int .i32) := by kernel_rfl
@[push_cast] theorem c62 : Try.prog.cellsOf 62 = 11 := by kernel_rfl
@[push_cast] theorem g62 : isAggB Try.prog 62 = true := by kernel_rfl
@[push_cast] theorem s62 : (Try.prog.underlying 62).isSome = true := by kernel_rfl
@[push_cast] theorem i62 : (Try.prog.info? 62).isSome = true := by kernel_rfl
@[push_cast] theorem m62 : concreteB Try.prog 62 = true := by kernel_rfl
@[push_cast] theorem a62 : elemOk Try.prog 62 = true := by kernel_rfl
@[push_cast] theorem b62 : bytesOf Try.prog 62 = 48 := by kernel_rfl
@[push_cast] theorem z62 : zeroD Try.prog 62 = some ([.t (.v (.int .u64 0)), .t (.v (.int .u64 0)), .t (.v (.int .u32 0)), .t (.v (.int .u8 0)), .t (.v (.int .u8 0)), .t (.v (.int .u8 0)), .t (.v (.int .u8 0)), .t (.v .nilFunc), .t (.v (.pointer none)), .t (.v (.int .i32 0)), .t (.v (.int .i32 0))]) := by kernel_rfl
@[push_cast] theorem f62_0 : fieldOf Try.prog 62 0 = some (0, 1, 12) := by kernel_rfl
@[push_cast] theorem q62_0 : placeOf Try.prog 62 0 = some (0, 1) := by kernel_rfl
@[push_cast] theorem f62_1 : fieldOf Try.prog 62 1 = some (1, 1, 12) := by kernel_rfl
@[push_cast] theorem q62_1 : placeOf Try.prog 62 1 = some (1, 1) := by kernel_rfl
@[push_cast] theorem f62_2 : fieldOf Try.prog 62 2 = some (2, 1, 55) := by kernel_rfl
@[push_cast] theorem q62_2 : placeOf Try.prog 62 2 = some (2, 1) := by kernel_rfl
@[push_cast] theorem f62_3 : fieldOf Try.prog 62 3 = some (3, 1, 56) := by kernel_rfl
@[push_cast] theorem q62_3 : placeOf Try.prog 62 3 = some (3, 1) := by kernel_rfl
@[push_cast] theorem f62_4 : fieldOf Try.prog 62 4 = some (4, 1, 5) := by kernel_rfl
@[push_cast] theorem q62_4 : placeOf Try.prog 62 4 = some (4, 1) := by kernel_rfl
@[push_cast] theorem f62_5 : fieldOf Try.prog 62 5 = some (5, 1, 5) := by kernel_rfl
@[push_cast] theorem q62_5 : placeOf Try.prog 62 5 = some (5, 1) := by kernel_rfl
@[push_cast] theorem f62_6 : fieldOf Try.prog 62 6 = some (6, 1, 57) := by kernel_rfl
@[push_cast] theorem q62_6 : placeOf Try.prog 62 6 = some (6, 1) := by kernel_rfl
@[push_cast] theorem f62_7 : fieldOf Try.prog 62 7 = some (7, 1, 58) := by kernel_rfl
@[push_cast] theorem q62_7 : placeOf Try.prog 62 7 = some (7, 1) := by kernel_rfl
@[push_cast] theorem f62_8 : fieldOf Try.prog 62 8 = some (8, 1, 59) := by kernel_rfl
@[push_cast] theorem q62_8 : placeOf Try.prog 62 8 = some (8, 1) := by kernel_rfl
@[push_cast] theorem f62_9 : fieldOf Try.prog 62 9 = some (9, 1, 60) := by kernel_rfl
@[push_cast] theorem q62_9 : placeOf Try.prog 62 9 = some (9, 1) := by kernel_rfl
@[push_cast] theorem f62_10 : fieldOf Try.prog 62 10 = some (10, 1, 61) := by kernel_rfl
@[push_cast] theorem q62_10 : placeOf Try.prog 62 10 = some (10, 1) := by kernel_rfl
@[push_cast] theorem p62 : placesOk Try.prog 62 = true := by kernel_rfl
@[push_cast] theorem c63 : Try.prog.cellsOf 63 = 11 := by kernel_rfl
@[push_cast] theorem g63 : isAggB Try.prog 63 = true := by kernel_rfl
@[push_cast] theorem s63 : (Try.prog.underlying 63).isSome = true := by kernel_rfl
@[push_cast] theorem i63 : (Try.prog.info? 63).isSome = true := by kernel_rfl
@[push_cast] theorem m63 : concreteB Try.prog 63 = true := by kernel_rfl
@[push_cast] theorem a63 : elemOk Try.prog 63 = true := by kernel_rfl
@[push_cast] theorem b63 : bytesOf Try.prog 63 = 48 := by kernel_rfl
@[push_cast] theorem z63 : zeroD Try.prog 63 = some ([.t (.v (.int .u64 0)), .t (.v (.int .u64 0)), .t (.v (.int .u32 0)), .t (.v (.int .u8 0)), .t (.v (.int .u8 0)), .t (.v (.int .u8 0)), .t (.v (.int .u8 0)), .t (.v .nilFunc), .t (.v (.pointer none)), .t (.v (.int .i32 0)), .t (.v (.int .i32 0))]) := by kernel_rfl
@[push_cast] theorem f63_0 : fieldOf Try.prog 63 0 = some (0, 1, 12) := by kernel_rfl
@[push_cast] theorem q63_0 : placeOf Try.prog 63 0 = some (0, 1) := by kernel_rfl
@[push_cast] theorem f63_1 : fieldOf Try.prog 63 1 = some (1, 1, 12) := by kernel_rfl
@[push_cast] theorem q63_1 : placeOf Try.prog 63 1 = some (1, 1) := by kernel_rfl
@[push_cast] theorem f63_2 : fieldOf Try.prog 63 2 = some (2, 1, 55) := by kernel_rfl
@[push_cast] theorem q63_2 : placeOf Try.prog 63 2 = some (2, 1) := by kernel_rfl
@[push_cast] theorem f63_3 : fieldOf Try.prog 63 3 = some (3, 1, 56) := by kernel_rfl
@[push_cast] theorem q63_3 : placeOf Try.prog 63 3 = some (3, 1) := by kernel_rfl
@[push_cast] theorem f63_4 : fieldOf Try.prog 63 4 = some (4, 1, 5) := by kernel_rfl
@[push_cast] theorem q63_4 : placeOf Try.prog 63 4 = some (4, 1) := by kernel_rfl
@[push_cast] theorem f63_5 : fieldOf Try.prog 63 5 = some (5, 1, 5) := by kernel_rfl
@[push_cast] theorem q63_5 : placeOf Try.prog 63 5 = some (5, 1) := by kernel_rfl
@[push_cast] theorem f63_6 : fieldOf Try.prog 63 6 = some (6, 1, 57) := by kernel_rfl
@[push_cast] theorem q63_6 : placeOf Try.prog 63 6 = some (6, 1) := by kernel_rfl
@[push_cast] theorem f63_7 : fieldOf Try.prog 63 7 = some (7, 1, 58) := by kernel_rfl
@[push_cast] theorem q63_7 : placeOf Try.prog 63 7 = some (7, 1) := by kernel_rfl
@[push_cast] theorem f63_8 : fieldOf Try.prog 63 8 = some (8, 1, 59) := by kernel_rfl
@[push_cast] theorem q63_8 : placeOf Try.prog 63 8 = some (8, 1) := by kernel_rfl
@[push_cast] theorem f63_9 : fieldOf Try.prog 63 9 = some (9, 1, 60) := by kernel_rfl
@[push_cast] theorem q63_9 : placeOf Try.prog 63 9 = some (9, 1) := by kernel_rfl
@[push_cast] theorem f63_10 : fieldOf Try.prog 63 10 = some (10, 1, 61) := by kernel_rfl
@[push_cast] theorem q63_10 : placeOf Try.prog 63 10 = some (10, 1) := by kernel_rfl
@[push_cast] theorem p63 : placesOk Try.prog 63 = true := by kernel_rfl
@[push_cast] theorem c64 : Try.prog.cellsOf 64 = 1 := by kernel_rfl
@[push_cast] theorem g64 : isAggB Try.prog 64 = false := by kernel_rfl
@[push_cast] theorem s64 : (Try.prog.underlying 64).isSome = true := by kernel_rfl
@[push_cast] theorem i64 : (Try.prog.info? 64).isSome = true := by kernel_rfl
@[push_cast] theorem m64 : concreteB Try.prog 64 = true := by kernel_rfl
@[push_cast] theorem a64 : elemOk Try.prog 64 = true := by kernel_rfl
@[push_cast] theorem b64 : bytesOf Try.prog 64 = 8 := by kernel_rfl
@[push_cast] theorem z64 : zeroD Try.prog 64 = some ([.t (.v (.pointer none))]) := by kernel_rfl
@[push_cast] theorem k2 : callOk Try.prog 2 = true := by kernel_rfl
@[push_cast] theorem k3 : callOk Try.prog 3 = true := by kernel_rfl
@[push_cast] theorem k4 : callOk Try.prog 4 = true := by kernel_rfl
@[push_cast] theorem k5 : callOk Try.prog 5 = true := by kernel_rfl
@[push_cast] theorem k6 : callOk Try.prog 6 = true := by kernel_rfl
@[push_cast] theorem k7 : callOk Try.prog 7 = true := by kernel_rfl
@[push_cast] theorem k8 : callOk Try.prog 8 = true := by kernel_rfl
@[push_cast] theorem k9 : callOk Try.prog 9 = true := by kernel_rfl
@[push_cast] theorem k10 : callOk Try.prog 10 = true := by kernel_rfl
@[push_cast] theorem k11 : callOk Try.prog 11 = true := by kernel_rfl
@[push_cast] theorem k12 : callOk Try.prog 12 = true := by kernel_rfl
@[push_cast] theorem k13 : callOk Try.prog 13 = true := by kernel_rfl
@[push_cast] theorem k14 : callOk Try.prog 14 = true := by kernel_rfl
@[push_cast] theorem k15 : callOk Try.prog 15 = true := by kernel_rfl
@[push_cast] theorem k16 : callOk Try.prog 16 = true := by kernel_rfl
@[push_cast] theorem k17 : callOk Try.prog 17 = true := by kernel_rfl
@[push_cast] theorem k18 : callOk Try.prog 18 = true := by kernel_rfl
@[push_cast] theorem k19 : callOk Try.prog 19 = true := by kernel_rfl
@[push_cast] theorem k20 : callOk Try.prog 20 = true := by kernel_rfl
@[push_cast] theorem k21 : callOk Try.prog 21 = true := by kernel_rfl
@[push_cast] theorem mix : Try.prog.follows .mixedOrders = true := by kernel_rfl
end Go.Proofs.Try.F
