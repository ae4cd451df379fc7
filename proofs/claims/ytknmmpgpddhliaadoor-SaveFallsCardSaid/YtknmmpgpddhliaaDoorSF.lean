/- Facts about the program's types: made by wip/ot/facts.py. -/
import Derived.Test.YtknmmpgpddhliaaDoorProg
import Derived.Test.YtknmmpgpddhliaaDoorOtD
set_option linter.unusedVariables false
namespace Go.Proofs.Tryd.F
open Go Go.Proofs Go.Ot
@[push_cast] theorem c1 : Tryd.prog.cellsOf 1 = 1 := by kernel_rfl
@[push_cast] theorem g1 : isAggB Tryd.prog 1 = false := by kernel_rfl
@[push_cast] theorem s1 : (Tryd.prog.underlying 1).isSome = true := by kernel_rfl
@[push_cast] theorem i1 : (Tryd.prog.info? 1).isSome = true := by kernel_rfl
@[push_cast] theorem m1 : concreteB Tryd.prog 1 = true := by kernel_rfl
@[push_cast] theorem a1 : elemOk Tryd.prog 1 = true := by kernel_rfl
@[push_cast] theorem b1 : bytesOf Tryd.prog 1 = 8 := by kernel_rfl
@[push_cast] theorem z1 : zeroD Tryd.prog 1 = some ([.t (.v .nilFunc)]) := by kernel_rfl
@[push_cast] theorem c2 : Tryd.prog.cellsOf 2 = 1 := by kernel_rfl
@[push_cast] theorem g2 : isAggB Tryd.prog 2 = false := by kernel_rfl
@[push_cast] theorem s2 : (Tryd.prog.underlying 2).isSome = true := by kernel_rfl
@[push_cast] theorem i2 : (Tryd.prog.info? 2).isSome = true := by kernel_rfl
@[push_cast] theorem m2 : concreteB Tryd.prog 2 = true := by kernel_rfl
@[push_cast] theorem a2 : elemOk Tryd.prog 2 = true := by kernel_rfl
@[push_cast] theorem b2 : bytesOf Tryd.prog 2 = 8 := by kernel_rfl
@[push_cast] theorem z2 : zeroD Tryd.prog 2 = some ([.t (.v (.int .i64 0))]) := by kernel_rfl
@[push_cast] theorem u2 : Tryd.prog.underlying 2 = some (.int .i64) := by kernel_rfl
@[push_cast] theorem c3 : Tryd.prog.cellsOf 3 = 1 := by kernel_rfl
@[push_cast] theorem g3 : isAggB Tryd.prog 3 = false := by kernel_rfl
@[push_cast] theorem s3 : (Tryd.prog.underlying 3).isSome = true := by kernel_rfl
@[push_cast] theorem i3 : (Tryd.prog.info? 3).isSome = true := by kernel_rfl
@[push_cast] theorem m3 : concreteB Tryd.prog 3 = true := by kernel_rfl
@[push_cast] theorem a3 : elemOk Tryd.prog 3 = true := by kernel_rfl
@[push_cast] theorem b3 : bytesOf Tryd.prog 3 = 8 := by kernel_rfl
@[push_cast] theorem z3 : zeroD Tryd.prog 3 = some ([.t (.v (.int .i64 0))]) := by kernel_rfl
@[push_cast] theorem u3 : Tryd.prog.underlying 3 = some (.int .i64) := by kernel_rfl
@[push_cast] theorem c4 : Tryd.prog.cellsOf 4 = 1 := by kernel_rfl
@[push_cast] theorem g4 : isAggB Tryd.prog 4 = false := by kernel_rfl
@[push_cast] theorem s4 : (Tryd.prog.underlying 4).isSome = true := by kernel_rfl
@[push_cast] theorem i4 : (Tryd.prog.info? 4).isSome = true := by kernel_rfl
@[push_cast] theorem m4 : concreteB Tryd.prog 4 = true := by kernel_rfl
@[push_cast] theorem a4 : elemOk Tryd.prog 4 = true := by kernel_rfl
@[push_cast] theorem b4 : bytesOf Tryd.prog 4 = 1 := by kernel_rfl
@[push_cast] theorem z4 : zeroD Tryd.prog 4 = some ([.t (.v (.bool false))]) := by kernel_rfl
@[push_cast] theorem u4 : Tryd.prog.underlying 4 = some .bool := by kernel_rfl
@[push_cast] theorem c5 : Tryd.prog.cellsOf 5 = 1 := by kernel_rfl
@[push_cast] theorem g5 : isAggB Tryd.prog 5 = false := by kernel_rfl
@[push_cast] theorem s5 : (Tryd.prog.underlying 5).isSome = true := by kernel_rfl
@[push_cast] theorem i5 : (Tryd.prog.info? 5).isSome = true := by kernel_rfl
@[push_cast] theorem m5 : concreteB Tryd.prog 5 = true := by kernel_rfl
@[push_cast] theorem a5 : elemOk Tryd.prog 5 = true := by kernel_rfl
@[push_cast] theorem b5 : bytesOf Tryd.prog 5 = 1 := by kernel_rfl
@[push_cast] theorem z5 : zeroD Tryd.prog 5 = some ([.t (.v (.int .u8 0))]) := by kernel_rfl
@[push_cast] theorem u5 : Tryd.prog.underlying 5 = some (.int .u8) := by kernel_rfl
@[push_cast] theorem c6 : Tryd.prog.cellsOf 6 = 1 := by kernel_rfl
@[push_cast] theorem g6 : isAggB Tryd.prog 6 = false := by kernel_rfl
@[push_cast] theorem s6 : (Tryd.prog.underlying 6).isSome = true := by kernel_rfl
@[push_cast] theorem i6 : (Tryd.prog.info? 6).isSome = true := by kernel_rfl
@[push_cast] theorem m6 : concreteB Tryd.prog 6 = true := by kernel_rfl
@[push_cast] theorem a6 : elemOk Tryd.prog 6 = true := by kernel_rfl
@[push_cast] theorem b6 : bytesOf Tryd.prog 6 = 1 := by kernel_rfl
@[push_cast] theorem z6 : zeroD Tryd.prog 6 = some ([.t (.v (.int .u8 0))]) := by kernel_rfl
@[push_cast] theorem u6 : Tryd.prog.underlying 6 = some (.int .u8) := by kernel_rfl
@[push_cast] theorem c7 : Tryd.prog.cellsOf 7 = 4 := by kernel_rfl
@[push_cast] theorem g7 : isAggB Tryd.prog 7 = true := by kernel_rfl
@[push_cast] theorem s7 : (Tryd.prog.underlying 7).isSome = true := by kernel_rfl
@[push_cast] theorem i7 : (Tryd.prog.info? 7).isSome = true := by kernel_rfl
@[push_cast] theorem m7 : concreteB Tryd.prog 7 = true := by kernel_rfl
@[push_cast] theorem a7 : elemOk Tryd.prog 7 = true := by kernel_rfl
@[push_cast] theorem b7 : bytesOf Tryd.prog 7 = 24 := by kernel_rfl
@[push_cast] theorem z7 : zeroD Tryd.prog 7 = some ([.t (.v (.int .i64 0)), .t (.v (.int .i64 0)), .t (.v (.bool false)), .t (.v (.int .u8 0))]) := by kernel_rfl
@[push_cast] theorem f7_0 : fieldOf Tryd.prog 7 0 = some (0, 1, 2) := by kernel_rfl
@[push_cast] theorem q7_0 : placeOf Tryd.prog 7 0 = some (0, 1) := by kernel_rfl
@[push_cast] theorem f7_1 : fieldOf Tryd.prog 7 1 = some (1, 1, 3) := by kernel_rfl
@[push_cast] theorem q7_1 : placeOf Tryd.prog 7 1 = some (1, 1) := by kernel_rfl
@[push_cast] theorem f7_2 : fieldOf Tryd.prog 7 2 = some (2, 1, 4) := by kernel_rfl
@[push_cast] theorem q7_2 : placeOf Tryd.prog 7 2 = some (2, 1) := by kernel_rfl
@[push_cast] theorem f7_3 : fieldOf Tryd.prog 7 3 = some (3, 1, 6) := by kernel_rfl
@[push_cast] theorem q7_3 : placeOf Tryd.prog 7 3 = some (3, 1) := by kernel_rfl
@[push_cast] theorem p7 : placesOk Tryd.prog 7 = true := by kernel_rfl
@[push_cast] theorem c8 : Tryd.prog.cellsOf 8 = 4 := by kernel_rfl
@[push_cast] theorem g8 : isAggB Tryd.prog 8 = true := by kernel_rfl
@[push_cast] theorem s8 : (Tryd.prog.underlying 8).isSome = true := by kernel_rfl
@[push_cast] theorem i8 : (Tryd.prog.info? 8).isSome = true := by kernel_rfl
@[push_cast] theorem m8 : concreteB Tryd.prog 8 = true := by kernel_rfl
@[push_cast] theorem a8 : elemOk Tryd.prog 8 = true := by kernel_rfl
@[push_cast] theorem b8 : bytesOf Tryd.prog 8 = 24 := by kernel_rfl
@[push_cast] theorem z8 : zeroD Tryd.prog 8 = some ([.t (.v (.int .i64 0)), .t (.v (.int .i64 0)), .t (.v (.bool false)), .t (.v (.int .u8 0))]) := by kernel_rfl
@[push_cast] theorem f8_0 : fieldOf Tryd.prog 8 0 = some (0, 1, 2) := by kernel_rfl
@[push_cast] theorem q8_0 : placeOf Tryd.prog 8 0 = some (0, 1) := by kernel_rfl
@[push_cast] theorem f8_1 : fieldOf Tryd.prog 8 1 = some (1, 1, 3) := by kernel_rfl
@[push_cast] theorem q8_1 : placeOf Tryd.prog 8 1 = some (1, 1) := by kernel_rfl
@[push_cast] theorem f8_2 : fieldOf Tryd.prog 8 2 = some (2, 1, 4) := by kernel_rfl
@[push_cast] theorem q8_2 : placeOf Tryd.prog 8 2 = some (2, 1) := by kernel_rfl
@[push_cast] theorem f8_3 : fieldOf Tryd.prog 8 3 = some (3, 1, 6) := by kernel_rfl
@[push_cast] theorem q8_3 : placeOf Tryd.prog 8 3 = some (3, 1) := by kernel_rfl
@[push_cast] theorem p8 : placesOk Tryd.prog 8 = true := by kernel_rfl
@[push_cast] theorem c9 : Tryd.prog.cellsOf 9 = 1 := by kernel_rfl
@[push_cast] theorem g9 : isAggB Tryd.prog 9 = false := by kernel_rfl
@[push_cast] theorem s9 : (Tryd.prog.underlying 9).isSome = true := by kernel_rfl
@[push_cast] theorem i9 : (Tryd.prog.info? 9).isSome = true := by kernel_rfl
@[push_cast] theorem m9 : concreteB Tryd.prog 9 = true := by kernel_rfl
@[push_cast] theorem a9 : elemOk Tryd.prog 9 = true := by kernel_rfl
@[push_cast] theorem b9 : bytesOf Tryd.prog 9 = 16 := by kernel_rfl
@[push_cast] theorem z9 : zeroD Tryd.prog 9 = some ([.t (.v (.string ⟨#[]⟩))]) := by kernel_rfl
@[push_cast] theorem u9 : Tryd.prog.underlying 9 = some .string := by kernel_rfl
@[push_cast] theorem c10 : Tryd.prog.cellsOf 10 = 1 := by kernel_rfl
@[push_cast] theorem g10 : isAggB Tryd.prog 10 = false := by kernel_rfl
@[push_cast] theorem s10 : (Tryd.prog.underlying 10).isSome = true := by kernel_rfl
@[push_cast] theorem i10 : (Tryd.prog.info? 10).isSome = true := by kernel_rfl
@[push_cast] theorem m10 : concreteB Tryd.prog 10 = true := by kernel_rfl
@[push_cast] theorem a10 : elemOk Tryd.prog 10 = true := by kernel_rfl
@[push_cast] theorem b10 : bytesOf Tryd.prog 10 = 16 := by kernel_rfl
@[push_cast] theorem z10 : zeroD Tryd.prog 10 = some ([.t (.v (.string ⟨#[]⟩))]) := by kernel_rfl
@[push_cast] theorem u10 : Tryd.prog.underlying 10 = some .string := by kernel_rfl
@[push_cast] theorem c11 : Tryd.prog.cellsOf 11 = 1 := by kernel_rfl
@[push_cast] theorem g11 : isAggB Tryd.prog 11 = false := by kernel_rfl
@[push_cast] theorem s11 : (Tryd.prog.underlying 11).isSome = true := by kernel_rfl
@[push_cast] theorem i11 : (Tryd.prog.info? 11).isSome = true := by kernel_rfl
@[push_cast] theorem m11 : concreteB Tryd.prog 11 = true := by kernel_rfl
@[push_cast] theorem a11 : elemOk Tryd.prog 11 = true := by kernel_rfl
@[push_cast] theorem b11 : bytesOf Tryd.prog 11 = 16 := by kernel_rfl
@[push_cast] theorem z11 : zeroD Tryd.prog 11 = some ([.t (.v (.string ⟨#[]⟩))]) := by kernel_rfl
@[push_cast] theorem u11 : Tryd.prog.underlying 11 = some .string := by kernel_rfl
@[push_cast] theorem c12 : Tryd.prog.cellsOf 12 = 1 := by kernel_rfl
@[push_cast] theorem g12 : isAggB Tryd.prog 12 = false := by kernel_rfl
@[push_cast] theorem s12 : (Tryd.prog.underlying 12).isSome = true := by kernel_rfl
@[push_cast] theorem i12 : (Tryd.prog.info? 12).isSome = true := by kernel_rfl
@[push_cast] theorem m12 : concreteB Tryd.prog 12 = true := by kernel_rfl
@[push_cast] theorem a12 : elemOk Tryd.prog 12 = true := by kernel_rfl
@[push_cast] theorem b12 : bytesOf Tryd.prog 12 = 8 := by kernel_rfl
@[push_cast] theorem z12 : zeroD Tryd.prog 12 = some ([.t (.v (.int .u64 0))]) := by kernel_rfl
@[push_cast] theorem u12 : Tryd.prog.underlying 12 = some (.int .u64) := by kernel_rfl
@[push_cast] theorem c13 : Tryd.prog.cellsOf 13 = 2 := by kernel_rfl
@[push_cast] theorem g13 : isAggB Tryd.prog 13 = true := by kernel_rfl
@[push_cast] theorem s13 : (Tryd.prog.underlying 13).isSome = true := by kernel_rfl
@[push_cast] theorem i13 : (Tryd.prog.info? 13).isSome = true := by kernel_rfl
@[push_cast] theorem m13 : concreteB Tryd.prog 13 = true := by kernel_rfl
@[push_cast] theorem a13 : elemOk Tryd.prog 13 = true := by kernel_rfl
@[push_cast] theorem b13 : bytesOf Tryd.prog 13 = 24 := by kernel_rfl
@[push_cast] theorem z13 : zeroD Tryd.prog 13 = some ([.t (.v (.string ⟨#[]⟩)), .t (.v (.int .u64 0))]) := by kernel_rfl
@[push_cast] theorem f13_0 : fieldOf Tryd.prog 13 0 = some (0, 1, 9) := by kernel_rfl
@[push_cast] theorem q13_0 : placeOf Tryd.prog 13 0 = some (0, 1) := by kernel_rfl
@[push_cast] theorem f13_1 : fieldOf Tryd.prog 13 1 = some (1, 1, 12) := by kernel_rfl
@[push_cast] theorem q13_1 : placeOf Tryd.prog 13 1 = some (1, 1) := by kernel_rfl
@[push_cast] theorem p13 : placesOk Tryd.prog 13 = true := by kernel_rfl
@[push_cast] theorem c14 : Tryd.prog.cellsOf 14 = 2 := by kernel_rfl
@[push_cast] theorem g14 : isAggB Tryd.prog 14 = true := by kernel_rfl
@[push_cast] theorem s14 : (Tryd.prog.underlying 14).isSome = true := by kernel_rfl
@[push_cast] theorem i14 : (Tryd.prog.info? 14).isSome = true := by kernel_rfl
@[push_cast] theorem m14 : concreteB Tryd.prog 14 = true := by kernel_rfl
@[push_cast] theorem a14 : elemOk Tryd.prog 14 = true := by kernel_rfl
@[push_cast] theorem b14 : bytesOf Tryd.prog 14 = 24 := by kernel_rfl
@[push_cast] theorem z14 : zeroD Tryd.prog 14 = some ([.t (.v (.string ⟨#[]⟩)), .t (.v (.int .u64 0))]) := by kernel_rfl
@[push_cast] theorem f14_0 : fieldOf Tryd.prog 14 0 = some (0, 1, 9) := by kernel_rfl
@[push_cast] theorem q14_0 : placeOf Tryd.prog 14 0 = some (0, 1) := by kernel_rfl
@[push_cast] theorem f14_1 : fieldOf Tryd.prog 14 1 = some (1, 1, 12) := by kernel_rfl
@[push_cast] theorem q14_1 : placeOf Tryd.prog 14 1 = some (1, 1) := by kernel_rfl
@[push_cast] theorem p14 : placesOk Tryd.prog 14 = true := by kernel_rfl
@[push_cast] theorem c15 : Tryd.prog.cellsOf 15 = 1 := by kernel_rfl
@[push_cast] theorem g15 : isAggB Tryd.prog 15 = false := by kernel_rfl
@[push_cast] theorem s15 : (Tryd.prog.underlying 15).isSome = true := by kernel_rfl
@[push_cast] theorem i15 : (Tryd.prog.info? 15).isSome = true := by kernel_rfl
@[push_cast] theorem m15 : concreteB Tryd.prog 15 = true := by kernel_rfl
@[push_cast] theorem a15 : elemOk Tryd.prog 15 = true := by kernel_rfl
@[push_cast] theorem b15 : bytesOf Tryd.prog 15 = 8 := by kernel_rfl
@[push_cast] theorem z15 : zeroD Tryd.prog 15 = some ([.t (.v (.pointer none))]) := by kernel_rfl
@[push_cast] theorem c16 : Tryd.prog.cellsOf 16 = 1 := by kernel_rfl
@[push_cast] theorem g16 : isAggB Tryd.prog 16 = false := by kernel_rfl
@[push_cast] theorem s16 : (Tryd.prog.underlying 16).isSome = true := by kernel_rfl
@[push_cast] theorem i16 : (Tryd.prog.info? 16).isSome = true := by kernel_rfl
@[push_cast] theorem m16 : concreteB Tryd.prog 16 = true := by kernel_rfl
@[push_cast] theorem a16 : elemOk Tryd.prog 16 = true := by kernel_rfl
@[push_cast] theorem b16 : bytesOf Tryd.prog 16 = 8 := by kernel_rfl
@[push_cast] theorem z16 : zeroD Tryd.prog 16 = some ([.t (.v (.pointer none))]) := by kernel_rfl
@[push_cast] theorem c17 : Tryd.prog.cellsOf 17 = 1 := by kernel_rfl
@[push_cast] theorem g17 : isAggB Tryd.prog 17 = false := by kernel_rfl
@[push_cast] theorem s17 : (Tryd.prog.underlying 17).isSome = true := by kernel_rfl
@[push_cast] theorem i17 : (Tryd.prog.info? 17).isSome = true := by kernel_rfl
@[push_cast] theorem m17 : concreteB Tryd.prog 17 = true := by kernel_rfl
@[push_cast] theorem a17 : elemOk Tryd.prog 17 = true := by kernel_rfl
@[push_cast] theorem b17 : bytesOf Tryd.prog 17 = 8 := by kernel_rfl
@[push_cast] theorem z17 : zeroD Tryd.prog 17 = some ([.t (.v (.pointer none))]) := by kernel_rfl
@[push_cast] theorem c18 : Tryd.prog.cellsOf 18 = 1 := by kernel_rfl
@[push_cast] theorem g18 : isAggB Tryd.prog 18 = true := by kernel_rfl
@[push_cast] theorem s18 : (Tryd.prog.underlying 18).isSome = true := by kernel_rfl
@[push_cast] theorem i18 : (Tryd.prog.info? 18).isSome = true := by kernel_rfl
@[push_cast] theorem m18 : concreteB Tryd.prog 18 = true := by kernel_rfl
@[push_cast] theorem a18 : elemOk Tryd.prog 18 = true := by kernel_rfl
@[push_cast] theorem b18 : bytesOf Tryd.prog 18 = 8 := by kernel_rfl
@[push_cast] theorem z18 : zeroD Tryd.prog 18 = some ([.t (.v (.pointer none))]) := by kernel_rfl
@[push_cast] theorem f18_0 : fieldOf Tryd.prog 18 0 = some (0, 1, 17) := by kernel_rfl
@[push_cast] theorem q18_0 : placeOf Tryd.prog 18 0 = some (0, 1) := by kernel_rfl
@[push_cast] theorem p18 : placesOk Tryd.prog 18 = true := by kernel_rfl
@[push_cast] theorem c19 : Tryd.prog.cellsOf 19 = 1 := by kernel_rfl
@[push_cast] theorem g19 : isAggB Tryd.prog 19 = true := by kernel_rfl
@[push_cast] theorem s19 : (Tryd.prog.underlying 19).isSome = true := by kernel_rfl
@[push_cast] theorem i19 : (Tryd.prog.info? 19).isSome = true := by kernel_rfl
@[push_cast] theorem m19 : concreteB Tryd.prog 19 = true := by kernel_rfl
@[push_cast] theorem a19 : elemOk Tryd.prog 19 = true := by kernel_rfl
@[push_cast] theorem b19 : bytesOf Tryd.prog 19 = 8 := by kernel_rfl
@[push_cast] theorem z19 : zeroD Tryd.prog 19 = some ([.t (.v (.pointer none))]) := by kernel_rfl
@[push_cast] theorem f19_0 : fieldOf Tryd.prog 19 0 = some (0, 1, 17) := by kernel_rfl
@[push_cast] theorem q19_0 : placeOf Tryd.prog 19 0 = some (0, 1) := by kernel_rfl
@[push_cast] theorem p19 : placesOk Tryd.prog 19 = true := by kernel_rfl
@[push_cast] theorem c20 : Tryd.prog.cellsOf 20 = 1 := by kernel_rfl
@[push_cast] theorem g20 : isAggB Tryd.prog 20 = false := by kernel_rfl
@[push_cast] theorem s20 : (Tryd.prog.underlying 20).isSome = true := by kernel_rfl
@[push_cast] theorem i20 : (Tryd.prog.info? 20).isSome = true := by kernel_rfl
@[push_cast] theorem a20 : elemOk Tryd.prog 20 = true := by kernel_rfl
@[push_cast] theorem b20 : bytesOf Tryd.prog 20 = 16 := by kernel_rfl
@[push_cast] theorem z20 : zeroD Tryd.prog 20 = some ([.t (.v .nilIface)]) := by kernel_rfl
@[push_cast] theorem u20 : Tryd.prog.underlying 20 = some (.interface (Tryd.prog.methodsAt 20)) := by kernel_rfl
@[push_cast] theorem c21 : Tryd.prog.cellsOf 21 = 1 := by kernel_rfl
@[push_cast] theorem g21 : isAggB Tryd.prog 21 = false := by kernel_rfl
@[push_cast] theorem s21 : (Tryd.prog.underlying 21).isSome = true := by kernel_rfl
@[push_cast] theorem i21 : (Tryd.prog.info? 21).isSome = true := by kernel_rfl
@[push_cast] theorem m21 : concreteB Tryd.prog 21 = true := by kernel_rfl
@[push_cast] theorem a21 : elemOk Tryd.prog 21 = true := by kernel_rfl
@[push_cast] theorem b21 : bytesOf Tryd.prog 21 = 4 := by kernel_rfl
@[push_cast] theorem z21 : zeroD Tryd.prog 21 = some ([.t (.v (.int .i32 0))]) := by kernel_rfl
@[push_cast] theorem u21 : Tryd.prog.underlying 21 = some (.int .i32) := by kernel_rfl
@[push_cast] theorem c22 : Tryd.prog.cellsOf 22 = 1 := by kernel_rfl
@[push_cast] theorem g22 : isAggB Tryd.prog 22 = false := by kernel_rfl
@[push_cast] theorem s22 : (Tryd.prog.underlying 22).isSome = true := by kernel_rfl
@[push_cast] theorem i22 : (Tryd.prog.info? 22).isSome = true := by kernel_rfl
@[push_cast] theorem m22 : concreteB Tryd.prog 22 = true := by kernel_rfl
@[push_cast] theorem a22 : elemOk Tryd.prog 22 = true := by kernel_rfl
@[push_cast] theorem b22 : bytesOf Tryd.prog 22 = 24 := by kernel_rfl
@[push_cast] theorem z22 : zeroD Tryd.prog 22 = some ([.t (.v (.slice none 0 0))]) := by kernel_rfl
@[push_cast] theorem u22 : Tryd.prog.underlying 22 = some (.slice 9) := by kernel_rfl
@[push_cast] theorem e22 : Tryd.prog.elem 22 = 9 := by kernel_rfl
@[push_cast] theorem c23 : Tryd.prog.cellsOf 23 = 1 := by kernel_rfl
@[push_cast] theorem g23 : isAggB Tryd.prog 23 = false := by kernel_rfl
@[push_cast] theorem s23 : (Tryd.prog.underlying 23).isSome = true := by kernel_rfl
@[push_cast] theorem i23 : (Tryd.prog.info? 23).isSome = true := by kernel_rfl
@[push_cast] theorem m23 : concreteB Tryd.prog 23 = true := by kernel_rfl
@[push_cast] theorem a23 : elemOk Tryd.prog 23 = true := by kernel_rfl
@[push_cast] theorem b23 : bytesOf Tryd.prog 23 = 24 := by kernel_rfl
@[push_cast] theorem z23 : zeroD Tryd.prog 23 = some ([.t (.v (.slice none 0 0))]) := by kernel_rfl
@[push_cast] theorem u23 : Tryd.prog.underlying 23 = some (.slice 4) := by kernel_rfl
@[push_cast] theorem e23 : Tryd.prog.elem 23 = 4 := by kernel_rfl
@[push_cast] theorem c24 : Tryd.prog.cellsOf 24 = 1 := by kernel_rfl
@[push_cast] theorem g24 : isAggB Tryd.prog 24 = false := by kernel_rfl
@[push_cast] theorem s24 : (Tryd.prog.underlying 24).isSome = true := by kernel_rfl
@[push_cast] theorem i24 : (Tryd.prog.info? 24).isSome = true := by kernel_rfl
@[push_cast] theorem m24 : concreteB Tryd.prog 24 = true := by kernel_rfl
@[push_cast] theorem a24 : elemOk Tryd.prog 24 = true := by kernel_rfl
@[push_cast] theorem b24 : bytesOf Tryd.prog 24 = 8 := by kernel_rfl
@[push_cast] theorem z24 : zeroD Tryd.prog 24 = some ([.t (.v .nilFunc)]) := by kernel_rfl
@[push_cast] theorem c25 : Tryd.prog.cellsOf 25 = 1 := by kernel_rfl
@[push_cast] theorem g25 : isAggB Tryd.prog 25 = false := by kernel_rfl
@[push_cast] theorem s25 : (Tryd.prog.underlying 25).isSome = true := by kernel_rfl
@[push_cast] theorem i25 : (Tryd.prog.info? 25).isSome = true := by kernel_rfl
@[push_cast] theorem m25 : concreteB Tryd.prog 25 = true := by kernel_rfl
@[push_cast] theorem a25 : elemOk Tryd.prog 25 = true := by kernel_rfl
@[push_cast] theorem b25 : bytesOf Tryd.prog 25 = 8 := by kernel_rfl
@[push_cast] theorem z25 : zeroD Tryd.prog 25 = some ([.t (.v (.pointer none))]) := by kernel_rfl
@[push_cast] theorem c26 : Tryd.prog.cellsOf 26 = 1 := by kernel_rfl
@[push_cast] theorem g26 : isAggB Tryd.prog 26 = false := by kernel_rfl
@[push_cast] theorem s26 : (Tryd.prog.underlying 26).isSome = true := by kernel_rfl
@[push_cast] theorem i26 : (Tryd.prog.info? 26).isSome = true := by kernel_rfl
@[push_cast] theorem m26 : concreteB Tryd.prog 26 = true := by kernel_rfl
@[push_cast] theorem a26 : elemOk Tryd.prog 26 = true := by kernel_rfl
@[push_cast] theorem b26 : bytesOf Tryd.prog 26 = 8 := by kernel_rfl
@[push_cast] theorem z26 : zeroD Tryd.prog 26 = some ([.t (.v .nilFunc)]) := by kernel_rfl
@[push_cast] theorem c27 : Tryd.prog.cellsOf 27 = 2 := by kernel_rfl
@[push_cast] theorem g27 : isAggB Tryd.prog 27 = true := by kernel_rfl
@[push_cast] theorem s27 : (Tryd.prog.underlying 27).isSome = true := by kernel_rfl
@[push_cast] theorem i27 : (Tryd.prog.info? 27).isSome = true := by kernel_rfl
@[push_cast] theorem m27 : concreteB Tryd.prog 27 = true := by kernel_rfl
@[push_cast] theorem a27 : elemOk Tryd.prog 27 = true := by kernel_rfl
@[push_cast] theorem b27 : bytesOf Tryd.prog 27 = 32 := by kernel_rfl
@[push_cast] theorem z27 : zeroD Tryd.prog 27 = some ([.t (.v (.int .i64 0)), .t (.v (.slice none 0 0))]) := by kernel_rfl
@[push_cast] theorem f27_0 : fieldOf Tryd.prog 27 0 = some (0, 1, 3) := by kernel_rfl
@[push_cast] theorem q27_0 : placeOf Tryd.prog 27 0 = some (0, 1) := by kernel_rfl
@[push_cast] theorem f27_1 : fieldOf Tryd.prog 27 1 = some (1, 1, 23) := by kernel_rfl
@[push_cast] theorem q27_1 : placeOf Tryd.prog 27 1 = some (1, 1) := by kernel_rfl
@[push_cast] theorem p27 : placesOk Tryd.prog 27 = true := by kernel_rfl
@[push_cast] theorem c28 : Tryd.prog.cellsOf 28 = 2 := by kernel_rfl
@[push_cast] theorem g28 : isAggB Tryd.prog 28 = true := by kernel_rfl
@[push_cast] theorem s28 : (Tryd.prog.underlying 28).isSome = true := by kernel_rfl
@[push_cast] theorem i28 : (Tryd.prog.info? 28).isSome = true := by kernel_rfl
@[push_cast] theorem m28 : concreteB Tryd.prog 28 = true := by kernel_rfl
@[push_cast] theorem a28 : elemOk Tryd.prog 28 = true := by kernel_rfl
@[push_cast] theorem b28 : bytesOf Tryd.prog 28 = 32 := by kernel_rfl
@[push_cast] theorem z28 : zeroD Tryd.prog 28 = some ([.t (.v (.int .i64 0)), .t (.v (.slice none 0 0))]) := by kernel_rfl
@[push_cast] theorem f28_0 : fieldOf Tryd.prog 28 0 = some (0, 1, 3) := by kernel_rfl
@[push_cast] theorem q28_0 : placeOf Tryd.prog 28 0 = some (0, 1) := by kernel_rfl
@[push_cast] theorem f28_1 : fieldOf Tryd.prog 28 1 = some (1, 1, 23) := by kernel_rfl
@[push_cast] theorem q28_1 : placeOf Tryd.prog 28 1 = some (1, 1) := by kernel_rfl
@[push_cast] theorem p28 : placesOk Tryd.prog 28 = true := by kernel_rfl
@[push_cast] theorem c29 : Tryd.prog.cellsOf 29 = 1 := by kernel_rfl
@[push_cast] theorem g29 : isAggB Tryd.prog 29 = false := by kernel_rfl
@[push_cast] theorem s29 : (Tryd.prog.underlying 29).isSome = true := by kernel_rfl
@[push_cast] theorem i29 : (Tryd.prog.info? 29).isSome = true := by kernel_rfl
@[push_cast] theorem m29 : concreteB Tryd.prog 29 = true := by kernel_rfl
@[push_cast] theorem a29 : elemOk Tryd.prog 29 = true := by kernel_rfl
@[push_cast] theorem b29 : bytesOf Tryd.prog 29 = 8 := by kernel_rfl
@[push_cast] theorem z29 : zeroD Tryd.prog 29 = some ([.t (.v (.pointer none))]) := by kernel_rfl
@[push_cast] theorem c30 : Tryd.prog.cellsOf 30 = 1 := by kernel_rfl
@[push_cast] theorem g30 : isAggB Tryd.prog 30 = false := by kernel_rfl
@[push_cast] theorem s30 : (Tryd.prog.underlying 30).isSome = true := by kernel_rfl
@[push_cast] theorem i30 : (Tryd.prog.info? 30).isSome = true := by kernel_rfl
@[push_cast] theorem m30 : concreteB Tryd.prog 30 = true := by kernel_rfl
@[push_cast] theorem a30 : elemOk Tryd.prog 30 = true := by kernel_rfl
@[push_cast] theorem b30 : bytesOf Tryd.prog 30 = 8 := by kernel_rfl
@[push_cast] theorem z30 : zeroD Tryd.prog 30 = some ([.t (.v (.int .i64 0))]) := by kernel_rfl
@[push_cast] theorem u30 : Tryd.prog.underlying 30 = some (.int .i64) := by kernel_rfl
@[push_cast] theorem c32 : Tryd.prog.cellsOf 32 = 1 := by kernel_rfl
@[push_cast] theorem g32 : isAggB Tryd.prog 32 = false := by kernel_rfl
@[push_cast] theorem s32 : (Tryd.prog.underlying 32).isSome = true := by kernel_rfl
@[push_cast] theorem i32 : (Tryd.prog.info? 32).isSome = true := by kernel_rfl
@[push_cast] theorem m32 : concreteB Tryd.prog 32 = true := by kernel_rfl
@[push_cast] theorem a32 : elemOk Tryd.prog 32 = true := by kernel_rfl
@[push_cast] theorem b32 : bytesOf Tryd.prog 32 = 8 := by kernel_rfl
@[push_cast] theorem z32 : zeroD Tryd.prog 32 = some ([.t (.v .nilFunc)]) := by kernel_rfl
@[push_cast] theorem c33 : Tryd.prog.cellsOf 33 = 1 := by kernel_rfl
@[push_cast] theorem g33 : isAggB Tryd.prog 33 = false := by kernel_rfl
@[push_cast] theorem s33 : (Tryd.prog.underlying 33).isSome = true := by kernel_rfl
@[push_cast] theorem i33 : (Tryd.prog.info? 33).isSome = true := by kernel_rfl
@[push_cast] theorem m33 : concreteB Tryd.prog 33 = true := by kernel_rfl
@[push_cast] theorem a33 : elemOk Tryd.prog 33 = true := by kernel_rfl
@[push_cast] theorem b33 : bytesOf Tryd.prog 33 = 8 := by kernel_rfl
@[push_cast] theorem z33 : zeroD Tryd.prog 33 = some ([.t (.v .nilFunc)]) := by kernel_rfl
@[push_cast] theorem c34 : Tryd.prog.cellsOf 34 = 1 := by kernel_rfl
@[push_cast] theorem g34 : isAggB Tryd.prog 34 = false := by kernel_rfl
@[push_cast] theorem s34 : (Tryd.prog.underlying 34).isSome = true := by kernel_rfl
@[push_cast] theorem i34 : (Tryd.prog.info? 34).isSome = true := by kernel_rfl
@[push_cast] theorem m34 : concreteB Tryd.prog 34 = true := by kernel_rfl
@[push_cast] theorem a34 : elemOk Tryd.prog 34 = true := by kernel_rfl
@[push_cast] theorem b34 : bytesOf Tryd.prog 34 = 8 := by kernel_rfl
@[push_cast] theorem z34 : zeroD Tryd.prog 34 = some ([.t (.v .nilFunc)]) := by kernel_rfl
@[push_cast] theorem c35 : Tryd.prog.cellsOf 35 = 1 := by kernel_rfl
@[push_cast] theorem g35 : isAggB Tryd.prog 35 = false := by kernel_rfl
@[push_cast] theorem s35 : (Tryd.prog.underlying 35).isSome = true := by kernel_rfl
@[push_cast] theorem i35 : (Tryd.prog.info? 35).isSome = true := by kernel_rfl
@[push_cast] theorem m35 : concreteB Tryd.prog 35 = true := by kernel_rfl
@[push_cast] theorem a35 : elemOk Tryd.prog 35 = true := by kernel_rfl
@[push_cast] theorem b35 : bytesOf Tryd.prog 35 = 8 := by kernel_rfl
@[push_cast] theorem z35 : zeroD Tryd.prog 35 = some ([.t (.v .nilFunc)]) := by kernel_rfl
@[push_cast] theorem c36 : Tryd.prog.cellsOf 36 = 1 := by kernel_rfl
@[push_cast] theorem g36 : isAggB Tryd.prog 36 = false := by kernel_rfl
@[push_cast] theorem s36 : (Tryd.prog.underlying 36).isSome = true := by kernel_rfl
@[push_cast] theorem i36 : (Tryd.prog.info? 36).isSome = true := by kernel_rfl
@[push_cast] theorem m36 : concreteB Tryd.prog 36 = true := by kernel_rfl
@[push_cast] theorem a36 : elemOk Tryd.prog 36 = true := by kernel_rfl
@[push_cast] theorem b36 : bytesOf Tryd.prog 36 = 8 := by kernel_rfl
@[push_cast] theorem z36 : zeroD Tryd.prog 36 = some ([.t (.v .nilFunc)]) := by kernel_rfl
@[push_cast] theorem c37 : Tryd.prog.cellsOf 37 = 1 := by kernel_rfl
@[push_cast] theorem g37 : isAggB Tryd.prog 37 = false := by kernel_rfl
@[push_cast] theorem s37 : (Tryd.prog.underlying 37).isSome = true := by kernel_rfl
@[push_cast] theorem i37 : (Tryd.prog.info? 37).isSome = true := by kernel_rfl
@[push_cast] theorem m37 : concreteB Tryd.prog 37 = true := by kernel_rfl
@[push_cast] theorem a37 : elemOk Tryd.prog 37 = true := by kernel_rfl
@[push_cast] theorem b37 : bytesOf Tryd.prog 37 = 24 := by kernel_rfl
@[push_cast] theorem z37 : zeroD Tryd.prog 37 = some ([.t (.v (.slice none 0 0))]) := by kernel_rfl
@[push_cast] theorem u37 : Tryd.prog.underlying 37 = some (.slice 5) := by kernel_rfl
@[push_cast] theorem e37 : Tryd.prog.elem 37 = 5 := by kernel_rfl
@[push_cast] theorem c38 : Tryd.prog.cellsOf 38 = 1 := by kernel_rfl
@[push_cast] theorem g38 : isAggB Tryd.prog 38 = false := by kernel_rfl
@[push_cast] theorem s38 : (Tryd.prog.underlying 38).isSome = true := by kernel_rfl
@[push_cast] theorem i38 : (Tryd.prog.info? 38).isSome = true := by kernel_rfl
@[push_cast] theorem m38 : concreteB Tryd.prog 38 = true := by kernel_rfl
@[push_cast] theorem a38 : elemOk Tryd.prog 38 = true := by kernel_rfl
@[push_cast] theorem b38 : bytesOf Tryd.prog 38 = 8 := by kernel_rfl
@[push_cast] theorem z38 : zeroD Tryd.prog 38 = some ([.t (.v .nilFunc)]) := by kernel_rfl
@[push_cast] theorem c39 : Tryd.prog.cellsOf 39 = 1 := by kernel_rfl
@[push_cast] theorem g39 : isAggB Tryd.prog 39 = false := by kernel_rfl
@[push_cast] theorem s39 : (Tryd.prog.underlying 39).isSome = true := by kernel_rfl
@[push_cast] theorem i39 : (Tryd.prog.info? 39).isSome = true := by kernel_rfl
@[push_cast] theorem m39 : concreteB Tryd.prog 39 = true := by kernel_rfl
@[push_cast] theorem a39 : elemOk Tryd.prog 39 = true := by kernel_rfl
@[push_cast] theorem b39 : bytesOf Tryd.prog 39 = 8 := by kernel_rfl
@[push_cast] theorem z39 : zeroD Tryd.prog 39 = some ([.t (.v .nilFunc)]) := by kernel_rfl
@[push_cast] theorem c40 : Tryd.prog.cellsOf 40 = 1 := by kernel_rfl
@[push_cast] theorem g40 : isAggB Tryd.prog 40 = false := by kernel_rfl
@[push_cast] theorem s40 : (Tryd.prog.underlying 40).isSome = true := by kernel_rfl
@[push_cast] theorem i40 : (Tryd.prog.info? 40).isSome = true := by kernel_rfl
@[push_cast] theorem m40 : concreteB Tryd.prog 40 = true := by kernel_rfl
@[push_cast] theorem a40 : elemOk Tryd.prog 40 = true := by kernel_rfl
@[push_cast] theorem b40 : bytesOf Tryd.prog 40 = 8 := by kernel_rfl
@[push_cast] theorem z40 : zeroD Tryd.prog 40 = some ([.t (.v .nilFunc)]) := by kernel_rfl
@[push_cast] theorem c41 : Tryd.prog.cellsOf 41 = 1 := by kernel_rfl
@[push_cast] theorem g41 : isAggB Tryd.prog 41 = false := by kernel_rfl
@[push_cast] theorem s41 : (Tryd.prog.underlying 41).isSome = true := by kernel_rfl
@[push_cast] theorem i41 : (Tryd.prog.info? 41).isSome = true := by kernel_rfl
@[push_cast] theorem m41 : concreteB Tryd.prog 41 = true := by kernel_rfl
@[push_cast] theorem a41 : elemOk Tryd.prog 41 = true := by kernel_rfl
@[push_cast] theorem b41 : bytesOf Tryd.prog 41 = 8 := by kernel_rfl
@[push_cast] theorem z41 : zeroD Tryd.prog 41 = some ([.t (.v .nilFunc)]) := by kernel_rfl
@[push_cast] theorem c42 : Tryd.prog.cellsOf 42 = 1 := by kernel_rfl
@[push_cast] theorem g42 : isAggB Tryd.prog 42 = false := by kernel_rfl
@[push_cast] theorem s42 : (Tryd.prog.underlying 42).isSome = true := by kernel_rfl
@[push_cast] theorem i42 : (Tryd.prog.info? 42).isSome = true := by kernel_rfl
@[push_cast] theorem m42 : concreteB Tryd.prog 42 = true := by kernel_rfl
@[push_cast] theorem a42 : elemOk Tryd.prog 42 = true := by kernel_rfl
@[push_cast] theorem b42 : bytesOf Tryd.prog 42 = 8 := by kernel_rfl
@[push_cast] theorem z42 : zeroD Tryd.prog 42 = some ([.t (.v .nilFunc)]) := by kernel_rfl
@[push_cast] theorem c43 : Tryd.prog.cellsOf 43 = 1 := by kernel_rfl
@[push_cast] theorem g43 : isAggB Tryd.prog 43 = false := by kernel_rfl
@[push_cast] theorem s43 : (Tryd.prog.underlying 43).isSome = true := by kernel_rfl
@[push_cast] theorem i43 : (Tryd.prog.info? 43).isSome = true := by kernel_rfl
@[push_cast] theorem m43 : concreteB Tryd.prog 43 = true := by kernel_rfl
@[push_cast] theorem a43 : elemOk Tryd.prog 43 = true := by kernel_rfl
@[push_cast] theorem b43 : bytesOf Tryd.prog 43 = 8 := by kernel_rfl
@[push_cast] theorem z43 : zeroD Tryd.prog 43 = some ([.t (.v .nilFunc)]) := by kernel_rfl
@[push_cast] theorem c44 : Tryd.prog.cellsOf 44 = 4 := by kernel_rfl
@[push_cast] theorem g44 : isAggB Tryd.prog 44 = true := by kernel_rfl
@[push_cast] theorem s44 : (Tryd.prog.underlying 44).isSome = true := by kernel_rfl
@[push_cast] theorem i44 : (Tryd.prog.info? 44).isSome = true := by kernel_rfl
@[push_cast] theorem m44 : concreteB Tryd.prog 44 = true := by kernel_rfl
@[push_cast] theorem a44 : elemOk Tryd.prog 44 = true := by kernel_rfl
@[push_cast] theorem b44 : bytesOf Tryd.prog 44 = 64 := by kernel_rfl
@[push_cast] theorem z44 : zeroD Tryd.prog 44 = some ([.t (.v (.string ⟨#[]⟩)), .t (.v (.string ⟨#[]⟩)), .t (.v (.string ⟨#[]⟩)), .t (.v (.string ⟨#[]⟩))]) := by kernel_rfl
@[push_cast] theorem u44 : Tryd.prog.underlying 44 = some (.array 4 9) := by kernel_rfl
@[push_cast] theorem e44 : Tryd.prog.elem 44 = 9 := by kernel_rfl
@[push_cast] theorem l44 : Tryd.prog.arrayLen 44 = 4 := by kernel_rfl
@[push_cast] theorem p44 : placesOk Tryd.prog 44 = true := by kernel_rfl
@[push_cast] theorem q44 (i : Nat) : placeOf Tryd.prog 44 i = some (i * 1, 1) := by rw [placeOf_arr u44, c9]
@[push_cast] theorem c45 : Tryd.prog.cellsOf 45 = 1 := by kernel_rfl
@[push_cast] theorem g45 : isAggB Tryd.prog 45 = false := by kernel_rfl
@[push_cast] theorem s45 : (Tryd.prog.underlying 45).isSome = true := by kernel_rfl
@[push_cast] theorem i45 : (Tryd.prog.info? 45).isSome = true := by kernel_rfl
@[push_cast] theorem m45 : concreteB Tryd.prog 45 = true := by kernel_rfl
@[push_cast] theorem a45 : elemOk Tryd.prog 45 = true := by kernel_rfl
@[push_cast] theorem b45 : bytesOf Tryd.prog 45 = 24 := by kernel_rfl
@[push_cast] theorem z45 : zeroD Tryd.prog 45 = some ([.t (.v (.slice none 0 0))]) := by kernel_rfl
@[push_cast] theorem u45 : Tryd.prog.underlying 45 = some (.slice 56) := by kernel_rfl
@[push_cast] theorem e45 : Tryd.prog.elem 45 = 56 := by kernel_rfl
@[push_cast] theorem c46 : Tryd.prog.cellsOf 46 = 9 := by kernel_rfl
@[push_cast] theorem g46 : isAggB Tryd.prog 46 = true := by kernel_rfl
@[push_cast] theorem s46 : (Tryd.prog.underlying 46).isSome = true := by kernel_rfl
@[push_cast] theorem i46 : (Tryd.prog.info? 46).isSome = true := by kernel_rfl
@[push_cast] theorem m46 : concreteB Tryd.prog 46 = true := by kernel_rfl
@[push_cast] theorem a46 : elemOk Tryd.prog 46 = true := by kernel_rfl
@[push_cast] theorem b46 : bytesOf Tryd.prog 46 = 136 := by kernel_rfl
@[push_cast] theorem z46 : zeroD Tryd.prog 46 = some ([.t (.v (.string ⟨#[]⟩)), .t (.v (.string ⟨#[]⟩)), .t (.v (.string ⟨#[]⟩)), .t (.v (.string ⟨#[]⟩)), .t (.v (.slice none 0 0)), .t (.v (.int .i64 0)), .t (.v (.slice none 0 0)), .t (.v (.int .i64 0)), .t (.v (.bool false))]) := by kernel_rfl
@[push_cast] theorem f46_0 : fieldOf Tryd.prog 46 0 = some (0, 4, 44) := by kernel_rfl
@[push_cast] theorem q46_0 : placeOf Tryd.prog 46 0 = some (0, 4) := by kernel_rfl
@[push_cast] theorem f46_1 : fieldOf Tryd.prog 46 1 = some (4, 1, 45) := by kernel_rfl
@[push_cast] theorem q46_1 : placeOf Tryd.prog 46 1 = some (4, 1) := by kernel_rfl
@[push_cast] theorem f46_2 : fieldOf Tryd.prog 46 2 = some (5, 2, 28) := by kernel_rfl
@[push_cast] theorem q46_2 : placeOf Tryd.prog 46 2 = some (5, 2) := by kernel_rfl
@[push_cast] theorem f46_3 : fieldOf Tryd.prog 46 3 = some (7, 1, 3) := by kernel_rfl
@[push_cast] theorem q46_3 : placeOf Tryd.prog 46 3 = some (7, 1) := by kernel_rfl
@[push_cast] theorem f46_4 : fieldOf Tryd.prog 46 4 = some (8, 1, 4) := by kernel_rfl
@[push_cast] theorem q46_4 : placeOf Tryd.prog 46 4 = some (8, 1) := by kernel_rfl
@[push_cast] theorem p46 : placesOk Tryd.prog 46 = true := by kernel_rfl
@[push_cast] theorem c47 : Tryd.prog.cellsOf 47 = 9 := by kernel_rfl
@[push_cast] theorem g47 : isAggB Tryd.prog 47 = true := by kernel_rfl
@[push_cast] theorem s47 : (Tryd.prog.underlying 47).isSome = true := by kernel_rfl
@[push_cast] theorem i47 : (Tryd.prog.info? 47).isSome = true := by kernel_rfl
@[push_cast] theorem m47 : concreteB Tryd.prog 47 = true := by kernel_rfl
@[push_cast] theorem a47 : elemOk Tryd.prog 47 = true := by kernel_rfl
@[push_cast] theorem b47 : bytesOf Tryd.prog 47 = 136 := by kernel_rfl
@[push_cast] theorem z47 : zeroD Tryd.prog 47 = some ([.t (.v (.string ⟨#[]⟩)), .t (.v (.string ⟨#[]⟩)), .t (.v (.string ⟨#[]⟩)), .t (.v (.string ⟨#[]⟩)), .t (.v (.slice none 0 0)), .t (.v (.int .i64 0)), .t (.v (.slice none 0 0)), .t (.v (.int .i64 0)), .t (.v (.bool false))]) := by kernel_rfl
@[push_cast] theorem f47_0 : fieldOf Tryd.prog 47 0 = some (0, 4, 44) := by kernel_rfl
@[push_cast] theorem q47_0 : placeOf Tryd.prog 47 0 = some (0, 4) := by kernel_rfl
@[push_cast] theorem f47_1 : fieldOf Tryd.prog 47 1 = some (4, 1, 45) := by kernel_rfl
@[push_cast] theorem q47_1 : placeOf Tryd.prog 47 1 = some (4, 1) := by kernel_rfl
@[push_cast] theorem f47_2 : fieldOf Tryd.prog 47 2 = some (5, 2, 28) := by kernel_rfl
@[push_cast] theorem q47_2 : placeOf Tryd.prog 47 2 = some (5, 2) := by kernel_rfl
@[push_cast] theorem f47_3 : fieldOf Tryd.prog 47 3 = some (7, 1, 3) := by kernel_rfl
@[push_cast] theorem q47_3 : placeOf Tryd.prog 47 3 = some (7, 1) := by kernel_rfl
@[push_cast] theorem f47_4 : fieldOf Tryd.prog 47 4 = some (8, 1, 4) := by kernel_rfl
@[push_cast] theorem q47_4 : placeOf Tryd.prog 47 4 = some (8, 1) := by kernel_rfl
@[push_cast] theorem p47 : placesOk Tryd.prog 47 = true := by kernel_rfl
@[push_cast] theorem c48 : Tryd.prog.cellsOf 48 = 4 := by kernel_rfl
@[push_cast] theorem g48 : isAggB Tryd.prog 48 = true := by kernel_rfl
@[push_cast] theorem s48 : (Tryd.prog.underlying 48).isSome = true := by kernel_rfl
@[push_cast] theorem i48 : (Tryd.prog.info? 48).isSome = true := by kernel_rfl
@[push_cast] theorem m48 : concreteB Tryd.prog 48 = true := by kernel_rfl
@[push_cast] theorem a48 : elemOk Tryd.prog 48 = true := by kernel_rfl
@[push_cast] theorem b48 : bytesOf Tryd.prog 48 = 40 := by kernel_rfl
@[push_cast] theorem z48 : zeroD Tryd.prog 48 = some ([.t (.v (.pointer none)), .t (.v (.int .i64 0)), .t (.v (.string ⟨#[]⟩)), .t (.v (.bool false))]) := by kernel_rfl
@[push_cast] theorem f48_0 : fieldOf Tryd.prog 48 0 = some (0, 1, 25) := by kernel_rfl
@[push_cast] theorem q48_0 : placeOf Tryd.prog 48 0 = some (0, 1) := by kernel_rfl
@[push_cast] theorem f48_1 : fieldOf Tryd.prog 48 1 = some (1, 1, 3) := by kernel_rfl
@[push_cast] theorem q48_1 : placeOf Tryd.prog 48 1 = some (1, 1) := by kernel_rfl
@[push_cast] theorem f48_2 : fieldOf Tryd.prog 48 2 = some (2, 1, 9) := by kernel_rfl
@[push_cast] theorem q48_2 : placeOf Tryd.prog 48 2 = some (2, 1) := by kernel_rfl
@[push_cast] theorem f48_3 : fieldOf Tryd.prog 48 3 = some (3, 1, 4) := by kernel_rfl
@[push_cast] theorem q48_3 : placeOf Tryd.prog 48 3 = some (3, 1) := by kernel_rfl
@[push_cast] theorem p48 : placesOk Tryd.prog 48 = true := by kernel_rfl
@[push_cast] theorem c49 : Tryd.prog.cellsOf 49 = 4 := by kernel_rfl
@[push_cast] theorem g49 : isAggB Tryd.prog 49 = true := by kernel_rfl
@[push_cast] theorem s49 : (Tryd.prog.underlying 49).isSome = true := by kernel_rfl
@[push_cast] theorem i49 : (Tryd.prog.info? 49).isSome = true := by kernel_rfl
@[push_cast] theorem m49 : concreteB Tryd.prog 49 = true := by kernel_rfl
@[push_cast] theorem a49 : elemOk Tryd.prog 49 = true := by kernel_rfl
@[push_cast] theorem b49 : bytesOf Tryd.prog 49 = 40 := by kernel_rfl
@[push_cast] theorem z49 : zeroD Tryd.prog 49 = some ([.t (.v (.pointer none)), .t (.v (.int .i64 0)), .t (.v (.string ⟨#[]⟩)), .t (.v (.bool false))]) := by kernel_rfl
@[push_cast] theorem f49_0 : fieldOf Tryd.prog 49 0 = some (0, 1, 25) := by kernel_rfl
@[push_cast] theorem q49_0 : placeOf Tryd.prog 49 0 = some (0, 1) := by kernel_rfl
@[push_cast] theorem f49_1 : fieldOf Tryd.prog 49 1 = some (1, 1, 3) := by kernel_rfl
@[push_cast] theorem q49_1 : placeOf Tryd.prog 49 1 = some (1, 1) := by kernel_rfl
@[push_cast] theorem f49_2 : fieldOf Tryd.prog 49 2 = some (2, 1, 9) := by kernel_rfl
@[push_cast] theorem q49_2 : placeOf Tryd.prog 49 2 = some (2, 1) := by kernel_rfl
@[push_cast] theorem f49_3 : fieldOf Tryd.prog 49 3 = some (3, 1, 4) := by kernel_rfl
@[push_cast] theorem q49_3 : placeOf Tryd.prog 49 3 = some (3, 1) := by kernel_rfl
@[push_cast] theorem p49 : placesOk Tryd.prog 49 = true := by kernel_rfl
@[push_cast] theorem c50 : Tryd.prog.cellsOf 50 = 1 := by kernel_rfl
@[push_cast] theorem g50 : isAggB Tryd.prog 50 = false := by kernel_rfl
@[push_cast] theorem s50 : (Tryd.prog.underlying 50).isSome = true := by kernel_rfl
@[push_cast] theorem i50 : (Tryd.prog.info? 50).isSome = true := by kernel_rfl
@[push_cast] theorem a50 : elemOk Tryd.prog 50 = true := by kernel_rfl
@[push_cast] theorem b50 : bytesOf Tryd.prog 50 = 16 := by kernel_rfl
@[push_cast] theorem z50 : zeroD Tryd.prog 50 = some ([.t (.v .nilIface)]) := by kernel_rfl
@[push_cast] theorem u50 : Tryd.prog.underlying 50 = some (.interface (Tryd.prog.methodsAt 50)) := by kernel_rfl
@[push_cast] theorem c51 : Tryd.prog.cellsOf 51 = 1 := by kernel_rfl
@[push_cast] theorem g51 : isAggB Tryd.prog 51 = false := by kernel_rfl
@[push_cast] theorem s51 : (Tryd.prog.underlying 51).isSome = true := by kernel_rfl
@[push_cast] theorem i51 : (Tryd.prog.info? 51).isSome = true := by kernel_rfl
@[push_cast] theorem a51 : elemOk Tryd.prog 51 = true := by kernel_rfl
@[push_cast] theorem b51 : bytesOf Tryd.prog 51 = 16 := by kernel_rfl
@[push_cast] theorem z51 : zeroD Tryd.prog 51 = some ([.t (.v .nilIface)]) := by kernel_rfl
@[push_cast] theorem u51 : Tryd.prog.underlying 51 = some (.interface (Tryd.prog.methodsAt 51)) := by kernel_rfl
@[push_cast] theorem c52 : Tryd.prog.cellsOf 52 = 1 := by kernel_rfl
@[push_cast] theorem g52 : isAggB Tryd.prog 52 = false := by kernel_rfl
@[push_cast] theorem s52 : (Tryd.prog.underlying 52).isSome = true := by kernel_rfl
@[push_cast] theorem i52 : (Tryd.prog.info? 52).isSome = true := by kernel_rfl
@[push_cast] theorem m52 : concreteB Tryd.prog 52 = true := by kernel_rfl
@[push_cast] theorem a52 : elemOk Tryd.prog 52 = true := by kernel_rfl
@[push_cast] theorem b52 : bytesOf Tryd.prog 52 = 8 := by kernel_rfl
@[push_cast] theorem z52 : zeroD Tryd.prog 52 = some ([.t (.v .nilFunc)]) := by kernel_rfl
@[push_cast] theorem c53 : Tryd.prog.cellsOf 53 = 1 := by kernel_rfl
@[push_cast] theorem g53 : isAggB Tryd.prog 53 = false := by kernel_rfl
@[push_cast] theorem s53 : (Tryd.prog.underlying 53).isSome = true := by kernel_rfl
@[push_cast] theorem i53 : (Tryd.prog.info? 53).isSome = true := by kernel_rfl
@[push_cast] theorem m53 : concreteB Tryd.prog 53 = true := by kernel_rfl
@[push_cast] theorem a53 : elemOk Tryd.prog 53 = true := by kernel_rfl
@[push_cast] theorem b53 : bytesOf Tryd.prog 53 = 8 := by kernel_rfl
@[push_cast] theorem z53 : zeroD Tryd.prog 53 = some ([.t (.v .nilFunc)]) := by kernel_rfl
@[push_cast] theorem c54 : Tryd.prog.cellsOf 54 = 1 := by kernel_rfl
@[push_cast] theorem g54 : isAggB Tryd.prog 54 = false := by kernel_rfl
@[push_cast] theorem s54 : (Tryd.prog.underlying 54).isSome = true := by kernel_rfl
@[push_cast] theorem i54 : (Tryd.prog.info? 54).isSome = true := by kernel_rfl
@[push_cast] theorem m54 : concreteB Tryd.prog 54 = true := by kernel_rfl
@[push_cast] theorem a54 : elemOk Tryd.prog 54 = true := by kernel_rfl
@[push_cast] theorem b54 : bytesOf Tryd.prog 54 = 8 := by kernel_rfl
@[push_cast] theorem z54 : zeroD Tryd.prog 54 = some ([.t (.v .nilFunc)]) := by kernel_rfl
@[push_cast] theorem c55 : Tryd.prog.cellsOf 55 = 2 := by kernel_rfl
@[push_cast] theorem g55 : isAggB Tryd.prog 55 = true := by kernel_rfl
@[push_cast] theorem s55 : (Tryd.prog.underlying 55).isSome = true := by kernel_rfl
@[push_cast] theorem i55 : (Tryd.prog.info? 55).isSome = true := by kernel_rfl
@[push_cast] theorem m55 : concreteB Tryd.prog 55 = true := by kernel_rfl
@[push_cast] theorem a55 : elemOk Tryd.prog 55 = true := by kernel_rfl
@[push_cast] theorem b55 : bytesOf Tryd.prog 55 = 24 := by kernel_rfl
@[push_cast] theorem z55 : zeroD Tryd.prog 55 = some ([.t (.v (.int .i64 0)), .t (.v (.string ⟨#[]⟩))]) := by kernel_rfl
@[push_cast] theorem f55_0 : fieldOf Tryd.prog 55 0 = some (0, 1, 3) := by kernel_rfl
@[push_cast] theorem q55_0 : placeOf Tryd.prog 55 0 = some (0, 1) := by kernel_rfl
@[push_cast] theorem f55_1 : fieldOf Tryd.prog 55 1 = some (1, 1, 9) := by kernel_rfl
@[push_cast] theorem q55_1 : placeOf Tryd.prog 55 1 = some (1, 1) := by kernel_rfl
@[push_cast] theorem p55 : placesOk Tryd.prog 55 = true := by kernel_rfl
@[push_cast] theorem c56 : Tryd.prog.cellsOf 56 = 2 := by kernel_rfl
@[push_cast] theorem g56 : isAggB Tryd.prog 56 = true := by kernel_rfl
@[push_cast] theorem s56 : (Tryd.prog.underlying 56).isSome = true := by kernel_rfl
@[push_cast] theorem i56 : (Tryd.prog.info? 56).isSome = true := by kernel_rfl
@[push_cast] theorem m56 : concreteB Tryd.prog 56 = true := by kernel_rfl
@[push_cast] theorem a56 : elemOk Tryd.prog 56 = true := by kernel_rfl
@[push_cast] theorem b56 : bytesOf Tryd.prog 56 = 24 := by kernel_rfl
@[push_cast] theorem z56 : zeroD Tryd.prog 56 = some ([.t (.v (.int .i64 0)), .t (.v (.string ⟨#[]⟩))]) := by kernel_rfl
@[push_cast] theorem f56_0 : fieldOf Tryd.prog 56 0 = some (0, 1, 3) := by kernel_rfl
@[push_cast] theorem q56_0 : placeOf Tryd.prog 56 0 = some (0, 1) := by kernel_rfl
@[push_cast] theorem f56_1 : fieldOf Tryd.prog 56 1 = some (1, 1, 9) := by kernel_rfl
@[push_cast] theorem q56_1 : placeOf Tryd.prog 56 1 = some (1, 1) := by kernel_rfl
@[push_cast] theorem p56 : placesOk Tryd.prog 56 = true := by kernel_rfl
@[push_cast] theorem c57 : Tryd.prog.cellsOf 57 = 1 := by kernel_rfl
@[push_cast] theorem g57 : isAggB Tryd.prog 57 = false := by kernel_rfl
@[push_cast] theorem s57 : (Tryd.prog.underlying 57).isSome = true := by kernel_rfl
@[push_cast] theorem i57 : (Tryd.prog.info? 57).isSome = true := by kernel_rfl
@[push_cast] theorem m57 : concreteB Tryd.prog 57 = true := by kernel_rfl
@[push_cast] theorem a57 : elemOk Tryd.prog 57 = true := by kernel_rfl
@[push_cast] theorem b57 : bytesOf Tryd.prog 57 = 8 := by kernel_rfl
@[push_cast] theorem z57 : zeroD Tryd.prog 57 = some ([.t (.v (.int .u64 0))]) := by kernel_rfl
@[push_cast] theorem u57 : Tryd.prog.underlying 57 = some (.int .u64) := by kernel_rfl
@[push_cast] theorem c59 : Tryd.prog.cellsOf 59 = 1 := by kernel_rfl
@[push_cast] theorem g59 : isAggB Tryd.prog 59 = false := by kernel_rfl
@[push_cast] theorem s59 : (Tryd.prog.underlying 59).isSome = true := by kernel_rfl
@[push_cast] theorem i59 : (Tryd.prog.info? 59).isSome = true := by kernel_rfl
@[push_cast] theorem m59 : concreteB Tryd.prog 59 = true := by kernel_rfl
@[push_cast] theorem a59 : elemOk Tryd.prog 59 = true := by kernel_rfl
@[push_cast] theorem b59 : bytesOf Tryd.prog 59 = 8 := by kernel_rfl
@[push_cast] theorem z59 : zeroD Tryd.prog 59 = some ([.t (.v .nilFunc)]) := by kernel_rfl
@[push_cast] theorem c60 : Tryd.prog.cellsOf 60 = 1 := by kernel_rfl
@[push_cast] theorem g60 : isAggB Tryd.prog 60 = false := by kernel_rfl
@[push_cast] theorem s60 : (Tryd.prog.underlying 60).isSome = true := by kernel_rfl
@[push_cast] theorem i60 : (Tryd.prog.info? 60).isSome = true := by kernel_rfl
@[push_cast] theorem m60 : concreteB Tryd.prog 60 = true := by kernel_rfl
@[push_cast] theorem a60 : elemOk Tryd.prog 60 = true := by kernel_rfl
@[push_cast] theorem b60 : bytesOf Tryd.prog 60 = 8 := by kernel_rfl
@[push_cast] theorem z60 : zeroD Tryd.prog 60 = some ([.t (.v .nilFunc)]) := by kernel_rfl
@[push_cast] theorem c61 : Tryd.prog.cellsOf 61 = 1 := by kernel_rfl
@[push_cast] theorem g61 : isAggB Tryd.prog 61 = false := by kernel_rfl
@[push_cast] theorem s61 : (Tryd.prog.underlying 61).isSome = true := by kernel_rfl
@[push_cast] theorem i61 : (Tryd.prog.info? 61).isSome = true := by kernel_rfl
@[push_cast] theorem m61 : concreteB Tryd.prog 61 = true := by kernel_rfl
@[push_cast] theorem a61 : elemOk Tryd.prog 61 = true := by kernel_rfl
@[push_cast] theorem b61 : bytesOf Tryd.prog 61 = 24 := by kernel_rfl
@[push_cast] theorem z61 : zeroD Tryd.prog 61 = some ([.t (.v (.slice none 0 0))]) := by kernel_rfl
@[push_cast] theorem u61 : Tryd.prog.underlying 61 = some (.slice 63) := by kernel_rfl
@[push_cast] theorem e61 : Tryd.prog.elem 61 = 63 := by kernel_rfl
@[push_cast] theorem c62 : Tryd.prog.cellsOf 62 = 4 := by kernel_rfl
@[push_cast] theorem g62 : isAggB Tryd.prog 62 = true := by kernel_rfl
@[push_cast] theorem s62 : (Tryd.prog.underlying 62).isSome = true := by kernel_rfl
@[push_cast] theorem i62 : (Tryd.prog.info? 62).isSome = true := by kernel_rfl
@[push_cast] theorem m62 : concreteB Tryd.prog 62 = true := by kernel_rfl
@[push_cast] theorem a62 : elemOk Tryd.prog 62 = true := by kernel_rfl
@[push_cast] theorem b62 : bytesOf Tryd.prog 62 = 56 := by kernel_rfl
@[push_cast] theorem z62 : zeroD Tryd.prog 62 = some ([.t (.v (.int .i64 0)), .t (.v (.int .i64 0)), .t (.v (.string ⟨#[]⟩)), .t (.v (.slice none 0 0))]) := by kernel_rfl
@[push_cast] theorem f62_0 : fieldOf Tryd.prog 62 0 = some (0, 1, 3) := by kernel_rfl
@[push_cast] theorem q62_0 : placeOf Tryd.prog 62 0 = some (0, 1) := by kernel_rfl
@[push_cast] theorem f62_1 : fieldOf Tryd.prog 62 1 = some (1, 1, 3) := by kernel_rfl
@[push_cast] theorem q62_1 : placeOf Tryd.prog 62 1 = some (1, 1) := by kernel_rfl
@[push_cast] theorem f62_2 : fieldOf Tryd.prog 62 2 = some (2, 1, 9) := by kernel_rfl
@[push_cast] theorem q62_2 : placeOf Tryd.prog 62 2 = some (2, 1) := by kernel_rfl
@[push_cast] theorem f62_3 : fieldOf Tryd.prog 62 3 = some (3, 1, 61) := by kernel_rfl
@[push_cast] theorem q62_3 : placeOf Tryd.prog 62 3 = some (3, 1) := by kernel_rfl
@[push_cast] theorem p62 : placesOk Tryd.prog 62 = true := by kernel_rfl
@[push_cast] theorem c63 : Tryd.prog.cellsOf 63 = 4 := by kernel_rfl
@[push_cast] theorem g63 : isAggB Tryd.prog 63 = true := by kernel_rfl
@[push_cast] theorem s63 : (Tryd.prog.underlying 63).isSome = true := by kernel_rfl
@[push_cast] theorem i63 : (Tryd.prog.info? 63).isSome = true := by kernel_rfl
@[push_cast] theorem m63 : concreteB Tryd.prog 63 = true := by kernel_rfl
@[push_cast] theorem a63 : elemOk Tryd.prog 63 = true := by kernel_rfl
@[push_cast] theorem b63 : bytesOf Tryd.prog 63 = 56 := by kernel_rfl
@[push_cast] theorem z63 : zeroD Tryd.prog 63 = some ([.t (.v (.int .i64 0)), .t (.v (.int .i64 0)), .t (.v (.string ⟨#[]⟩)), .t (.v (.slice none 0 0))]) := by kernel_rfl
@[push_cast] theorem f63_0 : fieldOf Tryd.prog 63 0 = some (0, 1, 3) := by kernel_rfl
@[push_cast] theorem q63_0 : placeOf Tryd.prog 63 0 = some (0, 1) := by kernel_rfl
@[push_cast] theorem f63_1 : fieldOf Tryd.prog 63 1 = some (1, 1, 3) := by kernel_rfl
@[push_cast] theorem q63_1 : placeOf Tryd.prog 63 1 = some (1, 1) := by kernel_rfl
@[push_cast] theorem f63_2 : fieldOf Tryd.prog 63 2 = some (2, 1, 9) := by kernel_rfl
@[push_cast] theorem q63_2 : placeOf Tryd.prog 63 2 = some (2, 1) := by kernel_rfl
@[push_cast] theorem f63_3 : fieldOf Tryd.prog 63 3 = some (3, 1, 61) := by kernel_rfl
@[push_cast] theorem q63_3 : placeOf Tryd.prog 63 3 = some (3, 1) := by kernel_rfl
@[push_cast] theorem p63 : placesOk Tryd.prog 63 = true := by kernel_rfl
@[push_cast] theorem c65 : Tryd.prog.cellsOf 65 = 1 := by kernel_rfl
@[push_cast] theorem g65 : isAggB Tryd.prog 65 = false := by kernel_rfl
@[push_cast] theorem s65 : (Tryd.prog.underlying 65).isSome = true := by kernel_rfl
@[push_cast] theorem i65 : (Tryd.prog.info? 65).isSome = true := by kernel_rfl
@[push_cast] theorem m65 : concreteB Tryd.prog 65 = true := by kernel_rfl
@[push_cast] theorem a65 : elemOk Tryd.prog 65 = true := by kernel_rfl
@[push_cast] theorem b65 : bytesOf Tryd.prog 65 = 8 := by kernel_rfl
@[push_cast] theorem z65 : zeroD Tryd.prog 65 = some ([.t (.v .nilFunc)]) := by kernel_rfl
@[push_cast] theorem c66 : Tryd.prog.cellsOf 66 = 1 := by kernel_rfl
@[push_cast] theorem g66 : isAggB Tryd.prog 66 = true := by kernel_rfl
@[push_cast] theorem s66 : (Tryd.prog.underlying 66).isSome = true := by kernel_rfl
@[push_cast] theorem i66 : (Tryd.prog.info? 66).isSome = true := by kernel_rfl
@[push_cast] theorem m66 : concreteB Tryd.prog 66 = true := by kernel_rfl
@[push_cast] theorem a66 : elemOk Tryd.prog 66 = true := by kernel_rfl
@[push_cast] theorem b66 : bytesOf Tryd.prog 66 = 8 := by kernel_rfl
@[push_cast] theorem z66 : zeroD Tryd.prog 66 = some ([.t (.v (.int .i64 0))]) := by kernel_rfl
@[push_cast] theorem f66_0 : fieldOf Tryd.prog 66 0 = some (0, 1, 30) := by kernel_rfl
@[push_cast] theorem q66_0 : placeOf Tryd.prog 66 0 = some (0, 1) := by kernel_rfl
@[push_cast] theorem p66 : placesOk Tryd.prog 66 = true := by kernel_rfl
@[push_cast] theorem c67 : Tryd.prog.cellsOf 67 = 1 := by kernel_rfl
@[push_cast] theorem g67 : isAggB Tryd.prog 67 = true := by kernel_rfl
@[push_cast] theorem s67 : (Tryd.prog.underlying 67).isSome = true := by kernel_rfl
@[push_cast] theorem i67 : (Tryd.prog.info? 67).isSome = true := by kernel_rfl
@[push_cast] theorem m67 : concreteB Tryd.prog 67 = true := by kernel_rfl
@[push_cast] theorem a67 : elemOk Tryd.prog 67 = true := by kernel_rfl
@[push_cast] theorem b67 : bytesOf Tryd.prog 67 = 8 := by kernel_rfl
@[push_cast] theorem z67 : zeroD Tryd.prog 67 = some ([.t (.v (.int .i64 0))]) := by kernel_rfl
@[push_cast] theorem f67_0 : fieldOf Tryd.prog 67 0 = some (0, 1, 30) := by kernel_rfl
@[push_cast] theorem q67_0 : placeOf Tryd.prog 67 0 = some (0, 1) := by kernel_rfl
@[push_cast] theorem p67 : placesOk Tryd.prog 67 = true := by kernel_rfl
@[push_cast] theorem c68 : Tryd.prog.cellsOf 68 = 1 := by kernel_rfl
@[push_cast] theorem g68 : isAggB Tryd.prog 68 = false := by kernel_rfl
@[push_cast] theorem s68 : (Tryd.prog.underlying 68).isSome = true := by kernel_rfl
@[push_cast] theorem i68 : (Tryd.prog.info? 68).isSome = true := by kernel_rfl
@[push_cast] theorem m68 : concreteB Tryd.prog 68 = true := by kernel_rfl
@[push_cast] theorem a68 : elemOk Tryd.prog 68 = true := by kernel_rfl
@[push_cast] theorem b68 : bytesOf Tryd.prog 68 = 8 := by kernel_rfl
@[push_cast] theorem z68 : zeroD Tryd.prog 68 = some ([.t (.v .nilFunc)]) := by kernel_rfl
@[push_cast] theorem c69 : Tryd.prog.cellsOf 69 = 1 := by kernel_rfl
@[push_cast] theorem g69 : isAggB Tryd.prog 69 = false := by kernel_rfl
@[push_cast] theorem s69 : (Tryd.prog.underlying 69).isSome = true := by kernel_rfl
@[push_cast] theorem i69 : (Tryd.prog.info? 69).isSome = true := by kernel_rfl
@[push_cast] theorem m69 : concreteB Tryd.prog 69 = true := by kernel_rfl
@[push_cast] theorem a69 : elemOk Tryd.prog 69 = true := by kernel_rfl
@[push_cast] theorem b69 : bytesOf Tryd.prog 69 = 8 := by kernel_rfl
@[push_cast] theorem z69 : zeroD Tryd.prog 69 = some ([.t (.v (.pointer none))]) := by kernel_rfl
@[push_cast] theorem c70 : Tryd.prog.cellsOf 70 = 1 := by kernel_rfl
@[push_cast] theorem g70 : isAggB Tryd.prog 70 = false := by kernel_rfl
@[push_cast] theorem s70 : (Tryd.prog.underlying 70).isSome = true := by kernel_rfl
@[push_cast] theorem i70 : (Tryd.prog.info? 70).isSome = true := by kernel_rfl
@[push_cast] theorem m70 : concreteB Tryd.prog 70 = true := by kernel_rfl
@[push_cast] theorem a70 : elemOk Tryd.prog 70 = true := by kernel_rfl
@[push_cast] theorem b70 : bytesOf Tryd.prog 70 = 8 := by kernel_rfl
@[push_cast] theorem z70 : zeroD Tryd.prog 70 = some ([.t (.v .nilFunc)]) := by kernel_rfl
@[push_cast] theorem c71 : Tryd.prog.cellsOf 71 = 1 := by kernel_rfl
@[push_cast] theorem g71 : isAggB Tryd.prog 71 = false := by kernel_rfl
@[push_cast] theorem s71 : (Tryd.prog.underlying 71).isSome = true := by kernel_rfl
@[push_cast] theorem i71 : (Tryd.prog.info? 71).isSome = true := by kernel_rfl
@[push_cast] theorem m71 : concreteB Tryd.prog 71 = true := by kernel_rfl
@[push_cast] theorem a71 : elemOk Tryd.prog 71 = true := by kernel_rfl
@[push_cast] theorem b71 : bytesOf Tryd.prog 71 = 8 := by kernel_rfl
@[push_cast] theorem z71 : zeroD Tryd.prog 71 = some ([.t (.v .nilFunc)]) := by kernel_rfl
@[push_cast] theorem c72 : Tryd.prog.cellsOf 72 = 1 := by kernel_rfl
@[push_cast] theorem g72 : isAggB Tryd.prog 72 = false := by kernel_rfl
@[push_cast] theorem s72 : (Tryd.prog.underlying 72).isSome = true := by kernel_rfl
@[push_cast] theorem i72 : (Tryd.prog.info? 72).isSome = true := by kernel_rfl
@[push_cast] theorem m72 : concreteB Tryd.prog 72 = true := by kernel_rfl
@[push_cast] theorem a72 : elemOk Tryd.prog 72 = true := by kernel_rfl
@[push_cast] theorem b72 : bytesOf Tryd.prog 72 = 8 := by kernel_rfl
@[push_cast] theorem z72 : zeroD Tryd.prog 72 = some ([.t (.v .nilFunc)]) := by kernel_rfl
@[push_cast] theorem c73 : Tryd.prog.cellsOf 73 = 1 := by kernel_rfl
@[push_cast] theorem g73 : isAggB Tryd.prog 73 = false := by kernel_rfl
@[push_cast] theorem s73 : (Tryd.prog.underlying 73).isSome = true := by kernel_rfl
@[push_cast] theorem i73 : (Tryd.prog.info? 73).isSome = true := by kernel_rfl
@[push_cast] theorem m73 : concreteB Tryd.prog 73 = true := by kernel_rfl
@[push_cast] theorem a73 : elemOk Tryd.prog 73 = true := by kernel_rfl
@[push_cast] theorem b73 : bytesOf Tryd.prog 73 = 8 := by kernel_rfl
@[push_cast] theorem z73 : zeroD Tryd.prog 73 = some ([.t (.v .nilFunc)]) := by kernel_rfl
@[push_cast] theorem c74 : Tryd.prog.cellsOf 74 = 1 := by kernel_rfl
@[push_cast] theorem g74 : isAggB Tryd.prog 74 = false := by kernel_rfl
@[push_cast] theorem s74 : (Tryd.prog.underlying 74).isSome = true := by kernel_rfl
@[push_cast] theorem i74 : (Tryd.prog.info? 74).isSome = true := by kernel_rfl
@[push_cast] theorem m74 : concreteB Tryd.prog 74 = true := by kernel_rfl
@[push_cast] theorem a74 : elemOk Tryd.prog 74 = true := by kernel_rfl
@[push_cast] theorem b74 : bytesOf Tryd.prog 74 = 8 := by kernel_rfl
@[push_cast] theorem z74 : zeroD Tryd.prog 74 = some ([.t (.v .nilFunc)]) := by kernel_rfl
@[push_cast] theorem c75 : Tryd.prog.cellsOf 75 = 1 := by kernel_rfl
@[push_cast] theorem g75 : isAggB Tryd.prog 75 = false := by kernel_rfl
@[push_cast] theorem s75 : (Tryd.prog.underlying 75).isSome = true := by kernel_rfl
@[push_cast] theorem i75 : (Tryd.prog.info? 75).isSome = true := by kernel_rfl
@[push_cast] theorem m75 : concreteB Tryd.prog 75 = true := by kernel_rfl
@[push_cast] theorem a75 : elemOk Tryd.prog 75 = true := by kernel_rfl
@[push_cast] theorem b75 : bytesOf Tryd.prog 75 = 8 := by kernel_rfl
@[push_cast] theorem z75 : zeroD Tryd.prog 75 = some ([.t (.v .nilFunc)]) := by kernel_rfl
@[push_cast] theorem c76 : Tryd.prog.cellsOf 76 = 2 := by kernel_rfl
@[push_cast] theorem g76 : isAggB Tryd.prog 76 = true := by kernel_rfl
@[push_cast] theorem s76 : (Tryd.prog.underlying 76).isSome = true := by kernel_rfl
@[push_cast] theorem i76 : (Tryd.prog.info? 76).isSome = true := by kernel_rfl
@[push_cast] theorem m76 : concreteB Tryd.prog 76 = true := by kernel_rfl
@[push_cast] theorem a76 : elemOk Tryd.prog 76 = true := by kernel_rfl
@[push_cast] theorem b76 : bytesOf Tryd.prog 76 = 24 := by kernel_rfl
@[push_cast] theorem z76 : zeroD Tryd.prog 76 = some ([.t (.v (.int .i64 0)), .t (.v .nilIface)]) := by kernel_rfl
@[push_cast] theorem f76_0 : fieldOf Tryd.prog 76 0 = some (0, 1, 3) := by kernel_rfl
@[push_cast] theorem q76_0 : placeOf Tryd.prog 76 0 = some (0, 1) := by kernel_rfl
@[push_cast] theorem f76_1 : fieldOf Tryd.prog 76 1 = some (1, 1, 51) := by kernel_rfl
@[push_cast] theorem q76_1 : placeOf Tryd.prog 76 1 = some (1, 1) := by kernel_rfl
@[push_cast] theorem p76 : placesOk Tryd.prog 76 = true := by kernel_rfl
@[push_cast] theorem c77 : Tryd.prog.cellsOf 77 = 2 := by kernel_rfl
@[push_cast] theorem g77 : isAggB Tryd.prog 77 = true := by kernel_rfl
@[push_cast] theorem s77 : (Tryd.prog.underlying 77).isSome = true := by kernel_rfl
@[push_cast] theorem i77 : (Tryd.prog.info? 77).isSome = true := by kernel_rfl
@[push_cast] theorem m77 : concreteB Tryd.prog 77 = true := by kernel_rfl
@[push_cast] theorem a77 : elemOk Tryd.prog 77 = true := by kernel_rfl
@[push_cast] theorem b77 : bytesOf Tryd.prog 77 = 24 := by kernel_rfl
@[push_cast] theorem z77 : zeroD Tryd.prog 77 = some ([.t (.v (.int .i64 0)), .t (.v .nilIface)]) := by kernel_rfl
@[push_cast] theorem f77_0 : fieldOf Tryd.prog 77 0 = some (0, 1, 3) := by kernel_rfl
@[push_cast] theorem q77_0 : placeOf Tryd.prog 77 0 = some (0, 1) := by kernel_rfl
@[push_cast] theorem f77_1 : fieldOf Tryd.prog 77 1 = some (1, 1, 51) := by kernel_rfl
@[push_cast] theorem q77_1 : placeOf Tryd.prog 77 1 = some (1, 1) := by kernel_rfl
@[push_cast] theorem p77 : placesOk Tryd.prog 77 = true := by kernel_rfl
@[push_cast] theorem c78 : Tryd.prog.cellsOf 78 = 1 := by kernel_rfl
@[push_cast] theorem g78 : isAggB Tryd.prog 78 = false := by kernel_rfl
@[push_cast] theorem s78 : (Tryd.prog.underlying 78).isSome = true := by kernel_rfl
@[push_cast] theorem i78 : (Tryd.prog.info? 78).isSome = true := by kernel_rfl
@[push_cast] theorem m78 : concreteB Tryd.prog 78 = true := by kernel_rfl
@[push_cast] theorem a78 : elemOk Tryd.prog 78 = true := by kernel_rfl
@[push_cast] theorem b78 : bytesOf Tryd.prog 78 = 8 := by kernel_rfl
@[push_cast] theorem z78 : zeroD Tryd.prog 78 = some ([.t (.v (.pointer none))]) := by kernel_rfl
@[push_cast] theorem c79 : Tryd.prog.cellsOf 79 = 1 := by kernel_rfl
@[push_cast] theorem g79 : isAggB Tryd.prog 79 = true := by kernel_rfl
@[push_cast] theorem s79 : (Tryd.prog.underlying 79).isSome = true := by kernel_rfl
@[push_cast] theorem i79 : (Tryd.prog.info? 79).isSome = true := by kernel_rfl
@[push_cast] theorem m79 : concreteB Tryd.prog 79 = true := by kernel_rfl
@[push_cast] theorem a79 : elemOk Tryd.prog 79 = true := by kernel_rfl
@[push_cast] theorem b79 : bytesOf Tryd.prog 79 = 16 := by kernel_rfl
@[push_cast] theorem z79 : zeroD Tryd.prog 79 = some ([.t (.v (.string ⟨#[]⟩))]) := by kernel_rfl
@[push_cast] theorem f79_0 : fieldOf Tryd.prog 79 0 = some (0, 1, 9) := by kernel_rfl
@[push_cast] theorem q79_0 : placeOf Tryd.prog 79 0 = some (0, 1) := by kernel_rfl
@[push_cast] theorem p79 : placesOk Tryd.prog 79 = true := by kernel_rfl
@[push_cast] theorem c80 : Tryd.prog.cellsOf 80 = 1 := by kernel_rfl
@[push_cast] theorem g80 : isAggB Tryd.prog 80 = true := by kernel_rfl
@[push_cast] theorem s80 : (Tryd.prog.underlying 80).isSome = true := by kernel_rfl
@[push_cast] theorem i80 : (Tryd.prog.info? 80).isSome = true := by kernel_rfl
@[push_cast] theorem m80 : concreteB Tryd.prog 80 = true := by kernel_rfl
@[push_cast] theorem a80 : elemOk Tryd.prog 80 = true := by kernel_rfl
@[push_cast] theorem b80 : bytesOf Tryd.prog 80 = 16 := by kernel_rfl
@[push_cast] theorem z80 : zeroD Tryd.prog 80 = some ([.t (.v (.string ⟨#[]⟩))]) := by kernel_rfl
@[push_cast] theorem f80_0 : fieldOf Tryd.prog 80 0 = some (0, 1, 9) := by kernel_rfl
@[push_cast] theorem q80_0 : placeOf Tryd.prog 80 0 = some (0, 1) := by kernel_rfl
@[push_cast] theorem p80 : placesOk Tryd.prog 80 = true := by kernel_rfl
@[push_cast] theorem c82 : Tryd.prog.cellsOf 82 = 1 := by kernel_rfl
@[push_cast] theorem g82 : isAggB Tryd.prog 82 = false := by kernel_rfl
@[push_cast] theorem s82 : (Tryd.prog.underlying 82).isSome = true := by kernel_rfl
@[push_cast] theorem i82 : (Tryd.prog.info? 82).isSome = true := by kernel_rfl
@[push_cast] theorem m82 : concreteB Tryd.prog 82 = true := by kernel_rfl
@[push_cast] theorem a82 : elemOk Tryd.prog 82 = true := by kernel_rfl
@[push_cast] theorem b82 : bytesOf Tryd.prog 82 = 8 := by kernel_rfl
@[push_cast] theorem z82 : zeroD Tryd.prog 82 = some ([.t (.v .nilFunc)]) := by kernel_rfl
@[push_cast] theorem c83 : Tryd.prog.cellsOf 83 = 1 := by kernel_rfl
@[push_cast] theorem g83 : isAggB Tryd.prog 83 = false := by kernel_rfl
@[push_cast] theorem s83 : (Tryd.prog.underlying 83).isSome = true := by kernel_rfl
@[push_cast] theorem i83 : (Tryd.prog.info? 83).isSome = true := by kernel_rfl
@[push_cast] theorem m83 : concreteB Tryd.prog 83 = true := by kernel_rfl
@[push_cast] theorem a83 : elemOk Tryd.prog 83 = true := by kernel_rfl
@[push_cast] theorem b83 : bytesOf Tryd.prog 83 = 16 := by kernel_rfl
@[push_cast] theorem z83 : zeroD Tryd.prog 83 = some ([.t (.v (.string ⟨#[]⟩))]) := by kernel_rfl
@[push_cast] theorem u83 : Tryd.prog.underlying 83 = some .string := by kernel_rfl
@[push_cast] theorem c84 : Tryd.prog.cellsOf 84 = 1 := by kernel_rfl
@[push_cast] theorem g84 : isAggB Tryd.prog 84 = false := by kernel_rfl
@[push_cast] theorem s84 : (Tryd.prog.underlying 84).isSome = true := by kernel_rfl
@[push_cast] theorem i84 : (Tryd.prog.info? 84).isSome = true := by kernel_rfl
@[push_cast] theorem m84 : concreteB Tryd.prog 84 = true := by kernel_rfl
@[push_cast] theorem a84 : elemOk Tryd.prog 84 = true := by kernel_rfl
@[push_cast] theorem b84 : bytesOf Tryd.prog 84 = 8 := by kernel_rfl
@[push_cast] theorem z84 : zeroD Tryd.prog 84 = some ([.t (.v (.pointer none))]) := by kernel_rfl
@[push_cast] theorem c85 : Tryd.prog.cellsOf 85 = 1 := by kernel_rfl
@[push_cast] theorem g85 : isAggB Tryd.prog 85 = false := by kernel_rfl
@[push_cast] theorem s85 : (Tryd.prog.underlying 85).isSome = true := by kernel_rfl
@[push_cast] theorem i85 : (Tryd.prog.info? 85).isSome = true := by kernel_rfl
@[push_cast] theorem m85 : concreteB Tryd.prog 85 = true := by kernel_rfl
@[push_cast] theorem a85 : elemOk Tryd.prog 85 = true := by kernel_rfl
@[push_cast] theorem b85 : bytesOf Tryd.prog 85 = 8 := by kernel_rfl
@[push_cast] theorem z85 : zeroD Tryd.prog 85 = some ([.t (.v (.pointer none))]) := by kernel_rfl
@[push_cast] theorem c86 : Tryd.prog.cellsOf 86 = 1 := by kernel_rfl
@[push_cast] theorem g86 : isAggB Tryd.prog 86 = false := by kernel_rfl
@[push_cast] theorem s86 : (Tryd.prog.underlying 86).isSome = true := by kernel_rfl
@[push_cast] theorem i86 : (Tryd.prog.info? 86).isSome = true := by kernel_rfl
@[push_cast] theorem m86 : concreteB Tryd.prog 86 = true := by kernel_rfl
@[push_cast] theorem a86 : elemOk Tryd.prog 86 = true := by kernel_rfl
@[push_cast] theorem b86 : bytesOf Tryd.prog 86 = 8 := by kernel_rfl
@[push_cast] theorem z86 : zeroD Tryd.prog 86 = some ([.t (.v (.int .u64 0))]) := by kernel_rfl
@[push_cast] theorem u86 : Tryd.prog.underlying 86 = some (.int .u64) := by kernel_rfl
@[push_cast] theorem c87 : Tryd.prog.cellsOf 87 = 3 := by kernel_rfl
@[push_cast] theorem g87 : isAggB Tryd.prog 87 = true := by kernel_rfl
@[push_cast] theorem s87 : (Tryd.prog.underlying 87).isSome = true := by kernel_rfl
@[push_cast] theorem i87 : (Tryd.prog.info? 87).isSome = true := by kernel_rfl
@[push_cast] theorem m87 : concreteB Tryd.prog 87 = true := by kernel_rfl
@[push_cast] theorem a87 : elemOk Tryd.prog 87 = true := by kernel_rfl
@[push_cast] theorem b87 : bytesOf Tryd.prog 87 = 24 := by kernel_rfl
@[push_cast] theorem z87 : zeroD Tryd.prog 87 = some ([.t (.v (.pointer none)), .t (.v (.pointer none)), .t (.v (.int .u64 0))]) := by kernel_rfl
@[push_cast] theorem f87_0 : fieldOf Tryd.prog 87 0 = some (0, 1, 17) := by kernel_rfl
@[push_cast] theorem q87_0 : placeOf Tryd.prog 87 0 = some (0, 1) := by kernel_rfl
@[push_cast] theorem f87_1 : fieldOf Tryd.prog 87 1 = some (1, 1, 85) := by kernel_rfl
@[push_cast] theorem q87_1 : placeOf Tryd.prog 87 1 = some (1, 1) := by kernel_rfl
@[push_cast] theorem f87_2 : fieldOf Tryd.prog 87 2 = some (2, 1, 86) := by kernel_rfl
@[push_cast] theorem q87_2 : placeOf Tryd.prog 87 2 = some (2, 1) := by kernel_rfl
@[push_cast] theorem p87 : placesOk Tryd.prog 87 = true := by kernel_rfl
@[push_cast] theorem c88 : Tryd.prog.cellsOf 88 = 3 := by kernel_rfl
@[push_cast] theorem g88 : isAggB Tryd.prog 88 = true := by kernel_rfl
@[push_cast] theorem s88 : (Tryd.prog.underlying 88).isSome = true := by kernel_rfl
@[push_cast] theorem i88 : (Tryd.prog.info? 88).isSome = true := by kernel_rfl
@[push_cast] theorem m88 : concreteB Tryd.prog 88 = true := by kernel_rfl
@[push_cast] theorem a88 : elemOk Tryd.prog 88 = true := by kernel_rfl
@[push_cast] theorem b88 : bytesOf Tryd.prog 88 = 24 := by kernel_rfl
@[push_cast] theorem z88 : zeroD Tryd.prog 88 = some ([.t (.v (.pointer none)), .t (.v (.pointer none)), .t (.v (.int .u64 0))]) := by kernel_rfl
@[push_cast] theorem f88_0 : fieldOf Tryd.prog 88 0 = some (0, 1, 17) := by kernel_rfl
@[push_cast] theorem q88_0 : placeOf Tryd.prog 88 0 = some (0, 1) := by kernel_rfl
@[push_cast] theorem f88_1 : fieldOf Tryd.prog 88 1 = some (1, 1, 85) := by kernel_rfl
@[push_cast] theorem q88_1 : placeOf Tryd.prog 88 1 = some (1, 1) := by kernel_rfl
@[push_cast] theorem f88_2 : fieldOf Tryd.prog 88 2 = some (2, 1, 86) := by kernel_rfl
@[push_cast] theorem q88_2 : placeOf Tryd.prog 88 2 = some (2, 1) := by kernel_rfl
@[push_cast] theorem p88 : placesOk Tryd.prog 88 = true := by kernel_rfl
@[push_cast] theorem c89 : Tryd.prog.cellsOf 89 = 1 := by kernel_rfl
@[push_cast] theorem g89 : isAggB Tryd.prog 89 = false := by kernel_rfl
@[push_cast] theorem s89 : (Tryd.prog.underlying 89).isSome = true := by kernel_rfl
@[push_cast] theorem i89 : (Tryd.prog.info? 89).isSome = true := by kernel_rfl
@[push_cast] theorem m89 : concreteB Tryd.prog 89 = true := by kernel_rfl
@[push_cast] theorem a89 : elemOk Tryd.prog 89 = true := by kernel_rfl
@[push_cast] theorem b89 : bytesOf Tryd.prog 89 = 8 := by kernel_rfl
@[push_cast] theorem z89 : zeroD Tryd.prog 89 = some ([.t (.v .nilFunc)]) := by kernel_rfl
@[push_cast] theorem c90 : Tryd.prog.cellsOf 90 = 1 := by kernel_rfl
@[push_cast] theorem g90 : isAggB Tryd.prog 90 = false := by kernel_rfl
@[push_cast] theorem s90 : (Tryd.prog.underlying 90).isSome = true := by kernel_rfl
@[push_cast] theorem i90 : (Tryd.prog.info? 90).isSome = true := by kernel_rfl
@[push_cast] theorem a90 : elemOk Tryd.prog 90 = true := by kernel_rfl
@[push_cast] theorem b90 : bytesOf Tryd.prog 90 = 16 := by kernel_rfl
@[push_cast] theorem z90 : zeroD Tryd.prog 90 = some ([.t (.v .nilIface)]) := by kernel_rfl
@[push_cast] theorem u90 : Tryd.prog.underlying 90 = some (.interface (Tryd.prog.methodsAt 90)) := by kernel_rfl
@[push_cast] theorem c91 : Tryd.prog.cellsOf 91 = 1 := by kernel_rfl
@[push_cast] theorem g91 : isAggB Tryd.prog 91 = false := by kernel_rfl
@[push_cast] theorem s91 : (Tryd.prog.underlying 91).isSome = true := by kernel_rfl
@[push_cast] theorem i91 : (Tryd.prog.info? 91).isSome = true := by kernel_rfl
@[push_cast] theorem a91 : elemOk Tryd.prog 91 = true := by kernel_rfl
@[push_cast] theorem b91 : bytesOf Tryd.prog 91 = 16 := by kernel_rfl
@[push_cast] theorem z91 : zeroD Tryd.prog 91 = some ([.t (.v .nilIface)]) := by kernel_rfl
@[push_cast] theorem u91 : Tryd.prog.underlying 91 = some (.interface (Tryd.prog.methodsAt 91)) := by kernel_rfl
@[push_cast] theorem c92 : Tryd.prog.cellsOf 92 = 1 := by kernel_rfl
@[push_cast] theorem g92 : isAggB Tryd.prog 92 = false := by kernel_rfl
@[push_cast] theorem s92 : (Tryd.prog.underlying 92).isSome = true := by kernel_rfl
@[push_cast] theorem i92 : (Tryd.prog.info? 92).isSome = true := by kernel_rfl
@[push_cast] theorem m92 : concreteB Tryd.prog 92 = true := by kernel_rfl
@[push_cast] theorem a92 : elemOk Tryd.prog 92 = true := by kernel_rfl
@[push_cast] theorem b92 : bytesOf Tryd.prog 92 = 8 := by kernel_rfl
@[push_cast] theorem z92 : zeroD Tryd.prog 92 = some ([.t (.v .nilFunc)]) := by kernel_rfl
@[push_cast] theorem c93 : Tryd.prog.cellsOf 93 = 1 := by kernel_rfl
@[push_cast] theorem g93 : isAggB Tryd.prog 93 = false := by kernel_rfl
@[push_cast] theorem s93 : (Tryd.prog.underlying 93).isSome = true := by kernel_rfl
@[push_cast] theorem i93 : (Tryd.prog.info? 93).isSome = true := by kernel_rfl
@[push_cast] theorem m93 : concreteB Tryd.prog 93 = true := by kernel_rfl
@[push_cast] theorem a93 : elemOk Tryd.prog 93 = true := by kernel_rfl
@[push_cast] theorem b93 : bytesOf Tryd.prog 93 = 1 := by kernel_rfl
@[push_cast] theorem z93 : zeroD Tryd.prog 93 = some ([.t (.v (.int .u8 0))]) := by kernel_rfl
@[push_cast] theorem u93 : Tryd.prog.underlying 93 = some (.int .u8) := by kernel_rfl
@[push_cast] theorem c94 : Tryd.prog.cellsOf 94 = 1 := by kernel_rfl
@[push_cast] theorem g94 : isAggB Tryd.prog 94 = false := by kernel_rfl
@[push_cast] theorem s94 : (Tryd.prog.underlying 94).isSome = true := by kernel_rfl
@[push_cast] theorem i94 : (Tryd.prog.info? 94).isSome = true := by kernel_rfl
@[push_cast] theorem m94 : concreteB Tryd.prog 94 = true := by kernel_rfl
@[push_cast] theorem a94 : elemOk Tryd.prog 94 = true := by kernel_rfl
@[push_cast] theorem b94 : bytesOf Tryd.prog 94 = 8 := by kernel_rfl
@[push_cast] theorem z94 : zeroD Tryd.prog 94 = some ([.t (.v .nilFunc)]) := by kernel_rfl
@[push_cast] theorem c95 : Tryd.prog.cellsOf 95 = 1 := by kernel_rfl
@[push_cast] theorem g95 : isAggB Tryd.prog 95 = false := by kernel_rfl
@[push_cast] theorem s95 : (Tryd.prog.underlying 95).isSome = true := by kernel_rfl
@[push_cast] theorem i95 : (Tryd.prog.info? 95).isSome = true := by kernel_rfl
@[push_cast] theorem m95 : concreteB Tryd.prog 95 = true := by kernel_rfl
@[push_cast] theorem a95 : elemOk Tryd.prog 95 = true := by kernel_rfl
@[push_cast] theorem b95 : bytesOf Tryd.prog 95 = 8 := by kernel_rfl
@[push_cast] theorem z95 : zeroD Tryd.prog 95 = some ([.t (.v .nilFunc)]) := by kernel_rfl
@[push_cast] theorem c96 : Tryd.prog.cellsOf 96 = 1 := by kernel_rfl
@[push_cast] theorem g96 : isAggB Tryd.prog 96 = false := by kernel_rfl
@[push_cast] theorem s96 : (Tryd.prog.underlying 96).isSome = true := by kernel_rfl
@[push_cast] theorem i96 : (Tryd.prog.info? 96).isSome = true := by kernel_rfl
@[push_cast] theorem m96 : concreteB Tryd.prog 96 = true := by kernel_rfl
@[push_cast] theorem a96 : elemOk Tryd.prog 96 = true := by kernel_rfl
@[push_cast] theorem b96 : bytesOf Tryd.prog 96 = 8 := by kernel_rfl
@[push_cast] theorem z96 : zeroD Tryd.prog 96 = some ([.t (.v .nilFunc)]) := by kernel_rfl
@[push_cast] theorem c97 : Tryd.prog.cellsOf 97 = 1 := by kernel_rfl
@[push_cast] theorem g97 : isAggB Tryd.prog 97 = false := by kernel_rfl
@[push_cast] theorem s97 : (Tryd.prog.underlying 97).isSome = true := by kernel_rfl
@[push_cast] theorem i97 : (Tryd.prog.info? 97).isSome = true := by kernel_rfl
@[push_cast] theorem m97 : concreteB Tryd.prog 97 = true := by kernel_rfl
@[push_cast] theorem a97 : elemOk Tryd.prog 97 = true := by kernel_rfl
@[push_cast] theorem b97 : bytesOf Tryd.prog 97 = 8 := by kernel_rfl
@[push_cast] theorem z97 : zeroD Tryd.prog 97 = some ([.t (.v .nilFunc)]) := by kernel_rfl
@[push_cast] theorem c98 : Tryd.prog.cellsOf 98 = 1 := by kernel_rfl
@[push_cast] theorem g98 : isAggB Tryd.prog 98 = false := by kernel_rfl
@[push_cast] theorem s98 : (Tryd.prog.underlying 98).isSome = true := by kernel_rfl
@[push_cast] theorem i98 : (Tryd.prog.info? 98).isSome = true := by kernel_rfl
@[push_cast] theorem m98 : concreteB Tryd.prog 98 = true := by kernel_rfl
@[push_cast] theorem a98 : elemOk Tryd.prog 98 = true := by kernel_rfl
@[push_cast] theorem b98 : bytesOf Tryd.prog 98 = 8 := by kernel_rfl
@[push_cast] theorem z98 : zeroD Tryd.prog 98 = some ([.t (.v .nilFunc)]) := by kernel_rfl
@[push_cast] theorem c99 : Tryd.prog.cellsOf 99 = 1 := by kernel_rfl
@[push_cast] theorem g99 : isAggB Tryd.prog 99 = true := by kernel_rfl
@[push_cast] theorem s99 : (Tryd.prog.underlying 99).isSome = true := by kernel_rfl
@[push_cast] theorem i99 : (Tryd.prog.info? 99).isSome = true := by kernel_rfl
@[push_cast] theorem m99 : concreteB Tryd.prog 99 = true := by kernel_rfl
@[push_cast] theorem a99 : elemOk Tryd.prog 99 = true := by kernel_rfl
@[push_cast] theorem b99 : bytesOf Tryd.prog 99 = 8 := by kernel_rfl
@[push_cast] theorem z99 : zeroD Tryd.prog 99 = some ([.t (.v (.int .i64 0))]) := by kernel_rfl
@[push_cast] theorem f99_0 : fieldOf Tryd.prog 99 0 = some (0, 1, 30) := by kernel_rfl
@[push_cast] theorem q99_0 : placeOf Tryd.prog 99 0 = some (0, 1) := by kernel_rfl
@[push_cast] theorem p99 : placesOk Tryd.prog 99 = true := by kernel_rfl
@[push_cast] theorem c100 : Tryd.prog.cellsOf 100 = 1 := by kernel_rfl
@[push_cast] theorem g100 : isAggB Tryd.prog 100 = true := by kernel_rfl
@[push_cast] theorem s100 : (Tryd.prog.underlying 100).isSome = true := by kernel_rfl
@[push_cast] theorem i100 : (Tryd.prog.info? 100).isSome = true := by kernel_rfl
@[push_cast] theorem m100 : concreteB Tryd.prog 100 = true := by kernel_rfl
@[push_cast] theorem a100 : elemOk Tryd.prog 100 = true := by kernel_rfl
@[push_cast] theorem b100 : bytesOf Tryd.prog 100 = 8 := by kernel_rfl
@[push_cast] theorem z100 : zeroD Tryd.prog 100 = some ([.t (.v (.int .i64 0))]) := by kernel_rfl
@[push_cast] theorem f100_0 : fieldOf Tryd.prog 100 0 = some (0, 1, 30) := by kernel_rfl
@[push_cast] theorem q100_0 : placeOf Tryd.prog 100 0 = some (0, 1) := by kernel_rfl
@[push_cast] theorem p100 : placesOk Tryd.prog 100 = true := by kernel_rfl
@[push_cast] theorem c101 : Tryd.prog.cellsOf 101 = 2 := by kernel_rfl
@[push_cast] theorem g101 : isAggB Tryd.prog 101 = true := by kernel_rfl
@[push_cast] theorem s101 : (Tryd.prog.underlying 101).isSome = true := by kernel_rfl
@[push_cast] theorem i101 : (Tryd.prog.info? 101).isSome = true := by kernel_rfl
@[push_cast] theorem m101 : concreteB Tryd.prog 101 = true := by kernel_rfl
@[push_cast] theorem a101 : elemOk Tryd.prog 101 = true := by kernel_rfl
@[push_cast] theorem b101 : bytesOf Tryd.prog 101 = 32 := by kernel_rfl
@[push_cast] theorem z101 : zeroD Tryd.prog 101 = some ([.t (.v (.string ⟨#[]⟩)), .t (.v .nilIface)]) := by kernel_rfl
@[push_cast] theorem f101_0 : fieldOf Tryd.prog 101 0 = some (0, 1, 9) := by kernel_rfl
@[push_cast] theorem q101_0 : placeOf Tryd.prog 101 0 = some (0, 1) := by kernel_rfl
@[push_cast] theorem f101_1 : fieldOf Tryd.prog 101 1 = some (1, 1, 51) := by kernel_rfl
@[push_cast] theorem q101_1 : placeOf Tryd.prog 101 1 = some (1, 1) := by kernel_rfl
@[push_cast] theorem p101 : placesOk Tryd.prog 101 = true := by kernel_rfl
@[push_cast] theorem c102 : Tryd.prog.cellsOf 102 = 2 := by kernel_rfl
@[push_cast] theorem g102 : isAggB Tryd.prog 102 = true := by kernel_rfl
@[push_cast] theorem s102 : (Tryd.prog.underlying 102).isSome = true := by kernel_rfl
@[push_cast] theorem i102 : (Tryd.prog.info? 102).isSome = true := by kernel_rfl
@[push_cast] theorem m102 : concreteB Tryd.prog 102 = true := by kernel_rfl
@[push_cast] theorem a102 : elemOk Tryd.prog 102 = true := by kernel_rfl
@[push_cast] theorem b102 : bytesOf Tryd.prog 102 = 32 := by kernel_rfl
@[push_cast] theorem z102 : zeroD Tryd.prog 102 = some ([.t (.v (.string ⟨#[]⟩)), .t (.v .nilIface)]) := by kernel_rfl
@[push_cast] theorem f102_0 : fieldOf Tryd.prog 102 0 = some (0, 1, 9) := by kernel_rfl
@[push_cast] theorem q102_0 : placeOf Tryd.prog 102 0 = some (0, 1) := by kernel_rfl
@[push_cast] theorem f102_1 : fieldOf Tryd.prog 102 1 = some (1, 1, 51) := by kernel_rfl
@[push_cast] theorem q102_1 : placeOf Tryd.prog 102 1 = some (1, 1) := by kernel_rfl
@[push_cast] theorem p102 : placesOk Tryd.prog 102 = true := by kernel_rfl
@[push_cast] theorem c103 : Tryd.prog.cellsOf 103 = 1 := by kernel_rfl
@[push_cast] theorem g103 : isAggB Tryd.prog 103 = false := by kernel_rfl
@[push_cast] theorem s103 : (Tryd.prog.underlying 103).isSome = true := by kernel_rfl
@[push_cast] theorem i103 : (Tryd.prog.info? 103).isSome = true := by kernel_rfl
@[push_cast] theorem m103 : concreteB Tryd.prog 103 = true := by kernel_rfl
@[push_cast] theorem a103 : elemOk Tryd.prog 103 = true := by kernel_rfl
@[push_cast] theorem b103 : bytesOf Tryd.prog 103 = 8 := by kernel_rfl
@[push_cast] theorem z103 : zeroD Tryd.prog 103 = some ([.t (.v (.pointer none))]) := by kernel_rfl
@[push_cast] theorem c105 : Tryd.prog.cellsOf 105 = 1 := by kernel_rfl
@[push_cast] theorem g105 : isAggB Tryd.prog 105 = false := by kernel_rfl
@[push_cast] theorem s105 : (Tryd.prog.underlying 105).isSome = true := by kernel_rfl
@[push_cast] theorem i105 : (Tryd.prog.info? 105).isSome = true := by kernel_rfl
@[push_cast] theorem m105 : concreteB Tryd.prog 105 = true := by kernel_rfl
@[push_cast] theorem a105 : elemOk Tryd.prog 105 = true := by kernel_rfl
@[push_cast] theorem b105 : bytesOf Tryd.prog 105 = 8 := by kernel_rfl
@[push_cast] theorem z105 : zeroD Tryd.prog 105 = some ([.t (.v .nilFunc)]) := by kernel_rfl
@[push_cast] theorem c107 : Tryd.prog.cellsOf 107 = 1 := by kernel_rfl
@[push_cast] theorem g107 : isAggB Tryd.prog 107 = false := by kernel_rfl
@[push_cast] theorem s107 : (Tryd.prog.underlying 107).isSome = true := by kernel_rfl
@[push_cast] theorem i107 : (Tryd.prog.info? 107).isSome = true := by kernel_rfl
@[push_cast] theorem m107 : concreteB Tryd.prog 107 = true := by kernel_rfl
@[push_cast] theorem a107 : elemOk Tryd.prog 107 = true := by kernel_rfl
@[push_cast] theorem b107 : bytesOf Tryd.prog 107 = 8 := by kernel_rfl
@[push_cast] theorem z107 : zeroD Tryd.prog 107 = some ([.t (.v .nilFunc)]) := by kernel_rfl
@[push_cast] theorem c108 : Tryd.prog.cellsOf 108 = 2 := by kernel_rfl
@[push_cast] theorem g108 : isAggB Tryd.prog 108 = true := by kernel_rfl
@[push_cast] theorem s108 : (Tryd.prog.underlying 108).isSome = true := by kernel_rfl
@[push_cast] theorem i108 : (Tryd.prog.info? 108).isSome = true := by kernel_rfl
@[push_cast] theorem m108 : concreteB Tryd.prog 108 = true := by kernel_rfl
@[push_cast] theorem a108 : elemOk Tryd.prog 108 = true := by kernel_rfl
@[push_cast] theorem b108 : bytesOf Tryd.prog 108 = 24 := by kernel_rfl
@[push_cast] theorem z108 : zeroD Tryd.prog 108 = some ([.t (.v (.int .i64 0)), .t (.v .nilIface)]) := by kernel_rfl
@[push_cast] theorem f108_0 : fieldOf Tryd.prog 108 0 = some (0, 1, 3) := by kernel_rfl
@[push_cast] theorem q108_0 : placeOf Tryd.prog 108 0 = some (0, 1) := by kernel_rfl
@[push_cast] theorem f108_1 : fieldOf Tryd.prog 108 1 = some (1, 1, 51) := by kernel_rfl
@[push_cast] theorem q108_1 : placeOf Tryd.prog 108 1 = some (1, 1) := by kernel_rfl
@[push_cast] theorem p108 : placesOk Tryd.prog 108 = true := by kernel_rfl
@[push_cast] theorem c109 : Tryd.prog.cellsOf 109 = 2 := by kernel_rfl
@[push_cast] theorem g109 : isAggB Tryd.prog 109 = true := by kernel_rfl
@[push_cast] theorem s109 : (Tryd.prog.underlying 109).isSome = true := by kernel_rfl
@[push_cast] theorem i109 : (Tryd.prog.info? 109).isSome = true := by kernel_rfl
@[push_cast] theorem m109 : concreteB Tryd.prog 109 = true := by kernel_rfl
@[push_cast] theorem a109 : elemOk Tryd.prog 109 = true := by kernel_rfl
@[push_cast] theorem b109 : bytesOf Tryd.prog 109 = 24 := by kernel_rfl
@[push_cast] theorem z109 : zeroD Tryd.prog 109 = some ([.t (.v (.int .i64 0)), .t (.v .nilIface)]) := by kernel_rfl
@[push_cast] theorem f109_0 : fieldOf Tryd.prog 109 0 = some (0, 1, 3) := by kernel_rfl
@[push_cast] theorem q109_0 : placeOf Tryd.prog 109 0 = some (0, 1) := by kernel_rfl
@[push_cast] theorem f109_1 : fieldOf Tryd.prog 109 1 = some (1, 1, 51) := by kernel_rfl
@[push_cast] theorem q109_1 : placeOf Tryd.prog 109 1 = some (1, 1) := by kernel_rfl
@[push_cast] theorem p109 : placesOk Tryd.prog 109 = true := by kernel_rfl
@[push_cast] theorem c110 : Tryd.prog.cellsOf 110 = 1 := by kernel_rfl
@[push_cast] theorem g110 : isAggB Tryd.prog 110 = true := by kernel_rfl
@[push_cast] theorem s110 : (Tryd.prog.underlying 110).isSome = true := by kernel_rfl
@[push_cast] theorem i110 : (Tryd.prog.info? 110).isSome = true := by kernel_rfl
@[push_cast] theorem m110 : concreteB Tryd.prog 110 = true := by kernel_rfl
@[push_cast] theorem a110 : elemOk Tryd.prog 110 = true := by kernel_rfl
@[push_cast] theorem b110 : bytesOf Tryd.prog 110 = 8 := by kernel_rfl
@[push_cast] theorem z110 : zeroD Tryd.prog 110 = some ([.t (.v (.pointer none))]) := by kernel_rfl
@[push_cast] theorem f110_0 : fieldOf Tryd.prog 110 0 = some (0, 1, 17) := by kernel_rfl
@[push_cast] theorem q110_0 : placeOf Tryd.prog 110 0 = some (0, 1) := by kernel_rfl
@[push_cast] theorem p110 : placesOk Tryd.prog 110 = true := by kernel_rfl
@[push_cast] theorem c111 : Tryd.prog.cellsOf 111 = 1 := by kernel_rfl
@[push_cast] theorem g111 : isAggB Tryd.prog 111 = true := by kernel_rfl
@[push_cast] theorem s111 : (Tryd.prog.underlying 111).isSome = true := by kernel_rfl
@[push_cast] theorem i111 : (Tryd.prog.info? 111).isSome = true := by kernel_rfl
@[push_cast] theorem m111 : concreteB Tryd.prog 111 = true := by kernel_rfl
@[push_cast] theorem a111 : elemOk Tryd.prog 111 = true := by kernel_rfl
@[push_cast] theorem b111 : bytesOf Tryd.prog 111 = 8 := by kernel_rfl
@[push_cast] theorem z111 : zeroD Tryd.prog 111 = some ([.t (.v (.pointer none))]) := by kernel_rfl
@[push_cast] theorem f111_0 : fieldOf Tryd.prog 111 0 = some (0, 1, 17) := by kernel_rfl
@[push_cast] theorem q111_0 : placeOf Tryd.prog 111 0 = some (0, 1) := by kernel_rfl
@[push_cast] theorem p111 : placesOk Tryd.prog 111 = true := by kernel_rfl
@[push_cast] theorem c112 : Tryd.prog.cellsOf 112 = 1 := by kernel_rfl
@[push_cast] theorem g112 : isAggB Tryd.prog 112 = false := by kernel_rfl
@[push_cast] theorem s112 : (Tryd.prog.underlying 112).isSome = true := by kernel_rfl
@[push_cast] theorem i112 : (Tryd.prog.info? 112).isSome = true := by kernel_rfl
@[push_cast] theorem m112 : concreteB Tryd.prog 112 = true := by kernel_rfl
@[push_cast] theorem a112 : elemOk Tryd.prog 112 = true := by kernel_rfl
@[push_cast] theorem b112 : bytesOf Tryd.prog 112 = 8 := by kernel_rfl
@[push_cast] theorem z112 : zeroD Tryd.prog 112 = some ([.t (.v (.pointer none))]) := by kernel_rfl
@[push_cast] theorem c113 : Tryd.prog.cellsOf 113 = 1 := by kernel_rfl
@[push_cast] theorem g113 : isAggB Tryd.prog 113 = false := by kernel_rfl
@[push_cast] theorem s113 : (Tryd.prog.underlying 113).isSome = true := by kernel_rfl
@[push_cast] theorem i113 : (Tryd.prog.info? 113).isSome = true := by kernel_rfl
@[push_cast] theorem m113 : concreteB Tryd.prog 113 = true := by kernel_rfl
@[push_cast] theorem a113 : elemOk Tryd.prog 113 = true := by kernel_rfl
@[push_cast] theorem b113 : bytesOf Tryd.prog 113 = 8 := by kernel_rfl
@[push_cast] theorem z113 : zeroD Tryd.prog 113 = some ([.t (.v .nilFunc)]) := by kernel_rfl
@[push_cast] theorem c114 : Tryd.prog.cellsOf 114 = 1 := by kernel_rfl
@[push_cast] theorem g114 : isAggB Tryd.prog 114 = false := by kernel_rfl
@[push_cast] theorem s114 : (Tryd.prog.underlying 114).isSome = true := by kernel_rfl
@[push_cast] theorem i114 : (Tryd.prog.info? 114).isSome = true := by kernel_rfl
@[push_cast] theorem m114 : concreteB Tryd.prog 114 = true := by kernel_rfl
@[push_cast] theorem a114 : elemOk Tryd.prog 114 = true := by kernel_rfl
@[push_cast] theorem b114 : bytesOf Tryd.prog 114 = 8 := by kernel_rfl
@[push_cast] theorem z114 : zeroD Tryd.prog 114 = some ([.t (.v .nilFunc)]) := by kernel_rfl
@[push_cast] theorem c115 : Tryd.prog.cellsOf 115 = 1 := by kernel_rfl
@[push_cast] theorem g115 : isAggB Tryd.prog 115 = false := by kernel_rfl
@[push_cast] theorem s115 : (Tryd.prog.underlying 115).isSome = true := by kernel_rfl
@[push_cast] theorem i115 : (Tryd.prog.info? 115).isSome = true := by kernel_rfl
@[push_cast] theorem m115 : concreteB Tryd.prog 115 = true := by kernel_rfl
@[push_cast] theorem a115 : elemOk Tryd.prog 115 = true := by kernel_rfl
@[push_cast] theorem b115 : bytesOf Tryd.prog 115 = 8 := by kernel_rfl
@[push_cast] theorem z115 : zeroD Tryd.prog 115 = some ([.t (.v .nilFunc)]) := by kernel_rfl
@[push_cast] theorem c116 : Tryd.prog.cellsOf 116 = 1 := by kernel_rfl
@[push_cast] theorem g116 : isAggB Tryd.prog 116 = false := by kernel_rfl
@[push_cast] theorem s116 : (Tryd.prog.underlying 116).isSome = true := by kernel_rfl
@[push_cast] theorem i116 : (Tryd.prog.info? 116).isSome = true := by kernel_rfl
@[push_cast] theorem a116 : elemOk Tryd.prog 116 = true := by kernel_rfl
@[push_cast] theorem b116 : bytesOf Tryd.prog 116 = 16 := by kernel_rfl
@[push_cast] theorem z116 : zeroD Tryd.prog 116 = some ([.t (.v .nilIface)]) := by kernel_rfl
@[push_cast] theorem u116 : Tryd.prog.underlying 116 = some (.interface (Tryd.prog.methodsAt 116)) := by kernel_rfl
@[push_cast] theorem c118 : Tryd.prog.cellsOf 118 = 1 := by kernel_rfl
@[push_cast] theorem g118 : isAggB Tryd.prog 118 = false := by kernel_rfl
@[push_cast] theorem s118 : (Tryd.prog.underlying 118).isSome = true := by kernel_rfl
@[push_cast] theorem i118 : (Tryd.prog.info? 118).isSome = true := by kernel_rfl
@[push_cast] theorem m118 : concreteB Tryd.prog 118 = true := by kernel_rfl
@[push_cast] theorem a118 : elemOk Tryd.prog 118 = true := by kernel_rfl
@[push_cast] theorem b118 : bytesOf Tryd.prog 118 = 8 := by kernel_rfl
@[push_cast] theorem z118 : zeroD Tryd.prog 118 = some ([.t (.v .nilFunc)]) := by kernel_rfl
@[push_cast] theorem c119 : Tryd.prog.cellsOf 119 = 1 := by kernel_rfl
@[push_cast] theorem g119 : isAggB Tryd.prog 119 = false := by kernel_rfl
@[push_cast] theorem s119 : (Tryd.prog.underlying 119).isSome = true := by kernel_rfl
@[push_cast] theorem i119 : (Tryd.prog.info? 119).isSome = true := by kernel_rfl
@[push_cast] theorem a119 : elemOk Tryd.prog 119 = true := by kernel_rfl
@[push_cast] theorem b119 : bytesOf Tryd.prog 119 = 16 := by kernel_rfl
@[push_cast] theorem z119 : zeroD Tryd.prog 119 = some ([.t (.v .nilIface)]) := by kernel_rfl
@[push_cast] theorem u119 : Tryd.prog.underlying 119 = some (.interface (Tryd.prog.methodsAt 119)) := by kernel_rfl
@[push_cast] theorem c120 : Tryd.prog.cellsOf 120 = 1 := by kernel_rfl
@[push_cast] theorem g120 : isAggB Tryd.prog 120 = false := by kernel_rfl
@[push_cast] theorem s120 : (Tryd.prog.underlying 120).isSome = true := by kernel_rfl
@[push_cast] theorem i120 : (Tryd.prog.info? 120).isSome = true := by kernel_rfl
@[push_cast] theorem m120 : concreteB Tryd.prog 120 = true := by kernel_rfl
@[push_cast] theorem a120 : elemOk Tryd.prog 120 = true := by kernel_rfl
@[push_cast] theorem b120 : bytesOf Tryd.prog 120 = 8 := by kernel_rfl
@[push_cast] theorem z120 : zeroD Tryd.prog 120 = some ([.t (.v .nilFunc)]) := by kernel_rfl
@[push_cast] theorem c121 : Tryd.prog.cellsOf 121 = 1 := by kernel_rfl
@[push_cast] theorem g121 : isAggB Tryd.prog 121 = false := by kernel_rfl
@[push_cast] theorem s121 : (Tryd.prog.underlying 121).isSome = true := by kernel_rfl
@[push_cast] theorem i121 : (Tryd.prog.info? 121).isSome = true := by kernel_rfl
@[push_cast] theorem a121 : elemOk Tryd.prog 121 = true := by kernel_rfl
@[push_cast] theorem b121 : bytesOf Tryd.prog 121 = 16 := by kernel_rfl
@[push_cast] theorem z121 : zeroD Tryd.prog 121 = some ([.t (.v .nilIface)]) := by kernel_rfl
@[push_cast] theorem u121 : Tryd.prog.underlying 121 = some (.interface (Tryd.prog.methodsAt 121)) := by kernel_rfl
@[push_cast] theorem c122 : Tryd.prog.cellsOf 122 = 1 := by kernel_rfl
@[push_cast] theorem g122 : isAggB Tryd.prog 122 = false := by kernel_rfl
@[push_cast] theorem s122 : (Tryd.prog.underlying 122).isSome = true := by kernel_rfl
@[push_cast] theorem i122 : (Tryd.prog.info? 122).isSome = true := by kernel_rfl
@[push_cast] theorem m122 : concreteB Tryd.prog 122 = true := by kernel_rfl
@[push_cast] theorem a122 : elemOk Tryd.prog 122 = true := by kernel_rfl
@[push_cast] theorem b122 : bytesOf Tryd.prog 122 = 24 := by kernel_rfl
@[push_cast] theorem z122 : zeroD Tryd.prog 122 = some ([.t (.v (.slice none 0 0))]) := by kernel_rfl
@[push_cast] theorem u122 : Tryd.prog.underlying 122 = some (.slice 51) := by kernel_rfl
@[push_cast] theorem e122 : Tryd.prog.elem 122 = 51 := by kernel_rfl
@[push_cast] theorem c123 : Tryd.prog.cellsOf 123 = 1 := by kernel_rfl
@[push_cast] theorem g123 : isAggB Tryd.prog 123 = false := by kernel_rfl
@[push_cast] theorem s123 : (Tryd.prog.underlying 123).isSome = true := by kernel_rfl
@[push_cast] theorem i123 : (Tryd.prog.info? 123).isSome = true := by kernel_rfl
@[push_cast] theorem m123 : concreteB Tryd.prog 123 = true := by kernel_rfl
@[push_cast] theorem a123 : elemOk Tryd.prog 123 = true := by kernel_rfl
@[push_cast] theorem b123 : bytesOf Tryd.prog 123 = 8 := by kernel_rfl
@[push_cast] theorem z123 : zeroD Tryd.prog 123 = some ([.t (.v .nilFunc)]) := by kernel_rfl
@[push_cast] theorem c124 : Tryd.prog.cellsOf 124 = 1 := by kernel_rfl
@[push_cast] theorem g124 : isAggB Tryd.prog 124 = false := by kernel_rfl
@[push_cast] theorem s124 : (Tryd.prog.underlying 124).isSome = true := by kernel_rfl
@[push_cast] theorem i124 : (Tryd.prog.info? 124).isSome = true := by kernel_rfl
@[push_cast] theorem m124 : concreteB Tryd.prog 124 = true := by kernel_rfl
@[push_cast] theorem a124 : elemOk Tryd.prog 124 = true := by kernel_rfl
@[push_cast] theorem b124 : bytesOf Tryd.prog 124 = 8 := by kernel_rfl
@[push_cast] theorem z124 : zeroD Tryd.prog 124 = some ([.t (.v .nilFunc)]) := by kernel_rfl
@[push_cast] theorem c125 : Tryd.prog.cellsOf 125 = 1 := by kernel_rfl
@[push_cast] theorem g125 : isAggB Tryd.prog 125 = false := by kernel_rfl
@[push_cast] theorem s125 : (Tryd.prog.underlying 125).isSome = true := by kernel_rfl
@[push_cast] theorem i125 : (Tryd.prog.info? 125).isSome = true := by kernel_rfl
@[push_cast] theorem m125 : concreteB Tryd.prog 125 = true := by kernel_rfl
@[push_cast] theorem a125 : elemOk Tryd.prog 125 = true := by kernel_rfl
@[push_cast] theorem b125 : bytesOf Tryd.prog 125 = 8 := by kernel_rfl
@[push_cast] theorem z125 : zeroD Tryd.prog 125 = some ([.t (.v .nilFunc)]) := by kernel_rfl
@[push_cast] theorem c126 : Tryd.prog.cellsOf 126 = 1 := by kernel_rfl
@[push_cast] theorem g126 : isAggB Tryd.prog 126 = false := by kernel_rfl
@[push_cast] theorem s126 : (Tryd.prog.underlying 126).isSome = true := by kernel_rfl
@[push_cast] theorem i126 : (Tryd.prog.info? 126).isSome = true := by kernel_rfl
@[push_cast] theorem m126 : concreteB Tryd.prog 126 = true := by kernel_rfl
@[push_cast] theorem a126 : elemOk Tryd.prog 126 = true := by kernel_rfl
@[push_cast] theorem b126 : bytesOf Tryd.prog 126 = 8 := by kernel_rfl
@[push_cast] theorem z126 : zeroD Tryd.prog 126 = some ([.t (.v (.int .u64 0))]) := by kernel_rfl
@[push_cast] theorem u126 : Tryd.prog.underlying 126 = some (.int .u64) := by kernel_rfl
@[push_cast] theorem c127 : Tryd.prog.cellsOf 127 = 1 := by kernel_rfl
@[push_cast] theorem g127 : isAggB Tryd.prog 127 = false := by kernel_rfl
@[push_cast] theorem s127 : (Tryd.prog.underlying 127).isSome = true := by kernel_rfl
@[push_cast] theorem i127 : (Tryd.prog.info? 127).isSome = true := by kernel_rfl
@[push_cast] theorem m127 : concreteB Tryd.prog 127 = true := by kernel_rfl
@[push_cast] theorem a127 : elemOk Tryd.prog 127 = true := by kernel_rfl
@[push_cast] theorem b127 : bytesOf Tryd.prog 127 = 8 := by kernel_rfl
@[push_cast] theorem z127 : zeroD Tryd.prog 127 = some ([.t (.v .nilFunc)]) := by kernel_rfl
@[push_cast] theorem c128 : Tryd.prog.cellsOf 128 = 1 := by kernel_rfl
@[push_cast] theorem g128 : isAggB Tryd.prog 128 = false := by kernel_rfl
@[push_cast] theorem s128 : (Tryd.prog.underlying 128).isSome = true := by kernel_rfl
@[push_cast] theorem i128 : (Tryd.prog.info? 128).isSome = true := by kernel_rfl
@[push_cast] theorem m128 : concreteB Tryd.prog 128 = true := by kernel_rfl
@[push_cast] theorem a128 : elemOk Tryd.prog 128 = true := by kernel_rfl
@[push_cast] theorem b128 : bytesOf Tryd.prog 128 = 8 := by kernel_rfl
@[push_cast] theorem z128 : zeroD Tryd.prog 128 = some ([.t (.v .nilFunc)]) := by kernel_rfl
@[push_cast] theorem c129 : Tryd.prog.cellsOf 129 = 4 := by kernel_rfl
@[push_cast] theorem g129 : isAggB Tryd.prog 129 = true := by kernel_rfl
@[push_cast] theorem s129 : (Tryd.prog.underlying 129).isSome = true := by kernel_rfl
@[push_cast] theorem i129 : (Tryd.prog.info? 129).isSome = true := by kernel_rfl
@[push_cast] theorem m129 : concreteB Tryd.prog 129 = true := by kernel_rfl
@[push_cast] theorem a129 : elemOk Tryd.prog 129 = true := by kernel_rfl
@[push_cast] theorem b129 : bytesOf Tryd.prog 129 = 40 := by kernel_rfl
@[push_cast] theorem z129 : zeroD Tryd.prog 129 = some ([.t (.v (.pointer none)), .t (.v (.pointer none)), .t (.v (.pointer none)), .t (.v (.string ⟨#[]⟩))]) := by kernel_rfl
@[push_cast] theorem f129_0 : fieldOf Tryd.prog 129 0 = some (0, 1, 17) := by kernel_rfl
@[push_cast] theorem q129_0 : placeOf Tryd.prog 129 0 = some (0, 1) := by kernel_rfl
@[push_cast] theorem f129_1 : fieldOf Tryd.prog 129 1 = some (1, 1, 17) := by kernel_rfl
@[push_cast] theorem q129_1 : placeOf Tryd.prog 129 1 = some (1, 1) := by kernel_rfl
@[push_cast] theorem f129_2 : fieldOf Tryd.prog 129 2 = some (2, 1, 17) := by kernel_rfl
@[push_cast] theorem q129_2 : placeOf Tryd.prog 129 2 = some (2, 1) := by kernel_rfl
@[push_cast] theorem f129_3 : fieldOf Tryd.prog 129 3 = some (3, 1, 9) := by kernel_rfl
@[push_cast] theorem q129_3 : placeOf Tryd.prog 129 3 = some (3, 1) := by kernel_rfl
@[push_cast] theorem p129 : placesOk Tryd.prog 129 = true := by kernel_rfl
@[push_cast] theorem c130 : Tryd.prog.cellsOf 130 = 4 := by kernel_rfl
@[push_cast] theorem g130 : isAggB Tryd.prog 130 = true := by kernel_rfl
@[push_cast] theorem s130 : (Tryd.prog.underlying 130).isSome = true := by kernel_rfl
@[push_cast] theorem i130 : (Tryd.prog.info? 130).isSome = true := by kernel_rfl
@[push_cast] theorem m130 : concreteB Tryd.prog 130 = true := by kernel_rfl
@[push_cast] theorem a130 : elemOk Tryd.prog 130 = true := by kernel_rfl
@[push_cast] theorem b130 : bytesOf Tryd.prog 130 = 40 := by kernel_rfl
@[push_cast] theorem z130 : zeroD Tryd.prog 130 = some ([.t (.v (.pointer none)), .t (.v (.pointer none)), .t (.v (.pointer none)), .t (.v (.string ⟨#[]⟩))]) := by kernel_rfl
@[push_cast] theorem f130_0 : fieldOf Tryd.prog 130 0 = some (0, 1, 17) := by kernel_rfl
@[push_cast] theorem q130_0 : placeOf Tryd.prog 130 0 = some (0, 1) := by kernel_rfl
@[push_cast] theorem f130_1 : fieldOf Tryd.prog 130 1 = some (1, 1, 17) := by kernel_rfl
@[push_cast] theorem q130_1 : placeOf Tryd.prog 130 1 = some (1, 1) := by kernel_rfl
@[push_cast] theorem f130_2 : fieldOf Tryd.prog 130 2 = some (2, 1, 17) := by kernel_rfl
@[push_cast] theorem q130_2 : placeOf Tryd.prog 130 2 = some (2, 1) := by kernel_rfl
@[push_cast] theorem f130_3 : fieldOf Tryd.prog 130 3 = some (3, 1, 9) := by kernel_rfl
@[push_cast] theorem q130_3 : placeOf Tryd.prog 130 3 = some (3, 1) := by kernel_rfl
@[push_cast] theorem p130 : placesOk Tryd.prog 130 = true := by kernel_rfl
@[push_cast] theorem c131 : Tryd.prog.cellsOf 131 = 0 := by kernel_rfl
@[push_cast] theorem g131 : isAggB Tryd.prog 131 = true := by kernel_rfl
@[push_cast] theorem s131 : (Tryd.prog.underlying 131).isSome = true := by kernel_rfl
@[push_cast] theorem i131 : (Tryd.prog.info? 131).isSome = true := by kernel_rfl
@[push_cast] theorem m131 : concreteB Tryd.prog 131 = true := by kernel_rfl
@[push_cast] theorem a131 : elemOk Tryd.prog 131 = true := by kernel_rfl
@[push_cast] theorem b131 : bytesOf Tryd.prog 131 = 0 := by kernel_rfl
@[push_cast] theorem z131 : zeroD Tryd.prog 131 = some ([]) := by kernel_rfl
@[push_cast] theorem u131 : Tryd.prog.underlying 131 = some (.array 0 16) := by kernel_rfl
@[push_cast] theorem e131 : Tryd.prog.elem 131 = 16 := by kernel_rfl
@[push_cast] theorem l131 : Tryd.prog.arrayLen 131 = 0 := by kernel_rfl
@[push_cast] theorem p131 : placesOk Tryd.prog 131 = true := by kernel_rfl
@[push_cast] theorem q131 (i : Nat) : placeOf Tryd.prog 131 i = some (i * 1, 1) := by rw [placeOf_arr u131, c16]
@[push_cast] theorem c132 : Tryd.prog.cellsOf 132 = 0 := by kernel_rfl
@[push_cast] theorem g132 : isAggB Tryd.prog 132 = true := by kernel_rfl
@[push_cast] theorem s132 : (Tryd.prog.underlying 132).isSome = true := by kernel_rfl
@[push_cast] theorem i132 : (Tryd.prog.info? 132).isSome = true := by kernel_rfl
@[push_cast] theorem m132 : concreteB Tryd.prog 132 = true := by kernel_rfl
@[push_cast] theorem a132 : elemOk Tryd.prog 132 = true := by kernel_rfl
@[push_cast] theorem b132 : bytesOf Tryd.prog 132 = 0 := by kernel_rfl
@[push_cast] theorem z132 : zeroD Tryd.prog 132 = some ([]) := by kernel_rfl
@[push_cast] theorem f132_0 : fieldOf Tryd.prog 132 0 = some (0, 0, 131) := by kernel_rfl
@[push_cast] theorem q132_0 : placeOf Tryd.prog 132 0 = some (0, 0) := by kernel_rfl
@[push_cast] theorem p132 : placesOk Tryd.prog 132 = true := by kernel_rfl
@[push_cast] theorem c133 : Tryd.prog.cellsOf 133 = 0 := by kernel_rfl
@[push_cast] theorem g133 : isAggB Tryd.prog 133 = true := by kernel_rfl
@[push_cast] theorem s133 : (Tryd.prog.underlying 133).isSome = true := by kernel_rfl
@[push_cast] theorem i133 : (Tryd.prog.info? 133).isSome = true := by kernel_rfl
@[push_cast] theorem m133 : concreteB Tryd.prog 133 = true := by kernel_rfl
@[push_cast] theorem a133 : elemOk Tryd.prog 133 = true := by kernel_rfl
@[push_cast] theorem b133 : bytesOf Tryd.prog 133 = 0 := by kernel_rfl
@[push_cast] theorem z133 : zeroD Tryd.prog 133 = some ([]) := by kernel_rfl
@[push_cast] theorem f133_0 : fieldOf Tryd.prog 133 0 = some (0, 0, 131) := by kernel_rfl
@[push_cast] theorem q133_0 : placeOf Tryd.prog 133 0 = some (0, 0) := by kernel_rfl
@[push_cast] theorem p133 : placesOk Tryd.prog 133 = true := by kernel_rfl
@[push_cast] theorem c134 : Tryd.prog.cellsOf 134 = 1 := by kernel_rfl
@[push_cast] theorem g134 : isAggB Tryd.prog 134 = false := by kernel_rfl
@[push_cast] theorem s134 : (Tryd.prog.underlying 134).isSome = true := by kernel_rfl
@[push_cast] theorem i134 : (Tryd.prog.info? 134).isSome = true := by kernel_rfl
@[push_cast] theorem m134 : concreteB Tryd.prog 134 = true := by kernel_rfl
@[push_cast] theorem a134 : elemOk Tryd.prog 134 = true := by kernel_rfl
@[push_cast] theorem b134 : bytesOf Tryd.prog 134 = 8 := by kernel_rfl
@[push_cast] theorem z134 : zeroD Tryd.prog 134 = some ([.t (.v .nilFunc)]) := by kernel_rfl
@[push_cast] theorem c135 : Tryd.prog.cellsOf 135 = 1 := by kernel_rfl
@[push_cast] theorem g135 : isAggB Tryd.prog 135 = false := by kernel_rfl
@[push_cast] theorem s135 : (Tryd.prog.underlying 135).isSome = true := by kernel_rfl
@[push_cast] theorem i135 : (Tryd.prog.info? 135).isSome = true := by kernel_rfl
@[push_cast] theorem m135 : concreteB Tryd.prog 135 = true := by kernel_rfl
@[push_cast] theorem a135 : elemOk Tryd.prog 135 = true := by kernel_rfl
@[push_cast] theorem b135 : bytesOf Tryd.prog 135 = 8 := by kernel_rfl
@[push_cast] theorem z135 : zeroD Tryd.prog 135 = some ([.t (.v .nilFunc)]) := by kernel_rfl
@[push_cast] theorem c136 : Tryd.prog.cellsOf 136 = 1 := by kernel_rfl
@[push_cast] theorem g136 : isAggB Tryd.prog 136 = false := by kernel_rfl
@[push_cast] theorem s136 : (Tryd.prog.underlying 136).isSome = true := by kernel_rfl
@[push_cast] theorem i136 : (Tryd.prog.info? 136).isSome = true := by kernel_rfl
@[push_cast] theorem m136 : concreteB Tryd.prog 136 = true := by kernel_rfl
@[push_cast] theorem a136 : elemOk Tryd.prog 136 = true := by kernel_rfl
@[push_cast] theorem b136 : bytesOf Tryd.prog 136 = 4 := by kernel_rfl
@[push_cast] theorem z136 : zeroD Tryd.prog 136 = some ([.t (.v (.int .u32 0))]) := by kernel_rfl
@[push_cast] theorem u136 : Tryd.prog.underlying 136 = some (.int .u32) := by kernel_rfl
@[push_cast] theorem c137 : Tryd.prog.cellsOf 137 = 1 := by kernel_rfl
@[push_cast] theorem g137 : isAggB Tryd.prog 137 = false := by kernel_rfl
@[push_cast] theorem s137 : (Tryd.prog.underlying 137).isSome = true := by kernel_rfl
@[push_cast] theorem i137 : (Tryd.prog.info? 137).isSome = true := by kernel_rfl
@[push_cast] theorem m137 : concreteB Tryd.prog 137 = true := by kernel_rfl
@[push_cast] theorem a137 : elemOk Tryd.prog 137 = true := by kernel_rfl
@[push_cast] theorem b137 : bytesOf Tryd.prog 137 = 1 := by kernel_rfl
@[push_cast] theorem z137 : zeroD Tryd.prog 137 = some ([.t (.v (.int .u8 0))]) := by kernel_rfl
@[push_cast] theorem u137 : Tryd.prog.underlying 137 = some (.int .u8) := by kernel_rfl
@[push_cast] theorem c138 : Tryd.prog.cellsOf 138 = 1 := by kernel_rfl
@[push_cast] theorem g138 : isAggB Tryd.prog 138 = false := by kernel_rfl
@[push_cast] theorem s138 : (Tryd.prog.underlying 138).isSome = true := by kernel_rfl
@[push_cast] theorem i138 : (Tryd.prog.info? 138).isSome = true := by kernel_rfl
@[push_cast] theorem m138 : concreteB Tryd.prog 138 = true := by kernel_rfl
@[push_cast] theorem a138 : elemOk Tryd.prog 138 = true := by kernel_rfl
@[push_cast] theorem b138 : bytesOf Tryd.prog 138 = 8 := by kernel_rfl
@[push_cast] theorem z138 : zeroD Tryd.prog 138 = some ([.t (.v .nilFunc)]) := by kernel_rfl
@[push_cast] theorem c139 : Tryd.prog.cellsOf 139 = 1 := by kernel_rfl
@[push_cast] theorem g139 : isAggB Tryd.prog 139 = false := by kernel_rfl
@[push_cast] theorem s139 : (Tryd.prog.underlying 139).isSome = true := by kernel_rfl
@[push_cast] theorem i139 : (Tryd.prog.info? 139).isSome = true := by kernel_rfl
@[push_cast] theorem m139 : concreteB Tryd.prog 139 = true := by kernel_rfl
@[push_cast] theorem a139 : elemOk Tryd.prog 139 = true := by kernel_rfl
@[push_cast] theorem b139 : bytesOf Tryd.prog 139 = 8 := by kernel_rfl
@[push_cast] theorem z139 : zeroD Tryd.prog 139 = some ([.t (.v (.pointer none))]) := by kernel_rfl
@[push_cast] theorem c140 : Tryd.prog.cellsOf 140 = 1 := by kernel_rfl
@[push_cast] theorem g140 : isAggB Tryd.prog 140 = false := by kernel_rfl
@[push_cast] theorem s140 : (Tryd.prog.underlying 140).isSome = true := by kernel_rfl
@[push_cast] theorem i140 : (Tryd.prog.info? 140).isSome = true := by kernel_rfl
@[push_cast] theorem m140 : concreteB Tryd.prog 140 = true := by kernel_rfl
@[push_cast] theorem a140 : elemOk Tryd.prog 140 = true := by kernel_rfl
@[push_cast] theorem b140 : bytesOf Tryd.prog 140 = 4 := by kernel_rfl
@[push_cast] theorem z140 : zeroD Tryd.prog 140 = some ([.t (.v (.int .i32 0))]) := by kernel_rfl
@[push_cast] theorem u140 : Tryd.prog.underlying 140 = some (.int .i32) := by kernel_rfl
@[push_cast] theorem c141 : Tryd.prog.cellsOf 141 = 1 := by kernel_rfl
@[push_cast] theorem g141 : isAggB Tryd.prog 141 = false := by kernel_rfl
@[push_cast] theorem s141 : (Tryd.prog.underlying 141).isSome = true := by kernel_rfl
@[push_cast] theorem i141 : (Tryd.prog.info? 141).isSome = true := by kernel_rfl
@[push_cast] theorem m141 : concreteB Tryd.prog 141 = true := by kernel_rfl
@[push_cast] theorem a141 : elemOk Tryd.prog 141 = true := by kernel_rfl
@[push_cast] theorem b141 : bytesOf Tryd.prog 141 = 4 := by kernel_rfl
@[push_cast] theorem z141 : zeroD Tryd.prog 141 = some ([.t (.v (.int .i32 0))]) := by kernel_rfl
@[push_cast] theorem u141 : Tryd.prog.underlying 141 = some (.int .i32) := by kernel_rfl
@[push_cast] theorem c142 : Tryd.prog.cellsOf 142 = 11 := by kernel_rfl
@[push_cast] theorem g142 : isAggB Tryd.prog 142 = true := by kernel_rfl
@[push_cast] theorem s142 : (Tryd.prog.underlying 142).isSome = true := by kernel_rfl
@[push_cast] theorem i142 : (Tryd.prog.info? 142).isSome = true := by kernel_rfl
@[push_cast] theorem m142 : concreteB Tryd.prog 142 = true := by kernel_rfl
@[push_cast] theorem a142 : elemOk Tryd.prog 142 = true := by kernel_rfl
@[push_cast] theorem b142 : bytesOf Tryd.prog 142 = 48 := by kernel_rfl
@[push_cast] theorem z142 : zeroD Tryd.prog 142 = some ([.t (.v (.int .u64 0)), .t (.v (.int .u64 0)), .t (.v (.int .u32 0)), .t (.v (.int .u8 0)), .t (.v (.int .u8 0)), .t (.v (.int .u8 0)), .t (.v (.int .u8 0)), .t (.v .nilFunc), .t (.v (.pointer none)), .t (.v (.int .i32 0)), .t (.v (.int .i32 0))]) := by kernel_rfl
@[push_cast] theorem f142_0 : fieldOf Tryd.prog 142 0 = some (0, 1, 12) := by kernel_rfl
@[push_cast] theorem q142_0 : placeOf Tryd.prog 142 0 = some (0, 1) := by kernel_rfl
@[push_cast] theorem f142_1 : fieldOf Tryd.prog 142 1 = some (1, 1, 12) := by kernel_rfl
@[push_cast] theorem q142_1 : placeOf Tryd.prog 142 1 = some (1, 1) := by kernel_rfl
@[push_cast] theorem f142_2 : fieldOf Tryd.prog 142 2 = some (2, 1, 136) := by kernel_rfl
@[push_cast] theorem q142_2 : placeOf Tryd.prog 142 2 = some (2, 1) := by kernel_rfl
@[push_cast] theorem f142_3 : fieldOf Tryd.prog 142 3 = some (3, 1, 137) := by kernel_rfl
@[push_cast] theorem q142_3 : placeOf Tryd.prog 142 3 = some (3, 1) := by kernel_rfl
@[push_cast] theorem f142_4 : fieldOf Tryd.prog 142 4 = some (4, 1, 5) := by kernel_rfl
@[push_cast] theorem q142_4 : placeOf Tryd.prog 142 4 = some (4, 1) := by kernel_rfl
@[push_cast] theorem f142_5 : fieldOf Tryd.prog 142 5 = some (5, 1, 5) := by kernel_rfl
@[push_cast] theorem q142_5 : placeOf Tryd.prog 142 5 = some (5, 1) := by kernel_rfl
@[push_cast] theorem f142_6 : fieldOf Tryd.prog 142 6 = some (6, 1, 93) := by kernel_rfl
@[push_cast] theorem q142_6 : placeOf Tryd.prog 142 6 = some (6, 1) := by kernel_rfl
@[push_cast] theorem f142_7 : fieldOf Tryd.prog 142 7 = some (7, 1, 138) := by kernel_rfl
@[push_cast] theorem q142_7 : placeOf Tryd.prog 142 7 = some (7, 1) := by kernel_rfl
@[push_cast] theorem f142_8 : fieldOf Tryd.prog 142 8 = some (8, 1, 139) := by kernel_rfl
@[push_cast] theorem q142_8 : placeOf Tryd.prog 142 8 = some (8, 1) := by kernel_rfl
@[push_cast] theorem f142_9 : fieldOf Tryd.prog 142 9 = some (9, 1, 140) := by kernel_rfl
@[push_cast] theorem q142_9 : placeOf Tryd.prog 142 9 = some (9, 1) := by kernel_rfl
@[push_cast] theorem f142_10 : fieldOf Tryd.prog 142 10 = some (10, 1, 141) := by kernel_rfl
@[push_cast] theorem q142_10 : placeOf Tryd.prog 142 10 = some (10, 1) := by kernel_rfl
@[push_cast] theorem p142 : placesOk Tryd.prog 142 = true := by kernel_rfl
@[push_cast] theorem c143 : Tryd.prog.cellsOf 143 = 11 := by kernel_rfl
@[push_cast] theorem g143 : isAggB Tryd.prog 143 = true := by kernel_rfl
@[push_cast] theorem s143 : (Tryd.prog.underlying 143).isSome = true := by kernel_rfl
@[push_cast] theorem i143 : (Tryd.prog.info? 143).isSome = true := by kernel_rfl
@[push_cast] theorem m143 : concreteB Tryd.prog 143 = true := by kernel_rfl
@[push_cast] theorem a143 : elemOk Tryd.prog 143 = true := by kernel_rfl
@[push_cast] theorem b143 : bytesOf Tryd.prog 143 = 48 := by kernel_rfl
@[push_cast] theorem z143 : zeroD Tryd.prog 143 = some ([.t (.v (.int .u64 0)), .t (.v (.int .u64 0)), .t (.v (.int .u32 0)), .t (.v (.int .u8 0)), .t (.v (.int .u8 0)), .t (.v (.int .u8 0)), .t (.v (.int .u8 0)), .t (.v .nilFunc), .t (.v (.pointer none)), .t (.v (.int .i32 0)), .t (.v (.int .i32 0))]) := by kernel_rfl
@[push_cast] theorem f143_0 : fieldOf Tryd.prog 143 0 = some (0, 1, 12) := by kernel_rfl
@[push_cast] theorem q143_0 : placeOf Tryd.prog 143 0 = some (0, 1) := by kernel_rfl
@[push_cast] theorem f143_1 : fieldOf Tryd.prog 143 1 = some (1, 1, 12) := by kernel_rfl
@[push_cast] theorem q143_1 : placeOf Tryd.prog 143 1 = some (1, 1) := by kernel_rfl
@[push_cast] theorem f143_2 : fieldOf Tryd.prog 143 2 = some (2, 1, 136) := by kernel_rfl
@[push_cast] theorem q143_2 : placeOf Tryd.prog 143 2 = some (2, 1) := by kernel_rfl
@[push_cast] theorem f143_3 : fieldOf Tryd.prog 143 3 = some (3, 1, 137) := by kernel_rfl
@[push_cast] theorem q143_3 : placeOf Tryd.prog 143 3 = some (3, 1) := by kernel_rfl
@[push_cast] theorem f143_4 : fieldOf Tryd.prog 143 4 = some (4, 1, 5) := by kernel_rfl
@[push_cast] theorem q143_4 : placeOf Tryd.prog 143 4 = some (4, 1) := by kernel_rfl
@[push_cast] theorem f143_5 : fieldOf Tryd.prog 143 5 = some (5, 1, 5) := by kernel_rfl
@[push_cast] theorem q143_5 : placeOf Tryd.prog 143 5 = some (5, 1) := by kernel_rfl
@[push_cast] theorem f143_6 : fieldOf Tryd.prog 143 6 = some (6, 1, 93) := by kernel_rfl
@[push_cast] theorem q143_6 : placeOf Tryd.prog 143 6 = some (6, 1) := by kernel_rfl
@[push_cast] theorem f143_7 : fieldOf Tryd.prog 143 7 = some (7, 1, 138) := by kernel_rfl
@[push_cast] theorem q143_7 : placeOf Tryd.prog 143 7 = some (7, 1) := by kernel_rfl
@[push_cast] theorem f143_8 : fieldOf Tryd.prog 143 8 = some (8, 1, 139) := by kernel_rfl
@[push_cast] theorem q143_8 : placeOf Tryd.prog 143 8 = some (8, 1) := by kernel_rfl
@[push_cast] theorem f143_9 : fieldOf Tryd.prog 143 9 = some (9, 1, 140) := by kernel_rfl
@[push_cast] theorem q143_9 : placeOf Tryd.prog 143 9 = some (9, 1) := by kernel_rfl
@[push_cast] theorem f143_10 : fieldOf Tryd.prog 143 10 = some (10, 1, 141) := by kernel_rfl
@[push_cast] theorem q143_10 : placeOf Tryd.prog 143 10 = some (10, 1) := by kernel_rfl
@[push_cast] theorem p143 : placesOk Tryd.prog 143 = true := by kernel_rfl
@[push_cast] theorem c144 : Tryd.prog.cellsOf 144 = 1 := by kernel_rfl
@[push_cast] theorem g144 : isAggB Tryd.prog 144 = false := by kernel_rfl
@[push_cast] theorem s144 : (Tryd.prog.underlying 144).isSome = true := by kernel_rfl
@[push_cast] theorem i144 : (Tryd.prog.info? 144).isSome = true := by kernel_rfl
@[push_cast] theorem m144 : concreteB Tryd.prog 144 = true := by kernel_rfl
@[push_cast] theorem a144 : elemOk Tryd.prog 144 = true := by kernel_rfl
@[push_cast] theorem b144 : bytesOf Tryd.prog 144 = 8 := by kernel_rfl
@[push_cast] theorem z144 : zeroD Tryd.prog 144 = some ([.t (.v .nilFunc)]) := by kernel_rfl
@[push_cast] theorem c145 : Tryd.prog.cellsOf 145 = 1 := by kernel_rfl
@[push_cast] theorem g145 : isAggB Tryd.prog 145 = false := by kernel_rfl
@[push_cast] theorem s145 : (Tryd.prog.underlying 145).isSome = true := by kernel_rfl
@[push_cast] theorem i145 : (Tryd.prog.info? 145).isSome = true := by kernel_rfl
@[push_cast] theorem m145 : concreteB Tryd.prog 145 = true := by kernel_rfl
@[push_cast] theorem a145 : elemOk Tryd.prog 145 = true := by kernel_rfl
@[push_cast] theorem b145 : bytesOf Tryd.prog 145 = 8 := by kernel_rfl
@[push_cast] theorem z145 : zeroD Tryd.prog 145 = some ([.t (.v .nilFunc)]) := by kernel_rfl
@[push_cast] theorem c146 : Tryd.prog.cellsOf 146 = 2 := by kernel_rfl
@[push_cast] theorem g146 : isAggB Tryd.prog 146 = true := by kernel_rfl
@[push_cast] theorem s146 : (Tryd.prog.underlying 146).isSome = true := by kernel_rfl
@[push_cast] theorem i146 : (Tryd.prog.info? 146).isSome = true := by kernel_rfl
@[push_cast] theorem m146 : concreteB Tryd.prog 146 = true := by kernel_rfl
@[push_cast] theorem a146 : elemOk Tryd.prog 146 = true := by kernel_rfl
@[push_cast] theorem b146 : bytesOf Tryd.prog 146 = 24 := by kernel_rfl
@[push_cast] theorem z146 : zeroD Tryd.prog 146 = some ([.t (.v (.string ⟨#[]⟩)), .t (.v (.int .u8 0))]) := by kernel_rfl
@[push_cast] theorem f146_0 : fieldOf Tryd.prog 146 0 = some (0, 1, 9) := by kernel_rfl
@[push_cast] theorem q146_0 : placeOf Tryd.prog 146 0 = some (0, 1) := by kernel_rfl
@[push_cast] theorem f146_1 : fieldOf Tryd.prog 146 1 = some (1, 1, 93) := by kernel_rfl
@[push_cast] theorem q146_1 : placeOf Tryd.prog 146 1 = some (1, 1) := by kernel_rfl
@[push_cast] theorem p146 : placesOk Tryd.prog 146 = true := by kernel_rfl
@[push_cast] theorem c147 : Tryd.prog.cellsOf 147 = 2 := by kernel_rfl
@[push_cast] theorem g147 : isAggB Tryd.prog 147 = true := by kernel_rfl
@[push_cast] theorem s147 : (Tryd.prog.underlying 147).isSome = true := by kernel_rfl
@[push_cast] theorem i147 : (Tryd.prog.info? 147).isSome = true := by kernel_rfl
@[push_cast] theorem m147 : concreteB Tryd.prog 147 = true := by kernel_rfl
@[push_cast] theorem a147 : elemOk Tryd.prog 147 = true := by kernel_rfl
@[push_cast] theorem b147 : bytesOf Tryd.prog 147 = 24 := by kernel_rfl
@[push_cast] theorem z147 : zeroD Tryd.prog 147 = some ([.t (.v (.string ⟨#[]⟩)), .t (.v (.int .u8 0))]) := by kernel_rfl
@[push_cast] theorem f147_0 : fieldOf Tryd.prog 147 0 = some (0, 1, 9) := by kernel_rfl
@[push_cast] theorem q147_0 : placeOf Tryd.prog 147 0 = some (0, 1) := by kernel_rfl
@[push_cast] theorem f147_1 : fieldOf Tryd.prog 147 1 = some (1, 1, 93) := by kernel_rfl
@[push_cast] theorem q147_1 : placeOf Tryd.prog 147 1 = some (1, 1) := by kernel_rfl
@[push_cast] theorem p147 : placesOk Tryd.prog 147 = true := by kernel_rfl
@[push_cast] theorem c148 : Tryd.prog.cellsOf 148 = 1 := by kernel_rfl
@[push_cast] theorem g148 : isAggB Tryd.prog 148 = false := by kernel_rfl
@[push_cast] theorem s148 : (Tryd.prog.underlying 148).isSome = true := by kernel_rfl
@[push_cast] theorem i148 : (Tryd.prog.info? 148).isSome = true := by kernel_rfl
@[push_cast] theorem m148 : concreteB Tryd.prog 148 = true := by kernel_rfl
@[push_cast] theorem a148 : elemOk Tryd.prog 148 = true := by kernel_rfl
@[push_cast] theorem b148 : bytesOf Tryd.prog 148 = 8 := by kernel_rfl
@[push_cast] theorem z148 : zeroD Tryd.prog 148 = some ([.t (.v (.pointer none))]) := by kernel_rfl
@[push_cast] theorem c149 : Tryd.prog.cellsOf 149 = 1 := by kernel_rfl
@[push_cast] theorem g149 : isAggB Tryd.prog 149 = false := by kernel_rfl
@[push_cast] theorem s149 : (Tryd.prog.underlying 149).isSome = true := by kernel_rfl
@[push_cast] theorem i149 : (Tryd.prog.info? 149).isSome = true := by kernel_rfl
@[push_cast] theorem m149 : concreteB Tryd.prog 149 = true := by kernel_rfl
@[push_cast] theorem a149 : elemOk Tryd.prog 149 = true := by kernel_rfl
@[push_cast] theorem b149 : bytesOf Tryd.prog 149 = 8 := by kernel_rfl
@[push_cast] theorem z149 : zeroD Tryd.prog 149 = some ([.t (.v .nilFunc)]) := by kernel_rfl
@[push_cast] theorem c150 : Tryd.prog.cellsOf 150 = 1 := by kernel_rfl
@[push_cast] theorem g150 : isAggB Tryd.prog 150 = false := by kernel_rfl
@[push_cast] theorem s150 : (Tryd.prog.underlying 150).isSome = true := by kernel_rfl
@[push_cast] theorem i150 : (Tryd.prog.info? 150).isSome = true := by kernel_rfl
@[push_cast] theorem m150 : concreteB Tryd.prog 150 = true := by kernel_rfl
@[push_cast] theorem a150 : elemOk Tryd.prog 150 = true := by kernel_rfl
@[push_cast] theorem b150 : bytesOf Tryd.prog 150 = 2 := by kernel_rfl
@[push_cast] theorem z150 : zeroD Tryd.prog 150 = some ([.t (.v (.int .u16 0))]) := by kernel_rfl
@[push_cast] theorem u150 : Tryd.prog.underlying 150 = some (.int .u16) := by kernel_rfl
@[push_cast] theorem c151 : Tryd.prog.cellsOf 151 = 5 := by kernel_rfl
@[push_cast] theorem g151 : isAggB Tryd.prog 151 = true := by kernel_rfl
@[push_cast] theorem s151 : (Tryd.prog.underlying 151).isSome = true := by kernel_rfl
@[push_cast] theorem i151 : (Tryd.prog.info? 151).isSome = true := by kernel_rfl
@[push_cast] theorem m151 : concreteB Tryd.prog 151 = true := by kernel_rfl
@[push_cast] theorem a151 : elemOk Tryd.prog 151 = true := by kernel_rfl
@[push_cast] theorem b151 : bytesOf Tryd.prog 151 = 16 := by kernel_rfl
@[push_cast] theorem z151 : zeroD Tryd.prog 151 = some ([.t (.v (.int .i32 0)), .t (.v (.int .u16 0)), .t (.v (.int .u16 0)), .t (.v (.int .u32 0)), .t (.v (.int .u32 0))]) := by kernel_rfl
@[push_cast] theorem f151_0 : fieldOf Tryd.prog 151 0 = some (0, 1, 140) := by kernel_rfl
@[push_cast] theorem q151_0 : placeOf Tryd.prog 151 0 = some (0, 1) := by kernel_rfl
@[push_cast] theorem f151_1 : fieldOf Tryd.prog 151 1 = some (1, 1, 150) := by kernel_rfl
@[push_cast] theorem q151_1 : placeOf Tryd.prog 151 1 = some (1, 1) := by kernel_rfl
@[push_cast] theorem f151_2 : fieldOf Tryd.prog 151 2 = some (2, 1, 150) := by kernel_rfl
@[push_cast] theorem q151_2 : placeOf Tryd.prog 151 2 = some (2, 1) := by kernel_rfl
@[push_cast] theorem f151_3 : fieldOf Tryd.prog 151 3 = some (3, 1, 136) := by kernel_rfl
@[push_cast] theorem q151_3 : placeOf Tryd.prog 151 3 = some (3, 1) := by kernel_rfl
@[push_cast] theorem f151_4 : fieldOf Tryd.prog 151 4 = some (4, 1, 136) := by kernel_rfl
@[push_cast] theorem q151_4 : placeOf Tryd.prog 151 4 = some (4, 1) := by kernel_rfl
@[push_cast] theorem p151 : placesOk Tryd.prog 151 = true := by kernel_rfl
@[push_cast] theorem c152 : Tryd.prog.cellsOf 152 = 5 := by kernel_rfl
@[push_cast] theorem g152 : isAggB Tryd.prog 152 = true := by kernel_rfl
@[push_cast] theorem s152 : (Tryd.prog.underlying 152).isSome = true := by kernel_rfl
@[push_cast] theorem i152 : (Tryd.prog.info? 152).isSome = true := by kernel_rfl
@[push_cast] theorem m152 : concreteB Tryd.prog 152 = true := by kernel_rfl
@[push_cast] theorem a152 : elemOk Tryd.prog 152 = true := by kernel_rfl
@[push_cast] theorem b152 : bytesOf Tryd.prog 152 = 16 := by kernel_rfl
@[push_cast] theorem z152 : zeroD Tryd.prog 152 = some ([.t (.v (.int .i32 0)), .t (.v (.int .u16 0)), .t (.v (.int .u16 0)), .t (.v (.int .u32 0)), .t (.v (.int .u32 0))]) := by kernel_rfl
@[push_cast] theorem f152_0 : fieldOf Tryd.prog 152 0 = some (0, 1, 140) := by kernel_rfl
@[push_cast] theorem q152_0 : placeOf Tryd.prog 152 0 = some (0, 1) := by kernel_rfl
@[push_cast] theorem f152_1 : fieldOf Tryd.prog 152 1 = some (1, 1, 150) := by kernel_rfl
@[push_cast] theorem q152_1 : placeOf Tryd.prog 152 1 = some (1, 1) := by kernel_rfl
@[push_cast] theorem f152_2 : fieldOf Tryd.prog 152 2 = some (2, 1, 150) := by kernel_rfl
@[push_cast] theorem q152_2 : placeOf Tryd.prog 152 2 = some (2, 1) := by kernel_rfl
@[push_cast] theorem f152_3 : fieldOf Tryd.prog 152 3 = some (3, 1, 136) := by kernel_rfl
@[push_cast] theorem q152_3 : placeOf Tryd.prog 152 3 = some (3, 1) := by kernel_rfl
@[push_cast] theorem f152_4 : fieldOf Tryd.prog 152 4 = some (4, 1, 136) := by kernel_rfl
@[push_cast] theorem q152_4 : placeOf Tryd.prog 152 4 = some (4, 1) := by kernel_rfl
@[push_cast] theorem p152 : placesOk Tryd.prog 152 = true := by kernel_rfl
@[push_cast] theorem c153 : Tryd.prog.cellsOf 153 = 1 := by kernel_rfl
@[push_cast] theorem g153 : isAggB Tryd.prog 153 = false := by kernel_rfl
@[push_cast] theorem s153 : (Tryd.prog.underlying 153).isSome = true := by kernel_rfl
@[push_cast] theorem i153 : (Tryd.prog.info? 153).isSome = true := by kernel_rfl
@[push_cast] theorem m153 : concreteB Tryd.prog 153 = true := by kernel_rfl
@[push_cast] theorem a153 : elemOk Tryd.prog 153 = true := by kernel_rfl
@[push_cast] theorem b153 : bytesOf Tryd.prog 153 = 24 := by kernel_rfl
@[push_cast] theorem z153 : zeroD Tryd.prog 153 = some ([.t (.v (.slice none 0 0))]) := by kernel_rfl
@[push_cast] theorem u153 : Tryd.prog.underlying 153 = some (.slice 156) := by kernel_rfl
@[push_cast] theorem e153 : Tryd.prog.elem 153 = 156 := by kernel_rfl
@[push_cast] theorem c154 : Tryd.prog.cellsOf 154 = 1 := by kernel_rfl
@[push_cast] theorem g154 : isAggB Tryd.prog 154 = false := by kernel_rfl
@[push_cast] theorem s154 : (Tryd.prog.underlying 154).isSome = true := by kernel_rfl
@[push_cast] theorem i154 : (Tryd.prog.info? 154).isSome = true := by kernel_rfl
@[push_cast] theorem m154 : concreteB Tryd.prog 154 = true := by kernel_rfl
@[push_cast] theorem a154 : elemOk Tryd.prog 154 = true := by kernel_rfl
@[push_cast] theorem b154 : bytesOf Tryd.prog 154 = 4 := by kernel_rfl
@[push_cast] theorem z154 : zeroD Tryd.prog 154 = some ([.t (.v (.int .i32 0))]) := by kernel_rfl
@[push_cast] theorem u154 : Tryd.prog.underlying 154 = some (.int .i32) := by kernel_rfl
@[push_cast] theorem c155 : Tryd.prog.cellsOf 155 = 4 := by kernel_rfl
@[push_cast] theorem g155 : isAggB Tryd.prog 155 = true := by kernel_rfl
@[push_cast] theorem s155 : (Tryd.prog.underlying 155).isSome = true := by kernel_rfl
@[push_cast] theorem i155 : (Tryd.prog.info? 155).isSome = true := by kernel_rfl
@[push_cast] theorem m155 : concreteB Tryd.prog 155 = true := by kernel_rfl
@[push_cast] theorem a155 : elemOk Tryd.prog 155 = true := by kernel_rfl
@[push_cast] theorem b155 : bytesOf Tryd.prog 155 = 16 := by kernel_rfl
@[push_cast] theorem z155 : zeroD Tryd.prog 155 = some ([.t (.v (.int .i32 0)), .t (.v (.int .i32 0)), .t (.v (.int .i32 0)), .t (.v (.int .i32 0))]) := by kernel_rfl
@[push_cast] theorem f155_0 : fieldOf Tryd.prog 155 0 = some (0, 1, 140) := by kernel_rfl
@[push_cast] theorem q155_0 : placeOf Tryd.prog 155 0 = some (0, 1) := by kernel_rfl
@[push_cast] theorem f155_1 : fieldOf Tryd.prog 155 1 = some (1, 1, 141) := by kernel_rfl
@[push_cast] theorem q155_1 : placeOf Tryd.prog 155 1 = some (1, 1) := by kernel_rfl
@[push_cast] theorem f155_2 : fieldOf Tryd.prog 155 2 = some (2, 1, 154) := by kernel_rfl
@[push_cast] theorem q155_2 : placeOf Tryd.prog 155 2 = some (2, 1) := by kernel_rfl
@[push_cast] theorem f155_3 : fieldOf Tryd.prog 155 3 = some (3, 1, 154) := by kernel_rfl
@[push_cast] theorem q155_3 : placeOf Tryd.prog 155 3 = some (3, 1) := by kernel_rfl
@[push_cast] theorem p155 : placesOk Tryd.prog 155 = true := by kernel_rfl
@[push_cast] theorem c156 : Tryd.prog.cellsOf 156 = 4 := by kernel_rfl
@[push_cast] theorem g156 : isAggB Tryd.prog 156 = true := by kernel_rfl
@[push_cast] theorem s156 : (Tryd.prog.underlying 156).isSome = true := by kernel_rfl
@[push_cast] theorem i156 : (Tryd.prog.info? 156).isSome = true := by kernel_rfl
@[push_cast] theorem m156 : concreteB Tryd.prog 156 = true := by kernel_rfl
@[push_cast] theorem a156 : elemOk Tryd.prog 156 = true := by kernel_rfl
@[push_cast] theorem b156 : bytesOf Tryd.prog 156 = 16 := by kernel_rfl
@[push_cast] theorem z156 : zeroD Tryd.prog 156 = some ([.t (.v (.int .i32 0)), .t (.v (.int .i32 0)), .t (.v (.int .i32 0)), .t (.v (.int .i32 0))]) := by kernel_rfl
@[push_cast] theorem f156_0 : fieldOf Tryd.prog 156 0 = some (0, 1, 140) := by kernel_rfl
@[push_cast] theorem q156_0 : placeOf Tryd.prog 156 0 = some (0, 1) := by kernel_rfl
@[push_cast] theorem f156_1 : fieldOf Tryd.prog 156 1 = some (1, 1, 141) := by kernel_rfl
@[push_cast] theorem q156_1 : placeOf Tryd.prog 156 1 = some (1, 1) := by kernel_rfl
@[push_cast] theorem f156_2 : fieldOf Tryd.prog 156 2 = some (2, 1, 154) := by kernel_rfl
@[push_cast] theorem q156_2 : placeOf Tryd.prog 156 2 = some (2, 1) := by kernel_rfl
@[push_cast] theorem f156_3 : fieldOf Tryd.prog 156 3 = some (3, 1, 154) := by kernel_rfl
@[push_cast] theorem q156_3 : placeOf Tryd.prog 156 3 = some (3, 1) := by kernel_rfl
@[push_cast] theorem p156 : placesOk Tryd.prog 156 = true := by kernel_rfl
@[push_cast] theorem c157 : Tryd.prog.cellsOf 157 = 1 := by kernel_rfl
@[push_cast] theorem g157 : isAggB Tryd.prog 157 = false := by kernel_rfl
@[push_cast] theorem s157 : (Tryd.prog.underlying 157).isSome = true := by kernel_rfl
@[push_cast] theorem i157 : (Tryd.prog.info? 157).isSome = true := by kernel_rfl
@[push_cast] theorem m157 : concreteB Tryd.prog 157 = true := by kernel_rfl
@[push_cast] theorem a157 : elemOk Tryd.prog 157 = true := by kernel_rfl
@[push_cast] theorem b157 : bytesOf Tryd.prog 157 = 8 := by kernel_rfl
@[push_cast] theorem z157 : zeroD Tryd.prog 157 = some ([.t (.v (.pointer none))]) := by kernel_rfl
@[push_cast] theorem k2 : callOk Tryd.prog 2 = true := by kernel_rfl
@[push_cast] theorem k3 : callOk Tryd.prog 3 = true := by kernel_rfl
@[push_cast] theorem k4 : callOk Tryd.prog 4 = true := by kernel_rfl
@[push_cast] theorem k5 : callOk Tryd.prog 5 = true := by kernel_rfl
@[push_cast] theorem k6 : callOk Tryd.prog 6 = true := by kernel_rfl
@[push_cast] theorem k7 : callOk Tryd.prog 7 = true := by kernel_rfl
@[push_cast] theorem k8 : callOk Tryd.prog 8 = true := by kernel_rfl
@[push_cast] theorem k9 : callOk Tryd.prog 9 = true := by kernel_rfl
@[push_cast] theorem k10 : callOk Tryd.prog 10 = true := by kernel_rfl
@[push_cast] theorem k11 : callOk Tryd.prog 11 = true := by kernel_rfl
@[push_cast] theorem k12 : callOk Tryd.prog 12 = true := by kernel_rfl
@[push_cast] theorem k13 : callOk Tryd.prog 13 = true := by kernel_rfl
@[push_cast] theorem k14 : callOk Tryd.prog 14 = true := by kernel_rfl
@[push_cast] theorem k15 : callOk Tryd.prog 15 = true := by kernel_rfl
@[push_cast] theorem k16 : callOk Tryd.prog 16 = true := by kernel_rfl
@[push_cast] theorem k17 : callOk Tryd.prog 17 = true := by kernel_rfl
@[push_cast] theorem k18 : callOk Tryd.prog 18 = true := by kernel_rfl
@[push_cast] theorem k19 : callOk Tryd.prog 19 = true := by kernel_rfl
@[push_cast] theorem k20 : callOk Tryd.prog 20 = true := by kernel_rfl
@[push_cast] theorem k21 : callOk Tryd.prog 21 = true := by kernel_rfl
@[push_cast] theorem k22 : callOk Tryd.prog 22 = true := by kernel_rfl
@[push_cast] theorem k23 : callOk Tryd.prog 23 = true := by kernel_rfl
@[push_cast] theorem k24 : callOk Tryd.prog 24 = true := by kernel_rfl
@[push_cast] theorem k25 : callOk Tryd.prog 25 = true := by kernel_rfl
@[push_cast] theorem k26 : callOk Tryd.prog 26 = true := by kernel_rfl
@[push_cast] theorem k27 : callOk Tryd.prog 27 = true := by kernel_rfl
@[push_cast] theorem k28 : callOk Tryd.prog 28 = true := by kernel_rfl
@[push_cast] theorem k29 : callOk Tryd.prog 29 = true := by kernel_rfl
@[push_cast] theorem k30 : callOk Tryd.prog 30 = true := by kernel_rfl
@[push_cast] theorem k31 : callOk Tryd.prog 31 = true := by kernel_rfl
@[push_cast] theorem k32 : callOk Tryd.prog 32 = true := by kernel_rfl
@[push_cast] theorem k33 : callOk Tryd.prog 33 = true := by kernel_rfl
@[push_cast] theorem k37 : callOk Tryd.prog 37 = true := by kernel_rfl
@[push_cast] theorem k38 : callOk Tryd.prog 38 = true := by kernel_rfl
@[push_cast] theorem k39 : callOk Tryd.prog 39 = true := by kernel_rfl
@[push_cast] theorem k40 : callOk Tryd.prog 40 = true := by kernel_rfl
@[push_cast] theorem k41 : callOk Tryd.prog 41 = true := by kernel_rfl
@[push_cast] theorem k42 : callOk Tryd.prog 42 = true := by kernel_rfl
@[push_cast] theorem k43 : callOk Tryd.prog 43 = true := by kernel_rfl
@[push_cast] theorem k47 : callOk Tryd.prog 47 = true := by kernel_rfl
@[push_cast] theorem k48 : callOk Tryd.prog 48 = true := by kernel_rfl
@[push_cast] theorem k49 : callOk Tryd.prog 49 = true := by kernel_rfl
@[push_cast] theorem k50 : callOk Tryd.prog 50 = true := by kernel_rfl
@[push_cast] theorem k51 : callOk Tryd.prog 51 = true := by kernel_rfl
@[push_cast] theorem k71 : callOk Tryd.prog 71 = true := by kernel_rfl
@[push_cast] theorem k78 : callOk Tryd.prog 78 = true := by kernel_rfl
@[push_cast] theorem k80 : callOk Tryd.prog 80 = true := by kernel_rfl
@[push_cast] theorem k96 : callOk Tryd.prog 96 = true := by kernel_rfl
@[push_cast] theorem mix : Tryd.prog.follows .mixedOrders = true := by kernel_rfl
end Go.Proofs.Tryd.F
