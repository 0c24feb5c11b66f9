/-
  Facts on the types of this seat's program.
-/
import Derived.Test.YtfblibmibaiagaaProg
import Derived.Test.YtfblibmibaiagaaK16
namespace Go.Proofs.Ytfblibmibaiagaa
open Go K
theorem hmix : Try.prog.follows .mixedOrders = true := by kernel_rfl
theorem ty_c2 : Try.prog.cellsOf 2 = 1 := by kernel_rfl
theorem ty_i2 : (Try.prog.info? 2).isSome = true := by kernel_rfl
theorem ty_u2 : (Try.prog.underlying 2).isSome = true := by kernel_rfl
theorem ty_a2 : aggT Try.prog 2 = false := by kernel_rfl
theorem ty_w2 : (decide (Try.prog.bytesOf 2 ≤ 1024)) = true := by kernel_rfl
theorem ty_z2 : zeroOf Try.prog 2 = some (.int .i64 0) := by kernel_rfl
theorem ty_c3 : Try.prog.cellsOf 3 = 1 := by kernel_rfl
theorem ty_i3 : (Try.prog.info? 3).isSome = true := by kernel_rfl
theorem ty_u3 : (Try.prog.underlying 3).isSome = true := by kernel_rfl
theorem ty_a3 : aggT Try.prog 3 = false := by kernel_rfl
theorem ty_w3 : (decide (Try.prog.bytesOf 3 ≤ 1024)) = true := by kernel_rfl
theorem ty_z3 : zeroOf Try.prog 3 = some (.int .i64 0) := by kernel_rfl
theorem ty_c4 : Try.prog.cellsOf 4 = 1 := by kernel_rfl
theorem ty_i4 : (Try.prog.info? 4).isSome = true := by kernel_rfl
theorem ty_u4 : (Try.prog.underlying 4).isSome = true := by kernel_rfl
theorem ty_a4 : aggT Try.prog 4 = false := by kernel_rfl
theorem ty_w4 : (decide (Try.prog.bytesOf 4 ≤ 1024)) = true := by kernel_rfl
theorem ty_b4 : isBoolT Try.prog 4 = true := by kernel_rfl
theorem ty_z4 : zeroOf Try.prog 4 = some (.bool false) := by kernel_rfl
theorem ty_c5 : Try.prog.cellsOf 5 = 1 := by kernel_rfl
theorem ty_i5 : (Try.prog.info? 5).isSome = true := by kernel_rfl
theorem ty_u5 : (Try.prog.underlying 5).isSome = true := by kernel_rfl
theorem ty_a5 : aggT Try.prog 5 = false := by kernel_rfl
theorem ty_w5 : (decide (Try.prog.bytesOf 5 ≤ 1024)) = true := by kernel_rfl
theorem ty_z5 : zeroOf Try.prog 5 = some (.int .u8 0) := by kernel_rfl
theorem ty_c9 : Try.prog.cellsOf 9 = 1 := by kernel_rfl
theorem ty_i9 : (Try.prog.info? 9).isSome = true := by kernel_rfl
theorem ty_u9 : (Try.prog.underlying 9).isSome = true := by kernel_rfl
theorem ty_a9 : aggT Try.prog 9 = false := by kernel_rfl
theorem ty_w9 : (decide (Try.prog.bytesOf 9 ≤ 1024)) = true := by kernel_rfl
theorem ty_z9 : zeroOf Try.prog 9 = some (.string ⟨#[]⟩) := by kernel_rfl
theorem ty_c12 : Try.prog.cellsOf 12 = 1 := by kernel_rfl
theorem ty_i12 : (Try.prog.info? 12).isSome = true := by kernel_rfl
theorem ty_u12 : (Try.prog.underlying 12).isSome = true := by kernel_rfl
theorem ty_a12 : aggT Try.prog 12 = false := by kernel_rfl
theorem ty_w12 : (decide (Try.prog.bytesOf 12 ≤ 1024)) = true := by kernel_rfl
theorem ty_z12 : zeroOf Try.prog 12 = some (.int .u64 0) := by kernel_rfl
theorem ty_c21 : Try.prog.cellsOf 21 = 1 := by kernel_rfl
theorem ty_i21 : (Try.prog.info? 21).isSome = true := by kernel_rfl
theorem ty_u21 : (Try.prog.underlying 21).isSome = true := by kernel_rfl
theorem ty_a21 : aggT Try.prog 21 = false := by kernel_rfl
theorem ty_w21 : (decide (Try.prog.bytesOf 21 ≤ 1024)) = true := by kernel_rfl
theorem ty_z21 : zeroOf Try.prog 21 = some (.int .i32 0) := by kernel_rfl
theorem ty_c22 : Try.prog.cellsOf 22 = 2 := by kernel_rfl
theorem ty_i22 : (Try.prog.info? 22).isSome = true := by kernel_rfl
theorem ty_u22 : (Try.prog.underlying 22).isSome = true := by kernel_rfl
theorem ty_a22 : aggT Try.prog 22 = true := by kernel_rfl
theorem ty_w22 : (decide (Try.prog.bytesOf 22 ≤ 1024)) = true := by kernel_rfl
theorem ty_z22 : zeroOf Try.prog 22 = some (.agg #[.int .i64 0, .int .i64 0]) := by kernel_rfl
theorem ty_s22 : structN Try.prog 22 = some 2 := by kernel_rfl
theorem ty_f22_0 : fieldOf Try.prog 22 0 = some (0, 3) := by kernel_rfl
theorem ty_f22_1 : fieldOf Try.prog 22 1 = some (1, 3) := by kernel_rfl
theorem ty_c23 : Try.prog.cellsOf 23 = 2 := by kernel_rfl
theorem ty_i23 : (Try.prog.info? 23).isSome = true := by kernel_rfl
theorem ty_u23 : (Try.prog.underlying 23).isSome = true := by kernel_rfl
theorem ty_a23 : aggT Try.prog 23 = true := by kernel_rfl
theorem ty_w23 : (decide (Try.prog.bytesOf 23 ≤ 1024)) = true := by kernel_rfl
theorem ty_z23 : zeroOf Try.prog 23 = some (.agg #[.int .i64 0, .int .i64 0]) := by kernel_rfl
theorem ty_s23 : structN Try.prog 23 = some 2 := by kernel_rfl
theorem ty_f23_0 : fieldOf Try.prog 23 0 = some (0, 3) := by kernel_rfl
theorem ty_f23_1 : fieldOf Try.prog 23 1 = some (1, 3) := by kernel_rfl
theorem ty_c24 : Try.prog.cellsOf 24 = 1 := by kernel_rfl
theorem ty_i24 : (Try.prog.info? 24).isSome = true := by kernel_rfl
theorem ty_u24 : (Try.prog.underlying 24).isSome = true := by kernel_rfl
theorem ty_a24 : aggT Try.prog 24 = false := by kernel_rfl
theorem ty_w24 : (decide (Try.prog.bytesOf 24 ≤ 1024)) = true := by kernel_rfl
theorem ty_z24 : zeroOf Try.prog 24 = some (.slice none 0 0) := by kernel_rfl
theorem ty_c25 : Try.prog.cellsOf 25 = 1 := by kernel_rfl
theorem ty_i25 : (Try.prog.info? 25).isSome = true := by kernel_rfl
theorem ty_u25 : (Try.prog.underlying 25).isSome = true := by kernel_rfl
theorem ty_a25 : aggT Try.prog 25 = true := by kernel_rfl
theorem ty_w25 : (decide (Try.prog.bytesOf 25 ≤ 1024)) = true := by kernel_rfl
theorem ty_z25 : zeroOf Try.prog 25 = some (.agg #[.slice none 0 0]) := by kernel_rfl
theorem ty_f25_0 : fieldOf Try.prog 25 0 = some (0, 24) := by kernel_rfl
theorem ty_c26 : Try.prog.cellsOf 26 = 1 := by kernel_rfl
theorem ty_i26 : (Try.prog.info? 26).isSome = true := by kernel_rfl
theorem ty_u26 : (Try.prog.underlying 26).isSome = true := by kernel_rfl
theorem ty_a26 : aggT Try.prog 26 = true := by kernel_rfl
theorem ty_w26 : (decide (Try.prog.bytesOf 26 ≤ 1024)) = true := by kernel_rfl
theorem ty_z26 : zeroOf Try.prog 26 = some (.agg #[.slice none 0 0]) := by kernel_rfl
theorem ty_f26_0 : fieldOf Try.prog 26 0 = some (0, 24) := by kernel_rfl
theorem ty_c29 : Try.prog.cellsOf 29 = 2 := by kernel_rfl
theorem ty_i29 : (Try.prog.info? 29).isSome = true := by kernel_rfl
theorem ty_u29 : (Try.prog.underlying 29).isSome = true := by kernel_rfl
theorem ty_a29 : aggT Try.prog 29 = true := by kernel_rfl
theorem ty_w29 : (decide (Try.prog.bytesOf 29 ≤ 1024)) = true := by kernel_rfl
theorem ty_z29 : zeroOf Try.prog 29 = some (.agg #[.int .i64 0, .int .i64 0]) := by kernel_rfl
theorem ty_s29 : structN Try.prog 29 = some 2 := by kernel_rfl
theorem ty_f29_0 : fieldOf Try.prog 29 0 = some (0, 3) := by kernel_rfl
theorem ty_f29_1 : fieldOf Try.prog 29 1 = some (1, 3) := by kernel_rfl
theorem ty_c34 : Try.prog.cellsOf 34 = 1 := by kernel_rfl
theorem ty_i34 : (Try.prog.info? 34).isSome = true := by kernel_rfl
theorem ty_u34 : (Try.prog.underlying 34).isSome = true := by kernel_rfl
theorem ty_a34 : aggT Try.prog 34 = false := by kernel_rfl
theorem ty_w34 : (decide (Try.prog.bytesOf 34 ≤ 1024)) = true := by kernel_rfl
theorem ty_z34 : zeroOf Try.prog 34 = some (.slice none 0 0) := by kernel_rfl
theorem ty_c35 : Try.prog.cellsOf 35 = 1 := by kernel_rfl
theorem ty_i35 : (Try.prog.info? 35).isSome = true := by kernel_rfl
theorem ty_u35 : (Try.prog.underlying 35).isSome = true := by kernel_rfl
theorem ty_a35 : aggT Try.prog 35 = true := by kernel_rfl
theorem ty_w35 : (decide (Try.prog.bytesOf 35 ≤ 1024)) = true := by kernel_rfl
theorem ty_z35 : zeroOf Try.prog 35 = some (.agg #[.slice none 0 0]) := by kernel_rfl
theorem ty_f35_0 : fieldOf Try.prog 35 0 = some (0, 34) := by kernel_rfl
theorem ty_c36 : Try.prog.cellsOf 36 = 1 := by kernel_rfl
theorem ty_i36 : (Try.prog.info? 36).isSome = true := by kernel_rfl
theorem ty_u36 : (Try.prog.underlying 36).isSome = true := by kernel_rfl
theorem ty_a36 : aggT Try.prog 36 = true := by kernel_rfl
theorem ty_w36 : (decide (Try.prog.bytesOf 36 ≤ 1024)) = true := by kernel_rfl
theorem ty_z36 : zeroOf Try.prog 36 = some (.agg #[.slice none 0 0]) := by kernel_rfl
theorem ty_f36_0 : fieldOf Try.prog 36 0 = some (0, 34) := by kernel_rfl
theorem ty_c53 : Try.prog.cellsOf 53 = 1 := by kernel_rfl
theorem ty_i53 : (Try.prog.info? 53).isSome = true := by kernel_rfl
theorem ty_u53 : (Try.prog.underlying 53).isSome = true := by kernel_rfl
theorem ty_a53 : aggT Try.prog 53 = false := by kernel_rfl
theorem ty_w53 : (decide (Try.prog.bytesOf 53 ≤ 1024)) = true := by kernel_rfl
theorem ty_z53 : zeroOf Try.prog 53 = some (.slice none 0 0) := by kernel_rfl
theorem ty_c54 : Try.prog.cellsOf 54 = 1 := by kernel_rfl
theorem ty_i54 : (Try.prog.info? 54).isSome = true := by kernel_rfl
theorem ty_u54 : (Try.prog.underlying 54).isSome = true := by kernel_rfl
theorem ty_a54 : aggT Try.prog 54 = true := by kernel_rfl
theorem ty_w54 : (decide (Try.prog.bytesOf 54 ≤ 1024)) = true := by kernel_rfl
theorem ty_z54 : zeroOf Try.prog 54 = some (.agg #[.slice none 0 0]) := by kernel_rfl
theorem ty_f54_0 : fieldOf Try.prog 54 0 = some (0, 53) := by kernel_rfl
theorem ty_c55 : Try.prog.cellsOf 55 = 1 := by kernel_rfl
theorem ty_i55 : (Try.prog.info? 55).isSome = true := by kernel_rfl
theorem ty_u55 : (Try.prog.underlying 55).isSome = true := by kernel_rfl
theorem ty_a55 : aggT Try.prog 55 = true := by kernel_rfl
theorem ty_w55 : (decide (Try.prog.bytesOf 55 ≤ 1024)) = true := by kernel_rfl
theorem ty_z55 : zeroOf Try.prog 55 = some (.agg #[.slice none 0 0]) := by kernel_rfl
theorem ty_f55_0 : fieldOf Try.prog 55 0 = some (0, 53) := by kernel_rfl
theorem ty_c58 : Try.prog.cellsOf 58 = 1 := by kernel_rfl
theorem ty_i58 : (Try.prog.info? 58).isSome = true := by kernel_rfl
theorem ty_u58 : (Try.prog.underlying 58).isSome = true := by kernel_rfl
theorem ty_a58 : aggT Try.prog 58 = false := by kernel_rfl
theorem ty_w58 : (decide (Try.prog.bytesOf 58 ≤ 1024)) = true := by kernel_rfl
theorem ty_z58 : zeroOf Try.prog 58 = some (.slice none 0 0) := by kernel_rfl
theorem ty_c59 : Try.prog.cellsOf 59 = 1 := by kernel_rfl
theorem ty_i59 : (Try.prog.info? 59).isSome = true := by kernel_rfl
theorem ty_u59 : (Try.prog.underlying 59).isSome = true := by kernel_rfl
theorem ty_a59 : aggT Try.prog 59 = true := by kernel_rfl
theorem ty_w59 : (decide (Try.prog.bytesOf 59 ≤ 1024)) = true := by kernel_rfl
theorem ty_z59 : zeroOf Try.prog 59 = some (.agg #[.slice none 0 0]) := by kernel_rfl
theorem ty_f59_0 : fieldOf Try.prog 59 0 = some (0, 58) := by kernel_rfl
theorem ty_c60 : Try.prog.cellsOf 60 = 1 := by kernel_rfl
theorem ty_i60 : (Try.prog.info? 60).isSome = true := by kernel_rfl
theorem ty_u60 : (Try.prog.underlying 60).isSome = true := by kernel_rfl
theorem ty_a60 : aggT Try.prog 60 = true := by kernel_rfl
theorem ty_w60 : (decide (Try.prog.bytesOf 60 ≤ 1024)) = true := by kernel_rfl
theorem ty_z60 : zeroOf Try.prog 60 = some (.agg #[.slice none 0 0]) := by kernel_rfl
theorem ty_f60_0 : fieldOf Try.prog 60 0 = some (0, 58) := by kernel_rfl
theorem ty_c72 : Try.prog.cellsOf 72 = 1 := by kernel_rfl
theorem ty_i72 : (Try.prog.info? 72).isSome = true := by kernel_rfl
theorem ty_u72 : (Try.prog.underlying 72).isSome = true := by kernel_rfl
theorem ty_a72 : aggT Try.prog 72 = false := by kernel_rfl
theorem ty_w72 : (decide (Try.prog.bytesOf 72 ≤ 1024)) = true := by kernel_rfl
theorem ty_z72 : zeroOf Try.prog 72 = some (.pointer none) := by kernel_rfl
theorem ty_c73 : Try.prog.cellsOf 73 = 1 := by kernel_rfl
theorem ty_i73 : (Try.prog.info? 73).isSome = true := by kernel_rfl
theorem ty_u73 : (Try.prog.underlying 73).isSome = true := by kernel_rfl
theorem ty_a73 : aggT Try.prog 73 = false := by kernel_rfl
theorem ty_w73 : (decide (Try.prog.bytesOf 73 ≤ 1024)) = true := by kernel_rfl
theorem ty_z73 : zeroOf Try.prog 73 = some (.pointer none) := by kernel_rfl
theorem ty_c75 : Try.prog.cellsOf 75 = 3 := by kernel_rfl
theorem ty_i75 : (Try.prog.info? 75).isSome = true := by kernel_rfl
theorem ty_u75 : (Try.prog.underlying 75).isSome = true := by kernel_rfl
theorem ty_a75 : aggT Try.prog 75 = true := by kernel_rfl
theorem ty_w75 : (decide (Try.prog.bytesOf 75 ≤ 1024)) = true := by kernel_rfl
theorem ty_z75 : zeroOf Try.prog 75 = some (.agg #[.slice none 0 0, .int .i64 0, .int .i64 0]) := by kernel_rfl
theorem ty_f75_0 : fieldOf Try.prog 75 0 = some (0, 26) := by kernel_rfl
theorem ty_f75_1 : fieldOf Try.prog 75 1 = some (1, 29) := by kernel_rfl
theorem ty_c76 : Try.prog.cellsOf 76 = 3 := by kernel_rfl
theorem ty_i76 : (Try.prog.info? 76).isSome = true := by kernel_rfl
theorem ty_u76 : (Try.prog.underlying 76).isSome = true := by kernel_rfl
theorem ty_a76 : aggT Try.prog 76 = true := by kernel_rfl
theorem ty_w76 : (decide (Try.prog.bytesOf 76 ≤ 1024)) = true := by kernel_rfl
theorem ty_z76 : zeroOf Try.prog 76 = some (.agg #[.slice none 0 0, .int .i64 0, .int .i64 0]) := by kernel_rfl
theorem ty_f76_0 : fieldOf Try.prog 76 0 = some (0, 26) := by kernel_rfl
theorem ty_f76_1 : fieldOf Try.prog 76 1 = some (1, 29) := by kernel_rfl
theorem ty_c84 : Try.prog.cellsOf 84 = 2 := by kernel_rfl
theorem ty_i84 : (Try.prog.info? 84).isSome = true := by kernel_rfl
theorem ty_u84 : (Try.prog.underlying 84).isSome = true := by kernel_rfl
theorem ty_a84 : aggT Try.prog 84 = true := by kernel_rfl
theorem ty_w84 : (decide (Try.prog.bytesOf 84 ≤ 1024)) = true := by kernel_rfl
theorem ty_z84 : zeroOf Try.prog 84 = some (.agg #[.string ⟨#[]⟩, .slice none 0 0]) := by kernel_rfl
theorem ty_f84_0 : fieldOf Try.prog 84 0 = some (0, 9) := by kernel_rfl
theorem ty_f84_1 : fieldOf Try.prog 84 1 = some (1, 26) := by kernel_rfl
theorem ty_c85 : Try.prog.cellsOf 85 = 2 := by kernel_rfl
theorem ty_i85 : (Try.prog.info? 85).isSome = true := by kernel_rfl
theorem ty_u85 : (Try.prog.underlying 85).isSome = true := by kernel_rfl
theorem ty_a85 : aggT Try.prog 85 = true := by kernel_rfl
theorem ty_w85 : (decide (Try.prog.bytesOf 85 ≤ 1024)) = true := by kernel_rfl
theorem ty_z85 : zeroOf Try.prog 85 = some (.agg #[.string ⟨#[]⟩, .slice none 0 0]) := by kernel_rfl
theorem ty_f85_0 : fieldOf Try.prog 85 0 = some (0, 9) := by kernel_rfl
theorem ty_f85_1 : fieldOf Try.prog 85 1 = some (1, 26) := by kernel_rfl
theorem ty_c92 : Try.prog.cellsOf 92 = 3 := by kernel_rfl
theorem ty_i92 : (Try.prog.info? 92).isSome = true := by kernel_rfl
theorem ty_u92 : (Try.prog.underlying 92).isSome = true := by kernel_rfl
theorem ty_a92 : aggT Try.prog 92 = true := by kernel_rfl
theorem ty_w92 : (decide (Try.prog.bytesOf 92 ≤ 1024)) = true := by kernel_rfl
theorem ty_z92 : zeroOf Try.prog 92 = some (.agg #[.slice none 0 0, .int .i64 0, .int .i64 0]) := by kernel_rfl
theorem ty_f92_0 : fieldOf Try.prog 92 0 = some (0, 36) := by kernel_rfl
theorem ty_f92_1 : fieldOf Try.prog 92 1 = some (1, 23) := by kernel_rfl
theorem ty_c93 : Try.prog.cellsOf 93 = 3 := by kernel_rfl
theorem ty_i93 : (Try.prog.info? 93).isSome = true := by kernel_rfl
theorem ty_u93 : (Try.prog.underlying 93).isSome = true := by kernel_rfl
theorem ty_a93 : aggT Try.prog 93 = true := by kernel_rfl
theorem ty_w93 : (decide (Try.prog.bytesOf 93 ≤ 1024)) = true := by kernel_rfl
theorem ty_z93 : zeroOf Try.prog 93 = some (.agg #[.slice none 0 0, .int .i64 0, .int .i64 0]) := by kernel_rfl
theorem ty_f93_0 : fieldOf Try.prog 93 0 = some (0, 36) := by kernel_rfl
theorem ty_f93_1 : fieldOf Try.prog 93 1 = some (1, 23) := by kernel_rfl
theorem ty_c97 : Try.prog.cellsOf 97 = 1 := by kernel_rfl
theorem ty_i97 : (Try.prog.info? 97).isSome = true := by kernel_rfl
theorem ty_u97 : (Try.prog.underlying 97).isSome = true := by kernel_rfl
theorem ty_a97 : aggT Try.prog 97 = false := by kernel_rfl
theorem ty_w97 : (decide (Try.prog.bytesOf 97 ≤ 1024)) = true := by kernel_rfl
theorem ty_z97 : zeroOf Try.prog 97 = some (.pointer none) := by kernel_rfl
theorem ty_c103 : Try.prog.cellsOf 103 = 2 := by kernel_rfl
theorem ty_i103 : (Try.prog.info? 103).isSome = true := by kernel_rfl
theorem ty_u103 : (Try.prog.underlying 103).isSome = true := by kernel_rfl
theorem ty_a103 : aggT Try.prog 103 = true := by kernel_rfl
theorem ty_w103 : (decide (Try.prog.bytesOf 103 ≤ 1024)) = true := by kernel_rfl
theorem ty_z103 : zeroOf Try.prog 103 = some (.agg #[.string ⟨#[]⟩, .slice none 0 0]) := by kernel_rfl
theorem ty_f103_0 : fieldOf Try.prog 103 0 = some (0, 9) := by kernel_rfl
theorem ty_f103_1 : fieldOf Try.prog 103 1 = some (1, 36) := by kernel_rfl
theorem ty_c104 : Try.prog.cellsOf 104 = 2 := by kernel_rfl
theorem ty_i104 : (Try.prog.info? 104).isSome = true := by kernel_rfl
theorem ty_u104 : (Try.prog.underlying 104).isSome = true := by kernel_rfl
theorem ty_a104 : aggT Try.prog 104 = true := by kernel_rfl
theorem ty_w104 : (decide (Try.prog.bytesOf 104 ≤ 1024)) = true := by kernel_rfl
theorem ty_z104 : zeroOf Try.prog 104 = some (.agg #[.string ⟨#[]⟩, .slice none 0 0]) := by kernel_rfl
theorem ty_f104_0 : fieldOf Try.prog 104 0 = some (0, 9) := by kernel_rfl
theorem ty_f104_1 : fieldOf Try.prog 104 1 = some (1, 36) := by kernel_rfl
theorem ty_c114 : Try.prog.cellsOf 114 = 1 := by kernel_rfl
theorem ty_i114 : (Try.prog.info? 114).isSome = true := by kernel_rfl
theorem ty_u114 : (Try.prog.underlying 114).isSome = true := by kernel_rfl
theorem ty_a114 : aggT Try.prog 114 = false := by kernel_rfl
theorem ty_w114 : (decide (Try.prog.bytesOf 114 ≤ 1024)) = true := by kernel_rfl
theorem ty_z114 : zeroOf Try.prog 114 = some (.int .u32 0) := by kernel_rfl
theorem ty_c118 : Try.prog.cellsOf 118 = 1 := by kernel_rfl
theorem ty_i118 : (Try.prog.info? 118).isSome = true := by kernel_rfl
theorem ty_u118 : (Try.prog.underlying 118).isSome = true := by kernel_rfl
theorem ty_a118 : aggT Try.prog 118 = false := by kernel_rfl
theorem ty_w118 : (decide (Try.prog.bytesOf 118 ≤ 1024)) = true := by kernel_rfl
theorem ty_z118 : zeroOf Try.prog 118 = some (.pointer none) := by kernel_rfl
theorem ok_f3 : okFn Try.prog 3 = true := by kernel_rfl
theorem ok_f4 : okFn Try.prog 4 = true := by kernel_rfl
theorem ok_f5 : okFn Try.prog 5 = true := by kernel_rfl
theorem ok_f6 : okFn Try.prog 6 = true := by kernel_rfl
theorem ok_f7 : okFn Try.prog 7 = true := by kernel_rfl
theorem ok_f8 : okFn Try.prog 8 = true := by kernel_rfl
theorem ok_f9 : okFn Try.prog 9 = true := by kernel_rfl
theorem ok_f10 : okFn Try.prog 10 = true := by kernel_rfl
theorem ok_f11 : okFn Try.prog 11 = true := by kernel_rfl
theorem ok_f12 : okFn Try.prog 12 = true := by kernel_rfl
theorem ok_f13 : okFn Try.prog 13 = true := by kernel_rfl
theorem ok_f14 : okFn Try.prog 14 = true := by kernel_rfl
theorem ok_f15 : okFn Try.prog 15 = true := by kernel_rfl
theorem ok_f16 : okFn Try.prog 16 = true := by kernel_rfl
theorem ok_f17 : okFn Try.prog 17 = true := by kernel_rfl
theorem ok_f18 : okFn Try.prog 18 = true := by kernel_rfl
theorem ok_f19 : okFn Try.prog 19 = true := by kernel_rfl
theorem ok_f20 : okFn Try.prog 20 = true := by kernel_rfl
theorem ok_f21 : okFn Try.prog 21 = true := by kernel_rfl
theorem ok_f22 : okFn Try.prog 22 = true := by kernel_rfl
theorem ok_f23 : okFn Try.prog 23 = true := by kernel_rfl
theorem ok_f24 : okFn Try.prog 24 = true := by kernel_rfl
theorem ok_f25 : okFn Try.prog 25 = true := by kernel_rfl
theorem ok_f26 : okFn Try.prog 26 = true := by kernel_rfl
theorem ok_f27 : okFn Try.prog 27 = true := by kernel_rfl
theorem ok_f28 : okFn Try.prog 28 = true := by kernel_rfl
theorem ok_f29 : okFn Try.prog 29 = true := by kernel_rfl
theorem ok_f30 : okFn Try.prog 30 = true := by kernel_rfl
theorem ok_f31 : okFn Try.prog 31 = true := by kernel_rfl
theorem ok_f32 : okFn Try.prog 32 = true := by kernel_rfl
theorem ok_f33 : okFn Try.prog 33 = true := by kernel_rfl
theorem ok_f34 : okFn Try.prog 34 = true := by kernel_rfl
theorem ok_f35 : okFn Try.prog 35 = true := by kernel_rfl
theorem ok_f36 : okFn Try.prog 36 = true := by kernel_rfl
theorem ok_f37 : okFn Try.prog 37 = true := by kernel_rfl
theorem ok_f38 : okFn Try.prog 38 = true := by kernel_rfl
theorem ok_f39 : okFn Try.prog 39 = true := by kernel_rfl
theorem ok_f40 : okFn Try.prog 40 = true := by kernel_rfl
theorem ok_f41 : okFn Try.prog 41 = true := by kernel_rfl
theorem ok_f42 : okFn Try.prog 42 = true := by kernel_rfl
theorem ok_f43 : okFn Try.prog 43 = true := by kernel_rfl
theorem ok_f44 : okFn Try.prog 44 = true := by kernel_rfl
theorem ok_f45 : okFn Try.prog 45 = true := by kernel_rfl
theorem ok_f46 : okFn Try.prog 46 = true := by kernel_rfl
theorem ok_f47 : okFn Try.prog 47 = true := by kernel_rfl
theorem ok_f48 : okFn Try.prog 48 = true := by kernel_rfl
theorem ok_f49 : okFn Try.prog 49 = true := by kernel_rfl
theorem ok_f50 : okFn Try.prog 50 = true := by kernel_rfl
theorem ok_f51 : okFn Try.prog 51 = true := by kernel_rfl
theorem ok_f52 : okFn Try.prog 52 = true := by kernel_rfl
theorem ok_f53 : okFn Try.prog 53 = true := by kernel_rfl
theorem ok_f54 : okFn Try.prog 54 = true := by kernel_rfl
theorem ok_f55 : okFn Try.prog 55 = true := by kernel_rfl
theorem ok_f56 : okFn Try.prog 56 = true := by kernel_rfl
theorem ok_f57 : okFn Try.prog 57 = true := by kernel_rfl
theorem ok_f58 : okFn Try.prog 58 = true := by kernel_rfl
theorem ok_f59 : okFn Try.prog 59 = true := by kernel_rfl
theorem ok_f60 : okFn Try.prog 60 = true := by kernel_rfl
theorem ok_f61 : okFn Try.prog 61 = true := by kernel_rfl
theorem ok_f62 : okFn Try.prog 62 = true := by kernel_rfl
theorem ok_f63 : okFn Try.prog 63 = true := by kernel_rfl
theorem ok_f64 : okFn Try.prog 64 = true := by kernel_rfl
theorem ok_f65 : okFn Try.prog 65 = true := by kernel_rfl
theorem ok_f66 : okFn Try.prog 66 = true := by kernel_rfl
theorem ok_f67 : okFn Try.prog 67 = true := by kernel_rfl
theorem ok_f68 : okFn Try.prog 68 = true := by kernel_rfl
theorem ok_f69 : okFn Try.prog 69 = true := by kernel_rfl
theorem ok_f70 : okFn Try.prog 70 = true := by kernel_rfl
theorem ok_f71 : okFn Try.prog 71 = true := by kernel_rfl
theorem ok_f72 : okFn Try.prog 72 = true := by kernel_rfl
theorem ok_f73 : okFn Try.prog 73 = true := by kernel_rfl
theorem ok_f74 : okFn Try.prog 74 = true := by kernel_rfl
theorem ok_f75 : okFn Try.prog 75 = true := by kernel_rfl
theorem ok_f76 : okFn Try.prog 76 = true := by kernel_rfl
theorem ok_f77 : okFn Try.prog 77 = true := by kernel_rfl
theorem ok_f78 : okFn Try.prog 78 = true := by kernel_rfl
theorem ok_f79 : okFn Try.prog 79 = true := by kernel_rfl
theorem ok_f80 : okFn Try.prog 80 = true := by kernel_rfl
theorem ok_f81 : okFn Try.prog 81 = true := by kernel_rfl
theorem ok_f82 : okFn Try.prog 82 = true := by kernel_rfl
theorem ok_f83 : okFn Try.prog 83 = true := by kernel_rfl
theorem ok_f84 : okFn Try.prog 84 = true := by kernel_rfl
theorem ok_f85 : okFn Try.prog 85 = true := by kernel_rfl
theorem ok_f86 : okFn Try.prog 86 = true := by kernel_rfl
theorem ok_f87 : okFn Try.prog 87 = true := by kernel_rfl
theorem ok_f88 : okFn Try.prog 88 = true := by kernel_rfl
theorem ok_f89 : okFn Try.prog 89 = true := by kernel_rfl
theorem ok_f90 : okFn Try.prog 90 = true := by kernel_rfl
theorem ok_f91 : okFn Try.prog 91 = true := by kernel_rfl
theorem ok_f92 : okFn Try.prog 92 = true := by kernel_rfl
theorem ok_f93 : okFn Try.prog 93 = true := by kernel_rfl
theorem ok_f94 : okFn Try.prog 94 = true := by kernel_rfl
theorem ok_f95 : okFn Try.prog 95 = true := by kernel_rfl
theorem ok_f96 : okFn Try.prog 96 = true := by kernel_rfl
theorem ok_f97 : okFn Try.prog 97 = true := by kernel_rfl
theorem ok_f98 : okFn Try.prog 98 = true := by kernel_rfl
theorem ok_f99 : okFn Try.prog 99 = true := by kernel_rfl
theorem ok_f100 : okFn Try.prog 100 = true := by kernel_rfl
theorem ok_f101 : okFn Try.prog 101 = true := by kernel_rfl
theorem tys0 :
    (((((type_of% @ty_c2) ∧ (type_of% @ty_i2)) ∧ ((type_of% @ty_u2) ∧ (type_of% @ty_a2))) ∧ (((type_of% @ty_w2) ∧ (type_of% @ty_z2)) ∧ ((type_of% @ty_c3) ∧ (type_of% @ty_i3)))) ∧ ((((type_of% @ty_u3) ∧ (type_of% @ty_a3)) ∧ ((type_of% @ty_w3) ∧ (type_of% @ty_z3))) ∧ (((type_of% @ty_c4) ∧ (type_of% @ty_i4)) ∧ ((type_of% @ty_u4) ∧ (type_of% @ty_a4))))) :=
  ⟨⟨⟨⟨@ty_c2, @ty_i2⟩, ⟨@ty_u2, @ty_a2⟩⟩, ⟨⟨@ty_w2, @ty_z2⟩, ⟨@ty_c3, @ty_i3⟩⟩⟩, ⟨⟨⟨@ty_u3, @ty_a3⟩, ⟨@ty_w3, @ty_z3⟩⟩, ⟨⟨@ty_c4, @ty_i4⟩, ⟨@ty_u4, @ty_a4⟩⟩⟩⟩
theorem tys1 :
    (((((type_of% @ty_w4) ∧ (type_of% @ty_b4)) ∧ ((type_of% @ty_z4) ∧ (type_of% @ty_c5))) ∧ (((type_of% @ty_i5) ∧ (type_of% @ty_u5)) ∧ ((type_of% @ty_a5) ∧ (type_of% @ty_w5)))) ∧ ((((type_of% @ty_z5) ∧ (type_of% @ty_c9)) ∧ ((type_of% @ty_i9) ∧ (type_of% @ty_u9))) ∧ (((type_of% @ty_a9) ∧ (type_of% @ty_w9)) ∧ ((type_of% @ty_z9) ∧ (type_of% @ty_c12))))) :=
  ⟨⟨⟨⟨@ty_w4, @ty_b4⟩, ⟨@ty_z4, @ty_c5⟩⟩, ⟨⟨@ty_i5, @ty_u5⟩, ⟨@ty_a5, @ty_w5⟩⟩⟩, ⟨⟨⟨@ty_z5, @ty_c9⟩, ⟨@ty_i9, @ty_u9⟩⟩, ⟨⟨@ty_a9, @ty_w9⟩, ⟨@ty_z9, @ty_c12⟩⟩⟩⟩
theorem tys2 :
    (((((type_of% @ty_i12) ∧ (type_of% @ty_u12)) ∧ ((type_of% @ty_a12) ∧ (type_of% @ty_w12))) ∧ (((type_of% @ty_z12) ∧ (type_of% @ty_c21)) ∧ ((type_of% @ty_i21) ∧ (type_of% @ty_u21)))) ∧ ((((type_of% @ty_a21) ∧ (type_of% @ty_w21)) ∧ ((type_of% @ty_z21) ∧ (type_of% @ty_c22))) ∧ (((type_of% @ty_i22) ∧ (type_of% @ty_u22)) ∧ ((type_of% @ty_a22) ∧ (type_of% @ty_w22))))) :=
  ⟨⟨⟨⟨@ty_i12, @ty_u12⟩, ⟨@ty_a12, @ty_w12⟩⟩, ⟨⟨@ty_z12, @ty_c21⟩, ⟨@ty_i21, @ty_u21⟩⟩⟩, ⟨⟨⟨@ty_a21, @ty_w21⟩, ⟨@ty_z21, @ty_c22⟩⟩, ⟨⟨@ty_i22, @ty_u22⟩, ⟨@ty_a22, @ty_w22⟩⟩⟩⟩
theorem tys3 :
    (((((type_of% @ty_z22) ∧ (type_of% @ty_s22)) ∧ ((type_of% @ty_f22_0) ∧ (type_of% @ty_f22_1))) ∧ (((type_of% @ty_c23) ∧ (type_of% @ty_i23)) ∧ ((type_of% @ty_u23) ∧ (type_of% @ty_a23)))) ∧ ((((type_of% @ty_w23) ∧ (type_of% @ty_z23)) ∧ ((type_of% @ty_s23) ∧ (type_of% @ty_f23_0))) ∧ (((type_of% @ty_f23_1) ∧ (type_of% @ty_c24)) ∧ ((type_of% @ty_i24) ∧ (type_of% @ty_u24))))) :=
  ⟨⟨⟨⟨@ty_z22, @ty_s22⟩, ⟨@ty_f22_0, @ty_f22_1⟩⟩, ⟨⟨@ty_c23, @ty_i23⟩, ⟨@ty_u23, @ty_a23⟩⟩⟩, ⟨⟨⟨@ty_w23, @ty_z23⟩, ⟨@ty_s23, @ty_f23_0⟩⟩, ⟨⟨@ty_f23_1, @ty_c24⟩, ⟨@ty_i24, @ty_u24⟩⟩⟩⟩
theorem tys4 :
    (((((type_of% @ty_a24) ∧ (type_of% @ty_w24)) ∧ ((type_of% @ty_z24) ∧ (type_of% @ty_c25))) ∧ (((type_of% @ty_i25) ∧ (type_of% @ty_u25)) ∧ ((type_of% @ty_a25) ∧ (type_of% @ty_w25)))) ∧ ((((type_of% @ty_z25) ∧ (type_of% @ty_f25_0)) ∧ ((type_of% @ty_c26) ∧ (type_of% @ty_i26))) ∧ (((type_of% @ty_u26) ∧ (type_of% @ty_a26)) ∧ ((type_of% @ty_w26) ∧ (type_of% @ty_z26))))) :=
  ⟨⟨⟨⟨@ty_a24, @ty_w24⟩, ⟨@ty_z24, @ty_c25⟩⟩, ⟨⟨@ty_i25, @ty_u25⟩, ⟨@ty_a25, @ty_w25⟩⟩⟩, ⟨⟨⟨@ty_z25, @ty_f25_0⟩, ⟨@ty_c26, @ty_i26⟩⟩, ⟨⟨@ty_u26, @ty_a26⟩, ⟨@ty_w26, @ty_z26⟩⟩⟩⟩
theorem tys5 :
    (((((type_of% @ty_f26_0) ∧ (type_of% @ty_c29)) ∧ ((type_of% @ty_i29) ∧ (type_of% @ty_u29))) ∧ (((type_of% @ty_a29) ∧ (type_of% @ty_w29)) ∧ ((type_of% @ty_z29) ∧ (type_of% @ty_s29)))) ∧ ((((type_of% @ty_f29_0) ∧ (type_of% @ty_f29_1)) ∧ ((type_of% @ty_c34) ∧ (type_of% @ty_i34))) ∧ (((type_of% @ty_u34) ∧ (type_of% @ty_a34)) ∧ ((type_of% @ty_w34) ∧ (type_of% @ty_z34))))) :=
  ⟨⟨⟨⟨@ty_f26_0, @ty_c29⟩, ⟨@ty_i29, @ty_u29⟩⟩, ⟨⟨@ty_a29, @ty_w29⟩, ⟨@ty_z29, @ty_s29⟩⟩⟩, ⟨⟨⟨@ty_f29_0, @ty_f29_1⟩, ⟨@ty_c34, @ty_i34⟩⟩, ⟨⟨@ty_u34, @ty_a34⟩, ⟨@ty_w34, @ty_z34⟩⟩⟩⟩
theorem tys6 :
    (((((type_of% @ty_c35) ∧ (type_of% @ty_i35)) ∧ ((type_of% @ty_u35) ∧ (type_of% @ty_a35))) ∧ (((type_of% @ty_w35) ∧ (type_of% @ty_z35)) ∧ ((type_of% @ty_f35_0) ∧ (type_of% @ty_c36)))) ∧ ((((type_of% @ty_i36) ∧ (type_of% @ty_u36)) ∧ ((type_of% @ty_a36) ∧ (type_of% @ty_w36))) ∧ (((type_of% @ty_z36) ∧ (type_of% @ty_f36_0)) ∧ ((type_of% @ty_c53) ∧ (type_of% @ty_i53))))) :=
  ⟨⟨⟨⟨@ty_c35, @ty_i35⟩, ⟨@ty_u35, @ty_a35⟩⟩, ⟨⟨@ty_w35, @ty_z35⟩, ⟨@ty_f35_0, @ty_c36⟩⟩⟩, ⟨⟨⟨@ty_i36, @ty_u36⟩, ⟨@ty_a36, @ty_w36⟩⟩, ⟨⟨@ty_z36, @ty_f36_0⟩, ⟨@ty_c53, @ty_i53⟩⟩⟩⟩
theorem tys7 :
    (((((type_of% @ty_u53) ∧ (type_of% @ty_a53)) ∧ ((type_of% @ty_w53) ∧ (type_of% @ty_z53))) ∧ (((type_of% @ty_c54) ∧ (type_of% @ty_i54)) ∧ ((type_of% @ty_u54) ∧ (type_of% @ty_a54)))) ∧ ((((type_of% @ty_w54) ∧ (type_of% @ty_z54)) ∧ ((type_of% @ty_f54_0) ∧ (type_of% @ty_c55))) ∧ (((type_of% @ty_i55) ∧ (type_of% @ty_u55)) ∧ ((type_of% @ty_a55) ∧ (type_of% @ty_w55))))) :=
  ⟨⟨⟨⟨@ty_u53, @ty_a53⟩, ⟨@ty_w53, @ty_z53⟩⟩, ⟨⟨@ty_c54, @ty_i54⟩, ⟨@ty_u54, @ty_a54⟩⟩⟩, ⟨⟨⟨@ty_w54, @ty_z54⟩, ⟨@ty_f54_0, @ty_c55⟩⟩, ⟨⟨@ty_i55, @ty_u55⟩, ⟨@ty_a55, @ty_w55⟩⟩⟩⟩
theorem tys8 :
    (((((type_of% @ty_z55) ∧ (type_of% @ty_f55_0)) ∧ ((type_of% @ty_c58) ∧ (type_of% @ty_i58))) ∧ (((type_of% @ty_u58) ∧ (type_of% @ty_a58)) ∧ ((type_of% @ty_w58) ∧ (type_of% @ty_z58)))) ∧ ((((type_of% @ty_c59) ∧ (type_of% @ty_i59)) ∧ ((type_of% @ty_u59) ∧ (type_of% @ty_a59))) ∧ (((type_of% @ty_w59) ∧ (type_of% @ty_z59)) ∧ ((type_of% @ty_f59_0) ∧ (type_of% @ty_c60))))) :=
  ⟨⟨⟨⟨@ty_z55, @ty_f55_0⟩, ⟨@ty_c58, @ty_i58⟩⟩, ⟨⟨@ty_u58, @ty_a58⟩, ⟨@ty_w58, @ty_z58⟩⟩⟩, ⟨⟨⟨@ty_c59, @ty_i59⟩, ⟨@ty_u59, @ty_a59⟩⟩, ⟨⟨@ty_w59, @ty_z59⟩, ⟨@ty_f59_0, @ty_c60⟩⟩⟩⟩
theorem tys9 :
    (((((type_of% @ty_i60) ∧ (type_of% @ty_u60)) ∧ ((type_of% @ty_a60) ∧ (type_of% @ty_w60))) ∧ (((type_of% @ty_z60) ∧ (type_of% @ty_f60_0)) ∧ ((type_of% @ty_c72) ∧ (type_of% @ty_i72)))) ∧ ((((type_of% @ty_u72) ∧ (type_of% @ty_a72)) ∧ ((type_of% @ty_w72) ∧ (type_of% @ty_z72))) ∧ (((type_of% @ty_c73) ∧ (type_of% @ty_i73)) ∧ ((type_of% @ty_u73) ∧ (type_of% @ty_a73))))) :=
  ⟨⟨⟨⟨@ty_i60, @ty_u60⟩, ⟨@ty_a60, @ty_w60⟩⟩, ⟨⟨@ty_z60, @ty_f60_0⟩, ⟨@ty_c72, @ty_i72⟩⟩⟩, ⟨⟨⟨@ty_u72, @ty_a72⟩, ⟨@ty_w72, @ty_z72⟩⟩, ⟨⟨@ty_c73, @ty_i73⟩, ⟨@ty_u73, @ty_a73⟩⟩⟩⟩
theorem tys10 :
    (((((type_of% @ty_w73) ∧ (type_of% @ty_z73)) ∧ ((type_of% @ty_c75) ∧ (type_of% @ty_i75))) ∧ (((type_of% @ty_u75) ∧ (type_of% @ty_a75)) ∧ ((type_of% @ty_w75) ∧ (type_of% @ty_z75)))) ∧ ((((type_of% @ty_f75_0) ∧ (type_of% @ty_f75_1)) ∧ ((type_of% @ty_c76) ∧ (type_of% @ty_i76))) ∧ (((type_of% @ty_u76) ∧ (type_of% @ty_a76)) ∧ ((type_of% @ty_w76) ∧ (type_of% @ty_z76))))) :=
  ⟨⟨⟨⟨@ty_w73, @ty_z73⟩, ⟨@ty_c75, @ty_i75⟩⟩, ⟨⟨@ty_u75, @ty_a75⟩, ⟨@ty_w75, @ty_z75⟩⟩⟩, ⟨⟨⟨@ty_f75_0, @ty_f75_1⟩, ⟨@ty_c76, @ty_i76⟩⟩, ⟨⟨@ty_u76, @ty_a76⟩, ⟨@ty_w76, @ty_z76⟩⟩⟩⟩
theorem tys11 :
    (((((type_of% @ty_f76_0) ∧ (type_of% @ty_f76_1)) ∧ ((type_of% @ty_c84) ∧ (type_of% @ty_i84))) ∧ (((type_of% @ty_u84) ∧ (type_of% @ty_a84)) ∧ ((type_of% @ty_w84) ∧ (type_of% @ty_z84)))) ∧ ((((type_of% @ty_f84_0) ∧ (type_of% @ty_f84_1)) ∧ ((type_of% @ty_c85) ∧ (type_of% @ty_i85))) ∧ (((type_of% @ty_u85) ∧ (type_of% @ty_a85)) ∧ ((type_of% @ty_w85) ∧ (type_of% @ty_z85))))) :=
  ⟨⟨⟨⟨@ty_f76_0, @ty_f76_1⟩, ⟨@ty_c84, @ty_i84⟩⟩, ⟨⟨@ty_u84, @ty_a84⟩, ⟨@ty_w84, @ty_z84⟩⟩⟩, ⟨⟨⟨@ty_f84_0, @ty_f84_1⟩, ⟨@ty_c85, @ty_i85⟩⟩, ⟨⟨@ty_u85, @ty_a85⟩, ⟨@ty_w85, @ty_z85⟩⟩⟩⟩
theorem tys12 :
    (((((type_of% @ty_f85_0) ∧ (type_of% @ty_f85_1)) ∧ ((type_of% @ty_c92) ∧ (type_of% @ty_i92))) ∧ (((type_of% @ty_u92) ∧ (type_of% @ty_a92)) ∧ ((type_of% @ty_w92) ∧ (type_of% @ty_z92)))) ∧ ((((type_of% @ty_f92_0) ∧ (type_of% @ty_f92_1)) ∧ ((type_of% @ty_c93) ∧ (type_of% @ty_i93))) ∧ (((type_of% @ty_u93) ∧ (type_of% @ty_a93)) ∧ ((type_of% @ty_w93) ∧ (type_of% @ty_z93))))) :=
  ⟨⟨⟨⟨@ty_f85_0, @ty_f85_1⟩, ⟨@ty_c92, @ty_i92⟩⟩, ⟨⟨@ty_u92, @ty_a92⟩, ⟨@ty_w92, @ty_z92⟩⟩⟩, ⟨⟨⟨@ty_f92_0, @ty_f92_1⟩, ⟨@ty_c93, @ty_i93⟩⟩, ⟨⟨@ty_u93, @ty_a93⟩, ⟨@ty_w93, @ty_z93⟩⟩⟩⟩
theorem tys13 :
    (((((type_of% @ty_f93_0) ∧ (type_of% @ty_f93_1)) ∧ ((type_of% @ty_c97) ∧ (type_of% @ty_i97))) ∧ (((type_of% @ty_u97) ∧ (type_of% @ty_a97)) ∧ ((type_of% @ty_w97) ∧ (type_of% @ty_z97)))) ∧ ((((type_of% @ty_c103) ∧ (type_of% @ty_i103)) ∧ ((type_of% @ty_u103) ∧ (type_of% @ty_a103))) ∧ (((type_of% @ty_w103) ∧ (type_of% @ty_z103)) ∧ ((type_of% @ty_f103_0) ∧ (type_of% @ty_f103_1))))) :=
  ⟨⟨⟨⟨@ty_f93_0, @ty_f93_1⟩, ⟨@ty_c97, @ty_i97⟩⟩, ⟨⟨@ty_u97, @ty_a97⟩, ⟨@ty_w97, @ty_z97⟩⟩⟩, ⟨⟨⟨@ty_c103, @ty_i103⟩, ⟨@ty_u103, @ty_a103⟩⟩, ⟨⟨@ty_w103, @ty_z103⟩, ⟨@ty_f103_0, @ty_f103_1⟩⟩⟩⟩
theorem tys14 :
    (((((type_of% @ty_c104) ∧ (type_of% @ty_i104)) ∧ ((type_of% @ty_u104) ∧ (type_of% @ty_a104))) ∧ (((type_of% @ty_w104) ∧ (type_of% @ty_z104)) ∧ ((type_of% @ty_f104_0) ∧ (type_of% @ty_f104_1)))) ∧ ((((type_of% @ty_c114) ∧ (type_of% @ty_i114)) ∧ ((type_of% @ty_u114) ∧ (type_of% @ty_a114))) ∧ (((type_of% @ty_w114) ∧ (type_of% @ty_z114)) ∧ ((type_of% @ty_c118) ∧ (type_of% @ty_i118))))) :=
  ⟨⟨⟨⟨@ty_c104, @ty_i104⟩, ⟨@ty_u104, @ty_a104⟩⟩, ⟨⟨@ty_w104, @ty_z104⟩, ⟨@ty_f104_0, @ty_f104_1⟩⟩⟩, ⟨⟨⟨@ty_c114, @ty_i114⟩, ⟨@ty_u114, @ty_a114⟩⟩, ⟨⟨@ty_w114, @ty_z114⟩, ⟨@ty_c118, @ty_i118⟩⟩⟩⟩
theorem tys15 :
    (((((type_of% @ty_u118) ∧ (type_of% @ty_a118)) ∧ ((type_of% @ty_w118) ∧ (type_of% @ty_z118))) ∧ (((type_of% @Try.underlying2) ∧ (type_of% @Try.underlying3)) ∧ ((type_of% @Try.underlying4) ∧ (type_of% @Try.underlying5)))) ∧ ((((type_of% @Try.underlying9) ∧ (type_of% @Try.underlying12)) ∧ ((type_of% @Try.underlying21) ∧ (type_of% @Try.underlying22))) ∧ (((type_of% @Try.underlying23) ∧ (type_of% @Try.underlying24)) ∧ ((type_of% @Try.underlying25) ∧ (type_of% @Try.underlying26))))) :=
  ⟨⟨⟨⟨@ty_u118, @ty_a118⟩, ⟨@ty_w118, @ty_z118⟩⟩, ⟨⟨@Try.underlying2, @Try.underlying3⟩, ⟨@Try.underlying4, @Try.underlying5⟩⟩⟩, ⟨⟨⟨@Try.underlying9, @Try.underlying12⟩, ⟨@Try.underlying21, @Try.underlying22⟩⟩, ⟨⟨@Try.underlying23, @Try.underlying24⟩, ⟨@Try.underlying25, @Try.underlying26⟩⟩⟩⟩
theorem tys16 :
    (((((type_of% @Try.underlying29) ∧ (type_of% @Try.underlying34)) ∧ ((type_of% @Try.underlying35) ∧ (type_of% @Try.underlying36))) ∧ (((type_of% @Try.underlying53) ∧ (type_of% @Try.underlying54)) ∧ ((type_of% @Try.underlying55) ∧ (type_of% @Try.underlying58)))) ∧ ((((type_of% @Try.underlying59) ∧ (type_of% @Try.underlying60)) ∧ ((type_of% @Try.underlying72) ∧ (type_of% @Try.underlying73))) ∧ (((type_of% @Try.underlying75) ∧ (type_of% @Try.underlying76)) ∧ ((type_of% @Try.underlying84) ∧ (type_of% @Try.underlying85))))) :=
  ⟨⟨⟨⟨@Try.underlying29, @Try.underlying34⟩, ⟨@Try.underlying35, @Try.underlying36⟩⟩, ⟨⟨@Try.underlying53, @Try.underlying54⟩, ⟨@Try.underlying55, @Try.underlying58⟩⟩⟩, ⟨⟨⟨@Try.underlying59, @Try.underlying60⟩, ⟨@Try.underlying72, @Try.underlying73⟩⟩, ⟨⟨@Try.underlying75, @Try.underlying76⟩, ⟨@Try.underlying84, @Try.underlying85⟩⟩⟩⟩
theorem tys17 :
    (((type_of% @Try.underlying92) ∧ ((type_of% @Try.underlying93) ∧ (type_of% @Try.underlying97))) ∧ (((type_of% @Try.underlying103) ∧ (type_of% @Try.underlying104)) ∧ ((type_of% @Try.underlying114) ∧ (type_of% @Try.underlying118)))) :=
  ⟨⟨@Try.underlying92, ⟨@Try.underlying93, @Try.underlying97⟩⟩, ⟨⟨@Try.underlying103, @Try.underlying104⟩, ⟨@Try.underlying114, @Try.underlying118⟩⟩⟩
end Go.Proofs.Ytfblibmibaiagaa
