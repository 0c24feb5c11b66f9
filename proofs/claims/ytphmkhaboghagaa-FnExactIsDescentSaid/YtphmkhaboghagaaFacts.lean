/-
  Facts on the types of this seat's program.
-/
import Derived.Test.YtphmkhaboghagaaProg
import Derived.Test.YtphmkhaboghagaaK16
namespace Go.Proofs.Ytphmkhaboghagaa
open Go K
theorem hmix : Try.prog.follows .mixedOrders = true := by kernel_rfl
theorem ty_c2 : Try.prog.cellsOf 2 = 1 := by kernel_rfl
theorem ty_i2 : (Try.prog.info? 2).isSome = true := by kernel_rfl
theorem ty_u2 : (Try.prog.underlying 2).isSome = true := by kernel_rfl
theorem ty_a2 : aggT Try.prog 2 = false := by kernel_rfl
theorem ty_w2 : (decide (Try.prog.bytesOf 2 ≤ 1024)) = true := by kernel_rfl
theorem ty_z2 : zeroOf Try.prog 2 = some (.int .i64 0) := by kernel_rfl
theorem ty_c3 : Try.prog.cellsOf 3 = 1 := by kernel_rfl
theorem ty_i3 : (Try.prog.info? 3).isSome = true := by kernel_rfl
theorem ty_u3 : (Try.prog.underlying 3).isSome = true := by kernel_rfl
theorem ty_a3 : aggT Try.prog 3 = false := by kernel_rfl
theorem ty_w3 : (decide (Try.prog.bytesOf 3 ≤ 1024)) = true := by kernel_rfl
theorem ty_z3 : zeroOf Try.prog 3 = some (.int .i64 0) := by kernel_rfl
theorem ty_c4 : Try.prog.cellsOf 4 = 1 := by kernel_rfl
theorem ty_i4 : (Try.prog.info? 4).isSome = true := by kernel_rfl
theorem ty_u4 : (Try.prog.underlying 4).isSome = true := by kernel_rfl
theorem ty_a4 : aggT Try.prog 4 = false := by kernel_rfl
theorem ty_w4 : (decide (Try.prog.bytesOf 4 ≤ 1024)) = true := by kernel_rfl
theorem ty_b4 : isBoolT Try.prog 4 = true := by kernel_rfl
theorem ty_z4 : zeroOf Try.prog 4 = some (.bool false) := by kernel_rfl
theorem ty_c5 : Try.prog.cellsOf 5 = 1 := by kernel_rfl
theorem ty_i5 : (Try.prog.info? 5).isSome = true := by kernel_rfl
theorem ty_u5 : (Try.prog.underlying 5).isSome = true := by kernel_rfl
theorem ty_a5 : aggT Try.prog 5 = false := by kernel_rfl
theorem ty_w5 : (decide (Try.prog.bytesOf 5 ≤ 1024)) = true := by kernel_rfl
theorem ty_z5 : zeroOf Try.prog 5 = some (.int .u8 0) := by kernel_rfl
theorem ty_c9 : Try.prog.cellsOf 9 = 1 := by kernel_rfl
theorem ty_i9 : (Try.prog.info? 9).isSome = true := by kernel_rfl
theorem ty_u9 : (Try.prog.underlying 9).isSome = true := by kernel_rfl
theorem ty_a9 : aggT Try.prog 9 = false := by kernel_rfl
theorem ty_w9 : (decide (Try.prog.bytesOf 9 ≤ 1024)) = true := by kernel_rfl
theorem ty_z9 : zeroOf Try.prog 9 = some (.string ⟨#[]⟩) := by kernel_rfl
theorem ty_c12 : Try.prog.cellsOf 12 = 1 := by kernel_rfl
theorem ty_i12 : (Try.prog.info? 12).isSome = true := by kernel_rfl
theorem ty_u12 : (Try.prog.underlying 12).isSome = true := by kernel_rfl
theorem ty_a12 : aggT Try.prog 12 = false := by kernel_rfl
theorem ty_w12 : (decide (Try.prog.bytesOf 12 ≤ 1024)) = true := by kernel_rfl
theorem ty_z12 : zeroOf Try.prog 12 = some (.int .u64 0) := by kernel_rfl
theorem ty_c21 : Try.prog.cellsOf 21 = 1 := by kernel_rfl
theorem ty_i21 : (Try.prog.info? 21).isSome = true := by kernel_rfl
theorem ty_u21 : (Try.prog.underlying 21).isSome = true := by kernel_rfl
theorem ty_a21 : aggT Try.prog 21 = false := by kernel_rfl
theorem ty_w21 : (decide (Try.prog.bytesOf 21 ≤ 1024)) = true := by kernel_rfl
theorem ty_z21 : zeroOf Try.prog 21 = some (.int .i32 0) := by kernel_rfl
theorem ty_c22 : Try.prog.cellsOf 22 = 1 := by kernel_rfl
theorem ty_i22 : (Try.prog.info? 22).isSome = true := by kernel_rfl
theorem ty_u22 : (Try.prog.underlying 22).isSome = true := by kernel_rfl
theorem ty_a22 : aggT Try.prog 22 = false := by kernel_rfl
theorem ty_w22 : (decide (Try.prog.bytesOf 22 ≤ 1024)) = true := by kernel_rfl
theorem ty_z22 : zeroOf Try.prog 22 = some (.slice none 0 0) := by kernel_rfl
theorem ty_c23 : Try.prog.cellsOf 23 = 1 := by kernel_rfl
theorem ty_i23 : (Try.prog.info? 23).isSome = true := by kernel_rfl
theorem ty_u23 : (Try.prog.underlying 23).isSome = true := by kernel_rfl
theorem ty_a23 : aggT Try.prog 23 = true := by kernel_rfl
theorem ty_w23 : (decide (Try.prog.bytesOf 23 ≤ 1024)) = true := by kernel_rfl
theorem ty_z23 : zeroOf Try.prog 23 = some (.agg #[.slice none 0 0]) := by kernel_rfl
theorem ty_f23_0 : fieldOf Try.prog 23 0 = some (0, 22) := by kernel_rfl
theorem ty_c24 : Try.prog.cellsOf 24 = 1 := by kernel_rfl
theorem ty_i24 : (Try.prog.info? 24).isSome = true := by kernel_rfl
theorem ty_u24 : (Try.prog.underlying 24).isSome = true := by kernel_rfl
theorem ty_a24 : aggT Try.prog 24 = true := by kernel_rfl
theorem ty_w24 : (decide (Try.prog.bytesOf 24 ≤ 1024)) = true := by kernel_rfl
theorem ty_z24 : zeroOf Try.prog 24 = some (.agg #[.slice none 0 0]) := by kernel_rfl
theorem ty_f24_0 : fieldOf Try.prog 24 0 = some (0, 22) := by kernel_rfl
theorem ty_c30 : Try.prog.cellsOf 30 = 1 := by kernel_rfl
theorem ty_i30 : (Try.prog.info? 30).isSome = true := by kernel_rfl
theorem ty_u30 : (Try.prog.underlying 30).isSome = true := by kernel_rfl
theorem ty_a30 : aggT Try.prog 30 = false := by kernel_rfl
theorem ty_w30 : (decide (Try.prog.bytesOf 30 ≤ 1024)) = true := by kernel_rfl
theorem ty_z30 : zeroOf Try.prog 30 = some (.slice none 0 0) := by kernel_rfl
theorem ty_c31 : Try.prog.cellsOf 31 = 1 := by kernel_rfl
theorem ty_i31 : (Try.prog.info? 31).isSome = true := by kernel_rfl
theorem ty_u31 : (Try.prog.underlying 31).isSome = true := by kernel_rfl
theorem ty_a31 : aggT Try.prog 31 = true := by kernel_rfl
theorem ty_w31 : (decide (Try.prog.bytesOf 31 ≤ 1024)) = true := by kernel_rfl
theorem ty_z31 : zeroOf Try.prog 31 = some (.agg #[.slice none 0 0]) := by kernel_rfl
theorem ty_f31_0 : fieldOf Try.prog 31 0 = some (0, 30) := by kernel_rfl
theorem ty_c32 : Try.prog.cellsOf 32 = 1 := by kernel_rfl
theorem ty_i32 : (Try.prog.info? 32).isSome = true := by kernel_rfl
theorem ty_u32 : (Try.prog.underlying 32).isSome = true := by kernel_rfl
theorem ty_a32 : aggT Try.prog 32 = true := by kernel_rfl
theorem ty_w32 : (decide (Try.prog.bytesOf 32 ≤ 1024)) = true := by kernel_rfl
theorem ty_z32 : zeroOf Try.prog 32 = some (.agg #[.slice none 0 0]) := by kernel_rfl
theorem ty_f32_0 : fieldOf Try.prog 32 0 = some (0, 30) := by kernel_rfl
theorem ty_c38 : Try.prog.cellsOf 38 = 1 := by kernel_rfl
theorem ty_i38 : (Try.prog.info? 38).isSome = true := by kernel_rfl
theorem ty_u38 : (Try.prog.underlying 38).isSome = true := by kernel_rfl
theorem ty_a38 : aggT Try.prog 38 = false := by kernel_rfl
theorem ty_w38 : (decide (Try.prog.bytesOf 38 ≤ 1024)) = true := by kernel_rfl
theorem ty_z38 : zeroOf Try.prog 38 = some (.slice none 0 0) := by kernel_rfl
theorem ty_c43 : Try.prog.cellsOf 43 = 1 := by kernel_rfl
theorem ty_i43 : (Try.prog.info? 43).isSome = true := by kernel_rfl
theorem ty_u43 : (Try.prog.underlying 43).isSome = true := by kernel_rfl
theorem ty_a43 : aggT Try.prog 43 = false := by kernel_rfl
theorem ty_w43 : (decide (Try.prog.bytesOf 43 ≤ 1024)) = true := by kernel_rfl
theorem ty_z43 : zeroOf Try.prog 43 = some (.slice none 0 0) := by kernel_rfl
theorem ty_c47 : Try.prog.cellsOf 47 = 1 := by kernel_rfl
theorem ty_i47 : (Try.prog.info? 47).isSome = true := by kernel_rfl
theorem ty_u47 : (Try.prog.underlying 47).isSome = true := by kernel_rfl
theorem ty_a47 : aggT Try.prog 47 = false := by kernel_rfl
theorem ty_w47 : (decide (Try.prog.bytesOf 47 ≤ 1024)) = true := by kernel_rfl
theorem ty_z47 : zeroOf Try.prog 47 = some (.slice none 0 0) := by kernel_rfl
theorem ty_c55 : Try.prog.cellsOf 55 = 1 := by kernel_rfl
theorem ty_i55 : (Try.prog.info? 55).isSome = true := by kernel_rfl
theorem ty_u55 : (Try.prog.underlying 55).isSome = true := by kernel_rfl
theorem ty_a55 : aggT Try.prog 55 = false := by kernel_rfl
theorem ty_w55 : (decide (Try.prog.bytesOf 55 ≤ 1024)) = true := by kernel_rfl
theorem ty_z55 : zeroOf Try.prog 55 = some (.slice none 0 0) := by kernel_rfl
theorem ty_c56 : Try.prog.cellsOf 56 = 1 := by kernel_rfl
theorem ty_i56 : (Try.prog.info? 56).isSome = true := by kernel_rfl
theorem ty_u56 : (Try.prog.underlying 56).isSome = true := by kernel_rfl
theorem ty_a56 : aggT Try.prog 56 = true := by kernel_rfl
theorem ty_w56 : (decide (Try.prog.bytesOf 56 ≤ 1024)) = true := by kernel_rfl
theorem ty_z56 : zeroOf Try.prog 56 = some (.agg #[.slice none 0 0]) := by kernel_rfl
theorem ty_f56_0 : fieldOf Try.prog 56 0 = some (0, 55) := by kernel_rfl
theorem ty_c57 : Try.prog.cellsOf 57 = 1 := by kernel_rfl
theorem ty_i57 : (Try.prog.info? 57).isSome = true := by kernel_rfl
theorem ty_u57 : (Try.prog.underlying 57).isSome = true := by kernel_rfl
theorem ty_a57 : aggT Try.prog 57 = true := by kernel_rfl
theorem ty_w57 : (decide (Try.prog.bytesOf 57 ≤ 1024)) = true := by kernel_rfl
theorem ty_z57 : zeroOf Try.prog 57 = some (.agg #[.slice none 0 0]) := by kernel_rfl
theorem ty_f57_0 : fieldOf Try.prog 57 0 = some (0, 55) := by kernel_rfl
theorem ty_c60 : Try.prog.cellsOf 60 = 1 := by kernel_rfl
theorem ty_i60 : (Try.prog.info? 60).isSome = true := by kernel_rfl
theorem ty_u60 : (Try.prog.underlying 60).isSome = true := by kernel_rfl
theorem ty_a60 : aggT Try.prog 60 = true := by kernel_rfl
theorem ty_w60 : (decide (Try.prog.bytesOf 60 ≤ 1024)) = true := by kernel_rfl
theorem ty_z60 : zeroOf Try.prog 60 = some (.agg #[.slice none 0 0]) := by kernel_rfl
theorem ty_f60_0 : fieldOf Try.prog 60 0 = some (0, 55) := by kernel_rfl
theorem ty_c82 : Try.prog.cellsOf 82 = 1 := by kernel_rfl
theorem ty_i82 : (Try.prog.info? 82).isSome = true := by kernel_rfl
theorem ty_u82 : (Try.prog.underlying 82).isSome = true := by kernel_rfl
theorem ty_a82 : aggT Try.prog 82 = false := by kernel_rfl
theorem ty_w82 : (decide (Try.prog.bytesOf 82 ≤ 1024)) = true := by kernel_rfl
theorem ty_z82 : zeroOf Try.prog 82 = some (.pointer none) := by kernel_rfl
theorem ty_c83 : Try.prog.cellsOf 83 = 1 := by kernel_rfl
theorem ty_i83 : (Try.prog.info? 83).isSome = true := by kernel_rfl
theorem ty_u83 : (Try.prog.underlying 83).isSome = true := by kernel_rfl
theorem ty_a83 : aggT Try.prog 83 = false := by kernel_rfl
theorem ty_w83 : (decide (Try.prog.bytesOf 83 ≤ 1024)) = true := by kernel_rfl
theorem ty_z83 : zeroOf Try.prog 83 = some (.int .u64 0) := by kernel_rfl
theorem ty_c84 : Try.prog.cellsOf 84 = 3 := by kernel_rfl
theorem ty_i84 : (Try.prog.info? 84).isSome = true := by kernel_rfl
theorem ty_u84 : (Try.prog.underlying 84).isSome = true := by kernel_rfl
theorem ty_a84 : aggT Try.prog 84 = true := by kernel_rfl
theorem ty_w84 : (decide (Try.prog.bytesOf 84 ≤ 1024)) = true := by kernel_rfl
theorem ty_z84 : zeroOf Try.prog 84 = some (.agg #[.slice none 0 0, .int .i64 0, .int .u64 0]) := by kernel_rfl
theorem ty_f84_0 : fieldOf Try.prog 84 0 = some (0, 38) := by kernel_rfl
theorem ty_f84_1 : fieldOf Try.prog 84 1 = some (1, 3) := by kernel_rfl
theorem ty_f84_2 : fieldOf Try.prog 84 2 = some (2, 83) := by kernel_rfl
theorem ty_c85 : Try.prog.cellsOf 85 = 3 := by kernel_rfl
theorem ty_i85 : (Try.prog.info? 85).isSome = true := by kernel_rfl
theorem ty_u85 : (Try.prog.underlying 85).isSome = true := by kernel_rfl
theorem ty_a85 : aggT Try.prog 85 = true := by kernel_rfl
theorem ty_w85 : (decide (Try.prog.bytesOf 85 ≤ 1024)) = true := by kernel_rfl
theorem ty_z85 : zeroOf Try.prog 85 = some (.agg #[.slice none 0 0, .int .i64 0, .int .u64 0]) := by kernel_rfl
theorem ty_f85_0 : fieldOf Try.prog 85 0 = some (0, 38) := by kernel_rfl
theorem ty_f85_1 : fieldOf Try.prog 85 1 = some (1, 3) := by kernel_rfl
theorem ty_f85_2 : fieldOf Try.prog 85 2 = some (2, 83) := by kernel_rfl
theorem ty_c87 : Try.prog.cellsOf 87 = 2 := by kernel_rfl
theorem ty_i87 : (Try.prog.info? 87).isSome = true := by kernel_rfl
theorem ty_u87 : (Try.prog.underlying 87).isSome = true := by kernel_rfl
theorem ty_a87 : aggT Try.prog 87 = true := by kernel_rfl
theorem ty_w87 : (decide (Try.prog.bytesOf 87 ≤ 1024)) = true := by kernel_rfl
theorem ty_z87 : zeroOf Try.prog 87 = some (.agg #[.slice none 0 0, .int .i64 0]) := by kernel_rfl
theorem ty_f87_0 : fieldOf Try.prog 87 0 = some (0, 24) := by kernel_rfl
theorem ty_f87_1 : fieldOf Try.prog 87 1 = some (1, 3) := by kernel_rfl
theorem ty_c88 : Try.prog.cellsOf 88 = 2 := by kernel_rfl
theorem ty_i88 : (Try.prog.info? 88).isSome = true := by kernel_rfl
theorem ty_u88 : (Try.prog.underlying 88).isSome = true := by kernel_rfl
theorem ty_a88 : aggT Try.prog 88 = true := by kernel_rfl
theorem ty_w88 : (decide (Try.prog.bytesOf 88 ≤ 1024)) = true := by kernel_rfl
theorem ty_z88 : zeroOf Try.prog 88 = some (.agg #[.slice none 0 0, .int .i64 0]) := by kernel_rfl
theorem ty_f88_0 : fieldOf Try.prog 88 0 = some (0, 24) := by kernel_rfl
theorem ty_f88_1 : fieldOf Try.prog 88 1 = some (1, 3) := by kernel_rfl
theorem ty_c97 : Try.prog.cellsOf 97 = 1 := by kernel_rfl
theorem ty_i97 : (Try.prog.info? 97).isSome = true := by kernel_rfl
theorem ty_u97 : (Try.prog.underlying 97).isSome = true := by kernel_rfl
theorem ty_a97 : aggT Try.prog 97 = false := by kernel_rfl
theorem ty_w97 : (decide (Try.prog.bytesOf 97 ≤ 1024)) = true := by kernel_rfl
theorem ty_z97 : zeroOf Try.prog 97 = some (.pointer none) := by kernel_rfl
theorem ty_c98 : Try.prog.cellsOf 98 = 1 := by kernel_rfl
theorem ty_i98 : (Try.prog.info? 98).isSome = true := by kernel_rfl
theorem ty_u98 : (Try.prog.underlying 98).isSome = true := by kernel_rfl
theorem ty_a98 : aggT Try.prog 98 = false := by kernel_rfl
theorem ty_w98 : (decide (Try.prog.bytesOf 98 ≤ 1024)) = true := by kernel_rfl
theorem ty_z98 : zeroOf Try.prog 98 = some (.slice none 0 0) := by kernel_rfl
theorem ty_c104 : Try.prog.cellsOf 104 = 1 := by kernel_rfl
theorem ty_i104 : (Try.prog.info? 104).isSome = true := by kernel_rfl
theorem ty_u104 : (Try.prog.underlying 104).isSome = true := by kernel_rfl
theorem ty_a104 : aggT Try.prog 104 = false := by kernel_rfl
theorem ty_w104 : (decide (Try.prog.bytesOf 104 ≤ 1024)) = true := by kernel_rfl
theorem ty_z104 : zeroOf Try.prog 104 = some (.pointer none) := by kernel_rfl
theorem ty_c114 : Try.prog.cellsOf 114 = 2 := by kernel_rfl
theorem ty_i114 : (Try.prog.info? 114).isSome = true := by kernel_rfl
theorem ty_u114 : (Try.prog.underlying 114).isSome = true := by kernel_rfl
theorem ty_a114 : aggT Try.prog 114 = true := by kernel_rfl
theorem ty_w114 : (decide (Try.prog.bytesOf 114 ≤ 1024)) = true := by kernel_rfl
theorem ty_z114 : zeroOf Try.prog 114 = some (.agg #[.slice none 0 0, .int .i64 0]) := by kernel_rfl
theorem ty_f114_0 : fieldOf Try.prog 114 0 = some (0, 32) := by kernel_rfl
theorem ty_f114_1 : fieldOf Try.prog 114 1 = some (1, 3) := by kernel_rfl
theorem ty_c115 : Try.prog.cellsOf 115 = 2 := by kernel_rfl
theorem ty_i115 : (Try.prog.info? 115).isSome = true := by kernel_rfl
theorem ty_u115 : (Try.prog.underlying 115).isSome = true := by kernel_rfl
theorem ty_a115 : aggT Try.prog 115 = true := by kernel_rfl
theorem ty_w115 : (decide (Try.prog.bytesOf 115 ≤ 1024)) = true := by kernel_rfl
theorem ty_z115 : zeroOf Try.prog 115 = some (.agg #[.slice none 0 0, .int .i64 0]) := by kernel_rfl
theorem ty_f115_0 : fieldOf Try.prog 115 0 = some (0, 32) := by kernel_rfl
theorem ty_f115_1 : fieldOf Try.prog 115 1 = some (1, 3) := by kernel_rfl
theorem ty_c120 : Try.prog.cellsOf 120 = 1 := by kernel_rfl
theorem ty_i120 : (Try.prog.info? 120).isSome = true := by kernel_rfl
theorem ty_u120 : (Try.prog.underlying 120).isSome = true := by kernel_rfl
theorem ty_a120 : aggT Try.prog 120 = false := by kernel_rfl
theorem ty_w120 : (decide (Try.prog.bytesOf 120 ≤ 1024)) = true := by kernel_rfl
theorem ty_z120 : zeroOf Try.prog 120 = some (.pointer none) := by kernel_rfl
theorem ty_c130 : Try.prog.cellsOf 130 = 2 := by kernel_rfl
theorem ty_i130 : (Try.prog.info? 130).isSome = true := by kernel_rfl
theorem ty_u130 : (Try.prog.underlying 130).isSome = true := by kernel_rfl
theorem ty_a130 : aggT Try.prog 130 = true := by kernel_rfl
theorem ty_w130 : (decide (Try.prog.bytesOf 130 ≤ 1024)) = true := by kernel_rfl
theorem ty_z130 : zeroOf Try.prog 130 = some (.agg #[.int .i64 0, .slice none 0 0]) := by kernel_rfl
theorem ty_f130_0 : fieldOf Try.prog 130 0 = some (0, 3) := by kernel_rfl
theorem ty_f130_1 : fieldOf Try.prog 130 1 = some (1, 98) := by kernel_rfl
theorem ty_c131 : Try.prog.cellsOf 131 = 2 := by kernel_rfl
theorem ty_i131 : (Try.prog.info? 131).isSome = true := by kernel_rfl
theorem ty_u131 : (Try.prog.underlying 131).isSome = true := by kernel_rfl
theorem ty_a131 : aggT Try.prog 131 = true := by kernel_rfl
theorem ty_w131 : (decide (Try.prog.bytesOf 131 ≤ 1024)) = true := by kernel_rfl
theorem ty_z131 : zeroOf Try.prog 131 = some (.agg #[.int .i64 0, .slice none 0 0]) := by kernel_rfl
theorem ty_f131_0 : fieldOf Try.prog 131 0 = some (0, 3) := by kernel_rfl
theorem ty_f131_1 : fieldOf Try.prog 131 1 = some (1, 98) := by kernel_rfl
theorem ty_c142 : Try.prog.cellsOf 142 = 1 := by kernel_rfl
theorem ty_i142 : (Try.prog.info? 142).isSome = true := by kernel_rfl
theorem ty_u142 : (Try.prog.underlying 142).isSome = true := by kernel_rfl
theorem ty_a142 : aggT Try.prog 142 = false := by kernel_rfl
theorem ty_w142 : (decide (Try.prog.bytesOf 142 ≤ 1024)) = true := by kernel_rfl
theorem ty_z142 : zeroOf Try.prog 142 = some (.pointer none) := by kernel_rfl
theorem ty_c144 : Try.prog.cellsOf 144 = 1 := by kernel_rfl
theorem ty_i144 : (Try.prog.info? 144).isSome = true := by kernel_rfl
theorem ty_u144 : (Try.prog.underlying 144).isSome = true := by kernel_rfl
theorem ty_a144 : aggT Try.prog 144 = false := by kernel_rfl
theorem ty_w144 : (decide (Try.prog.bytesOf 144 ≤ 1024)) = true := by kernel_rfl
theorem ty_z144 : zeroOf Try.prog 144 = some (.pointer none) := by kernel_rfl
theorem ty_c145 : Try.prog.cellsOf 145 = 1 := by kernel_rfl
theorem ty_i145 : (Try.prog.info? 145).isSome = true := by kernel_rfl
theorem ty_u145 : (Try.prog.underlying 145).isSome = true := by kernel_rfl
theorem ty_a145 : aggT Try.prog 145 = false := by kernel_rfl
theorem ty_w145 : (decide (Try.prog.bytesOf 145 ≤ 1024)) = true := by kernel_rfl
theorem ty_z145 : zeroOf Try.prog 145 = some (.int .u64 0) := by kernel_rfl
theorem ty_c153 : Try.prog.cellsOf 153 = 1 := by kernel_rfl
theorem ty_i153 : (Try.prog.info? 153).isSome = true := by kernel_rfl
theorem ty_u153 : (Try.prog.underlying 153).isSome = true := by kernel_rfl
theorem ty_a153 : aggT Try.prog 153 = false := by kernel_rfl
theorem ty_w153 : (decide (Try.prog.bytesOf 153 ≤ 1024)) = true := by kernel_rfl
theorem ty_z153 : zeroOf Try.prog 153 = some (.int .u32 0) := by kernel_rfl
theorem ok_f3 : okFn Try.prog 3 = true := by kernel_rfl
theorem ok_f4 : okFn Try.prog 4 = true := by kernel_rfl
theorem ok_f5 : okFn Try.prog 5 = true := by kernel_rfl
theorem ok_f6 : okFn Try.prog 6 = true := by kernel_rfl
theorem ok_f7 : okFn Try.prog 7 = true := by kernel_rfl
theorem ok_f8 : okFn Try.prog 8 = true := by kernel_rfl
theorem ok_f9 : okFn Try.prog 9 = true := by kernel_rfl
theorem ok_f10 : okFn Try.prog 10 = true := by kernel_rfl
theorem ok_f11 : okFn Try.prog 11 = true := by kernel_rfl
theorem ok_f12 : okFn Try.prog 12 = true := by kernel_rfl
theorem ok_f13 : okFn Try.prog 13 = true := by kernel_rfl
theorem ok_f14 : okFn Try.prog 14 = true := by kernel_rfl
theorem ok_f15 : okFn Try.prog 15 = true := by kernel_rfl
theorem ok_f16 : okFn Try.prog 16 = true := by kernel_rfl
theorem ok_f17 : okFn Try.prog 17 = true := by kernel_rfl
theorem ok_f18 : okFn Try.prog 18 = true := by kernel_rfl
theorem ok_f19 : okFn Try.prog 19 = true := by kernel_rfl
theorem ok_f20 : okFn Try.prog 20 = true := by kernel_rfl
theorem ok_f21 : okFn Try.prog 21 = true := by kernel_rfl
theorem ok_f22 : okFn Try.prog 22 = true := by kernel_rfl
theorem ok_f23 : okFn Try.prog 23 = true := by kernel_rfl
theorem ok_f24 : okFn Try.prog 24 = true := by kernel_rfl
theorem ok_f25 : okFn Try.prog 25 = true := by kernel_rfl
theorem ok_f26 : okFn Try.prog 26 = true := by kernel_rfl
theorem ok_f27 : okFn Try.prog 27 = true := by kernel_rfl
theorem ok_f28 : okFn Try.prog 28 = true := by kernel_rfl
theorem ok_f29 : okFn Try.prog 29 = true := by kernel_rfl
theorem ok_f30 : okFn Try.prog 30 = true := by kernel_rfl
theorem ok_f31 : okFn Try.prog 31 = true := by kernel_rfl
theorem ok_f32 : okFn Try.prog 32 = true := by kernel_rfl
theorem ok_f33 : okFn Try.prog 33 = true := by kernel_rfl
theorem ok_f34 : okFn Try.prog 34 = true := by kernel_rfl
theorem ok_f35 : okFn Try.prog 35 = true := by kernel_rfl
theorem ok_f36 : okFn Try.prog 36 = true := by kernel_rfl
theorem ok_f37 : okFn Try.prog 37 = true := by kernel_rfl
theorem ok_f38 : okFn Try.prog 38 = true := by kernel_rfl
theorem ok_f39 : okFn Try.prog 39 = true := by kernel_rfl
theorem ok_f40 : okFn Try.prog 40 = true := by kernel_rfl
theorem ok_f41 : okFn Try.prog 41 = true := by kernel_rfl
theorem ok_f42 : okFn Try.prog 42 = true := by kernel_rfl
theorem ok_f43 : okFn Try.prog 43 = true := by kernel_rfl
theorem ok_f44 : okFn Try.prog 44 = true := by kernel_rfl
theorem ok_f45 : okFn Try.prog 45 = true := by kernel_rfl
theorem ok_f46 : okFn Try.prog 46 = true := by kernel_rfl
theorem ok_f47 : okFn Try.prog 47 = true := by kernel_rfl
theorem ok_f48 : okFn Try.prog 48 = true := by kernel_rfl
theorem ok_f49 : okFn Try.prog 49 = true := by kernel_rfl
theorem ok_f50 : okFn Try.prog 50 = true := by kernel_rfl
theorem ok_f51 : okFn Try.prog 51 = true := by kernel_rfl
theorem ok_f52 : okFn Try.prog 52 = true := by kernel_rfl
theorem ok_f53 : okFn Try.prog 53 = true := by kernel_rfl
theorem ok_f54 : okFn Try.prog 54 = true := by kernel_rfl
theorem ok_f55 : okFn Try.prog 55 = true := by kernel_rfl
theorem ok_f56 : okFn Try.prog 56 = true := by kernel_rfl
theorem ok_f57 : okFn Try.prog 57 = true := by kernel_rfl
theorem ok_f58 : okFn Try.prog 58 = true := by kernel_rfl
theorem ok_f59 : okFn Try.prog 59 = true := by kernel_rfl
theorem ok_f60 : okFn Try.prog 60 = true := by kernel_rfl
theorem ok_f61 : okFn Try.prog 61 = true := by kernel_rfl
theorem ok_f62 : okFn Try.prog 62 = true := by kernel_rfl
theorem ok_f63 : okFn Try.prog 63 = true := by kernel_rfl
theorem ok_f64 : okFn Try.prog 64 = true := by kernel_rfl
theorem ok_f65 : okFn Try.prog 65 = true := by kernel_rfl
theorem ok_f66 : okFn Try.prog 66 = true := by kernel_rfl
theorem ok_f67 : okFn Try.prog 67 = true := by kernel_rfl
theorem ok_f68 : okFn Try.prog 68 = true := by kernel_rfl
theorem ok_f69 : okFn Try.prog 69 = true := by kernel_rfl
theorem ok_f70 : okFn Try.prog 70 = true := by kernel_rfl
theorem ok_f71 : okFn Try.prog 71 = true := by kernel_rfl
theorem ok_f72 : okFn Try.prog 72 = true := by kernel_rfl
theorem ok_f73 : okFn Try.prog 73 = true := by kernel_rfl
theorem ok_f74 : okFn Try.prog 74 = true := by kernel_rfl
theorem ok_f75 : okFn Try.prog 75 = true := by kernel_rfl
theorem ok_f76 : okFn Try.prog 76 = true := by kernel_rfl
theorem ok_f77 : okFn Try.prog 77 = true := by kernel_rfl
theorem ok_f78 : okFn Try.prog 78 = true := by kernel_rfl
theorem ok_f79 : okFn Try.prog 79 = true := by kernel_rfl
theorem ok_f80 : okFn Try.prog 80 = true := by kernel_rfl
theorem ok_f81 : okFn Try.prog 81 = true := by kernel_rfl
theorem ok_f82 : okFn Try.prog 82 = true := by kernel_rfl
theorem ok_f83 : okFn Try.prog 83 = true := by kernel_rfl
theorem ok_f84 : okFn Try.prog 84 = true := by kernel_rfl
theorem ok_f85 : okFn Try.prog 85 = true := by kernel_rfl
theorem ok_f86 : okFn Try.prog 86 = true := by kernel_rfl
theorem ok_f87 : okFn Try.prog 87 = true := by kernel_rfl
theorem ok_f88 : okFn Try.prog 88 = true := by kernel_rfl
theorem ok_f89 : okFn Try.prog 89 = true := by kernel_rfl
theorem ok_f90 : okFn Try.prog 90 = true := by kernel_rfl
theorem ok_f91 : okFn Try.prog 91 = true := by kernel_rfl
theorem ok_f92 : okFn Try.prog 92 = true := by kernel_rfl
theorem ok_f93 : okFn Try.prog 93 = true := by kernel_rfl
theorem ok_f94 : okFn Try.prog 94 = true := by kernel_rfl
theorem ok_f95 : okFn Try.prog 95 = true := by kernel_rfl
theorem ok_f96 : okFn Try.prog 96 = true := by kernel_rfl
theorem ok_f97 : okFn Try.prog 97 = true := by kernel_rfl
theorem ok_f98 : okFn Try.prog 98 = true := by kernel_rfl
theorem ok_f99 : okFn Try.prog 99 = true := by kernel_rfl
theorem ok_f100 : okFn Try.prog 100 = true := by kernel_rfl
theorem ok_f101 : okFn Try.prog 101 = true := by kernel_rfl
theorem ok_f102 : okFn Try.prog 102 = true := by kernel_rfl
theorem ok_f103 : okFn Try.prog 103 = true := by kernel_rfl
theorem ok_f104 : okFn Try.prog 104 = true := by kernel_rfl
theorem ok_f105 : okFn Try.prog 105 = true := by kernel_rfl
theorem ok_f106 : okFn Try.prog 106 = true := by kernel_rfl
theorem ok_f107 : okFn Try.prog 107 = true := by kernel_rfl
theorem ok_f108 : okFn Try.prog 108 = true := by kernel_rfl
theorem ok_f109 : okFn Try.prog 109 = true := by kernel_rfl
theorem ok_f110 : okFn Try.prog 110 = true := by kernel_rfl
theorem ok_f111 : okFn Try.prog 111 = true := by kernel_rfl
theorem ok_f112 : okFn Try.prog 112 = true := by kernel_rfl
theorem ok_f113 : okFn Try.prog 113 = true := by kernel_rfl
theorem ok_f114 : okFn Try.prog 114 = true := by kernel_rfl
theorem ok_f115 : okFn Try.prog 115 = true := by kernel_rfl
theorem ok_f116 : okFn Try.prog 116 = true := by kernel_rfl
theorem ok_f117 : okFn Try.prog 117 = true := by kernel_rfl
theorem ok_f118 : okFn Try.prog 118 = true := by kernel_rfl
theorem ok_f119 : okFn Try.prog 119 = true := by kernel_rfl
theorem ok_f120 : okFn Try.prog 120 = true := by kernel_rfl
theorem ok_f121 : okFn Try.prog 121 = true := by kernel_rfl
theorem ok_f122 : okFn Try.prog 122 = true := by kernel_rfl
theorem ok_f123 : okFn Try.prog 123 = true := by kernel_rfl
theorem tys0 :
    (((((type_of% @ty_c2) ∧ (type_of% @ty_i2)) ∧ ((type_of% @ty_u2) ∧ (type_of% @ty_a2))) ∧ (((type_of% @ty_w2) ∧ (type_of% @ty_z2)) ∧ ((type_of% @ty_c3) ∧ (type_of% @ty_i3)))) ∧ ((((type_of% @ty_u3) ∧ (type_of% @ty_a3)) ∧ ((type_of% @ty_w3) ∧ (type_of% @ty_z3))) ∧ (((type_of% @ty_c4) ∧ (type_of% @ty_i4)) ∧ ((type_of% @ty_u4) ∧ (type_of% @ty_a4))))) :=
  ⟨⟨⟨⟨@ty_c2, @ty_i2⟩, ⟨@ty_u2, @ty_a2⟩⟩, ⟨⟨@ty_w2, @ty_z2⟩, ⟨@ty_c3, @ty_i3⟩⟩⟩, ⟨⟨⟨@ty_u3, @ty_a3⟩, ⟨@ty_w3, @ty_z3⟩⟩, ⟨⟨@ty_c4, @ty_i4⟩, ⟨@ty_u4, @ty_a4⟩⟩⟩⟩
theorem tys1 :
    (((((type_of% @ty_w4) ∧ (type_of% @ty_b4)) ∧ ((type_of% @ty_z4) ∧ (type_of% @ty_c5))) ∧ (((type_of% @ty_i5) ∧ (type_of% @ty_u5)) ∧ ((type_of% @ty_a5) ∧ (type_of% @ty_w5)))) ∧ ((((type_of% @ty_z5) ∧ (type_of% @ty_c9)) ∧ ((type_of% @ty_i9) ∧ (type_of% @ty_u9))) ∧ (((type_of% @ty_a9) ∧ (type_of% @ty_w9)) ∧ ((type_of% @ty_z9) ∧ (type_of% @ty_c12))))) :=
  ⟨⟨⟨⟨@ty_w4, @ty_b4⟩, ⟨@ty_z4, @ty_c5⟩⟩, ⟨⟨@ty_i5, @ty_u5⟩, ⟨@ty_a5, @ty_w5⟩⟩⟩, ⟨⟨⟨@ty_z5, @ty_c9⟩, ⟨@ty_i9, @ty_u9⟩⟩, ⟨⟨@ty_a9, @ty_w9⟩, ⟨@ty_z9, @ty_c12⟩⟩⟩⟩
theorem tys2 :
    (((((type_of% @ty_i12) ∧ (type_of% @ty_u12)) ∧ ((type_of% @ty_a12) ∧ (type_of% @ty_w12))) ∧ (((type_of% @ty_z12) ∧ (type_of% @ty_c21)) ∧ ((type_of% @ty_i21) ∧ (type_of% @ty_u21)))) ∧ ((((type_of% @ty_a21) ∧ (type_of% @ty_w21)) ∧ ((type_of% @ty_z21) ∧ (type_of% @ty_c22))) ∧ (((type_of% @ty_i22) ∧ (type_of% @ty_u22)) ∧ ((type_of% @ty_a22) ∧ (type_of% @ty_w22))))) :=
  ⟨⟨⟨⟨@ty_i12, @ty_u12⟩, ⟨@ty_a12, @ty_w12⟩⟩, ⟨⟨@ty_z12, @ty_c21⟩, ⟨@ty_i21, @ty_u21⟩⟩⟩, ⟨⟨⟨@ty_a21, @ty_w21⟩, ⟨@ty_z21, @ty_c22⟩⟩, ⟨⟨@ty_i22, @ty_u22⟩, ⟨@ty_a22, @ty_w22⟩⟩⟩⟩
theorem tys3 :
    (((((type_of% @ty_z22) ∧ (type_of% @ty_c23)) ∧ ((type_of% @ty_i23) ∧ (type_of% @ty_u23))) ∧ (((type_of% @ty_a23) ∧ (type_of% @ty_w23)) ∧ ((type_of% @ty_z23) ∧ (type_of% @ty_f23_0)))) ∧ ((((type_of% @ty_c24) ∧ (type_of% @ty_i24)) ∧ ((type_of% @ty_u24) ∧ (type_of% @ty_a24))) ∧ (((type_of% @ty_w24) ∧ (type_of% @ty_z24)) ∧ ((type_of% @ty_f24_0) ∧ (type_of% @ty_c30))))) :=
  ⟨⟨⟨⟨@ty_z22, @ty_c23⟩, ⟨@ty_i23, @ty_u23⟩⟩, ⟨⟨@ty_a23, @ty_w23⟩, ⟨@ty_z23, @ty_f23_0⟩⟩⟩, ⟨⟨⟨@ty_c24, @ty_i24⟩, ⟨@ty_u24, @ty_a24⟩⟩, ⟨⟨@ty_w24, @ty_z24⟩, ⟨@ty_f24_0, @ty_c30⟩⟩⟩⟩
theorem tys4 :
    (((((type_of% @ty_i30) ∧ (type_of% @ty_u30)) ∧ ((type_of% @ty_a30) ∧ (type_of% @ty_w30))) ∧ (((type_of% @ty_z30) ∧ (type_of% @ty_c31)) ∧ ((type_of% @ty_i31) ∧ (type_of% @ty_u31)))) ∧ ((((type_of% @ty_a31) ∧ (type_of% @ty_w31)) ∧ ((type_of% @ty_z31) ∧ (type_of% @ty_f31_0))) ∧ (((type_of% @ty_c32) ∧ (type_of% @ty_i32)) ∧ ((type_of% @ty_u32) ∧ (type_of% @ty_a32))))) :=
  ⟨⟨⟨⟨@ty_i30, @ty_u30⟩, ⟨@ty_a30, @ty_w30⟩⟩, ⟨⟨@ty_z30, @ty_c31⟩, ⟨@ty_i31, @ty_u31⟩⟩⟩, ⟨⟨⟨@ty_a31, @ty_w31⟩, ⟨@ty_z31, @ty_f31_0⟩⟩, ⟨⟨@ty_c32, @ty_i32⟩, ⟨@ty_u32, @ty_a32⟩⟩⟩⟩
theorem tys5 :
    (((((type_of% @ty_w32) ∧ (type_of% @ty_z32)) ∧ ((type_of% @ty_f32_0) ∧ (type_of% @ty_c38))) ∧ (((type_of% @ty_i38) ∧ (type_of% @ty_u38)) ∧ ((type_of% @ty_a38) ∧ (type_of% @ty_w38)))) ∧ ((((type_of% @ty_z38) ∧ (type_of% @ty_c43)) ∧ ((type_of% @ty_i43) ∧ (type_of% @ty_u43))) ∧ (((type_of% @ty_a43) ∧ (type_of% @ty_w43)) ∧ ((type_of% @ty_z43) ∧ (type_of% @ty_c47))))) :=
  ⟨⟨⟨⟨@ty_w32, @ty_z32⟩, ⟨@ty_f32_0, @ty_c38⟩⟩, ⟨⟨@ty_i38, @ty_u38⟩, ⟨@ty_a38, @ty_w38⟩⟩⟩, ⟨⟨⟨@ty_z38, @ty_c43⟩, ⟨@ty_i43, @ty_u43⟩⟩, ⟨⟨@ty_a43, @ty_w43⟩, ⟨@ty_z43, @ty_c47⟩⟩⟩⟩
theorem tys6 :
    (((((type_of% @ty_i47) ∧ (type_of% @ty_u47)) ∧ ((type_of% @ty_a47) ∧ (type_of% @ty_w47))) ∧ (((type_of% @ty_z47) ∧ (type_of% @ty_c55)) ∧ ((type_of% @ty_i55) ∧ (type_of% @ty_u55)))) ∧ ((((type_of% @ty_a55) ∧ (type_of% @ty_w55)) ∧ ((type_of% @ty_z55) ∧ (type_of% @ty_c56))) ∧ (((type_of% @ty_i56) ∧ (type_of% @ty_u56)) ∧ ((type_of% @ty_a56) ∧ (type_of% @ty_w56))))) :=
  ⟨⟨⟨⟨@ty_i47, @ty_u47⟩, ⟨@ty_a47, @ty_w47⟩⟩, ⟨⟨@ty_z47, @ty_c55⟩, ⟨@ty_i55, @ty_u55⟩⟩⟩, ⟨⟨⟨@ty_a55, @ty_w55⟩, ⟨@ty_z55, @ty_c56⟩⟩, ⟨⟨@ty_i56, @ty_u56⟩, ⟨@ty_a56, @ty_w56⟩⟩⟩⟩
theorem tys7 :
    (((((type_of% @ty_z56) ∧ (type_of% @ty_f56_0)) ∧ ((type_of% @ty_c57) ∧ (type_of% @ty_i57))) ∧ (((type_of% @ty_u57) ∧ (type_of% @ty_a57)) ∧ ((type_of% @ty_w57) ∧ (type_of% @ty_z57)))) ∧ ((((type_of% @ty_f57_0) ∧ (type_of% @ty_c60)) ∧ ((type_of% @ty_i60) ∧ (type_of% @ty_u60))) ∧ (((type_of% @ty_a60) ∧ (type_of% @ty_w60)) ∧ ((type_of% @ty_z60) ∧ (type_of% @ty_f60_0))))) :=
  ⟨⟨⟨⟨@ty_z56, @ty_f56_0⟩, ⟨@ty_c57, @ty_i57⟩⟩, ⟨⟨@ty_u57, @ty_a57⟩, ⟨@ty_w57, @ty_z57⟩⟩⟩, ⟨⟨⟨@ty_f57_0, @ty_c60⟩, ⟨@ty_i60, @ty_u60⟩⟩, ⟨⟨@ty_a60, @ty_w60⟩, ⟨@ty_z60, @ty_f60_0⟩⟩⟩⟩
theorem tys8 :
    (((((type_of% @ty_c82) ∧ (type_of% @ty_i82)) ∧ ((type_of% @ty_u82) ∧ (type_of% @ty_a82))) ∧ (((type_of% @ty_w82) ∧ (type_of% @ty_z82)) ∧ ((type_of% @ty_c83) ∧ (type_of% @ty_i83)))) ∧ ((((type_of% @ty_u83) ∧ (type_of% @ty_a83)) ∧ ((type_of% @ty_w83) ∧ (type_of% @ty_z83))) ∧ (((type_of% @ty_c84) ∧ (type_of% @ty_i84)) ∧ ((type_of% @ty_u84) ∧ (type_of% @ty_a84))))) :=
  ⟨⟨⟨⟨@ty_c82, @ty_i82⟩, ⟨@ty_u82, @ty_a82⟩⟩, ⟨⟨@ty_w82, @ty_z82⟩, ⟨@ty_c83, @ty_i83⟩⟩⟩, ⟨⟨⟨@ty_u83, @ty_a83⟩, ⟨@ty_w83, @ty_z83⟩⟩, ⟨⟨@ty_c84, @ty_i84⟩, ⟨@ty_u84, @ty_a84⟩⟩⟩⟩
theorem tys9 :
    (((((type_of% @ty_w84) ∧ (type_of% @ty_z84)) ∧ ((type_of% @ty_f84_0) ∧ (type_of% @ty_f84_1))) ∧ (((type_of% @ty_f84_2) ∧ (type_of% @ty_c85)) ∧ ((type_of% @ty_i85) ∧ (type_of% @ty_u85)))) ∧ ((((type_of% @ty_a85) ∧ (type_of% @ty_w85)) ∧ ((type_of% @ty_z85) ∧ (type_of% @ty_f85_0))) ∧ (((type_of% @ty_f85_1) ∧ (type_of% @ty_f85_2)) ∧ ((type_of% @ty_c87) ∧ (type_of% @ty_i87))))) :=
  ⟨⟨⟨⟨@ty_w84, @ty_z84⟩, ⟨@ty_f84_0, @ty_f84_1⟩⟩, ⟨⟨@ty_f84_2, @ty_c85⟩, ⟨@ty_i85, @ty_u85⟩⟩⟩, ⟨⟨⟨@ty_a85, @ty_w85⟩, ⟨@ty_z85, @ty_f85_0⟩⟩, ⟨⟨@ty_f85_1, @ty_f85_2⟩, ⟨@ty_c87, @ty_i87⟩⟩⟩⟩
theorem tys10 :
    (((((type_of% @ty_u87) ∧ (type_of% @ty_a87)) ∧ ((type_of% @ty_w87) ∧ (type_of% @ty_z87))) ∧ (((type_of% @ty_f87_0) ∧ (type_of% @ty_f87_1)) ∧ ((type_of% @ty_c88) ∧ (type_of% @ty_i88)))) ∧ ((((type_of% @ty_u88) ∧ (type_of% @ty_a88)) ∧ ((type_of% @ty_w88) ∧ (type_of% @ty_z88))) ∧ (((type_of% @ty_f88_0) ∧ (type_of% @ty_f88_1)) ∧ ((type_of% @ty_c97) ∧ (type_of% @ty_i97))))) :=
  ⟨⟨⟨⟨@ty_u87, @ty_a87⟩, ⟨@ty_w87, @ty_z87⟩⟩, ⟨⟨@ty_f87_0, @ty_f87_1⟩, ⟨@ty_c88, @ty_i88⟩⟩⟩, ⟨⟨⟨@ty_u88, @ty_a88⟩, ⟨@ty_w88, @ty_z88⟩⟩, ⟨⟨@ty_f88_0, @ty_f88_1⟩, ⟨@ty_c97, @ty_i97⟩⟩⟩⟩
theorem tys11 :
    (((((type_of% @ty_u97) ∧ (type_of% @ty_a97)) ∧ ((type_of% @ty_w97) ∧ (type_of% @ty_z97))) ∧ (((type_of% @ty_c98) ∧ (type_of% @ty_i98)) ∧ ((type_of% @ty_u98) ∧ (type_of% @ty_a98)))) ∧ ((((type_of% @ty_w98) ∧ (type_of% @ty_z98)) ∧ ((type_of% @ty_c104) ∧ (type_of% @ty_i104))) ∧ (((type_of% @ty_u104) ∧ (type_of% @ty_a104)) ∧ ((type_of% @ty_w104) ∧ (type_of% @ty_z104))))) :=
  ⟨⟨⟨⟨@ty_u97, @ty_a97⟩, ⟨@ty_w97, @ty_z97⟩⟩, ⟨⟨@ty_c98, @ty_i98⟩, ⟨@ty_u98, @ty_a98⟩⟩⟩, ⟨⟨⟨@ty_w98, @ty_z98⟩, ⟨@ty_c104, @ty_i104⟩⟩, ⟨⟨@ty_u104, @ty_a104⟩, ⟨@ty_w104, @ty_z104⟩⟩⟩⟩
theorem tys12 :
    (((((type_of% @ty_c114) ∧ (type_of% @ty_i114)) ∧ ((type_of% @ty_u114) ∧ (type_of% @ty_a114))) ∧ (((type_of% @ty_w114) ∧ (type_of% @ty_z114)) ∧ ((type_of% @ty_f114_0) ∧ (type_of% @ty_f114_1)))) ∧ ((((type_of% @ty_c115) ∧ (type_of% @ty_i115)) ∧ ((type_of% @ty_u115) ∧ (type_of% @ty_a115))) ∧ (((type_of% @ty_w115) ∧ (type_of% @ty_z115)) ∧ ((type_of% @ty_f115_0) ∧ (type_of% @ty_f115_1))))) :=
  ⟨⟨⟨⟨@ty_c114, @ty_i114⟩, ⟨@ty_u114, @ty_a114⟩⟩, ⟨⟨@ty_w114, @ty_z114⟩, ⟨@ty_f114_0, @ty_f114_1⟩⟩⟩, ⟨⟨⟨@ty_c115, @ty_i115⟩, ⟨@ty_u115, @ty_a115⟩⟩, ⟨⟨@ty_w115, @ty_z115⟩, ⟨@ty_f115_0, @ty_f115_1⟩⟩⟩⟩
theorem tys13 :
    (((((type_of% @ty_c120) ∧ (type_of% @ty_i120)) ∧ ((type_of% @ty_u120) ∧ (type_of% @ty_a120))) ∧ (((type_of% @ty_w120) ∧ (type_of% @ty_z120)) ∧ ((type_of% @ty_c130) ∧ (type_of% @ty_i130)))) ∧ ((((type_of% @ty_u130) ∧ (type_of% @ty_a130)) ∧ ((type_of% @ty_w130) ∧ (type_of% @ty_z130))) ∧ (((type_of% @ty_f130_0) ∧ (type_of% @ty_f130_1)) ∧ ((type_of% @ty_c131) ∧ (type_of% @ty_i131))))) :=
  ⟨⟨⟨⟨@ty_c120, @ty_i120⟩, ⟨@ty_u120, @ty_a120⟩⟩, ⟨⟨@ty_w120, @ty_z120⟩, ⟨@ty_c130, @ty_i130⟩⟩⟩, ⟨⟨⟨@ty_u130, @ty_a130⟩, ⟨@ty_w130, @ty_z130⟩⟩, ⟨⟨@ty_f130_0, @ty_f130_1⟩, ⟨@ty_c131, @ty_i131⟩⟩⟩⟩
theorem tys14 :
    (((((type_of% @ty_u131) ∧ (type_of% @ty_a131)) ∧ ((type_of% @ty_w131) ∧ (type_of% @ty_z131))) ∧ (((type_of% @ty_f131_0) ∧ (type_of% @ty_f131_1)) ∧ ((type_of% @ty_c142) ∧ (type_of% @ty_i142)))) ∧ ((((type_of% @ty_u142) ∧ (type_of% @ty_a142)) ∧ ((type_of% @ty_w142) ∧ (type_of% @ty_z142))) ∧ (((type_of% @ty_c144) ∧ (type_of% @ty_i144)) ∧ ((type_of% @ty_u144) ∧ (type_of% @ty_a144))))) :=
  ⟨⟨⟨⟨@ty_u131, @ty_a131⟩, ⟨@ty_w131, @ty_z131⟩⟩, ⟨⟨@ty_f131_0, @ty_f131_1⟩, ⟨@ty_c142, @ty_i142⟩⟩⟩, ⟨⟨⟨@ty_u142, @ty_a142⟩, ⟨@ty_w142, @ty_z142⟩⟩, ⟨⟨@ty_c144, @ty_i144⟩, ⟨@ty_u144, @ty_a144⟩⟩⟩⟩
theorem tys15 :
    (((((type_of% @ty_w144) ∧ (type_of% @ty_z144)) ∧ ((type_of% @ty_c145) ∧ (type_of% @ty_i145))) ∧ (((type_of% @ty_u145) ∧ (type_of% @ty_a145)) ∧ ((type_of% @ty_w145) ∧ (type_of% @ty_z145)))) ∧ ((((type_of% @ty_c153) ∧ (type_of% @ty_i153)) ∧ ((type_of% @ty_u153) ∧ (type_of% @ty_a153))) ∧ (((type_of% @ty_w153) ∧ (type_of% @ty_z153)) ∧ ((type_of% @Try.underlying2) ∧ (type_of% @Try.underlying3))))) :=
  ⟨⟨⟨⟨@ty_w144, @ty_z144⟩, ⟨@ty_c145, @ty_i145⟩⟩, ⟨⟨@ty_u145, @ty_a145⟩, ⟨@ty_w145, @ty_z145⟩⟩⟩, ⟨⟨⟨@ty_c153, @ty_i153⟩, ⟨@ty_u153, @ty_a153⟩⟩, ⟨⟨@ty_w153, @ty_z153⟩, ⟨@Try.underlying2, @Try.underlying3⟩⟩⟩⟩
theorem tys16 :
    (((((type_of% @Try.underlying4) ∧ (type_of% @Try.underlying5)) ∧ ((type_of% @Try.underlying9) ∧ (type_of% @Try.underlying12))) ∧ (((type_of% @Try.underlying21) ∧ (type_of% @Try.underlying22)) ∧ ((type_of% @Try.underlying23) ∧ (type_of% @Try.underlying24)))) ∧ ((((type_of% @Try.underlying30) ∧ (type_of% @Try.underlying31)) ∧ ((type_of% @Try.underlying32) ∧ (type_of% @Try.underlying38))) ∧ (((type_of% @Try.underlying43) ∧ (type_of% @Try.underlying47)) ∧ ((type_of% @Try.underlying55) ∧ (type_of% @Try.underlying56))))) :=
  ⟨⟨⟨⟨@Try.underlying4, @Try.underlying5⟩, ⟨@Try.underlying9, @Try.underlying12⟩⟩, ⟨⟨@Try.underlying21, @Try.underlying22⟩, ⟨@Try.underlying23, @Try.underlying24⟩⟩⟩, ⟨⟨⟨@Try.underlying30, @Try.underlying31⟩, ⟨@Try.underlying32, @Try.underlying38⟩⟩, ⟨⟨@Try.underlying43, @Try.underlying47⟩, ⟨@Try.underlying55, @Try.underlying56⟩⟩⟩⟩
theorem tys17 :
    (((((type_of% @Try.underlying57) ∧ (type_of% @Try.underlying60)) ∧ ((type_of% @Try.underlying82) ∧ (type_of% @Try.underlying83))) ∧ (((type_of% @Try.underlying84) ∧ (type_of% @Try.underlying85)) ∧ ((type_of% @Try.underlying87) ∧ (type_of% @Try.underlying88)))) ∧ ((((type_of% @Try.underlying97) ∧ (type_of% @Try.underlying98)) ∧ ((type_of% @Try.underlying104) ∧ (type_of% @Try.underlying114))) ∧ (((type_of% @Try.underlying115) ∧ (type_of% @Try.underlying120)) ∧ ((type_of% @Try.underlying130) ∧ (type_of% @Try.underlying131))))) :=
  ⟨⟨⟨⟨@Try.underlying57, @Try.underlying60⟩, ⟨@Try.underlying82, @Try.underlying83⟩⟩, ⟨⟨@Try.underlying84, @Try.underlying85⟩, ⟨@Try.underlying87, @Try.underlying88⟩⟩⟩, ⟨⟨⟨@Try.underlying97, @Try.underlying98⟩, ⟨@Try.underlying104, @Try.underlying114⟩⟩, ⟨⟨@Try.underlying115, @Try.underlying120⟩, ⟨@Try.underlying130, @Try.underlying131⟩⟩⟩⟩
theorem tys18 :
    (((type_of% @Try.underlying142) ∧ (type_of% @Try.underlying144)) ∧ ((type_of% @Try.underlying145) ∧ (type_of% @Try.underlying153))) :=
  ⟨⟨@Try.underlying142, @Try.underlying144⟩, ⟨@Try.underlying145, @Try.underlying153⟩⟩
end Go.Proofs.Ytphmkhaboghagaa
