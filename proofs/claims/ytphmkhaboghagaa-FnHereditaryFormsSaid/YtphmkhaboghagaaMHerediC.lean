/-
  Texts joined in one: Facts, G1, G2, G3, G4, G5, G6, G7, G8, G9, G10, C2, G11.
-/
import Derived.Test.YtphmkhaboghagaaProg
import Derived.Test.YtphmkhaboghagaaMHerediB
/-
  Facts on the types of this seat's program.
-/
namespace Go.Proofs.Ytphmkhaboghagaa
open Go K
theorem hmix : Try.prog.follows .mixedOrders = true := by kernel_rfl
theorem ty_c2 : Try.prog.cellsOf 2 = 1 := by kernel_rfl
theorem ty_i2 : (Try.prog.info? 2).isSome = true := by kernel_rfl
theorem ty_u2 : (Try.prog.underlying 2).isSome = true := by kernel_rfl
theorem ty_a2 : aggT Try.prog 2 = false := by kernel_rfl
theorem ty_w2 : (decide (Try.prog.bytesOf 2 ≤ 1024)) = true := by kernel_rfl
theorem ty_z2 : zeroOf Try.prog 2 = some (.int .i64 0) := by kernel_rfl
theorem ty_c3 : Try.prog.cellsOf 3 = 1 := by kernel_rfl
theorem ty_i3 : (Try.prog.info? 3).isSome = true := by kernel_rfl
theorem ty_u3 : (Try.prog.underlying 3).isSome = true := by kernel_rfl
theorem ty_a3 : aggT Try.prog 3 = false := by kernel_rfl
theorem ty_w3 : (decide (Try.prog.bytesOf 3 ≤ 1024)) = true := by kernel_rfl
theorem ty_z3 : zeroOf Try.prog 3 = some (.int .i64 0) := by kernel_rfl
theorem ty_c4 : Try.prog.cellsOf 4 = 1 := by kernel_rfl
theorem ty_i4 : (Try.prog.info? 4).isSome = true := by kernel_rfl
theorem ty_u4 : (Try.prog.underlying 4).isSome = true := by kernel_rfl
theorem ty_a4 : aggT Try.prog 4 = false := by kernel_rfl
theorem ty_w4 : (decide (Try.prog.bytesOf 4 ≤ 1024)) = true := by kernel_rfl
theorem ty_b4 : isBoolT Try.prog 4 = true := by kernel_rfl
theorem ty_z4 : zeroOf Try.prog 4 = some (.bool false) := by kernel_rfl
theorem ty_c5 : Try.prog.cellsOf 5 = 1 := by kernel_rfl
theorem ty_i5 : (Try.prog.info? 5).isSome = true := by kernel_rfl
theorem ty_u5 : (Try.prog.underlying 5).isSome = true := by kernel_rfl
theorem ty_a5 : aggT Try.prog 5 = false := by kernel_rfl
theorem ty_w5 : (decide (Try.prog.bytesOf 5 ≤ 1024)) = true := by kernel_rfl
theorem ty_z5 : zeroOf Try.prog 5 = some (.int .u8 0) := by kernel_rfl
theorem ty_c9 : Try.prog.cellsOf 9 = 1 := by kernel_rfl
theorem ty_i9 : (Try.prog.info? 9).isSome = true := by kernel_rfl
theorem ty_u9 : (Try.prog.underlying 9).isSome = true := by kernel_rfl
theorem ty_a9 : aggT Try.prog 9 = false := by kernel_rfl
theorem ty_w9 : (decide (Try.prog.bytesOf 9 ≤ 1024)) = true := by kernel_rfl
theorem ty_z9 : zeroOf Try.prog 9 = some (.string ⟨#[]⟩) := by kernel_rfl
theorem ty_c12 : Try.prog.cellsOf 12 = 1 := by kernel_rfl
theorem ty_i12 : (Try.prog.info? 12).isSome = true := by kernel_rfl
theorem ty_u12 : (Try.prog.underlying 12).isSome = true := by kernel_rfl
theorem ty_a12 : aggT Try.prog 12 = false := by kernel_rfl
theorem ty_w12 : (decide (Try.prog.bytesOf 12 ≤ 1024)) = true := by kernel_rfl
theorem ty_z12 : zeroOf Try.prog 12 = some (.int .u64 0) := by kernel_rfl
theorem ty_c21 : Try.prog.cellsOf 21 = 1 := by kernel_rfl
theorem ty_i21 : (Try.prog.info? 21).isSome = true := by kernel_rfl
theorem ty_u21 : (Try.prog.underlying 21).isSome = true := by kernel_rfl
theorem ty_a21 : aggT Try.prog 21 = false := by kernel_rfl
theorem ty_w21 : (decide (Try.prog.bytesOf 21 ≤ 1024)) = true := by kernel_rfl
theorem ty_z21 : zeroOf Try.prog 21 = some (.int .i32 0) := by kernel_rfl
theorem ty_c22 : Try.prog.cellsOf 22 = 1 := by kernel_rfl
theorem ty_i22 : (Try.prog.info? 22).isSome = true := by kernel_rfl
theorem ty_u22 : (Try.prog.underlying 22).isSome = true := by kernel_rfl
theorem ty_a22 : aggT Try.prog 22 = false := by kernel_rfl
theorem ty_w22 : (decide (Try.prog.bytesOf 22 ≤ 1024)) = true := by kernel_rfl
theorem ty_z22 : zeroOf Try.prog 22 = some (.slice none 0 0) := by kernel_rfl
theorem ty_c23 : Try.prog.cellsOf 23 = 1 := by kernel_rfl
theorem ty_i23 : (Try.prog.info? 23).isSome = true := by kernel_rfl
theorem ty_u23 : (Try.prog.underlying 23).isSome = true := by kernel_rfl
theorem ty_a23 : aggT Try.prog 23 = true := by kernel_rfl
theorem ty_w23 : (decide (Try.prog.bytesOf 23 ≤ 1024)) = true := by kernel_rfl
theorem ty_z23 : zeroOf Try.prog 23 = some (.agg #[.slice none 0 0]) := by kernel_rfl
theorem ty_f23_0 : fieldOf Try.prog 23 0 = some (0, 22) := by kernel_rfl
theorem ty_c24 : Try.prog.cellsOf 24 = 1 := by kernel_rfl
theorem ty_i24 : (Try.prog.info? 24).isSome = true := by kernel_rfl
theorem ty_u24 : (Try.prog.underlying 24).isSome = true := by kernel_rfl
theorem ty_a24 : aggT Try.prog 24 = true := by kernel_rfl
theorem ty_w24 : (decide (Try.prog.bytesOf 24 ≤ 1024)) = true := by kernel_rfl
theorem ty_z24 : zeroOf Try.prog 24 = some (.agg #[.slice none 0 0]) := by kernel_rfl
theorem ty_f24_0 : fieldOf Try.prog 24 0 = some (0, 22) := by kernel_rfl
theorem ty_c30 : Try.prog.cellsOf 30 = 1 := by kernel_rfl
theorem ty_i30 : (Try.prog.info? 30).isSome = true := by kernel_rfl
theorem ty_u30 : (Try.prog.underlying 30).isSome = true := by kernel_rfl
theorem ty_a30 : aggT Try.prog 30 = false := by kernel_rfl
theorem ty_w30 : (decide (Try.prog.bytesOf 30 ≤ 1024)) = true := by kernel_rfl
theorem ty_z30 : zeroOf Try.prog 30 = some (.slice none 0 0) := by kernel_rfl
theorem ty_c31 : Try.prog.cellsOf 31 = 1 := by kernel_rfl
theorem ty_i31 : (Try.prog.info? 31).isSome = true := by kernel_rfl
theorem ty_u31 : (Try.prog.underlying 31).isSome = true := by kernel_rfl
theorem ty_a31 : aggT Try.prog 31 = true := by kernel_rfl
theorem ty_w31 : (decide (Try.prog.bytesOf 31 ≤ 1024)) = true := by kernel_rfl
theorem ty_z31 : zeroOf Try.prog 31 = some (.agg #[.slice none 0 0]) := by kernel_rfl
theorem ty_f31_0 : fieldOf Try.prog 31 0 = some (0, 30) := by kernel_rfl
theorem ty_c32 : Try.prog.cellsOf 32 = 1 := by kernel_rfl
theorem ty_i32 : (Try.prog.info? 32).isSome = true := by kernel_rfl
theorem ty_u32 : (Try.prog.underlying 32).isSome = true := by kernel_rfl
theorem ty_a32 : aggT Try.prog 32 = true := by kernel_rfl
theorem ty_w32 : (decide (Try.prog.bytesOf 32 ≤ 1024)) = true := by kernel_rfl
theorem ty_z32 : zeroOf Try.prog 32 = some (.agg #[.slice none 0 0]) := by kernel_rfl
theorem ty_f32_0 : fieldOf Try.prog 32 0 = some (0, 30) := by kernel_rfl
theorem ty_c38 : Try.prog.cellsOf 38 = 1 := by kernel_rfl
theorem ty_i38 : (Try.prog.info? 38).isSome = true := by kernel_rfl
theorem ty_u38 : (Try.prog.underlying 38).isSome = true := by kernel_rfl
theorem ty_a38 : aggT Try.prog 38 = false := by kernel_rfl
theorem ty_w38 : (decide (Try.prog.bytesOf 38 ≤ 1024)) = true := by kernel_rfl
theorem ty_z38 : zeroOf Try.prog 38 = some (.slice none 0 0) := by kernel_rfl
theorem ty_c43 : Try.prog.cellsOf 43 = 1 := by kernel_rfl
theorem ty_i43 : (Try.prog.info? 43).isSome = true := by kernel_rfl
theorem ty_u43 : (Try.prog.underlying 43).isSome = true := by kernel_rfl
theorem ty_a43 : aggT Try.prog 43 = false := by kernel_rfl
theorem ty_w43 : (decide (Try.prog.bytesOf 43 ≤ 1024)) = true := by kernel_rfl
theorem ty_z43 : zeroOf Try.prog 43 = some (.slice none 0 0) := by kernel_rfl
theorem ty_c47 : Try.prog.cellsOf 47 = 1 := by kernel_rfl
theorem ty_i47 : (Try.prog.info? 47).isSome = true := by kernel_rfl
theorem ty_u47 : (Try.prog.underlying 47).isSome = true := by kernel_rfl
theorem ty_a47 : aggT Try.prog 47 = false := by kernel_rfl
theorem ty_w47 : (decide (Try.prog.bytesOf 47 ≤ 1024)) = true := by kernel_rfl
theorem ty_z47 : zeroOf Try.prog 47 = some (.slice none 0 0) := by kernel_rfl
theorem ty_c55 : Try.prog.cellsOf 55 = 1 := by kernel_rfl
theorem ty_i55 : (Try.prog.info? 55).isSome = true := by kernel_rfl
theorem ty_u55 : (Try.prog.underlying 55).isSome = true := by kernel_rfl
theorem ty_a55 : aggT Try.prog 55 = false := by kernel_rfl
theorem ty_w55 : (decide (Try.prog.bytesOf 55 ≤ 1024)) = true := by kernel_rfl
theorem ty_z55 : zeroOf Try.prog 55 = some (.slice none 0 0) := by kernel_rfl
theorem ty_c56 : Try.prog.cellsOf 56 = 1 := by kernel_rfl
theorem ty_i56 : (Try.prog.info? 56).isSome = true := by kernel_rfl
theorem ty_u56 : (Try.prog.underlying 56).isSome = true := by kernel_rfl
theorem ty_a56 : aggT Try.prog 56 = true := by kernel_rfl
theorem ty_w56 : (decide (Try.prog.bytesOf 56 ≤ 1024)) = true := by kernel_rfl
theorem ty_z56 : zeroOf Try.prog 56 = some (.agg #[.slice none 0 0]) := by kernel_rfl
theorem ty_f56_0 : fieldOf Try.prog 56 0 = some (0, 55) := by kernel_rfl
theorem ty_c57 : Try.prog.cellsOf 57 = 1 := by kernel_rfl
theorem ty_i57 : (Try.prog.info? 57).isSome = true := by kernel_rfl
theorem ty_u57 : (Try.prog.underlying 57).isSome = true := by kernel_rfl
theorem ty_a57 : aggT Try.prog 57 = true := by kernel_rfl
theorem ty_w57 : (decide (Try.prog.bytesOf 57 ≤ 1024)) = true := by kernel_rfl
theorem ty_z57 : zeroOf Try.prog 57 = some (.agg #[.slice none 0 0]) := by kernel_rfl
theorem ty_f57_0 : fieldOf Try.prog 57 0 = some (0, 55) := by kernel_rfl
theorem ty_c60 : Try.prog.cellsOf 60 = 1 := by kernel_rfl
theorem ty_i60 : (Try.prog.info? 60).isSome = true := by kernel_rfl
theorem ty_u60 : (Try.prog.underlying 60).isSome = true := by kernel_rfl
theorem ty_a60 : aggT Try.prog 60 = true := by kernel_rfl
theorem ty_w60 : (decide (Try.prog.bytesOf 60 ≤ 1024)) = true := by kernel_rfl
theorem ty_z60 : zeroOf Try.prog 60 = some (.agg #[.slice none 0 0]) := by kernel_rfl
theorem ty_f60_0 : fieldOf Try.prog 60 0 = some (0, 55) := by kernel_rfl
theorem ty_c82 : Try.prog.cellsOf 82 = 1 := by kernel_rfl
theorem ty_i82 : (Try.prog.info? 82).isSome = true := by kernel_rfl
theorem ty_u82 : (Try.prog.underlying 82).isSome = true := by kernel_rfl
theorem ty_a82 : aggT Try.prog 82 = false := by kernel_rfl
theorem ty_w82 : (decide (Try.prog.bytesOf 82 ≤ 1024)) = true := by kernel_rfl
theorem ty_z82 : zeroOf Try.prog 82 = some (.pointer none) := by kernel_rfl
theorem ty_c83 : Try.prog.cellsOf 83 = 1 := by kernel_rfl
theorem ty_i83 : (Try.prog.info? 83).isSome = true := by kernel_rfl
theorem ty_u83 : (Try.prog.underlying 83).isSome = true := by kernel_rfl
theorem ty_a83 : aggT Try.prog 83 = false := by kernel_rfl
theorem ty_w83 : (decide (Try.prog.bytesOf 83 ≤ 1024)) = true := by kernel_rfl
theorem ty_z83 : zeroOf Try.prog 83 = some (.int .u64 0) := by kernel_rfl
theorem ty_c84 : Try.prog.cellsOf 84 = 3 := by kernel_rfl
theorem ty_i84 : (Try.prog.info? 84).isSome = true := by kernel_rfl
theorem ty_u84 : (Try.prog.underlying 84).isSome = true := by kernel_rfl
theorem ty_a84 : aggT Try.prog 84 = true := by kernel_rfl
theorem ty_w84 : (decide (Try.prog.bytesOf 84 ≤ 1024)) = true := by kernel_rfl
theorem ty_z84 : zeroOf Try.prog 84 = some (.agg #[.slice none 0 0, .int .i64 0, .int .u64 0]) := by kernel_rfl
theorem ty_f84_0 : fieldOf Try.prog 84 0 = some (0, 38) := by kernel_rfl
theorem ty_f84_1 : fieldOf Try.prog 84 1 = some (1, 3) := by kernel_rfl
theorem ty_f84_2 : fieldOf Try.prog 84 2 = some (2, 83) := by kernel_rfl
theorem ty_c85 : Try.prog.cellsOf 85 = 3 := by kernel_rfl
theorem ty_i85 : (Try.prog.info? 85).isSome = true := by kernel_rfl
theorem ty_u85 : (Try.prog.underlying 85).isSome = true := by kernel_rfl
theorem ty_a85 : aggT Try.prog 85 = true := by kernel_rfl
theorem ty_w85 : (decide (Try.prog.bytesOf 85 ≤ 1024)) = true := by kernel_rfl
theorem ty_z85 : zeroOf Try.prog 85 = some (.agg #[.slice none 0 0, .int .i64 0, .int .u64 0]) := by kernel_rfl
theorem ty_f85_0 : fieldOf Try.prog 85 0 = some (0, 38) := by kernel_rfl
theorem ty_f85_1 : fieldOf Try.prog 85 1 = some (1, 3) := by kernel_rfl
theorem ty_f85_2 : fieldOf Try.prog 85 2 = some (2, 83) := by kernel_rfl
theorem ty_c87 : Try.prog.cellsOf 87 = 2 := by kernel_rfl
theorem ty_i87 : (Try.prog.info? 87).isSome = true := by kernel_rfl
theorem ty_u87 : (Try.prog.underlying 87).isSome = true := by kernel_rfl
theorem ty_a87 : aggT Try.prog 87 = true := by kernel_rfl
theorem ty_w87 : (decide (Try.prog.bytesOf 87 ≤ 1024)) = true := by kernel_rfl
theorem ty_z87 : zeroOf Try.prog 87 = some (.agg #[.slice none 0 0, .int .i64 0]) := by kernel_rfl
theorem ty_f87_0 : fieldOf Try.prog 87 0 = some (0, 24) := by kernel_rfl
theorem ty_f87_1 : fieldOf Try.prog 87 1 = some (1, 3) := by kernel_rfl
theorem ty_c88 : Try.prog.cellsOf 88 = 2 := by kernel_rfl
theorem ty_i88 : (Try.prog.info? 88).isSome = true := by kernel_rfl
theorem ty_u88 : (Try.prog.underlying 88).isSome = true := by kernel_rfl
theorem ty_a88 : aggT Try.prog 88 = true := by kernel_rfl
theorem ty_w88 : (decide (Try.prog.bytesOf 88 ≤ 1024)) = true := by kernel_rfl
theorem ty_z88 : zeroOf Try.prog 88 = some (.agg #[.slice none 0 0, .int .i64 0]) := by kernel_rfl
theorem ty_f88_0 : fieldOf Try.prog 88 0 = some (0, 24) := by kernel_rfl
theorem ty_f88_1 : fieldOf Try.prog 88 1 = some (1, 3) := by kernel_rfl
theorem ty_c97 : Try.prog.cellsOf 97 = 1 := by kernel_rfl
theorem ty_i97 : (Try.prog.info? 97).isSome = true := by kernel_rfl
theorem ty_u97 : (Try.prog.underlying 97).isSome = true := by kernel_rfl
theorem ty_a97 : aggT Try.prog 97 = false := by kernel_rfl
theorem ty_w97 : (decide (Try.prog.bytesOf 97 ≤ 1024)) = true := by kernel_rfl
theorem ty_z97 : zeroOf Try.prog 97 = some (.pointer none) := by kernel_rfl
theorem ty_c98 : Try.prog.cellsOf 98 = 1 := by kernel_rfl
theorem ty_i98 : (Try.prog.info? 98).isSome = true := by kernel_rfl
theorem ty_u98 : (Try.prog.underlying 98).isSome = true := by kernel_rfl
theorem ty_a98 : aggT Try.prog 98 = false := by kernel_rfl
theorem ty_w98 : (decide (Try.prog.bytesOf 98 ≤ 1024)) = true := by kernel_rfl
theorem ty_z98 : zeroOf Try.prog 98 = some (.slice none 0 0) := by kernel_rfl
theorem ty_c104 : Try.prog.cellsOf 104 = 1 := by kernel_rfl
theorem ty_i104 : (Try.prog.info? 104).isSome = true := by kernel_rfl
theorem ty_u104 : (Try.prog.underlying 104).isSome = true := by kernel_rfl
theorem ty_a104 : aggT Try.prog 104 = false := by kernel_rfl
theorem ty_w104 : (decide (Try.prog.bytesOf 104 ≤ 1024)) = true := by kernel_rfl
theorem ty_z104 : zeroOf Try.prog 104 = some (.pointer none) := by kernel_rfl
theorem ty_c114 : Try.prog.cellsOf 114 = 2 := by kernel_rfl
theorem ty_i114 : (Try.prog.info? 114).isSome = true := by kernel_rfl
theorem ty_u114 : (Try.prog.underlying 114).isSome = true := by kernel_rfl
theorem ty_a114 : aggT Try.prog 114 = true := by kernel_rfl
theorem ty_w114 : (decide (Try.prog.bytesOf 114 ≤ 1024)) = true := by kernel_rfl
theorem ty_z114 : zeroOf Try.prog 114 = some (.agg #[.slice none 0 0, .int .i64 0]) := by kernel_rfl
theorem ty_f114_0 : fieldOf Try.prog 114 0 = some (0, 32) := by kernel_rfl
theorem ty_f114_1 : fieldOf Try.prog 114 1 = some (1, 3) := by kernel_rfl
theorem ty_c115 : Try.prog.cellsOf 115 = 2 := by kernel_rfl
theorem ty_i115 : (Try.prog.info? 115).isSome = true := by kernel_rfl
theorem ty_u115 : (Try.prog.underlying 115).isSome = true := by kernel_rfl
theorem ty_a115 : aggT Try.prog 115 = true := by kernel_rfl
theorem ty_w115 : (decide (Try.prog.bytesOf 115 ≤ 1024)) = true := by kernel_rfl
theorem ty_z115 : zeroOf Try.prog 115 = some (.agg #[.slice none 0 0, .int .i64 0]) := by kernel_rfl
theorem ty_f115_0 : fieldOf Try.prog 115 0 = some (0, 32) := by kernel_rfl
theorem ty_f115_1 : fieldOf Try.prog 115 1 = some (1, 3) := by kernel_rfl
theorem ty_c120 : Try.prog.cellsOf 120 = 1 := by kernel_rfl
theorem ty_i120 : (Try.prog.info? 120).isSome = true := by kernel_rfl
theorem ty_u120 : (Try.prog.underlying 120).isSome = true := by kernel_rfl
theorem ty_a120 : aggT Try.prog 120 = false := by kernel_rfl
theorem ty_w120 : (decide (Try.prog.bytesOf 120 ≤ 1024)) = true := by kernel_rfl
theorem ty_z120 : zeroOf Try.prog 120 = some (.pointer none) := by kernel_rfl
theorem ty_c130 : Try.prog.cellsOf 130 = 2 := by kernel_rfl
theorem ty_i130 : (Try.prog.info? 130).isSome = true := by kernel_rfl
theorem ty_u130 : (Try.prog.underlying 130).isSome = true := by kernel_rfl
theorem ty_a130 : aggT Try.prog 130 = true := by kernel_rfl
theorem ty_w130 : (decide (Try.prog.bytesOf 130 ≤ 1024)) = true := by kernel_rfl
theorem ty_z130 : zeroOf Try.prog 130 = some (.agg #[.int .i64 0, .slice none 0 0]) := by kernel_rfl
theorem ty_f130_0 : fieldOf Try.prog 130 0 = some (0, 3) := by kernel_rfl
theorem ty_f130_1 : fieldOf Try.prog 130 1 = some (1, 98) := by kernel_rfl
theorem ty_c131 : Try.prog.cellsOf 131 = 2 := by kernel_rfl
theorem ty_i131 : (Try.prog.info? 131).isSome = true := by kernel_rfl
theorem ty_u131 : (Try.prog.underlying 131).isSome = true := by kernel_rfl
theorem ty_a131 : aggT Try.prog 131 = true := by kernel_rfl
theorem ty_w131 : (decide (Try.prog.bytesOf 131 ≤ 1024)) = true := by kernel_rfl
theorem ty_z131 : zeroOf Try.prog 131 = some (.agg #[.int .i64 0, .slice none 0 0]) := by kernel_rfl
theorem ty_f131_0 : fieldOf Try.prog 131 0 = some (0, 3) := by kernel_rfl
theorem ty_f131_1 : fieldOf Try.prog 131 1 = some (1, 98) := by kernel_rfl
theorem ty_c142 : Try.prog.cellsOf 142 = 1 := by kernel_rfl
theorem ty_i142 : (Try.prog.info? 142).isSome = true := by kernel_rfl
theorem ty_u142 : (Try.prog.underlying 142).isSome = true := by kernel_rfl
theorem ty_a142 : aggT Try.prog 142 = false := by kernel_rfl
theorem ty_w142 : (decide (Try.prog.bytesOf 142 ≤ 1024)) = true := by kernel_rfl
theorem ty_z142 : zeroOf Try.prog 142 = some (.pointer none) := by kernel_rfl
theorem ty_c144 : Try.prog.cellsOf 144 = 1 := by kernel_rfl
theorem ty_i144 : (Try.prog.info? 144).isSome = true := by kernel_rfl
theorem ty_u144 : (Try.prog.underlying 144).isSome = true := by kernel_rfl
theorem ty_a144 : aggT Try.prog 144 = false := by kernel_rfl
theorem ty_w144 : (decide (Try.prog.bytesOf 144 ≤ 1024)) = true := by kernel_rfl
theorem ty_z144 : zeroOf Try.prog 144 = some (.pointer none) := by kernel_rfl
theorem ty_c145 : Try.prog.cellsOf 145 = 1 := by kernel_rfl
theorem ty_i145 : (Try.prog.info? 145).isSome = true := by kernel_rfl
theorem ty_u145 : (Try.prog.underlying 145).isSome = true := by kernel_rfl
theorem ty_a145 : aggT Try.prog 145 = false := by kernel_rfl
theorem ty_w145 : (decide (Try.prog.bytesOf 145 ≤ 1024)) = true := by kernel_rfl
theorem ty_z145 : zeroOf Try.prog 145 = some (.int .u64 0) := by kernel_rfl
theorem ty_c153 : Try.prog.cellsOf 153 = 1 := by kernel_rfl
theorem ty_i153 : (Try.prog.info? 153).isSome = true := by kernel_rfl
theorem ty_u153 : (Try.prog.underlying 153).isSome = true := by kernel_rfl
theorem ty_a153 : aggT Try.prog 153 = false := by kernel_rfl
theorem ty_w153 : (decide (Try.prog.bytesOf 153 ≤ 1024)) = true := by kernel_rfl
theorem ty_z153 : zeroOf Try.prog 153 = some (.int .u32 0) := by kernel_rfl
theorem ok_f3 : okFn Try.prog 3 = true := by kernel_rfl
theorem ok_f4 : okFn Try.prog 4 = true := by kernel_rfl
theorem ok_f5 : okFn Try.prog 5 = true := by kernel_rfl
theorem ok_f6 : okFn Try.prog 6 = true := by kernel_rfl
theorem ok_f7 : okFn Try.prog 7 = true := by kernel_rfl
theorem ok_f8 : okFn Try.prog 8 = true := by kernel_rfl
theorem ok_f9 : okFn Try.prog 9 = true := by kernel_rfl
theorem ok_f10 : okFn Try.prog 10 = true := by kernel_rfl
theorem ok_f11 : okFn Try.prog 11 = true := by kernel_rfl
theorem ok_f12 : okFn Try.prog 12 = true := by kernel_rfl
theorem ok_f13 : okFn Try.prog 13 = true := by kernel_rfl
theorem ok_f14 : okFn Try.prog 14 = true := by kernel_rfl
theorem ok_f15 : okFn Try.prog 15 = true := by kernel_rfl
theorem ok_f16 : okFn Try.prog 16 = true := by kernel_rfl
theorem ok_f17 : okFn Try.prog 17 = true := by kernel_rfl
theorem ok_f18 : okFn Try.prog 18 = true := by kernel_rfl
theorem ok_f19 : okFn Try.prog 19 = true := by kernel_rfl
theorem ok_f20 : okFn Try.prog 20 = true := by kernel_rfl
theorem ok_f21 : okFn Try.prog 21 = true := by kernel_rfl
theorem ok_f22 : okFn Try.prog 22 = true := by kernel_rfl
theorem ok_f23 : okFn Try.prog 23 = true := by kernel_rfl
theorem ok_f24 : okFn Try.prog 24 = true := by kernel_rfl
theorem ok_f25 : okFn Try.prog 25 = true := by kernel_rfl
theorem ok_f26 : okFn Try.prog 26 = true := by kernel_rfl
theorem ok_f27 : okFn Try.prog 27 = true := by kernel_rfl
theorem ok_f28 : okFn Try.prog 28 = true := by kernel_rfl
theorem ok_f29 : okFn Try.prog 29 = true := by kernel_rfl
theorem ok_f30 : okFn Try.prog 30 = true := by kernel_rfl
theorem ok_f31 : okFn Try.prog 31 = true := by kernel_rfl
theorem ok_f32 : okFn Try.prog 32 = true := by kernel_rfl
theorem ok_f33 : okFn Try.prog 33 = true := by kernel_rfl
theorem ok_f34 : okFn Try.prog 34 = true := by kernel_rfl
theorem ok_f35 : okFn Try.prog 35 = true := by kernel_rfl
theorem ok_f36 : okFn Try.prog 36 = true := by kernel_rfl
theorem ok_f37 : okFn Try.prog 37 = true := by kernel_rfl
theorem ok_f38 : okFn Try.prog 38 = true := by kernel_rfl
theorem ok_f39 : okFn Try.prog 39 = true := by kernel_rfl
theorem ok_f40 : okFn Try.prog 40 = true := by kernel_rfl
theorem ok_f41 : okFn Try.prog 41 = true := by kernel_rfl
theorem ok_f42 : okFn Try.prog 42 = true := by kernel_rfl
theorem ok_f43 : okFn Try.prog 43 = true := by kernel_rfl
theorem ok_f44 : okFn Try.prog 44 = true := by kernel_rfl
theorem ok_f45 : okFn Try.prog 45 = true := by kernel_rfl
theorem ok_f46 : okFn Try.prog 46 = true := by kernel_rfl
theorem ok_f47 : okFn Try.prog 47 = true := by kernel_rfl
theorem ok_f48 : okFn Try.prog 48 = true := by kernel_rfl
theorem ok_f49 : okFn Try.prog 49 = true := by kernel_rfl
theorem ok_f50 : okFn Try.prog 50 = true := by kernel_rfl
theorem ok_f51 : okFn Try.prog 51 = true := by kernel_rfl
theorem ok_f52 : okFn Try.prog 52 = true := by kernel_rfl
theorem ok_f53 : okFn Try.prog 53 = true := by kernel_rfl
theorem ok_f54 : okFn Try.prog 54 = true := by kernel_rfl
theorem ok_f55 : okFn Try.prog 55 = true := by kernel_rfl
theorem ok_f56 : okFn Try.prog 56 = true := by kernel_rfl
theorem ok_f57 : okFn Try.prog 57 = true := by kernel_rfl
theorem ok_f58 : okFn Try.prog 58 = true := by kernel_rfl
theorem ok_f59 : okFn Try.prog 59 = true := by kernel_rfl
theorem ok_f60 : okFn Try.prog 60 = true := by kernel_rfl
theorem ok_f61 : okFn Try.prog 61 = true := by kernel_rfl
theorem ok_f62 : okFn Try.prog 62 = true := by kernel_rfl
theorem ok_f63 : okFn Try.prog 63 = true := by kernel_rfl
theorem ok_f64 : okFn Try.prog 64 = true := by kernel_rfl
theorem ok_f65 : okFn Try.prog 65 = true := by kernel_rfl
theorem ok_f66 : okFn Try.prog 66 = true := by kernel_rfl
theorem ok_f67 : okFn Try.prog 67 = true := by kernel_rfl
theorem ok_f68 : okFn Try.prog 68 = true := by kernel_rfl
theorem ok_f69 : okFn Try.prog 69 = true := by kernel_rfl
theorem ok_f70 : okFn Try.prog 70 = true := by kernel_rfl
theorem ok_f71 : okFn Try.prog 71 = true := by kernel_rfl
theorem ok_f72 : okFn Try.prog 72 = true := by kernel_rfl
theorem ok_f73 : okFn Try.prog 73 = true := by kernel_rfl
theorem ok_f74 : okFn Try.prog 74 = true := by kernel_rfl
theorem ok_f75 : okFn Try.prog 75 = true := by kernel_rfl
theorem ok_f76 : okFn Try.prog 76 = true := by kernel_rfl
theorem ok_f77 : okFn Try.prog 77 = true := by kernel_rfl
theorem ok_f78 : okFn Try.prog 78 = true := by kernel_rfl
theorem ok_f79 : okFn Try.prog 79 = true := by kernel_rfl
theorem ok_f80 : okFn Try.prog 80 = true := by kernel_rfl
theorem ok_f81 : okFn Try.prog 81 = true := by kernel_rfl
theorem ok_f82 : okFn Try.prog 82 = true := by kernel_rfl
theorem ok_f83 : okFn Try.prog 83 = true := by kernel_rfl
theorem ok_f84 : okFn Try.prog 84 = true := by kernel_rfl
theorem ok_f85 : okFn Try.prog 85 = true := by kernel_rfl
theorem ok_f86 : okFn Try.prog 86 = true := by kernel_rfl
theorem ok_f87 : okFn Try.prog 87 = true := by kernel_rfl
theorem ok_f88 : okFn Try.prog 88 = true := by kernel_rfl
theorem ok_f89 : okFn Try.prog 89 = true := by kernel_rfl
theorem ok_f90 : okFn Try.prog 90 = true := by kernel_rfl
theorem ok_f91 : okFn Try.prog 91 = true := by kernel_rfl
theorem ok_f92 : okFn Try.prog 92 = true := by kernel_rfl
theorem ok_f93 : okFn Try.prog 93 = true := by kernel_rfl
theorem ok_f94 : okFn Try.prog 94 = true := by kernel_rfl
theorem ok_f95 : okFn Try.prog 95 = true := by kernel_rfl
theorem ok_f96 : okFn Try.prog 96 = true := by kernel_rfl
theorem ok_f97 : okFn Try.prog 97 = true := by kernel_rfl
theorem ok_f98 : okFn Try.prog 98 = true := by kernel_rfl
theorem ok_f99 : okFn Try.prog 99 = true := by kernel_rfl
theorem ok_f100 : okFn Try.prog 100 = true := by kernel_rfl
theorem ok_f101 : okFn Try.prog 101 = true := by kernel_rfl
theorem ok_f102 : okFn Try.prog 102 = true := by kernel_rfl
theorem ok_f103 : okFn Try.prog 103 = true := by kernel_rfl
theorem ok_f104 : okFn Try.prog 104 = true := by kernel_rfl
theorem ok_f105 : okFn Try.prog 105 = true := by kernel_rfl
theorem ok_f106 : okFn Try.prog 106 = true := by kernel_rfl
theorem ok_f107 : okFn Try.prog 107 = true := by kernel_rfl
theorem ok_f108 : okFn Try.prog 108 = true := by kernel_rfl
theorem ok_f109 : okFn Try.prog 109 = true := by kernel_rfl
theorem ok_f110 : okFn Try.prog 110 = true := by kernel_rfl
theorem ok_f111 : okFn Try.prog 111 = true := by kernel_rfl
theorem ok_f112 : okFn Try.prog 112 = true := by kernel_rfl
theorem ok_f113 : okFn Try.prog 113 = true := by kernel_rfl
theorem ok_f114 : okFn Try.prog 114 = true := by kernel_rfl
theorem ok_f115 : okFn Try.prog 115 = true := by kernel_rfl
theorem ok_f116 : okFn Try.prog 116 = true := by kernel_rfl
theorem ok_f117 : okFn Try.prog 117 = true := by kernel_rfl
theorem ok_f118 : okFn Try.prog 118 = true := by kernel_rfl
theorem ok_f119 : okFn Try.prog 119 = true := by kernel_rfl
theorem ok_f120 : okFn Try.prog 120 = true := by kernel_rfl
theorem ok_f121 : okFn Try.prog 121 = true := by kernel_rfl
theorem ok_f122 : okFn Try.prog 122 = true := by kernel_rfl
theorem ok_f123 : okFn Try.prog 123 = true := by kernel_rfl
theorem tys0 :
    (((((type_of% @ty_c2) ∧ (type_of% @ty_i2)) ∧ ((type_of% @ty_u2) ∧ (type_of% @ty_a2))) ∧ (((type_of% @ty_w2) ∧ (type_of% @ty_z2)) ∧ ((type_of% @ty_c3) ∧ (type_of% @ty_i3)))) ∧ ((((type_of% @ty_u3) ∧ (type_of% @ty_a3)) ∧ ((type_of% @ty_w3) ∧ (type_of% @ty_z3))) ∧ (((type_of% @ty_c4) ∧ (type_of% @ty_i4)) ∧ ((type_of% @ty_u4) ∧ (type_of% @ty_a4))))) :=
  ⟨⟨⟨⟨@ty_c2, @ty_i2⟩, ⟨@ty_u2, @ty_a2⟩⟩, ⟨⟨@ty_w2, @ty_z2⟩, ⟨@ty_c3, @ty_i3⟩⟩⟩, ⟨⟨⟨@ty_u3, @ty_a3⟩, ⟨@ty_w3, @ty_z3⟩⟩, ⟨⟨@ty_c4, @ty_i4⟩, ⟨@ty_u4, @ty_a4⟩⟩⟩⟩
theorem tys1 :
    (((((type_of% @ty_w4) ∧ (type_of% @ty_b4)) ∧ ((type_of% @ty_z4) ∧ (type_of% @ty_c5))) ∧ (((type_of% @ty_i5) ∧ (type_of% @ty_u5)) ∧ ((type_of% @ty_a5) ∧ (type_of% @ty_w5)))) ∧ ((((type_of% @ty_z5) ∧ (type_of% @ty_c9)) ∧ ((type_of% @ty_i9) ∧ (type_of% @ty_u9))) ∧ (((type_of% @ty_a9) ∧ (type_of% @ty_w9)) ∧ ((type_of% @ty_z9) ∧ (type_of% @ty_c12))))) :=
  ⟨⟨⟨⟨@ty_w4, @ty_b4⟩, ⟨@ty_z4, @ty_c5⟩⟩, ⟨⟨@ty_i5, @ty_u5⟩, ⟨@ty_a5, @ty_w5⟩⟩⟩, ⟨⟨⟨@ty_z5, @ty_c9⟩, ⟨@ty_i9, @ty_u9⟩⟩, ⟨⟨@ty_a9, @ty_w9⟩, ⟨@ty_z9, @ty_c12⟩⟩⟩⟩
theorem tys2 :
    (((((type_of% @ty_i12) ∧ (type_of% @ty_u12)) ∧ ((type_of% @ty_a12) ∧ (type_of% @ty_w12))) ∧ (((type_of% @ty_z12) ∧ (type_of% @ty_c21)) ∧ ((type_of% @ty_i21) ∧ (type_of% @ty_u21)))) ∧ ((((type_of% @ty_a21) ∧ (type_of% @ty_w21)) ∧ ((type_of% @ty_z21) ∧ (type_of% @ty_c22))) ∧ (((type_of% @ty_i22) ∧ (type_of% @ty_u22)) ∧ ((type_of% @ty_a22) ∧ (type_of% @ty_w22))))) :=
  ⟨⟨⟨⟨@ty_i12, @ty_u12⟩, ⟨@ty_a12, @ty_w12⟩⟩, ⟨⟨@ty_z12, @ty_c21⟩, ⟨@ty_i21, @ty_u21⟩⟩⟩, ⟨⟨⟨@ty_a21, @ty_w21⟩, ⟨@ty_z21, @ty_c22⟩⟩, ⟨⟨@ty_i22, @ty_u22⟩, ⟨@ty_a22, @ty_w22⟩⟩⟩⟩
theorem tys3 :
    (((((type_of% @ty_z22) ∧ (type_of% @ty_c23)) ∧ ((type_of% @ty_i23) ∧ (type_of% @ty_u23))) ∧ (((type_of% @ty_a23) ∧ (type_of% @ty_w23)) ∧ ((type_of% @ty_z23) ∧ (type_of% @ty_f23_0)))) ∧ ((((type_of% @ty_c24) ∧ (type_of% @ty_i24)) ∧ ((type_of% @ty_u24) ∧ (type_of% @ty_a24))) ∧ (((type_of% @ty_w24) ∧ (type_of% @ty_z24)) ∧ ((type_of% @ty_f24_0) ∧ (type_of% @ty_c30))))) :=
  ⟨⟨⟨⟨@ty_z22, @ty_c23⟩, ⟨@ty_i23, @ty_u23⟩⟩, ⟨⟨@ty_a23, @ty_w23⟩, ⟨@ty_z23, @ty_f23_0⟩⟩⟩, ⟨⟨⟨@ty_c24, @ty_i24⟩, ⟨@ty_u24, @ty_a24⟩⟩, ⟨⟨@ty_w24, @ty_z24⟩, ⟨@ty_f24_0, @ty_c30⟩⟩⟩⟩
theorem tys4 :
    (((((type_of% @ty_i30) ∧ (type_of% @ty_u30)) ∧ ((type_of% @ty_a30) ∧ (type_of% @ty_w30))) ∧ (((type_of% @ty_z30) ∧ (type_of% @ty_c31)) ∧ ((type_of% @ty_i31) ∧ (type_of% @ty_u31)))) ∧ ((((type_of% @ty_a31) ∧ (type_of% @ty_w31)) ∧ ((type_of% @ty_z31) ∧ (type_of% @ty_f31_0))) ∧ (((type_of% @ty_c32) ∧ (type_of% @ty_i32)) ∧ ((type_of% @ty_u32) ∧ (type_of% @ty_a32))))) :=
  ⟨⟨⟨⟨@ty_i30, @ty_u30⟩, ⟨@ty_a30, @ty_w30⟩⟩, ⟨⟨@ty_z30, @ty_c31⟩, ⟨@ty_i31, @ty_u31⟩⟩⟩, ⟨⟨⟨@ty_a31, @ty_w31⟩, ⟨@ty_z31, @ty_f31_0⟩⟩, ⟨⟨@ty_c32, @ty_i32⟩, ⟨@ty_u32, @ty_a32⟩⟩⟩⟩
theorem tys5 :
    (((((type_of% @ty_w32) ∧ (type_of% @ty_z32)) ∧ ((type_of% @ty_f32_0) ∧ (type_of% @ty_c38))) ∧ (((type_of% @ty_i38) ∧ (type_of% @ty_u38)) ∧ ((type_of% @ty_a38) ∧ (type_of% @ty_w38)))) ∧ ((((type_of% @ty_z38) ∧ (type_of% @ty_c43)) ∧ ((type_of% @ty_i43) ∧ (type_of% @ty_u43))) ∧ (((type_of% @ty_a43) ∧ (type_of% @ty_w43)) ∧ ((type_of% @ty_z43) ∧ (type_of% @ty_c47))))) :=
  ⟨⟨⟨⟨@ty_w32, @ty_z32⟩, ⟨@ty_f32_0, @ty_c38⟩⟩, ⟨⟨@ty_i38, @ty_u38⟩, ⟨@ty_a38, @ty_w38⟩⟩⟩, ⟨⟨⟨@ty_z38, @ty_c43⟩, ⟨@ty_i43, @ty_u43⟩⟩, ⟨⟨@ty_a43, @ty_w43⟩, ⟨@ty_z43, @ty_c47⟩⟩⟩⟩
theorem tys6 :
    (((((type_of% @ty_i47) ∧ (type_of% @ty_u47)) ∧ ((type_of% @ty_a47) ∧ (type_of% @ty_w47))) ∧ (((type_of% @ty_z47) ∧ (type_of% @ty_c55)) ∧ ((type_of% @ty_i55) ∧ (type_of% @ty_u55)))) ∧ ((((type_of% @ty_a55) ∧ (type_of% @ty_w55)) ∧ ((type_of% @ty_z55) ∧ (type_of% @ty_c56))) ∧ (((type_of% @ty_i56) ∧ (type_of% @ty_u56)) ∧ ((type_of% @ty_a56) ∧ (type_of% @ty_w56))))) :=
  ⟨⟨⟨⟨@ty_i47, @ty_u47⟩, ⟨@ty_a47, @ty_w47⟩⟩, ⟨⟨@ty_z47, @ty_c55⟩, ⟨@ty_i55, @ty_u55⟩⟩⟩, ⟨⟨⟨@ty_a55, @ty_w55⟩, ⟨@ty_z55, @ty_c56⟩⟩, ⟨⟨@ty_i56, @ty_u56⟩, ⟨@ty_a56, @ty_w56⟩⟩⟩⟩
theorem tys7 :
    (((((type_of% @ty_z56) ∧ (type_of% @ty_f56_0)) ∧ ((type_of% @ty_c57) ∧ (type_of% @ty_i57))) ∧ (((type_of% @ty_u57) ∧ (type_of% @ty_a57)) ∧ ((type_of% @ty_w57) ∧ (type_of% @ty_z57)))) ∧ ((((type_of% @ty_f57_0) ∧ (type_of% @ty_c60)) ∧ ((type_of% @ty_i60) ∧ (type_of% @ty_u60))) ∧ (((type_of% @ty_a60) ∧ (type_of% @ty_w60)) ∧ ((type_of% @ty_z60) ∧ (type_of% @ty_f60_0))))) :=
  ⟨⟨⟨⟨@ty_z56, @ty_f56_0⟩, ⟨@ty_c57, @ty_i57⟩⟩, ⟨⟨@ty_u57, @ty_a57⟩, ⟨@ty_w57, @ty_z57⟩⟩⟩, ⟨⟨⟨@ty_f57_0, @ty_c60⟩, ⟨@ty_i60, @ty_u60⟩⟩, ⟨⟨@ty_a60, @ty_w60⟩, ⟨@ty_z60, @ty_f60_0⟩⟩⟩⟩
theorem tys8 :
    (((((type_of% @ty_c82) ∧ (type_of% @ty_i82)) ∧ ((type_of% @ty_u82) ∧ (type_of% @ty_a82))) ∧ (((type_of% @ty_w82) ∧ (type_of% @ty_z82)) ∧ ((type_of% @ty_c83) ∧ (type_of% @ty_i83)))) ∧ ((((type_of% @ty_u83) ∧ (type_of% @ty_a83)) ∧ ((type_of% @ty_w83) ∧ (type_of% @ty_z83))) ∧ (((type_of% @ty_c84) ∧ (type_of% @ty_i84)) ∧ ((type_of% @ty_u84) ∧ (type_of% @ty_a84))))) :=
  ⟨⟨⟨⟨@ty_c82, @ty_i82⟩, ⟨@ty_u82, @ty_a82⟩⟩, ⟨⟨@ty_w82, @ty_z82⟩, ⟨@ty_c83, @ty_i83⟩⟩⟩, ⟨⟨⟨@ty_u83, @ty_a83⟩, ⟨@ty_w83, @ty_z83⟩⟩, ⟨⟨@ty_c84, @ty_i84⟩, ⟨@ty_u84, @ty_a84⟩⟩⟩⟩
theorem tys9 :
    (((((type_of% @ty_w84) ∧ (type_of% @ty_z84)) ∧ ((type_of% @ty_f84_0) ∧ (type_of% @ty_f84_1))) ∧ (((type_of% @ty_f84_2) ∧ (type_of% @ty_c85)) ∧ ((type_of% @ty_i85) ∧ (type_of% @ty_u85)))) ∧ ((((type_of% @ty_a85) ∧ (type_of% @ty_w85)) ∧ ((type_of% @ty_z85) ∧ (type_of% @ty_f85_0))) ∧ (((type_of% @ty_f85_1) ∧ (type_of% @ty_f85_2)) ∧ ((type_of% @ty_c87) ∧ (type_of% @ty_i87))))) :=
  ⟨⟨⟨⟨@ty_w84, @ty_z84⟩, ⟨@ty_f84_0, @ty_f84_1⟩⟩, ⟨⟨@ty_f84_2, @ty_c85⟩, ⟨@ty_i85, @ty_u85⟩⟩⟩, ⟨⟨⟨@ty_a85, @ty_w85⟩, ⟨@ty_z85, @ty_f85_0⟩⟩, ⟨⟨@ty_f85_1, @ty_f85_2⟩, ⟨@ty_c87, @ty_i87⟩⟩⟩⟩
theorem tys10 :
    (((((type_of% @ty_u87) ∧ (type_of% @ty_a87)) ∧ ((type_of% @ty_w87) ∧ (type_of% @ty_z87))) ∧ (((type_of% @ty_f87_0) ∧ (type_of% @ty_f87_1)) ∧ ((type_of% @ty_c88) ∧ (type_of% @ty_i88)))) ∧ ((((type_of% @ty_u88) ∧ (type_of% @ty_a88)) ∧ ((type_of% @ty_w88) ∧ (type_of% @ty_z88))) ∧ (((type_of% @ty_f88_0) ∧ (type_of% @ty_f88_1)) ∧ ((type_of% @ty_c97) ∧ (type_of% @ty_i97))))) :=
  ⟨⟨⟨⟨@ty_u87, @ty_a87⟩, ⟨@ty_w87, @ty_z87⟩⟩, ⟨⟨@ty_f87_0, @ty_f87_1⟩, ⟨@ty_c88, @ty_i88⟩⟩⟩, ⟨⟨⟨@ty_u88, @ty_a88⟩, ⟨@ty_w88, @ty_z88⟩⟩, ⟨⟨@ty_f88_0, @ty_f88_1⟩, ⟨@ty_c97, @ty_i97⟩⟩⟩⟩
theorem tys11 :
    (((((type_of% @ty_u97) ∧ (type_of% @ty_a97)) ∧ ((type_of% @ty_w97) ∧ (type_of% @ty_z97))) ∧ (((type_of% @ty_c98) ∧ (type_of% @ty_i98)) ∧ ((type_of% @ty_u98) ∧ (type_of% @ty_a98)))) ∧ ((((type_of% @ty_w98) ∧ (type_of% @ty_z98)) ∧ ((type_of% @ty_c104) ∧ (type_of% @ty_i104))) ∧ (((type_of% @ty_u104) ∧ (type_of% @ty_a104)) ∧ ((type_of% @ty_w104) ∧ (type_of% @ty_z104))))) :=
  ⟨⟨⟨⟨@ty_u97, @ty_a97⟩, ⟨@ty_w97, @ty_z97⟩⟩, ⟨⟨@ty_c98, @ty_i98⟩, ⟨@ty_u98, @ty_a98⟩⟩⟩, ⟨⟨⟨@ty_w98, @ty_z98⟩, ⟨@ty_c104, @ty_i104⟩⟩, ⟨⟨@ty_u104, @ty_a104⟩, ⟨@ty_w104, @ty_z104⟩⟩⟩⟩
theorem tys12 :
    (((((type_of% @ty_c114) ∧ (type_of% @ty_i114)) ∧ ((type_of% @ty_u114) ∧ (type_of% @ty_a114))) ∧ (((type_of% @ty_w114) ∧ (type_of% @ty_z114)) ∧ ((type_of% @ty_f114_0) ∧ (type_of% @ty_f114_1)))) ∧ ((((type_of% @ty_c115) ∧ (type_of% @ty_i115)) ∧ ((type_of% @ty_u115) ∧ (type_of% @ty_a115))) ∧ (((type_of% @ty_w115) ∧ (type_of% @ty_z115)) ∧ ((type_of% @ty_f115_0) ∧ (type_of% @ty_f115_1))))) :=
  ⟨⟨⟨⟨@ty_c114, @ty_i114⟩, ⟨@ty_u114, @ty_a114⟩⟩, ⟨⟨@ty_w114, @ty_z114⟩, ⟨@ty_f114_0, @ty_f114_1⟩⟩⟩, ⟨⟨⟨@ty_c115, @ty_i115⟩, ⟨@ty_u115, @ty_a115⟩⟩, ⟨⟨@ty_w115, @ty_z115⟩, ⟨@ty_f115_0, @ty_f115_1⟩⟩⟩⟩
theorem tys13 :
    (((((type_of% @ty_c120) ∧ (type_of% @ty_i120)) ∧ ((type_of% @ty_u120) ∧ (type_of% @ty_a120))) ∧ (((type_of% @ty_w120) ∧ (type_of% @ty_z120)) ∧ ((type_of% @ty_c130) ∧ (type_of% @ty_i130)))) ∧ ((((type_of% @ty_u130) ∧ (type_of% @ty_a130)) ∧ ((type_of% @ty_w130) ∧ (type_of% @ty_z130))) ∧ (((type_of% @ty_f130_0) ∧ (type_of% @ty_f130_1)) ∧ ((type_of% @ty_c131) ∧ (type_of% @ty_i131))))) :=
  ⟨⟨⟨⟨@ty_c120, @ty_i120⟩, ⟨@ty_u120, @ty_a120⟩⟩, ⟨⟨@ty_w120, @ty_z120⟩, ⟨@ty_c130, @ty_i130⟩⟩⟩, ⟨⟨⟨@ty_u130, @ty_a130⟩, ⟨@ty_w130, @ty_z130⟩⟩, ⟨⟨@ty_f130_0, @ty_f130_1⟩, ⟨@ty_c131, @ty_i131⟩⟩⟩⟩
theorem tys14 :
    (((((type_of% @ty_u131) ∧ (type_of% @ty_a131)) ∧ ((type_of% @ty_w131) ∧ (type_of% @ty_z131))) ∧ (((type_of% @ty_f131_0) ∧ (type_of% @ty_f131_1)) ∧ ((type_of% @ty_c142) ∧ (type_of% @ty_i142)))) ∧ ((((type_of% @ty_u142) ∧ (type_of% @ty_a142)) ∧ ((type_of% @ty_w142) ∧ (type_of% @ty_z142))) ∧ (((type_of% @ty_c144) ∧ (type_of% @ty_i144)) ∧ ((type_of% @ty_u144) ∧ (type_of% @ty_a144))))) :=
  ⟨⟨⟨⟨@ty_u131, @ty_a131⟩, ⟨@ty_w131, @ty_z131⟩⟩, ⟨⟨@ty_f131_0, @ty_f131_1⟩, ⟨@ty_c142, @ty_i142⟩⟩⟩, ⟨⟨⟨@ty_u142, @ty_a142⟩, ⟨@ty_w142, @ty_z142⟩⟩, ⟨⟨@ty_c144, @ty_i144⟩, ⟨@ty_u144, @ty_a144⟩⟩⟩⟩
theorem tys15 :
    (((((type_of% @ty_w144) ∧ (type_of% @ty_z144)) ∧ ((type_of% @ty_c145) ∧ (type_of% @ty_i145))) ∧ (((type_of% @ty_u145) ∧ (type_of% @ty_a145)) ∧ ((type_of% @ty_w145) ∧ (type_of% @ty_z145)))) ∧ ((((type_of% @ty_c153) ∧ (type_of% @ty_i153)) ∧ ((type_of% @ty_u153) ∧ (type_of% @ty_a153))) ∧ (((type_of% @ty_w153) ∧ (type_of% @ty_z153)) ∧ ((type_of% @Try.underlying2) ∧ (type_of% @Try.underlying3))))) :=
  ⟨⟨⟨⟨@ty_w144, @ty_z144⟩, ⟨@ty_c145, @ty_i145⟩⟩, ⟨⟨@ty_u145, @ty_a145⟩, ⟨@ty_w145, @ty_z145⟩⟩⟩, ⟨⟨⟨@ty_c153, @ty_i153⟩, ⟨@ty_u153, @ty_a153⟩⟩, ⟨⟨@ty_w153, @ty_z153⟩, ⟨@Try.underlying2, @Try.underlying3⟩⟩⟩⟩
theorem tys16 :
    (((((type_of% @Try.underlying4) ∧ (type_of% @Try.underlying5)) ∧ ((type_of% @Try.underlying9) ∧ (type_of% @Try.underlying12))) ∧ (((type_of% @Try.underlying21) ∧ (type_of% @Try.underlying22)) ∧ ((type_of% @Try.underlying23) ∧ (type_of% @Try.underlying24)))) ∧ ((((type_of% @Try.underlying30) ∧ (type_of% @Try.underlying31)) ∧ ((type_of% @Try.underlying32) ∧ (type_of% @Try.underlying38))) ∧ (((type_of% @Try.underlying43) ∧ (type_of% @Try.underlying47)) ∧ ((type_of% @Try.underlying55) ∧ (type_of% @Try.underlying56))))) :=
  ⟨⟨⟨⟨@Try.underlying4, @Try.underlying5⟩, ⟨@Try.underlying9, @Try.underlying12⟩⟩, ⟨⟨@Try.underlying21, @Try.underlying22⟩, ⟨@Try.underlying23, @Try.underlying24⟩⟩⟩, ⟨⟨⟨@Try.underlying30, @Try.underlying31⟩, ⟨@Try.underlying32, @Try.underlying38⟩⟩, ⟨⟨@Try.underlying43, @Try.underlying47⟩, ⟨@Try.underlying55, @Try.underlying56⟩⟩⟩⟩
theorem tys17 :
    (((((type_of% @Try.underlying57) ∧ (type_of% @Try.underlying60)) ∧ ((type_of% @Try.underlying82) ∧ (type_of% @Try.underlying83))) ∧ (((type_of% @Try.underlying84) ∧ (type_of% @Try.underlying85)) ∧ ((type_of% @Try.underlying87) ∧ (type_of% @Try.underlying88)))) ∧ ((((type_of% @Try.underlying97) ∧ (type_of% @Try.underlying98)) ∧ ((type_of% @Try.underlying104) ∧ (type_of% @Try.underlying114))) ∧ (((type_of% @Try.underlying115) ∧ (type_of% @Try.underlying120)) ∧ ((type_of% @Try.underlying130) ∧ (type_of% @Try.underlying131))))) :=
  ⟨⟨⟨⟨@Try.underlying57, @Try.underlying60⟩, ⟨@Try.underlying82, @Try.underlying83⟩⟩, ⟨⟨@Try.underlying84, @Try.underlying85⟩, ⟨@Try.underlying87, @Try.underlying88⟩⟩⟩, ⟨⟨⟨@Try.underlying97, @Try.underlying98⟩, ⟨@Try.underlying104, @Try.underlying114⟩⟩, ⟨⟨@Try.underlying115, @Try.underlying120⟩, ⟨@Try.underlying130, @Try.underlying131⟩⟩⟩⟩
theorem tys18 :
    (((type_of% @Try.underlying142) ∧ (type_of% @Try.underlying144)) ∧ ((type_of% @Try.underlying145) ∧ (type_of% @Try.underlying153))) :=
  ⟨⟨@Try.underlying142, @Try.underlying144⟩, ⟨@Try.underlying145, @Try.underlying153⟩⟩
end Go.Proofs.Ytphmkhaboghagaa
/-
  Ordinals: the sizes that the laws count.
-/
namespace Go.Proofs.Ytphmkhaboghagaa
open Go K Od
set_option linter.unusedSimpArgs false
set_option linter.unusedVariables false
set_option maxHeartbeats 400000

theorem w64_id {x : Int} (h1 : -9223372036854775808 ≤ x) (h2 : x ≤ 9223372036854775807) : IntKind.i64.wrap x = x := by
  show (let m := x % (2 ^ 64 : Int); if true && m ≥ (2 ^ 63 : Int) then m - (2 ^ 64 : Int) else m) = x
  simp only [Bool.true_and, decide_eq_true_eq]
  omega

/-- All lists are as long as a list may be. -/
def fit : Od → Prop
  | .nil => True
  | .cons e c r => r.len + 1 ≤ maxLen ∧ fit e ∧ fit r
theorem fit_len : ∀ {a : Od}, fit a → a.len ≤ maxLen
  | .nil, _ => by simp [len]
  | .cons e c r, h => h.1
theorem fit_app : ∀ {d r : Od}, fit (d.app r) → fit r
  | .nil, r, h => h
  | .cons e c d, r, h => fit_app (d := d) h.2.2
theorem maxLen_eq : maxLen = 9223372036854775807 := by decide

theorem szOrdinal_of {a : Od} {l r : Int} (hr : r < 0 → r = -1) (h : Ct Try.prog 57 [.sl false (elems a), .int .i64 l] [] (.int .i64 r) []) :
    Ct Try.prog 17 [.agg [.sl false (elems a)], .int .i64 l] [] (.int .i64 r) [] := by
  refine Ct.by_ hmix [] Try.func17 rfl ?_
  simp only [run0, run1, run2, run3, run4, run5, run6, run7, run8, run9, run10, run11, run12, run13, run14, run15, run16, run17, run18, run19, run20, run21, run22, reduceCtorEq, Nat.reduceEqDiff, Nat.reduceAdd, Nat.reduceSub, Nat.reduceLeDiff, indexAddrA, indexRefA, appendA, strA, Nat.reduceMul, Nat.zero_mul, Nat.reduceMod, Int.reduceEq, Int.reduceLT, Int.reduceLE, Nat.reduceLT, Nat.lt_irrefl, Nat.reduceBEq, tys0, tys1, tys2, tys3, tys4, tys5, tys6, tys7, tys8, tys9, tys10, tys11, tys12, tys13, tys14, tys15, tys16, tys17, tys18, Try.ntmps17, Try.results17]
  refine RunL.callp rfl rfl ok_f57 (h) (by first | rfl | simp only [pureL, pureB, Bool.and_self, Bool.and_true, Bool.true_and, Od.elems_pure, Od.pay_pure, Od.av_pure]) rfl ?_
  simp only [run0, run1, run2, run3, run4, run5, run6, run7, run8, run9, run10, run11, run12, run13, run14, run15, run16, run17, run18, run19, run20, run21, run22, reduceCtorEq, Nat.reduceEqDiff, Nat.reduceAdd, Nat.reduceSub, Nat.reduceLeDiff, indexAddrA, indexRefA, appendA, strA, Nat.reduceMul, Nat.zero_mul, Nat.reduceMod, Int.reduceEq, Int.reduceLT, Int.reduceLE, Nat.reduceLT, Nat.lt_irrefl, Nat.reduceBEq, tys0, tys1, tys2, tys3, tys4, tys5, tys6, tys7, tys8, tys9, tys10, tys11, tys12, tys13, tys14, tys15, tys16, tys17, tys18, Try.ntmps17, Try.results17]
  refine Wc.split (fun h1 => ?_) (fun h1 => ?_) <;> simp only [run0, run1, run2, run3, run4, run5, run6, run7, run8, run9, run10, run11, run12, run13, run14, run15, run16, run17, run18, run19, run20, run21, run22, reduceCtorEq, Nat.reduceEqDiff, Nat.reduceAdd, Nat.reduceSub, Nat.reduceLeDiff, indexAddrA, indexRefA, appendA, strA, Nat.reduceMul, Nat.zero_mul, Nat.reduceMod, Int.reduceEq, Int.reduceLT, Int.reduceLE, Nat.reduceLT, Nat.lt_irrefl, Nat.reduceBEq, tys0, tys1, tys2, tys3, tys4, tys5, tys6, tys7, tys8, tys9, tys10, tys11, tys12, tys13, tys14, tys15, tys16, tys17, tys18, Try.ntmps17, Try.results17, h1] <;> exact Fin.eq (by simp at h1; first | rfl | (rw [hr h1])) rfl
theorem szOrdinalTerm_of {a : Od} {c l r : Int} (hr : r < 0 → r = -1) (h : Ct Try.prog 57 [.sl false (elems a), .int .i64 l] [] (.int .i64 r) []) :
    Ct Try.prog 94 [.agg (.sl false (elems a) :: pay c), .int .i64 l] [] (.int .i64 r) [] := by
  refine Ct.by_ hmix [] Try.func94 rfl ?_
  simp only [run0, run1, run2, run3, run4, run5, run6, run7, run8, run9, run10, run11, run12, run13, run14, run15, run16, run17, run18, run19, run20, run21, run22, reduceCtorEq, Nat.reduceEqDiff, Nat.reduceAdd, Nat.reduceSub, Nat.reduceLeDiff, indexAddrA, indexRefA, appendA, strA, Nat.reduceMul, Nat.zero_mul, Nat.reduceMod, Int.reduceEq, Int.reduceLT, Int.reduceLE, Nat.reduceLT, Nat.lt_irrefl, Nat.reduceBEq, tys0, tys1, tys2, tys3, tys4, tys5, tys6, tys7, tys8, tys9, tys10, tys11, tys12, tys13, tys14, tys15, tys16, tys17, tys18, Try.ntmps94, Try.results94, pay]
  refine RunL.callp rfl rfl ok_f17 (szOrdinal_of hr h) (by first | rfl | simp only [pureL, pureB, Bool.and_self, Bool.and_true, Bool.true_and, Od.elems_pure, Od.pay_pure, Od.av_pure]) rfl ?_
  simp only [run0, run1, run2, run3, run4, run5, run6, run7, run8, run9, run10, run11, run12, run13, run14, run15, run16, run17, run18, run19, run20, run21, run22, reduceCtorEq, Nat.reduceEqDiff, Nat.reduceAdd, Nat.reduceSub, Nat.reduceLeDiff, indexAddrA, indexRefA, appendA, strA, Nat.reduceMul, Nat.zero_mul, Nat.reduceMod, Int.reduceEq, Int.reduceLT, Int.reduceLE, Nat.reduceLT, Nat.lt_irrefl, Nat.reduceBEq, tys0, tys1, tys2, tys3, tys4, tys5, tys6, tys7, tys8, tys9, tys10, tys11, tys12, tys13, tys14, tys15, tys16, tys17, tys18, Try.ntmps94, Try.results94]
  refine Wc.split (fun h1 => ?_) (fun h1 => ?_) <;> simp only [run0, run1, run2, run3, run4, run5, run6, run7, run8, run9, run10, run11, run12, run13, run14, run15, run16, run17, run18, run19, run20, run21, run22, reduceCtorEq, Nat.reduceEqDiff, Nat.reduceAdd, Nat.reduceSub, Nat.reduceLeDiff, indexAddrA, indexRefA, appendA, strA, Nat.reduceMul, Nat.zero_mul, Nat.reduceMod, Int.reduceEq, Int.reduceLT, Int.reduceLE, Nat.reduceLT, Nat.lt_irrefl, Nat.reduceBEq, tys0, tys1, tys2, tys3, tys4, tys5, tys6, tys7, tys8, tys9, tys10, tys11, tys12, tys13, tys14, tys15, tys16, tys17, tys18, Try.ntmps94, Try.results94, h1] <;> exact Fin.eq (by simp at h1; first | rfl | (rw [hr h1])) rfl

def szR (n : Nat) (l : Int) : Int := if (n : Int) ≤ l then l - n else -1
theorem szR_spec (n : Nat) (l : Int) : ((n : Int) ≤ l ∧ szR n l = l - n) ∨ (l < n ∧ szR n l = -1) := by
  unfold szR
  by_cases h : (n : Int) ≤ l
  · exact .inl ⟨h, by rw [if_pos h]⟩
  · exact .inr ⟨by omega, by rw [if_neg h]⟩
theorem szR_neg {n : Nat} {l : Int} (h : szR n l < 0) : szR n l = -1 := by
  unfold szR at *; split at h <;> simp_all <;> omega

theorem szTermS_ok (a : Od) (l : Int) (hf : fit a) (h0 : 0 ≤ l) (h1 : l ≤ 1048576) : Ct Try.prog 57 [.sl false (elems a), .int .i64 l] [] (.int .i64 (szR a.sz l)) [] := by
  have hl := fit_len hf
  rw [maxLen_eq] at hl
  refine Ct.by_ hmix [] Try.func57 rfl ?_
  have hw : IntKind.i64.wrap (l - (a.len : Int)) = l - a.len := w64_id (by omega) (by omega)
  simp only [run0, run1, run2, run3, run4, run5, run6, run7, run8, run9, run10, run11, run12, run13, run14, run15, run16, run17, run18, run19, run20, run21, run22, reduceCtorEq, Nat.reduceEqDiff, Nat.reduceAdd, Nat.reduceSub, Nat.reduceLeDiff, indexAddrA, indexRefA, appendA, strA, Nat.reduceMul, Nat.zero_mul, Nat.reduceMod, Int.reduceEq, Int.reduceLT, Int.reduceLE, Nat.reduceLT, Nat.lt_irrefl, Nat.reduceBEq, tys0, tys1, tys2, tys3, tys4, tys5, tys6, tys7, tys8, tys9, tys10, tys11, tys12, tys13, tys14, tys15, tys16, tys17, tys18, Try.ntmps57, Try.results57, elems_length, hw]
  refine Wc.split (fun hneg => ?_) (fun hneg => ?_) <;> simp only [run0, run1, run2, run3, run4, run5, run6, run7, run8, run9, run10, run11, run12, run13, run14, run15, run16, run17, run18, run19, run20, run21, run22, reduceCtorEq, Nat.reduceEqDiff, Nat.reduceAdd, Nat.reduceSub, Nat.reduceLeDiff, indexAddrA, indexRefA, appendA, strA, Nat.reduceMul, Nat.zero_mul, Nat.reduceMod, Int.reduceEq, Int.reduceLT, Int.reduceLE, Nat.reduceLT, Nat.lt_irrefl, Nat.reduceBEq, tys0, tys1, tys2, tys3, tys4, tys5, tys6, tys7, tys8, tys9, tys10, tys11, tys12, tys13, tys14, tys15, tys16, tys17, tys18, Try.ntmps57, Try.results57, hneg]
  · simp at hneg
    have := len_le a
    exact Fin.eq (by simp [szR]; omega) rfl
  · simp at hneg
    refine AWp.loop_inv (ι := Od × Od × Int) (fun p => ⟨[.sl false (elems a), .int .i64 p.2.2, .junk, .junk, .int .i64 0, .int .i64 p.1.len, .junk, .junk, .junk, .junk, .junk, .junk, .junk, .junk, .junk, .junk, .junk, .junk, .junk, .junk, .junk, .junk, .junk, .junk, .junk, .junk, .junk], []⟩)
      (fun p => a = p.1.app p.2.1 ∧ 0 ≤ p.2.2 ∧ p.2.2 ≤ 1048576 ∧ szR (p.2.1.sz - p.2.1.len) p.2.2 = szR a.sz l) (fun p => p.2.1.len) (.nil, a, l - a.len)
      ⟨rfl, by simpa using hneg, by simp; omega, by simp [szR]; have := len_le a; split <;> split <;> omega⟩ ⟨by repeat constructor, rfl⟩ ?_
    rintro ⟨d, r, l'⟩ ⟨ha, h2, h3, h4⟩
    refine W.sound hmix (E := []) ?_
    simp only at ha h2 h3 h4
    have hda : d.len + r.len = a.len := by rw [ha, len_app]
    cases r with
    | nil =>
      have e1 : ¬ ((d.len : Int) < (a.len : Int)) := by simp [len] at hda; omega
      simp only [run0, run1, run2, run3, run4, run5, run6, run7, run8, run9, run10, run11, run12, run13, run14, run15, run16, run17, run18, run19, run20, run21, run22, reduceCtorEq, Nat.reduceEqDiff, Nat.reduceAdd, Nat.reduceSub, Nat.reduceLeDiff, indexAddrA, indexRefA, appendA, strA, Nat.reduceMul, Nat.zero_mul, Nat.reduceMod, Int.reduceEq, Int.reduceLT, Int.reduceLE, Nat.reduceLT, Nat.lt_irrefl, Nat.reduceBEq, tys0, tys1, tys2, tys3, tys4, tys5, tys6, tys7, tys8, tys9, tys10, tys11, tys12, tys13, tys14, tys15, tys16, tys17, tys18, Try.ntmps57, Try.results57, elems_length, e1]
      refine Fin.eq ?_ rfl
      rw [← h4]
      simp [szR, sz, len]; omega
    | cons e c r =>
      simp only [len] at hda
      have e1 : (d.len : Int) < (a.len : Int) := by omega
      have e2 : (elems a)[d.len]? = some (.agg (.sl false (elems e) :: pay c)) := by rw [ha]; exact elems_get d e c r
      have hfe : fit e := by rw [ha] at hf; exact (fit_app hf).2.1
      have hlt : e.sz < a.sz := by rw [ha, sz_app]; simp only [sz]; omega
      have hlr := len_le r
      have e5 : IntKind.i64.wrap ((d.len : Int) + 1) = ((d.app (cons e c nil)).len : Int) := by
        rw [w64_id (by omega) (by omega), len_app]; simp [len]
      have f1 : szR e.sz l' < 0 → szR a.sz l = -1 := by
        intro h6
        rw [← h4]
        have s1 := szR_spec e.sz l'
        have s2 := szR_spec ((e.cons c r).sz - (e.cons c r).len) l'
        simp only [sz, len] at s2 ⊢
        omega
      have f2 : 0 ≤ szR e.sz l' → szR e.sz l' ≤ 1048576 ∧ szR (r.sz - r.len) (szR e.sz l') = szR a.sz l := by
        intro h6
        rw [← h4]
        have s1 := szR_spec e.sz l'
        have s2 := szR_spec ((e.cons c r).sz - (e.cons c r).len) l'
        have s3 := szR_spec (r.sz - r.len) (szR e.sz l')
        simp only [sz, len] at s2 ⊢
        omega
      simp only [run0, run1, run2, run3, run4, run5, run6, run7, run8, run9, run10, run11, run12, run13, run14, run15, run16, run17, run18, run19, run20, run21, run22, reduceCtorEq, Nat.reduceEqDiff, Nat.reduceAdd, Nat.reduceSub, Nat.reduceLeDiff, indexAddrA, indexRefA, appendA, strA, Nat.reduceMul, Nat.zero_mul, Nat.reduceMod, Int.reduceEq, Int.reduceLT, Int.reduceLE, Nat.reduceLT, Nat.lt_irrefl, Nat.reduceBEq, tys0, tys1, tys2, tys3, tys4, tys5, tys6, tys7, tys8, tys9, tys10, tys11, tys12, tys13, tys14, tys15, tys16, tys17, tys18, Try.ntmps57, Try.results57, elems_length, e1, e2, Int.toNat_natCast, Int.natCast_nonneg, pay]
      refine RunL.callp rfl rfl ok_f94 (szOrdinalTerm_of (c := c) szR_neg (szTermS_ok e l' hfe h2 h3)) (by first | rfl | simp only [pureL, pureB, Bool.and_self, Bool.and_true, Bool.true_and, Od.elems_pure, Od.pay_pure, Od.av_pure]) rfl ?_
      simp only [run0, run1, run2, run3, run4, run5, run6, run7, run8, run9, run10, run11, run12, run13, run14, run15, run16, run17, run18, run19, run20, run21, run22, reduceCtorEq, Nat.reduceEqDiff, Nat.reduceAdd, Nat.reduceSub, Nat.reduceLeDiff, indexAddrA, indexRefA, appendA, strA, Nat.reduceMul, Nat.zero_mul, Nat.reduceMod, Int.reduceEq, Int.reduceLT, Int.reduceLE, Nat.reduceLT, Nat.lt_irrefl, Nat.reduceBEq, tys0, tys1, tys2, tys3, tys4, tys5, tys6, tys7, tys8, tys9, tys10, tys11, tys12, tys13, tys14, tys15, tys16, tys17, tys18, Try.ntmps57, Try.results57]
      refine Wc.split (fun h6 => ?_) (fun h6 => ?_) <;> simp only [run0, run1, run2, run3, run4, run5, run6, run7, run8, run9, run10, run11, run12, run13, run14, run15, run16, run17, run18, run19, run20, run21, run22, reduceCtorEq, Nat.reduceEqDiff, Nat.reduceAdd, Nat.reduceSub, Nat.reduceLeDiff, indexAddrA, indexRefA, appendA, strA, Nat.reduceMul, Nat.zero_mul, Nat.reduceMod, Int.reduceEq, Int.reduceLT, Int.reduceLE, Nat.reduceLT, Nat.lt_irrefl, Nat.reduceBEq, tys0, tys1, tys2, tys3, tys4, tys5, tys6, tys7, tys8, tys9, tys10, tys11, tys12, tys13, tys14, tys15, tys16, tys17, tys18, Try.ntmps57, Try.results57, h6, e5] <;> simp at h6
      · exact Fin.eq (by rw [f1 h6]) rfl
      · exact ⟨(d.app (cons e c nil), r, szR e.sz l'), ⟨by rw [app_assoc]; exact ha, h6, (f2 h6).1, (f2 h6).2⟩, by simp [len], by repeat constructor⟩
termination_by a.sz

end Go.Proofs.Ytphmkhaboghagaa
/-
  Ordinals: the laws' copies.
-/
namespace Go.Proofs.Ytphmkhaboghagaa
open Go K Od
set_option linter.unusedSimpArgs false
set_option linter.unusedVariables false
set_option maxHeartbeats 400000

/-- Rows of a call's own, that are the tree 'a'. -/
def Own (M : List AObj) (a : Od) (x : AV) : Prop := ∃ S, OwnR M 88 2 a x S ∧ S.Nodup ∧ M.all okSO = true

theorem nodup_add {S : List Nat} (k : Nat) (h : S.Nodup) : (S.map (· + k)).Nodup := by
  unfold List.Nodup at *
  rw [List.pairwise_map]
  exact h.imp fun h1 h2 => h1 (by omega)

theorem toOrdinal_of {a : Od} (h : ∃ x M, Ct Try.prog 62 [.sl false (elems a)] [] x M ∧ Own M a x) :
    ∃ x M, Ct Try.prog 19 [.agg [.sl false (elems a)]] [] (.agg [x]) M ∧ Own M a x := by
  obtain ⟨x, M, hc, S, ho, hn, hM⟩ := h
  rcases ho.shape with rfl | ⟨id, g, n, rfl⟩
  · refine ⟨nilV, ?_⟩
    apply ex1
    · apply Ct.by_ hmix [] Try.func19 rfl
      simp only [run0, run1, run2, run3, run4, run5, run6, run7, run8, run9, run10, run11, run12, run13, run14, run15, run16, run17, run18, run19, run20, run21, run22, reduceCtorEq, Nat.reduceEqDiff, Nat.reduceAdd, Nat.reduceSub, Nat.reduceLeDiff, indexAddrA, indexRefA, appendA, strA, Nat.reduceMul, Nat.zero_mul, Nat.reduceMod, Int.reduceEq, Int.reduceLT, Int.reduceLE, Nat.reduceLT, Nat.lt_irrefl, Nat.reduceBEq, tys0, tys1, tys2, tys3, tys4, tys5, tys6, tys7, tys8, tys9, tys10, tys11, tys12, tys13, tys14, tys15, tys16, tys17, tys18, Try.ntmps19, Try.results19]
      refine RunL.callgp rfl rfl ok_f62 rfl hc (by simp only [pureL, pureB, elems_pure, Bool.and_self]) rfl ?_
      simp only [run0, run1, run2, run3, run4, run5, run6, run7, run8, run9, run10, run11, run12, run13, run14, run15, run16, run17, run18, run19, run20, run21, run22, reduceCtorEq, Nat.reduceEqDiff, Nat.reduceAdd, Nat.reduceSub, Nat.reduceLeDiff, indexAddrA, indexRefA, appendA, strA, Nat.reduceMul, Nat.zero_mul, Nat.reduceMod, Int.reduceEq, Int.reduceLT, Int.reduceLE, Nat.reduceLT, Nat.lt_irrefl, Nat.reduceBEq, tys0, tys1, tys2, tys3, tys4, tys5, tys6, tys7, tys8, tys9, tys10, tys11, tys12, tys13, tys14, tys15, tys16, tys17, tys18, Try.ntmps19, Try.results19, nilV, shA, shL]
      exact Fin.keep (S.map (· + 3)) rfl rfl
    · exact ⟨S.map (· + 3), (OwnR.sh (k := 3) (fun id => by simp) ho).keep fun _ h => h, nodup_add 3 hn, keepS_okSO _ _⟩
  · refine ⟨.ref (id + 3) [] g n, ?_⟩
    apply ex1
    · apply Ct.by_ hmix [] Try.func19 rfl
      simp only [run0, run1, run2, run3, run4, run5, run6, run7, run8, run9, run10, run11, run12, run13, run14, run15, run16, run17, run18, run19, run20, run21, run22, reduceCtorEq, Nat.reduceEqDiff, Nat.reduceAdd, Nat.reduceSub, Nat.reduceLeDiff, indexAddrA, indexRefA, appendA, strA, Nat.reduceMul, Nat.zero_mul, Nat.reduceMod, Int.reduceEq, Int.reduceLT, Int.reduceLE, Nat.reduceLT, Nat.lt_irrefl, Nat.reduceBEq, tys0, tys1, tys2, tys3, tys4, tys5, tys6, tys7, tys8, tys9, tys10, tys11, tys12, tys13, tys14, tys15, tys16, tys17, tys18, Try.ntmps19, Try.results19]
      refine RunL.callgp rfl rfl ok_f62 rfl hc (by simp only [pureL, pureB, elems_pure, Bool.and_self]) rfl ?_
      simp only [run0, run1, run2, run3, run4, run5, run6, run7, run8, run9, run10, run11, run12, run13, run14, run15, run16, run17, run18, run19, run20, run21, run22, reduceCtorEq, Nat.reduceEqDiff, Nat.reduceAdd, Nat.reduceSub, Nat.reduceLeDiff, indexAddrA, indexRefA, appendA, strA, Nat.reduceMul, Nat.zero_mul, Nat.reduceMod, Int.reduceEq, Int.reduceLT, Int.reduceLE, Nat.reduceLT, Nat.lt_irrefl, Nat.reduceBEq, tys0, tys1, tys2, tys3, tys4, tys5, tys6, tys7, tys8, tys9, tys10, tys11, tys12, tys13, tys14, tys15, tys16, tys17, tys18, Try.ntmps19, Try.results19, shA, shL]
      exact Fin.keep (S.map (· + 3)) rfl rfl
    · exact ⟨S.map (· + 3), (OwnR.sh (k := 3) (fun id => by simp) ho).keep fun _ h => h, nodup_add 3 hn, keepS_okSO _ _⟩

theorem toOrdinalTerm_of {a : Od} {c : Int} (h : ∃ x M, Ct Try.prog 62 [.sl false (elems a)] [] x M ∧ Own M a x) :
    ∃ x M, Ct Try.prog 98 [.agg (.sl false (elems a) :: pay c)] [] (.agg (x :: pay c)) M ∧ Own M a x := by
  obtain ⟨x, M, hc, S, ho, hn, hM⟩ := toOrdinal_of h
  rcases ho.shape with rfl | ⟨id, g, n, rfl⟩
  · refine ⟨nilV, ?_⟩
    apply ex1
    · apply Ct.by_ hmix [] Try.func98 rfl
      simp only [run0, run1, run2, run3, run4, run5, run6, run7, run8, run9, run10, run11, run12, run13, run14, run15, run16, run17, run18, run19, run20, run21, run22, reduceCtorEq, Nat.reduceEqDiff, Nat.reduceAdd, Nat.reduceSub, Nat.reduceLeDiff, indexAddrA, indexRefA, appendA, strA, Nat.reduceMul, Nat.zero_mul, Nat.reduceMod, Int.reduceEq, Int.reduceLT, Int.reduceLE, Nat.reduceLT, Nat.lt_irrefl, Nat.reduceBEq, tys0, tys1, tys2, tys3, tys4, tys5, tys6, tys7, tys8, tys9, tys10, tys11, tys12, tys13, tys14, tys15, tys16, tys17, tys18, Try.ntmps98, Try.results98, pay]
      refine RunL.callgp rfl rfl ok_f19 rfl hc (by simp only [pureL, pureB, elems_pure, Bool.and_self]) rfl ?_
      simp only [run0, run1, run2, run3, run4, run5, run6, run7, run8, run9, run10, run11, run12, run13, run14, run15, run16, run17, run18, run19, run20, run21, run22, reduceCtorEq, Nat.reduceEqDiff, Nat.reduceAdd, Nat.reduceSub, Nat.reduceLeDiff, indexAddrA, indexRefA, appendA, strA, Nat.reduceMul, Nat.zero_mul, Nat.reduceMod, Int.reduceEq, Int.reduceLT, Int.reduceLE, Nat.reduceLT, Nat.lt_irrefl, Nat.reduceBEq, tys0, tys1, tys2, tys3, tys4, tys5, tys6, tys7, tys8, tys9, tys10, tys11, tys12, tys13, tys14, tys15, tys16, tys17, tys18, Try.ntmps98, Try.results98, nilV, shA, shL]
      exact Fin.keep (S.map (· + 3)) rfl rfl
    · exact ⟨S.map (· + 3), (OwnR.sh (k := 3) (fun id => by simp) ho).keep fun _ h => h, nodup_add 3 hn, keepS_okSO _ _⟩
  · refine ⟨.ref (id + 3) [] g n, ?_⟩
    apply ex1
    · apply Ct.by_ hmix [] Try.func98 rfl
      simp only [run0, run1, run2, run3, run4, run5, run6, run7, run8, run9, run10, run11, run12, run13, run14, run15, run16, run17, run18, run19, run20, run21, run22, reduceCtorEq, Nat.reduceEqDiff, Nat.reduceAdd, Nat.reduceSub, Nat.reduceLeDiff, indexAddrA, indexRefA, appendA, strA, Nat.reduceMul, Nat.zero_mul, Nat.reduceMod, Int.reduceEq, Int.reduceLT, Int.reduceLE, Nat.reduceLT, Nat.lt_irrefl, Nat.reduceBEq, tys0, tys1, tys2, tys3, tys4, tys5, tys6, tys7, tys8, tys9, tys10, tys11, tys12, tys13, tys14, tys15, tys16, tys17, tys18, Try.ntmps98, Try.results98, pay]
      refine RunL.callgp rfl rfl ok_f19 rfl hc (by simp only [pureL, pureB, elems_pure, Bool.and_self]) rfl ?_
      simp only [run0, run1, run2, run3, run4, run5, run6, run7, run8, run9, run10, run11, run12, run13, run14, run15, run16, run17, run18, run19, run20, run21, run22, reduceCtorEq, Nat.reduceEqDiff, Nat.reduceAdd, Nat.reduceSub, Nat.reduceLeDiff, indexAddrA, indexRefA, appendA, strA, Nat.reduceMul, Nat.zero_mul, Nat.reduceMod, Int.reduceEq, Int.reduceLT, Int.reduceLE, Nat.reduceLT, Nat.lt_irrefl, Nat.reduceBEq, tys0, tys1, tys2, tys3, tys4, tys5, tys6, tys7, tys8, tys9, tys10, tys11, tys12, tys13, tys14, tys15, tys16, tys17, tys18, Try.ntmps98, Try.results98, shA, shL]
      exact Fin.keep (S.map (· + 3)) rfl rfl
    · exact ⟨S.map (· + 3), (OwnR.sh (k := 3) (fun id => by simp) ho).keep fun _ h => h, nodup_add 3 hn, keepS_okSO _ _⟩

end Go.Proofs.Ytphmkhaboghagaa
/-
  Ordinals: the laws' copies of lists of terms.
-/
namespace Go.Proofs.Ytphmkhaboghagaa
open Go K Od
set_option linter.unusedSimpArgs false
set_option linter.unusedVariables false
set_option maxHeartbeats 400000

structure ToS where
  d : Od
  r : Od
  es : List AV
  X : List AObj
  S : List Nat

def zE : AV := .agg [nilV, .int .i64 0]
theorem zE_c : zE.cells = [.lit (.slice none 0 0), .int .i64 0] := rfl
theorem zE_a : aggB zE = true := rfl
theorem zE_s (off n : Nat) (x : AV) : setE zE off n x = .agg ([.lit (.slice none 0 0), .int .i64 0].take off ++ x.cells ++ [.lit (.slice none 0 0), .int .i64 0].drop (off + n)) := rfl
theorem zE_noOwn (es : List AV) (n : Nat) (h : noOwn es = true) : noOwn (es ++ List.replicate n zE) = true := by
  refine List.all_eq_true.2 fun e he => ?_
  rcases List.mem_append.1 he with he | he
  · exact List.all_eq_true.1 h e he
  · rw [(List.mem_replicate.1 he).2]; rfl
theorem set_next (es : List AV) (n k : Nat) (z y : AV) (h : es.length = k) : (es ++ List.replicate (n + 1) z).set k y = (es ++ [y]) ++ List.replicate n z := by
  subst h
  simp [List.set_append, List.replicate_succ]
theorem get_next (es : List AV) (n k : Nat) (z : AV) (h : es.length = k) : (es ++ List.replicate (n + 1) z)[k]? = some z := by
  subst h
  simp [List.replicate_succ]

theorem toS_ok (a : Od) (hs : a.sz ≤ 1048576) : ∃ x M, Ct Try.prog 62 [.sl false (elems a)] [] x M ∧ Own M a x := by
  have hl := len_le a
  refine Ct.ex hmix [] Try.func62 rfl ?_
  have b0 : (a.len : Int) ≤ 137438953472 := by omega
  simp only [run0, run1, run2, run3, run4, run5, run6, run7, run8, run9, run10, run11, run12, run13, run14, run15, run16, run17, run18, run19, run20, run21, run22, reduceCtorEq, Nat.reduceEqDiff, Nat.reduceAdd, Nat.reduceSub, Nat.reduceLeDiff, indexAddrA, indexRefA, appendA, strA, Nat.reduceMul, Nat.zero_mul, Nat.reduceMod, Int.reduceEq, Int.reduceLT, Int.reduceLE, Nat.reduceLT, Nat.lt_irrefl, Nat.reduceBEq, tys0, tys1, tys2, tys3, tys4, tys5, tys6, tys7, tys8, tys9, tys10, tys11, tys12, tys13, tys14, tys15, tys16, tys17, tys18, Try.ntmps62, Try.results62, elems_length, b0, Int.natCast_nonneg, Int.le_refl, Int.toNat_natCast]
  refine AWp.loop_exK (ι := ToS) (fun p => ⟨[.sl false (elems a), .junk, .junk, .ref 0 [] 0 a.len, .int .i64 p.d.len, .junk, .junk, .junk, .junk, .junk, .junk, .junk, .junk, .junk, .junk, .junk, .junk, .junk, .junk, .junk, .junk, .junk, .junk], .vec 88 2 0 (p.es ++ List.replicate p.r.len zE) :: p.X⟩)
    (fun p => a = p.d.app p.r ∧ OwnE (.vec 88 2 0 (p.es ++ List.replicate p.r.len zE) :: p.X) 88 2 p.d p.es p.S ∧ p.S.Nodup ∧ 0 ∉ p.S) (fun p => p.r.len) ⟨.nil, a, [], [], []⟩ ⟨rfl, ⟨rfl, rfl⟩, by simp, by simp⟩ ⟨by repeat constructor, rfl⟩ ?_
  rintro ⟨d, r, es, X, S⟩ ⟨ha, ho, hn, h0⟩
  simp only at ha ho hn h0
  have hda : d.len + r.len = a.len := by rw [ha, len_app]
  have hel := ho.length
  cases r with
  | nil =>
    left
    have e1 : ¬ ((d.len : Int) < (a.len : Int)) := by simp [len] at hda; omega
    have e2 : a.len = (es ++ List.replicate (len .nil) zE).length := by simp [len] at hda ⊢; omega
    refine ⟨.ref 0 [] 0 a.len, ?_⟩
    apply ex1
    · refine W.sound hmix (E := []) ?_
      simp only [run0, run1, run2, run3, run4, run5, run6, run7, run8, run9, run10, run11, run12, run13, run14, run15, run16, run17, run18, run19, run20, run21, run22, reduceCtorEq, Nat.reduceEqDiff, Nat.reduceAdd, Nat.reduceSub, Nat.reduceLeDiff, indexAddrA, indexRefA, appendA, strA, Nat.reduceMul, Nat.zero_mul, Nat.reduceMod, Int.reduceEq, Int.reduceLT, Int.reduceLE, Nat.reduceLT, Nat.lt_irrefl, Nat.reduceBEq, tys0, tys1, tys2, tys3, tys4, tys5, tys6, tys7, tys8, tys9, tys10, tys11, tys12, tys13, tys14, tys15, tys16, tys17, tys18, Try.ntmps62, Try.results62, elems_length, e1]
      exact Fin.keep (0 :: S) rfl rfl
    · simp only [len, List.replicate_zero, List.append_nil] at ho ⊢
      refine ⟨0 :: S, OwnR.keep (.inr ⟨0, 0, es, S, by rw [hel]; simp [len] at hda; rw [hda], rfl, rfl, ?_⟩) fun _ h => h, List.nodup_cons.2 ⟨h0, hn⟩, keepS_okSO _ _⟩
      rw [ha, app_nil]; exact ho
  | cons e c r =>
    right
    simp only [len] at hda ho ⊢
    have e1 : (d.len : Int) < (a.len : Int) := by omega
    have e2 : (elems a)[d.len]? = some (.agg (.sl false (elems e) :: pay c)) := by rw [ha]; exact elems_get d e c r
    have hlt : e.sz < a.sz := by rw [ha, sz_app]; simp only [sz]; omega
    have e5 : IntKind.i64.wrap ((d.len : Int) + 1) = ((d.app (cons e c nil)).len : Int) := by
      rw [w64_id (by omega) (by omega), len_app]; simp [len]
    obtain ⟨x, M, hc, S1, hx, hn1, hM⟩ := toOrdinalTerm_of (c := c) (toS_ok e (by omega))
    have e6 : (es ++ zE :: List.replicate r.len zE)[d.len]? = some zE := get_next es r.len d.len zE hel
    have e7 : noOwn (es ++ zE :: List.replicate r.len zE) = true := zE_noOwn es (r.len + 1) ho.form.2.1
    have e8 : (es ++ zE :: List.replicate r.len zE).set d.len (.agg [shA (X.length + 1) x, .int .i64 c]) = _ := set_next es r.len d.len zE (.agg [shA (X.length + 1) x, .int .i64 c]) hel
    have e9 : (d.len : Int) < ((a.len : Nat) : Int) := e1
    have hx' : OwnR (.vec 88 2 0 ((es ++ [.agg (shA (X.length + 1) x :: pay c)]) ++ List.replicate r.len zE) :: (X ++ M.map (shO (X.length + 1)))) 88 2 e (shA (X.length + 1) x) (S1.map (· + (X.length + 1))) :=
      OwnR.sh (fun id => by
        rw [show id + (X.length + 1) = (id + X.length) + 1 by omega, List.getElem?_cons_succ, List.getElem?_append_right (by omega), List.getElem?_map]
        congr 2; omega) hx
    have hlt0 := ho.lt
    simp only [List.length_cons] at hlt0
    refine ⟨⟨d.app (cons e c nil), r, es ++ [.agg (shA (X.length + 1) x :: pay c)], X ++ M.map (shO (X.length + 1)), S ++ S1.map (· + (X.length + 1))⟩, ⟨by rw [app_assoc]; exact ha, ?_, ?_, ?_⟩, by simp only []; omega, ?_⟩
    · refine OwnE.app (OwnE.one hx' c) (ho.mono fun id hid g es1 hL => ?_)
      cases id with
      | zero => exact absurd hid h0
      | succ id =>
        simp only [List.getElem?_cons_succ] at hL ⊢
        rw [List.getElem?_append_left (List.getElem?_eq_some_iff.1 hL).1]; exact hL
    · refine List.nodup_append.2 ⟨hn, nodup_add _ hn1, fun u hu v hv => ?_⟩
      have := hlt0 u hu
      simp only [List.mem_map] at hv
      obtain ⟨q, _, rfl⟩ := hv
      omega
    · simp only [List.mem_append, not_or, List.mem_map]
      exact ⟨h0, fun ⟨q, _, hq⟩ => by omega⟩
    · refine W.sound hmix (E := []) ?_
      rcases hx.shape with rfl | ⟨id, g, n, rfl⟩
      · simp only [run0, run1, run2, run3, run4, run5, run6, run7, run8, run9, run10, run11, run12, run13, run14, run15, run16, run17, run18, run19, run20, run21, run22, reduceCtorEq, Nat.reduceEqDiff, Nat.reduceAdd, Nat.reduceSub, Nat.reduceLeDiff, indexAddrA, indexRefA, appendA, strA, Nat.reduceMul, Nat.zero_mul, Nat.reduceMod, Int.reduceEq, Int.reduceLT, Int.reduceLE, Nat.reduceLT, Nat.lt_irrefl, Nat.reduceBEq, tys0, tys1, tys2, tys3, tys4, tys5, tys6, tys7, tys8, tys9, tys10, tys11, tys12, tys13, tys14, tys15, tys16, tys17, tys18, Try.ntmps62, Try.results62, elems_length, e1, e2, pay, Int.toNat_natCast, Int.natCast_nonneg]
        refine RunL.callgp rfl rfl ok_f98 rfl hc (by simp only [pureL, pureB, elems_pure, pay_pure, Bool.and_self]) rfl ?_
        simp only [nilV, shA] at e8
        simp only [run0, run1, run2, run3, run4, run5, run6, run7, run8, run9, run10, run11, run12, run13, run14, run15, run16, run17, run18, run19, run20, run21, run22, reduceCtorEq, Nat.reduceEqDiff, Nat.reduceAdd, Nat.reduceSub, Nat.reduceLeDiff, indexAddrA, indexRefA, appendA, strA, Nat.reduceMul, Nat.zero_mul, Nat.reduceMod, Int.reduceEq, Int.reduceLT, Int.reduceLE, Nat.reduceLT, Nat.lt_irrefl, Nat.reduceBEq, tys0, tys1, tys2, tys3, tys4, tys5, tys6, tys7, tys8, tys9, tys10, tys11, tys12, tys13, tys14, tys15, tys16, tys17, tys18, Try.ntmps62, Try.results62, nilV, shA, shL, pay, e5, e6, e7, e8, zE_c, zE_a, zE_s, Int.toNat_natCast, Int.natCast_nonneg, e1]
        repeat constructor
      · simp only [run0, run1, run2, run3, run4, run5, run6, run7, run8, run9, run10, run11, run12, run13, run14, run15, run16, run17, run18, run19, run20, run21, run22, reduceCtorEq, Nat.reduceEqDiff, Nat.reduceAdd, Nat.reduceSub, Nat.reduceLeDiff, indexAddrA, indexRefA, appendA, strA, Nat.reduceMul, Nat.zero_mul, Nat.reduceMod, Int.reduceEq, Int.reduceLT, Int.reduceLE, Nat.reduceLT, Nat.lt_irrefl, Nat.reduceBEq, tys0, tys1, tys2, tys3, tys4, tys5, tys6, tys7, tys8, tys9, tys10, tys11, tys12, tys13, tys14, tys15, tys16, tys17, tys18, Try.ntmps62, Try.results62, elems_length, e1, e2, pay, Int.toNat_natCast, Int.natCast_nonneg]
        refine RunL.callgp rfl rfl ok_f98 rfl hc (by simp only [pureL, pureB, elems_pure, pay_pure, Bool.and_self]) rfl ?_
        simp only [shA] at e8
        simp only [run0, run1, run2, run3, run4, run5, run6, run7, run8, run9, run10, run11, run12, run13, run14, run15, run16, run17, run18, run19, run20, run21, run22, reduceCtorEq, Nat.reduceEqDiff, Nat.reduceAdd, Nat.reduceSub, Nat.reduceLeDiff, indexAddrA, indexRefA, appendA, strA, Nat.reduceMul, Nat.zero_mul, Nat.reduceMod, Int.reduceEq, Int.reduceLT, Int.reduceLE, Nat.reduceLT, Nat.lt_irrefl, Nat.reduceBEq, tys0, tys1, tys2, tys3, tys4, tys5, tys6, tys7, tys8, tys9, tys10, tys11, tys12, tys13, tys14, tys15, tys16, tys17, tys18, Try.ntmps62, Try.results62, nilV, shA, shL, pay, e5, e6, e7, e8, zE_c, zE_a, zE_s, Int.toNat_natCast, Int.natCast_nonneg, e1]
        repeat constructor
termination_by a.sz

end Go.Proofs.Ytphmkhaboghagaa
/-
  Ordinals: the laws' comparing of two.
-/
namespace Go.Proofs.Ytphmkhaboghagaa
open Go K Od
set_option linter.unusedSimpArgs false
set_option linter.unusedVariables false
set_option maxHeartbeats 400000

theorem eqOrdinal_of {a b : Od} {q : Bool} (h : Ct Try.prog 54 [.sl false (elems a), .sl false (elems b)] [] (.bool q) []) :
    Ct Try.prog 14 [.agg [.sl false (elems a)], .agg [.sl false (elems b)]] [] (.bool q) [] := by
  refine Ct.by_ hmix [] Try.func14 rfl ?_
  simp only [run0, run1, run2, run3, run4, run5, run6, run7, run8, run9, run10, run11, run12, run13, run14, run15, run16, run17, run18, run19, run20, run21, run22, reduceCtorEq, Nat.reduceEqDiff, Nat.reduceAdd, Nat.reduceSub, Nat.reduceLeDiff, indexAddrA, indexRefA, appendA, strA, Nat.reduceMul, Nat.zero_mul, Nat.reduceMod, Int.reduceEq, Int.reduceLT, Int.reduceLE, Nat.reduceLT, Nat.lt_irrefl, Nat.reduceBEq, tys0, tys1, tys2, tys3, tys4, tys5, tys6, tys7, tys8, tys9, tys10, tys11, tys12, tys13, tys14, tys15, tys16, tys17, tys18, Try.ntmps14, Try.results14]
  refine RunL.callp rfl rfl ok_f54 (h) (by first | rfl | simp only [pureL, pureB, Bool.and_self, Bool.and_true, Bool.true_and, Od.elems_pure, Od.pay_pure, Od.av_pure]) rfl ?_
  simp only [run0, run1, run2, run3, run4, run5, run6, run7, run8, run9, run10, run11, run12, run13, run14, run15, run16, run17, run18, run19, run20, run21, run22, reduceCtorEq, Nat.reduceEqDiff, Nat.reduceAdd, Nat.reduceSub, Nat.reduceLeDiff, indexAddrA, indexRefA, appendA, strA, Nat.reduceMul, Nat.zero_mul, Nat.reduceMod, Int.reduceEq, Int.reduceLT, Int.reduceLE, Nat.reduceLT, Nat.lt_irrefl, Nat.reduceBEq, tys0, tys1, tys2, tys3, tys4, tys5, tys6, tys7, tys8, tys9, tys10, tys11, tys12, tys13, tys14, tys15, tys16, tys17, tys18, Try.ntmps14, Try.results14]
  cases q
  · simp only [run0, run1, run2, run3, run4, run5, run6, run7, run8, run9, run10, run11, run12, run13, run14, run15, run16, run17, run18, run19, run20, run21, run22, reduceCtorEq, Nat.reduceEqDiff, Nat.reduceAdd, Nat.reduceSub, Nat.reduceLeDiff, indexAddrA, indexRefA, appendA, strA, Nat.reduceMul, Nat.zero_mul, Nat.reduceMod, Int.reduceEq, Int.reduceLT, Int.reduceLE, Nat.reduceLT, Nat.lt_irrefl, Nat.reduceBEq, tys0, tys1, tys2, tys3, tys4, tys5, tys6, tys7, tys8, tys9, tys10, tys11, tys12, tys13, tys14, tys15, tys16, tys17, tys18, Try.ntmps14, Try.results14]
    exact Fin.eq rfl rfl
  · simp only [run0, run1, run2, run3, run4, run5, run6, run7, run8, run9, run10, run11, run12, run13, run14, run15, run16, run17, run18, run19, run20, run21, run22, reduceCtorEq, Nat.reduceEqDiff, Nat.reduceAdd, Nat.reduceSub, Nat.reduceLeDiff, indexAddrA, indexRefA, appendA, strA, Nat.reduceMul, Nat.zero_mul, Nat.reduceMod, Int.reduceEq, Int.reduceLT, Int.reduceLE, Nat.reduceLT, Nat.lt_irrefl, Nat.reduceBEq, tys0, tys1, tys2, tys3, tys4, tys5, tys6, tys7, tys8, tys9, tys10, tys11, tys12, tys13, tys14, tys15, tys16, tys17, tys18, Try.ntmps14, Try.results14]
    exact Fin.eq rfl rfl
theorem eqOrdinalTerm_of {a b : Od} {c d : Int} {q : Bool} (h : Ct Try.prog 54 [.sl false (elems a), .sl false (elems b)] [] (.bool q) []) :
    Ct Try.prog 93 [.agg (.sl false (elems a) :: pay c), .agg (.sl false (elems b) :: pay d)] [] (.bool (q && (c == d))) [] := by
  refine Ct.by_ hmix [] Try.func93 rfl ?_
  simp only [run0, run1, run2, run3, run4, run5, run6, run7, run8, run9, run10, run11, run12, run13, run14, run15, run16, run17, run18, run19, run20, run21, run22, reduceCtorEq, Nat.reduceEqDiff, Nat.reduceAdd, Nat.reduceSub, Nat.reduceLeDiff, indexAddrA, indexRefA, appendA, strA, Nat.reduceMul, Nat.zero_mul, Nat.reduceMod, Int.reduceEq, Int.reduceLT, Int.reduceLE, Nat.reduceLT, Nat.lt_irrefl, Nat.reduceBEq, tys0, tys1, tys2, tys3, tys4, tys5, tys6, tys7, tys8, tys9, tys10, tys11, tys12, tys13, tys14, tys15, tys16, tys17, tys18, Try.ntmps93, Try.results93, pay]
  refine RunL.callp rfl rfl ok_f14 (eqOrdinal_of h) (by first | rfl | simp only [pureL, pureB, Bool.and_self, Bool.and_true, Bool.true_and, Od.elems_pure, Od.pay_pure, Od.av_pure]) rfl ?_
  simp only [run0, run1, run2, run3, run4, run5, run6, run7, run8, run9, run10, run11, run12, run13, run14, run15, run16, run17, run18, run19, run20, run21, run22, reduceCtorEq, Nat.reduceEqDiff, Nat.reduceAdd, Nat.reduceSub, Nat.reduceLeDiff, indexAddrA, indexRefA, appendA, strA, Nat.reduceMul, Nat.zero_mul, Nat.reduceMod, Int.reduceEq, Int.reduceLT, Int.reduceLE, Nat.reduceLT, Nat.lt_irrefl, Nat.reduceBEq, tys0, tys1, tys2, tys3, tys4, tys5, tys6, tys7, tys8, tys9, tys10, tys11, tys12, tys13, tys14, tys15, tys16, tys17, tys18, Try.ntmps93, Try.results93]
  cases q
  · simp only [run0, run1, run2, run3, run4, run5, run6, run7, run8, run9, run10, run11, run12, run13, run14, run15, run16, run17, run18, run19, run20, run21, run22, reduceCtorEq, Nat.reduceEqDiff, Nat.reduceAdd, Nat.reduceSub, Nat.reduceLeDiff, indexAddrA, indexRefA, appendA, strA, Nat.reduceMul, Nat.zero_mul, Nat.reduceMod, Int.reduceEq, Int.reduceLT, Int.reduceLE, Nat.reduceLT, Nat.lt_irrefl, Nat.reduceBEq, tys0, tys1, tys2, tys3, tys4, tys5, tys6, tys7, tys8, tys9, tys10, tys11, tys12, tys13, tys14, tys15, tys16, tys17, tys18, Try.ntmps93, Try.results93]
    exact Fin.eq rfl rfl
  · simp only [run0, run1, run2, run3, run4, run5, run6, run7, run8, run9, run10, run11, run12, run13, run14, run15, run16, run17, run18, run19, run20, run21, run22, reduceCtorEq, Nat.reduceEqDiff, Nat.reduceAdd, Nat.reduceSub, Nat.reduceLeDiff, indexAddrA, indexRefA, appendA, strA, Nat.reduceMul, Nat.zero_mul, Nat.reduceMod, Int.reduceEq, Int.reduceLT, Int.reduceLE, Nat.reduceLT, Nat.lt_irrefl, Nat.reduceBEq, tys0, tys1, tys2, tys3, tys4, tys5, tys6, tys7, tys8, tys9, tys10, tys11, tys12, tys13, tys14, tys15, tys16, tys17, tys18, Try.ntmps93, Try.results93]
    by_cases hc : c = d
    · subst hc
      simp only [run0, run1, run2, run3, run4, run5, run6, run7, run8, run9, run10, run11, run12, run13, run14, run15, run16, run17, run18, run19, run20, run21, run22, reduceCtorEq, Nat.reduceEqDiff, Nat.reduceAdd, Nat.reduceSub, Nat.reduceLeDiff, indexAddrA, indexRefA, appendA, strA, Nat.reduceMul, Nat.zero_mul, Nat.reduceMod, Int.reduceEq, Int.reduceLT, Int.reduceLE, Nat.reduceLT, Nat.lt_irrefl, Nat.reduceBEq, tys0, tys1, tys2, tys3, tys4, tys5, tys6, tys7, tys8, tys9, tys10, tys11, tys12, tys13, tys14, tys15, tys16, tys17, tys18, Try.ntmps93, Try.results93, bne_self_eq_false]
      exact Fin.eq (by simp) rfl
    · have e1 : (c != d) = true := by simp [hc]
      simp only [run0, run1, run2, run3, run4, run5, run6, run7, run8, run9, run10, run11, run12, run13, run14, run15, run16, run17, run18, run19, run20, run21, run22, reduceCtorEq, Nat.reduceEqDiff, Nat.reduceAdd, Nat.reduceSub, Nat.reduceLeDiff, indexAddrA, indexRefA, appendA, strA, Nat.reduceMul, Nat.zero_mul, Nat.reduceMod, Int.reduceEq, Int.reduceLT, Int.reduceLE, Nat.reduceLT, Nat.lt_irrefl, Nat.reduceBEq, tys0, tys1, tys2, tys3, tys4, tys5, tys6, tys7, tys8, tys9, tys10, tys11, tys12, tys13, tys14, tys15, tys16, tys17, tys18, Try.ntmps93, Try.results93, e1]
      exact Fin.eq (by simp [hc]) rfl

theorem eqTermS_ok (a b : Od) (ha : a.sz ≤ 1048576) : Ct Try.prog 54 [.sl false (elems a), .sl false (elems b)] [] (.bool (eqT a b)) [] := by
  have hal := len_le a
  refine Ct.by_ hmix [] Try.func54 rfl ?_
  by_cases hl : a.len = b.len
  case neg =>
    have e0 : ((a.len : Int) != (b.len : Int)) = true := by simp; omega
    have e1 : eqT a b = false := by
      cases h : eqT a b
      · rfl
      · exact absurd (eqT_len h) hl
    simp only [run0, run1, run2, run3, run4, run5, run6, run7, run8, run9, run10, run11, run12, run13, run14, run15, run16, run17, run18, run19, run20, run21, run22, reduceCtorEq, Nat.reduceEqDiff, Nat.reduceAdd, Nat.reduceSub, Nat.reduceLeDiff, indexAddrA, indexRefA, appendA, strA, Nat.reduceMul, Nat.zero_mul, Nat.reduceMod, Int.reduceEq, Int.reduceLT, Int.reduceLE, Nat.reduceLT, Nat.lt_irrefl, Nat.reduceBEq, tys0, tys1, tys2, tys3, tys4, tys5, tys6, tys7, tys8, tys9, tys10, tys11, tys12, tys13, tys14, tys15, tys16, tys17, tys18, Try.ntmps54, Try.results54, elems_length, e0]
    exact Fin.eq (by rw [e1]) rfl
  have e0 : ((a.len : Int) != (b.len : Int)) = false := by simp; omega
  simp only [run0, run1, run2, run3, run4, run5, run6, run7, run8, run9, run10, run11, run12, run13, run14, run15, run16, run17, run18, run19, run20, run21, run22, reduceCtorEq, Nat.reduceEqDiff, Nat.reduceAdd, Nat.reduceSub, Nat.reduceLeDiff, indexAddrA, indexRefA, appendA, strA, Nat.reduceMul, Nat.zero_mul, Nat.reduceMod, Int.reduceEq, Int.reduceLT, Int.reduceLE, Nat.reduceLT, Nat.lt_irrefl, Nat.reduceBEq, tys0, tys1, tys2, tys3, tys4, tys5, tys6, tys7, tys8, tys9, tys10, tys11, tys12, tys13, tys14, tys15, tys16, tys17, tys18, Try.ntmps54, Try.results54, elems_length, e0]
  refine AWp.loop_inv (ι := (Od × Od) × (Od × Od)) (fun p => ⟨[.sl false (elems a), .sl false (elems b), .junk, .junk, .bool false, .int .i64 p.1.1.len, .junk, .junk, .junk, .junk, .junk, .junk, .junk, .junk, .junk, .junk, .junk, .junk, .junk, .junk, .junk, .junk, .junk, .junk, .junk, .junk, .junk], []⟩)
    (fun p => a = p.1.1.app p.1.2 ∧ b = p.2.1.app p.2.2 ∧ p.1.1.len = p.2.1.len ∧ eqT p.1.2 p.2.2 = eqT a b) (fun p => p.1.2.len) ((.nil, a), (.nil, b)) ⟨rfl, rfl, rfl, rfl⟩ ⟨by repeat constructor, rfl⟩ ?_
  rintro ⟨⟨d, r⟩, ⟨d', r'⟩⟩ ⟨h1, h2, h3, h4⟩
  refine W.sound hmix (E := []) ?_
  simp only at h1 h2 h3 h4
  have hda : d.len + r.len = a.len := by rw [h1, len_app]
  have hdb : d'.len + r'.len = b.len := by rw [h2, len_app]
  cases r with
  | nil =>
    have e1 : ¬ ((d.len : Int) < (a.len : Int)) := by simp [len] at hda; omega
    simp only [run0, run1, run2, run3, run4, run5, run6, run7, run8, run9, run10, run11, run12, run13, run14, run15, run16, run17, run18, run19, run20, run21, run22, reduceCtorEq, Nat.reduceEqDiff, Nat.reduceAdd, Nat.reduceSub, Nat.reduceLeDiff, indexAddrA, indexRefA, appendA, strA, Nat.reduceMul, Nat.zero_mul, Nat.reduceMod, Int.reduceEq, Int.reduceLT, Int.reduceLE, Nat.reduceLT, Nat.lt_irrefl, Nat.reduceBEq, tys0, tys1, tys2, tys3, tys4, tys5, tys6, tys7, tys8, tys9, tys10, tys11, tys12, tys13, tys14, tys15, tys16, tys17, tys18, Try.ntmps54, Try.results54, elems_length, e1]
    refine Fin.eq ?_ rfl
    cases r' with
    | nil => rw [← h4]; rfl
    | cons e c r => simp [len] at hda hdb; omega
  | cons e c r =>
    cases r' with
    | nil => simp [len] at hda hdb; omega
    | cons e' c' r' =>
      simp only [len] at hda hdb
      have e1 : (d.len : Int) < (a.len : Int) := by omega
      have e2 : (elems a)[d.len]? = some (.agg (.sl false (elems e) :: pay c)) := by rw [h1]; exact elems_get d e c r
      have e3 : (elems b)[d.len]? = some (.agg (.sl false (elems e') :: pay c')) := by rw [h2, h3]; exact elems_get d' e' c' r'
      have e5 : IntKind.i64.wrap ((d.len : Int) + 1) = ((d.app (cons e c nil)).len : Int) := by
        rw [w64_id (by omega) (by omega), len_app]; simp [len]
      have hlt : e.sz < a.sz := by rw [h1, sz_app]; simp only [sz]; omega
      simp only [run0, run1, run2, run3, run4, run5, run6, run7, run8, run9, run10, run11, run12, run13, run14, run15, run16, run17, run18, run19, run20, run21, run22, reduceCtorEq, Nat.reduceEqDiff, Nat.reduceAdd, Nat.reduceSub, Nat.reduceLeDiff, indexAddrA, indexRefA, appendA, strA, Nat.reduceMul, Nat.zero_mul, Nat.reduceMod, Int.reduceEq, Int.reduceLT, Int.reduceLE, Nat.reduceLT, Nat.lt_irrefl, Nat.reduceBEq, tys0, tys1, tys2, tys3, tys4, tys5, tys6, tys7, tys8, tys9, tys10, tys11, tys12, tys13, tys14, tys15, tys16, tys17, tys18, Try.ntmps54, Try.results54, elems_length, e1, e2, e3, pay, Int.toNat_natCast, Int.natCast_nonneg]
      refine ⟨by kernel_rfl, ?_⟩
      refine RunL.callp rfl rfl ok_f93 (eqOrdinalTerm_of (c := c) (d := c') (eqTermS_ok e e' (by omega))) (by first | rfl | simp only [pureL, pureB, Bool.and_self, Bool.and_true, Bool.true_and, Od.elems_pure, Od.pay_pure, Od.av_pure]) rfl ?_
      simp only [run0, run1, run2, run3, run4, run5, run6, run7, run8, run9, run10, run11, run12, run13, run14, run15, run16, run17, run18, run19, run20, run21, run22, reduceCtorEq, Nat.reduceEqDiff, Nat.reduceAdd, Nat.reduceSub, Nat.reduceLeDiff, indexAddrA, indexRefA, appendA, strA, Nat.reduceMul, Nat.zero_mul, Nat.reduceMod, Int.reduceEq, Int.reduceLT, Int.reduceLE, Nat.reduceLT, Nat.lt_irrefl, Nat.reduceBEq, tys0, tys1, tys2, tys3, tys4, tys5, tys6, tys7, tys8, tys9, tys10, tys11, tys12, tys13, tys14, tys15, tys16, tys17, tys18, Try.ntmps54, Try.results54]
      simp only [eqT] at h4
      cases h6 : (eqT e e' && (c == c'))
      · simp only [run0, run1, run2, run3, run4, run5, run6, run7, run8, run9, run10, run11, run12, run13, run14, run15, run16, run17, run18, run19, run20, run21, run22, reduceCtorEq, Nat.reduceEqDiff, Nat.reduceAdd, Nat.reduceSub, Nat.reduceLeDiff, indexAddrA, indexRefA, appendA, strA, Nat.reduceMul, Nat.zero_mul, Nat.reduceMod, Int.reduceEq, Int.reduceLT, Int.reduceLE, Nat.reduceLT, Nat.lt_irrefl, Nat.reduceBEq, tys0, tys1, tys2, tys3, tys4, tys5, tys6, tys7, tys8, tys9, tys10, tys11, tys12, tys13, tys14, tys15, tys16, tys17, tys18, Try.ntmps54, Try.results54, h6]
        rw [h6, Bool.false_and] at h4
        exact Fin.eq (by rw [← h4]) rfl
      · simp only [run0, run1, run2, run3, run4, run5, run6, run7, run8, run9, run10, run11, run12, run13, run14, run15, run16, run17, run18, run19, run20, run21, run22, reduceCtorEq, Nat.reduceEqDiff, Nat.reduceAdd, Nat.reduceSub, Nat.reduceLeDiff, indexAddrA, indexRefA, appendA, strA, Nat.reduceMul, Nat.zero_mul, Nat.reduceMod, Int.reduceEq, Int.reduceLT, Int.reduceLE, Nat.reduceLT, Nat.lt_irrefl, Nat.reduceBEq, tys0, tys1, tys2, tys3, tys4, tys5, tys6, tys7, tys8, tys9, tys10, tys11, tys12, tys13, tys14, tys15, tys16, tys17, tys18, Try.ntmps54, Try.results54, h6, e5]
        rw [h6, Bool.true_and] at h4
        refine ⟨((d.app (cons e c nil), r), (d'.app (cons e' c' nil), r')), ⟨by rw [app_assoc]; exact h1, by rw [app_assoc]; exact h2, by simp only [len_app, len, h3], h4⟩, by simp [len], by repeat constructor⟩
termination_by a.sz

end Go.Proofs.Ytphmkhaboghagaa
/-
  Ordinals: the laws' marks.
-/
namespace Go.Proofs.Ytphmkhaboghagaa
open Go K Od
set_option linter.unusedSimpArgs false
set_option linter.unusedVariables false
set_option maxHeartbeats 400000

/-- A tree whose coefficients are the numbers from 'k' on. -/
def mk : Od → Int → Od
  | .nil, _ => .nil
  | .cons e _ r, k => .cons (mk e k) (k + e.sz) (mk r (k + e.sz + 1))
theorem mk_len : ∀ (a : Od) (k : Int), (mk a k).len = a.len
  | .nil, _ => rfl
  | .cons e c r, k => by simp [mk, len, mk_len r]
theorem mk_sz : ∀ (a : Od) (k : Int), (mk a k).sz = a.sz
  | .nil, _ => rfl
  | .cons e c r, k => by simp [mk, sz, mk_sz e, mk_sz r]
theorem mk_app : ∀ (d r : Od) (k : Int), mk (d.app r) k = (mk d k).app (mk r (k + d.sz))
  | .nil, r, k => by simp [mk, app, sz]
  | .cons e c d, r, k => by
    simp only [mk, app, sz, mk_app d r]
    rw [show k + (e.sz : Int) + 1 + (d.sz : Int) = k + ((e.sz + d.sz + 1 : Nat) : Int) by omega]

theorem held_ok (a : Od) (k : Int) (h0 : 0 ≤ k) (hk : k + a.sz ≤ 4611686018427387904) : Ct Try.prog 56 [.sl false (elems (mk a k)), .int .i64 k] [] (.int .i64 (k + a.sz)) [] := by
  have hl := len_le a
  refine Ct.by_ hmix [] Try.func56 rfl ?_
  simp only [run0, run1, run2, run3, run4, run5, run6, run7, run8, run9, run10, run11, run12, run13, run14, run15, run16, run17, run18, run19, run20, run21, run22, reduceCtorEq, Nat.reduceEqDiff, Nat.reduceAdd, Nat.reduceSub, Nat.reduceLeDiff, indexAddrA, indexRefA, appendA, strA, Nat.reduceMul, Nat.zero_mul, Nat.reduceMod, Int.reduceEq, Int.reduceLT, Int.reduceLE, Nat.reduceLT, Nat.lt_irrefl, Nat.reduceBEq, tys0, tys1, tys2, tys3, tys4, tys5, tys6, tys7, tys8, tys9, tys10, tys11, tys12, tys13, tys14, tys15, tys16, tys17, tys18, Try.ntmps56, Try.results56]
  refine AWp.loop_inv (ι := Od × Od) (fun p => ⟨[.sl false (elems (mk a k)), .int .i64 (k + p.1.sz), .junk, .junk, .int .i64 0, .int .i64 p.1.len, .junk, .junk, .junk, .junk, .junk, .junk, .junk, .junk, .junk, .junk, .junk, .junk, .junk, .junk, .junk, .junk, .junk, .junk, .junk, .junk, .junk, .junk, .junk, .junk, .junk, .junk], []⟩)
    (fun p => a = p.1.app p.2) (fun p => p.2.len) (.nil, a) rfl ⟨by simp only [sz, len, Int.natCast_zero, Int.add_zero]; repeat constructor, rfl⟩ ?_
  rintro ⟨d, r⟩ ha
  refine W.sound hmix (E := []) ?_
  simp only at ha
  have hda : d.len + r.len = a.len := by rw [ha, len_app]
  cases r with
  | nil =>
    have e1 : ¬ ((d.len : Int) < (a.len : Int)) := by simp [len] at hda; omega
    simp only [run0, run1, run2, run3, run4, run5, run6, run7, run8, run9, run10, run11, run12, run13, run14, run15, run16, run17, run18, run19, run20, run21, run22, reduceCtorEq, Nat.reduceEqDiff, Nat.reduceAdd, Nat.reduceSub, Nat.reduceLeDiff, indexAddrA, indexRefA, appendA, strA, Nat.reduceMul, Nat.zero_mul, Nat.reduceMod, Int.reduceEq, Int.reduceLT, Int.reduceLE, Nat.reduceLT, Nat.lt_irrefl, Nat.reduceBEq, tys0, tys1, tys2, tys3, tys4, tys5, tys6, tys7, tys8, tys9, tys10, tys11, tys12, tys13, tys14, tys15, tys16, tys17, tys18, Try.ntmps56, Try.results56, elems_length, mk_len, e1]
    refine Fin.eq ?_ rfl
    rw [ha, app_nil]
  | cons e c r =>
    simp only [len] at hda
    have e1 : (d.len : Int) < (a.len : Int) := by omega
    have hsz : a.sz = d.sz + (e.sz + r.sz + 1) := by rw [ha, sz_app]; rfl
    have e2 : (elems (mk a k))[d.len]? = some (.agg (.sl false (elems (mk e (k + d.sz))) :: pay (k + d.sz + e.sz))) := by
      rw [ha, mk_app, ← mk_len d k]; exact elems_get _ _ _ _
    have e5 : IntKind.i64.wrap ((d.len : Int) + 1) = ((d.app (cons e c nil)).len : Int) := by
      rw [w64_id (by omega) (by omega), len_app]; simp [len]
    have e6 : IntKind.i64.wrap (k + (d.sz : Int) + (e.sz : Int) + 1) = k + ((d.app (cons e c nil)).sz : Int) := by
      rw [w64_id (by omega) (by omega), sz_app]; simp only [sz]; omega
    have e7 : ¬ (k + (d.sz : Int) + (e.sz : Int) < 0) := by omega
    have hlt : e.sz < a.sz := by omega
    simp only [run0, run1, run2, run3, run4, run5, run6, run7, run8, run9, run10, run11, run12, run13, run14, run15, run16, run17, run18, run19, run20, run21, run22, reduceCtorEq, Nat.reduceEqDiff, Nat.reduceAdd, Nat.reduceSub, Nat.reduceLeDiff, indexAddrA, indexRefA, appendA, strA, Nat.reduceMul, Nat.zero_mul, Nat.reduceMod, Int.reduceEq, Int.reduceLT, Int.reduceLE, Nat.reduceLT, Nat.lt_irrefl, Nat.reduceBEq, tys0, tys1, tys2, tys3, tys4, tys5, tys6, tys7, tys8, tys9, tys10, tys11, tys12, tys13, tys14, tys15, tys16, tys17, tys18, Try.ntmps56, Try.results56, elems_length, mk_len, e1, e2, pay, Int.toNat_natCast, Int.natCast_nonneg]
    refine RunL.callp rfl rfl ok_f56 (held_ok e (k + d.sz) (by omega) (by omega)) (by first | rfl | simp only [pureL, pureB, Bool.and_self, Bool.and_true, Bool.true_and, Od.elems_pure, Od.pay_pure, Od.av_pure]) rfl ?_
    simp only [run0, run1, run2, run3, run4, run5, run6, run7, run8, run9, run10, run11, run12, run13, run14, run15, run16, run17, run18, run19, run20, run21, run22, reduceCtorEq, Nat.reduceEqDiff, Nat.reduceAdd, Nat.reduceSub, Nat.reduceLeDiff, indexAddrA, indexRefA, appendA, strA, Nat.reduceMul, Nat.zero_mul, Nat.reduceMod, Int.reduceEq, Int.reduceLT, Int.reduceLE, Nat.reduceLT, Nat.lt_irrefl, Nat.reduceBEq, tys0, tys1, tys2, tys3, tys4, tys5, tys6, tys7, tys8, tys9, tys10, tys11, tys12, tys13, tys14, tys15, tys16, tys17, tys18, Try.ntmps56, Try.results56, elems_length, mk_len, e1, e2, pay, Int.toNat_natCast, Int.natCast_nonneg, e7, e5, e6, bne_self_eq_false]
    exact ⟨(d.app (cons e c nil), r), by rw [app_assoc]; exact ha, by simp [len], by repeat constructor⟩
termination_by a.sz

theorem heldOrdinal_ok (a : Od) (k : Int) (h0 : 0 ≤ k) (hk : k + a.sz ≤ 4611686018427387904) : Ct Try.prog 16 [.agg [.sl false (elems (mk a k))], .int .i64 k] [] (.int .i64 (k + a.sz)) [] := by
  have e7 : ¬ (k + (a.sz : Int) < 0) := by omega
  refine Ct.by_ hmix [] Try.func16 rfl ?_
  simp only [run0, run1, run2, run3, run4, run5, run6, run7, run8, run9, run10, run11, run12, run13, run14, run15, run16, run17, run18, run19, run20, run21, run22, reduceCtorEq, Nat.reduceEqDiff, Nat.reduceAdd, Nat.reduceSub, Nat.reduceLeDiff, indexAddrA, indexRefA, appendA, strA, Nat.reduceMul, Nat.zero_mul, Nat.reduceMod, Int.reduceEq, Int.reduceLT, Int.reduceLE, Nat.reduceLT, Nat.lt_irrefl, Nat.reduceBEq, tys0, tys1, tys2, tys3, tys4, tys5, tys6, tys7, tys8, tys9, tys10, tys11, tys12, tys13, tys14, tys15, tys16, tys17, tys18, Try.ntmps16, Try.results16]
  refine RunL.callp rfl rfl ok_f56 (held_ok a k h0 hk) (by first | rfl | simp only [pureL, pureB, Bool.and_self, Bool.and_true, Bool.true_and, Od.elems_pure, Od.pay_pure, Od.av_pure]) rfl ?_
  simp only [run0, run1, run2, run3, run4, run5, run6, run7, run8, run9, run10, run11, run12, run13, run14, run15, run16, run17, run18, run19, run20, run21, run22, reduceCtorEq, Nat.reduceEqDiff, Nat.reduceAdd, Nat.reduceSub, Nat.reduceLeDiff, indexAddrA, indexRefA, appendA, strA, Nat.reduceMul, Nat.zero_mul, Nat.reduceMod, Int.reduceEq, Int.reduceLT, Int.reduceLE, Nat.reduceLT, Nat.lt_irrefl, Nat.reduceBEq, tys0, tys1, tys2, tys3, tys4, tys5, tys6, tys7, tys8, tys9, tys10, tys11, tys12, tys13, tys14, tys15, tys16, tys17, tys18, Try.ntmps16, Try.results16, e7]
  exact Fin.eq rfl rfl

/-! ### marks laid -/
structure MkS where
  d : Od
  r : Od
  es : List AV
  fs : List AV
  L : List AObj
  S1 : List Nat
  S2 : List Nat

theorem mk_one (d : Od) (e : Od) (c k : Int) : mk (d.app (cons e c nil)) k = (mk d k).app (cons (mk e (k + d.sz)) (k + d.sz + e.sz) nil) := by
  rw [mk_app]; rfl

theorem mark_ok (a : Od) (x : AV) (S : List Nat) (L0 : List AObj) (k : Int) (ho : OwnR L0 88 2 a x S) (hn : S.Nodup) (h0 : 0 ≤ k) (hk : k + a.sz ≤ 4611686018427387904) :
    ∃ L', Ct Try.prog 55 [x, .int .i64 k] L0 (.int .i64 (k + a.sz)) L' ∧ OwnR L' 88 2 (mk a k) x S ∧ (∀ id, id ∉ S → L'[id]? = L0[id]?) ∧ L'.length = L0.length := by
  have hl := len_le a
  rcases ho with ⟨rfl, rfl, rfl⟩ | ⟨id, g, es0, S0, rfl, hL, rfl, ho⟩
  · refine ⟨L0, ?_, .inl ⟨rfl, rfl, rfl⟩, fun _ _ => rfl, rfl⟩
    refine Ct.by_ hmix [] Try.func55 rfl ?_
    simp only [run0, run1, run2, run3, run4, run5, run6, run7, run8, run9, run10, run11, run12, run13, run14, run15, run16, run17, run18, run19, run20, run21, run22, reduceCtorEq, Nat.reduceEqDiff, Nat.reduceAdd, Nat.reduceSub, Nat.reduceLeDiff, indexAddrA, indexRefA, appendA, strA, Nat.reduceMul, Nat.zero_mul, Nat.reduceMod, Int.reduceEq, Int.reduceLT, Int.reduceLE, Nat.reduceLT, Nat.lt_irrefl, Nat.reduceBEq, tys0, tys1, tys2, tys3, tys4, tys5, tys6, tys7, tys8, tys9, tys10, tys11, tys12, tys13, tys14, tys15, tys16, tys17, tys18, Try.ntmps55, Try.results55, nilV]
    refine AWp.loop_inv (ι := Unit) (fun _ => ⟨[.lit (.slice none 0 0), .int .i64 k, .junk, .junk, .int .i64 0, .int .i64 0, .junk, .junk, .junk, .junk, .junk, .junk, .junk, .junk, .junk, .junk, .junk, .junk, .junk, .junk, .junk, .junk, .junk, .junk, .junk, .junk, .junk, .junk], L0⟩) (fun _ => True) (fun _ => 0) () trivial ⟨by repeat constructor, rfl⟩ ?_
    rintro _ _
    refine W.sound hmix (E := []) ?_
    simp only [run0, run1, run2, run3, run4, run5, run6, run7, run8, run9, run10, run11, run12, run13, run14, run15, run16, run17, run18, run19, run20, run21, run22, reduceCtorEq, Nat.reduceEqDiff, Nat.reduceAdd, Nat.reduceSub, Nat.reduceLeDiff, indexAddrA, indexRefA, appendA, strA, Nat.reduceMul, Nat.zero_mul, Nat.reduceMod, Int.reduceEq, Int.reduceLT, Int.reduceLE, Nat.reduceLT, Nat.lt_irrefl, Nat.reduceBEq, tys0, tys1, tys2, tys3, tys4, tys5, tys6, tys7, tys8, tys9, tys10, tys11, tys12, tys13, tys14, tys15, tys16, tys17, tys18, Try.ntmps55, Try.results55, Int.lt_irrefl]
    exact Fin.own rfl (by simp [sz])
  suffices h : ∃ r L', Ct Try.prog 55 [.ref id [] g es0.length, .int .i64 k] L0 r L' ∧ (r = .int .i64 (k + a.sz) ∧ OwnR L' 88 2 (mk a k) (.ref id [] g es0.length) (id :: S0) ∧ (∀ id1, id1 ∉ id :: S0 → L'[id1]? = L0[id1]?) ∧ L'.length = L0.length) by
    obtain ⟨r, L', h1, rfl, h2⟩ := h
    exact ⟨L', h1, h2⟩
  have hel0 := ho.length
  refine Ct.ex hmix [] Try.func55 rfl ?_
  simp only [run0, run1, run2, run3, run4, run5, run6, run7, run8, run9, run10, run11, run12, run13, run14, run15, run16, run17, run18, run19, run20, run21, run22, reduceCtorEq, Nat.reduceEqDiff, Nat.reduceAdd, Nat.reduceSub, Nat.reduceLeDiff, indexAddrA, indexRefA, appendA, strA, Nat.reduceMul, Nat.zero_mul, Nat.reduceMod, Int.reduceEq, Int.reduceLT, Int.reduceLE, Nat.reduceLT, Nat.lt_irrefl, Nat.reduceBEq, tys0, tys1, tys2, tys3, tys4, tys5, tys6, tys7, tys8, tys9, tys10, tys11, tys12, tys13, tys14, tys15, tys16, tys17, tys18, Try.ntmps55, Try.results55]
  rw [hel0]
  refine AWp.loop_exK (ι := MkS) (fun p => ⟨[.ref id [] g a.len, .int .i64 (k + p.d.sz), .junk, .junk, .int .i64 0, .int .i64 p.d.len, .junk, .junk, .junk, .junk, .junk, .junk, .junk, .junk, .junk, .junk, .junk, .junk, .junk, .junk, .junk, .junk, .junk, .junk, .junk, .junk, .junk, .junk], p.L⟩)
    (fun p => a = p.d.app p.r ∧ p.L[id]? = some (.vec 88 2 g (p.es ++ p.fs)) ∧ OwnE p.L 88 2 (mk p.d k) p.es p.S1 ∧ OwnE p.L 88 2 p.r p.fs p.S2 ∧ S0 = p.S1 ++ p.S2 ∧
      (∀ id1, id1 ∉ id :: S0 → p.L[id1]? = L0[id1]?) ∧ p.L.length = L0.length) (fun p => p.r.len) ⟨.nil, a, [], es0, L0, [], S0⟩
    ⟨rfl, hL, ⟨rfl, rfl⟩, ho, rfl, fun _ _ => rfl, rfl⟩ ⟨by simp only [sz, len, Int.natCast_zero, Int.add_zero]; repeat constructor, rfl⟩ ?_
  rintro ⟨d, r, es, fs, L, S1, S2⟩ ⟨ha, hLid, h1, h2, hS, hfr, hLl⟩
  simp only at ha hLid h1 h2 hS hfr hLl
  have hda : d.len + r.len = a.len := by rw [ha, len_app]
  have hel := h1.length
  rw [mk_len] at hel
  obtain ⟨hid, hn0⟩ := List.nodup_cons.1 hn
  have hnow : eptrNow L id g = true := by simp [eptrNow, hLid]
  cases r with
  | nil =>
    left
    obtain ⟨rfl, rfl⟩ := h2
    have e1 : ¬ ((d.len : Int) < (a.len : Int)) := by simp [len] at hda; omega
    refine ⟨.int .i64 (k + d.sz), L, ?_, by rw [ha, app_nil], .inr ⟨id, g, es, S1, by rw [hel]; simp [len] at hda; rw [hda], by simpa using hLid, by rw [hS]; simp, by rw [ha, app_nil]; exact h1⟩, hfr, hLl⟩
    refine W.sound hmix (E := []) ?_
    simp only [run0, run1, run2, run3, run4, run5, run6, run7, run8, run9, run10, run11, run12, run13, run14, run15, run16, run17, run18, run19, run20, run21, run22, reduceCtorEq, Nat.reduceEqDiff, Nat.reduceAdd, Nat.reduceSub, Nat.reduceLeDiff, indexAddrA, indexRefA, appendA, strA, Nat.reduceMul, Nat.zero_mul, Nat.reduceMod, Int.reduceEq, Int.reduceLT, Int.reduceLE, Nat.reduceLT, Nat.lt_irrefl, Nat.reduceBEq, tys0, tys1, tys2, tys3, tys4, tys5, tys6, tys7, tys8, tys9, tys10, tys11, tys12, tys13, tys14, tys15, tys16, tys17, tys18, Try.ntmps55, Try.results55, e1, hLid]
    exact Fin.own rfl rfl
  | cons e c r =>
    right
    simp only [len] at hda
    rw [OwnE_cons] at h2
    obtain ⟨y, fs, Sy, S2, rfl, rfl, hy, h2⟩ := h2
    have e1 : (d.len : Int) < (a.len : Int) := by omega
    have hsz : a.sz = d.sz + (e.sz + r.sz + 1) := by rw [ha, sz_app]; rfl
    have hlt : e.sz < a.sz := by omega
    have e5 : IntKind.i64.wrap ((d.len : Int) + 1) = ((d.app (cons e c nil)).len : Int) := by
      rw [w64_id (by omega) (by omega), len_app]; simp [len]
    have e6 : IntKind.i64.wrap (k + (d.sz : Int) + (e.sz : Int) + 1) = k + ((d.app (cons e c nil)).sz : Int) := by
      rw [w64_id (by omega) (by omega), sz_app]; simp only [sz]; omega
    rw [hS] at hn0 hid
    simp only [List.nodup_append, List.mem_append, not_or] at hn0 hid
    obtain ⟨hn1, ⟨hny, hn2, hd2⟩, hd1⟩ := hn0
    obtain ⟨hid1, hidy, hid2⟩ := hid
    obtain ⟨L1, hc, hy1, hfr1, hLl1⟩ := mark_ok e y Sy L (k + d.sz) hy hny (by omega) (by omega)
    have hL1id : L1[id]? = some (.vec 88 2 g (es ++ .agg (y :: pay c) :: fs)) := by rw [hfr1 id hidy]; exact hLid
    have hidlt : id < L1.length := (List.getElem?_eq_some_iff.1 hL1id).1
    have e2 : (es ++ .agg (y :: pay c) :: fs)[d.len]? = some (.agg (y :: pay c)) := by rw [← hel]; simp
    have e3 : noOwn (es ++ .agg (y :: pay c) :: fs) = true := by
      have h3 := h1.form.2.1
      have h4 := (OwnE.app h2 (OwnE.one hy c)).form.2.1
      refine List.all_eq_true.2 fun z hz => ?_
      rcases List.mem_append.1 hz with hz | hz
      · exact List.all_eq_true.1 h3 z hz
      · exact List.all_eq_true.1 h4 z hz
    have e4 : (es ++ .agg (y :: pay c) :: fs).set d.len (.agg [y, .int .i64 (k + d.sz + e.sz)]) = (es ++ [.agg [y, .int .i64 (k + d.sz + e.sz)]]) ++ fs := by
      rw [← hel]; simp [List.set_append]
    have hm1 : ∀ id1 ∈ S1, ∀ g1 es1, L[id1]? = some (.vec 88 2 g1 es1) → (L1.set id (.vec 88 2 g ((es ++ [.agg [y, .int .i64 (k + d.sz + e.sz)]]) ++ fs)))[id1]? = some (.vec 88 2 g1 es1) := by
      intro id1 hi g1 es1 h
      rw [List.getElem?_set_ne (fun q : id = id1 => hid1 (by rw [q]; exact hi)), hfr1 id1 (fun q => hd1 id1 hi id1 (.inl q) rfl)]
      exact h
    have hm2 : ∀ id1 ∈ S2, ∀ g1 es1, L[id1]? = some (.vec 88 2 g1 es1) → (L1.set id (.vec 88 2 g ((es ++ [.agg [y, .int .i64 (k + d.sz + e.sz)]]) ++ fs)))[id1]? = some (.vec 88 2 g1 es1) := by
      intro id1 hi g1 es1 h
      rw [List.getElem?_set_ne (fun q : id = id1 => hid2 (by rw [q]; exact hi)), hfr1 id1 (fun q => hd2 id1 q id1 hi rfl)]
      exact h
    refine ⟨⟨d.app (cons e c nil), r, es ++ [.agg [y, .int .i64 (k + d.sz + e.sz)]], fs, L1.set id (.vec 88 2 g ((es ++ [.agg [y, .int .i64 (k + d.sz + e.sz)]]) ++ fs)), S1 ++ Sy, S2⟩,
      ⟨by rw [app_assoc]; exact ha, by simp [hidlt], ?_, h2.mono hm2, by rw [hS]; simp, fun id1 hi => ?_, by simp [hLl1, hLl]⟩, by simp [len], ?_⟩
    · rw [mk_one]
      exact OwnE.app (OwnE.one (hy1.set hidy) _) (h1.mono hm1)
    · have hi' := hi
      rw [hS] at hi'
      simp only [List.mem_cons, List.mem_append, not_or] at hi'
      rw [List.getElem?_set_ne (fun q => hi'.1 q.symm), hfr1 id1 hi'.2.2.1]
      exact hfr id1 hi
    · refine W.sound hmix (E := []) ?_
      simp only [pay] at hLid hL1id e2 e3 e4
      rcases hy.shape with rfl | ⟨id2, g2, n2, rfl⟩
      · simp only [nilV] at hLid hL1id e2 e3 e4 hc
        simp only [run0, run1, run2, run3, run4, run5, run6, run7, run8, run9, run10, run11, run12, run13, run14, run15, run16, run17, run18, run19, run20, run21, run22, reduceCtorEq, Nat.reduceEqDiff, Nat.reduceAdd, Nat.reduceSub, Nat.reduceLeDiff, indexAddrA, indexRefA, appendA, strA, Nat.reduceMul, Nat.zero_mul, Nat.reduceMod, Int.reduceEq, Int.reduceLT, Int.reduceLE, Nat.reduceLT, Nat.lt_irrefl, Nat.reduceBEq, tys0, tys1, tys2, tys3, tys4, tys5, tys6, tys7, tys8, tys9, tys10, tys11, tys12, tys13, tys14, tys15, tys16, tys17, tys18, Try.ntmps55, Try.results55, e1, hLid, e2, Int.toNat_natCast, Int.natCast_nonneg, List.mapIdx_cons, List.mapIdx_nil, viewC]
        refine RunL.call rfl rfl rfl ok_f55 rfl (.inl rfl) hc ?_
        simp only [run0, run1, run2, run3, run4, run5, run6, run7, run8, run9, run10, run11, run12, run13, run14, run15, run16, run17, run18, run19, run20, run21, run22, reduceCtorEq, Nat.reduceEqDiff, Nat.reduceAdd, Nat.reduceSub, Nat.reduceLeDiff, indexAddrA, indexRefA, appendA, strA, Nat.reduceMul, Nat.zero_mul, Nat.reduceMod, Int.reduceEq, Int.reduceLT, Int.reduceLE, Nat.reduceLT, Nat.lt_irrefl, Nat.reduceBEq, tys0, tys1, tys2, tys3, tys4, tys5, tys6, tys7, tys8, tys9, tys10, tys11, tys12, tys13, tys14, tys15, tys16, tys17, tys18, Try.ntmps55, Try.results55, e1, hL1id, e2, e3, e4, e5, e6, Int.toNat_natCast, Int.natCast_nonneg, setE]
        repeat constructor
      · simp only [run0, run1, run2, run3, run4, run5, run6, run7, run8, run9, run10, run11, run12, run13, run14, run15, run16, run17, run18, run19, run20, run21, run22, reduceCtorEq, Nat.reduceEqDiff, Nat.reduceAdd, Nat.reduceSub, Nat.reduceLeDiff, indexAddrA, indexRefA, appendA, strA, Nat.reduceMul, Nat.zero_mul, Nat.reduceMod, Int.reduceEq, Int.reduceLT, Int.reduceLE, Nat.reduceLT, Nat.lt_irrefl, Nat.reduceBEq, tys0, tys1, tys2, tys3, tys4, tys5, tys6, tys7, tys8, tys9, tys10, tys11, tys12, tys13, tys14, tys15, tys16, tys17, tys18, Try.ntmps55, Try.results55, e1, hLid, e2, Int.toNat_natCast, Int.natCast_nonneg, List.mapIdx_cons, List.mapIdx_nil, viewC]
        refine RunL.call rfl rfl rfl ok_f55 rfl (.inl rfl) hc ?_
        simp only [run0, run1, run2, run3, run4, run5, run6, run7, run8, run9, run10, run11, run12, run13, run14, run15, run16, run17, run18, run19, run20, run21, run22, reduceCtorEq, Nat.reduceEqDiff, Nat.reduceAdd, Nat.reduceSub, Nat.reduceLeDiff, indexAddrA, indexRefA, appendA, strA, Nat.reduceMul, Nat.zero_mul, Nat.reduceMod, Int.reduceEq, Int.reduceLT, Int.reduceLE, Nat.reduceLT, Nat.lt_irrefl, Nat.reduceBEq, tys0, tys1, tys2, tys3, tys4, tys5, tys6, tys7, tys8, tys9, tys10, tys11, tys12, tys13, tys14, tys15, tys16, tys17, tys18, Try.ntmps55, Try.results55, e1, hL1id, e2, e3, e4, e5, e6, Int.toNat_natCast, Int.natCast_nonneg, setE]
        repeat constructor
termination_by a.sz

theorem markOrdinal_ok (a : Od) (x : AV) (S : List Nat) (L0 : List AObj) (k : Int) (ho : OwnR L0 88 2 a x S) (hn : S.Nodup) (h0 : 0 ≤ k) (hk : k + a.sz ≤ 4611686018427387904) :
    ∃ L', Ct Try.prog 15 [.agg [x], .int .i64 k] L0 (.int .i64 (k + a.sz)) L' ∧ OwnR L' 88 2 (mk a k) x S ∧ (∀ id, id ∉ S → id < L0.length → L'[id]? = L0[id]?) ∧ L0.length ≤ L'.length := by
  obtain ⟨L1, hc, h1, h2, h3⟩ := mark_ok a x S (L0 ++ [.box 24 [x]]) k (ho.more _) hn h0 hk
  have hb : L1[L0.length]? = some (.box 24 [x]) := by
    rw [h2 _ (fun hi => by have := ho.lt _ hi; omega)]; simp
  refine ⟨L1, ?_, h1, fun id hi hlt => by rw [h2 id hi, List.getElem?_append_left hlt], by simp at h3; omega⟩
  rcases ho.shape with rfl | ⟨id2, g2, n2, rfl⟩
  · simp only [nilV] at hc hb
    refine Ct.by_ hmix [] Try.func15 rfl ?_
    simp only [run0, run1, run2, run3, run4, run5, run6, run7, run8, run9, run10, run11, run12, run13, run14, run15, run16, run17, run18, run19, run20, run21, run22, reduceCtorEq, Nat.reduceEqDiff, Nat.reduceAdd, Nat.reduceSub, Nat.reduceLeDiff, indexAddrA, indexRefA, appendA, strA, Nat.reduceMul, Nat.zero_mul, Nat.reduceMod, Int.reduceEq, Int.reduceLT, Int.reduceLE, Nat.reduceLT, Nat.lt_irrefl, Nat.reduceBEq, tys0, tys1, tys2, tys3, tys4, tys5, tys6, tys7, tys8, tys9, tys10, tys11, tys12, tys13, tys14, tys15, tys16, tys17, tys18, Try.ntmps15, Try.results15, nilV, List.getElem?_concat_length]
    refine RunL.call rfl rfl rfl ok_f55 rfl (.inl rfl) hc ?_
    simp only [run0, run1, run2, run3, run4, run5, run6, run7, run8, run9, run10, run11, run12, run13, run14, run15, run16, run17, run18, run19, run20, run21, run22, reduceCtorEq, Nat.reduceEqDiff, Nat.reduceAdd, Nat.reduceSub, Nat.reduceLeDiff, indexAddrA, indexRefA, appendA, strA, Nat.reduceMul, Nat.zero_mul, Nat.reduceMod, Int.reduceEq, Int.reduceLT, Int.reduceLE, Nat.reduceLT, Nat.lt_irrefl, Nat.reduceBEq, tys0, tys1, tys2, tys3, tys4, tys5, tys6, tys7, tys8, tys9, tys10, tys11, tys12, tys13, tys14, tys15, tys16, tys17, tys18, Try.ntmps15, Try.results15]
    exact Fin.own rfl rfl
  · refine Ct.by_ hmix [] Try.func15 rfl ?_
    simp only [run0, run1, run2, run3, run4, run5, run6, run7, run8, run9, run10, run11, run12, run13, run14, run15, run16, run17, run18, run19, run20, run21, run22, reduceCtorEq, Nat.reduceEqDiff, Nat.reduceAdd, Nat.reduceSub, Nat.reduceLeDiff, indexAddrA, indexRefA, appendA, strA, Nat.reduceMul, Nat.zero_mul, Nat.reduceMod, Int.reduceEq, Int.reduceLT, Int.reduceLE, Nat.reduceLT, Nat.lt_irrefl, Nat.reduceBEq, tys0, tys1, tys2, tys3, tys4, tys5, tys6, tys7, tys8, tys9, tys10, tys11, tys12, tys13, tys14, tys15, tys16, tys17, tys18, Try.ntmps15, Try.results15, List.getElem?_concat_length]
    refine RunL.call rfl rfl rfl ok_f55 rfl (.inl rfl) hc ?_
    simp only [run0, run1, run2, run3, run4, run5, run6, run7, run8, run9, run10, run11, run12, run13, run14, run15, run16, run17, run18, run19, run20, run21, run22, reduceCtorEq, Nat.reduceEqDiff, Nat.reduceAdd, Nat.reduceSub, Nat.reduceLeDiff, indexAddrA, indexRefA, appendA, strA, Nat.reduceMul, Nat.zero_mul, Nat.reduceMod, Int.reduceEq, Int.reduceLT, Int.reduceLE, Nat.reduceLT, Nat.lt_irrefl, Nat.reduceBEq, tys0, tys1, tys2, tys3, tys4, tys5, tys6, tys7, tys8, tys9, tys10, tys11, tys12, tys13, tys14, tys15, tys16, tys17, tys18, Try.ntmps15, Try.results15]
    exact Fin.own rfl rfl
end Go.Proofs.Ytphmkhaboghagaa
/-
  Ordinals: the comparing of the program and of the reference.
-/
namespace Go.Proofs.Ytphmkhaboghagaa
open Go K Od
set_option linter.unusedSimpArgs false
set_option linter.unusedVariables false
set_option maxHeartbeats 400000

theorem od_step {a d e r : Od} {c : Int} (ha : a = d.app (cons e c r)) (hs : a.sz ≤ 1048576) :
    (d.len : Int) < (a.len : Int) ∧ (elems a)[d.len]? = some (.agg [.sl false (elems e), .int .i64 c]) ∧ IntKind.i64.wrap ((d.len : Int) + 1) = ((d.app (cons e c nil)).len : Int) ∧ e.sz < a.sz ∧
      (d.app (cons e c nil)).app r = a ∧ r.sz < a.sz := by
  have hda : d.len + (r.len + 1) = a.len := by rw [ha, len_app]; rfl
  have hsz : a.sz = d.sz + (e.sz + r.sz + 1) := by rw [ha, sz_app]; rfl
  have hl := len_le a
  refine ⟨by omega, ?_, ?_, by omega, ?_, by omega⟩
  · rw [ha]; exact elems_get d e c r
  · rw [w64_id (by omega) (by omega), len_app]; simp [len]
  · rw [app_assoc]; exact ha.symm
theorem od_end {a d : Od} (ha : a = d.app nil) : ¬ ((d.len : Int) < (a.len : Int)) ∧ a = d := by
  rw [app_nil] at ha; subst ha; exact ⟨by omega, rfl⟩

theorem in_ok (n lo hi : Int) : Ct Try.prog 50 [.int .i64 n, .int .i64 lo, .int .i64 hi] [] (.bool (inB n lo hi)) [] := by
  refine Ct.by_ hmix [] Try.func50 rfl ?_
  simp only [run0, run1, run2, run3, run4, run5, run6, run7, run8, run9, run10, run11, run12, run13, run14, run15, run16, run17, run18, run19, run20, run21, run22, reduceCtorEq, Nat.reduceEqDiff, Nat.reduceAdd, Nat.reduceSub, Nat.reduceLeDiff, indexAddrA, indexRefA, appendA, strA, Nat.reduceMul, Nat.zero_mul, Nat.reduceMod, Int.reduceEq, Int.reduceLT, Int.reduceLE, Nat.reduceLT, Nat.lt_irrefl, Nat.reduceBEq, tys0, tys1, tys2, tys3, tys4, tys5, tys6, tys7, tys8, tys9, tys10, tys11, tys12, tys13, tys14, tys15, tys16, tys17, tys18, Try.ntmps50, Try.results50]
  refine Rg.split (fun h => ?_) (fun h => ?_) <;> simp only [run0, run1, run2, run3, run4, run5, run6, run7, run8, run9, run10, run11, run12, run13, run14, run15, run16, run17, run18, run19, run20, run21, run22, reduceCtorEq, Nat.reduceEqDiff, Nat.reduceAdd, Nat.reduceSub, Nat.reduceLeDiff, indexAddrA, indexRefA, appendA, strA, Nat.reduceMul, Nat.zero_mul, Nat.reduceMod, Int.reduceEq, Int.reduceLT, Int.reduceLE, Nat.reduceLT, Nat.lt_irrefl, Nat.reduceBEq, tys0, tys1, tys2, tys3, tys4, tys5, tys6, tys7, tys8, tys9, tys10, tys11, tys12, tys13, tys14, tys15, tys16, tys17, tys18, Try.ntmps50, Try.results50, h] <;> exact Fin.eq (by simp [inB, h]) rfl
theorem l1In_ok (n lo hi : Int) : Ct Try.prog 59 [.int .i64 n, .int .i64 lo, .int .i64 hi] [] (.bool (inB n lo hi)) [] := by
  refine Ct.by_ hmix [] Try.func59 rfl ?_
  simp only [run0, run1, run2, run3, run4, run5, run6, run7, run8, run9, run10, run11, run12, run13, run14, run15, run16, run17, run18, run19, run20, run21, run22, reduceCtorEq, Nat.reduceEqDiff, Nat.reduceAdd, Nat.reduceSub, Nat.reduceLeDiff, indexAddrA, indexRefA, appendA, strA, Nat.reduceMul, Nat.zero_mul, Nat.reduceMod, Int.reduceEq, Int.reduceLT, Int.reduceLE, Nat.reduceLT, Nat.lt_irrefl, Nat.reduceBEq, tys0, tys1, tys2, tys3, tys4, tys5, tys6, tys7, tys8, tys9, tys10, tys11, tys12, tys13, tys14, tys15, tys16, tys17, tys18, Try.ntmps59, Try.results59]
  refine Rg.split (fun h => ?_) (fun h => ?_) <;> simp only [run0, run1, run2, run3, run4, run5, run6, run7, run8, run9, run10, run11, run12, run13, run14, run15, run16, run17, run18, run19, run20, run21, run22, reduceCtorEq, Nat.reduceEqDiff, Nat.reduceAdd, Nat.reduceSub, Nat.reduceLeDiff, indexAddrA, indexRefA, appendA, strA, Nat.reduceMul, Nat.zero_mul, Nat.reduceMod, Int.reduceEq, Int.reduceLT, Int.reduceLE, Nat.reduceLT, Nat.lt_irrefl, Nat.reduceBEq, tys0, tys1, tys2, tys3, tys4, tys5, tys6, tys7, tys8, tys9, tys10, tys11, tys12, tys13, tys14, tys15, tys16, tys17, tys18, Try.ntmps59, Try.results59, h] <;> exact Fin.eq (by simp [inB, h]) rfl
theorem compare_ok (a b : Int) : Ct Try.prog 122 [.int .i64 a, .int .i64 b] [] (.int .i64 (cmpI a b)) [] := by
  refine Ct.by_ hmix [] Try.func122 rfl ?_
  simp only [run0, run1, run2, run3, run4, run5, run6, run7, run8, run9, run10, run11, run12, run13, run14, run15, run16, run17, run18, run19, run20, run21, run22, reduceCtorEq, Nat.reduceEqDiff, Nat.reduceAdd, Nat.reduceSub, Nat.reduceLeDiff, indexAddrA, indexRefA, appendA, strA, Nat.reduceMul, Nat.zero_mul, Nat.reduceMod, Int.reduceEq, Int.reduceLT, Int.reduceLE, Nat.reduceLT, Nat.lt_irrefl, Nat.reduceBEq, tys0, tys1, tys2, tys3, tys4, tys5, tys6, tys7, tys8, tys9, tys10, tys11, tys12, tys13, tys14, tys15, tys16, tys17, tys18, Try.ntmps122, Try.results122]
  refine Wc.split (fun h => ?_) (fun h => ?_) <;> simp only [run0, run1, run2, run3, run4, run5, run6, run7, run8, run9, run10, run11, run12, run13, run14, run15, run16, run17, run18, run19, run20, run21, run22, reduceCtorEq, Nat.reduceEqDiff, Nat.reduceAdd, Nat.reduceSub, Nat.reduceLeDiff, indexAddrA, indexRefA, appendA, strA, Nat.reduceMul, Nat.zero_mul, Nat.reduceMod, Int.reduceEq, Int.reduceLT, Int.reduceLE, Nat.reduceLT, Nat.lt_irrefl, Nat.reduceBEq, tys0, tys1, tys2, tys3, tys4, tys5, tys6, tys7, tys8, tys9, tys10, tys11, tys12, tys13, tys14, tys15, tys16, tys17, tys18, Try.ntmps122, Try.results122, h]
  · simp at h; exact Fin.eq (by simp [cmpI]; omega) rfl
  · refine Wc.split (fun h2 => ?_) (fun h2 => ?_) <;> simp only [run0, run1, run2, run3, run4, run5, run6, run7, run8, run9, run10, run11, run12, run13, run14, run15, run16, run17, run18, run19, run20, run21, run22, reduceCtorEq, Nat.reduceEqDiff, Nat.reduceAdd, Nat.reduceSub, Nat.reduceLeDiff, indexAddrA, indexRefA, appendA, strA, Nat.reduceMul, Nat.zero_mul, Nat.reduceMod, Int.reduceEq, Int.reduceLT, Int.reduceLE, Nat.reduceLT, Nat.lt_irrefl, Nat.reduceBEq, tys0, tys1, tys2, tys3, tys4, tys5, tys6, tys7, tys8, tys9, tys10, tys11, tys12, tys13, tys14, tys15, tys16, tys17, tys18, Try.ntmps122, Try.results122, h2] <;> simp at h h2 <;> exact Fin.eq (by simp [cmpI]; omega) rfl
theorem l1Sign_ok (a : Int) : Ct Try.prog 105 [.int .i64 a] [] (.int .i64 (cmpI a 0)) [] := by
  refine Ct.by_ hmix [] Try.func105 rfl ?_
  simp only [run0, run1, run2, run3, run4, run5, run6, run7, run8, run9, run10, run11, run12, run13, run14, run15, run16, run17, run18, run19, run20, run21, run22, reduceCtorEq, Nat.reduceEqDiff, Nat.reduceAdd, Nat.reduceSub, Nat.reduceLeDiff, indexAddrA, indexRefA, appendA, strA, Nat.reduceMul, Nat.zero_mul, Nat.reduceMod, Int.reduceEq, Int.reduceLT, Int.reduceLE, Nat.reduceLT, Nat.lt_irrefl, Nat.reduceBEq, tys0, tys1, tys2, tys3, tys4, tys5, tys6, tys7, tys8, tys9, tys10, tys11, tys12, tys13, tys14, tys15, tys16, tys17, tys18, Try.ntmps105, Try.results105]
  refine Wc.split (fun h => ?_) (fun h => ?_) <;> simp only [run0, run1, run2, run3, run4, run5, run6, run7, run8, run9, run10, run11, run12, run13, run14, run15, run16, run17, run18, run19, run20, run21, run22, reduceCtorEq, Nat.reduceEqDiff, Nat.reduceAdd, Nat.reduceSub, Nat.reduceLeDiff, indexAddrA, indexRefA, appendA, strA, Nat.reduceMul, Nat.zero_mul, Nat.reduceMod, Int.reduceEq, Int.reduceLT, Int.reduceLE, Nat.reduceLT, Nat.lt_irrefl, Nat.reduceBEq, tys0, tys1, tys2, tys3, tys4, tys5, tys6, tys7, tys8, tys9, tys10, tys11, tys12, tys13, tys14, tys15, tys16, tys17, tys18, Try.ntmps105, Try.results105, h]
  · simp at h; exact Fin.eq (by simp [cmpI]; omega) rfl
  · refine Wc.split (fun h2 => ?_) (fun h2 => ?_) <;> simp only [run0, run1, run2, run3, run4, run5, run6, run7, run8, run9, run10, run11, run12, run13, run14, run15, run16, run17, run18, run19, run20, run21, run22, reduceCtorEq, Nat.reduceEqDiff, Nat.reduceAdd, Nat.reduceSub, Nat.reduceLeDiff, indexAddrA, indexRefA, appendA, strA, Nat.reduceMul, Nat.zero_mul, Nat.reduceMod, Int.reduceEq, Int.reduceLT, Int.reduceLE, Nat.reduceLT, Nat.lt_irrefl, Nat.reduceBEq, tys0, tys1, tys2, tys3, tys4, tys5, tys6, tys7, tys8, tys9, tys10, tys11, tys12, tys13, tys14, tys15, tys16, tys17, tys18, Try.ntmps105, Try.results105, h2] <;> simp at h h2 <;> exact Fin.eq (by simp [cmpI]; omega) rfl

theorem rng_app : ∀ {d r : Od}, rng (d.app r) → rng r
  | .nil, r, h => h
  | .cons e c d, r, h => rng_app (d := d) h.2.2.2
theorem cmpI_sub {c c' : Int} : cmpI (c - c') 0 = cmpI c c' := by unfold cmpI; omega

theorem odCmp_ok (a b : Od) (ha : a.sz ≤ 1048576) (hb : b.sz ≤ 1048576) (ra : rng a) (rb : rng b) : Ct Try.prog 68 [av a, av b] [] (.int .i64 (cmpT a b)) [] := by
  refine Ct.by_ hmix [] Try.func68 rfl ?_
  simp only [run0, run1, run2, run3, run4, run5, run6, run7, run8, run9, run10, run11, run12, run13, run14, run15, run16, run17, run18, run19, run20, run21, run22, reduceCtorEq, Nat.reduceEqDiff, Nat.reduceAdd, Nat.reduceSub, Nat.reduceLeDiff, indexAddrA, indexRefA, appendA, strA, Nat.reduceMul, Nat.zero_mul, Nat.reduceMod, Int.reduceEq, Int.reduceLT, Int.reduceLE, Nat.reduceLT, Nat.lt_irrefl, Nat.reduceBEq, tys0, tys1, tys2, tys3, tys4, tys5, tys6, tys7, tys8, tys9, tys10, tys11, tys12, tys13, tys14, tys15, tys16, tys17, tys18, Try.ntmps68, Try.results68, av, elems_length]
  refine AWp.loop_inv (ι := (Od × Od) × (Od × Od) × List AObj) (fun p => ⟨[.agg [.sl false (elems a)], .agg [.sl false (elems b)], .ptr 0 0, .ptr 1 0, .int .i64 0, .junk, .junk, .junk, .junk, .sl false (elems a), .int .i64 a.len, .int .i64 p.1.1.len, .junk, .junk, .junk, .junk, .junk, .junk, .junk, .junk, .junk, .junk, .junk, .junk, .junk, .junk, .junk, .junk, .junk, .junk, .junk, .junk, .junk, .junk, .junk, .junk, .junk, .junk, .junk, .junk, .junk, .junk, .junk, .junk, .junk, .junk, .junk, .junk, .junk, .junk, .junk, .junk, .junk, .junk, .junk, .junk, .junk, .junk, .junk, .junk], .box 24 [.sl false (elems a)] :: .box 24 [.sl false (elems b)] :: p.2.2⟩)
    (fun p => a = p.1.1.app p.1.2 ∧ b = p.2.1.1.app p.2.1.2 ∧ p.1.1.len = p.2.1.1.len ∧ cmpT p.1.2 p.2.1.2 = cmpT a b) (fun p => p.1.2.len) ((.nil, a), (.nil, b), []) ⟨rfl, rfl, rfl, rfl⟩ ⟨by simp only [len, Int.natCast_zero]; repeat constructor, rfl⟩ ?_
  rintro ⟨⟨d, r⟩, ⟨d', r'⟩, X⟩ ⟨h1, h2, h3, h4⟩
  refine W.sound hmix (E := []) ?_
  simp only at h1 h2 h3 h4
  cases r with
  | nil =>
    obtain ⟨e1, rfl⟩ := od_end h1
    simp only [run0, run1, run2, run3, run4, run5, run6, run7, run8, run9, run10, run11, run12, run13, run14, run15, run16, run17, run18, run19, run20, run21, run22, reduceCtorEq, Nat.reduceEqDiff, Nat.reduceAdd, Nat.reduceSub, Nat.reduceLeDiff, indexAddrA, indexRefA, appendA, strA, Nat.reduceMul, Nat.zero_mul, Nat.reduceMod, Int.reduceEq, Int.reduceLT, Int.reduceLE, Nat.reduceLT, Nat.lt_irrefl, Nat.reduceBEq, tys0, tys1, tys2, tys3, tys4, tys5, tys6, tys7, tys8, tys9, tys10, tys11, tys12, tys13, tys14, tys15, tys16, tys17, tys18, Try.ntmps68, Try.results68, elems_length, e1]
    cases r' with
    | nil =>
      obtain ⟨_, rfl⟩ := od_end h2
      have e2 : ¬ ((a.len : Int) < (b.len : Int)) := by omega
      simp only [run0, run1, run2, run3, run4, run5, run6, run7, run8, run9, run10, run11, run12, run13, run14, run15, run16, run17, run18, run19, run20, run21, run22, reduceCtorEq, Nat.reduceEqDiff, Nat.reduceAdd, Nat.reduceSub, Nat.reduceLeDiff, indexAddrA, indexRefA, appendA, strA, Nat.reduceMul, Nat.zero_mul, Nat.reduceMod, Int.reduceEq, Int.reduceLT, Int.reduceLE, Nat.reduceLT, Nat.lt_irrefl, Nat.reduceBEq, tys0, tys1, tys2, tys3, tys4, tys5, tys6, tys7, tys8, tys9, tys10, tys11, tys12, tys13, tys14, tys15, tys16, tys17, tys18, Try.ntmps68, Try.results68, elems_length, e2]
      exact Fin.eq (by rw [← h4]; rfl) rfl
    | cons e' c' r' =>
      have e2 := (od_step h2 hb).1
      rw [← h3] at e2
      simp only [run0, run1, run2, run3, run4, run5, run6, run7, run8, run9, run10, run11, run12, run13, run14, run15, run16, run17, run18, run19, run20, run21, run22, reduceCtorEq, Nat.reduceEqDiff, Nat.reduceAdd, Nat.reduceSub, Nat.reduceLeDiff, indexAddrA, indexRefA, appendA, strA, Nat.reduceMul, Nat.zero_mul, Nat.reduceMod, Int.reduceEq, Int.reduceLT, Int.reduceLE, Nat.reduceLT, Nat.lt_irrefl, Nat.reduceBEq, tys0, tys1, tys2, tys3, tys4, tys5, tys6, tys7, tys8, tys9, tys10, tys11, tys12, tys13, tys14, tys15, tys16, tys17, tys18, Try.ntmps68, Try.results68, elems_length, e2]
      exact Fin.eq (by rw [← h4]; rfl) rfl
  | cons e c r =>
    obtain ⟨e1, e2, e5, hlt, hn, _⟩ := od_step h1 ha
    rw [h1] at ra
    have ra := rng_app ra
    cases r' with
    | nil =>
      obtain ⟨_, rfl⟩ := od_end h2
      have e3 : ((d.len : Int) == (b.len : Int)) = true := by simp; omega
      simp only [run0, run1, run2, run3, run4, run5, run6, run7, run8, run9, run10, run11, run12, run13, run14, run15, run16, run17, run18, run19, run20, run21, run22, reduceCtorEq, Nat.reduceEqDiff, Nat.reduceAdd, Nat.reduceSub, Nat.reduceLeDiff, indexAddrA, indexRefA, appendA, strA, Nat.reduceMul, Nat.zero_mul, Nat.reduceMod, Int.reduceEq, Int.reduceLT, Int.reduceLE, Nat.reduceLT, Nat.lt_irrefl, Nat.reduceBEq, tys0, tys1, tys2, tys3, tys4, tys5, tys6, tys7, tys8, tys9, tys10, tys11, tys12, tys13, tys14, tys15, tys16, tys17, tys18, Try.ntmps68, Try.results68, elems_length, e1, e2, e3, Int.toNat_natCast, Int.natCast_nonneg]
      exact Fin.eq (by rw [← h4]; rfl) rfl
    | cons e' c' r' =>
      obtain ⟨f1, f2, f5, hlt', hn', _⟩ := od_step h2 hb
      rw [h2] at rb
      have rb := rng_app rb
      rw [← h3] at f1 f2
      have e3 : ((d.len : Int) == (b.len : Int)) = false := by simp; omega
      have hw : IntKind.i64.wrap (c - c') = c - c' := w64_id (by have := ra.1; have := rb.2.1; omega) (by have := ra.2.1; have := rb.1; omega)
      simp only [run0, run1, run2, run3, run4, run5, run6, run7, run8, run9, run10, run11, run12, run13, run14, run15, run16, run17, run18, run19, run20, run21, run22, reduceCtorEq, Nat.reduceEqDiff, Nat.reduceAdd, Nat.reduceSub, Nat.reduceLeDiff, indexAddrA, indexRefA, appendA, strA, Nat.reduceMul, Nat.zero_mul, Nat.reduceMod, Int.reduceEq, Int.reduceLT, Int.reduceLE, Nat.reduceLT, Nat.lt_irrefl, Nat.reduceBEq, tys0, tys1, tys2, tys3, tys4, tys5, tys6, tys7, tys8, tys9, tys10, tys11, tys12, tys13, tys14, tys15, tys16, tys17, tys18, Try.ntmps68, Try.results68, elems_length, e1, e2, e3, f2, Int.toNat_natCast, Int.natCast_nonneg]
      refine ⟨by kernel_rfl, ?_⟩
      refine RunL.callp rfl rfl ok_f68 (odCmp_ok e e' (by omega) (by omega) ra.2.2.1 rb.2.2.1) (by first | rfl | simp only [pureL, pureB, Bool.and_self, Bool.and_true, Bool.true_and, Od.elems_pure, Od.pay_pure, Od.av_pure]) rfl ?_
      simp only [run0, run1, run2, run3, run4, run5, run6, run7, run8, run9, run10, run11, run12, run13, run14, run15, run16, run17, run18, run19, run20, run21, run22, reduceCtorEq, Nat.reduceEqDiff, Nat.reduceAdd, Nat.reduceSub, Nat.reduceLeDiff, indexAddrA, indexRefA, appendA, strA, Nat.reduceMul, Nat.zero_mul, Nat.reduceMod, Int.reduceEq, Int.reduceLT, Int.reduceLE, Nat.reduceLT, Nat.lt_irrefl, Nat.reduceBEq, tys0, tys1, tys2, tys3, tys4, tys5, tys6, tys7, tys8, tys9, tys10, tys11, tys12, tys13, tys14, tys15, tys16, tys17, tys18, Try.ntmps68, Try.results68, elems_length, e1, e2, e3, f2, Int.toNat_natCast, Int.natCast_nonneg]
      rw [cmpT_cons] at h4
      by_cases q : cmpT e e' = 0
      · simp only [q, ne_eq, not_true_eq_false, if_false] at h4
        have q1 : (cmpT e e' != 0) = false := by simp [q]
        simp only [run0, run1, run2, run3, run4, run5, run6, run7, run8, run9, run10, run11, run12, run13, run14, run15, run16, run17, run18, run19, run20, run21, run22, reduceCtorEq, Nat.reduceEqDiff, Nat.reduceAdd, Nat.reduceSub, Nat.reduceLeDiff, indexAddrA, indexRefA, appendA, strA, Nat.reduceMul, Nat.zero_mul, Nat.reduceMod, Int.reduceEq, Int.reduceLT, Int.reduceLE, Nat.reduceLT, Nat.lt_irrefl, Nat.reduceBEq, tys0, tys1, tys2, tys3, tys4, tys5, tys6, tys7, tys8, tys9, tys10, tys11, tys12, tys13, tys14, tys15, tys16, tys17, tys18, Try.ntmps68, Try.results68, elems_length, q1, f2, Int.toNat_natCast, Int.natCast_nonneg]
        refine ⟨by kernel_rfl, ?_⟩
        by_cases qc : c = c'
        · subst qc
          simp only [ne_eq, not_true_eq_false, if_false] at h4
          simp only [run0, run1, run2, run3, run4, run5, run6, run7, run8, run9, run10, run11, run12, run13, run14, run15, run16, run17, run18, run19, run20, run21, run22, reduceCtorEq, Nat.reduceEqDiff, Nat.reduceAdd, Nat.reduceSub, Nat.reduceLeDiff, indexAddrA, indexRefA, appendA, strA, Nat.reduceMul, Nat.zero_mul, Nat.reduceMod, Int.reduceEq, Int.reduceLT, Int.reduceLE, Nat.reduceLT, Nat.lt_irrefl, Nat.reduceBEq, tys0, tys1, tys2, tys3, tys4, tys5, tys6, tys7, tys8, tys9, tys10, tys11, tys12, tys13, tys14, tys15, tys16, tys17, tys18, Try.ntmps68, Try.results68, bne_self_eq_false, e5]
          exact ⟨((d.app (cons e c nil), r), (d'.app (cons e' c nil), r'), _), ⟨hn.symm, hn'.symm, by simp only [len_app, len, h3], h4⟩, by simp [len], by repeat constructor, rfl⟩
        · simp only [qc, ne_eq, not_false_eq_true, if_true] at h4
          have q2 : (c != c') = true := by simp [qc]
          simp only [run0, run1, run2, run3, run4, run5, run6, run7, run8, run9, run10, run11, run12, run13, run14, run15, run16, run17, run18, run19, run20, run21, run22, reduceCtorEq, Nat.reduceEqDiff, Nat.reduceAdd, Nat.reduceSub, Nat.reduceLeDiff, indexAddrA, indexRefA, appendA, strA, Nat.reduceMul, Nat.zero_mul, Nat.reduceMod, Int.reduceEq, Int.reduceLT, Int.reduceLE, Nat.reduceLT, Nat.lt_irrefl, Nat.reduceBEq, tys0, tys1, tys2, tys3, tys4, tys5, tys6, tys7, tys8, tys9, tys10, tys11, tys12, tys13, tys14, tys15, tys16, tys17, tys18, Try.ntmps68, Try.results68, q2, f2, hw, Int.toNat_natCast, Int.natCast_nonneg]
          refine ⟨by kernel_rfl, ?_⟩
          refine RunL.callp rfl rfl ok_f105 (l1Sign_ok (c - c')) (by first | rfl | simp only [pureL, pureB, Bool.and_self, Bool.and_true, Bool.true_and, Od.elems_pure, Od.pay_pure, Od.av_pure]) rfl ?_
          simp only [run0, run1, run2, run3, run4, run5, run6, run7, run8, run9, run10, run11, run12, run13, run14, run15, run16, run17, run18, run19, run20, run21, run22, reduceCtorEq, Nat.reduceEqDiff, Nat.reduceAdd, Nat.reduceSub, Nat.reduceLeDiff, indexAddrA, indexRefA, appendA, strA, Nat.reduceMul, Nat.zero_mul, Nat.reduceMod, Int.reduceEq, Int.reduceLT, Int.reduceLE, Nat.reduceLT, Nat.lt_irrefl, Nat.reduceBEq, tys0, tys1, tys2, tys3, tys4, tys5, tys6, tys7, tys8, tys9, tys10, tys11, tys12, tys13, tys14, tys15, tys16, tys17, tys18, Try.ntmps68, Try.results68]
          exact Fin.eq (by rw [cmpI_sub, h4]) rfl
      · simp only [q, ne_eq, not_false_eq_true, if_true] at h4
        have q1 : (cmpT e e' != 0) = true := by simp [q]
        simp only [run0, run1, run2, run3, run4, run5, run6, run7, run8, run9, run10, run11, run12, run13, run14, run15, run16, run17, run18, run19, run20, run21, run22, reduceCtorEq, Nat.reduceEqDiff, Nat.reduceAdd, Nat.reduceSub, Nat.reduceLeDiff, indexAddrA, indexRefA, appendA, strA, Nat.reduceMul, Nat.zero_mul, Nat.reduceMod, Int.reduceEq, Int.reduceLT, Int.reduceLE, Nat.reduceLT, Nat.lt_irrefl, Nat.reduceBEq, tys0, tys1, tys2, tys3, tys4, tys5, tys6, tys7, tys8, tys9, tys10, tys11, tys12, tys13, tys14, tys15, tys16, tys17, tys18, Try.ntmps68, Try.results68, q1]
        exact Fin.eq (by rw [h4]) rfl
termination_by a.sz

end Go.Proofs.Ytphmkhaboghagaa
/-
  Ordinals: the program's comparing.
-/
namespace Go.Proofs.Ytphmkhaboghagaa
open Go K Od
set_option linter.unusedSimpArgs false
set_option linter.unusedVariables false
set_option maxHeartbeats 400000

def termQ (e e' : Od) (c c' : Int) : Int := if cmpT e e' ≠ 0 then cmpT e e' else cmpI c c'
theorem termQ_cons (e e' r r' : Od) (c c' : Int) : cmpT (cons e c r) (cons e' c' r') = if termQ e e' c c' ≠ 0 then termQ e e' c c' else cmpT r r' := by
  rw [cmpT_cons]
  unfold termQ
  by_cases q : cmpT e e' = 0
  · simp only [q, ne_eq, not_true_eq_false, if_false]
    by_cases h : c = c'
    · subst h; simp [cmpI]
    · have : ¬ cmpI c c' = 0 := by rcases cmpI_cases c c' with h2 | h2 | h2 <;> omega
      simp only [h, this, not_false_eq_true, if_true]
  · simp only [q, ne_eq, not_false_eq_true, if_true]

theorem cmpTerms_of {e e' : Od} {c c' : Int} (h : Ct Try.prog 71 [av e, av e'] [] (.int .i64 (cmpT e e')) []) :
    Ct Try.prog 108 [.agg [.sl false (elems e), .int .i64 c], .agg [.sl false (elems e'), .int .i64 c']] [] (.int .i64 (termQ e e' c c')) [] := by
  refine Ct.by_ hmix [] Try.func108 rfl ?_
  simp only [run0, run1, run2, run3, run4, run5, run6, run7, run8, run9, run10, run11, run12, run13, run14, run15, run16, run17, run18, run19, run20, run21, run22, reduceCtorEq, Nat.reduceEqDiff, Nat.reduceAdd, Nat.reduceSub, Nat.reduceLeDiff, indexAddrA, indexRefA, appendA, strA, Nat.reduceMul, Nat.zero_mul, Nat.reduceMod, Int.reduceEq, Int.reduceLT, Int.reduceLE, Nat.reduceLT, Nat.lt_irrefl, Nat.reduceBEq, tys0, tys1, tys2, tys3, tys4, tys5, tys6, tys7, tys8, tys9, tys10, tys11, tys12, tys13, tys14, tys15, tys16, tys17, tys18, Try.ntmps108, Try.results108, pay]
  refine RunL.callp rfl rfl ok_f71 (h) (by first | rfl | simp only [pureL, pureB, Bool.and_self, Bool.and_true, Bool.true_and, Od.elems_pure, Od.pay_pure, Od.av_pure]) rfl ?_
  simp only [run0, run1, run2, run3, run4, run5, run6, run7, run8, run9, run10, run11, run12, run13, run14, run15, run16, run17, run18, run19, run20, run21, run22, reduceCtorEq, Nat.reduceEqDiff, Nat.reduceAdd, Nat.reduceSub, Nat.reduceLeDiff, indexAddrA, indexRefA, appendA, strA, Nat.reduceMul, Nat.zero_mul, Nat.reduceMod, Int.reduceEq, Int.reduceLT, Int.reduceLE, Nat.reduceLT, Nat.lt_irrefl, Nat.reduceBEq, tys0, tys1, tys2, tys3, tys4, tys5, tys6, tys7, tys8, tys9, tys10, tys11, tys12, tys13, tys14, tys15, tys16, tys17, tys18, Try.ntmps108, Try.results108]
  by_cases q : cmpT e e' = 0
  · have q1 : (cmpT e e' != 0) = false := by simp [q]
    simp only [run0, run1, run2, run3, run4, run5, run6, run7, run8, run9, run10, run11, run12, run13, run14, run15, run16, run17, run18, run19, run20, run21, run22, reduceCtorEq, Nat.reduceEqDiff, Nat.reduceAdd, Nat.reduceSub, Nat.reduceLeDiff, indexAddrA, indexRefA, appendA, strA, Nat.reduceMul, Nat.zero_mul, Nat.reduceMod, Int.reduceEq, Int.reduceLT, Int.reduceLE, Nat.reduceLT, Nat.lt_irrefl, Nat.reduceBEq, tys0, tys1, tys2, tys3, tys4, tys5, tys6, tys7, tys8, tys9, tys10, tys11, tys12, tys13, tys14, tys15, tys16, tys17, tys18, Try.ntmps108, Try.results108, q1]
    refine RunL.callp rfl rfl ok_f122 (compare_ok c c') (by first | rfl | simp only [pureL, pureB, Bool.and_self, Bool.and_true, Bool.true_and, Od.elems_pure, Od.pay_pure, Od.av_pure]) rfl ?_
    simp only [run0, run1, run2, run3, run4, run5, run6, run7, run8, run9, run10, run11, run12, run13, run14, run15, run16, run17, run18, run19, run20, run21, run22, reduceCtorEq, Nat.reduceEqDiff, Nat.reduceAdd, Nat.reduceSub, Nat.reduceLeDiff, indexAddrA, indexRefA, appendA, strA, Nat.reduceMul, Nat.zero_mul, Nat.reduceMod, Int.reduceEq, Int.reduceLT, Int.reduceLE, Nat.reduceLT, Nat.lt_irrefl, Nat.reduceBEq, tys0, tys1, tys2, tys3, tys4, tys5, tys6, tys7, tys8, tys9, tys10, tys11, tys12, tys13, tys14, tys15, tys16, tys17, tys18, Try.ntmps108, Try.results108]
    exact Fin.eq (by simp [termQ, q]) rfl
  · have q1 : (cmpT e e' != 0) = true := by simp [q]
    simp only [run0, run1, run2, run3, run4, run5, run6, run7, run8, run9, run10, run11, run12, run13, run14, run15, run16, run17, run18, run19, run20, run21, run22, reduceCtorEq, Nat.reduceEqDiff, Nat.reduceAdd, Nat.reduceSub, Nat.reduceLeDiff, indexAddrA, indexRefA, appendA, strA, Nat.reduceMul, Nat.zero_mul, Nat.reduceMod, Int.reduceEq, Int.reduceLT, Int.reduceLE, Nat.reduceLT, Nat.lt_irrefl, Nat.reduceBEq, tys0, tys1, tys2, tys3, tys4, tys5, tys6, tys7, tys8, tys9, tys10, tys11, tys12, tys13, tys14, tys15, tys16, tys17, tys18, Try.ntmps108, Try.results108, q1]
    exact Fin.eq (by simp [termQ, q]) rfl

theorem compareFunc_of {a b : Od} (ha : a.sz ≤ 1048576) (hb : b.sz ≤ 1048576) (h : ∀ e e' : Od, e.sz < a.sz → e'.sz ≤ b.sz → Ct Try.prog 71 [av e, av e'] [] (.int .i64 (cmpT e e')) []) :
    Ct Try.prog 107 [.sl false (elems a), .sl false (elems b), .fn 108 []] [] (.int .i64 (cmpT a b)) [] := by
  refine Ct.by_ hmix [] Try.func107 rfl ?_
  simp only [run0, run1, run2, run3, run4, run5, run6, run7, run8, run9, run10, run11, run12, run13, run14, run15, run16, run17, run18, run19, run20, run21, run22, reduceCtorEq, Nat.reduceEqDiff, Nat.reduceAdd, Nat.reduceSub, Nat.reduceLeDiff, indexAddrA, indexRefA, appendA, strA, Nat.reduceMul, Nat.zero_mul, Nat.reduceMod, Int.reduceEq, Int.reduceLT, Int.reduceLE, Nat.reduceLT, Nat.lt_irrefl, Nat.reduceBEq, tys0, tys1, tys2, tys3, tys4, tys5, tys6, tys7, tys8, tys9, tys10, tys11, tys12, tys13, tys14, tys15, tys16, tys17, tys18, Try.ntmps107, Try.results107, elems_length]
  refine AWp.loop_inv (ι := (Od × Od) × (Od × Od) × List AObj) (fun p => ⟨[.sl false (elems a), .sl false (elems b), .fn 108 [], .junk, .junk, .junk, .int .i64 0, .junk, .junk, .junk, .junk, .sl false (elems a), .int .i64 a.len, .int .i64 p.1.1.len, .junk, .junk, .junk, .junk, .junk, .junk, .junk, .junk, .junk, .junk, .junk, .junk, .junk, .junk, .junk, .junk, .junk, .junk, .junk, .junk, .junk, .junk, .junk, .junk, .junk], p.2.2⟩)
    (fun p => a = p.1.1.app p.1.2 ∧ b = p.2.1.1.app p.2.1.2 ∧ p.1.1.len = p.2.1.1.len ∧ cmpT p.1.2 p.2.1.2 = cmpT a b) (fun p => p.1.2.len) ((.nil, a), (.nil, b), []) ⟨rfl, rfl, rfl, rfl⟩ ⟨by simp only [len, Int.natCast_zero]; repeat constructor, rfl⟩ ?_
  rintro ⟨⟨d, r⟩, ⟨d', r'⟩, X⟩ ⟨h1, h2, h3, h4⟩
  refine W.sound hmix (E := []) ?_
  simp only at h1 h2 h3 h4
  cases r with
  | nil =>
    obtain ⟨e1, rfl⟩ := od_end h1
    simp only [run0, run1, run2, run3, run4, run5, run6, run7, run8, run9, run10, run11, run12, run13, run14, run15, run16, run17, run18, run19, run20, run21, run22, reduceCtorEq, Nat.reduceEqDiff, Nat.reduceAdd, Nat.reduceSub, Nat.reduceLeDiff, indexAddrA, indexRefA, appendA, strA, Nat.reduceMul, Nat.zero_mul, Nat.reduceMod, Int.reduceEq, Int.reduceLT, Int.reduceLE, Nat.reduceLT, Nat.lt_irrefl, Nat.reduceBEq, tys0, tys1, tys2, tys3, tys4, tys5, tys6, tys7, tys8, tys9, tys10, tys11, tys12, tys13, tys14, tys15, tys16, tys17, tys18, Try.ntmps107, Try.results107, elems_length, e1]
    cases r' with
    | nil =>
      obtain ⟨_, rfl⟩ := od_end h2
      have e2 : ¬ ((a.len : Int) < (b.len : Int)) := by omega
      simp only [run0, run1, run2, run3, run4, run5, run6, run7, run8, run9, run10, run11, run12, run13, run14, run15, run16, run17, run18, run19, run20, run21, run22, reduceCtorEq, Nat.reduceEqDiff, Nat.reduceAdd, Nat.reduceSub, Nat.reduceLeDiff, indexAddrA, indexRefA, appendA, strA, Nat.reduceMul, Nat.zero_mul, Nat.reduceMod, Int.reduceEq, Int.reduceLT, Int.reduceLE, Nat.reduceLT, Nat.lt_irrefl, Nat.reduceBEq, tys0, tys1, tys2, tys3, tys4, tys5, tys6, tys7, tys8, tys9, tys10, tys11, tys12, tys13, tys14, tys15, tys16, tys17, tys18, Try.ntmps107, Try.results107, elems_length, e2]
      exact Fin.eq (by rw [← h4]; rfl) rfl
    | cons e' c' r' =>
      have e2 := (od_step h2 hb).1
      rw [← h3] at e2
      simp only [run0, run1, run2, run3, run4, run5, run6, run7, run8, run9, run10, run11, run12, run13, run14, run15, run16, run17, run18, run19, run20, run21, run22, reduceCtorEq, Nat.reduceEqDiff, Nat.reduceAdd, Nat.reduceSub, Nat.reduceLeDiff, indexAddrA, indexRefA, appendA, strA, Nat.reduceMul, Nat.zero_mul, Nat.reduceMod, Int.reduceEq, Int.reduceLT, Int.reduceLE, Nat.reduceLT, Nat.lt_irrefl, Nat.reduceBEq, tys0, tys1, tys2, tys3, tys4, tys5, tys6, tys7, tys8, tys9, tys10, tys11, tys12, tys13, tys14, tys15, tys16, tys17, tys18, Try.ntmps107, Try.results107, elems_length, e2]
      exact Fin.eq (by rw [← h4]; rfl) rfl
  | cons e c r =>
    obtain ⟨e1, e2, e5, hlt, hn, _⟩ := od_step h1 ha
    cases r' with
    | nil =>
      obtain ⟨_, rfl⟩ := od_end h2
      have e3 : (b.len : Int) ≤ (d.len : Int) := by omega
      simp only [run0, run1, run2, run3, run4, run5, run6, run7, run8, run9, run10, run11, run12, run13, run14, run15, run16, run17, run18, run19, run20, run21, run22, reduceCtorEq, Nat.reduceEqDiff, Nat.reduceAdd, Nat.reduceSub, Nat.reduceLeDiff, indexAddrA, indexRefA, appendA, strA, Nat.reduceMul, Nat.zero_mul, Nat.reduceMod, Int.reduceEq, Int.reduceLT, Int.reduceLE, Nat.reduceLT, Nat.lt_irrefl, Nat.reduceBEq, tys0, tys1, tys2, tys3, tys4, tys5, tys6, tys7, tys8, tys9, tys10, tys11, tys12, tys13, tys14, tys15, tys16, tys17, tys18, Try.ntmps107, Try.results107, elems_length, e1, e2, e3, Int.toNat_natCast, Int.natCast_nonneg]
      exact Fin.eq (by rw [← h4]; rfl) rfl
    | cons e' c' r' =>
      obtain ⟨f1, f2, f5, hlt', hn', _⟩ := od_step h2 hb
      rw [← h3] at f1 f2
      have e3 : ¬ ((b.len : Int) ≤ (d.len : Int)) := by omega
      simp only [run0, run1, run2, run3, run4, run5, run6, run7, run8, run9, run10, run11, run12, run13, run14, run15, run16, run17, run18, run19, run20, run21, run22, reduceCtorEq, Nat.reduceEqDiff, Nat.reduceAdd, Nat.reduceSub, Nat.reduceLeDiff, indexAddrA, indexRefA, appendA, strA, Nat.reduceMul, Nat.zero_mul, Nat.reduceMod, Int.reduceEq, Int.reduceLT, Int.reduceLE, Nat.reduceLT, Nat.lt_irrefl, Nat.reduceBEq, tys0, tys1, tys2, tys3, tys4, tys5, tys6, tys7, tys8, tys9, tys10, tys11, tys12, tys13, tys14, tys15, tys16, tys17, tys18, Try.ntmps107, Try.results107, elems_length, e1, e2, e3, f2, Int.toNat_natCast, Int.natCast_nonneg]
      refine RunL.callcp rfl rfl rfl ok_f108 rfl (cmpTerms_of (c := c) (c' := c') (h e e' hlt (by omega))) (by first | rfl | simp only [pureL, pureB, Bool.and_self, Bool.and_true, Bool.true_and, Od.elems_pure, Od.pay_pure, Od.av_pure]) rfl ?_
      simp only [run0, run1, run2, run3, run4, run5, run6, run7, run8, run9, run10, run11, run12, run13, run14, run15, run16, run17, run18, run19, run20, run21, run22, reduceCtorEq, Nat.reduceEqDiff, Nat.reduceAdd, Nat.reduceSub, Nat.reduceLeDiff, indexAddrA, indexRefA, appendA, strA, Nat.reduceMul, Nat.zero_mul, Nat.reduceMod, Int.reduceEq, Int.reduceLT, Int.reduceLE, Nat.reduceLT, Nat.lt_irrefl, Nat.reduceBEq, tys0, tys1, tys2, tys3, tys4, tys5, tys6, tys7, tys8, tys9, tys10, tys11, tys12, tys13, tys14, tys15, tys16, tys17, tys18, Try.ntmps107, Try.results107]
      rw [termQ_cons] at h4
      by_cases q : termQ e e' c c' = 0
      · simp only [q, ne_eq, not_true_eq_false, if_false] at h4
        have q1 : (termQ e e' c c' != 0) = false := by simp [q]
        simp only [run0, run1, run2, run3, run4, run5, run6, run7, run8, run9, run10, run11, run12, run13, run14, run15, run16, run17, run18, run19, run20, run21, run22, reduceCtorEq, Nat.reduceEqDiff, Nat.reduceAdd, Nat.reduceSub, Nat.reduceLeDiff, indexAddrA, indexRefA, appendA, strA, Nat.reduceMul, Nat.zero_mul, Nat.reduceMod, Int.reduceEq, Int.reduceLT, Int.reduceLE, Nat.reduceLT, Nat.lt_irrefl, Nat.reduceBEq, tys0, tys1, tys2, tys3, tys4, tys5, tys6, tys7, tys8, tys9, tys10, tys11, tys12, tys13, tys14, tys15, tys16, tys17, tys18, Try.ntmps107, Try.results107, q1, e5]
        exact ⟨((d.app (cons e c nil), r), (d'.app (cons e' c' nil), r'), _), ⟨hn.symm, hn'.symm, by simp only [len_app, len, h3], h4⟩, by simp [len], by repeat constructor, rfl⟩
      · simp only [q, ne_eq, not_false_eq_true, if_true] at h4
        have q1 : (termQ e e' c c' != 0) = true := by simp [q]
        simp only [run0, run1, run2, run3, run4, run5, run6, run7, run8, run9, run10, run11, run12, run13, run14, run15, run16, run17, run18, run19, run20, run21, run22, reduceCtorEq, Nat.reduceEqDiff, Nat.reduceAdd, Nat.reduceSub, Nat.reduceLeDiff, indexAddrA, indexRefA, appendA, strA, Nat.reduceMul, Nat.zero_mul, Nat.reduceMod, Int.reduceEq, Int.reduceLT, Int.reduceLE, Nat.reduceLT, Nat.lt_irrefl, Nat.reduceBEq, tys0, tys1, tys2, tys3, tys4, tys5, tys6, tys7, tys8, tys9, tys10, tys11, tys12, tys13, tys14, tys15, tys16, tys17, tys18, Try.ntmps107, Try.results107, q1]
        exact Fin.eq (by rw [h4]) rfl

theorem cmp_ok (a b : Od) (ha : a.sz ≤ 1048576) (hb : b.sz ≤ 1048576) : Ct Try.prog 71 [av a, av b] [] (.int .i64 (cmpT a b)) [] := by
  refine Ct.by_ hmix [] Try.func71 rfl ?_
  simp only [run0, run1, run2, run3, run4, run5, run6, run7, run8, run9, run10, run11, run12, run13, run14, run15, run16, run17, run18, run19, run20, run21, run22, reduceCtorEq, Nat.reduceEqDiff, Nat.reduceAdd, Nat.reduceSub, Nat.reduceLeDiff, indexAddrA, indexRefA, appendA, strA, Nat.reduceMul, Nat.zero_mul, Nat.reduceMod, Int.reduceEq, Int.reduceLT, Int.reduceLE, Nat.reduceLT, Nat.lt_irrefl, Nat.reduceBEq, tys0, tys1, tys2, tys3, tys4, tys5, tys6, tys7, tys8, tys9, tys10, tys11, tys12, tys13, tys14, tys15, tys16, tys17, tys18, Try.ntmps71, Try.results71, av]
  refine RunL.callp rfl rfl ok_f107 (compareFunc_of ha hb (fun e e' h1 h2 => cmp_ok e e' (by omega) (by omega))) (by first | rfl | simp only [pureL, pureB, Bool.and_self, Bool.and_true, Bool.true_and, Od.elems_pure, Od.pay_pure, Od.av_pure]) rfl ?_
  simp only [run0, run1, run2, run3, run4, run5, run6, run7, run8, run9, run10, run11, run12, run13, run14, run15, run16, run17, run18, run19, run20, run21, run22, reduceCtorEq, Nat.reduceEqDiff, Nat.reduceAdd, Nat.reduceSub, Nat.reduceLeDiff, indexAddrA, indexRefA, appendA, strA, Nat.reduceMul, Nat.zero_mul, Nat.reduceMod, Int.reduceEq, Int.reduceLT, Int.reduceLE, Nat.reduceLT, Nat.lt_irrefl, Nat.reduceBEq, tys0, tys1, tys2, tys3, tys4, tys5, tys6, tys7, tys8, tys9, tys10, tys11, tys12, tys13, tys14, tys15, tys16, tys17, tys18, Try.ntmps71, Try.results71]
  exact Fin.eq rfl rfl
termination_by a.sz

end Go.Proofs.Ytphmkhaboghagaa
/-
  Ordinals: which are right, by the reference.
-/
namespace Go.Proofs.Ytphmkhaboghagaa
open Go K Od
set_option linter.unusedSimpArgs false
set_option linter.unusedVariables false
set_option maxHeartbeats 400000

theorem leftL_lo : ∀ (a : Od) (n : Nat) (l B : Int), -3 ≤ l → l ≤ B → 0 ≤ B → -3 ≤ leftL a n l ∧ leftL a n l ≤ B
  | .nil, n, l, B, h1, h2, _ => ⟨h1, h2⟩
  | .cons e c r, n, l, B, h1, h2, h3 => by
    unfold leftL
    split
    · omega
    · have := leftL_lo e (n - 1) (l - 2) B (by omega) (by omega) h3
      exact leftL_lo r n _ B this.1 this.2 h3

theorem odLeft_ok (a : Od) (n : Nat) (l : Int) (hs : a.sz ≤ 1048576) (hn : n ≤ 6) (h0 : -2 ≤ l) (h1 : l ≤ 1000) : Ct Try.prog 95 [av a, .int .i64 n, .int .i64 l] [] (.int .i64 (leftL a n (l - 1))) [] := by
  refine Ct.by_ hmix [] Try.func95 rfl ?_
  have hw : IntKind.i64.wrap (l - 1) = l - 1 := w64_id (by omega) (by omega)
  simp only [run0, run1, run2, run3, run4, run5, run6, run7, run8, run9, run10, run11, run12, run13, run14, run15, run16, run17, run18, run19, run20, run21, run22, reduceCtorEq, Nat.reduceEqDiff, Nat.reduceAdd, Nat.reduceSub, Nat.reduceLeDiff, indexAddrA, indexRefA, appendA, strA, Nat.reduceMul, Nat.zero_mul, Nat.reduceMod, Int.reduceEq, Int.reduceLT, Int.reduceLE, Nat.reduceLT, Nat.lt_irrefl, Nat.reduceBEq, tys0, tys1, tys2, tys3, tys4, tys5, tys6, tys7, tys8, tys9, tys10, tys11, tys12, tys13, tys14, tys15, tys16, tys17, tys18, Try.ntmps95, Try.results95, av, elems_length, hw]
  refine AWp.loop_inv (ι := Od × Od × Int × List AObj) (fun p => ⟨[.agg [.sl false (elems a)], .int .i64 n, .int .i64 p.2.2.1, .ptr 0 0, .junk, .junk, .int .i64 0, .junk, .junk, .junk, .junk, .junk, .sl false (elems a), .int .i64 a.len, .int .i64 p.1.len, .junk, .junk, .junk, .junk, .junk, .junk, .junk, .junk, .junk, .junk, .junk, .junk, .junk, .junk, .junk, .junk, .junk, .junk], .box 24 [.sl false (elems a)] :: p.2.2.2⟩)
    (fun p => a = p.1.app p.2.1 ∧ leftL p.2.1 n p.2.2.1 = leftL a n (l - 1) ∧ -3 ≤ p.2.2.1 ∧ p.2.2.1 ≤ 1000) (fun p => p.2.1.len) (.nil, a, l - 1, []) ⟨rfl, rfl, by simp only; omega, by simp only; omega⟩ ⟨by simp only [len, Int.natCast_zero]; repeat constructor, rfl⟩ ?_
  rintro ⟨d, r, l', X⟩ ⟨ha, h2, h3, h4⟩
  refine W.sound hmix (E := []) ?_
  simp only at ha h2 h3 h4
  cases r with
  | nil =>
    obtain ⟨e1, rfl⟩ := od_end ha
    simp only [run0, run1, run2, run3, run4, run5, run6, run7, run8, run9, run10, run11, run12, run13, run14, run15, run16, run17, run18, run19, run20, run21, run22, reduceCtorEq, Nat.reduceEqDiff, Nat.reduceAdd, Nat.reduceSub, Nat.reduceLeDiff, indexAddrA, indexRefA, appendA, strA, Nat.reduceMul, Nat.zero_mul, Nat.reduceMod, Int.reduceEq, Int.reduceLT, Int.reduceLE, Nat.reduceLT, Nat.lt_irrefl, Nat.reduceBEq, tys0, tys1, tys2, tys3, tys4, tys5, tys6, tys7, tys8, tys9, tys10, tys11, tys12, tys13, tys14, tys15, tys16, tys17, tys18, Try.ntmps95, Try.results95, elems_length, e1]
    exact Fin.eq (by rw [← h2]; rfl) rfl
  | cons e c r =>
    obtain ⟨e1, e2, e5, hlt, hnx, _⟩ := od_step ha hs
    rw [leftL_cons] at h2
    by_cases hl : l' < 0
    · rw [if_pos (.inl hl)] at h2
      simp only [run0, run1, run2, run3, run4, run5, run6, run7, run8, run9, run10, run11, run12, run13, run14, run15, run16, run17, run18, run19, run20, run21, run22, reduceCtorEq, Nat.reduceEqDiff, Nat.reduceAdd, Nat.reduceSub, Nat.reduceLeDiff, indexAddrA, indexRefA, appendA, strA, Nat.reduceMul, Nat.zero_mul, Nat.reduceMod, Int.reduceEq, Int.reduceLT, Int.reduceLE, Nat.reduceLT, Nat.lt_irrefl, Nat.reduceBEq, tys0, tys1, tys2, tys3, tys4, tys5, tys6, tys7, tys8, tys9, tys10, tys11, tys12, tys13, tys14, tys15, tys16, tys17, tys18, Try.ntmps95, Try.results95, elems_length, e1, e2, hl, Int.toNat_natCast, Int.natCast_nonneg]
      exact Fin.eq (by rw [← h2]) rfl
    cases n with
    | zero =>
      rw [if_pos (.inr rfl)] at h2
      simp only [run0, run1, run2, run3, run4, run5, run6, run7, run8, run9, run10, run11, run12, run13, run14, run15, run16, run17, run18, run19, run20, run21, run22, reduceCtorEq, Nat.reduceEqDiff, Nat.reduceAdd, Nat.reduceSub, Nat.reduceLeDiff, indexAddrA, indexRefA, appendA, strA, Nat.reduceMul, Nat.zero_mul, Nat.reduceMod, Int.reduceEq, Int.reduceLT, Int.reduceLE, Nat.reduceLT, Nat.lt_irrefl, Nat.reduceBEq, tys0, tys1, tys2, tys3, tys4, tys5, tys6, tys7, tys8, tys9, tys10, tys11, tys12, tys13, tys14, tys15, tys16, tys17, tys18, Try.ntmps95, Try.results95, elems_length, e1, e2, hl, Int.toNat_natCast, Int.natCast_nonneg, Int.natCast_zero]
      exact Fin.eq (by rw [← h2]) rfl
    | succ n =>
      rw [if_neg (by omega)] at h2
      have hn0 : (((n + 1 : Nat) : Int) == 0) = false := by simp; omega
      have w1 : IntKind.i64.wrap (((n + 1 : Nat) : Int) - 1) = (n : Int) := by rw [w64_id (by omega) (by omega)]; omega
      have w2 : IntKind.i64.wrap (l' - 1) = l' - 1 := w64_id (by omega) (by omega)
      have hb := leftL_lo e n (l' - 2) 1000 (by omega) (by omega) (by omega)
      simp only [run0, run1, run2, run3, run4, run5, run6, run7, run8, run9, run10, run11, run12, run13, run14, run15, run16, run17, run18, run19, run20, run21, run22, reduceCtorEq, Nat.reduceEqDiff, Nat.reduceAdd, Nat.reduceSub, Nat.reduceLeDiff, indexAddrA, indexRefA, appendA, strA, Nat.reduceMul, Nat.zero_mul, Nat.reduceMod, Int.reduceEq, Int.reduceLT, Int.reduceLE, Nat.reduceLT, Nat.lt_irrefl, Nat.reduceBEq, tys0, tys1, tys2, tys3, tys4, tys5, tys6, tys7, tys8, tys9, tys10, tys11, tys12, tys13, tys14, tys15, tys16, tys17, tys18, Try.ntmps95, Try.results95, elems_length, e1, e2, hl, hn0, w1, w2, Int.toNat_natCast, Int.natCast_nonneg]
      refine RunL.callp rfl rfl ok_f95 (odLeft_ok e n (l' - 1) (by omega) (by omega) (by omega) (by omega)) (by first | rfl | simp only [pureL, pureB, Bool.and_self, Bool.and_true, Bool.true_and, Od.elems_pure, Od.pay_pure, Od.av_pure]) rfl ?_
      simp only [run0, run1, run2, run3, run4, run5, run6, run7, run8, run9, run10, run11, run12, run13, run14, run15, run16, run17, run18, run19, run20, run21, run22, reduceCtorEq, Nat.reduceEqDiff, Nat.reduceAdd, Nat.reduceSub, Nat.reduceLeDiff, indexAddrA, indexRefA, appendA, strA, Nat.reduceMul, Nat.zero_mul, Nat.reduceMod, Int.reduceEq, Int.reduceLT, Int.reduceLE, Nat.reduceLT, Nat.lt_irrefl, Nat.reduceBEq, tys0, tys1, tys2, tys3, tys4, tys5, tys6, tys7, tys8, tys9, tys10, tys11, tys12, tys13, tys14, tys15, tys16, tys17, tys18, Try.ntmps95, Try.results95, e5]
      exact ⟨(d.app (cons e c nil), r, leftL e n (l' - 1 - 1), _), ⟨hnx.symm, by rw [← h2, show l' - 1 - 1 = l' - 2 by omega]; rfl, by rw [show l' - 1 - 1 = l' - 2 by omega]; exact hb.1, by rw [show l' - 1 - 1 = l' - 2 by omega]; exact hb.2⟩, by simp [len], by repeat constructor, rfl⟩
termination_by a.sz

theorem odForm_neg (a : Od) : Ct Try.prog 96 [av a, .int .i64 (-1)] [] (.bool false) [] := by
  refine Ct.by_ hmix [] Try.func96 rfl ?_
  simp only [run0, run1, run2, run3, run4, run5, run6, run7, run8, run9, run10, run11, run12, run13, run14, run15, run16, run17, run18, run19, run20, run21, run22, reduceCtorEq, Nat.reduceEqDiff, Nat.reduceAdd, Nat.reduceSub, Nat.reduceLeDiff, indexAddrA, indexRefA, appendA, strA, Nat.reduceMul, Nat.zero_mul, Nat.reduceMod, Int.reduceEq, Int.reduceLT, Int.reduceLE, Nat.reduceLT, Nat.lt_irrefl, Nat.reduceBEq, tys0, tys1, tys2, tys3, tys4, tys5, tys6, tys7, tys8, tys9, tys10, tys11, tys12, tys13, tys14, tys15, tys16, tys17, tys18, Try.ntmps96, Try.results96, av, elems_length, Int.reduceLT]
  exact Fin.eq rfl rfl

/-- The term ahead. -/
def Ahead (d : Od) : Option (Od × Od × Int) → Prop
  | none => d = nil
  | some (d0, p, c) => d = d0.app (cons p c nil)
def aheadE : Option (Od × Od × Int) → Option Od
  | none => none
  | some (_, p, _) => some p

theorem odForm_ok (a : Od) (n : Nat) (hs : a.sz ≤ 1048576) (hn : n ≤ 6) : Ct Try.prog 96 [av a, .int .i64 n] [] (.bool (formG a n none)) [] := by
  refine Ct.by_ hmix [] Try.func96 rfl ?_
  have hn0 : ¬ ((n : Int) < 0) := by omega
  simp only [run0, run1, run2, run3, run4, run5, run6, run7, run8, run9, run10, run11, run12, run13, run14, run15, run16, run17, run18, run19, run20, run21, run22, reduceCtorEq, Nat.reduceEqDiff, Nat.reduceAdd, Nat.reduceSub, Nat.reduceLeDiff, indexAddrA, indexRefA, appendA, strA, Nat.reduceMul, Nat.zero_mul, Nat.reduceMod, Int.reduceEq, Int.reduceLT, Int.reduceLE, Nat.reduceLT, Nat.lt_irrefl, Nat.reduceBEq, tys0, tys1, tys2, tys3, tys4, tys5, tys6, tys7, tys8, tys9, tys10, tys11, tys12, tys13, tys14, tys15, tys16, tys17, tys18, Try.ntmps96, Try.results96, av, elems_length, hn0]
  refine AWp.loop_inv (ι := Od × Od × Option (Od × Od × Int) × List AObj) (fun p => ⟨[.agg [.sl false (elems a)], .int .i64 n, .ptr 0 0, .junk, .bool false, .junk, .junk, .junk, .junk, .junk, .sl false (elems a), .int .i64 a.len, .int .i64 p.1.len, .junk, .junk, .junk, .junk, .junk, .junk, .junk, .junk, .junk, .junk, .junk, .junk, .junk, .junk, .junk, .junk, .junk, .junk, .junk, .junk, .junk, .junk, .junk, .junk, .junk, .junk, .junk, .junk, .junk, .junk, .junk, .junk, .junk, .junk], .box 24 [.sl false (elems a)] :: p.2.2.2⟩)
    (fun p => a = p.1.app p.2.1 ∧ Ahead p.1 p.2.2.1 ∧ formG p.2.1 n (aheadE p.2.2.1) = formG a n none ∧ (formG a n none = true → rng a) ∧ (∀ d0 q c, p.2.2.1 = some (d0, q, c) → rng q ∧ q.sz < a.sz)) (fun p => p.2.1.len) (.nil, a, none, []) ⟨rfl, rfl, rfl, formG_rng, by intro _ _ _ h; cases h⟩ ⟨by simp only [len, Int.natCast_zero]; repeat constructor, rfl⟩ ?_
  rintro ⟨d, r, P, X⟩ ⟨ha, hA, h2, hr, hq⟩
  refine W.sound hmix (E := []) ?_
  simp only at ha hA h2 hr hq
  cases r with
  | nil =>
    obtain ⟨e1, rfl⟩ := od_end ha
    simp only [run0, run1, run2, run3, run4, run5, run6, run7, run8, run9, run10, run11, run12, run13, run14, run15, run16, run17, run18, run19, run20, run21, run22, reduceCtorEq, Nat.reduceEqDiff, Nat.reduceAdd, Nat.reduceSub, Nat.reduceLeDiff, indexAddrA, indexRefA, appendA, strA, Nat.reduceMul, Nat.zero_mul, Nat.reduceMod, Int.reduceEq, Int.reduceLT, Int.reduceLE, Nat.reduceLT, Nat.lt_irrefl, Nat.reduceBEq, tys0, tys1, tys2, tys3, tys4, tys5, tys6, tys7, tys8, tys9, tys10, tys11, tys12, tys13, tys14, tys15, tys16, tys17, tys18, Try.ntmps96, Try.results96, elems_length, e1]
    exact Fin.eq (by rw [← h2]; rfl) rfl
  | cons e c r =>
    obtain ⟨e1, e2, e5, hlt, hnx, _⟩ := od_step ha hs
    simp only [run0, run1, run2, run3, run4, run5, run6, run7, run8, run9, run10, run11, run12, run13, run14, run15, run16, run17, run18, run19, run20, run21, run22, reduceCtorEq, Nat.reduceEqDiff, Nat.reduceAdd, Nat.reduceSub, Nat.reduceLeDiff, indexAddrA, indexRefA, appendA, strA, Nat.reduceMul, Nat.zero_mul, Nat.reduceMod, Int.reduceEq, Int.reduceLT, Int.reduceLE, Nat.reduceLT, Nat.lt_irrefl, Nat.reduceBEq, tys0, tys1, tys2, tys3, tys4, tys5, tys6, tys7, tys8, tys9, tys10, tys11, tys12, tys13, tys14, tys15, tys16, tys17, tys18, Try.ntmps96, Try.results96, elems_length, e1, e2, Int.toNat_natCast, Int.natCast_nonneg]
    refine ⟨by kernel_rfl, ?_⟩
    refine RunL.callp rfl rfl ok_f59 (l1In_ok c 1 1000000) (by first | rfl | simp only [pureL, pureB, Bool.and_self, Bool.and_true, Bool.true_and, Od.elems_pure, Od.pay_pure, Od.av_pure]) rfl ?_
    cases hc : inB c 1 1000000
    · have hf : formG a n none = false := by rw [← h2]; simp [formG_cons, hc]
      simp only [run0, run1, run2, run3, run4, run5, run6, run7, run8, run9, run10, run11, run12, run13, run14, run15, run16, run17, run18, run19, run20, run21, run22, reduceCtorEq, Nat.reduceEqDiff, Nat.reduceAdd, Nat.reduceSub, Nat.reduceLeDiff, indexAddrA, indexRefA, appendA, strA, Nat.reduceMul, Nat.zero_mul, Nat.reduceMod, Int.reduceEq, Int.reduceLT, Int.reduceLE, Nat.reduceLT, Nat.lt_irrefl, Nat.reduceBEq, tys0, tys1, tys2, tys3, tys4, tys5, tys6, tys7, tys8, tys9, tys10, tys11, tys12, tys13, tys14, tys15, tys16, tys17, tys18, Try.ntmps96, Try.results96, hc]
      exact Fin.eq (by rw [hf]) rfl
    have hce : Ct Try.prog 96 [av e, .int .i64 (IntKind.i64.wrap ((n : Int) - 1))] [] (.bool (formP e n)) [] := by
      cases n with
      | zero => rw [show IntKind.i64.wrap (((0 : Nat) : Int) - 1) = -1 from rfl]; exact odForm_neg e
      | succ n =>
        rw [show IntKind.i64.wrap (((n + 1 : Nat) : Int) - 1) = (n : Int) by rw [w64_id (by omega) (by omega)]; omega]
        exact odForm_ok e n (by omega) (by omega)
    rw [formG_cons, hc] at h2
    simp only [Bool.true_and] at h2
    simp only [run0, run1, run2, run3, run4, run5, run6, run7, run8, run9, run10, run11, run12, run13, run14, run15, run16, run17, run18, run19, run20, run21, run22, reduceCtorEq, Nat.reduceEqDiff, Nat.reduceAdd, Nat.reduceSub, Nat.reduceLeDiff, indexAddrA, indexRefA, appendA, strA, Nat.reduceMul, Nat.zero_mul, Nat.reduceMod, Int.reduceEq, Int.reduceLT, Int.reduceLE, Nat.reduceLT, Nat.lt_irrefl, Nat.reduceBEq, tys0, tys1, tys2, tys3, tys4, tys5, tys6, tys7, tys8, tys9, tys10, tys11, tys12, tys13, tys14, tys15, tys16, tys17, tys18, Try.ntmps96, Try.results96, hc]
    refine RunL.callp rfl rfl ok_f96 (hce) (by first | rfl | simp only [pureL, pureB, Bool.and_self, Bool.and_true, Bool.true_and, Od.elems_pure, Od.pay_pure, Od.av_pure]) rfl ?_
    cases hqe : formP e n
    · have hf : formG a n none = false := by rw [← h2]; simp [hqe]
      simp only [run0, run1, run2, run3, run4, run5, run6, run7, run8, run9, run10, run11, run12, run13, run14, run15, run16, run17, run18, run19, run20, run21, run22, reduceCtorEq, Nat.reduceEqDiff, Nat.reduceAdd, Nat.reduceSub, Nat.reduceLeDiff, indexAddrA, indexRefA, appendA, strA, Nat.reduceMul, Nat.zero_mul, Nat.reduceMod, Int.reduceEq, Int.reduceLT, Int.reduceLE, Nat.reduceLT, Nat.lt_irrefl, Nat.reduceBEq, tys0, tys1, tys2, tys3, tys4, tys5, tys6, tys7, tys8, tys9, tys10, tys11, tys12, tys13, tys14, tys15, tys16, tys17, tys18, Try.ntmps96, Try.results96, hqe]
      exact Fin.eq (by rw [hf]) rfl
    have hre : rng e := by
      cases n with
      | zero => cases hqe
      | succ n => exact formG_rng hqe
    simp only [hqe, Bool.true_and] at h2
    cases P with
    | none =>
      simp only [Ahead] at hA
      subst hA
      simp only [aheadE, below, Bool.true_and] at h2
      simp only [run0, run1, run2, run3, run4, run5, run6, run7, run8, run9, run10, run11, run12, run13, run14, run15, run16, run17, run18, run19, run20, run21, run22, reduceCtorEq, Nat.reduceEqDiff, Nat.reduceAdd, Nat.reduceSub, Nat.reduceLeDiff, indexAddrA, indexRefA, appendA, strA, Nat.reduceMul, Nat.zero_mul, Nat.reduceMod, Int.reduceEq, Int.reduceLT, Int.reduceLE, Nat.reduceLT, Nat.lt_irrefl, Nat.reduceBEq, tys0, tys1, tys2, tys3, tys4, tys5, tys6, tys7, tys8, tys9, tys10, tys11, tys12, tys13, tys14, tys15, tys16, tys17, tys18, Try.ntmps96, Try.results96, hqe, e5, len, Int.natCast_zero, Int.lt_irrefl]
      exact ⟨(nil.app (cons e c nil), r, some (nil, e, c), _), ⟨hnx.symm, rfl, h2, hr, by intro _ _ _ h; cases h; exact ⟨hre, hlt⟩⟩, by simp [len], by repeat constructor, rfl⟩
    | some P =>
      obtain ⟨d0, p, cp⟩ := P
      simp only [Ahead] at hA
      obtain ⟨hrp, hps⟩ := hq d0 p cp rfl
      have e6 : (0 : Int) < (d.len : Int) := by rw [hA, len_app]; simp only [len]; omega
      have hap : a = d0.app (cons p cp (cons e c r)) := by rw [ha, hA, app_assoc]; rfl
      obtain ⟨_, e8, _, _, _, _⟩ := od_step hap hs
      have e7 : IntKind.i64.wrap ((d.len : Int) - 1) = (d0.len : Int) := by
        have := len_le a
        rw [w64_id (by omega) (by omega), hA, len_app]; simp [len]
      have e9 : (d0.len : Int) < (a.len : Int) := (od_step hap hs).1
      simp only [run0, run1, run2, run3, run4, run5, run6, run7, run8, run9, run10, run11, run12, run13, run14, run15, run16, run17, run18, run19, run20, run21, run22, reduceCtorEq, Nat.reduceEqDiff, Nat.reduceAdd, Nat.reduceSub, Nat.reduceLeDiff, indexAddrA, indexRefA, appendA, strA, Nat.reduceMul, Nat.zero_mul, Nat.reduceMod, Int.reduceEq, Int.reduceLT, Int.reduceLE, Nat.reduceLT, Nat.lt_irrefl, Nat.reduceBEq, tys0, tys1, tys2, tys3, tys4, tys5, tys6, tys7, tys8, tys9, tys10, tys11, tys12, tys13, tys14, tys15, tys16, tys17, tys18, Try.ntmps96, Try.results96, hqe, e6, e7, e8, e9, elems_length, Int.toNat_natCast, Int.natCast_nonneg]
      refine RunL.callp rfl rfl ok_f68 (odCmp_ok p e (by omega) (by omega) hrp hre) (by first | rfl | simp only [pureL, pureB, Bool.and_self, Bool.and_true, Bool.true_and, Od.elems_pure, Od.pay_pure, Od.av_pure]) rfl ?_
      simp only [aheadE, below] at h2
      by_cases hcm : 0 < cmpT p e
      · simp only [hcm, decide_true, Bool.true_and] at h2
        have e10 : ¬ (cmpT p e ≤ 0) := by omega
        simp only [run0, run1, run2, run3, run4, run5, run6, run7, run8, run9, run10, run11, run12, run13, run14, run15, run16, run17, run18, run19, run20, run21, run22, reduceCtorEq, Nat.reduceEqDiff, Nat.reduceAdd, Nat.reduceSub, Nat.reduceLeDiff, indexAddrA, indexRefA, appendA, strA, Nat.reduceMul, Nat.zero_mul, Nat.reduceMod, Int.reduceEq, Int.reduceLT, Int.reduceLE, Nat.reduceLT, Nat.lt_irrefl, Nat.reduceBEq, tys0, tys1, tys2, tys3, tys4, tys5, tys6, tys7, tys8, tys9, tys10, tys11, tys12, tys13, tys14, tys15, tys16, tys17, tys18, Try.ntmps96, Try.results96, e10, e5]
        exact ⟨(d.app (cons e c nil), r, some (d, e, c), _), ⟨hnx.symm, rfl, h2, hr, by intro _ _ _ h; cases h; exact ⟨hre, hlt⟩⟩, by simp [len], by repeat constructor, rfl⟩
      · simp only [hcm, decide_false, Bool.false_and] at h2
        have e10 : cmpT p e ≤ 0 := by omega
        simp only [run0, run1, run2, run3, run4, run5, run6, run7, run8, run9, run10, run11, run12, run13, run14, run15, run16, run17, run18, run19, run20, run21, run22, reduceCtorEq, Nat.reduceEqDiff, Nat.reduceAdd, Nat.reduceSub, Nat.reduceLeDiff, indexAddrA, indexRefA, appendA, strA, Nat.reduceMul, Nat.zero_mul, Nat.reduceMod, Int.reduceEq, Int.reduceLT, Int.reduceLE, Nat.reduceLT, Nat.lt_irrefl, Nat.reduceBEq, tys0, tys1, tys2, tys3, tys4, tys5, tys6, tys7, tys8, tys9, tys10, tys11, tys12, tys13, tys14, tys15, tys16, tys17, tys18, Try.ntmps96, Try.results96, e10]
        exact Fin.eq (by rw [← h2]) rfl
termination_by a.sz

theorem odGood_ok (a : Od) (hs : a.sz ≤ 1048576) : Ct Try.prog 58 [av a] [] (.bool (goodT a)) [] := by
  have h := left_good a
  have h1 : Ct Try.prog 95 [av a, .int .i64 6, .int .i64 60] [] (.int .i64 (leftL a 6 (60 - 1))) [] := odLeft_ok a 6 60 hs (by omega) (by omega) (by omega)
  have h2 : Ct Try.prog 96 [av a, .int .i64 6] [] (.bool (formG a 6 none)) [] := odForm_ok a 6 hs (by omega)
  refine Ct.by_ hmix [] Try.func58 rfl ?_
  simp only [run0, run1, run2, run3, run4, run5, run6, run7, run8, run9, run10, run11, run12, run13, run14, run15, run16, run17, run18, run19, run20, run21, run22, reduceCtorEq, Nat.reduceEqDiff, Nat.reduceAdd, Nat.reduceSub, Nat.reduceLeDiff, indexAddrA, indexRefA, appendA, strA, Nat.reduceMul, Nat.zero_mul, Nat.reduceMod, Int.reduceEq, Int.reduceLT, Int.reduceLE, Nat.reduceLT, Nat.lt_irrefl, Nat.reduceBEq, tys0, tys1, tys2, tys3, tys4, tys5, tys6, tys7, tys8, tys9, tys10, tys11, tys12, tys13, tys14, tys15, tys16, tys17, tys18, Try.ntmps58, Try.results58, av]
  refine RunL.callp rfl rfl ok_f95 (h1) (by first | rfl | simp only [pureL, pureB, Bool.and_self, Bool.and_true, Bool.true_and, Od.elems_pure, Od.pay_pure, Od.av_pure]) rfl ?_
  simp only [run0, run1, run2, run3, run4, run5, run6, run7, run8, run9, run10, run11, run12, run13, run14, run15, run16, run17, run18, run19, run20, run21, run22, reduceCtorEq, Nat.reduceEqDiff, Nat.reduceAdd, Nat.reduceSub, Nat.reduceLeDiff, indexAddrA, indexRefA, appendA, strA, Nat.reduceMul, Nat.zero_mul, Nat.reduceMod, Int.reduceEq, Int.reduceLT, Int.reduceLE, Nat.reduceLT, Nat.lt_irrefl, Nat.reduceBEq, tys0, tys1, tys2, tys3, tys4, tys5, tys6, tys7, tys8, tys9, tys10, tys11, tys12, tys13, tys14, tys15, tys16, tys17, tys18, Try.ntmps58, Try.results58]
  by_cases hl : 0 ≤ leftL a 6 59
  · have e1 : (0 : Int) ≤ leftL a 6 (60 - 1) := hl
    simp only [hl, decide_true, Bool.true_and] at h
    simp only [run0, run1, run2, run3, run4, run5, run6, run7, run8, run9, run10, run11, run12, run13, run14, run15, run16, run17, run18, run19, run20, run21, run22, reduceCtorEq, Nat.reduceEqDiff, Nat.reduceAdd, Nat.reduceSub, Nat.reduceLeDiff, indexAddrA, indexRefA, appendA, strA, Nat.reduceMul, Nat.zero_mul, Nat.reduceMod, Int.reduceEq, Int.reduceLT, Int.reduceLE, Nat.reduceLT, Nat.lt_irrefl, Nat.reduceBEq, tys0, tys1, tys2, tys3, tys4, tys5, tys6, tys7, tys8, tys9, tys10, tys11, tys12, tys13, tys14, tys15, tys16, tys17, tys18, Try.ntmps58, Try.results58, e1]
    refine RunL.callp rfl rfl ok_f96 (h2) (by first | rfl | simp only [pureL, pureB, Bool.and_self, Bool.and_true, Bool.true_and, Od.elems_pure, Od.pay_pure, Od.av_pure]) rfl ?_
    simp only [run0, run1, run2, run3, run4, run5, run6, run7, run8, run9, run10, run11, run12, run13, run14, run15, run16, run17, run18, run19, run20, run21, run22, reduceCtorEq, Nat.reduceEqDiff, Nat.reduceAdd, Nat.reduceSub, Nat.reduceLeDiff, indexAddrA, indexRefA, appendA, strA, Nat.reduceMul, Nat.zero_mul, Nat.reduceMod, Int.reduceEq, Int.reduceLT, Int.reduceLE, Nat.reduceLT, Nat.lt_irrefl, Nat.reduceBEq, tys0, tys1, tys2, tys3, tys4, tys5, tys6, tys7, tys8, tys9, tys10, tys11, tys12, tys13, tys14, tys15, tys16, tys17, tys18, Try.ntmps58, Try.results58]
    exact Fin.eq (by rw [h]) rfl
  · have e1 : ¬ (0 : Int) ≤ leftL a 6 (60 - 1) := hl
    simp only [hl, decide_false, Bool.false_and] at h
    simp only [run0, run1, run2, run3, run4, run5, run6, run7, run8, run9, run10, run11, run12, run13, run14, run15, run16, run17, run18, run19, run20, run21, run22, reduceCtorEq, Nat.reduceEqDiff, Nat.reduceAdd, Nat.reduceSub, Nat.reduceLeDiff, indexAddrA, indexRefA, appendA, strA, Nat.reduceMul, Nat.zero_mul, Nat.reduceMod, Int.reduceEq, Int.reduceLT, Int.reduceLE, Nat.reduceLT, Nat.lt_irrefl, Nat.reduceBEq, tys0, tys1, tys2, tys3, tys4, tys5, tys6, tys7, tys8, tys9, tys10, tys11, tys12, tys13, tys14, tys15, tys16, tys17, tys18, Try.ntmps58, Try.results58, e1]
    exact Fin.eq (by rw [← h]) rfl

end Go.Proofs.Ytphmkhaboghagaa
/-
  Ordinals: which are right, by the program.
-/
namespace Go.Proofs.Ytphmkhaboghagaa
open Go K Od
set_option linter.unusedSimpArgs false
set_option linter.unusedVariables false
set_option maxHeartbeats 1000000

/-- A node's answer and the count behind it. -/
def atT (a : Od) (d : Nat) (k : Int) : Bool × Int := if 60 < k + 1 ∨ 6 < d then (false, k + 1) else atL a d (k + 1) none
theorem atL_cons (e r : Od) (c : Int) (d : Nat) (k : Int) (p : Option Od) : atL (.cons e c r) d k p =
    if 60 < k + 1 ∨ inB c 1 1000000 = false then (false, k + 1)
    else if (atT e (d + 1) (k + 1)).1 = false then (false, (atT e (d + 1) (k + 1)).2)
    else if below p e = false then (false, (atT e (d + 1) (k + 1)).2)
    else atL r d (atT e (d + 1) (k + 1)).2 (some e) := by
  unfold atT
  rw [atL, show k + 1 + 1 = k + 2 by omega]
  split
  · rfl
  · split
    · simp
    · rfl
theorem atL_some {a : Od} {d : Nat} {k : Int} {p : Option Od} (hd : d ≤ 6) (hk : k ≤ 60) (h : (atL a d k p).1 = true) : (atL a d k p).2 ≤ 60 ∧ k ≤ (atL a d k p).2 := by
  have h1 := atL_spec a d (6 - d) k p (by omega) hk
  have h2 := h1.1.1 h
  have h3 := h1.2 h
  omega
theorem atT_some {a : Od} {d : Nat} {k : Int} (h : (atT a d k).1 = true) : (atT a d k).2 ≤ 60 ∧ k < (atT a d k).2 := by
  unfold atT at *
  split at h
  · cases h
  · rename_i hc
    rw [if_neg hc]
    have := atL_some (by omega) (by omega) h
    omega

theorem ordinalAt_ok (a : Od) (ys : List AV) (d : Nat) (k : Int) (L : List AObj) (id : Nat) (hs : a.sz ≤ 1048576) (hd : d ≤ 7) (h0 : 0 ≤ k) (hk : k ≤ 60) (hL : L[id]? = some (.box 3 [.int .i64 k])) :
    Ct Try.prog 99 [.rptr (.agg (.sl false (elems a) :: ys)) 0, .int .i64 d, .ptr id 0] L (.bool (atT a d k).1) (L.set id (.box 3 [.int .i64 (atT a d k).2])) := by
  have hidl := (List.getElem?_eq_some_iff.1 hL).1
  have hget : ∀ X, (L.set id X)[id]? = some X := fun X => List.getElem?_set_self hidl
  have w1 : IntKind.i64.wrap (k + 1) = k + 1 := w64_id (by omega) (by omega)
  refine Ct.by_ hmix [] Try.func99 rfl ?_
  simp only [run0, run1, run2, run3, run4, run5, run6, run7, run8, run9, run10, run11, run12, run13, run14, run15, run16, run17, run18, run19, run20, run21, run22, reduceCtorEq, Nat.reduceEqDiff, Nat.reduceAdd, Nat.reduceSub, Nat.reduceLeDiff, indexAddrA, indexRefA, appendA, strA, Nat.reduceMul, Nat.zero_mul, Nat.reduceMod, Int.reduceEq, Int.reduceLT, Int.reduceLE, Nat.reduceLT, Nat.lt_irrefl, Nat.reduceBEq, tys0, tys1, tys2, tys3, tys4, tys5, tys6, tys7, tys8, tys9, tys10, tys11, tys12, tys13, tys14, tys15, tys16, tys17, tys18, Try.ntmps99, Try.results99, hL, hget, w1, List.set_set]
  by_cases c1 : 60 < k + 1
  · have hz : atT a d k = (false, k + 1) := by unfold atT; rw [if_pos (.inl c1)]
    simp only [run0, run1, run2, run3, run4, run5, run6, run7, run8, run9, run10, run11, run12, run13, run14, run15, run16, run17, run18, run19, run20, run21, run22, reduceCtorEq, Nat.reduceEqDiff, Nat.reduceAdd, Nat.reduceSub, Nat.reduceLeDiff, indexAddrA, indexRefA, appendA, strA, Nat.reduceMul, Nat.zero_mul, Nat.reduceMod, Int.reduceEq, Int.reduceLT, Int.reduceLE, Nat.reduceLT, Nat.lt_irrefl, Nat.reduceBEq, tys0, tys1, tys2, tys3, tys4, tys5, tys6, tys7, tys8, tys9, tys10, tys11, tys12, tys13, tys14, tys15, tys16, tys17, tys18, Try.ntmps99, Try.results99, c1, hL, hget]
    rw [hz]
    exact Fin.own rfl rfl
  by_cases c2 : 6 < d
  · have hz : atT a d k = (false, k + 1) := by unfold atT; rw [if_pos (.inr c2)]
    have c3 : (6 : Int) < (d : Int) := by omega
    simp only [run0, run1, run2, run3, run4, run5, run6, run7, run8, run9, run10, run11, run12, run13, run14, run15, run16, run17, run18, run19, run20, run21, run22, reduceCtorEq, Nat.reduceEqDiff, Nat.reduceAdd, Nat.reduceSub, Nat.reduceLeDiff, indexAddrA, indexRefA, appendA, strA, Nat.reduceMul, Nat.zero_mul, Nat.reduceMod, Int.reduceEq, Int.reduceLT, Int.reduceLE, Nat.reduceLT, Nat.lt_irrefl, Nat.reduceBEq, tys0, tys1, tys2, tys3, tys4, tys5, tys6, tys7, tys8, tys9, tys10, tys11, tys12, tys13, tys14, tys15, tys16, tys17, tys18, Try.ntmps99, Try.results99, c1, c3, hL, hget]
    rw [hz]
    exact Fin.own rfl rfl
  have hz : atT a d k = atL a d (k + 1) none := by unfold atT; rw [if_neg (by omega)]
  have c3 : ¬ (6 : Int) < (d : Int) := by omega
  rw [hz]
  simp only [run0, run1, run2, run3, run4, run5, run6, run7, run8, run9, run10, run11, run12, run13, run14, run15, run16, run17, run18, run19, run20, run21, run22, reduceCtorEq, Nat.reduceEqDiff, Nat.reduceAdd, Nat.reduceSub, Nat.reduceLeDiff, indexAddrA, indexRefA, appendA, strA, Nat.reduceMul, Nat.zero_mul, Nat.reduceMod, Int.reduceEq, Int.reduceLT, Int.reduceLE, Nat.reduceLT, Nat.lt_irrefl, Nat.reduceBEq, tys0, tys1, tys2, tys3, tys4, tys5, tys6, tys7, tys8, tys9, tys10, tys11, tys12, tys13, tys14, tys15, tys16, tys17, tys18, Try.ntmps99, Try.results99, c1, c3, hL, hget, elems_length]
  refine AWp.loop_inv (ι := Od × Od × Option (Od × Od × Int) × Int) (fun p => ⟨[.rptr (.agg (.sl false (elems a) :: ys)) 0, .int .i64 d, .ptr id 0, .junk, .junk, .junk, .bool false, .junk, .junk, .junk, .junk, .junk, .junk, .junk, .junk, .junk, .junk, .junk, .junk, .junk, .junk, .junk, .junk, .junk, .junk, .sl false (elems a), .int .i64 a.len, .int .i64 p.1.len, .junk, .junk, .junk, .junk, .junk, .junk, .junk, .junk, .junk, .junk, .junk, .junk, .junk, .junk, .junk, .junk, .junk, .junk, .junk, .junk, .junk, .junk, .junk, .junk, .junk, .junk, .junk, .junk, .junk, .junk, .junk, .junk, .junk, .junk, .junk, .junk, .junk, .junk, .junk, .junk, .junk, .junk, .junk, .junk, .junk, .junk, .junk, .junk, .junk, .junk, .junk, .junk, .junk, .junk, .junk], L.set id (.box 3 [.int .i64 p.2.2.2])⟩)
    (fun p => a = p.1.app p.2.1 ∧ Ahead p.1 p.2.2.1 ∧ atL p.2.1 d p.2.2.2 (aheadE p.2.2.1) = atL a d (k + 1) none ∧ 0 ≤ p.2.2.2 ∧ p.2.2.2 ≤ 60) (fun p => p.2.1.len) (.nil, a, none, k + 1) ⟨rfl, rfl, rfl, by simp only; omega, by simp only; omega⟩ ⟨by simp only [len, Int.natCast_zero]; repeat constructor, rfl⟩ ?_
  rintro ⟨dn, r, P, q⟩ ⟨ha, hA, h2, h3, h4⟩
  refine W.sound hmix (E := []) ?_
  simp only at ha hA h2 h3 h4
  cases r with
  | nil =>
    obtain ⟨e1, rfl⟩ := od_end ha
    simp only [run0, run1, run2, run3, run4, run5, run6, run7, run8, run9, run10, run11, run12, run13, run14, run15, run16, run17, run18, run19, run20, run21, run22, reduceCtorEq, Nat.reduceEqDiff, Nat.reduceAdd, Nat.reduceSub, Nat.reduceLeDiff, indexAddrA, indexRefA, appendA, strA, Nat.reduceMul, Nat.zero_mul, Nat.reduceMod, Int.reduceEq, Int.reduceLT, Int.reduceLE, Nat.reduceLT, Nat.lt_irrefl, Nat.reduceBEq, tys0, tys1, tys2, tys3, tys4, tys5, tys6, tys7, tys8, tys9, tys10, tys11, tys12, tys13, tys14, tys15, tys16, tys17, tys18, Try.ntmps99, Try.results99, elems_length, e1]
    rw [← h2]
    exact Fin.own rfl rfl
  | cons e c r =>
    obtain ⟨e1, e2, e5, hlt, hnx, _⟩ := od_step ha hs
    rw [atL_cons] at h2
    have w2 : IntKind.i64.wrap (q + 1) = q + 1 := w64_id (by omega) (by omega)
    simp only [run0, run1, run2, run3, run4, run5, run6, run7, run8, run9, run10, run11, run12, run13, run14, run15, run16, run17, run18, run19, run20, run21, run22, reduceCtorEq, Nat.reduceEqDiff, Nat.reduceAdd, Nat.reduceSub, Nat.reduceLeDiff, indexAddrA, indexRefA, appendA, strA, Nat.reduceMul, Nat.zero_mul, Nat.reduceMod, Int.reduceEq, Int.reduceLT, Int.reduceLE, Nat.reduceLT, Nat.lt_irrefl, Nat.reduceBEq, tys0, tys1, tys2, tys3, tys4, tys5, tys6, tys7, tys8, tys9, tys10, tys11, tys12, tys13, tys14, tys15, tys16, tys17, tys18, Try.ntmps99, Try.results99, hget, w2, List.set_set, elems_length, e1, e2, Int.toNat_natCast, Int.natCast_nonneg]
    by_cases c4 : 60 < q + 1
    · rw [if_pos (.inl c4)] at h2
      simp only [run0, run1, run2, run3, run4, run5, run6, run7, run8, run9, run10, run11, run12, run13, run14, run15, run16, run17, run18, run19, run20, run21, run22, reduceCtorEq, Nat.reduceEqDiff, Nat.reduceAdd, Nat.reduceSub, Nat.reduceLeDiff, indexAddrA, indexRefA, appendA, strA, Nat.reduceMul, Nat.zero_mul, Nat.reduceMod, Int.reduceEq, Int.reduceLT, Int.reduceLE, Nat.reduceLT, Nat.lt_irrefl, Nat.reduceBEq, tys0, tys1, tys2, tys3, tys4, tys5, tys6, tys7, tys8, tys9, tys10, tys11, tys12, tys13, tys14, tys15, tys16, tys17, tys18, Try.ntmps99, Try.results99, c4]
      rw [← h2]
      exact Fin.own rfl rfl
    simp only [run0, run1, run2, run3, run4, run5, run6, run7, run8, run9, run10, run11, run12, run13, run14, run15, run16, run17, run18, run19, run20, run21, run22, reduceCtorEq, Nat.reduceEqDiff, Nat.reduceAdd, Nat.reduceSub, Nat.reduceLeDiff, indexAddrA, indexRefA, appendA, strA, Nat.reduceMul, Nat.zero_mul, Nat.reduceMod, Int.reduceEq, Int.reduceLT, Int.reduceLE, Nat.reduceLT, Nat.lt_irrefl, Nat.reduceBEq, tys0, tys1, tys2, tys3, tys4, tys5, tys6, tys7, tys8, tys9, tys10, tys11, tys12, tys13, tys14, tys15, tys16, tys17, tys18, Try.ntmps99, Try.results99, c4]
    refine RunL.callp rfl rfl ok_f50 (in_ok c 1 1000000) (by first | rfl | simp only [pureL, pureB, Bool.and_self, Bool.and_true, Bool.true_and, Od.elems_pure, Od.pay_pure, Od.av_pure]) rfl ?_
    cases hc : inB c 1 1000000
    · rw [if_pos (.inr hc)] at h2
      simp only [run0, run1, run2, run3, run4, run5, run6, run7, run8, run9, run10, run11, run12, run13, run14, run15, run16, run17, run18, run19, run20, run21, run22, reduceCtorEq, Nat.reduceEqDiff, Nat.reduceAdd, Nat.reduceSub, Nat.reduceLeDiff, indexAddrA, indexRefA, appendA, strA, Nat.reduceMul, Nat.zero_mul, Nat.reduceMod, Int.reduceEq, Int.reduceLT, Int.reduceLE, Nat.reduceLT, Nat.lt_irrefl, Nat.reduceBEq, tys0, tys1, tys2, tys3, tys4, tys5, tys6, tys7, tys8, tys9, tys10, tys11, tys12, tys13, tys14, tys15, tys16, tys17, tys18, Try.ntmps99, Try.results99, hc]
      rw [← h2]
      exact Fin.own rfl rfl
    rw [if_neg (by simp [c4, hc])] at h2
    have w3 : IntKind.i64.wrap ((d : Int) + 1) = ((d + 1 : Nat) : Int) := by rw [w64_id (by omega) (by omega)]; omega
    simp only [run0, run1, run2, run3, run4, run5, run6, run7, run8, run9, run10, run11, run12, run13, run14, run15, run16, run17, run18, run19, run20, run21, run22, reduceCtorEq, Nat.reduceEqDiff, Nat.reduceAdd, Nat.reduceSub, Nat.reduceLeDiff, indexAddrA, indexRefA, appendA, strA, Nat.reduceMul, Nat.zero_mul, Nat.reduceMod, Int.reduceEq, Int.reduceLT, Int.reduceLE, Nat.reduceLT, Nat.lt_irrefl, Nat.reduceBEq, tys0, tys1, tys2, tys3, tys4, tys5, tys6, tys7, tys8, tys9, tys10, tys11, tys12, tys13, tys14, tys15, tys16, tys17, tys18, Try.ntmps99, Try.results99, hc, w3]
    refine RunL.call rfl rfl rfl ok_f99 rfl (.inl rfl) (ordinalAt_ok e [.int .i64 c] (d + 1) (q + 1) (L.set id (.box 3 [.int .i64 (q + 1)])) id (by omega) (by omega) (by omega) (by omega) (hget _)) ?_
    cases ht : (atT e (d + 1) (q + 1)).1
    · rw [if_pos ht] at h2
      simp only [run0, run1, run2, run3, run4, run5, run6, run7, run8, run9, run10, run11, run12, run13, run14, run15, run16, run17, run18, run19, run20, run21, run22, reduceCtorEq, Nat.reduceEqDiff, Nat.reduceAdd, Nat.reduceSub, Nat.reduceLeDiff, indexAddrA, indexRefA, appendA, strA, Nat.reduceMul, Nat.zero_mul, Nat.reduceMod, Int.reduceEq, Int.reduceLT, Int.reduceLE, Nat.reduceLT, Nat.lt_irrefl, Nat.reduceBEq, tys0, tys1, tys2, tys3, tys4, tys5, tys6, tys7, tys8, tys9, tys10, tys11, tys12, tys13, tys14, tys15, tys16, tys17, tys18, Try.ntmps99, Try.results99, List.set_set]
      rw [← h2]
      exact Fin.own rfl rfl
    rw [if_neg (by simp [ht])] at h2
    obtain ⟨k1, k2⟩ := atT_some ht
    generalize hQ : (atT e (d + 1) (q + 1)).2 = Q at *
    cases P with
    | none =>
      simp only [Ahead] at hA
      subst hA
      simp only [aheadE, below, Bool.true_eq_false, if_false] at h2
      simp only [run0, run1, run2, run3, run4, run5, run6, run7, run8, run9, run10, run11, run12, run13, run14, run15, run16, run17, run18, run19, run20, run21, run22, reduceCtorEq, Nat.reduceEqDiff, Nat.reduceAdd, Nat.reduceSub, Nat.reduceLeDiff, indexAddrA, indexRefA, appendA, strA, Nat.reduceMul, Nat.zero_mul, Nat.reduceMod, Int.reduceEq, Int.reduceLT, Int.reduceLE, Nat.reduceLT, Nat.lt_irrefl, Nat.reduceBEq, tys0, tys1, tys2, tys3, tys4, tys5, tys6, tys7, tys8, tys9, tys10, tys11, tys12, tys13, tys14, tys15, tys16, tys17, tys18, Try.ntmps99, Try.results99, List.set_set, e5, len, Int.natCast_zero, Int.lt_irrefl]
      refine ⟨by kernel_rfl, (nil.app (cons e c nil), r, some (nil, e, c), Q), ⟨hnx.symm, rfl, h2, by simp only; omega, by simp only; omega⟩, by simp [len], by repeat constructor, rfl⟩
    | some P =>
      obtain ⟨d0, p, cp⟩ := P
      simp only [Ahead] at hA
      have e6 : (0 : Int) < (dn.len : Int) := by rw [hA, len_app]; simp only [len]; omega
      have hap : a = d0.app (cons p cp (cons e c r)) := by rw [ha, hA, app_assoc]; rfl
      obtain ⟨e9, e8, _, hps, _, _⟩ := od_step hap hs
      have hll := len_le a
      have e7 : IntKind.i64.wrap ((dn.len : Int) - 1) = (d0.len : Int) := by
        rw [w64_id (by omega) (by omega), hA, len_app]; simp [len]
      simp only [run0, run1, run2, run3, run4, run5, run6, run7, run8, run9, run10, run11, run12, run13, run14, run15, run16, run17, run18, run19, run20, run21, run22, reduceCtorEq, Nat.reduceEqDiff, Nat.reduceAdd, Nat.reduceSub, Nat.reduceLeDiff, indexAddrA, indexRefA, appendA, strA, Nat.reduceMul, Nat.zero_mul, Nat.reduceMod, Int.reduceEq, Int.reduceLT, Int.reduceLE, Nat.reduceLT, Nat.lt_irrefl, Nat.reduceBEq, tys0, tys1, tys2, tys3, tys4, tys5, tys6, tys7, tys8, tys9, tys10, tys11, tys12, tys13, tys14, tys15, tys16, tys17, tys18, Try.ntmps99, Try.results99, List.set_set, e6, e7, e8, e9, hget, elems_length, Int.toNat_natCast, Int.natCast_nonneg]
      refine ⟨by kernel_rfl, ?_⟩
      refine RunL.callp rfl rfl ok_f71 (cmp_ok p e (by omega) (by omega)) (by first | rfl | simp only [pureL, pureB, Bool.and_self, Bool.and_true, Bool.true_and, Od.elems_pure, Od.pay_pure, Od.av_pure]) rfl ?_
      simp only [aheadE, below] at h2
      by_cases hcm : 0 < cmpT p e
      · simp only [hcm, decide_true, Bool.true_eq_false, if_false] at h2
        have e10 : ¬ (cmpT p e ≤ 0) := by omega
        simp only [run0, run1, run2, run3, run4, run5, run6, run7, run8, run9, run10, run11, run12, run13, run14, run15, run16, run17, run18, run19, run20, run21, run22, reduceCtorEq, Nat.reduceEqDiff, Nat.reduceAdd, Nat.reduceSub, Nat.reduceLeDiff, indexAddrA, indexRefA, appendA, strA, Nat.reduceMul, Nat.zero_mul, Nat.reduceMod, Int.reduceEq, Int.reduceLT, Int.reduceLE, Nat.reduceLT, Nat.lt_irrefl, Nat.reduceBEq, tys0, tys1, tys2, tys3, tys4, tys5, tys6, tys7, tys8, tys9, tys10, tys11, tys12, tys13, tys14, tys15, tys16, tys17, tys18, Try.ntmps99, Try.results99, e10, e5]
        exact ⟨(dn.app (cons e c nil), r, some (dn, e, c), Q), ⟨hnx.symm, rfl, h2, by simp only; omega, by simp only; omega⟩, by simp [len], by repeat constructor, rfl⟩
      · simp only [hcm, decide_false, if_true] at h2
        have e10 : cmpT p e ≤ 0 := by omega
        simp only [run0, run1, run2, run3, run4, run5, run6, run7, run8, run9, run10, run11, run12, run13, run14, run15, run16, run17, run18, run19, run20, run21, run22, reduceCtorEq, Nat.reduceEqDiff, Nat.reduceAdd, Nat.reduceSub, Nat.reduceLeDiff, indexAddrA, indexRefA, appendA, strA, Nat.reduceMul, Nat.zero_mul, Nat.reduceMod, Int.reduceEq, Int.reduceLT, Int.reduceLE, Nat.reduceLT, Nat.lt_irrefl, Nat.reduceBEq, tys0, tys1, tys2, tys3, tys4, tys5, tys6, tys7, tys8, tys9, tys10, tys11, tys12, tys13, tys14, tys15, tys16, tys17, tys18, Try.ntmps99, Try.results99, e10]
        rw [← h2]
        exact Fin.own rfl rfl
termination_by a.sz

theorem ordinalAtP_ok (a : Od) (i : Nat) (d : Nat) (k : Int) (L : List AObj) (id : Nat) (hs : a.sz ≤ 1048576) (hd : d ≤ 7) (h0 : 0 ≤ k) (hk : k ≤ 60) (hL : L[id]? = some (.box 3 [.int .i64 k])) (hi : L[i]? = some (.box 24 [.sl false (elems a)])) (hne : i ≠ id) :
    Ct Try.prog 99 [.ptr i 0, .int .i64 d, .ptr id 0] L (.bool (atT a d k).1) (L.set id (.box 3 [.int .i64 (atT a d k).2])) := by
  have hidl := (List.getElem?_eq_some_iff.1 hL).1
  have hget : ∀ X, (L.set id X)[id]? = some X := fun X => List.getElem?_set_self hidl
  have hgi : ∀ X, (L.set id X)[i]? = some (.box 24 [.sl false (elems a)]) := fun X => by rw [List.getElem?_set_ne (fun q => hne q.symm)]; exact hi
  have w1 : IntKind.i64.wrap (k + 1) = k + 1 := w64_id (by omega) (by omega)
  refine Ct.by_ hmix [] Try.func99 rfl ?_
  simp only [run0, run1, run2, run3, run4, run5, run6, run7, run8, run9, run10, run11, run12, run13, run14, run15, run16, run17, run18, run19, run20, run21, run22, reduceCtorEq, Nat.reduceEqDiff, Nat.reduceAdd, Nat.reduceSub, Nat.reduceLeDiff, indexAddrA, indexRefA, appendA, strA, Nat.reduceMul, Nat.zero_mul, Nat.reduceMod, Int.reduceEq, Int.reduceLT, Int.reduceLE, Nat.reduceLT, Nat.lt_irrefl, Nat.reduceBEq, tys0, tys1, tys2, tys3, tys4, tys5, tys6, tys7, tys8, tys9, tys10, tys11, tys12, tys13, tys14, tys15, tys16, tys17, tys18, Try.ntmps99, Try.results99, hL, hget, w1, List.set_set]
  by_cases c1 : 60 < k + 1
  · have hz : atT a d k = (false, k + 1) := by unfold atT; rw [if_pos (.inl c1)]
    simp only [run0, run1, run2, run3, run4, run5, run6, run7, run8, run9, run10, run11, run12, run13, run14, run15, run16, run17, run18, run19, run20, run21, run22, reduceCtorEq, Nat.reduceEqDiff, Nat.reduceAdd, Nat.reduceSub, Nat.reduceLeDiff, indexAddrA, indexRefA, appendA, strA, Nat.reduceMul, Nat.zero_mul, Nat.reduceMod, Int.reduceEq, Int.reduceLT, Int.reduceLE, Nat.reduceLT, Nat.lt_irrefl, Nat.reduceBEq, tys0, tys1, tys2, tys3, tys4, tys5, tys6, tys7, tys8, tys9, tys10, tys11, tys12, tys13, tys14, tys15, tys16, tys17, tys18, Try.ntmps99, Try.results99, c1, hL, hget]
    rw [hz]
    exact Fin.own rfl rfl
  by_cases c2 : 6 < d
  · have hz : atT a d k = (false, k + 1) := by unfold atT; rw [if_pos (.inr c2)]
    have c3 : (6 : Int) < (d : Int) := by omega
    simp only [run0, run1, run2, run3, run4, run5, run6, run7, run8, run9, run10, run11, run12, run13, run14, run15, run16, run17, run18, run19, run20, run21, run22, reduceCtorEq, Nat.reduceEqDiff, Nat.reduceAdd, Nat.reduceSub, Nat.reduceLeDiff, indexAddrA, indexRefA, appendA, strA, Nat.reduceMul, Nat.zero_mul, Nat.reduceMod, Int.reduceEq, Int.reduceLT, Int.reduceLE, Nat.reduceLT, Nat.lt_irrefl, Nat.reduceBEq, tys0, tys1, tys2, tys3, tys4, tys5, tys6, tys7, tys8, tys9, tys10, tys11, tys12, tys13, tys14, tys15, tys16, tys17, tys18, Try.ntmps99, Try.results99, c1, c3, hL, hget]
    rw [hz]
    exact Fin.own rfl rfl
  have hz : atT a d k = atL a d (k + 1) none := by unfold atT; rw [if_neg (by omega)]
  have c3 : ¬ (6 : Int) < (d : Int) := by omega
  rw [hz]
  simp only [run0, run1, run2, run3, run4, run5, run6, run7, run8, run9, run10, run11, run12, run13, run14, run15, run16, run17, run18, run19, run20, run21, run22, reduceCtorEq, Nat.reduceEqDiff, Nat.reduceAdd, Nat.reduceSub, Nat.reduceLeDiff, indexAddrA, indexRefA, appendA, strA, Nat.reduceMul, Nat.zero_mul, Nat.reduceMod, Int.reduceEq, Int.reduceLT, Int.reduceLE, Nat.reduceLT, Nat.lt_irrefl, Nat.reduceBEq, tys0, tys1, tys2, tys3, tys4, tys5, tys6, tys7, tys8, tys9, tys10, tys11, tys12, tys13, tys14, tys15, tys16, tys17, tys18, Try.ntmps99, Try.results99, c1, c3, hL, hget, hgi, elems_length]
  refine AWp.loop_inv (ι := Od × Od × Option (Od × Od × Int) × Int) (fun p => ⟨[.ptr i 0, .int .i64 d, .ptr id 0, .junk, .junk, .junk, .bool false, .junk, .junk, .junk, .junk, .junk, .junk, .junk, .junk, .junk, .junk, .junk, .junk, .junk, .junk, .junk, .junk, .junk, .junk, .sl false (elems a), .int .i64 a.len, .int .i64 p.1.len, .junk, .junk, .junk, .junk, .junk, .junk, .junk, .junk, .junk, .junk, .junk, .junk, .junk, .junk, .junk, .junk, .junk, .junk, .junk, .junk, .junk, .junk, .junk, .junk, .junk, .junk, .junk, .junk, .junk, .junk, .junk, .junk, .junk, .junk, .junk, .junk, .junk, .junk, .junk, .junk, .junk, .junk, .junk, .junk, .junk, .junk, .junk, .junk, .junk, .junk, .junk, .junk, .junk, .junk, .junk], L.set id (.box 3 [.int .i64 p.2.2.2])⟩)
    (fun p => a = p.1.app p.2.1 ∧ Ahead p.1 p.2.2.1 ∧ atL p.2.1 d p.2.2.2 (aheadE p.2.2.1) = atL a d (k + 1) none ∧ 0 ≤ p.2.2.2 ∧ p.2.2.2 ≤ 60) (fun p => p.2.1.len) (.nil, a, none, k + 1) ⟨rfl, rfl, rfl, by simp only; omega, by simp only; omega⟩ ⟨by simp only [len, Int.natCast_zero]; repeat constructor, rfl⟩ ?_
  rintro ⟨dn, r, P, q⟩ ⟨ha, hA, h2, h3, h4⟩
  refine W.sound hmix (E := []) ?_
  simp only at ha hA h2 h3 h4
  cases r with
  | nil =>
    obtain ⟨e1, rfl⟩ := od_end ha
    simp only [run0, run1, run2, run3, run4, run5, run6, run7, run8, run9, run10, run11, run12, run13, run14, run15, run16, run17, run18, run19, run20, run21, run22, reduceCtorEq, Nat.reduceEqDiff, Nat.reduceAdd, Nat.reduceSub, Nat.reduceLeDiff, indexAddrA, indexRefA, appendA, strA, Nat.reduceMul, Nat.zero_mul, Nat.reduceMod, Int.reduceEq, Int.reduceLT, Int.reduceLE, Nat.reduceLT, Nat.lt_irrefl, Nat.reduceBEq, tys0, tys1, tys2, tys3, tys4, tys5, tys6, tys7, tys8, tys9, tys10, tys11, tys12, tys13, tys14, tys15, tys16, tys17, tys18, Try.ntmps99, Try.results99, elems_length, e1]
    rw [← h2]
    exact Fin.own rfl rfl
  | cons e c r =>
    obtain ⟨e1, e2, e5, hlt, hnx, _⟩ := od_step ha hs
    rw [atL_cons] at h2
    have w2 : IntKind.i64.wrap (q + 1) = q + 1 := w64_id (by omega) (by omega)
    simp only [run0, run1, run2, run3, run4, run5, run6, run7, run8, run9, run10, run11, run12, run13, run14, run15, run16, run17, run18, run19, run20, run21, run22, reduceCtorEq, Nat.reduceEqDiff, Nat.reduceAdd, Nat.reduceSub, Nat.reduceLeDiff, indexAddrA, indexRefA, appendA, strA, Nat.reduceMul, Nat.zero_mul, Nat.reduceMod, Int.reduceEq, Int.reduceLT, Int.reduceLE, Nat.reduceLT, Nat.lt_irrefl, Nat.reduceBEq, tys0, tys1, tys2, tys3, tys4, tys5, tys6, tys7, tys8, tys9, tys10, tys11, tys12, tys13, tys14, tys15, tys16, tys17, tys18, Try.ntmps99, Try.results99, hget, w2, List.set_set, hgi, elems_length, e1, e2, Int.toNat_natCast, Int.natCast_nonneg]
    by_cases c4 : 60 < q + 1
    · rw [if_pos (.inl c4)] at h2
      simp only [run0, run1, run2, run3, run4, run5, run6, run7, run8, run9, run10, run11, run12, run13, run14, run15, run16, run17, run18, run19, run20, run21, run22, reduceCtorEq, Nat.reduceEqDiff, Nat.reduceAdd, Nat.reduceSub, Nat.reduceLeDiff, indexAddrA, indexRefA, appendA, strA, Nat.reduceMul, Nat.zero_mul, Nat.reduceMod, Int.reduceEq, Int.reduceLT, Int.reduceLE, Nat.reduceLT, Nat.lt_irrefl, Nat.reduceBEq, tys0, tys1, tys2, tys3, tys4, tys5, tys6, tys7, tys8, tys9, tys10, tys11, tys12, tys13, tys14, tys15, tys16, tys17, tys18, Try.ntmps99, Try.results99, c4]
      rw [← h2]
      exact Fin.own rfl rfl
    simp only [run0, run1, run2, run3, run4, run5, run6, run7, run8, run9, run10, run11, run12, run13, run14, run15, run16, run17, run18, run19, run20, run21, run22, reduceCtorEq, Nat.reduceEqDiff, Nat.reduceAdd, Nat.reduceSub, Nat.reduceLeDiff, indexAddrA, indexRefA, appendA, strA, Nat.reduceMul, Nat.zero_mul, Nat.reduceMod, Int.reduceEq, Int.reduceLT, Int.reduceLE, Nat.reduceLT, Nat.lt_irrefl, Nat.reduceBEq, tys0, tys1, tys2, tys3, tys4, tys5, tys6, tys7, tys8, tys9, tys10, tys11, tys12, tys13, tys14, tys15, tys16, tys17, tys18, Try.ntmps99, Try.results99, c4]
    refine RunL.callp rfl rfl ok_f50 (in_ok c 1 1000000) (by first | rfl | simp only [pureL, pureB, Bool.and_self, Bool.and_true, Bool.true_and, Od.elems_pure, Od.pay_pure, Od.av_pure]) rfl ?_
    cases hc : inB c 1 1000000
    · rw [if_pos (.inr hc)] at h2
      simp only [run0, run1, run2, run3, run4, run5, run6, run7, run8, run9, run10, run11, run12, run13, run14, run15, run16, run17, run18, run19, run20, run21, run22, reduceCtorEq, Nat.reduceEqDiff, Nat.reduceAdd, Nat.reduceSub, Nat.reduceLeDiff, indexAddrA, indexRefA, appendA, strA, Nat.reduceMul, Nat.zero_mul, Nat.reduceMod, Int.reduceEq, Int.reduceLT, Int.reduceLE, Nat.reduceLT, Nat.lt_irrefl, Nat.reduceBEq, tys0, tys1, tys2, tys3, tys4, tys5, tys6, tys7, tys8, tys9, tys10, tys11, tys12, tys13, tys14, tys15, tys16, tys17, tys18, Try.ntmps99, Try.results99, hc]
      rw [← h2]
      exact Fin.own rfl rfl
    rw [if_neg (by simp [c4, hc])] at h2
    have w3 : IntKind.i64.wrap ((d : Int) + 1) = ((d + 1 : Nat) : Int) := by rw [w64_id (by omega) (by omega)]; omega
    simp only [run0, run1, run2, run3, run4, run5, run6, run7, run8, run9, run10, run11, run12, run13, run14, run15, run16, run17, run18, run19, run20, run21, run22, reduceCtorEq, Nat.reduceEqDiff, Nat.reduceAdd, Nat.reduceSub, Nat.reduceLeDiff, indexAddrA, indexRefA, appendA, strA, Nat.reduceMul, Nat.zero_mul, Nat.reduceMod, Int.reduceEq, Int.reduceLT, Int.reduceLE, Nat.reduceLT, Nat.lt_irrefl, Nat.reduceBEq, tys0, tys1, tys2, tys3, tys4, tys5, tys6, tys7, tys8, tys9, tys10, tys11, tys12, tys13, tys14, tys15, tys16, tys17, tys18, Try.ntmps99, Try.results99, hc, w3]
    refine RunL.call rfl rfl rfl ok_f99 rfl (.inl rfl) (ordinalAt_ok e [.int .i64 c] (d + 1) (q + 1) (L.set id (.box 3 [.int .i64 (q + 1)])) id (by omega) (by omega) (by omega) (by omega) (hget _)) ?_
    cases ht : (atT e (d + 1) (q + 1)).1
    · rw [if_pos ht] at h2
      simp only [run0, run1, run2, run3, run4, run5, run6, run7, run8, run9, run10, run11, run12, run13, run14, run15, run16, run17, run18, run19, run20, run21, run22, reduceCtorEq, Nat.reduceEqDiff, Nat.reduceAdd, Nat.reduceSub, Nat.reduceLeDiff, indexAddrA, indexRefA, appendA, strA, Nat.reduceMul, Nat.zero_mul, Nat.reduceMod, Int.reduceEq, Int.reduceLT, Int.reduceLE, Nat.reduceLT, Nat.lt_irrefl, Nat.reduceBEq, tys0, tys1, tys2, tys3, tys4, tys5, tys6, tys7, tys8, tys9, tys10, tys11, tys12, tys13, tys14, tys15, tys16, tys17, tys18, Try.ntmps99, Try.results99, List.set_set]
      rw [← h2]
      exact Fin.own rfl rfl
    rw [if_neg (by simp [ht])] at h2
    obtain ⟨k1, k2⟩ := atT_some ht
    generalize hQ : (atT e (d + 1) (q + 1)).2 = Q at *
    cases P with
    | none =>
      simp only [Ahead] at hA
      subst hA
      simp only [aheadE, below, Bool.true_eq_false, if_false] at h2
      simp only [run0, run1, run2, run3, run4, run5, run6, run7, run8, run9, run10, run11, run12, run13, run14, run15, run16, run17, run18, run19, run20, run21, run22, reduceCtorEq, Nat.reduceEqDiff, Nat.reduceAdd, Nat.reduceSub, Nat.reduceLeDiff, indexAddrA, indexRefA, appendA, strA, Nat.reduceMul, Nat.zero_mul, Nat.reduceMod, Int.reduceEq, Int.reduceLT, Int.reduceLE, Nat.reduceLT, Nat.lt_irrefl, Nat.reduceBEq, tys0, tys1, tys2, tys3, tys4, tys5, tys6, tys7, tys8, tys9, tys10, tys11, tys12, tys13, tys14, tys15, tys16, tys17, tys18, Try.ntmps99, Try.results99, List.set_set, e5, len, Int.natCast_zero, Int.lt_irrefl]
      refine ⟨by kernel_rfl, (nil.app (cons e c nil), r, some (nil, e, c), Q), ⟨hnx.symm, rfl, h2, by simp only; omega, by simp only; omega⟩, by simp [len], by repeat constructor, rfl⟩
    | some P =>
      obtain ⟨d0, p, cp⟩ := P
      simp only [Ahead] at hA
      have e6 : (0 : Int) < (dn.len : Int) := by rw [hA, len_app]; simp only [len]; omega
      have hap : a = d0.app (cons p cp (cons e c r)) := by rw [ha, hA, app_assoc]; rfl
      obtain ⟨e9, e8, _, hps, _, _⟩ := od_step hap hs
      have hll := len_le a
      have e7 : IntKind.i64.wrap ((dn.len : Int) - 1) = (d0.len : Int) := by
        rw [w64_id (by omega) (by omega), hA, len_app]; simp [len]
      simp only [run0, run1, run2, run3, run4, run5, run6, run7, run8, run9, run10, run11, run12, run13, run14, run15, run16, run17, run18, run19, run20, run21, run22, reduceCtorEq, Nat.reduceEqDiff, Nat.reduceAdd, Nat.reduceSub, Nat.reduceLeDiff, indexAddrA, indexRefA, appendA, strA, Nat.reduceMul, Nat.zero_mul, Nat.reduceMod, Int.reduceEq, Int.reduceLT, Int.reduceLE, Nat.reduceLT, Nat.lt_irrefl, Nat.reduceBEq, tys0, tys1, tys2, tys3, tys4, tys5, tys6, tys7, tys8, tys9, tys10, tys11, tys12, tys13, tys14, tys15, tys16, tys17, tys18, Try.ntmps99, Try.results99, List.set_set, e6, e7, e8, e9, hget, hgi, elems_length, Int.toNat_natCast, Int.natCast_nonneg]
      refine ⟨by kernel_rfl, ?_⟩
      refine RunL.callp rfl rfl ok_f71 (cmp_ok p e (by omega) (by omega)) (by first | rfl | simp only [pureL, pureB, Bool.and_self, Bool.and_true, Bool.true_and, Od.elems_pure, Od.pay_pure, Od.av_pure]) rfl ?_
      simp only [aheadE, below] at h2
      by_cases hcm : 0 < cmpT p e
      · simp only [hcm, decide_true, Bool.true_eq_false, if_false] at h2
        have e10 : ¬ (cmpT p e ≤ 0) := by omega
        simp only [run0, run1, run2, run3, run4, run5, run6, run7, run8, run9, run10, run11, run12, run13, run14, run15, run16, run17, run18, run19, run20, run21, run22, reduceCtorEq, Nat.reduceEqDiff, Nat.reduceAdd, Nat.reduceSub, Nat.reduceLeDiff, indexAddrA, indexRefA, appendA, strA, Nat.reduceMul, Nat.zero_mul, Nat.reduceMod, Int.reduceEq, Int.reduceLT, Int.reduceLE, Nat.reduceLT, Nat.lt_irrefl, Nat.reduceBEq, tys0, tys1, tys2, tys3, tys4, tys5, tys6, tys7, tys8, tys9, tys10, tys11, tys12, tys13, tys14, tys15, tys16, tys17, tys18, Try.ntmps99, Try.results99, e10, e5]
        exact ⟨(dn.app (cons e c nil), r, some (dn, e, c), Q), ⟨hnx.symm, rfl, h2, by simp only; omega, by simp only; omega⟩, by simp [len], by repeat constructor, rfl⟩
      · simp only [hcm, decide_false, if_true] at h2
        have e10 : cmpT p e ≤ 0 := by omega
        simp only [run0, run1, run2, run3, run4, run5, run6, run7, run8, run9, run10, run11, run12, run13, run14, run15, run16, run17, run18, run19, run20, run21, run22, reduceCtorEq, Nat.reduceEqDiff, Nat.reduceAdd, Nat.reduceSub, Nat.reduceLeDiff, indexAddrA, indexRefA, appendA, strA, Nat.reduceMul, Nat.zero_mul, Nat.reduceMod, Int.reduceEq, Int.reduceLT, Int.reduceLE, Nat.reduceLT, Nat.lt_irrefl, Nat.reduceBEq, tys0, tys1, tys2, tys3, tys4, tys5, tys6, tys7, tys8, tys9, tys10, tys11, tys12, tys13, tys14, tys15, tys16, tys17, tys18, Try.ntmps99, Try.results99, e10]
        rw [← h2]
        exact Fin.own rfl rfl

theorem IsOrdinal_ok (a : Od) (hs : a.sz ≤ 1048576) : Ct Try.prog 63 [av a] [] (.bool (goodT a)) [] := by
  have h := at_good a
  have h1 := ordinalAtP_ok a 0 0 0 [.box 24 [.sl false (elems a)], .box 3 [.int .i64 0]] 1 hs (by omega) (by omega) (by omega) rfl rfl (by omega)
  have h2 : atT a 0 0 = atL a 0 1 none := rfl
  rw [h2, h] at h1
  refine Ct.by_ hmix [] Try.func63 rfl ?_
  simp only [run0, run1, run2, run3, run4, run5, run6, run7, run8, run9, run10, run11, run12, run13, run14, run15, run16, run17, run18, run19, run20, run21, run22, reduceCtorEq, Nat.reduceEqDiff, Nat.reduceAdd, Nat.reduceSub, Nat.reduceLeDiff, indexAddrA, indexRefA, appendA, strA, Nat.reduceMul, Nat.zero_mul, Nat.reduceMod, Int.reduceEq, Int.reduceLT, Int.reduceLE, Nat.reduceLT, Nat.lt_irrefl, Nat.reduceBEq, tys0, tys1, tys2, tys3, tys4, tys5, tys6, tys7, tys8, tys9, tys10, tys11, tys12, tys13, tys14, tys15, tys16, tys17, tys18, Try.ntmps63, Try.results63, av]
  refine RunL.call rfl rfl rfl ok_f99 rfl (.inl rfl) h1 ?_
  simp only [run0, run1, run2, run3, run4, run5, run6, run7, run8, run9, run10, run11, run12, run13, run14, run15, run16, run17, run18, run19, run20, run21, run22, reduceCtorEq, Nat.reduceEqDiff, Nat.reduceAdd, Nat.reduceSub, Nat.reduceLeDiff, indexAddrA, indexRefA, appendA, strA, Nat.reduceMul, Nat.zero_mul, Nat.reduceMod, Int.reduceEq, Int.reduceLT, Int.reduceLE, Nat.reduceLT, Nat.lt_irrefl, Nat.reduceBEq, tys0, tys1, tys2, tys3, tys4, tys5, tys6, tys7, tys8, tys9, tys10, tys11, tys12, tys13, tys14, tys15, tys16, tys17, tys18, Try.ntmps63, Try.results63]
  exact Fin.eq rfl rfl
end Go.Proofs.Ytphmkhaboghagaa
/-
  Ordinals: what a law is given; the first laws.
-/
namespace Go.Proofs.Ytphmkhaboghagaa
open Go K Od
set_option linter.unusedSimpArgs false
set_option linter.unusedVariables false
set_option maxRecDepth 8000
set_option maxHeartbeats 400000

theorem od_of (n : Nat) (h : ∀ (xs : List AV), HasC Try.prog n 115 xs → ∃ (a : Od) (c : Int), xs = [.sl false (elems a), .int .i64 c] ∧ fit a) :
    ∀ es : List AV, es.length ≤ maxLen → (∀ x ∈ es, HasC Try.prog n 115 x.cells ∧ (∃ cs, x = .agg cs)) → ∃ a : Od, es = elems a ∧ fit a
  | [], _, _ => ⟨.nil, rfl, trivial⟩
  | x :: es, hl, hx => by
    obtain ⟨a, h1, h2⟩ := od_of n h es (by simp at hl; omega) (fun y hy => hx y (List.mem_cons_of_mem _ hy))
    obtain ⟨h3, cs, rfl⟩ := hx _ (List.mem_cons_self ..)
    obtain ⟨e, c, h4, h5⟩ := h _ h3
    simp only [AV.cells] at h4
    subst h4 h1
    exact ⟨.cons e c a, rfl, by simp [elems_length] at hl; omega, h5, h2⟩

theorem laws_odC : ∀ (n : Nat), (∀ (xs : List AV), HasC Try.prog n 115 xs → ∃ (a : Od) (c : Int), xs = [.sl false (elems a), .int .i64 c] ∧ fit a) ∧
    (∀ xs, HasC Try.prog n 32 xs → ∃ a : Od, xs = [.sl false (elems a)] ∧ fit a) ∧
    (∀ xs, HasC Try.prog n 30 xs → ∃ a : Od, xs = [.sl false (elems a)] ∧ fit a)
  | 0 => ⟨fun xs h => by simp [HasC] at h, fun xs h => by simp [HasC] at h, fun xs h => by simp [HasC] at h⟩
  | n + 1 => by
    obtain ⟨ih1, ih2, ih3⟩ := laws_odC n
    refine ⟨fun xs h => ?_, fun xs h => ?_, fun xs h => ?_⟩
    · have hu := Try.underlying115
      simp only [HasC, hu] at h
      obtain ⟨hl, hf⟩ := h
      rw [ty_c115] at hl
      match xs, hl with
      | [x, y], _ =>
        have h0 := hf _ (List.mem_cons_self ..)
        have h1 := hf _ (List.mem_cons_of_mem _ (List.mem_cons_self ..))
        simp only [ty_c32, List.drop_zero, List.take_succ_cons, List.take_zero] at h0
        simp only [ty_c3, List.drop_succ_cons, List.drop_zero, List.take_succ_cons, List.take_zero] at h1
        obtain ⟨a, e0, f0⟩ := ih2 _ h0
        obtain ⟨c, e1, _⟩ := h1.int Try.underlying3
        simp at e0 e1
        subst e0 e1
        exact ⟨a, c, rfl, f0⟩
    · have hu := Try.underlying32
      simp only [HasC, hu] at h
      obtain ⟨hl, hf⟩ := h
      rw [ty_c32] at hl
      match xs, hl with
      | [x], _ =>
        have h0 := hf _ (List.mem_cons_self ..)
        simp only [ty_c30, List.drop_zero, List.take_succ_cons, List.take_zero] at h0
        exact ih3 _ h0
    · have hu := Try.underlying30
      simp only [HasC, hu] at h
      obtain ⟨es, rfl, hl, hx⟩ := h
      obtain ⟨a, rfl, hf⟩ := od_of n ih1 es hl (fun x hx' => ⟨(hx x hx').1, (hx x hx').2.2.1 ty_a115⟩)
      exact ⟨a, rfl, hf⟩

theorem laws_isOd {x : AV} (h : IsOf Try.prog 32 x) : ∃ a : Od, x = av a ∧ fit a := by
  obtain ⟨n, cs, rfl, _, h⟩ := h.agg ty_a32
  obtain ⟨a, rfl, hf⟩ := (laws_odC n).2.1 _ h
  exact ⟨a, rfl, hf⟩

/-- The laws' own copy, as a value. -/
theorem toOrdinal_ok (a : Od) (hs : a.sz ≤ 1048576) : Ct Try.prog 19 [av a] [] (av a) [] := by
  obtain ⟨x, M, hc, S, ho, _, _⟩ := toOrdinal_of (toS_ok a hs)
  exact hc.toV (Vw.agg (.cons (ho.view false) .nil))
theorem szOrdinal_ok (a : Od) (l : Int) (hf : fit a) (h0 : 0 ≤ l) (h1 : l ≤ 1048576) : Ct Try.prog 17 [av a, .int .i64 l] [] (.int .i64 (szR a.sz l)) [] :=
  szOrdinal_of szR_neg (szTermS_ok a l hf h0 h1)
theorem eqOrdinal_ok (a b : Od) (ha : a.sz ≤ 1048576) : Ct Try.prog 14 [av a, av b] [] (.bool (eqT a b)) [] := eqOrdinal_of (eqTermS_ok a b ha)

end Go.Proofs.Ytphmkhaboghagaa
/-
  Hereditary forms: reading them back: the law.
-/
namespace Go.Proofs.Ytphmkhaboghagaa
open Go K Od
set_option linter.unusedSimpArgs false
set_option linter.unusedVariables false
set_option maxHeartbeats 1600000

theorem valueOf_ok (a : Od) (b : Int) (hs : a.sz ≤ 1048576) (hb : 2 ≤ b) (hb2 : b ≤ 2000) (ra : rng a) : Ct Try.prog 65 [av a, .int .i64 b] [] (.int .i64 (valT b a)) [] := by
  refine Ct.by_ hmix [] Try.func65 rfl ?_
  simp only [run0, run1, run2, run3, run4, run5, run6, run7, run8, run9, run10, run11, run12, run13, run14, run15, run16, run17, run18, run19, run20, run21, run22, reduceCtorEq, Nat.reduceEqDiff, Nat.reduceAdd, Nat.reduceSub, Nat.reduceLeDiff, indexAddrA, indexRefA, appendA, strA, Nat.reduceMul, Nat.zero_mul, Nat.reduceMod, Int.reduceEq, Int.reduceLT, Int.reduceLE, Nat.reduceLT, Nat.lt_irrefl, Nat.reduceBEq, tys0, tys1, tys2, tys3, tys4, tys5, tys6, tys7, tys8, tys9, tys10, tys11, tys12, tys13, tys14, tys15, tys16, tys17, tys18, Try.ntmps65, Try.results65, av, elems_length]
  refine AWp.loop_inv (ι := Od × Od × Int × List AObj) (fun p => ⟨[.agg [.sl false (elems a)], .int .i64 b, .ptr 0 0, .junk, .junk, .int .i64 p.2.2.1, .junk, .junk, .junk, .junk, .junk, .sl false (elems a), .int .i64 a.len, .int .i64 p.1.len, .junk, .junk, .junk, .junk, .junk, .junk, .junk, .junk, .junk, .junk, .junk, .junk, .junk, .junk, .junk, .junk, .junk, .junk, .junk, .junk, .junk, .junk, .junk, .junk, .junk, .junk, .junk], .box 24 [.sl false (elems a)] :: p.2.2.2⟩)
    (fun p => a = p.1.app p.2.1 ∧ 0 ≤ p.2.2.1 ∧ p.2.2.1 ≤ 1000000 ∧ valS b p.2.1 p.2.2.1 = valT b a) (fun p => p.2.1.len) (.nil, a, 0, []) ⟨rfl, by simp only; omega, by simp only; omega, rfl⟩ ⟨by simp only [len, Int.natCast_zero]; repeat constructor, rfl⟩ ?_
  rintro ⟨d, r, s, X⟩ ⟨ha, h2, h3, h4⟩
  refine W.sound hmix (E := []) ?_
  simp only at ha h2 h3 h4
  cases r with
  | nil =>
    obtain ⟨e1, rfl⟩ := od_end ha
    simp only [run0, run1, run2, run3, run4, run5, run6, run7, run8, run9, run10, run11, run12, run13, run14, run15, run16, run17, run18, run19, run20, run21, run22, reduceCtorEq, Nat.reduceEqDiff, Nat.reduceAdd, Nat.reduceSub, Nat.reduceLeDiff, indexAddrA, indexRefA, appendA, strA, Nat.reduceMul, Nat.zero_mul, Nat.reduceMod, Int.reduceEq, Int.reduceLT, Int.reduceLE, Nat.reduceLT, Nat.lt_irrefl, Nat.reduceBEq, tys0, tys1, tys2, tys3, tys4, tys5, tys6, tys7, tys8, tys9, tys10, tys11, tys12, tys13, tys14, tys15, tys16, tys17, tys18, Try.ntmps65, Try.results65, elems_length, e1]
    exact Fin.eq (by rw [← h4]; rfl) rfl
  | cons e c r =>
    obtain ⟨e1, e2, e5, hlt, hn, _⟩ := od_step ha hs
    rw [ha] at ra
    have ra := rng_app ra
    have hc : 1 ≤ c ∧ c ≤ 1000000 := ⟨ra.1, ra.2.1⟩
    have hv := valS_range (b := b) hb (a := e) (s := 0) ra.2.2.1 (by omega) (by omega)
    obtain ⟨E, hE⟩ : ∃ E : Nat, valT b e = (E : Int) := ⟨(valT b e).toNat, by have : 0 ≤ valT b e := hv.1; omega⟩
    have hcv := valueOf_ok e b (by omega) hb hb2 ra.2.2.1
    rw [hE] at hcv
    rw [valS_cons, hE, Int.toNat_natCast] at h4
    simp only [run0, run1, run2, run3, run4, run5, run6, run7, run8, run9, run10, run11, run12, run13, run14, run15, run16, run17, run18, run19, run20, run21, run22, reduceCtorEq, Nat.reduceEqDiff, Nat.reduceAdd, Nat.reduceSub, Nat.reduceLeDiff, indexAddrA, indexRefA, appendA, strA, Nat.reduceMul, Nat.zero_mul, Nat.reduceMod, Int.reduceEq, Int.reduceLT, Int.reduceLE, Nat.reduceLT, Nat.lt_irrefl, Nat.reduceBEq, tys0, tys1, tys2, tys3, tys4, tys5, tys6, tys7, tys8, tys9, tys10, tys11, tys12, tys13, tys14, tys15, tys16, tys17, tys18, Try.ntmps65, Try.results65, elems_length, e1, e2, Int.toNat_natCast, Int.natCast_nonneg]
    refine ⟨by kernel_rfl, ?_⟩
    refine RunL.callp rfl rfl ok_f65 (hcv) (by first | rfl | simp only [pureL, pureB, Bool.and_self, Bool.and_true, Bool.true_and, Od.elems_pure, Od.pay_pure, Od.av_pure]) rfl ?_
    simp only [run0, run1, run2, run3, run4, run5, run6, run7, run8, run9, run10, run11, run12, run13, run14, run15, run16, run17, run18, run19, run20, run21, run22, reduceCtorEq, Nat.reduceEqDiff, Nat.reduceAdd, Nat.reduceSub, Nat.reduceLeDiff, indexAddrA, indexRefA, appendA, strA, Nat.reduceMul, Nat.zero_mul, Nat.reduceMod, Int.reduceEq, Int.reduceLT, Int.reduceLE, Nat.reduceLT, Nat.lt_irrefl, Nat.reduceBEq, tys0, tys1, tys2, tys3, tys4, tys5, tys6, tys7, tys8, tys9, tys10, tys11, tys12, tys13, tys14, tys15, tys16, tys17, tys18, Try.ntmps65, Try.results65]
    refine AWp.loop_inv (ι := Nat × Int) (fun p => ⟨[.agg [.sl false (elems a)], .int .i64 b, .ptr 0 0, .junk, .junk, .int .i64 s, .junk, .junk, .int .i64 p.1, .int .i64 p.2, .junk, .sl false (elems a), .int .i64 a.len, .int .i64 d.len, .junk, .junk, .junk, .junk, .junk, .junk, .junk, .junk, .junk, .junk, .junk, .junk, .junk, .junk, .junk, .junk, .junk, .junk, .junk, .junk, .junk, .junk, .junk, .junk, .junk, .junk, .junk], .box 24 [.sl false (elems a)] :: (X ++ [.box 88 [.sl false (elems e), .int .i64 c]])⟩)
      (fun p => partL b p.1 p.2 = partL b E c ∧ 1 ≤ p.2 ∧ p.2 ≤ 2000000000 ∧ (p.1 : Int) ≤ 1000001) (fun p => p.1) (E, c) ⟨rfl, hc.1, by simp only; omega, by simp only; rw [← hE]; exact hv.2⟩ ⟨by repeat constructor, rfl⟩ ?_
    rintro ⟨k, q⟩ ⟨g1, g2, g3, g4⟩
    refine W.sound hmix (E := []) ?_
    simp only at g1 g2 g3 g4
    have hpb := partL_bound (b := b) (by omega) hb2 E c hc.1 (by omega)
    by_cases hk0 : k = 0
    · subst hk0
      have hk : ¬ ((0 : Int) < ((0 : Nat) : Int)) := by omega
      have hq2 : True := trivial
      have hq : q = partL b E c := g1
      subst hq
      have hw2 : IntKind.i64.wrap (s + partL b E c) = s + partL b E c := w64_id (by omega) (by omega)
      have hx := partL_spec (b := b) (by omega) E c hc.1
      by_cases hg : 1000000 < s + partL b E c
      · have hg2 : 1000000 < s + c * b ^ E := by
          by_cases hl : c * b ^ E ≤ 1000000
          · rw [hx.1 hl] at hg; exact hg
          · omega
        rw [if_pos hg2] at h4
        simp only [run0, run1, run2, run3, run4, run5, run6, run7, run8, run9, run10, run11, run12, run13, run14, run15, run16, run17, run18, run19, run20, run21, run22, reduceCtorEq, Nat.reduceEqDiff, Nat.reduceAdd, Nat.reduceSub, Nat.reduceLeDiff, indexAddrA, indexRefA, appendA, strA, Nat.reduceMul, Nat.zero_mul, Nat.reduceMod, Int.reduceEq, Int.reduceLT, Int.reduceLE, Nat.reduceLT, Nat.lt_irrefl, Nat.reduceBEq, tys0, tys1, tys2, tys3, tys4, tys5, tys6, tys7, tys8, tys9, tys10, tys11, tys12, tys13, tys14, tys15, tys16, tys17, tys18, Try.ntmps65, Try.results65, hk, hq2, hw2, hg]
        exact Fin.eq (by rw [← h4]) rfl
      · have hl : c * b ^ E ≤ 1000000 := by
          refine Decidable.byContradiction fun hl => ?_
          have := hx.2 (by omega); omega
        rw [hx.1 hl] at hg hw2 hpb ⊢
        rw [if_neg hg] at h4
        simp only [run0, run1, run2, run3, run4, run5, run6, run7, run8, run9, run10, run11, run12, run13, run14, run15, run16, run17, run18, run19, run20, run21, run22, reduceCtorEq, Nat.reduceEqDiff, Nat.reduceAdd, Nat.reduceSub, Nat.reduceLeDiff, indexAddrA, indexRefA, appendA, strA, Nat.reduceMul, Nat.zero_mul, Nat.reduceMod, Int.reduceEq, Int.reduceLT, Int.reduceLE, Nat.reduceLT, Nat.lt_irrefl, Nat.reduceBEq, tys0, tys1, tys2, tys3, tys4, tys5, tys6, tys7, tys8, tys9, tys10, tys11, tys12, tys13, tys14, tys15, tys16, tys17, tys18, Try.ntmps65, Try.results65, hk, hq2, hw2, hg, e5]
        exact ⟨(d.app (cons e c nil), r, s + c * b ^ E, _), ⟨hn.symm, by simp only; omega, by simp only; omega, h4⟩, by simp [len], by repeat constructor, rfl⟩
    have hk : (0 : Int) < (k : Int) := by omega
    by_cases hq2 : q ≤ 1000000
    · obtain ⟨k, rfl⟩ : ∃ j, k = j + 1 := ⟨k - 1, by omega⟩
      have l1 : 1 * 1 ≤ q * b := Int.mul_le_mul g2 (by omega) (by omega) (by omega)
      have l2 : q * b ≤ 1000000 * 2000 := Int.mul_le_mul hq2 hb2 (by omega) (by omega)
      have hw : IntKind.i64.wrap (q * b) = q * b := w64_id (by omega) (by omega)
      have hw3 : IntKind.i64.wrap (((k + 1 : Nat) : Int) - 1) = (k : Int) := by rw [w64_id (by omega) (by omega)]; omega
      rw [partL, if_pos hq2] at g1
      simp only [run0, run1, run2, run3, run4, run5, run6, run7, run8, run9, run10, run11, run12, run13, run14, run15, run16, run17, run18, run19, run20, run21, run22, reduceCtorEq, Nat.reduceEqDiff, Nat.reduceAdd, Nat.reduceSub, Nat.reduceLeDiff, indexAddrA, indexRefA, appendA, strA, Nat.reduceMul, Nat.zero_mul, Nat.reduceMod, Int.reduceEq, Int.reduceLT, Int.reduceLE, Nat.reduceLT, Nat.lt_irrefl, Nat.reduceBEq, tys0, tys1, tys2, tys3, tys4, tys5, tys6, tys7, tys8, tys9, tys10, tys11, tys12, tys13, tys14, tys15, tys16, tys17, tys18, Try.ntmps65, Try.results65, hk, hq2, hw, hw3]
      exact ⟨(k, q * b), ⟨g1, by simp only; omega, by simp only; omega, by simp only; omega⟩, by simp, by repeat constructor⟩
    · have hq : q = partL b E c := by rw [← g1, partL_le (by omega) k q hq2]
      subst hq
      have hw2 : IntKind.i64.wrap (s + partL b E c) = s + partL b E c := w64_id (by omega) (by omega)
      have hx := partL_spec (b := b) (by omega) E c hc.1
      by_cases hg : 1000000 < s + partL b E c
      · have hg2 : 1000000 < s + c * b ^ E := by
          by_cases hl : c * b ^ E ≤ 1000000
          · rw [hx.1 hl] at hg; exact hg
          · omega
        rw [if_pos hg2] at h4
        simp only [run0, run1, run2, run3, run4, run5, run6, run7, run8, run9, run10, run11, run12, run13, run14, run15, run16, run17, run18, run19, run20, run21, run22, reduceCtorEq, Nat.reduceEqDiff, Nat.reduceAdd, Nat.reduceSub, Nat.reduceLeDiff, indexAddrA, indexRefA, appendA, strA, Nat.reduceMul, Nat.zero_mul, Nat.reduceMod, Int.reduceEq, Int.reduceLT, Int.reduceLE, Nat.reduceLT, Nat.lt_irrefl, Nat.reduceBEq, tys0, tys1, tys2, tys3, tys4, tys5, tys6, tys7, tys8, tys9, tys10, tys11, tys12, tys13, tys14, tys15, tys16, tys17, tys18, Try.ntmps65, Try.results65, hk, hq2, hw2, hg]
        exact Fin.eq (by rw [← h4]) rfl
      · have hl : c * b ^ E ≤ 1000000 := by
          refine Decidable.byContradiction fun hl => ?_
          have := hx.2 (by omega); omega
        exact absurd (by rw [hx.1 hl]; exact hl) hq2
termination_by a.sz

theorem dePower_ok (b : Int) (E : Nat) (hb : 2 ≤ b) (hb2 : b ≤ 2000) (hE : (E : Int) ≤ 1000000) : Ct Try.prog 97 [.int .i64 b, .int .i64 E] [] (.int .i64 (partL b E 1)) [] := by
  refine Ct.by_ hmix [] Try.func97 rfl ?_
  simp only [run0, run1, run2, run3, run4, run5, run6, run7, run8, run9, run10, run11, run12, run13, run14, run15, run16, run17, run18, run19, run20, run21, run22, reduceCtorEq, Nat.reduceEqDiff, Nat.reduceAdd, Nat.reduceSub, Nat.reduceLeDiff, indexAddrA, indexRefA, appendA, strA, Nat.reduceMul, Nat.zero_mul, Nat.reduceMod, Int.reduceEq, Int.reduceLT, Int.reduceLE, Nat.reduceLT, Nat.lt_irrefl, Nat.reduceBEq, tys0, tys1, tys2, tys3, tys4, tys5, tys6, tys7, tys8, tys9, tys10, tys11, tys12, tys13, tys14, tys15, tys16, tys17, tys18, Try.ntmps97, Try.results97]
  refine AWp.loop_inv (ι := Nat × Int) (fun p => ⟨[.int .i64 b, .int .i64 p.1, .junk, .junk, .int .i64 0, .int .i64 p.2, .junk, .junk, .junk, .junk, .junk, .junk, .junk, .junk, .junk, .junk, .junk, .junk], []⟩)
    (fun p => partL b p.1 p.2 = partL b E 1 ∧ 1 ≤ p.2 ∧ p.2 ≤ 2000000000 ∧ (p.1 : Int) ≤ 1000000) (fun p => p.1) (E, 1) ⟨rfl, by simp only; omega, by simp only; omega, hE⟩ ⟨by repeat constructor, rfl⟩ ?_
  rintro ⟨k, q⟩ ⟨g1, g2, g3, g4⟩
  refine W.sound hmix (E := []) ?_
  simp only at g1 g2 g3 g4
  by_cases hk0 : k = 0
  · subst hk0
    have hk : ¬ ((0 : Int) < ((0 : Nat) : Int)) := by omega
    simp only [run0, run1, run2, run3, run4, run5, run6, run7, run8, run9, run10, run11, run12, run13, run14, run15, run16, run17, run18, run19, run20, run21, run22, reduceCtorEq, Nat.reduceEqDiff, Nat.reduceAdd, Nat.reduceSub, Nat.reduceLeDiff, indexAddrA, indexRefA, appendA, strA, Nat.reduceMul, Nat.zero_mul, Nat.reduceMod, Int.reduceEq, Int.reduceLT, Int.reduceLE, Nat.reduceLT, Nat.lt_irrefl, Nat.reduceBEq, tys0, tys1, tys2, tys3, tys4, tys5, tys6, tys7, tys8, tys9, tys10, tys11, tys12, tys13, tys14, tys15, tys16, tys17, tys18, Try.ntmps97, Try.results97, hk]
    exact Fin.eq (by rw [← g1]; rfl) rfl
  have hk : (0 : Int) < (k : Int) := by omega
  by_cases hq2 : q ≤ 1000000
  · obtain ⟨k, rfl⟩ : ∃ j, k = j + 1 := ⟨k - 1, by omega⟩
    have l1 : 1 * 1 ≤ q * b := Int.mul_le_mul g2 (by omega) (by omega) (by omega)
    have l2 : q * b ≤ 1000000 * 2000 := Int.mul_le_mul hq2 hb2 (by omega) (by omega)
    have hw : IntKind.i64.wrap (q * b) = q * b := w64_id (by omega) (by omega)
    have hw3 : IntKind.i64.wrap (((k + 1 : Nat) : Int) - 1) = (k : Int) := by rw [w64_id (by omega) (by omega)]; omega
    rw [partL, if_pos hq2] at g1
    simp only [run0, run1, run2, run3, run4, run5, run6, run7, run8, run9, run10, run11, run12, run13, run14, run15, run16, run17, run18, run19, run20, run21, run22, reduceCtorEq, Nat.reduceEqDiff, Nat.reduceAdd, Nat.reduceSub, Nat.reduceLeDiff, indexAddrA, indexRefA, appendA, strA, Nat.reduceMul, Nat.zero_mul, Nat.reduceMod, Int.reduceEq, Int.reduceLT, Int.reduceLE, Nat.reduceLT, Nat.lt_irrefl, Nat.reduceBEq, tys0, tys1, tys2, tys3, tys4, tys5, tys6, tys7, tys8, tys9, tys10, tys11, tys12, tys13, tys14, tys15, tys16, tys17, tys18, Try.ntmps97, Try.results97, hk, hq2, hw, hw3]
    exact ⟨(k, q * b), ⟨g1, by simp only; omega, by simp only; omega, by simp only; omega⟩, by simp, by repeat constructor⟩
  · simp only [run0, run1, run2, run3, run4, run5, run6, run7, run8, run9, run10, run11, run12, run13, run14, run15, run16, run17, run18, run19, run20, run21, run22, reduceCtorEq, Nat.reduceEqDiff, Nat.reduceAdd, Nat.reduceSub, Nat.reduceLeDiff, indexAddrA, indexRefA, appendA, strA, Nat.reduceMul, Nat.zero_mul, Nat.reduceMod, Int.reduceEq, Int.reduceLT, Int.reduceLE, Nat.reduceLT, Nat.lt_irrefl, Nat.reduceBEq, tys0, tys1, tys2, tys3, tys4, tys5, tys6, tys7, tys8, tys9, tys10, tys11, tys12, tys13, tys14, tys15, tys16, tys17, tys18, Try.ntmps97, Try.results97, hk, hq2]
    exact Fin.eq (by rw [← g1, partL_le (by omega) k q hq2]) rfl

theorem deValue_ok (a : Od) (b : Int) (hs : a.sz ≤ 1048576) (hb : 2 ≤ b) (hb2 : b ≤ 2000) (ra : rng a) : Ct Try.prog 61 [av a, .int .i64 b] [] (.int .i64 (valT b a)) [] := by
  refine Ct.by_ hmix [] Try.func61 rfl ?_
  simp only [run0, run1, run2, run3, run4, run5, run6, run7, run8, run9, run10, run11, run12, run13, run14, run15, run16, run17, run18, run19, run20, run21, run22, reduceCtorEq, Nat.reduceEqDiff, Nat.reduceAdd, Nat.reduceSub, Nat.reduceLeDiff, indexAddrA, indexRefA, appendA, strA, Nat.reduceMul, Nat.zero_mul, Nat.reduceMod, Int.reduceEq, Int.reduceLT, Int.reduceLE, Nat.reduceLT, Nat.lt_irrefl, Nat.reduceBEq, tys0, tys1, tys2, tys3, tys4, tys5, tys6, tys7, tys8, tys9, tys10, tys11, tys12, tys13, tys14, tys15, tys16, tys17, tys18, Try.ntmps61, Try.results61, av, elems_length]
  refine AWp.loop_inv (ι := Od × Od × Int × List AObj) (fun p => ⟨[.agg [.sl false (elems a)], .int .i64 b, .ptr 0 0, .junk, .junk, .int .i64 p.2.2.1, .junk, .junk, .junk, .junk, .sl false (elems a), .int .i64 a.len, .int .i64 p.1.len, .junk, .junk, .junk, .junk, .junk, .junk, .junk, .junk, .junk, .junk, .junk, .junk, .junk, .junk, .junk, .junk, .junk, .junk, .junk, .junk, .junk, .junk], .box 24 [.sl false (elems a)] :: p.2.2.2⟩)
    (fun p => a = p.1.app p.2.1 ∧ 0 ≤ p.2.2.1 ∧ p.2.2.1 ≤ 1000000 ∧ valS b p.2.1 p.2.2.1 = valT b a) (fun p => p.2.1.len) (.nil, a, 0, []) ⟨rfl, by simp only; omega, by simp only; omega, rfl⟩ ⟨by simp only [len, Int.natCast_zero]; repeat constructor, rfl⟩ ?_
  rintro ⟨d, r, s, X⟩ ⟨ha, h2, h3, h4⟩
  refine W.sound hmix (E := []) ?_
  simp only at ha h2 h3 h4
  cases r with
  | nil =>
    obtain ⟨e1, rfl⟩ := od_end ha
    simp only [run0, run1, run2, run3, run4, run5, run6, run7, run8, run9, run10, run11, run12, run13, run14, run15, run16, run17, run18, run19, run20, run21, run22, reduceCtorEq, Nat.reduceEqDiff, Nat.reduceAdd, Nat.reduceSub, Nat.reduceLeDiff, indexAddrA, indexRefA, appendA, strA, Nat.reduceMul, Nat.zero_mul, Nat.reduceMod, Int.reduceEq, Int.reduceLT, Int.reduceLE, Nat.reduceLT, Nat.lt_irrefl, Nat.reduceBEq, tys0, tys1, tys2, tys3, tys4, tys5, tys6, tys7, tys8, tys9, tys10, tys11, tys12, tys13, tys14, tys15, tys16, tys17, tys18, Try.ntmps61, Try.results61, elems_length, e1]
    exact Fin.eq (by rw [← h4]; rfl) rfl
  | cons e c r =>
    obtain ⟨e1, e2, e5, hlt, hn, _⟩ := od_step ha hs
    rw [ha] at ra
    have ra := rng_app ra
    have hc : 1 ≤ c ∧ c ≤ 1000000 := ⟨ra.1, ra.2.1⟩
    have hv := valS_range (b := b) hb (a := e) (s := 0) ra.2.2.1 (by omega) (by omega)
    obtain ⟨E, hE⟩ : ∃ E : Nat, valT b e = (E : Int) := ⟨(valT b e).toNat, by have : 0 ≤ valT b e := hv.1; omega⟩
    have hcv := deValue_ok e b (by omega) hb hb2 ra.2.2.1
    have hv2 : (E : Int) ≤ 1000001 := by rw [← hE]; exact hv.2
    rw [hE] at hcv
    rw [valS_cons, hE, Int.toNat_natCast] at h4
    simp only [run0, run1, run2, run3, run4, run5, run6, run7, run8, run9, run10, run11, run12, run13, run14, run15, run16, run17, run18, run19, run20, run21, run22, reduceCtorEq, Nat.reduceEqDiff, Nat.reduceAdd, Nat.reduceSub, Nat.reduceLeDiff, indexAddrA, indexRefA, appendA, strA, Nat.reduceMul, Nat.zero_mul, Nat.reduceMod, Int.reduceEq, Int.reduceLT, Int.reduceLE, Nat.reduceLT, Nat.lt_irrefl, Nat.reduceBEq, tys0, tys1, tys2, tys3, tys4, tys5, tys6, tys7, tys8, tys9, tys10, tys11, tys12, tys13, tys14, tys15, tys16, tys17, tys18, Try.ntmps61, Try.results61, elems_length, e1, e2, Int.toNat_natCast, Int.natCast_nonneg]
    refine RunL.callp rfl rfl ok_f61 (hcv) (by first | rfl | simp only [pureL, pureB, Bool.and_self, Bool.and_true, Bool.true_and, Od.elems_pure, Od.pay_pure, Od.av_pure]) rfl ?_
    by_cases hbig : (1000000 : Int) < (E : Int)
    · have hp := lt_pow hb E
      have h1 : 1 * b ^ E ≤ c * b ^ E := Int.mul_le_mul_of_nonneg_right hc.1 (by omega)
      rw [if_pos (by omega)] at h4
      simp only [run0, run1, run2, run3, run4, run5, run6, run7, run8, run9, run10, run11, run12, run13, run14, run15, run16, run17, run18, run19, run20, run21, run22, reduceCtorEq, Nat.reduceEqDiff, Nat.reduceAdd, Nat.reduceSub, Nat.reduceLeDiff, indexAddrA, indexRefA, appendA, strA, Nat.reduceMul, Nat.zero_mul, Nat.reduceMod, Int.reduceEq, Int.reduceLT, Int.reduceLE, Nat.reduceLT, Nat.lt_irrefl, Nat.reduceBEq, tys0, tys1, tys2, tys3, tys4, tys5, tys6, tys7, tys8, tys9, tys10, tys11, tys12, tys13, tys14, tys15, tys16, tys17, tys18, Try.ntmps61, Try.results61, hbig]
      exact Fin.eq (by rw [← h4]; congr 1; omega) rfl
    have hpb := partL_bound (b := b) (by omega) hb2 E 1 (by omega) (by omega)
    have hx := part_ref (b := b) hb hc.1 E
    have l1 : 1 * 1 ≤ c * partL b E 1 := Int.mul_le_mul hc.1 hpb.1 (by omega) (by omega)
    have l2 : c * partL b E 1 ≤ 1000000 * 2000000000 := Int.mul_le_mul hc.2 hpb.2 (by omega) (by omega)
    have hw : IntKind.i64.wrap (c * partL b E 1) = c * partL b E 1 := w64_id (by omega) (by omega)
    have hw2 : IntKind.i64.wrap (s + c * partL b E 1) = s + c * partL b E 1 := w64_id (by omega) (by omega)
    simp only [run0, run1, run2, run3, run4, run5, run6, run7, run8, run9, run10, run11, run12, run13, run14, run15, run16, run17, run18, run19, run20, run21, run22, reduceCtorEq, Nat.reduceEqDiff, Nat.reduceAdd, Nat.reduceSub, Nat.reduceLeDiff, indexAddrA, indexRefA, appendA, strA, Nat.reduceMul, Nat.zero_mul, Nat.reduceMod, Int.reduceEq, Int.reduceLT, Int.reduceLE, Nat.reduceLT, Nat.lt_irrefl, Nat.reduceBEq, tys0, tys1, tys2, tys3, tys4, tys5, tys6, tys7, tys8, tys9, tys10, tys11, tys12, tys13, tys14, tys15, tys16, tys17, tys18, Try.ntmps61, Try.results61, hbig]
    refine ⟨by kernel_rfl, ?_⟩
    refine RunL.callp rfl rfl ok_f97 (dePower_ok b E hb hb2 (by omega)) (by first | rfl | simp only [pureL, pureB, Bool.and_self, Bool.and_true, Bool.true_and, Od.elems_pure, Od.pay_pure, Od.av_pure]) rfl ?_
    simp only [run0, run1, run2, run3, run4, run5, run6, run7, run8, run9, run10, run11, run12, run13, run14, run15, run16, run17, run18, run19, run20, run21, run22, reduceCtorEq, Nat.reduceEqDiff, Nat.reduceAdd, Nat.reduceSub, Nat.reduceLeDiff, indexAddrA, indexRefA, appendA, strA, Nat.reduceMul, Nat.zero_mul, Nat.reduceMod, Int.reduceEq, Int.reduceLT, Int.reduceLE, Nat.reduceLT, Nat.lt_irrefl, Nat.reduceBEq, tys0, tys1, tys2, tys3, tys4, tys5, tys6, tys7, tys8, tys9, tys10, tys11, tys12, tys13, tys14, tys15, tys16, tys17, tys18, Try.ntmps61, Try.results61, hw, hw2]
    by_cases hg : 1000000 < s + c * partL b E 1
    · have hg2 : 1000000 < s + c * b ^ E := by
        by_cases hl : c * b ^ E ≤ 1000000
        · rw [hx.1 hl] at hg; exact hg
        · omega
      rw [if_pos hg2] at h4
      simp only [run0, run1, run2, run3, run4, run5, run6, run7, run8, run9, run10, run11, run12, run13, run14, run15, run16, run17, run18, run19, run20, run21, run22, reduceCtorEq, Nat.reduceEqDiff, Nat.reduceAdd, Nat.reduceSub, Nat.reduceLeDiff, indexAddrA, indexRefA, appendA, strA, Nat.reduceMul, Nat.zero_mul, Nat.reduceMod, Int.reduceEq, Int.reduceLT, Int.reduceLE, Nat.reduceLT, Nat.lt_irrefl, Nat.reduceBEq, tys0, tys1, tys2, tys3, tys4, tys5, tys6, tys7, tys8, tys9, tys10, tys11, tys12, tys13, tys14, tys15, tys16, tys17, tys18, Try.ntmps61, Try.results61, hg]
      exact Fin.eq (by rw [← h4]) rfl
    · have hl : c * b ^ E ≤ 1000000 := by
        refine Decidable.byContradiction fun hl => ?_
        have := hx.2 (by omega); omega
      rw [hx.1 hl] at hg l1 ⊢
      rw [if_neg hg] at h4
      simp only [run0, run1, run2, run3, run4, run5, run6, run7, run8, run9, run10, run11, run12, run13, run14, run15, run16, run17, run18, run19, run20, run21, run22, reduceCtorEq, Nat.reduceEqDiff, Nat.reduceAdd, Nat.reduceSub, Nat.reduceLeDiff, indexAddrA, indexRefA, appendA, strA, Nat.reduceMul, Nat.zero_mul, Nat.reduceMod, Int.reduceEq, Int.reduceLT, Int.reduceLE, Nat.reduceLT, Nat.lt_irrefl, Nat.reduceBEq, tys0, tys1, tys2, tys3, tys4, tys5, tys6, tys7, tys8, tys9, tys10, tys11, tys12, tys13, tys14, tys15, tys16, tys17, tys18, Try.ntmps61, Try.results61, hg, e5]
      exact ⟨(d.app (cons e c nil), r, s + c * b ^ E, _), ⟨hn.symm, by simp only; omega, by simp only; omega, h4⟩, by simp [len], by repeat constructor, rfl⟩
termination_by a.sz

theorem deDigits_ok (a : Od) (b : Int) (hs : a.sz ≤ 1048576) : Ct Try.prog 60 [av a, .int .i64 b] [] (.bool (digT b a)) [] := by
  refine Ct.by_ hmix [] Try.func60 rfl ?_
  simp only [run0, run1, run2, run3, run4, run5, run6, run7, run8, run9, run10, run11, run12, run13, run14, run15, run16, run17, run18, run19, run20, run21, run22, reduceCtorEq, Nat.reduceEqDiff, Nat.reduceAdd, Nat.reduceSub, Nat.reduceLeDiff, indexAddrA, indexRefA, appendA, strA, Nat.reduceMul, Nat.zero_mul, Nat.reduceMod, Int.reduceEq, Int.reduceLT, Int.reduceLE, Nat.reduceLT, Nat.lt_irrefl, Nat.reduceBEq, tys0, tys1, tys2, tys3, tys4, tys5, tys6, tys7, tys8, tys9, tys10, tys11, tys12, tys13, tys14, tys15, tys16, tys17, tys18, Try.ntmps60, Try.results60, av, elems_length]
  refine AWp.loop_inv (ι := Od × Od × List AObj) (fun p => ⟨[.agg [.sl false (elems a)], .int .i64 b, .ptr 0 0, .junk, .bool false, .junk, .junk, .junk, .sl false (elems a), .int .i64 a.len, .int .i64 p.1.len, .junk, .junk, .junk, .junk, .junk, .junk, .junk, .junk, .junk, .junk, .junk, .junk, .junk, .junk, .junk], .box 24 [.sl false (elems a)] :: p.2.2⟩)
    (fun p => a = p.1.app p.2.1 ∧ digT b p.2.1 = digT b a) (fun p => p.2.1.len) (.nil, a, []) ⟨rfl, rfl⟩ ⟨by simp only [len, Int.natCast_zero]; repeat constructor, rfl⟩ ?_
  rintro ⟨d, r, X⟩ ⟨ha, h4⟩
  refine W.sound hmix (E := []) ?_
  simp only at ha h4
  cases r with
  | nil =>
    obtain ⟨e1, rfl⟩ := od_end ha
    simp only [run0, run1, run2, run3, run4, run5, run6, run7, run8, run9, run10, run11, run12, run13, run14, run15, run16, run17, run18, run19, run20, run21, run22, reduceCtorEq, Nat.reduceEqDiff, Nat.reduceAdd, Nat.reduceSub, Nat.reduceLeDiff, indexAddrA, indexRefA, appendA, strA, Nat.reduceMul, Nat.zero_mul, Nat.reduceMod, Int.reduceEq, Int.reduceLT, Int.reduceLE, Nat.reduceLT, Nat.lt_irrefl, Nat.reduceBEq, tys0, tys1, tys2, tys3, tys4, tys5, tys6, tys7, tys8, tys9, tys10, tys11, tys12, tys13, tys14, tys15, tys16, tys17, tys18, Try.ntmps60, Try.results60, elems_length, e1]
    exact Fin.eq (by rw [← h4]; rfl) rfl
  | cons e c r =>
    obtain ⟨e1, e2, e5, hlt, hn, _⟩ := od_step ha hs
    simp only [digT] at h4
    simp only [run0, run1, run2, run3, run4, run5, run6, run7, run8, run9, run10, run11, run12, run13, run14, run15, run16, run17, run18, run19, run20, run21, run22, reduceCtorEq, Nat.reduceEqDiff, Nat.reduceAdd, Nat.reduceSub, Nat.reduceLeDiff, indexAddrA, indexRefA, appendA, strA, Nat.reduceMul, Nat.zero_mul, Nat.reduceMod, Int.reduceEq, Int.reduceLT, Int.reduceLE, Nat.reduceLT, Nat.lt_irrefl, Nat.reduceBEq, tys0, tys1, tys2, tys3, tys4, tys5, tys6, tys7, tys8, tys9, tys10, tys11, tys12, tys13, tys14, tys15, tys16, tys17, tys18, Try.ntmps60, Try.results60, elems_length, e1, e2, Int.toNat_natCast, Int.natCast_nonneg]
    by_cases hc : b ≤ c
    · simp only [run0, run1, run2, run3, run4, run5, run6, run7, run8, run9, run10, run11, run12, run13, run14, run15, run16, run17, run18, run19, run20, run21, run22, reduceCtorEq, Nat.reduceEqDiff, Nat.reduceAdd, Nat.reduceSub, Nat.reduceLeDiff, indexAddrA, indexRefA, appendA, strA, Nat.reduceMul, Nat.zero_mul, Nat.reduceMod, Int.reduceEq, Int.reduceLT, Int.reduceLE, Nat.reduceLT, Nat.lt_irrefl, Nat.reduceBEq, tys0, tys1, tys2, tys3, tys4, tys5, tys6, tys7, tys8, tys9, tys10, tys11, tys12, tys13, tys14, tys15, tys16, tys17, tys18, Try.ntmps60, Try.results60, hc]
      exact Fin.eq (by rw [← h4]; simp [hc]) rfl
    · simp only [run0, run1, run2, run3, run4, run5, run6, run7, run8, run9, run10, run11, run12, run13, run14, run15, run16, run17, run18, run19, run20, run21, run22, reduceCtorEq, Nat.reduceEqDiff, Nat.reduceAdd, Nat.reduceSub, Nat.reduceLeDiff, indexAddrA, indexRefA, appendA, strA, Nat.reduceMul, Nat.zero_mul, Nat.reduceMod, Int.reduceEq, Int.reduceLT, Int.reduceLE, Nat.reduceLT, Nat.lt_irrefl, Nat.reduceBEq, tys0, tys1, tys2, tys3, tys4, tys5, tys6, tys7, tys8, tys9, tys10, tys11, tys12, tys13, tys14, tys15, tys16, tys17, tys18, Try.ntmps60, Try.results60, hc]
      refine RunL.callp rfl rfl ok_f60 (deDigits_ok e b (by omega)) (by first | rfl | simp only [pureL, pureB, Bool.and_self, Bool.and_true, Bool.true_and, Od.elems_pure, Od.pay_pure, Od.av_pure]) rfl ?_
      cases hd : digT b e
      · simp only [run0, run1, run2, run3, run4, run5, run6, run7, run8, run9, run10, run11, run12, run13, run14, run15, run16, run17, run18, run19, run20, run21, run22, reduceCtorEq, Nat.reduceEqDiff, Nat.reduceAdd, Nat.reduceSub, Nat.reduceLeDiff, indexAddrA, indexRefA, appendA, strA, Nat.reduceMul, Nat.zero_mul, Nat.reduceMod, Int.reduceEq, Int.reduceLT, Int.reduceLE, Nat.reduceLT, Nat.lt_irrefl, Nat.reduceBEq, tys0, tys1, tys2, tys3, tys4, tys5, tys6, tys7, tys8, tys9, tys10, tys11, tys12, tys13, tys14, tys15, tys16, tys17, tys18, Try.ntmps60, Try.results60, hd]
        exact Fin.eq (by rw [← h4, hd]; simp) rfl
      · rw [hd] at h4
        simp only [run0, run1, run2, run3, run4, run5, run6, run7, run8, run9, run10, run11, run12, run13, run14, run15, run16, run17, run18, run19, run20, run21, run22, reduceCtorEq, Nat.reduceEqDiff, Nat.reduceAdd, Nat.reduceSub, Nat.reduceLeDiff, indexAddrA, indexRefA, appendA, strA, Nat.reduceMul, Nat.zero_mul, Nat.reduceMod, Int.reduceEq, Int.reduceLT, Int.reduceLE, Nat.reduceLT, Nat.lt_irrefl, Nat.reduceBEq, tys0, tys1, tys2, tys3, tys4, tys5, tys6, tys7, tys8, tys9, tys10, tys11, tys12, tys13, tys14, tys15, tys16, tys17, tys18, Try.ntmps60, Try.results60, hd, e5]
        exact ⟨(d.app (cons e c nil), r, _), ⟨hn.symm, by simpa [hc] using h4⟩, by simp [len], by repeat constructor, rfl⟩
termination_by a.sz

/-- The first term that is not right. -/
def firstT (b : Int) : Od → Int → Int
  | .nil, _ => -1
  | .cons e c r, i => if decide (b ≤ c) || !digT b e then i else firstT b r (i + 1)
theorem firstT_cons (b : Int) (e r : Od) (c i : Int) : firstT b (.cons e c r) i = if decide (b ≤ c) || !digT b e then i else firstT b r (i + 1) := rfl
theorem firstT_dig (b : Int) : ∀ (a : Od) (i : Int), 0 ≤ i → decide (0 ≤ firstT b a i) = !digT b a
  | .nil, i, _ => rfl
  | .cons e c r, i, h => by
    have ih := firstT_dig b r (i + 1) (by omega)
    rw [firstT_cons]
    simp only [digT]
    cases h1 : decide (b ≤ c) <;> cases h2 : digT b e
    · simpa using h
    · simpa using ih
    · simpa using h
    · simpa using h
theorem closD_of {e : Od} {c b : Int} (h : Ct Try.prog 64 [av e, .int .i64 b] [] (.bool (digT b e)) []) :
    Ct Try.prog 101 [.agg [.sl false (elems e), .int .i64 c], .rptr (.agg [.int .i64 b]) 0] [] (.bool (decide (b ≤ c) || !digT b e)) [] := by
  refine Ct.by_ hmix [] Try.func101 rfl ?_
  simp only [run0, run1, run2, run3, run4, run5, run6, run7, run8, run9, run10, run11, run12, run13, run14, run15, run16, run17, run18, run19, run20, run21, run22, reduceCtorEq, Nat.reduceEqDiff, Nat.reduceAdd, Nat.reduceSub, Nat.reduceLeDiff, indexAddrA, indexRefA, appendA, strA, Nat.reduceMul, Nat.zero_mul, Nat.reduceMod, Int.reduceEq, Int.reduceLT, Int.reduceLE, Nat.reduceLT, Nat.lt_irrefl, Nat.reduceBEq, tys0, tys1, tys2, tys3, tys4, tys5, tys6, tys7, tys8, tys9, tys10, tys11, tys12, tys13, tys14, tys15, tys16, tys17, tys18, Try.ntmps101, Try.results101]
  by_cases hc : b ≤ c
  · simp only [run0, run1, run2, run3, run4, run5, run6, run7, run8, run9, run10, run11, run12, run13, run14, run15, run16, run17, run18, run19, run20, run21, run22, reduceCtorEq, Nat.reduceEqDiff, Nat.reduceAdd, Nat.reduceSub, Nat.reduceLeDiff, indexAddrA, indexRefA, appendA, strA, Nat.reduceMul, Nat.zero_mul, Nat.reduceMod, Int.reduceEq, Int.reduceLT, Int.reduceLE, Nat.reduceLT, Nat.lt_irrefl, Nat.reduceBEq, tys0, tys1, tys2, tys3, tys4, tys5, tys6, tys7, tys8, tys9, tys10, tys11, tys12, tys13, tys14, tys15, tys16, tys17, tys18, Try.ntmps101, Try.results101, hc]
    exact Fin.eq (by simp [hc]) rfl
  · simp only [run0, run1, run2, run3, run4, run5, run6, run7, run8, run9, run10, run11, run12, run13, run14, run15, run16, run17, run18, run19, run20, run21, run22, reduceCtorEq, Nat.reduceEqDiff, Nat.reduceAdd, Nat.reduceSub, Nat.reduceLeDiff, indexAddrA, indexRefA, appendA, strA, Nat.reduceMul, Nat.zero_mul, Nat.reduceMod, Int.reduceEq, Int.reduceLT, Int.reduceLE, Nat.reduceLT, Nat.lt_irrefl, Nat.reduceBEq, tys0, tys1, tys2, tys3, tys4, tys5, tys6, tys7, tys8, tys9, tys10, tys11, tys12, tys13, tys14, tys15, tys16, tys17, tys18, Try.ntmps101, Try.results101, hc]
    refine RunL.callp rfl rfl ok_f64 (h) (by first | rfl | simp only [pureL, pureB, Bool.and_self, Bool.and_true, Bool.true_and, Od.elems_pure, Od.pay_pure, Od.av_pure]) rfl ?_
    simp only [run0, run1, run2, run3, run4, run5, run6, run7, run8, run9, run10, run11, run12, run13, run14, run15, run16, run17, run18, run19, run20, run21, run22, reduceCtorEq, Nat.reduceEqDiff, Nat.reduceAdd, Nat.reduceSub, Nat.reduceLeDiff, indexAddrA, indexRefA, appendA, strA, Nat.reduceMul, Nat.zero_mul, Nat.reduceMod, Int.reduceEq, Int.reduceLT, Int.reduceLE, Nat.reduceLT, Nat.lt_irrefl, Nat.reduceBEq, tys0, tys1, tys2, tys3, tys4, tys5, tys6, tys7, tys8, tys9, tys10, tys11, tys12, tys13, tys14, tys15, tys16, tys17, tys18, Try.ntmps101, Try.results101]
    exact Fin.eq (by simp [hc]) rfl
theorem indexD_of {a : Od} {b : Int} (hs : a.sz ≤ 1048576) (h : ∀ e : Od, e.sz < a.sz → Ct Try.prog 64 [av e, .int .i64 b] [] (.bool (digT b e)) []) :
    Ct Try.prog 120 [.sl false (elems a), .fn 101 [.rptr (.agg [.int .i64 b]) 0]] [] (.int .i64 (firstT b a 0)) [] := by
  refine Ct.by_ hmix [] Try.func120 rfl ?_
  simp only [run0, run1, run2, run3, run4, run5, run6, run7, run8, run9, run10, run11, run12, run13, run14, run15, run16, run17, run18, run19, run20, run21, run22, reduceCtorEq, Nat.reduceEqDiff, Nat.reduceAdd, Nat.reduceSub, Nat.reduceLeDiff, indexAddrA, indexRefA, appendA, strA, Nat.reduceMul, Nat.zero_mul, Nat.reduceMod, Int.reduceEq, Int.reduceLT, Int.reduceLE, Nat.reduceLT, Nat.lt_irrefl, Nat.reduceBEq, tys0, tys1, tys2, tys3, tys4, tys5, tys6, tys7, tys8, tys9, tys10, tys11, tys12, tys13, tys14, tys15, tys16, tys17, tys18, Try.ntmps120, Try.results120, elems_length]
  refine AWp.loop_inv (ι := Od × Od) (fun p => ⟨[.sl false (elems a), .fn 101 [.rptr (.agg [.int .i64 b]) 0], .junk, .junk, .int .i64 0, .junk, .junk, .int .i64 a.len, .int .i64 p.1.len, .junk, .junk, .junk, .junk, .junk, .junk, .junk, .junk, .junk, .junk], []⟩)
    (fun p => a = p.1.app p.2 ∧ firstT b p.2 p.1.len = firstT b a 0) (fun p => p.2.len) (.nil, a) ⟨rfl, rfl⟩ ⟨by simp only [len, Int.natCast_zero]; repeat constructor, rfl⟩ ?_
  rintro ⟨d, r⟩ ⟨ha, h4⟩
  refine W.sound hmix (E := []) ?_
  simp only at ha h4
  cases r with
  | nil =>
    obtain ⟨e1, rfl⟩ := od_end ha
    simp only [run0, run1, run2, run3, run4, run5, run6, run7, run8, run9, run10, run11, run12, run13, run14, run15, run16, run17, run18, run19, run20, run21, run22, reduceCtorEq, Nat.reduceEqDiff, Nat.reduceAdd, Nat.reduceSub, Nat.reduceLeDiff, indexAddrA, indexRefA, appendA, strA, Nat.reduceMul, Nat.zero_mul, Nat.reduceMod, Int.reduceEq, Int.reduceLT, Int.reduceLE, Nat.reduceLT, Nat.lt_irrefl, Nat.reduceBEq, tys0, tys1, tys2, tys3, tys4, tys5, tys6, tys7, tys8, tys9, tys10, tys11, tys12, tys13, tys14, tys15, tys16, tys17, tys18, Try.ntmps120, Try.results120, elems_length, e1]
    exact Fin.eq (by rw [← h4]; rfl) rfl
  | cons e c r =>
    obtain ⟨e1, e2, e5, hlt, hn, _⟩ := od_step ha hs
    have hd1 : ((d.app (cons e c nil)).len : Int) = (d.len : Int) + 1 := by rw [len_app]; simp [len]
    simp only [run0, run1, run2, run3, run4, run5, run6, run7, run8, run9, run10, run11, run12, run13, run14, run15, run16, run17, run18, run19, run20, run21, run22, reduceCtorEq, Nat.reduceEqDiff, Nat.reduceAdd, Nat.reduceSub, Nat.reduceLeDiff, indexAddrA, indexRefA, appendA, strA, Nat.reduceMul, Nat.zero_mul, Nat.reduceMod, Int.reduceEq, Int.reduceLT, Int.reduceLE, Nat.reduceLT, Nat.lt_irrefl, Nat.reduceBEq, tys0, tys1, tys2, tys3, tys4, tys5, tys6, tys7, tys8, tys9, tys10, tys11, tys12, tys13, tys14, tys15, tys16, tys17, tys18, Try.ntmps120, Try.results120, elems_length, e1, e2, Int.toNat_natCast, Int.natCast_nonneg]
    refine RunL.callcp rfl rfl rfl ok_f101 rfl (closD_of (c := c) (h e hlt)) (by first | rfl | simp only [pureL, pureB, Bool.and_self, Bool.and_true, Bool.true_and, Od.elems_pure, Od.pay_pure, Od.av_pure]) rfl ?_
    simp only [run0, run1, run2, run3, run4, run5, run6, run7, run8, run9, run10, run11, run12, run13, run14, run15, run16, run17, run18, run19, run20, run21, run22, reduceCtorEq, Nat.reduceEqDiff, Nat.reduceAdd, Nat.reduceSub, Nat.reduceLeDiff, indexAddrA, indexRefA, appendA, strA, Nat.reduceMul, Nat.zero_mul, Nat.reduceMod, Int.reduceEq, Int.reduceLT, Int.reduceLE, Nat.reduceLT, Nat.lt_irrefl, Nat.reduceBEq, tys0, tys1, tys2, tys3, tys4, tys5, tys6, tys7, tys8, tys9, tys10, tys11, tys12, tys13, tys14, tys15, tys16, tys17, tys18, Try.ntmps120, Try.results120]
    rw [firstT_cons] at h4
    cases hd : (decide (b ≤ c) || !digT b e)
    · rw [hd] at h4
      simp only [run0, run1, run2, run3, run4, run5, run6, run7, run8, run9, run10, run11, run12, run13, run14, run15, run16, run17, run18, run19, run20, run21, run22, reduceCtorEq, Nat.reduceEqDiff, Nat.reduceAdd, Nat.reduceSub, Nat.reduceLeDiff, indexAddrA, indexRefA, appendA, strA, Nat.reduceMul, Nat.zero_mul, Nat.reduceMod, Int.reduceEq, Int.reduceLT, Int.reduceLE, Nat.reduceLT, Nat.lt_irrefl, Nat.reduceBEq, tys0, tys1, tys2, tys3, tys4, tys5, tys6, tys7, tys8, tys9, tys10, tys11, tys12, tys13, tys14, tys15, tys16, tys17, tys18, Try.ntmps120, Try.results120, hd, e5]
      exact ⟨(d.app (cons e c nil), r), ⟨hn.symm, by simp only [hd1]; simpa using h4⟩, by simp [len], by repeat constructor⟩
    · rw [hd] at h4
      simp only [run0, run1, run2, run3, run4, run5, run6, run7, run8, run9, run10, run11, run12, run13, run14, run15, run16, run17, run18, run19, run20, run21, run22, reduceCtorEq, Nat.reduceEqDiff, Nat.reduceAdd, Nat.reduceSub, Nat.reduceLeDiff, indexAddrA, indexRefA, appendA, strA, Nat.reduceMul, Nat.zero_mul, Nat.reduceMod, Int.reduceEq, Int.reduceLT, Int.reduceLE, Nat.reduceLT, Nat.lt_irrefl, Nat.reduceBEq, tys0, tys1, tys2, tys3, tys4, tys5, tys6, tys7, tys8, tys9, tys10, tys11, tys12, tys13, tys14, tys15, tys16, tys17, tys18, Try.ntmps120, Try.results120, hd]
      exact Fin.eq (by rw [← h4]; simp) rfl
theorem digitsBelow_ok (a : Od) (b : Int) (hs : a.sz ≤ 1048576) : Ct Try.prog 64 [av a, .int .i64 b] [] (.bool (digT b a)) [] := by
  have hc : Ct Try.prog 100 [.sl false (elems a), .fn 101 [.rptr (.agg [.int .i64 b]) 0]] [] (.bool (!digT b a)) [] := by
    refine Ct.by_ hmix [] Try.func100 rfl ?_
    simp only [run0, run1, run2, run3, run4, run5, run6, run7, run8, run9, run10, run11, run12, run13, run14, run15, run16, run17, run18, run19, run20, run21, run22, reduceCtorEq, Nat.reduceEqDiff, Nat.reduceAdd, Nat.reduceSub, Nat.reduceLeDiff, indexAddrA, indexRefA, appendA, strA, Nat.reduceMul, Nat.zero_mul, Nat.reduceMod, Int.reduceEq, Int.reduceLT, Int.reduceLE, Nat.reduceLT, Nat.lt_irrefl, Nat.reduceBEq, tys0, tys1, tys2, tys3, tys4, tys5, tys6, tys7, tys8, tys9, tys10, tys11, tys12, tys13, tys14, tys15, tys16, tys17, tys18, Try.ntmps100, Try.results100]
    refine RunL.callp rfl rfl ok_f120 (indexD_of hs (fun e he => digitsBelow_ok e b (by omega))) (by first | rfl | simp only [pureL, pureB, Bool.and_self, Bool.and_true, Bool.true_and, Od.elems_pure, Od.pay_pure, Od.av_pure]) rfl ?_
    simp only [run0, run1, run2, run3, run4, run5, run6, run7, run8, run9, run10, run11, run12, run13, run14, run15, run16, run17, run18, run19, run20, run21, run22, reduceCtorEq, Nat.reduceEqDiff, Nat.reduceAdd, Nat.reduceSub, Nat.reduceLeDiff, indexAddrA, indexRefA, appendA, strA, Nat.reduceMul, Nat.zero_mul, Nat.reduceMod, Int.reduceEq, Int.reduceLT, Int.reduceLE, Nat.reduceLT, Nat.lt_irrefl, Nat.reduceBEq, tys0, tys1, tys2, tys3, tys4, tys5, tys6, tys7, tys8, tys9, tys10, tys11, tys12, tys13, tys14, tys15, tys16, tys17, tys18, Try.ntmps100, Try.results100]
    exact Fin.eq (by rw [firstT_dig b a 0 (by omega)]) rfl
  refine Ct.by_ hmix [] Try.func64 rfl ?_
  simp only [run0, run1, run2, run3, run4, run5, run6, run7, run8, run9, run10, run11, run12, run13, run14, run15, run16, run17, run18, run19, run20, run21, run22, reduceCtorEq, Nat.reduceEqDiff, Nat.reduceAdd, Nat.reduceSub, Nat.reduceLeDiff, indexAddrA, indexRefA, appendA, strA, Nat.reduceMul, Nat.zero_mul, Nat.reduceMod, Int.reduceEq, Int.reduceLT, Int.reduceLE, Nat.reduceLT, Nat.lt_irrefl, Nat.reduceBEq, tys0, tys1, tys2, tys3, tys4, tys5, tys6, tys7, tys8, tys9, tys10, tys11, tys12, tys13, tys14, tys15, tys16, tys17, tys18, Try.ntmps64, Try.results64, av]
  refine RunL.lendV (ys := [.sl false (elems a), .fn 101 [.rptr (.agg [.int .i64 b]) 0]]) rfl rfl ok_f100 rfl hc (.cons (.pur (.of (by simp only [pureB, elems_pure]))) (.cons (Vw.fn (.cons (Vw.ptr rfl rfl) .nil)) .nil)) rfl rfl ?_
  simp only [run0, run1, run2, run3, run4, run5, run6, run7, run8, run9, run10, run11, run12, run13, run14, run15, run16, run17, run18, run19, run20, run21, run22, reduceCtorEq, Nat.reduceEqDiff, Nat.reduceAdd, Nat.reduceSub, Nat.reduceLeDiff, indexAddrA, indexRefA, appendA, strA, Nat.reduceMul, Nat.zero_mul, Nat.reduceMod, Int.reduceEq, Int.reduceLT, Int.reduceLE, Nat.reduceLT, Nat.lt_irrefl, Nat.reduceBEq, tys0, tys1, tys2, tys3, tys4, tys5, tys6, tys7, tys8, tys9, tys10, tys11, tys12, tys13, tys14, tys15, tys16, tys17, tys18, Try.ntmps64, Try.results64]
  exact Fin.eq (by simp) rfl
termination_by a.sz

/-! ### the law -/
def herOk (b : Int) (a : Od) : Bool := goodT a && inB b 2 1000 && digT b a && !decide (1000000 < valT b a)
theorem inB_spec {n lo hi : Int} (h : inB n lo hi = true) : lo ≤ n ∧ n ≤ hi := by simpa [inB] using h
theorem implHer_ok (a : Od) (b : Int) (hs : a.sz ≤ 1048576) : Ct Try.prog 20 [av a, .int .i64 b] [] (.tup [.int .i64 (if herOk b a then valT b a else 0), .bool (herOk b a)]) [] := by
  have hbo : Ct Try.prog 51 [.int .i64 b] [] (.bool (inB b 2 1000)) [] := by
    refine Ct.by_ hmix [] Try.func51 rfl ?_
    simp only [run0, run1, run2, run3, run4, run5, run6, run7, run8, run9, run10, run11, run12, run13, run14, run15, run16, run17, run18, run19, run20, run21, run22, reduceCtorEq, Nat.reduceEqDiff, Nat.reduceAdd, Nat.reduceSub, Nat.reduceLeDiff, indexAddrA, indexRefA, appendA, strA, Nat.reduceMul, Nat.zero_mul, Nat.reduceMod, Int.reduceEq, Int.reduceLT, Int.reduceLE, Nat.reduceLT, Nat.lt_irrefl, Nat.reduceBEq, tys0, tys1, tys2, tys3, tys4, tys5, tys6, tys7, tys8, tys9, tys10, tys11, tys12, tys13, tys14, tys15, tys16, tys17, tys18, Try.ntmps51, Try.results51]
    refine RunL.callp rfl rfl ok_f50 (in_ok b 2 1000) (by first | rfl | simp only [pureL, pureB, Bool.and_self, Bool.and_true, Bool.true_and, Od.elems_pure, Od.pay_pure, Od.av_pure]) rfl ?_
    simp only [run0, run1, run2, run3, run4, run5, run6, run7, run8, run9, run10, run11, run12, run13, run14, run15, run16, run17, run18, run19, run20, run21, run22, reduceCtorEq, Nat.reduceEqDiff, Nat.reduceAdd, Nat.reduceSub, Nat.reduceLeDiff, indexAddrA, indexRefA, appendA, strA, Nat.reduceMul, Nat.zero_mul, Nat.reduceMod, Int.reduceEq, Int.reduceLT, Int.reduceLE, Nat.reduceLT, Nat.lt_irrefl, Nat.reduceBEq, tys0, tys1, tys2, tys3, tys4, tys5, tys6, tys7, tys8, tys9, tys10, tys11, tys12, tys13, tys14, tys15, tys16, tys17, tys18, Try.ntmps51, Try.results51]
    exact Fin.eq rfl rfl
  refine Ct.by_ hmix [] Try.func20 rfl ?_
  simp only [run0, run1, run2, run3, run4, run5, run6, run7, run8, run9, run10, run11, run12, run13, run14, run15, run16, run17, run18, run19, run20, run21, run22, reduceCtorEq, Nat.reduceEqDiff, Nat.reduceAdd, Nat.reduceSub, Nat.reduceLeDiff, indexAddrA, indexRefA, appendA, strA, Nat.reduceMul, Nat.zero_mul, Nat.reduceMod, Int.reduceEq, Int.reduceLT, Int.reduceLE, Nat.reduceLT, Nat.lt_irrefl, Nat.reduceBEq, tys0, tys1, tys2, tys3, tys4, tys5, tys6, tys7, tys8, tys9, tys10, tys11, tys12, tys13, tys14, tys15, tys16, tys17, tys18, Try.ntmps20, Try.results20, av]
  refine RunL.callp rfl rfl ok_f63 (IsOrdinal_ok a hs) (by first | rfl | simp only [pureL, pureB, Bool.and_self, Bool.and_true, Bool.true_and, Od.elems_pure, Od.pay_pure, Od.av_pure]) rfl ?_
  cases h1 : goodT a
  · simp only [run0, run1, run2, run3, run4, run5, run6, run7, run8, run9, run10, run11, run12, run13, run14, run15, run16, run17, run18, run19, run20, run21, run22, reduceCtorEq, Nat.reduceEqDiff, Nat.reduceAdd, Nat.reduceSub, Nat.reduceLeDiff, indexAddrA, indexRefA, appendA, strA, Nat.reduceMul, Nat.zero_mul, Nat.reduceMod, Int.reduceEq, Int.reduceLT, Int.reduceLE, Nat.reduceLT, Nat.lt_irrefl, Nat.reduceBEq, tys0, tys1, tys2, tys3, tys4, tys5, tys6, tys7, tys8, tys9, tys10, tys11, tys12, tys13, tys14, tys15, tys16, tys17, tys18, Try.ntmps20, Try.results20, h1]
    exact Fin.eq (by simp [herOk, h1]) rfl
  simp only [run0, run1, run2, run3, run4, run5, run6, run7, run8, run9, run10, run11, run12, run13, run14, run15, run16, run17, run18, run19, run20, run21, run22, reduceCtorEq, Nat.reduceEqDiff, Nat.reduceAdd, Nat.reduceSub, Nat.reduceLeDiff, indexAddrA, indexRefA, appendA, strA, Nat.reduceMul, Nat.zero_mul, Nat.reduceMod, Int.reduceEq, Int.reduceLT, Int.reduceLE, Nat.reduceLT, Nat.lt_irrefl, Nat.reduceBEq, tys0, tys1, tys2, tys3, tys4, tys5, tys6, tys7, tys8, tys9, tys10, tys11, tys12, tys13, tys14, tys15, tys16, tys17, tys18, Try.ntmps20, Try.results20, h1]
  refine RunL.callp rfl rfl ok_f51 (hbo) (by first | rfl | simp only [pureL, pureB, Bool.and_self, Bool.and_true, Bool.true_and, Od.elems_pure, Od.pay_pure, Od.av_pure]) rfl ?_
  cases h2 : inB b 2 1000
  · simp only [run0, run1, run2, run3, run4, run5, run6, run7, run8, run9, run10, run11, run12, run13, run14, run15, run16, run17, run18, run19, run20, run21, run22, reduceCtorEq, Nat.reduceEqDiff, Nat.reduceAdd, Nat.reduceSub, Nat.reduceLeDiff, indexAddrA, indexRefA, appendA, strA, Nat.reduceMul, Nat.zero_mul, Nat.reduceMod, Int.reduceEq, Int.reduceLT, Int.reduceLE, Nat.reduceLT, Nat.lt_irrefl, Nat.reduceBEq, tys0, tys1, tys2, tys3, tys4, tys5, tys6, tys7, tys8, tys9, tys10, tys11, tys12, tys13, tys14, tys15, tys16, tys17, tys18, Try.ntmps20, Try.results20, h2]
    exact Fin.eq (by simp [herOk, h2]) rfl
  obtain ⟨b1, b2⟩ := inB_spec h2
  simp only [run0, run1, run2, run3, run4, run5, run6, run7, run8, run9, run10, run11, run12, run13, run14, run15, run16, run17, run18, run19, run20, run21, run22, reduceCtorEq, Nat.reduceEqDiff, Nat.reduceAdd, Nat.reduceSub, Nat.reduceLeDiff, indexAddrA, indexRefA, appendA, strA, Nat.reduceMul, Nat.zero_mul, Nat.reduceMod, Int.reduceEq, Int.reduceLT, Int.reduceLE, Nat.reduceLT, Nat.lt_irrefl, Nat.reduceBEq, tys0, tys1, tys2, tys3, tys4, tys5, tys6, tys7, tys8, tys9, tys10, tys11, tys12, tys13, tys14, tys15, tys16, tys17, tys18, Try.ntmps20, Try.results20, h2]
  refine RunL.callp rfl rfl ok_f64 (digitsBelow_ok a b hs) (by first | rfl | simp only [pureL, pureB, Bool.and_self, Bool.and_true, Bool.true_and, Od.elems_pure, Od.pay_pure, Od.av_pure]) rfl ?_
  cases h3 : digT b a
  · simp only [run0, run1, run2, run3, run4, run5, run6, run7, run8, run9, run10, run11, run12, run13, run14, run15, run16, run17, run18, run19, run20, run21, run22, reduceCtorEq, Nat.reduceEqDiff, Nat.reduceAdd, Nat.reduceSub, Nat.reduceLeDiff, indexAddrA, indexRefA, appendA, strA, Nat.reduceMul, Nat.zero_mul, Nat.reduceMod, Int.reduceEq, Int.reduceLT, Int.reduceLE, Nat.reduceLT, Nat.lt_irrefl, Nat.reduceBEq, tys0, tys1, tys2, tys3, tys4, tys5, tys6, tys7, tys8, tys9, tys10, tys11, tys12, tys13, tys14, tys15, tys16, tys17, tys18, Try.ntmps20, Try.results20, h3]
    exact Fin.eq (by simp [herOk, h3]) rfl
  simp only [run0, run1, run2, run3, run4, run5, run6, run7, run8, run9, run10, run11, run12, run13, run14, run15, run16, run17, run18, run19, run20, run21, run22, reduceCtorEq, Nat.reduceEqDiff, Nat.reduceAdd, Nat.reduceSub, Nat.reduceLeDiff, indexAddrA, indexRefA, appendA, strA, Nat.reduceMul, Nat.zero_mul, Nat.reduceMod, Int.reduceEq, Int.reduceLT, Int.reduceLE, Nat.reduceLT, Nat.lt_irrefl, Nat.reduceBEq, tys0, tys1, tys2, tys3, tys4, tys5, tys6, tys7, tys8, tys9, tys10, tys11, tys12, tys13, tys14, tys15, tys16, tys17, tys18, Try.ntmps20, Try.results20, h3]
  refine RunL.callp rfl rfl ok_f65 (valueOf_ok a b hs b1 (by omega) (goodT_rng h1)) (by first | rfl | simp only [pureL, pureB, Bool.and_self, Bool.and_true, Bool.true_and, Od.elems_pure, Od.pay_pure, Od.av_pure]) rfl ?_
  by_cases h4 : 1000000 < valT b a
  · simp only [run0, run1, run2, run3, run4, run5, run6, run7, run8, run9, run10, run11, run12, run13, run14, run15, run16, run17, run18, run19, run20, run21, run22, reduceCtorEq, Nat.reduceEqDiff, Nat.reduceAdd, Nat.reduceSub, Nat.reduceLeDiff, indexAddrA, indexRefA, appendA, strA, Nat.reduceMul, Nat.zero_mul, Nat.reduceMod, Int.reduceEq, Int.reduceLT, Int.reduceLE, Nat.reduceLT, Nat.lt_irrefl, Nat.reduceBEq, tys0, tys1, tys2, tys3, tys4, tys5, tys6, tys7, tys8, tys9, tys10, tys11, tys12, tys13, tys14, tys15, tys16, tys17, tys18, Try.ntmps20, Try.results20, h4]
    exact Fin.eq (by simp [herOk, h4]) rfl
  · simp only [run0, run1, run2, run3, run4, run5, run6, run7, run8, run9, run10, run11, run12, run13, run14, run15, run16, run17, run18, run19, run20, run21, run22, reduceCtorEq, Nat.reduceEqDiff, Nat.reduceAdd, Nat.reduceSub, Nat.reduceLeDiff, indexAddrA, indexRefA, appendA, strA, Nat.reduceMul, Nat.zero_mul, Nat.reduceMod, Int.reduceEq, Int.reduceLT, Int.reduceLE, Nat.reduceLT, Nat.lt_irrefl, Nat.reduceBEq, tys0, tys1, tys2, tys3, tys4, tys5, tys6, tys7, tys8, tys9, tys10, tys11, tys12, tys13, tys14, tys15, tys16, tys17, tys18, Try.ntmps20, Try.results20, h4]
    exact Fin.eq (by simp [herOk, h1, h2, h3, h4]) rfl
theorem specHer_ok (a : Od) (b : Int) (hs : a.sz ≤ 1048576) : Ct Try.prog 18 [av a, .int .i64 b] [] (.tup [.int .i64 (if herOk b a then valT b a else 0), .bool (herOk b a)]) [] := by
  refine Ct.by_ hmix [] Try.func18 rfl ?_
  simp only [run0, run1, run2, run3, run4, run5, run6, run7, run8, run9, run10, run11, run12, run13, run14, run15, run16, run17, run18, run19, run20, run21, run22, reduceCtorEq, Nat.reduceEqDiff, Nat.reduceAdd, Nat.reduceSub, Nat.reduceLeDiff, indexAddrA, indexRefA, appendA, strA, Nat.reduceMul, Nat.zero_mul, Nat.reduceMod, Int.reduceEq, Int.reduceLT, Int.reduceLE, Nat.reduceLT, Nat.lt_irrefl, Nat.reduceBEq, tys0, tys1, tys2, tys3, tys4, tys5, tys6, tys7, tys8, tys9, tys10, tys11, tys12, tys13, tys14, tys15, tys16, tys17, tys18, Try.ntmps18, Try.results18, av]
  refine RunL.callp rfl rfl ok_f58 (odGood_ok a hs) (by first | rfl | simp only [pureL, pureB, Bool.and_self, Bool.and_true, Bool.true_and, Od.elems_pure, Od.pay_pure, Od.av_pure]) rfl ?_
  cases h1 : goodT a
  · simp only [run0, run1, run2, run3, run4, run5, run6, run7, run8, run9, run10, run11, run12, run13, run14, run15, run16, run17, run18, run19, run20, run21, run22, reduceCtorEq, Nat.reduceEqDiff, Nat.reduceAdd, Nat.reduceSub, Nat.reduceLeDiff, indexAddrA, indexRefA, appendA, strA, Nat.reduceMul, Nat.zero_mul, Nat.reduceMod, Int.reduceEq, Int.reduceLT, Int.reduceLE, Nat.reduceLT, Nat.lt_irrefl, Nat.reduceBEq, tys0, tys1, tys2, tys3, tys4, tys5, tys6, tys7, tys8, tys9, tys10, tys11, tys12, tys13, tys14, tys15, tys16, tys17, tys18, Try.ntmps18, Try.results18, h1]
    exact Fin.eq (by simp [herOk, h1]) rfl
  simp only [run0, run1, run2, run3, run4, run5, run6, run7, run8, run9, run10, run11, run12, run13, run14, run15, run16, run17, run18, run19, run20, run21, run22, reduceCtorEq, Nat.reduceEqDiff, Nat.reduceAdd, Nat.reduceSub, Nat.reduceLeDiff, indexAddrA, indexRefA, appendA, strA, Nat.reduceMul, Nat.zero_mul, Nat.reduceMod, Int.reduceEq, Int.reduceLT, Int.reduceLE, Nat.reduceLT, Nat.lt_irrefl, Nat.reduceBEq, tys0, tys1, tys2, tys3, tys4, tys5, tys6, tys7, tys8, tys9, tys10, tys11, tys12, tys13, tys14, tys15, tys16, tys17, tys18, Try.ntmps18, Try.results18, h1]
  refine RunL.callp rfl rfl ok_f59 (l1In_ok b 2 1000) (by first | rfl | simp only [pureL, pureB, Bool.and_self, Bool.and_true, Bool.true_and, Od.elems_pure, Od.pay_pure, Od.av_pure]) rfl ?_
  cases h2 : inB b 2 1000
  · simp only [run0, run1, run2, run3, run4, run5, run6, run7, run8, run9, run10, run11, run12, run13, run14, run15, run16, run17, run18, run19, run20, run21, run22, reduceCtorEq, Nat.reduceEqDiff, Nat.reduceAdd, Nat.reduceSub, Nat.reduceLeDiff, indexAddrA, indexRefA, appendA, strA, Nat.reduceMul, Nat.zero_mul, Nat.reduceMod, Int.reduceEq, Int.reduceLT, Int.reduceLE, Nat.reduceLT, Nat.lt_irrefl, Nat.reduceBEq, tys0, tys1, tys2, tys3, tys4, tys5, tys6, tys7, tys8, tys9, tys10, tys11, tys12, tys13, tys14, tys15, tys16, tys17, tys18, Try.ntmps18, Try.results18, h2]
    exact Fin.eq (by simp [herOk, h2]) rfl
  obtain ⟨b1, b2⟩ := inB_spec h2
  simp only [run0, run1, run2, run3, run4, run5, run6, run7, run8, run9, run10, run11, run12, run13, run14, run15, run16, run17, run18, run19, run20, run21, run22, reduceCtorEq, Nat.reduceEqDiff, Nat.reduceAdd, Nat.reduceSub, Nat.reduceLeDiff, indexAddrA, indexRefA, appendA, strA, Nat.reduceMul, Nat.zero_mul, Nat.reduceMod, Int.reduceEq, Int.reduceLT, Int.reduceLE, Nat.reduceLT, Nat.lt_irrefl, Nat.reduceBEq, tys0, tys1, tys2, tys3, tys4, tys5, tys6, tys7, tys8, tys9, tys10, tys11, tys12, tys13, tys14, tys15, tys16, tys17, tys18, Try.ntmps18, Try.results18, h2]
  refine RunL.callp rfl rfl ok_f60 (deDigits_ok a b hs) (by first | rfl | simp only [pureL, pureB, Bool.and_self, Bool.and_true, Bool.true_and, Od.elems_pure, Od.pay_pure, Od.av_pure]) rfl ?_
  cases h3 : digT b a
  · simp only [run0, run1, run2, run3, run4, run5, run6, run7, run8, run9, run10, run11, run12, run13, run14, run15, run16, run17, run18, run19, run20, run21, run22, reduceCtorEq, Nat.reduceEqDiff, Nat.reduceAdd, Nat.reduceSub, Nat.reduceLeDiff, indexAddrA, indexRefA, appendA, strA, Nat.reduceMul, Nat.zero_mul, Nat.reduceMod, Int.reduceEq, Int.reduceLT, Int.reduceLE, Nat.reduceLT, Nat.lt_irrefl, Nat.reduceBEq, tys0, tys1, tys2, tys3, tys4, tys5, tys6, tys7, tys8, tys9, tys10, tys11, tys12, tys13, tys14, tys15, tys16, tys17, tys18, Try.ntmps18, Try.results18, h3]
    exact Fin.eq (by simp [herOk, h3]) rfl
  simp only [run0, run1, run2, run3, run4, run5, run6, run7, run8, run9, run10, run11, run12, run13, run14, run15, run16, run17, run18, run19, run20, run21, run22, reduceCtorEq, Nat.reduceEqDiff, Nat.reduceAdd, Nat.reduceSub, Nat.reduceLeDiff, indexAddrA, indexRefA, appendA, strA, Nat.reduceMul, Nat.zero_mul, Nat.reduceMod, Int.reduceEq, Int.reduceLT, Int.reduceLE, Nat.reduceLT, Nat.lt_irrefl, Nat.reduceBEq, tys0, tys1, tys2, tys3, tys4, tys5, tys6, tys7, tys8, tys9, tys10, tys11, tys12, tys13, tys14, tys15, tys16, tys17, tys18, Try.ntmps18, Try.results18, h3]
  refine RunL.callp rfl rfl ok_f61 (deValue_ok a b hs b1 (by omega) (goodT_rng h1)) (by first | rfl | simp only [pureL, pureB, Bool.and_self, Bool.and_true, Bool.true_and, Od.elems_pure, Od.pay_pure, Od.av_pure]) rfl ?_
  by_cases h4 : 1000000 < valT b a
  · simp only [run0, run1, run2, run3, run4, run5, run6, run7, run8, run9, run10, run11, run12, run13, run14, run15, run16, run17, run18, run19, run20, run21, run22, reduceCtorEq, Nat.reduceEqDiff, Nat.reduceAdd, Nat.reduceSub, Nat.reduceLeDiff, indexAddrA, indexRefA, appendA, strA, Nat.reduceMul, Nat.zero_mul, Nat.reduceMod, Int.reduceEq, Int.reduceLT, Int.reduceLE, Nat.reduceLT, Nat.lt_irrefl, Nat.reduceBEq, tys0, tys1, tys2, tys3, tys4, tys5, tys6, tys7, tys8, tys9, tys10, tys11, tys12, tys13, tys14, tys15, tys16, tys17, tys18, Try.ntmps18, Try.results18, h4]
    exact Fin.eq (by simp [herOk, h4]) rfl
  · simp only [run0, run1, run2, run3, run4, run5, run6, run7, run8, run9, run10, run11, run12, run13, run14, run15, run16, run17, run18, run19, run20, run21, run22, reduceCtorEq, Nat.reduceEqDiff, Nat.reduceAdd, Nat.reduceSub, Nat.reduceLeDiff, indexAddrA, indexRefA, appendA, strA, Nat.reduceMul, Nat.zero_mul, Nat.reduceMod, Int.reduceEq, Int.reduceLT, Int.reduceLE, Nat.reduceLT, Nat.lt_irrefl, Nat.reduceBEq, tys0, tys1, tys2, tys3, tys4, tys5, tys6, tys7, tys8, tys9, tys10, tys11, tys12, tys13, tys14, tys15, tys16, tys17, tys18, Try.ntmps18, Try.results18, h4]
    refine RunL.callp rfl rfl ok_f61 (deValue_ok a b hs b1 (by omega) (goodT_rng h1)) (by first | rfl | simp only [pureL, pureB, Bool.and_self, Bool.and_true, Bool.true_and, Od.elems_pure, Od.pay_pure, Od.av_pure]) rfl ?_
    simp only [run0, run1, run2, run3, run4, run5, run6, run7, run8, run9, run10, run11, run12, run13, run14, run15, run16, run17, run18, run19, run20, run21, run22, reduceCtorEq, Nat.reduceEqDiff, Nat.reduceAdd, Nat.reduceSub, Nat.reduceLeDiff, indexAddrA, indexRefA, appendA, strA, Nat.reduceMul, Nat.zero_mul, Nat.reduceMod, Int.reduceEq, Int.reduceLT, Int.reduceLE, Nat.reduceLT, Nat.lt_irrefl, Nat.reduceBEq, tys0, tys1, tys2, tys3, tys4, tys5, tys6, tys7, tys8, tys9, tys10, tys11, tys12, tys13, tys14, tys15, tys16, tys17, tys18, Try.ntmps18, Try.results18]
    exact Fin.eq (by simp [herOk, h1, h2, h3, h4]) rfl

theorem FnExactFromHereditary_ok {a0 a1 : AV} (h0 : IsOf Try.prog 32 a0) (h1 : IsOf Try.prog 3 a1) : Ct Try.prog 4 [a0, a1] [] (.bool true) [] := by
  obtain ⟨a, rfl, hf⟩ := laws_isOd h0
  obtain ⟨_, h1⟩ := h1.one ty_a3
  obtain ⟨b, e, _⟩ := h1.int Try.underlying3
  simp only [List.cons.injEq, and_true] at e
  subst e
  refine Ct.by_ hmix [] Try.func4 rfl ?_
  simp only [run0, run1, run2, run3, run4, run5, run6, run7, run8, run9, run10, run11, run12, run13, run14, run15, run16, run17, run18, run19, run20, run21, run22, reduceCtorEq, Nat.reduceEqDiff, Nat.reduceAdd, Nat.reduceSub, Nat.reduceLeDiff, indexAddrA, indexRefA, appendA, strA, Nat.reduceMul, Nat.zero_mul, Nat.reduceMod, Int.reduceEq, Int.reduceLT, Int.reduceLE, Nat.reduceLT, Nat.lt_irrefl, Nat.reduceBEq, tys0, tys1, tys2, tys3, tys4, tys5, tys6, tys7, tys8, tys9, tys10, tys11, tys12, tys13, tys14, tys15, tys16, tys17, tys18, Try.ntmps4, Try.results4, av]
  refine RunL.callp rfl rfl ok_f17 (szOrdinal_ok a 1048576 hf (by omega) (by omega)) (by first | rfl | simp only [pureL, pureB, Bool.and_self, Bool.and_true, Bool.true_and, Od.elems_pure, Od.pay_pure, Od.av_pure]) rfl ?_
  rcases szR_spec a.sz 1048576 with ⟨hs, hr⟩ | ⟨hs, hr⟩
  case inr =>
    have e1 : szR a.sz 1048576 < 0 := by omega
    simp only [run0, run1, run2, run3, run4, run5, run6, run7, run8, run9, run10, run11, run12, run13, run14, run15, run16, run17, run18, run19, run20, run21, run22, reduceCtorEq, Nat.reduceEqDiff, Nat.reduceAdd, Nat.reduceSub, Nat.reduceLeDiff, indexAddrA, indexRefA, appendA, strA, Nat.reduceMul, Nat.zero_mul, Nat.reduceMod, Int.reduceEq, Int.reduceLT, Int.reduceLE, Nat.reduceLT, Nat.lt_irrefl, Nat.reduceBEq, tys0, tys1, tys2, tys3, tys4, tys5, tys6, tys7, tys8, tys9, tys10, tys11, tys12, tys13, tys14, tys15, tys16, tys17, tys18, Try.ntmps4, Try.results4, e1]
    exact Fin.eq rfl rfl
  have ha : a.sz ≤ 1048576 := by omega
  have e1 : ¬ (szR a.sz 1048576 < 0) := by omega
  simp only [run0, run1, run2, run3, run4, run5, run6, run7, run8, run9, run10, run11, run12, run13, run14, run15, run16, run17, run18, run19, run20, run21, run22, reduceCtorEq, Nat.reduceEqDiff, Nat.reduceAdd, Nat.reduceSub, Nat.reduceLeDiff, indexAddrA, indexRefA, appendA, strA, Nat.reduceMul, Nat.zero_mul, Nat.reduceMod, Int.reduceEq, Int.reduceLT, Int.reduceLE, Nat.reduceLT, Nat.lt_irrefl, Nat.reduceBEq, tys0, tys1, tys2, tys3, tys4, tys5, tys6, tys7, tys8, tys9, tys10, tys11, tys12, tys13, tys14, tys15, tys16, tys17, tys18, Try.ntmps4, Try.results4, e1]
  refine RunL.callp rfl rfl ok_f19 (toOrdinal_ok a ha) (by first | rfl | simp only [pureL, pureB, Bool.and_self, Bool.and_true, Bool.true_and, Od.elems_pure, Od.pay_pure, Od.av_pure]) rfl ?_
  simp only [run0, run1, run2, run3, run4, run5, run6, run7, run8, run9, run10, run11, run12, run13, run14, run15, run16, run17, run18, run19, run20, run21, run22, reduceCtorEq, Nat.reduceEqDiff, Nat.reduceAdd, Nat.reduceSub, Nat.reduceLeDiff, indexAddrA, indexRefA, appendA, strA, Nat.reduceMul, Nat.zero_mul, Nat.reduceMod, Int.reduceEq, Int.reduceLT, Int.reduceLE, Nat.reduceLT, Nat.lt_irrefl, Nat.reduceBEq, tys0, tys1, tys2, tys3, tys4, tys5, tys6, tys7, tys8, tys9, tys10, tys11, tys12, tys13, tys14, tys15, tys16, tys17, tys18, Try.ntmps4, Try.results4, av]
  refine RunL.callp rfl rfl ok_f18 (specHer_ok a b ha) (by first | rfl | simp only [pureL, pureB, Bool.and_self, Bool.and_true, Bool.true_and, Od.elems_pure, Od.pay_pure, Od.av_pure]) rfl ?_
  simp only [run0, run1, run2, run3, run4, run5, run6, run7, run8, run9, run10, run11, run12, run13, run14, run15, run16, run17, run18, run19, run20, run21, run22, reduceCtorEq, Nat.reduceEqDiff, Nat.reduceAdd, Nat.reduceSub, Nat.reduceLeDiff, indexAddrA, indexRefA, appendA, strA, Nat.reduceMul, Nat.zero_mul, Nat.reduceMod, Int.reduceEq, Int.reduceLT, Int.reduceLE, Nat.reduceLT, Nat.lt_irrefl, Nat.reduceBEq, tys0, tys1, tys2, tys3, tys4, tys5, tys6, tys7, tys8, tys9, tys10, tys11, tys12, tys13, tys14, tys15, tys16, tys17, tys18, Try.ntmps4, Try.results4, av]
  refine RunL.callp rfl rfl ok_f19 (toOrdinal_ok a ha) (by first | rfl | simp only [pureL, pureB, Bool.and_self, Bool.and_true, Bool.true_and, Od.elems_pure, Od.pay_pure, Od.av_pure]) rfl ?_
  simp only [run0, run1, run2, run3, run4, run5, run6, run7, run8, run9, run10, run11, run12, run13, run14, run15, run16, run17, run18, run19, run20, run21, run22, reduceCtorEq, Nat.reduceEqDiff, Nat.reduceAdd, Nat.reduceSub, Nat.reduceLeDiff, indexAddrA, indexRefA, appendA, strA, Nat.reduceMul, Nat.zero_mul, Nat.reduceMod, Int.reduceEq, Int.reduceLT, Int.reduceLE, Nat.reduceLT, Nat.lt_irrefl, Nat.reduceBEq, tys0, tys1, tys2, tys3, tys4, tys5, tys6, tys7, tys8, tys9, tys10, tys11, tys12, tys13, tys14, tys15, tys16, tys17, tys18, Try.ntmps4, Try.results4, av]
  refine RunL.callp rfl rfl ok_f20 (implHer_ok a b ha) (by first | rfl | simp only [pureL, pureB, Bool.and_self, Bool.and_true, Bool.true_and, Od.elems_pure, Od.pay_pure, Od.av_pure]) rfl ?_
  simp only [run0, run1, run2, run3, run4, run5, run6, run7, run8, run9, run10, run11, run12, run13, run14, run15, run16, run17, run18, run19, run20, run21, run22, reduceCtorEq, Nat.reduceEqDiff, Nat.reduceAdd, Nat.reduceSub, Nat.reduceLeDiff, indexAddrA, indexRefA, appendA, strA, Nat.reduceMul, Nat.zero_mul, Nat.reduceMod, Int.reduceEq, Int.reduceLT, Int.reduceLE, Nat.reduceLT, Nat.lt_irrefl, Nat.reduceBEq, tys0, tys1, tys2, tys3, tys4, tys5, tys6, tys7, tys8, tys9, tys10, tys11, tys12, tys13, tys14, tys15, tys16, tys17, tys18, Try.ntmps4, Try.results4, av, bne_self_eq_false]
  refine ⟨by kernel_rfl, ?_⟩
  refine RunL.callp rfl rfl ok_f19 (toOrdinal_ok a ha) (by first | rfl | simp only [pureL, pureB, Bool.and_self, Bool.and_true, Bool.true_and, Od.elems_pure, Od.pay_pure, Od.av_pure]) rfl ?_
  simp only [run0, run1, run2, run3, run4, run5, run6, run7, run8, run9, run10, run11, run12, run13, run14, run15, run16, run17, run18, run19, run20, run21, run22, reduceCtorEq, Nat.reduceEqDiff, Nat.reduceAdd, Nat.reduceSub, Nat.reduceLeDiff, indexAddrA, indexRefA, appendA, strA, Nat.reduceMul, Nat.zero_mul, Nat.reduceMod, Int.reduceEq, Int.reduceLT, Int.reduceLE, Nat.reduceLT, Nat.lt_irrefl, Nat.reduceBEq, tys0, tys1, tys2, tys3, tys4, tys5, tys6, tys7, tys8, tys9, tys10, tys11, tys12, tys13, tys14, tys15, tys16, tys17, tys18, Try.ntmps4, Try.results4, av]
  refine RunL.callp rfl rfl ok_f14 (eqOrdinal_ok a a ha) (by first | rfl | simp only [pureL, pureB, Bool.and_self, Bool.and_true, Bool.true_and, Od.elems_pure, Od.pay_pure, Od.av_pure]) rfl ?_
  simp only [run0, run1, run2, run3, run4, run5, run6, run7, run8, run9, run10, run11, run12, run13, run14, run15, run16, run17, run18, run19, run20, run21, run22, reduceCtorEq, Nat.reduceEqDiff, Nat.reduceAdd, Nat.reduceSub, Nat.reduceLeDiff, indexAddrA, indexRefA, appendA, strA, Nat.reduceMul, Nat.zero_mul, Nat.reduceMod, Int.reduceEq, Int.reduceLT, Int.reduceLE, Nat.reduceLT, Nat.lt_irrefl, Nat.reduceBEq, tys0, tys1, tys2, tys3, tys4, tys5, tys6, tys7, tys8, tys9, tys10, tys11, tys12, tys13, tys14, tys15, tys16, tys17, tys18, Try.ntmps4, Try.results4, eqT_refl]
  exact Fin.eq rfl rfl

end Go.Proofs.Ytphmkhaboghagaa
/-
  Ordinals: comparing, nodes, limits: the laws of their values.
-/
namespace Go.Proofs.Ytphmkhaboghagaa
open Go K Od
set_option linter.unusedSimpArgs false
set_option linter.unusedVariables false
set_option maxHeartbeats 400000

end Go.Proofs.Ytphmkhaboghagaa
