/-
  Facts on the types of this seat's program.
-/
import Derived.Test.YtminjhhabonjaaaProg
import Derived.Test.YtminjhhabonjaaaK16
namespace Go.Proofs.Ytminjhhabonjaaa
open Go K
theorem hmix : Try.prog.follows .mixedOrders = true := by kernel_rfl
theorem ty_c2 : Try.prog.cellsOf 2 = 1 := by kernel_rfl
theorem ty_i2 : (Try.prog.info? 2).isSome = true := by kernel_rfl
theorem ty_u2 : (Try.prog.underlying 2).isSome = true := by kernel_rfl
theorem ty_a2 : aggT Try.prog 2 = false := by kernel_rfl
theorem ty_w2 : (decide (Try.prog.bytesOf 2 ≤ 1024)) = true := by kernel_rfl
theorem ty_z2 : zeroOf Try.prog 2 = some (.int .i64 0) := by kernel_rfl
theorem ty_c3 : Try.prog.cellsOf 3 = 1 := by kernel_rfl
theorem ty_i3 : (Try.prog.info? 3).isSome = true := by kernel_rfl
theorem ty_u3 : (Try.prog.underlying 3).isSome = true := by kernel_rfl
theorem ty_a3 : aggT Try.prog 3 = false := by kernel_rfl
theorem ty_w3 : (decide (Try.prog.bytesOf 3 ≤ 1024)) = true := by kernel_rfl
theorem ty_z3 : zeroOf Try.prog 3 = some (.int .i64 0) := by kernel_rfl
theorem ty_c4 : Try.prog.cellsOf 4 = 1 := by kernel_rfl
theorem ty_i4 : (Try.prog.info? 4).isSome = true := by kernel_rfl
theorem ty_u4 : (Try.prog.underlying 4).isSome = true := by kernel_rfl
theorem ty_a4 : aggT Try.prog 4 = false := by kernel_rfl
theorem ty_w4 : (decide (Try.prog.bytesOf 4 ≤ 1024)) = true := by kernel_rfl
theorem ty_b4 : isBoolT Try.prog 4 = true := by kernel_rfl
theorem ty_z4 : zeroOf Try.prog 4 = some (.bool false) := by kernel_rfl
theorem ty_c5 : Try.prog.cellsOf 5 = 1 := by kernel_rfl
theorem ty_i5 : (Try.prog.info? 5).isSome = true := by kernel_rfl
theorem ty_u5 : (Try.prog.underlying 5).isSome = true := by kernel_rfl
theorem ty_a5 : aggT Try.prog 5 = false := by kernel_rfl
theorem ty_w5 : (decide (Try.prog.bytesOf 5 ≤ 1024)) = true := by kernel_rfl
theorem ty_z5 : zeroOf Try.prog 5 = some (.int .u8 0) := by kernel_rfl
theorem ty_c9 : Try.prog.cellsOf 9 = 1 := by kernel_rfl
theorem ty_i9 : (Try.prog.info? 9).isSome = true := by kernel_rfl
theorem ty_u9 : (Try.prog.underlying 9).isSome = true := by kernel_rfl
theorem ty_a9 : aggT Try.prog 9 = false := by kernel_rfl
theorem ty_w9 : (decide (Try.prog.bytesOf 9 ≤ 1024)) = true := by kernel_rfl
theorem ty_z9 : zeroOf Try.prog 9 = some (.string ⟨#[]⟩) := by kernel_rfl
theorem ty_c12 : Try.prog.cellsOf 12 = 1 := by kernel_rfl
theorem ty_i12 : (Try.prog.info? 12).isSome = true := by kernel_rfl
theorem ty_u12 : (Try.prog.underlying 12).isSome = true := by kernel_rfl
theorem ty_a12 : aggT Try.prog 12 = false := by kernel_rfl
theorem ty_w12 : (decide (Try.prog.bytesOf 12 ≤ 1024)) = true := by kernel_rfl
theorem ty_z12 : zeroOf Try.prog 12 = some (.int .u64 0) := by kernel_rfl
theorem ty_c21 : Try.prog.cellsOf 21 = 1 := by kernel_rfl
theorem ty_i21 : (Try.prog.info? 21).isSome = true := by kernel_rfl
theorem ty_u21 : (Try.prog.underlying 21).isSome = true := by kernel_rfl
theorem ty_a21 : aggT Try.prog 21 = false := by kernel_rfl
theorem ty_w21 : (decide (Try.prog.bytesOf 21 ≤ 1024)) = true := by kernel_rfl
theorem ty_z21 : zeroOf Try.prog 21 = some (.int .i32 0) := by kernel_rfl
theorem ty_c22 : Try.prog.cellsOf 22 = 1 := by kernel_rfl
theorem ty_i22 : (Try.prog.info? 22).isSome = true := by kernel_rfl
theorem ty_u22 : (Try.prog.underlying 22).isSome = true := by kernel_rfl
theorem ty_a22 : aggT Try.prog 22 = false := by kernel_rfl
theorem ty_w22 : (decide (Try.prog.bytesOf 22 ≤ 1024)) = true := by kernel_rfl
theorem ty_z22 : zeroOf Try.prog 22 = some (.slice none 0 0) := by kernel_rfl
theorem ty_c23 : Try.prog.cellsOf 23 = 1 := by kernel_rfl
theorem ty_i23 : (Try.prog.info? 23).isSome = true := by kernel_rfl
theorem ty_u23 : (Try.prog.underlying 23).isSome = true := by kernel_rfl
theorem ty_a23 : aggT Try.prog 23 = true := by kernel_rfl
theorem ty_w23 : (decide (Try.prog.bytesOf 23 ≤ 1024)) = true := by kernel_rfl
theorem ty_z23 : zeroOf Try.prog 23 = some (.agg #[.slice none 0 0]) := by kernel_rfl
theorem ty_f23_0 : fieldOf Try.prog 23 0 = some (0, 22) := by kernel_rfl
theorem ty_c24 : Try.prog.cellsOf 24 = 1 := by kernel_rfl
theorem ty_i24 : (Try.prog.info? 24).isSome = true := by kernel_rfl
theorem ty_u24 : (Try.prog.underlying 24).isSome = true := by kernel_rfl
theorem ty_a24 : aggT Try.prog 24 = true := by kernel_rfl
theorem ty_w24 : (decide (Try.prog.bytesOf 24 ≤ 1024)) = true := by kernel_rfl
theorem ty_z24 : zeroOf Try.prog 24 = some (.agg #[.slice none 0 0]) := by kernel_rfl
theorem ty_f24_0 : fieldOf Try.prog 24 0 = some (0, 22) := by kernel_rfl
theorem ty_c27 : Try.prog.cellsOf 27 = 1 := by kernel_rfl
theorem ty_i27 : (Try.prog.info? 27).isSome = true := by kernel_rfl
theorem ty_u27 : (Try.prog.underlying 27).isSome = true := by kernel_rfl
theorem ty_a27 : aggT Try.prog 27 = false := by kernel_rfl
theorem ty_w27 : (decide (Try.prog.bytesOf 27 ≤ 1024)) = true := by kernel_rfl
theorem ty_z27 : zeroOf Try.prog 27 = some (.slice none 0 0) := by kernel_rfl
theorem ty_c28 : Try.prog.cellsOf 28 = 1 := by kernel_rfl
theorem ty_i28 : (Try.prog.info? 28).isSome = true := by kernel_rfl
theorem ty_u28 : (Try.prog.underlying 28).isSome = true := by kernel_rfl
theorem ty_a28 : aggT Try.prog 28 = true := by kernel_rfl
theorem ty_w28 : (decide (Try.prog.bytesOf 28 ≤ 1024)) = true := by kernel_rfl
theorem ty_z28 : zeroOf Try.prog 28 = some (.agg #[.slice none 0 0]) := by kernel_rfl
theorem ty_f28_0 : fieldOf Try.prog 28 0 = some (0, 27) := by kernel_rfl
theorem ty_c29 : Try.prog.cellsOf 29 = 1 := by kernel_rfl
theorem ty_i29 : (Try.prog.info? 29).isSome = true := by kernel_rfl
theorem ty_u29 : (Try.prog.underlying 29).isSome = true := by kernel_rfl
theorem ty_a29 : aggT Try.prog 29 = true := by kernel_rfl
theorem ty_w29 : (decide (Try.prog.bytesOf 29 ≤ 1024)) = true := by kernel_rfl
theorem ty_z29 : zeroOf Try.prog 29 = some (.agg #[.slice none 0 0]) := by kernel_rfl
theorem ty_f29_0 : fieldOf Try.prog 29 0 = some (0, 27) := by kernel_rfl
theorem ty_c33 : Try.prog.cellsOf 33 = 1 := by kernel_rfl
theorem ty_i33 : (Try.prog.info? 33).isSome = true := by kernel_rfl
theorem ty_u33 : (Try.prog.underlying 33).isSome = true := by kernel_rfl
theorem ty_a33 : aggT Try.prog 33 = false := by kernel_rfl
theorem ty_w33 : (decide (Try.prog.bytesOf 33 ≤ 1024)) = true := by kernel_rfl
theorem ty_z33 : zeroOf Try.prog 33 = some (.slice none 0 0) := by kernel_rfl
theorem ty_c34 : Try.prog.cellsOf 34 = 1 := by kernel_rfl
theorem ty_i34 : (Try.prog.info? 34).isSome = true := by kernel_rfl
theorem ty_u34 : (Try.prog.underlying 34).isSome = true := by kernel_rfl
theorem ty_a34 : aggT Try.prog 34 = true := by kernel_rfl
theorem ty_w34 : (decide (Try.prog.bytesOf 34 ≤ 1024)) = true := by kernel_rfl
theorem ty_z34 : zeroOf Try.prog 34 = some (.agg #[.slice none 0 0]) := by kernel_rfl
theorem ty_f34_0 : fieldOf Try.prog 34 0 = some (0, 33) := by kernel_rfl
theorem ty_c35 : Try.prog.cellsOf 35 = 1 := by kernel_rfl
theorem ty_i35 : (Try.prog.info? 35).isSome = true := by kernel_rfl
theorem ty_u35 : (Try.prog.underlying 35).isSome = true := by kernel_rfl
theorem ty_a35 : aggT Try.prog 35 = true := by kernel_rfl
theorem ty_w35 : (decide (Try.prog.bytesOf 35 ≤ 1024)) = true := by kernel_rfl
theorem ty_z35 : zeroOf Try.prog 35 = some (.agg #[.slice none 0 0]) := by kernel_rfl
theorem ty_f35_0 : fieldOf Try.prog 35 0 = some (0, 33) := by kernel_rfl
theorem ty_c37 : Try.prog.cellsOf 37 = 1 := by kernel_rfl
theorem ty_i37 : (Try.prog.info? 37).isSome = true := by kernel_rfl
theorem ty_u37 : (Try.prog.underlying 37).isSome = true := by kernel_rfl
theorem ty_a37 : aggT Try.prog 37 = false := by kernel_rfl
theorem ty_w37 : (decide (Try.prog.bytesOf 37 ≤ 1024)) = true := by kernel_rfl
theorem ty_z37 : zeroOf Try.prog 37 = some (.slice none 0 0) := by kernel_rfl
theorem ty_c38 : Try.prog.cellsOf 38 = 1 := by kernel_rfl
theorem ty_i38 : (Try.prog.info? 38).isSome = true := by kernel_rfl
theorem ty_u38 : (Try.prog.underlying 38).isSome = true := by kernel_rfl
theorem ty_a38 : aggT Try.prog 38 = true := by kernel_rfl
theorem ty_w38 : (decide (Try.prog.bytesOf 38 ≤ 1024)) = true := by kernel_rfl
theorem ty_z38 : zeroOf Try.prog 38 = some (.agg #[.slice none 0 0]) := by kernel_rfl
theorem ty_f38_0 : fieldOf Try.prog 38 0 = some (0, 37) := by kernel_rfl
theorem ty_c39 : Try.prog.cellsOf 39 = 1 := by kernel_rfl
theorem ty_i39 : (Try.prog.info? 39).isSome = true := by kernel_rfl
theorem ty_u39 : (Try.prog.underlying 39).isSome = true := by kernel_rfl
theorem ty_a39 : aggT Try.prog 39 = true := by kernel_rfl
theorem ty_w39 : (decide (Try.prog.bytesOf 39 ≤ 1024)) = true := by kernel_rfl
theorem ty_z39 : zeroOf Try.prog 39 = some (.agg #[.slice none 0 0]) := by kernel_rfl
theorem ty_f39_0 : fieldOf Try.prog 39 0 = some (0, 37) := by kernel_rfl
theorem ty_c48 : Try.prog.cellsOf 48 = 1 := by kernel_rfl
theorem ty_i48 : (Try.prog.info? 48).isSome = true := by kernel_rfl
theorem ty_u48 : (Try.prog.underlying 48).isSome = true := by kernel_rfl
theorem ty_a48 : aggT Try.prog 48 = false := by kernel_rfl
theorem ty_w48 : (decide (Try.prog.bytesOf 48 ≤ 1024)) = true := by kernel_rfl
theorem ty_z48 : zeroOf Try.prog 48 = some (.slice none 0 0) := by kernel_rfl
theorem ty_c49 : Try.prog.cellsOf 49 = 1 := by kernel_rfl
theorem ty_i49 : (Try.prog.info? 49).isSome = true := by kernel_rfl
theorem ty_u49 : (Try.prog.underlying 49).isSome = true := by kernel_rfl
theorem ty_a49 : aggT Try.prog 49 = true := by kernel_rfl
theorem ty_w49 : (decide (Try.prog.bytesOf 49 ≤ 1024)) = true := by kernel_rfl
theorem ty_z49 : zeroOf Try.prog 49 = some (.agg #[.slice none 0 0]) := by kernel_rfl
theorem ty_f49_0 : fieldOf Try.prog 49 0 = some (0, 48) := by kernel_rfl
theorem ty_c50 : Try.prog.cellsOf 50 = 1 := by kernel_rfl
theorem ty_i50 : (Try.prog.info? 50).isSome = true := by kernel_rfl
theorem ty_u50 : (Try.prog.underlying 50).isSome = true := by kernel_rfl
theorem ty_a50 : aggT Try.prog 50 = true := by kernel_rfl
theorem ty_w50 : (decide (Try.prog.bytesOf 50 ≤ 1024)) = true := by kernel_rfl
theorem ty_z50 : zeroOf Try.prog 50 = some (.agg #[.slice none 0 0]) := by kernel_rfl
theorem ty_f50_0 : fieldOf Try.prog 50 0 = some (0, 48) := by kernel_rfl
theorem ty_c51 : Try.prog.cellsOf 51 = 2 := by kernel_rfl
theorem ty_i51 : (Try.prog.info? 51).isSome = true := by kernel_rfl
theorem ty_u51 : (Try.prog.underlying 51).isSome = true := by kernel_rfl
theorem ty_a51 : aggT Try.prog 51 = true := by kernel_rfl
theorem ty_w51 : (decide (Try.prog.bytesOf 51 ≤ 1024)) = true := by kernel_rfl
theorem ty_z51 : zeroOf Try.prog 51 = some (.agg #[.bool false, .slice none 0 0]) := by kernel_rfl
theorem ty_f51_0 : fieldOf Try.prog 51 0 = some (0, 4) := by kernel_rfl
theorem ty_f51_1 : fieldOf Try.prog 51 1 = some (1, 50) := by kernel_rfl
theorem ty_c52 : Try.prog.cellsOf 52 = 2 := by kernel_rfl
theorem ty_i52 : (Try.prog.info? 52).isSome = true := by kernel_rfl
theorem ty_u52 : (Try.prog.underlying 52).isSome = true := by kernel_rfl
theorem ty_a52 : aggT Try.prog 52 = true := by kernel_rfl
theorem ty_w52 : (decide (Try.prog.bytesOf 52 ≤ 1024)) = true := by kernel_rfl
theorem ty_z52 : zeroOf Try.prog 52 = some (.agg #[.bool false, .slice none 0 0]) := by kernel_rfl
theorem ty_f52_0 : fieldOf Try.prog 52 0 = some (0, 4) := by kernel_rfl
theorem ty_f52_1 : fieldOf Try.prog 52 1 = some (1, 50) := by kernel_rfl
theorem ty_c59 : Try.prog.cellsOf 59 = 2 := by kernel_rfl
theorem ty_i59 : (Try.prog.info? 59).isSome = true := by kernel_rfl
theorem ty_u59 : (Try.prog.underlying 59).isSome = true := by kernel_rfl
theorem ty_a59 : aggT Try.prog 59 = true := by kernel_rfl
theorem ty_w59 : (decide (Try.prog.bytesOf 59 ≤ 1024)) = true := by kernel_rfl
theorem ty_z59 : zeroOf Try.prog 59 = some (.agg #[.int .i64 0, .int .i64 0]) := by kernel_rfl
theorem ty_s59 : structN Try.prog 59 = some 2 := by kernel_rfl
theorem ty_f59_0 : fieldOf Try.prog 59 0 = some (0, 3) := by kernel_rfl
theorem ty_f59_1 : fieldOf Try.prog 59 1 = some (1, 3) := by kernel_rfl
theorem ty_c60 : Try.prog.cellsOf 60 = 2 := by kernel_rfl
theorem ty_i60 : (Try.prog.info? 60).isSome = true := by kernel_rfl
theorem ty_u60 : (Try.prog.underlying 60).isSome = true := by kernel_rfl
theorem ty_a60 : aggT Try.prog 60 = true := by kernel_rfl
theorem ty_w60 : (decide (Try.prog.bytesOf 60 ≤ 1024)) = true := by kernel_rfl
theorem ty_z60 : zeroOf Try.prog 60 = some (.agg #[.int .i64 0, .int .i64 0]) := by kernel_rfl
theorem ty_s60 : structN Try.prog 60 = some 2 := by kernel_rfl
theorem ty_f60_0 : fieldOf Try.prog 60 0 = some (0, 3) := by kernel_rfl
theorem ty_f60_1 : fieldOf Try.prog 60 1 = some (1, 3) := by kernel_rfl
theorem ty_c61 : Try.prog.cellsOf 61 = 3 := by kernel_rfl
theorem ty_i61 : (Try.prog.info? 61).isSome = true := by kernel_rfl
theorem ty_u61 : (Try.prog.underlying 61).isSome = true := by kernel_rfl
theorem ty_a61 : aggT Try.prog 61 = true := by kernel_rfl
theorem ty_w61 : (decide (Try.prog.bytesOf 61 ≤ 1024)) = true := by kernel_rfl
theorem ty_z61 : zeroOf Try.prog 61 = some (.agg #[.slice none 0 0, .int .i64 0, .int .i64 0]) := by kernel_rfl
theorem ty_f61_0 : fieldOf Try.prog 61 0 = some (0, 39) := by kernel_rfl
theorem ty_f61_1 : fieldOf Try.prog 61 1 = some (1, 60) := by kernel_rfl
theorem ty_c62 : Try.prog.cellsOf 62 = 3 := by kernel_rfl
theorem ty_i62 : (Try.prog.info? 62).isSome = true := by kernel_rfl
theorem ty_u62 : (Try.prog.underlying 62).isSome = true := by kernel_rfl
theorem ty_a62 : aggT Try.prog 62 = true := by kernel_rfl
theorem ty_w62 : (decide (Try.prog.bytesOf 62 ≤ 1024)) = true := by kernel_rfl
theorem ty_z62 : zeroOf Try.prog 62 = some (.agg #[.slice none 0 0, .int .i64 0, .int .i64 0]) := by kernel_rfl
theorem ty_f62_0 : fieldOf Try.prog 62 0 = some (0, 39) := by kernel_rfl
theorem ty_f62_1 : fieldOf Try.prog 62 1 = some (1, 60) := by kernel_rfl
theorem ty_c69 : Try.prog.cellsOf 69 = 1 := by kernel_rfl
theorem ty_i69 : (Try.prog.info? 69).isSome = true := by kernel_rfl
theorem ty_u69 : (Try.prog.underlying 69).isSome = true := by kernel_rfl
theorem ty_a69 : aggT Try.prog 69 = false := by kernel_rfl
theorem ty_w69 : (decide (Try.prog.bytesOf 69 ≤ 1024)) = true := by kernel_rfl
theorem ty_z69 : zeroOf Try.prog 69 = some (.slice none 0 0) := by kernel_rfl
theorem ty_c70 : Try.prog.cellsOf 70 = 1 := by kernel_rfl
theorem ty_i70 : (Try.prog.info? 70).isSome = true := by kernel_rfl
theorem ty_u70 : (Try.prog.underlying 70).isSome = true := by kernel_rfl
theorem ty_a70 : aggT Try.prog 70 = true := by kernel_rfl
theorem ty_w70 : (decide (Try.prog.bytesOf 70 ≤ 1024)) = true := by kernel_rfl
theorem ty_z70 : zeroOf Try.prog 70 = some (.agg #[.slice none 0 0]) := by kernel_rfl
theorem ty_f70_0 : fieldOf Try.prog 70 0 = some (0, 69) := by kernel_rfl
theorem ty_c71 : Try.prog.cellsOf 71 = 1 := by kernel_rfl
theorem ty_i71 : (Try.prog.info? 71).isSome = true := by kernel_rfl
theorem ty_u71 : (Try.prog.underlying 71).isSome = true := by kernel_rfl
theorem ty_a71 : aggT Try.prog 71 = true := by kernel_rfl
theorem ty_w71 : (decide (Try.prog.bytesOf 71 ≤ 1024)) = true := by kernel_rfl
theorem ty_z71 : zeroOf Try.prog 71 = some (.agg #[.slice none 0 0]) := by kernel_rfl
theorem ty_f71_0 : fieldOf Try.prog 71 0 = some (0, 69) := by kernel_rfl
theorem ty_c72 : Try.prog.cellsOf 72 = 2 := by kernel_rfl
theorem ty_i72 : (Try.prog.info? 72).isSome = true := by kernel_rfl
theorem ty_u72 : (Try.prog.underlying 72).isSome = true := by kernel_rfl
theorem ty_a72 : aggT Try.prog 72 = true := by kernel_rfl
theorem ty_w72 : (decide (Try.prog.bytesOf 72 ≤ 1024)) = true := by kernel_rfl
theorem ty_z72 : zeroOf Try.prog 72 = some (.agg #[.bool false, .slice none 0 0]) := by kernel_rfl
theorem ty_f72_0 : fieldOf Try.prog 72 0 = some (0, 4) := by kernel_rfl
theorem ty_f72_1 : fieldOf Try.prog 72 1 = some (1, 71) := by kernel_rfl
theorem ty_c73 : Try.prog.cellsOf 73 = 2 := by kernel_rfl
theorem ty_i73 : (Try.prog.info? 73).isSome = true := by kernel_rfl
theorem ty_u73 : (Try.prog.underlying 73).isSome = true := by kernel_rfl
theorem ty_a73 : aggT Try.prog 73 = true := by kernel_rfl
theorem ty_w73 : (decide (Try.prog.bytesOf 73 ≤ 1024)) = true := by kernel_rfl
theorem ty_z73 : zeroOf Try.prog 73 = some (.agg #[.bool false, .slice none 0 0]) := by kernel_rfl
theorem ty_f73_0 : fieldOf Try.prog 73 0 = some (0, 4) := by kernel_rfl
theorem ty_f73_1 : fieldOf Try.prog 73 1 = some (1, 71) := by kernel_rfl
theorem ty_c77 : Try.prog.cellsOf 77 = 1 := by kernel_rfl
theorem ty_i77 : (Try.prog.info? 77).isSome = true := by kernel_rfl
theorem ty_u77 : (Try.prog.underlying 77).isSome = true := by kernel_rfl
theorem ty_a77 : aggT Try.prog 77 = false := by kernel_rfl
theorem ty_w77 : (decide (Try.prog.bytesOf 77 ≤ 1024)) = true := by kernel_rfl
theorem ty_z77 : zeroOf Try.prog 77 = some (.pointer none) := by kernel_rfl
theorem ty_c78 : Try.prog.cellsOf 78 = 1 := by kernel_rfl
theorem ty_i78 : (Try.prog.info? 78).isSome = true := by kernel_rfl
theorem ty_u78 : (Try.prog.underlying 78).isSome = true := by kernel_rfl
theorem ty_a78 : aggT Try.prog 78 = false := by kernel_rfl
theorem ty_w78 : (decide (Try.prog.bytesOf 78 ≤ 1024)) = true := by kernel_rfl
theorem ty_z78 : zeroOf Try.prog 78 = some (.pointer none) := by kernel_rfl
theorem ty_c81 : Try.prog.cellsOf 81 = 2 := by kernel_rfl
theorem ty_i81 : (Try.prog.info? 81).isSome = true := by kernel_rfl
theorem ty_u81 : (Try.prog.underlying 81).isSome = true := by kernel_rfl
theorem ty_a81 : aggT Try.prog 81 = true := by kernel_rfl
theorem ty_w81 : (decide (Try.prog.bytesOf 81 ≤ 1024)) = true := by kernel_rfl
theorem ty_z81 : zeroOf Try.prog 81 = some (.agg #[.int .i64 0, .int .i64 0]) := by kernel_rfl
theorem ty_s81 : structN Try.prog 81 = some 2 := by kernel_rfl
theorem ty_f81_0 : fieldOf Try.prog 81 0 = some (0, 3) := by kernel_rfl
theorem ty_f81_1 : fieldOf Try.prog 81 1 = some (1, 3) := by kernel_rfl
theorem ty_c82 : Try.prog.cellsOf 82 = 3 := by kernel_rfl
theorem ty_i82 : (Try.prog.info? 82).isSome = true := by kernel_rfl
theorem ty_u82 : (Try.prog.underlying 82).isSome = true := by kernel_rfl
theorem ty_a82 : aggT Try.prog 82 = true := by kernel_rfl
theorem ty_w82 : (decide (Try.prog.bytesOf 82 ≤ 1024)) = true := by kernel_rfl
theorem ty_z82 : zeroOf Try.prog 82 = some (.agg #[.slice none 0 0, .int .i64 0, .int .i64 0]) := by kernel_rfl
theorem ty_f82_0 : fieldOf Try.prog 82 0 = some (0, 35) := by kernel_rfl
theorem ty_f82_1 : fieldOf Try.prog 82 1 = some (1, 81) := by kernel_rfl
theorem ty_c83 : Try.prog.cellsOf 83 = 3 := by kernel_rfl
theorem ty_i83 : (Try.prog.info? 83).isSome = true := by kernel_rfl
theorem ty_u83 : (Try.prog.underlying 83).isSome = true := by kernel_rfl
theorem ty_a83 : aggT Try.prog 83 = true := by kernel_rfl
theorem ty_w83 : (decide (Try.prog.bytesOf 83 ≤ 1024)) = true := by kernel_rfl
theorem ty_z83 : zeroOf Try.prog 83 = some (.agg #[.slice none 0 0, .int .i64 0, .int .i64 0]) := by kernel_rfl
theorem ty_f83_0 : fieldOf Try.prog 83 0 = some (0, 35) := by kernel_rfl
theorem ty_f83_1 : fieldOf Try.prog 83 1 = some (1, 81) := by kernel_rfl
theorem ty_c97 : Try.prog.cellsOf 97 = 1 := by kernel_rfl
theorem ty_i97 : (Try.prog.info? 97).isSome = true := by kernel_rfl
theorem ty_u97 : (Try.prog.underlying 97).isSome = true := by kernel_rfl
theorem ty_a97 : aggT Try.prog 97 = false := by kernel_rfl
theorem ty_w97 : (decide (Try.prog.bytesOf 97 ≤ 1024)) = true := by kernel_rfl
theorem ty_z97 : zeroOf Try.prog 97 = some (.pointer none) := by kernel_rfl
theorem ty_c98 : Try.prog.cellsOf 98 = 2 := by kernel_rfl
theorem ty_i98 : (Try.prog.info? 98).isSome = true := by kernel_rfl
theorem ty_u98 : (Try.prog.underlying 98).isSome = true := by kernel_rfl
theorem ty_a98 : aggT Try.prog 98 = true := by kernel_rfl
theorem ty_w98 : (decide (Try.prog.bytesOf 98 ≤ 1024)) = true := by kernel_rfl
theorem ty_z98 : zeroOf Try.prog 98 = some (.agg #[.slice none 0 0, .int .i64 0]) := by kernel_rfl
theorem ty_f98_0 : fieldOf Try.prog 98 0 = some (0, 50) := by kernel_rfl
theorem ty_f98_1 : fieldOf Try.prog 98 1 = some (1, 3) := by kernel_rfl
theorem ty_c99 : Try.prog.cellsOf 99 = 2 := by kernel_rfl
theorem ty_i99 : (Try.prog.info? 99).isSome = true := by kernel_rfl
theorem ty_u99 : (Try.prog.underlying 99).isSome = true := by kernel_rfl
theorem ty_a99 : aggT Try.prog 99 = true := by kernel_rfl
theorem ty_w99 : (decide (Try.prog.bytesOf 99 ≤ 1024)) = true := by kernel_rfl
theorem ty_z99 : zeroOf Try.prog 99 = some (.agg #[.slice none 0 0, .int .i64 0]) := by kernel_rfl
theorem ty_f99_0 : fieldOf Try.prog 99 0 = some (0, 50) := by kernel_rfl
theorem ty_f99_1 : fieldOf Try.prog 99 1 = some (1, 3) := by kernel_rfl
theorem ty_c106 : Try.prog.cellsOf 106 = 1 := by kernel_rfl
theorem ty_i106 : (Try.prog.info? 106).isSome = true := by kernel_rfl
theorem ty_u106 : (Try.prog.underlying 106).isSome = true := by kernel_rfl
theorem ty_a106 : aggT Try.prog 106 = false := by kernel_rfl
theorem ty_w106 : (decide (Try.prog.bytesOf 106 ≤ 1024)) = true := by kernel_rfl
theorem ty_z106 : zeroOf Try.prog 106 = some (.pointer none) := by kernel_rfl
theorem ty_c113 : Try.prog.cellsOf 113 = 1 := by kernel_rfl
theorem ty_i113 : (Try.prog.info? 113).isSome = true := by kernel_rfl
theorem ty_u113 : (Try.prog.underlying 113).isSome = true := by kernel_rfl
theorem ty_a113 : aggT Try.prog 113 = false := by kernel_rfl
theorem ty_w113 : (decide (Try.prog.bytesOf 113 ≤ 1024)) = true := by kernel_rfl
theorem ty_z113 : zeroOf Try.prog 113 = some (.pointer none) := by kernel_rfl
theorem ty_c115 : Try.prog.cellsOf 115 = 2 := by kernel_rfl
theorem ty_i115 : (Try.prog.info? 115).isSome = true := by kernel_rfl
theorem ty_u115 : (Try.prog.underlying 115).isSome = true := by kernel_rfl
theorem ty_a115 : aggT Try.prog 115 = true := by kernel_rfl
theorem ty_w115 : (decide (Try.prog.bytesOf 115 ≤ 1024)) = true := by kernel_rfl
theorem ty_z115 : zeroOf Try.prog 115 = some (.agg #[.slice none 0 0, .int .i64 0]) := by kernel_rfl
theorem ty_f115_0 : fieldOf Try.prog 115 0 = some (0, 71) := by kernel_rfl
theorem ty_f115_1 : fieldOf Try.prog 115 1 = some (1, 3) := by kernel_rfl
theorem ty_c116 : Try.prog.cellsOf 116 = 2 := by kernel_rfl
theorem ty_i116 : (Try.prog.info? 116).isSome = true := by kernel_rfl
theorem ty_u116 : (Try.prog.underlying 116).isSome = true := by kernel_rfl
theorem ty_a116 : aggT Try.prog 116 = true := by kernel_rfl
theorem ty_w116 : (decide (Try.prog.bytesOf 116 ≤ 1024)) = true := by kernel_rfl
theorem ty_z116 : zeroOf Try.prog 116 = some (.agg #[.slice none 0 0, .int .i64 0]) := by kernel_rfl
theorem ty_f116_0 : fieldOf Try.prog 116 0 = some (0, 71) := by kernel_rfl
theorem ty_f116_1 : fieldOf Try.prog 116 1 = some (1, 3) := by kernel_rfl
theorem ty_c126 : Try.prog.cellsOf 126 = 1 := by kernel_rfl
theorem ty_i126 : (Try.prog.info? 126).isSome = true := by kernel_rfl
theorem ty_u126 : (Try.prog.underlying 126).isSome = true := by kernel_rfl
theorem ty_a126 : aggT Try.prog 126 = false := by kernel_rfl
theorem ty_w126 : (decide (Try.prog.bytesOf 126 ≤ 1024)) = true := by kernel_rfl
theorem ty_z126 : zeroOf Try.prog 126 = some (.int .u32 0) := by kernel_rfl
theorem ty_c130 : Try.prog.cellsOf 130 = 1 := by kernel_rfl
theorem ty_i130 : (Try.prog.info? 130).isSome = true := by kernel_rfl
theorem ty_u130 : (Try.prog.underlying 130).isSome = true := by kernel_rfl
theorem ty_a130 : aggT Try.prog 130 = false := by kernel_rfl
theorem ty_w130 : (decide (Try.prog.bytesOf 130 ≤ 1024)) = true := by kernel_rfl
theorem ty_z130 : zeroOf Try.prog 130 = some (.pointer none) := by kernel_rfl
theorem ok_f3 : okFn Try.prog 3 = true := by kernel_rfl
theorem ok_f4 : okFn Try.prog 4 = true := by kernel_rfl
theorem ok_f5 : okFn Try.prog 5 = true := by kernel_rfl
theorem ok_f6 : okFn Try.prog 6 = true := by kernel_rfl
theorem ok_f7 : okFn Try.prog 7 = true := by kernel_rfl
theorem ok_f8 : okFn Try.prog 8 = true := by kernel_rfl
theorem ok_f9 : okFn Try.prog 9 = true := by kernel_rfl
theorem ok_f10 : okFn Try.prog 10 = true := by kernel_rfl
theorem ok_f11 : okFn Try.prog 11 = true := by kernel_rfl
theorem ok_f12 : okFn Try.prog 12 = true := by kernel_rfl
theorem ok_f13 : okFn Try.prog 13 = true := by kernel_rfl
theorem ok_f14 : okFn Try.prog 14 = true := by kernel_rfl
theorem ok_f15 : okFn Try.prog 15 = true := by kernel_rfl
theorem ok_f16 : okFn Try.prog 16 = true := by kernel_rfl
theorem ok_f17 : okFn Try.prog 17 = true := by kernel_rfl
theorem ok_f18 : okFn Try.prog 18 = true := by kernel_rfl
theorem ok_f19 : okFn Try.prog 19 = true := by kernel_rfl
theorem ok_f20 : okFn Try.prog 20 = true := by kernel_rfl
theorem ok_f21 : okFn Try.prog 21 = true := by kernel_rfl
theorem ok_f22 : okFn Try.prog 22 = true := by kernel_rfl
theorem ok_f23 : okFn Try.prog 23 = true := by kernel_rfl
theorem ok_f24 : okFn Try.prog 24 = true := by kernel_rfl
theorem ok_f25 : okFn Try.prog 25 = true := by kernel_rfl
theorem ok_f26 : okFn Try.prog 26 = true := by kernel_rfl
theorem ok_f27 : okFn Try.prog 27 = true := by kernel_rfl
theorem ok_f28 : okFn Try.prog 28 = true := by kernel_rfl
theorem ok_f29 : okFn Try.prog 29 = true := by kernel_rfl
theorem ok_f30 : okFn Try.prog 30 = true := by kernel_rfl
theorem ok_f31 : okFn Try.prog 31 = true := by kernel_rfl
theorem ok_f32 : okFn Try.prog 32 = true := by kernel_rfl
theorem ok_f33 : okFn Try.prog 33 = true := by kernel_rfl
theorem ok_f34 : okFn Try.prog 34 = true := by kernel_rfl
theorem ok_f35 : okFn Try.prog 35 = true := by kernel_rfl
theorem ok_f36 : okFn Try.prog 36 = true := by kernel_rfl
theorem ok_f37 : okFn Try.prog 37 = true := by kernel_rfl
theorem ok_f38 : okFn Try.prog 38 = true := by kernel_rfl
theorem ok_f39 : okFn Try.prog 39 = true := by kernel_rfl
theorem ok_f40 : okFn Try.prog 40 = true := by kernel_rfl
theorem ok_f41 : okFn Try.prog 41 = true := by kernel_rfl
theorem ok_f42 : okFn Try.prog 42 = true := by kernel_rfl
theorem ok_f43 : okFn Try.prog 43 = true := by kernel_rfl
theorem ok_f44 : okFn Try.prog 44 = true := by kernel_rfl
theorem ok_f45 : okFn Try.prog 45 = true := by kernel_rfl
theorem ok_f46 : okFn Try.prog 46 = true := by kernel_rfl
theorem ok_f47 : okFn Try.prog 47 = true := by kernel_rfl
theorem ok_f48 : okFn Try.prog 48 = true := by kernel_rfl
theorem ok_f49 : okFn Try.prog 49 = true := by kernel_rfl
theorem ok_f50 : okFn Try.prog 50 = true := by kernel_rfl
theorem ok_f51 : okFn Try.prog 51 = true := by kernel_rfl
theorem ok_f52 : okFn Try.prog 52 = true := by kernel_rfl
theorem ok_f53 : okFn Try.prog 53 = true := by kernel_rfl
theorem ok_f54 : okFn Try.prog 54 = true := by kernel_rfl
theorem ok_f55 : okFn Try.prog 55 = true := by kernel_rfl
theorem ok_f56 : okFn Try.prog 56 = true := by kernel_rfl
theorem ok_f57 : okFn Try.prog 57 = true := by kernel_rfl
theorem ok_f58 : okFn Try.prog 58 = true := by kernel_rfl
theorem ok_f59 : okFn Try.prog 59 = true := by kernel_rfl
theorem ok_f60 : okFn Try.prog 60 = true := by kernel_rfl
theorem ok_f61 : okFn Try.prog 61 = true := by kernel_rfl
theorem ok_f62 : okFn Try.prog 62 = true := by kernel_rfl
theorem ok_f63 : okFn Try.prog 63 = true := by kernel_rfl
theorem ok_f64 : okFn Try.prog 64 = true := by kernel_rfl
theorem ok_f65 : okFn Try.prog 65 = true := by kernel_rfl
theorem ok_f66 : okFn Try.prog 66 = true := by kernel_rfl
theorem ok_f67 : okFn Try.prog 67 = true := by kernel_rfl
theorem ok_f68 : okFn Try.prog 68 = true := by kernel_rfl
theorem ok_f69 : okFn Try.prog 69 = true := by kernel_rfl
theorem ok_f70 : okFn Try.prog 70 = true := by kernel_rfl
theorem ok_f71 : okFn Try.prog 71 = true := by kernel_rfl
theorem ok_f72 : okFn Try.prog 72 = true := by kernel_rfl
theorem ok_f73 : okFn Try.prog 73 = true := by kernel_rfl
theorem ok_f74 : okFn Try.prog 74 = true := by kernel_rfl
theorem ok_f75 : okFn Try.prog 75 = true := by kernel_rfl
theorem ok_f76 : okFn Try.prog 76 = true := by kernel_rfl
theorem ok_f77 : okFn Try.prog 77 = true := by kernel_rfl
theorem ok_f78 : okFn Try.prog 78 = true := by kernel_rfl
theorem ok_f79 : okFn Try.prog 79 = true := by kernel_rfl
theorem tys0 :
    (((((type_of% @ty_c2) ∧ (type_of% @ty_i2)) ∧ ((type_of% @ty_u2) ∧ (type_of% @ty_a2))) ∧ (((type_of% @ty_w2) ∧ (type_of% @ty_z2)) ∧ ((type_of% @ty_c3) ∧ (type_of% @ty_i3)))) ∧ ((((type_of% @ty_u3) ∧ (type_of% @ty_a3)) ∧ ((type_of% @ty_w3) ∧ (type_of% @ty_z3))) ∧ (((type_of% @ty_c4) ∧ (type_of% @ty_i4)) ∧ ((type_of% @ty_u4) ∧ (type_of% @ty_a4))))) :=
  ⟨⟨⟨⟨@ty_c2, @ty_i2⟩, ⟨@ty_u2, @ty_a2⟩⟩, ⟨⟨@ty_w2, @ty_z2⟩, ⟨@ty_c3, @ty_i3⟩⟩⟩, ⟨⟨⟨@ty_u3, @ty_a3⟩, ⟨@ty_w3, @ty_z3⟩⟩, ⟨⟨@ty_c4, @ty_i4⟩, ⟨@ty_u4, @ty_a4⟩⟩⟩⟩
theorem tys1 :
    (((((type_of% @ty_w4) ∧ (type_of% @ty_b4)) ∧ ((type_of% @ty_z4) ∧ (type_of% @ty_c5))) ∧ (((type_of% @ty_i5) ∧ (type_of% @ty_u5)) ∧ ((type_of% @ty_a5) ∧ (type_of% @ty_w5)))) ∧ ((((type_of% @ty_z5) ∧ (type_of% @ty_c9)) ∧ ((type_of% @ty_i9) ∧ (type_of% @ty_u9))) ∧ (((type_of% @ty_a9) ∧ (type_of% @ty_w9)) ∧ ((type_of% @ty_z9) ∧ (type_of% @ty_c12))))) :=
  ⟨⟨⟨⟨@ty_w4, @ty_b4⟩, ⟨@ty_z4, @ty_c5⟩⟩, ⟨⟨@ty_i5, @ty_u5⟩, ⟨@ty_a5, @ty_w5⟩⟩⟩, ⟨⟨⟨@ty_z5, @ty_c9⟩, ⟨@ty_i9, @ty_u9⟩⟩, ⟨⟨@ty_a9, @ty_w9⟩, ⟨@ty_z9, @ty_c12⟩⟩⟩⟩
theorem tys2 :
    (((((type_of% @ty_i12) ∧ (type_of% @ty_u12)) ∧ ((type_of% @ty_a12) ∧ (type_of% @ty_w12))) ∧ (((type_of% @ty_z12) ∧ (type_of% @ty_c21)) ∧ ((type_of% @ty_i21) ∧ (type_of% @ty_u21)))) ∧ ((((type_of% @ty_a21) ∧ (type_of% @ty_w21)) ∧ ((type_of% @ty_z21) ∧ (type_of% @ty_c22))) ∧ (((type_of% @ty_i22) ∧ (type_of% @ty_u22)) ∧ ((type_of% @ty_a22) ∧ (type_of% @ty_w22))))) :=
  ⟨⟨⟨⟨@ty_i12, @ty_u12⟩, ⟨@ty_a12, @ty_w12⟩⟩, ⟨⟨@ty_z12, @ty_c21⟩, ⟨@ty_i21, @ty_u21⟩⟩⟩, ⟨⟨⟨@ty_a21, @ty_w21⟩, ⟨@ty_z21, @ty_c22⟩⟩, ⟨⟨@ty_i22, @ty_u22⟩, ⟨@ty_a22, @ty_w22⟩⟩⟩⟩
theorem tys3 :
    (((((type_of% @ty_z22) ∧ (type_of% @ty_c23)) ∧ ((type_of% @ty_i23) ∧ (type_of% @ty_u23))) ∧ (((type_of% @ty_a23) ∧ (type_of% @ty_w23)) ∧ ((type_of% @ty_z23) ∧ (type_of% @ty_f23_0)))) ∧ ((((type_of% @ty_c24) ∧ (type_of% @ty_i24)) ∧ ((type_of% @ty_u24) ∧ (type_of% @ty_a24))) ∧ (((type_of% @ty_w24) ∧ (type_of% @ty_z24)) ∧ ((type_of% @ty_f24_0) ∧ (type_of% @ty_c27))))) :=
  ⟨⟨⟨⟨@ty_z22, @ty_c23⟩, ⟨@ty_i23, @ty_u23⟩⟩, ⟨⟨@ty_a23, @ty_w23⟩, ⟨@ty_z23, @ty_f23_0⟩⟩⟩, ⟨⟨⟨@ty_c24, @ty_i24⟩, ⟨@ty_u24, @ty_a24⟩⟩, ⟨⟨@ty_w24, @ty_z24⟩, ⟨@ty_f24_0, @ty_c27⟩⟩⟩⟩
theorem tys4 :
    (((((type_of% @ty_i27) ∧ (type_of% @ty_u27)) ∧ ((type_of% @ty_a27) ∧ (type_of% @ty_w27))) ∧ (((type_of% @ty_z27) ∧ (type_of% @ty_c28)) ∧ ((type_of% @ty_i28) ∧ (type_of% @ty_u28)))) ∧ ((((type_of% @ty_a28) ∧ (type_of% @ty_w28)) ∧ ((type_of% @ty_z28) ∧ (type_of% @ty_f28_0))) ∧ (((type_of% @ty_c29) ∧ (type_of% @ty_i29)) ∧ ((type_of% @ty_u29) ∧ (type_of% @ty_a29))))) :=
  ⟨⟨⟨⟨@ty_i27, @ty_u27⟩, ⟨@ty_a27, @ty_w27⟩⟩, ⟨⟨@ty_z27, @ty_c28⟩, ⟨@ty_i28, @ty_u28⟩⟩⟩, ⟨⟨⟨@ty_a28, @ty_w28⟩, ⟨@ty_z28, @ty_f28_0⟩⟩, ⟨⟨@ty_c29, @ty_i29⟩, ⟨@ty_u29, @ty_a29⟩⟩⟩⟩
theorem tys5 :
    (((((type_of% @ty_w29) ∧ (type_of% @ty_z29)) ∧ ((type_of% @ty_f29_0) ∧ (type_of% @ty_c33))) ∧ (((type_of% @ty_i33) ∧ (type_of% @ty_u33)) ∧ ((type_of% @ty_a33) ∧ (type_of% @ty_w33)))) ∧ ((((type_of% @ty_z33) ∧ (type_of% @ty_c34)) ∧ ((type_of% @ty_i34) ∧ (type_of% @ty_u34))) ∧ (((type_of% @ty_a34) ∧ (type_of% @ty_w34)) ∧ ((type_of% @ty_z34) ∧ (type_of% @ty_f34_0))))) :=
  ⟨⟨⟨⟨@ty_w29, @ty_z29⟩, ⟨@ty_f29_0, @ty_c33⟩⟩, ⟨⟨@ty_i33, @ty_u33⟩, ⟨@ty_a33, @ty_w33⟩⟩⟩, ⟨⟨⟨@ty_z33, @ty_c34⟩, ⟨@ty_i34, @ty_u34⟩⟩, ⟨⟨@ty_a34, @ty_w34⟩, ⟨@ty_z34, @ty_f34_0⟩⟩⟩⟩
theorem tys6 :
    (((((type_of% @ty_c35) ∧ (type_of% @ty_i35)) ∧ ((type_of% @ty_u35) ∧ (type_of% @ty_a35))) ∧ (((type_of% @ty_w35) ∧ (type_of% @ty_z35)) ∧ ((type_of% @ty_f35_0) ∧ (type_of% @ty_c37)))) ∧ ((((type_of% @ty_i37) ∧ (type_of% @ty_u37)) ∧ ((type_of% @ty_a37) ∧ (type_of% @ty_w37))) ∧ (((type_of% @ty_z37) ∧ (type_of% @ty_c38)) ∧ ((type_of% @ty_i38) ∧ (type_of% @ty_u38))))) :=
  ⟨⟨⟨⟨@ty_c35, @ty_i35⟩, ⟨@ty_u35, @ty_a35⟩⟩, ⟨⟨@ty_w35, @ty_z35⟩, ⟨@ty_f35_0, @ty_c37⟩⟩⟩, ⟨⟨⟨@ty_i37, @ty_u37⟩, ⟨@ty_a37, @ty_w37⟩⟩, ⟨⟨@ty_z37, @ty_c38⟩, ⟨@ty_i38, @ty_u38⟩⟩⟩⟩
theorem tys7 :
    (((((type_of% @ty_a38) ∧ (type_of% @ty_w38)) ∧ ((type_of% @ty_z38) ∧ (type_of% @ty_f38_0))) ∧ (((type_of% @ty_c39) ∧ (type_of% @ty_i39)) ∧ ((type_of% @ty_u39) ∧ (type_of% @ty_a39)))) ∧ ((((type_of% @ty_w39) ∧ (type_of% @ty_z39)) ∧ ((type_of% @ty_f39_0) ∧ (type_of% @ty_c48))) ∧ (((type_of% @ty_i48) ∧ (type_of% @ty_u48)) ∧ ((type_of% @ty_a48) ∧ (type_of% @ty_w48))))) :=
  ⟨⟨⟨⟨@ty_a38, @ty_w38⟩, ⟨@ty_z38, @ty_f38_0⟩⟩, ⟨⟨@ty_c39, @ty_i39⟩, ⟨@ty_u39, @ty_a39⟩⟩⟩, ⟨⟨⟨@ty_w39, @ty_z39⟩, ⟨@ty_f39_0, @ty_c48⟩⟩, ⟨⟨@ty_i48, @ty_u48⟩, ⟨@ty_a48, @ty_w48⟩⟩⟩⟩
theorem tys8 :
    (((((type_of% @ty_z48) ∧ (type_of% @ty_c49)) ∧ ((type_of% @ty_i49) ∧ (type_of% @ty_u49))) ∧ (((type_of% @ty_a49) ∧ (type_of% @ty_w49)) ∧ ((type_of% @ty_z49) ∧ (type_of% @ty_f49_0)))) ∧ ((((type_of% @ty_c50) ∧ (type_of% @ty_i50)) ∧ ((type_of% @ty_u50) ∧ (type_of% @ty_a50))) ∧ (((type_of% @ty_w50) ∧ (type_of% @ty_z50)) ∧ ((type_of% @ty_f50_0) ∧ (type_of% @ty_c51))))) :=
  ⟨⟨⟨⟨@ty_z48, @ty_c49⟩, ⟨@ty_i49, @ty_u49⟩⟩, ⟨⟨@ty_a49, @ty_w49⟩, ⟨@ty_z49, @ty_f49_0⟩⟩⟩, ⟨⟨⟨@ty_c50, @ty_i50⟩, ⟨@ty_u50, @ty_a50⟩⟩, ⟨⟨@ty_w50, @ty_z50⟩, ⟨@ty_f50_0, @ty_c51⟩⟩⟩⟩
theorem tys9 :
    (((((type_of% @ty_i51) ∧ (type_of% @ty_u51)) ∧ ((type_of% @ty_a51) ∧ (type_of% @ty_w51))) ∧ (((type_of% @ty_z51) ∧ (type_of% @ty_f51_0)) ∧ ((type_of% @ty_f51_1) ∧ (type_of% @ty_c52)))) ∧ ((((type_of% @ty_i52) ∧ (type_of% @ty_u52)) ∧ ((type_of% @ty_a52) ∧ (type_of% @ty_w52))) ∧ (((type_of% @ty_z52) ∧ (type_of% @ty_f52_0)) ∧ ((type_of% @ty_f52_1) ∧ (type_of% @ty_c59))))) :=
  ⟨⟨⟨⟨@ty_i51, @ty_u51⟩, ⟨@ty_a51, @ty_w51⟩⟩, ⟨⟨@ty_z51, @ty_f51_0⟩, ⟨@ty_f51_1, @ty_c52⟩⟩⟩, ⟨⟨⟨@ty_i52, @ty_u52⟩, ⟨@ty_a52, @ty_w52⟩⟩, ⟨⟨@ty_z52, @ty_f52_0⟩, ⟨@ty_f52_1, @ty_c59⟩⟩⟩⟩
theorem tys10 :
    (((((type_of% @ty_i59) ∧ (type_of% @ty_u59)) ∧ ((type_of% @ty_a59) ∧ (type_of% @ty_w59))) ∧ (((type_of% @ty_z59) ∧ (type_of% @ty_s59)) ∧ ((type_of% @ty_f59_0) ∧ (type_of% @ty_f59_1)))) ∧ ((((type_of% @ty_c60) ∧ (type_of% @ty_i60)) ∧ ((type_of% @ty_u60) ∧ (type_of% @ty_a60))) ∧ (((type_of% @ty_w60) ∧ (type_of% @ty_z60)) ∧ ((type_of% @ty_s60) ∧ (type_of% @ty_f60_0))))) :=
  ⟨⟨⟨⟨@ty_i59, @ty_u59⟩, ⟨@ty_a59, @ty_w59⟩⟩, ⟨⟨@ty_z59, @ty_s59⟩, ⟨@ty_f59_0, @ty_f59_1⟩⟩⟩, ⟨⟨⟨@ty_c60, @ty_i60⟩, ⟨@ty_u60, @ty_a60⟩⟩, ⟨⟨@ty_w60, @ty_z60⟩, ⟨@ty_s60, @ty_f60_0⟩⟩⟩⟩
theorem tys11 :
    (((((type_of% @ty_f60_1) ∧ (type_of% @ty_c61)) ∧ ((type_of% @ty_i61) ∧ (type_of% @ty_u61))) ∧ (((type_of% @ty_a61) ∧ (type_of% @ty_w61)) ∧ ((type_of% @ty_z61) ∧ (type_of% @ty_f61_0)))) ∧ ((((type_of% @ty_f61_1) ∧ (type_of% @ty_c62)) ∧ ((type_of% @ty_i62) ∧ (type_of% @ty_u62))) ∧ (((type_of% @ty_a62) ∧ (type_of% @ty_w62)) ∧ ((type_of% @ty_z62) ∧ (type_of% @ty_f62_0))))) :=
  ⟨⟨⟨⟨@ty_f60_1, @ty_c61⟩, ⟨@ty_i61, @ty_u61⟩⟩, ⟨⟨@ty_a61, @ty_w61⟩, ⟨@ty_z61, @ty_f61_0⟩⟩⟩, ⟨⟨⟨@ty_f61_1, @ty_c62⟩, ⟨@ty_i62, @ty_u62⟩⟩, ⟨⟨@ty_a62, @ty_w62⟩, ⟨@ty_z62, @ty_f62_0⟩⟩⟩⟩
theorem tys12 :
    (((((type_of% @ty_f62_1) ∧ (type_of% @ty_c69)) ∧ ((type_of% @ty_i69) ∧ (type_of% @ty_u69))) ∧ (((type_of% @ty_a69) ∧ (type_of% @ty_w69)) ∧ ((type_of% @ty_z69) ∧ (type_of% @ty_c70)))) ∧ ((((type_of% @ty_i70) ∧ (type_of% @ty_u70)) ∧ ((type_of% @ty_a70) ∧ (type_of% @ty_w70))) ∧ (((type_of% @ty_z70) ∧ (type_of% @ty_f70_0)) ∧ ((type_of% @ty_c71) ∧ (type_of% @ty_i71))))) :=
  ⟨⟨⟨⟨@ty_f62_1, @ty_c69⟩, ⟨@ty_i69, @ty_u69⟩⟩, ⟨⟨@ty_a69, @ty_w69⟩, ⟨@ty_z69, @ty_c70⟩⟩⟩, ⟨⟨⟨@ty_i70, @ty_u70⟩, ⟨@ty_a70, @ty_w70⟩⟩, ⟨⟨@ty_z70, @ty_f70_0⟩, ⟨@ty_c71, @ty_i71⟩⟩⟩⟩
theorem tys13 :
    (((((type_of% @ty_u71) ∧ (type_of% @ty_a71)) ∧ ((type_of% @ty_w71) ∧ (type_of% @ty_z71))) ∧ (((type_of% @ty_f71_0) ∧ (type_of% @ty_c72)) ∧ ((type_of% @ty_i72) ∧ (type_of% @ty_u72)))) ∧ ((((type_of% @ty_a72) ∧ (type_of% @ty_w72)) ∧ ((type_of% @ty_z72) ∧ (type_of% @ty_f72_0))) ∧ (((type_of% @ty_f72_1) ∧ (type_of% @ty_c73)) ∧ ((type_of% @ty_i73) ∧ (type_of% @ty_u73))))) :=
  ⟨⟨⟨⟨@ty_u71, @ty_a71⟩, ⟨@ty_w71, @ty_z71⟩⟩, ⟨⟨@ty_f71_0, @ty_c72⟩, ⟨@ty_i72, @ty_u72⟩⟩⟩, ⟨⟨⟨@ty_a72, @ty_w72⟩, ⟨@ty_z72, @ty_f72_0⟩⟩, ⟨⟨@ty_f72_1, @ty_c73⟩, ⟨@ty_i73, @ty_u73⟩⟩⟩⟩
theorem tys14 :
    (((((type_of% @ty_a73) ∧ (type_of% @ty_w73)) ∧ ((type_of% @ty_z73) ∧ (type_of% @ty_f73_0))) ∧ (((type_of% @ty_f73_1) ∧ (type_of% @ty_c77)) ∧ ((type_of% @ty_i77) ∧ (type_of% @ty_u77)))) ∧ ((((type_of% @ty_a77) ∧ (type_of% @ty_w77)) ∧ ((type_of% @ty_z77) ∧ (type_of% @ty_c78))) ∧ (((type_of% @ty_i78) ∧ (type_of% @ty_u78)) ∧ ((type_of% @ty_a78) ∧ (type_of% @ty_w78))))) :=
  ⟨⟨⟨⟨@ty_a73, @ty_w73⟩, ⟨@ty_z73, @ty_f73_0⟩⟩, ⟨⟨@ty_f73_1, @ty_c77⟩, ⟨@ty_i77, @ty_u77⟩⟩⟩, ⟨⟨⟨@ty_a77, @ty_w77⟩, ⟨@ty_z77, @ty_c78⟩⟩, ⟨⟨@ty_i78, @ty_u78⟩, ⟨@ty_a78, @ty_w78⟩⟩⟩⟩
theorem tys15 :
    (((((type_of% @ty_z78) ∧ (type_of% @ty_c81)) ∧ ((type_of% @ty_i81) ∧ (type_of% @ty_u81))) ∧ (((type_of% @ty_a81) ∧ (type_of% @ty_w81)) ∧ ((type_of% @ty_z81) ∧ (type_of% @ty_s81)))) ∧ ((((type_of% @ty_f81_0) ∧ (type_of% @ty_f81_1)) ∧ ((type_of% @ty_c82) ∧ (type_of% @ty_i82))) ∧ (((type_of% @ty_u82) ∧ (type_of% @ty_a82)) ∧ ((type_of% @ty_w82) ∧ (type_of% @ty_z82))))) :=
  ⟨⟨⟨⟨@ty_z78, @ty_c81⟩, ⟨@ty_i81, @ty_u81⟩⟩, ⟨⟨@ty_a81, @ty_w81⟩, ⟨@ty_z81, @ty_s81⟩⟩⟩, ⟨⟨⟨@ty_f81_0, @ty_f81_1⟩, ⟨@ty_c82, @ty_i82⟩⟩, ⟨⟨@ty_u82, @ty_a82⟩, ⟨@ty_w82, @ty_z82⟩⟩⟩⟩
theorem tys16 :
    (((((type_of% @ty_f82_0) ∧ (type_of% @ty_f82_1)) ∧ ((type_of% @ty_c83) ∧ (type_of% @ty_i83))) ∧ (((type_of% @ty_u83) ∧ (type_of% @ty_a83)) ∧ ((type_of% @ty_w83) ∧ (type_of% @ty_z83)))) ∧ ((((type_of% @ty_f83_0) ∧ (type_of% @ty_f83_1)) ∧ ((type_of% @ty_c97) ∧ (type_of% @ty_i97))) ∧ (((type_of% @ty_u97) ∧ (type_of% @ty_a97)) ∧ ((type_of% @ty_w97) ∧ (type_of% @ty_z97))))) :=
  ⟨⟨⟨⟨@ty_f82_0, @ty_f82_1⟩, ⟨@ty_c83, @ty_i83⟩⟩, ⟨⟨@ty_u83, @ty_a83⟩, ⟨@ty_w83, @ty_z83⟩⟩⟩, ⟨⟨⟨@ty_f83_0, @ty_f83_1⟩, ⟨@ty_c97, @ty_i97⟩⟩, ⟨⟨@ty_u97, @ty_a97⟩, ⟨@ty_w97, @ty_z97⟩⟩⟩⟩
theorem tys17 :
    (((((type_of% @ty_c98) ∧ (type_of% @ty_i98)) ∧ ((type_of% @ty_u98) ∧ (type_of% @ty_a98))) ∧ (((type_of% @ty_w98) ∧ (type_of% @ty_z98)) ∧ ((type_of% @ty_f98_0) ∧ (type_of% @ty_f98_1)))) ∧ ((((type_of% @ty_c99) ∧ (type_of% @ty_i99)) ∧ ((type_of% @ty_u99) ∧ (type_of% @ty_a99))) ∧ (((type_of% @ty_w99) ∧ (type_of% @ty_z99)) ∧ ((type_of% @ty_f99_0) ∧ (type_of% @ty_f99_1))))) :=
  ⟨⟨⟨⟨@ty_c98, @ty_i98⟩, ⟨@ty_u98, @ty_a98⟩⟩, ⟨⟨@ty_w98, @ty_z98⟩, ⟨@ty_f98_0, @ty_f98_1⟩⟩⟩, ⟨⟨⟨@ty_c99, @ty_i99⟩, ⟨@ty_u99, @ty_a99⟩⟩, ⟨⟨@ty_w99, @ty_z99⟩, ⟨@ty_f99_0, @ty_f99_1⟩⟩⟩⟩
theorem tys18 :
    (((((type_of% @ty_c106) ∧ (type_of% @ty_i106)) ∧ ((type_of% @ty_u106) ∧ (type_of% @ty_a106))) ∧ (((type_of% @ty_w106) ∧ (type_of% @ty_z106)) ∧ ((type_of% @ty_c113) ∧ (type_of% @ty_i113)))) ∧ ((((type_of% @ty_u113) ∧ (type_of% @ty_a113)) ∧ ((type_of% @ty_w113) ∧ (type_of% @ty_z113))) ∧ (((type_of% @ty_c115) ∧ (type_of% @ty_i115)) ∧ ((type_of% @ty_u115) ∧ (type_of% @ty_a115))))) :=
  ⟨⟨⟨⟨@ty_c106, @ty_i106⟩, ⟨@ty_u106, @ty_a106⟩⟩, ⟨⟨@ty_w106, @ty_z106⟩, ⟨@ty_c113, @ty_i113⟩⟩⟩, ⟨⟨⟨@ty_u113, @ty_a113⟩, ⟨@ty_w113, @ty_z113⟩⟩, ⟨⟨@ty_c115, @ty_i115⟩, ⟨@ty_u115, @ty_a115⟩⟩⟩⟩
theorem tys19 :
    (((((type_of% @ty_w115) ∧ (type_of% @ty_z115)) ∧ ((type_of% @ty_f115_0) ∧ (type_of% @ty_f115_1))) ∧ (((type_of% @ty_c116) ∧ (type_of% @ty_i116)) ∧ ((type_of% @ty_u116) ∧ (type_of% @ty_a116)))) ∧ ((((type_of% @ty_w116) ∧ (type_of% @ty_z116)) ∧ ((type_of% @ty_f116_0) ∧ (type_of% @ty_f116_1))) ∧ (((type_of% @ty_c126) ∧ (type_of% @ty_i126)) ∧ ((type_of% @ty_u126) ∧ (type_of% @ty_a126))))) :=
  ⟨⟨⟨⟨@ty_w115, @ty_z115⟩, ⟨@ty_f115_0, @ty_f115_1⟩⟩, ⟨⟨@ty_c116, @ty_i116⟩, ⟨@ty_u116, @ty_a116⟩⟩⟩, ⟨⟨⟨@ty_w116, @ty_z116⟩, ⟨@ty_f116_0, @ty_f116_1⟩⟩, ⟨⟨@ty_c126, @ty_i126⟩, ⟨@ty_u126, @ty_a126⟩⟩⟩⟩
theorem tys20 :
    (((((type_of% @ty_w126) ∧ (type_of% @ty_z126)) ∧ ((type_of% @ty_c130) ∧ (type_of% @ty_i130))) ∧ (((type_of% @ty_u130) ∧ (type_of% @ty_a130)) ∧ ((type_of% @ty_w130) ∧ (type_of% @ty_z130)))) ∧ ((((type_of% @Try.underlying2) ∧ (type_of% @Try.underlying3)) ∧ ((type_of% @Try.underlying4) ∧ (type_of% @Try.underlying5))) ∧ (((type_of% @Try.underlying9) ∧ (type_of% @Try.underlying12)) ∧ ((type_of% @Try.underlying21) ∧ (type_of% @Try.underlying22))))) :=
  ⟨⟨⟨⟨@ty_w126, @ty_z126⟩, ⟨@ty_c130, @ty_i130⟩⟩, ⟨⟨@ty_u130, @ty_a130⟩, ⟨@ty_w130, @ty_z130⟩⟩⟩, ⟨⟨⟨@Try.underlying2, @Try.underlying3⟩, ⟨@Try.underlying4, @Try.underlying5⟩⟩, ⟨⟨@Try.underlying9, @Try.underlying12⟩, ⟨@Try.underlying21, @Try.underlying22⟩⟩⟩⟩
theorem tys21 :
    (((((type_of% @Try.underlying23) ∧ (type_of% @Try.underlying24)) ∧ ((type_of% @Try.underlying27) ∧ (type_of% @Try.underlying28))) ∧ (((type_of% @Try.underlying29) ∧ (type_of% @Try.underlying33)) ∧ ((type_of% @Try.underlying34) ∧ (type_of% @Try.underlying35)))) ∧ ((((type_of% @Try.underlying37) ∧ (type_of% @Try.underlying38)) ∧ ((type_of% @Try.underlying39) ∧ (type_of% @Try.underlying48))) ∧ (((type_of% @Try.underlying49) ∧ (type_of% @Try.underlying50)) ∧ ((type_of% @Try.underlying51) ∧ (type_of% @Try.underlying52))))) :=
  ⟨⟨⟨⟨@Try.underlying23, @Try.underlying24⟩, ⟨@Try.underlying27, @Try.underlying28⟩⟩, ⟨⟨@Try.underlying29, @Try.underlying33⟩, ⟨@Try.underlying34, @Try.underlying35⟩⟩⟩, ⟨⟨⟨@Try.underlying37, @Try.underlying38⟩, ⟨@Try.underlying39, @Try.underlying48⟩⟩, ⟨⟨@Try.underlying49, @Try.underlying50⟩, ⟨@Try.underlying51, @Try.underlying52⟩⟩⟩⟩
theorem tys22 :
    (((((type_of% @Try.underlying59) ∧ (type_of% @Try.underlying60)) ∧ ((type_of% @Try.underlying61) ∧ (type_of% @Try.underlying62))) ∧ (((type_of% @Try.underlying69) ∧ (type_of% @Try.underlying70)) ∧ ((type_of% @Try.underlying71) ∧ (type_of% @Try.underlying72)))) ∧ ((((type_of% @Try.underlying73) ∧ (type_of% @Try.underlying77)) ∧ ((type_of% @Try.underlying78) ∧ (type_of% @Try.underlying81))) ∧ (((type_of% @Try.underlying82) ∧ (type_of% @Try.underlying83)) ∧ ((type_of% @Try.underlying97) ∧ (type_of% @Try.underlying98))))) :=
  ⟨⟨⟨⟨@Try.underlying59, @Try.underlying60⟩, ⟨@Try.underlying61, @Try.underlying62⟩⟩, ⟨⟨@Try.underlying69, @Try.underlying70⟩, ⟨@Try.underlying71, @Try.underlying72⟩⟩⟩, ⟨⟨⟨@Try.underlying73, @Try.underlying77⟩, ⟨@Try.underlying78, @Try.underlying81⟩⟩, ⟨⟨@Try.underlying82, @Try.underlying83⟩, ⟨@Try.underlying97, @Try.underlying98⟩⟩⟩⟩
theorem tys23 :
    (((type_of% @Try.underlying99) ∧ ((type_of% @Try.underlying106) ∧ (type_of% @Try.underlying113))) ∧ (((type_of% @Try.underlying115) ∧ (type_of% @Try.underlying116)) ∧ ((type_of% @Try.underlying126) ∧ (type_of% @Try.underlying130)))) :=
  ⟨⟨@Try.underlying99, ⟨@Try.underlying106, @Try.underlying113⟩⟩, ⟨⟨@Try.underlying115, @Try.underlying116⟩, ⟨@Try.underlying126, @Try.underlying130⟩⟩⟩
end Go.Proofs.Ytminjhhabonjaaa
