/-
  Facts on the types of this seat's program.
-/
import Derived.Test.YtolfjeedgedblaaProg
import Derived.Test.YtolfjeedgedblaaK16
namespace Go.Proofs.Ytolfjeedgedblaa
open Go K
theorem hmix : Try.prog.follows .mixedOrders = true := by kernel_rfl
theorem ty_c2 : Try.prog.cellsOf 2 = 1 := by kernel_rfl
theorem ty_i2 : (Try.prog.info? 2).isSome = true := by kernel_rfl
theorem ty_u2 : (Try.prog.underlying 2).isSome = true := by kernel_rfl
theorem ty_a2 : aggT Try.prog 2 = false := by kernel_rfl
theorem ty_w2 : (decide (Try.prog.bytesOf 2 ≤ 1024)) = true := by kernel_rfl
theorem ty_z2 : zeroOf Try.prog 2 = some (.int .i64 0) := by kernel_rfl
theorem ty_c3 : Try.prog.cellsOf 3 = 1 := by kernel_rfl
theorem ty_i3 : (Try.prog.info? 3).isSome = true := by kernel_rfl
theorem ty_u3 : (Try.prog.underlying 3).isSome = true := by kernel_rfl
theorem ty_a3 : aggT Try.prog 3 = false := by kernel_rfl
theorem ty_w3 : (decide (Try.prog.bytesOf 3 ≤ 1024)) = true := by kernel_rfl
theorem ty_z3 : zeroOf Try.prog 3 = some (.int .i64 0) := by kernel_rfl
theorem ty_c4 : Try.prog.cellsOf 4 = 1 := by kernel_rfl
theorem ty_i4 : (Try.prog.info? 4).isSome = true := by kernel_rfl
theorem ty_u4 : (Try.prog.underlying 4).isSome = true := by kernel_rfl
theorem ty_a4 : aggT Try.prog 4 = false := by kernel_rfl
theorem ty_w4 : (decide (Try.prog.bytesOf 4 ≤ 1024)) = true := by kernel_rfl
theorem ty_b4 : isBoolT Try.prog 4 = true := by kernel_rfl
theorem ty_z4 : zeroOf Try.prog 4 = some (.bool false) := by kernel_rfl
theorem ty_c5 : Try.prog.cellsOf 5 = 1 := by kernel_rfl
theorem ty_i5 : (Try.prog.info? 5).isSome = true := by kernel_rfl
theorem ty_u5 : (Try.prog.underlying 5).isSome = true := by kernel_rfl
theorem ty_a5 : aggT Try.prog 5 = false := by kernel_rfl
theorem ty_w5 : (decide (Try.prog.bytesOf 5 ≤ 1024)) = true := by kernel_rfl
theorem ty_z5 : zeroOf Try.prog 5 = some (.int .u8 0) := by kernel_rfl
theorem ty_c9 : Try.prog.cellsOf 9 = 1 := by kernel_rfl
theorem ty_i9 : (Try.prog.info? 9).isSome = true := by kernel_rfl
theorem ty_u9 : (Try.prog.underlying 9).isSome = true := by kernel_rfl
theorem ty_a9 : aggT Try.prog 9 = false := by kernel_rfl
theorem ty_w9 : (decide (Try.prog.bytesOf 9 ≤ 1024)) = true := by kernel_rfl
theorem ty_z9 : zeroOf Try.prog 9 = some (.string ⟨#[]⟩) := by kernel_rfl
theorem ty_c12 : Try.prog.cellsOf 12 = 1 := by kernel_rfl
theorem ty_i12 : (Try.prog.info? 12).isSome = true := by kernel_rfl
theorem ty_u12 : (Try.prog.underlying 12).isSome = true := by kernel_rfl
theorem ty_a12 : aggT Try.prog 12 = false := by kernel_rfl
theorem ty_w12 : (decide (Try.prog.bytesOf 12 ≤ 1024)) = true := by kernel_rfl
theorem ty_z12 : zeroOf Try.prog 12 = some (.int .u64 0) := by kernel_rfl
theorem ty_c21 : Try.prog.cellsOf 21 = 1 := by kernel_rfl
theorem ty_i21 : (Try.prog.info? 21).isSome = true := by kernel_rfl
theorem ty_u21 : (Try.prog.underlying 21).isSome = true := by kernel_rfl
theorem ty_a21 : aggT Try.prog 21 = false := by kernel_rfl
theorem ty_w21 : (decide (Try.prog.bytesOf 21 ≤ 1024)) = true := by kernel_rfl
theorem ty_z21 : zeroOf Try.prog 21 = some (.int .i32 0) := by kernel_rfl
theorem ty_c22 : Try.prog.cellsOf 22 = 2 := by kernel_rfl
theorem ty_i22 : (Try.prog.info? 22).isSome = true := by kernel_rfl
theorem ty_u22 : (Try.prog.underlying 22).isSome = true := by kernel_rfl
theorem ty_a22 : aggT Try.prog 22 = true := by kernel_rfl
theorem ty_w22 : (decide (Try.prog.bytesOf 22 ≤ 1024)) = true := by kernel_rfl
theorem ty_z22 : zeroOf Try.prog 22 = some (.agg #[.int .i64 0, .int .i64 0]) := by kernel_rfl
theorem ty_s22 : structN Try.prog 22 = some 2 := by kernel_rfl
theorem ty_f22_0 : fieldOf Try.prog 22 0 = some (0, 3) := by kernel_rfl
theorem ty_f22_1 : fieldOf Try.prog 22 1 = some (1, 3) := by kernel_rfl
theorem ty_c23 : Try.prog.cellsOf 23 = 2 := by kernel_rfl
theorem ty_i23 : (Try.prog.info? 23).isSome = true := by kernel_rfl
theorem ty_u23 : (Try.prog.underlying 23).isSome = true := by kernel_rfl
theorem ty_a23 : aggT Try.prog 23 = true := by kernel_rfl
theorem ty_w23 : (decide (Try.prog.bytesOf 23 ≤ 1024)) = true := by kernel_rfl
theorem ty_z23 : zeroOf Try.prog 23 = some (.agg #[.int .i64 0, .int .i64 0]) := by kernel_rfl
theorem ty_s23 : structN Try.prog 23 = some 2 := by kernel_rfl
theorem ty_f23_0 : fieldOf Try.prog 23 0 = some (0, 3) := by kernel_rfl
theorem ty_f23_1 : fieldOf Try.prog 23 1 = some (1, 3) := by kernel_rfl
theorem ty_c26 : Try.prog.cellsOf 26 = 2 := by kernel_rfl
theorem ty_i26 : (Try.prog.info? 26).isSome = true := by kernel_rfl
theorem ty_u26 : (Try.prog.underlying 26).isSome = true := by kernel_rfl
theorem ty_a26 : aggT Try.prog 26 = true := by kernel_rfl
theorem ty_w26 : (decide (Try.prog.bytesOf 26 ≤ 1024)) = true := by kernel_rfl
theorem ty_z26 : zeroOf Try.prog 26 = some (.agg #[.int .i64 0, .int .i64 0]) := by kernel_rfl
theorem ty_s26 : structN Try.prog 26 = some 2 := by kernel_rfl
theorem ty_f26_0 : fieldOf Try.prog 26 0 = some (0, 3) := by kernel_rfl
theorem ty_f26_1 : fieldOf Try.prog 26 1 = some (1, 3) := by kernel_rfl
theorem ty_c38 : Try.prog.cellsOf 38 = 1 := by kernel_rfl
theorem ty_i38 : (Try.prog.info? 38).isSome = true := by kernel_rfl
theorem ty_u38 : (Try.prog.underlying 38).isSome = true := by kernel_rfl
theorem ty_a38 : aggT Try.prog 38 = false := by kernel_rfl
theorem ty_w38 : (decide (Try.prog.bytesOf 38 ≤ 1024)) = true := by kernel_rfl
theorem ty_z38 : zeroOf Try.prog 38 = some (.slice none 0 0) := by kernel_rfl
theorem ty_c42 : Try.prog.cellsOf 42 = 1 := by kernel_rfl
theorem ty_i42 : (Try.prog.info? 42).isSome = true := by kernel_rfl
theorem ty_u42 : (Try.prog.underlying 42).isSome = true := by kernel_rfl
theorem ty_a42 : aggT Try.prog 42 = false := by kernel_rfl
theorem ty_w42 : (decide (Try.prog.bytesOf 42 ≤ 1024)) = true := by kernel_rfl
theorem ty_z42 : zeroOf Try.prog 42 = some (.slice none 0 0) := by kernel_rfl
theorem ty_c57 : Try.prog.cellsOf 57 = 1 := by kernel_rfl
theorem ty_i57 : (Try.prog.info? 57).isSome = true := by kernel_rfl
theorem ty_u57 : (Try.prog.underlying 57).isSome = true := by kernel_rfl
theorem ty_a57 : aggT Try.prog 57 = false := by kernel_rfl
theorem ty_w57 : (decide (Try.prog.bytesOf 57 ≤ 1024)) = true := by kernel_rfl
theorem ty_z57 : zeroOf Try.prog 57 = some (.slice none 0 0) := by kernel_rfl
theorem ty_c61 : Try.prog.cellsOf 61 = 1 := by kernel_rfl
theorem ty_i61 : (Try.prog.info? 61).isSome = true := by kernel_rfl
theorem ty_u61 : (Try.prog.underlying 61).isSome = true := by kernel_rfl
theorem ty_a61 : aggT Try.prog 61 = false := by kernel_rfl
theorem ty_w61 : (decide (Try.prog.bytesOf 61 ≤ 1024)) = true := by kernel_rfl
theorem ty_z61 : zeroOf Try.prog 61 = some (.pointer none) := by kernel_rfl
theorem ty_c62 : Try.prog.cellsOf 62 = 1 := by kernel_rfl
theorem ty_i62 : (Try.prog.info? 62).isSome = true := by kernel_rfl
theorem ty_u62 : (Try.prog.underlying 62).isSome = true := by kernel_rfl
theorem ty_a62 : aggT Try.prog 62 = false := by kernel_rfl
theorem ty_w62 : (decide (Try.prog.bytesOf 62 ≤ 1024)) = true := by kernel_rfl
theorem ty_z62 : zeroOf Try.prog 62 = some (.int .u64 0) := by kernel_rfl
theorem ty_c63 : Try.prog.cellsOf 63 = 3 := by kernel_rfl
theorem ty_i63 : (Try.prog.info? 63).isSome = true := by kernel_rfl
theorem ty_u63 : (Try.prog.underlying 63).isSome = true := by kernel_rfl
theorem ty_a63 : aggT Try.prog 63 = true := by kernel_rfl
theorem ty_w63 : (decide (Try.prog.bytesOf 63 ≤ 1024)) = true := by kernel_rfl
theorem ty_z63 : zeroOf Try.prog 63 = some (.agg #[.slice none 0 0, .int .i64 0, .int .u64 0]) := by kernel_rfl
theorem ty_f63_0 : fieldOf Try.prog 63 0 = some (0, 38) := by kernel_rfl
theorem ty_f63_1 : fieldOf Try.prog 63 1 = some (1, 3) := by kernel_rfl
theorem ty_f63_2 : fieldOf Try.prog 63 2 = some (2, 62) := by kernel_rfl
theorem ty_c64 : Try.prog.cellsOf 64 = 3 := by kernel_rfl
theorem ty_i64 : (Try.prog.info? 64).isSome = true := by kernel_rfl
theorem ty_u64 : (Try.prog.underlying 64).isSome = true := by kernel_rfl
theorem ty_a64 : aggT Try.prog 64 = true := by kernel_rfl
theorem ty_w64 : (decide (Try.prog.bytesOf 64 ≤ 1024)) = true := by kernel_rfl
theorem ty_z64 : zeroOf Try.prog 64 = some (.agg #[.slice none 0 0, .int .i64 0, .int .u64 0]) := by kernel_rfl
theorem ty_f64_0 : fieldOf Try.prog 64 0 = some (0, 38) := by kernel_rfl
theorem ty_f64_1 : fieldOf Try.prog 64 1 = some (1, 3) := by kernel_rfl
theorem ty_f64_2 : fieldOf Try.prog 64 2 = some (2, 62) := by kernel_rfl
theorem ty_c75 : Try.prog.cellsOf 75 = 8 := by kernel_rfl
theorem ty_i75 : (Try.prog.info? 75).isSome = true := by kernel_rfl
theorem ty_u75 : (Try.prog.underlying 75).isSome = true := by kernel_rfl
theorem ty_a75 : aggT Try.prog 75 = true := by kernel_rfl
theorem ty_w75 : (decide (Try.prog.bytesOf 75 ≤ 1024)) = true := by kernel_rfl
theorem ty_z75 : zeroOf Try.prog 75 = some (.agg #[.int .i64 0, .int .i64 0, .int .i64 0, .int .i64 0, .int .i64 0, .int .i64 0, .bool false, .bool false]) := by kernel_rfl
theorem ty_f75_0 : fieldOf Try.prog 75 0 = some (0, 26) := by kernel_rfl
theorem ty_f75_1 : fieldOf Try.prog 75 1 = some (2, 26) := by kernel_rfl
theorem ty_f75_2 : fieldOf Try.prog 75 2 = some (4, 26) := by kernel_rfl
theorem ty_f75_3 : fieldOf Try.prog 75 3 = some (6, 4) := by kernel_rfl
theorem ty_f75_4 : fieldOf Try.prog 75 4 = some (7, 4) := by kernel_rfl
theorem ty_c76 : Try.prog.cellsOf 76 = 8 := by kernel_rfl
theorem ty_i76 : (Try.prog.info? 76).isSome = true := by kernel_rfl
theorem ty_u76 : (Try.prog.underlying 76).isSome = true := by kernel_rfl
theorem ty_a76 : aggT Try.prog 76 = true := by kernel_rfl
theorem ty_w76 : (decide (Try.prog.bytesOf 76 ≤ 1024)) = true := by kernel_rfl
theorem ty_z76 : zeroOf Try.prog 76 = some (.agg #[.int .i64 0, .int .i64 0, .int .i64 0, .int .i64 0, .int .i64 0, .int .i64 0, .bool false, .bool false]) := by kernel_rfl
theorem ty_f76_0 : fieldOf Try.prog 76 0 = some (0, 26) := by kernel_rfl
theorem ty_f76_1 : fieldOf Try.prog 76 1 = some (2, 26) := by kernel_rfl
theorem ty_f76_2 : fieldOf Try.prog 76 2 = some (4, 26) := by kernel_rfl
theorem ty_f76_3 : fieldOf Try.prog 76 3 = some (6, 4) := by kernel_rfl
theorem ty_f76_4 : fieldOf Try.prog 76 4 = some (7, 4) := by kernel_rfl
theorem ty_c87 : Try.prog.cellsOf 87 = 1 := by kernel_rfl
theorem ty_i87 : (Try.prog.info? 87).isSome = true := by kernel_rfl
theorem ty_u87 : (Try.prog.underlying 87).isSome = true := by kernel_rfl
theorem ty_a87 : aggT Try.prog 87 = false := by kernel_rfl
theorem ty_w87 : (decide (Try.prog.bytesOf 87 ≤ 1024)) = true := by kernel_rfl
theorem ty_z87 : zeroOf Try.prog 87 = some (.slice none 0 0) := by kernel_rfl
theorem ty_c88 : Try.prog.cellsOf 88 = 1 := by kernel_rfl
theorem ty_i88 : (Try.prog.info? 88).isSome = true := by kernel_rfl
theorem ty_u88 : (Try.prog.underlying 88).isSome = true := by kernel_rfl
theorem ty_a88 : aggT Try.prog 88 = false := by kernel_rfl
theorem ty_w88 : (decide (Try.prog.bytesOf 88 ≤ 1024)) = true := by kernel_rfl
theorem ty_z88 : zeroOf Try.prog 88 = some (.int .u64 0) := by kernel_rfl
theorem ty_c95 : Try.prog.cellsOf 95 = 1 := by kernel_rfl
theorem ty_i95 : (Try.prog.info? 95).isSome = true := by kernel_rfl
theorem ty_u95 : (Try.prog.underlying 95).isSome = true := by kernel_rfl
theorem ty_a95 : aggT Try.prog 95 = false := by kernel_rfl
theorem ty_w95 : (decide (Try.prog.bytesOf 95 ≤ 1024)) = true := by kernel_rfl
theorem ty_z95 : zeroOf Try.prog 95 = some (.int .u32 0) := by kernel_rfl
theorem ty_c99 : Try.prog.cellsOf 99 = 1 := by kernel_rfl
theorem ty_i99 : (Try.prog.info? 99).isSome = true := by kernel_rfl
theorem ty_u99 : (Try.prog.underlying 99).isSome = true := by kernel_rfl
theorem ty_a99 : aggT Try.prog 99 = false := by kernel_rfl
theorem ty_w99 : (decide (Try.prog.bytesOf 99 ≤ 1024)) = true := by kernel_rfl
theorem ty_z99 : zeroOf Try.prog 99 = some (.pointer none) := by kernel_rfl
theorem ok_f3 : okFn Try.prog 3 = true := by kernel_rfl
theorem ok_f4 : okFn Try.prog 4 = true := by kernel_rfl
theorem ok_f5 : okFn Try.prog 5 = true := by kernel_rfl
theorem ok_f6 : okFn Try.prog 6 = true := by kernel_rfl
theorem ok_f7 : okFn Try.prog 7 = true := by kernel_rfl
theorem ok_f8 : okFn Try.prog 8 = true := by kernel_rfl
theorem ok_f9 : okFn Try.prog 9 = true := by kernel_rfl
theorem ok_f10 : okFn Try.prog 10 = true := by kernel_rfl
theorem ok_f11 : okFn Try.prog 11 = true := by kernel_rfl
theorem ok_f12 : okFn Try.prog 12 = true := by kernel_rfl
theorem ok_f13 : okFn Try.prog 13 = true := by kernel_rfl
theorem ok_f14 : okFn Try.prog 14 = true := by kernel_rfl
theorem ok_f15 : okFn Try.prog 15 = true := by kernel_rfl
theorem ok_f16 : okFn Try.prog 16 = true := by kernel_rfl
theorem ok_f17 : okFn Try.prog 17 = true := by kernel_rfl
theorem ok_f18 : okFn Try.prog 18 = true := by kernel_rfl
theorem ok_f19 : okFn Try.prog 19 = true := by kernel_rfl
theorem ok_f20 : okFn Try.prog 20 = true := by kernel_rfl
theorem ok_f21 : okFn Try.prog 21 = true := by kernel_rfl
theorem ok_f22 : okFn Try.prog 22 = true := by kernel_rfl
theorem ok_f23 : okFn Try.prog 23 = true := by kernel_rfl
theorem ok_f24 : okFn Try.prog 24 = true := by kernel_rfl
theorem ok_f25 : okFn Try.prog 25 = true := by kernel_rfl
theorem ok_f26 : okFn Try.prog 26 = true := by kernel_rfl
theorem ok_f27 : okFn Try.prog 27 = true := by kernel_rfl
theorem ok_f28 : okFn Try.prog 28 = true := by kernel_rfl
theorem ok_f29 : okFn Try.prog 29 = true := by kernel_rfl
theorem ok_f30 : okFn Try.prog 30 = true := by kernel_rfl
theorem ok_f31 : okFn Try.prog 31 = true := by kernel_rfl
theorem ok_f32 : okFn Try.prog 32 = true := by kernel_rfl
theorem ok_f33 : okFn Try.prog 33 = true := by kernel_rfl
theorem ok_f34 : okFn Try.prog 34 = true := by kernel_rfl
theorem ok_f35 : okFn Try.prog 35 = true := by kernel_rfl
theorem ok_f36 : okFn Try.prog 36 = true := by kernel_rfl
theorem ok_f37 : okFn Try.prog 37 = true := by kernel_rfl
theorem ok_f38 : okFn Try.prog 38 = true := by kernel_rfl
theorem ok_f39 : okFn Try.prog 39 = true := by kernel_rfl
theorem ok_f40 : okFn Try.prog 40 = true := by kernel_rfl
theorem ok_f41 : okFn Try.prog 41 = true := by kernel_rfl
theorem ok_f42 : okFn Try.prog 42 = true := by kernel_rfl
theorem ok_f43 : okFn Try.prog 43 = true := by kernel_rfl
theorem ok_f44 : okFn Try.prog 44 = true := by kernel_rfl
theorem ok_f45 : okFn Try.prog 45 = true := by kernel_rfl
theorem ok_f46 : okFn Try.prog 46 = true := by kernel_rfl
theorem ok_f47 : okFn Try.prog 47 = true := by kernel_rfl
theorem ok_f48 : okFn Try.prog 48 = true := by kernel_rfl
theorem ok_f49 : okFn Try.prog 49 = true := by kernel_rfl
theorem ok_f50 : okFn Try.prog 50 = true := by kernel_rfl
theorem ok_f51 : okFn Try.prog 51 = true := by kernel_rfl
theorem ok_f52 : okFn Try.prog 52 = true := by kernel_rfl
theorem ok_f53 : okFn Try.prog 53 = true := by kernel_rfl
theorem ok_f54 : okFn Try.prog 54 = true := by kernel_rfl
theorem ok_f55 : okFn Try.prog 55 = true := by kernel_rfl
theorem ok_f56 : okFn Try.prog 56 = true := by kernel_rfl
theorem ok_f57 : okFn Try.prog 57 = true := by kernel_rfl
theorem ok_f58 : okFn Try.prog 58 = true := by kernel_rfl
theorem ok_f59 : okFn Try.prog 59 = true := by kernel_rfl
theorem ok_f60 : okFn Try.prog 60 = true := by kernel_rfl
theorem ok_f61 : okFn Try.prog 61 = true := by kernel_rfl
theorem ok_f62 : okFn Try.prog 62 = true := by kernel_rfl
theorem ok_f63 : okFn Try.prog 63 = true := by kernel_rfl
theorem ok_f64 : okFn Try.prog 64 = true := by kernel_rfl
theorem ok_f65 : okFn Try.prog 65 = true := by kernel_rfl
theorem ok_f66 : okFn Try.prog 66 = true := by kernel_rfl
theorem ok_f67 : okFn Try.prog 67 = true := by kernel_rfl
theorem ok_f68 : okFn Try.prog 68 = true := by kernel_rfl
theorem ok_f69 : okFn Try.prog 69 = true := by kernel_rfl
theorem ok_f70 : okFn Try.prog 70 = true := by kernel_rfl
theorem ok_f71 : okFn Try.prog 71 = true := by kernel_rfl
theorem ok_f72 : okFn Try.prog 72 = true := by kernel_rfl
theorem ok_f73 : okFn Try.prog 73 = true := by kernel_rfl
theorem ok_f74 : okFn Try.prog 74 = true := by kernel_rfl
theorem ok_f75 : okFn Try.prog 75 = true := by kernel_rfl
theorem ok_f76 : okFn Try.prog 76 = true := by kernel_rfl
theorem ok_f77 : okFn Try.prog 77 = true := by kernel_rfl
theorem ok_f78 : okFn Try.prog 78 = true := by kernel_rfl
theorem ok_f79 : okFn Try.prog 79 = true := by kernel_rfl
theorem ok_f80 : okFn Try.prog 80 = true := by kernel_rfl
theorem ok_f81 : okFn Try.prog 81 = true := by kernel_rfl
theorem ok_f82 : okFn Try.prog 82 = true := by kernel_rfl
theorem ok_f83 : okFn Try.prog 83 = true := by kernel_rfl
theorem ok_f84 : okFn Try.prog 84 = true := by kernel_rfl
theorem ok_f85 : okFn Try.prog 85 = true := by kernel_rfl
theorem ok_f86 : okFn Try.prog 86 = true := by kernel_rfl
theorem ok_f87 : okFn Try.prog 87 = true := by kernel_rfl
theorem ok_f88 : okFn Try.prog 88 = true := by kernel_rfl
theorem ok_f89 : okFn Try.prog 89 = true := by kernel_rfl
theorem ok_f90 : okFn Try.prog 90 = true := by kernel_rfl
theorem ok_f91 : okFn Try.prog 91 = true := by kernel_rfl
theorem ok_f92 : okFn Try.prog 92 = true := by kernel_rfl
theorem tys0 :
    (((((type_of% @ty_c2) ∧ (type_of% @ty_i2)) ∧ ((type_of% @ty_u2) ∧ (type_of% @ty_a2))) ∧ (((type_of% @ty_w2) ∧ (type_of% @ty_z2)) ∧ ((type_of% @ty_c3) ∧ (type_of% @ty_i3)))) ∧ ((((type_of% @ty_u3) ∧ (type_of% @ty_a3)) ∧ ((type_of% @ty_w3) ∧ (type_of% @ty_z3))) ∧ (((type_of% @ty_c4) ∧ (type_of% @ty_i4)) ∧ ((type_of% @ty_u4) ∧ (type_of% @ty_a4))))) :=
  ⟨⟨⟨⟨@ty_c2, @ty_i2⟩, ⟨@ty_u2, @ty_a2⟩⟩, ⟨⟨@ty_w2, @ty_z2⟩, ⟨@ty_c3, @ty_i3⟩⟩⟩, ⟨⟨⟨@ty_u3, @ty_a3⟩, ⟨@ty_w3, @ty_z3⟩⟩, ⟨⟨@ty_c4, @ty_i4⟩, ⟨@ty_u4, @ty_a4⟩⟩⟩⟩
theorem tys1 :
    (((((type_of% @ty_w4) ∧ (type_of% @ty_b4)) ∧ ((type_of% @ty_z4) ∧ (type_of% @ty_c5))) ∧ (((type_of% @ty_i5) ∧ (type_of% @ty_u5)) ∧ ((type_of% @ty_a5) ∧ (type_of% @ty_w5)))) ∧ ((((type_of% @ty_z5) ∧ (type_of% @ty_c9)) ∧ ((type_of% @ty_i9) ∧ (type_of% @ty_u9))) ∧ (((type_of% @ty_a9) ∧ (type_of% @ty_w9)) ∧ ((type_of% @ty_z9) ∧ (type_of% @ty_c12))))) :=
  ⟨⟨⟨⟨@ty_w4, @ty_b4⟩, ⟨@ty_z4, @ty_c5⟩⟩, ⟨⟨@ty_i5, @ty_u5⟩, ⟨@ty_a5, @ty_w5⟩⟩⟩, ⟨⟨⟨@ty_z5, @ty_c9⟩, ⟨@ty_i9, @ty_u9⟩⟩, ⟨⟨@ty_a9, @ty_w9⟩, ⟨@ty_z9, @ty_c12⟩⟩⟩⟩
theorem tys2 :
    (((((type_of% @ty_i12) ∧ (type_of% @ty_u12)) ∧ ((type_of% @ty_a12) ∧ (type_of% @ty_w12))) ∧ (((type_of% @ty_z12) ∧ (type_of% @ty_c21)) ∧ ((type_of% @ty_i21) ∧ (type_of% @ty_u21)))) ∧ ((((type_of% @ty_a21) ∧ (type_of% @ty_w21)) ∧ ((type_of% @ty_z21) ∧ (type_of% @ty_c22))) ∧ (((type_of% @ty_i22) ∧ (type_of% @ty_u22)) ∧ ((type_of% @ty_a22) ∧ (type_of% @ty_w22))))) :=
  ⟨⟨⟨⟨@ty_i12, @ty_u12⟩, ⟨@ty_a12, @ty_w12⟩⟩, ⟨⟨@ty_z12, @ty_c21⟩, ⟨@ty_i21, @ty_u21⟩⟩⟩, ⟨⟨⟨@ty_a21, @ty_w21⟩, ⟨@ty_z21, @ty_c22⟩⟩, ⟨⟨@ty_i22, @ty_u22⟩, ⟨@ty_a22, @ty_w22⟩⟩⟩⟩
theorem tys3 :
    (((((type_of% @ty_z22) ∧ (type_of% @ty_s22)) ∧ ((type_of% @ty_f22_0) ∧ (type_of% @ty_f22_1))) ∧ (((type_of% @ty_c23) ∧ (type_of% @ty_i23)) ∧ ((type_of% @ty_u23) ∧ (type_of% @ty_a23)))) ∧ ((((type_of% @ty_w23) ∧ (type_of% @ty_z23)) ∧ ((type_of% @ty_s23) ∧ (type_of% @ty_f23_0))) ∧ (((type_of% @ty_f23_1) ∧ (type_of% @ty_c26)) ∧ ((type_of% @ty_i26) ∧ (type_of% @ty_u26))))) :=
  ⟨⟨⟨⟨@ty_z22, @ty_s22⟩, ⟨@ty_f22_0, @ty_f22_1⟩⟩, ⟨⟨@ty_c23, @ty_i23⟩, ⟨@ty_u23, @ty_a23⟩⟩⟩, ⟨⟨⟨@ty_w23, @ty_z23⟩, ⟨@ty_s23, @ty_f23_0⟩⟩, ⟨⟨@ty_f23_1, @ty_c26⟩, ⟨@ty_i26, @ty_u26⟩⟩⟩⟩
theorem tys4 :
    (((((type_of% @ty_a26) ∧ (type_of% @ty_w26)) ∧ ((type_of% @ty_z26) ∧ (type_of% @ty_s26))) ∧ (((type_of% @ty_f26_0) ∧ (type_of% @ty_f26_1)) ∧ ((type_of% @ty_c38) ∧ (type_of% @ty_i38)))) ∧ ((((type_of% @ty_u38) ∧ (type_of% @ty_a38)) ∧ ((type_of% @ty_w38) ∧ (type_of% @ty_z38))) ∧ (((type_of% @ty_c42) ∧ (type_of% @ty_i42)) ∧ ((type_of% @ty_u42) ∧ (type_of% @ty_a42))))) :=
  ⟨⟨⟨⟨@ty_a26, @ty_w26⟩, ⟨@ty_z26, @ty_s26⟩⟩, ⟨⟨@ty_f26_0, @ty_f26_1⟩, ⟨@ty_c38, @ty_i38⟩⟩⟩, ⟨⟨⟨@ty_u38, @ty_a38⟩, ⟨@ty_w38, @ty_z38⟩⟩, ⟨⟨@ty_c42, @ty_i42⟩, ⟨@ty_u42, @ty_a42⟩⟩⟩⟩
theorem tys5 :
    (((((type_of% @ty_w42) ∧ (type_of% @ty_z42)) ∧ ((type_of% @ty_c57) ∧ (type_of% @ty_i57))) ∧ (((type_of% @ty_u57) ∧ (type_of% @ty_a57)) ∧ ((type_of% @ty_w57) ∧ (type_of% @ty_z57)))) ∧ ((((type_of% @ty_c61) ∧ (type_of% @ty_i61)) ∧ ((type_of% @ty_u61) ∧ (type_of% @ty_a61))) ∧ (((type_of% @ty_w61) ∧ (type_of% @ty_z61)) ∧ ((type_of% @ty_c62) ∧ (type_of% @ty_i62))))) :=
  ⟨⟨⟨⟨@ty_w42, @ty_z42⟩, ⟨@ty_c57, @ty_i57⟩⟩, ⟨⟨@ty_u57, @ty_a57⟩, ⟨@ty_w57, @ty_z57⟩⟩⟩, ⟨⟨⟨@ty_c61, @ty_i61⟩, ⟨@ty_u61, @ty_a61⟩⟩, ⟨⟨@ty_w61, @ty_z61⟩, ⟨@ty_c62, @ty_i62⟩⟩⟩⟩
theorem tys6 :
    (((((type_of% @ty_u62) ∧ (type_of% @ty_a62)) ∧ ((type_of% @ty_w62) ∧ (type_of% @ty_z62))) ∧ (((type_of% @ty_c63) ∧ (type_of% @ty_i63)) ∧ ((type_of% @ty_u63) ∧ (type_of% @ty_a63)))) ∧ ((((type_of% @ty_w63) ∧ (type_of% @ty_z63)) ∧ ((type_of% @ty_f63_0) ∧ (type_of% @ty_f63_1))) ∧ (((type_of% @ty_f63_2) ∧ (type_of% @ty_c64)) ∧ ((type_of% @ty_i64) ∧ (type_of% @ty_u64))))) :=
  ⟨⟨⟨⟨@ty_u62, @ty_a62⟩, ⟨@ty_w62, @ty_z62⟩⟩, ⟨⟨@ty_c63, @ty_i63⟩, ⟨@ty_u63, @ty_a63⟩⟩⟩, ⟨⟨⟨@ty_w63, @ty_z63⟩, ⟨@ty_f63_0, @ty_f63_1⟩⟩, ⟨⟨@ty_f63_2, @ty_c64⟩, ⟨@ty_i64, @ty_u64⟩⟩⟩⟩
theorem tys7 :
    (((((type_of% @ty_a64) ∧ (type_of% @ty_w64)) ∧ ((type_of% @ty_z64) ∧ (type_of% @ty_f64_0))) ∧ (((type_of% @ty_f64_1) ∧ (type_of% @ty_f64_2)) ∧ ((type_of% @ty_c75) ∧ (type_of% @ty_i75)))) ∧ ((((type_of% @ty_u75) ∧ (type_of% @ty_a75)) ∧ ((type_of% @ty_w75) ∧ (type_of% @ty_z75))) ∧ (((type_of% @ty_f75_0) ∧ (type_of% @ty_f75_1)) ∧ ((type_of% @ty_f75_2) ∧ (type_of% @ty_f75_3))))) :=
  ⟨⟨⟨⟨@ty_a64, @ty_w64⟩, ⟨@ty_z64, @ty_f64_0⟩⟩, ⟨⟨@ty_f64_1, @ty_f64_2⟩, ⟨@ty_c75, @ty_i75⟩⟩⟩, ⟨⟨⟨@ty_u75, @ty_a75⟩, ⟨@ty_w75, @ty_z75⟩⟩, ⟨⟨@ty_f75_0, @ty_f75_1⟩, ⟨@ty_f75_2, @ty_f75_3⟩⟩⟩⟩
theorem tys8 :
    (((((type_of% @ty_f75_4) ∧ (type_of% @ty_c76)) ∧ ((type_of% @ty_i76) ∧ (type_of% @ty_u76))) ∧ (((type_of% @ty_a76) ∧ (type_of% @ty_w76)) ∧ ((type_of% @ty_z76) ∧ (type_of% @ty_f76_0)))) ∧ ((((type_of% @ty_f76_1) ∧ (type_of% @ty_f76_2)) ∧ ((type_of% @ty_f76_3) ∧ (type_of% @ty_f76_4))) ∧ (((type_of% @ty_c87) ∧ (type_of% @ty_i87)) ∧ ((type_of% @ty_u87) ∧ (type_of% @ty_a87))))) :=
  ⟨⟨⟨⟨@ty_f75_4, @ty_c76⟩, ⟨@ty_i76, @ty_u76⟩⟩, ⟨⟨@ty_a76, @ty_w76⟩, ⟨@ty_z76, @ty_f76_0⟩⟩⟩, ⟨⟨⟨@ty_f76_1, @ty_f76_2⟩, ⟨@ty_f76_3, @ty_f76_4⟩⟩, ⟨⟨@ty_c87, @ty_i87⟩, ⟨@ty_u87, @ty_a87⟩⟩⟩⟩
theorem tys9 :
    (((((type_of% @ty_w87) ∧ (type_of% @ty_z87)) ∧ ((type_of% @ty_c88) ∧ (type_of% @ty_i88))) ∧ (((type_of% @ty_u88) ∧ (type_of% @ty_a88)) ∧ ((type_of% @ty_w88) ∧ (type_of% @ty_z88)))) ∧ ((((type_of% @ty_c95) ∧ (type_of% @ty_i95)) ∧ ((type_of% @ty_u95) ∧ (type_of% @ty_a95))) ∧ (((type_of% @ty_w95) ∧ (type_of% @ty_z95)) ∧ ((type_of% @ty_c99) ∧ (type_of% @ty_i99))))) :=
  ⟨⟨⟨⟨@ty_w87, @ty_z87⟩, ⟨@ty_c88, @ty_i88⟩⟩, ⟨⟨@ty_u88, @ty_a88⟩, ⟨@ty_w88, @ty_z88⟩⟩⟩, ⟨⟨⟨@ty_c95, @ty_i95⟩, ⟨@ty_u95, @ty_a95⟩⟩, ⟨⟨@ty_w95, @ty_z95⟩, ⟨@ty_c99, @ty_i99⟩⟩⟩⟩
theorem tys10 :
    (((((type_of% @ty_u99) ∧ (type_of% @ty_a99)) ∧ ((type_of% @ty_w99) ∧ (type_of% @ty_z99))) ∧ (((type_of% @Try.underlying2) ∧ (type_of% @Try.underlying3)) ∧ ((type_of% @Try.underlying4) ∧ (type_of% @Try.underlying5)))) ∧ ((((type_of% @Try.underlying9) ∧ (type_of% @Try.underlying12)) ∧ ((type_of% @Try.underlying21) ∧ (type_of% @Try.underlying22))) ∧ (((type_of% @Try.underlying23) ∧ (type_of% @Try.underlying26)) ∧ ((type_of% @Try.underlying38) ∧ (type_of% @Try.underlying42))))) :=
  ⟨⟨⟨⟨@ty_u99, @ty_a99⟩, ⟨@ty_w99, @ty_z99⟩⟩, ⟨⟨@Try.underlying2, @Try.underlying3⟩, ⟨@Try.underlying4, @Try.underlying5⟩⟩⟩, ⟨⟨⟨@Try.underlying9, @Try.underlying12⟩, ⟨@Try.underlying21, @Try.underlying22⟩⟩, ⟨⟨@Try.underlying23, @Try.underlying26⟩, ⟨@Try.underlying38, @Try.underlying42⟩⟩⟩⟩
theorem tys11 :
    ((((type_of% @Try.underlying57) ∧ (type_of% @Try.underlying61)) ∧ ((type_of% @Try.underlying62) ∧ ((type_of% @Try.underlying63) ∧ (type_of% @Try.underlying64)))) ∧ (((type_of% @Try.underlying75) ∧ ((type_of% @Try.underlying76) ∧ (type_of% @Try.underlying87))) ∧ ((type_of% @Try.underlying88) ∧ ((type_of% @Try.underlying95) ∧ (type_of% @Try.underlying99))))) :=
  ⟨⟨⟨@Try.underlying57, @Try.underlying61⟩, ⟨@Try.underlying62, ⟨@Try.underlying63, @Try.underlying64⟩⟩⟩, ⟨⟨@Try.underlying75, ⟨@Try.underlying76, @Try.underlying87⟩⟩, ⟨@Try.underlying88, ⟨@Try.underlying95, @Try.underlying99⟩⟩⟩⟩
end Go.Proofs.Ytolfjeedgedblaa
