/-
  Facts on the types of this seat's program.
-/
import Derived.Test.YtcgnpijbdgbffaaProg
import Derived.Test.YtcgnpijbdgbffaaK16
namespace Go.Proofs.Ytcgnpijbdgbffaa
open Go K
theorem hmix : Try.prog.follows .mixedOrders = true := by kernel_rfl
theorem ty_c2 : Try.prog.cellsOf 2 = 1 := by kernel_rfl
theorem ty_i2 : (Try.prog.info? 2).isSome = true := by kernel_rfl
theorem ty_u2 : (Try.prog.underlying 2).isSome = true := by kernel_rfl
theorem ty_a2 : aggT Try.prog 2 = false := by kernel_rfl
theorem ty_w2 : (decide (Try.prog.bytesOf 2 ≤ 1024)) = true := by kernel_rfl
theorem ty_z2 : zeroOf Try.prog 2 = some (.int .i64 0) := by kernel_rfl
theorem ty_c3 : Try.prog.cellsOf 3 = 1 := by kernel_rfl
theorem ty_i3 : (Try.prog.info? 3).isSome = true := by kernel_rfl
theorem ty_u3 : (Try.prog.underlying 3).isSome = true := by kernel_rfl
theorem ty_a3 : aggT Try.prog 3 = false := by kernel_rfl
theorem ty_w3 : (decide (Try.prog.bytesOf 3 ≤ 1024)) = true := by kernel_rfl
theorem ty_z3 : zeroOf Try.prog 3 = some (.int .i64 0) := by kernel_rfl
theorem ty_c4 : Try.prog.cellsOf 4 = 1 := by kernel_rfl
theorem ty_i4 : (Try.prog.info? 4).isSome = true := by kernel_rfl
theorem ty_u4 : (Try.prog.underlying 4).isSome = true := by kernel_rfl
theorem ty_a4 : aggT Try.prog 4 = false := by kernel_rfl
theorem ty_w4 : (decide (Try.prog.bytesOf 4 ≤ 1024)) = true := by kernel_rfl
theorem ty_b4 : isBoolT Try.prog 4 = true := by kernel_rfl
theorem ty_z4 : zeroOf Try.prog 4 = some (.bool false) := by kernel_rfl
theorem ty_c5 : Try.prog.cellsOf 5 = 1 := by kernel_rfl
theorem ty_i5 : (Try.prog.info? 5).isSome = true := by kernel_rfl
theorem ty_u5 : (Try.prog.underlying 5).isSome = true := by kernel_rfl
theorem ty_a5 : aggT Try.prog 5 = false := by kernel_rfl
theorem ty_w5 : (decide (Try.prog.bytesOf 5 ≤ 1024)) = true := by kernel_rfl
theorem ty_z5 : zeroOf Try.prog 5 = some (.int .u8 0) := by kernel_rfl
theorem ty_c9 : Try.prog.cellsOf 9 = 1 := by kernel_rfl
theorem ty_i9 : (Try.prog.info? 9).isSome = true := by kernel_rfl
theorem ty_u9 : (Try.prog.underlying 9).isSome = true := by kernel_rfl
theorem ty_a9 : aggT Try.prog 9 = false := by kernel_rfl
theorem ty_w9 : (decide (Try.prog.bytesOf 9 ≤ 1024)) = true := by kernel_rfl
theorem ty_z9 : zeroOf Try.prog 9 = some (.string ⟨#[]⟩) := by kernel_rfl
theorem ty_c12 : Try.prog.cellsOf 12 = 1 := by kernel_rfl
theorem ty_i12 : (Try.prog.info? 12).isSome = true := by kernel_rfl
theorem ty_u12 : (Try.prog.underlying 12).isSome = true := by kernel_rfl
theorem ty_a12 : aggT Try.prog 12 = false := by kernel_rfl
theorem ty_w12 : (decide (Try.prog.bytesOf 12 ≤ 1024)) = true := by kernel_rfl
theorem ty_z12 : zeroOf Try.prog 12 = some (.int .u64 0) := by kernel_rfl
theorem ty_c21 : Try.prog.cellsOf 21 = 1 := by kernel_rfl
theorem ty_i21 : (Try.prog.info? 21).isSome = true := by kernel_rfl
theorem ty_u21 : (Try.prog.underlying 21).isSome = true := by kernel_rfl
theorem ty_a21 : aggT Try.prog 21 = false := by kernel_rfl
theorem ty_w21 : (decide (Try.prog.bytesOf 21 ≤ 1024)) = true := by kernel_rfl
theorem ty_z21 : zeroOf Try.prog 21 = some (.int .i32 0) := by kernel_rfl
theorem ty_c22 : Try.prog.cellsOf 22 = 1 := by kernel_rfl
theorem ty_i22 : (Try.prog.info? 22).isSome = true := by kernel_rfl
theorem ty_u22 : (Try.prog.underlying 22).isSome = true := by kernel_rfl
theorem ty_a22 : aggT Try.prog 22 = false := by kernel_rfl
theorem ty_w22 : (decide (Try.prog.bytesOf 22 ≤ 1024)) = true := by kernel_rfl
theorem ty_z22 : zeroOf Try.prog 22 = some (.slice none 0 0) := by kernel_rfl
theorem ty_c23 : Try.prog.cellsOf 23 = 1 := by kernel_rfl
theorem ty_i23 : (Try.prog.info? 23).isSome = true := by kernel_rfl
theorem ty_u23 : (Try.prog.underlying 23).isSome = true := by kernel_rfl
theorem ty_a23 : aggT Try.prog 23 = true := by kernel_rfl
theorem ty_w23 : (decide (Try.prog.bytesOf 23 ≤ 1024)) = true := by kernel_rfl
theorem ty_z23 : zeroOf Try.prog 23 = some (.agg #[.slice none 0 0]) := by kernel_rfl
theorem ty_f23_0 : fieldOf Try.prog 23 0 = some (0, 22) := by kernel_rfl
theorem ty_c24 : Try.prog.cellsOf 24 = 1 := by kernel_rfl
theorem ty_i24 : (Try.prog.info? 24).isSome = true := by kernel_rfl
theorem ty_u24 : (Try.prog.underlying 24).isSome = true := by kernel_rfl
theorem ty_a24 : aggT Try.prog 24 = true := by kernel_rfl
theorem ty_w24 : (decide (Try.prog.bytesOf 24 ≤ 1024)) = true := by kernel_rfl
theorem ty_z24 : zeroOf Try.prog 24 = some (.agg #[.slice none 0 0]) := by kernel_rfl
theorem ty_f24_0 : fieldOf Try.prog 24 0 = some (0, 22) := by kernel_rfl
theorem ty_c27 : Try.prog.cellsOf 27 = 1 := by kernel_rfl
theorem ty_i27 : (Try.prog.info? 27).isSome = true := by kernel_rfl
theorem ty_u27 : (Try.prog.underlying 27).isSome = true := by kernel_rfl
theorem ty_a27 : aggT Try.prog 27 = false := by kernel_rfl
theorem ty_w27 : (decide (Try.prog.bytesOf 27 ≤ 1024)) = true := by kernel_rfl
theorem ty_z27 : zeroOf Try.prog 27 = some (.slice none 0 0) := by kernel_rfl
theorem ty_c28 : Try.prog.cellsOf 28 = 1 := by kernel_rfl
theorem ty_i28 : (Try.prog.info? 28).isSome = true := by kernel_rfl
theorem ty_u28 : (Try.prog.underlying 28).isSome = true := by kernel_rfl
theorem ty_a28 : aggT Try.prog 28 = true := by kernel_rfl
theorem ty_w28 : (decide (Try.prog.bytesOf 28 ≤ 1024)) = true := by kernel_rfl
theorem ty_z28 : zeroOf Try.prog 28 = some (.agg #[.slice none 0 0]) := by kernel_rfl
theorem ty_f28_0 : fieldOf Try.prog 28 0 = some (0, 27) := by kernel_rfl
theorem ty_c29 : Try.prog.cellsOf 29 = 1 := by kernel_rfl
theorem ty_i29 : (Try.prog.info? 29).isSome = true := by kernel_rfl
theorem ty_u29 : (Try.prog.underlying 29).isSome = true := by kernel_rfl
theorem ty_a29 : aggT Try.prog 29 = true := by kernel_rfl
theorem ty_w29 : (decide (Try.prog.bytesOf 29 ≤ 1024)) = true := by kernel_rfl
theorem ty_z29 : zeroOf Try.prog 29 = some (.agg #[.slice none 0 0]) := by kernel_rfl
theorem ty_f29_0 : fieldOf Try.prog 29 0 = some (0, 27) := by kernel_rfl
theorem ty_c46 : Try.prog.cellsOf 46 = 1 := by kernel_rfl
theorem ty_i46 : (Try.prog.info? 46).isSome = true := by kernel_rfl
theorem ty_u46 : (Try.prog.underlying 46).isSome = true := by kernel_rfl
theorem ty_a46 : aggT Try.prog 46 = false := by kernel_rfl
theorem ty_w46 : (decide (Try.prog.bytesOf 46 ≤ 1024)) = true := by kernel_rfl
theorem ty_z46 : zeroOf Try.prog 46 = some (.pointer none) := by kernel_rfl
theorem ty_c47 : Try.prog.cellsOf 47 = 1 := by kernel_rfl
theorem ty_i47 : (Try.prog.info? 47).isSome = true := by kernel_rfl
theorem ty_u47 : (Try.prog.underlying 47).isSome = true := by kernel_rfl
theorem ty_a47 : aggT Try.prog 47 = false := by kernel_rfl
theorem ty_w47 : (decide (Try.prog.bytesOf 47 ≤ 1024)) = true := by kernel_rfl
theorem ty_z47 : zeroOf Try.prog 47 = some (.pointer none) := by kernel_rfl
theorem ty_c52 : Try.prog.cellsOf 52 = 2 := by kernel_rfl
theorem ty_i52 : (Try.prog.info? 52).isSome = true := by kernel_rfl
theorem ty_u52 : (Try.prog.underlying 52).isSome = true := by kernel_rfl
theorem ty_a52 : aggT Try.prog 52 = true := by kernel_rfl
theorem ty_w52 : (decide (Try.prog.bytesOf 52 ≤ 1024)) = true := by kernel_rfl
theorem ty_z52 : zeroOf Try.prog 52 = some (.agg #[.slice none 0 0, .int .i64 0]) := by kernel_rfl
theorem ty_f52_0 : fieldOf Try.prog 52 0 = some (0, 29) := by kernel_rfl
theorem ty_f52_1 : fieldOf Try.prog 52 1 = some (1, 3) := by kernel_rfl
theorem ty_c53 : Try.prog.cellsOf 53 = 2 := by kernel_rfl
theorem ty_i53 : (Try.prog.info? 53).isSome = true := by kernel_rfl
theorem ty_u53 : (Try.prog.underlying 53).isSome = true := by kernel_rfl
theorem ty_a53 : aggT Try.prog 53 = true := by kernel_rfl
theorem ty_w53 : (decide (Try.prog.bytesOf 53 ≤ 1024)) = true := by kernel_rfl
theorem ty_z53 : zeroOf Try.prog 53 = some (.agg #[.slice none 0 0, .int .i64 0]) := by kernel_rfl
theorem ty_f53_0 : fieldOf Try.prog 53 0 = some (0, 29) := by kernel_rfl
theorem ty_f53_1 : fieldOf Try.prog 53 1 = some (1, 3) := by kernel_rfl
theorem ty_c58 : Try.prog.cellsOf 58 = 2 := by kernel_rfl
theorem ty_i58 : (Try.prog.info? 58).isSome = true := by kernel_rfl
theorem ty_u58 : (Try.prog.underlying 58).isSome = true := by kernel_rfl
theorem ty_a58 : aggT Try.prog 58 = true := by kernel_rfl
theorem ty_w58 : (decide (Try.prog.bytesOf 58 ≤ 1024)) = true := by kernel_rfl
theorem ty_z58 : zeroOf Try.prog 58 = some (.agg #[.slice none 0 0, .int .i64 0]) := by kernel_rfl
theorem ty_f58_0 : fieldOf Try.prog 58 0 = some (0, 24) := by kernel_rfl
theorem ty_f58_1 : fieldOf Try.prog 58 1 = some (1, 3) := by kernel_rfl
theorem ty_c59 : Try.prog.cellsOf 59 = 2 := by kernel_rfl
theorem ty_i59 : (Try.prog.info? 59).isSome = true := by kernel_rfl
theorem ty_u59 : (Try.prog.underlying 59).isSome = true := by kernel_rfl
theorem ty_a59 : aggT Try.prog 59 = true := by kernel_rfl
theorem ty_w59 : (decide (Try.prog.bytesOf 59 ≤ 1024)) = true := by kernel_rfl
theorem ty_z59 : zeroOf Try.prog 59 = some (.agg #[.slice none 0 0, .int .i64 0]) := by kernel_rfl
theorem ty_f59_0 : fieldOf Try.prog 59 0 = some (0, 24) := by kernel_rfl
theorem ty_f59_1 : fieldOf Try.prog 59 1 = some (1, 3) := by kernel_rfl
theorem ty_c63 : Try.prog.cellsOf 63 = 1 := by kernel_rfl
theorem ty_i63 : (Try.prog.info? 63).isSome = true := by kernel_rfl
theorem ty_u63 : (Try.prog.underlying 63).isSome = true := by kernel_rfl
theorem ty_a63 : aggT Try.prog 63 = false := by kernel_rfl
theorem ty_w63 : (decide (Try.prog.bytesOf 63 ≤ 1024)) = true := by kernel_rfl
theorem ty_z63 : zeroOf Try.prog 63 = some (.pointer none) := by kernel_rfl
theorem ty_c83 : Try.prog.cellsOf 83 = 1 := by kernel_rfl
theorem ty_i83 : (Try.prog.info? 83).isSome = true := by kernel_rfl
theorem ty_u83 : (Try.prog.underlying 83).isSome = true := by kernel_rfl
theorem ty_a83 : aggT Try.prog 83 = false := by kernel_rfl
theorem ty_w83 : (decide (Try.prog.bytesOf 83 ≤ 1024)) = true := by kernel_rfl
theorem ty_z83 : zeroOf Try.prog 83 = some (.int .u32 0) := by kernel_rfl
theorem ty_c87 : Try.prog.cellsOf 87 = 1 := by kernel_rfl
theorem ty_i87 : (Try.prog.info? 87).isSome = true := by kernel_rfl
theorem ty_u87 : (Try.prog.underlying 87).isSome = true := by kernel_rfl
theorem ty_a87 : aggT Try.prog 87 = false := by kernel_rfl
theorem ty_w87 : (decide (Try.prog.bytesOf 87 ≤ 1024)) = true := by kernel_rfl
theorem ty_z87 : zeroOf Try.prog 87 = some (.pointer none) := by kernel_rfl
theorem ok_f3 : okFn Try.prog 3 = true := by kernel_rfl
theorem ok_f4 : okFn Try.prog 4 = true := by kernel_rfl
theorem ok_f5 : okFn Try.prog 5 = true := by kernel_rfl
theorem ok_f6 : okFn Try.prog 6 = true := by kernel_rfl
theorem ok_f7 : okFn Try.prog 7 = true := by kernel_rfl
theorem ok_f8 : okFn Try.prog 8 = true := by kernel_rfl
theorem ok_f9 : okFn Try.prog 9 = true := by kernel_rfl
theorem ok_f10 : okFn Try.prog 10 = true := by kernel_rfl
theorem ok_f11 : okFn Try.prog 11 = true := by kernel_rfl
theorem ok_f12 : okFn Try.prog 12 = true := by kernel_rfl
theorem ok_f13 : okFn Try.prog 13 = true := by kernel_rfl
theorem ok_f14 : okFn Try.prog 14 = true := by kernel_rfl
theorem ok_f15 : okFn Try.prog 15 = true := by kernel_rfl
theorem ok_f16 : okFn Try.prog 16 = true := by kernel_rfl
theorem ok_f17 : okFn Try.prog 17 = true := by kernel_rfl
theorem ok_f18 : okFn Try.prog 18 = true := by kernel_rfl
theorem ok_f19 : okFn Try.prog 19 = true := by kernel_rfl
theorem ok_f20 : okFn Try.prog 20 = true := by kernel_rfl
theorem ok_f21 : okFn Try.prog 21 = true := by kernel_rfl
theorem ok_f22 : okFn Try.prog 22 = true := by kernel_rfl
theorem ok_f23 : okFn Try.prog 23 = true := by kernel_rfl
theorem ok_f24 : okFn Try.prog 24 = true := by kernel_rfl
theorem ok_f25 : okFn Try.prog 25 = true := by kernel_rfl
theorem ok_f26 : okFn Try.prog 26 = true := by kernel_rfl
theorem ok_f27 : okFn Try.prog 27 = true := by kernel_rfl
theorem ok_f28 : okFn Try.prog 28 = true := by kernel_rfl
theorem ok_f29 : okFn Try.prog 29 = true := by kernel_rfl
theorem ok_f30 : okFn Try.prog 30 = true := by kernel_rfl
theorem ok_f31 : okFn Try.prog 31 = true := by kernel_rfl
theorem ok_f32 : okFn Try.prog 32 = true := by kernel_rfl
theorem ok_f33 : okFn Try.prog 33 = true := by kernel_rfl
theorem ok_f34 : okFn Try.prog 34 = true := by kernel_rfl
theorem ok_f35 : okFn Try.prog 35 = true := by kernel_rfl
theorem ok_f36 : okFn Try.prog 36 = true := by kernel_rfl
theorem ok_f37 : okFn Try.prog 37 = true := by kernel_rfl
theorem ok_f38 : okFn Try.prog 38 = true := by kernel_rfl
theorem ok_f39 : okFn Try.prog 39 = true := by kernel_rfl
theorem ok_f40 : okFn Try.prog 40 = true := by kernel_rfl
theorem ok_f41 : okFn Try.prog 41 = true := by kernel_rfl
theorem ok_f42 : okFn Try.prog 42 = true := by kernel_rfl
theorem ok_f43 : okFn Try.prog 43 = true := by kernel_rfl
theorem ok_f44 : okFn Try.prog 44 = true := by kernel_rfl
theorem ok_f45 : okFn Try.prog 45 = true := by kernel_rfl
theorem ok_f46 : okFn Try.prog 46 = true := by kernel_rfl
theorem ok_f47 : okFn Try.prog 47 = true := by kernel_rfl
theorem ok_f48 : okFn Try.prog 48 = true := by kernel_rfl
theorem ok_f49 : okFn Try.prog 49 = true := by kernel_rfl
theorem ok_f50 : okFn Try.prog 50 = true := by kernel_rfl
theorem ok_f51 : okFn Try.prog 51 = true := by kernel_rfl
theorem ok_f52 : okFn Try.prog 52 = true := by kernel_rfl
theorem ok_f53 : okFn Try.prog 53 = true := by kernel_rfl
theorem ok_f54 : okFn Try.prog 54 = true := by kernel_rfl
theorem ok_f55 : okFn Try.prog 55 = true := by kernel_rfl
theorem ok_f56 : okFn Try.prog 56 = true := by kernel_rfl
theorem ok_f57 : okFn Try.prog 57 = true := by kernel_rfl
theorem ok_f58 : okFn Try.prog 58 = true := by kernel_rfl
theorem ok_f59 : okFn Try.prog 59 = true := by kernel_rfl
theorem ok_f60 : okFn Try.prog 60 = true := by kernel_rfl
theorem ok_f61 : okFn Try.prog 61 = true := by kernel_rfl
theorem ok_f62 : okFn Try.prog 62 = true := by kernel_rfl
theorem ok_f63 : okFn Try.prog 63 = true := by kernel_rfl
theorem ok_f64 : okFn Try.prog 64 = true := by kernel_rfl
theorem ok_f65 : okFn Try.prog 65 = true := by kernel_rfl
theorem ok_f66 : okFn Try.prog 66 = true := by kernel_rfl
theorem ok_f67 : okFn Try.prog 67 = true := by kernel_rfl
theorem ok_f68 : okFn Try.prog 68 = true := by kernel_rfl
theorem ok_f69 : okFn Try.prog 69 = true := by kernel_rfl
theorem ok_f70 : okFn Try.prog 70 = true := by kernel_rfl
theorem ok_f71 : okFn Try.prog 71 = true := by kernel_rfl
theorem ok_f72 : okFn Try.prog 72 = true := by kernel_rfl
theorem ok_f73 : okFn Try.prog 73 = true := by kernel_rfl
theorem ok_f74 : okFn Try.prog 74 = true := by kernel_rfl
theorem ok_f75 : okFn Try.prog 75 = true := by kernel_rfl
theorem ok_f76 : okFn Try.prog 76 = true := by kernel_rfl
theorem ok_f77 : okFn Try.prog 77 = true := by kernel_rfl
theorem ok_f78 : okFn Try.prog 78 = true := by kernel_rfl
theorem ok_f79 : okFn Try.prog 79 = true := by kernel_rfl
theorem ok_f80 : okFn Try.prog 80 = true := by kernel_rfl
theorem ok_f81 : okFn Try.prog 81 = true := by kernel_rfl
theorem ok_f82 : okFn Try.prog 82 = true := by kernel_rfl
theorem ok_f83 : okFn Try.prog 83 = true := by kernel_rfl
theorem ok_f84 : okFn Try.prog 84 = true := by kernel_rfl
theorem ok_f85 : okFn Try.prog 85 = true := by kernel_rfl
theorem ok_f86 : okFn Try.prog 86 = true := by kernel_rfl
theorem ok_f87 : okFn Try.prog 87 = true := by kernel_rfl
theorem ok_f88 : okFn Try.prog 88 = true := by kernel_rfl
theorem ok_f89 : okFn Try.prog 89 = true := by kernel_rfl
theorem ok_f90 : okFn Try.prog 90 = true := by kernel_rfl
theorem ok_f91 : okFn Try.prog 91 = true := by kernel_rfl
theorem tys0 :
    (((((type_of% @ty_c2) ∧ (type_of% @ty_i2)) ∧ ((type_of% @ty_u2) ∧ (type_of% @ty_a2))) ∧ (((type_of% @ty_w2) ∧ (type_of% @ty_z2)) ∧ ((type_of% @ty_c3) ∧ (type_of% @ty_i3)))) ∧ ((((type_of% @ty_u3) ∧ (type_of% @ty_a3)) ∧ ((type_of% @ty_w3) ∧ (type_of% @ty_z3))) ∧ (((type_of% @ty_c4) ∧ (type_of% @ty_i4)) ∧ ((type_of% @ty_u4) ∧ (type_of% @ty_a4))))) :=
  ⟨⟨⟨⟨@ty_c2, @ty_i2⟩, ⟨@ty_u2, @ty_a2⟩⟩, ⟨⟨@ty_w2, @ty_z2⟩, ⟨@ty_c3, @ty_i3⟩⟩⟩, ⟨⟨⟨@ty_u3, @ty_a3⟩, ⟨@ty_w3, @ty_z3⟩⟩, ⟨⟨@ty_c4, @ty_i4⟩, ⟨@ty_u4, @ty_a4⟩⟩⟩⟩
theorem tys1 :
    (((((type_of% @ty_w4) ∧ (type_of% @ty_b4)) ∧ ((type_of% @ty_z4) ∧ (type_of% @ty_c5))) ∧ (((type_of% @ty_i5) ∧ (type_of% @ty_u5)) ∧ ((type_of% @ty_a5) ∧ (type_of% @ty_w5)))) ∧ ((((type_of% @ty_z5) ∧ (type_of% @ty_c9)) ∧ ((type_of% @ty_i9) ∧ (type_of% @ty_u9))) ∧ (((type_of% @ty_a9) ∧ (type_of% @ty_w9)) ∧ ((type_of% @ty_z9) ∧ (type_of% @ty_c12))))) :=
  ⟨⟨⟨⟨@ty_w4, @ty_b4⟩, ⟨@ty_z4, @ty_c5⟩⟩, ⟨⟨@ty_i5, @ty_u5⟩, ⟨@ty_a5, @ty_w5⟩⟩⟩, ⟨⟨⟨@ty_z5, @ty_c9⟩, ⟨@ty_i9, @ty_u9⟩⟩, ⟨⟨@ty_a9, @ty_w9⟩, ⟨@ty_z9, @ty_c12⟩⟩⟩⟩
theorem tys2 :
    (((((type_of% @ty_i12) ∧ (type_of% @ty_u12)) ∧ ((type_of% @ty_a12) ∧ (type_of% @ty_w12))) ∧ (((type_of% @ty_z12) ∧ (type_of% @ty_c21)) ∧ ((type_of% @ty_i21) ∧ (type_of% @ty_u21)))) ∧ ((((type_of% @ty_a21) ∧ (type_of% @ty_w21)) ∧ ((type_of% @ty_z21) ∧ (type_of% @ty_c22))) ∧ (((type_of% @ty_i22) ∧ (type_of% @ty_u22)) ∧ ((type_of% @ty_a22) ∧ (type_of% @ty_w22))))) :=
  ⟨⟨⟨⟨@ty_i12, @ty_u12⟩, ⟨@ty_a12, @ty_w12⟩⟩, ⟨⟨@ty_z12, @ty_c21⟩, ⟨@ty_i21, @ty_u21⟩⟩⟩, ⟨⟨⟨@ty_a21, @ty_w21⟩, ⟨@ty_z21, @ty_c22⟩⟩, ⟨⟨@ty_i22, @ty_u22⟩, ⟨@ty_a22, @ty_w22⟩⟩⟩⟩
theorem tys3 :
    (((((type_of% @ty_z22) ∧ (type_of% @ty_c23)) ∧ ((type_of% @ty_i23) ∧ (type_of% @ty_u23))) ∧ (((type_of% @ty_a23) ∧ (type_of% @ty_w23)) ∧ ((type_of% @ty_z23) ∧ (type_of% @ty_f23_0)))) ∧ ((((type_of% @ty_c24) ∧ (type_of% @ty_i24)) ∧ ((type_of% @ty_u24) ∧ (type_of% @ty_a24))) ∧ (((type_of% @ty_w24) ∧ (type_of% @ty_z24)) ∧ ((type_of% @ty_f24_0) ∧ (type_of% @ty_c27))))) :=
  ⟨⟨⟨⟨@ty_z22, @ty_c23⟩, ⟨@ty_i23, @ty_u23⟩⟩, ⟨⟨@ty_a23, @ty_w23⟩, ⟨@ty_z23, @ty_f23_0⟩⟩⟩, ⟨⟨⟨@ty_c24, @ty_i24⟩, ⟨@ty_u24, @ty_a24⟩⟩, ⟨⟨@ty_w24, @ty_z24⟩, ⟨@ty_f24_0, @ty_c27⟩⟩⟩⟩
theorem tys4 :
    (((((type_of% @ty_i27) ∧ (type_of% @ty_u27)) ∧ ((type_of% @ty_a27) ∧ (type_of% @ty_w27))) ∧ (((type_of% @ty_z27) ∧ (type_of% @ty_c28)) ∧ ((type_of% @ty_i28) ∧ (type_of% @ty_u28)))) ∧ ((((type_of% @ty_a28) ∧ (type_of% @ty_w28)) ∧ ((type_of% @ty_z28) ∧ (type_of% @ty_f28_0))) ∧ (((type_of% @ty_c29) ∧ (type_of% @ty_i29)) ∧ ((type_of% @ty_u29) ∧ (type_of% @ty_a29))))) :=
  ⟨⟨⟨⟨@ty_i27, @ty_u27⟩, ⟨@ty_a27, @ty_w27⟩⟩, ⟨⟨@ty_z27, @ty_c28⟩, ⟨@ty_i28, @ty_u28⟩⟩⟩, ⟨⟨⟨@ty_a28, @ty_w28⟩, ⟨@ty_z28, @ty_f28_0⟩⟩, ⟨⟨@ty_c29, @ty_i29⟩, ⟨@ty_u29, @ty_a29⟩⟩⟩⟩
theorem tys5 :
    (((((type_of% @ty_w29) ∧ (type_of% @ty_z29)) ∧ ((type_of% @ty_f29_0) ∧ (type_of% @ty_c46))) ∧ (((type_of% @ty_i46) ∧ (type_of% @ty_u46)) ∧ ((type_of% @ty_a46) ∧ (type_of% @ty_w46)))) ∧ ((((type_of% @ty_z46) ∧ (type_of% @ty_c47)) ∧ ((type_of% @ty_i47) ∧ (type_of% @ty_u47))) ∧ (((type_of% @ty_a47) ∧ (type_of% @ty_w47)) ∧ ((type_of% @ty_z47) ∧ (type_of% @ty_c52))))) :=
  ⟨⟨⟨⟨@ty_w29, @ty_z29⟩, ⟨@ty_f29_0, @ty_c46⟩⟩, ⟨⟨@ty_i46, @ty_u46⟩, ⟨@ty_a46, @ty_w46⟩⟩⟩, ⟨⟨⟨@ty_z46, @ty_c47⟩, ⟨@ty_i47, @ty_u47⟩⟩, ⟨⟨@ty_a47, @ty_w47⟩, ⟨@ty_z47, @ty_c52⟩⟩⟩⟩
theorem tys6 :
    (((((type_of% @ty_i52) ∧ (type_of% @ty_u52)) ∧ ((type_of% @ty_a52) ∧ (type_of% @ty_w52))) ∧ (((type_of% @ty_z52) ∧ (type_of% @ty_f52_0)) ∧ ((type_of% @ty_f52_1) ∧ (type_of% @ty_c53)))) ∧ ((((type_of% @ty_i53) ∧ (type_of% @ty_u53)) ∧ ((type_of% @ty_a53) ∧ (type_of% @ty_w53))) ∧ (((type_of% @ty_z53) ∧ (type_of% @ty_f53_0)) ∧ ((type_of% @ty_f53_1) ∧ (type_of% @ty_c58))))) :=
  ⟨⟨⟨⟨@ty_i52, @ty_u52⟩, ⟨@ty_a52, @ty_w52⟩⟩, ⟨⟨@ty_z52, @ty_f52_0⟩, ⟨@ty_f52_1, @ty_c53⟩⟩⟩, ⟨⟨⟨@ty_i53, @ty_u53⟩, ⟨@ty_a53, @ty_w53⟩⟩, ⟨⟨@ty_z53, @ty_f53_0⟩, ⟨@ty_f53_1, @ty_c58⟩⟩⟩⟩
theorem tys7 :
    (((((type_of% @ty_i58) ∧ (type_of% @ty_u58)) ∧ ((type_of% @ty_a58) ∧ (type_of% @ty_w58))) ∧ (((type_of% @ty_z58) ∧ (type_of% @ty_f58_0)) ∧ ((type_of% @ty_f58_1) ∧ (type_of% @ty_c59)))) ∧ ((((type_of% @ty_i59) ∧ (type_of% @ty_u59)) ∧ ((type_of% @ty_a59) ∧ (type_of% @ty_w59))) ∧ (((type_of% @ty_z59) ∧ (type_of% @ty_f59_0)) ∧ ((type_of% @ty_f59_1) ∧ (type_of% @ty_c63))))) :=
  ⟨⟨⟨⟨@ty_i58, @ty_u58⟩, ⟨@ty_a58, @ty_w58⟩⟩, ⟨⟨@ty_z58, @ty_f58_0⟩, ⟨@ty_f58_1, @ty_c59⟩⟩⟩, ⟨⟨⟨@ty_i59, @ty_u59⟩, ⟨@ty_a59, @ty_w59⟩⟩, ⟨⟨@ty_z59, @ty_f59_0⟩, ⟨@ty_f59_1, @ty_c63⟩⟩⟩⟩
theorem tys8 :
    (((((type_of% @ty_i63) ∧ (type_of% @ty_u63)) ∧ ((type_of% @ty_a63) ∧ (type_of% @ty_w63))) ∧ (((type_of% @ty_z63) ∧ (type_of% @ty_c83)) ∧ ((type_of% @ty_i83) ∧ (type_of% @ty_u83)))) ∧ ((((type_of% @ty_a83) ∧ (type_of% @ty_w83)) ∧ ((type_of% @ty_z83) ∧ (type_of% @ty_c87))) ∧ (((type_of% @ty_i87) ∧ (type_of% @ty_u87)) ∧ ((type_of% @ty_a87) ∧ (type_of% @ty_w87))))) :=
  ⟨⟨⟨⟨@ty_i63, @ty_u63⟩, ⟨@ty_a63, @ty_w63⟩⟩, ⟨⟨@ty_z63, @ty_c83⟩, ⟨@ty_i83, @ty_u83⟩⟩⟩, ⟨⟨⟨@ty_a83, @ty_w83⟩, ⟨@ty_z83, @ty_c87⟩⟩, ⟨⟨@ty_i87, @ty_u87⟩, ⟨@ty_a87, @ty_w87⟩⟩⟩⟩
theorem tys9 :
    (((((type_of% @ty_z87) ∧ (type_of% @Try.underlying2)) ∧ ((type_of% @Try.underlying3) ∧ (type_of% @Try.underlying4))) ∧ (((type_of% @Try.underlying5) ∧ (type_of% @Try.underlying9)) ∧ ((type_of% @Try.underlying12) ∧ (type_of% @Try.underlying21)))) ∧ ((((type_of% @Try.underlying22) ∧ (type_of% @Try.underlying23)) ∧ ((type_of% @Try.underlying24) ∧ (type_of% @Try.underlying27))) ∧ (((type_of% @Try.underlying28) ∧ (type_of% @Try.underlying29)) ∧ ((type_of% @Try.underlying46) ∧ (type_of% @Try.underlying47))))) :=
  ⟨⟨⟨⟨@ty_z87, @Try.underlying2⟩, ⟨@Try.underlying3, @Try.underlying4⟩⟩, ⟨⟨@Try.underlying5, @Try.underlying9⟩, ⟨@Try.underlying12, @Try.underlying21⟩⟩⟩, ⟨⟨⟨@Try.underlying22, @Try.underlying23⟩, ⟨@Try.underlying24, @Try.underlying27⟩⟩, ⟨⟨@Try.underlying28, @Try.underlying29⟩, ⟨@Try.underlying46, @Try.underlying47⟩⟩⟩⟩
theorem tys10 :
    (((type_of% @Try.underlying52) ∧ ((type_of% @Try.underlying53) ∧ (type_of% @Try.underlying58))) ∧ (((type_of% @Try.underlying59) ∧ (type_of% @Try.underlying63)) ∧ ((type_of% @Try.underlying83) ∧ (type_of% @Try.underlying87)))) :=
  ⟨⟨@Try.underlying52, ⟨@Try.underlying53, @Try.underlying58⟩⟩, ⟨⟨@Try.underlying59, @Try.underlying63⟩, ⟨@Try.underlying83, @Try.underlying87⟩⟩⟩
end Go.Proofs.Ytcgnpijbdgbffaa
