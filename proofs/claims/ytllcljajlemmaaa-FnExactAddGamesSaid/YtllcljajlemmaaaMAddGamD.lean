/-
  Texts joined in one: SLG, LB2, LB3, GS1, GS2, GS3, GS4, GS5, PO2, NW1, NW2.
-/
import Derived.Shelf.Small.Bits
import Derived.Shelf.Small.Wraps
import Derived.Shelf.Strconv.Itoa0
import Derived.Shelf.Sort.Plain
import Derived.Shelf.Slices.Turned
import Derived.Ground.Names2Prog
import Derived.Shelf.Slices.Clone
import Derived.Shelf.Slices.CompactI
import Derived.Shelf.Slices.SearchI
import Derived.Shelf.Slices.Delete
import Derived.Shelf.Slices.Cells
import Derived.Shelf.Slices.In.SortNone
import Derived.Shelf.Slices.Empties
import Derived.Ground.SlgnProg
import Derived.Shelf.SlicesE.Delete
import Derived.Shelf.SlicesE.Clone
import Derived.Test.YtllcljajlemmaaaProg
import Derived.Test.YtllcljajlemmaaaMAddGamC
/-
  DERIVED: THE SHELF's CONTRACTS AT THIS DUMP, IN PLAIN WORDS (tools/lay-plain.mjs out of 'TryShelf.lean', which tools/lay-shelf.mjs wrote): THE SAME DECLARATIONS UNDER THE SAME YtllcljajlemmaaaS: 'import', 'namespace', 'open', 'def', 'theorem' AND NOTHING ELSE: no command of the shelf's: FOR A HAND-IN. Each laying: the table of numbers ('.._ren') and one theorem, a field a fact of the dump's own or the kernel's comparison; each contract: ONE APPLICATION.
-/
namespace Go.Proofs
open Go.Shelf
def Try.lays128_ren : Go.Shelf.Ren := ⟨fun | 128 => 174 | n => n, fun | 51 => 182 | 3 => 3 | 4 => 4 | 46 => 158 | 5 => 5 | 9 => 9 | n => n, fun | n => n⟩
theorem Try.lays128 : Go.Proofs.Lays.n128 Try.prog Try.lays128_ren := {
  mixed := by kernel_rfl
  f128 := Try.func174.trans (congrArg some (by kernel_rfl))
  t3 := Try.underlying3
  a3 := Try.isAgg3
  z3 := Try.sizeOf3
  v3 := Try.zeroValue3
  t4 := Try.underlying4
  a4 := Try.isAgg4
  z4 := Try.sizeOf4
  v4 := Try.zeroValue4
  t5 := Try.underlying5
  a5 := Try.isAgg5
  z5 := Try.sizeOf5
  v5 := Try.zeroValue5
  t9 := Try.underlying9
  a9 := Try.isAgg9
  z9 := Try.sizeOf9
  v9 := Try.zeroValue9
  t46 := Try.underlying158
  a46 := Try.isAgg158
  z46 := Try.sizeOf158
  v46 := Try.zeroValue158
  t51 := Try.underlying182
  a51 := Try.isAgg182
  z51 := Try.sizeOf182
  v51 := Try.zeroValue182 }
/-- bits.Len32: "Len32 returns the minimum number of bits required to represent x; the result is 0 for x == 0.": IT RETURNS 'Lib.bitLen x'; the world is as it was. ('h0', 'h1': x is a uint32.) (LAID: no walk: one application.) -/
theorem Try.bits_Len32 (x : Int) (w : World) (h0 : 0 ≤ x) (h1 : x ≤ 4294967295) :
    Calls Try.prog 174 #[.int .u32 x] w fun e w' => e = .returned (.int .i64 (Lib.bitLen x.toNat)) ∧ w' = w := Any.bits_Len32 Try.lays128 x w h0 h1
def Try.lays125_ren : Go.Shelf.Ren := ⟨fun | 125 => 139 | 128 => 174 | 129 => 175 | n => n, fun | 46 => 158 | 3 => 3 | 51 => 182 | 53 => 101 | 4 => 4 | 5 => 5 | 9 => 9 | n => n, fun | n => n⟩
theorem Try.lays125 : Go.Proofs.Lays.n125 Try.prog Try.lays125_ren := {
  mixed := by kernel_rfl
  f125 := Try.func139.trans (congrArg some (by kernel_rfl))
  f128 := Try.func174.trans (congrArg some (by kernel_rfl))
  f129 := Try.func175.trans (congrArg some (by kernel_rfl))
  t3 := Try.underlying3
  a3 := Try.isAgg3
  z3 := Try.sizeOf3
  v3 := Try.zeroValue3
  t4 := Try.underlying4
  a4 := Try.isAgg4
  z4 := Try.sizeOf4
  v4 := Try.zeroValue4
  t5 := Try.underlying5
  a5 := Try.isAgg5
  z5 := Try.sizeOf5
  v5 := Try.zeroValue5
  t9 := Try.underlying9
  a9 := Try.isAgg9
  z9 := Try.sizeOf9
  v9 := Try.zeroValue9
  t46 := Try.underlying158
  a46 := Try.isAgg158
  z46 := Try.sizeOf158
  v46 := Try.zeroValue158
  t51 := Try.underlying182
  a51 := Try.isAgg182
  z51 := Try.sizeOf182
  v51 := Try.zeroValue182
  t53 := Try.underlying101
  a53 := Try.isAgg101
  z53 := Try.sizeOf101
  v53 := Try.zeroValue101 }
/-- bits.Len: "Len returns the minimum number of bits required to represent x; the result is 0 for x == 0.": IT RETURNS 'Lib.bitLen x'; the world is as it was. (A uint has 64 bits in the model.) ITS CALLEE bits.Len64 IS MET BY ITS OWN CONTRACT OFF THE SHELF (lay that first). (LAID: no walk: one application.) -/
theorem Try.bits_Len (x : Int) (w : World) (h0 : 0 ≤ x) (h1 : x ≤ 18446744073709551615) :
    Calls Try.prog 139 #[.int .u64 x] w fun e w' => e = .returned (.int .i64 (Lib.bitLen x.toNat)) ∧ w' = w := Any.bits_Len Try.lays125 x w h0 h1
def Try.lays215_ren : Go.Shelf.Ren := ⟨fun | 215 => 183 | n => n, fun | 3 => 3 | 4 => 4 | n => n, fun | n => n⟩
theorem Try.lays215 : Go.Proofs.Lays.n215 Try.prog Try.lays215_ren := {
  mixed := by kernel_rfl
  f215 := Try.func183.trans (congrArg some (by kernel_rfl))
  t3 := Try.underlying3
  a3 := Try.isAgg3
  z3 := Try.sizeOf3
  v3 := Try.zeroValue3
  t4 := Try.underlying4
  a4 := Try.isAgg4
  z4 := Try.sizeOf4
  v4 := Try.zeroValue4 }
open Go.RowKit in
/-- cmp.isNaN at int: 'x != x': false. (LAID: no walk: one application.) -/
theorem Try.cmp_isNaN_int (x : Int) (w : World) :
    Calls Try.prog 183 #[.int .i64 x] w fun e w' => e = .returned (.bool false) ∧ w' = w := Any.cmp_isNaN_int Try.lays215 x w
def Try.lays129_ren : Go.Shelf.Ren := ⟨fun | 129 => 175 | n => n, fun | 53 => 101 | 3 => 3 | 4 => 4 | 46 => 158 | 5 => 5 | 9 => 9 | n => n, fun | n => n⟩
theorem Try.lays129 : Go.Proofs.Lays.n129 Try.prog Try.lays129_ren := {
  mixed := by kernel_rfl
  f129 := Try.func175.trans (congrArg some (by kernel_rfl))
  t3 := Try.underlying3
  a3 := Try.isAgg3
  z3 := Try.sizeOf3
  v3 := Try.zeroValue3
  t4 := Try.underlying4
  a4 := Try.isAgg4
  z4 := Try.sizeOf4
  v4 := Try.zeroValue4
  t5 := Try.underlying5
  a5 := Try.isAgg5
  z5 := Try.sizeOf5
  v5 := Try.zeroValue5
  t9 := Try.underlying9
  a9 := Try.isAgg9
  z9 := Try.sizeOf9
  v9 := Try.zeroValue9
  t46 := Try.underlying158
  a46 := Try.isAgg158
  z46 := Try.sizeOf158
  v46 := Try.zeroValue158
  t53 := Try.underlying101
  a53 := Try.isAgg101
  z53 := Try.sizeOf101
  v53 := Try.zeroValue101 }
/-- bits.Len64: "Len64 returns the minimum number of bits required to represent x; the result is 0 for x == 0.": IT RETURNS 'Lib.bitLen x'; the world is as it was. ('h0', 'h1': x is a uint64.) (LAID: no walk: one application.) -/
theorem Try.bits_Len64 (x : Int) (w : World) (h0 : 0 ≤ x) (h1 : x ≤ 18446744073709551615) :
    Calls Try.prog 175 #[.int .u64 x] w fun e w' => e = .returned (.int .i64 (Lib.bitLen x.toNat)) ∧ w' = w := Any.bits_Len64 Try.lays129 x w h0 h1
def Try.lays189_ren : Go.Shelf.Ren := ⟨fun | 189 => 95 | 125 => 139 | 257 => 138 | 128 => 174 | 129 => 175 | 294 => 165 | 295 => 166 | 296 => 167 | 297 => 168 | 298 => 169 | 299 => 170 | 216 => 171 | 300 => 172 | 301 => 173 | 328 => 178 | 329 => 179 | 330 => 180 | 331 => 181 | 332 => 182 | 215 => 183 | 343 => 185 | n => n, fun | 28 => 66 | 3 => 3 | 46 => 158 | 0 => 0 | 51 => 182 | 53 => 101 | 4 => 4 | 183 => 177 | 182 => 176 | 131 => 33 | 5 => 5 | 9 => 9 | 218 => 186 | 222 => 190 | 228 => 192 | 229 => 193 | n => n, fun | n => n⟩
theorem Try.lays189 : Go.Proofs.Lays.n189 Try.prog Try.lays189_ren := {
  mixed := by kernel_rfl
  f125 := Try.func139.trans (congrArg some (by kernel_rfl))
  f128 := Try.func174.trans (congrArg some (by kernel_rfl))
  f129 := Try.func175.trans (congrArg some (by kernel_rfl))
  f189 := Try.func95.trans (congrArg some (by kernel_rfl))
  f215 := Try.func183.trans (congrArg some (by kernel_rfl))
  f216 := Try.func171.trans (congrArg some (by kernel_rfl))
  f257 := Try.func138.trans (congrArg some (by kernel_rfl))
  f294 := Try.func165.trans (congrArg some (by kernel_rfl))
  f295 := Try.func166.trans (congrArg some (by kernel_rfl))
  f296 := Try.func167.trans (congrArg some (by kernel_rfl))
  f297 := Try.func168.trans (congrArg some (by kernel_rfl))
  f298 := Try.func169.trans (congrArg some (by kernel_rfl))
  f299 := Try.func170.trans (congrArg some (by kernel_rfl))
  f300 := Try.func172.trans (congrArg some (by kernel_rfl))
  f301 := Try.func173.trans (congrArg some (by kernel_rfl))
  f328 := Try.func178.trans (congrArg some (by kernel_rfl))
  f329 := Try.func179.trans (congrArg some (by kernel_rfl))
  f330 := Try.func180.trans (congrArg some (by kernel_rfl))
  f331 := Try.func181.trans (congrArg some (by kernel_rfl))
  f332 := Try.func182.trans (congrArg some (by kernel_rfl))
  f343 := Try.func185.trans (congrArg some (by kernel_rfl))
  t0 := Try.underlying0
  a0 := Try.isAgg0
  z0 := Try.sizeOf0
  v0 := Try.zeroValue0
  t3 := Try.underlying3
  a3 := Try.isAgg3
  z3 := Try.sizeOf3
  v3 := Try.zeroValue3
  t4 := Try.underlying4
  a4 := Try.isAgg4
  z4 := Try.sizeOf4
  v4 := Try.zeroValue4
  t5 := Try.underlying5
  a5 := Try.isAgg5
  z5 := Try.sizeOf5
  v5 := Try.zeroValue5
  t9 := Try.underlying9
  a9 := Try.isAgg9
  z9 := Try.sizeOf9
  v9 := Try.zeroValue9
  t28 := Try.underlying66
  a28 := Try.isAgg66
  z28 := Try.sizeOf66
  v28 := Try.zeroValue66
  t46 := Try.underlying158
  a46 := Try.isAgg158
  z46 := Try.sizeOf158
  v46 := Try.zeroValue158
  t51 := Try.underlying182
  a51 := Try.isAgg182
  z51 := Try.sizeOf182
  v51 := Try.zeroValue182
  t53 := Try.underlying101
  a53 := Try.isAgg101
  z53 := Try.sizeOf101
  v53 := Try.zeroValue101
  t131 := Try.underlying33
  a131 := Try.isAgg33
  z131 := Try.sizeOf33
  v131 := Try.zeroValue33
  t182 := Try.underlying176
  a182 := Try.isAgg176
  z182 := Try.sizeOf176
  v182 := Try.zeroValue176
  t183 := Try.underlying177
  a183 := Try.isAgg177
  z183 := Try.sizeOf177
  v183 := Try.zeroValue177
  t218 := Try.underlying186
  a218 := Try.isAgg186
  z218 := Try.sizeOf186
  v218 := Try.zeroValue186
  t222 := Try.underlying190
  a222 := Try.isAgg190
  z222 := Try.sizeOf190
  v222 := Try.zeroValue190
  t228 := Try.underlying192
  a228 := Try.isAgg192
  z228 := Try.sizeOf192
  v228 := Try.zeroValue192
  t229 := Try.underlying193
  a229 := Try.isAgg193
  z229 := Try.sizeOf193
  v229 := Try.zeroValue193 }
open Go.Sort Go.RowKit in
theorem Try.slices_Sort_int (blk off cap : Nat) (zs : List Int) (w : World) (hH : Holds (Value.int .i64) w blk off zs.toArray) (hblk : blk < w.heap.size) (hsz : zs.length < 4611686018427387904) :
    Calls Try.prog 95 #[.slice (some ⟨blk, off, none⟩) zs.length cap] w fun e w' =>
      e = .returned (.tuple #[]) ∧ ∃ n os, w' = grow (putRow (Value.int .i64) (Sort.ahead w n) blk off (zs.mergeSort fun x y => decide (x ≤ y)).toArray) os := Any.slices_Sort_int Try.lays189 blk off cap zs w hH hblk hsz
def Try.lays108_ren : Go.Shelf.Ren := ⟨fun | 108 => 148 | n => n, fun | 28 => 66 | 3 => 3 | 0 => 0 | 4 => 4 | n => n, fun | n => n⟩
theorem Try.lays108 : Go.Proofs.Lays.n108 Try.prog Try.lays108_ren := {
  mixed := by kernel_rfl
  f108 := Try.func148.trans (congrArg some (by kernel_rfl))
  t0 := Try.underlying0
  a0 := Try.isAgg0
  z0 := Try.sizeOf0
  v0 := Try.zeroValue0
  t3 := Try.underlying3
  a3 := Try.isAgg3
  z3 := Try.sizeOf3
  v3 := Try.zeroValue3
  t4 := Try.underlying4
  a4 := Try.isAgg4
  z4 := Try.sizeOf4
  v4 := Try.zeroValue4
  t28 := Try.underlying66
  a28 := Try.isAgg66
  z28 := Try.sizeOf66
  v28 := Try.zeroValue66 }
open Go.Lib in
/-- slices.Index at []int: "Index returns the index of the first occurrence of v in s, or -1 if not present.": IT RETURNS 'Lib.idxOf (the elements) v'; the world is as it was. 'zs': what the cells behind the slice's address hold (its spare capacity too, if you have it); 'zs.take n': its elements. (LAID: no walk: one application.) -/
theorem Try.slices_Index_int (b off n c : Nat) (zs : List Int) (x : Int) (w : World) (hz : n ≤ zs.length) (hbig : n ≤ 9223372036854775807) (hc : ∀ j, j < zs.length → w.cell? ⟨b, off + j, none⟩ = some (.int .i64 (zs.getD j 0))) :
    Calls Try.prog 148 #[.slice (some ⟨b, off, none⟩) n c, .int .i64 x] w fun e w' => e = .returned (.int .i64 (Lib.idxOf (zs.take n) x)) ∧ w' = w := Any.slices_Index_int Try.lays108 b off n c zs x w hz hbig hc
open Go.Lib in
/-- The same at a slice of length 0, a nil one too: no cell is known, none is asked for. (LAID: no walk: one application.) -/
theorem Try.slices_Index_int_empty (a : Option Addr) (c : Nat) (x : Int) (w : World) :
    Calls Try.prog 148 #[.slice a 0 c, .int .i64 x] w fun e w' => e = .returned (.int .i64 (Lib.idxOf [] x)) ∧ w' = w := Any.slices_Index_int_empty Try.lays108 a c x w
def Try.lays107_ren : Go.Shelf.Ren := ⟨fun | 107 => 107 | 108 => 148 | n => n, fun | 28 => 66 | 3 => 3 | 4 => 4 | 0 => 0 | n => n, fun | n => n⟩
theorem Try.lays107 : Go.Proofs.Lays.n107 Try.prog Try.lays107_ren := {
  mixed := by kernel_rfl
  f107 := Try.func107.trans (congrArg some (by kernel_rfl))
  f108 := Try.func148.trans (congrArg some (by kernel_rfl))
  t0 := Try.underlying0
  a0 := Try.isAgg0
  z0 := Try.sizeOf0
  v0 := Try.zeroValue0
  t3 := Try.underlying3
  a3 := Try.isAgg3
  z3 := Try.sizeOf3
  v3 := Try.zeroValue3
  t4 := Try.underlying4
  a4 := Try.isAgg4
  z4 := Try.sizeOf4
  v4 := Try.zeroValue4
  t28 := Try.underlying66
  a28 := Try.isAgg66
  z28 := Try.sizeOf66
  v28 := Try.zeroValue66 }
open Go.Lib in
/-- slices.Contains at []int: "Contains reports whether v is present in s.": IT RETURNS 'elements.contains v'; the world is as it was. ITS CALLEE slices.Index IS MET BY ITS OWN CONTRACT OFF THE SHELF (lay that first): no loop is walked here. (LAID: no walk: one application.) -/
theorem Try.slices_Contains_int (b off n c : Nat) (zs : List Int) (x : Int) (w : World) (hz : n ≤ zs.length) (hbig : n ≤ 9223372036854775807) (hc : ∀ j, j < zs.length → w.cell? ⟨b, off + j, none⟩ = some (.int .i64 (zs.getD j 0))) :
    Calls Try.prog 107 #[.slice (some ⟨b, off, none⟩) n c, .int .i64 x] w fun e w' => e = .returned (.bool ((zs.take n).contains x)) ∧ w' = w := Any.slices_Contains_int Try.lays107 b off n c zs x w hz hbig hc
open Go.Lib in
/-- The same at a slice of length 0, a nil one too. (LAID: no walk: one application.) -/
theorem Try.slices_Contains_int_empty (a : Option Addr) (c : Nat) (x : Int) (w : World) :
    Calls Try.prog 107 #[.slice a 0 c, .int .i64 x] w fun e w' => e = .returned (.bool false) ∧ w' = w := Any.slices_Contains_int_empty Try.lays107 a c x w
def Try.laysNm215_ren : Go.Shelf.Ren := ⟨fun | 15 => 102 | n => n, fun | 22 => 66 | 3 => 3 | 4 => 4 | n => n, fun | n => n⟩
theorem Try.laysNm215 : Go.Proofs.Lays2.n15 Try.prog Try.laysNm215_ren := {
  mixed := by kernel_rfl
  f15 := Try.func102.trans (congrArg some (by kernel_rfl))
  t3 := Try.underlying3
  a3 := Try.isAgg3
  z3 := Try.sizeOf3
  v3 := Try.zeroValue3
  t4 := Try.underlying4
  a4 := Try.isAgg4
  z4 := Try.sizeOf4
  v4 := Try.zeroValue4
  t22 := Try.underlying66
  a22 := Try.isAgg66
  z22 := Try.sizeOf66
  v22 := Try.zeroValue66
  i3 := by kernel_rfl }
open Go.RowKit Go.Lib in
/-- slices.Clone at []int: "Clone returns a copy of the slice. The elements are copied using assignment, so this is a shallow clone. The result may have additional unused capacity. The result preserves the nilness of s.": OF A SLICE THAT IS NOT nil IT RETURNS A SLICE THAT IS NOT nil, OF THE SAME ELEMENTS, IN MEMORY OF THE CALL's OWN: in the how-to's words (6f): 'w'.ownsRow B e 1 v' n cells': v' begins at the head of a row among the blocks from B on (B: the heap's size at the call), not frozen, whose first cells are the elements · 'Below B w w'': below B all is as it was. The capacity is whatever the run-time gives. 'zs': what the cells behind the slice's address hold; 'zs.take n': its elements. (LAID: no walk: one application.) -/
theorem Try.slices_Clone_int (b off n c : Nat) (zs : List Int) (w : World) (hz : n ≤ zs.length) (hbig : n * 8 ≤ 140737488355328) (hc : ∀ j, j < zs.length → w.cell? ⟨b, off + j, none⟩ = some (.int .i64 (zs.getD j 0))) :
    Calls Try.prog 102 #[.slice (some ⟨b, off, none⟩) n c] w fun e w' => ∃ v', e = .returned v' ∧ w'.ownsRow w.heap.size 3 1 v' n ((zs.take n).map (Value.int .i64)) ∧ v' ≠ .slice none 0 0 ∧ Below w.heap.size w w' := Any.slices_Clone_int Try.laysNm215 b off n c zs w hz hbig hc
open Go.RowKit Go.Lib in
/-- The same at nil: nil comes back; the world is as it was. (LAID: no walk: one application.) -/
theorem Try.slices_Clone_int_nil (n c : Nat) (w : World) :
    Calls Try.prog 102 #[.slice none n c] w fun e w' => e = .returned (.slice none 0 0) ∧ w' = w := Any.slices_Clone_int_nil Try.laysNm215 n c w
open Go.RowKit Go.Lib in
/-- The same at a slice of length 0 that is not nil, WHATEVER ITS ADDRESS (no cell is asked for): a slice that is not nil and owns nothing comes back. (LAID: no walk: one application.) -/
theorem Try.slices_Clone_int_zero (a : Addr) (c : Nat) (w : World) :
    Calls Try.prog 102 #[.slice (some a) 0 c] w fun e w' => ∃ v', e = .returned v' ∧ w'.ownsRow w.heap.size 3 1 v' 0 [] ∧ v' ≠ .slice none 0 0 ∧ Below w.heap.size w w' := Any.slices_Clone_int_zero Try.laysNm215 a c w
def Try.laysNm220_ren : Go.Shelf.Ren := ⟨fun | 20 => 96 | n => n, fun | 22 => 66 | 3 => 3 | 4 => 4 | 0 => 0 | n => n, fun | n => n⟩
theorem Try.laysNm220 : Go.Proofs.Lays2.n20 Try.prog Try.laysNm220_ren := {
  mixed := by kernel_rfl
  f20 := Try.func96.trans (congrArg some (by kernel_rfl))
  t0 := Try.underlying0
  a0 := Try.isAgg0
  z0 := Try.sizeOf0
  v0 := Try.zeroValue0
  t3 := Try.underlying3
  a3 := Try.isAgg3
  z3 := Try.sizeOf3
  v3 := Try.zeroValue3
  t4 := Try.underlying4
  a4 := Try.isAgg4
  z4 := Try.sizeOf4
  v4 := Try.zeroValue4
  t22 := Try.underlying66
  a22 := Try.isAgg66
  z22 := Try.sizeOf66
  v22 := Try.zeroValue66
  i3 := by kernel_rfl }
open Go.RowKit Go.Lib Go.Sort in
/-- slices.Compact at []int, over an array: the library's two loops are walked. (LAID: no walk: one application.) -/
theorem Try.slices_Compact_int_arr (blk off cap : Nat) (d : Array Int) (w : World) (hH : Holds encI w blk off d) (hsz : d.size ≤ 9223372036854775807) (hcap : d.size ≤ cap) :
    Calls Try.prog 96 #[.slice (some ⟨blk, off, none⟩) d.size cap] w fun e w' => e = .returned (.slice (some ⟨blk, off, none⟩) (compactUpTo d d.size).length cap) ∧ ∃ q, w' = putRow encI (Sort.ahead w q) blk off (compactUpTo d d.size ++ List.replicate (d.size - (compactUpTo d d.size).length) 0).toArray := Any.slices_Compact_int_arr Try.laysNm220 blk off cap d w hH hsz hcap
open Go.RowKit Go.Lib Go.Sort in
/-- slices.Compact at []int: "Compact replaces consecutive runs of equal elements with a single copy. This is like the uniq command found on Unix. Compact modifies the contents of the slice s and returns the modified slice, which may have a smaller length. Compact zeroes the elements between the new length and the original length. The result preserves the nilness of s.": IT RETURNS THE SLICE CUT TO 'Lib.compact zs'; ITS CELLS HOLD 'Lib.compact zs', THEN ZERO VALUES up to the old length; all else is as it was, but for the count of draws. IN THE WORDS OF slices.Sort's CONTRACT ('Holds', 'putRow'): so the everyday 'slices.Sort(xs); xs = slices.Compact(xs)' goes from the one contract to the other. It asks 'zs.length ≤ cap' (every slice's: the reslicing 's[:k]' looks at it). Length 0, nil: '.._empty'. (LAID: no walk: one application.) -/
theorem Try.slices_Compact_int (blk off cap : Nat) (zs : List Int) (w : World) (hH : Holds (Value.int .i64) w blk off zs.toArray) (hsz : zs.length ≤ 9223372036854775807) (hcap : zs.length ≤ cap) :
    Calls Try.prog 96 #[.slice (some ⟨blk, off, none⟩) zs.length cap] w fun e w' => e = .returned (.slice (some ⟨blk, off, none⟩) (Lib.compact zs).length cap) ∧ ∃ q, w' = putRow (Value.int .i64) (Sort.ahead w q) blk off (Lib.compact zs ++ List.replicate (zs.length - (Lib.compact zs).length) 0).toArray := Any.slices_Compact_int Try.laysNm220 blk off cap zs w hH hsz hcap
open Go.RowKit Go.Lib Go.Sort in
/-- The same at a slice of length 0, a nil one too: it comes back as it is. (LAID: no walk: one application.) -/
theorem Try.slices_Compact_int_empty (a : Option Addr) (cap : Nat) (w : World) :
    Calls Try.prog 96 #[.slice a 0 cap] w fun e w' => e = .returned (.slice a 0 cap) ∧ w' = w := Any.slices_Compact_int_empty Try.laysNm220 a cap w
def Try.laysNm237_ren : Go.Shelf.Ren := ⟨fun | 37 => 183 | n => n, fun | 3 => 3 | 4 => 4 | n => n, fun | n => n⟩
theorem Try.laysNm237 : Go.Proofs.Lays2.n37 Try.prog Try.laysNm237_ren := {
  mixed := by kernel_rfl
  f37 := Try.func183.trans (congrArg some (by kernel_rfl))
  t3 := Try.underlying3
  a3 := Try.isAgg3
  z3 := Try.sizeOf3
  v3 := Try.zeroValue3
  t4 := Try.underlying4
  a4 := Try.isAgg4
  z4 := Try.sizeOf4
  v4 := Try.zeroValue4 }
open Go.RowKit Go.Lib in
/-- cmp.isNaN[int]: 'x != x': false. (LAID: no walk: one application.) -/
theorem Try.cmp_isNaN_int2 (x : Int) (w : World) :
    Calls Try.prog 183 #[.int .i64 x] w fun e w' => e = .returned (.bool false) ∧ w' = w := Any.cmp_isNaN_int2 Try.laysNm237 x w
def Try.laysNm231_ren : Go.Shelf.Ren := ⟨fun | 31 => 171 | 37 => 183 | n => n, fun | 3 => 3 | 4 => 4 | n => n, fun | n => n⟩
theorem Try.laysNm231 : Go.Proofs.Lays2.n31 Try.prog Try.laysNm231_ren := {
  mixed := by kernel_rfl
  f31 := Try.func171.trans (congrArg some (by kernel_rfl))
  f37 := Try.func183.trans (congrArg some (by kernel_rfl))
  t3 := Try.underlying3
  a3 := Try.isAgg3
  z3 := Try.sizeOf3
  v3 := Try.zeroValue3
  t4 := Try.underlying4
  a4 := Try.isAgg4
  z4 := Try.sizeOf4
  v4 := Try.zeroValue4 }
open Go.RowKit Go.Lib in
/-- cmp.Less[int]: "Less reports whether x is less than y.": 'x < y'; the world is as it was. (LAID: no walk: one application.) -/
theorem Try.cmp_Less_int2 (x y : Int) (w : World) :
    Calls Try.prog 171 #[.int .i64 x, .int .i64 y] w fun e w' => e = .returned (.bool (decide (x < y))) ∧ w' = w := Any.cmp_Less_int2 Try.laysNm231 x y w
def Try.laysNm223_ren : Go.Shelf.Ren := ⟨fun | 23 => 112 | n => n, fun | 22 => 66 | 3 => 3 | 4 => 4 | 0 => 0 | n => n, fun | n => n⟩
theorem Try.laysNm223 : Go.Proofs.Lays2.n23 Try.prog Try.laysNm223_ren := {
  mixed := by kernel_rfl
  f23 := Try.func112.trans (congrArg some (by kernel_rfl))
  t0 := Try.underlying0
  a0 := Try.isAgg0
  z0 := Try.sizeOf0
  v0 := Try.zeroValue0
  t3 := Try.underlying3
  a3 := Try.isAgg3
  z3 := Try.sizeOf3
  v3 := Try.zeroValue3
  t4 := Try.underlying4
  a4 := Try.isAgg4
  z4 := Try.sizeOf4
  v4 := Try.zeroValue4
  t22 := Try.underlying66
  a22 := Try.isAgg66
  z22 := Try.sizeOf66
  v22 := Try.zeroValue66
  i3 := by kernel_rfl }
open Go.RowKit Go.Lib Go.Sort in
/-- slices.Delete at []int, over an array. (LAID: no walk: one application.) -/
theorem Try.slices_Delete_int_arr (blk off cap i j : Nat) (d : Array Int) (w : World) (hH : Holds encI w blk off d) (hcap : d.size ≤ cap) (hm : cap ≤ 9223372036854775807) (hij : i ≤ j) (hj : j ≤ d.size) :
    Calls Try.prog 112 #[.slice (some ⟨blk, off, none⟩) d.size cap, .int .i64 i, .int .i64 j] w fun e w' => e = .returned (.slice (some ⟨blk, off, none⟩) (d.size - (j - i)) cap) ∧ ∃ q, w' = putRow encI (Sort.ahead w q) blk off (d.toList.take i ++ d.toList.drop j ++ List.replicate (j - i) 0).toArray := Any.slices_Delete_int_arr Try.laysNm223 blk off cap i j d w hH hcap hm hij hj
open Go.RowKit Go.Lib Go.Sort in
/-- slices.Delete at []int: "Delete modifies s in place by removing the elements s[i:j], and returns the modified slice. Delete panics if j > len(s) or s[i:j] is not a valid slice of s. Delete is O(len(s)-i), so if many items must be deleted, it is better to make a single call deleting them all together than to delete one at a time. Delete zeroes the elements s[len(s)-(j-i):len(s)]. If the result is empty, it has the same nilness as s.": FOR i ≤ j ≤ len(s) IT RETURNS THE SLICE CUT TO len(s) - (j - i) ELEMENTS; ITS CELLS HOLD what stood ahead of i, what stood from j on, then j - i zero values; all else is as it was, but for the count of draws. IN THE WORDS OF slices.Sort's CONTRACT ('Holds', 'putRow'). It asks 'zs.length ≤ cap ≤ 2^63 - 1' (every slice's). (Outside i ≤ j ≤ len(s) it panics: no contract here.) (LAID: no walk: one application.) -/
theorem Try.slices_Delete_int (blk off cap i j : Nat) (zs : List Int) (w : World) (hH : Holds (Value.int .i64) w blk off zs.toArray) (hcap : zs.length ≤ cap) (hm : cap ≤ 9223372036854775807) (hij : i ≤ j) (hj : j ≤ zs.length) :
    Calls Try.prog 112 #[.slice (some ⟨blk, off, none⟩) zs.length cap, .int .i64 i, .int .i64 j] w fun e w' => e = .returned (.slice (some ⟨blk, off, none⟩) (zs.length - (j - i)) cap) ∧ ∃ q, w' = putRow (Value.int .i64) (Sort.ahead w q) blk off (zs.take i ++ zs.drop j ++ List.replicate (j - i) 0).toArray := Any.slices_Delete_int Try.laysNm223 blk off cap i j zs w hH hcap hm hij hj
open Go.RowKit Go.Lib Go.Sort in
/-- slices.Compact at []int, of an argument: the slice cut to 'Lib.compact (elements)'; the n cells hold that, then zeros. (LAID: no walk: one application.) -/
theorem Try.slices_Compact_int_cells (b off n c : Nat) (zs : List Int) (w : World) (hz : n ≤ zs.length) (hbig : n ≤ 9223372036854775807) (hcap : n ≤ c) (hc : ∀ j, j < zs.length → w.cell? ⟨b, off + j, none⟩ = some (.int .i64 (zs.getD j 0))) (hf : ∀ j, j < n → w.frozen? ⟨b, off + j, none⟩ = false) :
    Calls Try.prog 96 #[.slice (some ⟨b, off, none⟩) n c] w fun e w' => e = .returned (.slice (some ⟨b, off, none⟩) (Lib.compact (zs.take n)).length c) ∧ ∃ q, w' = (w.drewN q).setCells b off ((Lib.compact (zs.take n) ++ List.replicate (n - (Lib.compact (zs.take n)).length) 0).map (Value.int .i64)) := Any.slices_Compact_int_cells Try.laysNm220 b off n c zs w hz hbig hcap hc hf
open Go.RowKit Go.Lib Go.Sort in
/-- slices.Delete at []int, of an argument, for i ≤ j ≤ n: the slice cut to n - (j - i) elements; the n cells hold what stood ahead of i, what stood from j on, then zeros. (LAID: no walk: one application.) -/
theorem Try.slices_Delete_int_cells (b off n c i j : Nat) (zs : List Int) (w : World) (hz : n ≤ zs.length) (hcap : n ≤ c) (hm : c ≤ 9223372036854775807) (hij : i ≤ j) (hj : j ≤ n) (hc : ∀ j, j < zs.length → w.cell? ⟨b, off + j, none⟩ = some (.int .i64 (zs.getD j 0))) (hf : ∀ j, j < n → w.frozen? ⟨b, off + j, none⟩ = false) :
    Calls Try.prog 112 #[.slice (some ⟨b, off, none⟩) n c, .int .i64 i, .int .i64 j] w fun e w' => e = .returned (.slice (some ⟨b, off, none⟩) (n - (j - i)) c) ∧ ∃ q, w' = (w.drewN q).setCells b off (((zs.take n).take i ++ (zs.take n).drop j ++ List.replicate (j - i) 0).map (Value.int .i64)) := Any.slices_Delete_int_cells Try.laysNm223 b off n c i j zs w hz hcap hm hij hj hc hf
open Go.RowKit Go.Sort in
/-- .. and plain. (LAID: no walk: one application.) -/
theorem Try.slices_Sort_int_none (p : Option Addr) (cap : Nat) (w : World) :
    Calls Try.prog 95 #[.slice p 0 cap] w fun e w' => e = .returned (.tuple #[]) ∧ w' = w := Any.slices_Sort_int_none Try.lays189 p cap w
open Go.RowKit Go.Lib in
/-- slices.Delete at []int of no element ('Delete(s, 0, 0)'): s comes back; the world is as it was. (LAID: no walk: one application.) -/
theorem Try.slices_Delete_int_empty (a : Option Addr) (c : Nat) (w : World) :
    Calls Try.prog 112 #[.slice a 0 c, .int .i64 0, .int .i64 0] w fun e w' => e = .returned (.slice a 0 c) ∧ w' = w := Any.slices_Delete_int_empty Try.laysNm223 a c w
def Try.laysSlE45_f112_ren : Go.Shelf.Ren := ⟨fun | 45 => 112 | n => n, fun | 22 => 66 | 23 => 3 | 3 => 3 | 4 => 4 | 0 => 0 | n => n, fun | n => n⟩
theorem Try.laysSlE45_f112 : Go.Proofs.SlLaysE.n45 Try.prog Try.laysSlE45_f112_ren := {
  mixed := by kernel_rfl
  f45 := ⟨Try.f112.name, by decide, Try.func112.trans (congrArg some (by kernel_rfl))⟩
  t0 := Try.underlying0
  a0 := Try.isAgg0
  z0 := Try.sizeOf0
  v0 := Try.zeroValue0
  t3 := Try.underlying3
  a3 := Try.isAgg3
  z3 := Try.sizeOf3
  v3 := Try.zeroValue3
  t4 := Try.underlying4
  a4 := Try.isAgg4
  z4 := Try.sizeOf4
  v4 := Try.zeroValue4
  t22 := Try.underlying66
  a22 := Try.isAgg66
  z22 := Try.sizeOf66
  v22 := Try.zeroValue66
  a23 := Try.isAgg3
  z23 := Try.sizeOf3 }
open Go.RowKit Go.Lib Go.Sort in
/-- slices.Delete: "Delete modifies s in place by removing the elements s[i:j], and returns the modified slice. .. Delete zeroes the elements s[len(s)-(j-i):len(s)].": FOR i ≤ j ≤ len(s) IT RETURNS THE SLICE CUT TO len(s) - (j - i) ELEMENTS; ITS CELLS HOLD what stood ahead of i, what stood from j on, then j - i zero values ('zr': the element whose 'enc' is the type's zero value). (LAID AT THE INSTANCE 'slices.Delete[[]int,int]': no walk: one application.) -/
theorem Try.slices_Delete {α : Type} [Inhabited α] (enc : α → Value) (h1 : OneCell enc) (zr : α) (v23 : ∀ w, (zeroValue 3).run Try.prog w = .ok (enc zr) w) (i0 : TypeInfo) (hi0 : Try.prog.info? 3 = some i0) (hz1 : i0.size = 1) (blk off cap i j : Nat) (d : Array α) (w : World) (hH : Holds enc w blk off d) (hcap : d.size ≤ cap) (hm : cap ≤ 9223372036854775807) (hij : i ≤ j) (hj : j ≤ d.size) :
    Calls Try.prog 112 #[.slice (some ⟨blk, off, none⟩) d.size cap, .int .i64 i, .int .i64 j] w fun e w' => e = .returned (.slice (some ⟨blk, off, none⟩) (d.size - (j - i)) cap) ∧ ∃ q, w' = putRow enc (Sort.ahead w q) blk off (d.toList.take i ++ d.toList.drop j ++ List.replicate (j - i) zr).toArray := AnyE.slices_Delete Try.laysSlE45_f112 enc h1 zr v23 i0 hi0 hz1 blk off cap i j d w hH hcap hm hij hj
def Try.laysSlE041_f102_ren : Go.Shelf.Ren := ⟨fun | 41 => 102 | n => n, fun | 22 => 66 | 23 => 3 | 4 => 4 | n => n, fun | n => n⟩
theorem Try.laysSlE041_f102 : Go.Proofs.SlLaysE0.n41 Try.prog Try.laysSlE041_f102_ren := {
  mixed := by kernel_rfl
  f41 := ⟨Try.f102.name, by decide, Try.func102.trans (congrArg some (by kernel_rfl))⟩
  t4 := Try.underlying4
  a4 := Try.isAgg4
  z4 := Try.sizeOf4
  v4 := Try.zeroValue4
  t22 := Try.underlying66
  a22 := Try.isAgg66
  z22 := Try.sizeOf66
  v22 := Try.zeroValue66 }
open Go.RowKit Go.Lib in
/-- slices.Clone: "Clone returns a copy of the slice. The elements are copied using assignment, so this is a shallow clone. The result may have additional unused capacity. The result preserves the nilness of s.": OF A SLICE THAT IS NOT nil IT RETURNS A SLICE THAT IS NOT nil, OF THE SAME CELLS, IN MEMORY OF THE CALL's OWN ('ownsRow': the how-to's 6f); below the heap's size at the call all is as it was. (LAID AT THE INSTANCE 'slices.Clone[[]int,int]': no walk: one application.) -/
theorem Try.slices_Clone (i0 : TypeInfo) (z : Value) (size bytes : Nat) (hi : Try.prog.info? 3 = some i0) (hz0 : i0.zero = some z) (hz1 : i0.size = size) (hz2 : i0.bytes = bytes) (hzs : z.cells.size = size) (hsz : 0 < size) (z23 : ∀ w, (Go.sizeOf 3).run Try.prog w = .ok size w) (b off n c : Nat) (news : List Value) (w : World) (hl : news.length = n * size) (hn : n ≤ maxLen) (hbig : n * bytes ≤ 140737488355328) (hc : ∀ j u, news[j]? = some u → w.cell? ⟨b, off + j, none⟩ = some u) (h1 : ∀ u ∈ news, u.oneCell' = true) :
    Calls Try.prog 102 #[.slice (some ⟨b, off, none⟩) n c] w fun e w' => ∃ v', e = .returned v' ∧ w'.ownsRow w.heap.size 3 size v' n news ∧ v' ≠ .slice none 0 0 ∧ Below w.heap.size w w' := AnyE.slices_Clone Try.laysSlE041_f102 i0 z size bytes hi hz0 hz1 hz2 hzs hsz z23 b off n c news w hl hn hbig hc h1
open Go.RowKit Go.Lib in
/-- The same at nil: nil comes back; the world is as it was; nothing is asked of the element's type. (LAID AT THE INSTANCE 'slices.Clone[[]int,int]': no walk: one application.) -/
theorem Try.slices_Clone_nil (n c : Nat) (w : World) :
    Calls Try.prog 102 #[.slice none n c] w fun e w' => e = .returned (.slice none 0 0) ∧ w' = w := AnyE.slices_Clone_nil Try.laysSlE041_f102 n c w
end Go.Proofs
/-
  slices.Sort and slices.Compact at ints, told in the logic of values.
-/
namespace Go.Proofs.Ytllcljajlemmaaa
open Go K Go.Sort Go.RowKit Go.Lib
set_option linter.unusedSimpArgs false
set_option linter.unusedVariables false
set_option maxHeartbeats 1600000
set_option maxRecDepth 8000

def srt (l : List Int) : List Int := l.mergeSort fun x y => decide (x ≤ y)
theorem sortI_ok (l : List Int) (id g : Nat) (L : List AObj) (hL : L[id]? = some (.vec 3 1 g (ints l))) (hl : l.length ≤ 1048576) :
    Ct Try.prog 95 [.ref id [] g l.length] L (.tup []) (L.set id (.vec 3 1 g (ints (srt l)))) :=
  Ct.rowI hL (by simp [srt]) (fun b c w hH hb hc => Try.slices_Sort_int b 0 c l w hH hb (by omega)) (fun h w => by
    subst h
    exact Try.slices_Sort_int_none none 0 w)

end Go.Proofs.Ytllcljajlemmaaa
/-
  A function of the library that turns a row of ints in place and gives it back.
-/
namespace Go.Proofs.Ytllcljajlemmaaa
open Go K Go.Sort Go.RowKit
set_option linter.unusedSimpArgs false
set_option linter.unusedVariables false
set_option maxHeartbeats 1600000
set_option maxRecDepth 8000

theorem Ct.rowR {P : Program} {f : FuncId} {l l2 : List Int} {id g : Nat} {T : TypeId} {L : List AObj} (hL : L[id]? = some (.vec T 1 g (ints l))) (hlen : l2.length = l.length)
    (H : ∀ (b c : Nat) (w : World), Holds (Value.int .i64) w b 0 l.toArray → b < w.heap.size → l.length ≤ c → Calls P f #[.slice (some ⟨b, 0, none⟩) l.length c] w fun e w' => e = .returned (.slice (some ⟨b, 0, none⟩) l.length c) ∧ ∃ n os, w' = turned w b l2 n os)
    (H0 : l = [] → ∀ (w : World), Calls P f #[.slice none 0 0] w fun e w' => e = .returned (.slice none 0 0) ∧ w' = w) :
    Ct P f [.ref id [] g l.length] L (.ref id [] g l.length) (L.set id (.vec T 1 g (ints l2))) := by
  intro γ w vs hI ha
  have hid := (List.getElem?_eq_some_iff.1 hL).1
  have hself : (L.set id (AObj.vec T 1 g (ints l2)))[id]? = some (.vec T 1 g (ints l2)) := List.getElem?_set_self hid
  have hoth : ∀ {i}, i ≠ id → (L.set id (AObj.vec T 1 g (ints l2)))[i]? = L[i]? := fun {i} h => List.getElem?_set_ne (fun e => h e.symm)
  obtain ⟨v0, hv0⟩ : ∃ v, vs = #[v] := by
    have h1 := ha.1
    simp at h1
    obtain ⟨⟨xs⟩⟩ := vs
    · simp at h1
    · rename_i a r
      cases r with
      | nil => exact ⟨a, rfl⟩
      | cons b r => simp at h1
  subst hv0
  have h0 := ha.2 0 _ rfl
  simp only [Array.getD_eq_getD_getElem?, List.getElem?_toArray, List.getElem?_cons_zero, Option.getD_some] at h0
  cases h0 with
  | ref _ _ _ _ _ hok ho =>
    have hok0 := hok
    have h1' := ho
    simp only [RefOk, hL] at hok
    obtain ⟨es', hs, hle, hv⟩ := hok.2 trivial
    obtain ⟨_, rfl⟩ := sub_ints l hs
    rcases hv with ⟨rfl, hnil, _⟩ | ⟨b, c, rfl, hb⟩
    · have hl0 : l = [] := by simpa [ints] using hnil
      subst hl0
      have hl2 : l2 = [] := List.eq_nil_of_length_eq_zero (by simpa using hlen)
      subst hl2
      refine (H0 rfl w).mono ?_
      rintro e w' ⟨rfl, rfl⟩
      rw [set_eq_self hL]
      exact ⟨γ, _, rfl, hI, .ref _ _ _ _ _ hok0 h1', Ext.refl _ _, Stp.refl _ _⟩
    · obtain ⟨arr, s, T', harr, hTs, hsz, hlc, hcm, hrow⟩ := hI.rowCell hL rfl hb
      obtain ⟨hT, rfl⟩ := hTs rfl
      rw [hT] at harr
      have hblt : b < w.heap.size := (Array.getElem?_eq_some_iff.1 harr).1
      have hlc : l.length ≤ c := by simpa [ints] using hlc
      have hcell : ∀ j (hj : j < l.length), arr[j]? = some (.int .i64 l[j]) := fun j hj => by
        obtain ⟨v, v1, v2, v3⟩ := hrow.2 j (.int .i64 l[j]) 0 (.int .i64 l[j]) (by simp [ints, hj]) rfl
        simp only [Nat.mul_one, Nat.add_zero] at v1
        rw [v1]
        cases v3
        rfl
      have hH : Holds (Value.int .i64) w b 0 l.toArray := fun j hj => by
        have hj : j < l.length := by simpa using hj
        constructor
        · simp only [World.cell?, harr, Nat.zero_add, hcell j hj]
          simp [hj]
        · simp [World.frozen?, harr]
      refine (H b c w hH hblt hlc).mono ?_
      rintro e w' ⟨rfl, n, os, rfl⟩
      have hE : Ext γ L γ (L.set id (.vec T 1 g (ints l2))) := by
        refine ⟨fun _ _ h => h, fun i o hq => ?_, fun _ _ _ _ h => .inl h, fun _ _ _ _ _ _ _ _ _ _ _ _ _ _ _ h => h⟩
        by_cases hi : i = id
        · subst hi
          rw [hL] at hq; cases hq
          refine ⟨.vec T 1 g (ints l2), hself, rfl, rfl, .inr ⟨rfl, fun p e1 he => ?_⟩⟩
          obtain ⟨rfl, rfl⟩ := sub_ints l he
          refine ⟨ints l2, rfl, by simp [ints, hlen], fun j x hx => ?_⟩
          have hj : j < l2.length := by rw [hlen]; simpa [ints] using (List.getElem?_eq_some_iff.1 hx).1
          obtain ⟨z, _, rfl⟩ : ∃ z, z ∈ l ∧ AV.int .i64 z = x := by
            have := List.mem_of_getElem? hx
            simpa [ints] using this
          exact ⟨.int .i64 l2[j], by simp [ints, hj], rfl⟩
        · exact ⟨o, by rw [hoth hi]; exact hq, OStep.refl o⟩
      refine ⟨γ, _, rfl, ⟨fun b' o hq => ?_, fun b' id' p' c' hq => ?_, hI.inj, fun i T2 cs hq => ?_, fun i kt vt es hq => ?_⟩, .ref _ _ _ _ _ (by simp only [RefOk, hself]; exact ⟨Nat.le_refl _, fun _ => ⟨ints l2, rfl, by simp [ints, hlen], .inr ⟨b, c, rfl, hb⟩⟩⟩) rfl, hE, ?_⟩
      · have h1 := hI.ro b' o hq
        rw [turned_other (fun e => by subst e; rw [hb] at hq; cases hq) (Array.getElem?_eq_some_iff.1 h1).1]
        exact h1
      · obtain ⟨o, ho, hrep⟩ := hI.ow _ _ _ _ hq
        by_cases hbb : b' = b
        · subst hbb
          rw [hb] at hq; cases hq
          refine ⟨_, turned_self harr, ?_⟩
          simp only [BlockRep, hself]
          refine ⟨ints l2, 1, _, T, rfl, rfl, fun _ => ⟨rfl, rfl⟩, by simp [putCells, hsz], by simpa [ints, hlen] using hlc, hcm, fun e he => ?_, fun i e j x hie hjx => ?_⟩
          · obtain ⟨z, _, rfl⟩ := List.mem_map.1 he; rfl
          · have hi : i < l2.length := by simpa [ints] using (List.getElem?_eq_some_iff.1 hie).1
            have he : e = .int .i64 l2[i] := by simp [ints, hi] at hie; exact hie.symm
            subst he
            cases j with
            | succ j => simp [AV.cells] at hjx
            | zero =>
              simp [AV.cells] at hjx
              subst hjx
              refine ⟨.int .i64 l2[i], ?_, rfl, .int _ _⟩
              have hia : i < arr.size := by rw [hsz]; omega
              simp [putCells, hi, hia]
        · have hne : id' ≠ id := fun e => by
            subst e
            simp only [BlockRep, hL] at hrep
            obtain ⟨es2, _, _, _, h1, _⟩ := hrep
            obtain ⟨rfl, _⟩ := sub_ints l h1
            exact hbb (hI.inj _ _ _ _ _ _ hq hb)
          refine ⟨o, by rw [turned_other hbb (Array.getElem?_eq_some_iff.1 ho).1]; exact ho, ?_⟩
          exact BlockRep.keep hE (hoth hne) (fun _ _ _ h => h) (fun _ _ _ h => h) hrep
      · by_cases hi : i = id
        · subst hi; rw [hself] at hq; cases hq
        · rw [hoth hi] at hq; exact hI.box _ _ _ hq
      · by_cases hi : i = id
        · subst hi; rw [hself] at hq; cases hq
        · rw [hoth hi] at hq; exact hI.map _ _ _ _ hq
      · exact ⟨by first | rfl | (unfold turned grow putRow mapBlock Sort.ahead; rfl), by first | rfl | (unfold turned grow putRow mapBlock Sort.ahead; rfl), by first | rfl | (unfold turned grow putRow mapBlock Sort.ahead; rfl), turned_size _ _ _ _ _, fun _ _ h => h, fun b' hlt hq => ⟨hq, turned_other (fun e => by subst e; rw [hb] at hq; cases hq) hlt⟩⟩

end Go.Proofs.Ytllcljajlemmaaa
/-
  The simplest number of a cut: plain law.
-/
namespace Go.Proofs.Ytllcljajlemmaaa
open Go K
set_option linter.unusedSimpArgs false
set_option linter.unusedVariables false
set_option maxRecDepth 8000

def goodF (a : Fr) : Bool := goodB a.1 a.2
def goodL (l : List Fr) : Bool := decide (l.length ≤ 20) && l.all goodF
/-- Is a number of so many parts at most a fraction; at least it. -/
def leB (x : Int) (a : Fr) : Bool := decide (w64 (x * a.2) ≤ w64 (a.1 * 1048576))
def geB (x : Int) (a : Fr) : Bool := decide (w64 (a.1 * 1048576) ≤ w64 (x * a.2))
def cutS (l r : List Fr) (x : Int) : Int := if l.any (leB x) then 1 else if r.any (geB x) then -1 else 0
theorem cutS_val (l r : List Fr) (x : Int) : cutS l r x = 1 ∨ cutS l r x = 0 ∨ cutS l r x = -1 := by
  unfold cutS; split
  · exact .inl rfl
  · split
    · exact .inr (.inr rfl)
    · exact .inr (.inl rfl)
def cutX (l r : List Fr) : Int := (wkRun (cutS l r) 21 wk0).nums.getLastD 0
def cutBad (l r : List Fr) : Bool := l.any (leB (cutX l r)) || r.any (geB (cutX l r))
def simR (l r : List Fr) : AV := .tup [frE (if cutBad l r then (0, 0) else (frN (cutX l r), frD (cutX l r))), .bool (!cutBad l r)]

/-! ### the order of fractions -/
def FB (a : Fr) : Prop := 1 ≤ a.2 ∧ a.2 ≤ 1000000 ∧ -1000000 ≤ a.1 ∧ a.1 ≤ 1000000
theorem goodF_FB {a : Fr} (h : goodF a = true) : FB a := good_range h
def leQ (p q : Fr) : Prop := p.1 * q.2 ≤ q.1 * p.2
theorem fb_mul {p q : Fr} (hp : FB p) (hq : FB q) : (p.1 * q.2).natAbs ≤ 1000000 * 1000000 := by
  obtain ⟨a, b, c, d⟩ := hp
  obtain ⟨e, f, g, h⟩ := hq
  exact mul_le (by omega) (by omega)
theorem leQ_total (p q : Fr) : leQ p q ∨ leQ q p := by unfold leQ; omega
theorem leQ_trans {p q r : Fr} (hp : FB p) (hq : FB q) (hr : FB r) (h1 : leQ p q) (h2 : leQ q r) : leQ p r := by
  unfold leQ at *
  have a1 := Int.mul_le_mul_of_nonneg_right h1 (c := r.2) (by have := hr.1; omega)
  have a2 := Int.mul_le_mul_of_nonneg_right h2 (c := p.2) (by have := hp.1; omega)
  have a3 : p.1 * r.2 * q.2 ≤ r.1 * p.2 * q.2 := by
    rw [show p.1 * r.2 * q.2 = p.1 * q.2 * r.2 by ac_rfl, show r.1 * p.2 * q.2 = r.1 * q.2 * p.2 by ac_rfl]
    refine Int.le_trans a1 ?_
    rw [show q.1 * p.2 * r.2 = q.1 * r.2 * p.2 by ac_rfl]
    exact a2
  exact Int.le_of_mul_le_mul_right a3 (by have := hq.1; omega)
theorem leB_iff {x : Int} {a : Fr} (hx : x.natAbs ≤ 50000000) (ha : FB a) : leB x a = true ↔ x * a.2 ≤ a.1 * 1048576 := by
  obtain ⟨a1, a2, a3, a4⟩ := ha
  have q1 := mul_le (a := x) (b := a.2) (A := 50000000) (B := 1000000) (by omega) (by omega)
  unfold leB
  rw [w64_small (by omega), w64_small (by omega), decide_eq_true_eq]
theorem geB_iff {x : Int} {a : Fr} (hx : x.natAbs ≤ 50000000) (ha : FB a) : geB x a = true ↔ a.1 * 1048576 ≤ x * a.2 := by
  obtain ⟨a1, a2, a3, a4⟩ := ha
  have q1 := mul_le (a := x) (b := a.2) (A := 50000000) (B := 1000000) (by omega) (by omega)
  unfold geB
  rw [w64_small (x := x * a.2) (by omega), w64_small (by omega), decide_eq_true_eq]
theorem leB_mono {x : Int} {a m : Fr} (hx : x.natAbs ≤ 50000000) (ha : FB a) (hm : FB m) (h : leQ a m) (k : leB x a = true) : leB x m = true := by
  rw [leB_iff hx ha] at k
  rw [leB_iff hx hm]
  unfold leQ at h
  have a1 := Int.mul_le_mul_of_nonneg_right k (c := m.2) (by have := hm.1; omega)
  have a2 := Int.mul_le_mul_of_nonneg_right h (c := 1048576) (by omega)
  have a3 : x * m.2 * a.2 ≤ m.1 * 1048576 * a.2 := by
    rw [show x * m.2 * a.2 = x * a.2 * m.2 by ac_rfl, show m.1 * 1048576 * a.2 = m.1 * a.2 * 1048576 by ac_rfl]
    refine Int.le_trans a1 ?_
    rw [show a.1 * 1048576 * m.2 = a.1 * m.2 * 1048576 by ac_rfl]
    exact a2
  exact Int.le_of_mul_le_mul_right a3 (by have := ha.1; omega)
theorem geB_mono {x : Int} {a m : Fr} (hx : x.natAbs ≤ 50000000) (ha : FB a) (hm : FB m) (h : leQ m a) (k : geB x a = true) : geB x m = true := by
  rw [geB_iff hx ha] at k
  rw [geB_iff hx hm]
  unfold leQ at h
  have a1 := Int.mul_le_mul_of_nonneg_right k (c := m.2) (by have := hm.1; omega)
  have a2 := Int.mul_le_mul_of_nonneg_right h (c := 1048576) (by omega)
  have a3 : m.1 * 1048576 * a.2 ≤ x * m.2 * a.2 := by
    rw [show x * m.2 * a.2 = x * a.2 * m.2 by ac_rfl, show m.1 * 1048576 * a.2 = m.1 * a.2 * 1048576 by ac_rfl]
    refine Int.le_trans a2 ?_
    rw [show a.1 * m.2 * 1048576 = a.1 * 1048576 * m.2 by ac_rfl]
    exact a1
  exact Int.le_of_mul_le_mul_right a3 (by have := ha.1; omega)
/-- Between a left number and a right one that is at most it there is none. -/
theorem no_between {x y : Int} {a b : Fr} (hx : x.natAbs ≤ 50000000) (hy : y.natAbs ≤ 50000000) (ha : FB a) (hb : FB b) (h1 : leB x a = true) (h2 : geB x b = true) : leB y a = true ∨ geB y b = true := by
  by_cases h : y ≤ x
  · left
    rw [leB_iff hx ha] at h1
    rw [leB_iff hy ha]
    have := Int.mul_le_mul_of_nonneg_right h (c := a.2) (by have := ha.1; omega)
    omega
  · right
    rw [geB_iff hx hb] at h2
    rw [geB_iff hy hb]
    have := Int.mul_le_mul_of_nonneg_right (show x ≤ y by omega) (c := b.2) (by have := hb.1; omega)
    omega

/-! ### the greatest one of a list -/
/-- How the reference compares. -/
def cmpQ (p q : Fr) : Int := cmpI (w64 (w64 (p.1 * q.2) - w64 (q.1 * p.2))) 0
theorem cmpQ_pos {p q : Fr} (hp : FB p) (hq : FB q) : 0 < cmpQ p q ↔ ¬ leQ p q := by
  have h1 := fb_mul hp hq
  have h2 := fb_mul hq hp
  unfold cmpQ leQ cmpI
  rw [w64_small (x := p.1 * q.2) (by omega), w64_small (x := q.1 * p.2) (by omega), w64_small (by omega)]
  split
  · omega
  · split <;> omega
theorem cmpQ_neg {p q : Fr} (hp : FB p) (hq : FB q) : cmpQ p q < 0 ↔ ¬ leQ q p := by
  have h1 := fb_mul hp hq
  have h2 := fb_mul hq hp
  unfold cmpQ leQ cmpI
  rw [w64_small (x := p.1 * q.2) (by omega), w64_small (x := q.1 * p.2) (by omega), w64_small (by omega)]
  split
  · omega
  · split <;> omega
theorem cmpQ_val (p q : Fr) : cmpQ p q = 1 ∨ cmpQ p q = 0 ∨ cmpQ p q = -1 := by
  unfold cmpQ cmpI
  split
  · exact .inr (.inr rfl)
  · split
    · exact .inl rfl
    · exact .inr (.inl rfl)
def mostF (o : Fr) : List Fr → Fr
  | [] => o
  | a :: r => mostF (if 0 < cmpQ a o then a else o) r
theorem mostF_nil (o : Fr) : mostF o [] = o := rfl
theorem mostF_cons (o a : Fr) (r : List Fr) : mostF o (a :: r) = mostF (if 0 < cmpQ a o then a else o) r := rfl
theorem mostF_spec (l : List Fr) : ∀ (o : Fr), FB o → (∀ a ∈ l, FB a) → mostF o l ∈ o :: l ∧ ∀ b ∈ o :: l, leQ b (mostF o l) := by
  induction l with
  | nil =>
    intro o ho _
    rw [mostF_nil]
    refine ⟨List.mem_cons_self, fun b hb => ?_⟩
    rw [List.mem_singleton.1 hb]
    exact (leQ_total o o).elim id id
  | cons a r ih =>
    intro o ho hl
    have ha := hl a (by simp)
    have hr : ∀ b ∈ r, FB b := fun b hb => hl b (by simp [hb])
    rw [mostF_cons]
    by_cases hc : 0 < cmpQ a o
    · rw [if_pos hc]
      have hle : leQ o a := by
        rw [cmpQ_pos ha ho] at hc
        rcases leQ_total a o with h | h
        · exact absurd h hc
        · exact h
      obtain ⟨h1, h2⟩ := ih a ha hr
      have hm : FB (mostF a r) := by
        rcases List.mem_cons.1 h1 with h | h
        · rw [h]; exact ha
        · exact hr _ h
      refine ⟨List.mem_cons_of_mem _ h1, fun b hb => ?_⟩
      rcases List.mem_cons.1 hb with rfl | hb
      · exact leQ_trans ho ha hm hle (h2 a (by simp))
      · exact h2 b hb
    · rw [if_neg hc]
      have hle : leQ a o := by
        rw [cmpQ_pos ha ho] at hc
        exact Classical.not_not.1 hc
      obtain ⟨h1, h2⟩ := ih o ho hr
      have hm : FB (mostF o r) := by
        rcases List.mem_cons.1 h1 with h | h
        · rw [h]; exact ho
        · exact hr _ h
      refine ⟨?_, fun b hb => ?_⟩
      · rcases List.mem_cons.1 h1 with h | h
        · rw [h]; simp
        · simp [h]
      · rcases List.mem_cons.1 hb with rfl | hb
        · exact h2 b (by simp)
        · rcases List.mem_cons.1 hb with rfl | hb
          · exact leQ_trans ha ho hm hle (h2 o (by simp))
          · exact h2 b (by simp [hb])
def negF (a : Fr) : Fr := (w64 (0 - a.1), a.2)
theorem negF_FB {a : Fr} (h : FB a) : FB (negF a) ∧ negF a = (-a.1, a.2) ∧ negF (negF a) = a := by
  obtain ⟨h1, h2, h3, h4⟩ := h
  have e : w64 (0 - a.1) = -a.1 := by rw [w64_small (by omega)]; omega
  have e2 : w64 (0 - -a.1) = a.1 := by rw [w64_small (by omega)]; omega
  unfold negF
  rw [e]
  refine ⟨⟨h1, h2, by simp only; omega, by simp only; omega⟩, rfl, ?_⟩
  simp only [e2]

/-- Told by the greatest left number, and by the least right one. -/
theorem cmpI_neg (y : Int) : cmpI (-y) 0 = - cmpI y 0 := by
  unfold cmpI
  rcases Int.lt_trichotomy y 0 with h | h | h
  · rw [if_neg (by omega), if_pos (by omega), if_pos h]; rfl
  · subst h; rfl
  · rw [if_pos (by omega), if_neg (by omega), if_pos h]
theorem at_cmp {x a b n d : Int} (h : At x a b) (hx : x.natAbs ≤ 50000000) (hn : n.natAbs ≤ 1000000) (hd : 0 < d) (hd2 : d ≤ 1000000) :
    cmpI (w64 (w64 (n * b) - w64 (a * d))) 0 = side n d x := by
  have h1 := cmp_at h hx hn hd hd2
  obtain ⟨g, p, e, f, k, l, m⟩ := h.spec (by omega)
  have q1 := mul_le (a := a) (b := d) (A := 50000000) (B := 1000000) (by omega) (by omega)
  have q2 := mul_le (a := n) (b := b) (A := 1000000) (B := 1048576) (by omega) (by omega)
  rw [w64_small (x := a * d) (by omega), w64_small (x := n * b) (by omega)] at h1 ⊢
  rw [w64_small (by omega)] at h1 ⊢
  have : cmpI (n * b - a * d) 0 = - cmpI (a * d - n * b) 0 := by
    rw [← cmpI_neg]; congr 1; omega
  rw [this, h1]; omega
theorem side_le {x : Int} {a : Fr} : leB x a = decide (0 ≤ side a.1 a.2 x) := by
  unfold leB side cmpI
  rw [Bool.eq_iff_iff, decide_eq_true_eq, decide_eq_true_eq]
  split
  · omega
  · split <;> omega
theorem side_ge {x : Int} {a : Fr} : geB x a = decide (side a.1 a.2 x ≤ 0) := by
  unfold geB side cmpI
  rw [Bool.eq_iff_iff, decide_eq_true_eq, decide_eq_true_eq]
  split
  · omega
  · split <;> omega
theorem up_any {x : Int} {o : Fr} {l : List Fr} (hx : x.natAbs ≤ 50000000) (hl : ∀ a ∈ o :: l, FB a) : leB x (mostF o l) = (o :: l).any (leB x) := by
  obtain ⟨h1, h2⟩ := mostF_spec l o (hl o (by simp)) (fun a ha => hl a (by simp [ha]))
  rw [Bool.eq_iff_iff, List.any_eq_true]
  constructor
  · intro h; exact ⟨_, h1, h⟩
  · rintro ⟨a, ha, h⟩; exact leB_mono hx (hl a ha) (hl _ h1) (h2 a ha) h
def leastF (o : Fr) (l : List Fr) : Fr := negF (mostF (negF o) (l.map negF))
theorem leastF_spec (o : Fr) (l : List Fr) (hl : ∀ a ∈ o :: l, FB a) : leastF o l ∈ o :: l ∧ ∀ b ∈ o :: l, leQ (leastF o l) b := by
  have hn : ∀ a ∈ negF o :: l.map negF, FB a := by
    intro a ha
    rw [← List.map_cons] at ha
    obtain ⟨b, hb, rfl⟩ := List.mem_map.1 ha
    exact (negF_FB (hl b hb)).1
  obtain ⟨h1, h2⟩ := mostF_spec (l.map negF) (negF o) (hn _ (by simp)) (fun a ha => hn a (by simp [ha]))
  rw [← List.map_cons (f := negF)] at h1
  obtain ⟨m, hm, hme⟩ := List.mem_map.1 h1
  have e : leastF o l = m := by unfold leastF; rw [← hme]; exact (negF_FB (hl m hm)).2.2
  rw [e]
  refine ⟨hm, fun b hb => ?_⟩
  have h3 := h2 (negF b) (by rw [← List.map_cons (f := negF)]; exact List.mem_map.2 ⟨b, hb, rfl⟩)
  rw [← hme, (negF_FB (hl m hm)).2.1, (negF_FB (hl b hb)).2.1] at h3
  unfold leQ at h3 ⊢
  simp only [Int.neg_mul] at h3
  omega
theorem down_any {x : Int} {o : Fr} {l : List Fr} (hx : x.natAbs ≤ 50000000) (hl : ∀ a ∈ o :: l, FB a) : geB x (leastF o l) = (o :: l).any (geB x) := by
  obtain ⟨h1, h2⟩ := leastF_spec o l hl
  rw [Bool.eq_iff_iff, List.any_eq_true]
  constructor
  · intro h; exact ⟨_, h1, h⟩
  · rintro ⟨a, ha, h⟩; exact geB_mono hx (hl a ha) (hl _ h1) (h2 a ha) h

/-! ### on the way -/
/-- Each number on the way is a right fraction, with twenty letters too. -/
def Wj (i : Wk) : Prop := ∃ j h : Nat, j + h ≤ i.word.size ∧ (i.word.size = 0 ∨ 1 ≤ j) ∧ Mh j h i.x ∧ (∀ y, i.low.getLast? = some y → Mh j h y) ∧ (∀ y, i.high.getLast? = some y → Mh j h y) ∧ (h = 0 ∨ (i.low ≠ [] ∧ i.high ≠ []))
theorem wj0 : Wj wk0 := ⟨0, 0, Nat.le_refl _, .inl rfl, ⟨⟨0, rfl⟩, Nat.le_refl _⟩, fun y h => by simp [wk0] at h, fun y h => by simp [wk0] at h, .inl rfl⟩
theorem Wj.plus {i : Wk} (k : Wj i) (hw : i.word.size < 20) (hw0 : i.word.size = 0 → i.high = []) : Wj (stepP i) := by
  obtain ⟨j, h, h1, hj, h2, h3, h4, h5⟩ := k
  have hb : ∀ s, betw i.x 1 s i.high = (match i.high.getLast? with | none => w64 (i.x + w64 (1 * 1048576)) | some y => w64 ((w64 (i.x + y)).tdiv 2)) := fun s => betw_up (by omega)
  unfold Wj stepP
  simp only [size_plus, hb, List.getLast?_concat]
  cases hl : i.high.getLast? with
  | none =>
    have hn : i.high = [] := List.getLast?_eq_none_iff.1 hl
    have h0 : h = 0 := by rcases h5 with h5 | h5; exact h5; exact absurd hn h5.2
    subst h0
    exact ⟨j + 1, 0, by omega, .inr (by omega), h2.unit (by omega) (.inl rfl), fun y e => by cases e; exact h2.up, fun y e => by simp at e, .inl rfl⟩
  | some y =>
    have h6 := h4 y hl
    have hj1 : 1 ≤ j := by
      rcases hj with h | h
      · rw [hw0 h] at hl; simp at hl
      · exact h
    refine ⟨j, h + 1, by omega, .inr hj1, h2.mid h6 (by omega) (by omega), fun z e => by cases e; exact h2.half (by omega), fun z e => by cases e; exact h6.half (by omega), .inr ⟨by simp, fun e => by rw [e] at hl; simp at hl⟩⟩
theorem Wj.minus {i : Wk} (k : Wj i) (hw : i.word.size < 20) (hw0 : i.word.size = 0 → i.low = []) : Wj (stepM i) := by
  obtain ⟨j, h, h1, hj, h2, h3, h4, h5⟩ := k
  have hb : ∀ s, betw i.x (-1) i.low s = (match i.low.getLast? with | none => w64 (i.x + w64 (-1 * 1048576)) | some y => w64 ((w64 (i.x + y)).tdiv 2)) := fun s => betw_dn (by omega)
  unfold Wj stepM
  simp only [size_minus, hb, List.getLast?_concat]
  cases hl : i.low.getLast? with
  | none =>
    have hn : i.low = [] := List.getLast?_eq_none_iff.1 hl
    have h0 : h = 0 := by rcases h5 with h5 | h5; exact h5; exact absurd hn h5.1
    subst h0
    exact ⟨j + 1, 0, by omega, .inr (by omega), h2.unit (by omega) (.inr rfl), fun y e => by simp at e, fun y e => by cases e; exact h2.up, .inl rfl⟩
  | some y =>
    have h6 := h3 y hl
    have hj1 : 1 ≤ j := by
      rcases hj with h | h
      · rw [hw0 h] at hl; simp at hl
      · exact h
    refine ⟨j, h + 1, by omega, .inr hj1, h2.mid h6 (by omega) (by omega), fun z e => by cases e; exact h6.half (by omega), fun z e => by cases e; exact h2.half (by omega), .inr ⟨fun e => by rw [e] at hl; simp at hl, by simp⟩⟩
theorem pw_num2 : ∀ h : Nat, h < 20 → 2 ^ h * (20 - h) ≤ 1000000 := by decide
theorem Mh.ok2 {j h : Nat} {x : Int} (k : Mh j h x) (hw : j + h ≤ 20) (hh : h < 20) : mkOk x 1048576 = true := by
  obtain ⟨⟨m, e⟩, b⟩ := k
  have hp : (2 : Int) ^ (20 - h) * 2 ^ h = 1048576 := by
    rw [← Int.pow_add, show 20 - h + h = 20 by omega]; rfl
  have n1 := pw_num2 h (by omega)
  have n2 := pw_den h (by omega)
  have p1 := pw_pos (20 - h)
  have p2 := pw_pos h
  have hpn : ((2 : Int) ^ h) = ((2 ^ h : Nat) : Int) := by simp
  have hm : m.natAbs ≤ 2 ^ h * j := by
    have h1 : x.natAbs = (2 ^ (20 - h) : Int).natAbs * m.natAbs := by rw [e, Int.natAbs_mul]
    have h2 : (1048576 : Nat) = (2 ^ (20 - h) : Int).natAbs * 2 ^ h := by
      have := congrArg Int.natAbs hp
      rw [Int.natAbs_mul] at this
      rw [show ((2 : Int) ^ h).natAbs = 2 ^ h by rw [hpn]; rfl] at this
      exact this.symm
    rw [h1, h2, Nat.mul_assoc] at b
    exact Nat.le_of_mul_le_mul_left b (by omega)
  have hj : 2 ^ h * j ≤ 2 ^ h * (20 - h) := Nat.mul_le_mul_left _ (by omega)
  have hsm : small m (2 ^ h) := ⟨by omega, by rw [hpn]; omega⟩
  have hx : x.natAbs ≤ 100000000 := by omega
  obtain ⟨r1, r2⟩ := mk_ratio (n1 := x) (d1 := 1048576) (n2 := m) (d2 := 2 ^ h) (by omega) p2 ⟨by omega, by omega⟩ hsm (by rw [e, ← hp]; ac_rfl)
  obtain ⟨_, _, _, _, _, _, k1, k2⟩ := mk_spec p2 hsm
  refine mkOk_of (by omega) ⟨by omega, by omega⟩ (by rw [r1]; omega) (by rw [r2]; rw [hpn] at k2 ⊢; omega)
theorem Wj.ok {i : Wk} (k : Wj i) (hw : i.word.size ≤ 20) : mkOk i.x 1048576 = true := by
  obtain ⟨j, h, h1, hj, h2, _, _, h5⟩ := k
  rcases hj with hj | hj
  · exact h2.ok2 (by omega) (by omega)
  · exact h2.ok2 (by omega) (by omega)
/-- The twenty-first step counts too: nothing grows too large. -/
theorem mul_at {x a b : Int} (h : At x a b) (hx : x.natAbs ≤ 100000000) : mulOk a b 1 2 := by
  obtain ⟨g, p, e, f, k, l, m⟩ := h.spec hx
  unfold mulOk small
  rw [w64_small (by omega), w64_small (by omega)]
  omega
theorem last_ok {i : Wk} {s : Sw} (h : Rl i s) (hw : i.word.size ≤ 20) (plus : Bool) : swOk s plus := by
  obtain ⟨h1, h2, h3, h4, h5⟩ := h
  have hx : i.x.natAbs ≤ 25000000 := by omega
  cases plus
  · simp only [swOk]
    unfold Bd at h4
    split at h4
    · rw [h4, if_neg (by decide)]
      exact (sum_at h1 at_minus (by omega) (by omega)).1
    · rename_i y hy
      obtain ⟨a1, a2, a3, _⟩ := h4
      rw [a1, if_pos rfl]
      obtain ⟨k1, k2⟩ := sum_at a2 h1 (by omega) (by omega)
      exact ⟨k1, mul_at k2 (by omega)⟩
  · simp only [swOk]
    unfold Bd at h5
    split at h5
    · rw [h5, if_neg (by decide)]
      exact (sum_at h1 at_one (by omega) (by omega)).1
    · rename_i y hy
      obtain ⟨a1, a2, a3, _⟩ := h5
      rw [a1, if_pos rfl]
      obtain ⟨k1, k2⟩ := sum_at h1 a2 (by omega) (by omega)
      exact ⟨k1, mul_at k2 (by omega)⟩

end Go.Proofs.Ytllcljajlemmaaa
/-
  The simplest number of a cut: the walks of both.
-/
namespace Go.Proofs.Ytllcljajlemmaaa
open Go K
set_option linter.unusedSimpArgs false
set_option linter.unusedVariables false
set_option maxHeartbeats 1600000
set_option maxRecDepth 8000

def firstF (p : Fr → Bool) : List Fr → Int → Int
  | [], _ => -1
  | a :: r, k => if p a then k else firstF p r (k + 1)
theorem firstF_any (p : Fr → Bool) : ∀ (l : List Fr) (k : Int), 0 ≤ k → decide (0 ≤ firstF p l k) = l.any p
  | [], k, _ => by simp [firstF]
  | a :: r, k, hk => by
    have ih := firstF_any p r (k + 1) (by omega)
    cases h : p a
    · simp only [firstF, List.any_cons, h, Bool.false_eq_true, if_false, Bool.false_or]; exact ih
    · simp [firstF, h, hk]
theorem frs_split {l d r : List Fr} {e : Fr} (ha : l = d ++ e :: r) (hl : l.length ≤ 1048576) : (d.length : Int) < (l.length : Int) ∧ (l.map frE)[d.length]? = some (.agg [.int .i64 e.1, .int .i64 e.2]) ∧ IntKind.i64.wrap ((d.length : Int) + 1) = ((d ++ [e]).length : Int) := by
  have hda : l.length = d.length + (r.length + 1) := by rw [ha]; simp
  refine ⟨by omega, by rw [ha]; exact frs_get d r e, by rw [i64_id (by omega) (by omega)]; simp⟩
theorem frs_end {l d : List Fr} (ha : l = d ++ []) : ¬ ((d.length : Int) < (l.length : Int)) := by rw [ha]; simp

theorem indexFr_ok (cf : FuncId) (cap : List AV) (p : Fr → Bool) (hc : ∀ a : Fr, Ct Try.prog cf (.agg [.int .i64 a.1, .int .i64 a.2] :: cap) [] (.bool (p a)) []) (hp : pureL cap = true) (hf : okFn Try.prog cf = true) (l : List Fr) (hl : l.length ≤ 1048576) :
    Ct Try.prog 155 [.sl false (l.map frE), .fn cf cap] [] (.int .i64 (firstF p l 0)) [] := by
  refine Ct.by_ hmix [] Try.func155 rfl ?_
  simp only [run0, run1, run2, run3, run4, run5, run6, run7, run8, run9, run10, run11, run12, run13, run14, run15, run16, run17, run18, run19, run20, run21, run22, reduceCtorEq, Nat.reduceEqDiff, Nat.reduceAdd, Nat.reduceSub, Nat.reduceLeDiff, indexAddrA, indexRefA, appendA, strA, Nat.reduceMul, Nat.zero_mul, Nat.reduceMod, Int.reduceEq, Int.reduceLT, Int.reduceLE, Nat.reduceLT, Nat.lt_irrefl, Nat.reduceBEq, tys0, tys1, tys2, tys3, tys4, tys5, tys6, tys7, tys8, tys9, tys10, tys11, tys12, tys13, tys14, tys15, tys16, tys17, tys18, tys19, tys20, tys21, tys22, tys23, Try.ntmps155, Try.results155, List.length_map]
  refine AWp.loop_inv (ι := List Fr × List Fr) (fun q => ⟨[.sl false (l.map frE), .fn cf cap, .junk, .junk, .int .i64 0, .junk, .junk, .int .i64 l.length, .int .i64 q.1.length, .junk, .junk, .junk, .junk, .junk, .junk, .junk, .junk, .junk, .junk], []⟩)
    (fun q => l = q.1 ++ q.2 ∧ firstF p q.2 q.1.length = firstF p l 0) (fun q => q.2.length) ([], l) ⟨rfl, rfl⟩ ⟨by simp only [List.length_nil, Int.natCast_zero]; repeat constructor, rfl⟩ ?_
  rintro ⟨d, r⟩ ⟨ha, h2⟩
  refine W.sound hmix (E := []) ?_
  simp only at ha h2
  cases r with
  | nil =>
    have e1 := frs_end ha
    simp only [run0, run1, run2, run3, run4, run5, run6, run7, run8, run9, run10, run11, run12, run13, run14, run15, run16, run17, run18, run19, run20, run21, run22, reduceCtorEq, Nat.reduceEqDiff, Nat.reduceAdd, Nat.reduceSub, Nat.reduceLeDiff, indexAddrA, indexRefA, appendA, strA, Nat.reduceMul, Nat.zero_mul, Nat.reduceMod, Int.reduceEq, Int.reduceLT, Int.reduceLE, Nat.reduceLT, Nat.lt_irrefl, Nat.reduceBEq, tys0, tys1, tys2, tys3, tys4, tys5, tys6, tys7, tys8, tys9, tys10, tys11, tys12, tys13, tys14, tys15, tys16, tys17, tys18, tys19, tys20, tys21, tys22, tys23, Try.ntmps155, Try.results155, List.length_map, e1]
    exact Fin.eq (by rw [← h2]; rfl) rfl
  | cons e r =>
    obtain ⟨e1, e2, e5⟩ := frs_split ha hl
    simp only [run0, run1, run2, run3, run4, run5, run6, run7, run8, run9, run10, run11, run12, run13, run14, run15, run16, run17, run18, run19, run20, run21, run22, reduceCtorEq, Nat.reduceEqDiff, Nat.reduceAdd, Nat.reduceSub, Nat.reduceLeDiff, indexAddrA, indexRefA, appendA, strA, Nat.reduceMul, Nat.zero_mul, Nat.reduceMod, Int.reduceEq, Int.reduceLT, Int.reduceLE, Nat.reduceLT, Nat.lt_irrefl, Nat.reduceBEq, tys0, tys1, tys2, tys3, tys4, tys5, tys6, tys7, tys8, tys9, tys10, tys11, tys12, tys13, tys14, tys15, tys16, tys17, tys18, tys19, tys20, tys21, tys22, tys23, Try.ntmps155, Try.results155, List.length_map, e1, e2, Int.toNat_natCast, Int.natCast_nonneg]
    refine RunL.callcp rfl rfl rfl hf rfl (hc e) (by show pureL ([_] ++ cap) = true; simp only [List.singleton_append, pureL, pureB, hp, Bool.and_self]) rfl ?_
    simp only [run0, run1, run2, run3, run4, run5, run6, run7, run8, run9, run10, run11, run12, run13, run14, run15, run16, run17, run18, run19, run20, run21, run22, reduceCtorEq, Nat.reduceEqDiff, Nat.reduceAdd, Nat.reduceSub, Nat.reduceLeDiff, indexAddrA, indexRefA, appendA, strA, Nat.reduceMul, Nat.zero_mul, Nat.reduceMod, Int.reduceEq, Int.reduceLT, Int.reduceLE, Nat.reduceLT, Nat.lt_irrefl, Nat.reduceBEq, tys0, tys1, tys2, tys3, tys4, tys5, tys6, tys7, tys8, tys9, tys10, tys11, tys12, tys13, tys14, tys15, tys16, tys17, tys18, tys19, tys20, tys21, tys22, tys23, Try.ntmps155, Try.results155]
    simp only [firstF] at h2
    cases hd : p e
    · rw [hd] at h2
      simp only [run0, run1, run2, run3, run4, run5, run6, run7, run8, run9, run10, run11, run12, run13, run14, run15, run16, run17, run18, run19, run20, run21, run22, reduceCtorEq, Nat.reduceEqDiff, Nat.reduceAdd, Nat.reduceSub, Nat.reduceLeDiff, indexAddrA, indexRefA, appendA, strA, Nat.reduceMul, Nat.zero_mul, Nat.reduceMod, Int.reduceEq, Int.reduceLT, Int.reduceLE, Nat.reduceLT, Nat.lt_irrefl, Nat.reduceBEq, tys0, tys1, tys2, tys3, tys4, tys5, tys6, tys7, tys8, tys9, tys10, tys11, tys12, tys13, tys14, tys15, tys16, tys17, tys18, tys19, tys20, tys21, tys22, tys23, Try.ntmps155, Try.results155, hd, e5]
      exact ⟨(d ++ [e], r), ⟨by simp [ha], by simp only [List.length_append, List.length_cons, List.length_nil]; simpa using h2⟩, by simp, by simp only [List.length_append, List.length_cons, List.length_nil]; repeat constructor⟩
    · rw [hd] at h2
      simp only [run0, run1, run2, run3, run4, run5, run6, run7, run8, run9, run10, run11, run12, run13, run14, run15, run16, run17, run18, run19, run20, run21, run22, reduceCtorEq, Nat.reduceEqDiff, Nat.reduceAdd, Nat.reduceSub, Nat.reduceLeDiff, indexAddrA, indexRefA, appendA, strA, Nat.reduceMul, Nat.zero_mul, Nat.reduceMod, Int.reduceEq, Int.reduceLT, Int.reduceLE, Nat.reduceLT, Nat.lt_irrefl, Nat.reduceBEq, tys0, tys1, tys2, tys3, tys4, tys5, tys6, tys7, tys8, tys9, tys10, tys11, tys12, tys13, tys14, tys15, tys16, tys17, tys18, tys19, tys20, tys21, tys22, tys23, Try.ntmps155, Try.results155, hd]
      exact Fin.eq (by rw [← h2]; simp) rfl
theorem containsFr_ok (cf : FuncId) (cap : List AV) (p : Fr → Bool) (hc : ∀ a : Fr, Ct Try.prog cf (.agg [.int .i64 a.1, .int .i64 a.2] :: cap) [] (.bool (p a)) []) (hp : pureL cap = true) (hf : okFn Try.prog cf = true) (l : List Fr) (hl : l.length ≤ 1048576) :
    Ct Try.prog 128 [.sl false (l.map frE), .fn cf cap] [] (.bool (l.any p)) [] := by
  have pl := frs_pure l
  refine Ct.by_ hmix [] Try.func128 rfl ?_
  simp only [run0, run1, run2, run3, run4, run5, run6, run7, run8, run9, run10, run11, run12, run13, run14, run15, run16, run17, run18, run19, run20, run21, run22, reduceCtorEq, Nat.reduceEqDiff, Nat.reduceAdd, Nat.reduceSub, Nat.reduceLeDiff, indexAddrA, indexRefA, appendA, strA, Nat.reduceMul, Nat.zero_mul, Nat.reduceMod, Int.reduceEq, Int.reduceLT, Int.reduceLE, Nat.reduceLT, Nat.lt_irrefl, Nat.reduceBEq, tys0, tys1, tys2, tys3, tys4, tys5, tys6, tys7, tys8, tys9, tys10, tys11, tys12, tys13, tys14, tys15, tys16, tys17, tys18, tys19, tys20, tys21, tys22, tys23, Try.ntmps128, Try.results128]
  refine RunL.callp rfl rfl ok_f155 (indexFr_ok cf cap p hc hp hf l hl) (by simp only [pureL, pureB, pl, hp, Bool.and_self]) rfl ?_
  simp only [run0, run1, run2, run3, run4, run5, run6, run7, run8, run9, run10, run11, run12, run13, run14, run15, run16, run17, run18, run19, run20, run21, run22, reduceCtorEq, Nat.reduceEqDiff, Nat.reduceAdd, Nat.reduceSub, Nat.reduceLeDiff, indexAddrA, indexRefA, appendA, strA, Nat.reduceMul, Nat.zero_mul, Nat.reduceMod, Int.reduceEq, Int.reduceLT, Int.reduceLE, Nat.reduceLT, Nat.lt_irrefl, Nat.reduceBEq, tys0, tys1, tys2, tys3, tys4, tys5, tys6, tys7, tys8, tys9, tys10, tys11, tys12, tys13, tys14, tys15, tys16, tys17, tys18, tys19, tys20, tys21, tys22, tys23, Try.ntmps128, Try.results128]
  exact Fin.eq (by rw [firstF_any p l 0 (by omega)]) rfl

theorem closOk_ok (a : Fr) : Ct Try.prog 129 [.agg [.int .i64 a.1, .int .i64 a.2]] [] (.bool (!goodF a)) [] := by
  refine Ct.by_ hmix [] Try.func129 rfl ?_
  simp only [run0, run1, run2, run3, run4, run5, run6, run7, run8, run9, run10, run11, run12, run13, run14, run15, run16, run17, run18, run19, run20, run21, run22, reduceCtorEq, Nat.reduceEqDiff, Nat.reduceAdd, Nat.reduceSub, Nat.reduceLeDiff, indexAddrA, indexRefA, appendA, strA, Nat.reduceMul, Nat.zero_mul, Nat.reduceMod, Int.reduceEq, Int.reduceLT, Int.reduceLE, Nat.reduceLT, Nat.lt_irrefl, Nat.reduceBEq, tys0, tys1, tys2, tys3, tys4, tys5, tys6, tys7, tys8, tys9, tys10, tys11, tys12, tys13, tys14, tys15, tys16, tys17, tys18, tys19, tys20, tys21, tys22, tys23, Try.ntmps129, Try.results129]
  refine RunL.callp rfl rfl ok_f86 (good_ok a.1 a.2) (by first | rfl | simp only [pureL, pureB, Bool.and_self, Bool.and_true, Bool.true_and]) rfl ?_
  simp only [run0, run1, run2, run3, run4, run5, run6, run7, run8, run9, run10, run11, run12, run13, run14, run15, run16, run17, run18, run19, run20, run21, run22, reduceCtorEq, Nat.reduceEqDiff, Nat.reduceAdd, Nat.reduceSub, Nat.reduceLeDiff, indexAddrA, indexRefA, appendA, strA, Nat.reduceMul, Nat.zero_mul, Nat.reduceMod, Int.reduceEq, Int.reduceLT, Int.reduceLE, Nat.reduceLT, Nat.lt_irrefl, Nat.reduceBEq, tys0, tys1, tys2, tys3, tys4, tys5, tys6, tys7, tys8, tys9, tys10, tys11, tys12, tys13, tys14, tys15, tys16, tys17, tys18, tys19, tys20, tys21, tys22, tys23, Try.ntmps129, Try.results129]
  exact Fin.eq rfl rfl
theorem fractionsOk_ok (l : List Fr) (hl : l.length ≤ 1048576) : Ct Try.prog 81 [.sl false (l.map frE)] [] (.bool (goodL l)) [] := by
  have pl := frs_pure l
  refine Ct.by_ hmix [] Try.func81 rfl ?_
  by_cases h : l.length ≤ 20
  · have e1 : (l.length : Int) ≤ 20 := by omega
    simp only [run0, run1, run2, run3, run4, run5, run6, run7, run8, run9, run10, run11, run12, run13, run14, run15, run16, run17, run18, run19, run20, run21, run22, reduceCtorEq, Nat.reduceEqDiff, Nat.reduceAdd, Nat.reduceSub, Nat.reduceLeDiff, indexAddrA, indexRefA, appendA, strA, Nat.reduceMul, Nat.zero_mul, Nat.reduceMod, Int.reduceEq, Int.reduceLT, Int.reduceLE, Nat.reduceLT, Nat.lt_irrefl, Nat.reduceBEq, tys0, tys1, tys2, tys3, tys4, tys5, tys6, tys7, tys8, tys9, tys10, tys11, tys12, tys13, tys14, tys15, tys16, tys17, tys18, tys19, tys20, tys21, tys22, tys23, Try.ntmps81, Try.results81, List.length_map, e1]
    refine RunL.callp rfl rfl ok_f128 (containsFr_ok 129 [] (fun a => !goodF a) closOk_ok rfl ok_f129 l hl) (by simp only [pureL, pureB, pl, Bool.and_self]) rfl ?_
    simp only [run0, run1, run2, run3, run4, run5, run6, run7, run8, run9, run10, run11, run12, run13, run14, run15, run16, run17, run18, run19, run20, run21, run22, reduceCtorEq, Nat.reduceEqDiff, Nat.reduceAdd, Nat.reduceSub, Nat.reduceLeDiff, indexAddrA, indexRefA, appendA, strA, Nat.reduceMul, Nat.zero_mul, Nat.reduceMod, Int.reduceEq, Int.reduceLT, Int.reduceLE, Nat.reduceLT, Nat.lt_irrefl, Nat.reduceBEq, tys0, tys1, tys2, tys3, tys4, tys5, tys6, tys7, tys8, tys9, tys10, tys11, tys12, tys13, tys14, tys15, tys16, tys17, tys18, tys19, tys20, tys21, tys22, tys23, Try.ntmps81, Try.results81]
    exact Fin.eq (by simp [goodL, h, List.all_eq_not_any_not]) rfl
  · have e1 : ¬ (l.length : Int) ≤ 20 := by omega
    simp only [run0, run1, run2, run3, run4, run5, run6, run7, run8, run9, run10, run11, run12, run13, run14, run15, run16, run17, run18, run19, run20, run21, run22, reduceCtorEq, Nat.reduceEqDiff, Nat.reduceAdd, Nat.reduceSub, Nat.reduceLeDiff, indexAddrA, indexRefA, appendA, strA, Nat.reduceMul, Nat.zero_mul, Nat.reduceMod, Int.reduceEq, Int.reduceLT, Int.reduceLE, Nat.reduceLT, Nat.lt_irrefl, Nat.reduceBEq, tys0, tys1, tys2, tys3, tys4, tys5, tys6, tys7, tys8, tys9, tys10, tys11, tys12, tys13, tys14, tys15, tys16, tys17, tys18, tys19, tys20, tys21, tys22, tys23, Try.ntmps81, Try.results81, List.length_map, e1]
    exact Fin.eq (by simp [goodL, h]) rfl
structure FxS where
  d : List Fr
  r : List Fr
  X : List AObj
theorem shList_ok (l : List Fr) (hl : l.length ≤ 1048576) : Ct Try.prog 76 [.sl false (l.map frE), .int .i64 20] [] (.bool (goodL l)) [] := by
  refine Ct.by_ hmix [] Try.func76 rfl ?_
  simp only [run0, run1, run2, run3, run4, run5, run6, run7, run8, run9, run10, run11, run12, run13, run14, run15, run16, run17, run18, run19, run20, run21, run22, reduceCtorEq, Nat.reduceEqDiff, Nat.reduceAdd, Nat.reduceSub, Nat.reduceLeDiff, indexAddrA, indexRefA, appendA, strA, Nat.reduceMul, Nat.zero_mul, Nat.reduceMod, Int.reduceEq, Int.reduceLT, Int.reduceLE, Nat.reduceLT, Nat.lt_irrefl, Nat.reduceBEq, tys0, tys1, tys2, tys3, tys4, tys5, tys6, tys7, tys8, tys9, tys10, tys11, tys12, tys13, tys14, tys15, tys16, tys17, tys18, tys19, tys20, tys21, tys22, tys23, Try.ntmps76, Try.results76, List.length_map]
  refine AWp.loop_inv (ι := FxS) (fun q => ⟨[.sl false (l.map frE), .int .i64 20, .junk, .junk, .bool false, .junk, .junk, .sl false (l.map frE), .int .i64 l.length, .int .i64 q.d.length, .junk, .junk, .junk, .junk, .junk, .junk, .junk, .junk, .junk, .junk, .junk], q.X⟩)
    (fun q => l = q.d ++ q.r ∧ q.d.all goodF = true) (fun q => q.r.length) ⟨[], l, []⟩ ⟨rfl, rfl⟩ ⟨by simp only [List.length_nil, Int.natCast_zero]; repeat constructor, rfl⟩ ?_
  rintro ⟨d, r, X⟩ ⟨ha, h2⟩
  refine W.sound hmix (E := []) ?_
  simp only at ha h2
  cases r with
  | nil =>
    have e1 := frs_end ha
    rw [List.append_nil] at ha
    subst ha
    by_cases h : l.length ≤ 20
    · have e2 : (l.length : Int) ≤ 20 := by omega
      simp only [run0, run1, run2, run3, run4, run5, run6, run7, run8, run9, run10, run11, run12, run13, run14, run15, run16, run17, run18, run19, run20, run21, run22, reduceCtorEq, Nat.reduceEqDiff, Nat.reduceAdd, Nat.reduceSub, Nat.reduceLeDiff, indexAddrA, indexRefA, appendA, strA, Nat.reduceMul, Nat.zero_mul, Nat.reduceMod, Int.reduceEq, Int.reduceLT, Int.reduceLE, Nat.reduceLT, Nat.lt_irrefl, Nat.reduceBEq, tys0, tys1, tys2, tys3, tys4, tys5, tys6, tys7, tys8, tys9, tys10, tys11, tys12, tys13, tys14, tys15, tys16, tys17, tys18, tys19, tys20, tys21, tys22, tys23, Try.ntmps76, Try.results76, List.length_map, e1, e2]
      exact Fin.eq (by simp only [goodL, h, h2]; rfl) rfl
    · have e2 : ¬ (l.length : Int) ≤ 20 := by omega
      simp only [run0, run1, run2, run3, run4, run5, run6, run7, run8, run9, run10, run11, run12, run13, run14, run15, run16, run17, run18, run19, run20, run21, run22, reduceCtorEq, Nat.reduceEqDiff, Nat.reduceAdd, Nat.reduceSub, Nat.reduceLeDiff, indexAddrA, indexRefA, appendA, strA, Nat.reduceMul, Nat.zero_mul, Nat.reduceMod, Int.reduceEq, Int.reduceLT, Int.reduceLE, Nat.reduceLT, Nat.lt_irrefl, Nat.reduceBEq, tys0, tys1, tys2, tys3, tys4, tys5, tys6, tys7, tys8, tys9, tys10, tys11, tys12, tys13, tys14, tys15, tys16, tys17, tys18, tys19, tys20, tys21, tys22, tys23, Try.ntmps76, Try.results76, List.length_map, e1, e2]
      exact Fin.eq (by simp [goodL, h]) rfl
  | cons e r =>
    obtain ⟨e1, e2, e5⟩ := frs_split ha hl
    simp only [run0, run1, run2, run3, run4, run5, run6, run7, run8, run9, run10, run11, run12, run13, run14, run15, run16, run17, run18, run19, run20, run21, run22, reduceCtorEq, Nat.reduceEqDiff, Nat.reduceAdd, Nat.reduceSub, Nat.reduceLeDiff, indexAddrA, indexRefA, appendA, strA, Nat.reduceMul, Nat.zero_mul, Nat.reduceMod, Int.reduceEq, Int.reduceLT, Int.reduceLE, Nat.reduceLT, Nat.lt_irrefl, Nat.reduceBEq, tys0, tys1, tys2, tys3, tys4, tys5, tys6, tys7, tys8, tys9, tys10, tys11, tys12, tys13, tys14, tys15, tys16, tys17, tys18, tys19, tys20, tys21, tys22, tys23, Try.ntmps76, Try.results76, List.length_map, e1, e2, Int.toNat_natCast, Int.natCast_nonneg, List.getElem?_append_right, Nat.sub_self]
    refine RunL.callp rfl rfl ok_f116 (shGood_ok e.1 e.2) (by first | rfl | simp only [pureL, pureB, Bool.and_self, Bool.and_true, Bool.true_and]) rfl ?_
    cases hg : goodB e.1 e.2
    · simp only [run0, run1, run2, run3, run4, run5, run6, run7, run8, run9, run10, run11, run12, run13, run14, run15, run16, run17, run18, run19, run20, run21, run22, reduceCtorEq, Nat.reduceEqDiff, Nat.reduceAdd, Nat.reduceSub, Nat.reduceLeDiff, indexAddrA, indexRefA, appendA, strA, Nat.reduceMul, Nat.zero_mul, Nat.reduceMod, Int.reduceEq, Int.reduceLT, Int.reduceLE, Nat.reduceLT, Nat.lt_irrefl, Nat.reduceBEq, tys0, tys1, tys2, tys3, tys4, tys5, tys6, tys7, tys8, tys9, tys10, tys11, tys12, tys13, tys14, tys15, tys16, tys17, tys18, tys19, tys20, tys21, tys22, tys23, Try.ntmps76, Try.results76, hg]
      exact Fin.eq (by rw [ha]; simp [goodL, goodF, hg]) rfl
    · simp only [run0, run1, run2, run3, run4, run5, run6, run7, run8, run9, run10, run11, run12, run13, run14, run15, run16, run17, run18, run19, run20, run21, run22, reduceCtorEq, Nat.reduceEqDiff, Nat.reduceAdd, Nat.reduceSub, Nat.reduceLeDiff, indexAddrA, indexRefA, appendA, strA, Nat.reduceMul, Nat.zero_mul, Nat.reduceMod, Int.reduceEq, Int.reduceLT, Int.reduceLE, Nat.reduceLT, Nat.lt_irrefl, Nat.reduceBEq, tys0, tys1, tys2, tys3, tys4, tys5, tys6, tys7, tys8, tys9, tys10, tys11, tys12, tys13, tys14, tys15, tys16, tys17, tys18, tys19, tys20, tys21, tys22, tys23, Try.ntmps76, Try.results76, hg, e5]
      exact ⟨⟨d ++ [e], r, _⟩, ⟨by simp [ha], by simp [h2, goodF, hg]⟩, by simp, by simp only [List.length_append, List.length_cons, List.length_nil]; repeat constructor, rfl⟩

end Go.Proofs.Ytllcljajlemmaaa
/-
  The simplest number of a cut: the program's function.
-/
namespace Go.Proofs.Ytllcljajlemmaaa
open Go K
set_option linter.unusedSimpArgs false
set_option linter.unusedVariables false
set_option maxHeartbeats 1600000
set_option maxRecDepth 8000

theorem closCut_ok (l r : List Fr) (hl : l.length ≤ 1048576) (hr : r.length ≤ 1048576) (x : Int) : Ct Try.prog 130 [.int .i64 x, .rptr (.agg [.sl false (l.map frE)]) 0, .rptr (.agg [.sl false (r.map frE)]) 0] [] (.int .i64 (cutS l r x)) [] := by
  refine Ct.by_ hmix [] Try.func130 rfl ?_
  simp only [run0, run1, run2, run3, run4, run5, run6, run7, run8, run9, run10, run11, run12, run13, run14, run15, run16, run17, run18, run19, run20, run21, run22, reduceCtorEq, Nat.reduceEqDiff, Nat.reduceAdd, Nat.reduceSub, Nat.reduceLeDiff, indexAddrA, indexRefA, appendA, strA, Nat.reduceMul, Nat.zero_mul, Nat.reduceMod, Int.reduceEq, Int.reduceLT, Int.reduceLE, Nat.reduceLT, Nat.lt_irrefl, Nat.reduceBEq, tys0, tys1, tys2, tys3, tys4, tys5, tys6, tys7, tys8, tys9, tys10, tys11, tys12, tys13, tys14, tys15, tys16, tys17, tys18, tys19, tys20, tys21, tys22, tys23, Try.ntmps130, Try.results130, List.length_map]
  refine AWp.loop_inv (ι := FxS) (fun q => ⟨[.int .i64 x, .rptr (.agg [.sl false (l.map frE)]) 0, .rptr (.agg [.sl false (r.map frE)]) 0, .junk, .int .i64 0, .junk, .junk, .junk, .junk, .sl false (l.map frE), .int .i64 l.length, .int .i64 q.d.length, .junk, .junk, .junk, .junk, .junk, .junk, .junk, .junk, .junk, .junk, .junk, .junk, .junk, .junk, .junk, .junk, .junk, .junk, .junk, .junk, .junk, .junk, .junk, .junk, .junk, .junk, .junk], q.X⟩)
    (fun q => l = q.d ++ q.r ∧ q.d.any (leB x) = false) (fun q => q.r.length) ⟨[], l, []⟩ ⟨rfl, rfl⟩ ⟨by simp only [List.length_nil, Int.natCast_zero]; repeat constructor, rfl⟩ ?_
  rintro ⟨d, q, X⟩ ⟨ha, h2⟩
  refine W.sound hmix (E := []) ?_
  simp only at ha h2
  cases q with
  | nil =>
    have e1 := frs_end ha
    rw [List.append_nil] at ha
    subst ha
    simp only [run0, run1, run2, run3, run4, run5, run6, run7, run8, run9, run10, run11, run12, run13, run14, run15, run16, run17, run18, run19, run20, run21, run22, reduceCtorEq, Nat.reduceEqDiff, Nat.reduceAdd, Nat.reduceSub, Nat.reduceLeDiff, indexAddrA, indexRefA, appendA, strA, Nat.reduceMul, Nat.zero_mul, Nat.reduceMod, Int.reduceEq, Int.reduceLT, Int.reduceLE, Nat.reduceLT, Nat.lt_irrefl, Nat.reduceBEq, tys0, tys1, tys2, tys3, tys4, tys5, tys6, tys7, tys8, tys9, tys10, tys11, tys12, tys13, tys14, tys15, tys16, tys17, tys18, tys19, tys20, tys21, tys22, tys23, Try.ntmps130, Try.results130, List.length_map, e1]
    refine AWp.loop_inv (ι := FxS) (fun q => ⟨[.int .i64 x, .rptr (.agg [.sl false (l.map frE)]) 0, .rptr (.agg [.sl false (r.map frE)]) 0, .junk, .int .i64 0, .junk, .junk, .junk, .junk, .junk, .junk, .junk, .junk, .junk, .junk, .junk, .junk, .junk, .junk, .junk, .junk, .junk, .junk, .junk, .sl false (r.map frE), .int .i64 r.length, .int .i64 q.d.length, .junk, .junk, .junk, .junk, .junk, .junk, .junk, .junk, .junk, .junk, .junk, .junk], q.X⟩)
      (fun q => r = q.d ++ q.r ∧ q.d.any (geB x) = false) (fun q => q.r.length) ⟨[], r, X⟩ ⟨rfl, rfl⟩ ⟨by simp only [List.length_nil, Int.natCast_zero]; repeat constructor, rfl⟩ ?_
    rintro ⟨d, q, X⟩ ⟨ha, h3⟩
    refine W.sound hmix (E := []) ?_
    simp only at ha h3
    cases q with
    | nil =>
      have e1 := frs_end ha
      rw [List.append_nil] at ha
      subst ha
      simp only [run0, run1, run2, run3, run4, run5, run6, run7, run8, run9, run10, run11, run12, run13, run14, run15, run16, run17, run18, run19, run20, run21, run22, reduceCtorEq, Nat.reduceEqDiff, Nat.reduceAdd, Nat.reduceSub, Nat.reduceLeDiff, indexAddrA, indexRefA, appendA, strA, Nat.reduceMul, Nat.zero_mul, Nat.reduceMod, Int.reduceEq, Int.reduceLT, Int.reduceLE, Nat.reduceLT, Nat.lt_irrefl, Nat.reduceBEq, tys0, tys1, tys2, tys3, tys4, tys5, tys6, tys7, tys8, tys9, tys10, tys11, tys12, tys13, tys14, tys15, tys16, tys17, tys18, tys19, tys20, tys21, tys22, tys23, Try.ntmps130, Try.results130, List.length_map, e1]
      exact Fin.eq (by simp [cutS, h2, h3]) rfl
    | cons e q =>
      obtain ⟨e1, e2, e5⟩ := frs_split ha hr
      by_cases hc : w64 (e.1 * 1048576) ≤ w64 (x * e.2)
      · have hg : geB x e = true := by simp [geB, hc]
        simp only [w64] at hc
        simp only [run0, run1, run2, run3, run4, run5, run6, run7, run8, run9, run10, run11, run12, run13, run14, run15, run16, run17, run18, run19, run20, run21, run22, reduceCtorEq, Nat.reduceEqDiff, Nat.reduceAdd, Nat.reduceSub, Nat.reduceLeDiff, indexAddrA, indexRefA, appendA, strA, Nat.reduceMul, Nat.zero_mul, Nat.reduceMod, Int.reduceEq, Int.reduceLT, Int.reduceLE, Nat.reduceLT, Nat.lt_irrefl, Nat.reduceBEq, tys0, tys1, tys2, tys3, tys4, tys5, tys6, tys7, tys8, tys9, tys10, tys11, tys12, tys13, tys14, tys15, tys16, tys17, tys18, tys19, tys20, tys21, tys22, tys23, Try.ntmps130, Try.results130, List.length_map, e1, e2, hc, Int.toNat_natCast, Int.natCast_nonneg, List.getElem?_append_right, Nat.sub_self]
        exact Fin.eq (by rw [ha]; simp [cutS, h2, hg]) rfl
      · have hg : geB x e = false := by simp [geB, hc]
        simp only [w64] at hc
        simp only [run0, run1, run2, run3, run4, run5, run6, run7, run8, run9, run10, run11, run12, run13, run14, run15, run16, run17, run18, run19, run20, run21, run22, reduceCtorEq, Nat.reduceEqDiff, Nat.reduceAdd, Nat.reduceSub, Nat.reduceLeDiff, indexAddrA, indexRefA, appendA, strA, Nat.reduceMul, Nat.zero_mul, Nat.reduceMod, Int.reduceEq, Int.reduceLT, Int.reduceLE, Nat.reduceLT, Nat.lt_irrefl, Nat.reduceBEq, tys0, tys1, tys2, tys3, tys4, tys5, tys6, tys7, tys8, tys9, tys10, tys11, tys12, tys13, tys14, tys15, tys16, tys17, tys18, tys19, tys20, tys21, tys22, tys23, Try.ntmps130, Try.results130, List.length_map, e1, e2, e5, hc, Int.toNat_natCast, Int.natCast_nonneg, List.getElem?_append_right, Nat.sub_self]
        exact ⟨⟨d ++ [e], q, _⟩, ⟨by simp [ha], by simp [h3, hg]⟩, by simp, by simp only [List.length_append, List.length_cons, List.length_nil]; repeat constructor, rfl⟩
  | cons e q =>
    obtain ⟨e1, e2, e5⟩ := frs_split ha hl
    by_cases hc : w64 (x * e.2) ≤ w64 (e.1 * 1048576)
    · have hg : leB x e = true := by simp [leB, hc]
      simp only [w64] at hc
      simp only [run0, run1, run2, run3, run4, run5, run6, run7, run8, run9, run10, run11, run12, run13, run14, run15, run16, run17, run18, run19, run20, run21, run22, reduceCtorEq, Nat.reduceEqDiff, Nat.reduceAdd, Nat.reduceSub, Nat.reduceLeDiff, indexAddrA, indexRefA, appendA, strA, Nat.reduceMul, Nat.zero_mul, Nat.reduceMod, Int.reduceEq, Int.reduceLT, Int.reduceLE, Nat.reduceLT, Nat.lt_irrefl, Nat.reduceBEq, tys0, tys1, tys2, tys3, tys4, tys5, tys6, tys7, tys8, tys9, tys10, tys11, tys12, tys13, tys14, tys15, tys16, tys17, tys18, tys19, tys20, tys21, tys22, tys23, Try.ntmps130, Try.results130, List.length_map, e1, e2, hc, Int.toNat_natCast, Int.natCast_nonneg, List.getElem?_append_right, Nat.sub_self]
      exact Fin.eq (by rw [ha]; simp [cutS, hg]) rfl
    · have hg : leB x e = false := by simp [leB, hc]
      simp only [w64] at hc
      simp only [run0, run1, run2, run3, run4, run5, run6, run7, run8, run9, run10, run11, run12, run13, run14, run15, run16, run17, run18, run19, run20, run21, run22, reduceCtorEq, Nat.reduceEqDiff, Nat.reduceAdd, Nat.reduceSub, Nat.reduceLeDiff, indexAddrA, indexRefA, appendA, strA, Nat.reduceMul, Nat.zero_mul, Nat.reduceMod, Int.reduceEq, Int.reduceLT, Int.reduceLE, Nat.reduceLT, Nat.lt_irrefl, Nat.reduceBEq, tys0, tys1, tys2, tys3, tys4, tys5, tys6, tys7, tys8, tys9, tys10, tys11, tys12, tys13, tys14, tys15, tys16, tys17, tys18, tys19, tys20, tys21, tys22, tys23, Try.ntmps130, Try.results130, List.length_map, e1, e2, e5, hc, Int.toNat_natCast, Int.natCast_nonneg, List.getElem?_append_right, Nat.sub_self]
      exact ⟨⟨d ++ [e], q, _⟩, ⟨by simp [ha], by simp [h2, hg]⟩, by simp, by simp only [List.length_append, List.length_cons, List.length_nil]; repeat constructor, rfl⟩
theorem closLe_ok (x : Int) (a : Fr) : Ct Try.prog 131 [.agg [.int .i64 a.1, .int .i64 a.2], .rptr (.agg [.int .i64 x]) 0] [] (.bool (leB x a)) [] := by
  refine Ct.by_ hmix [] Try.func131 rfl ?_
  simp only [run0, run1, run2, run3, run4, run5, run6, run7, run8, run9, run10, run11, run12, run13, run14, run15, run16, run17, run18, run19, run20, run21, run22, reduceCtorEq, Nat.reduceEqDiff, Nat.reduceAdd, Nat.reduceSub, Nat.reduceLeDiff, indexAddrA, indexRefA, appendA, strA, Nat.reduceMul, Nat.zero_mul, Nat.reduceMod, Int.reduceEq, Int.reduceLT, Int.reduceLE, Nat.reduceLT, Nat.lt_irrefl, Nat.reduceBEq, tys0, tys1, tys2, tys3, tys4, tys5, tys6, tys7, tys8, tys9, tys10, tys11, tys12, tys13, tys14, tys15, tys16, tys17, tys18, tys19, tys20, tys21, tys22, tys23, Try.ntmps131, Try.results131]
  exact Fin.eq rfl rfl
theorem closGe_ok (x : Int) (a : Fr) : Ct Try.prog 132 [.agg [.int .i64 a.1, .int .i64 a.2], .rptr (.agg [.int .i64 x]) 0] [] (.bool (geB x a)) [] := by
  refine Ct.by_ hmix [] Try.func132 rfl ?_
  simp only [run0, run1, run2, run3, run4, run5, run6, run7, run8, run9, run10, run11, run12, run13, run14, run15, run16, run17, run18, run19, run20, run21, run22, reduceCtorEq, Nat.reduceEqDiff, Nat.reduceAdd, Nat.reduceSub, Nat.reduceLeDiff, indexAddrA, indexRefA, appendA, strA, Nat.reduceMul, Nat.zero_mul, Nat.reduceMod, Int.reduceEq, Int.reduceLT, Int.reduceLE, Nat.reduceLT, Nat.lt_irrefl, Nat.reduceBEq, tys0, tys1, tys2, tys3, tys4, tys5, tys6, tys7, tys8, tys9, tys10, tys11, tys12, tys13, tys14, tys15, tys16, tys17, tys18, tys19, tys20, tys21, tys22, tys23, Try.ntmps132, Try.results132]
  exact Fin.eq rfl rfl

theorem wkRun_word (f : Int → Int) : ∀ (k : Nat) (i : Wk), i.word.size ≤ 20 → (wkRun f k i).word.size ≤ 20
  | 0, i, h => h
  | k + 1, i, h => by
    unfold wkRun
    split
    · exact h
    · rename_i hn
      split
      · exact wkRun_word f k _ (by simp only [size_plus]; omega)
      · exact wkRun_word f k _ (by simp only [size_minus]; omega)
theorem cut_small (l r : List Fr) : (cutX l r).natAbs ≤ 50000000 ∧ ∃ n y, (wkRun (cutS l r) 21 wk0).nums = n ++ [y] ∧ n.length ≤ 1000 ∧ cutX l r = y := by
  obtain ⟨n, y, hl⟩ := wkRun_last (cutS l r) 21 wk0 (.inl (by omega))
  have hsz := wkRun_size (cutS l r) 21 wk0
  have hy : cutX l r = y := by unfold cutX; rw [hl]; simp
  rw [hl] at hsz
  have h1 : n.length ≤ 1000 := by simp [wk0] at hsz; omega
  refine ⟨?_, n, y, hl, h1, hy⟩
  have h2 := wkRun_at (cutS l r) (cutS_val l r) (wkRun (cutS l r) 21 wk0).word 21 0 rfl (by omega)
  have h3 := h2 rfl
  have e0 : atWk (wkRun (cutS l r) 21 wk0).word 0 = wk0 := rfl
  rw [e0] at h3
  have hws : (wkRun (cutS l r) 21 wk0).word.size ≤ 20 := wkRun_word _ _ _ (by decide)
  have hl2 := hl
  rw [h3] at hl2
  simp only at hl2
  have hx : y = (atWk (wkRun (cutS l r) 21 wk0).word (wkRun (cutS l r) 21 wk0).word.size).x := by
    have := congrArg List.getLast? hl2
    simp at this
    exact this.symm
  rw [hy, hx]
  exact atWk_small _ _ hws

theorem simplest_ok (l r : List Fr) (hl : l.length ≤ 1048576) (hr : r.length ≤ 1048576) : Ct Try.prog 84 [.sl false (l.map frE), .sl false (r.map frE)] [] (simR l r) [] := by
  have pl := frs_pure l
  have pr := frs_pure r
  obtain ⟨hx, n, y, hn, hnl, hxy⟩ := cut_small l r
  have hw := walk_ok 130 [.rptr (.agg [.sl false (l.map frE)]) 0, .rptr (.agg [.sl false (r.map frE)]) 0] (cutS l r) (closCut_ok l r hl hr) (by simp only [pureL, pureB, pl, pr, Bool.and_self]) ok_f130
  have hbad : cutBad l r = (l.any (leB (cutX l r)) || r.any (geB (cutX l r))) := rfl
  have h2 := last_wrap hnl
  have h3 : ((n.length : Int) < ((n.length + 1 : Nat) : Int)) := by omega
  unfold simR
  rw [hbad]
  rw [hxy] at hx ⊢
  clear hxy hbad
  generalize wkRun (cutS l r) 21 wk0 = j at *
  obtain ⟨nums, word, low, high, x⟩ := j
  simp only at hn
  subst hn
  refine Ct.by_ hmix [] Try.func84 rfl ?_
  simp only [run0, run1, run2, run3, run4, run5, run6, run7, run8, run9, run10, run11, run12, run13, run14, run15, run16, run17, run18, run19, run20, run21, run22, reduceCtorEq, Nat.reduceEqDiff, Nat.reduceAdd, Nat.reduceSub, Nat.reduceLeDiff, indexAddrA, indexRefA, appendA, strA, Nat.reduceMul, Nat.zero_mul, Nat.reduceMod, Int.reduceEq, Int.reduceLT, Int.reduceLE, Nat.reduceLT, Nat.lt_irrefl, Nat.reduceBEq, tys0, tys1, tys2, tys3, tys4, tys5, tys6, tys7, tys8, tys9, tys10, tys11, tys12, tys13, tys14, tys15, tys16, tys17, tys18, tys19, tys20, tys21, tys22, tys23, Try.ntmps84, Try.results84]
  refine RunL.lendOwn (ys := [.fn 130 [.rptr (.agg [.sl false (l.map frE)]) 0, .rptr (.agg [.sl false (r.map frE)]) 0]]) rfl rfl rfl ok_f119 rfl ?_ hw rfl (by simp [wkL, okO, noOwn, ints, AV.cells, flatB]) ?_
  · simp [St.ev, lendA, pureL, pureB, pl, pr]
  simp only [run0, run1, run2, run3, run4, run5, run6, run7, run8, run9, run10, run11, run12, run13, run14, run15, run16, run17, run18, run19, run20, run21, run22, reduceCtorEq, Nat.reduceEqDiff, Nat.reduceAdd, Nat.reduceSub, Nat.reduceLeDiff, indexAddrA, indexRefA, appendA, strA, Nat.reduceMul, Nat.zero_mul, Nat.reduceMod, Int.reduceEq, Int.reduceLT, Int.reduceLE, Nat.reduceLT, Nat.lt_irrefl, Nat.reduceBEq, tys0, tys1, tys2, tys3, tys4, tys5, tys6, tys7, tys8, tys9, tys10, tys11, tys12, tys13, tys14, tys15, tys16, tys17, tys18, tys19, tys20, tys21, tys22, tys23, Try.ntmps84, Try.results84, shR, sh1, wkL, wkR, h2, h3, Int.natCast_nonneg, Int.toNat_natCast, ints_at, List.mapIdx_cons, List.mapIdx_nil, viewC]
  refine RunL.lendV (ys := [.sl false (l.map frE), .fn 131 [.rptr (.agg [.int .i64 y]) 0]]) rfl rfl ok_f128 rfl (containsFr_ok _ _ (leB y) (closLe_ok y) rfl ok_f131 l hl) (.cons (.pur (.of (by simp only [pureB, pl]))) (.cons (Vw.fn (.cons (Vw.ptr rfl rfl) .nil)) .nil)) rfl rfl ?_
  cases hb1 : l.any (leB y)
  · simp only [run0, run1, run2, run3, run4, run5, run6, run7, run8, run9, run10, run11, run12, run13, run14, run15, run16, run17, run18, run19, run20, run21, run22, reduceCtorEq, Nat.reduceEqDiff, Nat.reduceAdd, Nat.reduceSub, Nat.reduceLeDiff, indexAddrA, indexRefA, appendA, strA, Nat.reduceMul, Nat.zero_mul, Nat.reduceMod, Int.reduceEq, Int.reduceLT, Int.reduceLE, Nat.reduceLT, Nat.lt_irrefl, Nat.reduceBEq, tys0, tys1, tys2, tys3, tys4, tys5, tys6, tys7, tys8, tys9, tys10, tys11, tys12, tys13, tys14, tys15, tys16, tys17, tys18, tys19, tys20, tys21, tys22, tys23, Try.ntmps84, Try.results84]
    refine RunL.lendV (ys := [.sl false (r.map frE), .fn 132 [.rptr (.agg [.int .i64 y]) 0]]) rfl rfl ok_f128 rfl (containsFr_ok _ _ (geB y) (closGe_ok y) rfl ok_f132 r hr) (.cons (.pur (.of (by simp only [pureB, pr]))) (.cons (Vw.fn (.cons (Vw.ptr rfl rfl) .nil)) .nil)) rfl rfl ?_
    cases hb2 : r.any (geB y)
    · simp only [run0, run1, run2, run3, run4, run5, run6, run7, run8, run9, run10, run11, run12, run13, run14, run15, run16, run17, run18, run19, run20, run21, run22, reduceCtorEq, Nat.reduceEqDiff, Nat.reduceAdd, Nat.reduceSub, Nat.reduceLeDiff, indexAddrA, indexRefA, appendA, strA, Nat.reduceMul, Nat.zero_mul, Nat.reduceMod, Int.reduceEq, Int.reduceLT, Int.reduceLE, Nat.reduceLT, Nat.lt_irrefl, Nat.reduceBEq, tys0, tys1, tys2, tys3, tys4, tys5, tys6, tys7, tys8, tys9, tys10, tys11, tys12, tys13, tys14, tys15, tys16, tys17, tys18, tys19, tys20, tys21, tys22, tys23, Try.ntmps84, Try.results84]
      refine RunL.callp rfl rfl ok_f133 (fromUnits_ok y hx) (by first | rfl | simp only [pureL, pureB, Bool.and_self, Bool.and_true, Bool.true_and]) rfl ?_
      simp only [run0, run1, run2, run3, run4, run5, run6, run7, run8, run9, run10, run11, run12, run13, run14, run15, run16, run17, run18, run19, run20, run21, run22, reduceCtorEq, Nat.reduceEqDiff, Nat.reduceAdd, Nat.reduceSub, Nat.reduceLeDiff, indexAddrA, indexRefA, appendA, strA, Nat.reduceMul, Nat.zero_mul, Nat.reduceMod, Int.reduceEq, Int.reduceLT, Int.reduceLE, Nat.reduceLT, Nat.lt_irrefl, Nat.reduceBEq, tys0, tys1, tys2, tys3, tys4, tys5, tys6, tys7, tys8, tys9, tys10, tys11, tys12, tys13, tys14, tys15, tys16, tys17, tys18, tys19, tys20, tys21, tys22, tys23, Try.ntmps84, Try.results84, fr]
      exact Fin.eq rfl rfl
    · simp only [run0, run1, run2, run3, run4, run5, run6, run7, run8, run9, run10, run11, run12, run13, run14, run15, run16, run17, run18, run19, run20, run21, run22, reduceCtorEq, Nat.reduceEqDiff, Nat.reduceAdd, Nat.reduceSub, Nat.reduceLeDiff, indexAddrA, indexRefA, appendA, strA, Nat.reduceMul, Nat.zero_mul, Nat.reduceMod, Int.reduceEq, Int.reduceLT, Int.reduceLE, Nat.reduceLT, Nat.lt_irrefl, Nat.reduceBEq, tys0, tys1, tys2, tys3, tys4, tys5, tys6, tys7, tys8, tys9, tys10, tys11, tys12, tys13, tys14, tys15, tys16, tys17, tys18, tys19, tys20, tys21, tys22, tys23, Try.ntmps84, Try.results84]
      exact Fin.eq rfl rfl
  · simp only [run0, run1, run2, run3, run4, run5, run6, run7, run8, run9, run10, run11, run12, run13, run14, run15, run16, run17, run18, run19, run20, run21, run22, reduceCtorEq, Nat.reduceEqDiff, Nat.reduceAdd, Nat.reduceSub, Nat.reduceLeDiff, indexAddrA, indexRefA, appendA, strA, Nat.reduceMul, Nat.zero_mul, Nat.reduceMod, Int.reduceEq, Int.reduceLT, Int.reduceLE, Nat.reduceLT, Nat.lt_irrefl, Nat.reduceBEq, tys0, tys1, tys2, tys3, tys4, tys5, tys6, tys7, tys8, tys9, tys10, tys11, tys12, tys13, tys14, tys15, tys16, tys17, tys18, tys19, tys20, tys21, tys22, tys23, Try.ntmps84, Try.results84]
    exact Fin.eq rfl rfl

end Go.Proofs.Ytllcljajlemmaaa
/-
  The simplest number of a cut: the reference's function.
-/
namespace Go.Proofs.Ytllcljajlemmaaa
open Go K
set_option linter.unusedSimpArgs false
set_option linter.unusedVariables false
set_option maxHeartbeats 3200000
set_option maxRecDepth 8000

theorem cmpQ_ok (p q : Fr) : Ct Try.prog 78 [fr p.1 p.2, fr q.1 q.2] [] (.int .i64 (cmpQ p q)) [] := shCmp_ok p.1 p.2 q.1 q.2
theorem shMost_ok (o : Fr) (l : List Fr) (hl : (o :: l).length ≤ 1048576) : Ct Try.prog 124 [.sl false (frE o :: l.map frE)] [] (frE (mostF o l)) [] := by
  have e0 : ((o :: l).map frE)[(0 : Int).toNat]? = some (.agg [.int .i64 o.1, .int .i64 o.2]) := rfl
  rw [show frE o :: l.map frE = (o :: l).map frE from rfl]
  have hm : mostF o (o :: l) = mostF o l := by rw [mostF_cons]; split <;> rfl
  rw [← hm]
  generalize o :: l = m at *
  refine Ct.by_ hmix [] Try.func124 rfl ?_
  simp only [run0, run1, run2, run3, run4, run5, run6, run7, run8, run9, run10, run11, run12, run13, run14, run15, run16, run17, run18, run19, run20, run21, run22, reduceCtorEq, Nat.reduceEqDiff, Nat.reduceAdd, Nat.reduceSub, Nat.reduceLeDiff, indexAddrA, indexRefA, appendA, strA, Nat.reduceMul, Nat.zero_mul, Nat.reduceMod, Int.reduceEq, Int.reduceLT, Int.reduceLE, Nat.reduceLT, Nat.lt_irrefl, Nat.reduceBEq, tys0, tys1, tys2, tys3, tys4, tys5, tys6, tys7, tys8, tys9, tys10, tys11, tys12, tys13, tys14, tys15, tys16, tys17, tys18, tys19, tys20, tys21, tys22, tys23, Try.ntmps124, Try.results124, e0, List.length_map, Int.le_refl]
  refine AWp.loop_inv (ι := FxS × Fr) (fun q => ⟨[.sl false (m.map frE), .junk, .ptr 0 0, .ptr 1 0, .junk, .junk, .junk, .junk, .junk, .sl false (m.map frE), .int .i64 m.length, .int .i64 q.1.d.length, .junk, .junk, .junk, .junk, .junk, .junk, .junk, .junk, .junk, .junk], .box 42 [.int .i64 0, .int .i64 0] :: .box 42 [.int .i64 q.2.1, .int .i64 q.2.2] :: q.1.X⟩)
    (fun q => m = q.1.d ++ q.1.r ∧ mostF q.2 q.1.r = mostF o m) (fun q => q.1.r.length) (⟨[], m, []⟩, o) ⟨rfl, rfl⟩ ⟨by simp only [List.length_nil, Int.natCast_zero]; repeat constructor, rfl⟩ ?_
  rintro ⟨⟨d, r, X⟩, p⟩ ⟨ha, h2⟩
  refine W.sound hmix (E := []) ?_
  simp only at ha h2
  cases r with
  | nil =>
    have e1 := frs_end ha
    simp only [run0, run1, run2, run3, run4, run5, run6, run7, run8, run9, run10, run11, run12, run13, run14, run15, run16, run17, run18, run19, run20, run21, run22, reduceCtorEq, Nat.reduceEqDiff, Nat.reduceAdd, Nat.reduceSub, Nat.reduceLeDiff, indexAddrA, indexRefA, appendA, strA, Nat.reduceMul, Nat.zero_mul, Nat.reduceMod, Int.reduceEq, Int.reduceLT, Int.reduceLE, Nat.reduceLT, Nat.lt_irrefl, Nat.reduceBEq, tys0, tys1, tys2, tys3, tys4, tys5, tys6, tys7, tys8, tys9, tys10, tys11, tys12, tys13, tys14, tys15, tys16, tys17, tys18, tys19, tys20, tys21, tys22, tys23, Try.ntmps124, Try.results124, List.length_map, e1]
    exact Fin.eq (by rw [← h2]; rfl) rfl
  | cons e r =>
    obtain ⟨e1, e2, e5⟩ := frs_split ha hl
    have hc := cmpQ_ok e p
    simp only [fr] at hc
    rw [mostF_cons] at h2
    simp only [run0, run1, run2, run3, run4, run5, run6, run7, run8, run9, run10, run11, run12, run13, run14, run15, run16, run17, run18, run19, run20, run21, run22, reduceCtorEq, Nat.reduceEqDiff, Nat.reduceAdd, Nat.reduceSub, Nat.reduceLeDiff, indexAddrA, indexRefA, appendA, strA, Nat.reduceMul, Nat.zero_mul, Nat.reduceMod, Int.reduceEq, Int.reduceLT, Int.reduceLE, Nat.reduceLT, Nat.lt_irrefl, Nat.reduceBEq, tys0, tys1, tys2, tys3, tys4, tys5, tys6, tys7, tys8, tys9, tys10, tys11, tys12, tys13, tys14, tys15, tys16, tys17, tys18, tys19, tys20, tys21, tys22, tys23, Try.ntmps124, Try.results124, List.length_map, e1, e2, Int.toNat_natCast, Int.natCast_nonneg, List.getElem?_append_right, Nat.sub_self]
    refine RunL.callp rfl rfl ok_f78 (hc) (by first | rfl | simp only [pureL, pureB, Bool.and_self, Bool.and_true, Bool.true_and]) rfl ?_
    by_cases hp : 0 < cmpQ e p
    · rw [if_pos hp] at h2
      simp only [run0, run1, run2, run3, run4, run5, run6, run7, run8, run9, run10, run11, run12, run13, run14, run15, run16, run17, run18, run19, run20, run21, run22, reduceCtorEq, Nat.reduceEqDiff, Nat.reduceAdd, Nat.reduceSub, Nat.reduceLeDiff, indexAddrA, indexRefA, appendA, strA, Nat.reduceMul, Nat.zero_mul, Nat.reduceMod, Int.reduceEq, Int.reduceLT, Int.reduceLE, Nat.reduceLT, Nat.lt_irrefl, Nat.reduceBEq, tys0, tys1, tys2, tys3, tys4, tys5, tys6, tys7, tys8, tys9, tys10, tys11, tys12, tys13, tys14, tys15, tys16, tys17, tys18, tys19, tys20, tys21, tys22, tys23, Try.ntmps124, Try.results124, hp, e5]
      exact ⟨(⟨d ++ [e], r, _⟩, e), ⟨by simp [ha], h2⟩, by simp, by simp only [List.length_append, List.length_cons, List.length_nil]; repeat constructor, rfl⟩
    · rw [if_neg hp] at h2
      simp only [run0, run1, run2, run3, run4, run5, run6, run7, run8, run9, run10, run11, run12, run13, run14, run15, run16, run17, run18, run19, run20, run21, run22, reduceCtorEq, Nat.reduceEqDiff, Nat.reduceAdd, Nat.reduceSub, Nat.reduceLeDiff, indexAddrA, indexRefA, appendA, strA, Nat.reduceMul, Nat.zero_mul, Nat.reduceMod, Int.reduceEq, Int.reduceLT, Int.reduceLE, Nat.reduceLT, Nat.lt_irrefl, Nat.reduceBEq, tys0, tys1, tys2, tys3, tys4, tys5, tys6, tys7, tys8, tys9, tys10, tys11, tys12, tys13, tys14, tys15, tys16, tys17, tys18, tys19, tys20, tys21, tys22, tys23, Try.ntmps124, Try.results124, hp, e5]
      exact ⟨(⟨d ++ [e], r, _⟩, p), ⟨by simp [ha], h2⟩, by simp, by simp only [List.length_append, List.length_cons, List.length_nil]; repeat constructor, rfl⟩
theorem Vw_frs {L : List AObj} {id g n : Nat} {T : TypeId} {es : List AV} {l : List Fr} {o : Bool} (hL : L[id]? = some (.vec T 2 g es)) (he : es = l.map frE) (hn : n = l.length) : Vw L (.ref id [] g n) (.sl o (l.map frE)) := by
  subst he hn
  have := Vw.refPur (L := L) (id := id) (g := g) (n := l.length) (o := o) hL (by simp) (fun e he c hc => by
    obtain ⟨e', _, rfl⟩ := List.mem_map.1 he
    simp only [frE, AV.cells, List.mem_cons, List.not_mem_nil, or_false] at hc
    rcases hc with rfl | rfl <;> exact ⟨.of rfl, fun xs h => by cases h⟩)
  rwa [List.take_of_length_le (by simp)] at this
theorem shNegAll_ok (l : List Fr) (hl : l.length ≤ 1048576) : Ct Try.prog 126 [.sl false (l.map frE)] [] (.sl false ((l.map negF).map frE)) [] := by
  refine Ct.by_ hmix [] Try.func126 rfl ?_
  simp only [run0, run1, run2, run3, run4, run5, run6, run7, run8, run9, run10, run11, run12, run13, run14, run15, run16, run17, run18, run19, run20, run21, run22, reduceCtorEq, Nat.reduceEqDiff, Nat.reduceAdd, Nat.reduceSub, Nat.reduceLeDiff, indexAddrA, indexRefA, appendA, strA, Nat.reduceMul, Nat.zero_mul, Nat.reduceMod, Int.reduceEq, Int.reduceLT, Int.reduceLE, Nat.reduceLT, Nat.lt_irrefl, Nat.reduceBEq, tys0, tys1, tys2, tys3, tys4, tys5, tys6, tys7, tys8, tys9, tys10, tys11, tys12, tys13, tys14, tys15, tys16, tys17, tys18, tys19, tys20, tys21, tys22, tys23, Try.ntmps126, Try.results126, List.length_map]
  refine AWp.nil 3 42 2 rfl ?_
  refine AWp.loop_inv (ι := FxS) (fun q => ⟨[.sl false (l.map frE), .junk, nilV, .ref 0 [] q.d.length q.d.length, .junk, .junk, .sl false (l.map frE), .int .i64 l.length, .int .i64 q.d.length, .junk, .junk, .junk, .junk, .junk, .junk, .junk, .junk, .junk, .junk], .vec 42 2 q.d.length ((q.d.map negF).map frE) :: q.X⟩)
    (fun q => l = q.d ++ q.r) (fun q => q.r.length) ⟨[], l, []⟩ rfl ⟨by simp only [List.length_nil, Int.natCast_zero]; repeat constructor, rfl⟩ ?_
  rintro ⟨d, r, X⟩ ha
  refine W.sound hmix (E := []) ?_
  simp only at ha
  cases r with
  | nil =>
    have e1 := frs_end ha
    rw [List.append_nil] at ha
    subst ha
    simp only [run0, run1, run2, run3, run4, run5, run6, run7, run8, run9, run10, run11, run12, run13, run14, run15, run16, run17, run18, run19, run20, run21, run22, reduceCtorEq, Nat.reduceEqDiff, Nat.reduceAdd, Nat.reduceSub, Nat.reduceLeDiff, indexAddrA, indexRefA, appendA, strA, Nat.reduceMul, Nat.zero_mul, Nat.reduceMod, Int.reduceEq, Int.reduceLT, Int.reduceLE, Nat.reduceLT, Nat.lt_irrefl, Nat.reduceBEq, tys0, tys1, tys2, tys3, tys4, tys5, tys6, tys7, tys8, tys9, tys10, tys11, tys12, tys13, tys14, tys15, tys16, tys17, tys18, tys19, tys20, tys21, tys22, tys23, Try.ntmps126, Try.results126, List.length_map, e1]
    exact Fin.value (Vw_frs rfl rfl (by simp))
  | cons e r =>
    obtain ⟨e1, e2, e5⟩ := frs_split ha hl
    have hda : l.length = d.length + (r.length + 1) := by rw [ha]; simp
    have hc := shNeg_ok e.1 e.2
    simp only [fr] at hc
    have f3 : d.length + 1 ≤ 137438953472 := by omega
    have f4 := frs_noOwn (d.map negF)
    simp only [run0, run1, run2, run3, run4, run5, run6, run7, run8, run9, run10, run11, run12, run13, run14, run15, run16, run17, run18, run19, run20, run21, run22, reduceCtorEq, Nat.reduceEqDiff, Nat.reduceAdd, Nat.reduceSub, Nat.reduceLeDiff, indexAddrA, indexRefA, appendA, strA, Nat.reduceMul, Nat.zero_mul, Nat.reduceMod, Int.reduceEq, Int.reduceLT, Int.reduceLE, Nat.reduceLT, Nat.lt_irrefl, Nat.reduceBEq, tys0, tys1, tys2, tys3, tys4, tys5, tys6, tys7, tys8, tys9, tys10, tys11, tys12, tys13, tys14, tys15, tys16, tys17, tys18, tys19, tys20, tys21, tys22, tys23, Try.ntmps126, Try.results126, List.length_map, e1, e2, Int.toNat_natCast, Int.natCast_nonneg, List.getElem?_append_right, Nat.sub_self]
    refine RunL.callp rfl rfl ok_f125 (hc) (by first | rfl | simp only [pureL, pureB, Bool.and_self, Bool.and_true, Bool.true_and]) rfl ?_
    simp only [run0, run1, run2, run3, run4, run5, run6, run7, run8, run9, run10, run11, run12, run13, run14, run15, run16, run17, run18, run19, run20, run21, run22, reduceCtorEq, Nat.reduceEqDiff, Nat.reduceAdd, Nat.reduceSub, Nat.reduceLeDiff, indexAddrA, indexRefA, appendA, strA, Nat.reduceMul, Nat.zero_mul, Nat.reduceMod, Int.reduceEq, Int.reduceLT, Int.reduceLE, Nat.reduceLT, Nat.lt_irrefl, Nat.reduceBEq, tys0, tys1, tys2, tys3, tys4, tys5, tys6, tys7, tys8, tys9, tys10, tys11, tys12, tys13, tys14, tys15, tys16, tys17, tys18, tys19, tys20, tys21, tys22, tys23, Try.ntmps126, Try.results126, List.length_map, e5, f3, f4]
    exact ⟨⟨d ++ [e], r, X ++ [.box 42 [.int .i64 e.1, .int .i64 e.2]]⟩, by simp [ha], by simp, by simp only [List.length_append, List.length_cons, List.length_nil]; repeat constructor, by simp [frE, negF]⟩

/-! ### what the loop comes to -/
theorem bad_both {l r : List Fr} {x : Int} (hl : ∀ a ∈ l, FB a) (hr : ∀ a ∈ r, FB a) (hx : x.natAbs ≤ 50000000) (h1 : l.any (leB x) = true) (h2 : r.any (geB x) = true) : cutBad l r = true := by
  obtain ⟨a, ha, k1⟩ := List.any_eq_true.1 h1
  obtain ⟨b, hb, k2⟩ := List.any_eq_true.1 h2
  rcases no_between hx (cut_small l r).1 (hl a ha) (hr b hb) k1 k2 with h | h
  · simp only [cutBad, List.any_eq_true.2 ⟨a, ha, h⟩, Bool.true_or]
  · simp only [cutBad, List.any_eq_true.2 ⟨b, hb, h⟩, Bool.or_true]
structure SiS where
  n : Nat
  i : Wk
  s : Sw
  X : List AObj
structure SiI (l r : List Fr) (p : SiS) : Prop where
  size : p.i.word.size = p.n
  rl : Rl p.i p.s
  wj : Wj p.i
  zero : p.n = 0 → p.i.low = [] ∧ p.i.high = []
  run : wkRun (cutS l r) (21 - p.n) p.i = wkRun (cutS l r) 21 wk0
theorem SiI.start (l r : List Fr) : SiI l r ⟨0, wk0, sw0, []⟩ := ⟨rfl, ⟨at_zero, by decide, ⟨0, rfl⟩, rfl, rfl⟩, wj0, fun _ => ⟨rfl, rfl⟩, rfl⟩
theorem SiI.small {l r : List Fr} {p : SiS} (h : SiI l r p) (hn : p.n ≤ 20) : p.i.x.natAbs ≤ 50000000 := by
  have := h.rl.size
  have := h.size
  omega
theorem wkRun_succ (f : Int → Int) (k : Nat) (i : Wk) : wkRun f (k + 1) i = if f i.x = 0 ∨ i.word.size = 20 then { i with nums := i.nums ++ [i.x] } else if 0 < f i.x then wkRun f k ⟨i.nums ++ [i.x], i.word ++ plusB, i.low ++ [i.x], i.high, betw i.x (f i.x) (i.low ++ [i.x]) i.high⟩ else wkRun f k ⟨i.nums ++ [i.x], i.word ++ minusB, i.low, i.high ++ [i.x], betw i.x (f i.x) i.low (i.high ++ [i.x])⟩ := rfl
theorem SiI.stop {l r : List Fr} {p : SiS} (h : SiI l r p) (hn : p.n ≤ 20) (hs : cutS l r p.i.x = 0 ∨ p.n = 20) : cutX l r = p.i.x := by
  have h1 := h.run
  rw [show 21 - p.n = (20 - p.n) + 1 by omega] at h1
  rw [wkRun_succ (cutS l r) (20 - p.n) p.i] at h1
  rw [if_pos (by rw [h.size]; exact hs)] at h1
  unfold cutX
  rw [← h1]; simp
theorem SiI.none_ {l r : List Fr} {p : SiS} (h : SiI l r p) (hn : p.n ≤ 20) (h1 : l.any (leB p.i.x) = false) (h2 : r.any (geB p.i.x) = false) : simR l r = .tup [fr p.s.an p.s.ad, .bool true] := by
  have hx := h.stop hn (.inl (by simp [cutS, h1, h2]))
  have hb : cutBad l r = false := by simp [cutBad, hx, h1, h2]
  have hok := h.wj.ok (by rw [h.size]; exact hn)
  have ha := h.rl.at_
  simp only [simR, hb, hx, Bool.false_eq_true, if_false, Bool.not_false, frE, fr]
  unfold frN frD
  rw [if_pos hok, if_pos hok, ← ha.1, ← ha.2]
theorem SiI.up {l r : List Fr} {p : SiS} (h : SiI l r p) (hn : p.n ≤ 20) (h1 : l.any (leB p.i.x) = true) (X : List AObj) : swOk p.s true ∧ ((p.n = 20 ∧ cutBad l r = true) ∨ (p.n + 1 ≤ 20 ∧ SiI l r ⟨p.n + 1, stepP p.i, swStep p.s true, X⟩)) := by
  refine ⟨last_ok h.rl (by rw [h.size]; exact hn) true, ?_⟩
  by_cases h20 : p.n = 20
  · have hx := h.stop hn (.inr h20)
    exact .inl ⟨h20, by simp [cutBad, hx, h1]⟩
  · refine .inr ⟨by omega, ?_⟩
    obtain ⟨k1, k2⟩ := plus_rl h.rl (by rw [h.size]; omega)
    have hc : cutS l r p.i.x = 1 := by simp [cutS, h1]
    have hrun := h.run
    rw [show 21 - p.n = (21 - (p.n + 1)) + 1 by omega] at hrun
    rw [wkRun_succ (cutS l r) (21 - (p.n + 1)) p.i] at hrun
    rw [if_neg (by rw [h.size, hc]; omega), if_pos (by rw [hc]; omega), hc] at hrun
    exact ⟨by simp only [stepP, size_plus, h.size], k2, h.wj.plus (by rw [h.size]; omega) (fun e => (h.zero (by rw [← h.size]; exact e)).2), fun e => by simp at e, hrun⟩
theorem SiI.down {l r : List Fr} {p : SiS} (h : SiI l r p) (hn : p.n ≤ 20) (h1 : l.any (leB p.i.x) = false) (h2 : r.any (geB p.i.x) = true) (X : List AObj) : swOk p.s false ∧ ((p.n = 20 ∧ cutBad l r = true) ∨ (p.n + 1 ≤ 20 ∧ SiI l r ⟨p.n + 1, stepM p.i, swStep p.s false, X⟩)) := by
  refine ⟨last_ok h.rl (by rw [h.size]; exact hn) false, ?_⟩
  by_cases h20 : p.n = 20
  · have hx := h.stop hn (.inr h20)
    exact .inl ⟨h20, by simp [cutBad, hx, h2]⟩
  · refine .inr ⟨by omega, ?_⟩
    obtain ⟨k1, k2⟩ := minus_rl h.rl (by rw [h.size]; omega)
    have hc : cutS l r p.i.x = -1 := by simp [cutS, h1, h2]
    have hrun := h.run
    rw [show 21 - p.n = (21 - (p.n + 1)) + 1 by omega] at hrun
    rw [wkRun_succ (cutS l r) (21 - (p.n + 1)) p.i] at hrun
    rw [if_neg (by rw [h.size, hc]; omega), if_neg (by rw [hc]; omega), hc] at hrun
    exact ⟨by simp only [stepM, size_minus, h.size], k2, h.wj.minus (by rw [h.size]; omega) (fun e => (h.zero (by rw [← h.size]; exact e)).1), fun e => by simp at e, hrun⟩
theorem SiI.ge {l r : List Fr} {p : SiS} (h : SiI l r p) (hn : p.n ≤ 20) {o : Fr} {l' : List Fr} (hl : ∀ a ∈ o :: l', FB a) : (0 ≤ cmpQ (mostF o l') (p.s.an, p.s.ad)) ↔ (o :: l').any (leB p.i.x) = true := by
  have hx := h.small hn
  obtain ⟨h1, _⟩ := mostF_spec l' o (hl o (by simp)) (fun a ha => hl a (by simp [ha]))
  obtain ⟨b1, b2, b3, b4⟩ := hl _ h1
  rw [← up_any hx hl, side_le, decide_eq_true_eq]
  have := at_cmp (n := (mostF o l').1) (d := (mostF o l').2) h.rl.at_ hx (by omega) (by omega) (by omega)
  unfold cmpQ
  rw [this]
theorem SiI.le {l r : List Fr} {p : SiS} (h : SiI l r p) (hn : p.n ≤ 20) {o : Fr} {l' : List Fr} (hl : ∀ a ∈ o :: l', FB a) : (cmpQ (leastF o l') (p.s.an, p.s.ad) ≤ 0) ↔ (o :: l').any (geB p.i.x) = true := by
  have hx := h.small hn
  obtain ⟨h1, _⟩ := leastF_spec o l' hl
  obtain ⟨b1, b2, b3, b4⟩ := hl _ h1
  rw [← down_any hx hl, side_ge, decide_eq_true_eq]
  have := at_cmp (n := (leastF o l').1) (d := (leastF o l').2) h.rl.at_ hx (by omega) (by omega) (by omega)
  unfold cmpQ
  rw [this]

def swC (s : Sw) : List AV := [.int .i64 s.an, .int .i64 s.ad, .int .i64 s.ln, .int .i64 s.ld, .int .i64 s.hn, .int .i64 s.hd, .bool s.hasL, .bool s.hasH]
theorem shSimplest_nn  (hll : ([] : List Fr).length ≤ 1048576) (hrl : ([] : List Fr).length ≤ 1048576) (hl : ∀ a ∈ ([] : List Fr), FB a) (hr : ∀ a ∈ ([] : List Fr), FB a) : Ct Try.prog 80 [.sl false [], .sl false []] [] (simR ([] : List Fr) ([] : List Fr)) [] := by
  refine Ct.by_ hmix [] Try.func80 rfl ?_
  simp only [run0, run1, run2, run3, run4, run5, run6, run7, run8, run9, run10, run11, run12, run13, run14, run15, run16, run17, run18, run19, run20, run21, run22, reduceCtorEq, Nat.reduceEqDiff, Nat.reduceAdd, Nat.reduceSub, Nat.reduceLeDiff, indexAddrA, indexRefA, appendA, strA, Nat.reduceMul, Nat.zero_mul, Nat.reduceMod, Int.reduceEq, Int.reduceLT, Int.reduceLE, Nat.reduceLT, Nat.lt_irrefl, Nat.reduceBEq, tys0, tys1, tys2, tys3, tys4, tys5, tys6, tys7, tys8, tys9, tys10, tys11, tys12, tys13, tys14, tys15, tys16, tys17, tys18, tys19, tys20, tys21, tys22, tys23, Try.ntmps80, Try.results80, swV]
  refine RunL.callp rfl rfl ok_f123 (shStart_ok) (by first | rfl | simp only [pureL, pureB, Bool.and_self, Bool.and_true, Bool.true_and]) rfl ?_
  simp only [run0, run1, run2, run3, run4, run5, run6, run7, run8, run9, run10, run11, run12, run13, run14, run15, run16, run17, run18, run19, run20, run21, run22, reduceCtorEq, Nat.reduceEqDiff, Nat.reduceAdd, Nat.reduceSub, Nat.reduceLeDiff, indexAddrA, indexRefA, appendA, strA, Nat.reduceMul, Nat.zero_mul, Nat.reduceMod, Int.reduceEq, Int.reduceLT, Int.reduceLE, Nat.reduceLT, Nat.lt_irrefl, Nat.reduceBEq, tys0, tys1, tys2, tys3, tys4, tys5, tys6, tys7, tys8, tys9, tys10, tys11, tys12, tys13, tys14, tys15, tys16, tys17, tys18, tys19, tys20, tys21, tys22, tys23, Try.ntmps80, Try.results80, swV]
  refine AWp.loop_inv (ι := SiS) (fun p => ⟨[.sl false [], .sl false [], .junk, .junk, .ptr 0 0, .bool false, .ptr 1 0, .int .i64 p.n, .junk, .junk, .junk, .junk, .junk, .junk, .junk, .junk, .junk, .junk, .junk, .junk, .junk, .junk, .junk, .junk, .junk, .junk, .junk, .junk, .junk, .junk, .junk, .junk, .junk, .junk, .junk, .junk, .junk, .junk, .junk, .junk, .junk, .junk, .junk, .junk, .junk, .junk, .junk, .junk, .junk, .junk, .junk, .junk, .junk, .junk, .junk, .junk], .box 42 [.int .i64 0, .int .i64 0] :: .box 144 (swC p.s) :: p.X⟩)
    (fun p => (p.n = 21 ∧ cutBad ([] : List Fr) ([] : List Fr) = true) ∨ (p.n ≤ 20 ∧ SiI ([] : List Fr) ([] : List Fr) p)) (fun p => 21 - p.n) ⟨0, wk0, sw0, []⟩ (.inr ⟨by decide, SiI.start _ _⟩) ⟨by simp only [Int.natCast_zero]; repeat constructor, rfl⟩ ?_
  rintro p hI
  refine W.sound hmix (E := []) ?_
  rcases hI with ⟨hn, hbad⟩ | ⟨hn, hI⟩
  · have e1 : ¬ ((p.n : Int) ≤ 20) := by omega
    simp only [run0, run1, run2, run3, run4, run5, run6, run7, run8, run9, run10, run11, run12, run13, run14, run15, run16, run17, run18, run19, run20, run21, run22, reduceCtorEq, Nat.reduceEqDiff, Nat.reduceAdd, Nat.reduceSub, Nat.reduceLeDiff, indexAddrA, indexRefA, appendA, strA, Nat.reduceMul, Nat.zero_mul, Nat.reduceMod, Int.reduceEq, Int.reduceLT, Int.reduceLE, Nat.reduceLT, Nat.lt_irrefl, Nat.reduceBEq, tys0, tys1, tys2, tys3, tys4, tys5, tys6, tys7, tys8, tys9, tys10, tys11, tys12, tys13, tys14, tys15, tys16, tys17, tys18, tys19, tys20, tys21, tys22, tys23, Try.ntmps80, Try.results80, e1]
    exact Fin.eq (by simp [simR, hbad, frE]) rfl
  have e1 : (p.n : Int) ≤ 20 := by omega
  have e5 : IntKind.i64.wrap ((p.n : Int) + 1) = ((p.n + 1 : Nat) : Int) := by rw [i64_id (by omega) (by omega)]; simp
  have hx := hI.small hn
  simp only [run0, run1, run2, run3, run4, run5, run6, run7, run8, run9, run10, run11, run12, run13, run14, run15, run16, run17, run18, run19, run20, run21, run22, reduceCtorEq, Nat.reduceEqDiff, Nat.reduceAdd, Nat.reduceSub, Nat.reduceLeDiff, indexAddrA, indexRefA, appendA, strA, Nat.reduceMul, Nat.zero_mul, Nat.reduceMod, Int.reduceEq, Int.reduceLT, Int.reduceLE, Nat.reduceLT, Nat.lt_irrefl, Nat.reduceBEq, tys0, tys1, tys2, tys3, tys4, tys5, tys6, tys7, tys8, tys9, tys10, tys11, tys12, tys13, tys14, tys15, tys16, tys17, tys18, tys19, tys20, tys21, tys22, tys23, Try.ntmps80, Try.results80, swC, e1, List.length_map, Int.natCast_zero, Int.lt_irrefl]
  refine ⟨by kernel_rfl, ?_⟩
  refine ⟨by kernel_rfl, ?_⟩
  exact Fin.eq (by rw [hI.none_ hn rfl rfl]; rfl) rfl
theorem shSimplest_cn (o : Fr) (l : List Fr) (hll : (o :: l).length ≤ 1048576) (hrl : ([] : List Fr).length ≤ 1048576) (hl : ∀ a ∈ (o :: l), FB a) (hr : ∀ a ∈ ([] : List Fr), FB a) : Ct Try.prog 80 [.sl false (frE o :: l.map frE), .sl false []] [] (simR (o :: l) ([] : List Fr)) [] := by
  have pl : pureL (l.map frE) = true := frs_pure l
  have hlen : ((0 : Int) < ((l.length + 1 : Nat) : Int)) := by omega
  refine Ct.by_ hmix [] Try.func80 rfl ?_
  simp only [run0, run1, run2, run3, run4, run5, run6, run7, run8, run9, run10, run11, run12, run13, run14, run15, run16, run17, run18, run19, run20, run21, run22, reduceCtorEq, Nat.reduceEqDiff, Nat.reduceAdd, Nat.reduceSub, Nat.reduceLeDiff, indexAddrA, indexRefA, appendA, strA, Nat.reduceMul, Nat.zero_mul, Nat.reduceMod, Int.reduceEq, Int.reduceLT, Int.reduceLE, Nat.reduceLT, Nat.lt_irrefl, Nat.reduceBEq, tys0, tys1, tys2, tys3, tys4, tys5, tys6, tys7, tys8, tys9, tys10, tys11, tys12, tys13, tys14, tys15, tys16, tys17, tys18, tys19, tys20, tys21, tys22, tys23, Try.ntmps80, Try.results80, swV]
  refine RunL.callp rfl rfl ok_f123 (shStart_ok) (by first | rfl | simp only [pureL, pureB, Bool.and_self, Bool.and_true, Bool.true_and]) rfl ?_
  simp only [run0, run1, run2, run3, run4, run5, run6, run7, run8, run9, run10, run11, run12, run13, run14, run15, run16, run17, run18, run19, run20, run21, run22, reduceCtorEq, Nat.reduceEqDiff, Nat.reduceAdd, Nat.reduceSub, Nat.reduceLeDiff, indexAddrA, indexRefA, appendA, strA, Nat.reduceMul, Nat.zero_mul, Nat.reduceMod, Int.reduceEq, Int.reduceLT, Int.reduceLE, Nat.reduceLT, Nat.lt_irrefl, Nat.reduceBEq, tys0, tys1, tys2, tys3, tys4, tys5, tys6, tys7, tys8, tys9, tys10, tys11, tys12, tys13, tys14, tys15, tys16, tys17, tys18, tys19, tys20, tys21, tys22, tys23, Try.ntmps80, Try.results80, swV]
  refine AWp.loop_inv (ι := SiS) (fun p => ⟨[.sl false (frE o :: l.map frE), .sl false [], .junk, .junk, .ptr 0 0, .bool false, .ptr 1 0, .int .i64 p.n, .junk, .junk, .junk, .junk, .junk, .junk, .junk, .junk, .junk, .junk, .junk, .junk, .junk, .junk, .junk, .junk, .junk, .junk, .junk, .junk, .junk, .junk, .junk, .junk, .junk, .junk, .junk, .junk, .junk, .junk, .junk, .junk, .junk, .junk, .junk, .junk, .junk, .junk, .junk, .junk, .junk, .junk, .junk, .junk, .junk, .junk, .junk, .junk], .box 42 [.int .i64 0, .int .i64 0] :: .box 144 (swC p.s) :: p.X⟩)
    (fun p => (p.n = 21 ∧ cutBad (o :: l) ([] : List Fr) = true) ∨ (p.n ≤ 20 ∧ SiI (o :: l) ([] : List Fr) p)) (fun p => 21 - p.n) ⟨0, wk0, sw0, []⟩ (.inr ⟨by decide, SiI.start _ _⟩) ⟨by simp only [Int.natCast_zero]; repeat constructor, rfl⟩ ?_
  rintro p hI
  refine W.sound hmix (E := []) ?_
  rcases hI with ⟨hn, hbad⟩ | ⟨hn, hI⟩
  · have e1 : ¬ ((p.n : Int) ≤ 20) := by omega
    simp only [run0, run1, run2, run3, run4, run5, run6, run7, run8, run9, run10, run11, run12, run13, run14, run15, run16, run17, run18, run19, run20, run21, run22, reduceCtorEq, Nat.reduceEqDiff, Nat.reduceAdd, Nat.reduceSub, Nat.reduceLeDiff, indexAddrA, indexRefA, appendA, strA, Nat.reduceMul, Nat.zero_mul, Nat.reduceMod, Int.reduceEq, Int.reduceLT, Int.reduceLE, Nat.reduceLT, Nat.lt_irrefl, Nat.reduceBEq, tys0, tys1, tys2, tys3, tys4, tys5, tys6, tys7, tys8, tys9, tys10, tys11, tys12, tys13, tys14, tys15, tys16, tys17, tys18, tys19, tys20, tys21, tys22, tys23, Try.ntmps80, Try.results80, e1]
    exact Fin.eq (by simp [simR, hbad, frE]) rfl
  have e1 : (p.n : Int) ≤ 20 := by omega
  have e5 : IntKind.i64.wrap ((p.n : Int) + 1) = ((p.n + 1 : Nat) : Int) := by rw [i64_id (by omega) (by omega)]; simp
  have hx := hI.small hn
  have hge := hI.ge hn hl
  have hc1 := cmpQ_ok (mostF o l) (p.s.an, p.s.ad)
  simp only [fr, frE] at hc1
  rcases hU : (o :: l).any (leB p.i.x) with _ | _
  · have u1 : ¬ (0 ≤ cmpQ (mostF o l) (p.s.an, p.s.ad)) := (fun e => by rw [hge.1 e] at hU; cases hU)
    simp only [run0, run1, run2, run3, run4, run5, run6, run7, run8, run9, run10, run11, run12, run13, run14, run15, run16, run17, run18, run19, run20, run21, run22, reduceCtorEq, Nat.reduceEqDiff, Nat.reduceAdd, Nat.reduceSub, Nat.reduceLeDiff, indexAddrA, indexRefA, appendA, strA, Nat.reduceMul, Nat.zero_mul, Nat.reduceMod, Int.reduceEq, Int.reduceLT, Int.reduceLE, Nat.reduceLT, Nat.lt_irrefl, Nat.reduceBEq, tys0, tys1, tys2, tys3, tys4, tys5, tys6, tys7, tys8, tys9, tys10, tys11, tys12, tys13, tys14, tys15, tys16, tys17, tys18, tys19, tys20, tys21, tys22, tys23, Try.ntmps80, Try.results80, swC, e1, List.length_map, Int.natCast_zero, Int.lt_irrefl, hlen, u1]
    refine ⟨by kernel_rfl, ?_⟩
    refine RunL.callp rfl rfl ok_f124 (shMost_ok o l hll) (by simp only [pureL, pureB, frE, pl, Bool.and_self, Bool.and_true, Bool.true_and]) rfl ?_
    simp only [run0, run1, run2, run3, run4, run5, run6, run7, run8, run9, run10, run11, run12, run13, run14, run15, run16, run17, run18, run19, run20, run21, run22, reduceCtorEq, Nat.reduceEqDiff, Nat.reduceAdd, Nat.reduceSub, Nat.reduceLeDiff, indexAddrA, indexRefA, appendA, strA, Nat.reduceMul, Nat.zero_mul, Nat.reduceMod, Int.reduceEq, Int.reduceLT, Int.reduceLE, Nat.reduceLT, Nat.lt_irrefl, Nat.reduceBEq, tys0, tys1, tys2, tys3, tys4, tys5, tys6, tys7, tys8, tys9, tys10, tys11, tys12, tys13, tys14, tys15, tys16, tys17, tys18, tys19, tys20, tys21, tys22, tys23, Try.ntmps80, Try.results80, swC, frE]
    refine RunL.callp rfl rfl ok_f78 (hc1) (by first | rfl | simp only [pureL, pureB, Bool.and_self, Bool.and_true, Bool.true_and]) rfl ?_
    simp only [run0, run1, run2, run3, run4, run5, run6, run7, run8, run9, run10, run11, run12, run13, run14, run15, run16, run17, run18, run19, run20, run21, run22, reduceCtorEq, Nat.reduceEqDiff, Nat.reduceAdd, Nat.reduceSub, Nat.reduceLeDiff, indexAddrA, indexRefA, appendA, strA, Nat.reduceMul, Nat.zero_mul, Nat.reduceMod, Int.reduceEq, Int.reduceLT, Int.reduceLE, Nat.reduceLT, Nat.lt_irrefl, Nat.reduceBEq, tys0, tys1, tys2, tys3, tys4, tys5, tys6, tys7, tys8, tys9, tys10, tys11, tys12, tys13, tys14, tys15, tys16, tys17, tys18, tys19, tys20, tys21, tys22, tys23, Try.ntmps80, Try.results80, swC, e1, List.length_map, Int.natCast_zero, Int.lt_irrefl, hlen, u1]
    refine ⟨by kernel_rfl, ?_⟩
    exact Fin.eq (by rw [hI.none_ hn hU rfl]; rfl) rfl
  · have u1 : (0 ≤ cmpQ (mostF o l) (p.s.an, p.s.ad)) := hge.2 hU
    simp only [run0, run1, run2, run3, run4, run5, run6, run7, run8, run9, run10, run11, run12, run13, run14, run15, run16, run17, run18, run19, run20, run21, run22, reduceCtorEq, Nat.reduceEqDiff, Nat.reduceAdd, Nat.reduceSub, Nat.reduceLeDiff, indexAddrA, indexRefA, appendA, strA, Nat.reduceMul, Nat.zero_mul, Nat.reduceMod, Int.reduceEq, Int.reduceLT, Int.reduceLE, Nat.reduceLT, Nat.lt_irrefl, Nat.reduceBEq, tys0, tys1, tys2, tys3, tys4, tys5, tys6, tys7, tys8, tys9, tys10, tys11, tys12, tys13, tys14, tys15, tys16, tys17, tys18, tys19, tys20, tys21, tys22, tys23, Try.ntmps80, Try.results80, swC, e1, List.length_map, Int.natCast_zero, Int.lt_irrefl, hlen, u1]
    refine ⟨by kernel_rfl, ?_⟩
    refine RunL.callp rfl rfl ok_f124 (shMost_ok o l hll) (by simp only [pureL, pureB, frE, pl, Bool.and_self, Bool.and_true, Bool.true_and]) rfl ?_
    simp only [run0, run1, run2, run3, run4, run5, run6, run7, run8, run9, run10, run11, run12, run13, run14, run15, run16, run17, run18, run19, run20, run21, run22, reduceCtorEq, Nat.reduceEqDiff, Nat.reduceAdd, Nat.reduceSub, Nat.reduceLeDiff, indexAddrA, indexRefA, appendA, strA, Nat.reduceMul, Nat.zero_mul, Nat.reduceMod, Int.reduceEq, Int.reduceLT, Int.reduceLE, Nat.reduceLT, Nat.lt_irrefl, Nat.reduceBEq, tys0, tys1, tys2, tys3, tys4, tys5, tys6, tys7, tys8, tys9, tys10, tys11, tys12, tys13, tys14, tys15, tys16, tys17, tys18, tys19, tys20, tys21, tys22, tys23, Try.ntmps80, Try.results80, swC, frE]
    refine RunL.callp rfl rfl ok_f78 (hc1) (by first | rfl | simp only [pureL, pureB, Bool.and_self, Bool.and_true, Bool.true_and]) rfl ?_
    simp only [run0, run1, run2, run3, run4, run5, run6, run7, run8, run9, run10, run11, run12, run13, run14, run15, run16, run17, run18, run19, run20, run21, run22, reduceCtorEq, Nat.reduceEqDiff, Nat.reduceAdd, Nat.reduceSub, Nat.reduceLeDiff, indexAddrA, indexRefA, appendA, strA, Nat.reduceMul, Nat.zero_mul, Nat.reduceMod, Int.reduceEq, Int.reduceLT, Int.reduceLE, Nat.reduceLT, Nat.lt_irrefl, Nat.reduceBEq, tys0, tys1, tys2, tys3, tys4, tys5, tys6, tys7, tys8, tys9, tys10, tys11, tys12, tys13, tys14, tys15, tys16, tys17, tys18, tys19, tys20, tys21, tys22, tys23, Try.ntmps80, Try.results80, swC, e1, List.length_map, Int.natCast_zero, Int.lt_irrefl, hlen, u1]
    refine ⟨by kernel_rfl, ?_⟩
    obtain ⟨hok, hnx⟩ := hI.up hn hU p.X
    have hst := step_ok p.s true hok
    simp only [swV] at hst
    refine RunL.callp rfl rfl ok_f127 (hst) (by first | rfl | simp only [pureL, pureB, Bool.and_self, Bool.and_true, Bool.true_and]) rfl ?_
    simp only [run0, run1, run2, run3, run4, run5, run6, run7, run8, run9, run10, run11, run12, run13, run14, run15, run16, run17, run18, run19, run20, run21, run22, reduceCtorEq, Nat.reduceEqDiff, Nat.reduceAdd, Nat.reduceSub, Nat.reduceLeDiff, indexAddrA, indexRefA, appendA, strA, Nat.reduceMul, Nat.zero_mul, Nat.reduceMod, Int.reduceEq, Int.reduceLT, Int.reduceLE, Nat.reduceLT, Nat.lt_irrefl, Nat.reduceBEq, tys0, tys1, tys2, tys3, tys4, tys5, tys6, tys7, tys8, tys9, tys10, tys11, tys12, tys13, tys14, tys15, tys16, tys17, tys18, tys19, tys20, tys21, tys22, tys23, Try.ntmps80, Try.results80, swC, e5]
    rcases hnx with ⟨g1, g2⟩ | ⟨g1, g2⟩
    · exact ⟨⟨p.n + 1, p.i, swStep p.s true, p.X⟩, .inl ⟨by simp [g1], g2⟩, by simp only; omega, by repeat constructor, rfl⟩
    · exact ⟨⟨p.n + 1, stepP p.i, swStep p.s true, p.X⟩, .inr ⟨g1, g2⟩, by simp only; omega, by repeat constructor, rfl⟩
theorem shSimplest_nc (q : Fr) (r : List Fr) (hll : ([] : List Fr).length ≤ 1048576) (hrl : (q :: r).length ≤ 1048576) (hl : ∀ a ∈ ([] : List Fr), FB a) (hr : ∀ a ∈ (q :: r), FB a) : Ct Try.prog 80 [.sl false [], .sl false (frE q :: r.map frE)] [] (simR ([] : List Fr) (q :: r)) [] := by
  have pr : pureL (r.map frE) = true := frs_pure r
  have prn : pureL ((r.map negF).map frE) = true := frs_pure (r.map negF)
  have hlenr : ((0 : Int) < ((r.length + 1 : Nat) : Int)) := by omega
  refine Ct.by_ hmix [] Try.func80 rfl ?_
  simp only [run0, run1, run2, run3, run4, run5, run6, run7, run8, run9, run10, run11, run12, run13, run14, run15, run16, run17, run18, run19, run20, run21, run22, reduceCtorEq, Nat.reduceEqDiff, Nat.reduceAdd, Nat.reduceSub, Nat.reduceLeDiff, indexAddrA, indexRefA, appendA, strA, Nat.reduceMul, Nat.zero_mul, Nat.reduceMod, Int.reduceEq, Int.reduceLT, Int.reduceLE, Nat.reduceLT, Nat.lt_irrefl, Nat.reduceBEq, tys0, tys1, tys2, tys3, tys4, tys5, tys6, tys7, tys8, tys9, tys10, tys11, tys12, tys13, tys14, tys15, tys16, tys17, tys18, tys19, tys20, tys21, tys22, tys23, Try.ntmps80, Try.results80, swV]
  refine RunL.callp rfl rfl ok_f123 (shStart_ok) (by first | rfl | simp only [pureL, pureB, Bool.and_self, Bool.and_true, Bool.true_and]) rfl ?_
  simp only [run0, run1, run2, run3, run4, run5, run6, run7, run8, run9, run10, run11, run12, run13, run14, run15, run16, run17, run18, run19, run20, run21, run22, reduceCtorEq, Nat.reduceEqDiff, Nat.reduceAdd, Nat.reduceSub, Nat.reduceLeDiff, indexAddrA, indexRefA, appendA, strA, Nat.reduceMul, Nat.zero_mul, Nat.reduceMod, Int.reduceEq, Int.reduceLT, Int.reduceLE, Nat.reduceLT, Nat.lt_irrefl, Nat.reduceBEq, tys0, tys1, tys2, tys3, tys4, tys5, tys6, tys7, tys8, tys9, tys10, tys11, tys12, tys13, tys14, tys15, tys16, tys17, tys18, tys19, tys20, tys21, tys22, tys23, Try.ntmps80, Try.results80, swV]
  refine AWp.loop_inv (ι := SiS) (fun p => ⟨[.sl false [], .sl false (frE q :: r.map frE), .junk, .junk, .ptr 0 0, .bool false, .ptr 1 0, .int .i64 p.n, .junk, .junk, .junk, .junk, .junk, .junk, .junk, .junk, .junk, .junk, .junk, .junk, .junk, .junk, .junk, .junk, .junk, .junk, .junk, .junk, .junk, .junk, .junk, .junk, .junk, .junk, .junk, .junk, .junk, .junk, .junk, .junk, .junk, .junk, .junk, .junk, .junk, .junk, .junk, .junk, .junk, .junk, .junk, .junk, .junk, .junk, .junk, .junk], .box 42 [.int .i64 0, .int .i64 0] :: .box 144 (swC p.s) :: p.X⟩)
    (fun p => (p.n = 21 ∧ cutBad ([] : List Fr) (q :: r) = true) ∨ (p.n ≤ 20 ∧ SiI ([] : List Fr) (q :: r) p)) (fun p => 21 - p.n) ⟨0, wk0, sw0, []⟩ (.inr ⟨by decide, SiI.start _ _⟩) ⟨by simp only [Int.natCast_zero]; repeat constructor, rfl⟩ ?_
  rintro p hI
  refine W.sound hmix (E := []) ?_
  rcases hI with ⟨hn, hbad⟩ | ⟨hn, hI⟩
  · have e1 : ¬ ((p.n : Int) ≤ 20) := by omega
    simp only [run0, run1, run2, run3, run4, run5, run6, run7, run8, run9, run10, run11, run12, run13, run14, run15, run16, run17, run18, run19, run20, run21, run22, reduceCtorEq, Nat.reduceEqDiff, Nat.reduceAdd, Nat.reduceSub, Nat.reduceLeDiff, indexAddrA, indexRefA, appendA, strA, Nat.reduceMul, Nat.zero_mul, Nat.reduceMod, Int.reduceEq, Int.reduceLT, Int.reduceLE, Nat.reduceLT, Nat.lt_irrefl, Nat.reduceBEq, tys0, tys1, tys2, tys3, tys4, tys5, tys6, tys7, tys8, tys9, tys10, tys11, tys12, tys13, tys14, tys15, tys16, tys17, tys18, tys19, tys20, tys21, tys22, tys23, Try.ntmps80, Try.results80, e1]
    exact Fin.eq (by simp [simR, hbad, frE]) rfl
  have e1 : (p.n : Int) ≤ 20 := by omega
  have e5 : IntKind.i64.wrap ((p.n : Int) + 1) = ((p.n + 1 : Nat) : Int) := by rw [i64_id (by omega) (by omega)]; simp
  have hx := hI.small hn
  have hle := hI.le hn hr
  have hc2 := cmpQ_ok (leastF q r) (p.s.an, p.s.ad)
  have hng := shNeg_ok (mostF (negF q) (r.map negF)).1 (mostF (negF q) (r.map negF)).2
  have hmm := shMost_ok (negF q) (r.map negF) (by simpa using hrl)
  simp only [fr, frE] at hc2 hng hmm
  rcases hD : (q :: r).any (geB p.i.x) with _ | _
  · have d1 : ¬ (cmpQ (leastF q r) (p.s.an, p.s.ad) ≤ 0) := (fun e => by rw [hle.1 e] at hD; cases hD)
    simp only [run0, run1, run2, run3, run4, run5, run6, run7, run8, run9, run10, run11, run12, run13, run14, run15, run16, run17, run18, run19, run20, run21, run22, reduceCtorEq, Nat.reduceEqDiff, Nat.reduceAdd, Nat.reduceSub, Nat.reduceLeDiff, indexAddrA, indexRefA, appendA, strA, Nat.reduceMul, Nat.zero_mul, Nat.reduceMod, Int.reduceEq, Int.reduceLT, Int.reduceLE, Nat.reduceLT, Nat.lt_irrefl, Nat.reduceBEq, tys0, tys1, tys2, tys3, tys4, tys5, tys6, tys7, tys8, tys9, tys10, tys11, tys12, tys13, tys14, tys15, tys16, tys17, tys18, tys19, tys20, tys21, tys22, tys23, Try.ntmps80, Try.results80, swC, e1, List.length_map, Int.natCast_zero, Int.lt_irrefl, hlenr, d1]
    refine ⟨by kernel_rfl, ?_⟩
    refine ⟨by kernel_rfl, ?_⟩
    refine RunL.callp rfl rfl ok_f126 (shNegAll_ok (q :: r) hrl) (by simp only [List.map_cons, pureL, pureB, frE, pr, Bool.and_self, Bool.and_true, Bool.true_and]) rfl ?_
    simp only [run0, run1, run2, run3, run4, run5, run6, run7, run8, run9, run10, run11, run12, run13, run14, run15, run16, run17, run18, run19, run20, run21, run22, reduceCtorEq, Nat.reduceEqDiff, Nat.reduceAdd, Nat.reduceSub, Nat.reduceLeDiff, indexAddrA, indexRefA, appendA, strA, Nat.reduceMul, Nat.zero_mul, Nat.reduceMod, Int.reduceEq, Int.reduceLT, Int.reduceLE, Nat.reduceLT, Nat.lt_irrefl, Nat.reduceBEq, tys0, tys1, tys2, tys3, tys4, tys5, tys6, tys7, tys8, tys9, tys10, tys11, tys12, tys13, tys14, tys15, tys16, tys17, tys18, tys19, tys20, tys21, tys22, tys23, Try.ntmps80, Try.results80, swC, frE]
    refine RunL.callp rfl rfl ok_f124 hmm (by simp only [pureL, pureB, prn, Bool.and_self, Bool.and_true, Bool.true_and]) rfl ?_
    simp only [run0, run1, run2, run3, run4, run5, run6, run7, run8, run9, run10, run11, run12, run13, run14, run15, run16, run17, run18, run19, run20, run21, run22, reduceCtorEq, Nat.reduceEqDiff, Nat.reduceAdd, Nat.reduceSub, Nat.reduceLeDiff, indexAddrA, indexRefA, appendA, strA, Nat.reduceMul, Nat.zero_mul, Nat.reduceMod, Int.reduceEq, Int.reduceLT, Int.reduceLE, Nat.reduceLT, Nat.lt_irrefl, Nat.reduceBEq, tys0, tys1, tys2, tys3, tys4, tys5, tys6, tys7, tys8, tys9, tys10, tys11, tys12, tys13, tys14, tys15, tys16, tys17, tys18, tys19, tys20, tys21, tys22, tys23, Try.ntmps80, Try.results80, swC, frE]
    refine RunL.callp rfl rfl ok_f125 (hng) (by first | rfl | simp only [pureL, pureB, Bool.and_self, Bool.and_true, Bool.true_and]) rfl ?_
    simp only [run0, run1, run2, run3, run4, run5, run6, run7, run8, run9, run10, run11, run12, run13, run14, run15, run16, run17, run18, run19, run20, run21, run22, reduceCtorEq, Nat.reduceEqDiff, Nat.reduceAdd, Nat.reduceSub, Nat.reduceLeDiff, indexAddrA, indexRefA, appendA, strA, Nat.reduceMul, Nat.zero_mul, Nat.reduceMod, Int.reduceEq, Int.reduceLT, Int.reduceLE, Nat.reduceLT, Nat.lt_irrefl, Nat.reduceBEq, tys0, tys1, tys2, tys3, tys4, tys5, tys6, tys7, tys8, tys9, tys10, tys11, tys12, tys13, tys14, tys15, tys16, tys17, tys18, tys19, tys20, tys21, tys22, tys23, Try.ntmps80, Try.results80, swC]
    refine RunL.callp rfl rfl ok_f78 (hc2) (by first | rfl | simp only [pureL, pureB, Bool.and_self, Bool.and_true, Bool.true_and]) rfl ?_
    simp only [run0, run1, run2, run3, run4, run5, run6, run7, run8, run9, run10, run11, run12, run13, run14, run15, run16, run17, run18, run19, run20, run21, run22, reduceCtorEq, Nat.reduceEqDiff, Nat.reduceAdd, Nat.reduceSub, Nat.reduceLeDiff, indexAddrA, indexRefA, appendA, strA, Nat.reduceMul, Nat.zero_mul, Nat.reduceMod, Int.reduceEq, Int.reduceLT, Int.reduceLE, Nat.reduceLT, Nat.lt_irrefl, Nat.reduceBEq, tys0, tys1, tys2, tys3, tys4, tys5, tys6, tys7, tys8, tys9, tys10, tys11, tys12, tys13, tys14, tys15, tys16, tys17, tys18, tys19, tys20, tys21, tys22, tys23, Try.ntmps80, Try.results80, swC, e1, List.length_map, Int.natCast_zero, Int.lt_irrefl, hlenr, d1]
    exact Fin.eq (by rw [hI.none_ hn rfl hD]; rfl) rfl
  · have d1 : (cmpQ (leastF q r) (p.s.an, p.s.ad) ≤ 0) := hle.2 hD
    simp only [run0, run1, run2, run3, run4, run5, run6, run7, run8, run9, run10, run11, run12, run13, run14, run15, run16, run17, run18, run19, run20, run21, run22, reduceCtorEq, Nat.reduceEqDiff, Nat.reduceAdd, Nat.reduceSub, Nat.reduceLeDiff, indexAddrA, indexRefA, appendA, strA, Nat.reduceMul, Nat.zero_mul, Nat.reduceMod, Int.reduceEq, Int.reduceLT, Int.reduceLE, Nat.reduceLT, Nat.lt_irrefl, Nat.reduceBEq, tys0, tys1, tys2, tys3, tys4, tys5, tys6, tys7, tys8, tys9, tys10, tys11, tys12, tys13, tys14, tys15, tys16, tys17, tys18, tys19, tys20, tys21, tys22, tys23, Try.ntmps80, Try.results80, swC, e1, List.length_map, Int.natCast_zero, Int.lt_irrefl, hlenr, d1]
    refine ⟨by kernel_rfl, ?_⟩
    refine ⟨by kernel_rfl, ?_⟩
    refine RunL.callp rfl rfl ok_f126 (shNegAll_ok (q :: r) hrl) (by simp only [List.map_cons, pureL, pureB, frE, pr, Bool.and_self, Bool.and_true, Bool.true_and]) rfl ?_
    simp only [run0, run1, run2, run3, run4, run5, run6, run7, run8, run9, run10, run11, run12, run13, run14, run15, run16, run17, run18, run19, run20, run21, run22, reduceCtorEq, Nat.reduceEqDiff, Nat.reduceAdd, Nat.reduceSub, Nat.reduceLeDiff, indexAddrA, indexRefA, appendA, strA, Nat.reduceMul, Nat.zero_mul, Nat.reduceMod, Int.reduceEq, Int.reduceLT, Int.reduceLE, Nat.reduceLT, Nat.lt_irrefl, Nat.reduceBEq, tys0, tys1, tys2, tys3, tys4, tys5, tys6, tys7, tys8, tys9, tys10, tys11, tys12, tys13, tys14, tys15, tys16, tys17, tys18, tys19, tys20, tys21, tys22, tys23, Try.ntmps80, Try.results80, swC, frE]
    refine RunL.callp rfl rfl ok_f124 hmm (by simp only [pureL, pureB, prn, Bool.and_self, Bool.and_true, Bool.true_and]) rfl ?_
    simp only [run0, run1, run2, run3, run4, run5, run6, run7, run8, run9, run10, run11, run12, run13, run14, run15, run16, run17, run18, run19, run20, run21, run22, reduceCtorEq, Nat.reduceEqDiff, Nat.reduceAdd, Nat.reduceSub, Nat.reduceLeDiff, indexAddrA, indexRefA, appendA, strA, Nat.reduceMul, Nat.zero_mul, Nat.reduceMod, Int.reduceEq, Int.reduceLT, Int.reduceLE, Nat.reduceLT, Nat.lt_irrefl, Nat.reduceBEq, tys0, tys1, tys2, tys3, tys4, tys5, tys6, tys7, tys8, tys9, tys10, tys11, tys12, tys13, tys14, tys15, tys16, tys17, tys18, tys19, tys20, tys21, tys22, tys23, Try.ntmps80, Try.results80, swC, frE]
    refine RunL.callp rfl rfl ok_f125 (hng) (by first | rfl | simp only [pureL, pureB, Bool.and_self, Bool.and_true, Bool.true_and]) rfl ?_
    simp only [run0, run1, run2, run3, run4, run5, run6, run7, run8, run9, run10, run11, run12, run13, run14, run15, run16, run17, run18, run19, run20, run21, run22, reduceCtorEq, Nat.reduceEqDiff, Nat.reduceAdd, Nat.reduceSub, Nat.reduceLeDiff, indexAddrA, indexRefA, appendA, strA, Nat.reduceMul, Nat.zero_mul, Nat.reduceMod, Int.reduceEq, Int.reduceLT, Int.reduceLE, Nat.reduceLT, Nat.lt_irrefl, Nat.reduceBEq, tys0, tys1, tys2, tys3, tys4, tys5, tys6, tys7, tys8, tys9, tys10, tys11, tys12, tys13, tys14, tys15, tys16, tys17, tys18, tys19, tys20, tys21, tys22, tys23, Try.ntmps80, Try.results80, swC]
    refine RunL.callp rfl rfl ok_f78 (hc2) (by first | rfl | simp only [pureL, pureB, Bool.and_self, Bool.and_true, Bool.true_and]) rfl ?_
    simp only [run0, run1, run2, run3, run4, run5, run6, run7, run8, run9, run10, run11, run12, run13, run14, run15, run16, run17, run18, run19, run20, run21, run22, reduceCtorEq, Nat.reduceEqDiff, Nat.reduceAdd, Nat.reduceSub, Nat.reduceLeDiff, indexAddrA, indexRefA, appendA, strA, Nat.reduceMul, Nat.zero_mul, Nat.reduceMod, Int.reduceEq, Int.reduceLT, Int.reduceLE, Nat.reduceLT, Nat.lt_irrefl, Nat.reduceBEq, tys0, tys1, tys2, tys3, tys4, tys5, tys6, tys7, tys8, tys9, tys10, tys11, tys12, tys13, tys14, tys15, tys16, tys17, tys18, tys19, tys20, tys21, tys22, tys23, Try.ntmps80, Try.results80, swC, e1, List.length_map, Int.natCast_zero, Int.lt_irrefl, hlenr, d1]
    obtain ⟨hok, hnx⟩ := hI.down hn rfl hD p.X
    have hst := step_ok p.s false hok
    simp only [swV] at hst
    refine RunL.callp rfl rfl ok_f127 (hst) (by first | rfl | simp only [pureL, pureB, Bool.and_self, Bool.and_true, Bool.true_and]) rfl ?_
    simp only [run0, run1, run2, run3, run4, run5, run6, run7, run8, run9, run10, run11, run12, run13, run14, run15, run16, run17, run18, run19, run20, run21, run22, reduceCtorEq, Nat.reduceEqDiff, Nat.reduceAdd, Nat.reduceSub, Nat.reduceLeDiff, indexAddrA, indexRefA, appendA, strA, Nat.reduceMul, Nat.zero_mul, Nat.reduceMod, Int.reduceEq, Int.reduceLT, Int.reduceLE, Nat.reduceLT, Nat.lt_irrefl, Nat.reduceBEq, tys0, tys1, tys2, tys3, tys4, tys5, tys6, tys7, tys8, tys9, tys10, tys11, tys12, tys13, tys14, tys15, tys16, tys17, tys18, tys19, tys20, tys21, tys22, tys23, Try.ntmps80, Try.results80, swC, e5]
    rcases hnx with ⟨g1, g2⟩ | ⟨g1, g2⟩
    · exact ⟨⟨p.n + 1, p.i, swStep p.s false, p.X⟩, .inl ⟨by simp [g1], g2⟩, by simp only; omega, by repeat constructor, rfl⟩
    · exact ⟨⟨p.n + 1, stepM p.i, swStep p.s false, p.X⟩, .inr ⟨g1, g2⟩, by simp only; omega, by repeat constructor, rfl⟩
theorem shSimplest_cc (o : Fr) (l : List Fr) (q : Fr) (r : List Fr) (hll : (o :: l).length ≤ 1048576) (hrl : (q :: r).length ≤ 1048576) (hl : ∀ a ∈ (o :: l), FB a) (hr : ∀ a ∈ (q :: r), FB a) : Ct Try.prog 80 [.sl false (frE o :: l.map frE), .sl false (frE q :: r.map frE)] [] (simR (o :: l) (q :: r)) [] := by
  have pl : pureL (l.map frE) = true := frs_pure l
  have hlen : ((0 : Int) < ((l.length + 1 : Nat) : Int)) := by omega
  have pr : pureL (r.map frE) = true := frs_pure r
  have prn : pureL ((r.map negF).map frE) = true := frs_pure (r.map negF)
  have hlenr : ((0 : Int) < ((r.length + 1 : Nat) : Int)) := by omega
  refine Ct.by_ hmix [] Try.func80 rfl ?_
  simp only [run0, run1, run2, run3, run4, run5, run6, run7, run8, run9, run10, run11, run12, run13, run14, run15, run16, run17, run18, run19, run20, run21, run22, reduceCtorEq, Nat.reduceEqDiff, Nat.reduceAdd, Nat.reduceSub, Nat.reduceLeDiff, indexAddrA, indexRefA, appendA, strA, Nat.reduceMul, Nat.zero_mul, Nat.reduceMod, Int.reduceEq, Int.reduceLT, Int.reduceLE, Nat.reduceLT, Nat.lt_irrefl, Nat.reduceBEq, tys0, tys1, tys2, tys3, tys4, tys5, tys6, tys7, tys8, tys9, tys10, tys11, tys12, tys13, tys14, tys15, tys16, tys17, tys18, tys19, tys20, tys21, tys22, tys23, Try.ntmps80, Try.results80, swV]
  refine RunL.callp rfl rfl ok_f123 (shStart_ok) (by first | rfl | simp only [pureL, pureB, Bool.and_self, Bool.and_true, Bool.true_and]) rfl ?_
  simp only [run0, run1, run2, run3, run4, run5, run6, run7, run8, run9, run10, run11, run12, run13, run14, run15, run16, run17, run18, run19, run20, run21, run22, reduceCtorEq, Nat.reduceEqDiff, Nat.reduceAdd, Nat.reduceSub, Nat.reduceLeDiff, indexAddrA, indexRefA, appendA, strA, Nat.reduceMul, Nat.zero_mul, Nat.reduceMod, Int.reduceEq, Int.reduceLT, Int.reduceLE, Nat.reduceLT, Nat.lt_irrefl, Nat.reduceBEq, tys0, tys1, tys2, tys3, tys4, tys5, tys6, tys7, tys8, tys9, tys10, tys11, tys12, tys13, tys14, tys15, tys16, tys17, tys18, tys19, tys20, tys21, tys22, tys23, Try.ntmps80, Try.results80, swV]
  refine AWp.loop_inv (ι := SiS) (fun p => ⟨[.sl false (frE o :: l.map frE), .sl false (frE q :: r.map frE), .junk, .junk, .ptr 0 0, .bool false, .ptr 1 0, .int .i64 p.n, .junk, .junk, .junk, .junk, .junk, .junk, .junk, .junk, .junk, .junk, .junk, .junk, .junk, .junk, .junk, .junk, .junk, .junk, .junk, .junk, .junk, .junk, .junk, .junk, .junk, .junk, .junk, .junk, .junk, .junk, .junk, .junk, .junk, .junk, .junk, .junk, .junk, .junk, .junk, .junk, .junk, .junk, .junk, .junk, .junk, .junk, .junk, .junk], .box 42 [.int .i64 0, .int .i64 0] :: .box 144 (swC p.s) :: p.X⟩)
    (fun p => (p.n = 21 ∧ cutBad (o :: l) (q :: r) = true) ∨ (p.n ≤ 20 ∧ SiI (o :: l) (q :: r) p)) (fun p => 21 - p.n) ⟨0, wk0, sw0, []⟩ (.inr ⟨by decide, SiI.start _ _⟩) ⟨by simp only [Int.natCast_zero]; repeat constructor, rfl⟩ ?_
  rintro p hI
  refine W.sound hmix (E := []) ?_
  rcases hI with ⟨hn, hbad⟩ | ⟨hn, hI⟩
  · have e1 : ¬ ((p.n : Int) ≤ 20) := by omega
    simp only [run0, run1, run2, run3, run4, run5, run6, run7, run8, run9, run10, run11, run12, run13, run14, run15, run16, run17, run18, run19, run20, run21, run22, reduceCtorEq, Nat.reduceEqDiff, Nat.reduceAdd, Nat.reduceSub, Nat.reduceLeDiff, indexAddrA, indexRefA, appendA, strA, Nat.reduceMul, Nat.zero_mul, Nat.reduceMod, Int.reduceEq, Int.reduceLT, Int.reduceLE, Nat.reduceLT, Nat.lt_irrefl, Nat.reduceBEq, tys0, tys1, tys2, tys3, tys4, tys5, tys6, tys7, tys8, tys9, tys10, tys11, tys12, tys13, tys14, tys15, tys16, tys17, tys18, tys19, tys20, tys21, tys22, tys23, Try.ntmps80, Try.results80, e1]
    exact Fin.eq (by simp [simR, hbad, frE]) rfl
  have e1 : (p.n : Int) ≤ 20 := by omega
  have e5 : IntKind.i64.wrap ((p.n : Int) + 1) = ((p.n + 1 : Nat) : Int) := by rw [i64_id (by omega) (by omega)]; simp
  have hx := hI.small hn
  have hge := hI.ge hn hl
  have hc1 := cmpQ_ok (mostF o l) (p.s.an, p.s.ad)
  have hle := hI.le hn hr
  have hc2 := cmpQ_ok (leastF q r) (p.s.an, p.s.ad)
  have hng := shNeg_ok (mostF (negF q) (r.map negF)).1 (mostF (negF q) (r.map negF)).2
  have hmm := shMost_ok (negF q) (r.map negF) (by simpa using hrl)
  simp only [fr, frE] at hc1 hc2 hng hmm
  rcases hU : (o :: l).any (leB p.i.x) with _ | _
  · rcases hD : (q :: r).any (geB p.i.x) with _ | _
    · have u1 : ¬ (0 ≤ cmpQ (mostF o l) (p.s.an, p.s.ad)) := (fun e => by rw [hge.1 e] at hU; cases hU)
      have d1 : ¬ (cmpQ (leastF q r) (p.s.an, p.s.ad) ≤ 0) := (fun e => by rw [hle.1 e] at hD; cases hD)
      simp only [run0, run1, run2, run3, run4, run5, run6, run7, run8, run9, run10, run11, run12, run13, run14, run15, run16, run17, run18, run19, run20, run21, run22, reduceCtorEq, Nat.reduceEqDiff, Nat.reduceAdd, Nat.reduceSub, Nat.reduceLeDiff, indexAddrA, indexRefA, appendA, strA, Nat.reduceMul, Nat.zero_mul, Nat.reduceMod, Int.reduceEq, Int.reduceLT, Int.reduceLE, Nat.reduceLT, Nat.lt_irrefl, Nat.reduceBEq, tys0, tys1, tys2, tys3, tys4, tys5, tys6, tys7, tys8, tys9, tys10, tys11, tys12, tys13, tys14, tys15, tys16, tys17, tys18, tys19, tys20, tys21, tys22, tys23, Try.ntmps80, Try.results80, swC, e1, List.length_map, Int.natCast_zero, Int.lt_irrefl, hlen, hlenr, u1, d1]
      refine ⟨by kernel_rfl, ?_⟩
      refine RunL.callp rfl rfl ok_f124 (shMost_ok o l hll) (by simp only [pureL, pureB, frE, pl, Bool.and_self, Bool.and_true, Bool.true_and]) rfl ?_
      simp only [run0, run1, run2, run3, run4, run5, run6, run7, run8, run9, run10, run11, run12, run13, run14, run15, run16, run17, run18, run19, run20, run21, run22, reduceCtorEq, Nat.reduceEqDiff, Nat.reduceAdd, Nat.reduceSub, Nat.reduceLeDiff, indexAddrA, indexRefA, appendA, strA, Nat.reduceMul, Nat.zero_mul, Nat.reduceMod, Int.reduceEq, Int.reduceLT, Int.reduceLE, Nat.reduceLT, Nat.lt_irrefl, Nat.reduceBEq, tys0, tys1, tys2, tys3, tys4, tys5, tys6, tys7, tys8, tys9, tys10, tys11, tys12, tys13, tys14, tys15, tys16, tys17, tys18, tys19, tys20, tys21, tys22, tys23, Try.ntmps80, Try.results80, swC, frE]
      refine RunL.callp rfl rfl ok_f78 (hc1) (by first | rfl | simp only [pureL, pureB, Bool.and_self, Bool.and_true, Bool.true_and]) rfl ?_
      simp only [run0, run1, run2, run3, run4, run5, run6, run7, run8, run9, run10, run11, run12, run13, run14, run15, run16, run17, run18, run19, run20, run21, run22, reduceCtorEq, Nat.reduceEqDiff, Nat.reduceAdd, Nat.reduceSub, Nat.reduceLeDiff, indexAddrA, indexRefA, appendA, strA, Nat.reduceMul, Nat.zero_mul, Nat.reduceMod, Int.reduceEq, Int.reduceLT, Int.reduceLE, Nat.reduceLT, Nat.lt_irrefl, Nat.reduceBEq, tys0, tys1, tys2, tys3, tys4, tys5, tys6, tys7, tys8, tys9, tys10, tys11, tys12, tys13, tys14, tys15, tys16, tys17, tys18, tys19, tys20, tys21, tys22, tys23, Try.ntmps80, Try.results80, swC, e1, List.length_map, Int.natCast_zero, Int.lt_irrefl, hlen, hlenr, u1, d1]
      refine ⟨by kernel_rfl, ?_⟩
      refine RunL.callp rfl rfl ok_f126 (shNegAll_ok (q :: r) hrl) (by simp only [List.map_cons, pureL, pureB, frE, pr, Bool.and_self, Bool.and_true, Bool.true_and]) rfl ?_
      simp only [run0, run1, run2, run3, run4, run5, run6, run7, run8, run9, run10, run11, run12, run13, run14, run15, run16, run17, run18, run19, run20, run21, run22, reduceCtorEq, Nat.reduceEqDiff, Nat.reduceAdd, Nat.reduceSub, Nat.reduceLeDiff, indexAddrA, indexRefA, appendA, strA, Nat.reduceMul, Nat.zero_mul, Nat.reduceMod, Int.reduceEq, Int.reduceLT, Int.reduceLE, Nat.reduceLT, Nat.lt_irrefl, Nat.reduceBEq, tys0, tys1, tys2, tys3, tys4, tys5, tys6, tys7, tys8, tys9, tys10, tys11, tys12, tys13, tys14, tys15, tys16, tys17, tys18, tys19, tys20, tys21, tys22, tys23, Try.ntmps80, Try.results80, swC, frE]
      refine RunL.callp rfl rfl ok_f124 hmm (by simp only [pureL, pureB, prn, Bool.and_self, Bool.and_true, Bool.true_and]) rfl ?_
      simp only [run0, run1, run2, run3, run4, run5, run6, run7, run8, run9, run10, run11, run12, run13, run14, run15, run16, run17, run18, run19, run20, run21, run22, reduceCtorEq, Nat.reduceEqDiff, Nat.reduceAdd, Nat.reduceSub, Nat.reduceLeDiff, indexAddrA, indexRefA, appendA, strA, Nat.reduceMul, Nat.zero_mul, Nat.reduceMod, Int.reduceEq, Int.reduceLT, Int.reduceLE, Nat.reduceLT, Nat.lt_irrefl, Nat.reduceBEq, tys0, tys1, tys2, tys3, tys4, tys5, tys6, tys7, tys8, tys9, tys10, tys11, tys12, tys13, tys14, tys15, tys16, tys17, tys18, tys19, tys20, tys21, tys22, tys23, Try.ntmps80, Try.results80, swC, frE]
      refine RunL.callp rfl rfl ok_f125 (hng) (by first | rfl | simp only [pureL, pureB, Bool.and_self, Bool.and_true, Bool.true_and]) rfl ?_
      simp only [run0, run1, run2, run3, run4, run5, run6, run7, run8, run9, run10, run11, run12, run13, run14, run15, run16, run17, run18, run19, run20, run21, run22, reduceCtorEq, Nat.reduceEqDiff, Nat.reduceAdd, Nat.reduceSub, Nat.reduceLeDiff, indexAddrA, indexRefA, appendA, strA, Nat.reduceMul, Nat.zero_mul, Nat.reduceMod, Int.reduceEq, Int.reduceLT, Int.reduceLE, Nat.reduceLT, Nat.lt_irrefl, Nat.reduceBEq, tys0, tys1, tys2, tys3, tys4, tys5, tys6, tys7, tys8, tys9, tys10, tys11, tys12, tys13, tys14, tys15, tys16, tys17, tys18, tys19, tys20, tys21, tys22, tys23, Try.ntmps80, Try.results80, swC]
      refine RunL.callp rfl rfl ok_f78 (hc2) (by first | rfl | simp only [pureL, pureB, Bool.and_self, Bool.and_true, Bool.true_and]) rfl ?_
      simp only [run0, run1, run2, run3, run4, run5, run6, run7, run8, run9, run10, run11, run12, run13, run14, run15, run16, run17, run18, run19, run20, run21, run22, reduceCtorEq, Nat.reduceEqDiff, Nat.reduceAdd, Nat.reduceSub, Nat.reduceLeDiff, indexAddrA, indexRefA, appendA, strA, Nat.reduceMul, Nat.zero_mul, Nat.reduceMod, Int.reduceEq, Int.reduceLT, Int.reduceLE, Nat.reduceLT, Nat.lt_irrefl, Nat.reduceBEq, tys0, tys1, tys2, tys3, tys4, tys5, tys6, tys7, tys8, tys9, tys10, tys11, tys12, tys13, tys14, tys15, tys16, tys17, tys18, tys19, tys20, tys21, tys22, tys23, Try.ntmps80, Try.results80, swC, e1, List.length_map, Int.natCast_zero, Int.lt_irrefl, hlen, hlenr, u1, d1]
      exact Fin.eq (by rw [hI.none_ hn hU hD]; rfl) rfl
    · have u1 : ¬ (0 ≤ cmpQ (mostF o l) (p.s.an, p.s.ad)) := (fun e => by rw [hge.1 e] at hU; cases hU)
      have d1 : (cmpQ (leastF q r) (p.s.an, p.s.ad) ≤ 0) := hle.2 hD
      simp only [run0, run1, run2, run3, run4, run5, run6, run7, run8, run9, run10, run11, run12, run13, run14, run15, run16, run17, run18, run19, run20, run21, run22, reduceCtorEq, Nat.reduceEqDiff, Nat.reduceAdd, Nat.reduceSub, Nat.reduceLeDiff, indexAddrA, indexRefA, appendA, strA, Nat.reduceMul, Nat.zero_mul, Nat.reduceMod, Int.reduceEq, Int.reduceLT, Int.reduceLE, Nat.reduceLT, Nat.lt_irrefl, Nat.reduceBEq, tys0, tys1, tys2, tys3, tys4, tys5, tys6, tys7, tys8, tys9, tys10, tys11, tys12, tys13, tys14, tys15, tys16, tys17, tys18, tys19, tys20, tys21, tys22, tys23, Try.ntmps80, Try.results80, swC, e1, List.length_map, Int.natCast_zero, Int.lt_irrefl, hlen, hlenr, u1, d1]
      refine ⟨by kernel_rfl, ?_⟩
      refine RunL.callp rfl rfl ok_f124 (shMost_ok o l hll) (by simp only [pureL, pureB, frE, pl, Bool.and_self, Bool.and_true, Bool.true_and]) rfl ?_
      simp only [run0, run1, run2, run3, run4, run5, run6, run7, run8, run9, run10, run11, run12, run13, run14, run15, run16, run17, run18, run19, run20, run21, run22, reduceCtorEq, Nat.reduceEqDiff, Nat.reduceAdd, Nat.reduceSub, Nat.reduceLeDiff, indexAddrA, indexRefA, appendA, strA, Nat.reduceMul, Nat.zero_mul, Nat.reduceMod, Int.reduceEq, Int.reduceLT, Int.reduceLE, Nat.reduceLT, Nat.lt_irrefl, Nat.reduceBEq, tys0, tys1, tys2, tys3, tys4, tys5, tys6, tys7, tys8, tys9, tys10, tys11, tys12, tys13, tys14, tys15, tys16, tys17, tys18, tys19, tys20, tys21, tys22, tys23, Try.ntmps80, Try.results80, swC, frE]
      refine RunL.callp rfl rfl ok_f78 (hc1) (by first | rfl | simp only [pureL, pureB, Bool.and_self, Bool.and_true, Bool.true_and]) rfl ?_
      simp only [run0, run1, run2, run3, run4, run5, run6, run7, run8, run9, run10, run11, run12, run13, run14, run15, run16, run17, run18, run19, run20, run21, run22, reduceCtorEq, Nat.reduceEqDiff, Nat.reduceAdd, Nat.reduceSub, Nat.reduceLeDiff, indexAddrA, indexRefA, appendA, strA, Nat.reduceMul, Nat.zero_mul, Nat.reduceMod, Int.reduceEq, Int.reduceLT, Int.reduceLE, Nat.reduceLT, Nat.lt_irrefl, Nat.reduceBEq, tys0, tys1, tys2, tys3, tys4, tys5, tys6, tys7, tys8, tys9, tys10, tys11, tys12, tys13, tys14, tys15, tys16, tys17, tys18, tys19, tys20, tys21, tys22, tys23, Try.ntmps80, Try.results80, swC, e1, List.length_map, Int.natCast_zero, Int.lt_irrefl, hlen, hlenr, u1, d1]
      refine ⟨by kernel_rfl, ?_⟩
      refine RunL.callp rfl rfl ok_f126 (shNegAll_ok (q :: r) hrl) (by simp only [List.map_cons, pureL, pureB, frE, pr, Bool.and_self, Bool.and_true, Bool.true_and]) rfl ?_
      simp only [run0, run1, run2, run3, run4, run5, run6, run7, run8, run9, run10, run11, run12, run13, run14, run15, run16, run17, run18, run19, run20, run21, run22, reduceCtorEq, Nat.reduceEqDiff, Nat.reduceAdd, Nat.reduceSub, Nat.reduceLeDiff, indexAddrA, indexRefA, appendA, strA, Nat.reduceMul, Nat.zero_mul, Nat.reduceMod, Int.reduceEq, Int.reduceLT, Int.reduceLE, Nat.reduceLT, Nat.lt_irrefl, Nat.reduceBEq, tys0, tys1, tys2, tys3, tys4, tys5, tys6, tys7, tys8, tys9, tys10, tys11, tys12, tys13, tys14, tys15, tys16, tys17, tys18, tys19, tys20, tys21, tys22, tys23, Try.ntmps80, Try.results80, swC, frE]
      refine RunL.callp rfl rfl ok_f124 hmm (by simp only [pureL, pureB, prn, Bool.and_self, Bool.and_true, Bool.true_and]) rfl ?_
      simp only [run0, run1, run2, run3, run4, run5, run6, run7, run8, run9, run10, run11, run12, run13, run14, run15, run16, run17, run18, run19, run20, run21, run22, reduceCtorEq, Nat.reduceEqDiff, Nat.reduceAdd, Nat.reduceSub, Nat.reduceLeDiff, indexAddrA, indexRefA, appendA, strA, Nat.reduceMul, Nat.zero_mul, Nat.reduceMod, Int.reduceEq, Int.reduceLT, Int.reduceLE, Nat.reduceLT, Nat.lt_irrefl, Nat.reduceBEq, tys0, tys1, tys2, tys3, tys4, tys5, tys6, tys7, tys8, tys9, tys10, tys11, tys12, tys13, tys14, tys15, tys16, tys17, tys18, tys19, tys20, tys21, tys22, tys23, Try.ntmps80, Try.results80, swC, frE]
      refine RunL.callp rfl rfl ok_f125 (hng) (by first | rfl | simp only [pureL, pureB, Bool.and_self, Bool.and_true, Bool.true_and]) rfl ?_
      simp only [run0, run1, run2, run3, run4, run5, run6, run7, run8, run9, run10, run11, run12, run13, run14, run15, run16, run17, run18, run19, run20, run21, run22, reduceCtorEq, Nat.reduceEqDiff, Nat.reduceAdd, Nat.reduceSub, Nat.reduceLeDiff, indexAddrA, indexRefA, appendA, strA, Nat.reduceMul, Nat.zero_mul, Nat.reduceMod, Int.reduceEq, Int.reduceLT, Int.reduceLE, Nat.reduceLT, Nat.lt_irrefl, Nat.reduceBEq, tys0, tys1, tys2, tys3, tys4, tys5, tys6, tys7, tys8, tys9, tys10, tys11, tys12, tys13, tys14, tys15, tys16, tys17, tys18, tys19, tys20, tys21, tys22, tys23, Try.ntmps80, Try.results80, swC]
      refine RunL.callp rfl rfl ok_f78 (hc2) (by first | rfl | simp only [pureL, pureB, Bool.and_self, Bool.and_true, Bool.true_and]) rfl ?_
      simp only [run0, run1, run2, run3, run4, run5, run6, run7, run8, run9, run10, run11, run12, run13, run14, run15, run16, run17, run18, run19, run20, run21, run22, reduceCtorEq, Nat.reduceEqDiff, Nat.reduceAdd, Nat.reduceSub, Nat.reduceLeDiff, indexAddrA, indexRefA, appendA, strA, Nat.reduceMul, Nat.zero_mul, Nat.reduceMod, Int.reduceEq, Int.reduceLT, Int.reduceLE, Nat.reduceLT, Nat.lt_irrefl, Nat.reduceBEq, tys0, tys1, tys2, tys3, tys4, tys5, tys6, tys7, tys8, tys9, tys10, tys11, tys12, tys13, tys14, tys15, tys16, tys17, tys18, tys19, tys20, tys21, tys22, tys23, Try.ntmps80, Try.results80, swC, e1, List.length_map, Int.natCast_zero, Int.lt_irrefl, hlen, hlenr, u1, d1]
      obtain ⟨hok, hnx⟩ := hI.down hn hU hD p.X
      have hst := step_ok p.s false hok
      simp only [swV] at hst
      refine RunL.callp rfl rfl ok_f127 (hst) (by first | rfl | simp only [pureL, pureB, Bool.and_self, Bool.and_true, Bool.true_and]) rfl ?_
      simp only [run0, run1, run2, run3, run4, run5, run6, run7, run8, run9, run10, run11, run12, run13, run14, run15, run16, run17, run18, run19, run20, run21, run22, reduceCtorEq, Nat.reduceEqDiff, Nat.reduceAdd, Nat.reduceSub, Nat.reduceLeDiff, indexAddrA, indexRefA, appendA, strA, Nat.reduceMul, Nat.zero_mul, Nat.reduceMod, Int.reduceEq, Int.reduceLT, Int.reduceLE, Nat.reduceLT, Nat.lt_irrefl, Nat.reduceBEq, tys0, tys1, tys2, tys3, tys4, tys5, tys6, tys7, tys8, tys9, tys10, tys11, tys12, tys13, tys14, tys15, tys16, tys17, tys18, tys19, tys20, tys21, tys22, tys23, Try.ntmps80, Try.results80, swC, e5]
      rcases hnx with ⟨g1, g2⟩ | ⟨g1, g2⟩
      · exact ⟨⟨p.n + 1, p.i, swStep p.s false, p.X⟩, .inl ⟨by simp [g1], g2⟩, by simp only; omega, by repeat constructor, rfl⟩
      · exact ⟨⟨p.n + 1, stepM p.i, swStep p.s false, p.X⟩, .inr ⟨g1, g2⟩, by simp only; omega, by repeat constructor, rfl⟩
  · rcases hD : (q :: r).any (geB p.i.x) with _ | _
    · have u1 : (0 ≤ cmpQ (mostF o l) (p.s.an, p.s.ad)) := hge.2 hU
      have d1 : ¬ (cmpQ (leastF q r) (p.s.an, p.s.ad) ≤ 0) := (fun e => by rw [hle.1 e] at hD; cases hD)
      simp only [run0, run1, run2, run3, run4, run5, run6, run7, run8, run9, run10, run11, run12, run13, run14, run15, run16, run17, run18, run19, run20, run21, run22, reduceCtorEq, Nat.reduceEqDiff, Nat.reduceAdd, Nat.reduceSub, Nat.reduceLeDiff, indexAddrA, indexRefA, appendA, strA, Nat.reduceMul, Nat.zero_mul, Nat.reduceMod, Int.reduceEq, Int.reduceLT, Int.reduceLE, Nat.reduceLT, Nat.lt_irrefl, Nat.reduceBEq, tys0, tys1, tys2, tys3, tys4, tys5, tys6, tys7, tys8, tys9, tys10, tys11, tys12, tys13, tys14, tys15, tys16, tys17, tys18, tys19, tys20, tys21, tys22, tys23, Try.ntmps80, Try.results80, swC, e1, List.length_map, Int.natCast_zero, Int.lt_irrefl, hlen, hlenr, u1, d1]
      refine ⟨by kernel_rfl, ?_⟩
      refine RunL.callp rfl rfl ok_f124 (shMost_ok o l hll) (by simp only [pureL, pureB, frE, pl, Bool.and_self, Bool.and_true, Bool.true_and]) rfl ?_
      simp only [run0, run1, run2, run3, run4, run5, run6, run7, run8, run9, run10, run11, run12, run13, run14, run15, run16, run17, run18, run19, run20, run21, run22, reduceCtorEq, Nat.reduceEqDiff, Nat.reduceAdd, Nat.reduceSub, Nat.reduceLeDiff, indexAddrA, indexRefA, appendA, strA, Nat.reduceMul, Nat.zero_mul, Nat.reduceMod, Int.reduceEq, Int.reduceLT, Int.reduceLE, Nat.reduceLT, Nat.lt_irrefl, Nat.reduceBEq, tys0, tys1, tys2, tys3, tys4, tys5, tys6, tys7, tys8, tys9, tys10, tys11, tys12, tys13, tys14, tys15, tys16, tys17, tys18, tys19, tys20, tys21, tys22, tys23, Try.ntmps80, Try.results80, swC, frE]
      refine RunL.callp rfl rfl ok_f78 (hc1) (by first | rfl | simp only [pureL, pureB, Bool.and_self, Bool.and_true, Bool.true_and]) rfl ?_
      simp only [run0, run1, run2, run3, run4, run5, run6, run7, run8, run9, run10, run11, run12, run13, run14, run15, run16, run17, run18, run19, run20, run21, run22, reduceCtorEq, Nat.reduceEqDiff, Nat.reduceAdd, Nat.reduceSub, Nat.reduceLeDiff, indexAddrA, indexRefA, appendA, strA, Nat.reduceMul, Nat.zero_mul, Nat.reduceMod, Int.reduceEq, Int.reduceLT, Int.reduceLE, Nat.reduceLT, Nat.lt_irrefl, Nat.reduceBEq, tys0, tys1, tys2, tys3, tys4, tys5, tys6, tys7, tys8, tys9, tys10, tys11, tys12, tys13, tys14, tys15, tys16, tys17, tys18, tys19, tys20, tys21, tys22, tys23, Try.ntmps80, Try.results80, swC, e1, List.length_map, Int.natCast_zero, Int.lt_irrefl, hlen, hlenr, u1, d1]
      refine ⟨by kernel_rfl, ?_⟩
      refine RunL.callp rfl rfl ok_f126 (shNegAll_ok (q :: r) hrl) (by simp only [List.map_cons, pureL, pureB, frE, pr, Bool.and_self, Bool.and_true, Bool.true_and]) rfl ?_
      simp only [run0, run1, run2, run3, run4, run5, run6, run7, run8, run9, run10, run11, run12, run13, run14, run15, run16, run17, run18, run19, run20, run21, run22, reduceCtorEq, Nat.reduceEqDiff, Nat.reduceAdd, Nat.reduceSub, Nat.reduceLeDiff, indexAddrA, indexRefA, appendA, strA, Nat.reduceMul, Nat.zero_mul, Nat.reduceMod, Int.reduceEq, Int.reduceLT, Int.reduceLE, Nat.reduceLT, Nat.lt_irrefl, Nat.reduceBEq, tys0, tys1, tys2, tys3, tys4, tys5, tys6, tys7, tys8, tys9, tys10, tys11, tys12, tys13, tys14, tys15, tys16, tys17, tys18, tys19, tys20, tys21, tys22, tys23, Try.ntmps80, Try.results80, swC, frE]
      refine RunL.callp rfl rfl ok_f124 hmm (by simp only [pureL, pureB, prn, Bool.and_self, Bool.and_true, Bool.true_and]) rfl ?_
      simp only [run0, run1, run2, run3, run4, run5, run6, run7, run8, run9, run10, run11, run12, run13, run14, run15, run16, run17, run18, run19, run20, run21, run22, reduceCtorEq, Nat.reduceEqDiff, Nat.reduceAdd, Nat.reduceSub, Nat.reduceLeDiff, indexAddrA, indexRefA, appendA, strA, Nat.reduceMul, Nat.zero_mul, Nat.reduceMod, Int.reduceEq, Int.reduceLT, Int.reduceLE, Nat.reduceLT, Nat.lt_irrefl, Nat.reduceBEq, tys0, tys1, tys2, tys3, tys4, tys5, tys6, tys7, tys8, tys9, tys10, tys11, tys12, tys13, tys14, tys15, tys16, tys17, tys18, tys19, tys20, tys21, tys22, tys23, Try.ntmps80, Try.results80, swC, frE]
      refine RunL.callp rfl rfl ok_f125 (hng) (by first | rfl | simp only [pureL, pureB, Bool.and_self, Bool.and_true, Bool.true_and]) rfl ?_
      simp only [run0, run1, run2, run3, run4, run5, run6, run7, run8, run9, run10, run11, run12, run13, run14, run15, run16, run17, run18, run19, run20, run21, run22, reduceCtorEq, Nat.reduceEqDiff, Nat.reduceAdd, Nat.reduceSub, Nat.reduceLeDiff, indexAddrA, indexRefA, appendA, strA, Nat.reduceMul, Nat.zero_mul, Nat.reduceMod, Int.reduceEq, Int.reduceLT, Int.reduceLE, Nat.reduceLT, Nat.lt_irrefl, Nat.reduceBEq, tys0, tys1, tys2, tys3, tys4, tys5, tys6, tys7, tys8, tys9, tys10, tys11, tys12, tys13, tys14, tys15, tys16, tys17, tys18, tys19, tys20, tys21, tys22, tys23, Try.ntmps80, Try.results80, swC]
      refine RunL.callp rfl rfl ok_f78 (hc2) (by first | rfl | simp only [pureL, pureB, Bool.and_self, Bool.and_true, Bool.true_and]) rfl ?_
      simp only [run0, run1, run2, run3, run4, run5, run6, run7, run8, run9, run10, run11, run12, run13, run14, run15, run16, run17, run18, run19, run20, run21, run22, reduceCtorEq, Nat.reduceEqDiff, Nat.reduceAdd, Nat.reduceSub, Nat.reduceLeDiff, indexAddrA, indexRefA, appendA, strA, Nat.reduceMul, Nat.zero_mul, Nat.reduceMod, Int.reduceEq, Int.reduceLT, Int.reduceLE, Nat.reduceLT, Nat.lt_irrefl, Nat.reduceBEq, tys0, tys1, tys2, tys3, tys4, tys5, tys6, tys7, tys8, tys9, tys10, tys11, tys12, tys13, tys14, tys15, tys16, tys17, tys18, tys19, tys20, tys21, tys22, tys23, Try.ntmps80, Try.results80, swC, e1, List.length_map, Int.natCast_zero, Int.lt_irrefl, hlen, hlenr, u1, d1]
      obtain ⟨hok, hnx⟩ := hI.up hn hU p.X
      have hst := step_ok p.s true hok
      simp only [swV] at hst
      refine RunL.callp rfl rfl ok_f127 (hst) (by first | rfl | simp only [pureL, pureB, Bool.and_self, Bool.and_true, Bool.true_and]) rfl ?_
      simp only [run0, run1, run2, run3, run4, run5, run6, run7, run8, run9, run10, run11, run12, run13, run14, run15, run16, run17, run18, run19, run20, run21, run22, reduceCtorEq, Nat.reduceEqDiff, Nat.reduceAdd, Nat.reduceSub, Nat.reduceLeDiff, indexAddrA, indexRefA, appendA, strA, Nat.reduceMul, Nat.zero_mul, Nat.reduceMod, Int.reduceEq, Int.reduceLT, Int.reduceLE, Nat.reduceLT, Nat.lt_irrefl, Nat.reduceBEq, tys0, tys1, tys2, tys3, tys4, tys5, tys6, tys7, tys8, tys9, tys10, tys11, tys12, tys13, tys14, tys15, tys16, tys17, tys18, tys19, tys20, tys21, tys22, tys23, Try.ntmps80, Try.results80, swC, e5]
      rcases hnx with ⟨g1, g2⟩ | ⟨g1, g2⟩
      · exact ⟨⟨p.n + 1, p.i, swStep p.s true, p.X⟩, .inl ⟨by simp [g1], g2⟩, by simp only; omega, by repeat constructor, rfl⟩
      · exact ⟨⟨p.n + 1, stepP p.i, swStep p.s true, p.X⟩, .inr ⟨g1, g2⟩, by simp only; omega, by repeat constructor, rfl⟩
    · have u1 : (0 ≤ cmpQ (mostF o l) (p.s.an, p.s.ad)) := hge.2 hU
      have d1 : (cmpQ (leastF q r) (p.s.an, p.s.ad) ≤ 0) := hle.2 hD
      simp only [run0, run1, run2, run3, run4, run5, run6, run7, run8, run9, run10, run11, run12, run13, run14, run15, run16, run17, run18, run19, run20, run21, run22, reduceCtorEq, Nat.reduceEqDiff, Nat.reduceAdd, Nat.reduceSub, Nat.reduceLeDiff, indexAddrA, indexRefA, appendA, strA, Nat.reduceMul, Nat.zero_mul, Nat.reduceMod, Int.reduceEq, Int.reduceLT, Int.reduceLE, Nat.reduceLT, Nat.lt_irrefl, Nat.reduceBEq, tys0, tys1, tys2, tys3, tys4, tys5, tys6, tys7, tys8, tys9, tys10, tys11, tys12, tys13, tys14, tys15, tys16, tys17, tys18, tys19, tys20, tys21, tys22, tys23, Try.ntmps80, Try.results80, swC, e1, List.length_map, Int.natCast_zero, Int.lt_irrefl, hlen, hlenr, u1, d1]
      refine ⟨by kernel_rfl, ?_⟩
      refine RunL.callp rfl rfl ok_f124 (shMost_ok o l hll) (by simp only [pureL, pureB, frE, pl, Bool.and_self, Bool.and_true, Bool.true_and]) rfl ?_
      simp only [run0, run1, run2, run3, run4, run5, run6, run7, run8, run9, run10, run11, run12, run13, run14, run15, run16, run17, run18, run19, run20, run21, run22, reduceCtorEq, Nat.reduceEqDiff, Nat.reduceAdd, Nat.reduceSub, Nat.reduceLeDiff, indexAddrA, indexRefA, appendA, strA, Nat.reduceMul, Nat.zero_mul, Nat.reduceMod, Int.reduceEq, Int.reduceLT, Int.reduceLE, Nat.reduceLT, Nat.lt_irrefl, Nat.reduceBEq, tys0, tys1, tys2, tys3, tys4, tys5, tys6, tys7, tys8, tys9, tys10, tys11, tys12, tys13, tys14, tys15, tys16, tys17, tys18, tys19, tys20, tys21, tys22, tys23, Try.ntmps80, Try.results80, swC, frE]
      refine RunL.callp rfl rfl ok_f78 (hc1) (by first | rfl | simp only [pureL, pureB, Bool.and_self, Bool.and_true, Bool.true_and]) rfl ?_
      simp only [run0, run1, run2, run3, run4, run5, run6, run7, run8, run9, run10, run11, run12, run13, run14, run15, run16, run17, run18, run19, run20, run21, run22, reduceCtorEq, Nat.reduceEqDiff, Nat.reduceAdd, Nat.reduceSub, Nat.reduceLeDiff, indexAddrA, indexRefA, appendA, strA, Nat.reduceMul, Nat.zero_mul, Nat.reduceMod, Int.reduceEq, Int.reduceLT, Int.reduceLE, Nat.reduceLT, Nat.lt_irrefl, Nat.reduceBEq, tys0, tys1, tys2, tys3, tys4, tys5, tys6, tys7, tys8, tys9, tys10, tys11, tys12, tys13, tys14, tys15, tys16, tys17, tys18, tys19, tys20, tys21, tys22, tys23, Try.ntmps80, Try.results80, swC, e1, List.length_map, Int.natCast_zero, Int.lt_irrefl, hlen, hlenr, u1, d1]
      refine ⟨by kernel_rfl, ?_⟩
      refine RunL.callp rfl rfl ok_f126 (shNegAll_ok (q :: r) hrl) (by simp only [List.map_cons, pureL, pureB, frE, pr, Bool.and_self, Bool.and_true, Bool.true_and]) rfl ?_
      simp only [run0, run1, run2, run3, run4, run5, run6, run7, run8, run9, run10, run11, run12, run13, run14, run15, run16, run17, run18, run19, run20, run21, run22, reduceCtorEq, Nat.reduceEqDiff, Nat.reduceAdd, Nat.reduceSub, Nat.reduceLeDiff, indexAddrA, indexRefA, appendA, strA, Nat.reduceMul, Nat.zero_mul, Nat.reduceMod, Int.reduceEq, Int.reduceLT, Int.reduceLE, Nat.reduceLT, Nat.lt_irrefl, Nat.reduceBEq, tys0, tys1, tys2, tys3, tys4, tys5, tys6, tys7, tys8, tys9, tys10, tys11, tys12, tys13, tys14, tys15, tys16, tys17, tys18, tys19, tys20, tys21, tys22, tys23, Try.ntmps80, Try.results80, swC, frE]
      refine RunL.callp rfl rfl ok_f124 hmm (by simp only [pureL, pureB, prn, Bool.and_self, Bool.and_true, Bool.true_and]) rfl ?_
      simp only [run0, run1, run2, run3, run4, run5, run6, run7, run8, run9, run10, run11, run12, run13, run14, run15, run16, run17, run18, run19, run20, run21, run22, reduceCtorEq, Nat.reduceEqDiff, Nat.reduceAdd, Nat.reduceSub, Nat.reduceLeDiff, indexAddrA, indexRefA, appendA, strA, Nat.reduceMul, Nat.zero_mul, Nat.reduceMod, Int.reduceEq, Int.reduceLT, Int.reduceLE, Nat.reduceLT, Nat.lt_irrefl, Nat.reduceBEq, tys0, tys1, tys2, tys3, tys4, tys5, tys6, tys7, tys8, tys9, tys10, tys11, tys12, tys13, tys14, tys15, tys16, tys17, tys18, tys19, tys20, tys21, tys22, tys23, Try.ntmps80, Try.results80, swC, frE]
      refine RunL.callp rfl rfl ok_f125 (hng) (by first | rfl | simp only [pureL, pureB, Bool.and_self, Bool.and_true, Bool.true_and]) rfl ?_
      simp only [run0, run1, run2, run3, run4, run5, run6, run7, run8, run9, run10, run11, run12, run13, run14, run15, run16, run17, run18, run19, run20, run21, run22, reduceCtorEq, Nat.reduceEqDiff, Nat.reduceAdd, Nat.reduceSub, Nat.reduceLeDiff, indexAddrA, indexRefA, appendA, strA, Nat.reduceMul, Nat.zero_mul, Nat.reduceMod, Int.reduceEq, Int.reduceLT, Int.reduceLE, Nat.reduceLT, Nat.lt_irrefl, Nat.reduceBEq, tys0, tys1, tys2, tys3, tys4, tys5, tys6, tys7, tys8, tys9, tys10, tys11, tys12, tys13, tys14, tys15, tys16, tys17, tys18, tys19, tys20, tys21, tys22, tys23, Try.ntmps80, Try.results80, swC]
      refine RunL.callp rfl rfl ok_f78 (hc2) (by first | rfl | simp only [pureL, pureB, Bool.and_self, Bool.and_true, Bool.true_and]) rfl ?_
      simp only [run0, run1, run2, run3, run4, run5, run6, run7, run8, run9, run10, run11, run12, run13, run14, run15, run16, run17, run18, run19, run20, run21, run22, reduceCtorEq, Nat.reduceEqDiff, Nat.reduceAdd, Nat.reduceSub, Nat.reduceLeDiff, indexAddrA, indexRefA, appendA, strA, Nat.reduceMul, Nat.zero_mul, Nat.reduceMod, Int.reduceEq, Int.reduceLT, Int.reduceLE, Nat.reduceLT, Nat.lt_irrefl, Nat.reduceBEq, tys0, tys1, tys2, tys3, tys4, tys5, tys6, tys7, tys8, tys9, tys10, tys11, tys12, tys13, tys14, tys15, tys16, tys17, tys18, tys19, tys20, tys21, tys22, tys23, Try.ntmps80, Try.results80, swC, e1, List.length_map, Int.natCast_zero, Int.lt_irrefl, hlen, hlenr, u1, d1]
      exact Fin.eq (by simp [simR, bad_both hl hr hx hU hD, frE]) rfl

theorem shSimplest_ok (l r : List Fr) (hll : l.length ≤ 1048576) (hrl : r.length ≤ 1048576) (hl : ∀ a ∈ l, FB a) (hr : ∀ a ∈ r, FB a) : Ct Try.prog 80 [.sl false (l.map frE), .sl false (r.map frE)] [] (simR l r) [] := by
  cases l with
  | nil => cases r with
    | nil => exact shSimplest_nn hll hrl hl hr
    | cons q r => exact shSimplest_nc q r hll hrl hl hr
  | cons o l => cases r with
    | nil => exact shSimplest_cn o l hll hrl hl hr
    | cons q r => exact shSimplest_cc o l q r hll hrl hl hr

end Go.Proofs.Ytllcljajlemmaaa
/-
  Cuts: which two fractions are next to each other, or the simplest number between: both, and the law.
-/
namespace Go.Proofs.Ytllcljajlemmaaa
open Go K
set_option linter.unusedSimpArgs false
set_option linter.unusedVariables false
set_option maxHeartbeats 1600000
set_option maxRecDepth 8000

/-- How the program compares. -/
def cmpP (p q : Fr) : Int := cmpI (w64 (p.1 * q.2)) (w64 (q.1 * p.2))
theorem cmpPQ {p q : Fr} (hp : goodF p = true) (hq : goodF q = true) : cmpQ p q = cmpP p q := cmp_same hp hq
theorem cmpP_ok (p q : Fr) : Ct Try.prog 82 [fr p.1 p.2, fr q.1 q.2] [] (.int .i64 (cmpP p q)) [] := cmpFr_ok p.1 p.2 q.1 q.2
/-- The first best one's index. -/
def bestI (s : Int) (l : List Fr) : Nat → List Fr → Nat → Nat
  | b, [], _ => b
  | b, a :: r, k => bestI s l (if cmpQ a (l.getD b (0, 1)) = s then k else b) r (k + 1)
theorem bestI_cons (s : Int) (l : List Fr) (a : Fr) (r : List Fr) (b k : Nat) : bestI s l b (a :: r) k = bestI s l (if cmpQ a (l.getD b (0, 1)) = s then k else b) r (k + 1) := rfl
theorem bestI_lt (s : Int) (l : List Fr) : ∀ (r : List Fr) (b k : Nat), b < l.length → k + r.length ≤ l.length → bestI s l b r k < l.length
  | [], b, k, hb, _ => hb
  | a :: r, b, k, hb, hk => by
    simp only [List.length_cons] at hk
    unfold bestI
    exact bestI_lt s l r _ _ (by split <;> omega) (by omega)
theorem goodL_all {l : List Fr} (h : goodL l = true) : l.length ≤ 20 ∧ ∀ a ∈ l, goodF a = true := by
  simp only [goodL, Bool.and_eq_true, decide_eq_true_eq, List.all_eq_true] at h
  exact h
theorem goodL_FB {l : List Fr} (h : goodL l = true) : ∀ a ∈ l, FB a := fun a ha => goodF_FB ((goodL_all h).2 a ha)
theorem frs_at {l : List Fr} {b : Nat} (h : b < l.length) : (l.map frE)[b]? = some (.agg [.int .i64 (l.getD b (0, 1)).1, .int .i64 (l.getD b (0, 1)).2]) := by
  simp [List.getD_eq_getElem?_getD, h, frE]
structure BeS where
  d : List Fr
  r : List Fr
  b : Nat
  X : List AObj
theorem gaBest_ok (s : Int) (l : List Fr) (hl : l.length ≤ 1048576) : Ct Try.prog 77 [.sl false (l.map frE), .int .i64 s] [] (.int .i64 (bestI s l 0 l 0)) [] := by
  refine Ct.by_ hmix [] Try.func77 rfl ?_
  simp only [run0, run1, run2, run3, run4, run5, run6, run7, run8, run9, run10, run11, run12, run13, run14, run15, run16, run17, run18, run19, run20, run21, run22, reduceCtorEq, Nat.reduceEqDiff, Nat.reduceAdd, Nat.reduceSub, Nat.reduceLeDiff, indexAddrA, indexRefA, appendA, strA, Nat.reduceMul, Nat.zero_mul, Nat.reduceMod, Int.reduceEq, Int.reduceLT, Int.reduceLE, Nat.reduceLT, Nat.lt_irrefl, Nat.reduceBEq, tys0, tys1, tys2, tys3, tys4, tys5, tys6, tys7, tys8, tys9, tys10, tys11, tys12, tys13, tys14, tys15, tys16, tys17, tys18, tys19, tys20, tys21, tys22, tys23, Try.ntmps77, Try.results77, List.length_map]
  refine AWp.loop_inv (ι := BeS) (fun q => ⟨[.sl false (l.map frE), .int .i64 s, .junk, .junk, .int .i64 0, .int .i64 q.b, .junk, .junk, .sl false (l.map frE), .int .i64 l.length, .int .i64 q.d.length, .junk, .junk, .junk, .junk, .junk, .junk, .junk, .junk, .junk, .junk, .junk, .junk, .junk, .junk, .junk], q.X⟩)
    (fun q => l = q.d ++ q.r ∧ q.b ≤ q.d.length ∧ bestI s l q.b q.r q.d.length = bestI s l 0 l 0) (fun q => q.r.length) ⟨[], l, 0, []⟩ ⟨rfl, Nat.le_refl _, rfl⟩ ⟨by simp only [List.length_nil, Int.natCast_zero]; repeat constructor, rfl⟩ ?_
  rintro ⟨d, r, b, X⟩ ⟨ha, h2, h3⟩
  refine W.sound hmix (E := []) ?_
  simp only at ha h2 h3
  cases r with
  | nil =>
    have e1 := frs_end ha
    simp only [run0, run1, run2, run3, run4, run5, run6, run7, run8, run9, run10, run11, run12, run13, run14, run15, run16, run17, run18, run19, run20, run21, run22, reduceCtorEq, Nat.reduceEqDiff, Nat.reduceAdd, Nat.reduceSub, Nat.reduceLeDiff, indexAddrA, indexRefA, appendA, strA, Nat.reduceMul, Nat.zero_mul, Nat.reduceMod, Int.reduceEq, Int.reduceLT, Int.reduceLE, Nat.reduceLT, Nat.lt_irrefl, Nat.reduceBEq, tys0, tys1, tys2, tys3, tys4, tys5, tys6, tys7, tys8, tys9, tys10, tys11, tys12, tys13, tys14, tys15, tys16, tys17, tys18, tys19, tys20, tys21, tys22, tys23, Try.ntmps77, Try.results77, List.length_map, e1]
    exact Fin.eq (by rw [← h3]; rfl) rfl
  | cons e r =>
    obtain ⟨e1, e2, e5⟩ := frs_split ha hl
    have hb : b < l.length := by omega
    have e3 := frs_at hb
    have hc := cmpQ_ok e (l.getD b (0, 1))
    simp only [fr] at hc
    have hb2 : (b : Int) < (l.length : Int) := by omega
    simp only [run0, run1, run2, run3, run4, run5, run6, run7, run8, run9, run10, run11, run12, run13, run14, run15, run16, run17, run18, run19, run20, run21, run22, reduceCtorEq, Nat.reduceEqDiff, Nat.reduceAdd, Nat.reduceSub, Nat.reduceLeDiff, indexAddrA, indexRefA, appendA, strA, Nat.reduceMul, Nat.zero_mul, Nat.reduceMod, Int.reduceEq, Int.reduceLT, Int.reduceLE, Nat.reduceLT, Nat.lt_irrefl, Nat.reduceBEq, tys0, tys1, tys2, tys3, tys4, tys5, tys6, tys7, tys8, tys9, tys10, tys11, tys12, tys13, tys14, tys15, tys16, tys17, tys18, tys19, tys20, tys21, tys22, tys23, Try.ntmps77, Try.results77, List.length_map, e1, e2, e3, hb2, Int.toNat_natCast, Int.natCast_nonneg, List.getElem?_append_right, Nat.sub_self]
    refine ⟨by kernel_rfl, ?_⟩
    refine RunL.callp rfl rfl ok_f78 (hc) (by first | rfl | simp only [pureL, pureB, Bool.and_self, Bool.and_true, Bool.true_and]) rfl ?_
    rw [bestI_cons s l e r b d.length] at h3
    by_cases hp : cmpQ e (l.getD b (0, 1)) = s
    · have hp2 : (cmpQ e (l.getD b (0, 1)) == s) = true := beq_iff_eq.2 hp
      rw [if_pos hp] at h3
      simp only [run0, run1, run2, run3, run4, run5, run6, run7, run8, run9, run10, run11, run12, run13, run14, run15, run16, run17, run18, run19, run20, run21, run22, reduceCtorEq, Nat.reduceEqDiff, Nat.reduceAdd, Nat.reduceSub, Nat.reduceLeDiff, indexAddrA, indexRefA, appendA, strA, Nat.reduceMul, Nat.zero_mul, Nat.reduceMod, Int.reduceEq, Int.reduceLT, Int.reduceLE, Nat.reduceLT, Nat.lt_irrefl, Nat.reduceBEq, tys0, tys1, tys2, tys3, tys4, tys5, tys6, tys7, tys8, tys9, tys10, tys11, tys12, tys13, tys14, tys15, tys16, tys17, tys18, tys19, tys20, tys21, tys22, tys23, Try.ntmps77, Try.results77, hp2, e5]
      exact ⟨⟨d ++ [e], r, d.length, _⟩, ⟨by simp [ha], by simp, by simp only [List.length_append, List.length_cons, List.length_nil]; exact h3⟩, by simp, by simp only [List.length_append, List.length_cons, List.length_nil]; repeat constructor, rfl⟩
    · have hp2 : (cmpQ e (l.getD b (0, 1)) == s) = false := beq_eq_false_iff_ne.2 hp
      rw [if_neg hp] at h3
      simp only [run0, run1, run2, run3, run4, run5, run6, run7, run8, run9, run10, run11, run12, run13, run14, run15, run16, run17, run18, run19, run20, run21, run22, reduceCtorEq, Nat.reduceEqDiff, Nat.reduceAdd, Nat.reduceSub, Nat.reduceLeDiff, indexAddrA, indexRefA, appendA, strA, Nat.reduceMul, Nat.zero_mul, Nat.reduceMod, Int.reduceEq, Int.reduceLT, Int.reduceLE, Nat.reduceLT, Nat.lt_irrefl, Nat.reduceBEq, tys0, tys1, tys2, tys3, tys4, tys5, tys6, tys7, tys8, tys9, tys10, tys11, tys12, tys13, tys14, tys15, tys16, tys17, tys18, tys19, tys20, tys21, tys22, tys23, Try.ntmps77, Try.results77, hp2, e5]
      exact ⟨⟨d ++ [e], r, b, _⟩, ⟨by simp [ha], by simp; omega, by simp only [List.length_append, List.length_cons, List.length_nil]; exact h3⟩, by simp, by simp only [List.length_append, List.length_cons, List.length_nil]; repeat constructor, rfl⟩

def cutM (l : List Fr) : Nat := bestI 1 l 0 l 0
def cutL (r : List Fr) : Nat := bestI (-1) r 0 r 0
def overB (l r : List Fr) : Bool := !l.isEmpty && !r.isEmpty && decide (0 ≤ cmpQ (l.getD (cutM l) (0, 1)) (r.getD (cutL r) (0, 1)))
def cutR (l r : List Fr) : AV :=
  if goodL l && goodL r then
    if overB l r then .tup [frE (0, 1), .int .i64 (cutM l), .int .i64 (cutL r), .bool true]
    else if cutBad l r then .tup [frE (0, 0), .int .i64 0, .int .i64 0, .bool false]
    else .tup [frE (frN (cutX l r), frD (cutX l r)), .int .i64 (-1), .int .i64 (-1), .bool true]
  else .tup [frE (0, 0), .int .i64 0, .int .i64 0, .bool false]
theorem whole_ok (n : Int) : Ct Try.prog 83 [.int .i64 n] [] (frE (n, 1)) [] := by
  refine Ct.by_ hmix [] Try.func83 rfl ?_
  simp only [run0, run1, run2, run3, run4, run5, run6, run7, run8, run9, run10, run11, run12, run13, run14, run15, run16, run17, run18, run19, run20, run21, run22, reduceCtorEq, Nat.reduceEqDiff, Nat.reduceAdd, Nat.reduceSub, Nat.reduceLeDiff, indexAddrA, indexRefA, appendA, strA, Nat.reduceMul, Nat.zero_mul, Nat.reduceMod, Int.reduceEq, Int.reduceLT, Int.reduceLE, Nat.reduceLT, Nat.lt_irrefl, Nat.reduceBEq, tys0, tys1, tys2, tys3, tys4, tys5, tys6, tys7, tys8, tys9, tys10, tys11, tys12, tys13, tys14, tys15, tys16, tys17, tys18, tys19, tys20, tys21, tys22, tys23, Try.ntmps83, Try.results83]
  exact Fin.eq rfl rfl
theorem isE_length {l : List Fr} : l.isEmpty = false → (0 : Int) < (l.length : Int) := by
  cases l with
  | nil => simp
  | cons a l => intro _; simp only [List.length_cons]; omega
theorem isE_not {l : List Fr} : l.isEmpty = true → ¬ (0 : Int) < (l.length : Int) := by
  cases l with
  | nil => simp
  | cons a l => simp

theorem specCut_ok (l r : List Fr) (hl : l.length ≤ 1048576) (hr : r.length ≤ 1048576) : Ct Try.prog 32 [.sl false (l.map frE), .sl false (r.map frE)] [] (cutR l r) [] := by
  have pl := frs_pure l
  have pr := frs_pure r
  refine Ct.by_ hmix [] Try.func32 rfl ?_
  simp only [run0, run1, run2, run3, run4, run5, run6, run7, run8, run9, run10, run11, run12, run13, run14, run15, run16, run17, run18, run19, run20, run21, run22, reduceCtorEq, Nat.reduceEqDiff, Nat.reduceAdd, Nat.reduceSub, Nat.reduceLeDiff, indexAddrA, indexRefA, appendA, strA, Nat.reduceMul, Nat.zero_mul, Nat.reduceMod, Int.reduceEq, Int.reduceLT, Int.reduceLE, Nat.reduceLT, Nat.lt_irrefl, Nat.reduceBEq, tys0, tys1, tys2, tys3, tys4, tys5, tys6, tys7, tys8, tys9, tys10, tys11, tys12, tys13, tys14, tys15, tys16, tys17, tys18, tys19, tys20, tys21, tys22, tys23, Try.ntmps32, Try.results32]
  refine RunL.callp rfl rfl ok_f76 (shList_ok l hl) (by simp only [pureL, pureB, pl, Bool.and_self]) rfl ?_
  cases g1 : goodL l
  · simp only [run0, run1, run2, run3, run4, run5, run6, run7, run8, run9, run10, run11, run12, run13, run14, run15, run16, run17, run18, run19, run20, run21, run22, reduceCtorEq, Nat.reduceEqDiff, Nat.reduceAdd, Nat.reduceSub, Nat.reduceLeDiff, indexAddrA, indexRefA, appendA, strA, Nat.reduceMul, Nat.zero_mul, Nat.reduceMod, Int.reduceEq, Int.reduceLT, Int.reduceLE, Nat.reduceLT, Nat.lt_irrefl, Nat.reduceBEq, tys0, tys1, tys2, tys3, tys4, tys5, tys6, tys7, tys8, tys9, tys10, tys11, tys12, tys13, tys14, tys15, tys16, tys17, tys18, tys19, tys20, tys21, tys22, tys23, Try.ntmps32, Try.results32]
    exact Fin.eq (by simp [cutR, g1, frE]) rfl
  simp only [run0, run1, run2, run3, run4, run5, run6, run7, run8, run9, run10, run11, run12, run13, run14, run15, run16, run17, run18, run19, run20, run21, run22, reduceCtorEq, Nat.reduceEqDiff, Nat.reduceAdd, Nat.reduceSub, Nat.reduceLeDiff, indexAddrA, indexRefA, appendA, strA, Nat.reduceMul, Nat.zero_mul, Nat.reduceMod, Int.reduceEq, Int.reduceLT, Int.reduceLE, Nat.reduceLT, Nat.lt_irrefl, Nat.reduceBEq, tys0, tys1, tys2, tys3, tys4, tys5, tys6, tys7, tys8, tys9, tys10, tys11, tys12, tys13, tys14, tys15, tys16, tys17, tys18, tys19, tys20, tys21, tys22, tys23, Try.ntmps32, Try.results32]
  refine RunL.callp rfl rfl ok_f76 (shList_ok r hr) (by simp only [pureL, pureB, pr, Bool.and_self]) rfl ?_
  cases g2 : goodL r
  · simp only [run0, run1, run2, run3, run4, run5, run6, run7, run8, run9, run10, run11, run12, run13, run14, run15, run16, run17, run18, run19, run20, run21, run22, reduceCtorEq, Nat.reduceEqDiff, Nat.reduceAdd, Nat.reduceSub, Nat.reduceLeDiff, indexAddrA, indexRefA, appendA, strA, Nat.reduceMul, Nat.zero_mul, Nat.reduceMod, Int.reduceEq, Int.reduceLT, Int.reduceLE, Nat.reduceLT, Nat.lt_irrefl, Nat.reduceBEq, tys0, tys1, tys2, tys3, tys4, tys5, tys6, tys7, tys8, tys9, tys10, tys11, tys12, tys13, tys14, tys15, tys16, tys17, tys18, tys19, tys20, tys21, tys22, tys23, Try.ntmps32, Try.results32]
    exact Fin.eq (by simp [cutR, g1, g2, frE]) rfl
  have hss := shSimplest_ok l r hl hr (goodL_FB g1) (goodL_FB g2)
  have key : ∀ {P : Prop}, overB l r = false → (simR l r = if cutBad l r then .tup [frE (0, 0), .bool false] else .tup [frE (frN (cutX l r), frD (cutX l r)), .bool true]) := fun _ => by
    unfold simR; cases cutBad l r <;> rfl
  cases m1 : l.isEmpty
  case true =>
    have k1 := isE_not m1
    have ho : overB l r = false := by simp [overB, m1]
    have hk := key (P := True) ho
    simp only [run0, run1, run2, run3, run4, run5, run6, run7, run8, run9, run10, run11, run12, run13, run14, run15, run16, run17, run18, run19, run20, run21, run22, reduceCtorEq, Nat.reduceEqDiff, Nat.reduceAdd, Nat.reduceSub, Nat.reduceLeDiff, indexAddrA, indexRefA, appendA, strA, Nat.reduceMul, Nat.zero_mul, Nat.reduceMod, Int.reduceEq, Int.reduceLT, Int.reduceLE, Nat.reduceLT, Nat.lt_irrefl, Nat.reduceBEq, tys0, tys1, tys2, tys3, tys4, tys5, tys6, tys7, tys8, tys9, tys10, tys11, tys12, tys13, tys14, tys15, tys16, tys17, tys18, tys19, tys20, tys21, tys22, tys23, Try.ntmps32, Try.results32, List.length_map, k1]
    refine RunL.callp rfl rfl ok_f80 hss (by simp only [pureL, pureB, pl, pr, Bool.and_self]) rfl ?_
    rw [hk]
    cases hb : cutBad l r
    · simp only [run0, run1, run2, run3, run4, run5, run6, run7, run8, run9, run10, run11, run12, run13, run14, run15, run16, run17, run18, run19, run20, run21, run22, reduceCtorEq, Nat.reduceEqDiff, Nat.reduceAdd, Nat.reduceSub, Nat.reduceLeDiff, indexAddrA, indexRefA, appendA, strA, Nat.reduceMul, Nat.zero_mul, Nat.reduceMod, Int.reduceEq, Int.reduceLT, Int.reduceLE, Nat.reduceLT, Nat.lt_irrefl, Nat.reduceBEq, tys0, tys1, tys2, tys3, tys4, tys5, tys6, tys7, tys8, tys9, tys10, tys11, tys12, tys13, tys14, tys15, tys16, tys17, tys18, tys19, tys20, tys21, tys22, tys23, Try.ntmps32, Try.results32, frE]
      exact Fin.eq (by simp [cutR, g1, g2, ho, hb, frE]) rfl
    · simp only [run0, run1, run2, run3, run4, run5, run6, run7, run8, run9, run10, run11, run12, run13, run14, run15, run16, run17, run18, run19, run20, run21, run22, reduceCtorEq, Nat.reduceEqDiff, Nat.reduceAdd, Nat.reduceSub, Nat.reduceLeDiff, indexAddrA, indexRefA, appendA, strA, Nat.reduceMul, Nat.zero_mul, Nat.reduceMod, Int.reduceEq, Int.reduceLT, Int.reduceLE, Nat.reduceLT, Nat.lt_irrefl, Nat.reduceBEq, tys0, tys1, tys2, tys3, tys4, tys5, tys6, tys7, tys8, tys9, tys10, tys11, tys12, tys13, tys14, tys15, tys16, tys17, tys18, tys19, tys20, tys21, tys22, tys23, Try.ntmps32, Try.results32, frE]
      exact Fin.eq (by simp [cutR, g1, g2, ho, hb, frE]) rfl
  case false =>
    have k1 := isE_length m1
    cases m2 : r.isEmpty
    case true =>
      have k2 := isE_not m2
      have ho : overB l r = false := by simp [overB, m2]
      have hk := key (P := True) ho
      simp only [run0, run1, run2, run3, run4, run5, run6, run7, run8, run9, run10, run11, run12, run13, run14, run15, run16, run17, run18, run19, run20, run21, run22, reduceCtorEq, Nat.reduceEqDiff, Nat.reduceAdd, Nat.reduceSub, Nat.reduceLeDiff, indexAddrA, indexRefA, appendA, strA, Nat.reduceMul, Nat.zero_mul, Nat.reduceMod, Int.reduceEq, Int.reduceLT, Int.reduceLE, Nat.reduceLT, Nat.lt_irrefl, Nat.reduceBEq, tys0, tys1, tys2, tys3, tys4, tys5, tys6, tys7, tys8, tys9, tys10, tys11, tys12, tys13, tys14, tys15, tys16, tys17, tys18, tys19, tys20, tys21, tys22, tys23, Try.ntmps32, Try.results32, List.length_map, k1, k2]
      refine RunL.callp rfl rfl ok_f80 hss (by simp only [pureL, pureB, pl, pr, Bool.and_self]) rfl ?_
      rw [hk]
      cases hb : cutBad l r
      · simp only [run0, run1, run2, run3, run4, run5, run6, run7, run8, run9, run10, run11, run12, run13, run14, run15, run16, run17, run18, run19, run20, run21, run22, reduceCtorEq, Nat.reduceEqDiff, Nat.reduceAdd, Nat.reduceSub, Nat.reduceLeDiff, indexAddrA, indexRefA, appendA, strA, Nat.reduceMul, Nat.zero_mul, Nat.reduceMod, Int.reduceEq, Int.reduceLT, Int.reduceLE, Nat.reduceLT, Nat.lt_irrefl, Nat.reduceBEq, tys0, tys1, tys2, tys3, tys4, tys5, tys6, tys7, tys8, tys9, tys10, tys11, tys12, tys13, tys14, tys15, tys16, tys17, tys18, tys19, tys20, tys21, tys22, tys23, Try.ntmps32, Try.results32, frE]
        exact Fin.eq (by simp [cutR, g1, g2, ho, hb, frE]) rfl
      · simp only [run0, run1, run2, run3, run4, run5, run6, run7, run8, run9, run10, run11, run12, run13, run14, run15, run16, run17, run18, run19, run20, run21, run22, reduceCtorEq, Nat.reduceEqDiff, Nat.reduceAdd, Nat.reduceSub, Nat.reduceLeDiff, indexAddrA, indexRefA, appendA, strA, Nat.reduceMul, Nat.zero_mul, Nat.reduceMod, Int.reduceEq, Int.reduceLT, Int.reduceLE, Nat.reduceLT, Nat.lt_irrefl, Nat.reduceBEq, tys0, tys1, tys2, tys3, tys4, tys5, tys6, tys7, tys8, tys9, tys10, tys11, tys12, tys13, tys14, tys15, tys16, tys17, tys18, tys19, tys20, tys21, tys22, tys23, Try.ntmps32, Try.results32, frE]
        exact Fin.eq (by simp [cutR, g1, g2, ho, hb, frE]) rfl
    case false =>
      have k2 := isE_length m2
      have b1 : cutM l < l.length := bestI_lt _ _ _ _ _ (by omega) (by omega)
      have b2 : cutL r < r.length := bestI_lt _ _ _ _ _ (by omega) (by omega)
      have c1 := frs_at b1
      have c2 := frs_at b2
      have b3 : (cutM l : Int) < (l.length : Int) := by omega
      have b4 : (cutL r : Int) < (r.length : Int) := by omega
      have hc := cmpQ_ok (l.getD (cutM l) (0, 1)) (r.getD (cutL r) (0, 1))
      simp only [fr] at hc
      have hgm : Ct Try.prog 77 [.sl false (l.map frE), .int .i64 1] [] (.int .i64 (cutM l)) [] := gaBest_ok 1 l hl
      have hgl : Ct Try.prog 77 [.sl false (r.map frE), .int .i64 (-1)] [] (.int .i64 (cutL r)) [] := gaBest_ok (-1) r hr
      simp only [run0, run1, run2, run3, run4, run5, run6, run7, run8, run9, run10, run11, run12, run13, run14, run15, run16, run17, run18, run19, run20, run21, run22, reduceCtorEq, Nat.reduceEqDiff, Nat.reduceAdd, Nat.reduceSub, Nat.reduceLeDiff, indexAddrA, indexRefA, appendA, strA, Nat.reduceMul, Nat.zero_mul, Nat.reduceMod, Int.reduceEq, Int.reduceLT, Int.reduceLE, Nat.reduceLT, Nat.lt_irrefl, Nat.reduceBEq, tys0, tys1, tys2, tys3, tys4, tys5, tys6, tys7, tys8, tys9, tys10, tys11, tys12, tys13, tys14, tys15, tys16, tys17, tys18, tys19, tys20, tys21, tys22, tys23, Try.ntmps32, Try.results32, List.length_map, k1, k2]
      refine RunL.callp rfl rfl ok_f77 hgm (by simp only [pureL, pureB, pl, Bool.and_self]) rfl ?_
      simp only [run0, run1, run2, run3, run4, run5, run6, run7, run8, run9, run10, run11, run12, run13, run14, run15, run16, run17, run18, run19, run20, run21, run22, reduceCtorEq, Nat.reduceEqDiff, Nat.reduceAdd, Nat.reduceSub, Nat.reduceLeDiff, indexAddrA, indexRefA, appendA, strA, Nat.reduceMul, Nat.zero_mul, Nat.reduceMod, Int.reduceEq, Int.reduceLT, Int.reduceLE, Nat.reduceLT, Nat.lt_irrefl, Nat.reduceBEq, tys0, tys1, tys2, tys3, tys4, tys5, tys6, tys7, tys8, tys9, tys10, tys11, tys12, tys13, tys14, tys15, tys16, tys17, tys18, tys19, tys20, tys21, tys22, tys23, Try.ntmps32, Try.results32]
      refine RunL.callp rfl rfl ok_f77 hgl (by simp only [pureL, pureB, pr, Bool.and_self]) rfl ?_
      simp only [run0, run1, run2, run3, run4, run5, run6, run7, run8, run9, run10, run11, run12, run13, run14, run15, run16, run17, run18, run19, run20, run21, run22, reduceCtorEq, Nat.reduceEqDiff, Nat.reduceAdd, Nat.reduceSub, Nat.reduceLeDiff, indexAddrA, indexRefA, appendA, strA, Nat.reduceMul, Nat.zero_mul, Nat.reduceMod, Int.reduceEq, Int.reduceLT, Int.reduceLE, Nat.reduceLT, Nat.lt_irrefl, Nat.reduceBEq, tys0, tys1, tys2, tys3, tys4, tys5, tys6, tys7, tys8, tys9, tys10, tys11, tys12, tys13, tys14, tys15, tys16, tys17, tys18, tys19, tys20, tys21, tys22, tys23, Try.ntmps32, Try.results32, List.length_map, c1, c2, b3, b4, Int.toNat_natCast, Int.natCast_nonneg]
      refine ⟨by kernel_rfl, ?_⟩
      refine RunL.callp rfl rfl ok_f78 (hc) (by first | rfl | simp only [pureL, pureB, Bool.and_self, Bool.and_true, Bool.true_and]) rfl ?_
      by_cases ho : 0 ≤ cmpQ (l.getD (cutM l) (0, 1)) (r.getD (cutL r) (0, 1))
      · have ho2 : overB l r = true := by simp only [overB, m1, m2, ho]; rfl
        simp only [run0, run1, run2, run3, run4, run5, run6, run7, run8, run9, run10, run11, run12, run13, run14, run15, run16, run17, run18, run19, run20, run21, run22, reduceCtorEq, Nat.reduceEqDiff, Nat.reduceAdd, Nat.reduceSub, Nat.reduceLeDiff, indexAddrA, indexRefA, appendA, strA, Nat.reduceMul, Nat.zero_mul, Nat.reduceMod, Int.reduceEq, Int.reduceLT, Int.reduceLE, Nat.reduceLT, Nat.lt_irrefl, Nat.reduceBEq, tys0, tys1, tys2, tys3, tys4, tys5, tys6, tys7, tys8, tys9, tys10, tys11, tys12, tys13, tys14, tys15, tys16, tys17, tys18, tys19, tys20, tys21, tys22, tys23, Try.ntmps32, Try.results32, ho]
        refine RunL.callp rfl rfl ok_f79 (shInt_ok 0) (by first | rfl | simp only [pureL, pureB, Bool.and_self, Bool.and_true, Bool.true_and]) rfl ?_
        simp only [run0, run1, run2, run3, run4, run5, run6, run7, run8, run9, run10, run11, run12, run13, run14, run15, run16, run17, run18, run19, run20, run21, run22, reduceCtorEq, Nat.reduceEqDiff, Nat.reduceAdd, Nat.reduceSub, Nat.reduceLeDiff, indexAddrA, indexRefA, appendA, strA, Nat.reduceMul, Nat.zero_mul, Nat.reduceMod, Int.reduceEq, Int.reduceLT, Int.reduceLE, Nat.reduceLT, Nat.lt_irrefl, Nat.reduceBEq, tys0, tys1, tys2, tys3, tys4, tys5, tys6, tys7, tys8, tys9, tys10, tys11, tys12, tys13, tys14, tys15, tys16, tys17, tys18, tys19, tys20, tys21, tys22, tys23, Try.ntmps32, Try.results32, fr]
        exact Fin.eq (by simp [cutR, g1, g2, ho2, frE]) rfl
      · have ho2 : overB l r = false := by simp only [overB, m1, m2, ho]; rfl
        have hk := key (P := True) ho2
        simp only [run0, run1, run2, run3, run4, run5, run6, run7, run8, run9, run10, run11, run12, run13, run14, run15, run16, run17, run18, run19, run20, run21, run22, reduceCtorEq, Nat.reduceEqDiff, Nat.reduceAdd, Nat.reduceSub, Nat.reduceLeDiff, indexAddrA, indexRefA, appendA, strA, Nat.reduceMul, Nat.zero_mul, Nat.reduceMod, Int.reduceEq, Int.reduceLT, Int.reduceLE, Nat.reduceLT, Nat.lt_irrefl, Nat.reduceBEq, tys0, tys1, tys2, tys3, tys4, tys5, tys6, tys7, tys8, tys9, tys10, tys11, tys12, tys13, tys14, tys15, tys16, tys17, tys18, tys19, tys20, tys21, tys22, tys23, Try.ntmps32, Try.results32, ho]
        refine RunL.callp rfl rfl ok_f80 hss (by simp only [pureL, pureB, pl, pr, Bool.and_self]) rfl ?_
        rw [hk]
        cases hb : cutBad l r
        · simp only [run0, run1, run2, run3, run4, run5, run6, run7, run8, run9, run10, run11, run12, run13, run14, run15, run16, run17, run18, run19, run20, run21, run22, reduceCtorEq, Nat.reduceEqDiff, Nat.reduceAdd, Nat.reduceSub, Nat.reduceLeDiff, indexAddrA, indexRefA, appendA, strA, Nat.reduceMul, Nat.zero_mul, Nat.reduceMod, Int.reduceEq, Int.reduceLT, Int.reduceLE, Nat.reduceLT, Nat.lt_irrefl, Nat.reduceBEq, tys0, tys1, tys2, tys3, tys4, tys5, tys6, tys7, tys8, tys9, tys10, tys11, tys12, tys13, tys14, tys15, tys16, tys17, tys18, tys19, tys20, tys21, tys22, tys23, Try.ntmps32, Try.results32, frE]
          exact Fin.eq (by simp [cutR, g1, g2, ho2, hb, frE]) rfl
        · simp only [run0, run1, run2, run3, run4, run5, run6, run7, run8, run9, run10, run11, run12, run13, run14, run15, run16, run17, run18, run19, run20, run21, run22, reduceCtorEq, Nat.reduceEqDiff, Nat.reduceAdd, Nat.reduceSub, Nat.reduceLeDiff, indexAddrA, indexRefA, appendA, strA, Nat.reduceMul, Nat.zero_mul, Nat.reduceMod, Int.reduceEq, Int.reduceLT, Int.reduceLE, Nat.reduceLT, Nat.lt_irrefl, Nat.reduceBEq, tys0, tys1, tys2, tys3, tys4, tys5, tys6, tys7, tys8, tys9, tys10, tys11, tys12, tys13, tys14, tys15, tys16, tys17, tys18, tys19, tys20, tys21, tys22, tys23, Try.ntmps32, Try.results32, frE]
          exact Fin.eq (by simp [cutR, g1, g2, ho2, hb, frE]) rfl

/-! ### the program -/
theorem cmpQ_one {p q : Fr} : cmpQ p q = 1 ↔ 0 < cmpQ p q := by rcases cmpQ_val p q with h | h | h <;> omega
theorem cmpQ_minus {p q : Fr} : cmpQ p q = -1 ↔ cmpQ p q < 0 := by rcases cmpQ_val p q with h | h | h <;> omega
theorem goodF_at {l : List Fr} {b : Nat} (h : goodL l = true) (hb : b < l.length) : goodF (l.getD b (0, 1)) = true := by
  rw [List.getD_eq_getElem?_getD, List.getElem?_eq_getElem hb]
  exact (goodL_all h).2 _ (List.getElem_mem hb)

theorem implCut_ok (l r : List Fr) (hl : l.length ≤ 1048576) (hr : r.length ≤ 1048576) : Ct Try.prog 34 [.sl false (l.map frE), .sl false (r.map frE)] [] (cutR l r) [] := by
  have pl := frs_pure l
  have pr := frs_pure r
  refine Ct.by_ hmix [] Try.func34 rfl ?_
  simp only [run0, run1, run2, run3, run4, run5, run6, run7, run8, run9, run10, run11, run12, run13, run14, run15, run16, run17, run18, run19, run20, run21, run22, reduceCtorEq, Nat.reduceEqDiff, Nat.reduceAdd, Nat.reduceSub, Nat.reduceLeDiff, indexAddrA, indexRefA, appendA, strA, Nat.reduceMul, Nat.zero_mul, Nat.reduceMod, Int.reduceEq, Int.reduceLT, Int.reduceLE, Nat.reduceLT, Nat.lt_irrefl, Nat.reduceBEq, tys0, tys1, tys2, tys3, tys4, tys5, tys6, tys7, tys8, tys9, tys10, tys11, tys12, tys13, tys14, tys15, tys16, tys17, tys18, tys19, tys20, tys21, tys22, tys23, Try.ntmps34, Try.results34]
  refine RunL.callp rfl rfl ok_f81 (fractionsOk_ok l hl) (by simp only [pureL, pureB, pl, Bool.and_self]) rfl ?_
  cases g1 : goodL l
  · simp only [run0, run1, run2, run3, run4, run5, run6, run7, run8, run9, run10, run11, run12, run13, run14, run15, run16, run17, run18, run19, run20, run21, run22, reduceCtorEq, Nat.reduceEqDiff, Nat.reduceAdd, Nat.reduceSub, Nat.reduceLeDiff, indexAddrA, indexRefA, appendA, strA, Nat.reduceMul, Nat.zero_mul, Nat.reduceMod, Int.reduceEq, Int.reduceLT, Int.reduceLE, Nat.reduceLT, Nat.lt_irrefl, Nat.reduceBEq, tys0, tys1, tys2, tys3, tys4, tys5, tys6, tys7, tys8, tys9, tys10, tys11, tys12, tys13, tys14, tys15, tys16, tys17, tys18, tys19, tys20, tys21, tys22, tys23, Try.ntmps34, Try.results34]
    exact Fin.eq (by simp [cutR, g1, frE]) rfl
  simp only [run0, run1, run2, run3, run4, run5, run6, run7, run8, run9, run10, run11, run12, run13, run14, run15, run16, run17, run18, run19, run20, run21, run22, reduceCtorEq, Nat.reduceEqDiff, Nat.reduceAdd, Nat.reduceSub, Nat.reduceLeDiff, indexAddrA, indexRefA, appendA, strA, Nat.reduceMul, Nat.zero_mul, Nat.reduceMod, Int.reduceEq, Int.reduceLT, Int.reduceLE, Nat.reduceLT, Nat.lt_irrefl, Nat.reduceBEq, tys0, tys1, tys2, tys3, tys4, tys5, tys6, tys7, tys8, tys9, tys10, tys11, tys12, tys13, tys14, tys15, tys16, tys17, tys18, tys19, tys20, tys21, tys22, tys23, Try.ntmps34, Try.results34]
  refine RunL.callp rfl rfl ok_f81 (fractionsOk_ok r hr) (by simp only [pureL, pureB, pr, Bool.and_self]) rfl ?_
  cases g2 : goodL r
  · simp only [run0, run1, run2, run3, run4, run5, run6, run7, run8, run9, run10, run11, run12, run13, run14, run15, run16, run17, run18, run19, run20, run21, run22, reduceCtorEq, Nat.reduceEqDiff, Nat.reduceAdd, Nat.reduceSub, Nat.reduceLeDiff, indexAddrA, indexRefA, appendA, strA, Nat.reduceMul, Nat.zero_mul, Nat.reduceMod, Int.reduceEq, Int.reduceLT, Int.reduceLE, Nat.reduceLT, Nat.lt_irrefl, Nat.reduceBEq, tys0, tys1, tys2, tys3, tys4, tys5, tys6, tys7, tys8, tys9, tys10, tys11, tys12, tys13, tys14, tys15, tys16, tys17, tys18, tys19, tys20, tys21, tys22, tys23, Try.ntmps34, Try.results34]
    exact Fin.eq (by simp [cutR, g1, g2, frE]) rfl
  simp only [run0, run1, run2, run3, run4, run5, run6, run7, run8, run9, run10, run11, run12, run13, run14, run15, run16, run17, run18, run19, run20, run21, run22, reduceCtorEq, Nat.reduceEqDiff, Nat.reduceAdd, Nat.reduceSub, Nat.reduceLeDiff, indexAddrA, indexRefA, appendA, strA, Nat.reduceMul, Nat.zero_mul, Nat.reduceMod, Int.reduceEq, Int.reduceLT, Int.reduceLE, Nat.reduceLT, Nat.lt_irrefl, Nat.reduceBEq, tys0, tys1, tys2, tys3, tys4, tys5, tys6, tys7, tys8, tys9, tys10, tys11, tys12, tys13, tys14, tys15, tys16, tys17, tys18, tys19, tys20, tys21, tys22, tys23, Try.ntmps34, Try.results34, List.length_map]
  refine AWp.loop_inv (ι := BeS) (fun q => ⟨[.sl false (l.map frE), .sl false (r.map frE), .junk, .junk, .ptr 0 0, .int .i64 0, .int .i64 0, .bool false, .int .i64 q.b, .int .i64 0, .junk, .junk, .junk, .junk, .junk, .junk, .junk, .junk, .junk, .junk, .junk, .junk, .junk, .junk, .junk, .sl false (l.map frE), .int .i64 l.length, .int .i64 q.d.length, .junk, .junk, .junk, .junk, .junk, .junk, .junk, .junk, .junk, .junk, .junk, .junk, .junk, .junk, .junk, .junk, .junk, .junk, .junk, .junk, .junk, .junk, .junk, .junk, .junk, .junk, .junk, .junk, .junk, .junk, .junk, .junk, .junk, .junk, .junk, .junk, .junk, .junk, .junk, .junk, .junk, .junk, .junk, .junk, .junk, .junk, .junk, .junk, .junk, .junk, .junk, .junk, .junk, .junk, .junk, .junk, .junk, .junk, .junk, .junk, .junk, .junk], .box 42 [.int .i64 0, .int .i64 0] :: q.X⟩)
    (fun q => l = q.d ++ q.r ∧ q.b ≤ q.d.length ∧ bestI 1 l q.b q.r q.d.length = bestI 1 l 0 l 0) (fun q => q.r.length) ⟨[], l, 0, []⟩ ⟨rfl, Nat.le_refl _, rfl⟩ ⟨by simp only [List.length_nil, Int.natCast_zero]; repeat constructor, rfl⟩ ?_
  rintro ⟨d, q, b, X⟩ ⟨ha, h2, h3⟩
  refine W.sound hmix (E := []) ?_
  simp only at ha h2 h3
  cases q with
  | cons e q =>
    obtain ⟨e1, e2, e5⟩ := frs_split ha hl
    have hb : b < l.length := by omega
    have e3 := frs_at hb
    have hc := cmpP_ok e (l.getD b (0, 1))
    rw [← cmpPQ ((goodL_all g1).2 e (by rw [ha]; simp)) (goodF_at g1 hb)] at hc
    simp only [fr] at hc
    have hb2 : (b : Int) < (l.length : Int) := by omega
    simp only [run0, run1, run2, run3, run4, run5, run6, run7, run8, run9, run10, run11, run12, run13, run14, run15, run16, run17, run18, run19, run20, run21, run22, reduceCtorEq, Nat.reduceEqDiff, Nat.reduceAdd, Nat.reduceSub, Nat.reduceLeDiff, indexAddrA, indexRefA, appendA, strA, Nat.reduceMul, Nat.zero_mul, Nat.reduceMod, Int.reduceEq, Int.reduceLT, Int.reduceLE, Nat.reduceLT, Nat.lt_irrefl, Nat.reduceBEq, tys0, tys1, tys2, tys3, tys4, tys5, tys6, tys7, tys8, tys9, tys10, tys11, tys12, tys13, tys14, tys15, tys16, tys17, tys18, tys19, tys20, tys21, tys22, tys23, Try.ntmps34, Try.results34, List.length_map, e1, e2, e3, hb2, Int.toNat_natCast, Int.natCast_nonneg, List.getElem?_append_right, Nat.sub_self]
    refine ⟨by kernel_rfl, ?_⟩
    refine RunL.callp rfl rfl ok_f82 (hc) (by first | rfl | simp only [pureL, pureB, Bool.and_self, Bool.and_true, Bool.true_and]) rfl ?_
    rw [bestI_cons 1 l e q b d.length] at h3
    by_cases hp : 0 < cmpQ e (l.getD b (0, 1))
    · rw [if_pos (cmpQ_one.2 hp)] at h3
      simp only [run0, run1, run2, run3, run4, run5, run6, run7, run8, run9, run10, run11, run12, run13, run14, run15, run16, run17, run18, run19, run20, run21, run22, reduceCtorEq, Nat.reduceEqDiff, Nat.reduceAdd, Nat.reduceSub, Nat.reduceLeDiff, indexAddrA, indexRefA, appendA, strA, Nat.reduceMul, Nat.zero_mul, Nat.reduceMod, Int.reduceEq, Int.reduceLT, Int.reduceLE, Nat.reduceLT, Nat.lt_irrefl, Nat.reduceBEq, tys0, tys1, tys2, tys3, tys4, tys5, tys6, tys7, tys8, tys9, tys10, tys11, tys12, tys13, tys14, tys15, tys16, tys17, tys18, tys19, tys20, tys21, tys22, tys23, Try.ntmps34, Try.results34, hp, e5]
      exact ⟨⟨d ++ [e], q, d.length, _⟩, ⟨by simp [ha], by simp, by simp only [List.length_append, List.length_cons, List.length_nil]; exact h3⟩, by simp, by simp only [List.length_append, List.length_cons, List.length_nil]; repeat constructor, rfl⟩
    · rw [if_neg (fun e => hp (cmpQ_one.1 e))] at h3
      simp only [run0, run1, run2, run3, run4, run5, run6, run7, run8, run9, run10, run11, run12, run13, run14, run15, run16, run17, run18, run19, run20, run21, run22, reduceCtorEq, Nat.reduceEqDiff, Nat.reduceAdd, Nat.reduceSub, Nat.reduceLeDiff, indexAddrA, indexRefA, appendA, strA, Nat.reduceMul, Nat.zero_mul, Nat.reduceMod, Int.reduceEq, Int.reduceLT, Int.reduceLE, Nat.reduceLT, Nat.lt_irrefl, Nat.reduceBEq, tys0, tys1, tys2, tys3, tys4, tys5, tys6, tys7, tys8, tys9, tys10, tys11, tys12, tys13, tys14, tys15, tys16, tys17, tys18, tys19, tys20, tys21, tys22, tys23, Try.ntmps34, Try.results34, hp, e5]
      exact ⟨⟨d ++ [e], q, b, _⟩, ⟨by simp [ha], by simp; omega, by simp only [List.length_append, List.length_cons, List.length_nil]; exact h3⟩, by simp, by simp only [List.length_append, List.length_cons, List.length_nil]; repeat constructor, rfl⟩
  | nil =>
  have e1 := frs_end ha
  have hbm : b = cutM l := h3
  clear h2 h3 ha
  subst hbm
  simp only [run0, run1, run2, run3, run4, run5, run6, run7, run8, run9, run10, run11, run12, run13, run14, run15, run16, run17, run18, run19, run20, run21, run22, reduceCtorEq, Nat.reduceEqDiff, Nat.reduceAdd, Nat.reduceSub, Nat.reduceLeDiff, indexAddrA, indexRefA, appendA, strA, Nat.reduceMul, Nat.zero_mul, Nat.reduceMod, Int.reduceEq, Int.reduceLT, Int.reduceLE, Nat.reduceLT, Nat.lt_irrefl, Nat.reduceBEq, tys0, tys1, tys2, tys3, tys4, tys5, tys6, tys7, tys8, tys9, tys10, tys11, tys12, tys13, tys14, tys15, tys16, tys17, tys18, tys19, tys20, tys21, tys22, tys23, Try.ntmps34, Try.results34, List.length_map, e1]
  refine AWp.loop_inv (ι := BeS) (fun q => ⟨[.sl false (l.map frE), .sl false (r.map frE), .junk, .junk, .ptr 0 0, .int .i64 0, .int .i64 0, .bool false, .int .i64 (cutM l), .int .i64 q.b, .junk, .junk, .junk, .junk, .junk, .junk, .junk, .junk, .junk, .junk, .junk, .junk, .junk, .junk, .junk, .junk, .junk, .junk, .junk, .junk, .junk, .junk, .junk, .junk, .junk, .junk, .junk, .junk, .junk, .junk, .junk, .sl false (r.map frE), .int .i64 r.length, .int .i64 q.d.length, .junk, .junk, .junk, .junk, .junk, .junk, .junk, .junk, .junk, .junk, .junk, .junk, .junk, .junk, .junk, .junk, .junk, .junk, .junk, .junk, .junk, .junk, .junk, .junk, .junk, .junk, .junk, .junk, .junk, .junk, .junk, .junk, .junk, .junk, .junk, .junk, .junk, .junk, .junk, .junk, .junk, .junk, .junk, .junk, .junk, .junk], .box 42 [.int .i64 0, .int .i64 0] :: q.X⟩)
    (fun q => r = q.d ++ q.r ∧ q.b ≤ q.d.length ∧ bestI (-1) r q.b q.r q.d.length = bestI (-1) r 0 r 0) (fun q => q.r.length) ⟨[], r, 0, X⟩ ⟨rfl, Nat.le_refl _, rfl⟩ ⟨by simp only [List.length_nil, Int.natCast_zero]; repeat constructor, rfl⟩ ?_
  rintro ⟨d, q, b, X⟩ ⟨ha, h2, h3⟩
  refine W.sound hmix (E := []) ?_
  simp only at ha h2 h3
  cases q with
  | cons e q =>
    obtain ⟨e1, e2, e5⟩ := frs_split ha hr
    have hb : b < r.length := by omega
    have e3 := frs_at hb
    have hc := cmpP_ok e (r.getD b (0, 1))
    rw [← cmpPQ ((goodL_all g2).2 e (by rw [ha]; simp)) (goodF_at g2 hb)] at hc
    simp only [fr] at hc
    have hb2 : (b : Int) < (r.length : Int) := by omega
    simp only [run0, run1, run2, run3, run4, run5, run6, run7, run8, run9, run10, run11, run12, run13, run14, run15, run16, run17, run18, run19, run20, run21, run22, reduceCtorEq, Nat.reduceEqDiff, Nat.reduceAdd, Nat.reduceSub, Nat.reduceLeDiff, indexAddrA, indexRefA, appendA, strA, Nat.reduceMul, Nat.zero_mul, Nat.reduceMod, Int.reduceEq, Int.reduceLT, Int.reduceLE, Nat.reduceLT, Nat.lt_irrefl, Nat.reduceBEq, tys0, tys1, tys2, tys3, tys4, tys5, tys6, tys7, tys8, tys9, tys10, tys11, tys12, tys13, tys14, tys15, tys16, tys17, tys18, tys19, tys20, tys21, tys22, tys23, Try.ntmps34, Try.results34, List.length_map, e1, e2, e3, hb2, Int.toNat_natCast, Int.natCast_nonneg, List.getElem?_append_right, Nat.sub_self]
    refine ⟨by kernel_rfl, ?_⟩
    refine RunL.callp rfl rfl ok_f82 (hc) (by first | rfl | simp only [pureL, pureB, Bool.and_self, Bool.and_true, Bool.true_and]) rfl ?_
    rw [bestI_cons (-1) r e q b d.length] at h3
    by_cases hp : cmpQ e (r.getD b (0, 1)) < 0
    · rw [if_pos (cmpQ_minus.2 hp)] at h3
      simp only [run0, run1, run2, run3, run4, run5, run6, run7, run8, run9, run10, run11, run12, run13, run14, run15, run16, run17, run18, run19, run20, run21, run22, reduceCtorEq, Nat.reduceEqDiff, Nat.reduceAdd, Nat.reduceSub, Nat.reduceLeDiff, indexAddrA, indexRefA, appendA, strA, Nat.reduceMul, Nat.zero_mul, Nat.reduceMod, Int.reduceEq, Int.reduceLT, Int.reduceLE, Nat.reduceLT, Nat.lt_irrefl, Nat.reduceBEq, tys0, tys1, tys2, tys3, tys4, tys5, tys6, tys7, tys8, tys9, tys10, tys11, tys12, tys13, tys14, tys15, tys16, tys17, tys18, tys19, tys20, tys21, tys22, tys23, Try.ntmps34, Try.results34, hp, e5]
      exact ⟨⟨d ++ [e], q, d.length, _⟩, ⟨by simp [ha], by simp, by simp only [List.length_append, List.length_cons, List.length_nil]; exact h3⟩, by simp, by simp only [List.length_append, List.length_cons, List.length_nil]; repeat constructor, rfl⟩
    · rw [if_neg (fun e => hp (cmpQ_minus.1 e))] at h3
      simp only [run0, run1, run2, run3, run4, run5, run6, run7, run8, run9, run10, run11, run12, run13, run14, run15, run16, run17, run18, run19, run20, run21, run22, reduceCtorEq, Nat.reduceEqDiff, Nat.reduceAdd, Nat.reduceSub, Nat.reduceLeDiff, indexAddrA, indexRefA, appendA, strA, Nat.reduceMul, Nat.zero_mul, Nat.reduceMod, Int.reduceEq, Int.reduceLT, Int.reduceLE, Nat.reduceLT, Nat.lt_irrefl, Nat.reduceBEq, tys0, tys1, tys2, tys3, tys4, tys5, tys6, tys7, tys8, tys9, tys10, tys11, tys12, tys13, tys14, tys15, tys16, tys17, tys18, tys19, tys20, tys21, tys22, tys23, Try.ntmps34, Try.results34, hp, e5]
      exact ⟨⟨d ++ [e], q, b, _⟩, ⟨by simp [ha], by simp; omega, by simp only [List.length_append, List.length_cons, List.length_nil]; exact h3⟩, by simp, by simp only [List.length_append, List.length_cons, List.length_nil]; repeat constructor, rfl⟩
  | nil =>
  have e1 := frs_end ha
  have hbm : b = cutL r := h3
  clear h2 h3 ha
  subst hbm
  have hss := simplest_ok l r hl hr
  have hk : simR l r = if cutBad l r then .tup [frE (0, 0), .bool false] else .tup [frE (frN (cutX l r), frD (cutX l r)), .bool true] := by
    unfold simR; cases cutBad l r <;> rfl
  cases m1 : l.isEmpty
  case true =>
    have k1 := isE_not m1
    have ho : overB l r = false := by simp [overB, m1]
    simp only [run0, run1, run2, run3, run4, run5, run6, run7, run8, run9, run10, run11, run12, run13, run14, run15, run16, run17, run18, run19, run20, run21, run22, reduceCtorEq, Nat.reduceEqDiff, Nat.reduceAdd, Nat.reduceSub, Nat.reduceLeDiff, indexAddrA, indexRefA, appendA, strA, Nat.reduceMul, Nat.zero_mul, Nat.reduceMod, Int.reduceEq, Int.reduceLT, Int.reduceLE, Nat.reduceLT, Nat.lt_irrefl, Nat.reduceBEq, tys0, tys1, tys2, tys3, tys4, tys5, tys6, tys7, tys8, tys9, tys10, tys11, tys12, tys13, tys14, tys15, tys16, tys17, tys18, tys19, tys20, tys21, tys22, tys23, Try.ntmps34, Try.results34, List.length_map, e1, k1]
    refine ⟨by kernel_rfl, ?_⟩
    refine RunL.callp rfl rfl ok_f84 hss (by simp only [pureL, pureB, pl, pr, Bool.and_self]) rfl ?_
    rw [hk]
    cases hb : cutBad l r
    · simp only [run0, run1, run2, run3, run4, run5, run6, run7, run8, run9, run10, run11, run12, run13, run14, run15, run16, run17, run18, run19, run20, run21, run22, reduceCtorEq, Nat.reduceEqDiff, Nat.reduceAdd, Nat.reduceSub, Nat.reduceLeDiff, indexAddrA, indexRefA, appendA, strA, Nat.reduceMul, Nat.zero_mul, Nat.reduceMod, Int.reduceEq, Int.reduceLT, Int.reduceLE, Nat.reduceLT, Nat.lt_irrefl, Nat.reduceBEq, tys0, tys1, tys2, tys3, tys4, tys5, tys6, tys7, tys8, tys9, tys10, tys11, tys12, tys13, tys14, tys15, tys16, tys17, tys18, tys19, tys20, tys21, tys22, tys23, Try.ntmps34, Try.results34, frE, List.getElem?_append_right, Nat.sub_self]
      exact Fin.eq (by simp [cutR, g1, g2, ho, hb, frE]) rfl
    · simp only [run0, run1, run2, run3, run4, run5, run6, run7, run8, run9, run10, run11, run12, run13, run14, run15, run16, run17, run18, run19, run20, run21, run22, reduceCtorEq, Nat.reduceEqDiff, Nat.reduceAdd, Nat.reduceSub, Nat.reduceLeDiff, indexAddrA, indexRefA, appendA, strA, Nat.reduceMul, Nat.zero_mul, Nat.reduceMod, Int.reduceEq, Int.reduceLT, Int.reduceLE, Nat.reduceLT, Nat.lt_irrefl, Nat.reduceBEq, tys0, tys1, tys2, tys3, tys4, tys5, tys6, tys7, tys8, tys9, tys10, tys11, tys12, tys13, tys14, tys15, tys16, tys17, tys18, tys19, tys20, tys21, tys22, tys23, Try.ntmps34, Try.results34, frE, List.getElem?_append_right, Nat.sub_self]
      exact Fin.eq (by simp [cutR, g1, g2, ho, hb, frE]) rfl
  case false =>
    have k1 := isE_length m1
    cases m2 : r.isEmpty
    case true =>
      have k2 := isE_not m2
      have ho : overB l r = false := by simp [overB, m2]
      simp only [run0, run1, run2, run3, run4, run5, run6, run7, run8, run9, run10, run11, run12, run13, run14, run15, run16, run17, run18, run19, run20, run21, run22, reduceCtorEq, Nat.reduceEqDiff, Nat.reduceAdd, Nat.reduceSub, Nat.reduceLeDiff, indexAddrA, indexRefA, appendA, strA, Nat.reduceMul, Nat.zero_mul, Nat.reduceMod, Int.reduceEq, Int.reduceLT, Int.reduceLE, Nat.reduceLT, Nat.lt_irrefl, Nat.reduceBEq, tys0, tys1, tys2, tys3, tys4, tys5, tys6, tys7, tys8, tys9, tys10, tys11, tys12, tys13, tys14, tys15, tys16, tys17, tys18, tys19, tys20, tys21, tys22, tys23, Try.ntmps34, Try.results34, List.length_map, e1, k1, k2]
      refine ⟨by kernel_rfl, ?_⟩
      refine RunL.callp rfl rfl ok_f84 hss (by simp only [pureL, pureB, pl, pr, Bool.and_self]) rfl ?_
      rw [hk]
      cases hb : cutBad l r
      · simp only [run0, run1, run2, run3, run4, run5, run6, run7, run8, run9, run10, run11, run12, run13, run14, run15, run16, run17, run18, run19, run20, run21, run22, reduceCtorEq, Nat.reduceEqDiff, Nat.reduceAdd, Nat.reduceSub, Nat.reduceLeDiff, indexAddrA, indexRefA, appendA, strA, Nat.reduceMul, Nat.zero_mul, Nat.reduceMod, Int.reduceEq, Int.reduceLT, Int.reduceLE, Nat.reduceLT, Nat.lt_irrefl, Nat.reduceBEq, tys0, tys1, tys2, tys3, tys4, tys5, tys6, tys7, tys8, tys9, tys10, tys11, tys12, tys13, tys14, tys15, tys16, tys17, tys18, tys19, tys20, tys21, tys22, tys23, Try.ntmps34, Try.results34, frE, List.getElem?_append_right, Nat.sub_self]
        exact Fin.eq (by simp [cutR, g1, g2, ho, hb, frE]) rfl
      · simp only [run0, run1, run2, run3, run4, run5, run6, run7, run8, run9, run10, run11, run12, run13, run14, run15, run16, run17, run18, run19, run20, run21, run22, reduceCtorEq, Nat.reduceEqDiff, Nat.reduceAdd, Nat.reduceSub, Nat.reduceLeDiff, indexAddrA, indexRefA, appendA, strA, Nat.reduceMul, Nat.zero_mul, Nat.reduceMod, Int.reduceEq, Int.reduceLT, Int.reduceLE, Nat.reduceLT, Nat.lt_irrefl, Nat.reduceBEq, tys0, tys1, tys2, tys3, tys4, tys5, tys6, tys7, tys8, tys9, tys10, tys11, tys12, tys13, tys14, tys15, tys16, tys17, tys18, tys19, tys20, tys21, tys22, tys23, Try.ntmps34, Try.results34, frE, List.getElem?_append_right, Nat.sub_self]
        exact Fin.eq (by simp [cutR, g1, g2, ho, hb, frE]) rfl
    case false =>
      have k2 := isE_length m2
      have b1 : cutM l < l.length := bestI_lt _ _ _ _ _ (by omega) (by omega)
      have b2 : cutL r < r.length := bestI_lt _ _ _ _ _ (by omega) (by omega)
      have c1 := frs_at b1
      have c2 := frs_at b2
      have b3 : (cutM l : Int) < (l.length : Int) := by omega
      have b4 : (cutL r : Int) < (r.length : Int) := by omega
      have hc := cmpP_ok (l.getD (cutM l) (0, 1)) (r.getD (cutL r) (0, 1))
      rw [← cmpPQ (goodF_at g1 b1) (goodF_at g2 b2)] at hc
      simp only [fr] at hc
      simp only [run0, run1, run2, run3, run4, run5, run6, run7, run8, run9, run10, run11, run12, run13, run14, run15, run16, run17, run18, run19, run20, run21, run22, reduceCtorEq, Nat.reduceEqDiff, Nat.reduceAdd, Nat.reduceSub, Nat.reduceLeDiff, indexAddrA, indexRefA, appendA, strA, Nat.reduceMul, Nat.zero_mul, Nat.reduceMod, Int.reduceEq, Int.reduceLT, Int.reduceLE, Nat.reduceLT, Nat.lt_irrefl, Nat.reduceBEq, tys0, tys1, tys2, tys3, tys4, tys5, tys6, tys7, tys8, tys9, tys10, tys11, tys12, tys13, tys14, tys15, tys16, tys17, tys18, tys19, tys20, tys21, tys22, tys23, Try.ntmps34, Try.results34, List.length_map, e1, k1, k2, c1, c2, b3, b4, Int.toNat_natCast, Int.natCast_nonneg]
      refine ⟨by kernel_rfl, ?_⟩
      refine RunL.callp rfl rfl ok_f82 (hc) (by first | rfl | simp only [pureL, pureB, Bool.and_self, Bool.and_true, Bool.true_and]) rfl ?_
      by_cases ho : 0 ≤ cmpQ (l.getD (cutM l) (0, 1)) (r.getD (cutL r) (0, 1))
      · have ho2 : overB l r = true := by simp only [overB, m1, m2, ho]; rfl
        simp only [run0, run1, run2, run3, run4, run5, run6, run7, run8, run9, run10, run11, run12, run13, run14, run15, run16, run17, run18, run19, run20, run21, run22, reduceCtorEq, Nat.reduceEqDiff, Nat.reduceAdd, Nat.reduceSub, Nat.reduceLeDiff, indexAddrA, indexRefA, appendA, strA, Nat.reduceMul, Nat.zero_mul, Nat.reduceMod, Int.reduceEq, Int.reduceLT, Int.reduceLE, Nat.reduceLT, Nat.lt_irrefl, Nat.reduceBEq, tys0, tys1, tys2, tys3, tys4, tys5, tys6, tys7, tys8, tys9, tys10, tys11, tys12, tys13, tys14, tys15, tys16, tys17, tys18, tys19, tys20, tys21, tys22, tys23, Try.ntmps34, Try.results34, ho]
        refine RunL.callp rfl rfl ok_f83 (whole_ok 0) (by first | rfl | simp only [pureL, pureB, Bool.and_self, Bool.and_true, Bool.true_and]) rfl ?_
        simp only [run0, run1, run2, run3, run4, run5, run6, run7, run8, run9, run10, run11, run12, run13, run14, run15, run16, run17, run18, run19, run20, run21, run22, reduceCtorEq, Nat.reduceEqDiff, Nat.reduceAdd, Nat.reduceSub, Nat.reduceLeDiff, indexAddrA, indexRefA, appendA, strA, Nat.reduceMul, Nat.zero_mul, Nat.reduceMod, Int.reduceEq, Int.reduceLT, Int.reduceLE, Nat.reduceLT, Nat.lt_irrefl, Nat.reduceBEq, tys0, tys1, tys2, tys3, tys4, tys5, tys6, tys7, tys8, tys9, tys10, tys11, tys12, tys13, tys14, tys15, tys16, tys17, tys18, tys19, tys20, tys21, tys22, tys23, Try.ntmps34, Try.results34, frE]
        exact Fin.eq (by simp [cutR, g1, g2, ho2, frE]) rfl
      · have ho2 : overB l r = false := by simp only [overB, m1, m2, ho]; rfl
        simp only [run0, run1, run2, run3, run4, run5, run6, run7, run8, run9, run10, run11, run12, run13, run14, run15, run16, run17, run18, run19, run20, run21, run22, reduceCtorEq, Nat.reduceEqDiff, Nat.reduceAdd, Nat.reduceSub, Nat.reduceLeDiff, indexAddrA, indexRefA, appendA, strA, Nat.reduceMul, Nat.zero_mul, Nat.reduceMod, Int.reduceEq, Int.reduceLT, Int.reduceLE, Nat.reduceLT, Nat.lt_irrefl, Nat.reduceBEq, tys0, tys1, tys2, tys3, tys4, tys5, tys6, tys7, tys8, tys9, tys10, tys11, tys12, tys13, tys14, tys15, tys16, tys17, tys18, tys19, tys20, tys21, tys22, tys23, Try.ntmps34, Try.results34, ho]
        refine RunL.callp rfl rfl ok_f84 hss (by simp only [pureL, pureB, pl, pr, Bool.and_self]) rfl ?_
        rw [hk]
        cases hb : cutBad l r
        · simp only [run0, run1, run2, run3, run4, run5, run6, run7, run8, run9, run10, run11, run12, run13, run14, run15, run16, run17, run18, run19, run20, run21, run22, reduceCtorEq, Nat.reduceEqDiff, Nat.reduceAdd, Nat.reduceSub, Nat.reduceLeDiff, indexAddrA, indexRefA, appendA, strA, Nat.reduceMul, Nat.zero_mul, Nat.reduceMod, Int.reduceEq, Int.reduceLT, Int.reduceLE, Nat.reduceLT, Nat.lt_irrefl, Nat.reduceBEq, tys0, tys1, tys2, tys3, tys4, tys5, tys6, tys7, tys8, tys9, tys10, tys11, tys12, tys13, tys14, tys15, tys16, tys17, tys18, tys19, tys20, tys21, tys22, tys23, Try.ntmps34, Try.results34, frE, List.getElem?_append_right, Nat.sub_self]
          exact Fin.eq (by simp [cutR, g1, g2, ho2, hb, frE]) rfl
        · simp only [run0, run1, run2, run3, run4, run5, run6, run7, run8, run9, run10, run11, run12, run13, run14, run15, run16, run17, run18, run19, run20, run21, run22, reduceCtorEq, Nat.reduceEqDiff, Nat.reduceAdd, Nat.reduceSub, Nat.reduceLeDiff, indexAddrA, indexRefA, appendA, strA, Nat.reduceMul, Nat.zero_mul, Nat.reduceMod, Int.reduceEq, Int.reduceLT, Int.reduceLE, Nat.reduceLT, Nat.lt_irrefl, Nat.reduceBEq, tys0, tys1, tys2, tys3, tys4, tys5, tys6, tys7, tys8, tys9, tys10, tys11, tys12, tys13, tys14, tys15, tys16, tys17, tys18, tys19, tys20, tys21, tys22, tys23, Try.ntmps34, Try.results34, frE, List.getElem?_append_right, Nat.sub_self]
          exact Fin.eq (by simp [cutR, g1, g2, ho2, hb, frE]) rfl

end Go.Proofs.Ytllcljajlemmaaa
/-
  Games: which are right, by both; the order of positions, plain; the program's memory of it.
-/
namespace Go.Proofs.Ytllcljajlemmaaa
open Go K
set_option linter.unusedSimpArgs false
set_option linter.unusedVariables false
set_option maxHeartbeats 1600000
set_option maxRecDepth 8000

theorem isGame_ok (g : List GP) (hl : g.length ≤ 1048576) (hs : ∀ p ∈ g, smallP p) : Ct Try.prog 49 [.sl false (g.map posE)] [] (.bool (gameB g)) [] := by
  refine Ct.by_ hmix [] Try.func49 rfl ?_
  simp only [run0, run1, run2, run3, run4, run5, run6, run7, run8, run9, run10, run11, run12, run13, run14, run15, run16, run17, run18, run19, run20, run21, run22, reduceCtorEq, Nat.reduceEqDiff, Nat.reduceAdd, Nat.reduceSub, Nat.reduceLeDiff, indexAddrA, indexRefA, appendA, strA, Nat.reduceMul, Nat.zero_mul, Nat.reduceMod, Int.reduceEq, Int.reduceLT, Int.reduceLE, Nat.reduceLT, Nat.lt_irrefl, Nat.reduceBEq, tys0, tys1, tys2, tys3, tys4, tys5, tys6, tys7, tys8, tys9, tys10, tys11, tys12, tys13, tys14, tys15, tys16, tys17, tys18, tys19, tys20, tys21, tys22, tys23, Try.ntmps49, Try.results49, List.length_map]
  refine AWp.loop_inv (ι := GmS) (fun q => ⟨[.sl false (g.map posE), .junk, .bool false, .junk, .junk, .sl false (g.map posE), .int .i64 g.length, .int .i64 q.d.length, .junk, .junk, .junk, .junk, .junk, .junk, .junk, .junk, .junk, .junk, .junk, .junk, .junk, .junk, .junk, .junk, .junk, .junk, .junk, .junk], q.X⟩)
    (fun q => g = q.d ++ q.r ∧ gmI q.d.length q.r = gmI 0 g) (fun q => q.r.length) ⟨[], g, []⟩ ⟨rfl, rfl⟩ ⟨by simp only [List.length_nil, Int.natCast_zero]; repeat constructor, rfl⟩ ?_
  rintro ⟨d, r, X⟩ ⟨ha, h2⟩
  refine W.sound hmix (E := []) ?_
  simp only at ha h2
  cases r with
  | nil =>
    have e1 := pos_end ha
    simp only [run0, run1, run2, run3, run4, run5, run6, run7, run8, run9, run10, run11, run12, run13, run14, run15, run16, run17, run18, run19, run20, run21, run22, reduceCtorEq, Nat.reduceEqDiff, Nat.reduceAdd, Nat.reduceSub, Nat.reduceLeDiff, indexAddrA, indexRefA, appendA, strA, Nat.reduceMul, Nat.zero_mul, Nat.reduceMod, Int.reduceEq, Int.reduceLT, Int.reduceLE, Nat.reduceLT, Nat.lt_irrefl, Nat.reduceBEq, tys0, tys1, tys2, tys3, tys4, tys5, tys6, tys7, tys8, tys9, tys10, tys11, tys12, tys13, tys14, tys15, tys16, tys17, tys18, tys19, tys20, tys21, tys22, tys23, Try.ntmps49, Try.results49, List.length_map, e1]
    refine RunL.callp rfl rfl ok_f94 (in_ok g.length 1 40) (by first | rfl | simp only [pureL, pureB, Bool.and_self, Bool.and_true, Bool.true_and]) rfl ?_
    simp only [run0, run1, run2, run3, run4, run5, run6, run7, run8, run9, run10, run11, run12, run13, run14, run15, run16, run17, run18, run19, run20, run21, run22, reduceCtorEq, Nat.reduceEqDiff, Nat.reduceAdd, Nat.reduceSub, Nat.reduceLeDiff, indexAddrA, indexRefA, appendA, strA, Nat.reduceMul, Nat.zero_mul, Nat.reduceMod, Int.reduceEq, Int.reduceLT, Int.reduceLE, Nat.reduceLT, Nat.lt_irrefl, Nat.reduceBEq, tys0, tys1, tys2, tys3, tys4, tys5, tys6, tys7, tys8, tys9, tys10, tys11, tys12, tys13, tys14, tys15, tys16, tys17, tys18, tys19, tys20, tys21, tys22, tys23, Try.ntmps49, Try.results49]
    exact Fin.eq (by rw [gameB, ← h2]; rfl) rfl
  | cons e r =>
    obtain ⟨e1, e2, e5⟩ := pos_split ha hl
    have hse := hs e (by rw [ha]; simp)
    have hdl : d.length ≤ 1048576 := by omega
    have p1 := ints_pure e.1
    have p2 := ints_pure e.2
    simp only [gmI] at h2
    simp only [run0, run1, run2, run3, run4, run5, run6, run7, run8, run9, run10, run11, run12, run13, run14, run15, run16, run17, run18, run19, run20, run21, run22, reduceCtorEq, Nat.reduceEqDiff, Nat.reduceAdd, Nat.reduceSub, Nat.reduceLeDiff, indexAddrA, indexRefA, appendA, strA, Nat.reduceMul, Nat.zero_mul, Nat.reduceMod, Int.reduceEq, Int.reduceLT, Int.reduceLE, Nat.reduceLT, Nat.lt_irrefl, Nat.reduceBEq, tys0, tys1, tys2, tys3, tys4, tys5, tys6, tys7, tys8, tys9, tys10, tys11, tys12, tys13, tys14, tys15, tys16, tys17, tys18, tys19, tys20, tys21, tys22, tys23, Try.ntmps49, Try.results49, List.length_map, e1, e2, Int.toNat_natCast, Int.natCast_nonneg, List.getElem?_append_right, Nat.sub_self]
    refine RunL.callp rfl rfl ok_f93 (rising_ok e.1 d.length hse.1 hdl) (by simp only [pureL, pureB, p1, Bool.and_self]) rfl ?_
    cases h3 : ris ((d.length : Int) - 1) none e.1
    · simp only [run0, run1, run2, run3, run4, run5, run6, run7, run8, run9, run10, run11, run12, run13, run14, run15, run16, run17, run18, run19, run20, run21, run22, reduceCtorEq, Nat.reduceEqDiff, Nat.reduceAdd, Nat.reduceSub, Nat.reduceLeDiff, indexAddrA, indexRefA, appendA, strA, Nat.reduceMul, Nat.zero_mul, Nat.reduceMod, Int.reduceEq, Int.reduceLT, Int.reduceLE, Nat.reduceLT, Nat.lt_irrefl, Nat.reduceBEq, tys0, tys1, tys2, tys3, tys4, tys5, tys6, tys7, tys8, tys9, tys10, tys11, tys12, tys13, tys14, tys15, tys16, tys17, tys18, tys19, tys20, tys21, tys22, tys23, Try.ntmps49, Try.results49]
      exact Fin.eq (by rw [gameB, ← h2, h3]; rfl) rfl
    simp only [run0, run1, run2, run3, run4, run5, run6, run7, run8, run9, run10, run11, run12, run13, run14, run15, run16, run17, run18, run19, run20, run21, run22, reduceCtorEq, Nat.reduceEqDiff, Nat.reduceAdd, Nat.reduceSub, Nat.reduceLeDiff, indexAddrA, indexRefA, appendA, strA, Nat.reduceMul, Nat.zero_mul, Nat.reduceMod, Int.reduceEq, Int.reduceLT, Int.reduceLE, Nat.reduceLT, Nat.lt_irrefl, Nat.reduceBEq, tys0, tys1, tys2, tys3, tys4, tys5, tys6, tys7, tys8, tys9, tys10, tys11, tys12, tys13, tys14, tys15, tys16, tys17, tys18, tys19, tys20, tys21, tys22, tys23, Try.ntmps49, Try.results49, List.length_map, List.getElem?_append_right, Nat.sub_self]
    refine RunL.callp rfl rfl ok_f93 (rising_ok e.2 d.length hse.2 hdl) (by simp only [pureL, pureB, p2, Bool.and_self]) rfl ?_
    cases h4 : ris ((d.length : Int) - 1) none e.2
    · simp only [run0, run1, run2, run3, run4, run5, run6, run7, run8, run9, run10, run11, run12, run13, run14, run15, run16, run17, run18, run19, run20, run21, run22, reduceCtorEq, Nat.reduceEqDiff, Nat.reduceAdd, Nat.reduceSub, Nat.reduceLeDiff, indexAddrA, indexRefA, appendA, strA, Nat.reduceMul, Nat.zero_mul, Nat.reduceMod, Int.reduceEq, Int.reduceLT, Int.reduceLE, Nat.reduceLT, Nat.lt_irrefl, Nat.reduceBEq, tys0, tys1, tys2, tys3, tys4, tys5, tys6, tys7, tys8, tys9, tys10, tys11, tys12, tys13, tys14, tys15, tys16, tys17, tys18, tys19, tys20, tys21, tys22, tys23, Try.ntmps49, Try.results49]
      exact Fin.eq (by rw [gameB, ← h2, h3, h4]; rfl) rfl
    simp only [run0, run1, run2, run3, run4, run5, run6, run7, run8, run9, run10, run11, run12, run13, run14, run15, run16, run17, run18, run19, run20, run21, run22, reduceCtorEq, Nat.reduceEqDiff, Nat.reduceAdd, Nat.reduceSub, Nat.reduceLeDiff, indexAddrA, indexRefA, appendA, strA, Nat.reduceMul, Nat.zero_mul, Nat.reduceMod, Int.reduceEq, Int.reduceLT, Int.reduceLE, Nat.reduceLT, Nat.lt_irrefl, Nat.reduceBEq, tys0, tys1, tys2, tys3, tys4, tys5, tys6, tys7, tys8, tys9, tys10, tys11, tys12, tys13, tys14, tys15, tys16, tys17, tys18, tys19, tys20, tys21, tys22, tys23, Try.ntmps49, Try.results49, e5]
    rw [h3, h4, Bool.true_and, Bool.true_and] at h2
    exact ⟨⟨d ++ [e], r, _⟩, ⟨by simp [ha], by simp only [List.length_append, List.length_cons, List.length_nil]; exact h2⟩, by simp, by simp only [List.length_append, List.length_cons, List.length_nil]; repeat constructor, rfl⟩
theorem gaGood_ok (g : List GP) (hl : g.length ≤ 1048576) (hs : ∀ p ∈ g, smallP p) : Ct Try.prog 46 [.sl false (g.map posE)] [] (.bool (gameB g)) [] := by
  refine Ct.by_ hmix [] Try.func46 rfl ?_
  simp only [run0, run1, run2, run3, run4, run5, run6, run7, run8, run9, run10, run11, run12, run13, run14, run15, run16, run17, run18, run19, run20, run21, run22, reduceCtorEq, Nat.reduceEqDiff, Nat.reduceAdd, Nat.reduceSub, Nat.reduceLeDiff, indexAddrA, indexRefA, appendA, strA, Nat.reduceMul, Nat.zero_mul, Nat.reduceMod, Int.reduceEq, Int.reduceLT, Int.reduceLE, Nat.reduceLT, Nat.lt_irrefl, Nat.reduceBEq, tys0, tys1, tys2, tys3, tys4, tys5, tys6, tys7, tys8, tys9, tys10, tys11, tys12, tys13, tys14, tys15, tys16, tys17, tys18, tys19, tys20, tys21, tys22, tys23, Try.ntmps46, Try.results46, List.length_map]
  refine AWp.loop_inv (ι := GmS) (fun q => ⟨[.sl false (g.map posE), .junk, .bool false, .junk, .junk, .sl false (g.map posE), .int .i64 g.length, .int .i64 q.d.length, .junk, .junk, .junk, .junk, .junk, .junk, .junk, .junk, .junk, .junk, .junk, .junk, .junk, .junk, .junk, .junk, .junk, .junk, .junk, .junk, .junk, .junk], q.X⟩)
    (fun q => g = q.d ++ q.r ∧ gmI q.d.length q.r = gmI 0 g) (fun q => q.r.length) ⟨[], g, []⟩ ⟨rfl, rfl⟩ ⟨by simp only [List.length_nil, Int.natCast_zero]; repeat constructor, rfl⟩ ?_
  rintro ⟨d, r, X⟩ ⟨ha, h2⟩
  refine W.sound hmix (E := []) ?_
  simp only at ha h2
  cases r with
  | nil =>
    have e1 := pos_end ha
    simp only [run0, run1, run2, run3, run4, run5, run6, run7, run8, run9, run10, run11, run12, run13, run14, run15, run16, run17, run18, run19, run20, run21, run22, reduceCtorEq, Nat.reduceEqDiff, Nat.reduceAdd, Nat.reduceSub, Nat.reduceLeDiff, indexAddrA, indexRefA, appendA, strA, Nat.reduceMul, Nat.zero_mul, Nat.reduceMod, Int.reduceEq, Int.reduceLT, Int.reduceLE, Nat.reduceLT, Nat.lt_irrefl, Nat.reduceBEq, tys0, tys1, tys2, tys3, tys4, tys5, tys6, tys7, tys8, tys9, tys10, tys11, tys12, tys13, tys14, tys15, tys16, tys17, tys18, tys19, tys20, tys21, tys22, tys23, Try.ntmps46, Try.results46, List.length_map, e1]
    refine RunL.callp rfl rfl ok_f64 (l1In_ok g.length 1 40) (by first | rfl | simp only [pureL, pureB, Bool.and_self, Bool.and_true, Bool.true_and]) rfl ?_
    simp only [run0, run1, run2, run3, run4, run5, run6, run7, run8, run9, run10, run11, run12, run13, run14, run15, run16, run17, run18, run19, run20, run21, run22, reduceCtorEq, Nat.reduceEqDiff, Nat.reduceAdd, Nat.reduceSub, Nat.reduceLeDiff, indexAddrA, indexRefA, appendA, strA, Nat.reduceMul, Nat.zero_mul, Nat.reduceMod, Int.reduceEq, Int.reduceLT, Int.reduceLE, Nat.reduceLT, Nat.lt_irrefl, Nat.reduceBEq, tys0, tys1, tys2, tys3, tys4, tys5, tys6, tys7, tys8, tys9, tys10, tys11, tys12, tys13, tys14, tys15, tys16, tys17, tys18, tys19, tys20, tys21, tys22, tys23, Try.ntmps46, Try.results46]
    exact Fin.eq (by rw [gameB, ← h2]; rfl) rfl
  | cons e r =>
    obtain ⟨e1, e2, e5⟩ := pos_split ha hl
    have hse := hs e (by rw [ha]; simp)
    have hw : IntKind.i64.wrap ((d.length : Int) - 1) = (d.length : Int) - 1 := i64_id (by omega) (by omega)
    have p1 := ints_pure e.1
    have p2 := ints_pure e.2
    simp only [gmI] at h2
    simp only [run0, run1, run2, run3, run4, run5, run6, run7, run8, run9, run10, run11, run12, run13, run14, run15, run16, run17, run18, run19, run20, run21, run22, reduceCtorEq, Nat.reduceEqDiff, Nat.reduceAdd, Nat.reduceSub, Nat.reduceLeDiff, indexAddrA, indexRefA, appendA, strA, Nat.reduceMul, Nat.zero_mul, Nat.reduceMod, Int.reduceEq, Int.reduceLT, Int.reduceLE, Nat.reduceLT, Nat.lt_irrefl, Nat.reduceBEq, tys0, tys1, tys2, tys3, tys4, tys5, tys6, tys7, tys8, tys9, tys10, tys11, tys12, tys13, tys14, tys15, tys16, tys17, tys18, tys19, tys20, tys21, tys22, tys23, Try.ntmps46, Try.results46, List.length_map, hw, e1, e2, Int.toNat_natCast, Int.natCast_nonneg, List.getElem?_append_right, Nat.sub_self]
    refine RunL.callp rfl rfl ok_f90 (l1Rising_ok e.1 _ hse.1) (by simp only [pureL, pureB, p1, Bool.and_self]) rfl ?_
    cases h3 : ris ((d.length : Int) - 1) none e.1
    · simp only [run0, run1, run2, run3, run4, run5, run6, run7, run8, run9, run10, run11, run12, run13, run14, run15, run16, run17, run18, run19, run20, run21, run22, reduceCtorEq, Nat.reduceEqDiff, Nat.reduceAdd, Nat.reduceSub, Nat.reduceLeDiff, indexAddrA, indexRefA, appendA, strA, Nat.reduceMul, Nat.zero_mul, Nat.reduceMod, Int.reduceEq, Int.reduceLT, Int.reduceLE, Nat.reduceLT, Nat.lt_irrefl, Nat.reduceBEq, tys0, tys1, tys2, tys3, tys4, tys5, tys6, tys7, tys8, tys9, tys10, tys11, tys12, tys13, tys14, tys15, tys16, tys17, tys18, tys19, tys20, tys21, tys22, tys23, Try.ntmps46, Try.results46]
      exact Fin.eq (by rw [gameB, ← h2, h3]; rfl) rfl
    simp only [run0, run1, run2, run3, run4, run5, run6, run7, run8, run9, run10, run11, run12, run13, run14, run15, run16, run17, run18, run19, run20, run21, run22, reduceCtorEq, Nat.reduceEqDiff, Nat.reduceAdd, Nat.reduceSub, Nat.reduceLeDiff, indexAddrA, indexRefA, appendA, strA, Nat.reduceMul, Nat.zero_mul, Nat.reduceMod, Int.reduceEq, Int.reduceLT, Int.reduceLE, Nat.reduceLT, Nat.lt_irrefl, Nat.reduceBEq, tys0, tys1, tys2, tys3, tys4, tys5, tys6, tys7, tys8, tys9, tys10, tys11, tys12, tys13, tys14, tys15, tys16, tys17, tys18, tys19, tys20, tys21, tys22, tys23, Try.ntmps46, Try.results46, List.length_map, hw, List.getElem?_append_right, Nat.sub_self]
    refine RunL.callp rfl rfl ok_f90 (l1Rising_ok e.2 _ hse.2) (by simp only [pureL, pureB, p2, Bool.and_self]) rfl ?_
    cases h4 : ris ((d.length : Int) - 1) none e.2
    · simp only [run0, run1, run2, run3, run4, run5, run6, run7, run8, run9, run10, run11, run12, run13, run14, run15, run16, run17, run18, run19, run20, run21, run22, reduceCtorEq, Nat.reduceEqDiff, Nat.reduceAdd, Nat.reduceSub, Nat.reduceLeDiff, indexAddrA, indexRefA, appendA, strA, Nat.reduceMul, Nat.zero_mul, Nat.reduceMod, Int.reduceEq, Int.reduceLT, Int.reduceLE, Nat.reduceLT, Nat.lt_irrefl, Nat.reduceBEq, tys0, tys1, tys2, tys3, tys4, tys5, tys6, tys7, tys8, tys9, tys10, tys11, tys12, tys13, tys14, tys15, tys16, tys17, tys18, tys19, tys20, tys21, tys22, tys23, Try.ntmps46, Try.results46]
      exact Fin.eq (by rw [gameB, ← h2, h3, h4]; rfl) rfl
    simp only [run0, run1, run2, run3, run4, run5, run6, run7, run8, run9, run10, run11, run12, run13, run14, run15, run16, run17, run18, run19, run20, run21, run22, reduceCtorEq, Nat.reduceEqDiff, Nat.reduceAdd, Nat.reduceSub, Nat.reduceLeDiff, indexAddrA, indexRefA, appendA, strA, Nat.reduceMul, Nat.zero_mul, Nat.reduceMod, Int.reduceEq, Int.reduceLT, Int.reduceLE, Nat.reduceLT, Nat.lt_irrefl, Nat.reduceBEq, tys0, tys1, tys2, tys3, tys4, tys5, tys6, tys7, tys8, tys9, tys10, tys11, tys12, tys13, tys14, tys15, tys16, tys17, tys18, tys19, tys20, tys21, tys22, tys23, Try.ntmps46, Try.results46, e5]
    rw [h3, h4, Bool.true_and, Bool.true_and] at h2
    exact ⟨⟨d ++ [e], r, _⟩, ⟨by simp [ha], by simp only [List.length_append, List.length_cons, List.length_nil]; exact h2⟩, by simp, by simp only [List.length_append, List.length_cons, List.length_nil]; repeat constructor, rfl⟩
/-- Is it a game with that position? -/
def hasB (g : List GP) (a : Int) : Bool := gameB g && inB a 0 ((g.length : Int) - 1)
theorem hasPosition_ok (g : List GP) (a : Int) (hl : g.length ≤ 1048576) (hs : ∀ p ∈ g, smallP p) : Ct Try.prog 66 [.sl false (g.map posE), .int .i64 a] [] (.bool (hasB g a)) [] := by
  have pg := posL_pure g
  have hw : IntKind.i64.wrap ((g.length : Int) - 1) = (g.length : Int) - 1 := i64_id (by omega) (by omega)
  refine Ct.by_ hmix [] Try.func66 rfl ?_
  simp only [run0, run1, run2, run3, run4, run5, run6, run7, run8, run9, run10, run11, run12, run13, run14, run15, run16, run17, run18, run19, run20, run21, run22, reduceCtorEq, Nat.reduceEqDiff, Nat.reduceAdd, Nat.reduceSub, Nat.reduceLeDiff, indexAddrA, indexRefA, appendA, strA, Nat.reduceMul, Nat.zero_mul, Nat.reduceMod, Int.reduceEq, Int.reduceLT, Int.reduceLE, Nat.reduceLT, Nat.lt_irrefl, Nat.reduceBEq, tys0, tys1, tys2, tys3, tys4, tys5, tys6, tys7, tys8, tys9, tys10, tys11, tys12, tys13, tys14, tys15, tys16, tys17, tys18, tys19, tys20, tys21, tys22, tys23, Try.ntmps66, Try.results66]
  refine RunL.callp rfl rfl ok_f49 (isGame_ok g hl hs) (by simp only [pureL, pureB, pg, Bool.and_self]) rfl ?_
  cases h : gameB g
  · simp only [run0, run1, run2, run3, run4, run5, run6, run7, run8, run9, run10, run11, run12, run13, run14, run15, run16, run17, run18, run19, run20, run21, run22, reduceCtorEq, Nat.reduceEqDiff, Nat.reduceAdd, Nat.reduceSub, Nat.reduceLeDiff, indexAddrA, indexRefA, appendA, strA, Nat.reduceMul, Nat.zero_mul, Nat.reduceMod, Int.reduceEq, Int.reduceLT, Int.reduceLE, Nat.reduceLT, Nat.lt_irrefl, Nat.reduceBEq, tys0, tys1, tys2, tys3, tys4, tys5, tys6, tys7, tys8, tys9, tys10, tys11, tys12, tys13, tys14, tys15, tys16, tys17, tys18, tys19, tys20, tys21, tys22, tys23, Try.ntmps66, Try.results66]
    exact Fin.eq (by simp [hasB, h]) rfl
  simp only [run0, run1, run2, run3, run4, run5, run6, run7, run8, run9, run10, run11, run12, run13, run14, run15, run16, run17, run18, run19, run20, run21, run22, reduceCtorEq, Nat.reduceEqDiff, Nat.reduceAdd, Nat.reduceSub, Nat.reduceLeDiff, indexAddrA, indexRefA, appendA, strA, Nat.reduceMul, Nat.zero_mul, Nat.reduceMod, Int.reduceEq, Int.reduceLT, Int.reduceLE, Nat.reduceLT, Nat.lt_irrefl, Nat.reduceBEq, tys0, tys1, tys2, tys3, tys4, tys5, tys6, tys7, tys8, tys9, tys10, tys11, tys12, tys13, tys14, tys15, tys16, tys17, tys18, tys19, tys20, tys21, tys22, tys23, Try.ntmps66, Try.results66, List.length_map, hw]
  refine RunL.callp rfl rfl ok_f94 (in_ok a 0 ((g.length : Int) - 1)) (by first | rfl | simp only [pureL, pureB, Bool.and_self, Bool.and_true, Bool.true_and]) rfl ?_
  simp only [run0, run1, run2, run3, run4, run5, run6, run7, run8, run9, run10, run11, run12, run13, run14, run15, run16, run17, run18, run19, run20, run21, run22, reduceCtorEq, Nat.reduceEqDiff, Nat.reduceAdd, Nat.reduceSub, Nat.reduceLeDiff, indexAddrA, indexRefA, appendA, strA, Nat.reduceMul, Nat.zero_mul, Nat.reduceMod, Int.reduceEq, Int.reduceLT, Int.reduceLE, Nat.reduceLT, Nat.lt_irrefl, Nat.reduceBEq, tys0, tys1, tys2, tys3, tys4, tys5, tys6, tys7, tys8, tys9, tys10, tys11, tys12, tys13, tys14, tys15, tys16, tys17, tys18, tys19, tys20, tys21, tys22, tys23, Try.ntmps66, Try.results66]
  exact Fin.eq (by simp [hasB, h]) rfl
theorem gaHas_ok (g : List GP) (a : Int) (hl : g.length ≤ 1048576) (hs : ∀ p ∈ g, smallP p) : Ct Try.prog 63 [.sl false (g.map posE), .int .i64 a] [] (.bool (hasB g a)) [] := by
  have pg := posL_pure g
  have hw : IntKind.i64.wrap ((g.length : Int) - 1) = (g.length : Int) - 1 := i64_id (by omega) (by omega)
  refine Ct.by_ hmix [] Try.func63 rfl ?_
  simp only [run0, run1, run2, run3, run4, run5, run6, run7, run8, run9, run10, run11, run12, run13, run14, run15, run16, run17, run18, run19, run20, run21, run22, reduceCtorEq, Nat.reduceEqDiff, Nat.reduceAdd, Nat.reduceSub, Nat.reduceLeDiff, indexAddrA, indexRefA, appendA, strA, Nat.reduceMul, Nat.zero_mul, Nat.reduceMod, Int.reduceEq, Int.reduceLT, Int.reduceLE, Nat.reduceLT, Nat.lt_irrefl, Nat.reduceBEq, tys0, tys1, tys2, tys3, tys4, tys5, tys6, tys7, tys8, tys9, tys10, tys11, tys12, tys13, tys14, tys15, tys16, tys17, tys18, tys19, tys20, tys21, tys22, tys23, Try.ntmps63, Try.results63]
  refine RunL.callp rfl rfl ok_f46 (gaGood_ok g hl hs) (by simp only [pureL, pureB, pg, Bool.and_self]) rfl ?_
  cases h : gameB g
  · simp only [run0, run1, run2, run3, run4, run5, run6, run7, run8, run9, run10, run11, run12, run13, run14, run15, run16, run17, run18, run19, run20, run21, run22, reduceCtorEq, Nat.reduceEqDiff, Nat.reduceAdd, Nat.reduceSub, Nat.reduceLeDiff, indexAddrA, indexRefA, appendA, strA, Nat.reduceMul, Nat.zero_mul, Nat.reduceMod, Int.reduceEq, Int.reduceLT, Int.reduceLE, Nat.reduceLT, Nat.lt_irrefl, Nat.reduceBEq, tys0, tys1, tys2, tys3, tys4, tys5, tys6, tys7, tys8, tys9, tys10, tys11, tys12, tys13, tys14, tys15, tys16, tys17, tys18, tys19, tys20, tys21, tys22, tys23, Try.ntmps63, Try.results63]
    exact Fin.eq (by simp [hasB, h]) rfl
  simp only [run0, run1, run2, run3, run4, run5, run6, run7, run8, run9, run10, run11, run12, run13, run14, run15, run16, run17, run18, run19, run20, run21, run22, reduceCtorEq, Nat.reduceEqDiff, Nat.reduceAdd, Nat.reduceSub, Nat.reduceLeDiff, indexAddrA, indexRefA, appendA, strA, Nat.reduceMul, Nat.zero_mul, Nat.reduceMod, Int.reduceEq, Int.reduceLT, Int.reduceLE, Nat.reduceLT, Nat.lt_irrefl, Nat.reduceBEq, tys0, tys1, tys2, tys3, tys4, tys5, tys6, tys7, tys8, tys9, tys10, tys11, tys12, tys13, tys14, tys15, tys16, tys17, tys18, tys19, tys20, tys21, tys22, tys23, Try.ntmps63, Try.results63, List.length_map, hw]
  refine RunL.callp rfl rfl ok_f64 (l1In_ok a 0 ((g.length : Int) - 1)) (by first | rfl | simp only [pureL, pureB, Bool.and_self, Bool.and_true, Bool.true_and]) rfl ?_
  simp only [run0, run1, run2, run3, run4, run5, run6, run7, run8, run9, run10, run11, run12, run13, run14, run15, run16, run17, run18, run19, run20, run21, run22, reduceCtorEq, Nat.reduceEqDiff, Nat.reduceAdd, Nat.reduceSub, Nat.reduceLeDiff, indexAddrA, indexRefA, appendA, strA, Nat.reduceMul, Nat.zero_mul, Nat.reduceMod, Int.reduceEq, Int.reduceLT, Int.reduceLE, Nat.reduceLT, Nat.lt_irrefl, Nat.reduceBEq, tys0, tys1, tys2, tys3, tys4, tys5, tys6, tys7, tys8, tys9, tys10, tys11, tys12, tys13, tys14, tys15, tys16, tys17, tys18, tys19, tys20, tys21, tys22, tys23, Try.ntmps63, Try.results63]
  exact Fin.eq (by simp [hasB, h]) rfl

/-! ### games whose options stand ahead -/
/-- Each option is a position ahead of it. -/
def GameOk (g : List GP) : Prop := ∀ (i : Nat) (p : GP), g[i]? = some p → smallP p ∧ (∀ x ∈ p.1, 0 ≤ x ∧ x < (i : Int)) ∧ ∀ x ∈ p.2, 0 ≤ x ∧ x < (i : Int)
theorem ris_mem {n : Int} : ∀ {l : List Int} {p : Option Int}, ris n p l = true → ∀ x ∈ l, 0 ≤ x ∧ x ≤ n
  | [], p, h, x, hx => by simp at hx
  | k :: r, p, h, x, hx => by
    simp only [ris, Bool.and_eq_true] at h
    rcases List.mem_cons.1 hx with rfl | hx
    · simpa [inB] using h.1.1
    · exact ris_mem h.2 x hx
theorem ris_len {n : Int} : ∀ {l : List Int} {q : Int}, ris n (some q) l = true → 0 ≤ q → q ≤ n → (l.length : Int) + q ≤ n
  | [], q, h, h0, h1 => by simpa using h1
  | k :: r, q, h, h0, h1 => by
    simp only [ris, Bool.and_eq_true, decide_eq_true_eq, inB] at h
    have := ris_len h.2 (by omega) (by omega)
    simp only [List.length_cons]
    omega
theorem ris_small {n : Int} {l : List Int} (h : ris n none l = true) : (l.length : Int) ≤ n + 1 ∨ l = [] := by
  cases l with
  | nil => exact .inr rfl
  | cons k r =>
    left
    simp only [ris, Bool.and_eq_true, decide_eq_true_eq, inB] at h
    have := ris_len h.2 (by omega) (by omega)
    simp only [List.length_cons]
    omega
theorem gmI_at : ∀ {g : List GP} {i : Nat}, gmI i g = true → ∀ (k : Nat) (p : GP), g[k]? = some p → ris (((i + k : Nat) : Int) - 1) none p.1 = true ∧ ris (((i + k : Nat) : Int) - 1) none p.2 = true
  | [], i, h, k, p, hk => by simp at hk
  | q :: r, i, h, k, p, hk => by
    simp only [gmI, Bool.and_eq_true] at h
    cases k with
    | zero => simp at hk; subst hk; exact ⟨h.1.1, h.1.2⟩
    | succ k =>
      have := gmI_at h.2 k p (by simpa using hk)
      rwa [show i + 1 + k = i + (k + 1) by omega] at this
theorem gameB_ok {g : List GP} (h : gameB g = true) : GameOk g ∧ 1 ≤ g.length ∧ g.length ≤ 40 ∧ ∀ p ∈ g, p.1.length ≤ 40 ∧ p.2.length ≤ 40 := by
  simp only [gameB, Bool.and_eq_true, inB, decide_eq_true_eq] at h
  obtain ⟨h1, h2, h3⟩ := h
  have key : ∀ (i : Nat) (p : GP), g[i]? = some p → (p.1.length ≤ 40 ∧ p.2.length ≤ 40) ∧ (∀ x ∈ p.1, 0 ≤ x ∧ x < (i : Int)) ∧ ∀ x ∈ p.2, 0 ≤ x ∧ x < (i : Int) := by
    intro i p hp
    have hi := (List.getElem?_eq_some_iff.1 hp).1
    obtain ⟨a, b⟩ := gmI_at h1 i p hp
    rw [Nat.zero_add] at a b
    refine ⟨⟨?_, ?_⟩, fun x hx => by have := ris_mem a x hx; omega, fun x hx => by have := ris_mem b x hx; omega⟩
    · rcases ris_small a with h | h
      · omega
      · simp [h]
    · rcases ris_small b with h | h
      · omega
      · simp [h]
  refine ⟨fun i p hp => ?_, by omega, by omega, fun p hp => ?_⟩
  · obtain ⟨⟨k1, k2⟩, k3⟩ := key i p hp
    exact ⟨⟨by omega, by omega⟩, k3⟩
  · obtain ⟨i, hi, rfl⟩ := List.getElem_of_mem hp
    exact (key i _ (List.getElem?_eq_getElem hi)).1

/-! ### the order -/
def lefts (g : List GP) (a : Nat) : List Int := (g.getD a ([], [])).1
def rights (g : List GP) (a : Nat) : List Int := (g.getD a ([], [])).2
/-- Is a position at most another one? 'f': how many steps at most. -/
def leF (g : List GP) : Nat → Nat → Nat → Bool
  | 0, _, _ => true
  | f + 1, a, b => (lefts g a).all (fun x => !leF g f b x.toNat) && (rights g b).all (fun y => !leF g f y.toNat a)
def leG (g : List GP) (a b : Nat) : Bool := leF g (a + b + 1) a b
theorem lefts_lt {g : List GP} (hg : GameOk g) {a : Nat} {x : Int} (h : x ∈ lefts g a) : 0 ≤ x ∧ x < (a : Int) := by
  unfold lefts at h
  rw [List.getD_eq_getElem?_getD] at h
  cases hp : g[a]? with
  | none => rw [hp] at h; simp at h
  | some p => rw [hp] at h; exact (hg a p hp).2.1 x h
theorem rights_lt {g : List GP} (hg : GameOk g) {a : Nat} {x : Int} (h : x ∈ rights g a) : 0 ≤ x ∧ x < (a : Int) := by
  unfold rights at h
  rw [List.getD_eq_getElem?_getD] at h
  cases hp : g[a]? with
  | none => rw [hp] at h; simp at h
  | some p => rw [hp] at h; exact (hg a p hp).2.2 x h
theorem all_congr_mem {α : Type} {l : List α} {p q : α → Bool} (h : ∀ x ∈ l, p x = q x) : l.all p = l.all q := by
  induction l with
  | nil => rfl
  | cons a l ih => simp only [List.all_cons, h a (by simp), ih fun x hx => h x (by simp [hx])]
theorem leF_deep {g : List GP} (hg : GameOk g) : ∀ (f h a b : Nat), a + b < f → a + b < h → leF g f a b = leF g h a b
  | 0, h, a, b, h1, _ => by omega
  | f + 1, 0, a, b, _, h2 => by omega
  | f + 1, h + 1, a, b, h1, h2 => by
    simp only [leF]
    congr 1
    · refine all_congr_mem fun x hx => ?_
      have := lefts_lt hg hx
      rw [leF_deep hg f h b x.toNat (by omega) (by omega)]
    · refine all_congr_mem fun x hx => ?_
      have := rights_lt hg hx
      rw [leF_deep hg f h x.toNat a (by omega) (by omega)]
theorem leF_succ (g : List GP) (f a b : Nat) : leF g (f + 1) a b = ((lefts g a).all (fun x => !leF g f b x.toNat) && (rights g b).all (fun y => !leF g f y.toNat a)) := rfl
theorem leG_eq {g : List GP} (hg : GameOk g) (a b : Nat) : leG g a b = ((lefts g a).all (fun x => !leG g b x.toNat) && (rights g b).all (fun y => !leG g y.toNat a)) := by
  unfold leG
  rw [leF_succ g (a + b) a b]
  congr 1
  · refine all_congr_mem fun x hx => ?_
    have := lefts_lt hg hx
    rw [leF_deep hg (a + b) (b + x.toNat + 1) b x.toNat (by omega) (by omega)]
  · refine all_congr_mem fun x hx => ?_
    have := rights_lt hg hx
    rw [leF_deep hg (a + b) (x.toNat + a + 1) x.toNat a (by omega) (by omega)]

/-! ### what is known already -/
abbrev Memo := List ((Int × Int) × Bool)
def keyO (a b : Nat) : AObj := .box 164 [.int .i64 a, .int .i64 b]
def memO (m : Memo) : AObj := mapO 164 4 ekP AV.bool m
abbrev JS := Memo × List AObj
/-- The program's search: the value, and what is known behind it. -/
def atM (g : List GP) : Nat → JS → Nat → Nat → Bool × JS
  | 0, s, _, _ => (true, s)
  | f + 1, s, a, b =>
    match getM s.1 ((a : Int), (b : Int)) with
    | some v => (v, (s.1, s.2 ++ [keyO a b]))
    | none =>
      let r1 := (lefts g a).foldl (fun (q : Bool × JS) x => if q.1 then (!(atM g f q.2 b x.toNat).1, (atM g f q.2 b x.toNat).2) else q) (true, (s.1, s.2 ++ [keyO a b]))
      let r2 := (rights g b).foldl (fun (q : Bool × JS) y => if q.1 then (!(atM g f q.2 y.toNat a).1, (atM g f q.2 y.toNat a).2) else q) r1
      (r2.1, (putM r2.2.1 ((a : Int), (b : Int)) r2.1, r2.2.2))
structure MemOk (g : List GP) (m : Memo) : Prop where
  nd : (m.map Prod.fst).Nodup
  ok : ∀ k v, getM m k = some v → ∃ a b : Nat, k = ((a : Int), (b : Int)) ∧ a < g.length ∧ b < g.length ∧ v = leG g a b
theorem MemOk.nil (g : List GP) : MemOk g [] := ⟨by simp, by simp [getM]⟩
theorem fold_law {g : List GP} {F : JS → Int → Bool × JS} {v : Int → Bool} : ∀ (l : List Int) (q : Bool × JS), MemOk g q.2.1 →
    (∀ x ∈ l, ∀ s : JS, MemOk g s.1 → (F s x).1 = v x ∧ MemOk g (F s x).2.1 ∧ ∃ Y, (F s x).2.2 = s.2 ++ Y) →
    (l.foldl (fun (q : Bool × JS) x => if q.1 then (!(F q.2 x).1, (F q.2 x).2) else q) q).1 = (q.1 && l.all fun x => !v x) ∧
    MemOk g (l.foldl (fun (q : Bool × JS) x => if q.1 then (!(F q.2 x).1, (F q.2 x).2) else q) q).2.1 ∧ ∃ Y, (l.foldl (fun (q : Bool × JS) x => if q.1 then (!(F q.2 x).1, (F q.2 x).2) else q) q).2.2 = q.2.2 ++ Y
  | [], q, hq, _ => ⟨by simp, hq, [], by simp⟩
  | x :: l, q, hq, hF => by
    simp only [List.foldl_cons, List.all_cons]
    obtain ⟨h1, h2, Y, h3⟩ := hF x (by simp) q.2 hq
    cases hb : q.1
    · rw [if_neg (by simp)]
      obtain ⟨k1, k2, k3⟩ := fold_law l q hq (fun y hy => hF y (by simp [hy]))
      refine ⟨by rw [k1, hb]; rfl, k2, k3⟩
    · rw [if_pos rfl]
      obtain ⟨k1, k2, Z, k3⟩ := fold_law l (!(F q.2 x).1, (F q.2 x).2) h2 (fun y hy => hF y (by simp [hy]))
      refine ⟨by rw [k1, h1, Bool.true_and], k2, Y ++ Z, by rw [k3, h3, List.append_assoc]⟩
theorem MemOk.put {g : List GP} {m : Memo} (h : MemOk g m) {a b : Nat} (ha : a < g.length) (hb : b < g.length) : MemOk g (putM m ((a : Int), (b : Int)) (leG g a b)) :=
  ⟨putM_nodup h.nd _ _, fun k v hk => by
    rw [getM_putM] at hk
    split at hk
    · rename_i e
      cases hk
      exact ⟨a, b, e.symm, ha, hb, rfl⟩
    · exact h.ok k v hk⟩
theorem atM_law {g : List GP} (hg : GameOk g) : ∀ (f : Nat) (s : JS) (a b : Nat), a < g.length → b < g.length → a + b < f → MemOk g s.1 →
    (atM g f s a b).1 = leG g a b ∧ MemOk g (atM g f s a b).2.1 ∧ ∃ Y, (atM g f s a b).2.2 = s.2 ++ keyO a b :: Y
  | 0, s, a, b, _, _, h, _ => by omega
  | f + 1, s, a, b, ha, hb, h, hm => by
    unfold atM
    cases hk : getM s.1 ((a : Int), (b : Int)) with
    | some v =>
      obtain ⟨a', b', e, _, _, hv⟩ := hm.ok _ _ hk
      simp only [Prod.mk.injEq, Int.natCast_inj] at e
      obtain ⟨rfl, rfl⟩ := e
      exact ⟨hv, hm, [], rfl⟩
    | none =>
      obtain ⟨r1, r2, Y, r3⟩ := fold_law (g := g) (F := fun s x => atM g f s b x.toNat) (v := fun x => leG g b x.toNat) (lefts g a) (true, (s.1, s.2 ++ [keyO a b])) hm (fun x hx t ht => by
        have := lefts_lt hg hx
        obtain ⟨k1, k2, Y, k3⟩ := atM_law hg f t b x.toNat hb (by omega) (by omega) ht
        exact ⟨k1, k2, _, k3⟩)
      generalize hq : (lefts g a).foldl (fun (q : Bool × JS) x => if q.1 then (!(atM g f q.2 b x.toNat).1, (atM g f q.2 b x.toNat).2) else q) (true, (s.1, s.2 ++ [keyO a b])) = q at *
      obtain ⟨t1, t2, Z, t3⟩ := fold_law (g := g) (F := fun s y => atM g f s y.toNat a) (v := fun y => leG g y.toNat a) (rights g b) q r2 (fun x hx t ht => by
        have := rights_lt hg hx
        obtain ⟨k1, k2, Y, k3⟩ := atM_law hg f t x.toNat a (by omega) ha (by omega) ht
        exact ⟨k1, k2, _, k3⟩)
      have hv : ((rights g b).foldl (fun (q : Bool × JS) y => if q.1 then (!(atM g f q.2 y.toNat a).1, (atM g f q.2 y.toNat a).2) else q) q).1 = leG g a b := by
        rw [t1, r1, leG_eq hg a b, Bool.true_and]
      refine ⟨hv, ?_, Y ++ Z, ?_⟩
      · simp only [hv]
        exact MemOk.put t2 ha hb
      · simp only [t3, r3, List.append_assoc, List.singleton_append, List.cons_append, List.nil_append]

end Go.Proofs.Ytllcljajlemmaaa
/-
  Games that are numbers: the simplest number between, and the order of the positions.
-/
namespace Go.Proofs.Ytllcljajlemmaaa
open Go K
set_option linter.unusedSimpArgs false
set_option linter.unusedVariables false
set_option maxHeartbeats 1600000
set_option maxRecDepth 8000

def valF (l r : List Fr) : Fr := (frN (cutX l r), frD (cutX l r))
theorem leB_lt {x y : Int} {a : Fr} (hx : x.natAbs ≤ 50000000) (hy : y.natAbs ≤ 50000000) (ha : FB a) (h1 : leB x a = true) (h2 : leB y a = false) : x < y := by
  have k1 := (leB_iff hx ha).1 h1
  have k2 : ¬ (y * a.2 ≤ a.1 * 1048576) := fun h => by rw [(leB_iff hy ha).2 h] at h2; cases h2
  exact Int.lt_of_mul_lt_mul_right (a := a.2) (by omega) (by have := ha.1; omega)
theorem geB_lt {x y : Int} {a : Fr} (hx : x.natAbs ≤ 50000000) (hy : y.natAbs ≤ 50000000) (ha : FB a) (h1 : geB x a = true) (h2 : geB y a = false) : y < x := by
  have k1 := (geB_iff hx ha).1 h1
  have k2 : ¬ (a.1 * 1048576 ≤ y * a.2) := fun h => by rw [(geB_iff hy ha).2 h] at h2; cases h2
  exact Int.lt_of_mul_lt_mul_right (a := a.2) (by omega) (by have := ha.1; omega)
theorem any_off {α : Type} {p : α → Bool} {l : List α} (h : l.any p = false) {a : α} (ha : a ∈ l) : p a = false := by
  cases hp : p a with
  | false => rfl
  | true => rw [List.any_eq_true.2 ⟨a, ha, hp⟩] at h; cases h
theorem up_lt {l : List Fr} (hl : ∀ a ∈ l, FB a) {x y : Int} (hx : x.natAbs ≤ 50000000) (hy : y.natAbs ≤ 50000000) (h1 : l.any (leB x) = true) (h2 : l.any (leB y) = false) : x < y := by
  obtain ⟨a, ha, k⟩ := List.any_eq_true.1 h1
  exact leB_lt hx hy (hl a ha) k (any_off h2 ha)
theorem down_lt {l : List Fr} (hl : ∀ a ∈ l, FB a) {x y : Int} (hx : x.natAbs ≤ 50000000) (hy : y.natAbs ≤ 50000000) (h1 : l.any (geB x) = true) (h2 : l.any (geB y) = false) : y < x := by
  obtain ⟨a, ha, k⟩ := List.any_eq_true.1 h1
  exact geB_lt hx hy (hl a ha) k (any_off h2 ha)
theorem bad_off {l r : List Fr} (h : cutBad l r = false) : l.any (leB (cutX l r)) = false ∧ r.any (geB (cutX l r)) = false := by
  simpa [cutBad] using h
/-- Two walks to simplest numbers, each of them in the other's gap, end at one number. -/
theorem walk_same {l r l' r' : List Fr} (hl : ∀ a ∈ l, FB a) (hr : ∀ a ∈ r, FB a) (hl' : ∀ a ∈ l', FB a) (hr' : ∀ a ∈ r', FB a)
    (hb : cutBad l r = false) (hb' : cutBad l' r' = false) (c1 : l.any (leB (cutX l' r')) = false) (c2 : r.any (geB (cutX l' r')) = false)
    (c3 : l'.any (leB (cutX l r)) = false) (c4 : r'.any (geB (cutX l r)) = false) :
    ∀ (k : Nat) (p : SiS), p.n + k = 20 → SiI l r p → SiI l' r' p → cutX l r = cutX l' r'
  | k, p, hk, h, h' => by
    have hn : p.n ≤ 20 := by omega
    have sx := h.small hn
    have s1 := (cut_small l r).1
    have s2 := (cut_small l' r').1
    obtain ⟨b1, b2⟩ := bad_off hb
    obtain ⟨b3, b4⟩ := bad_off hb'
    cases u : l.any (leB p.i.x)
    · cases d : r.any (geB p.i.x)
      · have hx := h.stop hn (.inl (by simp [cutS, u, d]))
        cases u' : l'.any (leB p.i.x)
        · cases d' : r'.any (geB p.i.x)
          · rw [hx, h'.stop hn (.inl (by simp [cutS, u', d']))]
          · have := down_lt hr' sx s1 d' c4
            omega
        · have := up_lt hl' sx s1 u' c3
          omega
      · have q1 := down_lt hr sx s1 d b2
        have q2 := down_lt hr sx s2 d c2
        cases u' : l'.any (leB p.i.x)
        · cases d' : r'.any (geB p.i.x)
          · have := h'.stop hn (.inl (by simp [cutS, u', d']))
            omega
          · rcases (h.down hn u d p.X).2 with ⟨_, e⟩ | ⟨e, f⟩
            · rw [hb] at e; cases e
            rcases (h'.down hn u' d' p.X).2 with ⟨_, e'⟩ | ⟨e', f'⟩
            · rw [hb'] at e'; cases e'
            cases k with
            | zero => omega
            | succ k => exact walk_same hl hr hl' hr' hb hb' c1 c2 c3 c4 k _ (by show p.n + 1 + k = 20; omega) f f'
        · have := up_lt hl' sx s1 u' c3
          omega
    · have q1 := up_lt hl sx s1 u b1
      have q2 := up_lt hl sx s2 u c1
      cases u' : l'.any (leB p.i.x)
      · cases d' : r'.any (geB p.i.x)
        · have := h'.stop hn (.inl (by simp [cutS, u', d']))
          omega
        · have := down_lt hr' sx s1 d' c4
          omega
      · rcases (h.up hn u p.X).2 with ⟨_, e⟩ | ⟨e, f⟩
        · rw [hb] at e; cases e
        rcases (h'.up hn u' p.X).2 with ⟨_, e'⟩ | ⟨e', f'⟩
        · rw [hb'] at e'; cases e'
        cases k with
        | zero => omega
        | succ k => exact walk_same hl hr hl' hr' hb hb' c1 c2 c3 c4 k _ (by show p.n + 1 + k = 20; omega) f f'
theorem walk_end {l r : List Fr} (hb : cutBad l r = false) : ∀ (k : Nat) (p : SiS), p.n + k = 20 → SiI l r p → ∃ q, SiI l r q ∧ q.n ≤ 20 ∧ cutX l r = q.i.x
  | k, p, hk, h => by
    have hn : p.n ≤ 20 := by omega
    cases u : l.any (leB p.i.x)
    · cases d : r.any (geB p.i.x)
      · exact ⟨p, h, hn, h.stop hn (.inl (by simp [cutS, u, d]))⟩
      · rcases (h.down hn u d p.X).2 with ⟨_, e⟩ | ⟨e, f⟩
        · rw [hb] at e; cases e
        cases k with
        | zero => omega
        | succ k => exact walk_end hb k _ (by show p.n + 1 + k = 20; omega) f
    · rcases (h.up hn u p.X).2 with ⟨_, e⟩ | ⟨e, f⟩
      · rw [hb] at e; cases e
      cases k with
      | zero => omega
      | succ k => exact walk_end hb k _ (by show p.n + 1 + k = 20; omega) f
theorem le_scale {g p q a1 a2 : Int} (hg : 0 < g) : (g * p) * a2 ≤ a1 * (g * q) ↔ p * a2 ≤ a1 * q := by
  rw [Int.mul_assoc, Int.mul_left_comm a1 g q]
  exact ⟨fun h => Int.le_of_mul_le_mul_left h hg, fun h => Int.mul_le_mul_of_nonneg_left h (by omega)⟩
theorem ge_scale {g p q a1 a2 : Int} (hg : 0 < g) : a1 * (g * q) ≤ (g * p) * a2 ↔ a1 * q ≤ p * a2 := by
  rw [Int.mul_assoc, Int.mul_left_comm a1 g q]
  exact ⟨fun h => Int.le_of_mul_le_mul_left h hg, fun h => Int.mul_le_mul_of_nonneg_left h (by omega)⟩
theorem valF_spec {l r : List Fr} (hb : cutBad l r = false) : FB (valF l r) ∧ (∀ a, FB a → (leB (cutX l r) a = true ↔ leQ (valF l r) a)) ∧ (∀ a, FB a → (geB (cutX l r) a = true ↔ leQ a (valF l r))) := by
  obtain ⟨q, h, hn, hx⟩ := walk_end hb 20 _ rfl (SiI.start l r)
  have s1 := (cut_small l r).1
  have hok := h.wj.ok (by rw [h.size]; exact hn)
  have hat := h.rl.at_
  rw [← hx] at hok hat
  obtain ⟨g, g0, g1, g2, g3, g4, g5⟩ := hat.spec (by omega)
  have hv : valF l r = (q.s.an, q.s.ad) := by
    unfold valF frN frD
    rw [if_pos hok, if_pos hok, ← hat.1, ← hat.2]
  have hgd : goodB q.s.an q.s.ad = true := by
    rw [hat.1, hat.2]; exact hok
  rw [hv]
  refine ⟨good_range hgd, fun a ha => ?_, fun a ha => ?_⟩
  · rw [leB_iff s1 ha]
    unfold leQ
    rw [g1, g2]
    exact le_scale g0
  · rw [geB_iff s1 ha]
    unfold leQ
    rw [g1, g2]
    exact ge_scale g0
theorem valF_in {l r : List Fr} (hl : ∀ a ∈ l, FB a) (hr : ∀ a ∈ r, FB a) (hb : cutBad l r = false) : (∀ a ∈ l, ¬ leQ (valF l r) a) ∧ ∀ a ∈ r, ¬ leQ a (valF l r) := by
  obtain ⟨_, h1, h2⟩ := valF_spec hb
  obtain ⟨b1, b2⟩ := bad_off hb
  exact ⟨fun a ha h => (by rw [← h1 a (hl a ha), any_off b1 ha] at h; cases h), fun a ha h => (by rw [← h2 a (hr a ha), any_off b2 ha] at h; cases h)⟩
theorem any_on {α : Type} {p : α → Bool} {l : List α} (h : ∀ a ∈ l, p a = false) : l.any p = false := by
  cases hp : l.any p with
  | false => rfl
  | true =>
    obtain ⟨a, ha, k⟩ := List.any_eq_true.1 hp
    rw [h a ha] at k; cases k
theorem valF_same {l r l' r' : List Fr} (hl : ∀ a ∈ l, FB a) (hr : ∀ a ∈ r, FB a) (hl' : ∀ a ∈ l', FB a) (hr' : ∀ a ∈ r', FB a)
    (hb : cutBad l r = false) (hb' : cutBad l' r' = false) (c1 : ∀ a ∈ l, ¬ leQ (valF l' r') a) (c2 : ∀ a ∈ r, ¬ leQ a (valF l' r'))
    (c3 : ∀ a ∈ l', ¬ leQ (valF l r) a) (c4 : ∀ a ∈ r', ¬ leQ a (valF l r)) : valF l r = valF l' r' := by
  obtain ⟨_, h1, h2⟩ := valF_spec hb
  obtain ⟨_, h3, h4⟩ := valF_spec hb'
  have := walk_same hl hr hl' hr' hb hb' (any_on fun a ha => by
      have := c1 a ha; rw [← h3 a (hl a ha)] at this; simpa using this) (any_on fun a ha => by
      have := c2 a ha; rw [← h4 a (hr a ha)] at this; simpa using this) (any_on fun a ha => by
      have := c3 a ha; rw [← h1 a (hl' a ha)] at this; simpa using this) (any_on fun a ha => by
      have := c4 a ha; rw [← h2 a (hr' a ha)] at this; simpa using this) 20 ⟨0, wk0, sw0, []⟩ rfl (SiI.start l r) (SiI.start l' r')
  unfold valF
  rw [this]

end Go.Proofs.Ytllcljajlemmaaa
/-
  Games that are numbers: what positions are worth, told in two ways.
-/
namespace Go.Proofs.Ytllcljajlemmaaa
open Go K
set_option linter.unusedSimpArgs false
set_option linter.unusedVariables false
set_option maxHeartbeats 1600000
set_option maxRecDepth 8000

structure Wt where
  num : Bool
  told : Bool
  val : Fr
def wt0 : Wt := ⟨false, false, (0, 0)⟩
def wAt (ws : List Wt) (x : Int) : Wt := ws.getD x.toNat wt0
def vals (ws : List Wt) (l : List Int) : List Fr := l.map fun x => (wAt ws x).val
def apartB (l r : List Fr) : Bool := l.all fun x => r.all fun y => decide (cmpQ x y < 0)
def wS (p : GP) (ws : List Wt) : Wt :=
  if (p.1 ++ p.2).all fun x => (wAt ws x).told then
    if ((p.1 ++ p.2).all fun x => (wAt ws x).num) && apartB (vals ws p.1) (vals ws p.2) then
      if cutBad (vals ws p.1) (vals ws p.2) then wt0 else ⟨true, true, valF (vals ws p.1) (vals ws p.2)⟩
    else ⟨false, true, (0, 0)⟩
  else wt0
def wsG (g : List GP) : Nat → List Wt
  | 0 => []
  | n + 1 => wsG g n ++ [wS (g.getD n ([], [])) (wsG g n)]
def wG (g : List GP) (i : Nat) : Wt := wS (g.getD i ([], [])) (wsG g i)
theorem wsG_len (g : List GP) : ∀ n, (wsG g n).length = n
  | 0 => rfl
  | n + 1 => by simp [wsG, wsG_len g n]
theorem wsG_get (g : List GP) : ∀ (n i : Nat), i < n → (wsG g n)[i]? = some (wG g i)
  | n + 1, i, h => by
    unfold wsG
    by_cases e : i = n
    · subst e
      rw [List.getElem?_append_right (by rw [wsG_len]; exact Nat.le_refl _), wsG_len, Nat.sub_self]; rfl
    · rw [List.getElem?_append_left (by rw [wsG_len]; omega)]
      exact wsG_get g n i (by omega)
theorem wAt_wsG (g : List GP) {n : Nat} {x : Int} (h0 : 0 ≤ x) (h : x < n) : wAt (wsG g n) x = wG g x.toNat := by
  unfold wAt
  rw [List.getD_eq_getElem?_getD, wsG_get g n x.toNat (by omega)]; rfl
theorem vals_wsG (g : List GP) {n : Nat} {l : List Int} (h : ∀ x ∈ l, 0 ≤ x ∧ x < (n : Int)) : vals (wsG g n) l = l.map fun x => (wG g x.toNat).val :=
  List.map_congr_left fun x hx => by rw [wAt_wsG g (h x hx).1 (h x hx).2]
abbrev lv (g : List GP) (i : Nat) : List Fr := (lefts g i).map fun x => (wG g x.toNat).val
abbrev rv (g : List GP) (i : Nat) : List Fr := (rights g i).map fun x => (wG g x.toNat).val
theorem wG_eq (g : List GP) (i : Nat) : wG g i = if ((lefts g i ++ rights g i).all fun x => (wAt (wsG g i) x).told) = true then (if (((lefts g i ++ rights g i).all fun x => (wAt (wsG g i) x).num) && apartB (vals (wsG g i) (lefts g i)) (vals (wsG g i) (rights g i))) = true then (if cutBad (vals (wsG g i) (lefts g i)) (vals (wsG g i) (rights g i)) = true then wt0 else ⟨true, true, valF (vals (wsG g i) (lefts g i)) (vals (wsG g i) (rights g i))⟩) else ⟨false, true, (0, 0)⟩) else wt0 := rfl
theorem num_facts {g : List GP} (hg : GameOk g) {i : Nat} (h : (wG g i).num = true) :
    (∀ x ∈ lefts g i, (wG g x.toNat).num = true) ∧ (∀ x ∈ rights g i, (wG g x.toNat).num = true) ∧ cutBad (lv g i) (rv g i) = false ∧ (wG g i).val = valF (lv g i) (rv g i) := by
  have hL : vals (wsG g i) (lefts g i) = lv g i := vals_wsG g fun x hx => lefts_lt hg hx
  have hR : vals (wsG g i) (rights g i) = rv g i := vals_wsG g fun x hx => rights_lt hg hx
  rw [wG_eq] at h ⊢
  rw [hL, hR] at h ⊢
  split at h
  · rename_i h1
    split at h
    · rename_i h2
      split at h
      · cases h
      · rename_i h3
        rw [if_pos h1, if_pos h2, if_neg h3]
        simp only [Bool.and_eq_true, List.all_eq_true, List.mem_append] at h2
        refine ⟨fun x hx => ?_, fun x hx => ?_, by simpa using h3, rfl⟩
        · have := h2.1 x (.inl hx)
          rwa [wAt_wsG g (lefts_lt hg hx).1 (lefts_lt hg hx).2] at this
        · have := h2.1 x (.inr hx)
          rwa [wAt_wsG g (rights_lt hg hx).1 (rights_lt hg hx).2] at this
    · cases h
  · cases h
theorem num_FB {g : List GP} (hg : GameOk g) : ∀ (s i : Nat), i < s → (wG g i).num = true → FB (wG g i).val
  | s + 1, i, hs, h => by
    obtain ⟨h1, h2, h3, h4⟩ := num_facts hg h
    rw [h4]
    exact (valF_spec h3).1
theorem num_in {g : List GP} (hg : GameOk g) {i : Nat} (h : (wG g i).num = true) : (∀ a ∈ lv g i, FB a) ∧ (∀ a ∈ rv g i, FB a) ∧ (∀ a ∈ lv g i, ¬ leQ (wG g i).val a) ∧ ∀ a ∈ rv g i, ¬ leQ a (wG g i).val := by
  obtain ⟨h1, h2, h3, h4⟩ := num_facts hg h
  have k1 : ∀ a ∈ lv g i, FB a := fun a ha => by
    obtain ⟨x, hx, rfl⟩ := List.mem_map.1 ha
    exact num_FB hg _ _ (Nat.lt_succ_self _) (h1 x hx)
  have k2 : ∀ a ∈ rv g i, FB a := fun a ha => by
    obtain ⟨x, hx, rfl⟩ := List.mem_map.1 ha
    exact num_FB hg _ _ (Nat.lt_succ_self _) (h2 x hx)
  rw [h4]
  exact ⟨k1, k2, valF_in k1 k2 h3⟩
theorem leQ_refl (a : Fr) : leQ a a := Int.le_refl _
theorem num_order {g : List GP} (hg : GameOk g) : ∀ (s a b : Nat), a + b < s → (wG g a).num = true → (wG g b).num = true → (leG g a b = true ↔ leQ (wG g a).val (wG g b).val)
  | s + 1, a, b, hs, ha, hb => by
    obtain ⟨a1, a2, a3, a4⟩ := num_facts hg ha
    obtain ⟨b1, b2, b3, b4⟩ := num_facts hg hb
    obtain ⟨a5, a6, a7, a8⟩ := num_in hg ha
    obtain ⟨b5, b6, b7, b8⟩ := num_in hg hb
    have fa := num_FB hg _ _ (Nat.lt_succ_self _) ha
    have fb := num_FB hg _ _ (Nat.lt_succ_self _) hb
    have ihL : ∀ x ∈ lefts g a, (leG g b x.toNat = true ↔ leQ (wG g b).val (wG g x.toNat).val) := fun x hx =>
      num_order hg s b x.toNat (by have := lefts_lt hg hx; omega) hb (a1 x hx)
    have ihR : ∀ y ∈ rights g b, (leG g y.toNat a = true ↔ leQ (wG g y.toNat).val (wG g a).val) := fun y hy =>
      num_order hg s y.toNat a (by have := rights_lt hg hy; omega) (b2 y hy) ha
    rw [leG_eq hg]
    simp only [Bool.and_eq_true, List.all_eq_true, Bool.not_eq_true']
    constructor
    · rintro ⟨hL, hR⟩
      rcases leQ_total (wG g a).val (wG g b).val with h | h
      · exact h
      have e : (wG g a).val = (wG g b).val := by
        have e := valF_same a5 a6 b5 b6 a3 b3 (fun z hz => by
          obtain ⟨x, hx, rfl⟩ := List.mem_map.1 hz
          rw [← b4, ← ihL x hx, hL x hx]; simp) (fun z hz q => by
          rw [← b4] at q
          exact a8 z hz (leQ_trans (a6 z hz) fb fa q h)) (fun z hz q => by
          rw [← a4] at q
          exact b7 z hz (leQ_trans fb fa (b5 z hz) h q)) (fun z hz => by
          obtain ⟨y, hy, rfl⟩ := List.mem_map.1 hz
          rw [← a4, ← ihR y hy, hR y hy]; simp)
        rw [a4, b4]; exact e
      rw [e]; exact leQ_refl _
    · intro h
      refine ⟨fun x hx => ?_, fun y hy => ?_⟩
      · cases q : leG g b x.toNat with
        | false => rfl
        | true =>
          have k := (ihL x hx).1 q
          have hz : (wG g x.toNat).val ∈ lv g a := List.mem_map.2 ⟨x, hx, rfl⟩
          exact absurd (leQ_trans fa fb (a5 _ hz) h k) (a7 _ hz)
      · cases q : leG g y.toNat a with
        | false => rfl
        | true =>
          have k := (ihR y hy).1 q
          have hz : (wG g y.toNat).val ∈ rv g b := List.mem_map.2 ⟨y, hy, rfl⟩
          exact absurd (leQ_trans (b6 _ hz) fa fb k h) (b8 _ hz)

/-! ### the program's way -/
structure Wo where
  num : Bool
  lost : Bool
  val : Fr
def wo0 : Wo := ⟨false, false, (0, 0)⟩
def iAt (ws : List Wo) (x : Int) : Wo := ws.getD x.toNat wo0
def ivals (ws : List Wo) (l : List Int) : List Fr := l.map fun x => (iAt ws x).val
def pairB (g : List GP) (l r : List Int) : Bool := l.all fun x => r.all fun y => !leG g y.toNat x.toNat
def iNum (g : List GP) (p : GP) (ws : List Wo) : Bool := ((p.1 ++ p.2).all fun x => (iAt ws x).num) && pairB g p.1 p.2
def iLost (p : GP) (ws : List Wo) : Bool := (p.1 ++ p.2).any fun x => (iAt ws x).lost
def simV (l r : List Fr) : Fr := if cutBad l r then (0, 0) else valF l r
def wI (g : List GP) (p : GP) (ws : List Wo) : Wo :=
  if iNum g p ws && !iLost p ws then ⟨true, cutBad (ivals ws p.1) (ivals ws p.2), simV (ivals ws p.1) (ivals ws p.2)⟩ else ⟨iNum g p ws, iLost p ws, (0, 0)⟩
def wiG (g : List GP) : Nat → List Wo
  | 0 => []
  | n + 1 => wiG g n ++ [wI g (g.getD n ([], [])) (wiG g n)]
def Rw (t : Wt) (i : Wo) : Prop := i.lost = !t.told ∧ (t.num = true → t.told = true) ∧ (t.told = true → i.num = t.num ∧ (t.num = true → i.val = t.val))
theorem wiG_len (g : List GP) : ∀ n, (wiG g n).length = n
  | 0 => rfl
  | n + 1 => by simp [wiG, wiG_len g n]
def iG (g : List GP) (i : Nat) : Wo := wI g (g.getD i ([], [])) (wiG g i)
theorem wiG_get (g : List GP) : ∀ (n i : Nat), i < n → (wiG g n)[i]? = some (iG g i)
  | n + 1, i, h => by
    unfold wiG
    by_cases e : i = n
    · subst e
      rw [List.getElem?_append_right (by rw [wiG_len]; exact Nat.le_refl _), wiG_len, Nat.sub_self]; rfl
    · rw [List.getElem?_append_left (by rw [wiG_len]; omega)]
      exact wiG_get g n i (by omega)
theorem iAt_wiG (g : List GP) {n : Nat} {x : Int} (h0 : 0 ≤ x) (h : x < n) : iAt (wiG g n) x = iG g x.toNat := by
  unfold iAt
  rw [List.getD_eq_getElem?_getD, wiG_get g n x.toNat (by omega)]; rfl
theorem all_same {α : Type} {l : List α} {p q : α → Bool} (h : ∀ x ∈ l, p x = q x) : l.all p = l.all q := by
  induction l with
  | nil => rfl
  | cons a r ih => simp only [List.all_cons, h a (by simp), ih fun x hx => h x (by simp [hx])]
theorem any_not {α : Type} {l : List α} {p q : α → Bool} (h : ∀ x ∈ l, p x = !q x) : l.any p = !l.all q := by
  induction l with
  | nil => rfl
  | cons a r ih => simp only [List.any_cons, List.all_cons, h a (by simp), ih fun x hx => h x (by simp [hx]), Bool.not_and]
theorem worth_same {g : List GP} (hg : GameOk g) : ∀ (s i : Nat), i < s → Rw (wG g i) (iG g i)
  | s + 1, i, hs => by
    have hp : ∀ x ∈ lefts g i ++ rights g i, 0 ≤ x ∧ x < (i : Int) := fun x hx => by
      rcases List.mem_append.1 hx with h | h
      · exact lefts_lt hg h
      · exact rights_lt hg h
    have ih : ∀ x ∈ lefts g i ++ rights g i, Rw (wAt (wsG g i) x) (iAt (wiG g i) x) := fun x hx => by
      rw [wAt_wsG g (hp x hx).1 (hp x hx).2, iAt_wiG g (hp x hx).1 (hp x hx).2]
      exact worth_same hg s x.toNat (by have := hp x hx; omega)
    have hlost : iLost (g.getD i ([], [])) (wiG g i) = !((lefts g i ++ rights g i).all fun x => (wAt (wsG g i) x).told) := any_not fun x hx => (ih x hx).1
    have hW := wG_eq g i
    have hI : iG g i = if (iNum g (g.getD i ([], [])) (wiG g i) && !iLost (g.getD i ([], [])) (wiG g i)) = true then (⟨true, cutBad (ivals (wiG g i) (lefts g i)) (ivals (wiG g i) (rights g i)), simV (ivals (wiG g i) (lefts g i)) (ivals (wiG g i) (rights g i))⟩ : Wo) else ⟨iNum g (g.getD i ([], [])) (wiG g i), iLost (g.getD i ([], [])) (wiG g i), (0, 0)⟩ := rfl
    rw [hlost] at hI
    cases ht : (lefts g i ++ rights g i).all fun x => (wAt (wsG g i) x).told
    · rw [ht, if_neg (by simp)] at hW
      rw [ht, if_neg (by simp)] at hI
      rw [hW, hI]
      exact ⟨rfl, fun h => (by cases h), fun h => (by cases h)⟩
    rw [ht, if_pos rfl] at hW
    have told : ∀ x ∈ lefts g i ++ rights g i, (wAt (wsG g i) x).told = true := List.all_eq_true.1 ht
    have hnum : iNum g (g.getD i ([], [])) (wiG g i) = (((lefts g i ++ rights g i).all fun x => (wAt (wsG g i) x).num) && pairB g (lefts g i) (rights g i)) := by
      have e : ((lefts g i ++ rights g i).all fun x => (iAt (wiG g i) x).num) = ((lefts g i ++ rights g i).all fun x => (wAt (wsG g i) x).num) := all_same fun x hx => ((ih x hx).2.2 (told x hx)).1
      rw [← e]; rfl
    rw [hnum, ht] at hI
    simp only [Bool.not_true, Bool.not_false, Bool.and_true] at hI
    cases hn : (lefts g i ++ rights g i).all fun x => (wAt (wsG g i) x).num
    · rw [hn, Bool.false_and, if_neg (by simp)] at hW hI
      rw [hW, hI]
      exact ⟨rfl, fun _ => rfl, fun _ => ⟨rfl, fun h => (by cases h)⟩⟩
    have nums : ∀ x ∈ lefts g i ++ rights g i, (wAt (wsG g i) x).num = true := List.all_eq_true.1 hn
    have hN : ∀ x ∈ lefts g i ++ rights g i, (wG g x.toNat).num = true := fun x hx => by
      have := nums x hx
      rwa [wAt_wsG g (hp x hx).1 (hp x hx).2] at this
    have hVL : ivals (wiG g i) (lefts g i) = vals (wsG g i) (lefts g i) := List.map_congr_left fun x hx => ((ih x (by simp [hx])).2.2 (told x (by simp [hx]))).2 (nums x (by simp [hx]))
    have hVR : ivals (wiG g i) (rights g i) = vals (wsG g i) (rights g i) := List.map_congr_left fun x hx => ((ih x (by simp [hx])).2.2 (told x (by simp [hx]))).2 (nums x (by simp [hx]))
    have hap : apartB (vals (wsG g i) (lefts g i)) (vals (wsG g i) (rights g i)) = pairB g (lefts g i) (rights g i) := by
      unfold apartB pairB vals
      rw [List.all_map]
      refine all_same fun x hx => ?_
      simp only [Function.comp_def, List.all_map]
      refine all_same fun y hy => ?_
      have x1 := lefts_lt hg hx
      have y1 := rights_lt hg hy
      simp only [wAt_wsG g x1.1 x1.2, wAt_wsG g y1.1 y1.2]
      have n1 := hN x (by simp [hx])
      have n2 := hN y (by simp [hy])
      have k := num_order hg _ y.toNat x.toNat (Nat.lt_succ_self _) n2 n1
      have c := cmpQ_neg (num_FB hg _ _ (Nat.lt_succ_self _) n1) (num_FB hg _ _ (Nat.lt_succ_self _) n2)
      cases q : leG g y.toNat x.toNat
      · simp only [Bool.not_false, decide_eq_true_eq]
        rw [c, ← k, q]; simp
      · simp only [Bool.not_true, decide_eq_false_iff_not]
        rw [c, ← k, q]; simp
    rw [hn, hap, Bool.true_and] at hW
    rw [hn, Bool.true_and, hVL, hVR] at hI
    cases hpair : pairB g (lefts g i) (rights g i)
    · rw [hpair, if_neg (by simp)] at hW hI
      rw [hW, hI]
      exact ⟨rfl, fun _ => rfl, fun _ => ⟨rfl, fun h => (by cases h)⟩⟩
    rw [hpair, if_pos rfl] at hW hI
    unfold simV at hI
    cases hb : cutBad (vals (wsG g i) (lefts g i)) (vals (wsG g i) (rights g i))
    · rw [hb, if_neg (by simp)] at hW hI
      rw [hW, hI]
      exact ⟨rfl, fun _ => rfl, fun _ => ⟨rfl, fun _ => rfl⟩⟩
    · rw [hb, if_pos rfl] at hW hI
      rw [hW, hI]
      exact ⟨rfl, fun h => (by cases h), fun h => (by cases h)⟩
/-- Positions behind one do not matter. -/
theorem wsG_take (g : List GP) (m : Nat) : ∀ n, n ≤ m → wsG (g.take m) n = wsG g n
  | 0, _ => rfl
  | n + 1, h => by
    have e : (g.take m).getD n ([], []) = g.getD n ([], []) := by
      rw [List.getD_eq_getElem?_getD, List.getD_eq_getElem?_getD, List.getElem?_take, if_pos (by omega)]
    unfold wsG
    rw [wsG_take g m n (by omega), e]
theorem GameOk.take {g : List GP} (hg : GameOk g) (m : Nat) : GameOk (g.take m) := fun i p hp => by
  rw [List.getElem?_take] at hp
  split at hp
  · exact hg i p hp
  · cases hp

end Go.Proofs.Ytllcljajlemmaaa
