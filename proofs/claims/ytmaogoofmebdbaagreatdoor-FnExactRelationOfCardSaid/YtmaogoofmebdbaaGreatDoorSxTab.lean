/-
  The table of types of this translation, as the executor wants it; each row held against the program. Printed by program (gentab.py).
-/
import Derived.Test.YtmaogoofmebdbaaGreatDoorSxTy
import Derived.Test.YtmaogoofmebdbaaGreatDoorProg
import Derived.KernelRfl
namespace Go.Proofs.YtmaogoofmebdbaaGreatDoor
open Go Go.Sx
def ti2 : TI := { size := 1, bytes := 8, zero := .int .i64 0, kind := .int .i64 }
theorem ti2_ok : TIok Tryz.prog 2 ti2 := ⟨by kernel_rfl, by kernel_rfl, by kernel_rfl, by kernel_rfl, by kernel_rfl⟩
def ti3 : TI := { size := 1, bytes := 8, zero := .int .i64 0, kind := .int .i64 }
theorem ti3_ok : TIok Tryz.prog 3 ti3 := ⟨by kernel_rfl, by kernel_rfl, by kernel_rfl, by kernel_rfl, by kernel_rfl⟩
def ti4 : TI := { size := 1, bytes := 1, zero := .bool false, kind := .bool }
theorem ti4_ok : TIok Tryz.prog 4 ti4 := ⟨by kernel_rfl, by kernel_rfl, by kernel_rfl, by kernel_rfl, by kernel_rfl⟩
def ti5 : TI := { size := 1, bytes := 1, zero := .int .u8 0, kind := .int .u8 }
theorem ti5_ok : TIok Tryz.prog 5 ti5 := ⟨by kernel_rfl, by kernel_rfl, by kernel_rfl, by kernel_rfl, by kernel_rfl⟩
def ti6 : TI := { size := 1, bytes := 1, zero := .int .u8 0, kind := .int .u8 }
theorem ti6_ok : TIok Tryz.prog 6 ti6 := ⟨by kernel_rfl, by kernel_rfl, by kernel_rfl, by kernel_rfl, by kernel_rfl⟩
def ti7 : TI := { size := 4, bytes := 24, zero := .agg #[.int .i64 0, .int .i64 0, .bool false, .int .u8 0], kind := .st, flds := [(0, 1, false), (1, 1, false), (2, 1, false), (3, 1, false)] }
theorem ti7_ok : TIok Tryz.prog 7 ti7 := ⟨by kernel_rfl, by kernel_rfl, by kernel_rfl, by kernel_rfl, by kernel_rfl⟩
def ti8 : TI := { size := 4, bytes := 24, zero := .agg #[.int .i64 0, .int .i64 0, .bool false, .int .u8 0], kind := .st, flds := [(0, 1, false), (1, 1, false), (2, 1, false), (3, 1, false)] }
theorem ti8_ok : TIok Tryz.prog 8 ti8 := ⟨by kernel_rfl, by kernel_rfl, by kernel_rfl, by kernel_rfl, by kernel_rfl⟩
def ti9 : TI := { size := 1, bytes := 16, zero := .string ByteArray.empty, kind := .str }
theorem ti9_ok : TIok Tryz.prog 9 ti9 := ⟨by kernel_rfl, by kernel_rfl, by kernel_rfl, by kernel_rfl, by kernel_rfl⟩
def ti10 : TI := { size := 1, bytes := 16, zero := .string ByteArray.empty, kind := .str }
theorem ti10_ok : TIok Tryz.prog 10 ti10 := ⟨by kernel_rfl, by kernel_rfl, by kernel_rfl, by kernel_rfl, by kernel_rfl⟩
def ti11 : TI := { size := 1, bytes := 16, zero := .string ByteArray.empty, kind := .str }
theorem ti11_ok : TIok Tryz.prog 11 ti11 := ⟨by kernel_rfl, by kernel_rfl, by kernel_rfl, by kernel_rfl, by kernel_rfl⟩
def ti12 : TI := { size := 1, bytes := 8, zero := .int .u64 0, kind := .int .u64 }
theorem ti12_ok : TIok Tryz.prog 12 ti12 := ⟨by kernel_rfl, by kernel_rfl, by kernel_rfl, by kernel_rfl, by kernel_rfl⟩
def ti13 : TI := { size := 2, bytes := 24, zero := .agg #[.string ByteArray.empty, .int .u64 0], kind := .st, flds := [(0, 1, false), (1, 1, false)] }
theorem ti13_ok : TIok Tryz.prog 13 ti13 := ⟨by kernel_rfl, by kernel_rfl, by kernel_rfl, by kernel_rfl, by kernel_rfl⟩
def ti14 : TI := { size := 2, bytes := 24, zero := .agg #[.string ByteArray.empty, .int .u64 0], kind := .st, flds := [(0, 1, false), (1, 1, false)] }
theorem ti14_ok : TIok Tryz.prog 14 ti14 := ⟨by kernel_rfl, by kernel_rfl, by kernel_rfl, by kernel_rfl, by kernel_rfl⟩
def ti15 : TI := { size := 1, bytes := 8, zero := .pointer none, kind := .oth }
theorem ti15_ok : TIok Tryz.prog 15 ti15 := ⟨by kernel_rfl, by kernel_rfl, by kernel_rfl, by kernel_rfl, by kernel_rfl⟩
def ti16 : TI := { size := 1, bytes := 8, zero := .pointer none, kind := .oth }
theorem ti16_ok : TIok Tryz.prog 16 ti16 := ⟨by kernel_rfl, by kernel_rfl, by kernel_rfl, by kernel_rfl, by kernel_rfl⟩
def ti17 : TI := { size := 1, bytes := 8, zero := .pointer none, kind := .oth }
theorem ti17_ok : TIok Tryz.prog 17 ti17 := ⟨by kernel_rfl, by kernel_rfl, by kernel_rfl, by kernel_rfl, by kernel_rfl⟩
def ti18 : TI := { size := 1, bytes := 8, zero := .agg #[.pointer none], kind := .st, flds := [(0, 1, false)] }
theorem ti18_ok : TIok Tryz.prog 18 ti18 := ⟨by kernel_rfl, by kernel_rfl, by kernel_rfl, by kernel_rfl, by kernel_rfl⟩
def ti19 : TI := { size := 1, bytes := 8, zero := .agg #[.pointer none], kind := .st, flds := [(0, 1, false)] }
theorem ti19_ok : TIok Tryz.prog 19 ti19 := ⟨by kernel_rfl, by kernel_rfl, by kernel_rfl, by kernel_rfl, by kernel_rfl⟩
def ti21 : TI := { size := 1, bytes := 4, zero := .int .i32 0, kind := .int .i32 }
theorem ti21_ok : TIok Tryz.prog 21 ti21 := ⟨by kernel_rfl, by kernel_rfl, by kernel_rfl, by kernel_rfl, by kernel_rfl⟩
def ti22 : TI := { size := 1, bytes := 24, zero := .slice none 0 0, kind := .sl, elem := 5, esize := 1, ebytes := 1, ezero := .int .u8 0, eagg := false, ety := .int .u8 }
theorem ti22_ok : TIok Tryz.prog 22 ti22 := ⟨by kernel_rfl, by kernel_rfl, by kernel_rfl, by kernel_rfl, by kernel_rfl⟩
def ti24 : TI := { size := 1, bytes := 24, zero := .slice none 0 0, kind := .sl, elem := 74, esize := 11, ebytes := 96, ezero := .agg #[.string ByteArray.empty, .int .i64 0, .int .i64 0, .int .i64 0, .int .i64 0, .int .i64 0, .int .i64 0, .bool false, .int .i64 0, .int .i64 0, .int .i64 0], eagg := true, ety := tClock }
theorem ti24_ok : TIok Tryz.prog 24 ti24 := ⟨by kernel_rfl, by kernel_rfl, by kernel_rfl, by kernel_rfl, by kernel_rfl⟩
def ti25 : TI := { size := 1, bytes := 24, zero := .slice none 0 0, kind := .sl, elem := 98, esize := 6, ebytes := 48, ezero := .agg #[.int .i64 0, .int .i64 0, .int .i64 0, .int .i64 0, .int .i64 0, .int .i64 0], eagg := true, ety := tExternal }
theorem ti25_ok : TIok Tryz.prog 25 ti25 := ⟨by kernel_rfl, by kernel_rfl, by kernel_rfl, by kernel_rfl, by kernel_rfl⟩
def ti26 : TI := { size := 1, bytes := 24, zero := .slice none 0 0, kind := .sl, elem := 102, esize := 5, ebytes := 88, ezero := .agg #[.int .i64 0, .int .i64 0, .slice none 0 0, .slice none 0 0, .slice none 0 0], eagg := true, ety := tException }
theorem ti26_ok : TIok Tryz.prog 26 ti26 := ⟨by kernel_rfl, by kernel_rfl, by kernel_rfl, by kernel_rfl, by kernel_rfl⟩
def ti27 : TI := { size := 1, bytes := 24, zero := .slice none 0 0, kind := .sl, elem := 100, esize := 5, ebytes := 48, ezero := .agg #[.string ByteArray.empty, .int .i64 0, .int .i64 0, .int .i64 0, .int .i64 0], eagg := true, ety := tCorner }
theorem ti27_ok : TIok Tryz.prog 27 ti27 := ⟨by kernel_rfl, by kernel_rfl, by kernel_rfl, by kernel_rfl, by kernel_rfl⟩
def ti28 : TI := { size := 5, bytes := 120, zero := .agg #[.slice none 0 0, .slice none 0 0, .slice none 0 0, .slice none 0 0, .slice none 0 0], kind := .st, flds := [(0, 1, false), (1, 1, false), (2, 1, false), (3, 1, false), (4, 1, false)] }
theorem ti28_ok : TIok Tryz.prog 28 ti28 := ⟨by kernel_rfl, by kernel_rfl, by kernel_rfl, by kernel_rfl, by kernel_rfl⟩
def ti29 : TI := { size := 5, bytes := 120, zero := .agg #[.slice none 0 0, .slice none 0 0, .slice none 0 0, .slice none 0 0, .slice none 0 0], kind := .st, flds := [(0, 1, false), (1, 1, false), (2, 1, false), (3, 1, false), (4, 1, false)] }
theorem ti29_ok : TIok Tryz.prog 29 ti29 := ⟨by kernel_rfl, by kernel_rfl, by kernel_rfl, by kernel_rfl, by kernel_rfl⟩
def ti32 : TI := { size := 3, bytes := 24, zero := .agg #[.int .i64 0, .int .i64 0, .int .i64 0], kind := .st, flds := [(0, 1, false), (1, 1, false), (2, 1, false)] }
theorem ti32_ok : TIok Tryz.prog 32 ti32 := ⟨by kernel_rfl, by kernel_rfl, by kernel_rfl, by kernel_rfl, by kernel_rfl⟩
def ti33 : TI := { size := 3, bytes := 24, zero := .agg #[.int .i64 0, .int .i64 0, .int .i64 0], kind := .st, flds := [(0, 1, false), (1, 1, false), (2, 1, false)], eqd := .int .i64 0 (.int .i64 1 (.int .i64 2 (.nil))) }
theorem ti33_ok : TIok Tryz.prog 33 ti33 := ⟨by kernel_rfl, by kernel_rfl, by kernel_rfl, by kernel_rfl, by kernel_rfl⟩
def ti38 : TI := { size := 1, bytes := 24, zero := .slice none 0 0, kind := .sl, elem := 117, esize := 11, ebytes := 96, ezero := .agg #[.string ByteArray.empty, .int .i64 0, .int .i64 0, .int .i64 0, .int .i64 0, .int .i64 0, .int .i64 0, .bool false, .int .i64 0, .int .i64 0, .int .i64 0], eagg := true, ety := tClock }
theorem ti38_ok : TIok Tryz.prog 38 ti38 := ⟨by kernel_rfl, by kernel_rfl, by kernel_rfl, by kernel_rfl, by kernel_rfl⟩
def ti39 : TI := { size := 1, bytes := 24, zero := .slice none 0 0, kind := .sl, elem := 126, esize := 6, ebytes := 48, ezero := .agg #[.int .i64 0, .int .i64 0, .int .i64 0, .int .i64 0, .int .i64 0, .int .i64 0], eagg := true, ety := tExternal }
theorem ti39_ok : TIok Tryz.prog 39 ti39 := ⟨by kernel_rfl, by kernel_rfl, by kernel_rfl, by kernel_rfl, by kernel_rfl⟩
def ti40 : TI := { size := 1, bytes := 24, zero := .slice none 0 0, kind := .sl, elem := 119, esize := 5, ebytes := 88, ezero := .agg #[.int .i64 0, .int .i64 0, .slice none 0 0, .slice none 0 0, .slice none 0 0], eagg := true, ety := tException }
theorem ti40_ok : TIok Tryz.prog 40 ti40 := ⟨by kernel_rfl, by kernel_rfl, by kernel_rfl, by kernel_rfl, by kernel_rfl⟩
def ti41 : TI := { size := 1, bytes := 24, zero := .slice none 0 0, kind := .sl, elem := 121, esize := 5, ebytes := 48, ezero := .agg #[.string ByteArray.empty, .int .i64 0, .int .i64 0, .int .i64 0, .int .i64 0], eagg := true, ety := tCorner }
theorem ti41_ok : TIok Tryz.prog 41 ti41 := ⟨by kernel_rfl, by kernel_rfl, by kernel_rfl, by kernel_rfl, by kernel_rfl⟩
def ti42 : TI := { size := 5, bytes := 120, zero := .agg #[.slice none 0 0, .slice none 0 0, .slice none 0 0, .slice none 0 0, .slice none 0 0], kind := .st, flds := [(0, 1, false), (1, 1, false), (2, 1, false), (3, 1, false), (4, 1, false)] }
theorem ti42_ok : TIok Tryz.prog 42 ti42 := ⟨by kernel_rfl, by kernel_rfl, by kernel_rfl, by kernel_rfl, by kernel_rfl⟩
def ti43 : TI := { size := 5, bytes := 120, zero := .agg #[.slice none 0 0, .slice none 0 0, .slice none 0 0, .slice none 0 0, .slice none 0 0], kind := .st, flds := [(0, 1, false), (1, 1, false), (2, 1, false), (3, 1, false), (4, 1, false)] }
theorem ti43_ok : TIok Tryz.prog 43 ti43 := ⟨by kernel_rfl, by kernel_rfl, by kernel_rfl, by kernel_rfl, by kernel_rfl⟩
def ti49 : TI := { size := 1, bytes := 8, zero := .pointer none, kind := .oth }
theorem ti49_ok : TIok Tryz.prog 49 ti49 := ⟨by kernel_rfl, by kernel_rfl, by kernel_rfl, by kernel_rfl, by kernel_rfl⟩
def ti51 : TI := { size := 1, bytes := 24, zero := .slice none 0 0, kind := .sl, elem := 170, esize := 7, ebytes := 112, ezero := .agg #[.string ByteArray.empty, .int .i64 0, .slice none 0 0, .slice none 0 0, .slice none 0 0, .int .i64 0, .int .i64 0], eagg := true, ety := tCell }
theorem ti51_ok : TIok Tryz.prog 51 ti51 := ⟨by kernel_rfl, by kernel_rfl, by kernel_rfl, by kernel_rfl, by kernel_rfl⟩
def ti52 : TI := { size := 1, bytes := 24, zero := .agg #[.slice none 0 0], kind := .st, flds := [(0, 1, false)] }
theorem ti52_ok : TIok Tryz.prog 52 ti52 := ⟨by kernel_rfl, by kernel_rfl, by kernel_rfl, by kernel_rfl, by kernel_rfl⟩
def ti53 : TI := { size := 1, bytes := 24, zero := .agg #[.slice none 0 0], kind := .st, flds := [(0, 1, false)] }
theorem ti53_ok : TIok Tryz.prog 53 ti53 := ⟨by kernel_rfl, by kernel_rfl, by kernel_rfl, by kernel_rfl, by kernel_rfl⟩
def ti54 : TI := { size := 1, bytes := 24, zero := .slice none 0 0, kind := .sl, elem := 157, esize := 3, ebytes := 48, ezero := .agg #[.string ByteArray.empty, .int .i64 0, .slice none 0 0], eagg := true, ety := tInstance }
theorem ti54_ok : TIok Tryz.prog 54 ti54 := ⟨by kernel_rfl, by kernel_rfl, by kernel_rfl, by kernel_rfl, by kernel_rfl⟩
def ti55 : TI := { size := 1, bytes := 24, zero := .slice none 0 0, kind := .sl, elem := 9, esize := 1, ebytes := 16, ezero := .string ByteArray.empty, eagg := false, ety := .str }
theorem ti55_ok : TIok Tryz.prog 55 ti55 := ⟨by kernel_rfl, by kernel_rfl, by kernel_rfl, by kernel_rfl, by kernel_rfl⟩
def ti56 : TI := { size := 1, bytes := 24, zero := .slice none 0 0, kind := .sl, elem := 159, esize := 3, ebytes := 32, ezero := .agg #[.string ByteArray.empty, .int .i64 0, .int .i64 0], eagg := true, ety := tPort }
theorem ti56_ok : TIok Tryz.prog 56 ti56 := ⟨by kernel_rfl, by kernel_rfl, by kernel_rfl, by kernel_rfl, by kernel_rfl⟩
def ti57 : TI := { size := 3, bytes := 72, zero := .agg #[.slice none 0 0, .slice none 0 0, .slice none 0 0], kind := .st, flds := [(0, 1, false), (1, 1, false), (2, 1, false)] }
theorem ti57_ok : TIok Tryz.prog 57 ti57 := ⟨by kernel_rfl, by kernel_rfl, by kernel_rfl, by kernel_rfl, by kernel_rfl⟩
def ti58 : TI := { size := 3, bytes := 72, zero := .agg #[.slice none 0 0, .slice none 0 0, .slice none 0 0], kind := .st, flds := [(0, 1, false), (1, 1, false), (2, 1, false)] }
theorem ti58_ok : TIok Tryz.prog 58 ti58 := ⟨by kernel_rfl, by kernel_rfl, by kernel_rfl, by kernel_rfl, by kernel_rfl⟩
def ti59 : TI := { size := 1, bytes := 24, zero := .slice none 0 0, kind := .sl, elem := 153, esize := 4, ebytes := 96, ezero := .agg #[.slice none 0 0, .slice none 0 0, .slice none 0 0, .slice none 0 0], eagg := true, ety := tWire }
theorem ti59_ok : TIok Tryz.prog 59 ti59 := ⟨by kernel_rfl, by kernel_rfl, by kernel_rfl, by kernel_rfl, by kernel_rfl⟩
def ti60 : TI := { size := 5, bytes := 120, zero := .agg #[.slice none 0 0, .slice none 0 0, .slice none 0 0, .slice none 0 0, .slice none 0 0], kind := .st, flds := [(0, 1, true), (1, 3, true), (4, 1, false)] }
theorem ti60_ok : TIok Tryz.prog 60 ti60 := ⟨by kernel_rfl, by kernel_rfl, by kernel_rfl, by kernel_rfl, by kernel_rfl⟩
def ti61 : TI := { size := 5, bytes := 120, zero := .agg #[.slice none 0 0, .slice none 0 0, .slice none 0 0, .slice none 0 0, .slice none 0 0], kind := .st, flds := [(0, 1, true), (1, 3, true), (4, 1, false)] }
theorem ti61_ok : TIok Tryz.prog 61 ti61 := ⟨by kernel_rfl, by kernel_rfl, by kernel_rfl, by kernel_rfl, by kernel_rfl⟩
def ti65 : TI := { size := 2, bytes := 16, zero := .agg #[.int .i64 0, .int .i64 0], kind := .arr 2, elem := 2, esize := 1, ebytes := 8, ezero := .int .i64 0, eagg := false, ety := .int .i64 }
theorem ti65_ok : TIok Tryz.prog 65 ti65 := ⟨by kernel_rfl, by kernel_rfl, by kernel_rfl, by kernel_rfl, by kernel_rfl⟩
def ti66 : TI := { size := 3, bytes := 24, zero := .agg #[.int .i64 0, .int .i64 0, .int .i64 0], kind := .st, flds := [(0, 1, false), (1, 2, true)] }
theorem ti66_ok : TIok Tryz.prog 66 ti66 := ⟨by kernel_rfl, by kernel_rfl, by kernel_rfl, by kernel_rfl, by kernel_rfl⟩
def ti67 : TI := { size := 3, bytes := 24, zero := .agg #[.int .i64 0, .int .i64 0, .int .i64 0], kind := .st, flds := [(0, 1, false), (1, 2, true)] }
theorem ti67_ok : TIok Tryz.prog 67 ti67 := ⟨by kernel_rfl, by kernel_rfl, by kernel_rfl, by kernel_rfl, by kernel_rfl⟩
def ti68 : TI := { size := 9, bytes := 72, zero := .agg #[.int .i64 0, .int .i64 0, .int .i64 0, .int .i64 0, .int .i64 0, .int .i64 0, .int .i64 0, .int .i64 0, .int .i64 0], kind := .st, flds := [(0, 3, true), (3, 3, true), (6, 1, false), (7, 1, false), (8, 1, false)] }
theorem ti68_ok : TIok Tryz.prog 68 ti68 := ⟨by kernel_rfl, by kernel_rfl, by kernel_rfl, by kernel_rfl, by kernel_rfl⟩
def ti69 : TI := { size := 9, bytes := 72, zero := .agg #[.int .i64 0, .int .i64 0, .int .i64 0, .int .i64 0, .int .i64 0, .int .i64 0, .int .i64 0, .int .i64 0, .int .i64 0], kind := .st, flds := [(0, 3, true), (3, 3, true), (6, 1, false), (7, 1, false), (8, 1, false)] }
theorem ti69_ok : TIok Tryz.prog 69 ti69 := ⟨by kernel_rfl, by kernel_rfl, by kernel_rfl, by kernel_rfl, by kernel_rfl⟩
def ti73 : TI := { size := 11, bytes := 96, zero := .agg #[.string ByteArray.empty, .int .i64 0, .int .i64 0, .int .i64 0, .int .i64 0, .int .i64 0, .int .i64 0, .bool false, .int .i64 0, .int .i64 0, .int .i64 0], kind := .st, flds := [(0, 1, false), (1, 1, false), (2, 1, false), (3, 1, false), (4, 1, false), (5, 1, false), (6, 1, false), (7, 1, false), (8, 1, false), (9, 1, false), (10, 1, false)] }
theorem ti73_ok : TIok Tryz.prog 73 ti73 := ⟨by kernel_rfl, by kernel_rfl, by kernel_rfl, by kernel_rfl, by kernel_rfl⟩
def ti74 : TI := { size := 11, bytes := 96, zero := .agg #[.string ByteArray.empty, .int .i64 0, .int .i64 0, .int .i64 0, .int .i64 0, .int .i64 0, .int .i64 0, .bool false, .int .i64 0, .int .i64 0, .int .i64 0], kind := .st, flds := [(0, 1, false), (1, 1, false), (2, 1, false), (3, 1, false), (4, 1, false), (5, 1, false), (6, 1, false), (7, 1, false), (8, 1, false), (9, 1, false), (10, 1, false)], eqd := .str 0 (.int .i64 1 (.int .i64 2 (.int .i64 3 (.int .i64 4 (.int .i64 5 (.int .i64 6 (.bool 7 (.int .i64 8 (.int .i64 9 (.int .i64 10 (.nil))))))))))) }
theorem ti74_ok : TIok Tryz.prog 74 ti74 := ⟨by kernel_rfl, by kernel_rfl, by kernel_rfl, by kernel_rfl, by kernel_rfl⟩
def ti92 : TI := { size := 3, bytes := 40, zero := .agg #[.slice none 0 0, .int .i64 0, .int .i64 0], kind := .st, flds := [(0, 1, false), (1, 1, false), (2, 1, false)] }
theorem ti92_ok : TIok Tryz.prog 92 ti92 := ⟨by kernel_rfl, by kernel_rfl, by kernel_rfl, by kernel_rfl, by kernel_rfl⟩
def ti93 : TI := { size := 3, bytes := 40, zero := .agg #[.slice none 0 0, .int .i64 0, .int .i64 0], kind := .st, flds := [(0, 1, false), (1, 1, false), (2, 1, false)] }
theorem ti93_ok : TIok Tryz.prog 93 ti93 := ⟨by kernel_rfl, by kernel_rfl, by kernel_rfl, by kernel_rfl, by kernel_rfl⟩
def ti94 : TI := { size := 1, bytes := 24, zero := .slice none 0 0, kind := .sl, elem := 2, esize := 1, ebytes := 8, ezero := .int .i64 0, eagg := false, ety := .int .i64 }
theorem ti94_ok : TIok Tryz.prog 94 ti94 := ⟨by kernel_rfl, by kernel_rfl, by kernel_rfl, by kernel_rfl, by kernel_rfl⟩
def ti95 : TI := { size := 2, bytes := 16, zero := .agg #[.int .i64 0, .int .i64 0], kind := .st, flds := [(0, 1, false), (1, 1, false)] }
theorem ti95_ok : TIok Tryz.prog 95 ti95 := ⟨by kernel_rfl, by kernel_rfl, by kernel_rfl, by kernel_rfl, by kernel_rfl⟩
def ti96 : TI := { size := 2, bytes := 16, zero := .agg #[.int .i64 0, .int .i64 0], kind := .st, flds := [(0, 1, false), (1, 1, false)], eqd := .int .i64 0 (.int .i64 1 (.nil)) }
theorem ti96_ok : TIok Tryz.prog 96 ti96 := ⟨by kernel_rfl, by kernel_rfl, by kernel_rfl, by kernel_rfl, by kernel_rfl⟩
def ti97 : TI := { size := 6, bytes := 48, zero := .agg #[.int .i64 0, .int .i64 0, .int .i64 0, .int .i64 0, .int .i64 0, .int .i64 0], kind := .st, flds := [(0, 1, false), (1, 1, false), (2, 2, true), (4, 2, true)] }
theorem ti97_ok : TIok Tryz.prog 97 ti97 := ⟨by kernel_rfl, by kernel_rfl, by kernel_rfl, by kernel_rfl, by kernel_rfl⟩
def ti98 : TI := { size := 6, bytes := 48, zero := .agg #[.int .i64 0, .int .i64 0, .int .i64 0, .int .i64 0, .int .i64 0, .int .i64 0], kind := .st, flds := [(0, 1, false), (1, 1, false), (2, 2, true), (4, 2, true)], eqd := .int .i64 0 (.int .i64 1 (.st 2 2 (.int .i64 0 (.int .i64 1 (.nil))) (.st 4 2 (.int .i64 0 (.int .i64 1 (.nil))) (.nil)))) }
theorem ti98_ok : TIok Tryz.prog 98 ti98 := ⟨by kernel_rfl, by kernel_rfl, by kernel_rfl, by kernel_rfl, by kernel_rfl⟩
def ti99 : TI := { size := 5, bytes := 48, zero := .agg #[.string ByteArray.empty, .int .i64 0, .int .i64 0, .int .i64 0, .int .i64 0], kind := .st, flds := [(0, 1, false), (1, 1, false), (2, 1, false), (3, 1, false), (4, 1, false)] }
theorem ti99_ok : TIok Tryz.prog 99 ti99 := ⟨by kernel_rfl, by kernel_rfl, by kernel_rfl, by kernel_rfl, by kernel_rfl⟩
def ti100 : TI := { size := 5, bytes := 48, zero := .agg #[.string ByteArray.empty, .int .i64 0, .int .i64 0, .int .i64 0, .int .i64 0], kind := .st, flds := [(0, 1, false), (1, 1, false), (2, 1, false), (3, 1, false), (4, 1, false)], eqd := .str 0 (.int .i64 1 (.int .i64 2 (.int .i64 3 (.int .i64 4 (.nil))))) }
theorem ti100_ok : TIok Tryz.prog 100 ti100 := ⟨by kernel_rfl, by kernel_rfl, by kernel_rfl, by kernel_rfl, by kernel_rfl⟩
def ti101 : TI := { size := 5, bytes := 88, zero := .agg #[.int .i64 0, .int .i64 0, .slice none 0 0, .slice none 0 0, .slice none 0 0], kind := .st, flds := [(0, 1, false), (1, 1, false), (2, 1, false), (3, 1, false), (4, 1, false)] }
theorem ti101_ok : TIok Tryz.prog 101 ti101 := ⟨by kernel_rfl, by kernel_rfl, by kernel_rfl, by kernel_rfl, by kernel_rfl⟩
def ti102 : TI := { size := 5, bytes := 88, zero := .agg #[.int .i64 0, .int .i64 0, .slice none 0 0, .slice none 0 0, .slice none 0 0], kind := .st, flds := [(0, 1, false), (1, 1, false), (2, 1, false), (3, 1, false), (4, 1, false)] }
theorem ti102_ok : TIok Tryz.prog 102 ti102 := ⟨by kernel_rfl, by kernel_rfl, by kernel_rfl, by kernel_rfl, by kernel_rfl⟩
def ti106 : TI := { size := 1, bytes := 24, zero := .slice none 0 0, kind := .sl, elem := 94, esize := 1, ebytes := 24, ezero := .slice none 0 0, eagg := false, ety := .sl (.int .i64) }
theorem ti106_ok : TIok Tryz.prog 106 ti106 := ⟨by kernel_rfl, by kernel_rfl, by kernel_rfl, by kernel_rfl, by kernel_rfl⟩
def ti110 : TI := { size := 3, bytes := 24, zero := .agg #[.int .i64 0, .int .i64 0, .int .i64 0], kind := .st, flds := [(0, 1, false), (1, 1, false), (2, 1, false)] }
theorem ti110_ok : TIok Tryz.prog 110 ti110 := ⟨by kernel_rfl, by kernel_rfl, by kernel_rfl, by kernel_rfl, by kernel_rfl⟩
def ti111 : TI := { size := 3, bytes := 24, zero := .agg #[.int .i64 0, .int .i64 0, .int .i64 0], kind := .st, flds := [(0, 1, false), (1, 1, false), (2, 1, false)], eqd := .int .i64 0 (.int .i64 1 (.int .i64 2 (.nil))) }
theorem ti111_ok : TIok Tryz.prog 111 ti111 := ⟨by kernel_rfl, by kernel_rfl, by kernel_rfl, by kernel_rfl, by kernel_rfl⟩
def ti117 : TI := { size := 11, bytes := 96, zero := .agg #[.string ByteArray.empty, .int .i64 0, .int .i64 0, .int .i64 0, .int .i64 0, .int .i64 0, .int .i64 0, .bool false, .int .i64 0, .int .i64 0, .int .i64 0], kind := .st, flds := [(0, 1, false), (1, 1, false), (2, 1, false), (3, 1, false), (4, 1, false), (5, 1, false), (6, 1, false), (7, 1, false), (8, 1, false), (9, 1, false), (10, 1, false)], eqd := .str 0 (.int .i64 1 (.int .i64 2 (.int .i64 3 (.int .i64 4 (.int .i64 5 (.int .i64 6 (.bool 7 (.int .i64 8 (.int .i64 9 (.int .i64 10 (.nil))))))))))) }
theorem ti117_ok : TIok Tryz.prog 117 ti117 := ⟨by kernel_rfl, by kernel_rfl, by kernel_rfl, by kernel_rfl, by kernel_rfl⟩
def ti119 : TI := { size := 5, bytes := 88, zero := .agg #[.int .i64 0, .int .i64 0, .slice none 0 0, .slice none 0 0, .slice none 0 0], kind := .st, flds := [(0, 1, false), (1, 1, false), (2, 1, false), (3, 1, false), (4, 1, false)] }
theorem ti119_ok : TIok Tryz.prog 119 ti119 := ⟨by kernel_rfl, by kernel_rfl, by kernel_rfl, by kernel_rfl, by kernel_rfl⟩
def ti121 : TI := { size := 5, bytes := 48, zero := .agg #[.string ByteArray.empty, .int .i64 0, .int .i64 0, .int .i64 0, .int .i64 0], kind := .st, flds := [(0, 1, false), (1, 1, false), (2, 1, false), (3, 1, false), (4, 1, false)], eqd := .str 0 (.int .i64 1 (.int .i64 2 (.int .i64 3 (.int .i64 4 (.nil))))) }
theorem ti121_ok : TIok Tryz.prog 121 ti121 := ⟨by kernel_rfl, by kernel_rfl, by kernel_rfl, by kernel_rfl, by kernel_rfl⟩
def ti124 : TI := { size := 2, bytes := 16, zero := .agg #[.int .i64 0, .int .i64 0], kind := .st, flds := [(0, 1, false), (1, 1, false)], eqd := .int .i64 0 (.int .i64 1 (.nil)) }
theorem ti124_ok : TIok Tryz.prog 124 ti124 := ⟨by kernel_rfl, by kernel_rfl, by kernel_rfl, by kernel_rfl, by kernel_rfl⟩
def ti125 : TI := { size := 6, bytes := 48, zero := .agg #[.int .i64 0, .int .i64 0, .int .i64 0, .int .i64 0, .int .i64 0, .int .i64 0], kind := .st, flds := [(0, 1, false), (1, 1, false), (2, 2, true), (4, 2, true)] }
theorem ti125_ok : TIok Tryz.prog 125 ti125 := ⟨by kernel_rfl, by kernel_rfl, by kernel_rfl, by kernel_rfl, by kernel_rfl⟩
def ti126 : TI := { size := 6, bytes := 48, zero := .agg #[.int .i64 0, .int .i64 0, .int .i64 0, .int .i64 0, .int .i64 0, .int .i64 0], kind := .st, flds := [(0, 1, false), (1, 1, false), (2, 2, true), (4, 2, true)], eqd := .int .i64 0 (.int .i64 1 (.st 2 2 (.int .i64 0 (.int .i64 1 (.nil))) (.st 4 2 (.int .i64 0 (.int .i64 1 (.nil))) (.nil)))) }
theorem ti126_ok : TIok Tryz.prog 126 ti126 := ⟨by kernel_rfl, by kernel_rfl, by kernel_rfl, by kernel_rfl, by kernel_rfl⟩
def ti134 : TI := { size := 1, bytes := 24, zero := .slice none 0 0, kind := .sl, elem := 138, esize := 4, ebytes := 32, ezero := .agg #[.int .i64 0, .int .i64 0, .int .i64 0, .bool false], eagg := true, ety := tl05Place }
theorem ti134_ok : TIok Tryz.prog 134 ti134 := ⟨by kernel_rfl, by kernel_rfl, by kernel_rfl, by kernel_rfl, by kernel_rfl⟩
def ti137 : TI := { size := 4, bytes := 32, zero := .agg #[.int .i64 0, .int .i64 0, .int .i64 0, .bool false], kind := .st, flds := [(0, 1, false), (1, 1, false), (2, 1, false), (3, 1, false)] }
theorem ti137_ok : TIok Tryz.prog 137 ti137 := ⟨by kernel_rfl, by kernel_rfl, by kernel_rfl, by kernel_rfl, by kernel_rfl⟩
def ti138 : TI := { size := 4, bytes := 32, zero := .agg #[.int .i64 0, .int .i64 0, .int .i64 0, .bool false], kind := .st, flds := [(0, 1, false), (1, 1, false), (2, 1, false), (3, 1, false)], eqd := .int .i64 0 (.int .i64 1 (.int .i64 2 (.bool 3 (.nil)))) }
theorem ti138_ok : TIok Tryz.prog 138 ti138 := ⟨by kernel_rfl, by kernel_rfl, by kernel_rfl, by kernel_rfl, by kernel_rfl⟩
def ti152 : TI := { size := 4, bytes := 96, zero := .agg #[.slice none 0 0, .slice none 0 0, .slice none 0 0, .slice none 0 0], kind := .st, flds := [(0, 1, false), (1, 1, false), (2, 1, false), (3, 1, false)] }
theorem ti152_ok : TIok Tryz.prog 152 ti152 := ⟨by kernel_rfl, by kernel_rfl, by kernel_rfl, by kernel_rfl, by kernel_rfl⟩
def ti153 : TI := { size := 4, bytes := 96, zero := .agg #[.slice none 0 0, .slice none 0 0, .slice none 0 0, .slice none 0 0], kind := .st, flds := [(0, 1, false), (1, 1, false), (2, 1, false), (3, 1, false)] }
theorem ti153_ok : TIok Tryz.prog 153 ti153 := ⟨by kernel_rfl, by kernel_rfl, by kernel_rfl, by kernel_rfl, by kernel_rfl⟩
def ti156 : TI := { size := 3, bytes := 48, zero := .agg #[.string ByteArray.empty, .int .i64 0, .slice none 0 0], kind := .st, flds := [(0, 1, false), (1, 1, false), (2, 1, false)] }
theorem ti156_ok : TIok Tryz.prog 156 ti156 := ⟨by kernel_rfl, by kernel_rfl, by kernel_rfl, by kernel_rfl, by kernel_rfl⟩
def ti157 : TI := { size := 3, bytes := 48, zero := .agg #[.string ByteArray.empty, .int .i64 0, .slice none 0 0], kind := .st, flds := [(0, 1, false), (1, 1, false), (2, 1, false)] }
theorem ti157_ok : TIok Tryz.prog 157 ti157 := ⟨by kernel_rfl, by kernel_rfl, by kernel_rfl, by kernel_rfl, by kernel_rfl⟩
def ti158 : TI := { size := 3, bytes := 32, zero := .agg #[.string ByteArray.empty, .int .i64 0, .int .i64 0], kind := .st, flds := [(0, 1, false), (1, 1, false), (2, 1, false)] }
theorem ti158_ok : TIok Tryz.prog 158 ti158 := ⟨by kernel_rfl, by kernel_rfl, by kernel_rfl, by kernel_rfl, by kernel_rfl⟩
def ti159 : TI := { size := 3, bytes := 32, zero := .agg #[.string ByteArray.empty, .int .i64 0, .int .i64 0], kind := .st, flds := [(0, 1, false), (1, 1, false), (2, 1, false)], eqd := .str 0 (.int .i64 1 (.int .i64 2 (.nil))) }
theorem ti159_ok : TIok Tryz.prog 159 ti159 := ⟨by kernel_rfl, by kernel_rfl, by kernel_rfl, by kernel_rfl, by kernel_rfl⟩
def ti167 : TI := { size := 1, bytes := 24, zero := .slice none 0 0, kind := .sl, elem := 178, esize := 4, ebytes := 40, ezero := .agg #[.string ByteArray.empty, .int .i64 0, .int .i64 0, .bool false], eagg := true, ety := tPin }
theorem ti167_ok : TIok Tryz.prog 167 ti167 := ⟨by kernel_rfl, by kernel_rfl, by kernel_rfl, by kernel_rfl, by kernel_rfl⟩
def ti168 : TI := { size := 1, bytes := 24, zero := .slice none 0 0, kind := .sl, elem := 182, esize := 6, ebytes := 80, ezero := .agg #[.int .i64 0, .int .i64 0, .int .i64 0, .int .i64 0, .slice none 0 0, .slice none 0 0], eagg := true, ety := tArc }
theorem ti168_ok : TIok Tryz.prog 168 ti168 := ⟨by kernel_rfl, by kernel_rfl, by kernel_rfl, by kernel_rfl, by kernel_rfl⟩
def ti169 : TI := { size := 7, bytes := 112, zero := .agg #[.string ByteArray.empty, .int .i64 0, .slice none 0 0, .slice none 0 0, .slice none 0 0, .int .i64 0, .int .i64 0], kind := .st, flds := [(0, 1, false), (1, 1, false), (2, 1, false), (3, 1, false), (4, 1, false), (5, 1, false), (6, 1, false)] }
theorem ti169_ok : TIok Tryz.prog 169 ti169 := ⟨by kernel_rfl, by kernel_rfl, by kernel_rfl, by kernel_rfl, by kernel_rfl⟩
def ti170 : TI := { size := 7, bytes := 112, zero := .agg #[.string ByteArray.empty, .int .i64 0, .slice none 0 0, .slice none 0 0, .slice none 0 0, .int .i64 0, .int .i64 0], kind := .st, flds := [(0, 1, false), (1, 1, false), (2, 1, false), (3, 1, false), (4, 1, false), (5, 1, false), (6, 1, false)] }
theorem ti170_ok : TIok Tryz.prog 170 ti170 := ⟨by kernel_rfl, by kernel_rfl, by kernel_rfl, by kernel_rfl, by kernel_rfl⟩
def ti177 : TI := { size := 4, bytes := 40, zero := .agg #[.string ByteArray.empty, .int .i64 0, .int .i64 0, .bool false], kind := .st, flds := [(0, 1, false), (1, 1, false), (2, 1, false), (3, 1, false)] }
theorem ti177_ok : TIok Tryz.prog 177 ti177 := ⟨by kernel_rfl, by kernel_rfl, by kernel_rfl, by kernel_rfl, by kernel_rfl⟩
def ti178 : TI := { size := 4, bytes := 40, zero := .agg #[.string ByteArray.empty, .int .i64 0, .int .i64 0, .bool false], kind := .st, flds := [(0, 1, false), (1, 1, false), (2, 1, false), (3, 1, false)], eqd := .str 0 (.int .i64 1 (.int .i64 2 (.bool 3 (.nil)))) }
theorem ti178_ok : TIok Tryz.prog 178 ti178 := ⟨by kernel_rfl, by kernel_rfl, by kernel_rfl, by kernel_rfl, by kernel_rfl⟩
def ti180 : TI := { size := 1, bytes := 24, zero := .slice none 0 0, kind := .sl, elem := 198, esize := 3, ebytes := 72, ezero := .agg #[.slice none 0 0, .slice none 0 0, .slice none 0 0], eagg := true, ety := tTable }
theorem ti180_ok : TIok Tryz.prog 180 ti180 := ⟨by kernel_rfl, by kernel_rfl, by kernel_rfl, by kernel_rfl, by kernel_rfl⟩
def ti181 : TI := { size := 6, bytes := 80, zero := .agg #[.int .i64 0, .int .i64 0, .int .i64 0, .int .i64 0, .slice none 0 0, .slice none 0 0], kind := .st, flds := [(0, 1, false), (1, 1, false), (2, 1, false), (3, 1, false), (4, 1, false), (5, 1, false)] }
theorem ti181_ok : TIok Tryz.prog 181 ti181 := ⟨by kernel_rfl, by kernel_rfl, by kernel_rfl, by kernel_rfl, by kernel_rfl⟩
def ti182 : TI := { size := 6, bytes := 80, zero := .agg #[.int .i64 0, .int .i64 0, .int .i64 0, .int .i64 0, .slice none 0 0, .slice none 0 0], kind := .st, flds := [(0, 1, false), (1, 1, false), (2, 1, false), (3, 1, false), (4, 1, false), (5, 1, false)] }
theorem ti182_ok : TIok Tryz.prog 182 ti182 := ⟨by kernel_rfl, by kernel_rfl, by kernel_rfl, by kernel_rfl, by kernel_rfl⟩
def ti185 : TI := { size := 256, bytes := 256, zero := .agg #[.bool false, .bool false, .bool false, .bool false, .bool false, .bool false, .bool false, .bool false, .bool false, .bool false, .bool false, .bool false, .bool false, .bool false, .bool false, .bool false, .bool false, .bool false, .bool false, .bool false, .bool false, .bool false, .bool false, .bool false, .bool false, .bool false, .bool false, .bool false, .bool false, .bool false, .bool false, .bool false, .bool false, .bool false, .bool false, .bool false, .bool false, .bool false, .bool false, .bool false, .bool false, .bool false, .bool false, .bool false, .bool false, .bool false, .bool false, .bool false, .bool false, .bool false, .bool false, .bool false, .bool false, .bool false, .bool false, .bool false, .bool false, .bool false, .bool false, .bool false, .bool false, .bool false, .bool false, .bool false, .bool false, .bool false, .bool false, .bool false, .bool false, .bool false, .bool false, .bool false, .bool false, .bool false, .bool false, .bool false, .bool false, .bool false, .bool false, .bool false, .bool false, .bool false, .bool false, .bool false, .bool false, .bool false, .bool false, .bool false, .bool false, .bool false, .bool false, .bool false, .bool false, .bool false, .bool false, .bool false, .bool false, .bool false, .bool false, .bool false, .bool false, .bool false, .bool false, .bool false, .bool false, .bool false, .bool false, .bool false, .bool false, .bool false, .bool false, .bool false, .bool false, .bool false, .bool false, .bool false, .bool false, .bool false, .bool false, .bool false, .bool false, .bool false, .bool false, .bool false, .bool false, .bool false, .bool false, .bool false, .bool false, .bool false, .bool false, .bool false, .bool false, .bool false, .bool false, .bool false, .bool false, .bool false, .bool false, .bool false, .bool false, .bool false, .bool false, .bool false, .bool false, .bool false, .bool false, .bool false, .bool false, .bool false, .bool false, .bool false, .bool false, .bool false, .bool false, .bool false, .bool false, .bool false, .bool false, .bool false, .bool false, .bool false, .bool false, .bool false, .bool false, .bool false, .bool false, .bool false, .bool false, .bool false, .bool false, .bool false, .bool false, .bool false, .bool false, .bool false, .bool false, .bool false, .bool false, .bool false, .bool false, .bool false, .bool false, .bool false, .bool false, .bool false, .bool false, .bool false, .bool false, .bool false, .bool false, .bool false, .bool false, .bool false, .bool false, .bool false, .bool false, .bool false, .bool false, .bool false, .bool false, .bool false, .bool false, .bool false, .bool false, .bool false, .bool false, .bool false, .bool false, .bool false, .bool false, .bool false, .bool false, .bool false, .bool false, .bool false, .bool false, .bool false, .bool false, .bool false, .bool false, .bool false, .bool false, .bool false, .bool false, .bool false, .bool false, .bool false, .bool false, .bool false, .bool false, .bool false, .bool false, .bool false, .bool false, .bool false, .bool false, .bool false, .bool false, .bool false, .bool false, .bool false, .bool false, .bool false, .bool false, .bool false, .bool false, .bool false, .bool false, .bool false, .bool false, .bool false, .bool false, .bool false, .bool false, .bool false], kind := .arr 256, elem := 4, esize := 1, ebytes := 1, ezero := .bool false, eagg := false, ety := .bool }
theorem ti185_ok : TIok Tryz.prog 185 ti185 := ⟨by kernel_rfl, by kernel_rfl, by kernel_rfl, by kernel_rfl, by kernel_rfl⟩
def ti186 : TI := { size := 256, bytes := 256, zero := .agg #[.bool false, .bool false, .bool false, .bool false, .bool false, .bool false, .bool false, .bool false, .bool false, .bool false, .bool false, .bool false, .bool false, .bool false, .bool false, .bool false, .bool false, .bool false, .bool false, .bool false, .bool false, .bool false, .bool false, .bool false, .bool false, .bool false, .bool false, .bool false, .bool false, .bool false, .bool false, .bool false, .bool false, .bool false, .bool false, .bool false, .bool false, .bool false, .bool false, .bool false, .bool false, .bool false, .bool false, .bool false, .bool false, .bool false, .bool false, .bool false, .bool false, .bool false, .bool false, .bool false, .bool false, .bool false, .bool false, .bool false, .bool false, .bool false, .bool false, .bool false, .bool false, .bool false, .bool false, .bool false, .bool false, .bool false, .bool false, .bool false, .bool false, .bool false, .bool false, .bool false, .bool false, .bool false, .bool false, .bool false, .bool false, .bool false, .bool false, .bool false, .bool false, .bool false, .bool false, .bool false, .bool false, .bool false, .bool false, .bool false, .bool false, .bool false, .bool false, .bool false, .bool false, .bool false, .bool false, .bool false, .bool false, .bool false, .bool false, .bool false, .bool false, .bool false, .bool false, .bool false, .bool false, .bool false, .bool false, .bool false, .bool false, .bool false, .bool false, .bool false, .bool false, .bool false, .bool false, .bool false, .bool false, .bool false, .bool false, .bool false, .bool false, .bool false, .bool false, .bool false, .bool false, .bool false, .bool false, .bool false, .bool false, .bool false, .bool false, .bool false, .bool false, .bool false, .bool false, .bool false, .bool false, .bool false, .bool false, .bool false, .bool false, .bool false, .bool false, .bool false, .bool false, .bool false, .bool false, .bool false, .bool false, .bool false, .bool false, .bool false, .bool false, .bool false, .bool false, .bool false, .bool false, .bool false, .bool false, .bool false, .bool false, .bool false, .bool false, .bool false, .bool false, .bool false, .bool false, .bool false, .bool false, .bool false, .bool false, .bool false, .bool false, .bool false, .bool false, .bool false, .bool false, .bool false, .bool false, .bool false, .bool false, .bool false, .bool false, .bool false, .bool false, .bool false, .bool false, .bool false, .bool false, .bool false, .bool false, .bool false, .bool false, .bool false, .bool false, .bool false, .bool false, .bool false, .bool false, .bool false, .bool false, .bool false, .bool false, .bool false, .bool false, .bool false, .bool false, .bool false, .bool false, .bool false, .bool false, .bool false, .bool false, .bool false, .bool false, .bool false, .bool false, .bool false, .bool false, .bool false, .bool false, .bool false, .bool false, .bool false, .bool false, .bool false, .bool false, .bool false, .bool false, .bool false, .bool false, .bool false, .bool false, .bool false, .bool false, .bool false, .bool false, .bool false, .bool false, .bool false, .bool false, .bool false, .bool false, .bool false, .bool false, .bool false, .bool false, .bool false, .bool false, .bool false, .bool false, .bool false, .bool false, .bool false, .bool false, .bool false], kind := .arr 256, elem := 4, esize := 1, ebytes := 1, ezero := .bool false, eagg := false, ety := .bool }
theorem ti186_ok : TIok Tryz.prog 186 ti186 := ⟨by kernel_rfl, by kernel_rfl, by kernel_rfl, by kernel_rfl, by kernel_rfl⟩
def ti190 : TI := { size := 1, bytes := 8, zero := .pointer none, kind := .oth }
theorem ti190_ok : TIok Tryz.prog 190 ti190 := ⟨by kernel_rfl, by kernel_rfl, by kernel_rfl, by kernel_rfl, by kernel_rfl⟩
def ti191 : TI := { size := 1, bytes := 8, zero := .int .u64 0, kind := .int .u64 }
theorem ti191_ok : TIok Tryz.prog 191 ti191 := ⟨by kernel_rfl, by kernel_rfl, by kernel_rfl, by kernel_rfl, by kernel_rfl⟩
def ti197 : TI := { size := 3, bytes := 72, zero := .agg #[.slice none 0 0, .slice none 0 0, .slice none 0 0], kind := .st, flds := [(0, 1, false), (1, 1, false), (2, 1, false)] }
theorem ti197_ok : TIok Tryz.prog 197 ti197 := ⟨by kernel_rfl, by kernel_rfl, by kernel_rfl, by kernel_rfl, by kernel_rfl⟩
def ti198 : TI := { size := 3, bytes := 72, zero := .agg #[.slice none 0 0, .slice none 0 0, .slice none 0 0], kind := .st, flds := [(0, 1, false), (1, 1, false), (2, 1, false)] }
theorem ti198_ok : TIok Tryz.prog 198 ti198 := ⟨by kernel_rfl, by kernel_rfl, by kernel_rfl, by kernel_rfl, by kernel_rfl⟩
def ti202 : TI := { size := 256, bytes := 256, zero := .agg #[.int .u8 0, .int .u8 0, .int .u8 0, .int .u8 0, .int .u8 0, .int .u8 0, .int .u8 0, .int .u8 0, .int .u8 0, .int .u8 0, .int .u8 0, .int .u8 0, .int .u8 0, .int .u8 0, .int .u8 0, .int .u8 0, .int .u8 0, .int .u8 0, .int .u8 0, .int .u8 0, .int .u8 0, .int .u8 0, .int .u8 0, .int .u8 0, .int .u8 0, .int .u8 0, .int .u8 0, .int .u8 0, .int .u8 0, .int .u8 0, .int .u8 0, .int .u8 0, .int .u8 0, .int .u8 0, .int .u8 0, .int .u8 0, .int .u8 0, .int .u8 0, .int .u8 0, .int .u8 0, .int .u8 0, .int .u8 0, .int .u8 0, .int .u8 0, .int .u8 0, .int .u8 0, .int .u8 0, .int .u8 0, .int .u8 0, .int .u8 0, .int .u8 0, .int .u8 0, .int .u8 0, .int .u8 0, .int .u8 0, .int .u8 0, .int .u8 0, .int .u8 0, .int .u8 0, .int .u8 0, .int .u8 0, .int .u8 0, .int .u8 0, .int .u8 0, .int .u8 0, .int .u8 0, .int .u8 0, .int .u8 0, .int .u8 0, .int .u8 0, .int .u8 0, .int .u8 0, .int .u8 0, .int .u8 0, .int .u8 0, .int .u8 0, .int .u8 0, .int .u8 0, .int .u8 0, .int .u8 0, .int .u8 0, .int .u8 0, .int .u8 0, .int .u8 0, .int .u8 0, .int .u8 0, .int .u8 0, .int .u8 0, .int .u8 0, .int .u8 0, .int .u8 0, .int .u8 0, .int .u8 0, .int .u8 0, .int .u8 0, .int .u8 0, .int .u8 0, .int .u8 0, .int .u8 0, .int .u8 0, .int .u8 0, .int .u8 0, .int .u8 0, .int .u8 0, .int .u8 0, .int .u8 0, .int .u8 0, .int .u8 0, .int .u8 0, .int .u8 0, .int .u8 0, .int .u8 0, .int .u8 0, .int .u8 0, .int .u8 0, .int .u8 0, .int .u8 0, .int .u8 0, .int .u8 0, .int .u8 0, .int .u8 0, .int .u8 0, .int .u8 0, .int .u8 0, .int .u8 0, .int .u8 0, .int .u8 0, .int .u8 0, .int .u8 0, .int .u8 0, .int .u8 0, .int .u8 0, .int .u8 0, .int .u8 0, .int .u8 0, .int .u8 0, .int .u8 0, .int .u8 0, .int .u8 0, .int .u8 0, .int .u8 0, .int .u8 0, .int .u8 0, .int .u8 0, .int .u8 0, .int .u8 0, .int .u8 0, .int .u8 0, .int .u8 0, .int .u8 0, .int .u8 0, .int .u8 0, .int .u8 0, .int .u8 0, .int .u8 0, .int .u8 0, .int .u8 0, .int .u8 0, .int .u8 0, .int .u8 0, .int .u8 0, .int .u8 0, .int .u8 0, .int .u8 0, .int .u8 0, .int .u8 0, .int .u8 0, .int .u8 0, .int .u8 0, .int .u8 0, .int .u8 0, .int .u8 0, .int .u8 0, .int .u8 0, .int .u8 0, .int .u8 0, .int .u8 0, .int .u8 0, .int .u8 0, .int .u8 0, .int .u8 0, .int .u8 0, .int .u8 0, .int .u8 0, .int .u8 0, .int .u8 0, .int .u8 0, .int .u8 0, .int .u8 0, .int .u8 0, .int .u8 0, .int .u8 0, .int .u8 0, .int .u8 0, .int .u8 0, .int .u8 0, .int .u8 0, .int .u8 0, .int .u8 0, .int .u8 0, .int .u8 0, .int .u8 0, .int .u8 0, .int .u8 0, .int .u8 0, .int .u8 0, .int .u8 0, .int .u8 0, .int .u8 0, .int .u8 0, .int .u8 0, .int .u8 0, .int .u8 0, .int .u8 0, .int .u8 0, .int .u8 0, .int .u8 0, .int .u8 0, .int .u8 0, .int .u8 0, .int .u8 0, .int .u8 0, .int .u8 0, .int .u8 0, .int .u8 0, .int .u8 0, .int .u8 0, .int .u8 0, .int .u8 0, .int .u8 0, .int .u8 0, .int .u8 0, .int .u8 0, .int .u8 0, .int .u8 0, .int .u8 0, .int .u8 0, .int .u8 0, .int .u8 0, .int .u8 0, .int .u8 0, .int .u8 0, .int .u8 0, .int .u8 0, .int .u8 0, .int .u8 0, .int .u8 0, .int .u8 0, .int .u8 0, .int .u8 0, .int .u8 0, .int .u8 0, .int .u8 0, .int .u8 0, .int .u8 0, .int .u8 0], kind := .arr 256, elem := 5, esize := 1, ebytes := 1, ezero := .int .u8 0, eagg := false, ety := .int .u8 }
theorem ti202_ok : TIok Tryz.prog 202 ti202 := ⟨by kernel_rfl, by kernel_rfl, by kernel_rfl, by kernel_rfl, by kernel_rfl⟩
def ti203 : TI := { size := 2, bytes := 2, zero := .agg #[.int .u8 0, .int .u8 0], kind := .st, flds := [(0, 1, false), (1, 1, false)] }
theorem ti203_ok : TIok Tryz.prog 203 ti203 := ⟨by kernel_rfl, by kernel_rfl, by kernel_rfl, by kernel_rfl, by kernel_rfl⟩
def ti204 : TI := { size := 2, bytes := 2, zero := .agg #[.int .u8 0, .int .u8 0], kind := .st, flds := [(0, 1, false), (1, 1, false)] }
theorem ti204_ok : TIok Tryz.prog 204 ti204 := ⟨by kernel_rfl, by kernel_rfl, by kernel_rfl, by kernel_rfl, by kernel_rfl⟩
def ti205 : TI := { size := 32, bytes := 32, zero := .agg #[.int .u8 0, .int .u8 0, .int .u8 0, .int .u8 0, .int .u8 0, .int .u8 0, .int .u8 0, .int .u8 0, .int .u8 0, .int .u8 0, .int .u8 0, .int .u8 0, .int .u8 0, .int .u8 0, .int .u8 0, .int .u8 0, .int .u8 0, .int .u8 0, .int .u8 0, .int .u8 0, .int .u8 0, .int .u8 0, .int .u8 0, .int .u8 0, .int .u8 0, .int .u8 0, .int .u8 0, .int .u8 0, .int .u8 0, .int .u8 0, .int .u8 0, .int .u8 0], kind := .arr 16, elem := 204, esize := 2, ebytes := 2, ezero := .agg #[.int .u8 0, .int .u8 0], eagg := true, ety := .pair (.int .u8) (.pair (.int .u8) (.unit)) }
theorem ti205_ok : TIok Tryz.prog 205 ti205 := ⟨by kernel_rfl, by kernel_rfl, by kernel_rfl, by kernel_rfl, by kernel_rfl⟩
def ti210 : TI := { size := 4, bytes := 40, zero := .agg #[.pointer none, .pointer none, .pointer none, .string ByteArray.empty], kind := .st, flds := [(0, 1, false), (1, 1, false), (2, 1, false), (3, 1, false)] }
theorem ti210_ok : TIok Tryz.prog 210 ti210 := ⟨by kernel_rfl, by kernel_rfl, by kernel_rfl, by kernel_rfl, by kernel_rfl⟩
def ti211 : TI := { size := 4, bytes := 40, zero := .agg #[.pointer none, .pointer none, .pointer none, .string ByteArray.empty], kind := .st, flds := [(0, 1, false), (1, 1, false), (2, 1, false), (3, 1, false)] }
theorem ti211_ok : TIok Tryz.prog 211 ti211 := ⟨by kernel_rfl, by kernel_rfl, by kernel_rfl, by kernel_rfl, by kernel_rfl⟩
def ti212 : TI := { size := 0, bytes := 0, zero := .agg #[], kind := .arr 0, elem := 16, esize := 1, ebytes := 8, ezero := .pointer none, eagg := false }
theorem ti212_ok : TIok Tryz.prog 212 ti212 := ⟨by kernel_rfl, by kernel_rfl, by kernel_rfl, by kernel_rfl, by kernel_rfl⟩
def ti213 : TI := { size := 0, bytes := 0, zero := .agg #[], kind := .st, flds := [(0, 0, true)] }
theorem ti213_ok : TIok Tryz.prog 213 ti213 := ⟨by kernel_rfl, by kernel_rfl, by kernel_rfl, by kernel_rfl, by kernel_rfl⟩
def ti214 : TI := { size := 0, bytes := 0, zero := .agg #[], kind := .st, flds := [(0, 0, true)] }
theorem ti214_ok : TIok Tryz.prog 214 ti214 := ⟨by kernel_rfl, by kernel_rfl, by kernel_rfl, by kernel_rfl, by kernel_rfl⟩
def ti216 : TI := { size := 1, bytes := 4, zero := .int .u32 0, kind := .int .u32 }
theorem ti216_ok : TIok Tryz.prog 216 ti216 := ⟨by kernel_rfl, by kernel_rfl, by kernel_rfl, by kernel_rfl, by kernel_rfl⟩
def ti217 : TI := { size := 1, bytes := 1, zero := .int .u8 0, kind := .int .u8 }
theorem ti217_ok : TIok Tryz.prog 217 ti217 := ⟨by kernel_rfl, by kernel_rfl, by kernel_rfl, by kernel_rfl, by kernel_rfl⟩
def ti218 : TI := { size := 1, bytes := 1, zero := .int .u8 0, kind := .int .u8 }
theorem ti218_ok : TIok Tryz.prog 218 ti218 := ⟨by kernel_rfl, by kernel_rfl, by kernel_rfl, by kernel_rfl, by kernel_rfl⟩
def ti220 : TI := { size := 1, bytes := 8, zero := .pointer none, kind := .oth }
theorem ti220_ok : TIok Tryz.prog 220 ti220 := ⟨by kernel_rfl, by kernel_rfl, by kernel_rfl, by kernel_rfl, by kernel_rfl⟩
def ti221 : TI := { size := 1, bytes := 4, zero := .int .i32 0, kind := .int .i32 }
theorem ti221_ok : TIok Tryz.prog 221 ti221 := ⟨by kernel_rfl, by kernel_rfl, by kernel_rfl, by kernel_rfl, by kernel_rfl⟩
def ti222 : TI := { size := 1, bytes := 4, zero := .int .i32 0, kind := .int .i32 }
theorem ti222_ok : TIok Tryz.prog 222 ti222 := ⟨by kernel_rfl, by kernel_rfl, by kernel_rfl, by kernel_rfl, by kernel_rfl⟩
def ti231 : TI := { size := 1, bytes := 24, zero := .slice none 0 0, kind := .sl, elem := 65, esize := 2, ebytes := 16, ezero := .agg #[.int .i64 0, .int .i64 0], eagg := true, ety := .pair (.int .i64) (.pair (.int .i64) (.unit)) }
theorem ti231_ok : TIok Tryz.prog 231 ti231 := ⟨by kernel_rfl, by kernel_rfl, by kernel_rfl, by kernel_rfl, by kernel_rfl⟩
def tab : Tab := [(2, ti2), (3, ti3), (4, ti4), (5, ti5), (6, ti6), (7, ti7), (8, ti8), (9, ti9), (10, ti10), (11, ti11), (12, ti12), (13, ti13), (14, ti14), (15, ti15), (16, ti16), (17, ti17), (18, ti18), (19, ti19), (21, ti21), (22, ti22), (24, ti24), (25, ti25), (26, ti26), (27, ti27), (28, ti28), (29, ti29), (32, ti32), (33, ti33), (38, ti38), (39, ti39), (40, ti40), (41, ti41), (42, ti42), (43, ti43), (49, ti49), (51, ti51), (52, ti52), (53, ti53), (54, ti54), (55, ti55), (56, ti56), (57, ti57), (58, ti58), (59, ti59), (60, ti60), (61, ti61), (65, ti65), (66, ti66), (67, ti67), (68, ti68), (69, ti69), (73, ti73), (74, ti74), (92, ti92), (93, ti93), (94, ti94), (95, ti95), (96, ti96), (97, ti97), (98, ti98), (99, ti99), (100, ti100), (101, ti101), (102, ti102), (106, ti106), (110, ti110), (111, ti111), (117, ti117), (119, ti119), (121, ti121), (124, ti124), (125, ti125), (126, ti126), (134, ti134), (137, ti137), (138, ti138), (152, ti152), (153, ti153), (156, ti156), (157, ti157), (158, ti158), (159, ti159), (167, ti167), (168, ti168), (169, ti169), (170, ti170), (177, ti177), (178, ti178), (180, ti180), (181, ti181), (182, ti182), (185, ti185), (186, ti186), (190, ti190), (191, ti191), (197, ti197), (198, ti198), (202, ti202), (203, ti203), (204, ti204), (205, ti205), (210, ti210), (211, ti211), (212, ti212), (213, ti213), (214, ti214), (216, ti216), (217, ti217), (218, ti218), (220, ti220), (221, ti221), (222, ti222), (231, ti231)]
theorem tab_ok : tab.ok Tryz.prog := by
  intro x hx
  simp only [tab, List.mem_cons, List.not_mem_nil, or_false] at hx
  rcases hx with rfl | rfl | rfl | rfl | rfl | rfl | rfl | rfl | rfl | rfl | rfl | rfl | rfl | rfl | rfl | rfl | rfl | rfl | rfl | rfl | rfl | rfl | rfl | rfl | rfl | rfl | rfl | rfl | rfl | rfl | rfl | rfl | rfl | rfl | rfl | rfl | rfl | rfl | rfl | rfl | rfl | rfl | rfl | rfl | rfl | rfl | rfl | rfl | rfl | rfl | rfl | rfl | rfl | rfl | rfl | rfl | rfl | rfl | rfl | rfl | rfl | rfl | rfl | rfl | rfl | rfl | rfl | rfl | rfl | rfl | rfl | rfl | rfl | rfl | rfl | rfl | rfl | rfl | rfl | rfl | rfl | rfl | rfl | rfl | rfl | rfl | rfl | rfl | rfl | rfl | rfl | rfl | rfl | rfl | rfl | rfl | rfl | rfl | rfl | rfl | rfl | rfl | rfl | rfl | rfl | rfl | rfl | rfl | rfl | rfl | rfl | rfl | rfl
  · exact ti2_ok
  · exact ti3_ok
  · exact ti4_ok
  · exact ti5_ok
  · exact ti6_ok
  · exact ti7_ok
  · exact ti8_ok
  · exact ti9_ok
  · exact ti10_ok
  · exact ti11_ok
  · exact ti12_ok
  · exact ti13_ok
  · exact ti14_ok
  · exact ti15_ok
  · exact ti16_ok
  · exact ti17_ok
  · exact ti18_ok
  · exact ti19_ok
  · exact ti21_ok
  · exact ti22_ok
  · exact ti24_ok
  · exact ti25_ok
  · exact ti26_ok
  · exact ti27_ok
  · exact ti28_ok
  · exact ti29_ok
  · exact ti32_ok
  · exact ti33_ok
  · exact ti38_ok
  · exact ti39_ok
  · exact ti40_ok
  · exact ti41_ok
  · exact ti42_ok
  · exact ti43_ok
  · exact ti49_ok
  · exact ti51_ok
  · exact ti52_ok
  · exact ti53_ok
  · exact ti54_ok
  · exact ti55_ok
  · exact ti56_ok
  · exact ti57_ok
  · exact ti58_ok
  · exact ti59_ok
  · exact ti60_ok
  · exact ti61_ok
  · exact ti65_ok
  · exact ti66_ok
  · exact ti67_ok
  · exact ti68_ok
  · exact ti69_ok
  · exact ti73_ok
  · exact ti74_ok
  · exact ti92_ok
  · exact ti93_ok
  · exact ti94_ok
  · exact ti95_ok
  · exact ti96_ok
  · exact ti97_ok
  · exact ti98_ok
  · exact ti99_ok
  · exact ti100_ok
  · exact ti101_ok
  · exact ti102_ok
  · exact ti106_ok
  · exact ti110_ok
  · exact ti111_ok
  · exact ti117_ok
  · exact ti119_ok
  · exact ti121_ok
  · exact ti124_ok
  · exact ti125_ok
  · exact ti126_ok
  · exact ti134_ok
  · exact ti137_ok
  · exact ti138_ok
  · exact ti152_ok
  · exact ti153_ok
  · exact ti156_ok
  · exact ti157_ok
  · exact ti158_ok
  · exact ti159_ok
  · exact ti167_ok
  · exact ti168_ok
  · exact ti169_ok
  · exact ti170_ok
  · exact ti177_ok
  · exact ti178_ok
  · exact ti180_ok
  · exact ti181_ok
  · exact ti182_ok
  · exact ti185_ok
  · exact ti186_ok
  · exact ti190_ok
  · exact ti191_ok
  · exact ti197_ok
  · exact ti198_ok
  · exact ti202_ok
  · exact ti203_ok
  · exact ti204_ok
  · exact ti205_ok
  · exact ti210_ok
  · exact ti211_ok
  · exact ti212_ok
  · exact ti213_ok
  · exact ti214_ok
  · exact ti216_ok
  · exact ti217_ok
  · exact ti218_ok
  · exact ti220_ok
  · exact ti221_ok
  · exact ti222_ok
  · exact ti231_ok
end Go.Proofs.YtmaogoofmebdbaaGreatDoor
