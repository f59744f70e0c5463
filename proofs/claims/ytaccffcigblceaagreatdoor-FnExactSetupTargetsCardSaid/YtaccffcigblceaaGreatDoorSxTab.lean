/-
  The table of types of this translation, as the executor wants it; each row held against the program. Printed by program (gentab.py).
-/
import Derived.Test.YtaccffcigblceaaGreatDoorSxTy
import Derived.Test.YtaccffcigblceaaGreatDoorProg
import Derived.KernelRfl
namespace Go.Proofs.YtaccffcigblceaaGreatDoor
open Go Go.Sx
set_option maxRecDepth 100000
def ti2 : TI := { size := 1, bytes := 8, zero := .int .i64 0, kind := .int .i64 }
theorem ti2_ok : TIok Tryz.prog 2 ti2 := ⟨by kernel_rfl, by kernel_rfl, by kernel_rfl, by kernel_rfl, by kernel_rfl⟩
def ti3 : TI := { size := 1, bytes := 8, zero := .int .i64 0, kind := .int .i64 }
theorem ti3_ok : TIok Tryz.prog 3 ti3 := ⟨by kernel_rfl, by kernel_rfl, by kernel_rfl, by kernel_rfl, by kernel_rfl⟩
def ti4 : TI := { size := 1, bytes := 1, zero := .bool false, kind := .bool }
theorem ti4_ok : TIok Tryz.prog 4 ti4 := ⟨by kernel_rfl, by kernel_rfl, by kernel_rfl, by kernel_rfl, by kernel_rfl⟩
def ti5 : TI := { size := 1, bytes := 1, zero := .int .u8 0, kind := .int .u8 }
theorem ti5_ok : TIok Tryz.prog 5 ti5 := ⟨by kernel_rfl, by kernel_rfl, by kernel_rfl, by kernel_rfl, by kernel_rfl⟩
def ti6 : TI := { size := 1, bytes := 1, zero := .int .u8 0, kind := .int .u8 }
theorem ti6_ok : TIok Tryz.prog 6 ti6 := ⟨by kernel_rfl, by kernel_rfl, by kernel_rfl, by kernel_rfl, by kernel_rfl⟩
def ti7 : TI := { size := 4, bytes := 24, zero := .agg #[.int .i64 0, .int .i64 0, .bool false, .int .u8 0], kind := .st, flds := [(0, 1, false), (1, 1, false), (2, 1, false), (3, 1, false)] }
theorem ti7_ok : TIok Tryz.prog 7 ti7 := ⟨by kernel_rfl, by kernel_rfl, by kernel_rfl, by kernel_rfl, by kernel_rfl⟩
def ti8 : TI := { size := 4, bytes := 24, zero := .agg #[.int .i64 0, .int .i64 0, .bool false, .int .u8 0], kind := .st, flds := [(0, 1, false), (1, 1, false), (2, 1, false), (3, 1, false)] }
theorem ti8_ok : TIok Tryz.prog 8 ti8 := ⟨by kernel_rfl, by kernel_rfl, by kernel_rfl, by kernel_rfl, by kernel_rfl⟩
def ti9 : TI := { size := 1, bytes := 16, zero := .string ByteArray.empty, kind := .str }
theorem ti9_ok : TIok Tryz.prog 9 ti9 := ⟨by kernel_rfl, by kernel_rfl, by kernel_rfl, by kernel_rfl, by kernel_rfl⟩
def ti10 : TI := { size := 1, bytes := 16, zero := .string ByteArray.empty, kind := .str }
theorem ti10_ok : TIok Tryz.prog 10 ti10 := ⟨by kernel_rfl, by kernel_rfl, by kernel_rfl, by kernel_rfl, by kernel_rfl⟩
def ti22 : TI := { size := 1, bytes := 24, zero := .slice none 0 0, kind := .sl, elem := 237, esize := 7, ebytes := 112, ezero := .agg #[.string ByteArray.empty, .int .i64 0, .slice none 0 0, .slice none 0 0, .slice none 0 0, .int .i64 0, .int .i64 0], eagg := true, ety := tCell }
theorem ti22_ok : TIok Tryz.prog 22 ti22 := ⟨by kernel_rfl, by kernel_rfl, by kernel_rfl, by kernel_rfl, by kernel_rfl⟩
def ti24 : TI := { size := 1, bytes := 24, zero := .agg #[.slice none 0 0], kind := .st, flds := [(0, 1, false)] }
theorem ti24_ok : TIok Tryz.prog 24 ti24 := ⟨by kernel_rfl, by kernel_rfl, by kernel_rfl, by kernel_rfl, by kernel_rfl⟩
def ti25 : TI := { size := 1, bytes := 24, zero := .slice none 0 0, kind := .sl, elem := 239, esize := 3, ebytes := 48, ezero := .agg #[.string ByteArray.empty, .int .i64 0, .slice none 0 0], eagg := true, ety := tInstance }
theorem ti25_ok : TIok Tryz.prog 25 ti25 := ⟨by kernel_rfl, by kernel_rfl, by kernel_rfl, by kernel_rfl, by kernel_rfl⟩
def ti26 : TI := { size := 1, bytes := 24, zero := .slice none 0 0, kind := .sl, elem := 9, esize := 1, ebytes := 16, ezero := .string ByteArray.empty, eagg := false, ety := .str }
theorem ti26_ok : TIok Tryz.prog 26 ti26 := ⟨by kernel_rfl, by kernel_rfl, by kernel_rfl, by kernel_rfl, by kernel_rfl⟩
def ti27 : TI := { size := 1, bytes := 24, zero := .slice none 0 0, kind := .sl, elem := 242, esize := 3, ebytes := 32, ezero := .agg #[.string ByteArray.empty, .int .i64 0, .int .i64 0], eagg := true, ety := tPort }
theorem ti27_ok : TIok Tryz.prog 27 ti27 := ⟨by kernel_rfl, by kernel_rfl, by kernel_rfl, by kernel_rfl, by kernel_rfl⟩
def ti29 : TI := { size := 3, bytes := 72, zero := .agg #[.slice none 0 0, .slice none 0 0, .slice none 0 0], kind := .st, flds := [(0, 1, false), (1, 1, false), (2, 1, false)] }
theorem ti29_ok : TIok Tryz.prog 29 ti29 := ⟨by kernel_rfl, by kernel_rfl, by kernel_rfl, by kernel_rfl, by kernel_rfl⟩
def ti30 : TI := { size := 1, bytes := 24, zero := .slice none 0 0, kind := .sl, elem := 35, esize := 4, ebytes := 96, ezero := .agg #[.slice none 0 0, .slice none 0 0, .slice none 0 0, .slice none 0 0], eagg := true, ety := tWire }
theorem ti30_ok : TIok Tryz.prog 30 ti30 := ⟨by kernel_rfl, by kernel_rfl, by kernel_rfl, by kernel_rfl, by kernel_rfl⟩
def ti32 : TI := { size := 5, bytes := 120, zero := .agg #[.slice none 0 0, .slice none 0 0, .slice none 0 0, .slice none 0 0, .slice none 0 0], kind := .st, flds := [(0, 1, true), (1, 3, true), (4, 1, false)] }
theorem ti32_ok : TIok Tryz.prog 32 ti32 := ⟨by kernel_rfl, by kernel_rfl, by kernel_rfl, by kernel_rfl, by kernel_rfl⟩
def ti33 : TI := { size := 1, bytes := 24, zero := .slice none 0 0, kind := .sl, elem := 2, esize := 1, ebytes := 8, ezero := .int .i64 0, eagg := false, ety := .int .i64 }
theorem ti33_ok : TIok Tryz.prog 33 ti33 := ⟨by kernel_rfl, by kernel_rfl, by kernel_rfl, by kernel_rfl, by kernel_rfl⟩
def ti35 : TI := { size := 4, bytes := 96, zero := .agg #[.slice none 0 0, .slice none 0 0, .slice none 0 0, .slice none 0 0], kind := .st, flds := [(0, 1, false), (1, 1, false), (2, 1, false), (3, 1, false)] }
theorem ti35_ok : TIok Tryz.prog 35 ti35 := ⟨by kernel_rfl, by kernel_rfl, by kernel_rfl, by kernel_rfl, by kernel_rfl⟩
def ti42 : TI := { size := 1, bytes := 24, zero := .slice none 0 0, kind := .sl, elem := 252, esize := 7, ebytes := 112, ezero := .agg #[.string ByteArray.empty, .int .i64 0, .slice none 0 0, .slice none 0 0, .slice none 0 0, .int .i64 0, .int .i64 0], eagg := true, ety := tCell }
theorem ti42_ok : TIok Tryz.prog 42 ti42 := ⟨by kernel_rfl, by kernel_rfl, by kernel_rfl, by kernel_rfl, by kernel_rfl⟩
def ti44 : TI := { size := 1, bytes := 24, zero := .agg #[.slice none 0 0], kind := .st, flds := [(0, 1, false)] }
theorem ti44_ok : TIok Tryz.prog 44 ti44 := ⟨by kernel_rfl, by kernel_rfl, by kernel_rfl, by kernel_rfl, by kernel_rfl⟩
def ti45 : TI := { size := 1, bytes := 24, zero := .slice none 0 0, kind := .sl, elem := 177, esize := 3, ebytes := 48, ezero := .agg #[.string ByteArray.empty, .int .i64 0, .slice none 0 0], eagg := true, ety := tInstance }
theorem ti45_ok : TIok Tryz.prog 45 ti45 := ⟨by kernel_rfl, by kernel_rfl, by kernel_rfl, by kernel_rfl, by kernel_rfl⟩
def ti46 : TI := { size := 1, bytes := 24, zero := .slice none 0 0, kind := .sl, elem := 256, esize := 3, ebytes := 32, ezero := .agg #[.string ByteArray.empty, .int .i64 0, .int .i64 0], eagg := true, ety := tPort }
theorem ti46_ok : TIok Tryz.prog 46 ti46 := ⟨by kernel_rfl, by kernel_rfl, by kernel_rfl, by kernel_rfl, by kernel_rfl⟩
def ti48 : TI := { size := 3, bytes := 72, zero := .agg #[.slice none 0 0, .slice none 0 0, .slice none 0 0], kind := .st, flds := [(0, 1, false), (1, 1, false), (2, 1, false)] }
theorem ti48_ok : TIok Tryz.prog 48 ti48 := ⟨by kernel_rfl, by kernel_rfl, by kernel_rfl, by kernel_rfl, by kernel_rfl⟩
def ti49 : TI := { size := 1, bytes := 24, zero := .slice none 0 0, kind := .sl, elem := 53, esize := 4, ebytes := 96, ezero := .agg #[.slice none 0 0, .slice none 0 0, .slice none 0 0, .slice none 0 0], eagg := true, ety := tWire }
theorem ti49_ok : TIok Tryz.prog 49 ti49 := ⟨by kernel_rfl, by kernel_rfl, by kernel_rfl, by kernel_rfl, by kernel_rfl⟩
def ti51 : TI := { size := 5, bytes := 120, zero := .agg #[.slice none 0 0, .slice none 0 0, .slice none 0 0, .slice none 0 0, .slice none 0 0], kind := .st, flds := [(0, 1, true), (1, 3, true), (4, 1, false)] }
theorem ti51_ok : TIok Tryz.prog 51 ti51 := ⟨by kernel_rfl, by kernel_rfl, by kernel_rfl, by kernel_rfl, by kernel_rfl⟩
def ti53 : TI := { size := 4, bytes := 96, zero := .agg #[.slice none 0 0, .slice none 0 0, .slice none 0 0, .slice none 0 0], kind := .st, flds := [(0, 1, false), (1, 1, false), (2, 1, false), (3, 1, false)] }
theorem ti53_ok : TIok Tryz.prog 53 ti53 := ⟨by kernel_rfl, by kernel_rfl, by kernel_rfl, by kernel_rfl, by kernel_rfl⟩
def ti73 : TI := { size := 1, bytes := 24, zero := .slice none 0 0, kind := .sl, elem := 204, esize := 11, ebytes := 96, ezero := .agg #[.string ByteArray.empty, .int .i64 0, .int .i64 0, .int .i64 0, .int .i64 0, .int .i64 0, .int .i64 0, .bool false, .int .i64 0, .int .i64 0, .int .i64 0], eagg := true, ety := tClock }
theorem ti73_ok : TIok Tryz.prog 73 ti73 := ⟨by kernel_rfl, by kernel_rfl, by kernel_rfl, by kernel_rfl, by kernel_rfl⟩
def ti74 : TI := { size := 1, bytes := 24, zero := .slice none 0 0, kind := .sl, elem := 219, esize := 6, ebytes := 48, ezero := .agg #[.int .i64 0, .int .i64 0, .int .i64 0, .int .i64 0, .int .i64 0, .int .i64 0], eagg := true, ety := tExternal }
theorem ti74_ok : TIok Tryz.prog 74 ti74 := ⟨by kernel_rfl, by kernel_rfl, by kernel_rfl, by kernel_rfl, by kernel_rfl⟩
def ti75 : TI := { size := 1, bytes := 24, zero := .slice none 0 0, kind := .sl, elem := 207, esize := 5, ebytes := 88, ezero := .agg #[.int .i64 0, .int .i64 0, .slice none 0 0, .slice none 0 0, .slice none 0 0], eagg := true, ety := tException }
theorem ti75_ok : TIok Tryz.prog 75 ti75 := ⟨by kernel_rfl, by kernel_rfl, by kernel_rfl, by kernel_rfl, by kernel_rfl⟩
def ti76 : TI := { size := 1, bytes := 24, zero := .slice none 0 0, kind := .sl, elem := 210, esize := 5, ebytes := 48, ezero := .agg #[.string ByteArray.empty, .int .i64 0, .int .i64 0, .int .i64 0, .int .i64 0], eagg := true, ety := tCorner }
theorem ti76_ok : TIok Tryz.prog 76 ti76 := ⟨by kernel_rfl, by kernel_rfl, by kernel_rfl, by kernel_rfl, by kernel_rfl⟩
def ti78 : TI := { size := 5, bytes := 120, zero := .agg #[.slice none 0 0, .slice none 0 0, .slice none 0 0, .slice none 0 0, .slice none 0 0], kind := .st, flds := [(0, 1, false), (1, 1, false), (2, 1, false), (3, 1, false), (4, 1, false)] }
theorem ti78_ok : TIok Tryz.prog 78 ti78 := ⟨by kernel_rfl, by kernel_rfl, by kernel_rfl, by kernel_rfl, by kernel_rfl⟩
def ti80 : TI := { size := 1, bytes := 24, zero := .slice none 0 0, kind := .sl, elem := 145, esize := 3, ebytes := 24, ezero := .agg #[.int .i64 0, .int .i64 0, .int .i64 0], eagg := true, ety := tTarget }
theorem ti80_ok : TIok Tryz.prog 80 ti80 := ⟨by kernel_rfl, by kernel_rfl, by kernel_rfl, by kernel_rfl, by kernel_rfl⟩
def ti83 : TI := { size := 1, bytes := 24, zero := .slice none 0 0, kind := .sl, elem := 143, esize := 11, ebytes := 96, ezero := .agg #[.string ByteArray.empty, .int .i64 0, .int .i64 0, .int .i64 0, .int .i64 0, .int .i64 0, .int .i64 0, .bool false, .int .i64 0, .int .i64 0, .int .i64 0], eagg := true, ety := tClock }
theorem ti83_ok : TIok Tryz.prog 83 ti83 := ⟨by kernel_rfl, by kernel_rfl, by kernel_rfl, by kernel_rfl, by kernel_rfl⟩
def ti84 : TI := { size := 1, bytes := 24, zero := .slice none 0 0, kind := .sl, elem := 138, esize := 6, ebytes := 48, ezero := .agg #[.int .i64 0, .int .i64 0, .int .i64 0, .int .i64 0, .int .i64 0, .int .i64 0], eagg := true, ety := tExternal }
theorem ti84_ok : TIok Tryz.prog 84 ti84 := ⟨by kernel_rfl, by kernel_rfl, by kernel_rfl, by kernel_rfl, by kernel_rfl⟩
def ti85 : TI := { size := 1, bytes := 24, zero := .slice none 0 0, kind := .sl, elem := 214, esize := 5, ebytes := 88, ezero := .agg #[.int .i64 0, .int .i64 0, .slice none 0 0, .slice none 0 0, .slice none 0 0], eagg := true, ety := tException }
theorem ti85_ok : TIok Tryz.prog 85 ti85 := ⟨by kernel_rfl, by kernel_rfl, by kernel_rfl, by kernel_rfl, by kernel_rfl⟩
def ti86 : TI := { size := 1, bytes := 24, zero := .slice none 0 0, kind := .sl, elem := 221, esize := 5, ebytes := 48, ezero := .agg #[.string ByteArray.empty, .int .i64 0, .int .i64 0, .int .i64 0, .int .i64 0], eagg := true, ety := tCorner }
theorem ti86_ok : TIok Tryz.prog 86 ti86 := ⟨by kernel_rfl, by kernel_rfl, by kernel_rfl, by kernel_rfl, by kernel_rfl⟩
def ti88 : TI := { size := 5, bytes := 120, zero := .agg #[.slice none 0 0, .slice none 0 0, .slice none 0 0, .slice none 0 0, .slice none 0 0], kind := .st, flds := [(0, 1, false), (1, 1, false), (2, 1, false), (3, 1, false), (4, 1, false)] }
theorem ti88_ok : TIok Tryz.prog 88 ti88 := ⟨by kernel_rfl, by kernel_rfl, by kernel_rfl, by kernel_rfl, by kernel_rfl⟩
def ti118 : TI := { size := 2, bytes := 16, zero := .agg #[.int .i64 0, .int .i64 0], kind := .st, flds := [(0, 1, false), (1, 1, false)], eqd := .int .i64 0 (.int .i64 1 (.nil)) }
theorem ti118_ok : TIok Tryz.prog 118 ti118 := ⟨by kernel_rfl, by kernel_rfl, by kernel_rfl, by kernel_rfl, by kernel_rfl⟩
def ti122 : TI := { size := 2, bytes := 16, zero := .agg #[.int .i64 0, .int .i64 0], kind := .st, flds := [(0, 1, false), (1, 1, false)], eqd := .int .i64 0 (.int .i64 1 (.nil)) }
theorem ti122_ok : TIok Tryz.prog 122 ti122 := ⟨by kernel_rfl, by kernel_rfl, by kernel_rfl, by kernel_rfl, by kernel_rfl⟩
def ti125 : TI := { size := 1, bytes := 8, zero := .pointer none, kind := .ptr }
theorem ti125_ok : TIok Tryz.prog 125 ti125 := ⟨by kernel_rfl, by kernel_rfl, by kernel_rfl, by kernel_rfl, by kernel_rfl⟩
def ti138 : TI := { size := 6, bytes := 48, zero := .agg #[.int .i64 0, .int .i64 0, .int .i64 0, .int .i64 0, .int .i64 0, .int .i64 0], kind := .st, flds := [(0, 1, false), (1, 1, false), (2, 2, true), (4, 2, true)], eqd := .int .i64 0 (.int .i64 1 (.st 2 2 (.int .i64 0 (.int .i64 1 (.nil))) (.st 4 2 (.int .i64 0 (.int .i64 1 (.nil))) (.nil)))) }
theorem ti138_ok : TIok Tryz.prog 138 ti138 := ⟨by kernel_rfl, by kernel_rfl, by kernel_rfl, by kernel_rfl, by kernel_rfl⟩
def ti140 : TI := { size := 3, bytes := 24, zero := .agg #[.int .i64 0, .int .i64 0, .int .i64 0], kind := .st, flds := [(0, 1, false), (1, 1, false), (2, 1, false)], eqd := .int .i64 0 (.int .i64 1 (.int .i64 2 (.nil))) }
theorem ti140_ok : TIok Tryz.prog 140 ti140 := ⟨by kernel_rfl, by kernel_rfl, by kernel_rfl, by kernel_rfl, by kernel_rfl⟩
def ti143 : TI := { size := 11, bytes := 96, zero := .agg #[.string ByteArray.empty, .int .i64 0, .int .i64 0, .int .i64 0, .int .i64 0, .int .i64 0, .int .i64 0, .bool false, .int .i64 0, .int .i64 0, .int .i64 0], kind := .st, flds := [(0, 1, false), (1, 1, false), (2, 1, false), (3, 1, false), (4, 1, false), (5, 1, false), (6, 1, false), (7, 1, false), (8, 1, false), (9, 1, false), (10, 1, false)], eqd := .str 0 (.int .i64 1 (.int .i64 2 (.int .i64 3 (.int .i64 4 (.int .i64 5 (.int .i64 6 (.bool 7 (.int .i64 8 (.int .i64 9 (.int .i64 10 (.nil))))))))))) }
theorem ti143_ok : TIok Tryz.prog 143 ti143 := ⟨by kernel_rfl, by kernel_rfl, by kernel_rfl, by kernel_rfl, by kernel_rfl⟩
def ti145 : TI := { size := 3, bytes := 24, zero := .agg #[.int .i64 0, .int .i64 0, .int .i64 0], kind := .st, flds := [(0, 1, false), (1, 2, true)], eqd := .int .i64 0 (.st 1 2 (.int .i64 0 (.int .i64 1 (.nil))) (.nil)) }
theorem ti145_ok : TIok Tryz.prog 145 ti145 := ⟨by kernel_rfl, by kernel_rfl, by kernel_rfl, by kernel_rfl, by kernel_rfl⟩
def ti167 : TI := { size := 1, bytes := 24, zero := .slice none 0 0, kind := .sl, elem := 247, esize := 4, ebytes := 32, ezero := .agg #[.int .i64 0, .int .i64 0, .int .i64 0, .bool false], eagg := true, ety := tl05Place }
theorem ti167_ok : TIok Tryz.prog 167 ti167 := ⟨by kernel_rfl, by kernel_rfl, by kernel_rfl, by kernel_rfl, by kernel_rfl⟩
def ti177 : TI := { size := 3, bytes := 48, zero := .agg #[.string ByteArray.empty, .int .i64 0, .slice none 0 0], kind := .st, flds := [(0, 1, false), (1, 1, false), (2, 1, false)] }
theorem ti177_ok : TIok Tryz.prog 177 ti177 := ⟨by kernel_rfl, by kernel_rfl, by kernel_rfl, by kernel_rfl, by kernel_rfl⟩
def ti178 : TI := { size := 1, bytes := 24, zero := .slice none 0 0, kind := .sl, elem := 181, esize := 4, ebytes := 32, ezero := .agg #[.int .i64 0, .int .i64 0, .int .i64 0, .bool false], eagg := true, ety := tplace }
theorem ti178_ok : TIok Tryz.prog 178 ti178 := ⟨by kernel_rfl, by kernel_rfl, by kernel_rfl, by kernel_rfl, by kernel_rfl⟩
def ti181 : TI := { size := 4, bytes := 32, zero := .agg #[.int .i64 0, .int .i64 0, .int .i64 0, .bool false], kind := .st, flds := [(0, 1, false), (1, 1, false), (2, 1, false), (3, 1, false)], eqd := .int .i64 0 (.int .i64 1 (.int .i64 2 (.bool 3 (.nil)))) }
theorem ti181_ok : TIok Tryz.prog 181 ti181 := ⟨by kernel_rfl, by kernel_rfl, by kernel_rfl, by kernel_rfl, by kernel_rfl⟩
def ti192 : TI := { size := 1, bytes := 24, zero := .slice none 0 0, kind := .sl, elem := 200, esize := 4, ebytes := 32, ezero := .agg #[.int .i64 0, .int .i64 0, .int .i64 0, .int .i64 0], eagg := true, ety := tLink }
theorem ti192_ok : TIok Tryz.prog 192 ti192 := ⟨by kernel_rfl, by kernel_rfl, by kernel_rfl, by kernel_rfl, by kernel_rfl⟩
def ti193 : TI := { size := 1, bytes := 24, zero := .slice none 0 0, kind := .sl, elem := 33, esize := 1, ebytes := 24, ezero := .slice none 0 0, eagg := false, ety := .sl (.int .i64) }
theorem ti193_ok : TIok Tryz.prog 193 ti193 := ⟨by kernel_rfl, by kernel_rfl, by kernel_rfl, by kernel_rfl, by kernel_rfl⟩
def ti195 : TI := { size := 10, bytes := 240, zero := .agg #[.slice none 0 0, .slice none 0 0, .slice none 0 0, .slice none 0 0, .slice none 0 0, .slice none 0 0, .slice none 0 0, .slice none 0 0, .slice none 0 0, .slice none 0 0], kind := .st, flds := [(0, 5, true), (5, 1, false), (6, 1, false), (7, 1, false), (8, 1, false), (9, 1, false)] }
theorem ti195_ok : TIok Tryz.prog 195 ti195 := ⟨by kernel_rfl, by kernel_rfl, by kernel_rfl, by kernel_rfl, by kernel_rfl⟩
def ti200 : TI := { size := 4, bytes := 32, zero := .agg #[.int .i64 0, .int .i64 0, .int .i64 0, .int .i64 0], kind := .st, flds := [(0, 1, false), (1, 1, false), (2, 1, false), (3, 1, false)], eqd := .int .i64 0 (.int .i64 1 (.int .i64 2 (.int .i64 3 (.nil)))) }
theorem ti200_ok : TIok Tryz.prog 200 ti200 := ⟨by kernel_rfl, by kernel_rfl, by kernel_rfl, by kernel_rfl, by kernel_rfl⟩
def ti204 : TI := { size := 11, bytes := 96, zero := .agg #[.string ByteArray.empty, .int .i64 0, .int .i64 0, .int .i64 0, .int .i64 0, .int .i64 0, .int .i64 0, .bool false, .int .i64 0, .int .i64 0, .int .i64 0], kind := .st, flds := [(0, 1, false), (1, 1, false), (2, 1, false), (3, 1, false), (4, 1, false), (5, 1, false), (6, 1, false), (7, 1, false), (8, 1, false), (9, 1, false), (10, 1, false)], eqd := .str 0 (.int .i64 1 (.int .i64 2 (.int .i64 3 (.int .i64 4 (.int .i64 5 (.int .i64 6 (.bool 7 (.int .i64 8 (.int .i64 9 (.int .i64 10 (.nil))))))))))) }
theorem ti204_ok : TIok Tryz.prog 204 ti204 := ⟨by kernel_rfl, by kernel_rfl, by kernel_rfl, by kernel_rfl, by kernel_rfl⟩
def ti207 : TI := { size := 5, bytes := 88, zero := .agg #[.int .i64 0, .int .i64 0, .slice none 0 0, .slice none 0 0, .slice none 0 0], kind := .st, flds := [(0, 1, false), (1, 1, false), (2, 1, false), (3, 1, false), (4, 1, false)] }
theorem ti207_ok : TIok Tryz.prog 207 ti207 := ⟨by kernel_rfl, by kernel_rfl, by kernel_rfl, by kernel_rfl, by kernel_rfl⟩
def ti210 : TI := { size := 5, bytes := 48, zero := .agg #[.string ByteArray.empty, .int .i64 0, .int .i64 0, .int .i64 0, .int .i64 0], kind := .st, flds := [(0, 1, false), (1, 1, false), (2, 1, false), (3, 1, false), (4, 1, false)], eqd := .str 0 (.int .i64 1 (.int .i64 2 (.int .i64 3 (.int .i64 4 (.nil))))) }
theorem ti210_ok : TIok Tryz.prog 210 ti210 := ⟨by kernel_rfl, by kernel_rfl, by kernel_rfl, by kernel_rfl, by kernel_rfl⟩
def ti214 : TI := { size := 5, bytes := 88, zero := .agg #[.int .i64 0, .int .i64 0, .slice none 0 0, .slice none 0 0, .slice none 0 0], kind := .st, flds := [(0, 1, false), (1, 1, false), (2, 1, false), (3, 1, false), (4, 1, false)] }
theorem ti214_ok : TIok Tryz.prog 214 ti214 := ⟨by kernel_rfl, by kernel_rfl, by kernel_rfl, by kernel_rfl, by kernel_rfl⟩
def ti219 : TI := { size := 6, bytes := 48, zero := .agg #[.int .i64 0, .int .i64 0, .int .i64 0, .int .i64 0, .int .i64 0, .int .i64 0], kind := .st, flds := [(0, 1, false), (1, 1, false), (2, 2, true), (4, 2, true)], eqd := .int .i64 0 (.int .i64 1 (.st 2 2 (.int .i64 0 (.int .i64 1 (.nil))) (.st 4 2 (.int .i64 0 (.int .i64 1 (.nil))) (.nil)))) }
theorem ti219_ok : TIok Tryz.prog 219 ti219 := ⟨by kernel_rfl, by kernel_rfl, by kernel_rfl, by kernel_rfl, by kernel_rfl⟩
def ti221 : TI := { size := 5, bytes := 48, zero := .agg #[.string ByteArray.empty, .int .i64 0, .int .i64 0, .int .i64 0, .int .i64 0], kind := .st, flds := [(0, 1, false), (1, 1, false), (2, 1, false), (3, 1, false), (4, 1, false)], eqd := .str 0 (.int .i64 1 (.int .i64 2 (.int .i64 3 (.int .i64 4 (.nil))))) }
theorem ti221_ok : TIok Tryz.prog 221 ti221 := ⟨by kernel_rfl, by kernel_rfl, by kernel_rfl, by kernel_rfl, by kernel_rfl⟩
def ti224 : TI := { size := 2, bytes := 16, zero := .agg #[.int .i64 0, .int .i64 0], kind := .arr 2, elem := 2, esize := 1, ebytes := 8, ezero := .int .i64 0, eagg := false, ety := .int .i64 }
theorem ti224_ok : TIok Tryz.prog 224 ti224 := ⟨by kernel_rfl, by kernel_rfl, by kernel_rfl, by kernel_rfl, by kernel_rfl⟩
def ti226 : TI := { size := 3, bytes := 24, zero := .agg #[.int .i64 0, .int .i64 0, .int .i64 0], kind := .st, flds := [(0, 1, false), (1, 2, true)] }
theorem ti226_ok : TIok Tryz.prog 226 ti226 := ⟨by kernel_rfl, by kernel_rfl, by kernel_rfl, by kernel_rfl, by kernel_rfl⟩
def ti234 : TI := { size := 1, bytes := 24, zero := .slice none 0 0, kind := .sl, elem := 310, esize := 4, ebytes := 40, ezero := .agg #[.string ByteArray.empty, .int .i64 0, .int .i64 0, .bool false], eagg := true, ety := tPin }
theorem ti234_ok : TIok Tryz.prog 234 ti234 := ⟨by kernel_rfl, by kernel_rfl, by kernel_rfl, by kernel_rfl, by kernel_rfl⟩
def ti235 : TI := { size := 1, bytes := 24, zero := .slice none 0 0, kind := .sl, elem := 314, esize := 6, ebytes := 80, ezero := .agg #[.int .i64 0, .int .i64 0, .int .i64 0, .int .i64 0, .slice none 0 0, .slice none 0 0], eagg := true, ety := tArc }
theorem ti235_ok : TIok Tryz.prog 235 ti235 := ⟨by kernel_rfl, by kernel_rfl, by kernel_rfl, by kernel_rfl, by kernel_rfl⟩
def ti237 : TI := { size := 7, bytes := 112, zero := .agg #[.string ByteArray.empty, .int .i64 0, .slice none 0 0, .slice none 0 0, .slice none 0 0, .int .i64 0, .int .i64 0], kind := .st, flds := [(0, 1, false), (1, 1, false), (2, 1, false), (3, 1, false), (4, 1, false), (5, 1, false), (6, 1, false)] }
theorem ti237_ok : TIok Tryz.prog 237 ti237 := ⟨by kernel_rfl, by kernel_rfl, by kernel_rfl, by kernel_rfl, by kernel_rfl⟩
def ti239 : TI := { size := 3, bytes := 48, zero := .agg #[.string ByteArray.empty, .int .i64 0, .slice none 0 0], kind := .st, flds := [(0, 1, false), (1, 1, false), (2, 1, false)] }
theorem ti239_ok : TIok Tryz.prog 239 ti239 := ⟨by kernel_rfl, by kernel_rfl, by kernel_rfl, by kernel_rfl, by kernel_rfl⟩
def ti242 : TI := { size := 3, bytes := 32, zero := .agg #[.string ByteArray.empty, .int .i64 0, .int .i64 0], kind := .st, flds := [(0, 1, false), (1, 1, false), (2, 1, false)], eqd := .str 0 (.int .i64 1 (.int .i64 2 (.nil))) }
theorem ti242_ok : TIok Tryz.prog 242 ti242 := ⟨by kernel_rfl, by kernel_rfl, by kernel_rfl, by kernel_rfl, by kernel_rfl⟩
def ti247 : TI := { size := 4, bytes := 32, zero := .agg #[.int .i64 0, .int .i64 0, .int .i64 0, .bool false], kind := .st, flds := [(0, 1, false), (1, 1, false), (2, 1, false), (3, 1, false)], eqd := .int .i64 0 (.int .i64 1 (.int .i64 2 (.bool 3 (.nil)))) }
theorem ti247_ok : TIok Tryz.prog 247 ti247 := ⟨by kernel_rfl, by kernel_rfl, by kernel_rfl, by kernel_rfl, by kernel_rfl⟩
def ti249 : TI := { size := 1, bytes := 24, zero := .slice none 0 0, kind := .sl, elem := 285, esize := 4, ebytes := 40, ezero := .agg #[.string ByteArray.empty, .int .i64 0, .int .i64 0, .bool false], eagg := true, ety := tPin }
theorem ti249_ok : TIok Tryz.prog 249 ti249 := ⟨by kernel_rfl, by kernel_rfl, by kernel_rfl, by kernel_rfl, by kernel_rfl⟩
def ti250 : TI := { size := 1, bytes := 24, zero := .slice none 0 0, kind := .sl, elem := 266, esize := 6, ebytes := 80, ezero := .agg #[.int .i64 0, .int .i64 0, .int .i64 0, .int .i64 0, .slice none 0 0, .slice none 0 0], eagg := true, ety := tArc }
theorem ti250_ok : TIok Tryz.prog 250 ti250 := ⟨by kernel_rfl, by kernel_rfl, by kernel_rfl, by kernel_rfl, by kernel_rfl⟩
def ti252 : TI := { size := 7, bytes := 112, zero := .agg #[.string ByteArray.empty, .int .i64 0, .slice none 0 0, .slice none 0 0, .slice none 0 0, .int .i64 0, .int .i64 0], kind := .st, flds := [(0, 1, false), (1, 1, false), (2, 1, false), (3, 1, false), (4, 1, false), (5, 1, false), (6, 1, false)] }
theorem ti252_ok : TIok Tryz.prog 252 ti252 := ⟨by kernel_rfl, by kernel_rfl, by kernel_rfl, by kernel_rfl, by kernel_rfl⟩
def ti256 : TI := { size := 3, bytes := 32, zero := .agg #[.string ByteArray.empty, .int .i64 0, .int .i64 0], kind := .st, flds := [(0, 1, false), (1, 1, false), (2, 1, false)], eqd := .str 0 (.int .i64 1 (.int .i64 2 (.nil))) }
theorem ti256_ok : TIok Tryz.prog 256 ti256 := ⟨by kernel_rfl, by kernel_rfl, by kernel_rfl, by kernel_rfl, by kernel_rfl⟩
def ti264 : TI := { size := 1, bytes := 24, zero := .slice none 0 0, kind := .sl, elem := 329, esize := 3, ebytes := 72, ezero := .agg #[.slice none 0 0, .slice none 0 0, .slice none 0 0], eagg := true, ety := tTable }
theorem ti264_ok : TIok Tryz.prog 264 ti264 := ⟨by kernel_rfl, by kernel_rfl, by kernel_rfl, by kernel_rfl, by kernel_rfl⟩
def ti266 : TI := { size := 6, bytes := 80, zero := .agg #[.int .i64 0, .int .i64 0, .int .i64 0, .int .i64 0, .slice none 0 0, .slice none 0 0], kind := .st, flds := [(0, 1, false), (1, 1, false), (2, 1, false), (3, 1, false), (4, 1, false), (5, 1, false)] }
theorem ti266_ok : TIok Tryz.prog 266 ti266 := ⟨by kernel_rfl, by kernel_rfl, by kernel_rfl, by kernel_rfl, by kernel_rfl⟩
def ti267 : TI := { size := 1, bytes := 24, zero := .slice none 0 0, kind := .sl, elem := 224, esize := 2, ebytes := 16, ezero := .agg #[.int .i64 0, .int .i64 0], eagg := true, ety := .pair (.int .i64) (.pair (.int .i64) (.unit)) }
theorem ti267_ok : TIok Tryz.prog 267 ti267 := ⟨by kernel_rfl, by kernel_rfl, by kernel_rfl, by kernel_rfl, by kernel_rfl⟩
def ti279 : TI := { size := 1, bytes := 24, zero := .slice none 0 0, kind := .sl, elem := 5, esize := 1, ebytes := 1, ezero := .int .u8 0, eagg := false, ety := .int .u8 }
theorem ti279_ok : TIok Tryz.prog 279 ti279 := ⟨by kernel_rfl, by kernel_rfl, by kernel_rfl, by kernel_rfl, by kernel_rfl⟩
def ti285 : TI := { size := 4, bytes := 40, zero := .agg #[.string ByteArray.empty, .int .i64 0, .int .i64 0, .bool false], kind := .st, flds := [(0, 1, false), (1, 1, false), (2, 1, false), (3, 1, false)], eqd := .str 0 (.int .i64 1 (.int .i64 2 (.bool 3 (.nil)))) }
theorem ti285_ok : TIok Tryz.prog 285 ti285 := ⟨by kernel_rfl, by kernel_rfl, by kernel_rfl, by kernel_rfl, by kernel_rfl⟩
def ti291 : TI := { size := 1, bytes := 24, zero := .slice none 0 0, kind := .sl, elem := 3, esize := 1, ebytes := 8, ezero := .int .i64 0, eagg := false, ety := .int .i64 }
theorem ti291_ok : TIok Tryz.prog 291 ti291 := ⟨by kernel_rfl, by kernel_rfl, by kernel_rfl, by kernel_rfl, by kernel_rfl⟩
def ti310 : TI := { size := 4, bytes := 40, zero := .agg #[.string ByteArray.empty, .int .i64 0, .int .i64 0, .bool false], kind := .st, flds := [(0, 1, false), (1, 1, false), (2, 1, false), (3, 1, false)], eqd := .str 0 (.int .i64 1 (.int .i64 2 (.bool 3 (.nil)))) }
theorem ti310_ok : TIok Tryz.prog 310 ti310 := ⟨by kernel_rfl, by kernel_rfl, by kernel_rfl, by kernel_rfl, by kernel_rfl⟩
def ti312 : TI := { size := 1, bytes := 24, zero := .slice none 0 0, kind := .sl, elem := 349, esize := 3, ebytes := 72, ezero := .agg #[.slice none 0 0, .slice none 0 0, .slice none 0 0], eagg := true, ety := tTable }
theorem ti312_ok : TIok Tryz.prog 312 ti312 := ⟨by kernel_rfl, by kernel_rfl, by kernel_rfl, by kernel_rfl, by kernel_rfl⟩
def ti314 : TI := { size := 6, bytes := 80, zero := .agg #[.int .i64 0, .int .i64 0, .int .i64 0, .int .i64 0, .slice none 0 0, .slice none 0 0], kind := .st, flds := [(0, 1, false), (1, 1, false), (2, 1, false), (3, 1, false), (4, 1, false), (5, 1, false)] }
theorem ti314_ok : TIok Tryz.prog 314 ti314 := ⟨by kernel_rfl, by kernel_rfl, by kernel_rfl, by kernel_rfl, by kernel_rfl⟩
def ti329 : TI := { size := 3, bytes := 72, zero := .agg #[.slice none 0 0, .slice none 0 0, .slice none 0 0], kind := .st, flds := [(0, 1, false), (1, 1, false), (2, 1, false)] }
theorem ti329_ok : TIok Tryz.prog 329 ti329 := ⟨by kernel_rfl, by kernel_rfl, by kernel_rfl, by kernel_rfl, by kernel_rfl⟩
def ti336 : TI := { size := 1, bytes := 8, zero := .int .u64 0, kind := .int .u64 }
theorem ti336_ok : TIok Tryz.prog 336 ti336 := ⟨by kernel_rfl, by kernel_rfl, by kernel_rfl, by kernel_rfl, by kernel_rfl⟩
def ti349 : TI := { size := 3, bytes := 72, zero := .agg #[.slice none 0 0, .slice none 0 0, .slice none 0 0], kind := .st, flds := [(0, 1, false), (1, 1, false), (2, 1, false)] }
theorem ti349_ok : TIok Tryz.prog 349 ti349 := ⟨by kernel_rfl, by kernel_rfl, by kernel_rfl, by kernel_rfl, by kernel_rfl⟩
theorem tnil {P : Program} : Tab.ok [] P := fun x hx => by cases hx
theorem tcons {P : Program} {t : Nat} {ti : TI} {r : Tab} (h : TIok P t ti) (hr : Tab.ok r P) : Tab.ok ((t, ti) :: r) P := fun x hx => by
  rcases List.mem_cons.1 hx with rfl | hx
  · exact h
  · exact hr x hx
def tab : Tab := [(2, ti2), (3, ti3), (4, ti4), (5, ti5), (6, ti6), (7, ti7), (8, ti8), (9, ti9), (10, ti10), (22, ti22), (24, ti24), (25, ti25), (26, ti26), (27, ti27), (29, ti29), (30, ti30), (32, ti32), (33, ti33), (35, ti35), (42, ti42), (44, ti44), (45, ti45), (46, ti46), (48, ti48), (49, ti49), (51, ti51), (53, ti53), (73, ti73), (74, ti74), (75, ti75), (76, ti76), (78, ti78), (80, ti80), (83, ti83), (84, ti84), (85, ti85), (86, ti86), (88, ti88), (118, ti118), (122, ti122), (125, ti125), (138, ti138), (140, ti140), (143, ti143), (145, ti145), (167, ti167), (177, ti177), (178, ti178), (181, ti181), (192, ti192), (193, ti193), (195, ti195), (200, ti200), (204, ti204), (207, ti207), (210, ti210), (214, ti214), (219, ti219), (221, ti221), (224, ti224), (226, ti226), (234, ti234), (235, ti235), (237, ti237), (239, ti239), (242, ti242), (247, ti247), (249, ti249), (250, ti250), (252, ti252), (256, ti256), (264, ti264), (266, ti266), (267, ti267), (279, ti279), (285, ti285), (291, ti291), (310, ti310), (312, ti312), (314, ti314), (329, ti329), (336, ti336), (349, ti349)]
theorem tab_ok : tab.ok Tryz.prog :=
  tcons (ti2_ok) <| tcons (ti3_ok) <| tcons (ti4_ok) <| tcons (ti5_ok) <| tcons (ti6_ok) <| tcons (ti7_ok) <| tcons (ti8_ok) <| tcons (ti9_ok) <| tcons (ti10_ok) <| tcons (ti22_ok) <| tcons (ti24_ok) <| tcons (ti25_ok) <| tcons (ti26_ok) <| tcons (ti27_ok) <| tcons (ti29_ok) <| tcons (ti30_ok) <| tcons (ti32_ok) <| tcons (ti33_ok) <| tcons (ti35_ok) <| tcons (ti42_ok) <| tcons (ti44_ok) <| tcons (ti45_ok) <| tcons (ti46_ok) <| tcons (ti48_ok) <| tcons (ti49_ok) <| tcons (ti51_ok) <| tcons (ti53_ok) <| tcons (ti73_ok) <| tcons (ti74_ok) <| tcons (ti75_ok) <| tcons (ti76_ok) <| tcons (ti78_ok) <| tcons (ti80_ok) <| tcons (ti83_ok) <| tcons (ti84_ok) <| tcons (ti85_ok) <| tcons (ti86_ok) <| tcons (ti88_ok) <| tcons (ti118_ok) <| tcons (ti122_ok) <| tcons (ti125_ok) <| tcons (ti138_ok) <| tcons (ti140_ok) <| tcons (ti143_ok) <| tcons (ti145_ok) <| tcons (ti167_ok) <| tcons (ti177_ok) <| tcons (ti178_ok) <| tcons (ti181_ok) <| tcons (ti192_ok) <| tcons (ti193_ok) <| tcons (ti195_ok) <| tcons (ti200_ok) <| tcons (ti204_ok) <| tcons (ti207_ok) <| tcons (ti210_ok) <| tcons (ti214_ok) <| tcons (ti219_ok) <| tcons (ti221_ok) <| tcons (ti224_ok) <| tcons (ti226_ok) <| tcons (ti234_ok) <| tcons (ti235_ok) <| tcons (ti237_ok) <| tcons (ti239_ok) <| tcons (ti242_ok) <| tcons (ti247_ok) <| tcons (ti249_ok) <| tcons (ti250_ok) <| tcons (ti252_ok) <| tcons (ti256_ok) <| tcons (ti264_ok) <| tcons (ti266_ok) <| tcons (ti267_ok) <| tcons (ti279_ok) <| tcons (ti285_ok) <| tcons (ti291_ok) <| tcons (ti310_ok) <| tcons (ti312_ok) <| tcons (ti314_ok) <| tcons (ti329_ok) <| tcons (ti336_ok) <| tcons (ti349_ok) <| tnil
def tiD22 : TI := { ti22 with edp := some (dCell) }
def tiD25 : TI := { ti25 with edp := some (dInstance) }
def tiD30 : TI := { ti30 with edp := some (dWire) }
def tiD42 : TI := { ti42 with edp := some (dCell) }
def tiD45 : TI := { ti45 with edp := some (dInstance) }
def tiD49 : TI := { ti49 with edp := some (dWire) }
def tiD75 : TI := { ti75 with edp := some (dException) }
def tiD85 : TI := { ti85 with edp := some (dException) }
def tiD193 : TI := { ti193 with edp := some (.ol 2 (.flat (.int .i64))) }
def tiD235 : TI := { ti235 with edp := some (dArc) }
def tiD250 : TI := { ti250 with edp := some (dArc) }
def tiD264 : TI := { ti264 with edp := some (dTable) }
def tiD312 : TI := { ti312 with edp := some (dTable) }
def tiC22 : TI := { ti22 with cut := true, edp := some (dCell) }
def tiC25 : TI := { ti25 with cut := true, edp := some (dInstance) }
def tiC26 : TI := { ti26 with cut := true }
def tiC27 : TI := { ti27 with cut := true }
def tiC30 : TI := { ti30 with cut := true, edp := some (dWire) }
def tiC33 : TI := { ti33 with cut := true }
def tiC42 : TI := { ti42 with cut := true, edp := some (dCell) }
def tiC45 : TI := { ti45 with cut := true, edp := some (dInstance) }
def tiC46 : TI := { ti46 with cut := true }
def tiC49 : TI := { ti49 with cut := true, edp := some (dWire) }
def tiC73 : TI := { ti73 with cut := true }
def tiC74 : TI := { ti74 with cut := true }
def tiC75 : TI := { ti75 with cut := true, edp := some (dException) }
def tiC76 : TI := { ti76 with cut := true }
def tiC80 : TI := { ti80 with cut := true }
def tiC83 : TI := { ti83 with cut := true }
def tiC84 : TI := { ti84 with cut := true }
def tiC85 : TI := { ti85 with cut := true, edp := some (dException) }
def tiC86 : TI := { ti86 with cut := true }
def tiC167 : TI := { ti167 with cut := true }
def tiC178 : TI := { ti178 with cut := true }
def tiC192 : TI := { ti192 with cut := true }
def tiC193 : TI := { ti193 with cut := true, edp := some (.ol 2 (.flat (.int .i64))) }
def tiC234 : TI := { ti234 with cut := true }
def tiC235 : TI := { ti235 with cut := true, edp := some (dArc) }
def tiC249 : TI := { ti249 with cut := true }
def tiC250 : TI := { ti250 with cut := true, edp := some (dArc) }
def tiC264 : TI := { ti264 with cut := true, edp := some (dTable) }
def tiC267 : TI := { ti267 with cut := true }
def tiC279 : TI := { ti279 with cut := true }
def tiC291 : TI := { ti291 with cut := true }
def tiC312 : TI := { ti312 with cut := true, edp := some (dTable) }
def tabD : Tab := [(2, ti2), (3, ti3), (4, ti4), (5, ti5), (6, ti6), (7, ti7), (8, ti8), (9, ti9), (10, ti10), (22, tiD22), (24, ti24), (25, tiD25), (26, ti26), (27, ti27), (29, ti29), (30, tiD30), (32, ti32), (33, ti33), (35, ti35), (42, tiD42), (44, ti44), (45, tiD45), (46, ti46), (48, ti48), (49, tiD49), (51, ti51), (53, ti53), (73, ti73), (74, ti74), (75, tiD75), (76, ti76), (78, ti78), (80, ti80), (83, ti83), (84, ti84), (85, tiD85), (86, ti86), (88, ti88), (118, ti118), (122, ti122), (125, ti125), (138, ti138), (140, ti140), (143, ti143), (145, ti145), (167, ti167), (177, ti177), (178, ti178), (181, ti181), (192, ti192), (193, tiD193), (195, ti195), (200, ti200), (204, ti204), (207, ti207), (210, ti210), (214, ti214), (219, ti219), (221, ti221), (224, ti224), (226, ti226), (234, ti234), (235, tiD235), (237, ti237), (239, ti239), (242, ti242), (247, ti247), (249, ti249), (250, tiD250), (252, ti252), (256, ti256), (264, tiD264), (266, ti266), (267, ti267), (279, ti279), (285, ti285), (291, ti291), (310, ti310), (312, tiD312), (314, ti314), (329, ti329), (336, ti336), (349, ti349)]
theorem tabD_ok : tabD.ok Tryz.prog :=
  tcons (ti2_ok) <| tcons (ti3_ok) <| tcons (ti4_ok) <| tcons (ti5_ok) <| tcons (ti6_ok) <| tcons (ti7_ok) <| tcons (ti8_ok) <| tcons (ti9_ok) <| tcons (ti10_ok) <| tcons (⟨ti22_ok.info, ti22_ok.kind, ti22_ok.flds, ti22_ok.elem, ti22_ok.eqd⟩) <| tcons (ti24_ok) <| tcons (⟨ti25_ok.info, ti25_ok.kind, ti25_ok.flds, ti25_ok.elem, ti25_ok.eqd⟩) <| tcons (ti26_ok) <| tcons (ti27_ok) <| tcons (ti29_ok) <| tcons (⟨ti30_ok.info, ti30_ok.kind, ti30_ok.flds, ti30_ok.elem, ti30_ok.eqd⟩) <| tcons (ti32_ok) <| tcons (ti33_ok) <| tcons (ti35_ok) <| tcons (⟨ti42_ok.info, ti42_ok.kind, ti42_ok.flds, ti42_ok.elem, ti42_ok.eqd⟩) <| tcons (ti44_ok) <| tcons (⟨ti45_ok.info, ti45_ok.kind, ti45_ok.flds, ti45_ok.elem, ti45_ok.eqd⟩) <| tcons (ti46_ok) <| tcons (ti48_ok) <| tcons (⟨ti49_ok.info, ti49_ok.kind, ti49_ok.flds, ti49_ok.elem, ti49_ok.eqd⟩) <| tcons (ti51_ok) <| tcons (ti53_ok) <| tcons (ti73_ok) <| tcons (ti74_ok) <| tcons (⟨ti75_ok.info, ti75_ok.kind, ti75_ok.flds, ti75_ok.elem, ti75_ok.eqd⟩) <| tcons (ti76_ok) <| tcons (ti78_ok) <| tcons (ti80_ok) <| tcons (ti83_ok) <| tcons (ti84_ok) <| tcons (⟨ti85_ok.info, ti85_ok.kind, ti85_ok.flds, ti85_ok.elem, ti85_ok.eqd⟩) <| tcons (ti86_ok) <| tcons (ti88_ok) <| tcons (ti118_ok) <| tcons (ti122_ok) <| tcons (ti125_ok) <| tcons (ti138_ok) <| tcons (ti140_ok) <| tcons (ti143_ok) <| tcons (ti145_ok) <| tcons (ti167_ok) <| tcons (ti177_ok) <| tcons (ti178_ok) <| tcons (ti181_ok) <| tcons (ti192_ok) <| tcons (⟨ti193_ok.info, ti193_ok.kind, ti193_ok.flds, ti193_ok.elem, ti193_ok.eqd⟩) <| tcons (ti195_ok) <| tcons (ti200_ok) <| tcons (ti204_ok) <| tcons (ti207_ok) <| tcons (ti210_ok) <| tcons (ti214_ok) <| tcons (ti219_ok) <| tcons (ti221_ok) <| tcons (ti224_ok) <| tcons (ti226_ok) <| tcons (ti234_ok) <| tcons (⟨ti235_ok.info, ti235_ok.kind, ti235_ok.flds, ti235_ok.elem, ti235_ok.eqd⟩) <| tcons (ti237_ok) <| tcons (ti239_ok) <| tcons (ti242_ok) <| tcons (ti247_ok) <| tcons (ti249_ok) <| tcons (⟨ti250_ok.info, ti250_ok.kind, ti250_ok.flds, ti250_ok.elem, ti250_ok.eqd⟩) <| tcons (ti252_ok) <| tcons (ti256_ok) <| tcons (⟨ti264_ok.info, ti264_ok.kind, ti264_ok.flds, ti264_ok.elem, ti264_ok.eqd⟩) <| tcons (ti266_ok) <| tcons (ti267_ok) <| tcons (ti279_ok) <| tcons (ti285_ok) <| tcons (ti291_ok) <| tcons (ti310_ok) <| tcons (⟨ti312_ok.info, ti312_ok.kind, ti312_ok.flds, ti312_ok.elem, ti312_ok.eqd⟩) <| tcons (ti314_ok) <| tcons (ti329_ok) <| tcons (ti336_ok) <| tcons (ti349_ok) <| tnil
def tabC : Tab := [(2, ti2), (3, ti3), (4, ti4), (5, ti5), (6, ti6), (7, ti7), (8, ti8), (9, ti9), (10, ti10), (22, tiC22), (24, ti24), (25, tiC25), (26, tiC26), (27, tiC27), (29, ti29), (30, tiC30), (32, ti32), (33, tiC33), (35, ti35), (42, tiC42), (44, ti44), (45, tiC45), (46, tiC46), (48, ti48), (49, tiC49), (51, ti51), (53, ti53), (73, tiC73), (74, tiC74), (75, tiC75), (76, tiC76), (78, ti78), (80, tiC80), (83, tiC83), (84, tiC84), (85, tiC85), (86, tiC86), (88, ti88), (118, ti118), (122, ti122), (125, ti125), (138, ti138), (140, ti140), (143, ti143), (145, ti145), (167, tiC167), (177, ti177), (178, tiC178), (181, ti181), (192, tiC192), (193, tiC193), (195, ti195), (200, ti200), (204, ti204), (207, ti207), (210, ti210), (214, ti214), (219, ti219), (221, ti221), (224, ti224), (226, ti226), (234, tiC234), (235, tiC235), (237, ti237), (239, ti239), (242, ti242), (247, ti247), (249, tiC249), (250, tiC250), (252, ti252), (256, ti256), (264, tiC264), (266, ti266), (267, tiC267), (279, tiC279), (285, ti285), (291, tiC291), (310, ti310), (312, tiC312), (314, ti314), (329, ti329), (336, ti336), (349, ti349)]
theorem tabC_ok : tabC.ok Tryz.prog :=
  tcons (ti2_ok) <| tcons (ti3_ok) <| tcons (ti4_ok) <| tcons (ti5_ok) <| tcons (ti6_ok) <| tcons (ti7_ok) <| tcons (ti8_ok) <| tcons (ti9_ok) <| tcons (ti10_ok) <| tcons (⟨ti22_ok.info, ti22_ok.kind, ti22_ok.flds, ti22_ok.elem, ti22_ok.eqd⟩) <| tcons (ti24_ok) <| tcons (⟨ti25_ok.info, ti25_ok.kind, ti25_ok.flds, ti25_ok.elem, ti25_ok.eqd⟩) <| tcons (⟨ti26_ok.info, ti26_ok.kind, ti26_ok.flds, ti26_ok.elem, ti26_ok.eqd⟩) <| tcons (⟨ti27_ok.info, ti27_ok.kind, ti27_ok.flds, ti27_ok.elem, ti27_ok.eqd⟩) <| tcons (ti29_ok) <| tcons (⟨ti30_ok.info, ti30_ok.kind, ti30_ok.flds, ti30_ok.elem, ti30_ok.eqd⟩) <| tcons (ti32_ok) <| tcons (⟨ti33_ok.info, ti33_ok.kind, ti33_ok.flds, ti33_ok.elem, ti33_ok.eqd⟩) <| tcons (ti35_ok) <| tcons (⟨ti42_ok.info, ti42_ok.kind, ti42_ok.flds, ti42_ok.elem, ti42_ok.eqd⟩) <| tcons (ti44_ok) <| tcons (⟨ti45_ok.info, ti45_ok.kind, ti45_ok.flds, ti45_ok.elem, ti45_ok.eqd⟩) <| tcons (⟨ti46_ok.info, ti46_ok.kind, ti46_ok.flds, ti46_ok.elem, ti46_ok.eqd⟩) <| tcons (ti48_ok) <| tcons (⟨ti49_ok.info, ti49_ok.kind, ti49_ok.flds, ti49_ok.elem, ti49_ok.eqd⟩) <| tcons (ti51_ok) <| tcons (ti53_ok) <| tcons (⟨ti73_ok.info, ti73_ok.kind, ti73_ok.flds, ti73_ok.elem, ti73_ok.eqd⟩) <| tcons (⟨ti74_ok.info, ti74_ok.kind, ti74_ok.flds, ti74_ok.elem, ti74_ok.eqd⟩) <| tcons (⟨ti75_ok.info, ti75_ok.kind, ti75_ok.flds, ti75_ok.elem, ti75_ok.eqd⟩) <| tcons (⟨ti76_ok.info, ti76_ok.kind, ti76_ok.flds, ti76_ok.elem, ti76_ok.eqd⟩) <| tcons (ti78_ok) <| tcons (⟨ti80_ok.info, ti80_ok.kind, ti80_ok.flds, ti80_ok.elem, ti80_ok.eqd⟩) <| tcons (⟨ti83_ok.info, ti83_ok.kind, ti83_ok.flds, ti83_ok.elem, ti83_ok.eqd⟩) <| tcons (⟨ti84_ok.info, ti84_ok.kind, ti84_ok.flds, ti84_ok.elem, ti84_ok.eqd⟩) <| tcons (⟨ti85_ok.info, ti85_ok.kind, ti85_ok.flds, ti85_ok.elem, ti85_ok.eqd⟩) <| tcons (⟨ti86_ok.info, ti86_ok.kind, ti86_ok.flds, ti86_ok.elem, ti86_ok.eqd⟩) <| tcons (ti88_ok) <| tcons (ti118_ok) <| tcons (ti122_ok) <| tcons (ti125_ok) <| tcons (ti138_ok) <| tcons (ti140_ok) <| tcons (ti143_ok) <| tcons (ti145_ok) <| tcons (⟨ti167_ok.info, ti167_ok.kind, ti167_ok.flds, ti167_ok.elem, ti167_ok.eqd⟩) <| tcons (ti177_ok) <| tcons (⟨ti178_ok.info, ti178_ok.kind, ti178_ok.flds, ti178_ok.elem, ti178_ok.eqd⟩) <| tcons (ti181_ok) <| tcons (⟨ti192_ok.info, ti192_ok.kind, ti192_ok.flds, ti192_ok.elem, ti192_ok.eqd⟩) <| tcons (⟨ti193_ok.info, ti193_ok.kind, ti193_ok.flds, ti193_ok.elem, ti193_ok.eqd⟩) <| tcons (ti195_ok) <| tcons (ti200_ok) <| tcons (ti204_ok) <| tcons (ti207_ok) <| tcons (ti210_ok) <| tcons (ti214_ok) <| tcons (ti219_ok) <| tcons (ti221_ok) <| tcons (ti224_ok) <| tcons (ti226_ok) <| tcons (⟨ti234_ok.info, ti234_ok.kind, ti234_ok.flds, ti234_ok.elem, ti234_ok.eqd⟩) <| tcons (⟨ti235_ok.info, ti235_ok.kind, ti235_ok.flds, ti235_ok.elem, ti235_ok.eqd⟩) <| tcons (ti237_ok) <| tcons (ti239_ok) <| tcons (ti242_ok) <| tcons (ti247_ok) <| tcons (⟨ti249_ok.info, ti249_ok.kind, ti249_ok.flds, ti249_ok.elem, ti249_ok.eqd⟩) <| tcons (⟨ti250_ok.info, ti250_ok.kind, ti250_ok.flds, ti250_ok.elem, ti250_ok.eqd⟩) <| tcons (ti252_ok) <| tcons (ti256_ok) <| tcons (⟨ti264_ok.info, ti264_ok.kind, ti264_ok.flds, ti264_ok.elem, ti264_ok.eqd⟩) <| tcons (ti266_ok) <| tcons (⟨ti267_ok.info, ti267_ok.kind, ti267_ok.flds, ti267_ok.elem, ti267_ok.eqd⟩) <| tcons (⟨ti279_ok.info, ti279_ok.kind, ti279_ok.flds, ti279_ok.elem, ti279_ok.eqd⟩) <| tcons (ti285_ok) <| tcons (⟨ti291_ok.info, ti291_ok.kind, ti291_ok.flds, ti291_ok.elem, ti291_ok.eqd⟩) <| tcons (ti310_ok) <| tcons (⟨ti312_ok.info, ti312_ok.kind, ti312_ok.flds, ti312_ok.elem, ti312_ok.eqd⟩) <| tcons (ti314_ok) <| tcons (ti329_ok) <| tcons (ti336_ok) <| tcons (ti349_ok) <| tnil
end Go.Proofs.YtaccffcigblceaaGreatDoor
