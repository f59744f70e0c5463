/-
  The table of types of this translation, as the executor wants it; each row held against the program. Printed by program (gentab.py).
-/
import Derived.Test.YtpkjjgdhmafonaaGreatDoorSxTy
import Derived.Test.YtpkjjgdhmafonaaGreatDoorProg
import Derived.KernelRfl
namespace Go.Proofs.YtpkjjgdhmafonaaGreatDoor
open Go Go.Sx
set_option maxRecDepth 100000
def ti2:TI:={size:=1,bytes:=8,zero:=.int .i64 0,kind:=.int .i64}
theorem ti2_ok:TIok Tryz.prog 2 ti2:=⟨by kernel_rfl,by kernel_rfl,by kernel_rfl,by kernel_rfl,by kernel_rfl⟩
def ti3:TI:={size:=1,bytes:=8,zero:=.int .i64 0,kind:=.int .i64}
theorem ti3_ok:TIok Tryz.prog 3 ti3:=⟨by kernel_rfl,by kernel_rfl,by kernel_rfl,by kernel_rfl,by kernel_rfl⟩
def ti4:TI:={size:=1,bytes:=1,zero:=.bool false,kind:=.bool}
theorem ti4_ok:TIok Tryz.prog 4 ti4:=⟨by kernel_rfl,by kernel_rfl,by kernel_rfl,by kernel_rfl,by kernel_rfl⟩
def ti5:TI:={size:=1,bytes:=1,zero:=.int .u8 0,kind:=.int .u8}
theorem ti5_ok:TIok Tryz.prog 5 ti5:=⟨by kernel_rfl,by kernel_rfl,by kernel_rfl,by kernel_rfl,by kernel_rfl⟩
def ti6:TI:={size:=1,bytes:=1,zero:=.int .u8 0,kind:=.int .u8}
theorem ti6_ok:TIok Tryz.prog 6 ti6:=⟨by kernel_rfl,by kernel_rfl,by kernel_rfl,by kernel_rfl,by kernel_rfl⟩
def ti9:TI:={size:=1,bytes:=16,zero:=.string ByteArray.empty,kind:=.str}
theorem ti9_ok:TIok Tryz.prog 9 ti9:=⟨by kernel_rfl,by kernel_rfl,by kernel_rfl,by kernel_rfl,by kernel_rfl⟩
def ti22:TI:={size:=1,bytes:=24,zero:=.slice none 0 0,kind:=.sl,elem:=137,esize:=7,ebytes:=112,ezero:=.agg #[.string ByteArray.empty,.int .i64 0,.slice none 0 0,.slice none 0 0,.slice none 0 0,.int .i64 0,.int .i64 0],eagg:=true,ety:=tCell}
theorem ti22_ok:TIok Tryz.prog 22 ti22:=⟨by kernel_rfl,by kernel_rfl,by kernel_rfl,by kernel_rfl,by kernel_rfl⟩
def ti24:TI:={size:=1,bytes:=24,zero:=.agg #[.slice none 0 0],kind:=.st,flds:=[(0,1,false)]}
theorem ti24_ok:TIok Tryz.prog 24 ti24:=⟨by kernel_rfl,by kernel_rfl,by kernel_rfl,by kernel_rfl,by kernel_rfl⟩
def ti25:TI:={size:=1,bytes:=24,zero:=.slice none 0 0,kind:=.sl,elem:=139,esize:=3,ebytes:=48,ezero:=.agg #[.string ByteArray.empty,.int .i64 0,.slice none 0 0],eagg:=true,ety:=tInstance}
theorem ti25_ok:TIok Tryz.prog 25 ti25:=⟨by kernel_rfl,by kernel_rfl,by kernel_rfl,by kernel_rfl,by kernel_rfl⟩
def ti26:TI:={size:=1,bytes:=24,zero:=.slice none 0 0,kind:=.sl,elem:=9,esize:=1,ebytes:=16,ezero:=.string ByteArray.empty,eagg:=false,ety:=.str}
theorem ti26_ok:TIok Tryz.prog 26 ti26:=⟨by kernel_rfl,by kernel_rfl,by kernel_rfl,by kernel_rfl,by kernel_rfl⟩
def ti27:TI:={size:=1,bytes:=24,zero:=.slice none 0 0,kind:=.sl,elem:=142,esize:=3,ebytes:=32,ezero:=.agg #[.string ByteArray.empty,.int .i64 0,.int .i64 0],eagg:=true,ety:=tPort}
theorem ti27_ok:TIok Tryz.prog 27 ti27:=⟨by kernel_rfl,by kernel_rfl,by kernel_rfl,by kernel_rfl,by kernel_rfl⟩
def ti29:TI:={size:=3,bytes:=72,zero:=.agg #[.slice none 0 0,.slice none 0 0,.slice none 0 0],kind:=.st,flds:=[(0,1,false),(1,1,false),(2,1,false)]}
theorem ti29_ok:TIok Tryz.prog 29 ti29:=⟨by kernel_rfl,by kernel_rfl,by kernel_rfl,by kernel_rfl,by kernel_rfl⟩
def ti30:TI:={size:=1,bytes:=24,zero:=.slice none 0 0,kind:=.sl,elem:=35,esize:=4,ebytes:=96,ezero:=.agg #[.slice none 0 0,.slice none 0 0,.slice none 0 0,.slice none 0 0],eagg:=true,ety:=tWire}
theorem ti30_ok:TIok Tryz.prog 30 ti30:=⟨by kernel_rfl,by kernel_rfl,by kernel_rfl,by kernel_rfl,by kernel_rfl⟩
def ti32:TI:={size:=5,bytes:=120,zero:=.agg #[.slice none 0 0,.slice none 0 0,.slice none 0 0,.slice none 0 0,.slice none 0 0],kind:=.st,flds:=[(0,1,true),(1,3,true),(4,1,false)]}
theorem ti32_ok:TIok Tryz.prog 32 ti32:=⟨by kernel_rfl,by kernel_rfl,by kernel_rfl,by kernel_rfl,by kernel_rfl⟩
def ti33:TI:={size:=1,bytes:=24,zero:=.slice none 0 0,kind:=.sl,elem:=2,esize:=1,ebytes:=8,ezero:=.int .i64 0,eagg:=false,ety:=.int .i64}
theorem ti33_ok:TIok Tryz.prog 33 ti33:=⟨by kernel_rfl,by kernel_rfl,by kernel_rfl,by kernel_rfl,by kernel_rfl⟩
def ti35:TI:={size:=4,bytes:=96,zero:=.agg #[.slice none 0 0,.slice none 0 0,.slice none 0 0,.slice none 0 0],kind:=.st,flds:=[(0,1,false),(1,1,false),(2,1,false),(3,1,false)]}
theorem ti35_ok:TIok Tryz.prog 35 ti35:=⟨by kernel_rfl,by kernel_rfl,by kernel_rfl,by kernel_rfl,by kernel_rfl⟩
def ti37:TI:={size:=10,bytes:=152,zero:=.agg #[.int .i64 0,.int .i64 0,.int .i64 0,.int .i64 0,.int .i64 0,.string ByteArray.empty,.slice none 0 0,.slice none 0 0,.slice none 0 0,.slice none 0 0],kind:=.st,flds:=[(0,1,false),(1,1,false),(2,1,false),(3,1,false),(4,1,false),(5,1,false),(6,4,true)]}
theorem ti37_ok:TIok Tryz.prog 37 ti37:=⟨by kernel_rfl,by kernel_rfl,by kernel_rfl,by kernel_rfl,by kernel_rfl⟩
def ti40:TI:={size:=4,bytes:=96,zero:=.agg #[.slice none 0 0,.slice none 0 0,.slice none 0 0,.slice none 0 0],kind:=.st,flds:=[(0,1,false),(1,1,false),(2,1,false),(3,1,false)]}
theorem ti40_ok:TIok Tryz.prog 40 ti40:=⟨by kernel_rfl,by kernel_rfl,by kernel_rfl,by kernel_rfl,by kernel_rfl⟩
def ti42:TI:={size:=10,bytes:=152,zero:=.agg #[.int .i64 0,.int .i64 0,.int .i64 0,.int .i64 0,.int .i64 0,.string ByteArray.empty,.slice none 0 0,.slice none 0 0,.slice none 0 0,.slice none 0 0],kind:=.st,flds:=[(0,1,false),(1,1,false),(2,1,false),(3,1,false),(4,1,false),(5,1,false),(6,4,true)]}
theorem ti42_ok:TIok Tryz.prog 42 ti42:=⟨by kernel_rfl,by kernel_rfl,by kernel_rfl,by kernel_rfl,by kernel_rfl⟩
def ti45:TI:={size:=1,bytes:=24,zero:=.slice none 0 0,kind:=.sl,elem:=150,esize:=7,ebytes:=112,ezero:=.agg #[.string ByteArray.empty,.int .i64 0,.slice none 0 0,.slice none 0 0,.slice none 0 0,.int .i64 0,.int .i64 0],eagg:=true,ety:=tCell}
theorem ti45_ok:TIok Tryz.prog 45 ti45:=⟨by kernel_rfl,by kernel_rfl,by kernel_rfl,by kernel_rfl,by kernel_rfl⟩
def ti47:TI:={size:=1,bytes:=24,zero:=.agg #[.slice none 0 0],kind:=.st,flds:=[(0,1,false)]}
theorem ti47_ok:TIok Tryz.prog 47 ti47:=⟨by kernel_rfl,by kernel_rfl,by kernel_rfl,by kernel_rfl,by kernel_rfl⟩
def ti48:TI:={size:=1,bytes:=24,zero:=.slice none 0 0,kind:=.sl,elem:=96,esize:=3,ebytes:=48,ezero:=.agg #[.string ByteArray.empty,.int .i64 0,.slice none 0 0],eagg:=true,ety:=tInstance}
theorem ti48_ok:TIok Tryz.prog 48 ti48:=⟨by kernel_rfl,by kernel_rfl,by kernel_rfl,by kernel_rfl,by kernel_rfl⟩
def ti49:TI:={size:=1,bytes:=24,zero:=.slice none 0 0,kind:=.sl,elem:=154,esize:=3,ebytes:=32,ezero:=.agg #[.string ByteArray.empty,.int .i64 0,.int .i64 0],eagg:=true,ety:=tPort}
theorem ti49_ok:TIok Tryz.prog 49 ti49:=⟨by kernel_rfl,by kernel_rfl,by kernel_rfl,by kernel_rfl,by kernel_rfl⟩
def ti51:TI:={size:=3,bytes:=72,zero:=.agg #[.slice none 0 0,.slice none 0 0,.slice none 0 0],kind:=.st,flds:=[(0,1,false),(1,1,false),(2,1,false)]}
theorem ti51_ok:TIok Tryz.prog 51 ti51:=⟨by kernel_rfl,by kernel_rfl,by kernel_rfl,by kernel_rfl,by kernel_rfl⟩
def ti52:TI:={size:=1,bytes:=24,zero:=.slice none 0 0,kind:=.sl,elem:=40,esize:=4,ebytes:=96,ezero:=.agg #[.slice none 0 0,.slice none 0 0,.slice none 0 0,.slice none 0 0],eagg:=true,ety:=tWire}
theorem ti52_ok:TIok Tryz.prog 52 ti52:=⟨by kernel_rfl,by kernel_rfl,by kernel_rfl,by kernel_rfl,by kernel_rfl⟩
def ti54:TI:={size:=5,bytes:=120,zero:=.agg #[.slice none 0 0,.slice none 0 0,.slice none 0 0,.slice none 0 0,.slice none 0 0],kind:=.st,flds:=[(0,1,true),(1,3,true),(4,1,false)]}
theorem ti54_ok:TIok Tryz.prog 54 ti54:=⟨by kernel_rfl,by kernel_rfl,by kernel_rfl,by kernel_rfl,by kernel_rfl⟩
def ti93:TI:={size:=1,bytes:=24,zero:=.slice none 0 0,kind:=.sl,elem:=98,esize:=4,ebytes:=32,ezero:=.agg #[.int .i64 0,.int .i64 0,.int .i64 0,.bool false],eagg:=true,ety:=tl05Place}
theorem ti93_ok:TIok Tryz.prog 93 ti93:=⟨by kernel_rfl,by kernel_rfl,by kernel_rfl,by kernel_rfl,by kernel_rfl⟩
def ti96:TI:={size:=3,bytes:=48,zero:=.agg #[.string ByteArray.empty,.int .i64 0,.slice none 0 0],kind:=.st,flds:=[(0,1,false),(1,1,false),(2,1,false)]}
theorem ti96_ok:TIok Tryz.prog 96 ti96:=⟨by kernel_rfl,by kernel_rfl,by kernel_rfl,by kernel_rfl,by kernel_rfl⟩
def ti98:TI:={size:=4,bytes:=32,zero:=.agg #[.int .i64 0,.int .i64 0,.int .i64 0,.bool false],kind:=.st,flds:=[(0,1,false),(1,1,false),(2,1,false),(3,1,false)],eqd:=.int .i64 0 (.int .i64 1 (.int .i64 2 (.bool 3 (.nil))))}
theorem ti98_ok:TIok Tryz.prog 98 ti98:=⟨by kernel_rfl,by kernel_rfl,by kernel_rfl,by kernel_rfl,by kernel_rfl⟩
def ti109:TI:={size:=4,bytes:=32,zero:=.agg #[.int .i64 0,.int .i64 0,.int .i64 0,.bool false],kind:=.st,flds:=[(0,1,false),(1,1,false),(2,1,false),(3,1,false)],eqd:=.int .i64 0 (.int .i64 1 (.int .i64 2 (.bool 3 (.nil))))}
theorem ti109_ok:TIok Tryz.prog 109 ti109:=⟨by kernel_rfl,by kernel_rfl,by kernel_rfl,by kernel_rfl,by kernel_rfl⟩
def ti110:TI:={size:=1,bytes:=24,zero:=.slice none 0 0,kind:=.sl,elem:=109,esize:=4,ebytes:=32,ezero:=.agg #[.int .i64 0,.int .i64 0,.int .i64 0,.bool false],eagg:=true,ety:=tplace}
theorem ti110_ok:TIok Tryz.prog 110 ti110:=⟨by kernel_rfl,by kernel_rfl,by kernel_rfl,by kernel_rfl,by kernel_rfl⟩
def ti114:TI:={size:=2,bytes:=16,zero:=.agg #[.int .i64 0,.int .i64 0],kind:=.st,flds:=[(0,1,false),(1,1,false)],eqd:=.int .i64 0 (.int .i64 1 (.nil))}
theorem ti114_ok:TIok Tryz.prog 114 ti114:=⟨by kernel_rfl,by kernel_rfl,by kernel_rfl,by kernel_rfl,by kernel_rfl⟩
def ti117:TI:={size:=1,bytes:=8,zero:=.map none,kind:=.mp 114 2,ty:=tpinKey,ety:=.int .i64}
theorem ti117_ok:TIok Tryz.prog 117 ti117:=⟨by kernel_rfl,by kernel_rfl,by kernel_rfl,by kernel_rfl,by kernel_rfl⟩
def ti134:TI:={size:=1,bytes:=24,zero:=.slice none 0 0,kind:=.sl,elem:=210,esize:=4,ebytes:=40,ezero:=.agg #[.string ByteArray.empty,.int .i64 0,.int .i64 0,.bool false],eagg:=true,ety:=tPin}
theorem ti134_ok:TIok Tryz.prog 134 ti134:=⟨by kernel_rfl,by kernel_rfl,by kernel_rfl,by kernel_rfl,by kernel_rfl⟩
def ti135:TI:={size:=1,bytes:=24,zero:=.slice none 0 0,kind:=.sl,elem:=214,esize:=6,ebytes:=80,ezero:=.agg #[.int .i64 0,.int .i64 0,.int .i64 0,.int .i64 0,.slice none 0 0,.slice none 0 0],eagg:=true,ety:=tArc}
theorem ti135_ok:TIok Tryz.prog 135 ti135:=⟨by kernel_rfl,by kernel_rfl,by kernel_rfl,by kernel_rfl,by kernel_rfl⟩
def ti137:TI:={size:=7,bytes:=112,zero:=.agg #[.string ByteArray.empty,.int .i64 0,.slice none 0 0,.slice none 0 0,.slice none 0 0,.int .i64 0,.int .i64 0],kind:=.st,flds:=[(0,1,false),(1,1,false),(2,1,false),(3,1,false),(4,1,false),(5,1,false),(6,1,false)]}
theorem ti137_ok:TIok Tryz.prog 137 ti137:=⟨by kernel_rfl,by kernel_rfl,by kernel_rfl,by kernel_rfl,by kernel_rfl⟩
def ti139:TI:={size:=3,bytes:=48,zero:=.agg #[.string ByteArray.empty,.int .i64 0,.slice none 0 0],kind:=.st,flds:=[(0,1,false),(1,1,false),(2,1,false)]}
theorem ti139_ok:TIok Tryz.prog 139 ti139:=⟨by kernel_rfl,by kernel_rfl,by kernel_rfl,by kernel_rfl,by kernel_rfl⟩
def ti142:TI:={size:=3,bytes:=32,zero:=.agg #[.string ByteArray.empty,.int .i64 0,.int .i64 0],kind:=.st,flds:=[(0,1,false),(1,1,false),(2,1,false)],eqd:=.str 0 (.int .i64 1 (.int .i64 2 (.nil)))}
theorem ti142_ok:TIok Tryz.prog 142 ti142:=⟨by kernel_rfl,by kernel_rfl,by kernel_rfl,by kernel_rfl,by kernel_rfl⟩
def ti147:TI:={size:=1,bytes:=24,zero:=.slice none 0 0,kind:=.sl,elem:=180,esize:=4,ebytes:=40,ezero:=.agg #[.string ByteArray.empty,.int .i64 0,.int .i64 0,.bool false],eagg:=true,ety:=tPin}
theorem ti147_ok:TIok Tryz.prog 147 ti147:=⟨by kernel_rfl,by kernel_rfl,by kernel_rfl,by kernel_rfl,by kernel_rfl⟩
def ti148:TI:={size:=1,bytes:=24,zero:=.slice none 0 0,kind:=.sl,elem:=200,esize:=6,ebytes:=80,ezero:=.agg #[.int .i64 0,.int .i64 0,.int .i64 0,.int .i64 0,.slice none 0 0,.slice none 0 0],eagg:=true,ety:=tArc}
theorem ti148_ok:TIok Tryz.prog 148 ti148:=⟨by kernel_rfl,by kernel_rfl,by kernel_rfl,by kernel_rfl,by kernel_rfl⟩
def ti150:TI:={size:=7,bytes:=112,zero:=.agg #[.string ByteArray.empty,.int .i64 0,.slice none 0 0,.slice none 0 0,.slice none 0 0,.int .i64 0,.int .i64 0],kind:=.st,flds:=[(0,1,false),(1,1,false),(2,1,false),(3,1,false),(4,1,false),(5,1,false),(6,1,false)]}
theorem ti150_ok:TIok Tryz.prog 150 ti150:=⟨by kernel_rfl,by kernel_rfl,by kernel_rfl,by kernel_rfl,by kernel_rfl⟩
def ti154:TI:={size:=3,bytes:=32,zero:=.agg #[.string ByteArray.empty,.int .i64 0,.int .i64 0],kind:=.st,flds:=[(0,1,false),(1,1,false),(2,1,false)],eqd:=.str 0 (.int .i64 1 (.int .i64 2 (.nil)))}
theorem ti154_ok:TIok Tryz.prog 154 ti154:=⟨by kernel_rfl,by kernel_rfl,by kernel_rfl,by kernel_rfl,by kernel_rfl⟩
def ti160:TI:={size:=1,bytes:=8,zero:=.pointer none,kind:=.ptr}
theorem ti160_ok:TIok Tryz.prog 160 ti160:=⟨by kernel_rfl,by kernel_rfl,by kernel_rfl,by kernel_rfl,by kernel_rfl⟩
def ti165:TI:={size:=1,bytes:=24,zero:=.slice none 0 0,kind:=.sl,elem:=3,esize:=1,ebytes:=8,ezero:=.int .i64 0,eagg:=false,ety:=.int .i64}
theorem ti165_ok:TIok Tryz.prog 165 ti165:=⟨by kernel_rfl,by kernel_rfl,by kernel_rfl,by kernel_rfl,by kernel_rfl⟩
def ti174:TI:={size:=1,bytes:=8,zero:=.pointer none,kind:=.ptr}
theorem ti174_ok:TIok Tryz.prog 174 ti174:=⟨by kernel_rfl,by kernel_rfl,by kernel_rfl,by kernel_rfl,by kernel_rfl⟩
def ti180:TI:={size:=4,bytes:=40,zero:=.agg #[.string ByteArray.empty,.int .i64 0,.int .i64 0,.bool false],kind:=.st,flds:=[(0,1,false),(1,1,false),(2,1,false),(3,1,false)],eqd:=.str 0 (.int .i64 1 (.int .i64 2 (.bool 3 (.nil))))}
theorem ti180_ok:TIok Tryz.prog 180 ti180:=⟨by kernel_rfl,by kernel_rfl,by kernel_rfl,by kernel_rfl,by kernel_rfl⟩
def ti198:TI:={size:=1,bytes:=24,zero:=.slice none 0 0,kind:=.sl,elem:=227,esize:=3,ebytes:=72,ezero:=.agg #[.slice none 0 0,.slice none 0 0,.slice none 0 0],eagg:=true,ety:=tTable}
theorem ti198_ok:TIok Tryz.prog 198 ti198:=⟨by kernel_rfl,by kernel_rfl,by kernel_rfl,by kernel_rfl,by kernel_rfl⟩
def ti200:TI:={size:=6,bytes:=80,zero:=.agg #[.int .i64 0,.int .i64 0,.int .i64 0,.int .i64 0,.slice none 0 0,.slice none 0 0],kind:=.st,flds:=[(0,1,false),(1,1,false),(2,1,false),(3,1,false),(4,1,false),(5,1,false)]}
theorem ti200_ok:TIok Tryz.prog 200 ti200:=⟨by kernel_rfl,by kernel_rfl,by kernel_rfl,by kernel_rfl,by kernel_rfl⟩
def ti206:TI:={size:=1,bytes:=24,zero:=.slice none 0 0,kind:=.sl,elem:=5,esize:=1,ebytes:=1,ezero:=.int .u8 0,eagg:=false,ety:=.int .u8}
theorem ti206_ok:TIok Tryz.prog 206 ti206:=⟨by kernel_rfl,by kernel_rfl,by kernel_rfl,by kernel_rfl,by kernel_rfl⟩
def ti210:TI:={size:=4,bytes:=40,zero:=.agg #[.string ByteArray.empty,.int .i64 0,.int .i64 0,.bool false],kind:=.st,flds:=[(0,1,false),(1,1,false),(2,1,false),(3,1,false)],eqd:=.str 0 (.int .i64 1 (.int .i64 2 (.bool 3 (.nil))))}
theorem ti210_ok:TIok Tryz.prog 210 ti210:=⟨by kernel_rfl,by kernel_rfl,by kernel_rfl,by kernel_rfl,by kernel_rfl⟩
def ti212:TI:={size:=1,bytes:=24,zero:=.slice none 0 0,kind:=.sl,elem:=249,esize:=3,ebytes:=72,ezero:=.agg #[.slice none 0 0,.slice none 0 0,.slice none 0 0],eagg:=true,ety:=tTable}
theorem ti212_ok:TIok Tryz.prog 212 ti212:=⟨by kernel_rfl,by kernel_rfl,by kernel_rfl,by kernel_rfl,by kernel_rfl⟩
def ti214:TI:={size:=6,bytes:=80,zero:=.agg #[.int .i64 0,.int .i64 0,.int .i64 0,.int .i64 0,.slice none 0 0,.slice none 0 0],kind:=.st,flds:=[(0,1,false),(1,1,false),(2,1,false),(3,1,false),(4,1,false),(5,1,false)]}
theorem ti214_ok:TIok Tryz.prog 214 ti214:=⟨by kernel_rfl,by kernel_rfl,by kernel_rfl,by kernel_rfl,by kernel_rfl⟩
def ti227:TI:={size:=3,bytes:=72,zero:=.agg #[.slice none 0 0,.slice none 0 0,.slice none 0 0],kind:=.st,flds:=[(0,1,false),(1,1,false),(2,1,false)]}
theorem ti227_ok:TIok Tryz.prog 227 ti227:=⟨by kernel_rfl,by kernel_rfl,by kernel_rfl,by kernel_rfl,by kernel_rfl⟩
def ti234:TI:={size:=1,bytes:=8,zero:=.int .u64 0,kind:=.int .u64}
theorem ti234_ok:TIok Tryz.prog 234 ti234:=⟨by kernel_rfl,by kernel_rfl,by kernel_rfl,by kernel_rfl,by kernel_rfl⟩
def ti249:TI:={size:=3,bytes:=72,zero:=.agg #[.slice none 0 0,.slice none 0 0,.slice none 0 0],kind:=.st,flds:=[(0,1,false),(1,1,false),(2,1,false)]}
theorem ti249_ok:TIok Tryz.prog 249 ti249:=⟨by kernel_rfl,by kernel_rfl,by kernel_rfl,by kernel_rfl,by kernel_rfl⟩
def ti262:TI:={size:=2,bytes:=16,zero:=.agg #[.int .i64 0,.int .i64 0],kind:=.st,flds:=[(0,1,false),(1,1,false)],eqd:=.int .i64 0 (.int .i64 1 (.nil))}
theorem ti262_ok:TIok Tryz.prog 262 ti262:=⟨by kernel_rfl,by kernel_rfl,by kernel_rfl,by kernel_rfl,by kernel_rfl⟩
theorem tnil {P:Program}:Tab.ok [] P:=fun x hx=>by cases hx
theorem tcons {P:Program} {t:Nat} {ti:TI} {r:Tab} (h:TIok P t ti) (hr:Tab.ok r P):Tab.ok ((t,ti)::r) P:=fun x hx=>by
 rcases List.mem_cons.1 hx with rfl | hx
 ·exact h
 ·exact hr x hx
def tab:Tab:=[(2,ti2),(3,ti3),(4,ti4),(5,ti5),(6,ti6),(9,ti9),(22,ti22),(24,ti24),(25,ti25),(26,ti26),(27,ti27),(29,ti29),(30,ti30),(32,ti32),(33,ti33),(35,ti35),(37,ti37),(40,ti40),(42,ti42),(45,ti45),(47,ti47),(48,ti48),(49,ti49),(51,ti51),(52,ti52),(54,ti54),(93,ti93),(96,ti96),(98,ti98),(109,ti109),(110,ti110),(114,ti114),(117,ti117),(134,ti134),(135,ti135),(137,ti137),(139,ti139),(142,ti142),(147,ti147),(148,ti148),(150,ti150),(154,ti154),(160,ti160),(165,ti165),(174,ti174),(180,ti180),(198,ti198),(200,ti200),(206,ti206),(210,ti210),(212,ti212),(214,ti214),(227,ti227),(234,ti234),(249,ti249),(262,ti262)]
theorem tab_ok:tab.ok Tryz.prog :=
 tcons (ti2_ok) <| tcons (ti3_ok) <| tcons (ti4_ok) <| tcons (ti5_ok) <| tcons (ti6_ok) <| tcons (ti9_ok) <| tcons (ti22_ok) <| tcons (ti24_ok) <| tcons (ti25_ok) <| tcons (ti26_ok) <| tcons (ti27_ok) <| tcons (ti29_ok) <| tcons (ti30_ok) <| tcons (ti32_ok) <| tcons (ti33_ok) <| tcons (ti35_ok) <| tcons (ti37_ok) <| tcons (ti40_ok) <| tcons (ti42_ok) <| tcons (ti45_ok) <| tcons (ti47_ok) <| tcons (ti48_ok) <| tcons (ti49_ok) <| tcons (ti51_ok) <| tcons (ti52_ok) <| tcons (ti54_ok) <| tcons (ti93_ok) <| tcons (ti96_ok) <| tcons (ti98_ok) <| tcons (ti109_ok) <| tcons (ti110_ok) <| tcons (ti114_ok) <| tcons (ti117_ok) <| tcons (ti134_ok) <| tcons (ti135_ok) <| tcons (ti137_ok) <| tcons (ti139_ok) <| tcons (ti142_ok) <| tcons (ti147_ok) <| tcons (ti148_ok) <| tcons (ti150_ok) <| tcons (ti154_ok) <| tcons (ti160_ok) <| tcons (ti165_ok) <| tcons (ti174_ok) <| tcons (ti180_ok) <| tcons (ti198_ok) <| tcons (ti200_ok) <| tcons (ti206_ok) <| tcons (ti210_ok) <| tcons (ti212_ok) <| tcons (ti214_ok) <| tcons (ti227_ok) <| tcons (ti234_ok) <| tcons (ti249_ok) <| tcons (ti262_ok) <| tnil
def tiD22:TI:={ti22 with edp:=some (dCell)}
def tiD25:TI:={ti25 with edp:=some (dInstance)}
def tiD30:TI:={ti30 with edp:=some (dWire)}
def tiD45:TI:={ti45 with edp:=some (dCell)}
def tiD48:TI:={ti48 with edp:=some (dInstance)}
def tiD52:TI:={ti52 with edp:=some (dWire)}
def tiD135:TI:={ti135 with edp:=some (dArc)}
def tiD148:TI:={ti148 with edp:=some (dArc)}
def tiD198:TI:={ti198 with edp:=some (dTable)}
def tiD212:TI:={ti212 with edp:=some (dTable)}
def tiC22:TI:={ti22 with cut:=true,edp:=some (dCell)}
def tiC25:TI:={ti25 with cut:=true,edp:=some (dInstance)}
def tiC26:TI:={ti26 with cut:=true}
def tiC27:TI:={ti27 with cut:=true}
def tiC30:TI:={ti30 with cut:=true,edp:=some (dWire)}
def tiC33:TI:={ti33 with cut:=true}
def tiC45:TI:={ti45 with cut:=true,edp:=some (dCell)}
def tiC48:TI:={ti48 with cut:=true,edp:=some (dInstance)}
def tiC49:TI:={ti49 with cut:=true}
def tiC52:TI:={ti52 with cut:=true,edp:=some (dWire)}
def tiC93:TI:={ti93 with cut:=true}
def tiC110:TI:={ti110 with cut:=true}
def tiC134:TI:={ti134 with cut:=true}
def tiC135:TI:={ti135 with cut:=true,edp:=some (dArc)}
def tiC147:TI:={ti147 with cut:=true}
def tiC148:TI:={ti148 with cut:=true,edp:=some (dArc)}
def tiC165:TI:={ti165 with cut:=true}
def tiC198:TI:={ti198 with cut:=true,edp:=some (dTable)}
def tiC206:TI:={ti206 with cut:=true}
def tiC212:TI:={ti212 with cut:=true,edp:=some (dTable)}
def tabD:Tab:=[(2,ti2),(3,ti3),(4,ti4),(5,ti5),(6,ti6),(9,ti9),(22,tiD22),(24,ti24),(25,tiD25),(26,ti26),(27,ti27),(29,ti29),(30,tiD30),(32,ti32),(33,ti33),(35,ti35),(37,ti37),(40,ti40),(42,ti42),(45,tiD45),(47,ti47),(48,tiD48),(49,ti49),(51,ti51),(52,tiD52),(54,ti54),(93,ti93),(96,ti96),(98,ti98),(109,ti109),(110,ti110),(114,ti114),(117,ti117),(134,ti134),(135,tiD135),(137,ti137),(139,ti139),(142,ti142),(147,ti147),(148,tiD148),(150,ti150),(154,ti154),(160,ti160),(165,ti165),(174,ti174),(180,ti180),(198,tiD198),(200,ti200),(206,ti206),(210,ti210),(212,tiD212),(214,ti214),(227,ti227),(234,ti234),(249,ti249),(262,ti262)]
theorem tabD_ok:tabD.ok Tryz.prog :=
 tcons (ti2_ok) <| tcons (ti3_ok) <| tcons (ti4_ok) <| tcons (ti5_ok) <| tcons (ti6_ok) <| tcons (ti9_ok) <| tcons (⟨ti22_ok.info,ti22_ok.kind,ti22_ok.flds,ti22_ok.elem,ti22_ok.eqd⟩) <| tcons (ti24_ok) <| tcons (⟨ti25_ok.info,ti25_ok.kind,ti25_ok.flds,ti25_ok.elem,ti25_ok.eqd⟩) <| tcons (ti26_ok) <| tcons (ti27_ok) <| tcons (ti29_ok) <| tcons (⟨ti30_ok.info,ti30_ok.kind,ti30_ok.flds,ti30_ok.elem,ti30_ok.eqd⟩) <| tcons (ti32_ok) <| tcons (ti33_ok) <| tcons (ti35_ok) <| tcons (ti37_ok) <| tcons (ti40_ok) <| tcons (ti42_ok) <| tcons (⟨ti45_ok.info,ti45_ok.kind,ti45_ok.flds,ti45_ok.elem,ti45_ok.eqd⟩) <| tcons (ti47_ok) <| tcons (⟨ti48_ok.info,ti48_ok.kind,ti48_ok.flds,ti48_ok.elem,ti48_ok.eqd⟩) <| tcons (ti49_ok) <| tcons (ti51_ok) <| tcons (⟨ti52_ok.info,ti52_ok.kind,ti52_ok.flds,ti52_ok.elem,ti52_ok.eqd⟩) <| tcons (ti54_ok) <| tcons (ti93_ok) <| tcons (ti96_ok) <| tcons (ti98_ok) <| tcons (ti109_ok) <| tcons (ti110_ok) <| tcons (ti114_ok) <| tcons (ti117_ok) <| tcons (ti134_ok) <| tcons (⟨ti135_ok.info,ti135_ok.kind,ti135_ok.flds,ti135_ok.elem,ti135_ok.eqd⟩) <| tcons (ti137_ok) <| tcons (ti139_ok) <| tcons (ti142_ok) <| tcons (ti147_ok) <| tcons (⟨ti148_ok.info,ti148_ok.kind,ti148_ok.flds,ti148_ok.elem,ti148_ok.eqd⟩) <| tcons (ti150_ok) <| tcons (ti154_ok) <| tcons (ti160_ok) <| tcons (ti165_ok) <| tcons (ti174_ok) <| tcons (ti180_ok) <| tcons (⟨ti198_ok.info,ti198_ok.kind,ti198_ok.flds,ti198_ok.elem,ti198_ok.eqd⟩) <| tcons (ti200_ok) <| tcons (ti206_ok) <| tcons (ti210_ok) <| tcons (⟨ti212_ok.info,ti212_ok.kind,ti212_ok.flds,ti212_ok.elem,ti212_ok.eqd⟩) <| tcons (ti214_ok) <| tcons (ti227_ok) <| tcons (ti234_ok) <| tcons (ti249_ok) <| tcons (ti262_ok) <| tnil
def tabC:Tab:=[(2,ti2),(3,ti3),(4,ti4),(5,ti5),(6,ti6),(9,ti9),(22,tiC22),(24,ti24),(25,tiC25),(26,tiC26),(27,tiC27),(29,ti29),(30,tiC30),(32,ti32),(33,tiC33),(35,ti35),(37,ti37),(40,ti40),(42,ti42),(45,tiC45),(47,ti47),(48,tiC48),(49,tiC49),(51,ti51),(52,tiC52),(54,ti54),(93,tiC93),(96,ti96),(98,ti98),(109,ti109),(110,tiC110),(114,ti114),(117,ti117),(134,tiC134),(135,tiC135),(137,ti137),(139,ti139),(142,ti142),(147,tiC147),(148,tiC148),(150,ti150),(154,ti154),(160,ti160),(165,tiC165),(174,ti174),(180,ti180),(198,tiC198),(200,ti200),(206,tiC206),(210,ti210),(212,tiC212),(214,ti214),(227,ti227),(234,ti234),(249,ti249),(262,ti262)]
theorem tabC_ok:tabC.ok Tryz.prog :=
 tcons (ti2_ok) <| tcons (ti3_ok) <| tcons (ti4_ok) <| tcons (ti5_ok) <| tcons (ti6_ok) <| tcons (ti9_ok) <| tcons (⟨ti22_ok.info,ti22_ok.kind,ti22_ok.flds,ti22_ok.elem,ti22_ok.eqd⟩) <| tcons (ti24_ok) <| tcons (⟨ti25_ok.info,ti25_ok.kind,ti25_ok.flds,ti25_ok.elem,ti25_ok.eqd⟩) <| tcons (⟨ti26_ok.info,ti26_ok.kind,ti26_ok.flds,ti26_ok.elem,ti26_ok.eqd⟩) <| tcons (⟨ti27_ok.info,ti27_ok.kind,ti27_ok.flds,ti27_ok.elem,ti27_ok.eqd⟩) <| tcons (ti29_ok) <| tcons (⟨ti30_ok.info,ti30_ok.kind,ti30_ok.flds,ti30_ok.elem,ti30_ok.eqd⟩) <| tcons (ti32_ok) <| tcons (⟨ti33_ok.info,ti33_ok.kind,ti33_ok.flds,ti33_ok.elem,ti33_ok.eqd⟩) <| tcons (ti35_ok) <| tcons (ti37_ok) <| tcons (ti40_ok) <| tcons (ti42_ok) <| tcons (⟨ti45_ok.info,ti45_ok.kind,ti45_ok.flds,ti45_ok.elem,ti45_ok.eqd⟩) <| tcons (ti47_ok) <| tcons (⟨ti48_ok.info,ti48_ok.kind,ti48_ok.flds,ti48_ok.elem,ti48_ok.eqd⟩) <| tcons (⟨ti49_ok.info,ti49_ok.kind,ti49_ok.flds,ti49_ok.elem,ti49_ok.eqd⟩) <| tcons (ti51_ok) <| tcons (⟨ti52_ok.info,ti52_ok.kind,ti52_ok.flds,ti52_ok.elem,ti52_ok.eqd⟩) <| tcons (ti54_ok) <| tcons (⟨ti93_ok.info,ti93_ok.kind,ti93_ok.flds,ti93_ok.elem,ti93_ok.eqd⟩) <| tcons (ti96_ok) <| tcons (ti98_ok) <| tcons (ti109_ok) <| tcons (⟨ti110_ok.info,ti110_ok.kind,ti110_ok.flds,ti110_ok.elem,ti110_ok.eqd⟩) <| tcons (ti114_ok) <| tcons (ti117_ok) <| tcons (⟨ti134_ok.info,ti134_ok.kind,ti134_ok.flds,ti134_ok.elem,ti134_ok.eqd⟩) <| tcons (⟨ti135_ok.info,ti135_ok.kind,ti135_ok.flds,ti135_ok.elem,ti135_ok.eqd⟩) <| tcons (ti137_ok) <| tcons (ti139_ok) <| tcons (ti142_ok) <| tcons (⟨ti147_ok.info,ti147_ok.kind,ti147_ok.flds,ti147_ok.elem,ti147_ok.eqd⟩) <| tcons (⟨ti148_ok.info,ti148_ok.kind,ti148_ok.flds,ti148_ok.elem,ti148_ok.eqd⟩) <| tcons (ti150_ok) <| tcons (ti154_ok) <| tcons (ti160_ok) <| tcons (⟨ti165_ok.info,ti165_ok.kind,ti165_ok.flds,ti165_ok.elem,ti165_ok.eqd⟩) <| tcons (ti174_ok) <| tcons (ti180_ok) <| tcons (⟨ti198_ok.info,ti198_ok.kind,ti198_ok.flds,ti198_ok.elem,ti198_ok.eqd⟩) <| tcons (ti200_ok) <| tcons (⟨ti206_ok.info,ti206_ok.kind,ti206_ok.flds,ti206_ok.elem,ti206_ok.eqd⟩) <| tcons (ti210_ok) <| tcons (⟨ti212_ok.info,ti212_ok.kind,ti212_ok.flds,ti212_ok.elem,ti212_ok.eqd⟩) <| tcons (ti214_ok) <| tcons (ti227_ok) <| tcons (ti234_ok) <| tcons (ti249_ok) <| tcons (ti262_ok) <| tnil
end Go.Proofs.YtpkjjgdhmafonaaGreatDoor
