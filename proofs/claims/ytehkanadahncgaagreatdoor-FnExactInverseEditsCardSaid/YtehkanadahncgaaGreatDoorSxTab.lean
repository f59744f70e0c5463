/-
  The table of types of this translation, as the executor wants it; each row held against the program. Printed by program (gentab.py).
-/
import Derived.Test.YtehkanadahncgaaGreatDoorSxTy
import Derived.Test.YtehkanadahncgaaGreatDoorProg
import Derived.KernelRfl
namespace Go.Proofs.YtehkanadahncgaaGreatDoor
open Go Go.Sx
set_option maxRecDepth 100000
def ti2:TI:={size:=1,bytes:=8,zero:=.int .i64 0,kind:=.int .i64}
theorem ZsM:Qw Tryz.prog 2 ti2:=⟨by kernel_rfl,by kernel_rfl,by kernel_rfl,by kernel_rfl,by kernel_rfl⟩
def ti3:TI:={size:=1,bytes:=8,zero:=.int .i64 0,kind:=.int .i64}
theorem ZrU:Qw Tryz.prog 3 ti3:=⟨by kernel_rfl,by kernel_rfl,by kernel_rfl,by kernel_rfl,by kernel_rfl⟩
def ti4:TI:={size:=1,bytes:=1,zero:=.bool false,kind:=.bool}
theorem ZsV:Qw Tryz.prog 4 ti4:=⟨by kernel_rfl,by kernel_rfl,by kernel_rfl,by kernel_rfl,by kernel_rfl⟩
def ti5:TI:={size:=1,bytes:=1,zero:=.int .u8 0,kind:=.int .u8}
theorem ZsC:Qw Tryz.prog 5 ti5:=⟨by kernel_rfl,by kernel_rfl,by kernel_rfl,by kernel_rfl,by kernel_rfl⟩
def ti6:TI:={size:=1,bytes:=1,zero:=.int .u8 0,kind:=.int .u8}
theorem Zst:Qw Tryz.prog 6 ti6:=⟨by kernel_rfl,by kernel_rfl,by kernel_rfl,by kernel_rfl,by kernel_rfl⟩
def ti9:TI:={size:=1,bytes:=16,zero:=.string ByteArray.empty,kind:=.str}
theorem ZsH:Qw Tryz.prog 9 ti9:=⟨by kernel_rfl,by kernel_rfl,by kernel_rfl,by kernel_rfl,by kernel_rfl⟩
def Zwu:TI:={size:=1,bytes:=24,zero:=.slice none 0 0,kind:=.sl,elem:=188,esize:=7,ebytes:=112,ezero:=.agg #[.string ByteArray.empty,.int .i64 0,.slice none 0 0,.slice none 0 0,.slice none 0 0,.int .i64 0,.int .i64 0],eagg:=true,ety:=XY}
theorem Zfb:Qw Tryz.prog 22 Zwu:=⟨by kernel_rfl,by kernel_rfl,by kernel_rfl,by kernel_rfl,by kernel_rfl⟩
def Zwr:TI:={size:=1,bytes:=24,zero:=.agg #[.slice none 0 0],kind:=.st,flds:=[(0,1,false)]}
theorem ZpP:Qw Tryz.prog 24 Zwr:=⟨by kernel_rfl,by kernel_rfl,by kernel_rfl,by kernel_rfl,by kernel_rfl⟩
def ZwK:TI:={size:=1,bytes:=24,zero:=.slice none 0 0,kind:=.sl,elem:=190,esize:=3,ebytes:=48,ezero:=.agg #[.string ByteArray.empty,.int .i64 0,.slice none 0 0],eagg:=true,ety:=Z6}
theorem Zfp:Qw Tryz.prog 25 ZwK:=⟨by kernel_rfl,by kernel_rfl,by kernel_rfl,by kernel_rfl,by kernel_rfl⟩
def ZvZ:TI:={size:=1,bytes:=24,zero:=.slice none 0 0,kind:=.sl,elem:=9,esize:=1,ebytes:=16,ezero:=.string ByteArray.empty,eagg:=false,ety:=.str}
theorem ZiP:Qw Tryz.prog 26 ZvZ:=⟨by kernel_rfl,by kernel_rfl,by kernel_rfl,by kernel_rfl,by kernel_rfl⟩
def Zwx:TI:={size:=1,bytes:=24,zero:=.slice none 0 0,kind:=.sl,elem:=192,esize:=3,ebytes:=32,ezero:=.agg #[.string ByteArray.empty,.int .i64 0,.int .i64 0],eagg:=true,ety:=Vz}
theorem ZiI:Qw Tryz.prog 27 Zwx:=⟨by kernel_rfl,by kernel_rfl,by kernel_rfl,by kernel_rfl,by kernel_rfl⟩
def ZwA:TI:={size:=3,bytes:=72,zero:=.agg #[.slice none 0 0,.slice none 0 0,.slice none 0 0],kind:=.st,flds:=[(0,1,false),(1,1,false),(2,1,false)]}
theorem ZpM:Qw Tryz.prog 29 ZwA:=⟨by kernel_rfl,by kernel_rfl,by kernel_rfl,by kernel_rfl,by kernel_rfl⟩
def ZwJ:TI:={size:=1,bytes:=24,zero:=.slice none 0 0,kind:=.sl,elem:=58,esize:=4,ebytes:=96,ezero:=.agg #[.slice none 0 0,.slice none 0 0,.slice none 0 0,.slice none 0 0],eagg:=true,ety:=XR}
theorem Zfv:Qw Tryz.prog 30 ZwJ:=⟨by kernel_rfl,by kernel_rfl,by kernel_rfl,by kernel_rfl,by kernel_rfl⟩
def ZwM:TI:={size:=5,bytes:=120,zero:=.agg #[.slice none 0 0,.slice none 0 0,.slice none 0 0,.slice none 0 0,.slice none 0 0],kind:=.st,flds:=[(0,1,true),(1,3,true),(4,1,false)]}
theorem ZpR:Qw Tryz.prog 32 ZwM:=⟨by kernel_rfl,by kernel_rfl,by kernel_rfl,by kernel_rfl,by kernel_rfl⟩
def Zw5:TI:={size:=1,bytes:=24,zero:=.slice none 0 0,kind:=.sl,elem:=60,esize:=10,ebytes:=152,ezero:=.agg #[.int .i64 0,.int .i64 0,.int .i64 0,.int .i64 0,.int .i64 0,.string ByteArray.empty,.slice none 0 0,.slice none 0 0,.slice none 0 0,.slice none 0 0],eagg:=true,ety:=Ym}
theorem Zff:Qw Tryz.prog 33 Zw5:=⟨by kernel_rfl,by kernel_rfl,by kernel_rfl,by kernel_rfl,by kernel_rfl⟩
def ZwX:TI:={size:=1,bytes:=24,zero:=.slice none 0 0,kind:=.sl,elem:=66,esize:=10,ebytes:=152,ezero:=.agg #[.int .i64 0,.int .i64 0,.int .i64 0,.int .i64 0,.int .i64 0,.string ByteArray.empty,.slice none 0 0,.slice none 0 0,.slice none 0 0,.slice none 0 0],eagg:=true,ety:=Ym}
theorem Zfm:Qw Tryz.prog 36 ZwX:=⟨by kernel_rfl,by kernel_rfl,by kernel_rfl,by kernel_rfl,by kernel_rfl⟩
def ZwW:TI:={size:=1,bytes:=24,zero:=.slice none 0 0,kind:=.sl,elem:=169,esize:=7,ebytes:=112,ezero:=.agg #[.string ByteArray.empty,.int .i64 0,.slice none 0 0,.slice none 0 0,.slice none 0 0,.int .i64 0,.int .i64 0],eagg:=true,ety:=XY}
theorem Zfe:Qw Tryz.prog 39 ZwW:=⟨by kernel_rfl,by kernel_rfl,by kernel_rfl,by kernel_rfl,by kernel_rfl⟩
def ZwF:TI:={size:=1,bytes:=24,zero:=.agg #[.slice none 0 0],kind:=.st,flds:=[(0,1,false)]}
theorem Zp0:Qw Tryz.prog 41 ZwF:=⟨by kernel_rfl,by kernel_rfl,by kernel_rfl,by kernel_rfl,by kernel_rfl⟩
def Zwv:TI:={size:=1,bytes:=24,zero:=.slice none 0 0,kind:=.sl,elem:=124,esize:=3,ebytes:=48,ezero:=.agg #[.string ByteArray.empty,.int .i64 0,.slice none 0 0],eagg:=true,ety:=Z6}
theorem Ze9:Qw Tryz.prog 42 Zwv:=⟨by kernel_rfl,by kernel_rfl,by kernel_rfl,by kernel_rfl,by kernel_rfl⟩
def Zv5:TI:={size:=1,bytes:=24,zero:=.slice none 0 0,kind:=.sl,elem:=178,esize:=3,ebytes:=32,ezero:=.agg #[.string ByteArray.empty,.int .i64 0,.int .i64 0],eagg:=true,ety:=Vz}
theorem ZiE:Qw Tryz.prog 43 Zv5:=⟨by kernel_rfl,by kernel_rfl,by kernel_rfl,by kernel_rfl,by kernel_rfl⟩
def Zwy:TI:={size:=3,bytes:=72,zero:=.agg #[.slice none 0 0,.slice none 0 0,.slice none 0 0],kind:=.st,flds:=[(0,1,false),(1,1,false),(2,1,false)]}
theorem ZpK:Qw Tryz.prog 45 Zwy:=⟨by kernel_rfl,by kernel_rfl,by kernel_rfl,by kernel_rfl,by kernel_rfl⟩
def Zw0:TI:={size:=1,bytes:=24,zero:=.slice none 0 0,kind:=.sl,elem:=64,esize:=4,ebytes:=96,ezero:=.agg #[.slice none 0 0,.slice none 0 0,.slice none 0 0,.slice none 0 0],eagg:=true,ety:=XR}
theorem Zfh:Qw Tryz.prog 46 Zw0:=⟨by kernel_rfl,by kernel_rfl,by kernel_rfl,by kernel_rfl,by kernel_rfl⟩
def ZwS:TI:={size:=5,bytes:=120,zero:=.agg #[.slice none 0 0,.slice none 0 0,.slice none 0 0,.slice none 0 0,.slice none 0 0],kind:=.st,flds:=[(0,1,true),(1,3,true),(4,1,false)]}
theorem ZpD:Qw Tryz.prog 48 ZwS:=⟨by kernel_rfl,by kernel_rfl,by kernel_rfl,by kernel_rfl,by kernel_rfl⟩
def Zsa:TI:={size:=1,bytes:=24,zero:=.slice none 0 0,kind:=.sl,elem:=2,esize:=1,ebytes:=8,ezero:=.int .i64 0,eagg:=false,ety:=.int .i64}
theorem ZpZ:Qw Tryz.prog 56 Zsa:=⟨by kernel_rfl,by kernel_rfl,by kernel_rfl,by kernel_rfl,by kernel_rfl⟩
def ZwB:TI:={size:=4,bytes:=96,zero:=.agg #[.slice none 0 0,.slice none 0 0,.slice none 0 0,.slice none 0 0],kind:=.st,flds:=[(0,1,false),(1,1,false),(2,1,false),(3,1,false)]}
theorem Zqe:Qw Tryz.prog 58 ZwB:=⟨by kernel_rfl,by kernel_rfl,by kernel_rfl,by kernel_rfl,by kernel_rfl⟩
def ZwU:TI:={size:=10,bytes:=152,zero:=.agg #[.int .i64 0,.int .i64 0,.int .i64 0,.int .i64 0,.int .i64 0,.string ByteArray.empty,.slice none 0 0,.slice none 0 0,.slice none 0 0,.slice none 0 0],kind:=.st,flds:=[(0,1,false),(1,1,false),(2,1,false),(3,1,false),(4,1,false),(5,1,false),(6,4,true)]}
theorem ZpF:Qw Tryz.prog 60 ZwU:=⟨by kernel_rfl,by kernel_rfl,by kernel_rfl,by kernel_rfl,by kernel_rfl⟩
def ZwE:TI:={size:=4,bytes:=96,zero:=.agg #[.slice none 0 0,.slice none 0 0,.slice none 0 0,.slice none 0 0],kind:=.st,flds:=[(0,1,false),(1,1,false),(2,1,false),(3,1,false)]}
theorem Zqd:Qw Tryz.prog 64 ZwE:=⟨by kernel_rfl,by kernel_rfl,by kernel_rfl,by kernel_rfl,by kernel_rfl⟩
def ZwL:TI:={size:=10,bytes:=152,zero:=.agg #[.int .i64 0,.int .i64 0,.int .i64 0,.int .i64 0,.int .i64 0,.string ByteArray.empty,.slice none 0 0,.slice none 0 0,.slice none 0 0,.slice none 0 0],kind:=.st,flds:=[(0,1,false),(1,1,false),(2,1,false),(3,1,false),(4,1,false),(5,1,false),(6,4,true)]}
theorem Zqi:Qw Tryz.prog 66 ZwL:=⟨by kernel_rfl,by kernel_rfl,by kernel_rfl,by kernel_rfl,by kernel_rfl⟩
def Zw1:TI:={size:=1,bytes:=24,zero:=.slice none 0 0,kind:=.sl,elem:=5,esize:=1,ebytes:=1,ezero:=.int .u8 0,eagg:=false,ety:=.int .u8}
theorem ZpI:Qw Tryz.prog 73 Zw1:=⟨by kernel_rfl,by kernel_rfl,by kernel_rfl,by kernel_rfl,by kernel_rfl⟩
def Zuw:TI:={size:=1,bytes:=24,zero:=.slice none 0 0,kind:=.sl,elem:=115,esize:=4,ebytes:=32,ezero:=.agg #[.int .i64 0,.int .i64 0,.int .i64 0,.bool false],eagg:=true,ety:=Zjr}
theorem Zgt:Qw Tryz.prog 112 Zuw:=⟨by kernel_rfl,by kernel_rfl,by kernel_rfl,by kernel_rfl,by kernel_rfl⟩
def ZtI:TI:={size:=4,bytes:=32,zero:=.agg #[.int .i64 0,.int .i64 0,.int .i64 0,.bool false],kind:=.st,flds:=[(0,1,false),(1,1,false),(2,1,false),(3,1,false)],eqd:=.int .i64 0 (.int .i64 1 (.int .i64 2 (.bool 3 (.nil))))}
theorem Zn9:Qw Tryz.prog 115 ZtI:=⟨by kernel_rfl,by kernel_rfl,by kernel_rfl,by kernel_rfl,by kernel_rfl⟩
def Zuc:TI:={size:=1,bytes:=24,zero:=.slice none 0 0,kind:=.sl,elem:=126,esize:=4,ebytes:=32,ezero:=.agg #[.int .i64 0,.int .i64 0,.int .i64 0,.bool false],eagg:=true,ety:=Zfr}
theorem Zgv:Qw Tryz.prog 121 Zuc:=⟨by kernel_rfl,by kernel_rfl,by kernel_rfl,by kernel_rfl,by kernel_rfl⟩
def Zui:TI:={size:=3,bytes:=48,zero:=.agg #[.string ByteArray.empty,.int .i64 0,.slice none 0 0],kind:=.st,flds:=[(0,1,false),(1,1,false),(2,1,false)]}
theorem Zn3:Qw Tryz.prog 124 Zui:=⟨by kernel_rfl,by kernel_rfl,by kernel_rfl,by kernel_rfl,by kernel_rfl⟩
def Ztw:TI:={size:=4,bytes:=32,zero:=.agg #[.int .i64 0,.int .i64 0,.int .i64 0,.bool false],kind:=.st,flds:=[(0,1,false),(1,1,false),(2,1,false),(3,1,false)],eqd:=.int .i64 0 (.int .i64 1 (.int .i64 2 (.bool 3 (.nil))))}
theorem ZnN:Qw Tryz.prog 126 Ztw:=⟨by kernel_rfl,by kernel_rfl,by kernel_rfl,by kernel_rfl,by kernel_rfl⟩
def ZuB:TI:={size:=2,bytes:=16,zero:=.agg #[.int .i64 0,.int .i64 0],kind:=.st,flds:=[(0,1,false),(1,1,false)],eqd:=.int .i64 0 (.int .i64 1 (.nil))}
theorem Zou:Qw Tryz.prog 148 ZuB:=⟨by kernel_rfl,by kernel_rfl,by kernel_rfl,by kernel_rfl,by kernel_rfl⟩
def Zpf:TI:={size:=1,bytes:=8,zero:=.map none,kind:=.mp 148 2,ty:=Za2,ety:=.int .i64}
theorem Zos:Qw Tryz.prog 150 Zpf:=⟨by kernel_rfl,by kernel_rfl,by kernel_rfl,by kernel_rfl,by kernel_rfl⟩
def ZrP:TI:={size:=1,bytes:=24,zero:=.slice none 0 0,kind:=.sl,elem:=218,esize:=4,ebytes:=40,ezero:=.agg #[.string ByteArray.empty,.int .i64 0,.int .i64 0,.bool false],eagg:=true,ety:=ZcH}
theorem Zgn:Qw Tryz.prog 166 ZrP:=⟨by kernel_rfl,by kernel_rfl,by kernel_rfl,by kernel_rfl,by kernel_rfl⟩
def Ztm:TI:={size:=1,bytes:=24,zero:=.slice none 0 0,kind:=.sl,elem:=235,esize:=6,ebytes:=80,ezero:=.agg #[.int .i64 0,.int .i64 0,.int .i64 0,.int .i64 0,.slice none 0 0,.slice none 0 0],eagg:=true,ety:=ZeP}
theorem ZdU:Qw Tryz.prog 167 Ztm:=⟨by kernel_rfl,by kernel_rfl,by kernel_rfl,by kernel_rfl,by kernel_rfl⟩
def Zuh:TI:={size:=7,bytes:=112,zero:=.agg #[.string ByteArray.empty,.int .i64 0,.slice none 0 0,.slice none 0 0,.slice none 0 0,.int .i64 0,.int .i64 0],kind:=.st,flds:=[(0,1,false),(1,1,false),(2,1,false),(3,1,false),(4,1,false),(5,1,false),(6,1,false)]}
theorem ZoL:Qw Tryz.prog 169 Zuh:=⟨by kernel_rfl,by kernel_rfl,by kernel_rfl,by kernel_rfl,by kernel_rfl⟩
def Zp3:TI:={size:=1,bytes:=24,zero:=.slice none 0 0,kind:=.sl,elem:=3,esize:=1,ebytes:=8,ezero:=.int .i64 0,eagg:=false,ety:=.int .i64}
theorem Zov:Qw Tryz.prog 175 Zp3:=⟨by kernel_rfl,by kernel_rfl,by kernel_rfl,by kernel_rfl,by kernel_rfl⟩
def ZtQ:TI:={size:=3,bytes:=32,zero:=.agg #[.string ByteArray.empty,.int .i64 0,.int .i64 0],kind:=.st,flds:=[(0,1,false),(1,1,false),(2,1,false)],eqd:=.str 0 (.int .i64 1 (.int .i64 2 (.nil)))}
theorem ZnV:Qw Tryz.prog 178 ZtQ:=⟨by kernel_rfl,by kernel_rfl,by kernel_rfl,by kernel_rfl,by kernel_rfl⟩
def ZtM:TI:={size:=1,bytes:=24,zero:=.slice none 0 0,kind:=.sl,elem:=255,esize:=4,ebytes:=40,ezero:=.agg #[.string ByteArray.empty,.int .i64 0,.int .i64 0,.bool false],eagg:=true,ety:=ZcH}
theorem ZgN:Qw Tryz.prog 185 ZtM:=⟨by kernel_rfl,by kernel_rfl,by kernel_rfl,by kernel_rfl,by kernel_rfl⟩
def ZtV:TI:={size:=1,bytes:=24,zero:=.slice none 0 0,kind:=.sl,elem:=259,esize:=6,ebytes:=80,ezero:=.agg #[.int .i64 0,.int .i64 0,.int .i64 0,.int .i64 0,.slice none 0 0,.slice none 0 0],eagg:=true,ety:=ZeP}
theorem ZdN:Qw Tryz.prog 186 ZtV:=⟨by kernel_rfl,by kernel_rfl,by kernel_rfl,by kernel_rfl,by kernel_rfl⟩
def Ztk:TI:={size:=7,bytes:=112,zero:=.agg #[.string ByteArray.empty,.int .i64 0,.slice none 0 0,.slice none 0 0,.slice none 0 0,.int .i64 0,.int .i64 0],kind:=.st,flds:=[(0,1,false),(1,1,false),(2,1,false),(3,1,false),(4,1,false),(5,1,false),(6,1,false)]}
theorem ZoG:Qw Tryz.prog 188 Ztk:=⟨by kernel_rfl,by kernel_rfl,by kernel_rfl,by kernel_rfl,by kernel_rfl⟩
def Zuf:TI:={size:=3,bytes:=48,zero:=.agg #[.string ByteArray.empty,.int .i64 0,.slice none 0 0],kind:=.st,flds:=[(0,1,false),(1,1,false),(2,1,false)]}
theorem Zn0:Qw Tryz.prog 190 Zuf:=⟨by kernel_rfl,by kernel_rfl,by kernel_rfl,by kernel_rfl,by kernel_rfl⟩
def Zuo:TI:={size:=3,bytes:=32,zero:=.agg #[.string ByteArray.empty,.int .i64 0,.int .i64 0],kind:=.st,flds:=[(0,1,false),(1,1,false),(2,1,false)],eqd:=.str 0 (.int .i64 1 (.int .i64 2 (.nil)))}
theorem Zoz:Qw Tryz.prog 192 Zuo:=⟨by kernel_rfl,by kernel_rfl,by kernel_rfl,by kernel_rfl,by kernel_rfl⟩
def ZtE:TI:={size:=1,bytes:=8,zero:=.pointer none,kind:=.ptr}
theorem Zom:Qw Tryz.prog 202 ZtE:=⟨by kernel_rfl,by kernel_rfl,by kernel_rfl,by kernel_rfl,by kernel_rfl⟩
def Zt6:TI:={size:=1,bytes:=8,zero:=.pointer none,kind:=.ptr}
theorem ZoH:Qw Tryz.prog 206 Zt6:=⟨by kernel_rfl,by kernel_rfl,by kernel_rfl,by kernel_rfl,by kernel_rfl⟩
def Zty:TI:={size:=4,bytes:=40,zero:=.agg #[.string ByteArray.empty,.int .i64 0,.int .i64 0,.bool false],kind:=.st,flds:=[(0,1,false),(1,1,false),(2,1,false),(3,1,false)],eqd:=.str 0 (.int .i64 1 (.int .i64 2 (.bool 3 (.nil))))}
theorem ZnS:Qw Tryz.prog 218 Zty:=⟨by kernel_rfl,by kernel_rfl,by kernel_rfl,by kernel_rfl,by kernel_rfl⟩
def Zt1:TI:={size:=1,bytes:=24,zero:=.slice none 0 0,kind:=.sl,elem:=263,esize:=3,ebytes:=72,ezero:=.agg #[.slice none 0 0,.slice none 0 0,.slice none 0 0],eagg:=true,ety:=YP}
theorem Zdw:Qw Tryz.prog 233 Zt1:=⟨by kernel_rfl,by kernel_rfl,by kernel_rfl,by kernel_rfl,by kernel_rfl⟩
def Ztt:TI:={size:=6,bytes:=80,zero:=.agg #[.int .i64 0,.int .i64 0,.int .i64 0,.int .i64 0,.slice none 0 0,.slice none 0 0],kind:=.st,flds:=[(0,1,false),(1,1,false),(2,1,false),(3,1,false),(4,1,false),(5,1,false)]}
theorem Zoc:Qw Tryz.prog 235 Ztt:=⟨by kernel_rfl,by kernel_rfl,by kernel_rfl,by kernel_rfl,by kernel_rfl⟩
def Ztz:TI:={size:=4,bytes:=40,zero:=.agg #[.string ByteArray.empty,.int .i64 0,.int .i64 0,.bool false],kind:=.st,flds:=[(0,1,false),(1,1,false),(2,1,false),(3,1,false)],eqd:=.str 0 (.int .i64 1 (.int .i64 2 (.bool 3 (.nil))))}
theorem Zn8:Qw Tryz.prog 255 Ztz:=⟨by kernel_rfl,by kernel_rfl,by kernel_rfl,by kernel_rfl,by kernel_rfl⟩
def Zug:TI:={size:=1,bytes:=24,zero:=.slice none 0 0,kind:=.sl,elem:=296,esize:=3,ebytes:=72,ezero:=.agg #[.slice none 0 0,.slice none 0 0,.slice none 0 0],eagg:=true,ety:=YP}
theorem ZdX:Qw Tryz.prog 257 Zug:=⟨by kernel_rfl,by kernel_rfl,by kernel_rfl,by kernel_rfl,by kernel_rfl⟩
def ZtD:TI:={size:=6,bytes:=80,zero:=.agg #[.int .i64 0,.int .i64 0,.int .i64 0,.int .i64 0,.slice none 0 0,.slice none 0 0],kind:=.st,flds:=[(0,1,false),(1,1,false),(2,1,false),(3,1,false),(4,1,false),(5,1,false)]}
theorem Zol:Qw Tryz.prog 259 ZtD:=⟨by kernel_rfl,by kernel_rfl,by kernel_rfl,by kernel_rfl,by kernel_rfl⟩
def Zt5:TI:={size:=3,bytes:=72,zero:=.agg #[.slice none 0 0,.slice none 0 0,.slice none 0 0],kind:=.st,flds:=[(0,1,false),(1,1,false),(2,1,false)]}
theorem ZoA:Qw Tryz.prog 263 Zt5:=⟨by kernel_rfl,by kernel_rfl,by kernel_rfl,by kernel_rfl,by kernel_rfl⟩
def ZtP:TI:={size:=1,bytes:=8,zero:=.int .u64 0,kind:=.int .u64}
theorem Zox:Qw Tryz.prog 269 ZtP:=⟨by kernel_rfl,by kernel_rfl,by kernel_rfl,by kernel_rfl,by kernel_rfl⟩
def ZtH:TI:={size:=3,bytes:=72,zero:=.agg #[.slice none 0 0,.slice none 0 0,.slice none 0 0],kind:=.st,flds:=[(0,1,false),(1,1,false),(2,1,false)]}
theorem Zow:Qw Tryz.prog 296 ZtH:=⟨by kernel_rfl,by kernel_rfl,by kernel_rfl,by kernel_rfl,by kernel_rfl⟩
def ZtF:TI:={size:=2,bytes:=16,zero:=.agg #[.int .i64 0,.int .i64 0],kind:=.st,flds:=[(0,1,false),(1,1,false)],eqd:=.int .i64 0 (.int .i64 1 (.nil))}
theorem Zoo:Qw Tryz.prog 300 ZtF:=⟨by kernel_rfl,by kernel_rfl,by kernel_rfl,by kernel_rfl,by kernel_rfl⟩
theorem Zxl {P:Program}:Tab.ok [] P:=fun x hx=>by cases hx
theorem Z0 {P:Program} {t:Nat} {ti:TI} {r:Tab} (h:Qw P t ti) (hr:Tab.ok r P):Tab.ok ((t,ti)::r) P:=fun x hx=>by
 rcases List.mem_cons.1 hx with rfl | hx
 ·exact h
 ·exact hr x hx
def tab:Tab:=[(2,ti2),(3,ti3),(4,ti4),(5,ti5),(6,ti6),(9,ti9),(22,Zwu),(24,Zwr),(25,ZwK),(26,ZvZ),(27,Zwx),(29,ZwA),(30,ZwJ),(32,ZwM),(33,Zw5),(36,ZwX),(39,ZwW),(41,ZwF),(42,Zwv),(43,Zv5),(45,Zwy),(46,Zw0),(48,ZwS),(56,Zsa),(58,ZwB),(60,ZwU),(64,ZwE),(66,ZwL),(73,Zw1),(112,Zuw),(115,ZtI),(121,Zuc),(124,Zui),(126,Ztw),(148,ZuB),(150,Zpf),(166,ZrP),(167,Ztm),(169,Zuh),(175,Zp3),(178,ZtQ),(185,ZtM),(186,ZtV),(188,Ztk),(190,Zuf),(192,Zuo),(202,ZtE),(206,Zt6),(218,Zty),(233,Zt1),(235,Ztt),(255,Ztz),(257,Zug),(259,ZtD),(263,Zt5),(269,ZtP),(296,ZtH),(300,ZtF)]
theorem Zr:tab.ok Tryz.prog :=
 Z0 (ZsM) <| Z0 (ZrU) <| Z0 (ZsV) <| Z0 (ZsC) <| Z0 (Zst) <| Z0 (ZsH) <| Z0 (Zfb) <| Z0 (ZpP) <| Z0 (Zfp) <| Z0 (ZiP) <| Z0 (ZiI) <| Z0 (ZpM) <| Z0 (Zfv) <| Z0 (ZpR) <| Z0 (Zff) <| Z0 (Zfm) <| Z0 (Zfe) <| Z0 (Zp0) <| Z0 (Ze9) <| Z0 (ZiE) <| Z0 (ZpK) <| Z0 (Zfh) <| Z0 (ZpD) <| Z0 (ZpZ) <| Z0 (Zqe) <| Z0 (ZpF) <| Z0 (Zqd) <| Z0 (Zqi) <| Z0 (ZpI) <| Z0 (Zgt) <| Z0 (Zn9) <| Z0 (Zgv) <| Z0 (Zn3) <| Z0 (ZnN) <| Z0 (Zou) <| Z0 (Zos) <| Z0 (Zgn) <| Z0 (ZdU) <| Z0 (ZoL) <| Z0 (Zov) <| Z0 (ZnV) <| Z0 (ZgN) <| Z0 (ZdN) <| Z0 (ZoG) <| Z0 (Zn0) <| Z0 (Zoz) <| Z0 (Zom) <| Z0 (ZoH) <| Z0 (ZnS) <| Z0 (Zdw) <| Z0 (Zoc) <| Z0 (Zn8) <| Z0 (ZdX) <| Z0 (Zol) <| Z0 (ZoA) <| Z0 (Zox) <| Z0 (Zow) <| Z0 (Zoo) <| Zxl
def Zxo:TI:={Zwu with edp:=some (Zjc)}
def ZxQ:TI:={ZwK with edp:=some (ZaN)}
def Zxb:TI:={ZwJ with edp:=some (Zha)}
def ZxY:TI:={Zw5 with edp:=some (Zi2)}
def Zyi:TI:={ZwX with edp:=some (Zi2)}
def Zx2:TI:={ZwW with edp:=some (Zjc)}
def Zyr:TI:={Zwv with edp:=some (ZaN)}
def Zx6:TI:={Zw0 with edp:=some (Zha)}
def Zv2:TI:={Ztm with edp:=some (ZqC)}
def Zwh:TI:={ZtV with edp:=some (ZqC)}
def ZvO:TI:={Zt1 with edp:=some (ZeJ)}
def ZvX:TI:={Zug with edp:=some (ZeJ)}
def Zyh:TI:={Zwu with cut:=true,edp:=some (Zjc)}
def Zyz:TI:={ZwK with cut:=true,edp:=some (ZaN)}
def Zxp:TI:={ZvZ with cut:=true}
def ZyK:TI:={Zwx with cut:=true}
def ZyA:TI:={ZwJ with cut:=true,edp:=some (Zha)}
def Zym:TI:={Zw5 with cut:=true,edp:=some (Zi2)}
def Zyg:TI:={ZwX with cut:=true,edp:=some (Zi2)}
def Zx8:TI:={ZwW with cut:=true,edp:=some (Zjc)}
def ZyF:TI:={Zwv with cut:=true,edp:=some (ZaN)}
def ZxP:TI:={Zv5 with cut:=true}
def ZyG:TI:={Zw0 with cut:=true,edp:=some (Zha)}
def Zwb:TI:={Zuw with cut:=true}
def Zwn:TI:={Zuc with cut:=true}
def Zv7:TI:={ZrP with cut:=true}
def ZvU:TI:={Ztm with cut:=true,edp:=some (ZqC)}
def Zwi:TI:={ZtM with cut:=true}
def ZvM:TI:={ZtV with cut:=true,edp:=some (ZqC)}
def Zv4:TI:={Zt1 with cut:=true,edp:=some (ZeJ)}
def Zv0:TI:={Zug with cut:=true,edp:=some (ZeJ)}
def ZBx:Tab:=[(2,ti2),(3,ti3),(4,ti4),(5,ti5),(6,ti6),(9,ti9),(22,Zxo),(24,Zwr),(25,ZxQ),(26,ZvZ),(27,Zwx),(29,ZwA),(30,Zxb),(32,ZwM),(33,ZxY),(36,Zyi),(39,Zx2),(41,ZwF),(42,Zyr),(43,Zv5),(45,Zwy),(46,Zx6),(48,ZwS),(56,Zsa),(58,ZwB),(60,ZwU),(64,ZwE),(66,ZwL),(73,Zw1),(112,Zuw),(115,ZtI),(121,Zuc),(124,Zui),(126,Ztw),(148,ZuB),(150,Zpf),(166,ZrP),(167,Zv2),(169,Zuh),(175,Zp3),(178,ZtQ),(185,ZtM),(186,Zwh),(188,Ztk),(190,Zuf),(192,Zuo),(202,ZtE),(206,Zt6),(218,Zty),(233,ZvO),(235,Ztt),(255,Ztz),(257,ZvX),(259,ZtD),(263,Zt5),(269,ZtP),(296,ZtH),(300,ZtF)]
theorem YO:ZBx.ok Tryz.prog :=
 Z0 (ZsM) <| Z0 (ZrU) <| Z0 (ZsV) <| Z0 (ZsC) <| Z0 (Zst) <| Z0 (ZsH) <| Z0 (⟨Zfb.info,Zfb.kind,Zfb.flds,Zfb.elem,Zfb.eqd⟩) <| Z0 (ZpP) <| Z0 (⟨Zfp.info,Zfp.kind,Zfp.flds,Zfp.elem,Zfp.eqd⟩) <| Z0 (ZiP) <| Z0 (ZiI) <| Z0 (ZpM) <| Z0 (⟨Zfv.info,Zfv.kind,Zfv.flds,Zfv.elem,Zfv.eqd⟩) <| Z0 (ZpR) <| Z0 (⟨Zff.info,Zff.kind,Zff.flds,Zff.elem,Zff.eqd⟩) <| Z0 (⟨Zfm.info,Zfm.kind,Zfm.flds,Zfm.elem,Zfm.eqd⟩) <| Z0 (⟨Zfe.info,Zfe.kind,Zfe.flds,Zfe.elem,Zfe.eqd⟩) <| Z0 (Zp0) <| Z0 (⟨Ze9.info,Ze9.kind,Ze9.flds,Ze9.elem,Ze9.eqd⟩) <| Z0 (ZiE) <| Z0 (ZpK) <| Z0 (⟨Zfh.info,Zfh.kind,Zfh.flds,Zfh.elem,Zfh.eqd⟩) <| Z0 (ZpD) <| Z0 (ZpZ) <| Z0 (Zqe) <| Z0 (ZpF) <| Z0 (Zqd) <| Z0 (Zqi) <| Z0 (ZpI) <| Z0 (Zgt) <| Z0 (Zn9) <| Z0 (Zgv) <| Z0 (Zn3) <| Z0 (ZnN) <| Z0 (Zou) <| Z0 (Zos) <| Z0 (Zgn) <| Z0 (⟨ZdU.info,ZdU.kind,ZdU.flds,ZdU.elem,ZdU.eqd⟩) <| Z0 (ZoL) <| Z0 (Zov) <| Z0 (ZnV) <| Z0 (ZgN) <| Z0 (⟨ZdN.info,ZdN.kind,ZdN.flds,ZdN.elem,ZdN.eqd⟩) <| Z0 (ZoG) <| Z0 (Zn0) <| Z0 (Zoz) <| Z0 (Zom) <| Z0 (ZoH) <| Z0 (ZnS) <| Z0 (⟨Zdw.info,Zdw.kind,Zdw.flds,Zdw.elem,Zdw.eqd⟩) <| Z0 (Zoc) <| Z0 (Zn8) <| Z0 (⟨ZdX.info,ZdX.kind,ZdX.flds,ZdX.elem,ZdX.eqd⟩) <| Z0 (Zol) <| Z0 (ZoA) <| Z0 (Zox) <| Z0 (Zow) <| Z0 (Zoo) <| Zxl
def ZBr:Tab:=[(2,ti2),(3,ti3),(4,ti4),(5,ti5),(6,ti6),(9,ti9),(22,Zyh),(24,Zwr),(25,Zyz),(26,Zxp),(27,ZyK),(29,ZwA),(30,ZyA),(32,ZwM),(33,Zym),(36,Zyg),(39,Zx8),(41,ZwF),(42,ZyF),(43,ZxP),(45,Zwy),(46,ZyG),(48,ZwS),(56,Zsa),(58,ZwB),(60,ZwU),(64,ZwE),(66,ZwL),(73,Zw1),(112,Zwb),(115,ZtI),(121,Zwn),(124,Zui),(126,Ztw),(148,ZuB),(150,Zpf),(166,Zv7),(167,ZvU),(169,Zuh),(175,Zp3),(178,ZtQ),(185,Zwi),(186,ZvM),(188,Ztk),(190,Zuf),(192,Zuo),(202,ZtE),(206,Zt6),(218,Zty),(233,Zv4),(235,Ztt),(255,Ztz),(257,Zv0),(259,ZtD),(263,Zt5),(269,ZtP),(296,ZtH),(300,ZtF)]
theorem Ztg:ZBr.ok Tryz.prog :=
 Z0 (ZsM) <| Z0 (ZrU) <| Z0 (ZsV) <| Z0 (ZsC) <| Z0 (Zst) <| Z0 (ZsH) <| Z0 (⟨Zfb.info,Zfb.kind,Zfb.flds,Zfb.elem,Zfb.eqd⟩) <| Z0 (ZpP) <| Z0 (⟨Zfp.info,Zfp.kind,Zfp.flds,Zfp.elem,Zfp.eqd⟩) <| Z0 (⟨ZiP.info,ZiP.kind,ZiP.flds,ZiP.elem,ZiP.eqd⟩) <| Z0 (⟨ZiI.info,ZiI.kind,ZiI.flds,ZiI.elem,ZiI.eqd⟩) <| Z0 (ZpM) <| Z0 (⟨Zfv.info,Zfv.kind,Zfv.flds,Zfv.elem,Zfv.eqd⟩) <| Z0 (ZpR) <| Z0 (⟨Zff.info,Zff.kind,Zff.flds,Zff.elem,Zff.eqd⟩) <| Z0 (⟨Zfm.info,Zfm.kind,Zfm.flds,Zfm.elem,Zfm.eqd⟩) <| Z0 (⟨Zfe.info,Zfe.kind,Zfe.flds,Zfe.elem,Zfe.eqd⟩) <| Z0 (Zp0) <| Z0 (⟨Ze9.info,Ze9.kind,Ze9.flds,Ze9.elem,Ze9.eqd⟩) <| Z0 (⟨ZiE.info,ZiE.kind,ZiE.flds,ZiE.elem,ZiE.eqd⟩) <| Z0 (ZpK) <| Z0 (⟨Zfh.info,Zfh.kind,Zfh.flds,Zfh.elem,Zfh.eqd⟩) <| Z0 (ZpD) <| Z0 (ZpZ) <| Z0 (Zqe) <| Z0 (ZpF) <| Z0 (Zqd) <| Z0 (Zqi) <| Z0 (ZpI) <| Z0 (⟨Zgt.info,Zgt.kind,Zgt.flds,Zgt.elem,Zgt.eqd⟩) <| Z0 (Zn9) <| Z0 (⟨Zgv.info,Zgv.kind,Zgv.flds,Zgv.elem,Zgv.eqd⟩) <| Z0 (Zn3) <| Z0 (ZnN) <| Z0 (Zou) <| Z0 (Zos) <| Z0 (⟨Zgn.info,Zgn.kind,Zgn.flds,Zgn.elem,Zgn.eqd⟩) <| Z0 (⟨ZdU.info,ZdU.kind,ZdU.flds,ZdU.elem,ZdU.eqd⟩) <| Z0 (ZoL) <| Z0 (Zov) <| Z0 (ZnV) <| Z0 (⟨ZgN.info,ZgN.kind,ZgN.flds,ZgN.elem,ZgN.eqd⟩) <| Z0 (⟨ZdN.info,ZdN.kind,ZdN.flds,ZdN.elem,ZdN.eqd⟩) <| Z0 (ZoG) <| Z0 (Zn0) <| Z0 (Zoz) <| Z0 (Zom) <| Z0 (ZoH) <| Z0 (ZnS) <| Z0 (⟨Zdw.info,Zdw.kind,Zdw.flds,Zdw.elem,Zdw.eqd⟩) <| Z0 (Zoc) <| Z0 (Zn8) <| Z0 (⟨ZdX.info,ZdX.kind,ZdX.flds,ZdX.elem,ZdX.eqd⟩) <| Z0 (Zol) <| Z0 (ZoA) <| Z0 (Zox) <| Z0 (Zow) <| Z0 (Zoo) <| Zxl
end Go.Proofs.YtehkanadahncgaaGreatDoor
