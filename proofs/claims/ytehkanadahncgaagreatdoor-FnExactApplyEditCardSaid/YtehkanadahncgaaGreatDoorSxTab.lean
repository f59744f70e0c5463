/-
  The table of types of this translation, as the executor wants it; each row held against the program. Printed by program (gentab.py).
-/
import Derived.Test.YtehkanadahncgaaGreatDoorSxTy
import Derived.Test.YtehkanadahncgaaGreatDoorProg
import Derived.KernelRfl
namespace Go.Proofs.YtehkanadahncgaaGreatDoor
open Go Go.Sx
set_option maxRecDepth 100000
def ti2:TI:={size:=1,bytes:=8,zero:=.int .i64 0,kind:=.int .i64}
theorem Zs3:QC Tryz.prog 2 ti2:=⟨by kernel_rfl,by kernel_rfl,by kernel_rfl,by kernel_rfl,by kernel_rfl⟩
def ti3:TI:={size:=1,bytes:=8,zero:=.int .i64 0,kind:=.int .i64}
theorem ZsT:QC Tryz.prog 3 ti3:=⟨by kernel_rfl,by kernel_rfl,by kernel_rfl,by kernel_rfl,by kernel_rfl⟩
def ti4:TI:={size:=1,bytes:=1,zero:=.bool false,kind:=.bool}
theorem ZrV:QC Tryz.prog 4 ti4:=⟨by kernel_rfl,by kernel_rfl,by kernel_rfl,by kernel_rfl,by kernel_rfl⟩
def ti5:TI:={size:=1,bytes:=1,zero:=.int .u8 0,kind:=.int .u8}
theorem ZsN:QC Tryz.prog 5 ti5:=⟨by kernel_rfl,by kernel_rfl,by kernel_rfl,by kernel_rfl,by kernel_rfl⟩
def ti6:TI:={size:=1,bytes:=1,zero:=.int .u8 0,kind:=.int .u8}
theorem ZrU:QC Tryz.prog 6 ti6:=⟨by kernel_rfl,by kernel_rfl,by kernel_rfl,by kernel_rfl,by kernel_rfl⟩
def ti9:TI:={size:=1,bytes:=16,zero:=.string ByteArray.empty,kind:=.str}
theorem ZsG:QC Tryz.prog 9 ti9:=⟨by kernel_rfl,by kernel_rfl,by kernel_rfl,by kernel_rfl,by kernel_rfl⟩
def Zwp:TI:={size:=1,bytes:=24,zero:=.slice none 0 0,kind:=.sl,elem:=188,esize:=7,ebytes:=112,ezero:=.agg #[.string ByteArray.empty,.int .i64 0,.slice none 0 0,.slice none 0 0,.slice none 0 0,.int .i64 0,.int .i64 0],eagg:=true,ety:=YL}
theorem Zfo:QC Tryz.prog 22 Zwp:=⟨by kernel_rfl,by kernel_rfl,by kernel_rfl,by kernel_rfl,by kernel_rfl⟩
def Zwk:TI:={size:=1,bytes:=24,zero:=.agg #[.slice none 0 0],kind:=.st,flds:=[(0,1,false)]}
theorem ZpX:QC Tryz.prog 24 Zwk:=⟨by kernel_rfl,by kernel_rfl,by kernel_rfl,by kernel_rfl,by kernel_rfl⟩
def Zwe:TI:={size:=1,bytes:=24,zero:=.slice none 0 0,kind:=.sl,elem:=190,esize:=3,ebytes:=48,ezero:=.agg #[.string ByteArray.empty,.int .i64 0,.slice none 0 0],eagg:=true,ety:=Zv}
theorem Ze5:QC Tryz.prog 25 Zwe:=⟨by kernel_rfl,by kernel_rfl,by kernel_rfl,by kernel_rfl,by kernel_rfl⟩
def Zvy:TI:={size:=1,bytes:=24,zero:=.slice none 0 0,kind:=.sl,elem:=9,esize:=1,ebytes:=16,ezero:=.string ByteArray.empty,eagg:=false,ety:=.str}
theorem ZiT:QC Tryz.prog 26 Zvy:=⟨by kernel_rfl,by kernel_rfl,by kernel_rfl,by kernel_rfl,by kernel_rfl⟩
def Zwn:TI:={size:=1,bytes:=24,zero:=.slice none 0 0,kind:=.sl,elem:=192,esize:=3,ebytes:=32,ezero:=.agg #[.string ByteArray.empty,.int .i64 0,.int .i64 0],eagg:=true,ety:=Xk}
theorem ZiW:QC Tryz.prog 27 Zwn:=⟨by kernel_rfl,by kernel_rfl,by kernel_rfl,by kernel_rfl,by kernel_rfl⟩
def Zwo:TI:={size:=3,bytes:=72,zero:=.agg #[.slice none 0 0,.slice none 0 0,.slice none 0 0],kind:=.st,flds:=[(0,1,false),(1,1,false),(2,1,false)]}
theorem Zp8:QC Tryz.prog 29 Zwo:=⟨by kernel_rfl,by kernel_rfl,by kernel_rfl,by kernel_rfl,by kernel_rfl⟩
def ZwC:TI:={size:=1,bytes:=24,zero:=.slice none 0 0,kind:=.sl,elem:=58,esize:=4,ebytes:=96,ezero:=.agg #[.slice none 0 0,.slice none 0 0,.slice none 0 0,.slice none 0 0],eagg:=true,ety:=YJ}
theorem Ze6:QC Tryz.prog 30 ZwC:=⟨by kernel_rfl,by kernel_rfl,by kernel_rfl,by kernel_rfl,by kernel_rfl⟩
def Zww:TI:={size:=5,bytes:=120,zero:=.agg #[.slice none 0 0,.slice none 0 0,.slice none 0 0,.slice none 0 0,.slice none 0 0],kind:=.st,flds:=[(0,1,true),(1,3,true),(4,1,false)]}
theorem ZpH:QC Tryz.prog 32 Zww:=⟨by kernel_rfl,by kernel_rfl,by kernel_rfl,by kernel_rfl,by kernel_rfl⟩
def Zwu:TI:={size:=1,bytes:=24,zero:=.slice none 0 0,kind:=.sl,elem:=169,esize:=7,ebytes:=112,ezero:=.agg #[.string ByteArray.empty,.int .i64 0,.slice none 0 0,.slice none 0 0,.slice none 0 0,.int .i64 0,.int .i64 0],eagg:=true,ety:=YL}
theorem Ze4:QC Tryz.prog 39 Zwu:=⟨by kernel_rfl,by kernel_rfl,by kernel_rfl,by kernel_rfl,by kernel_rfl⟩
def Zwq:TI:={size:=1,bytes:=24,zero:=.agg #[.slice none 0 0],kind:=.st,flds:=[(0,1,false)]}
theorem ZpD:QC Tryz.prog 41 Zwq:=⟨by kernel_rfl,by kernel_rfl,by kernel_rfl,by kernel_rfl,by kernel_rfl⟩
def ZwI:TI:={size:=1,bytes:=24,zero:=.slice none 0 0,kind:=.sl,elem:=124,esize:=3,ebytes:=48,ezero:=.agg #[.string ByteArray.empty,.int .i64 0,.slice none 0 0],eagg:=true,ety:=Zv}
theorem Zfe:QC Tryz.prog 42 ZwI:=⟨by kernel_rfl,by kernel_rfl,by kernel_rfl,by kernel_rfl,by kernel_rfl⟩
def Zv4:TI:={size:=1,bytes:=24,zero:=.slice none 0 0,kind:=.sl,elem:=178,esize:=3,ebytes:=32,ezero:=.agg #[.string ByteArray.empty,.int .i64 0,.int .i64 0],eagg:=true,ety:=Xk}
theorem ZiC:QC Tryz.prog 43 Zv4:=⟨by kernel_rfl,by kernel_rfl,by kernel_rfl,by kernel_rfl,by kernel_rfl⟩
def ZwF:TI:={size:=3,bytes:=72,zero:=.agg #[.slice none 0 0,.slice none 0 0,.slice none 0 0],kind:=.st,flds:=[(0,1,false),(1,1,false),(2,1,false)]}
theorem ZpG:QC Tryz.prog 45 ZwF:=⟨by kernel_rfl,by kernel_rfl,by kernel_rfl,by kernel_rfl,by kernel_rfl⟩
def Zwy:TI:={size:=1,bytes:=24,zero:=.slice none 0 0,kind:=.sl,elem:=64,esize:=4,ebytes:=96,ezero:=.agg #[.slice none 0 0,.slice none 0 0,.slice none 0 0,.slice none 0 0],eagg:=true,ety:=YJ}
theorem Ze8:QC Tryz.prog 46 Zwy:=⟨by kernel_rfl,by kernel_rfl,by kernel_rfl,by kernel_rfl,by kernel_rfl⟩
def ZwJ:TI:={size:=5,bytes:=120,zero:=.agg #[.slice none 0 0,.slice none 0 0,.slice none 0 0,.slice none 0 0,.slice none 0 0],kind:=.st,flds:=[(0,1,true),(1,3,true),(4,1,false)]}
theorem Zqa:QC Tryz.prog 48 ZwJ:=⟨by kernel_rfl,by kernel_rfl,by kernel_rfl,by kernel_rfl,by kernel_rfl⟩
def Zsv:TI:={size:=1,bytes:=24,zero:=.slice none 0 0,kind:=.sl,elem:=2,esize:=1,ebytes:=8,ezero:=.int .i64 0,eagg:=false,ety:=.int .i64}
theorem Zpw:QC Tryz.prog 56 Zsv:=⟨by kernel_rfl,by kernel_rfl,by kernel_rfl,by kernel_rfl,by kernel_rfl⟩
def Zwh:TI:={size:=4,bytes:=96,zero:=.agg #[.slice none 0 0,.slice none 0 0,.slice none 0 0,.slice none 0 0],kind:=.st,flds:=[(0,1,false),(1,1,false),(2,1,false),(3,1,false)]}
theorem Zpr:QC Tryz.prog 58 Zwh:=⟨by kernel_rfl,by kernel_rfl,by kernel_rfl,by kernel_rfl,by kernel_rfl⟩
def Zwz:TI:={size:=10,bytes:=152,zero:=.agg #[.int .i64 0,.int .i64 0,.int .i64 0,.int .i64 0,.int .i64 0,.string ByteArray.empty,.slice none 0 0,.slice none 0 0,.slice none 0 0,.slice none 0 0],kind:=.st,flds:=[(0,1,false),(1,1,false),(2,1,false),(3,1,false),(4,1,false),(5,1,false),(6,4,true)]}
theorem ZpI:QC Tryz.prog 60 Zwz:=⟨by kernel_rfl,by kernel_rfl,by kernel_rfl,by kernel_rfl,by kernel_rfl⟩
def ZwK:TI:={size:=4,bytes:=96,zero:=.agg #[.slice none 0 0,.slice none 0 0,.slice none 0 0,.slice none 0 0],kind:=.st,flds:=[(0,1,false),(1,1,false),(2,1,false),(3,1,false)]}
theorem ZpW:QC Tryz.prog 64 ZwK:=⟨by kernel_rfl,by kernel_rfl,by kernel_rfl,by kernel_rfl,by kernel_rfl⟩
def Zws:TI:={size:=10,bytes:=152,zero:=.agg #[.int .i64 0,.int .i64 0,.int .i64 0,.int .i64 0,.int .i64 0,.string ByteArray.empty,.slice none 0 0,.slice none 0 0,.slice none 0 0,.slice none 0 0],kind:=.st,flds:=[(0,1,false),(1,1,false),(2,1,false),(3,1,false),(4,1,false),(5,1,false),(6,4,true)]}
theorem Zp9:QC Tryz.prog 66 Zws:=⟨by kernel_rfl,by kernel_rfl,by kernel_rfl,by kernel_rfl,by kernel_rfl⟩
def ZwL:TI:={size:=1,bytes:=24,zero:=.slice none 0 0,kind:=.sl,elem:=5,esize:=1,ebytes:=1,ezero:=.int .u8 0,eagg:=false,ety:=.int .u8}
theorem ZpN:QC Tryz.prog 73 ZwL:=⟨by kernel_rfl,by kernel_rfl,by kernel_rfl,by kernel_rfl,by kernel_rfl⟩
def Zt6:TI:={size:=1,bytes:=24,zero:=.slice none 0 0,kind:=.sl,elem:=115,esize:=4,ebytes:=32,ezero:=.agg #[.int .i64 0,.int .i64 0,.int .i64 0,.bool false],eagg:=true,ety:=Zmh}
theorem Zf7:QC Tryz.prog 112 Zt6:=⟨by kernel_rfl,by kernel_rfl,by kernel_rfl,by kernel_rfl,by kernel_rfl⟩
def ZtC:TI:={size:=4,bytes:=32,zero:=.agg #[.int .i64 0,.int .i64 0,.int .i64 0,.bool false],kind:=.st,flds:=[(0,1,false),(1,1,false),(2,1,false),(3,1,false)],eqd:=.int .i64 0 (.int .i64 1 (.int .i64 2 (.bool 3 (.nil))))}
theorem Zn5:QC Tryz.prog 115 ZtC:=⟨by kernel_rfl,by kernel_rfl,by kernel_rfl,by kernel_rfl,by kernel_rfl⟩
def Zug:TI:={size:=1,bytes:=24,zero:=.slice none 0 0,kind:=.sl,elem:=126,esize:=4,ebytes:=32,ezero:=.agg #[.int .i64 0,.int .i64 0,.int .i64 0,.bool false],eagg:=true,ety:=Zfs}
theorem Zf8:QC Tryz.prog 121 Zug:=⟨by kernel_rfl,by kernel_rfl,by kernel_rfl,by kernel_rfl,by kernel_rfl⟩
def ZtL:TI:={size:=3,bytes:=48,zero:=.agg #[.string ByteArray.empty,.int .i64 0,.slice none 0 0],kind:=.st,flds:=[(0,1,false),(1,1,false),(2,1,false)]}
theorem Zn3:QC Tryz.prog 124 ZtL:=⟨by kernel_rfl,by kernel_rfl,by kernel_rfl,by kernel_rfl,by kernel_rfl⟩
def ZtN:TI:={size:=4,bytes:=32,zero:=.agg #[.int .i64 0,.int .i64 0,.int .i64 0,.bool false],kind:=.st,flds:=[(0,1,false),(1,1,false),(2,1,false),(3,1,false)],eqd:=.int .i64 0 (.int .i64 1 (.int .i64 2 (.bool 3 (.nil))))}
theorem ZnH:QC Tryz.prog 126 ZtN:=⟨by kernel_rfl,by kernel_rfl,by kernel_rfl,by kernel_rfl,by kernel_rfl⟩
def Zuf:TI:={size:=2,bytes:=16,zero:=.agg #[.int .i64 0,.int .i64 0],kind:=.st,flds:=[(0,1,false),(1,1,false)],eqd:=.int .i64 0 (.int .i64 1 (.nil))}
theorem ZnC:QC Tryz.prog 148 Zuf:=⟨by kernel_rfl,by kernel_rfl,by kernel_rfl,by kernel_rfl,by kernel_rfl⟩
def Zo2:TI:={size:=1,bytes:=8,zero:=.map none,kind:=.mp 148 2,ty:=Zb2,ety:=.int .i64}
theorem ZnY:QC Tryz.prog 150 Zo2:=⟨by kernel_rfl,by kernel_rfl,by kernel_rfl,by kernel_rfl,by kernel_rfl⟩
def ZsP:TI:={size:=1,bytes:=24,zero:=.slice none 0 0,kind:=.sl,elem:=218,esize:=4,ebytes:=40,ezero:=.agg #[.string ByteArray.empty,.int .i64 0,.int .i64 0,.bool false],eagg:=true,ety:=V9}
theorem Zgm:QC Tryz.prog 166 ZsP:=⟨by kernel_rfl,by kernel_rfl,by kernel_rfl,by kernel_rfl,by kernel_rfl⟩
def Ztx:TI:={size:=1,bytes:=24,zero:=.slice none 0 0,kind:=.sl,elem:=235,esize:=6,ebytes:=80,ezero:=.agg #[.int .i64 0,.int .i64 0,.int .i64 0,.int .i64 0,.slice none 0 0,.slice none 0 0],eagg:=true,ety:=Zaw}
theorem Zdr:QC Tryz.prog 167 Ztx:=⟨by kernel_rfl,by kernel_rfl,by kernel_rfl,by kernel_rfl,by kernel_rfl⟩
def Zt7:TI:={size:=7,bytes:=112,zero:=.agg #[.string ByteArray.empty,.int .i64 0,.slice none 0 0,.slice none 0 0,.slice none 0 0,.int .i64 0,.int .i64 0],kind:=.st,flds:=[(0,1,false),(1,1,false),(2,1,false),(3,1,false),(4,1,false),(5,1,false),(6,1,false)]}
theorem Zoe:QC Tryz.prog 169 Zt7:=⟨by kernel_rfl,by kernel_rfl,by kernel_rfl,by kernel_rfl,by kernel_rfl⟩
def Zpt:TI:={size:=1,bytes:=24,zero:=.slice none 0 0,kind:=.sl,elem:=3,esize:=1,ebytes:=8,ezero:=.int .i64 0,eagg:=false,ety:=.int .i64}
theorem Zn2:QC Tryz.prog 175 Zpt:=⟨by kernel_rfl,by kernel_rfl,by kernel_rfl,by kernel_rfl,by kernel_rfl⟩
def Ztu:TI:={size:=3,bytes:=32,zero:=.agg #[.string ByteArray.empty,.int .i64 0,.int .i64 0],kind:=.st,flds:=[(0,1,false),(1,1,false),(2,1,false)],eqd:=.str 0 (.int .i64 1 (.int .i64 2 (.nil)))}
theorem ZnD:QC Tryz.prog 178 Ztu:=⟨by kernel_rfl,by kernel_rfl,by kernel_rfl,by kernel_rfl,by kernel_rfl⟩
def Zts:TI:={size:=1,bytes:=24,zero:=.slice none 0 0,kind:=.sl,elem:=255,esize:=4,ebytes:=40,ezero:=.agg #[.string ByteArray.empty,.int .i64 0,.int .i64 0,.bool false],eagg:=true,ety:=V9}
theorem Zgg:QC Tryz.prog 185 Zts:=⟨by kernel_rfl,by kernel_rfl,by kernel_rfl,by kernel_rfl,by kernel_rfl⟩
def Ztw:TI:={size:=1,bytes:=24,zero:=.slice none 0 0,kind:=.sl,elem:=259,esize:=6,ebytes:=80,ezero:=.agg #[.int .i64 0,.int .i64 0,.int .i64 0,.int .i64 0,.slice none 0 0,.slice none 0 0],eagg:=true,ety:=Zaw}
theorem Zdz:QC Tryz.prog 186 Ztw:=⟨by kernel_rfl,by kernel_rfl,by kernel_rfl,by kernel_rfl,by kernel_rfl⟩
def ZtD:TI:={size:=7,bytes:=112,zero:=.agg #[.string ByteArray.empty,.int .i64 0,.slice none 0 0,.slice none 0 0,.slice none 0 0,.int .i64 0,.int .i64 0],kind:=.st,flds:=[(0,1,false),(1,1,false),(2,1,false),(3,1,false),(4,1,false),(5,1,false),(6,1,false)]}
theorem Zoq:QC Tryz.prog 188 ZtD:=⟨by kernel_rfl,by kernel_rfl,by kernel_rfl,by kernel_rfl,by kernel_rfl⟩
def ZtH:TI:={size:=3,bytes:=48,zero:=.agg #[.string ByteArray.empty,.int .i64 0,.slice none 0 0],kind:=.st,flds:=[(0,1,false),(1,1,false),(2,1,false)]}
theorem Zod:QC Tryz.prog 190 ZtH:=⟨by kernel_rfl,by kernel_rfl,by kernel_rfl,by kernel_rfl,by kernel_rfl⟩
def ZtQ:TI:={size:=3,bytes:=32,zero:=.agg #[.string ByteArray.empty,.int .i64 0,.int .i64 0],kind:=.st,flds:=[(0,1,false),(1,1,false),(2,1,false)],eqd:=.str 0 (.int .i64 1 (.int .i64 2 (.nil)))}
theorem ZnX:QC Tryz.prog 192 ZtQ:=⟨by kernel_rfl,by kernel_rfl,by kernel_rfl,by kernel_rfl,by kernel_rfl⟩
def ZtV:TI:={size:=1,bytes:=8,zero:=.pointer none,kind:=.ptr}
theorem Zos:QC Tryz.prog 202 ZtV:=⟨by kernel_rfl,by kernel_rfl,by kernel_rfl,by kernel_rfl,by kernel_rfl⟩
def Ztq:TI:={size:=1,bytes:=8,zero:=.pointer none,kind:=.ptr}
theorem Zot:QC Tryz.prog 206 Ztq:=⟨by kernel_rfl,by kernel_rfl,by kernel_rfl,by kernel_rfl,by kernel_rfl⟩
def Ztj:TI:={size:=4,bytes:=40,zero:=.agg #[.string ByteArray.empty,.int .i64 0,.int .i64 0,.bool false],kind:=.st,flds:=[(0,1,false),(1,1,false),(2,1,false),(3,1,false)],eqd:=.str 0 (.int .i64 1 (.int .i64 2 (.bool 3 (.nil))))}
theorem Zn8:QC Tryz.prog 218 Ztj:=⟨by kernel_rfl,by kernel_rfl,by kernel_rfl,by kernel_rfl,by kernel_rfl⟩
def ZtR:TI:={size:=1,bytes:=24,zero:=.slice none 0 0,kind:=.sl,elem:=263,esize:=3,ebytes:=72,ezero:=.agg #[.slice none 0 0,.slice none 0 0,.slice none 0 0],eagg:=true,ety:=Yf}
theorem ZdF:QC Tryz.prog 233 ZtR:=⟨by kernel_rfl,by kernel_rfl,by kernel_rfl,by kernel_rfl,by kernel_rfl⟩
def ZtI:TI:={size:=6,bytes:=80,zero:=.agg #[.int .i64 0,.int .i64 0,.int .i64 0,.int .i64 0,.slice none 0 0,.slice none 0 0],kind:=.st,flds:=[(0,1,false),(1,1,false),(2,1,false),(3,1,false),(4,1,false),(5,1,false)]}
theorem Zoa:QC Tryz.prog 235 ZtI:=⟨by kernel_rfl,by kernel_rfl,by kernel_rfl,by kernel_rfl,by kernel_rfl⟩
def ZtW:TI:={size:=4,bytes:=40,zero:=.agg #[.string ByteArray.empty,.int .i64 0,.int .i64 0,.bool false],kind:=.st,flds:=[(0,1,false),(1,1,false),(2,1,false),(3,1,false)],eqd:=.str 0 (.int .i64 1 (.int .i64 2 (.bool 3 (.nil))))}
theorem Zn0:QC Tryz.prog 255 ZtW:=⟨by kernel_rfl,by kernel_rfl,by kernel_rfl,by kernel_rfl,by kernel_rfl⟩
def ZtG:TI:={size:=1,bytes:=24,zero:=.slice none 0 0,kind:=.sl,elem:=296,esize:=3,ebytes:=72,ezero:=.agg #[.slice none 0 0,.slice none 0 0,.slice none 0 0],eagg:=true,ety:=Yf}
theorem ZdI:QC Tryz.prog 257 ZtG:=⟨by kernel_rfl,by kernel_rfl,by kernel_rfl,by kernel_rfl,by kernel_rfl⟩
def Ztv:TI:={size:=6,bytes:=80,zero:=.agg #[.int .i64 0,.int .i64 0,.int .i64 0,.int .i64 0,.slice none 0 0,.slice none 0 0],kind:=.st,flds:=[(0,1,false),(1,1,false),(2,1,false),(3,1,false),(4,1,false),(5,1,false)]}
theorem Zn7:QC Tryz.prog 259 Ztv:=⟨by kernel_rfl,by kernel_rfl,by kernel_rfl,by kernel_rfl,by kernel_rfl⟩
def ZtJ:TI:={size:=3,bytes:=72,zero:=.agg #[.slice none 0 0,.slice none 0 0,.slice none 0 0],kind:=.st,flds:=[(0,1,false),(1,1,false),(2,1,false)]}
theorem Zn6:QC Tryz.prog 263 ZtJ:=⟨by kernel_rfl,by kernel_rfl,by kernel_rfl,by kernel_rfl,by kernel_rfl⟩
def Zto:TI:={size:=1,bytes:=8,zero:=.int .u64 0,kind:=.int .u64}
theorem ZnK:QC Tryz.prog 269 Zto:=⟨by kernel_rfl,by kernel_rfl,by kernel_rfl,by kernel_rfl,by kernel_rfl⟩
def ZtF:TI:={size:=3,bytes:=72,zero:=.agg #[.slice none 0 0,.slice none 0 0,.slice none 0 0],kind:=.st,flds:=[(0,1,false),(1,1,false),(2,1,false)]}
theorem ZnG:QC Tryz.prog 296 ZtF:=⟨by kernel_rfl,by kernel_rfl,by kernel_rfl,by kernel_rfl,by kernel_rfl⟩
def Zt3:TI:={size:=2,bytes:=16,zero:=.agg #[.int .i64 0,.int .i64 0],kind:=.st,flds:=[(0,1,false),(1,1,false)],eqd:=.int .i64 0 (.int .i64 1 (.nil))}
theorem Zop:QC Tryz.prog 300 Zt3:=⟨by kernel_rfl,by kernel_rfl,by kernel_rfl,by kernel_rfl,by kernel_rfl⟩
theorem Zxt {P:Program}:Tab.ok [] P:=fun x hx=>by cases hx
theorem ZY {P:Program} {t:Nat} {ti:TI} {r:Tab} (h:QC P t ti) (hr:Tab.ok r P):Tab.ok ((t,ti)::r) P:=fun x hx=>by
 rcases List.mem_cons.1 hx with rfl | hx
 ·exact h
 ·exact hr x hx
def tab:Tab:=[(2,ti2),(3,ti3),(4,ti4),(5,ti5),(6,ti6),(9,ti9),(22,Zwp),(24,Zwk),(25,Zwe),(26,Zvy),(27,Zwn),(29,Zwo),(30,ZwC),(32,Zww),(39,Zwu),(41,Zwq),(42,ZwI),(43,Zv4),(45,ZwF),(46,Zwy),(48,ZwJ),(56,Zsv),(58,Zwh),(60,Zwz),(64,ZwK),(66,Zws),(73,ZwL),(112,Zt6),(115,ZtC),(121,Zug),(124,ZtL),(126,ZtN),(148,Zuf),(150,Zo2),(166,ZsP),(167,Ztx),(169,Zt7),(175,Zpt),(178,Ztu),(185,Zts),(186,Ztw),(188,ZtD),(190,ZtH),(192,ZtQ),(202,ZtV),(206,Ztq),(218,Ztj),(233,ZtR),(235,ZtI),(255,ZtW),(257,ZtG),(259,Ztv),(263,ZtJ),(269,Zto),(296,ZtF),(300,Zt3)]
theorem Zq:tab.ok Tryz.prog :=
 ZY (Zs3) <| ZY (ZsT) <| ZY (ZrV) <| ZY (ZsN) <| ZY (ZrU) <| ZY (ZsG) <| ZY (Zfo) <| ZY (ZpX) <| ZY (Ze5) <| ZY (ZiT) <| ZY (ZiW) <| ZY (Zp8) <| ZY (Ze6) <| ZY (ZpH) <| ZY (Ze4) <| ZY (ZpD) <| ZY (Zfe) <| ZY (ZiC) <| ZY (ZpG) <| ZY (Ze8) <| ZY (Zqa) <| ZY (Zpw) <| ZY (Zpr) <| ZY (ZpI) <| ZY (ZpW) <| ZY (Zp9) <| ZY (ZpN) <| ZY (Zf7) <| ZY (Zn5) <| ZY (Zf8) <| ZY (Zn3) <| ZY (ZnH) <| ZY (ZnC) <| ZY (ZnY) <| ZY (Zgm) <| ZY (Zdr) <| ZY (Zoe) <| ZY (Zn2) <| ZY (ZnD) <| ZY (Zgg) <| ZY (Zdz) <| ZY (Zoq) <| ZY (Zod) <| ZY (ZnX) <| ZY (Zos) <| ZY (Zot) <| ZY (Zn8) <| ZY (ZdF) <| ZY (Zoa) <| ZY (Zn0) <| ZY (ZdI) <| ZY (Zn7) <| ZY (Zn6) <| ZY (ZnK) <| ZY (ZnG) <| ZY (Zop) <| Zxt
def Zxi:TI:={Zwp with edp:=some (Zlp)}
def Zxh:TI:={Zwe with edp:=some (ZbN)}
def ZwX:TI:={ZwC with edp:=some (Zhu)}
def Zxo:TI:={Zwu with edp:=some (Zlp)}
def Zx6:TI:={ZwI with edp:=some (ZbN)}
def Zw6:TI:={Zwy with edp:=some (Zhu)}
def Zv9:TI:={Ztx with edp:=some (ZrA)}
def Zwa:TI:={Ztw with edp:=some (ZrA)}
def Zv3:TI:={ZtR with edp:=some (ZeB)}
def ZvL:TI:={ZtG with edp:=some (ZeB)}
def ZxH:TI:={Zwp with cut:=true,edp:=some (Zlp)}
def Zxk:TI:={Zwe with cut:=true,edp:=some (ZbN)}
def Zxz:TI:={Zvy with cut:=true}
def Zw8:TI:={Zwn with cut:=true}
def Zxv:TI:={ZwC with cut:=true,edp:=some (Zhu)}
def Zyn:TI:={Zwu with cut:=true,edp:=some (Zlp)}
def Zyf:TI:={ZwI with cut:=true,edp:=some (ZbN)}
def Zxa:TI:={Zv4 with cut:=true}
def Zx5:TI:={Zwy with cut:=true,edp:=some (Zhu)}
def ZvE:TI:={Zt6 with cut:=true}
def Zvz:TI:={Zug with cut:=true}
def Zv5:TI:={ZsP with cut:=true}
def Zv8:TI:={Ztx with cut:=true,edp:=some (ZrA)}
def Zv7:TI:={Zts with cut:=true}
def ZvQ:TI:={Ztw with cut:=true,edp:=some (ZrA)}
def Zv6:TI:={ZtR with cut:=true,edp:=some (ZeB)}
def ZvV:TI:={ZtG with cut:=true,edp:=some (ZeB)}
def ZAq:Tab:=[(2,ti2),(3,ti3),(4,ti4),(5,ti5),(6,ti6),(9,ti9),(22,Zxi),(24,Zwk),(25,Zxh),(26,Zvy),(27,Zwn),(29,Zwo),(30,ZwX),(32,Zww),(39,Zxo),(41,Zwq),(42,Zx6),(43,Zv4),(45,ZwF),(46,Zw6),(48,ZwJ),(56,Zsv),(58,Zwh),(60,Zwz),(64,ZwK),(66,Zws),(73,ZwL),(112,Zt6),(115,ZtC),(121,Zug),(124,ZtL),(126,ZtN),(148,Zuf),(150,Zo2),(166,ZsP),(167,Zv9),(169,Zt7),(175,Zpt),(178,Ztu),(185,Zts),(186,Zwa),(188,ZtD),(190,ZtH),(192,ZtQ),(202,ZtV),(206,Ztq),(218,Ztj),(233,Zv3),(235,ZtI),(255,ZtW),(257,ZvL),(259,Ztv),(263,ZtJ),(269,Zto),(296,ZtF),(300,Zt3)]
theorem YS:ZAq.ok Tryz.prog :=
 ZY (Zs3) <| ZY (ZsT) <| ZY (ZrV) <| ZY (ZsN) <| ZY (ZrU) <| ZY (ZsG) <| ZY (⟨Zfo.info,Zfo.kind,Zfo.flds,Zfo.elem,Zfo.eqd⟩) <| ZY (ZpX) <| ZY (⟨Ze5.info,Ze5.kind,Ze5.flds,Ze5.elem,Ze5.eqd⟩) <| ZY (ZiT) <| ZY (ZiW) <| ZY (Zp8) <| ZY (⟨Ze6.info,Ze6.kind,Ze6.flds,Ze6.elem,Ze6.eqd⟩) <| ZY (ZpH) <| ZY (⟨Ze4.info,Ze4.kind,Ze4.flds,Ze4.elem,Ze4.eqd⟩) <| ZY (ZpD) <| ZY (⟨Zfe.info,Zfe.kind,Zfe.flds,Zfe.elem,Zfe.eqd⟩) <| ZY (ZiC) <| ZY (ZpG) <| ZY (⟨Ze8.info,Ze8.kind,Ze8.flds,Ze8.elem,Ze8.eqd⟩) <| ZY (Zqa) <| ZY (Zpw) <| ZY (Zpr) <| ZY (ZpI) <| ZY (ZpW) <| ZY (Zp9) <| ZY (ZpN) <| ZY (Zf7) <| ZY (Zn5) <| ZY (Zf8) <| ZY (Zn3) <| ZY (ZnH) <| ZY (ZnC) <| ZY (ZnY) <| ZY (Zgm) <| ZY (⟨Zdr.info,Zdr.kind,Zdr.flds,Zdr.elem,Zdr.eqd⟩) <| ZY (Zoe) <| ZY (Zn2) <| ZY (ZnD) <| ZY (Zgg) <| ZY (⟨Zdz.info,Zdz.kind,Zdz.flds,Zdz.elem,Zdz.eqd⟩) <| ZY (Zoq) <| ZY (Zod) <| ZY (ZnX) <| ZY (Zos) <| ZY (Zot) <| ZY (Zn8) <| ZY (⟨ZdF.info,ZdF.kind,ZdF.flds,ZdF.elem,ZdF.eqd⟩) <| ZY (Zoa) <| ZY (Zn0) <| ZY (⟨ZdI.info,ZdI.kind,ZdI.flds,ZdI.elem,ZdI.eqd⟩) <| ZY (Zn7) <| ZY (Zn6) <| ZY (ZnK) <| ZY (ZnG) <| ZY (Zop) <| Zxt
def ZBw:Tab:=[(2,ti2),(3,ti3),(4,ti4),(5,ti5),(6,ti6),(9,ti9),(22,ZxH),(24,Zwk),(25,Zxk),(26,Zxz),(27,Zw8),(29,Zwo),(30,Zxv),(32,Zww),(39,Zyn),(41,Zwq),(42,Zyf),(43,Zxa),(45,ZwF),(46,Zx5),(48,ZwJ),(56,Zsv),(58,Zwh),(60,Zwz),(64,ZwK),(66,Zws),(73,ZwL),(112,ZvE),(115,ZtC),(121,Zvz),(124,ZtL),(126,ZtN),(148,Zuf),(150,Zo2),(166,Zv5),(167,Zv8),(169,Zt7),(175,Zpt),(178,Ztu),(185,Zv7),(186,ZvQ),(188,ZtD),(190,ZtH),(192,ZtQ),(202,ZtV),(206,Ztq),(218,Ztj),(233,Zv6),(235,ZtI),(255,ZtW),(257,ZvV),(259,Ztv),(263,ZtJ),(269,Zto),(296,ZtF),(300,Zt3)]
theorem ZsO:ZBw.ok Tryz.prog :=
 ZY (Zs3) <| ZY (ZsT) <| ZY (ZrV) <| ZY (ZsN) <| ZY (ZrU) <| ZY (ZsG) <| ZY (⟨Zfo.info,Zfo.kind,Zfo.flds,Zfo.elem,Zfo.eqd⟩) <| ZY (ZpX) <| ZY (⟨Ze5.info,Ze5.kind,Ze5.flds,Ze5.elem,Ze5.eqd⟩) <| ZY (⟨ZiT.info,ZiT.kind,ZiT.flds,ZiT.elem,ZiT.eqd⟩) <| ZY (⟨ZiW.info,ZiW.kind,ZiW.flds,ZiW.elem,ZiW.eqd⟩) <| ZY (Zp8) <| ZY (⟨Ze6.info,Ze6.kind,Ze6.flds,Ze6.elem,Ze6.eqd⟩) <| ZY (ZpH) <| ZY (⟨Ze4.info,Ze4.kind,Ze4.flds,Ze4.elem,Ze4.eqd⟩) <| ZY (ZpD) <| ZY (⟨Zfe.info,Zfe.kind,Zfe.flds,Zfe.elem,Zfe.eqd⟩) <| ZY (⟨ZiC.info,ZiC.kind,ZiC.flds,ZiC.elem,ZiC.eqd⟩) <| ZY (ZpG) <| ZY (⟨Ze8.info,Ze8.kind,Ze8.flds,Ze8.elem,Ze8.eqd⟩) <| ZY (Zqa) <| ZY (Zpw) <| ZY (Zpr) <| ZY (ZpI) <| ZY (ZpW) <| ZY (Zp9) <| ZY (ZpN) <| ZY (⟨Zf7.info,Zf7.kind,Zf7.flds,Zf7.elem,Zf7.eqd⟩) <| ZY (Zn5) <| ZY (⟨Zf8.info,Zf8.kind,Zf8.flds,Zf8.elem,Zf8.eqd⟩) <| ZY (Zn3) <| ZY (ZnH) <| ZY (ZnC) <| ZY (ZnY) <| ZY (⟨Zgm.info,Zgm.kind,Zgm.flds,Zgm.elem,Zgm.eqd⟩) <| ZY (⟨Zdr.info,Zdr.kind,Zdr.flds,Zdr.elem,Zdr.eqd⟩) <| ZY (Zoe) <| ZY (Zn2) <| ZY (ZnD) <| ZY (⟨Zgg.info,Zgg.kind,Zgg.flds,Zgg.elem,Zgg.eqd⟩) <| ZY (⟨Zdz.info,Zdz.kind,Zdz.flds,Zdz.elem,Zdz.eqd⟩) <| ZY (Zoq) <| ZY (Zod) <| ZY (ZnX) <| ZY (Zos) <| ZY (Zot) <| ZY (Zn8) <| ZY (⟨ZdF.info,ZdF.kind,ZdF.flds,ZdF.elem,ZdF.eqd⟩) <| ZY (Zoa) <| ZY (Zn0) <| ZY (⟨ZdI.info,ZdI.kind,ZdI.flds,ZdI.elem,ZdI.eqd⟩) <| ZY (Zn7) <| ZY (Zn6) <| ZY (ZnK) <| ZY (ZnG) <| ZY (Zop) <| Zxt
end Go.Proofs.YtehkanadahncgaaGreatDoor
