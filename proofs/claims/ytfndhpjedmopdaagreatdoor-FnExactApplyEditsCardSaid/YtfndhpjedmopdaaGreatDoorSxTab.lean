/-
  The table of types of this translation, as the executor wants it; each row held against the program. Printed by program (gentab.py).
-/
import Derived.Test.YtfndhpjedmopdaaGreatDoorSxTy
import Derived.Test.YtfndhpjedmopdaaGreatDoorProg
import Derived.KernelRfl
namespace Go.Proofs.YtfndhpjedmopdaaGreatDoor
open Go Go.Sx
set_option maxRecDepth 100000
def ti2:TI:={size:=1,bytes:=8,zero:=.int .i64 0,kind:=.int .i64}
theorem ZtF:QL Tryz.prog 2 ti2:=⟨by kernel_rfl,by kernel_rfl,by kernel_rfl,by kernel_rfl,by kernel_rfl⟩
def ti3:TI:={size:=1,bytes:=8,zero:=.int .i64 0,kind:=.int .i64}
theorem Ztc:QL Tryz.prog 3 ti3:=⟨by kernel_rfl,by kernel_rfl,by kernel_rfl,by kernel_rfl,by kernel_rfl⟩
def ti4:TI:={size:=1,bytes:=1,zero:=.bool false,kind:=.bool}
theorem ZtX:QL Tryz.prog 4 ti4:=⟨by kernel_rfl,by kernel_rfl,by kernel_rfl,by kernel_rfl,by kernel_rfl⟩
def ti5:TI:={size:=1,bytes:=1,zero:=.int .u8 0,kind:=.int .u8}
theorem Zsm:QL Tryz.prog 5 ti5:=⟨by kernel_rfl,by kernel_rfl,by kernel_rfl,by kernel_rfl,by kernel_rfl⟩
def ti6:TI:={size:=1,bytes:=1,zero:=.int .u8 0,kind:=.int .u8}
theorem Ztv:QL Tryz.prog 6 ti6:=⟨by kernel_rfl,by kernel_rfl,by kernel_rfl,by kernel_rfl,by kernel_rfl⟩
def ti9:TI:={size:=1,bytes:=16,zero:=.string ByteArray.empty,kind:=.str}
theorem ZsR:QL Tryz.prog 9 ti9:=⟨by kernel_rfl,by kernel_rfl,by kernel_rfl,by kernel_rfl,by kernel_rfl⟩
def ZxB:TI:={size:=1,bytes:=24,zero:=.slice none 0 0,kind:=.sl,elem:=194,esize:=7,ebytes:=112,ezero:=.agg #[.string ByteArray.empty,.int .i64 0,.slice none 0 0,.slice none 0 0,.slice none 0 0,.int .i64 0,.int .i64 0],eagg:=true,ety:=YL}
theorem Zfv:QL Tryz.prog 22 ZxB:=⟨by kernel_rfl,by kernel_rfl,by kernel_rfl,by kernel_rfl,by kernel_rfl⟩
def ZxA:TI:={size:=1,bytes:=24,zero:=.agg #[.slice none 0 0],kind:=.st,flds:=[(0,1,false)]}
theorem ZqK:QL Tryz.prog 24 ZxA:=⟨by kernel_rfl,by kernel_rfl,by kernel_rfl,by kernel_rfl,by kernel_rfl⟩
def Zxp:TI:={size:=1,bytes:=24,zero:=.slice none 0 0,kind:=.sl,elem:=196,esize:=3,ebytes:=48,ezero:=.agg #[.string ByteArray.empty,.int .i64 0,.slice none 0 0],eagg:=true,ety:=Zw}
theorem ZfL:QL Tryz.prog 25 Zxp:=⟨by kernel_rfl,by kernel_rfl,by kernel_rfl,by kernel_rfl,by kernel_rfl⟩
def ZwO:TI:={size:=1,bytes:=24,zero:=.slice none 0 0,kind:=.sl,elem:=9,esize:=1,ebytes:=16,ezero:=.string ByteArray.empty,eagg:=false,ety:=.str}
theorem Zjk:QL Tryz.prog 26 ZwO:=⟨by kernel_rfl,by kernel_rfl,by kernel_rfl,by kernel_rfl,by kernel_rfl⟩
def Zxw:TI:={size:=1,bytes:=24,zero:=.slice none 0 0,kind:=.sl,elem:=199,esize:=3,ebytes:=32,ezero:=.agg #[.string ByteArray.empty,.int .i64 0,.int .i64 0],eagg:=true,ety:=Xa}
theorem Zjf:QL Tryz.prog 27 Zxw:=⟨by kernel_rfl,by kernel_rfl,by kernel_rfl,by kernel_rfl,by kernel_rfl⟩
def Zw9:TI:={size:=3,bytes:=72,zero:=.agg #[.slice none 0 0,.slice none 0 0,.slice none 0 0],kind:=.st,flds:=[(0,1,false),(1,1,false),(2,1,false)]}
theorem Zqt:QL Tryz.prog 29 Zw9:=⟨by kernel_rfl,by kernel_rfl,by kernel_rfl,by kernel_rfl,by kernel_rfl⟩
def Zxm:TI:={size:=1,bytes:=24,zero:=.slice none 0 0,kind:=.sl,elem:=58,esize:=4,ebytes:=96,ezero:=.agg #[.slice none 0 0,.slice none 0 0,.slice none 0 0,.slice none 0 0],eagg:=true,ety:=YP}
theorem ZfC:QL Tryz.prog 30 Zxm:=⟨by kernel_rfl,by kernel_rfl,by kernel_rfl,by kernel_rfl,by kernel_rfl⟩
def Zw6:TI:={size:=5,bytes:=120,zero:=.agg #[.slice none 0 0,.slice none 0 0,.slice none 0 0,.slice none 0 0,.slice none 0 0],kind:=.st,flds:=[(0,1,true),(1,3,true),(4,1,false)]}
theorem Zqi:QL Tryz.prog 32 Zw6:=⟨by kernel_rfl,by kernel_rfl,by kernel_rfl,by kernel_rfl,by kernel_rfl⟩
def Zxr:TI:={size:=1,bytes:=24,zero:=.slice none 0 0,kind:=.sl,elem:=60,esize:=10,ebytes:=152,ezero:=.agg #[.int .i64 0,.int .i64 0,.int .i64 0,.int .i64 0,.int .i64 0,.string ByteArray.empty,.slice none 0 0,.slice none 0 0,.slice none 0 0,.slice none 0 0],eagg:=true,ety:=Y9}
theorem ZfH:QL Tryz.prog 33 Zxr:=⟨by kernel_rfl,by kernel_rfl,by kernel_rfl,by kernel_rfl,by kernel_rfl⟩
def Zxv:TI:={size:=1,bytes:=24,zero:=.slice none 0 0,kind:=.sl,elem:=207,esize:=7,ebytes:=112,ezero:=.agg #[.string ByteArray.empty,.int .i64 0,.slice none 0 0,.slice none 0 0,.slice none 0 0,.int .i64 0,.int .i64 0],eagg:=true,ety:=YL}
theorem Zft:QL Tryz.prog 36 Zxv:=⟨by kernel_rfl,by kernel_rfl,by kernel_rfl,by kernel_rfl,by kernel_rfl⟩
def Zxx:TI:={size:=1,bytes:=24,zero:=.agg #[.slice none 0 0],kind:=.st,flds:=[(0,1,false)]}
theorem ZqA:QL Tryz.prog 38 Zxx:=⟨by kernel_rfl,by kernel_rfl,by kernel_rfl,by kernel_rfl,by kernel_rfl⟩
def Zxh:TI:={size:=1,bytes:=24,zero:=.slice none 0 0,kind:=.sl,elem:=169,esize:=3,ebytes:=48,ezero:=.agg #[.string ByteArray.empty,.int .i64 0,.slice none 0 0],eagg:=true,ety:=Zw}
theorem ZfE:QL Tryz.prog 39 Zxh:=⟨by kernel_rfl,by kernel_rfl,by kernel_rfl,by kernel_rfl,by kernel_rfl⟩
def Zwu:TI:={size:=1,bytes:=24,zero:=.slice none 0 0,kind:=.sl,elem:=201,esize:=3,ebytes:=32,ezero:=.agg #[.string ByteArray.empty,.int .i64 0,.int .i64 0],eagg:=true,ety:=Xa}
theorem Zi9:QL Tryz.prog 40 Zwu:=⟨by kernel_rfl,by kernel_rfl,by kernel_rfl,by kernel_rfl,by kernel_rfl⟩
def Zxt:TI:={size:=3,bytes:=72,zero:=.agg #[.slice none 0 0,.slice none 0 0,.slice none 0 0],kind:=.st,flds:=[(0,1,false),(1,1,false),(2,1,false)]}
theorem ZqU:QL Tryz.prog 42 Zxt:=⟨by kernel_rfl,by kernel_rfl,by kernel_rfl,by kernel_rfl,by kernel_rfl⟩
def ZxF:TI:={size:=1,bytes:=24,zero:=.slice none 0 0,kind:=.sl,elem:=72,esize:=4,ebytes:=96,ezero:=.agg #[.slice none 0 0,.slice none 0 0,.slice none 0 0,.slice none 0 0],eagg:=true,ety:=YP}
theorem Zfp:QL Tryz.prog 43 ZxF:=⟨by kernel_rfl,by kernel_rfl,by kernel_rfl,by kernel_rfl,by kernel_rfl⟩
def ZxD:TI:={size:=5,bytes:=120,zero:=.agg #[.slice none 0 0,.slice none 0 0,.slice none 0 0,.slice none 0 0,.slice none 0 0],kind:=.st,flds:=[(0,1,true),(1,3,true),(4,1,false)]}
theorem ZqS:QL Tryz.prog 45 ZxD:=⟨by kernel_rfl,by kernel_rfl,by kernel_rfl,by kernel_rfl,by kernel_rfl⟩
def Zxc:TI:={size:=1,bytes:=24,zero:=.slice none 0 0,kind:=.sl,elem:=74,esize:=10,ebytes:=152,ezero:=.agg #[.int .i64 0,.int .i64 0,.int .i64 0,.int .i64 0,.int .i64 0,.string ByteArray.empty,.slice none 0 0,.slice none 0 0,.slice none 0 0,.slice none 0 0],eagg:=true,ety:=Y9}
theorem ZfI:QL Tryz.prog 49 Zxc:=⟨by kernel_rfl,by kernel_rfl,by kernel_rfl,by kernel_rfl,by kernel_rfl⟩
def Ztr:TI:={size:=1,bytes:=24,zero:=.slice none 0 0,kind:=.sl,elem:=2,esize:=1,ebytes:=8,ezero:=.int .i64 0,eagg:=false,ety:=.int .i64}
theorem ZqC:QL Tryz.prog 56 Ztr:=⟨by kernel_rfl,by kernel_rfl,by kernel_rfl,by kernel_rfl,by kernel_rfl⟩
def Zxg:TI:={size:=4,bytes:=96,zero:=.agg #[.slice none 0 0,.slice none 0 0,.slice none 0 0,.slice none 0 0],kind:=.st,flds:=[(0,1,false),(1,1,false),(2,1,false),(3,1,false)]}
theorem Zqm:QL Tryz.prog 58 Zxg:=⟨by kernel_rfl,by kernel_rfl,by kernel_rfl,by kernel_rfl,by kernel_rfl⟩
def Zxb:TI:={size:=10,bytes:=152,zero:=.agg #[.int .i64 0,.int .i64 0,.int .i64 0,.int .i64 0,.int .i64 0,.string ByteArray.empty,.slice none 0 0,.slice none 0 0,.slice none 0 0,.slice none 0 0],kind:=.st,flds:=[(0,1,false),(1,1,false),(2,1,false),(3,1,false),(4,1,false),(5,1,false),(6,4,true)]}
theorem ZqY:QL Tryz.prog 60 Zxb:=⟨by kernel_rfl,by kernel_rfl,by kernel_rfl,by kernel_rfl,by kernel_rfl⟩
def ZxI:TI:={size:=4,bytes:=96,zero:=.agg #[.slice none 0 0,.slice none 0 0,.slice none 0 0,.slice none 0 0],kind:=.st,flds:=[(0,1,false),(1,1,false),(2,1,false),(3,1,false)]}
theorem ZqN:QL Tryz.prog 72 ZxI:=⟨by kernel_rfl,by kernel_rfl,by kernel_rfl,by kernel_rfl,by kernel_rfl⟩
def Zxs:TI:={size:=10,bytes:=152,zero:=.agg #[.int .i64 0,.int .i64 0,.int .i64 0,.int .i64 0,.int .i64 0,.string ByteArray.empty,.slice none 0 0,.slice none 0 0,.slice none 0 0,.slice none 0 0],kind:=.st,flds:=[(0,1,false),(1,1,false),(2,1,false),(3,1,false),(4,1,false),(5,1,false),(6,4,true)]}
theorem Zq1:QL Tryz.prog 74 Zxs:=⟨by kernel_rfl,by kernel_rfl,by kernel_rfl,by kernel_rfl,by kernel_rfl⟩
def Zt9:TI:={size:=1,bytes:=24,zero:=.slice none 0 0,kind:=.sl,elem:=5,esize:=1,ebytes:=1,ezero:=.int .u8 0,eagg:=false,ety:=.int .u8}
theorem Zop:QL Tryz.prog 152 Zt9:=⟨by kernel_rfl,by kernel_rfl,by kernel_rfl,by kernel_rfl,by kernel_rfl⟩
def Zuj:TI:={size:=2,bytes:=16,zero:=.agg #[.int .i64 0,.int .i64 0],kind:=.st,flds:=[(0,1,false),(1,1,false)],eqd:=.int .i64 0 (.int .i64 1 (.nil))}
theorem Zo0:QL Tryz.prog 158 Zuj:=⟨by kernel_rfl,by kernel_rfl,by kernel_rfl,by kernel_rfl,by kernel_rfl⟩
def Zu1:TI:={size:=1,bytes:=24,zero:=.slice none 0 0,kind:=.sl,elem:=173,esize:=4,ebytes:=32,ezero:=.agg #[.int .i64 0,.int .i64 0,.int .i64 0,.bool false],eagg:=true,ety:=Zhx}
theorem ZgP:QL Tryz.prog 162 Zu1:=⟨by kernel_rfl,by kernel_rfl,by kernel_rfl,by kernel_rfl,by kernel_rfl⟩
def Zt5:TI:={size:=3,bytes:=48,zero:=.agg #[.string ByteArray.empty,.int .i64 0,.slice none 0 0],kind:=.st,flds:=[(0,1,false),(1,1,false),(2,1,false)]}
theorem Zpp:QL Tryz.prog 169 Zt5:=⟨by kernel_rfl,by kernel_rfl,by kernel_rfl,by kernel_rfl,by kernel_rfl⟩
def ZuE:TI:={size:=4,bytes:=32,zero:=.agg #[.int .i64 0,.int .i64 0,.int .i64 0,.bool false],kind:=.st,flds:=[(0,1,false),(1,1,false),(2,1,false),(3,1,false)],eqd:=.int .i64 0 (.int .i64 1 (.int .i64 2 (.bool 3 (.nil))))}
theorem Zoq:QL Tryz.prog 173 ZuE:=⟨by kernel_rfl,by kernel_rfl,by kernel_rfl,by kernel_rfl,by kernel_rfl⟩
def ZuC:TI:={size:=1,bytes:=24,zero:=.slice none 0 0,kind:=.sl,elem:=189,esize:=4,ebytes:=32,ezero:=.agg #[.int .i64 0,.int .i64 0,.int .i64 0,.bool false],eagg:=true,ety:=Zfw}
theorem ZgF:QL Tryz.prog 185 ZuC:=⟨by kernel_rfl,by kernel_rfl,by kernel_rfl,by kernel_rfl,by kernel_rfl⟩
def ZuO:TI:={size:=4,bytes:=32,zero:=.agg #[.int .i64 0,.int .i64 0,.int .i64 0,.bool false],kind:=.st,flds:=[(0,1,false),(1,1,false),(2,1,false),(3,1,false)],eqd:=.int .i64 0 (.int .i64 1 (.int .i64 2 (.bool 3 (.nil))))}
theorem Zo2:QL Tryz.prog 189 ZuO:=⟨by kernel_rfl,by kernel_rfl,by kernel_rfl,by kernel_rfl,by kernel_rfl⟩
def ZuU:TI:={size:=1,bytes:=24,zero:=.slice none 0 0,kind:=.sl,elem:=280,esize:=4,ebytes:=40,ezero:=.agg #[.string ByteArray.empty,.int .i64 0,.int .i64 0,.bool false],eagg:=true,ety:=Je}
theorem ZgL:QL Tryz.prog 191 ZuU:=⟨by kernel_rfl,by kernel_rfl,by kernel_rfl,by kernel_rfl,by kernel_rfl⟩
def ZuM:TI:={size:=1,bytes:=24,zero:=.slice none 0 0,kind:=.sl,elem:=284,esize:=6,ebytes:=80,ezero:=.agg #[.int .i64 0,.int .i64 0,.int .i64 0,.int .i64 0,.slice none 0 0,.slice none 0 0],eagg:=true,ety:=ZaK}
theorem Zd2:QL Tryz.prog 192 ZuM:=⟨by kernel_rfl,by kernel_rfl,by kernel_rfl,by kernel_rfl,by kernel_rfl⟩
def Zt8:TI:={size:=7,bytes:=112,zero:=.agg #[.string ByteArray.empty,.int .i64 0,.slice none 0 0,.slice none 0 0,.slice none 0 0,.int .i64 0,.int .i64 0],kind:=.st,flds:=[(0,1,false),(1,1,false),(2,1,false),(3,1,false),(4,1,false),(5,1,false),(6,1,false)]}
theorem Zos:QL Tryz.prog 194 Zt8:=⟨by kernel_rfl,by kernel_rfl,by kernel_rfl,by kernel_rfl,by kernel_rfl⟩
def ZuY:TI:={size:=3,bytes:=48,zero:=.agg #[.string ByteArray.empty,.int .i64 0,.slice none 0 0],kind:=.st,flds:=[(0,1,false),(1,1,false),(2,1,false)]}
theorem Zov:QL Tryz.prog 196 ZuY:=⟨by kernel_rfl,by kernel_rfl,by kernel_rfl,by kernel_rfl,by kernel_rfl⟩
def Zu3:TI:={size:=3,bytes:=32,zero:=.agg #[.string ByteArray.empty,.int .i64 0,.int .i64 0],kind:=.st,flds:=[(0,1,false),(1,1,false),(2,1,false)],eqd:=.str 0 (.int .i64 1 (.int .i64 2 (.nil)))}
theorem Zpj:QL Tryz.prog 199 Zu3:=⟨by kernel_rfl,by kernel_rfl,by kernel_rfl,by kernel_rfl,by kernel_rfl⟩
def Zvi:TI:={size:=3,bytes:=32,zero:=.agg #[.string ByteArray.empty,.int .i64 0,.int .i64 0],kind:=.st,flds:=[(0,1,false),(1,1,false),(2,1,false)],eqd:=.str 0 (.int .i64 1 (.int .i64 2 (.nil)))}
theorem Zo6:QL Tryz.prog 201 Zvi:=⟨by kernel_rfl,by kernel_rfl,by kernel_rfl,by kernel_rfl,by kernel_rfl⟩
def Zs2:TI:={size:=1,bytes:=24,zero:=.slice none 0 0,kind:=.sl,elem:=260,esize:=4,ebytes:=40,ezero:=.agg #[.string ByteArray.empty,.int .i64 0,.int .i64 0,.bool false],eagg:=true,ety:=Je}
theorem ZgO:QL Tryz.prog 204 Zs2:=⟨by kernel_rfl,by kernel_rfl,by kernel_rfl,by kernel_rfl,by kernel_rfl⟩
def Zvb:TI:={size:=1,bytes:=24,zero:=.slice none 0 0,kind:=.sl,elem:=235,esize:=6,ebytes:=80,ezero:=.agg #[.int .i64 0,.int .i64 0,.int .i64 0,.int .i64 0,.slice none 0 0,.slice none 0 0],eagg:=true,ety:=ZaK}
theorem ZdW:QL Tryz.prog 205 Zvb:=⟨by kernel_rfl,by kernel_rfl,by kernel_rfl,by kernel_rfl,by kernel_rfl⟩
def Zuw:TI:={size:=7,bytes:=112,zero:=.agg #[.string ByteArray.empty,.int .i64 0,.slice none 0 0,.slice none 0 0,.slice none 0 0,.int .i64 0,.int .i64 0],kind:=.st,flds:=[(0,1,false),(1,1,false),(2,1,false),(3,1,false),(4,1,false),(5,1,false),(6,1,false)]}
theorem ZoH:QL Tryz.prog 207 Zuw:=⟨by kernel_rfl,by kernel_rfl,by kernel_rfl,by kernel_rfl,by kernel_rfl⟩
def ZuZ:TI:={size:=2,bytes:=16,zero:=.agg #[.int .i64 0,.int .i64 0],kind:=.st,flds:=[(0,1,false),(1,1,false)],eqd:=.int .i64 0 (.int .i64 1 (.nil))}
theorem Zpf:QL Tryz.prog 217 ZuZ:=⟨by kernel_rfl,by kernel_rfl,by kernel_rfl,by kernel_rfl,by kernel_rfl⟩
def ZpH:TI:={size:=1,bytes:=8,zero:=.map none,kind:=.mp 217 2,ty:=ZbZ,ety:=.int .i64}
theorem Zo5:QL Tryz.prog 220 ZpH:=⟨by kernel_rfl,by kernel_rfl,by kernel_rfl,by kernel_rfl,by kernel_rfl⟩
def ZuJ:TI:={size:=1,bytes:=24,zero:=.slice none 0 0,kind:=.sl,elem:=290,esize:=3,ebytes:=72,ezero:=.agg #[.slice none 0 0,.slice none 0 0,.slice none 0 0],eagg:=true,ety:=Yh}
theorem Zd8:QL Tryz.prog 233 ZuJ:=⟨by kernel_rfl,by kernel_rfl,by kernel_rfl,by kernel_rfl,by kernel_rfl⟩
def Zt3:TI:={size:=6,bytes:=80,zero:=.agg #[.int .i64 0,.int .i64 0,.int .i64 0,.int .i64 0,.slice none 0 0,.slice none 0 0],kind:=.st,flds:=[(0,1,false),(1,1,false),(2,1,false),(3,1,false),(4,1,false),(5,1,false)]}
theorem ZoP:QL Tryz.prog 235 Zt3:=⟨by kernel_rfl,by kernel_rfl,by kernel_rfl,by kernel_rfl,by kernel_rfl⟩
def Zqd:TI:={size:=1,bytes:=24,zero:=.slice none 0 0,kind:=.sl,elem:=3,esize:=1,ebytes:=8,ezero:=.int .i64 0,eagg:=false,ety:=.int .i64}
theorem ZoX:QL Tryz.prog 253 Zqd:=⟨by kernel_rfl,by kernel_rfl,by kernel_rfl,by kernel_rfl,by kernel_rfl⟩
def Zue:TI:={size:=4,bytes:=40,zero:=.agg #[.string ByteArray.empty,.int .i64 0,.int .i64 0,.bool false],kind:=.st,flds:=[(0,1,false),(1,1,false),(2,1,false),(3,1,false)],eqd:=.str 0 (.int .i64 1 (.int .i64 2 (.bool 3 (.nil))))}
theorem Zo4:QL Tryz.prog 260 Zue:=⟨by kernel_rfl,by kernel_rfl,by kernel_rfl,by kernel_rfl,by kernel_rfl⟩
def Zum:TI:={size:=1,bytes:=8,zero:=.pointer none,kind:=.ptr}
theorem Zom:QL Tryz.prog 267 Zum:=⟨by kernel_rfl,by kernel_rfl,by kernel_rfl,by kernel_rfl,by kernel_rfl⟩
def Zui:TI:={size:=1,bytes:=8,zero:=.pointer none,kind:=.ptr}
theorem ZoN:QL Tryz.prog 270 Zui:=⟨by kernel_rfl,by kernel_rfl,by kernel_rfl,by kernel_rfl,by kernel_rfl⟩
def Zvj:TI:={size:=1,bytes:=8,zero:=.int .u64 0,kind:=.int .u64}
theorem Zor:QL Tryz.prog 278 Zvj:=⟨by kernel_rfl,by kernel_rfl,by kernel_rfl,by kernel_rfl,by kernel_rfl⟩
def Zur:TI:={size:=4,bytes:=40,zero:=.agg #[.string ByteArray.empty,.int .i64 0,.int .i64 0,.bool false],kind:=.st,flds:=[(0,1,false),(1,1,false),(2,1,false),(3,1,false)],eqd:=.str 0 (.int .i64 1 (.int .i64 2 (.bool 3 (.nil))))}
theorem Zoo:QL Tryz.prog 280 Zur:=⟨by kernel_rfl,by kernel_rfl,by kernel_rfl,by kernel_rfl,by kernel_rfl⟩
def Zub:TI:={size:=1,bytes:=24,zero:=.slice none 0 0,kind:=.sl,elem:=337,esize:=3,ebytes:=72,ezero:=.agg #[.slice none 0 0,.slice none 0 0,.slice none 0 0],eagg:=true,ety:=Yh}
theorem Zd7:QL Tryz.prog 282 Zub:=⟨by kernel_rfl,by kernel_rfl,by kernel_rfl,by kernel_rfl,by kernel_rfl⟩
def Zvf:TI:={size:=6,bytes:=80,zero:=.agg #[.int .i64 0,.int .i64 0,.int .i64 0,.int .i64 0,.slice none 0 0,.slice none 0 0],kind:=.st,flds:=[(0,1,false),(1,1,false),(2,1,false),(3,1,false),(4,1,false),(5,1,false)]}
theorem Zou:QL Tryz.prog 284 Zvf:=⟨by kernel_rfl,by kernel_rfl,by kernel_rfl,by kernel_rfl,by kernel_rfl⟩
def Zu9:TI:={size:=3,bytes:=72,zero:=.agg #[.slice none 0 0,.slice none 0 0,.slice none 0 0],kind:=.st,flds:=[(0,1,false),(1,1,false),(2,1,false)]}
theorem ZoE:QL Tryz.prog 290 Zu9:=⟨by kernel_rfl,by kernel_rfl,by kernel_rfl,by kernel_rfl,by kernel_rfl⟩
def Zt0:TI:={size:=3,bytes:=72,zero:=.agg #[.slice none 0 0,.slice none 0 0,.slice none 0 0],kind:=.st,flds:=[(0,1,false),(1,1,false),(2,1,false)]}
theorem Zpo:QL Tryz.prog 337 Zt0:=⟨by kernel_rfl,by kernel_rfl,by kernel_rfl,by kernel_rfl,by kernel_rfl⟩
theorem ZyV {P:Program}:Tab.ok [] P:=fun x hx=>by cases hx
theorem ZY {P:Program} {t:Nat} {ti:TI} {r:Tab} (h:QL P t ti) (hr:Tab.ok r P):Tab.ok ((t,ti)::r) P:=fun x hx=>by
 rcases List.mem_cons.1 hx with rfl | hx
 ·exact h
 ·exact hr x hx
def tab:Tab:=[(2,ti2),(3,ti3),(4,ti4),(5,ti5),(6,ti6),(9,ti9),(22,ZxB),(24,ZxA),(25,Zxp),(26,ZwO),(27,Zxw),(29,Zw9),(30,Zxm),(32,Zw6),(33,Zxr),(36,Zxv),(38,Zxx),(39,Zxh),(40,Zwu),(42,Zxt),(43,ZxF),(45,ZxD),(49,Zxc),(56,Ztr),(58,Zxg),(60,Zxb),(72,ZxI),(74,Zxs),(152,Zt9),(158,Zuj),(162,Zu1),(169,Zt5),(173,ZuE),(185,ZuC),(189,ZuO),(191,ZuU),(192,ZuM),(194,Zt8),(196,ZuY),(199,Zu3),(201,Zvi),(204,Zs2),(205,Zvb),(207,Zuw),(217,ZuZ),(220,ZpH),(233,ZuJ),(235,Zt3),(253,Zqd),(260,Zue),(267,Zum),(270,Zui),(278,Zvj),(280,Zur),(282,Zub),(284,Zvf),(290,Zu9),(337,Zt0)]
theorem Zq:tab.ok Tryz.prog :=
 ZY (ZtF) <| ZY (Ztc) <| ZY (ZtX) <| ZY (Zsm) <| ZY (Ztv) <| ZY (ZsR) <| ZY (Zfv) <| ZY (ZqK) <| ZY (ZfL) <| ZY (Zjk) <| ZY (Zjf) <| ZY (Zqt) <| ZY (ZfC) <| ZY (Zqi) <| ZY (ZfH) <| ZY (Zft) <| ZY (ZqA) <| ZY (ZfE) <| ZY (Zi9) <| ZY (ZqU) <| ZY (Zfp) <| ZY (ZqS) <| ZY (ZfI) <| ZY (ZqC) <| ZY (Zqm) <| ZY (ZqY) <| ZY (ZqN) <| ZY (Zq1) <| ZY (Zop) <| ZY (Zo0) <| ZY (ZgP) <| ZY (Zpp) <| ZY (Zoq) <| ZY (ZgF) <| ZY (Zo2) <| ZY (ZgL) <| ZY (Zd2) <| ZY (Zos) <| ZY (Zov) <| ZY (Zpj) <| ZY (Zo6) <| ZY (ZgO) <| ZY (ZdW) <| ZY (ZoH) <| ZY (Zpf) <| ZY (Zo5) <| ZY (Zd8) <| ZY (ZoP) <| ZY (ZoX) <| ZY (Zo4) <| ZY (Zom) <| ZY (ZoN) <| ZY (Zor) <| ZY (Zoo) <| ZY (Zd7) <| ZY (Zou) <| ZY (ZoE) <| ZY (Zpo) <| ZyV
def ZyS:TI:={ZxB with edp:=some (Zka)}
def ZyW:TI:={Zxp with edp:=some (ZaY)}
def Zx3:TI:={Zxm with edp:=some (Zg0)}
def Zy4:TI:={Zxr with edp:=some (Zld)}
def Zzc:TI:={Zxv with edp:=some (Zka)}
def ZyM:TI:={Zxh with edp:=some (ZaY)}
def ZyZ:TI:={ZxF with edp:=some (Zg0)}
def ZyE:TI:={Zxc with edp:=some (Zld)}
def ZwM:TI:={ZuM with edp:=some (Zrh)}
def ZwW:TI:={Zvb with edp:=some (Zrh)}
def Zw1:TI:={ZuJ with edp:=some (ZeY)}
def Zwr:TI:={Zub with edp:=some (ZeY)}
def Zyi:TI:={ZxB with cut:=true,edp:=some (Zka)}
def Zzz:TI:={Zxp with cut:=true,edp:=some (ZaY)}
def ZyR:TI:={ZwO with cut:=true}
def Zyj:TI:={Zxw with cut:=true}
def ZyY:TI:={Zxm with cut:=true,edp:=some (Zg0)}
def ZxO:TI:={Zxr with cut:=true,edp:=some (Zld)}
def Zyd:TI:={Zxv with cut:=true,edp:=some (Zka)}
def Zzu:TI:={Zxh with cut:=true,edp:=some (ZaY)}
def Zzl:TI:={Zwu with cut:=true}
def Zzk:TI:={ZxF with cut:=true,edp:=some (Zg0)}
def Zy7:TI:={Zxc with cut:=true,edp:=some (Zld)}
def ZwF:TI:={Zu1 with cut:=true}
def ZwD:TI:={ZuC with cut:=true}
def Zwt:TI:={ZuU with cut:=true}
def Zw0:TI:={ZuM with cut:=true,edp:=some (Zrh)}
def Zwx:TI:={Zs2 with cut:=true}
def ZwZ:TI:={Zvb with cut:=true,edp:=some (Zrh)}
def Zw5:TI:={ZuJ with cut:=true,edp:=some (ZeY)}
def ZwN:TI:={Zub with cut:=true,edp:=some (ZeY)}
def ZAB:Tab:=[(2,ti2),(3,ti3),(4,ti4),(5,ti5),(6,ti6),(9,ti9),(22,ZyS),(24,ZxA),(25,ZyW),(26,ZwO),(27,Zxw),(29,Zw9),(30,Zx3),(32,Zw6),(33,Zy4),(36,Zzc),(38,Zxx),(39,ZyM),(40,Zwu),(42,Zxt),(43,ZyZ),(45,ZxD),(49,ZyE),(56,Ztr),(58,Zxg),(60,Zxb),(72,ZxI),(74,Zxs),(152,Zt9),(158,Zuj),(162,Zu1),(169,Zt5),(173,ZuE),(185,ZuC),(189,ZuO),(191,ZuU),(192,ZwM),(194,Zt8),(196,ZuY),(199,Zu3),(201,Zvi),(204,Zs2),(205,ZwW),(207,Zuw),(217,ZuZ),(220,ZpH),(233,Zw1),(235,Zt3),(253,Zqd),(260,Zue),(267,Zum),(270,Zui),(278,Zvj),(280,Zur),(282,Zwr),(284,Zvf),(290,Zu9),(337,Zt0)]
theorem YQ:ZAB.ok Tryz.prog :=
 ZY (ZtF) <| ZY (Ztc) <| ZY (ZtX) <| ZY (Zsm) <| ZY (Ztv) <| ZY (ZsR) <| ZY (⟨Zfv.info,Zfv.kind,Zfv.flds,Zfv.elem,Zfv.eqd⟩) <| ZY (ZqK) <| ZY (⟨ZfL.info,ZfL.kind,ZfL.flds,ZfL.elem,ZfL.eqd⟩) <| ZY (Zjk) <| ZY (Zjf) <| ZY (Zqt) <| ZY (⟨ZfC.info,ZfC.kind,ZfC.flds,ZfC.elem,ZfC.eqd⟩) <| ZY (Zqi) <| ZY (⟨ZfH.info,ZfH.kind,ZfH.flds,ZfH.elem,ZfH.eqd⟩) <| ZY (⟨Zft.info,Zft.kind,Zft.flds,Zft.elem,Zft.eqd⟩) <| ZY (ZqA) <| ZY (⟨ZfE.info,ZfE.kind,ZfE.flds,ZfE.elem,ZfE.eqd⟩) <| ZY (Zi9) <| ZY (ZqU) <| ZY (⟨Zfp.info,Zfp.kind,Zfp.flds,Zfp.elem,Zfp.eqd⟩) <| ZY (ZqS) <| ZY (⟨ZfI.info,ZfI.kind,ZfI.flds,ZfI.elem,ZfI.eqd⟩) <| ZY (ZqC) <| ZY (Zqm) <| ZY (ZqY) <| ZY (ZqN) <| ZY (Zq1) <| ZY (Zop) <| ZY (Zo0) <| ZY (ZgP) <| ZY (Zpp) <| ZY (Zoq) <| ZY (ZgF) <| ZY (Zo2) <| ZY (ZgL) <| ZY (⟨Zd2.info,Zd2.kind,Zd2.flds,Zd2.elem,Zd2.eqd⟩) <| ZY (Zos) <| ZY (Zov) <| ZY (Zpj) <| ZY (Zo6) <| ZY (ZgO) <| ZY (⟨ZdW.info,ZdW.kind,ZdW.flds,ZdW.elem,ZdW.eqd⟩) <| ZY (ZoH) <| ZY (Zpf) <| ZY (Zo5) <| ZY (⟨Zd8.info,Zd8.kind,Zd8.flds,Zd8.elem,Zd8.eqd⟩) <| ZY (ZoP) <| ZY (ZoX) <| ZY (Zo4) <| ZY (Zom) <| ZY (ZoN) <| ZY (Zor) <| ZY (Zoo) <| ZY (⟨Zd7.info,Zd7.kind,Zd7.flds,Zd7.elem,Zd7.eqd⟩) <| ZY (Zou) <| ZY (ZoE) <| ZY (Zpo) <| ZyV
def ZCK:Tab:=[(2,ti2),(3,ti3),(4,ti4),(5,ti5),(6,ti6),(9,ti9),(22,Zyi),(24,ZxA),(25,Zzz),(26,ZyR),(27,Zyj),(29,Zw9),(30,ZyY),(32,Zw6),(33,ZxO),(36,Zyd),(38,Zxx),(39,Zzu),(40,Zzl),(42,Zxt),(43,Zzk),(45,ZxD),(49,Zy7),(56,Ztr),(58,Zxg),(60,Zxb),(72,ZxI),(74,Zxs),(152,Zt9),(158,Zuj),(162,ZwF),(169,Zt5),(173,ZuE),(185,ZwD),(189,ZuO),(191,Zwt),(192,Zw0),(194,Zt8),(196,ZuY),(199,Zu3),(201,Zvi),(204,Zwx),(205,ZwZ),(207,Zuw),(217,ZuZ),(220,ZpH),(233,Zw5),(235,Zt3),(253,Zqd),(260,Zue),(267,Zum),(270,Zui),(278,Zvj),(280,Zur),(282,ZwN),(284,Zvf),(290,Zu9),(337,Zt0)]
theorem Ztj:ZCK.ok Tryz.prog :=
 ZY (ZtF) <| ZY (Ztc) <| ZY (ZtX) <| ZY (Zsm) <| ZY (Ztv) <| ZY (ZsR) <| ZY (⟨Zfv.info,Zfv.kind,Zfv.flds,Zfv.elem,Zfv.eqd⟩) <| ZY (ZqK) <| ZY (⟨ZfL.info,ZfL.kind,ZfL.flds,ZfL.elem,ZfL.eqd⟩) <| ZY (⟨Zjk.info,Zjk.kind,Zjk.flds,Zjk.elem,Zjk.eqd⟩) <| ZY (⟨Zjf.info,Zjf.kind,Zjf.flds,Zjf.elem,Zjf.eqd⟩) <| ZY (Zqt) <| ZY (⟨ZfC.info,ZfC.kind,ZfC.flds,ZfC.elem,ZfC.eqd⟩) <| ZY (Zqi) <| ZY (⟨ZfH.info,ZfH.kind,ZfH.flds,ZfH.elem,ZfH.eqd⟩) <| ZY (⟨Zft.info,Zft.kind,Zft.flds,Zft.elem,Zft.eqd⟩) <| ZY (ZqA) <| ZY (⟨ZfE.info,ZfE.kind,ZfE.flds,ZfE.elem,ZfE.eqd⟩) <| ZY (⟨Zi9.info,Zi9.kind,Zi9.flds,Zi9.elem,Zi9.eqd⟩) <| ZY (ZqU) <| ZY (⟨Zfp.info,Zfp.kind,Zfp.flds,Zfp.elem,Zfp.eqd⟩) <| ZY (ZqS) <| ZY (⟨ZfI.info,ZfI.kind,ZfI.flds,ZfI.elem,ZfI.eqd⟩) <| ZY (ZqC) <| ZY (Zqm) <| ZY (ZqY) <| ZY (ZqN) <| ZY (Zq1) <| ZY (Zop) <| ZY (Zo0) <| ZY (⟨ZgP.info,ZgP.kind,ZgP.flds,ZgP.elem,ZgP.eqd⟩) <| ZY (Zpp) <| ZY (Zoq) <| ZY (⟨ZgF.info,ZgF.kind,ZgF.flds,ZgF.elem,ZgF.eqd⟩) <| ZY (Zo2) <| ZY (⟨ZgL.info,ZgL.kind,ZgL.flds,ZgL.elem,ZgL.eqd⟩) <| ZY (⟨Zd2.info,Zd2.kind,Zd2.flds,Zd2.elem,Zd2.eqd⟩) <| ZY (Zos) <| ZY (Zov) <| ZY (Zpj) <| ZY (Zo6) <| ZY (⟨ZgO.info,ZgO.kind,ZgO.flds,ZgO.elem,ZgO.eqd⟩) <| ZY (⟨ZdW.info,ZdW.kind,ZdW.flds,ZdW.elem,ZdW.eqd⟩) <| ZY (ZoH) <| ZY (Zpf) <| ZY (Zo5) <| ZY (⟨Zd8.info,Zd8.kind,Zd8.flds,Zd8.elem,Zd8.eqd⟩) <| ZY (ZoP) <| ZY (ZoX) <| ZY (Zo4) <| ZY (Zom) <| ZY (ZoN) <| ZY (Zor) <| ZY (Zoo) <| ZY (⟨Zd7.info,Zd7.kind,Zd7.flds,Zd7.elem,Zd7.eqd⟩) <| ZY (Zou) <| ZY (ZoE) <| ZY (Zpo) <| ZyV
end Go.Proofs.YtfndhpjedmopdaaGreatDoor
