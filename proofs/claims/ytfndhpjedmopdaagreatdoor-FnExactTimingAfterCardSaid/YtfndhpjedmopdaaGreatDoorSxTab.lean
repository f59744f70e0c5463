/-
  The table of types of this translation, as the executor wants it; each row held against the program. Printed by program (gentab.py).
-/
import Derived.Test.YtfndhpjedmopdaaGreatDoorSxTy
import Derived.Test.YtfndhpjedmopdaaGreatDoorProg
import Derived.KernelRfl
namespace Go.Proofs.YtfndhpjedmopdaaGreatDoor
open Go Go.Sx
set_option maxRecDepth 100000
def ti2:TI:={size:=1,bytes:=8,zero:=.int .i64 0,kind:=.int .i64}
theorem ZuG:XU Tryz.prog 2 ti2:=⟨by kernel_rfl,by kernel_rfl,by kernel_rfl,by kernel_rfl,by kernel_rfl⟩
def ti3:TI:={size:=1,bytes:=8,zero:=.int .i64 0,kind:=.int .i64}
theorem Zvh:XU Tryz.prog 3 ti3:=⟨by kernel_rfl,by kernel_rfl,by kernel_rfl,by kernel_rfl,by kernel_rfl⟩
def ti4:TI:={size:=1,bytes:=1,zero:=.bool false,kind:=.bool}
theorem Zt0:XU Tryz.prog 4 ti4:=⟨by kernel_rfl,by kernel_rfl,by kernel_rfl,by kernel_rfl,by kernel_rfl⟩
def ti5:TI:={size:=1,bytes:=1,zero:=.int .u8 0,kind:=.int .u8}
theorem Zvk:XU Tryz.prog 5 ti5:=⟨by kernel_rfl,by kernel_rfl,by kernel_rfl,by kernel_rfl,by kernel_rfl⟩
def ti6:TI:={size:=1,bytes:=1,zero:=.int .u8 0,kind:=.int .u8}
theorem Zt8:XU Tryz.prog 6 ti6:=⟨by kernel_rfl,by kernel_rfl,by kernel_rfl,by kernel_rfl,by kernel_rfl⟩
def ti9:TI:={size:=1,bytes:=16,zero:=.string ByteArray.empty,kind:=.str}
theorem Zup:XU Tryz.prog 9 ti9:=⟨by kernel_rfl,by kernel_rfl,by kernel_rfl,by kernel_rfl,by kernel_rfl⟩
def Zzg:TI:={size:=1,bytes:=24,zero:=.slice none 0 0,kind:=.sl,elem:=194,esize:=7,ebytes:=112,ezero:=.agg #[.string ByteArray.empty,.int .i64 0,.slice none 0 0,.slice none 0 0,.slice none 0 0,.int .i64 0,.int .i64 0],eagg:=true,ety:=X3}
theorem ZfS:XU Tryz.prog 22 Zzg:=⟨by kernel_rfl,by kernel_rfl,by kernel_rfl,by kernel_rfl,by kernel_rfl⟩
def Zze:TI:={size:=1,bytes:=24,zero:=.agg #[.slice none 0 0],kind:=.st,flds:=[(0,1,false)]}
theorem ZrP:XU Tryz.prog 24 Zze:=⟨by kernel_rfl,by kernel_rfl,by kernel_rfl,by kernel_rfl,by kernel_rfl⟩
def Zzl:TI:={size:=1,bytes:=24,zero:=.slice none 0 0,kind:=.sl,elem:=196,esize:=3,ebytes:=48,ezero:=.agg #[.string ByteArray.empty,.int .i64 0,.slice none 0 0],eagg:=true,ety:=Z0}
theorem ZfN:XU Tryz.prog 25 Zzl:=⟨by kernel_rfl,by kernel_rfl,by kernel_rfl,by kernel_rfl,by kernel_rfl⟩
def ZyA:TI:={size:=1,bytes:=24,zero:=.slice none 0 0,kind:=.sl,elem:=9,esize:=1,ebytes:=16,ezero:=.string ByteArray.empty,eagg:=false,ety:=.str}
theorem ZjO:XU Tryz.prog 26 ZyA:=⟨by kernel_rfl,by kernel_rfl,by kernel_rfl,by kernel_rfl,by kernel_rfl⟩
def Zzk:TI:={size:=1,bytes:=24,zero:=.slice none 0 0,kind:=.sl,elem:=199,esize:=3,ebytes:=32,ezero:=.agg #[.string ByteArray.empty,.int .i64 0,.int .i64 0],eagg:=true,ety:=J5}
theorem ZjW:XU Tryz.prog 27 Zzk:=⟨by kernel_rfl,by kernel_rfl,by kernel_rfl,by kernel_rfl,by kernel_rfl⟩
def Zy3:TI:={size:=3,bytes:=72,zero:=.agg #[.slice none 0 0,.slice none 0 0,.slice none 0 0],kind:=.st,flds:=[(0,1,false),(1,1,false),(2,1,false)]}
theorem Zr7:XU Tryz.prog 29 Zy3:=⟨by kernel_rfl,by kernel_rfl,by kernel_rfl,by kernel_rfl,by kernel_rfl⟩
def ZzB:TI:={size:=1,bytes:=24,zero:=.slice none 0 0,kind:=.sl,elem:=58,esize:=4,ebytes:=96,ezero:=.agg #[.slice none 0 0,.slice none 0 0,.slice none 0 0,.slice none 0 0],eagg:=true,ety:=X6}
theorem ZfJ:XU Tryz.prog 30 ZzB:=⟨by kernel_rfl,by kernel_rfl,by kernel_rfl,by kernel_rfl,by kernel_rfl⟩
def Zy8:TI:={size:=5,bytes:=120,zero:=.agg #[.slice none 0 0,.slice none 0 0,.slice none 0 0,.slice none 0 0,.slice none 0 0],kind:=.st,flds:=[(0,1,true),(1,3,true),(4,1,false)]}
theorem ZrL:XU Tryz.prog 32 Zy8:=⟨by kernel_rfl,by kernel_rfl,by kernel_rfl,by kernel_rfl,by kernel_rfl⟩
def Zzf:TI:={size:=1,bytes:=24,zero:=.slice none 0 0,kind:=.sl,elem:=207,esize:=7,ebytes:=112,ezero:=.agg #[.string ByteArray.empty,.int .i64 0,.slice none 0 0,.slice none 0 0,.slice none 0 0,.int .i64 0,.int .i64 0],eagg:=true,ety:=X3}
theorem ZfI:XU Tryz.prog 36 Zzf:=⟨by kernel_rfl,by kernel_rfl,by kernel_rfl,by kernel_rfl,by kernel_rfl⟩
def Zza:TI:={size:=1,bytes:=24,zero:=.agg #[.slice none 0 0],kind:=.st,flds:=[(0,1,false)]}
theorem ZrB:XU Tryz.prog 38 Zza:=⟨by kernel_rfl,by kernel_rfl,by kernel_rfl,by kernel_rfl,by kernel_rfl⟩
def Zzo:TI:={size:=1,bytes:=24,zero:=.slice none 0 0,kind:=.sl,elem:=169,esize:=3,ebytes:=48,ezero:=.agg #[.string ByteArray.empty,.int .i64 0,.slice none 0 0],eagg:=true,ety:=Z0}
theorem Zf1:XU Tryz.prog 39 Zzo:=⟨by kernel_rfl,by kernel_rfl,by kernel_rfl,by kernel_rfl,by kernel_rfl⟩
def Zyq:TI:={size:=1,bytes:=24,zero:=.slice none 0 0,kind:=.sl,elem:=201,esize:=3,ebytes:=32,ezero:=.agg #[.string ByteArray.empty,.int .i64 0,.int .i64 0],eagg:=true,ety:=J5}
theorem ZjV:XU Tryz.prog 40 Zyq:=⟨by kernel_rfl,by kernel_rfl,by kernel_rfl,by kernel_rfl,by kernel_rfl⟩
def ZyS:TI:={size:=3,bytes:=72,zero:=.agg #[.slice none 0 0,.slice none 0 0,.slice none 0 0],kind:=.st,flds:=[(0,1,false),(1,1,false),(2,1,false)]}
theorem Zrv:XU Tryz.prog 42 ZyS:=⟨by kernel_rfl,by kernel_rfl,by kernel_rfl,by kernel_rfl,by kernel_rfl⟩
def ZzA:TI:={size:=1,bytes:=24,zero:=.slice none 0 0,kind:=.sl,elem:=72,esize:=4,ebytes:=96,ezero:=.agg #[.slice none 0 0,.slice none 0 0,.slice none 0 0,.slice none 0 0],eagg:=true,ety:=X6}
theorem Zf0:XU Tryz.prog 43 ZzA:=⟨by kernel_rfl,by kernel_rfl,by kernel_rfl,by kernel_rfl,by kernel_rfl⟩
def Zzw:TI:={size:=5,bytes:=120,zero:=.agg #[.slice none 0 0,.slice none 0 0,.slice none 0 0,.slice none 0 0,.slice none 0 0],kind:=.st,flds:=[(0,1,true),(1,3,true),(4,1,false)]}
theorem Zrx:XU Tryz.prog 45 Zzw:=⟨by kernel_rfl,by kernel_rfl,by kernel_rfl,by kernel_rfl,by kernel_rfl⟩
def Ztl:TI:={size:=1,bytes:=24,zero:=.slice none 0 0,kind:=.sl,elem:=2,esize:=1,ebytes:=8,ezero:=.int .i64 0,eagg:=false,ety:=.int .i64}
theorem ZrD:XU Tryz.prog 56 Ztl:=⟨by kernel_rfl,by kernel_rfl,by kernel_rfl,by kernel_rfl,by kernel_rfl⟩
def ZyX:TI:={size:=4,bytes:=96,zero:=.agg #[.slice none 0 0,.slice none 0 0,.slice none 0 0,.slice none 0 0],kind:=.st,flds:=[(0,1,false),(1,1,false),(2,1,false),(3,1,false)]}
theorem Zr4:XU Tryz.prog 58 ZyX:=⟨by kernel_rfl,by kernel_rfl,by kernel_rfl,by kernel_rfl,by kernel_rfl⟩
def Zy1:TI:={size:=10,bytes:=152,zero:=.agg #[.int .i64 0,.int .i64 0,.int .i64 0,.int .i64 0,.int .i64 0,.string ByteArray.empty,.slice none 0 0,.slice none 0 0,.slice none 0 0,.slice none 0 0],kind:=.st,flds:=[(0,1,false),(1,1,false),(2,1,false),(3,1,false),(4,1,false),(5,1,false),(6,4,true)]}
theorem ZrA:XU Tryz.prog 60 Zy1:=⟨by kernel_rfl,by kernel_rfl,by kernel_rfl,by kernel_rfl,by kernel_rfl⟩
def ZyN:TI:={size:=1,bytes:=24,zero:=.slice none 0 0,kind:=.sl,elem:=4,esize:=1,ebytes:=1,ezero:=.bool false,eagg:=false,ety:=.bool}
theorem ZjG:XU Tryz.prog 61 ZyN:=⟨by kernel_rfl,by kernel_rfl,by kernel_rfl,by kernel_rfl,by kernel_rfl⟩
def ZyT:TI:={size:=1,bytes:=24,zero:=.slice none 0 0,kind:=.sl,elem:=161,esize:=2,ebytes:=16,ezero:=.agg #[.int .i64 0,.int .i64 0],eagg:=true,ety:=Xj}
theorem Zjz:XU Tryz.prog 62 ZyT:=⟨by kernel_rfl,by kernel_rfl,by kernel_rfl,by kernel_rfl,by kernel_rfl⟩
def Zzn:TI:={size:=3,bytes:=72,zero:=.agg #[.slice none 0 0,.slice none 0 0,.slice none 0 0],kind:=.st,flds:=[(0,1,false),(1,1,false),(2,1,false)]}
theorem ZrO:XU Tryz.prog 64 Zzn:=⟨by kernel_rfl,by kernel_rfl,by kernel_rfl,by kernel_rfl,by kernel_rfl⟩
def Zyu:TI:={size:=1,bytes:=24,zero:=.slice none 0 0,kind:=.sl,elem:=158,esize:=2,ebytes:=16,ezero:=.agg #[.int .i64 0,.int .i64 0],eagg:=true,ety:=Xj}
theorem Zjv:XU Tryz.prog 67 Zyu:=⟨by kernel_rfl,by kernel_rfl,by kernel_rfl,by kernel_rfl,by kernel_rfl⟩
def Zzs:TI:={size:=3,bytes:=72,zero:=.agg #[.slice none 0 0,.slice none 0 0,.slice none 0 0],kind:=.st,flds:=[(0,1,false),(1,1,false),(2,1,false)]}
theorem ZrF:XU Tryz.prog 69 Zzs:=⟨by kernel_rfl,by kernel_rfl,by kernel_rfl,by kernel_rfl,by kernel_rfl⟩
def Zy7:TI:={size:=4,bytes:=96,zero:=.agg #[.slice none 0 0,.slice none 0 0,.slice none 0 0,.slice none 0 0],kind:=.st,flds:=[(0,1,false),(1,1,false),(2,1,false),(3,1,false)]}
theorem ZrV:XU Tryz.prog 72 Zy7:=⟨by kernel_rfl,by kernel_rfl,by kernel_rfl,by kernel_rfl,by kernel_rfl⟩
def ZyZ:TI:={size:=10,bytes:=152,zero:=.agg #[.int .i64 0,.int .i64 0,.int .i64 0,.int .i64 0,.int .i64 0,.string ByteArray.empty,.slice none 0 0,.slice none 0 0,.slice none 0 0,.slice none 0 0],kind:=.st,flds:=[(0,1,false),(1,1,false),(2,1,false),(3,1,false),(4,1,false),(5,1,false),(6,4,true)]}
theorem Zr1:XU Tryz.prog 74 ZyZ:=⟨by kernel_rfl,by kernel_rfl,by kernel_rfl,by kernel_rfl,by kernel_rfl⟩
def ZvA:TI:={size:=1,bytes:=8,zero:=.pointer none,kind:=.ptr}
theorem Zp4:XU Tryz.prog 115 ZvA:=⟨by kernel_rfl,by kernel_rfl,by kernel_rfl,by kernel_rfl,by kernel_rfl⟩
def ZwH:TI:={size:=1,bytes:=24,zero:=.slice none 0 0,kind:=.sl,elem:=5,esize:=1,ebytes:=1,ezero:=.int .u8 0,eagg:=false,ety:=.int .u8}
theorem Zqh:XU Tryz.prog 152 ZwH:=⟨by kernel_rfl,by kernel_rfl,by kernel_rfl,by kernel_rfl,by kernel_rfl⟩
def ZwJ:TI:={size:=2,bytes:=16,zero:=.agg #[.int .i64 0,.int .i64 0],kind:=.st,flds:=[(0,1,false),(1,1,false)],eqd:=.int .i64 0 (.int .i64 1 (.nil))}
theorem Zqd:XU Tryz.prog 158 ZwJ:=⟨by kernel_rfl,by kernel_rfl,by kernel_rfl,by kernel_rfl,by kernel_rfl⟩
def Zwd:TI:={size:=2,bytes:=16,zero:=.agg #[.int .i64 0,.int .i64 0],kind:=.st,flds:=[(0,1,false),(1,1,false)],eqd:=.int .i64 0 (.int .i64 1 (.nil))}
theorem Zpj:XU Tryz.prog 161 Zwd:=⟨by kernel_rfl,by kernel_rfl,by kernel_rfl,by kernel_rfl,by kernel_rfl⟩
def ZwB:TI:={size:=1,bytes:=24,zero:=.slice none 0 0,kind:=.sl,elem:=173,esize:=4,ebytes:=32,ezero:=.agg #[.int .i64 0,.int .i64 0,.int .i64 0,.bool false],eagg:=true,ety:=Zjd}
theorem ZgY:XU Tryz.prog 162 ZwB:=⟨by kernel_rfl,by kernel_rfl,by kernel_rfl,by kernel_rfl,by kernel_rfl⟩
def Zwf:TI:={size:=1,bytes:=24,zero:=.slice none 0 0,kind:=.sl,elem:=176,esize:=4,ebytes:=32,ezero:=.agg #[.int .i64 0,.int .i64 0,.int .i64 0,.int .i64 0],eagg:=true,ety:=Znf}
theorem ZgU:XU Tryz.prog 164 Zwf:=⟨by kernel_rfl,by kernel_rfl,by kernel_rfl,by kernel_rfl,by kernel_rfl⟩
def ZwK:TI:={size:=1,bytes:=24,zero:=.slice none 0 0,kind:=.sl,elem:=56,esize:=1,ebytes:=24,ezero:=.slice none 0 0,eagg:=false,ety:=.sl (.int .i64)}
theorem Zei:XU Tryz.prog 165 ZwK:=⟨by kernel_rfl,by kernel_rfl,by kernel_rfl,by kernel_rfl,by kernel_rfl⟩
def ZwL:TI:={size:=10,bytes:=240,zero:=.agg #[.slice none 0 0,.slice none 0 0,.slice none 0 0,.slice none 0 0,.slice none 0 0,.slice none 0 0,.slice none 0 0,.slice none 0 0,.slice none 0 0,.slice none 0 0],kind:=.st,flds:=[(0,5,true),(5,1,false),(6,1,false),(7,1,false),(8,1,false),(9,1,false)]}
theorem ZpD:XU Tryz.prog 167 ZwL:=⟨by kernel_rfl,by kernel_rfl,by kernel_rfl,by kernel_rfl,by kernel_rfl⟩
def Zvz:TI:={size:=3,bytes:=48,zero:=.agg #[.string ByteArray.empty,.int .i64 0,.slice none 0 0],kind:=.st,flds:=[(0,1,false),(1,1,false),(2,1,false)]}
theorem Zpq:XU Tryz.prog 169 Zvz:=⟨by kernel_rfl,by kernel_rfl,by kernel_rfl,by kernel_rfl,by kernel_rfl⟩
def Zvu:TI:={size:=4,bytes:=32,zero:=.agg #[.int .i64 0,.int .i64 0,.int .i64 0,.bool false],kind:=.st,flds:=[(0,1,false),(1,1,false),(2,1,false),(3,1,false)],eqd:=.int .i64 0 (.int .i64 1 (.int .i64 2 (.bool 3 (.nil))))}
theorem Zpn:XU Tryz.prog 173 Zvu:=⟨by kernel_rfl,by kernel_rfl,by kernel_rfl,by kernel_rfl,by kernel_rfl⟩
def Zwp:TI:={size:=4,bytes:=32,zero:=.agg #[.int .i64 0,.int .i64 0,.int .i64 0,.int .i64 0],kind:=.st,flds:=[(0,1,false),(1,1,false),(2,1,false),(3,1,false)],eqd:=.int .i64 0 (.int .i64 1 (.int .i64 2 (.int .i64 3 (.nil))))}
theorem ZpC:XU Tryz.prog 176 Zwp:=⟨by kernel_rfl,by kernel_rfl,by kernel_rfl,by kernel_rfl,by kernel_rfl⟩
def Zv3:TI:={size:=1,bytes:=24,zero:=.slice none 0 0,kind:=.sl,elem:=189,esize:=4,ebytes:=32,ezero:=.agg #[.int .i64 0,.int .i64 0,.int .i64 0,.bool false],eagg:=true,ety:=ZfW}
theorem Zg6:XU Tryz.prog 185 Zv3:=⟨by kernel_rfl,by kernel_rfl,by kernel_rfl,by kernel_rfl,by kernel_rfl⟩
def ZwR:TI:={size:=4,bytes:=32,zero:=.agg #[.int .i64 0,.int .i64 0,.int .i64 0,.bool false],kind:=.st,flds:=[(0,1,false),(1,1,false),(2,1,false),(3,1,false)],eqd:=.int .i64 0 (.int .i64 1 (.int .i64 2 (.bool 3 (.nil))))}
theorem Zp1:XU Tryz.prog 189 ZwR:=⟨by kernel_rfl,by kernel_rfl,by kernel_rfl,by kernel_rfl,by kernel_rfl⟩
def ZvN:TI:={size:=1,bytes:=24,zero:=.slice none 0 0,kind:=.sl,elem:=280,esize:=4,ebytes:=40,ezero:=.agg #[.string ByteArray.empty,.int .i64 0,.int .i64 0,.bool false],eagg:=true,ety:=ZdO}
theorem Zhk:XU Tryz.prog 191 ZvN:=⟨by kernel_rfl,by kernel_rfl,by kernel_rfl,by kernel_rfl,by kernel_rfl⟩
def ZvL:TI:={size:=1,bytes:=24,zero:=.slice none 0 0,kind:=.sl,elem:=284,esize:=6,ebytes:=80,ezero:=.agg #[.int .i64 0,.int .i64 0,.int .i64 0,.int .i64 0,.slice none 0 0,.slice none 0 0],eagg:=true,ety:=Zfc}
theorem Zd8:XU Tryz.prog 192 ZvL:=⟨by kernel_rfl,by kernel_rfl,by kernel_rfl,by kernel_rfl,by kernel_rfl⟩
def Zv4:TI:={size:=7,bytes:=112,zero:=.agg #[.string ByteArray.empty,.int .i64 0,.slice none 0 0,.slice none 0 0,.slice none 0 0,.int .i64 0,.int .i64 0],kind:=.st,flds:=[(0,1,false),(1,1,false),(2,1,false),(3,1,false),(4,1,false),(5,1,false),(6,1,false)]}
theorem Zpp:XU Tryz.prog 194 Zv4:=⟨by kernel_rfl,by kernel_rfl,by kernel_rfl,by kernel_rfl,by kernel_rfl⟩
def Zwt:TI:={size:=3,bytes:=48,zero:=.agg #[.string ByteArray.empty,.int .i64 0,.slice none 0 0],kind:=.st,flds:=[(0,1,false),(1,1,false),(2,1,false)]}
theorem ZpO:XU Tryz.prog 196 Zwt:=⟨by kernel_rfl,by kernel_rfl,by kernel_rfl,by kernel_rfl,by kernel_rfl⟩
def ZvC:TI:={size:=3,bytes:=32,zero:=.agg #[.string ByteArray.empty,.int .i64 0,.int .i64 0],kind:=.st,flds:=[(0,1,false),(1,1,false),(2,1,false)],eqd:=.str 0 (.int .i64 1 (.int .i64 2 (.nil)))}
theorem ZpY:XU Tryz.prog 199 ZvC:=⟨by kernel_rfl,by kernel_rfl,by kernel_rfl,by kernel_rfl,by kernel_rfl⟩
def Zwv:TI:={size:=3,bytes:=32,zero:=.agg #[.string ByteArray.empty,.int .i64 0,.int .i64 0],kind:=.st,flds:=[(0,1,false),(1,1,false),(2,1,false)],eqd:=.str 0 (.int .i64 1 (.int .i64 2 (.nil)))}
theorem Zpk:XU Tryz.prog 201 Zwv:=⟨by kernel_rfl,by kernel_rfl,by kernel_rfl,by kernel_rfl,by kernel_rfl⟩
def Zu8:TI:={size:=1,bytes:=24,zero:=.slice none 0 0,kind:=.sl,elem:=260,esize:=4,ebytes:=40,ezero:=.agg #[.string ByteArray.empty,.int .i64 0,.int .i64 0,.bool false],eagg:=true,ety:=ZdO}
theorem Zhc:XU Tryz.prog 204 Zu8:=⟨by kernel_rfl,by kernel_rfl,by kernel_rfl,by kernel_rfl,by kernel_rfl⟩
def ZvS:TI:={size:=1,bytes:=24,zero:=.slice none 0 0,kind:=.sl,elem:=235,esize:=6,ebytes:=80,ezero:=.agg #[.int .i64 0,.int .i64 0,.int .i64 0,.int .i64 0,.slice none 0 0,.slice none 0 0],eagg:=true,ety:=Zfc}
theorem Zd4:XU Tryz.prog 205 ZvS:=⟨by kernel_rfl,by kernel_rfl,by kernel_rfl,by kernel_rfl,by kernel_rfl⟩
def ZwN:TI:={size:=7,bytes:=112,zero:=.agg #[.string ByteArray.empty,.int .i64 0,.slice none 0 0,.slice none 0 0,.slice none 0 0,.int .i64 0,.int .i64 0],kind:=.st,flds:=[(0,1,false),(1,1,false),(2,1,false),(3,1,false),(4,1,false),(5,1,false),(6,1,false)]}
theorem Zpv:XU Tryz.prog 207 ZwN:=⟨by kernel_rfl,by kernel_rfl,by kernel_rfl,by kernel_rfl,by kernel_rfl⟩
def ZvU:TI:={size:=2,bytes:=16,zero:=.agg #[.int .i64 0,.int .i64 0],kind:=.st,flds:=[(0,1,false),(1,1,false)],eqd:=.int .i64 0 (.int .i64 1 (.nil))}
theorem Zpd:XU Tryz.prog 217 ZvU:=⟨by kernel_rfl,by kernel_rfl,by kernel_rfl,by kernel_rfl,by kernel_rfl⟩
def Zqt:TI:={size:=1,bytes:=8,zero:=.map none,kind:=.mp 217 2,ty:=Zb7,ety:=.int .i64}
theorem Zp8:XU Tryz.prog 220 Zqt:=⟨by kernel_rfl,by kernel_rfl,by kernel_rfl,by kernel_rfl,by kernel_rfl⟩
def Zwa:TI:={size:=1,bytes:=24,zero:=.slice none 0 0,kind:=.sl,elem:=290,esize:=3,ebytes:=72,ezero:=.agg #[.slice none 0 0,.slice none 0 0,.slice none 0 0],eagg:=true,ety:=YP}
theorem Zeb:XU Tryz.prog 233 Zwa:=⟨by kernel_rfl,by kernel_rfl,by kernel_rfl,by kernel_rfl,by kernel_rfl⟩
def Zv6:TI:={size:=6,bytes:=80,zero:=.agg #[.int .i64 0,.int .i64 0,.int .i64 0,.int .i64 0,.slice none 0 0,.slice none 0 0],kind:=.st,flds:=[(0,1,false),(1,1,false),(2,1,false),(3,1,false),(4,1,false),(5,1,false)]}
theorem Zqf:XU Tryz.prog 235 Zv6:=⟨by kernel_rfl,by kernel_rfl,by kernel_rfl,by kernel_rfl,by kernel_rfl⟩
def ZvT:TI:={size:=1,bytes:=24,zero:=.slice none 0 0,kind:=.sl,elem:=238,esize:=2,ebytes:=16,ezero:=.agg #[.int .i64 0,.int .i64 0],eagg:=true,ety:=.pair (.int .i64) (.pair (.int .i64) (.unit))}
theorem Zhb:XU Tryz.prog 236 ZvT:=⟨by kernel_rfl,by kernel_rfl,by kernel_rfl,by kernel_rfl,by kernel_rfl⟩
def Zwz:TI:={size:=2,bytes:=16,zero:=.agg #[.int .i64 0,.int .i64 0],kind:=.arr 2,elem:=2,esize:=1,ebytes:=8,ezero:=.int .i64 0,eagg:=false,ety:=.int .i64}
theorem Zp7:XU Tryz.prog 238 Zwz:=⟨by kernel_rfl,by kernel_rfl,by kernel_rfl,by kernel_rfl,by kernel_rfl⟩
def Zrq:TI:={size:=1,bytes:=24,zero:=.slice none 0 0,kind:=.sl,elem:=3,esize:=1,ebytes:=8,ezero:=.int .i64 0,eagg:=false,ety:=.int .i64}
theorem ZpU:XU Tryz.prog 253 Zrq:=⟨by kernel_rfl,by kernel_rfl,by kernel_rfl,by kernel_rfl,by kernel_rfl⟩
def ZvJ:TI:={size:=4,bytes:=40,zero:=.agg #[.string ByteArray.empty,.int .i64 0,.int .i64 0,.bool false],kind:=.st,flds:=[(0,1,false),(1,1,false),(2,1,false),(3,1,false)],eqd:=.str 0 (.int .i64 1 (.int .i64 2 (.bool 3 (.nil))))}
theorem ZpK:XU Tryz.prog 260 ZvJ:=⟨by kernel_rfl,by kernel_rfl,by kernel_rfl,by kernel_rfl,by kernel_rfl⟩
def Zwc:TI:={size:=1,bytes:=8,zero:=.pointer none,kind:=.ptr}
theorem Zp2:XU Tryz.prog 267 Zwc:=⟨by kernel_rfl,by kernel_rfl,by kernel_rfl,by kernel_rfl,by kernel_rfl⟩
def Zvv:TI:={size:=1,bytes:=8,zero:=.pointer none,kind:=.ptr}
theorem Zpt:XU Tryz.prog 270 Zvv:=⟨by kernel_rfl,by kernel_rfl,by kernel_rfl,by kernel_rfl,by kernel_rfl⟩
def ZwC:TI:={size:=1,bytes:=8,zero:=.int .u64 0,kind:=.int .u64}
theorem Zpu:XU Tryz.prog 278 ZwC:=⟨by kernel_rfl,by kernel_rfl,by kernel_rfl,by kernel_rfl,by kernel_rfl⟩
def Zvr:TI:={size:=4,bytes:=40,zero:=.agg #[.string ByteArray.empty,.int .i64 0,.int .i64 0,.bool false],kind:=.st,flds:=[(0,1,false),(1,1,false),(2,1,false),(3,1,false)],eqd:=.str 0 (.int .i64 1 (.int .i64 2 (.bool 3 (.nil))))}
theorem Zpw:XU Tryz.prog 280 Zvr:=⟨by kernel_rfl,by kernel_rfl,by kernel_rfl,by kernel_rfl,by kernel_rfl⟩
def ZvI:TI:={size:=1,bytes:=24,zero:=.slice none 0 0,kind:=.sl,elem:=337,esize:=3,ebytes:=72,ezero:=.agg #[.slice none 0 0,.slice none 0 0,.slice none 0 0],eagg:=true,ety:=YP}
theorem Zej:XU Tryz.prog 282 ZvI:=⟨by kernel_rfl,by kernel_rfl,by kernel_rfl,by kernel_rfl,by kernel_rfl⟩
def ZvE:TI:={size:=6,bytes:=80,zero:=.agg #[.int .i64 0,.int .i64 0,.int .i64 0,.int .i64 0,.slice none 0 0,.slice none 0 0],kind:=.st,flds:=[(0,1,false),(1,1,false),(2,1,false),(3,1,false),(4,1,false),(5,1,false)]}
theorem Zpr:XU Tryz.prog 284 ZvE:=⟨by kernel_rfl,by kernel_rfl,by kernel_rfl,by kernel_rfl,by kernel_rfl⟩
def Zwg:TI:={size:=3,bytes:=72,zero:=.agg #[.slice none 0 0,.slice none 0 0,.slice none 0 0],kind:=.st,flds:=[(0,1,false),(1,1,false),(2,1,false)]}
theorem Zp3:XU Tryz.prog 290 Zwg:=⟨by kernel_rfl,by kernel_rfl,by kernel_rfl,by kernel_rfl,by kernel_rfl⟩
def Zwy:TI:={size:=3,bytes:=72,zero:=.agg #[.slice none 0 0,.slice none 0 0,.slice none 0 0],kind:=.st,flds:=[(0,1,false),(1,1,false),(2,1,false)]}
theorem Zpi:XU Tryz.prog 337 Zwy:=⟨by kernel_rfl,by kernel_rfl,by kernel_rfl,by kernel_rfl,by kernel_rfl⟩
theorem ZAO {P:Program}:Tab.ok [] P:=fun x hx=>by cases hx
theorem ZB {P:Program} {t:Nat} {ti:TI} {r:Tab} (h:XU P t ti) (hr:Tab.ok r P):Tab.ok ((t,ti)::r) P:=fun x hx=>by
 rcases List.mem_cons.1 hx with rfl | hx
 ·exact h
 ·exact hr x hx
def tab:Tab:=[(2,ti2),(3,ti3),(4,ti4),(5,ti5),(6,ti6),(9,ti9),(22,Zzg),(24,Zze),(25,Zzl),(26,ZyA),(27,Zzk),(29,Zy3),(30,ZzB),(32,Zy8),(36,Zzf),(38,Zza),(39,Zzo),(40,Zyq),(42,ZyS),(43,ZzA),(45,Zzw),(56,Ztl),(58,ZyX),(60,Zy1),(61,ZyN),(62,ZyT),(64,Zzn),(67,Zyu),(69,Zzs),(72,Zy7),(74,ZyZ),(115,ZvA),(152,ZwH),(158,ZwJ),(161,Zwd),(162,ZwB),(164,Zwf),(165,ZwK),(167,ZwL),(169,Zvz),(173,Zvu),(176,Zwp),(185,Zv3),(189,ZwR),(191,ZvN),(192,ZvL),(194,Zv4),(196,Zwt),(199,ZvC),(201,Zwv),(204,Zu8),(205,ZvS),(207,ZwN),(217,ZvU),(220,Zqt),(233,Zwa),(235,Zv6),(236,ZvT),(238,Zwz),(253,Zrq),(260,ZvJ),(267,Zwc),(270,Zvv),(278,ZwC),(280,Zvr),(282,ZvI),(284,ZvE),(290,Zwg),(337,Zwy)]
theorem Zq:tab.ok Tryz.prog :=
 ZB (ZuG) <| ZB (Zvh) <| ZB (Zt0) <| ZB (Zvk) <| ZB (Zt8) <| ZB (Zup) <| ZB (ZfS) <| ZB (ZrP) <| ZB (ZfN) <| ZB (ZjO) <| ZB (ZjW) <| ZB (Zr7) <| ZB (ZfJ) <| ZB (ZrL) <| ZB (ZfI) <| ZB (ZrB) <| ZB (Zf1) <| ZB (ZjV) <| ZB (Zrv) <| ZB (Zf0) <| ZB (Zrx) <| ZB (ZrD) <| ZB (Zr4) <| ZB (ZrA) <| ZB (ZjG) <| ZB (Zjz) <| ZB (ZrO) <| ZB (Zjv) <| ZB (ZrF) <| ZB (ZrV) <| ZB (Zr1) <| ZB (Zp4) <| ZB (Zqh) <| ZB (Zqd) <| ZB (Zpj) <| ZB (ZgY) <| ZB (ZgU) <| ZB (Zei) <| ZB (ZpD) <| ZB (Zpq) <| ZB (Zpn) <| ZB (ZpC) <| ZB (Zg6) <| ZB (Zp1) <| ZB (Zhk) <| ZB (Zd8) <| ZB (Zpp) <| ZB (ZpO) <| ZB (ZpY) <| ZB (Zpk) <| ZB (Zhc) <| ZB (Zd4) <| ZB (Zpv) <| ZB (Zpd) <| ZB (Zp8) <| ZB (Zeb) <| ZB (Zqf) <| ZB (Zhb) <| ZB (Zp7) <| ZB (ZpU) <| ZB (ZpK) <| ZB (Zp2) <| ZB (Zpt) <| ZB (Zpu) <| ZB (Zpw) <| ZB (Zej) <| ZB (Zpr) <| ZB (Zp3) <| ZB (Zpi) <| ZAO
def ZAP:TI:={Zzg with edp:=some (Zms)}
def ZAy:TI:={Zzl with edp:=some (Zb4)}
def ZzW:TI:={ZzB with edp:=some (ZiZ)}
def ZA8:TI:={Zzf with edp:=some (Zms)}
def Zz8:TI:={Zzo with edp:=some (Zb4)}
def ZAa:TI:={ZzA with edp:=some (ZiZ)}
def ZyG:TI:={ZwK with edp:=some (.ol 2 (.flat (.int .i64)))}
def ZyH:TI:={ZvL with edp:=some (ZtF)}
def Zyw:TI:={ZvS with edp:=some (ZtF)}
def Zys:TI:={Zwa with edp:=some (Ze9)}
def ZyM:TI:={ZvI with edp:=some (Ze9)}
def Zz1:TI:={Zzg with cut:=true,edp:=some (Zms)}
def ZAs:TI:={Zzl with cut:=true,edp:=some (Zb4)}
def ZBn:TI:={ZyA with cut:=true}
def ZBr:TI:={Zzk with cut:=true}
def ZAK:TI:={ZzB with cut:=true,edp:=some (ZiZ)}
def ZAA:TI:={Zzf with cut:=true,edp:=some (Zms)}
def ZAR:TI:={Zzo with cut:=true,edp:=some (Zb4)}
def ZAo:TI:={Zyq with cut:=true}
def ZzT:TI:={ZzA with cut:=true,edp:=some (ZiZ)}
def ZzC:TI:={ZyN with cut:=true}
def ZAn:TI:={ZyT with cut:=true}
def ZAQ:TI:={Zyu with cut:=true}
def Zyg:TI:={ZwB with cut:=true}
def Zyc:TI:={Zwf with cut:=true}
def Zye:TI:={ZwK with cut:=true,edp:=some (.ol 2 (.flat (.int .i64)))}
def Zyl:TI:={Zv3 with cut:=true}
def Zx1:TI:={ZvN with cut:=true}
def Zyd:TI:={ZvL with cut:=true,edp:=some (ZtF)}
def Zyh:TI:={Zu8 with cut:=true}
def Zyr:TI:={ZvS with cut:=true,edp:=some (ZtF)}
def ZyI:TI:={Zwa with cut:=true,edp:=some (Ze9)}
def Zyp:TI:={ZvT with cut:=true}
def Zym:TI:={ZvI with cut:=true,edp:=some (Ze9)}
def ZDy:Tab:=[(2,ti2),(3,ti3),(4,ti4),(5,ti5),(6,ti6),(9,ti9),(22,ZAP),(24,Zze),(25,ZAy),(26,ZyA),(27,Zzk),(29,Zy3),(30,ZzW),(32,Zy8),(36,ZA8),(38,Zza),(39,Zz8),(40,Zyq),(42,ZyS),(43,ZAa),(45,Zzw),(56,Ztl),(58,ZyX),(60,Zy1),(61,ZyN),(62,ZyT),(64,Zzn),(67,Zyu),(69,Zzs),(72,Zy7),(74,ZyZ),(115,ZvA),(152,ZwH),(158,ZwJ),(161,Zwd),(162,ZwB),(164,Zwf),(165,ZyG),(167,ZwL),(169,Zvz),(173,Zvu),(176,Zwp),(185,Zv3),(189,ZwR),(191,ZvN),(192,ZyH),(194,Zv4),(196,Zwt),(199,ZvC),(201,Zwv),(204,Zu8),(205,Zyw),(207,ZwN),(217,ZvU),(220,Zqt),(233,Zys),(235,Zv6),(236,ZvT),(238,Zwz),(253,Zrq),(260,ZvJ),(267,Zwc),(270,Zvv),(278,ZwC),(280,Zvr),(282,ZyM),(284,ZvE),(290,Zwg),(337,Zwy)]
theorem YO:ZDy.ok Tryz.prog :=
 ZB (ZuG) <| ZB (Zvh) <| ZB (Zt0) <| ZB (Zvk) <| ZB (Zt8) <| ZB (Zup) <| ZB (⟨ZfS.info,ZfS.kind,ZfS.flds,ZfS.elem,ZfS.eqd⟩) <| ZB (ZrP) <| ZB (⟨ZfN.info,ZfN.kind,ZfN.flds,ZfN.elem,ZfN.eqd⟩) <| ZB (ZjO) <| ZB (ZjW) <| ZB (Zr7) <| ZB (⟨ZfJ.info,ZfJ.kind,ZfJ.flds,ZfJ.elem,ZfJ.eqd⟩) <| ZB (ZrL) <| ZB (⟨ZfI.info,ZfI.kind,ZfI.flds,ZfI.elem,ZfI.eqd⟩) <| ZB (ZrB) <| ZB (⟨Zf1.info,Zf1.kind,Zf1.flds,Zf1.elem,Zf1.eqd⟩) <| ZB (ZjV) <| ZB (Zrv) <| ZB (⟨Zf0.info,Zf0.kind,Zf0.flds,Zf0.elem,Zf0.eqd⟩) <| ZB (Zrx) <| ZB (ZrD) <| ZB (Zr4) <| ZB (ZrA) <| ZB (ZjG) <| ZB (Zjz) <| ZB (ZrO) <| ZB (Zjv) <| ZB (ZrF) <| ZB (ZrV) <| ZB (Zr1) <| ZB (Zp4) <| ZB (Zqh) <| ZB (Zqd) <| ZB (Zpj) <| ZB (ZgY) <| ZB (ZgU) <| ZB (⟨Zei.info,Zei.kind,Zei.flds,Zei.elem,Zei.eqd⟩) <| ZB (ZpD) <| ZB (Zpq) <| ZB (Zpn) <| ZB (ZpC) <| ZB (Zg6) <| ZB (Zp1) <| ZB (Zhk) <| ZB (⟨Zd8.info,Zd8.kind,Zd8.flds,Zd8.elem,Zd8.eqd⟩) <| ZB (Zpp) <| ZB (ZpO) <| ZB (ZpY) <| ZB (Zpk) <| ZB (Zhc) <| ZB (⟨Zd4.info,Zd4.kind,Zd4.flds,Zd4.elem,Zd4.eqd⟩) <| ZB (Zpv) <| ZB (Zpd) <| ZB (Zp8) <| ZB (⟨Zeb.info,Zeb.kind,Zeb.flds,Zeb.elem,Zeb.eqd⟩) <| ZB (Zqf) <| ZB (Zhb) <| ZB (Zp7) <| ZB (ZpU) <| ZB (ZpK) <| ZB (Zp2) <| ZB (Zpt) <| ZB (Zpu) <| ZB (Zpw) <| ZB (⟨Zej.info,Zej.kind,Zej.flds,Zej.elem,Zej.eqd⟩) <| ZB (Zpr) <| ZB (Zp3) <| ZB (Zpi) <| ZAO
def ZBW:Tab:=[(2,ti2),(3,ti3),(4,ti4),(5,ti5),(6,ti6),(9,ti9),(22,Zz1),(24,Zze),(25,ZAs),(26,ZBn),(27,ZBr),(29,Zy3),(30,ZAK),(32,Zy8),(36,ZAA),(38,Zza),(39,ZAR),(40,ZAo),(42,ZyS),(43,ZzT),(45,Zzw),(56,Ztl),(58,ZyX),(60,Zy1),(61,ZzC),(62,ZAn),(64,Zzn),(67,ZAQ),(69,Zzs),(72,Zy7),(74,ZyZ),(115,ZvA),(152,ZwH),(158,ZwJ),(161,Zwd),(162,Zyg),(164,Zyc),(165,Zye),(167,ZwL),(169,Zvz),(173,Zvu),(176,Zwp),(185,Zyl),(189,ZwR),(191,Zx1),(192,Zyd),(194,Zv4),(196,Zwt),(199,ZvC),(201,Zwv),(204,Zyh),(205,Zyr),(207,ZwN),(217,ZvU),(220,Zqt),(233,ZyI),(235,Zv6),(236,Zyp),(238,Zwz),(253,Zrq),(260,ZvJ),(267,Zwc),(270,Zvv),(278,ZwC),(280,Zvr),(282,Zym),(284,ZvE),(290,Zwg),(337,Zwy)]
theorem Zt6:ZBW.ok Tryz.prog :=
 ZB (ZuG) <| ZB (Zvh) <| ZB (Zt0) <| ZB (Zvk) <| ZB (Zt8) <| ZB (Zup) <| ZB (⟨ZfS.info,ZfS.kind,ZfS.flds,ZfS.elem,ZfS.eqd⟩) <| ZB (ZrP) <| ZB (⟨ZfN.info,ZfN.kind,ZfN.flds,ZfN.elem,ZfN.eqd⟩) <| ZB (⟨ZjO.info,ZjO.kind,ZjO.flds,ZjO.elem,ZjO.eqd⟩) <| ZB (⟨ZjW.info,ZjW.kind,ZjW.flds,ZjW.elem,ZjW.eqd⟩) <| ZB (Zr7) <| ZB (⟨ZfJ.info,ZfJ.kind,ZfJ.flds,ZfJ.elem,ZfJ.eqd⟩) <| ZB (ZrL) <| ZB (⟨ZfI.info,ZfI.kind,ZfI.flds,ZfI.elem,ZfI.eqd⟩) <| ZB (ZrB) <| ZB (⟨Zf1.info,Zf1.kind,Zf1.flds,Zf1.elem,Zf1.eqd⟩) <| ZB (⟨ZjV.info,ZjV.kind,ZjV.flds,ZjV.elem,ZjV.eqd⟩) <| ZB (Zrv) <| ZB (⟨Zf0.info,Zf0.kind,Zf0.flds,Zf0.elem,Zf0.eqd⟩) <| ZB (Zrx) <| ZB (ZrD) <| ZB (Zr4) <| ZB (ZrA) <| ZB (⟨ZjG.info,ZjG.kind,ZjG.flds,ZjG.elem,ZjG.eqd⟩) <| ZB (⟨Zjz.info,Zjz.kind,Zjz.flds,Zjz.elem,Zjz.eqd⟩) <| ZB (ZrO) <| ZB (⟨Zjv.info,Zjv.kind,Zjv.flds,Zjv.elem,Zjv.eqd⟩) <| ZB (ZrF) <| ZB (ZrV) <| ZB (Zr1) <| ZB (Zp4) <| ZB (Zqh) <| ZB (Zqd) <| ZB (Zpj) <| ZB (⟨ZgY.info,ZgY.kind,ZgY.flds,ZgY.elem,ZgY.eqd⟩) <| ZB (⟨ZgU.info,ZgU.kind,ZgU.flds,ZgU.elem,ZgU.eqd⟩) <| ZB (⟨Zei.info,Zei.kind,Zei.flds,Zei.elem,Zei.eqd⟩) <| ZB (ZpD) <| ZB (Zpq) <| ZB (Zpn) <| ZB (ZpC) <| ZB (⟨Zg6.info,Zg6.kind,Zg6.flds,Zg6.elem,Zg6.eqd⟩) <| ZB (Zp1) <| ZB (⟨Zhk.info,Zhk.kind,Zhk.flds,Zhk.elem,Zhk.eqd⟩) <| ZB (⟨Zd8.info,Zd8.kind,Zd8.flds,Zd8.elem,Zd8.eqd⟩) <| ZB (Zpp) <| ZB (ZpO) <| ZB (ZpY) <| ZB (Zpk) <| ZB (⟨Zhc.info,Zhc.kind,Zhc.flds,Zhc.elem,Zhc.eqd⟩) <| ZB (⟨Zd4.info,Zd4.kind,Zd4.flds,Zd4.elem,Zd4.eqd⟩) <| ZB (Zpv) <| ZB (Zpd) <| ZB (Zp8) <| ZB (⟨Zeb.info,Zeb.kind,Zeb.flds,Zeb.elem,Zeb.eqd⟩) <| ZB (Zqf) <| ZB (⟨Zhb.info,Zhb.kind,Zhb.flds,Zhb.elem,Zhb.eqd⟩) <| ZB (Zp7) <| ZB (ZpU) <| ZB (ZpK) <| ZB (Zp2) <| ZB (Zpt) <| ZB (Zpu) <| ZB (Zpw) <| ZB (⟨Zej.info,Zej.kind,Zej.flds,Zej.elem,Zej.eqd⟩) <| ZB (Zpr) <| ZB (Zp3) <| ZB (Zpi) <| ZAO
end Go.Proofs.YtfndhpjedmopdaaGreatDoor
