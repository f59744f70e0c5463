/-
  The table of types of this translation, as the executor wants it; each row held against the program. Printed by program (gentab.py).
-/
import Derived.Test.YtoefbkmllkpkkaaGreatDoorSxTy
import Derived.Test.YtoefbkmllkpkkaaGreatDoorProg
import Derived.KernelRfl
namespace Go.Proofs.YtoefbkmllkpkkaaGreatDoor
open Go Go.Sx
set_option maxRecDepth 100000
def ti2:TI:={size:=1,bytes:=8,zero:=.int .i64 0,kind:=.int .i64}
theorem ZyS:Xp Tryz.prog 2 ti2:=⟨by kernel_rfl,by kernel_rfl,by kernel_rfl,by kernel_rfl,by kernel_rfl⟩
def ti3:TI:={size:=1,bytes:=8,zero:=.int .i64 0,kind:=.int .i64}
theorem ZyG:Xp Tryz.prog 3 ti3:=⟨by kernel_rfl,by kernel_rfl,by kernel_rfl,by kernel_rfl,by kernel_rfl⟩
def ti4:TI:={size:=1,bytes:=1,zero:=.bool false,kind:=.bool}
theorem Zy6:Xp Tryz.prog 4 ti4:=⟨by kernel_rfl,by kernel_rfl,by kernel_rfl,by kernel_rfl,by kernel_rfl⟩
def ti5:TI:={size:=1,bytes:=1,zero:=.int .u8 0,kind:=.int .u8}
theorem Zx2:Xp Tryz.prog 5 ti5:=⟨by kernel_rfl,by kernel_rfl,by kernel_rfl,by kernel_rfl,by kernel_rfl⟩
def ti6:TI:={size:=1,bytes:=1,zero:=.int .u8 0,kind:=.int .u8}
theorem Zyi:Xp Tryz.prog 6 ti6:=⟨by kernel_rfl,by kernel_rfl,by kernel_rfl,by kernel_rfl,by kernel_rfl⟩
def ti7:TI:={size:=4,bytes:=24,zero:=.agg #[.int .i64 0,.int .i64 0,.bool false,.int .u8 0],kind:=.st,flds:=[(0,1,false),(1,1,false),(2,1,false),(3,1,false)]}
theorem ZyE:Xp Tryz.prog 7 ti7:=⟨by kernel_rfl,by kernel_rfl,by kernel_rfl,by kernel_rfl,by kernel_rfl⟩
def ti8:TI:={size:=4,bytes:=24,zero:=.agg #[.int .i64 0,.int .i64 0,.bool false,.int .u8 0],kind:=.st,flds:=[(0,1,false),(1,1,false),(2,1,false),(3,1,false)]}
theorem ZxF:Xp Tryz.prog 8 ti8:=⟨by kernel_rfl,by kernel_rfl,by kernel_rfl,by kernel_rfl,by kernel_rfl⟩
def ti9:TI:={size:=1,bytes:=16,zero:=.string ByteArray.empty,kind:=.str}
theorem Zyu:Xp Tryz.prog 9 ti9:=⟨by kernel_rfl,by kernel_rfl,by kernel_rfl,by kernel_rfl,by kernel_rfl⟩
def ZDN:TI:={size:=1,bytes:=16,zero:=.string ByteArray.empty,kind:=.str}
theorem Zvd:Xp Tryz.prog 10 ZDN:=⟨by kernel_rfl,by kernel_rfl,by kernel_rfl,by kernel_rfl,by kernel_rfl⟩
def ZDr:TI:={size:=1,bytes:=24,zero:=.slice none 0 0,kind:=.sl,elem:=194,esize:=7,ebytes:=112,ezero:=.agg #[.string ByteArray.empty,.int .i64 0,.slice none 0 0,.slice none 0 0,.slice none 0 0,.int .i64 0,.int .i64 0],eagg:=true,ety:=XY}
theorem ZgL:Xp Tryz.prog 22 ZDr:=⟨by kernel_rfl,by kernel_rfl,by kernel_rfl,by kernel_rfl,by kernel_rfl⟩
def ZDA:TI:={size:=1,bytes:=24,zero:=.agg #[.slice none 0 0],kind:=.st,flds:=[(0,1,false)]}
theorem Zvo:Xp Tryz.prog 24 ZDA:=⟨by kernel_rfl,by kernel_rfl,by kernel_rfl,by kernel_rfl,by kernel_rfl⟩
def ZDD:TI:={size:=1,bytes:=24,zero:=.slice none 0 0,kind:=.sl,elem:=196,esize:=3,ebytes:=48,ezero:=.agg #[.string ByteArray.empty,.int .i64 0,.slice none 0 0],eagg:=true,ety:=ZX}
theorem ZgX:Xp Tryz.prog 25 ZDD:=⟨by kernel_rfl,by kernel_rfl,by kernel_rfl,by kernel_rfl,by kernel_rfl⟩
def ZCF:TI:={size:=1,bytes:=24,zero:=.slice none 0 0,kind:=.sl,elem:=9,esize:=1,ebytes:=16,ezero:=.string ByteArray.empty,eagg:=false,ety:=.str}
theorem Zl2:Xp Tryz.prog 26 ZCF:=⟨by kernel_rfl,by kernel_rfl,by kernel_rfl,by kernel_rfl,by kernel_rfl⟩
def ZDs:TI:={size:=1,bytes:=24,zero:=.slice none 0 0,kind:=.sl,elem:=199,esize:=3,ebytes:=32,ezero:=.agg #[.string ByteArray.empty,.int .i64 0,.int .i64 0],eagg:=true,ety:=Jf}
theorem Zmn:Xp Tryz.prog 27 ZDs:=⟨by kernel_rfl,by kernel_rfl,by kernel_rfl,by kernel_rfl,by kernel_rfl⟩
def ZDO:TI:={size:=3,bytes:=72,zero:=.agg #[.slice none 0 0,.slice none 0 0,.slice none 0 0],kind:=.st,flds:=[(0,1,false),(1,1,false),(2,1,false)]}
theorem Zvl:Xp Tryz.prog 29 ZDO:=⟨by kernel_rfl,by kernel_rfl,by kernel_rfl,by kernel_rfl,by kernel_rfl⟩
def ZDJ:TI:={size:=1,bytes:=24,zero:=.slice none 0 0,kind:=.sl,elem:=35,esize:=4,ebytes:=96,ezero:=.agg #[.slice none 0 0,.slice none 0 0,.slice none 0 0,.slice none 0 0],eagg:=true,ety:=XZ}
theorem Zhb:Xp Tryz.prog 30 ZDJ:=⟨by kernel_rfl,by kernel_rfl,by kernel_rfl,by kernel_rfl,by kernel_rfl⟩
def ZDz:TI:={size:=5,bytes:=120,zero:=.agg #[.slice none 0 0,.slice none 0 0,.slice none 0 0,.slice none 0 0,.slice none 0 0],kind:=.st,flds:=[(0,1,true),(1,3,true),(4,1,false)]}
theorem Zvx:Xp Tryz.prog 32 ZDz:=⟨by kernel_rfl,by kernel_rfl,by kernel_rfl,by kernel_rfl,by kernel_rfl⟩
def Zxe:TI:={size:=1,bytes:=24,zero:=.slice none 0 0,kind:=.sl,elem:=2,esize:=1,ebytes:=8,ezero:=.int .i64 0,eagg:=false,ety:=.int .i64}
theorem Zu0:Xp Tryz.prog 33 Zxe:=⟨by kernel_rfl,by kernel_rfl,by kernel_rfl,by kernel_rfl,by kernel_rfl⟩
def ZDm:TI:={size:=4,bytes:=96,zero:=.agg #[.slice none 0 0,.slice none 0 0,.slice none 0 0,.slice none 0 0],kind:=.st,flds:=[(0,1,false),(1,1,false),(2,1,false),(3,1,false)]}
theorem ZvH:Xp Tryz.prog 35 ZDm:=⟨by kernel_rfl,by kernel_rfl,by kernel_rfl,by kernel_rfl,by kernel_rfl⟩
def ZDI:TI:={size:=10,bytes:=152,zero:=.agg #[.int .i64 0,.int .i64 0,.int .i64 0,.int .i64 0,.int .i64 0,.string ByteArray.empty,.slice none 0 0,.slice none 0 0,.slice none 0 0,.slice none 0 0],kind:=.st,flds:=[(0,1,false),(1,1,false),(2,1,false),(3,1,false),(4,1,false),(5,1,false),(6,4,true)]}
theorem Zvv:Xp Tryz.prog 37 ZDI:=⟨by kernel_rfl,by kernel_rfl,by kernel_rfl,by kernel_rfl,by kernel_rfl⟩
def ZDY:TI:={size:=1,bytes:=24,zero:=.slice none 0 0,kind:=.sl,elem:=124,esize:=11,ebytes:=96,ezero:=.agg #[.string ByteArray.empty,.int .i64 0,.int .i64 0,.int .i64 0,.int .i64 0,.int .i64 0,.int .i64 0,.bool false,.int .i64 0,.int .i64 0,.int .i64 0],eagg:=true,ety:=ZU}
theorem Zmj:Xp Tryz.prog 38 ZDY:=⟨by kernel_rfl,by kernel_rfl,by kernel_rfl,by kernel_rfl,by kernel_rfl⟩
def ZDk:TI:={size:=1,bytes:=24,zero:=.slice none 0 0,kind:=.sl,elem:=167,esize:=6,ebytes:=48,ezero:=.agg #[.int .i64 0,.int .i64 0,.int .i64 0,.int .i64 0,.int .i64 0,.int .i64 0],eagg:=true,ety:=Zx}
theorem Zms:Xp Tryz.prog 39 ZDk:=⟨by kernel_rfl,by kernel_rfl,by kernel_rfl,by kernel_rfl,by kernel_rfl⟩
def ZD1:TI:={size:=1,bytes:=24,zero:=.slice none 0 0,kind:=.sl,elem:=127,esize:=5,ebytes:=88,ezero:=.agg #[.int .i64 0,.int .i64 0,.slice none 0 0,.slice none 0 0,.slice none 0 0],eagg:=true,ety:=ZA}
theorem ZgK:Xp Tryz.prog 40 ZD1:=⟨by kernel_rfl,by kernel_rfl,by kernel_rfl,by kernel_rfl,by kernel_rfl⟩
def ZDR:TI:={size:=1,bytes:=24,zero:=.slice none 0 0,kind:=.sl,elem:=130,esize:=5,ebytes:=48,ezero:=.agg #[.string ByteArray.empty,.int .i64 0,.int .i64 0,.int .i64 0,.int .i64 0],eagg:=true,ety:=ZW}
theorem Zmx:Xp Tryz.prog 41 ZDR:=⟨by kernel_rfl,by kernel_rfl,by kernel_rfl,by kernel_rfl,by kernel_rfl⟩
def ZDU:TI:={size:=5,bytes:=120,zero:=.agg #[.slice none 0 0,.slice none 0 0,.slice none 0 0,.slice none 0 0,.slice none 0 0],kind:=.st,flds:=[(0,1,false),(1,1,false),(2,1,false),(3,1,false),(4,1,false)]}
theorem ZuX:Xp Tryz.prog 43 ZDU:=⟨by kernel_rfl,by kernel_rfl,by kernel_rfl,by kernel_rfl,by kernel_rfl⟩
def ZCn:TI:={size:=1,bytes:=24,zero:=.slice none 0 0,kind:=.sl,elem:=136,esize:=11,ebytes:=96,ezero:=.agg #[.string ByteArray.empty,.int .i64 0,.int .i64 0,.int .i64 0,.int .i64 0,.int .i64 0,.int .i64 0,.bool false,.int .i64 0,.int .i64 0,.int .i64 0],eagg:=true,ety:=ZU}
theorem Zmo:Xp Tryz.prog 47 ZCn:=⟨by kernel_rfl,by kernel_rfl,by kernel_rfl,by kernel_rfl,by kernel_rfl⟩
def ZDf:TI:={size:=1,bytes:=24,zero:=.slice none 0 0,kind:=.sl,elem:=163,esize:=6,ebytes:=48,ezero:=.agg #[.int .i64 0,.int .i64 0,.int .i64 0,.int .i64 0,.int .i64 0,.int .i64 0],eagg:=true,ety:=Zx}
theorem Zmw:Xp Tryz.prog 48 ZDf:=⟨by kernel_rfl,by kernel_rfl,by kernel_rfl,by kernel_rfl,by kernel_rfl⟩
def ZDo:TI:={size:=1,bytes:=24,zero:=.slice none 0 0,kind:=.sl,elem:=140,esize:=5,ebytes:=88,ezero:=.agg #[.int .i64 0,.int .i64 0,.slice none 0 0,.slice none 0 0,.slice none 0 0],eagg:=true,ety:=ZA}
theorem ZgY:Xp Tryz.prog 49 ZDo:=⟨by kernel_rfl,by kernel_rfl,by kernel_rfl,by kernel_rfl,by kernel_rfl⟩
def ZCM:TI:={size:=1,bytes:=24,zero:=.slice none 0 0,kind:=.sl,elem:=169,esize:=5,ebytes:=48,ezero:=.agg #[.string ByteArray.empty,.int .i64 0,.int .i64 0,.int .i64 0,.int .i64 0],eagg:=true,ety:=ZW}
theorem ZlW:Xp Tryz.prog 50 ZCM:=⟨by kernel_rfl,by kernel_rfl,by kernel_rfl,by kernel_rfl,by kernel_rfl⟩
def ZDH:TI:={size:=5,bytes:=120,zero:=.agg #[.slice none 0 0,.slice none 0 0,.slice none 0 0,.slice none 0 0,.slice none 0 0],kind:=.st,flds:=[(0,1,false),(1,1,false),(2,1,false),(3,1,false),(4,1,false)]}
theorem Zu5:Xp Tryz.prog 52 ZDH:=⟨by kernel_rfl,by kernel_rfl,by kernel_rfl,by kernel_rfl,by kernel_rfl⟩
def ZDl:TI:={size:=1,bytes:=24,zero:=.slice none 0 0,kind:=.sl,elem:=208,esize:=7,ebytes:=112,ezero:=.agg #[.string ByteArray.empty,.int .i64 0,.slice none 0 0,.slice none 0 0,.slice none 0 0,.int .i64 0,.int .i64 0],eagg:=true,ety:=XY}
theorem Zg3:Xp Tryz.prog 55 ZDl:=⟨by kernel_rfl,by kernel_rfl,by kernel_rfl,by kernel_rfl,by kernel_rfl⟩
def ZDK:TI:={size:=1,bytes:=24,zero:=.agg #[.slice none 0 0],kind:=.st,flds:=[(0,1,false)]}
theorem Zu7:Xp Tryz.prog 57 ZDK:=⟨by kernel_rfl,by kernel_rfl,by kernel_rfl,by kernel_rfl,by kernel_rfl⟩
def ZD2:TI:={size:=1,bytes:=24,zero:=.slice none 0 0,kind:=.sl,elem:=147,esize:=3,ebytes:=48,ezero:=.agg #[.string ByteArray.empty,.int .i64 0,.slice none 0 0],eagg:=true,ety:=ZX}
theorem ZgO:Xp Tryz.prog 58 ZD2:=⟨by kernel_rfl,by kernel_rfl,by kernel_rfl,by kernel_rfl,by kernel_rfl⟩
def ZCZ:TI:={size:=1,bytes:=24,zero:=.slice none 0 0,kind:=.sl,elem:=217,esize:=3,ebytes:=32,ezero:=.agg #[.string ByteArray.empty,.int .i64 0,.int .i64 0],eagg:=true,ety:=Jf}
theorem Zme:Xp Tryz.prog 59 ZCZ:=⟨by kernel_rfl,by kernel_rfl,by kernel_rfl,by kernel_rfl,by kernel_rfl⟩
def ZDT:TI:={size:=3,bytes:=72,zero:=.agg #[.slice none 0 0,.slice none 0 0,.slice none 0 0],kind:=.st,flds:=[(0,1,false),(1,1,false),(2,1,false)]}
theorem ZvI:Xp Tryz.prog 61 ZDT:=⟨by kernel_rfl,by kernel_rfl,by kernel_rfl,by kernel_rfl,by kernel_rfl⟩
def ZDp:TI:={size:=1,bytes:=24,zero:=.slice none 0 0,kind:=.sl,elem:=66,esize:=4,ebytes:=96,ezero:=.agg #[.slice none 0 0,.slice none 0 0,.slice none 0 0,.slice none 0 0],eagg:=true,ety:=XZ}
theorem Zhl:Xp Tryz.prog 62 ZDp:=⟨by kernel_rfl,by kernel_rfl,by kernel_rfl,by kernel_rfl,by kernel_rfl⟩
def ZDL:TI:={size:=5,bytes:=120,zero:=.agg #[.slice none 0 0,.slice none 0 0,.slice none 0 0,.slice none 0 0,.slice none 0 0],kind:=.st,flds:=[(0,1,true),(1,3,true),(4,1,false)]}
theorem ZvG:Xp Tryz.prog 64 ZDL:=⟨by kernel_rfl,by kernel_rfl,by kernel_rfl,by kernel_rfl,by kernel_rfl⟩
def ZDy:TI:={size:=4,bytes:=96,zero:=.agg #[.slice none 0 0,.slice none 0 0,.slice none 0 0,.slice none 0 0],kind:=.st,flds:=[(0,1,false),(1,1,false),(2,1,false),(3,1,false)]}
theorem ZvJ:Xp Tryz.prog 66 ZDy:=⟨by kernel_rfl,by kernel_rfl,by kernel_rfl,by kernel_rfl,by kernel_rfl⟩
def ZDu:TI:={size:=10,bytes:=152,zero:=.agg #[.int .i64 0,.int .i64 0,.int .i64 0,.int .i64 0,.int .i64 0,.string ByteArray.empty,.slice none 0 0,.slice none 0 0,.slice none 0 0,.slice none 0 0],kind:=.st,flds:=[(0,1,false),(1,1,false),(2,1,false),(3,1,false),(4,1,false),(5,1,false),(6,4,true)]}
theorem ZvN:Xp Tryz.prog 68 ZDu:=⟨by kernel_rfl,by kernel_rfl,by kernel_rfl,by kernel_rfl,by kernel_rfl⟩
def ZAU:TI:={size:=11,bytes:=96,zero:=.agg #[.string ByteArray.empty,.int .i64 0,.int .i64 0,.int .i64 0,.int .i64 0,.int .i64 0,.int .i64 0,.bool false,.int .i64 0,.int .i64 0,.int .i64 0],kind:=.st,flds:=[(0,1,false),(1,1,false),(2,1,false),(3,1,false),(4,1,false),(5,1,false),(6,1,false),(7,1,false),(8,1,false),(9,1,false),(10,1,false)],eqd:=.str 0 (.int .i64 1 (.int .i64 2 (.int .i64 3 (.int .i64 4 (.int .i64 5 (.int .i64 6 (.bool 7 (.int .i64 8 (.int .i64 9 (.int .i64 10 (.nil)))))))))))}
theorem ZsS:Xp Tryz.prog 124 ZAU:=⟨by kernel_rfl,by kernel_rfl,by kernel_rfl,by kernel_rfl,by kernel_rfl⟩
def Zz9:TI:={size:=5,bytes:=88,zero:=.agg #[.int .i64 0,.int .i64 0,.slice none 0 0,.slice none 0 0,.slice none 0 0],kind:=.st,flds:=[(0,1,false),(1,1,false),(2,1,false),(3,1,false),(4,1,false)]}
theorem ZtO:Xp Tryz.prog 127 Zz9:=⟨by kernel_rfl,by kernel_rfl,by kernel_rfl,by kernel_rfl,by kernel_rfl⟩
def ZAo:TI:={size:=5,bytes:=48,zero:=.agg #[.string ByteArray.empty,.int .i64 0,.int .i64 0,.int .i64 0,.int .i64 0],kind:=.st,flds:=[(0,1,false),(1,1,false),(2,1,false),(3,1,false),(4,1,false)],eqd:=.str 0 (.int .i64 1 (.int .i64 2 (.int .i64 3 (.int .i64 4 (.nil)))))}
theorem Zs1:Xp Tryz.prog 130 ZAo:=⟨by kernel_rfl,by kernel_rfl,by kernel_rfl,by kernel_rfl,by kernel_rfl⟩
def ZAX:TI:={size:=11,bytes:=96,zero:=.agg #[.string ByteArray.empty,.int .i64 0,.int .i64 0,.int .i64 0,.int .i64 0,.int .i64 0,.int .i64 0,.bool false,.int .i64 0,.int .i64 0,.int .i64 0],kind:=.st,flds:=[(0,1,false),(1,1,false),(2,1,false),(3,1,false),(4,1,false),(5,1,false),(6,1,false),(7,1,false),(8,1,false),(9,1,false),(10,1,false)],eqd:=.str 0 (.int .i64 1 (.int .i64 2 (.int .i64 3 (.int .i64 4 (.int .i64 5 (.int .i64 6 (.bool 7 (.int .i64 8 (.int .i64 9 (.int .i64 10 (.nil)))))))))))}
theorem Ztp:Xp Tryz.prog 136 ZAX:=⟨by kernel_rfl,by kernel_rfl,by kernel_rfl,by kernel_rfl,by kernel_rfl⟩
def Zzm:TI:={size:=1,bytes:=24,zero:=.slice none 0 0,kind:=.sl,elem:=149,esize:=4,ebytes:=32,ezero:=.agg #[.int .i64 0,.int .i64 0,.int .i64 0,.bool false],eagg:=true,ety:=Zg1}
theorem ZiF:Xp Tryz.prog 137 Zzm:=⟨by kernel_rfl,by kernel_rfl,by kernel_rfl,by kernel_rfl,by kernel_rfl⟩
def ZAq:TI:={size:=5,bytes:=88,zero:=.agg #[.int .i64 0,.int .i64 0,.slice none 0 0,.slice none 0 0,.slice none 0 0],kind:=.st,flds:=[(0,1,false),(1,1,false),(2,1,false),(3,1,false),(4,1,false)]}
theorem Zs3:Xp Tryz.prog 140 ZAq:=⟨by kernel_rfl,by kernel_rfl,by kernel_rfl,by kernel_rfl,by kernel_rfl⟩
def ZAB:TI:={size:=3,bytes:=48,zero:=.agg #[.string ByteArray.empty,.int .i64 0,.slice none 0 0],kind:=.st,flds:=[(0,1,false),(1,1,false),(2,1,false)]}
theorem ZsG:Xp Tryz.prog 147 ZAB:=⟨by kernel_rfl,by kernel_rfl,by kernel_rfl,by kernel_rfl,by kernel_rfl⟩
def ZzI:TI:={size:=4,bytes:=32,zero:=.agg #[.int .i64 0,.int .i64 0,.int .i64 0,.bool false],kind:=.st,flds:=[(0,1,false),(1,1,false),(2,1,false),(3,1,false)],eqd:=.int .i64 0 (.int .i64 1 (.int .i64 2 (.bool 3 (.nil))))}
theorem Ztd:Xp Tryz.prog 149 ZzI:=⟨by kernel_rfl,by kernel_rfl,by kernel_rfl,by kernel_rfl,by kernel_rfl⟩
def ZAH:TI:={size:=2,bytes:=16,zero:=.agg #[.int .i64 0,.int .i64 0],kind:=.st,flds:=[(0,1,false),(1,1,false)],eqd:=.int .i64 0 (.int .i64 1 (.nil))}
theorem Zs4:Xp Tryz.prog 161 ZAH:=⟨by kernel_rfl,by kernel_rfl,by kernel_rfl,by kernel_rfl,by kernel_rfl⟩
def ZzE:TI:={size:=6,bytes:=48,zero:=.agg #[.int .i64 0,.int .i64 0,.int .i64 0,.int .i64 0,.int .i64 0,.int .i64 0],kind:=.st,flds:=[(0,1,false),(1,1,false),(2,2,true),(4,2,true)],eqd:=.int .i64 0 (.int .i64 1 (.st 2 2 (.int .i64 0 (.int .i64 1 (.nil))) (.st 4 2 (.int .i64 0 (.int .i64 1 (.nil))) (.nil))))}
theorem Ztz:Xp Tryz.prog 163 ZzE:=⟨by kernel_rfl,by kernel_rfl,by kernel_rfl,by kernel_rfl,by kernel_rfl⟩
def Zzw:TI:={size:=2,bytes:=16,zero:=.agg #[.int .i64 0,.int .i64 0],kind:=.st,flds:=[(0,1,false),(1,1,false)],eqd:=.int .i64 0 (.int .i64 1 (.nil))}
theorem Zth:Xp Tryz.prog 165 Zzw:=⟨by kernel_rfl,by kernel_rfl,by kernel_rfl,by kernel_rfl,by kernel_rfl⟩
def ZzC:TI:={size:=6,bytes:=48,zero:=.agg #[.int .i64 0,.int .i64 0,.int .i64 0,.int .i64 0,.int .i64 0,.int .i64 0],kind:=.st,flds:=[(0,1,false),(1,1,false),(2,2,true),(4,2,true)],eqd:=.int .i64 0 (.int .i64 1 (.st 2 2 (.int .i64 0 (.int .i64 1 (.nil))) (.st 4 2 (.int .i64 0 (.int .i64 1 (.nil))) (.nil))))}
theorem Zte:Xp Tryz.prog 167 ZzC:=⟨by kernel_rfl,by kernel_rfl,by kernel_rfl,by kernel_rfl,by kernel_rfl⟩
def Zzs:TI:={size:=5,bytes:=48,zero:=.agg #[.string ByteArray.empty,.int .i64 0,.int .i64 0,.int .i64 0,.int .i64 0],kind:=.st,flds:=[(0,1,false),(1,1,false),(2,1,false),(3,1,false),(4,1,false)],eqd:=.str 0 (.int .i64 1 (.int .i64 2 (.int .i64 3 (.int .i64 4 (.nil)))))}
theorem ZsE:Xp Tryz.prog 169 Zzs:=⟨by kernel_rfl,by kernel_rfl,by kernel_rfl,by kernel_rfl,by kernel_rfl⟩
def Zze:TI:={size:=1,bytes:=8,zero:=.pointer none,kind:=.ptr}
theorem ZtN:Xp Tryz.prog 172 Zze:=⟨by kernel_rfl,by kernel_rfl,by kernel_rfl,by kernel_rfl,by kernel_rfl⟩
def Zzb:TI:={size:=1,bytes:=24,zero:=.slice none 0 0,kind:=.sl,elem:=310,esize:=4,ebytes:=40,ezero:=.agg #[.string ByteArray.empty,.int .i64 0,.int .i64 0,.bool false],eagg:=true,ety:=ZdU}
theorem Zi1:Xp Tryz.prog 191 Zzb:=⟨by kernel_rfl,by kernel_rfl,by kernel_rfl,by kernel_rfl,by kernel_rfl⟩
def ZAv:TI:={size:=1,bytes:=24,zero:=.slice none 0 0,kind:=.sl,elem:=314,esize:=6,ebytes:=80,ezero:=.agg #[.int .i64 0,.int .i64 0,.int .i64 0,.int .i64 0,.slice none 0 0,.slice none 0 0],eagg:=true,ety:=ZfF}
theorem Zd0:Xp Tryz.prog 192 ZAv:=⟨by kernel_rfl,by kernel_rfl,by kernel_rfl,by kernel_rfl,by kernel_rfl⟩
def Zz4:TI:={size:=7,bytes:=112,zero:=.agg #[.string ByteArray.empty,.int .i64 0,.slice none 0 0,.slice none 0 0,.slice none 0 0,.int .i64 0,.int .i64 0],kind:=.st,flds:=[(0,1,false),(1,1,false),(2,1,false),(3,1,false),(4,1,false),(5,1,false),(6,1,false)]}
theorem Ztt:Xp Tryz.prog 194 Zz4:=⟨by kernel_rfl,by kernel_rfl,by kernel_rfl,by kernel_rfl,by kernel_rfl⟩
def Zzu:TI:={size:=3,bytes:=48,zero:=.agg #[.string ByteArray.empty,.int .i64 0,.slice none 0 0],kind:=.st,flds:=[(0,1,false),(1,1,false),(2,1,false)]}
theorem ZtG:Xp Tryz.prog 196 Zzu:=⟨by kernel_rfl,by kernel_rfl,by kernel_rfl,by kernel_rfl,by kernel_rfl⟩
def Zzh:TI:={size:=3,bytes:=32,zero:=.agg #[.string ByteArray.empty,.int .i64 0,.int .i64 0],kind:=.st,flds:=[(0,1,false),(1,1,false),(2,1,false)],eqd:=.str 0 (.int .i64 1 (.int .i64 2 (.nil)))}
theorem ZsP:Xp Tryz.prog 199 Zzh:=⟨by kernel_rfl,by kernel_rfl,by kernel_rfl,by kernel_rfl,by kernel_rfl⟩
def ZyO:TI:={size:=1,bytes:=24,zero:=.slice none 0 0,kind:=.sl,elem:=274,esize:=4,ebytes:=40,ezero:=.agg #[.string ByteArray.empty,.int .i64 0,.int .i64 0,.bool false],eagg:=true,ety:=ZdU}
theorem ZiW:Xp Tryz.prog 205 ZyO:=⟨by kernel_rfl,by kernel_rfl,by kernel_rfl,by kernel_rfl,by kernel_rfl⟩
def ZAA:TI:={size:=1,bytes:=24,zero:=.slice none 0 0,kind:=.sl,elem:=292,esize:=6,ebytes:=80,ezero:=.agg #[.int .i64 0,.int .i64 0,.int .i64 0,.int .i64 0,.slice none 0 0,.slice none 0 0],eagg:=true,ety:=ZfF}
theorem Zei:Xp Tryz.prog 206 ZAA:=⟨by kernel_rfl,by kernel_rfl,by kernel_rfl,by kernel_rfl,by kernel_rfl⟩
def Zz0:TI:={size:=7,bytes:=112,zero:=.agg #[.string ByteArray.empty,.int .i64 0,.slice none 0 0,.slice none 0 0,.slice none 0 0,.int .i64 0,.int .i64 0],kind:=.st,flds:=[(0,1,false),(1,1,false),(2,1,false),(3,1,false),(4,1,false),(5,1,false),(6,1,false)]}
theorem Zsz:Xp Tryz.prog 208 Zz0:=⟨by kernel_rfl,by kernel_rfl,by kernel_rfl,by kernel_rfl,by kernel_rfl⟩
def ZzD:TI:={size:=3,bytes:=24,zero:=.agg #[.int .i64 0,.int .i64 0,.int .i64 0],kind:=.st,flds:=[(0,1,false),(1,1,false),(2,1,false)],eqd:=.int .i64 0 (.int .i64 1 (.int .i64 2 (.nil)))}
theorem ZtF:Xp Tryz.prog 214 ZzD:=⟨by kernel_rfl,by kernel_rfl,by kernel_rfl,by kernel_rfl,by kernel_rfl⟩
def ZAp:TI:={size:=3,bytes:=32,zero:=.agg #[.string ByteArray.empty,.int .i64 0,.int .i64 0],kind:=.st,flds:=[(0,1,false),(1,1,false),(2,1,false)],eqd:=.str 0 (.int .i64 1 (.int .i64 2 (.nil)))}
theorem ZsJ:Xp Tryz.prog 217 ZAp:=⟨by kernel_rfl,by kernel_rfl,by kernel_rfl,by kernel_rfl,by kernel_rfl⟩
def ZAg:TI:={size:=1,bytes:=24,zero:=.slice none 0 0,kind:=.sl,elem:=230,esize:=4,ebytes:=32,ezero:=.agg #[.int .i64 0,.int .i64 0,.int .i64 0,.bool false],eagg:=true,ety:=ZlD}
theorem ZiU:Xp Tryz.prog 227 ZAg:=⟨by kernel_rfl,by kernel_rfl,by kernel_rfl,by kernel_rfl,by kernel_rfl⟩
def ZAR:TI:={size:=4,bytes:=32,zero:=.agg #[.int .i64 0,.int .i64 0,.int .i64 0,.bool false],kind:=.st,flds:=[(0,1,false),(1,1,false),(2,1,false),(3,1,false)],eqd:=.int .i64 0 (.int .i64 1 (.int .i64 2 (.bool 3 (.nil))))}
theorem ZsH:Xp Tryz.prog 230 ZAR:=⟨by kernel_rfl,by kernel_rfl,by kernel_rfl,by kernel_rfl,by kernel_rfl⟩
def ZAz:TI:={size:=1,bytes:=24,zero:=.slice none 0 0,kind:=.sl,elem:=239,esize:=4,ebytes:=32,ezero:=.agg #[.int .i64 0,.int .i64 0,.int .i64 0,.int .i64 0],eagg:=true,ety:=Zqf}
theorem Zi3:Xp Tryz.prog 231 ZAz:=⟨by kernel_rfl,by kernel_rfl,by kernel_rfl,by kernel_rfl,by kernel_rfl⟩
def ZzK:TI:={size:=1,bytes:=24,zero:=.slice none 0 0,kind:=.sl,elem:=33,esize:=1,ebytes:=24,ezero:=.slice none 0 0,eagg:=false,ety:=.sl (.int .i64)}
theorem ZeC:Xp Tryz.prog 232 ZzK:=⟨by kernel_rfl,by kernel_rfl,by kernel_rfl,by kernel_rfl,by kernel_rfl⟩
def ZAl:TI:={size:=10,bytes:=240,zero:=.agg #[.slice none 0 0,.slice none 0 0,.slice none 0 0,.slice none 0 0,.slice none 0 0,.slice none 0 0,.slice none 0 0,.slice none 0 0,.slice none 0 0,.slice none 0 0],kind:=.st,flds:=[(0,5,true),(5,1,false),(6,1,false),(7,1,false),(8,1,false),(9,1,false)]}
theorem ZtR:Xp Tryz.prog 234 ZAl:=⟨by kernel_rfl,by kernel_rfl,by kernel_rfl,by kernel_rfl,by kernel_rfl⟩
def ZzN:TI:={size:=4,bytes:=32,zero:=.agg #[.int .i64 0,.int .i64 0,.int .i64 0,.int .i64 0],kind:=.st,flds:=[(0,1,false),(1,1,false),(2,1,false),(3,1,false)],eqd:=.int .i64 0 (.int .i64 1 (.int .i64 2 (.int .i64 3 (.nil))))}
theorem ZsV:Xp Tryz.prog 239 ZzN:=⟨by kernel_rfl,by kernel_rfl,by kernel_rfl,by kernel_rfl,by kernel_rfl⟩
def ZAO:TI:={size:=1,bytes:=8,zero:=.pointer none,kind:=.ptr}
theorem ZtE:Xp Tryz.prog 249 ZAO:=⟨by kernel_rfl,by kernel_rfl,by kernel_rfl,by kernel_rfl,by kernel_rfl⟩
def Zzj:TI:={size:=1,bytes:=8,zero:=.pointer none,kind:=.ptr}
theorem Ztc:Xp Tryz.prog 250 Zzj:=⟨by kernel_rfl,by kernel_rfl,by kernel_rfl,by kernel_rfl,by kernel_rfl⟩
def Zzc:TI:={size:=2,bytes:=16,zero:=.agg #[.int .i64 0,.int .i64 0],kind:=.st,flds:=[(0,1,false),(1,1,false)],eqd:=.int .i64 0 (.int .i64 1 (.nil))}
theorem Zto:Xp Tryz.prog 256 Zzc:=⟨by kernel_rfl,by kernel_rfl,by kernel_rfl,by kernel_rfl,by kernel_rfl⟩
def Zuf:TI:={size:=1,bytes:=8,zero:=.map none,kind:=.mp 256 2,ty:=ZbV,ety:=.int .i64}
theorem ZtI:Xp Tryz.prog 258 Zuf:=⟨by kernel_rfl,by kernel_rfl,by kernel_rfl,by kernel_rfl,by kernel_rfl⟩
def ZAW:TI:={size:=1,bytes:=24,zero:=.slice none 0 0,kind:=.sl,elem:=5,esize:=1,ebytes:=1,ezero:=.int .u8 0,eagg:=false,ety:=.int .u8}
theorem ZsT:Xp Tryz.prog 268 ZAW:=⟨by kernel_rfl,by kernel_rfl,by kernel_rfl,by kernel_rfl,by kernel_rfl⟩
def ZzL:TI:={size:=4,bytes:=40,zero:=.agg #[.string ByteArray.empty,.int .i64 0,.int .i64 0,.bool false],kind:=.st,flds:=[(0,1,false),(1,1,false),(2,1,false),(3,1,false)],eqd:=.str 0 (.int .i64 1 (.int .i64 2 (.bool 3 (.nil))))}
theorem Zs8:Xp Tryz.prog 274 ZzL:=⟨by kernel_rfl,by kernel_rfl,by kernel_rfl,by kernel_rfl,by kernel_rfl⟩
def Zu8:TI:={size:=1,bytes:=24,zero:=.slice none 0 0,kind:=.sl,elem:=3,esize:=1,ebytes:=8,ezero:=.int .i64 0,eagg:=false,ety:=.int .i64}
theorem Ztg:Xp Tryz.prog 281 Zu8:=⟨by kernel_rfl,by kernel_rfl,by kernel_rfl,by kernel_rfl,by kernel_rfl⟩
def ZzG:TI:={size:=1,bytes:=24,zero:=.slice none 0 0,kind:=.sl,elem:=337,esize:=3,ebytes:=72,ezero:=.agg #[.slice none 0 0,.slice none 0 0,.slice none 0 0],eagg:=true,ety:=YZ}
theorem Zd5:Xp Tryz.prog 290 ZzG:=⟨by kernel_rfl,by kernel_rfl,by kernel_rfl,by kernel_rfl,by kernel_rfl⟩
def ZzQ:TI:={size:=6,bytes:=80,zero:=.agg #[.int .i64 0,.int .i64 0,.int .i64 0,.int .i64 0,.slice none 0 0,.slice none 0 0],kind:=.st,flds:=[(0,1,false),(1,1,false),(2,1,false),(3,1,false),(4,1,false),(5,1,false)]}
theorem Zst:Xp Tryz.prog 292 ZzQ:=⟨by kernel_rfl,by kernel_rfl,by kernel_rfl,by kernel_rfl,by kernel_rfl⟩
def Zzg:TI:={size:=1,bytes:=24,zero:=.slice none 0 0,kind:=.sl,elem:=295,esize:=2,ebytes:=16,ezero:=.agg #[.int .i64 0,.int .i64 0],eagg:=true,ety:=.pair (.int .i64) (.pair (.int .i64) (.unit))}
theorem Zi2:Xp Tryz.prog 293 Zzg:=⟨by kernel_rfl,by kernel_rfl,by kernel_rfl,by kernel_rfl,by kernel_rfl⟩
def ZzT:TI:={size:=2,bytes:=16,zero:=.agg #[.int .i64 0,.int .i64 0],kind:=.arr 2,elem:=2,esize:=1,ebytes:=8,ezero:=.int .i64 0,eagg:=false,ety:=.int .i64}
theorem ZsL:Xp Tryz.prog 295 ZzT:=⟨by kernel_rfl,by kernel_rfl,by kernel_rfl,by kernel_rfl,by kernel_rfl⟩
def ZzA:TI:={size:=1,bytes:=8,zero:=.pointer none,kind:=.ptr}
theorem Ztb:Xp Tryz.prog 303 ZzA:=⟨by kernel_rfl,by kernel_rfl,by kernel_rfl,by kernel_rfl,by kernel_rfl⟩
def ZAj:TI:={size:=1,bytes:=8,zero:=.pointer none,kind:=.ptr}
theorem ZtU:Xp Tryz.prog 305 ZAj:=⟨by kernel_rfl,by kernel_rfl,by kernel_rfl,by kernel_rfl,by kernel_rfl⟩
def Zzi:TI:={size:=4,bytes:=40,zero:=.agg #[.string ByteArray.empty,.int .i64 0,.int .i64 0,.bool false],kind:=.st,flds:=[(0,1,false),(1,1,false),(2,1,false),(3,1,false)],eqd:=.str 0 (.int .i64 1 (.int .i64 2 (.bool 3 (.nil))))}
theorem Ztk:Xp Tryz.prog 310 Zzi:=⟨by kernel_rfl,by kernel_rfl,by kernel_rfl,by kernel_rfl,by kernel_rfl⟩
def ZAh:TI:={size:=1,bytes:=24,zero:=.slice none 0 0,kind:=.sl,elem:=357,esize:=3,ebytes:=72,ezero:=.agg #[.slice none 0 0,.slice none 0 0,.slice none 0 0],eagg:=true,ety:=YZ}
theorem Zee:Xp Tryz.prog 312 ZAh:=⟨by kernel_rfl,by kernel_rfl,by kernel_rfl,by kernel_rfl,by kernel_rfl⟩
def Zz6:TI:={size:=6,bytes:=80,zero:=.agg #[.int .i64 0,.int .i64 0,.int .i64 0,.int .i64 0,.slice none 0 0,.slice none 0 0],kind:=.st,flds:=[(0,1,false),(1,1,false),(2,1,false),(3,1,false),(4,1,false),(5,1,false)]}
theorem ZsN:Xp Tryz.prog 314 Zz6:=⟨by kernel_rfl,by kernel_rfl,by kernel_rfl,by kernel_rfl,by kernel_rfl⟩
def ZAw:TI:={size:=3,bytes:=24,zero:=.agg #[.int .i64 0,.int .i64 0,.int .i64 0],kind:=.st,flds:=[(0,1,false),(1,2,true)]}
theorem Zs6:Xp Tryz.prog 328 ZAw:=⟨by kernel_rfl,by kernel_rfl,by kernel_rfl,by kernel_rfl,by kernel_rfl⟩
def Zzx:TI:={size:=3,bytes:=72,zero:=.agg #[.slice none 0 0,.slice none 0 0,.slice none 0 0],kind:=.st,flds:=[(0,1,false),(1,1,false),(2,1,false)]}
theorem Zs0:Xp Tryz.prog 337 Zzx:=⟨by kernel_rfl,by kernel_rfl,by kernel_rfl,by kernel_rfl,by kernel_rfl⟩
def ZzH:TI:={size:=1,bytes:=8,zero:=.int .u64 0,kind:=.int .u64}
theorem ZsO:Xp Tryz.prog 343 ZzH:=⟨by kernel_rfl,by kernel_rfl,by kernel_rfl,by kernel_rfl,by kernel_rfl⟩
def ZAF:TI:={size:=3,bytes:=72,zero:=.agg #[.slice none 0 0,.slice none 0 0,.slice none 0 0],kind:=.st,flds:=[(0,1,false),(1,1,false),(2,1,false)]}
theorem Zsy:Xp Tryz.prog 357 ZAF:=⟨by kernel_rfl,by kernel_rfl,by kernel_rfl,by kernel_rfl,by kernel_rfl⟩
theorem ZGa {P:Program}:Tab.ok [] P:=fun x hx=>by cases hx
theorem Zz {P:Program} {t:Nat} {ti:TI} {r:Tab} (h:Xp P t ti) (hr:Tab.ok r P):Tab.ok ((t,ti)::r) P:=fun x hx=>by
 rcases List.mem_cons.1 hx with rfl | hx
 ·exact h
 ·exact hr x hx
def tab:Tab:=[(2,ti2),(3,ti3),(4,ti4),(5,ti5),(6,ti6),(7,ti7),(8,ti8),(9,ti9),(10,ZDN),(22,ZDr),(24,ZDA),(25,ZDD),(26,ZCF),(27,ZDs),(29,ZDO),(30,ZDJ),(32,ZDz),(33,Zxe),(35,ZDm),(37,ZDI),(38,ZDY),(39,ZDk),(40,ZD1),(41,ZDR),(43,ZDU),(47,ZCn),(48,ZDf),(49,ZDo),(50,ZCM),(52,ZDH),(55,ZDl),(57,ZDK),(58,ZD2),(59,ZCZ),(61,ZDT),(62,ZDp),(64,ZDL),(66,ZDy),(68,ZDu),(124,ZAU),(127,Zz9),(130,ZAo),(136,ZAX),(137,Zzm),(140,ZAq),(147,ZAB),(149,ZzI),(161,ZAH),(163,ZzE),(165,Zzw),(167,ZzC),(169,Zzs),(172,Zze),(191,Zzb),(192,ZAv),(194,Zz4),(196,Zzu),(199,Zzh),(205,ZyO),(206,ZAA),(208,Zz0),(214,ZzD),(217,ZAp),(227,ZAg),(230,ZAR),(231,ZAz),(232,ZzK),(234,ZAl),(239,ZzN),(249,ZAO),(250,Zzj),(256,Zzc),(258,Zuf),(268,ZAW),(274,ZzL),(281,Zu8),(290,ZzG),(292,ZzQ),(293,Zzg),(295,ZzT),(303,ZzA),(305,ZAj),(310,Zzi),(312,ZAh),(314,Zz6),(328,ZAw),(337,Zzx),(343,ZzH),(357,ZAF)]
theorem Zq:tab.ok Tryz.prog :=
 Zz (ZyS) <| Zz (ZyG) <| Zz (Zy6) <| Zz (Zx2) <| Zz (Zyi) <| Zz (ZyE) <| Zz (ZxF) <| Zz (Zyu) <| Zz (Zvd) <| Zz (ZgL) <| Zz (Zvo) <| Zz (ZgX) <| Zz (Zl2) <| Zz (Zmn) <| Zz (Zvl) <| Zz (Zhb) <| Zz (Zvx) <| Zz (Zu0) <| Zz (ZvH) <| Zz (Zvv) <| Zz (Zmj) <| Zz (Zms) <| Zz (ZgK) <| Zz (Zmx) <| Zz (ZuX) <| Zz (Zmo) <| Zz (Zmw) <| Zz (ZgY) <| Zz (ZlW) <| Zz (Zu5) <| Zz (Zg3) <| Zz (Zu7) <| Zz (ZgO) <| Zz (Zme) <| Zz (ZvI) <| Zz (Zhl) <| Zz (ZvG) <| Zz (ZvJ) <| Zz (ZvN) <| Zz (ZsS) <| Zz (ZtO) <| Zz (Zs1) <| Zz (Ztp) <| Zz (ZiF) <| Zz (Zs3) <| Zz (ZsG) <| Zz (Ztd) <| Zz (Zs4) <| Zz (Ztz) <| Zz (Zth) <| Zz (Zte) <| Zz (ZsE) <| Zz (ZtN) <| Zz (Zi1) <| Zz (Zd0) <| Zz (Ztt) <| Zz (ZtG) <| Zz (ZsP) <| Zz (ZiW) <| Zz (Zei) <| Zz (Zsz) <| Zz (ZtF) <| Zz (ZsJ) <| Zz (ZiU) <| Zz (ZsH) <| Zz (Zi3) <| Zz (ZeC) <| Zz (ZtR) <| Zz (ZsV) <| Zz (ZtE) <| Zz (Ztc) <| Zz (Zto) <| Zz (ZtI) <| Zz (ZsT) <| Zz (Zs8) <| Zz (Ztg) <| Zz (Zd5) <| Zz (Zst) <| Zz (Zi2) <| Zz (ZsL) <| Zz (Ztb) <| Zz (ZtU) <| Zz (Ztk) <| Zz (Zee) <| Zz (ZsN) <| Zz (Zs6) <| Zz (Zs0) <| Zz (ZsO) <| Zz (Zsy) <| ZGa
def ZGn:TI:={ZDr with edp:=some (Zps)}
def ZFb:TI:={ZDD with edp:=some (Zcf)}
def ZGw:TI:={ZDJ with edp:=some (Zlc)}
def ZEw:TI:={ZD1 with edp:=some (Zay)}
def ZFd:TI:={ZDo with edp:=some (Zay)}
def ZFz:TI:={ZDl with edp:=some (Zps)}
def ZFF:TI:={ZD2 with edp:=some (Zcf)}
def ZEe:TI:={ZDp with edp:=some (Zlc)}
def ZDh:TI:={ZAv with edp:=some (Zxk)}
def ZCV:TI:={ZAA with edp:=some (Zxk)}
def ZCm:TI:={ZzK with edp:=some (.ol 2 (.flat (.int .i64)))}
def ZCA:TI:={ZzG with edp:=some (ZfI)}
def ZDi:TI:={ZAh with edp:=some (ZfI)}
def ZGh:TI:={ZDr with cut:=true,edp:=some (Zps)}
def ZEs:TI:={ZDD with cut:=true,edp:=some (Zcf)}
def ZEi:TI:={ZCF with cut:=true}
def ZFn:TI:={ZDs with cut:=true}
def ZGy:TI:={ZDJ with cut:=true,edp:=some (Zlc)}
def ZEo:TI:={ZDY with cut:=true}
def ZFS:TI:={ZDk with cut:=true}
def ZGF:TI:={ZD1 with cut:=true,edp:=some (Zay)}
def ZGO:TI:={ZDR with cut:=true}
def ZFw:TI:={ZCn with cut:=true}
def ZEy:TI:={ZDf with cut:=true}
def ZGI:TI:={ZDo with cut:=true,edp:=some (Zay)}
def ZE7:TI:={ZCM with cut:=true}
def ZGs:TI:={ZDl with cut:=true,edp:=some (Zps)}
def ZE9:TI:={ZD2 with cut:=true,edp:=some (Zcf)}
def ZFx:TI:={ZCZ with cut:=true}
def ZFi:TI:={ZDp with cut:=true,edp:=some (Zlc)}
def ZC2:TI:={Zzm with cut:=true}
def ZCQ:TI:={Zzb with cut:=true}
def ZCr:TI:={ZAv with cut:=true,edp:=some (Zxk)}
def ZC8:TI:={ZyO with cut:=true}
def ZCO:TI:={ZAA with cut:=true,edp:=some (Zxk)}
def ZCW:TI:={ZAg with cut:=true}
def ZCE:TI:={ZAz with cut:=true}
def ZCG:TI:={ZzK with cut:=true,edp:=some (.ol 2 (.flat (.int .i64)))}
def ZCH:TI:={ZzG with cut:=true,edp:=some (ZfI)}
def ZC3:TI:={Zzg with cut:=true}
def ZCD:TI:={ZAh with cut:=true,edp:=some (ZfI)}
def ZIQ:Tab:=[(2,ti2),(3,ti3),(4,ti4),(5,ti5),(6,ti6),(7,ti7),(8,ti8),(9,ti9),(10,ZDN),(22,ZGn),(24,ZDA),(25,ZFb),(26,ZCF),(27,ZDs),(29,ZDO),(30,ZGw),(32,ZDz),(33,Zxe),(35,ZDm),(37,ZDI),(38,ZDY),(39,ZDk),(40,ZEw),(41,ZDR),(43,ZDU),(47,ZCn),(48,ZDf),(49,ZFd),(50,ZCM),(52,ZDH),(55,ZFz),(57,ZDK),(58,ZFF),(59,ZCZ),(61,ZDT),(62,ZEe),(64,ZDL),(66,ZDy),(68,ZDu),(124,ZAU),(127,Zz9),(130,ZAo),(136,ZAX),(137,Zzm),(140,ZAq),(147,ZAB),(149,ZzI),(161,ZAH),(163,ZzE),(165,Zzw),(167,ZzC),(169,Zzs),(172,Zze),(191,Zzb),(192,ZDh),(194,Zz4),(196,Zzu),(199,Zzh),(205,ZyO),(206,ZCV),(208,Zz0),(214,ZzD),(217,ZAp),(227,ZAg),(230,ZAR),(231,ZAz),(232,ZCm),(234,ZAl),(239,ZzN),(249,ZAO),(250,Zzj),(256,Zzc),(258,Zuf),(268,ZAW),(274,ZzL),(281,Zu8),(290,ZCA),(292,ZzQ),(293,Zzg),(295,ZzT),(303,ZzA),(305,ZAj),(310,Zzi),(312,ZDi),(314,Zz6),(328,ZAw),(337,Zzx),(343,ZzH),(357,ZAF)]
theorem Yv:ZIQ.ok Tryz.prog :=
 Zz (ZyS) <| Zz (ZyG) <| Zz (Zy6) <| Zz (Zx2) <| Zz (Zyi) <| Zz (ZyE) <| Zz (ZxF) <| Zz (Zyu) <| Zz (Zvd) <| Zz (⟨ZgL.info,ZgL.kind,ZgL.flds,ZgL.elem,ZgL.eqd⟩) <| Zz (Zvo) <| Zz (⟨ZgX.info,ZgX.kind,ZgX.flds,ZgX.elem,ZgX.eqd⟩) <| Zz (Zl2) <| Zz (Zmn) <| Zz (Zvl) <| Zz (⟨Zhb.info,Zhb.kind,Zhb.flds,Zhb.elem,Zhb.eqd⟩) <| Zz (Zvx) <| Zz (Zu0) <| Zz (ZvH) <| Zz (Zvv) <| Zz (Zmj) <| Zz (Zms) <| Zz (⟨ZgK.info,ZgK.kind,ZgK.flds,ZgK.elem,ZgK.eqd⟩) <| Zz (Zmx) <| Zz (ZuX) <| Zz (Zmo) <| Zz (Zmw) <| Zz (⟨ZgY.info,ZgY.kind,ZgY.flds,ZgY.elem,ZgY.eqd⟩) <| Zz (ZlW) <| Zz (Zu5) <| Zz (⟨Zg3.info,Zg3.kind,Zg3.flds,Zg3.elem,Zg3.eqd⟩) <| Zz (Zu7) <| Zz (⟨ZgO.info,ZgO.kind,ZgO.flds,ZgO.elem,ZgO.eqd⟩) <| Zz (Zme) <| Zz (ZvI) <| Zz (⟨Zhl.info,Zhl.kind,Zhl.flds,Zhl.elem,Zhl.eqd⟩) <| Zz (ZvG) <| Zz (ZvJ) <| Zz (ZvN) <| Zz (ZsS) <| Zz (ZtO) <| Zz (Zs1) <| Zz (Ztp) <| Zz (ZiF) <| Zz (Zs3) <| Zz (ZsG) <| Zz (Ztd) <| Zz (Zs4) <| Zz (Ztz) <| Zz (Zth) <| Zz (Zte) <| Zz (ZsE) <| Zz (ZtN) <| Zz (Zi1) <| Zz (⟨Zd0.info,Zd0.kind,Zd0.flds,Zd0.elem,Zd0.eqd⟩) <| Zz (Ztt) <| Zz (ZtG) <| Zz (ZsP) <| Zz (ZiW) <| Zz (⟨Zei.info,Zei.kind,Zei.flds,Zei.elem,Zei.eqd⟩) <| Zz (Zsz) <| Zz (ZtF) <| Zz (ZsJ) <| Zz (ZiU) <| Zz (ZsH) <| Zz (Zi3) <| Zz (⟨ZeC.info,ZeC.kind,ZeC.flds,ZeC.elem,ZeC.eqd⟩) <| Zz (ZtR) <| Zz (ZsV) <| Zz (ZtE) <| Zz (Ztc) <| Zz (Zto) <| Zz (ZtI) <| Zz (ZsT) <| Zz (Zs8) <| Zz (Ztg) <| Zz (⟨Zd5.info,Zd5.kind,Zd5.flds,Zd5.elem,Zd5.eqd⟩) <| Zz (Zst) <| Zz (Zi2) <| Zz (ZsL) <| Zz (Ztb) <| Zz (ZtU) <| Zz (Ztk) <| Zz (⟨Zee.info,Zee.kind,Zee.flds,Zee.elem,Zee.eqd⟩) <| Zz (ZsN) <| Zz (Zs6) <| Zz (Zs0) <| Zz (ZsO) <| Zz (Zsy) <| ZGa
def ZJ3:Tab:=[(2,ti2),(3,ti3),(4,ti4),(5,ti5),(6,ti6),(7,ti7),(8,ti8),(9,ti9),(10,ZDN),(22,ZGh),(24,ZDA),(25,ZEs),(26,ZEi),(27,ZFn),(29,ZDO),(30,ZGy),(32,ZDz),(33,Zxe),(35,ZDm),(37,ZDI),(38,ZEo),(39,ZFS),(40,ZGF),(41,ZGO),(43,ZDU),(47,ZFw),(48,ZEy),(49,ZGI),(50,ZE7),(52,ZDH),(55,ZGs),(57,ZDK),(58,ZE9),(59,ZFx),(61,ZDT),(62,ZFi),(64,ZDL),(66,ZDy),(68,ZDu),(124,ZAU),(127,Zz9),(130,ZAo),(136,ZAX),(137,ZC2),(140,ZAq),(147,ZAB),(149,ZzI),(161,ZAH),(163,ZzE),(165,Zzw),(167,ZzC),(169,Zzs),(172,Zze),(191,ZCQ),(192,ZCr),(194,Zz4),(196,Zzu),(199,Zzh),(205,ZC8),(206,ZCO),(208,Zz0),(214,ZzD),(217,ZAp),(227,ZCW),(230,ZAR),(231,ZCE),(232,ZCG),(234,ZAl),(239,ZzN),(249,ZAO),(250,Zzj),(256,Zzc),(258,Zuf),(268,ZAW),(274,ZzL),(281,Zu8),(290,ZCH),(292,ZzQ),(293,ZC3),(295,ZzT),(303,ZzA),(305,ZAj),(310,Zzi),(312,ZCD),(314,Zz6),(328,ZAw),(337,Zzx),(343,ZzH),(357,ZAF)]
theorem ZxL:ZJ3.ok Tryz.prog :=
 Zz (ZyS) <| Zz (ZyG) <| Zz (Zy6) <| Zz (Zx2) <| Zz (Zyi) <| Zz (ZyE) <| Zz (ZxF) <| Zz (Zyu) <| Zz (Zvd) <| Zz (⟨ZgL.info,ZgL.kind,ZgL.flds,ZgL.elem,ZgL.eqd⟩) <| Zz (Zvo) <| Zz (⟨ZgX.info,ZgX.kind,ZgX.flds,ZgX.elem,ZgX.eqd⟩) <| Zz (⟨Zl2.info,Zl2.kind,Zl2.flds,Zl2.elem,Zl2.eqd⟩) <| Zz (⟨Zmn.info,Zmn.kind,Zmn.flds,Zmn.elem,Zmn.eqd⟩) <| Zz (Zvl) <| Zz (⟨Zhb.info,Zhb.kind,Zhb.flds,Zhb.elem,Zhb.eqd⟩) <| Zz (Zvx) <| Zz (Zu0) <| Zz (ZvH) <| Zz (Zvv) <| Zz (⟨Zmj.info,Zmj.kind,Zmj.flds,Zmj.elem,Zmj.eqd⟩) <| Zz (⟨Zms.info,Zms.kind,Zms.flds,Zms.elem,Zms.eqd⟩) <| Zz (⟨ZgK.info,ZgK.kind,ZgK.flds,ZgK.elem,ZgK.eqd⟩) <| Zz (⟨Zmx.info,Zmx.kind,Zmx.flds,Zmx.elem,Zmx.eqd⟩) <| Zz (ZuX) <| Zz (⟨Zmo.info,Zmo.kind,Zmo.flds,Zmo.elem,Zmo.eqd⟩) <| Zz (⟨Zmw.info,Zmw.kind,Zmw.flds,Zmw.elem,Zmw.eqd⟩) <| Zz (⟨ZgY.info,ZgY.kind,ZgY.flds,ZgY.elem,ZgY.eqd⟩) <| Zz (⟨ZlW.info,ZlW.kind,ZlW.flds,ZlW.elem,ZlW.eqd⟩) <| Zz (Zu5) <| Zz (⟨Zg3.info,Zg3.kind,Zg3.flds,Zg3.elem,Zg3.eqd⟩) <| Zz (Zu7) <| Zz (⟨ZgO.info,ZgO.kind,ZgO.flds,ZgO.elem,ZgO.eqd⟩) <| Zz (⟨Zme.info,Zme.kind,Zme.flds,Zme.elem,Zme.eqd⟩) <| Zz (ZvI) <| Zz (⟨Zhl.info,Zhl.kind,Zhl.flds,Zhl.elem,Zhl.eqd⟩) <| Zz (ZvG) <| Zz (ZvJ) <| Zz (ZvN) <| Zz (ZsS) <| Zz (ZtO) <| Zz (Zs1) <| Zz (Ztp) <| Zz (⟨ZiF.info,ZiF.kind,ZiF.flds,ZiF.elem,ZiF.eqd⟩) <| Zz (Zs3) <| Zz (ZsG) <| Zz (Ztd) <| Zz (Zs4) <| Zz (Ztz) <| Zz (Zth) <| Zz (Zte) <| Zz (ZsE) <| Zz (ZtN) <| Zz (⟨Zi1.info,Zi1.kind,Zi1.flds,Zi1.elem,Zi1.eqd⟩) <| Zz (⟨Zd0.info,Zd0.kind,Zd0.flds,Zd0.elem,Zd0.eqd⟩) <| Zz (Ztt) <| Zz (ZtG) <| Zz (ZsP) <| Zz (⟨ZiW.info,ZiW.kind,ZiW.flds,ZiW.elem,ZiW.eqd⟩) <| Zz (⟨Zei.info,Zei.kind,Zei.flds,Zei.elem,Zei.eqd⟩) <| Zz (Zsz) <| Zz (ZtF) <| Zz (ZsJ) <| Zz (⟨ZiU.info,ZiU.kind,ZiU.flds,ZiU.elem,ZiU.eqd⟩) <| Zz (ZsH) <| Zz (⟨Zi3.info,Zi3.kind,Zi3.flds,Zi3.elem,Zi3.eqd⟩) <| Zz (⟨ZeC.info,ZeC.kind,ZeC.flds,ZeC.elem,ZeC.eqd⟩) <| Zz (ZtR) <| Zz (ZsV) <| Zz (ZtE) <| Zz (Ztc) <| Zz (Zto) <| Zz (ZtI) <| Zz (ZsT) <| Zz (Zs8) <| Zz (Ztg) <| Zz (⟨Zd5.info,Zd5.kind,Zd5.flds,Zd5.elem,Zd5.eqd⟩) <| Zz (Zst) <| Zz (⟨Zi2.info,Zi2.kind,Zi2.flds,Zi2.elem,Zi2.eqd⟩) <| Zz (ZsL) <| Zz (Ztb) <| Zz (ZtU) <| Zz (Ztk) <| Zz (⟨Zee.info,Zee.kind,Zee.flds,Zee.elem,Zee.eqd⟩) <| Zz (ZsN) <| Zz (Zs6) <| Zz (Zs0) <| Zz (ZsO) <| Zz (Zsy) <| ZGa
end Go.Proofs.YtoefbkmllkpkkaaGreatDoor
