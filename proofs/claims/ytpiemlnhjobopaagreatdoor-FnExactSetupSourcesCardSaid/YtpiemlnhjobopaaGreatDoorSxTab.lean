/-
  The table of types of this translation, as the executor wants it; each row held against the program. Printed by program (gentab.py).
-/
import Derived.Test.YtpiemlnhjobopaaGreatDoorSxTy
import Derived.Test.YtpiemlnhjobopaaGreatDoorProg
import Derived.KernelRfl
namespace Go.Proofs.YtpiemlnhjobopaaGreatDoor
open Go Go.Sx
set_option maxRecDepth 100000
def ti2:TI:={size:=1,bytes:=8,zero:=.int .i64 0,kind:=.int .i64}
def ti3:TI:={size:=1,bytes:=8,zero:=.int .i64 0,kind:=.int .i64}
def ti4:TI:={size:=1,bytes:=1,zero:=.bool false,kind:=.bool}
def ti5:TI:={size:=1,bytes:=1,zero:=.int .u8 0,kind:=.int .u8}
def ti6:TI:={size:=1,bytes:=1,zero:=.int .u8 0,kind:=.int .u8}
def ti7:TI:={size:=4,bytes:=24,zero:=.agg #[.int .i64 0,.int .i64 0,.bool false,.int .u8 0],kind:=.st,flds:=[(0,1,false),(1,1,false),(2,1,false),(3,1,false)]}
def ti8:TI:={size:=4,bytes:=24,zero:=.agg #[.int .i64 0,.int .i64 0,.bool false,.int .u8 0],kind:=.st,flds:=[(0,1,false),(1,1,false),(2,1,false),(3,1,false)]}
def ti9:TI:={size:=1,bytes:=16,zero:=.string ByteArray.empty,kind:=.str}
def Zye:TI:={size:=1,bytes:=16,zero:=.string ByteArray.empty,kind:=.str}
def Zyf:TI:={size:=1,bytes:=24,zero:=.slice none 0 0,kind:=.sl,elem:=285,esize:=7,ebytes:=112,ezero:=.agg #[.string ByteArray.empty,.int .i64 0,.slice none 0 0,.slice none 0 0,.slice none 0 0,.int .i64 0,.int .i64 0],eagg:=true,ety:=Qf}
def Zyg:TI:={size:=1,bytes:=24,zero:=.agg #[.slice none 0 0],kind:=.st,flds:=[(0,1,false)]}
def Zyh:TI:={size:=1,bytes:=24,zero:=.slice none 0 0,kind:=.sl,elem:=287,esize:=3,ebytes:=48,ezero:=.agg #[.string ByteArray.empty,.int .i64 0,.slice none 0 0],eagg:=true,ety:=Z7}
def ZwG:TI:={size:=1,bytes:=24,zero:=.slice none 0 0,kind:=.sl,elem:=9,esize:=1,ebytes:=16,ezero:=.string ByteArray.empty,eagg:=false,ety:=.str}
def Zyi:TI:={size:=1,bytes:=24,zero:=.slice none 0 0,kind:=.sl,elem:=290,esize:=3,ebytes:=32,ezero:=.agg #[.string ByteArray.empty,.int .i64 0,.int .i64 0],eagg:=true,ety:=VH}
def Zyj:TI:={size:=3,bytes:=72,zero:=.agg #[.slice none 0 0,.slice none 0 0,.slice none 0 0],kind:=.st,flds:=[(0,1,false),(1,1,false),(2,1,false)]}
def Zyk:TI:={size:=1,bytes:=24,zero:=.slice none 0 0,kind:=.sl,elem:=175,esize:=4,ebytes:=96,ezero:=.agg #[.slice none 0 0,.slice none 0 0,.slice none 0 0,.slice none 0 0],eagg:=true,ety:=Vr}
def Zyl:TI:={size:=5,bytes:=120,zero:=.agg #[.slice none 0 0,.slice none 0 0,.slice none 0 0,.slice none 0 0,.slice none 0 0],kind:=.st,flds:=[(0,1,true),(1,3,true),(4,1,false)]}
def Zym:TI:={size:=1,bytes:=24,zero:=.slice none 0 0,kind:=.sl,elem:=178,esize:=11,ebytes:=96,ezero:=.agg #[.string ByteArray.empty,.int .i64 0,.int .i64 0,.int .i64 0,.int .i64 0,.int .i64 0,.int .i64 0,.bool false,.int .i64 0,.int .i64 0,.int .i64 0],eagg:=true,ety:=YA}
def Zyn:TI:={size:=1,bytes:=24,zero:=.slice none 0 0,kind:=.sl,elem:=206,esize:=6,ebytes:=48,ezero:=.agg #[.int .i64 0,.int .i64 0,.int .i64 0,.int .i64 0,.int .i64 0,.int .i64 0],eagg:=true,ety:=ZQ}
def Zyo:TI:={size:=1,bytes:=24,zero:=.slice none 0 0,kind:=.sl,elem:=181,esize:=5,ebytes:=88,ezero:=.agg #[.int .i64 0,.int .i64 0,.slice none 0 0,.slice none 0 0,.slice none 0 0],eagg:=true,ety:=ZG}
def Zyp:TI:={size:=1,bytes:=24,zero:=.slice none 0 0,kind:=.sl,elem:=70,esize:=5,ebytes:=48,ezero:=.agg #[.string ByteArray.empty,.int .i64 0,.int .i64 0,.int .i64 0,.int .i64 0],eagg:=true,ety:=Yo}
def Zyq:TI:={size:=5,bytes:=120,zero:=.agg #[.slice none 0 0,.slice none 0 0,.slice none 0 0,.slice none 0 0,.slice none 0 0],kind:=.st,flds:=[(0,1,false),(1,1,false),(2,1,false),(3,1,false),(4,1,false)]}
def Zyr:TI:={size:=1,bytes:=24,zero:=.slice none 0 0,kind:=.sl,elem:=118,esize:=5,ebytes:=40,ezero:=.agg #[.int .i64 0,.int .i64 0,.int .i64 0,.int .i64 0,.int .i64 0],eagg:=true,ety:=Y5}
def Zys:TI:={size:=1,bytes:=24,zero:=.slice none 0 0,kind:=.sl,elem:=241,esize:=7,ebytes:=112,ezero:=.agg #[.string ByteArray.empty,.int .i64 0,.slice none 0 0,.slice none 0 0,.slice none 0 0,.int .i64 0,.int .i64 0],eagg:=true,ety:=Qf}
def Zyt:TI:={size:=1,bytes:=24,zero:=.agg #[.slice none 0 0],kind:=.st,flds:=[(0,1,false)]}
def Zyu:TI:={size:=1,bytes:=24,zero:=.slice none 0 0,kind:=.sl,elem:=243,esize:=3,ebytes:=48,ezero:=.agg #[.string ByteArray.empty,.int .i64 0,.slice none 0 0],eagg:=true,ety:=Z7}
def ZwH:TI:={size:=1,bytes:=24,zero:=.slice none 0 0,kind:=.sl,elem:=297,esize:=3,ebytes:=32,ezero:=.agg #[.string ByteArray.empty,.int .i64 0,.int .i64 0],eagg:=true,ety:=VH}
def Zyv:TI:={size:=3,bytes:=72,zero:=.agg #[.slice none 0 0,.slice none 0 0,.slice none 0 0],kind:=.st,flds:=[(0,1,false),(1,1,false),(2,1,false)]}
def Zyw:TI:={size:=1,bytes:=24,zero:=.slice none 0 0,kind:=.sl,elem:=201,esize:=4,ebytes:=96,ezero:=.agg #[.slice none 0 0,.slice none 0 0,.slice none 0 0,.slice none 0 0],eagg:=true,ety:=Vr}
def Zyx:TI:={size:=5,bytes:=120,zero:=.agg #[.slice none 0 0,.slice none 0 0,.slice none 0 0,.slice none 0 0,.slice none 0 0],kind:=.st,flds:=[(0,1,true),(1,3,true),(4,1,false)]}
def ZwI:TI:={size:=1,bytes:=24,zero:=.slice none 0 0,kind:=.sl,elem:=185,esize:=11,ebytes:=96,ezero:=.agg #[.string ByteArray.empty,.int .i64 0,.int .i64 0,.int .i64 0,.int .i64 0,.int .i64 0,.int .i64 0,.bool false,.int .i64 0,.int .i64 0,.int .i64 0],eagg:=true,ety:=YA}
def ZwJ:TI:={size:=1,bytes:=24,zero:=.slice none 0 0,kind:=.sl,elem:=196,esize:=6,ebytes:=48,ezero:=.agg #[.int .i64 0,.int .i64 0,.int .i64 0,.int .i64 0,.int .i64 0,.int .i64 0],eagg:=true,ety:=ZQ}
def Zyy:TI:={size:=1,bytes:=24,zero:=.slice none 0 0,kind:=.sl,elem:=189,esize:=5,ebytes:=88,ezero:=.agg #[.int .i64 0,.int .i64 0,.slice none 0 0,.slice none 0 0,.slice none 0 0],eagg:=true,ety:=ZG}
def ZwK:TI:={size:=1,bytes:=24,zero:=.slice none 0 0,kind:=.sl,elem:=82,esize:=5,ebytes:=48,ezero:=.agg #[.string ByteArray.empty,.int .i64 0,.int .i64 0,.int .i64 0,.int .i64 0],eagg:=true,ety:=Yo}
def Zyz:TI:={size:=5,bytes:=120,zero:=.agg #[.slice none 0 0,.slice none 0 0,.slice none 0 0,.slice none 0 0,.slice none 0 0],kind:=.st,flds:=[(0,1,false),(1,1,false),(2,1,false),(3,1,false),(4,1,false)]}
def ZyA:TI:={size:=5,bytes:=48,zero:=.agg #[.string ByteArray.empty,.int .i64 0,.int .i64 0,.int .i64 0,.int .i64 0],kind:=.st,flds:=[(0,1,false),(1,1,false),(2,1,false),(3,1,false),(4,1,false)],eqd:=.str 0 (.int .i64 1 (.int .i64 2 (.int .i64 3 (.int .i64 4 (.nil)))))}
def Zs0:TI:={size:=1,bytes:=24,zero:=.slice none 0 0,kind:=.sl,elem:=2,esize:=1,ebytes:=8,ezero:=.int .i64 0,eagg:=false,ety:=.int .i64}
def ZyB:TI:={size:=5,bytes:=48,zero:=.agg #[.string ByteArray.empty,.int .i64 0,.int .i64 0,.int .i64 0,.int .i64 0],kind:=.st,flds:=[(0,1,false),(1,1,false),(2,1,false),(3,1,false),(4,1,false)],eqd:=.str 0 (.int .i64 1 (.int .i64 2 (.int .i64 3 (.int .i64 4 (.nil)))))}
def ZuC:TI:={size:=2,bytes:=16,zero:=.agg #[.int .i64 0,.int .i64 0],kind:=.st,flds:=[(0,1,false),(1,1,false)],eqd:=.int .i64 0 (.int .i64 1 (.nil))}
def ZuD:TI:={size:=5,bytes:=40,zero:=.agg #[.int .i64 0,.int .i64 0,.int .i64 0,.int .i64 0,.int .i64 0],kind:=.st,flds:=[(0,1,false),(1,2,true),(3,2,true)],eqd:=.int .i64 0 (.st 1 2 (.int .i64 0 (.int .i64 1 (.nil))) (.st 3 2 (.int .i64 0 (.int .i64 1 (.nil))) (.nil)))}
def ZuE:TI:={size:=1,bytes:=24,zero:=.slice none 0 0,kind:=.sl,elem:=254,esize:=4,ebytes:=32,ezero:=.agg #[.int .i64 0,.int .i64 0,.int .i64 0,.int .i64 0],eagg:=true,ety:=Zm5}
def ZuF:TI:={size:=2,bytes:=16,zero:=.agg #[.int .i64 0,.int .i64 0],kind:=.st,flds:=[(0,1,false),(1,1,false)],eqd:=.int .i64 0 (.int .i64 1 (.nil))}
def ZuG:TI:={size:=1,bytes:=8,zero:=.pointer none,kind:=.ptr}
def ZuH:TI:={size:=4,bytes:=96,zero:=.agg #[.slice none 0 0,.slice none 0 0,.slice none 0 0,.slice none 0 0],kind:=.st,flds:=[(0,1,false),(1,1,false),(2,1,false),(3,1,false)]}
def ZuI:TI:={size:=11,bytes:=96,zero:=.agg #[.string ByteArray.empty,.int .i64 0,.int .i64 0,.int .i64 0,.int .i64 0,.int .i64 0,.int .i64 0,.bool false,.int .i64 0,.int .i64 0,.int .i64 0],kind:=.st,flds:=[(0,1,false),(1,1,false),(2,1,false),(3,1,false),(4,1,false),(5,1,false),(6,1,false),(7,1,false),(8,1,false),(9,1,false),(10,1,false)],eqd:=.str 0 (.int .i64 1 (.int .i64 2 (.int .i64 3 (.int .i64 4 (.int .i64 5 (.int .i64 6 (.bool 7 (.int .i64 8 (.int .i64 9 (.int .i64 10 (.nil)))))))))))}
def ZuJ:TI:={size:=5,bytes:=88,zero:=.agg #[.int .i64 0,.int .i64 0,.slice none 0 0,.slice none 0 0,.slice none 0 0],kind:=.st,flds:=[(0,1,false),(1,1,false),(2,1,false),(3,1,false),(4,1,false)]}
def ZuK:TI:={size:=11,bytes:=96,zero:=.agg #[.string ByteArray.empty,.int .i64 0,.int .i64 0,.int .i64 0,.int .i64 0,.int .i64 0,.int .i64 0,.bool false,.int .i64 0,.int .i64 0,.int .i64 0],kind:=.st,flds:=[(0,1,false),(1,1,false),(2,1,false),(3,1,false),(4,1,false),(5,1,false),(6,1,false),(7,1,false),(8,1,false),(9,1,false),(10,1,false)],eqd:=.str 0 (.int .i64 1 (.int .i64 2 (.int .i64 3 (.int .i64 4 (.int .i64 5 (.int .i64 6 (.bool 7 (.int .i64 8 (.int .i64 9 (.int .i64 10 (.nil)))))))))))}
def ZuL:TI:={size:=1,bytes:=24,zero:=.slice none 0 0,kind:=.sl,elem:=296,esize:=4,ebytes:=32,ezero:=.agg #[.int .i64 0,.int .i64 0,.int .i64 0,.bool false],eagg:=true,ety:=ZfA}
def ZuM:TI:={size:=5,bytes:=88,zero:=.agg #[.int .i64 0,.int .i64 0,.slice none 0 0,.slice none 0 0,.slice none 0 0],kind:=.st,flds:=[(0,1,false),(1,1,false),(2,1,false),(3,1,false),(4,1,false)]}
def ZuN:TI:={size:=3,bytes:=24,zero:=.agg #[.int .i64 0,.int .i64 0,.int .i64 0],kind:=.st,flds:=[(0,1,false),(1,1,false),(2,1,false)],eqd:=.int .i64 0 (.int .i64 1 (.int .i64 2 (.nil)))}
def ZuO:TI:={size:=6,bytes:=48,zero:=.agg #[.int .i64 0,.int .i64 0,.int .i64 0,.int .i64 0,.int .i64 0,.int .i64 0],kind:=.st,flds:=[(0,1,false),(1,1,false),(2,2,true),(4,2,true)],eqd:=.int .i64 0 (.int .i64 1 (.st 2 2 (.int .i64 0 (.int .i64 1 (.nil))) (.st 4 2 (.int .i64 0 (.int .i64 1 (.nil))) (.nil))))}
def ZuP:TI:={size:=4,bytes:=96,zero:=.agg #[.slice none 0 0,.slice none 0 0,.slice none 0 0,.slice none 0 0],kind:=.st,flds:=[(0,1,false),(1,1,false),(2,1,false),(3,1,false)]}
def ZuQ:TI:={size:=6,bytes:=48,zero:=.agg #[.int .i64 0,.int .i64 0,.int .i64 0,.int .i64 0,.int .i64 0,.int .i64 0],kind:=.st,flds:=[(0,1,false),(1,1,false),(2,2,true),(4,2,true)],eqd:=.int .i64 0 (.int .i64 1 (.st 2 2 (.int .i64 0 (.int .i64 1 (.nil))) (.st 4 2 (.int .i64 0 (.int .i64 1 (.nil))) (.nil))))}
def ZuR:TI:={size:=2,bytes:=16,zero:=.agg #[.int .i64 0,.int .i64 0],kind:=.arr 2,elem:=2,esize:=1,ebytes:=8,ezero:=.int .i64 0,eagg:=false,ety:=.int .i64}
def ZuS:TI:={size:=3,bytes:=24,zero:=.agg #[.int .i64 0,.int .i64 0,.int .i64 0],kind:=.st,flds:=[(0,1,false),(1,2,true)]}
def ZtJ:TI:={size:=1,bytes:=24,zero:=.slice none 0 0,kind:=.sl,elem:=373,esize:=4,ebytes:=40,ezero:=.agg #[.string ByteArray.empty,.int .i64 0,.int .i64 0,.bool false],eagg:=true,ety:=Zdb}
def ZuT:TI:={size:=1,bytes:=24,zero:=.slice none 0 0,kind:=.sl,elem:=246,esize:=6,ebytes:=80,ezero:=.agg #[.int .i64 0,.int .i64 0,.int .i64 0,.int .i64 0,.slice none 0 0,.slice none 0 0],eagg:=true,ety:=ZdY}
def ZuU:TI:={size:=7,bytes:=112,zero:=.agg #[.string ByteArray.empty,.int .i64 0,.slice none 0 0,.slice none 0 0,.slice none 0 0,.int .i64 0,.int .i64 0],kind:=.st,flds:=[(0,1,false),(1,1,false),(2,1,false),(3,1,false),(4,1,false),(5,1,false),(6,1,false)]}
def ZuV:TI:={size:=3,bytes:=48,zero:=.agg #[.string ByteArray.empty,.int .i64 0,.slice none 0 0],kind:=.st,flds:=[(0,1,false),(1,1,false),(2,1,false)]}
def ZuW:TI:={size:=1,bytes:=24,zero:=.slice none 0 0,kind:=.sl,elem:=379,esize:=3,ebytes:=72,ezero:=.agg #[.slice none 0 0,.slice none 0 0,.slice none 0 0],eagg:=true,ety:=YO}
def ZuX:TI:={size:=6,bytes:=80,zero:=.agg #[.int .i64 0,.int .i64 0,.int .i64 0,.int .i64 0,.slice none 0 0,.slice none 0 0],kind:=.st,flds:=[(0,1,false),(1,1,false),(2,1,false),(3,1,false),(4,1,false),(5,1,false)]}
def ZuY:TI:={size:=4,bytes:=32,zero:=.agg #[.int .i64 0,.int .i64 0,.int .i64 0,.int .i64 0],kind:=.st,flds:=[(0,1,false),(1,1,false),(2,1,false),(3,1,false)],eqd:=.int .i64 0 (.int .i64 1 (.int .i64 2 (.int .i64 3 (.nil))))}
def ZuZ:TI:={size:=4,bytes:=32,zero:=.agg #[.int .i64 0,.int .i64 0,.int .i64 0,.bool false],kind:=.st,flds:=[(0,1,false),(1,1,false),(2,1,false),(3,1,false)],eqd:=.int .i64 0 (.int .i64 1 (.int .i64 2 (.bool 3 (.nil))))}
def Zu0:TI:={size:=1,bytes:=24,zero:=.slice none 0 0,kind:=.sl,elem:=265,esize:=4,ebytes:=32,ezero:=.agg #[.int .i64 0,.int .i64 0,.int .i64 0,.bool false],eagg:=true,ety:=Zil}
def Zu1:TI:={size:=1,bytes:=24,zero:=.slice none 0 0,kind:=.sl,elem:=71,esize:=1,ebytes:=24,ezero:=.slice none 0 0,eagg:=false,ety:=.sl (.int .i64)}
def Zu2:TI:={size:=10,bytes:=240,zero:=.agg #[.slice none 0 0,.slice none 0 0,.slice none 0 0,.slice none 0 0,.slice none 0 0,.slice none 0 0,.slice none 0 0,.slice none 0 0,.slice none 0 0,.slice none 0 0],kind:=.st,flds:=[(0,5,true),(5,1,false),(6,1,false),(7,1,false),(8,1,false),(9,1,false)]}
def Zu3:TI:={size:=1,bytes:=24,zero:=.slice none 0 0,kind:=.sl,elem:=389,esize:=4,ebytes:=40,ezero:=.agg #[.string ByteArray.empty,.int .i64 0,.int .i64 0,.bool false],eagg:=true,ety:=Zdb}
def Zu4:TI:={size:=1,bytes:=24,zero:=.slice none 0 0,kind:=.sl,elem:=393,esize:=6,ebytes:=80,ezero:=.agg #[.int .i64 0,.int .i64 0,.int .i64 0,.int .i64 0,.slice none 0 0,.slice none 0 0],eagg:=true,ety:=ZdY}
def Zu5:TI:={size:=7,bytes:=112,zero:=.agg #[.string ByteArray.empty,.int .i64 0,.slice none 0 0,.slice none 0 0,.slice none 0 0,.int .i64 0,.int .i64 0],kind:=.st,flds:=[(0,1,false),(1,1,false),(2,1,false),(3,1,false),(4,1,false),(5,1,false),(6,1,false)]}
def Zu6:TI:={size:=3,bytes:=48,zero:=.agg #[.string ByteArray.empty,.int .i64 0,.slice none 0 0],kind:=.st,flds:=[(0,1,false),(1,1,false),(2,1,false)]}
def Zu7:TI:={size:=3,bytes:=32,zero:=.agg #[.string ByteArray.empty,.int .i64 0,.int .i64 0],kind:=.st,flds:=[(0,1,false),(1,1,false),(2,1,false)],eqd:=.str 0 (.int .i64 1 (.int .i64 2 (.nil)))}
def Zu8:TI:={size:=4,bytes:=32,zero:=.agg #[.int .i64 0,.int .i64 0,.int .i64 0,.bool false],kind:=.st,flds:=[(0,1,false),(1,1,false),(2,1,false),(3,1,false)],eqd:=.int .i64 0 (.int .i64 1 (.int .i64 2 (.bool 3 (.nil))))}
def Zu9:TI:={size:=3,bytes:=32,zero:=.agg #[.string ByteArray.empty,.int .i64 0,.int .i64 0],kind:=.st,flds:=[(0,1,false),(1,1,false),(2,1,false)],eqd:=.str 0 (.int .i64 1 (.int .i64 2 (.nil)))}
def Zva:TI:={size:=1,bytes:=8,zero:=.int .u64 0,kind:=.int .u64}
def Zvb:TI:={size:=1,bytes:=24,zero:=.slice none 0 0,kind:=.sl,elem:=5,esize:=1,ebytes:=1,ezero:=.int .u8 0,eagg:=false,ety:=.int .u8}
def ZsN:TI:={size:=1,bytes:=24,zero:=.slice none 0 0,kind:=.sl,elem:=3,esize:=1,ebytes:=8,ezero:=.int .i64 0,eagg:=false,ety:=.int .i64}
def Zvc:TI:={size:=1,bytes:=24,zero:=.slice none 0 0,kind:=.sl,elem:=214,esize:=2,ebytes:=16,ezero:=.agg #[.int .i64 0,.int .i64 0],eagg:=true,ety:=.pair (.int .i64) (.pair (.int .i64) (.unit))}
def Zvd:TI:={size:=4,bytes:=40,zero:=.agg #[.string ByteArray.empty,.int .i64 0,.int .i64 0,.bool false],kind:=.st,flds:=[(0,1,false),(1,1,false),(2,1,false),(3,1,false)],eqd:=.str 0 (.int .i64 1 (.int .i64 2 (.bool 3 (.nil))))}
def Zve:TI:={size:=3,bytes:=72,zero:=.agg #[.slice none 0 0,.slice none 0 0,.slice none 0 0],kind:=.st,flds:=[(0,1,false),(1,1,false),(2,1,false)]}
def Zvf:TI:={size:=4,bytes:=40,zero:=.agg #[.string ByteArray.empty,.int .i64 0,.int .i64 0,.bool false],kind:=.st,flds:=[(0,1,false),(1,1,false),(2,1,false),(3,1,false)],eqd:=.str 0 (.int .i64 1 (.int .i64 2 (.bool 3 (.nil))))}
def Zvg:TI:={size:=1,bytes:=24,zero:=.slice none 0 0,kind:=.sl,elem:=443,esize:=3,ebytes:=72,ezero:=.agg #[.slice none 0 0,.slice none 0 0,.slice none 0 0],eagg:=true,ety:=YO}
def Zvh:TI:={size:=6,bytes:=80,zero:=.agg #[.int .i64 0,.int .i64 0,.int .i64 0,.int .i64 0,.slice none 0 0,.slice none 0 0],kind:=.st,flds:=[(0,1,false),(1,1,false),(2,1,false),(3,1,false),(4,1,false),(5,1,false)]}
def Zvi:TI:={size:=3,bytes:=72,zero:=.agg #[.slice none 0 0,.slice none 0 0,.slice none 0 0],kind:=.st,flds:=[(0,1,false),(1,1,false),(2,1,false)]}
theorem Zy2 {P:Program}:Tab.ok [] P:=fun x hx=>by cases hx
theorem ZuB {P:Program} {t:Nat} {ti:TI} {r:Tab} (h:Zbb P t ti) (hr:Tab.ok r P):Tab.ok ((t,ti)::r) P:=fun x hx=>by
 rcases List.mem_cons.1 hx with rfl | hx
 ·exact h
 ·exact hr x hx
def tab:Tab:=[(2,ti2),(3,ti3),(4,ti4),(5,ti5),(6,ti6),(7,ti7),(8,ti8),(9,ti9),(10,Zye),(22,Zyf),(24,Zyg),(25,Zyh),(26,ZwG),(27,Zyi),(29,Zyj),(30,Zyk),(32,Zyl),(33,Zym),(34,Zyn),(35,Zyo),(36,Zyp),(38,Zyq),(41,Zyr),(44,Zys),(46,Zyt),(47,Zyu),(48,ZwH),(50,Zyv),(51,Zyw),(53,Zyx),(55,ZwI),(56,ZwJ),(57,Zyy),(58,ZwK),(60,Zyz),(70,ZyA),(71,Zs0),(82,ZyB),(116,ZuC),(118,ZuD),(136,ZuE),(145,ZuF),(155,ZuG),(175,ZuH),(178,ZuI),(181,ZuJ),(185,ZuK),(186,ZuL),(189,ZuM),(192,ZuN),(196,ZuO),(201,ZuP),(206,ZuQ),(214,ZuR),(216,ZuS),(238,ZtJ),(239,ZuT),(241,ZuU),(243,ZuV),(244,ZuW),(246,ZuX),(254,ZuY),(265,ZuZ),(266,Zu0),(267,Zu1),(269,Zu2),(282,Zu3),(283,Zu4),(285,Zu5),(287,Zu6),(290,Zu7),(296,Zu8),(297,Zu9),(314,Zva),(320,Zvb),(330,ZsN),(351,Zvc),(373,Zvd),(379,Zve),(389,Zvf),(391,Zvg),(393,Zvh),(443,Zvi)]
theorem Zp:tab.ok Tryz.prog:=by repeat' first | exact Zy2 | refine ZuB ?_ ?_ | kernel_rfl | constructor
def ZyU:TI:={Zyf with edp:=some (Zol)}
def ZyV:TI:={Zyh with edp:=some (ZbO)}
def ZyW:TI:={Zyk with edp:=some (Zon)}
def ZyX:TI:={Zyo with edp:=some (Zai)}
def ZyY:TI:={Zys with edp:=some (Zol)}
def ZyZ:TI:={Zyu with edp:=some (ZbO)}
def Zy0:TI:={Zyw with edp:=some (Zon)}
def Zy1:TI:={Zyy with edp:=some (Zai)}
def Zwk:TI:={ZuT with edp:=some (ZsZ)}
def Zwl:TI:={ZuW with edp:=some (ZgE)}
def Zwm:TI:={Zu1 with edp:=some (.ol 2 (.flat (.int .i64)))}
def Zwn:TI:={Zu4 with edp:=some (ZsZ)}
def Zwo:TI:={Zvg with edp:=some (ZgE)}
def ZyC:TI:={Zyf with cut:=true,edp:=some (Zol)}
def ZyD:TI:={Zyh with cut:=true,edp:=some (ZbO)}
def ZyE:TI:={ZwG with cut:=true}
def ZyF:TI:={Zyi with cut:=true}
def ZyG:TI:={Zyk with cut:=true,edp:=some (Zon)}
def ZyH:TI:={Zym with cut:=true}
def ZyI:TI:={Zyn with cut:=true}
def ZyJ:TI:={Zyo with cut:=true,edp:=some (Zai)}
def ZyK:TI:={Zyp with cut:=true}
def ZyL:TI:={Zyr with cut:=true}
def ZyM:TI:={Zys with cut:=true,edp:=some (Zol)}
def ZyN:TI:={Zyu with cut:=true,edp:=some (ZbO)}
def ZyO:TI:={ZwH with cut:=true}
def ZyP:TI:={Zyw with cut:=true,edp:=some (Zon)}
def ZyQ:TI:={ZwI with cut:=true}
def ZyR:TI:={ZwJ with cut:=true}
def ZyS:TI:={Zyy with cut:=true,edp:=some (Zai)}
def ZyT:TI:={ZwK with cut:=true}
def Zv9:TI:={ZuE with cut:=true}
def Zwa:TI:={ZuL with cut:=true}
def Zwb:TI:={ZtJ with cut:=true}
def Zwc:TI:={ZuT with cut:=true,edp:=some (ZsZ)}
def Zwd:TI:={ZuW with cut:=true,edp:=some (ZgE)}
def Zwe:TI:={Zu0 with cut:=true}
def Zwf:TI:={Zu1 with cut:=true,edp:=some (.ol 2 (.flat (.int .i64)))}
def Zwg:TI:={Zu3 with cut:=true}
def Zwh:TI:={Zu4 with cut:=true,edp:=some (ZsZ)}
def Zwi:TI:={Zvc with cut:=true}
def Zwj:TI:={Zvg with cut:=true,edp:=some (ZgE)}
def ZBk:Tab:=[(2,ti2),(3,ti3),(4,ti4),(5,ti5),(6,ti6),(7,ti7),(8,ti8),(9,ti9),(10,Zye),(22,ZyU),(24,Zyg),(25,ZyV),(26,ZwG),(27,Zyi),(29,Zyj),(30,ZyW),(32,Zyl),(33,Zym),(34,Zyn),(35,ZyX),(36,Zyp),(38,Zyq),(41,Zyr),(44,ZyY),(46,Zyt),(47,ZyZ),(48,ZwH),(50,Zyv),(51,Zy0),(53,Zyx),(55,ZwI),(56,ZwJ),(57,Zy1),(58,ZwK),(60,Zyz),(70,ZyA),(71,Zs0),(82,ZyB),(116,ZuC),(118,ZuD),(136,ZuE),(145,ZuF),(155,ZuG),(175,ZuH),(178,ZuI),(181,ZuJ),(185,ZuK),(186,ZuL),(189,ZuM),(192,ZuN),(196,ZuO),(201,ZuP),(206,ZuQ),(214,ZuR),(216,ZuS),(238,ZtJ),(239,Zwk),(241,ZuU),(243,ZuV),(244,Zwl),(246,ZuX),(254,ZuY),(265,ZuZ),(266,Zu0),(267,Zwm),(269,Zu2),(282,Zu3),(283,Zwn),(285,Zu5),(287,Zu6),(290,Zu7),(296,Zu8),(297,Zu9),(314,Zva),(320,Zvb),(330,ZsN),(351,Zvc),(373,Zvd),(379,Zve),(389,Zvf),(391,Zwo),(393,Zvh),(443,Zvi)]
theorem Xj:ZBk.ok Tryz.prog:=by repeat' first | exact Zy2 | refine ZuB ?_ ?_ | kernel_rfl | constructor
def ZBj:Tab:=[(2,ti2),(3,ti3),(4,ti4),(5,ti5),(6,ti6),(7,ti7),(8,ti8),(9,ti9),(10,Zye),(22,ZyC),(24,Zyg),(25,ZyD),(26,ZyE),(27,ZyF),(29,Zyj),(30,ZyG),(32,Zyl),(33,ZyH),(34,ZyI),(35,ZyJ),(36,ZyK),(38,Zyq),(41,ZyL),(44,ZyM),(46,Zyt),(47,ZyN),(48,ZyO),(50,Zyv),(51,ZyP),(53,Zyx),(55,ZyQ),(56,ZyR),(57,ZyS),(58,ZyT),(60,Zyz),(70,ZyA),(71,Zs0),(82,ZyB),(116,ZuC),(118,ZuD),(136,Zv9),(145,ZuF),(155,ZuG),(175,ZuH),(178,ZuI),(181,ZuJ),(185,ZuK),(186,Zwa),(189,ZuM),(192,ZuN),(196,ZuO),(201,ZuP),(206,ZuQ),(214,ZuR),(216,ZuS),(238,Zwb),(239,Zwc),(241,ZuU),(243,ZuV),(244,Zwd),(246,ZuX),(254,ZuY),(265,ZuZ),(266,Zwe),(267,Zwf),(269,Zu2),(282,Zwg),(283,Zwh),(285,Zu5),(287,Zu6),(290,Zu7),(296,Zu8),(297,Zu9),(314,Zva),(320,Zvb),(330,ZsN),(351,Zwi),(373,Zvd),(379,Zve),(389,Zvf),(391,Zwj),(393,Zvh),(443,Zvi)]
theorem Zyd:ZBj.ok Tryz.prog:=by repeat' first | exact Zy2 | refine ZuB ?_ ?_ | kernel_rfl | constructor
end Go.Proofs.YtpiemlnhjobopaaGreatDoor
