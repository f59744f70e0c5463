/-
  The table of types of this translation, as the executor wants it; each row held against the program. Printed by program (gentab.py).
-/
import Derived.Test.YtjepimjoknccmaaGreatDoorSxTy
import Derived.Test.YtjepimjoknccmaaGreatDoorProg
import Derived.KernelRfl
namespace Go.Proofs.YtjepimjoknccmaaGreatDoor
open Go Go.Sx
set_option maxRecDepth 100000
def ti2:TI:={size:=1,bytes:=8,zero:=.int .i64 0,kind:=.int .i64}
def ti3:TI:={size:=1,bytes:=8,zero:=.int .i64 0,kind:=.int .i64}
def ti4:TI:={size:=1,bytes:=1,zero:=.bool false,kind:=.bool}
def ti5:TI:={size:=1,bytes:=1,zero:=.int .u8 0,kind:=.int .u8}
def ti6:TI:={size:=1,bytes:=1,zero:=.int .u8 0,kind:=.int .u8}
def ti9:TI:={size:=1,bytes:=16,zero:=.string ByteArray.empty,kind:=.str}
def ZK6:TI:={size:=1,bytes:=24,zero:=.slice none 0 0,kind:=.sl,elem:=201,esize:=7,ebytes:=112,ezero:=.agg #[.string ByteArray.empty,.int .i64 0,.slice none 0 0,.slice none 0 0,.slice none 0 0,.int .i64 0,.int .i64 0],eagg:=true,ety:=QC}
def ZK7:TI:={size:=1,bytes:=24,zero:=.agg #[.slice none 0 0],kind:=.st,flds:=[(0,1,false)]}
def ZK8:TI:={size:=1,bytes:=24,zero:=.slice none 0 0,kind:=.sl,elem:=203,esize:=3,ebytes:=48,ezero:=.agg #[.string ByteArray.empty,.int .i64 0,.slice none 0 0],eagg:=true,ety:=ZX}
def ZHT:TI:={size:=1,bytes:=24,zero:=.slice none 0 0,kind:=.sl,elem:=9,esize:=1,ebytes:=16,ezero:=.string ByteArray.empty,eagg:=false,ety:=.str}
def ZK9:TI:={size:=1,bytes:=24,zero:=.slice none 0 0,kind:=.sl,elem:=206,esize:=3,ebytes:=32,ezero:=.agg #[.string ByteArray.empty,.int .i64 0,.int .i64 0],eagg:=true,ety:=ZaB}
def ZLa:TI:={size:=3,bytes:=72,zero:=.agg #[.slice none 0 0,.slice none 0 0,.slice none 0 0],kind:=.st,flds:=[(0,1,false),(1,1,false),(2,1,false)]}
def ZLb:TI:={size:=1,bytes:=24,zero:=.slice none 0 0,kind:=.sl,elem:=35,esize:=4,ebytes:=96,ezero:=.agg #[.slice none 0 0,.slice none 0 0,.slice none 0 0,.slice none 0 0],eagg:=true,ety:=QD}
def ZLc:TI:={size:=5,bytes:=120,zero:=.agg #[.slice none 0 0,.slice none 0 0,.slice none 0 0,.slice none 0 0,.slice none 0 0],kind:=.st,flds:=[(0,1,true),(1,3,true),(4,1,false)]}
def ZzA:TI:={size:=1,bytes:=24,zero:=.slice none 0 0,kind:=.sl,elem:=2,esize:=1,ebytes:=8,ezero:=.int .i64 0,eagg:=false,ety:=.int .i64}
def ZLd:TI:={size:=4,bytes:=96,zero:=.agg #[.slice none 0 0,.slice none 0 0,.slice none 0 0,.slice none 0 0],kind:=.st,flds:=[(0,1,false),(1,1,false),(2,1,false),(3,1,false)]}
def ZLe:TI:={size:=10,bytes:=152,zero:=.agg #[.int .i64 0,.int .i64 0,.int .i64 0,.int .i64 0,.int .i64 0,.string ByteArray.empty,.slice none 0 0,.slice none 0 0,.slice none 0 0,.slice none 0 0],kind:=.st,flds:=[(0,1,false),(1,1,false),(2,1,false),(3,1,false),(4,1,false),(5,1,false),(6,4,true)]}
def ZLf:TI:={size:=5,bytes:=48,zero:=.agg #[.string ByteArray.empty,.int .i64 0,.int .i64 0,.int .i64 0,.int .i64 0],kind:=.st,flds:=[(0,1,false),(1,1,false),(2,1,false),(3,1,false),(4,1,false)],eqd:=.str 0 (.int .i64 1 (.int .i64 2 (.int .i64 3 (.int .i64 4 (.nil)))))}
def ZLg:TI:={size:=1,bytes:=24,zero:=.slice none 0 0,kind:=.sl,elem:=110,esize:=5,ebytes:=40,ezero:=.agg #[.int .i64 0,.int .i64 0,.int .i64 0,.int .i64 0,.int .i64 0],eagg:=true,ety:=Z7}
def ZBS:TI:={size:=1,bytes:=24,zero:=.slice none 0 0,kind:=.sl,elem:=4,esize:=1,ebytes:=1,ezero:=.bool false,eagg:=false,ety:=.bool}
def ZLh:TI:={size:=1,bytes:=24,zero:=.slice none 0 0,kind:=.sl,elem:=108,esize:=2,ebytes:=16,ezero:=.agg #[.int .i64 0,.int .i64 0],eagg:=true,ety:=YU}
def ZLi:TI:={size:=3,bytes:=72,zero:=.agg #[.slice none 0 0,.slice none 0 0,.slice none 0 0],kind:=.st,flds:=[(0,1,false),(1,1,false),(2,1,false)]}
def ZHU:TI:={size:=1,bytes:=24,zero:=.slice none 0 0,kind:=.sl,elem:=104,esize:=2,ebytes:=16,ezero:=.agg #[.int .i64 0,.int .i64 0],eagg:=true,ety:=YU}
def ZLj:TI:={size:=3,bytes:=72,zero:=.agg #[.slice none 0 0,.slice none 0 0,.slice none 0 0],kind:=.st,flds:=[(0,1,false),(1,1,false),(2,1,false)]}
def ZLk:TI:={size:=1,bytes:=24,zero:=.slice none 0 0,kind:=.sl,elem:=236,esize:=7,ebytes:=112,ezero:=.agg #[.string ByteArray.empty,.int .i64 0,.slice none 0 0,.slice none 0 0,.slice none 0 0,.int .i64 0,.int .i64 0],eagg:=true,ety:=QC}
def ZLl:TI:={size:=1,bytes:=24,zero:=.agg #[.slice none 0 0],kind:=.st,flds:=[(0,1,false)]}
def ZLm:TI:={size:=1,bytes:=24,zero:=.slice none 0 0,kind:=.sl,elem:=144,esize:=3,ebytes:=48,ezero:=.agg #[.string ByteArray.empty,.int .i64 0,.slice none 0 0],eagg:=true,ety:=ZX}
def ZHV:TI:={size:=1,bytes:=24,zero:=.slice none 0 0,kind:=.sl,elem:=230,esize:=3,ebytes:=32,ezero:=.agg #[.string ByteArray.empty,.int .i64 0,.int .i64 0],eagg:=true,ety:=ZaB}
def ZLn:TI:={size:=3,bytes:=72,zero:=.agg #[.slice none 0 0,.slice none 0 0,.slice none 0 0],kind:=.st,flds:=[(0,1,false),(1,1,false),(2,1,false)]}
def ZLo:TI:={size:=1,bytes:=24,zero:=.slice none 0 0,kind:=.sl,elem:=66,esize:=4,ebytes:=96,ezero:=.agg #[.slice none 0 0,.slice none 0 0,.slice none 0 0,.slice none 0 0],eagg:=true,ety:=QD}
def ZLp:TI:={size:=5,bytes:=120,zero:=.agg #[.slice none 0 0,.slice none 0 0,.slice none 0 0,.slice none 0 0,.slice none 0 0],kind:=.st,flds:=[(0,1,true),(1,3,true),(4,1,false)]}
def ZLq:TI:={size:=4,bytes:=96,zero:=.agg #[.slice none 0 0,.slice none 0 0,.slice none 0 0,.slice none 0 0],kind:=.st,flds:=[(0,1,false),(1,1,false),(2,1,false),(3,1,false)]}
def ZLr:TI:={size:=10,bytes:=152,zero:=.agg #[.int .i64 0,.int .i64 0,.int .i64 0,.int .i64 0,.int .i64 0,.string ByteArray.empty,.slice none 0 0,.slice none 0 0,.slice none 0 0,.slice none 0 0],kind:=.st,flds:=[(0,1,false),(1,1,false),(2,1,false),(3,1,false),(4,1,false),(5,1,false),(6,4,true)]}
def ZLs:TI:={size:=5,bytes:=48,zero:=.agg #[.string ByteArray.empty,.int .i64 0,.int .i64 0,.int .i64 0,.int .i64 0],kind:=.st,flds:=[(0,1,false),(1,1,false),(2,1,false),(3,1,false),(4,1,false)],eqd:=.str 0 (.int .i64 1 (.int .i64 2 (.int .i64 3 (.int .i64 4 (.nil)))))}
def ZHW:TI:={size:=1,bytes:=24,zero:=.slice none 0 0,kind:=.sl,elem:=106,esize:=5,ebytes:=40,ezero:=.agg #[.int .i64 0,.int .i64 0,.int .i64 0,.int .i64 0,.int .i64 0],eagg:=true,ety:=Z7}
def ZEK:TI:={size:=2,bytes:=16,zero:=.agg #[.int .i64 0,.int .i64 0],kind:=.st,flds:=[(0,1,false),(1,1,false)],eqd:=.int .i64 0 (.int .i64 1 (.nil))}
def ZEL:TI:={size:=5,bytes:=40,zero:=.agg #[.int .i64 0,.int .i64 0,.int .i64 0,.int .i64 0,.int .i64 0],kind:=.st,flds:=[(0,1,false),(1,2,true),(3,2,true)],eqd:=.int .i64 0 (.st 1 2 (.int .i64 0 (.int .i64 1 (.nil))) (.st 3 2 (.int .i64 0 (.int .i64 1 (.nil))) (.nil)))}
def ZEM:TI:={size:=2,bytes:=16,zero:=.agg #[.int .i64 0,.int .i64 0],kind:=.st,flds:=[(0,1,false),(1,1,false)],eqd:=.int .i64 0 (.int .i64 1 (.nil))}
def ZEN:TI:={size:=5,bytes:=40,zero:=.agg #[.int .i64 0,.int .i64 0,.int .i64 0,.int .i64 0,.int .i64 0],kind:=.st,flds:=[(0,1,false),(1,2,true),(3,2,true)],eqd:=.int .i64 0 (.st 1 2 (.int .i64 0 (.int .i64 1 (.nil))) (.st 3 2 (.int .i64 0 (.int .i64 1 (.nil))) (.nil)))}
def ZEO:TI:={size:=1,bytes:=24,zero:=.slice none 0 0,kind:=.sl,elem:=146,esize:=4,ebytes:=32,ezero:=.agg #[.int .i64 0,.int .i64 0,.int .i64 0,.bool false],eagg:=true,ety:=Zg1}
def ZEP:TI:={size:=3,bytes:=48,zero:=.agg #[.string ByteArray.empty,.int .i64 0,.slice none 0 0],kind:=.st,flds:=[(0,1,false),(1,1,false),(2,1,false)]}
def ZEQ:TI:={size:=4,bytes:=32,zero:=.agg #[.int .i64 0,.int .i64 0,.int .i64 0,.bool false],kind:=.st,flds:=[(0,1,false),(1,1,false),(2,1,false),(3,1,false)],eqd:=.int .i64 0 (.int .i64 1 (.int .i64 2 (.bool 3 (.nil))))}
def ZER:TI:={size:=1,bytes:=8,zero:=.pointer none,kind:=.ptr}
def ZES:TI:={size:=1,bytes:=8,zero:=.pointer none,kind:=.ptr}
def ZET:TI:={size:=1,bytes:=8,zero:=.pointer none,kind:=.ptr}
def ZEU:TI:={size:=2,bytes:=32,zero:=.agg #[.pointer none,.slice none 0 0],kind:=.st,flds:=[(0,1,false),(1,1,false)]}
def ZEV:TI:={size:=4,bytes:=32,zero:=.agg #[.int .i64 0,.int .i64 0,.int .i64 0,.bool false],kind:=.st,flds:=[(0,1,false),(1,1,false),(2,1,false),(3,1,false)],eqd:=.int .i64 0 (.int .i64 1 (.int .i64 2 (.bool 3 (.nil))))}
def ZEW:TI:={size:=1,bytes:=24,zero:=.slice none 0 0,kind:=.sl,elem:=177,esize:=4,ebytes:=32,ezero:=.agg #[.int .i64 0,.int .i64 0,.int .i64 0,.bool false],eagg:=true,ety:=ZoL}
def ZEX:TI:={size:=2,bytes:=16,zero:=.agg #[.int .i64 0,.int .i64 0],kind:=.st,flds:=[(0,1,false),(1,1,false)],eqd:=.int .i64 0 (.int .i64 1 (.nil))}
def Zxq:TI:={size:=1,bytes:=8,zero:=.map none,kind:=.mp 182 2,ty:=Zc0,ety:=.int .i64}
def ZEY:TI:={size:=1,bytes:=24,zero:=.slice none 0 0,kind:=.sl,elem:=324,esize:=4,ebytes:=40,ezero:=.agg #[.string ByteArray.empty,.int .i64 0,.int .i64 0,.bool false],eagg:=true,ety:=Ze1}
def ZEZ:TI:={size:=1,bytes:=24,zero:=.slice none 0 0,kind:=.sl,elem:=328,esize:=6,ebytes:=80,ezero:=.agg #[.int .i64 0,.int .i64 0,.int .i64 0,.int .i64 0,.slice none 0 0,.slice none 0 0],eagg:=true,ety:=ZfO}
def ZE0:TI:={size:=7,bytes:=112,zero:=.agg #[.string ByteArray.empty,.int .i64 0,.slice none 0 0,.slice none 0 0,.slice none 0 0,.int .i64 0,.int .i64 0],kind:=.st,flds:=[(0,1,false),(1,1,false),(2,1,false),(3,1,false),(4,1,false),(5,1,false),(6,1,false)]}
def ZE1:TI:={size:=3,bytes:=48,zero:=.agg #[.string ByteArray.empty,.int .i64 0,.slice none 0 0],kind:=.st,flds:=[(0,1,false),(1,1,false),(2,1,false)]}
def ZE2:TI:={size:=3,bytes:=32,zero:=.agg #[.string ByteArray.empty,.int .i64 0,.int .i64 0],kind:=.st,flds:=[(0,1,false),(1,1,false),(2,1,false)],eqd:=.str 0 (.int .i64 1 (.int .i64 2 (.nil)))}
def ZE3:TI:={size:=1,bytes:=24,zero:=.slice none 0 0,kind:=.sl,elem:=224,esize:=4,ebytes:=32,ezero:=.agg #[.int .i64 0,.int .i64 0,.int .i64 0,.int .i64 0],eagg:=true,ety:=ZcZ}
def ZE4:TI:={size:=4,bytes:=32,zero:=.agg #[.int .i64 0,.int .i64 0,.int .i64 0,.int .i64 0],kind:=.st,flds:=[(0,1,false),(1,1,false),(2,1,false),(3,1,false)],eqd:=.int .i64 0 (.int .i64 1 (.int .i64 2 (.int .i64 3 (.nil))))}
def ZE5:TI:={size:=3,bytes:=32,zero:=.agg #[.string ByteArray.empty,.int .i64 0,.int .i64 0],kind:=.st,flds:=[(0,1,false),(1,1,false),(2,1,false)],eqd:=.str 0 (.int .i64 1 (.int .i64 2 (.nil)))}
def ZDe:TI:={size:=1,bytes:=24,zero:=.slice none 0 0,kind:=.sl,elem:=311,esize:=4,ebytes:=40,ezero:=.agg #[.string ByteArray.empty,.int .i64 0,.int .i64 0,.bool false],eagg:=true,ety:=Ze1}
def ZE6:TI:={size:=1,bytes:=24,zero:=.slice none 0 0,kind:=.sl,elem:=280,esize:=6,ebytes:=80,ezero:=.agg #[.int .i64 0,.int .i64 0,.int .i64 0,.int .i64 0,.slice none 0 0,.slice none 0 0],eagg:=true,ety:=ZfO}
def ZE7:TI:={size:=7,bytes:=112,zero:=.agg #[.string ByteArray.empty,.int .i64 0,.slice none 0 0,.slice none 0 0,.slice none 0 0,.int .i64 0,.int .i64 0],kind:=.st,flds:=[(0,1,false),(1,1,false),(2,1,false),(3,1,false),(4,1,false),(5,1,false),(6,1,false)]}
def ZE8:TI:={size:=1,bytes:=24,zero:=.slice none 0 0,kind:=.sl,elem:=33,esize:=1,ebytes:=24,ezero:=.slice none 0 0,eagg:=false,ety:=.sl (.int .i64)}
def ZE9:TI:={size:=10,bytes:=240,zero:=.agg #[.slice none 0 0,.slice none 0 0,.slice none 0 0,.slice none 0 0,.slice none 0 0,.slice none 0 0,.slice none 0 0,.slice none 0 0,.slice none 0 0,.slice none 0 0],kind:=.st,flds:=[(0,5,true),(5,1,false),(6,1,false),(7,1,false),(8,1,false),(9,1,false)]}
def ZFa:TI:={size:=1,bytes:=8,zero:=.pointer none,kind:=.ptr}
def Zu2:TI:={size:=1,bytes:=24,zero:=.slice none 0 0,kind:=.sl,elem:=3,esize:=1,ebytes:=8,ezero:=.int .i64 0,eagg:=false,ety:=.int .i64}
def ZFb:TI:={size:=1,bytes:=8,zero:=.pointer none,kind:=.ptr}
def ZFc:TI:={size:=1,bytes:=24,zero:=.slice none 0 0,kind:=.sl,elem:=353,esize:=3,ebytes:=72,ezero:=.agg #[.slice none 0 0,.slice none 0 0,.slice none 0 0],eagg:=true,ety:=Xa}
def ZFd:TI:={size:=6,bytes:=80,zero:=.agg #[.int .i64 0,.int .i64 0,.int .i64 0,.int .i64 0,.slice none 0 0,.slice none 0 0],kind:=.st,flds:=[(0,1,false),(1,1,false),(2,1,false),(3,1,false),(4,1,false),(5,1,false)]}
def ZFe:TI:={size:=1,bytes:=24,zero:=.slice none 0 0,kind:=.sl,elem:=294,esize:=2,ebytes:=16,ezero:=.agg #[.int .i64 0,.int .i64 0],eagg:=true,ety:=.pair (.int .i64) (.pair (.int .i64) (.unit))}
def ZFf:TI:={size:=2,bytes:=16,zero:=.agg #[.int .i64 0,.int .i64 0],kind:=.arr 2,elem:=2,esize:=1,ebytes:=8,ezero:=.int .i64 0,eagg:=false,ety:=.int .i64}
def ZFg:TI:={size:=1,bytes:=8,zero:=.pointer none,kind:=.ptr}
def ZFh:TI:={size:=4,bytes:=40,zero:=.agg #[.string ByteArray.empty,.int .i64 0,.int .i64 0,.bool false],kind:=.st,flds:=[(0,1,false),(1,1,false),(2,1,false),(3,1,false)],eqd:=.str 0 (.int .i64 1 (.int .i64 2 (.bool 3 (.nil))))}
def ZFi:TI:={size:=1,bytes:=8,zero:=.int .u64 0,kind:=.int .u64}
def ZFj:TI:={size:=1,bytes:=24,zero:=.slice none 0 0,kind:=.sl,elem:=5,esize:=1,ebytes:=1,ezero:=.int .u8 0,eagg:=false,ety:=.int .u8}
def ZFk:TI:={size:=4,bytes:=40,zero:=.agg #[.string ByteArray.empty,.int .i64 0,.int .i64 0,.bool false],kind:=.st,flds:=[(0,1,false),(1,1,false),(2,1,false),(3,1,false)],eqd:=.str 0 (.int .i64 1 (.int .i64 2 (.bool 3 (.nil))))}
def ZFl:TI:={size:=1,bytes:=24,zero:=.slice none 0 0,kind:=.sl,elem:=400,esize:=3,ebytes:=72,ezero:=.agg #[.slice none 0 0,.slice none 0 0,.slice none 0 0],eagg:=true,ety:=Xa}
def ZFm:TI:={size:=6,bytes:=80,zero:=.agg #[.int .i64 0,.int .i64 0,.int .i64 0,.int .i64 0,.slice none 0 0,.slice none 0 0],kind:=.st,flds:=[(0,1,false),(1,1,false),(2,1,false),(3,1,false),(4,1,false),(5,1,false)]}
def ZFn:TI:={size:=1,bytes:=8,zero:=.pointer none,kind:=.ptr}
def ZFo:TI:={size:=3,bytes:=72,zero:=.agg #[.slice none 0 0,.slice none 0 0,.slice none 0 0],kind:=.st,flds:=[(0,1,false),(1,1,false),(2,1,false)]}
def ZFp:TI:={size:=3,bytes:=72,zero:=.agg #[.slice none 0 0,.slice none 0 0,.slice none 0 0],kind:=.st,flds:=[(0,1,false),(1,1,false),(2,1,false)]}
def ZFq:TI:={size:=1,bytes:=24,zero:=.slice none 0 0,kind:=.sl,elem:=418,esize:=2,ebytes:=16,ezero:=.agg #[.int .i64 0,.int .i64 0],eagg:=true,ety:=Zxv}
def ZFr:TI:={size:=2,bytes:=16,zero:=.agg #[.int .i64 0,.int .i64 0],kind:=.st,flds:=[(0,1,false),(1,1,false)],eqd:=.int .i64 0 (.int .i64 1 (.nil))}
theorem ZLN {P:Program}:Tab.ok [] P:=λx hx=>by cases hx
theorem ZEJ {P:Program} {t:Nat} {ti:TI} {r:Tab} (h:Zei P t ti) (hr:Tab.ok r P):Tab.ok ((t,ti)::r) P:=λx hx=>by
 rcases UT.1 hx with rfl | hx
 ·exact h
 ·exact hr x hx
def tab:Tab:=[(2,ti2),(3,ti3),(4,ti4),(5,ti5),(6,ti6),(9,ti9),(22,ZK6),(24,ZK7),(25,ZK8),(26,ZHT),(27,ZK9),(29,ZLa),(30,ZLb),(32,ZLc),(33,ZzA),(35,ZLd),(37,ZLe),(39,ZLf),(40,ZLg),(41,ZBS),(42,ZLh),(44,ZLi),(50,ZHU),(52,ZLj),(55,ZLk),(57,ZLl),(58,ZLm),(59,ZHV),(61,ZLn),(62,ZLo),(64,ZLp),(66,ZLq),(68,ZLr),(70,ZLs),(72,ZHW),(104,ZEK),(106,ZEL),(108,ZEM),(110,ZEN),(141,ZEO),(144,ZEP),(146,ZEQ),(157,ZER),(165,ZES),(168,ZET),(171,ZEU),(177,ZEV),(178,ZEW),(182,ZEX),(184,Zxq),(198,ZEY),(199,ZEZ),(201,ZE0),(203,ZE1),(206,ZE2),(218,ZE3),(224,ZE4),(230,ZE5),(233,ZDe),(234,ZE6),(236,ZE7),(240,ZE8),(242,ZE9),(258,ZFa),(260,Zu2),(261,ZFb),(278,ZFc),(280,ZFd),(292,ZFe),(294,ZFf),(306,ZFg),(311,ZFh),(318,ZFi),(321,ZFj),(324,ZFk),(326,ZFl),(328,ZFm),(348,ZFn),(353,ZFo),(400,ZFp),(414,ZFq),(418,ZFr)]
theorem Zn:tab.ok Tryz.prog:=by repeat' first | exact ZLN | refine ZEJ ?_ ?_ | kernel_rfl | constructor
def ZLH:TI:={ZK6 with edp:=some (Zqi)}
def ZLI:TI:={ZK8 with edp:=some (Zcw)}
def ZLJ:TI:={ZLb with edp:=some (Zmr)}
def ZLK:TI:={ZLk with edp:=some (Zqi)}
def ZLL:TI:={ZLm with edp:=some (Zcw)}
def ZLM:TI:={ZLo with edp:=some (Zmr)}
def ZGY:TI:={ZEZ with edp:=some (Zzv)}
def ZGZ:TI:={ZE6 with edp:=some (Zzv)}
def ZG0:TI:={ZE8 with edp:=some (.ol 2 (.flat (.int .i64)))}
def ZG1:TI:={ZFc with edp:=some (ZgI)}
def ZG2:TI:={ZFl with edp:=some (ZgI)}
def ZLt:TI:={ZK6 with cut:=true,edp:=some (Zqi)}
def ZLu:TI:={ZK8 with cut:=true,edp:=some (Zcw)}
def ZLv:TI:={ZHT with cut:=true}
def ZLw:TI:={ZK9 with cut:=true}
def ZLx:TI:={ZLb with cut:=true,edp:=some (Zmr)}
def ZLy:TI:={ZLg with cut:=true}
def ZLz:TI:={ZBS with cut:=true}
def ZLA:TI:={ZLh with cut:=true}
def ZLB:TI:={ZHU with cut:=true}
def ZLC:TI:={ZLk with cut:=true,edp:=some (Zqi)}
def ZLD:TI:={ZLm with cut:=true,edp:=some (Zcw)}
def ZLE:TI:={ZHV with cut:=true}
def ZLF:TI:={ZLo with cut:=true,edp:=some (Zmr)}
def ZLG:TI:={ZHW with cut:=true}
def ZGM:TI:={ZEO with cut:=true}
def ZGN:TI:={ZEW with cut:=true}
def ZGO:TI:={ZEY with cut:=true}
def ZGP:TI:={ZEZ with cut:=true,edp:=some (Zzv)}
def ZGQ:TI:={ZE3 with cut:=true}
def ZGR:TI:={ZDe with cut:=true}
def ZGS:TI:={ZE6 with cut:=true,edp:=some (Zzv)}
def ZGT:TI:={ZE8 with cut:=true,edp:=some (.ol 2 (.flat (.int .i64)))}
def ZGU:TI:={ZFc with cut:=true,edp:=some (ZgI)}
def ZGV:TI:={ZFe with cut:=true}
def ZGW:TI:={ZFl with cut:=true,edp:=some (ZgI)}
def ZGX:TI:={ZFq with cut:=true}
def ZPM:Tab:=[(2,ti2),(3,ti3),(4,ti4),(5,ti5),(6,ti6),(9,ti9),(22,ZLH),(24,ZK7),(25,ZLI),(26,ZHT),(27,ZK9),(29,ZLa),(30,ZLJ),(32,ZLc),(33,ZzA),(35,ZLd),(37,ZLe),(39,ZLf),(40,ZLg),(41,ZBS),(42,ZLh),(44,ZLi),(50,ZHU),(52,ZLj),(55,ZLK),(57,ZLl),(58,ZLL),(59,ZHV),(61,ZLn),(62,ZLM),(64,ZLp),(66,ZLq),(68,ZLr),(70,ZLs),(72,ZHW),(104,ZEK),(106,ZEL),(108,ZEM),(110,ZEN),(141,ZEO),(144,ZEP),(146,ZEQ),(157,ZER),(165,ZES),(168,ZET),(171,ZEU),(177,ZEV),(178,ZEW),(182,ZEX),(184,Zxq),(198,ZEY),(199,ZGY),(201,ZE0),(203,ZE1),(206,ZE2),(218,ZE3),(224,ZE4),(230,ZE5),(233,ZDe),(234,ZGZ),(236,ZE7),(240,ZG0),(242,ZE9),(258,ZFa),(260,Zu2),(261,ZFb),(278,ZG1),(280,ZFd),(292,ZFe),(294,ZFf),(306,ZFg),(311,ZFh),(318,ZFi),(321,ZFj),(324,ZFk),(326,ZG2),(328,ZFm),(348,ZFn),(353,ZFo),(400,ZFp),(414,ZFq),(418,ZFr)]
theorem YX:ZPM.ok Tryz.prog:=by repeat' first | exact ZLN | refine ZEJ ?_ ?_ | kernel_rfl | constructor
def ZPL:Tab:=[(2,ti2),(3,ti3),(4,ti4),(5,ti5),(6,ti6),(9,ti9),(22,ZLt),(24,ZK7),(25,ZLu),(26,ZLv),(27,ZLw),(29,ZLa),(30,ZLx),(32,ZLc),(33,ZzA),(35,ZLd),(37,ZLe),(39,ZLf),(40,ZLy),(41,ZLz),(42,ZLA),(44,ZLi),(50,ZLB),(52,ZLj),(55,ZLC),(57,ZLl),(58,ZLD),(59,ZLE),(61,ZLn),(62,ZLF),(64,ZLp),(66,ZLq),(68,ZLr),(70,ZLs),(72,ZLG),(104,ZEK),(106,ZEL),(108,ZEM),(110,ZEN),(141,ZGM),(144,ZEP),(146,ZEQ),(157,ZER),(165,ZES),(168,ZET),(171,ZEU),(177,ZEV),(178,ZGN),(182,ZEX),(184,Zxq),(198,ZGO),(199,ZGP),(201,ZE0),(203,ZE1),(206,ZE2),(218,ZGQ),(224,ZE4),(230,ZE5),(233,ZGR),(234,ZGS),(236,ZE7),(240,ZGT),(242,ZE9),(258,ZFa),(260,Zu2),(261,ZFb),(278,ZGU),(280,ZFd),(292,ZGV),(294,ZFf),(306,ZFg),(311,ZFh),(318,ZFi),(321,ZFj),(324,ZFk),(326,ZGW),(328,ZFm),(348,ZFn),(353,ZFo),(400,ZFp),(414,ZGX),(418,ZFr)]
theorem ZBu:ZPL.ok Tryz.prog:=by repeat' first | exact ZLN | refine ZEJ ?_ ?_ | kernel_rfl | constructor
end Go.Proofs.YtjepimjoknccmaaGreatDoor
