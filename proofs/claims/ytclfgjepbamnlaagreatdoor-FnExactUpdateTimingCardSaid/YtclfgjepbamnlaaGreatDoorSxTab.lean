/-
  The table of types of this translation, as the executor wants it; each row held against the program. Printed by program (gentab.py).
-/
import Derived.Test.YtclfgjepbamnlaaGreatDoorSxTy
import Derived.Test.YtclfgjepbamnlaaGreatDoorProg
import Derived.KernelRfl
namespace Go.Proofs.YtclfgjepbamnlaaGreatDoor
open Go Go.Sx
set_option maxRecDepth 100000
def ti2:TI:={size:=1,bytes:=8,zero:=.int .i64 0,kind:=.int .i64}
def ti3:TI:={size:=1,bytes:=8,zero:=.int .i64 0,kind:=.int .i64}
def ti4:TI:={size:=1,bytes:=1,zero:=.bool false,kind:=.bool}
def ti5:TI:={size:=1,bytes:=1,zero:=.int .u8 0,kind:=.int .u8}
def ti6:TI:={size:=1,bytes:=1,zero:=.int .u8 0,kind:=.int .u8}
def ti9:TI:={size:=1,bytes:=16,zero:=.string ByteArray.empty,kind:=.str}
def ZAw:TI:={size:=1,bytes:=24,zero:=.slice none 0 0,kind:=.sl,elem:=255,esize:=7,ebytes:=112,ezero:=.agg #[.string ByteArray.empty,.int .i64 0,.slice none 0 0,.slice none 0 0,.slice none 0 0,.int .i64 0,.int .i64 0],eagg:=true,ety:=Qz}
def ZAx:TI:={size:=1,bytes:=24,zero:=.agg #[.slice none 0 0],kind:=.st,flds:=[(0,1,false)]}
def ZAy:TI:={size:=1,bytes:=24,zero:=.slice none 0 0,kind:=.sl,elem:=257,esize:=3,ebytes:=48,ezero:=.agg #[.string ByteArray.empty,.int .i64 0,.slice none 0 0],eagg:=true,ety:=ZT}
def Zyy:TI:={size:=1,bytes:=24,zero:=.slice none 0 0,kind:=.sl,elem:=9,esize:=1,ebytes:=16,ezero:=.string ByteArray.empty,eagg:=false,ety:=.str}
def ZAz:TI:={size:=1,bytes:=24,zero:=.slice none 0 0,kind:=.sl,elem:=260,esize:=3,ebytes:=32,ezero:=.agg #[.string ByteArray.empty,.int .i64 0,.int .i64 0],eagg:=true,ety:=V6}
def ZAA:TI:={size:=3,bytes:=72,zero:=.agg #[.slice none 0 0,.slice none 0 0,.slice none 0 0],kind:=.st,flds:=[(0,1,false),(1,1,false),(2,1,false)]}
def ZAB:TI:={size:=1,bytes:=24,zero:=.slice none 0 0,kind:=.sl,elem:=80,esize:=4,ebytes:=96,ezero:=.agg #[.slice none 0 0,.slice none 0 0,.slice none 0 0,.slice none 0 0],eagg:=true,ety:=VG}
def ZAC:TI:={size:=5,bytes:=120,zero:=.agg #[.slice none 0 0,.slice none 0 0,.slice none 0 0,.slice none 0 0,.slice none 0 0],kind:=.st,flds:=[(0,1,true),(1,3,true),(4,1,false)]}
def ZAD:TI:={size:=5,bytes:=48,zero:=.agg #[.string ByteArray.empty,.int .i64 0,.int .i64 0,.int .i64 0,.int .i64 0],kind:=.st,flds:=[(0,1,false),(1,1,false),(2,1,false),(3,1,false),(4,1,false)],eqd:=.str 0 (.int .i64 1 (.int .i64 2 (.int .i64 3 (.int .i64 4 (.nil)))))}
def Zum:TI:={size:=1,bytes:=24,zero:=.slice none 0 0,kind:=.sl,elem:=2,esize:=1,ebytes:=8,ezero:=.int .i64 0,eagg:=false,ety:=.int .i64}
def ZAE:TI:={size:=1,bytes:=24,zero:=.slice none 0 0,kind:=.sl,elem:=116,esize:=5,ebytes:=40,ezero:=.agg #[.int .i64 0,.int .i64 0,.int .i64 0,.int .i64 0,.int .i64 0],eagg:=true,ety:=Z6}
def Zvy:TI:={size:=1,bytes:=24,zero:=.slice none 0 0,kind:=.sl,elem:=4,esize:=1,ebytes:=1,ezero:=.bool false,eagg:=false,ety:=.bool}
def ZAF:TI:={size:=1,bytes:=24,zero:=.slice none 0 0,kind:=.sl,elem:=114,esize:=2,ebytes:=16,ezero:=.agg #[.int .i64 0,.int .i64 0],eagg:=true,ety:=XJ}
def ZAH:TI:={size:=3,bytes:=72,zero:=.agg #[.slice none 0 0,.slice none 0 0,.slice none 0 0],kind:=.st,flds:=[(0,1,false),(1,1,false),(2,1,false)]}
def ZAI:TI:={size:=1,bytes:=24,zero:=.slice none 0 0,kind:=.sl,elem:=168,esize:=7,ebytes:=112,ezero:=.agg #[.string ByteArray.empty,.int .i64 0,.slice none 0 0,.slice none 0 0,.slice none 0 0,.int .i64 0,.int .i64 0],eagg:=true,ety:=Qz}
def ZAJ:TI:={size:=1,bytes:=24,zero:=.agg #[.slice none 0 0],kind:=.st,flds:=[(0,1,false)]}
def ZAK:TI:={size:=1,bytes:=24,zero:=.slice none 0 0,kind:=.sl,elem:=170,esize:=3,ebytes:=48,ezero:=.agg #[.string ByteArray.empty,.int .i64 0,.slice none 0 0],eagg:=true,ety:=ZT}
def Zyz:TI:={size:=1,bytes:=24,zero:=.slice none 0 0,kind:=.sl,elem:=266,esize:=3,ebytes:=32,ezero:=.agg #[.string ByteArray.empty,.int .i64 0,.int .i64 0],eagg:=true,ety:=V6}
def ZAL:TI:={size:=3,bytes:=72,zero:=.agg #[.slice none 0 0,.slice none 0 0,.slice none 0 0],kind:=.st,flds:=[(0,1,false),(1,1,false),(2,1,false)]}
def ZAM:TI:={size:=1,bytes:=24,zero:=.slice none 0 0,kind:=.sl,elem:=85,esize:=4,ebytes:=96,ezero:=.agg #[.slice none 0 0,.slice none 0 0,.slice none 0 0,.slice none 0 0],eagg:=true,ety:=VG}
def ZAN:TI:={size:=5,bytes:=120,zero:=.agg #[.slice none 0 0,.slice none 0 0,.slice none 0 0,.slice none 0 0,.slice none 0 0],kind:=.st,flds:=[(0,1,true),(1,3,true),(4,1,false)]}
def ZAO:TI:={size:=5,bytes:=48,zero:=.agg #[.string ByteArray.empty,.int .i64 0,.int .i64 0,.int .i64 0,.int .i64 0],kind:=.st,flds:=[(0,1,false),(1,1,false),(2,1,false),(3,1,false),(4,1,false)],eqd:=.str 0 (.int .i64 1 (.int .i64 2 (.int .i64 3 (.int .i64 4 (.nil)))))}
def ZyA:TI:={size:=1,bytes:=24,zero:=.slice none 0 0,kind:=.sl,elem:=105,esize:=5,ebytes:=40,ezero:=.agg #[.int .i64 0,.int .i64 0,.int .i64 0,.int .i64 0,.int .i64 0],eagg:=true,ety:=Z6}
def ZyB:TI:={size:=1,bytes:=24,zero:=.slice none 0 0,kind:=.sl,elem:=103,esize:=2,ebytes:=16,ezero:=.agg #[.int .i64 0,.int .i64 0],eagg:=true,ety:=XJ}
def ZAP:TI:={size:=3,bytes:=72,zero:=.agg #[.slice none 0 0,.slice none 0 0,.slice none 0 0],kind:=.st,flds:=[(0,1,false),(1,1,false),(2,1,false)]}
def ZAQ:TI:={size:=4,bytes:=96,zero:=.agg #[.slice none 0 0,.slice none 0 0,.slice none 0 0,.slice none 0 0],kind:=.st,flds:=[(0,1,false),(1,1,false),(2,1,false),(3,1,false)]}
def ZAR:TI:={size:=4,bytes:=96,zero:=.agg #[.slice none 0 0,.slice none 0 0,.slice none 0 0,.slice none 0 0],kind:=.st,flds:=[(0,1,false),(1,1,false),(2,1,false),(3,1,false)]}
def ZAS:TI:={size:=1,bytes:=24,zero:=.slice none 0 0,kind:=.sl,elem:=183,esize:=4,ebytes:=32,ezero:=.agg #[.int .i64 0,.int .i64 0,.int .i64 0,.int .i64 0],eagg:=true,ety:=JY}
def Zwf:TI:={size:=2,bytes:=16,zero:=.agg #[.int .i64 0,.int .i64 0],kind:=.st,flds:=[(0,1,false),(1,1,false)],eqd:=.int .i64 0 (.int .i64 1 (.nil))}
def Zwg:TI:={size:=5,bytes:=40,zero:=.agg #[.int .i64 0,.int .i64 0,.int .i64 0,.int .i64 0,.int .i64 0],kind:=.st,flds:=[(0,1,false),(1,2,true),(3,2,true)],eqd:=.int .i64 0 (.st 1 2 (.int .i64 0 (.int .i64 1 (.nil))) (.st 3 2 (.int .i64 0 (.int .i64 1 (.nil))) (.nil)))}
def Zwh:TI:={size:=2,bytes:=16,zero:=.agg #[.int .i64 0,.int .i64 0],kind:=.st,flds:=[(0,1,false),(1,1,false)],eqd:=.int .i64 0 (.int .i64 1 (.nil))}
def Zwi:TI:={size:=5,bytes:=40,zero:=.agg #[.int .i64 0,.int .i64 0,.int .i64 0,.int .i64 0,.int .i64 0],kind:=.st,flds:=[(0,1,false),(1,2,true),(3,2,true)],eqd:=.int .i64 0 (.st 1 2 (.int .i64 0 (.int .i64 1 (.nil))) (.st 3 2 (.int .i64 0 (.int .i64 1 (.nil))) (.nil)))}
def Zwj:TI:={size:=1,bytes:=8,zero:=.pointer none,kind:=.ptr}
def Zwk:TI:={size:=1,bytes:=8,zero:=.pointer none,kind:=.ptr}
def Zwl:TI:={size:=1,bytes:=8,zero:=.pointer none,kind:=.ptr}
def Zwm:TI:={size:=2,bytes:=32,zero:=.agg #[.pointer none,.slice none 0 0],kind:=.st,flds:=[(0,1,false),(1,1,false)]}
def Zvf:TI:={size:=1,bytes:=24,zero:=.slice none 0 0,kind:=.sl,elem:=340,esize:=4,ebytes:=40,ezero:=.agg #[.string ByteArray.empty,.int .i64 0,.int .i64 0,.bool false],eagg:=true,ety:=Zdx}
def Zwn:TI:={size:=1,bytes:=24,zero:=.slice none 0 0,kind:=.sl,elem:=173,esize:=6,ebytes:=80,ezero:=.agg #[.int .i64 0,.int .i64 0,.int .i64 0,.int .i64 0,.slice none 0 0,.slice none 0 0],eagg:=true,ety:=ZdP}
def Zwo:TI:={size:=7,bytes:=112,zero:=.agg #[.string ByteArray.empty,.int .i64 0,.slice none 0 0,.slice none 0 0,.slice none 0 0,.int .i64 0,.int .i64 0],kind:=.st,flds:=[(0,1,false),(1,1,false),(2,1,false),(3,1,false),(4,1,false),(5,1,false),(6,1,false)]}
def Zwp:TI:={size:=3,bytes:=48,zero:=.agg #[.string ByteArray.empty,.int .i64 0,.slice none 0 0],kind:=.st,flds:=[(0,1,false),(1,1,false),(2,1,false)]}
def Zwq:TI:={size:=1,bytes:=24,zero:=.slice none 0 0,kind:=.sl,elem:=317,esize:=3,ebytes:=72,ezero:=.agg #[.slice none 0 0,.slice none 0 0,.slice none 0 0],eagg:=true,ety:=YE}
def Zwr:TI:={size:=6,bytes:=80,zero:=.agg #[.int .i64 0,.int .i64 0,.int .i64 0,.int .i64 0,.slice none 0 0,.slice none 0 0],kind:=.st,flds:=[(0,1,false),(1,1,false),(2,1,false),(3,1,false),(4,1,false),(5,1,false)]}
def Zws:TI:={size:=1,bytes:=24,zero:=.slice none 0 0,kind:=.sl,elem:=232,esize:=4,ebytes:=32,ezero:=.agg #[.int .i64 0,.int .i64 0,.int .i64 0,.bool false],eagg:=true,ety:=ZeQ}
def Zwt:TI:={size:=4,bytes:=32,zero:=.agg #[.int .i64 0,.int .i64 0,.int .i64 0,.int .i64 0],kind:=.st,flds:=[(0,1,false),(1,1,false),(2,1,false),(3,1,false)],eqd:=.int .i64 0 (.int .i64 1 (.int .i64 2 (.int .i64 3 (.nil))))}
def Zwu:TI:={size:=4,bytes:=32,zero:=.agg #[.int .i64 0,.int .i64 0,.int .i64 0,.bool false],kind:=.st,flds:=[(0,1,false),(1,1,false),(2,1,false),(3,1,false)],eqd:=.int .i64 0 (.int .i64 1 (.int .i64 2 (.bool 3 (.nil))))}
def Zwv:TI:={size:=1,bytes:=24,zero:=.slice none 0 0,kind:=.sl,elem:=199,esize:=4,ebytes:=32,ezero:=.agg #[.int .i64 0,.int .i64 0,.int .i64 0,.bool false],eagg:=true,ety:=ZiJ}
def Zww:TI:={size:=1,bytes:=24,zero:=.slice none 0 0,kind:=.sl,elem:=35,esize:=1,ebytes:=24,ezero:=.slice none 0 0,eagg:=false,ety:=.sl (.int .i64)}
def Zwx:TI:={size:=10,bytes:=240,zero:=.agg #[.slice none 0 0,.slice none 0 0,.slice none 0 0,.slice none 0 0,.slice none 0 0,.slice none 0 0,.slice none 0 0,.slice none 0 0,.slice none 0 0,.slice none 0 0],kind:=.st,flds:=[(0,5,true),(5,1,false),(6,1,false),(7,1,false),(8,1,false),(9,1,false)]}
def Zwy:TI:={size:=1,bytes:=8,zero:=.pointer none,kind:=.ptr}
def Zwz:TI:={size:=4,bytes:=32,zero:=.agg #[.int .i64 0,.int .i64 0,.int .i64 0,.bool false],kind:=.st,flds:=[(0,1,false),(1,1,false),(2,1,false),(3,1,false)],eqd:=.int .i64 0 (.int .i64 1 (.int .i64 2 (.bool 3 (.nil))))}
def ZwA:TI:={size:=1,bytes:=24,zero:=.slice none 0 0,kind:=.sl,elem:=354,esize:=4,ebytes:=40,ezero:=.agg #[.string ByteArray.empty,.int .i64 0,.int .i64 0,.bool false],eagg:=true,ety:=Zdx}
def ZwB:TI:={size:=1,bytes:=24,zero:=.slice none 0 0,kind:=.sl,elem:=358,esize:=6,ebytes:=80,ezero:=.agg #[.int .i64 0,.int .i64 0,.int .i64 0,.int .i64 0,.slice none 0 0,.slice none 0 0],eagg:=true,ety:=ZdP}
def ZwC:TI:={size:=7,bytes:=112,zero:=.agg #[.string ByteArray.empty,.int .i64 0,.slice none 0 0,.slice none 0 0,.slice none 0 0,.int .i64 0,.int .i64 0],kind:=.st,flds:=[(0,1,false),(1,1,false),(2,1,false),(3,1,false),(4,1,false),(5,1,false),(6,1,false)]}
def ZwD:TI:={size:=3,bytes:=48,zero:=.agg #[.string ByteArray.empty,.int .i64 0,.slice none 0 0],kind:=.st,flds:=[(0,1,false),(1,1,false),(2,1,false)]}
def ZwE:TI:={size:=3,bytes:=32,zero:=.agg #[.string ByteArray.empty,.int .i64 0,.int .i64 0],kind:=.st,flds:=[(0,1,false),(1,1,false),(2,1,false)],eqd:=.str 0 (.int .i64 1 (.int .i64 2 (.nil)))}
def ZwF:TI:={size:=3,bytes:=32,zero:=.agg #[.string ByteArray.empty,.int .i64 0,.int .i64 0],kind:=.st,flds:=[(0,1,false),(1,1,false),(2,1,false)],eqd:=.str 0 (.int .i64 1 (.int .i64 2 (.nil)))}
def Zqe:TI:={size:=1,bytes:=24,zero:=.slice none 0 0,kind:=.sl,elem:=3,esize:=1,ebytes:=8,ezero:=.int .i64 0,eagg:=false,ety:=.int .i64}
def ZwG:TI:={size:=1,bytes:=8,zero:=.pointer none,kind:=.ptr}
def ZwH:TI:={size:=3,bytes:=72,zero:=.agg #[.slice none 0 0,.slice none 0 0,.slice none 0 0],kind:=.st,flds:=[(0,1,false),(1,1,false),(2,1,false)]}
def ZwI:TI:={size:=1,bytes:=24,zero:=.slice none 0 0,kind:=.sl,elem:=332,esize:=2,ebytes:=16,ezero:=.agg #[.int .i64 0,.int .i64 0],eagg:=true,ety:=.pair (.int .i64) (.pair (.int .i64) (.unit))}
def ZwJ:TI:={size:=2,bytes:=16,zero:=.agg #[.int .i64 0,.int .i64 0],kind:=.arr 2,elem:=2,esize:=1,ebytes:=8,ezero:=.int .i64 0,eagg:=false,ety:=.int .i64}
def ZwK:TI:={size:=1,bytes:=24,zero:=.slice none 0 0,kind:=.sl,elem:=5,esize:=1,ebytes:=1,ezero:=.int .u8 0,eagg:=false,ety:=.int .u8}
def ZwL:TI:={size:=4,bytes:=40,zero:=.agg #[.string ByteArray.empty,.int .i64 0,.int .i64 0,.bool false],kind:=.st,flds:=[(0,1,false),(1,1,false),(2,1,false),(3,1,false)],eqd:=.str 0 (.int .i64 1 (.int .i64 2 (.bool 3 (.nil))))}
def ZwM:TI:={size:=1,bytes:=8,zero:=.int .u64 0,kind:=.int .u64}
def ZwN:TI:={size:=4,bytes:=40,zero:=.agg #[.string ByteArray.empty,.int .i64 0,.int .i64 0,.bool false],kind:=.st,flds:=[(0,1,false),(1,1,false),(2,1,false),(3,1,false)],eqd:=.str 0 (.int .i64 1 (.int .i64 2 (.bool 3 (.nil))))}
def ZwO:TI:={size:=1,bytes:=24,zero:=.slice none 0 0,kind:=.sl,elem:=423,esize:=3,ebytes:=72,ezero:=.agg #[.slice none 0 0,.slice none 0 0,.slice none 0 0],eagg:=true,ety:=YE}
def ZwP:TI:={size:=6,bytes:=80,zero:=.agg #[.int .i64 0,.int .i64 0,.int .i64 0,.int .i64 0,.slice none 0 0,.slice none 0 0],kind:=.st,flds:=[(0,1,false),(1,1,false),(2,1,false),(3,1,false),(4,1,false),(5,1,false)]}
def ZwQ:TI:={size:=1,bytes:=24,zero:=.slice none 0 0,kind:=.sl,elem:=377,esize:=2,ebytes:=16,ezero:=.agg #[.int .i64 0,.int .i64 0],eagg:=true,ety:=ZqY}
def ZwR:TI:={size:=2,bytes:=16,zero:=.agg #[.int .i64 0,.int .i64 0],kind:=.st,flds:=[(0,1,false),(1,1,false)],eqd:=.int .i64 0 (.int .i64 1 (.nil))}
def ZwS:TI:={size:=3,bytes:=72,zero:=.agg #[.slice none 0 0,.slice none 0 0,.slice none 0 0],kind:=.st,flds:=[(0,1,false),(1,1,false),(2,1,false)]}
theorem ZBe {P:Program}:Tab.ok [] P:=fun x hx=>by cases hx
theorem Zwe {P:Program} {t:Nat} {ti:TI} {r:Tab} (h:Zbr P t ti) (hr:Tab.ok r P):Tab.ok ((t,ti)::r) P:=fun x hx=>by
 rcases List.mem_cons.1 hx with rfl | hx
 ·exact h
 ·exact hr x hx
def tab:Tab:=[(2,ti2),(3,ti3),(4,ti4),(5,ti5),(6,ti6),(9,ti9),(22,ZAw),(24,ZAx),(25,ZAy),(26,Zyy),(27,ZAz),(29,ZAA),(30,ZAB),(32,ZAC),(34,ZAD),(35,Zum),(36,ZAE),(37,Zvy),(38,ZAF),(40,ZAH),(47,ZAI),(49,ZAJ),(50,ZAK),(51,Zyz),(53,ZAL),(54,ZAM),(56,ZAN),(58,ZAO),(61,ZyA),(63,ZyB),(65,ZAP),(80,ZAQ),(85,ZAR),(98,ZAS),(103,Zwf),(105,Zwg),(114,Zwh),(116,Zwi),(119,Zwj),(122,Zwk),(124,Zwl),(126,Zwm),(165,Zvf),(166,Zwn),(168,Zwo),(170,Zwp),(171,Zwq),(173,Zwr),(180,Zws),(183,Zwt),(199,Zwu),(200,Zwv),(201,Zww),(203,Zwx),(207,Zwy),(232,Zwz),(252,ZwA),(253,ZwB),(255,ZwC),(257,ZwD),(260,ZwE),(266,ZwF),(278,Zqe),(284,ZwG),(317,ZwH),(330,ZwI),(332,ZwJ),(338,ZwK),(340,ZwL),(352,ZwM),(354,ZwN),(356,ZwO),(358,ZwP),(373,ZwQ),(377,ZwR),(423,ZwS)]
theorem Zl:tab.ok Tryz.prog:=by repeat' first | exact ZBe | refine Zwe ?_ ?_ | kernel_rfl | constructor
def ZA8:TI:={ZAw with edp:=some (ZoA)}
def ZA9:TI:={ZAy with edp:=some (Zb7)}
def ZBa:TI:={ZAB with edp:=some (Znq)}
def ZBb:TI:={ZAI with edp:=some (ZoA)}
def ZBc:TI:={ZAK with edp:=some (Zb7)}
def ZBd:TI:={ZAM with edp:=some (Znq)}
def Zx4:TI:={Zwn with edp:=some (Zuk)}
def Zx5:TI:={Zwq with edp:=some (ZgF)}
def Zx6:TI:={Zww with edp:=some (.ol 2 (.flat (.int .i64)))}
def Zx7:TI:={ZwB with edp:=some (Zuk)}
def Zx8:TI:={ZwO with edp:=some (ZgF)}
def ZAT:TI:={ZAw with cut:=true,edp:=some (ZoA)}
def ZAU:TI:={ZAy with cut:=true,edp:=some (Zb7)}
def ZAV:TI:={Zyy with cut:=true}
def ZAW:TI:={ZAz with cut:=true}
def ZAX:TI:={ZAB with cut:=true,edp:=some (Znq)}
def ZAY:TI:={ZAE with cut:=true}
def ZAZ:TI:={Zvy with cut:=true}
def ZA0:TI:={ZAF with cut:=true}
def ZA1:TI:={ZAI with cut:=true,edp:=some (ZoA)}
def ZA2:TI:={ZAK with cut:=true,edp:=some (Zb7)}
def ZA3:TI:={Zyz with cut:=true}
def ZA4:TI:={ZAM with cut:=true,edp:=some (Znq)}
def ZA5:TI:={ZyA with cut:=true}
def ZA6:TI:={ZyB with cut:=true}
def ZA7:TI:={ZAS with cut:=true}
def ZxT:TI:={Zvf with cut:=true}
def ZxU:TI:={Zwn with cut:=true,edp:=some (Zuk)}
def ZxV:TI:={Zwq with cut:=true,edp:=some (ZgF)}
def ZxW:TI:={Zws with cut:=true}
def ZxX:TI:={Zwv with cut:=true}
def ZxY:TI:={Zww with cut:=true,edp:=some (.ol 2 (.flat (.int .i64)))}
def ZxZ:TI:={ZwA with cut:=true}
def Zx0:TI:={ZwB with cut:=true,edp:=some (Zuk)}
def Zx1:TI:={ZwI with cut:=true}
def Zx2:TI:={ZwO with cut:=true,edp:=some (ZgF)}
def Zx3:TI:={ZwQ with cut:=true}
def ZDV:Tab:=[(2,ti2),(3,ti3),(4,ti4),(5,ti5),(6,ti6),(9,ti9),(22,ZA8),(24,ZAx),(25,ZA9),(26,Zyy),(27,ZAz),(29,ZAA),(30,ZBa),(32,ZAC),(34,ZAD),(35,Zum),(36,ZAE),(37,Zvy),(38,ZAF),(40,ZAH),(47,ZBb),(49,ZAJ),(50,ZBc),(51,Zyz),(53,ZAL),(54,ZBd),(56,ZAN),(58,ZAO),(61,ZyA),(63,ZyB),(65,ZAP),(80,ZAQ),(85,ZAR),(98,ZAS),(103,Zwf),(105,Zwg),(114,Zwh),(116,Zwi),(119,Zwj),(122,Zwk),(124,Zwl),(126,Zwm),(165,Zvf),(166,Zx4),(168,Zwo),(170,Zwp),(171,Zx5),(173,Zwr),(180,Zws),(183,Zwt),(199,Zwu),(200,Zwv),(201,Zx6),(203,Zwx),(207,Zwy),(232,Zwz),(252,ZwA),(253,Zx7),(255,ZwC),(257,ZwD),(260,ZwE),(266,ZwF),(278,Zqe),(284,ZwG),(317,ZwH),(330,ZwI),(332,ZwJ),(338,ZwK),(340,ZwL),(352,ZwM),(354,ZwN),(356,Zx8),(358,ZwP),(373,ZwQ),(377,ZwR),(423,ZwS)]
theorem XK:ZDV.ok Tryz.prog:=by repeat' first | exact ZBe | refine Zwe ?_ ?_ | kernel_rfl | constructor
def ZDU:Tab:=[(2,ti2),(3,ti3),(4,ti4),(5,ti5),(6,ti6),(9,ti9),(22,ZAT),(24,ZAx),(25,ZAU),(26,ZAV),(27,ZAW),(29,ZAA),(30,ZAX),(32,ZAC),(34,ZAD),(35,Zum),(36,ZAY),(37,ZAZ),(38,ZA0),(40,ZAH),(47,ZA1),(49,ZAJ),(50,ZA2),(51,ZA3),(53,ZAL),(54,ZA4),(56,ZAN),(58,ZAO),(61,ZA5),(63,ZA6),(65,ZAP),(80,ZAQ),(85,ZAR),(98,ZA7),(103,Zwf),(105,Zwg),(114,Zwh),(116,Zwi),(119,Zwj),(122,Zwk),(124,Zwl),(126,Zwm),(165,ZxT),(166,ZxU),(168,Zwo),(170,Zwp),(171,ZxV),(173,Zwr),(180,ZxW),(183,Zwt),(199,Zwu),(200,ZxX),(201,ZxY),(203,Zwx),(207,Zwy),(232,Zwz),(252,ZxZ),(253,Zx0),(255,ZwC),(257,ZwD),(260,ZwE),(266,ZwF),(278,Zqe),(284,ZwG),(317,ZwH),(330,Zx1),(332,ZwJ),(338,ZwK),(340,ZwL),(352,ZwM),(354,ZwN),(356,Zx2),(358,ZwP),(373,Zx3),(377,ZwR),(423,ZwS)]
theorem ZAv:ZDU.ok Tryz.prog:=by repeat' first | exact ZBe | refine Zwe ?_ ?_ | kernel_rfl | constructor
end Go.Proofs.YtclfgjepbamnlaaGreatDoor
