/-
  The table of types of this translation, as the executor wants it; each row held against the program. Printed by program (gentab.py).
-/
import Derived.Test.YtmihfdfjccociaaGreatDoorSxTy
import Derived.Test.YtmihfdfjccociaaGreatDoorProg
import Derived.KernelRfl
namespace Go.Proofs.YtmihfdfjccociaaGreatDoor
open Go Go.Sx
set_option maxRecDepth 100000
def ti2:TI:={size:=1,bytes:=8,zero:=.int .i64 0,kind:=.int .i64}
def ti3:TI:={size:=1,bytes:=8,zero:=.int .i64 0,kind:=.int .i64}
def ti4:TI:={size:=1,bytes:=1,zero:=.bool false,kind:=.bool}
def ti5:TI:={size:=1,bytes:=1,zero:=.int .u8 0,kind:=.int .u8}
def ti6:TI:={size:=1,bytes:=1,zero:=.int .u8 0,kind:=.int .u8}
def ti7:TI:={size:=4,bytes:=24,zero:=.agg #[.int .i64 0,.int .i64 0,.bool false,.int .u8 0],kind:=.st,flds:=[(0,1,false),(1,1,false),(2,1,false),(3,1,false)]}
def ti8:TI:={size:=4,bytes:=24,zero:=.agg #[.int .i64 0,.int .i64 0,.bool false,.int .u8 0],kind:=.st,flds:=[(0,1,false),(1,1,false),(2,1,false),(3,1,false)]}
def ti9:TI:={size:=1,bytes:=16,zero:=.string ByteArray.empty,kind:=.str}
def Zu8:TI:={size:=1,bytes:=16,zero:=.string ByteArray.empty,kind:=.str}
def Zu9:TI:={size:=1,bytes:=8,zero:=.int .u64 0,kind:=.int .u64}
def Zva:TI:={size:=1,bytes:=24,zero:=.slice none 0 0,kind:=.sl,elem:=5,esize:=1,ebytes:=1,ezero:=.int .u8 0,eagg:=false,ety:=.int .u8}
def Zvb:TI:={size:=1,bytes:=24,zero:=.slice none 0 0,kind:=.sl,elem:=205,esize:=7,ebytes:=112,ezero:=.agg #[.string ByteArray.empty,.int .i64 0,.slice none 0 0,.slice none 0 0,.slice none 0 0,.int .i64 0,.int .i64 0],eagg:=true,ety:=Zdq}
def Zvc:TI:={size:=1,bytes:=24,zero:=.agg #[.slice none 0 0],kind:=.st,flds:=[(0,1,false)]}
def Zvd:TI:={size:=1,bytes:=24,zero:=.slice none 0 0,kind:=.sl,elem:=141,esize:=3,ebytes:=48,ezero:=.agg #[.string ByteArray.empty,.int .i64 0,.slice none 0 0],eagg:=true,ety:=ZcC}
def Zve:TI:={size:=1,bytes:=24,zero:=.slice none 0 0,kind:=.sl,elem:=9,esize:=1,ebytes:=16,ezero:=.string ByteArray.empty,eagg:=false,ety:=.str}
def Zvf:TI:={size:=1,bytes:=24,zero:=.slice none 0 0,kind:=.sl,elem:=145,esize:=3,ebytes:=32,ezero:=.agg #[.string ByteArray.empty,.int .i64 0,.int .i64 0],eagg:=true,ety:=Zoq}
def Zvg:TI:={size:=3,bytes:=72,zero:=.agg #[.slice none 0 0,.slice none 0 0,.slice none 0 0],kind:=.st,flds:=[(0,1,false),(1,1,false),(2,1,false)]}
def Zvh:TI:={size:=1,bytes:=24,zero:=.slice none 0 0,kind:=.sl,elem:=133,esize:=4,ebytes:=96,ezero:=.agg #[.slice none 0 0,.slice none 0 0,.slice none 0 0,.slice none 0 0],eagg:=true,ety:=ZiL}
def Zvi:TI:={size:=5,bytes:=120,zero:=.agg #[.slice none 0 0,.slice none 0 0,.slice none 0 0,.slice none 0 0,.slice none 0 0],kind:=.st,flds:=[(0,1,true),(1,3,true),(4,1,false)]}
def Zvj:TI:={size:=1,bytes:=24,zero:=.slice none 0 0,kind:=.sl,elem:=77,esize:=11,ebytes:=96,ezero:=.agg #[.string ByteArray.empty,.int .i64 0,.int .i64 0,.int .i64 0,.int .i64 0,.int .i64 0,.int .i64 0,.bool false,.int .i64 0,.int .i64 0,.int .i64 0],eagg:=true,ety:=Jr}
def Zvk:TI:={size:=1,bytes:=24,zero:=.slice none 0 0,kind:=.sl,elem:=111,esize:=6,ebytes:=48,ezero:=.agg #[.int .i64 0,.int .i64 0,.int .i64 0,.int .i64 0,.int .i64 0,.int .i64 0],eagg:=true,ety:=Qy}
def Zvl:TI:={size:=1,bytes:=24,zero:=.slice none 0 0,kind:=.sl,elem:=82,esize:=5,ebytes:=88,ezero:=.agg #[.int .i64 0,.int .i64 0,.slice none 0 0,.slice none 0 0,.slice none 0 0],eagg:=true,ety:=Qo}
def Zvm:TI:={size:=1,bytes:=24,zero:=.slice none 0 0,kind:=.sl,elem:=65,esize:=5,ebytes:=48,ezero:=.agg #[.string ByteArray.empty,.int .i64 0,.int .i64 0,.int .i64 0,.int .i64 0],eagg:=true,ety:=Zaj}
def Zvn:TI:={size:=5,bytes:=120,zero:=.agg #[.slice none 0 0,.slice none 0 0,.slice none 0 0,.slice none 0 0,.slice none 0 0],kind:=.st,flds:=[(0,1,false),(1,1,false),(2,1,false),(3,1,false),(4,1,false)]}
def Zvo:TI:={size:=1,bytes:=24,zero:=.slice none 0 0,kind:=.sl,elem:=116,esize:=5,ebytes:=40,ezero:=.agg #[.int .i64 0,.int .i64 0,.int .i64 0,.int .i64 0,.int .i64 0],eagg:=true,ety:=Xt}
def Zvp:TI:={size:=1,bytes:=24,zero:=.slice none 0 0,kind:=.sl,elem:=129,esize:=3,ebytes:=24,ezero:=.agg #[.int .i64 0,.int .i64 0,.int .i64 0],eagg:=true,ety:=Zgk}
def ZrK:TI:={size:=1,bytes:=24,zero:=.slice none 0 0,kind:=.sl,elem:=2,esize:=1,ebytes:=8,ezero:=.int .i64 0,eagg:=false,ety:=.int .i64}
def Zvq:TI:={size:=5,bytes:=48,zero:=.agg #[.string ByteArray.empty,.int .i64 0,.int .i64 0,.int .i64 0,.int .i64 0],kind:=.st,flds:=[(0,1,false),(1,1,false),(2,1,false),(3,1,false),(4,1,false)],eqd:=.str 0 (.int .i64 1 (.int .i64 2 (.int .i64 3 (.int .i64 4 (.nil)))))}
def Zvr:TI:={size:=1,bytes:=8,zero:=.pointer none,kind:=.ptr}
def Zvs:TI:={size:=11,bytes:=96,zero:=.agg #[.string ByteArray.empty,.int .i64 0,.int .i64 0,.int .i64 0,.int .i64 0,.int .i64 0,.int .i64 0,.bool false,.int .i64 0,.int .i64 0,.int .i64 0],kind:=.st,flds:=[(0,1,false),(1,1,false),(2,1,false),(3,1,false),(4,1,false),(5,1,false),(6,1,false),(7,1,false),(8,1,false),(9,1,false),(10,1,false)],eqd:=.str 0 (.int .i64 1 (.int .i64 2 (.int .i64 3 (.int .i64 4 (.int .i64 5 (.int .i64 6 (.bool 7 (.int .i64 8 (.int .i64 9 (.int .i64 10 (.nil)))))))))))}
def Zvt:TI:={size:=1,bytes:=24,zero:=.slice none 0 0,kind:=.sl,elem:=143,esize:=4,ebytes:=32,ezero:=.agg #[.int .i64 0,.int .i64 0,.int .i64 0,.bool false],eagg:=true,ety:=Zd8}
def Zvu:TI:={size:=5,bytes:=88,zero:=.agg #[.int .i64 0,.int .i64 0,.slice none 0 0,.slice none 0 0,.slice none 0 0],kind:=.st,flds:=[(0,1,false),(1,1,false),(2,1,false),(3,1,false),(4,1,false)]}
def Zvv:TI:={size:=1,bytes:=8,zero:=.pointer none,kind:=.ptr}
def Zta:TI:={size:=4,bytes:=32,zero:=.agg #[.int .i64 0,.int .i64 0,.int .i64 0,.bool false],kind:=.st,flds:=[(0,1,false),(1,1,false),(2,1,false),(3,1,false)],eqd:=.int .i64 0 (.int .i64 1 (.int .i64 2 (.bool 3 (.nil))))}
def Ztb:TI:={size:=1,bytes:=24,zero:=.slice none 0 0,kind:=.sl,elem:=105,esize:=4,ebytes:=32,ezero:=.agg #[.int .i64 0,.int .i64 0,.int .i64 0,.bool false],eagg:=true,ety:=Zho}
def Ztc:TI:={size:=2,bytes:=16,zero:=.agg #[.int .i64 0,.int .i64 0],kind:=.st,flds:=[(0,1,false),(1,1,false)],eqd:=.int .i64 0 (.int .i64 1 (.nil))}
def Ztd:TI:={size:=6,bytes:=48,zero:=.agg #[.int .i64 0,.int .i64 0,.int .i64 0,.int .i64 0,.int .i64 0,.int .i64 0],kind:=.st,flds:=[(0,1,false),(1,1,false),(2,2,true),(4,2,true)],eqd:=.int .i64 0 (.int .i64 1 (.st 2 2 (.int .i64 0 (.int .i64 1 (.nil))) (.st 4 2 (.int .i64 0 (.int .i64 1 (.nil))) (.nil))))}
def Zte:TI:={size:=3,bytes:=40,zero:=.agg #[.slice none 0 0,.int .i64 0,.int .i64 0],kind:=.st,flds:=[(0,1,false),(1,1,false),(2,1,false)]}
def Ztf:TI:={size:=5,bytes:=40,zero:=.agg #[.int .i64 0,.int .i64 0,.int .i64 0,.int .i64 0,.int .i64 0],kind:=.st,flds:=[(0,1,false),(1,2,true),(3,2,true)],eqd:=.int .i64 0 (.st 1 2 (.int .i64 0 (.int .i64 1 (.nil))) (.st 3 2 (.int .i64 0 (.int .i64 1 (.nil))) (.nil)))}
def Ztg:TI:={size:=2,bytes:=16,zero:=.agg #[.int .i64 0,.int .i64 0],kind:=.arr 2,elem:=2,esize:=1,ebytes:=8,ezero:=.int .i64 0,eagg:=false,ety:=.int .i64}
def Zth:TI:={size:=3,bytes:=24,zero:=.agg #[.int .i64 0,.int .i64 0,.int .i64 0],kind:=.st,flds:=[(0,1,false),(1,2,true)]}
def Zti:TI:={size:=3,bytes:=24,zero:=.agg #[.int .i64 0,.int .i64 0,.int .i64 0],kind:=.st,flds:=[(0,1,false),(1,2,true)],eqd:=.int .i64 0 (.st 1 2 (.int .i64 0 (.int .i64 1 (.nil))) (.nil))}
def Ztj:TI:={size:=4,bytes:=96,zero:=.agg #[.slice none 0 0,.slice none 0 0,.slice none 0 0,.slice none 0 0],kind:=.st,flds:=[(0,1,false),(1,1,false),(2,1,false),(3,1,false)]}
def Ztk:TI:={size:=3,bytes:=24,zero:=.agg #[.int .i64 0,.int .i64 0,.int .i64 0],kind:=.st,flds:=[(0,1,false),(1,1,false),(2,1,false)],eqd:=.int .i64 0 (.int .i64 1 (.int .i64 2 (.nil)))}
def Ztl:TI:={size:=3,bytes:=48,zero:=.agg #[.string ByteArray.empty,.int .i64 0,.slice none 0 0],kind:=.st,flds:=[(0,1,false),(1,1,false),(2,1,false)]}
def Ztm:TI:={size:=4,bytes:=32,zero:=.agg #[.int .i64 0,.int .i64 0,.int .i64 0,.bool false],kind:=.st,flds:=[(0,1,false),(1,1,false),(2,1,false),(3,1,false)],eqd:=.int .i64 0 (.int .i64 1 (.int .i64 2 (.bool 3 (.nil))))}
def Ztn:TI:={size:=3,bytes:=32,zero:=.agg #[.string ByteArray.empty,.int .i64 0,.int .i64 0],kind:=.st,flds:=[(0,1,false),(1,1,false),(2,1,false)],eqd:=.str 0 (.int .i64 1 (.int .i64 2 (.nil)))}
def Zto:TI:={size:=1,bytes:=24,zero:=.slice none 0 0,kind:=.sl,elem:=157,esize:=4,ebytes:=32,ezero:=.agg #[.int .i64 0,.int .i64 0,.int .i64 0,.int .i64 0],eagg:=true,ety:=Zkg}
def Ztp:TI:={size:=1,bytes:=24,zero:=.slice none 0 0,kind:=.sl,elem:=60,esize:=1,ebytes:=24,ezero:=.slice none 0 0,eagg:=false,ety:=.sl (.int .i64)}
def Ztq:TI:={size:=10,bytes:=240,zero:=.agg #[.slice none 0 0,.slice none 0 0,.slice none 0 0,.slice none 0 0,.slice none 0 0,.slice none 0 0,.slice none 0 0,.slice none 0 0,.slice none 0 0,.slice none 0 0],kind:=.st,flds:=[(0,5,true),(5,1,false),(6,1,false),(7,1,false),(8,1,false),(9,1,false)]}
def Ztr:TI:={size:=4,bytes:=32,zero:=.agg #[.int .i64 0,.int .i64 0,.int .i64 0,.int .i64 0],kind:=.st,flds:=[(0,1,false),(1,1,false),(2,1,false),(3,1,false)],eqd:=.int .i64 0 (.int .i64 1 (.int .i64 2 (.int .i64 3 (.nil))))}
def Zts:TI:={size:=1,bytes:=8,zero:=.int .u64 0,kind:=.int .u64}
def Zrr:TI:={size:=1,bytes:=24,zero:=.slice none 0 0,kind:=.sl,elem:=3,esize:=1,ebytes:=8,ezero:=.int .i64 0,eagg:=false,ety:=.int .i64}
def Ztt:TI:={size:=1,bytes:=24,zero:=.slice none 0 0,kind:=.sl,elem:=264,esize:=4,ebytes:=40,ezero:=.agg #[.string ByteArray.empty,.int .i64 0,.int .i64 0,.bool false],eagg:=true,ety:=Zlt}
def Ztu:TI:={size:=1,bytes:=24,zero:=.slice none 0 0,kind:=.sl,elem:=208,esize:=6,ebytes:=80,ezero:=.agg #[.int .i64 0,.int .i64 0,.int .i64 0,.int .i64 0,.slice none 0 0,.slice none 0 0],eagg:=true,ety:=ZkI}
def Ztv:TI:={size:=7,bytes:=112,zero:=.agg #[.string ByteArray.empty,.int .i64 0,.slice none 0 0,.slice none 0 0,.slice none 0 0,.int .i64 0,.int .i64 0],kind:=.st,flds:=[(0,1,false),(1,1,false),(2,1,false),(3,1,false),(4,1,false),(5,1,false),(6,1,false)]}
def Ztw:TI:={size:=1,bytes:=24,zero:=.slice none 0 0,kind:=.sl,elem:=307,esize:=3,ebytes:=72,ezero:=.agg #[.slice none 0 0,.slice none 0 0,.slice none 0 0],eagg:=true,ety:=JI}
def Ztx:TI:={size:=6,bytes:=80,zero:=.agg #[.int .i64 0,.int .i64 0,.int .i64 0,.int .i64 0,.slice none 0 0,.slice none 0 0],kind:=.st,flds:=[(0,1,false),(1,1,false),(2,1,false),(3,1,false),(4,1,false),(5,1,false)]}
def Zty:TI:={size:=1,bytes:=24,zero:=.slice none 0 0,kind:=.sl,elem:=121,esize:=2,ebytes:=16,ezero:=.agg #[.int .i64 0,.int .i64 0],eagg:=true,ety:=.pair (.int .i64) (.pair (.int .i64) (.unit))}
def Ztz:TI:={size:=4,bytes:=40,zero:=.agg #[.string ByteArray.empty,.int .i64 0,.int .i64 0,.bool false],kind:=.st,flds:=[(0,1,false),(1,1,false),(2,1,false),(3,1,false)],eqd:=.str 0 (.int .i64 1 (.int .i64 2 (.bool 3 (.nil))))}
def ZtA:TI:={size:=3,bytes:=72,zero:=.agg #[.slice none 0 0,.slice none 0 0,.slice none 0 0],kind:=.st,flds:=[(0,1,false),(1,1,false),(2,1,false)]}
theorem Zvw {P:Program}:Tab.ok [] P:=λx hx=>by cases hx
theorem Zs9 {P:Program} {t:Nat} {ti:TI} {r:Tab} (h:Zaw P t ti) (hr:Tab.ok r P):Tab.ok ((t,ti)::r) P:=λx hx=>by
 rcases Uo.1 hx with rfl | hx
 ·exact h
 ·exact hr x hx
def tab:Tab:=[(2,ti2),(3,ti3),(4,ti4),(5,ti5),(6,ti6),(7,ti7),(8,ti8),(9,ti9),(10,Zu8),(12,Zu9),(22,Zva),(24,Zvb),(26,Zvc),(27,Zvd),(28,Zve),(29,Zvf),(31,Zvg),(32,Zvh),(34,Zvi),(35,Zvj),(36,Zvk),(37,Zvl),(38,Zvm),(40,Zvn),(43,Zvo),(46,Zvp),(60,ZrK),(65,Zvq),(69,Zvr),(77,Zvs),(78,Zvt),(82,Zvu),(84,Zvv),(105,Zta),(106,Ztb),(109,Ztc),(111,Ztd),(113,Zte),(116,Ztf),(121,Ztg),(123,Zth),(129,Zti),(133,Ztj),(137,Ztk),(141,Ztl),(143,Ztm),(145,Ztn),(149,Zto),(150,Ztp),(152,Ztq),(157,Ztr),(193,Zts),(197,Zrr),(202,Ztt),(203,Ztu),(205,Ztv),(206,Ztw),(208,Ztx),(209,Zty),(264,Ztz),(307,ZtA)]
theorem Zv:tab.ok Tryz.prog:=by repeat' first | exact Zvw | refine Zs9 ?_ ?_ | kernel_rfl | constructor
def ZuQ:TI:={Zvb with edp:=some (ZqE)}
def ZuR:TI:={Zvd with edp:=some (Zi6)}
def ZuS:TI:={Zvh with edp:=some (Zo4)}
def ZuT:TI:={Zvl with edp:=some (Zhx)}
def ZtB:TI:={Ztp with edp:=some (.ol 2 (.flat (.int .i64)))}
def ZtC:TI:={Ztu with edp:=some (ZtN)}
def ZtD:TI:={Ztw with edp:=some (ZlJ)}
def Zwq:Tab:=[(2,ti2),(3,ti3),(4,ti4),(5,ti5),(6,ti6),(7,ti7),(8,ti8),(9,ti9),(10,Zu8),(12,Zu9),(22,Zva),(24,ZuQ),(26,Zvc),(27,ZuR),(28,Zve),(29,Zvf),(31,Zvg),(32,ZuS),(34,Zvi),(35,Zvj),(36,Zvk),(37,ZuT),(38,Zvm),(40,Zvn),(43,Zvo),(46,Zvp),(60,ZrK),(65,Zvq),(69,Zvr),(77,Zvs),(78,Zvt),(82,Zvu),(84,Zvv),(105,Zta),(106,Ztb),(109,Ztc),(111,Ztd),(113,Zte),(116,Ztf),(121,Ztg),(123,Zth),(129,Zti),(133,Ztj),(137,Ztk),(141,Ztl),(143,Ztm),(145,Ztn),(149,Zto),(150,ZtB),(152,Ztq),(157,Ztr),(193,Zts),(197,Zrr),(202,Ztt),(203,ZtC),(205,Ztv),(206,ZtD),(208,Ztx),(209,Zty),(264,Ztz),(307,ZtA)]
theorem ZcL:Zwq.ok Tryz.prog:=by repeat' first | exact Zvw | refine Zs9 ?_ ?_ | kernel_rfl | constructor
end Go.Proofs.YtmihfdfjccociaaGreatDoor
