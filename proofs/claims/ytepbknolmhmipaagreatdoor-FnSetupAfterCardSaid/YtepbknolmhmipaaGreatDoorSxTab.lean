/-
  The table of types of this translation, as the executor wants it; each row held against the program. Printed by program (gentab.py).
-/
import Derived.Test.YtepbknolmhmipaaGreatDoorSxTy
import Derived.Test.YtepbknolmhmipaaGreatDoorProg
import Derived.KernelRfl
namespace Go.Proofs.YtepbknolmhmipaaGreatDoor
open Go Go.Sx
set_option maxRecDepth 100000
def ti2:TI:={size:=1,bytes:=8,zero:=.int .i64 0,kind:=.int .i64}
def ti3:TI:={size:=1,bytes:=8,zero:=.int .i64 0,kind:=.int .i64}
def ti4:TI:={size:=1,bytes:=1,zero:=.bool false,kind:=.bool}
def ti5:TI:={size:=1,bytes:=1,zero:=.int .u8 0,kind:=.int .u8}
def ti6:TI:={size:=1,bytes:=1,zero:=.int .u8 0,kind:=.int .u8}
def ti7:TI:={size:=4,bytes:=24,zero:=.agg #[.int .i64 0,.int .i64 0,.bool false,.int .u8 0],kind:=.st,flds:=[(0,1,false),(1,1,false),(2,1,false),(3,1,false)]}
def ti8:TI:={size:=4,bytes:=24,zero:=.agg #[.int .i64 0,.int .i64 0,.bool false,.int .u8 0],kind:=.st,flds:=[(0,1,false),(1,1,false),(2,1,false),(3,1,false)]}
def ti9:TI:={size:=1,bytes:=16,zero:=.string ByteArray.empty,kind:=.str}
def Zx4:TI:={size:=1,bytes:=16,zero:=.string ByteArray.empty,kind:=.str}
def ZLK:TI:={size:=1,bytes:=8,zero:=.int .u64 0,kind:=.int .u64}
def Zwh:TI:={size:=1,bytes:=24,zero:=.slice none 0 0,kind:=.sl,elem:=9,esize:=1,ebytes:=16,ezero:=.string ByteArray.empty,eagg:=false,ety:=.str}
def Zyh:TI:={size:=1,bytes:=24,zero:=.slice none 0 0,kind:=.sl,elem:=281,esize:=7,ebytes:=112,ezero:=.agg #[.string ByteArray.empty,.int .i64 0,.slice none 0 0,.slice none 0 0,.slice none 0 0,.int .i64 0,.int .i64 0],eagg:=true,ety:=V6}
def Zyi:TI:={size:=1,bytes:=24,zero:=.agg #[.slice none 0 0],kind:=.st,flds:=[(0,1,false)]}
def Zyj:TI:={size:=1,bytes:=24,zero:=.slice none 0 0,kind:=.sl,elem:=192,esize:=3,ebytes:=48,ezero:=.agg #[.string ByteArray.empty,.int .i64 0,.slice none 0 0],eagg:=true,ety:=YJ}
def ZxC:TI:={size:=1,bytes:=24,zero:=.slice none 0 0,kind:=.sl,elem:=258,esize:=3,ebytes:=32,ezero:=.agg #[.string ByteArray.empty,.int .i64 0,.int .i64 0],eagg:=true,ety:=ZcF}
def Zyk:TI:={size:=3,bytes:=72,zero:=.agg #[.slice none 0 0,.slice none 0 0,.slice none 0 0],kind:=.st,flds:=[(0,1,false),(1,1,false),(2,1,false)]}
def Zyl:TI:={size:=1,bytes:=24,zero:=.slice none 0 0,kind:=.sl,elem:=67,esize:=4,ebytes:=96,ezero:=.agg #[.slice none 0 0,.slice none 0 0,.slice none 0 0,.slice none 0 0],eagg:=true,ety:=Za9}
def Zym:TI:={size:=5,bytes:=120,zero:=.agg #[.slice none 0 0,.slice none 0 0,.slice none 0 0,.slice none 0 0,.slice none 0 0],kind:=.st,flds:=[(0,1,true),(1,3,true),(4,1,false)]}
def ZxD:TI:={size:=1,bytes:=24,zero:=.slice none 0 0,kind:=.sl,elem:=154,esize:=11,ebytes:=96,ezero:=.agg #[.string ByteArray.empty,.int .i64 0,.int .i64 0,.int .i64 0,.int .i64 0,.int .i64 0,.int .i64 0,.bool false,.int .i64 0,.int .i64 0,.int .i64 0],eagg:=true,ety:=Xh}
def ZxE:TI:={size:=1,bytes:=24,zero:=.slice none 0 0,kind:=.sl,elem:=164,esize:=6,ebytes:=48,ezero:=.agg #[.int .i64 0,.int .i64 0,.int .i64 0,.int .i64 0,.int .i64 0,.int .i64 0],eagg:=true,ety:=Yx}
def Zyn:TI:={size:=1,bytes:=24,zero:=.slice none 0 0,kind:=.sl,elem:=158,esize:=5,ebytes:=88,ezero:=.agg #[.int .i64 0,.int .i64 0,.slice none 0 0,.slice none 0 0,.slice none 0 0],eagg:=true,ety:=Z4}
def ZxF:TI:={size:=1,bytes:=24,zero:=.slice none 0 0,kind:=.sl,elem:=168,esize:=5,ebytes:=48,ezero:=.agg #[.string ByteArray.empty,.int .i64 0,.int .i64 0,.int .i64 0,.int .i64 0],eagg:=true,ety:=Y6}
def Zyo:TI:={size:=5,bytes:=120,zero:=.agg #[.slice none 0 0,.slice none 0 0,.slice none 0 0,.slice none 0 0,.slice none 0 0],kind:=.st,flds:=[(0,1,false),(1,1,false),(2,1,false),(3,1,false),(4,1,false)]}
def Zyp:TI:={size:=1,bytes:=24,zero:=.slice none 0 0,kind:=.sl,elem:=5,esize:=1,ebytes:=1,ezero:=.int .u8 0,eagg:=false,ety:=.int .u8}
def Ztj:TI:={size:=1,bytes:=24,zero:=.slice none 0 0,kind:=.sl,elem:=2,esize:=1,ebytes:=8,ezero:=.int .i64 0,eagg:=false,ety:=.int .i64}
def Zyq:TI:={size:=4,bytes:=96,zero:=.agg #[.slice none 0 0,.slice none 0 0,.slice none 0 0,.slice none 0 0],kind:=.st,flds:=[(0,1,false),(1,1,false),(2,1,false),(3,1,false)]}
def ZLL:TI:={size:=10,bytes:=152,zero:=.agg #[.int .i64 0,.int .i64 0,.int .i64 0,.int .i64 0,.int .i64 0,.string ByteArray.empty,.slice none 0 0,.slice none 0 0,.slice none 0 0,.slice none 0 0],kind:=.st,flds:=[(0,1,false),(1,1,false),(2,1,false),(3,1,false),(4,1,false),(5,1,false),(6,4,true)]}
def ZLM:TI:={size:=1,bytes:=24,zero:=.slice none 0 0,kind:=.sl,elem:=69,esize:=10,ebytes:=152,ezero:=.agg #[.int .i64 0,.int .i64 0,.int .i64 0,.int .i64 0,.int .i64 0,.string ByteArray.empty,.slice none 0 0,.slice none 0 0,.slice none 0 0,.slice none 0 0],eagg:=true,ety:=Zug}
def ZLN:TI:={size:=12,bytes:=288,zero:=.agg #[.slice none 0 0,.slice none 0 0,.slice none 0 0,.slice none 0 0,.slice none 0 0,.slice none 0 0,.slice none 0 0,.slice none 0 0,.slice none 0 0,.slice none 0 0,.slice none 0 0,.slice none 0 0],kind:=.st,flds:=[(0,5,true),(5,5,true),(10,1,false),(11,1,false)]}
def Zu3:TI:={size:=1,bytes:=8,zero:=.pointer none,kind:=.ptr}
def ZKM:TI:={size:=1,bytes:=8,zero:=.pointer none,kind:=.ptr}
def Zu8:TI:={size:=11,bytes:=96,zero:=.agg #[.string ByteArray.empty,.int .i64 0,.int .i64 0,.int .i64 0,.int .i64 0,.int .i64 0,.int .i64 0,.bool false,.int .i64 0,.int .i64 0,.int .i64 0],kind:=.st,flds:=[(0,1,false),(1,1,false),(2,1,false),(3,1,false),(4,1,false),(5,1,false),(6,1,false),(7,1,false),(8,1,false),(9,1,false),(10,1,false)],eqd:=.str 0 (.int .i64 1 (.int .i64 2 (.int .i64 3 (.int .i64 4 (.int .i64 5 (.int .i64 6 (.bool 7 (.int .i64 8 (.int .i64 9 (.int .i64 10 (.nil)))))))))))}
def Zu9:TI:={size:=1,bytes:=24,zero:=.slice none 0 0,kind:=.sl,elem:=234,esize:=4,ebytes:=32,ezero:=.agg #[.int .i64 0,.int .i64 0,.int .i64 0,.bool false],eagg:=true,ety:=ZcG}
def Zva:TI:={size:=5,bytes:=88,zero:=.agg #[.int .i64 0,.int .i64 0,.slice none 0 0,.slice none 0 0,.slice none 0 0],kind:=.st,flds:=[(0,1,false),(1,1,false),(2,1,false),(3,1,false),(4,1,false)]}
def Zvb:TI:={size:=2,bytes:=16,zero:=.agg #[.int .i64 0,.int .i64 0],kind:=.st,flds:=[(0,1,false),(1,1,false)],eqd:=.int .i64 0 (.int .i64 1 (.nil))}
def Zvc:TI:={size:=6,bytes:=48,zero:=.agg #[.int .i64 0,.int .i64 0,.int .i64 0,.int .i64 0,.int .i64 0,.int .i64 0],kind:=.st,flds:=[(0,1,false),(1,1,false),(2,2,true),(4,2,true)],eqd:=.int .i64 0 (.int .i64 1 (.st 2 2 (.int .i64 0 (.int .i64 1 (.nil))) (.st 4 2 (.int .i64 0 (.int .i64 1 (.nil))) (.nil))))}
def Zvd:TI:={size:=5,bytes:=48,zero:=.agg #[.string ByteArray.empty,.int .i64 0,.int .i64 0,.int .i64 0,.int .i64 0],kind:=.st,flds:=[(0,1,false),(1,1,false),(2,1,false),(3,1,false),(4,1,false)],eqd:=.str 0 (.int .i64 1 (.int .i64 2 (.int .i64 3 (.int .i64 4 (.nil)))))}
def Zvg:TI:={size:=1,bytes:=24,zero:=.slice none 0 0,kind:=.sl,elem:=185,esize:=4,ebytes:=32,ezero:=.agg #[.int .i64 0,.int .i64 0,.int .i64 0,.bool false],eagg:=true,ety:=ZhI}
def Zvh:TI:={size:=4,bytes:=32,zero:=.agg #[.int .i64 0,.int .i64 0,.int .i64 0,.bool false],kind:=.st,flds:=[(0,1,false),(1,1,false),(2,1,false),(3,1,false)],eqd:=.int .i64 0 (.int .i64 1 (.int .i64 2 (.bool 3 (.nil))))}
def Zvi:TI:={size:=1,bytes:=24,zero:=.slice none 0 0,kind:=.sl,elem:=197,esize:=4,ebytes:=32,ezero:=.agg #[.int .i64 0,.int .i64 0,.int .i64 0,.int .i64 0],eagg:=true,ety:=ZmI}
def Zvj:TI:={size:=1,bytes:=24,zero:=.slice none 0 0,kind:=.sl,elem:=65,esize:=1,ebytes:=24,ezero:=.slice none 0 0,eagg:=false,ety:=.sl (.int .i64)}
def Zvk:TI:={size:=10,bytes:=240,zero:=.agg #[.slice none 0 0,.slice none 0 0,.slice none 0 0,.slice none 0 0,.slice none 0 0,.slice none 0 0,.slice none 0 0,.slice none 0 0,.slice none 0 0,.slice none 0 0],kind:=.st,flds:=[(0,5,true),(5,1,false),(6,1,false),(7,1,false),(8,1,false),(9,1,false)]}
def Zvl:TI:={size:=3,bytes:=48,zero:=.agg #[.string ByteArray.empty,.int .i64 0,.slice none 0 0],kind:=.st,flds:=[(0,1,false),(1,1,false),(2,1,false)]}
def Zvm:TI:={size:=4,bytes:=32,zero:=.agg #[.int .i64 0,.int .i64 0,.int .i64 0,.int .i64 0],kind:=.st,flds:=[(0,1,false),(1,1,false),(2,1,false),(3,1,false)],eqd:=.int .i64 0 (.int .i64 1 (.int .i64 2 (.int .i64 3 (.nil))))}
def ZKN:TI:={size:=3,bytes:=40,zero:=.agg #[.slice none 0 0,.int .i64 0,.int .i64 0],kind:=.st,flds:=[(0,1,false),(1,1,false),(2,1,false)]}
def Zvn:TI:={size:=4,bytes:=32,zero:=.agg #[.int .i64 0,.int .i64 0,.int .i64 0,.bool false],kind:=.st,flds:=[(0,1,false),(1,1,false),(2,1,false),(3,1,false)],eqd:=.int .i64 0 (.int .i64 1 (.int .i64 2 (.bool 3 (.nil))))}
def ZKO:TI:={size:=2,bytes:=16,zero:=.agg #[.int .i64 0,.int .i64 0],kind:=.st,flds:=[(0,1,false),(1,1,false)],eqd:=.int .i64 0 (.int .i64 1 (.nil))}
def ZIJ:TI:={size:=1,bytes:=8,zero:=.map none,kind:=.mp 241 2,ty:=Zui,ety:=.int .i64}
def Zvo:TI:={size:=3,bytes:=32,zero:=.agg #[.string ByteArray.empty,.int .i64 0,.int .i64 0],kind:=.st,flds:=[(0,1,false),(1,1,false),(2,1,false)],eqd:=.str 0 (.int .i64 1 (.int .i64 2 (.nil)))}
def Zvu:TI:={size:=3,bytes:=24,zero:=.agg #[.int .i64 0,.int .i64 0,.int .i64 0],kind:=.st,flds:=[(0,1,false),(1,1,false),(2,1,false)],eqd:=.int .i64 0 (.int .i64 1 (.int .i64 2 (.nil)))}
def Zuh:TI:={size:=1,bytes:=24,zero:=.slice none 0 0,kind:=.sl,elem:=342,esize:=4,ebytes:=40,ezero:=.agg #[.string ByteArray.empty,.int .i64 0,.int .i64 0,.bool false],eagg:=true,ety:=ZfZ}
def Zvv:TI:={size:=1,bytes:=24,zero:=.slice none 0 0,kind:=.sl,elem:=296,esize:=6,ebytes:=80,ezero:=.agg #[.int .i64 0,.int .i64 0,.int .i64 0,.int .i64 0,.slice none 0 0,.slice none 0 0],eagg:=true,ety:=Zgv}
def Zvw:TI:={size:=7,bytes:=112,zero:=.agg #[.string ByteArray.empty,.int .i64 0,.slice none 0 0,.slice none 0 0,.slice none 0 0,.int .i64 0,.int .i64 0],kind:=.st,flds:=[(0,1,false),(1,1,false),(2,1,false),(3,1,false),(4,1,false),(5,1,false),(6,1,false)]}
def Zti:TI:={size:=1,bytes:=24,zero:=.slice none 0 0,kind:=.sl,elem:=3,esize:=1,ebytes:=8,ezero:=.int .i64 0,eagg:=false,ety:=.int .i64}
def Zvx:TI:={size:=1,bytes:=24,zero:=.slice none 0 0,kind:=.sl,elem:=402,esize:=3,ebytes:=72,ezero:=.agg #[.slice none 0 0,.slice none 0 0,.slice none 0 0],eagg:=true,ety:=XF}
def Zvy:TI:={size:=6,bytes:=80,zero:=.agg #[.int .i64 0,.int .i64 0,.int .i64 0,.int .i64 0,.slice none 0 0,.slice none 0 0],kind:=.st,flds:=[(0,1,false),(1,1,false),(2,1,false),(3,1,false),(4,1,false),(5,1,false)]}
def Zvz:TI:={size:=1,bytes:=24,zero:=.slice none 0 0,kind:=.sl,elem:=299,esize:=2,ebytes:=16,ezero:=.agg #[.int .i64 0,.int .i64 0],eagg:=true,ety:=.pair (.int .i64) (.pair (.int .i64) (.unit))}
def ZvA:TI:={size:=2,bytes:=16,zero:=.agg #[.int .i64 0,.int .i64 0],kind:=.arr 2,elem:=2,esize:=1,ebytes:=8,ezero:=.int .i64 0,eagg:=false,ety:=.int .i64}
def ZvB:TI:={size:=5,bytes:=80,zero:=.agg #[.string ByteArray.empty,.string ByteArray.empty,.string ByteArray.empty,.string ByteArray.empty,.string ByteArray.empty],kind:=.arr 5,elem:=9,esize:=1,ebytes:=16,ezero:=.string ByteArray.empty,eagg:=false,ety:=.str}
def ZKP:TI:={size:=1,bytes:=8,zero:=.pointer none,kind:=.ptr}
def ZKQ:TI:={size:=1,bytes:=8,zero:=.pointer none,kind:=.ptr}
def ZKR:TI:={size:=1,bytes:=8,zero:=.pointer none,kind:=.ptr}
def ZKS:TI:={size:=1,bytes:=8,zero:=.pointer none,kind:=.ptr}
def ZvC:TI:={size:=4,bytes:=40,zero:=.agg #[.string ByteArray.empty,.int .i64 0,.int .i64 0,.bool false],kind:=.st,flds:=[(0,1,false),(1,1,false),(2,1,false),(3,1,false)],eqd:=.str 0 (.int .i64 1 (.int .i64 2 (.bool 3 (.nil))))}
def ZvD:TI:={size:=3,bytes:=24,zero:=.agg #[.int .i64 0,.int .i64 0,.int .i64 0],kind:=.st,flds:=[(0,1,false),(1,2,true)]}
def ZvH:TI:={size:=3,bytes:=72,zero:=.agg #[.slice none 0 0,.slice none 0 0,.slice none 0 0],kind:=.st,flds:=[(0,1,false),(1,1,false),(2,1,false)]}
def ZvI:TI:={size:=1,bytes:=8,zero:=.int .u64 0,kind:=.int .u64}
theorem Zyr {P:Program}:Tab.ok [] P:=λx hx=>by cases hx
theorem Zu1 {P:Program} {t:Nat} {ti:TI} {r:Tab} (h:ZaH P t ti) (hr:Tab.ok r P):Tab.ok ((t,ti)::r) P:=λx hx=>by
 rcases List.mem_cons.1 hx with rfl | hx
 ·exact h
 ·exact hr x hx
def tab:Tab:=[(2,ti2),(3,ti3),(4,ti4),(5,ti5),(6,ti6),(7,ti7),(8,ti8),(9,ti9),(10,Zx4),(12,ZLK),(26,Zwh),(42,Zyh),(44,Zyi),(45,Zyj),(46,ZxC),(48,Zyk),(49,Zyl),(51,Zym),(53,ZxD),(54,ZxE),(55,Zyn),(56,ZxF),(58,Zyo),(63,Zyp),(65,Ztj),(67,Zyq),(69,ZLL),(79,ZLM),(81,ZLN),(104,Zu3),(115,ZKM),(154,Zu8),(155,Zu9),(158,Zva),(162,Zvb),(164,Zvc),(168,Zvd),(182,Zvg),(185,Zvh),(187,Zvi),(188,Zvj),(190,Zvk),(192,Zvl),(197,Zvm),(218,ZKN),(234,Zvn),(241,ZKO),(243,ZIJ),(258,Zvo),(271,Zvu),(278,Zuh),(279,Zvv),(281,Zvw),(289,Zti),(294,Zvx),(296,Zvy),(297,Zvz),(299,ZvA),(311,ZvB),(321,ZKP),(322,ZKQ),(331,ZKR),(333,ZKS),(342,ZvC),(350,ZvD),(402,ZvH),(407,ZvI)]
theorem Zn:tab.ok Tryz.prog:=by repeat' first | exact Zyr | refine Zu1 ?_ ?_ | kernel_rfl | constructor
def ZxK:TI:={Zyh with edp:=some (Zqk)}
def ZxL:TI:={Zyj with edp:=some (ZeA)}
def ZxM:TI:={Zyl with edp:=some (Zql)}
def ZxN:TI:={Zyn with edp:=some (Zdf)}
def ZLY:TI:={ZLM with edp:=some (ZF3)}
def ZvK:TI:={Zvj with edp:=some (.ol 2 (.flat (.int .i64)))}
def ZvM:TI:={Zvv with edp:=some (Zup)}
def ZvN:TI:={Zvx with edp:=some (Zk3)}
def ZLO:TI:={Zwh with cut:=true}
def ZLP:TI:={Zyh with cut:=true,edp:=some (Zqk)}
def ZLQ:TI:={Zyj with cut:=true,edp:=some (ZeA)}
def ZLR:TI:={ZxC with cut:=true}
def ZLS:TI:={Zyl with cut:=true,edp:=some (Zql)}
def ZLT:TI:={ZxD with cut:=true}
def ZLU:TI:={ZxE with cut:=true}
def ZLV:TI:={Zyn with cut:=true,edp:=some (Zdf)}
def ZLW:TI:={ZxF with cut:=true}
def ZLX:TI:={ZLM with cut:=true,edp:=some (ZF3)}
def ZK9:TI:={Zu9 with cut:=true}
def ZLa:TI:={Zvg with cut:=true}
def ZLb:TI:={Zvi with cut:=true}
def ZLc:TI:={Zvj with cut:=true,edp:=some (.ol 2 (.flat (.int .i64)))}
def ZLd:TI:={Zuh with cut:=true}
def ZLe:TI:={Zvv with cut:=true,edp:=some (Zup)}
def ZLf:TI:={Zvx with cut:=true,edp:=some (Zk3)}
def ZLg:TI:={Zvz with cut:=true}
def ZAh:Tab:=[(2,ti2),(3,ti3),(4,ti4),(5,ti5),(6,ti6),(7,ti7),(8,ti8),(9,ti9),(10,Zx4),(12,ZLK),(26,Zwh),(42,ZxK),(44,Zyi),(45,ZxL),(46,ZxC),(48,Zyk),(49,ZxM),(51,Zym),(53,ZxD),(54,ZxE),(55,ZxN),(56,ZxF),(58,Zyo),(63,Zyp),(65,Ztj),(67,Zyq),(69,ZLL),(79,ZLY),(81,ZLN),(104,Zu3),(115,ZKM),(154,Zu8),(155,Zu9),(158,Zva),(162,Zvb),(164,Zvc),(168,Zvd),(182,Zvg),(185,Zvh),(187,Zvi),(188,ZvK),(190,Zvk),(192,Zvl),(197,Zvm),(218,ZKN),(234,Zvn),(241,ZKO),(243,ZIJ),(258,Zvo),(271,Zvu),(278,Zuh),(279,ZvM),(281,Zvw),(289,Zti),(294,ZvN),(296,Zvy),(297,Zvz),(299,ZvA),(311,ZvB),(321,ZKP),(322,ZKQ),(331,ZKR),(333,ZKS),(342,ZvC),(350,ZvD),(402,ZvH),(407,ZvI)]
theorem Zb7:ZAh.ok Tryz.prog:=by repeat' first | exact Zyr | refine Zu1 ?_ ?_ | kernel_rfl | constructor
def ZMt:Tab:=[(2,ti2),(3,ti3),(4,ti4),(5,ti5),(6,ti6),(7,ti7),(8,ti8),(9,ti9),(10,Zx4),(12,ZLK),(26,ZLO),(42,ZLP),(44,Zyi),(45,ZLQ),(46,ZLR),(48,Zyk),(49,ZLS),(51,Zym),(53,ZLT),(54,ZLU),(55,ZLV),(56,ZLW),(58,Zyo),(63,Zyp),(65,Ztj),(67,Zyq),(69,ZLL),(79,ZLX),(81,ZLN),(104,Zu3),(115,ZKM),(154,Zu8),(155,ZK9),(158,Zva),(162,Zvb),(164,Zvc),(168,Zvd),(182,ZLa),(185,Zvh),(187,ZLb),(188,ZLc),(190,Zvk),(192,Zvl),(197,Zvm),(218,ZKN),(234,Zvn),(241,ZKO),(243,ZIJ),(258,Zvo),(271,Zvu),(278,ZLd),(279,ZLe),(281,Zvw),(289,Zti),(294,ZLf),(296,Zvy),(297,ZLg),(299,ZvA),(311,ZvB),(321,ZKP),(322,ZKQ),(331,ZKR),(333,ZKS),(342,ZvC),(350,ZvD),(402,ZvH),(407,ZvI)]
theorem ZJU:ZMt.ok Tryz.prog:=by repeat' first | exact Zyr | refine Zu1 ?_ ?_ | kernel_rfl | constructor
end Go.Proofs.YtepbknolmhmipaaGreatDoor
