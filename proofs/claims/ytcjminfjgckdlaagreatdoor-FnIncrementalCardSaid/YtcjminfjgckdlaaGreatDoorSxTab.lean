/-
  The table of types of this translation, as the executor wants it; each row held against the program. Printed by program (gentab.py).
-/
import Derived.Test.YtcjminfjgckdlaaGreatDoorSxTy
import Derived.Test.YtcjminfjgckdlaaGreatDoorProg
import Derived.KernelRfl
namespace Go.Proofs.YtcjminfjgckdlaaGreatDoor
open Go Go.Sx
set_option maxRecDepth 100000
def ti2:TI:={size:=1,bytes:=8,zero:=.int .i64 0,kind:=.int .i64}
def ti3:TI:={size:=1,bytes:=8,zero:=.int .i64 0,kind:=.int .i64}
def ti4:TI:={size:=1,bytes:=1,zero:=.bool false,kind:=.bool}
def ti5:TI:={size:=1,bytes:=1,zero:=.int .u8 0,kind:=.int .u8}
def ti6:TI:={size:=1,bytes:=1,zero:=.int .u8 0,kind:=.int .u8}
def ti8:TI:={size:=4,bytes:=24,zero:=.agg #[.int .i64 0,.int .i64 0,.bool false,.int .u8 0],kind:=.st,flds:=[(0,1,false),(1,1,false),(2,1,false),(3,1,false)]}
def ti9:TI:={size:=1,bytes:=16,zero:=.string ByteArray.empty,kind:=.str}
def ZHm:TI:={size:=1,bytes:=8,zero:=.int .u64 0,kind:=.int .u64}
def ZHn:TI:={size:=1,bytes:=24,zero:=.slice none 0 0,kind:=.sl,elem:=5,esize:=1,ebytes:=1,ezero:=.int .u8 0,eagg:=false,ety:=.int .u8}
def ZJB:TI:={size:=1,bytes:=24,zero:=.slice none 0 0,kind:=.sl,elem:=177,esize:=7,ebytes:=112,ezero:=.agg #[.string ByteArray.empty,.int .i64 0,.slice none 0 0,.slice none 0 0,.slice none 0 0,.int .i64 0,.int .i64 0],eagg:=true,ety:=ZcQ}
def ZHo:TI:={size:=1,bytes:=24,zero:=.agg #[.slice none 0 0],kind:=.st,flds:=[(0,1,false)]}
def ZJC:TI:={size:=1,bytes:=24,zero:=.slice none 0 0,kind:=.sl,elem:=142,esize:=3,ebytes:=48,ezero:=.agg #[.string ByteArray.empty,.int .i64 0,.slice none 0 0],eagg:=true,ety:=Js}
def ZJD:TI:={size:=1,bytes:=24,zero:=.slice none 0 0,kind:=.sl,elem:=9,esize:=1,ebytes:=16,ezero:=.string ByteArray.empty,eagg:=false,ety:=.str}
def ZJE:TI:={size:=1,bytes:=24,zero:=.slice none 0 0,kind:=.sl,elem:=136,esize:=3,ebytes:=32,ezero:=.agg #[.string ByteArray.empty,.int .i64 0,.int .i64 0],eagg:=true,ety:=Zo6}
def ZHp:TI:={size:=3,bytes:=72,zero:=.agg #[.slice none 0 0,.slice none 0 0,.slice none 0 0],kind:=.st,flds:=[(0,1,false),(1,1,false),(2,1,false)]}
def ZJF:TI:={size:=1,bytes:=24,zero:=.slice none 0 0,kind:=.sl,elem:=40,esize:=4,ebytes:=96,ezero:=.agg #[.slice none 0 0,.slice none 0 0,.slice none 0 0,.slice none 0 0],eagg:=true,ety:=ZcR}
def ZHq:TI:={size:=5,bytes:=120,zero:=.agg #[.slice none 0 0,.slice none 0 0,.slice none 0 0,.slice none 0 0,.slice none 0 0],kind:=.st,flds:=[(0,1,true),(1,3,true),(4,1,false)]}
def ZJG:TI:={size:=1,bytes:=24,zero:=.slice none 0 0,kind:=.sl,elem:=42,esize:=10,ebytes:=152,ezero:=.agg #[.int .i64 0,.int .i64 0,.int .i64 0,.int .i64 0,.int .i64 0,.string ByteArray.empty,.slice none 0 0,.slice none 0 0,.slice none 0 0,.slice none 0 0],eagg:=true,ety:=Qh}
def Zye:TI:={size:=1,bytes:=24,zero:=.slice none 0 0,kind:=.sl,elem:=2,esize:=1,ebytes:=8,ezero:=.int .i64 0,eagg:=false,ety:=.int .i64}
def ZHr:TI:={size:=4,bytes:=96,zero:=.agg #[.slice none 0 0,.slice none 0 0,.slice none 0 0,.slice none 0 0],kind:=.st,flds:=[(0,1,false),(1,1,false),(2,1,false),(3,1,false)]}
def ZHs:TI:={size:=10,bytes:=152,zero:=.agg #[.int .i64 0,.int .i64 0,.int .i64 0,.int .i64 0,.int .i64 0,.string ByteArray.empty,.slice none 0 0,.slice none 0 0,.slice none 0 0,.slice none 0 0],kind:=.st,flds:=[(0,1,false),(1,1,false),(2,1,false),(3,1,false),(4,1,false),(5,1,false),(6,4,true)]}
def ZHt:TI:={size:=5,bytes:=48,zero:=.agg #[.string ByteArray.empty,.int .i64 0,.int .i64 0,.int .i64 0,.int .i64 0],kind:=.st,flds:=[(0,1,false),(1,1,false),(2,1,false),(3,1,false),(4,1,false)],eqd:=.str 0 (.int .i64 1 (.int .i64 2 (.int .i64 3 (.int .i64 4 (.nil)))))}
def ZJH:TI:={size:=1,bytes:=24,zero:=.slice none 0 0,kind:=.sl,elem:=87,esize:=5,ebytes:=40,ezero:=.agg #[.int .i64 0,.int .i64 0,.int .i64 0,.int .i64 0,.int .i64 0],eagg:=true,ety:=XQ}
def Zyf:TI:={size:=1,bytes:=24,zero:=.slice none 0 0,kind:=.sl,elem:=4,esize:=1,ebytes:=1,ezero:=.bool false,eagg:=false,ety:=.bool}
def ZJI:TI:={size:=1,bytes:=24,zero:=.slice none 0 0,kind:=.sl,elem:=85,esize:=2,ebytes:=16,ezero:=.agg #[.int .i64 0,.int .i64 0],eagg:=true,ety:=ZaA}
def ZHu:TI:={size:=3,bytes:=72,zero:=.agg #[.slice none 0 0,.slice none 0 0,.slice none 0 0],kind:=.st,flds:=[(0,1,false),(1,1,false),(2,1,false)]}
def ZHv:TI:={size:=1,bytes:=8,zero:=.pointer none,kind:=.ptr}
def ZHw:TI:={size:=2,bytes:=16,zero:=.agg #[.int .i64 0,.int .i64 0],kind:=.st,flds:=[(0,1,false),(1,1,false)],eqd:=.int .i64 0 (.int .i64 1 (.nil))}
def ZHx:TI:={size:=5,bytes:=40,zero:=.agg #[.int .i64 0,.int .i64 0,.int .i64 0,.int .i64 0,.int .i64 0],kind:=.st,flds:=[(0,1,false),(1,2,true),(3,2,true)],eqd:=.int .i64 0 (.st 1 2 (.int .i64 0 (.int .i64 1 (.nil))) (.st 3 2 (.int .i64 0 (.int .i64 1 (.nil))) (.nil)))}
def ZHy:TI:={size:=1,bytes:=8,zero:=.pointer none,kind:=.ptr}
def ZJJ:TI:={size:=1,bytes:=24,zero:=.slice none 0 0,kind:=.sl,elem:=209,esize:=4,ebytes:=32,ezero:=.agg #[.int .i64 0,.int .i64 0,.int .i64 0,.int .i64 0],eagg:=true,ety:=ZbZ}
def ZCu:TI:={size:=1,bytes:=8,zero:=.pointer none,kind:=.ptr}
def ZCv:TI:={size:=2,bytes:=32,zero:=.agg #[.pointer none,.slice none 0 0],kind:=.st,flds:=[(0,1,false),(1,1,false)]}
def ZCw:TI:={size:=3,bytes:=40,zero:=.agg #[.slice none 0 0,.int .i64 0,.int .i64 0],kind:=.st,flds:=[(0,1,false),(1,1,false),(2,1,false)]}
def ZCx:TI:={size:=3,bytes:=32,zero:=.agg #[.string ByteArray.empty,.int .i64 0,.int .i64 0],kind:=.st,flds:=[(0,1,false),(1,1,false),(2,1,false)],eqd:=.str 0 (.int .i64 1 (.int .i64 2 (.nil)))}
def ZET:TI:={size:=1,bytes:=24,zero:=.slice none 0 0,kind:=.sl,elem:=154,esize:=4,ebytes:=32,ezero:=.agg #[.int .i64 0,.int .i64 0,.int .i64 0,.bool false],eagg:=true,ety:=ZgK}
def ZCy:TI:={size:=3,bytes:=48,zero:=.agg #[.string ByteArray.empty,.int .i64 0,.slice none 0 0],kind:=.st,flds:=[(0,1,false),(1,1,false),(2,1,false)]}
def ZCz:TI:={size:=4,bytes:=32,zero:=.agg #[.int .i64 0,.int .i64 0,.int .i64 0,.bool false],kind:=.st,flds:=[(0,1,false),(1,1,false),(2,1,false),(3,1,false)],eqd:=.int .i64 0 (.int .i64 1 (.int .i64 2 (.bool 3 (.nil))))}
def ZCA:TI:={size:=1,bytes:=8,zero:=.pointer none,kind:=.ptr}
def ZEU:TI:={size:=1,bytes:=24,zero:=.slice none 0 0,kind:=.sl,elem:=302,esize:=4,ebytes:=40,ezero:=.agg #[.string ByteArray.empty,.int .i64 0,.int .i64 0,.bool false],eagg:=true,ety:=ZmU}
def ZEV:TI:={size:=1,bytes:=24,zero:=.slice none 0 0,kind:=.sl,elem:=180,esize:=6,ebytes:=80,ezero:=.agg #[.int .i64 0,.int .i64 0,.int .i64 0,.int .i64 0,.slice none 0 0,.slice none 0 0],eagg:=true,ety:=Zn7}
def ZCB:TI:={size:=7,bytes:=112,zero:=.agg #[.string ByteArray.empty,.int .i64 0,.slice none 0 0,.slice none 0 0,.slice none 0 0,.int .i64 0,.int .i64 0],kind:=.st,flds:=[(0,1,false),(1,1,false),(2,1,false),(3,1,false),(4,1,false),(5,1,false),(6,1,false)]}
def ZEW:TI:={size:=1,bytes:=24,zero:=.slice none 0 0,kind:=.sl,elem:=336,esize:=3,ebytes:=72,ezero:=.agg #[.slice none 0 0,.slice none 0 0,.slice none 0 0],eagg:=true,ety:=Zac}
def ZCC:TI:={size:=6,bytes:=80,zero:=.agg #[.int .i64 0,.int .i64 0,.int .i64 0,.int .i64 0,.slice none 0 0,.slice none 0 0],kind:=.st,flds:=[(0,1,false),(1,1,false),(2,1,false),(3,1,false),(4,1,false),(5,1,false)]}
def ZCD:TI:={size:=4,bytes:=32,zero:=.agg #[.int .i64 0,.int .i64 0,.int .i64 0,.bool false],kind:=.st,flds:=[(0,1,false),(1,1,false),(2,1,false),(3,1,false)],eqd:=.int .i64 0 (.int .i64 1 (.int .i64 2 (.bool 3 (.nil))))}
def ZEX:TI:={size:=1,bytes:=24,zero:=.slice none 0 0,kind:=.sl,elem:=190,esize:=4,ebytes:=32,ezero:=.agg #[.int .i64 0,.int .i64 0,.int .i64 0,.bool false],eagg:=true,ety:=ZmQ}
def ZCE:TI:={size:=2,bytes:=16,zero:=.agg #[.int .i64 0,.int .i64 0],kind:=.st,flds:=[(0,1,false),(1,1,false)],eqd:=.int .i64 0 (.int .i64 1 (.nil))}
def Zuy:TI:={size:=1,bytes:=8,zero:=.map none,kind:=.mp 195 2,ty:=Zdp,ety:=.int .i64}
def ZEY:TI:={size:=1,bytes:=24,zero:=.slice none 0 0,kind:=.sl,elem:=38,esize:=1,ebytes:=24,ezero:=.slice none 0 0,eagg:=false,ety:=.sl (.int .i64)}
def ZCF:TI:={size:=10,bytes:=240,zero:=.agg #[.slice none 0 0,.slice none 0 0,.slice none 0 0,.slice none 0 0,.slice none 0 0,.slice none 0 0,.slice none 0 0,.slice none 0 0,.slice none 0 0,.slice none 0 0],kind:=.st,flds:=[(0,5,true),(5,1,false),(6,1,false),(7,1,false),(8,1,false),(9,1,false)]}
def ZCG:TI:={size:=4,bytes:=32,zero:=.agg #[.int .i64 0,.int .i64 0,.int .i64 0,.int .i64 0],kind:=.st,flds:=[(0,1,false),(1,1,false),(2,1,false),(3,1,false)],eqd:=.int .i64 0 (.int .i64 1 (.int .i64 2 (.int .i64 3 (.nil))))}
def ZCH:TI:={size:=1,bytes:=8,zero:=.int .u64 0,kind:=.int .u64}
def Zrl:TI:={size:=1,bytes:=24,zero:=.slice none 0 0,kind:=.sl,elem:=3,esize:=1,ebytes:=8,ezero:=.int .i64 0,eagg:=false,ety:=.int .i64}
def ZCI:TI:={size:=1,bytes:=8,zero:=.pointer none,kind:=.ptr}
def ZCJ:TI:={size:=1,bytes:=8,zero:=.pointer none,kind:=.ptr}
def ZCK:TI:={size:=1,bytes:=8,zero:=.pointer none,kind:=.ptr}
def ZEZ:TI:={size:=1,bytes:=24,zero:=.slice none 0 0,kind:=.sl,elem:=269,esize:=2,ebytes:=16,ezero:=.agg #[.int .i64 0,.int .i64 0],eagg:=true,ety:=.pair (.int .i64) (.pair (.int .i64) (.unit))}
def ZCL:TI:={size:=2,bytes:=16,zero:=.agg #[.int .i64 0,.int .i64 0],kind:=.arr 2,elem:=2,esize:=1,ebytes:=8,ezero:=.int .i64 0,eagg:=false,ety:=.int .i64}
def ZCM:TI:={size:=1,bytes:=8,zero:=.pointer none,kind:=.ptr}
def ZCN:TI:={size:=4,bytes:=40,zero:=.agg #[.string ByteArray.empty,.int .i64 0,.int .i64 0,.bool false],kind:=.st,flds:=[(0,1,false),(1,1,false),(2,1,false),(3,1,false)],eqd:=.str 0 (.int .i64 1 (.int .i64 2 (.bool 3 (.nil))))}
def ZCO:TI:={size:=3,bytes:=72,zero:=.agg #[.slice none 0 0,.slice none 0 0,.slice none 0 0],kind:=.st,flds:=[(0,1,false),(1,1,false),(2,1,false)]}
def ZE0:TI:={size:=1,bytes:=24,zero:=.slice none 0 0,kind:=.sl,elem:=374,esize:=2,ebytes:=16,ezero:=.agg #[.int .i64 0,.int .i64 0],eagg:=true,ety:=ZvR}
def ZCP:TI:={size:=2,bytes:=16,zero:=.agg #[.int .i64 0,.int .i64 0],kind:=.st,flds:=[(0,1,false),(1,1,false)],eqd:=.int .i64 0 (.int .i64 1 (.nil))}
theorem ZHz {P:Program}:Tab.ok [] P:=λx hx=>by cases hx
theorem ZCt {P:Program} {t:Nat} {ti:TI} {r:Tab} (h:Zeo P t ti) (hr:Tab.ok r P):Tab.ok ((t,ti)::r) P:=λx hx=>by
 rcases UB.1 hx with rfl | hx
 ·exact h
 ·exact hr x hx
def tab:Tab:=[(2,ti2),(3,ti3),(4,ti4),(5,ti5),(6,ti6),(8,ti8),(9,ti9),(12,ZHm),(22,ZHn),(24,ZJB),(26,ZHo),(27,ZJC),(28,ZJD),(29,ZJE),(31,ZHp),(32,ZJF),(34,ZHq),(35,ZJG),(38,Zye),(40,ZHr),(42,ZHs),(44,ZHt),(45,ZJH),(46,Zyf),(47,ZJI),(49,ZHu),(73,ZHv),(85,ZHw),(87,ZHx),(92,ZHy),(98,ZJJ),(107,ZCu),(120,ZCv),(132,ZCw),(136,ZCx),(138,ZET),(142,ZCy),(154,ZCz),(162,ZCA),(174,ZEU),(175,ZEV),(177,ZCB),(178,ZEW),(180,ZCC),(190,ZCD),(191,ZEX),(195,ZCE),(197,Zuy),(202,ZEY),(204,ZCF),(209,ZCG),(224,ZCH),(243,Zrl),(250,ZCI),(262,ZCJ),(264,ZCK),(267,ZEZ),(269,ZCL),(293,ZCM),(302,ZCN),(336,ZCO),(370,ZE0),(374,ZCP)]
theorem Zv:tab.ok Tryz.prog:=by repeat' first | exact ZHz | refine ZCt ?_ ?_ | kernel_rfl | constructor
def ZJM:TI:={ZJB with edp:=some (Zsg)}
def ZJN:TI:={ZJC with edp:=some (Zhy)}
def ZJO:TI:={ZJF with edp:=some (ZoD)}
def ZJP:TI:={ZJG with edp:=some (ZuY)}
def ZGt:TI:={ZEV with edp:=some (ZDh)}
def ZGu:TI:={ZEW with edp:=some (Zj7)}
def ZGv:TI:={ZEY with edp:=some (.ol 2 (.flat (.int .i64)))}
def ZJK:TI:={ZHn with cut:=true}
def ZGj:TI:={ZJB with cut:=true,edp:=some (Zsg)}
def ZGl:TI:={ZJC with cut:=true,edp:=some (Zhy)}
def ZGm:TI:={ZJD with cut:=true}
def ZGn:TI:={ZJE with cut:=true}
def ZGo:TI:={ZJF with cut:=true,edp:=some (ZoD)}
def ZGp:TI:={ZJG with cut:=true,edp:=some (ZuY)}
def ZJL:TI:={Zye with cut:=true}
def ZGq:TI:={ZJH with cut:=true}
def ZE1:TI:={Zyf with cut:=true}
def ZGr:TI:={ZJI with cut:=true}
def ZGs:TI:={ZJJ with cut:=true}
def ZDw:TI:={ZET with cut:=true}
def ZDx:TI:={ZEU with cut:=true}
def ZDy:TI:={ZEV with cut:=true,edp:=some (ZDh)}
def ZDz:TI:={ZEW with cut:=true,edp:=some (Zj7)}
def ZDA:TI:={ZEX with cut:=true}
def ZDB:TI:={ZEY with cut:=true,edp:=some (.ol 2 (.flat (.int .i64)))}
def ZGk:TI:={Zrl with cut:=true}
def ZDC:TI:={ZEZ with cut:=true}
def ZDD:TI:={ZE0 with cut:=true}
def ZMR:Tab:=[(2,ti2),(3,ti3),(4,ti4),(5,ti5),(6,ti6),(8,ti8),(9,ti9),(12,ZHm),(22,ZHn),(24,ZJM),(26,ZHo),(27,ZJN),(28,ZJD),(29,ZJE),(31,ZHp),(32,ZJO),(34,ZHq),(35,ZJP),(38,Zye),(40,ZHr),(42,ZHs),(44,ZHt),(45,ZJH),(46,Zyf),(47,ZJI),(49,ZHu),(73,ZHv),(85,ZHw),(87,ZHx),(92,ZHy),(98,ZJJ),(107,ZCu),(120,ZCv),(132,ZCw),(136,ZCx),(138,ZET),(142,ZCy),(154,ZCz),(162,ZCA),(174,ZEU),(175,ZGt),(177,ZCB),(178,ZGu),(180,ZCC),(190,ZCD),(191,ZEX),(195,ZCE),(197,Zuy),(202,ZGv),(204,ZCF),(209,ZCG),(224,ZCH),(243,Zrl),(250,ZCI),(262,ZCJ),(264,ZCK),(267,ZEZ),(269,ZCL),(293,ZCM),(302,ZCN),(336,ZCO),(370,ZE0),(374,ZCP)]
theorem Qi:ZMR.ok Tryz.prog:=by repeat' first | exact ZHz | refine ZCt ?_ ?_ | kernel_rfl | constructor
def ZMQ:Tab:=[(2,ti2),(3,ti3),(4,ti4),(5,ti5),(6,ti6),(8,ti8),(9,ti9),(12,ZHm),(22,ZHn),(24,ZGj),(26,ZHo),(27,ZGl),(28,ZGm),(29,ZGn),(31,ZHp),(32,ZGo),(34,ZHq),(35,ZGp),(38,Zye),(40,ZHr),(42,ZHs),(44,ZHt),(45,ZGq),(46,ZE1),(47,ZGr),(49,ZHu),(73,ZHv),(85,ZHw),(87,ZHx),(92,ZHy),(98,ZGs),(107,ZCu),(120,ZCv),(132,ZCw),(136,ZCx),(138,ZDw),(142,ZCy),(154,ZCz),(162,ZCA),(174,ZDx),(175,ZDy),(177,ZCB),(178,ZDz),(180,ZCC),(190,ZCD),(191,ZDA),(195,ZCE),(197,Zuy),(202,ZDB),(204,ZCF),(209,ZCG),(224,ZCH),(243,Zrl),(250,ZCI),(262,ZCJ),(264,ZCK),(267,ZDC),(269,ZCL),(293,ZCM),(302,ZCN),(336,ZCO),(370,ZDD),(374,ZCP)]
theorem ZAv:ZMQ.ok Tryz.prog:=by repeat' first | exact ZHz | refine ZCt ?_ ?_ | kernel_rfl | constructor
def ZMS:Tab:=[(2,ti2),(3,ti3),(4,ti4),(5,ti5),(6,ti6),(8,ti8),(9,ti9),(12,ZHm),(22,ZJK),(24,ZGj),(26,ZHo),(27,ZGl),(28,ZGm),(29,ZGn),(31,ZHp),(32,ZGo),(34,ZHq),(35,ZGp),(38,ZJL),(40,ZHr),(42,ZHs),(44,ZHt),(45,ZGq),(46,ZE1),(47,ZGr),(49,ZHu),(73,ZHv),(85,ZHw),(87,ZHx),(92,ZHy),(98,ZGs),(107,ZCu),(120,ZCv),(132,ZCw),(136,ZCx),(138,ZDw),(142,ZCy),(154,ZCz),(162,ZCA),(174,ZDx),(175,ZDy),(177,ZCB),(178,ZDz),(180,ZCC),(190,ZCD),(191,ZDA),(195,ZCE),(197,Zuy),(202,ZDB),(204,ZCF),(209,ZCG),(224,ZCH),(243,ZGk),(250,ZCI),(262,ZCJ),(264,ZCK),(267,ZDC),(269,ZCL),(293,ZCM),(302,ZCN),(336,ZCO),(370,ZDD),(374,ZCP)]
theorem ZEQ:ZMS.ok Tryz.prog:=by repeat' first | exact ZHz | refine ZCt ?_ ?_ | kernel_rfl | constructor
end Go.Proofs.YtcjminfjgckdlaaGreatDoor
