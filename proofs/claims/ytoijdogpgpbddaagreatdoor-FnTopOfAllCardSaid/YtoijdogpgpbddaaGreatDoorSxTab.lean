/-
  The table of types of this translation, as the executor wants it; each row held against the program. Printed by program (gentab.py).
-/
import Derived.Test.YtoijdogpgpbddaaGreatDoorSxTy
import Derived.Test.YtoijdogpgpbddaaGreatDoorProg
import Derived.KernelRfl
namespace Go.Proofs.YtoijdogpgpbddaaGreatDoor
open Go Go.Sx
set_option maxRecDepth 100000
def ti2:TI:={size:=1,bytes:=8,zero:=.int .i64 0,kind:=.int .i64}
def ti3:TI:={size:=1,bytes:=8,zero:=.int .i64 0,kind:=.int .i64}
def ti4:TI:={size:=1,bytes:=1,zero:=.bool false,kind:=.bool}
def ti5:TI:={size:=1,bytes:=1,zero:=.int .u8 0,kind:=.int .u8}
def ti6:TI:={size:=1,bytes:=1,zero:=.int .u8 0,kind:=.int .u8}
def ti8:TI:={size:=4,bytes:=24,zero:=.agg #[.int .i64 0,.int .i64 0,.bool false,.int .u8 0],kind:=.st,flds:=[(0,1,false),(1,1,false),(2,1,false),(3,1,false)]}
def ti9:TI:={size:=1,bytes:=16,zero:=.string ByteArray.empty,kind:=.str}
def ZKg:TI:={size:=1,bytes:=8,zero:=.int .u64 0,kind:=.int .u64}
def ZKh:TI:={size:=1,bytes:=24,zero:=.slice none 0 0,kind:=.sl,elem:=5,esize:=1,ebytes:=1,ezero:=.int .u8 0,eagg:=false,ety:=.int .u8}
def ZKi:TI:={size:=1,bytes:=24,zero:=.slice none 0 0,kind:=.sl,elem:=183,esize:=7,ebytes:=112,ezero:=.agg #[.string ByteArray.empty,.int .i64 0,.slice none 0 0,.slice none 0 0,.slice none 0 0,.int .i64 0,.int .i64 0],eagg:=true,ety:=Zcq}
def ZKj:TI:={size:=1,bytes:=24,zero:=.agg #[.slice none 0 0],kind:=.st,flds:=[(0,1,false)]}
def ZKk:TI:={size:=1,bytes:=24,zero:=.slice none 0 0,kind:=.sl,elem:=105,esize:=3,ebytes:=48,ezero:=.agg #[.string ByteArray.empty,.int .i64 0,.slice none 0 0],eagg:=true,ety:=Jf}
def ZKl:TI:={size:=1,bytes:=24,zero:=.slice none 0 0,kind:=.sl,elem:=9,esize:=1,ebytes:=16,ezero:=.string ByteArray.empty,eagg:=false,ety:=.str}
def ZKm:TI:={size:=1,bytes:=24,zero:=.slice none 0 0,kind:=.sl,elem:=99,esize:=3,ebytes:=32,ezero:=.agg #[.string ByteArray.empty,.int .i64 0,.int .i64 0],eagg:=true,ety:=Zo7}
def ZKn:TI:={size:=3,bytes:=72,zero:=.agg #[.slice none 0 0,.slice none 0 0,.slice none 0 0],kind:=.st,flds:=[(0,1,false),(1,1,false),(2,1,false)]}
def ZKo:TI:={size:=1,bytes:=24,zero:=.slice none 0 0,kind:=.sl,elem:=40,esize:=4,ebytes:=96,ezero:=.agg #[.slice none 0 0,.slice none 0 0,.slice none 0 0,.slice none 0 0],eagg:=true,ety:=ZbR}
def ZKp:TI:={size:=5,bytes:=120,zero:=.agg #[.slice none 0 0,.slice none 0 0,.slice none 0 0,.slice none 0 0,.slice none 0 0],kind:=.st,flds:=[(0,1,true),(1,3,true),(4,1,false)]}
def ZKq:TI:={size:=1,bytes:=24,zero:=.slice none 0 0,kind:=.sl,elem:=42,esize:=10,ebytes:=152,ezero:=.agg #[.int .i64 0,.int .i64 0,.int .i64 0,.int .i64 0,.int .i64 0,.string ByteArray.empty,.slice none 0 0,.slice none 0 0,.slice none 0 0,.slice none 0 0],eagg:=true,ety:=XI}
def ZBq:TI:={size:=1,bytes:=24,zero:=.slice none 0 0,kind:=.sl,elem:=2,esize:=1,ebytes:=8,ezero:=.int .i64 0,eagg:=false,ety:=.int .i64}
def ZKr:TI:={size:=4,bytes:=96,zero:=.agg #[.slice none 0 0,.slice none 0 0,.slice none 0 0,.slice none 0 0],kind:=.st,flds:=[(0,1,false),(1,1,false),(2,1,false),(3,1,false)]}
def ZKs:TI:={size:=10,bytes:=152,zero:=.agg #[.int .i64 0,.int .i64 0,.int .i64 0,.int .i64 0,.int .i64 0,.string ByteArray.empty,.slice none 0 0,.slice none 0 0,.slice none 0 0,.slice none 0 0],kind:=.st,flds:=[(0,1,false),(1,1,false),(2,1,false),(3,1,false),(4,1,false),(5,1,false),(6,4,true)]}
def ZKt:TI:={size:=5,bytes:=48,zero:=.agg #[.string ByteArray.empty,.int .i64 0,.int .i64 0,.int .i64 0,.int .i64 0],kind:=.st,flds:=[(0,1,false),(1,1,false),(2,1,false),(3,1,false),(4,1,false)],eqd:=.str 0 (.int .i64 1 (.int .i64 2 (.int .i64 3 (.int .i64 4 (.nil)))))}
def ZKu:TI:={size:=1,bytes:=24,zero:=.slice none 0 0,kind:=.sl,elem:=74,esize:=5,ebytes:=40,ezero:=.agg #[.int .i64 0,.int .i64 0,.int .i64 0,.int .i64 0,.int .i64 0],eagg:=true,ety:=Qo}
def ZyF:TI:={size:=1,bytes:=24,zero:=.slice none 0 0,kind:=.sl,elem:=4,esize:=1,ebytes:=1,ezero:=.bool false,eagg:=false,ety:=.bool}
def ZKv:TI:={size:=1,bytes:=24,zero:=.slice none 0 0,kind:=.sl,elem:=72,esize:=2,ebytes:=16,ezero:=.agg #[.int .i64 0,.int .i64 0],eagg:=true,ety:=Zaa}
def ZKw:TI:={size:=3,bytes:=72,zero:=.agg #[.slice none 0 0,.slice none 0 0,.slice none 0 0],kind:=.st,flds:=[(0,1,false),(1,1,false),(2,1,false)]}
def ZQp:TI:={size:=1,bytes:=8,zero:=.pointer none,kind:=.ptr}
def ZQq:TI:={size:=1,bytes:=24,zero:=.agg #[.slice none 0 0],kind:=.st,flds:=[(0,1,false)]}
def ZKx:TI:={size:=1,bytes:=8,zero:=.pointer none,kind:=.ptr}
def ZKy:TI:={size:=2,bytes:=16,zero:=.agg #[.int .i64 0,.int .i64 0],kind:=.st,flds:=[(0,1,false),(1,1,false)],eqd:=.int .i64 0 (.int .i64 1 (.nil))}
def ZKz:TI:={size:=5,bytes:=40,zero:=.agg #[.int .i64 0,.int .i64 0,.int .i64 0,.int .i64 0,.int .i64 0],kind:=.st,flds:=[(0,1,false),(1,2,true),(3,2,true)],eqd:=.int .i64 0 (.st 1 2 (.int .i64 0 (.int .i64 1 (.nil))) (.st 3 2 (.int .i64 0 (.int .i64 1 (.nil))) (.nil)))}
def ZKA:TI:={size:=1,bytes:=24,zero:=.slice none 0 0,kind:=.sl,elem:=34,esize:=5,ebytes:=120,ezero:=.agg #[.slice none 0 0,.slice none 0 0,.slice none 0 0,.slice none 0 0,.slice none 0 0],eagg:=true,ety:=Ya}
def ZKB:TI:={size:=3,bytes:=40,zero:=.agg #[.slice none 0 0,.int .i64 0,.int .i64 0],kind:=.st,flds:=[(0,1,false),(1,1,false),(2,1,false)]}
def ZKC:TI:={size:=3,bytes:=32,zero:=.agg #[.string ByteArray.empty,.int .i64 0,.int .i64 0],kind:=.st,flds:=[(0,1,false),(1,1,false),(2,1,false)],eqd:=.str 0 (.int .i64 1 (.int .i64 2 (.nil)))}
def ZFk:TI:={size:=1,bytes:=24,zero:=.slice none 0 0,kind:=.sl,elem:=117,esize:=4,ebytes:=32,ezero:=.agg #[.int .i64 0,.int .i64 0,.int .i64 0,.bool false],eagg:=true,ety:=Zgm}
def ZFl:TI:={size:=3,bytes:=48,zero:=.agg #[.string ByteArray.empty,.int .i64 0,.slice none 0 0],kind:=.st,flds:=[(0,1,false),(1,1,false),(2,1,false)]}
def ZFm:TI:={size:=4,bytes:=32,zero:=.agg #[.int .i64 0,.int .i64 0,.int .i64 0,.bool false],kind:=.st,flds:=[(0,1,false),(1,1,false),(2,1,false),(3,1,false)],eqd:=.int .i64 0 (.int .i64 1 (.int .i64 2 (.bool 3 (.nil))))}
def ZFn:TI:={size:=1,bytes:=8,zero:=.pointer none,kind:=.ptr}
def ZFo:TI:={size:=1,bytes:=24,zero:=.slice none 0 0,kind:=.sl,elem:=222,esize:=4,ebytes:=32,ezero:=.agg #[.int .i64 0,.int .i64 0,.int .i64 0,.int .i64 0],eagg:=true,ety:=ZcP}
def ZFp:TI:={size:=1,bytes:=8,zero:=.pointer none,kind:=.ptr}
def ZPZ:TI:={size:=1,bytes:=8,zero:=.int .u64 0,kind:=.int .u64}
def ZFq:TI:={size:=1,bytes:=8,zero:=.int .u64 0,kind:=.int .u64}
def ZFr:TI:={size:=1,bytes:=8,zero:=.pointer none,kind:=.ptr}
def ZFs:TI:={size:=2,bytes:=32,zero:=.agg #[.pointer none,.slice none 0 0],kind:=.st,flds:=[(0,1,false),(1,1,false)]}
def ZFt:TI:={size:=1,bytes:=24,zero:=.slice none 0 0,kind:=.sl,elem:=277,esize:=4,ebytes:=40,ezero:=.agg #[.string ByteArray.empty,.int .i64 0,.int .i64 0,.bool false],eagg:=true,ety:=Znm}
def ZFu:TI:={size:=1,bytes:=24,zero:=.slice none 0 0,kind:=.sl,elem:=186,esize:=6,ebytes:=80,ezero:=.agg #[.int .i64 0,.int .i64 0,.int .i64 0,.int .i64 0,.slice none 0 0,.slice none 0 0],eagg:=true,ety:=Zof}
def ZFv:TI:={size:=7,bytes:=112,zero:=.agg #[.string ByteArray.empty,.int .i64 0,.slice none 0 0,.slice none 0 0,.slice none 0 0,.int .i64 0,.int .i64 0],kind:=.st,flds:=[(0,1,false),(1,1,false),(2,1,false),(3,1,false),(4,1,false),(5,1,false),(6,1,false)]}
def ZFw:TI:={size:=1,bytes:=24,zero:=.slice none 0 0,kind:=.sl,elem:=330,esize:=3,ebytes:=72,ezero:=.agg #[.slice none 0 0,.slice none 0 0,.slice none 0 0],eagg:=true,ety:=Zaw}
def ZFx:TI:={size:=6,bytes:=80,zero:=.agg #[.int .i64 0,.int .i64 0,.int .i64 0,.int .i64 0,.slice none 0 0,.slice none 0 0],kind:=.st,flds:=[(0,1,false),(1,1,false),(2,1,false),(3,1,false),(4,1,false),(5,1,false)]}
def ZFy:TI:={size:=4,bytes:=32,zero:=.agg #[.int .i64 0,.int .i64 0,.int .i64 0,.bool false],kind:=.st,flds:=[(0,1,false),(1,1,false),(2,1,false),(3,1,false)],eqd:=.int .i64 0 (.int .i64 1 (.int .i64 2 (.bool 3 (.nil))))}
def ZFz:TI:={size:=1,bytes:=24,zero:=.slice none 0 0,kind:=.sl,elem:=195,esize:=4,ebytes:=32,ezero:=.agg #[.int .i64 0,.int .i64 0,.int .i64 0,.bool false],eagg:=true,ety:=Zk7}
def ZFA:TI:={size:=2,bytes:=16,zero:=.agg #[.int .i64 0,.int .i64 0],kind:=.st,flds:=[(0,1,false),(1,1,false)],eqd:=.int .i64 0 (.int .i64 1 (.nil))}
def Zv6:TI:={size:=1,bytes:=8,zero:=.map none,kind:=.mp 200 2,ty:=ZcQ,ety:=.int .i64}
def ZFB:TI:={size:=1,bytes:=24,zero:=.slice none 0 0,kind:=.sl,elem:=38,esize:=1,ebytes:=24,ezero:=.slice none 0 0,eagg:=false,ety:=.sl (.int .i64)}
def ZFD:TI:={size:=10,bytes:=240,zero:=.agg #[.slice none 0 0,.slice none 0 0,.slice none 0 0,.slice none 0 0,.slice none 0 0,.slice none 0 0,.slice none 0 0,.slice none 0 0,.slice none 0 0,.slice none 0 0],kind:=.st,flds:=[(0,5,true),(5,1,false),(6,1,false),(7,1,false),(8,1,false),(9,1,false)]}
def ZFE:TI:={size:=4,bytes:=32,zero:=.agg #[.int .i64 0,.int .i64 0,.int .i64 0,.int .i64 0],kind:=.st,flds:=[(0,1,false),(1,1,false),(2,1,false),(3,1,false)],eqd:=.int .i64 0 (.int .i64 1 (.int .i64 2 (.int .i64 3 (.nil))))}
def Zto:TI:={size:=1,bytes:=24,zero:=.slice none 0 0,kind:=.sl,elem:=3,esize:=1,ebytes:=8,ezero:=.int .i64 0,eagg:=false,ety:=.int .i64}
def ZFF:TI:={size:=1,bytes:=8,zero:=.pointer none,kind:=.ptr}
def ZFG:TI:={size:=1,bytes:=8,zero:=.pointer none,kind:=.ptr}
def ZFH:TI:={size:=1,bytes:=8,zero:=.pointer none,kind:=.ptr}
def ZFI:TI:={size:=1,bytes:=24,zero:=.slice none 0 0,kind:=.sl,elem:=272,esize:=2,ebytes:=16,ezero:=.agg #[.int .i64 0,.int .i64 0],eagg:=true,ety:=.pair (.int .i64) (.pair (.int .i64) (.unit))}
def ZFJ:TI:={size:=2,bytes:=16,zero:=.agg #[.int .i64 0,.int .i64 0],kind:=.arr 2,elem:=2,esize:=1,ebytes:=8,ezero:=.int .i64 0,eagg:=false,ety:=.int .i64}
def ZFK:TI:={size:=4,bytes:=40,zero:=.agg #[.string ByteArray.empty,.int .i64 0,.int .i64 0,.bool false],kind:=.st,flds:=[(0,1,false),(1,1,false),(2,1,false),(3,1,false)],eqd:=.str 0 (.int .i64 1 (.int .i64 2 (.bool 3 (.nil))))}
def ZFL:TI:={size:=1,bytes:=8,zero:=.pointer none,kind:=.ptr}
def ZFM:TI:={size:=3,bytes:=72,zero:=.agg #[.slice none 0 0,.slice none 0 0,.slice none 0 0],kind:=.st,flds:=[(0,1,false),(1,1,false),(2,1,false)]}
def ZFN:TI:={size:=1,bytes:=24,zero:=.slice none 0 0,kind:=.sl,elem:=369,esize:=2,ebytes:=16,ezero:=.agg #[.int .i64 0,.int .i64 0],eagg:=true,ety:=Zwb}
def ZFO:TI:={size:=2,bytes:=16,zero:=.agg #[.int .i64 0,.int .i64 0],kind:=.st,flds:=[(0,1,false),(1,1,false)],eqd:=.int .i64 0 (.int .i64 1 (.nil))}
theorem ZKT {P:Program}:Tab.ok [] P:=λx hx=>by cases hx
theorem ZFj {P:Program} {t:Nat} {ti:TI} {r:Tab} (h:ZeP P t ti) (hr:Tab.ok r P):Tab.ok ((t,ti)::r) P:=λx hx=>by
 rcases UD.1 hx with rfl | hx
 ·exact h
 ·exact hr x hx
def tab:Tab:=[(2,ti2),(3,ti3),(4,ti4),(5,ti5),(6,ti6),(8,ti8),(9,ti9),(12,ZKg),(22,ZKh),(24,ZKi),(26,ZKj),(27,ZKk),(28,ZKl),(29,ZKm),(31,ZKn),(32,ZKo),(34,ZKp),(35,ZKq),(38,ZBq),(40,ZKr),(42,ZKs),(44,ZKt),(45,ZKu),(46,ZyF),(47,ZKv),(49,ZKw),(54,ZQp),(56,ZQq),(60,ZKx),(72,ZKy),(74,ZKz),(77,ZKA),(95,ZKB),(99,ZKC),(101,ZFk),(105,ZFl),(117,ZFm),(121,ZFn),(128,ZFo),(139,ZFp),(153,ZPZ),(154,ZFq),(164,ZFr),(173,ZFs),(180,ZFt),(181,ZFu),(183,ZFv),(184,ZFw),(186,ZFx),(195,ZFy),(196,ZFz),(200,ZFA),(202,Zv6),(215,ZFB),(217,ZFD),(222,ZFE),(243,Zto),(250,ZFF),(258,ZFG),(260,ZFH),(270,ZFI),(272,ZFJ),(277,ZFK),(296,ZFL),(330,ZFM),(365,ZFN),(369,ZFO)]
theorem Zx:tab.ok Tryz.prog:=by repeat' first | exact ZKT | refine ZFj ?_ ?_ | kernel_rfl | constructor
def ZKN:TI:={ZKi with edp:=some (Zsl)}
def ZKO:TI:={ZKk with edp:=some (Zh6)}
def ZKP:TI:={ZKo with edp:=some (ZoN)}
def ZKQ:TI:={ZKq with edp:=some (ZtU)}
def ZKR:TI:={ZKA with edp:=some (Zex)}
def ZHf:TI:={ZFu with edp:=some (ZDQ)}
def ZHg:TI:={ZFw with edp:=some (ZkH)}
def ZHh:TI:={ZFB with edp:=some (.ol 2 (.flat (.int .i64)))}
def ZKD:TI:={ZKi with cut:=true,edp:=some (Zsl)}
def ZKE:TI:={ZKk with cut:=true,edp:=some (Zh6)}
def ZKF:TI:={ZKl with cut:=true}
def ZKG:TI:={ZKm with cut:=true}
def ZKH:TI:={ZKo with cut:=true,edp:=some (ZoN)}
def ZKI:TI:={ZKq with cut:=true,edp:=some (ZtU)}
def ZKJ:TI:={ZKu with cut:=true}
def ZKK:TI:={ZyF with cut:=true}
def ZKL:TI:={ZKv with cut:=true}
def ZKM:TI:={ZKA with cut:=true,edp:=some (Zex)}
def ZG6:TI:={ZFk with cut:=true}
def ZG7:TI:={ZFo with cut:=true}
def ZG8:TI:={ZFt with cut:=true}
def ZG9:TI:={ZFu with cut:=true,edp:=some (ZDQ)}
def ZHa:TI:={ZFw with cut:=true,edp:=some (ZkH)}
def ZHb:TI:={ZFz with cut:=true}
def ZHc:TI:={ZFB with cut:=true,edp:=some (.ol 2 (.flat (.int .i64)))}
def ZHd:TI:={ZFI with cut:=true}
def ZHe:TI:={ZFN with cut:=true}
def ZN1:Tab:=[(2,ti2),(3,ti3),(4,ti4),(5,ti5),(6,ti6),(8,ti8),(9,ti9),(12,ZKg),(22,ZKh),(24,ZKN),(26,ZKj),(27,ZKO),(28,ZKl),(29,ZKm),(31,ZKn),(32,ZKP),(34,ZKp),(35,ZKQ),(38,ZBq),(40,ZKr),(42,ZKs),(44,ZKt),(45,ZKu),(46,ZyF),(47,ZKv),(49,ZKw),(54,ZQp),(56,ZQq),(60,ZKx),(72,ZKy),(74,ZKz),(77,ZKR),(95,ZKB),(99,ZKC),(101,ZFk),(105,ZFl),(117,ZFm),(121,ZFn),(128,ZFo),(139,ZFp),(153,ZPZ),(154,ZFq),(164,ZFr),(173,ZFs),(180,ZFt),(181,ZHf),(183,ZFv),(184,ZHg),(186,ZFx),(195,ZFy),(196,ZFz),(200,ZFA),(202,Zv6),(215,ZHh),(217,ZFD),(222,ZFE),(243,Zto),(250,ZFF),(258,ZFG),(260,ZFH),(270,ZFI),(272,ZFJ),(277,ZFK),(296,ZFL),(330,ZFM),(365,ZFN),(369,ZFO)]
theorem Qx:ZN1.ok Tryz.prog:=by repeat' first | exact ZKT | refine ZFj ?_ ?_ | kernel_rfl | constructor
def ZN0:Tab:=[(2,ti2),(3,ti3),(4,ti4),(5,ti5),(6,ti6),(8,ti8),(9,ti9),(12,ZKg),(22,ZKh),(24,ZKD),(26,ZKj),(27,ZKE),(28,ZKF),(29,ZKG),(31,ZKn),(32,ZKH),(34,ZKp),(35,ZKI),(38,ZBq),(40,ZKr),(42,ZKs),(44,ZKt),(45,ZKJ),(46,ZKK),(47,ZKL),(49,ZKw),(54,ZQp),(56,ZQq),(60,ZKx),(72,ZKy),(74,ZKz),(77,ZKM),(95,ZKB),(99,ZKC),(101,ZG6),(105,ZFl),(117,ZFm),(121,ZFn),(128,ZG7),(139,ZFp),(153,ZPZ),(154,ZFq),(164,ZFr),(173,ZFs),(180,ZG8),(181,ZG9),(183,ZFv),(184,ZHa),(186,ZFx),(195,ZFy),(196,ZHb),(200,ZFA),(202,Zv6),(215,ZHc),(217,ZFD),(222,ZFE),(243,Zto),(250,ZFF),(258,ZFG),(260,ZFH),(270,ZHd),(272,ZFJ),(277,ZFK),(296,ZFL),(330,ZFM),(365,ZHe),(369,ZFO)]
theorem ZBo:ZN0.ok Tryz.prog:=by repeat' first | exact ZKT | refine ZFj ?_ ?_ | kernel_rfl | constructor
end Go.Proofs.YtoijdogpgpbddaaGreatDoor
