/-
  The table of types of this translation, as the executor wants it; each row held against the program. Printed by program (gentab.py).
-/
import Derived.Test.YtgjjlgodlhhdoaaGreatDoorSxTy
import Derived.Test.YtgjjlgodlhhdoaaGreatDoorProg
import Derived.KernelRfl
namespace Go.Proofs.YtgjjlgodlhhdoaaGreatDoor
open Go Go.Sx
set_option maxRecDepth 100000
def ti2:TI:={size:=1,bytes:=8,zero:=.int .i64 0,kind:=.int .i64}
def ti3:TI:={size:=1,bytes:=8,zero:=.int .i64 0,kind:=.int .i64}
def ti4:TI:={size:=1,bytes:=1,zero:=.bool false,kind:=.bool}
def ti5:TI:={size:=1,bytes:=1,zero:=.int .u8 0,kind:=.int .u8}
def ti6:TI:={size:=1,bytes:=1,zero:=.int .u8 0,kind:=.int .u8}
def ti8:TI:={size:=4,bytes:=24,zero:=.agg #[.int .i64 0,.int .i64 0,.bool false,.int .u8 0],kind:=.st,flds:=[(0,1,false),(1,1,false),(2,1,false),(3,1,false)]}
def ti9:TI:={size:=1,bytes:=16,zero:=.string ByteArray.empty,kind:=.str}
def ZxS:TI:={size:=1,bytes:=8,zero:=.int .u64 0,kind:=.int .u64}
def ZxT:TI:={size:=1,bytes:=24,zero:=.slice none 0 0,kind:=.sl,elem:=5,esize:=1,ebytes:=1,ezero:=.int .u8 0,eagg:=false,ety:=.int .u8}
def Zzu:TI:={size:=1,bytes:=24,zero:=.slice none 0 0,kind:=.sl,elem:=210,esize:=7,ebytes:=112,ezero:=.agg #[.string ByteArray.empty,.int .i64 0,.slice none 0 0,.slice none 0 0,.slice none 0 0,.int .i64 0,.int .i64 0],eagg:=true,ety:=Zeu}
def ZxU:TI:={size:=1,bytes:=24,zero:=.agg #[.slice none 0 0],kind:=.st,flds:=[(0,1,false)]}
def Zzv:TI:={size:=1,bytes:=24,zero:=.slice none 0 0,kind:=.sl,elem:=171,esize:=3,ebytes:=48,ezero:=.agg #[.string ByteArray.empty,.int .i64 0,.slice none 0 0],eagg:=true,ety:=ZcV}
def Zzw:TI:={size:=1,bytes:=24,zero:=.slice none 0 0,kind:=.sl,elem:=9,esize:=1,ebytes:=16,ezero:=.string ByteArray.empty,eagg:=false,ety:=.str}
def Zzx:TI:={size:=1,bytes:=24,zero:=.slice none 0 0,kind:=.sl,elem:=166,esize:=3,ebytes:=32,ezero:=.agg #[.string ByteArray.empty,.int .i64 0,.int .i64 0],eagg:=true,ety:=Zo2}
def ZxV:TI:={size:=3,bytes:=72,zero:=.agg #[.slice none 0 0,.slice none 0 0,.slice none 0 0],kind:=.st,flds:=[(0,1,false),(1,1,false),(2,1,false)]}
def Zzy:TI:={size:=1,bytes:=24,zero:=.slice none 0 0,kind:=.sl,elem:=40,esize:=4,ebytes:=96,ezero:=.agg #[.slice none 0 0,.slice none 0 0,.slice none 0 0,.slice none 0 0],eagg:=true,ety:=ZfS}
def ZxW:TI:={size:=5,bytes:=120,zero:=.agg #[.slice none 0 0,.slice none 0 0,.slice none 0 0,.slice none 0 0,.slice none 0 0],kind:=.st,flds:=[(0,1,true),(1,3,true),(4,1,false)]}
def Ztk:TI:={size:=1,bytes:=24,zero:=.slice none 0 0,kind:=.sl,elem:=2,esize:=1,ebytes:=8,ezero:=.int .i64 0,eagg:=false,ety:=.int .i64}
def ZxX:TI:={size:=4,bytes:=96,zero:=.agg #[.slice none 0 0,.slice none 0 0,.slice none 0 0,.slice none 0 0],kind:=.st,flds:=[(0,1,false),(1,1,false),(2,1,false),(3,1,false)]}
def ZxY:TI:={size:=5,bytes:=48,zero:=.agg #[.string ByteArray.empty,.int .i64 0,.int .i64 0,.int .i64 0,.int .i64 0],kind:=.st,flds:=[(0,1,false),(1,1,false),(2,1,false),(3,1,false),(4,1,false)],eqd:=.str 0 (.int .i64 1 (.int .i64 2 (.int .i64 3 (.int .i64 4 (.nil)))))}
def Zzz:TI:={size:=1,bytes:=24,zero:=.slice none 0 0,kind:=.sl,elem:=94,esize:=5,ebytes:=40,ezero:=.agg #[.int .i64 0,.int .i64 0,.int .i64 0,.int .i64 0,.int .i64 0],eagg:=true,ety:=XY}
def ZsZ:TI:={size:=1,bytes:=24,zero:=.slice none 0 0,kind:=.sl,elem:=4,esize:=1,ebytes:=1,ezero:=.bool false,eagg:=false,ety:=.bool}
def ZzA:TI:={size:=1,bytes:=24,zero:=.slice none 0 0,kind:=.sl,elem:=92,esize:=2,ebytes:=16,ezero:=.agg #[.int .i64 0,.int .i64 0],eagg:=true,ety:=Jl}
def ZxZ:TI:={size:=3,bytes:=72,zero:=.agg #[.slice none 0 0,.slice none 0 0,.slice none 0 0],kind:=.st,flds:=[(0,1,false),(1,1,false),(2,1,false)]}
def Zx0:TI:={size:=1,bytes:=8,zero:=.pointer none,kind:=.ptr}
def Zx1:TI:={size:=2,bytes:=16,zero:=.agg #[.int .i64 0,.int .i64 0],kind:=.st,flds:=[(0,1,false),(1,1,false)],eqd:=.int .i64 0 (.int .i64 1 (.nil))}
def Zx2:TI:={size:=5,bytes:=40,zero:=.agg #[.int .i64 0,.int .i64 0,.int .i64 0,.int .i64 0,.int .i64 0],kind:=.st,flds:=[(0,1,false),(1,2,true),(3,2,true)],eqd:=.int .i64 0 (.st 1 2 (.int .i64 0 (.int .i64 1 (.nil))) (.st 3 2 (.int .i64 0 (.int .i64 1 (.nil))) (.nil)))}
def Zx3:TI:={size:=1,bytes:=8,zero:=.pointer none,kind:=.ptr}
def Zun:TI:={size:=1,bytes:=8,zero:=.pointer none,kind:=.ptr}
def Zuo:TI:={size:=1,bytes:=8,zero:=.pointer none,kind:=.ptr}
def Zup:TI:={size:=2,bytes:=32,zero:=.agg #[.pointer none,.slice none 0 0],kind:=.st,flds:=[(0,1,false),(1,1,false)]}
def Zv4:TI:={size:=1,bytes:=24,zero:=.slice none 0 0,kind:=.sl,elem:=202,esize:=4,ebytes:=32,ezero:=.agg #[.int .i64 0,.int .i64 0,.int .i64 0,.int .i64 0],eagg:=true,ety:=Jp}
def Zuq:TI:={size:=4,bytes:=32,zero:=.agg #[.int .i64 0,.int .i64 0,.int .i64 0,.bool false],kind:=.st,flds:=[(0,1,false),(1,1,false),(2,1,false),(3,1,false)],eqd:=.int .i64 0 (.int .i64 1 (.int .i64 2 (.bool 3 (.nil))))}
def Zv5:TI:={size:=1,bytes:=24,zero:=.slice none 0 0,kind:=.sl,elem:=122,esize:=4,ebytes:=32,ezero:=.agg #[.int .i64 0,.int .i64 0,.int .i64 0,.bool false],eagg:=true,ety:=Zg6}
def Zur:TI:={size:=3,bytes:=40,zero:=.agg #[.slice none 0 0,.int .i64 0,.int .i64 0],kind:=.st,flds:=[(0,1,false),(1,1,false),(2,1,false)]}
def Zus:TI:={size:=3,bytes:=32,zero:=.agg #[.string ByteArray.empty,.int .i64 0,.int .i64 0],kind:=.st,flds:=[(0,1,false),(1,1,false),(2,1,false)],eqd:=.str 0 (.int .i64 1 (.int .i64 2 (.nil)))}
def Zv6:TI:={size:=1,bytes:=24,zero:=.slice none 0 0,kind:=.sl,elem:=181,esize:=4,ebytes:=32,ezero:=.agg #[.int .i64 0,.int .i64 0,.int .i64 0,.bool false],eagg:=true,ety:=Zev}
def Zut:TI:={size:=3,bytes:=48,zero:=.agg #[.string ByteArray.empty,.int .i64 0,.slice none 0 0],kind:=.st,flds:=[(0,1,false),(1,1,false),(2,1,false)]}
def Zuu:TI:={size:=4,bytes:=32,zero:=.agg #[.int .i64 0,.int .i64 0,.int .i64 0,.bool false],kind:=.st,flds:=[(0,1,false),(1,1,false),(2,1,false),(3,1,false)],eqd:=.int .i64 0 (.int .i64 1 (.int .i64 2 (.bool 3 (.nil))))}
def Zv7:TI:={size:=1,bytes:=24,zero:=.slice none 0 0,kind:=.sl,elem:=38,esize:=1,ebytes:=24,ezero:=.slice none 0 0,eagg:=false,ety:=.sl (.int .i64)}
def Zuv:TI:={size:=10,bytes:=240,zero:=.agg #[.slice none 0 0,.slice none 0 0,.slice none 0 0,.slice none 0 0,.slice none 0 0,.slice none 0 0,.slice none 0 0,.slice none 0 0,.slice none 0 0,.slice none 0 0],kind:=.st,flds:=[(0,5,true),(5,1,false),(6,1,false),(7,1,false),(8,1,false),(9,1,false)]}
def Zuw:TI:={size:=1,bytes:=8,zero:=.pointer none,kind:=.ptr}
def Zux:TI:={size:=4,bytes:=32,zero:=.agg #[.int .i64 0,.int .i64 0,.int .i64 0,.int .i64 0],kind:=.st,flds:=[(0,1,false),(1,1,false),(2,1,false),(3,1,false)],eqd:=.int .i64 0 (.int .i64 1 (.int .i64 2 (.int .i64 3 (.nil))))}
def Zv8:TI:={size:=1,bytes:=24,zero:=.slice none 0 0,kind:=.sl,elem:=329,esize:=4,ebytes:=40,ezero:=.agg #[.string ByteArray.empty,.int .i64 0,.int .i64 0,.bool false],eagg:=true,ety:=Zm4}
def Zv9:TI:={size:=1,bytes:=24,zero:=.slice none 0 0,kind:=.sl,elem:=213,esize:=6,ebytes:=80,ezero:=.agg #[.int .i64 0,.int .i64 0,.int .i64 0,.int .i64 0,.slice none 0 0,.slice none 0 0],eagg:=true,ety:=Zk3}
def Zuy:TI:={size:=7,bytes:=112,zero:=.agg #[.string ByteArray.empty,.int .i64 0,.slice none 0 0,.slice none 0 0,.slice none 0 0,.int .i64 0,.int .i64 0],kind:=.st,flds:=[(0,1,false),(1,1,false),(2,1,false),(3,1,false),(4,1,false),(5,1,false),(6,1,false)]}
def Zwa:TI:={size:=1,bytes:=24,zero:=.slice none 0 0,kind:=.sl,elem:=314,esize:=3,ebytes:=72,ezero:=.agg #[.slice none 0 0,.slice none 0 0,.slice none 0 0],eagg:=true,ety:=JX}
def Zuz:TI:={size:=6,bytes:=80,zero:=.agg #[.int .i64 0,.int .i64 0,.int .i64 0,.int .i64 0,.slice none 0 0,.slice none 0 0],kind:=.st,flds:=[(0,1,false),(1,1,false),(2,1,false),(3,1,false),(4,1,false),(5,1,false)]}
def ZuA:TI:={size:=1,bytes:=8,zero:=.int .u64 0,kind:=.int .u64}
def Zm6:TI:={size:=1,bytes:=24,zero:=.slice none 0 0,kind:=.sl,elem:=3,esize:=1,ebytes:=8,ezero:=.int .i64 0,eagg:=false,ety:=.int .i64}
def ZuB:TI:={size:=1,bytes:=8,zero:=.pointer none,kind:=.ptr}
def Zwb:TI:={size:=1,bytes:=24,zero:=.slice none 0 0,kind:=.sl,elem:=297,esize:=2,ebytes:=16,ezero:=.agg #[.int .i64 0,.int .i64 0],eagg:=true,ety:=.pair (.int .i64) (.pair (.int .i64) (.unit))}
def ZuC:TI:={size:=2,bytes:=16,zero:=.agg #[.int .i64 0,.int .i64 0],kind:=.arr 2,elem:=2,esize:=1,ebytes:=8,ezero:=.int .i64 0,eagg:=false,ety:=.int .i64}
def ZuD:TI:={size:=3,bytes:=72,zero:=.agg #[.slice none 0 0,.slice none 0 0,.slice none 0 0],kind:=.st,flds:=[(0,1,false),(1,1,false),(2,1,false)]}
def ZuE:TI:={size:=4,bytes:=40,zero:=.agg #[.string ByteArray.empty,.int .i64 0,.int .i64 0,.bool false],kind:=.st,flds:=[(0,1,false),(1,1,false),(2,1,false),(3,1,false)],eqd:=.str 0 (.int .i64 1 (.int .i64 2 (.bool 3 (.nil))))}
def Zwc:TI:={size:=1,bytes:=24,zero:=.slice none 0 0,kind:=.sl,elem:=362,esize:=2,ebytes:=16,ezero:=.agg #[.int .i64 0,.int .i64 0],eagg:=true,ety:=Zo5}
def ZuF:TI:={size:=2,bytes:=16,zero:=.agg #[.int .i64 0,.int .i64 0],kind:=.st,flds:=[(0,1,false),(1,1,false)],eqd:=.int .i64 0 (.int .i64 1 (.nil))}
theorem Zx4 {P:Program}:Tab.ok [] P:=λx hx=>by cases hx
theorem Zum {P:Program} {t:Nat} {ti:TI} {r:Tab} (h:ZbB P t ti) (hr:Tab.ok r P):Tab.ok ((t,ti)::r) P:=λx hx=>by
 rcases List.mem_cons.1 hx with rfl | hx
 ·exact h
 ·exact hr x hx
def tab:Tab:=[(2,ti2),(3,ti3),(4,ti4),(5,ti5),(6,ti6),(8,ti8),(9,ti9),(12,ZxS),(22,ZxT),(24,Zzu),(26,ZxU),(27,Zzv),(28,Zzw),(29,Zzx),(31,ZxV),(32,Zzy),(34,ZxW),(38,Ztk),(40,ZxX),(44,ZxY),(45,Zzz),(46,ZsZ),(47,ZzA),(49,ZxZ),(80,Zx0),(92,Zx1),(94,Zx2),(99,Zx3),(102,Zun),(104,Zuo),(106,Zup),(110,Zv4),(122,Zuq),(123,Zv5),(162,Zur),(166,Zus),(167,Zv6),(171,Zut),(181,Zuu),(193,Zv7),(195,Zuv),(199,Zuw),(202,Zux),(207,Zv8),(208,Zv9),(210,Zuy),(211,Zwa),(213,Zuz),(253,ZuA),(269,Zm6),(275,ZuB),(295,Zwb),(297,ZuC),(314,ZuD),(329,ZuE),(358,Zwc),(362,ZuF)]
theorem Zu:tab.ok Tryz.prog:=by repeat' first | exact Zx4 | refine Zum ?_ ?_ | kernel_rfl | constructor
def ZzD:TI:={Zzu with edp:=some (ZrE)}
def ZzE:TI:={Zzv with edp:=some (ZhG)}
def ZzF:TI:={Zzy with edp:=some (Zos)}
def Zxp:TI:={Zv7 with edp:=some (.ol 2 (.flat (.int .i64)))}
def Zxq:TI:={Zv9 with edp:=some (ZwI)}
def Zxr:TI:={Zwa with edp:=some (ZlM)}
def ZzB:TI:={ZxT with cut:=true}
def Zxg:TI:={Zzu with cut:=true,edp:=some (ZrE)}
def Zxi:TI:={Zzv with cut:=true,edp:=some (ZhG)}
def Zxj:TI:={Zzw with cut:=true}
def Zxk:TI:={Zzx with cut:=true}
def Zxl:TI:={Zzy with cut:=true,edp:=some (Zos)}
def ZzC:TI:={Ztk with cut:=true}
def Zxm:TI:={Zzz with cut:=true}
def Zxn:TI:={ZsZ with cut:=true}
def Zxo:TI:={ZzA with cut:=true}
def Zu6:TI:={Zv4 with cut:=true}
def Zu7:TI:={Zv5 with cut:=true}
def Zu8:TI:={Zv6 with cut:=true}
def Zu9:TI:={Zv7 with cut:=true,edp:=some (.ol 2 (.flat (.int .i64)))}
def Zva:TI:={Zv8 with cut:=true}
def Zvb:TI:={Zv9 with cut:=true,edp:=some (ZwI)}
def Zvc:TI:={Zwa with cut:=true,edp:=some (ZlM)}
def Zxh:TI:={Zm6 with cut:=true}
def Zvd:TI:={Zwb with cut:=true}
def Zve:TI:={Zwc with cut:=true}
def ZBL:Tab:=[(2,ti2),(3,ti3),(4,ti4),(5,ti5),(6,ti6),(8,ti8),(9,ti9),(12,ZxS),(22,ZxT),(24,ZzD),(26,ZxU),(27,ZzE),(28,Zzw),(29,Zzx),(31,ZxV),(32,ZzF),(34,ZxW),(38,Ztk),(40,ZxX),(44,ZxY),(45,Zzz),(46,ZsZ),(47,ZzA),(49,ZxZ),(80,Zx0),(92,Zx1),(94,Zx2),(99,Zx3),(102,Zun),(104,Zuo),(106,Zup),(110,Zv4),(122,Zuq),(123,Zv5),(162,Zur),(166,Zus),(167,Zv6),(171,Zut),(181,Zuu),(193,Zxp),(195,Zuv),(199,Zuw),(202,Zux),(207,Zv8),(208,Zxq),(210,Zuy),(211,Zxr),(213,Zuz),(253,ZuA),(269,Zm6),(275,ZuB),(295,Zwb),(297,ZuC),(314,ZuD),(329,ZuE),(358,Zwc),(362,ZuF)]
theorem ZcW:ZBL.ok Tryz.prog:=by repeat' first | exact Zx4 | refine Zum ?_ ?_ | kernel_rfl | constructor
def ZBK:Tab:=[(2,ti2),(3,ti3),(4,ti4),(5,ti5),(6,ti6),(8,ti8),(9,ti9),(12,ZxS),(22,ZxT),(24,Zxg),(26,ZxU),(27,Zxi),(28,Zxj),(29,Zxk),(31,ZxV),(32,Zxl),(34,ZxW),(38,Ztk),(40,ZxX),(44,ZxY),(45,Zxm),(46,Zxn),(47,Zxo),(49,ZxZ),(80,Zx0),(92,Zx1),(94,Zx2),(99,Zx3),(102,Zun),(104,Zuo),(106,Zup),(110,Zu6),(122,Zuq),(123,Zu7),(162,Zur),(166,Zus),(167,Zu8),(171,Zut),(181,Zuu),(193,Zu9),(195,Zuv),(199,Zuw),(202,Zux),(207,Zva),(208,Zvb),(210,Zuy),(211,Zvc),(213,Zuz),(253,ZuA),(269,Zm6),(275,ZuB),(295,Zvd),(297,ZuC),(314,ZuD),(329,ZuE),(358,Zve),(362,ZuF)]
theorem Zzs:ZBK.ok Tryz.prog:=by repeat' first | exact Zx4 | refine Zum ?_ ?_ | kernel_rfl | constructor
def ZBM:Tab:=[(2,ti2),(3,ti3),(4,ti4),(5,ti5),(6,ti6),(8,ti8),(9,ti9),(12,ZxS),(22,ZzB),(24,Zxg),(26,ZxU),(27,Zxi),(28,Zxj),(29,Zxk),(31,ZxV),(32,Zxl),(34,ZxW),(38,ZzC),(40,ZxX),(44,ZxY),(45,Zxm),(46,Zxn),(47,Zxo),(49,ZxZ),(80,Zx0),(92,Zx1),(94,Zx2),(99,Zx3),(102,Zun),(104,Zuo),(106,Zup),(110,Zu6),(122,Zuq),(123,Zu7),(162,Zur),(166,Zus),(167,Zu8),(171,Zut),(181,Zuu),(193,Zu9),(195,Zuv),(199,Zuw),(202,Zux),(207,Zva),(208,Zvb),(210,Zuy),(211,Zvc),(213,Zuz),(253,ZuA),(269,Zxh),(275,ZuB),(295,Zvd),(297,ZuC),(314,ZuD),(329,ZuE),(358,Zve),(362,ZuF)]
theorem Zzt:ZBM.ok Tryz.prog:=by repeat' first | exact Zx4 | refine Zum ?_ ?_ | kernel_rfl | constructor
end Go.Proofs.YtgjjlgodlhhdoaaGreatDoor
