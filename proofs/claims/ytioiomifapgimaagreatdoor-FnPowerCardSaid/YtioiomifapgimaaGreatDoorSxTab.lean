/-
  The table of types of this translation, as the executor wants it; each row held against the program. Printed by program (gentab.py).
-/
import Derived.Test.YtioiomifapgimaaGreatDoorSxTy
import Derived.Test.YtioiomifapgimaaGreatDoorProg
import Derived.KernelRfl
namespace Go.Proofs.YtioiomifapgimaaGreatDoor
open Go Go.Sx
set_option maxRecDepth 100000
def ti2:TI:={size:=1,bytes:=8,zero:=.int .i64 0,kind:=.int .i64}
def ti3:TI:={size:=1,bytes:=8,zero:=.int .i64 0,kind:=.int .i64}
def ti4:TI:={size:=1,bytes:=1,zero:=.bool false,kind:=.bool}
def ti5:TI:={size:=1,bytes:=1,zero:=.int .u8 0,kind:=.int .u8}
def ti6:TI:={size:=1,bytes:=1,zero:=.int .u8 0,kind:=.int .u8}
def ti8:TI:={size:=4,bytes:=24,zero:=.agg #[.int .i64 0,.int .i64 0,.bool false,.int .u8 0],kind:=.st,flds:=[(0,1,false),(1,1,false),(2,1,false),(3,1,false)]}
def ti9:TI:={size:=1,bytes:=16,zero:=.string ByteArray.empty,kind:=.str}
def ZGK:TI:={size:=1,bytes:=8,zero:=.int .u64 0,kind:=.int .u64}
def ZBd:TI:={size:=1,bytes:=24,zero:=.slice none 0 0,kind:=.sl,elem:=5,esize:=1,ebytes:=1,ezero:=.int .u8 0,eagg:=false,ety:=.int .u8}
def ZBe:TI:={size:=1,bytes:=24,zero:=.slice none 0 0,kind:=.sl,elem:=139,esize:=7,ebytes:=112,ezero:=.agg #[.string ByteArray.empty,.int .i64 0,.slice none 0 0,.slice none 0 0,.slice none 0 0,.int .i64 0,.int .i64 0],eagg:=true,ety:=Qk}
def ZBf:TI:={size:=1,bytes:=24,zero:=.agg #[.slice none 0 0],kind:=.st,flds:=[(0,1,false)]}
def ZBg:TI:={size:=1,bytes:=24,zero:=.slice none 0 0,kind:=.sl,elem:=82,esize:=3,ebytes:=48,ezero:=.agg #[.string ByteArray.empty,.int .i64 0,.slice none 0 0],eagg:=true,ety:=Yg}
def ZzE:TI:={size:=1,bytes:=24,zero:=.slice none 0 0,kind:=.sl,elem:=9,esize:=1,ebytes:=16,ezero:=.string ByteArray.empty,eagg:=false,ety:=.str}
def ZzF:TI:={size:=1,bytes:=24,zero:=.slice none 0 0,kind:=.sl,elem:=221,esize:=3,ebytes:=32,ezero:=.agg #[.string ByteArray.empty,.int .i64 0,.int .i64 0],eagg:=true,ety:=VQ}
def ZBh:TI:={size:=3,bytes:=72,zero:=.agg #[.slice none 0 0,.slice none 0 0,.slice none 0 0],kind:=.st,flds:=[(0,1,false),(1,1,false),(2,1,false)]}
def ZBi:TI:={size:=1,bytes:=24,zero:=.slice none 0 0,kind:=.sl,elem:=162,esize:=4,ebytes:=96,ezero:=.agg #[.slice none 0 0,.slice none 0 0,.slice none 0 0,.slice none 0 0],eagg:=true,ety:=Vu}
def ZBj:TI:={size:=5,bytes:=120,zero:=.agg #[.slice none 0 0,.slice none 0 0,.slice none 0 0,.slice none 0 0,.slice none 0 0],kind:=.st,flds:=[(0,1,true),(1,3,true),(4,1,false)]}
def ZzG:TI:={size:=1,bytes:=24,zero:=.slice none 0 0,kind:=.sl,elem:=106,esize:=3,ebytes:=24,ezero:=.agg #[.int .i64 0,.int .i64 0,.int .i64 0],eagg:=true,ety:=Zy}
def ZGL:TI:={size:=3,bytes:=24,zero:=.agg #[.int .i64 0,.int .i64 0,.int .i64 0],kind:=.st,flds:=[(0,1,false),(1,1,false),(2,1,false)],eqd:=.int .i64 0 (.int .i64 1 (.int .i64 2 (.nil)))}
def ZBk:TI:={size:=1,bytes:=24,zero:=.slice none 0 0,kind:=.sl,elem:=49,esize:=2,ebytes:=16,ezero:=.agg #[.int .i64 0,.int .i64 0],eagg:=true,ety:=Yr}
def ZBl:TI:={size:=2,bytes:=16,zero:=.agg #[.int .i64 0,.int .i64 0],kind:=.st,flds:=[(0,1,false),(1,1,false)],eqd:=.int .i64 0 (.int .i64 1 (.nil))}
def ZBu:TI:={size:=1,bytes:=8,zero:=.pointer none,kind:=.ptr}
def ZqU:TI:={size:=1,bytes:=24,zero:=.slice none 0 0,kind:=.sl,elem:=2,esize:=1,ebytes:=8,ezero:=.int .i64 0,eagg:=false,ety:=.int .i64}
def ZBv:TI:={size:=3,bytes:=48,zero:=.agg #[.string ByteArray.empty,.int .i64 0,.slice none 0 0],kind:=.st,flds:=[(0,1,false),(1,1,false),(2,1,false)]}
def ZBw:TI:={size:=1,bytes:=8,zero:=.pointer none,kind:=.ptr}
def Zxw:TI:={size:=2,bytes:=16,zero:=.agg #[.int .i64 0,.int .i64 0],kind:=.st,flds:=[(0,1,false),(1,1,false)],eqd:=.int .i64 0 (.int .i64 1 (.nil))}
def Zxx:TI:={size:=3,bytes:=24,zero:=.agg #[.int .i64 0,.int .i64 0,.int .i64 0],kind:=.st,flds:=[(0,2,true),(2,1,false)],eqd:=.st 0 2 (.int .i64 0 (.int .i64 1 (.nil))) (.int .i64 2 (.nil))}
def ZGB:TI:={size:=1,bytes:=8,zero:=.pointer none,kind:=.ptr}
def ZqS:TI:={size:=1,bytes:=8,zero:=.map none,kind:=.mp 2 106,ty:=.int .i64,ety:=Zy}
def ZxA:TI:={size:=2,bytes:=16,zero:=.agg #[.pointer none,.map none],kind:=.st,flds:=[(0,1,false),(1,1,false)]}
def ZxB:TI:={size:=1,bytes:=24,zero:=.slice none 0 0,kind:=.sl,elem:=77,esize:=1,ebytes:=24,ezero:=.slice none 0 0,eagg:=false,ety:=.sl (.int .i64)}
def ZxC:TI:={size:=7,bytes:=168,zero:=.agg #[.slice none 0 0,.slice none 0 0,.slice none 0 0,.slice none 0 0,.slice none 0 0,.slice none 0 0,.slice none 0 0],kind:=.st,flds:=[(0,5,true),(5,1,false),(6,1,false)]}
def Zv3:TI:={size:=1,bytes:=24,zero:=.slice none 0 0,kind:=.sl,elem:=241,esize:=4,ebytes:=40,ezero:=.agg #[.string ByteArray.empty,.int .i64 0,.int .i64 0,.bool false],eagg:=true,ety:=Zdh}
def ZxD:TI:={size:=1,bytes:=24,zero:=.slice none 0 0,kind:=.sl,elem:=274,esize:=6,ebytes:=80,ezero:=.agg #[.int .i64 0,.int .i64 0,.int .i64 0,.int .i64 0,.slice none 0 0,.slice none 0 0],eagg:=true,ety:=ZdW}
def ZxE:TI:={size:=7,bytes:=112,zero:=.agg #[.string ByteArray.empty,.int .i64 0,.slice none 0 0,.slice none 0 0,.slice none 0 0,.int .i64 0,.int .i64 0],kind:=.st,flds:=[(0,1,false),(1,1,false),(2,1,false),(3,1,false),(4,1,false),(5,1,false),(6,1,false)]}
def ZxG:TI:={size:=4,bytes:=96,zero:=.agg #[.slice none 0 0,.slice none 0 0,.slice none 0 0,.slice none 0 0],kind:=.st,flds:=[(0,1,false),(1,1,false),(2,1,false),(3,1,false)]}
def ZGC:TI:={size:=3,bytes:=40,zero:=.agg #[.slice none 0 0,.int .i64 0,.int .i64 0],kind:=.st,flds:=[(0,1,false),(1,1,false),(2,1,false)]}
def ZxH:TI:={size:=1,bytes:=24,zero:=.slice none 0 0,kind:=.sl,elem:=196,esize:=4,ebytes:=32,ezero:=.agg #[.int .i64 0,.int .i64 0,.int .i64 0,.bool false],eagg:=true,ety:=ZmR}
def ZxI:TI:={size:=4,bytes:=32,zero:=.agg #[.int .i64 0,.int .i64 0,.int .i64 0,.bool false],kind:=.st,flds:=[(0,1,false),(1,1,false),(2,1,false),(3,1,false)],eqd:=.int .i64 0 (.int .i64 1 (.int .i64 2 (.bool 3 (.nil))))}
def ZuG:TI:={size:=1,bytes:=24,zero:=.slice none 0 0,kind:=.sl,elem:=4,esize:=1,ebytes:=1,ezero:=.bool false,eagg:=false,ety:=.bool}
def ZxO:TI:={size:=3,bytes:=32,zero:=.agg #[.string ByteArray.empty,.int .i64 0,.int .i64 0],kind:=.st,flds:=[(0,1,false),(1,1,false),(2,1,false)],eqd:=.str 0 (.int .i64 1 (.int .i64 2 (.nil)))}
def ZxP:TI:={size:=1,bytes:=8,zero:=.int .u64 0,kind:=.int .u64}
def ZxQ:TI:={size:=4,bytes:=40,zero:=.agg #[.string ByteArray.empty,.int .i64 0,.int .i64 0,.bool false],kind:=.st,flds:=[(0,1,false),(1,1,false),(2,1,false),(3,1,false)],eqd:=.str 0 (.int .i64 1 (.int .i64 2 (.bool 3 (.nil))))}
def ZuH:TI:={size:=1,bytes:=24,zero:=.slice none 0 0,kind:=.sl,elem:=3,esize:=1,ebytes:=8,ezero:=.int .i64 0,eagg:=false,ety:=.int .i64}
def ZxR:TI:={size:=1,bytes:=24,zero:=.slice none 0 0,kind:=.sl,elem:=255,esize:=4,ebytes:=32,ezero:=.agg #[.int .i64 0,.int .i64 0,.int .i64 0,.bool false],eagg:=true,ety:=Zdu}
def ZxS:TI:={size:=4,bytes:=32,zero:=.agg #[.int .i64 0,.int .i64 0,.int .i64 0,.bool false],kind:=.st,flds:=[(0,1,false),(1,1,false),(2,1,false),(3,1,false)],eqd:=.int .i64 0 (.int .i64 1 (.int .i64 2 (.bool 3 (.nil))))}
def ZxT:TI:={size:=1,bytes:=24,zero:=.slice none 0 0,kind:=.sl,elem:=317,esize:=3,ebytes:=72,ezero:=.agg #[.slice none 0 0,.slice none 0 0,.slice none 0 0],eagg:=true,ety:=YV}
def ZxU:TI:={size:=6,bytes:=80,zero:=.agg #[.int .i64 0,.int .i64 0,.int .i64 0,.int .i64 0,.slice none 0 0,.slice none 0 0],kind:=.st,flds:=[(0,1,false),(1,1,false),(2,1,false),(3,1,false),(4,1,false),(5,1,false)]}
def ZqT:TI:={size:=1,bytes:=8,zero:=.map none,kind:=.mp 2 2,ty:=.int .i64,ety:=.int .i64}
def ZxY:TI:={size:=3,bytes:=72,zero:=.agg #[.slice none 0 0,.slice none 0 0,.slice none 0 0],kind:=.st,flds:=[(0,1,false),(1,1,false),(2,1,false)]}
def Zx0:TI:={size:=2,bytes:=16,zero:=.agg #[.int .i64 0,.int .i64 0],kind:=.st,flds:=[(0,1,false),(1,1,false)],eqd:=.int .i64 0 (.int .i64 1 (.nil))}
theorem ZBP {P:Program}:Tab.ok [] P:=λx hx=>by cases hx
theorem Zxv {P:Program} {t:Nat} {ti:TI} {r:Tab} (h:Zbc P t ti) (hr:Tab.ok r P):Tab.ok ((t,ti)::r) P:=λx hx=>by
 rcases List.mem_cons.1 hx with rfl | hx
 ·exact h
 ·exact hr x hx
def tab:Tab:=[(2,ti2),(3,ti3),(4,ti4),(5,ti5),(6,ti6),(8,ti8),(9,ti9),(12,ZGK),(22,ZBd),(24,ZBe),(26,ZBf),(27,ZBg),(28,ZzE),(29,ZzF),(31,ZBh),(32,ZBi),(34,ZBj),(35,ZzG),(39,ZGL),(45,ZBk),(49,ZBl),(74,ZBu),(77,ZqU),(82,ZBv),(86,ZBw),(104,Zxw),(106,Zxx),(119,ZGB),(124,ZqS),(126,ZxA),(128,ZxB),(135,ZxC),(136,Zv3),(137,ZxD),(139,ZxE),(162,ZxG),(176,ZGC),(192,ZxH),(196,ZxI),(199,ZuG),(221,ZxO),(236,ZxP),(241,ZxQ),(244,ZuH),(252,ZxR),(255,ZxS),(272,ZxT),(274,ZxU),(293,ZqT),(317,ZxY),(360,Zx0)]
theorem Zr:tab.ok Tryz.prog:=by repeat' first | exact ZBP | refine Zxv ?_ ?_ | kernel_rfl | constructor
def ZBJ:TI:={ZBe with edp:=some (Zod)}
def ZBK:TI:={ZBg with edp:=some (ZbQ)}
def ZBL:TI:={ZBi with edp:=some (Zof)}
def Zy8:TI:={ZxB with edp:=some (.ol 2 (.flat (.int .i64)))}
def Zy9:TI:={ZxD with edp:=some (ZuV)}
def Zzb:TI:={ZxT with edp:=some (Zf1)}
def ZBx:TI:={ZBe with cut:=true,edp:=some (Zod)}
def ZBy:TI:={ZBg with cut:=true,edp:=some (ZbQ)}
def ZBz:TI:={ZzE with cut:=true}
def ZBA:TI:={ZzF with cut:=true}
def ZBB:TI:={ZBi with cut:=true,edp:=some (Zof)}
def ZBC:TI:={ZzG with cut:=true}
def ZBD:TI:={ZBk with cut:=true}
def ZyY:TI:={ZxB with cut:=true,edp:=some (.ol 2 (.flat (.int .i64)))}
def ZyZ:TI:={Zv3 with cut:=true}
def Zy0:TI:={ZxD with cut:=true,edp:=some (ZuV)}
def Zy1:TI:={ZxH with cut:=true}
def Zy2:TI:={ZuG with cut:=true}
def Zy5:TI:={ZxR with cut:=true}
def Zy6:TI:={ZxT with cut:=true,edp:=some (Zf1)}
def ZDV:Tab:=[(2,ti2),(3,ti3),(4,ti4),(5,ti5),(6,ti6),(8,ti8),(9,ti9),(12,ZGK),(22,ZBd),(24,ZBJ),(26,ZBf),(27,ZBK),(28,ZzE),(29,ZzF),(31,ZBh),(32,ZBL),(34,ZBj),(35,ZzG),(39,ZGL),(45,ZBk),(49,ZBl),(74,ZBu),(77,ZqU),(82,ZBv),(86,ZBw),(104,Zxw),(106,Zxx),(119,ZGB),(124,ZqS),(126,ZxA),(128,Zy8),(135,ZxC),(136,Zv3),(137,Zy9),(139,ZxE),(162,ZxG),(176,ZGC),(192,ZxH),(196,ZxI),(199,ZuG),(221,ZxO),(236,ZxP),(241,ZxQ),(244,ZuH),(252,ZxR),(255,ZxS),(272,Zzb),(274,ZxU),(293,ZqT),(317,ZxY),(360,Zx0)]
theorem YS:ZDV.ok Tryz.prog:=by repeat' first | exact ZBP | refine Zxv ?_ ?_ | kernel_rfl | constructor
def ZDU:Tab:=[(2,ti2),(3,ti3),(4,ti4),(5,ti5),(6,ti6),(8,ti8),(9,ti9),(12,ZGK),(22,ZBd),(24,ZBx),(26,ZBf),(27,ZBy),(28,ZBz),(29,ZBA),(31,ZBh),(32,ZBB),(34,ZBj),(35,ZBC),(39,ZGL),(45,ZBD),(49,ZBl),(74,ZBu),(77,ZqU),(82,ZBv),(86,ZBw),(104,Zxw),(106,Zxx),(119,ZGB),(124,ZqS),(126,ZxA),(128,ZyY),(135,ZxC),(136,ZyZ),(137,Zy0),(139,ZxE),(162,ZxG),(176,ZGC),(192,Zy1),(196,ZxI),(199,Zy2),(221,ZxO),(236,ZxP),(241,ZxQ),(244,ZuH),(252,Zy5),(255,ZxS),(272,Zy6),(274,ZxU),(293,ZqT),(317,ZxY),(360,Zx0)]
theorem ZuF:ZDU.ok Tryz.prog:=by repeat' first | exact ZBP | refine Zxv ?_ ?_ | kernel_rfl | constructor
end Go.Proofs.YtioiomifapgimaaGreatDoor
