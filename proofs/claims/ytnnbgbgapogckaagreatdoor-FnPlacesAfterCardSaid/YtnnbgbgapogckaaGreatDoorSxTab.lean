/-
  The table of types of this translation, as the executor wants it; each row held against the program. Printed by program (gentab.py).
-/
import Derived.Test.YtnnbgbgapogckaaGreatDoorSxTy
import Derived.Test.YtnnbgbgapogckaaGreatDoorProg
import Derived.KernelRfl
namespace Go.Proofs.YtnnbgbgapogckaaGreatDoor
open Go Go.Sx
set_option maxRecDepth 100000
def ti2:TI:={size:=1,bytes:=8,zero:=.int .i64 0,kind:=.int .i64}
def ti3:TI:={size:=1,bytes:=8,zero:=.int .i64 0,kind:=.int .i64}
def ti4:TI:={size:=1,bytes:=1,zero:=.bool false,kind:=.bool}
def ti5:TI:={size:=1,bytes:=1,zero:=.int .u8 0,kind:=.int .u8}
def ti6:TI:={size:=1,bytes:=1,zero:=.int .u8 0,kind:=.int .u8}
def ti8:TI:={size:=4,bytes:=24,zero:=.agg #[.int .i64 0,.int .i64 0,.bool false,.int .u8 0],kind:=.st,flds:=[(0,1,false),(1,1,false),(2,1,false),(3,1,false)]}
def ti9:TI:={size:=1,bytes:=16,zero:=.string ByteArray.empty,kind:=.str}
def Zns:TI:={size:=1,bytes:=8,zero:=.int .u64 0,kind:=.int .u64}
def Znt:TI:={size:=1,bytes:=24,zero:=.slice none 0 0,kind:=.sl,elem:=5,esize:=1,ebytes:=1,ezero:=.int .u8 0,eagg:=false,ety:=.int .u8}
def Zoa:TI:={size:=1,bytes:=24,zero:=.slice none 0 0,kind:=.sl,elem:=216,esize:=7,ebytes:=112,ezero:=.agg #[.string ByteArray.empty,.int .i64 0,.slice none 0 0,.slice none 0 0,.slice none 0 0,.int .i64 0,.int .i64 0],eagg:=true,ety:=Zin}
def Znw:TI:={size:=1,bytes:=24,zero:=.agg #[.slice none 0 0],kind:=.st,flds:=[(0,1,false)]}
def Zob:TI:={size:=1,bytes:=24,zero:=.slice none 0 0,kind:=.sl,elem:=193,esize:=3,ebytes:=48,ezero:=.agg #[.string ByteArray.empty,.int .i64 0,.slice none 0 0],eagg:=true,ety:=ZdO}
def Zoc:TI:={size:=1,bytes:=24,zero:=.slice none 0 0,kind:=.sl,elem:=9,esize:=1,ebytes:=16,ezero:=.string ByteArray.empty,eagg:=false,ety:=.str}
def Zod:TI:={size:=1,bytes:=24,zero:=.slice none 0 0,kind:=.sl,elem:=237,esize:=3,ebytes:=32,ezero:=.agg #[.string ByteArray.empty,.int .i64 0,.int .i64 0],eagg:=true,ety:=ZkZ}
def Znx:TI:={size:=3,bytes:=72,zero:=.agg #[.slice none 0 0,.slice none 0 0,.slice none 0 0],kind:=.st,flds:=[(0,1,false),(1,1,false),(2,1,false)]}
def Zoe:TI:={size:=1,bytes:=24,zero:=.slice none 0 0,kind:=.sl,elem:=58,esize:=4,ebytes:=96,ezero:=.agg #[.slice none 0 0,.slice none 0 0,.slice none 0 0,.slice none 0 0],eagg:=true,ety:=ZjY}
def Zny:TI:={size:=5,bytes:=120,zero:=.agg #[.slice none 0 0,.slice none 0 0,.slice none 0 0,.slice none 0 0,.slice none 0 0],kind:=.st,flds:=[(0,1,true),(1,3,true),(4,1,false)]}
def Znz:TI:={size:=1,bytes:=24,zero:=.slice none 0 0,kind:=.sl,elem:=2,esize:=1,ebytes:=8,ezero:=.int .i64 0,eagg:=false,ety:=.int .i64}
def ZnA:TI:={size:=4,bytes:=96,zero:=.agg #[.slice none 0 0,.slice none 0 0,.slice none 0 0,.slice none 0 0],kind:=.st,flds:=[(0,1,false),(1,1,false),(2,1,false),(3,1,false)]}
def ZAR:TI:={size:=10,bytes:=152,zero:=.agg #[.int .i64 0,.int .i64 0,.int .i64 0,.int .i64 0,.int .i64 0,.string ByteArray.empty,.slice none 0 0,.slice none 0 0,.slice none 0 0,.slice none 0 0],kind:=.st,flds:=[(0,1,false),(1,1,false),(2,1,false),(3,1,false),(4,1,false),(5,1,false),(6,4,true)]}
def ZBv:TI:={size:=1,bytes:=24,zero:=.slice none 0 0,kind:=.sl,elem:=62,esize:=10,ebytes:=152,ezero:=.agg #[.int .i64 0,.int .i64 0,.int .i64 0,.int .i64 0,.int .i64 0,.string ByteArray.empty,.slice none 0 0,.slice none 0 0,.slice none 0 0,.slice none 0 0],eagg:=true,ety:=Zn2}
def ZnB:TI:={size:=1,bytes:=8,zero:=.pointer none,kind:=.ptr}
def ZnC:TI:={size:=2,bytes:=16,zero:=.agg #[.int .i64 0,.int .i64 0],kind:=.arr 2,elem:=2,esize:=1,ebytes:=8,ezero:=.int .i64 0,eagg:=false,ety:=.int .i64}
def Zk2:TI:={size:=1,bytes:=8,zero:=.int .u64 0,kind:=.int .u64}
def Zk3:TI:={size:=5,bytes:=48,zero:=.agg #[.string ByteArray.empty,.int .i64 0,.int .i64 0,.int .i64 0,.int .i64 0],kind:=.st,flds:=[(0,1,false),(1,1,false),(2,1,false),(3,1,false),(4,1,false)],eqd:=.str 0 (.int .i64 1 (.int .i64 2 (.int .i64 3 (.int .i64 4 (.nil)))))}
def ZKf:TI:={size:=1,bytes:=24,zero:=.slice none 0 0,kind:=.sl,elem:=270,esize:=5,ebytes:=40,ezero:=.agg #[.int .i64 0,.int .i64 0,.int .i64 0,.int .i64 0,.int .i64 0],eagg:=true,ety:=Zma}
def ZIh:TI:={size:=1,bytes:=24,zero:=.slice none 0 0,kind:=.sl,elem:=4,esize:=1,ebytes:=1,ezero:=.bool false,eagg:=false,ety:=.bool}
def ZKg:TI:={size:=1,bytes:=24,zero:=.slice none 0 0,kind:=.sl,elem:=211,esize:=4,ebytes:=32,ezero:=.agg #[.int .i64 0,.int .i64 0,.int .i64 0,.int .i64 0],eagg:=true,ety:=Zl8}
def ZAr:TI:={size:=1,bytes:=24,zero:=.slice none 0 0,kind:=.sl,elem:=147,esize:=4,ebytes:=32,ezero:=.agg #[.int .i64 0,.int .i64 0,.int .i64 0,.bool false],eagg:=true,ety:=ZjZ}
def Zz2:TI:={size:=4,bytes:=32,zero:=.agg #[.int .i64 0,.int .i64 0,.int .i64 0,.bool false],kind:=.st,flds:=[(0,1,false),(1,1,false),(2,1,false),(3,1,false)],eqd:=.int .i64 0 (.int .i64 1 (.int .i64 2 (.bool 3 (.nil))))}
def ZMY:TI:={size:=1,bytes:=24,zero:=.slice none 0 0,kind:=.sl,elem:=171,esize:=2,ebytes:=16,ezero:=.agg #[.int .i64 0,.int .i64 0],eagg:=true,ety:=ZfI}
def ZMU:TI:={size:=3,bytes:=72,zero:=.agg #[.slice none 0 0,.slice none 0 0,.slice none 0 0],kind:=.st,flds:=[(0,1,false),(1,1,false),(2,1,false)]}
def Zmc:TI:={size:=1,bytes:=24,zero:=.slice none 0 0,kind:=.sl,elem:=227,esize:=4,ebytes:=32,ezero:=.agg #[.int .i64 0,.int .i64 0,.int .i64 0,.bool false],eagg:=true,ety:=JJ}
def Zk4:TI:={size:=3,bytes:=40,zero:=.agg #[.slice none 0 0,.int .i64 0,.int .i64 0],kind:=.st,flds:=[(0,1,false),(1,1,false),(2,1,false)]}
def Zk5:TI:={size:=2,bytes:=16,zero:=.agg #[.int .i64 0,.int .i64 0],kind:=.st,flds:=[(0,1,false),(1,1,false)],eqd:=.int .i64 0 (.int .i64 1 (.nil))}
def Zmd:TI:={size:=1,bytes:=24,zero:=.slice none 0 0,kind:=.sl,elem:=51,esize:=1,ebytes:=24,ezero:=.slice none 0 0,eagg:=false,ety:=.sl (.int .i64)}
def Zk9:TI:={size:=3,bytes:=48,zero:=.agg #[.string ByteArray.empty,.int .i64 0,.slice none 0 0],kind:=.st,flds:=[(0,1,false),(1,1,false),(2,1,false)]}
def Zz3:TI:={size:=2,bytes:=16,zero:=.agg #[.int .i64 0,.int .i64 0],kind:=.st,flds:=[(0,1,false),(1,1,false)],eqd:=.int .i64 0 (.int .i64 1 (.nil))}
def Zys:TI:={size:=1,bytes:=8,zero:=.map none,kind:=.mp 196 2,ty:=Zmh,ety:=.int .i64}
def ZJ2:TI:={size:=4,bytes:=32,zero:=.agg #[.int .i64 0,.int .i64 0,.int .i64 0,.int .i64 0],kind:=.st,flds:=[(0,1,false),(1,1,false),(2,1,false),(3,1,false)],eqd:=.int .i64 0 (.int .i64 1 (.int .i64 2 (.int .i64 3 (.nil))))}
def Zme:TI:={size:=1,bytes:=24,zero:=.slice none 0 0,kind:=.sl,elem:=255,esize:=4,ebytes:=40,ezero:=.agg #[.string ByteArray.empty,.int .i64 0,.int .i64 0,.bool false],eagg:=true,ety:=Zl9}
def Zmf:TI:={size:=1,bytes:=24,zero:=.slice none 0 0,kind:=.sl,elem:=219,esize:=6,ebytes:=80,ezero:=.agg #[.int .i64 0,.int .i64 0,.int .i64 0,.int .i64 0,.slice none 0 0,.slice none 0 0],eagg:=true,ety:=Zmv}
def Zla:TI:={size:=7,bytes:=112,zero:=.agg #[.string ByteArray.empty,.int .i64 0,.slice none 0 0,.slice none 0 0,.slice none 0 0,.int .i64 0,.int .i64 0],kind:=.st,flds:=[(0,1,false),(1,1,false),(2,1,false),(3,1,false),(4,1,false),(5,1,false),(6,1,false)]}
def Zmg:TI:={size:=1,bytes:=24,zero:=.slice none 0 0,kind:=.sl,elem:=322,esize:=3,ebytes:=72,ezero:=.agg #[.slice none 0 0,.slice none 0 0,.slice none 0 0],eagg:=true,ety:=ZdQ}
def Zlb:TI:={size:=6,bytes:=80,zero:=.agg #[.int .i64 0,.int .i64 0,.int .i64 0,.int .i64 0,.slice none 0 0,.slice none 0 0],kind:=.st,flds:=[(0,1,false),(1,1,false),(2,1,false),(3,1,false),(4,1,false),(5,1,false)]}
def Zlc:TI:={size:=4,bytes:=32,zero:=.agg #[.int .i64 0,.int .i64 0,.int .i64 0,.bool false],kind:=.st,flds:=[(0,1,false),(1,1,false),(2,1,false),(3,1,false)],eqd:=.int .i64 0 (.int .i64 1 (.int .i64 2 (.bool 3 (.nil))))}
def ZyJ:TI:={size:=1,bytes:=24,zero:=.slice none 0 0,kind:=.sl,elem:=3,esize:=1,ebytes:=8,ezero:=.int .i64 0,eagg:=false,ety:=.int .i64}
def Zld:TI:={size:=3,bytes:=32,zero:=.agg #[.string ByteArray.empty,.int .i64 0,.int .i64 0],kind:=.st,flds:=[(0,1,false),(1,1,false),(2,1,false)],eqd:=.str 0 (.int .i64 1 (.int .i64 2 (.nil)))}
def Zle:TI:={size:=4,bytes:=40,zero:=.agg #[.string ByteArray.empty,.int .i64 0,.int .i64 0,.bool false],kind:=.st,flds:=[(0,1,false),(1,1,false),(2,1,false),(3,1,false)],eqd:=.str 0 (.int .i64 1 (.int .i64 2 (.bool 3 (.nil))))}
def Zz4:TI:={size:=1,bytes:=8,zero:=.pointer none,kind:=.ptr}
def Zz5:TI:={size:=1,bytes:=8,zero:=.pointer none,kind:=.ptr}
def ZJ3:TI:={size:=5,bytes:=40,zero:=.agg #[.int .i64 0,.int .i64 0,.int .i64 0,.int .i64 0,.int .i64 0],kind:=.st,flds:=[(0,1,false),(1,2,true),(3,2,true)],eqd:=.int .i64 0 (.st 1 2 (.int .i64 0 (.int .i64 1 (.nil))) (.st 3 2 (.int .i64 0 (.int .i64 1 (.nil))) (.nil)))}
def ZKh:TI:={size:=1,bytes:=24,zero:=.slice none 0 0,kind:=.sl,elem:=93,esize:=2,ebytes:=16,ezero:=.agg #[.int .i64 0,.int .i64 0],eagg:=true,ety:=.pair (.int .i64) (.pair (.int .i64) (.unit))}
def Zlf:TI:={size:=3,bytes:=72,zero:=.agg #[.slice none 0 0,.slice none 0 0,.slice none 0 0],kind:=.st,flds:=[(0,1,false),(1,1,false),(2,1,false)]}
theorem ZnF {P:Program}:Tab.ok [] P:=fun x hx=>by cases hx
theorem Zk0 {P:Program} {t:Nat} {ti:TI} {r:Tab} (h:Q6 P t ti) (hr:Tab.ok r P):Tab.ok ((t,ti)::r) P:=fun x hx=>by
 rcases List.mem_cons.1 hx with rfl | hx
 ·exact h
 ·exact hr x hx
def tab:Tab:=[(2,ti2),(3,ti3),(4,ti4),(5,ti5),(6,ti6),(8,ti8),(9,ti9),(12,Zns),(22,Znt),(38,Zoa),(40,Znw),(41,Zob),(42,Zoc),(43,Zod),(45,Znx),(46,Zoe),(48,Zny),(51,Znz),(58,ZnA),(62,ZAR),(78,ZBv),(88,ZnB),(93,ZnC),(112,Zk2),(115,Zk3),(116,ZKf),(125,ZIh),(133,ZKg),(144,ZAr),(147,Zz2),(156,ZMY),(158,ZMU),(163,Zmc),(169,Zk4),(171,Zk5),(179,Zmd),(193,Zk9),(196,Zz3),(198,Zys),(211,ZJ2),(213,Zme),(214,Zmf),(216,Zla),(217,Zmg),(219,Zlb),(227,Zlc),(234,ZyJ),(237,Zld),(255,Zle),(264,Zz4),(265,Zz5),(270,ZJ3),(300,ZKh),(322,Zlf)]
theorem ZL:tab.ok Tryz.prog:=by repeat' first | exact ZnF | refine Zk0 ?_ ?_ | kernel_rfl | constructor
def Zoi:TI:={Zoa with edp:=some (ZiT)}
def Zoj:TI:={Zob with edp:=some (Zbr)}
def Zok:TI:={Zoe with edp:=some (ZgI)}
def ZBw:TI:={ZBv with edp:=some (ZoH)}
def Zm4:TI:={Zmd with edp:=some (.ol 2 (.flat (.int .i64)))}
def Zm5:TI:={Zmf with edp:=some (ZmF)}
def Zm6:TI:={Zmg with edp:=some (ZeG)}
def Zof:TI:={Znt with cut:=true}
def ZmZ:TI:={Zoa with cut:=true,edp:=some (ZiT)}
def Zm0:TI:={Zob with cut:=true,edp:=some (Zbr)}
def Zm1:TI:={Zoc with cut:=true}
def Zm2:TI:={Zod with cut:=true}
def Zm3:TI:={Zoe with cut:=true,edp:=some (ZgI)}
def Zog:TI:={Znz with cut:=true}
def ZAJ:TI:={ZBv with cut:=true,edp:=some (ZoH)}
def ZJ8:TI:={ZKf with cut:=true}
def ZJR:TI:={ZIh with cut:=true}
def ZJ9:TI:={ZKg with cut:=true}
def ZAh:TI:={ZAr with cut:=true}
def ZMV:TI:={ZMY with cut:=true}
def Zlt:TI:={Zmc with cut:=true}
def Zlu:TI:={Zmd with cut:=true,edp:=some (.ol 2 (.flat (.int .i64)))}
def Zlv:TI:={Zme with cut:=true}
def Zlw:TI:={Zmf with cut:=true,edp:=some (ZmF)}
def Zlx:TI:={Zmg with cut:=true,edp:=some (ZeG)}
def ZAI:TI:={ZyJ with cut:=true}
def ZKa:TI:={ZKh with cut:=true}
def ZoS:Tab:=[(2,ti2),(3,ti3),(4,ti4),(5,ti5),(6,ti6),(8,ti8),(9,ti9),(12,Zns),(22,Znt),(38,Zoi),(40,Znw),(41,Zoj),(42,Zoc),(43,Zod),(45,Znx),(46,Zok),(48,Zny),(51,Znz),(58,ZnA),(62,ZAR),(78,ZBw),(88,ZnB),(93,ZnC),(112,Zk2),(115,Zk3),(116,ZKf),(125,ZIh),(133,ZKg),(144,ZAr),(147,Zz2),(156,ZMY),(158,ZMU),(163,Zmc),(169,Zk4),(171,Zk5),(179,Zm4),(193,Zk9),(196,Zz3),(198,Zys),(211,ZJ2),(213,Zme),(214,Zm5),(216,Zla),(217,Zm6),(219,Zlb),(227,Zlc),(234,ZyJ),(237,Zld),(255,Zle),(264,Zz4),(265,Zz5),(270,ZJ3),(300,ZKh),(322,Zlf)]
theorem VX:ZoS.ok Tryz.prog:=by repeat' first | exact ZnF | refine Zk0 ?_ ?_ | kernel_rfl | constructor
def ZoR:Tab:=[(2,ti2),(3,ti3),(4,ti4),(5,ti5),(6,ti6),(8,ti8),(9,ti9),(12,Zns),(22,Znt),(38,ZmZ),(40,Znw),(41,Zm0),(42,Zm1),(43,Zm2),(45,Znx),(46,Zm3),(48,Zny),(51,Znz),(58,ZnA),(62,ZAR),(78,ZAJ),(88,ZnB),(93,ZnC),(112,Zk2),(115,Zk3),(116,ZJ8),(125,ZJR),(133,ZJ9),(144,ZAh),(147,Zz2),(156,ZMV),(158,ZMU),(163,Zlt),(169,Zk4),(171,Zk5),(179,Zlu),(193,Zk9),(196,Zz3),(198,Zys),(211,ZJ2),(213,Zlv),(214,Zlw),(216,Zla),(217,Zlx),(219,Zlb),(227,Zlc),(234,ZyJ),(237,Zld),(255,Zle),(264,Zz4),(265,Zz5),(270,ZJ3),(300,ZKa),(322,Zlf)]
theorem Zn3:ZoR.ok Tryz.prog:=by repeat' first | exact ZnF | refine Zk0 ?_ ?_ | kernel_rfl | constructor
def ZoT:Tab:=[(2,ti2),(3,ti3),(4,ti4),(5,ti5),(6,ti6),(8,ti8),(9,ti9),(12,Zns),(22,Zof),(38,ZmZ),(40,Znw),(41,Zm0),(42,Zm1),(43,Zm2),(45,Znx),(46,Zm3),(48,Zny),(51,Zog),(58,ZnA),(62,ZAR),(78,ZAJ),(88,ZnB),(93,ZnC),(112,Zk2),(115,Zk3),(116,ZJ8),(125,ZJR),(133,ZJ9),(144,ZAh),(147,Zz2),(156,ZMV),(158,ZMU),(163,Zlt),(169,Zk4),(171,Zk5),(179,Zlu),(193,Zk9),(196,Zz3),(198,Zys),(211,ZJ2),(213,Zlv),(214,Zlw),(216,Zla),(217,Zlx),(219,Zlb),(227,Zlc),(234,ZAI),(237,Zld),(255,Zle),(264,Zz4),(265,Zz5),(270,ZJ3),(300,ZKa),(322,Zlf)]
theorem Zn4:ZoT.ok Tryz.prog:=by repeat' first | exact ZnF | refine Zk0 ?_ ?_ | kernel_rfl | constructor
end Go.Proofs.YtnnbgbgapogckaaGreatDoor
