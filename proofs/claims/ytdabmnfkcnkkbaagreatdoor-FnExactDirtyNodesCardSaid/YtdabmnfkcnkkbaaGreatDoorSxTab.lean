/-
  The table of types of this translation, as the executor wants it; each row held against the program. Printed by program (gentab.py).
-/
import Derived.Test.YtdabmnfkcnkkbaaGreatDoorSxTy
import Derived.Test.YtdabmnfkcnkkbaaGreatDoorProg
import Derived.KernelRfl
namespace Go.Proofs.YtdabmnfkcnkkbaaGreatDoor
open Go Go.Sx
set_option maxRecDepth 100000
def ti2:TI:={size:=1,bytes:=8,zero:=.int .i64 0,kind:=.int .i64}
def ti3:TI:={size:=1,bytes:=8,zero:=.int .i64 0,kind:=.int .i64}
def ti4:TI:={size:=1,bytes:=1,zero:=.bool false,kind:=.bool}
def ti5:TI:={size:=1,bytes:=1,zero:=.int .u8 0,kind:=.int .u8}
def ti6:TI:={size:=1,bytes:=1,zero:=.int .u8 0,kind:=.int .u8}
def ti9:TI:={size:=1,bytes:=16,zero:=.string ByteArray.empty,kind:=.str}
def Zw1:TI:={size:=1,bytes:=24,zero:=.slice none 0 0,kind:=.sl,elem:=118,esize:=7,ebytes:=112,ezero:=.agg #[.string ByteArray.empty,.int .i64 0,.slice none 0 0,.slice none 0 0,.slice none 0 0,.int .i64 0,.int .i64 0],eagg:=true,ety:=XZ}
def Zw2:TI:={size:=1,bytes:=24,zero:=.agg #[.slice none 0 0],kind:=.st,flds:=[(0,1,false)]}
def Zw3:TI:={size:=1,bytes:=24,zero:=.slice none 0 0,kind:=.sl,elem:=121,esize:=3,ebytes:=48,ezero:=.agg #[.string ByteArray.empty,.int .i64 0,.slice none 0 0],eagg:=true,ety:=Yr}
def ZvF:TI:={size:=1,bytes:=24,zero:=.slice none 0 0,kind:=.sl,elem:=9,esize:=1,ebytes:=16,ezero:=.string ByteArray.empty,eagg:=false,ety:=.str}
def Zw4:TI:={size:=1,bytes:=24,zero:=.slice none 0 0,kind:=.sl,elem:=124,esize:=3,ebytes:=32,ezero:=.agg #[.string ByteArray.empty,.int .i64 0,.int .i64 0],eagg:=true,ety:=VX}
def Zw5:TI:={size:=3,bytes:=72,zero:=.agg #[.slice none 0 0,.slice none 0 0,.slice none 0 0],kind:=.st,flds:=[(0,1,false),(1,1,false),(2,1,false)]}
def Zw6:TI:={size:=1,bytes:=24,zero:=.slice none 0 0,kind:=.sl,elem:=35,esize:=4,ebytes:=96,ezero:=.agg #[.slice none 0 0,.slice none 0 0,.slice none 0 0,.slice none 0 0],eagg:=true,ety:=Xr}
def Zw7:TI:={size:=5,bytes:=120,zero:=.agg #[.slice none 0 0,.slice none 0 0,.slice none 0 0,.slice none 0 0,.slice none 0 0],kind:=.st,flds:=[(0,1,true),(1,3,true),(4,1,false)]}
def Zr8:TI:={size:=1,bytes:=24,zero:=.slice none 0 0,kind:=.sl,elem:=2,esize:=1,ebytes:=8,ezero:=.int .i64 0,eagg:=false,ety:=.int .i64}
def Zw8:TI:={size:=4,bytes:=96,zero:=.agg #[.slice none 0 0,.slice none 0 0,.slice none 0 0,.slice none 0 0],kind:=.st,flds:=[(0,1,false),(1,1,false),(2,1,false),(3,1,false)]}
def Zw9:TI:={size:=10,bytes:=152,zero:=.agg #[.int .i64 0,.int .i64 0,.int .i64 0,.int .i64 0,.int .i64 0,.string ByteArray.empty,.slice none 0 0,.slice none 0 0,.slice none 0 0,.slice none 0 0],kind:=.st,flds:=[(0,1,false),(1,1,false),(2,1,false),(3,1,false),(4,1,false),(5,1,false),(6,4,true)]}
def Zxa:TI:={size:=1,bytes:=24,zero:=.slice none 0 0,kind:=.sl,elem:=133,esize:=7,ebytes:=112,ezero:=.agg #[.string ByteArray.empty,.int .i64 0,.slice none 0 0,.slice none 0 0,.slice none 0 0,.int .i64 0,.int .i64 0],eagg:=true,ety:=XZ}
def Zxb:TI:={size:=1,bytes:=24,zero:=.agg #[.slice none 0 0],kind:=.st,flds:=[(0,1,false)]}
def Zxc:TI:={size:=1,bytes:=24,zero:=.slice none 0 0,kind:=.sl,elem:=134,esize:=3,ebytes:=48,ezero:=.agg #[.string ByteArray.empty,.int .i64 0,.slice none 0 0],eagg:=true,ety:=Yr}
def ZvG:TI:={size:=1,bytes:=24,zero:=.slice none 0 0,kind:=.sl,elem:=138,esize:=3,ebytes:=32,ezero:=.agg #[.string ByteArray.empty,.int .i64 0,.int .i64 0],eagg:=true,ety:=VX}
def Zxd:TI:={size:=3,bytes:=72,zero:=.agg #[.slice none 0 0,.slice none 0 0,.slice none 0 0],kind:=.st,flds:=[(0,1,false),(1,1,false),(2,1,false)]}
def Zxe:TI:={size:=1,bytes:=24,zero:=.slice none 0 0,kind:=.sl,elem:=53,esize:=4,ebytes:=96,ezero:=.agg #[.slice none 0 0,.slice none 0 0,.slice none 0 0,.slice none 0 0],eagg:=true,ety:=Xr}
def Zxf:TI:={size:=5,bytes:=120,zero:=.agg #[.slice none 0 0,.slice none 0 0,.slice none 0 0,.slice none 0 0,.slice none 0 0],kind:=.st,flds:=[(0,1,true),(1,3,true),(4,1,false)]}
def Zxg:TI:={size:=4,bytes:=96,zero:=.agg #[.slice none 0 0,.slice none 0 0,.slice none 0 0,.slice none 0 0],kind:=.st,flds:=[(0,1,false),(1,1,false),(2,1,false),(3,1,false)]}
def Zxh:TI:={size:=10,bytes:=152,zero:=.agg #[.int .i64 0,.int .i64 0,.int .i64 0,.int .i64 0,.int .i64 0,.string ByteArray.empty,.slice none 0 0,.slice none 0 0,.slice none 0 0,.slice none 0 0],kind:=.st,flds:=[(0,1,false),(1,1,false),(2,1,false),(3,1,false),(4,1,false),(5,1,false),(6,4,true)]}
def Zxi:TI:={size:=1,bytes:=24,zero:=.slice none 0 0,kind:=.sl,elem:=95,esize:=4,ebytes:=32,ezero:=.agg #[.int .i64 0,.int .i64 0,.int .i64 0,.bool false],eagg:=true,ety:=Zez}
def Zxj:TI:={size:=4,bytes:=32,zero:=.agg #[.int .i64 0,.int .i64 0,.int .i64 0,.bool false],kind:=.st,flds:=[(0,1,false),(1,1,false),(2,1,false),(3,1,false)],eqd:=.int .i64 0 (.int .i64 1 (.int .i64 2 (.bool 3 (.nil))))}
def ZtV:TI:={size:=1,bytes:=24,zero:=.slice none 0 0,kind:=.sl,elem:=106,esize:=4,ebytes:=32,ezero:=.agg #[.int .i64 0,.int .i64 0,.int .i64 0,.bool false],eagg:=true,ety:=Zl1}
def ZtW:TI:={size:=4,bytes:=32,zero:=.agg #[.int .i64 0,.int .i64 0,.int .i64 0,.bool false],kind:=.st,flds:=[(0,1,false),(1,1,false),(2,1,false),(3,1,false)],eqd:=.int .i64 0 (.int .i64 1 (.int .i64 2 (.bool 3 (.nil))))}
def ZtX:TI:={size:=1,bytes:=24,zero:=.slice none 0 0,kind:=.sl,elem:=204,esize:=4,ebytes:=40,ezero:=.agg #[.string ByteArray.empty,.int .i64 0,.int .i64 0,.bool false],eagg:=true,ety:=Zcb}
def ZtY:TI:={size:=1,bytes:=24,zero:=.slice none 0 0,kind:=.sl,elem:=208,esize:=6,ebytes:=80,ezero:=.agg #[.int .i64 0,.int .i64 0,.int .i64 0,.int .i64 0,.slice none 0 0,.slice none 0 0],eagg:=true,ety:=Zdz}
def ZtZ:TI:={size:=7,bytes:=112,zero:=.agg #[.string ByteArray.empty,.int .i64 0,.slice none 0 0,.slice none 0 0,.slice none 0 0,.int .i64 0,.int .i64 0],kind:=.st,flds:=[(0,1,false),(1,1,false),(2,1,false),(3,1,false),(4,1,false),(5,1,false),(6,1,false)]}
def Zt0:TI:={size:=3,bytes:=48,zero:=.agg #[.string ByteArray.empty,.int .i64 0,.slice none 0 0],kind:=.st,flds:=[(0,1,false),(1,1,false),(2,1,false)]}
def Zt1:TI:={size:=3,bytes:=32,zero:=.agg #[.string ByteArray.empty,.int .i64 0,.int .i64 0],kind:=.st,flds:=[(0,1,false),(1,1,false),(2,1,false)],eqd:=.str 0 (.int .i64 1 (.int .i64 2 (.nil)))}
def ZsX:TI:={size:=1,bytes:=24,zero:=.slice none 0 0,kind:=.sl,elem:=168,esize:=4,ebytes:=40,ezero:=.agg #[.string ByteArray.empty,.int .i64 0,.int .i64 0,.bool false],eagg:=true,ety:=Zcb}
def Zt2:TI:={size:=1,bytes:=24,zero:=.slice none 0 0,kind:=.sl,elem:=201,esize:=6,ebytes:=80,ezero:=.agg #[.int .i64 0,.int .i64 0,.int .i64 0,.int .i64 0,.slice none 0 0,.slice none 0 0],eagg:=true,ety:=Zdz}
def Zt3:TI:={size:=7,bytes:=112,zero:=.agg #[.string ByteArray.empty,.int .i64 0,.slice none 0 0,.slice none 0 0,.slice none 0 0,.int .i64 0,.int .i64 0],kind:=.st,flds:=[(0,1,false),(1,1,false),(2,1,false),(3,1,false),(4,1,false),(5,1,false),(6,1,false)]}
def Zt4:TI:={size:=3,bytes:=48,zero:=.agg #[.string ByteArray.empty,.int .i64 0,.slice none 0 0],kind:=.st,flds:=[(0,1,false),(1,1,false),(2,1,false)]}
def Zt5:TI:={size:=3,bytes:=32,zero:=.agg #[.string ByteArray.empty,.int .i64 0,.int .i64 0],kind:=.st,flds:=[(0,1,false),(1,1,false),(2,1,false)],eqd:=.str 0 (.int .i64 1 (.int .i64 2 (.nil)))}
def Zt6:TI:={size:=2,bytes:=16,zero:=.agg #[.int .i64 0,.int .i64 0],kind:=.st,flds:=[(0,1,false),(1,1,false)],eqd:=.int .i64 0 (.int .i64 1 (.nil))}
def Zpc:TI:={size:=1,bytes:=8,zero:=.map none,kind:=.mp 150 2,ty:=ZaL,ety:=.int .i64}
def Zt7:TI:={size:=4,bytes:=40,zero:=.agg #[.string ByteArray.empty,.int .i64 0,.int .i64 0,.bool false],kind:=.st,flds:=[(0,1,false),(1,1,false),(2,1,false),(3,1,false)],eqd:=.str 0 (.int .i64 1 (.int .i64 2 (.bool 3 (.nil))))}
def Zqr:TI:={size:=1,bytes:=24,zero:=.slice none 0 0,kind:=.sl,elem:=3,esize:=1,ebytes:=8,ezero:=.int .i64 0,eagg:=false,ety:=.int .i64}
def Zt8:TI:={size:=1,bytes:=8,zero:=.int .u64 0,kind:=.int .u64}
def Zt9:TI:={size:=1,bytes:=8,zero:=.pointer none,kind:=.ptr}
def Zua:TI:={size:=1,bytes:=8,zero:=.pointer none,kind:=.ptr}
def Zub:TI:={size:=1,bytes:=24,zero:=.slice none 0 0,kind:=.sl,elem:=5,esize:=1,ebytes:=1,ezero:=.int .u8 0,eagg:=false,ety:=.int .u8}
def Zuc:TI:={size:=1,bytes:=24,zero:=.slice none 0 0,kind:=.sl,elem:=241,esize:=3,ebytes:=72,ezero:=.agg #[.slice none 0 0,.slice none 0 0,.slice none 0 0],eagg:=true,ety:=Xc}
def Zud:TI:={size:=6,bytes:=80,zero:=.agg #[.int .i64 0,.int .i64 0,.int .i64 0,.int .i64 0,.slice none 0 0,.slice none 0 0],kind:=.st,flds:=[(0,1,false),(1,1,false),(2,1,false),(3,1,false),(4,1,false),(5,1,false)]}
def Zue:TI:={size:=4,bytes:=40,zero:=.agg #[.string ByteArray.empty,.int .i64 0,.int .i64 0,.bool false],kind:=.st,flds:=[(0,1,false),(1,1,false),(2,1,false),(3,1,false)],eqd:=.str 0 (.int .i64 1 (.int .i64 2 (.bool 3 (.nil))))}
def Zuf:TI:={size:=1,bytes:=24,zero:=.slice none 0 0,kind:=.sl,elem:=265,esize:=3,ebytes:=72,ezero:=.agg #[.slice none 0 0,.slice none 0 0,.slice none 0 0],eagg:=true,ety:=Xc}
def Zug:TI:={size:=6,bytes:=80,zero:=.agg #[.int .i64 0,.int .i64 0,.int .i64 0,.int .i64 0,.slice none 0 0,.slice none 0 0],kind:=.st,flds:=[(0,1,false),(1,1,false),(2,1,false),(3,1,false),(4,1,false),(5,1,false)]}
def Zuh:TI:={size:=3,bytes:=72,zero:=.agg #[.slice none 0 0,.slice none 0 0,.slice none 0 0],kind:=.st,flds:=[(0,1,false),(1,1,false),(2,1,false)]}
def Zui:TI:={size:=3,bytes:=72,zero:=.agg #[.slice none 0 0,.slice none 0 0,.slice none 0 0],kind:=.st,flds:=[(0,1,false),(1,1,false),(2,1,false)]}
def Zuj:TI:={size:=2,bytes:=16,zero:=.agg #[.int .i64 0,.int .i64 0],kind:=.st,flds:=[(0,1,false),(1,1,false)],eqd:=.int .i64 0 (.int .i64 1 (.nil))}
theorem ZxA {P:Program}:Tab.ok [] P:=fun x hx=>by cases hx
theorem ZtU {P:Program} {t:Nat} {ti:TI} {r:Tab} (h:ZbI P t ti) (hr:Tab.ok r P):Tab.ok ((t,ti)::r) P:=fun x hx=>by
 rcases List.mem_cons.1 hx with rfl | hx
 ·exact h
 ·exact hr x hx
def tab:Tab:=[(2,ti2),(3,ti3),(4,ti4),(5,ti5),(6,ti6),(9,ti9),(22,Zw1),(24,Zw2),(25,Zw3),(26,ZvF),(27,Zw4),(29,Zw5),(30,Zw6),(32,Zw7),(33,Zr8),(35,Zw8),(37,Zw9),(42,Zxa),(44,Zxb),(45,Zxc),(46,ZvG),(48,Zxd),(49,Zxe),(51,Zxf),(53,Zxg),(55,Zxh),(90,Zxi),(95,Zxj),(102,ZtV),(106,ZtW),(115,ZtX),(116,ZtY),(118,ZtZ),(121,Zt0),(124,Zt1),(130,ZsX),(131,Zt2),(133,Zt3),(134,Zt4),(138,Zt5),(150,Zt6),(152,Zpc),(168,Zt7),(177,Zqr),(190,Zt8),(192,Zt9),(195,Zua),(198,Zub),(199,Zuc),(201,Zud),(204,Zue),(206,Zuf),(208,Zug),(241,Zuh),(265,Zui),(282,Zuj)]
theorem Ya:tab.ok Tryz.prog:=by repeat' first | exact ZxA | refine ZtU ?_ ?_ | kernel_rfl | constructor
def Zxu:TI:={Zw1 with edp:=some (Zkg)}
def Zxv:TI:={Zw3 with edp:=some (Zat)}
def Zxw:TI:={Zw6 with edp:=some (Zg8)}
def Zxx:TI:={Zxa with edp:=some (Zkg)}
def Zxy:TI:={Zxc with edp:=some (Zat)}
def Zxz:TI:={Zxe with edp:=some (Zg8)}
def Zvj:TI:={ZtY with edp:=some (Zqz)}
def Zvk:TI:={Zt2 with edp:=some (Zqz)}
def Zvl:TI:={Zuc with edp:=some (Zds)}
def Zvm:TI:={Zuf with edp:=some (Zds)}
def Zxk:TI:={Zw1 with cut:=true,edp:=some (Zkg)}
def Zxl:TI:={Zw3 with cut:=true,edp:=some (Zat)}
def Zxm:TI:={ZvF with cut:=true}
def Zxn:TI:={Zw4 with cut:=true}
def Zxo:TI:={Zw6 with cut:=true,edp:=some (Zg8)}
def Zxp:TI:={Zxa with cut:=true,edp:=some (Zkg)}
def Zxq:TI:={Zxc with cut:=true,edp:=some (Zat)}
def Zxr:TI:={ZvG with cut:=true}
def Zxs:TI:={Zxe with cut:=true,edp:=some (Zg8)}
def Zxt:TI:={Zxi with cut:=true}
def Zvc:TI:={ZtV with cut:=true}
def Zvd:TI:={ZtX with cut:=true}
def Zve:TI:={ZtY with cut:=true,edp:=some (Zqz)}
def Zvf:TI:={ZsX with cut:=true}
def Zvg:TI:={Zt2 with cut:=true,edp:=some (Zqz)}
def Zvh:TI:={Zuc with cut:=true,edp:=some (Zds)}
def Zvi:TI:={Zuf with cut:=true,edp:=some (Zds)}
def Zzt:Tab:=[(2,ti2),(3,ti3),(4,ti4),(5,ti5),(6,ti6),(9,ti9),(22,Zxu),(24,Zw2),(25,Zxv),(26,ZvF),(27,Zw4),(29,Zw5),(30,Zxw),(32,Zw7),(33,Zr8),(35,Zw8),(37,Zw9),(42,Zxx),(44,Zxb),(45,Zxy),(46,ZvG),(48,Zxd),(49,Zxz),(51,Zxf),(53,Zxg),(55,Zxh),(90,Zxi),(95,Zxj),(102,ZtV),(106,ZtW),(115,ZtX),(116,Zvj),(118,ZtZ),(121,Zt0),(124,Zt1),(130,ZsX),(131,Zvk),(133,Zt3),(134,Zt4),(138,Zt5),(150,Zt6),(152,Zpc),(168,Zt7),(177,Zqr),(190,Zt8),(192,Zt9),(195,Zua),(198,Zub),(199,Zvl),(201,Zud),(204,Zue),(206,Zvm),(208,Zug),(241,Zuh),(265,Zui),(282,Zuj)]
theorem Xn:Zzt.ok Tryz.prog:=by repeat' first | exact ZxA | refine ZtU ?_ ?_ | kernel_rfl | constructor
def Zzs:Tab:=[(2,ti2),(3,ti3),(4,ti4),(5,ti5),(6,ti6),(9,ti9),(22,Zxk),(24,Zw2),(25,Zxl),(26,Zxm),(27,Zxn),(29,Zw5),(30,Zxo),(32,Zw7),(33,Zr8),(35,Zw8),(37,Zw9),(42,Zxp),(44,Zxb),(45,Zxq),(46,Zxr),(48,Zxd),(49,Zxs),(51,Zxf),(53,Zxg),(55,Zxh),(90,Zxt),(95,Zxj),(102,Zvc),(106,ZtW),(115,Zvd),(116,Zve),(118,ZtZ),(121,Zt0),(124,Zt1),(130,Zvf),(131,Zvg),(133,Zt3),(134,Zt4),(138,Zt5),(150,Zt6),(152,Zpc),(168,Zt7),(177,Zqr),(190,Zt8),(192,Zt9),(195,Zua),(198,Zub),(199,Zvh),(201,Zud),(204,Zue),(206,Zvi),(208,Zug),(241,Zuh),(265,Zui),(282,Zuj)]
theorem ZrT:Zzs.ok Tryz.prog:=by repeat' first | exact ZxA | refine ZtU ?_ ?_ | kernel_rfl | constructor
end Go.Proofs.YtdabmnfkcnkkbaaGreatDoor
