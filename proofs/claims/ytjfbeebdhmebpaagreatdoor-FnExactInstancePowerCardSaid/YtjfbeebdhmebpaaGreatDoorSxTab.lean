/-
  The table of types of this translation, as the executor wants it; each row held against the program. Printed by program (gentab.py).
-/
import Derived.Test.YtjfbeebdhmebpaaGreatDoorSxTy
import Derived.Test.YtjfbeebdhmebpaaGreatDoorProg
import Derived.KernelRfl
namespace Go.Proofs.YtjfbeebdhmebpaaGreatDoor
open Go Go.Sx
set_option maxRecDepth 100000
def ti2:TI:={size:=1,bytes:=8,zero:=.int .i64 0,kind:=.int .i64}
def ti3:TI:={size:=1,bytes:=8,zero:=.int .i64 0,kind:=.int .i64}
def ti4:TI:={size:=1,bytes:=1,zero:=.bool false,kind:=.bool}
def ti5:TI:={size:=1,bytes:=1,zero:=.int .u8 0,kind:=.int .u8}
def ti6:TI:={size:=1,bytes:=1,zero:=.int .u8 0,kind:=.int .u8}
def ti9:TI:={size:=1,bytes:=16,zero:=.string ByteArray.empty,kind:=.str}
def ZtE:TI:={size:=1,bytes:=24,zero:=.slice none 0 0,kind:=.sl,elem:=155,esize:=7,ebytes:=112,ezero:=.agg #[.string ByteArray.empty,.int .i64 0,.slice none 0 0,.slice none 0 0,.slice none 0 0,.int .i64 0,.int .i64 0],eagg:=true,ety:=QC}
def ZtF:TI:={size:=1,bytes:=24,zero:=.agg #[.slice none 0 0],kind:=.st,flds:=[(0,1,false)]}
def ZtG:TI:={size:=1,bytes:=24,zero:=.slice none 0 0,kind:=.sl,elem:=157,esize:=3,ebytes:=48,ezero:=.agg #[.string ByteArray.empty,.int .i64 0,.slice none 0 0],eagg:=true,ety:=Yn}
def ZsH:TI:={size:=1,bytes:=24,zero:=.slice none 0 0,kind:=.sl,elem:=9,esize:=1,ebytes:=16,ezero:=.string ByteArray.empty,eagg:=false,ety:=.str}
def ZtH:TI:={size:=1,bytes:=24,zero:=.slice none 0 0,kind:=.sl,elem:=160,esize:=3,ebytes:=32,ezero:=.agg #[.string ByteArray.empty,.int .i64 0,.int .i64 0],eagg:=true,ety:=Za4}
def ZtI:TI:={size:=3,bytes:=72,zero:=.agg #[.slice none 0 0,.slice none 0 0,.slice none 0 0],kind:=.st,flds:=[(0,1,false),(1,1,false),(2,1,false)]}
def ZtJ:TI:={size:=1,bytes:=24,zero:=.slice none 0 0,kind:=.sl,elem:=113,esize:=4,ebytes:=96,ezero:=.agg #[.slice none 0 0,.slice none 0 0,.slice none 0 0,.slice none 0 0],eagg:=true,ety:=Zaj}
def ZtK:TI:={size:=5,bytes:=120,zero:=.agg #[.slice none 0 0,.slice none 0 0,.slice none 0 0,.slice none 0 0,.slice none 0 0],kind:=.st,flds:=[(0,1,true),(1,3,true),(4,1,false)]}
def ZtL:TI:={size:=1,bytes:=24,zero:=.slice none 0 0,kind:=.sl,elem:=77,esize:=3,ebytes:=24,ezero:=.agg #[.int .i64 0,.int .i64 0,.int .i64 0],eagg:=true,ety:=ZE}
def ZtM:TI:={size:=1,bytes:=24,zero:=.slice none 0 0,kind:=.sl,elem:=146,esize:=7,ebytes:=112,ezero:=.agg #[.string ByteArray.empty,.int .i64 0,.slice none 0 0,.slice none 0 0,.slice none 0 0,.int .i64 0,.int .i64 0],eagg:=true,ety:=QC}
def ZtN:TI:={size:=1,bytes:=24,zero:=.agg #[.slice none 0 0],kind:=.st,flds:=[(0,1,false)]}
def ZtO:TI:={size:=1,bytes:=24,zero:=.slice none 0 0,kind:=.sl,elem:=103,esize:=3,ebytes:=48,ezero:=.agg #[.string ByteArray.empty,.int .i64 0,.slice none 0 0],eagg:=true,ety:=Yn}
def ZsI:TI:={size:=1,bytes:=24,zero:=.slice none 0 0,kind:=.sl,elem:=168,esize:=3,ebytes:=32,ezero:=.agg #[.string ByteArray.empty,.int .i64 0,.int .i64 0],eagg:=true,ety:=Za4}
def ZtP:TI:={size:=3,bytes:=72,zero:=.agg #[.slice none 0 0,.slice none 0 0,.slice none 0 0],kind:=.st,flds:=[(0,1,false),(1,1,false),(2,1,false)]}
def ZtQ:TI:={size:=1,bytes:=24,zero:=.slice none 0 0,kind:=.sl,elem:=121,esize:=4,ebytes:=96,ezero:=.agg #[.slice none 0 0,.slice none 0 0,.slice none 0 0,.slice none 0 0],eagg:=true,ety:=Zaj}
def ZtR:TI:={size:=5,bytes:=120,zero:=.agg #[.slice none 0 0,.slice none 0 0,.slice none 0 0,.slice none 0 0,.slice none 0 0],kind:=.st,flds:=[(0,1,true),(1,3,true),(4,1,false)]}
def ZsJ:TI:={size:=1,bytes:=24,zero:=.slice none 0 0,kind:=.sl,elem:=73,esize:=3,ebytes:=24,ezero:=.agg #[.int .i64 0,.int .i64 0,.int .i64 0],eagg:=true,ety:=ZE}
def ZCL:TI:={size:=3,bytes:=24,zero:=.agg #[.int .i64 0,.int .i64 0,.int .i64 0],kind:=.st,flds:=[(0,1,false),(1,1,false),(2,1,false)],eqd:=.int .i64 0 (.int .i64 1 (.int .i64 2 (.nil)))}
def ZtS:TI:={size:=2,bytes:=16,zero:=.agg #[.int .i64 0,.int .i64 0],kind:=.st,flds:=[(0,1,false),(1,1,false)],eqd:=.int .i64 0 (.int .i64 1 (.nil))}
def ZtT:TI:={size:=3,bytes:=24,zero:=.agg #[.int .i64 0,.int .i64 0,.int .i64 0],kind:=.st,flds:=[(0,2,true),(2,1,false)],eqd:=.st 0 2 (.int .i64 0 (.int .i64 1 (.nil))) (.int .i64 2 (.nil))}
def ZtU:TI:={size:=2,bytes:=16,zero:=.agg #[.int .i64 0,.int .i64 0],kind:=.st,flds:=[(0,1,false),(1,1,false)],eqd:=.int .i64 0 (.int .i64 1 (.nil))}
def ZtV:TI:={size:=3,bytes:=24,zero:=.agg #[.int .i64 0,.int .i64 0,.int .i64 0],kind:=.st,flds:=[(0,2,true),(2,1,false)],eqd:=.st 0 2 (.int .i64 0 (.int .i64 1 (.nil))) (.int .i64 2 (.nil))}
def ZtW:TI:={size:=1,bytes:=8,zero:=.pointer none,kind:=.ptr}
def ZnW:TI:={size:=1,bytes:=24,zero:=.slice none 0 0,kind:=.sl,elem:=2,esize:=1,ebytes:=8,ezero:=.int .i64 0,eagg:=false,ety:=.int .i64}
def ZtX:TI:={size:=1,bytes:=24,zero:=.slice none 0 0,kind:=.sl,elem:=82,esize:=1,ebytes:=24,ezero:=.slice none 0 0,eagg:=false,ety:=.sl (.int .i64)}
def ZtY:TI:={size:=1,bytes:=8,zero:=.pointer none,kind:=.ptr}
def Zrs:TI:={size:=1,bytes:=8,zero:=.map none,kind:=.mp 2 73,ty:=.int .i64,ety:=ZE}
def ZtZ:TI:={size:=2,bytes:=16,zero:=.agg #[.pointer none,.map none],kind:=.st,flds:=[(0,1,false),(1,1,false)]}
def Zq2:TI:={size:=3,bytes:=48,zero:=.agg #[.string ByteArray.empty,.int .i64 0,.slice none 0 0],kind:=.st,flds:=[(0,1,false),(1,1,false),(2,1,false)]}
def Zq3:TI:={size:=4,bytes:=96,zero:=.agg #[.slice none 0 0,.slice none 0 0,.slice none 0 0,.slice none 0 0],kind:=.st,flds:=[(0,1,false),(1,1,false),(2,1,false),(3,1,false)]}
def Zq4:TI:={size:=4,bytes:=96,zero:=.agg #[.slice none 0 0,.slice none 0 0,.slice none 0 0,.slice none 0 0],kind:=.st,flds:=[(0,1,false),(1,1,false),(2,1,false),(3,1,false)]}
def Zq5:TI:={size:=7,bytes:=168,zero:=.agg #[.slice none 0 0,.slice none 0 0,.slice none 0 0,.slice none 0 0,.slice none 0 0,.slice none 0 0,.slice none 0 0],kind:=.st,flds:=[(0,5,true),(5,1,false),(6,1,false)]}
def Zqa:TI:={size:=1,bytes:=24,zero:=.slice none 0 0,kind:=.sl,elem:=231,esize:=4,ebytes:=40,ezero:=.agg #[.string ByteArray.empty,.int .i64 0,.int .i64 0,.bool false],eagg:=true,ety:=Zef}
def Zq6:TI:={size:=1,bytes:=24,zero:=.slice none 0 0,kind:=.sl,elem:=252,esize:=6,ebytes:=80,ezero:=.agg #[.int .i64 0,.int .i64 0,.int .i64 0,.int .i64 0,.slice none 0 0,.slice none 0 0],eagg:=true,ety:=ZeT}
def Zq7:TI:={size:=7,bytes:=112,zero:=.agg #[.string ByteArray.empty,.int .i64 0,.slice none 0 0,.slice none 0 0,.slice none 0 0,.int .i64 0,.int .i64 0],kind:=.st,flds:=[(0,1,false),(1,1,false),(2,1,false),(3,1,false),(4,1,false),(5,1,false),(6,1,false)]}
def Zq8:TI:={size:=1,bytes:=24,zero:=.slice none 0 0,kind:=.sl,elem:=244,esize:=4,ebytes:=40,ezero:=.agg #[.string ByteArray.empty,.int .i64 0,.int .i64 0,.bool false],eagg:=true,ety:=Zef}
def Zq9:TI:={size:=1,bytes:=24,zero:=.slice none 0 0,kind:=.sl,elem:=248,esize:=6,ebytes:=80,ezero:=.agg #[.int .i64 0,.int .i64 0,.int .i64 0,.int .i64 0,.slice none 0 0,.slice none 0 0],eagg:=true,ety:=ZeT}
def Zra:TI:={size:=7,bytes:=112,zero:=.agg #[.string ByteArray.empty,.int .i64 0,.slice none 0 0,.slice none 0 0,.slice none 0 0,.int .i64 0,.int .i64 0],kind:=.st,flds:=[(0,1,false),(1,1,false),(2,1,false),(3,1,false),(4,1,false),(5,1,false),(6,1,false)]}
def Zrb:TI:={size:=3,bytes:=48,zero:=.agg #[.string ByteArray.empty,.int .i64 0,.slice none 0 0],kind:=.st,flds:=[(0,1,false),(1,1,false),(2,1,false)]}
def Zrc:TI:={size:=3,bytes:=32,zero:=.agg #[.string ByteArray.empty,.int .i64 0,.int .i64 0],kind:=.st,flds:=[(0,1,false),(1,1,false),(2,1,false)],eqd:=.str 0 (.int .i64 1 (.int .i64 2 (.nil)))}
def Zph:TI:={size:=1,bytes:=24,zero:=.slice none 0 0,kind:=.sl,elem:=4,esize:=1,ebytes:=1,ezero:=.bool false,eagg:=false,ety:=.bool}
def Zrd:TI:={size:=3,bytes:=32,zero:=.agg #[.string ByteArray.empty,.int .i64 0,.int .i64 0],kind:=.st,flds:=[(0,1,false),(1,1,false),(2,1,false)],eqd:=.str 0 (.int .i64 1 (.int .i64 2 (.nil)))}
def Zre:TI:={size:=1,bytes:=8,zero:=.int .u64 0,kind:=.int .u64}
def Zrf:TI:={size:=1,bytes:=24,zero:=.slice none 0 0,kind:=.sl,elem:=188,esize:=4,ebytes:=32,ezero:=.agg #[.int .i64 0,.int .i64 0,.int .i64 0,.bool false],eagg:=true,ety:=Zj0}
def Zrg:TI:={size:=4,bytes:=32,zero:=.agg #[.int .i64 0,.int .i64 0,.int .i64 0,.bool false],kind:=.st,flds:=[(0,1,false),(1,1,false),(2,1,false),(3,1,false)],eqd:=.int .i64 0 (.int .i64 1 (.int .i64 2 (.bool 3 (.nil))))}
def Zrh:TI:={size:=1,bytes:=24,zero:=.slice none 0 0,kind:=.sl,elem:=221,esize:=4,ebytes:=32,ezero:=.agg #[.int .i64 0,.int .i64 0,.int .i64 0,.bool false],eagg:=true,ety:=ZbU}
def Zri:TI:={size:=4,bytes:=32,zero:=.agg #[.int .i64 0,.int .i64 0,.int .i64 0,.bool false],kind:=.st,flds:=[(0,1,false),(1,1,false),(2,1,false),(3,1,false)],eqd:=.int .i64 0 (.int .i64 1 (.int .i64 2 (.bool 3 (.nil))))}
def Zrj:TI:={size:=4,bytes:=40,zero:=.agg #[.string ByteArray.empty,.int .i64 0,.int .i64 0,.bool false],kind:=.st,flds:=[(0,1,false),(1,1,false),(2,1,false),(3,1,false)],eqd:=.str 0 (.int .i64 1 (.int .i64 2 (.bool 3 (.nil))))}
def Zpi:TI:={size:=1,bytes:=24,zero:=.slice none 0 0,kind:=.sl,elem:=3,esize:=1,ebytes:=8,ezero:=.int .i64 0,eagg:=false,ety:=.int .i64}
def Zrk:TI:={size:=4,bytes:=40,zero:=.agg #[.string ByteArray.empty,.int .i64 0,.int .i64 0,.bool false],kind:=.st,flds:=[(0,1,false),(1,1,false),(2,1,false),(3,1,false)],eqd:=.str 0 (.int .i64 1 (.int .i64 2 (.bool 3 (.nil))))}
def Zrl:TI:={size:=1,bytes:=24,zero:=.slice none 0 0,kind:=.sl,elem:=287,esize:=3,ebytes:=72,ezero:=.agg #[.slice none 0 0,.slice none 0 0,.slice none 0 0],eagg:=true,ety:=Xa}
def Zrm:TI:={size:=6,bytes:=80,zero:=.agg #[.int .i64 0,.int .i64 0,.int .i64 0,.int .i64 0,.slice none 0 0,.slice none 0 0],kind:=.st,flds:=[(0,1,false),(1,1,false),(2,1,false),(3,1,false),(4,1,false),(5,1,false)]}
def Zrn:TI:={size:=1,bytes:=24,zero:=.slice none 0 0,kind:=.sl,elem:=288,esize:=3,ebytes:=72,ezero:=.agg #[.slice none 0 0,.slice none 0 0,.slice none 0 0],eagg:=true,ety:=Xa}
def Zro:TI:={size:=6,bytes:=80,zero:=.agg #[.int .i64 0,.int .i64 0,.int .i64 0,.int .i64 0,.slice none 0 0,.slice none 0 0],kind:=.st,flds:=[(0,1,false),(1,1,false),(2,1,false),(3,1,false),(4,1,false),(5,1,false)]}
def ZAW:TI:={size:=1,bytes:=8,zero:=.map none,kind:=.mp 2 2,ty:=.int .i64,ety:=.int .i64}
def Zrp:TI:={size:=3,bytes:=72,zero:=.agg #[.slice none 0 0,.slice none 0 0,.slice none 0 0],kind:=.st,flds:=[(0,1,false),(1,1,false),(2,1,false)]}
def Zrq:TI:={size:=3,bytes:=72,zero:=.agg #[.slice none 0 0,.slice none 0 0,.slice none 0 0],kind:=.st,flds:=[(0,1,false),(1,1,false),(2,1,false)]}
def Zrr:TI:={size:=2,bytes:=16,zero:=.agg #[.int .i64 0,.int .i64 0],kind:=.st,flds:=[(0,1,false),(1,1,false)],eqd:=.int .i64 0 (.int .i64 1 (.nil))}
theorem Zuj {P:Program}:Tab.ok [] P:=fun x hx=>by cases hx
theorem Zq1 {P:Program} {t:Nat} {ti:TI} {r:Tab} (h:Jm P t ti) (hr:Tab.ok r P):Tab.ok ((t,ti)::r) P:=fun x hx=>by
 rcases List.mem_cons.1 hx with rfl | hx
 ·exact h
 ·exact hr x hx
def tab:Tab:=[(2,ti2),(3,ti3),(4,ti4),(5,ti5),(6,ti6),(9,ti9),(22,ZtE),(24,ZtF),(25,ZtG),(26,ZsH),(27,ZtH),(29,ZtI),(30,ZtJ),(32,ZtK),(33,ZtL),(38,ZtM),(40,ZtN),(41,ZtO),(42,ZsI),(44,ZtP),(45,ZtQ),(47,ZtR),(49,ZsJ),(55,ZCL),(71,ZtS),(73,ZtT),(75,ZtU),(77,ZtV),(78,ZtW),(82,ZnW),(83,ZtX),(85,ZtY),(86,Zrs),(88,ZtZ),(103,Zq2),(113,Zq3),(121,Zq4),(127,Zq5),(143,Zqa),(144,Zq6),(146,Zq7),(152,Zq8),(153,Zq9),(155,Zra),(157,Zrb),(160,Zrc),(162,Zph),(168,Zrd),(174,Zre),(184,Zrf),(188,Zrg),(217,Zrh),(221,Zri),(231,Zrj),(238,Zpi),(244,Zrk),(246,Zrl),(248,Zrm),(250,Zrn),(252,Zro),(267,ZAW),(287,Zrp),(288,Zrq),(300,Zrr)]
theorem Zm:tab.ok Tryz.prog:=by repeat' first | exact Zuj | refine Zq1 ?_ ?_ | kernel_rfl | constructor
def Zuc:TI:={ZtE with edp:=some (Zk2)}
def Zud:TI:={ZtG with edp:=some (ZaV)}
def Zue:TI:={ZtJ with edp:=some (Zk3)}
def Zuf:TI:={ZtM with edp:=some (Zk2)}
def Zug:TI:={ZtO with edp:=some (ZaV)}
def Zuh:TI:={ZtQ with edp:=some (Zk3)}
def Zui:TI:={ZtX with edp:=some (.ol 2 (.flat (.int .i64)))}
def Zsn:TI:={Zq6 with edp:=some (Zqm)}
def Zso:TI:={Zq9 with edp:=some (Zqm)}
def Zsp:TI:={Zrl with edp:=some (ZfT)}
def Zsq:TI:={Zrn with edp:=some (ZfT)}
def Zt0:TI:={ZtE with cut:=true,edp:=some (Zk2)}
def Zt1:TI:={ZtG with cut:=true,edp:=some (ZaV)}
def Zt2:TI:={ZsH with cut:=true}
def Zt3:TI:={ZtH with cut:=true}
def Zt4:TI:={ZtJ with cut:=true,edp:=some (Zk3)}
def Zt5:TI:={ZtL with cut:=true}
def Zt6:TI:={ZtM with cut:=true,edp:=some (Zk2)}
def Zt7:TI:={ZtO with cut:=true,edp:=some (ZaV)}
def Zt8:TI:={ZsI with cut:=true}
def Zt9:TI:={ZtQ with cut:=true,edp:=some (Zk3)}
def Zua:TI:={ZsJ with cut:=true}
def Zub:TI:={ZtX with cut:=true,edp:=some (.ol 2 (.flat (.int .i64)))}
def Zse:TI:={Zqa with cut:=true}
def Zsf:TI:={Zq6 with cut:=true,edp:=some (Zqm)}
def Zsg:TI:={Zq8 with cut:=true}
def Zsh:TI:={Zq9 with cut:=true,edp:=some (Zqm)}
def Zsi:TI:={Zph with cut:=true}
def Zsj:TI:={Zrf with cut:=true}
def Zsk:TI:={Zrh with cut:=true}
def Zsl:TI:={Zrl with cut:=true,edp:=some (ZfT)}
def Zsm:TI:={Zrn with cut:=true,edp:=some (ZfT)}
def ZvA:Tab:=[(2,ti2),(3,ti3),(4,ti4),(5,ti5),(6,ti6),(9,ti9),(22,Zuc),(24,ZtF),(25,Zud),(26,ZsH),(27,ZtH),(29,ZtI),(30,Zue),(32,ZtK),(33,ZtL),(38,Zuf),(40,ZtN),(41,Zug),(42,ZsI),(44,ZtP),(45,Zuh),(47,ZtR),(49,ZsJ),(55,ZCL),(71,ZtS),(73,ZtT),(75,ZtU),(77,ZtV),(78,ZtW),(82,ZnW),(83,Zui),(85,ZtY),(86,Zrs),(88,ZtZ),(103,Zq2),(113,Zq3),(121,Zq4),(127,Zq5),(143,Zqa),(144,Zsn),(146,Zq7),(152,Zq8),(153,Zso),(155,Zra),(157,Zrb),(160,Zrc),(162,Zph),(168,Zrd),(174,Zre),(184,Zrf),(188,Zrg),(217,Zrh),(221,Zri),(231,Zrj),(238,Zpi),(244,Zrk),(246,Zsp),(248,Zrm),(250,Zsq),(252,Zro),(267,ZAW),(287,Zrp),(288,Zrq),(300,Zrr)]
theorem Vg:ZvA.ok Tryz.prog:=by repeat' first | exact Zuj | refine Zq1 ?_ ?_ | kernel_rfl | constructor
def Zvz:Tab:=[(2,ti2),(3,ti3),(4,ti4),(5,ti5),(6,ti6),(9,ti9),(22,Zt0),(24,ZtF),(25,Zt1),(26,Zt2),(27,Zt3),(29,ZtI),(30,Zt4),(32,ZtK),(33,Zt5),(38,Zt6),(40,ZtN),(41,Zt7),(42,Zt8),(44,ZtP),(45,Zt9),(47,ZtR),(49,Zua),(55,ZCL),(71,ZtS),(73,ZtT),(75,ZtU),(77,ZtV),(78,ZtW),(82,ZnW),(83,Zub),(85,ZtY),(86,Zrs),(88,ZtZ),(103,Zq2),(113,Zq3),(121,Zq4),(127,Zq5),(143,Zse),(144,Zsf),(146,Zq7),(152,Zsg),(153,Zsh),(155,Zra),(157,Zrb),(160,Zrc),(162,Zsi),(168,Zrd),(174,Zre),(184,Zsj),(188,Zrg),(217,Zsk),(221,Zri),(231,Zrj),(238,Zpi),(244,Zrk),(246,Zsl),(248,Zrm),(250,Zsm),(252,Zro),(267,ZAW),(287,Zrp),(288,Zrq),(300,Zrr)]
theorem ZtD:Zvz.ok Tryz.prog:=by repeat' first | exact Zuj | refine Zq1 ?_ ?_ | kernel_rfl | constructor
end Go.Proofs.YtjfbeebdhmebpaaGreatDoor
