/-
  The table of types of this translation, as the executor wants it; each row held against the program. Printed by program (gentab.py).
-/
import Derived.Test.YtjkccpcebpeadaaGreatDoorSxTy
import Derived.Test.YtjkccpcebpeadaaGreatDoorProg
import Derived.KernelRfl
namespace Go.Proofs.YtjkccpcebpeadaaGreatDoor
open Go Go.Sx
set_option maxRecDepth 100000
def ti2:TI:={size:=1,bytes:=8,zero:=.int .i64 0,kind:=.int .i64}
def ti3:TI:={size:=1,bytes:=8,zero:=.int .i64 0,kind:=.int .i64}
def ti4:TI:={size:=1,bytes:=1,zero:=.bool false,kind:=.bool}
def ti5:TI:={size:=1,bytes:=1,zero:=.int .u8 0,kind:=.int .u8}
def ti6:TI:={size:=1,bytes:=1,zero:=.int .u8 0,kind:=.int .u8}
def ti7:TI:={size:=4,bytes:=24,zero:=.agg #[.int .i64 0,.int .i64 0,.bool false,.int .u8 0],kind:=.st,flds:=[(0,1,false),(1,1,false),(2,1,false),(3,1,false)]}
def ti8:TI:={size:=4,bytes:=24,zero:=.agg #[.int .i64 0,.int .i64 0,.bool false,.int .u8 0],kind:=.st,flds:=[(0,1,false),(1,1,false),(2,1,false),(3,1,false)]}
def ti9:TI:={size:=1,bytes:=16,zero:=.string ByteArray.empty,kind:=.str}
def ZFb:TI:={size:=1,bytes:=16,zero:=.string ByteArray.empty,kind:=.str}
def ZFc:TI:={size:=1,bytes:=8,zero:=.int .u64 0,kind:=.int .u64}
def ZFd:TI:={size:=1,bytes:=24,zero:=.slice none 0 0,kind:=.sl,elem:=5,esize:=1,ebytes:=1,ezero:=.int .u8 0,eagg:=false,ety:=.int .u8}
def ZFe:TI:={size:=1,bytes:=24,zero:=.slice none 0 0,kind:=.sl,elem:=217,esize:=7,ebytes:=112,ezero:=.agg #[.string ByteArray.empty,.int .i64 0,.slice none 0 0,.slice none 0 0,.slice none 0 0,.int .i64 0,.int .i64 0],eagg:=true,ety:=ZgA}
def ZFf:TI:={size:=1,bytes:=24,zero:=.agg #[.slice none 0 0],kind:=.st,flds:=[(0,1,false)]}
def ZFg:TI:={size:=1,bytes:=24,zero:=.slice none 0 0,kind:=.sl,elem:=167,esize:=3,ebytes:=48,ezero:=.agg #[.string ByteArray.empty,.int .i64 0,.slice none 0 0],eagg:=true,ety:=Zfz}
def ZFh:TI:={size:=1,bytes:=24,zero:=.slice none 0 0,kind:=.sl,elem:=9,esize:=1,ebytes:=16,ezero:=.string ByteArray.empty,eagg:=false,ety:=.str}
def ZFi:TI:={size:=1,bytes:=24,zero:=.slice none 0 0,kind:=.sl,elem:=186,esize:=3,ebytes:=32,ezero:=.agg #[.string ByteArray.empty,.int .i64 0,.int .i64 0],eagg:=true,ety:=Zvf}
def ZFj:TI:={size:=3,bytes:=72,zero:=.agg #[.slice none 0 0,.slice none 0 0,.slice none 0 0],kind:=.st,flds:=[(0,1,false),(1,1,false),(2,1,false)]}
def ZFk:TI:={size:=1,bytes:=24,zero:=.slice none 0 0,kind:=.sl,elem:=162,esize:=4,ebytes:=96,ezero:=.agg #[.slice none 0 0,.slice none 0 0,.slice none 0 0,.slice none 0 0],eagg:=true,ety:=Zm2}
def ZFl:TI:={size:=5,bytes:=120,zero:=.agg #[.slice none 0 0,.slice none 0 0,.slice none 0 0,.slice none 0 0,.slice none 0 0],kind:=.st,flds:=[(0,1,true),(1,3,true),(4,1,false)]}
def ZFm:TI:={size:=1,bytes:=24,zero:=.slice none 0 0,kind:=.sl,elem:=114,esize:=11,ebytes:=96,ezero:=.agg #[.string ByteArray.empty,.int .i64 0,.int .i64 0,.int .i64 0,.int .i64 0,.int .i64 0,.int .i64 0,.bool false,.int .i64 0,.int .i64 0,.int .i64 0],eagg:=true,ety:=ZbL}
def ZFn:TI:={size:=1,bytes:=24,zero:=.slice none 0 0,kind:=.sl,elem:=122,esize:=6,ebytes:=48,ezero:=.agg #[.int .i64 0,.int .i64 0,.int .i64 0,.int .i64 0,.int .i64 0,.int .i64 0],eagg:=true,ety:=Jz}
def ZFo:TI:={size:=1,bytes:=24,zero:=.slice none 0 0,kind:=.sl,elem:=124,esize:=5,ebytes:=88,ezero:=.agg #[.int .i64 0,.int .i64 0,.slice none 0 0,.slice none 0 0,.slice none 0 0],eagg:=true,ety:=Jj}
def ZFp:TI:={size:=1,bytes:=24,zero:=.slice none 0 0,kind:=.sl,elem:=57,esize:=5,ebytes:=48,ezero:=.agg #[.string ByteArray.empty,.int .i64 0,.int .i64 0,.int .i64 0,.int .i64 0],eagg:=true,ety:=Qf}
def ZFq:TI:={size:=5,bytes:=120,zero:=.agg #[.slice none 0 0,.slice none 0 0,.slice none 0 0,.slice none 0 0,.slice none 0 0],kind:=.st,flds:=[(0,1,false),(1,1,false),(2,1,false),(3,1,false),(4,1,false)]}
def Zs7:TI:={size:=1,bytes:=24,zero:=.slice none 0 0,kind:=.sl,elem:=4,esize:=1,ebytes:=1,ezero:=.bool false,eagg:=false,ety:=.bool}
def ZFr:TI:={size:=1,bytes:=24,zero:=.slice none 0 0,kind:=.sl,elem:=120,esize:=2,ebytes:=16,ezero:=.agg #[.int .i64 0,.int .i64 0],eagg:=true,ety:=Zag}
def ZFs:TI:={size:=3,bytes:=72,zero:=.agg #[.slice none 0 0,.slice none 0 0,.slice none 0 0],kind:=.st,flds:=[(0,1,false),(1,1,false),(2,1,false)]}
def ZFt:TI:={size:=1,bytes:=24,zero:=.slice none 0 0,kind:=.sl,elem:=149,esize:=5,ebytes:=40,ezero:=.agg #[.int .i64 0,.int .i64 0,.int .i64 0,.int .i64 0,.int .i64 0],eagg:=true,ety:=Xv}
def Zza:TI:={size:=1,bytes:=24,zero:=.slice none 0 0,kind:=.sl,elem:=2,esize:=1,ebytes:=8,ezero:=.int .i64 0,eagg:=false,ety:=.int .i64}
def ZFu:TI:={size:=5,bytes:=48,zero:=.agg #[.string ByteArray.empty,.int .i64 0,.int .i64 0,.int .i64 0,.int .i64 0],kind:=.st,flds:=[(0,1,false),(1,1,false),(2,1,false),(3,1,false),(4,1,false)],eqd:=.str 0 (.int .i64 1 (.int .i64 2 (.int .i64 3 (.int .i64 4 (.nil)))))}
def ZMN:TI:={size:=1,bytes:=24,zero:=.slice none 0 0,kind:=.sl,elem:=71,esize:=4,ebytes:=32,ezero:=.agg #[.int .i64 0,.int .i64 0,.int .i64 0,.int .i64 0],eagg:=true,ety:=ZCE}
def ZMO:TI:={size:=3,bytes:=24,zero:=.agg #[.int .i64 0,.int .i64 0,.int .i64 0],kind:=.st,flds:=[(0,1,false),(1,1,false),(2,1,false)],eqd:=.int .i64 0 (.int .i64 1 (.int .i64 2 (.nil)))}
def ZMP:TI:={size:=4,bytes:=32,zero:=.agg #[.int .i64 0,.int .i64 0,.int .i64 0,.int .i64 0],kind:=.st,flds:=[(0,1,false),(1,1,false),(2,1,false),(3,1,false)],eqd:=.int .i64 0 (.int .i64 1 (.int .i64 2 (.int .i64 3 (.nil))))}
def ZFv:TI:={size:=1,bytes:=8,zero:=.pointer none,kind:=.ptr}
def ZFw:TI:={size:=1,bytes:=8,zero:=.pointer none,kind:=.ptr}
def ZFx:TI:={size:=1,bytes:=8,zero:=.pointer none,kind:=.ptr}
def ZFy:TI:={size:=10,bytes:=152,zero:=.agg #[.pointer none,.string ByteArray.empty,.int .i64 0,.int .i64 0,.int .i64 0,.int .i64 0,.slice none 0 0,.slice none 0 0,.slice none 0 0,.slice none 0 0],kind:=.st,flds:=[(0,1,false),(1,5,true),(6,1,false),(7,3,true)]}
def ZFz:TI:={size:=1,bytes:=8,zero:=.pointer none,kind:=.ptr}
def ZFA:TI:={size:=4,bytes:=32,zero:=.agg #[.int .i64 0,.int .i64 0,.int .i64 0,.bool false],kind:=.st,flds:=[(0,1,false),(1,1,false),(2,1,false),(3,1,false)],eqd:=.int .i64 0 (.int .i64 1 (.int .i64 2 (.bool 3 (.nil))))}
def ZFB:TI:={size:=1,bytes:=24,zero:=.slice none 0 0,kind:=.sl,elem:=98,esize:=4,ebytes:=32,ezero:=.agg #[.int .i64 0,.int .i64 0,.int .i64 0,.bool false],eagg:=true,ety:=Zk7}
def ZAW:TI:={size:=2,bytes:=32,zero:=.agg #[.pointer none,.slice none 0 0],kind:=.st,flds:=[(0,1,false),(1,1,false)]}
def ZAX:TI:={size:=2,bytes:=16,zero:=.agg #[.int .i64 0,.int .i64 0],kind:=.arr 2,elem:=2,esize:=1,ebytes:=8,ezero:=.int .i64 0,eagg:=false,ety:=.int .i64}
def ZAY:TI:={size:=3,bytes:=24,zero:=.agg #[.int .i64 0,.int .i64 0,.int .i64 0],kind:=.st,flds:=[(0,1,false),(1,2,true)]}
def ZL5:TI:={size:=9,bytes:=72,zero:=.agg #[.int .i64 0,.int .i64 0,.int .i64 0,.int .i64 0,.int .i64 0,.int .i64 0,.int .i64 0,.int .i64 0,.int .i64 0],kind:=.st,flds:=[(0,3,true),(3,3,true),(6,1,false),(7,1,false),(8,1,false)]}
def ZAZ:TI:={size:=11,bytes:=96,zero:=.agg #[.string ByteArray.empty,.int .i64 0,.int .i64 0,.int .i64 0,.int .i64 0,.int .i64 0,.int .i64 0,.bool false,.int .i64 0,.int .i64 0,.int .i64 0],kind:=.st,flds:=[(0,1,false),(1,1,false),(2,1,false),(3,1,false),(4,1,false),(5,1,false),(6,1,false),(7,1,false),(8,1,false),(9,1,false),(10,1,false)],eqd:=.str 0 (.int .i64 1 (.int .i64 2 (.int .i64 3 (.int .i64 4 (.int .i64 5 (.int .i64 6 (.bool 7 (.int .i64 8 (.int .i64 9 (.int .i64 10 (.nil)))))))))))}
def ZA0:TI:={size:=3,bytes:=40,zero:=.agg #[.slice none 0 0,.int .i64 0,.int .i64 0],kind:=.st,flds:=[(0,1,false),(1,1,false),(2,1,false)]}
def ZA1:TI:={size:=2,bytes:=16,zero:=.agg #[.int .i64 0,.int .i64 0],kind:=.st,flds:=[(0,1,false),(1,1,false)],eqd:=.int .i64 0 (.int .i64 1 (.nil))}
def ZA2:TI:={size:=6,bytes:=48,zero:=.agg #[.int .i64 0,.int .i64 0,.int .i64 0,.int .i64 0,.int .i64 0,.int .i64 0],kind:=.st,flds:=[(0,1,false),(1,1,false),(2,2,true),(4,2,true)],eqd:=.int .i64 0 (.int .i64 1 (.st 2 2 (.int .i64 0 (.int .i64 1 (.nil))) (.st 4 2 (.int .i64 0 (.int .i64 1 (.nil))) (.nil))))}
def ZA3:TI:={size:=5,bytes:=88,zero:=.agg #[.int .i64 0,.int .i64 0,.slice none 0 0,.slice none 0 0,.slice none 0 0],kind:=.st,flds:=[(0,1,false),(1,1,false),(2,1,false),(3,1,false),(4,1,false)]}
def ZA4:TI:={size:=1,bytes:=24,zero:=.slice none 0 0,kind:=.sl,elem:=205,esize:=4,ebytes:=32,ezero:=.agg #[.int .i64 0,.int .i64 0,.int .i64 0,.bool false],eagg:=true,ety:=ZgB}
def ZA5:TI:={size:=1,bytes:=24,zero:=.slice none 0 0,kind:=.sl,elem:=143,esize:=4,ebytes:=32,ezero:=.agg #[.int .i64 0,.int .i64 0,.int .i64 0,.int .i64 0],eagg:=true,ety:=Zaj}
def ZA6:TI:={size:=1,bytes:=24,zero:=.slice none 0 0,kind:=.sl,elem:=52,esize:=1,ebytes:=24,ezero:=.slice none 0 0,eagg:=false,ety:=.sl (.int .i64)}
def ZA7:TI:={size:=4,bytes:=32,zero:=.agg #[.int .i64 0,.int .i64 0,.int .i64 0,.int .i64 0],kind:=.st,flds:=[(0,1,false),(1,1,false),(2,1,false),(3,1,false)],eqd:=.int .i64 0 (.int .i64 1 (.int .i64 2 (.int .i64 3 (.nil))))}
def ZA8:TI:={size:=3,bytes:=24,zero:=.agg #[.int .i64 0,.int .i64 0,.int .i64 0],kind:=.st,flds:=[(0,1,false),(1,1,false),(2,1,false)],eqd:=.int .i64 0 (.int .i64 1 (.int .i64 2 (.nil)))}
def ZA9:TI:={size:=5,bytes:=40,zero:=.agg #[.int .i64 0,.int .i64 0,.int .i64 0,.int .i64 0,.int .i64 0],kind:=.st,flds:=[(0,1,false),(1,2,true),(3,2,true)],eqd:=.int .i64 0 (.st 1 2 (.int .i64 0 (.int .i64 1 (.nil))) (.st 3 2 (.int .i64 0 (.int .i64 1 (.nil))) (.nil)))}
def ZBa:TI:={size:=4,bytes:=96,zero:=.agg #[.slice none 0 0,.slice none 0 0,.slice none 0 0,.slice none 0 0],kind:=.st,flds:=[(0,1,false),(1,1,false),(2,1,false),(3,1,false)]}
def ZBb:TI:={size:=10,bytes:=240,zero:=.agg #[.slice none 0 0,.slice none 0 0,.slice none 0 0,.slice none 0 0,.slice none 0 0,.slice none 0 0,.slice none 0 0,.slice none 0 0,.slice none 0 0,.slice none 0 0],kind:=.st,flds:=[(0,5,true),(5,1,false),(6,1,false),(7,1,false),(8,1,false),(9,1,false)]}
def ZBc:TI:={size:=3,bytes:=48,zero:=.agg #[.string ByteArray.empty,.int .i64 0,.slice none 0 0],kind:=.st,flds:=[(0,1,false),(1,1,false),(2,1,false)]}
def ZBe:TI:={size:=3,bytes:=32,zero:=.agg #[.string ByteArray.empty,.int .i64 0,.int .i64 0],kind:=.st,flds:=[(0,1,false),(1,1,false),(2,1,false)],eqd:=.str 0 (.int .i64 1 (.int .i64 2 (.nil)))}
def ZBf:TI:={size:=4,bytes:=32,zero:=.agg #[.int .i64 0,.int .i64 0,.int .i64 0,.bool false],kind:=.st,flds:=[(0,1,false),(1,1,false),(2,1,false),(3,1,false)],eqd:=.int .i64 0 (.int .i64 1 (.int .i64 2 (.bool 3 (.nil))))}
def Zsa:TI:={size:=1,bytes:=24,zero:=.slice none 0 0,kind:=.sl,elem:=3,esize:=1,ebytes:=8,ezero:=.int .i64 0,eagg:=false,ety:=.int .i64}
def ZBg:TI:={size:=1,bytes:=24,zero:=.slice none 0 0,kind:=.sl,elem:=303,esize:=4,ebytes:=40,ezero:=.agg #[.string ByteArray.empty,.int .i64 0,.int .i64 0,.bool false],eagg:=true,ety:=ZqP}
def ZBh:TI:={size:=1,bytes:=24,zero:=.slice none 0 0,kind:=.sl,elem:=220,esize:=6,ebytes:=80,ezero:=.agg #[.int .i64 0,.int .i64 0,.int .i64 0,.int .i64 0,.slice none 0 0,.slice none 0 0],eagg:=true,ety:=Zow}
def ZBi:TI:={size:=7,bytes:=112,zero:=.agg #[.string ByteArray.empty,.int .i64 0,.slice none 0 0,.slice none 0 0,.slice none 0 0,.int .i64 0,.int .i64 0],kind:=.st,flds:=[(0,1,false),(1,1,false),(2,1,false),(3,1,false),(4,1,false),(5,1,false),(6,1,false)]}
def ZBj:TI:={size:=1,bytes:=24,zero:=.slice none 0 0,kind:=.sl,elem:=267,esize:=3,ebytes:=72,ezero:=.agg #[.slice none 0 0,.slice none 0 0,.slice none 0 0],eagg:=true,ety:=Zbi}
def ZBk:TI:={size:=6,bytes:=80,zero:=.agg #[.int .i64 0,.int .i64 0,.int .i64 0,.int .i64 0,.slice none 0 0,.slice none 0 0],kind:=.st,flds:=[(0,1,false),(1,1,false),(2,1,false),(3,1,false),(4,1,false),(5,1,false)]}
def ZBl:TI:={size:=1,bytes:=8,zero:=.int .u64 0,kind:=.int .u64}
def ZBm:TI:={size:=1,bytes:=24,zero:=.slice none 0 0,kind:=.sl,elem:=105,esize:=2,ebytes:=16,ezero:=.agg #[.int .i64 0,.int .i64 0],eagg:=true,ety:=.pair (.int .i64) (.pair (.int .i64) (.unit))}
def ZBn:TI:={size:=1,bytes:=24,zero:=.slice none 0 0,kind:=.sl,elem:=43,esize:=1,ebytes:=24,ezero:=.slice none 0 0,eagg:=false,ety:=.sl (.bool)}
def ZBo:TI:={size:=1,bytes:=8,zero:=.pointer none,kind:=.ptr}
def ZBp:TI:={size:=3,bytes:=72,zero:=.agg #[.slice none 0 0,.slice none 0 0,.slice none 0 0],kind:=.st,flds:=[(0,1,false),(1,1,false),(2,1,false)]}
def ZBq:TI:={size:=4,bytes:=40,zero:=.agg #[.string ByteArray.empty,.int .i64 0,.int .i64 0,.bool false],kind:=.st,flds:=[(0,1,false),(1,1,false),(2,1,false),(3,1,false)],eqd:=.str 0 (.int .i64 1 (.int .i64 2 (.bool 3 (.nil))))}
def ZBr:TI:={size:=1,bytes:=8,zero:=.pointer none,kind:=.ptr}
def ZBs:TI:={size:=1,bytes:=24,zero:=.slice none 0 0,kind:=.sl,elem:=320,esize:=2,ebytes:=16,ezero:=.agg #[.int .i64 0,.int .i64 0],eagg:=true,ety:=Zta}
def ZBt:TI:={size:=2,bytes:=16,zero:=.agg #[.int .i64 0,.int .i64 0],kind:=.st,flds:=[(0,1,false),(1,1,false)],eqd:=.int .i64 0 (.int .i64 1 (.nil))}
theorem ZFV {P:Program}:Tab.ok [] P:=λx hx=>by cases hx
theorem ZAV {P:Program} {t:Nat} {ti:TI} {r:Tab} (h:Zdi P t ti) (hr:Tab.ok r P):Tab.ok ((t,ti)::r) P:=λx hx=>by
 rcases Us.1 hx with rfl | hx
 ·exact h
 ·exact hr x hx
def tab:Tab:=[(2,ti2),(3,ti3),(4,ti4),(5,ti5),(6,ti6),(7,ti7),(8,ti8),(9,ti9),(10,ZFb),(12,ZFc),(22,ZFd),(24,ZFe),(26,ZFf),(27,ZFg),(28,ZFh),(29,ZFi),(31,ZFj),(32,ZFk),(34,ZFl),(35,ZFm),(36,ZFn),(37,ZFo),(38,ZFp),(40,ZFq),(43,Zs7),(44,ZFr),(46,ZFs),(49,ZFt),(52,Zza),(57,ZFu),(62,ZMN),(66,ZMO),(71,ZMP),(72,ZFv),(77,ZFw),(80,ZFx),(82,ZFy),(88,ZFz),(98,ZFA),(99,ZFB),(103,ZAW),(105,ZAX),(107,ZAY),(109,ZL5),(114,ZAZ),(118,ZA0),(120,ZA1),(122,ZA2),(124,ZA3),(131,ZA4),(136,ZA5),(140,ZA6),(143,ZA7),(146,ZA8),(149,ZA9),(162,ZBa),(165,ZBb),(167,ZBc),(186,ZBe),(205,ZBf),(206,Zsa),(214,ZBg),(215,ZBh),(217,ZBi),(218,ZBj),(220,ZBk),(238,ZBl),(244,ZBm),(248,ZBn),(259,ZBo),(267,ZBp),(303,ZBq),(311,ZBr),(316,ZBs),(320,ZBt)]
theorem Zy:tab.ok Tryz.prog:=by repeat' first | exact ZFV | refine ZAV ?_ ?_ | kernel_rfl | constructor
def ZFR:TI:={ZFe with edp:=some (ZvX)}
def ZFS:TI:={ZFg with edp:=some (Zky)}
def ZFT:TI:={ZFk with edp:=some (ZuB)}
def ZFU:TI:={ZFo with edp:=some (Zja)}
def ZCR:TI:={ZA6 with edp:=some (.ol 2 (.flat (.int .i64)))}
def ZCS:TI:={ZBh with edp:=some (ZB5)}
def ZCT:TI:={ZBj with edp:=some (Zph)}
def ZCU:TI:={ZBn with edp:=some (.ol 4 (.flat (.bool)))}
def ZFD:TI:={ZFd with cut:=true}
def ZFE:TI:={ZFe with cut:=true,edp:=some (ZvX)}
def ZFF:TI:={ZFg with cut:=true,edp:=some (Zky)}
def ZFG:TI:={ZFh with cut:=true}
def ZFH:TI:={ZFi with cut:=true}
def ZFI:TI:={ZFk with cut:=true,edp:=some (ZuB)}
def ZFJ:TI:={ZFm with cut:=true}
def ZFK:TI:={ZFn with cut:=true}
def ZFL:TI:={ZFo with cut:=true,edp:=some (Zja)}
def ZFM:TI:={ZFp with cut:=true}
def ZCQ:TI:={Zs7 with cut:=true}
def ZFN:TI:={ZFr with cut:=true}
def ZFO:TI:={ZFt with cut:=true}
def ZFP:TI:={Zza with cut:=true}
def ZMQ:TI:={ZMN with cut:=true}
def ZFQ:TI:={ZFB with cut:=true}
def ZCG:TI:={ZA4 with cut:=true}
def ZCH:TI:={ZA5 with cut:=true}
def ZCI:TI:={ZA6 with cut:=true,edp:=some (.ol 2 (.flat (.int .i64)))}
def ZCJ:TI:={Zsa with cut:=true}
def ZCK:TI:={ZBg with cut:=true}
def ZCL:TI:={ZBh with cut:=true,edp:=some (ZB5)}
def ZCM:TI:={ZBj with cut:=true,edp:=some (Zph)}
def ZCN:TI:={ZBm with cut:=true}
def ZCO:TI:={ZBn with cut:=true,edp:=some (.ol 4 (.flat (.bool)))}
def ZCP:TI:={ZBs with cut:=true}
def ZIm:Tab:=[(2,ti2),(3,ti3),(4,ti4),(5,ti5),(6,ti6),(7,ti7),(8,ti8),(9,ti9),(10,ZFb),(12,ZFc),(22,ZFd),(24,ZFR),(26,ZFf),(27,ZFS),(28,ZFh),(29,ZFi),(31,ZFj),(32,ZFT),(34,ZFl),(35,ZFm),(36,ZFn),(37,ZFU),(38,ZFp),(40,ZFq),(43,Zs7),(44,ZFr),(46,ZFs),(49,ZFt),(52,Zza),(57,ZFu),(62,ZMN),(66,ZMO),(71,ZMP),(72,ZFv),(77,ZFw),(80,ZFx),(82,ZFy),(88,ZFz),(98,ZFA),(99,ZFB),(103,ZAW),(105,ZAX),(107,ZAY),(109,ZL5),(114,ZAZ),(118,ZA0),(120,ZA1),(122,ZA2),(124,ZA3),(131,ZA4),(136,ZA5),(140,ZCR),(143,ZA7),(146,ZA8),(149,ZA9),(162,ZBa),(165,ZBb),(167,ZBc),(186,ZBe),(205,ZBf),(206,Zsa),(214,ZBg),(215,ZCS),(217,ZBi),(218,ZCT),(220,ZBk),(238,ZBl),(244,ZBm),(248,ZCU),(259,ZBo),(267,ZBp),(303,ZBq),(311,ZBr),(316,ZBs),(320,ZBt)]
theorem Zcl:ZIm.ok Tryz.prog:=by repeat' first | exact ZFV | refine ZAV ?_ ?_ | kernel_rfl | constructor
def ZIn:Tab:=[(2,ti2),(3,ti3),(4,ti4),(5,ti5),(6,ti6),(7,ti7),(8,ti8),(9,ti9),(10,ZFb),(12,ZFc),(22,ZFD),(24,ZFE),(26,ZFf),(27,ZFF),(28,ZFG),(29,ZFH),(31,ZFj),(32,ZFI),(34,ZFl),(35,ZFJ),(36,ZFK),(37,ZFL),(38,ZFM),(40,ZFq),(43,ZCQ),(44,ZFN),(46,ZFs),(49,ZFO),(52,ZFP),(57,ZFu),(62,ZMQ),(66,ZMO),(71,ZMP),(72,ZFv),(77,ZFw),(80,ZFx),(82,ZFy),(88,ZFz),(98,ZFA),(99,ZFQ),(103,ZAW),(105,ZAX),(107,ZAY),(109,ZL5),(114,ZAZ),(118,ZA0),(120,ZA1),(122,ZA2),(124,ZA3),(131,ZCG),(136,ZCH),(140,ZCI),(143,ZA7),(146,ZA8),(149,ZA9),(162,ZBa),(165,ZBb),(167,ZBc),(186,ZBe),(205,ZBf),(206,ZCJ),(214,ZCK),(215,ZCL),(217,ZBi),(218,ZCM),(220,ZBk),(238,ZBl),(244,ZCN),(248,ZCO),(259,ZBo),(267,ZBp),(303,ZBq),(311,ZBr),(316,ZCP),(320,ZBt)]
theorem ZAU:ZIn.ok Tryz.prog:=by repeat' first | exact ZFV | refine ZAV ?_ ?_ | kernel_rfl | constructor
end Go.Proofs.YtjkccpcebpeadaaGreatDoor
