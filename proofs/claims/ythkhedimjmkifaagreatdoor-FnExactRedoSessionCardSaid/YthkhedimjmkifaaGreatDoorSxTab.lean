/-
  The table of types of this translation, as the executor wants it; each row held against the program. Printed by program (gentab.py).
-/
import Derived.Test.YthkhedimjmkifaaGreatDoorSxTy
import Derived.Test.YthkhedimjmkifaaGreatDoorProg
import Derived.KernelRfl
namespace Go.Proofs.YthkhedimjmkifaaGreatDoor
open Go Go.Sx
set_option maxRecDepth 100000
def ti2:TI:={size:=1,bytes:=8,zero:=.int .i64 0,kind:=.int .i64}
def ti3:TI:={size:=1,bytes:=8,zero:=.int .i64 0,kind:=.int .i64}
def ti4:TI:={size:=1,bytes:=1,zero:=.bool false,kind:=.bool}
def ti5:TI:={size:=1,bytes:=1,zero:=.int .u8 0,kind:=.int .u8}
def ti6:TI:={size:=1,bytes:=1,zero:=.int .u8 0,kind:=.int .u8}
def ti7:TI:={size:=4,bytes:=24,zero:=.agg #[.int .i64 0,.int .i64 0,.bool false,.int .u8 0],kind:=.st,flds:=[(0,1,false),(1,1,false),(2,1,false),(3,1,false)]}
def ti8:TI:={size:=4,bytes:=24,zero:=.agg #[.int .i64 0,.int .i64 0,.bool false,.int .u8 0],kind:=.st,flds:=[(0,1,false),(1,1,false),(2,1,false),(3,1,false)]}
def ti9:TI:={size:=1,bytes:=16,zero:=.string ByteArray.empty,kind:=.str}
def ZCe:TI:={size:=1,bytes:=16,zero:=.string ByteArray.empty,kind:=.str}
def ZB8:TI:={size:=1,bytes:=24,zero:=.slice none 0 0,kind:=.sl,elem:=269,esize:=7,ebytes:=112,ezero:=.agg #[.string ByteArray.empty,.int .i64 0,.slice none 0 0,.slice none 0 0,.slice none 0 0,.int .i64 0,.int .i64 0],eagg:=true,ety:=QL}
def ZCB:TI:={size:=1,bytes:=24,zero:=.agg #[.slice none 0 0],kind:=.st,flds:=[(0,1,false)]}
def ZB0:TI:={size:=1,bytes:=24,zero:=.slice none 0 0,kind:=.sl,elem:=271,esize:=3,ebytes:=48,ezero:=.agg #[.string ByteArray.empty,.int .i64 0,.slice none 0 0],eagg:=true,ety:=Yq}
def ZAM:TI:={size:=1,bytes:=24,zero:=.slice none 0 0,kind:=.sl,elem:=9,esize:=1,ebytes:=16,ezero:=.string ByteArray.empty,eagg:=false,ety:=.str}
def ZCv:TI:={size:=1,bytes:=24,zero:=.slice none 0 0,kind:=.sl,elem:=273,esize:=3,ebytes:=32,ezero:=.agg #[.string ByteArray.empty,.int .i64 0,.int .i64 0],eagg:=true,ety:=Zcd}
def ZBU:TI:={size:=3,bytes:=72,zero:=.agg #[.slice none 0 0,.slice none 0 0,.slice none 0 0],kind:=.st,flds:=[(0,1,false),(1,1,false),(2,1,false)]}
def ZCt:TI:={size:=1,bytes:=24,zero:=.slice none 0 0,kind:=.sl,elem:=81,esize:=4,ebytes:=96,ezero:=.agg #[.slice none 0 0,.slice none 0 0,.slice none 0 0,.slice none 0 0],eagg:=true,ety:=Vv}
def ZBM:TI:={size:=5,bytes:=120,zero:=.agg #[.slice none 0 0,.slice none 0 0,.slice none 0 0,.slice none 0 0,.slice none 0 0],kind:=.st,flds:=[(0,1,true),(1,3,true),(4,1,false)]}
def ZCh:TI:={size:=1,bytes:=24,zero:=.slice none 0 0,kind:=.sl,elem:=167,esize:=11,ebytes:=96,ezero:=.agg #[.string ByteArray.empty,.int .i64 0,.int .i64 0,.int .i64 0,.int .i64 0,.int .i64 0,.int .i64 0,.bool false,.int .i64 0,.int .i64 0,.int .i64 0],eagg:=true,ety:=XF}
def ZCj:TI:={size:=1,bytes:=24,zero:=.slice none 0 0,kind:=.sl,elem:=191,esize:=6,ebytes:=48,ezero:=.agg #[.int .i64 0,.int .i64 0,.int .i64 0,.int .i64 0,.int .i64 0,.int .i64 0],eagg:=true,ety:=Yg}
def ZCn:TI:={size:=1,bytes:=24,zero:=.slice none 0 0,kind:=.sl,elem:=169,esize:=5,ebytes:=88,ezero:=.agg #[.int .i64 0,.int .i64 0,.slice none 0 0,.slice none 0 0,.slice none 0 0],eagg:=true,ety:=Yn}
def ZCs:TI:={size:=1,bytes:=24,zero:=.slice none 0 0,kind:=.sl,elem:=172,esize:=5,ebytes:=48,ezero:=.agg #[.string ByteArray.empty,.int .i64 0,.int .i64 0,.int .i64 0,.int .i64 0],eagg:=true,ety:=Xf}
def ZCq:TI:={size:=5,bytes:=120,zero:=.agg #[.slice none 0 0,.slice none 0 0,.slice none 0 0,.slice none 0 0,.slice none 0 0],kind:=.st,flds:=[(0,1,false),(1,1,false),(2,1,false),(3,1,false),(4,1,false)]}
def ZCa:TI:={size:=1,bytes:=24,zero:=.slice none 0 0,kind:=.sl,elem:=83,esize:=10,ebytes:=152,ezero:=.agg #[.int .i64 0,.int .i64 0,.int .i64 0,.int .i64 0,.int .i64 0,.string ByteArray.empty,.slice none 0 0,.slice none 0 0,.slice none 0 0,.slice none 0 0],eagg:=true,ety:=XL}
def ZB7:TI:={size:=12,bytes:=288,zero:=.agg #[.slice none 0 0,.slice none 0 0,.slice none 0 0,.slice none 0 0,.slice none 0 0,.slice none 0 0,.slice none 0 0,.slice none 0 0,.slice none 0 0,.slice none 0 0,.slice none 0 0,.slice none 0 0],kind:=.st,flds:=[(0,5,true),(5,5,true),(10,1,false),(11,1,false)]}
def ZCo:TI:={size:=1,bytes:=24,zero:=.slice none 0 0,kind:=.sl,elem:=277,esize:=7,ebytes:=112,ezero:=.agg #[.string ByteArray.empty,.int .i64 0,.slice none 0 0,.slice none 0 0,.slice none 0 0,.int .i64 0,.int .i64 0],eagg:=true,ety:=QL}
def ZB5:TI:={size:=1,bytes:=24,zero:=.agg #[.slice none 0 0],kind:=.st,flds:=[(0,1,false)]}
def ZBJ:TI:={size:=1,bytes:=24,zero:=.slice none 0 0,kind:=.sl,elem:=219,esize:=3,ebytes:=48,ezero:=.agg #[.string ByteArray.empty,.int .i64 0,.slice none 0 0],eagg:=true,ety:=Yq}
def ZAK:TI:={size:=1,bytes:=24,zero:=.slice none 0 0,kind:=.sl,elem:=246,esize:=3,ebytes:=32,ezero:=.agg #[.string ByteArray.empty,.int .i64 0,.int .i64 0],eagg:=true,ety:=Zcd}
def ZCy:TI:={size:=3,bytes:=72,zero:=.agg #[.slice none 0 0,.slice none 0 0,.slice none 0 0],kind:=.st,flds:=[(0,1,false),(1,1,false),(2,1,false)]}
def ZB2:TI:={size:=1,bytes:=24,zero:=.slice none 0 0,kind:=.sl,elem:=86,esize:=4,ebytes:=96,ezero:=.agg #[.slice none 0 0,.slice none 0 0,.slice none 0 0,.slice none 0 0],eagg:=true,ety:=Vv}
def ZCd:TI:={size:=5,bytes:=120,zero:=.agg #[.slice none 0 0,.slice none 0 0,.slice none 0 0,.slice none 0 0,.slice none 0 0],kind:=.st,flds:=[(0,1,true),(1,3,true),(4,1,false)]}
def ZBx:TI:={size:=1,bytes:=24,zero:=.slice none 0 0,kind:=.sl,elem:=150,esize:=11,ebytes:=96,ezero:=.agg #[.string ByteArray.empty,.int .i64 0,.int .i64 0,.int .i64 0,.int .i64 0,.int .i64 0,.int .i64 0,.bool false,.int .i64 0,.int .i64 0,.int .i64 0],eagg:=true,ety:=XF}
def ZAT:TI:={size:=1,bytes:=24,zero:=.slice none 0 0,kind:=.sl,elem:=187,esize:=6,ebytes:=48,ezero:=.agg #[.int .i64 0,.int .i64 0,.int .i64 0,.int .i64 0,.int .i64 0,.int .i64 0],eagg:=true,ety:=Yg}
def ZB4:TI:={size:=1,bytes:=24,zero:=.slice none 0 0,kind:=.sl,elem:=155,esize:=5,ebytes:=88,ezero:=.agg #[.int .i64 0,.int .i64 0,.slice none 0 0,.slice none 0 0,.slice none 0 0],eagg:=true,ety:=Yn}
def ZA6:TI:={size:=1,bytes:=24,zero:=.slice none 0 0,kind:=.sl,elem:=193,esize:=5,ebytes:=48,ezero:=.agg #[.string ByteArray.empty,.int .i64 0,.int .i64 0,.int .i64 0,.int .i64 0],eagg:=true,ety:=Xf}
def ZBW:TI:={size:=5,bytes:=120,zero:=.agg #[.slice none 0 0,.slice none 0 0,.slice none 0 0,.slice none 0 0,.slice none 0 0],kind:=.st,flds:=[(0,1,false),(1,1,false),(2,1,false),(3,1,false),(4,1,false)]}
def ZBL:TI:={size:=1,bytes:=24,zero:=.slice none 0 0,kind:=.sl,elem:=88,esize:=10,ebytes:=152,ezero:=.agg #[.int .i64 0,.int .i64 0,.int .i64 0,.int .i64 0,.int .i64 0,.string ByteArray.empty,.slice none 0 0,.slice none 0 0,.slice none 0 0,.slice none 0 0],eagg:=true,ety:=XL}
def ZCk:TI:={size:=12,bytes:=288,zero:=.agg #[.slice none 0 0,.slice none 0 0,.slice none 0 0,.slice none 0 0,.slice none 0 0,.slice none 0 0,.slice none 0 0,.slice none 0 0,.slice none 0 0,.slice none 0 0,.slice none 0 0,.slice none 0 0],kind:=.st,flds:=[(0,5,true),(5,5,true),(10,1,false),(11,1,false)]}
def Zvn:TI:={size:=1,bytes:=24,zero:=.slice none 0 0,kind:=.sl,elem:=2,esize:=1,ebytes:=8,ezero:=.int .i64 0,eagg:=false,ety:=.int .i64}
def ZBZ:TI:={size:=4,bytes:=96,zero:=.agg #[.slice none 0 0,.slice none 0 0,.slice none 0 0,.slice none 0 0],kind:=.st,flds:=[(0,1,false),(1,1,false),(2,1,false),(3,1,false)]}
def ZCg:TI:={size:=10,bytes:=152,zero:=.agg #[.int .i64 0,.int .i64 0,.int .i64 0,.int .i64 0,.int .i64 0,.string ByteArray.empty,.slice none 0 0,.slice none 0 0,.slice none 0 0,.slice none 0 0],kind:=.st,flds:=[(0,1,false),(1,1,false),(2,1,false),(3,1,false),(4,1,false),(5,1,false),(6,4,true)]}
def ZBI:TI:={size:=4,bytes:=96,zero:=.agg #[.slice none 0 0,.slice none 0 0,.slice none 0 0,.slice none 0 0],kind:=.st,flds:=[(0,1,false),(1,1,false),(2,1,false),(3,1,false)]}
def ZBP:TI:={size:=10,bytes:=152,zero:=.agg #[.int .i64 0,.int .i64 0,.int .i64 0,.int .i64 0,.int .i64 0,.string ByteArray.empty,.slice none 0 0,.slice none 0 0,.slice none 0 0,.slice none 0 0],kind:=.st,flds:=[(0,1,false),(1,1,false),(2,1,false),(3,1,false),(4,1,false),(5,1,false),(6,4,true)]}
def Zx9:TI:={size:=11,bytes:=96,zero:=.agg #[.string ByteArray.empty,.int .i64 0,.int .i64 0,.int .i64 0,.int .i64 0,.int .i64 0,.int .i64 0,.bool false,.int .i64 0,.int .i64 0,.int .i64 0],kind:=.st,flds:=[(0,1,false),(1,1,false),(2,1,false),(3,1,false),(4,1,false),(5,1,false),(6,1,false),(7,1,false),(8,1,false),(9,1,false),(10,1,false)],eqd:=.str 0 (.int .i64 1 (.int .i64 2 (.int .i64 3 (.int .i64 4 (.int .i64 5 (.int .i64 6 (.bool 7 (.int .i64 8 (.int .i64 9 (.int .i64 10 (.nil)))))))))))}
def ZyD:TI:={size:=1,bytes:=24,zero:=.slice none 0 0,kind:=.sl,elem:=244,esize:=4,ebytes:=32,ezero:=.agg #[.int .i64 0,.int .i64 0,.int .i64 0,.bool false],eagg:=true,ety:=ZfE}
def ZxZ:TI:={size:=5,bytes:=88,zero:=.agg #[.int .i64 0,.int .i64 0,.slice none 0 0,.slice none 0 0,.slice none 0 0],kind:=.st,flds:=[(0,1,false),(1,1,false),(2,1,false),(3,1,false),(4,1,false)]}
def ZxP:TI:={size:=1,bytes:=8,zero:=.pointer none,kind:=.ptr}
def ZyG:TI:={size:=11,bytes:=96,zero:=.agg #[.string ByteArray.empty,.int .i64 0,.int .i64 0,.int .i64 0,.int .i64 0,.int .i64 0,.int .i64 0,.bool false,.int .i64 0,.int .i64 0,.int .i64 0],kind:=.st,flds:=[(0,1,false),(1,1,false),(2,1,false),(3,1,false),(4,1,false),(5,1,false),(6,1,false),(7,1,false),(8,1,false),(9,1,false),(10,1,false)],eqd:=.str 0 (.int .i64 1 (.int .i64 2 (.int .i64 3 (.int .i64 4 (.int .i64 5 (.int .i64 6 (.bool 7 (.int .i64 8 (.int .i64 9 (.int .i64 10 (.nil)))))))))))}
def Zyl:TI:={size:=5,bytes:=88,zero:=.agg #[.int .i64 0,.int .i64 0,.slice none 0 0,.slice none 0 0,.slice none 0 0],kind:=.st,flds:=[(0,1,false),(1,1,false),(2,1,false),(3,1,false),(4,1,false)]}
def Zzd:TI:={size:=5,bytes:=48,zero:=.agg #[.string ByteArray.empty,.int .i64 0,.int .i64 0,.int .i64 0,.int .i64 0],kind:=.st,flds:=[(0,1,false),(1,1,false),(2,1,false),(3,1,false),(4,1,false)],eqd:=.str 0 (.int .i64 1 (.int .i64 2 (.int .i64 3 (.int .i64 4 (.nil)))))}
def ZxV:TI:={size:=2,bytes:=16,zero:=.agg #[.int .i64 0,.int .i64 0],kind:=.st,flds:=[(0,1,false),(1,1,false)],eqd:=.int .i64 0 (.int .i64 1 (.nil))}
def ZyS:TI:={size:=6,bytes:=48,zero:=.agg #[.int .i64 0,.int .i64 0,.int .i64 0,.int .i64 0,.int .i64 0,.int .i64 0],kind:=.st,flds:=[(0,1,false),(1,1,false),(2,2,true),(4,2,true)],eqd:=.int .i64 0 (.int .i64 1 (.st 2 2 (.int .i64 0 (.int .i64 1 (.nil))) (.st 4 2 (.int .i64 0 (.int .i64 1 (.nil))) (.nil))))}
def ZyT:TI:={size:=2,bytes:=16,zero:=.agg #[.int .i64 0,.int .i64 0],kind:=.st,flds:=[(0,1,false),(1,1,false)],eqd:=.int .i64 0 (.int .i64 1 (.nil))}
def ZxT:TI:={size:=6,bytes:=48,zero:=.agg #[.int .i64 0,.int .i64 0,.int .i64 0,.int .i64 0,.int .i64 0,.int .i64 0],kind:=.st,flds:=[(0,1,false),(1,1,false),(2,2,true),(4,2,true)],eqd:=.int .i64 0 (.int .i64 1 (.st 2 2 (.int .i64 0 (.int .i64 1 (.nil))) (.st 4 2 (.int .i64 0 (.int .i64 1 (.nil))) (.nil))))}
def ZxX:TI:={size:=5,bytes:=48,zero:=.agg #[.string ByteArray.empty,.int .i64 0,.int .i64 0,.int .i64 0,.int .i64 0],kind:=.st,flds:=[(0,1,false),(1,1,false),(2,1,false),(3,1,false),(4,1,false)],eqd:=.str 0 (.int .i64 1 (.int .i64 2 (.int .i64 3 (.int .i64 4 (.nil)))))}
def ZxC:TI:={size:=3,bytes:=48,zero:=.agg #[.string ByteArray.empty,.int .i64 0,.slice none 0 0],kind:=.st,flds:=[(0,1,false),(1,1,false),(2,1,false)]}
def Zzb:TI:={size:=4,bytes:=32,zero:=.agg #[.int .i64 0,.int .i64 0,.int .i64 0,.bool false],kind:=.st,flds:=[(0,1,false),(1,1,false),(2,1,false),(3,1,false)],eqd:=.int .i64 0 (.int .i64 1 (.int .i64 2 (.bool 3 (.nil))))}
def ZxU:TI:={size:=1,bytes:=24,zero:=.slice none 0 0,kind:=.sl,elem:=221,esize:=4,ebytes:=32,ezero:=.agg #[.int .i64 0,.int .i64 0,.int .i64 0,.bool false],eagg:=true,ety:=Zkh}
def ZyM:TI:={size:=2,bytes:=16,zero:=.agg #[.int .i64 0,.int .i64 0],kind:=.st,flds:=[(0,1,false),(1,1,false)],eqd:=.int .i64 0 (.int .i64 1 (.nil))}
def ZsE:TI:={size:=1,bytes:=8,zero:=.map none,kind:=.mp 226 2,ty:=ZaW,ety:=.int .i64}
def Zy4:TI:={size:=3,bytes:=24,zero:=.agg #[.int .i64 0,.int .i64 0,.int .i64 0],kind:=.st,flds:=[(0,1,false),(1,1,false),(2,1,false)],eqd:=.int .i64 0 (.int .i64 1 (.int .i64 2 (.nil)))}
def ZxN:TI:={size:=4,bytes:=32,zero:=.agg #[.int .i64 0,.int .i64 0,.int .i64 0,.bool false],kind:=.st,flds:=[(0,1,false),(1,1,false),(2,1,false),(3,1,false)],eqd:=.int .i64 0 (.int .i64 1 (.int .i64 2 (.bool 3 (.nil))))}
def Zyd:TI:={size:=3,bytes:=32,zero:=.agg #[.string ByteArray.empty,.int .i64 0,.int .i64 0],kind:=.st,flds:=[(0,1,false),(1,1,false),(2,1,false)],eqd:=.str 0 (.int .i64 1 (.int .i64 2 (.nil)))}
def Zyx:TI:={size:=1,bytes:=24,zero:=.slice none 0 0,kind:=.sl,elem:=257,esize:=4,ebytes:=32,ezero:=.agg #[.int .i64 0,.int .i64 0,.int .i64 0,.int .i64 0],eagg:=true,ety:=Zpw}
def ZyW:TI:={size:=1,bytes:=24,zero:=.slice none 0 0,kind:=.sl,elem:=79,esize:=1,ebytes:=24,ezero:=.slice none 0 0,eagg:=false,ety:=.sl (.int .i64)}
def Zze:TI:={size:=10,bytes:=240,zero:=.agg #[.slice none 0 0,.slice none 0 0,.slice none 0 0,.slice none 0 0,.slice none 0 0,.slice none 0 0,.slice none 0 0,.slice none 0 0,.slice none 0 0,.slice none 0 0],kind:=.st,flds:=[(0,5,true),(5,1,false),(6,1,false),(7,1,false),(8,1,false),(9,1,false)]}
def Zyz:TI:={size:=4,bytes:=32,zero:=.agg #[.int .i64 0,.int .i64 0,.int .i64 0,.int .i64 0],kind:=.st,flds:=[(0,1,false),(1,1,false),(2,1,false),(3,1,false)],eqd:=.int .i64 0 (.int .i64 1 (.int .i64 2 (.int .i64 3 (.nil))))}
def Zy0:TI:={size:=1,bytes:=24,zero:=.slice none 0 0,kind:=.sl,elem:=362,esize:=4,ebytes:=40,ezero:=.agg #[.string ByteArray.empty,.int .i64 0,.int .i64 0,.bool false],eagg:=true,ety:=ZgP}
def ZyJ:TI:={size:=1,bytes:=24,zero:=.slice none 0 0,kind:=.sl,elem:=366,esize:=6,ebytes:=80,ezero:=.agg #[.int .i64 0,.int .i64 0,.int .i64 0,.int .i64 0,.slice none 0 0,.slice none 0 0],eagg:=true,ety:=Zib}
def ZxH:TI:={size:=7,bytes:=112,zero:=.agg #[.string ByteArray.empty,.int .i64 0,.slice none 0 0,.slice none 0 0,.slice none 0 0,.int .i64 0,.int .i64 0],kind:=.st,flds:=[(0,1,false),(1,1,false),(2,1,false),(3,1,false),(4,1,false),(5,1,false),(6,1,false)]}
def ZyH:TI:={size:=3,bytes:=48,zero:=.agg #[.string ByteArray.empty,.int .i64 0,.slice none 0 0],kind:=.st,flds:=[(0,1,false),(1,1,false),(2,1,false)]}
def ZxL:TI:={size:=3,bytes:=32,zero:=.agg #[.string ByteArray.empty,.int .i64 0,.int .i64 0],kind:=.st,flds:=[(0,1,false),(1,1,false),(2,1,false)],eqd:=.str 0 (.int .i64 1 (.int .i64 2 (.nil)))}
def Zxe:TI:={size:=1,bytes:=24,zero:=.slice none 0 0,kind:=.sl,elem:=285,esize:=4,ebytes:=40,ezero:=.agg #[.string ByteArray.empty,.int .i64 0,.int .i64 0,.bool false],eagg:=true,ety:=ZgP}
def ZxA:TI:={size:=1,bytes:=24,zero:=.slice none 0 0,kind:=.sl,elem:=289,esize:=6,ebytes:=80,ezero:=.agg #[.int .i64 0,.int .i64 0,.int .i64 0,.int .i64 0,.slice none 0 0,.slice none 0 0],eagg:=true,ety:=Zib}
def Zy2:TI:={size:=7,bytes:=112,zero:=.agg #[.string ByteArray.empty,.int .i64 0,.slice none 0 0,.slice none 0 0,.slice none 0 0,.int .i64 0,.int .i64 0],kind:=.st,flds:=[(0,1,false),(1,1,false),(2,1,false),(3,1,false),(4,1,false),(5,1,false),(6,1,false)]}
def Zyu:TI:={size:=4,bytes:=40,zero:=.agg #[.string ByteArray.empty,.int .i64 0,.int .i64 0,.bool false],kind:=.st,flds:=[(0,1,false),(1,1,false),(2,1,false),(3,1,false)],eqd:=.str 0 (.int .i64 1 (.int .i64 2 (.bool 3 (.nil))))}
def Zy9:TI:={size:=1,bytes:=24,zero:=.slice none 0 0,kind:=.sl,elem:=341,esize:=3,ebytes:=72,ezero:=.agg #[.slice none 0 0,.slice none 0 0,.slice none 0 0],eagg:=true,ety:=XE}
def Zx5:TI:={size:=6,bytes:=80,zero:=.agg #[.int .i64 0,.int .i64 0,.int .i64 0,.int .i64 0,.slice none 0 0,.slice none 0 0],kind:=.st,flds:=[(0,1,false),(1,1,false),(2,1,false),(3,1,false),(4,1,false),(5,1,false)]}
def ZPt:TI:={size:=1,bytes:=24,zero:=.slice none 0 0,kind:=.sl,elem:=5,esize:=1,ebytes:=1,ezero:=.int .u8 0,eagg:=false,ety:=.int .u8}
def ZxO:TI:={size:=1,bytes:=8,zero:=.pointer none,kind:=.ptr}
def ZtB:TI:={size:=1,bytes:=24,zero:=.slice none 0 0,kind:=.sl,elem:=3,esize:=1,ebytes:=8,ezero:=.int .i64 0,eagg:=false,ety:=.int .i64}
def Zzk:TI:={size:=1,bytes:=8,zero:=.pointer none,kind:=.ptr}
def ZxB:TI:={size:=1,bytes:=24,zero:=.slice none 0 0,kind:=.sl,elem:=320,esize:=2,ebytes:=16,ezero:=.agg #[.int .i64 0,.int .i64 0],eagg:=true,ety:=.pair (.int .i64) (.pair (.int .i64) (.unit))}
def ZyR:TI:={size:=2,bytes:=16,zero:=.agg #[.int .i64 0,.int .i64 0],kind:=.arr 2,elem:=2,esize:=1,ebytes:=8,ezero:=.int .i64 0,eagg:=false,ety:=.int .i64}
def Zx6:TI:={size:=1,bytes:=8,zero:=.pointer none,kind:=.ptr}
def Zza:TI:={size:=1,bytes:=8,zero:=.pointer none,kind:=.ptr}
def ZyK:TI:={size:=3,bytes:=72,zero:=.agg #[.slice none 0 0,.slice none 0 0,.slice none 0 0],kind:=.st,flds:=[(0,1,false),(1,1,false),(2,1,false)]}
def Zy1:TI:={size:=3,bytes:=24,zero:=.agg #[.int .i64 0,.int .i64 0,.int .i64 0],kind:=.st,flds:=[(0,1,false),(1,2,true)]}
def Zx0:TI:={size:=4,bytes:=40,zero:=.agg #[.string ByteArray.empty,.int .i64 0,.int .i64 0,.bool false],kind:=.st,flds:=[(0,1,false),(1,1,false),(2,1,false),(3,1,false)],eqd:=.str 0 (.int .i64 1 (.int .i64 2 (.bool 3 (.nil))))}
def Zyb:TI:={size:=1,bytes:=24,zero:=.slice none 0 0,kind:=.sl,elem:=400,esize:=3,ebytes:=72,ezero:=.agg #[.slice none 0 0,.slice none 0 0,.slice none 0 0],eagg:=true,ety:=XE}
def Zyr:TI:={size:=6,bytes:=80,zero:=.agg #[.int .i64 0,.int .i64 0,.int .i64 0,.int .i64 0,.slice none 0 0,.slice none 0 0],kind:=.st,flds:=[(0,1,false),(1,1,false),(2,1,false),(3,1,false),(4,1,false),(5,1,false)]}
def ZyV:TI:={size:=1,bytes:=8,zero:=.int .u64 0,kind:=.int .u64}
def ZyA:TI:={size:=3,bytes:=72,zero:=.agg #[.slice none 0 0,.slice none 0 0,.slice none 0 0],kind:=.st,flds:=[(0,1,false),(1,1,false),(2,1,false)]}
theorem ZDP {P:Program}:Tab.ok [] P:=fun x hx=>by cases hx
theorem Zw {P:Program} {t:Nat} {ti:TI} {r:Tab} (h:Xg P t ti) (hr:Tab.ok r P):Tab.ok ((t,ti)::r) P:=fun x hx=>by
 rcases List.mem_cons.1 hx with rfl | hx
 ·exact h
 ·exact hr x hx
def tab:Tab:=[(2,ti2),(3,ti3),(4,ti4),(5,ti5),(6,ti6),(7,ti7),(8,ti8),(9,ti9),(10,ZCe),(22,ZB8),(24,ZCB),(25,ZB0),(26,ZAM),(27,ZCv),(29,ZBU),(30,ZCt),(32,ZBM),(33,ZCh),(34,ZCj),(35,ZCn),(36,ZCs),(38,ZCq),(39,ZCa),(41,ZB7),(44,ZCo),(46,ZB5),(47,ZBJ),(48,ZAK),(50,ZCy),(51,ZB2),(53,ZCd),(54,ZBx),(55,ZAT),(56,ZB4),(57,ZA6),(59,ZBW),(60,ZBL),(62,ZCk),(79,Zvn),(81,ZBZ),(83,ZCg),(86,ZBI),(88,ZBP),(150,Zx9),(151,ZyD),(155,ZxZ),(157,ZxP),(167,ZyG),(169,Zyl),(172,Zzd),(185,ZxV),(187,ZyS),(189,ZyT),(191,ZxT),(193,ZxX),(219,ZxC),(221,Zzb),(222,ZxU),(226,ZyM),(228,ZsE),(240,Zy4),(244,ZxN),(246,Zyd),(249,Zyx),(250,ZyW),(252,Zze),(257,Zyz),(266,Zy0),(267,ZyJ),(269,ZxH),(271,ZyH),(273,ZxL),(274,Zxe),(275,ZxA),(277,Zy2),(285,Zyu),(287,Zy9),(289,Zx5),(299,ZPt),(303,ZxO),(306,ZtB),(307,Zzk),(318,ZxB),(320,ZyR),(333,Zx6),(334,Zza),(341,ZyK),(351,Zy1),(362,Zx0),(364,Zyb),(366,Zyr),(375,ZyV),(400,ZyA)]
theorem Zq:tab.ok Tryz.prog:=by repeat' first | exact ZDP | refine Zw ?_ ?_ | kernel_rfl | constructor
def ZDr:TI:={ZB8 with edp:=some (Zoy)}
def ZD9:TI:={ZB0 with edp:=some (Zb9)}
def ZCY:TI:={ZCt with edp:=some (Zl3)}
def ZDa:TI:={ZCn with edp:=some (ZaM)}
def ZD4:TI:={ZCa with edp:=some (Zo8)}
def ZEc:TI:={ZCo with edp:=some (Zoy)}
def ZDI:TI:={ZBJ with edp:=some (Zb9)}
def ZED:TI:={ZB2 with edp:=some (Zl3)}
def ZEz:TI:={ZB4 with edp:=some (ZaM)}
def ZD5:TI:={ZBL with edp:=some (Zo8)}
def ZBf:TI:={ZyW with edp:=some (.ol 2 (.flat (.int .i64)))}
def ZAQ:TI:={ZyJ with edp:=some (Zxz)}
def ZAZ:TI:={ZxA with edp:=some (Zxz)}
def ZBi:TI:={Zy9 with edp:=some (Zgw)}
def ZBG:TI:={Zyb with edp:=some (Zgw)}
def ZCW:TI:={ZB8 with cut:=true,edp:=some (Zoy)}
def ZDV:TI:={ZB0 with cut:=true,edp:=some (Zb9)}
def ZEM:TI:={ZAM with cut:=true}
def ZEy:TI:={ZCv with cut:=true}
def ZDU:TI:={ZCt with cut:=true,edp:=some (Zl3)}
def ZEX:TI:={ZCh with cut:=true}
def ZCZ:TI:={ZCj with cut:=true}
def ZD6:TI:={ZCn with cut:=true,edp:=some (ZaM)}
def ZEv:TI:={ZCs with cut:=true}
def ZDc:TI:={ZCa with cut:=true,edp:=some (Zo8)}
def ZE5:TI:={ZCo with cut:=true,edp:=some (Zoy)}
def ZDS:TI:={ZBJ with cut:=true,edp:=some (Zb9)}
def ZCN:TI:={ZAK with cut:=true}
def ZD8:TI:={ZB2 with cut:=true,edp:=some (Zl3)}
def ZDe:TI:={ZBx with cut:=true}
def ZDK:TI:={ZAT with cut:=true}
def ZFe:TI:={ZB4 with cut:=true,edp:=some (ZaM)}
def ZE7:TI:={ZA6 with cut:=true}
def ZD1:TI:={ZBL with cut:=true,edp:=some (Zo8)}
def ZA7:TI:={ZyD with cut:=true}
def ZBw:TI:={ZxU with cut:=true}
def ZBu:TI:={Zyx with cut:=true}
def ZA1:TI:={ZyW with cut:=true,edp:=some (.ol 2 (.flat (.int .i64)))}
def ZAN:TI:={Zy0 with cut:=true}
def ZBa:TI:={ZyJ with cut:=true,edp:=some (Zxz)}
def ZBo:TI:={Zxe with cut:=true}
def ZAU:TI:={ZxA with cut:=true,edp:=some (Zxz)}
def ZBB:TI:={Zy9 with cut:=true,edp:=some (Zgw)}
def ZA3:TI:={ZxB with cut:=true}
def ZBt:TI:={Zyb with cut:=true,edp:=some (Zgw)}
def ZGr:Tab:=[(2,ti2),(3,ti3),(4,ti4),(5,ti5),(6,ti6),(7,ti7),(8,ti8),(9,ti9),(10,ZCe),(22,ZDr),(24,ZCB),(25,ZD9),(26,ZAM),(27,ZCv),(29,ZBU),(30,ZCY),(32,ZBM),(33,ZCh),(34,ZCj),(35,ZDa),(36,ZCs),(38,ZCq),(39,ZD4),(41,ZB7),(44,ZEc),(46,ZB5),(47,ZDI),(48,ZAK),(50,ZCy),(51,ZED),(53,ZCd),(54,ZBx),(55,ZAT),(56,ZEz),(57,ZA6),(59,ZBW),(60,ZD5),(62,ZCk),(79,Zvn),(81,ZBZ),(83,ZCg),(86,ZBI),(88,ZBP),(150,Zx9),(151,ZyD),(155,ZxZ),(157,ZxP),(167,ZyG),(169,Zyl),(172,Zzd),(185,ZxV),(187,ZyS),(189,ZyT),(191,ZxT),(193,ZxX),(219,ZxC),(221,Zzb),(222,ZxU),(226,ZyM),(228,ZsE),(240,Zy4),(244,ZxN),(246,Zyd),(249,Zyx),(250,ZBf),(252,Zze),(257,Zyz),(266,Zy0),(267,ZAQ),(269,ZxH),(271,ZyH),(273,ZxL),(274,Zxe),(275,ZAZ),(277,Zy2),(285,Zyu),(287,ZBi),(289,Zx5),(299,ZPt),(303,ZxO),(306,ZtB),(307,Zzk),(318,ZxB),(320,ZyR),(333,Zx6),(334,Zza),(341,ZyK),(351,Zy1),(362,Zx0),(364,ZBG),(366,Zyr),(375,ZyV),(400,ZyA)]
theorem Xa:ZGr.ok Tryz.prog:=by repeat' first | exact ZDP | refine Zw ?_ ?_ | kernel_rfl | constructor
def ZHY:Tab:=[(2,ti2),(3,ti3),(4,ti4),(5,ti5),(6,ti6),(7,ti7),(8,ti8),(9,ti9),(10,ZCe),(22,ZCW),(24,ZCB),(25,ZDV),(26,ZEM),(27,ZEy),(29,ZBU),(30,ZDU),(32,ZBM),(33,ZEX),(34,ZCZ),(35,ZD6),(36,ZEv),(38,ZCq),(39,ZDc),(41,ZB7),(44,ZE5),(46,ZB5),(47,ZDS),(48,ZCN),(50,ZCy),(51,ZD8),(53,ZCd),(54,ZDe),(55,ZDK),(56,ZFe),(57,ZE7),(59,ZBW),(60,ZD1),(62,ZCk),(79,Zvn),(81,ZBZ),(83,ZCg),(86,ZBI),(88,ZBP),(150,Zx9),(151,ZA7),(155,ZxZ),(157,ZxP),(167,ZyG),(169,Zyl),(172,Zzd),(185,ZxV),(187,ZyS),(189,ZyT),(191,ZxT),(193,ZxX),(219,ZxC),(221,Zzb),(222,ZBw),(226,ZyM),(228,ZsE),(240,Zy4),(244,ZxN),(246,Zyd),(249,ZBu),(250,ZA1),(252,Zze),(257,Zyz),(266,ZAN),(267,ZBa),(269,ZxH),(271,ZyH),(273,ZxL),(274,ZBo),(275,ZAU),(277,Zy2),(285,Zyu),(287,ZBB),(289,Zx5),(299,ZPt),(303,ZxO),(306,ZtB),(307,Zzk),(318,ZA3),(320,ZyR),(333,Zx6),(334,Zza),(341,ZyK),(351,Zy1),(362,Zx0),(364,ZBt),(366,Zyr),(375,ZyV),(400,ZyA)]
theorem Zxn:ZHY.ok Tryz.prog:=by repeat' first | exact ZDP | refine Zw ?_ ?_ | kernel_rfl | constructor
end Go.Proofs.YthkhedimjmkifaaGreatDoor
