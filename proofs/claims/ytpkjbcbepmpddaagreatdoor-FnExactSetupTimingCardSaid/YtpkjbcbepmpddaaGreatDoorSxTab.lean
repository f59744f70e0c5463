/-
  The table of types of this translation, as the executor wants it; each row held against the program. Printed by program (gentab.py).
-/
import Derived.Test.YtpkjbcbepmpddaaGreatDoorSxTy
import Derived.Test.YtpkjbcbepmpddaaGreatDoorProg
import Derived.KernelRfl
namespace Go.Proofs.YtpkjbcbepmpddaaGreatDoor
open Go Go.Sx
set_option maxRecDepth 100000
def ti2:TI:={size:=1,bytes:=8,zero:=.int .i64 0,kind:=.int .i64}
def ti3:TI:={size:=1,bytes:=8,zero:=.int .i64 0,kind:=.int .i64}
def ti4:TI:={size:=1,bytes:=1,zero:=.bool false,kind:=.bool}
def ti5:TI:={size:=1,bytes:=1,zero:=.int .u8 0,kind:=.int .u8}
def ti6:TI:={size:=1,bytes:=1,zero:=.int .u8 0,kind:=.int .u8}
def ti7:TI:={size:=4,bytes:=24,zero:=.agg #[.int .i64 0,.int .i64 0,.bool false,.int .u8 0],kind:=.st,flds:=[(0,1,false),(1,1,false),(2,1,false),(3,1,false)]}
def ti8:TI:={size:=4,bytes:=24,zero:=.agg #[.int .i64 0,.int .i64 0,.bool false,.int .u8 0],kind:=.st,flds:=[(0,1,false),(1,1,false),(2,1,false),(3,1,false)]}
def ti9:TI:={size:=1,bytes:=16,zero:=.string ByteArray.empty,kind:=.str}
def ZKC:TI:={size:=1,bytes:=16,zero:=.string ByteArray.empty,kind:=.str}
def ZKD:TI:={size:=1,bytes:=24,zero:=.slice none 0 0,kind:=.sl,elem:=206,esize:=7,ebytes:=112,ezero:=.agg #[.string ByteArray.empty,.int .i64 0,.slice none 0 0,.slice none 0 0,.slice none 0 0,.int .i64 0,.int .i64 0],eagg:=true,ety:=V8}
def ZKE:TI:={size:=1,bytes:=24,zero:=.agg #[.slice none 0 0],kind:=.st,flds:=[(0,1,false)]}
def ZKF:TI:={size:=1,bytes:=24,zero:=.slice none 0 0,kind:=.sl,elem:=209,esize:=3,ebytes:=48,ezero:=.agg #[.string ByteArray.empty,.int .i64 0,.slice none 0 0],eagg:=true,ety:=Yl}
def ZHK:TI:={size:=1,bytes:=24,zero:=.slice none 0 0,kind:=.sl,elem:=9,esize:=1,ebytes:=16,ezero:=.string ByteArray.empty,eagg:=false,ety:=.str}
def ZKG:TI:={size:=1,bytes:=24,zero:=.slice none 0 0,kind:=.sl,elem:=212,esize:=3,ebytes:=32,ezero:=.agg #[.string ByteArray.empty,.int .i64 0,.int .i64 0],eagg:=true,ety:=Za3}
def ZKH:TI:={size:=3,bytes:=72,zero:=.agg #[.slice none 0 0,.slice none 0 0,.slice none 0 0],kind:=.st,flds:=[(0,1,false),(1,1,false),(2,1,false)]}
def ZKI:TI:={size:=1,bytes:=24,zero:=.slice none 0 0,kind:=.sl,elem:=125,esize:=4,ebytes:=96,ezero:=.agg #[.slice none 0 0,.slice none 0 0,.slice none 0 0,.slice none 0 0],eagg:=true,ety:=ZaB}
def ZKJ:TI:={size:=5,bytes:=120,zero:=.agg #[.slice none 0 0,.slice none 0 0,.slice none 0 0,.slice none 0 0,.slice none 0 0],kind:=.st,flds:=[(0,1,true),(1,3,true),(4,1,false)]}
def ZKK:TI:={size:=1,bytes:=24,zero:=.slice none 0 0,kind:=.sl,elem:=128,esize:=11,ebytes:=96,ezero:=.agg #[.string ByteArray.empty,.int .i64 0,.int .i64 0,.int .i64 0,.int .i64 0,.int .i64 0,.int .i64 0,.bool false,.int .i64 0,.int .i64 0,.int .i64 0],eagg:=true,ety:=Xh}
def ZKL:TI:={size:=1,bytes:=24,zero:=.slice none 0 0,kind:=.sl,elem:=176,esize:=6,ebytes:=48,ezero:=.agg #[.int .i64 0,.int .i64 0,.int .i64 0,.int .i64 0,.int .i64 0,.int .i64 0],eagg:=true,ety:=Z5}
def ZKM:TI:={size:=1,bytes:=24,zero:=.slice none 0 0,kind:=.sl,elem:=131,esize:=5,ebytes:=88,ezero:=.agg #[.int .i64 0,.int .i64 0,.slice none 0 0,.slice none 0 0,.slice none 0 0],eagg:=true,ety:=ZO}
def ZKN:TI:={size:=1,bytes:=24,zero:=.slice none 0 0,kind:=.sl,elem:=133,esize:=5,ebytes:=48,ezero:=.agg #[.string ByteArray.empty,.int .i64 0,.int .i64 0,.int .i64 0,.int .i64 0],eagg:=true,ety:=Yd}
def ZKO:TI:={size:=5,bytes:=120,zero:=.agg #[.slice none 0 0,.slice none 0 0,.slice none 0 0,.slice none 0 0,.slice none 0 0],kind:=.st,flds:=[(0,1,false),(1,1,false),(2,1,false),(3,1,false),(4,1,false)]}
def Zw8:TI:={size:=1,bytes:=24,zero:=.slice none 0 0,kind:=.sl,elem:=4,esize:=1,ebytes:=1,ezero:=.bool false,eagg:=false,ety:=.bool}
def ZKP:TI:={size:=1,bytes:=24,zero:=.slice none 0 0,kind:=.sl,elem:=160,esize:=2,ebytes:=16,ezero:=.agg #[.int .i64 0,.int .i64 0],eagg:=true,ety:=Xg}
def ZKQ:TI:={size:=3,bytes:=72,zero:=.agg #[.slice none 0 0,.slice none 0 0,.slice none 0 0],kind:=.st,flds:=[(0,1,false),(1,1,false),(2,1,false)]}
def ZKR:TI:={size:=1,bytes:=24,zero:=.slice none 0 0,kind:=.sl,elem:=230,esize:=7,ebytes:=112,ezero:=.agg #[.string ByteArray.empty,.int .i64 0,.slice none 0 0,.slice none 0 0,.slice none 0 0,.int .i64 0,.int .i64 0],eagg:=true,ety:=V8}
def ZKS:TI:={size:=1,bytes:=24,zero:=.agg #[.slice none 0 0],kind:=.st,flds:=[(0,1,false)]}
def ZKT:TI:={size:=1,bytes:=24,zero:=.slice none 0 0,kind:=.sl,elem:=218,esize:=3,ebytes:=48,ezero:=.agg #[.string ByteArray.empty,.int .i64 0,.slice none 0 0],eagg:=true,ety:=Yl}
def ZHL:TI:={size:=1,bytes:=24,zero:=.slice none 0 0,kind:=.sl,elem:=221,esize:=3,ebytes:=32,ezero:=.agg #[.string ByteArray.empty,.int .i64 0,.int .i64 0],eagg:=true,ety:=Za3}
def ZKU:TI:={size:=3,bytes:=72,zero:=.agg #[.slice none 0 0,.slice none 0 0,.slice none 0 0],kind:=.st,flds:=[(0,1,false),(1,1,false),(2,1,false)]}
def ZKV:TI:={size:=1,bytes:=24,zero:=.slice none 0 0,kind:=.sl,elem:=170,esize:=4,ebytes:=96,ezero:=.agg #[.slice none 0 0,.slice none 0 0,.slice none 0 0,.slice none 0 0],eagg:=true,ety:=ZaB}
def ZKW:TI:={size:=5,bytes:=120,zero:=.agg #[.slice none 0 0,.slice none 0 0,.slice none 0 0,.slice none 0 0,.slice none 0 0],kind:=.st,flds:=[(0,1,true),(1,3,true),(4,1,false)]}
def ZHM:TI:={size:=1,bytes:=24,zero:=.slice none 0 0,kind:=.sl,elem:=137,esize:=11,ebytes:=96,ezero:=.agg #[.string ByteArray.empty,.int .i64 0,.int .i64 0,.int .i64 0,.int .i64 0,.int .i64 0,.int .i64 0,.bool false,.int .i64 0,.int .i64 0,.int .i64 0],eagg:=true,ety:=Xh}
def ZHN:TI:={size:=1,bytes:=24,zero:=.slice none 0 0,kind:=.sl,elem:=165,esize:=6,ebytes:=48,ezero:=.agg #[.int .i64 0,.int .i64 0,.int .i64 0,.int .i64 0,.int .i64 0,.int .i64 0],eagg:=true,ety:=Z5}
def ZKX:TI:={size:=1,bytes:=24,zero:=.slice none 0 0,kind:=.sl,elem:=141,esize:=5,ebytes:=88,ezero:=.agg #[.int .i64 0,.int .i64 0,.slice none 0 0,.slice none 0 0,.slice none 0 0],eagg:=true,ety:=ZO}
def ZHO:TI:={size:=1,bytes:=24,zero:=.slice none 0 0,kind:=.sl,elem:=83,esize:=5,ebytes:=48,ezero:=.agg #[.string ByteArray.empty,.int .i64 0,.int .i64 0,.int .i64 0,.int .i64 0],eagg:=true,ety:=Yd}
def ZKY:TI:={size:=5,bytes:=120,zero:=.agg #[.slice none 0 0,.slice none 0 0,.slice none 0 0,.slice none 0 0,.slice none 0 0],kind:=.st,flds:=[(0,1,false),(1,1,false),(2,1,false),(3,1,false),(4,1,false)]}
def ZKZ:TI:={size:=5,bytes:=48,zero:=.agg #[.string ByteArray.empty,.int .i64 0,.int .i64 0,.int .i64 0,.int .i64 0],kind:=.st,flds:=[(0,1,false),(1,1,false),(2,1,false),(3,1,false),(4,1,false)],eqd:=.str 0 (.int .i64 1 (.int .i64 2 (.int .i64 3 (.int .i64 4 (.nil)))))}
def ZBD:TI:={size:=1,bytes:=24,zero:=.slice none 0 0,kind:=.sl,elem:=2,esize:=1,ebytes:=8,ezero:=.int .i64 0,eagg:=false,ety:=.int .i64}
def ZK0:TI:={size:=1,bytes:=24,zero:=.slice none 0 0,kind:=.sl,elem:=162,esize:=5,ebytes:=40,ezero:=.agg #[.int .i64 0,.int .i64 0,.int .i64 0,.int .i64 0,.int .i64 0],eagg:=true,ety:=Qn}
def ZK1:TI:={size:=1,bytes:=8,zero:=.pointer none,kind:=.ptr}
def ZK2:TI:={size:=1,bytes:=8,zero:=.pointer none,kind:=.ptr}
def ZEH:TI:={size:=10,bytes:=152,zero:=.agg #[.pointer none,.string ByteArray.empty,.int .i64 0,.int .i64 0,.int .i64 0,.int .i64 0,.slice none 0 0,.slice none 0 0,.slice none 0 0,.slice none 0 0],kind:=.st,flds:=[(0,1,false),(1,5,true),(6,1,false),(7,3,true)]}
def ZEI:TI:={size:=4,bytes:=96,zero:=.agg #[.slice none 0 0,.slice none 0 0,.slice none 0 0,.slice none 0 0],kind:=.st,flds:=[(0,1,false),(1,1,false),(2,1,false),(3,1,false)]}
def ZEJ:TI:={size:=11,bytes:=96,zero:=.agg #[.string ByteArray.empty,.int .i64 0,.int .i64 0,.int .i64 0,.int .i64 0,.int .i64 0,.int .i64 0,.bool false,.int .i64 0,.int .i64 0,.int .i64 0],kind:=.st,flds:=[(0,1,false),(1,1,false),(2,1,false),(3,1,false),(4,1,false),(5,1,false),(6,1,false),(7,1,false),(8,1,false),(9,1,false),(10,1,false)],eqd:=.str 0 (.int .i64 1 (.int .i64 2 (.int .i64 3 (.int .i64 4 (.int .i64 5 (.int .i64 6 (.bool 7 (.int .i64 8 (.int .i64 9 (.int .i64 10 (.nil)))))))))))}
def ZEK:TI:={size:=5,bytes:=88,zero:=.agg #[.int .i64 0,.int .i64 0,.slice none 0 0,.slice none 0 0,.slice none 0 0],kind:=.st,flds:=[(0,1,false),(1,1,false),(2,1,false),(3,1,false),(4,1,false)]}
def ZEL:TI:={size:=5,bytes:=48,zero:=.agg #[.string ByteArray.empty,.int .i64 0,.int .i64 0,.int .i64 0,.int .i64 0],kind:=.st,flds:=[(0,1,false),(1,1,false),(2,1,false),(3,1,false),(4,1,false)],eqd:=.str 0 (.int .i64 1 (.int .i64 2 (.int .i64 3 (.int .i64 4 (.nil)))))}
def ZEM:TI:={size:=11,bytes:=96,zero:=.agg #[.string ByteArray.empty,.int .i64 0,.int .i64 0,.int .i64 0,.int .i64 0,.int .i64 0,.int .i64 0,.bool false,.int .i64 0,.int .i64 0,.int .i64 0],kind:=.st,flds:=[(0,1,false),(1,1,false),(2,1,false),(3,1,false),(4,1,false),(5,1,false),(6,1,false),(7,1,false),(8,1,false),(9,1,false),(10,1,false)],eqd:=.str 0 (.int .i64 1 (.int .i64 2 (.int .i64 3 (.int .i64 4 (.int .i64 5 (.int .i64 6 (.bool 7 (.int .i64 8 (.int .i64 9 (.int .i64 10 (.nil)))))))))))}
def ZEN:TI:={size:=1,bytes:=24,zero:=.slice none 0 0,kind:=.sl,elem:=220,esize:=4,ebytes:=32,ezero:=.agg #[.int .i64 0,.int .i64 0,.int .i64 0,.bool false],eagg:=true,ety:=Zh0}
def ZEO:TI:={size:=5,bytes:=88,zero:=.agg #[.int .i64 0,.int .i64 0,.slice none 0 0,.slice none 0 0,.slice none 0 0],kind:=.st,flds:=[(0,1,false),(1,1,false),(2,1,false),(3,1,false),(4,1,false)]}
def ZEP:TI:={size:=1,bytes:=24,zero:=.slice none 0 0,kind:=.sl,elem:=154,esize:=4,ebytes:=32,ezero:=.agg #[.int .i64 0,.int .i64 0,.int .i64 0,.int .i64 0],eagg:=true,ety:=Za2}
def ZEQ:TI:={size:=1,bytes:=24,zero:=.slice none 0 0,kind:=.sl,elem:=84,esize:=1,ebytes:=24,ezero:=.slice none 0 0,eagg:=false,ety:=.sl (.int .i64)}
def ZER:TI:={size:=4,bytes:=32,zero:=.agg #[.int .i64 0,.int .i64 0,.int .i64 0,.int .i64 0],kind:=.st,flds:=[(0,1,false),(1,1,false),(2,1,false),(3,1,false)],eqd:=.int .i64 0 (.int .i64 1 (.int .i64 2 (.int .i64 3 (.nil))))}
def ZES:TI:={size:=3,bytes:=24,zero:=.agg #[.int .i64 0,.int .i64 0,.int .i64 0],kind:=.st,flds:=[(0,1,false),(1,1,false),(2,1,false)],eqd:=.int .i64 0 (.int .i64 1 (.int .i64 2 (.nil)))}
def ZET:TI:={size:=2,bytes:=16,zero:=.agg #[.int .i64 0,.int .i64 0],kind:=.st,flds:=[(0,1,false),(1,1,false)],eqd:=.int .i64 0 (.int .i64 1 (.nil))}
def ZEU:TI:={size:=5,bytes:=40,zero:=.agg #[.int .i64 0,.int .i64 0,.int .i64 0,.int .i64 0,.int .i64 0],kind:=.st,flds:=[(0,1,false),(1,2,true),(3,2,true)],eqd:=.int .i64 0 (.st 1 2 (.int .i64 0 (.int .i64 1 (.nil))) (.st 3 2 (.int .i64 0 (.int .i64 1 (.nil))) (.nil)))}
def ZEV:TI:={size:=6,bytes:=48,zero:=.agg #[.int .i64 0,.int .i64 0,.int .i64 0,.int .i64 0,.int .i64 0,.int .i64 0],kind:=.st,flds:=[(0,1,false),(1,1,false),(2,2,true),(4,2,true)],eqd:=.int .i64 0 (.int .i64 1 (.st 2 2 (.int .i64 0 (.int .i64 1 (.nil))) (.st 4 2 (.int .i64 0 (.int .i64 1 (.nil))) (.nil))))}
def ZEW:TI:={size:=4,bytes:=96,zero:=.agg #[.slice none 0 0,.slice none 0 0,.slice none 0 0,.slice none 0 0],kind:=.st,flds:=[(0,1,false),(1,1,false),(2,1,false),(3,1,false)]}
def ZEX:TI:={size:=2,bytes:=16,zero:=.agg #[.int .i64 0,.int .i64 0],kind:=.st,flds:=[(0,1,false),(1,1,false)],eqd:=.int .i64 0 (.int .i64 1 (.nil))}
def ZEY:TI:={size:=6,bytes:=48,zero:=.agg #[.int .i64 0,.int .i64 0,.int .i64 0,.int .i64 0,.int .i64 0,.int .i64 0],kind:=.st,flds:=[(0,1,false),(1,1,false),(2,2,true),(4,2,true)],eqd:=.int .i64 0 (.int .i64 1 (.st 2 2 (.int .i64 0 (.int .i64 1 (.nil))) (.st 4 2 (.int .i64 0 (.int .i64 1 (.nil))) (.nil))))}
def ZEZ:TI:={size:=1,bytes:=8,zero:=.pointer none,kind:=.ptr}
def ZE0:TI:={size:=1,bytes:=24,zero:=.slice none 0 0,kind:=.sl,elem:=329,esize:=4,ebytes:=40,ezero:=.agg #[.string ByteArray.empty,.int .i64 0,.int .i64 0,.bool false],eagg:=true,ety:=Zge}
def ZE1:TI:={size:=1,bytes:=24,zero:=.slice none 0 0,kind:=.sl,elem:=333,esize:=6,ebytes:=80,ezero:=.agg #[.int .i64 0,.int .i64 0,.int .i64 0,.int .i64 0,.slice none 0 0,.slice none 0 0],eagg:=true,ety:=ZgE}
def ZE2:TI:={size:=7,bytes:=112,zero:=.agg #[.string ByteArray.empty,.int .i64 0,.slice none 0 0,.slice none 0 0,.slice none 0 0,.int .i64 0,.int .i64 0],kind:=.st,flds:=[(0,1,false),(1,1,false),(2,1,false),(3,1,false),(4,1,false),(5,1,false),(6,1,false)]}
def ZE3:TI:={size:=3,bytes:=48,zero:=.agg #[.string ByteArray.empty,.int .i64 0,.slice none 0 0],kind:=.st,flds:=[(0,1,false),(1,1,false),(2,1,false)]}
def ZE4:TI:={size:=3,bytes:=32,zero:=.agg #[.string ByteArray.empty,.int .i64 0,.int .i64 0],kind:=.st,flds:=[(0,1,false),(1,1,false),(2,1,false)],eqd:=.str 0 (.int .i64 1 (.int .i64 2 (.nil)))}
def ZE5:TI:={size:=3,bytes:=48,zero:=.agg #[.string ByteArray.empty,.int .i64 0,.slice none 0 0],kind:=.st,flds:=[(0,1,false),(1,1,false),(2,1,false)]}
def ZE6:TI:={size:=4,bytes:=32,zero:=.agg #[.int .i64 0,.int .i64 0,.int .i64 0,.bool false],kind:=.st,flds:=[(0,1,false),(1,1,false),(2,1,false),(3,1,false)],eqd:=.int .i64 0 (.int .i64 1 (.int .i64 2 (.bool 3 (.nil))))}
def ZE7:TI:={size:=3,bytes:=32,zero:=.agg #[.string ByteArray.empty,.int .i64 0,.int .i64 0],kind:=.st,flds:=[(0,1,false),(1,1,false),(2,1,false)],eqd:=.str 0 (.int .i64 1 (.int .i64 2 (.nil)))}
def ZCS:TI:={size:=1,bytes:=24,zero:=.slice none 0 0,kind:=.sl,elem:=326,esize:=4,ebytes:=40,ezero:=.agg #[.string ByteArray.empty,.int .i64 0,.int .i64 0,.bool false],eagg:=true,ety:=Zge}
def ZE8:TI:={size:=1,bytes:=24,zero:=.slice none 0 0,kind:=.sl,elem:=233,esize:=6,ebytes:=80,ezero:=.agg #[.int .i64 0,.int .i64 0,.int .i64 0,.int .i64 0,.slice none 0 0,.slice none 0 0],eagg:=true,ety:=ZgE}
def ZE9:TI:={size:=7,bytes:=112,zero:=.agg #[.string ByteArray.empty,.int .i64 0,.slice none 0 0,.slice none 0 0,.slice none 0 0,.int .i64 0,.int .i64 0],kind:=.st,flds:=[(0,1,false),(1,1,false),(2,1,false),(3,1,false),(4,1,false),(5,1,false),(6,1,false)]}
def ZFa:TI:={size:=1,bytes:=24,zero:=.slice none 0 0,kind:=.sl,elem:=373,esize:=3,ebytes:=72,ezero:=.agg #[.slice none 0 0,.slice none 0 0,.slice none 0 0],eagg:=true,ety:=Xw}
def ZFb:TI:={size:=6,bytes:=80,zero:=.agg #[.int .i64 0,.int .i64 0,.int .i64 0,.int .i64 0,.slice none 0 0,.slice none 0 0],kind:=.st,flds:=[(0,1,false),(1,1,false),(2,1,false),(3,1,false),(4,1,false),(5,1,false)]}
def ZFc:TI:={size:=1,bytes:=24,zero:=.slice none 0 0,kind:=.sl,elem:=256,esize:=4,ebytes:=32,ezero:=.agg #[.int .i64 0,.int .i64 0,.int .i64 0,.bool false],eagg:=true,ety:=Zor}
def ZFd:TI:={size:=10,bytes:=240,zero:=.agg #[.slice none 0 0,.slice none 0 0,.slice none 0 0,.slice none 0 0,.slice none 0 0,.slice none 0 0,.slice none 0 0,.slice none 0 0,.slice none 0 0,.slice none 0 0],kind:=.st,flds:=[(0,5,true),(5,1,false),(6,1,false),(7,1,false),(8,1,false),(9,1,false)]}
def ZFe:TI:={size:=4,bytes:=32,zero:=.agg #[.int .i64 0,.int .i64 0,.int .i64 0,.bool false],kind:=.st,flds:=[(0,1,false),(1,1,false),(2,1,false),(3,1,false)],eqd:=.int .i64 0 (.int .i64 1 (.int .i64 2 (.bool 3 (.nil))))}
def ZFf:TI:={size:=2,bytes:=32,zero:=.agg #[.pointer none,.slice none 0 0],kind:=.st,flds:=[(0,1,false),(1,1,false)]}
def ZFg:TI:={size:=2,bytes:=16,zero:=.agg #[.int .i64 0,.int .i64 0],kind:=.arr 2,elem:=2,esize:=1,ebytes:=8,ezero:=.int .i64 0,eagg:=false,ety:=.int .i64}
def ZFh:TI:={size:=3,bytes:=24,zero:=.agg #[.int .i64 0,.int .i64 0,.int .i64 0],kind:=.st,flds:=[(0,1,false),(1,2,true)]}
def Zwb:TI:={size:=1,bytes:=24,zero:=.slice none 0 0,kind:=.sl,elem:=3,esize:=1,ebytes:=8,ezero:=.int .i64 0,eagg:=false,ety:=.int .i64}
def ZFi:TI:={size:=1,bytes:=24,zero:=.slice none 0 0,kind:=.sl,elem:=5,esize:=1,ebytes:=1,ezero:=.int .u8 0,eagg:=false,ety:=.int .u8}
def ZFj:TI:={size:=1,bytes:=24,zero:=.slice none 0 0,kind:=.sl,elem:=269,esize:=2,ebytes:=16,ezero:=.agg #[.int .i64 0,.int .i64 0],eagg:=true,ety:=.pair (.int .i64) (.pair (.int .i64) (.unit))}
def ZFk:TI:={size:=1,bytes:=24,zero:=.slice none 0 0,kind:=.sl,elem:=41,esize:=1,ebytes:=24,ezero:=.slice none 0 0,eagg:=false,ety:=.sl (.bool)}
def ZFl:TI:={size:=1,bytes:=8,zero:=.int .u64 0,kind:=.int .u64}
def ZFm:TI:={size:=1,bytes:=8,zero:=.pointer none,kind:=.ptr}
def ZFn:TI:={size:=4,bytes:=40,zero:=.agg #[.string ByteArray.empty,.int .i64 0,.int .i64 0,.bool false],kind:=.st,flds:=[(0,1,false),(1,1,false),(2,1,false),(3,1,false)],eqd:=.str 0 (.int .i64 1 (.int .i64 2 (.bool 3 (.nil))))}
def ZFo:TI:={size:=4,bytes:=40,zero:=.agg #[.string ByteArray.empty,.int .i64 0,.int .i64 0,.bool false],kind:=.st,flds:=[(0,1,false),(1,1,false),(2,1,false),(3,1,false)],eqd:=.str 0 (.int .i64 1 (.int .i64 2 (.bool 3 (.nil))))}
def ZFp:TI:={size:=1,bytes:=24,zero:=.slice none 0 0,kind:=.sl,elem:=403,esize:=3,ebytes:=72,ezero:=.agg #[.slice none 0 0,.slice none 0 0,.slice none 0 0],eagg:=true,ety:=Xw}
def ZFq:TI:={size:=6,bytes:=80,zero:=.agg #[.int .i64 0,.int .i64 0,.int .i64 0,.int .i64 0,.slice none 0 0,.slice none 0 0],kind:=.st,flds:=[(0,1,false),(1,1,false),(2,1,false),(3,1,false),(4,1,false),(5,1,false)]}
def ZFr:TI:={size:=1,bytes:=8,zero:=.pointer none,kind:=.ptr}
def ZFs:TI:={size:=3,bytes:=72,zero:=.agg #[.slice none 0 0,.slice none 0 0,.slice none 0 0],kind:=.st,flds:=[(0,1,false),(1,1,false),(2,1,false)]}
def ZFt:TI:={size:=3,bytes:=72,zero:=.agg #[.slice none 0 0,.slice none 0 0,.slice none 0 0],kind:=.st,flds:=[(0,1,false),(1,1,false),(2,1,false)]}
def ZFu:TI:={size:=1,bytes:=24,zero:=.slice none 0 0,kind:=.sl,elem:=422,esize:=2,ebytes:=16,ezero:=.agg #[.int .i64 0,.int .i64 0],eagg:=true,ety:=Zxb}
def ZFv:TI:={size:=2,bytes:=16,zero:=.agg #[.int .i64 0,.int .i64 0],kind:=.st,flds:=[(0,1,false),(1,1,false)],eqd:=.int .i64 0 (.int .i64 1 (.nil))}
theorem ZLv {P:Program}:Tab.ok [] P:=λx hx=>by cases hx
theorem ZEG {P:Program} {t:Nat} {ti:TI} {r:Tab} (h:ZdQ P t ti) (hr:Tab.ok r P):Tab.ok ((t,ti)::r) P:=λx hx=>by
 rcases List.mem_cons.1 hx with rfl | hx
 ·exact h
 ·exact hr x hx
def tab:Tab:=[(2,ti2),(3,ti3),(4,ti4),(5,ti5),(6,ti6),(7,ti7),(8,ti8),(9,ti9),(10,ZKC),(22,ZKD),(24,ZKE),(25,ZKF),(26,ZHK),(27,ZKG),(29,ZKH),(30,ZKI),(32,ZKJ),(33,ZKK),(34,ZKL),(35,ZKM),(36,ZKN),(38,ZKO),(41,Zw8),(42,ZKP),(44,ZKQ),(47,ZKR),(49,ZKS),(50,ZKT),(51,ZHL),(53,ZKU),(54,ZKV),(56,ZKW),(58,ZHM),(59,ZHN),(60,ZKX),(61,ZHO),(63,ZKY),(83,ZKZ),(84,ZBD),(86,ZK0),(95,ZK1),(98,ZK2),(100,ZEH),(125,ZEI),(128,ZEJ),(131,ZEK),(133,ZEL),(137,ZEM),(138,ZEN),(141,ZEO),(145,ZEP),(151,ZEQ),(154,ZER),(157,ZES),(160,ZET),(162,ZEU),(165,ZEV),(170,ZEW),(174,ZEX),(176,ZEY),(180,ZEZ),(203,ZE0),(204,ZE1),(206,ZE2),(209,ZE3),(212,ZE4),(218,ZE5),(220,ZE6),(221,ZE7),(227,ZCS),(228,ZE8),(230,ZE9),(231,ZFa),(233,ZFb),(249,ZFc),(252,ZFd),(256,ZFe),(259,ZFf),(269,ZFg),(271,ZFh),(276,Zwb),(287,ZFi),(305,ZFj),(308,ZFk),(314,ZFl),(320,ZFm),(326,ZFn),(329,ZFo),(331,ZFp),(333,ZFq),(366,ZFr),(373,ZFs),(403,ZFt),(418,ZFu),(422,ZFv)]
theorem Zq:tab.ok Tryz.prog:=by repeat' first | exact ZLv | refine ZEG ?_ ?_ | kernel_rfl | constructor
def ZLn:TI:={ZKD with edp:=some (ZtX)}
def ZLo:TI:={ZKF with edp:=some (ZeH)}
def ZLp:TI:={ZKI with edp:=some (ZtZ)}
def ZLq:TI:={ZKM with edp:=some (ZcL)}
def ZLr:TI:={ZKR with edp:=some (ZtX)}
def ZLs:TI:={ZKT with edp:=some (ZeH)}
def ZLt:TI:={ZKV with edp:=some (ZtZ)}
def ZLu:TI:={ZKX with edp:=some (ZcL)}
def ZGY:TI:={ZEQ with edp:=some (.ol 2 (.flat (.int .i64)))}
def ZGZ:TI:={ZE1 with edp:=some (ZBB)}
def ZG0:TI:={ZE8 with edp:=some (ZBB)}
def ZG1:TI:={ZFa with edp:=some (Zka)}
def ZG2:TI:={ZFk with edp:=some (.ol 4 (.flat (.bool)))}
def ZG3:TI:={ZFp with edp:=some (Zka)}
def ZK3:TI:={ZKD with cut:=true,edp:=some (ZtX)}
def ZK4:TI:={ZKF with cut:=true,edp:=some (ZeH)}
def ZK5:TI:={ZHK with cut:=true}
def ZK6:TI:={ZKG with cut:=true}
def ZK7:TI:={ZKI with cut:=true,edp:=some (ZtZ)}
def ZK8:TI:={ZKK with cut:=true}
def ZK9:TI:={ZKL with cut:=true}
def ZLa:TI:={ZKM with cut:=true,edp:=some (ZcL)}
def ZLb:TI:={ZKN with cut:=true}
def ZGW:TI:={Zw8 with cut:=true}
def ZLc:TI:={ZKP with cut:=true}
def ZLd:TI:={ZKR with cut:=true,edp:=some (ZtX)}
def ZLe:TI:={ZKT with cut:=true,edp:=some (ZeH)}
def ZLf:TI:={ZHL with cut:=true}
def ZLg:TI:={ZKV with cut:=true,edp:=some (ZtZ)}
def ZLh:TI:={ZHM with cut:=true}
def ZLi:TI:={ZHN with cut:=true}
def ZLj:TI:={ZKX with cut:=true,edp:=some (ZcL)}
def ZLk:TI:={ZHO with cut:=true}
def ZLl:TI:={ZBD with cut:=true}
def ZLm:TI:={ZK0 with cut:=true}
def ZGI:TI:={ZEN with cut:=true}
def ZGJ:TI:={ZEP with cut:=true}
def ZGK:TI:={ZEQ with cut:=true,edp:=some (.ol 2 (.flat (.int .i64)))}
def ZGL:TI:={ZE0 with cut:=true}
def ZGM:TI:={ZE1 with cut:=true,edp:=some (ZBB)}
def ZGN:TI:={ZCS with cut:=true}
def ZGO:TI:={ZE8 with cut:=true,edp:=some (ZBB)}
def ZGP:TI:={ZFa with cut:=true,edp:=some (Zka)}
def ZGQ:TI:={ZFc with cut:=true}
def ZGR:TI:={Zwb with cut:=true}
def ZGS:TI:={ZFi with cut:=true}
def ZGT:TI:={ZFj with cut:=true}
def ZGU:TI:={ZFk with cut:=true,edp:=some (.ol 4 (.flat (.bool)))}
def ZGV:TI:={ZFp with cut:=true,edp:=some (Zka)}
def ZGX:TI:={ZFu with cut:=true}
def ZO2:Tab:=[(2,ti2),(3,ti3),(4,ti4),(5,ti5),(6,ti6),(7,ti7),(8,ti8),(9,ti9),(10,ZKC),(22,ZLn),(24,ZKE),(25,ZLo),(26,ZHK),(27,ZKG),(29,ZKH),(30,ZLp),(32,ZKJ),(33,ZKK),(34,ZKL),(35,ZLq),(36,ZKN),(38,ZKO),(41,Zw8),(42,ZKP),(44,ZKQ),(47,ZLr),(49,ZKS),(50,ZLs),(51,ZHL),(53,ZKU),(54,ZLt),(56,ZKW),(58,ZHM),(59,ZHN),(60,ZLu),(61,ZHO),(63,ZKY),(83,ZKZ),(84,ZBD),(86,ZK0),(95,ZK1),(98,ZK2),(100,ZEH),(125,ZEI),(128,ZEJ),(131,ZEK),(133,ZEL),(137,ZEM),(138,ZEN),(141,ZEO),(145,ZEP),(151,ZGY),(154,ZER),(157,ZES),(160,ZET),(162,ZEU),(165,ZEV),(170,ZEW),(174,ZEX),(176,ZEY),(180,ZEZ),(203,ZE0),(204,ZGZ),(206,ZE2),(209,ZE3),(212,ZE4),(218,ZE5),(220,ZE6),(221,ZE7),(227,ZCS),(228,ZG0),(230,ZE9),(231,ZG1),(233,ZFb),(249,ZFc),(252,ZFd),(256,ZFe),(259,ZFf),(269,ZFg),(271,ZFh),(276,Zwb),(287,ZFi),(305,ZFj),(308,ZG2),(314,ZFl),(320,ZFm),(326,ZFn),(329,ZFo),(331,ZG3),(333,ZFq),(366,ZFr),(373,ZFs),(403,ZFt),(418,ZFu),(422,ZFv)]
theorem Xz:ZO2.ok Tryz.prog:=by repeat' first | exact ZLv | refine ZEG ?_ ?_ | kernel_rfl | constructor
def ZO3:Tab:=[(2,ti2),(3,ti3),(4,ti4),(5,ti5),(6,ti6),(7,ti7),(8,ti8),(9,ti9),(10,ZKC),(22,ZK3),(24,ZKE),(25,ZK4),(26,ZK5),(27,ZK6),(29,ZKH),(30,ZK7),(32,ZKJ),(33,ZK8),(34,ZK9),(35,ZLa),(36,ZLb),(38,ZKO),(41,ZGW),(42,ZLc),(44,ZKQ),(47,ZLd),(49,ZKS),(50,ZLe),(51,ZLf),(53,ZKU),(54,ZLg),(56,ZKW),(58,ZLh),(59,ZLi),(60,ZLj),(61,ZLk),(63,ZKY),(83,ZKZ),(84,ZLl),(86,ZLm),(95,ZK1),(98,ZK2),(100,ZEH),(125,ZEI),(128,ZEJ),(131,ZEK),(133,ZEL),(137,ZEM),(138,ZGI),(141,ZEO),(145,ZGJ),(151,ZGK),(154,ZER),(157,ZES),(160,ZET),(162,ZEU),(165,ZEV),(170,ZEW),(174,ZEX),(176,ZEY),(180,ZEZ),(203,ZGL),(204,ZGM),(206,ZE2),(209,ZE3),(212,ZE4),(218,ZE5),(220,ZE6),(221,ZE7),(227,ZGN),(228,ZGO),(230,ZE9),(231,ZGP),(233,ZFb),(249,ZGQ),(252,ZFd),(256,ZFe),(259,ZFf),(269,ZFg),(271,ZFh),(276,ZGR),(287,ZGS),(305,ZGT),(308,ZGU),(314,ZFl),(320,ZFm),(326,ZFn),(329,ZFo),(331,ZGV),(333,ZFq),(366,ZFr),(373,ZFs),(403,ZFt),(418,ZGX),(422,ZFv)]
theorem ZEF:ZO3.ok Tryz.prog:=by repeat' first | exact ZLv | refine ZEG ?_ ?_ | kernel_rfl | constructor
end Go.Proofs.YtpkjbcbepmpddaaGreatDoor
