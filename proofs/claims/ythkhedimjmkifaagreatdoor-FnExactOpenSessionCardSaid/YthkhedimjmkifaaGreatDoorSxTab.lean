/-
  The table of types of this translation, as the executor wants it; each row held against the program. Printed by program (gentab.py).
-/
import Derived.Test.YthkhedimjmkifaaGreatDoorSxTy
import Derived.Test.YthkhedimjmkifaaGreatDoorProg
import Derived.KernelRfl
namespace Go.Proofs.YthkhedimjmkifaaGreatDoor
open Go Go.Sx
set_option maxRecDepth 100000
def ti2:TI:={size:=1,bytes:=8,zero:=.int .i64 0,kind:=.int .i64}
theorem ZwQ:Xg Tryz.prog 2 ti2:=⟨by kernel_rfl,by kernel_rfl,by kernel_rfl,by kernel_rfl,by kernel_rfl⟩
def ti3:TI:={size:=1,bytes:=8,zero:=.int .i64 0,kind:=.int .i64}
theorem ZvW:Xg Tryz.prog 3 ti3:=⟨by kernel_rfl,by kernel_rfl,by kernel_rfl,by kernel_rfl,by kernel_rfl⟩
def ti4:TI:={size:=1,bytes:=1,zero:=.bool false,kind:=.bool}
theorem Zxc:Xg Tryz.prog 4 ti4:=⟨by kernel_rfl,by kernel_rfl,by kernel_rfl,by kernel_rfl,by kernel_rfl⟩
def ti5:TI:={size:=1,bytes:=1,zero:=.int .u8 0,kind:=.int .u8}
theorem Zw5:Xg Tryz.prog 5 ti5:=⟨by kernel_rfl,by kernel_rfl,by kernel_rfl,by kernel_rfl,by kernel_rfl⟩
def ti6:TI:={size:=1,bytes:=1,zero:=.int .u8 0,kind:=.int .u8}
theorem ZwA:Xg Tryz.prog 6 ti6:=⟨by kernel_rfl,by kernel_rfl,by kernel_rfl,by kernel_rfl,by kernel_rfl⟩
def ti7:TI:={size:=4,bytes:=24,zero:=.agg #[.int .i64 0,.int .i64 0,.bool false,.int .u8 0],kind:=.st,flds:=[(0,1,false),(1,1,false),(2,1,false),(3,1,false)]}
theorem Zxj:Xg Tryz.prog 7 ti7:=⟨by kernel_rfl,by kernel_rfl,by kernel_rfl,by kernel_rfl,by kernel_rfl⟩
def ti8:TI:={size:=4,bytes:=24,zero:=.agg #[.int .i64 0,.int .i64 0,.bool false,.int .u8 0],kind:=.st,flds:=[(0,1,false),(1,1,false),(2,1,false),(3,1,false)]}
theorem Zxk:Xg Tryz.prog 8 ti8:=⟨by kernel_rfl,by kernel_rfl,by kernel_rfl,by kernel_rfl,by kernel_rfl⟩
def ti9:TI:={size:=1,bytes:=16,zero:=.string ByteArray.empty,kind:=.str}
theorem Zwx:Xg Tryz.prog 9 ti9:=⟨by kernel_rfl,by kernel_rfl,by kernel_rfl,by kernel_rfl,by kernel_rfl⟩
def ZCe:TI:={size:=1,bytes:=16,zero:=.string ByteArray.empty,kind:=.str}
theorem ZtE:Xg Tryz.prog 10 ZCe:=⟨by kernel_rfl,by kernel_rfl,by kernel_rfl,by kernel_rfl,by kernel_rfl⟩
def ZB8:TI:={size:=1,bytes:=24,zero:=.slice none 0 0,kind:=.sl,elem:=269,esize:=7,ebytes:=112,ezero:=.agg #[.string ByteArray.empty,.int .i64 0,.slice none 0 0,.slice none 0 0,.slice none 0 0,.int .i64 0,.int .i64 0],eagg:=true,ety:=QL}
theorem ZfQ:Xg Tryz.prog 22 ZB8:=⟨by kernel_rfl,by kernel_rfl,by kernel_rfl,by kernel_rfl,by kernel_rfl⟩
def ZCB:TI:={size:=1,bytes:=24,zero:=.agg #[.slice none 0 0],kind:=.st,flds:=[(0,1,false)]}
theorem ZtP:Xg Tryz.prog 24 ZCB:=⟨by kernel_rfl,by kernel_rfl,by kernel_rfl,by kernel_rfl,by kernel_rfl⟩
def ZB0:TI:={size:=1,bytes:=24,zero:=.slice none 0 0,kind:=.sl,elem:=271,esize:=3,ebytes:=48,ezero:=.agg #[.string ByteArray.empty,.int .i64 0,.slice none 0 0],eagg:=true,ety:=Yq}
theorem Zgl:Xg Tryz.prog 25 ZB0:=⟨by kernel_rfl,by kernel_rfl,by kernel_rfl,by kernel_rfl,by kernel_rfl⟩
def ZAM:TI:={size:=1,bytes:=24,zero:=.slice none 0 0,kind:=.sl,elem:=9,esize:=1,ebytes:=16,ezero:=.string ByteArray.empty,eagg:=false,ety:=.str}
theorem ZkX:Xg Tryz.prog 26 ZAM:=⟨by kernel_rfl,by kernel_rfl,by kernel_rfl,by kernel_rfl,by kernel_rfl⟩
def ZCv:TI:={size:=1,bytes:=24,zero:=.slice none 0 0,kind:=.sl,elem:=273,esize:=3,ebytes:=32,ezero:=.agg #[.string ByteArray.empty,.int .i64 0,.int .i64 0],eagg:=true,ety:=Zcd}
theorem ZkJ:Xg Tryz.prog 27 ZCv:=⟨by kernel_rfl,by kernel_rfl,by kernel_rfl,by kernel_rfl,by kernel_rfl⟩
def ZBU:TI:={size:=3,bytes:=72,zero:=.agg #[.slice none 0 0,.slice none 0 0,.slice none 0 0],kind:=.st,flds:=[(0,1,false),(1,1,false),(2,1,false)]}
theorem Zue:Xg Tryz.prog 29 ZBU:=⟨by kernel_rfl,by kernel_rfl,by kernel_rfl,by kernel_rfl,by kernel_rfl⟩
def ZCt:TI:={size:=1,bytes:=24,zero:=.slice none 0 0,kind:=.sl,elem:=81,esize:=4,ebytes:=96,ezero:=.agg #[.slice none 0 0,.slice none 0 0,.slice none 0 0,.slice none 0 0],eagg:=true,ety:=Vv}
theorem ZfJ:Xg Tryz.prog 30 ZCt:=⟨by kernel_rfl,by kernel_rfl,by kernel_rfl,by kernel_rfl,by kernel_rfl⟩
def ZBM:TI:={size:=5,bytes:=120,zero:=.agg #[.slice none 0 0,.slice none 0 0,.slice none 0 0,.slice none 0 0,.slice none 0 0],kind:=.st,flds:=[(0,1,true),(1,3,true),(4,1,false)]}
theorem ZtO:Xg Tryz.prog 32 ZBM:=⟨by kernel_rfl,by kernel_rfl,by kernel_rfl,by kernel_rfl,by kernel_rfl⟩
def ZCh:TI:={size:=1,bytes:=24,zero:=.slice none 0 0,kind:=.sl,elem:=167,esize:=11,ebytes:=96,ezero:=.agg #[.string ByteArray.empty,.int .i64 0,.int .i64 0,.int .i64 0,.int .i64 0,.int .i64 0,.int .i64 0,.bool false,.int .i64 0,.int .i64 0,.int .i64 0],eagg:=true,ety:=XF}
theorem Zk5:Xg Tryz.prog 33 ZCh:=⟨by kernel_rfl,by kernel_rfl,by kernel_rfl,by kernel_rfl,by kernel_rfl⟩
def ZCj:TI:={size:=1,bytes:=24,zero:=.slice none 0 0,kind:=.sl,elem:=191,esize:=6,ebytes:=48,ezero:=.agg #[.int .i64 0,.int .i64 0,.int .i64 0,.int .i64 0,.int .i64 0,.int .i64 0],eagg:=true,ety:=Yg}
theorem ZkO:Xg Tryz.prog 34 ZCj:=⟨by kernel_rfl,by kernel_rfl,by kernel_rfl,by kernel_rfl,by kernel_rfl⟩
def ZCn:TI:={size:=1,bytes:=24,zero:=.slice none 0 0,kind:=.sl,elem:=169,esize:=5,ebytes:=88,ezero:=.agg #[.int .i64 0,.int .i64 0,.slice none 0 0,.slice none 0 0,.slice none 0 0],eagg:=true,ety:=Yn}
theorem ZfT:Xg Tryz.prog 35 ZCn:=⟨by kernel_rfl,by kernel_rfl,by kernel_rfl,by kernel_rfl,by kernel_rfl⟩
def ZCs:TI:={size:=1,bytes:=24,zero:=.slice none 0 0,kind:=.sl,elem:=172,esize:=5,ebytes:=48,ezero:=.agg #[.string ByteArray.empty,.int .i64 0,.int .i64 0,.int .i64 0,.int .i64 0],eagg:=true,ety:=Xf}
theorem ZkZ:Xg Tryz.prog 36 ZCs:=⟨by kernel_rfl,by kernel_rfl,by kernel_rfl,by kernel_rfl,by kernel_rfl⟩
def ZCq:TI:={size:=5,bytes:=120,zero:=.agg #[.slice none 0 0,.slice none 0 0,.slice none 0 0,.slice none 0 0,.slice none 0 0],kind:=.st,flds:=[(0,1,false),(1,1,false),(2,1,false),(3,1,false),(4,1,false)]}
theorem Zud:Xg Tryz.prog 38 ZCq:=⟨by kernel_rfl,by kernel_rfl,by kernel_rfl,by kernel_rfl,by kernel_rfl⟩
def ZCo:TI:={size:=1,bytes:=24,zero:=.slice none 0 0,kind:=.sl,elem:=277,esize:=7,ebytes:=112,ezero:=.agg #[.string ByteArray.empty,.int .i64 0,.slice none 0 0,.slice none 0 0,.slice none 0 0,.int .i64 0,.int .i64 0],eagg:=true,ety:=QL}
theorem ZfK:Xg Tryz.prog 44 ZCo:=⟨by kernel_rfl,by kernel_rfl,by kernel_rfl,by kernel_rfl,by kernel_rfl⟩
def ZB5:TI:={size:=1,bytes:=24,zero:=.agg #[.slice none 0 0],kind:=.st,flds:=[(0,1,false)]}
theorem ZtS:Xg Tryz.prog 46 ZB5:=⟨by kernel_rfl,by kernel_rfl,by kernel_rfl,by kernel_rfl,by kernel_rfl⟩
def ZBJ:TI:={size:=1,bytes:=24,zero:=.slice none 0 0,kind:=.sl,elem:=219,esize:=3,ebytes:=48,ezero:=.agg #[.string ByteArray.empty,.int .i64 0,.slice none 0 0],eagg:=true,ety:=Yq}
theorem Zgn:Xg Tryz.prog 47 ZBJ:=⟨by kernel_rfl,by kernel_rfl,by kernel_rfl,by kernel_rfl,by kernel_rfl⟩
def ZAK:TI:={size:=1,bytes:=24,zero:=.slice none 0 0,kind:=.sl,elem:=246,esize:=3,ebytes:=32,ezero:=.agg #[.string ByteArray.empty,.int .i64 0,.int .i64 0],eagg:=true,ety:=Zcd}
theorem ZkR:Xg Tryz.prog 48 ZAK:=⟨by kernel_rfl,by kernel_rfl,by kernel_rfl,by kernel_rfl,by kernel_rfl⟩
def ZCy:TI:={size:=3,bytes:=72,zero:=.agg #[.slice none 0 0,.slice none 0 0,.slice none 0 0],kind:=.st,flds:=[(0,1,false),(1,1,false),(2,1,false)]}
theorem ZtI:Xg Tryz.prog 50 ZCy:=⟨by kernel_rfl,by kernel_rfl,by kernel_rfl,by kernel_rfl,by kernel_rfl⟩
def ZB2:TI:={size:=1,bytes:=24,zero:=.slice none 0 0,kind:=.sl,elem:=86,esize:=4,ebytes:=96,ezero:=.agg #[.slice none 0 0,.slice none 0 0,.slice none 0 0,.slice none 0 0],eagg:=true,ety:=Vv}
theorem ZfZ:Xg Tryz.prog 51 ZB2:=⟨by kernel_rfl,by kernel_rfl,by kernel_rfl,by kernel_rfl,by kernel_rfl⟩
def ZCd:TI:={size:=5,bytes:=120,zero:=.agg #[.slice none 0 0,.slice none 0 0,.slice none 0 0,.slice none 0 0,.slice none 0 0],kind:=.st,flds:=[(0,1,true),(1,3,true),(4,1,false)]}
theorem Ztn:Xg Tryz.prog 53 ZCd:=⟨by kernel_rfl,by kernel_rfl,by kernel_rfl,by kernel_rfl,by kernel_rfl⟩
def ZBx:TI:={size:=1,bytes:=24,zero:=.slice none 0 0,kind:=.sl,elem:=150,esize:=11,ebytes:=96,ezero:=.agg #[.string ByteArray.empty,.int .i64 0,.int .i64 0,.int .i64 0,.int .i64 0,.int .i64 0,.int .i64 0,.bool false,.int .i64 0,.int .i64 0,.int .i64 0],eagg:=true,ety:=XF}
theorem ZkG:Xg Tryz.prog 54 ZBx:=⟨by kernel_rfl,by kernel_rfl,by kernel_rfl,by kernel_rfl,by kernel_rfl⟩
def ZAT:TI:={size:=1,bytes:=24,zero:=.slice none 0 0,kind:=.sl,elem:=187,esize:=6,ebytes:=48,ezero:=.agg #[.int .i64 0,.int .i64 0,.int .i64 0,.int .i64 0,.int .i64 0,.int .i64 0],eagg:=true,ety:=Yg}
theorem Zlw:Xg Tryz.prog 55 ZAT:=⟨by kernel_rfl,by kernel_rfl,by kernel_rfl,by kernel_rfl,by kernel_rfl⟩
def ZB4:TI:={size:=1,bytes:=24,zero:=.slice none 0 0,kind:=.sl,elem:=155,esize:=5,ebytes:=88,ezero:=.agg #[.int .i64 0,.int .i64 0,.slice none 0 0,.slice none 0 0,.slice none 0 0],eagg:=true,ety:=Yn}
theorem Zgm:Xg Tryz.prog 56 ZB4:=⟨by kernel_rfl,by kernel_rfl,by kernel_rfl,by kernel_rfl,by kernel_rfl⟩
def ZA6:TI:={size:=1,bytes:=24,zero:=.slice none 0 0,kind:=.sl,elem:=193,esize:=5,ebytes:=48,ezero:=.agg #[.string ByteArray.empty,.int .i64 0,.int .i64 0,.int .i64 0,.int .i64 0],eagg:=true,ety:=Xf}
theorem Zle:Xg Tryz.prog 57 ZA6:=⟨by kernel_rfl,by kernel_rfl,by kernel_rfl,by kernel_rfl,by kernel_rfl⟩
def ZBW:TI:={size:=5,bytes:=120,zero:=.agg #[.slice none 0 0,.slice none 0 0,.slice none 0 0,.slice none 0 0,.slice none 0 0],kind:=.st,flds:=[(0,1,false),(1,1,false),(2,1,false),(3,1,false),(4,1,false)]}
theorem ZtK:Xg Tryz.prog 59 ZBW:=⟨by kernel_rfl,by kernel_rfl,by kernel_rfl,by kernel_rfl,by kernel_rfl⟩
def ZBL:TI:={size:=1,bytes:=24,zero:=.slice none 0 0,kind:=.sl,elem:=88,esize:=10,ebytes:=152,ezero:=.agg #[.int .i64 0,.int .i64 0,.int .i64 0,.int .i64 0,.int .i64 0,.string ByteArray.empty,.slice none 0 0,.slice none 0 0,.slice none 0 0,.slice none 0 0],eagg:=true,ety:=XL}
theorem Zge:Xg Tryz.prog 60 ZBL:=⟨by kernel_rfl,by kernel_rfl,by kernel_rfl,by kernel_rfl,by kernel_rfl⟩
def ZCk:TI:={size:=12,bytes:=288,zero:=.agg #[.slice none 0 0,.slice none 0 0,.slice none 0 0,.slice none 0 0,.slice none 0 0,.slice none 0 0,.slice none 0 0,.slice none 0 0,.slice none 0 0,.slice none 0 0,.slice none 0 0,.slice none 0 0],kind:=.st,flds:=[(0,5,true),(5,5,true),(10,1,false),(11,1,false)]}
theorem Zt9:Xg Tryz.prog 62 ZCk:=⟨by kernel_rfl,by kernel_rfl,by kernel_rfl,by kernel_rfl,by kernel_rfl⟩
def Zvn:TI:={size:=1,bytes:=24,zero:=.slice none 0 0,kind:=.sl,elem:=2,esize:=1,ebytes:=8,ezero:=.int .i64 0,eagg:=false,ety:=.int .i64}
theorem ZtW:Xg Tryz.prog 79 Zvn:=⟨by kernel_rfl,by kernel_rfl,by kernel_rfl,by kernel_rfl,by kernel_rfl⟩
def ZBZ:TI:={size:=4,bytes:=96,zero:=.agg #[.slice none 0 0,.slice none 0 0,.slice none 0 0,.slice none 0 0],kind:=.st,flds:=[(0,1,false),(1,1,false),(2,1,false),(3,1,false)]}
theorem Zt1:Xg Tryz.prog 81 ZBZ:=⟨by kernel_rfl,by kernel_rfl,by kernel_rfl,by kernel_rfl,by kernel_rfl⟩
def ZBI:TI:={size:=4,bytes:=96,zero:=.agg #[.slice none 0 0,.slice none 0 0,.slice none 0 0,.slice none 0 0],kind:=.st,flds:=[(0,1,false),(1,1,false),(2,1,false),(3,1,false)]}
theorem Ztx:Xg Tryz.prog 86 ZBI:=⟨by kernel_rfl,by kernel_rfl,by kernel_rfl,by kernel_rfl,by kernel_rfl⟩
def ZBP:TI:={size:=10,bytes:=152,zero:=.agg #[.int .i64 0,.int .i64 0,.int .i64 0,.int .i64 0,.int .i64 0,.string ByteArray.empty,.slice none 0 0,.slice none 0 0,.slice none 0 0,.slice none 0 0],kind:=.st,flds:=[(0,1,false),(1,1,false),(2,1,false),(3,1,false),(4,1,false),(5,1,false),(6,4,true)]}
theorem Zuc:Xg Tryz.prog 88 ZBP:=⟨by kernel_rfl,by kernel_rfl,by kernel_rfl,by kernel_rfl,by kernel_rfl⟩
def Zx9:TI:={size:=11,bytes:=96,zero:=.agg #[.string ByteArray.empty,.int .i64 0,.int .i64 0,.int .i64 0,.int .i64 0,.int .i64 0,.int .i64 0,.bool false,.int .i64 0,.int .i64 0,.int .i64 0],kind:=.st,flds:=[(0,1,false),(1,1,false),(2,1,false),(3,1,false),(4,1,false),(5,1,false),(6,1,false),(7,1,false),(8,1,false),(9,1,false),(10,1,false)],eqd:=.str 0 (.int .i64 1 (.int .i64 2 (.int .i64 3 (.int .i64 4 (.int .i64 5 (.int .i64 6 (.bool 7 (.int .i64 8 (.int .i64 9 (.int .i64 10 (.nil)))))))))))}
theorem Zsl:Xg Tryz.prog 150 Zx9:=⟨by kernel_rfl,by kernel_rfl,by kernel_rfl,by kernel_rfl,by kernel_rfl⟩
def ZyD:TI:={size:=1,bytes:=24,zero:=.slice none 0 0,kind:=.sl,elem:=244,esize:=4,ebytes:=32,ezero:=.agg #[.int .i64 0,.int .i64 0,.int .i64 0,.bool false],eagg:=true,ety:=ZfE}
theorem ZhQ:Xg Tryz.prog 151 ZyD:=⟨by kernel_rfl,by kernel_rfl,by kernel_rfl,by kernel_rfl,by kernel_rfl⟩
def ZxZ:TI:={size:=5,bytes:=88,zero:=.agg #[.int .i64 0,.int .i64 0,.slice none 0 0,.slice none 0 0,.slice none 0 0],kind:=.st,flds:=[(0,1,false),(1,1,false),(2,1,false),(3,1,false),(4,1,false)]}
theorem Zrr:Xg Tryz.prog 155 ZxZ:=⟨by kernel_rfl,by kernel_rfl,by kernel_rfl,by kernel_rfl,by kernel_rfl⟩
def ZxP:TI:={size:=1,bytes:=8,zero:=.pointer none,kind:=.ptr}
theorem Zrn:Xg Tryz.prog 157 ZxP:=⟨by kernel_rfl,by kernel_rfl,by kernel_rfl,by kernel_rfl,by kernel_rfl⟩
def ZyG:TI:={size:=11,bytes:=96,zero:=.agg #[.string ByteArray.empty,.int .i64 0,.int .i64 0,.int .i64 0,.int .i64 0,.int .i64 0,.int .i64 0,.bool false,.int .i64 0,.int .i64 0,.int .i64 0],kind:=.st,flds:=[(0,1,false),(1,1,false),(2,1,false),(3,1,false),(4,1,false),(5,1,false),(6,1,false),(7,1,false),(8,1,false),(9,1,false),(10,1,false)],eqd:=.str 0 (.int .i64 1 (.int .i64 2 (.int .i64 3 (.int .i64 4 (.int .i64 5 (.int .i64 6 (.bool 7 (.int .i64 8 (.int .i64 9 (.int .i64 10 (.nil)))))))))))}
theorem Zsg:Xg Tryz.prog 167 ZyG:=⟨by kernel_rfl,by kernel_rfl,by kernel_rfl,by kernel_rfl,by kernel_rfl⟩
def Zyl:TI:={size:=5,bytes:=88,zero:=.agg #[.int .i64 0,.int .i64 0,.slice none 0 0,.slice none 0 0,.slice none 0 0],kind:=.st,flds:=[(0,1,false),(1,1,false),(2,1,false),(3,1,false),(4,1,false)]}
theorem Zre:Xg Tryz.prog 169 Zyl:=⟨by kernel_rfl,by kernel_rfl,by kernel_rfl,by kernel_rfl,by kernel_rfl⟩
def Zzd:TI:={size:=5,bytes:=48,zero:=.agg #[.string ByteArray.empty,.int .i64 0,.int .i64 0,.int .i64 0,.int .i64 0],kind:=.st,flds:=[(0,1,false),(1,1,false),(2,1,false),(3,1,false),(4,1,false)],eqd:=.str 0 (.int .i64 1 (.int .i64 2 (.int .i64 3 (.int .i64 4 (.nil)))))}
theorem ZrF:Xg Tryz.prog 172 Zzd:=⟨by kernel_rfl,by kernel_rfl,by kernel_rfl,by kernel_rfl,by kernel_rfl⟩
def ZxV:TI:={size:=2,bytes:=16,zero:=.agg #[.int .i64 0,.int .i64 0],kind:=.st,flds:=[(0,1,false),(1,1,false)],eqd:=.int .i64 0 (.int .i64 1 (.nil))}
theorem ZrD:Xg Tryz.prog 185 ZxV:=⟨by kernel_rfl,by kernel_rfl,by kernel_rfl,by kernel_rfl,by kernel_rfl⟩
def ZyS:TI:={size:=6,bytes:=48,zero:=.agg #[.int .i64 0,.int .i64 0,.int .i64 0,.int .i64 0,.int .i64 0,.int .i64 0],kind:=.st,flds:=[(0,1,false),(1,1,false),(2,2,true),(4,2,true)],eqd:=.int .i64 0 (.int .i64 1 (.st 2 2 (.int .i64 0 (.int .i64 1 (.nil))) (.st 4 2 (.int .i64 0 (.int .i64 1 (.nil))) (.nil))))}
theorem Zrc:Xg Tryz.prog 187 ZyS:=⟨by kernel_rfl,by kernel_rfl,by kernel_rfl,by kernel_rfl,by kernel_rfl⟩
def ZyT:TI:={size:=2,bytes:=16,zero:=.agg #[.int .i64 0,.int .i64 0],kind:=.st,flds:=[(0,1,false),(1,1,false)],eqd:=.int .i64 0 (.int .i64 1 (.nil))}
theorem Zrb:Xg Tryz.prog 189 ZyT:=⟨by kernel_rfl,by kernel_rfl,by kernel_rfl,by kernel_rfl,by kernel_rfl⟩
def ZxT:TI:={size:=6,bytes:=48,zero:=.agg #[.int .i64 0,.int .i64 0,.int .i64 0,.int .i64 0,.int .i64 0,.int .i64 0],kind:=.st,flds:=[(0,1,false),(1,1,false),(2,2,true),(4,2,true)],eqd:=.int .i64 0 (.int .i64 1 (.st 2 2 (.int .i64 0 (.int .i64 1 (.nil))) (.st 4 2 (.int .i64 0 (.int .i64 1 (.nil))) (.nil))))}
theorem ZqW:Xg Tryz.prog 191 ZxT:=⟨by kernel_rfl,by kernel_rfl,by kernel_rfl,by kernel_rfl,by kernel_rfl⟩
def ZxX:TI:={size:=5,bytes:=48,zero:=.agg #[.string ByteArray.empty,.int .i64 0,.int .i64 0,.int .i64 0,.int .i64 0],kind:=.st,flds:=[(0,1,false),(1,1,false),(2,1,false),(3,1,false),(4,1,false)],eqd:=.str 0 (.int .i64 1 (.int .i64 2 (.int .i64 3 (.int .i64 4 (.nil)))))}
theorem Zse:Xg Tryz.prog 193 ZxX:=⟨by kernel_rfl,by kernel_rfl,by kernel_rfl,by kernel_rfl,by kernel_rfl⟩
def ZxC:TI:={size:=3,bytes:=48,zero:=.agg #[.string ByteArray.empty,.int .i64 0,.slice none 0 0],kind:=.st,flds:=[(0,1,false),(1,1,false),(2,1,false)]}
theorem Zrx:Xg Tryz.prog 219 ZxC:=⟨by kernel_rfl,by kernel_rfl,by kernel_rfl,by kernel_rfl,by kernel_rfl⟩
def Zzb:TI:={size:=4,bytes:=32,zero:=.agg #[.int .i64 0,.int .i64 0,.int .i64 0,.bool false],kind:=.st,flds:=[(0,1,false),(1,1,false),(2,1,false),(3,1,false)],eqd:=.int .i64 0 (.int .i64 1 (.int .i64 2 (.bool 3 (.nil))))}
theorem Zrs:Xg Tryz.prog 221 Zzb:=⟨by kernel_rfl,by kernel_rfl,by kernel_rfl,by kernel_rfl,by kernel_rfl⟩
def ZxU:TI:={size:=1,bytes:=24,zero:=.slice none 0 0,kind:=.sl,elem:=221,esize:=4,ebytes:=32,ezero:=.agg #[.int .i64 0,.int .i64 0,.int .i64 0,.bool false],eagg:=true,ety:=Zkh}
theorem ZhU:Xg Tryz.prog 222 ZxU:=⟨by kernel_rfl,by kernel_rfl,by kernel_rfl,by kernel_rfl,by kernel_rfl⟩
def Zy4:TI:={size:=3,bytes:=24,zero:=.agg #[.int .i64 0,.int .i64 0,.int .i64 0],kind:=.st,flds:=[(0,1,false),(1,1,false),(2,1,false)],eqd:=.int .i64 0 (.int .i64 1 (.int .i64 2 (.nil)))}
theorem ZrX:Xg Tryz.prog 240 Zy4:=⟨by kernel_rfl,by kernel_rfl,by kernel_rfl,by kernel_rfl,by kernel_rfl⟩
def ZxN:TI:={size:=4,bytes:=32,zero:=.agg #[.int .i64 0,.int .i64 0,.int .i64 0,.bool false],kind:=.st,flds:=[(0,1,false),(1,1,false),(2,1,false),(3,1,false)],eqd:=.int .i64 0 (.int .i64 1 (.int .i64 2 (.bool 3 (.nil))))}
theorem ZqZ:Xg Tryz.prog 244 ZxN:=⟨by kernel_rfl,by kernel_rfl,by kernel_rfl,by kernel_rfl,by kernel_rfl⟩
def Zyd:TI:={size:=3,bytes:=32,zero:=.agg #[.string ByteArray.empty,.int .i64 0,.int .i64 0],kind:=.st,flds:=[(0,1,false),(1,1,false),(2,1,false)],eqd:=.str 0 (.int .i64 1 (.int .i64 2 (.nil)))}
theorem Zq0:Xg Tryz.prog 246 Zyd:=⟨by kernel_rfl,by kernel_rfl,by kernel_rfl,by kernel_rfl,by kernel_rfl⟩
def Zyx:TI:={size:=1,bytes:=24,zero:=.slice none 0 0,kind:=.sl,elem:=257,esize:=4,ebytes:=32,ezero:=.agg #[.int .i64 0,.int .i64 0,.int .i64 0,.int .i64 0],eagg:=true,ety:=Zpw}
theorem ZhZ:Xg Tryz.prog 249 Zyx:=⟨by kernel_rfl,by kernel_rfl,by kernel_rfl,by kernel_rfl,by kernel_rfl⟩
def ZyW:TI:={size:=1,bytes:=24,zero:=.slice none 0 0,kind:=.sl,elem:=79,esize:=1,ebytes:=24,ezero:=.slice none 0 0,eagg:=false,ety:=.sl (.int .i64)}
theorem Zdm:Xg Tryz.prog 250 ZyW:=⟨by kernel_rfl,by kernel_rfl,by kernel_rfl,by kernel_rfl,by kernel_rfl⟩
def Zze:TI:={size:=10,bytes:=240,zero:=.agg #[.slice none 0 0,.slice none 0 0,.slice none 0 0,.slice none 0 0,.slice none 0 0,.slice none 0 0,.slice none 0 0,.slice none 0 0,.slice none 0 0,.slice none 0 0],kind:=.st,flds:=[(0,5,true),(5,1,false),(6,1,false),(7,1,false),(8,1,false),(9,1,false)]}
theorem ZqU:Xg Tryz.prog 252 Zze:=⟨by kernel_rfl,by kernel_rfl,by kernel_rfl,by kernel_rfl,by kernel_rfl⟩
def Zyz:TI:={size:=4,bytes:=32,zero:=.agg #[.int .i64 0,.int .i64 0,.int .i64 0,.int .i64 0],kind:=.st,flds:=[(0,1,false),(1,1,false),(2,1,false),(3,1,false)],eqd:=.int .i64 0 (.int .i64 1 (.int .i64 2 (.int .i64 3 (.nil))))}
theorem Zr0:Xg Tryz.prog 257 Zyz:=⟨by kernel_rfl,by kernel_rfl,by kernel_rfl,by kernel_rfl,by kernel_rfl⟩
def Zy0:TI:={size:=1,bytes:=24,zero:=.slice none 0 0,kind:=.sl,elem:=362,esize:=4,ebytes:=40,ezero:=.agg #[.string ByteArray.empty,.int .i64 0,.int .i64 0,.bool false],eagg:=true,ety:=ZgP}
theorem Zh1:Xg Tryz.prog 266 Zy0:=⟨by kernel_rfl,by kernel_rfl,by kernel_rfl,by kernel_rfl,by kernel_rfl⟩
def ZyJ:TI:={size:=1,bytes:=24,zero:=.slice none 0 0,kind:=.sl,elem:=366,esize:=6,ebytes:=80,ezero:=.agg #[.int .i64 0,.int .i64 0,.int .i64 0,.int .i64 0,.slice none 0 0,.slice none 0 0],eagg:=true,ety:=Zib}
theorem Zc8:Xg Tryz.prog 267 ZyJ:=⟨by kernel_rfl,by kernel_rfl,by kernel_rfl,by kernel_rfl,by kernel_rfl⟩
def ZxH:TI:={size:=7,bytes:=112,zero:=.agg #[.string ByteArray.empty,.int .i64 0,.slice none 0 0,.slice none 0 0,.slice none 0 0,.int .i64 0,.int .i64 0],kind:=.st,flds:=[(0,1,false),(1,1,false),(2,1,false),(3,1,false),(4,1,false),(5,1,false),(6,1,false)]}
theorem Zsm:Xg Tryz.prog 269 ZxH:=⟨by kernel_rfl,by kernel_rfl,by kernel_rfl,by kernel_rfl,by kernel_rfl⟩
def ZyH:TI:={size:=3,bytes:=48,zero:=.agg #[.string ByteArray.empty,.int .i64 0,.slice none 0 0],kind:=.st,flds:=[(0,1,false),(1,1,false),(2,1,false)]}
theorem Zrg:Xg Tryz.prog 271 ZyH:=⟨by kernel_rfl,by kernel_rfl,by kernel_rfl,by kernel_rfl,by kernel_rfl⟩
def ZxL:TI:={size:=3,bytes:=32,zero:=.agg #[.string ByteArray.empty,.int .i64 0,.int .i64 0],kind:=.st,flds:=[(0,1,false),(1,1,false),(2,1,false)],eqd:=.str 0 (.int .i64 1 (.int .i64 2 (.nil)))}
theorem ZrO:Xg Tryz.prog 273 ZxL:=⟨by kernel_rfl,by kernel_rfl,by kernel_rfl,by kernel_rfl,by kernel_rfl⟩
def Zxe:TI:={size:=1,bytes:=24,zero:=.slice none 0 0,kind:=.sl,elem:=285,esize:=4,ebytes:=40,ezero:=.agg #[.string ByteArray.empty,.int .i64 0,.int .i64 0,.bool false],eagg:=true,ety:=ZgP}
theorem ZhT:Xg Tryz.prog 274 Zxe:=⟨by kernel_rfl,by kernel_rfl,by kernel_rfl,by kernel_rfl,by kernel_rfl⟩
def ZxA:TI:={size:=1,bytes:=24,zero:=.slice none 0 0,kind:=.sl,elem:=289,esize:=6,ebytes:=80,ezero:=.agg #[.int .i64 0,.int .i64 0,.int .i64 0,.int .i64 0,.slice none 0 0,.slice none 0 0],eagg:=true,ety:=Zib}
theorem Zdp:Xg Tryz.prog 275 ZxA:=⟨by kernel_rfl,by kernel_rfl,by kernel_rfl,by kernel_rfl,by kernel_rfl⟩
def Zy2:TI:={size:=7,bytes:=112,zero:=.agg #[.string ByteArray.empty,.int .i64 0,.slice none 0 0,.slice none 0 0,.slice none 0 0,.int .i64 0,.int .i64 0],kind:=.st,flds:=[(0,1,false),(1,1,false),(2,1,false),(3,1,false),(4,1,false),(5,1,false),(6,1,false)]}
theorem ZrT:Xg Tryz.prog 277 Zy2:=⟨by kernel_rfl,by kernel_rfl,by kernel_rfl,by kernel_rfl,by kernel_rfl⟩
def Zyu:TI:={size:=4,bytes:=40,zero:=.agg #[.string ByteArray.empty,.int .i64 0,.int .i64 0,.bool false],kind:=.st,flds:=[(0,1,false),(1,1,false),(2,1,false),(3,1,false)],eqd:=.str 0 (.int .i64 1 (.int .i64 2 (.bool 3 (.nil))))}
theorem ZrI:Xg Tryz.prog 285 Zyu:=⟨by kernel_rfl,by kernel_rfl,by kernel_rfl,by kernel_rfl,by kernel_rfl⟩
def Zy9:TI:={size:=1,bytes:=24,zero:=.slice none 0 0,kind:=.sl,elem:=341,esize:=3,ebytes:=72,ezero:=.agg #[.slice none 0 0,.slice none 0 0,.slice none 0 0],eagg:=true,ety:=XE}
theorem ZdD:Xg Tryz.prog 287 Zy9:=⟨by kernel_rfl,by kernel_rfl,by kernel_rfl,by kernel_rfl,by kernel_rfl⟩
def Zx5:TI:={size:=6,bytes:=80,zero:=.agg #[.int .i64 0,.int .i64 0,.int .i64 0,.int .i64 0,.slice none 0 0,.slice none 0 0],kind:=.st,flds:=[(0,1,false),(1,1,false),(2,1,false),(3,1,false),(4,1,false),(5,1,false)]}
theorem Zra:Xg Tryz.prog 289 Zx5:=⟨by kernel_rfl,by kernel_rfl,by kernel_rfl,by kernel_rfl,by kernel_rfl⟩
def ZPt:TI:={size:=1,bytes:=24,zero:=.slice none 0 0,kind:=.sl,elem:=5,esize:=1,ebytes:=1,ezero:=.int .u8 0,eagg:=false,ety:=.int .u8}
theorem ZO5:Xg Tryz.prog 299 ZPt:=⟨by kernel_rfl,by kernel_rfl,by kernel_rfl,by kernel_rfl,by kernel_rfl⟩
def ZtB:TI:={size:=1,bytes:=24,zero:=.slice none 0 0,kind:=.sl,elem:=3,esize:=1,ebytes:=8,ezero:=.int .i64 0,eagg:=false,ety:=.int .i64}
theorem Zrv:Xg Tryz.prog 306 ZtB:=⟨by kernel_rfl,by kernel_rfl,by kernel_rfl,by kernel_rfl,by kernel_rfl⟩
def ZxB:TI:={size:=1,bytes:=24,zero:=.slice none 0 0,kind:=.sl,elem:=320,esize:=2,ebytes:=16,ezero:=.agg #[.int .i64 0,.int .i64 0],eagg:=true,ety:=.pair (.int .i64) (.pair (.int .i64) (.unit))}
theorem Zis:Xg Tryz.prog 318 ZxB:=⟨by kernel_rfl,by kernel_rfl,by kernel_rfl,by kernel_rfl,by kernel_rfl⟩
def ZyR:TI:={size:=2,bytes:=16,zero:=.agg #[.int .i64 0,.int .i64 0],kind:=.arr 2,elem:=2,esize:=1,ebytes:=8,ezero:=.int .i64 0,eagg:=false,ety:=.int .i64}
theorem Zsi:Xg Tryz.prog 320 ZyR:=⟨by kernel_rfl,by kernel_rfl,by kernel_rfl,by kernel_rfl,by kernel_rfl⟩
def ZyK:TI:={size:=3,bytes:=72,zero:=.agg #[.slice none 0 0,.slice none 0 0,.slice none 0 0],kind:=.st,flds:=[(0,1,false),(1,1,false),(2,1,false)]}
theorem Zq4:Xg Tryz.prog 341 ZyK:=⟨by kernel_rfl,by kernel_rfl,by kernel_rfl,by kernel_rfl,by kernel_rfl⟩
def Zy1:TI:={size:=3,bytes:=24,zero:=.agg #[.int .i64 0,.int .i64 0,.int .i64 0],kind:=.st,flds:=[(0,1,false),(1,2,true)]}
theorem Zsb:Xg Tryz.prog 351 Zy1:=⟨by kernel_rfl,by kernel_rfl,by kernel_rfl,by kernel_rfl,by kernel_rfl⟩
def Zx0:TI:={size:=4,bytes:=40,zero:=.agg #[.string ByteArray.empty,.int .i64 0,.int .i64 0,.bool false],kind:=.st,flds:=[(0,1,false),(1,1,false),(2,1,false),(3,1,false)],eqd:=.str 0 (.int .i64 1 (.int .i64 2 (.bool 3 (.nil))))}
theorem Zrh:Xg Tryz.prog 362 Zx0:=⟨by kernel_rfl,by kernel_rfl,by kernel_rfl,by kernel_rfl,by kernel_rfl⟩
def Zyb:TI:={size:=1,bytes:=24,zero:=.slice none 0 0,kind:=.sl,elem:=400,esize:=3,ebytes:=72,ezero:=.agg #[.slice none 0 0,.slice none 0 0,.slice none 0 0],eagg:=true,ety:=XE}
theorem Zdb:Xg Tryz.prog 364 Zyb:=⟨by kernel_rfl,by kernel_rfl,by kernel_rfl,by kernel_rfl,by kernel_rfl⟩
def Zyr:TI:={size:=6,bytes:=80,zero:=.agg #[.int .i64 0,.int .i64 0,.int .i64 0,.int .i64 0,.slice none 0 0,.slice none 0 0],kind:=.st,flds:=[(0,1,false),(1,1,false),(2,1,false),(3,1,false),(4,1,false),(5,1,false)]}
theorem ZrC:Xg Tryz.prog 366 Zyr:=⟨by kernel_rfl,by kernel_rfl,by kernel_rfl,by kernel_rfl,by kernel_rfl⟩
def ZyV:TI:={size:=1,bytes:=8,zero:=.int .u64 0,kind:=.int .u64}
theorem Zq1:Xg Tryz.prog 375 ZyV:=⟨by kernel_rfl,by kernel_rfl,by kernel_rfl,by kernel_rfl,by kernel_rfl⟩
def ZyA:TI:={size:=3,bytes:=72,zero:=.agg #[.slice none 0 0,.slice none 0 0,.slice none 0 0],kind:=.st,flds:=[(0,1,false),(1,1,false),(2,1,false)]}
theorem ZrJ:Xg Tryz.prog 400 ZyA:=⟨by kernel_rfl,by kernel_rfl,by kernel_rfl,by kernel_rfl,by kernel_rfl⟩
theorem ZDP {P:Program}:Tab.ok [] P:=fun x hx=>by cases hx
theorem Zw {P:Program} {t:Nat} {ti:TI} {r:Tab} (h:Xg P t ti) (hr:Tab.ok r P):Tab.ok ((t,ti)::r) P:=fun x hx=>by
 rcases List.mem_cons.1 hx with rfl | hx
 ·exact h
 ·exact hr x hx
def tab:Tab:=[(2,ti2),(3,ti3),(4,ti4),(5,ti5),(6,ti6),(7,ti7),(8,ti8),(9,ti9),(10,ZCe),(22,ZB8),(24,ZCB),(25,ZB0),(26,ZAM),(27,ZCv),(29,ZBU),(30,ZCt),(32,ZBM),(33,ZCh),(34,ZCj),(35,ZCn),(36,ZCs),(38,ZCq),(44,ZCo),(46,ZB5),(47,ZBJ),(48,ZAK),(50,ZCy),(51,ZB2),(53,ZCd),(54,ZBx),(55,ZAT),(56,ZB4),(57,ZA6),(59,ZBW),(60,ZBL),(62,ZCk),(79,Zvn),(81,ZBZ),(86,ZBI),(88,ZBP),(150,Zx9),(151,ZyD),(155,ZxZ),(157,ZxP),(167,ZyG),(169,Zyl),(172,Zzd),(185,ZxV),(187,ZyS),(189,ZyT),(191,ZxT),(193,ZxX),(219,ZxC),(221,Zzb),(222,ZxU),(240,Zy4),(244,ZxN),(246,Zyd),(249,Zyx),(250,ZyW),(252,Zze),(257,Zyz),(266,Zy0),(267,ZyJ),(269,ZxH),(271,ZyH),(273,ZxL),(274,Zxe),(275,ZxA),(277,Zy2),(285,Zyu),(287,Zy9),(289,Zx5),(299,ZPt),(306,ZtB),(318,ZxB),(320,ZyR),(341,ZyK),(351,Zy1),(362,Zx0),(364,Zyb),(366,Zyr),(375,ZyV),(400,ZyA)]
theorem Zq:tab.ok Tryz.prog :=
 Zw (ZwQ) <| Zw (ZvW) <| Zw (Zxc) <| Zw (Zw5) <| Zw (ZwA) <| Zw (Zxj) <| Zw (Zxk) <| Zw (Zwx) <| Zw (ZtE) <| Zw (ZfQ) <| Zw (ZtP) <| Zw (Zgl) <| Zw (ZkX) <| Zw (ZkJ) <| Zw (Zue) <| Zw (ZfJ) <| Zw (ZtO) <| Zw (Zk5) <| Zw (ZkO) <| Zw (ZfT) <| Zw (ZkZ) <| Zw (Zud) <| Zw (ZfK) <| Zw (ZtS) <| Zw (Zgn) <| Zw (ZkR) <| Zw (ZtI) <| Zw (ZfZ) <| Zw (Ztn) <| Zw (ZkG) <| Zw (Zlw) <| Zw (Zgm) <| Zw (Zle) <| Zw (ZtK) <| Zw (Zge) <| Zw (Zt9) <| Zw (ZtW) <| Zw (Zt1) <| Zw (Ztx) <| Zw (Zuc) <| Zw (Zsl) <| Zw (ZhQ) <| Zw (Zrr) <| Zw (Zrn) <| Zw (Zsg) <| Zw (Zre) <| Zw (ZrF) <| Zw (ZrD) <| Zw (Zrc) <| Zw (Zrb) <| Zw (ZqW) <| Zw (Zse) <| Zw (Zrx) <| Zw (Zrs) <| Zw (ZhU) <| Zw (ZrX) <| Zw (ZqZ) <| Zw (Zq0) <| Zw (ZhZ) <| Zw (Zdm) <| Zw (ZqU) <| Zw (Zr0) <| Zw (Zh1) <| Zw (Zc8) <| Zw (Zsm) <| Zw (Zrg) <| Zw (ZrO) <| Zw (ZhT) <| Zw (Zdp) <| Zw (ZrT) <| Zw (ZrI) <| Zw (ZdD) <| Zw (Zra) <| Zw (ZO5) <| Zw (Zrv) <| Zw (Zis) <| Zw (Zsi) <| Zw (Zq4) <| Zw (Zsb) <| Zw (Zrh) <| Zw (Zdb) <| Zw (ZrC) <| Zw (Zq1) <| Zw (ZrJ) <| ZDP
def ZDr:TI:={ZB8 with edp:=some (Zoy)}
def ZD9:TI:={ZB0 with edp:=some (Zb9)}
def ZCY:TI:={ZCt with edp:=some (Zl3)}
def ZDa:TI:={ZCn with edp:=some (ZaM)}
def ZEc:TI:={ZCo with edp:=some (Zoy)}
def ZDI:TI:={ZBJ with edp:=some (Zb9)}
def ZED:TI:={ZB2 with edp:=some (Zl3)}
def ZEz:TI:={ZB4 with edp:=some (ZaM)}
def ZD5:TI:={ZBL with edp:=some (Zo8)}
def ZBf:TI:={ZyW with edp:=some (.ol 2 (.flat (.int .i64)))}
def ZAQ:TI:={ZyJ with edp:=some (Zxz)}
def ZAZ:TI:={ZxA with edp:=some (Zxz)}
def ZBi:TI:={Zy9 with edp:=some (Zgw)}
def ZBG:TI:={Zyb with edp:=some (Zgw)}
def ZCW:TI:={ZB8 with cut:=true,edp:=some (Zoy)}
def ZDV:TI:={ZB0 with cut:=true,edp:=some (Zb9)}
def ZEM:TI:={ZAM with cut:=true}
def ZEy:TI:={ZCv with cut:=true}
def ZDU:TI:={ZCt with cut:=true,edp:=some (Zl3)}
def ZEX:TI:={ZCh with cut:=true}
def ZCZ:TI:={ZCj with cut:=true}
def ZD6:TI:={ZCn with cut:=true,edp:=some (ZaM)}
def ZEv:TI:={ZCs with cut:=true}
def ZE5:TI:={ZCo with cut:=true,edp:=some (Zoy)}
def ZDS:TI:={ZBJ with cut:=true,edp:=some (Zb9)}
def ZCN:TI:={ZAK with cut:=true}
def ZD8:TI:={ZB2 with cut:=true,edp:=some (Zl3)}
def ZDe:TI:={ZBx with cut:=true}
def ZDK:TI:={ZAT with cut:=true}
def ZFe:TI:={ZB4 with cut:=true,edp:=some (ZaM)}
def ZE7:TI:={ZA6 with cut:=true}
def ZD1:TI:={ZBL with cut:=true,edp:=some (Zo8)}
def ZA7:TI:={ZyD with cut:=true}
def ZBw:TI:={ZxU with cut:=true}
def ZBu:TI:={Zyx with cut:=true}
def ZA1:TI:={ZyW with cut:=true,edp:=some (.ol 2 (.flat (.int .i64)))}
def ZAN:TI:={Zy0 with cut:=true}
def ZBa:TI:={ZyJ with cut:=true,edp:=some (Zxz)}
def ZBo:TI:={Zxe with cut:=true}
def ZAU:TI:={ZxA with cut:=true,edp:=some (Zxz)}
def ZBB:TI:={Zy9 with cut:=true,edp:=some (Zgw)}
def ZA3:TI:={ZxB with cut:=true}
def ZBt:TI:={Zyb with cut:=true,edp:=some (Zgw)}
def ZGr:Tab:=[(2,ti2),(3,ti3),(4,ti4),(5,ti5),(6,ti6),(7,ti7),(8,ti8),(9,ti9),(10,ZCe),(22,ZDr),(24,ZCB),(25,ZD9),(26,ZAM),(27,ZCv),(29,ZBU),(30,ZCY),(32,ZBM),(33,ZCh),(34,ZCj),(35,ZDa),(36,ZCs),(38,ZCq),(44,ZEc),(46,ZB5),(47,ZDI),(48,ZAK),(50,ZCy),(51,ZED),(53,ZCd),(54,ZBx),(55,ZAT),(56,ZEz),(57,ZA6),(59,ZBW),(60,ZD5),(62,ZCk),(79,Zvn),(81,ZBZ),(86,ZBI),(88,ZBP),(150,Zx9),(151,ZyD),(155,ZxZ),(157,ZxP),(167,ZyG),(169,Zyl),(172,Zzd),(185,ZxV),(187,ZyS),(189,ZyT),(191,ZxT),(193,ZxX),(219,ZxC),(221,Zzb),(222,ZxU),(240,Zy4),(244,ZxN),(246,Zyd),(249,Zyx),(250,ZBf),(252,Zze),(257,Zyz),(266,Zy0),(267,ZAQ),(269,ZxH),(271,ZyH),(273,ZxL),(274,Zxe),(275,ZAZ),(277,Zy2),(285,Zyu),(287,ZBi),(289,Zx5),(299,ZPt),(306,ZtB),(318,ZxB),(320,ZyR),(341,ZyK),(351,Zy1),(362,Zx0),(364,ZBG),(366,Zyr),(375,ZyV),(400,ZyA)]
theorem Xa:ZGr.ok Tryz.prog :=
 Zw (ZwQ) <| Zw (ZvW) <| Zw (Zxc) <| Zw (Zw5) <| Zw (ZwA) <| Zw (Zxj) <| Zw (Zxk) <| Zw (Zwx) <| Zw (ZtE) <| Zw (⟨ZfQ.info,ZfQ.kind,ZfQ.flds,ZfQ.elem,ZfQ.eqd⟩) <| Zw (ZtP) <| Zw (⟨Zgl.info,Zgl.kind,Zgl.flds,Zgl.elem,Zgl.eqd⟩) <| Zw (ZkX) <| Zw (ZkJ) <| Zw (Zue) <| Zw (⟨ZfJ.info,ZfJ.kind,ZfJ.flds,ZfJ.elem,ZfJ.eqd⟩) <| Zw (ZtO) <| Zw (Zk5) <| Zw (ZkO) <| Zw (⟨ZfT.info,ZfT.kind,ZfT.flds,ZfT.elem,ZfT.eqd⟩) <| Zw (ZkZ) <| Zw (Zud) <| Zw (⟨ZfK.info,ZfK.kind,ZfK.flds,ZfK.elem,ZfK.eqd⟩) <| Zw (ZtS) <| Zw (⟨Zgn.info,Zgn.kind,Zgn.flds,Zgn.elem,Zgn.eqd⟩) <| Zw (ZkR) <| Zw (ZtI) <| Zw (⟨ZfZ.info,ZfZ.kind,ZfZ.flds,ZfZ.elem,ZfZ.eqd⟩) <| Zw (Ztn) <| Zw (ZkG) <| Zw (Zlw) <| Zw (⟨Zgm.info,Zgm.kind,Zgm.flds,Zgm.elem,Zgm.eqd⟩) <| Zw (Zle) <| Zw (ZtK) <| Zw (⟨Zge.info,Zge.kind,Zge.flds,Zge.elem,Zge.eqd⟩) <| Zw (Zt9) <| Zw (ZtW) <| Zw (Zt1) <| Zw (Ztx) <| Zw (Zuc) <| Zw (Zsl) <| Zw (ZhQ) <| Zw (Zrr) <| Zw (Zrn) <| Zw (Zsg) <| Zw (Zre) <| Zw (ZrF) <| Zw (ZrD) <| Zw (Zrc) <| Zw (Zrb) <| Zw (ZqW) <| Zw (Zse) <| Zw (Zrx) <| Zw (Zrs) <| Zw (ZhU) <| Zw (ZrX) <| Zw (ZqZ) <| Zw (Zq0) <| Zw (ZhZ) <| Zw (⟨Zdm.info,Zdm.kind,Zdm.flds,Zdm.elem,Zdm.eqd⟩) <| Zw (ZqU) <| Zw (Zr0) <| Zw (Zh1) <| Zw (⟨Zc8.info,Zc8.kind,Zc8.flds,Zc8.elem,Zc8.eqd⟩) <| Zw (Zsm) <| Zw (Zrg) <| Zw (ZrO) <| Zw (ZhT) <| Zw (⟨Zdp.info,Zdp.kind,Zdp.flds,Zdp.elem,Zdp.eqd⟩) <| Zw (ZrT) <| Zw (ZrI) <| Zw (⟨ZdD.info,ZdD.kind,ZdD.flds,ZdD.elem,ZdD.eqd⟩) <| Zw (Zra) <| Zw (ZO5) <| Zw (Zrv) <| Zw (Zis) <| Zw (Zsi) <| Zw (Zq4) <| Zw (Zsb) <| Zw (Zrh) <| Zw (⟨Zdb.info,Zdb.kind,Zdb.flds,Zdb.elem,Zdb.eqd⟩) <| Zw (ZrC) <| Zw (Zq1) <| Zw (ZrJ) <| ZDP
def ZHY:Tab:=[(2,ti2),(3,ti3),(4,ti4),(5,ti5),(6,ti6),(7,ti7),(8,ti8),(9,ti9),(10,ZCe),(22,ZCW),(24,ZCB),(25,ZDV),(26,ZEM),(27,ZEy),(29,ZBU),(30,ZDU),(32,ZBM),(33,ZEX),(34,ZCZ),(35,ZD6),(36,ZEv),(38,ZCq),(44,ZE5),(46,ZB5),(47,ZDS),(48,ZCN),(50,ZCy),(51,ZD8),(53,ZCd),(54,ZDe),(55,ZDK),(56,ZFe),(57,ZE7),(59,ZBW),(60,ZD1),(62,ZCk),(79,Zvn),(81,ZBZ),(86,ZBI),(88,ZBP),(150,Zx9),(151,ZA7),(155,ZxZ),(157,ZxP),(167,ZyG),(169,Zyl),(172,Zzd),(185,ZxV),(187,ZyS),(189,ZyT),(191,ZxT),(193,ZxX),(219,ZxC),(221,Zzb),(222,ZBw),(240,Zy4),(244,ZxN),(246,Zyd),(249,ZBu),(250,ZA1),(252,Zze),(257,Zyz),(266,ZAN),(267,ZBa),(269,ZxH),(271,ZyH),(273,ZxL),(274,ZBo),(275,ZAU),(277,Zy2),(285,Zyu),(287,ZBB),(289,Zx5),(299,ZPt),(306,ZtB),(318,ZA3),(320,ZyR),(341,ZyK),(351,Zy1),(362,Zx0),(364,ZBt),(366,Zyr),(375,ZyV),(400,ZyA)]
theorem Zxn:ZHY.ok Tryz.prog :=
 Zw (ZwQ) <| Zw (ZvW) <| Zw (Zxc) <| Zw (Zw5) <| Zw (ZwA) <| Zw (Zxj) <| Zw (Zxk) <| Zw (Zwx) <| Zw (ZtE) <| Zw (⟨ZfQ.info,ZfQ.kind,ZfQ.flds,ZfQ.elem,ZfQ.eqd⟩) <| Zw (ZtP) <| Zw (⟨Zgl.info,Zgl.kind,Zgl.flds,Zgl.elem,Zgl.eqd⟩) <| Zw (⟨ZkX.info,ZkX.kind,ZkX.flds,ZkX.elem,ZkX.eqd⟩) <| Zw (⟨ZkJ.info,ZkJ.kind,ZkJ.flds,ZkJ.elem,ZkJ.eqd⟩) <| Zw (Zue) <| Zw (⟨ZfJ.info,ZfJ.kind,ZfJ.flds,ZfJ.elem,ZfJ.eqd⟩) <| Zw (ZtO) <| Zw (⟨Zk5.info,Zk5.kind,Zk5.flds,Zk5.elem,Zk5.eqd⟩) <| Zw (⟨ZkO.info,ZkO.kind,ZkO.flds,ZkO.elem,ZkO.eqd⟩) <| Zw (⟨ZfT.info,ZfT.kind,ZfT.flds,ZfT.elem,ZfT.eqd⟩) <| Zw (⟨ZkZ.info,ZkZ.kind,ZkZ.flds,ZkZ.elem,ZkZ.eqd⟩) <| Zw (Zud) <| Zw (⟨ZfK.info,ZfK.kind,ZfK.flds,ZfK.elem,ZfK.eqd⟩) <| Zw (ZtS) <| Zw (⟨Zgn.info,Zgn.kind,Zgn.flds,Zgn.elem,Zgn.eqd⟩) <| Zw (⟨ZkR.info,ZkR.kind,ZkR.flds,ZkR.elem,ZkR.eqd⟩) <| Zw (ZtI) <| Zw (⟨ZfZ.info,ZfZ.kind,ZfZ.flds,ZfZ.elem,ZfZ.eqd⟩) <| Zw (Ztn) <| Zw (⟨ZkG.info,ZkG.kind,ZkG.flds,ZkG.elem,ZkG.eqd⟩) <| Zw (⟨Zlw.info,Zlw.kind,Zlw.flds,Zlw.elem,Zlw.eqd⟩) <| Zw (⟨Zgm.info,Zgm.kind,Zgm.flds,Zgm.elem,Zgm.eqd⟩) <| Zw (⟨Zle.info,Zle.kind,Zle.flds,Zle.elem,Zle.eqd⟩) <| Zw (ZtK) <| Zw (⟨Zge.info,Zge.kind,Zge.flds,Zge.elem,Zge.eqd⟩) <| Zw (Zt9) <| Zw (ZtW) <| Zw (Zt1) <| Zw (Ztx) <| Zw (Zuc) <| Zw (Zsl) <| Zw (⟨ZhQ.info,ZhQ.kind,ZhQ.flds,ZhQ.elem,ZhQ.eqd⟩) <| Zw (Zrr) <| Zw (Zrn) <| Zw (Zsg) <| Zw (Zre) <| Zw (ZrF) <| Zw (ZrD) <| Zw (Zrc) <| Zw (Zrb) <| Zw (ZqW) <| Zw (Zse) <| Zw (Zrx) <| Zw (Zrs) <| Zw (⟨ZhU.info,ZhU.kind,ZhU.flds,ZhU.elem,ZhU.eqd⟩) <| Zw (ZrX) <| Zw (ZqZ) <| Zw (Zq0) <| Zw (⟨ZhZ.info,ZhZ.kind,ZhZ.flds,ZhZ.elem,ZhZ.eqd⟩) <| Zw (⟨Zdm.info,Zdm.kind,Zdm.flds,Zdm.elem,Zdm.eqd⟩) <| Zw (ZqU) <| Zw (Zr0) <| Zw (⟨Zh1.info,Zh1.kind,Zh1.flds,Zh1.elem,Zh1.eqd⟩) <| Zw (⟨Zc8.info,Zc8.kind,Zc8.flds,Zc8.elem,Zc8.eqd⟩) <| Zw (Zsm) <| Zw (Zrg) <| Zw (ZrO) <| Zw (⟨ZhT.info,ZhT.kind,ZhT.flds,ZhT.elem,ZhT.eqd⟩) <| Zw (⟨Zdp.info,Zdp.kind,Zdp.flds,Zdp.elem,Zdp.eqd⟩) <| Zw (ZrT) <| Zw (ZrI) <| Zw (⟨ZdD.info,ZdD.kind,ZdD.flds,ZdD.elem,ZdD.eqd⟩) <| Zw (Zra) <| Zw (ZO5) <| Zw (Zrv) <| Zw (⟨Zis.info,Zis.kind,Zis.flds,Zis.elem,Zis.eqd⟩) <| Zw (Zsi) <| Zw (Zq4) <| Zw (Zsb) <| Zw (Zrh) <| Zw (⟨Zdb.info,Zdb.kind,Zdb.flds,Zdb.elem,Zdb.eqd⟩) <| Zw (ZrC) <| Zw (Zq1) <| Zw (ZrJ) <| ZDP
end Go.Proofs.YthkhedimjmkifaaGreatDoor
