/-
  Plain laws: marks are held.
-/
import Derived.Test.YthkhedimjmkifaaGreatDoorLA
import Derived.Test.YthkhedimjmkifaaGreatDoorLB
import Derived.Test.YthkhedimjmkifaaGreatDoorLC
namespace Go.Proofs.YthkhedimjmkifaaGreatDoor
set_option linter.unusedVariables false
set_option linter.unusedSimpArgs false
open Go Go.Sx
theorem ZPk (a:Za) (h:tot Y3 a≤1048576):cnt Y3 a≤100+20*1048576:=by
 have hc:=ZOX Y3 a
 have h1:wid Y3≤100:=by decide
 have h2:ZKp Y3≤20:=by decide
 have:=Nat.mul_le_mul_right (tot Y3 a) h2
 omega
end Go.Proofs.YthkhedimjmkifaaGreatDoor
/-
  Plain laws: marks, exactly; marks are held. Printed by program (heldgen.py).
-/
namespace Go.Proofs.YthkhedimjmkifaaGreatDoor
open Go Go.Sx
set_option maxHeartbeats 3200000
set_option linter.unusedVariables false
set_option linter.unusedSimpArgs false
noncomputable def mt (k:Int):List UInt8:=(ZII k).getD []
theorem ZNU {k:Int} (h0:0≤k) (h1:k≤4611686018427387904):ZII k=some (mt k):=by
 obtain ⟨s,h⟩:=ZKq k h0 h1
 unfold mt;rw [h];rfl
theorem ZJs {α:Type} {L:List α} {j:Nat} {z z':α} {A A' B B':Int} (hA:A=A') (hB:B=B') (hz:z=z'):(some (.inl (A,B,List.set L j z,())):Option ((Int×Int×List α×Unit) ⊕ (Int×List α)))=some (.inl (A',B',List.set L j z',())):=by rw [hA,hB,hz]
theorem ZJl {A A' B B':Int} (hA:A=A') (hB:B=B'):(some (.inl (A,B,())):Option ((Int×Int×Unit) ⊕ Int))=some (.inl (A',B',())):=by rw [hA,hB]
theorem ZOz (l:List (YP)) (k:Int) (hs:sm (.sl (ZgP)) l) (h0:0≤k) (h1:k+((cnt (.sl (ZgP)) l:Nat):Int)≤4611686018427387904):ZJX l k=some (k+((cnt (.sl (ZgP)) l:Nat):Int),mkL (mkA mt (ZgP)) (cnt (ZgP)) l k):=by
 unfold ZJX
 have hl:l.length≤1048576:=by have:=hs.1;omega
 refine ZKS (f:=mkA mt (ZgP)) (c:=cnt (ZgP)) (fun j m x L hj hj' hx hxm hm0 hm1 hj2=>?_) (fun m L=>?_) hl h0 h1
 ·have hsx:=hs.2 x hxm
  have hc:((cnt (ZgP) x:Nat):Int)=0+1+1+1+1:=by simp only [ZIL,ZIO,ZIK,ZIM,ZIQ];omega
  have e0:=ZNU (k:=m) (by omega) (by omega)
  have hx2:atI L (j:Int)=some x:=by rw [Zu];exact hx
  have hb:∀ {β:Type} (y:YP) (F:YP→Option β),(atI (List.set L j y) (j:Int)).bind F=F y:=fun y F=>by rw [ZrL hj];rfl
  simp only [ZJe,if_pos hj',Int.toNat_natCast,hx2,↓hb,Option.bind_some,List.set_set,e0]
  refine ZJs ?_ ?_ ?_
  ·have hc:=hc;simp (disch:=omega) only [Jr];omega
  ·simp (disch:=omega) only [Jr];omega
  ·simp (disch:=omega) only [Jr];rfl
 ·simp only [ZJe,Int.lt_irrefl,if_false]
theorem ZIB (l:List (Int)) (k:Int) (hs:sm (.sl (.int .i64)) l) (h0:0≤k) (h1:k+((cnt (.sl (.int .i64)) l:Nat):Int)≤4611686018427387904):ZIC l k=some (k+((cnt (.sl (.int .i64)) l:Nat):Int),mkL (mkA mt (.int .i64)) (cnt (.int .i64)) l k):=by
 unfold ZIC
 have hl:l.length≤1048576:=by have:=hs.1;omega
 refine ZKS (f:=mkA mt (.int .i64)) (c:=cnt (.int .i64)) (fun j m x L hj hj' hx hxm hm0 hm1 hj2=>?_) (fun m L=>?_) hl h0 h1
 ·have hsx:=hs.2 x hxm
  have hc:((cnt (.int .i64) x:Nat):Int)=0+1:=by rfl
  simp (disch:=omega) only [ZI2,if_pos hj',Zu,hx,Option.bind_some,Jr,Int.toNat_natCast,ZrL,List.length_set,List.set_set,List.getElem?_set_self]
  refine ZJs ?_ ?_ rfl
  ·have hc:=hc;omega
  ·omega
 ·simp only [ZI2,Int.lt_irrefl,if_false]
theorem ZKQ (l:List (ZA)) (k:Int) (hs:sm (.sl (XE)) l) (h0:0≤k) (h1:k+((cnt (.sl (XE)) l:Nat):Int)≤4611686018427387904):ZJf l k=some (k+((cnt (.sl (XE)) l:Nat):Int),mkL (mkA mt (XE)) (cnt (XE)) l k):=by
 unfold ZJf
 have hl:l.length≤1048576:=by have:=hs.1;omega
 refine ZKS (f:=mkA mt (XE)) (c:=cnt (XE)) (fun j m x L hj hj' hx hxm hm0 hm1 hj2=>?_) (fun m L=>?_) hl h0 h1
 ·have hsx:=hs.2 x hxm
  have hc:((cnt (XE) x:Nat):Int)=0+((cnt (.sl (.int .i64)) x.1:Nat):Int)+((cnt (.sl (.int .i64)) x.2.1:Nat):Int)+((cnt (.sl (.int .i64)) x.2.2.1:Nat):Int):=by simp only [ZIL,ZIO,ZIK,ZIM,ZIQ];omega
  have e0:=ZIB x.1 (m) hsx.1 (by omega) (by omega)
  have e1:=ZIB x.2.1 (m+((cnt (.sl (.int .i64)) x.1:Nat):Int)) hsx.2.1 (by omega) (by omega)
  have e2:=ZIB x.2.2.1 (m+((cnt (.sl (.int .i64)) x.1:Nat):Int)+((cnt (.sl (.int .i64)) x.2.1:Nat):Int)) hsx.2.2.1 (by omega) (by omega)
  simp (disch:=omega) only [ZI3,if_pos hj',Zu,hx,Option.bind_some,Jr,Int.toNat_natCast,ZrL,List.length_set,List.set_set,List.getElem?_set_self,e0,e1,e2]
  refine ZJs ?_ ?_ rfl
  ·have hc:=hc;omega
  ·omega
 ·simp only [ZI3,Int.lt_irrefl,if_false]
theorem ZOw (l:List (ZJ)) (k:Int) (hs:sm (.sl (Zib)) l) (h0:0≤k) (h1:k+((cnt (.sl (Zib)) l:Nat):Int)≤4611686018427387904):ZJW l k=some (k+((cnt (.sl (Zib)) l:Nat):Int),mkL (mkA mt (Zib)) (cnt (Zib)) l k):=by
 unfold ZJW
 have hl:l.length≤1048576:=by have:=hs.1;omega
 refine ZKS (f:=mkA mt (Zib)) (c:=cnt (Zib)) (fun j m x L hj hj' hx hxm hm0 hm1 hj2=>?_) (fun m L=>?_) hl h0 h1
 ·have hsx:=hs.2 x hxm
  have hc:((cnt (Zib) x:Nat):Int)=0+1+1+1+1+((cnt (.sl (XE)) x.2.2.2.2.1:Nat):Int)+((cnt (.sl (XE)) x.2.2.2.2.2.1:Nat):Int):=by simp only [ZIL,ZIO,ZIK,ZIM,ZIQ];omega
  have e4:=ZKQ x.2.2.2.2.1 (m+1+1+1+1) hsx.2.2.2.2.1 (by omega) (by omega)
  have e5:=ZKQ x.2.2.2.2.2.1 (m+1+1+1+1+((cnt (.sl (XE)) x.2.2.2.2.1:Nat):Int)) hsx.2.2.2.2.2.1 (by omega) (by omega)
  simp (disch:=omega) only [ZJd,if_pos hj',Zu,hx,Option.bind_some,Jr,Int.toNat_natCast,ZrL,List.length_set,List.set_set,List.getElem?_set_self,e4,e5]
  refine ZJs ?_ ?_ rfl
  ·have hc:=hc;omega
  ·omega
 ·simp only [ZJd,Int.lt_irrefl,if_false]
theorem ZOk (l:List (Zm)) (k:Int) (hs:sm (.sl (QL)) l) (h0:0≤k) (h1:k+((cnt (.sl (QL)) l:Nat):Int)≤4611686018427387904):ZJL l k=some (k+((cnt (.sl (QL)) l:Nat):Int),mkL (mkA mt (QL)) (cnt (QL)) l k):=by
 unfold ZJL
 have hl:l.length≤1048576:=by have:=hs.1;omega
 refine ZKS (f:=mkA mt (QL)) (c:=cnt (QL)) (fun j m x L hj hj' hx hxm hm0 hm1 hj2=>?_) (fun m L=>?_) hl h0 h1
 ·have hsx:=hs.2 x hxm
  have hc:((cnt (QL) x:Nat):Int)=0+1+1+((cnt (.sl (ZgP)) x.2.2.1:Nat):Int)+((cnt (.sl (Zib)) x.2.2.2.1:Nat):Int)+((cnt (.sl (.int .i64)) x.2.2.2.2.1:Nat):Int)+1+1:=by simp only [ZIL,ZIO,ZIK,ZIM,ZIQ];omega
  have e0:=ZNU (k:=m) (by omega) (by omega)
  have e2:=ZOz x.2.2.1 (m+1+1) hsx.2.2.1 (by omega) (by omega)
  have e3:=ZOw x.2.2.2.1 (m+1+1+((cnt (.sl (ZgP)) x.2.2.1:Nat):Int)) hsx.2.2.2.1 (by omega) (by omega)
  have e4:=ZIB x.2.2.2.2.1 (m+1+1+((cnt (.sl (ZgP)) x.2.2.1:Nat):Int)+((cnt (.sl (Zib)) x.2.2.2.1:Nat):Int)) hsx.2.2.2.2.1 (by omega) (by omega)
  simp (disch:=omega) only [ZI8,if_pos hj',Zu,hx,Option.bind_some,Jr,Int.toNat_natCast,ZrL,List.length_set,List.set_set,List.getElem?_set_self,e0,e2,e3,e4]
  refine ZJs ?_ ?_ rfl
  ·have hc:=hc;omega
  ·omega
 ·simp only [ZI8,Int.lt_irrefl,if_false]
theorem ZNZ (a:Zo) (k:Int) (hs:sm (Xh) a) (h0:0≤k) (h1:k+((ZIZ (Xh) a:Nat):Int)≤4611686018427387904):ZJj a k=some (k+((ZIZ (Xh) a:Nat):Int),mkT mt (Xh) a k):=by
 unfold ZJj
 have hc:((ZIZ (Xh) a:Nat):Int)=0+(((cnt (.sl (QL)) a.1):Nat):Int):=by simp only [ZIZ];omega
 have e0:=ZOk a.1 (k) hs.1 (by omega) (by omega)
 simp only [Option.bind_some,e0]
 refine congrArg some (Prod.ext (by show _=k+_;rw [hc,Int.zero_add]) rfl)
theorem ZNO (l:List (Ze)) (k:Int) (hs:sm (.sl (Yq)) l) (h0:0≤k) (h1:k+((cnt (.sl (Yq)) l:Nat):Int)≤4611686018427387904):ZI6 l k=some (k+((cnt (.sl (Yq)) l:Nat):Int),mkL (mkA mt (Yq)) (cnt (Yq)) l k):=by
 unfold ZI6
 have hl:l.length≤1048576:=by have:=hs.1;omega
 refine ZKS (f:=mkA mt (Yq)) (c:=cnt (Yq)) (fun j m x L hj hj' hx hxm hm0 hm1 hj2=>?_) (fun m L=>?_) hl h0 h1
 ·have hsx:=hs.2 x hxm
  have hc:((cnt (Yq) x:Nat):Int)=0+1+1+((cnt (.sl (.int .i64)) x.2.2.1:Nat):Int):=by simp only [ZIL,ZIO,ZIK,ZIM,ZIQ];omega
  have e0:=ZNU (k:=m) (by omega) (by omega)
  have e2:=ZIB x.2.2.1 (m+1+1) hsx.2.2.1 (by omega) (by omega)
  simp (disch:=omega) only [ZIT,if_pos hj',Zu,hx,Option.bind_some,Jr,Int.toNat_natCast,ZrL,List.length_set,List.set_set,List.getElem?_set_self,e0,e2]
  refine ZJs ?_ ?_ rfl
  ·have hc:=hc;omega
  ·omega
 ·simp only [ZIT,Int.lt_irrefl,if_false]
theorem ZN1 (l:List (List UInt8)) (k:Int) (hs:sm (.sl (.str)) l) (h0:0≤k) (h1:k+((cnt (.sl (.str)) l:Nat):Int)≤4611686018427387904):ZJk l k=some (k+((cnt (.sl (.str)) l:Nat):Int),mkL (mkA mt (.str)) (cnt (.str)) l k):=by
 unfold ZJk
 have hl:l.length≤1048576:=by have:=hs.1;omega
 refine ZKS (f:=mkA mt (.str)) (c:=cnt (.str)) (fun j m x L hj hj' hx hxm hm0 hm1 hj2=>?_) (fun m L=>?_) hl h0 h1
 ·have hsx:=hs.2 x hxm
  have hc:((cnt (.str) x:Nat):Int)=0+1:=by rfl
  have e0:=ZNU (k:=m) (by omega) (by omega)
  simp (disch:=omega) only [ZIY,if_pos hj',Zu,hx,Option.bind_some,Jr,Int.toNat_natCast,ZrL,List.length_set,List.set_set,List.getElem?_set_self,e0]
  refine ZJs ?_ ?_ rfl
  ·have hc:=hc;omega
  ·omega
 ·simp only [ZIY,Int.lt_irrefl,if_false]
theorem ZOm (l:List (ZR)) (k:Int) (hs:sm (.sl (Zcd)) l) (h0:0≤k) (h1:k+((cnt (.sl (Zcd)) l:Nat):Int)≤4611686018427387904):ZJM l k=some (k+((cnt (.sl (Zcd)) l:Nat):Int),mkL (mkA mt (Zcd)) (cnt (Zcd)) l k):=by
 unfold ZJM
 have hl:l.length≤1048576:=by have:=hs.1;omega
 refine ZKS (f:=mkA mt (Zcd)) (c:=cnt (Zcd)) (fun j m x L hj hj' hx hxm hm0 hm1 hj2=>?_) (fun m L=>?_) hl h0 h1
 ·have hsx:=hs.2 x hxm
  have hc:((cnt (Zcd) x:Nat):Int)=0+1+1+1:=by simp only [ZIL,ZIO,ZIK,ZIM,ZIQ];omega
  have e0:=ZNU (k:=m) (by omega) (by omega)
  have hx2:atI L (j:Int)=some x:=by rw [Zu];exact hx
  have hb:∀ {β:Type} (y:ZR) (F:ZR→Option β),(atI (List.set L j y) (j:Int)).bind F=F y:=fun y F=>by rw [ZrL hj];rfl
  simp only [ZI9,if_pos hj',Int.toNat_natCast,hx2,↓hb,Option.bind_some,List.set_set,e0]
  refine ZJs ?_ ?_ ?_
  ·have hc:=hc;simp (disch:=omega) only [Jr];omega
  ·simp (disch:=omega) only [Jr];omega
  ·simp (disch:=omega) only [Jr];rfl
 ·simp only [ZI9,Int.lt_irrefl,if_false]
theorem ZN7 (a:Zb) (k:Int) (hs:sm (YG) a) (h0:0≤k) (h1:k+((ZIZ (YG) a:Nat):Int)≤4611686018427387904):ZJC a k=some (k+((ZIZ (YG) a:Nat):Int),mkT mt (YG) a k):=by
 unfold ZJC
 have hc:((ZIZ (YG) a:Nat):Int)=0+(((cnt (.sl (Yq)) a.1):Nat):Int)+(((cnt (.sl (.str)) a.2.1):Nat):Int)+(((cnt (.sl (Zcd)) a.2.2.1):Nat):Int):=by simp only [ZIZ];omega
 have e0:=ZNO a.1 (k) hs.1 (by omega) (by omega)
 have e1:=ZN1 a.2.1 (k+(((cnt (.sl (Yq)) a.1):Nat):Int)) hs.2.1 (by omega) (by omega)
 have e2:=ZOm a.2.2.1 (k+(((cnt (.sl (Yq)) a.1):Nat):Int)+(((cnt (.sl (.str)) a.2.1):Nat):Int)) hs.2.2.1 (by omega) (by omega)
 simp only [Option.bind_some,e0,e1,e2]
 refine congrArg some (Prod.ext (by show _=k+_;rw [hc];omega) rfl)
theorem ZOo (l:List (Zr)) (k:Int) (hs:sm (.sl (Vv)) l) (h0:0≤k) (h1:k+((cnt (.sl (Vv)) l:Nat):Int)≤4611686018427387904):ZJN l k=some (k+((cnt (.sl (Vv)) l:Nat):Int),mkL (mkA mt (Vv)) (cnt (Vv)) l k):=by
 unfold ZJN
 have hl:l.length≤1048576:=by have:=hs.1;omega
 refine ZKS (f:=mkA mt (Vv)) (c:=cnt (Vv)) (fun j m x L hj hj' hx hxm hm0 hm1 hj2=>?_) (fun m L=>?_) hl h0 h1
 ·have hsx:=hs.2 x hxm
  have hc:((cnt (Vv) x:Nat):Int)=0+((cnt (.sl (.int .i64)) x.1:Nat):Int)+((cnt (.sl (.int .i64)) x.2.1:Nat):Int)+((cnt (.sl (.int .i64)) x.2.2.1:Nat):Int)+((cnt (.sl (.int .i64)) x.2.2.2.1:Nat):Int):=by simp only [ZIL,ZIO,ZIK,ZIM,ZIQ];omega
  have e0:=ZIB x.1 (m) hsx.1 (by omega) (by omega)
  have e1:=ZIB x.2.1 (m+((cnt (.sl (.int .i64)) x.1:Nat):Int)) hsx.2.1 (by omega) (by omega)
  have e2:=ZIB x.2.2.1 (m+((cnt (.sl (.int .i64)) x.1:Nat):Int)+((cnt (.sl (.int .i64)) x.2.1:Nat):Int)) hsx.2.2.1 (by omega) (by omega)
  have e3:=ZIB x.2.2.2.1 (m+((cnt (.sl (.int .i64)) x.1:Nat):Int)+((cnt (.sl (.int .i64)) x.2.1:Nat):Int)+((cnt (.sl (.int .i64)) x.2.2.1:Nat):Int)) hsx.2.2.2.1 (by omega) (by omega)
  simp (disch:=omega) only [ZJa,if_pos hj',Zu,hx,Option.bind_some,Jr,Int.toNat_natCast,ZrL,List.length_set,List.set_set,List.getElem?_set_self,e0,e1,e2,e3]
  refine ZJs ?_ ?_ rfl
  ·have hc:=hc;omega
  ·omega
 ·simp only [ZJa,Int.lt_irrefl,if_false]
theorem ZOi (a:Za) (k:Int) (hs:sm (Y3) a) (h0:0≤k) (h1:k+((ZIZ (Y3) a:Nat):Int)≤4611686018427387904):ZJt a k=some (k+((ZIZ (Y3) a:Nat):Int),mkT mt (Y3) a k):=by
 unfold ZJt
 have hc:((ZIZ (Y3) a:Nat):Int)=0+(((ZIZ (Xh) a.1):Nat):Int)+(((ZIZ (YG) a.2.1):Nat):Int)+(((cnt (.sl (Vv)) a.2.2.1):Nat):Int):=by simp only [ZIZ];omega
 have e0:=ZNZ a.1 (k) hs.1 (by omega) (by omega)
 have e1:=ZN7 a.2.1 (k+(((ZIZ (Xh) a.1):Nat):Int)) hs.2.1 (by omega) (by omega)
 have e2:=ZOo a.2.2.1 (k+(((ZIZ (Xh) a.1):Nat):Int)+(((ZIZ (YG) a.2.1):Nat):Int)) hs.2.2.1 (by omega) (by omega)
 simp only [Option.bind_some,e0,e1,e2]
 refine congrArg some (Prod.ext (by show _=k+_;rw [hc];omega) rfl)
theorem ZN6 (l:List (Zl)) (k:Int) (hs:sm (.sl (XF)) l) (h0:0≤k) (h1:k+((cnt (.sl (XF)) l:Nat):Int)≤4611686018427387904):ZKn l k=some (k+((cnt (.sl (XF)) l:Nat):Int),mkL (mkA mt (XF)) (cnt (XF)) l k):=by
 unfold ZKn
 have hl:l.length≤1048576:=by have:=hs.1;omega
 refine ZKS (f:=mkA mt (XF)) (c:=cnt (XF)) (fun j m x L hj hj' hx hxm hm0 hm1 hj2=>?_) (fun m L=>?_) hl h0 h1
 ·have hsx:=hs.2 x hxm
  have hc:((cnt (XF) x:Nat):Int)=0+1+1+1+1+1+1+1+1+1+1+1:=by simp only [ZIL,ZIO,ZIK,ZIM,ZIQ];omega
  have e0:=ZNU (k:=m) (by omega) (by omega)
  have hx2:atI L (j:Int)=some x:=by rw [Zu];exact hx
  have hb:∀ {β:Type} (y:Zl) (F:Zl→Option β),(atI (List.set L j y) (j:Int)).bind F=F y:=fun y F=>by rw [ZrL hj];rfl
  simp only [ZJV,if_pos hj',Int.toNat_natCast,hx2,↓hb,Option.bind_some,List.set_set,e0]
  refine ZJs ?_ ?_ ?_
  ·have hc:=hc;simp (disch:=omega) only [Jr];omega
  ·simp (disch:=omega) only [Jr];omega
  ·simp (disch:=omega) only [Jr];rfl
 ·simp only [ZJV,Int.lt_irrefl,if_false]
theorem ZKy (l:List (Zj)) (k:Int) (hs:sm (.sl (Yg)) l) (h0:0≤k) (h1:k+((cnt (.sl (Yg)) l:Nat):Int)≤4611686018427387904):ZJr l k=some (k+((cnt (.sl (Yg)) l:Nat):Int),mkL (mkA mt (Yg)) (cnt (Yg)) l k):=by
 unfold ZJr
 have hl:l.length≤1048576:=by have:=hs.1;omega
 refine ZKS (f:=mkA mt (Yg)) (c:=cnt (Yg)) (fun j m x L hj hj' hx hxm hm0 hm1 hj2=>?_) (fun m L=>?_) hl h0 h1
 ·have hsx:=hs.2 x hxm
  have hc:((cnt (Yg) x:Nat):Int)=0+1+1+1+1+1+1:=by simp only [ZIL,ZIO,ZIK,ZIM,ZIQ];omega
  have hx2:atI L (j:Int)=some x:=by rw [Zu];exact hx
  have hb:∀ {β:Type} (y:Zj) (F:Zj→Option β),(atI (List.set L j y) (j:Int)).bind F=F y:=fun y F=>by rw [ZrL hj];rfl
  simp only [ZJD,if_pos hj',Int.toNat_natCast,hx2,↓hb,Option.bind_some,List.set_set]
  refine ZJs ?_ ?_ ?_
  ·have hc:=hc;simp (disch:=omega) only [Jr];omega
  ·simp (disch:=omega) only [Jr];omega
  ·simp (disch:=omega) only [Jr]
   refine Prod.ext ?_ (Prod.ext ?_ (Prod.ext (Prod.ext ?_ (Prod.ext ?_ rfl)) (Prod.ext (Prod.ext ?_ (Prod.ext ?_ rfl)) rfl)))
   ·show m=m;omega
   ·show m+1=m+((1:Nat):Int);omega
   ·show m+1+1=m+((1:Nat):Int)+((1:Nat):Int);omega
   ·show m+1+1+1=m+((1:Nat):Int)+((1:Nat):Int)+((1:Nat):Int);omega
   ·show m+1+1+1+1=m+((1:Nat):Int)+((1:Nat):Int)+((2:Nat):Int);omega
   ·show m+1+1+1+1+1=m+((1:Nat):Int)+((1:Nat):Int)+((2:Nat):Int)+((1:Nat):Int);omega
 ·simp only [ZJD,Int.lt_irrefl,if_false]
theorem ZM7 (l:List (Zg)) (k:Int) (hs:sm (.sl (Yn)) l) (h0:0≤k) (h1:k+((cnt (.sl (Yn)) l:Nat):Int)≤4611686018427387904):ZJJ l k=some (k+((cnt (.sl (Yn)) l:Nat):Int),mkL (mkA mt (Yn)) (cnt (Yn)) l k):=by
 unfold ZJJ
 have hl:l.length≤1048576:=by have:=hs.1;omega
 refine ZKS (f:=mkA mt (Yn)) (c:=cnt (Yn)) (fun j m x L hj hj' hx hxm hm0 hm1 hj2=>?_) (fun m L=>?_) hl h0 h1
 ·have hsx:=hs.2 x hxm
  have hc:((cnt (Yn) x:Nat):Int)=0+1+1+((cnt (.sl (.int .i64)) x.2.2.1:Nat):Int)+((cnt (.sl (.int .i64)) x.2.2.2.1:Nat):Int)+((cnt (.sl (.int .i64)) x.2.2.2.2.1:Nat):Int):=by simp only [ZIL,ZIO,ZIK,ZIM,ZIQ];omega
  have e2:=ZIB x.2.2.1 (m+1+1) hsx.2.2.1 (by omega) (by omega)
  have e3:=ZIB x.2.2.2.1 (m+1+1+((cnt (.sl (.int .i64)) x.2.2.1:Nat):Int)) hsx.2.2.2.1 (by omega) (by omega)
  have e4:=ZIB x.2.2.2.2.1 (m+1+1+((cnt (.sl (.int .i64)) x.2.2.1:Nat):Int)+((cnt (.sl (.int .i64)) x.2.2.2.1:Nat):Int)) hsx.2.2.2.2.1 (by omega) (by omega)
  simp (disch:=omega) only [ZJu,if_pos hj',Zu,hx,Option.bind_some,Jr,Int.toNat_natCast,ZrL,List.length_set,List.set_set,List.getElem?_set_self,e2,e3,e4]
  refine ZJs ?_ ?_ rfl
  ·have hc:=hc;omega
  ·omega
 ·simp only [ZJu,Int.lt_irrefl,if_false]
theorem ZNY (l:List (Zy)) (k:Int) (hs:sm (.sl (Xf)) l) (h0:0≤k) (h1:k+((cnt (.sl (Xf)) l:Nat):Int)≤4611686018427387904):ZKf l k=some (k+((cnt (.sl (Xf)) l:Nat):Int),mkL (mkA mt (Xf)) (cnt (Xf)) l k):=by
 unfold ZKf
 have hl:l.length≤1048576:=by have:=hs.1;omega
 refine ZKS (f:=mkA mt (Xf)) (c:=cnt (Xf)) (fun j m x L hj hj' hx hxm hm0 hm1 hj2=>?_) (fun m L=>?_) hl h0 h1
 ·have hsx:=hs.2 x hxm
  have hc:((cnt (Xf) x:Nat):Int)=0+1+1+1+1+1:=by simp only [ZIL,ZIO,ZIK,ZIM,ZIQ];omega
  have e0:=ZNU (k:=m) (by omega) (by omega)
  have hx2:atI L (j:Int)=some x:=by rw [Zu];exact hx
  have hb:∀ {β:Type} (y:Zy) (F:Zy→Option β),(atI (List.set L j y) (j:Int)).bind F=F y:=fun y F=>by rw [ZrL hj];rfl
  simp only [ZJO,if_pos hj',Int.toNat_natCast,hx2,↓hb,Option.bind_some,List.set_set,e0]
  refine ZJs ?_ ?_ ?_
  ·have hc:=hc;simp (disch:=omega) only [Jr];omega
  ·simp (disch:=omega) only [Jr];omega
  ·simp (disch:=omega) only [Jr];rfl
 ·simp only [ZJO,Int.lt_irrefl,if_false]
theorem ZLj (a:Zn) (k:Int) (hs:sm (QX) a) (h0:0≤k) (h1:k+((ZIZ (QX) a:Nat):Int)≤4611686018427387904):ZJ7 a k=some (k+((ZIZ (QX) a:Nat):Int),mkT mt (QX) a k):=by
 unfold ZJ7
 have hc:((ZIZ (QX) a:Nat):Int)=0+(((cnt (.sl (XF)) a.1):Nat):Int)+(((cnt (.sl (Yg)) a.2.1):Nat):Int)+(((cnt (.sl (Yg)) a.2.2.1):Nat):Int)+(((cnt (.sl (Yn)) a.2.2.2.1):Nat):Int)+(((cnt (.sl (Xf)) a.2.2.2.2.1):Nat):Int):=by simp only [ZIZ];omega
 have e0:=ZN6 a.1 (k) hs.1 (by omega) (by omega)
 have e1:=ZKy a.2.1 (k+(((cnt (.sl (XF)) a.1):Nat):Int)) hs.2.1 (by omega) (by omega)
 have e2:=ZKy a.2.2.1 (k+(((cnt (.sl (XF)) a.1):Nat):Int)+(((cnt (.sl (Yg)) a.2.1):Nat):Int)) hs.2.2.1 (by omega) (by omega)
 have e3:=ZM7 a.2.2.2.1 (k+(((cnt (.sl (XF)) a.1):Nat):Int)+(((cnt (.sl (Yg)) a.2.1):Nat):Int)+(((cnt (.sl (Yg)) a.2.2.1):Nat):Int)) hs.2.2.2.1 (by omega) (by omega)
 have e4:=ZNY a.2.2.2.2.1 (k+(((cnt (.sl (XF)) a.1):Nat):Int)+(((cnt (.sl (Yg)) a.2.1):Nat):Int)+(((cnt (.sl (Yg)) a.2.2.1):Nat):Int)+(((cnt (.sl (Yn)) a.2.2.2.1):Nat):Int)) hs.2.2.2.2.1 (by omega) (by omega)
 simp only [Option.bind_some,e0,e1,e2,e3,e4]
 refine congrArg some (Prod.ext (by show _=k+_;rw [hc];omega) rfl)
theorem ZLi (l:List (Zh)) (k:Int) (hs:sm (.sl (XL)) l) (h0:0≤k) (h1:k+((cnt (.sl (XL)) l:Nat):Int)≤4611686018427387904):ZJ6 l k=some (k+((cnt (.sl (XL)) l:Nat):Int),mkL (mkA mt (XL)) (cnt (XL)) l k):=by
 unfold ZJ6
 have hl:l.length≤1048576:=by have:=hs.1;omega
 refine ZKS (f:=mkA mt (XL)) (c:=cnt (XL)) (fun j m x L hj hj' hx hxm hm0 hm1 hj2=>?_) (fun m L=>?_) hl h0 h1
 ·have hsx:=hs.2 x hxm
  have hc:((cnt (XL) x:Nat):Int)=0+1+1+1+1+1+1+((cnt (.sl (.int .i64)) x.2.2.2.2.2.2.1.1:Nat):Int)+((cnt (.sl (.int .i64)) x.2.2.2.2.2.2.1.2.1:Nat):Int)+((cnt (.sl (.int .i64)) x.2.2.2.2.2.2.1.2.2.1:Nat):Int)+((cnt (.sl (.int .i64)) x.2.2.2.2.2.2.1.2.2.2.1:Nat):Int):=by simp only [ZIL,ZIO,ZIK,ZIM,ZIQ];omega
  have e5:=ZNU (k:=m+1+1+1+1+1) (by omega) (by omega)
  have e6:=ZIB x.2.2.2.2.2.2.1.1 (m+1+1+1+1+1+1) hsx.2.2.2.2.2.2.1.1 (by omega) (by omega)
  have e7:=ZIB x.2.2.2.2.2.2.1.2.1 (m+1+1+1+1+1+1+((cnt (.sl (.int .i64)) x.2.2.2.2.2.2.1.1:Nat):Int)) hsx.2.2.2.2.2.2.1.2.1 (by omega) (by omega)
  have e8:=ZIB x.2.2.2.2.2.2.1.2.2.1 (m+1+1+1+1+1+1+((cnt (.sl (.int .i64)) x.2.2.2.2.2.2.1.1:Nat):Int)+((cnt (.sl (.int .i64)) x.2.2.2.2.2.2.1.2.1:Nat):Int)) hsx.2.2.2.2.2.2.1.2.2.1 (by omega) (by omega)
  have e9:=ZIB x.2.2.2.2.2.2.1.2.2.2.1 (m+1+1+1+1+1+1+((cnt (.sl (.int .i64)) x.2.2.2.2.2.2.1.1:Nat):Int)+((cnt (.sl (.int .i64)) x.2.2.2.2.2.2.1.2.1:Nat):Int)+((cnt (.sl (.int .i64)) x.2.2.2.2.2.2.1.2.2.1:Nat):Int)) hsx.2.2.2.2.2.2.1.2.2.2.1 (by omega) (by omega)
  simp only [ZJZ]
  rw [if_pos hj',Zu,hx,Option.bind_some]
  try rw [Jr (n:=m+1) (by omega) (by omega)]
  try rw [Jr (n:=m+1+1) (by omega) (by omega)]
  try rw [Jr (n:=m+1+1+1) (by omega) (by omega)]
  try rw [Jr (n:=m+1+1+1+1) (by omega) (by omega)]
  try rw [Jr (n:=m+1+1+1+1+1) (by omega) (by omega)]
  rw [e5,Option.bind_some]
  try dsimp only
  try rw [Jr (n:=m+1+1+1+1+1+1) (by omega) (by omega)]
  rw [e6,Option.bind_some]
  try dsimp only
  try rw [Jr (n:=m+1+1+1+1+1+1+((cnt (.sl (.int .i64)) x.2.2.2.2.2.2.1.1:Nat):Int)) (by omega) (by omega)]
  rw [e7,Option.bind_some]
  try dsimp only
  try rw [Jr (n:=m+1+1+1+1+1+1+((cnt (.sl (.int .i64)) x.2.2.2.2.2.2.1.1:Nat):Int)+((cnt (.sl (.int .i64)) x.2.2.2.2.2.2.1.2.1:Nat):Int)) (by omega) (by omega)]
  rw [e8,Option.bind_some]
  try dsimp only
  try rw [Jr (n:=m+1+1+1+1+1+1+((cnt (.sl (.int .i64)) x.2.2.2.2.2.2.1.1:Nat):Int)+((cnt (.sl (.int .i64)) x.2.2.2.2.2.2.1.2.1:Nat):Int)+((cnt (.sl (.int .i64)) x.2.2.2.2.2.2.1.2.2.1:Nat):Int)) (by omega) (by omega)]
  rw [e9,Option.bind_some]
  try dsimp only
  try rw [Jr (n:=m+1+1+1+1+1+1+((cnt (.sl (.int .i64)) x.2.2.2.2.2.2.1.1:Nat):Int)+((cnt (.sl (.int .i64)) x.2.2.2.2.2.2.1.2.1:Nat):Int)+((cnt (.sl (.int .i64)) x.2.2.2.2.2.2.1.2.2.1:Nat):Int)+((cnt (.sl (.int .i64)) x.2.2.2.2.2.2.1.2.2.2.1:Nat):Int)) (by omega) (by omega)]
  rw [Jr (n:=(j:Int)+1) (by omega) (by omega),Int.toNat_natCast]
  refine ZJs ?_ ?_ rfl
  ·have hc:=hc;omega
  ·omega
 ·simp only [ZJZ,Int.lt_irrefl,if_false]
theorem ZIS (a:ZH) (k:Int) (hs:sm (Jy) a) (h0:0≤k) (h1:k+((ZIZ (Jy) a:Nat):Int)≤4611686018427387904):ZIP a k=some (k+((ZIZ (Jy) a:Nat):Int),mkT mt (Jy) a k):=by
 unfold ZIP
 have hc:((ZIZ (Jy) a:Nat):Int)=0+(((ZIZ (Y3) a.1):Nat):Int)+(((ZIZ (QX) a.2.1):Nat):Int)+(((cnt (.sl (XL)) a.2.2.1):Nat):Int)+(((cnt (.sl (XL)) a.2.2.2.1):Nat):Int):=by simp only [ZIZ];omega
 have e0:=ZOi a.1 (k) hs.1 (by omega) (by omega)
 have e1:=ZLj a.2.1 (k+(((ZIZ (Y3) a.1):Nat):Int)) hs.2.1 (by omega) (by omega)
 have e2:=ZLi a.2.2.1 (k+(((ZIZ (Y3) a.1):Nat):Int)+(((ZIZ (QX) a.2.1):Nat):Int)) hs.2.2.1 (by omega) (by omega)
 have e3:=ZLi a.2.2.2.1 (k+(((ZIZ (Y3) a.1):Nat):Int)+(((ZIZ (QX) a.2.1):Nat):Int)+(((cnt (.sl (XL)) a.2.2.1):Nat):Int)) hs.2.2.2.1 (by omega) (by omega)
 simp only [Option.bind_some,e0,e1,e2,e3]
 refine congrArg some (Prod.ext (by show _=k+_;rw [hc];omega) rfl)
theorem ZOv (l:List (YP)) (k:Int) (hs:sm (.sl (ZgP)) l) (h0:0≤k) (h1:k+((cnt (.sl (ZgP)) l:Nat):Int)≤4611686018427387904):ZKD (mkL (mkA mt (ZgP)) (cnt (ZgP)) l k) k=some (k+((cnt (.sl (ZgP)) l:Nat):Int)):=by
 unfold ZKD
 have hl:l.length≤1048576:=by have:=hs.1;omega
 refine ZJP (f:=mkA mt (ZgP)) (c:=cnt (ZgP)) (step:=fun v=>ZJH (mkL (mkA mt (ZgP)) (cnt (ZgP)) l k) v.1 v.2.1) (fun j m x hj hx hxm hm0 hm1 hj2=>?_) (fun m=>?_) hl h0 h1
 ·have hsx:=hs.2 x hxm
  have hc:((cnt (ZgP) x:Nat):Int)=0+1+1+1+1:=by simp only [ZIL,ZIO,ZIK,ZIM,ZIQ];omega
  have f0:YP.Name (mkA mt (ZgP) x m)=mt (m):=rfl
  have e0:=ZNU (k:=m) (by omega) (by omega)
  have f1:YP.Dir (mkA mt (ZgP) x m)=m+1:=rfl
  have f2:YP.Cap (mkA mt (ZgP) x m)=m+1+1:=rfl
  have f3:YP.Clock (mkA mt (ZgP) x m)=decide (Int.tmod (m+1+1+1) 3=0):=rfl
  simp (disch:=omega) only [ZJH,if_pos hj,Zu,hx,Option.bind_some,Jr,eq_self,if_true,if_false,beq_self_eq_true,f0,e0,f1,f2,f3]
  refine ZJl ?_ ?_
  ·have hc:=hc;omega
  ·omega
 ·simp only [ZJH,Int.lt_irrefl,if_false]
theorem ZIF (l:List (Int)) (k:Int) (hs:sm (.sl (.int .i64)) l) (h0:0≤k) (h1:k+((cnt (.sl (.int .i64)) l:Nat):Int)≤4611686018427387904):ZIH (mkL (mkA mt (.int .i64)) (cnt (.int .i64)) l k) k=some (k+((cnt (.sl (.int .i64)) l:Nat):Int)):=by
 unfold ZIH
 have hl:l.length≤1048576:=by have:=hs.1;omega
 refine ZJP (f:=mkA mt (.int .i64)) (c:=cnt (.int .i64)) (step:=fun v=>ZJp (mkL (mkA mt (.int .i64)) (cnt (.int .i64)) l k) v.1 v.2.1) (fun j m x hj hx hxm hm0 hm1 hj2=>?_) (fun m=>?_) hl h0 h1
 ·have hsx:=hs.2 x hxm
  have hc:((cnt (.int .i64) x:Nat):Int)=0+1:=by rfl
  have f0:mkA mt (.int .i64) x m=m:=rfl
  simp (disch:=omega) only [ZJp,if_pos hj,Zu,hx,Option.bind_some,Jr,eq_self,if_true,if_false,beq_self_eq_true,f0]
  refine ZJl ?_ ?_
  ·have hc:=hc;omega
  ·omega
 ·simp only [ZJp,Int.lt_irrefl,if_false]
theorem ZKP (l:List (ZA)) (k:Int) (hs:sm (.sl (XE)) l) (h0:0≤k) (h1:k+((cnt (.sl (XE)) l:Nat):Int)≤4611686018427387904):ZJU (mkL (mkA mt (XE)) (cnt (XE)) l k) k=some (k+((cnt (.sl (XE)) l:Nat):Int)):=by
 unfold ZJU
 have hl:l.length≤1048576:=by have:=hs.1;omega
 refine ZJP (f:=mkA mt (XE)) (c:=cnt (XE)) (step:=fun v=>ZJq (mkL (mkA mt (XE)) (cnt (XE)) l k) v.1 v.2.1) (fun j m x hj hx hxm hm0 hm1 hj2=>?_) (fun m=>?_) hl h0 h1
 ·have hsx:=hs.2 x hxm
  have hc:((cnt (XE) x:Nat):Int)=0+((cnt (.sl (.int .i64)) x.1:Nat):Int)+((cnt (.sl (.int .i64)) x.2.1:Nat):Int)+((cnt (.sl (.int .i64)) x.2.2.1:Nat):Int):=by simp only [ZIL,ZIO,ZIK,ZIM,ZIQ];omega
  have f0:ZA.Zg6 (mkA mt (XE) x m)=mkL (mkA mt (.int .i64)) (cnt (.int .i64)) x.1 (m):=rfl
  have e0:=ZIF x.1 (m) hsx.1 (by omega) (by omega)
  have n0:¬(m+((cnt (.sl (.int .i64)) x.1:Nat):Int))<0:=by omega
  have f1:ZA.Loads (mkA mt (XE) x m)=mkL (mkA mt (.int .i64)) (cnt (.int .i64)) x.2.1 (m+((cnt (.sl (.int .i64)) x.1:Nat):Int)):=rfl
  have e1:=ZIF x.2.1 (m+((cnt (.sl (.int .i64)) x.1:Nat):Int)) hsx.2.1 (by omega) (by omega)
  have n1:¬(m+((cnt (.sl (.int .i64)) x.1:Nat):Int)+((cnt (.sl (.int .i64)) x.2.1:Nat):Int))<0:=by omega
  have f2:ZA.Values (mkA mt (XE) x m)=mkL (mkA mt (.int .i64)) (cnt (.int .i64)) x.2.2.1 (m+((cnt (.sl (.int .i64)) x.1:Nat):Int)+((cnt (.sl (.int .i64)) x.2.1:Nat):Int)):=rfl
  have e2:=ZIF x.2.2.1 (m+((cnt (.sl (.int .i64)) x.1:Nat):Int)+((cnt (.sl (.int .i64)) x.2.1:Nat):Int)) hsx.2.2.1 (by omega) (by omega)
  have n2:¬(m+((cnt (.sl (.int .i64)) x.1:Nat):Int)+((cnt (.sl (.int .i64)) x.2.1:Nat):Int)+((cnt (.sl (.int .i64)) x.2.2.1:Nat):Int))<0:=by omega
  simp (disch:=omega) only [ZJq,if_pos hj,Zu,hx,Option.bind_some,Jr,eq_self,if_true,if_false,beq_self_eq_true,f0,e0,n0,f1,e1,n1,f2,e2,n2]
  refine ZJl ?_ ?_
  ·have hc:=hc;omega
  ·omega
 ·simp only [ZJq,Int.lt_irrefl,if_false]
theorem ZOu (l:List (ZJ)) (k:Int) (hs:sm (.sl (Zib)) l) (h0:0≤k) (h1:k+((cnt (.sl (Zib)) l:Nat):Int)≤4611686018427387904):ZKC (mkL (mkA mt (Zib)) (cnt (Zib)) l k) k=some (k+((cnt (.sl (Zib)) l:Nat):Int)):=by
 unfold ZKC
 have hl:l.length≤1048576:=by have:=hs.1;omega
 refine ZJP (f:=mkA mt (Zib)) (c:=cnt (Zib)) (step:=fun v=>ZJF (mkL (mkA mt (Zib)) (cnt (Zib)) l k) v.1 v.2.1) (fun j m x hj hx hxm hm0 hm1 hj2=>?_) (fun m=>?_) hl h0 h1
 ·have hsx:=hs.2 x hxm
  have hc:((cnt (Zib) x:Nat):Int)=0+1+1+1+1+((cnt (.sl (XE)) x.2.2.2.2.1:Nat):Int)+((cnt (.sl (XE)) x.2.2.2.2.2.1:Nat):Int):=by simp only [ZIL,ZIO,ZIK,ZIM,ZIQ];omega
  have f0:ZJ.Kind (mkA mt (Zib) x m)=m:=rfl
  have f1:ZJ.From (mkA mt (Zib) x m)=m+1:=rfl
  have f2:ZJ.To (mkA mt (Zib) x m)=m+1+1:=rfl
  have f3:ZJ.ZbJ (mkA mt (Zib) x m)=m+1+1+1:=rfl
  have f4:ZJ.Delay (mkA mt (Zib) x m)=mkL (mkA mt (XE)) (cnt (XE)) x.2.2.2.2.1 (m+1+1+1+1):=rfl
  have e4:=ZKP x.2.2.2.2.1 (m+1+1+1+1) hsx.2.2.2.2.1 (by omega) (by omega)
  have n4:¬(m+1+1+1+1+((cnt (.sl (XE)) x.2.2.2.2.1:Nat):Int))<0:=by omega
  have f5:ZJ.ZdS (mkA mt (Zib) x m)=mkL (mkA mt (XE)) (cnt (XE)) x.2.2.2.2.2.1 (m+1+1+1+1+((cnt (.sl (XE)) x.2.2.2.2.1:Nat):Int)):=rfl
  have e5:=ZKP x.2.2.2.2.2.1 (m+1+1+1+1+((cnt (.sl (XE)) x.2.2.2.2.1:Nat):Int)) hsx.2.2.2.2.2.1 (by omega) (by omega)
  have n5:¬(m+1+1+1+1+((cnt (.sl (XE)) x.2.2.2.2.1:Nat):Int)+((cnt (.sl (XE)) x.2.2.2.2.2.1:Nat):Int))<0:=by omega
  simp (disch:=omega) only [ZJF,if_pos hj,Zu,hx,Option.bind_some,Jr,eq_self,if_true,if_false,beq_self_eq_true,f0,f1,f2,f3,f4,e4,n4,f5,e5,n5]
  refine ZJl ?_ ?_
  ·have hc:=hc;omega
  ·omega
 ·simp only [ZJF,Int.lt_irrefl,if_false]
theorem ZOe (l:List (Zm)) (k:Int) (hs:sm (.sl (QL)) l) (h0:0≤k) (h1:k+((cnt (.sl (QL)) l:Nat):Int)≤4611686018427387904):ZKs (mkL (mkA mt (QL)) (cnt (QL)) l k) k=some (k+((cnt (.sl (QL)) l:Nat):Int)):=by
 unfold ZKs
 have hl:l.length≤1048576:=by have:=hs.1;omega
 refine ZJP (f:=mkA mt (QL)) (c:=cnt (QL)) (step:=fun v=>ZJv (mkL (mkA mt (QL)) (cnt (QL)) l k) v.1 v.2.1) (fun j m x hj hx hxm hm0 hm1 hj2=>?_) (fun m=>?_) hl h0 h1
 ·have hsx:=hs.2 x hxm
  have hc:((cnt (QL) x:Nat):Int)=0+1+1+((cnt (.sl (ZgP)) x.2.2.1:Nat):Int)+((cnt (.sl (Zib)) x.2.2.2.1:Nat):Int)+((cnt (.sl (.int .i64)) x.2.2.2.2.1:Nat):Int)+1+1:=by simp only [ZIL,ZIO,ZIK,ZIM,ZIQ];omega
  have f0:Zm.Name (mkA mt (QL) x m)=mt (m):=rfl
  have e0:=ZNU (k:=m) (by omega) (by omega)
  have f1:Zm.Kind (mkA mt (QL) x m)=m+1:=rfl
  have f2:Zm.Yw (mkA mt (QL) x m)=mkL (mkA mt (ZgP)) (cnt (ZgP)) x.2.2.1 (m+1+1):=rfl
  have e2:=ZOv x.2.2.1 (m+1+1) hsx.2.2.1 (by omega) (by omega)
  have n2:¬(m+1+1+((cnt (.sl (ZgP)) x.2.2.1:Nat):Int))<0:=by omega
  have f3:Zm.JQ (mkA mt (QL) x m)=mkL (mkA mt (Zib)) (cnt (Zib)) x.2.2.2.1 (m+1+1+((cnt (.sl (ZgP)) x.2.2.1:Nat):Int)):=rfl
  have e3:=ZOu x.2.2.2.1 (m+1+1+((cnt (.sl (ZgP)) x.2.2.1:Nat):Int)) hsx.2.2.2.1 (by omega) (by omega)
  have n3:¬(m+1+1+((cnt (.sl (ZgP)) x.2.2.1:Nat):Int)+((cnt (.sl (Zib)) x.2.2.2.1:Nat):Int))<0:=by omega
  have f4:Zm.Truth (mkA mt (QL) x m)=mkL (mkA mt (.int .i64)) (cnt (.int .i64)) x.2.2.2.2.1 (m+1+1+((cnt (.sl (ZgP)) x.2.2.1:Nat):Int)+((cnt (.sl (Zib)) x.2.2.2.1:Nat):Int)):=rfl
  have e4:=ZIF x.2.2.2.2.1 (m+1+1+((cnt (.sl (ZgP)) x.2.2.1:Nat):Int)+((cnt (.sl (Zib)) x.2.2.2.1:Nat):Int)) hsx.2.2.2.2.1 (by omega) (by omega)
  have n4:¬(m+1+1+((cnt (.sl (ZgP)) x.2.2.1:Nat):Int)+((cnt (.sl (Zib)) x.2.2.2.1:Nat):Int)+((cnt (.sl (.int .i64)) x.2.2.2.2.1:Nat):Int))<0:=by omega
  have f5:Zm.Zxy (mkA mt (QL) x m)=m+1+1+((cnt (.sl (ZgP)) x.2.2.1:Nat):Int)+((cnt (.sl (Zib)) x.2.2.2.1:Nat):Int)+((cnt (.sl (.int .i64)) x.2.2.2.2.1:Nat):Int):=rfl
  have f6:Zm.Zkf (mkA mt (QL) x m)=m+1+1+((cnt (.sl (ZgP)) x.2.2.1:Nat):Int)+((cnt (.sl (Zib)) x.2.2.2.1:Nat):Int)+((cnt (.sl (.int .i64)) x.2.2.2.2.1:Nat):Int)+1:=rfl
  simp (disch:=omega) only [ZJv,if_pos hj,Zu,hx,Option.bind_some,Jr,eq_self,if_true,if_false,beq_self_eq_true,f0,e0,f1,f2,e2,n2,f3,e3,n3,f4,e4,n4,f5,f6]
  refine ZJl ?_ ?_
  ·have hc:=hc;omega
  ·omega
 ·simp only [ZJv,Int.lt_irrefl,if_false]
theorem ZNW (a:Zo) (k:Int) (hs:sm (Xh) a) (h0:0≤k) (h1:k+((ZIZ (Xh) a:Nat):Int)≤4611686018427387904):ZKd (mkT mt (Xh) a k) k=some (k+((ZIZ (Xh) a:Nat):Int)):=by
 unfold ZKd
 have hc:((ZIZ (Xh) a:Nat):Int)=0+(((cnt (.sl (QL)) a.1):Nat):Int):=by simp only [ZIZ];omega
 have f0:Zo.Cells (mkT mt (Xh) a k)=mkL (mkA mt (QL)) (cnt (QL)) a.1 (k):=by rfl
 have n0:¬(k+(((cnt (.sl (QL)) a.1):Nat):Int))<0:=by omega
 have e0:=ZOe a.1 (k) hs.1 (by omega) (by omega)
 simp only [Option.bind_some,if_false,f0,n0,e0]
 refine congrArg some ?_
 omega
theorem ZNN (l:List (Ze)) (k:Int) (hs:sm (.sl (Yq)) l) (h0:0≤k) (h1:k+((cnt (.sl (Yq)) l:Nat):Int)≤4611686018427387904):ZJQ (mkL (mkA mt (Yq)) (cnt (Yq)) l k) k=some (k+((cnt (.sl (Yq)) l:Nat):Int)):=by
 unfold ZJQ
 have hl:l.length≤1048576:=by have:=hs.1;omega
 refine ZJP (f:=mkA mt (Yq)) (c:=cnt (Yq)) (step:=fun v=>ZI5 (mkL (mkA mt (Yq)) (cnt (Yq)) l k) v.1 v.2.1) (fun j m x hj hx hxm hm0 hm1 hj2=>?_) (fun m=>?_) hl h0 h1
 ·have hsx:=hs.2 x hxm
  have hc:((cnt (Yq) x:Nat):Int)=0+1+1+((cnt (.sl (.int .i64)) x.2.2.1:Nat):Int):=by simp only [ZIL,ZIO,ZIK,ZIM,ZIQ];omega
  have f0:Ze.Name (mkA mt (Yq) x m)=mt (m):=rfl
  have e0:=ZNU (k:=m) (by omega) (by omega)
  have f1:Ze.Cell (mkA mt (Yq) x m)=m+1:=rfl
  have f2:Ze.ZI (mkA mt (Yq) x m)=mkL (mkA mt (.int .i64)) (cnt (.int .i64)) x.2.2.1 (m+1+1):=rfl
  have e2:=ZIF x.2.2.1 (m+1+1) hsx.2.2.1 (by omega) (by omega)
  have n2:¬(m+1+1+((cnt (.sl (.int .i64)) x.2.2.1:Nat):Int))<0:=by omega
  simp (disch:=omega) only [ZI5,if_pos hj,Zu,hx,Option.bind_some,Jr,eq_self,if_true,if_false,beq_self_eq_true,f0,e0,f1,f2,e2,n2]
  refine ZJl ?_ ?_
  ·have hc:=hc;omega
  ·omega
 ·simp only [ZI5,Int.lt_irrefl,if_false]
theorem ZNX (l:List (List UInt8)) (k:Int) (hs:sm (.sl (.str)) l) (h0:0≤k) (h1:k+((cnt (.sl (.str)) l:Nat):Int)≤4611686018427387904):ZKe (mkL (mkA mt (.str)) (cnt (.str)) l k) k=some (k+((cnt (.sl (.str)) l:Nat):Int)):=by
 unfold ZKe
 have hl:l.length≤1048576:=by have:=hs.1;omega
 refine ZJP (f:=mkA mt (.str)) (c:=cnt (.str)) (step:=fun v=>ZJi (mkL (mkA mt (.str)) (cnt (.str)) l k) v.1 v.2.1) (fun j m x hj hx hxm hm0 hm1 hj2=>?_) (fun m=>?_) hl h0 h1
 ·have hsx:=hs.2 x hxm
  have hc:((cnt (.str) x:Nat):Int)=0+1:=by rfl
  have f0:mkA mt (.str) x m=mt (m):=rfl
  have e0:=ZNU (k:=m) (by omega) (by omega)
  simp (disch:=omega) only [ZJi,if_pos hj,Zu,hx,Option.bind_some,Jr,eq_self,if_true,if_false,beq_self_eq_true,f0,e0]
  refine ZJl ?_ ?_
  ·have hc:=hc;omega
  ·omega
 ·simp only [ZJi,Int.lt_irrefl,if_false]
theorem ZOf (l:List (ZR)) (k:Int) (hs:sm (.sl (Zcd)) l) (h0:0≤k) (h1:k+((cnt (.sl (Zcd)) l:Nat):Int)≤4611686018427387904):ZKt (mkL (mkA mt (Zcd)) (cnt (Zcd)) l k) k=some (k+((cnt (.sl (Zcd)) l:Nat):Int)):=by
 unfold ZKt
 have hl:l.length≤1048576:=by have:=hs.1;omega
 refine ZJP (f:=mkA mt (Zcd)) (c:=cnt (Zcd)) (step:=fun v=>ZJx (mkL (mkA mt (Zcd)) (cnt (Zcd)) l k) v.1 v.2.1) (fun j m x hj hx hxm hm0 hm1 hj2=>?_) (fun m=>?_) hl h0 h1
 ·have hsx:=hs.2 x hxm
  have hc:((cnt (Zcd) x:Nat):Int)=0+1+1+1:=by simp only [ZIL,ZIO,ZIK,ZIM,ZIQ];omega
  have f0:ZR.Name (mkA mt (Zcd) x m)=mt (m):=rfl
  have e0:=ZNU (k:=m) (by omega) (by omega)
  have f1:ZR.Dir (mkA mt (Zcd) x m)=m+1:=rfl
  have f2:ZR.Net (mkA mt (Zcd) x m)=m+1+1:=rfl
  simp (disch:=omega) only [ZJx,if_pos hj,Zu,hx,Option.bind_some,Jr,eq_self,if_true,if_false,beq_self_eq_true,f0,e0,f1,f2]
  refine ZJl ?_ ?_
  ·have hc:=hc;omega
  ·omega
 ·simp only [ZJx,Int.lt_irrefl,if_false]
theorem ZN5 (a:Zb) (k:Int) (hs:sm (YG) a) (h0:0≤k) (h1:k+((ZIZ (YG) a:Nat):Int)≤4611686018427387904):ZKm (mkT mt (YG) a k) k=some (k+((ZIZ (YG) a:Nat):Int)):=by
 unfold ZKm
 have hc:((ZIZ (YG) a:Nat):Int)=0+(((cnt (.sl (Yq)) a.1):Nat):Int)+(((cnt (.sl (.str)) a.2.1):Nat):Int)+(((cnt (.sl (Zcd)) a.2.2.1):Nat):Int):=by simp only [ZIZ];omega
 have f0:Zb.Instances (mkT mt (YG) a k)=mkL (mkA mt (Yq)) (cnt (Yq)) a.1 (k):=by rfl
 have n0:¬(k+(((cnt (.sl (Yq)) a.1):Nat):Int))<0:=by omega
 have e0:=ZNN a.1 (k) hs.1 (by omega) (by omega)
 have f1:Zb.ZI (mkT mt (YG) a k)=mkL (mkA mt (.str)) (cnt (.str)) a.2.1 (k+(((cnt (.sl (Yq)) a.1):Nat):Int)):=by rfl
 have n1:¬(k+(((cnt (.sl (Yq)) a.1):Nat):Int)+(((cnt (.sl (.str)) a.2.1):Nat):Int))<0:=by omega
 have e1:=ZNX a.2.1 (k+(((cnt (.sl (Yq)) a.1):Nat):Int)) hs.2.1 (by omega) (by omega)
 have f2:Zb.ZG (mkT mt (YG) a k)=mkL (mkA mt (Zcd)) (cnt (Zcd)) a.2.2.1 (k+(((cnt (.sl (Yq)) a.1):Nat):Int)+(((cnt (.sl (.str)) a.2.1):Nat):Int)):=by rfl
 have n2:¬(k+(((cnt (.sl (Yq)) a.1):Nat):Int)+(((cnt (.sl (.str)) a.2.1):Nat):Int)+(((cnt (.sl (Zcd)) a.2.2.1):Nat):Int))<0:=by omega
 have e2:=ZOf a.2.2.1 (k+(((cnt (.sl (Yq)) a.1):Nat):Int)+(((cnt (.sl (.str)) a.2.1):Nat):Int)) hs.2.2.1 (by omega) (by omega)
 simp only [Option.bind_some,if_false,f0,n0,e0,f1,n1,e1,f2,n2,e2]
 refine congrArg some ?_
 omega
theorem ZOh (l:List (Zr)) (k:Int) (hs:sm (.sl (Vv)) l) (h0:0≤k) (h1:k+((cnt (.sl (Vv)) l:Nat):Int)≤4611686018427387904):ZKv (mkL (mkA mt (Vv)) (cnt (Vv)) l k) k=some (k+((cnt (.sl (Vv)) l:Nat):Int)):=by
 unfold ZKv
 have hl:l.length≤1048576:=by have:=hs.1;omega
 refine ZJP (f:=mkA mt (Vv)) (c:=cnt (Vv)) (step:=fun v=>ZJy (mkL (mkA mt (Vv)) (cnt (Vv)) l k) v.1 v.2.1) (fun j m x hj hx hxm hm0 hm1 hj2=>?_) (fun m=>?_) hl h0 h1
 ·have hsx:=hs.2 x hxm
  have hc:((cnt (Vv) x:Nat):Int)=0+((cnt (.sl (.int .i64)) x.1:Nat):Int)+((cnt (.sl (.int .i64)) x.2.1:Nat):Int)+((cnt (.sl (.int .i64)) x.2.2.1:Nat):Int)+((cnt (.sl (.int .i64)) x.2.2.2.1:Nat):Int):=by simp only [ZIL,ZIO,ZIK,ZIM,ZIQ];omega
  have f0:Zr.Parent (mkA mt (Vv) x m)=mkL (mkA mt (.int .i64)) (cnt (.int .i64)) x.1 (m):=rfl
  have e0:=ZIF x.1 (m) hsx.1 (by omega) (by omega)
  have n0:¬(m+((cnt (.sl (.int .i64)) x.1:Nat):Int))<0:=by omega
  have f1:Zr.Res (mkA mt (Vv) x m)=mkL (mkA mt (.int .i64)) (cnt (.int .i64)) x.2.1 (m+((cnt (.sl (.int .i64)) x.1:Nat):Int)):=rfl
  have e1:=ZIF x.2.1 (m+((cnt (.sl (.int .i64)) x.1:Nat):Int)) hsx.2.1 (by omega) (by omega)
  have n1:¬(m+((cnt (.sl (.int .i64)) x.1:Nat):Int)+((cnt (.sl (.int .i64)) x.2.1:Nat):Int))<0:=by omega
  have f2:Zr.Cap (mkA mt (Vv) x m)=mkL (mkA mt (.int .i64)) (cnt (.int .i64)) x.2.2.1 (m+((cnt (.sl (.int .i64)) x.1:Nat):Int)+((cnt (.sl (.int .i64)) x.2.1:Nat):Int)):=rfl
  have e2:=ZIF x.2.2.1 (m+((cnt (.sl (.int .i64)) x.1:Nat):Int)+((cnt (.sl (.int .i64)) x.2.1:Nat):Int)) hsx.2.2.1 (by omega) (by omega)
  have n2:¬(m+((cnt (.sl (.int .i64)) x.1:Nat):Int)+((cnt (.sl (.int .i64)) x.2.1:Nat):Int)+((cnt (.sl (.int .i64)) x.2.2.1:Nat):Int))<0:=by omega
  have f3:Zr.Ze6 (mkA mt (Vv) x m)=mkL (mkA mt (.int .i64)) (cnt (.int .i64)) x.2.2.2.1 (m+((cnt (.sl (.int .i64)) x.1:Nat):Int)+((cnt (.sl (.int .i64)) x.2.1:Nat):Int)+((cnt (.sl (.int .i64)) x.2.2.1:Nat):Int)):=rfl
  have e3:=ZIF x.2.2.2.1 (m+((cnt (.sl (.int .i64)) x.1:Nat):Int)+((cnt (.sl (.int .i64)) x.2.1:Nat):Int)+((cnt (.sl (.int .i64)) x.2.2.1:Nat):Int)) hsx.2.2.2.1 (by omega) (by omega)
  have n3:¬(m+((cnt (.sl (.int .i64)) x.1:Nat):Int)+((cnt (.sl (.int .i64)) x.2.1:Nat):Int)+((cnt (.sl (.int .i64)) x.2.2.1:Nat):Int)+((cnt (.sl (.int .i64)) x.2.2.2.1:Nat):Int))<0:=by omega
  simp (disch:=omega) only [ZJy,if_pos hj,Zu,hx,Option.bind_some,Jr,eq_self,if_true,if_false,beq_self_eq_true,f0,e0,n0,f1,e1,n1,f2,e2,n2,f3,e3,n3]
  refine ZJl ?_ ?_
  ·have hc:=hc;omega
  ·omega
 ·simp only [ZJy,Int.lt_irrefl,if_false]
theorem ZOd (a:Za) (k:Int) (hs:sm (Y3) a) (h0:0≤k) (h1:k+((ZIZ (Y3) a:Nat):Int)≤4611686018427387904):ZKr (mkT mt (Y3) a k) k=some (k+((ZIZ (Y3) a:Nat):Int)):=by
 unfold ZKr
 have hc:((ZIZ (Y3) a:Nat):Int)=0+(((ZIZ (Xh) a.1):Nat):Int)+(((ZIZ (YG) a.2.1):Nat):Int)+(((cnt (.sl (Vv)) a.2.2.1):Nat):Int):=by simp only [ZIZ];omega
 have f0:Za.Library (mkT mt (Y3) a k)=mkT mt (Xh) a.1 (k):=by rfl
 have n0:¬(k+(((ZIZ (Xh) a.1):Nat):Int))<0:=by omega
 have e0:=ZNW a.1 (k) hs.1 (by omega) (by omega)
 have f1:Za.Design (mkT mt (Y3) a k)=mkT mt (YG) a.2.1 (k+(((ZIZ (Xh) a.1):Nat):Int)):=by rfl
 have n1:¬(k+(((ZIZ (Xh) a.1):Nat):Int)+(((ZIZ (YG) a.2.1):Nat):Int))<0:=by omega
 have e1:=ZN5 a.2.1 (k+(((ZIZ (Xh) a.1):Nat):Int)) hs.2.1 (by omega) (by omega)
 have f2:Za.Zz (mkT mt (Y3) a k)=mkL (mkA mt (Vv)) (cnt (Vv)) a.2.2.1 (k+(((ZIZ (Xh) a.1):Nat):Int)+(((ZIZ (YG) a.2.1):Nat):Int)):=by rfl
 have n2:¬(k+(((ZIZ (Xh) a.1):Nat):Int)+(((ZIZ (YG) a.2.1):Nat):Int)+(((cnt (.sl (Vv)) a.2.2.1):Nat):Int))<0:=by omega
 have e2:=ZOh a.2.2.1 (k+(((ZIZ (Xh) a.1):Nat):Int)+(((ZIZ (YG) a.2.1):Nat):Int)) hs.2.2.1 (by omega) (by omega)
 simp only [Option.bind_some,if_false,f0,n0,e0,f1,n1,e1,f2,n2,e2]
 refine congrArg some ?_
 omega
theorem ZN4 (l:List (Zl)) (k:Int) (hs:sm (.sl (XF)) l) (h0:0≤k) (h1:k+((cnt (.sl (XF)) l:Nat):Int)≤4611686018427387904):ZKl (mkL (mkA mt (XF)) (cnt (XF)) l k) k=some (k+((cnt (.sl (XF)) l:Nat):Int)):=by
 unfold ZKl
 have hl:l.length≤1048576:=by have:=hs.1;omega
 refine ZJP (f:=mkA mt (XF)) (c:=cnt (XF)) (step:=fun v=>ZJn (mkL (mkA mt (XF)) (cnt (XF)) l k) v.1 v.2.1) (fun j m x hj hx hxm hm0 hm1 hj2=>?_) (fun m=>?_) hl h0 h1
 ·have hsx:=hs.2 x hxm
  have hc:((cnt (XF) x:Nat):Int)=0+1+1+1+1+1+1+1+1+1+1+1:=by simp only [ZIL,ZIO,ZIK,ZIM,ZIQ];omega
  have f0:Zl.Name (mkA mt (XF) x m)=mt (m):=rfl
  have e0:=ZNU (k:=m) (by omega) (by omega)
  have f1:Zl.Place (mkA mt (XF) x m)=m+1:=rfl
  have f2:Zl.Zca (mkA mt (XF) x m)=m+1+1:=rfl
  have f3:Zl.ZdJ (mkA mt (XF) x m)=m+1+1+1:=rfl
  have f4:Zl.ZdM (mkA mt (XF) x m)=m+1+1+1+1:=rfl
  have f5:Zl.Source (mkA mt (XF) x m)=m+1+1+1+1+1:=rfl
  have f6:Zl.Divide (mkA mt (XF) x m)=m+1+1+1+1+1+1:=rfl
  have f7:Zl.Zkd (mkA mt (XF) x m)=decide (Int.tmod (m+1+1+1+1+1+1+1) 3=0):=rfl
  have f8:Zl.X6 (mkA mt (XF) x m)=m+1+1+1+1+1+1+1+1:=rfl
  have f9:Zl.VE (mkA mt (XF) x m)=m+1+1+1+1+1+1+1+1+1:=rfl
  have f10:Zl.Zbe (mkA mt (XF) x m)=m+1+1+1+1+1+1+1+1+1+1:=rfl
  simp only [ZJn]
  rw [if_pos hj,Zu,hx,Option.bind_some]
  rw [e0,Option.bind_some,if_pos f0]
  try rw [Jr (n:=m+1) (by omega) (by omega)]
  rw [if_pos f1]
  try rw [Jr (n:=m+1+1) (by omega) (by omega)]
  rw [if_pos f2]
  try rw [Jr (n:=m+1+1+1) (by omega) (by omega)]
  rw [if_pos f3]
  try rw [Jr (n:=m+1+1+1+1) (by omega) (by omega)]
  rw [if_pos f4]
  try rw [Jr (n:=m+1+1+1+1+1) (by omega) (by omega)]
  rw [if_pos f5]
  try rw [Jr (n:=m+1+1+1+1+1+1) (by omega) (by omega)]
  rw [if_pos f6]
  try rw [Jr (n:=m+1+1+1+1+1+1+1) (by omega) (by omega)]
  rw [if_pos (by rw [f7];exact beq_self_eq_true _)]
  try rw [Jr (n:=m+1+1+1+1+1+1+1+1) (by omega) (by omega)]
  rw [if_pos f8]
  try rw [Jr (n:=m+1+1+1+1+1+1+1+1+1) (by omega) (by omega)]
  rw [if_pos f9]
  try rw [Jr (n:=m+1+1+1+1+1+1+1+1+1+1) (by omega) (by omega)]
  rw [if_pos f10]
  try rw [Jr (n:=m+1+1+1+1+1+1+1+1+1+1+1) (by omega) (by omega)]
  rw [Jr (n:=(j:Int)+1) (by omega) (by omega)]
  refine ZJl ?_ ?_
  ·have hc:=hc;omega
  ·omega
 ·simp only [ZJn,Int.lt_irrefl,if_false]
theorem ZKx (l:List (Zj)) (k:Int) (hs:sm (.sl (Yg)) l) (h0:0≤k) (h1:k+((cnt (.sl (Yg)) l:Nat):Int)≤4611686018427387904):ZJo (mkL (mkA mt (Yg)) (cnt (Yg)) l k) k=some (k+((cnt (.sl (Yg)) l:Nat):Int)):=by
 unfold ZJo
 have hl:l.length≤1048576:=by have:=hs.1;omega
 refine ZJP (f:=mkA mt (Yg)) (c:=cnt (Yg)) (step:=fun v=>ZI4 (mkL (mkA mt (Yg)) (cnt (Yg)) l k) v.1 v.2.1) (fun j m x hj hx hxm hm0 hm1 hj2=>?_) (fun m=>?_) hl h0 h1
 ·have hsx:=hs.2 x hxm
  have hc:((cnt (Yg) x:Nat):Int)=0+1+1+1+1+1+1:=by simp only [ZIL,ZIO,ZIK,ZIM,ZIQ];omega
  have f0:Zj.Place (mkA mt (Yg) x m)=m:=rfl
  have f1:Zj.Clock (mkA mt (Yg) x m)=m+1:=rfl
  have f2:YQ.Early (Zj.Delay (mkA mt (Yg) x m))=m+1+1:=rfl
  have f3:YQ.Late (Zj.Delay (mkA mt (Yg) x m))=m+1+1+1:=rfl
  have f4:YQ.Early (Zj.ZdS (mkA mt (Yg) x m))=m+1+1+1+1:=by show m+((1:Nat):Int)+((1:Nat):Int)+((2:Nat):Int)=_;omega
  have f5:YQ.Late (Zj.ZdS (mkA mt (Yg) x m))=m+1+1+1+1+1:=by show m+((1:Nat):Int)+((1:Nat):Int)+((2:Nat):Int)+((1:Nat):Int)=_;omega
  simp (disch:=omega) only [ZI4,if_pos hj,Zu,hx,Option.bind_some,Jr,eq_self,if_true,if_false,beq_self_eq_true,f0,f1,f2,f3,f4,f5]
  refine ZJl ?_ ?_
  ·have hc:=hc;omega
  ·omega
 ·simp only [ZI4,Int.lt_irrefl,if_false]
theorem ZM6 (l:List (Zg)) (k:Int) (hs:sm (.sl (Yn)) l) (h0:0≤k) (h1:k+((cnt (.sl (Yn)) l:Nat):Int)≤4611686018427387904):ZJG (mkL (mkA mt (Yn)) (cnt (Yn)) l k) k=some (k+((cnt (.sl (Yn)) l:Nat):Int)):=by
 unfold ZJG
 have hl:l.length≤1048576:=by have:=hs.1;omega
 refine ZJP (f:=mkA mt (Yn)) (c:=cnt (Yn)) (step:=fun v=>ZI0 (mkL (mkA mt (Yn)) (cnt (Yn)) l k) v.1 v.2.1) (fun j m x hj hx hxm hm0 hm1 hj2=>?_) (fun m=>?_) hl h0 h1
 ·have hsx:=hs.2 x hxm
  have hc:((cnt (Yn) x:Nat):Int)=0+1+1+((cnt (.sl (.int .i64)) x.2.2.1:Nat):Int)+((cnt (.sl (.int .i64)) x.2.2.2.1:Nat):Int)+((cnt (.sl (.int .i64)) x.2.2.2.2.1:Nat):Int):=by simp only [ZIL,ZIO,ZIK,ZIM,ZIQ];omega
  have f0:Zg.Kind (mkA mt (Yn) x m)=m:=rfl
  have f1:Zg.Value (mkA mt (Yn) x m)=m+1:=rfl
  have f2:Zg.From (mkA mt (Yn) x m)=mkL (mkA mt (.int .i64)) (cnt (.int .i64)) x.2.2.1 (m+1+1):=rfl
  have e2:=ZIF x.2.2.1 (m+1+1) hsx.2.2.1 (by omega) (by omega)
  have n2:¬(m+1+1+((cnt (.sl (.int .i64)) x.2.2.1:Nat):Int))<0:=by omega
  have f3:Zg.Through (mkA mt (Yn) x m)=mkL (mkA mt (.int .i64)) (cnt (.int .i64)) x.2.2.2.1 (m+1+1+((cnt (.sl (.int .i64)) x.2.2.1:Nat):Int)):=rfl
  have e3:=ZIF x.2.2.2.1 (m+1+1+((cnt (.sl (.int .i64)) x.2.2.1:Nat):Int)) hsx.2.2.2.1 (by omega) (by omega)
  have n3:¬(m+1+1+((cnt (.sl (.int .i64)) x.2.2.1:Nat):Int)+((cnt (.sl (.int .i64)) x.2.2.2.1:Nat):Int))<0:=by omega
  have f4:Zg.To (mkA mt (Yn) x m)=mkL (mkA mt (.int .i64)) (cnt (.int .i64)) x.2.2.2.2.1 (m+1+1+((cnt (.sl (.int .i64)) x.2.2.1:Nat):Int)+((cnt (.sl (.int .i64)) x.2.2.2.1:Nat):Int)):=rfl
  have e4:=ZIF x.2.2.2.2.1 (m+1+1+((cnt (.sl (.int .i64)) x.2.2.1:Nat):Int)+((cnt (.sl (.int .i64)) x.2.2.2.1:Nat):Int)) hsx.2.2.2.2.1 (by omega) (by omega)
  have n4:¬(m+1+1+((cnt (.sl (.int .i64)) x.2.2.1:Nat):Int)+((cnt (.sl (.int .i64)) x.2.2.2.1:Nat):Int)+((cnt (.sl (.int .i64)) x.2.2.2.2.1:Nat):Int))<0:=by omega
  simp (disch:=omega) only [ZI0,if_pos hj,Zu,hx,Option.bind_some,Jr,eq_self,if_true,if_false,beq_self_eq_true,f0,f1,f2,e2,n2,f3,e3,n3,f4,e4,n4]
  refine ZJl ?_ ?_
  ·have hc:=hc;omega
  ·omega
 ·simp only [ZI0,Int.lt_irrefl,if_false]
theorem ZNV (l:List (Zy)) (k:Int) (hs:sm (.sl (Xf)) l) (h0:0≤k) (h1:k+((cnt (.sl (Xf)) l:Nat):Int)≤4611686018427387904):ZKc (mkL (mkA mt (Xf)) (cnt (Xf)) l k) k=some (k+((cnt (.sl (Xf)) l:Nat):Int)):=by
 unfold ZKc
 have hl:l.length≤1048576:=by have:=hs.1;omega
 refine ZJP (f:=mkA mt (Xf)) (c:=cnt (Xf)) (step:=fun v=>ZJh (mkL (mkA mt (Xf)) (cnt (Xf)) l k) v.1 v.2.1) (fun j m x hj hx hxm hm0 hm1 hj2=>?_) (fun m=>?_) hl h0 h1
 ·have hsx:=hs.2 x hxm
  have hc:((cnt (Xf) x:Nat):Int)=0+1+1+1+1+1:=by simp only [ZIL,ZIO,ZIK,ZIM,ZIQ];omega
  have f0:Zy.Name (mkA mt (Xf) x m)=mt (m):=rfl
  have e0:=ZNU (k:=m) (by omega) (by omega)
  have f1:Zy.Zbc (mkA mt (Xf) x m)=m+1:=rfl
  have f2:Zy.ZdE (mkA mt (Xf) x m)=m+1+1:=rfl
  have f3:Zy.Zcb (mkA mt (Xf) x m)=m+1+1+1:=rfl
  have f4:Zy.Zeo (mkA mt (Xf) x m)=m+1+1+1+1:=rfl
  simp (disch:=omega) only [ZJh,if_pos hj,Zu,hx,Option.bind_some,Jr,eq_self,if_true,if_false,beq_self_eq_true,f0,e0,f1,f2,f3,f4]
  refine ZJl ?_ ?_
  ·have hc:=hc;omega
  ·omega
 ·simp only [ZJh,Int.lt_irrefl,if_false]
theorem ZOg (a:Zn) (k:Int) (hs:sm (QX) a) (h0:0≤k) (h1:k+((ZIZ (QX) a:Nat):Int)≤4611686018427387904):ZKu (mkT mt (QX) a k) k=some (k+((ZIZ (QX) a:Nat):Int)):=by
 unfold ZKu
 have hc:((ZIZ (QX) a:Nat):Int)=0+(((cnt (.sl (XF)) a.1):Nat):Int)+(((cnt (.sl (Yg)) a.2.1):Nat):Int)+(((cnt (.sl (Yg)) a.2.2.1):Nat):Int)+(((cnt (.sl (Yn)) a.2.2.2.1):Nat):Int)+(((cnt (.sl (Xf)) a.2.2.2.2.1):Nat):Int):=by simp only [ZIZ];omega
 have f0:Zn.YE (mkT mt (QX) a k)=mkL (mkA mt (XF)) (cnt (XF)) a.1 (k):=by rfl
 have n0:¬(k+(((cnt (.sl (XF)) a.1):Nat):Int))<0:=by omega
 have e0:=ZN4 a.1 (k) hs.1 (by omega) (by omega)
 have f1:Zn.XV (mkT mt (QX) a k)=mkL (mkA mt (Yg)) (cnt (Yg)) a.2.1 (k+(((cnt (.sl (XF)) a.1):Nat):Int)):=by rfl
 have n1:¬(k+(((cnt (.sl (XF)) a.1):Nat):Int)+(((cnt (.sl (Yg)) a.2.1):Nat):Int))<0:=by omega
 have e1:=ZKx a.2.1 (k+(((cnt (.sl (XF)) a.1):Nat):Int)) hs.2.1 (by omega) (by omega)
 have f2:Zn.Y7 (mkT mt (QX) a k)=mkL (mkA mt (Yg)) (cnt (Yg)) a.2.2.1 (k+(((cnt (.sl (XF)) a.1):Nat):Int)+(((cnt (.sl (Yg)) a.2.1):Nat):Int)):=by rfl
 have n2:¬(k+(((cnt (.sl (XF)) a.1):Nat):Int)+(((cnt (.sl (Yg)) a.2.1):Nat):Int)+(((cnt (.sl (Yg)) a.2.2.1):Nat):Int))<0:=by omega
 have e2:=ZKx a.2.2.1 (k+(((cnt (.sl (XF)) a.1):Nat):Int)+(((cnt (.sl (Yg)) a.2.1):Nat):Int)) hs.2.2.1 (by omega) (by omega)
 have f3:Zn.Exceptions (mkT mt (QX) a k)=mkL (mkA mt (Yn)) (cnt (Yn)) a.2.2.2.1 (k+(((cnt (.sl (XF)) a.1):Nat):Int)+(((cnt (.sl (Yg)) a.2.1):Nat):Int)+(((cnt (.sl (Yg)) a.2.2.1):Nat):Int)):=by rfl
 have n3:¬(k+(((cnt (.sl (XF)) a.1):Nat):Int)+(((cnt (.sl (Yg)) a.2.1):Nat):Int)+(((cnt (.sl (Yg)) a.2.2.1):Nat):Int)+(((cnt (.sl (Yn)) a.2.2.2.1):Nat):Int))<0:=by omega
 have e3:=ZM6 a.2.2.2.1 (k+(((cnt (.sl (XF)) a.1):Nat):Int)+(((cnt (.sl (Yg)) a.2.1):Nat):Int)+(((cnt (.sl (Yg)) a.2.2.1):Nat):Int)) hs.2.2.2.1 (by omega) (by omega)
 have f4:Zn.XT (mkT mt (QX) a k)=mkL (mkA mt (Xf)) (cnt (Xf)) a.2.2.2.2.1 (k+(((cnt (.sl (XF)) a.1):Nat):Int)+(((cnt (.sl (Yg)) a.2.1):Nat):Int)+(((cnt (.sl (Yg)) a.2.2.1):Nat):Int)+(((cnt (.sl (Yn)) a.2.2.2.1):Nat):Int)):=by rfl
 have n4:¬(k+(((cnt (.sl (XF)) a.1):Nat):Int)+(((cnt (.sl (Yg)) a.2.1):Nat):Int)+(((cnt (.sl (Yg)) a.2.2.1):Nat):Int)+(((cnt (.sl (Yn)) a.2.2.2.1):Nat):Int)+(((cnt (.sl (Xf)) a.2.2.2.2.1):Nat):Int))<0:=by omega
 have e4:=ZNV a.2.2.2.2.1 (k+(((cnt (.sl (XF)) a.1):Nat):Int)+(((cnt (.sl (Yg)) a.2.1):Nat):Int)+(((cnt (.sl (Yg)) a.2.2.1):Nat):Int)+(((cnt (.sl (Yn)) a.2.2.2.1):Nat):Int)) hs.2.2.2.2.1 (by omega) (by omega)
 simp only [Option.bind_some,if_false,f0,n0,e0,f1,n1,e1,f2,n2,e2,f3,n3,e3,f4,n4,e4]
 refine congrArg some ?_
 omega
theorem ZLh (l:List (Zh)) (k:Int) (hs:sm (.sl (XL)) l) (h0:0≤k) (h1:k+((cnt (.sl (XL)) l:Nat):Int)≤4611686018427387904):ZJ5 (mkL (mkA mt (XL)) (cnt (XL)) l k) k=some (k+((cnt (.sl (XL)) l:Nat):Int)):=by
 unfold ZJ5
 have hl:l.length≤1048576:=by have:=hs.1;omega
 refine ZJP (f:=mkA mt (XL)) (c:=cnt (XL)) (step:=fun v=>ZJw (mkL (mkA mt (XL)) (cnt (XL)) l k) v.1 v.2.1) (fun j m x hj hx hxm hm0 hm1 hj2=>?_) (fun m=>?_) hl h0 h1
 ·have hsx:=hs.2 x hxm
  have hc:((cnt (XL) x:Nat):Int)=0+1+1+1+1+1+1+((cnt (.sl (.int .i64)) x.2.2.2.2.2.2.1.1:Nat):Int)+((cnt (.sl (.int .i64)) x.2.2.2.2.2.2.1.2.1:Nat):Int)+((cnt (.sl (.int .i64)) x.2.2.2.2.2.2.1.2.2.1:Nat):Int)+((cnt (.sl (.int .i64)) x.2.2.2.2.2.2.1.2.2.2.1:Nat):Int):=by simp only [ZIL,ZIO,ZIK,ZIM,ZIQ];omega
  have f0:Zh.Kind (mkA mt (XL) x m)=m:=rfl
  have f1:Zh.Place (mkA mt (XL) x m)=m+1:=rfl
  have f2:Zh.Cell (mkA mt (XL) x m)=m+1+1:=rfl
  have f3:Zh.Net (mkA mt (XL) x m)=m+1+1+1:=rfl
  have f4:Zh.Node (mkA mt (XL) x m)=m+1+1+1+1:=rfl
  have f5:Zh.Name (mkA mt (XL) x m)=mt (m+1+1+1+1+1):=rfl
  have e5:=ZNU (k:=m+1+1+1+1+1) (by omega) (by omega)
  have f6:Zr.Parent (Zh.Ze7 (mkA mt (XL) x m))=mkL (mkA mt (.int .i64)) (cnt (.int .i64)) x.2.2.2.2.2.2.1.1 (m+1+1+1+1+1+1):=rfl
  have e6:=ZIF x.2.2.2.2.2.2.1.1 (m+1+1+1+1+1+1) hsx.2.2.2.2.2.2.1.1 (by omega) (by omega)
  have n6:¬(m+1+1+1+1+1+1+((cnt (.sl (.int .i64)) x.2.2.2.2.2.2.1.1:Nat):Int))<0:=by omega
  have f7:Zr.Res (Zh.Ze7 (mkA mt (XL) x m))=mkL (mkA mt (.int .i64)) (cnt (.int .i64)) x.2.2.2.2.2.2.1.2.1 (m+1+1+1+1+1+1+((cnt (.sl (.int .i64)) x.2.2.2.2.2.2.1.1:Nat):Int)):=rfl
  have e7:=ZIF x.2.2.2.2.2.2.1.2.1 (m+1+1+1+1+1+1+((cnt (.sl (.int .i64)) x.2.2.2.2.2.2.1.1:Nat):Int)) hsx.2.2.2.2.2.2.1.2.1 (by omega) (by omega)
  have n7:¬(m+1+1+1+1+1+1+((cnt (.sl (.int .i64)) x.2.2.2.2.2.2.1.1:Nat):Int)+((cnt (.sl (.int .i64)) x.2.2.2.2.2.2.1.2.1:Nat):Int))<0:=by omega
  have f8:Zr.Cap (Zh.Ze7 (mkA mt (XL) x m))=mkL (mkA mt (.int .i64)) (cnt (.int .i64)) x.2.2.2.2.2.2.1.2.2.1 (m+1+1+1+1+1+1+((cnt (.sl (.int .i64)) x.2.2.2.2.2.2.1.1:Nat):Int)+((cnt (.sl (.int .i64)) x.2.2.2.2.2.2.1.2.1:Nat):Int)):=rfl
  have e8:=ZIF x.2.2.2.2.2.2.1.2.2.1 (m+1+1+1+1+1+1+((cnt (.sl (.int .i64)) x.2.2.2.2.2.2.1.1:Nat):Int)+((cnt (.sl (.int .i64)) x.2.2.2.2.2.2.1.2.1:Nat):Int)) hsx.2.2.2.2.2.2.1.2.2.1 (by omega) (by omega)
  have n8:¬(m+1+1+1+1+1+1+((cnt (.sl (.int .i64)) x.2.2.2.2.2.2.1.1:Nat):Int)+((cnt (.sl (.int .i64)) x.2.2.2.2.2.2.1.2.1:Nat):Int)+((cnt (.sl (.int .i64)) x.2.2.2.2.2.2.1.2.2.1:Nat):Int))<0:=by omega
  have f9:Zr.Ze6 (Zh.Ze7 (mkA mt (XL) x m))=mkL (mkA mt (.int .i64)) (cnt (.int .i64)) x.2.2.2.2.2.2.1.2.2.2.1 (m+1+1+1+1+1+1+((cnt (.sl (.int .i64)) x.2.2.2.2.2.2.1.1:Nat):Int)+((cnt (.sl (.int .i64)) x.2.2.2.2.2.2.1.2.1:Nat):Int)+((cnt (.sl (.int .i64)) x.2.2.2.2.2.2.1.2.2.1:Nat):Int)):=rfl
  have e9:=ZIF x.2.2.2.2.2.2.1.2.2.2.1 (m+1+1+1+1+1+1+((cnt (.sl (.int .i64)) x.2.2.2.2.2.2.1.1:Nat):Int)+((cnt (.sl (.int .i64)) x.2.2.2.2.2.2.1.2.1:Nat):Int)+((cnt (.sl (.int .i64)) x.2.2.2.2.2.2.1.2.2.1:Nat):Int)) hsx.2.2.2.2.2.2.1.2.2.2.1 (by omega) (by omega)
  have n9:¬(m+1+1+1+1+1+1+((cnt (.sl (.int .i64)) x.2.2.2.2.2.2.1.1:Nat):Int)+((cnt (.sl (.int .i64)) x.2.2.2.2.2.2.1.2.1:Nat):Int)+((cnt (.sl (.int .i64)) x.2.2.2.2.2.2.1.2.2.1:Nat):Int)+((cnt (.sl (.int .i64)) x.2.2.2.2.2.2.1.2.2.2.1:Nat):Int))<0:=by omega
  simp only [ZJw]
  rw [if_pos hj,Zu,hx,Option.bind_some]
  rw [if_pos f0]
  try rw [Jr (n:=m+1) (by omega) (by omega)]
  rw [if_pos f1]
  try rw [Jr (n:=m+1+1) (by omega) (by omega)]
  rw [if_pos f2]
  try rw [Jr (n:=m+1+1+1) (by omega) (by omega)]
  rw [if_pos f3]
  try rw [Jr (n:=m+1+1+1+1) (by omega) (by omega)]
  rw [if_pos f4]
  try rw [Jr (n:=m+1+1+1+1+1) (by omega) (by omega)]
  rw [e5,Option.bind_some,if_pos f5]
  try rw [Jr (n:=m+1+1+1+1+1+1) (by omega) (by omega)]
  rw [f6,e6,Option.bind_some,if_neg n6]
  try rw [Jr (n:=m+1+1+1+1+1+1+((cnt (.sl (.int .i64)) x.2.2.2.2.2.2.1.1:Nat):Int)) (by omega) (by omega)]
  rw [f7,e7,Option.bind_some,if_neg n7]
  try rw [Jr (n:=m+1+1+1+1+1+1+((cnt (.sl (.int .i64)) x.2.2.2.2.2.2.1.1:Nat):Int)+((cnt (.sl (.int .i64)) x.2.2.2.2.2.2.1.2.1:Nat):Int)) (by omega) (by omega)]
  rw [f8,e8,Option.bind_some,if_neg n8]
  try rw [Jr (n:=m+1+1+1+1+1+1+((cnt (.sl (.int .i64)) x.2.2.2.2.2.2.1.1:Nat):Int)+((cnt (.sl (.int .i64)) x.2.2.2.2.2.2.1.2.1:Nat):Int)+((cnt (.sl (.int .i64)) x.2.2.2.2.2.2.1.2.2.1:Nat):Int)) (by omega) (by omega)]
  rw [f9,e9,Option.bind_some,if_neg n9]
  try rw [Jr (n:=m+1+1+1+1+1+1+((cnt (.sl (.int .i64)) x.2.2.2.2.2.2.1.1:Nat):Int)+((cnt (.sl (.int .i64)) x.2.2.2.2.2.2.1.2.1:Nat):Int)+((cnt (.sl (.int .i64)) x.2.2.2.2.2.2.1.2.2.1:Nat):Int)+((cnt (.sl (.int .i64)) x.2.2.2.2.2.2.1.2.2.2.1:Nat):Int)) (by omega) (by omega)]
  rw [Jr (n:=(j:Int)+1) (by omega) (by omega)]
  refine ZJl ?_ ?_
  ·have hc:=hc;omega
  ·omega
 ·simp only [ZJw,Int.lt_irrefl,if_false]
theorem ZJI (a:ZH) (k:Int) (hs:sm (Jy) a) (h0:0≤k) (h1:k+((ZIZ (Jy) a:Nat):Int)≤4611686018427387904):ZI7 (mkT mt (Jy) a k) k=some (k+((ZIZ (Jy) a:Nat):Int)):=by
 unfold ZI7
 have hc:((ZIZ (Jy) a:Nat):Int)=0+(((ZIZ (Y3) a.1):Nat):Int)+(((ZIZ (QX) a.2.1):Nat):Int)+(((cnt (.sl (XL)) a.2.2.1):Nat):Int)+(((cnt (.sl (XL)) a.2.2.2.1):Nat):Int):=by simp only [ZIZ];omega
 have f0:ZH.Block (mkT mt (Jy) a k)=mkT mt (Y3) a.1 (k):=by rfl
 have n0:¬(k+(((ZIZ (Y3) a.1):Nat):Int))<0:=by omega
 have e0:=ZOd a.1 (k) hs.1 (by omega) (by omega)
 have f1:ZH.Setup (mkT mt (Jy) a k)=mkT mt (QX) a.2.1 (k+(((ZIZ (Y3) a.1):Nat):Int)):=by rfl
 have n1:¬(k+(((ZIZ (Y3) a.1):Nat):Int)+(((ZIZ (QX) a.2.1):Nat):Int))<0:=by omega
 have e1:=ZOg a.2.1 (k+(((ZIZ (Y3) a.1):Nat):Int)) hs.2.1 (by omega) (by omega)
 have f2:ZH.Zpn (mkT mt (Jy) a k)=mkL (mkA mt (XL)) (cnt (XL)) a.2.2.1 (k+(((ZIZ (Y3) a.1):Nat):Int)+(((ZIZ (QX) a.2.1):Nat):Int)):=by rfl
 have n2:¬(k+(((ZIZ (Y3) a.1):Nat):Int)+(((ZIZ (QX) a.2.1):Nat):Int)+(((cnt (.sl (XL)) a.2.2.1):Nat):Int))<0:=by omega
 have e2:=ZLh a.2.2.1 (k+(((ZIZ (Y3) a.1):Nat):Int)+(((ZIZ (QX) a.2.1):Nat):Int)) hs.2.2.1 (by omega) (by omega)
 have f3:ZH.Zpp (mkT mt (Jy) a k)=mkL (mkA mt (XL)) (cnt (XL)) a.2.2.2.1 (k+(((ZIZ (Y3) a.1):Nat):Int)+(((ZIZ (QX) a.2.1):Nat):Int)+(((cnt (.sl (XL)) a.2.2.1):Nat):Int)):=by rfl
 have n3:¬(k+(((ZIZ (Y3) a.1):Nat):Int)+(((ZIZ (QX) a.2.1):Nat):Int)+(((cnt (.sl (XL)) a.2.2.1):Nat):Int)+(((cnt (.sl (XL)) a.2.2.2.1):Nat):Int))<0:=by omega
 have e3:=ZLh a.2.2.2.1 (k+(((ZIZ (Y3) a.1):Nat):Int)+(((ZIZ (QX) a.2.1):Nat):Int)+(((cnt (.sl (XL)) a.2.2.1):Nat):Int)) hs.2.2.2.1 (by omega) (by omega)
 simp only [Option.bind_some,if_false,f0,n0,e0,f1,n1,e1,f2,n2,e2,f3,n3,e3]
 refine congrArg some ?_
 omega
end Go.Proofs.YthkhedimjmkifaaGreatDoor
/-
  Plain laws: edits: what an edit may mention, and when it is possible.
-/
namespace Go.Proofs.YthkhedimjmkifaaGreatDoor
set_option linter.unusedVariables false
set_option linter.unusedSimpArgs false
open Go Go.Sx
end Go.Proofs.YthkhedimjmkifaaGreatDoor
/-
  Plain laws: edits: range, possibility, code.
-/
namespace Go.Proofs.YthkhedimjmkifaaGreatDoor
set_option linter.unusedVariables false
set_option linter.unusedSimpArgs false
open Go Go.Sx
end Go.Proofs.YthkhedimjmkifaaGreatDoor
/-
  Plain laws: edits: what is possible, the code of an edit, places after one.
-/
namespace Go.Proofs.YthkhedimjmkifaaGreatDoor
set_option linter.unusedVariables false
set_option linter.unusedSimpArgs false
open Go Go.Sx
end Go.Proofs.YthkhedimjmkifaaGreatDoor
/-
  Plain laws: the code of an edit of any block.
-/
namespace Go.Proofs.YthkhedimjmkifaaGreatDoor
set_option linter.unusedVariables false
set_option linter.unusedSimpArgs false
open Go Go.Sx
end Go.Proofs.YthkhedimjmkifaaGreatDoor
/-
  Plain laws: places after an edit; the law FnExactPlacesAfter.
-/
namespace Go.Proofs.YthkhedimjmkifaaGreatDoor
set_option linter.unusedVariables false
set_option linter.unusedSimpArgs false
open Go Go.Sx
noncomputable def Zta (b:Za) (e:Zh) (k:Nat) (p:Pl):Int :=
 if Zh.Kind e=2∧p.1<0 then (k:Int)+2
 else if Zh.Kind e=3∧p.1<0 then (k:Int)-2
 else if Zh.Kind e=3∧p.1=((Zb.Instances (Za.Design b)).length:Int)-1 then -1
 else (k:Int)
noncomputable def after (b:Za) (e:Zh):List Int:=cat (fun k p=>[Zta b e k p]) 0 (places (Za.Design b))
end Go.Proofs.YthkhedimjmkifaaGreatDoor
/-
  Plain laws: places, one by one; a place put on another net; an instance more, an instance less.
-/
namespace Go.Proofs.YthkhedimjmkifaaGreatDoor
set_option linter.unusedVariables false
set_option linter.unusedSimpArgs false
open Go Go.Sx
end Go.Proofs.YthkhedimjmkifaaGreatDoor
/-
  Plain laws: the wires' sinks out of the places' nodes.
-/
namespace Go.Proofs.YthkhedimjmkifaaGreatDoor
set_option linter.unusedVariables false
set_option linter.unusedSimpArgs false
open Go Go.Sx
def Zd4 (w:Zr) (l:List Int):Zr:=(Zr.Parent w,Zr.Res w,Zr.Cap w,l,())
end Go.Proofs.YthkhedimjmkifaaGreatDoor
/-
  Plain laws: maps by their keys.
-/
namespace Go.Proofs.YthkhedimjmkifaaGreatDoor
set_option linter.unusedVariables false
set_option linter.unusedSimpArgs false
open Go Go.Sx
end Go.Proofs.YthkhedimjmkifaaGreatDoor
/-
  Plain laws: nodes by keys against nodes by places; kept when a place is put on another net, when an instance is added or removed.
-/
namespace Go.Proofs.YthkhedimjmkifaaGreatDoor
set_option linter.unusedVariables false
set_option linter.unusedSimpArgs false
open Go Go.Sx
end Go.Proofs.YthkhedimjmkifaaGreatDoor
/-
  Plain laws: the map of nodes, place by place; lists of nodes.
-/
namespace Go.Proofs.YthkhedimjmkifaaGreatDoor
set_option linter.unusedVariables false
set_option linter.unusedSimpArgs false
open Go Go.Sx
end Go.Proofs.YthkhedimjmkifaaGreatDoor
/-
  Plain laws: what edits make of designs, of nodes by place.
-/
namespace Go.Proofs.YthkhedimjmkifaaGreatDoor
set_option linter.unusedVariables false
set_option linter.unusedSimpArgs false
open Go Go.Sx
end Go.Proofs.YthkhedimjmkifaaGreatDoor
/-
  Plain laws: clones are what they are made of.
-/
namespace Go.Proofs.YthkhedimjmkifaaGreatDoor
set_option linter.unusedVariables false
set_option linter.unusedSimpArgs false
open Go Go.Sx
theorem ZaY {α:Type} {l:List α} {k:Nat} {x:α} (hx:l[k]?=some x):l.set k x=l:=by
 apply List.ext_getElem?
 intro j
 rw [List.getElem?_set]
 split
 ·rename_i e;subst e
  rw [if_pos (List.getElem?_eq_some_iff.1 hx).1,hx]
 ·rfl
theorem V7 (l:List Int) (h:l.length≤1048576):ZC l=some l:=by
 unfold ZC
 rw [Zi (by rw [List.length_nil];omega)];rfl
theorem Zdx (l:List Int) (h:l.length≤1048576):XK l=some l:=by
 unfold XK
 rw [Zi (by rw [List.length_nil];omega)];rfl
theorem Zdc (w:Zr) (hw:sm Vv w):Zbl w=some w:=by
 obtain ⟨a1,a2,a3,a4⟩:=ZlW hw
 unfold Zbl
 rw [V7 _ (Zp a1),Option.bind_some,V7 _ (Zp a2),Option.bind_some,V7 _ (Zp a3),Option.bind_some,V7 _ (Zp a4),Option.bind_some]
theorem Zgk (w:Zr) (hw:sm Vv w):JN w=some w:=by
 obtain ⟨a1,a2,a3,a4⟩:=ZlW hw
 unfold JN
 rw [Zdx _ (Zp a1),Option.bind_some,Zdx _ (Zp a2),Option.bind_some,Zdx _ (Zp a3),Option.bind_some,Zdx _ (Zp a4),Option.bind_some]
theorem ZjZ (d:Zb) (hd:sm YG d):Vp d=some d:=by
 obtain ⟨s1,s2,s3⟩:=Za4 hd
 have l1:=Zp s1
 have l2:=Zp s2
 have l3:=Zp s3
 unfold Vp Xq VD Ql
 rw [Zi (by rw [List.length_nil];omega),Option.bind_some,Zi (by rw [List.length_nil];omega),Option.bind_some,Zi (by rw [List.length_nil];omega),Option.bind_some]
 simp only [List.nil_append]
 refine Yk (l:=Zb.Instances d) (fun k=>((k:Int),(Zb.Instances d,(k:Int)),())) (fun k x hx hk=>?_) ?_
 ·have hx2:=V7 (Ze.ZI x) (Zp (Zkk (QV s1 hx)).2)
  simp only [Qg,show (k:Int)<((Zb.Instances d).length:Int) by omega,if_true,Zu,hx,Option.bind_some,Int.le_refl,hx2,Zi trivial,Xx (show k≤1048576 by omega),Int.toNat_natCast]
  rw [show List.set (Zb.Instances d) k (Ze.Name x,Ze.Cell x,Ze.ZI x,())=Zb.Instances d from ZaY hx]
  rfl
 ·simp only [Qg,Int.lt_irrefl,if_false,Zi trivial]
theorem ZfP (l:List ZA) (hl:sm (.sl XE) l):Zax l=some l:=by
 have h1:=Zp hl
 unfold Zax
 have:=Yk (l:=l) (fun k=>(l.take k,(k:Int),())) (step:=fun v=>VU l v.1 v.2.1) (good:=l) (fun k x hx hk=>by
  have hs:sm XE x:=QV hl hx
  have e1:=V7 (ZA.Zg6 x) (Zp (t:=.int .i64) hs.1)
  have e2:=V7 (ZA.Loads x) (Zp (t:=.int .i64) hs.2.1)
  have e3:=V7 (ZA.Values x) (Zp (t:=.int .i64) hs.2.2.1)
  have hg:((l.take k).length+[(ZA.Zg6 x,ZA.Loads x,ZA.Values x,())].length)*72≤140737488355328:=by rw [List.length_take,List.length_singleton];omega
  simp only [VU,show (k:Int)<(l.length:Int) by omega,if_true,Zu,hx,Option.bind_some,e1,e2,e3,Zi hg,Xx (show k≤1048576 by omega)]
  rw [Z8 hx]) (by
  simp only [VU,Int.lt_irrefl,if_false,List.take_length])
 simpa using this
theorem ZjO (a:Zo) (ha:sm Xh a):Vq a=some a:=by
 have hc:=Zqk ha
 have h1:=Zp hc
 unfold Vq
 have:=Yk (l:=Zo.Cells a) (fun k=>((k:Int),(Zo.Cells a).take k,())) (step:=fun v=>XC a v.1 v.2.1) (good:=a) (fun k x hx hk=>by
  have hs:sm QL x:=QV hc hx
  have p1:sm (.sl ZgP) (Zm.Yw x):=hs.2.2.1
  have p2:sm (.sl Zib) (Zm.JQ x):=hs.2.2.2.1
  have p3:sm (.sl (.int .i64)) (Zm.Truth x):=hs.2.2.2.2.1
  have l1:=Zp p1
  have l2:=Zp p2
  have l3:=Zp p3
  simp only [XC,show (k:Int)<((Zo.Cells a).length:Int) by omega,if_true,Zu,hx,Option.bind_some]
  unfold QB QA
  rw [Zi (by rw [List.length_nil];omega),Option.bind_some,V7 _ l3,Option.bind_some,Zi (by rw [List.length_nil];omega),Option.bind_some]
  simp only [List.nil_append]
  have hg:∀ y:Zm,(((Zo.Cells a).take k).length+[y].length)*112≤140737488355328:=fun y=>by rw [List.length_take,List.length_singleton];omega
  refine Yk (l:=Zm.JQ x) (fun j=>((j:Int),(Zm.JQ x,(j:Int)),())) (fun j y hy hj=>?_) ?_
  ·obtain ⟨q1,q2⟩:=ZyN (QV p2 hy)
   simp only [Qi,show (j:Int)<((Zm.JQ x).length:Int) by omega,if_true,Zu,hy,Option.bind_some,Int.le_refl,ZfP _ q1,ZfP _ q2,Zi trivial,Xx (show j≤1048576 by omega),Int.toNat_natCast]
   rw [show List.set (Zm.JQ x) j (ZJ.Kind y,ZJ.From y,ZJ.To y,ZJ.ZbJ y,ZJ.Delay y,ZJ.ZdS y,())=Zm.JQ x from ZaY hy]
   rfl
  ·simp only [Qi,Int.lt_irrefl,if_false,Zi trivial,Zi (hg _),Xx (show k≤1048576 by omega)]
   rw [Z8 hx]) (by
  simp only [XC,Int.lt_irrefl,if_false,List.take_length])
 simpa using this
theorem Zf8 (b:Za) (hb:sm Y3 b):Zcl b=some b:=by
 obtain ⟨b1,b2,b3⟩:=JW hb
 have h1:=Zp b3
 unfold Zcl
 rw [ZjO _ b1,Option.bind_some,ZjZ _ b2,Option.bind_some]
 have:=Yk (l:=Za.Zz b) (fun k=>((k:Int),(Za.Zz b).take k,())) (step:=fun v=>VQ b (Za.Library b) (Za.Design b) v.1 v.2.1) (good:=b) (fun k x hx hk=>by
  have hg:(((Za.Zz b).take k).length+[x].length)*96≤140737488355328:=by rw [List.length_take,List.length_singleton];omega
  simp only [VQ,show (k:Int)<((Za.Zz b).length:Int) by omega,if_true,Zu,hx,Option.bind_some,Zdc x (QV b3 hx),Zi hg,Xx (show k≤1048576 by omega)]
  rw [Z8 hx]) (by
  simp only [VQ,Int.lt_irrefl,if_false,List.take_length])
 simpa using this
end Go.Proofs.YthkhedimjmkifaaGreatDoor
/-
  Plain laws: the nodes of all sinks, by key (program) and by place (reference).
-/
namespace Go.Proofs.YthkhedimjmkifaaGreatDoor
set_option linter.unusedVariables false
set_option linter.unusedSimpArgs false
open Go Go.Sx
end Go.Proofs.YthkhedimjmkifaaGreatDoor
/-
  Plain laws: the reference's nodes by place.
-/
namespace Go.Proofs.YthkhedimjmkifaaGreatDoor
set_option linter.unusedVariables false
set_option linter.unusedSimpArgs false
open Go Go.Sx
end Go.Proofs.YthkhedimjmkifaaGreatDoor
/-
  Plain laws: sinks put in anew, a place put on another net, a buffer taken away.
-/
namespace Go.Proofs.YthkhedimjmkifaaGreatDoor
set_option linter.unusedVariables false
set_option linter.unusedSimpArgs false
open Go Go.Sx
end Go.Proofs.YthkhedimjmkifaaGreatDoor
/-
  Plain laws: a buffer taken away; inverse edits.
-/
namespace Go.Proofs.YthkhedimjmkifaaGreatDoor
set_option linter.unusedVariables false
set_option linter.unusedSimpArgs false
open Go Go.Sx
end Go.Proofs.YthkhedimjmkifaaGreatDoor
/-
  Plain laws: designs stay valid when a place is put on another net, when a buffer is added or taken away.
-/
namespace Go.Proofs.YthkhedimjmkifaaGreatDoor
set_option linter.unusedVariables false
set_option linter.unusedSimpArgs false
open Go Go.Sx
theorem Zbr.put {w:Zr} {s:Int} (h:Zbr w s) {l:List Int} (hl:ZiJ l 0 (((Zr.Parent w).length:Int)-1)):Zbr (Zd4 w l) (l.length:Int) :=
 ⟨h.1,h.2.1,h.2.2.1,rfl,h.2.2.2.2.1,h.2.2.2.2.2.1,h.2.2.2.2.2.2.1,hl⟩
theorem X7.take {l:List (List UInt8)} (h:X7 l l.length) (m:Nat):X7 (l.take m) (l.take m).length:=by
 intro j t hj ht
 rw [List.length_take] at hj
 rw [List.getElem?_take,if_pos (by omega)] at ht
 obtain ⟨a,b⟩:=h j t (by omega) ht
 refine ⟨a,?_⟩
 rw [List.take_take,Nat.min_eq_left (by omega)]
 exact b
end Go.Proofs.YthkhedimjmkifaaGreatDoor
/-
  Plain laws: the blocks that edits make are valid.
-/
namespace Go.Proofs.YthkhedimjmkifaaGreatDoor
set_option linter.unusedVariables false
set_option linter.unusedSimpArgs false
open Go Go.Sx
end Go.Proofs.YthkhedimjmkifaaGreatDoor
/-
  Plain laws: a block with a buffer less is valid.
-/
namespace Go.Proofs.YthkhedimjmkifaaGreatDoor
set_option linter.unusedVariables false
set_option linter.unusedSimpArgs false
open Go Go.Sx
end Go.Proofs.YthkhedimjmkifaaGreatDoor
/-
  Plain laws: the reference's own copies; places connected, sinks attached (reference); edits applied.
-/
namespace Go.Proofs.YthkhedimjmkifaaGreatDoor
set_option linter.unusedVariables false
set_option linter.unusedSimpArgs false
open Go Go.Sx
theorem Zod (t:ZA) (ht:sm XE t):Ziw t=some t:=by
 have e1:=Zdx (ZA.Zg6 t) (Zp (t:=.int .i64) ht.1)
 have e2:=Zdx (ZA.Loads t) (Zp (t:=.int .i64) ht.2.1)
 have e3:=Zdx (ZA.Values t) (Zp (t:=.int .i64) ht.2.2.1)
 unfold Ziw
 rw [e1,e2,e3]
 rfl
theorem Zhn (l:List ZA) (hl:sm (.sl XE) l):JM l=some l:=by
 have h1:=Zp hl
 unfold JM
 have:=Yk (l:=l) (fun k=>(l.take k,(k:Int),())) (step:=fun v=>Vk l v.1 v.2.1) (good:=l) (fun k x hx hk=>by
  have hg:((l.take k).length+[x].length)*72≤140737488355328:=by rw [List.length_take,List.length_singleton];omega
  simp only [Vk,show (k:Int)<(l.length:Int) by omega,if_true,Zu,hx,Option.bind_some,Zod x (QV hl hx),Zi hg,Xx (show k≤1048576 by omega)]
  rw [Z8 hx]) (by
  simp only [Vk,Int.lt_irrefl,if_false,List.take_length])
 simpa using this
theorem ZoJ (c:Zm) (hs:sm QL c):Zh6 c=some c:=by
 have p1:sm (.sl ZgP) (Zm.Yw c):=hs.2.2.1
 have p2:sm (.sl Zib) (Zm.JQ c):=hs.2.2.2.1
 have p3:sm (.sl (.int .i64)) (Zm.Truth c):=hs.2.2.2.2.1
 have l1:=Zp p1
 have l2:=Zp p2
 have l3:=Zp p3
 unfold Zh6
 rw [Zi (by rw [List.length_nil];omega),Zdx _ l3,Option.bind_some]
 have:=Yk (l:=Zm.JQ c) (fun k=>((k:Int),(Zm.JQ c).take k,())) (step:=fun v=>ZbQ c (Zm.Truth c) v.1 v.2.1) (good:=c) (fun k x hx hk=>by
  obtain ⟨q1,q2⟩:=ZyN (QV p2 hx)
  have hg:∀ y:ZJ,(((Zm.JQ c).take k).length+[y].length)*80≤140737488355328:=fun y=>by rw [List.length_take,List.length_singleton];omega
  simp only [ZbQ,show (k:Int)<((Zm.JQ c).length:Int) by omega,if_true,Zu,hx,Option.bind_some,Zhn _ q1,Zhn _ q2,Zi (hg _),Xx (show k≤1048576 by omega)]
  rw [Z8 hx]) (by
  simp only [ZbQ,Int.lt_irrefl,if_false,List.take_length]
  rfl)
 simpa using this
theorem ZlE (a:Zo) (ha:sm Xh a):Za2 a=some a:=by
 have hc:=Zqk ha
 have h1:=Zp hc
 unfold Za2
 have:=Yk (l:=Zo.Cells a) (fun k=>((k:Int),(Zo.Cells a).take k,())) (step:=fun v=>QN a v.1 v.2.1) (good:=a) (fun k x hx hk=>by
  have hg:(((Zo.Cells a).take k).length+[x].length)*112≤140737488355328:=by rw [List.length_take,List.length_singleton];omega
  simp only [QN,show (k:Int)<((Zo.Cells a).length:Int) by omega,if_true,Zu,hx,Option.bind_some,ZoJ x (QV hc hx),Zi hg,Xx (show k≤1048576 by omega)]
  rw [Z8 hx]) (by
  simp only [QN,Int.lt_irrefl,if_false,List.take_length])
 simpa using this
theorem Zni (d:Zb) (hd:sm YG d):ZhF d=some d:=by
 obtain ⟨s1,s2,s3⟩:=Za4 hd
 have l1:=Zp s1
 have l2:=Zp s2
 have l3:=Zp s3
 unfold ZhF
 rw [Zi (by rw [List.length_nil];omega),Zi (by rw [List.length_nil];omega)]
 have:=Yk (l:=Zb.Instances d) (fun k=>((k:Int),(Zb.Instances d).take k,())) (step:=fun v=>Zbz d v.1 v.2.1) (good:=d) (fun k x hx hk=>by
  have hx2:=Zdx (Ze.ZI x) (Zp (Zkk (QV s1 hx)).2)
  have hg:∀ y:Ze,(((Zb.Instances d).take k).length+[y].length)*48≤140737488355328:=fun y=>by rw [List.length_take,List.length_singleton];omega
  simp only [Zbz,show (k:Int)<((Zb.Instances d).length:Int) by omega,if_true,Zu,hx,Option.bind_some,hx2,Zi (hg _),Xx (show k≤1048576 by omega)]
  rw [Z8 hx]) (by
  simp only [Zbz,Int.lt_irrefl,if_false,List.take_length]
  rfl)
 simpa using this
theorem Ztz (b:Za) (hb:sm Y3 b):Zh9 b=some b:=by
 obtain ⟨b1,b2,b3⟩:=JW hb
 have h1:=Zp b3
 unfold Zh9
 rw [ZlE _ b1,Option.bind_some,Zni _ b2,Option.bind_some]
 have:=Yk (l:=Za.Zz b) (fun k=>((k:Int),(Za.Zz b).take k,())) (step:=fun v=>Zbx b (Za.Library b) (Za.Design b) v.1 v.2.1) (good:=b) (fun k x hx hk=>by
  have hg:(((Za.Zz b).take k).length+[x].length)*96≤140737488355328:=by rw [List.length_take,List.length_singleton];omega
  simp only [Zbx,show (k:Int)<((Za.Zz b).length:Int) by omega,if_true,Zu,hx,Option.bind_some,Zgk x (QV b3 hx),Zi hg,Xx (show k≤1048576 by omega)]
  rw [Z8 hx]) (by
  simp only [Zbx,Int.lt_irrefl,if_false,List.take_length])
 simpa using this
end Go.Proofs.YthkhedimjmkifaaGreatDoor
/-
  Plain laws: a buffer put in, a buffer taken away: the program and the reference; edits applied.
-/
namespace Go.Proofs.YthkhedimjmkifaaGreatDoor
set_option linter.unusedVariables false
set_option linter.unusedSimpArgs false
open Go Go.Sx
end Go.Proofs.YthkhedimjmkifaaGreatDoor
/-
  Plain laws: a buffer taken away (reference); edits applied: the program and the reference.
-/
namespace Go.Proofs.YthkhedimjmkifaaGreatDoor
set_option linter.unusedVariables false
set_option linter.unusedSimpArgs false
open Go Go.Sx
end Go.Proofs.YthkhedimjmkifaaGreatDoor
/-
  Plain laws: setups whose places are carried over: what the reference makes of them.
-/
namespace Go.Proofs.YthkhedimjmkifaaGreatDoor
set_option linter.unusedVariables false
set_option linter.unusedSimpArgs false
open Go Go.Sx
def Zau (af:List Int) (p:Int):Int:=(af[p.toNat]?).getD 0
def Zzy (af:List Int) (c:Zl):Zl:=(Zl.Name c,Zau af (Zl.Place c),c.2.2)
def Zqr (af:List Int) (x:Zj):Zj:=(Zau af (Zj.Place x),x.2)
def ZxG (af:List Int) (l:List Int):List Int:=l.map (Zau af)
def ZxJ (af:List Int) (e:Zg):Zg:=(Zg.Kind e,Zg.Value e,ZxG af (Zg.From e),ZxG af (Zg.Through e),ZxG af (Zg.To e),())
def LOk (af:List Int) (l:List Int):Prop:=ZeY l (fun _ p=>0≤Zau af p)
def EOk (af:List Int) (e:Zg):Prop:=LOk af (Zg.From e)∧LOk af (Zg.Through e)∧LOk af (Zg.To e)
theorem Zik {af:List Int} {p:Int} (h0:0≤p) (h1:p<(af.length:Int)):atI af p=some (Zau af p):=by
 have hx:af[p.toNat]?=some (af[p.toNat]'(by omega)):=List.getElem?_eq_getElem _
 unfold Zau
 rw [XI h0 hx,hx]
 rfl
structure Zvy (n:Nat) (s:Zn):Prop where
 clocks:∀ c∈Zn.YE s,0≤Zl.Place c∧Zl.Place c<(n:Int)
 ins:∀ x∈Zn.XV s,0≤Zj.Place x∧Zj.Place x<(n:Int)
 outs:∀ x∈Zn.Y7 s,0≤Zj.Place x∧Zj.Place x<(n:Int)
 excs:∀ e∈Zn.Exceptions s,ZmH n (Zg.From e)∧ZmH n (Zg.Through e)∧ZmH n (Zg.To e)
 lens:(Zn.YE s).length≤6∧(Zn.XV s).length≤n∧(Zn.Y7 s).length≤n∧(Zn.Exceptions s).length≤6∧(Zn.XT s).length≤4
theorem Zzt {pl:List Pl} {nc:Int} {drv:Bool} {l:List Zj} (h:Zhk pl nc drv l):l.length≤pl.length:=by
 have key:∀ k,k<l.length→∀ x,l[k]?=some x→(k:Int)≤Zj.Place x:=by
  intro k
  induction k with
  | zero=>intro hk x hx;have:=(h 0 x hx).1;omega
  | succ k ih =>
   intro hk x hx
   have hy:l[k]?=some l[k]:=List.getElem?_eq_getElem (by omega)
   have h1:=ih (by omega) _ hy
   have h2:=(h (k+1) x hx).2.2.1 _ (by omega) hy
   omega
 by_cases h0:l.length=0
 ·omega
 ·have hx:l[l.length-1]?=some (l[l.length-1]'(by omega)):=List.getElem?_eq_getElem _
  have h1:=key _ (by omega) _ hx
  have h2:=(h _ _ hx).1
  omega
theorem ZAX {pl:List Pl} {s:Zn} (h:ZpV pl s):Zvy pl.length s:=by
 obtain ⟨h1,h2,h3,h4,h5,h6,h7⟩:=h
 have hx:∀ {drv:Bool} {l:List Zj},Zhk pl ((Zn.YE s).length:Int) drv l→∀ x∈l,0≤Zj.Place x∧Zj.Place x<(pl.length:Int):=by
  intro drv l hl x hx
  obtain ⟨k,hk⟩:=List.getElem?_of_mem hx
  have:=(hl k x hk).1
  omega
 exact ⟨fun c hc=>⟨h1.place hc,h2 c hc⟩,hx h3,hx h4,fun e he=>⟨(h6 e he).1,(h6 e he).2.1,(h6 e he).2.2.1⟩,h1.1,Zzt h3,Zzt h4,h5,h7.1⟩
noncomputable def ZAJ (af:List Int) (l:List Int):List Int:=sel (LOk af l) (ZxG af l) []
theorem ZzB {n:Nat} {l:List Int} (h:ZmH n l) {k:Nat} {x:Int} (hx:l[k]?=some x):0≤x∧x<(n:Int):=by
 have:=h.2 x (List.mem_of_getElem? hx)
 omega
theorem ZdN {af:List Int} {n:Nat} (haf:af.length=n) {l:List Int} (h:ZmH n l):ZaN l af=some (ZAJ af l,tr (LOk af l)):=by
 have h4:=h.1
 unfold ZaN
 have:=ZgW (l:=l) (ρ:=List Int×Bool) (fun k=>((l.take k).map (Zau af),(k:Int),())) (fun _ x=>0≤Zau af x) (step:=fun v=>JI l af v.1 v.2.1) (bad:=([],false)) (good:=(ZxG af l,true))
  (fun k x hx hk _=>by
   obtain ⟨h0,h1⟩:=ZzB h hx
   simp only [JI,show (k:Int)<(l.length:Int) from by omega,if_true,Zu,hx,Option.bind_some,Zik h0 (by rw [haf];exact h1),Xx (show k≤1048576 by omega)]
   rw [Zi (by rw [List.length_map,List.length_take,List.length_singleton];omega)]
   constructor
   ·intro q
    rw [if_neg (by omega),Z8 hx,List.map_append]
    rfl
   ·intro q;rw [if_pos (by omega)])
  (fun _=>by simp only [JI,Int.lt_irrefl,if_false,List.take_length];rfl)
 simp only [List.take_zero,List.map_nil] at this
 rw [show ((0:Nat):Int)=0 from rfl] at this
 rw [this]
 unfold ZAJ LOk
 by_cases c:ZeY l (fun _ x=>0≤Zau af x)
 ·rw [YS c,YS c,Yb c]
 ·rw [YH c,YH c,ZQ c]
theorem Ze4 {af:List Int} {n:Nat} (haf:af.length=n) (hn:n≤100) {l:List Zj} (h:∀ x∈l,0≤Zj.Place x∧Zj.Place x<(n:Int)) (hl:l.length≤n):J6 l af=some (l.map (Zqr af)):=by
 unfold J6
 have:=Yk (l:=l) (ρ:=List Zj) (fun k=>((l.take k).map (Zqr af),(k:Int),())) (step:=fun v=>Vi l af v.1 v.2.1) (good:=l.map (Zqr af))
  (fun k x hx hk=>by
   obtain ⟨h0,h1⟩:=h x (List.mem_of_getElem? hx)
   simp only [Vi,show (k:Int)<(l.length:Int) from by omega,if_true,Zu,hx,Option.bind_some,Zik h0 (by rw [haf];exact h1),Xx (show k≤1048576 by omega)]
   rw [Zi (by rw [List.length_map,List.length_take,List.length_singleton];omega),Z8 hx,List.map_append]
   rfl)
  (by simp only [Vi,Int.lt_irrefl,if_false,List.take_length])
 simpa using this
noncomputable def Zr9 (af:List Int) (e:Zg):Zg:=(Zg.Kind e,Zg.Value e,ZAJ af (Zg.From e),ZAJ af (Zg.Through e),ZAJ af (Zg.To e),())
theorem ZxQ {af:List Int} {e:Zg} (h:EOk af e):Zr9 af e=ZxJ af e:=by
 unfold Zr9 ZxJ ZAJ
 rw [YS h.1,YS h.2.1,YS h.2.2]
def Zc0 (af:List Int) (l:List Zg):Prop:=∀ e∈l,EOk af e
theorem ZsW {af:List Int} {n:Nat} (haf:af.length=n) {s:Zn} (h:Zvy n s) (hn:n≤100) (cl:List Zl) :
  Zv (fun v=>VK af s cl v.1 v.2.1 v.2.2.1) (([]:List Zg),Bool.true,(0:Int),())=some (.inr ((cl,(Zn.XV s).map (Zqr af),(Zn.Y7 s).map (Zqr af),(Zn.Exceptions s).map (Zr9 af),Zn.XT s,()),tr (Zc0 af (Zn.Exceptions s)))):=by
 obtain ⟨_,h2,h3,h4,h5⟩:=h.lens
 have:=Yk (l:=Zn.Exceptions s) (ρ:=(List Zl×Int×Unit) ⊕ (Zn×Bool)) (fun k=>(((Zn.Exceptions s).take k).map (Zr9 af),tr (Zc0 af ((Zn.Exceptions s).take k)),(k:Int),())) (step:=fun v=>VK af s cl v.1 v.2.1 v.2.2.1)
  (good:=.inr ((cl,(Zn.XV s).map (Zqr af),(Zn.Y7 s).map (Zqr af),(Zn.Exceptions s).map (Zr9 af),Zn.XT s,()),tr (Zc0 af (Zn.Exceptions s))))
  (fun k x hx hk=>by
   obtain ⟨p1,p2,p3⟩:=h.excs x (List.mem_of_getElem? hx)
   have hg:(((Zn.Exceptions s).take k).map (Zr9 af)).length=k:=by rw [List.length_map,List.length_take];omega
   have hA:Zc0 af ((Zn.Exceptions s).take (k+1))↔Zc0 af ((Zn.Exceptions s).take k)∧EOk af x:=by
    unfold Zc0
    rw [Z8 hx]
    constructor
    ·exact fun q=>⟨fun e he=>q e (List.mem_append_left _ he),q x (List.mem_append_right _ (List.mem_singleton.2 rfl))⟩
    ·rintro ⟨q1,q2⟩ e he
     rcases List.mem_append.1 he with he | he
     ·exact q1 e he
     ·rw [List.mem_singleton.1 he];exact q2
   simp only [VK,show (k:Int)<((Zn.Exceptions s).length:Int) from by omega,if_true,Zu,hx,Option.bind_some,ZdN haf p1,ZdN haf p2,ZdN haf p3,Xx (show k≤1048576 by omega)]
   rw [Zi (by rw [hg,List.length_singleton];omega),Zi (by rw [hg,List.length_singleton];omega),Z8 hx,List.map_append,show (Zn.Exceptions s).take k++[x]=(Zn.Exceptions s).take (k+1) from (Z8 hx).symm,YB hA]
   unfold EOk
   by_cases c0:Zc0 af ((Zn.Exceptions s).take k)<;>by_cases c1:LOk af (Zg.From x)<;>by_cases c2:LOk af (Zg.Through x)<;>by_cases c3:LOk af (Zg.To x) <;>
    simp only [Y9,c0,c1,c2,c3,if_true,if_false,true_and,and_true,false_and,and_false,Yb,ZQ,not_false_eq_true,trivial]<;>rfl)
  (by
   simp only [VK,Int.lt_irrefl,if_false,List.take_length]
   rw [Zi (by rw [List.length_nil];omega),Ze4 haf hn h.ins h2,Option.bind_some,Ze4 haf hn h.outs h3,Option.bind_some]
   rfl)
 have e0:tr (Zc0 af ([]:List Zg))=true:=Yb (fun e he=>by cases he)
 simpa [e0] using this
theorem ZrR {af:List Int} {n:Nat} (haf:af.length=n) {s:Zn} (h:Zvy n s) (hn:n≤100) :
  ZfA af s=some (((Zn.YE s).map (Zzy af),(Zn.XV s).map (Zqr af),(Zn.Y7 s).map (Zqr af),(Zn.Exceptions s).map (Zr9 af),Zn.XT s,()),tr (Zc0 af (Zn.Exceptions s))):=by
 obtain ⟨h1,_⟩:=h.lens
 unfold ZfA
 have:=Yk (l:=Zn.YE s) (ρ:=Zn×Bool) (fun k=>(((Zn.YE s).take k).map (Zzy af),(k:Int),())) (step:=fun v=>Zac af s v.1 v.2.1)
  (good:=(((Zn.YE s).map (Zzy af),(Zn.XV s).map (Zqr af),(Zn.Y7 s).map (Zqr af),(Zn.Exceptions s).map (Zr9 af),Zn.XT s,()),tr (Zc0 af (Zn.Exceptions s))))
  (fun k x hx hk=>by
   obtain ⟨h0,h1⟩:=h.clocks x (List.mem_of_getElem? hx)
   simp only [Zac,show (k:Int)<((Zn.YE s).length:Int) from by omega,if_true,Zu,hx,Option.bind_some,Zik h0 (by rw [haf];exact h1),Xx (show k≤1048576 by omega)]
   rw [Zi (by rw [List.length_map,List.length_take,List.length_singleton];omega),Z8 hx,List.map_append]
   rfl)
  (by
   simp only [Zac,Int.lt_irrefl,if_false,List.take_length]
   exact ZsW haf h hn _)
 simpa using this
theorem ZAe {af:List Int} {l:List Zg} (h:Zc0 af l):l.map (Zr9 af)=l.map (ZxJ af):=List.map_congr_left fun e he=>ZxQ (h e he)
end Go.Proofs.YthkhedimjmkifaaGreatDoor
/-
  Plain laws: a session that is opened; the law FnExactOpenSession.
-/
namespace Go.Proofs.YthkhedimjmkifaaGreatDoor
set_option linter.unusedVariables false
set_option linter.unusedSimpArgs false
open Go Go.Sx
theorem ZPu (a:Zn) (h:tot QX a≤1048576):cnt QX a≤100+20*1048576:=by
 have hc:=ZOX QX a
 have h1:wid QX≤100:=by decide
 have h2:ZKp QX≤20:=by decide
 have:=Nat.mul_le_mul_right (tot QX a) h2
 omega
def stay (n:Nat):List Int:=(List.range n).map Int.ofNat
theorem ZPh (n:Nat):(stay n).length=n:=by unfold stay;rw [List.length_map,List.length_range]
theorem ZNM {n:Nat} {p:Int} (h0:0≤p) (h1:p<(n:Int)):Zau (stay n) p=p:=by
 unfold Zau stay
 rw [List.getElem?_map,List.getElem?_range (by omega)]
 show (p.toNat:Int)=p
 omega
theorem ZOO {b:Za} (hf:Few (Za.Design b)):ZKT b=some (stay (places (Za.Design b)).length):=by
 have hpl:=YW hf
 unfold ZKT
 have:=Yk (l:=places (Za.Design b)) (ρ:=List Int) (fun k=>(stay k,(k:Int),())) (step:=fun v=>ZJS b v.1 v.2.1) (good:=stay (places (Za.Design b)).length)
  (fun k x hx hk=>by
   simp only [ZJS,YT _ hf,Option.bind_some,show (k:Int)<((places (Za.Design b)).length:Int) from by omega,if_true,Xx (show k≤1048576 by omega)]
   rw [Zi (by rw [ZPh,List.length_singleton];omega)]
   unfold stay
   rw [List.range_succ,List.map_append]
   rfl)
  (by simp only [ZJS,YT _ hf,Option.bind_some,Int.lt_irrefl,if_false])
 simpa [stay] using this
theorem ZOI {n:Nat} {l:List Int} (h:ZmH n l):ZxG (stay n) l=l:=by
 unfold ZxG
 refine (List.map_congr_left (g:=id) fun x hx=>?_).trans (List.map_id l)
 have:=h.2 x hx
 exact ZNM this.1 (by omega)
theorem ZOH {α:Type} {f:α→α} {l:List α} (h:∀ x∈l,f x=x):l.map f=l:=(List.map_congr_left (g:=id) h).trans (List.map_id l)
theorem ZO3 {n:Nat} {l:List Int} (h:ZmH n l):LOk (stay n) l:=fun k x hx=>by
 obtain ⟨h0,h1⟩:=ZzB h hx
 rw [ZNM h0 h1];exact h0
theorem ZOV {n:Nat} (hn:n≤100) {s:Zn} (h:Zvy n s):∃ f,ZfA (stay n) s=some (s,f):=by
 refine ⟨tr (Zc0 (stay n) (Zn.Exceptions s)),(ZrR (ZPh n) h hn).trans ?_⟩
 have hA:Zc0 (stay n) (Zn.Exceptions s):=fun e he=>⟨ZO3 (h.excs e he).1,ZO3 (h.excs e he).2.1,ZO3 (h.excs e he).2.2⟩
 rw [ZAe hA,ZOH (f:=Zzy (stay n)) (fun c hc=>?_),ZOH (f:=Zqr (stay n)) (l:=Zn.XV s) (fun x hx=>?_),ZOH (f:=Zqr (stay n)) (l:=Zn.Y7 s) (fun x hx=>?_),ZOH (f:=ZxJ (stay n)) (fun e he=>?_)]
 ·unfold ZxJ
  rw [ZOI (h.excs e he).1,ZOI (h.excs e he).2.1,ZOI (h.excs e he).2.2]
 ·unfold Zqr
  rw [ZNM (h.outs x hx).1 (h.outs x hx).2]
 ·unfold Zqr
  rw [ZNM (h.ins x hx).1 (h.ins x hx).2]
 ·unfold Zzy
  rw [ZNM (h.clocks c hc).1 (h.clocks c hc).2]
theorem Zlr {n:Nat} (hn:n≤100) {s:Zn} (h:Zvy n s):Zcy s=some s:=by
 obtain ⟨h1,h2,h3,h4,h5⟩:=h.lens
 unfold Zcy XY YO XG
 rw [Zi (by rw [List.length_nil];omega),Option.bind_some,Zi (by rw [List.length_nil];omega),Option.bind_some,Zi (by rw [List.length_nil];omega),Option.bind_some,Zi (by rw [List.length_nil];omega),Option.bind_some]
 simp only [List.nil_append]
 have:=Yk (l:=Zn.Exceptions s) (ρ:=Zn) (fun k=>((k:Int),(Zn.Exceptions s).take k,())) (step:=fun v=>VN s (Zn.YE s) (Zn.XV s) (Zn.Y7 s) (Zn.XT s) v.1 v.2.1) (good:=s)
  (fun k x hx hk=>by
   obtain ⟨p1,p2,p3⟩:=h.excs x (List.mem_of_getElem? hx)
   have q1:=p1.1
   have q2:=p2.1
   have q3:=p3.1
   simp only [VN,show (k:Int)<((Zn.Exceptions s).length:Int) from by omega,if_true,Zu,hx,Option.bind_some,V7 (Zg.From x) (by omega),V7 (Zg.Through x) (by omega),V7 (Zg.To x) (by omega),Xx (show k≤1048576 by omega)]
   rw [Zi (by rw [List.length_take,List.length_singleton];omega),Z8 hx])
  (by simp only [VN,Int.lt_irrefl,if_false,List.take_length])
 simpa using this
def Zsn:Zn:=([],[],[],[],[],())
abbrev ZPs:Za:=((([]:List Zm),()),(([]:List Ze),([]:List (List UInt8)),([]:List ZR),()),([]:List Zr),())
theorem ZPg:sm Y3 ZPs:=by
 simp only [sm,and_true]
 simp
theorem ZO0:sm QX Zsn:=by
 unfold Zsn
 simp only [sm,and_true]
 simp
theorem ZOT (b:Za) (s:Zn) (hb:sm Y3 b) (hs:sm QX s):∃ (x:Za) (y:Zn) (c:Int),ZJ9 b s=some ((x,y,[],[],()),c)∧ZKh b s=some ((x,y,[],[],()),c)∧((x=b∧y=s)∨(x=ZPs∧y=Zsn)):=by
 unfold ZJ9 ZKh
 rw [Zi9 b s hb hs,ZfR b s hb hs,Option.bind_some,Option.bind_some]
 by_cases h:ZhG b s
 ·have hf:=h.1.1.few
  have hpl:=YW hf
  have hF:=ZAX h.2
  obtain ⟨f,hc⟩:=ZOV (by omega) hF
  rw [if_pos (Yb h),if_pos (Yb h),Zf8 b hb,Option.bind_some,Zlr (by omega) hF,Option.bind_some,ZOO hf,Option.bind_some,hc,Option.bind_some,Ztz b hb,Option.bind_some]
  exact ⟨b,s,0,rfl,rfl,.inl ⟨rfl,rfl⟩⟩
 ·rw [if_neg (fun q=>h ((Y9 _).1 q)),if_neg (fun q=>h ((Y9 _).1 q))]
  exact ⟨ZPs,Zsn,1,rfl,rfl,.inr ⟨rfl,rfl⟩⟩
theorem ZKM (a0:Za) (a1:Zn) (b0:bnd Y3 a0) (b1:bnd QX a1):ZIV a0 a1=some true:=by
 unfold ZIV
 obtain ⟨n,e,hle,hP⟩:=ZpO a0 1048576 (by omega) (by omega) b0
 rw [e,Option.bind_some]
 by_cases hn:n<0
 ·rw [if_pos hn]
 rw [if_neg hn]
 have hs:=hP (by omega)
 have ht:=ZLv a0 1048576 (by omega) (by omega) b0 n e (by omega)
 obtain ⟨n1,e1,hle1,hP1⟩:=Zpk a1 n (by omega) (by omega) b1
 rw [e1,Option.bind_some]
 by_cases hn1:n1<0
 ·rw [if_pos hn1]
 rw [if_neg hn1]
 have hs1:=hP1 (by omega)
 have ht1:=ZLx a1 n (by omega) (by omega) b1 n1 e1 (by omega)
 have hcb:=ZPk a0 (by omega)
 have hcs:=ZPu a1 (by omega)
 have hcT:=ZKV QX a1
 obtain ⟨x,y,c,c1,c2,c3⟩:=ZOT a0 a1 hs hs1
 have hx:sm Y3 x∧sm QX y∧cnt Y3 x≤cnt Y3 a0∧cnt QX y≤cnt QX a1:=by
  rcases c3 with ⟨rfl,rfl⟩ | ⟨rfl,rfl⟩
  ·exact ⟨hs,hs1,Nat.le_refl _,Nat.le_refl _⟩
  ·exact ⟨ZPg,ZO0,Nat.zero_le _,Nat.zero_le _⟩
 obtain ⟨x1,x2,x3,x4⟩:=hx
 have c5:sm Jy (x,y,[],[],()):=⟨x1,x2,⟨by show (0:Int)≤_;omega,fun e he=>by cases he⟩,⟨by show (0:Int)≤_;omega,fun e he=>by cases he⟩,trivial⟩
 have c6:cnt Jy (x,y,[],[],())=cnt Y3 x+(cnt QX y+(0+(0+0))):=rfl
 have c7:=ZKV Jy (x,y,[],[],())
 obtain ⟨m0,hm0⟩:=ZOj a0 1 hs (by omega) (by omega)
 have hm1:=ZLj a1 (1+((cnt Y3 a0:Nat):Int)) hs1 (by omega) (by omega)
 have hm3:=ZIS (x,y,[],[],()) 1 c5 (by omega) (by omega)
 have hm4:=ZJI (x,y,[],[],()) 1 c5 (by omega) (by omega)
 have hneg:¬(1+((cnt Y3 a0:Nat):Int)+((ZIZ QX a1:Nat):Int))<0:=by omega
 have hneg2:¬(1+((ZIZ Jy (x,y,[],[],()):Nat):Int))<0:=by omega
 simp only [ZpL _ hs,ZoU _ hs1,Option.bind_some,c1,c2,Znf _ c5,Zpd _ hs,Zpt _ hs1,if_true,hm0,hm1,hm3,hm4,hneg,hneg2,if_false]
end Go.Proofs.YthkhedimjmkifaaGreatDoor
