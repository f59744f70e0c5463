/-
  Plain laws: marks are held.
-/
import Derived.Test.YthkhedimjmkifaaGreatDoorLA
import Derived.Test.YthkhedimjmkifaaGreatDoorLB
import Derived.Test.YthkhedimjmkifaaGreatDoorLC
namespace Go.Proofs.YthkhedimjmkifaaGreatDoor
set_option linter.unusedVariables false
set_option linter.unusedSimpArgs false
open Go Go.Sx
theorem ZJE (l:List Int):cnt (.sl (.int .i64)) l=l.length:=by
 show (l.map (cnt (.int .i64))).sum=_
 induction l with
 | nil=>rfl
 | cons x r ih=>simp only [List.map_cons,List.sum_cons,ih,List.length_cons,ZIO];omega
/-
  Plain laws: marks, exactly; marks are held. Printed by program (heldgen.py).
-/
set_option maxHeartbeats 3200000
noncomputable def mt (k:Int):List UInt8:=(ZII k).getD []
theorem ZNU {k:Int} (h0:0≤k) (h1:k≤4611686018427387904):ZII k=some (mt k):=by
 obtain ⟨s,h⟩:=ZKq k h0 h1
 unfold mt;rw [h];rfl
theorem ZJs {α:Type} {L:List α} {j:Nat} {z z':α} {A A' B B':Int} (hA:A=A') (hB:B=B') (hz:z=z'):(some (.inl (A,B,List.set L j z,())):Option ((Int×Int×List α×Unit) ⊕ (Int×List α)))=some (.inl (A',B',List.set L j z',())):=by rw [hA,hB,hz]
theorem ZJl {A A' B B':Int} (hA:A=A') (hB:B=B'):(some (.inl (A,B,())):Option ((Int×Int×Unit) ⊕ Int))=some (.inl (A',B',())):=by rw [hA,hB]
theorem ZOz (l:List (YP)) (k:Int) (hs:sm (.sl (ZgP)) l) (h0:0≤k) (h1:k+((cnt (.sl (ZgP)) l:Nat):Int)≤4611686018427387904):ZJX l k=some (k+((cnt (.sl (ZgP)) l:Nat):Int),mkL (mkA mt (ZgP)) (cnt (ZgP)) l k):=by
 unfold ZJX
 have hl:l.length≤1048576:=by have:=hs.1;omega
 refine ZKS (f:=mkA mt (ZgP)) (c:=cnt (ZgP)) (fun j m x L hj hj' hx hxm hm0 hm1 hj2=>?_) (fun m L=>?_) hl h0 h1
 ·have hsx:=hs.2 x hxm
  have hc:((cnt (ZgP) x:Nat):Int)=0+1+1+1+1:=by simp only [ZIL,ZIO,ZIK,ZIM,ZIQ];omega
  have e0:=ZNU (k:=m) (by omega) (by omega)
  have hx2:atI L (j:Int)=some x:=by rw [Zu];exact hx
  have hb:∀ {β:Type} (y:YP) (F:YP→Option β),(atI (List.set L j y) (j:Int)).bind F=F y:=fun y F=>by rw [ZrL hj];rfl
  simp only [ZJe,if_pos hj',Int.toNat_natCast,hx2,↓hb,Bq,List.set_set,e0]
  refine ZJs ?_ ?_ ?_
  ·have hc:=hc;simp (disch:=omega) only [Jr];omega
  ·simp (disch:=omega) only [Jr];omega
  ·simp (disch:=omega) only [Jr];rfl
 ·simp only [ZJe,Int.lt_irrefl,if_false]
theorem ZIB (l:List (Int)) (k:Int) (hs:sm (.sl (.int .i64)) l) (h0:0≤k) (h1:k+((cnt (.sl (.int .i64)) l:Nat):Int)≤4611686018427387904):ZIC l k=some (k+((cnt (.sl (.int .i64)) l:Nat):Int),mkL (mkA mt (.int .i64)) (cnt (.int .i64)) l k):=by
 unfold ZIC
 have hl:l.length≤1048576:=by have:=hs.1;omega
 refine ZKS (f:=mkA mt (.int .i64)) (c:=cnt (.int .i64)) (fun j m x L hj hj' hx hxm hm0 hm1 hj2=>?_) (fun m L=>?_) hl h0 h1
 ·have hsx:=hs.2 x hxm
  have hc:((cnt (.int .i64) x:Nat):Int)=0+1:=by rfl
  simp (disch:=omega) only [ZI2,if_pos hj',Zu,hx,Bq,Jr,Int.toNat_natCast,ZrL,List.length_set,List.set_set,List.getElem?_set_self]
  refine ZJs ?_ ?_ rfl
  ·have hc:=hc;omega
  ·omega
 ·simp only [ZI2,Int.lt_irrefl,if_false]
theorem ZKQ (l:List (ZA)) (k:Int) (hs:sm (.sl (XE)) l) (h0:0≤k) (h1:k+((cnt (.sl (XE)) l:Nat):Int)≤4611686018427387904):ZJf l k=some (k+((cnt (.sl (XE)) l:Nat):Int),mkL (mkA mt (XE)) (cnt (XE)) l k):=by
 unfold ZJf
 have hl:l.length≤1048576:=by have:=hs.1;omega
 refine ZKS (f:=mkA mt (XE)) (c:=cnt (XE)) (fun j m x L hj hj' hx hxm hm0 hm1 hj2=>?_) (fun m L=>?_) hl h0 h1
 ·have hsx:=hs.2 x hxm
  have hc:((cnt (XE) x:Nat):Int)=0+((cnt (.sl (.int .i64)) x.1:Nat):Int)+((cnt (.sl (.int .i64)) x.2.1:Nat):Int)+((cnt (.sl (.int .i64)) x.2.2.1:Nat):Int):=by simp only [ZIL,ZIO,ZIK,ZIM,ZIQ];omega
  have e0:=ZIB x.1 (m) hsx.1 (by omega) (by omega)
  have e1:=ZIB x.2.1 (m+((cnt (.sl (.int .i64)) x.1:Nat):Int)) hsx.2.1 (by omega) (by omega)
  have e2:=ZIB x.2.2.1 (m+((cnt (.sl (.int .i64)) x.1:Nat):Int)+((cnt (.sl (.int .i64)) x.2.1:Nat):Int)) hsx.2.2.1 (by omega) (by omega)
  simp (disch:=omega) only [ZI3,if_pos hj',Zu,hx,Bq,Jr,Int.toNat_natCast,ZrL,List.length_set,List.set_set,List.getElem?_set_self,e0,e1,e2]
  refine ZJs ?_ ?_ rfl
  ·have hc:=hc;omega
  ·omega
 ·simp only [ZI3,Int.lt_irrefl,if_false]
theorem ZOw (l:List (ZJ)) (k:Int) (hs:sm (.sl (Zib)) l) (h0:0≤k) (h1:k+((cnt (.sl (Zib)) l:Nat):Int)≤4611686018427387904):ZJW l k=some (k+((cnt (.sl (Zib)) l:Nat):Int),mkL (mkA mt (Zib)) (cnt (Zib)) l k):=by
 unfold ZJW
 have hl:l.length≤1048576:=by have:=hs.1;omega
 refine ZKS (f:=mkA mt (Zib)) (c:=cnt (Zib)) (fun j m x L hj hj' hx hxm hm0 hm1 hj2=>?_) (fun m L=>?_) hl h0 h1
 ·have hsx:=hs.2 x hxm
  have hc:((cnt (Zib) x:Nat):Int)=0+1+1+1+1+((cnt (.sl (XE)) x.2.2.2.2.1:Nat):Int)+((cnt (.sl (XE)) x.2.2.2.2.2.1:Nat):Int):=by simp only [ZIL,ZIO,ZIK,ZIM,ZIQ];omega
  have e4:=ZKQ x.2.2.2.2.1 (m+1+1+1+1) hsx.2.2.2.2.1 (by omega) (by omega)
  have e5:=ZKQ x.2.2.2.2.2.1 (m+1+1+1+1+((cnt (.sl (XE)) x.2.2.2.2.1:Nat):Int)) hsx.2.2.2.2.2.1 (by omega) (by omega)
  simp (disch:=omega) only [ZJd,if_pos hj',Zu,hx,Bq,Jr,Int.toNat_natCast,ZrL,List.length_set,List.set_set,List.getElem?_set_self,e4,e5]
  refine ZJs ?_ ?_ rfl
  ·have hc:=hc;omega
  ·omega
 ·simp only [ZJd,Int.lt_irrefl,if_false]
theorem ZOk (l:List (Zm)) (k:Int) (hs:sm (.sl (QL)) l) (h0:0≤k) (h1:k+((cnt (.sl (QL)) l:Nat):Int)≤4611686018427387904):ZJL l k=some (k+((cnt (.sl (QL)) l:Nat):Int),mkL (mkA mt (QL)) (cnt (QL)) l k):=by
 unfold ZJL
 have hl:l.length≤1048576:=by have:=hs.1;omega
 refine ZKS (f:=mkA mt (QL)) (c:=cnt (QL)) (fun j m x L hj hj' hx hxm hm0 hm1 hj2=>?_) (fun m L=>?_) hl h0 h1
 ·have hsx:=hs.2 x hxm
  have hc:((cnt (QL) x:Nat):Int)=0+1+1+((cnt (.sl (ZgP)) x.2.2.1:Nat):Int)+((cnt (.sl (Zib)) x.2.2.2.1:Nat):Int)+((cnt (.sl (.int .i64)) x.2.2.2.2.1:Nat):Int)+1+1:=by simp only [ZIL,ZIO,ZIK,ZIM,ZIQ];omega
  have e0:=ZNU (k:=m) (by omega) (by omega)
  have e2:=ZOz x.2.2.1 (m+1+1) hsx.2.2.1 (by omega) (by omega)
  have e3:=ZOw x.2.2.2.1 (m+1+1+((cnt (.sl (ZgP)) x.2.2.1:Nat):Int)) hsx.2.2.2.1 (by omega) (by omega)
  have e4:=ZIB x.2.2.2.2.1 (m+1+1+((cnt (.sl (ZgP)) x.2.2.1:Nat):Int)+((cnt (.sl (Zib)) x.2.2.2.1:Nat):Int)) hsx.2.2.2.2.1 (by omega) (by omega)
  simp (disch:=omega) only [ZI8,if_pos hj',Zu,hx,Bq,Jr,Int.toNat_natCast,ZrL,List.length_set,List.set_set,List.getElem?_set_self,e0,e2,e3,e4]
  refine ZJs ?_ ?_ rfl
  ·have hc:=hc;omega
  ·omega
 ·simp only [ZI8,Int.lt_irrefl,if_false]
theorem ZNZ (a:Zo) (k:Int) (hs:sm (Xh) a) (h0:0≤k) (h1:k+((ZIZ (Xh) a:Nat):Int)≤4611686018427387904):ZJj a k=some (k+((ZIZ (Xh) a:Nat):Int),mkT mt (Xh) a k):=by
 unfold ZJj
 have hc:((ZIZ (Xh) a:Nat):Int)=0+(((cnt (.sl (QL)) a.1):Nat):Int):=by simp only [ZIZ];omega
 have e0:=ZOk a.1 (k) hs.1 (by omega) (by omega)
 simp only [Bq,e0]
 refine congrArg some (Prod.ext (by show _=k+_;rw [hc,Int.zero_add]) rfl)
theorem ZNO (l:List (Ze)) (k:Int) (hs:sm (.sl (Yq)) l) (h0:0≤k) (h1:k+((cnt (.sl (Yq)) l:Nat):Int)≤4611686018427387904):ZI6 l k=some (k+((cnt (.sl (Yq)) l:Nat):Int),mkL (mkA mt (Yq)) (cnt (Yq)) l k):=by
 unfold ZI6
 have hl:l.length≤1048576:=by have:=hs.1;omega
 refine ZKS (f:=mkA mt (Yq)) (c:=cnt (Yq)) (fun j m x L hj hj' hx hxm hm0 hm1 hj2=>?_) (fun m L=>?_) hl h0 h1
 ·have hsx:=hs.2 x hxm
  have hc:((cnt (Yq) x:Nat):Int)=0+1+1+((cnt (.sl (.int .i64)) x.2.2.1:Nat):Int):=by simp only [ZIL,ZIO,ZIK,ZIM,ZIQ];omega
  have e0:=ZNU (k:=m) (by omega) (by omega)
  have e2:=ZIB x.2.2.1 (m+1+1) hsx.2.2.1 (by omega) (by omega)
  simp (disch:=omega) only [ZIT,if_pos hj',Zu,hx,Bq,Jr,Int.toNat_natCast,ZrL,List.length_set,List.set_set,List.getElem?_set_self,e0,e2]
  refine ZJs ?_ ?_ rfl
  ·have hc:=hc;omega
  ·omega
 ·simp only [ZIT,Int.lt_irrefl,if_false]
theorem ZN1 (l:List (List UInt8)) (k:Int) (hs:sm (.sl (.str)) l) (h0:0≤k) (h1:k+((cnt (.sl (.str)) l:Nat):Int)≤4611686018427387904):ZJk l k=some (k+((cnt (.sl (.str)) l:Nat):Int),mkL (mkA mt (.str)) (cnt (.str)) l k):=by
 unfold ZJk
 have hl:l.length≤1048576:=by have:=hs.1;omega
 refine ZKS (f:=mkA mt (.str)) (c:=cnt (.str)) (fun j m x L hj hj' hx hxm hm0 hm1 hj2=>?_) (fun m L=>?_) hl h0 h1
 ·have hsx:=hs.2 x hxm
  have hc:((cnt (.str) x:Nat):Int)=0+1:=by rfl
  have e0:=ZNU (k:=m) (by omega) (by omega)
  simp (disch:=omega) only [ZIY,if_pos hj',Zu,hx,Bq,Jr,Int.toNat_natCast,ZrL,List.length_set,List.set_set,List.getElem?_set_self,e0]
  refine ZJs ?_ ?_ rfl
  ·have hc:=hc;omega
  ·omega
 ·simp only [ZIY,Int.lt_irrefl,if_false]
theorem ZOm (l:List (ZR)) (k:Int) (hs:sm (.sl (Zcd)) l) (h0:0≤k) (h1:k+((cnt (.sl (Zcd)) l:Nat):Int)≤4611686018427387904):ZJM l k=some (k+((cnt (.sl (Zcd)) l:Nat):Int),mkL (mkA mt (Zcd)) (cnt (Zcd)) l k):=by
 unfold ZJM
 have hl:l.length≤1048576:=by have:=hs.1;omega
 refine ZKS (f:=mkA mt (Zcd)) (c:=cnt (Zcd)) (fun j m x L hj hj' hx hxm hm0 hm1 hj2=>?_) (fun m L=>?_) hl h0 h1
 ·have hsx:=hs.2 x hxm
  have hc:((cnt (Zcd) x:Nat):Int)=0+1+1+1:=by simp only [ZIL,ZIO,ZIK,ZIM,ZIQ];omega
  have e0:=ZNU (k:=m) (by omega) (by omega)
  have hx2:atI L (j:Int)=some x:=by rw [Zu];exact hx
  have hb:∀ {β:Type} (y:ZR) (F:ZR→Option β),(atI (List.set L j y) (j:Int)).bind F=F y:=fun y F=>by rw [ZrL hj];rfl
  simp only [ZI9,if_pos hj',Int.toNat_natCast,hx2,↓hb,Bq,List.set_set,e0]
  refine ZJs ?_ ?_ ?_
  ·have hc:=hc;simp (disch:=omega) only [Jr];omega
  ·simp (disch:=omega) only [Jr];omega
  ·simp (disch:=omega) only [Jr];rfl
 ·simp only [ZI9,Int.lt_irrefl,if_false]
theorem ZN7 (a:Zb) (k:Int) (hs:sm (YG) a) (h0:0≤k) (h1:k+((ZIZ (YG) a:Nat):Int)≤4611686018427387904):ZJC a k=some (k+((ZIZ (YG) a:Nat):Int),mkT mt (YG) a k):=by
 unfold ZJC
 have hc:((ZIZ (YG) a:Nat):Int)=0+(((cnt (.sl (Yq)) a.1):Nat):Int)+(((cnt (.sl (.str)) a.2.1):Nat):Int)+(((cnt (.sl (Zcd)) a.2.2.1):Nat):Int):=by simp only [ZIZ];omega
 have e0:=ZNO a.1 (k) hs.1 (by omega) (by omega)
 have e1:=ZN1 a.2.1 (k+(((cnt (.sl (Yq)) a.1):Nat):Int)) hs.2.1 (by omega) (by omega)
 have e2:=ZOm a.2.2.1 (k+(((cnt (.sl (Yq)) a.1):Nat):Int)+(((cnt (.sl (.str)) a.2.1):Nat):Int)) hs.2.2.1 (by omega) (by omega)
 simp only [Bq,e0,e1,e2]
 refine congrArg some (Prod.ext (by show _=k+_;rw [hc];omega) rfl)
theorem ZOo (l:List (Zr)) (k:Int) (hs:sm (.sl (Vv)) l) (h0:0≤k) (h1:k+((cnt (.sl (Vv)) l:Nat):Int)≤4611686018427387904):ZJN l k=some (k+((cnt (.sl (Vv)) l:Nat):Int),mkL (mkA mt (Vv)) (cnt (Vv)) l k):=by
 unfold ZJN
 have hl:l.length≤1048576:=by have:=hs.1;omega
 refine ZKS (f:=mkA mt (Vv)) (c:=cnt (Vv)) (fun j m x L hj hj' hx hxm hm0 hm1 hj2=>?_) (fun m L=>?_) hl h0 h1
 ·have hsx:=hs.2 x hxm
  have hc:((cnt (Vv) x:Nat):Int)=0+((cnt (.sl (.int .i64)) x.1:Nat):Int)+((cnt (.sl (.int .i64)) x.2.1:Nat):Int)+((cnt (.sl (.int .i64)) x.2.2.1:Nat):Int)+((cnt (.sl (.int .i64)) x.2.2.2.1:Nat):Int):=by simp only [ZIL,ZIO,ZIK,ZIM,ZIQ];omega
  have e0:=ZIB x.1 (m) hsx.1 (by omega) (by omega)
  have e1:=ZIB x.2.1 (m+((cnt (.sl (.int .i64)) x.1:Nat):Int)) hsx.2.1 (by omega) (by omega)
  have e2:=ZIB x.2.2.1 (m+((cnt (.sl (.int .i64)) x.1:Nat):Int)+((cnt (.sl (.int .i64)) x.2.1:Nat):Int)) hsx.2.2.1 (by omega) (by omega)
  have e3:=ZIB x.2.2.2.1 (m+((cnt (.sl (.int .i64)) x.1:Nat):Int)+((cnt (.sl (.int .i64)) x.2.1:Nat):Int)+((cnt (.sl (.int .i64)) x.2.2.1:Nat):Int)) hsx.2.2.2.1 (by omega) (by omega)
  simp (disch:=omega) only [ZJa,if_pos hj',Zu,hx,Bq,Jr,Int.toNat_natCast,ZrL,List.length_set,List.set_set,List.getElem?_set_self,e0,e1,e2,e3]
  refine ZJs ?_ ?_ rfl
  ·have hc:=hc;omega
  ·omega
 ·simp only [ZJa,Int.lt_irrefl,if_false]
theorem ZOi (a:Za) (k:Int) (hs:sm (Y3) a) (h0:0≤k) (h1:k+((ZIZ (Y3) a:Nat):Int)≤4611686018427387904):ZJt a k=some (k+((ZIZ (Y3) a:Nat):Int),mkT mt (Y3) a k):=by
 unfold ZJt
 have hc:((ZIZ (Y3) a:Nat):Int)=0+(((ZIZ (Xh) a.1):Nat):Int)+(((ZIZ (YG) a.2.1):Nat):Int)+(((cnt (.sl (Vv)) a.2.2.1):Nat):Int):=by simp only [ZIZ];omega
 have e0:=ZNZ a.1 (k) hs.1 (by omega) (by omega)
 have e1:=ZN7 a.2.1 (k+(((ZIZ (Xh) a.1):Nat):Int)) hs.2.1 (by omega) (by omega)
 have e2:=ZOo a.2.2.1 (k+(((ZIZ (Xh) a.1):Nat):Int)+(((ZIZ (YG) a.2.1):Nat):Int)) hs.2.2.1 (by omega) (by omega)
 simp only [Bq,e0,e1,e2]
 refine congrArg some (Prod.ext (by show _=k+_;rw [hc];omega) rfl)
theorem ZN6 (l:List (Zl)) (k:Int) (hs:sm (.sl (XF)) l) (h0:0≤k) (h1:k+((cnt (.sl (XF)) l:Nat):Int)≤4611686018427387904):ZKn l k=some (k+((cnt (.sl (XF)) l:Nat):Int),mkL (mkA mt (XF)) (cnt (XF)) l k):=by
 unfold ZKn
 have hl:l.length≤1048576:=by have:=hs.1;omega
 refine ZKS (f:=mkA mt (XF)) (c:=cnt (XF)) (fun j m x L hj hj' hx hxm hm0 hm1 hj2=>?_) (fun m L=>?_) hl h0 h1
 ·have hsx:=hs.2 x hxm
  have hc:((cnt (XF) x:Nat):Int)=0+1+1+1+1+1+1+1+1+1+1+1:=by simp only [ZIL,ZIO,ZIK,ZIM,ZIQ];omega
  have e0:=ZNU (k:=m) (by omega) (by omega)
  have hx2:atI L (j:Int)=some x:=by rw [Zu];exact hx
  have hb:∀ {β:Type} (y:Zl) (F:Zl→Option β),(atI (List.set L j y) (j:Int)).bind F=F y:=fun y F=>by rw [ZrL hj];rfl
  simp only [ZJV,if_pos hj',Int.toNat_natCast,hx2,↓hb,Bq,List.set_set,e0]
  refine ZJs ?_ ?_ ?_
  ·have hc:=hc;simp (disch:=omega) only [Jr];omega
  ·simp (disch:=omega) only [Jr];omega
  ·simp (disch:=omega) only [Jr];rfl
 ·simp only [ZJV,Int.lt_irrefl,if_false]
theorem ZKy (l:List (Zj)) (k:Int) (hs:sm (.sl (Yg)) l) (h0:0≤k) (h1:k+((cnt (.sl (Yg)) l:Nat):Int)≤4611686018427387904):ZJr l k=some (k+((cnt (.sl (Yg)) l:Nat):Int),mkL (mkA mt (Yg)) (cnt (Yg)) l k):=by
 unfold ZJr
 have hl:l.length≤1048576:=by have:=hs.1;omega
 refine ZKS (f:=mkA mt (Yg)) (c:=cnt (Yg)) (fun j m x L hj hj' hx hxm hm0 hm1 hj2=>?_) (fun m L=>?_) hl h0 h1
 ·have hsx:=hs.2 x hxm
  have hc:((cnt (Yg) x:Nat):Int)=0+1+1+1+1+1+1:=by simp only [ZIL,ZIO,ZIK,ZIM,ZIQ];omega
  have hx2:atI L (j:Int)=some x:=by rw [Zu];exact hx
  have hb:∀ {β:Type} (y:Zj) (F:Zj→Option β),(atI (List.set L j y) (j:Int)).bind F=F y:=fun y F=>by rw [ZrL hj];rfl
  simp only [ZJD,if_pos hj',Int.toNat_natCast,hx2,↓hb,Bq,List.set_set]
  refine ZJs ?_ ?_ ?_
  ·have hc:=hc;simp (disch:=omega) only [Jr];omega
  ·simp (disch:=omega) only [Jr];omega
  ·simp (disch:=omega) only [Jr]
   refine Prod.ext ?_ (Prod.ext ?_ (Prod.ext (Prod.ext ?_ (Prod.ext ?_ rfl)) (Prod.ext (Prod.ext ?_ (Prod.ext ?_ rfl)) rfl)))
   ·show m=m;omega
   ·show m+1=m+((1:Nat):Int);omega
   ·show m+1+1=m+((1:Nat):Int)+((1:Nat):Int);omega
   ·show m+1+1+1=m+((1:Nat):Int)+((1:Nat):Int)+((1:Nat):Int);omega
   ·show m+1+1+1+1=m+((1:Nat):Int)+((1:Nat):Int)+((2:Nat):Int);omega
   ·show m+1+1+1+1+1=m+((1:Nat):Int)+((1:Nat):Int)+((2:Nat):Int)+((1:Nat):Int);omega
 ·simp only [ZJD,Int.lt_irrefl,if_false]
theorem ZM7 (l:List (Zg)) (k:Int) (hs:sm (.sl (Yn)) l) (h0:0≤k) (h1:k+((cnt (.sl (Yn)) l:Nat):Int)≤4611686018427387904):ZJJ l k=some (k+((cnt (.sl (Yn)) l:Nat):Int),mkL (mkA mt (Yn)) (cnt (Yn)) l k):=by
 unfold ZJJ
 have hl:l.length≤1048576:=by have:=hs.1;omega
 refine ZKS (f:=mkA mt (Yn)) (c:=cnt (Yn)) (fun j m x L hj hj' hx hxm hm0 hm1 hj2=>?_) (fun m L=>?_) hl h0 h1
 ·have hsx:=hs.2 x hxm
  have hc:((cnt (Yn) x:Nat):Int)=0+1+1+((cnt (.sl (.int .i64)) x.2.2.1:Nat):Int)+((cnt (.sl (.int .i64)) x.2.2.2.1:Nat):Int)+((cnt (.sl (.int .i64)) x.2.2.2.2.1:Nat):Int):=by simp only [ZIL,ZIO,ZIK,ZIM,ZIQ];omega
  have e2:=ZIB x.2.2.1 (m+1+1) hsx.2.2.1 (by omega) (by omega)
  have e3:=ZIB x.2.2.2.1 (m+1+1+((cnt (.sl (.int .i64)) x.2.2.1:Nat):Int)) hsx.2.2.2.1 (by omega) (by omega)
  have e4:=ZIB x.2.2.2.2.1 (m+1+1+((cnt (.sl (.int .i64)) x.2.2.1:Nat):Int)+((cnt (.sl (.int .i64)) x.2.2.2.1:Nat):Int)) hsx.2.2.2.2.1 (by omega) (by omega)
  simp (disch:=omega) only [ZJu,if_pos hj',Zu,hx,Bq,Jr,Int.toNat_natCast,ZrL,List.length_set,List.set_set,List.getElem?_set_self,e2,e3,e4]
  refine ZJs ?_ ?_ rfl
  ·have hc:=hc;omega
  ·omega
 ·simp only [ZJu,Int.lt_irrefl,if_false]
theorem ZNY (l:List (Zy)) (k:Int) (hs:sm (.sl (Xf)) l) (h0:0≤k) (h1:k+((cnt (.sl (Xf)) l:Nat):Int)≤4611686018427387904):ZKf l k=some (k+((cnt (.sl (Xf)) l:Nat):Int),mkL (mkA mt (Xf)) (cnt (Xf)) l k):=by
 unfold ZKf
 have hl:l.length≤1048576:=by have:=hs.1;omega
 refine ZKS (f:=mkA mt (Xf)) (c:=cnt (Xf)) (fun j m x L hj hj' hx hxm hm0 hm1 hj2=>?_) (fun m L=>?_) hl h0 h1
 ·have hsx:=hs.2 x hxm
  have hc:((cnt (Xf) x:Nat):Int)=0+1+1+1+1+1:=by simp only [ZIL,ZIO,ZIK,ZIM,ZIQ];omega
  have e0:=ZNU (k:=m) (by omega) (by omega)
  have hx2:atI L (j:Int)=some x:=by rw [Zu];exact hx
  have hb:∀ {β:Type} (y:Zy) (F:Zy→Option β),(atI (List.set L j y) (j:Int)).bind F=F y:=fun y F=>by rw [ZrL hj];rfl
  simp only [ZJO,if_pos hj',Int.toNat_natCast,hx2,↓hb,Bq,List.set_set,e0]
  refine ZJs ?_ ?_ ?_
  ·have hc:=hc;simp (disch:=omega) only [Jr];omega
  ·simp (disch:=omega) only [Jr];omega
  ·simp (disch:=omega) only [Jr];rfl
 ·simp only [ZJO,Int.lt_irrefl,if_false]
theorem ZLj (a:Zn) (k:Int) (hs:sm (QX) a) (h0:0≤k) (h1:k+((ZIZ (QX) a:Nat):Int)≤4611686018427387904):ZJ7 a k=some (k+((ZIZ (QX) a:Nat):Int),mkT mt (QX) a k):=by
 unfold ZJ7
 have hc:((ZIZ (QX) a:Nat):Int)=0+(((cnt (.sl (XF)) a.1):Nat):Int)+(((cnt (.sl (Yg)) a.2.1):Nat):Int)+(((cnt (.sl (Yg)) a.2.2.1):Nat):Int)+(((cnt (.sl (Yn)) a.2.2.2.1):Nat):Int)+(((cnt (.sl (Xf)) a.2.2.2.2.1):Nat):Int):=by simp only [ZIZ];omega
 have e0:=ZN6 a.1 (k) hs.1 (by omega) (by omega)
 have e1:=ZKy a.2.1 (k+(((cnt (.sl (XF)) a.1):Nat):Int)) hs.2.1 (by omega) (by omega)
 have e2:=ZKy a.2.2.1 (k+(((cnt (.sl (XF)) a.1):Nat):Int)+(((cnt (.sl (Yg)) a.2.1):Nat):Int)) hs.2.2.1 (by omega) (by omega)
 have e3:=ZM7 a.2.2.2.1 (k+(((cnt (.sl (XF)) a.1):Nat):Int)+(((cnt (.sl (Yg)) a.2.1):Nat):Int)+(((cnt (.sl (Yg)) a.2.2.1):Nat):Int)) hs.2.2.2.1 (by omega) (by omega)
 have e4:=ZNY a.2.2.2.2.1 (k+(((cnt (.sl (XF)) a.1):Nat):Int)+(((cnt (.sl (Yg)) a.2.1):Nat):Int)+(((cnt (.sl (Yg)) a.2.2.1):Nat):Int)+(((cnt (.sl (Yn)) a.2.2.2.1):Nat):Int)) hs.2.2.2.2.1 (by omega) (by omega)
 simp only [Bq,e0,e1,e2,e3,e4]
 refine congrArg some (Prod.ext (by show _=k+_;rw [hc];omega) rfl)
theorem ZLi (l:List (Zh)) (k:Int) (hs:sm (.sl (XL)) l) (h0:0≤k) (h1:k+((cnt (.sl (XL)) l:Nat):Int)≤4611686018427387904):ZJ6 l k=some (k+((cnt (.sl (XL)) l:Nat):Int),mkL (mkA mt (XL)) (cnt (XL)) l k):=by
 unfold ZJ6
 have hl:l.length≤1048576:=by have:=hs.1;omega
 refine ZKS (f:=mkA mt (XL)) (c:=cnt (XL)) (fun j m x L hj hj' hx hxm hm0 hm1 hj2=>?_) (fun m L=>?_) hl h0 h1
 ·have hsx:=hs.2 x hxm
  have hc:((cnt (XL) x:Nat):Int)=0+1+1+1+1+1+1+((cnt (.sl (.int .i64)) x.2.2.2.2.2.2.1.1:Nat):Int)+((cnt (.sl (.int .i64)) x.2.2.2.2.2.2.1.2.1:Nat):Int)+((cnt (.sl (.int .i64)) x.2.2.2.2.2.2.1.2.2.1:Nat):Int)+((cnt (.sl (.int .i64)) x.2.2.2.2.2.2.1.2.2.2.1:Nat):Int):=by simp only [ZIL,ZIO,ZIK,ZIM,ZIQ];omega
  have e5:=ZNU (k:=m+1+1+1+1+1) (by omega) (by omega)
  have e6:=ZIB x.2.2.2.2.2.2.1.1 (m+1+1+1+1+1+1) hsx.2.2.2.2.2.2.1.1 (by omega) (by omega)
  have e7:=ZIB x.2.2.2.2.2.2.1.2.1 (m+1+1+1+1+1+1+((cnt (.sl (.int .i64)) x.2.2.2.2.2.2.1.1:Nat):Int)) hsx.2.2.2.2.2.2.1.2.1 (by omega) (by omega)
  have e8:=ZIB x.2.2.2.2.2.2.1.2.2.1 (m+1+1+1+1+1+1+((cnt (.sl (.int .i64)) x.2.2.2.2.2.2.1.1:Nat):Int)+((cnt (.sl (.int .i64)) x.2.2.2.2.2.2.1.2.1:Nat):Int)) hsx.2.2.2.2.2.2.1.2.2.1 (by omega) (by omega)
  have e9:=ZIB x.2.2.2.2.2.2.1.2.2.2.1 (m+1+1+1+1+1+1+((cnt (.sl (.int .i64)) x.2.2.2.2.2.2.1.1:Nat):Int)+((cnt (.sl (.int .i64)) x.2.2.2.2.2.2.1.2.1:Nat):Int)+((cnt (.sl (.int .i64)) x.2.2.2.2.2.2.1.2.2.1:Nat):Int)) hsx.2.2.2.2.2.2.1.2.2.2.1 (by omega) (by omega)
  simp only [ZJZ]
  rw [if_pos hj',Zu,hx,Bq]
  try rw [Jr (n:=m+1) (by omega) (by omega)]
  try rw [Jr (n:=m+1+1) (by omega) (by omega)]
  try rw [Jr (n:=m+1+1+1) (by omega) (by omega)]
  try rw [Jr (n:=m+1+1+1+1) (by omega) (by omega)]
  try rw [Jr (n:=m+1+1+1+1+1) (by omega) (by omega)]
  rw [e5,Bq]
  try dsimp only
  try rw [Jr (n:=m+1+1+1+1+1+1) (by omega) (by omega)]
  rw [e6,Bq]
  try dsimp only
  try rw [Jr (n:=m+1+1+1+1+1+1+((cnt (.sl (.int .i64)) x.2.2.2.2.2.2.1.1:Nat):Int)) (by omega) (by omega)]
  rw [e7,Bq]
  try dsimp only
  try rw [Jr (n:=m+1+1+1+1+1+1+((cnt (.sl (.int .i64)) x.2.2.2.2.2.2.1.1:Nat):Int)+((cnt (.sl (.int .i64)) x.2.2.2.2.2.2.1.2.1:Nat):Int)) (by omega) (by omega)]
  rw [e8,Bq]
  try dsimp only
  try rw [Jr (n:=m+1+1+1+1+1+1+((cnt (.sl (.int .i64)) x.2.2.2.2.2.2.1.1:Nat):Int)+((cnt (.sl (.int .i64)) x.2.2.2.2.2.2.1.2.1:Nat):Int)+((cnt (.sl (.int .i64)) x.2.2.2.2.2.2.1.2.2.1:Nat):Int)) (by omega) (by omega)]
  rw [e9,Bq]
  try dsimp only
  try rw [Jr (n:=m+1+1+1+1+1+1+((cnt (.sl (.int .i64)) x.2.2.2.2.2.2.1.1:Nat):Int)+((cnt (.sl (.int .i64)) x.2.2.2.2.2.2.1.2.1:Nat):Int)+((cnt (.sl (.int .i64)) x.2.2.2.2.2.2.1.2.2.1:Nat):Int)+((cnt (.sl (.int .i64)) x.2.2.2.2.2.2.1.2.2.2.1:Nat):Int)) (by omega) (by omega)]
  rw [Jr (n:=(j:Int)+1) (by omega) (by omega),Int.toNat_natCast]
  refine ZJs ?_ ?_ rfl
  ·have hc:=hc;omega
  ·omega
 ·simp only [ZJZ,Int.lt_irrefl,if_false]
theorem ZIS (a:ZH) (k:Int) (hs:sm (Jy) a) (h0:0≤k) (h1:k+((ZIZ (Jy) a:Nat):Int)≤4611686018427387904):ZIP a k=some (k+((ZIZ (Jy) a:Nat):Int),mkT mt (Jy) a k):=by
 unfold ZIP
 have hc:((ZIZ (Jy) a:Nat):Int)=0+(((ZIZ (Y3) a.1):Nat):Int)+(((ZIZ (QX) a.2.1):Nat):Int)+(((cnt (.sl (XL)) a.2.2.1):Nat):Int)+(((cnt (.sl (XL)) a.2.2.2.1):Nat):Int):=by simp only [ZIZ];omega
 have e0:=ZOi a.1 (k) hs.1 (by omega) (by omega)
 have e1:=ZLj a.2.1 (k+(((ZIZ (Y3) a.1):Nat):Int)) hs.2.1 (by omega) (by omega)
 have e2:=ZLi a.2.2.1 (k+(((ZIZ (Y3) a.1):Nat):Int)+(((ZIZ (QX) a.2.1):Nat):Int)) hs.2.2.1 (by omega) (by omega)
 have e3:=ZLi a.2.2.2.1 (k+(((ZIZ (Y3) a.1):Nat):Int)+(((ZIZ (QX) a.2.1):Nat):Int)+(((cnt (.sl (XL)) a.2.2.1):Nat):Int)) hs.2.2.2.1 (by omega) (by omega)
 simp only [Bq,e0,e1,e2,e3]
 refine congrArg some (Prod.ext (by show _=k+_;rw [hc];omega) rfl)
theorem ZOv (l:List (YP)) (k:Int) (hs:sm (.sl (ZgP)) l) (h0:0≤k) (h1:k+((cnt (.sl (ZgP)) l:Nat):Int)≤4611686018427387904):ZKD (mkL (mkA mt (ZgP)) (cnt (ZgP)) l k) k=some (k+((cnt (.sl (ZgP)) l:Nat):Int)):=by
 unfold ZKD
 have hl:l.length≤1048576:=by have:=hs.1;omega
 refine ZJP (f:=mkA mt (ZgP)) (c:=cnt (ZgP)) (step:=fun v=>ZJH (mkL (mkA mt (ZgP)) (cnt (ZgP)) l k) v.1 v.2.1) (fun j m x hj hx hxm hm0 hm1 hj2=>?_) (fun m=>?_) hl h0 h1
 ·have hsx:=hs.2 x hxm
  have hc:((cnt (ZgP) x:Nat):Int)=0+1+1+1+1:=by simp only [ZIL,ZIO,ZIK,ZIM,ZIQ];omega
  have f0:YP.Name (mkA mt (ZgP) x m)=mt (m):=rfl
  have e0:=ZNU (k:=m) (by omega) (by omega)
  have f1:YP.Dir (mkA mt (ZgP) x m)=m+1:=rfl
  have f2:YP.Cap (mkA mt (ZgP) x m)=m+1+1:=rfl
  have f3:YP.Clock (mkA mt (ZgP) x m)=decide (Int.tmod (m+1+1+1) 3=0):=rfl
  simp (disch:=omega) only [ZJH,if_pos hj,Zu,hx,Bq,Jr,eq_self,if_true,if_false,beq_self_eq_true,f0,e0,f1,f2,f3]
  refine ZJl ?_ ?_
  ·have hc:=hc;omega
  ·omega
 ·simp only [ZJH,Int.lt_irrefl,if_false]
theorem ZIF (l:List (Int)) (k:Int) (hs:sm (.sl (.int .i64)) l) (h0:0≤k) (h1:k+((cnt (.sl (.int .i64)) l:Nat):Int)≤4611686018427387904):ZIH (mkL (mkA mt (.int .i64)) (cnt (.int .i64)) l k) k=some (k+((cnt (.sl (.int .i64)) l:Nat):Int)):=by
 unfold ZIH
 have hl:l.length≤1048576:=by have:=hs.1;omega
 refine ZJP (f:=mkA mt (.int .i64)) (c:=cnt (.int .i64)) (step:=fun v=>ZJp (mkL (mkA mt (.int .i64)) (cnt (.int .i64)) l k) v.1 v.2.1) (fun j m x hj hx hxm hm0 hm1 hj2=>?_) (fun m=>?_) hl h0 h1
 ·have hsx:=hs.2 x hxm
  have hc:((cnt (.int .i64) x:Nat):Int)=0+1:=by rfl
  have f0:mkA mt (.int .i64) x m=m:=rfl
  simp (disch:=omega) only [ZJp,if_pos hj,Zu,hx,Bq,Jr,eq_self,if_true,if_false,beq_self_eq_true,f0]
  refine ZJl ?_ ?_
  ·have hc:=hc;omega
  ·omega
 ·simp only [ZJp,Int.lt_irrefl,if_false]
theorem ZKP (l:List (ZA)) (k:Int) (hs:sm (.sl (XE)) l) (h0:0≤k) (h1:k+((cnt (.sl (XE)) l:Nat):Int)≤4611686018427387904):ZJU (mkL (mkA mt (XE)) (cnt (XE)) l k) k=some (k+((cnt (.sl (XE)) l:Nat):Int)):=by
 unfold ZJU
 have hl:l.length≤1048576:=by have:=hs.1;omega
 refine ZJP (f:=mkA mt (XE)) (c:=cnt (XE)) (step:=fun v=>ZJq (mkL (mkA mt (XE)) (cnt (XE)) l k) v.1 v.2.1) (fun j m x hj hx hxm hm0 hm1 hj2=>?_) (fun m=>?_) hl h0 h1
 ·have hsx:=hs.2 x hxm
  have hc:((cnt (XE) x:Nat):Int)=0+((cnt (.sl (.int .i64)) x.1:Nat):Int)+((cnt (.sl (.int .i64)) x.2.1:Nat):Int)+((cnt (.sl (.int .i64)) x.2.2.1:Nat):Int):=by simp only [ZIL,ZIO,ZIK,ZIM,ZIQ];omega
  have f0:ZA.Zg6 (mkA mt (XE) x m)=mkL (mkA mt (.int .i64)) (cnt (.int .i64)) x.1 (m):=rfl
  have e0:=ZIF x.1 (m) hsx.1 (by omega) (by omega)
  have n0:¬(m+((cnt (.sl (.int .i64)) x.1:Nat):Int))<0:=by omega
  have f1:ZA.Loads (mkA mt (XE) x m)=mkL (mkA mt (.int .i64)) (cnt (.int .i64)) x.2.1 (m+((cnt (.sl (.int .i64)) x.1:Nat):Int)):=rfl
  have e1:=ZIF x.2.1 (m+((cnt (.sl (.int .i64)) x.1:Nat):Int)) hsx.2.1 (by omega) (by omega)
  have n1:¬(m+((cnt (.sl (.int .i64)) x.1:Nat):Int)+((cnt (.sl (.int .i64)) x.2.1:Nat):Int))<0:=by omega
  have f2:ZA.Values (mkA mt (XE) x m)=mkL (mkA mt (.int .i64)) (cnt (.int .i64)) x.2.2.1 (m+((cnt (.sl (.int .i64)) x.1:Nat):Int)+((cnt (.sl (.int .i64)) x.2.1:Nat):Int)):=rfl
  have e2:=ZIF x.2.2.1 (m+((cnt (.sl (.int .i64)) x.1:Nat):Int)+((cnt (.sl (.int .i64)) x.2.1:Nat):Int)) hsx.2.2.1 (by omega) (by omega)
  have n2:¬(m+((cnt (.sl (.int .i64)) x.1:Nat):Int)+((cnt (.sl (.int .i64)) x.2.1:Nat):Int)+((cnt (.sl (.int .i64)) x.2.2.1:Nat):Int))<0:=by omega
  simp (disch:=omega) only [ZJq,if_pos hj,Zu,hx,Bq,Jr,eq_self,if_true,if_false,beq_self_eq_true,f0,e0,n0,f1,e1,n1,f2,e2,n2]
  refine ZJl ?_ ?_
  ·have hc:=hc;omega
  ·omega
 ·simp only [ZJq,Int.lt_irrefl,if_false]
theorem ZOu (l:List (ZJ)) (k:Int) (hs:sm (.sl (Zib)) l) (h0:0≤k) (h1:k+((cnt (.sl (Zib)) l:Nat):Int)≤4611686018427387904):ZKC (mkL (mkA mt (Zib)) (cnt (Zib)) l k) k=some (k+((cnt (.sl (Zib)) l:Nat):Int)):=by
 unfold ZKC
 have hl:l.length≤1048576:=by have:=hs.1;omega
 refine ZJP (f:=mkA mt (Zib)) (c:=cnt (Zib)) (step:=fun v=>ZJF (mkL (mkA mt (Zib)) (cnt (Zib)) l k) v.1 v.2.1) (fun j m x hj hx hxm hm0 hm1 hj2=>?_) (fun m=>?_) hl h0 h1
 ·have hsx:=hs.2 x hxm
  have hc:((cnt (Zib) x:Nat):Int)=0+1+1+1+1+((cnt (.sl (XE)) x.2.2.2.2.1:Nat):Int)+((cnt (.sl (XE)) x.2.2.2.2.2.1:Nat):Int):=by simp only [ZIL,ZIO,ZIK,ZIM,ZIQ];omega
  have f0:ZJ.Kind (mkA mt (Zib) x m)=m:=rfl
  have f1:ZJ.From (mkA mt (Zib) x m)=m+1:=rfl
  have f2:ZJ.To (mkA mt (Zib) x m)=m+1+1:=rfl
  have f3:ZJ.ZbJ (mkA mt (Zib) x m)=m+1+1+1:=rfl
  have f4:ZJ.Delay (mkA mt (Zib) x m)=mkL (mkA mt (XE)) (cnt (XE)) x.2.2.2.2.1 (m+1+1+1+1):=rfl
  have e4:=ZKP x.2.2.2.2.1 (m+1+1+1+1) hsx.2.2.2.2.1 (by omega) (by omega)
  have n4:¬(m+1+1+1+1+((cnt (.sl (XE)) x.2.2.2.2.1:Nat):Int))<0:=by omega
  have f5:ZJ.ZdS (mkA mt (Zib) x m)=mkL (mkA mt (XE)) (cnt (XE)) x.2.2.2.2.2.1 (m+1+1+1+1+((cnt (.sl (XE)) x.2.2.2.2.1:Nat):Int)):=rfl
  have e5:=ZKP x.2.2.2.2.2.1 (m+1+1+1+1+((cnt (.sl (XE)) x.2.2.2.2.1:Nat):Int)) hsx.2.2.2.2.2.1 (by omega) (by omega)
  have n5:¬(m+1+1+1+1+((cnt (.sl (XE)) x.2.2.2.2.1:Nat):Int)+((cnt (.sl (XE)) x.2.2.2.2.2.1:Nat):Int))<0:=by omega
  simp (disch:=omega) only [ZJF,if_pos hj,Zu,hx,Bq,Jr,eq_self,if_true,if_false,beq_self_eq_true,f0,f1,f2,f3,f4,e4,n4,f5,e5,n5]
  refine ZJl ?_ ?_
  ·have hc:=hc;omega
  ·omega
 ·simp only [ZJF,Int.lt_irrefl,if_false]
theorem ZOe (l:List (Zm)) (k:Int) (hs:sm (.sl (QL)) l) (h0:0≤k) (h1:k+((cnt (.sl (QL)) l:Nat):Int)≤4611686018427387904):ZKs (mkL (mkA mt (QL)) (cnt (QL)) l k) k=some (k+((cnt (.sl (QL)) l:Nat):Int)):=by
 unfold ZKs
 have hl:l.length≤1048576:=by have:=hs.1;omega
 refine ZJP (f:=mkA mt (QL)) (c:=cnt (QL)) (step:=fun v=>ZJv (mkL (mkA mt (QL)) (cnt (QL)) l k) v.1 v.2.1) (fun j m x hj hx hxm hm0 hm1 hj2=>?_) (fun m=>?_) hl h0 h1
 ·have hsx:=hs.2 x hxm
  have hc:((cnt (QL) x:Nat):Int)=0+1+1+((cnt (.sl (ZgP)) x.2.2.1:Nat):Int)+((cnt (.sl (Zib)) x.2.2.2.1:Nat):Int)+((cnt (.sl (.int .i64)) x.2.2.2.2.1:Nat):Int)+1+1:=by simp only [ZIL,ZIO,ZIK,ZIM,ZIQ];omega
  have f0:Zm.Name (mkA mt (QL) x m)=mt (m):=rfl
  have e0:=ZNU (k:=m) (by omega) (by omega)
  have f1:Zm.Kind (mkA mt (QL) x m)=m+1:=rfl
  have f2:Zm.Yw (mkA mt (QL) x m)=mkL (mkA mt (ZgP)) (cnt (ZgP)) x.2.2.1 (m+1+1):=rfl
  have e2:=ZOv x.2.2.1 (m+1+1) hsx.2.2.1 (by omega) (by omega)
  have n2:¬(m+1+1+((cnt (.sl (ZgP)) x.2.2.1:Nat):Int))<0:=by omega
  have f3:Zm.JQ (mkA mt (QL) x m)=mkL (mkA mt (Zib)) (cnt (Zib)) x.2.2.2.1 (m+1+1+((cnt (.sl (ZgP)) x.2.2.1:Nat):Int)):=rfl
  have e3:=ZOu x.2.2.2.1 (m+1+1+((cnt (.sl (ZgP)) x.2.2.1:Nat):Int)) hsx.2.2.2.1 (by omega) (by omega)
  have n3:¬(m+1+1+((cnt (.sl (ZgP)) x.2.2.1:Nat):Int)+((cnt (.sl (Zib)) x.2.2.2.1:Nat):Int))<0:=by omega
  have f4:Zm.Truth (mkA mt (QL) x m)=mkL (mkA mt (.int .i64)) (cnt (.int .i64)) x.2.2.2.2.1 (m+1+1+((cnt (.sl (ZgP)) x.2.2.1:Nat):Int)+((cnt (.sl (Zib)) x.2.2.2.1:Nat):Int)):=rfl
  have e4:=ZIF x.2.2.2.2.1 (m+1+1+((cnt (.sl (ZgP)) x.2.2.1:Nat):Int)+((cnt (.sl (Zib)) x.2.2.2.1:Nat):Int)) hsx.2.2.2.2.1 (by omega) (by omega)
  have n4:¬(m+1+1+((cnt (.sl (ZgP)) x.2.2.1:Nat):Int)+((cnt (.sl (Zib)) x.2.2.2.1:Nat):Int)+((cnt (.sl (.int .i64)) x.2.2.2.2.1:Nat):Int))<0:=by omega
  have f5:Zm.Zxy (mkA mt (QL) x m)=m+1+1+((cnt (.sl (ZgP)) x.2.2.1:Nat):Int)+((cnt (.sl (Zib)) x.2.2.2.1:Nat):Int)+((cnt (.sl (.int .i64)) x.2.2.2.2.1:Nat):Int):=rfl
  have f6:Zm.Zkf (mkA mt (QL) x m)=m+1+1+((cnt (.sl (ZgP)) x.2.2.1:Nat):Int)+((cnt (.sl (Zib)) x.2.2.2.1:Nat):Int)+((cnt (.sl (.int .i64)) x.2.2.2.2.1:Nat):Int)+1:=rfl
  simp (disch:=omega) only [ZJv,if_pos hj,Zu,hx,Bq,Jr,eq_self,if_true,if_false,beq_self_eq_true,f0,e0,f1,f2,e2,n2,f3,e3,n3,f4,e4,n4,f5,f6]
  refine ZJl ?_ ?_
  ·have hc:=hc;omega
  ·omega
 ·simp only [ZJv,Int.lt_irrefl,if_false]
theorem ZNW (a:Zo) (k:Int) (hs:sm (Xh) a) (h0:0≤k) (h1:k+((ZIZ (Xh) a:Nat):Int)≤4611686018427387904):ZKd (mkT mt (Xh) a k) k=some (k+((ZIZ (Xh) a:Nat):Int)):=by
 unfold ZKd
 have hc:((ZIZ (Xh) a:Nat):Int)=0+(((cnt (.sl (QL)) a.1):Nat):Int):=by simp only [ZIZ];omega
 have f0:Zo.Cells (mkT mt (Xh) a k)=mkL (mkA mt (QL)) (cnt (QL)) a.1 (k):=by rfl
 have n0:¬(k+(((cnt (.sl (QL)) a.1):Nat):Int))<0:=by omega
 have e0:=ZOe a.1 (k) hs.1 (by omega) (by omega)
 simp only [Bq,if_false,f0,n0,e0]
 refine congrArg some ?_
 omega
theorem ZNN (l:List (Ze)) (k:Int) (hs:sm (.sl (Yq)) l) (h0:0≤k) (h1:k+((cnt (.sl (Yq)) l:Nat):Int)≤4611686018427387904):ZJQ (mkL (mkA mt (Yq)) (cnt (Yq)) l k) k=some (k+((cnt (.sl (Yq)) l:Nat):Int)):=by
 unfold ZJQ
 have hl:l.length≤1048576:=by have:=hs.1;omega
 refine ZJP (f:=mkA mt (Yq)) (c:=cnt (Yq)) (step:=fun v=>ZI5 (mkL (mkA mt (Yq)) (cnt (Yq)) l k) v.1 v.2.1) (fun j m x hj hx hxm hm0 hm1 hj2=>?_) (fun m=>?_) hl h0 h1
 ·have hsx:=hs.2 x hxm
  have hc:((cnt (Yq) x:Nat):Int)=0+1+1+((cnt (.sl (.int .i64)) x.2.2.1:Nat):Int):=by simp only [ZIL,ZIO,ZIK,ZIM,ZIQ];omega
  have f0:Ze.Name (mkA mt (Yq) x m)=mt (m):=rfl
  have e0:=ZNU (k:=m) (by omega) (by omega)
  have f1:Ze.Cell (mkA mt (Yq) x m)=m+1:=rfl
  have f2:Ze.ZI (mkA mt (Yq) x m)=mkL (mkA mt (.int .i64)) (cnt (.int .i64)) x.2.2.1 (m+1+1):=rfl
  have e2:=ZIF x.2.2.1 (m+1+1) hsx.2.2.1 (by omega) (by omega)
  have n2:¬(m+1+1+((cnt (.sl (.int .i64)) x.2.2.1:Nat):Int))<0:=by omega
  simp (disch:=omega) only [ZI5,if_pos hj,Zu,hx,Bq,Jr,eq_self,if_true,if_false,beq_self_eq_true,f0,e0,f1,f2,e2,n2]
  refine ZJl ?_ ?_
  ·have hc:=hc;omega
  ·omega
 ·simp only [ZI5,Int.lt_irrefl,if_false]
theorem ZNX (l:List (List UInt8)) (k:Int) (hs:sm (.sl (.str)) l) (h0:0≤k) (h1:k+((cnt (.sl (.str)) l:Nat):Int)≤4611686018427387904):ZKe (mkL (mkA mt (.str)) (cnt (.str)) l k) k=some (k+((cnt (.sl (.str)) l:Nat):Int)):=by
 unfold ZKe
 have hl:l.length≤1048576:=by have:=hs.1;omega
 refine ZJP (f:=mkA mt (.str)) (c:=cnt (.str)) (step:=fun v=>ZJi (mkL (mkA mt (.str)) (cnt (.str)) l k) v.1 v.2.1) (fun j m x hj hx hxm hm0 hm1 hj2=>?_) (fun m=>?_) hl h0 h1
 ·have hsx:=hs.2 x hxm
  have hc:((cnt (.str) x:Nat):Int)=0+1:=by rfl
  have f0:mkA mt (.str) x m=mt (m):=rfl
  have e0:=ZNU (k:=m) (by omega) (by omega)
  simp (disch:=omega) only [ZJi,if_pos hj,Zu,hx,Bq,Jr,eq_self,if_true,if_false,beq_self_eq_true,f0,e0]
  refine ZJl ?_ ?_
  ·have hc:=hc;omega
  ·omega
 ·simp only [ZJi,Int.lt_irrefl,if_false]
theorem ZOf (l:List (ZR)) (k:Int) (hs:sm (.sl (Zcd)) l) (h0:0≤k) (h1:k+((cnt (.sl (Zcd)) l:Nat):Int)≤4611686018427387904):ZKt (mkL (mkA mt (Zcd)) (cnt (Zcd)) l k) k=some (k+((cnt (.sl (Zcd)) l:Nat):Int)):=by
 unfold ZKt
 have hl:l.length≤1048576:=by have:=hs.1;omega
 refine ZJP (f:=mkA mt (Zcd)) (c:=cnt (Zcd)) (step:=fun v=>ZJx (mkL (mkA mt (Zcd)) (cnt (Zcd)) l k) v.1 v.2.1) (fun j m x hj hx hxm hm0 hm1 hj2=>?_) (fun m=>?_) hl h0 h1
 ·have hsx:=hs.2 x hxm
  have hc:((cnt (Zcd) x:Nat):Int)=0+1+1+1:=by simp only [ZIL,ZIO,ZIK,ZIM,ZIQ];omega
  have f0:ZR.Name (mkA mt (Zcd) x m)=mt (m):=rfl
  have e0:=ZNU (k:=m) (by omega) (by omega)
  have f1:ZR.Dir (mkA mt (Zcd) x m)=m+1:=rfl
  have f2:ZR.Net (mkA mt (Zcd) x m)=m+1+1:=rfl
  simp (disch:=omega) only [ZJx,if_pos hj,Zu,hx,Bq,Jr,eq_self,if_true,if_false,beq_self_eq_true,f0,e0,f1,f2]
  refine ZJl ?_ ?_
  ·have hc:=hc;omega
  ·omega
 ·simp only [ZJx,Int.lt_irrefl,if_false]
theorem ZN5 (a:Zb) (k:Int) (hs:sm (YG) a) (h0:0≤k) (h1:k+((ZIZ (YG) a:Nat):Int)≤4611686018427387904):ZKm (mkT mt (YG) a k) k=some (k+((ZIZ (YG) a:Nat):Int)):=by
 unfold ZKm
 have hc:((ZIZ (YG) a:Nat):Int)=0+(((cnt (.sl (Yq)) a.1):Nat):Int)+(((cnt (.sl (.str)) a.2.1):Nat):Int)+(((cnt (.sl (Zcd)) a.2.2.1):Nat):Int):=by simp only [ZIZ];omega
 have f0:Zb.Instances (mkT mt (YG) a k)=mkL (mkA mt (Yq)) (cnt (Yq)) a.1 (k):=by rfl
 have n0:¬(k+(((cnt (.sl (Yq)) a.1):Nat):Int))<0:=by omega
 have e0:=ZNN a.1 (k) hs.1 (by omega) (by omega)
 have f1:Zb.ZI (mkT mt (YG) a k)=mkL (mkA mt (.str)) (cnt (.str)) a.2.1 (k+(((cnt (.sl (Yq)) a.1):Nat):Int)):=by rfl
 have n1:¬(k+(((cnt (.sl (Yq)) a.1):Nat):Int)+(((cnt (.sl (.str)) a.2.1):Nat):Int))<0:=by omega
 have e1:=ZNX a.2.1 (k+(((cnt (.sl (Yq)) a.1):Nat):Int)) hs.2.1 (by omega) (by omega)
 have f2:Zb.ZG (mkT mt (YG) a k)=mkL (mkA mt (Zcd)) (cnt (Zcd)) a.2.2.1 (k+(((cnt (.sl (Yq)) a.1):Nat):Int)+(((cnt (.sl (.str)) a.2.1):Nat):Int)):=by rfl
 have n2:¬(k+(((cnt (.sl (Yq)) a.1):Nat):Int)+(((cnt (.sl (.str)) a.2.1):Nat):Int)+(((cnt (.sl (Zcd)) a.2.2.1):Nat):Int))<0:=by omega
 have e2:=ZOf a.2.2.1 (k+(((cnt (.sl (Yq)) a.1):Nat):Int)+(((cnt (.sl (.str)) a.2.1):Nat):Int)) hs.2.2.1 (by omega) (by omega)
 simp only [Bq,if_false,f0,n0,e0,f1,n1,e1,f2,n2,e2]
 refine congrArg some ?_
 omega
theorem ZOh (l:List (Zr)) (k:Int) (hs:sm (.sl (Vv)) l) (h0:0≤k) (h1:k+((cnt (.sl (Vv)) l:Nat):Int)≤4611686018427387904):ZKv (mkL (mkA mt (Vv)) (cnt (Vv)) l k) k=some (k+((cnt (.sl (Vv)) l:Nat):Int)):=by
 unfold ZKv
 have hl:l.length≤1048576:=by have:=hs.1;omega
 refine ZJP (f:=mkA mt (Vv)) (c:=cnt (Vv)) (step:=fun v=>ZJy (mkL (mkA mt (Vv)) (cnt (Vv)) l k) v.1 v.2.1) (fun j m x hj hx hxm hm0 hm1 hj2=>?_) (fun m=>?_) hl h0 h1
 ·have hsx:=hs.2 x hxm
  have hc:((cnt (Vv) x:Nat):Int)=0+((cnt (.sl (.int .i64)) x.1:Nat):Int)+((cnt (.sl (.int .i64)) x.2.1:Nat):Int)+((cnt (.sl (.int .i64)) x.2.2.1:Nat):Int)+((cnt (.sl (.int .i64)) x.2.2.2.1:Nat):Int):=by simp only [ZIL,ZIO,ZIK,ZIM,ZIQ];omega
  have f0:Zr.Parent (mkA mt (Vv) x m)=mkL (mkA mt (.int .i64)) (cnt (.int .i64)) x.1 (m):=rfl
  have e0:=ZIF x.1 (m) hsx.1 (by omega) (by omega)
  have n0:¬(m+((cnt (.sl (.int .i64)) x.1:Nat):Int))<0:=by omega
  have f1:Zr.Res (mkA mt (Vv) x m)=mkL (mkA mt (.int .i64)) (cnt (.int .i64)) x.2.1 (m+((cnt (.sl (.int .i64)) x.1:Nat):Int)):=rfl
  have e1:=ZIF x.2.1 (m+((cnt (.sl (.int .i64)) x.1:Nat):Int)) hsx.2.1 (by omega) (by omega)
  have n1:¬(m+((cnt (.sl (.int .i64)) x.1:Nat):Int)+((cnt (.sl (.int .i64)) x.2.1:Nat):Int))<0:=by omega
  have f2:Zr.Cap (mkA mt (Vv) x m)=mkL (mkA mt (.int .i64)) (cnt (.int .i64)) x.2.2.1 (m+((cnt (.sl (.int .i64)) x.1:Nat):Int)+((cnt (.sl (.int .i64)) x.2.1:Nat):Int)):=rfl
  have e2:=ZIF x.2.2.1 (m+((cnt (.sl (.int .i64)) x.1:Nat):Int)+((cnt (.sl (.int .i64)) x.2.1:Nat):Int)) hsx.2.2.1 (by omega) (by omega)
  have n2:¬(m+((cnt (.sl (.int .i64)) x.1:Nat):Int)+((cnt (.sl (.int .i64)) x.2.1:Nat):Int)+((cnt (.sl (.int .i64)) x.2.2.1:Nat):Int))<0:=by omega
  have f3:Zr.Ze6 (mkA mt (Vv) x m)=mkL (mkA mt (.int .i64)) (cnt (.int .i64)) x.2.2.2.1 (m+((cnt (.sl (.int .i64)) x.1:Nat):Int)+((cnt (.sl (.int .i64)) x.2.1:Nat):Int)+((cnt (.sl (.int .i64)) x.2.2.1:Nat):Int)):=rfl
  have e3:=ZIF x.2.2.2.1 (m+((cnt (.sl (.int .i64)) x.1:Nat):Int)+((cnt (.sl (.int .i64)) x.2.1:Nat):Int)+((cnt (.sl (.int .i64)) x.2.2.1:Nat):Int)) hsx.2.2.2.1 (by omega) (by omega)
  have n3:¬(m+((cnt (.sl (.int .i64)) x.1:Nat):Int)+((cnt (.sl (.int .i64)) x.2.1:Nat):Int)+((cnt (.sl (.int .i64)) x.2.2.1:Nat):Int)+((cnt (.sl (.int .i64)) x.2.2.2.1:Nat):Int))<0:=by omega
  simp (disch:=omega) only [ZJy,if_pos hj,Zu,hx,Bq,Jr,eq_self,if_true,if_false,beq_self_eq_true,f0,e0,n0,f1,e1,n1,f2,e2,n2,f3,e3,n3]
  refine ZJl ?_ ?_
  ·have hc:=hc;omega
  ·omega
 ·simp only [ZJy,Int.lt_irrefl,if_false]
theorem ZOd (a:Za) (k:Int) (hs:sm (Y3) a) (h0:0≤k) (h1:k+((ZIZ (Y3) a:Nat):Int)≤4611686018427387904):ZKr (mkT mt (Y3) a k) k=some (k+((ZIZ (Y3) a:Nat):Int)):=by
 unfold ZKr
 have hc:((ZIZ (Y3) a:Nat):Int)=0+(((ZIZ (Xh) a.1):Nat):Int)+(((ZIZ (YG) a.2.1):Nat):Int)+(((cnt (.sl (Vv)) a.2.2.1):Nat):Int):=by simp only [ZIZ];omega
 have f0:Za.Library (mkT mt (Y3) a k)=mkT mt (Xh) a.1 (k):=by rfl
 have n0:¬(k+(((ZIZ (Xh) a.1):Nat):Int))<0:=by omega
 have e0:=ZNW a.1 (k) hs.1 (by omega) (by omega)
 have f1:Za.Design (mkT mt (Y3) a k)=mkT mt (YG) a.2.1 (k+(((ZIZ (Xh) a.1):Nat):Int)):=by rfl
 have n1:¬(k+(((ZIZ (Xh) a.1):Nat):Int)+(((ZIZ (YG) a.2.1):Nat):Int))<0:=by omega
 have e1:=ZN5 a.2.1 (k+(((ZIZ (Xh) a.1):Nat):Int)) hs.2.1 (by omega) (by omega)
 have f2:Za.Zz (mkT mt (Y3) a k)=mkL (mkA mt (Vv)) (cnt (Vv)) a.2.2.1 (k+(((ZIZ (Xh) a.1):Nat):Int)+(((ZIZ (YG) a.2.1):Nat):Int)):=by rfl
 have n2:¬(k+(((ZIZ (Xh) a.1):Nat):Int)+(((ZIZ (YG) a.2.1):Nat):Int)+(((cnt (.sl (Vv)) a.2.2.1):Nat):Int))<0:=by omega
 have e2:=ZOh a.2.2.1 (k+(((ZIZ (Xh) a.1):Nat):Int)+(((ZIZ (YG) a.2.1):Nat):Int)) hs.2.2.1 (by omega) (by omega)
 simp only [Bq,if_false,f0,n0,e0,f1,n1,e1,f2,n2,e2]
 refine congrArg some ?_
 omega
theorem ZN4 (l:List (Zl)) (k:Int) (hs:sm (.sl (XF)) l) (h0:0≤k) (h1:k+((cnt (.sl (XF)) l:Nat):Int)≤4611686018427387904):ZKl (mkL (mkA mt (XF)) (cnt (XF)) l k) k=some (k+((cnt (.sl (XF)) l:Nat):Int)):=by
 unfold ZKl
 have hl:l.length≤1048576:=by have:=hs.1;omega
 refine ZJP (f:=mkA mt (XF)) (c:=cnt (XF)) (step:=fun v=>ZJn (mkL (mkA mt (XF)) (cnt (XF)) l k) v.1 v.2.1) (fun j m x hj hx hxm hm0 hm1 hj2=>?_) (fun m=>?_) hl h0 h1
 ·have hsx:=hs.2 x hxm
  have hc:((cnt (XF) x:Nat):Int)=0+1+1+1+1+1+1+1+1+1+1+1:=by simp only [ZIL,ZIO,ZIK,ZIM,ZIQ];omega
  have f0:Zl.Name (mkA mt (XF) x m)=mt (m):=rfl
  have e0:=ZNU (k:=m) (by omega) (by omega)
  have f1:Zl.Place (mkA mt (XF) x m)=m+1:=rfl
  have f2:Zl.Zca (mkA mt (XF) x m)=m+1+1:=rfl
  have f3:Zl.ZdJ (mkA mt (XF) x m)=m+1+1+1:=rfl
  have f4:Zl.ZdM (mkA mt (XF) x m)=m+1+1+1+1:=rfl
  have f5:Zl.Source (mkA mt (XF) x m)=m+1+1+1+1+1:=rfl
  have f6:Zl.Divide (mkA mt (XF) x m)=m+1+1+1+1+1+1:=rfl
  have f7:Zl.Zkd (mkA mt (XF) x m)=decide (Int.tmod (m+1+1+1+1+1+1+1) 3=0):=rfl
  have f8:Zl.X6 (mkA mt (XF) x m)=m+1+1+1+1+1+1+1+1:=rfl
  have f9:Zl.VE (mkA mt (XF) x m)=m+1+1+1+1+1+1+1+1+1:=rfl
  have f10:Zl.Zbe (mkA mt (XF) x m)=m+1+1+1+1+1+1+1+1+1+1:=rfl
  simp only [ZJn]
  rw [if_pos hj,Zu,hx,Bq]
  rw [e0,Bq,if_pos f0]
  try rw [Jr (n:=m+1) (by omega) (by omega)]
  rw [if_pos f1]
  try rw [Jr (n:=m+1+1) (by omega) (by omega)]
  rw [if_pos f2]
  try rw [Jr (n:=m+1+1+1) (by omega) (by omega)]
  rw [if_pos f3]
  try rw [Jr (n:=m+1+1+1+1) (by omega) (by omega)]
  rw [if_pos f4]
  try rw [Jr (n:=m+1+1+1+1+1) (by omega) (by omega)]
  rw [if_pos f5]
  try rw [Jr (n:=m+1+1+1+1+1+1) (by omega) (by omega)]
  rw [if_pos f6]
  try rw [Jr (n:=m+1+1+1+1+1+1+1) (by omega) (by omega)]
  rw [if_pos (by rw [f7];exact beq_self_eq_true _)]
  try rw [Jr (n:=m+1+1+1+1+1+1+1+1) (by omega) (by omega)]
  rw [if_pos f8]
  try rw [Jr (n:=m+1+1+1+1+1+1+1+1+1) (by omega) (by omega)]
  rw [if_pos f9]
  try rw [Jr (n:=m+1+1+1+1+1+1+1+1+1+1) (by omega) (by omega)]
  rw [if_pos f10]
  try rw [Jr (n:=m+1+1+1+1+1+1+1+1+1+1+1) (by omega) (by omega)]
  rw [Jr (n:=(j:Int)+1) (by omega) (by omega)]
  refine ZJl ?_ ?_
  ·have hc:=hc;omega
  ·omega
 ·simp only [ZJn,Int.lt_irrefl,if_false]
theorem ZKx (l:List (Zj)) (k:Int) (hs:sm (.sl (Yg)) l) (h0:0≤k) (h1:k+((cnt (.sl (Yg)) l:Nat):Int)≤4611686018427387904):ZJo (mkL (mkA mt (Yg)) (cnt (Yg)) l k) k=some (k+((cnt (.sl (Yg)) l:Nat):Int)):=by
 unfold ZJo
 have hl:l.length≤1048576:=by have:=hs.1;omega
 refine ZJP (f:=mkA mt (Yg)) (c:=cnt (Yg)) (step:=fun v=>ZI4 (mkL (mkA mt (Yg)) (cnt (Yg)) l k) v.1 v.2.1) (fun j m x hj hx hxm hm0 hm1 hj2=>?_) (fun m=>?_) hl h0 h1
 ·have hsx:=hs.2 x hxm
  have hc:((cnt (Yg) x:Nat):Int)=0+1+1+1+1+1+1:=by simp only [ZIL,ZIO,ZIK,ZIM,ZIQ];omega
  have f0:Zj.Place (mkA mt (Yg) x m)=m:=rfl
  have f1:Zj.Clock (mkA mt (Yg) x m)=m+1:=rfl
  have f2:YQ.Early (Zj.Delay (mkA mt (Yg) x m))=m+1+1:=rfl
  have f3:YQ.Late (Zj.Delay (mkA mt (Yg) x m))=m+1+1+1:=rfl
  have f4:YQ.Early (Zj.ZdS (mkA mt (Yg) x m))=m+1+1+1+1:=by show m+((1:Nat):Int)+((1:Nat):Int)+((2:Nat):Int)=_;omega
  have f5:YQ.Late (Zj.ZdS (mkA mt (Yg) x m))=m+1+1+1+1+1:=by show m+((1:Nat):Int)+((1:Nat):Int)+((2:Nat):Int)+((1:Nat):Int)=_;omega
  simp (disch:=omega) only [ZI4,if_pos hj,Zu,hx,Bq,Jr,eq_self,if_true,if_false,beq_self_eq_true,f0,f1,f2,f3,f4,f5]
  refine ZJl ?_ ?_
  ·have hc:=hc;omega
  ·omega
 ·simp only [ZI4,Int.lt_irrefl,if_false]
theorem ZM6 (l:List (Zg)) (k:Int) (hs:sm (.sl (Yn)) l) (h0:0≤k) (h1:k+((cnt (.sl (Yn)) l:Nat):Int)≤4611686018427387904):ZJG (mkL (mkA mt (Yn)) (cnt (Yn)) l k) k=some (k+((cnt (.sl (Yn)) l:Nat):Int)):=by
 unfold ZJG
 have hl:l.length≤1048576:=by have:=hs.1;omega
 refine ZJP (f:=mkA mt (Yn)) (c:=cnt (Yn)) (step:=fun v=>ZI0 (mkL (mkA mt (Yn)) (cnt (Yn)) l k) v.1 v.2.1) (fun j m x hj hx hxm hm0 hm1 hj2=>?_) (fun m=>?_) hl h0 h1
 ·have hsx:=hs.2 x hxm
  have hc:((cnt (Yn) x:Nat):Int)=0+1+1+((cnt (.sl (.int .i64)) x.2.2.1:Nat):Int)+((cnt (.sl (.int .i64)) x.2.2.2.1:Nat):Int)+((cnt (.sl (.int .i64)) x.2.2.2.2.1:Nat):Int):=by simp only [ZIL,ZIO,ZIK,ZIM,ZIQ];omega
  have f0:Zg.Kind (mkA mt (Yn) x m)=m:=rfl
  have f1:Zg.Value (mkA mt (Yn) x m)=m+1:=rfl
  have f2:Zg.From (mkA mt (Yn) x m)=mkL (mkA mt (.int .i64)) (cnt (.int .i64)) x.2.2.1 (m+1+1):=rfl
  have e2:=ZIF x.2.2.1 (m+1+1) hsx.2.2.1 (by omega) (by omega)
  have n2:¬(m+1+1+((cnt (.sl (.int .i64)) x.2.2.1:Nat):Int))<0:=by omega
  have f3:Zg.Through (mkA mt (Yn) x m)=mkL (mkA mt (.int .i64)) (cnt (.int .i64)) x.2.2.2.1 (m+1+1+((cnt (.sl (.int .i64)) x.2.2.1:Nat):Int)):=rfl
  have e3:=ZIF x.2.2.2.1 (m+1+1+((cnt (.sl (.int .i64)) x.2.2.1:Nat):Int)) hsx.2.2.2.1 (by omega) (by omega)
  have n3:¬(m+1+1+((cnt (.sl (.int .i64)) x.2.2.1:Nat):Int)+((cnt (.sl (.int .i64)) x.2.2.2.1:Nat):Int))<0:=by omega
  have f4:Zg.To (mkA mt (Yn) x m)=mkL (mkA mt (.int .i64)) (cnt (.int .i64)) x.2.2.2.2.1 (m+1+1+((cnt (.sl (.int .i64)) x.2.2.1:Nat):Int)+((cnt (.sl (.int .i64)) x.2.2.2.1:Nat):Int)):=rfl
  have e4:=ZIF x.2.2.2.2.1 (m+1+1+((cnt (.sl (.int .i64)) x.2.2.1:Nat):Int)+((cnt (.sl (.int .i64)) x.2.2.2.1:Nat):Int)) hsx.2.2.2.2.1 (by omega) (by omega)
  have n4:¬(m+1+1+((cnt (.sl (.int .i64)) x.2.2.1:Nat):Int)+((cnt (.sl (.int .i64)) x.2.2.2.1:Nat):Int)+((cnt (.sl (.int .i64)) x.2.2.2.2.1:Nat):Int))<0:=by omega
  simp (disch:=omega) only [ZI0,if_pos hj,Zu,hx,Bq,Jr,eq_self,if_true,if_false,beq_self_eq_true,f0,f1,f2,e2,n2,f3,e3,n3,f4,e4,n4]
  refine ZJl ?_ ?_
  ·have hc:=hc;omega
  ·omega
 ·simp only [ZI0,Int.lt_irrefl,if_false]
theorem ZNV (l:List (Zy)) (k:Int) (hs:sm (.sl (Xf)) l) (h0:0≤k) (h1:k+((cnt (.sl (Xf)) l:Nat):Int)≤4611686018427387904):ZKc (mkL (mkA mt (Xf)) (cnt (Xf)) l k) k=some (k+((cnt (.sl (Xf)) l:Nat):Int)):=by
 unfold ZKc
 have hl:l.length≤1048576:=by have:=hs.1;omega
 refine ZJP (f:=mkA mt (Xf)) (c:=cnt (Xf)) (step:=fun v=>ZJh (mkL (mkA mt (Xf)) (cnt (Xf)) l k) v.1 v.2.1) (fun j m x hj hx hxm hm0 hm1 hj2=>?_) (fun m=>?_) hl h0 h1
 ·have hsx:=hs.2 x hxm
  have hc:((cnt (Xf) x:Nat):Int)=0+1+1+1+1+1:=by simp only [ZIL,ZIO,ZIK,ZIM,ZIQ];omega
  have f0:Zy.Name (mkA mt (Xf) x m)=mt (m):=rfl
  have e0:=ZNU (k:=m) (by omega) (by omega)
  have f1:Zy.Zbc (mkA mt (Xf) x m)=m+1:=rfl
  have f2:Zy.ZdE (mkA mt (Xf) x m)=m+1+1:=rfl
  have f3:Zy.Zcb (mkA mt (Xf) x m)=m+1+1+1:=rfl
  have f4:Zy.Zeo (mkA mt (Xf) x m)=m+1+1+1+1:=rfl
  simp (disch:=omega) only [ZJh,if_pos hj,Zu,hx,Bq,Jr,eq_self,if_true,if_false,beq_self_eq_true,f0,e0,f1,f2,f3,f4]
  refine ZJl ?_ ?_
  ·have hc:=hc;omega
  ·omega
 ·simp only [ZJh,Int.lt_irrefl,if_false]
theorem ZOg (a:Zn) (k:Int) (hs:sm (QX) a) (h0:0≤k) (h1:k+((ZIZ (QX) a:Nat):Int)≤4611686018427387904):ZKu (mkT mt (QX) a k) k=some (k+((ZIZ (QX) a:Nat):Int)):=by
 unfold ZKu
 have hc:((ZIZ (QX) a:Nat):Int)=0+(((cnt (.sl (XF)) a.1):Nat):Int)+(((cnt (.sl (Yg)) a.2.1):Nat):Int)+(((cnt (.sl (Yg)) a.2.2.1):Nat):Int)+(((cnt (.sl (Yn)) a.2.2.2.1):Nat):Int)+(((cnt (.sl (Xf)) a.2.2.2.2.1):Nat):Int):=by simp only [ZIZ];omega
 have f0:Zn.YE (mkT mt (QX) a k)=mkL (mkA mt (XF)) (cnt (XF)) a.1 (k):=by rfl
 have n0:¬(k+(((cnt (.sl (XF)) a.1):Nat):Int))<0:=by omega
 have e0:=ZN4 a.1 (k) hs.1 (by omega) (by omega)
 have f1:Zn.XV (mkT mt (QX) a k)=mkL (mkA mt (Yg)) (cnt (Yg)) a.2.1 (k+(((cnt (.sl (XF)) a.1):Nat):Int)):=by rfl
 have n1:¬(k+(((cnt (.sl (XF)) a.1):Nat):Int)+(((cnt (.sl (Yg)) a.2.1):Nat):Int))<0:=by omega
 have e1:=ZKx a.2.1 (k+(((cnt (.sl (XF)) a.1):Nat):Int)) hs.2.1 (by omega) (by omega)
 have f2:Zn.Y7 (mkT mt (QX) a k)=mkL (mkA mt (Yg)) (cnt (Yg)) a.2.2.1 (k+(((cnt (.sl (XF)) a.1):Nat):Int)+(((cnt (.sl (Yg)) a.2.1):Nat):Int)):=by rfl
 have n2:¬(k+(((cnt (.sl (XF)) a.1):Nat):Int)+(((cnt (.sl (Yg)) a.2.1):Nat):Int)+(((cnt (.sl (Yg)) a.2.2.1):Nat):Int))<0:=by omega
 have e2:=ZKx a.2.2.1 (k+(((cnt (.sl (XF)) a.1):Nat):Int)+(((cnt (.sl (Yg)) a.2.1):Nat):Int)) hs.2.2.1 (by omega) (by omega)
 have f3:Zn.Exceptions (mkT mt (QX) a k)=mkL (mkA mt (Yn)) (cnt (Yn)) a.2.2.2.1 (k+(((cnt (.sl (XF)) a.1):Nat):Int)+(((cnt (.sl (Yg)) a.2.1):Nat):Int)+(((cnt (.sl (Yg)) a.2.2.1):Nat):Int)):=by rfl
 have n3:¬(k+(((cnt (.sl (XF)) a.1):Nat):Int)+(((cnt (.sl (Yg)) a.2.1):Nat):Int)+(((cnt (.sl (Yg)) a.2.2.1):Nat):Int)+(((cnt (.sl (Yn)) a.2.2.2.1):Nat):Int))<0:=by omega
 have e3:=ZM6 a.2.2.2.1 (k+(((cnt (.sl (XF)) a.1):Nat):Int)+(((cnt (.sl (Yg)) a.2.1):Nat):Int)+(((cnt (.sl (Yg)) a.2.2.1):Nat):Int)) hs.2.2.2.1 (by omega) (by omega)
 have f4:Zn.XT (mkT mt (QX) a k)=mkL (mkA mt (Xf)) (cnt (Xf)) a.2.2.2.2.1 (k+(((cnt (.sl (XF)) a.1):Nat):Int)+(((cnt (.sl (Yg)) a.2.1):Nat):Int)+(((cnt (.sl (Yg)) a.2.2.1):Nat):Int)+(((cnt (.sl (Yn)) a.2.2.2.1):Nat):Int)):=by rfl
 have n4:¬(k+(((cnt (.sl (XF)) a.1):Nat):Int)+(((cnt (.sl (Yg)) a.2.1):Nat):Int)+(((cnt (.sl (Yg)) a.2.2.1):Nat):Int)+(((cnt (.sl (Yn)) a.2.2.2.1):Nat):Int)+(((cnt (.sl (Xf)) a.2.2.2.2.1):Nat):Int))<0:=by omega
 have e4:=ZNV a.2.2.2.2.1 (k+(((cnt (.sl (XF)) a.1):Nat):Int)+(((cnt (.sl (Yg)) a.2.1):Nat):Int)+(((cnt (.sl (Yg)) a.2.2.1):Nat):Int)+(((cnt (.sl (Yn)) a.2.2.2.1):Nat):Int)) hs.2.2.2.2.1 (by omega) (by omega)
 simp only [Bq,if_false,f0,n0,e0,f1,n1,e1,f2,n2,e2,f3,n3,e3,f4,n4,e4]
 refine congrArg some ?_
 omega
theorem ZLh (l:List (Zh)) (k:Int) (hs:sm (.sl (XL)) l) (h0:0≤k) (h1:k+((cnt (.sl (XL)) l:Nat):Int)≤4611686018427387904):ZJ5 (mkL (mkA mt (XL)) (cnt (XL)) l k) k=some (k+((cnt (.sl (XL)) l:Nat):Int)):=by
 unfold ZJ5
 have hl:l.length≤1048576:=by have:=hs.1;omega
 refine ZJP (f:=mkA mt (XL)) (c:=cnt (XL)) (step:=fun v=>ZJw (mkL (mkA mt (XL)) (cnt (XL)) l k) v.1 v.2.1) (fun j m x hj hx hxm hm0 hm1 hj2=>?_) (fun m=>?_) hl h0 h1
 ·have hsx:=hs.2 x hxm
  have hc:((cnt (XL) x:Nat):Int)=0+1+1+1+1+1+1+((cnt (.sl (.int .i64)) x.2.2.2.2.2.2.1.1:Nat):Int)+((cnt (.sl (.int .i64)) x.2.2.2.2.2.2.1.2.1:Nat):Int)+((cnt (.sl (.int .i64)) x.2.2.2.2.2.2.1.2.2.1:Nat):Int)+((cnt (.sl (.int .i64)) x.2.2.2.2.2.2.1.2.2.2.1:Nat):Int):=by simp only [ZIL,ZIO,ZIK,ZIM,ZIQ];omega
  have f0:Zh.Kind (mkA mt (XL) x m)=m:=rfl
  have f1:Zh.Place (mkA mt (XL) x m)=m+1:=rfl
  have f2:Zh.Cell (mkA mt (XL) x m)=m+1+1:=rfl
  have f3:Zh.Net (mkA mt (XL) x m)=m+1+1+1:=rfl
  have f4:Zh.Node (mkA mt (XL) x m)=m+1+1+1+1:=rfl
  have f5:Zh.Name (mkA mt (XL) x m)=mt (m+1+1+1+1+1):=rfl
  have e5:=ZNU (k:=m+1+1+1+1+1) (by omega) (by omega)
  have f6:Zr.Parent (Zh.Ze7 (mkA mt (XL) x m))=mkL (mkA mt (.int .i64)) (cnt (.int .i64)) x.2.2.2.2.2.2.1.1 (m+1+1+1+1+1+1):=rfl
  have e6:=ZIF x.2.2.2.2.2.2.1.1 (m+1+1+1+1+1+1) hsx.2.2.2.2.2.2.1.1 (by omega) (by omega)
  have n6:¬(m+1+1+1+1+1+1+((cnt (.sl (.int .i64)) x.2.2.2.2.2.2.1.1:Nat):Int))<0:=by omega
  have f7:Zr.Res (Zh.Ze7 (mkA mt (XL) x m))=mkL (mkA mt (.int .i64)) (cnt (.int .i64)) x.2.2.2.2.2.2.1.2.1 (m+1+1+1+1+1+1+((cnt (.sl (.int .i64)) x.2.2.2.2.2.2.1.1:Nat):Int)):=rfl
  have e7:=ZIF x.2.2.2.2.2.2.1.2.1 (m+1+1+1+1+1+1+((cnt (.sl (.int .i64)) x.2.2.2.2.2.2.1.1:Nat):Int)) hsx.2.2.2.2.2.2.1.2.1 (by omega) (by omega)
  have n7:¬(m+1+1+1+1+1+1+((cnt (.sl (.int .i64)) x.2.2.2.2.2.2.1.1:Nat):Int)+((cnt (.sl (.int .i64)) x.2.2.2.2.2.2.1.2.1:Nat):Int))<0:=by omega
  have f8:Zr.Cap (Zh.Ze7 (mkA mt (XL) x m))=mkL (mkA mt (.int .i64)) (cnt (.int .i64)) x.2.2.2.2.2.2.1.2.2.1 (m+1+1+1+1+1+1+((cnt (.sl (.int .i64)) x.2.2.2.2.2.2.1.1:Nat):Int)+((cnt (.sl (.int .i64)) x.2.2.2.2.2.2.1.2.1:Nat):Int)):=rfl
  have e8:=ZIF x.2.2.2.2.2.2.1.2.2.1 (m+1+1+1+1+1+1+((cnt (.sl (.int .i64)) x.2.2.2.2.2.2.1.1:Nat):Int)+((cnt (.sl (.int .i64)) x.2.2.2.2.2.2.1.2.1:Nat):Int)) hsx.2.2.2.2.2.2.1.2.2.1 (by omega) (by omega)
  have n8:¬(m+1+1+1+1+1+1+((cnt (.sl (.int .i64)) x.2.2.2.2.2.2.1.1:Nat):Int)+((cnt (.sl (.int .i64)) x.2.2.2.2.2.2.1.2.1:Nat):Int)+((cnt (.sl (.int .i64)) x.2.2.2.2.2.2.1.2.2.1:Nat):Int))<0:=by omega
  have f9:Zr.Ze6 (Zh.Ze7 (mkA mt (XL) x m))=mkL (mkA mt (.int .i64)) (cnt (.int .i64)) x.2.2.2.2.2.2.1.2.2.2.1 (m+1+1+1+1+1+1+((cnt (.sl (.int .i64)) x.2.2.2.2.2.2.1.1:Nat):Int)+((cnt (.sl (.int .i64)) x.2.2.2.2.2.2.1.2.1:Nat):Int)+((cnt (.sl (.int .i64)) x.2.2.2.2.2.2.1.2.2.1:Nat):Int)):=rfl
  have e9:=ZIF x.2.2.2.2.2.2.1.2.2.2.1 (m+1+1+1+1+1+1+((cnt (.sl (.int .i64)) x.2.2.2.2.2.2.1.1:Nat):Int)+((cnt (.sl (.int .i64)) x.2.2.2.2.2.2.1.2.1:Nat):Int)+((cnt (.sl (.int .i64)) x.2.2.2.2.2.2.1.2.2.1:Nat):Int)) hsx.2.2.2.2.2.2.1.2.2.2.1 (by omega) (by omega)
  have n9:¬(m+1+1+1+1+1+1+((cnt (.sl (.int .i64)) x.2.2.2.2.2.2.1.1:Nat):Int)+((cnt (.sl (.int .i64)) x.2.2.2.2.2.2.1.2.1:Nat):Int)+((cnt (.sl (.int .i64)) x.2.2.2.2.2.2.1.2.2.1:Nat):Int)+((cnt (.sl (.int .i64)) x.2.2.2.2.2.2.1.2.2.2.1:Nat):Int))<0:=by omega
  simp only [ZJw]
  rw [if_pos hj,Zu,hx,Bq]
  rw [if_pos f0]
  try rw [Jr (n:=m+1) (by omega) (by omega)]
  rw [if_pos f1]
  try rw [Jr (n:=m+1+1) (by omega) (by omega)]
  rw [if_pos f2]
  try rw [Jr (n:=m+1+1+1) (by omega) (by omega)]
  rw [if_pos f3]
  try rw [Jr (n:=m+1+1+1+1) (by omega) (by omega)]
  rw [if_pos f4]
  try rw [Jr (n:=m+1+1+1+1+1) (by omega) (by omega)]
  rw [e5,Bq,if_pos f5]
  try rw [Jr (n:=m+1+1+1+1+1+1) (by omega) (by omega)]
  rw [f6,e6,Bq,if_neg n6]
  try rw [Jr (n:=m+1+1+1+1+1+1+((cnt (.sl (.int .i64)) x.2.2.2.2.2.2.1.1:Nat):Int)) (by omega) (by omega)]
  rw [f7,e7,Bq,if_neg n7]
  try rw [Jr (n:=m+1+1+1+1+1+1+((cnt (.sl (.int .i64)) x.2.2.2.2.2.2.1.1:Nat):Int)+((cnt (.sl (.int .i64)) x.2.2.2.2.2.2.1.2.1:Nat):Int)) (by omega) (by omega)]
  rw [f8,e8,Bq,if_neg n8]
  try rw [Jr (n:=m+1+1+1+1+1+1+((cnt (.sl (.int .i64)) x.2.2.2.2.2.2.1.1:Nat):Int)+((cnt (.sl (.int .i64)) x.2.2.2.2.2.2.1.2.1:Nat):Int)+((cnt (.sl (.int .i64)) x.2.2.2.2.2.2.1.2.2.1:Nat):Int)) (by omega) (by omega)]
  rw [f9,e9,Bq,if_neg n9]
  try rw [Jr (n:=m+1+1+1+1+1+1+((cnt (.sl (.int .i64)) x.2.2.2.2.2.2.1.1:Nat):Int)+((cnt (.sl (.int .i64)) x.2.2.2.2.2.2.1.2.1:Nat):Int)+((cnt (.sl (.int .i64)) x.2.2.2.2.2.2.1.2.2.1:Nat):Int)+((cnt (.sl (.int .i64)) x.2.2.2.2.2.2.1.2.2.2.1:Nat):Int)) (by omega) (by omega)]
  rw [Jr (n:=(j:Int)+1) (by omega) (by omega)]
  refine ZJl ?_ ?_
  ·have hc:=hc;omega
  ·omega
 ·simp only [ZJw,Int.lt_irrefl,if_false]
theorem ZJI (a:ZH) (k:Int) (hs:sm (Jy) a) (h0:0≤k) (h1:k+((ZIZ (Jy) a:Nat):Int)≤4611686018427387904):ZI7 (mkT mt (Jy) a k) k=some (k+((ZIZ (Jy) a:Nat):Int)):=by
 unfold ZI7
 have hc:((ZIZ (Jy) a:Nat):Int)=0+(((ZIZ (Y3) a.1):Nat):Int)+(((ZIZ (QX) a.2.1):Nat):Int)+(((cnt (.sl (XL)) a.2.2.1):Nat):Int)+(((cnt (.sl (XL)) a.2.2.2.1):Nat):Int):=by simp only [ZIZ];omega
 have f0:ZH.Block (mkT mt (Jy) a k)=mkT mt (Y3) a.1 (k):=by rfl
 have n0:¬(k+(((ZIZ (Y3) a.1):Nat):Int))<0:=by omega
 have e0:=ZOd a.1 (k) hs.1 (by omega) (by omega)
 have f1:ZH.Setup (mkT mt (Jy) a k)=mkT mt (QX) a.2.1 (k+(((ZIZ (Y3) a.1):Nat):Int)):=by rfl
 have n1:¬(k+(((ZIZ (Y3) a.1):Nat):Int)+(((ZIZ (QX) a.2.1):Nat):Int))<0:=by omega
 have e1:=ZOg a.2.1 (k+(((ZIZ (Y3) a.1):Nat):Int)) hs.2.1 (by omega) (by omega)
 have f2:ZH.Zpn (mkT mt (Jy) a k)=mkL (mkA mt (XL)) (cnt (XL)) a.2.2.1 (k+(((ZIZ (Y3) a.1):Nat):Int)+(((ZIZ (QX) a.2.1):Nat):Int)):=by rfl
 have n2:¬(k+(((ZIZ (Y3) a.1):Nat):Int)+(((ZIZ (QX) a.2.1):Nat):Int)+(((cnt (.sl (XL)) a.2.2.1):Nat):Int))<0:=by omega
 have e2:=ZLh a.2.2.1 (k+(((ZIZ (Y3) a.1):Nat):Int)+(((ZIZ (QX) a.2.1):Nat):Int)) hs.2.2.1 (by omega) (by omega)
 have f3:ZH.Zpp (mkT mt (Jy) a k)=mkL (mkA mt (XL)) (cnt (XL)) a.2.2.2.1 (k+(((ZIZ (Y3) a.1):Nat):Int)+(((ZIZ (QX) a.2.1):Nat):Int)+(((cnt (.sl (XL)) a.2.2.1):Nat):Int)):=by rfl
 have n3:¬(k+(((ZIZ (Y3) a.1):Nat):Int)+(((ZIZ (QX) a.2.1):Nat):Int)+(((cnt (.sl (XL)) a.2.2.1):Nat):Int)+(((cnt (.sl (XL)) a.2.2.2.1):Nat):Int))<0:=by omega
 have e3:=ZLh a.2.2.2.1 (k+(((ZIZ (Y3) a.1):Nat):Int)+(((ZIZ (QX) a.2.1):Nat):Int)+(((cnt (.sl (XL)) a.2.2.1):Nat):Int)) hs.2.2.2.1 (by omega) (by omega)
 simp only [Bq,if_false,f0,n0,e0,f1,n1,e1,f2,n2,e2,f3,n3,e3]
 refine congrArg some ?_
 omega
/-
  Plain laws: edits: what an edit may mention, and when it is possible.
-/
theorem Zs8 {e:Zh} (h:sm XL e):sm .str (Zh.Name e)∧sm Vv (Zh.Ze7 e):=⟨h.2.2.2.2.2.1,h.2.2.2.2.2.2.1⟩
def Zkv (w:Zr):Prop:=Zr.Parent w=[]∧Zr.Res w=[]∧Zr.Cap w=[]∧Zr.Ze6 w=[]
theorem ZwP (w:Zr) (hw:sm Vv w):(some (Decidable.decide (Wq (Wq (Wq ((↑(List.length (Zr.Parent w)):Int)+(↑(List.length (Zr.Res w)):Int))+(↑(List.length (Zr.Cap w)):Int))+(↑(List.length (Zr.Ze6 w)):Int))=(0:Int))):Option Bool)=some (tr (Zkv w)):=by
 obtain ⟨a1,a2,a3,a4⟩:=ZlW hw
 have s1:=Zp a1
 have s2:=Zp a2
 have s3:=Zp a3
 have s4:=Zp a4
 rw [Jr (n:=((Zr.Parent w).length:Int)+((Zr.Res w).length:Int)) (by omega) (by omega),Jr (n:=((Zr.Parent w).length:Int)+((Zr.Res w).length:Int)+((Zr.Cap w).length:Int)) (by omega) (by omega),Jr (by omega) (by omega)]
 refine Jw ?_
 rw [decide_eq_true_eq]
 unfold Zkv
 rw [←List.length_eq_zero_iff,←List.length_eq_zero_iff,←List.length_eq_zero_iff,←List.length_eq_zero_iff]
 omega
def Blank (e:Zh):Prop :=
 (Zh.Kind e=1∧Zh.Net e=0∧Zh.Node e=0∧Zh.Name e=[]∧Zkv (Zh.Ze7 e))∨
 (Zh.Kind e=2∧Zh.Net e=0∧Zh.Node e=0∧Zkv (Zh.Ze7 e))∨
 (Zh.Kind e=3∧Zh.Place e=0∧Zh.Cell e=0∧Zh.Net e=0∧Zh.Node e=0∧Zh.Name e=[]∧Zkv (Zh.Ze7 e))∨
 (Zh.Kind e=4∧Zh.Cell e=0∧Zh.Name e=[]∧Zkv (Zh.Ze7 e))∨
 (Zh.Kind e=5∧Zh.Place e=0∧Zh.Cell e=0∧Zh.Node e=0∧Zh.Name e=[])
theorem Zoi (e:Zh) (he:sm XL e):Zfp e=some (tr (Blank e)):=by
 have hn:=ZwP (Zh.Ze7 e) (Zs8 he).2
 unfold Zfp
 rw [hn]
 by_cases k1:Zh.Kind e=1
 ·rw [if_pos k1]
  refine Vb (Yv fun _=>Yv fun _=>Yv fun _=>rfl) ?_
  unfold Blank;grind
 rw [if_neg k1]
 by_cases k2:Zh.Kind e=2
 ·rw [if_pos k2]
  refine Vb (Yv fun _=>Yv fun _=>rfl) ?_
  unfold Blank;grind
 rw [if_neg k2]
 by_cases k3:Zh.Kind e=3
 ·rw [if_pos k3]
  refine Vb (Yv fun _=>Yv fun _=>Yv fun _=>Yv fun _=>Yv fun _=>rfl) ?_
  unfold Blank;grind
 rw [if_neg k3]
 by_cases k4:Zh.Kind e=4
 ·rw [if_pos k4]
  refine Vb (Yv fun _=>Yv fun _=>rfl) ?_
  unfold Blank;grind
 rw [if_neg k4]
 by_cases k5:Zh.Kind e=5
 ·rw [if_pos k5]
  refine Vb (Yv fun _=>Yv fun _=>Yv fun _=>Jw decide_eq_true_iff) ?_
  unfold Blank;grind
 ·rw [if_neg k5]
  refine ZmC ?_
  unfold Blank;grind
theorem Zby (a b:List Int) (ha:a.length≤1048576):YZ a b=some (tr (a=b)):=by
 unfold YZ
 by_cases hl:(a.length:Int)=(b.length:Int)
 ·rw [if_pos hl,Qs (l:=a) (show Len a by unfold Len;omega) (fun k x=>b[k]?=some x) (bad:=false) (good:=true)
   (fun k x hx hk _=>by
    have hy:b[k]?=some b[k]:=List.getElem?_eq_getElem (by omega)
    simp only [Qy,show (k:Int)<(a.length:Int) from by omega,if_true,Zu,hx,hy,Bq,Option.some.injEq]
    constructor
    ·intro hh;rw [if_pos hh.symm]
    ·intro hh;rw [if_neg (fun q=>hh q.symm)])
   (fun _=>by simp only [Qy,Int.lt_irrefl,if_false]),Zl5]
  congr 1
  refine YB ⟨fun h=>?_,fun h=>by subst h;exact fun k x hx=>hx⟩
  apply List.ext_getElem?
  intro k
  by_cases hk:k<a.length
  ·rw [h k a[k] (List.getElem?_eq_getElem hk),List.getElem?_eq_getElem hk]
  ·rw [List.getElem?_eq_none (by omega),List.getElem?_eq_none (by omega)]
 ·rw [if_neg hl,ZQ (fun h=>hl (by rw [h]))]
def Ztk (a b:Zr):Prop:=Zr.Parent a=Zr.Parent b∧Zr.Res a=Zr.Res b∧Zr.Cap a=Zr.Cap b∧Zr.Ze6 a=Zr.Ze6 b
theorem ZnV (a b:Zr) (ha:sm Vv a):Zfa a b=some (tr (Ztk a b)):=by
 obtain ⟨a1,a2,a3,a4⟩:=ZlW ha
 have s1:=Zp a1
 have s2:=Zp a2
 have s3:=Zp a3
 have s4:=Zp a4
 unfold Zfa
 exact YA (Zby _ _ s1) fun _=>YA (Zby _ _ s2) fun _=>YA (Zby _ _ s3) fun _=>Jt (Zby _ _ s4)
theorem Zay (a b:Zh) (ha:sm XL a):Zdl a b=some (tr (Zh.Kind a=Zh.Kind b∧Zh.Place a=Zh.Place b∧Zh.Cell a=Zh.Cell b∧Zh.Net a=Zh.Net b∧Zh.Node a=Zh.Node b∧Zh.Name a=Zh.Name b∧Ztk (Zh.Ze7 a) (Zh.Ze7 b))):=by
 unfold Zdl
 exact Yv fun _=>Yv fun _=>Yv fun _=>Yv fun _=>Yv fun _=>Yv fun _=>Jt (ZnV _ _ (Zs8 ha).2)
theorem Zx8 (e:Zh) (he:sm XL e):(ZN (Zh.Kind e) 1 5=some (tr (1≤Zh.Kind e∧Zh.Kind e≤5)))∧∃ o,Zfs e=some o∧Zdl e o=some (tr (Zh.Kind e<1∨5<Zh.Kind e∨Blank e))∨(¬(1≤Zh.Kind e∧Zh.Kind e≤5)):=by
 refine ⟨Xv _ _ _,?_⟩
 unfold Zfs
 by_cases k1:Zh.Kind e=1
 ·rw [if_pos k1]
  refine ⟨_,.inl ⟨rfl,?_⟩⟩
  refine Vb (Zay e _ he) ?_
  rw [show Ztk (Zh.Ze7 e) (Zh.Ze7 (Zh.Kind e,Zh.Place e,Zh.Cell e,(0:Int),(0:Int),([]:List UInt8),(([]:List Int),([]:List Int),([]:List Int),([]:List Int),()),()))↔Zkv (Zh.Ze7 e) from Iff.rfl]
  unfold Blank
  simp only [k1]
  constructor
  ·rintro ⟨_,_,_,a,b,c,d⟩;exact .inr (.inr (.inl ⟨trivial,a,b,c,d⟩))
  ·intro h;grind
 rw [if_neg k1]
 by_cases k2:Zh.Kind e=2
 ·rw [if_pos k2]
  refine ⟨_,.inl ⟨rfl,?_⟩⟩
  refine Vb (Zay e _ he) ?_
  rw [show Ztk (Zh.Ze7 e) (Zh.Ze7 (Zh.Kind e,Zh.Place e,Zh.Cell e,(0:Int),(0:Int),Zh.Name e,(([]:List Int),([]:List Int),([]:List Int),([]:List Int),()),()))↔Zkv (Zh.Ze7 e) from Iff.rfl]
  unfold Blank
  simp only [k2]
  constructor
  ·rintro ⟨_,_,_,a,b,c,d⟩;exact .inr (.inr (.inr (.inl ⟨trivial,a,b,d⟩)))
  ·intro h;grind
 rw [if_neg k2]
 by_cases k4:Zh.Kind e=4
 ·rw [if_pos k4]
  refine ⟨_,.inl ⟨rfl,?_⟩⟩
  refine Vb (Zay e _ he) ?_
  rw [show Ztk (Zh.Ze7 e) (Zh.Ze7 (Zh.Kind e,Zh.Place e,(0:Int),Zh.Net e,Zh.Node e,([]:List UInt8),(([]:List Int),([]:List Int),([]:List Int),([]:List Int),()),()))↔Zkv (Zh.Ze7 e) from Iff.rfl]
  unfold Blank
  simp only [k4]
  constructor
  ·rintro ⟨_,_,a,_,_,c,d⟩;exact .inr (.inr (.inr (.inr (.inr (.inl ⟨trivial,a,c,d⟩)))))
  ·intro h;grind
 rw [if_neg k4]
 by_cases k5:Zh.Kind e=5
 ·rw [if_pos k5]
  refine ⟨_,.inl ⟨rfl,?_⟩⟩
  refine Vb (Zay e _ he) ?_
  rw [show Ztk (Zh.Ze7 e) (Zh.Ze7 (Zh.Kind e,(0:Int),(0:Int),Zh.Net e,(0:Int),([]:List UInt8),e.snd.snd.snd.snd.snd.snd))↔True from ⟨fun _=>trivial,fun _=>⟨rfl,rfl,rfl,rfl⟩⟩]
  unfold Blank
  simp only [k5]
  constructor
  ·rintro ⟨_,a,b,_,c,d,_⟩;exact .inr (.inr (.inr (.inr (.inr (.inr ⟨trivial,a,b,c,d⟩)))))
  ·intro h;grind
 rw [if_neg k5]
 by_cases k3:Zh.Kind e=3
 ·refine ⟨_,.inl ⟨rfl,?_⟩⟩
  refine Vb (Zay e _ he) ?_
  rw [show Ztk (Zh.Ze7 e) (Zh.Ze7 (Zh.Kind e,(0:Int),(0:Int),(0:Int),(0:Int),([]:List UInt8),(([]:List Int),([]:List Int),([]:List Int),([]:List Int),()),()))↔Zkv (Zh.Ze7 e) from Iff.rfl]
  unfold Blank
  simp only [k3]
  constructor
  ·rintro ⟨_,a,b,c,d,f,g⟩;exact .inr (.inr (.inr (.inr (.inl ⟨trivial,a,b,c,d,f,g⟩))))
  ·intro h;grind
 ·exact ⟨e,.inr (by omega)⟩
/-
  Plain laws: edits: range, possibility, code.
-/
def Zbf (b:Za) (e:Zh):Prop :=
 ((Zh.Kind e=1∨Zh.Kind e=2)→(0≤Zh.Place e∧Zh.Place e≤((places (Za.Design b)).length:Int)-1)∧(0≤Zh.Cell e∧Zh.Cell e≤((Zo.Cells (Za.Library b)).length:Int)-1))∧
 (Zh.Kind e=4→(0≤Zh.Place e∧Zh.Place e≤((places (Za.Design b)).length:Int)-1)∧ZaX (Za.Design b) (Zh.Net e)∧∃ w,(Za.Zz b)[(Zh.Net e).toNat]?=some w∧(0≤Zh.Node e∧Zh.Node e≤((Zr.Parent w).length:Int)-1))∧
 (Zh.Kind e=5→ZaX (Za.Design b) (Zh.Net e))
theorem Zlj {b:Za} (h:VJ b) {n:Int} (hn:ZaX (Za.Design b) n):∃ w,(Za.Zz b)[n.toNat]?=some w∧atI (Za.Zz b) n=some w∧Zbr w ((sinks (Za.Design b) n).length:Int):=by
 have hwn:=h.ok.2.1
 have hlt:n.toNat<(Za.Zz b).length:=by have:=hn.1;have:=hn.2;omega
 have hw:=List.getElem?_eq_getElem hlt
 refine ⟨_,hw,XI hn.1 hw,?_⟩
 have this:Zbr _ ((sinks (Za.Design b) ((n.toNat:Nat):Int)).length:Int):=h.ok.2.2 n.toNat _ hw
 rwa [show ((n.toNat:Nat):Int)=n by have:=hn.1;omega] at this
theorem ZpA {b:Za} (h:VJ b):(Zo.Cells (Za.Library b)).length≤1048576:=Zp (Zqk (JW h.sm).1)
theorem ZvU {b:Za} (h:VJ b) (e:Zh) {w:Zr} (hw:(Za.Zz b)[(Zh.Net e).toNat]?=some w):Wq (((Zr.Parent w).length:Int)-1)=((Zr.Parent w).length:Int)-1:=by
 have:=h.ok.2.2 _ _ hw
 have h1:=this.1
 rw [Jr (by omega) (by omega)]
theorem Zog {b:Za} (h:VJ b) (e:Zh) (he:sm XL e):Zfv b e=some (tr (Zbf b e)):=by
 have hD:=h.ok.1
 have hf:=hD.few
 have hpl:=YW hf
 have hc:=ZpA h
 have hwn:=h.ok.2.1
 have h30:=hD.2.1.2.1
 have e1:Wq (((places (Za.Design b)).length:Int)-1)=((places (Za.Design b)).length:Int)-1:=Jr (by omega) (by omega)
 have e2:Wq (((Zo.Cells (Za.Library b)).length:Int)-1)=((Zo.Cells (Za.Library b)).length:Int)-1:=Jr (by omega) (by omega)
 have e3:Wq (((Za.Zz b).length:Int)-1)=((Zb.ZI (Za.Design b)).length:Int)-1:=by rw [Jr (by omega) (by omega)];omega
 have net:(ZB (Zh.Net e) 0 (((Zb.ZI (Za.Design b)).length:Int)-1))=some (tr (ZaX (Za.Design b) (Zh.Net e))):=Qf _ _ _
 unfold Zfv
 rw [YT _ hf,Bq,e1,e2,e3]
 have pc:((ZB (Zh.Place e) 0 (((places (Za.Design b)).length:Int)-1)).bind fun x=>if x=true then (ZB (Zh.Cell e) 0 (((Zo.Cells (Za.Library b)).length:Int)-1)).bind fun y=>some y else some false) =
   some (tr ((0≤Zh.Place e∧Zh.Place e≤((places (Za.Design b)).length:Int)-1)∧(0≤Zh.Cell e∧Zh.Cell e≤((Zo.Cells (Za.Library b)).length:Int)-1))) :=
  YA (Qf _ _ _) fun _=>Jt (Qf _ _ _)
 have mv:((ZB (Zh.Place e) 0 (((places (Za.Design b)).length:Int)-1)).bind fun x=>if x=true then (ZB (Zh.Net e) 0 (((Zb.ZI (Za.Design b)).length:Int)-1)).bind fun y=>if y=true then
    (atI (Za.Zz b) (Zh.Net e)).bind fun w=>(ZB (Zh.Node e) 0 (Wq (((Zr.Parent w).length:Int)-1))).bind fun z=>some z else some false else some false) =
   some (tr ((0≤Zh.Place e∧Zh.Place e≤((places (Za.Design b)).length:Int)-1)∧ZaX (Za.Design b) (Zh.Net e)∧∃ w,(Za.Zz b)[(Zh.Net e).toNat]?=some w∧(0≤Zh.Node e∧Zh.Node e≤((Zr.Parent w).length:Int)-1))):=by
  refine YA (Qf _ _ _) fun _=>YA net fun hn=>?_
  obtain ⟨w,hw,ha,_⟩:=Zlj h hn
  rw [ha,Bq,ZvU h e hw]
  refine Vb (Jt (Qf _ _ _)) ⟨fun q=>⟨w,hw,q⟩,fun ⟨w',hw',q⟩=>?_⟩
  rw [hw] at hw'
  injection hw' with hw'
  subst hw';exact q
 by_cases k1:Zh.Kind e=1
 ·rw [if_pos k1,if_pos k1]
  refine Vb pc ?_
  unfold Zbf;grind
 rw [if_neg k1]
 by_cases k2:Zh.Kind e=2
 ·rw [if_pos k2]
  refine Vb pc ?_
  unfold Zbf;grind
 rw [if_neg k2]
 by_cases k4:Zh.Kind e=4
 ·rw [if_pos k4]
  refine Vb mv ?_
  unfold Zbf;grind
 rw [if_neg k4]
 by_cases k5:Zh.Kind e=5
 ·rw [if_pos k5]
  refine Vb (Jt net) ?_
  unfold Zbf;grind
 ·rw [if_neg k5]
  refine (Jw (P:=Zbf b e) ⟨fun _=>?_,fun _=>rfl⟩)
  unfold Zbf;grind
theorem Zm6 {b:Za} (h:VJ b) (e:Zh) (he:sm XL e):Zal e b=some (tr (Blank e∧Zbf b e)):=by
 have hD:=h.ok.1
 have hf:=hD.few
 have hpl:=YW hf
 have hc:=ZpA h
 have hsd:=(JW h.sm).2.1
 have e1:Wq (((places (Za.Design b)).length:Int)-1)=((places (Za.Design b)).length:Int)-1:=Jr (by omega) (by omega)
 have e2:Wq (((Zo.Cells (Za.Library b)).length:Int)-1)=((Zo.Cells (Za.Library b)).length:Int)-1:=Jr (by omega) (by omega)
 obtain ⟨hw,o,ho⟩:=Zx8 e he
 unfold Zal
 rw [hw,Bq]
 by_cases hk:1≤Zh.Kind e∧Zh.Kind e≤5
 ·rw [if_pos (Yb hk)]
  rcases ho with ⟨ho1,ho2⟩ | ho
  ·rw [ho1,Bq,ho2,Bq]
   by_cases hB:Blank e
   ·rw [if_pos (Yb (.inr (.inr hB))),Z4 _ hf,Bq,show Xp (places (Za.Design b))=some ((places (Za.Design b)).length:Int) from rfl,Bq,e1,Xv,Bq,
     show X3 (Zo.Cells (Za.Library b))=some ((Zo.Cells (Za.Library b)).length:Int) from rfl]
    simp only [Bq,e2]
    have net:=ZbZ (Za.Design b) (Zh.Net e) hsd
    have pc:(if tr (0≤Zh.Place e∧Zh.Place e≤((places (Za.Design b)).length:Int)-1)=true then (ZN (Zh.Cell e) 0 (((Zo.Cells (Za.Library b)).length:Int)-1)).bind fun y=>some y else some false) =
      some (tr ((0≤Zh.Place e∧Zh.Place e≤((places (Za.Design b)).length:Int)-1)∧(0≤Zh.Cell e∧Zh.Cell e≤((Zo.Cells (Za.Library b)).length:Int)-1))) :=
     ZBE (Jt (Xv _ _ _))
    by_cases k1:Zh.Kind e=1
    ·rw [if_pos k1,if_pos k1]
     refine Vb pc ?_
     unfold Zbf;grind
    rw [if_neg k1]
    by_cases k2:Zh.Kind e=2
    ·rw [if_pos k2]
     refine Vb pc ?_
     unfold Zbf;grind
    rw [if_neg k2]
    by_cases k4:Zh.Kind e=4
    ·rw [if_pos k4]
     have mv:(if tr (0≤Zh.Place e∧Zh.Place e≤((places (Za.Design b)).length:Int)-1)=true then (YU (Za.Design b) (Zh.Net e)).bind fun y=>if y=true then
        (atI (Za.Zz b) (Zh.Net e)).bind fun w=>(YV (Zr.Parent w)).bind fun n=>(ZN (Zh.Node e) 0 (Wq (n-1))).bind fun z=>some z else some false else some false) =
       some (tr ((0≤Zh.Place e∧Zh.Place e≤((places (Za.Design b)).length:Int)-1)∧ZaX (Za.Design b) (Zh.Net e)∧∃ w,(Za.Zz b)[(Zh.Net e).toNat]?=some w∧(0≤Zh.Node e∧Zh.Node e≤((Zr.Parent w).length:Int)-1))):=by
      by_cases hp:0≤Zh.Place e∧Zh.Place e≤((places (Za.Design b)).length:Int)-1
      ·rw [if_pos (Yb hp)]
       refine Vb (YA net fun hn=>?_) (P:=ZaX (Za.Design b) (Zh.Net e)∧∃ w,(Za.Zz b)[(Zh.Net e).toNat]?=some w∧(0≤Zh.Node e∧Zh.Node e≤((Zr.Parent w).length:Int)-1)) ⟨fun q=>⟨hp,q⟩,fun q=>q.2⟩
       obtain ⟨w,hw,ha,_⟩:=Zlj h hn
       rw [ha,Bq,Q6,Bq,ZvU h e hw]
       refine Vb (Jt (Xv _ _ _)) ⟨fun q=>⟨w,hw,q⟩,fun ⟨w',hw',q⟩=>?_⟩
       rw [hw] at hw'
       injection hw' with hw'
       subst hw';exact q
      ·rw [if_neg (fun q=>hp ((Y9 _).1 q)),ZQ (fun q=>hp q.1)]
     refine Vb mv ?_
     unfold Zbf;grind
    rw [if_neg k4]
    by_cases k5:Zh.Kind e=5
    ·rw [if_pos k5]
     refine Vb (Jt net) ?_
     unfold Zbf;grind
    ·rw [if_neg k5]
     refine (Jw (P:=Blank e∧Zbf b e) ⟨fun _=>⟨hB,?_⟩,fun _=>rfl⟩)
     unfold Zbf;grind
   ·rw [if_neg (fun q=>by rcases (Y9 _).1 q with q | q | q<;>first | omega | exact hB q),ZQ (fun q=>hB q.1)]
  ·exact absurd hk ho
 ·rw [if_neg (fun q=>hk ((Y9 _).1 q)),ZQ (fun q=>?_)]
  have:=q.1
  unfold Blank at this
  omega
theorem ZyO (a b:Zm) (ha:sm QL a):Ze8 a b=Jp a b∧∃ r,Jp a b=some r:=by
 have s1:(Zm.Yw a).length≤1048576:=by have:=(ZwE ha).pins.1;omega
 unfold Ze8 Jp Z6
 by_cases k:Zm.Kind a=Zm.Kind b
 ·rw [if_pos k,if_pos k]
  by_cases hl:((Zm.Yw a).length:Int)=((Zm.Yw b).length:Int)
  ·rw [if_pos hl,if_pos hl]
   rw [Qs (l:=Zm.Yw a) (show Len _ by unfold Len;omega) (fun k x=>∀ y,(Zm.Yw b)[k]?=some y→(YP.Clock x == YP.Clock y)=true) (bad:=false) (good:=true)
    (step:=fun v=>ZE (Zm.Yw a) (Zm.Yw b) v.1)
    (fun k x hx hk _=>by
     have hy:(Zm.Yw b)[k]?=some (Zm.Yw b)[k]:=List.getElem?_eq_getElem (by omega)
     simp only [ZE,ZeR,show (k:Int)<((Zm.Yw a).length:Int) from by omega,if_true,Zu,hx,hy,Bq,Option.some.injEq,forall_eq']
     constructor
     ·intro hh;rw [if_pos hh]
     ·intro hh;rw [if_neg hh])
    (fun _=>by simp only [ZE,Int.lt_irrefl,if_false]),
    Qs (l:=Zm.Yw a) (show Len _ by unfold Len;omega) (fun k x=>∀ y,(Zm.Yw b)[k]?=some y→(YP.Clock x == YP.Clock y)=true) (bad:=false) (good:=true)
    (step:=fun v=>Zan a b v.1)
    (fun k x hx hk _=>by
     have hy:(Zm.Yw b)[k]?=some (Zm.Yw b)[k]:=List.getElem?_eq_getElem (by omega)
     simp only [Zan,show (k:Int)<((Zm.Yw a).length:Int) from by omega,if_true,Zu,hx,hy,Bq,Option.some.injEq,forall_eq']
     constructor
     ·intro hh;rw [if_pos hh]
     ·intro hh;rw [if_neg hh])
    (fun _=>by simp only [Zan,Int.lt_irrefl,if_false])]
   exact ⟨rfl,_,rfl⟩
  ·rw [if_neg hl,if_neg hl]
   exact ⟨rfl,_,rfl⟩
 ·rw [if_neg k,if_neg k]
  exact ⟨rfl,_,rfl⟩
theorem ZnK (d:Zb) (s:List UInt8) (hd:sm YG d):Za8 d s=some (Za6 (fun x=>decide (Ze.Name x=s)) (Zb.Instances d))∧Za9 d s=some (Za6 (fun x=>decide (Ze.Name x=s)) (Zb.Instances d)):=by
 have hl:=YL (Za4 hd).1
 constructor
 ·unfold Za8
  rw [XA hl (fun x=>decide (Ze.Name x=s)) (fun x _=>rfl),Bq]
 ·unfold Za9
  refine V8 hl (out:=fun i=>i) (fun k x hx=>?_) ?_
  ·have hk:=(List.getElem?_eq_some_iff.1 hx).1
   simp only [J7,show (k:Int)<((Zb.Instances d).length:Int) from by omega,if_true,Zu,hx,Bq,decide_eq_true_eq]
   split<;>rfl
  ·simp only [J7,Int.lt_irrefl,if_false]
theorem ZoW (d:Zb) (s:List UInt8) (hd:sm YG d):Jz d s=some (Za6 (fun x=>decide (s=x)) (Zb.ZI d))∧Zff d s=some (Za6 (fun x=>decide (s=x)) (Zb.ZI d)):=by
 have hl:=YL (Za4 hd).2.2
 constructor
 ·unfold Jz
  rw [ZeL hl,Bq]
 ·unfold Zff ZhV
  rw [V8 hl (p:=fun x=>decide (s=x)) (out:=fun i=>i) (fun k x hx=>by
   have hk:=(List.getElem?_eq_some_iff.1 hx).1
   simp only [ZcQ,show (k:Int)<((Zb.ZI d).length:Int) from by omega,if_true,Zu,hx,Bq,decide_eq_true_eq]
   by_cases hq:s=x
   ·rw [if_pos hq,if_pos hq.symm]
   ·rw [if_neg hq,if_neg (fun q=>hq q.symm)]) (by simp only [ZcQ,Int.lt_irrefl,if_false]),Bq]
/-
  Plain laws: edits: what is possible, the code of an edit, places after one.
-/
def Zl0 (b:Za):Prop:=∃ (x:Ze) (c:Zm) (w:Zr) (m:Int),
 0<(Zb.Instances (Za.Design b)).length∧(Zb.Instances (Za.Design b))[(Zb.Instances (Za.Design b)).length-1]?=some x∧
 (Zo.Cells (Za.Library b))[(Ze.Cell x).toNat]?=some c∧Zm.Kind c=1∧(Zm.Yw c).length=2∧
 (Ze.ZI x).length=2∧atI (Ze.ZI x) 0=some m∧atI (Ze.ZI x) 1=some (((Zb.ZI (Za.Design b)).length:Int)-1)∧m≠((Zb.ZI (Za.Design b)).length:Int)-1∧
 atI (Zb.ZI (Za.Design b)) (((Zb.ZI (Za.Design b)).length:Int)-1)=some (Ze.Name x)∧
 atI (Za.Zz b) (((Zb.ZI (Za.Design b)).length:Int)-1)=some w∧(Zr.Ze6 w).length=1∧(sinks (Za.Design b) (((Zb.ZI (Za.Design b)).length:Int)-1)).length=1∧(Zr.Parent w).length=1∧atI (Zr.Cap w) 0=some 0
theorem Zy8 {b:Za} (h:VJ b):∃ r,VO b=some r∧ZgC b=some r∧
  (r=true→Zl0 b):=by
 have hD:=h.ok.1
 have hf:=hD.few
 have h14:=hf.insts
 have h30:=hD.2.1.2.1
 have hwn:=h.ok.2.1
 unfold VO ZgC
 by_cases hn:((Zb.Instances (Za.Design b)).length:Int)=0
 ·rw [if_pos hn,hn,Jr (by omega) (by omega),if_pos (by omega)]
  exact ⟨false,rfl,rfl,fun h=>by cases h⟩
 rw [if_neg hn,Jr (n:=((Zb.Instances (Za.Design b)).length:Int)-1) (by omega) (by omega),if_neg (by omega)]
 have hlt:(Zb.Instances (Za.Design b)).length-1<(Zb.Instances (Za.Design b)).length:=by omega
 have hx:=List.getElem?_eq_getElem hlt
 generalize (Zb.Instances (Za.Design b))[(Zb.Instances (Za.Design b)).length-1]=x at hx
 have hx2:atI (Zb.Instances (Za.Design b)) (((Zb.Instances (Za.Design b)).length:Int)-1)=some x:=XI (by omega) (by rw [←hx];congr 1;omega)
 obtain ⟨⟨c0,c1⟩,⟨c,hc,hnp⟩,hnet⟩:=hD.2.2.1 x (List.mem_of_getElem? hx)
 have hc2:atI (Zo.Cells (Za.Library b)) (Ze.Cell x)=some c:=XI c0 hc
 rw [hx2]
 simp only [Bq,hc2,show Xr (Zb.ZI (Za.Design b))=some ((Zb.ZI (Za.Design b)).length:Int) from rfl]
 rw [show Zcg c=Vl c from rfl]
 have hbuf:Vl c=some (tr (Zm.Kind c=1∧(Zm.Yw c).length=2)):=by
  unfold Vl
  refine Vb (Yv fun _=>Jw decide_eq_true_iff) ?_
  omega
 rw [hbuf,Bq,Bq]
 by_cases hb:Zm.Kind c=1∧(Zm.Yw c).length=2
 ·rw [if_pos (Yb hb),if_pos (Yb hb)]
  have hl2:(Ze.ZI x).length=2:=by rw [hnp];exact hb.2
  have n0:atI (Ze.ZI x) 0=some ((Ze.ZI x)[0]'(by omega)):=List.getElem?_eq_getElem (by omega)
  have n1:atI (Ze.ZI x) 1=some ((Ze.ZI x)[1]'(by omega)):=List.getElem?_eq_getElem (by omega)
  have hn1:=hnet ((Ze.ZI x)[1]'(by omega)) (List.getElem_mem _)
  have hpos:1≤(Zb.ZI (Za.Design b)).length:=by have:=hn1.1;have:=hn1.2;omega
  generalize (Ze.ZI x)[1]'(by omega)=m1 at n1 hn1
  generalize (Ze.ZI x)[0]'(by omega)=m0 at n0
  have eL:Wq (((Zb.ZI (Za.Design b)).length:Int)-1)=((Zb.ZI (Za.Design b)).length:Int)-1:=Jr (by omega) (by omega)
  have eW:Wq (((Za.Zz b).length:Int)-1)=((Zb.ZI (Za.Design b)).length:Int)-1:=by rw [Jr (by omega) (by omega)];omega
  have hL:ZaX (Za.Design b) (((Zb.ZI (Za.Design b)).length:Int)-1):=⟨by omega,by omega⟩
  obtain ⟨w,hw1,hw2,hw3⟩:=Zlj h hL
  have nL:atI (Zb.ZI (Za.Design b)) (((Zb.ZI (Za.Design b)).length:Int)-1)=some ((Zb.ZI (Za.Design b))[(Zb.ZI (Za.Design b)).length-1]'(by omega)):=XI (by omega) (by
   rw [List.getElem?_eq_getElem (by omega)]
   congr 2
   omega)
  generalize (Zb.ZI (Za.Design b))[(Zb.ZI (Za.Design b)).length-1]'(by omega)=nm at nL
  have hcap:atI (Zr.Cap w) 0=some ((Zr.Cap w)[0]'(by have:=hw3.1;have:=hw3.2.2.1;omega)):=List.getElem?_eq_getElem (by have:=hw3.1;have:=hw3.2.2.1;omega)
  generalize (Zr.Cap w)[0]'(by have:=hw3.1;have:=hw3.2.2.1;omega)=cp at hcap
  have hsk:=hw3.2.2.2.1
  simp only [eL,eW,n0,n1,nL,hw2,Bq,Q5 _ _ hf,Zjd,hcap]
  rw [←hsk]
  by_cases q1:m1=((Zb.ZI (Za.Design b)).length:Int)-1
  ·rw [if_pos q1,if_pos q1]
   by_cases q2:m0=((Zb.ZI (Za.Design b)).length:Int)-1
   ·rw [if_pos q2]
    by_cases q3:nm=Ze.Name x
    ·rw [if_pos q3]
     simp only [if_pos q2]
     exact ⟨_,rfl,rfl,fun q=>by cases q⟩
    ·rw [if_neg q3]
     exact ⟨_,rfl,rfl,fun q=>by cases q⟩
   ·rw [if_neg q2]
    by_cases q3:nm=Ze.Name x
    ·rw [if_pos q3,if_pos q3]
     simp only [if_neg q2]
     by_cases q4:((Zr.Ze6 w).length:Int)=1
     ·rw [if_pos q4,if_pos q4]
      by_cases q5:((Zr.Parent w).length:Int)=1
      ·simp only [if_pos q5]
       refine ⟨_,rfl,rfl,fun q=>?_⟩
       have q6:=of_decide_eq_true q
       subst q1 q6
       exact ⟨x,c,w,m0,by omega,hx,hc,hb.1,hb.2,hl2,n0,n1,q2,by rw [nL,q3],hw2,by omega,by omega,by omega,hcap⟩
      ·simp only [if_neg q5]
       exact ⟨_,rfl,rfl,fun q=>by cases q⟩
     ·rw [if_neg q4,if_neg q4]
      exact ⟨_,rfl,rfl,fun q=>by cases q⟩
    ·rw [if_neg q3,if_neg q3]
     exact ⟨_,rfl,rfl,fun q=>by cases q⟩
  ·rw [if_neg q1,if_neg q1]
   exact ⟨_,rfl,rfl,fun q=>by cases q⟩
 ·rw [if_neg (fun q=>hb ((Y9 _).1 q)),if_neg (fun q=>hb ((Y9 _).1 q))]
  exact ⟨false,rfl,rfl,fun h=>by cases h⟩
theorem ZtQ {b:Za} (h:VJ b) {i:Int} (h0:0≤i) (h1:i≤((Zo.Cells (Za.Library b)).length:Int)-1):∃ c,atI (Zo.Cells (Za.Library b)) i=some c∧sm QL c:=by
 have hlt:i.toNat<(Zo.Cells (Za.Library b)).length:=by omega
 have hc:=List.getElem?_eq_getElem hlt
 exact ⟨_,XI h0 hc,QV (Zqk (JW h.sm).1) hc⟩
theorem Zsd {b:Za} (h:VJ b) {i:Int} (h0:0≤i) (h1:i≤((places (Za.Design b)).length:Int)-1):∃ p,atI (places (Za.Design b)) i=some p∧p∈places (Za.Design b):=by
 have hlt:i.toNat<(places (Za.Design b)).length:=by omega
 have hc:=List.getElem?_eq_getElem hlt
 exact ⟨_,XI h0 hc,List.getElem_mem _⟩
theorem Zvm {d:Zb} {p:Pl} (hp:p∈places d) (h0:0≤p.1):∃ x,(Zb.Instances d)[p.1.toNat]?=some x∧x∈Zb.Instances d:=by
 unfold places at hp
 rcases List.mem_append.1 hp with hp | hp
 ·obtain ⟨i,z,hi,hz⟩:=Zb3.1 hp
  unfold Y8 at hz
  obtain ⟨j,n,hj,hn⟩:=Zb3.1 hz
  simp only [List.mem_singleton] at hn
  subst hn
  refine ⟨z,?_,List.mem_of_getElem? hi⟩
  show (Zb.Instances d)[(((0+i:Nat):Int)).toNat]?=some z
  rw [show (((0+i:Nat):Int)).toNat=i by omega]
  exact hi
 ·obtain ⟨j,q,hj,hq⟩:=Zb3.1 hp
  simp only [ZbU,List.mem_singleton] at hq
  subst hq
  have h0:(0:Int)≤-1:=h0
  omega
theorem Zl0.two {b:Za} (h:Zl0 b):0<(Zb.Instances (Za.Design b)).length∧∃ x,(Zb.Instances (Za.Design b))[(Zb.Instances (Za.Design b)).length-1]?=some x∧(Ze.ZI x).length=2:=by
 obtain ⟨x,c,w,m,h1,h2,_,_,_,h3,_⟩:=h
 exact ⟨h1,x,h2,h3⟩
def ZfO (b:Za) (e:Zh) (p:Pl):Prop:=0≤Zh.Place e∧(places (Za.Design b))[(Zh.Place e).toNat]?=some p
theorem Zrj {b:Za} {e:Zh} {p:Pl} (h0:0≤Zh.Place e) (hp:atI (places (Za.Design b)) (Zh.Place e)=some p):ZfO b e p:=by
 refine ⟨h0,?_⟩
 rw [show Zh.Place e=(((Zh.Place e).toNat:Nat):Int) by omega,Zu] at hp
 exact hp
theorem ZfO.mem {b:Za} {e:Zh} {p:Pl} (h:ZfO b e p):p∈places (Za.Design b):=List.mem_of_getElem? h.2
theorem ZfO.at {b:Za} {e:Zh} {p:Pl} (h:ZfO b e p):atI (places (Za.Design b)) (Zh.Place e)=some p:=XI h.1 h.2
def Zzn (b:Za) (e:Zh):Prop :=
 (Zh.Kind e=1→∃ (p:Pl) (x:Ze) (c c2:Zm),ZfO b e p∧0≤p.1∧p.2.2.2.1=true∧atI (Zb.Instances (Za.Design b)) p.1=some x∧atI (Zo.Cells (Za.Library b)) (Ze.Cell x)=some c∧atI (Zo.Cells (Za.Library b)) (Zh.Cell e)=some c2∧Jp c c2=some true)∧
 (Zh.Kind e=2→∃ (p:Pl) (c:Zm),ZfO b e p∧p.2.2.2.1=false∧atI (Zo.Cells (Za.Library b)) (Zh.Cell e)=some c∧Zm.Kind c=1∧(Zm.Yw c).length=2∧VW (Zh.Name e)=true∧
  Za6 (fun x=>decide (Ze.Name x=Zh.Name e)) (Zb.Instances (Za.Design b))<0∧Za6 (fun x=>decide (Zh.Name e=x)) (Zb.ZI (Za.Design b))<0)∧
 (Zh.Kind e=3→Zl0 b)∧
 (Zh.Kind e=4→∃ p:Pl,ZfO b e p∧p.2.2.2.1=false∧p.2.2.1≠Zh.Net e)∧
 (Zh.Kind e=5→Zbr (Zh.Ze7 e) ((sinks (Za.Design b) (Zh.Net e)).length:Int))
theorem ZtG {b:Za} (h:VJ b) (e:Zh) (he:sm XL e) (hB:Blank e) (hR:Zbf b e):∃ r,JE e b=some r∧Zfg b e=some r∧
  (r=true→Zzn b e):=by
 have hD:=h.ok.1
 have hf:=hD.few
 have hsd:=(JW h.sm).2.1
 obtain ⟨he1,he2⟩:=Zs8 he
 unfold JE Zfg
 rw [Z4 _ hf,YT _ hf,Bq,Bq]
 by_cases k1:Zh.Kind e=1
 ·rw [if_pos k1,if_pos k1]
  obtain ⟨⟨p0,p1⟩,c0,c1⟩:=hR.1 (.inl k1)
  obtain ⟨p,hp,hpm⟩:=Zsd h p0 p1
  obtain ⟨c2,hc2,hc2s⟩:=ZtQ h c0 c1
  rw [hp]
  simp only [Bq,hc2]
  by_cases q1:(0:Int)≤p.1
  ·rw [if_pos q1,if_pos q1]
   by_cases q2:p.2.2.2.1=true
   ·rw [if_pos q2,if_pos q2]
    obtain ⟨x,hx,hxm⟩:=Zvm hpm q1
    have hx2:atI (Zb.Instances (Za.Design b)) p.1=some x:=XI q1 hx
    obtain ⟨⟨d0,d1⟩,_,_⟩:=hD.2.2.1 x hxm
    obtain ⟨c,hc,hcs⟩:=ZtQ h d0 d1
    obtain ⟨a1,r,a2⟩:=ZyO c c2 hcs
    have e1:ZL.instance p=p.1:=rfl
    have e2:ZF.instance p=p.1:=rfl
    simp only [e1,e2,hx2,Bq,hc,a1,a2]
    exact ⟨r,rfl,rfl,fun q=>⟨fun _=>⟨p,x,c,c2,Zrj p0 hp,q1,q2,hx2,hc,hc2,by rw [a2,q]⟩,fun k=>by omega,fun k=>by omega,fun k=>by omega,fun k=>by omega⟩⟩
   ·rw [if_neg q2,if_neg q2]
    exact ⟨_,rfl,rfl,fun q=>by cases q⟩
  ·rw [if_neg q1,if_neg q1]
   exact ⟨_,rfl,rfl,fun q=>by cases q⟩
 rw [if_neg k1,if_neg k1]
 by_cases k2:Zh.Kind e=2
 ·rw [if_pos k2,if_pos k2]
  obtain ⟨⟨p0,p1⟩,c0,c1⟩:=hR.1 (.inr k2)
  obtain ⟨p,hp,hpm⟩:=Zsd h p0 p1
  obtain ⟨c2,hc2,hc2s⟩:=ZtQ h c0 c1
  have hbuf:Vl c2=some (tr (Zm.Kind c2=1∧(Zm.Yw c2).length=2)):=by
   unfold Vl
   refine Vb (Yv fun _=>Jw decide_eq_true_iff) ?_
   omega
  have hlN:(Zh.Name e).length≤4611686018427387904:=by have:((Zh.Name e).length:Int)≤1048576:=he1;omega
  rw [hp]
  simp only [Bq,hc2,show Zcg c2=Vl c2 from rfl,hbuf,Zej,JL _ hlN,(ZnK _ (Zh.Name e) hsd).1,(ZnK _ (Zh.Name e) hsd).2,(ZoW _ (Zh.Name e) hsd).1,(ZoW _ (Zh.Name e) hsd).2]
  have e1:ZL.drives p=p.2.2.2.1:=rfl
  have e2:ZF.drives p=p.2.2.2.1:=rfl
  rw [e1,e2]
  by_cases q2:p.2.2.2.1=true
  ·simp only [if_pos q2]
   exact ⟨_,rfl,rfl,fun q=>by cases q⟩
  simp only [if_neg q2]
  by_cases q3:tr (Zm.Kind c2=1∧(Zm.Yw c2).length=2)=true
  ·simp only [if_pos q3]
   by_cases q4:VW (Zh.Name e)=true
   ·simp only [if_pos q4]
    split
    ·rename_i q5
     refine ⟨_,rfl,rfl,fun q=>⟨fun k=>by omega,fun _=>⟨p,c2,Zrj p0 hp,by simpa using q2,hc2,((Y9 _).1 q3).1,((Y9 _).1 q3).2,q4,q5,of_decide_eq_true q⟩,fun k=>by omega,fun k=>by omega,fun k=>by omega⟩⟩
    ·exact ⟨_,rfl,rfl,fun q=>by cases q⟩
   ·simp only [if_neg q4]
    exact ⟨_,rfl,rfl,fun q=>by cases q⟩
  ·simp only [if_neg q3]
   exact ⟨_,rfl,rfl,fun q=>by cases q⟩
 rw [if_neg k2,if_neg k2]
 by_cases k3:Zh.Kind e=3
 ·rw [if_pos k3,if_pos k3]
  obtain ⟨r,a,c,d⟩:=Zy8 h
  rw [a,c]
  exact ⟨r,rfl,rfl,fun q=>⟨fun k=>by omega,fun k=>by omega,fun _=>d q,fun k=>by omega,fun k=>by omega⟩⟩
 rw [if_neg k3,if_neg k3]
 by_cases k4:Zh.Kind e=4
 ·rw [if_pos k4,if_pos k4]
  obtain ⟨⟨p0,p1⟩,_⟩:=hR.2.1 k4
  obtain ⟨p,hp,hpm⟩:=Zsd h p0 p1
  rw [hp]
  simp only [Bq]
  have e1:ZL.drives p=p.2.2.2.1:=rfl
  have e2:ZF.drives p=p.2.2.2.1:=rfl
  rw [e1,e2]
  by_cases q2:p.2.2.2.1=true
  ·simp only [if_pos q2]
   exact ⟨_,rfl,rfl,fun q=>by cases q⟩
  ·simp only [if_neg q2]
   refine ⟨_,rfl,rfl,fun q=>⟨fun k=>by omega,fun k=>by omega,fun k=>by omega,fun _=>⟨p,Zrj p0 hp,by simpa using q2,by simp only [Bool.not_eq_true',decide_eq_false_iff_not] at q;exact q⟩,fun k=>by omega⟩⟩
 rw [if_neg k4,if_neg k4]
 have k5:Zh.Kind e=5:=by unfold Blank at hB;omega
 obtain ⟨w,hw1,hw2,hw3⟩:=Zlj h (hR.2.2 k5)
 rw [hw2,Q5 _ _ hf]
 simp only [Bq,Q6,Zkb _ _ he2,Zkr _ _ he2,hw3.2.2.2.1]
 exact ⟨_,rfl,rfl,fun q=>⟨fun k=>by omega,fun k=>by omega,fun k=>by omega,fun k=>by omega,fun _=>(Y9 _).1 q⟩⟩
structure Znn (b:Za) (e:Zh):Prop where
 blk:VJ b
 blank:Blank e
 range:Zbf b e
 poss:Zzn b e
 lim:Zh.Kind e=2→(Zb.Instances (Za.Design b)).length≤13∧(Zb.ZI (Za.Design b)).length≤29
theorem Znn.last {b:Za} {e:Zh} (h:Znn b e) (k3:Zh.Kind e=3):0<(Zb.Instances (Za.Design b)).length∧∃ x,(Zb.Instances (Za.Design b))[(Zb.Instances (Za.Design b)).length-1]?=some x∧(Ze.ZI x).length=2:=(h.poss.2.2.1 k3).two
theorem ZnE {b:Za} (h:VJ b) (e:Zh) (he:sm XL e):∃ c,Zce e b=some c∧ZbP b e=some c∧(c=0→Znn b e):=by
 have hB:=h.ok
 unfold ZbP Zce
 rw [Zf2 b h.sm,Bq,if_pos (Yb hB)]
 ·have hwn:=hB.2.1
  rw [Zm6 h e he,Zoi e he,Zog h e he]
  simp only [Bq]
  by_cases h1:Blank e
  ·rw [if_pos (Yb h1)]
   by_cases h2:Zbf b e
   ·rw [if_pos (Yb ⟨h1,h2⟩),if_pos (Yb h2)]
    obtain ⟨r,a,c,d⟩:=ZtG h e he h1 h2
    rw [a,c]
    simp only [Bq]
    by_cases hr:r=true
    ·rw [if_pos hr,if_pos hr]
     have h14:=hB.1.few.insts
     have h30:=hB.1.2.1.2.1
     by_cases k2:Zh.Kind e=2
     ·rw [if_pos k2,if_pos k2]
      by_cases q1:((Zb.Instances (Za.Design b)).length:Int)=14
      ·rw [if_pos q1,if_pos q1]
       exact ⟨_,rfl,rfl,fun q=>by cases q⟩
      ·rw [if_neg q1,if_neg q1]
       by_cases q2:((Zb.ZI (Za.Design b)).length:Int)=30
       ·rw [if_pos q2,if_pos (by omega)]
        exact ⟨_,rfl,rfl,fun q=>by cases q⟩
       ·rw [if_neg q2,if_neg (by omega)]
        exact ⟨_,rfl,rfl,fun _=>⟨h,h1,h2,d hr,fun _=>⟨by omega,by omega⟩⟩⟩
     ·rw [if_neg k2,if_neg k2]
      exact ⟨_,rfl,rfl,fun _=>⟨h,h1,h2,d hr,fun k=>absurd k k2⟩⟩
    ·rw [if_neg hr,if_neg hr]
     exact ⟨_,rfl,rfl,fun q=>by cases q⟩
   ·rw [if_neg (fun q=>h2 ((Y9 _).1 q).2),if_neg (fun q=>h2 ((Y9 _).1 q))]
    exact ⟨_,rfl,rfl,fun q=>by cases q⟩
  ·rw [if_neg (fun q=>h1 ((Y9 _).1 q).1),if_neg (fun q=>h1 ((Y9 _).1 q))]
   exact ⟨_,rfl,rfl,fun q=>by cases q⟩
/-
  Plain laws: the code of an edit of any block.
-/
/-
  Plain laws: places after an edit; the law FnExactPlacesAfter.
-/
theorem Zou:∀ (l:List ZR) (m:Nat),(cat ZbU m l).length=l.length
 | [],_=>rfl
 | x::r,m=>by simp only [cat,List.length_append,ZbU,List.length_nil,Zou r,List.length_cons];omega
theorem ZrU {i:Nat} {x:Ze} {p:Pl} (hp:p∈Y8 i x):p.1=(i:Int):=by
 unfold Y8 at hp
 obtain ⟨j,n,hj,hn⟩:=Zb3.1 hp
 simp only [List.mem_singleton] at hn
 subst hn;rfl
theorem Zyg (i:Nat) (x:Ze):(Y8 i x).length=(Ze.ZI x).length:=by
 have:∀ (l:List Int) (m:Nat) (c:Int),(cat (fun j n=>[((i:Int),(j:Int),n,decide ((j:Int)=c),())]) m l).length=l.length:=by
  intro l
  induction l with
  | nil=>intro m c;rfl
  | cons y r ih=>intro m c;simp only [cat,List.length_append,List.length_nil,ih,List.length_cons];omega
 unfold Y8
 exact this _ _ _
theorem ZmQ {d:Zb} {k:Nat} {p:Pl} (hp:(places d)[k]?=some p):(p.1<0↔(places d).length≤k+(Zb.ZG d).length)∧-1≤p.1:=by
 have hl:(places d).length=(cat Y8 0 (Zb.Instances d)).length+(Zb.ZG d).length:=by unfold places;rw [List.length_append,Zou]
 by_cases hk:k<(cat Y8 0 (Zb.Instances d)).length
 ·have h1:p∈cat Y8 0 (Zb.Instances d):=by
   unfold places at hp
   rw [List.getElem?_append_left hk] at hp
   exact List.mem_of_getElem? hp
  obtain ⟨i,z,hi,hz⟩:=Zb3.1 h1
  have:=ZrU hz
  omega
 ·have h1:p∈cat ZbU 0 (Zb.ZG d):=by
   unfold places at hp
   rw [List.getElem?_append_right (by omega)] at hp
   exact List.mem_of_getElem? hp
  obtain ⟨j,q,hj,hq⟩:=Zb3.1 h1
  simp only [ZbU,List.mem_singleton] at hq
  subst hq
  simp only
  omega
theorem Zve {d:Zb} {x:Ze} (hn:0<(Zb.Instances d).length) (hx:(Zb.Instances d)[(Zb.Instances d).length-1]?=some x) {k:Nat} {p:Pl} (hp:(places d)[k]?=some p) (h0:0≤p.1) :
  p.1=((Zb.Instances d).length:Int)-1↔(places d).length≤k+(Zb.ZG d).length+(Ze.ZI x).length:=by
 have hl:(places d).length=(cat Y8 0 (Zb.Instances d)).length+(Zb.ZG d).length:=by unfold places;rw [List.length_append,Zou]
 have hs:cat Y8 0 (Zb.Instances d)=cat Y8 0 ((Zb.Instances d).take ((Zb.Instances d).length-1))++Y8 ((Zb.Instances d).length-1) x:=by
  rw [←ZgU hx,show (Zb.Instances d).length-1+1=(Zb.Instances d).length by omega,List.take_length]
 have hsl:=congrArg List.length hs
 rw [List.length_append,Zyg] at hsl
 have hk:k<(cat Y8 0 (Zb.Instances d)).length:=by
  have:=(ZmQ hp).1
  omega
 have h1:(cat Y8 0 (Zb.Instances d))[k]?=some p:=by
  unfold places at hp
  rwa [List.getElem?_append_left hk] at hp
 rw [hs] at h1
 by_cases hk2:k<(cat Y8 0 ((Zb.Instances d).take ((Zb.Instances d).length-1))).length
 ·rw [List.getElem?_append_left hk2] at h1
  obtain ⟨i,z,hi,hz⟩:=Zb3.1 (List.mem_of_getElem? h1)
  have e:=ZrU hz
  have hil:=(List.getElem?_eq_some_iff.1 hi).1
  rw [List.length_take] at hil
  omega
 ·rw [List.getElem?_append_right (by omega)] at h1
  have e:=ZrU (List.mem_of_getElem? h1)
  omega
noncomputable def Zta (b:Za) (e:Zh) (k:Nat) (p:Pl):Int :=
 if Zh.Kind e=2∧p.1<0 then (k:Int)+2
 else if Zh.Kind e=3∧p.1<0 then (k:Int)-2
 else if Zh.Kind e=3∧p.1=((Zb.Instances (Za.Design b)).length:Int)-1 then -1
 else (k:Int)
theorem Zzu {b:Za} {e:Zh} {k:Nat} {p:Pl} (k2:Zh.Kind e=2) (q1:p.1<0):Zta b e k p=(k:Int)+2:=by unfold Zta;rw [if_pos ⟨k2,q1⟩]
theorem Zzp {b:Za} {e:Zh} {k:Nat} {p:Pl} (k3:Zh.Kind e=3) (q1:p.1<0):Zta b e k p=(k:Int)-2:=by unfold Zta;rw [if_neg (fun q=>by have:=q.1;omega),if_pos ⟨k3,q1⟩]
theorem ZzD {b:Za} {e:Zh} {k:Nat} {p:Pl} (k3:Zh.Kind e=3) (q1:¬p.1<0) (q2:p.1=((Zb.Instances (Za.Design b)).length:Int)-1):Zta b e k p=-1:=by unfold Zta;rw [if_neg (fun q=>q1 q.2),if_neg (fun q=>q1 q.2),if_pos ⟨k3,q2⟩]
theorem Zzr {b:Za} {e:Zh} {k:Nat} {p:Pl} (k3:Zh.Kind e=3) (q1:¬p.1<0) (q2:¬p.1=((Zb.Instances (Za.Design b)).length:Int)-1):Zta b e k p=(k:Int):=by unfold Zta;rw [if_neg (fun q=>q1 q.2),if_neg (fun q=>q1 q.2),if_neg (fun q=>q2 q.2)]
theorem ZuW {b:Za} {e:Zh} {k:Nat} {p:Pl} (k3:¬Zh.Kind e=3) (q1:¬(Zh.Kind e=2∧p.1<0)):Zta b e k p=(k:Int):=by unfold Zta;rw [if_neg q1,if_neg (fun q=>k3 q.1),if_neg (fun q=>k3 q.1)]
noncomputable def after (b:Za) (e:Zh):List Int:=cat (fun k p=>[Zta b e k p]) 0 (places (Za.Design b))
theorem Zoq {α β:Type} {g:Nat→α→β}:∀ (l:List α) (m:Nat),(cat (fun j n=>[g j n]) m l).length=l.length
 | [],_=>rfl
 | x::r,m=>by simp only [cat,List.length_append,List.length_nil,Zoq r,List.length_cons];omega
theorem ZkT {b:Za} {e:Zh} (h:Znn b e):Jf e b=some (after b e):=by
 have hD:=h.blk.ok.1
 have hf:=hD.few
 have hpl:=YW hf
 have h14:=hf.insts
 unfold Jf
 rw [show XQ (Zb.Instances (Za.Design b))=some ((Zb.Instances (Za.Design b)).length:Int) from rfl,Z4 _ hf,Bq,Bq]
 have:=ZaL (l:=places (Za.Design b)) (ρ:=List Int) (fun k p=>[Zta b e k p]) [] (step:=fun v=>Qm e ((Zb.Instances (Za.Design b)).length:Int) (places (Za.Design b)) v.1 v.2.1) (good:=after b e)
  (fun k p hp hk=>by
   have hl:=Zoq (g:=Zta b e) ((places (Za.Design b)).take k) 0
   rw [List.length_take] at hl
   have hpp:=ZmQ hp
   have hg:∀ n:Int,(([]++cat (fun k p=>[Zta b e k p]) 0 ((places (Za.Design b)).take k)).length+[n].length)*8≤140737488355328:=fun n=>by
    rw [List.nil_append,List.length_singleton,hl];omega
   simp only [Qm,show (k:Int)<((places (Za.Design b)).length:Int) from by omega,if_true,Zu,hp,Bq,Zi (hg _),Xx (show k≤1048576 by omega),Jr (show (-9223372036854775808:Int)≤(k:Int)+2 by omega) (by omega),Jr (show (-9223372036854775808:Int)≤(k:Int)-2 by omega) (by omega),Jr (show (-9223372036854775808:Int)≤((Zb.Instances (Za.Design b)).length:Int)-1 by omega) (by omega),ZL.instance]
   by_cases k2:Zh.Kind e=2
   ·have k3:¬Zh.Kind e=3:=by omega
    by_cases q1:p.1<0
    ·rw [Zzu k2 q1,if_pos k2,if_pos q1]
    ·rw [ZuW k3 (fun q=>q1 q.2),if_pos k2,if_neg q1,if_neg k3,if_neg k3]
   ·rw [if_neg k2]
    by_cases k3:Zh.Kind e=3
    ·by_cases q1:p.1<0
     ·rw [Zzp k3 q1,if_pos k3,if_pos q1]
     ·by_cases q2:p.1=((Zb.Instances (Za.Design b)).length:Int)-1
      ·rw [ZzD k3 q1 q2,if_pos k3,if_neg q1,if_pos k3,if_pos q2]
      ·rw [Zzr k3 q1 q2,if_pos k3,if_neg q1,if_pos k3,if_neg q2]
    ·rw [ZuW k3 (fun q=>k2 q.1),if_neg k3,if_neg k3])
  (by simp only [Qm,Int.lt_irrefl,if_false];rfl)
 exact this
theorem Znm {b:Za} {e:Zh} (h:Znn b e):Zea b e=some (after b e):=by
 have hD:=h.blk.ok.1
 have hf:=hD.few
 have hpl:=YW hf
 have h14:=hf.insts
 have h8:=hf.ports
 have hle:(Zb.ZG (Za.Design b)).length≤(places (Za.Design b)).length:=by unfold places;rw [List.length_append,Zou];omega
 unfold Zea
 rw [YT _ hf,Bq]
 have:=ZaL (l:=places (Za.Design b)) (ρ:=List Int) (fun k p=>[Zta b e k p]) [] (step:=fun v=>JC b e (places (Za.Design b)) v.1 v.2.1) (good:=after b e)
  (fun k p hp hk=>by
   have hl:=Zoq (g:=Zta b e) ((places (Za.Design b)).take k) 0
   rw [List.length_take] at hl
   obtain ⟨hpp,hm1⟩:=ZmQ hp
   have hg:∀ n:Int,(([]++cat (fun k p=>[Zta b e k p]) 0 ((places (Za.Design b)).take k)).length+[n].length)*8≤140737488355328:=fun n=>by
    rw [List.nil_append,List.length_singleton,hl];omega
   have e1:Wq (((places (Za.Design b)).length:Int)-((Zb.ZG (Za.Design b)).length:Int))=((places (Za.Design b)).length:Int)-((Zb.ZG (Za.Design b)).length:Int):=Jr (by omega) (by omega)
   have e2:Wq (((places (Za.Design b)).length:Int)-((Zb.ZG (Za.Design b)).length:Int)-2)=((places (Za.Design b)).length:Int)-((Zb.ZG (Za.Design b)).length:Int)-2:=Jr (by omega) (by omega)
   have c1:(((places (Za.Design b)).length:Int)-((Zb.ZG (Za.Design b)).length:Int)≤(k:Int))=(p.1<0):=propext ⟨fun q=>hpp.2 (by omega),fun q=>by have:=hpp.1 q;omega⟩
   simp only [JC,show (k:Int)<((places (Za.Design b)).length:Int) from by omega,if_true,Zi (hg _),Xx (show k≤1048576 by omega),Jr (show (-9223372036854775808:Int)≤(k:Int)+2 by omega) (by omega),Jr (show (-9223372036854775808:Int)≤(k:Int)-2 by omega) (by omega),e1,e2,c1]
   by_cases k2:Zh.Kind e=2
   ·have k3:¬Zh.Kind e=3:=by omega
    by_cases q1:p.1<0
    ·rw [Zzu k2 q1,if_pos k2,if_pos q1]
    ·rw [ZuW k3 (fun q=>q1 q.2),if_pos k2,if_neg q1,if_neg k3,if_neg k3]
   ·rw [if_neg k2]
    by_cases k3:Zh.Kind e=3
    ·obtain ⟨hn,x,hx,hx2⟩:=h.last k3
     by_cases q1:p.1<0
     ·rw [Zzp k3 q1,if_pos k3,if_pos q1]
     ·have hL:=Zve hn hx hp (by omega)
      rw [hx2] at hL
      have c2:(((places (Za.Design b)).length:Int)-((Zb.ZG (Za.Design b)).length:Int)-2≤(k:Int))=(p.1=((Zb.Instances (Za.Design b)).length:Int)-1):=propext ⟨fun q=>hL.2 (by omega),fun q=>by have:=hL.1 q;omega⟩
      simp only [c2]
      by_cases q2:p.1=((Zb.Instances (Za.Design b)).length:Int)-1
      ·rw [ZzD k3 q1 q2,if_pos k3,if_neg q1,if_pos k3,if_pos q2]
      ·rw [Zzr k3 q1 q2,if_pos k3,if_neg q1,if_pos k3,if_neg q2]
    ·rw [ZuW k3 (fun q=>k2 q.1),if_neg k3,if_neg k3])
  (by simp only [JC,Int.lt_irrefl,if_false];rfl)
 exact this
theorem ZwK (b:Za) (e:Zh):(after b e).length=(places (Za.Design b)).length:=Zoq _ _
/-
  Plain laws: places, one by one; a place put on another net; an instance more, an instance less.
-/
theorem Zbh {α β:Type} {g:Nat→α→β}:∀ (l:List α) (m j:Nat),(cat (fun j n=>[g j n]) m l)[j]?=(l[j]?).map (g (m+j))
 | [],m,j=>by simp [cat]
 | x::r,m,0=>by simp [cat]
 | x::r,m,j+1=>by
  simp only [cat,List.singleton_append,List.getElem?_cons_succ,Zbh r]
  rw [show m+1+j=m+(j+1) by omega]
theorem Jv {α β:Type} {g:Nat→α→β}:∀ (l:List α) (m:Nat),(cat (fun j n=>[g j n]) m l).length=l.length
 | [],m=>rfl
 | x::r,m=>by simp only [cat,List.singleton_append,List.length_cons,Jv r]
theorem Zlm {α β:Type} {g:Nat→α→β} (y:α):∀ (l:List α) (m j:Nat),cat (fun j n=>[g j n]) m (l.set j y)=(cat (fun j n=>[g j n]) m l).set j (g (m+j) y)
 | [],m,j=>by simp [cat]
 | x::r,m,0=>by simp [cat]
 | x::r,m,j+1=>by
  simp only [cat,List.singleton_append,List.set_cons_succ,Zlm y r]
  rw [show m+1+j=m+(j+1) by omega]
theorem Zga {α β:Type} (f:Nat→α→List β) {l:List α} {i:Nat} {x:α} (hx:l[i]?=some x):cat f 0 l=cat f 0 (l.take i)++(f i x++cat f (i+1) (l.drop (i+1))):=by
 have hi:=(List.getElem?_eq_some_iff.1 hx).1
 have e:l=l.take i++(x::l.drop (i+1)):=by
  have hd:l.drop i=x::l.drop (i+1):=by
   rw [List.drop_eq_getElem_cons hi];congr 1;exact (List.getElem?_eq_some_iff.1 hx).2
  rw [←hd,List.take_append_drop]
 have e2:=congrArg (cat f 0) e
 rw [Zd0] at e2
 simp only [cat,Nat.zero_add,List.length_take] at e2
 rw [show min i l.length=i by omega] at e2
 exact e2
theorem ZAq {α β:Type} (f:Nat→α→List β) {l:List α} {i j:Nat} {x y:α} {z:β} (hx:l[i]?=some x) (hj:j<(f i x).length) (hy:f i y=(f i x).set j z):cat f 0 (l.set i y)=(cat f 0 l).set ((cat f 0 (l.take i)).length+j) z:=by
 have hi:=(List.getElem?_eq_some_iff.1 hx).1
 rw [Zga f hx,Zga f (l:=l.set i y) (x:=y) (List.getElem?_set_self hi),List.take_set,List.set_eq_of_length_le (by rw [List.length_take];omega),List.drop_set_of_lt (by omega),hy,List.set_append,if_neg (by omega),List.set_append,if_pos (by omega),Nat.add_sub_cancel_left]
abbrev Zfq (d:Zb) (i:Nat):Nat:=(cat Y8 0 ((Zb.Instances d).take i)).length
abbrev Yz (d:Zb):Nat:=(cat Y8 0 (Zb.Instances d)).length
def ZdG (i:Nat) (x:Ze) (j:Nat) (n:Int):Pl:=((i:Int),(j:Int),n,decide ((j:Int)=Wq (((Ze.ZI x).length:Int)-1)),())
theorem ZlU (i:Nat) (x:Ze):Y8 i x=cat (fun j n=>[ZdG i x j n]) 0 (Ze.ZI x):=rfl
theorem Zhu {i:Nat} {x:Ze} {j:Nat} {n:Int} (h:(Ze.ZI x)[j]?=some n):(Y8 i x)[j]?=some (ZdG i x j n):=by
 rw [ZlU,Zbh,h,Nat.zero_add];rfl
theorem QG (i:Nat) (x:Ze):(Y8 i x).length=(Ze.ZI x).length:=by rw [ZlU,Jv]
theorem ZlG (l:List ZR) (m:Nat):cat ZbU m l=cat (fun j p=>[((-1:Int),(j:Int),ZR.Net p,decide (ZR.Dir p=1),())]) m l:=rfl
theorem ZsN (l:List ZR) (m:Nat):(cat ZbU m l).length=l.length:=by rw [ZlG,Jv]
theorem ZgS {d:Zb} {i j:Nat} {x:Ze} {n:Int} (hx:(Zb.Instances d)[i]?=some x) (hn:(Ze.ZI x)[j]?=some n):(places d)[Zfq d i+j]?=some (ZdG i x j n):=by
 have hj:=(List.getElem?_eq_some_iff.1 hn).1
 unfold places
 rw [Zga Y8 hx,List.append_assoc,List.getElem?_append_right (by unfold Zfq;omega),show Zfq d i+j-(cat Y8 0 ((Zb.Instances d).take i)).length=j by unfold Zfq;omega,List.append_assoc,List.getElem?_append_left (by rw [QG];exact hj)]
 exact Zhu hn
theorem Zq3 {d:Zb} {j:Nat} {q:ZR} (hq:(Zb.ZG d)[j]?=some q):(places d)[Yz d+j]?=some ((-1:Int),(j:Int),ZR.Net q,decide (ZR.Dir q=1),()):=by
 unfold places
 rw [List.getElem?_append_right (by unfold Yz;omega),show Yz d+j-(cat Y8 0 (Zb.Instances d)).length=j by unfold Yz;omega,ZlG,Zbh,hq,Nat.zero_add];rfl
theorem Js {d:Zb} {k:Nat} {p:Pl} (hp:(places d)[k]?=some p) :
  (∃ (i j:Nat) (x:Ze) (n:Int),(Zb.Instances d)[i]?=some x∧(Ze.ZI x)[j]?=some n∧k=Zfq d i+j∧p=ZdG i x j n)∨
  (∃ (j:Nat) (q:ZR),(Zb.ZG d)[j]?=some q∧k=Yz d+j∧p=((-1:Int),(j:Int),ZR.Net q,decide (ZR.Dir q=1),())):=by
 by_cases hk:k<Yz d
 ·left
  have h1:(cat Y8 0 (Zb.Instances d))[k]?=some p:=by
   unfold places at hp
   rwa [List.getElem?_append_left (show k<(cat Y8 0 (Zb.Instances d)).length from hk)] at hp
  have find:∀ (n:Nat),n≤(Zb.Instances d).length→k<Zfq d n→∃ i,i<n∧Zfq d i≤k∧k<Zfq d (i+1):=by
   intro n
   induction n with
   | zero=>intro _ h;simp [Zfq,cat] at h
   | succ n ih =>
    intro hn hlt
    by_cases hq:k<Zfq d n
    ·obtain ⟨i,a,b,c⟩:=ih (by omega) hq
     exact ⟨i,by omega,b,c⟩
    ·exact ⟨n,by omega,by omega,hlt⟩
  obtain ⟨i,hi,hlo,hhi⟩:=find (Zb.Instances d).length (Nat.le_refl _) (by unfold Zfq;rw [List.take_length];exact hk)
  have hx:(Zb.Instances d)[i]?=some (Zb.Instances d)[i]:=List.getElem?_eq_getElem hi
  generalize (Zb.Instances d)[i]=x at hx
  have hs:Zfq d (i+1)=Zfq d i+(Ze.ZI x).length:=by
   unfold Zfq
   rw [ZgU hx,List.length_append,QG]
  have hj:k-Zfq d i<(Ze.ZI x).length:=by omega
  have hn:(Ze.ZI x)[k-Zfq d i]?=some (Ze.ZI x)[k-Zfq d i]:=List.getElem?_eq_getElem hj
  generalize (Ze.ZI x)[k-Zfq d i]=n at hn
  refine ⟨i,k-Zfq d i,x,n,hx,hn,by omega,?_⟩
  have h2:=ZgS hx hn
  rw [show Zfq d i+(k-Zfq d i)=k by omega,hp] at h2
  injection h2
 ·right
  have h1:(cat ZbU 0 (Zb.ZG d))[k-Yz d]?=some p:=by
   unfold places at hp
   rwa [List.getElem?_append_right (show (cat Y8 0 (Zb.Instances d)).length≤k from Nat.le_of_not_lt hk)] at hp
  rw [ZlG,Zbh,Nat.zero_add] at h1
  cases hq:(Zb.ZG d)[k-Yz d]? with
  | none=>rw [hq] at h1;cases h1
  | some q =>
   rw [hq] at h1
   injection h1 with h1
   exact ⟨k-Yz d,q,hq,by omega,h1.symm⟩
theorem key_inj {d:Zb} {k k':Nat} {p p':Pl} (hp:(places d)[k]?=some p) (hp':(places d)[k']?=some p') (h1:p.1=p'.1) (h2:p.2.1=p'.2.1):k=k':=by
 rcases Js hp with ⟨i,j,x,n,_,_,e,rfl⟩ | ⟨j,q,_,e,rfl⟩<;>rcases Js hp' with ⟨i',j',x',n',_,_,e',rfl⟩ | ⟨j',q',_,e',rfl⟩
 ·simp only [ZdG] at h1 h2
  have:i=i':=by omega
  have:j=j':=by omega
  subst i' j'
  omega
 ·simp only [ZdG] at h1;omega
 ·simp only [ZdG] at h1;omega
 ·simp only at h2
  omega
def ZdK (x:Ze) (j:Nat) (n:Int):Ze:=(Ze.Name x,Ze.Cell x,List.set (Ze.ZI x) j n,())
def setPort (q:ZR) (n:Int):ZR:=(ZR.Name q,ZR.Dir q,n,())
def conn (d:Zb) (a b:Int) (n:Int):Zb :=
 if a<0 then (Zb.Instances d,Zb.ZI d,match (Zb.ZG d)[b.toNat]? with
  | some q=>(Zb.ZG d).set b.toNat (setPort q n)
  | none=>Zb.ZG d,())
 else (match (Zb.Instances d)[a.toNat]? with
  | some x=>(Zb.Instances d).set a.toNat (ZdK x b.toNat n)
  | none=>Zb.Instances d,Zb.ZI d,Zb.ZG d,())
theorem ZvX (i:Nat) (x:Ze) (j:Nat) (n:Int):Y8 i (ZdK x j n)=(Y8 i x).set j (ZdG i x j n):=by
 rw [ZlU,ZlU]
 show cat (fun (j':Nat) (m:Int)=>[ZdG i (ZdK x j n) j' m]) 0 (List.set (Ze.ZI x) j n)=_
 have:(fun (j':Nat) (m:Int)=>[ZdG i (ZdK x j n) j' m])=fun j' m=>[ZdG i x j' m]:=by
  funext j' m
  have hl:(Ze.ZI (ZdK x j n)).length=(Ze.ZI x).length:=List.length_set
  simp only [ZdG,hl]
 rw [this,Zlm,Nat.zero_add]
theorem XW {d:Zb} {k:Nat} {p:Pl} (hp:(places d)[k]?=some p) (n:Int):places (conn d p.1 p.2.1 n)=(places d).set k (p.1,p.2.1,n,p.2.2.2.1,()):=by
 rcases Js hp with ⟨i,j,x,m,hx,hn,e,rfl⟩ | ⟨j,q,hq,e,rfl⟩
 ·have hj:=(List.getElem?_eq_some_iff.1 hn).1
  have e1:conn d (ZdG i x j m).1 (ZdG i x j m).2.1 n=((Zb.Instances d).set i (ZdK x j n),Zb.ZI d,Zb.ZG d,()):=by
   unfold conn
   rw [if_neg (by simp only [ZdG];omega)]
   simp only [ZdG,Int.toNat_natCast,hx]
  rw [e1]
  unfold places
  show cat Y8 0 ((Zb.Instances d).set i (ZdK x j n))++cat ZbU 0 (Zb.ZG d)=_
  have hlt:k<(cat Y8 0 (Zb.Instances d)).length:=by
   rw [Zga Y8 hx,List.length_append,List.length_append,QG]
   unfold Zfq at e
   omega
  rw [ZAq Y8 hx (j:=j) (z:=ZdG i x j n) (by rw [QG];exact hj) (ZvX i x j n),List.set_append,if_pos hlt,e]
  rfl
 ·have e1:conn d (-1) (j:Int) n=(Zb.Instances d,Zb.ZI d,(Zb.ZG d).set j (setPort q n),()):=by
   unfold conn
   rw [if_pos (by omega)]
   simp only [Int.toNat_natCast,hq]
  show places (conn d (-1) (j:Int) n)=_
  rw [e1]
  unfold places
  show cat Y8 0 (Zb.Instances d)++cat ZbU 0 ((Zb.ZG d).set j (setPort q n))=_
  rw [List.set_append,if_neg (by unfold Yz at e;omega),ZlG,Zlm,Nat.zero_add,e,show Yz d+j-(cat Y8 0 (Zb.Instances d)).length=j by unfold Yz;omega,ZlG]
  rfl
/-
  Plain laws: the wires' sinks out of the places' nodes.
-/
def nth (pl:List Pl) (net:Int) (k:Nat):Nat:=(cat (J9 net) 0 (pl.take k)).length
theorem Zi0 {net:Int} {k:Nat} {p:Pl} (h:¬(p.2.2.1=net∧p.2.2.2.1=false)):J9 net k p=[]:=by
 unfold J9
 split
 ·split
  ·rfl
  ·rename_i h1 h2;exact absurd ⟨h1,by simpa using h2⟩ h
 ·rfl
theorem Zja {net:Int} {k:Nat} {p:Pl} (h1:p.2.2.1=net) (h2:p.2.2.2.1=false):J9 net k p=[(k:Int)]:=by
 unfold J9
 rw [if_pos h1,if_neg (by rw [h2];simp)]
theorem Zmw {pl:List Pl} {net:Int} {k:Nat} {p:Pl} (hp:pl[k]?=some p) (h1:p.2.2.1=net) (h2:p.2.2.2.1=false):(cat (J9 net) 0 pl)[nth pl net k]?=some (k:Int):=by
 rw [Zga (J9 net) hp,Zja h1 h2]
 unfold nth
 rw [List.getElem?_append_right (Nat.le_refl _),Nat.sub_self]
 rfl
theorem Zwr {pl:List Pl} {net:Int} {v:Int} (hv:v∈cat (J9 net) 0 pl):∃ (k:Nat) (p:Pl),v=(k:Int)∧pl[k]?=some p∧p.2.2.1=net∧p.2.2.2.1=false:=by
 obtain ⟨k,p,hp,hv⟩:=Zb3.1 hv
 by_cases h:p.2.2.1=net∧p.2.2.2.1=false
 ·rw [Zja h.1 h.2] at hv
  simp only [List.mem_singleton] at hv
  exact ⟨k,p,by rw [hv];simp,hp,h.1,h.2⟩
 ·rw [Zi0 h] at hv
  cases hv
theorem Zwa {pl:List Pl} {net:Int} {k:Nat} {p:Pl} (hp:pl[k]?=some p) (h1:p.2.2.1=net) (h2:p.2.2.2.1=false):nth pl net k<(cat (J9 net) 0 pl).length:=(List.getElem?_eq_some_iff.1 (Zmw hp h1 h2)).1
def Y1 (b:Za) (k:Nat):Int:=match (places (Za.Design b))[k]? with
 | some p=>if p.2.2.2.1=true then 0 else match (Za.Zz b)[p.2.2.1.toNat]? with
  | some w=>((Zr.Ze6 w)[nth (places (Za.Design b)) p.2.2.1 k]?).getD 0
  | none=>0
 | none=>0
def Zd4 (w:Zr) (l:List Int):Zr:=(Zr.Parent w,Zr.Res w,Zr.Cap w,l,())
def wired (pl:List Pl) (ws:List Zr) (nd:Nat→Int):List Zr:=cat (fun v w=>[Zd4 w ((cat (J9 (v:Int)) 0 pl).map (fun k=>nd k.toNat))]) 0 ws
theorem Zdh (pl:List Pl) (ws:List Zr) (nd:Nat→Int) (v:Nat):(wired pl ws nd)[v]?=(ws[v]?).map (fun w=>Zd4 w ((cat (J9 (v:Int)) 0 pl).map (fun k=>nd k.toNat))):=by
 unfold wired
 rw [Zbh,Nat.zero_add]
theorem Zhh (pl:List Pl) (ws:List Zr) (nd:Nat→Int):(wired pl ws nd).length=ws.length:=Jv _ _
def ZfF (pl:List Pl) (ws:List Zr) (nd:Nat→Int) (k:Nat):List Zr:=wired (pl.take k) ws nd
theorem ZsG {pl:List Pl} {ws:List Zr} {nd:Nat→Int} {k:Nat} {p:Pl} {w:Zr} (hp:pl[k]?=some p) (h2:p.2.2.2.1=false) (h0:0≤p.2.2.1) (hw:ws[p.2.2.1.toNat]?=some w) :
  (ZfF pl ws nd k)[p.2.2.1.toNat]?=some (Zd4 w ((cat (J9 p.2.2.1) 0 (pl.take k)).map (fun k=>nd k.toNat)))∧
  (ZfF pl ws nd k).set p.2.2.1.toNat (Zd4 w ((cat (J9 p.2.2.1) 0 (pl.take k)).map (fun k=>nd k.toNat)++[nd k]))=ZfF pl ws nd (k+1):=by
 have hk:=(List.getElem?_eq_some_iff.1 hp).1
 have hlt:=(List.getElem?_eq_some_iff.1 hw).1
 unfold ZfF
 constructor
 ·rw [Zdh,hw,show ((p.2.2.1.toNat:Nat):Int)=p.2.2.1 by omega]
  rfl
 ·apply List.ext_getElem?
  intro v
  rw [List.getElem?_set,Zdh,Zdh]
  have hs:∀ net:Int,cat (J9 net) 0 (pl.take (k+1))=cat (J9 net) 0 (pl.take k)++J9 net k p:=fun net=>ZgU hp
  split
  ·rename_i e
   subst e
   rw [Zhh,if_pos hlt,hw,hs,show ((p.2.2.1.toNat:Nat):Int)=p.2.2.1 by omega,Zja rfl h2,List.map_append]
   simp only [List.map_cons,List.map_nil,Int.toNat_natCast,Option.map_some]
  ·rename_i e
   congr 1
   funext w'
   congr 1
   rw [hs,Zi0 (fun q=>e (by have:=q.1;omega)),List.append_nil]
theorem Zs4 {pl:List Pl} {ws:List Zr} {nd:Nat→Int} {k:Nat} {p:Pl} (hp:pl[k]?=some p) (h2:p.2.2.2.1=true):ZfF pl ws nd (k+1)=ZfF pl ws nd k:=by
 unfold ZfF
 apply List.ext_getElem?
 intro v
 rw [Zdh,Zdh]
 congr 1
 funext w'
 congr 1
 rw [ZgU hp,Zi0 (fun q=>by rw [h2] at q;cases q.2),List.append_nil]
/-
  Plain laws: maps by their keys.
-/
abbrev Key:Ty:=.pair (.int .i64) (.pair (.int .i64) .unit)
theorem ZrB (x y:Key.den):keq Key x y=true↔x=y:=by
 obtain ⟨a,b,⟨⟩⟩:=x
 obtain ⟨c,d,⟨⟩⟩:=y
 simp [keq]
theorem ZoQ {k v:Ty} (hk:∀ x y:k.den,keq k x y=true↔x=y) (x z:k.den) (y:v.den):∀ (d:List (k.den×v.den)),Zi2 k v (ZnA k v d x y) z=if keq k z x=true then some y else Zi2 k v d z
 | []=>by simp only [ZnA,Zi2]
 | e::l=>by
  by_cases h1:keq k x e.1=true
  ·simp only [ZnA,if_pos h1,Zi2]
   by_cases h2:keq k z x=true
   ·simp only [if_pos h2]
   ·have h3:¬keq k z e.1=true:=fun q=>h2 ((hk _ _).2 (((hk _ _).1 q).trans ((hk _ _).1 h1).symm))
    simp only [if_neg h2,if_neg h3]
  ·simp only [ZnA,if_neg h1,Zi2]
   by_cases h3:keq k z e.1=true
   ·have h2:¬keq k z x=true:=fun q=>h1 ((hk _ _).2 (((hk _ _).1 q).symm.trans ((hk _ _).1 h3)))
    simp only [if_pos h3,if_neg h2]
   ·simp only [if_neg h3,ZoQ hk x z y l]
theorem ZoD {v:Ty} (d:List (Key.den×v.den)) (x:Key.den) (y:v.den):Zi2 Key v (ZnA Key v d x y) x=some y:=by
 rw [ZoQ ZrB,if_pos ((ZrB _ _).2 rfl)]
theorem Zng {v:Ty} (d:List (Key.den×v.den)) {x z:Key.den} (y:v.den) (h:z≠x):Zi2 Key v (ZnA Key v d x y) z=Zi2 Key v d z:=by
 rw [ZoQ ZrB,if_neg (fun q=>h ((ZrB _ _).1 q))]
/-
  Plain laws: nodes by keys against nodes by places; kept when a place is put on another net, when an instance is added or removed.
-/
abbrev Zll:=List (Key.den×(Ty.int .i64).den)
def ZuM (p:Pl):Key.den:=(p.1,p.2.1,())
def Maps (nodes:Zll) (pl:List Pl) (nd:Nat→Int):Prop:=∀ (k:Nat) (p:Pl),pl[k]?=some p→p.2.2.2.1=false→Zi2 Key (.int .i64) nodes (ZuM p)=some (nd k)
theorem Zui {d:Zb} {k k':Nat} {p p':Pl} (hp:(places d)[k]?=some p) (hp':(places d)[k']?=some p') (h:ZuM p=ZuM p'):k=k':=by
 unfold ZuM at h
 injection h with h1 h2
 injection h2 with h2 _
 exact key_inj hp hp' h1 h2
theorem Maps.put {nodes:Zll} {d:Zb} {nd:Nat→Int} (h:Maps nodes (places d) nd) {k0:Nat} {p0:Pl} (hp0:(places d)[k0]?=some p0) (v:Int):Maps (ZnA Key (.int .i64) nodes (ZuM p0) v) (places d) (fun k=>if k=k0 then v else nd k):=by
 intro k p hp hd
 by_cases e:k=k0
 ·subst e
  rw [hp0] at hp
  injection hp with hp
  subst hp
  simp only [if_true]
  exact ZoD _ _ _
 ·simp only [if_neg e]
  rw [Zng _ _ (fun q=>e (Zui hp hp0 q))]
  exact h k p hp hd
theorem Maps.set {nodes:Zll} {pl:List Pl} {nd:Nat→Int} (h:Maps nodes pl nd) {k0:Nat} {p0:Pl} (hp0:pl[k0]?=some p0) (n:Int):Maps nodes (pl.set k0 (p0.1,p0.2.1,n,p0.2.2.2.1,())) nd:=by
 intro k p hp hd
 by_cases e:k0=k
 ·subst e
  rw [List.getElem?_set_self (List.getElem?_eq_some_iff.1 hp0).1] at hp
  injection hp with hp
  subst hp
  exact h k0 p0 hp0 hd
 ·rw [List.getElem?_set_ne e] at hp
  exact h k p hp hd
def addInst (d:Zb) (x:Ze) (s:List UInt8):Zb:=(Zb.Instances d++[x],Zb.ZI d++[s],Zb.ZG d,())
theorem ZfD (d:Zb) (x:Ze) (s:List UInt8):places (addInst d x s)=cat Y8 0 (Zb.Instances d)++Y8 (Zb.Instances d).length x++cat ZbU 0 (Zb.ZG d):=by
 unfold places addInst
 show cat Y8 0 (Zb.Instances d++[x])++_=_
 rw [Zd0,Nat.zero_add]
 simp only [cat,List.append_nil]
theorem Ztf {d:Zb} {x:Ze} {s:List UInt8} {k:Nat} (hk:k<Yz d):(places (addInst d x s))[k]?=(places d)[k]?:=by
 rw [ZfD,List.append_assoc,List.getElem?_append_left hk]
 unfold places
 rw [List.getElem?_append_left hk]
theorem add_mid {d:Zb} {x:Ze} {s:List UInt8} {j:Nat} (hj:j<(Ze.ZI x).length):(places (addInst d x s))[Yz d+j]?=(Y8 (Zb.Instances d).length x)[j]?:=by
 rw [ZfD,List.append_assoc,List.getElem?_append_right (by unfold Yz;omega),show Yz d+j-(cat Y8 0 (Zb.Instances d)).length=j by unfold Yz;omega,List.getElem?_append_left (by rw [QG];exact hj)]
theorem ZsR {d:Zb} {x:Ze} {s:List UInt8} {k:Nat} (hk:Yz d≤k):(places (addInst d x s))[k+(Ze.ZI x).length]?=(places d)[k]?:=by
 have h1:(cat Y8 0 (Zb.Instances d)).length≤k:=hk
 rw [ZfD,List.getElem?_append_right (by rw [List.length_append,QG];omega),List.length_append,QG]
 unfold places
 rw [List.getElem?_append_right h1]
 congr 1
 omega
def ZtF (nd:Nat→Int) (m:Nat) (v:Int) (k:Nat):Int:=if k<m then nd k else if k=m then v else if k=m+1 then 0 else nd (k-2)
theorem Maps.add {nodes:Zll} {d:Zb} {nd:Nat→Int} (h:Maps nodes (places d) nd) {x:Ze} {s:List UInt8} (h2:(Ze.ZI x).length=2) (hi:(Zb.Instances d).length≤1048576) (v:Int) :
  Maps (ZnA Key (.int .i64) nodes (((Zb.Instances d).length:Int),0,()) v) (places (addInst d x s)) (ZtF nd (Yz d) v):=by
 intro k p hp hd
 have other:∀ (k':Nat),(places d)[k']?=some p→Zi2 Key (.int .i64) (ZnA Key (.int .i64) nodes (((Zb.Instances d).length:Int),0,()) v) (ZuM p)=Zi2 Key (.int .i64) nodes (ZuM p):=by
  intro k' hp'
  refine Zng _ _ (fun q=>?_)
  unfold ZuM at q
  injection q with q1 _
  rcases Js hp' with ⟨i,j,y,n,hy,_,_,rfl⟩ | ⟨j,q',_,_,rfl⟩
  ·have:=(List.getElem?_eq_some_iff.1 hy).1
   simp only [ZdG] at q1
   omega
  ·simp only at q1
   omega
 unfold ZtF
 by_cases k1:k<Yz d
 ·rw [if_pos k1]
  rw [Ztf k1] at hp
  rw [other k hp]
  exact h k p hp hd
 ·rw [if_neg k1]
  by_cases k2:k=Yz d
  ·rw [if_pos k2]
   have h3:=add_mid (d:=d) (x:=x) (s:=s) (j:=0) (by omega)
   rw [Nat.add_zero,←k2,hp] at h3
   have h4:(Ze.ZI x)[0]?=some (Ze.ZI x)[0]:=List.getElem?_eq_getElem (by omega)
   rw [Zhu h4] at h3
   injection h3 with h3
   rw [h3]
   exact ZoD _ _ _
  ·rw [if_neg k2]
   by_cases k3:k=Yz d+1
   ·-- it drives
    exfalso
    have h3:=add_mid (d:=d) (x:=x) (s:=s) (j:=1) (by omega)
    rw [←k3,hp] at h3
    have h4:(Ze.ZI x)[1]?=some (Ze.ZI x)[1]:=List.getElem?_eq_getElem (by omega)
    rw [Zhu h4] at h3
    injection h3 with h3
    rw [h3] at hd
    simp only [ZdG,h2,decide_eq_false_iff_not] at hd
    exact hd (by rw [Jr (by omega) (by omega)];rfl)
   ·rw [if_neg k3]
    have h3:=ZsR (d:=d) (x:=x) (s:=s) (k:=k-2) (by omega)
    rw [h2,show k-2+2=k by omega,hp] at h3
    rw [other (k-2) h3.symm]
    exact h (k-2) p h3.symm hd
def XU (d:Zb):Zb:=((Zb.Instances d).take ((Zb.Instances d).length-1),(Zb.ZI d).take ((Zb.ZI d).length-1),Zb.ZG d,())
theorem Zt7 {d:Zb} {x:Ze} (hn:0<(Zb.Instances d).length) (hx:(Zb.Instances d)[(Zb.Instances d).length-1]?=some x):Zb.Instances d=Zb.Instances (XU d)++[x]:=by
 show Zb.Instances d=(Zb.Instances d).take ((Zb.Instances d).length-1)++[x]
 rw [←Z8 hx,show (Zb.Instances d).length-1+1=(Zb.Instances d).length by omega,List.take_length]
theorem Zjn {d:Zb} {x:Ze} {s:List UInt8} (hn:0<(Zb.Instances d).length) (hx:(Zb.Instances d)[(Zb.Instances d).length-1]?=some x):places d=places (addInst (XU d) x s):=by
 unfold places
 show cat Y8 0 (Zb.Instances d)++cat ZbU 0 (Zb.ZG d)=cat Y8 0 (Zb.Instances (XU d)++[x])++cat ZbU 0 (Zb.ZG d)
 rw [←Zt7 hn hx]
def Zru (nd:Nat→Int) (m:Nat) (k:Nat):Int:=if k<m then nd k else nd (k+2)
theorem Maps.cut {nodes:Zll} {d:Zb} {nd:Nat→Int} (h:Maps nodes (places d) nd) {x:Ze} (hn:0<(Zb.Instances d).length) (hx:(Zb.Instances d)[(Zb.Instances d).length-1]?=some x) (h2:(Ze.ZI x).length=2) :
  Maps nodes (places (XU d)) (Zru nd (Yz (XU d))):=by
 rw [Zjn (s:=[]) hn hx] at h
 intro k p hp hd
 unfold Zru
 by_cases k1:k<Yz (XU d)
 ·rw [if_pos k1]
  exact h k p (by rw [Ztf k1];exact hp) hd
 ·rw [if_neg k1]
  have h3:=ZsR (d:=XU d) (x:=x) (s:=[]) (k:=k) (by omega)
  rw [h2,hp] at h3
  exact h (k+2) p h3 hd
/-
  Plain laws: the map of nodes, place by place; lists of nodes.
-/
def J4 (pl:List Pl) (f:Nat→Int):Nat→Zll
 | 0=>[]
 | k+1=>match pl[k]? with
  | some p=>if p.2.2.2.1=true then J4 pl f k else ZnA Key (.int .i64) (J4 pl f k) (ZuM p) (f k)
  | none=>J4 pl f k
theorem Znv {pl:List Pl} {f:Nat→Int} {k:Nat} {p:Pl} (hp:pl[k]?=some p) (h:p.2.2.2.1=true):J4 pl f (k+1)=J4 pl f k:=by
 simp only [J4,hp,h,if_true]
theorem Zo7 {pl:List Pl} {f:Nat→Int} {k:Nat} {p:Pl} (hp:pl[k]?=some p) (h:¬p.2.2.2.1=true):J4 pl f (k+1)=ZnA Key (.int .i64) (J4 pl f k) (ZuM p) (f k):=by
 simp only [J4,hp,h,if_false]
 rfl
theorem Zi5 (d:Zb) (f:Nat→Int):∀ (k:Nat),k≤(places d).length→∀ (j:Nat) (p:Pl),j<k→(places d)[j]?=some p→p.2.2.2.1=false→Zi2 Key (.int .i64) (J4 (places d) f k) (ZuM p)=some (f j)
 | 0,_,j,p,hj,_,_=>by omega
 | k+1,hk,j,p,hj,hp,hd=>by
  have hq:(places d)[k]?=some (places d)[k]:=List.getElem?_eq_getElem (by omega)
  generalize (places d)[k]=q at hq
  by_cases hqd:q.2.2.2.1=true
  ·rw [Znv hq hqd]
   refine Zi5 d f k (by omega) j p ?_ hp hd
   by_cases e:j=k
   ·subst e
    rw [hp] at hq
    injection hq with hq
    subst hq
    rw [hqd] at hd;cases hd
   ·omega
  ·rw [Zo7 hq hqd]
   by_cases e:j=k
   ·subst e
    rw [hp] at hq
    injection hq with hq
    subst hq
    exact ZoD _ _ _
   ·rw [Zng _ _ (fun h=>e (Zui hp hq h))]
    exact Zi5 d f k (by omega) j p (by omega) hp hd
theorem Zhd (d:Zb) (f:Nat→Int):Maps (J4 (places d) f (places d).length) (places d) f:=fun k p hp hd=>Zi5 d f _ (Nat.le_refl _) k p (List.getElem?_eq_some_iff.1 hp).1 hp hd
def ZoY (l:List Int) (k:Nat):Int:=(l[k]?).getD 0
theorem Zr6 {l:List Int} {i:Nat} {v:Int} (hi:i<l.length) (k:Nat):ZoY (l.set i v) k=if k=i then v else ZoY l k:=by
 unfold ZoY
 rw [List.getElem?_set]
 by_cases e:i=k
 ·subst e;rw [if_pos rfl,if_pos hi,if_pos rfl];rfl
 ·rw [if_neg e,if_neg (fun q=>e q.symm)]
theorem ZyB {l:List Int} {m:Nat} (hm:m≤l.length) (v:Int) (k:Nat):ZoY (l.take m++[v,0]++l.drop m) k=ZtF (ZoY l) m v k:=by
 unfold ZoY ZtF
 have hl:(l.take m).length=m:=by rw [List.length_take];omega
 by_cases k1:k<m
 ·rw [if_pos k1,List.append_assoc,List.getElem?_append_left (by omega),List.getElem?_take,if_pos k1]
 ·rw [if_neg k1]
  by_cases k2:k=m
  ·rw [if_pos k2,List.append_assoc,List.getElem?_append_right (by omega),hl,k2,Nat.sub_self];rfl
  ·rw [if_neg k2]
   by_cases k3:k=m+1
   ·rw [if_pos k3,List.append_assoc,List.getElem?_append_right (by omega),hl,k3,show m+1-m=1 by omega];rfl
   ·rw [if_neg k3,List.getElem?_append_right (by rw [List.length_append,hl,List.length_cons,List.length_singleton];omega),List.length_append,hl,List.length_cons,List.length_singleton,List.getElem?_drop]
    congr 2
    omega
theorem Zy3 {l:List Int} {m:Nat} (hm:m+2≤l.length) (k:Nat):ZoY (l.take m++l.drop (m+2)) k=Zru (ZoY l) m k:=by
 unfold ZoY Zru
 have hl:(l.take m).length=m:=by rw [List.length_take];omega
 by_cases k1:k<m
 ·rw [if_pos k1,List.getElem?_append_left (by omega),List.getElem?_take,if_pos k1]
 ·rw [if_neg k1,List.getElem?_append_right (by omega),hl,List.getElem?_drop]
  congr 2
  omega
/-
  Plain laws: what edits make of designs, of nodes by place.
-/
theorem Zyo {d:Zb} {x:Ze} {s:List UInt8} {a b n:Int} (ha:a<((Zb.Instances d).length:Int)):conn (addInst d x s) a b n=addInst (conn d a b n) x s:=by
 unfold conn
 by_cases h:a<0
 ·rw [if_pos h,if_pos h];rfl
 ·rw [if_neg h,if_neg h]
  have hlt:a.toNat<(Zb.Instances d).length:=by omega
  have hy:=List.getElem?_eq_getElem hlt
  generalize (Zb.Instances d)[a.toNat]=y at hy
  have e:(Zb.Instances (addInst d x s))[a.toNat]?=some y:=by
   show (Zb.Instances d++[x])[a.toNat]?=some y
   rw [List.getElem?_append_left hlt];exact hy
  rw [e,hy]
  have e2:List.set (Zb.Instances (addInst d x s)) a.toNat (ZdK y b.toNat n)=(Zb.Instances d).set a.toNat (ZdK y b.toNat n)++[x]:=by
   show List.set (Zb.Instances d++[x]) a.toNat _=_
   rw [List.set_append,if_pos hlt]
  show (List.set (Zb.Instances (addInst d x s)) a.toNat (ZdK y b.toNat n),_)=_
  rw [e2]
  rfl
theorem Xk {d:Zb} {a b n:Int}:(Zb.Instances (conn d a b n)).length=(Zb.Instances d).length:=by
 unfold conn
 split
 ·rfl
 ·show (match (Zb.Instances d)[a.toNat]? with | some x=>(Zb.Instances d).set a.toNat (ZdK x b.toNat n) | none=>Zb.Instances d).length=_
  split
  ·rw [List.length_set]
  ·rfl
theorem QJ {d:Zb} {a b n:Int}:Zb.ZI (conn d a b n)=Zb.ZI d:=by
 unfold conn
 split<;>rfl
theorem Zhg {d:Zb} {a b n:Int}:(Zb.ZG (conn d a b n)).length=(Zb.ZG d).length:=by
 unfold conn
 split
 ·show (match (Zb.ZG d)[b.toNat]? with | some x=>(Zb.ZG d).set b.toNat (setPort x n) | none=>Zb.ZG d).length=_
  split
  ·rw [List.length_set]
  ·rfl
 ·rfl
theorem Zf9 {d:Zb} {a b n:Int} {i:Nat} {y:Ze} (hy:(Zb.Instances (conn d a b n))[i]?=some y):∃ x,(Zb.Instances d)[i]?=some x∧Ze.Name y=Ze.Name x∧Ze.Cell y=Ze.Cell x∧(Ze.ZI y).length=(Ze.ZI x).length∧((i:Int)≠a→y=x)∧∀ m∈Ze.ZI y,m∈Ze.ZI x∨m=n:=by
 unfold conn at hy
 split at hy
 ·exact ⟨y,hy,rfl,rfl,rfl,fun _=>rfl,fun m hm=>.inl hm⟩
 ·rename_i h
  have hy:(match (Zb.Instances d)[a.toNat]? with | some x=>(Zb.Instances d).set a.toNat (ZdK x b.toNat n) | none=>Zb.Instances d)[i]?=some y:=hy
  split at hy
  ·rename_i x hx
   rw [List.getElem?_set] at hy
   split at hy
   ·rename_i e
    split at hy
    ·injection hy with hy
     subst hy
     refine ⟨x,by rw [←e];exact hx,rfl,rfl,List.length_set,fun q=>absurd (by omega) q,fun m hm=>?_⟩
     rcases List.mem_or_eq_of_mem_set hm with hm | hm
     ·exact .inl hm
     ·exact .inr hm
    ·cases hy
   ·exact ⟨y,hy,rfl,rfl,rfl,fun _=>rfl,fun m hm=>.inl hm⟩
  ·exact ⟨y,hy,rfl,rfl,rfl,fun _=>rfl,fun m hm=>.inl hm⟩
theorem Few.conn {d:Zb} (h:Few d) (a b n:Int):Few (conn d a b n):=by
 refine ⟨by rw [Xk];exact h.insts,by rw [Zhg];exact h.ports,fun y hy=>?_⟩
 obtain ⟨i,hi⟩:=List.getElem?_of_mem hy
 obtain ⟨x,hx,_,_,hl,_⟩:=Zf9 hi
 rw [hl]
 exact h.nets x (List.mem_of_getElem? hx)
theorem Few.add {d:Zb} (h:Few d) (h13:(Zb.Instances d).length≤13) {x:Ze} (hx:(Ze.ZI x).length≤5) (s:List UInt8):Few (addInst d x s):=by
 refine ⟨?_,h.ports,fun y hy=>?_⟩
 ·show (Zb.Instances d++[x]).length≤14
  rw [List.length_append,List.length_singleton];omega
 ·rcases List.mem_append.1 (show y∈Zb.Instances d++[x] from hy) with hy | hy
  ·exact h.nets y hy
  ·rw [List.mem_singleton] at hy
   subst hy;exact hx
theorem Few.cut {d:Zb} (h:Few d):Few (XU d):=by
 refine ⟨?_,h.ports,fun y hy=>h.nets y (List.mem_of_mem_take (show y∈(Zb.Instances d).take _ from hy))⟩
 show ((Zb.Instances d).take _).length≤14
 rw [List.length_take]
 have:=h.insts
 omega
def Zkx (pl:List Pl) (n:Nat):Prop:=∀ p∈pl,p.2.2.2.1=false→0≤p.2.2.1∧p.2.2.1<(n:Int)
theorem Zkx.set {pl:List Pl} {n:Nat} (h:Zkx pl n) {k0:Nat} {p0:Pl} {m:Int} (h0:0≤m) (h1:m<(n:Int)):Zkx (pl.set k0 (p0.1,p0.2.1,m,p0.2.2.2.1,())) n:=by
 intro p hp hd
 rcases List.mem_or_eq_of_mem_set hp with hp | hp
 ·exact h p hp hd
 ·subst hp;exact ⟨h0,h1⟩
def swapped (b:Za) (i:Int) (c:Int):Za:=(Za.Library b,(match (Zb.Instances (Za.Design b))[i.toNat]? with
 | some x=>(Zb.Instances (Za.Design b)).set i.toNat (Ze.Name x,c,Ze.ZI x,())
 | none=>Zb.Instances (Za.Design b),Zb.ZI (Za.Design b),Zb.ZG (Za.Design b),()),Za.Zz b,())
def mvD (b:Za) (p:Pl) (n:Int):Zb:=conn (Za.Design b) p.1 p.2.1 n
def mvN (b:Za) (k:Nat) (v:Int) (j:Nat):Int:=if j=k then v else Y1 b j
def moved (b:Za) (k:Nat) (p:Pl) (n v:Int):Za:=(Za.Library b,mvD b p n,wired (places (mvD b p n)) (Za.Zz b) (mvN b k v),())
abbrev ZvA:Zr:=([-1],[0],[0],[],())
def ZqM (b:Za) (e:Zh) (p:Pl):Ze:=(Zh.Name e,Zh.Cell e,[p.2.2.1,((Zb.ZI (Za.Design b)).length:Int)],())
def Zsr (b:Za) (e:Zh) (p:Pl):Zb:=addInst (conn (Za.Design b) p.1 p.2.1 ((Zb.ZI (Za.Design b)).length:Int)) (ZqM b e p) (Zh.Name e)
def ZuH (b:Za) (k:Nat):Nat:=if k<Yz (Za.Design b) then k else k+2
def ZCz (b:Za) (k:Nat) (j:Nat):Int:=if j=ZuH b k then 0 else ZtF (Y1 b) (Yz (Za.Design b)) (Y1 b k) j
def buffered (b:Za) (e:Zh) (k:Nat) (p:Pl):Za:=(Za.Library b,Zsr b e p,wired (places (Zsr b e p)) (Za.Zz b++[ZvA]) (ZCz b k),())
def unD (b:Za) (p:Pl) (m:Int):Zb:=XU (conn (Za.Design b) p.1 p.2.1 m)
def unN (b:Za) (k:Nat):Nat→Int:=Zru (mvN b k (Y1 b (Yz (Za.Design b)-2))) (Yz (Za.Design b)-2)
def Znk (b:Za) (k:Nat) (p:Pl) (m:Int):Za:=(Za.Library b,unD b p m,wired (places (unD b p m)) ((Za.Zz b).take ((Za.Zz b).length-1)) (unN b k),())
def Zzs (b:Za) (n:Int) (w:Zr):Za:=(Za.Library b,Za.Design b,(Za.Zz b).set n.toNat w,())
/-
  Plain laws: clones are what they are made of.
-/
theorem ZaY {α:Type} {l:List α} {k:Nat} {x:α} (hx:l[k]?=some x):l.set k x=l:=by
 apply List.ext_getElem?
 intro j
 rw [List.getElem?_set]
 split
 ·rename_i e;subst e
  rw [if_pos (List.getElem?_eq_some_iff.1 hx).1,hx]
 ·rfl
theorem V7 (l:List Int) (h:l.length≤1048576):ZC l=some l:=by
 unfold ZC
 rw [Zi (by rw [List.length_nil];omega)];rfl
theorem Zdx (l:List Int) (h:l.length≤1048576):XK l=some l:=by
 unfold XK
 rw [Zi (by rw [List.length_nil];omega)];rfl
theorem Zdc (w:Zr) (hw:sm Vv w):Zbl w=some w:=by
 obtain ⟨a1,a2,a3,a4⟩:=ZlW hw
 unfold Zbl
 rw [V7 _ (Zp a1),Bq,V7 _ (Zp a2),Bq,V7 _ (Zp a3),Bq,V7 _ (Zp a4),Bq]
theorem Zgk (w:Zr) (hw:sm Vv w):JN w=some w:=by
 obtain ⟨a1,a2,a3,a4⟩:=ZlW hw
 unfold JN
 rw [Zdx _ (Zp a1),Bq,Zdx _ (Zp a2),Bq,Zdx _ (Zp a3),Bq,Zdx _ (Zp a4),Bq]
theorem ZjZ (d:Zb) (hd:sm YG d):Vp d=some d:=by
 obtain ⟨s1,s2,s3⟩:=Za4 hd
 have l1:=Zp s1
 have l2:=Zp s2
 have l3:=Zp s3
 unfold Vp Xq VD Ql
 rw [Zi (by rw [List.length_nil];omega),Bq,Zi (by rw [List.length_nil];omega),Bq,Zi (by rw [List.length_nil];omega),Bq]
 simp only [List.nil_append]
 refine Yk (l:=Zb.Instances d) (fun k=>((k:Int),(Zb.Instances d,(k:Int)),())) (fun k x hx hk=>?_) ?_
 ·have hx2:=V7 (Ze.ZI x) (Zp (Zkk (QV s1 hx)).2)
  simp only [Qg,show (k:Int)<((Zb.Instances d).length:Int) by omega,if_true,Zu,hx,Bq,Int.le_refl,hx2,Zi trivial,Xx (show k≤1048576 by omega),Int.toNat_natCast]
  rw [show List.set (Zb.Instances d) k (Ze.Name x,Ze.Cell x,Ze.ZI x,())=Zb.Instances d from ZaY hx]
  rfl
 ·simp only [Qg,Int.lt_irrefl,if_false,Zi trivial]
theorem ZfP (l:List ZA) (hl:sm (.sl XE) l):Zax l=some l:=by
 have h1:=Zp hl
 unfold Zax
 have:=Yk (l:=l) (fun k=>(l.take k,(k:Int),())) (step:=fun v=>VU l v.1 v.2.1) (good:=l) (fun k x hx hk=>by
  have hs:sm XE x:=QV hl hx
  have e1:=V7 (ZA.Zg6 x) (Zp (t:=.int .i64) hs.1)
  have e2:=V7 (ZA.Loads x) (Zp (t:=.int .i64) hs.2.1)
  have e3:=V7 (ZA.Values x) (Zp (t:=.int .i64) hs.2.2.1)
  have hg:((l.take k).length+[(ZA.Zg6 x,ZA.Loads x,ZA.Values x,())].length)*72≤140737488355328:=by rw [List.length_take,List.length_singleton];omega
  simp only [VU,show (k:Int)<(l.length:Int) by omega,if_true,Zu,hx,Bq,e1,e2,e3,Zi hg,Xx (show k≤1048576 by omega)]
  rw [Z8 hx]) (by
  simp only [VU,Int.lt_irrefl,if_false,List.take_length])
 simpa using this
theorem ZjO (a:Zo) (ha:sm Xh a):Vq a=some a:=by
 have hc:=Zqk ha
 have h1:=Zp hc
 unfold Vq
 have:=Yk (l:=Zo.Cells a) (fun k=>((k:Int),(Zo.Cells a).take k,())) (step:=fun v=>XC a v.1 v.2.1) (good:=a) (fun k x hx hk=>by
  have hs:sm QL x:=QV hc hx
  have p1:sm (.sl ZgP) (Zm.Yw x):=hs.2.2.1
  have p2:sm (.sl Zib) (Zm.JQ x):=hs.2.2.2.1
  have p3:sm (.sl (.int .i64)) (Zm.Truth x):=hs.2.2.2.2.1
  have l1:=Zp p1
  have l2:=Zp p2
  have l3:=Zp p3
  simp only [XC,show (k:Int)<((Zo.Cells a).length:Int) by omega,if_true,Zu,hx,Bq]
  unfold QB QA
  rw [Zi (by rw [List.length_nil];omega),Bq,V7 _ l3,Bq,Zi (by rw [List.length_nil];omega),Bq]
  simp only [List.nil_append]
  have hg:∀ y:Zm,(((Zo.Cells a).take k).length+[y].length)*112≤140737488355328:=fun y=>by rw [List.length_take,List.length_singleton];omega
  refine Yk (l:=Zm.JQ x) (fun j=>((j:Int),(Zm.JQ x,(j:Int)),())) (fun j y hy hj=>?_) ?_
  ·obtain ⟨q1,q2⟩:=ZyN (QV p2 hy)
   simp only [Qi,show (j:Int)<((Zm.JQ x).length:Int) by omega,if_true,Zu,hy,Bq,Int.le_refl,ZfP _ q1,ZfP _ q2,Zi trivial,Xx (show j≤1048576 by omega),Int.toNat_natCast]
   rw [show List.set (Zm.JQ x) j (ZJ.Kind y,ZJ.From y,ZJ.To y,ZJ.ZbJ y,ZJ.Delay y,ZJ.ZdS y,())=Zm.JQ x from ZaY hy]
   rfl
  ·simp only [Qi,Int.lt_irrefl,if_false,Zi trivial,Zi (hg _),Xx (show k≤1048576 by omega)]
   rw [Z8 hx]) (by
  simp only [XC,Int.lt_irrefl,if_false,List.take_length])
 simpa using this
theorem Zf8 (b:Za) (hb:sm Y3 b):Zcl b=some b:=by
 obtain ⟨b1,b2,b3⟩:=JW hb
 have h1:=Zp b3
 unfold Zcl
 rw [ZjO _ b1,Bq,ZjZ _ b2,Bq]
 have:=Yk (l:=Za.Zz b) (fun k=>((k:Int),(Za.Zz b).take k,())) (step:=fun v=>VQ b (Za.Library b) (Za.Design b) v.1 v.2.1) (good:=b) (fun k x hx hk=>by
  have hg:(((Za.Zz b).take k).length+[x].length)*96≤140737488355328:=by rw [List.length_take,List.length_singleton];omega
  simp only [VQ,show (k:Int)<((Za.Zz b).length:Int) by omega,if_true,Zu,hx,Bq,Zdc x (QV b3 hx),Zi hg,Xx (show k≤1048576 by omega)]
  rw [Z8 hx]) (by
  simp only [VQ,Int.lt_irrefl,if_false,List.take_length])
 simpa using this
/-
  Plain laws: the nodes of all sinks, by key (program) and by place (reference).
-/
theorem ZzI {pl:List Pl} {k:Nat} {p:Pl} (hp:pl[k]?=some p) (h2:p.2.2.2.1=false):nth pl p.2.2.1 (k+1)=nth pl p.2.2.1 k+1:=by
 unfold nth
 rw [ZgU hp,Zja rfl h2,List.length_append,List.length_singleton]
theorem Zzo {pl:List Pl} {net:Int} {k:Nat} {p:Pl} (hp:pl[k]?=some p) (h:¬(p.2.2.1=net∧p.2.2.2.1=false)):nth pl net (k+1)=nth pl net k:=by
 unfold nth
 rw [ZgU hp,Zi0 h,List.append_nil]
def seen (pl:List Pl) (n k:Nat):List Int:=(List.range n).map (fun (v:Nat)=>((nth pl (v:Int) k:Nat):Int))
theorem Zop {pl:List Pl} {n k v:Nat} (hv:v<n):(seen pl n k)[v]?=some ((nth pl (v:Int) k:Nat):Int):=by
 unfold seen
 rw [List.getElem?_map,List.getElem?_range hv];rfl
theorem Zws (pl:List Pl) (n:Nat):List.replicate n (0:Int)=seen pl n 0:=by
 apply List.ext_getElem?
 intro v
 by_cases hv:v<n
 ·rw [Zop hv,List.getElem?_replicate,if_pos hv]
  unfold nth
  simp [cat]
 ·rw [List.getElem?_eq_none (by simp;omega),List.getElem?_eq_none (by unfold seen;simp;omega)]
theorem Zyq {pl:List Pl} {n k:Nat} {p:Pl} (hp:pl[k]?=some p) (h2:p.2.2.2.1=false) (h0:0≤p.2.2.1) (h1:p.2.2.1<(n:Int)):(seen pl n k).set p.2.2.1.toNat (((nth pl p.2.2.1 k+1:Nat):Int))=seen pl n (k+1):=by
 apply List.ext_getElem?
 intro v
 by_cases hv:v<n
 ·rw [List.getElem?_set,Zop hv,Zop hv]
  split
  ·rename_i e
   rw [if_pos (by unfold seen;simp;omega)]
   subst e
   rw [show ((p.2.2.1.toNat:Nat):Int)=p.2.2.1 by omega,ZzI hp h2]
  ·rename_i e
   rw [Zzo hp (fun q=>e (by have:=q.1;omega))]
 ·rw [List.getElem?_eq_none (by unfold seen;simp;omega),List.getElem?_eq_none (by unfold seen;simp;omega)]
theorem ZAf {pl:List Pl} {n k:Nat} {p:Pl} (hp:pl[k]?=some p) (h2:p.2.2.2.1=true):seen pl n (k+1)=seen pl n k:=by
 unfold seen
 apply List.map_congr_left
 intro v _
 rw [Zzo hp (fun q=>by rw [h2] at q;cases q.2)]
theorem Zto {b:Za} (h:VJ b) {k:Nat} {p:Pl} (hp:(places (Za.Design b))[k]?=some p) (h2:p.2.2.2.1=false) :
  ∃ w,atI (Za.Zz b) p.2.2.1=some w∧(Za.Zz b)[p.2.2.1.toNat]?=some w∧atI (Zr.Ze6 w) ((nth (places (Za.Design b)) p.2.2.1 k:Nat):Int)=some (Y1 b k)∧Zbr w ((sinks (Za.Design b) p.2.2.1).length:Int):=by
 have hn:=Je h.ok.1 (List.mem_of_getElem? hp)
 obtain ⟨w,hw1,hw2,hw3⟩:=Zlj h hn
 have hlt:=Zwa hp rfl h2
 have hs:=hw3.2.2.2.1
 have hlt2:nth (places (Za.Design b)) p.2.2.1 k<(Zr.Ze6 w).length:=by
  have:(sinks (Za.Design b) p.2.2.1).length=(cat (J9 p.2.2.1) 0 (places (Za.Design b))).length:=rfl
  omega
 refine ⟨w,hw2,hw1,?_,hw3⟩
 rw [Zu]
 have e:Y1 b k=((Zr.Ze6 w)[nth (places (Za.Design b)) p.2.2.1 k]?).getD 0:=by
  unfold Y1
  simp only [hp,h2,hw1]
  rfl
 rw [e,List.getElem?_eq_getElem hlt2]
 rfl
theorem Zdw {b:Za} (h:VJ b):QT b=some (J4 (places (Za.Design b)) (Y1 b) (places (Za.Design b)).length):=by
 have hf:=h.ok.1.few
 have hpl:=YW hf
 have h30:=h.ok.1.2.1.2.1
 have hwn:=h.ok.2.1
 have hwl:(Za.Zz b).length≤1048576:=Zp (JW h.sm).2.2
 unfold QT
 rw [Zi (by omega),Zi (by omega),Zi (by omega),Zi (by omega),Z4 _ hf,Bq,Int.toNat_natCast,Zws (places (Za.Design b))]
 refine Yk (l:=places (Za.Design b)) (fun k=>((k:Int),J4 (places (Za.Design b)) (Y1 b) k,seen (places (Za.Design b)) (Za.Zz b).length k,())) (fun k p hp hk=>?_) ?_
 ·simp only [JJ,show (k:Int)<((places (Za.Design b)).length:Int) by omega,if_true,Zu,hp,Bq,Xx (show k≤1048576 by omega)]
  have e1:ZL.drives p=p.2.2.2.1:=rfl
  have e2:ZL.net p=p.2.2.1:=rfl
  by_cases h2:p.2.2.2.1=true
  ·rw [e1,if_pos h2,Znv hp h2,ZAf hp h2]
  ·have h2':p.2.2.2.1=false:=by simpa using h2
   obtain ⟨w,hw1,hw2,hw3,hw4⟩:=Zto h hp h2'
   have hn:=Je h.ok.1 (List.mem_of_getElem? hp)
   have hv:p.2.2.1<((Za.Zz b).length:Int):=by have:=hn.2;omega
   have hs:atI (seen (places (Za.Design b)) (Za.Zz b).length k) p.2.2.1=some ((nth (places (Za.Design b)) p.2.2.1 k:Nat):Int):=by
    refine XI hn.1 ?_
    rw [Zop (by have:=hn.1;omega),show ((p.2.2.1.toNat:Nat):Int)=p.2.2.1 by have:=hn.1;omega]
   have hlt:=Zwa hp rfl h2'
   have hlc:=ZeP p.2.2.1 (places (Za.Design b)) 0
   rw [e1,if_neg h2,e2,hw1,Bq,hs,Bq,hw3,Bq,Xx (show nth (places (Za.Design b)) p.2.2.1 k≤1048576 by omega),Zyq hp h2' hn.1 hv,Zo7 hp h2]
   rfl
 ·simp only [JJ,Int.lt_irrefl,if_false]
/-
  Plain laws: the reference's nodes by place.
-/
theorem ZuP {pl:List Pl} {net:Int}:∀ (n:Nat),n≤pl.length→∀ (i:Nat) (x:Int),(cat (J9 net) 0 (pl.take n))[i]?=some x→
  ∃ (k:Nat) (p:Pl),k<n∧pl[k]?=some p∧x=(k:Int)∧p.2.2.1=net∧p.2.2.2.1=false∧nth pl net k=i
 | 0,_,i,x,h=>by simp [cat] at h
 | n+1,hn,i,x,h=>by
  have hp:pl[n]?=some pl[n]:=List.getElem?_eq_getElem (by omega)
  generalize pl[n]=p at hp
  rw [ZgU hp] at h
  by_cases hi:i<(cat (J9 net) 0 (pl.take n)).length
  ·rw [List.getElem?_append_left hi] at h
   obtain ⟨k,q,a,r⟩:=ZuP n (by omega) i x h
   exact ⟨k,q,by omega,r⟩
  ·rw [List.getElem?_append_right (by omega)] at h
   by_cases hs:p.2.2.1=net∧p.2.2.2.1=false
   ·rw [Zja hs.1 hs.2] at h
    have h0:=(List.getElem?_eq_some_iff.1 h).1
    rw [List.length_singleton] at h0
    rw [show i-(cat (J9 net) 0 (pl.take n)).length=0 by omega] at h
    injection h with h
    exact ⟨n,p,by omega,hp,h.symm,hs.1,hs.2,by unfold nth;omega⟩
   ·rw [Zi0 hs] at h
    cases h
theorem ZrA {pl:List Pl} {net:Int} {i:Nat} {x:Int} (h:(cat (J9 net) 0 pl)[i]?=some x) :
  ∃ (k:Nat) (p:Pl),pl[k]?=some p∧x=(k:Int)∧p.2.2.1=net∧p.2.2.2.1=false∧nth pl net k=i:=by
 obtain ⟨k,p,_,r⟩:=ZuP (pl:=pl) (net:=net) pl.length (Nat.le_refl _) i x (by rw [List.take_length];exact h)
 exact ⟨k,p,r⟩
def filled (b:Za) (P:Nat→Pl→Bool):List Int:=cat (fun k p=>[if P k p=true then Y1 b k else 0]) 0 (places (Za.Design b))
theorem ZbD (b:Za) (P:Nat→Pl→Bool) (k:Nat):(filled b P)[k]?=((places (Za.Design b))[k]?).map (fun p=>if P k p=true then Y1 b k else 0):=by
 unfold filled
 rw [Zbh,Nat.zero_add]
theorem Znh (b:Za) (P:Nat→Pl→Bool):(filled b P).length=(places (Za.Design b)).length:=Jv _ _
theorem Znx {b:Za} {P Q:Nat→Pl→Bool} (h:∀ (k:Nat) (p:Pl),(places (Za.Design b))[k]?=some p→P k p=Q k p):filled b P=filled b Q:=by
 apply List.ext_getElem?
 intro k
 rw [ZbD,ZbD]
 cases hp:(places (Za.Design b))[k]? with
 | none=>rfl
 | some p=>simp only [Option.map_some,h k p hp]
def Zyj (v:Nat) (k:Nat) (p:Pl):Bool:=decide (p.2.2.1<(v:Int))&&!p.2.2.2.1
def pIn (b:Za) (v i:Nat) (k:Nat) (p:Pl):Bool:=!p.2.2.2.1&&(decide (p.2.2.1<(v:Int))||(decide (p.2.2.1=(v:Int))&&decide (nth (places (Za.Design b)) (v:Int) k<i)))
def J8 (b:Za):List Int:=filled b (fun _ _=>true)
theorem Zhj {b:Za} {k:Nat} (hk:k<(places (Za.Design b)).length):(J8 b)[k]?=some (Y1 b k):=by
 unfold J8
 rw [ZbD,List.getElem?_eq_getElem hk]
 rfl
theorem JR (b:Za):(J8 b).length=(places (Za.Design b)).length:=Znh _ _
theorem Zcx {b:Za} (h:VJ b):Zaf b=some (J8 b):=by
 have hf:=h.ok.1.few
 have hpl:=YW hf
 have h30:=h.ok.1.2.1.2.1
 have hwn:=h.ok.2.1
 have hwl:(Za.Zz b).length≤1048576:=Zp (JW h.sm).2.2
 have first:List.replicate (places (Za.Design b)).length (0:Int)=filled b (Zyj 0):=by
  apply List.ext_getElem?
  intro k
  rw [ZbD,List.getElem?_replicate]
  split
  ·rename_i hk
   have hp:=List.getElem?_eq_getElem hk
   rw [hp]
   have hn:=(Je h.ok.1 (List.mem_of_getElem? hp)).1
   rw [Option.map_some,if_neg]
   unfold Zyj
   simp only [Bool.and_eq_true,decide_eq_true_eq,not_and]
   intro q;omega
  ·rw [List.getElem?_eq_none (by omega)];rfl
 have last:filled b (Zyj (Za.Zz b).length)=J8 b:=by
  apply List.ext_getElem?
  intro k
  unfold J8
  rw [ZbD,ZbD]
  cases hp:(places (Za.Design b))[k]? with
  | none=>rfl
  | some p =>
   have hn:=(Je h.ok.1 (List.mem_of_getElem? hp)).2
   simp only [Option.map_some,if_true]
   by_cases h2:p.2.2.2.1=true
   ·have:Y1 b k=0:=by unfold Y1;simp only [hp,h2,if_true]
    simp only [this,ite_self]
   ·rw [if_pos]
    unfold Zyj
    simp only [Bool.and_eq_true,decide_eq_true_eq,Bool.not_eq_true']
    exact ⟨by omega,by simpa using h2⟩
 unfold Zaf
 rw [YT _ hf,Bq,Zi (by omega),Zi (by omega),Zi (by omega),Zi (by omega),Int.toNat_natCast,first]
 refine Yk (l:=Za.Zz b) (fun v=>((v:Int),filled b (Zyj v),())) (fun v w hw hv=>?_) ?_
 ·simp only [ZcI,show (v:Int)<((Za.Zz b).length:Int) by omega,if_true,Q5 _ _ hf,Bq]
  have e0:filled b (Zyj v)=filled b (pIn b v 0):=Znx fun k p _=>by unfold Zyj pIn;simp [Bool.and_comm]
  have e1:filled b (pIn b v (sinks (Za.Design b) (v:Int)).length)=filled b (Zyj (v+1)):=Znx fun k p hp=>by
   unfold Zyj pIn
   by_cases h2:p.2.2.2.1=true
   ·simp [h2]
   ·have h2':p.2.2.2.1=false:=by simpa using h2
    rw [h2',Bool.not_false,Bool.true_and,Bool.and_true]
    by_cases hq:p.2.2.1=(v:Int)
    ·have hlt:nth (places (Za.Design b)) (v:Int) k<(sinks (Za.Design b) (v:Int)).length:=Zwa hp hq h2'
     rw [decide_eq_true hlt,decide_eq_true hq,decide_eq_true (show p.2.2.1<((v+1:Nat):Int) by omega)]
     simp
    ·rw [decide_eq_false hq,Bool.false_and,Bool.or_false]
     exact decide_eq_decide.2 (by omega)
  rw [e0]
  refine Yk (l:=sinks (Za.Design b) (v:Int)) (fun i=>((i:Int),filled b (pIn b v i),())) (fun i x hx hi=>?_) ?_
  ·obtain ⟨k,p,hp,ex,hn,h2,hnth⟩:=ZrA (pl:=places (Za.Design b)) hx
   obtain ⟨w',hw1,hw2,hw3,hw4⟩:=Zto h hp h2
   have hk:=(List.getElem?_eq_some_iff.1 hp).1
   have hlc:=ZeP (v:Int) (places (Za.Design b)) 0
   have hlc2:(sinks (Za.Design b) (v:Int)).length≤(places (Za.Design b)).length:=hlc
   rw [hn,hnth] at hw3
   rw [hn] at hw1
   have hfk:(filled b (pIn b v i))[k]?=some ((filled b (pIn b v i))[k]'(by rw [Znh];exact hk)):=List.getElem?_eq_getElem _
   simp only [ZcP,show (i:Int)<((sinks (Za.Design b) (v:Int)).length:Int) by omega,if_true,Zu,hx,Bq,←Zu (Za.Zz b),hw1,←Zu (Zr.Ze6 w'),hw3,Xx (show i≤1048576 by omega)]
   subst ex
   rw [Zu,hfk,Bq,Int.toNat_natCast]
   have:List.set (filled b (pIn b v i)) k (Y1 b k)=filled b (pIn b v (i+1)):=by
    apply List.ext_getElem?
    intro j
    rw [List.getElem?_set,Znh]
    split
    ·rename_i e
     subst e
     rw [ZbD,hp,Option.map_some,if_pos]
     unfold pIn
     rw [h2,hnth]
     simp [hn]
    ·rename_i e
     rw [ZbD,ZbD]
     cases hq:(places (Za.Design b))[j]? with
     | none=>rfl
     | some q =>
      have:pIn b v i j q=pIn b v (i+1) j q:=by
       unfold pIn
       by_cases h3:q.2.2.2.1=true
       ·simp [h3]
       ·have h3':q.2.2.2.1=false:=by simpa using h3
        by_cases hqn:q.2.2.1=(v:Int)
        ·have hne:nth (places (Za.Design b)) (v:Int) j≠i:=by
          intro hh
          have h4:=Zmw hq hqn h3'
          rw [hh] at h4
          have h5:(cat (J9 (v:Int)) 0 (places (Za.Design b)))[i]?=some (k:Int):=hx
          rw [h5] at h4
          injection h4 with h4
          omega
         rw [show decide (nth (places (Za.Design b)) (v:Int) j<i)=decide (nth (places (Za.Design b)) (v:Int) j<i+1) from decide_eq_decide.2 (by omega)]
        ·rw [decide_eq_false hqn,Bool.false_and,Bool.false_and]
      rw [Option.map_some,Option.map_some,this]
   rw [this]
  ·simp only [ZcP,Int.lt_irrefl,if_false,Xx (show v≤1048576 by omega),e1]
 ·simp only [ZcI,Int.lt_irrefl,if_false,last]
/-
  Plain laws: sinks put in anew, a place put on another net, a buffer taken away.
-/
def wip (ws:List Zr) (k:Nat):List Zr:=cat (fun j w=>[if j<k then Zd4 w [] else w]) 0 ws
theorem ZmU (ws:List Zr) (k v:Nat):(wip ws k)[v]?=(ws[v]?).map (fun w=>if v<k then Zd4 w [] else w):=by
 unfold wip
 rw [Zbh,Nat.zero_add]
theorem Zz3 (ws:List Zr) (k:Nat):(wip ws k).length=ws.length:=Jv _ _
theorem Zya (ws:List Zr):wip ws 0=ws:=by
 apply List.ext_getElem?
 intro v
 rw [ZmU]
 simp
theorem ZAi (pl:List Pl) (ws:List Zr) (nd:Nat→Int):wip ws ws.length=ZfF pl ws nd 0:=by
 apply List.ext_getElem?
 intro v
 unfold ZfF
 rw [ZmU,Zdh]
 cases hv:ws[v]? with
 | none=>rfl
 | some w =>
  have:=(List.getElem?_eq_some_iff.1 hv).1
  simp only [Option.map_some,if_pos this,List.take_zero,cat,List.map_nil]
theorem Zyt {ws:List Zr} {k:Nat} {w:Zr} (hw:ws[k]?=some w):(wip ws k)[k]?=some w∧(wip ws k).set k (Zd4 w [])=wip ws (k+1):=by
 constructor
 ·rw [ZmU,hw];simp
 ·apply List.ext_getElem?
  intro v
  rw [List.getElem?_set,Zz3]
  split
  ·rename_i e
   subst e
   rw [if_pos (List.getElem?_eq_some_iff.1 hw).1,ZmU,hw,Option.map_some,if_pos (by omega)]
  ·rw [ZmU,ZmU]
   congr 1
   funext w'
   by_cases h:v<k
   ·rw [if_pos h,if_pos (by omega)]
   ·rw [if_neg h,if_neg (by omega)]
theorem Zgh {b:Za} {nodes:Zll} {nd:Nat→Int} (hf:Few (Za.Design b)) (hm:Maps nodes (places (Za.Design b)) nd) (hn:Zkx (places (Za.Design b)) (Za.Zz b).length) (hw:(Za.Zz b).length≤1048576) :
  Qj b nodes=some (Za.Library b,Za.Design b,wired (places (Za.Design b)) (Za.Zz b) nd,()):=by
 have hpl:=YW hf
 unfold Qj
 have:=Yk (l:=Za.Zz b) (fun k=>((k:Int),wip (Za.Zz b) k,())) (step:=fun v=>QM b nodes v.1 v.2.1) (good:=(Za.Library b,Za.Design b,wired (places (Za.Design b)) (Za.Zz b) nd,())) (fun k w hk hlt=>by
  obtain ⟨a1,a2⟩:=Zyt hk
  simp only [QM,show (k:Int)<((Za.Zz b).length:Int) by omega,if_true,Zu,a1,Bq,Xx (show k≤1048576 by omega),Int.toNat_natCast]
  rw [←a2]
  rfl) (by
  simp only [QM,Int.lt_irrefl,if_false,Z4 _ hf,Bq,ZAi (places (Za.Design b)) (Za.Zz b) nd]
  refine Yk (l:=places (Za.Design b)) (fun k=>((k:Int),ZfF (places (Za.Design b)) (Za.Zz b) nd k,())) (fun k p hp hk=>?_) ?_
  ·simp only [JU,show (k:Int)<((places (Za.Design b)).length:Int) by omega,if_true,Zu,hp,Bq,Xx (show k≤1048576 by omega)]
   have e1:ZL.drives p=p.2.2.2.1:=rfl
   have e2:ZL.net p=p.2.2.1:=rfl
   have e3:Zi2 ZaW (Ty.int IntKind.i64) nodes (ZL.instance p,ZL.pin p,())=Zi2 Key (.int .i64) nodes (ZuM p):=rfl
   by_cases h2:p.2.2.2.1=true
   ·rw [e1,if_pos h2,Zs4 hp h2]
   ·have h2':p.2.2.2.1=false:=by simpa using h2
    obtain ⟨h0,h1⟩:=hn p (List.mem_of_getElem? hp) h2'
    have hwk:(Za.Zz b)[p.2.2.1.toNat]?=some ((Za.Zz b)[p.2.2.1.toNat]'(by omega)):=List.getElem?_eq_getElem (by omega)
    obtain ⟨w1,w2⟩:=ZsG (nd:=nd) hp h2' h0 hwk
    have hl:=ZeP p.2.2.1 ((places (Za.Design b)).take k) 0
    rw [e1,if_neg h2,e2,XI h0 w1,Bq,e3,hm k p hp h2',Zi (by
     show ((List.map _ _).length+1)*8≤_
     rw [List.length_map]
     rw [List.length_take] at hl
     omega),←w2]
    rfl
  ·simp only [JU,Int.lt_irrefl,if_false]
   unfold ZfF
   rw [List.take_length])
 rw [Zya] at this
 exact this
theorem Zg7 {b:Za} {k:Nat} {p:Pl} (hp:(places (Za.Design b))[k]?=some p) (n:Int):Vw b (p.1,p.2.1,()) n=some (Za.Library b,conn (Za.Design b) p.1 p.2.1 n,Za.Zz b,()):=by
 unfold Vw conn
 rcases Js hp with ⟨i,j,x,m,hx,hn,e,rfl⟩ | ⟨j,q,hq,e,rfl⟩
 ·have c:¬((i:Int)<0):=by omega
  simp only [ZdG,V4.instance,V4.pin,if_neg c,Zu,hx,Bq,Int.toNat_natCast]
  have hn2:x.2.2.1[j]?=some m:=hn
  rw [hn2]
  rfl
 ·have c:((-1:Int)<0):=by omega
  simp only [V4.instance,V4.pin,if_pos c,Zu,hq,Bq,Int.toNat_natCast]
  rfl
theorem Zmk {d:Zb} (hn:0<(Zb.Instances d).length) {p:Pl} (h:p∈places (XU d)):p∈places d:=by
 have hx:(Zb.Instances d)[(Zb.Instances d).length-1]?=some (Zb.Instances d)[(Zb.Instances d).length-1]:=List.getElem?_eq_getElem (by omega)
 rw [Zjn (s:=[]) hn hx,ZfD]
 unfold places at h
 rcases List.mem_append.1 h with h | h
 ·exact List.mem_append_left _ (List.mem_append_left _ h)
 ·exact List.mem_append_right _ h
theorem Zl0.sink {b:Za} (h:VJ b) (hL:Zl0 b):∃ (k:Nat) (p:Pl),sinks (Za.Design b) (((Zb.ZI (Za.Design b)).length:Int)-1)=[(k:Int)]∧(places (Za.Design b))[k]?=some p∧p.2.2.1=((Zb.ZI (Za.Design b)).length:Int)-1∧p.2.2.2.1=false∧p.1≠((Zb.Instances (Za.Design b)).length:Int)-1:=by
 obtain ⟨x,c,w,m,hn,hx,hc,hk1,hk2,hl2,hm,hl,hne,hnm,hw,hs1,hs2,hp1,hc0⟩:=hL
 match hs:sinks (Za.Design b) (((Zb.ZI (Za.Design b)).length:Int)-1),hs2 with
 | [v],_ =>
  obtain ⟨k,p,hp,e,h1,h2,_⟩:=ZrA (pl:=places (Za.Design b)) (net:=((Zb.ZI (Za.Design b)).length:Int)-1) (i:=0) (x:=v) (by
   show (sinks (Za.Design b) (((Zb.ZI (Za.Design b)).length:Int)-1))[0]?=some v
   rw [hs];rfl)
  subst e
  refine ⟨k,p,rfl,hp,h1,h2,fun q=>?_⟩
  rcases Js hp with ⟨i,j,y,n,hy,hnj,_,rfl⟩ | ⟨j,y,_,_,rfl⟩
  ·simp only [ZdG] at q h1 h2
   have ei:i=(Zb.Instances (Za.Design b)).length-1:=by omega
   rw [ei,hx] at hy
   injection hy with hy
   subst hy
   have hj:=(List.getElem?_eq_some_iff.1 hnj).1
   rw [hl2] at h2 hj
   have:j=0∨j=1:=by omega
   rcases this with rfl | rfl
   ·rw [show atI (Ze.ZI x) 0=(Ze.ZI x)[0]? from rfl,hnj] at hm
    injection hm with hm
    exact hne (hm.symm.trans h1)
   ·exact absurd h2 (by simp only [decide_eq_false_iff_not,Classical.not_not];rw [Jr (by omega) (by omega)];rfl)
  ·simp only at q
   omega
/-
  Plain laws: a buffer taken away; inverse edits.
-/
theorem Zxd {b:Za} (h:VJ b) {k:Nat} {p:Pl} {m:Int} (hn:0<(Zb.Instances (Za.Design b)).length) (hs:sinks (Za.Design b) (((Zb.ZI (Za.Design b)).length:Int)-1)=[(k:Int)]) (hp:(places (Za.Design b))[k]?=some p) (h0:0≤m) (h1:m<((Zb.ZI (Za.Design b)).length:Int)-1) :
  Zkx (places (unD b p m)) ((Za.Zz b).length-1):=by
 have hwn:=h.ok.2.1
 have hD:Zkx (places (conn (Za.Design b) p.1 p.2.1 m)) ((Za.Zz b).length-1):=by
  rw [XW hp]
  intro q hq hd
  obtain ⟨j,hj⟩:=List.getElem?_of_mem hq
  rw [List.getElem?_set] at hj
  split at hj
  ·split at hj
   ·injection hj with hj
    subst hj
    exact ⟨h0,by show m<_;omega⟩
   ·cases hj
  ·rename_i e
   have hnet:=Je h.ok.1 (List.mem_of_getElem? hj)
   refine ⟨hnet.1,?_⟩
   by_cases hq2:q.2.2.1=((Zb.ZI (Za.Design b)).length:Int)-1
   ·have h3:=Zmw hj hq2 hd
    have h4:(sinks (Za.Design b) (((Zb.ZI (Za.Design b)).length:Int)-1))[nth (places (Za.Design b)) (((Zb.ZI (Za.Design b)).length:Int)-1) j]?=some (j:Int):=h3
    rw [hs] at h4
    have h5:=List.mem_of_getElem? h4
    rw [List.mem_singleton] at h5
    exact absurd (by omega) e
   ·have:=hnet.2
    omega
 intro q hq hd
 exact hD q (Zmk (by rw [Xk];exact hn) hq) hd
theorem Zjj {d:Zb} {x:Ze} (hn:0<(Zb.Instances d).length) (hx:(Zb.Instances d)[(Zb.Instances d).length-1]?=some x) (h2:(Ze.ZI x).length=2):Yz (XU d)+2=Yz d:=by
 have h1:=Zt7 hn hx
 unfold Yz
 rw [h1,Zd0,List.length_append]
 simp only [cat,List.append_nil,QG,h2]
theorem Zqu {d:Zb} {x:Ze} (hn:0<(Zb.Instances d).length) (hx:(Zb.Instances d)[(Zb.Instances d).length-1]?=some x) (h2:(Ze.ZI x).length=2):Zfq d ((Zb.Instances d).length-1)=Yz d-2:=by
 have h1:=Zjj hn hx h2
 have:Zfq d ((Zb.Instances d).length-1)=Yz (XU d):=rfl
 omega
theorem ZiA {b:Za} (h:VJ b) (hL:Zl0 b):∃ (k:Nat) (p:Pl) (m v:Int),sinks (Za.Design b) (((Zb.ZI (Za.Design b)).length:Int)-1)=[(k:Int)]∧(places (Za.Design b))[k]?=some p∧p.1≠((Zb.Instances (Za.Design b)).length:Int)-1∧
  (∀ y,(Zb.Instances (Za.Design b))[(Zb.Instances (Za.Design b)).length-1]?=some y→atI (Ze.ZI y) 0=some m)∧v=Y1 b (Yz (Za.Design b)-2)∧
  Zae b=some ((p.1,p.2.1,()),(Za.Library b,unD b p m,wired (places (unD b p m)) ((Za.Zz b).take ((Za.Zz b).length-1)) (Zru (fun j=>if j=k then v else Y1 b j) (Yz (unD b p m))),())):=by
 obtain ⟨k,p,hs,hp,hpn,hpd,hpi⟩:=hL.sink h
 obtain ⟨x,c,w,m,hn,hx,hc,hk1,hk2,hl2,hm,hl,hne,hnm,hw,hs1,hs2,hp1,hc0⟩:=hL
 have hD:=h.ok.1
 have hf:=hD.few
 have hpl:=YW hf
 have h14:=hf.insts
 have h30:=hD.2.1.2.1
 have hwn:=h.ok.2.1
 obtain ⟨_,_,hnet⟩:=hD.2.2.1 x (List.mem_of_getElem? hx)
 have hm0:(Ze.ZI x)[0]?=some m:=hm
 have hmn:=hnet m (List.mem_of_getElem? hm0)
 have hpos:1≤(Zb.ZI (Za.Design b)).length:=by have:=hmn.1;have:=hmn.2;omega
 have hmn2:m<((Zb.ZI (Za.Design b)).length:Int)-1:=by have:=hmn.2;omega
 have hx2:atI (Zb.Instances (Za.Design b)) (((Zb.Instances (Za.Design b)).length:Int)-1)=some x:=XI (by omega) (by rw [←hx];congr 1;omega)
 have t1:Int.toNat (((Zb.Instances (Za.Design b)).length:Int)-1)=(Zb.Instances (Za.Design b)).length-1:=by omega
 have t2:Int.toNat (((Zb.ZI (Za.Design b)).length:Int)-1)=(Zb.ZI (Za.Design b)).length-1:=by omega
 have t3:Int.toNat (((Za.Zz b).length:Int)-1)=(Za.Zz b).length-1:=by omega
 have e:((Za.Library b,(List.set (Zb.Instances (Za.Design b)) ((Zb.Instances (Za.Design b)).length-1) x,(Za.Design b).snd),b.snd.snd):Za)=b:=by rw [ZaY hx]
 refine ⟨k,p,m,(Option.getD (Zi2 Key (Ty.int IntKind.i64) (J4 (places (Za.Design b)) (Y1 b) (places (Za.Design b)).length) ((((Zb.Instances (Za.Design b)).length:Int)-1),(0:Int),())) (0:Int)),hs,hp,hpi,fun y hy=>by rw [hx] at hy;injection hy with hy;rw [←hy];exact hm,?_,?_⟩
 ·have h5:=ZgS hx hm0
  rw [Nat.add_zero,Zqu hn hx hl2] at h5
  have h6:=Zhd (Za.Design b) (Y1 b) _ _ h5 (by
   show decide ((0:Int)=Wq (((Ze.ZI x).length:Int)-1))=false
   rw [hl2,Jr (by omega) (by omega)]
   decide)
  have h7:ZuM (ZdG ((Zb.Instances (Za.Design b)).length-1) x 0 m)=((((Zb.Instances (Za.Design b)).length:Int)-1),(0:Int),()):=by
   show ((((Zb.Instances (Za.Design b)).length-1:Nat):Int),(0:Int),())=_
   rw [show (((Zb.Instances (Za.Design b)).length-1:Nat):Int)=((Zb.Instances (Za.Design b)).length:Int)-1 by omega]
  rw [h7] at h6
  rw [h6]
  rfl
 unfold Zae
 rw [Zdw h,Bq,Z4 _ hf,Bq,show Xr (Zb.ZI (Za.Design b))=some ((Zb.ZI (Za.Design b)).length:Int) from rfl,Bq,
  Jr (n:=((Zb.ZI (Za.Design b)).length:Int)-1) (by omega) (by omega),Ze2 _ _ hf,Bq,hs,show atI [(k:Int)] 0=some (k:Int) from rfl,Bq,Zu,hp,Bq,
  Jr (n:=((Zb.Instances (Za.Design b)).length:Int)-1) (by omega) (by omega),hx2,Bq,show x.snd.snd.fst=Ze.ZI x from rfl,hm,Bq,t1,e,
  show (ZL.instance p,ZL.pin p,())=(p.1,p.2.1,()) from rfl,Zg7 hp m,Bq]
 have eD:Za.Design ((Za.Library b,conn (Za.Design b) p.1 p.2.1 m,Za.Zz b,()):Za)=conn (Za.Design b) p.1 p.2.1 m:=rfl
 have eW:Za.Zz ((Za.Library b,conn (Za.Design b) p.1 p.2.1 m,Za.Zz b,()):Za)=Za.Zz b:=rfl
 have eL:Za.Library ((Za.Library b,conn (Za.Design b) p.1 p.2.1 m,Za.Zz b,()):Za)=Za.Library b:=rfl
 rw [eD,eW,eL,QJ,Jr (n:=((Zb.ZI (Za.Design b)).length:Int)-1) (by omega) (by omega),Jr (n:=((Za.Zz b).length:Int)-1) (by omega) (by omega),t2,t3,
  Zi (by omega),Zi (by rw [Xk];omega),Zi (by omega),Zi (by omega),Zi (by omega),Zi (by omega)]
 simp only [Int.toNat_zero,Nat.sub_zero,List.drop_zero]
 have hB:((Za.Library b,(List.take ((Zb.Instances (Za.Design b)).length-1) (Zb.Instances (conn (Za.Design b) p.1 p.2.1 m)),List.take ((Zb.ZI (Za.Design b)).length-1) (Zb.ZI (Za.Design b)),(conn (Za.Design b) p.1 p.2.1 m).snd.snd),List.take ((Za.Zz b).length-1) (Za.Zz b),()):Za)
   = (Za.Library b,unD b p m,List.take ((Za.Zz b).length-1) (Za.Zz b),()):=by
  unfold unD XU
  rw [Xk,QJ]
 rw [hB]
 have hx3:(Zb.Instances (conn (Za.Design b) p.1 p.2.1 m))[(Zb.Instances (conn (Za.Design b) p.1 p.2.1 m)).length-1]?=some ((Zb.Instances (conn (Za.Design b) p.1 p.2.1 m))[(Zb.Instances (conn (Za.Design b) p.1 p.2.1 m)).length-1]'(by rw [Xk];omega)):=List.getElem?_eq_getElem _
 generalize (Zb.Instances (conn (Za.Design b) p.1 p.2.1 m))[(Zb.Instances (conn (Za.Design b) p.1 p.2.1 m)).length-1]'(by rw [Xk];omega)=x' at hx3
 have hx4:(Ze.ZI x').length=2:=by
  obtain ⟨y,hy,_,_,hyl,_⟩:=Zf9 hx3
  rw [Xk,hx] at hy
  injection hy with hy
  rw [hyl,←hy,hl2]
 have hM:=(((Zhd (Za.Design b) (Y1 b)).put hp (Option.getD (Zi2 Key (Ty.int IntKind.i64) (J4 (places (Za.Design b)) (Y1 b) (places (Za.Design b)).length) ((((Zb.Instances (Za.Design b)).length:Int)-1),(0:Int),())) (0:Int))).set hp m)
 rw [←XW hp m] at hM
 have hM2:=hM.cut (by rw [Xk];omega) hx3 hx4
 have hlen:(List.take ((Za.Zz b).length-1) (Za.Zz b)).length=(Za.Zz b).length-1:=by rw [List.length_take];omega
 have:=Zgh (b:=(Za.Library b,unD b p m,List.take ((Za.Zz b).length-1) (Za.Zz b),())) (hf.conn p.1 p.2.1 m).cut hM2 (by
  show Zkx (places (unD b p m)) (List.take ((Za.Zz b).length-1) (Za.Zz b)).length
  rw [hlen]
  exact Zxd h hn hs hp hmn.1 hmn2) (by
  show (List.take ((Za.Zz b).length-1) (Za.Zz b)).length≤_
  rw [hlen];omega)
 exact Eq.trans (congrArg (fun o=>Option.bind o fun connect0=>some ((p.1,p.2.1,()),connect0)) this) rfl
/-
  Plain laws: inverse edits.
-/
theorem ZIu {α:Type} {p:α→Bool} {l:List α} {k:Nat} {x:α} (hx:l[k]?=some x) (hp:p x=true) (hf:∀ (j:Nat) (y:α),j<k→l[j]?=some y→p y=false):Za6 p l=(k:Int):=by
 have hk:=(List.getElem?_eq_some_iff.1 hx)
 have:l.findIdx? p=some k:=by
  rw [List.findIdx?_eq_some_iff_getElem]
  refine ⟨hk.1,by rw [hk.2];exact hp,fun j hj=>?_⟩
  have:=hf j (l[j]'(by have:=hk.1;omega)) hj (List.getElem?_eq_getElem _)
  simp [this]
 unfold Za6
 rw [this]
theorem ZIr (d:Zb) (hf:Few d) {k:Nat} {p:Pl} (hp:(places d)[k]?=some p):ZJc d p.1 p.2.1=some (k:Int):=by
 have hpl:=YW hf
 unfold ZJc
 rw [Z4 _ hf,Bq,ZIR (l:=places d) (f:=(p.1,p.2.1,())) (show (places d).length≤_ by omega) (fun q=>decide (q.1=p.1)&&decide (q.2.1=p.2.1)) (fun q _=>by
  unfold ZJg
  show (if q.1=p.1 then some (decide (q.2.1=p.2.1)) else some false)=_
  by_cases h1:q.1=p.1
  ·rw [if_pos h1,decide_eq_true h1,Bool.true_and]
  ·rw [if_neg h1,decide_eq_false h1,Bool.false_and]),Bq]
 congr 1
 refine ZIu hp (by simp) (fun j y hj hy=>?_)
 cases hq:(decide (y.1=p.1)&&decide (y.2.1=p.2.1)) with
 | false=>rfl
 | true =>
  simp only [Bool.and_eq_true,decide_eq_true_eq] at hq
  have:=key_inj hy hp hq.1 hq.2
  omega
theorem ZIv {b:Za} (hn:0<(Zb.Instances (Za.Design b)).length) {x:Ze} (hx:(Zb.Instances (Za.Design b))[(Zb.Instances (Za.Design b)).length-1]?=some x) (hl2:(Ze.ZI x).length=2) {k:Nat} {p:Pl} {m:Int} (hp:(places (Za.Design b))[k]?=some p) (hpi:p.1≠((Zb.Instances (Za.Design b)).length:Int)-1) :
  (p.1<0→2≤k)∧(places (unD b p m))[if p.1<0 then k-2 else k]?=some (p.1,p.2.1,m,p.2.2.2.1,()):=by
 have hD:(places (conn (Za.Design b) p.1 p.2.1 m))[k]?=some (p.1,p.2.1,m,p.2.2.2.1,()):=by
  rw [XW hp,List.getElem?_set_self (List.getElem?_eq_some_iff.1 hp).1]
 have hn2:0<(Zb.Instances (conn (Za.Design b) p.1 p.2.1 m)).length:=by rw [Xk];exact hn
 have hx3:(Zb.Instances (conn (Za.Design b) p.1 p.2.1 m))[(Zb.Instances (conn (Za.Design b) p.1 p.2.1 m)).length-1]?=some ((Zb.Instances (conn (Za.Design b) p.1 p.2.1 m))[(Zb.Instances (conn (Za.Design b) p.1 p.2.1 m)).length-1]'(by omega)):=List.getElem?_eq_getElem _
 generalize (Zb.Instances (conn (Za.Design b) p.1 p.2.1 m))[(Zb.Instances (conn (Za.Design b) p.1 p.2.1 m)).length-1]'(by omega)=x' at hx3
 have hx4:(Ze.ZI x').length=2:=by
  obtain ⟨y,hy,_,_,hyl,_⟩:=Zf9 hx3
  rw [Xk,hx] at hy
  injection hy with hy
  rw [hyl,←hy,hl2]
 have hin:=Zt7 hn2 hx3
 have hil:Yz (conn (Za.Design b) p.1 p.2.1 m)=Yz (unD b p m)+2:=by
  unfold Yz unD
  rw [hin,Zd0,List.length_append]
  simp only [cat,List.append_nil,QG,hx4]
 rcases Js hD with ⟨i,j,y,n,hy,hnj,e,hq⟩ | ⟨j,q,hq,e,hq2⟩
 ·have e1:p.1=(i:Int):=by
   have:=congrArg Prod.fst hq
   simpa [ZdG] using this
  have hi:=(List.getElem?_eq_some_iff.1 hy).1
  rw [Xk] at hi
  refine ⟨fun h=>by omega,?_⟩
  rw [if_neg (by omega)]
  have hy2:(Zb.Instances (unD b p m))[i]?=some y:=by
   show ((Zb.Instances (conn (Za.Design b) p.1 p.2.1 m)).take _)[i]?=some y
   rw [List.getElem?_take,if_pos (by rw [Xk];omega),hy]
  have h5:=ZgS hy2 hnj
  have e2:Zfq (unD b p m) i=Zfq (conn (Za.Design b) p.1 p.2.1 m) i:=by
   unfold Zfq
   show (cat Y8 0 (((Zb.Instances (conn (Za.Design b) p.1 p.2.1 m)).take _).take i)).length=_
   rw [List.take_take,Nat.min_eq_left (by rw [Xk];omega)]
  rw [e2,←e] at h5
  rw [h5,hq]
 ·have e1:p.1=-1:=congrArg Prod.fst hq2
  refine ⟨fun _=>by omega,?_⟩
  rw [if_pos (by omega)]
  have h5:=ZsR (d:=unD b p m) (x:=x') (s:=[]) (k:=k-2) (by omega)
  rw [hx4,show k-2+2=k by omega] at h5
  rw [←h5]
  unfold unD
  rw [←Zjn hn2 hx3]
  exact hD
theorem ZIt:sm (.sl (.int .i64)) ([]:List Int):=⟨by simp,fun _ _=>trivial⟩
theorem ZIq:sm Vv (([]:List Int),([]:List Int),([]:List Int),([]:List Int),()):=⟨ZIt,ZIt,ZIt,ZIt,trivial⟩
theorem ZIp:sm .str ([]:List UInt8):=by show ((0:Nat):Int)≤_;omega
theorem ZIs {a b c d e:Int} {s:List UInt8} {w:Zr} (hs:sm .str s) (hw:sm Vv w):sm XL (a,b,c,d,e,s,w,()):=⟨trivial,trivial,trivial,trivial,trivial,hs,hw,trivial⟩
/-
  Plain laws: inverse edits: the program and the reference.
-/
theorem Zvx {b:Za} {e:Zh} (h:Znn b e):∃ r,ZJb e b=some r∧Zdt b e=some r∧sm XL r:=by
 have hB:=h.blk
 have hf:=hB.ok.1.few
 have hpl:=YW hf
 have h30:=hB.ok.1.2.1.2.1
 have hwn:=hB.ok.2.1
 obtain ⟨b1,b2,b3⟩:=JW hB.sm
 unfold ZJb Zdt
 rw [YT _ hf,Bq]
 by_cases k1:Zh.Kind e=1
 ·obtain ⟨p,x,c,c2,hp,h0,_,hx,_⟩:=h.poss.1 k1
  rw [if_pos k1,if_pos k1,Z4 _ hf,Bq,hp.at,Bq]
  have e1:ZL.instance p=p.1:=rfl
  have e2:ZF.instance p=p.1:=rfl
  simp only [e1,e2,hx,Bq]
  exact ⟨_,rfl,rfl,ZIs ZIp ZIq⟩
 rw [if_neg k1,if_neg k1]
 by_cases k2:Zh.Kind e=2
 ·rw [if_pos k2,if_pos k2]
  exact ⟨_,rfl,rfl,ZIs ZIp ZIq⟩
 rw [if_neg k2,if_neg k2]
 by_cases k3:Zh.Kind e=3
 ·rw [if_pos k3,if_pos k3]
  have hL:=h.poss.2.2.1 k3
  obtain ⟨hn,x,hx,hl2⟩:=hL.two
  obtain ⟨k,p,m,v,hs,hp,hpi,_,_,hun⟩:=ZiA hB hL
  have h14:=hf.insts
  have hx2:atI (Zb.Instances (Za.Design b)) (((Zb.Instances (Za.Design b)).length:Int)-1)=some x:=XI (by omega) (by rw [←hx];congr 1;omega)
  obtain ⟨hk2,hpu⟩:=ZIv (m:=m) hn hx hl2 hp hpi
  have hk:=(List.getElem?_eq_some_iff.1 hp).1
  have hpo:=ZIr (unD b p m) (hf.conn p.1 p.2.1 m).cut hpu
  have hsx:sm Yq x:=QV (Za4 b2).1 hx
  rw [Zf8 _ hB.sm,Bq,hun,Bq,Jr (n:=((Zb.Instances (Za.Design b)).length:Int)-1) (by omega) (by omega),hx2,Bq,Bq,
   Jr (n:=((Za.Zz b).length:Int)-1) (by omega) (by omega),hwn,Q5 _ _ hf,Bq,hs,show atI [(k:Int)] 0=some (k:Int) from rfl,Bq,Zu,hp,Bq]
  have hpo2:ZJc (Za.Design ((Za.Library b,unD b p m,wired (places (unD b p m)) ((Za.Zz b).take ((Za.Zz b).length-1)) (Zru (fun j=>if j=k then v else Y1 b j) (Yz (unD b p m))),()):Za)) p.1 p.2.1=some (((if p.1<0 then k-2 else k:Nat):Nat):Int):=hpo
  rw [show ZF.instance p=p.1 from rfl]
  refine ⟨(2,(((if p.1<0 then k-2 else k:Nat):Nat):Int),Ze.Cell x,0,0,Ze.Name x,([],[],[],[],()),()),?_,?_,ZIs (Zkk hsx).1 ZIq⟩
  ·exact congrArg (fun o=>Option.bind o _) hpo2
  ·by_cases q:p.1<0
   ·have:=hk2 q
    have t:((k-2:Nat):Int)=(k:Int)-2:=by omega
    rw [if_pos q,if_pos q,Jr (by omega) (by omega),t]
   ·rw [if_neg q,if_neg q]
 rw [if_neg k3,if_neg k3]
 by_cases k4:Zh.Kind e=4
 ·obtain ⟨p,hp,h2,_⟩:=h.poss.2.2.2.1 k4
  have hk:=(List.getElem?_eq_some_iff.1 hp.2).1
  have hm:=Zhd (Za.Design b) (Y1 b) (Zh.Place e).toNat p hp.2 h2
  rw [if_pos k4,if_pos k4,Z4 _ hf,Bq,hp.at,Bq,Zdw hB,Bq,Bq,Zcx hB,Bq,XI hp.1 (Zhj hk),Bq]
  rw [show Zi2 ZaW (Ty.int IntKind.i64) (J4 (places (Za.Design b)) (Y1 b) (places (Za.Design b)).length) (ZL.instance p,ZL.pin p,())=some (Y1 b (Zh.Place e).toNat) from hm]
  exact ⟨_,rfl,rfl,ZIs ZIp ZIq⟩
 ·have k5:Zh.Kind e=5:=by have:=h.blank;unfold Blank at this;omega
  obtain ⟨w,hw1,hw2,_⟩:=Zlj hB (h.range.2.2 k5)
  have hsw:sm Vv w:=QV b3 hw1
  rw [if_neg k4,if_neg k4,hw2,Bq,Bq,Zdc _ hsw,Zgk _ hsw]
  exact ⟨_,rfl,rfl,ZIs ZIp hsw⟩
/-
  Plain laws: inverse edits: the reference is total.
-/
theorem ZIw {b:Za} {e:Zh} (h:Znn b e):∃ r,Zdt b e=some r:=by
 have hB:=h.blk
 have hf:=hB.ok.1.few
 have hpl:=YW hf
 have h30:=hB.ok.1.2.1.2.1
 have hwn:=hB.ok.2.1
 obtain ⟨b1,b2,b3⟩:=JW hB.sm
 unfold Zdt
 rw [YT _ hf,Bq]
 by_cases k1:Zh.Kind e=1
 ·obtain ⟨p,x,c,c2,hp,h0,_,hx,_⟩:=h.poss.1 k1
  rw [if_pos k1,hp.at,Bq]
  have e2:ZF.instance p=p.1:=rfl
  simp only [e2,hx,Bq]
  exact ⟨_,rfl⟩
 rw [if_neg k1]
 by_cases k2:Zh.Kind e=2
 ·rw [if_pos k2]
  exact ⟨_,rfl⟩
 rw [if_neg k2]
 by_cases k3:Zh.Kind e=3
 ·rw [if_pos k3]
  have hL:=h.poss.2.2.1 k3
  obtain ⟨hn,x,hx,hl2⟩:=hL.two
  obtain ⟨k,p,m,v,hs,hp,hpi,_,_,hun⟩:=ZiA hB hL
  have h14:=hf.insts
  have hx2:atI (Zb.Instances (Za.Design b)) (((Zb.Instances (Za.Design b)).length:Int)-1)=some x:=XI (by omega) (by rw [←hx];congr 1;omega)
  rw [Jr (n:=((Zb.Instances (Za.Design b)).length:Int)-1) (by omega) (by omega),hx2,Bq,
   Jr (n:=((Za.Zz b).length:Int)-1) (by omega) (by omega),hwn,Q5 _ _ hf,Bq,hs,show atI [(k:Int)] 0=some (k:Int) from rfl,Bq,Zu,hp,Bq]
  split<;>exact ⟨_,rfl⟩
 rw [if_neg k3]
 by_cases k4:Zh.Kind e=4
 ·obtain ⟨p,hp,h2,_⟩:=h.poss.2.2.2.1 k4
  have hk:=(List.getElem?_eq_some_iff.1 hp.2).1
  rw [if_pos k4,hp.at,Bq,Zcx hB,Bq,XI hp.1 (Zhj hk),Bq]
  exact ⟨_,rfl⟩
 ·have k5:Zh.Kind e=5:=by have:=h.blank;unfold Blank at this;omega
  obtain ⟨w,hw1,hw2,_⟩:=Zlj hB (h.range.2.2 k5)
  have hsw:sm Vv w:=QV b3 hw1
  rw [if_neg k4,hw2,Bq,Zgk _ hsw]
  exact ⟨_,rfl⟩
/-
  Plain laws: designs stay valid when a place is put on another net, when a buffer is added or taken away.
-/
theorem Zbr.put {w:Zr} {s:Int} (h:Zbr w s) {l:List Int} (hl:ZiJ l 0 (((Zr.Parent w).length:Int)-1)):Zbr (Zd4 w l) (l.length:Int) :=
 ⟨h.1,h.2.1,h.2.2.1,rfl,h.2.2.2.2.1,h.2.2.2.2.2.1,h.2.2.2.2.2.2.1,hl⟩
def Fits (pl:List Pl) (ws:List Zr) (nd:Nat→Int):Prop:=∀ (k:Nat) (p:Pl) (w:Zr),pl[k]?=some p→p.2.2.2.1=false→ws[p.2.2.1.toNat]?=some w→0≤nd k∧nd k≤((Zr.Parent w).length:Int)-1
theorem ZqY {pl:List Pl} {ws:List Zr} {nd:Nat→Int} (hw:∀ (v:Nat) (w:Zr),ws[v]?=some w→∃ s,Zbr w s) (hf:Fits pl ws nd) :
  ZeY (wired pl ws nd) (fun v w=>Zbr w ((cat (J9 (v:Int)) 0 pl).length:Int)):=by
 intro v w hv
 rw [Zdh] at hv
 cases hx:ws[v]? with
 | none=>rw [hx] at hv;cases hv
 | some y =>
  rw [hx] at hv
  injection hv with hv
  subst hv
  obtain ⟨s,hs⟩:=hw v y hx
  have:=hs.put (l:=(cat (J9 (v:Int)) 0 pl).map (fun k=>nd k.toNat)) (fun z hz=>by
   obtain ⟨j,hj,rfl⟩:=List.mem_map.1 hz
   obtain ⟨k,p,rfl,hp,h1,h2⟩:=Zwr hj
   exact hf k p y hp h2 (by rw [h1];exact hx))
  rw [List.length_map] at this
  exact this
theorem Zol {b:Za} (h:VJ b):Fits (places (Za.Design b)) (Za.Zz b) (Y1 b):=by
 intro k p w hp h2 hw
 obtain ⟨w',_,hw1,hw2,hw3⟩:=Zto h hp h2
 rw [hw1] at hw
 injection hw with hw
 subst hw
 rw [Zu] at hw2
 exact hw3.2.2.2.2.2.2.2 _ (List.mem_of_getElem? hw2)
theorem Fits.set {pl:List Pl} {ws:List Zr} {nd:Nat→Int} (h:Fits pl ws nd) {k0:Nat} {p0:Pl} (n v:Int) (hv:∀ w,ws[n.toNat]?=some w→0≤v∧v≤((Zr.Parent w).length:Int)-1) :
  Fits (pl.set k0 (p0.1,p0.2.1,n,p0.2.2.2.1,())) ws (fun j=>if j=k0 then v else nd j):=by
 intro k p w hp h2 hw
 rw [List.getElem?_set] at hp
 split at hp
 ·rename_i e
  subst e
  split at hp
  ·injection hp with hp
   subst hp
   show 0≤(if k0=k0 then v else nd k0)∧(if k0=k0 then v else nd k0)≤_
   rw [if_pos rfl]
   exact hv w hw
  ·cases hp
 ·rename_i e
  show 0≤(if k=k0 then v else nd k)∧(if k=k0 then v else nd k)≤_
  rw [if_neg (fun q=>e q.symm)]
  exact h k p w hp h2 hw
theorem X7.snoc {l:List (List UInt8)} {s:List UInt8} (h:X7 l l.length) (h1:VW s=true) (h2:s ∉ l):X7 (l++[s]) (l++[s]).length:=by
 intro j t hj ht
 by_cases e:j<l.length
 ·rw [List.getElem?_append_left e] at ht
  obtain ⟨a,b⟩:=h j t e ht
  refine ⟨a,?_⟩
  rw [List.take_append_of_le_length (by omega)]
  exact b
 ·rw [List.length_append,List.length_singleton] at hj
  have e2:j=l.length:=by omega
  subst e2
  rw [List.getElem?_append_right (by omega),Nat.sub_self] at ht
  injection ht with ht
  subst ht
  refine ⟨h1,?_⟩
  rw [List.take_append_of_le_length (Nat.le_refl _),List.take_length]
  exact h2
theorem X7.take {l:List (List UInt8)} (h:X7 l l.length) (m:Nat):X7 (l.take m) (l.take m).length:=by
 intro j t hj ht
 rw [List.length_take] at hj
 rw [List.getElem?_take,if_pos (by omega)] at ht
 obtain ⟨a,b⟩:=h j t (by omega) ht
 refine ⟨a,?_⟩
 rw [List.take_take,Nat.min_eq_left (by omega)]
 exact b
theorem Zuf (d:Zb) (a b n:Int):Zaa (conn d a b n)=Zaa d:=by
 unfold conn
 split
 ·rfl
 ·show List.map Ze.Name (match (Zb.Instances d)[a.toNat]? with | some x=>(Zb.Instances d).set a.toNat (ZdK x b.toNat n) | none=>Zb.Instances d)=List.map Ze.Name (Zb.Instances d)
  split
  ·rename_i x hx
   rw [List.map_set]
   exact ZaY (by rw [List.getElem?_map,hx];rfl)
  ·rfl
theorem ZsT (d:Zb) (a b n:Int):Zb1 (conn d a b n)=Zb1 d:=by
 unfold conn
 split
 ·show List.map ZR.Name (match (Zb.ZG d)[b.toNat]? with | some x=>(Zb.ZG d).set b.toNat (setPort x n) | none=>Zb.ZG d)=List.map ZR.Name (Zb.ZG d)
  split
  ·rename_i x hx
   rw [List.map_set]
   exact ZaY (by rw [List.getElem?_map,hx];rfl)
  ·rfl
 ·rfl
theorem Zth {d:Zb} {a b n:Int} {i:Nat} {y:ZR} (hy:(Zb.ZG (conn d a b n))[i]?=some y):∃ x,(Zb.ZG d)[i]?=some x∧ZR.Name y=ZR.Name x∧ZR.Dir y=ZR.Dir x∧(ZR.Net y=ZR.Net x∨ZR.Net y=n):=by
 unfold conn at hy
 split at hy
 ·have hy:(match (Zb.ZG d)[b.toNat]? with | some x=>(Zb.ZG d).set b.toNat (setPort x n) | none=>Zb.ZG d)[i]?=some y:=hy
  split at hy
  ·rename_i x hx
   rw [List.getElem?_set] at hy
   split at hy
   ·rename_i e
    split at hy
    ·injection hy with hy
     subst hy
     exact ⟨x,by rw [←e];exact hx,rfl,rfl,.inr rfl⟩
    ·cases hy
   ·exact ⟨y,hy,rfl,rfl,.inl rfl⟩
  ·exact ⟨y,hy,rfl,rfl,.inl rfl⟩
 ·exact ⟨y,hy,rfl,rfl,.inl rfl⟩
theorem Zmv {α:Type} {f:α→Bool} {y:α} (hy:f y=false):∀ {l:List α} {i:Nat} {x:α},l[i]?=some x→f x=false→(l.set i y).filter f=l.filter f
 | [],i,x,h,_=>by simp at h
 | a::l,0,x,h,hx=>by
  have h:a=x:=by simpa using h
  subst h
  simp [List.set,hx,hy]
 | a::l,i+1,x,h,hx=>by
  have:=Zmv hy (l:=l) (i:=i) (by simpa using h) hx
  simp only [List.set_cons_succ,List.filter_cons,this]
theorem Zjs {x:Ze} (h:0<(Ze.ZI x).length):(Ze.ZI x)[(Ze.ZI x).length-1]?=some (XM x):=by
 unfold XM
 rw [List.getLastD_eq_getLast?,←List.getLast?_eq_getElem?]
 cases hN:Ze.ZI x with
 | nil=>rw [hN] at h;simp at h
 | cons y r=>rw [List.getLast?_cons];rfl
theorem Zqn {x:Ze} {j:Nat} {n:Int} (h:j+1≠(Ze.ZI x).length):XM (ZdK x j n)=XM x:=by
 by_cases h0:0<(Ze.ZI x).length
 ·have h1:=Zjs (x:=ZdK x j n) (by show 0<(List.set (Ze.ZI x) j n).length;rw [List.length_set];exact h0)
  have h2:(List.set (Ze.ZI x) j n)[(List.set (Ze.ZI x) j n).length-1]?=some (XM (ZdK x j n)):=h1
  rw [List.length_set,List.getElem?_set,if_neg (by omega),Zjs h0] at h2
  injection h2 with h2
  exact h2.symm
 ·have e:Ze.ZI x=[]:=List.length_eq_zero_iff.1 (by omega)
  unfold XM
  show (List.set (Ze.ZI x) j n).getLastD 0=_
  rw [e];rfl
theorem ZwC {d:Zb} (hf:Few d) {k:Nat} {p:Pl} (hp:(places d)[k]?=some p) (h2:p.2.2.2.1=false) (n:Int):Zpy (conn d p.1 p.2.1 n)=Zpy d:=by
 unfold Zpy
 rcases Js hp with ⟨i,j,x,m,hx,hn,e,rfl⟩ | ⟨j,q,hq,e,rfl⟩
 ·have hl:=hf.nets x (List.mem_of_getElem? hx)
  have hj:=(List.getElem?_eq_some_iff.1 hn).1
  have h3:decide ((j:Int)=Wq (((Ze.ZI x).length:Int)-1))=false:=h2
  rw [Jr (by omega) (by omega)] at h3
  have h4:¬((j:Int)=((Ze.ZI x).length:Int)-1):=of_decide_eq_false h3
  have c:¬((i:Int)<0):=by omega
  have e1:Zb.Instances (conn d (ZdG i x j m).1 (ZdG i x j m).2.1 n)=(Zb.Instances d).set i (ZdK x j n):=by
   unfold conn
   show Zb.Instances (if (i:Int)<0 then _ else _)=_
   rw [if_neg c]
   show (match (Zb.Instances d)[(i:Int).toNat]? with | some x=>(Zb.Instances d).set (i:Int).toNat (ZdK x (j:Int).toNat n) | none=>Zb.Instances d)=_
   simp only [Int.toNat_natCast,hx]
  have e2:Zb.ZG (conn d (ZdG i x j m).1 (ZdG i x j m).2.1 n)=Zb.ZG d:=by
   unfold conn
   show Zb.ZG (if (i:Int)<0 then _ else _)=_
   rw [if_neg c]
  rw [e1,e2,List.map_set,Zqn (by omega),ZaY (by rw [List.getElem?_map,hx];rfl)]
 ·have h3:decide (ZR.Dir q=1)=false:=h2
  have e1:Zb.Instances (conn d (-1) (j:Int) n)=Zb.Instances d:=by
   unfold conn
   rw [if_pos (by omega)]
  have e2:Zb.ZG (conn d (-1) (j:Int) n)=(Zb.ZG d).set j (setPort q n):=by
   unfold conn
   rw [if_pos (by omega)]
   show (match (Zb.ZG d)[(j:Int).toNat]? with | some x=>(Zb.ZG d).set (j:Int).toNat (setPort x n) | none=>Zb.ZG d)=_
   simp only [Int.toNat_natCast,hq]
  show (Zb.Instances (conn d (-1) (j:Int) n)).map XM++((Zb.ZG (conn d (-1) (j:Int) n)).filter (fun p=>decide (ZR.Dir p=1))).map ZR.Net=_
  rw [e1,e2,Zmv (by exact h3) hq h3]
theorem ZtD {a:Zo} {d:Zb} (h:Qh a d) {k:Nat} {p:Pl} (hp:(places d)[k]?=some p) (h2:p.2.2.2.1=false) {n:Int} (hn:ZaX d n):Qh a (conn d p.1 p.2.1 n):=by
 obtain ⟨hl,⟨n1,n2,n3,n4,n5,n6⟩,hi,hq,ho⟩:=h
 have hf:Few d:=Qh.few (a:=a) ⟨hl,⟨n1,n2,n3,n4,n5,n6⟩,hi,hq,ho⟩
 refine ⟨hl,⟨by rw [Xk];exact n1,by rw [QJ];exact n2,by rw [Zhg];exact n3,by rw [Zuf];exact n4,by rw [QJ];exact n5,by rw [ZsT];exact n6⟩,fun y hy=>?_,fun y hy=>?_,?_⟩
 ·obtain ⟨i,hi2⟩:=List.getElem?_of_mem hy
  obtain ⟨x,hx,_,hc,hlen,_,hm⟩:=Zf9 hi2
  obtain ⟨r1,⟨c,r2,r3⟩,r4⟩:=hi x (List.mem_of_getElem? hx)
  refine ⟨by rw [hc];exact r1,⟨c,by rw [hc];exact r2,by rw [hlen];exact r3⟩,fun m hm2=>?_⟩
  unfold ZaX
  rw [QJ]
  rcases hm m hm2 with q | q
  ·exact r4 m q
  ·rw [q];exact hn
 ·obtain ⟨i,hi2⟩:=List.getElem?_of_mem hy
  obtain ⟨x,hx,_,hd,hm⟩:=Zth hi2
  obtain ⟨r1,r2⟩:=hq x (List.mem_of_getElem? hx)
  refine ⟨by rw [hd];exact r1,?_⟩
  unfold ZaX
  rw [QJ]
  rcases hm with q | q
  ·rw [q];exact r2
  ·rw [q];exact hn
 ·unfold Zhr
  rw [QJ,ZwC hf hp h2]
  exact ho
theorem ZuS {a:Zo} {d:Zb} (h:Qh a d):∀ v∈Zpy d,ZaX d v:=by
 have hf:=h.few
 intro v hv
 unfold Zpy at hv
 rcases List.mem_append.1 hv with hv | hv
 ·obtain ⟨x,hx,rfl⟩:=List.mem_map.1 hv
  have:=hf.nets x hx
  exact ((h.2.2.1 x hx).last h.1 (by omega)).2
 ·obtain ⟨q,hq,rfl⟩:=List.mem_map.1 hv
  exact (h.2.2.2.1 q (List.mem_filter.1 hq).1).2
theorem ZmT {d:Zb}:Zhr d↔∀ v:Nat,v<(Zb.ZI d).length→(Zpy d).countP (fun x=>decide (x=(v:Int)))=1:=by
 unfold Zhr
 constructor
 ·intro h v hv
  have:=h _ (List.mem_of_getElem? (Zjo (s:=Zpy d) hv))
  omega
 ·intro h x hx
  obtain ⟨j,hj⟩:=List.getElem?_of_mem hx
  have hlt:=(List.getElem?_eq_some_iff.1 hj).1
  rw [ZhM] at hlt
  rw [Zjo hlt] at hj
  injection hj with hj
  have:=h j hlt
  omega
theorem ZtX {l:List Int} {v:Int} (h:∀ x∈l,x≠v):l.countP (fun x=>decide (x=v))=0:=by
 rw [List.countP_eq_zero]
 intro x hx
 simp [h x hx]
theorem ZBm {a:Zo} {d:Zb} (h:Qh a d) {s:List UInt8} {c m:Int} {cell:Zm} (hs:VW s=true) (h1:s ∉ Zaa d) (h2:s ∉ Zb.ZI d) (h13:(Zb.Instances d).length≤13) (h29:(Zb.ZI d).length≤29)
  (hc0:0≤c) (hc1:c≤((Zo.Cells a).length:Int)-1) (hc:(Zo.Cells a)[c.toNat]?=some cell) (hp:(Zm.Yw cell).length=2) (hm:ZaX d m) :
  Qh a (addInst d (s,c,[m,((Zb.ZI d).length:Int)],()) s):=by
 have hdn:=ZuS h
 obtain ⟨hl,⟨n1,n2,n3,n4,n5,n6⟩,hi,hq,ho⟩:=h
 have eI:Zb.Instances (addInst d (s,c,[m,((Zb.ZI d).length:Int)],()) s)=Zb.Instances d++[(s,c,[m,((Zb.ZI d).length:Int)],())]:=rfl
 have eN:Zb.ZI (addInst d (s,c,[m,((Zb.ZI d).length:Int)],()) s)=Zb.ZI d++[s]:=rfl
 have eP:Zb.ZG (addInst d (s,c,[m,((Zb.ZI d).length:Int)],()) s)=Zb.ZG d:=rfl
 have hnet:∀ n,ZaX d n→ZaX (addInst d (s,c,[m,((Zb.ZI d).length:Int)],()) s) n:=fun n hn=>by
  unfold ZaX at *
  rw [eN,List.length_append,List.length_singleton]
  omega
 refine ⟨hl,⟨by rw [eI,List.length_append,List.length_singleton];omega,by rw [eN,List.length_append,List.length_singleton];omega,n3,?_,by rw [eN];exact n5.snoc hs h2,n6⟩,fun y hy=>?_,fun y hy=>?_,?_⟩
 ·have:Zaa (addInst d (s,c,[m,((Zb.ZI d).length:Int)],()) s)=Zaa d++[s]:=by
   unfold Zaa
   rw [eI,List.map_append]
   rfl
  rw [this]
  exact n4.snoc hs h1
 ·rw [eI] at hy
  rcases List.mem_append.1 hy with hy | hy
  ·obtain ⟨r1,r2,r4⟩:=hi y hy
   exact ⟨r1,r2,fun n hn=>hnet n (r4 n hn)⟩
  ·rw [List.mem_singleton] at hy
   subst hy
   refine ⟨⟨hc0,hc1⟩,⟨cell,hc,by rw [hp];rfl⟩,fun n hn=>?_⟩
   have hn:n∈[m,((Zb.ZI d).length:Int)]:=hn
   rcases List.mem_cons.1 hn with hn | hn
   ·rw [hn];exact hnet m hm
   ·rw [List.mem_singleton] at hn
    subst hn
    unfold ZaX
    rw [eN,List.length_append,List.length_singleton]
    omega
 ·obtain ⟨r1,r2⟩:=hq y hy
  exact ⟨r1,hnet _ r2⟩
 ·rw [ZmT] at ho ⊢
  intro v hv
  rw [eN,List.length_append,List.length_singleton] at hv
  have e:Zpy (addInst d (s,c,[m,((Zb.ZI d).length:Int)],()) s)=(Zb.Instances d).map XM++[((Zb.ZI d).length:Int)]++((Zb.ZG d).filter (fun p=>decide (ZR.Dir p=1))).map ZR.Net:=by
   unfold Zpy
   rw [eI,eP,List.map_append]
   rfl
  have e2:Zpy d=(Zb.Instances d).map XM++((Zb.ZG d).filter (fun p=>decide (ZR.Dir p=1))).map ZR.Net:=rfl
  rw [e,List.countP_append,List.countP_append,List.countP_singleton]
  by_cases hvl:v<(Zb.ZI d).length
  ·have:=ho v hvl
   rw [e2,List.countP_append] at this
   rw [if_neg (by simp;omega)]
   omega
  ·have h0:=ZtX (l:=Zpy d) (v:=(v:Int)) (fun x hx=>by have:=(hdn x hx).2;omega)
   rw [e2,List.countP_append] at h0
   rw [if_pos (by simp;omega)]
   omega
theorem Zz7 {d:Zb} (hf:Few d) {p:Pl} (hp:p∈places d) (h2:p.2.2.2.1=true):p.2.2.1∈Zpy d:=by
 obtain ⟨k,hk⟩:=List.getElem?_of_mem hp
 unfold Zpy
 rcases Js hk with ⟨i,j,x,m,hx,hn,e,rfl⟩ | ⟨j,q,hq,e,rfl⟩
 ·have hl:=hf.nets x (List.mem_of_getElem? hx)
  have hj:=(List.getElem?_eq_some_iff.1 hn).1
  have h3:decide ((j:Int)=Wq (((Ze.ZI x).length:Int)-1))=true:=h2
  rw [Jr (by omega) (by omega)] at h3
  have h4:(j:Int)=((Ze.ZI x).length:Int)-1:=of_decide_eq_true h3
  refine List.mem_append_left _ (List.mem_map.2 ⟨x,List.mem_of_getElem? hx,?_⟩)
  have h5:=Zjs (x:=x) (by omega)
  rw [show (Ze.ZI x).length-1=j by omega,hn] at h5
  injection h5 with h5
  exact h5.symm
 ·have h3:decide (ZR.Dir q=1)=true:=h2
  exact List.mem_append_right _ (List.mem_map.2 ⟨q,List.mem_filter.2 ⟨List.mem_of_getElem? hq,h3⟩,rfl⟩)
theorem ZA8 {a:Zo} {d:Zb} (h:Qh a d) {x:Ze} (hn:0<(Zb.Instances d).length) (hx:(Zb.Instances d)[(Zb.Instances d).length-1]?=some x) (hlx:XM x=((Zb.ZI d).length:Int)-1)
  (hs:∀ p∈places d,p.2.2.2.1=false→p.2.2.1≠((Zb.ZI d).length:Int)-1):Qh a (XU d):=by
 have hdn:=ZuS h
 have hf:=h.few
 have hcut:=Zt7 hn hx
 obtain ⟨hl,⟨n1,n2,n3,n4,n5,n6⟩,hi,hq,ho⟩:=h
 have hpos:1≤(Zb.ZI d).length:=by
  have:=hdn (XM x) (List.mem_append_left _ (List.mem_map.2 ⟨x,List.mem_of_getElem? hx,rfl⟩))
  unfold ZaX at this
  omega
 have eN:(Zb.ZI (XU d)).length=(Zb.ZI d).length-1:=by
  show (List.take ((Zb.ZI d).length-1) (Zb.ZI d)).length=_
  rw [List.length_take];omega
 have eD:Zpy d=(Zb.Instances (XU d)).map XM++[XM x]++((Zb.ZG d).filter (fun p=>decide (ZR.Dir p=1))).map ZR.Net:=by
  unfold Zpy
  rw [hcut,List.map_append]
  rfl
 have eC:Zpy (XU d)=(Zb.Instances (XU d)).map XM++((Zb.ZG d).filter (fun p=>decide (ZR.Dir p=1))).map ZR.Net:=rfl
 have hcnt:∀ v:Int,(Zpy d).countP (fun y=>decide (y=v))=(Zpy (XU d)).countP (fun y=>decide (y=v))+if XM x=v then 1 else 0:=fun v=>by
  rw [eD,eC,List.countP_append,List.countP_append,List.countP_append,List.countP_singleton]
  by_cases q:XM x=v
  ·simp only [q,decide_true,if_true];omega
  ·simp only [q,decide_false,if_false];simp
 rw [ZmT] at ho
 have none:∀ p∈places (XU d),p.2.2.1≠((Zb.ZI d).length:Int)-1:=by
  intro p hp e
  cases h2:p.2.2.2.1 with
  | false=>exact hs p (Zmk hn hp) h2 e
  | true =>
   have h3:=Zz7 hf.cut hp h2
   have h4:=ho ((Zb.ZI d).length-1) (by omega)
   rw [hcnt,if_pos (by omega)] at h4
   have h5:0<(Zpy (XU d)).countP (fun y=>decide (y=(((Zb.ZI d).length-1:Nat):Int))):=List.countP_pos_iff.2 ⟨_,h3,by simp;omega⟩
   omega
 have netC:∀ n,ZaX d n→n≠((Zb.ZI d).length:Int)-1→ZaX (XU d) n:=fun n h1 h2=>by
  unfold ZaX at *
  rw [eN]
  omega
 have eI:∀ i y,(Zb.Instances (XU d))[i]?=some y→(Zb.Instances d)[i]?=some y:=fun i y hy=>by
  rw [hcut,List.getElem?_append_left (List.getElem?_eq_some_iff.1 hy).1]
  exact hy
 refine ⟨hl,⟨by show (List.take _ (Zb.Instances d)).length≤14;rw [List.length_take];omega,by rw [eN];omega,n3,?_,n5.take _,n6⟩,fun y hy=>?_,fun y hy=>?_,?_⟩
 ·have:Zaa (XU d)=(Zaa d).take ((Zb.Instances d).length-1):=by
   unfold Zaa
   show List.map Ze.Name (List.take _ (Zb.Instances d))=_
   rw [List.map_take]
  rw [this]
  exact n4.take _
 ·obtain ⟨i,hy2⟩:=List.getElem?_of_mem hy
  obtain ⟨r1,r2,r4⟩:=hi y (List.mem_of_getElem? (eI i y hy2))
  refine ⟨r1,r2,fun n hn2=>netC n (r4 n hn2) ?_⟩
  obtain ⟨j,hj⟩:=List.getElem?_of_mem hn2
  exact none _ (List.mem_of_getElem? (ZgS hy2 hj))
 ·obtain ⟨r1,r2⟩:=hq y hy
  obtain ⟨j,hj⟩:=List.getElem?_of_mem hy
  exact ⟨r1,netC _ r2 (none _ (List.mem_of_getElem? (Zq3 (d:=XU d) hj)))⟩
 ·rw [ZmT]
  intro v hv
  rw [eN] at hv
  have:=ho v (by omega)
  rw [hcnt,if_neg (by omega)] at this
  exact this
/-
  Plain laws: the blocks that edits make are valid.
-/
theorem Zpa {l:List Int} (h:l.length≤1048576):sm (.sl (.int .i64)) l:=⟨by omega,fun _ _=>trivial⟩
theorem ZpJ {s:List UInt8} {c:Int} {l:List Int} (h1:sm .str s) (h2:l.length≤1048576):sm Yq (s,c,l,()):=⟨h1,trivial,Zpa h2,trivial⟩
theorem ZsS {a b c d:List Int} (h1:a.length≤1048576) (h2:b.length≤1048576) (h3:c.length≤1048576) (h4:d.length≤1048576):sm Vv (a,b,c,d,()):=⟨Zpa h1,Zpa h2,Zpa h3,Zpa h4,trivial⟩
theorem ZhS {a:List Ze} {b:List (List UInt8)} {c:List ZR} (h1:sm (.sl Yq) a) (h2:sm (.sl .str) b) (h3:sm (.sl Zcd) c):sm YG (a,b,c,()):=⟨h1,h2,h3,trivial⟩
theorem Zhl {a:Zo} {b:Zb} {c:List Zr} (h1:sm Xh a) (h2:sm YG b) (h3:sm (.sl Vv) c):sm Y3 (a,b,c,()):=⟨h1,h2,h3,trivial⟩
theorem Zty {d:Zb} (h:sm YG d) (a b n:Int):sm YG (conn d a b n):=by
 obtain ⟨h1,h2,h3⟩:=Za4 h
 have e:conn d a b n=(Zb.Instances (conn d a b n),Zb.ZI (conn d a b n),Zb.ZG (conn d a b n),()):=rfl
 rw [e]
 refine ZhS ⟨by rw [Xk];exact h1.1,fun y hy=>?_⟩ (by rw [QJ];exact h3) ⟨by rw [Zhg];exact h2.1,fun y hy=>?_⟩
 ·obtain ⟨i,hi⟩:=List.getElem?_of_mem hy
  obtain ⟨x,hx,hn,_,hl,_⟩:=Zf9 hi
  obtain ⟨s1,s2⟩:=Zkk (QV h1 hx)
  have s3:=Zp s2
  exact ZpJ (s:=Ze.Name y) (c:=Ze.Cell y) (l:=Ze.ZI y) (by rw [hn];exact s1) (by rw [hl];exact s3)
 ·obtain ⟨i,hi⟩:=List.getElem?_of_mem hy
  obtain ⟨x,hx,hn,_⟩:=Zth hi
  have s1:=Zzq (QV h2 hx)
  have:sm .str (ZR.Name y):=by rw [hn];exact s1
  exact ⟨this,trivial,trivial,trivial⟩
theorem ZAR {d:Zb} (h:sm YG d) (hf:(Zb.Instances d).length≤100) (hn:(Zb.ZI d).length≤100) {x:Ze} {s:List UInt8} (hx:sm Yq x) (hs:sm .str s):sm YG (addInst d x s):=by
 obtain ⟨h1,h2,h3⟩:=Za4 h
 refine ZhS ⟨by rw [List.length_append,List.length_singleton];omega,fun y hy=>?_⟩ ⟨by rw [List.length_append,List.length_singleton];omega,fun y hy=>?_⟩ h2
 ·rcases List.mem_append.1 hy with hy | hy
  ·exact h1.2 y hy
  ·rw [List.mem_singleton] at hy;rw [hy];exact hx
 ·rcases List.mem_append.1 hy with hy | hy
  ·exact h3.2 y hy
  ·rw [List.mem_singleton] at hy;rw [hy];exact hs
theorem ZtL {t:Ty} {l:List t.den} (h:sm (.sl t) l) (m:Nat):sm (.sl t) (l.take m):=by
 have:=h.1
 exact ⟨by rw [List.length_take];omega,fun x hx=>h.2 x (List.mem_of_mem_take hx)⟩
theorem ZBe {d:Zb} (h:sm YG d):sm YG (XU d):=by
 obtain ⟨h1,h2,h3⟩:=Za4 h
 exact ZhS (ZtL h1 _) (ZtL h3 _) h2
theorem Zrw {pl:List Pl} {ws:List Zr} {nd:Nat→Int} (h:sm (.sl Vv) ws) (hp:pl.length≤1048576):sm (.sl Vv) (wired pl ws nd):=by
 have h1:=h.1
 refine ⟨by rw [Zhh];exact h1,fun y hy=>?_⟩
 obtain ⟨v,hv⟩:=List.getElem?_of_mem hy
 rw [Zdh] at hv
 cases hx:ws[v]? with
 | none=>rw [hx] at hv;cases hv
 | some w =>
  rw [hx] at hv
  injection hv with hv
  subst hv
  obtain ⟨a1,a2,a3,a4⟩:=ZlW (QV h hx)
  have:=ZeP (v:Int) pl 0
  exact ZsS (Zp a1) (Zp a2) (Zp a3) (by rw [List.length_map];omega)
theorem Zzi {b:Za} (h:VJ b) {k:Nat} {p:Pl} (hp:(places (Za.Design b))[k]?=some p) (h2:p.2.2.2.1=false) {n v:Int} (hn:ZaX (Za.Design b) n) (hv:∀ w,(Za.Zz b)[n.toNat]?=some w→0≤v∧v≤((Zr.Parent w).length:Int)-1):VJ (moved b k p n v):=by
 have hpl:places (mvD b p n)=(places (Za.Design b)).set k (p.1,p.2.1,n,p.2.2.2.1,()):=XW hp n
 obtain ⟨b1,b2,b3⟩:=JW h.sm
 have hD:Qh (Za.Library b) (mvD b p n):=ZtD h.ok.1 hp h2 hn
 refine ⟨⟨hD,?_,?_⟩,?_⟩
 ·show (wired (places (mvD b p n)) (Za.Zz b) (mvN b k v)).length=(Zb.ZI (conn (Za.Design b) p.1 p.2.1 n)).length
  rw [Zhh,QJ];exact h.ok.2.1
 ·exact ZqY (fun v w hw=>⟨_,h.ok.2.2 v w hw⟩) (by rw [hpl];exact (Zol h).set n v hv)
 ·have hl:=YW hD.few
  exact Zhl b1 (Zty b2 _ _ _) (Zrw b3 (by omega))
theorem Zwi {c c2:Zm} (h1:sm QL c) (h2:sm QL c2) (h:Jp c c2=some true):(Zm.Yw c2).length=(Zm.Yw c).length:=by
 unfold Jp at h
 by_cases q:Zm.Kind c=Zm.Kind c2
 ·by_cases q2:((Zm.Yw c).length:Int)=((Zm.Yw c2).length:Int)
  ·omega
  ·exfalso;revert h;simp [q,q2]
 ·exfalso;revert h;simp [q]
theorem Zkl {d:Zb} {i:Nat} {x:Ze} (hx:(Zb.Instances d)[i]?=some x) (c:Int):places ((Zb.Instances d).set i (Ze.Name x,c,Ze.ZI x,()),Zb.ZI d,Zb.ZG d,())=places d:=by
 show cat Y8 0 ((Zb.Instances d).set i (Ze.Name x,c,Ze.ZI x,()))++cat ZbU 0 (Zb.ZG d)=_
 unfold places
 congr 1
 have hlt:=(List.getElem?_eq_some_iff.1 hx).1
 have e1:=Zga Y8 hx
 have hx2:((Zb.Instances d).set i (Ze.Name x,c,Ze.ZI x,()))[i]?=some (Ze.Name x,c,Ze.ZI x,()):=List.getElem?_set_self hlt
 have e2:=Zga Y8 hx2
 rw [e1,e2,List.take_set_of_le (Nat.le_refl _),List.drop_set_of_lt (by omega)]
 rfl
theorem Zu3 {b:Za} (h:VJ b) {i:Int} (h0:0≤i) {x:Ze} (hx:(Zb.Instances (Za.Design b))[i.toNat]?=some x) {c:Int} {c1 c2:Zm} (hc1:(Zo.Cells (Za.Library b))[(Ze.Cell x).toNat]?=some c1) (hc2:(Zo.Cells (Za.Library b))[c.toNat]?=some c2)
  (hc:0≤c∧c≤((Zo.Cells (Za.Library b)).length:Int)-1) (ha:(Zm.Yw c2).length=(Zm.Yw c1).length):VJ (swapped b i c):=by
 obtain ⟨b1,b2,b3⟩:=JW h.sm
 obtain ⟨s1,s2,s3⟩:=Za4 b2
 obtain ⟨⟨hl,⟨n1,n2,n3,n4,n5,n6⟩,hi,hq,ho⟩,hwn,hw⟩:=h.ok
 have e:swapped b i c=(Za.Library b,((Zb.Instances (Za.Design b)).set i.toNat (Ze.Name x,c,Ze.ZI x,()),Zb.ZI (Za.Design b),Zb.ZG (Za.Design b),()),Za.Zz b,()):=by
  unfold swapped
  rw [hx]
 have hpl:=Zkl hx c
 rw [e]
 have hmem:∀ y∈(Zb.Instances (Za.Design b)).set i.toNat (Ze.Name x,c,Ze.ZI x,()),y∈Zb.Instances (Za.Design b)∨y=(Ze.Name x,c,Ze.ZI x,()):=fun y hy=>List.mem_or_eq_of_mem_set hy
 refine ⟨⟨⟨hl,⟨by show (List.set _ _ _).length≤14;rw [List.length_set];exact n1,n2,n3,?_,n5,n6⟩,fun y hy=>?_,hq,?_⟩,hwn,?_⟩,?_⟩
 ·have:Zaa ((Zb.Instances (Za.Design b)).set i.toNat (Ze.Name x,c,Ze.ZI x,()),Zb.ZI (Za.Design b),Zb.ZG (Za.Design b),())=Zaa (Za.Design b):=by
   show List.map Ze.Name (List.set _ _ _)=_
   rw [List.map_set]
   exact ZaY (by rw [List.getElem?_map,hx];rfl)
  exact this▸n4
 ·rcases hmem y hy with hy | hy
  ·exact hi y hy
  ·subst hy
   obtain ⟨r1,⟨c',r2,r3⟩,r4⟩:=hi x (List.mem_of_getElem? hx)
   have r2:(Zo.Cells (Za.Library b))[(Ze.Cell x).toNat]?=some c':=r2
   rw [hc1] at r2
   injection r2 with r2
   subst r2
   exact ⟨hc,⟨c2,hc2,by rw [ha];exact r3⟩,r4⟩
 ·unfold Zhr
  have:Zpy ((Zb.Instances (Za.Design b)).set i.toNat (Ze.Name x,c,Ze.ZI x,()),Zb.ZI (Za.Design b),Zb.ZG (Za.Design b),())=Zpy (Za.Design b):=by
   unfold Zpy
   congr 1
   show List.map XM (List.set _ _ _)=_
   rw [List.map_set]
   exact ZaY (by rw [List.getElem?_map,hx];rfl)
  rw [this]
  exact ho
 ·intro k w hk
  have:=hw k w hk
  unfold sinks at *
  have hpl2:places (Za.Design ((Za.Library b,((Zb.Instances (Za.Design b)).set i.toNat (Ze.Name x,c,Ze.ZI x,()),Zb.ZI (Za.Design b),Zb.ZG (Za.Design b),()),Za.Zz b,()):Za))=places (Za.Design b):=hpl
  rw [hpl2]
  exact this
 ·refine Zhl b1 (ZhS ⟨by rw [List.length_set];exact s1.1,fun y hy=>?_⟩ s3 s2) b3
  rcases hmem y hy with hy | hy
  ·exact s1.2 y hy
  ·subst hy
   obtain ⟨q1,q2⟩:=Zkk (QV s1 hx)
   exact ZpJ q1 (Zp q2)
theorem ZvY {b:Za} (h:VJ b) {n:Int} (hn:ZaX (Za.Design b) n) {w:Zr} (hw:Zbr w ((sinks (Za.Design b) n).length:Int)) (hs:sm Vv w):VJ (Zzs b n w):=by
 obtain ⟨b1,b2,b3⟩:=JW h.sm
 obtain ⟨hD,hwn,hW⟩:=h.ok
 refine ⟨⟨hD,by show (List.set _ _ _).length=_;rw [List.length_set];exact hwn,?_⟩,Zhl b1 b2 ⟨by rw [List.length_set];exact b3.1,fun y hy=>?_⟩⟩
 ·intro k y hk
  have hk:((Za.Zz b).set n.toNat w)[k]?=some y:=hk
  rw [List.getElem?_set] at hk
  split at hk
  ·rename_i e
   split at hk
   ·injection hk with hk
    subst hk
    rw [←e]
    show Zbr w ((sinks (Za.Design b) ((n.toNat:Nat):Int)).length:Int)
    rw [show ((n.toNat:Nat):Int)=n by have:=hn.1;omega]
    exact hw
   ·cases hk
  ·exact hW k y hk
 ·rcases List.mem_or_eq_of_mem_set hy with hy | hy
  ·exact b3.2 y hy
  ·rw [hy];exact hs
theorem Zjk {b:Za} (h:VJ b) {e:Zh} {k:Nat} {p q:Pl} (hp:(places (Za.Design b))[k]?=some p):(places (addInst (Za.Design b) (ZqM b e q) (Zh.Name e)))[ZuH b k]?=some p:=by
 unfold ZuH
 by_cases hk:k<Yz (Za.Design b)
 ·rw [if_pos hk,Ztf hk];exact hp
 ·rw [if_neg hk]
  have:=ZsR (d:=Za.Design b) (x:=ZqM b e q) (s:=Zh.Name e) (k:=k) (by omega)
  rw [show (Ze.ZI (ZqM b e q)).length=2 from rfl] at this
  rw [this];exact hp
theorem ZxR {d:Zb} {k:Nat} {p:Pl} (hp:(places d)[k]?=some p) (h1:p.1<((Zb.Instances d).length:Int)∨True):p.1<((Zb.Instances d).length:Int):=by
 rcases Js hp with ⟨i,j,x,m,hx,hn,e,rfl⟩ | ⟨j,q,hq,e,rfl⟩
 ·have:=(List.getElem?_eq_some_iff.1 hx).1
  show (i:Int)<_
  omega
 ·show (-1:Int)<_
  omega
theorem Zhf {b:Za} {e:Zh} {k:Nat} {p:Pl} (hp:(places (Za.Design b))[k]?=some p):Zsr b e p=conn (addInst (Za.Design b) (ZqM b e p) (Zh.Name e)) p.1 p.2.1 ((Zb.ZI (Za.Design b)).length:Int) :=
 (Zyo (ZxR hp (.inr trivial))).symm
theorem ZAd:Zbr ZvA 0:=by
 refine ⟨⟨by decide,by decide⟩,rfl,rfl,rfl,fun k x hk=>?_,?_,?_,?_⟩
 ·match k,hk with
  | 0,hk =>
   injection hk with hk
   exact ⟨fun _=>⟨hk.symm,rfl⟩,fun h=>by omega⟩
  | k+1,hk=>cases hk
 ·intro x hx
  rw [show Zr.Res ZvA=[0] from rfl,List.mem_singleton] at hx
  omega
 ·intro x hx
  rw [show Zr.Cap ZvA=[0] from rfl,List.mem_singleton] at hx
  omega
 ·intro x hx
  cases hx
theorem Zyh {b:Za} (h:VJ b) {e:Zh} {k:Nat} {p:Pl} (hp:(places (Za.Design b))[k]?=some p) (h2:p.2.2.2.1=false) :
  Fits (places (addInst (Za.Design b) (ZqM b e p) (Zh.Name e))) (Za.Zz b++[ZvA]) (ZtF (Y1 b) (Yz (Za.Design b)) (Y1 b k)):=by
 have hf:=h.ok.1.few
 have hold:=Zol h
 have hws:∀ (m:Int) (w:Zr),ZaX (Za.Design b) m→(Za.Zz b++[ZvA])[m.toNat]?=some w→(Za.Zz b)[m.toNat]?=some w:=fun m w hm hw=>by
  rw [List.getElem?_append_left (by rw [h.ok.2.1];unfold ZaX at hm;omega)] at hw
  exact hw
 intro j q w hq hd hw
 unfold ZtF
 have hil:Yz (Za.Design b)≤Yz (Za.Design b):=Nat.le_refl _
 by_cases c1:j<Yz (Za.Design b)
 ·rw [if_pos c1]
  rw [Ztf c1] at hq
  exact hold j q w hq hd (hws _ _ (Je h.ok.1 (List.mem_of_getElem? hq)) hw)
 ·rw [if_neg c1]
  by_cases c2:j=Yz (Za.Design b)
  ·rw [if_pos c2]
   have:=add_mid (d:=Za.Design b) (x:=ZqM b e p) (s:=Zh.Name e) (j:=0) (by show 0<2;omega)
   rw [Nat.add_zero,←c2,hq] at this
   have e1:q=ZdG (Zb.Instances (Za.Design b)).length (ZqM b e p) 0 p.2.2.1:=by
    have h3:=Zhu (i:=(Zb.Instances (Za.Design b)).length) (x:=ZqM b e p) (j:=0) (n:=p.2.2.1) rfl
    rw [←this] at h3
    injection h3
   have e2:q.2.2.1=p.2.2.1:=by rw [e1];rfl
   rw [e2] at hw
   exact hold k p w hp h2 (hws _ _ (Je h.ok.1 (List.mem_of_getElem? hp)) hw)
  ·rw [if_neg c2]
   by_cases c3:j=Yz (Za.Design b)+1
   ·exfalso
    have:=add_mid (d:=Za.Design b) (x:=ZqM b e p) (s:=Zh.Name e) (j:=1) (by show 1<2;omega)
    rw [←c3,hq] at this
    have h3:=Zhu (i:=(Zb.Instances (Za.Design b)).length) (x:=ZqM b e p) (j:=1) (n:=((Zb.ZI (Za.Design b)).length:Int)) rfl
    rw [←this] at h3
    injection h3 with h3
    rw [h3] at hd
    revert hd
    show ¬(decide ((1:Int)=Wq ((2:Int)-1))=false)
    rw [Jr (by omega) (by omega)]
    simp
   ·rw [if_neg c3]
    have:=ZsR (d:=Za.Design b) (x:=ZqM b e p) (s:=Zh.Name e) (k:=j-2) (by omega)
    rw [show (Ze.ZI (ZqM b e p)).length=2 from rfl,show j-2+2=j by omega,hq] at this
    exact hold (j-2) q w this.symm hd (hws _ _ (Je h.ok.1 (List.mem_of_getElem? this.symm)) hw)
theorem Zqs {α:Type} {p:α→Bool} {l:List α} (h:Za6 p l<0):∀ x∈l,p x=false:=by
 intro x hx
 cases hp:p x with
 | false=>rfl
 | true =>
  have:=Jh.2 (List.any_eq_true.2 ⟨x,hx,hp⟩)
  omega
theorem ZkU {b:Za} {e:Zh} (h:Znn b e) (k2:Zh.Kind e=2) (hs:sm .str (Zh.Name e)) {p:Pl} (hp:ZfO b e p):VJ (buffered b e (Zh.Place e).toNat p):=by
 have hB:=h.blk
 obtain ⟨b1,b2,b3⟩:=JW hB.sm
 obtain ⟨l1,l2⟩:=h.lim k2
 obtain ⟨p',c,hp',hd,hc,hk,hpins,hname,hni,hnn⟩:=h.poss.2.1 k2
 have:p'=p:=by
  have:=hp'.2
  rw [hp.2] at this
  injection this with this
  exact this.symm
 subst this
 obtain ⟨_,hcr⟩:=h.range.1 (.inr k2)
 have hc2:(Zo.Cells (Za.Library b))[(Zh.Cell e).toNat]?=some c:=by
  have:=hc
  unfold atI at this
  rw [if_pos hcr.1] at this
  exact this
 have hA:Qh (Za.Library b) (addInst (Za.Design b) (ZqM b e p') (Zh.Name e)):=by
  refine ZBm hB.ok.1 hname (fun hm=>?_) (fun hm=>?_) l1 l2 hcr.1 hcr.2 hc2 hpins (Je hB.ok.1 hp.mem)
  ·obtain ⟨x,hx,e1⟩:=List.mem_map.1 hm
   have:=Zqs hni x hx
   simp [e1] at this
  ·have:=Zqs hnn _ hm
   simp at this
 have hN:ZaX (addInst (Za.Design b) (ZqM b e p') (Zh.Name e)) ((Zb.ZI (Za.Design b)).length:Int):=by
  unfold ZaX
  show 0≤_∧_≤((Zb.ZI (Za.Design b)++[Zh.Name e]).length:Int)-1
  rw [List.length_append,List.length_singleton]
  omega
 have hpk:=Zjk (e:=e) (q:=p') hB hp.2
 have hD:Qh (Za.Library b) (Zsr b e p'):=by
  rw [Zhf hp.2]
  exact ZtD hA hpk hd hN
 have hl:=YW hD.few
 have hwn:=hB.ok.2.1
 have hpl:places (Zsr b e p')=(places (addInst (Za.Design b) (ZqM b e p') (Zh.Name e))).set (ZuH b (Zh.Place e).toNat) (p'.1,p'.2.1,((Zb.ZI (Za.Design b)).length:Int),p'.2.2.2.1,()):=by
  rw [Zhf hp.2]
  exact XW hpk _
 refine ⟨⟨hD,?_,?_⟩,?_⟩
 ·show (wired (places (Zsr b e p')) (Za.Zz b++[ZvA]) (ZCz b (Zh.Place e).toNat)).length=(Zb.ZI (conn (Za.Design b) p'.1 p'.2.1 _)++[Zh.Name e]).length
  rw [Zhh,List.length_append,List.length_append,QJ,hwn]
  rfl
 ·refine ZqY (pl:=places (Zsr b e p')) (fun v w hw=>?_) ?_
  ·by_cases hv:v<(Za.Zz b).length
   ·rw [List.getElem?_append_left hv] at hw
    exact ⟨_,hB.ok.2.2 v w hw⟩
   ·rw [List.getElem?_append_right (by omega)] at hw
    have:=List.mem_of_getElem? hw
    rw [List.mem_singleton] at this
    rw [this]
    exact ⟨_,ZAd⟩
  ·rw [hpl]
   refine (Zyh hB hp.2 hd).set _ 0 (fun w hw=>?_)
   rw [Int.toNat_natCast,←hwn,List.getElem?_append_right (Nat.le_refl _),Nat.sub_self] at hw
   injection hw with hw
   rw [←hw]
   exact ⟨Int.le_refl _,by show (0:Int)≤(1:Int)-1;omega⟩
 ·refine Zhl b1 ?_ (Zrw ⟨?_,fun y hy=>?_⟩ (by omega))
  ·exact ZAR (Zty b2 _ _ _) (by rw [Xk];omega) (by rw [QJ];omega) (ZpJ hs (by show 2≤_;omega)) hs
  ·rw [List.length_append,List.length_singleton]
   have:=hB.ok.1.2.1.2.1
   omega
  ·rcases List.mem_append.1 hy with hy | hy
   ·exact b3.2 y hy
   ·rw [List.mem_singleton] at hy
    rw [hy]
    exact ZsS (by decide) (by decide) (by decide) (by decide)
/-
  Plain laws: a block with a buffer less is valid.
-/
theorem Fits.cut {d:Zb} {ws:List Zr} {nd:Nat→Int} (h:Fits (places d) ws nd) {x:Ze} (hn:0<(Zb.Instances d).length) (hx:(Zb.Instances d)[(Zb.Instances d).length-1]?=some x) (h2:(Ze.ZI x).length=2) (m:Nat) :
  Fits (places (XU d)) (ws.take m) (Zru nd (Yz (XU d))):=by
 intro k p w hp hd hw
 rw [List.getElem?_take] at hw
 split at hw
 ·unfold Zru
  have hpc:=Zjn (s:=[]) hn hx
  by_cases c:k<Yz (XU d)
  ·rw [if_pos c]
   exact h k p w (by rw [hpc,Ztf c];exact hp) hd hw
  ·rw [if_neg c]
   have:=ZsR (d:=XU d) (x:=x) (s:=[]) (k:=k) (by omega)
   rw [h2] at this
   exact h (k+2) p w (by rw [hpc,this];exact hp) hd hw
 ·cases hw
theorem ZdX (d:Zb):(places d).length=Yz d+(Zb.ZG d).length:=by
 unfold places Yz
 rw [List.length_append,ZsN]
theorem ZmX {d:Zb} {k:Nat} {p:Pl} (hp:(places d)[k]?=some p) (n:Int):Yz (conn d p.1 p.2.1 n)=Yz d:=by
 have h1:=ZdX d
 have h2:=ZdX (conn d p.1 p.2.1 n)
 rw [XW hp,List.length_set,Zhg] at h2
 omega
theorem Zmu {b:Za} (h:VJ b) (hL:Zl0 b) {k:Nat} {p:Pl} {m:Int} (hs:sinks (Za.Design b) (((Zb.ZI (Za.Design b)).length:Int)-1)=[(k:Int)]) (hp:(places (Za.Design b))[k]?=some p) (hpi:p.1≠((Zb.Instances (Za.Design b)).length:Int)-1)
  (hm:∀ x,(Zb.Instances (Za.Design b))[(Zb.Instances (Za.Design b)).length-1]?=some x→atI (Ze.ZI x) 0=some m):VJ (Znk b k p m):=by
 obtain ⟨b1,b2,b3⟩:=JW h.sm
 obtain ⟨k',p',hs',hp',hpn,hpd,hpi'⟩:=hL.sink h
 have ek:k=k':=by
  rw [hs] at hs'
  injection hs' with hs' _
  omega
 subst ek
 rw [hp] at hp'
 injection hp' with hp'
 subst hp'
 obtain ⟨x,c,w,m',hn,hx,hc,hk1,hk2,hl2,hm',hl,hne,hnm,hw,hs1,hs2,hp1,hc0⟩:=hL
 have em:m'=m:=by
  have:=hm x hx
  rw [hm'] at this
  injection this
 subst em
 have hD:=h.ok.1
 have hwn:=h.ok.2.1
 have hm0:(Ze.ZI x)[0]?=some m':=hm'
 have hl1:(Ze.ZI x)[1]?=some (((Zb.ZI (Za.Design b)).length:Int)-1):=hl
 have hmn:=(hD.2.2.1 x (List.mem_of_getElem? hx)).2.2 m' (List.mem_of_getElem? hm0)
 have hlx:XM x=((Zb.ZI (Za.Design b)).length:Int)-1:=by
  have:=Zjs (x:=x) (by omega)
  rw [hl2,show 2-1=1 from rfl,hl1] at this
  injection this with this
  exact this.symm
 have hC:Qh (Za.Library b) (conn (Za.Design b) p.1 p.2.1 m'):=ZtD hD hp hpd hmn
 have hn2:0<(Zb.Instances (conn (Za.Design b) p.1 p.2.1 m')).length:=by rw [Xk];exact hn
 have hx2:(Zb.Instances (conn (Za.Design b) p.1 p.2.1 m'))[(Zb.Instances (conn (Za.Design b) p.1 p.2.1 m')).length-1]?=some x:=by
  have hy:(Zb.Instances (conn (Za.Design b) p.1 p.2.1 m'))[(Zb.Instances (conn (Za.Design b) p.1 p.2.1 m')).length-1]?=some ((Zb.Instances (conn (Za.Design b) p.1 p.2.1 m'))[(Zb.Instances (conn (Za.Design b) p.1 p.2.1 m')).length-1]'(by omega)):=List.getElem?_eq_getElem _
  generalize (Zb.Instances (conn (Za.Design b) p.1 p.2.1 m'))[(Zb.Instances (conn (Za.Design b) p.1 p.2.1 m')).length-1]'(by omega)=y at hy
  obtain ⟨x',hx',_,_,_,he,_⟩:=Zf9 hy
  rw [Xk,hx] at hx'
  injection hx' with hx'
  rw [hy,hx',he (by rw [Xk];omega)]
 have hsn:∀ q∈places (conn (Za.Design b) p.1 p.2.1 m'),q.2.2.2.1=false→q.2.2.1≠((Zb.ZI (conn (Za.Design b) p.1 p.2.1 m')).length:Int)-1:=by
  intro q hq hd e
  rw [QJ] at e
  rw [XW hp] at hq
  obtain ⟨j,hj⟩:=List.getElem?_of_mem hq
  rw [List.getElem?_set] at hj
  split at hj
  ·split at hj
   ·injection hj with hj
    subst hj
    exact hne e
   ·cases hj
  ·rename_i hjk
   have h3:=Zmw hj e hd
   have h4:(sinks (Za.Design b) (((Zb.ZI (Za.Design b)).length:Int)-1))[nth (places (Za.Design b)) (((Zb.ZI (Za.Design b)).length:Int)-1) j]?=some (j:Int):=h3
   rw [hs] at h4
   have h5:=List.mem_of_getElem? h4
   rw [List.mem_singleton] at h5
   exact absurd (by omega) hjk
 have hU:Qh (Za.Library b) (unD b p m'):=ZA8 hC hn2 hx2 (by rw [QJ];exact hlx) hsn
 have hins:Yz (unD b p m')=Yz (Za.Design b)-2:=by
  have h1:=Zjj hn2 hx2 hl2
  have h2:=ZmX hp m'
  unfold unD
  omega
 have hpl:=YW hU.few
 refine ⟨⟨hU,?_,?_⟩,?_⟩
 ·show (wired (places (unD b p m')) ((Za.Zz b).take ((Za.Zz b).length-1)) (unN b k)).length=((Zb.ZI (conn (Za.Design b) p.1 p.2.1 m')).take ((Zb.ZI (conn (Za.Design b) p.1 p.2.1 m')).length-1)).length
  rw [Zhh,List.length_take,List.length_take,QJ,hwn]
 ·refine ZqY (pl:=places (unD b p m')) (fun v w hw=>?_) ?_
  ·rw [List.getElem?_take] at hw
   split at hw
   ·exact ⟨_,h.ok.2.2 v w hw⟩
   ·cases hw
  ·have h1:Fits (places (conn (Za.Design b) p.1 p.2.1 m')) (Za.Zz b) (mvN b k (Y1 b (Yz (Za.Design b)-2))):=by
    rw [XW hp]
    refine (Zol h).set m' _ (fun w' hw'=>?_)
    have h5:=ZgS hx hm0
    rw [Nat.add_zero,Zqu hn hx hl2] at h5
    refine Zol h _ _ w' h5 ?_ hw'
    show decide ((0:Int)=Wq (((Ze.ZI x).length:Int)-1))=false
    rw [hl2,Jr (by omega) (by omega)]
    decide
   have h2:=h1.cut hn2 hx2 hl2 ((Za.Zz b).length-1)
   have h3:Yz (XU (conn (Za.Design b) p.1 p.2.1 m'))=Yz (Za.Design b)-2:=hins
   rw [h3] at h2
   exact h2
 ·exact Zhl b1 (ZBe (Zty b2 _ _ _)) (Zrw (ZtL b3 _) (by omega))
/-
  Plain laws: the reference's own copies; places connected, sinks attached (reference); edits applied.
-/
theorem Zod (t:ZA) (ht:sm XE t):Ziw t=some t:=by
 have e1:=Zdx (ZA.Zg6 t) (Zp (t:=.int .i64) ht.1)
 have e2:=Zdx (ZA.Loads t) (Zp (t:=.int .i64) ht.2.1)
 have e3:=Zdx (ZA.Values t) (Zp (t:=.int .i64) ht.2.2.1)
 unfold Ziw
 rw [e1,e2,e3]
 rfl
theorem Zhn (l:List ZA) (hl:sm (.sl XE) l):JM l=some l:=by
 have h1:=Zp hl
 unfold JM
 have:=Yk (l:=l) (fun k=>(l.take k,(k:Int),())) (step:=fun v=>Vk l v.1 v.2.1) (good:=l) (fun k x hx hk=>by
  have hg:((l.take k).length+[x].length)*72≤140737488355328:=by rw [List.length_take,List.length_singleton];omega
  simp only [Vk,show (k:Int)<(l.length:Int) by omega,if_true,Zu,hx,Bq,Zod x (QV hl hx),Zi hg,Xx (show k≤1048576 by omega)]
  rw [Z8 hx]) (by
  simp only [Vk,Int.lt_irrefl,if_false,List.take_length])
 simpa using this
theorem ZoJ (c:Zm) (hs:sm QL c):Zh6 c=some c:=by
 have p1:sm (.sl ZgP) (Zm.Yw c):=hs.2.2.1
 have p2:sm (.sl Zib) (Zm.JQ c):=hs.2.2.2.1
 have p3:sm (.sl (.int .i64)) (Zm.Truth c):=hs.2.2.2.2.1
 have l1:=Zp p1
 have l2:=Zp p2
 have l3:=Zp p3
 unfold Zh6
 rw [Zi (by rw [List.length_nil];omega),Zdx _ l3,Bq]
 have:=Yk (l:=Zm.JQ c) (fun k=>((k:Int),(Zm.JQ c).take k,())) (step:=fun v=>ZbQ c (Zm.Truth c) v.1 v.2.1) (good:=c) (fun k x hx hk=>by
  obtain ⟨q1,q2⟩:=ZyN (QV p2 hx)
  have hg:∀ y:ZJ,(((Zm.JQ c).take k).length+[y].length)*80≤140737488355328:=fun y=>by rw [List.length_take,List.length_singleton];omega
  simp only [ZbQ,show (k:Int)<((Zm.JQ c).length:Int) by omega,if_true,Zu,hx,Bq,Zhn _ q1,Zhn _ q2,Zi (hg _),Xx (show k≤1048576 by omega)]
  rw [Z8 hx]) (by
  simp only [ZbQ,Int.lt_irrefl,if_false,List.take_length]
  rfl)
 simpa using this
theorem ZlE (a:Zo) (ha:sm Xh a):Za2 a=some a:=by
 have hc:=Zqk ha
 have h1:=Zp hc
 unfold Za2
 have:=Yk (l:=Zo.Cells a) (fun k=>((k:Int),(Zo.Cells a).take k,())) (step:=fun v=>QN a v.1 v.2.1) (good:=a) (fun k x hx hk=>by
  have hg:(((Zo.Cells a).take k).length+[x].length)*112≤140737488355328:=by rw [List.length_take,List.length_singleton];omega
  simp only [QN,show (k:Int)<((Zo.Cells a).length:Int) by omega,if_true,Zu,hx,Bq,ZoJ x (QV hc hx),Zi hg,Xx (show k≤1048576 by omega)]
  rw [Z8 hx]) (by
  simp only [QN,Int.lt_irrefl,if_false,List.take_length])
 simpa using this
theorem Zni (d:Zb) (hd:sm YG d):ZhF d=some d:=by
 obtain ⟨s1,s2,s3⟩:=Za4 hd
 have l1:=Zp s1
 have l2:=Zp s2
 have l3:=Zp s3
 unfold ZhF
 rw [Zi (by rw [List.length_nil];omega),Zi (by rw [List.length_nil];omega)]
 have:=Yk (l:=Zb.Instances d) (fun k=>((k:Int),(Zb.Instances d).take k,())) (step:=fun v=>Zbz d v.1 v.2.1) (good:=d) (fun k x hx hk=>by
  have hx2:=Zdx (Ze.ZI x) (Zp (Zkk (QV s1 hx)).2)
  have hg:∀ y:Ze,(((Zb.Instances d).take k).length+[y].length)*48≤140737488355328:=fun y=>by rw [List.length_take,List.length_singleton];omega
  simp only [Zbz,show (k:Int)<((Zb.Instances d).length:Int) by omega,if_true,Zu,hx,Bq,hx2,Zi (hg _),Xx (show k≤1048576 by omega)]
  rw [Z8 hx]) (by
  simp only [Zbz,Int.lt_irrefl,if_false,List.take_length]
  rfl)
 simpa using this
theorem Ztz (b:Za) (hb:sm Y3 b):Zh9 b=some b:=by
 obtain ⟨b1,b2,b3⟩:=JW hb
 have h1:=Zp b3
 unfold Zh9
 rw [ZlE _ b1,Bq,Zni _ b2,Bq]
 have:=Yk (l:=Za.Zz b) (fun k=>((k:Int),(Za.Zz b).take k,())) (step:=fun v=>Zbx b (Za.Library b) (Za.Design b) v.1 v.2.1) (good:=b) (fun k x hx hk=>by
  have hg:(((Za.Zz b).take k).length+[x].length)*96≤140737488355328:=by rw [List.length_take,List.length_singleton];omega
  simp only [Zbx,show (k:Int)<((Za.Zz b).length:Int) by omega,if_true,Zu,hx,Bq,Zgk x (QV b3 hx),Zi hg,Xx (show k≤1048576 by omega)]
  rw [Z8 hx]) (by
  simp only [Zbx,Int.lt_irrefl,if_false,List.take_length])
 simpa using this
theorem Zf7 {d:Zb} {k:Nat} {p:Pl} (hp:(places d)[k]?=some p) (n:Int):JK d p n=some (conn d p.1 p.2.1 n):=by
 unfold JK conn
 rcases Js hp with ⟨i,j,x,m,hx,hn,e,rfl⟩ | ⟨j,q,hq,e,rfl⟩
 ·have c:¬((i:Int)<0):=by omega
  simp only [ZdG,ZF.instance,ZF.pin,if_neg c,Zu,hx,Bq,Int.toNat_natCast]
  have hn2:x.2.2.1[j]?=some m:=hn
  rw [hn2]
  rfl
 ·have c:((-1:Int)<0):=by omega
  simp only [ZF.instance,ZF.pin,if_pos c,Zu,hq,Bq,Int.toNat_natCast]
  rfl
def Zwu (pl:List Pl) (ws:List Zr) (nd:Nat→Int) (k:Nat):List Zr:=cat (fun v w=>[if v<k then Zd4 w ((cat (J9 (v:Int)) 0 pl).map (fun k=>nd k.toNat)) else w]) 0 ws
theorem Zjp (pl:List Pl) (ws:List Zr) (nd:Nat→Int) (k v:Nat):(Zwu pl ws nd k)[v]?=(ws[v]?).map (fun w=>if v<k then Zd4 w ((cat (J9 (v:Int)) 0 pl).map (fun k=>nd k.toNat)) else w):=by
 unfold Zwu
 rw [Zbh,Nat.zero_add]
theorem ZrM (pl:List Pl) (ws:List Zr) (nd:Nat→Int) (k:Nat):(Zwu pl ws nd k).length=ws.length:=Jv _ _
theorem Zv2 (pl:List Pl) (ws:List Zr) (nd:Nat→Int):Zwu pl ws nd 0=ws:=by
 apply List.ext_getElem?
 intro v
 rw [Zjp]
 simp
theorem Zy6 (pl:List Pl) (ws:List Zr) (nd:Nat→Int):Zwu pl ws nd ws.length=wired pl ws nd:=by
 apply List.ext_getElem?
 intro v
 rw [Zjp,Zdh]
 cases hv:ws[v]? with
 | none=>rfl
 | some w =>
  have:=(List.getElem?_eq_some_iff.1 hv).1
  simp only [Option.map_some,if_pos this]
theorem Zxp {pl:List Pl} {ws:List Zr} {nd:Nat→Int} {k:Nat} {w:Zr} (hw:ws[k]?=some w):(Zwu pl ws nd k)[k]?=some w∧(Zwu pl ws nd k).set k (Zd4 w ((cat (J9 (k:Int)) 0 pl).map (fun k=>nd k.toNat)))=Zwu pl ws nd (k+1):=by
 constructor
 ·rw [Zjp,hw];simp
 ·apply List.ext_getElem?
  intro v
  rw [List.getElem?_set,ZrM]
  split
  ·rename_i e
   subst e
   rw [if_pos (List.getElem?_eq_some_iff.1 hw).1,Zjp,hw,Option.map_some,if_pos (by omega)]
  ·rw [Zjp,Zjp]
   congr 1
   funext w'
   by_cases h:v<k
   ·rw [if_pos h,if_pos (by omega)]
   ·rw [if_neg h,if_neg (by omega)]
theorem Zg9 {b:Za} {nodes:List Int} (hf:Few (Za.Design b)) (hl:nodes.length=(places (Za.Design b)).length) (hw:(Za.Zz b).length≤1048576) :
  QD b nodes=some (Za.Library b,Za.Design b,wired (places (Za.Design b)) (Za.Zz b) (ZoY nodes),()):=by
 have hpl:=YW hf
 unfold QD
 have:=Yk (l:=Za.Zz b) (fun k=>((k:Int),Zwu (places (Za.Design b)) (Za.Zz b) (ZoY nodes) k,())) (step:=fun v=>JG b nodes v.1 v.2.1) (good:=(Za.Library b,Za.Design b,wired (places (Za.Design b)) (Za.Zz b) (ZoY nodes),())) (fun k w hk hlt=>by
  obtain ⟨a1,a2⟩:=Zxp (nd:=ZoY nodes) (pl:=places (Za.Design b)) hk
  have hlc:(sinks (Za.Design b) (k:Int)).length≤(places (Za.Design b)).length:=ZeP (k:Int) (places (Za.Design b)) 0
  simp only [JG]
  rw [if_pos (show (k:Int)<(((Zwu (places (Za.Design b)) (Za.Zz b) (ZoY nodes) k).length:Nat):Int) by rw [ZrM];omega),Q5 _ _ hf,Bq]
  refine Yk (l:=sinks (Za.Design b) (k:Int)) (fun i=>(((sinks (Za.Design b) (k:Int)).take i).map (fun x=>ZoY nodes x.toNat),(i:Int),())) (fun i x hx hi=>?_) ?_
  ·obtain ⟨j,p,hp,ex,hn,h2,hnth⟩:=ZrA (pl:=places (Za.Design b)) hx
   have hj:=(List.getElem?_eq_some_iff.1 hp).1
   have hnj:nodes[j]?=some (ZoY nodes j):=by
    unfold ZoY
    rw [List.getElem?_eq_getElem (by omega)]
    rfl
   simp only [ZbX,show (i:Int)<((sinks (Za.Design b) (k:Int)).length:Int) by omega,if_true,Zu,hx,Bq]
   have et:=Z8 hx
   subst ex
   rw [Zu,hnj,Bq,Zi (by rw [List.length_map,List.length_take,List.length_singleton];omega),Xx (show i≤1048576 by omega),et,List.map_append]
   rfl
  ·simp only [ZbX,Int.lt_irrefl,if_false,Zu,a1,Bq,Xx (show k≤1048576 by omega),Int.toNat_natCast,List.take_length]
   rw [←a2]
   rfl) (by
  simp only [JG]
  rw [if_neg (show ¬(((Za.Zz b).length:Nat):Int)<(((Zwu (places (Za.Design b)) (Za.Zz b) (ZoY nodes) (Za.Zz b).length).length:Nat):Int) by rw [ZrM];omega),Zy6])
 rw [Zv2] at this
 exact this
theorem Zm7 (b:Za):ZoY (J8 b)=Y1 b:=by
 funext k
 unfold ZoY
 by_cases hk:k<(places (Za.Design b)).length
 ·rw [Zhj hk];rfl
 ·rw [List.getElem?_eq_none (by rw [JR];omega)]
  unfold Y1
  rw [List.getElem?_eq_none (by omega)]
  rfl
theorem ZsM {b:Za} (h:VJ b) {k:Nat} {p:Pl} (hp:(places (Za.Design b))[k]?=some p) (h2:p.2.2.2.1=false) {n v:Int} (hn:ZaX (Za.Design b) n) :
  Qj (Za.Library b,conn (Za.Design b) p.1 p.2.1 n,Za.Zz b,()) (ZnA Key (.int .i64) (J4 (places (Za.Design b)) (Y1 b) (places (Za.Design b)).length) (ZuM p) v)=some (moved b k p n v):=by
 have hM:=((Zhd (Za.Design b) (Y1 b)).put hp v).set hp n
 rw [←XW hp n] at hM
 have hwl:(Za.Zz b).length≤1048576:=Zp (JW h.sm).2.2
 have hn1:n<((Za.Zz b).length:Int):=by rw [h.ok.2.1];have:=hn.2;omega
 exact Zgh (b:=(Za.Library b,conn (Za.Design b) p.1 p.2.1 n,Za.Zz b,())) (h.ok.1.few.conn p.1 p.2.1 n) hM (by
  show Zkx (places (conn (Za.Design b) p.1 p.2.1 n)) (Za.Zz b).length
  rw [XW hp]
  refine Zkx.set (fun q hq hd=>?_) hn.1 hn1
  have:=Je h.ok.1 hq
  rw [h.ok.2.1]
  exact ⟨this.1,by have:=this.2;omega⟩) hwl
theorem ZsI {b:Za} (h:VJ b) {k:Nat} {p:Pl} (hp:(places (Za.Design b))[k]?=some p) (n v:Int) :
  QD (Za.Library b,conn (Za.Design b) p.1 p.2.1 n,Za.Zz b,()) ((J8 b).set k v)=some (moved b k p n v):=by
 have hk:=(List.getElem?_eq_some_iff.1 hp).1
 have hf:=h.ok.1.few.conn p.1 p.2.1 n
 have e:=Zg9 (b:=(Za.Library b,conn (Za.Design b) p.1 p.2.1 n,Za.Zz b,())) (nodes:=(J8 b).set k v) hf (by
  show ((J8 b).set k v).length=(places (conn (Za.Design b) p.1 p.2.1 n)).length
  rw [List.length_set,JR,XW hp,List.length_set]) (Zp (JW h.sm).2.2)
 rw [e]
 have e2:ZoY ((J8 b).set k v)=mvN b k v:=by
  funext j
  rw [Zr6 (by rw [JR];exact hk),Zm7]
  rfl
 rw [e2]
 rfl
/-
  Plain laws: a buffer put in, a buffer taken away: the program and the reference; edits applied.
-/
theorem ZwB {b:Za} (h:VJ b):Zkx (places (Za.Design b)) (Za.Zz b).length:=fun q hq _=>by
 have:=Je h.ok.1 hq
 rw [h.ok.2.1]
 exact ⟨this.1,by have:=this.2;omega⟩
theorem Zu8 (pl:List Pl) (ws:List Zr) (nd:Nat→Int) {w w':Zr} (h:∀ l,Zd4 w l=Zd4 w' l):wired pl (ws++[w]) nd=wired pl (ws++[w']) nd:=by
 unfold wired
 rw [Zd0,Zd0]
 simp only [cat,h]
theorem Zp5 {b:Za} {e:Zh} (h:Znn b e) (k2:Zh.Kind e=2) (hs:sm .str (Zh.Name e)) {p:Pl} (hp:ZfO b e p) (hd:p.2.2.2.1=false):ZbL b e=some (buffered b e (Zh.Place e).toNat p):=by
 have hB:=h.blk
 have hf:=hB.ok.1.few
 have h14:=hf.insts
 have h30:=hB.ok.1.2.1.2.1
 have hwn:=hB.ok.2.1
 have hR:=ZkU h k2 hs hp
 have hpk:=Zjk (e:=e) (q:=p) hB hp.2
 have hM0:=Zhd (Za.Design b) (Y1 b)
 have hv:Zi2 Key (.int .i64) (J4 (places (Za.Design b)) (Y1 b) (places (Za.Design b)).length) (p.1,p.2.1,())=some (Y1 b (Zh.Place e).toNat):=hM0 _ p hp.2 hd
 have hM1:=hM0.add (x:=ZqM b e p) (s:=Zh.Name e) rfl (by omega) (Y1 b (Zh.Place e).toNat)
 have hM2:=(hM1.put hpk 0).set hpk ((Zb.ZI (Za.Design b)).length:Int)
 rw [←XW hpk,←Zhf hp.2] at hM2
 have hN:=ZwB hR
 have hl:(Za.Zz (buffered b e (Zh.Place e).toNat p)).length=(Za.Zz b++[ZvA]).length:=Zhh _ _ _
 rw [hl] at hN
 have hC:=Zgh (b:=(Za.Library b,Zsr b e p,Za.Zz b++[ZvA],())) hR.ok.1.few hM2 hN (by
  show (Za.Zz b++[ZvA]).length≤_
  rw [List.length_append,List.length_singleton];omega)
 have hS:=Zg7 (b:=(Za.Library b,addInst (Za.Design b) (ZqM b e p) (Zh.Name e),Za.Zz b++[ZvA],())) hpk ((Zb.ZI (Za.Design b)).length:Int)
 have eS:conn (Za.Design ((Za.Library b,addInst (Za.Design b) (ZqM b e p) (Zh.Name e),Za.Zz b++[ZvA],()):Za)) p.1 p.2.1 ((Zb.ZI (Za.Design b)).length:Int)=Zsr b e p:=(Zhf hp.2).symm
 rw [eS] at hS
 unfold ZbL
 rw [Zdw hB,Bq,Z4 _ hf,Bq,hp.at,Bq,
  show Xr (Zb.ZI (Za.Design b))=some ((Zb.ZI (Za.Design b)).length:Int) from rfl,Bq,
  show XQ (Zb.Instances (Za.Design b))=some ((Zb.Instances (Za.Design b)).length:Int) from rfl,Bq,
  Zi (by rw [List.length_singleton];omega),Zi (by rw [List.length_singleton];omega),Zi (by rw [List.length_singleton];omega)]
 refine Eq.trans (congrArg (fun o=>Option.bind o _) hS) ?_
 rw [Bq]
 have e3:Option.getD (Zi2 ZaW (Ty.int IntKind.i64) (J4 (places (Za.Design b)) (Y1 b) (places (Za.Design b)).length) (ZL.instance p,ZL.pin p,())) (0:Int)=Y1 b (Zh.Place e).toNat:=by
  have:Zi2 ZaW (Ty.int IntKind.i64) (J4 (places (Za.Design b)) (Y1 b) (places (Za.Design b)).length) (ZL.instance p,ZL.pin p,())=some (Y1 b (Zh.Place e).toNat):=hv
  rw [this];rfl
 rw [e3]
 refine Eq.trans (congrArg (fun o=>Option.bind o _) hC) ?_
 rfl
theorem Zwd {b:Za} {k:Nat} (hk:k<(places (Za.Design b)).length) (v:Int) (hv:v=Y1 b k) :
  ZoY (((J8 b).take (Yz (Za.Design b))++[v,0]++(J8 b).drop (Yz (Za.Design b))).set (ZuH b k) 0)=ZCz b k:=by
 have h2:=ZdX (Za.Design b)
 have hm:Yz (Za.Design b)≤(J8 b).length:=by rw [JR];omega
 funext j
 rw [Zr6 (by
  rw [List.length_append,List.length_append,List.length_take,List.length_drop,JR]
  unfold ZuH
  simp only [List.length_cons,List.length_nil]
  split<;>omega),ZyB hm,Zm7,hv]
 rfl
theorem Zqq {b:Za} {e:Zh} (h:Znn b e) (k2:Zh.Kind e=2) (hs:sm .str (Zh.Name e)) {p:Pl} (hp:ZfO b e p) (hd:p.2.2.2.1=false):ZaO b e=some (buffered b e (Zh.Place e).toNat p):=by
 have hB:=h.blk
 have hf:=hB.ok.1.few
 have hpl:=YW hf
 have h14:=hf.insts
 have h8:=hf.ports
 have h30:=hB.ok.1.2.1.2.1
 have hwn:=hB.ok.2.1
 have hk:=(List.getElem?_eq_some_iff.1 hp.2).1
 have h0:=hp.1
 have h2:=ZdX (Za.Design b)
 have hR:=ZkU h k2 hs hp
 have hW:Wq (((J8 b).length:Int)-((Zb.ZG (Za.Design b)).length:Int))=(Yz (Za.Design b):Int):=by
  rw [JR,Jr (by omega) (by omega)];omega
 have hdr:List.take ((J8 b).length-Yz (Za.Design b)) (List.drop (Yz (Za.Design b)) (J8 b))=List.drop (Yz (Za.Design b)) (J8 b):=List.take_of_length_le (by rw [List.length_drop];exact Nat.le_refl _)
 have hlump:Zcc 1 0=some (([-1],[0],[0],[0],()):Zr):=by
  unfold Zcc
  rw [Zi (by omega),Zi (by omega),Zi (by omega),Zi (by omega)]
  rfl
 have hln:((J8 b).take (Yz (Za.Design b))++[Y1 b (Zh.Place e).toNat,0]++(J8 b).drop (Yz (Za.Design b))).length=(places (Za.Design b)).length+2:=by
  rw [List.length_append,List.length_append,List.length_take,List.length_drop,JR]
  simp only [List.length_cons,List.length_nil]
  omega
 have hbk:ZuH b (Zh.Place e).toNat<(places (Za.Design b)).length+2:=by
  unfold ZuH
  split<;>omega
 have hpl2:(places (Zsr b e p)).length=(places (Za.Design b)).length+2:=by
  have h3:=ZdX (Zsr b e p)
  rw [Zhf hp.2,XW (Zjk (e:=e) (q:=p) hB hp.2),List.length_set]
  rw [ZfD,List.length_append,List.length_append,QG,ZsN,h2]
  unfold Yz ZqM
  show _+2+_=_
  omega
 have hA:=Zg9 (b:=(Za.Library b,Zsr b e p,Za.Zz b++[([-1],[0],[0],[0],())],())) (nodes:=((J8 b).take (Yz (Za.Design b))++[Y1 b (Zh.Place e).toNat,0]++(J8 b).drop (Yz (Za.Design b))).set (ZuH b (Zh.Place e).toNat) 0) hR.ok.1.few (by
  show (List.set _ _ _).length=(places (Zsr b e p)).length
  rw [List.length_set,hln,hpl2]) (by
  show (Za.Zz b++[([-1],[0],[0],[0],())]).length≤_
  rw [List.length_append,List.length_singleton];omega)
 rw [Zwd hk _ rfl] at hA
 have hA2:QD (Za.Library b,Zsr b e p,Za.Zz b++[([-1],[0],[0],[0],())],()) ((((J8 b).take (Yz (Za.Design b))++[Y1 b (Zh.Place e).toNat,0]++(J8 b).drop (Yz (Za.Design b)))).set (ZuH b (Zh.Place e).toNat) 0)=some (buffered b e (Zh.Place e).toNat p):=by
  rw [hA]
  show some (Za.Library b,Zsr b e p,wired (places (Zsr b e p)) (Za.Zz b++[([-1],[0],[0],[0],())]) (ZCz b (Zh.Place e).toNat),())=_
  rw [Zu8 _ _ _ (w:=([-1],[0],[0],[0],())) (w':=ZvA) (fun l=>rfl)]
  rfl
 unfold ZaO
 rw [YT _ hf,Bq,hp.at,Bq,Zcx hB,Bq,XI hp.1 (Zhj hk),Bq,hW]
 simp only [Int.toNat_natCast,Int.toNat_zero,Nat.sub_zero,List.drop_zero,hdr]
 have hci:(Zb.Instances (conn (Za.Design b) p.1 p.2.1 ((Za.Zz b).length:Int))).length=(Zb.Instances (Za.Design b)).length:=Xk
 have hcn:(Zb.ZI (conn (Za.Design b) p.1 p.2.1 ((Za.Zz b).length:Int))).length=(Zb.ZI (Za.Design b)).length:=by rw [QJ]
 have hl1:(List.take (Yz (Za.Design b)) (J8 b)).length=Yz (Za.Design b):=by rw [List.length_take,JR];omega
 have hl2:(List.drop (Yz (Za.Design b)) (J8 b)).length=(Zb.ZG (Za.Design b)).length:=by rw [List.length_drop,JR];omega
 rw [Zi (by omega),Zi (by rw [JR];omega),Zdx _ (by omega),Bq,
  Zi (by rw [hl1];simp only [List.length_cons,List.length_nil];omega),Zi (by omega),Zi (by rw [List.length_append,hl1,hl2];simp only [List.length_cons,List.length_nil];omega),
  Zf7 hp.2,Bq]
 have hx:∀ (i:Nat),i<(places (Za.Design b)).length+2→∃ y,((J8 b).take (Yz (Za.Design b))++[Y1 b (Zh.Place e).toNat,0]++(J8 b).drop (Yz (Za.Design b)))[i]?=some y:=fun i hi=>⟨_,List.getElem?_eq_getElem (by rw [hln];exact hi)⟩
 have hD:((Zb.Instances (conn (Za.Design b) p.1 p.2.1 ((Za.Zz b).length:Int))++[(Zh.Name e,Zh.Cell e,[ZF.net p,((Za.Zz b).length:Int)],())],Zb.ZI (conn (Za.Design b) p.1 p.2.1 ((Za.Zz b).length:Int))++[Zh.Name e],(conn (Za.Design b) p.1 p.2.1 ((Za.Zz b).length:Int)).snd.snd):Zb)=Zsr b e p:=by
  rw [hwn]
  rfl
 by_cases hc:Yz (Za.Design b)≤(Zh.Place e).toNat
 ·have hbk2:ZuH b (Zh.Place e).toNat=(Zh.Place e).toNat+2:=by unfold ZuH;rw [if_neg (by omega)]
  obtain ⟨y,hy⟩:=hx ((Zh.Place e).toNat+2) (by omega)
  rw [if_pos (by omega),Jr (n:=Zh.Place e+2) (by omega) (by omega),show Zh.Place e+2=(((Zh.Place e).toNat+2:Nat):Int) by omega,Zu,hy,Bq,
   Zi (by rw [hci,List.length_singleton];omega),Zi (by rw [hcn,List.length_singleton];omega),hlump,Bq,Zi (by rw [List.length_singleton];omega),Int.toNat_natCast,←hbk2,hD]
  refine Eq.trans (congrArg (fun o=>Option.bind o _) hA2) ?_
  rfl
 ·have hbk2:ZuH b (Zh.Place e).toNat=(Zh.Place e).toNat:=by unfold ZuH;rw [if_pos (by omega)]
  obtain ⟨y,hy⟩:=hx (Zh.Place e).toNat (by omega)
  rw [if_neg (by omega),XI hp.1 hy,Bq,
   Zi (by rw [hci,List.length_singleton];omega),Zi (by rw [hcn,List.length_singleton];omega),hlump,Bq,Zi (by rw [List.length_singleton];omega),hD]
  rw [hbk2] at hA2
  refine Eq.trans (congrArg (fun o=>Option.bind o _) hA2) ?_
  rfl
/-
  Plain laws: a buffer taken away (reference); edits applied: the program and the reference.
-/
theorem ZnO {b:Za} (h:VJ b) (hL:Zl0 b) {k:Nat} {p:Pl} {m:Int} (hs:sinks (Za.Design b) (((Zb.ZI (Za.Design b)).length:Int)-1)=[(k:Int)]) (hp:(places (Za.Design b))[k]?=some p) (hpi:p.1≠((Zb.Instances (Za.Design b)).length:Int)-1)
  (hm:∀ x,(Zb.Instances (Za.Design b))[(Zb.Instances (Za.Design b)).length-1]?=some x→atI (Ze.ZI x) 0=some m):Zes b=some (Znk b k p m):=by
 have hR:=Zmu h hL hs hp hpi hm
 obtain ⟨hn,x,hx,hl2⟩:=hL.two
 have hmx:=hm x hx
 have hf:=h.ok.1.few
 have hpl:=YW hf
 have h14:=hf.insts
 have h8:=hf.ports
 have h30:=h.ok.1.2.1.2.1
 have hwn:=h.ok.2.1
 have hk:=(List.getElem?_eq_some_iff.1 hp).1
 have h2:=ZdX (Za.Design b)
 have hi2:=Zjj hn hx hl2
 have hpos:1≤(Zb.ZI (Za.Design b)).length:=by
  have:=Je h.ok.1 (List.mem_of_getElem? hp)
  unfold ZaX at this
  omega
 have hx2:atI (Zb.Instances (Za.Design b)) (((Zb.Instances (Za.Design b)).length:Int)-1)=some x:=XI (by omega) (by rw [←hx];congr 1;omega)
 have t1:Int.toNat (((Zb.Instances (Za.Design b)).length:Int)-1)=(Zb.Instances (Za.Design b)).length-1:=by omega
 have hset:((List.set (Zb.Instances (Za.Design b)) ((Zb.Instances (Za.Design b)).length-1) x,(Za.Design b).snd):Zb)=Za.Design b:=by rw [ZaY hx]
 have hW1:Wq (((Za.Zz b).length:Int)-1)=(((Za.Zz b).length-1:Nat):Int):=by rw [Jr (by omega) (by omega)];omega
 have hW2:Wq (((J8 b).length:Int)-((Zb.ZG (Za.Design b)).length:Int))=(Yz (Za.Design b):Int):=by rw [JR,Jr (by omega) (by omega)];omega
 have hW3:Wq ((Yz (Za.Design b):Int)-2)=((Yz (Za.Design b)-2:Nat):Int):=by rw [Jr (by omega) (by omega)];omega
 have hW4:Wq (((Zb.Instances (Za.Design b)).length:Int)-1)=(((Zb.Instances (Za.Design b)).length-1:Nat):Int):=by rw [Jr (by omega) (by omega)];omega
 have hsk:Qc (Za.Design b) (((Za.Zz b).length-1:Nat):Int)=some [(k:Int)]:=by
  rw [Q5 _ _ hf,show (((Za.Zz b).length-1:Nat):Int)=((Zb.ZI (Za.Design b)).length:Int)-1 by omega,hs]
 have hx3:atI (Zb.Instances (Za.Design b)) (((Zb.Instances (Za.Design b)).length-1:Nat):Int)=some x:=by rw [Zu];exact hx
 have hls:(List.set (J8 b) k (Y1 b (Yz (Za.Design b)-2))).length=(places (Za.Design b)).length:=by rw [List.length_set,JR]
 have hdr:List.take ((List.set (J8 b) k (Y1 b (Yz (Za.Design b)-2))).length-Yz (Za.Design b)) (List.drop (Yz (Za.Design b)) (List.set (J8 b) k (Y1 b (Yz (Za.Design b)-2))))=List.drop (Yz (Za.Design b)) (List.set (J8 b) k (Y1 b (Yz (Za.Design b)-2))):=List.take_of_length_le (by rw [List.length_drop];exact Nat.le_refl _)
 have hci:(Zb.Instances (conn (Za.Design b) p.1 p.2.1 m)).length=(Zb.Instances (Za.Design b)).length:=Xk
 have hcn:(Zb.ZI (conn (Za.Design b) p.1 p.2.1 m)).length=(Zb.ZI (Za.Design b)).length:=by rw [QJ]
 have hl1:(List.take (Yz (Za.Design b)-2) (List.set (J8 b) k (Y1 b (Yz (Za.Design b)-2)))).length=Yz (Za.Design b)-2:=by rw [List.length_take,hls];omega
 have hl3:(List.drop (Yz (Za.Design b)) (List.set (J8 b) k (Y1 b (Yz (Za.Design b)-2)))).length=(Zb.ZG (Za.Design b)).length:=by rw [List.length_drop,hls];omega
 have hins:Yz (unD b p m)=Yz (Za.Design b)-2:=by
  have hn2:0<(Zb.Instances (conn (Za.Design b) p.1 p.2.1 m)).length:=by rw [Xk];exact hn
  have hx4:(Zb.Instances (conn (Za.Design b) p.1 p.2.1 m))[(Zb.Instances (conn (Za.Design b) p.1 p.2.1 m)).length-1]?=some ((Zb.Instances (conn (Za.Design b) p.1 p.2.1 m))[(Zb.Instances (conn (Za.Design b) p.1 p.2.1 m)).length-1]'(by omega)):=List.getElem?_eq_getElem _
  generalize (Zb.Instances (conn (Za.Design b) p.1 p.2.1 m))[(Zb.Instances (conn (Za.Design b) p.1 p.2.1 m)).length-1]'(by omega)=x' at hx4
  obtain ⟨y,hy,_,_,hyl,_⟩:=Zf9 hx4
  rw [Xk,hx] at hy
  injection hy with hy
  have h5:=Zjj hn2 hx4 (by rw [hyl,←hy,hl2])
  have h6:=ZmX hp m
  unfold unD
  omega
 have hup:(places (unD b p m)).length=(places (Za.Design b)).length-2:=by
  have h5:=ZdX (unD b p m)
  have h6:(Zb.ZG (unD b p m)).length=(Zb.ZG (Za.Design b)).length:=Zhg
  omega
 have hA:=Zg9 (b:=(Za.Library b,unD b p m,(Za.Zz b).take ((Za.Zz b).length-1),())) (nodes:=(J8 b |>.set k (Y1 b (Yz (Za.Design b)-2))).take (Yz (Za.Design b)-2)++(J8 b |>.set k (Y1 b (Yz (Za.Design b)-2))).drop (Yz (Za.Design b))) hR.ok.1.few (by
  show (List.take _ _++List.drop _ _).length=(places (unD b p m)).length
  rw [List.length_append,hl1,hl3,hup];omega) (by
  show (List.take _ _).length≤_
  rw [List.length_take];omega)
 have hnd:ZoY ((J8 b |>.set k (Y1 b (Yz (Za.Design b)-2))).take (Yz (Za.Design b)-2)++(J8 b |>.set k (Y1 b (Yz (Za.Design b)-2))).drop (Yz (Za.Design b)))=unN b k:=by
  funext j
  have:=Zy3 (l:=(J8 b).set k (Y1 b (Yz (Za.Design b)-2))) (m:=Yz (Za.Design b)-2) (by omega) j
  rw [show Yz (Za.Design b)-2+2=Yz (Za.Design b) by omega] at this
  rw [this]
  unfold unN
  congr 1
  funext i
  rw [Zr6 (by rw [JR];exact hk),Zm7]
  rfl
 rw [hnd] at hA
 have hD:((List.take ((Zb.Instances (Za.Design b)).length-1) (Zb.Instances (conn (Za.Design b) p.1 p.2.1 m)),List.take ((Za.Zz b).length-1) (Zb.ZI (conn (Za.Design b) p.1 p.2.1 m)),(conn (Za.Design b) p.1 p.2.1 m).snd.snd):Zb)=unD b p m:=by
  unfold unD XU
  rw [Xk,QJ,hwn]
 unfold Zes
 rw [Zcx h,Bq,hW1,hsk,Bq,show atI [(k:Int)] 0=some (k:Int) from rfl,Bq,hW2,hW3,Zu,Zhj (by omega),Bq,Zu,Zhj hk,Bq,hW4,hx3,Bq,
  show x.snd.snd.fst=Ze.ZI x from rfl,hmx,Bq]
 simp only [Int.toNat_natCast,Int.toNat_zero,Nat.sub_zero,List.drop_zero]
 rw [hset,YT _ hf,Bq,Zu,hp,Bq,Zf7 hp,Bq,Zi (by omega),Zi (by rw [hls];omega),Zdx _ (by omega),Bq,
  Zi (by omega),Zi (by rw [hls];omega),Zi (by omega),hdr,Zi (by rw [hl1,hl3];omega),Zi (by omega),Zi (by rw [hci];omega),Zi (by omega),Zi (by rw [hcn];omega),Zi (by omega),hD]
 refine Eq.trans (congrArg (fun o=>Option.bind o _) hA) ?_
 rfl
def Lens (b:Za) (e:Zh) (r:Za):Prop:=(places (Za.Design r)).length+(if Zh.Kind e=3 then 2 else 0)=(places (Za.Design b)).length+(if Zh.Kind e=2 then 2 else 0)
theorem ZwG (d:Zb) (x:Ze) (s:List UInt8):(places (addInst d x s)).length=(places d).length+(Ze.ZI x).length:=by
 rw [ZfD,List.length_append,List.length_append,QG]
 unfold places
 rw [List.length_append]
 omega
theorem Zz2 {b:Za} (h:VJ b) {e:Zh} {k:Nat} {p:Pl} (hp:(places (Za.Design b))[k]?=some p):(places (Zsr b e p)).length=(places (Za.Design b)).length+2:=by
 rw [Zhf hp,XW (Zjk h hp),List.length_set,ZwG]
 rfl
theorem ZtY {b:Za} {e:Zh} {r:Za} (h2:Zh.Kind e≠2) (h3:Zh.Kind e≠3) (h:(places (Za.Design r)).length=(places (Za.Design b)).length):Lens b e r:=by
 unfold Lens
 rw [if_neg h2,if_neg h3,h]
theorem ZwZ {b:Za} {e:Zh} (h:Znn b e) (he:sm XL e):∃ r,Qe e b=some r∧Zah b e=some r∧VJ r∧Za.Library r=Za.Library b∧Lens b e r:=by
 have hB:=h.blk
 have hf:=hB.ok.1.few
 have hwn:=hB.ok.2.1
 obtain ⟨b1,b2,b3⟩:=JW hB.sm
 unfold Qe Zah
 rw [Zf8 _ hB.sm,Bq,Ztz _ hB.sm,Bq,YT _ hf,Bq]
 by_cases k1:Zh.Kind e=1
 ·obtain ⟨p,x,c,c2,hp,h0,hd,hx,hc,hc2,ha⟩:=h.poss.1 k1
  obtain ⟨_,hcr⟩:=h.range.1 (.inl k1)
  have hx2:(Zb.Instances (Za.Design b))[p.1.toNat]?=some x:=by
   unfold atI at hx
   rw [if_pos h0] at hx
   exact hx
  obtain ⟨⟨hxc,_⟩,_,_⟩:=hB.ok.1.2.2.1 x (List.mem_of_getElem? hx2)
  have hc3:(Zo.Cells (Za.Library b))[(Ze.Cell x).toNat]?=some c:=by
   unfold atI at hc
   rw [if_pos hxc] at hc
   exact hc
  have hc4:(Zo.Cells (Za.Library b))[(Zh.Cell e).toNat]?=some c2:=by
   unfold atI at hc2
   rw [if_pos hcr.1] at hc2
   exact hc2
  have hR:=Zu3 hB h0 hx2 hc3 hc4 hcr (Zwi (QV (Zqk b1) hc3) (QV (Zqk b1) hc4) ha)
  rw [if_pos k1,if_pos k1,Z4 _ hf,Bq,hp.at,Bq]
  have e1:ZL.instance p=p.1:=rfl
  have e2:ZF.instance p=p.1:=rfl
  simp only [e1,e2,hx,Bq]
  refine ⟨swapped b p.1 (Zh.Cell e),?_,?_,hR,rfl,ZtY (by omega) (by omega) ?_⟩
  ·unfold swapped;rw [hx2]
  ·unfold swapped;rw [hx2]
  ·unfold swapped;rw [hx2];exact congrArg List.length (Zkl hx2 _)
 rw [if_neg k1,if_neg k1]
 by_cases k2:Zh.Kind e=2
 ·obtain ⟨p,c,hp,hd,_⟩:=h.poss.2.1 k2
  have hs:=(Zs8 he).1
  rw [if_pos k2,if_pos k2,Zp5 h k2 hs hp hd,Zqq h k2 hs hp hd]
  exact ⟨_,rfl,rfl,ZkU h k2 hs hp,rfl,by unfold Lens;rw [if_neg (by omega),if_pos k2];exact Zz2 hB hp.2⟩
 rw [if_neg k2,if_neg k2]
 by_cases k3:Zh.Kind e=3
 ·have hL:=h.poss.2.2.1 k3
  obtain ⟨k,p,m,v,hs,hp,hpi,hm,hv,hun⟩:=ZiA hB hL
  have hR:=Zmu hB hL hs hp hpi hm
  rw [if_pos k3,if_pos k3,hun,ZnO hB hL hs hp hpi hm]
  obtain ⟨hn,x,hx,hl2⟩:=hL.two
  have hn2:0<(Zb.Instances (conn (Za.Design b) p.1 p.2.1 m)).length:=by rw [Xk];exact hn
  have hx4:(Zb.Instances (conn (Za.Design b) p.1 p.2.1 m))[(Zb.Instances (conn (Za.Design b) p.1 p.2.1 m)).length-1]?=some ((Zb.Instances (conn (Za.Design b) p.1 p.2.1 m))[(Zb.Instances (conn (Za.Design b) p.1 p.2.1 m)).length-1]'(by omega)):=List.getElem?_eq_getElem _
  generalize (Zb.Instances (conn (Za.Design b) p.1 p.2.1 m))[(Zb.Instances (conn (Za.Design b) p.1 p.2.1 m)).length-1]'(by omega)=x' at hx4
  obtain ⟨y,hy,_,_,hyl,_⟩:=Zf9 hx4
  rw [Xk,hx] at hy
  injection hy with hy
  have h5:=Zjj hn2 hx4 (by rw [hyl,←hy,hl2])
  have h6:=ZmX hp m
  have hins:Yz (unD b p m)=Yz (Za.Design b)-2:=by unfold unD;omega
  refine ⟨Znk b k p m,by rw [hins,hv];rfl,rfl,hR,rfl,?_⟩
  have h7:=congrArg List.length (Zjn (s:=[]) hn2 hx4)
  rw [ZwG,hyl,←hy,hl2,XW hp,List.length_set] at h7
  unfold Lens
  rw [if_pos k3,if_neg (by omega)]
  exact h7.symm
 rw [if_neg k3,if_neg k3]
 by_cases k4:Zh.Kind e=4
 ·obtain ⟨p,hp,hd,hne⟩:=h.poss.2.2.2.1 k4
  obtain ⟨_,hn,w,hw,hnode⟩:=h.range.2.1 k4
  have hk:=(List.getElem?_eq_some_iff.1 hp.2).1
  have hR:=Zzi hB hp.2 hd hn (v:=Zh.Node e) (fun w' hw'=>by rw [hw] at hw';injection hw' with hw';rw [←hw'];exact hnode)
  rw [if_pos k4,if_pos k4,Zdw hB,Bq,Z4 _ hf,Bq,hp.at,Bq,Zcx hB,Bq,XI hp.1 (Zhj hk),Bq,Bq,Zf7 hp.2,Bq,
   show (ZL.instance p,ZL.pin p,())=(p.1,p.2.1,()) from rfl,Zg7 hp.2,Bq]
  refine ⟨moved b (Zh.Place e).toNat p (Zh.Net e) (Zh.Node e),?_,?_,hR,rfl,ZtY k2 k3 (by show (places (conn _ _ _ _)).length=_;rw [XW hp.2,List.length_set])⟩
  ·exact congrArg (fun o=>Option.bind o fun connect0=>some connect0) (ZsM hB hp.2 hd hn (v:=Zh.Node e))
  ·exact congrArg (fun o=>Option.bind o fun l08Attach0=>some l08Attach0) (ZsI hB hp.2 (Zh.Net e) (Zh.Node e))
 ·have k5:Zh.Kind e=5:=by have:=h.blank;unfold Blank at this;omega
  have hn:=h.range.2.2 k5
  obtain ⟨w,hw1,hw2,_⟩:=Zlj hB hn
  have hsw:=(Zs8 he).2
  have hR:=ZvY hB hn (h.poss.2.2.2.2 k5) hsw
  rw [if_neg k4,if_neg k4,if_pos k5,if_pos k5,Zdc _ hsw,Bq,Zgk _ hsw,Bq,hw2,Bq]
  exact ⟨Zzs b (Zh.Net e) (Zh.Ze7 e),rfl,rfl,hR,rfl,ZtY k2 k3 rfl⟩
theorem ZyL {b:Za} {e:Zh} (h:Znn b e) (he:sm XL e):∃ r,Qe e b=some r∧Zah b e=some r∧VJ r∧Za.Library r=Za.Library b:=by
 obtain ⟨r,h1,h2,h3,h4,_⟩:=ZwZ h he
 exact ⟨r,h1,h2,h3,h4⟩
theorem ZOt {α:Type} {f:α→Nat} {c:Nat}:∀ {l:List α},(∀ x∈l,f x≤c)→(l.map f).sum≤c*l.length
 | [],_=>by simp
 | x::r,h=>by
  have h1:=ZOt (l:=r) fun y hy=>h y (List.mem_cons_of_mem _ hy)
  have h2:=h x (List.mem_cons_self ..)
  simp only [List.map_cons,List.sum_cons,List.length_cons,Nat.mul_add,Nat.mul_one]
  omega
theorem ZPl {b:Za} (h:VJ b):cnt Y3 b≤cnt Xh (Za.Library b)+200000000:=by
 obtain ⟨b1,b2,b3⟩:=JW h.sm
 have hf:=h.ok.1.few
 have h30:=h.ok.1.2.1.2.1
 have hwn:=h.ok.2.1
 have e:cnt Y3 b=cnt Xh (Za.Library b)+(cnt (.sl Yq) (Zb.Instances (Za.Design b))+(cnt (.sl .str) (Zb.ZI (Za.Design b))+(cnt (.sl Zcd) (Zb.ZG (Za.Design b))+0))+(cnt (.sl Vv) (Za.Zz b)+0)):=rfl
 have i1:cnt (.sl Yq) (Zb.Instances (Za.Design b))≤7*(Zb.Instances (Za.Design b)).length:=ZOt fun x hx=>by
  have h5:=hf.nets x hx
  have e2:cnt Yq x=1+(1+(cnt (.sl (.int .i64)) (Ze.ZI x)+0)):=rfl
  rw [e2,ZJE]
  omega
 have i2:cnt (.sl .str) (Zb.ZI (Za.Design b))≤1*(Zb.ZI (Za.Design b)).length:=ZOt fun x _=>Nat.le_refl _
 have i3:cnt (.sl Zcd) (Zb.ZG (Za.Design b))≤3*(Zb.ZG (Za.Design b)).length:=ZOt fun x _=>Nat.le_refl _
 have i4:cnt (.sl Vv) (Za.Zz b)≤4194304*(Za.Zz b).length:=ZOt fun x hx=>by
  obtain ⟨a1,a2,a3,a4⟩:=ZlW (b3.2 x hx)
  have s1:=Zp a1
  have s2:=Zp a2
  have s3:=Zp a3
  have s4:=Zp a4
  have e2:cnt Vv x=cnt (.sl (.int .i64)) (Zr.Parent x)+(cnt (.sl (.int .i64)) (Zr.Res x)+(cnt (.sl (.int .i64)) (Zr.Cap x)+(cnt (.sl (.int .i64)) (Zr.Ze6 x)+0))):=rfl
  rw [e2,ZJE,ZJE,ZJE,ZJE]
  omega
 have:=hf.insts
 have:=hf.ports
 omega
/-
  Plain laws: setups whose places are carried over: what the reference makes of them.
-/
def Zau (af:List Int) (p:Int):Int:=(af[p.toNat]?).getD 0
def Zzy (af:List Int) (c:Zl):Zl:=(Zl.Name c,Zau af (Zl.Place c),c.2.2)
def Zqr (af:List Int) (x:Zj):Zj:=(Zau af (Zj.Place x),x.2)
def ZxG (af:List Int) (l:List Int):List Int:=l.map (Zau af)
def ZxJ (af:List Int) (e:Zg):Zg:=(Zg.Kind e,Zg.Value e,ZxG af (Zg.From e),ZxG af (Zg.Through e),ZxG af (Zg.To e),())
def ZrH (af:List Int) (s:Zn):Zn:=((Zn.YE s).map (Zzy af),(Zn.XV s).map (Zqr af),(Zn.Y7 s).map (Zqr af),(Zn.Exceptions s).map (ZxJ af),Zn.XT s,())
def LOk (af:List Int) (l:List Int):Prop:=ZeY l (fun _ p=>0≤Zau af p)
def EOk (af:List Int) (e:Zg):Prop:=LOk af (Zg.From e)∧LOk af (Zg.Through e)∧LOk af (Zg.To e)
theorem Zik {af:List Int} {p:Int} (h0:0≤p) (h1:p<(af.length:Int)):atI af p=some (Zau af p):=by
 have hx:af[p.toNat]?=some (af[p.toNat]'(by omega)):=List.getElem?_eq_getElem _
 unfold Zau
 rw [XI h0 hx,hx]
 rfl
structure Zvy (n:Nat) (s:Zn):Prop where
 clocks:∀ c∈Zn.YE s,0≤Zl.Place c∧Zl.Place c<(n:Int)
 ins:∀ x∈Zn.XV s,0≤Zj.Place x∧Zj.Place x<(n:Int)
 outs:∀ x∈Zn.Y7 s,0≤Zj.Place x∧Zj.Place x<(n:Int)
 excs:∀ e∈Zn.Exceptions s,ZmH n (Zg.From e)∧ZmH n (Zg.Through e)∧ZmH n (Zg.To e)
 lens:(Zn.YE s).length≤6∧(Zn.XV s).length≤n∧(Zn.Y7 s).length≤n∧(Zn.Exceptions s).length≤6∧(Zn.XT s).length≤4
theorem Zzt {pl:List Pl} {nc:Int} {drv:Bool} {l:List Zj} (h:Zhk pl nc drv l):l.length≤pl.length:=by
 have key:∀ k,k<l.length→∀ x,l[k]?=some x→(k:Int)≤Zj.Place x:=by
  intro k
  induction k with
  | zero=>intro hk x hx;have:=(h 0 x hx).1;omega
  | succ k ih =>
   intro hk x hx
   have hy:l[k]?=some l[k]:=List.getElem?_eq_getElem (by omega)
   have h1:=ih (by omega) _ hy
   have h2:=(h (k+1) x hx).2.2.1 _ (by omega) hy
   omega
 by_cases h0:l.length=0
 ·omega
 ·have hx:l[l.length-1]?=some (l[l.length-1]'(by omega)):=List.getElem?_eq_getElem _
  have h1:=key _ (by omega) _ hx
  have h2:=(h _ _ hx).1
  omega
theorem ZAX {pl:List Pl} {s:Zn} (h:ZpV pl s):Zvy pl.length s:=by
 obtain ⟨h1,h2,h3,h4,h5,h6,h7⟩:=h
 have hx:∀ {drv:Bool} {l:List Zj},Zhk pl ((Zn.YE s).length:Int) drv l→∀ x∈l,0≤Zj.Place x∧Zj.Place x<(pl.length:Int):=by
  intro drv l hl x hx
  obtain ⟨k,hk⟩:=List.getElem?_of_mem hx
  have:=(hl k x hk).1
  omega
 exact ⟨fun c hc=>⟨h1.place hc,h2 c hc⟩,hx h3,hx h4,fun e he=>⟨(h6 e he).1,(h6 e he).2.1,(h6 e he).2.2.1⟩,h1.1,Zzt h3,Zzt h4,h5,h7.1⟩
noncomputable def ZAJ (af:List Int) (l:List Int):List Int:=sel (LOk af l) (ZxG af l) []
theorem ZzB {n:Nat} {l:List Int} (h:ZmH n l) {k:Nat} {x:Int} (hx:l[k]?=some x):0≤x∧x<(n:Int):=by
 have:=h.2 x (List.mem_of_getElem? hx)
 omega
theorem ZdN {af:List Int} {n:Nat} (haf:af.length=n) {l:List Int} (h:ZmH n l):ZaN l af=some (ZAJ af l,tr (LOk af l)):=by
 have h4:=h.1
 unfold ZaN
 have:=ZgW (l:=l) (ρ:=List Int×Bool) (fun k=>((l.take k).map (Zau af),(k:Int),())) (fun _ x=>0≤Zau af x) (step:=fun v=>JI l af v.1 v.2.1) (bad:=([],false)) (good:=(ZxG af l,true))
  (fun k x hx hk _=>by
   obtain ⟨h0,h1⟩:=ZzB h hx
   simp only [JI,show (k:Int)<(l.length:Int) from by omega,if_true,Zu,hx,Bq,Zik h0 (by rw [haf];exact h1),Xx (show k≤1048576 by omega)]
   rw [Zi (by rw [List.length_map,List.length_take,List.length_singleton];omega)]
   constructor
   ·intro q
    rw [if_neg (by omega),Z8 hx,List.map_append]
    rfl
   ·intro q;rw [if_pos (by omega)])
  (fun _=>by simp only [JI,Int.lt_irrefl,if_false,List.take_length];rfl)
 simp only [List.take_zero,List.map_nil] at this
 rw [show ((0:Nat):Int)=0 from rfl] at this
 rw [this]
 unfold ZAJ LOk
 by_cases c:ZeY l (fun _ x=>0≤Zau af x)
 ·rw [YS c,YS c,Yb c]
 ·rw [YH c,YH c,ZQ c]
theorem Ze4 {af:List Int} {n:Nat} (haf:af.length=n) (hn:n≤100) {l:List Zj} (h:∀ x∈l,0≤Zj.Place x∧Zj.Place x<(n:Int)) (hl:l.length≤n):J6 l af=some (l.map (Zqr af)):=by
 unfold J6
 have:=Yk (l:=l) (ρ:=List Zj) (fun k=>((l.take k).map (Zqr af),(k:Int),())) (step:=fun v=>Vi l af v.1 v.2.1) (good:=l.map (Zqr af))
  (fun k x hx hk=>by
   obtain ⟨h0,h1⟩:=h x (List.mem_of_getElem? hx)
   simp only [Vi,show (k:Int)<(l.length:Int) from by omega,if_true,Zu,hx,Bq,Zik h0 (by rw [haf];exact h1),Xx (show k≤1048576 by omega)]
   rw [Zi (by rw [List.length_map,List.length_take,List.length_singleton];omega),Z8 hx,List.map_append]
   rfl)
  (by simp only [Vi,Int.lt_irrefl,if_false,List.take_length])
 simpa using this
noncomputable def Zr9 (af:List Int) (e:Zg):Zg:=(Zg.Kind e,Zg.Value e,ZAJ af (Zg.From e),ZAJ af (Zg.Through e),ZAJ af (Zg.To e),())
theorem ZxQ {af:List Int} {e:Zg} (h:EOk af e):Zr9 af e=ZxJ af e:=by
 unfold Zr9 ZxJ ZAJ
 rw [YS h.1,YS h.2.1,YS h.2.2]
def Zc0 (af:List Int) (l:List Zg):Prop:=∀ e∈l,EOk af e
theorem ZsW {af:List Int} {n:Nat} (haf:af.length=n) {s:Zn} (h:Zvy n s) (hn:n≤100) (cl:List Zl) :
  Zv (fun v=>VK af s cl v.1 v.2.1 v.2.2.1) (([]:List Zg),Bool.true,(0:Int),())=some (.inr ((cl,(Zn.XV s).map (Zqr af),(Zn.Y7 s).map (Zqr af),(Zn.Exceptions s).map (Zr9 af),Zn.XT s,()),tr (Zc0 af (Zn.Exceptions s)))):=by
 obtain ⟨_,h2,h3,h4,h5⟩:=h.lens
 have:=Yk (l:=Zn.Exceptions s) (ρ:=(List Zl×Int×Unit) ⊕ (Zn×Bool)) (fun k=>(((Zn.Exceptions s).take k).map (Zr9 af),tr (Zc0 af ((Zn.Exceptions s).take k)),(k:Int),())) (step:=fun v=>VK af s cl v.1 v.2.1 v.2.2.1)
  (good:=.inr ((cl,(Zn.XV s).map (Zqr af),(Zn.Y7 s).map (Zqr af),(Zn.Exceptions s).map (Zr9 af),Zn.XT s,()),tr (Zc0 af (Zn.Exceptions s))))
  (fun k x hx hk=>by
   obtain ⟨p1,p2,p3⟩:=h.excs x (List.mem_of_getElem? hx)
   have hg:(((Zn.Exceptions s).take k).map (Zr9 af)).length=k:=by rw [List.length_map,List.length_take];omega
   have hA:Zc0 af ((Zn.Exceptions s).take (k+1))↔Zc0 af ((Zn.Exceptions s).take k)∧EOk af x:=by
    unfold Zc0
    rw [Z8 hx]
    constructor
    ·exact fun q=>⟨fun e he=>q e (List.mem_append_left _ he),q x (List.mem_append_right _ (List.mem_singleton.2 rfl))⟩
    ·rintro ⟨q1,q2⟩ e he
     rcases List.mem_append.1 he with he | he
     ·exact q1 e he
     ·rw [List.mem_singleton.1 he];exact q2
   simp only [VK,show (k:Int)<((Zn.Exceptions s).length:Int) from by omega,if_true,Zu,hx,Bq,ZdN haf p1,ZdN haf p2,ZdN haf p3,Xx (show k≤1048576 by omega)]
   rw [Zi (by rw [hg,List.length_singleton];omega),Zi (by rw [hg,List.length_singleton];omega),Z8 hx,List.map_append,show (Zn.Exceptions s).take k++[x]=(Zn.Exceptions s).take (k+1) from (Z8 hx).symm,YB hA]
   unfold EOk
   by_cases c0:Zc0 af ((Zn.Exceptions s).take k)<;>by_cases c1:LOk af (Zg.From x)<;>by_cases c2:LOk af (Zg.Through x)<;>by_cases c3:LOk af (Zg.To x) <;>
    simp only [Y9,c0,c1,c2,c3,if_true,if_false,true_and,and_true,false_and,and_false,Yb,ZQ,not_false_eq_true,trivial]<;>rfl)
  (by
   simp only [VK,Int.lt_irrefl,if_false,List.take_length]
   rw [Zi (by rw [List.length_nil];omega),Ze4 haf hn h.ins h2,Bq,Ze4 haf hn h.outs h3,Bq]
   rfl)
 have e0:tr (Zc0 af ([]:List Zg))=true:=Yb (fun e he=>by cases he)
 simpa [e0] using this
theorem ZrR {af:List Int} {n:Nat} (haf:af.length=n) {s:Zn} (h:Zvy n s) (hn:n≤100) :
  ZfA af s=some (((Zn.YE s).map (Zzy af),(Zn.XV s).map (Zqr af),(Zn.Y7 s).map (Zqr af),(Zn.Exceptions s).map (Zr9 af),Zn.XT s,()),tr (Zc0 af (Zn.Exceptions s))):=by
 obtain ⟨h1,_⟩:=h.lens
 unfold ZfA
 have:=Yk (l:=Zn.YE s) (ρ:=Zn×Bool) (fun k=>(((Zn.YE s).take k).map (Zzy af),(k:Int),())) (step:=fun v=>Zac af s v.1 v.2.1)
  (good:=(((Zn.YE s).map (Zzy af),(Zn.XV s).map (Zqr af),(Zn.Y7 s).map (Zqr af),(Zn.Exceptions s).map (Zr9 af),Zn.XT s,()),tr (Zc0 af (Zn.Exceptions s))))
  (fun k x hx hk=>by
   obtain ⟨h0,h1⟩:=h.clocks x (List.mem_of_getElem? hx)
   simp only [Zac,show (k:Int)<((Zn.YE s).length:Int) from by omega,if_true,Zu,hx,Bq,Zik h0 (by rw [haf];exact h1),Xx (show k≤1048576 by omega)]
   rw [Zi (by rw [List.length_map,List.length_take,List.length_singleton];omega),Z8 hx,List.map_append]
   rfl)
  (by
   simp only [Zac,Int.lt_irrefl,if_false,List.take_length]
   exact ZsW haf h hn _)
 simpa using this
theorem ZAe {af:List Int} {l:List Zg} (h:Zc0 af l):l.map (Zr9 af)=l.map (ZxJ af):=List.map_congr_left fun e he=>ZxQ (h e he)
/-
  Plain laws: a session that is opened; the law FnExactOpenSession.
-/
def stay (n:Nat):List Int:=(List.range n).map Int.ofNat
theorem Zlr {n:Nat} (hn:n≤100) {s:Zn} (h:Zvy n s):Zcy s=some s:=by
 obtain ⟨h1,h2,h3,h4,h5⟩:=h.lens
 unfold Zcy XY YO XG
 rw [Zi (by rw [List.length_nil];omega),Bq,Zi (by rw [List.length_nil];omega),Bq,Zi (by rw [List.length_nil];omega),Bq,Zi (by rw [List.length_nil];omega),Bq]
 simp only [List.nil_append]
 have:=Yk (l:=Zn.Exceptions s) (ρ:=Zn) (fun k=>((k:Int),(Zn.Exceptions s).take k,())) (step:=fun v=>VN s (Zn.YE s) (Zn.XV s) (Zn.Y7 s) (Zn.XT s) v.1 v.2.1) (good:=s)
  (fun k x hx hk=>by
   obtain ⟨p1,p2,p3⟩:=h.excs x (List.mem_of_getElem? hx)
   have q1:=p1.1
   have q2:=p2.1
   have q3:=p3.1
   simp only [VN,show (k:Int)<((Zn.Exceptions s).length:Int) from by omega,if_true,Zu,hx,Bq,V7 (Zg.From x) (by omega),V7 (Zg.Through x) (by omega),V7 (Zg.To x) (by omega),Xx (show k≤1048576 by omega)]
   rw [Zi (by rw [List.length_take,List.length_singleton];omega),Z8 hx])
  (by simp only [VN,Int.lt_irrefl,if_false,List.take_length])
 simpa using this
def Zsn:Zn:=([],[],[],[],[],())
abbrev ZPs:Za:=((([]:List Zm),()),(([]:List Ze),([]:List (List UInt8)),([]:List ZR),()),([]:List Zr),())
theorem ZPg:sm Y3 ZPs:=by
 simp only [sm,and_true]
 simp
theorem ZO0:sm QX Zsn:=by
 unfold Zsn
 simp only [sm,and_true]
 simp
/-
  Plain laws: setups whose places are carried over an edit.
-/
theorem Zzh {α τ ρ:Type} {l:List α} (pk:Nat→τ) (P:Nat→α→Prop) (Q:ρ→Prop) {step:τ→Option (τ ⊕ ρ)}
  (hs:∀ (k:Nat) (x:α),l[k]?=some x→k<l.length→(P k x→step (pk k)=some (.inl (pk (k+1))))∧(¬P k x→∃ r,step (pk k)=some (.inr r)∧(¬ZeY l P→Q r)))
  (hx:ZeY l P→∃ r,step (pk l.length)=some (.inr r)∧Q r):∃ r,Zv step (pk 0)=some r∧Q r:=by
 refine Vn l.length (fun k v=>v=pk k∧∀ (j:Nat) (y:α),j<k→l[j]?=some y→P j y) Q ⟨rfl,fun j y hj=>by omega⟩ ?_ ?_
 ·rintro k v hk ⟨rfl,hS⟩
  have hx:l[k]?=some l[k]:=List.getElem?_eq_getElem hk
  obtain ⟨h1,h2⟩:=hs k _ hx hk
  by_cases hP:P k l[k]
  ·refine .inl ⟨_,h1 hP,rfl,fun j y hj hy=>?_⟩
   by_cases hjk:j<k
   ·exact hS j y hjk hy
   ·have:j=k:=by omega
    subst this
    rw [hx] at hy;injection hy with hy;subst hy;exact hP
  ·obtain ⟨r,r1,r2⟩:=h2 hP
   exact .inr ⟨r,r1,r2 fun hA=>hP (hA k _ hx)⟩
 ·rintro v ⟨rfl,hS⟩
  exact hx fun k x hk=>hS k x (List.getElem?_eq_some_iff.1 hk).1 hk
theorem ZC3 {α:Type} {l:List α} {f:α→α} {k:Nat} {x:α} (hx:l[k]?=some x):List.set ((l.take k).map f++l.drop k) k (f x)=(l.take (k+1)).map f++l.drop (k+1):=by
 have hk:=(List.getElem?_eq_some_iff.1 hx).1
 have h1:((l.take k).map f).length=k:=by rw [List.length_map,List.length_take];omega
 rw [List.set_append,if_neg (by omega),h1,Nat.sub_self,Z8 hx,List.map_append,List.append_assoc]
 congr 1
 have h2:l.drop k=x::l.drop (k+1):=by
  rw [List.drop_eq_getElem_cons hk]
  congr 1
  have:=List.getElem?_eq_getElem hk
  rw [hx] at this;injection this with this;exact this.symm
 rw [h2]
 rfl
theorem atC {α:Type} {l:List α} {f:α→α} {k:Nat} {x:α} (hx:l[k]?=some x):((l.take k).map f++l.drop k)[k]?=some x:=by
 have hk:=(List.getElem?_eq_some_iff.1 hx).1
 have h1:((l.take k).map f).length=k:=by rw [List.length_map,List.length_take];omega
 rw [List.getElem?_append_right (by omega),h1,Nat.sub_self,List.getElem?_drop]
 exact hx
theorem ZFo {α:Type} (l:List α) (f:α→α) (k:Nat):((l.take k).map f++l.drop k).length=l.length:=by
 rw [List.length_append,List.length_map,List.length_take,List.length_drop];omega
theorem ZwY {p:Prop} [Decidable p]:tr p=decide p:=ZlV decide_eq_true_iff
theorem ZeV {af:List Int} {n:Nat} (haf:af.length=n) {l:List Int} (h:ZmH n l):∃ l',Jc af l=some (tr (LOk af l),l')∧(LOk af l→l'=ZxG af l):=by
 have h4:=h.1
 have:=Zzh (l:=l) (ρ:=Bool×List Int) (fun k=>((k:Int),(l.take k).map (Zau af)++l.drop k,())) (fun _ x=>0≤Zau af x) (fun r=>r.1=tr (LOk af l)∧(LOk af l→r.2=ZxG af l)) (step:=fun v=>Zar af l v.1 v.2.1)
  (fun k x hx hk=>by
   obtain ⟨h0,h1⟩:=ZzB h hx
   have hat:atI (List.set ((l.take k).map (Zau af)++l.drop k) k (Zau af x)) (k:Int)=some (Zau af x):=ZrL (by rw [ZFo];exact hk)
   simp only [Zar,show (k:Int)<(l.length:Int) from by omega,if_true,Zu,atC hx,Bq,Zik h0 (by rw [haf];exact h1),Int.toNat_natCast,Xx (show k≤1048576 by omega)]
   rw [←Zu,hat,Bq,ZC3 hx]
   constructor
   ·intro q;rw [if_neg (by omega)]
   ·intro q
    rw [if_pos (by omega)]
    exact ⟨_,rfl,fun hn=>⟨(ZQ hn).symm,fun hy=>absurd hy hn⟩⟩)
  (fun hA=>by
   simp only [Zar,Int.lt_irrefl,if_false]
   refine ⟨_,rfl,(Yb hA).symm,fun _=>?_⟩
   show (l.take l.length).map (Zau af)++l.drop l.length=_
   rw [List.take_length,List.drop_length,List.append_nil]
   rfl)
 simp only [List.take_zero,List.map_nil,List.nil_append,List.drop_zero] at this
 obtain ⟨⟨r1,r2⟩,e,q1,q2⟩:=this
 simp only at q1 q2
 subst q1
 exact ⟨r2,e,q2⟩
theorem Zm1 {α ρ:Type} {l:List α} (f:α→α) (ok:α→Prop) (C:Prop) {step:Int×List α×Bool×Unit→Option ((Int×List α×Bool×Unit) ⊕ ρ)} {good:ρ}
  (hs:∀ (k:Nat) (x:α) (L:List α) (c:Bool),l[k]?=some x→k<l.length→(k:Int)<(l.length:Int)→L[k]?=some x→k<L.length→step ((k:Int),L,c,())=some (.inl (((k+1:Nat):Int),L.set k (f x),c&&tr (ok x),())))
  (hx:step ((l.length:Int),l.map f,tr (C∧∀ x∈l,ok x),())=some (.inr good)):Zv step ((0:Int),l,tr C,())=some good:=by
 have:=Yk (l:=l) (ρ:=ρ) (fun k=>((k:Int),(l.take k).map f++l.drop k,tr (C∧∀ x∈l.take k,ok x),())) (step:=step) (good:=good)
  (fun k x hx hk=>by
   rw [hs k x _ _ hx hk (by omega) (atC hx) (by rw [ZFo];exact hk),ZC3 hx]
   congr 4
   refine Prod.ext ?_ rfl
   show (tr (C∧∀ x∈l.take k,ok x)&&tr (ok x))=tr (C∧∀ y∈l.take (k+1),ok y)
   refine (ZlV ?_).symm
   rw [Bool.and_eq_true,Y9,Y9,Z8 hx]
   constructor
   ·rintro ⟨⟨q1,q2⟩,q3⟩
    refine ⟨q1,fun y hy=>?_⟩
    rcases List.mem_append.1 hy with hy | hy
    ·exact q2 y hy
    ·rw [List.mem_singleton.1 hy];exact q3
   ·rintro ⟨q1,q2⟩
    exact ⟨⟨q1,fun y hy=>q2 y (List.mem_append_left _ hy)⟩,q2 x (List.mem_append_right _ (List.mem_singleton.2 rfl))⟩)
  (by simp only [List.take_length,List.drop_length,List.append_nil];exact hx)
 have e:tr (C∧∀ x∈([]:List α),ok x)=tr C:=YB ⟨fun q=>q.1,fun q=>⟨q,fun x hx=>by cases hx⟩⟩
 simp only [List.take_zero,List.map_nil,List.nil_append,List.drop_zero,e] at this
 exact this
def SOk (af:List Int) (s:Zn):Prop :=
 (((True∧∀ c∈Zn.YE s,0≤Zau af (Zl.Place c))∧∀ x∈Zn.XV s,0≤Zau af (Zj.Place x))∧∀ x∈Zn.Y7 s,0≤Zau af (Zj.Place x))∧Zc0 af (Zn.Exceptions s)
theorem ZsB {af:List Int} {n:Nat} (haf:af.length=n) {s:Zn} (h:Zvy n s) (C:Prop) (c1:List Zl) (c2 c3:List Zj) :
  ∃ L,Zv (fun v=>Qu s af c1 c2 c3 v.1 v.2.1 v.2.2.1) ((0:Int),tr C,Zn.Exceptions s,())=some (.inr (.inr (.inr (tr (C∧Zc0 af (Zn.Exceptions s)),(c1,c2,c3,L,s.2.2.2.2)))))∧(C∧Zc0 af (Zn.Exceptions s)→L=(Zn.Exceptions s).map (ZxJ af)):=by
 obtain ⟨_,_,_,h4,_⟩:=h.lens
 have:=ZhI (l:=Zn.Exceptions s) (v:=(((0:Int),tr C,Zn.Exceptions s,()):Int×Bool×List Zg×Unit)) (step:=fun v=>Qu s af c1 c2 c3 v.1 v.2.1 v.2.2.1)
  (fun k v=>∃ L:List Zg,v=((k:Int),tr (C∧Zc0 af ((Zn.Exceptions s).take k)),L,())∧L.length=(Zn.Exceptions s).length∧(∀ j,k≤j→L[j]?=(Zn.Exceptions s)[j]?)∧(C∧Zc0 af ((Zn.Exceptions s).take k)→L=((Zn.Exceptions s).take k).map (ZxJ af)++(Zn.Exceptions s).drop k))
  (fun r=>∃ L,r=(.inr (.inr (.inr (tr (C∧Zc0 af (Zn.Exceptions s)),(c1,c2,c3,L,s.2.2.2.2)))))∧(C∧Zc0 af (Zn.Exceptions s)→L=(Zn.Exceptions s).map (ZxJ af)))
  ⟨Zn.Exceptions s,by
   have e:tr (C∧Zc0 af ((Zn.Exceptions s).take 0))=tr C:=YB ⟨fun q=>q.1,fun q=>⟨q,fun x hx=>by simp at hx⟩⟩
   rw [e];rfl,rfl,fun _ _=>rfl,fun _=>by simp⟩
  (fun k x v hx hk hI=>by
   obtain ⟨L,rfl,hL,hj,hLc⟩:=hI
   obtain ⟨p1,p2,p3⟩:=h.excs x (List.mem_of_getElem? hx)
   have hLx:L[k]?=some x:=by rw [hj k (Nat.le_refl _)];exact hx
   obtain ⟨l1,a1,b1⟩:=ZeV haf p1
   obtain ⟨l2,a2,b2⟩:=ZeV haf p2
   obtain ⟨l3,a3,b3⟩:=ZeV haf p3
   have a1:Jc af x.snd.snd.fst=some (tr (LOk af (Zg.From x)),l1):=a1
   have a2:Jc af x.snd.snd.snd.fst=some (tr (LOk af (Zg.Through x)),l2):=a2
   have a3:Jc af x.snd.snd.snd.snd.fst=some (tr (LOk af (Zg.To x)),l3):=a3
   have hA:Zc0 af ((Zn.Exceptions s).take (k+1))↔Zc0 af ((Zn.Exceptions s).take k)∧EOk af x:=by
    unfold Zc0
    rw [Z8 hx]
    constructor
    ·exact fun q=>⟨fun e he=>q e (List.mem_append_left _ he),q x (List.mem_append_right _ (List.mem_singleton.2 rfl))⟩
    ·rintro ⟨q1,q2⟩ e he
     rcases List.mem_append.1 he with he | he
     ·exact q1 e he
     ·rw [List.mem_singleton.1 he];exact q2
   have next:∀ (y:Zg) (c:Bool),c=tr (C∧Zc0 af ((Zn.Exceptions s).take (k+1)))→(C∧Zc0 af ((Zn.Exceptions s).take (k+1))→y=ZxJ af x)→
     ∃ v',(some (.inl (((k+1:Nat):Int),c,List.set L k y,())):Option ((Int×Bool×List Zg×Unit) ⊕ ((Int×(List Zj)×Bool×Unit) ⊕ ((Int×(List Zj)×Bool×Unit) ⊕ ((Int×(List Zl)×Bool×Unit) ⊕ (Bool×Zn))))))=some (.inl v')∧
      ∃ L:List Zg,v'=(((k+1:Nat):Int),tr (C∧Zc0 af ((Zn.Exceptions s).take (k+1))),L,())∧L.length=(Zn.Exceptions s).length∧(∀ j,k+1≤j→L[j]?=(Zn.Exceptions s)[j]?)∧(C∧Zc0 af ((Zn.Exceptions s).take (k+1))→L=((Zn.Exceptions s).take (k+1)).map (ZxJ af)++(Zn.Exceptions s).drop (k+1)):=by
    intro y c hc hy
    refine ⟨_,rfl,L.set k y,by rw [hc],by rw [List.length_set];exact hL,fun j hjk=>?_,fun q=>?_⟩
    ·rw [List.getElem?_set_ne (by omega)];exact hj j (by omega)
    ·rw [hy q,hLc ⟨q.1,(hA.1 q.2).1⟩,ZC3 hx]
   simp only [Qu,show (k:Int)<((Zn.Exceptions s).length:Int) from by omega,if_true,Zu,hLx,Bq,Xx (show k≤1048576 by omega),Int.toNat_natCast]
   by_cases q0:C∧Zc0 af ((Zn.Exceptions s).take k)
   ·rw [if_pos (Yb q0),a1,Bq]
    by_cases q1:LOk af (Zg.From x)
    ·rw [if_pos (Yb q1),a2,Bq]
     by_cases q2:LOk af (Zg.Through x)
     ·rw [if_pos (Yb q2),a3,Bq]
      refine next _ _ ?_ ?_
      ·refine YB ⟨fun q=>⟨q0.1,hA.2 ⟨q0.2,q1,q2,q⟩⟩,fun q=>(hA.1 q.2).2.2.2⟩
      ·intro q
       have q3:=(hA.1 q.2).2.2.2
       show (x.fst,x.snd.fst,l1,l2,l3,())=_
       rw [b1 q1,b2 q2,b3 q3]
       rfl
     ·rw [if_neg (fun q=>q2 ((Y9 _).1 q))]
      exact next _ _ (ZQ fun q=>q2 (hA.1 q.2).2.2.1).symm (fun q=>absurd (hA.1 q.2).2.2.1 q2)
    ·rw [if_neg (fun q=>q1 ((Y9 _).1 q))]
     exact next _ _ (ZQ fun q=>q1 (hA.1 q.2).2.1).symm (fun q=>absurd (hA.1 q.2).2.1 q1)
   ·rw [if_neg (fun q=>q0 ((Y9 _).1 q))]
    exact next _ _ (ZQ fun q=>q0 ⟨q.1,(hA.1 q.2).1⟩).symm (fun q=>absurd ⟨q.1,(hA.1 q.2).1⟩ q0))
  (fun v hI=>by
   obtain ⟨L,rfl,hL,hj,hLc⟩:=hI
   simp only [Qu,Int.lt_irrefl,if_false]
   rw [List.take_length] at hLc ⊢
   refine ⟨_,rfl,L,rfl,fun q=>?_⟩
   rw [hLc q,List.drop_length,List.append_nil])
 obtain ⟨r,e,L,rfl,hL⟩:=this
 exact ⟨L,e,hL⟩
theorem ZrP {af:List Int} {n:Nat} (haf:af.length=n) (hn:n≤100) {s:Zn} (h:Zvy n s):∃ s',Zcq s af=some (tr (SOk af s),s')∧(SOk af s→s'=ZrH af s):=by
 obtain ⟨h1,h2,h3,_⟩:=h.lens
 obtain ⟨L,e,hL⟩:=ZsB haf h ((True∧∀ c∈Zn.YE s,0≤Zau af (Zl.Place c))∧(∀ x∈Zn.XV s,0≤Zau af (Zj.Place x))∧∀ x∈Zn.Y7 s,0≤Zau af (Zj.Place x)) ((Zn.YE s).map (Zzy af)) ((Zn.XV s).map (Zqr af)) ((Zn.Y7 s).map (Zqr af))
 have hC:(((True∧∀ c∈Zn.YE s,0≤Zau af (Zl.Place c))∧∀ x∈Zn.XV s,0≤Zau af (Zj.Place x))∧∀ x∈Zn.Y7 s,0≤Zau af (Zj.Place x))↔((True∧∀ c∈Zn.YE s,0≤Zau af (Zl.Place c))∧(∀ x∈Zn.XV s,0≤Zau af (Zj.Place x))∧∀ x∈Zn.Y7 s,0≤Zau af (Zj.Place x)):=and_assoc
 have hS:SOk af s↔(((True∧∀ c∈Zn.YE s,0≤Zau af (Zl.Place c))∧(∀ x∈Zn.XV s,0≤Zau af (Zj.Place x))∧∀ x∈Zn.Y7 s,0≤Zau af (Zj.Place x))∧Zc0 af (Zn.Exceptions s)):=by unfold SOk;rw [hC]
 refine ⟨((Zn.YE s).map (Zzy af),(Zn.XV s).map (Zqr af),(Zn.Y7 s).map (Zqr af),L,s.2.2.2.2),?_,fun q=>?_⟩
 ·rw [YB hS]
  rw [YB hC.symm] at e
  unfold Zcq
  have t0:Bool.true=tr True:=(Yb trivial).symm
  rw [t0]
  refine Zm1 (l:=Zn.YE s) (Zzy af) (fun c=>0≤Zau af (Zl.Place c)) True (fun k x L c hx hk hk2 hLx hkL=>?_) ?_
  ·obtain ⟨g0,g1⟩:=h.clocks x (List.mem_of_getElem? hx)
   have hat:atI (List.set L k (Zl.Name x,Zau af (Zl.Place x),x.snd.snd)) (k:Int)=some (Zl.Name x,Zau af (Zl.Place x),x.snd.snd):=ZrL hkL
   simp only [ZaS,hk2,if_true,Zu,hLx,Bq,Zik g0 (by rw [haf];exact g1),Int.toNat_natCast,Xx (show k≤1048576 by omega)]
   rw [←Zu,hat,Bq,ZwY]
   cases c<;>rfl
  ·simp only [ZaS,Int.lt_irrefl,if_false]
   refine Zm1 (l:=Zn.XV s) (Zqr af) (fun c=>0≤Zau af (Zj.Place c)) _ (fun k x L c hx hk hk2 hLx hkL=>?_) ?_
   ·obtain ⟨g0,g1⟩:=h.ins x (List.mem_of_getElem? hx)
    have hat:atI (List.set L k (Zau af (Zj.Place x),x.snd)) (k:Int)=some (Zau af (Zj.Place x),x.snd):=ZrL hkL
    simp only [ZaU,hk2,if_true,Zu,hLx,Bq,Zik g0 (by rw [haf];exact g1),Int.toNat_natCast,Xx (show k≤1048576 by omega)]
    rw [←Zu,hat,Bq,ZwY]
    cases c<;>rfl
   ·simp only [ZaU,Int.lt_irrefl,if_false]
    refine Zm1 (l:=Zn.Y7 s) (Zqr af) (fun c=>0≤Zau af (Zj.Place c)) _ (fun k x L c hx hk hk2 hLx hkL=>?_) ?_
    ·obtain ⟨g0,g1⟩:=h.outs x (List.mem_of_getElem? hx)
     have hat:atI (List.set L k (Zau af (Zj.Place x),x.snd)) (k:Int)=some (Zau af (Zj.Place x),x.snd):=ZrL hkL
     simp only [ZaR,hk2,if_true,Zu,hLx,Bq,Zik g0 (by rw [haf];exact g1),Int.toNat_natCast,Xx (show k≤1048576 by omega)]
     rw [←Zu,hat,Bq,ZwY]
     cases c<;>rfl
    ·simp only [ZaR,Int.lt_irrefl,if_false]
     exact e
 ·rw [hL (hS.1 q)]
  rfl
def ZcT (b:Za) (e:Zh) (s:Zn) (r:Za):Prop:=SOk (after b e) s∧ZhG r (ZrH (after b e) s)
theorem Ztm {af l:List Int} (h:sm (.sl (.int .i64)) l):sm (.sl (.int .i64)) (ZxG af l):=⟨by unfold ZxG;rw [List.length_map];exact h.1,fun x _=>YC _ (by rfl) x⟩
theorem Zuj {t:Ty} {l:List t.den} {f:t.den→t.den} (h:sm (.sl t) l) (hf:∀ x,sm t x→sm t (f x)):sm (.sl t) (l.map f):=by
 refine ⟨by rw [List.length_map];exact h.1,fun x hx=>?_⟩
 obtain ⟨y,hy,rfl⟩:=List.mem_map.1 hx
 exact hf y (h.2 y hy)
theorem ZtZ {af:List Int} {s:Zn} (h:sm QX s):sm QX (ZrH af s):=by
 obtain ⟨h1,h2,h3,h4,h5⟩:=Ztr h
 refine ⟨Zuj (t:=XF) h1 (fun x hx=>?_),Zuj (t:=Yg) h2 (fun x _=>YC _ (by rfl) _),Zuj (t:=Yg) h3 (fun x _=>YC _ (by rfl) _),Zuj (t:=Yn) h4 (fun x hx=>?_),h5,trivial⟩
 ·exact ⟨hx.1,trivial,hx.2.2⟩
 ·obtain ⟨a1,a2,a3⟩:=ZzG hx
  exact ⟨trivial,trivial,Ztm a1,Ztm a2,Ztm a3,trivial⟩
theorem Zsh {b:Za} {e:Zh} (h:Znn b e) (he:sm XL e) (hc0:ZbP b e=some 0) {s:Zn} (hs:sm QX s) (hS:ZpV (places (Za.Design b)) s) :
  ∃ r,Qe e b=some r∧Zah b e=some r∧VJ r∧Za.Library r=Za.Library b∧
   Qn e b s=some (sel (ZcT b e s r) (ZrH (after b e) s,true) (Zsn,false))∧
   JZ b e s=some (sel (ZcT b e s r) (ZrH (after b e) s,0) (Zsn,5)):=by
 obtain ⟨r,r1,r2,r3,r4⟩:=ZyL h he
 have hpl:=YW h.blk.ok.1.few
 have hF:=ZAX hS
 have hal:=ZwK b e
 obtain ⟨s',i1,i2⟩:=ZrP hal (by omega) hF
 have hspec:=ZrR hal hF (by omega)
 have hset:ZhG b s:=⟨h.blk.ok,hS⟩
 have hsm:sm QX (ZrH (after b e) s):=ZtZ hs
 refine ⟨r,r1,r2,r3,r4,?_,?_⟩
 ·unfold Qn
  rw [Zlr (by omega) hF,Bq,ZkT h,Bq,i1,Bq]
  by_cases q:SOk (after b e) s
  ·rw [i2 q,if_pos (Yb q),r1,Bq,Zi9 r _ r3.sm hsm,Bq]
   by_cases q2:ZhG r (ZrH (after b e) s)
   ·rw [if_pos (Yb q2),YS ⟨q,q2⟩]
   ·rw [if_neg (fun q3=>q2 ((Y9 _).1 q3)),YH (fun q3=>q2 q3.2)]
    rfl
  ·rw [if_neg (fun q3=>q ((Y9 _).1 q3)),YH (fun q3=>q q3.1)]
   rfl
 ·unfold JZ
  rw [hc0,Bq,if_pos rfl,ZfR b s h.blk.sm hs,Bq,if_pos (Yb hset),Znm h,Bq,hspec,Bq]
  by_cases qE:Zc0 (after b e) (Zn.Exceptions s)
  ·rw [if_pos (Yb qE),r2,Bq,ZAe qE]
   show ((Zbw r (ZrH (after b e) s)).bind _)=_
   rw [ZfR r _ r3.sm hsm,Bq]
   by_cases q2:ZhG r (ZrH (after b e) s)
   ·have hF2:=ZAX q2.2
    have qS:SOk (after b e) s:=by
     refine ⟨⟨⟨⟨trivial,fun c hc=>?_⟩,fun x hx=>?_⟩,fun x hx=>?_⟩,qE⟩
     ·exact (hF2.clocks (Zzy (after b e) c) (List.mem_map.2 ⟨c,hc,rfl⟩)).1
     ·exact (hF2.ins (Zqr (after b e) x) (List.mem_map.2 ⟨x,hx,rfl⟩)).1
     ·exact (hF2.outs (Zqr (after b e) x) (List.mem_map.2 ⟨x,hx,rfl⟩)).1
    rw [if_pos (Yb q2),YS ⟨qS,q2⟩]
    rfl
   ·rw [if_neg (fun q3=>q2 ((Y9 _).1 q3)),YH (fun q3=>q2 q3.2)]
    rfl
  ·rw [if_neg (fun q3=>qE ((Y9 _).1 q3)),YH (fun q3=>qE q3.1.2)]
   rfl
theorem ZO1 {t:Ty} {f:t.den→t.den} (hf:∀ x,cnt t (f x)=cnt t x) (l:List t.den):cnt (.sl t) (l.map f)=cnt (.sl t) l:=by
 show ((l.map f).map (cnt t)).sum=(l.map (cnt t)).sum
 rw [List.map_map]
 congr 1
 exact List.map_congr_left fun x _=>hf x
theorem ZPn (af:List Int) (s:Zn):cnt QX (ZrH af s)=cnt QX s:=by
 have e1:=ZO1 (t:=XF) (f:=Zzy af) (fun x=>rfl) (Zn.YE s)
 have e2:=ZO1 (t:=Yg) (f:=Zqr af) (fun x=>rfl) (Zn.XV s)
 have e3:=ZO1 (t:=Yg) (f:=Zqr af) (fun x=>rfl) (Zn.Y7 s)
 have eL:∀ l:List Int,cnt (.sl (.int .i64)) (ZxG af l)=cnt (.sl (.int .i64)) l:=fun l=>by rw [ZJE,ZJE];unfold ZxG;rw [List.length_map]
 have e4:=ZO1 (t:=Yn) (f:=ZxJ af) (fun x=>by
  show 1+(1+(cnt (.sl (.int .i64)) (ZxG af (Zg.From x))+(cnt (.sl (.int .i64)) (ZxG af (Zg.Through x))+(cnt (.sl (.int .i64)) (ZxG af (Zg.To x))+0))))=1+(1+(cnt (.sl (.int .i64)) (Zg.From x)+(cnt (.sl (.int .i64)) (Zg.Through x)+(cnt (.sl (.int .i64)) (Zg.To x)+0))))
  rw [eL,eL,eL]) (Zn.Exceptions s)
 show cnt (.sl XF) ((Zn.YE s).map (Zzy af))+(cnt (.sl Yg) ((Zn.XV s).map (Zqr af))+(cnt (.sl Yg) ((Zn.Y7 s).map (Zqr af))+(cnt (.sl Yn) ((Zn.Exceptions s).map (ZxJ af))+(cnt (.sl Xf) (Zn.XT s)+0))))=cnt (.sl XF) (Zn.YE s)+(cnt (.sl Yg) (Zn.XV s)+(cnt (.sl Yg) (Zn.Y7 s)+(cnt (.sl Yn) (Zn.Exceptions s)+(cnt (.sl Xf) (Zn.XT s)+0))))
 rw [e1,e2,e3,e4]
/-
  Plain laws: sessions; the law FnExactIsSession.
-/
abbrev ZzN:=Int×(List Zm)×(List Ze)×(List (List UInt8))×(List ZR)×(List Zr)×(List Zl)×(List Zj)×(List Zj)×(List Zg)×(List Zy)×Unit
abbrev stR (k:Nat) (b:Za) (s:Zn):ZzN:=((k:Int),Zo.Cells (Za.Library b),Zb.Instances (Za.Design b),Zb.ZI (Za.Design b),Zb.ZG (Za.Design b),Za.Zz b,Zn.YE s,Zn.XV s,Zn.Y7 s,Zn.Exceptions s,Zn.XT s,())
noncomputable abbrev Zw2 (l:List Zh):=Zv (fun (v:ZzN)=>Vu l v.1 v.2.1 v.2.2.1 v.2.2.2.1 v.2.2.2.2.1 v.2.2.2.2.2.1 v.2.2.2.2.2.2.1 v.2.2.2.2.2.2.2.1 v.2.2.2.2.2.2.2.2.1 v.2.2.2.2.2.2.2.2.2.1 v.2.2.2.2.2.2.2.2.2.2.1)
noncomputable abbrev ZqN (l:List Zh):=Zv (fun (v:ZzN)=>YF l v.1 v.2.1 v.2.2.1 v.2.2.2.1 v.2.2.2.2.1 v.2.2.2.2.2.1 v.2.2.2.2.2.2.1 v.2.2.2.2.2.2.2.1 v.2.2.2.2.2.2.2.2.1 v.2.2.2.2.2.2.2.2.2.1 v.2.2.2.2.2.2.2.2.2.2.1)
theorem ZnD {b:Za} {e:Zh} (h:Znn b e) (he:sm XL e) (hc0:ZbP b e=some 0) {s:Zn} (hs:sm QX s) (hS:ZpV (places (Za.Design b)) s) :
  ∃ r y,Qe e b=some r∧VJ r∧Za.Library r=Za.Library b∧Zdt b e=some y∧
   Qn e b s=some (sel (ZcT b e s r) (ZrH (after b e) s,true) (Zsn,false))∧
   (ZcT b e s r→Xl b s e=some (r,ZrH (after b e) s,y,0))∧(¬ZcT b e s r→∃ q1 q2 q3,Xl b s e=some (q1,q2,q3,5)):=by
 obtain ⟨r,r1,r2,r3,r4,r5,r6⟩:=Zsh h he hc0 hs hS
 obtain ⟨y,y2⟩:=ZIw h
 refine ⟨r,y,r1,r3,r4,y2,r5,fun q=>?_,fun q=>?_⟩
 ·unfold Xl
  rw [r6,YS q,Bq,if_pos rfl,r2,Bq,y2,Bq]
 ·unfold Xl
  rw [r6,YH q,Bq,if_neg (by decide)]
  exact ⟨_,_,_,rfl⟩
theorem Zv1 {l:List Zh} (hl:sm (.sl XL) l):∀ (m k:Nat) (b:Za) (s:Zn),k+m=l.length→VJ b→sm QX s→ZpV (places (Za.Design b)) s→∃ c,Zw2 l (stR k b s)=some c∧ZqN l (stR k b s)=some c
 | 0,k,b,s,hk,hB,hs,hS=>by
  refine ⟨decide ((l.length:Int)≤10),Vr ?_,Vr ?_⟩
  ·simp only [Vu]
   rw [if_neg (by omega)]
  ·simp only [YF]
   rw [if_neg (by omega)]
 | m+1,k,b,s,hk,hB,hs,hS=>by
  have hlt:k<l.length:=by omega
  have hsml:=Zp hl
  have hx:l[k]?=some l[k]:=List.getElem?_eq_getElem hlt
  generalize l[k]=x at hx
  have hxs:sm XL x:=QV hl hx
  obtain ⟨c,c1,c2,c3⟩:=ZnE hB x hxs
  have c1':Zce x ((Zo.Cells (Za.Library b),()),(Zb.Instances (Za.Design b),Zb.ZI (Za.Design b),Zb.ZG (Za.Design b),()),Za.Zz b,())=some c:=c1
  by_cases hc:c=0
  ·have hC:=c3 hc
   obtain ⟨r,y,r1,r3,r4,y1,r5,r6,r7⟩:=ZnD hC hxs (by rw [c2,hc]) hs hS
   have r1':Qe x ((Zo.Cells (Za.Library b),()),(Zb.Instances (Za.Design b),Zb.ZI (Za.Design b),Zb.ZG (Za.Design b),()),Za.Zz b,())=some r:=r1
   have r5':Qn x ((Zo.Cells (Za.Library b),()),(Zb.Instances (Za.Design b),Zb.ZI (Za.Design b),Zb.ZG (Za.Design b),()),Za.Zz b,()) (Zn.YE s,Zn.XV s,Zn.Y7 s,Zn.Exceptions s,Zn.XT s,())=some (sel (ZcT b x s r) (ZrH (after b x) s,true) (Zsn,false)):=r5
   by_cases q:ZcT b x s r
   ·have r6':Xl ((Zo.Cells (Za.Library b),()),(Zb.Instances (Za.Design b),Zb.ZI (Za.Design b),Zb.ZG (Za.Design b),()),Za.Zz b,()) (Zn.YE s,Zn.XV s,Zn.Y7 s,Zn.Exceptions s,Zn.XT s,()) x=some (r,ZrH (after b x) s,y,0):=r6 q
    obtain ⟨c',d1,d2⟩:=Zv1 hl m (k+1) r (ZrH (after b x) s) (by omega) r3 (ZtZ hs) q.2.2
    have s1:Zw2 l (stR k b s)=Zw2 l (stR (k+1) r (ZrH (after b x) s)):=Zi7 (by
     simp only [Vu]
     rw [if_pos (by omega),Zu,hx,Bq,c1',Bq,if_pos hc,r5',YS q,Bq,if_pos rfl,r1',Bq,Xx (show k≤1048576 by omega)])
    have s2:ZqN l (stR k b s)=ZqN l (stR (k+1) r (ZrH (after b x) s)):=Zi7 (by
     simp only [YF]
     rw [if_pos (by omega),Zu,hx,Bq,r6',Bq,if_pos rfl,Xx (show k≤1048576 by omega)])
    exact ⟨c',by rw [s1];exact d1,by rw [s2];exact d2⟩
   ·obtain ⟨q1,q2,q3,r7⟩:=r7 q
    have r7':Xl ((Zo.Cells (Za.Library b),()),(Zb.Instances (Za.Design b),Zb.ZI (Za.Design b),Zb.ZG (Za.Design b),()),Za.Zz b,()) (Zn.YE s,Zn.XV s,Zn.Y7 s,Zn.Exceptions s,Zn.XT s,()) x=some (q1,q2,q3,5):=r7
    refine ⟨false,Vr ?_,Vr ?_⟩
    ·simp only [Vu]
     rw [if_pos (by omega),Zu,hx,Bq,c1',Bq,if_pos hc,r5',YH q,Bq,if_neg (by decide)]
    ·simp only [YF]
     rw [if_pos (by omega),Zu,hx,Bq,r7',Bq,if_neg (show ¬(5:Int)=0 by decide)]
  ·have e2:∃ q1 q2 q3,Xl ((Zo.Cells (Za.Library b),()),(Zb.Instances (Za.Design b),Zb.ZI (Za.Design b),Zb.ZG (Za.Design b),()),Za.Zz b,()) (Zn.YE s,Zn.XV s,Zn.Y7 s,Zn.Exceptions s,Zn.XT s,()) x=some (q1,q2,q3,c):=by
    show ∃ q1 q2 q3,Xl b s x=_
    unfold Xl JZ
    rw [c2,Bq,if_neg hc,Bq,if_neg hc]
    exact ⟨_,_,_,rfl⟩
   obtain ⟨q1,q2,q3,e2⟩:=e2
   refine ⟨false,Vr ?_,Vr ?_⟩
   ·simp only [Vu]
    rw [if_pos (by omega),Zu,hx,Bq,c1',Bq,if_neg hc]
   ·simp only [YF]
    rw [if_pos (by omega),Zu,hx,Bq,e2,Bq,if_neg hc]
theorem Zsu {l:List Zh} (hl:sm (.sl XL) l) (h10:¬(l.length:Int)≤10):∀ (m k:Nat) (b:Za) (s:Zn),k+m=l.length→VJ b→sm QX s→ZpV (places (Za.Design b)) s→ZqN l (stR k b s)=some false
 | 0,k,b,s,hk,hB,hs,hS=>by
  refine Vr ?_
  simp only [YF]
  rw [if_neg (by omega),decide_eq_false h10]
 | m+1,k,b,s,hk,hB,hs,hS=>by
  have hlt:k<l.length:=by omega
  have hsml:=Zp hl
  have hx:l[k]?=some l[k]:=List.getElem?_eq_getElem hlt
  generalize l[k]=x at hx
  have hxs:sm XL x:=QV hl hx
  obtain ⟨c,c1,c2,c3⟩:=ZnE hB x hxs
  by_cases hc:c=0
  ·have hC:=c3 hc
   obtain ⟨r,y,r1,r3,r4,y1,r5,r6,r7⟩:=ZnD hC hxs (by rw [c2,hc]) hs hS
   by_cases q:ZcT b x s r
   ·have r6':Xl ((Zo.Cells (Za.Library b),()),(Zb.Instances (Za.Design b),Zb.ZI (Za.Design b),Zb.ZG (Za.Design b),()),Za.Zz b,()) (Zn.YE s,Zn.XV s,Zn.Y7 s,Zn.Exceptions s,Zn.XT s,()) x=some (r,ZrH (after b x) s,y,0):=r6 q
    have s2:ZqN l (stR k b s)=ZqN l (stR (k+1) r (ZrH (after b x) s)):=Zi7 (by
     simp only [YF]
     rw [if_pos (by omega),Zu,hx,Bq,r6',Bq,if_pos rfl,Xx (show k≤1048576 by omega)])
    rw [s2]
    exact Zsu hl h10 m (k+1) r (ZrH (after b x) s) (by omega) r3 (ZtZ hs) q.2.2
   ·obtain ⟨q1,q2,q3,r7⟩:=r7 q
    have r7':Xl ((Zo.Cells (Za.Library b),()),(Zb.Instances (Za.Design b),Zb.ZI (Za.Design b),Zb.ZG (Za.Design b),()),Za.Zz b,()) (Zn.YE s,Zn.XV s,Zn.Y7 s,Zn.Exceptions s,Zn.XT s,()) x=some (q1,q2,q3,5):=r7
    refine Vr ?_
    simp only [YF]
    rw [if_pos (by omega),Zu,hx,Bq,r7',Bq,if_neg (show ¬(5:Int)=0 by decide)]
  ·have e2:∃ q1 q2 q3,Xl ((Zo.Cells (Za.Library b),()),(Zb.Instances (Za.Design b),Zb.ZI (Za.Design b),Zb.ZG (Za.Design b),()),Za.Zz b,()) (Zn.YE s,Zn.XV s,Zn.Y7 s,Zn.Exceptions s,Zn.XT s,()) x=some (q1,q2,q3,c):=by
    show ∃ q1 q2 q3,Xl b s x=_
    unfold Xl JZ
    rw [c2,Bq,if_neg hc,Bq,if_neg hc]
    exact ⟨_,_,_,rfl⟩
   obtain ⟨q1,q2,q3,e2⟩:=e2
   refine Vr ?_
   simp only [YF]
   rw [if_pos (by omega),Zu,hx,Bq,e2,Bq,if_neg hc]
theorem ZwD {s:ZH} (h:sm Jy s):sm Y3 (ZH.Block s)∧sm QX (ZH.Setup s)∧sm (.sl XL) (ZH.Zpn s)∧sm (.sl XL) (ZH.Zpp s):=⟨h.1,h.2.1,h.2.2.1,h.2.2.2.1⟩
theorem ZsP {b:Za} {s:Zn} (hB:VJ b) (hs:sm QX s) (hS:ZpV (places (Za.Design b)) s) {l:List Zh} (hl:sm (.sl XL) l):∃ c,Zd7 b s l=some c∧Zco b s l=some c∧(¬(l.length:Int)≤10→c=false):=by
 obtain ⟨c,c1,c2⟩:=Zv1 hl l.length 0 b s (by omega) hB hs hS
 refine ⟨c,c1,c2,fun h=>?_⟩
 have:=Zsu hl h l.length 0 b s (by omega) hB hs hS
 rw [c2] at this
 injection this
theorem Ztc (s:ZH) (h:sm Jy s):∃ c,Zed s=some c∧Zer s=some c∧(c=true→ZhG (ZH.Block s) (ZH.Setup s)∧((ZH.Zpn s).length:Int)≤10∧((ZH.Zpp s).length:Int)≤10∧Zd7 (ZH.Block s) (ZH.Setup s) (ZH.Zpn s)=some true∧Zd7 (ZH.Block s) (ZH.Setup s) (ZH.Zpp s)=some true):=by
 obtain ⟨h1,h2,h3,h4⟩:=ZwD h
 unfold Zed Zer
 rw [Zi9 _ _ h1 h2,ZfR _ _ h1 h2,Bq,Bq]
 by_cases hS:ZhG (ZH.Block s) (ZH.Setup s)
 ·have hB:VJ (ZH.Block s):=⟨hS.1,h1⟩
  rw [if_pos (Yb hS),if_pos (Yb hS)]
  obtain ⟨c,c1,c2,c3⟩:=ZsP hB h2 hS.2 h3
  obtain ⟨d,d1,d2,d3⟩:=ZsP hB h2 hS.2 h4
  rw [c2,Bq]
  by_cases u:((ZH.Zpn s).length:Int)≤10
  ·rw [if_pos u]
   by_cases w:((ZH.Zpp s).length:Int)≤10
   ·rw [if_pos w,c1,Bq]
    cases c
    ·exact ⟨false,rfl,rfl,fun q=>by cases q⟩
    ·rw [if_pos rfl,if_pos rfl,d1,d2,Bq]
     exact ⟨d,rfl,rfl,fun q=>⟨hS,u,w,rfl,by rw [q]⟩⟩
   ·rw [if_neg w,d2,d3 w,Bq]
    cases c
    ·exact ⟨false,rfl,rfl,fun q=>by cases q⟩
    ·exact ⟨false,rfl,rfl,fun q=>by cases q⟩
  ·rw [if_neg u,c3 u]
   exact ⟨false,rfl,rfl,fun q=>by cases q⟩
 ·rw [if_neg (fun q=>hS ((Y9 _).1 q)),if_neg (fun q=>hS ((Y9 _).1 q))]
  exact ⟨false,rfl,rfl,fun q=>by cases q⟩
/-
  Plain laws: sessions that are edited, undone, redone; the laws FnExactEditSession, FnExactUndoSession, FnExactRedoSession.
-/
theorem ZPo (r:Zh) (h:sm XL r):cnt XL r≤4194310:=by
 obtain ⟨a1,a2,a3,a4⟩:=ZlW (Zs8 h).2
 have s1:=Zp a1
 have s2:=Zp a2
 have s3:=Zp a3
 have s4:=Zp a4
 have e:cnt XL r=1+(1+(1+(1+(1+(1+((cnt (.sl (.int .i64)) (Zr.Parent (Zh.Ze7 r))+(cnt (.sl (.int .i64)) (Zr.Res (Zh.Ze7 r))+(cnt (.sl (.int .i64)) (Zr.Cap (Zh.Ze7 r))+(cnt (.sl (.int .i64)) (Zr.Ze6 (Zh.Ze7 r))+0))))+0)))))):=rfl
 rw [e,ZJE,ZJE,ZJE,ZJE]
 omega
theorem ZPd {b:Za} {e:Zh} (h:Znn b e) {y:Zh} (hy:Zdt b e=some y):ZJb e b=some y∧sm XL y:=by
 obtain ⟨z,z1,z2,z3⟩:=Zvx h
 rw [z2] at hy
 injection hy with hy
 subst hy
 exact ⟨z1,z3⟩
theorem ZPp {b:Za} {s:Zn} {l:List Zh} (hB:VJ b) (hs:sm QX s) (hS:ZpV (places (Za.Design b)) s) (hl:sm (.sl XL) l) {x:Zh} (hx:l[0]?=some x) (h:Zd7 b s l=some true) :
  Znn b x∧ZbP b x=some 0∧∀ r,Qe x b=some r→ZcT b x s r:=by
 have hlt:0<l.length:=(List.getElem?_eq_some_iff.1 hx).1
 have hsml:=Zp hl
 have hxs:sm XL x:=QV hl hx
 have h:Zw2 l (stR 0 b s)=some true:=h
 obtain ⟨c,c1,c2,c3⟩:=ZnE hB x hxs
 have c1':Zce x ((Zo.Cells (Za.Library b),()),(Zb.Instances (Za.Design b),Zb.ZI (Za.Design b),Zb.ZG (Za.Design b),()),Za.Zz b,())=some c:=c1
 by_cases hc:c=0
 ·have hC:=c3 hc
  obtain ⟨r,y,r1,r3,r4,_,r5,r6,r7⟩:=ZnD hC hxs (by rw [c2,hc]) hs hS
  refine ⟨hC,by rw [c2,hc],fun r' hr'=>?_⟩
  rw [r1] at hr'
  injection hr' with hr'
  subst hr'
  by_cases q:ZcT b x s r
  ·exact q
  ·exfalso
   have r5':Qn x ((Zo.Cells (Za.Library b),()),(Zb.Instances (Za.Design b),Zb.ZI (Za.Design b),Zb.ZG (Za.Design b),()),Za.Zz b,()) (Zn.YE s,Zn.XV s,Zn.Y7 s,Zn.Exceptions s,Zn.XT s,())=some (sel (ZcT b x s r) (ZrH (after b x) s,true) (Zsn,false)):=r5
   have:Zw2 l (stR 0 b s)=some false:=Vr (by
    simp only [Vu]
    rw [if_pos (by omega),Zu,hx,Bq,c1',Bq,if_pos hc,r5',YH q,Bq,if_neg (by decide)])
   rw [this] at h
   injection h with h
   cases h
 ·exfalso
  have:Zw2 l (stR 0 b s)=some false:=Vr (by
   simp only [Vu]
   rw [if_pos (by omega),Zu,hx,Bq,c1',Bq,if_neg hc])
  rw [this] at h
  injection h with h
  cases h
abbrev front (y:Zh) (l:List Zh):List Zh:=(y::l).take 10
theorem ZO4 {y:Zh} {l:List Zh} (hy:sm XL y) (hl:sm (.sl XL) l):sm (.sl XL) (front y l):=by
 refine ⟨by have:(front y l).length≤10:=List.length_take_le 10 (y::l);omega,fun e he=>?_⟩
 rcases List.mem_cons.1 (List.mem_of_mem_take he) with rfl | q
 ·exact hy
 ·exact hl.2 e q
theorem ZPc {l:List Zh} (hl:sm (.sl XL) l):sm (.sl XL) (l.drop 1):=⟨by have:=Zp hl;rw [List.length_drop];omega,fun e he=>hl.2 e (List.mem_of_mem_drop he)⟩
theorem ZPj {l:List Zh} (hl:sm (.sl XL) l) (h10:l.length≤10):cnt (.sl XL) l≤41943100:=by
 have:cnt (.sl XL) l≤4194310*l.length:=ZOt fun x hx=>ZPo x (hl.2 x hx)
 omega
theorem ZPe (e:Zh) (he:sm XL e):ZKG e=some e:=by
 unfold ZKG
 rw [Zgk _ (Zs8 he).2,Bq]
theorem ZO6 (l:List Zh) (hl:sm (.sl XL) l):ZJT l=some l:=by
 have hsml:=Zp hl
 unfold ZJT
 have:=Yk (l:=l) (ρ:=List Zh) (fun k=>(l.take k,(k:Int),())) (step:=fun v=>ZJm l v.1 v.2.1) (good:=l)
  (fun k x hx hk=>by
   have hxs:sm XL x:=QV hl hx
   simp only [ZJm,show (k:Int)<(l.length:Int) from by omega,if_true,Zu,hx,Bq,Zdc _ (Zs8 hxs).2,Xx (show k≤1048576 by omega)]
   rw [Zi (by rw [List.length_take,List.length_singleton];omega),Z8 hx])
  (by simp only [ZJm,Int.lt_irrefl,if_false,List.take_length])
 exact this
theorem ZOY {y:Zh} {l:List Zh} (hy:sm XL y) (hl:sm (.sl XL) l) (h10:l.length≤10):ZKw y l=some (front y l):=by
 have hs:sm (.sl XL) ([y]++l):=by
  refine ⟨by rw [List.length_append,List.length_singleton];omega,fun e he=>?_⟩
  rcases List.mem_cons.1 he with rfl | q
  ·exact hy
  ·exact hl.2 e q
 unfold ZKw
 rw [Zi (by rw [List.length_singleton];omega),ZO6 _ hs,Bq,Zi (by omega),Zi (by omega)]
 show some (List.take (Int.toNat (min (((y::l).length:Nat):Int) 10)-0) (y::l))=some ((y::l).take 10)
 rw [Nat.sub_zero]
 congr 1
 by_cases q:(y::l).length≤10
 ·rw [show Int.toNat (min (((y::l).length:Nat):Int) 10)=(y::l).length by omega,List.take_length,List.take_of_length_le q]
 ·rw [show Int.toNat (min (((y::l).length:Nat):Int) 10)=10 by omega]
theorem ZOc {y:Zh} {l:List Zh} (hl:sm (.sl XL) l):ZJY y l=some (front y l):=by
 have hsml:=Zp hl
 have hl9:(l.take 9).length=min 9 l.length:=List.length_take
 unfold ZJY
 have:=Yk (l:=l.take 9) (ρ:=List Zh) (fun k=>([y]++(l.take 9).take k,(k:Int),())) (step:=fun v=>ZJK l v.1 v.2.1) (good:=[y]++l.take 9)
  (fun k x hx hk=>by
   have hx':l[k]?=some x:=by rw [List.getElem?_take_of_lt (by omega)] at hx;exact hx
   have hxs:sm XL x:=QV hl hx'
   have hlen:([y]++(l.take 9).take k).length=k+1:=by rw [List.length_append,List.length_singleton,List.length_take];omega
   simp only [ZJK,hlen,show (k:Int)<(l.length:Int) from by omega,show ((k+1:Nat):Int)<10 from by omega,if_true,Zu,hx',Bq,ZPe _ hxs,Xx (show k≤1048576 by omega)]
   rw [Zi (by rw [List.length_singleton];omega),Z8 hx,List.append_assoc])
  (by
   have hlen:([y]++l.take 9).length=(l.take 9).length+1:=by rw [List.length_append,List.length_singleton];omega
   simp only [ZJK,List.take_length]
   split
   ·rw [if_neg (by rw [hlen];omega)]
   ·rfl)
 exact this
theorem ZO8 {l:List Zh} (hl:sm (.sl XL) l):ZKz l=some (l.drop 1):=by
 have hsml:=Zp hl
 have hld:(l.drop 1).length=l.length-1:=List.length_drop
 unfold ZKz
 have:=Yk (l:=l.drop 1) (ρ:=List Zh) (fun k=>((l.drop 1).take k,((k+1:Nat):Int),())) (step:=fun v=>ZJR l v.1 v.2.1) (good:=l.drop 1)
  (fun k x hx hk=>by
   have hx':l[k+1]?=some x:=by rw [List.getElem?_drop,Nat.add_comm] at hx;exact hx
   have hxs:sm XL x:=QV hl hx'
   simp only [ZJR,show ((k+1:Nat):Int)<(l.length:Int) from by omega,if_true,Zu,hx',Bq,ZPe _ hxs,Xx (show k+1≤1048576 by omega)]
   rw [Zi (by rw [List.length_take,List.length_singleton];omega),Z8 hx])
  (by
   have hn:¬(((l.drop 1).length+1:Nat):Int)<(l.length:Int):=by omega
   simp only [ZJR,hn,if_false,List.take_length])
 exact this
abbrev ZO7:ZH:=(ZPs,Zsn,[],[],())
theorem ZLu:sm Jy ZO7:=⟨ZPg,ZO0,⟨by show (0:Int)≤_;omega,fun e he=>by cases he⟩,⟨by show (0:Int)≤_;omega,fun e he=>by cases he⟩,trivial⟩
theorem ZO2 {s:ZH} {r:Za} {af:List Int} {u v:List Zh} (hr:VJ r) (hL:Za.Library r=Za.Library (ZH.Block s)) (h2:sm QX (ZH.Setup s)) (hu:sm (.sl XL) u) (hv:sm (.sl XL) v) (u10:u.length≤10) (v10:v.length≤10) :
  sm Jy (r,ZrH af (ZH.Setup s),u,v,())∧cnt Jy (r,ZrH af (ZH.Setup s),u,v,())≤cnt Jy s+283886200:=by
 refine ⟨⟨hr.sm,ZtZ h2,hu,hv,trivial⟩,?_⟩
 have e1:cnt Jy (r,ZrH af (ZH.Setup s),u,v,())=cnt Y3 r+(cnt QX (ZrH af (ZH.Setup s))+(cnt (.sl XL) u+(cnt (.sl XL) v+0))):=rfl
 have e2:cnt Jy s=cnt Y3 (ZH.Block s)+(cnt QX (ZH.Setup s)+(cnt (.sl XL) (ZH.Zpn s)+(cnt (.sl XL) (ZH.Zpp s)+0))):=rfl
 have e3:cnt Y3 (ZH.Block s)=cnt Xh (Za.Library (ZH.Block s))+(cnt YG (Za.Design (ZH.Block s))+(cnt (.sl Vv) (Za.Zz (ZH.Block s))+0)):=rfl
 have h3:=ZPl hr
 rw [hL] at h3
 have h4:=ZPj hu u10
 have h5:=ZPj hv v10
 rw [e1,ZPn,e2]
 omega
theorem ZPf {s:ZH} (hs:sm Jy s) (hS:ZhG (ZH.Block s) (ZH.Setup s)) {l t:List Zh} (hl:sm (.sl XL) l) (ht:sm (.sl XL) t) (t10:t.length≤10) {x:Zh} (hx:l[0]?=some x) (hrun:Zd7 (ZH.Block s) (ZH.Setup s) l=some true) :
  ∃ r y,ZLg s l t=some (r,ZrH (after (ZH.Block s) x) (ZH.Setup s),l.drop 1,front y t)∧Xl (ZH.Block s) (ZH.Setup s) x=some (r,ZrH (after (ZH.Block s) x) (ZH.Setup s),y,0)∧
   VJ r∧Za.Library r=Za.Library (ZH.Block s)∧sm XL y:=by
 obtain ⟨h1,h2,h3,h4⟩:=ZwD hs
 have hB:VJ (ZH.Block s):=⟨hS.1,h1⟩
 have hxs:sm XL x:=QV hl hx
 have hlt:0<l.length:=(List.getElem?_eq_some_iff.1 hx).1
 obtain ⟨hC,hc0,hq⟩:=ZPp hB h2 hS.2 hl hx hrun
 obtain ⟨r,y,r1,r3,r4,y2,r5,r6,r7⟩:=ZnD hC hxs hc0 h2 hS.2
 obtain ⟨y1,y3⟩:=ZPd hC y2
 have q:=hq r r1
 refine ⟨r,y,?_,r6 q,r3,r4,y3⟩
 have hcut:List.take (Int.toNat (↑(List.length l):Int)-Int.toNat (1:Int)) (List.drop (Int.toNat (1:Int)) l)=l.drop 1:=by
  show List.take (Int.toNat (↑(List.length l):Int)-1) (l.drop 1)=l.drop 1
  rw [Int.toNat_natCast]
  exact List.take_of_length_le (by rw [List.length_drop];omega)
 have hx0:atI l (0:Int)=some x:=hx
 unfold ZLg
 rw [hx0,Bq,r5,Bq,r1,Bq,Zi (by omega),Zi (Int.le_refl _),hcut,ZO6 _ (ZPc hl),Bq,y1,Bq,ZOY y3 ht t10,Bq,YS q]
theorem ZOW (s:ZH) (hs:sm Jy s):∃ r c,ZKb s=some (r,c)∧ZKj s=some (r,c)∧sm Jy r∧cnt Jy r≤cnt Jy s+283886200:=by
 obtain ⟨h1,h2,h3,h4⟩:=ZwD hs
 obtain ⟨c,c1,c2,c3⟩:=Ztc s hs
 unfold ZKb ZKj
 rw [c1,c2,Bq,Bq]
 cases c
 ·exact ⟨ZO7,1,rfl,rfl,ZLu,Nat.zero_le _⟩
 ·obtain ⟨hS,u,w,ru,rw_⟩:=c3 rfl
  rw [if_pos rfl,if_pos rfl]
  by_cases hz:(↑(List.length (ZH.Zpn s)):Int)=(0:Int)
  ·rw [if_pos hz,if_pos hz]
   exact ⟨ZO7,5,rfl,rfl,ZLu,Nat.zero_le _⟩
  ·have hx:(ZH.Zpn s)[0]?=some ((ZH.Zpn s)[0]'(by omega)):=List.getElem?_eq_getElem (by omega)
   generalize (ZH.Zpn s)[0]'(by omega)=x at hx
   obtain ⟨r,y,i1,i2,r3,r4,y3⟩:=ZPf hs hS h3 h4 (by omega) hx ru
   have hx0:atI (ZH.Zpn s) (0:Int)=some x:=hx
   rw [if_neg hz,if_neg hz,i1,Bq,hx0,Bq,i2,Bq,ZO8 h3,Bq,ZOc h4,Bq]
   obtain ⟨g1,g2⟩:=ZO2 (s:=s) (af:=after (ZH.Block s) x) r3 r4 h2 (ZPc h3) (ZO4 y3 h4) (by rw [List.length_drop];omega) (List.length_take_le 10 _)
   exact ⟨_,_,rfl,rfl,g1,g2⟩
theorem ZOU (s:ZH) (hs:sm Jy s):∃ r c,ZKa s=some (r,c)∧ZKi s=some (r,c)∧sm Jy r∧cnt Jy r≤cnt Jy s+283886200:=by
 obtain ⟨h1,h2,h3,h4⟩:=ZwD hs
 obtain ⟨c,c1,c2,c3⟩:=Ztc s hs
 unfold ZKa ZKi
 rw [c1,c2,Bq,Bq]
 cases c
 ·exact ⟨ZO7,1,rfl,rfl,ZLu,Nat.zero_le _⟩
 ·obtain ⟨hS,u,w,ru,rw_⟩:=c3 rfl
  rw [if_pos rfl,if_pos rfl]
  by_cases hz:(↑(List.length (ZH.Zpp s)):Int)=(0:Int)
  ·rw [if_pos hz,if_pos hz]
   exact ⟨ZO7,5,rfl,rfl,ZLu,Nat.zero_le _⟩
  ·have hx:(ZH.Zpp s)[0]?=some ((ZH.Zpp s)[0]'(by omega)):=List.getElem?_eq_getElem (by omega)
   generalize (ZH.Zpp s)[0]'(by omega)=x at hx
   obtain ⟨r,y,i1,i2,r3,r4,y3⟩:=ZPf hs hS h4 h3 (by omega) hx rw_
   have hx0:atI (ZH.Zpp s) (0:Int)=some x:=hx
   rw [if_neg hz,if_neg hz,i1,Bq,hx0,Bq,i2,Bq,ZOc h3,Bq,ZO8 h4,Bq]
   obtain ⟨g1,g2⟩:=ZO2 (s:=s) (af:=after (ZH.Block s) x) r3 r4 h2 (ZO4 y3 h3) (ZPc h4) (List.length_take_le 10 _) (by rw [List.length_drop];omega)
   exact ⟨_,_,rfl,rfl,g1,g2⟩
theorem ZPb (a:ZH) (h:tot Jy a≤1048576):cnt Jy a≤300+20*1048576:=by
 have hc:=ZOX Jy a
 have h1:wid Jy≤300:=by decide
 have h2:ZKp Jy≤20:=by decide
 have:=Nat.mul_le_mul_right (tot Jy a) h2
 omega
theorem ZKO (a0:ZH) (b0:bnd Jy a0):ZIX a0=some true:=by
 unfold ZIX
 obtain ⟨n,e,hle,hP⟩:=ZmB a0 1048576 (by omega) (by omega) b0
 rw [e,Bq]
 by_cases hn:n<0
 ·rw [if_pos hn]
 rw [if_neg hn]
 have hs:=hP (by omega)
 have ht:=ZKo a0 1048576 (by omega) (by omega) b0 n e (by omega)
 have hcs:=ZPb a0 (by omega)
 have hcT:=ZKV Jy a0
 obtain ⟨r,c,c1,c2,c5,c6⟩:=ZOW a0 hs
 have c7:=ZKV Jy r
 have hm0:=ZIS a0 1 hs (by omega) (by omega)
 have hm3:=ZIS r 1 c5 (by omega) (by omega)
 have hm4:=ZJI r 1 c5 (by omega) (by omega)
 have hneg:¬(1+((ZIZ Jy a0:Nat):Int))<0:=by omega
 have hneg2:¬(1+((ZIZ Jy r:Nat):Int))<0:=by omega
 simp only [Zno _ hs,Bq,c1,c2,Znf _ c5,Znf _ hs,if_true,hm0,hm3,hm4,hneg,hneg2,if_false]
theorem ZKN (a0:ZH) (b0:bnd Jy a0):ZIW a0=some true:=by
 unfold ZIW
 obtain ⟨n,e,hle,hP⟩:=ZmB a0 1048576 (by omega) (by omega) b0
 rw [e,Bq]
 by_cases hn:n<0
 ·rw [if_pos hn]
 rw [if_neg hn]
 have hs:=hP (by omega)
 have ht:=ZKo a0 1048576 (by omega) (by omega) b0 n e (by omega)
 have hcs:=ZPb a0 (by omega)
 have hcT:=ZKV Jy a0
 obtain ⟨r,c,c1,c2,c5,c6⟩:=ZOU a0 hs
 have c7:=ZKV Jy r
 have hm0:=ZIS a0 1 hs (by omega) (by omega)
 have hm3:=ZIS r 1 c5 (by omega) (by omega)
 have hm4:=ZJI r 1 c5 (by omega) (by omega)
 have hneg:¬(1+((ZIZ Jy a0:Nat):Int))<0:=by omega
 have hneg2:¬(1+((ZIZ Jy r:Nat):Int))<0:=by omega
 simp only [Zno _ hs,Bq,c1,c2,Znf _ c5,Znf _ hs,if_true,hm0,hm3,hm4,hneg,hneg2,if_false]
end Go.Proofs.YthkhedimjmkifaaGreatDoor
