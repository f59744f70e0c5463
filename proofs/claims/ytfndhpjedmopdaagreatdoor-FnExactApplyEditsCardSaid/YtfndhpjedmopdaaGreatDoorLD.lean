/-
  Plain laws: marks are held.
-/
import Derived.Test.YtfndhpjedmopdaaGreatDoorLA
import Derived.Test.YtfndhpjedmopdaaGreatDoorLB
import Derived.Test.YtfndhpjedmopdaaGreatDoorLC
namespace Go.Proofs.YtfndhpjedmopdaaGreatDoor
set_option linter.unusedVariables false
set_option linter.unusedSimpArgs false
open Go Go.Sx
theorem Zjt (l:List Int):cnt (.sl (.int .i64)) l=l.length:=by
 show (l.map (cnt (.int .i64))).sum=_
 induction l with
 | nil=>rfl
 | cons x r ih=>simp only [List.map_cons,List.sum_cons,ih,List.length_cons,VR];omega
theorem Zs4 (a:Zb) (h:tot Yt a≤1048576):cnt Yt a≤100+20*1048576:=by
 have hc:=Zp0 Yt a
 have h1:wid Yt≤100:=by decide
 have h2:Zei Yt≤20:=by decide
 have:=Nat.mul_le_mul_right (tot Yt a) h2
 omega
end Go.Proofs.YtfndhpjedmopdaaGreatDoor
/-
  Plain laws: marks, exactly; marks are held. Printed by program (heldgen.py).
-/
namespace Go.Proofs.YtfndhpjedmopdaaGreatDoor
open Go Go.Sx
set_option maxHeartbeats 3200000
set_option linter.unusedVariables false
set_option linter.unusedSimpArgs false
noncomputable def mt (k:Int):List UInt8:=(YM k).getD []
theorem ZnJ {k:Int} (h0:0≤k) (h1:k≤4611686018427387904):YM k=some (mt k):=by
 obtain ⟨s,h⟩:=ZcX k h0 h1
 unfold mt;rw [h];rfl
theorem ZdL {α:Type} {L:List α} {j:Nat} {z z':α} {A A' B B':Int} (hA:A=A') (hB:B=B') (hz:z=z'):(some (.inl (A,B,List.set L j z,())):Option ((Int×Int×List α×Unit) ⊕ (Int×List α)))=some (.inl (A',B',List.set L j z',())):=by rw [hA,hB,hz]
theorem Zea {A A' B B':Int} (hA:A=A') (hB:B=B'):(some (.inl (A,B,())):Option ((Int×Int×Unit) ⊕ Int))=some (.inl (A',B',())):=by rw [hA,hB]
theorem ZlW (l:List (Yv)) (k:Int) (hs:sm (.sl (Je)) l) (h0:0≤k) (h1:k+((cnt (.sl (Je)) l:Nat):Int)≤4611686018427387904):ZaH l k=some (k+((cnt (.sl (Je)) l:Nat):Int),mkL (mkA mt (Je)) (cnt (Je)) l k):=by
 unfold ZaH
 have hl:l.length≤1048576:=by have:=hs.1;omega
 refine ZjR (f:=mkA mt (Je)) (c:=cnt (Je)) (fun j m x L hj hj' hx hxm hm0 hm1 hj2=>?_) (fun m L=>?_) hl h0 h1
 ·have hsx:=hs.2 x hxm
  have hc:((cnt (Je) x:Nat):Int)=0+1+1+1+1:=by simp only [Qi,VR,Qg,Qh,V9];omega
  have e0:=ZnJ (k:=m) (by omega) (by omega)
  have hx2:atI L (j:Int)=some x:=by rw [Zr];exact hx
  have hb:∀ {β:Type} (y:Yv) (F:Yv→Option β),(atI (List.set L j y) (j:Int)).bind F=F y:=fun y F=>by rw [Zbt hj];rfl
  simp only [Qn,if_pos hj',Int.toNat_natCast,hx2,↓hb,Option.bind_some,List.set_set,e0]
  refine ZdL ?_ ?_ ?_
  ·have hc:=hc;simp (disch:=omega) only [Jd];omega
  ·simp (disch:=omega) only [Jd];omega
  ·simp (disch:=omega) only [Jd];rfl
 ·simp only [Qn,Int.lt_irrefl,if_false]
theorem Xn (l:List (Int)) (k:Int) (hs:sm (.sl (.int .i64)) l) (h0:0≤k) (h1:k+((cnt (.sl (.int .i64)) l:Nat):Int)≤4611686018427387904):Ym l k=some (k+((cnt (.sl (.int .i64)) l:Nat):Int),mkL (mkA mt (.int .i64)) (cnt (.int .i64)) l k):=by
 unfold Ym
 have hl:l.length≤1048576:=by have:=hs.1;omega
 refine ZjR (f:=mkA mt (.int .i64)) (c:=cnt (.int .i64)) (fun j m x L hj hj' hx hxm hm0 hm1 hj2=>?_) (fun m L=>?_) hl h0 h1
 ·have hsx:=hs.2 x hxm
  have hc:((cnt (.int .i64) x:Nat):Int)=0+1:=by rfl
  simp (disch:=omega) only [Xw,if_pos hj',Zr,hx,Option.bind_some,Jd,Int.toNat_natCast,Zbt,List.length_set,List.set_set,List.getElem?_set_self]
  refine ZdL ?_ ?_ rfl
  ·have hc:=hc;omega
  ·omega
 ·simp only [Xw,Int.lt_irrefl,if_false]
theorem ZfR (l:List (Zt)) (k:Int) (hs:sm (.sl (Yh)) l) (h0:0≤k) (h1:k+((cnt (.sl (Yh)) l:Nat):Int)≤4611686018427387904):Q0 l k=some (k+((cnt (.sl (Yh)) l:Nat):Int),mkL (mkA mt (Yh)) (cnt (Yh)) l k):=by
 unfold Q0
 have hl:l.length≤1048576:=by have:=hs.1;omega
 refine ZjR (f:=mkA mt (Yh)) (c:=cnt (Yh)) (fun j m x L hj hj' hx hxm hm0 hm1 hj2=>?_) (fun m L=>?_) hl h0 h1
 ·have hsx:=hs.2 x hxm
  have hc:((cnt (Yh) x:Nat):Int)=0+((cnt (.sl (.int .i64)) x.1:Nat):Int)+((cnt (.sl (.int .i64)) x.2.1:Nat):Int)+((cnt (.sl (.int .i64)) x.2.2.1:Nat):Int):=by simp only [Qi,VR,Qg,Qh,V9];omega
  have e0:=Xn x.1 (m) hsx.1 (by omega) (by omega)
  have e1:=Xn x.2.1 (m+((cnt (.sl (.int .i64)) x.1:Nat):Int)) hsx.2.1 (by omega) (by omega)
  have e2:=Xn x.2.2.1 (m+((cnt (.sl (.int .i64)) x.1:Nat):Int)+((cnt (.sl (.int .i64)) x.2.1:Nat):Int)) hsx.2.2.1 (by omega) (by omega)
  simp (disch:=omega) only [Xx,if_pos hj',Zr,hx,Option.bind_some,Jd,Int.toNat_natCast,Zbt,List.length_set,List.set_set,List.getElem?_set_self,e0,e1,e2]
  refine ZdL ?_ ?_ rfl
  ·have hc:=hc;omega
  ·omega
 ·simp only [Xx,Int.lt_irrefl,if_false]
theorem ZlF (l:List (ZM)) (k:Int) (hs:sm (.sl (ZaK)) l) (h0:0≤k) (h1:k+((cnt (.sl (ZaK)) l:Nat):Int)≤4611686018427387904):Zat l k=some (k+((cnt (.sl (ZaK)) l:Nat):Int),mkL (mkA mt (ZaK)) (cnt (ZaK)) l k):=by
 unfold Zat
 have hl:l.length≤1048576:=by have:=hs.1;omega
 refine ZjR (f:=mkA mt (ZaK)) (c:=cnt (ZaK)) (fun j m x L hj hj' hx hxm hm0 hm1 hj2=>?_) (fun m L=>?_) hl h0 h1
 ·have hsx:=hs.2 x hxm
  have hc:((cnt (ZaK) x:Nat):Int)=0+1+1+1+1+((cnt (.sl (Yh)) x.2.2.2.2.1:Nat):Int)+((cnt (.sl (Yh)) x.2.2.2.2.2.1:Nat):Int):=by simp only [Qi,VR,Qg,Qh,V9];omega
  have e4:=ZfR x.2.2.2.2.1 (m+1+1+1+1) hsx.2.2.2.2.1 (by omega) (by omega)
  have e5:=ZfR x.2.2.2.2.2.1 (m+1+1+1+1+((cnt (.sl (Yh)) x.2.2.2.2.1:Nat):Int)) hsx.2.2.2.2.2.1 (by omega) (by omega)
  simp (disch:=omega) only [Qq,if_pos hj',Zr,hx,Option.bind_some,Jd,Int.toNat_natCast,Zbt,List.length_set,List.set_set,List.getElem?_set_self,e4,e5]
  refine ZdL ?_ ?_ rfl
  ·have hc:=hc;omega
  ·omega
 ·simp only [Qq,Int.lt_irrefl,if_false]
theorem ZkM (l:List (Zh)) (k:Int) (hs:sm (.sl (YL)) l) (h0:0≤k) (h1:k+((cnt (.sl (YL)) l:Nat):Int)≤4611686018427387904):Jv l k=some (k+((cnt (.sl (YL)) l:Nat):Int),mkL (mkA mt (YL)) (cnt (YL)) l k):=by
 unfold Jv
 have hl:l.length≤1048576:=by have:=hs.1;omega
 refine ZjR (f:=mkA mt (YL)) (c:=cnt (YL)) (fun j m x L hj hj' hx hxm hm0 hm1 hj2=>?_) (fun m L=>?_) hl h0 h1
 ·have hsx:=hs.2 x hxm
  have hc:((cnt (YL) x:Nat):Int)=0+1+1+((cnt (.sl (Je)) x.2.2.1:Nat):Int)+((cnt (.sl (ZaK)) x.2.2.2.1:Nat):Int)+((cnt (.sl (.int .i64)) x.2.2.2.2.1:Nat):Int)+1+1:=by simp only [Qi,VR,Qg,Qh,V9];omega
  have e0:=ZnJ (k:=m) (by omega) (by omega)
  have e2:=ZlW x.2.2.1 (m+1+1) hsx.2.2.1 (by omega) (by omega)
  have e3:=ZlF x.2.2.2.1 (m+1+1+((cnt (.sl (Je)) x.2.2.1:Nat):Int)) hsx.2.2.2.1 (by omega) (by omega)
  have e4:=Xn x.2.2.2.2.1 (m+1+1+((cnt (.sl (Je)) x.2.2.1:Nat):Int)+((cnt (.sl (ZaK)) x.2.2.2.1:Nat):Int)) hsx.2.2.2.2.1 (by omega) (by omega)
  simp (disch:=omega) only [XO,if_pos hj',Zr,hx,Option.bind_some,Jd,Int.toNat_natCast,Zbt,List.length_set,List.set_set,List.getElem?_set_self,e0,e2,e3,e4]
  refine ZdL ?_ ?_ rfl
  ·have hc:=hc;omega
  ·omega
 ·simp only [XO,Int.lt_irrefl,if_false]
theorem Zi8 (a:Zl) (k:Int) (hs:sm (Z6) a) (h0:0≤k) (h1:k+((Zfn (Z6) a:Nat):Int)≤4611686018427387904):Vf a k=some (k+((Zfn (Z6) a:Nat):Int),mkT mt (Z6) a k):=by
 unfold Vf
 have hc:((Zfn (Z6) a:Nat):Int)=0+(((cnt (.sl (YL)) a.1):Nat):Int):=by simp only [Zfn];omega
 have e0:=ZkM a.1 (k) hs.1 (by omega) (by omega)
 simp only [Option.bind_some,e0]
 refine congrArg some (Prod.ext (by show _=k+_;rw [hc,Int.zero_add]) rfl)
theorem ZhB (l:List (Zd)) (k:Int) (hs:sm (.sl (Zw)) l) (h0:0≤k) (h1:k+((cnt (.sl (Zw)) l:Nat):Int)≤4611686018427387904):XV l k=some (k+((cnt (.sl (Zw)) l:Nat):Int),mkL (mkA mt (Zw)) (cnt (Zw)) l k):=by
 unfold XV
 have hl:l.length≤1048576:=by have:=hs.1;omega
 refine ZjR (f:=mkA mt (Zw)) (c:=cnt (Zw)) (fun j m x L hj hj' hx hxm hm0 hm1 hj2=>?_) (fun m L=>?_) hl h0 h1
 ·have hsx:=hs.2 x hxm
  have hc:((cnt (Zw) x:Nat):Int)=0+1+1+((cnt (.sl (.int .i64)) x.2.2.1:Nat):Int):=by simp only [Qi,VR,Qg,Qh,V9];omega
  have e0:=ZnJ (k:=m) (by omega) (by omega)
  have e2:=Xn x.2.2.1 (m+1+1) hsx.2.2.1 (by omega) (by omega)
  simp (disch:=omega) only [Y0,if_pos hj',Zr,hx,Option.bind_some,Jd,Int.toNat_natCast,Zbt,List.length_set,List.set_set,List.getElem?_set_self,e0,e2]
  refine ZdL ?_ ?_ rfl
  ·have hc:=hc;omega
  ·omega
 ·simp only [Y0,Int.lt_irrefl,if_false]
theorem Zjc (l:List (List UInt8)) (k:Int) (hs:sm (.sl (.str)) l) (h0:0≤k) (h1:k+((cnt (.sl (.str)) l:Nat):Int)≤4611686018427387904):Vh l k=some (k+((cnt (.sl (.str)) l:Nat):Int),mkL (mkA mt (.str)) (cnt (.str)) l k):=by
 unfold Vh
 have hl:l.length≤1048576:=by have:=hs.1;omega
 refine ZjR (f:=mkA mt (.str)) (c:=cnt (.str)) (fun j m x L hj hj' hx hxm hm0 hm1 hj2=>?_) (fun m L=>?_) hl h0 h1
 ·have hsx:=hs.2 x hxm
  have hc:((cnt (.str) x:Nat):Int)=0+1:=by rfl
  have e0:=ZnJ (k:=m) (by omega) (by omega)
  simp (disch:=omega) only [Xi,if_pos hj',Zr,hx,Option.bind_some,Jd,Int.toNat_natCast,Zbt,List.length_set,List.set_set,List.getElem?_set_self,e0]
  refine ZdL ?_ ?_ rfl
  ·have hc:=hc;omega
  ·omega
 ·simp only [Xi,Int.lt_irrefl,if_false]
theorem ZkT (l:List (ZI)) (k:Int) (hs:sm (.sl (Xa)) l) (h0:0≤k) (h1:k+((cnt (.sl (Xa)) l:Nat):Int)≤4611686018427387904):Jz l k=some (k+((cnt (.sl (Xa)) l:Nat):Int),mkL (mkA mt (Xa)) (cnt (Xa)) l k):=by
 unfold Jz
 have hl:l.length≤1048576:=by have:=hs.1;omega
 refine ZjR (f:=mkA mt (Xa)) (c:=cnt (Xa)) (fun j m x L hj hj' hx hxm hm0 hm1 hj2=>?_) (fun m L=>?_) hl h0 h1
 ·have hsx:=hs.2 x hxm
  have hc:((cnt (Xa) x:Nat):Int)=0+1+1+1:=by simp only [Qi,VR,Qg,Qh,V9];omega
  have e0:=ZnJ (k:=m) (by omega) (by omega)
  have hx2:atI L (j:Int)=some x:=by rw [Zr];exact hx
  have hb:∀ {β:Type} (y:ZI) (F:ZI→Option β),(atI (List.set L j y) (j:Int)).bind F=F y:=fun y F=>by rw [Zbt hj];rfl
  simp only [XM,if_pos hj',Int.toNat_natCast,hx2,↓hb,Option.bind_some,List.set_set,e0]
  refine ZdL ?_ ?_ ?_
  ·have hc:=hc;simp (disch:=omega) only [Jd];omega
  ·simp (disch:=omega) only [Jd];omega
  ·simp (disch:=omega) only [Jd];rfl
 ·simp only [XM,Int.lt_irrefl,if_false]
theorem ZjD (a:Za) (k:Int) (hs:sm (Z9) a) (h0:0≤k) (h1:k+((Zfn (Z9) a:Nat):Int)≤4611686018427387904):VO a k=some (k+((Zfn (Z9) a:Nat):Int),mkT mt (Z9) a k):=by
 unfold VO
 have hc:((Zfn (Z9) a:Nat):Int)=0+(((cnt (.sl (Zw)) a.1):Nat):Int)+(((cnt (.sl (.str)) a.2.1):Nat):Int)+(((cnt (.sl (Xa)) a.2.2.1):Nat):Int):=by simp only [Zfn];omega
 have e0:=ZhB a.1 (k) hs.1 (by omega) (by omega)
 have e1:=Zjc a.2.1 (k+(((cnt (.sl (Zw)) a.1):Nat):Int)) hs.2.1 (by omega) (by omega)
 have e2:=ZkT a.2.2.1 (k+(((cnt (.sl (Zw)) a.1):Nat):Int)+(((cnt (.sl (.str)) a.2.1):Nat):Int)) hs.2.2.1 (by omega) (by omega)
 simp only [Option.bind_some,e0,e1,e2]
 refine congrArg some (Prod.ext (by show _=k+_;rw [hc];omega) rfl)
theorem Zkl (l:List (Zn)) (k:Int) (hs:sm (.sl (YP)) l) (h0:0≤k) (h1:k+((cnt (.sl (YP)) l:Nat):Int)≤4611686018427387904):Jt l k=some (k+((cnt (.sl (YP)) l:Nat):Int),mkL (mkA mt (YP)) (cnt (YP)) l k):=by
 unfold Jt
 have hl:l.length≤1048576:=by have:=hs.1;omega
 refine ZjR (f:=mkA mt (YP)) (c:=cnt (YP)) (fun j m x L hj hj' hx hxm hm0 hm1 hj2=>?_) (fun m L=>?_) hl h0 h1
 ·have hsx:=hs.2 x hxm
  have hc:((cnt (YP) x:Nat):Int)=0+((cnt (.sl (.int .i64)) x.1:Nat):Int)+((cnt (.sl (.int .i64)) x.2.1:Nat):Int)+((cnt (.sl (.int .i64)) x.2.2.1:Nat):Int)+((cnt (.sl (.int .i64)) x.2.2.2.1:Nat):Int):=by simp only [Qi,VR,Qg,Qh,V9];omega
  have e0:=Xn x.1 (m) hsx.1 (by omega) (by omega)
  have e1:=Xn x.2.1 (m+((cnt (.sl (.int .i64)) x.1:Nat):Int)) hsx.2.1 (by omega) (by omega)
  have e2:=Xn x.2.2.1 (m+((cnt (.sl (.int .i64)) x.1:Nat):Int)+((cnt (.sl (.int .i64)) x.2.1:Nat):Int)) hsx.2.2.1 (by omega) (by omega)
  have e3:=Xn x.2.2.2.1 (m+((cnt (.sl (.int .i64)) x.1:Nat):Int)+((cnt (.sl (.int .i64)) x.2.1:Nat):Int)+((cnt (.sl (.int .i64)) x.2.2.1:Nat):Int)) hsx.2.2.2.1 (by omega) (by omega)
  simp (disch:=omega) only [XR,if_pos hj',Zr,hx,Option.bind_some,Jd,Int.toNat_natCast,Zbt,List.length_set,List.set_set,List.getElem?_set_self,e0,e1,e2,e3]
  refine ZdL ?_ ?_ rfl
  ·have hc:=hc;omega
  ·omega
 ·simp only [XR,Int.lt_irrefl,if_false]
theorem Zko (a:Zb) (k:Int) (hs:sm (Yt) a) (h0:0≤k) (h1:k+((Zfn (Yt) a:Nat):Int)≤4611686018427387904):VH a k=some (k+((Zfn (Yt) a:Nat):Int),mkT mt (Yt) a k):=by
 unfold VH
 have hc:((Zfn (Yt) a:Nat):Int)=0+(((Zfn (Z6) a.1):Nat):Int)+(((Zfn (Z9) a.2.1):Nat):Int)+(((cnt (.sl (YP)) a.2.2.1):Nat):Int):=by simp only [Zfn];omega
 have e0:=Zi8 a.1 (k) hs.1 (by omega) (by omega)
 have e1:=ZjD a.2.1 (k+(((Zfn (Z6) a.1):Nat):Int)) hs.2.1 (by omega) (by omega)
 have e2:=Zkl a.2.2.1 (k+(((Zfn (Z6) a.1):Nat):Int)+(((Zfn (Z9) a.2.1):Nat):Int)) hs.2.2.1 (by omega) (by omega)
 simp only [Option.bind_some,e0,e1,e2]
 refine congrArg some (Prod.ext (by show _=k+_;rw [hc];omega) rfl)
theorem ZlX (l:List (Yv)) (k:Int) (hs:sm (.sl (Je)) l) (h0:0≤k) (h1:k+((cnt (.sl (Je)) l:Nat):Int)≤4611686018427387904):Zcw (mkL (mkA mt (Je)) (cnt (Je)) l k) k=some (k+((cnt (.sl (Je)) l:Nat):Int)):=by
 unfold Zcw
 have hl:l.length≤1048576:=by have:=hs.1;omega
 refine Zff (f:=mkA mt (Je)) (c:=cnt (Je)) (step:=fun v=>Vr (mkL (mkA mt (Je)) (cnt (Je)) l k) v.1 v.2.1) (fun j m x hj hx hxm hm0 hm1 hj2=>?_) (fun m=>?_) hl h0 h1
 ·have hsx:=hs.2 x hxm
  have hc:((cnt (Je) x:Nat):Int)=0+1+1+1+1:=by simp only [Qi,VR,Qg,Qh,V9];omega
  have f0:Yv.Name (mkA mt (Je) x m)=mt (m):=rfl
  have e0:=ZnJ (k:=m) (by omega) (by omega)
  have f1:Yv.Dir (mkA mt (Je) x m)=m+1:=rfl
  have f2:Yv.Cap (mkA mt (Je) x m)=m+1+1:=rfl
  have f3:Yv.Clock (mkA mt (Je) x m)=decide (Int.tmod (m+1+1+1) 3=0):=rfl
  simp (disch:=omega) only [Vr,if_pos hj,Zr,hx,Option.bind_some,Jd,eq_self,if_true,if_false,beq_self_eq_true,f0,e0,f1,f2,f3]
  refine Zea ?_ ?_
  ·have hc:=hc;omega
  ·omega
 ·simp only [Vr,Int.lt_irrefl,if_false]
theorem Xj (l:List (Int)) (k:Int) (hs:sm (.sl (.int .i64)) l) (h0:0≤k) (h1:k+((cnt (.sl (.int .i64)) l:Nat):Int)≤4611686018427387904):YT (mkL (mkA mt (.int .i64)) (cnt (.int .i64)) l k) k=some (k+((cnt (.sl (.int .i64)) l:Nat):Int)):=by
 unfold YT
 have hl:l.length≤1048576:=by have:=hs.1;omega
 refine Zff (f:=mkA mt (.int .i64)) (c:=cnt (.int .i64)) (step:=fun v=>Qu (mkL (mkA mt (.int .i64)) (cnt (.int .i64)) l k) v.1 v.2.1) (fun j m x hj hx hxm hm0 hm1 hj2=>?_) (fun m=>?_) hl h0 h1
 ·have hsx:=hs.2 x hxm
  have hc:((cnt (.int .i64) x:Nat):Int)=0+1:=by rfl
  have f0:mkA mt (.int .i64) x m=m:=rfl
  simp (disch:=omega) only [Qu,if_pos hj,Zr,hx,Option.bind_some,Jd,eq_self,if_true,if_false,beq_self_eq_true,f0]
  refine Zea ?_ ?_
  ·have hc:=hc;omega
  ·omega
 ·simp only [Qu,Int.lt_irrefl,if_false]
theorem ZfN (l:List (Zt)) (k:Int) (hs:sm (.sl (Yh)) l) (h0:0≤k) (h1:k+((cnt (.sl (Yh)) l:Nat):Int)≤4611686018427387904):Zaa (mkL (mkA mt (Yh)) (cnt (Yh)) l k) k=some (k+((cnt (.sl (Yh)) l:Nat):Int)):=by
 unfold Zaa
 have hl:l.length≤1048576:=by have:=hs.1;omega
 refine Zff (f:=mkA mt (Yh)) (c:=cnt (Yh)) (step:=fun v=>Qt (mkL (mkA mt (Yh)) (cnt (Yh)) l k) v.1 v.2.1) (fun j m x hj hx hxm hm0 hm1 hj2=>?_) (fun m=>?_) hl h0 h1
 ·have hsx:=hs.2 x hxm
  have hc:((cnt (Yh) x:Nat):Int)=0+((cnt (.sl (.int .i64)) x.1:Nat):Int)+((cnt (.sl (.int .i64)) x.2.1:Nat):Int)+((cnt (.sl (.int .i64)) x.2.2.1:Nat):Int):=by simp only [Qi,VR,Qg,Qh,V9];omega
  have f0:Zt.Zfx (mkA mt (Yh) x m)=mkL (mkA mt (.int .i64)) (cnt (.int .i64)) x.1 (m):=rfl
  have e0:=Xj x.1 (m) hsx.1 (by omega) (by omega)
  have n0:¬(m+((cnt (.sl (.int .i64)) x.1:Nat):Int))<0:=by omega
  have f1:Zt.Loads (mkA mt (Yh) x m)=mkL (mkA mt (.int .i64)) (cnt (.int .i64)) x.2.1 (m+((cnt (.sl (.int .i64)) x.1:Nat):Int)):=rfl
  have e1:=Xj x.2.1 (m+((cnt (.sl (.int .i64)) x.1:Nat):Int)) hsx.2.1 (by omega) (by omega)
  have n1:¬(m+((cnt (.sl (.int .i64)) x.1:Nat):Int)+((cnt (.sl (.int .i64)) x.2.1:Nat):Int))<0:=by omega
  have f2:Zt.Values (mkA mt (Yh) x m)=mkL (mkA mt (.int .i64)) (cnt (.int .i64)) x.2.2.1 (m+((cnt (.sl (.int .i64)) x.1:Nat):Int)+((cnt (.sl (.int .i64)) x.2.1:Nat):Int)):=rfl
  have e2:=Xj x.2.2.1 (m+((cnt (.sl (.int .i64)) x.1:Nat):Int)+((cnt (.sl (.int .i64)) x.2.1:Nat):Int)) hsx.2.2.1 (by omega) (by omega)
  have n2:¬(m+((cnt (.sl (.int .i64)) x.1:Nat):Int)+((cnt (.sl (.int .i64)) x.2.1:Nat):Int)+((cnt (.sl (.int .i64)) x.2.2.1:Nat):Int))<0:=by omega
  simp (disch:=omega) only [Qt,if_pos hj,Zr,hx,Option.bind_some,Jd,eq_self,if_true,if_false,beq_self_eq_true,f0,e0,n0,f1,e1,n1,f2,e2,n2]
  refine Zea ?_ ?_
  ·have hc:=hc;omega
  ·omega
 ·simp only [Qt,Int.lt_irrefl,if_false]
theorem ZlY (l:List (ZM)) (k:Int) (hs:sm (.sl (ZaK)) l) (h0:0≤k) (h1:k+((cnt (.sl (ZaK)) l:Nat):Int)≤4611686018427387904):Zcm (mkL (mkA mt (ZaK)) (cnt (ZaK)) l k) k=some (k+((cnt (.sl (ZaK)) l:Nat):Int)):=by
 unfold Zcm
 have hl:l.length≤1048576:=by have:=hs.1;omega
 refine Zff (f:=mkA mt (ZaK)) (c:=cnt (ZaK)) (step:=fun v=>Vu (mkL (mkA mt (ZaK)) (cnt (ZaK)) l k) v.1 v.2.1) (fun j m x hj hx hxm hm0 hm1 hj2=>?_) (fun m=>?_) hl h0 h1
 ·have hsx:=hs.2 x hxm
  have hc:((cnt (ZaK) x:Nat):Int)=0+1+1+1+1+((cnt (.sl (Yh)) x.2.2.2.2.1:Nat):Int)+((cnt (.sl (Yh)) x.2.2.2.2.2.1:Nat):Int):=by simp only [Qi,VR,Qg,Qh,V9];omega
  have f0:ZM.Kind (mkA mt (ZaK) x m)=m:=rfl
  have f1:ZM.From (mkA mt (ZaK) x m)=m+1:=rfl
  have f2:ZM.To (mkA mt (ZaK) x m)=m+1+1:=rfl
  have f3:ZM.ZcL (mkA mt (ZaK) x m)=m+1+1+1:=rfl
  have f4:ZM.Delay (mkA mt (ZaK) x m)=mkL (mkA mt (Yh)) (cnt (Yh)) x.2.2.2.2.1 (m+1+1+1+1):=rfl
  have e4:=ZfN x.2.2.2.2.1 (m+1+1+1+1) hsx.2.2.2.2.1 (by omega) (by omega)
  have n4:¬(m+1+1+1+1+((cnt (.sl (Yh)) x.2.2.2.2.1:Nat):Int))<0:=by omega
  have f5:ZM.Zhj (mkA mt (ZaK) x m)=mkL (mkA mt (Yh)) (cnt (Yh)) x.2.2.2.2.2.1 (m+1+1+1+1+((cnt (.sl (Yh)) x.2.2.2.2.1:Nat):Int)):=rfl
  have e5:=ZfN x.2.2.2.2.2.1 (m+1+1+1+1+((cnt (.sl (Yh)) x.2.2.2.2.1:Nat):Int)) hsx.2.2.2.2.2.1 (by omega) (by omega)
  have n5:¬(m+1+1+1+1+((cnt (.sl (Yh)) x.2.2.2.2.1:Nat):Int)+((cnt (.sl (Yh)) x.2.2.2.2.2.1:Nat):Int))<0:=by omega
  simp (disch:=omega) only [Vu,if_pos hj,Zr,hx,Option.bind_some,Jd,eq_self,if_true,if_false,beq_self_eq_true,f0,f1,f2,f3,f4,e4,n4,f5,e5,n5]
  refine Zea ?_ ?_
  ·have hc:=hc;omega
  ·omega
 ·simp only [Vu,Int.lt_irrefl,if_false]
theorem ZkO (l:List (Zh)) (k:Int) (hs:sm (.sl (YL)) l) (h0:0≤k) (h1:k+((cnt (.sl (YL)) l:Nat):Int)≤4611686018427387904):ZbJ (mkL (mkA mt (YL)) (cnt (YL)) l k) k=some (k+((cnt (.sl (YL)) l:Nat):Int)):=by
 unfold ZbJ
 have hl:l.length≤1048576:=by have:=hs.1;omega
 refine Zff (f:=mkA mt (YL)) (c:=cnt (YL)) (step:=fun v=>Q5 (mkL (mkA mt (YL)) (cnt (YL)) l k) v.1 v.2.1) (fun j m x hj hx hxm hm0 hm1 hj2=>?_) (fun m=>?_) hl h0 h1
 ·have hsx:=hs.2 x hxm
  have hc:((cnt (YL) x:Nat):Int)=0+1+1+((cnt (.sl (Je)) x.2.2.1:Nat):Int)+((cnt (.sl (ZaK)) x.2.2.2.1:Nat):Int)+((cnt (.sl (.int .i64)) x.2.2.2.2.1:Nat):Int)+1+1:=by simp only [Qi,VR,Qg,Qh,V9];omega
  have f0:Zh.Name (mkA mt (YL) x m)=mt (m):=rfl
  have e0:=ZnJ (k:=m) (by omega) (by omega)
  have f1:Zh.Kind (mkA mt (YL) x m)=m+1:=rfl
  have f2:Zh.YC (mkA mt (YL) x m)=mkL (mkA mt (Je)) (cnt (Je)) x.2.2.1 (m+1+1):=rfl
  have e2:=ZlX x.2.2.1 (m+1+1) hsx.2.2.1 (by omega) (by omega)
  have n2:¬(m+1+1+((cnt (.sl (Je)) x.2.2.1:Nat):Int))<0:=by omega
  have f3:Zh.Zbc (mkA mt (YL) x m)=mkL (mkA mt (ZaK)) (cnt (ZaK)) x.2.2.2.1 (m+1+1+((cnt (.sl (Je)) x.2.2.1:Nat):Int)):=rfl
  have e3:=ZlY x.2.2.2.1 (m+1+1+((cnt (.sl (Je)) x.2.2.1:Nat):Int)) hsx.2.2.2.1 (by omega) (by omega)
  have n3:¬(m+1+1+((cnt (.sl (Je)) x.2.2.1:Nat):Int)+((cnt (.sl (ZaK)) x.2.2.2.1:Nat):Int))<0:=by omega
  have f4:Zh.Truth (mkA mt (YL) x m)=mkL (mkA mt (.int .i64)) (cnt (.int .i64)) x.2.2.2.2.1 (m+1+1+((cnt (.sl (Je)) x.2.2.1:Nat):Int)+((cnt (.sl (ZaK)) x.2.2.2.1:Nat):Int)):=rfl
  have e4:=Xj x.2.2.2.2.1 (m+1+1+((cnt (.sl (Je)) x.2.2.1:Nat):Int)+((cnt (.sl (ZaK)) x.2.2.2.1:Nat):Int)) hsx.2.2.2.2.1 (by omega) (by omega)
  have n4:¬(m+1+1+((cnt (.sl (Je)) x.2.2.1:Nat):Int)+((cnt (.sl (ZaK)) x.2.2.2.1:Nat):Int)+((cnt (.sl (.int .i64)) x.2.2.2.2.1:Nat):Int))<0:=by omega
  have f5:Zh.Zsj (mkA mt (YL) x m)=m+1+1+((cnt (.sl (Je)) x.2.2.1:Nat):Int)+((cnt (.sl (ZaK)) x.2.2.2.1:Nat):Int)+((cnt (.sl (.int .i64)) x.2.2.2.2.1:Nat):Int):=rfl
  have f6:Zh.ZgT (mkA mt (YL) x m)=m+1+1+((cnt (.sl (Je)) x.2.2.1:Nat):Int)+((cnt (.sl (ZaK)) x.2.2.2.1:Nat):Int)+((cnt (.sl (.int .i64)) x.2.2.2.2.1:Nat):Int)+1:=rfl
  simp (disch:=omega) only [Q5,if_pos hj,Zr,hx,Option.bind_some,Jd,eq_self,if_true,if_false,beq_self_eq_true,f0,e0,f1,f2,e2,n2,f3,e3,n3,f4,e4,n4,f5,f6]
  refine Zea ?_ ?_
  ·have hc:=hc;omega
  ·omega
 ·simp only [Q5,Int.lt_irrefl,if_false]
theorem Zji (a:Zl) (k:Int) (hs:sm (Z6) a) (h0:0≤k) (h1:k+((Zfn (Z6) a:Nat):Int)≤4611686018427387904):Zan (mkT mt (Z6) a k) k=some (k+((Zfn (Z6) a:Nat):Int)):=by
 unfold Zan
 have hc:((Zfn (Z6) a:Nat):Int)=0+(((cnt (.sl (YL)) a.1):Nat):Int):=by simp only [Zfn];omega
 have f0:Zl.Cells (mkT mt (Z6) a k)=mkL (mkA mt (YL)) (cnt (YL)) a.1 (k):=by rfl
 have n0:¬(k+(((cnt (.sl (YL)) a.1):Nat):Int))<0:=by omega
 have e0:=ZkO a.1 (k) hs.1 (by omega) (by omega)
 simp only [Option.bind_some,if_false,f0,n0,e0]
 refine congrArg some ?_
 omega
theorem Zg6 (l:List (Zd)) (k:Int) (hs:sm (.sl (Zw)) l) (h0:0≤k) (h1:k+((cnt (.sl (Zw)) l:Nat):Int)≤4611686018427387904):V6 (mkL (mkA mt (Zw)) (cnt (Zw)) l k) k=some (k+((cnt (.sl (Zw)) l:Nat):Int)):=by
 unfold V6
 have hl:l.length≤1048576:=by have:=hs.1;omega
 refine Zff (f:=mkA mt (Zw)) (c:=cnt (Zw)) (step:=fun v=>Xr (mkL (mkA mt (Zw)) (cnt (Zw)) l k) v.1 v.2.1) (fun j m x hj hx hxm hm0 hm1 hj2=>?_) (fun m=>?_) hl h0 h1
 ·have hsx:=hs.2 x hxm
  have hc:((cnt (Zw) x:Nat):Int)=0+1+1+((cnt (.sl (.int .i64)) x.2.2.1:Nat):Int):=by simp only [Qi,VR,Qg,Qh,V9];omega
  have f0:Zd.Name (mkA mt (Zw) x m)=mt (m):=rfl
  have e0:=ZnJ (k:=m) (by omega) (by omega)
  have f1:Zd.Cell (mkA mt (Zw) x m)=m+1:=rfl
  have f2:Zd.ZP (mkA mt (Zw) x m)=mkL (mkA mt (.int .i64)) (cnt (.int .i64)) x.2.2.1 (m+1+1):=rfl
  have e2:=Xj x.2.2.1 (m+1+1) hsx.2.2.1 (by omega) (by omega)
  have n2:¬(m+1+1+((cnt (.sl (.int .i64)) x.2.2.1:Nat):Int))<0:=by omega
  simp (disch:=omega) only [Xr,if_pos hj,Zr,hx,Option.bind_some,Jd,eq_self,if_true,if_false,beq_self_eq_true,f0,e0,f1,f2,e2,n2]
  refine Zea ?_ ?_
  ·have hc:=hc;omega
  ·omega
 ·simp only [Xr,Int.lt_irrefl,if_false]
theorem ZiY (l:List (List UInt8)) (k:Int) (hs:sm (.sl (.str)) l) (h0:0≤k) (h1:k+((cnt (.sl (.str)) l:Nat):Int)≤4611686018427387904):Zal (mkL (mkA mt (.str)) (cnt (.str)) l k) k=some (k+((cnt (.sl (.str)) l:Nat):Int)):=by
 unfold Zal
 have hl:l.length≤1048576:=by have:=hs.1;omega
 refine Zff (f:=mkA mt (.str)) (c:=cnt (.str)) (step:=fun v=>XY (mkL (mkA mt (.str)) (cnt (.str)) l k) v.1 v.2.1) (fun j m x hj hx hxm hm0 hm1 hj2=>?_) (fun m=>?_) hl h0 h1
 ·have hsx:=hs.2 x hxm
  have hc:((cnt (.str) x:Nat):Int)=0+1:=by rfl
  have f0:mkA mt (.str) x m=mt (m):=rfl
  have e0:=ZnJ (k:=m) (by omega) (by omega)
  simp (disch:=omega) only [XY,if_pos hj,Zr,hx,Option.bind_some,Jd,eq_self,if_true,if_false,beq_self_eq_true,f0,e0]
  refine Zea ?_ ?_
  ·have hc:=hc;omega
  ·omega
 ·simp only [XY,Int.lt_irrefl,if_false]
theorem ZkI (l:List (ZI)) (k:Int) (hs:sm (.sl (Xa)) l) (h0:0≤k) (h1:k+((cnt (.sl (Xa)) l:Nat):Int)≤4611686018427387904):ZbK (mkL (mkA mt (Xa)) (cnt (Xa)) l k) k=some (k+((cnt (.sl (Xa)) l:Nat):Int)):=by
 unfold ZbK
 have hl:l.length≤1048576:=by have:=hs.1;omega
 refine Zff (f:=mkA mt (Xa)) (c:=cnt (Xa)) (step:=fun v=>Vb (mkL (mkA mt (Xa)) (cnt (Xa)) l k) v.1 v.2.1) (fun j m x hj hx hxm hm0 hm1 hj2=>?_) (fun m=>?_) hl h0 h1
 ·have hsx:=hs.2 x hxm
  have hc:((cnt (Xa) x:Nat):Int)=0+1+1+1:=by simp only [Qi,VR,Qg,Qh,V9];omega
  have f0:ZI.Name (mkA mt (Xa) x m)=mt (m):=rfl
  have e0:=ZnJ (k:=m) (by omega) (by omega)
  have f1:ZI.Dir (mkA mt (Xa) x m)=m+1:=rfl
  have f2:ZI.Net (mkA mt (Xa) x m)=m+1+1:=rfl
  simp (disch:=omega) only [Vb,if_pos hj,Zr,hx,Option.bind_some,Jd,eq_self,if_true,if_false,beq_self_eq_true,f0,e0,f1,f2]
  refine Zea ?_ ?_
  ·have hc:=hc;omega
  ·omega
 ·simp only [Vb,Int.lt_irrefl,if_false]
theorem Zki (a:Za) (k:Int) (hs:sm (Z9) a) (h0:0≤k) (h1:k+((Zfn (Z9) a:Nat):Int)≤4611686018427387904):Za2 (mkT mt (Z9) a k) k=some (k+((Zfn (Z9) a:Nat):Int)):=by
 unfold Za2
 have hc:((Zfn (Z9) a:Nat):Int)=0+(((cnt (.sl (Zw)) a.1):Nat):Int)+(((cnt (.sl (.str)) a.2.1):Nat):Int)+(((cnt (.sl (Xa)) a.2.2.1):Nat):Int):=by simp only [Zfn];omega
 have f0:Za.Instances (mkT mt (Z9) a k)=mkL (mkA mt (Zw)) (cnt (Zw)) a.1 (k):=by rfl
 have n0:¬(k+(((cnt (.sl (Zw)) a.1):Nat):Int))<0:=by omega
 have e0:=Zg6 a.1 (k) hs.1 (by omega) (by omega)
 have f1:Za.ZP (mkT mt (Z9) a k)=mkL (mkA mt (.str)) (cnt (.str)) a.2.1 (k+(((cnt (.sl (Zw)) a.1):Nat):Int)):=by rfl
 have n1:¬(k+(((cnt (.sl (Zw)) a.1):Nat):Int)+(((cnt (.sl (.str)) a.2.1):Nat):Int))<0:=by omega
 have e1:=ZiY a.2.1 (k+(((cnt (.sl (Zw)) a.1):Nat):Int)) hs.2.1 (by omega) (by omega)
 have f2:Za.Z0 (mkT mt (Z9) a k)=mkL (mkA mt (Xa)) (cnt (Xa)) a.2.2.1 (k+(((cnt (.sl (Zw)) a.1):Nat):Int)+(((cnt (.sl (.str)) a.2.1):Nat):Int)):=by rfl
 have n2:¬(k+(((cnt (.sl (Zw)) a.1):Nat):Int)+(((cnt (.sl (.str)) a.2.1):Nat):Int)+(((cnt (.sl (Xa)) a.2.2.1):Nat):Int))<0:=by omega
 have e2:=ZkI a.2.2.1 (k+(((cnt (.sl (Zw)) a.1):Nat):Int)+(((cnt (.sl (.str)) a.2.1):Nat):Int)) hs.2.2.1 (by omega) (by omega)
 simp only [Option.bind_some,if_false,f0,n0,e0,f1,n1,e1,f2,n2,e2]
 refine congrArg some ?_
 omega
theorem Zlb (l:List (Zn)) (k:Int) (hs:sm (.sl (YP)) l) (h0:0≤k) (h1:k+((cnt (.sl (YP)) l:Nat):Int)≤4611686018427387904):ZbH (mkL (mkA mt (YP)) (cnt (YP)) l k) k=some (k+((cnt (.sl (YP)) l:Nat):Int)):=by
 unfold ZbH
 have hl:l.length≤1048576:=by have:=hs.1;omega
 refine Zff (f:=mkA mt (YP)) (c:=cnt (YP)) (step:=fun v=>Q6 (mkL (mkA mt (YP)) (cnt (YP)) l k) v.1 v.2.1) (fun j m x hj hx hxm hm0 hm1 hj2=>?_) (fun m=>?_) hl h0 h1
 ·have hsx:=hs.2 x hxm
  have hc:((cnt (YP) x:Nat):Int)=0+((cnt (.sl (.int .i64)) x.1:Nat):Int)+((cnt (.sl (.int .i64)) x.2.1:Nat):Int)+((cnt (.sl (.int .i64)) x.2.2.1:Nat):Int)+((cnt (.sl (.int .i64)) x.2.2.2.1:Nat):Int):=by simp only [Qi,VR,Qg,Qh,V9];omega
  have f0:Zn.Parent (mkA mt (YP) x m)=mkL (mkA mt (.int .i64)) (cnt (.int .i64)) x.1 (m):=rfl
  have e0:=Xj x.1 (m) hsx.1 (by omega) (by omega)
  have n0:¬(m+((cnt (.sl (.int .i64)) x.1:Nat):Int))<0:=by omega
  have f1:Zn.Res (mkA mt (YP) x m)=mkL (mkA mt (.int .i64)) (cnt (.int .i64)) x.2.1 (m+((cnt (.sl (.int .i64)) x.1:Nat):Int)):=rfl
  have e1:=Xj x.2.1 (m+((cnt (.sl (.int .i64)) x.1:Nat):Int)) hsx.2.1 (by omega) (by omega)
  have n1:¬(m+((cnt (.sl (.int .i64)) x.1:Nat):Int)+((cnt (.sl (.int .i64)) x.2.1:Nat):Int))<0:=by omega
  have f2:Zn.Cap (mkA mt (YP) x m)=mkL (mkA mt (.int .i64)) (cnt (.int .i64)) x.2.2.1 (m+((cnt (.sl (.int .i64)) x.1:Nat):Int)+((cnt (.sl (.int .i64)) x.2.1:Nat):Int)):=rfl
  have e2:=Xj x.2.2.1 (m+((cnt (.sl (.int .i64)) x.1:Nat):Int)+((cnt (.sl (.int .i64)) x.2.1:Nat):Int)) hsx.2.2.1 (by omega) (by omega)
  have n2:¬(m+((cnt (.sl (.int .i64)) x.1:Nat):Int)+((cnt (.sl (.int .i64)) x.2.1:Nat):Int)+((cnt (.sl (.int .i64)) x.2.2.1:Nat):Int))<0:=by omega
  have f3:Zn.ZfM (mkA mt (YP) x m)=mkL (mkA mt (.int .i64)) (cnt (.int .i64)) x.2.2.2.1 (m+((cnt (.sl (.int .i64)) x.1:Nat):Int)+((cnt (.sl (.int .i64)) x.2.1:Nat):Int)+((cnt (.sl (.int .i64)) x.2.2.1:Nat):Int)):=rfl
  have e3:=Xj x.2.2.2.1 (m+((cnt (.sl (.int .i64)) x.1:Nat):Int)+((cnt (.sl (.int .i64)) x.2.1:Nat):Int)+((cnt (.sl (.int .i64)) x.2.2.1:Nat):Int)) hsx.2.2.2.1 (by omega) (by omega)
  have n3:¬(m+((cnt (.sl (.int .i64)) x.1:Nat):Int)+((cnt (.sl (.int .i64)) x.2.1:Nat):Int)+((cnt (.sl (.int .i64)) x.2.2.1:Nat):Int)+((cnt (.sl (.int .i64)) x.2.2.2.1:Nat):Int))<0:=by omega
  simp (disch:=omega) only [Q6,if_pos hj,Zr,hx,Option.bind_some,Jd,eq_self,if_true,if_false,beq_self_eq_true,f0,e0,n0,f1,e1,n1,f2,e2,n2,f3,e3,n3]
  refine Zea ?_ ?_
  ·have hc:=hc;omega
  ·omega
 ·simp only [Q6,Int.lt_irrefl,if_false]
theorem ZkG (a:Zb) (k:Int) (hs:sm (Yt) a) (h0:0≤k) (h1:k+((Zfn (Yt) a:Nat):Int)≤4611686018427387904):ZbO (mkT mt (Yt) a k) k=some (k+((Zfn (Yt) a:Nat):Int)):=by
 unfold ZbO
 have hc:((Zfn (Yt) a:Nat):Int)=0+(((Zfn (Z6) a.1):Nat):Int)+(((Zfn (Z9) a.2.1):Nat):Int)+(((cnt (.sl (YP)) a.2.2.1):Nat):Int):=by simp only [Zfn];omega
 have f0:Zb.Library (mkT mt (Yt) a k)=mkT mt (Z6) a.1 (k):=by rfl
 have n0:¬(k+(((Zfn (Z6) a.1):Nat):Int))<0:=by omega
 have e0:=Zji a.1 (k) hs.1 (by omega) (by omega)
 have f1:Zb.Design (mkT mt (Yt) a k)=mkT mt (Z9) a.2.1 (k+(((Zfn (Z6) a.1):Nat):Int)):=by rfl
 have n1:¬(k+(((Zfn (Z6) a.1):Nat):Int)+(((Zfn (Z9) a.2.1):Nat):Int))<0:=by omega
 have e1:=Zki a.2.1 (k+(((Zfn (Z6) a.1):Nat):Int)) hs.2.1 (by omega) (by omega)
 have f2:Zb.Zy (mkT mt (Yt) a k)=mkL (mkA mt (YP)) (cnt (YP)) a.2.2.1 (k+(((Zfn (Z6) a.1):Nat):Int)+(((Zfn (Z9) a.2.1):Nat):Int)):=by rfl
 have n2:¬(k+(((Zfn (Z6) a.1):Nat):Int)+(((Zfn (Z9) a.2.1):Nat):Int)+(((cnt (.sl (YP)) a.2.2.1):Nat):Int))<0:=by omega
 have e2:=Zlb a.2.2.1 (k+(((Zfn (Z6) a.1):Nat):Int)+(((Zfn (Z9) a.2.1):Nat):Int)) hs.2.2.1 (by omega) (by omega)
 simp only [Option.bind_some,if_false,f0,n0,e0,f1,n1,e1,f2,n2,e2]
 refine congrArg some ?_
 omega
end Go.Proofs.YtfndhpjedmopdaaGreatDoor
/-
  Plain laws: edits: what an edit may mention, and when it is possible.
-/
namespace Go.Proofs.YtfndhpjedmopdaaGreatDoor
set_option linter.unusedVariables false
set_option linter.unusedSimpArgs false
open Go Go.Sx
theorem ZpQ {e:Zf} (h:sm Y9 e):sm .str (Zf.Name e)∧sm YP (Zf.Zfc e):=⟨h.2.2.2.2.2.1,h.2.2.2.2.2.2.1⟩
def ZiT (w:Zn):Prop:=Zn.Parent w=[]∧Zn.Res w=[]∧Zn.Cap w=[]∧Zn.ZfM w=[]
theorem Ztw (w:Zn) (hw:sm YP w):(some (Decidable.decide (IntKind.i64.wrap (IntKind.i64.wrap (IntKind.i64.wrap ((↑(List.length (Zn.Parent w)):Int)+(↑(List.length (Zn.Res w)):Int))+(↑(List.length (Zn.Cap w)):Int))+(↑(List.length (Zn.ZfM w)):Int))=(0:Int))):Option Bool)=some (tr (ZiT w)):=by
 obtain ⟨a1,a2,a3,a4⟩:=Zjs hw
 have s1:=Zm a1
 have s2:=Zm a2
 have s3:=Zm a3
 have s4:=Zm a4
 rw [Jd (n:=((Zn.Parent w).length:Int)+((Zn.Res w).length:Int)) (by omega) (by omega),Jd (n:=((Zn.Parent w).length:Int)+((Zn.Res w).length:Int)+((Zn.Cap w).length:Int)) (by omega) (by omega),Jd (by omega) (by omega)]
 refine ZdR ?_
 rw [decide_eq_true_eq]
 unfold ZiT
 rw [←List.length_eq_zero_iff,←List.length_eq_zero_iff,←List.length_eq_zero_iff,←List.length_eq_zero_iff]
 omega
def Blank (e:Zf):Prop :=
 (Zf.Kind e=1∧Zf.Net e=0∧Zf.Node e=0∧Zf.Name e=[]∧ZiT (Zf.Zfc e))∨
 (Zf.Kind e=2∧Zf.Net e=0∧Zf.Node e=0∧ZiT (Zf.Zfc e))∨
 (Zf.Kind e=3∧Zf.Place e=0∧Zf.Cell e=0∧Zf.Net e=0∧Zf.Node e=0∧Zf.Name e=[]∧ZiT (Zf.Zfc e))∨
 (Zf.Kind e=4∧Zf.Cell e=0∧Zf.Name e=[]∧ZiT (Zf.Zfc e))∨
 (Zf.Kind e=5∧Zf.Place e=0∧Zf.Cell e=0∧Zf.Node e=0∧Zf.Name e=[])
theorem ZlS (e:Zf) (he:sm Y9 e):ZcI e=some (tr (Blank e)):=by
 have hn:=Ztw (Zf.Zfc e) (ZpQ he).2
 unfold ZcI
 rw [hn]
 by_cases k1:Zf.Kind e=1
 ·rw [if_pos k1]
  refine Zaf (YG fun _=>YG fun _=>YG fun _=>rfl) ?_
  unfold Blank;grind
 rw [if_neg k1]
 by_cases k2:Zf.Kind e=2
 ·rw [if_pos k2]
  refine Zaf (YG fun _=>YG fun _=>rfl) ?_
  unfold Blank;grind
 rw [if_neg k2]
 by_cases k3:Zf.Kind e=3
 ·rw [if_pos k3]
  refine Zaf (YG fun _=>YG fun _=>YG fun _=>YG fun _=>YG fun _=>rfl) ?_
  unfold Blank;grind
 rw [if_neg k3]
 by_cases k4:Zf.Kind e=4
 ·rw [if_pos k4]
  refine Zaf (YG fun _=>YG fun _=>rfl) ?_
  unfold Blank;grind
 rw [if_neg k4]
 by_cases k5:Zf.Kind e=5
 ·rw [if_pos k5]
  refine Zaf (YG fun _=>YG fun _=>YG fun _=>ZdR decide_eq_true_iff) ?_
  unfold Blank;grind
 ·rw [if_neg k5]
  refine Zk9 ?_
  unfold Blank;grind
theorem Zcy (a b:List Int) (ha:a.length≤1048576):YA a b=some (tr (a=b)):=by
 unfold YA
 by_cases hl:(a.length:Int)=(b.length:Int)
 ·rw [if_pos hl,ZaU (l:=a) (show Len a by unfold Len;omega) (fun k x=>b[k]?=some x) (bad:=false) (good:=true)
   (fun k x hx hk _=>by
    have hy:b[k]?=some b[k]:=List.getElem?_eq_getElem (by omega)
    simp only [Y1,show (k:Int)<(a.length:Int) from by omega,if_true,Zr,hx,hy,Option.bind_some,Option.some.injEq]
    constructor
    ·intro hh;rw [if_pos hh.symm]
    ·intro hh;rw [if_neg (fun q=>hh q.symm)])
   (fun _=>by simp only [Y1,Int.lt_irrefl,if_false]),ZmW]
  congr 1
  refine Jq ⟨fun h=>?_,fun h=>by subst h;exact fun k x hx=>hx⟩
  apply List.ext_getElem?
  intro k
  by_cases hk:k<a.length
  ·rw [h k a[k] (List.getElem?_eq_getElem hk),List.getElem?_eq_getElem hk]
  ·rw [List.getElem?_eq_none (by omega),List.getElem?_eq_none (by omega)]
 ·rw [if_neg hl,Yr (fun h=>hl (by rw [h]))]
def ZqX (a b:Zn):Prop:=Zn.Parent a=Zn.Parent b∧Zn.Res a=Zn.Res b∧Zn.Cap a=Zn.Cap b∧Zn.ZfM a=Zn.ZfM b
theorem ZlI (a b:Zn) (ha:sm YP a):ZcB a b=some (tr (ZqX a b)):=by
 obtain ⟨a1,a2,a3,a4⟩:=Zjs ha
 have s1:=Zm a1
 have s2:=Zm a2
 have s3:=Zm a3
 have s4:=Zm a4
 unfold ZcB
 exact Xp (Zcy _ _ s1) fun _=>Xp (Zcy _ _ s2) fun _=>Xp (Zcy _ _ s3) fun _=>Zd5 (Zcy _ _ s4)
theorem ZbA (a b:Zf) (ha:sm Y9 a):Zbu a b=some (tr (Zf.Kind a=Zf.Kind b∧Zf.Place a=Zf.Place b∧Zf.Cell a=Zf.Cell b∧Zf.Net a=Zf.Net b∧Zf.Node a=Zf.Node b∧Zf.Name a=Zf.Name b∧ZqX (Zf.Zfc a) (Zf.Zfc b))):=by
 unfold Zbu
 exact YG fun _=>YG fun _=>YG fun _=>YG fun _=>YG fun _=>YG fun _=>Zd5 (ZlI _ _ (ZpQ ha).2)
theorem Zvg (e:Zf) (he:sm Y9 e):(Yo (Zf.Kind e) 1 5=some (tr (1≤Zf.Kind e∧Zf.Kind e≤5)))∧∃ o,ZcG e=some o∧Zbu e o=some (tr (Zf.Kind e<1∨5<Zf.Kind e∨Blank e))∨(¬(1≤Zf.Kind e∧Zf.Kind e≤5)):=by
 refine ⟨Zby _ _ _,?_⟩
 unfold ZcG
 by_cases k1:Zf.Kind e=1
 ·rw [if_pos k1]
  refine ⟨_,.inl ⟨rfl,?_⟩⟩
  refine Zaf (ZbA e _ he) ?_
  rw [show ZqX (Zf.Zfc e) (Zf.Zfc (Zf.Kind e,Zf.Place e,Zf.Cell e,(0:Int),(0:Int),([]:List UInt8),(([]:List Int),([]:List Int),([]:List Int),([]:List Int),()),()))↔ZiT (Zf.Zfc e) from Iff.rfl]
  unfold Blank
  simp only [k1]
  constructor
  ·rintro ⟨_,_,_,a,b,c,d⟩;exact .inr (.inr (.inl ⟨trivial,a,b,c,d⟩))
  ·intro h;grind
 rw [if_neg k1]
 by_cases k2:Zf.Kind e=2
 ·rw [if_pos k2]
  refine ⟨_,.inl ⟨rfl,?_⟩⟩
  refine Zaf (ZbA e _ he) ?_
  rw [show ZqX (Zf.Zfc e) (Zf.Zfc (Zf.Kind e,Zf.Place e,Zf.Cell e,(0:Int),(0:Int),Zf.Name e,(([]:List Int),([]:List Int),([]:List Int),([]:List Int),()),()))↔ZiT (Zf.Zfc e) from Iff.rfl]
  unfold Blank
  simp only [k2]
  constructor
  ·rintro ⟨_,_,_,a,b,c,d⟩;exact .inr (.inr (.inr (.inl ⟨trivial,a,b,d⟩)))
  ·intro h;grind
 rw [if_neg k2]
 by_cases k4:Zf.Kind e=4
 ·rw [if_pos k4]
  refine ⟨_,.inl ⟨rfl,?_⟩⟩
  refine Zaf (ZbA e _ he) ?_
  rw [show ZqX (Zf.Zfc e) (Zf.Zfc (Zf.Kind e,Zf.Place e,(0:Int),Zf.Net e,Zf.Node e,([]:List UInt8),(([]:List Int),([]:List Int),([]:List Int),([]:List Int),()),()))↔ZiT (Zf.Zfc e) from Iff.rfl]
  unfold Blank
  simp only [k4]
  constructor
  ·rintro ⟨_,_,a,_,_,c,d⟩;exact .inr (.inr (.inr (.inr (.inr (.inl ⟨trivial,a,c,d⟩)))))
  ·intro h;grind
 rw [if_neg k4]
 by_cases k5:Zf.Kind e=5
 ·rw [if_pos k5]
  refine ⟨_,.inl ⟨rfl,?_⟩⟩
  refine Zaf (ZbA e _ he) ?_
  rw [show ZqX (Zf.Zfc e) (Zf.Zfc (Zf.Kind e,(0:Int),(0:Int),Zf.Net e,(0:Int),([]:List UInt8),e.snd.snd.snd.snd.snd.snd))↔True from ⟨fun _=>trivial,fun _=>⟨rfl,rfl,rfl,rfl⟩⟩]
  unfold Blank
  simp only [k5]
  constructor
  ·rintro ⟨_,a,b,_,c,d,_⟩;exact .inr (.inr (.inr (.inr (.inr (.inr ⟨trivial,a,b,c,d⟩)))))
  ·intro h;grind
 rw [if_neg k5]
 by_cases k3:Zf.Kind e=3
 ·refine ⟨_,.inl ⟨rfl,?_⟩⟩
  refine Zaf (ZbA e _ he) ?_
  rw [show ZqX (Zf.Zfc e) (Zf.Zfc (Zf.Kind e,(0:Int),(0:Int),(0:Int),(0:Int),([]:List UInt8),(([]:List Int),([]:List Int),([]:List Int),([]:List Int),()),()))↔ZiT (Zf.Zfc e) from Iff.rfl]
  unfold Blank
  simp only [k3]
  constructor
  ·rintro ⟨_,a,b,c,d,f,g⟩;exact .inr (.inr (.inr (.inr (.inl ⟨trivial,a,b,c,d,f,g⟩))))
  ·intro h;grind
 ·exact ⟨e,.inr (by omega)⟩
end Go.Proofs.YtfndhpjedmopdaaGreatDoor
/-
  Plain laws: edits: range, possibility, code.
-/
namespace Go.Proofs.YtfndhpjedmopdaaGreatDoor
set_option linter.unusedVariables false
set_option linter.unusedSimpArgs false
open Go Go.Sx
def Zcf (b:Zb) (e:Zf):Prop :=
 ((Zf.Kind e=1∨Zf.Kind e=2)→(0≤Zf.Place e∧Zf.Place e≤((places (Zb.Design b)).length:Int)-1)∧(0≤Zf.Cell e∧Zf.Cell e≤((Zl.Cells (Zb.Library b)).length:Int)-1))∧
 (Zf.Kind e=4→(0≤Zf.Place e∧Zf.Place e≤((places (Zb.Design b)).length:Int)-1)∧ZbW (Zb.Design b) (Zf.Net e)∧∃ w,(Zb.Zy b)[(Zf.Net e).toNat]?=some w∧(0≤Zf.Node e∧Zf.Node e≤((Zn.Parent w).length:Int)-1))∧
 (Zf.Kind e=5→ZbW (Zb.Design b) (Zf.Net e))
theorem Zjh {b:Zb} (h:ZaW b) {n:Int} (hn:ZbW (Zb.Design b) n):∃ w,(Zb.Zy b)[n.toNat]?=some w∧atI (Zb.Zy b) n=some w∧Zb9 w ((sinks (Zb.Design b) n).length:Int):=by
 have hwn:=h.ok.2.1
 have hlt:n.toNat<(Zb.Zy b).length:=by have:=hn.1;have:=hn.2;omega
 have hw:=List.getElem?_eq_getElem hlt
 refine ⟨_,hw,VK hn.1 hw,?_⟩
 have this:Zb9 _ ((sinks (Zb.Design b) ((n.toNat:Nat):Int)).length:Int):=h.ok.2.2 n.toNat _ hw
 rwa [show ((n.toNat:Nat):Int)=n by have:=hn.1;omega] at this
theorem ZmA {b:Zb} (h:ZaW b):(Zl.Cells (Zb.Library b)).length≤1048576:=Zm (ZnN (Za5 h.sm).1)
theorem ZsX {b:Zb} (h:ZaW b) (e:Zf) {w:Zn} (hw:(Zb.Zy b)[(Zf.Net e).toNat]?=some w):IntKind.i64.wrap (((Zn.Parent w).length:Int)-1)=((Zn.Parent w).length:Int)-1:=by
 have:=h.ok.2.2 _ _ hw
 have h1:=this.1
 rw [Jd (by omega) (by omega)]
theorem ZlJ {b:Zb} (h:ZaW b) (e:Zf) (he:sm Y9 e):ZcD b e=some (tr (Zcf b e)):=by
 have hD:=h.ok.1
 have hf:=hD.few
 have hpl:=Qz hf
 have hc:=ZmA h
 have hwn:=h.ok.2.1
 have h30:=hD.2.1.2.1
 have e1:IntKind.i64.wrap (((places (Zb.Design b)).length:Int)-1)=((places (Zb.Design b)).length:Int)-1:=Jd (by omega) (by omega)
 have e2:IntKind.i64.wrap (((Zl.Cells (Zb.Library b)).length:Int)-1)=((Zl.Cells (Zb.Library b)).length:Int)-1:=Jd (by omega) (by omega)
 have e3:IntKind.i64.wrap (((Zb.Zy b).length:Int)-1)=((Za.ZP (Zb.Design b)).length:Int)-1:=by rw [Jd (by omega) (by omega)];omega
 have net:(Ye (Zf.Net e) 0 (((Za.ZP (Zb.Design b)).length:Int)-1))=some (tr (ZbW (Zb.Design b) (Zf.Net e))):=Zbs _ _ _
 unfold ZcD
 rw [Vs _ hf,Option.bind_some,e1,e2,e3]
 have pc:((Ye (Zf.Place e) 0 (((places (Zb.Design b)).length:Int)-1)).bind fun x=>if x=true then (Ye (Zf.Cell e) 0 (((Zl.Cells (Zb.Library b)).length:Int)-1)).bind fun y=>some y else some false) =
   some (tr ((0≤Zf.Place e∧Zf.Place e≤((places (Zb.Design b)).length:Int)-1)∧(0≤Zf.Cell e∧Zf.Cell e≤((Zl.Cells (Zb.Library b)).length:Int)-1))) :=
  Xp (Zbs _ _ _) fun _=>Zd5 (Zbs _ _ _)
 have mv:((Ye (Zf.Place e) 0 (((places (Zb.Design b)).length:Int)-1)).bind fun x=>if x=true then (Ye (Zf.Net e) 0 (((Za.ZP (Zb.Design b)).length:Int)-1)).bind fun y=>if y=true then
    (atI (Zb.Zy b) (Zf.Net e)).bind fun w=>(Ye (Zf.Node e) 0 (IntKind.i64.wrap (((Zn.Parent w).length:Int)-1))).bind fun z=>some z else some false else some false) =
   some (tr ((0≤Zf.Place e∧Zf.Place e≤((places (Zb.Design b)).length:Int)-1)∧ZbW (Zb.Design b) (Zf.Net e)∧∃ w,(Zb.Zy b)[(Zf.Net e).toNat]?=some w∧(0≤Zf.Node e∧Zf.Node e≤((Zn.Parent w).length:Int)-1))):=by
  refine Xp (Zbs _ _ _) fun _=>Xp net fun hn=>?_
  obtain ⟨w,hw,ha,_⟩:=Zjh h hn
  rw [ha,Option.bind_some,ZsX h e hw]
  refine Zaf (Zd5 (Zbs _ _ _)) ⟨fun q=>⟨w,hw,q⟩,fun ⟨w',hw',q⟩=>?_⟩
  rw [hw] at hw'
  injection hw' with hw'
  subst hw';exact q
 by_cases k1:Zf.Kind e=1
 ·rw [if_pos k1,if_pos k1]
  refine Zaf pc ?_
  unfold Zcf;grind
 rw [if_neg k1]
 by_cases k2:Zf.Kind e=2
 ·rw [if_pos k2]
  refine Zaf pc ?_
  unfold Zcf;grind
 rw [if_neg k2]
 by_cases k4:Zf.Kind e=4
 ·rw [if_pos k4]
  refine Zaf mv ?_
  unfold Zcf;grind
 rw [if_neg k4]
 by_cases k5:Zf.Kind e=5
 ·rw [if_pos k5]
  refine Zaf (Zd5 net) ?_
  unfold Zcf;grind
 ·rw [if_neg k5]
  refine (ZdR (P:=Zcf b e) ⟨fun _=>?_,fun _=>rfl⟩)
  unfold Zcf;grind
theorem Zla {b:Zb} (h:ZaW b) (e:Zf) (he:sm Y9 e):Vt e b=some (tr (Blank e∧Zcf b e)):=by
 have hD:=h.ok.1
 have hf:=hD.few
 have hpl:=Qz hf
 have hc:=ZmA h
 have hsd:=(Za5 h.sm).2.1
 have e1:IntKind.i64.wrap (((places (Zb.Design b)).length:Int)-1)=((places (Zb.Design b)).length:Int)-1:=Jd (by omega) (by omega)
 have e2:IntKind.i64.wrap (((Zl.Cells (Zb.Library b)).length:Int)-1)=((Zl.Cells (Zb.Library b)).length:Int)-1:=Jd (by omega) (by omega)
 obtain ⟨hw,o,ho⟩:=Zvg e he
 unfold Vt
 rw [hw,Option.bind_some]
 by_cases hk:1≤Zf.Kind e∧Zf.Kind e≤5
 ·rw [if_pos (YS hk)]
  rcases ho with ⟨ho1,ho2⟩ | ho
  ·rw [ho1,Option.bind_some,ho2,Option.bind_some]
   by_cases hB:Blank e
   ·rw [if_pos (YS (.inr (.inr hB))),Yn _ hf,Option.bind_some,show Vn (places (Zb.Design b))=some ((places (Zb.Design b)).length:Int) from rfl,Option.bind_some,e1,Zby,Option.bind_some,
     show Y6 (Zl.Cells (Zb.Library b))=some ((Zl.Cells (Zb.Library b)).length:Int) from rfl]
    simp only [Option.bind_some,e2]
    have net:=ZcN (Zb.Design b) (Zf.Net e) hsd
    have pc:(if tr (0≤Zf.Place e∧Zf.Place e≤((places (Zb.Design b)).length:Int)-1)=true then (Yo (Zf.Cell e) 0 (((Zl.Cells (Zb.Library b)).length:Int)-1)).bind fun y=>some y else some false) =
      some (tr ((0≤Zf.Place e∧Zf.Place e≤((places (Zb.Design b)).length:Int)-1)∧(0≤Zf.Cell e∧Zf.Cell e≤((Zl.Cells (Zb.Library b)).length:Int)-1))) :=
     Zwv (Zd5 (Zby _ _ _))
    by_cases k1:Zf.Kind e=1
    ·rw [if_pos k1,if_pos k1]
     refine Zaf pc ?_
     unfold Zcf;grind
    rw [if_neg k1]
    by_cases k2:Zf.Kind e=2
    ·rw [if_pos k2]
     refine Zaf pc ?_
     unfold Zcf;grind
    rw [if_neg k2]
    by_cases k4:Zf.Kind e=4
    ·rw [if_pos k4]
     have mv:(if tr (0≤Zf.Place e∧Zf.Place e≤((places (Zb.Design b)).length:Int)-1)=true then (YE (Zb.Design b) (Zf.Net e)).bind fun y=>if y=true then
        (atI (Zb.Zy b) (Zf.Net e)).bind fun w=>(YK (Zn.Parent w)).bind fun n=>(Yo (Zf.Node e) 0 (IntKind.i64.wrap (n-1))).bind fun z=>some z else some false else some false) =
       some (tr ((0≤Zf.Place e∧Zf.Place e≤((places (Zb.Design b)).length:Int)-1)∧ZbW (Zb.Design b) (Zf.Net e)∧∃ w,(Zb.Zy b)[(Zf.Net e).toNat]?=some w∧(0≤Zf.Node e∧Zf.Node e≤((Zn.Parent w).length:Int)-1))):=by
      by_cases hp:0≤Zf.Place e∧Zf.Place e≤((places (Zb.Design b)).length:Int)-1
      ·rw [if_pos (YS hp)]
       refine Zaf (Xp net fun hn=>?_) (P:=ZbW (Zb.Design b) (Zf.Net e)∧∃ w,(Zb.Zy b)[(Zf.Net e).toNat]?=some w∧(0≤Zf.Node e∧Zf.Node e≤((Zn.Parent w).length:Int)-1)) ⟨fun q=>⟨hp,q⟩,fun q=>q.2⟩
       obtain ⟨w,hw,ha,_⟩:=Zjh h hn
       rw [ha,Option.bind_some,ZaT,Option.bind_some,ZsX h e hw]
       refine Zaf (Zd5 (Zby _ _ _)) ⟨fun q=>⟨w,hw,q⟩,fun ⟨w',hw',q⟩=>?_⟩
       rw [hw] at hw'
       injection hw' with hw'
       subst hw';exact q
      ·rw [if_neg (fun q=>hp ((VE _).1 q)),Yr (fun q=>hp q.1)]
     refine Zaf mv ?_
     unfold Zcf;grind
    rw [if_neg k4]
    by_cases k5:Zf.Kind e=5
    ·rw [if_pos k5]
     refine Zaf (Zd5 net) ?_
     unfold Zcf;grind
    ·rw [if_neg k5]
     refine (ZdR (P:=Blank e∧Zcf b e) ⟨fun _=>⟨hB,?_⟩,fun _=>rfl⟩)
     unfold Zcf;grind
   ·rw [if_neg (fun q=>by rcases (VE _).1 q with q | q | q<;>first | omega | exact hB q),Yr (fun q=>hB q.1)]
  ·exact absurd hk ho
 ·rw [if_neg (fun q=>hk ((VE _).1 q)),Yr (fun q=>?_)]
  have:=q.1
  unfold Blank at this
  omega
theorem Zt4 (a b:Zh) (ha:sm YL a):Zcq a b=VF a b∧∃ r,VF a b=some r:=by
 have s1:(Zh.YC a).length≤1048576:=by have:=(ZtK ha).pins.1;omega
 unfold Zcq VF ZE
 by_cases k:Zh.Kind a=Zh.Kind b
 ·rw [if_pos k,if_pos k]
  by_cases hl:((Zh.YC a).length:Int)=((Zh.YC b).length:Int)
  ·rw [if_pos hl,if_pos hl]
   rw [ZaU (l:=Zh.YC a) (show Len _ by unfold Len;omega) (fun k x=>∀ y,(Zh.YC b)[k]?=some y→(Yv.Clock x == Yv.Clock y)=true) (bad:=false) (good:=true)
    (step:=fun v=>Zv (Zh.YC a) (Zh.YC b) v.1)
    (fun k x hx hk _=>by
     have hy:(Zh.YC b)[k]?=some (Zh.YC b)[k]:=List.getElem?_eq_getElem (by omega)
     simp only [Zv,Zbz,show (k:Int)<((Zh.YC a).length:Int) from by omega,if_true,Zr,hx,hy,Option.bind_some,Option.some.injEq,forall_eq']
     constructor
     ·intro hh;rw [if_pos hh]
     ·intro hh;rw [if_neg hh])
    (fun _=>by simp only [Zv,Int.lt_irrefl,if_false]),
    ZaU (l:=Zh.YC a) (show Len _ by unfold Len;omega) (fun k x=>∀ y,(Zh.YC b)[k]?=some y→(Yv.Clock x == Yv.Clock y)=true) (bad:=false) (good:=true)
    (step:=fun v=>VD a b v.1)
    (fun k x hx hk _=>by
     have hy:(Zh.YC b)[k]?=some (Zh.YC b)[k]:=List.getElem?_eq_getElem (by omega)
     simp only [VD,show (k:Int)<((Zh.YC a).length:Int) from by omega,if_true,Zr,hx,hy,Option.bind_some,Option.some.injEq,forall_eq']
     constructor
     ·intro hh;rw [if_pos hh]
     ·intro hh;rw [if_neg hh])
    (fun _=>by simp only [VD,Int.lt_irrefl,if_false])]
   exact ⟨rfl,_,rfl⟩
  ·rw [if_neg hl,if_neg hl]
   exact ⟨rfl,_,rfl⟩
 ·rw [if_neg k,if_neg k]
  exact ⟨rfl,_,rfl⟩
theorem Zlu (d:Za) (s:List UInt8) (hd:sm Z9 d):VX d s=some (Zbx (fun x=>decide (Zd.Name x=s)) (Za.Instances d))∧VZ d s=some (Zbx (fun x=>decide (Zd.Name x=s)) (Za.Instances d)):=by
 have hl:=XJ (Zb2 hd).1
 constructor
 ·unfold VX
  rw [XD hl (fun x=>decide (Zd.Name x=s)) (fun x _=>rfl),Option.bind_some]
 ·unfold VZ
  refine Za0 hl (out:=fun i=>i) (fun k x hx=>?_) ?_
  ·have hk:=(List.getElem?_eq_some_iff.1 hx).1
   simp only [QB,show (k:Int)<((Za.Instances d).length:Int) from by omega,if_true,Zr,hx,Option.bind_some,decide_eq_true_eq]
   split<;>rfl
  ·simp only [QB,Int.lt_irrefl,if_false]
theorem ZmY (d:Za) (s:List UInt8) (hd:sm Z9 d):Vd d s=some (Zbx (fun x=>decide (s=x)) (Za.ZP d))∧Zco d s=some (Zbx (fun x=>decide (s=x)) (Za.ZP d)):=by
 have hl:=XJ (Zb2 hd).2.2
 constructor
 ·unfold Vd
  rw [ZeX hl,Option.bind_some]
 ·unfold Zco ZdH
  rw [Za0 hl (p:=fun x=>decide (s=x)) (out:=fun i=>i) (fun k x hx=>by
   have hk:=(List.getElem?_eq_some_iff.1 hx).1
   simp only [JQ,show (k:Int)<((Za.ZP d).length:Int) from by omega,if_true,Zr,hx,Option.bind_some,decide_eq_true_eq]
   by_cases hq:s=x
   ·rw [if_pos hq,if_pos hq.symm]
   ·rw [if_neg hq,if_neg (fun q=>hq q.symm)]) (by simp only [JQ,Int.lt_irrefl,if_false]),Option.bind_some]
end Go.Proofs.YtfndhpjedmopdaaGreatDoor
/-
  Plain laws: edits: what is possible, the code of an edit, places after one.
-/
namespace Go.Proofs.YtfndhpjedmopdaaGreatDoor
set_option linter.unusedVariables false
set_option linter.unusedSimpArgs false
open Go Go.Sx
def ZjE (b:Zb):Prop:=∃ (x:Zd) (c:Zh) (w:Zn) (m:Int),
 0<(Za.Instances (Zb.Design b)).length∧(Za.Instances (Zb.Design b))[(Za.Instances (Zb.Design b)).length-1]?=some x∧
 (Zl.Cells (Zb.Library b))[(Zd.Cell x).toNat]?=some c∧Zh.Kind c=1∧(Zh.YC c).length=2∧
 (Zd.ZP x).length=2∧atI (Zd.ZP x) 0=some m∧atI (Zd.ZP x) 1=some (((Za.ZP (Zb.Design b)).length:Int)-1)∧m≠((Za.ZP (Zb.Design b)).length:Int)-1∧
 atI (Za.ZP (Zb.Design b)) (((Za.ZP (Zb.Design b)).length:Int)-1)=some (Zd.Name x)∧
 atI (Zb.Zy b) (((Za.ZP (Zb.Design b)).length:Int)-1)=some w∧(Zn.ZfM w).length=1∧(sinks (Zb.Design b) (((Za.ZP (Zb.Design b)).length:Int)-1)).length=1∧(Zn.Parent w).length=1∧atI (Zn.Cap w) 0=some 0
theorem Zug {b:Zb} (h:ZaW b):∃ r,X5 b=some r∧Zdr b=some r∧
  (r=true→ZjE b):=by
 have hD:=h.ok.1
 have hf:=hD.few
 have h14:=hf.insts
 have h30:=hD.2.1.2.1
 have hwn:=h.ok.2.1
 unfold X5 Zdr
 by_cases hn:((Za.Instances (Zb.Design b)).length:Int)=0
 ·rw [if_pos hn,hn,Jd (by omega) (by omega),if_pos (by omega)]
  exact ⟨false,rfl,rfl,fun h=>by cases h⟩
 rw [if_neg hn,Jd (n:=((Za.Instances (Zb.Design b)).length:Int)-1) (by omega) (by omega),if_neg (by omega)]
 have hlt:(Za.Instances (Zb.Design b)).length-1<(Za.Instances (Zb.Design b)).length:=by omega
 have hx:=List.getElem?_eq_getElem hlt
 generalize (Za.Instances (Zb.Design b))[(Za.Instances (Zb.Design b)).length-1]=x at hx
 have hx2:atI (Za.Instances (Zb.Design b)) (((Za.Instances (Zb.Design b)).length:Int)-1)=some x:=VK (by omega) (by rw [←hx];congr 1;omega)
 obtain ⟨⟨c0,c1⟩,⟨c,hc,hnp⟩,hnet⟩:=hD.2.2.1 x (List.mem_of_getElem? hx)
 have hc2:atI (Zl.Cells (Zb.Library b)) (Zd.Cell x)=some c:=VK c0 hc
 rw [hx2]
 simp only [Option.bind_some,hc2,show YR (Za.ZP (Zb.Design b))=some ((Za.ZP (Zb.Design b)).length:Int) from rfl]
 rw [show ZaL c=QN c from rfl]
 have hbuf:QN c=some (tr (Zh.Kind c=1∧(Zh.YC c).length=2)):=by
  unfold QN
  refine Zaf (YG fun _=>ZdR decide_eq_true_iff) ?_
  omega
 rw [hbuf,Option.bind_some,Option.bind_some]
 by_cases hb:Zh.Kind c=1∧(Zh.YC c).length=2
 ·rw [if_pos (YS hb),if_pos (YS hb)]
  have hl2:(Zd.ZP x).length=2:=by rw [hnp];exact hb.2
  have n0:atI (Zd.ZP x) 0=some ((Zd.ZP x)[0]'(by omega)):=List.getElem?_eq_getElem (by omega)
  have n1:atI (Zd.ZP x) 1=some ((Zd.ZP x)[1]'(by omega)):=List.getElem?_eq_getElem (by omega)
  have hn1:=hnet ((Zd.ZP x)[1]'(by omega)) (List.getElem_mem _)
  have hpos:1≤(Za.ZP (Zb.Design b)).length:=by have:=hn1.1;have:=hn1.2;omega
  generalize (Zd.ZP x)[1]'(by omega)=m1 at n1 hn1
  generalize (Zd.ZP x)[0]'(by omega)=m0 at n0
  have eL:IntKind.i64.wrap (((Za.ZP (Zb.Design b)).length:Int)-1)=((Za.ZP (Zb.Design b)).length:Int)-1:=Jd (by omega) (by omega)
  have eW:IntKind.i64.wrap (((Zb.Zy b).length:Int)-1)=((Za.ZP (Zb.Design b)).length:Int)-1:=by rw [Jd (by omega) (by omega)];omega
  have hL:ZbW (Zb.Design b) (((Za.ZP (Zb.Design b)).length:Int)-1):=⟨by omega,by omega⟩
  obtain ⟨w,hw1,hw2,hw3⟩:=Zjh h hL
  have nL:atI (Za.ZP (Zb.Design b)) (((Za.ZP (Zb.Design b)).length:Int)-1)=some ((Za.ZP (Zb.Design b))[(Za.ZP (Zb.Design b)).length-1]'(by omega)):=VK (by omega) (by
   rw [List.getElem?_eq_getElem (by omega)]
   congr 2
   omega)
  generalize (Za.ZP (Zb.Design b))[(Za.ZP (Zb.Design b)).length-1]'(by omega)=nm at nL
  have hcap:atI (Zn.Cap w) 0=some ((Zn.Cap w)[0]'(by have:=hw3.1;have:=hw3.2.2.1;omega)):=List.getElem?_eq_getElem (by have:=hw3.1;have:=hw3.2.2.1;omega)
  generalize (Zn.Cap w)[0]'(by have:=hw3.1;have:=hw3.2.2.1;omega)=cp at hcap
  have hsk:=hw3.2.2.2.1
  simp only [eL,eW,n0,n1,nL,hw2,Option.bind_some,Zar _ _ hf,ZeV,hcap]
  rw [←hsk]
  by_cases q1:m1=((Za.ZP (Zb.Design b)).length:Int)-1
  ·rw [if_pos q1,if_pos q1]
   by_cases q2:m0=((Za.ZP (Zb.Design b)).length:Int)-1
   ·rw [if_pos q2]
    by_cases q3:nm=Zd.Name x
    ·rw [if_pos q3]
     simp only [if_pos q2]
     exact ⟨_,rfl,rfl,fun q=>by cases q⟩
    ·rw [if_neg q3]
     exact ⟨_,rfl,rfl,fun q=>by cases q⟩
   ·rw [if_neg q2]
    by_cases q3:nm=Zd.Name x
    ·rw [if_pos q3,if_pos q3]
     simp only [if_neg q2]
     by_cases q4:((Zn.ZfM w).length:Int)=1
     ·rw [if_pos q4,if_pos q4]
      by_cases q5:((Zn.Parent w).length:Int)=1
      ·simp only [if_pos q5]
       refine ⟨_,rfl,rfl,fun q=>?_⟩
       have q6:=of_decide_eq_true q
       subst q1 q6
       exact ⟨x,c,w,m0,by omega,hx,hc,hb.1,hb.2,hl2,n0,n1,q2,by rw [nL,q3],hw2,by omega,by omega,by omega,hcap⟩
      ·simp only [if_neg q5]
       exact ⟨_,rfl,rfl,fun q=>by cases q⟩
     ·rw [if_neg q4,if_neg q4]
      exact ⟨_,rfl,rfl,fun q=>by cases q⟩
    ·rw [if_neg q3,if_neg q3]
     exact ⟨_,rfl,rfl,fun q=>by cases q⟩
  ·rw [if_neg q1,if_neg q1]
   exact ⟨_,rfl,rfl,fun q=>by cases q⟩
 ·rw [if_neg (fun q=>hb ((VE _).1 q)),if_neg (fun q=>hb ((VE _).1 q))]
  exact ⟨false,rfl,rfl,fun h=>by cases h⟩
theorem Zqu {b:Zb} (h:ZaW b) {i:Int} (h0:0≤i) (h1:i≤((Zl.Cells (Zb.Library b)).length:Int)-1):∃ c,atI (Zl.Cells (Zb.Library b)) i=some c∧sm YL c:=by
 have hlt:i.toNat<(Zl.Cells (Zb.Library b)).length:=by omega
 have hc:=List.getElem?_eq_getElem hlt
 exact ⟨_,VK h0 hc,Zag (ZnN (Za5 h.sm).1) hc⟩
theorem ZoR {b:Zb} (h:ZaW b) {i:Int} (h0:0≤i) (h1:i≤((places (Zb.Design b)).length:Int)-1):∃ p,atI (places (Zb.Design b)) i=some p∧p∈places (Zb.Design b):=by
 have hlt:i.toNat<(places (Zb.Design b)).length:=by omega
 have hc:=List.getElem?_eq_getElem hlt
 exact ⟨_,VK h0 hc,List.getElem_mem _⟩
theorem Zr7 {d:Za} {p:Pl} (hp:p∈places d) (h0:0≤p.1):∃ x,(Za.Instances d)[p.1.toNat]?=some x∧x∈Za.Instances d:=by
 unfold places at hp
 rcases List.mem_append.1 hp with hp | hp
 ·obtain ⟨i,z,hi,hz⟩:=ZhY.1 hp
  unfold QH at hz
  obtain ⟨j,n,hj,hn⟩:=ZhY.1 hz
  simp only [List.mem_singleton] at hn
  subst hn
  refine ⟨z,?_,List.mem_of_getElem? hi⟩
  show (Za.Instances d)[(((0+i:Nat):Int)).toNat]?=some z
  rw [show (((0+i:Nat):Int)).toNat=i by omega]
  exact hi
 ·obtain ⟨j,q,hj,hq⟩:=ZhY.1 hp
  simp only [Ze0,List.mem_singleton] at hq
  subst hq
  have h0:(0:Int)≤-1:=h0
  omega
theorem ZjE.two {b:Zb} (h:ZjE b):0<(Za.Instances (Zb.Design b)).length∧∃ x,(Za.Instances (Zb.Design b))[(Za.Instances (Zb.Design b)).length-1]?=some x∧(Zd.ZP x).length=2:=by
 obtain ⟨x,c,w,m,h1,h2,_,_,_,h3,_⟩:=h
 exact ⟨h1,x,h2,h3⟩
def Zfr (b:Zb) (e:Zf) (p:Pl):Prop:=0≤Zf.Place e∧(places (Zb.Design b))[(Zf.Place e).toNat]?=some p
theorem Zot {b:Zb} {e:Zf} {p:Pl} (h0:0≤Zf.Place e) (hp:atI (places (Zb.Design b)) (Zf.Place e)=some p):Zfr b e p:=by
 refine ⟨h0,?_⟩
 rw [show Zf.Place e=(((Zf.Place e).toNat:Nat):Int) by omega,Zr] at hp
 exact hp
theorem Zfr.mem {b:Zb} {e:Zf} {p:Pl} (h:Zfr b e p):p∈places (Zb.Design b):=List.mem_of_getElem? h.2
theorem Zfr.at {b:Zb} {e:Zf} {p:Pl} (h:Zfr b e p):atI (places (Zb.Design b)) (Zf.Place e)=some p:=VK h.1 h.2
def Zvn (b:Zb) (e:Zf):Prop :=
 (Zf.Kind e=1→∃ (p:Pl) (x:Zd) (c c2:Zh),Zfr b e p∧0≤p.1∧p.2.2.2.1=true∧atI (Za.Instances (Zb.Design b)) p.1=some x∧atI (Zl.Cells (Zb.Library b)) (Zd.Cell x)=some c∧atI (Zl.Cells (Zb.Library b)) (Zf.Cell e)=some c2∧VF c c2=some true)∧
 (Zf.Kind e=2→∃ (p:Pl) (c:Zh),Zfr b e p∧p.2.2.2.1=false∧atI (Zl.Cells (Zb.Library b)) (Zf.Cell e)=some c∧Zh.Kind c=1∧(Zh.YC c).length=2∧Zbf (Zf.Name e)=true∧
  Zbx (fun x=>decide (Zd.Name x=Zf.Name e)) (Za.Instances (Zb.Design b))<0∧Zbx (fun x=>decide (Zf.Name e=x)) (Za.ZP (Zb.Design b))<0)∧
 (Zf.Kind e=3→ZjE b)∧
 (Zf.Kind e=4→∃ p:Pl,Zfr b e p∧p.2.2.2.1=false∧p.2.2.1≠Zf.Net e)∧
 (Zf.Kind e=5→Zb9 (Zf.Zfc e) ((sinks (Zb.Design b) (Zf.Net e)).length:Int))
theorem Zqq {b:Zb} (h:ZaW b) (e:Zf) (he:sm Y9 e) (hB:Blank e) (hR:Zcf b e):∃ r,Q9 e b=some r∧ZcE b e=some r∧
  (r=true→Zvn b e):=by
 have hD:=h.ok.1
 have hf:=hD.few
 have hsd:=(Za5 h.sm).2.1
 obtain ⟨he1,he2⟩:=ZpQ he
 unfold Q9 ZcE
 rw [Yn _ hf,Vs _ hf,Option.bind_some,Option.bind_some]
 by_cases k1:Zf.Kind e=1
 ·rw [if_pos k1,if_pos k1]
  obtain ⟨⟨p0,p1⟩,c0,c1⟩:=hR.1 (.inl k1)
  obtain ⟨p,hp,hpm⟩:=ZoR h p0 p1
  obtain ⟨c2,hc2,hc2s⟩:=Zqu h c0 c1
  rw [hp]
  simp only [Option.bind_some,hc2]
  by_cases q1:(0:Int)≤p.1
  ·rw [if_pos q1,if_pos q1]
   by_cases q2:p.2.2.2.1=true
   ·rw [if_pos q2,if_pos q2]
    obtain ⟨x,hx,hxm⟩:=Zr7 hpm q1
    have hx2:atI (Za.Instances (Zb.Design b)) p.1=some x:=VK q1 hx
    obtain ⟨⟨d0,d1⟩,_,_⟩:=hD.2.2.1 x hxm
    obtain ⟨c,hc,hcs⟩:=Zqu h d0 d1
    obtain ⟨a1,r,a2⟩:=Zt4 c c2 hcs
    have e1:Yd.instance p=p.1:=rfl
    have e2:Ya.instance p=p.1:=rfl
    simp only [e1,e2,hx2,Option.bind_some,hc,a1,a2]
    exact ⟨r,rfl,rfl,fun q=>⟨fun _=>⟨p,x,c,c2,Zot p0 hp,q1,q2,hx2,hc,hc2,by rw [a2,q]⟩,fun k=>by omega,fun k=>by omega,fun k=>by omega,fun k=>by omega⟩⟩
   ·rw [if_neg q2,if_neg q2]
    exact ⟨_,rfl,rfl,fun q=>by cases q⟩
  ·rw [if_neg q1,if_neg q1]
   exact ⟨_,rfl,rfl,fun q=>by cases q⟩
 rw [if_neg k1,if_neg k1]
 by_cases k2:Zf.Kind e=2
 ·rw [if_pos k2,if_pos k2]
  obtain ⟨⟨p0,p1⟩,c0,c1⟩:=hR.1 (.inr k2)
  obtain ⟨p,hp,hpm⟩:=ZoR h p0 p1
  obtain ⟨c2,hc2,hc2s⟩:=Zqu h c0 c1
  have hbuf:QN c2=some (tr (Zh.Kind c2=1∧(Zh.YC c2).length=2)):=by
   unfold QN
   refine Zaf (YG fun _=>ZdR decide_eq_true_iff) ?_
   omega
  have hlN:(Zf.Name e).length≤4611686018427387904:=by have:((Zf.Name e).length:Int)≤1048576:=he1;omega
  rw [hp]
  simp only [Option.bind_some,hc2,show ZaL c2=QN c2 from rfl,hbuf,Zf3,ZdJ _ hlN,(Zlu _ (Zf.Name e) hsd).1,(Zlu _ (Zf.Name e) hsd).2,(ZmY _ (Zf.Name e) hsd).1,(ZmY _ (Zf.Name e) hsd).2]
  have e1:Yd.drives p=p.2.2.2.1:=rfl
  have e2:Ya.drives p=p.2.2.2.1:=rfl
  rw [e1,e2]
  by_cases q2:p.2.2.2.1=true
  ·simp only [if_pos q2]
   exact ⟨_,rfl,rfl,fun q=>by cases q⟩
  simp only [if_neg q2]
  by_cases q3:tr (Zh.Kind c2=1∧(Zh.YC c2).length=2)=true
  ·simp only [if_pos q3]
   by_cases q4:Zbf (Zf.Name e)=true
   ·simp only [if_pos q4]
    split
    ·rename_i q5
     refine ⟨_,rfl,rfl,fun q=>⟨fun k=>by omega,fun _=>⟨p,c2,Zot p0 hp,by simpa using q2,hc2,((VE _).1 q3).1,((VE _).1 q3).2,q4,q5,of_decide_eq_true q⟩,fun k=>by omega,fun k=>by omega,fun k=>by omega⟩⟩
    ·exact ⟨_,rfl,rfl,fun q=>by cases q⟩
   ·simp only [if_neg q4]
    exact ⟨_,rfl,rfl,fun q=>by cases q⟩
  ·simp only [if_neg q3]
   exact ⟨_,rfl,rfl,fun q=>by cases q⟩
 rw [if_neg k2,if_neg k2]
 by_cases k3:Zf.Kind e=3
 ·rw [if_pos k3,if_pos k3]
  obtain ⟨r,a,c,d⟩:=Zug h
  rw [a,c]
  exact ⟨r,rfl,rfl,fun q=>⟨fun k=>by omega,fun k=>by omega,fun _=>d q,fun k=>by omega,fun k=>by omega⟩⟩
 rw [if_neg k3,if_neg k3]
 by_cases k4:Zf.Kind e=4
 ·rw [if_pos k4,if_pos k4]
  obtain ⟨⟨p0,p1⟩,_⟩:=hR.2.1 k4
  obtain ⟨p,hp,hpm⟩:=ZoR h p0 p1
  rw [hp]
  simp only [Option.bind_some]
  have e1:Yd.drives p=p.2.2.2.1:=rfl
  have e2:Ya.drives p=p.2.2.2.1:=rfl
  rw [e1,e2]
  by_cases q2:p.2.2.2.1=true
  ·simp only [if_pos q2]
   exact ⟨_,rfl,rfl,fun q=>by cases q⟩
  ·simp only [if_neg q2]
   refine ⟨_,rfl,rfl,fun q=>⟨fun k=>by omega,fun k=>by omega,fun k=>by omega,fun _=>⟨p,Zot p0 hp,by simpa using q2,by simp only [Bool.not_eq_true',decide_eq_false_iff_not] at q;exact q⟩,fun k=>by omega⟩⟩
 rw [if_neg k4,if_neg k4]
 have k5:Zf.Kind e=5:=by unfold Blank at hB;omega
 obtain ⟨w,hw1,hw2,hw3⟩:=Zjh h (hR.2.2 k5)
 rw [hw2,Zar _ _ hf]
 simp only [Option.bind_some,ZaT,ZiL _ _ he2,ZiO _ _ he2,hw3.2.2.2.1]
 exact ⟨_,rfl,rfl,fun q=>⟨fun k=>by omega,fun k=>by omega,fun k=>by omega,fun k=>by omega,fun _=>(VE _).1 q⟩⟩
structure Zpd (b:Zb) (e:Zf):Prop where
 blk:ZaW b
 blank:Blank e
 range:Zcf b e
 poss:Zvn b e
 lim:Zf.Kind e=2→(Za.Instances (Zb.Design b)).length≤13∧(Za.ZP (Zb.Design b)).length≤29
theorem Zpd.last {b:Zb} {e:Zf} (h:Zpd b e) (k3:Zf.Kind e=3):0<(Za.Instances (Zb.Design b)).length∧∃ x,(Za.Instances (Zb.Design b))[(Za.Instances (Zb.Design b)).length-1]?=some x∧(Zd.ZP x).length=2:=(h.poss.2.2.1 k3).two
theorem ZpN {b:Zb} (h:ZaW b) (e:Zf) (he:sm Y9 e):∃ c,ZaQ e b=some c∧Zcu b e=some c∧(c=0→Zpd b e):=by
 have hB:=h.ok
 unfold Zcu ZaQ
 rw [Zg7 b h.sm,Option.bind_some,if_pos (YS hB)]
 ·have hwn:=hB.2.1
  rw [Zla h e he,ZlS e he,ZlJ h e he]
  simp only [Option.bind_some]
  by_cases h1:Blank e
  ·rw [if_pos (YS h1)]
   by_cases h2:Zcf b e
   ·rw [if_pos (YS ⟨h1,h2⟩),if_pos (YS h2)]
    obtain ⟨r,a,c,d⟩:=Zqq h e he h1 h2
    rw [a,c]
    simp only [Option.bind_some]
    by_cases hr:r=true
    ·rw [if_pos hr,if_pos hr]
     have h14:=hB.1.few.insts
     have h30:=hB.1.2.1.2.1
     by_cases k2:Zf.Kind e=2
     ·rw [if_pos k2,if_pos k2]
      by_cases q1:((Za.Instances (Zb.Design b)).length:Int)=14
      ·rw [if_pos q1,if_pos q1]
       exact ⟨_,rfl,rfl,fun q=>by cases q⟩
      ·rw [if_neg q1,if_neg q1]
       by_cases q2:((Za.ZP (Zb.Design b)).length:Int)=30
       ·rw [if_pos q2,if_pos (by omega)]
        exact ⟨_,rfl,rfl,fun q=>by cases q⟩
       ·rw [if_neg q2,if_neg (by omega)]
        exact ⟨_,rfl,rfl,fun _=>⟨h,h1,h2,d hr,fun _=>⟨by omega,by omega⟩⟩⟩
     ·rw [if_neg k2,if_neg k2]
      exact ⟨_,rfl,rfl,fun _=>⟨h,h1,h2,d hr,fun k=>absurd k k2⟩⟩
    ·rw [if_neg hr,if_neg hr]
     exact ⟨_,rfl,rfl,fun q=>by cases q⟩
   ·rw [if_neg (fun q=>h2 ((VE _).1 q).2),if_neg (fun q=>h2 ((VE _).1 q))]
    exact ⟨_,rfl,rfl,fun q=>by cases q⟩
  ·rw [if_neg (fun q=>h1 ((VE _).1 q).1),if_neg (fun q=>h1 ((VE _).1 q))]
   exact ⟨_,rfl,rfl,fun q=>by cases q⟩
end Go.Proofs.YtfndhpjedmopdaaGreatDoor
/-
  Plain laws: places, one by one; a place put on another net; an instance more, an instance less.
-/
namespace Go.Proofs.YtfndhpjedmopdaaGreatDoor
set_option linter.unusedVariables false
set_option linter.unusedSimpArgs false
open Go Go.Sx
theorem Zb5 {α β:Type} {g:Nat→α→β}:∀ (l:List α) (m j:Nat),(cat (fun j n=>[g j n]) m l)[j]?=(l[j]?).map (g (m+j))
 | [],m,j=>by simp [cat]
 | x::r,m,0=>by simp [cat]
 | x::r,m,j+1=>by
  simp only [cat,List.singleton_append,List.getElem?_cons_succ,Zb5 r]
  rw [show m+1+j=m+(j+1) by omega]
theorem ZaR {α β:Type} {g:Nat→α→β}:∀ (l:List α) (m:Nat),(cat (fun j n=>[g j n]) m l).length=l.length
 | [],m=>rfl
 | x::r,m=>by simp only [cat,List.singleton_append,List.length_cons,ZaR r]
theorem Zje {α β:Type} {g:Nat→α→β} (y:α):∀ (l:List α) (m j:Nat),cat (fun j n=>[g j n]) m (l.set j y)=(cat (fun j n=>[g j n]) m l).set j (g (m+j) y)
 | [],m,j=>by simp [cat]
 | x::r,m,0=>by simp [cat]
 | x::r,m,j+1=>by
  simp only [cat,List.singleton_append,List.set_cons_succ,Zje y r]
  rw [show m+1+j=m+(j+1) by omega]
theorem ZfF {α β:Type} (f:Nat→α→List β) {l:List α} {i:Nat} {x:α} (hx:l[i]?=some x):cat f 0 l=cat f 0 (l.take i)++(f i x++cat f (i+1) (l.drop (i+1))):=by
 have hi:=(List.getElem?_eq_some_iff.1 hx).1
 have e:l=l.take i++(x::l.drop (i+1)):=by
  have hd:l.drop i=x::l.drop (i+1):=by
   rw [List.drop_eq_getElem_cons hi];congr 1;exact (List.getElem?_eq_some_iff.1 hx).2
  rw [←hd,List.take_append_drop]
 have e2:=congrArg (cat f 0) e
 rw [Zdz] at e2
 simp only [cat,Nat.zero_add,List.length_take] at e2
 rw [show min i l.length=i by omega] at e2
 exact e2
theorem ZvN {α β:Type} (f:Nat→α→List β) {l:List α} {i j:Nat} {x y:α} {z:β} (hx:l[i]?=some x) (hj:j<(f i x).length) (hy:f i y=(f i x).set j z):cat f 0 (l.set i y)=(cat f 0 l).set ((cat f 0 (l.take i)).length+j) z:=by
 have hi:=(List.getElem?_eq_some_iff.1 hx).1
 rw [ZfF f hx,ZfF f (l:=l.set i y) (x:=y) (List.getElem?_set_self hi),List.take_set,List.set_eq_of_length_le (by rw [List.length_take];omega),List.drop_set_of_lt (by omega),hy,List.set_append,if_neg (by omega),List.set_append,if_pos (by omega),Nat.add_sub_cancel_left]
abbrev ZeO (d:Za) (i:Nat):Nat:=(cat QH 0 ((Za.Instances d).take i)).length
abbrev YB (d:Za):Nat:=(cat QH 0 (Za.Instances d)).length
def ZdV (i:Nat) (x:Zd) (j:Nat) (n:Int):Pl:=((i:Int),(j:Int),n,decide ((j:Int)=IntKind.i64.wrap (((Zd.ZP x).length:Int)-1)),())
theorem ZjI (i:Nat) (x:Zd):QH i x=cat (fun j n=>[ZdV i x j n]) 0 (Zd.ZP x):=rfl
theorem Zgi {i:Nat} {x:Zd} {j:Nat} {n:Int} (h:(Zd.ZP x)[j]?=some n):(QH i x)[j]?=some (ZdV i x j n):=by
 rw [ZjI,Zb5,h,Nat.zero_add];rfl
theorem QX (i:Nat) (x:Zd):(QH i x).length=(Zd.ZP x).length:=by rw [ZjI,ZaR]
theorem Zj2 (l:List ZI) (m:Nat):cat Ze0 m l=cat (fun j p=>[((-1:Int),(j:Int),ZI.Net p,decide (ZI.Dir p=1),())]) m l:=rfl
theorem Zpw (l:List ZI) (m:Nat):(cat Ze0 m l).length=l.length:=by rw [Zj2,ZaR]
theorem Ze4 {d:Za} {i j:Nat} {x:Zd} {n:Int} (hx:(Za.Instances d)[i]?=some x) (hn:(Zd.ZP x)[j]?=some n):(places d)[ZeO d i+j]?=some (ZdV i x j n):=by
 have hj:=(List.getElem?_eq_some_iff.1 hn).1
 unfold places
 rw [ZfF QH hx,List.append_assoc,List.getElem?_append_right (by unfold ZeO;omega),show ZeO d i+j-(cat QH 0 ((Za.Instances d).take i)).length=j by unfold ZeO;omega,List.append_assoc,List.getElem?_append_left (by rw [QX];exact hj)]
 exact Zgi hn
theorem Zo7 {d:Za} {j:Nat} {q:ZI} (hq:(Za.Z0 d)[j]?=some q):(places d)[YB d+j]?=some ((-1:Int),(j:Int),ZI.Net q,decide (ZI.Dir q=1),()):=by
 unfold places
 rw [List.getElem?_append_right (by unfold YB;omega),show YB d+j-(cat QH 0 (Za.Instances d)).length=j by unfold YB;omega,Zj2,Zb5,hq,Nat.zero_add];rfl
theorem JU {d:Za} {k:Nat} {p:Pl} (hp:(places d)[k]?=some p) :
  (∃ (i j:Nat) (x:Zd) (n:Int),(Za.Instances d)[i]?=some x∧(Zd.ZP x)[j]?=some n∧k=ZeO d i+j∧p=ZdV i x j n)∨
  (∃ (j:Nat) (q:ZI),(Za.Z0 d)[j]?=some q∧k=YB d+j∧p=((-1:Int),(j:Int),ZI.Net q,decide (ZI.Dir q=1),())):=by
 by_cases hk:k<YB d
 ·left
  have h1:(cat QH 0 (Za.Instances d))[k]?=some p:=by
   unfold places at hp
   rwa [List.getElem?_append_left (show k<(cat QH 0 (Za.Instances d)).length from hk)] at hp
  have find:∀ (n:Nat),n≤(Za.Instances d).length→k<ZeO d n→∃ i,i<n∧ZeO d i≤k∧k<ZeO d (i+1):=by
   intro n
   induction n with
   | zero=>intro _ h;simp [ZeO,cat] at h
   | succ n ih =>
    intro hn hlt
    by_cases hq:k<ZeO d n
    ·obtain ⟨i,a,b,c⟩:=ih (by omega) hq
     exact ⟨i,by omega,b,c⟩
    ·exact ⟨n,by omega,by omega,hlt⟩
  obtain ⟨i,hi,hlo,hhi⟩:=find (Za.Instances d).length (Nat.le_refl _) (by unfold ZeO;rw [List.take_length];exact hk)
  have hx:(Za.Instances d)[i]?=some (Za.Instances d)[i]:=List.getElem?_eq_getElem hi
  generalize (Za.Instances d)[i]=x at hx
  have hs:ZeO d (i+1)=ZeO d i+(Zd.ZP x).length:=by
   unfold ZeO
   rw [ZgN hx,List.length_append,QX]
  have hj:k-ZeO d i<(Zd.ZP x).length:=by omega
  have hn:(Zd.ZP x)[k-ZeO d i]?=some (Zd.ZP x)[k-ZeO d i]:=List.getElem?_eq_getElem hj
  generalize (Zd.ZP x)[k-ZeO d i]=n at hn
  refine ⟨i,k-ZeO d i,x,n,hx,hn,by omega,?_⟩
  have h2:=Ze4 hx hn
  rw [show ZeO d i+(k-ZeO d i)=k by omega,hp] at h2
  injection h2
 ·right
  have h1:(cat Ze0 0 (Za.Z0 d))[k-YB d]?=some p:=by
   unfold places at hp
   rwa [List.getElem?_append_right (show (cat QH 0 (Za.Instances d)).length≤k from Nat.le_of_not_lt hk)] at hp
  rw [Zj2,Zb5,Nat.zero_add] at h1
  cases hq:(Za.Z0 d)[k-YB d]? with
  | none=>rw [hq] at h1;cases h1
  | some q =>
   rw [hq] at h1
   injection h1 with h1
   exact ⟨k-YB d,q,hq,by omega,h1.symm⟩
theorem key_inj {d:Za} {k k':Nat} {p p':Pl} (hp:(places d)[k]?=some p) (hp':(places d)[k']?=some p') (h1:p.1=p'.1) (h2:p.2.1=p'.2.1):k=k':=by
 rcases JU hp with ⟨i,j,x,n,_,_,e,rfl⟩ | ⟨j,q,_,e,rfl⟩<;>rcases JU hp' with ⟨i',j',x',n',_,_,e',rfl⟩ | ⟨j',q',_,e',rfl⟩
 ·simp only [ZdV] at h1 h2
  have:i=i':=by omega
  have:j=j':=by omega
  subst i' j'
  omega
 ·simp only [ZdV] at h1;omega
 ·simp only [ZdV] at h1;omega
 ·simp only at h2
  omega
def Zek (x:Zd) (j:Nat) (n:Int):Zd:=(Zd.Name x,Zd.Cell x,List.set (Zd.ZP x) j n,())
def setPort (q:ZI) (n:Int):ZI:=(ZI.Name q,ZI.Dir q,n,())
def conn (d:Za) (a b:Int) (n:Int):Za :=
 if a<0 then (Za.Instances d,Za.ZP d,match (Za.Z0 d)[b.toNat]? with
  | some q=>(Za.Z0 d).set b.toNat (setPort q n)
  | none=>Za.Z0 d,())
 else (match (Za.Instances d)[a.toNat]? with
  | some x=>(Za.Instances d).set a.toNat (Zek x b.toNat n)
  | none=>Za.Instances d,Za.ZP d,Za.Z0 d,())
theorem ZsZ (i:Nat) (x:Zd) (j:Nat) (n:Int):QH i (Zek x j n)=(QH i x).set j (ZdV i x j n):=by
 rw [ZjI,ZjI]
 show cat (fun (j':Nat) (m:Int)=>[ZdV i (Zek x j n) j' m]) 0 (List.set (Zd.ZP x) j n)=_
 have:(fun (j':Nat) (m:Int)=>[ZdV i (Zek x j n) j' m])=fun j' m=>[ZdV i x j' m]:=by
  funext j' m
  have hl:(Zd.ZP (Zek x j n)).length=(Zd.ZP x).length:=List.length_set
  simp only [ZdV,hl]
 rw [this,Zje,Nat.zero_add]
theorem XP {d:Za} {k:Nat} {p:Pl} (hp:(places d)[k]?=some p) (n:Int):places (conn d p.1 p.2.1 n)=(places d).set k (p.1,p.2.1,n,p.2.2.2.1,()):=by
 rcases JU hp with ⟨i,j,x,m,hx,hn,e,rfl⟩ | ⟨j,q,hq,e,rfl⟩
 ·have hj:=(List.getElem?_eq_some_iff.1 hn).1
  have e1:conn d (ZdV i x j m).1 (ZdV i x j m).2.1 n=((Za.Instances d).set i (Zek x j n),Za.ZP d,Za.Z0 d,()):=by
   unfold conn
   rw [if_neg (by simp only [ZdV];omega)]
   simp only [ZdV,Int.toNat_natCast,hx]
  rw [e1]
  unfold places
  show cat QH 0 ((Za.Instances d).set i (Zek x j n))++cat Ze0 0 (Za.Z0 d)=_
  have hlt:k<(cat QH 0 (Za.Instances d)).length:=by
   rw [ZfF QH hx,List.length_append,List.length_append,QX]
   unfold ZeO at e
   omega
  rw [ZvN QH hx (j:=j) (z:=ZdV i x j n) (by rw [QX];exact hj) (ZsZ i x j n),List.set_append,if_pos hlt,e]
  rfl
 ·have e1:conn d (-1) (j:Int) n=(Za.Instances d,Za.ZP d,(Za.Z0 d).set j (setPort q n),()):=by
   unfold conn
   rw [if_pos (by omega)]
   simp only [Int.toNat_natCast,hq]
  show places (conn d (-1) (j:Int) n)=_
  rw [e1]
  unfold places
  show cat QH 0 (Za.Instances d)++cat Ze0 0 ((Za.Z0 d).set j (setPort q n))=_
  rw [List.set_append,if_neg (by unfold YB at e;omega),Zj2,Zje,Nat.zero_add,e,show YB d+j-(cat QH 0 (Za.Instances d)).length=j by unfold YB;omega,Zj2]
  rfl
end Go.Proofs.YtfndhpjedmopdaaGreatDoor
/-
  Plain laws: the wires' sinks out of the places' nodes.
-/
namespace Go.Proofs.YtfndhpjedmopdaaGreatDoor
set_option linter.unusedVariables false
set_option linter.unusedSimpArgs false
open Go Go.Sx
def nth (pl:List Pl) (net:Int) (k:Nat):Nat:=(cat (Zbw net) 0 (pl.take k)).length
theorem Zhu {net:Int} {k:Nat} {p:Pl} (h:¬(p.2.2.1=net∧p.2.2.2.1=false)):Zbw net k p=[]:=by
 unfold Zbw
 split
 ·split
  ·rfl
  ·rename_i h1 h2;exact absurd ⟨h1,by simpa using h2⟩ h
 ·rfl
theorem Zhe {net:Int} {k:Nat} {p:Pl} (h1:p.2.2.1=net) (h2:p.2.2.2.1=false):Zbw net k p=[(k:Int)]:=by
 unfold Zbw
 rw [if_pos h1,if_neg (by rw [h2];simp)]
theorem Zj3 {pl:List Pl} {net:Int} {k:Nat} {p:Pl} (hp:pl[k]?=some p) (h1:p.2.2.1=net) (h2:p.2.2.2.1=false):(cat (Zbw net) 0 pl)[nth pl net k]?=some (k:Int):=by
 rw [ZfF (Zbw net) hp,Zhe h1 h2]
 unfold nth
 rw [List.getElem?_append_right (Nat.le_refl _),Nat.sub_self]
 rfl
theorem Zs8 {pl:List Pl} {net:Int} {v:Int} (hv:v∈cat (Zbw net) 0 pl):∃ (k:Nat) (p:Pl),v=(k:Int)∧pl[k]?=some p∧p.2.2.1=net∧p.2.2.2.1=false:=by
 obtain ⟨k,p,hp,hv⟩:=ZhY.1 hv
 by_cases h:p.2.2.1=net∧p.2.2.2.1=false
 ·rw [Zhe h.1 h.2] at hv
  simp only [List.mem_singleton] at hv
  exact ⟨k,p,by rw [hv];simp,hp,h.1,h.2⟩
 ·rw [Zhu h] at hv
  cases hv
theorem Ztp {pl:List Pl} {net:Int} {k:Nat} {p:Pl} (hp:pl[k]?=some p) (h1:p.2.2.1=net) (h2:p.2.2.2.1=false):nth pl net k<(cat (Zbw net) 0 pl).length:=(List.getElem?_eq_some_iff.1 (Zj3 hp h1 h2)).1
def Y5 (b:Zb) (k:Nat):Int:=match (places (Zb.Design b))[k]? with
 | some p=>if p.2.2.2.1=true then 0 else match (Zb.Zy b)[p.2.2.1.toNat]? with
  | some w=>((Zn.ZfM w)[nth (places (Zb.Design b)) p.2.2.1 k]?).getD 0
  | none=>0
 | none=>0
def Zey (w:Zn) (l:List Int):Zn:=(Zn.Parent w,Zn.Res w,Zn.Cap w,l,())
def wired (pl:List Pl) (ws:List Zn) (nd:Nat→Int):List Zn:=cat (fun v w=>[Zey w ((cat (Zbw (v:Int)) 0 pl).map (fun k=>nd k.toNat))]) 0 ws
theorem Zd4 (pl:List Pl) (ws:List Zn) (nd:Nat→Int) (v:Nat):(wired pl ws nd)[v]?=(ws[v]?).map (fun w=>Zey w ((cat (Zbw (v:Int)) 0 pl).map (fun k=>nd k.toNat))):=by
 unfold wired
 rw [Zb5,Nat.zero_add]
theorem Zgp (pl:List Pl) (ws:List Zn) (nd:Nat→Int):(wired pl ws nd).length=ws.length:=ZaR _ _
def ZfA (pl:List Pl) (ws:List Zn) (nd:Nat→Int) (k:Nat):List Zn:=wired (pl.take k) ws nd
theorem ZpU {pl:List Pl} {ws:List Zn} {nd:Nat→Int} {k:Nat} {p:Pl} {w:Zn} (hp:pl[k]?=some p) (h2:p.2.2.2.1=false) (h0:0≤p.2.2.1) (hw:ws[p.2.2.1.toNat]?=some w) :
  (ZfA pl ws nd k)[p.2.2.1.toNat]?=some (Zey w ((cat (Zbw p.2.2.1) 0 (pl.take k)).map (fun k=>nd k.toNat)))∧
  (ZfA pl ws nd k).set p.2.2.1.toNat (Zey w ((cat (Zbw p.2.2.1) 0 (pl.take k)).map (fun k=>nd k.toNat)++[nd k]))=ZfA pl ws nd (k+1):=by
 have hk:=(List.getElem?_eq_some_iff.1 hp).1
 have hlt:=(List.getElem?_eq_some_iff.1 hw).1
 unfold ZfA
 constructor
 ·rw [Zd4,hw,show ((p.2.2.1.toNat:Nat):Int)=p.2.2.1 by omega]
  rfl
 ·apply List.ext_getElem?
  intro v
  rw [List.getElem?_set,Zd4,Zd4]
  have hs:∀ net:Int,cat (Zbw net) 0 (pl.take (k+1))=cat (Zbw net) 0 (pl.take k)++Zbw net k p:=fun net=>ZgN hp
  split
  ·rename_i e
   subst e
   rw [Zgp,if_pos hlt,hw,hs,show ((p.2.2.1.toNat:Nat):Int)=p.2.2.1 by omega,Zhe rfl h2,List.map_append]
   simp only [List.map_cons,List.map_nil,Int.toNat_natCast,Option.map_some]
  ·rename_i e
   congr 1
   funext w'
   congr 1
   rw [hs,Zhu (fun q=>e (by have:=q.1;omega)),List.append_nil]
theorem Zp5 {pl:List Pl} {ws:List Zn} {nd:Nat→Int} {k:Nat} {p:Pl} (hp:pl[k]?=some p) (h2:p.2.2.2.1=true):ZfA pl ws nd (k+1)=ZfA pl ws nd k:=by
 unfold ZfA
 apply List.ext_getElem?
 intro v
 rw [Zd4,Zd4]
 congr 1
 funext w'
 congr 1
 rw [ZgN hp,Zhu (fun q=>by rw [h2] at q;cases q.2),List.append_nil]
end Go.Proofs.YtfndhpjedmopdaaGreatDoor
/-
  Plain laws: maps by their keys.
-/
namespace Go.Proofs.YtfndhpjedmopdaaGreatDoor
set_option linter.unusedVariables false
set_option linter.unusedSimpArgs false
open Go Go.Sx
abbrev Key:Ty:=.pair (.int .i64) (.pair (.int .i64) .unit)
theorem Zpe (x y:Key.den):keq Key x y=true↔x=y:=by
 obtain ⟨a,b,⟨⟩⟩:=x
 obtain ⟨c,d,⟨⟩⟩:=y
 simp [keq]
theorem Zns {k v:Ty} (hk:∀ x y:k.den,keq k x y=true↔x=y) (x z:k.den) (y:v.den):∀ (d:List (k.den×v.den)),ZhR k v (Zln k v d x y) z=if keq k z x=true then some y else ZhR k v d z
 | []=>by simp only [Zln,ZhR]
 | e::l=>by
  by_cases h1:keq k x e.1=true
  ·simp only [Zln,if_pos h1,ZhR]
   by_cases h2:keq k z x=true
   ·simp only [if_pos h2]
   ·have h3:¬keq k z e.1=true:=fun q=>h2 ((hk _ _).2 (((hk _ _).1 q).trans ((hk _ _).1 h1).symm))
    simp only [if_neg h2,if_neg h3]
  ·simp only [Zln,if_neg h1,ZhR]
   by_cases h3:keq k z e.1=true
   ·have h2:¬keq k z x=true:=fun q=>h1 ((hk _ _).2 (((hk _ _).1 q).symm.trans ((hk _ _).1 h3)))
    simp only [if_pos h3,if_neg h2]
   ·simp only [if_neg h3,Zns hk x z y l]
theorem Znb {v:Ty} (d:List (Key.den×v.den)) (x:Key.den) (y:v.den):ZhR Key v (Zln Key v d x y) x=some y:=by
 rw [Zns Zpe,if_pos ((Zpe _ _).2 rfl)]
theorem Zku {v:Ty} (d:List (Key.den×v.den)) {x z:Key.den} (y:v.den) (h:z≠x):ZhR Key v (Zln Key v d x y) z=ZhR Key v d z:=by
 rw [Zns Zpe,if_neg (fun q=>h ((Zpe _ _).1 q))]
end Go.Proofs.YtfndhpjedmopdaaGreatDoor
/-
  Plain laws: nodes by keys against nodes by places; kept when a place is put on another net, when an instance is added or removed.
-/
namespace Go.Proofs.YtfndhpjedmopdaaGreatDoor
set_option linter.unusedVariables false
set_option linter.unusedSimpArgs false
open Go Go.Sx
abbrev Zjb:=List (Key.den×(Ty.int .i64).den)
def Zrz (p:Pl):Key.den:=(p.1,p.2.1,())
def Maps (nodes:Zjb) (pl:List Pl) (nd:Nat→Int):Prop:=∀ (k:Nat) (p:Pl),pl[k]?=some p→p.2.2.2.1=false→ZhR Key (.int .i64) nodes (Zrz p)=some (nd k)
theorem Zrv {d:Za} {k k':Nat} {p p':Pl} (hp:(places d)[k]?=some p) (hp':(places d)[k']?=some p') (h:Zrz p=Zrz p'):k=k':=by
 unfold Zrz at h
 injection h with h1 h2
 injection h2 with h2 _
 exact key_inj hp hp' h1 h2
theorem Maps.put {nodes:Zjb} {d:Za} {nd:Nat→Int} (h:Maps nodes (places d) nd) {k0:Nat} {p0:Pl} (hp0:(places d)[k0]?=some p0) (v:Int):Maps (Zln Key (.int .i64) nodes (Zrz p0) v) (places d) (fun k=>if k=k0 then v else nd k):=by
 intro k p hp hd
 by_cases e:k=k0
 ·subst e
  rw [hp0] at hp
  injection hp with hp
  subst hp
  simp only [if_true]
  exact Znb _ _ _
 ·simp only [if_neg e]
  rw [Zku _ _ (fun q=>e (Zrv hp hp0 q))]
  exact h k p hp hd
theorem Maps.set {nodes:Zjb} {pl:List Pl} {nd:Nat→Int} (h:Maps nodes pl nd) {k0:Nat} {p0:Pl} (hp0:pl[k0]?=some p0) (n:Int):Maps nodes (pl.set k0 (p0.1,p0.2.1,n,p0.2.2.2.1,())) nd:=by
 intro k p hp hd
 by_cases e:k0=k
 ·subst e
  rw [List.getElem?_set_self (List.getElem?_eq_some_iff.1 hp0).1] at hp
  injection hp with hp
  subst hp
  exact h k0 p0 hp0 hd
 ·rw [List.getElem?_set_ne e] at hp
  exact h k p hp hd
def addInst (d:Za) (x:Zd) (s:List UInt8):Za:=(Za.Instances d++[x],Za.ZP d++[s],Za.Z0 d,())
theorem Zfk (d:Za) (x:Zd) (s:List UInt8):places (addInst d x s)=cat QH 0 (Za.Instances d)++QH (Za.Instances d).length x++cat Ze0 0 (Za.Z0 d):=by
 unfold places addInst
 show cat QH 0 (Za.Instances d++[x])++_=_
 rw [Zdz,Nat.zero_add]
 simp only [cat,List.append_nil]
theorem Zpz {d:Za} {x:Zd} {s:List UInt8} {k:Nat} (hk:k<YB d):(places (addInst d x s))[k]?=(places d)[k]?:=by
 rw [Zfk,List.append_assoc,List.getElem?_append_left hk]
 unfold places
 rw [List.getElem?_append_left hk]
theorem add_mid {d:Za} {x:Zd} {s:List UInt8} {j:Nat} (hj:j<(Zd.ZP x).length):(places (addInst d x s))[YB d+j]?=(QH (Za.Instances d).length x)[j]?:=by
 rw [Zfk,List.append_assoc,List.getElem?_append_right (by unfold YB;omega),show YB d+j-(cat QH 0 (Za.Instances d)).length=j by unfold YB;omega,List.getElem?_append_left (by rw [QX];exact hj)]
theorem Zn5 {d:Za} {x:Zd} {s:List UInt8} {k:Nat} (hk:YB d≤k):(places (addInst d x s))[k+(Zd.ZP x).length]?=(places d)[k]?:=by
 have h1:(cat QH 0 (Za.Instances d)).length≤k:=hk
 rw [Zfk,List.getElem?_append_right (by rw [List.length_append,QX];omega),List.length_append,QX]
 unfold places
 rw [List.getElem?_append_right h1]
 congr 1
 omega
def Zq0 (nd:Nat→Int) (m:Nat) (v:Int) (k:Nat):Int:=if k<m then nd k else if k=m then v else if k=m+1 then 0 else nd (k-2)
theorem Maps.add {nodes:Zjb} {d:Za} {nd:Nat→Int} (h:Maps nodes (places d) nd) {x:Zd} {s:List UInt8} (h2:(Zd.ZP x).length=2) (hi:(Za.Instances d).length≤1048576) (v:Int) :
  Maps (Zln Key (.int .i64) nodes (((Za.Instances d).length:Int),0,()) v) (places (addInst d x s)) (Zq0 nd (YB d) v):=by
 intro k p hp hd
 have other:∀ (k':Nat),(places d)[k']?=some p→ZhR Key (.int .i64) (Zln Key (.int .i64) nodes (((Za.Instances d).length:Int),0,()) v) (Zrz p)=ZhR Key (.int .i64) nodes (Zrz p):=by
  intro k' hp'
  refine Zku _ _ (fun q=>?_)
  unfold Zrz at q
  injection q with q1 _
  rcases JU hp' with ⟨i,j,y,n,hy,_,_,rfl⟩ | ⟨j,q',_,_,rfl⟩
  ·have:=(List.getElem?_eq_some_iff.1 hy).1
   simp only [ZdV] at q1
   omega
  ·simp only at q1
   omega
 unfold Zq0
 by_cases k1:k<YB d
 ·rw [if_pos k1]
  rw [Zpz k1] at hp
  rw [other k hp]
  exact h k p hp hd
 ·rw [if_neg k1]
  by_cases k2:k=YB d
  ·rw [if_pos k2]
   have h3:=add_mid (d:=d) (x:=x) (s:=s) (j:=0) (by omega)
   rw [Nat.add_zero,←k2,hp] at h3
   have h4:(Zd.ZP x)[0]?=some (Zd.ZP x)[0]:=List.getElem?_eq_getElem (by omega)
   rw [Zgi h4] at h3
   injection h3 with h3
   rw [h3]
   exact Znb _ _ _
  ·rw [if_neg k2]
   by_cases k3:k=YB d+1
   ·-- it drives
    exfalso
    have h3:=add_mid (d:=d) (x:=x) (s:=s) (j:=1) (by omega)
    rw [←k3,hp] at h3
    have h4:(Zd.ZP x)[1]?=some (Zd.ZP x)[1]:=List.getElem?_eq_getElem (by omega)
    rw [Zgi h4] at h3
    injection h3 with h3
    rw [h3] at hd
    simp only [ZdV,h2,decide_eq_false_iff_not] at hd
    exact hd (by rw [Jd (by omega) (by omega)];rfl)
   ·rw [if_neg k3]
    have h3:=Zn5 (d:=d) (x:=x) (s:=s) (k:=k-2) (by omega)
    rw [h2,show k-2+2=k by omega,hp] at h3
    rw [other (k-2) h3.symm]
    exact h (k-2) p h3.symm hd
def X8 (d:Za):Za:=((Za.Instances d).take ((Za.Instances d).length-1),(Za.ZP d).take ((Za.ZP d).length-1),Za.Z0 d,())
theorem ZoI {d:Za} {x:Zd} (hn:0<(Za.Instances d).length) (hx:(Za.Instances d)[(Za.Instances d).length-1]?=some x):Za.Instances d=Za.Instances (X8 d)++[x]:=by
 show Za.Instances d=(Za.Instances d).take ((Za.Instances d).length-1)++[x]
 rw [←YD hx,show (Za.Instances d).length-1+1=(Za.Instances d).length by omega,List.take_length]
theorem Zgl {d:Za} {x:Zd} {s:List UInt8} (hn:0<(Za.Instances d).length) (hx:(Za.Instances d)[(Za.Instances d).length-1]?=some x):places d=places (addInst (X8 d) x s):=by
 unfold places
 show cat QH 0 (Za.Instances d)++cat Ze0 0 (Za.Z0 d)=cat QH 0 (Za.Instances (X8 d)++[x])++cat Ze0 0 (Za.Z0 d)
 rw [←ZoI hn hx]
def Zpb (nd:Nat→Int) (m:Nat) (k:Nat):Int:=if k<m then nd k else nd (k+2)
theorem Maps.cut {nodes:Zjb} {d:Za} {nd:Nat→Int} (h:Maps nodes (places d) nd) {x:Zd} (hn:0<(Za.Instances d).length) (hx:(Za.Instances d)[(Za.Instances d).length-1]?=some x) (h2:(Zd.ZP x).length=2) :
  Maps nodes (places (X8 d)) (Zpb nd (YB (X8 d))):=by
 rw [Zgl (s:=[]) hn hx] at h
 intro k p hp hd
 unfold Zpb
 by_cases k1:k<YB (X8 d)
 ·rw [if_pos k1]
  exact h k p (by rw [Zpz k1];exact hp) hd
 ·rw [if_neg k1]
  have h3:=Zn5 (d:=X8 d) (x:=x) (s:=[]) (k:=k) (by omega)
  rw [h2,hp] at h3
  exact h (k+2) p h3 hd
end Go.Proofs.YtfndhpjedmopdaaGreatDoor
/-
  Plain laws: the map of nodes, place by place; lists of nodes.
-/
namespace Go.Proofs.YtfndhpjedmopdaaGreatDoor
set_option linter.unusedVariables false
set_option linter.unusedSimpArgs false
open Go Go.Sx
def Zbo (pl:List Pl) (f:Nat→Int):Nat→Zjb
 | 0=>[]
 | k+1=>match pl[k]? with
  | some p=>if p.2.2.2.1=true then Zbo pl f k else Zln Key (.int .i64) (Zbo pl f k) (Zrz p) (f k)
  | none=>Zbo pl f k
theorem Zlh {pl:List Pl} {f:Nat→Int} {k:Nat} {p:Pl} (hp:pl[k]?=some p) (h:p.2.2.2.1=true):Zbo pl f (k+1)=Zbo pl f k:=by
 simp only [Zbo,hp,h,if_true]
theorem ZmN {pl:List Pl} {f:Nat→Int} {k:Nat} {p:Pl} (hp:pl[k]?=some p) (h:¬p.2.2.2.1=true):Zbo pl f (k+1)=Zln Key (.int .i64) (Zbo pl f k) (Zrz p) (f k):=by
 simp only [Zbo,hp,h,if_false]
 rfl
theorem ZhM (d:Za) (f:Nat→Int):∀ (k:Nat),k≤(places d).length→∀ (j:Nat) (p:Pl),j<k→(places d)[j]?=some p→p.2.2.2.1=false→ZhR Key (.int .i64) (Zbo (places d) f k) (Zrz p)=some (f j)
 | 0,_,j,p,hj,_,_=>by omega
 | k+1,hk,j,p,hj,hp,hd=>by
  have hq:(places d)[k]?=some (places d)[k]:=List.getElem?_eq_getElem (by omega)
  generalize (places d)[k]=q at hq
  by_cases hqd:q.2.2.2.1=true
  ·rw [Zlh hq hqd]
   refine ZhM d f k (by omega) j p ?_ hp hd
   by_cases e:j=k
   ·subst e
    rw [hp] at hq
    injection hq with hq
    subst hq
    rw [hqd] at hd;cases hd
   ·omega
  ·rw [ZmN hq hqd]
   by_cases e:j=k
   ·subst e
    rw [hp] at hq
    injection hq with hq
    subst hq
    exact Znb _ _ _
   ·rw [Zku _ _ (fun h=>e (Zrv hp hq h))]
    exact ZhM d f k (by omega) j p (by omega) hp hd
theorem Zh5 (d:Za) (f:Nat→Int):Maps (Zbo (places d) f (places d).length) (places d) f:=fun k p hp hd=>ZhM d f _ (Nat.le_refl _) k p (List.getElem?_eq_some_iff.1 hp).1 hp hd
def Znm (l:List Int) (k:Nat):Int:=(l[k]?).getD 0
theorem Zph {l:List Int} {i:Nat} {v:Int} (hi:i<l.length) (k:Nat):Znm (l.set i v) k=if k=i then v else Znm l k:=by
 unfold Znm
 rw [List.getElem?_set]
 by_cases e:i=k
 ·subst e;rw [if_pos rfl,if_pos hi,if_pos rfl];rfl
 ·rw [if_neg e,if_neg (fun q=>e q.symm)]
theorem Zva {l:List Int} {m:Nat} (hm:m≤l.length) (v:Int) (k:Nat):Znm (l.take m++[v,0]++l.drop m) k=Zq0 (Znm l) m v k:=by
 unfold Znm Zq0
 have hl:(l.take m).length=m:=by rw [List.length_take];omega
 by_cases k1:k<m
 ·rw [if_pos k1,List.append_assoc,List.getElem?_append_left (by omega),List.getElem?_take,if_pos k1]
 ·rw [if_neg k1]
  by_cases k2:k=m
  ·rw [if_pos k2,List.append_assoc,List.getElem?_append_right (by omega),hl,k2,Nat.sub_self];rfl
  ·rw [if_neg k2]
   by_cases k3:k=m+1
   ·rw [if_pos k3,List.append_assoc,List.getElem?_append_right (by omega),hl,k3,show m+1-m=1 by omega];rfl
   ·rw [if_neg k3,List.getElem?_append_right (by rw [List.length_append,hl,List.length_cons,List.length_singleton];omega),List.length_append,hl,List.length_cons,List.length_singleton,List.getElem?_drop]
    congr 2
    omega
theorem Zt1 {l:List Int} {m:Nat} (hm:m+2≤l.length) (k:Nat):Znm (l.take m++l.drop (m+2)) k=Zpb (Znm l) m k:=by
 unfold Znm Zpb
 have hl:(l.take m).length=m:=by rw [List.length_take];omega
 by_cases k1:k<m
 ·rw [if_pos k1,List.getElem?_append_left (by omega),List.getElem?_take,if_pos k1]
 ·rw [if_neg k1,List.getElem?_append_right (by omega),hl,List.getElem?_drop]
  congr 2
  omega
end Go.Proofs.YtfndhpjedmopdaaGreatDoor
/-
  Plain laws: what edits make of designs, of nodes by place.
-/
namespace Go.Proofs.YtfndhpjedmopdaaGreatDoor
set_option linter.unusedVariables false
set_option linter.unusedSimpArgs false
open Go Go.Sx
theorem Zus {d:Za} {x:Zd} {s:List UInt8} {a b n:Int} (ha:a<((Za.Instances d).length:Int)):conn (addInst d x s) a b n=addInst (conn d a b n) x s:=by
 unfold conn
 by_cases h:a<0
 ·rw [if_pos h,if_pos h];rfl
 ·rw [if_neg h,if_neg h]
  have hlt:a.toNat<(Za.Instances d).length:=by omega
  have hy:=List.getElem?_eq_getElem hlt
  generalize (Za.Instances d)[a.toNat]=y at hy
  have e:(Za.Instances (addInst d x s))[a.toNat]?=some y:=by
   show (Za.Instances d++[x])[a.toNat]?=some y
   rw [List.getElem?_append_left hlt];exact hy
  rw [e,hy]
  have e2:List.set (Za.Instances (addInst d x s)) a.toNat (Zek y b.toNat n)=(Za.Instances d).set a.toNat (Zek y b.toNat n)++[x]:=by
   show List.set (Za.Instances d++[x]) a.toNat _=_
   rw [List.set_append,if_pos hlt]
  show (List.set (Za.Instances (addInst d x s)) a.toNat (Zek y b.toNat n),_)=_
  rw [e2]
  rfl
theorem YN {d:Za} {a b n:Int}:(Za.Instances (conn d a b n)).length=(Za.Instances d).length:=by
 unfold conn
 split
 ·rfl
 ·show (match (Za.Instances d)[a.toNat]? with | some x=>(Za.Instances d).set a.toNat (Zek x b.toNat n) | none=>Za.Instances d).length=_
  split
  ·rw [List.length_set]
  ·rfl
theorem VQ {d:Za} {a b n:Int}:Za.ZP (conn d a b n)=Za.ZP d:=by
 unfold conn
 split<;>rfl
theorem Zgj {d:Za} {a b n:Int}:(Za.Z0 (conn d a b n)).length=(Za.Z0 d).length:=by
 unfold conn
 split
 ·show (match (Za.Z0 d)[b.toNat]? with | some x=>(Za.Z0 d).set b.toNat (setPort x n) | none=>Za.Z0 d).length=_
  split
  ·rw [List.length_set]
  ·rfl
 ·rfl
theorem Ze1 {d:Za} {a b n:Int} {i:Nat} {y:Zd} (hy:(Za.Instances (conn d a b n))[i]?=some y):∃ x,(Za.Instances d)[i]?=some x∧Zd.Name y=Zd.Name x∧Zd.Cell y=Zd.Cell x∧(Zd.ZP y).length=(Zd.ZP x).length∧((i:Int)≠a→y=x)∧∀ m∈Zd.ZP y,m∈Zd.ZP x∨m=n:=by
 unfold conn at hy
 split at hy
 ·exact ⟨y,hy,rfl,rfl,rfl,fun _=>rfl,fun m hm=>.inl hm⟩
 ·rename_i h
  have hy:(match (Za.Instances d)[a.toNat]? with | some x=>(Za.Instances d).set a.toNat (Zek x b.toNat n) | none=>Za.Instances d)[i]?=some y:=hy
  split at hy
  ·rename_i x hx
   rw [List.getElem?_set] at hy
   split at hy
   ·rename_i e
    split at hy
    ·injection hy with hy
     subst hy
     refine ⟨x,by rw [←e];exact hx,rfl,rfl,List.length_set,fun q=>absurd (by omega) q,fun m hm=>?_⟩
     rcases List.mem_or_eq_of_mem_set hm with hm | hm
     ·exact .inl hm
     ·exact .inr hm
    ·cases hy
   ·exact ⟨y,hy,rfl,rfl,rfl,fun _=>rfl,fun m hm=>.inl hm⟩
  ·exact ⟨y,hy,rfl,rfl,rfl,fun _=>rfl,fun m hm=>.inl hm⟩
theorem Few.conn {d:Za} (h:Few d) (a b n:Int):Few (conn d a b n):=by
 refine ⟨by rw [YN];exact h.insts,by rw [Zgj];exact h.ports,fun y hy=>?_⟩
 obtain ⟨i,hi⟩:=List.getElem?_of_mem hy
 obtain ⟨x,hx,_,_,hl,_⟩:=Ze1 hi
 rw [hl]
 exact h.nets x (List.mem_of_getElem? hx)
theorem Few.add {d:Za} (h:Few d) (h13:(Za.Instances d).length≤13) {x:Zd} (hx:(Zd.ZP x).length≤5) (s:List UInt8):Few (addInst d x s):=by
 refine ⟨?_,h.ports,fun y hy=>?_⟩
 ·show (Za.Instances d++[x]).length≤14
  rw [List.length_append,List.length_singleton];omega
 ·rcases List.mem_append.1 (show y∈Za.Instances d++[x] from hy) with hy | hy
  ·exact h.nets y hy
  ·rw [List.mem_singleton] at hy
   subst hy;exact hx
theorem Few.cut {d:Za} (h:Few d):Few (X8 d):=by
 refine ⟨?_,h.ports,fun y hy=>h.nets y (List.mem_of_mem_take (show y∈(Za.Instances d).take _ from hy))⟩
 show ((Za.Instances d).take _).length≤14
 rw [List.length_take]
 have:=h.insts
 omega
def ZiG (pl:List Pl) (n:Nat):Prop:=∀ p∈pl,p.2.2.2.1=false→0≤p.2.2.1∧p.2.2.1<(n:Int)
theorem ZiG.set {pl:List Pl} {n:Nat} (h:ZiG pl n) {k0:Nat} {p0:Pl} {m:Int} (h0:0≤m) (h1:m<(n:Int)):ZiG (pl.set k0 (p0.1,p0.2.1,m,p0.2.2.2.1,())) n:=by
 intro p hp hd
 rcases List.mem_or_eq_of_mem_set hp with hp | hp
 ·exact h p hp hd
 ·subst hp;exact ⟨h0,h1⟩
def swapped (b:Zb) (i:Int) (c:Int):Zb:=(Zb.Library b,(match (Za.Instances (Zb.Design b))[i.toNat]? with
 | some x=>(Za.Instances (Zb.Design b)).set i.toNat (Zd.Name x,c,Zd.ZP x,())
 | none=>Za.Instances (Zb.Design b),Za.ZP (Zb.Design b),Za.Z0 (Zb.Design b),()),Zb.Zy b,())
def mvD (b:Zb) (p:Pl) (n:Int):Za:=conn (Zb.Design b) p.1 p.2.1 n
def mvN (b:Zb) (k:Nat) (v:Int) (j:Nat):Int:=if j=k then v else Y5 b j
def moved (b:Zb) (k:Nat) (p:Pl) (n v:Int):Zb:=(Zb.Library b,mvD b p n,wired (places (mvD b p n)) (Zb.Zy b) (mvN b k v),())
abbrev ZrO:Zn:=([-1],[0],[0],[],())
def Zoj (b:Zb) (e:Zf) (p:Pl):Zd:=(Zf.Name e,Zf.Cell e,[p.2.2.1,((Za.ZP (Zb.Design b)).length:Int)],())
def Zpr (b:Zb) (e:Zf) (p:Pl):Za:=addInst (conn (Zb.Design b) p.1 p.2.1 ((Za.ZP (Zb.Design b)).length:Int)) (Zoj b e p) (Zf.Name e)
def Zrp (b:Zb) (k:Nat):Nat:=if k<YB (Zb.Design b) then k else k+2
def Zxl (b:Zb) (k:Nat) (j:Nat):Int:=if j=Zrp b k then 0 else Zq0 (Y5 b) (YB (Zb.Design b)) (Y5 b k) j
def buffered (b:Zb) (e:Zf) (k:Nat) (p:Pl):Zb:=(Zb.Library b,Zpr b e p,wired (places (Zpr b e p)) (Zb.Zy b++[ZrO]) (Zxl b k),())
def unD (b:Zb) (p:Pl) (m:Int):Za:=X8 (conn (Zb.Design b) p.1 p.2.1 m)
def unN (b:Zb) (k:Nat):Nat→Int:=Zpb (mvN b k (Y5 b (YB (Zb.Design b)-2))) (YB (Zb.Design b)-2)
def Zk0 (b:Zb) (k:Nat) (p:Pl) (m:Int):Zb:=(Zb.Library b,unD b p m,wired (places (unD b p m)) ((Zb.Zy b).take ((Zb.Zy b).length-1)) (unN b k),())
def Zvs (b:Zb) (n:Int) (w:Zn):Zb:=(Zb.Library b,Zb.Design b,(Zb.Zy b).set n.toNat w,())
end Go.Proofs.YtfndhpjedmopdaaGreatDoor
/-
  Plain laws: clones are what they are made of.
-/
namespace Go.Proofs.YtfndhpjedmopdaaGreatDoor
set_option linter.unusedVariables false
set_option linter.unusedSimpArgs false
open Go Go.Sx
theorem Zb3 {α:Type} {l:List α} {k:Nat} {x:α} (hx:l[k]?=some x):l.set k x=l:=by
 apply List.ext_getElem?
 intro j
 rw [List.getElem?_set]
 split
 ·rename_i e;subst e
  rw [if_pos (List.getElem?_eq_some_iff.1 hx).1,hx]
 ·rfl
theorem ZcJ (l:List Int) (h:l.length≤1048576):Z7 l=some l:=by
 unfold Z7
 rw [Zi (by rw [List.length_nil];omega)];rfl
theorem ZdN (l:List Int) (h:l.length≤1048576):Xf l=some l:=by
 unfold Xf
 rw [Zi (by rw [List.length_nil];omega)];rfl
theorem ZdQ (w:Zn) (hw:sm YP w):VU w=some w:=by
 obtain ⟨a1,a2,a3,a4⟩:=Zjs hw
 unfold VU
 rw [ZcJ _ (Zm a1),Option.bind_some,ZcJ _ (Zm a2),Option.bind_some,ZcJ _ (Zm a3),Option.bind_some,ZcJ _ (Zm a4),Option.bind_some]
theorem Zhi (w:Zn) (hw:sm YP w):Zae w=some w:=by
 obtain ⟨a1,a2,a3,a4⟩:=Zjs hw
 unfold Zae
 rw [ZdN _ (Zm a1),Option.bind_some,ZdN _ (Zm a2),Option.bind_some,ZdN _ (Zm a3),Option.bind_some,ZdN _ (Zm a4),Option.bind_some]
theorem Zil (d:Za) (hd:sm Z9 d):JN d=some d:=by
 obtain ⟨s1,s2,s3⟩:=Zb2 hd
 have l1:=Zm s1
 have l2:=Zm s2
 have l3:=Zm s3
 unfold JN Yw Xv YU
 rw [Zi (by rw [List.length_nil];omega),Option.bind_some,Zi (by rw [List.length_nil];omega),Option.bind_some,Zi (by rw [List.length_nil];omega),Option.bind_some]
 simp only [List.nil_append]
 refine YH (l:=Za.Instances d) (fun k=>((k:Int),(Za.Instances d,(k:Int)),())) (fun k x hx hk=>?_) ?_
 ·have hx2:=ZcJ (Zd.ZP x) (Zm (Ziz (Zag s1 hx)).2)
  simp only [QZ,show (k:Int)<((Za.Instances d).length:Int) by omega,if_true,Zr,hx,Option.bind_some,Int.le_refl,hx2,Zi trivial,Zah (show k≤1048576 by omega),Int.toNat_natCast]
  rw [show List.set (Za.Instances d) k (Zd.Name x,Zd.Cell x,Zd.ZP x,())=Za.Instances d from Zb3 hx]
  rfl
 ·simp only [QZ,Int.lt_irrefl,if_false,Zi trivial]
theorem Zfl (l:List Zt) (hl:sm (.sl Yh) l):Jc l=some l:=by
 have h1:=Zm hl
 unfold Jc
 have:=YH (l:=l) (fun k=>(l.take k,(k:Int),())) (step:=fun v=>X3 l v.1 v.2.1) (good:=l) (fun k x hx hk=>by
  have hs:sm Yh x:=Zag hl hx
  have e1:=ZcJ (Zt.Zfx x) (Zm (t:=.int .i64) hs.1)
  have e2:=ZcJ (Zt.Loads x) (Zm (t:=.int .i64) hs.2.1)
  have e3:=ZcJ (Zt.Values x) (Zm (t:=.int .i64) hs.2.2.1)
  have hg:((l.take k).length+[(Zt.Zfx x,Zt.Loads x,Zt.Values x,())].length)*72≤140737488355328:=by rw [List.length_take,List.length_singleton];omega
  simp only [X3,show (k:Int)<(l.length:Int) by omega,if_true,Zr,hx,Option.bind_some,e1,e2,e3,Zi hg,Zah (show k≤1048576 by omega)]
  rw [YD hx]) (by
  simp only [X3,Int.lt_irrefl,if_false,List.take_length])
 simpa using this
theorem Zim (a:Zl) (ha:sm Z6 a):JM a=some a:=by
 have hc:=ZnN ha
 have h1:=Zm hc
 unfold JM
 have:=YH (l:=Zl.Cells a) (fun k=>((k:Int),(Zl.Cells a).take k,())) (step:=fun v=>XB a v.1 v.2.1) (good:=a) (fun k x hx hk=>by
  have hs:sm YL x:=Zag hc hx
  have p1:sm (.sl Je) (Zh.YC x):=hs.2.2.1
  have p2:sm (.sl ZaK) (Zh.Zbc x):=hs.2.2.2.1
  have p3:sm (.sl (.int .i64)) (Zh.Truth x):=hs.2.2.2.2.1
  have l1:=Zm p1
  have l2:=Zm p2
  have l3:=Zm p3
  simp only [XB,show (k:Int)<((Zl.Cells a).length:Int) by omega,if_true,Zr,hx,Option.bind_some]
  unfold YZ Y2
  rw [Zi (by rw [List.length_nil];omega),Option.bind_some,ZcJ _ l3,Option.bind_some,Zi (by rw [List.length_nil];omega),Option.bind_some]
  simp only [List.nil_append]
  have hg:∀ y:Zh,(((Zl.Cells a).take k).length+[y].length)*112≤140737488355328:=fun y=>by rw [List.length_take,List.length_singleton];omega
  refine YH (l:=Zh.Zbc x) (fun j=>((j:Int),(Zh.Zbc x,(j:Int)),())) (fun j y hy hj=>?_) ?_
  ·obtain ⟨q1,q2⟩:=Zua (Zag p2 hy)
   simp only [QT,show (j:Int)<((Zh.Zbc x).length:Int) by omega,if_true,Zr,hy,Option.bind_some,Int.le_refl,Zfl _ q1,Zfl _ q2,Zi trivial,Zah (show j≤1048576 by omega),Int.toNat_natCast]
   rw [show List.set (Zh.Zbc x) j (ZM.Kind y,ZM.From y,ZM.To y,ZM.ZcL y,ZM.Delay y,ZM.Zhj y,())=Zh.Zbc x from Zb3 hy]
   rfl
  ·simp only [QT,Int.lt_irrefl,if_false,Zi trivial,Zi (hg _),Zah (show k≤1048576 by omega)]
   rw [YD hx]) (by
  simp only [XB,Int.lt_irrefl,if_false,List.take_length])
 simpa using this
theorem Zc5 (b:Zb) (hb:sm Yt b):Vi b=some b:=by
 obtain ⟨b1,b2,b3⟩:=Za5 hb
 have h1:=Zm b3
 unfold Vi
 rw [Zim _ b1,Option.bind_some,Zil _ b2,Option.bind_some]
 have:=YH (l:=Zb.Zy b) (fun k=>((k:Int),(Zb.Zy b).take k,())) (step:=fun v=>XW b (Zb.Library b) (Zb.Design b) v.1 v.2.1) (good:=b) (fun k x hx hk=>by
  have hg:(((Zb.Zy b).take k).length+[x].length)*96≤140737488355328:=by rw [List.length_take,List.length_singleton];omega
  simp only [XW,show (k:Int)<((Zb.Zy b).length:Int) by omega,if_true,Zr,hx,Option.bind_some,ZdQ x (Zag b3 hx),Zi hg,Zah (show k≤1048576 by omega)]
  rw [YD hx]) (by
  simp only [XW,Int.lt_irrefl,if_false,List.take_length])
 simpa using this
end Go.Proofs.YtfndhpjedmopdaaGreatDoor
/-
  Plain laws: the nodes of all sinks, by key (program) and by place (reference).
-/
namespace Go.Proofs.YtfndhpjedmopdaaGreatDoor
set_option linter.unusedVariables false
set_option linter.unusedSimpArgs false
open Go Go.Sx
theorem ZvS {pl:List Pl} {k:Nat} {p:Pl} (hp:pl[k]?=some p) (h2:p.2.2.2.1=false):nth pl p.2.2.1 (k+1)=nth pl p.2.2.1 k+1:=by
 unfold nth
 rw [ZgN hp,Zhe rfl h2,List.length_append,List.length_singleton]
theorem Zvt {pl:List Pl} {net:Int} {k:Nat} {p:Pl} (hp:pl[k]?=some p) (h:¬(p.2.2.1=net∧p.2.2.2.1=false)):nth pl net (k+1)=nth pl net k:=by
 unfold nth
 rw [ZgN hp,Zhu h,List.append_nil]
def seen (pl:List Pl) (n k:Nat):List Int:=(List.range n).map (fun (v:Nat)=>((nth pl (v:Int) k:Nat):Int))
theorem Zma {pl:List Pl} {n k v:Nat} (hv:v<n):(seen pl n k)[v]?=some ((nth pl (v:Int) k:Nat):Int):=by
 unfold seen
 rw [List.getElem?_map,List.getElem?_range hv];rfl
theorem Ztf (pl:List Pl) (n:Nat):List.replicate n (0:Int)=seen pl n 0:=by
 apply List.ext_getElem?
 intro v
 by_cases hv:v<n
 ·rw [Zma hv,List.getElem?_replicate,if_pos hv]
  unfold nth
  simp [cat]
 ·rw [List.getElem?_eq_none (by simp;omega),List.getElem?_eq_none (by unfold seen;simp;omega)]
theorem Zuh {pl:List Pl} {n k:Nat} {p:Pl} (hp:pl[k]?=some p) (h2:p.2.2.2.1=false) (h0:0≤p.2.2.1) (h1:p.2.2.1<(n:Int)):(seen pl n k).set p.2.2.1.toNat (((nth pl p.2.2.1 k+1:Nat):Int))=seen pl n (k+1):=by
 apply List.ext_getElem?
 intro v
 by_cases hv:v<n
 ·rw [List.getElem?_set,Zma hv,Zma hv]
  split
  ·rename_i e
   rw [if_pos (by unfold seen;simp;omega)]
   subst e
   rw [show ((p.2.2.1.toNat:Nat):Int)=p.2.2.1 by omega,ZvS hp h2]
  ·rename_i e
   rw [Zvt hp (fun q=>e (by have:=q.1;omega))]
 ·rw [List.getElem?_eq_none (by unfold seen;simp;omega),List.getElem?_eq_none (by unfold seen;simp;omega)]
theorem ZvB {pl:List Pl} {n k:Nat} {p:Pl} (hp:pl[k]?=some p) (h2:p.2.2.2.1=true):seen pl n (k+1)=seen pl n k:=by
 unfold seen
 apply List.map_congr_left
 intro v _
 rw [Zvt hp (fun q=>by rw [h2] at q;cases q.2)]
theorem Zqg {b:Zb} (h:ZaW b) {k:Nat} {p:Pl} (hp:(places (Zb.Design b))[k]?=some p) (h2:p.2.2.2.1=false) :
  ∃ w,atI (Zb.Zy b) p.2.2.1=some w∧(Zb.Zy b)[p.2.2.1.toNat]?=some w∧atI (Zn.ZfM w) ((nth (places (Zb.Design b)) p.2.2.1 k:Nat):Int)=some (Y5 b k)∧Zb9 w ((sinks (Zb.Design b) p.2.2.1).length:Int):=by
 have hn:=Za1 h.ok.1 (List.mem_of_getElem? hp)
 obtain ⟨w,hw1,hw2,hw3⟩:=Zjh h hn
 have hlt:=Ztp hp rfl h2
 have hs:=hw3.2.2.2.1
 have hlt2:nth (places (Zb.Design b)) p.2.2.1 k<(Zn.ZfM w).length:=by
  have:(sinks (Zb.Design b) p.2.2.1).length=(cat (Zbw p.2.2.1) 0 (places (Zb.Design b))).length:=rfl
  omega
 refine ⟨w,hw2,hw1,?_,hw3⟩
 rw [Zr]
 have e:Y5 b k=((Zn.ZfM w)[nth (places (Zb.Design b)) p.2.2.1 k]?).getD 0:=by
  unfold Y5
  simp only [hp,h2,hw1]
  rfl
 rw [e,List.getElem?_eq_getElem hlt2]
 rfl
theorem ZdG {b:Zb} (h:ZaW b):Xk b=some (Zbo (places (Zb.Design b)) (Y5 b) (places (Zb.Design b)).length):=by
 have hf:=h.ok.1.few
 have hpl:=Qz hf
 have h30:=h.ok.1.2.1.2.1
 have hwn:=h.ok.2.1
 have hwl:(Zb.Zy b).length≤1048576:=Zm (Za5 h.sm).2.2
 unfold Xk
 rw [Zi (by omega),Zi (by omega),Zi (by omega),Zi (by omega),Yn _ hf,Option.bind_some,Int.toNat_natCast,Ztf (places (Zb.Design b))]
 refine YH (l:=places (Zb.Design b)) (fun k=>((k:Int),Zbo (places (Zb.Design b)) (Y5 b) k,seen (places (Zb.Design b)) (Zb.Zy b).length k,())) (fun k p hp hk=>?_) ?_
 ·simp only [Qx,show (k:Int)<((places (Zb.Design b)).length:Int) by omega,if_true,Zr,hp,Option.bind_some,Zah (show k≤1048576 by omega)]
  have e1:Yd.drives p=p.2.2.2.1:=rfl
  have e2:Yd.net p=p.2.2.1:=rfl
  by_cases h2:p.2.2.2.1=true
  ·rw [e1,if_pos h2,Zlh hp h2,ZvB hp h2]
  ·have h2':p.2.2.2.1=false:=by simpa using h2
   obtain ⟨w,hw1,hw2,hw3,hw4⟩:=Zqg h hp h2'
   have hn:=Za1 h.ok.1 (List.mem_of_getElem? hp)
   have hv:p.2.2.1<((Zb.Zy b).length:Int):=by have:=hn.2;omega
   have hs:atI (seen (places (Zb.Design b)) (Zb.Zy b).length k) p.2.2.1=some ((nth (places (Zb.Design b)) p.2.2.1 k:Nat):Int):=by
    refine VK hn.1 ?_
    rw [Zma (by have:=hn.1;omega),show ((p.2.2.1.toNat:Nat):Int)=p.2.2.1 by have:=hn.1;omega]
   have hlt:=Ztp hp rfl h2'
   have hlc:=Zfz p.2.2.1 (places (Zb.Design b)) 0
   rw [e1,if_neg h2,e2,hw1,Option.bind_some,hs,Option.bind_some,hw3,Option.bind_some,Zah (show nth (places (Zb.Design b)) p.2.2.1 k≤1048576 by omega),Zuh hp h2' hn.1 hv,ZmN hp h2]
   rfl
 ·simp only [Qx,Int.lt_irrefl,if_false]
end Go.Proofs.YtfndhpjedmopdaaGreatDoor
/-
  Plain laws: the reference's nodes by place.
-/
namespace Go.Proofs.YtfndhpjedmopdaaGreatDoor
set_option linter.unusedVariables false
set_option linter.unusedSimpArgs false
open Go Go.Sx
theorem ZrG {pl:List Pl} {net:Int}:∀ (n:Nat),n≤pl.length→∀ (i:Nat) (x:Int),(cat (Zbw net) 0 (pl.take n))[i]?=some x→
  ∃ (k:Nat) (p:Pl),k<n∧pl[k]?=some p∧x=(k:Int)∧p.2.2.1=net∧p.2.2.2.1=false∧nth pl net k=i
 | 0,_,i,x,h=>by simp [cat] at h
 | n+1,hn,i,x,h=>by
  have hp:pl[n]?=some pl[n]:=List.getElem?_eq_getElem (by omega)
  generalize pl[n]=p at hp
  rw [ZgN hp] at h
  by_cases hi:i<(cat (Zbw net) 0 (pl.take n)).length
  ·rw [List.getElem?_append_left hi] at h
   obtain ⟨k,q,a,r⟩:=ZrG n (by omega) i x h
   exact ⟨k,q,by omega,r⟩
  ·rw [List.getElem?_append_right (by omega)] at h
   by_cases hs:p.2.2.1=net∧p.2.2.2.1=false
   ·rw [Zhe hs.1 hs.2] at h
    have h0:=(List.getElem?_eq_some_iff.1 h).1
    rw [List.length_singleton] at h0
    rw [show i-(cat (Zbw net) 0 (pl.take n)).length=0 by omega] at h
    injection h with h
    exact ⟨n,p,by omega,hp,h.symm,hs.1,hs.2,by unfold nth;omega⟩
   ·rw [Zhu hs] at h
    cases h
theorem ZoS {pl:List Pl} {net:Int} {i:Nat} {x:Int} (h:(cat (Zbw net) 0 pl)[i]?=some x) :
  ∃ (k:Nat) (p:Pl),pl[k]?=some p∧x=(k:Int)∧p.2.2.1=net∧p.2.2.2.1=false∧nth pl net k=i:=by
 obtain ⟨k,p,_,r⟩:=ZrG (pl:=pl) (net:=net) pl.length (Nat.le_refl _) i x (by rw [List.take_length];exact h)
 exact ⟨k,p,r⟩
def filled (b:Zb) (P:Nat→Pl→Bool):List Int:=cat (fun k p=>[if P k p=true then Y5 b k else 0]) 0 (places (Zb.Design b))
theorem ZcA (b:Zb) (P:Nat→Pl→Bool) (k:Nat):(filled b P)[k]?=((places (Zb.Design b))[k]?).map (fun p=>if P k p=true then Y5 b k else 0):=by
 unfold filled
 rw [Zb5,Nat.zero_add]
theorem Zk4 (b:Zb) (P:Nat→Pl→Bool):(filled b P).length=(places (Zb.Design b)).length:=ZaR _ _
theorem Zlr {b:Zb} {P Q:Nat→Pl→Bool} (h:∀ (k:Nat) (p:Pl),(places (Zb.Design b))[k]?=some p→P k p=Q k p):filled b P=filled b Q:=by
 apply List.ext_getElem?
 intro k
 rw [ZcA,ZcA]
 cases hp:(places (Zb.Design b))[k]? with
 | none=>rfl
 | some p=>simp only [Option.map_some,h k p hp]
def Zu0 (v:Nat) (k:Nat) (p:Pl):Bool:=decide (p.2.2.1<(v:Int))&&!p.2.2.2.1
def pIn (b:Zb) (v i:Nat) (k:Nat) (p:Pl):Bool:=!p.2.2.2.1&&(decide (p.2.2.1<(v:Int))||(decide (p.2.2.1=(v:Int))&&decide (nth (places (Zb.Design b)) (v:Int) k<i)))
def Zbb (b:Zb):List Int:=filled b (fun _ _=>true)
theorem Zg2 {b:Zb} {k:Nat} (hk:k<(places (Zb.Design b)).length):(Zbb b)[k]?=some (Y5 b k):=by
 unfold Zbb
 rw [ZcA,List.getElem?_eq_getElem hk]
 rfl
theorem Za4 (b:Zb):(Zbb b).length=(places (Zb.Design b)).length:=Zk4 _ _
theorem Zfa {b:Zb} (h:ZaW b):Zax b=some (Zbb b):=by
 have hf:=h.ok.1.few
 have hpl:=Qz hf
 have h30:=h.ok.1.2.1.2.1
 have hwn:=h.ok.2.1
 have hwl:(Zb.Zy b).length≤1048576:=Zm (Za5 h.sm).2.2
 have first:List.replicate (places (Zb.Design b)).length (0:Int)=filled b (Zu0 0):=by
  apply List.ext_getElem?
  intro k
  rw [ZcA,List.getElem?_replicate]
  split
  ·rename_i hk
   have hp:=List.getElem?_eq_getElem hk
   rw [hp]
   have hn:=(Za1 h.ok.1 (List.mem_of_getElem? hp)).1
   rw [Option.map_some,if_neg]
   unfold Zu0
   simp only [Bool.and_eq_true,decide_eq_true_eq,not_and]
   intro q;omega
  ·rw [List.getElem?_eq_none (by omega)];rfl
 have last:filled b (Zu0 (Zb.Zy b).length)=Zbb b:=by
  apply List.ext_getElem?
  intro k
  unfold Zbb
  rw [ZcA,ZcA]
  cases hp:(places (Zb.Design b))[k]? with
  | none=>rfl
  | some p =>
   have hn:=(Za1 h.ok.1 (List.mem_of_getElem? hp)).2
   simp only [Option.map_some,if_true]
   by_cases h2:p.2.2.2.1=true
   ·have:Y5 b k=0:=by unfold Y5;simp only [hp,h2,if_true]
    simp only [this,ite_self]
   ·rw [if_pos]
    unfold Zu0
    simp only [Bool.and_eq_true,decide_eq_true_eq,Bool.not_eq_true']
    exact ⟨by omega,by simpa using h2⟩
 unfold Zax
 rw [Vs _ hf,Option.bind_some,Zi (by omega),Zi (by omega),Zi (by omega),Zi (by omega),Int.toNat_natCast,first]
 refine YH (l:=Zb.Zy b) (fun v=>((v:Int),filled b (Zu0 v),())) (fun v w hw hv=>?_) ?_
 ·simp only [J8,show (v:Int)<((Zb.Zy b).length:Int) by omega,if_true,Zar _ _ hf,Option.bind_some]
  have e0:filled b (Zu0 v)=filled b (pIn b v 0):=Zlr fun k p _=>by unfold Zu0 pIn;simp [Bool.and_comm]
  have e1:filled b (pIn b v (sinks (Zb.Design b) (v:Int)).length)=filled b (Zu0 (v+1)):=Zlr fun k p hp=>by
   unfold Zu0 pIn
   by_cases h2:p.2.2.2.1=true
   ·simp [h2]
   ·have h2':p.2.2.2.1=false:=by simpa using h2
    rw [h2',Bool.not_false,Bool.true_and,Bool.and_true]
    by_cases hq:p.2.2.1=(v:Int)
    ·have hlt:nth (places (Zb.Design b)) (v:Int) k<(sinks (Zb.Design b) (v:Int)).length:=Ztp hp hq h2'
     rw [decide_eq_true hlt,decide_eq_true hq,decide_eq_true (show p.2.2.1<((v+1:Nat):Int) by omega)]
     simp
    ·rw [decide_eq_false hq,Bool.false_and,Bool.or_false]
     exact decide_eq_decide.2 (by omega)
  rw [e0]
  refine YH (l:=sinks (Zb.Design b) (v:Int)) (fun i=>((i:Int),filled b (pIn b v i),())) (fun i x hx hi=>?_) ?_
  ·obtain ⟨k,p,hp,ex,hn,h2,hnth⟩:=ZoS (pl:=places (Zb.Design b)) hx
   obtain ⟨w',hw1,hw2,hw3,hw4⟩:=Zqg h hp h2
   have hk:=(List.getElem?_eq_some_iff.1 hp).1
   have hlc:=Zfz (v:Int) (places (Zb.Design b)) 0
   have hlc2:(sinks (Zb.Design b) (v:Int)).length≤(places (Zb.Design b)).length:=hlc
   rw [hn,hnth] at hw3
   rw [hn] at hw1
   have hfk:(filled b (pIn b v i))[k]?=some ((filled b (pIn b v i))[k]'(by rw [Zk4];exact hk)):=List.getElem?_eq_getElem _
   simp only [J4,show (i:Int)<((sinks (Zb.Design b) (v:Int)).length:Int) by omega,if_true,Zr,hx,Option.bind_some,←Zr (Zb.Zy b),hw1,←Zr (Zn.ZfM w'),hw3,Zah (show i≤1048576 by omega)]
   subst ex
   rw [Zr,hfk,Option.bind_some,Int.toNat_natCast]
   have:List.set (filled b (pIn b v i)) k (Y5 b k)=filled b (pIn b v (i+1)):=by
    apply List.ext_getElem?
    intro j
    rw [List.getElem?_set,Zk4]
    split
    ·rename_i e
     subst e
     rw [ZcA,hp,Option.map_some,if_pos]
     unfold pIn
     rw [h2,hnth]
     simp [hn]
    ·rename_i e
     rw [ZcA,ZcA]
     cases hq:(places (Zb.Design b))[j]? with
     | none=>rfl
     | some q =>
      have:pIn b v i j q=pIn b v (i+1) j q:=by
       unfold pIn
       by_cases h3:q.2.2.2.1=true
       ·simp [h3]
       ·have h3':q.2.2.2.1=false:=by simpa using h3
        by_cases hqn:q.2.2.1=(v:Int)
        ·have hne:nth (places (Zb.Design b)) (v:Int) j≠i:=by
          intro hh
          have h4:=Zj3 hq hqn h3'
          rw [hh] at h4
          have h5:(cat (Zbw (v:Int)) 0 (places (Zb.Design b)))[i]?=some (k:Int):=hx
          rw [h5] at h4
          injection h4 with h4
          omega
         rw [show decide (nth (places (Zb.Design b)) (v:Int) j<i)=decide (nth (places (Zb.Design b)) (v:Int) j<i+1) from decide_eq_decide.2 (by omega)]
        ·rw [decide_eq_false hqn,Bool.false_and,Bool.false_and]
      rw [Option.map_some,Option.map_some,this]
   rw [this]
  ·simp only [J4,Int.lt_irrefl,if_false,Zah (show v≤1048576 by omega),e1]
 ·simp only [J8,Int.lt_irrefl,if_false,last]
end Go.Proofs.YtfndhpjedmopdaaGreatDoor
/-
  Plain laws: sinks put in anew, a place put on another net, a buffer taken away.
-/
namespace Go.Proofs.YtfndhpjedmopdaaGreatDoor
set_option linter.unusedVariables false
set_option linter.unusedSimpArgs false
open Go Go.Sx
def wip (ws:List Zn) (k:Nat):List Zn:=cat (fun j w=>[if j<k then Zey w [] else w]) 0 ws
theorem Zlc (ws:List Zn) (k v:Nat):(wip ws k)[v]?=(ws[v]?).map (fun w=>if v<k then Zey w [] else w):=by
 unfold wip
 rw [Zb5,Nat.zero_add]
theorem ZvP (ws:List Zn) (k:Nat):(wip ws k).length=ws.length:=ZaR _ _
theorem Zuq (ws:List Zn):wip ws 0=ws:=by
 apply List.ext_getElem?
 intro v
 rw [Zlc]
 simp
theorem ZvV (pl:List Pl) (ws:List Zn) (nd:Nat→Int):wip ws ws.length=ZfA pl ws nd 0:=by
 apply List.ext_getElem?
 intro v
 unfold ZfA
 rw [Zlc,Zd4]
 cases hv:ws[v]? with
 | none=>rfl
 | some w =>
  have:=(List.getElem?_eq_some_iff.1 hv).1
  simp only [Option.map_some,if_pos this,List.take_zero,cat,List.map_nil]
theorem Zt7 {ws:List Zn} {k:Nat} {w:Zn} (hw:ws[k]?=some w):(wip ws k)[k]?=some w∧(wip ws k).set k (Zey w [])=wip ws (k+1):=by
 constructor
 ·rw [Zlc,hw];simp
 ·apply List.ext_getElem?
  intro v
  rw [List.getElem?_set,ZvP]
  split
  ·rename_i e
   subst e
   rw [if_pos (List.getElem?_eq_some_iff.1 hw).1,Zlc,hw,Option.map_some,if_pos (by omega)]
  ·rw [Zlc,Zlc]
   congr 1
   funext w'
   by_cases h:v<k
   ·rw [if_pos h,if_pos (by omega)]
   ·rw [if_neg h,if_neg (by omega)]
theorem Zfm {b:Zb} {nodes:Zjb} {nd:Nat→Int} (hf:Few (Zb.Design b)) (hm:Maps nodes (places (Zb.Design b)) nd) (hn:ZiG (places (Zb.Design b)) (Zb.Zy b).length) (hw:(Zb.Zy b).length≤1048576) :
  Xm b nodes=some (Zb.Library b,Zb.Design b,wired (places (Zb.Design b)) (Zb.Zy b) nd,()):=by
 have hpl:=Qz hf
 unfold Xm
 have:=YH (l:=Zb.Zy b) (fun k=>((k:Int),wip (Zb.Zy b) k,())) (step:=fun v=>Xt b nodes v.1 v.2.1) (good:=(Zb.Library b,Zb.Design b,wired (places (Zb.Design b)) (Zb.Zy b) nd,())) (fun k w hk hlt=>by
  obtain ⟨a1,a2⟩:=Zt7 hk
  simp only [Xt,show (k:Int)<((Zb.Zy b).length:Int) by omega,if_true,Zr,a1,Option.bind_some,Zah (show k≤1048576 by omega),Int.toNat_natCast]
  rw [←a2]
  rfl) (by
  simp only [Xt,Int.lt_irrefl,if_false,Yn _ hf,Option.bind_some,ZvV (places (Zb.Design b)) (Zb.Zy b) nd]
  refine YH (l:=places (Zb.Design b)) (fun k=>((k:Int),ZfA (places (Zb.Design b)) (Zb.Zy b) nd k,())) (fun k p hp hk=>?_) ?_
  ·simp only [Qy,show (k:Int)<((places (Zb.Design b)).length:Int) by omega,if_true,Zr,hp,Option.bind_some,Zah (show k≤1048576 by omega)]
   have e1:Yd.drives p=p.2.2.2.1:=rfl
   have e2:Yd.net p=p.2.2.1:=rfl
   have e3:ZhR ZbZ (Ty.int IntKind.i64) nodes (Yd.instance p,Yd.pin p,())=ZhR Key (.int .i64) nodes (Zrz p):=rfl
   by_cases h2:p.2.2.2.1=true
   ·rw [e1,if_pos h2,Zp5 hp h2]
   ·have h2':p.2.2.2.1=false:=by simpa using h2
    obtain ⟨h0,h1⟩:=hn p (List.mem_of_getElem? hp) h2'
    have hwk:(Zb.Zy b)[p.2.2.1.toNat]?=some ((Zb.Zy b)[p.2.2.1.toNat]'(by omega)):=List.getElem?_eq_getElem (by omega)
    obtain ⟨w1,w2⟩:=ZpU (nd:=nd) hp h2' h0 hwk
    have hl:=Zfz p.2.2.1 ((places (Zb.Design b)).take k) 0
    rw [e1,if_neg h2,e2,VK h0 w1,Option.bind_some,e3,hm k p hp h2',Zi (by
     show ((List.map _ _).length+1)*8≤_
     rw [List.length_map]
     rw [List.length_take] at hl
     omega),←w2]
    rfl
  ·simp only [Qy,Int.lt_irrefl,if_false]
   unfold ZfA
   rw [List.take_length])
 rw [Zuq] at this
 exact this
theorem Zf0 {b:Zb} {k:Nat} {p:Pl} (hp:(places (Zb.Design b))[k]?=some p) (n:Int):Qv b (p.1,p.2.1,()) n=some (Zb.Library b,conn (Zb.Design b) p.1 p.2.1 n,Zb.Zy b,()):=by
 unfold Qv conn
 rcases JU hp with ⟨i,j,x,m,hx,hn,e,rfl⟩ | ⟨j,q,hq,e,rfl⟩
 ·have c:¬((i:Int)<0):=by omega
  simp only [ZdV,Zaj.instance,Zaj.pin,if_neg c,Zr,hx,Option.bind_some,Int.toNat_natCast]
  have hn2:x.2.2.1[j]?=some m:=hn
  rw [hn2]
  rfl
 ·have c:((-1:Int)<0):=by omega
  simp only [Zaj.instance,Zaj.pin,if_pos c,Zr,hq,Option.bind_some,Int.toNat_natCast]
  rfl
theorem ZjN {d:Za} (hn:0<(Za.Instances d).length) {p:Pl} (h:p∈places (X8 d)):p∈places d:=by
 have hx:(Za.Instances d)[(Za.Instances d).length-1]?=some (Za.Instances d)[(Za.Instances d).length-1]:=List.getElem?_eq_getElem (by omega)
 rw [Zgl (s:=[]) hn hx,Zfk]
 unfold places at h
 rcases List.mem_append.1 h with h | h
 ·exact List.mem_append_left _ (List.mem_append_left _ h)
 ·exact List.mem_append_right _ h
theorem ZjE.sink {b:Zb} (h:ZaW b) (hL:ZjE b):∃ (k:Nat) (p:Pl),sinks (Zb.Design b) (((Za.ZP (Zb.Design b)).length:Int)-1)=[(k:Int)]∧(places (Zb.Design b))[k]?=some p∧p.2.2.1=((Za.ZP (Zb.Design b)).length:Int)-1∧p.2.2.2.1=false∧p.1≠((Za.Instances (Zb.Design b)).length:Int)-1:=by
 obtain ⟨x,c,w,m,hn,hx,hc,hk1,hk2,hl2,hm,hl,hne,hnm,hw,hs1,hs2,hp1,hc0⟩:=hL
 match hs:sinks (Zb.Design b) (((Za.ZP (Zb.Design b)).length:Int)-1),hs2 with
 | [v],_ =>
  obtain ⟨k,p,hp,e,h1,h2,_⟩:=ZoS (pl:=places (Zb.Design b)) (net:=((Za.ZP (Zb.Design b)).length:Int)-1) (i:=0) (x:=v) (by
   show (sinks (Zb.Design b) (((Za.ZP (Zb.Design b)).length:Int)-1))[0]?=some v
   rw [hs];rfl)
  subst e
  refine ⟨k,p,rfl,hp,h1,h2,fun q=>?_⟩
  rcases JU hp with ⟨i,j,y,n,hy,hnj,_,rfl⟩ | ⟨j,y,_,_,rfl⟩
  ·simp only [ZdV] at q h1 h2
   have ei:i=(Za.Instances (Zb.Design b)).length-1:=by omega
   rw [ei,hx] at hy
   injection hy with hy
   subst hy
   have hj:=(List.getElem?_eq_some_iff.1 hnj).1
   rw [hl2] at h2 hj
   have:j=0∨j=1:=by omega
   rcases this with rfl | rfl
   ·rw [show atI (Zd.ZP x) 0=(Zd.ZP x)[0]? from rfl,hnj] at hm
    injection hm with hm
    exact hne (hm.symm.trans h1)
   ·exact absurd h2 (by simp only [decide_eq_false_iff_not,Classical.not_not];rw [Jd (by omega) (by omega)];rfl)
  ·simp only at q
   omega
end Go.Proofs.YtfndhpjedmopdaaGreatDoor
/-
  Plain laws: a buffer taken away; inverse edits.
-/
namespace Go.Proofs.YtfndhpjedmopdaaGreatDoor
set_option linter.unusedVariables false
set_option linter.unusedSimpArgs false
open Go Go.Sx
theorem Ztt {b:Zb} (h:ZaW b) {k:Nat} {p:Pl} {m:Int} (hn:0<(Za.Instances (Zb.Design b)).length) (hs:sinks (Zb.Design b) (((Za.ZP (Zb.Design b)).length:Int)-1)=[(k:Int)]) (hp:(places (Zb.Design b))[k]?=some p) (h0:0≤m) (h1:m<((Za.ZP (Zb.Design b)).length:Int)-1) :
  ZiG (places (unD b p m)) ((Zb.Zy b).length-1):=by
 have hwn:=h.ok.2.1
 have hD:ZiG (places (conn (Zb.Design b) p.1 p.2.1 m)) ((Zb.Zy b).length-1):=by
  rw [XP hp]
  intro q hq hd
  obtain ⟨j,hj⟩:=List.getElem?_of_mem hq
  rw [List.getElem?_set] at hj
  split at hj
  ·split at hj
   ·injection hj with hj
    subst hj
    exact ⟨h0,by show m<_;omega⟩
   ·cases hj
  ·rename_i e
   have hnet:=Za1 h.ok.1 (List.mem_of_getElem? hj)
   refine ⟨hnet.1,?_⟩
   by_cases hq2:q.2.2.1=((Za.ZP (Zb.Design b)).length:Int)-1
   ·have h3:=Zj3 hj hq2 hd
    have h4:(sinks (Zb.Design b) (((Za.ZP (Zb.Design b)).length:Int)-1))[nth (places (Zb.Design b)) (((Za.ZP (Zb.Design b)).length:Int)-1) j]?=some (j:Int):=h3
    rw [hs] at h4
    have h5:=List.mem_of_getElem? h4
    rw [List.mem_singleton] at h5
    exact absurd (by omega) e
   ·have:=hnet.2
    omega
 intro q hq hd
 exact hD q (ZjN (by rw [YN];exact hn) hq) hd
theorem Zhk {d:Za} {x:Zd} (hn:0<(Za.Instances d).length) (hx:(Za.Instances d)[(Za.Instances d).length-1]?=some x) (h2:(Zd.ZP x).length=2):YB (X8 d)+2=YB d:=by
 have h1:=ZoI hn hx
 unfold YB
 rw [h1,Zdz,List.length_append]
 simp only [cat,List.append_nil,QX,h2]
theorem Zn3 {d:Za} {x:Zd} (hn:0<(Za.Instances d).length) (hx:(Za.Instances d)[(Za.Instances d).length-1]?=some x) (h2:(Zd.ZP x).length=2):ZeO d ((Za.Instances d).length-1)=YB d-2:=by
 have h1:=Zhk hn hx h2
 have:ZeO d ((Za.Instances d).length-1)=YB (X8 d):=rfl
 omega
theorem ZgR {b:Zb} (h:ZaW b) (hL:ZjE b):∃ (k:Nat) (p:Pl) (m v:Int),sinks (Zb.Design b) (((Za.ZP (Zb.Design b)).length:Int)-1)=[(k:Int)]∧(places (Zb.Design b))[k]?=some p∧p.1≠((Za.Instances (Zb.Design b)).length:Int)-1∧
  (∀ y,(Za.Instances (Zb.Design b))[(Za.Instances (Zb.Design b)).length-1]?=some y→atI (Zd.ZP y) 0=some m)∧v=Y5 b (YB (Zb.Design b)-2)∧
  Qp b=some ((p.1,p.2.1,()),(Zb.Library b,unD b p m,wired (places (unD b p m)) ((Zb.Zy b).take ((Zb.Zy b).length-1)) (Zpb (fun j=>if j=k then v else Y5 b j) (YB (unD b p m))),())):=by
 obtain ⟨k,p,hs,hp,hpn,hpd,hpi⟩:=hL.sink h
 obtain ⟨x,c,w,m,hn,hx,hc,hk1,hk2,hl2,hm,hl,hne,hnm,hw,hs1,hs2,hp1,hc0⟩:=hL
 have hD:=h.ok.1
 have hf:=hD.few
 have hpl:=Qz hf
 have h14:=hf.insts
 have h30:=hD.2.1.2.1
 have hwn:=h.ok.2.1
 obtain ⟨_,_,hnet⟩:=hD.2.2.1 x (List.mem_of_getElem? hx)
 have hm0:(Zd.ZP x)[0]?=some m:=hm
 have hmn:=hnet m (List.mem_of_getElem? hm0)
 have hpos:1≤(Za.ZP (Zb.Design b)).length:=by have:=hmn.1;have:=hmn.2;omega
 have hmn2:m<((Za.ZP (Zb.Design b)).length:Int)-1:=by have:=hmn.2;omega
 have hx2:atI (Za.Instances (Zb.Design b)) (((Za.Instances (Zb.Design b)).length:Int)-1)=some x:=VK (by omega) (by rw [←hx];congr 1;omega)
 have t1:Int.toNat (((Za.Instances (Zb.Design b)).length:Int)-1)=(Za.Instances (Zb.Design b)).length-1:=by omega
 have t2:Int.toNat (((Za.ZP (Zb.Design b)).length:Int)-1)=(Za.ZP (Zb.Design b)).length-1:=by omega
 have t3:Int.toNat (((Zb.Zy b).length:Int)-1)=(Zb.Zy b).length-1:=by omega
 have e:((Zb.Library b,(List.set (Za.Instances (Zb.Design b)) ((Za.Instances (Zb.Design b)).length-1) x,(Zb.Design b).snd),b.snd.snd):Zb)=b:=by rw [Zb3 hx]
 refine ⟨k,p,m,(Option.getD (ZhR Key (Ty.int IntKind.i64) (Zbo (places (Zb.Design b)) (Y5 b) (places (Zb.Design b)).length) ((((Za.Instances (Zb.Design b)).length:Int)-1),(0:Int),())) (0:Int)),hs,hp,hpi,fun y hy=>by rw [hx] at hy;injection hy with hy;rw [←hy];exact hm,?_,?_⟩
 ·have h5:=Ze4 hx hm0
  rw [Nat.add_zero,Zn3 hn hx hl2] at h5
  have h6:=Zh5 (Zb.Design b) (Y5 b) _ _ h5 (by
   show decide ((0:Int)=IntKind.i64.wrap (((Zd.ZP x).length:Int)-1))=false
   rw [hl2,Jd (by omega) (by omega)]
   decide)
  have h7:Zrz (ZdV ((Za.Instances (Zb.Design b)).length-1) x 0 m)=((((Za.Instances (Zb.Design b)).length:Int)-1),(0:Int),()):=by
   show ((((Za.Instances (Zb.Design b)).length-1:Nat):Int),(0:Int),())=_
   rw [show (((Za.Instances (Zb.Design b)).length-1:Nat):Int)=((Za.Instances (Zb.Design b)).length:Int)-1 by omega]
  rw [h7] at h6
  rw [h6]
  rfl
 unfold Qp
 rw [ZdG h,Option.bind_some,Yn _ hf,Option.bind_some,show YR (Za.ZP (Zb.Design b))=some ((Za.ZP (Zb.Design b)).length:Int) from rfl,Option.bind_some,
  Jd (n:=((Za.ZP (Zb.Design b)).length:Int)-1) (by omega) (by omega),Zis _ _ hf,Option.bind_some,hs,show atI [(k:Int)] 0=some (k:Int) from rfl,Option.bind_some,Zr,hp,Option.bind_some,
  Jd (n:=((Za.Instances (Zb.Design b)).length:Int)-1) (by omega) (by omega),hx2,Option.bind_some,show x.snd.snd.fst=Zd.ZP x from rfl,hm,Option.bind_some,t1,e,
  show (Yd.instance p,Yd.pin p,())=(p.1,p.2.1,()) from rfl,Zf0 hp m,Option.bind_some]
 have eD:Zb.Design ((Zb.Library b,conn (Zb.Design b) p.1 p.2.1 m,Zb.Zy b,()):Zb)=conn (Zb.Design b) p.1 p.2.1 m:=rfl
 have eW:Zb.Zy ((Zb.Library b,conn (Zb.Design b) p.1 p.2.1 m,Zb.Zy b,()):Zb)=Zb.Zy b:=rfl
 have eL:Zb.Library ((Zb.Library b,conn (Zb.Design b) p.1 p.2.1 m,Zb.Zy b,()):Zb)=Zb.Library b:=rfl
 rw [eD,eW,eL,VQ,Jd (n:=((Za.ZP (Zb.Design b)).length:Int)-1) (by omega) (by omega),Jd (n:=((Zb.Zy b).length:Int)-1) (by omega) (by omega),t2,t3,
  Zi (by omega),Zi (by rw [YN];omega),Zi (by omega),Zi (by omega),Zi (by omega),Zi (by omega)]
 simp only [Int.toNat_zero,Nat.sub_zero,List.drop_zero]
 have hB:((Zb.Library b,(List.take ((Za.Instances (Zb.Design b)).length-1) (Za.Instances (conn (Zb.Design b) p.1 p.2.1 m)),List.take ((Za.ZP (Zb.Design b)).length-1) (Za.ZP (Zb.Design b)),(conn (Zb.Design b) p.1 p.2.1 m).snd.snd),List.take ((Zb.Zy b).length-1) (Zb.Zy b),()):Zb)
   = (Zb.Library b,unD b p m,List.take ((Zb.Zy b).length-1) (Zb.Zy b),()):=by
  unfold unD X8
  rw [YN,VQ]
 rw [hB]
 have hx3:(Za.Instances (conn (Zb.Design b) p.1 p.2.1 m))[(Za.Instances (conn (Zb.Design b) p.1 p.2.1 m)).length-1]?=some ((Za.Instances (conn (Zb.Design b) p.1 p.2.1 m))[(Za.Instances (conn (Zb.Design b) p.1 p.2.1 m)).length-1]'(by rw [YN];omega)):=List.getElem?_eq_getElem _
 generalize (Za.Instances (conn (Zb.Design b) p.1 p.2.1 m))[(Za.Instances (conn (Zb.Design b) p.1 p.2.1 m)).length-1]'(by rw [YN];omega)=x' at hx3
 have hx4:(Zd.ZP x').length=2:=by
  obtain ⟨y,hy,_,_,hyl,_⟩:=Ze1 hx3
  rw [YN,hx] at hy
  injection hy with hy
  rw [hyl,←hy,hl2]
 have hM:=(((Zh5 (Zb.Design b) (Y5 b)).put hp (Option.getD (ZhR Key (Ty.int IntKind.i64) (Zbo (places (Zb.Design b)) (Y5 b) (places (Zb.Design b)).length) ((((Za.Instances (Zb.Design b)).length:Int)-1),(0:Int),())) (0:Int))).set hp m)
 rw [←XP hp m] at hM
 have hM2:=hM.cut (by rw [YN];omega) hx3 hx4
 have hlen:(List.take ((Zb.Zy b).length-1) (Zb.Zy b)).length=(Zb.Zy b).length-1:=by rw [List.length_take];omega
 have:=Zfm (b:=(Zb.Library b,unD b p m,List.take ((Zb.Zy b).length-1) (Zb.Zy b),())) (hf.conn p.1 p.2.1 m).cut hM2 (by
  show ZiG (places (unD b p m)) (List.take ((Zb.Zy b).length-1) (Zb.Zy b)).length
  rw [hlen]
  exact Ztt h hn hs hp hmn.1 hmn2) (by
  show (List.take ((Zb.Zy b).length-1) (Zb.Zy b)).length≤_
  rw [hlen];omega)
 exact Eq.trans (congrArg (fun o=>Option.bind o fun connect0=>some ((p.1,p.2.1,()),connect0)) this) rfl
end Go.Proofs.YtfndhpjedmopdaaGreatDoor
/-
  Plain laws: inverse edits.
-/
namespace Go.Proofs.YtfndhpjedmopdaaGreatDoor
set_option linter.unusedVariables false
set_option linter.unusedSimpArgs false
open Go Go.Sx
theorem Zr1 {α:Type} {p:α→Bool} {l:List α} {k:Nat} {x:α} (hx:l[k]?=some x) (hp:p x=true) (hf:∀ (j:Nat) (y:α),j<k→l[j]?=some y→p y=false):Zbx p l=(k:Int):=by
 have hk:=(List.getElem?_eq_some_iff.1 hx)
 have:l.findIdx? p=some k:=by
  rw [List.findIdx?_eq_some_iff_getElem]
  refine ⟨hk.1,by rw [hk.2];exact hp,fun j hj=>?_⟩
  have:=hf j (l[j]'(by have:=hk.1;omega)) hj (List.getElem?_eq_getElem _)
  simp [this]
 unfold Zbx
 rw [this]
theorem Zm4 (d:Za) (hf:Few d) {k:Nat} {p:Pl} (hp:(places d)[k]?=some p):Qk d p.1 p.2.1=some (k:Int):=by
 have hpl:=Qz hf
 unfold Qk
 rw [Yn _ hf,Option.bind_some,Qb (l:=places d) (f:=(p.1,p.2.1,())) (show (places d).length≤_ by omega) (fun q=>decide (q.1=p.1)&&decide (q.2.1=p.2.1)) (fun q _=>by
  unfold XZ
  show (if q.1=p.1 then some (decide (q.2.1=p.2.1)) else some false)=_
  by_cases h1:q.1=p.1
  ·rw [if_pos h1,decide_eq_true h1,Bool.true_and]
  ·rw [if_neg h1,decide_eq_false h1,Bool.false_and]),Option.bind_some]
 congr 1
 refine Zr1 hp (by simp) (fun j y hj hy=>?_)
 cases hq:(decide (y.1=p.1)&&decide (y.2.1=p.2.1)) with
 | false=>rfl
 | true =>
  simp only [Bool.and_eq_true,decide_eq_true_eq] at hq
  have:=key_inj hy hp hq.1 hq.2
  omega
theorem Zul {b:Zb} (hn:0<(Za.Instances (Zb.Design b)).length) {x:Zd} (hx:(Za.Instances (Zb.Design b))[(Za.Instances (Zb.Design b)).length-1]?=some x) (hl2:(Zd.ZP x).length=2) {k:Nat} {p:Pl} {m:Int} (hp:(places (Zb.Design b))[k]?=some p) (hpi:p.1≠((Za.Instances (Zb.Design b)).length:Int)-1) :
  (p.1<0→2≤k)∧(places (unD b p m))[if p.1<0 then k-2 else k]?=some (p.1,p.2.1,m,p.2.2.2.1,()):=by
 have hD:(places (conn (Zb.Design b) p.1 p.2.1 m))[k]?=some (p.1,p.2.1,m,p.2.2.2.1,()):=by
  rw [XP hp,List.getElem?_set_self (List.getElem?_eq_some_iff.1 hp).1]
 have hn2:0<(Za.Instances (conn (Zb.Design b) p.1 p.2.1 m)).length:=by rw [YN];exact hn
 have hx3:(Za.Instances (conn (Zb.Design b) p.1 p.2.1 m))[(Za.Instances (conn (Zb.Design b) p.1 p.2.1 m)).length-1]?=some ((Za.Instances (conn (Zb.Design b) p.1 p.2.1 m))[(Za.Instances (conn (Zb.Design b) p.1 p.2.1 m)).length-1]'(by omega)):=List.getElem?_eq_getElem _
 generalize (Za.Instances (conn (Zb.Design b) p.1 p.2.1 m))[(Za.Instances (conn (Zb.Design b) p.1 p.2.1 m)).length-1]'(by omega)=x' at hx3
 have hx4:(Zd.ZP x').length=2:=by
  obtain ⟨y,hy,_,_,hyl,_⟩:=Ze1 hx3
  rw [YN,hx] at hy
  injection hy with hy
  rw [hyl,←hy,hl2]
 have hin:=ZoI hn2 hx3
 have hil:YB (conn (Zb.Design b) p.1 p.2.1 m)=YB (unD b p m)+2:=by
  unfold YB unD
  rw [hin,Zdz,List.length_append]
  simp only [cat,List.append_nil,QX,hx4]
 rcases JU hD with ⟨i,j,y,n,hy,hnj,e,hq⟩ | ⟨j,q,hq,e,hq2⟩
 ·have e1:p.1=(i:Int):=by
   have:=congrArg Prod.fst hq
   simpa [ZdV] using this
  have hi:=(List.getElem?_eq_some_iff.1 hy).1
  rw [YN] at hi
  refine ⟨fun h=>by omega,?_⟩
  rw [if_neg (by omega)]
  have hy2:(Za.Instances (unD b p m))[i]?=some y:=by
   show ((Za.Instances (conn (Zb.Design b) p.1 p.2.1 m)).take _)[i]?=some y
   rw [List.getElem?_take,if_pos (by rw [YN];omega),hy]
  have h5:=Ze4 hy2 hnj
  have e2:ZeO (unD b p m) i=ZeO (conn (Zb.Design b) p.1 p.2.1 m) i:=by
   unfold ZeO
   show (cat QH 0 (((Za.Instances (conn (Zb.Design b) p.1 p.2.1 m)).take _).take i)).length=_
   rw [List.take_take,Nat.min_eq_left (by rw [YN];omega)]
  rw [e2,←e] at h5
  rw [h5,hq]
 ·have e1:p.1=-1:=congrArg Prod.fst hq2
  refine ⟨fun _=>by omega,?_⟩
  rw [if_pos (by omega)]
  have h5:=Zn5 (d:=unD b p m) (x:=x') (s:=[]) (k:=k-2) (by omega)
  rw [hx4,show k-2+2=k by omega] at h5
  rw [←h5]
  unfold unD
  rw [←Zgl hn2 hx3]
  exact hD
theorem ZrH:sm (.sl (.int .i64)) ([]:List Int):=⟨by simp,fun _ _=>trivial⟩
theorem ZjZ:sm YP (([]:List Int),([]:List Int),([]:List Int),([]:List Int),()):=⟨ZrH,ZrH,ZrH,ZrH,trivial⟩
theorem Zkk:sm .str ([]:List UInt8):=by show ((0:Nat):Int)≤_;omega
theorem ZmC {a b c d e:Int} {s:List UInt8} {w:Zn} (hs:sm .str s) (hw:sm YP w):sm Y9 (a,b,c,d,e,s,w,()):=⟨trivial,trivial,trivial,trivial,trivial,hs,hw,trivial⟩
theorem ZmK {b:Zb} {e:Zf} (h:Zpd b e):∃ r,Vx e b=some r∧sm Y9 r:=by
 have hB:=h.blk
 have hf:=hB.ok.1.few
 have hpl:=Qz hf
 have h30:=hB.ok.1.2.1.2.1
 obtain ⟨b1,b2,b3⟩:=Za5 hB.sm
 unfold Vx
 by_cases k1:Zf.Kind e=1
 ·obtain ⟨p,x,c,c2,hp,h0,_,hx,_⟩:=h.poss.1 k1
  rw [if_pos k1,Yn _ hf,Option.bind_some,hp.at,Option.bind_some]
  have e1:Yd.instance p=p.1:=rfl
  simp only [e1,hx,Option.bind_some]
  exact ⟨_,rfl,ZmC Zkk ZjZ⟩
 rw [if_neg k1]
 by_cases k2:Zf.Kind e=2
 ·rw [if_pos k2]
  exact ⟨_,rfl,ZmC Zkk ZjZ⟩
 rw [if_neg k2]
 by_cases k3:Zf.Kind e=3
 ·rw [if_pos k3]
  have hL:=h.poss.2.2.1 k3
  obtain ⟨hn,x,hx,hl2⟩:=hL.two
  obtain ⟨k,p,m,v,hs,hp,hpi,_,_,hun⟩:=ZgR hB hL
  have h14:=hf.insts
  have hx2:atI (Za.Instances (Zb.Design b)) (((Za.Instances (Zb.Design b)).length:Int)-1)=some x:=VK (by omega) (by rw [←hx];congr 1;omega)
  obtain ⟨hk2,hpu⟩:=Zul (m:=m) hn hx hl2 hp hpi
  have hpo:=Zm4 (unD b p m) (hf.conn p.1 p.2.1 m).cut hpu
  have hsx:sm Zw x:=Zag (Zb2 b2).1 hx
  rw [Zc5 _ hB.sm,Option.bind_some,hun,Option.bind_some,Jd (n:=((Za.Instances (Zb.Design b)).length:Int)-1) (by omega) (by omega),hx2,Option.bind_some]
  have hpo2:Qk (Zb.Design ((Zb.Library b,unD b p m,wired (places (unD b p m)) ((Zb.Zy b).take ((Zb.Zy b).length-1)) (Zpb (fun j=>if j=k then v else Y5 b j) (YB (unD b p m))),()):Zb)) p.1 p.2.1=some (((if p.1<0 then k-2 else k:Nat):Nat):Int):=hpo
  exact ⟨(2,(((if p.1<0 then k-2 else k:Nat):Nat):Int),Zd.Cell x,0,0,Zd.Name x,([],[],[],[],()),()),congrArg (fun o=>Option.bind o _) hpo2,ZmC (Ziz hsx).1 ZjZ⟩
 rw [if_neg k3]
 by_cases k4:Zf.Kind e=4
 ·obtain ⟨p,hp,h2,_⟩:=h.poss.2.2.2.1 k4
  rw [if_pos k4,Yn _ hf,Option.bind_some,hp.at,Option.bind_some,ZdG hB,Option.bind_some]
  exact ⟨_,rfl,ZmC Zkk ZjZ⟩
 ·have k5:Zf.Kind e=5:=by have:=h.blank;unfold Blank at this;omega
  obtain ⟨w,hw1,hw2,_⟩:=Zjh hB (h.range.2.2 k5)
  have hsw:sm YP w:=Zag b3 hw1
  rw [if_neg k4,hw2,Option.bind_some,ZdQ _ hsw]
  exact ⟨_,rfl,ZmC Zkk hsw⟩
end Go.Proofs.YtfndhpjedmopdaaGreatDoor
/-
  Plain laws: designs stay valid when a place is put on another net, when a buffer is added or taken away.
-/
namespace Go.Proofs.YtfndhpjedmopdaaGreatDoor
set_option linter.unusedVariables false
set_option linter.unusedSimpArgs false
open Go Go.Sx
theorem Zb9.put {w:Zn} {s:Int} (h:Zb9 w s) {l:List Int} (hl:Zg5 l 0 (((Zn.Parent w).length:Int)-1)):Zb9 (Zey w l) (l.length:Int) :=
 ⟨h.1,h.2.1,h.2.2.1,rfl,h.2.2.2.2.1,h.2.2.2.2.2.1,h.2.2.2.2.2.2.1,hl⟩
def Fits (pl:List Pl) (ws:List Zn) (nd:Nat→Int):Prop:=∀ (k:Nat) (p:Pl) (w:Zn),pl[k]?=some p→p.2.2.2.1=false→ws[p.2.2.1.toNat]?=some w→0≤nd k∧nd k≤((Zn.Parent w).length:Int)-1
theorem Zpg {pl:List Pl} {ws:List Zn} {nd:Nat→Int} (hw:∀ (v:Nat) (w:Zn),ws[v]?=some w→∃ s,Zb9 w s) (hf:Fits pl ws nd) :
  Zgm (wired pl ws nd) (fun v w=>Zb9 w ((cat (Zbw (v:Int)) 0 pl).length:Int)):=by
 intro v w hv
 rw [Zd4] at hv
 cases hx:ws[v]? with
 | none=>rw [hx] at hv;cases hv
 | some y =>
  rw [hx] at hv
  injection hv with hv
  subst hv
  obtain ⟨s,hs⟩:=hw v y hx
  have:=hs.put (l:=(cat (Zbw (v:Int)) 0 pl).map (fun k=>nd k.toNat)) (fun z hz=>by
   obtain ⟨j,hj,rfl⟩:=List.mem_map.1 hz
   obtain ⟨k,p,rfl,hp,h1,h2⟩:=Zs8 hj
   exact hf k p y hp h2 (by rw [h1];exact hx))
  rw [List.length_map] at this
  exact this
theorem Zl4 {b:Zb} (h:ZaW b):Fits (places (Zb.Design b)) (Zb.Zy b) (Y5 b):=by
 intro k p w hp h2 hw
 obtain ⟨w',_,hw1,hw2,hw3⟩:=Zqg h hp h2
 rw [hw1] at hw
 injection hw with hw
 subst hw
 rw [Zr] at hw2
 exact hw3.2.2.2.2.2.2.2 _ (List.mem_of_getElem? hw2)
theorem Fits.set {pl:List Pl} {ws:List Zn} {nd:Nat→Int} (h:Fits pl ws nd) {k0:Nat} {p0:Pl} (n v:Int) (hv:∀ w,ws[n.toNat]?=some w→0≤v∧v≤((Zn.Parent w).length:Int)-1) :
  Fits (pl.set k0 (p0.1,p0.2.1,n,p0.2.2.2.1,())) ws (fun j=>if j=k0 then v else nd j):=by
 intro k p w hp h2 hw
 rw [List.getElem?_set] at hp
 split at hp
 ·rename_i e
  subst e
  split at hp
  ·injection hp with hp
   subst hp
   show 0≤(if k0=k0 then v else nd k0)∧(if k0=k0 then v else nd k0)≤_
   rw [if_pos rfl]
   exact hv w hw
  ·cases hp
 ·rename_i e
  show 0≤(if k=k0 then v else nd k)∧(if k=k0 then v else nd k)≤_
  rw [if_neg (fun q=>e q.symm)]
  exact h k p w hp h2 hw
theorem Jb.snoc {l:List (List UInt8)} {s:List UInt8} (h:Jb l l.length) (h1:Zbf s=true) (h2:s ∉ l):Jb (l++[s]) (l++[s]).length:=by
 intro j t hj ht
 by_cases e:j<l.length
 ·rw [List.getElem?_append_left e] at ht
  obtain ⟨a,b⟩:=h j t e ht
  refine ⟨a,?_⟩
  rw [List.take_append_of_le_length (by omega)]
  exact b
 ·rw [List.length_append,List.length_singleton] at hj
  have e2:j=l.length:=by omega
  subst e2
  rw [List.getElem?_append_right (by omega),Nat.sub_self] at ht
  injection ht with ht
  subst ht
  refine ⟨h1,?_⟩
  rw [List.take_append_of_le_length (Nat.le_refl _),List.take_length]
  exact h2
theorem Jb.take {l:List (List UInt8)} (h:Jb l l.length) (m:Nat):Jb (l.take m) (l.take m).length:=by
 intro j t hj ht
 rw [List.length_take] at hj
 rw [List.getElem?_take,if_pos (by omega)] at ht
 obtain ⟨a,b⟩:=h j t (by omega) ht
 refine ⟨a,?_⟩
 rw [List.take_take,Nat.min_eq_left (by omega)]
 exact b
theorem ZqM (d:Za) (a b n:Int):Zbk (conn d a b n)=Zbk d:=by
 unfold conn
 split
 ·rfl
 ·show List.map Zd.Name (match (Za.Instances d)[a.toNat]? with | some x=>(Za.Instances d).set a.toNat (Zek x b.toNat n) | none=>Za.Instances d)=List.map Zd.Name (Za.Instances d)
  split
  ·rename_i x hx
   rw [List.map_set]
   exact Zb3 (by rw [List.getElem?_map,hx];rfl)
  ·rfl
theorem Zpx (d:Za) (a b n:Int):ZcQ (conn d a b n)=ZcQ d:=by
 unfold conn
 split
 ·show List.map ZI.Name (match (Za.Z0 d)[b.toNat]? with | some x=>(Za.Z0 d).set b.toNat (setPort x n) | none=>Za.Z0 d)=List.map ZI.Name (Za.Z0 d)
  split
  ·rename_i x hx
   rw [List.map_set]
   exact Zb3 (by rw [List.getElem?_map,hx];rfl)
  ·rfl
 ·rfl
theorem Zp6 {d:Za} {a b n:Int} {i:Nat} {y:ZI} (hy:(Za.Z0 (conn d a b n))[i]?=some y):∃ x,(Za.Z0 d)[i]?=some x∧ZI.Name y=ZI.Name x∧ZI.Dir y=ZI.Dir x∧(ZI.Net y=ZI.Net x∨ZI.Net y=n):=by
 unfold conn at hy
 split at hy
 ·have hy:(match (Za.Z0 d)[b.toNat]? with | some x=>(Za.Z0 d).set b.toNat (setPort x n) | none=>Za.Z0 d)[i]?=some y:=hy
  split at hy
  ·rename_i x hx
   rw [List.getElem?_set] at hy
   split at hy
   ·rename_i e
    split at hy
    ·injection hy with hy
     subst hy
     exact ⟨x,by rw [←e];exact hx,rfl,rfl,.inr rfl⟩
    ·cases hy
   ·exact ⟨y,hy,rfl,rfl,.inl rfl⟩
  ·exact ⟨y,hy,rfl,rfl,.inl rfl⟩
 ·exact ⟨y,hy,rfl,rfl,.inl rfl⟩
theorem ZjW {α:Type} {f:α→Bool} {y:α} (hy:f y=false):∀ {l:List α} {i:Nat} {x:α},l[i]?=some x→f x=false→(l.set i y).filter f=l.filter f
 | [],i,x,h,_=>by simp at h
 | a::l,0,x,h,hx=>by
  have h:a=x:=by simpa using h
  subst h
  simp [List.set,hx,hy]
 | a::l,i+1,x,h,hx=>by
  have:=ZjW hy (l:=l) (i:=i) (by simpa using h) hx
  simp only [List.set_cons_succ,List.filter_cons,this]
theorem Zh0 {x:Zd} (h:0<(Zd.ZP x).length):(Zd.ZP x)[(Zd.ZP x).length-1]?=some (Qa x):=by
 unfold Qa
 rw [List.getLastD_eq_getLast?,←List.getLast?_eq_getElem?]
 cases hN:Zd.ZP x with
 | nil=>rw [hN] at h;simp at h
 | cons y r=>rw [List.getLast?_cons];rfl
theorem ZnA {x:Zd} {j:Nat} {n:Int} (h:j+1≠(Zd.ZP x).length):Qa (Zek x j n)=Qa x:=by
 by_cases h0:0<(Zd.ZP x).length
 ·have h1:=Zh0 (x:=Zek x j n) (by show 0<(List.set (Zd.ZP x) j n).length;rw [List.length_set];exact h0)
  have h2:(List.set (Zd.ZP x) j n)[(List.set (Zd.ZP x) j n).length-1]?=some (Qa (Zek x j n)):=h1
  rw [List.length_set,List.getElem?_set,if_neg (by omega),Zh0 h0] at h2
  injection h2 with h2
  exact h2.symm
 ·have e:Zd.ZP x=[]:=List.length_eq_zero_iff.1 (by omega)
  unfold Qa
  show (List.set (Zd.ZP x) j n).getLastD 0=_
  rw [e];rfl
theorem ZtI {d:Za} (hf:Few d) {k:Nat} {p:Pl} (hp:(places d)[k]?=some p) (h2:p.2.2.2.1=false) (n:Int):ZmL (conn d p.1 p.2.1 n)=ZmL d:=by
 unfold ZmL
 rcases JU hp with ⟨i,j,x,m,hx,hn,e,rfl⟩ | ⟨j,q,hq,e,rfl⟩
 ·have hl:=hf.nets x (List.mem_of_getElem? hx)
  have hj:=(List.getElem?_eq_some_iff.1 hn).1
  have h3:decide ((j:Int)=IntKind.i64.wrap (((Zd.ZP x).length:Int)-1))=false:=h2
  rw [Jd (by omega) (by omega)] at h3
  have h4:¬((j:Int)=((Zd.ZP x).length:Int)-1):=of_decide_eq_false h3
  have c:¬((i:Int)<0):=by omega
  have e1:Za.Instances (conn d (ZdV i x j m).1 (ZdV i x j m).2.1 n)=(Za.Instances d).set i (Zek x j n):=by
   unfold conn
   show Za.Instances (if (i:Int)<0 then _ else _)=_
   rw [if_neg c]
   show (match (Za.Instances d)[(i:Int).toNat]? with | some x=>(Za.Instances d).set (i:Int).toNat (Zek x (j:Int).toNat n) | none=>Za.Instances d)=_
   simp only [Int.toNat_natCast,hx]
  have e2:Za.Z0 (conn d (ZdV i x j m).1 (ZdV i x j m).2.1 n)=Za.Z0 d:=by
   unfold conn
   show Za.Z0 (if (i:Int)<0 then _ else _)=_
   rw [if_neg c]
  rw [e1,e2,List.map_set,ZnA (by omega),Zb3 (by rw [List.getElem?_map,hx];rfl)]
 ·have h3:decide (ZI.Dir q=1)=false:=h2
  have e1:Za.Instances (conn d (-1) (j:Int) n)=Za.Instances d:=by
   unfold conn
   rw [if_pos (by omega)]
  have e2:Za.Z0 (conn d (-1) (j:Int) n)=(Za.Z0 d).set j (setPort q n):=by
   unfold conn
   rw [if_pos (by omega)]
   show (match (Za.Z0 d)[(j:Int).toNat]? with | some x=>(Za.Z0 d).set (j:Int).toNat (setPort x n) | none=>Za.Z0 d)=_
   simp only [Int.toNat_natCast,hq]
  show (Za.Instances (conn d (-1) (j:Int) n)).map Qa++((Za.Z0 (conn d (-1) (j:Int) n)).filter (fun p=>decide (ZI.Dir p=1))).map ZI.Net=_
  rw [e1,e2,ZjW (by exact h3) hq h3]
theorem ZqB {a:Zl} {d:Za} (h:Vl a d) {k:Nat} {p:Pl} (hp:(places d)[k]?=some p) (h2:p.2.2.2.1=false) {n:Int} (hn:ZbW d n):Vl a (conn d p.1 p.2.1 n):=by
 obtain ⟨hl,⟨n1,n2,n3,n4,n5,n6⟩,hi,hq,ho⟩:=h
 have hf:Few d:=Vl.few (a:=a) ⟨hl,⟨n1,n2,n3,n4,n5,n6⟩,hi,hq,ho⟩
 refine ⟨hl,⟨by rw [YN];exact n1,by rw [VQ];exact n2,by rw [Zgj];exact n3,by rw [ZqM];exact n4,by rw [VQ];exact n5,by rw [Zpx];exact n6⟩,fun y hy=>?_,fun y hy=>?_,?_⟩
 ·obtain ⟨i,hi2⟩:=List.getElem?_of_mem hy
  obtain ⟨x,hx,_,hc,hlen,_,hm⟩:=Ze1 hi2
  obtain ⟨r1,⟨c,r2,r3⟩,r4⟩:=hi x (List.mem_of_getElem? hx)
  refine ⟨by rw [hc];exact r1,⟨c,by rw [hc];exact r2,by rw [hlen];exact r3⟩,fun m hm2=>?_⟩
  unfold ZbW
  rw [VQ]
  rcases hm m hm2 with q | q
  ·exact r4 m q
  ·rw [q];exact hn
 ·obtain ⟨i,hi2⟩:=List.getElem?_of_mem hy
  obtain ⟨x,hx,_,hd,hm⟩:=Zp6 hi2
  obtain ⟨r1,r2⟩:=hq x (List.mem_of_getElem? hx)
  refine ⟨by rw [hd];exact r1,?_⟩
  unfold ZbW
  rw [VQ]
  rcases hm with q | q
  ·rw [q];exact r2
  ·rw [q];exact hn
 ·unfold Zgg
  rw [VQ,ZtI hf hp h2]
  exact ho
theorem ZrC {a:Zl} {d:Za} (h:Vl a d):∀ v∈ZmL d,ZbW d v:=by
 have hf:=h.few
 intro v hv
 unfold ZmL at hv
 rcases List.mem_append.1 hv with hv | hv
 ·obtain ⟨x,hx,rfl⟩:=List.mem_map.1 hv
  have:=hf.nets x hx
  exact ((h.2.2.1 x hx).last h.1 (by omega)).2
 ·obtain ⟨q,hq,rfl⟩:=List.mem_map.1 hv
  exact (h.2.2.2.1 q (List.mem_filter.1 hq).1).2
theorem ZkE {d:Za}:Zgg d↔∀ v:Nat,v<(Za.ZP d).length→(ZmL d).countP (fun x=>decide (x=(v:Int)))=1:=by
 unfold Zgg
 constructor
 ·intro h v hv
  have:=h _ (List.mem_of_getElem? (Zia (s:=ZmL d) hv))
  omega
 ·intro h x hx
  obtain ⟨j,hj⟩:=List.getElem?_of_mem hx
  have hlt:=(List.getElem?_eq_some_iff.1 hj).1
  rw [Zgv] at hlt
  rw [Zia hlt] at hj
  injection hj with hj
  have:=h j hlt
  omega
theorem Zqk {l:List Int} {v:Int} (h:∀ x∈l,x≠v):l.countP (fun x=>decide (x=v))=0:=by
 rw [List.countP_eq_zero]
 intro x hx
 simp [h x hx]
theorem ZwV {a:Zl} {d:Za} (h:Vl a d) {s:List UInt8} {c m:Int} {cell:Zh} (hs:Zbf s=true) (h1:s ∉ Zbk d) (h2:s ∉ Za.ZP d) (h13:(Za.Instances d).length≤13) (h29:(Za.ZP d).length≤29)
  (hc0:0≤c) (hc1:c≤((Zl.Cells a).length:Int)-1) (hc:(Zl.Cells a)[c.toNat]?=some cell) (hp:(Zh.YC cell).length=2) (hm:ZbW d m) :
  Vl a (addInst d (s,c,[m,((Za.ZP d).length:Int)],()) s):=by
 have hdn:=ZrC h
 obtain ⟨hl,⟨n1,n2,n3,n4,n5,n6⟩,hi,hq,ho⟩:=h
 have eI:Za.Instances (addInst d (s,c,[m,((Za.ZP d).length:Int)],()) s)=Za.Instances d++[(s,c,[m,((Za.ZP d).length:Int)],())]:=rfl
 have eN:Za.ZP (addInst d (s,c,[m,((Za.ZP d).length:Int)],()) s)=Za.ZP d++[s]:=rfl
 have eP:Za.Z0 (addInst d (s,c,[m,((Za.ZP d).length:Int)],()) s)=Za.Z0 d:=rfl
 have hnet:∀ n,ZbW d n→ZbW (addInst d (s,c,[m,((Za.ZP d).length:Int)],()) s) n:=fun n hn=>by
  unfold ZbW at *
  rw [eN,List.length_append,List.length_singleton]
  omega
 refine ⟨hl,⟨by rw [eI,List.length_append,List.length_singleton];omega,by rw [eN,List.length_append,List.length_singleton];omega,n3,?_,by rw [eN];exact n5.snoc hs h2,n6⟩,fun y hy=>?_,fun y hy=>?_,?_⟩
 ·have:Zbk (addInst d (s,c,[m,((Za.ZP d).length:Int)],()) s)=Zbk d++[s]:=by
   unfold Zbk
   rw [eI,List.map_append]
   rfl
  rw [this]
  exact n4.snoc hs h1
 ·rw [eI] at hy
  rcases List.mem_append.1 hy with hy | hy
  ·obtain ⟨r1,r2,r4⟩:=hi y hy
   exact ⟨r1,r2,fun n hn=>hnet n (r4 n hn)⟩
  ·rw [List.mem_singleton] at hy
   subst hy
   refine ⟨⟨hc0,hc1⟩,⟨cell,hc,by rw [hp];rfl⟩,fun n hn=>?_⟩
   have hn:n∈[m,((Za.ZP d).length:Int)]:=hn
   rcases List.mem_cons.1 hn with hn | hn
   ·rw [hn];exact hnet m hm
   ·rw [List.mem_singleton] at hn
    subst hn
    unfold ZbW
    rw [eN,List.length_append,List.length_singleton]
    omega
 ·obtain ⟨r1,r2⟩:=hq y hy
  exact ⟨r1,hnet _ r2⟩
 ·rw [ZkE] at ho ⊢
  intro v hv
  rw [eN,List.length_append,List.length_singleton] at hv
  have e:ZmL (addInst d (s,c,[m,((Za.ZP d).length:Int)],()) s)=(Za.Instances d).map Qa++[((Za.ZP d).length:Int)]++((Za.Z0 d).filter (fun p=>decide (ZI.Dir p=1))).map ZI.Net:=by
   unfold ZmL
   rw [eI,eP,List.map_append]
   rfl
  have e2:ZmL d=(Za.Instances d).map Qa++((Za.Z0 d).filter (fun p=>decide (ZI.Dir p=1))).map ZI.Net:=rfl
  rw [e,List.countP_append,List.countP_append,List.countP_singleton]
  by_cases hvl:v<(Za.ZP d).length
  ·have:=ho v hvl
   rw [e2,List.countP_append] at this
   rw [if_neg (by simp;omega)]
   omega
  ·have h0:=Zqk (l:=ZmL d) (v:=(v:Int)) (fun x hx=>by have:=(hdn x hx).2;omega)
   rw [e2,List.countP_append] at h0
   rw [if_pos (by simp;omega)]
   omega
theorem ZvW {d:Za} (hf:Few d) {p:Pl} (hp:p∈places d) (h2:p.2.2.2.1=true):p.2.2.1∈ZmL d:=by
 obtain ⟨k,hk⟩:=List.getElem?_of_mem hp
 unfold ZmL
 rcases JU hk with ⟨i,j,x,m,hx,hn,e,rfl⟩ | ⟨j,q,hq,e,rfl⟩
 ·have hl:=hf.nets x (List.mem_of_getElem? hx)
  have hj:=(List.getElem?_eq_some_iff.1 hn).1
  have h3:decide ((j:Int)=IntKind.i64.wrap (((Zd.ZP x).length:Int)-1))=true:=h2
  rw [Jd (by omega) (by omega)] at h3
  have h4:(j:Int)=((Zd.ZP x).length:Int)-1:=of_decide_eq_true h3
  refine List.mem_append_left _ (List.mem_map.2 ⟨x,List.mem_of_getElem? hx,?_⟩)
  have h5:=Zh0 (x:=x) (by omega)
  rw [show (Zd.ZP x).length-1=j by omega,hn] at h5
  injection h5 with h5
  exact h5.symm
 ·have h3:decide (ZI.Dir q=1)=true:=h2
  exact List.mem_append_right _ (List.mem_map.2 ⟨q,List.mem_filter.2 ⟨List.mem_of_getElem? hq,h3⟩,rfl⟩)
theorem ZwK {a:Zl} {d:Za} (h:Vl a d) {x:Zd} (hn:0<(Za.Instances d).length) (hx:(Za.Instances d)[(Za.Instances d).length-1]?=some x) (hlx:Qa x=((Za.ZP d).length:Int)-1)
  (hs:∀ p∈places d,p.2.2.2.1=false→p.2.2.1≠((Za.ZP d).length:Int)-1):Vl a (X8 d):=by
 have hdn:=ZrC h
 have hf:=h.few
 have hcut:=ZoI hn hx
 obtain ⟨hl,⟨n1,n2,n3,n4,n5,n6⟩,hi,hq,ho⟩:=h
 have hpos:1≤(Za.ZP d).length:=by
  have:=hdn (Qa x) (List.mem_append_left _ (List.mem_map.2 ⟨x,List.mem_of_getElem? hx,rfl⟩))
  unfold ZbW at this
  omega
 have eN:(Za.ZP (X8 d)).length=(Za.ZP d).length-1:=by
  show (List.take ((Za.ZP d).length-1) (Za.ZP d)).length=_
  rw [List.length_take];omega
 have eD:ZmL d=(Za.Instances (X8 d)).map Qa++[Qa x]++((Za.Z0 d).filter (fun p=>decide (ZI.Dir p=1))).map ZI.Net:=by
  unfold ZmL
  rw [hcut,List.map_append]
  rfl
 have eC:ZmL (X8 d)=(Za.Instances (X8 d)).map Qa++((Za.Z0 d).filter (fun p=>decide (ZI.Dir p=1))).map ZI.Net:=rfl
 have hcnt:∀ v:Int,(ZmL d).countP (fun y=>decide (y=v))=(ZmL (X8 d)).countP (fun y=>decide (y=v))+if Qa x=v then 1 else 0:=fun v=>by
  rw [eD,eC,List.countP_append,List.countP_append,List.countP_append,List.countP_singleton]
  by_cases q:Qa x=v
  ·simp only [q,decide_true,if_true];omega
  ·simp only [q,decide_false,if_false];simp
 rw [ZkE] at ho
 have none:∀ p∈places (X8 d),p.2.2.1≠((Za.ZP d).length:Int)-1:=by
  intro p hp e
  cases h2:p.2.2.2.1 with
  | false=>exact hs p (ZjN hn hp) h2 e
  | true =>
   have h3:=ZvW hf.cut hp h2
   have h4:=ho ((Za.ZP d).length-1) (by omega)
   rw [hcnt,if_pos (by omega)] at h4
   have h5:0<(ZmL (X8 d)).countP (fun y=>decide (y=(((Za.ZP d).length-1:Nat):Int))):=List.countP_pos_iff.2 ⟨_,h3,by simp;omega⟩
   omega
 have netC:∀ n,ZbW d n→n≠((Za.ZP d).length:Int)-1→ZbW (X8 d) n:=fun n h1 h2=>by
  unfold ZbW at *
  rw [eN]
  omega
 have eI:∀ i y,(Za.Instances (X8 d))[i]?=some y→(Za.Instances d)[i]?=some y:=fun i y hy=>by
  rw [hcut,List.getElem?_append_left (List.getElem?_eq_some_iff.1 hy).1]
  exact hy
 refine ⟨hl,⟨by show (List.take _ (Za.Instances d)).length≤14;rw [List.length_take];omega,by rw [eN];omega,n3,?_,n5.take _,n6⟩,fun y hy=>?_,fun y hy=>?_,?_⟩
 ·have:Zbk (X8 d)=(Zbk d).take ((Za.Instances d).length-1):=by
   unfold Zbk
   show List.map Zd.Name (List.take _ (Za.Instances d))=_
   rw [List.map_take]
  rw [this]
  exact n4.take _
 ·obtain ⟨i,hy2⟩:=List.getElem?_of_mem hy
  obtain ⟨r1,r2,r4⟩:=hi y (List.mem_of_getElem? (eI i y hy2))
  refine ⟨r1,r2,fun n hn2=>netC n (r4 n hn2) ?_⟩
  obtain ⟨j,hj⟩:=List.getElem?_of_mem hn2
  exact none _ (List.mem_of_getElem? (Ze4 hy2 hj))
 ·obtain ⟨r1,r2⟩:=hq y hy
  obtain ⟨j,hj⟩:=List.getElem?_of_mem hy
  exact ⟨r1,netC _ r2 (none _ (List.mem_of_getElem? (Zo7 (d:=X8 d) hj)))⟩
 ·rw [ZkE]
  intro v hv
  rw [eN] at hv
  have:=ho v (by omega)
  rw [hcnt,if_neg (by omega)] at this
  exact this
end Go.Proofs.YtfndhpjedmopdaaGreatDoor
/-
  Plain laws: the blocks that edits make are valid.
-/
namespace Go.Proofs.YtfndhpjedmopdaaGreatDoor
set_option linter.unusedVariables false
set_option linter.unusedSimpArgs false
open Go Go.Sx
theorem ZmO {l:List Int} (h:l.length≤1048576):sm (.sl (.int .i64)) l:=⟨by omega,fun _ _=>trivial⟩
theorem ZmM {s:List UInt8} {c:Int} {l:List Int} (h1:sm .str s) (h2:l.length≤1048576):sm Zw (s,c,l,()):=⟨h1,trivial,ZmO h2,trivial⟩
theorem ZpT {a b c d:List Int} (h1:a.length≤1048576) (h2:b.length≤1048576) (h3:c.length≤1048576) (h4:d.length≤1048576):sm YP (a,b,c,d,()):=⟨ZmO h1,ZmO h2,ZmO h3,ZmO h4,trivial⟩
theorem ZfD {a:List Zd} {b:List (List UInt8)} {c:List ZI} (h1:sm (.sl Zw) a) (h2:sm (.sl .str) b) (h3:sm (.sl Xa) c):sm Z9 (a,b,c,()):=⟨h1,h2,h3,trivial⟩
theorem Zfj {a:Zl} {b:Za} {c:List Zn} (h1:sm Z6 a) (h2:sm Z9 b) (h3:sm (.sl YP) c):sm Yt (a,b,c,()):=⟨h1,h2,h3,trivial⟩
theorem Zqx {d:Za} (h:sm Z9 d) (a b n:Int):sm Z9 (conn d a b n):=by
 obtain ⟨h1,h2,h3⟩:=Zb2 h
 have e:conn d a b n=(Za.Instances (conn d a b n),Za.ZP (conn d a b n),Za.Z0 (conn d a b n),()):=rfl
 rw [e]
 refine ZfD ⟨by rw [YN];exact h1.1,fun y hy=>?_⟩ (by rw [VQ];exact h3) ⟨by rw [Zgj];exact h2.1,fun y hy=>?_⟩
 ·obtain ⟨i,hi⟩:=List.getElem?_of_mem hy
  obtain ⟨x,hx,hn,_,hl,_⟩:=Ze1 hi
  obtain ⟨s1,s2⟩:=Ziz (Zag h1 hx)
  have s3:=Zm s2
  exact ZmM (s:=Zd.Name y) (c:=Zd.Cell y) (l:=Zd.ZP y) (by rw [hn];exact s1) (by rw [hl];exact s3)
 ·obtain ⟨i,hi⟩:=List.getElem?_of_mem hy
  obtain ⟨x,hx,hn,_⟩:=Zp6 hi
  have s1:=Zvr (Zag h2 hx)
  have:sm .str (ZI.Name y):=by rw [hn];exact s1
  exact ⟨this,trivial,trivial,trivial⟩
theorem Zwp {d:Za} (h:sm Z9 d) (hf:(Za.Instances d).length≤100) (hn:(Za.ZP d).length≤100) {x:Zd} {s:List UInt8} (hx:sm Zw x) (hs:sm .str s):sm Z9 (addInst d x s):=by
 obtain ⟨h1,h2,h3⟩:=Zb2 h
 refine ZfD ⟨by rw [List.length_append,List.length_singleton];omega,fun y hy=>?_⟩ ⟨by rw [List.length_append,List.length_singleton];omega,fun y hy=>?_⟩ h2
 ·rcases List.mem_append.1 hy with hy | hy
  ·exact h1.2 y hy
  ·rw [List.mem_singleton] at hy;rw [hy];exact hx
 ·rcases List.mem_append.1 hy with hy | hy
  ·exact h3.2 y hy
  ·rw [List.mem_singleton] at hy;rw [hy];exact hs
theorem Zqz {t:Ty} {l:List t.den} (h:sm (.sl t) l) (m:Nat):sm (.sl t) (l.take m):=by
 have:=h.1
 exact ⟨by rw [List.length_take];omega,fun x hx=>h.2 x (List.mem_of_mem_take hx)⟩
theorem ZwI {d:Za} (h:sm Z9 d):sm Z9 (X8 d):=by
 obtain ⟨h1,h2,h3⟩:=Zb2 h
 exact ZfD (Zqz h1 _) (Zqz h3 _) h2
theorem Zpm {pl:List Pl} {ws:List Zn} {nd:Nat→Int} (h:sm (.sl YP) ws) (hp:pl.length≤1048576):sm (.sl YP) (wired pl ws nd):=by
 have h1:=h.1
 refine ⟨by rw [Zgp];exact h1,fun y hy=>?_⟩
 obtain ⟨v,hv⟩:=List.getElem?_of_mem hy
 rw [Zd4] at hv
 cases hx:ws[v]? with
 | none=>rw [hx] at hv;cases hv
 | some w =>
  rw [hx] at hv
  injection hv with hv
  subst hv
  obtain ⟨a1,a2,a3,a4⟩:=Zjs (Zag h hx)
  have:=Zfz (v:Int) pl 0
  exact ZpT (Zm a1) (Zm a2) (Zm a3) (by rw [List.length_map];omega)
theorem ZuW {b:Zb} (h:ZaW b) {k:Nat} {p:Pl} (hp:(places (Zb.Design b))[k]?=some p) (h2:p.2.2.2.1=false) {n v:Int} (hn:ZbW (Zb.Design b) n) (hv:∀ w,(Zb.Zy b)[n.toNat]?=some w→0≤v∧v≤((Zn.Parent w).length:Int)-1):ZaW (moved b k p n v):=by
 have hpl:places (mvD b p n)=(places (Zb.Design b)).set k (p.1,p.2.1,n,p.2.2.2.1,()):=XP hp n
 obtain ⟨b1,b2,b3⟩:=Za5 h.sm
 have hD:Vl (Zb.Library b) (mvD b p n):=ZqB h.ok.1 hp h2 hn
 refine ⟨⟨hD,?_,?_⟩,?_⟩
 ·show (wired (places (mvD b p n)) (Zb.Zy b) (mvN b k v)).length=(Za.ZP (conn (Zb.Design b) p.1 p.2.1 n)).length
  rw [Zgp,VQ];exact h.ok.2.1
 ·exact Zpg (fun v w hw=>⟨_,h.ok.2.2 v w hw⟩) (by rw [hpl];exact (Zl4 h).set n v hv)
 ·have hl:=Qz hD.few
  exact Zfj b1 (Zqx b2 _ _ _) (Zpm b3 (by omega))
theorem ZsY {c c2:Zh} (h1:sm YL c) (h2:sm YL c2) (h:VF c c2=some true):(Zh.YC c2).length=(Zh.YC c).length:=by
 unfold VF at h
 by_cases q:Zh.Kind c=Zh.Kind c2
 ·by_cases q2:((Zh.YC c).length:Int)=((Zh.YC c2).length:Int)
  ·omega
  ·exfalso;revert h;simp [q,q2]
 ·exfalso;revert h;simp [q]
theorem ZiQ {d:Za} {i:Nat} {x:Zd} (hx:(Za.Instances d)[i]?=some x) (c:Int):places ((Za.Instances d).set i (Zd.Name x,c,Zd.ZP x,()),Za.ZP d,Za.Z0 d,())=places d:=by
 show cat QH 0 ((Za.Instances d).set i (Zd.Name x,c,Zd.ZP x,()))++cat Ze0 0 (Za.Z0 d)=_
 unfold places
 congr 1
 have hlt:=(List.getElem?_eq_some_iff.1 hx).1
 have e1:=ZfF QH hx
 have hx2:((Za.Instances d).set i (Zd.Name x,c,Zd.ZP x,()))[i]?=some (Zd.Name x,c,Zd.ZP x,()):=List.getElem?_set_self hlt
 have e2:=ZfF QH hx2
 rw [e1,e2,List.take_set_of_le (Nat.le_refl _),List.drop_set_of_lt (by omega)]
 rfl
theorem ZrY {b:Zb} (h:ZaW b) {i:Int} (h0:0≤i) {x:Zd} (hx:(Za.Instances (Zb.Design b))[i.toNat]?=some x) {c:Int} {c1 c2:Zh} (hc1:(Zl.Cells (Zb.Library b))[(Zd.Cell x).toNat]?=some c1) (hc2:(Zl.Cells (Zb.Library b))[c.toNat]?=some c2)
  (hc:0≤c∧c≤((Zl.Cells (Zb.Library b)).length:Int)-1) (ha:(Zh.YC c2).length=(Zh.YC c1).length):ZaW (swapped b i c):=by
 obtain ⟨b1,b2,b3⟩:=Za5 h.sm
 obtain ⟨s1,s2,s3⟩:=Zb2 b2
 obtain ⟨⟨hl,⟨n1,n2,n3,n4,n5,n6⟩,hi,hq,ho⟩,hwn,hw⟩:=h.ok
 have e:swapped b i c=(Zb.Library b,((Za.Instances (Zb.Design b)).set i.toNat (Zd.Name x,c,Zd.ZP x,()),Za.ZP (Zb.Design b),Za.Z0 (Zb.Design b),()),Zb.Zy b,()):=by
  unfold swapped
  rw [hx]
 have hpl:=ZiQ hx c
 rw [e]
 have hmem:∀ y∈(Za.Instances (Zb.Design b)).set i.toNat (Zd.Name x,c,Zd.ZP x,()),y∈Za.Instances (Zb.Design b)∨y=(Zd.Name x,c,Zd.ZP x,()):=fun y hy=>List.mem_or_eq_of_mem_set hy
 refine ⟨⟨⟨hl,⟨by show (List.set _ _ _).length≤14;rw [List.length_set];exact n1,n2,n3,?_,n5,n6⟩,fun y hy=>?_,hq,?_⟩,hwn,?_⟩,?_⟩
 ·have:Zbk ((Za.Instances (Zb.Design b)).set i.toNat (Zd.Name x,c,Zd.ZP x,()),Za.ZP (Zb.Design b),Za.Z0 (Zb.Design b),())=Zbk (Zb.Design b):=by
   show List.map Zd.Name (List.set _ _ _)=_
   rw [List.map_set]
   exact Zb3 (by rw [List.getElem?_map,hx];rfl)
  exact this▸n4
 ·rcases hmem y hy with hy | hy
  ·exact hi y hy
  ·subst hy
   obtain ⟨r1,⟨c',r2,r3⟩,r4⟩:=hi x (List.mem_of_getElem? hx)
   have r2:(Zl.Cells (Zb.Library b))[(Zd.Cell x).toNat]?=some c':=r2
   rw [hc1] at r2
   injection r2 with r2
   subst r2
   exact ⟨hc,⟨c2,hc2,by rw [ha];exact r3⟩,r4⟩
 ·unfold Zgg
  have:ZmL ((Za.Instances (Zb.Design b)).set i.toNat (Zd.Name x,c,Zd.ZP x,()),Za.ZP (Zb.Design b),Za.Z0 (Zb.Design b),())=ZmL (Zb.Design b):=by
   unfold ZmL
   congr 1
   show List.map Qa (List.set _ _ _)=_
   rw [List.map_set]
   exact Zb3 (by rw [List.getElem?_map,hx];rfl)
  rw [this]
  exact ho
 ·intro k w hk
  have:=hw k w hk
  unfold sinks at *
  have hpl2:places (Zb.Design ((Zb.Library b,((Za.Instances (Zb.Design b)).set i.toNat (Zd.Name x,c,Zd.ZP x,()),Za.ZP (Zb.Design b),Za.Z0 (Zb.Design b),()),Zb.Zy b,()):Zb))=places (Zb.Design b):=hpl
  rw [hpl2]
  exact this
 ·refine Zfj b1 (ZfD ⟨by rw [List.length_set];exact s1.1,fun y hy=>?_⟩ s3 s2) b3
  rcases hmem y hy with hy | hy
  ·exact s1.2 y hy
  ·subst hy
   obtain ⟨q1,q2⟩:=Ziz (Zag s1 hx)
   exact ZmM q1 (Zm q2)
theorem ZtV {b:Zb} (h:ZaW b) {n:Int} (hn:ZbW (Zb.Design b) n) {w:Zn} (hw:Zb9 w ((sinks (Zb.Design b) n).length:Int)) (hs:sm YP w):ZaW (Zvs b n w):=by
 obtain ⟨b1,b2,b3⟩:=Za5 h.sm
 obtain ⟨hD,hwn,hW⟩:=h.ok
 refine ⟨⟨hD,by show (List.set _ _ _).length=_;rw [List.length_set];exact hwn,?_⟩,Zfj b1 b2 ⟨by rw [List.length_set];exact b3.1,fun y hy=>?_⟩⟩
 ·intro k y hk
  have hk:((Zb.Zy b).set n.toNat w)[k]?=some y:=hk
  rw [List.getElem?_set] at hk
  split at hk
  ·rename_i e
   split at hk
   ·injection hk with hk
    subst hk
    rw [←e]
    show Zb9 w ((sinks (Zb.Design b) ((n.toNat:Nat):Int)).length:Int)
    rw [show ((n.toNat:Nat):Int)=n by have:=hn.1;omega]
    exact hw
   ·cases hk
  ·exact hW k y hk
 ·rcases List.mem_or_eq_of_mem_set hy with hy | hy
  ·exact b3.2 y hy
  ·rw [hy];exact hs
theorem Zh3 {b:Zb} (h:ZaW b) {e:Zf} {k:Nat} {p q:Pl} (hp:(places (Zb.Design b))[k]?=some p):(places (addInst (Zb.Design b) (Zoj b e q) (Zf.Name e)))[Zrp b k]?=some p:=by
 unfold Zrp
 by_cases hk:k<YB (Zb.Design b)
 ·rw [if_pos hk,Zpz hk];exact hp
 ·rw [if_neg hk]
  have:=Zn5 (d:=Zb.Design b) (x:=Zoj b e q) (s:=Zf.Name e) (k:=k) (by omega)
  rw [show (Zd.ZP (Zoj b e q)).length=2 from rfl] at this
  rw [this];exact hp
theorem ZuF {d:Za} {k:Nat} {p:Pl} (hp:(places d)[k]?=some p) (h1:p.1<((Za.Instances d).length:Int)∨True):p.1<((Za.Instances d).length:Int):=by
 rcases JU hp with ⟨i,j,x,m,hx,hn,e,rfl⟩ | ⟨j,q,hq,e,rfl⟩
 ·have:=(List.getElem?_eq_some_iff.1 hx).1
  show (i:Int)<_
  omega
 ·show (-1:Int)<_
  omega
theorem Zgn {b:Zb} {e:Zf} {k:Nat} {p:Pl} (hp:(places (Zb.Design b))[k]?=some p):Zpr b e p=conn (addInst (Zb.Design b) (Zoj b e p) (Zf.Name e)) p.1 p.2.1 ((Za.ZP (Zb.Design b)).length:Int) :=
 (Zus (ZuF hp (.inr trivial))).symm
theorem ZvY:Zb9 ZrO 0:=by
 refine ⟨⟨by decide,by decide⟩,rfl,rfl,rfl,fun k x hk=>?_,?_,?_,?_⟩
 ·match k,hk with
  | 0,hk =>
   injection hk with hk
   exact ⟨fun _=>⟨hk.symm,rfl⟩,fun h=>by omega⟩
  | k+1,hk=>cases hk
 ·intro x hx
  rw [show Zn.Res ZrO=[0] from rfl,List.mem_singleton] at hx
  omega
 ·intro x hx
  rw [show Zn.Cap ZrO=[0] from rfl,List.mem_singleton] at hx
  omega
 ·intro x hx
  cases hx
theorem ZuB {b:Zb} (h:ZaW b) {e:Zf} {k:Nat} {p:Pl} (hp:(places (Zb.Design b))[k]?=some p) (h2:p.2.2.2.1=false) :
  Fits (places (addInst (Zb.Design b) (Zoj b e p) (Zf.Name e))) (Zb.Zy b++[ZrO]) (Zq0 (Y5 b) (YB (Zb.Design b)) (Y5 b k)):=by
 have hf:=h.ok.1.few
 have hold:=Zl4 h
 have hws:∀ (m:Int) (w:Zn),ZbW (Zb.Design b) m→(Zb.Zy b++[ZrO])[m.toNat]?=some w→(Zb.Zy b)[m.toNat]?=some w:=fun m w hm hw=>by
  rw [List.getElem?_append_left (by rw [h.ok.2.1];unfold ZbW at hm;omega)] at hw
  exact hw
 intro j q w hq hd hw
 unfold Zq0
 have hil:YB (Zb.Design b)≤YB (Zb.Design b):=Nat.le_refl _
 by_cases c1:j<YB (Zb.Design b)
 ·rw [if_pos c1]
  rw [Zpz c1] at hq
  exact hold j q w hq hd (hws _ _ (Za1 h.ok.1 (List.mem_of_getElem? hq)) hw)
 ·rw [if_neg c1]
  by_cases c2:j=YB (Zb.Design b)
  ·rw [if_pos c2]
   have:=add_mid (d:=Zb.Design b) (x:=Zoj b e p) (s:=Zf.Name e) (j:=0) (by show 0<2;omega)
   rw [Nat.add_zero,←c2,hq] at this
   have e1:q=ZdV (Za.Instances (Zb.Design b)).length (Zoj b e p) 0 p.2.2.1:=by
    have h3:=Zgi (i:=(Za.Instances (Zb.Design b)).length) (x:=Zoj b e p) (j:=0) (n:=p.2.2.1) rfl
    rw [←this] at h3
    injection h3
   have e2:q.2.2.1=p.2.2.1:=by rw [e1];rfl
   rw [e2] at hw
   exact hold k p w hp h2 (hws _ _ (Za1 h.ok.1 (List.mem_of_getElem? hp)) hw)
  ·rw [if_neg c2]
   by_cases c3:j=YB (Zb.Design b)+1
   ·exfalso
    have:=add_mid (d:=Zb.Design b) (x:=Zoj b e p) (s:=Zf.Name e) (j:=1) (by show 1<2;omega)
    rw [←c3,hq] at this
    have h3:=Zgi (i:=(Za.Instances (Zb.Design b)).length) (x:=Zoj b e p) (j:=1) (n:=((Za.ZP (Zb.Design b)).length:Int)) rfl
    rw [←this] at h3
    injection h3 with h3
    rw [h3] at hd
    revert hd
    show ¬(decide ((1:Int)=IntKind.i64.wrap ((2:Int)-1))=false)
    rw [Jd (by omega) (by omega)]
    simp
   ·rw [if_neg c3]
    have:=Zn5 (d:=Zb.Design b) (x:=Zoj b e p) (s:=Zf.Name e) (k:=j-2) (by omega)
    rw [show (Zd.ZP (Zoj b e p)).length=2 from rfl,show j-2+2=j by omega,hq] at this
    exact hold (j-2) q w this.symm hd (hws _ _ (Za1 h.ok.1 (List.mem_of_getElem? this.symm)) hw)
theorem Zoh {α:Type} {p:α→Bool} {l:List α} (h:Zbx p l<0):∀ x∈l,p x=false:=by
 intro x hx
 cases hp:p x with
 | false=>rfl
 | true =>
  have:=ZcF.2 (List.any_eq_true.2 ⟨x,hx,hp⟩)
  omega
theorem Zi7 {b:Zb} {e:Zf} (h:Zpd b e) (k2:Zf.Kind e=2) (hs:sm .str (Zf.Name e)) {p:Pl} (hp:Zfr b e p):ZaW (buffered b e (Zf.Place e).toNat p):=by
 have hB:=h.blk
 obtain ⟨b1,b2,b3⟩:=Za5 hB.sm
 obtain ⟨l1,l2⟩:=h.lim k2
 obtain ⟨p',c,hp',hd,hc,hk,hpins,hname,hni,hnn⟩:=h.poss.2.1 k2
 have:p'=p:=by
  have:=hp'.2
  rw [hp.2] at this
  injection this with this
  exact this.symm
 subst this
 obtain ⟨_,hcr⟩:=h.range.1 (.inr k2)
 have hc2:(Zl.Cells (Zb.Library b))[(Zf.Cell e).toNat]?=some c:=by
  have:=hc
  unfold atI at this
  rw [if_pos hcr.1] at this
  exact this
 have hA:Vl (Zb.Library b) (addInst (Zb.Design b) (Zoj b e p') (Zf.Name e)):=by
  refine ZwV hB.ok.1 hname (fun hm=>?_) (fun hm=>?_) l1 l2 hcr.1 hcr.2 hc2 hpins (Za1 hB.ok.1 hp.mem)
  ·obtain ⟨x,hx,e1⟩:=List.mem_map.1 hm
   have:=Zoh hni x hx
   simp [e1] at this
  ·have:=Zoh hnn _ hm
   simp at this
 have hN:ZbW (addInst (Zb.Design b) (Zoj b e p') (Zf.Name e)) ((Za.ZP (Zb.Design b)).length:Int):=by
  unfold ZbW
  show 0≤_∧_≤((Za.ZP (Zb.Design b)++[Zf.Name e]).length:Int)-1
  rw [List.length_append,List.length_singleton]
  omega
 have hpk:=Zh3 (e:=e) (q:=p') hB hp.2
 have hD:Vl (Zb.Library b) (Zpr b e p'):=by
  rw [Zgn hp.2]
  exact ZqB hA hpk hd hN
 have hl:=Qz hD.few
 have hwn:=hB.ok.2.1
 have hpl:places (Zpr b e p')=(places (addInst (Zb.Design b) (Zoj b e p') (Zf.Name e))).set (Zrp b (Zf.Place e).toNat) (p'.1,p'.2.1,((Za.ZP (Zb.Design b)).length:Int),p'.2.2.2.1,()):=by
  rw [Zgn hp.2]
  exact XP hpk _
 refine ⟨⟨hD,?_,?_⟩,?_⟩
 ·show (wired (places (Zpr b e p')) (Zb.Zy b++[ZrO]) (Zxl b (Zf.Place e).toNat)).length=(Za.ZP (conn (Zb.Design b) p'.1 p'.2.1 _)++[Zf.Name e]).length
  rw [Zgp,List.length_append,List.length_append,VQ,hwn]
  rfl
 ·refine Zpg (pl:=places (Zpr b e p')) (fun v w hw=>?_) ?_
  ·by_cases hv:v<(Zb.Zy b).length
   ·rw [List.getElem?_append_left hv] at hw
    exact ⟨_,hB.ok.2.2 v w hw⟩
   ·rw [List.getElem?_append_right (by omega)] at hw
    have:=List.mem_of_getElem? hw
    rw [List.mem_singleton] at this
    rw [this]
    exact ⟨_,ZvY⟩
  ·rw [hpl]
   refine (ZuB hB hp.2 hd).set _ 0 (fun w hw=>?_)
   rw [Int.toNat_natCast,←hwn,List.getElem?_append_right (Nat.le_refl _),Nat.sub_self] at hw
   injection hw with hw
   rw [←hw]
   exact ⟨Int.le_refl _,by show (0:Int)≤(1:Int)-1;omega⟩
 ·refine Zfj b1 ?_ (Zpm ⟨?_,fun y hy=>?_⟩ (by omega))
  ·exact Zwp (Zqx b2 _ _ _) (by rw [YN];omega) (by rw [VQ];omega) (ZmM hs (by show 2≤_;omega)) hs
  ·rw [List.length_append,List.length_singleton]
   have:=hB.ok.1.2.1.2.1
   omega
  ·rcases List.mem_append.1 hy with hy | hy
   ·exact b3.2 y hy
   ·rw [List.mem_singleton] at hy
    rw [hy]
    exact ZpT (by decide) (by decide) (by decide) (by decide)
end Go.Proofs.YtfndhpjedmopdaaGreatDoor
/-
  Plain laws: a block with a buffer less is valid.
-/
namespace Go.Proofs.YtfndhpjedmopdaaGreatDoor
set_option linter.unusedVariables false
set_option linter.unusedSimpArgs false
open Go Go.Sx
theorem Fits.cut {d:Za} {ws:List Zn} {nd:Nat→Int} (h:Fits (places d) ws nd) {x:Zd} (hn:0<(Za.Instances d).length) (hx:(Za.Instances d)[(Za.Instances d).length-1]?=some x) (h2:(Zd.ZP x).length=2) (m:Nat) :
  Fits (places (X8 d)) (ws.take m) (Zpb nd (YB (X8 d))):=by
 intro k p w hp hd hw
 rw [List.getElem?_take] at hw
 split at hw
 ·unfold Zpb
  have hpc:=Zgl (s:=[]) hn hx
  by_cases c:k<YB (X8 d)
  ·rw [if_pos c]
   exact h k p w (by rw [hpc,Zpz c];exact hp) hd hw
  ·rw [if_neg c]
   have:=Zn5 (d:=X8 d) (x:=x) (s:=[]) (k:=k) (by omega)
   rw [h2] at this
   exact h (k+2) p w (by rw [hpc,this];exact hp) hd hw
 ·cases hw
theorem Zez (d:Za):(places d).length=YB d+(Za.Z0 d).length:=by
 unfold places YB
 rw [List.length_append,Zpw]
theorem Zky {d:Za} {k:Nat} {p:Pl} (hp:(places d)[k]?=some p) (n:Int):YB (conn d p.1 p.2.1 n)=YB d:=by
 have h1:=Zez d
 have h2:=Zez (conn d p.1 p.2.1 n)
 rw [XP hp,List.length_set,Zgj] at h2
 omega
theorem Zj0 {b:Zb} (h:ZaW b) (hL:ZjE b) {k:Nat} {p:Pl} {m:Int} (hs:sinks (Zb.Design b) (((Za.ZP (Zb.Design b)).length:Int)-1)=[(k:Int)]) (hp:(places (Zb.Design b))[k]?=some p) (hpi:p.1≠((Za.Instances (Zb.Design b)).length:Int)-1)
  (hm:∀ x,(Za.Instances (Zb.Design b))[(Za.Instances (Zb.Design b)).length-1]?=some x→atI (Zd.ZP x) 0=some m):ZaW (Zk0 b k p m):=by
 obtain ⟨b1,b2,b3⟩:=Za5 h.sm
 obtain ⟨k',p',hs',hp',hpn,hpd,hpi'⟩:=hL.sink h
 have ek:k=k':=by
  rw [hs] at hs'
  injection hs' with hs' _
  omega
 subst ek
 rw [hp] at hp'
 injection hp' with hp'
 subst hp'
 obtain ⟨x,c,w,m',hn,hx,hc,hk1,hk2,hl2,hm',hl,hne,hnm,hw,hs1,hs2,hp1,hc0⟩:=hL
 have em:m'=m:=by
  have:=hm x hx
  rw [hm'] at this
  injection this
 subst em
 have hD:=h.ok.1
 have hwn:=h.ok.2.1
 have hm0:(Zd.ZP x)[0]?=some m':=hm'
 have hl1:(Zd.ZP x)[1]?=some (((Za.ZP (Zb.Design b)).length:Int)-1):=hl
 have hmn:=(hD.2.2.1 x (List.mem_of_getElem? hx)).2.2 m' (List.mem_of_getElem? hm0)
 have hlx:Qa x=((Za.ZP (Zb.Design b)).length:Int)-1:=by
  have:=Zh0 (x:=x) (by omega)
  rw [hl2,show 2-1=1 from rfl,hl1] at this
  injection this with this
  exact this.symm
 have hC:Vl (Zb.Library b) (conn (Zb.Design b) p.1 p.2.1 m'):=ZqB hD hp hpd hmn
 have hn2:0<(Za.Instances (conn (Zb.Design b) p.1 p.2.1 m')).length:=by rw [YN];exact hn
 have hx2:(Za.Instances (conn (Zb.Design b) p.1 p.2.1 m'))[(Za.Instances (conn (Zb.Design b) p.1 p.2.1 m')).length-1]?=some x:=by
  have hy:(Za.Instances (conn (Zb.Design b) p.1 p.2.1 m'))[(Za.Instances (conn (Zb.Design b) p.1 p.2.1 m')).length-1]?=some ((Za.Instances (conn (Zb.Design b) p.1 p.2.1 m'))[(Za.Instances (conn (Zb.Design b) p.1 p.2.1 m')).length-1]'(by omega)):=List.getElem?_eq_getElem _
  generalize (Za.Instances (conn (Zb.Design b) p.1 p.2.1 m'))[(Za.Instances (conn (Zb.Design b) p.1 p.2.1 m')).length-1]'(by omega)=y at hy
  obtain ⟨x',hx',_,_,_,he,_⟩:=Ze1 hy
  rw [YN,hx] at hx'
  injection hx' with hx'
  rw [hy,hx',he (by rw [YN];omega)]
 have hsn:∀ q∈places (conn (Zb.Design b) p.1 p.2.1 m'),q.2.2.2.1=false→q.2.2.1≠((Za.ZP (conn (Zb.Design b) p.1 p.2.1 m')).length:Int)-1:=by
  intro q hq hd e
  rw [VQ] at e
  rw [XP hp] at hq
  obtain ⟨j,hj⟩:=List.getElem?_of_mem hq
  rw [List.getElem?_set] at hj
  split at hj
  ·split at hj
   ·injection hj with hj
    subst hj
    exact hne e
   ·cases hj
  ·rename_i hjk
   have h3:=Zj3 hj e hd
   have h4:(sinks (Zb.Design b) (((Za.ZP (Zb.Design b)).length:Int)-1))[nth (places (Zb.Design b)) (((Za.ZP (Zb.Design b)).length:Int)-1) j]?=some (j:Int):=h3
   rw [hs] at h4
   have h5:=List.mem_of_getElem? h4
   rw [List.mem_singleton] at h5
   exact absurd (by omega) hjk
 have hU:Vl (Zb.Library b) (unD b p m'):=ZwK hC hn2 hx2 (by rw [VQ];exact hlx) hsn
 have hins:YB (unD b p m')=YB (Zb.Design b)-2:=by
  have h1:=Zhk hn2 hx2 hl2
  have h2:=Zky hp m'
  unfold unD
  omega
 have hpl:=Qz hU.few
 refine ⟨⟨hU,?_,?_⟩,?_⟩
 ·show (wired (places (unD b p m')) ((Zb.Zy b).take ((Zb.Zy b).length-1)) (unN b k)).length=((Za.ZP (conn (Zb.Design b) p.1 p.2.1 m')).take ((Za.ZP (conn (Zb.Design b) p.1 p.2.1 m')).length-1)).length
  rw [Zgp,List.length_take,List.length_take,VQ,hwn]
 ·refine Zpg (pl:=places (unD b p m')) (fun v w hw=>?_) ?_
  ·rw [List.getElem?_take] at hw
   split at hw
   ·exact ⟨_,h.ok.2.2 v w hw⟩
   ·cases hw
  ·have h1:Fits (places (conn (Zb.Design b) p.1 p.2.1 m')) (Zb.Zy b) (mvN b k (Y5 b (YB (Zb.Design b)-2))):=by
    rw [XP hp]
    refine (Zl4 h).set m' _ (fun w' hw'=>?_)
    have h5:=Ze4 hx hm0
    rw [Nat.add_zero,Zn3 hn hx hl2] at h5
    refine Zl4 h _ _ w' h5 ?_ hw'
    show decide ((0:Int)=IntKind.i64.wrap (((Zd.ZP x).length:Int)-1))=false
    rw [hl2,Jd (by omega) (by omega)]
    decide
   have h2:=h1.cut hn2 hx2 hl2 ((Zb.Zy b).length-1)
   have h3:YB (X8 (conn (Zb.Design b) p.1 p.2.1 m'))=YB (Zb.Design b)-2:=hins
   rw [h3] at h2
   exact h2
 ·exact Zfj b1 (ZwI (Zqx b2 _ _ _)) (Zpm (Zqz b3 _) (by omega))
end Go.Proofs.YtfndhpjedmopdaaGreatDoor
/-
  Plain laws: the reference's own copies; places connected, sinks attached (reference); edits applied.
-/
namespace Go.Proofs.YtfndhpjedmopdaaGreatDoor
set_option linter.unusedVariables false
set_option linter.unusedSimpArgs false
open Go Go.Sx
theorem ZlQ (t:Zt) (ht:sm Yh t):ZeB t=some t:=by
 have e1:=ZdN (Zt.Zfx t) (Zm (t:=.int .i64) ht.1)
 have e2:=ZdN (Zt.Loads t) (Zm (t:=.int .i64) ht.2.1)
 have e3:=ZdN (Zt.Values t) (Zm (t:=.int .i64) ht.2.2.1)
 unfold ZeB
 rw [e1,e2,e3]
 rfl
theorem Zgd (l:List Zt) (hl:sm (.sl Yh) l):Vz l=some l:=by
 have h1:=Zm hl
 unfold Vz
 have:=YH (l:=l) (fun k=>(l.take k,(k:Int),())) (step:=fun v=>XE l v.1 v.2.1) (good:=l) (fun k x hx hk=>by
  have hg:((l.take k).length+[x].length)*72≤140737488355328:=by rw [List.length_take,List.length_singleton];omega
  simp only [XE,show (k:Int)<(l.length:Int) by omega,if_true,Zr,hx,Option.bind_some,ZlQ x (Zag hl hx),Zi hg,Zah (show k≤1048576 by omega)]
  rw [YD hx]) (by
  simp only [XE,Int.lt_irrefl,if_false,List.take_length])
 simpa using this
theorem ZmH (c:Zh) (hs:sm YL c):Zen c=some c:=by
 have p1:sm (.sl Je) (Zh.YC c):=hs.2.2.1
 have p2:sm (.sl ZaK) (Zh.Zbc c):=hs.2.2.2.1
 have p3:sm (.sl (.int .i64)) (Zh.Truth c):=hs.2.2.2.2.1
 have l1:=Zm p1
 have l2:=Zm p2
 have l3:=Zm p3
 unfold Zen
 rw [Zi (by rw [List.length_nil];omega),ZdN _ l3,Option.bind_some]
 have:=YH (l:=Zh.Zbc c) (fun k=>((k:Int),(Zh.Zbc c).take k,())) (step:=fun v=>JK c (Zh.Truth c) v.1 v.2.1) (good:=c) (fun k x hx hk=>by
  obtain ⟨q1,q2⟩:=Zua (Zag p2 hx)
  have hg:∀ y:ZM,(((Zh.Zbc c).take k).length+[y].length)*80≤140737488355328:=fun y=>by rw [List.length_take,List.length_singleton];omega
  simp only [JK,show (k:Int)<((Zh.Zbc c).length:Int) by omega,if_true,Zr,hx,Option.bind_some,Zgd _ q1,Zgd _ q2,Zi (hg _),Zah (show k≤1048576 by omega)]
  rw [YD hx]) (by
  simp only [JK,Int.lt_irrefl,if_false,List.take_length]
  rfl)
 simpa using this
theorem Zjy (a:Zl) (ha:sm Z6 a):VY a=some a:=by
 have hc:=ZnN ha
 have h1:=Zm hc
 unfold VY
 have:=YH (l:=Zl.Cells a) (fun k=>((k:Int),(Zl.Cells a).take k,())) (step:=fun v=>Xq a v.1 v.2.1) (good:=a) (fun k x hx hk=>by
  have hg:(((Zl.Cells a).take k).length+[x].length)*112≤140737488355328:=by rw [List.length_take,List.length_singleton];omega
  simp only [Xq,show (k:Int)<((Zl.Cells a).length:Int) by omega,if_true,Zr,hx,Option.bind_some,ZmH x (Zag hc hx),Zi hg,Zah (show k≤1048576 by omega)]
  rw [YD hx]) (by
  simp only [Xq,Int.lt_irrefl,if_false,List.take_length])
 simpa using this
theorem ZkJ (d:Za) (hd:sm Z9 d):ZeH d=some d:=by
 obtain ⟨s1,s2,s3⟩:=Zb2 hd
 have l1:=Zm s1
 have l2:=Zm s2
 have l3:=Zm s3
 unfold ZeH
 rw [Zi (by rw [List.length_nil];omega),Zi (by rw [List.length_nil];omega)]
 have:=YH (l:=Za.Instances d) (fun k=>((k:Int),(Za.Instances d).take k,())) (step:=fun v=>JC d v.1 v.2.1) (good:=d) (fun k x hx hk=>by
  have hx2:=ZdN (Zd.ZP x) (Zm (Ziz (Zag s1 hx)).2)
  have hg:∀ y:Zd,(((Za.Instances d).take k).length+[y].length)*48≤140737488355328:=fun y=>by rw [List.length_take,List.length_singleton];omega
  simp only [JC,show (k:Int)<((Za.Instances d).length:Int) by omega,if_true,Zr,hx,Option.bind_some,hx2,Zi (hg _),Zah (show k≤1048576 by omega)]
  rw [YD hx]) (by
  simp only [JC,Int.lt_irrefl,if_false,List.take_length]
  rfl)
 simpa using this
theorem Zme (b:Zb) (hb:sm Yt b):Zda b=some b:=by
 obtain ⟨b1,b2,b3⟩:=Za5 hb
 have h1:=Zm b3
 unfold Zda
 rw [Zjy _ b1,Option.bind_some,ZkJ _ b2,Option.bind_some]
 have:=YH (l:=Zb.Zy b) (fun k=>((k:Int),(Zb.Zy b).take k,())) (step:=fun v=>JF b (Zb.Library b) (Zb.Design b) v.1 v.2.1) (good:=b) (fun k x hx hk=>by
  have hg:(((Zb.Zy b).take k).length+[x].length)*96≤140737488355328:=by rw [List.length_take,List.length_singleton];omega
  simp only [JF,show (k:Int)<((Zb.Zy b).length:Int) by omega,if_true,Zr,hx,Option.bind_some,Zhi x (Zag b3 hx),Zi hg,Zah (show k≤1048576 by omega)]
  rw [YD hx]) (by
  simp only [JF,Int.lt_irrefl,if_false,List.take_length])
 simpa using this
theorem ZfJ {d:Za} {k:Nat} {p:Pl} (hp:(places d)[k]?=some p) (n:Int):VN d p n=some (conn d p.1 p.2.1 n):=by
 unfold VN conn
 rcases JU hp with ⟨i,j,x,m,hx,hn,e,rfl⟩ | ⟨j,q,hq,e,rfl⟩
 ·have c:¬((i:Int)<0):=by omega
  simp only [ZdV,Ya.instance,Ya.pin,if_neg c,Zr,hx,Option.bind_some,Int.toNat_natCast]
  have hn2:x.2.2.1[j]?=some m:=hn
  rw [hn2]
  rfl
 ·have c:((-1:Int)<0):=by omega
  simp only [Ya.instance,Ya.pin,if_pos c,Zr,hq,Option.bind_some,Int.toNat_natCast]
  rfl
def Zst (pl:List Pl) (ws:List Zn) (nd:Nat→Int) (k:Nat):List Zn:=cat (fun v w=>[if v<k then Zey w ((cat (Zbw (v:Int)) 0 pl).map (fun k=>nd k.toNat)) else w]) 0 ws
theorem Zh2 (pl:List Pl) (ws:List Zn) (nd:Nat→Int) (k v:Nat):(Zst pl ws nd k)[v]?=(ws[v]?).map (fun w=>if v<k then Zey w ((cat (Zbw (v:Int)) 0 pl).map (fun k=>nd k.toNat)) else w):=by
 unfold Zst
 rw [Zb5,Nat.zero_add]
theorem ZoF (pl:List Pl) (ws:List Zn) (nd:Nat→Int) (k:Nat):(Zst pl ws nd k).length=ws.length:=ZaR _ _
theorem Zsy (pl:List Pl) (ws:List Zn) (nd:Nat→Int):Zst pl ws nd 0=ws:=by
 apply List.ext_getElem?
 intro v
 rw [Zh2]
 simp
theorem Zvc (pl:List Pl) (ws:List Zn) (nd:Nat→Int):Zst pl ws nd ws.length=wired pl ws nd:=by
 apply List.ext_getElem?
 intro v
 rw [Zh2,Zd4]
 cases hv:ws[v]? with
 | none=>rfl
 | some w =>
  have:=(List.getElem?_eq_some_iff.1 hv).1
  simp only [Option.map_some,if_pos this]
theorem Zss {pl:List Pl} {ws:List Zn} {nd:Nat→Int} {k:Nat} {w:Zn} (hw:ws[k]?=some w):(Zst pl ws nd k)[k]?=some w∧(Zst pl ws nd k).set k (Zey w ((cat (Zbw (k:Int)) 0 pl).map (fun k=>nd k.toNat)))=Zst pl ws nd (k+1):=by
 constructor
 ·rw [Zh2,hw];simp
 ·apply List.ext_getElem?
  intro v
  rw [List.getElem?_set,ZoF]
  split
  ·rename_i e
   subst e
   rw [if_pos (List.getElem?_eq_some_iff.1 hw).1,Zh2,hw,Option.map_some,if_pos (by omega)]
  ·rw [Zh2,Zh2]
   congr 1
   funext w'
   by_cases h:v<k
   ·rw [if_pos h,if_pos (by omega)]
   ·rw [if_neg h,if_neg (by omega)]
theorem Zf7 {b:Zb} {nodes:List Int} (hf:Few (Zb.Design b)) (hl:nodes.length=(places (Zb.Design b)).length) (hw:(Zb.Zy b).length≤1048576) :
  X7 b nodes=some (Zb.Library b,Zb.Design b,wired (places (Zb.Design b)) (Zb.Zy b) (Znm nodes),()):=by
 have hpl:=Qz hf
 unfold X7
 have:=YH (l:=Zb.Zy b) (fun k=>((k:Int),Zst (places (Zb.Design b)) (Zb.Zy b) (Znm nodes) k,())) (step:=fun v=>Q7 b nodes v.1 v.2.1) (good:=(Zb.Library b,Zb.Design b,wired (places (Zb.Design b)) (Zb.Zy b) (Znm nodes),())) (fun k w hk hlt=>by
  obtain ⟨a1,a2⟩:=Zss (nd:=Znm nodes) (pl:=places (Zb.Design b)) hk
  have hlc:(sinks (Zb.Design b) (k:Int)).length≤(places (Zb.Design b)).length:=Zfz (k:Int) (places (Zb.Design b)) 0
  simp only [Q7]
  rw [if_pos (show (k:Int)<(((Zst (places (Zb.Design b)) (Zb.Zy b) (Znm nodes) k).length:Nat):Int) by rw [ZoF];omega),Zar _ _ hf,Option.bind_some]
  refine YH (l:=sinks (Zb.Design b) (k:Int)) (fun i=>(((sinks (Zb.Design b) (k:Int)).take i).map (fun x=>Znm nodes x.toNat),(i:Int),())) (fun i x hx hi=>?_) ?_
  ·obtain ⟨j,p,hp,ex,hn,h2,hnth⟩:=ZoS (pl:=places (Zb.Design b)) hx
   have hj:=(List.getElem?_eq_some_iff.1 hp).1
   have hnj:nodes[j]?=some (Znm nodes j):=by
    unfold Znm
    rw [List.getElem?_eq_getElem (by omega)]
    rfl
   simp only [Jk,show (i:Int)<((sinks (Zb.Design b) (k:Int)).length:Int) by omega,if_true,Zr,hx,Option.bind_some]
   have et:=YD hx
   subst ex
   rw [Zr,hnj,Option.bind_some,Zi (by rw [List.length_map,List.length_take,List.length_singleton];omega),Zah (show i≤1048576 by omega),et,List.map_append]
   rfl
  ·simp only [Jk,Int.lt_irrefl,if_false,Zr,a1,Option.bind_some,Zah (show k≤1048576 by omega),Int.toNat_natCast,List.take_length]
   rw [←a2]
   rfl) (by
  simp only [Q7]
  rw [if_neg (show ¬(((Zb.Zy b).length:Nat):Int)<(((Zst (places (Zb.Design b)) (Zb.Zy b) (Znm nodes) (Zb.Zy b).length).length:Nat):Int) by rw [ZoF];omega),Zvc])
 rw [Zsy] at this
 exact this
theorem ZkH (b:Zb):Znm (Zbb b)=Y5 b:=by
 funext k
 unfold Znm
 by_cases hk:k<(places (Zb.Design b)).length
 ·rw [Zg2 hk];rfl
 ·rw [List.getElem?_eq_none (by rw [Za4];omega)]
  unfold Y5
  rw [List.getElem?_eq_none (by omega)]
  rfl
theorem ZpV {b:Zb} (h:ZaW b) {k:Nat} {p:Pl} (hp:(places (Zb.Design b))[k]?=some p) (h2:p.2.2.2.1=false) {n v:Int} (hn:ZbW (Zb.Design b) n) :
  Xm (Zb.Library b,conn (Zb.Design b) p.1 p.2.1 n,Zb.Zy b,()) (Zln Key (.int .i64) (Zbo (places (Zb.Design b)) (Y5 b) (places (Zb.Design b)).length) (Zrz p) v)=some (moved b k p n v):=by
 have hM:=((Zh5 (Zb.Design b) (Y5 b)).put hp v).set hp n
 rw [←XP hp n] at hM
 have hwl:(Zb.Zy b).length≤1048576:=Zm (Za5 h.sm).2.2
 have hn1:n<((Zb.Zy b).length:Int):=by rw [h.ok.2.1];have:=hn.2;omega
 exact Zfm (b:=(Zb.Library b,conn (Zb.Design b) p.1 p.2.1 n,Zb.Zy b,())) (h.ok.1.few.conn p.1 p.2.1 n) hM (by
  show ZiG (places (conn (Zb.Design b) p.1 p.2.1 n)) (Zb.Zy b).length
  rw [XP hp]
  refine ZiG.set (fun q hq hd=>?_) hn.1 hn1
  have:=Za1 h.ok.1 hq
  rw [h.ok.2.1]
  exact ⟨this.1,by have:=this.2;omega⟩) hwl
theorem ZpL {b:Zb} (h:ZaW b) {k:Nat} {p:Pl} (hp:(places (Zb.Design b))[k]?=some p) (n v:Int) :
  X7 (Zb.Library b,conn (Zb.Design b) p.1 p.2.1 n,Zb.Zy b,()) ((Zbb b).set k v)=some (moved b k p n v):=by
 have hk:=(List.getElem?_eq_some_iff.1 hp).1
 have hf:=h.ok.1.few.conn p.1 p.2.1 n
 have e:=Zf7 (b:=(Zb.Library b,conn (Zb.Design b) p.1 p.2.1 n,Zb.Zy b,())) (nodes:=(Zbb b).set k v) hf (by
  show ((Zbb b).set k v).length=(places (conn (Zb.Design b) p.1 p.2.1 n)).length
  rw [List.length_set,Za4,XP hp,List.length_set]) (Zm (Za5 h.sm).2.2)
 rw [e]
 have e2:Znm ((Zbb b).set k v)=mvN b k v:=by
  funext j
  rw [Zph (by rw [Za4];exact hk),ZkH]
  rfl
 rw [e2]
 rfl
end Go.Proofs.YtfndhpjedmopdaaGreatDoor
/-
  Plain laws: a buffer put in, a buffer taken away: the program and the reference; edits applied.
-/
namespace Go.Proofs.YtfndhpjedmopdaaGreatDoor
set_option linter.unusedVariables false
set_option linter.unusedSimpArgs false
open Go Go.Sx
theorem Ztb {b:Zb} (h:ZaW b):ZiG (places (Zb.Design b)) (Zb.Zy b).length:=fun q hq _=>by
 have:=Za1 h.ok.1 hq
 rw [h.ok.2.1]
 exact ⟨this.1,by have:=this.2;omega⟩
theorem ZrS (pl:List Pl) (ws:List Zn) (nd:Nat→Int) {w w':Zn} (h:∀ l,Zey w l=Zey w' l):wired pl (ws++[w]) nd=wired pl (ws++[w']) nd:=by
 unfold wired
 rw [Zdz,Zdz]
 simp only [cat,h]
theorem ZnF {b:Zb} {e:Zf} (h:Zpd b e) (k2:Zf.Kind e=2) (hs:sm .str (Zf.Name e)) {p:Pl} (hp:Zfr b e p) (hd:p.2.2.2.1=false):JI b e=some (buffered b e (Zf.Place e).toNat p):=by
 have hB:=h.blk
 have hf:=hB.ok.1.few
 have h14:=hf.insts
 have h30:=hB.ok.1.2.1.2.1
 have hwn:=hB.ok.2.1
 have hR:=Zi7 h k2 hs hp
 have hpk:=Zh3 (e:=e) (q:=p) hB hp.2
 have hM0:=Zh5 (Zb.Design b) (Y5 b)
 have hv:ZhR Key (.int .i64) (Zbo (places (Zb.Design b)) (Y5 b) (places (Zb.Design b)).length) (p.1,p.2.1,())=some (Y5 b (Zf.Place e).toNat):=hM0 _ p hp.2 hd
 have hM1:=hM0.add (x:=Zoj b e p) (s:=Zf.Name e) rfl (by omega) (Y5 b (Zf.Place e).toNat)
 have hM2:=(hM1.put hpk 0).set hpk ((Za.ZP (Zb.Design b)).length:Int)
 rw [←XP hpk,←Zgn hp.2] at hM2
 have hN:=Ztb hR
 have hl:(Zb.Zy (buffered b e (Zf.Place e).toNat p)).length=(Zb.Zy b++[ZrO]).length:=Zgp _ _ _
 rw [hl] at hN
 have hC:=Zfm (b:=(Zb.Library b,Zpr b e p,Zb.Zy b++[ZrO],())) hR.ok.1.few hM2 hN (by
  show (Zb.Zy b++[ZrO]).length≤_
  rw [List.length_append,List.length_singleton];omega)
 have hS:=Zf0 (b:=(Zb.Library b,addInst (Zb.Design b) (Zoj b e p) (Zf.Name e),Zb.Zy b++[ZrO],())) hpk ((Za.ZP (Zb.Design b)).length:Int)
 have eS:conn (Zb.Design ((Zb.Library b,addInst (Zb.Design b) (Zoj b e p) (Zf.Name e),Zb.Zy b++[ZrO],()):Zb)) p.1 p.2.1 ((Za.ZP (Zb.Design b)).length:Int)=Zpr b e p:=(Zgn hp.2).symm
 rw [eS] at hS
 unfold JI
 rw [ZdG hB,Option.bind_some,Yn _ hf,Option.bind_some,hp.at,Option.bind_some,
  show YR (Za.ZP (Zb.Design b))=some ((Za.ZP (Zb.Design b)).length:Int) from rfl,Option.bind_some,
  show X6 (Za.Instances (Zb.Design b))=some ((Za.Instances (Zb.Design b)).length:Int) from rfl,Option.bind_some,
  Zi (by rw [List.length_singleton];omega),Zi (by rw [List.length_singleton];omega),Zi (by rw [List.length_singleton];omega)]
 refine Eq.trans (congrArg (fun o=>Option.bind o _) hS) ?_
 rw [Option.bind_some]
 have e3:Option.getD (ZhR ZbZ (Ty.int IntKind.i64) (Zbo (places (Zb.Design b)) (Y5 b) (places (Zb.Design b)).length) (Yd.instance p,Yd.pin p,())) (0:Int)=Y5 b (Zf.Place e).toNat:=by
  have:ZhR ZbZ (Ty.int IntKind.i64) (Zbo (places (Zb.Design b)) (Y5 b) (places (Zb.Design b)).length) (Yd.instance p,Yd.pin p,())=some (Y5 b (Zf.Place e).toNat):=hv
  rw [this];rfl
 rw [e3]
 refine Eq.trans (congrArg (fun o=>Option.bind o _) hC) ?_
 rfl
theorem ZsG {b:Zb} {k:Nat} (hk:k<(places (Zb.Design b)).length) (v:Int) (hv:v=Y5 b k) :
  Znm (((Zbb b).take (YB (Zb.Design b))++[v,0]++(Zbb b).drop (YB (Zb.Design b))).set (Zrp b k) 0)=Zxl b k:=by
 have h2:=Zez (Zb.Design b)
 have hm:YB (Zb.Design b)≤(Zbb b).length:=by rw [Za4];omega
 funext j
 rw [Zph (by
  rw [List.length_append,List.length_append,List.length_take,List.length_drop,Za4]
  unfold Zrp
  simp only [List.length_cons,List.length_nil]
  split<;>omega),Zva hm,ZkH,hv]
 rfl
theorem ZnU {b:Zb} {e:Zf} (h:Zpd b e) (k2:Zf.Kind e=2) (hs:sm .str (Zf.Name e)) {p:Pl} (hp:Zfr b e p) (hd:p.2.2.2.1=false):ZbT b e=some (buffered b e (Zf.Place e).toNat p):=by
 have hB:=h.blk
 have hf:=hB.ok.1.few
 have hpl:=Qz hf
 have h14:=hf.insts
 have h8:=hf.ports
 have h30:=hB.ok.1.2.1.2.1
 have hwn:=hB.ok.2.1
 have hk:=(List.getElem?_eq_some_iff.1 hp.2).1
 have h0:=hp.1
 have h2:=Zez (Zb.Design b)
 have hR:=Zi7 h k2 hs hp
 have hW:IntKind.i64.wrap (((Zbb b).length:Int)-((Za.Z0 (Zb.Design b)).length:Int))=(YB (Zb.Design b):Int):=by
  rw [Za4,Jd (by omega) (by omega)];omega
 have hdr:List.take ((Zbb b).length-YB (Zb.Design b)) (List.drop (YB (Zb.Design b)) (Zbb b))=List.drop (YB (Zb.Design b)) (Zbb b):=List.take_of_length_le (by rw [List.length_drop];exact Nat.le_refl _)
 have hlump:ZaM 1 0=some (([-1],[0],[0],[0],()):Zn):=by
  unfold ZaM
  rw [Zi (by omega),Zi (by omega),Zi (by omega),Zi (by omega)]
  rfl
 have hln:((Zbb b).take (YB (Zb.Design b))++[Y5 b (Zf.Place e).toNat,0]++(Zbb b).drop (YB (Zb.Design b))).length=(places (Zb.Design b)).length+2:=by
  rw [List.length_append,List.length_append,List.length_take,List.length_drop,Za4]
  simp only [List.length_cons,List.length_nil]
  omega
 have hbk:Zrp b (Zf.Place e).toNat<(places (Zb.Design b)).length+2:=by
  unfold Zrp
  split<;>omega
 have hpl2:(places (Zpr b e p)).length=(places (Zb.Design b)).length+2:=by
  have h3:=Zez (Zpr b e p)
  rw [Zgn hp.2,XP (Zh3 (e:=e) (q:=p) hB hp.2),List.length_set]
  rw [Zfk,List.length_append,List.length_append,QX,Zpw,h2]
  unfold YB Zoj
  show _+2+_=_
  omega
 have hA:=Zf7 (b:=(Zb.Library b,Zpr b e p,Zb.Zy b++[([-1],[0],[0],[0],())],())) (nodes:=((Zbb b).take (YB (Zb.Design b))++[Y5 b (Zf.Place e).toNat,0]++(Zbb b).drop (YB (Zb.Design b))).set (Zrp b (Zf.Place e).toNat) 0) hR.ok.1.few (by
  show (List.set _ _ _).length=(places (Zpr b e p)).length
  rw [List.length_set,hln,hpl2]) (by
  show (Zb.Zy b++[([-1],[0],[0],[0],())]).length≤_
  rw [List.length_append,List.length_singleton];omega)
 rw [ZsG hk _ rfl] at hA
 have hA2:X7 (Zb.Library b,Zpr b e p,Zb.Zy b++[([-1],[0],[0],[0],())],()) ((((Zbb b).take (YB (Zb.Design b))++[Y5 b (Zf.Place e).toNat,0]++(Zbb b).drop (YB (Zb.Design b)))).set (Zrp b (Zf.Place e).toNat) 0)=some (buffered b e (Zf.Place e).toNat p):=by
  rw [hA]
  show some (Zb.Library b,Zpr b e p,wired (places (Zpr b e p)) (Zb.Zy b++[([-1],[0],[0],[0],())]) (Zxl b (Zf.Place e).toNat),())=_
  rw [ZrS _ _ _ (w:=([-1],[0],[0],[0],())) (w':=ZrO) (fun l=>rfl)]
  rfl
 unfold ZbT
 rw [Vs _ hf,Option.bind_some,hp.at,Option.bind_some,Zfa hB,Option.bind_some,VK hp.1 (Zg2 hk),Option.bind_some,hW]
 simp only [Int.toNat_natCast,Int.toNat_zero,Nat.sub_zero,List.drop_zero,hdr]
 have hci:(Za.Instances (conn (Zb.Design b) p.1 p.2.1 ((Zb.Zy b).length:Int))).length=(Za.Instances (Zb.Design b)).length:=YN
 have hcn:(Za.ZP (conn (Zb.Design b) p.1 p.2.1 ((Zb.Zy b).length:Int))).length=(Za.ZP (Zb.Design b)).length:=by rw [VQ]
 have hl1:(List.take (YB (Zb.Design b)) (Zbb b)).length=YB (Zb.Design b):=by rw [List.length_take,Za4];omega
 have hl2:(List.drop (YB (Zb.Design b)) (Zbb b)).length=(Za.Z0 (Zb.Design b)).length:=by rw [List.length_drop,Za4];omega
 rw [Zi (by omega),Zi (by rw [Za4];omega),ZdN _ (by omega),Option.bind_some,
  Zi (by rw [hl1];simp only [List.length_cons,List.length_nil];omega),Zi (by omega),Zi (by rw [List.length_append,hl1,hl2];simp only [List.length_cons,List.length_nil];omega),
  ZfJ hp.2,Option.bind_some]
 have hx:∀ (i:Nat),i<(places (Zb.Design b)).length+2→∃ y,((Zbb b).take (YB (Zb.Design b))++[Y5 b (Zf.Place e).toNat,0]++(Zbb b).drop (YB (Zb.Design b)))[i]?=some y:=fun i hi=>⟨_,List.getElem?_eq_getElem (by rw [hln];exact hi)⟩
 have hD:((Za.Instances (conn (Zb.Design b) p.1 p.2.1 ((Zb.Zy b).length:Int))++[(Zf.Name e,Zf.Cell e,[Ya.net p,((Zb.Zy b).length:Int)],())],Za.ZP (conn (Zb.Design b) p.1 p.2.1 ((Zb.Zy b).length:Int))++[Zf.Name e],(conn (Zb.Design b) p.1 p.2.1 ((Zb.Zy b).length:Int)).snd.snd):Za)=Zpr b e p:=by
  rw [hwn]
  rfl
 by_cases hc:YB (Zb.Design b)≤(Zf.Place e).toNat
 ·have hbk2:Zrp b (Zf.Place e).toNat=(Zf.Place e).toNat+2:=by unfold Zrp;rw [if_neg (by omega)]
  obtain ⟨y,hy⟩:=hx ((Zf.Place e).toNat+2) (by omega)
  rw [if_pos (by omega),Jd (n:=Zf.Place e+2) (by omega) (by omega),show Zf.Place e+2=(((Zf.Place e).toNat+2:Nat):Int) by omega,Zr,hy,Option.bind_some,
   Zi (by rw [hci,List.length_singleton];omega),Zi (by rw [hcn,List.length_singleton];omega),hlump,Option.bind_some,Zi (by rw [List.length_singleton];omega),Int.toNat_natCast,←hbk2,hD]
  refine Eq.trans (congrArg (fun o=>Option.bind o _) hA2) ?_
  rfl
 ·have hbk2:Zrp b (Zf.Place e).toNat=(Zf.Place e).toNat:=by unfold Zrp;rw [if_pos (by omega)]
  obtain ⟨y,hy⟩:=hx (Zf.Place e).toNat (by omega)
  rw [if_neg (by omega),VK hp.1 hy,Option.bind_some,
   Zi (by rw [hci,List.length_singleton];omega),Zi (by rw [hcn,List.length_singleton];omega),hlump,Option.bind_some,Zi (by rw [List.length_singleton];omega),hD]
  rw [hbk2] at hA2
  refine Eq.trans (congrArg (fun o=>Option.bind o _) hA2) ?_
  rfl
end Go.Proofs.YtfndhpjedmopdaaGreatDoor
/-
  Plain laws: a buffer taken away (reference); edits applied: the program and the reference.
-/
namespace Go.Proofs.YtfndhpjedmopdaaGreatDoor
set_option linter.unusedVariables false
set_option linter.unusedSimpArgs false
open Go Go.Sx
theorem Zlx {b:Zb} (h:ZaW b) (hL:ZjE b) {k:Nat} {p:Pl} {m:Int} (hs:sinks (Zb.Design b) (((Za.ZP (Zb.Design b)).length:Int)-1)=[(k:Int)]) (hp:(places (Zb.Design b))[k]?=some p) (hpi:p.1≠((Za.Instances (Zb.Design b)).length:Int)-1)
  (hm:∀ x,(Za.Instances (Zb.Design b))[(Za.Instances (Zb.Design b)).length-1]?=some x→atI (Zd.ZP x) 0=some m):ZbR b=some (Zk0 b k p m):=by
 have hR:=Zj0 h hL hs hp hpi hm
 obtain ⟨hn,x,hx,hl2⟩:=hL.two
 have hmx:=hm x hx
 have hf:=h.ok.1.few
 have hpl:=Qz hf
 have h14:=hf.insts
 have h8:=hf.ports
 have h30:=h.ok.1.2.1.2.1
 have hwn:=h.ok.2.1
 have hk:=(List.getElem?_eq_some_iff.1 hp).1
 have h2:=Zez (Zb.Design b)
 have hi2:=Zhk hn hx hl2
 have hpos:1≤(Za.ZP (Zb.Design b)).length:=by
  have:=Za1 h.ok.1 (List.mem_of_getElem? hp)
  unfold ZbW at this
  omega
 have hx2:atI (Za.Instances (Zb.Design b)) (((Za.Instances (Zb.Design b)).length:Int)-1)=some x:=VK (by omega) (by rw [←hx];congr 1;omega)
 have t1:Int.toNat (((Za.Instances (Zb.Design b)).length:Int)-1)=(Za.Instances (Zb.Design b)).length-1:=by omega
 have hset:((List.set (Za.Instances (Zb.Design b)) ((Za.Instances (Zb.Design b)).length-1) x,(Zb.Design b).snd):Za)=Zb.Design b:=by rw [Zb3 hx]
 have hW1:IntKind.i64.wrap (((Zb.Zy b).length:Int)-1)=(((Zb.Zy b).length-1:Nat):Int):=by rw [Jd (by omega) (by omega)];omega
 have hW2:IntKind.i64.wrap (((Zbb b).length:Int)-((Za.Z0 (Zb.Design b)).length:Int))=(YB (Zb.Design b):Int):=by rw [Za4,Jd (by omega) (by omega)];omega
 have hW3:IntKind.i64.wrap ((YB (Zb.Design b):Int)-2)=((YB (Zb.Design b)-2:Nat):Int):=by rw [Jd (by omega) (by omega)];omega
 have hW4:IntKind.i64.wrap (((Za.Instances (Zb.Design b)).length:Int)-1)=(((Za.Instances (Zb.Design b)).length-1:Nat):Int):=by rw [Jd (by omega) (by omega)];omega
 have hsk:Qe (Zb.Design b) (((Zb.Zy b).length-1:Nat):Int)=some [(k:Int)]:=by
  rw [Zar _ _ hf,show (((Zb.Zy b).length-1:Nat):Int)=((Za.ZP (Zb.Design b)).length:Int)-1 by omega,hs]
 have hx3:atI (Za.Instances (Zb.Design b)) (((Za.Instances (Zb.Design b)).length-1:Nat):Int)=some x:=by rw [Zr];exact hx
 have hls:(List.set (Zbb b) k (Y5 b (YB (Zb.Design b)-2))).length=(places (Zb.Design b)).length:=by rw [List.length_set,Za4]
 have hdr:List.take ((List.set (Zbb b) k (Y5 b (YB (Zb.Design b)-2))).length-YB (Zb.Design b)) (List.drop (YB (Zb.Design b)) (List.set (Zbb b) k (Y5 b (YB (Zb.Design b)-2))))=List.drop (YB (Zb.Design b)) (List.set (Zbb b) k (Y5 b (YB (Zb.Design b)-2))):=List.take_of_length_le (by rw [List.length_drop];exact Nat.le_refl _)
 have hci:(Za.Instances (conn (Zb.Design b) p.1 p.2.1 m)).length=(Za.Instances (Zb.Design b)).length:=YN
 have hcn:(Za.ZP (conn (Zb.Design b) p.1 p.2.1 m)).length=(Za.ZP (Zb.Design b)).length:=by rw [VQ]
 have hl1:(List.take (YB (Zb.Design b)-2) (List.set (Zbb b) k (Y5 b (YB (Zb.Design b)-2)))).length=YB (Zb.Design b)-2:=by rw [List.length_take,hls];omega
 have hl3:(List.drop (YB (Zb.Design b)) (List.set (Zbb b) k (Y5 b (YB (Zb.Design b)-2)))).length=(Za.Z0 (Zb.Design b)).length:=by rw [List.length_drop,hls];omega
 have hins:YB (unD b p m)=YB (Zb.Design b)-2:=by
  have hn2:0<(Za.Instances (conn (Zb.Design b) p.1 p.2.1 m)).length:=by rw [YN];exact hn
  have hx4:(Za.Instances (conn (Zb.Design b) p.1 p.2.1 m))[(Za.Instances (conn (Zb.Design b) p.1 p.2.1 m)).length-1]?=some ((Za.Instances (conn (Zb.Design b) p.1 p.2.1 m))[(Za.Instances (conn (Zb.Design b) p.1 p.2.1 m)).length-1]'(by omega)):=List.getElem?_eq_getElem _
  generalize (Za.Instances (conn (Zb.Design b) p.1 p.2.1 m))[(Za.Instances (conn (Zb.Design b) p.1 p.2.1 m)).length-1]'(by omega)=x' at hx4
  obtain ⟨y,hy,_,_,hyl,_⟩:=Ze1 hx4
  rw [YN,hx] at hy
  injection hy with hy
  have h5:=Zhk hn2 hx4 (by rw [hyl,←hy,hl2])
  have h6:=Zky hp m
  unfold unD
  omega
 have hup:(places (unD b p m)).length=(places (Zb.Design b)).length-2:=by
  have h5:=Zez (unD b p m)
  have h6:(Za.Z0 (unD b p m)).length=(Za.Z0 (Zb.Design b)).length:=Zgj
  omega
 have hA:=Zf7 (b:=(Zb.Library b,unD b p m,(Zb.Zy b).take ((Zb.Zy b).length-1),())) (nodes:=(Zbb b |>.set k (Y5 b (YB (Zb.Design b)-2))).take (YB (Zb.Design b)-2)++(Zbb b |>.set k (Y5 b (YB (Zb.Design b)-2))).drop (YB (Zb.Design b))) hR.ok.1.few (by
  show (List.take _ _++List.drop _ _).length=(places (unD b p m)).length
  rw [List.length_append,hl1,hl3,hup];omega) (by
  show (List.take _ _).length≤_
  rw [List.length_take];omega)
 have hnd:Znm ((Zbb b |>.set k (Y5 b (YB (Zb.Design b)-2))).take (YB (Zb.Design b)-2)++(Zbb b |>.set k (Y5 b (YB (Zb.Design b)-2))).drop (YB (Zb.Design b)))=unN b k:=by
  funext j
  have:=Zt1 (l:=(Zbb b).set k (Y5 b (YB (Zb.Design b)-2))) (m:=YB (Zb.Design b)-2) (by omega) j
  rw [show YB (Zb.Design b)-2+2=YB (Zb.Design b) by omega] at this
  rw [this]
  unfold unN
  congr 1
  funext i
  rw [Zph (by rw [Za4];exact hk),ZkH]
  rfl
 rw [hnd] at hA
 have hD:((List.take ((Za.Instances (Zb.Design b)).length-1) (Za.Instances (conn (Zb.Design b) p.1 p.2.1 m)),List.take ((Zb.Zy b).length-1) (Za.ZP (conn (Zb.Design b) p.1 p.2.1 m)),(conn (Zb.Design b) p.1 p.2.1 m).snd.snd):Za)=unD b p m:=by
  unfold unD X8
  rw [YN,VQ,hwn]
 unfold ZbR
 rw [Zfa h,Option.bind_some,hW1,hsk,Option.bind_some,show atI [(k:Int)] 0=some (k:Int) from rfl,Option.bind_some,hW2,hW3,Zr,Zg2 (by omega),Option.bind_some,Zr,Zg2 hk,Option.bind_some,hW4,hx3,Option.bind_some,
  show x.snd.snd.fst=Zd.ZP x from rfl,hmx,Option.bind_some]
 simp only [Int.toNat_natCast,Int.toNat_zero,Nat.sub_zero,List.drop_zero]
 rw [hset,Vs _ hf,Option.bind_some,Zr,hp,Option.bind_some,ZfJ hp,Option.bind_some,Zi (by omega),Zi (by rw [hls];omega),ZdN _ (by omega),Option.bind_some,
  Zi (by omega),Zi (by rw [hls];omega),Zi (by omega),hdr,Zi (by rw [hl1,hl3];omega),Zi (by omega),Zi (by rw [hci];omega),Zi (by omega),Zi (by rw [hcn];omega),Zi (by omega),hD]
 refine Eq.trans (congrArg (fun o=>Option.bind o _) hA) ?_
 rfl
def Lens (b:Zb) (e:Zf) (r:Zb):Prop:=(places (Zb.Design r)).length+(if Zf.Kind e=3 then 2 else 0)=(places (Zb.Design b)).length+(if Zf.Kind e=2 then 2 else 0)
theorem Ztg (d:Za) (x:Zd) (s:List UInt8):(places (addInst d x s)).length=(places d).length+(Zd.ZP x).length:=by
 rw [Zfk,List.length_append,List.length_append,QX]
 unfold places
 rw [List.length_append]
 omega
theorem Zvw {b:Zb} (h:ZaW b) {e:Zf} {k:Nat} {p:Pl} (hp:(places (Zb.Design b))[k]?=some p):(places (Zpr b e p)).length=(places (Zb.Design b)).length+2:=by
 rw [Zgn hp,XP (Zh3 h hp),List.length_set,Ztg]
 rfl
theorem ZqW {b:Zb} {e:Zf} {r:Zb} (h2:Zf.Kind e≠2) (h3:Zf.Kind e≠3) (h:(places (Zb.Design r)).length=(places (Zb.Design b)).length):Lens b e r:=by
 unfold Lens
 rw [if_neg h2,if_neg h3,h]
theorem Zso {b:Zb} {e:Zf} (h:Zpd b e) (he:sm Y9 e):∃ r,VT e b=some r∧Zbq b e=some r∧ZaW r∧Zb.Library r=Zb.Library b∧Lens b e r:=by
 have hB:=h.blk
 have hf:=hB.ok.1.few
 have hwn:=hB.ok.2.1
 obtain ⟨b1,b2,b3⟩:=Za5 hB.sm
 unfold VT Zbq
 rw [Zc5 _ hB.sm,Option.bind_some,Zme _ hB.sm,Option.bind_some,Vs _ hf,Option.bind_some]
 by_cases k1:Zf.Kind e=1
 ·obtain ⟨p,x,c,c2,hp,h0,hd,hx,hc,hc2,ha⟩:=h.poss.1 k1
  obtain ⟨_,hcr⟩:=h.range.1 (.inl k1)
  have hx2:(Za.Instances (Zb.Design b))[p.1.toNat]?=some x:=by
   unfold atI at hx
   rw [if_pos h0] at hx
   exact hx
  obtain ⟨⟨hxc,_⟩,_,_⟩:=hB.ok.1.2.2.1 x (List.mem_of_getElem? hx2)
  have hc3:(Zl.Cells (Zb.Library b))[(Zd.Cell x).toNat]?=some c:=by
   unfold atI at hc
   rw [if_pos hxc] at hc
   exact hc
  have hc4:(Zl.Cells (Zb.Library b))[(Zf.Cell e).toNat]?=some c2:=by
   unfold atI at hc2
   rw [if_pos hcr.1] at hc2
   exact hc2
  have hR:=ZrY hB h0 hx2 hc3 hc4 hcr (ZsY (Zag (ZnN b1) hc3) (Zag (ZnN b1) hc4) ha)
  rw [if_pos k1,if_pos k1,Yn _ hf,Option.bind_some,hp.at,Option.bind_some]
  have e1:Yd.instance p=p.1:=rfl
  have e2:Ya.instance p=p.1:=rfl
  simp only [e1,e2,hx,Option.bind_some]
  refine ⟨swapped b p.1 (Zf.Cell e),?_,?_,hR,rfl,ZqW (by omega) (by omega) ?_⟩
  ·unfold swapped;rw [hx2]
  ·unfold swapped;rw [hx2]
  ·unfold swapped;rw [hx2];exact congrArg List.length (ZiQ hx2 _)
 rw [if_neg k1,if_neg k1]
 by_cases k2:Zf.Kind e=2
 ·obtain ⟨p,c,hp,hd,_⟩:=h.poss.2.1 k2
  have hs:=(ZpQ he).1
  rw [if_pos k2,if_pos k2,ZnF h k2 hs hp hd,ZnU h k2 hs hp hd]
  exact ⟨_,rfl,rfl,Zi7 h k2 hs hp,rfl,by unfold Lens;rw [if_neg (by omega),if_pos k2];exact Zvw hB hp.2⟩
 rw [if_neg k2,if_neg k2]
 by_cases k3:Zf.Kind e=3
 ·have hL:=h.poss.2.2.1 k3
  obtain ⟨k,p,m,v,hs,hp,hpi,hm,hv,hun⟩:=ZgR hB hL
  have hR:=Zj0 hB hL hs hp hpi hm
  rw [if_pos k3,if_pos k3,hun,Zlx hB hL hs hp hpi hm]
  obtain ⟨hn,x,hx,hl2⟩:=hL.two
  have hn2:0<(Za.Instances (conn (Zb.Design b) p.1 p.2.1 m)).length:=by rw [YN];exact hn
  have hx4:(Za.Instances (conn (Zb.Design b) p.1 p.2.1 m))[(Za.Instances (conn (Zb.Design b) p.1 p.2.1 m)).length-1]?=some ((Za.Instances (conn (Zb.Design b) p.1 p.2.1 m))[(Za.Instances (conn (Zb.Design b) p.1 p.2.1 m)).length-1]'(by omega)):=List.getElem?_eq_getElem _
  generalize (Za.Instances (conn (Zb.Design b) p.1 p.2.1 m))[(Za.Instances (conn (Zb.Design b) p.1 p.2.1 m)).length-1]'(by omega)=x' at hx4
  obtain ⟨y,hy,_,_,hyl,_⟩:=Ze1 hx4
  rw [YN,hx] at hy
  injection hy with hy
  have h5:=Zhk hn2 hx4 (by rw [hyl,←hy,hl2])
  have h6:=Zky hp m
  have hins:YB (unD b p m)=YB (Zb.Design b)-2:=by unfold unD;omega
  refine ⟨Zk0 b k p m,by rw [hins,hv];rfl,rfl,hR,rfl,?_⟩
  have h7:=congrArg List.length (Zgl (s:=[]) hn2 hx4)
  rw [Ztg,hyl,←hy,hl2,XP hp,List.length_set] at h7
  unfold Lens
  rw [if_pos k3,if_neg (by omega)]
  exact h7.symm
 rw [if_neg k3,if_neg k3]
 by_cases k4:Zf.Kind e=4
 ·obtain ⟨p,hp,hd,hne⟩:=h.poss.2.2.2.1 k4
  obtain ⟨_,hn,w,hw,hnode⟩:=h.range.2.1 k4
  have hk:=(List.getElem?_eq_some_iff.1 hp.2).1
  have hR:=ZuW hB hp.2 hd hn (v:=Zf.Node e) (fun w' hw'=>by rw [hw] at hw';injection hw' with hw';rw [←hw'];exact hnode)
  rw [if_pos k4,if_pos k4,ZdG hB,Option.bind_some,Yn _ hf,Option.bind_some,hp.at,Option.bind_some,Zfa hB,Option.bind_some,VK hp.1 (Zg2 hk),Option.bind_some,Option.bind_some,ZfJ hp.2,Option.bind_some,
   show (Yd.instance p,Yd.pin p,())=(p.1,p.2.1,()) from rfl,Zf0 hp.2,Option.bind_some]
  refine ⟨moved b (Zf.Place e).toNat p (Zf.Net e) (Zf.Node e),?_,?_,hR,rfl,ZqW k2 k3 (by show (places (conn _ _ _ _)).length=_;rw [XP hp.2,List.length_set])⟩
  ·exact congrArg (fun o=>Option.bind o fun connect0=>some connect0) (ZpV hB hp.2 hd hn (v:=Zf.Node e))
  ·exact congrArg (fun o=>Option.bind o fun l08Attach0=>some l08Attach0) (ZpL hB hp.2 (Zf.Net e) (Zf.Node e))
 ·have k5:Zf.Kind e=5:=by have:=h.blank;unfold Blank at this;omega
  have hn:=h.range.2.2 k5
  obtain ⟨w,hw1,hw2,_⟩:=Zjh hB hn
  have hsw:=(ZpQ he).2
  have hR:=ZtV hB hn (h.poss.2.2.2.2 k5) hsw
  rw [if_neg k4,if_neg k4,if_pos k5,if_pos k5,ZdQ _ hsw,Option.bind_some,Zhi _ hsw,Option.bind_some,hw2,Option.bind_some]
  exact ⟨Zvs b (Zf.Net e) (Zf.Zfc e),rfl,rfl,hR,rfl,ZqW k2 k3 rfl⟩
theorem Zve {b:Zb} {e:Zf} (h:Zpd b e) (he:sm Y9 e):∃ r,VT e b=some r∧Zbq b e=some r∧ZaW r∧Zb.Library r=Zb.Library b:=by
 obtain ⟨r,h1,h2,h3,h4,_⟩:=Zso h he
 exact ⟨r,h1,h2,h3,h4⟩
abbrev Zi1:Zb:=((([]:List Zh),()),(([]:List Zd),([]:List (List UInt8)),([]:List ZI),()),([]:List Zn),())
theorem ZkQ:sm Yt Zi1:=by
 refine Zfj ⟨⟨by simp,fun x hx=>by cases hx⟩,trivial⟩ (ZfD ⟨by simp,fun x hx=>by cases hx⟩ ⟨by simp,fun x hx=>by cases hx⟩ ⟨by simp,fun x hx=>by cases hx⟩) ⟨by simp,fun x hx=>by cases hx⟩
theorem Zmg {α:Type} {f:α→Nat} {c:Nat}:∀ {l:List α},(∀ x∈l,f x≤c)→(l.map f).sum≤c*l.length
 | [],_=>by simp
 | x::r,h=>by
  have h1:=Zmg (l:=r) fun y hy=>h y (List.mem_cons_of_mem _ hy)
  have h2:=h x (List.mem_cons_self ..)
  simp only [List.map_cons,List.sum_cons,List.length_cons,Nat.mul_add,Nat.mul_one]
  omega
theorem Ztz {b:Zb} (h:ZaW b):cnt Yt b≤cnt Z6 (Zb.Library b)+200000000:=by
 obtain ⟨b1,b2,b3⟩:=Za5 h.sm
 have hf:=h.ok.1.few
 have h30:=h.ok.1.2.1.2.1
 have hwn:=h.ok.2.1
 have e:cnt Yt b=cnt Z6 (Zb.Library b)+(cnt (.sl Zw) (Za.Instances (Zb.Design b))+(cnt (.sl .str) (Za.ZP (Zb.Design b))+(cnt (.sl Xa) (Za.Z0 (Zb.Design b))+0))+(cnt (.sl YP) (Zb.Zy b)+0)):=rfl
 have i1:cnt (.sl Zw) (Za.Instances (Zb.Design b))≤7*(Za.Instances (Zb.Design b)).length:=Zmg fun x hx=>by
  have h5:=hf.nets x hx
  have e2:cnt Zw x=1+(1+(cnt (.sl (.int .i64)) (Zd.ZP x)+0)):=rfl
  rw [e2,Zjt]
  omega
 have i2:cnt (.sl .str) (Za.ZP (Zb.Design b))≤1*(Za.ZP (Zb.Design b)).length:=Zmg fun x _=>Nat.le_refl _
 have i3:cnt (.sl Xa) (Za.Z0 (Zb.Design b))≤3*(Za.Z0 (Zb.Design b)).length:=Zmg fun x _=>Nat.le_refl _
 have i4:cnt (.sl YP) (Zb.Zy b)≤4194304*(Zb.Zy b).length:=Zmg fun x hx=>by
  obtain ⟨a1,a2,a3,a4⟩:=Zjs (b3.2 x hx)
  have s1:=Zm a1
  have s2:=Zm a2
  have s3:=Zm a3
  have s4:=Zm a4
  have e2:cnt YP x=cnt (.sl (.int .i64)) (Zn.Parent x)+(cnt (.sl (.int .i64)) (Zn.Res x)+(cnt (.sl (.int .i64)) (Zn.Cap x)+(cnt (.sl (.int .i64)) (Zn.ZfM x)+0))):=rfl
  rw [e2,Zjt,Zjt,Zjt,Zjt]
  omega
 have:=hf.insts
 have:=hf.ports
 omega
end Go.Proofs.YtfndhpjedmopdaaGreatDoor
/-
  Plain laws: lists of edits, one after the other; their inverses.
-/
namespace Go.Proofs.YtfndhpjedmopdaaGreatDoor
set_option linter.unusedVariables false
set_option linter.unusedSimpArgs false
open Go Go.Sx
abbrev stA (k:Nat) (back:List Zf) (b:Zb):(List Zf)×Int×(List Zh)×(List Zd)×(List (List UInt8))×(List ZI)×(List Zn)×(List Zh)×(List Zd)×(List (List UInt8))×(List ZI)×(List Zn)×Unit :=
 (back,(k:Int),[],[],[],[],[],Zl.Cells (Zb.Library b),Za.Instances (Zb.Design b),Za.ZP (Zb.Design b),Za.Z0 (Zb.Design b),Zb.Zy b,())
abbrev stS (k:Nat) (b:Zb):Int×(List Zh)×(List Zd)×(List (List UInt8))×(List ZI)×(List Zn)×(List Zh)×(List Zd)×(List (List UInt8))×(List ZI)×(List Zn)×Unit :=
 ((k:Int),[],[],[],[],[],Zl.Cells (Zb.Library b),Za.Instances (Zb.Design b),Za.ZP (Zb.Design b),Za.Z0 (Zb.Design b),Zb.Zy b,())
noncomputable abbrev ZuI (l:List Zf):=Zu (fun (v:(List Zf)×Int×(List Zh)×(List Zd)×(List (List UInt8))×(List ZI)×(List Zn)×(List Zh)×(List Zd)×(List (List UInt8))×(List ZI)×(List Zn)×Unit)=>Qr l v.1 v.2.1 v.2.2.1 v.2.2.2.1 v.2.2.2.2.1 v.2.2.2.2.2.1 v.2.2.2.2.2.2.1 v.2.2.2.2.2.2.2.1 v.2.2.2.2.2.2.2.2.1 v.2.2.2.2.2.2.2.2.2.1 v.2.2.2.2.2.2.2.2.2.2.1 v.2.2.2.2.2.2.2.2.2.2.2.1)
noncomputable abbrev loopS (l:List Zf):=Zu (fun (v:Int×(List Zh)×(List Zd)×(List (List UInt8))×(List ZI)×(List Zn)×(List Zh)×(List Zd)×(List (List UInt8))×(List ZI)×(List Zn)×Unit)=>Xy l v.1 v.2.1 v.2.2.1 v.2.2.2.1 v.2.2.2.2.1 v.2.2.2.2.2.1 v.2.2.2.2.2.2.1 v.2.2.2.2.2.2.2.1 v.2.2.2.2.2.2.2.2.1 v.2.2.2.2.2.2.2.2.2.1 v.2.2.2.2.2.2.2.2.2.2.1)
structure Done (b:Zb) (l:List Zf) (k:Nat) (back:List Zf) (r:Zb) (inv:List Zf):Prop where
 ok:ZaW r
 lib:Zb.Library r=Zb.Library b
 len:inv.length+k=l.length
 sm:∀ e∈inv,sm Y9 e
theorem Zoc {l:List Zf} (hs:sm (.sl Y9) l) (h20:l.length≤20):∀ (m k:Nat) (b:Zb) (back:List Zf),k+m=l.length→ZaW b→back.length=k→
  (∃ (c j:Int),c≠0∧ZuI l (stA k back b)=some (Zi1,[],c,j)∧loopS l (stS k b)=some (Zi1,c,j))∨
  (∃ (r:Zb) (inv:List Zf),Done b l k back r inv∧ZuI l (stA k back b)=some (r,(back++inv).reverse,0,-1)∧loopS l (stS k b)=some (r,0,-1))
 | 0,k,b,back,hk,hB,hb=>by
  right
  have hk:k=l.length:=by omega
  refine ⟨b,[],⟨hB,rfl,by simp [hk],fun e he=>by cases he⟩,?_,?_⟩
  ·refine ZdA ?_
   simp only [Qr]
   rw [if_neg (by omega),List.append_nil]
  ·refine ZdA ?_
   simp only [Xy]
   rw [if_neg (by omega)]
 | m+1,k,b,back,hk,hB,hb=>by
  have hlt:k<l.length:=by omega
  have hx:l[k]?=some l[k]:=List.getElem?_eq_getElem hlt
  generalize l[k]=x at hx
  have hxs:sm Y9 x:=Zag hs hx
  obtain ⟨c,c1,c2,c3⟩:=ZpN hB x hxs
  have c1':ZaQ x ((Zl.Cells (Zb.Library b),()),(Za.Instances (Zb.Design b),Za.ZP (Zb.Design b),Za.Z0 (Zb.Design b),()),Zb.Zy b,())=some c:=c1
  by_cases hc:c=0
  ·have hC:=c3 hc
   obtain ⟨v,v1,v3⟩:=ZmK hC
   obtain ⟨r,r1,r2,r3,r4⟩:=Zve hC hxs
   have v1':Vx x ((Zl.Cells (Zb.Library b),()),(Za.Instances (Zb.Design b),Za.ZP (Zb.Design b),Za.Z0 (Zb.Design b),()),Zb.Zy b,())=some v:=v1
   have r1':VT x ((Zl.Cells (Zb.Library b),()),(Za.Instances (Zb.Design b),Za.ZP (Zb.Design b),Za.Z0 (Zb.Design b),()),Zb.Zy b,())=some r:=r1
   have e2:QM ((Zl.Cells (Zb.Library b),()),(Za.Instances (Zb.Design b),Za.ZP (Zb.Design b),Za.Z0 (Zb.Design b),()),Zb.Zy b,()) x=some (r,0):=by
    show QM b x=_
    unfold QM
    rw [c2,Option.bind_some,if_pos hc,r2]
    rfl
   have s1:ZuI l (stA k back b)=ZuI l (stA (k+1) (back++[v]) r):=Zkh (by
    simp only [Qr]
    rw [if_pos (by omega),Zr,hx,Option.bind_some,c1',Option.bind_some,if_pos hc,v1',Option.bind_some,Zi (by rw [List.length_singleton];omega),r1',Option.bind_some,Zah (show k≤1048576 by omega)])
   have s2:loopS l (stS k b)=loopS l (stS (k+1) r):=Zkh (by
    simp only [Xy]
    rw [if_pos (by omega),Zr,hx,Option.bind_some,e2,Option.bind_some,if_pos rfl,Zah (show k≤1048576 by omega)])
   rcases Zoc hs h20 m (k+1) r (back++[v]) (by omega) r3 (by rw [List.length_append,List.length_singleton];omega) with ⟨c',j,q1,q2,q3⟩ | ⟨r',inv,q0,q1,q2⟩
   ·exact .inl ⟨c',j,q1,by rw [s1];exact q2,by rw [s2];exact q3⟩
   ·refine .inr ⟨r',v::inv,⟨q0.ok,q0.lib.trans r4,by have:=q0.len;rw [List.length_cons];omega,fun e he=>?_⟩,?_,by rw [s2];exact q2⟩
    ·rcases List.mem_cons.1 he with he | he
     ·rw [he];exact v3
     ·exact q0.sm e he
    ·rw [s1,q1,List.append_assoc]
     rfl
  ·have e2:QM ((Zl.Cells (Zb.Library b),()),(Za.Instances (Zb.Design b),Za.ZP (Zb.Design b),Za.Z0 (Zb.Design b),()),Zb.Zy b,()) x=some (Zi1,c):=by
    show QM b x=_
    unfold QM
    rw [c2,Option.bind_some,if_neg hc]
   refine .inl ⟨c,(k:Int),hc,ZdA ?_,ZdA ?_⟩
   ·simp only [Qr]
    rw [if_pos (by omega),Zr,hx,Option.bind_some,c1',Option.bind_some,if_neg hc]
   ·simp only [Xy]
    rw [if_pos (by omega),Zr,hx,Option.bind_some,e2,Option.bind_some,if_neg hc]
theorem Zqp (b:Zb) (l:List Zf) (hb:sm Yt b) (hl:sm (.sl Y9) l) :
  ∃ (r:Zb) (inv:List Zf) (c j:Int),ZcH b l=some (r,inv.reverse,c,j)∧Za9 b l=some (r,c,j)∧sm Yt r∧cnt Yt r≤cnt Z6 (Zb.Library b)+200000000∧
   (c≠0→inv=[])∧(c=0→ZaW b∧l.length≤20∧Done b l 0 [] r inv):=by
 have hc:=Zc5 b hb
 have ho:=Zme b hb
 unfold ZcH Za9
 rw [Zm9 b hb,Zg7 b hb,Option.bind_some,Option.bind_some]
 by_cases hB:ZkK b
 ·rw [if_pos (YS hB),if_pos (YS hB)]
  by_cases h20:(20:Int)<(l.length:Int)
  ·rw [if_pos h20,if_pos h20]
   exact ⟨Zi1,[],3,-1,rfl,rfl,ZkQ,Nat.zero_le _,fun _=>rfl,fun h=>by cases h⟩
  ·rw [if_neg h20,if_neg h20,hc,ho,Option.bind_some,Option.bind_some]
   have hS:ZaW b:=⟨hB,hb⟩
   rcases Zoc hl (by omega) l.length 0 b [] (by omega) hS rfl with ⟨c,j,q1,q2,q3⟩ | ⟨r,inv,q0,q1,q2⟩
   ·exact ⟨Zi1,[],c,j,q2,q3,ZkQ,Nat.zero_le _,fun _=>rfl,fun h=>absurd h q1⟩
   ·exact ⟨r,inv,0,-1,q1,q2,q0.ok.sm,by rw [←q0.lib];exact Ztz q0.ok,fun h=>absurd rfl h,fun _=>⟨hS,by omega,q0⟩⟩
 ·rw [if_neg (fun h=>hB ((VE _).1 h)),if_neg (fun h=>hB ((VE _).1 h))]
  exact ⟨Zi1,[],1,-1,rfl,rfl,ZkQ,Nat.zero_le _,fun _=>rfl,fun h=>by cases h⟩
end Go.Proofs.YtfndhpjedmopdaaGreatDoor
/-
  Plain laws: the law FnExactApplyEdits.
-/
namespace Go.Proofs.YtfndhpjedmopdaaGreatDoor
set_option linter.unusedVariables false
set_option linter.unusedSimpArgs false
open Go Go.Sx
theorem ZsF (a:List Zf) (h:tot (.sl Y9) a≤1048576):cnt (.sl Y9) a≤100+20*1048576:=by
 have hc:=Zp0 (.sl Y9) a
 have h1:wid (.sl Y9)≤100:=by decide
 have h2:Zei (.sl Y9)≤20:=by decide
 have:=Nat.mul_le_mul_right (tot (.sl Y9) a) h2
 omega
theorem Zf1 (a0:Zb) (a1:List Zf) (b0:bnd Yt a0) (b1:bnd (.sl Y9) a1):Vo a0 a1=some true:=by
 unfold Vo
 obtain ⟨n,e,hle,hP⟩:=ZmI a0 1048576 (by omega) (by omega) b0
 rw [e,Option.bind_some]
 by_cases hn:n<0
 ·rw [if_pos hn]
 rw [if_neg hn]
 have hs:=hP (by omega)
 have ht:=ZlB a0 1048576 (by omega) (by omega) b0 n e (by omega)
 obtain ⟨n1,e1,hle1,hP1⟩:=Zm1 a1 n (by omega) (by omega) b1
 rw [e1,Option.bind_some]
 by_cases hn1:n1<0
 ·rw [if_pos hn1]
 rw [if_neg hn1]
 have hs1:=hP1 (by omega)
 have ht1:=ZlP a1 n (by omega) (by omega) b1 n1 e1 (by omega)
 have hcb:=Zs4 a0 (by omega)
 have hce:=ZsF a1 (by omega)
 obtain ⟨r,inv,c,j,c1,c2,c3,c4,_,_⟩:=Zqp a0 a1 hs hs1
 have c1':ZaZ a0 a1=some (r,c,j):=by
  unfold ZaZ
  rw [c1]
  rfl
 have hlb:cnt Z6 (Zb.Library a0)≤cnt Yt a0:=Nat.le_add_right _ _
 have hcr:=ZqI Yt r
 obtain ⟨m0,hm0⟩:=Zkq a0 1 hs (by omega) (by omega)
 obtain ⟨m1,hm1⟩:=Zk5 a1 (1+((cnt Yt a0:Nat):Int)) hs1 (by omega) (by omega)
 have hm3:=Zko r 1 c3 (by omega) (by omega)
 have hm4:=ZkG r 1 c3 (by omega) (by omega)
 have hneg:¬(1+((cnt Yt a0:Nat):Int)+((cnt (.sl Y9) a1:Nat):Int))<0:=by omega
 have hneg2:¬(1+((Zfn Yt r:Nat):Int))<0:=by omega
 simp only [Zm0 _ hs,Zmb _ hs1,Option.bind_some,c1',c2,ZhV _ c3,ZhV _ hs,Znr _ hs1,if_true,hm0,hm1,hm3,hm4,hneg,hneg2,if_false]
end Go.Proofs.YtfndhpjedmopdaaGreatDoor
