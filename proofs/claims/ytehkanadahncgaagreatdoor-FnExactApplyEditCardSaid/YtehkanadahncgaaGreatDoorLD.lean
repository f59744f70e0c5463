/-
  Plain laws: marks are held.
-/
import Derived.Test.YtehkanadahncgaaGreatDoorLA
import Derived.Test.YtehkanadahncgaaGreatDoorLB
import Derived.Test.YtehkanadahncgaaGreatDoorLC
namespace Go.Proofs.YtehkanadahncgaaGreatDoor
set_option linter.unusedVariables false
set_option linter.unusedSimpArgs false
open Go Go.Sx
theorem ZeS (l:List Int):cnt (.sl (.int .i64)) l=l.length:=by
 show (l.map (cnt (.int .i64))).sum=_
 induction l with
 | nil=>rfl
 | cons x r ih=>simp only [List.map_cons,List.sum_cons,ih,List.length_cons,VP];omega
theorem ZrX (a:Zb) (h:tot Yr a≤1048576):cnt Yr a≤100+20*1048576:=by
 have hc:=Zqr Yr a
 have h1:wid Yr≤100:=by decide
 have h2:ZeD Yr≤20:=by decide
 have:=Nat.mul_le_mul_right (tot Yr a) h2
 omega
end Go.Proofs.YtehkanadahncgaaGreatDoor
/-
  Plain laws: marks, exactly; marks are held. Printed by program (heldgen.py).
-/
namespace Go.Proofs.YtehkanadahncgaaGreatDoor
open Go Go.Sx
set_option linter.unusedVariables false
set_option linter.unusedSimpArgs false
noncomputable def mt (k:Int):List UInt8:=(YN k).getD []
theorem Zm2 {k:Int} (h0:0≤k) (h1:k≤4611686018427387904):YN k=some (mt k):=by
 obtain ⟨s,h⟩:=Zen k h0 h1
 unfold mt;rw [h];rfl
theorem Zdq {α:Type} {L:List α} {j:Nat} {z z':α} {A A' B B':Int} (hA:A=A') (hB:B=B') (hz:z=z'):(some (.inl (A,B,List.set L j z,())):Option ((Int×Int×List α×Unit) ⊕ (Int×List α)))=some (.inl (A',B',List.set L j z',())):=by rw [hA,hB,hz]
theorem Zdu {A A' B B':Int} (hA:A=A') (hB:B=B'):(some (.inl (A,B,())):Option ((Int×Int×Unit) ⊕ Int))=some (.inl (A',B',())):=by rw [hA,hB]
theorem Zk5 (l:List (Yu)) (k:Int) (hs:sm (.sl (V9)) l) (h0:0≤k) (h1:k+((cnt (.sl (V9)) l:Nat):Int)≤4611686018427387904):Zas l k=some (k+((cnt (.sl (V9)) l:Nat):Int),mkL (mkA mt (V9)) (cnt (V9)) l k):=by
 unfold Zas
 have hl:l.length≤1048576:=by have:=hs.1;omega
 refine Zja (f:=mkA mt (V9)) (c:=cnt (V9)) (fun j m x L hj hj' hx hxm hm0 hm1 hj2=>?_) (fun m L=>?_) hl h0 h1
 ·have hsx:=hs.2 x hxm
  have hc:((cnt (V9) x:Nat):Int)=0+1+1+1+1:=by simp only [Qt,VP,Qs,Qr,Jc];omega
  have e0:=Zm2 (k:=m) (by omega) (by omega)
  have hx2:atI L (j:Int)=some x:=by rw [Zu];exact hx
  have hb:∀ {β:Type} (y:Yu) (F:Yu→Option β),(atI (List.set L j y) (j:Int)).bind F=F y:=fun y F=>by rw [ZbG hj];rfl
  simp only [Qd,if_pos hj',Int.toNat_natCast,hx2,↓hb,Option.bind_some,List.set_set,e0]
  refine Zdq ?_ ?_ ?_
  ·have hc:=hc;simp (disch:=omega) only [V8];omega
  ·simp (disch:=omega) only [V8];omega
  ·simp (disch:=omega) only [V8];rfl
 ·simp only [Qd,Int.lt_irrefl,if_false]
theorem YC (l:List (Int)) (k:Int) (hs:sm (.sl (.int .i64)) l) (h0:0≤k) (h1:k+((cnt (.sl (.int .i64)) l:Nat):Int)≤4611686018427387904):Yj l k=some (k+((cnt (.sl (.int .i64)) l:Nat):Int),mkL (mkA mt (.int .i64)) (cnt (.int .i64)) l k):=by
 unfold Yj
 have hl:l.length≤1048576:=by have:=hs.1;omega
 refine Zja (f:=mkA mt (.int .i64)) (c:=cnt (.int .i64)) (fun j m x L hj hj' hx hxm hm0 hm1 hj2=>?_) (fun m L=>?_) hl h0 h1
 ·have hsx:=hs.2 x hxm
  have hc:((cnt (.int .i64) x:Nat):Int)=0+1:=by rfl
  simp (disch:=omega) only [Xp,if_pos hj',Zu,hx,Option.bind_some,V8,Int.toNat_natCast,ZbG,List.length_set,List.set_set,List.getElem?_set_self]
  refine Zdq ?_ ?_ rfl
  ·have hc:=hc;omega
  ·omega
 ·simp only [Xp,Int.lt_irrefl,if_false]
theorem Zfv (l:List (Zr)) (k:Int) (hs:sm (.sl (Yf)) l) (h0:0≤k) (h1:k+((cnt (.sl (Yf)) l:Nat):Int)≤4611686018427387904):QF l k=some (k+((cnt (.sl (Yf)) l:Nat):Int),mkL (mkA mt (Yf)) (cnt (Yf)) l k):=by
 unfold QF
 have hl:l.length≤1048576:=by have:=hs.1;omega
 refine Zja (f:=mkA mt (Yf)) (c:=cnt (Yf)) (fun j m x L hj hj' hx hxm hm0 hm1 hj2=>?_) (fun m L=>?_) hl h0 h1
 ·have hsx:=hs.2 x hxm
  have hc:((cnt (Yf) x:Nat):Int)=0+((cnt (.sl (.int .i64)) x.1:Nat):Int)+((cnt (.sl (.int .i64)) x.2.1:Nat):Int)+((cnt (.sl (.int .i64)) x.2.2.1:Nat):Int):=by simp only [Qt,VP,Qs,Qr,Jc];omega
  have e0:=YC x.1 (m) hsx.1 (by omega) (by omega)
  have e1:=YC x.2.1 (m+((cnt (.sl (.int .i64)) x.1:Nat):Int)) hsx.2.1 (by omega) (by omega)
  have e2:=YC x.2.2.1 (m+((cnt (.sl (.int .i64)) x.1:Nat):Int)+((cnt (.sl (.int .i64)) x.2.1:Nat):Int)) hsx.2.2.1 (by omega) (by omega)
  simp (disch:=omega) only [Xr,if_pos hj',Zu,hx,Option.bind_some,V8,Int.toNat_natCast,ZbG,List.length_set,List.set_set,List.getElem?_set_self,e0,e1,e2]
  refine Zdq ?_ ?_ rfl
  ·have hc:=hc;omega
  ·omega
 ·simp only [Xr,Int.lt_irrefl,if_false]
theorem Zlj (l:List (ZM)) (k:Int) (hs:sm (.sl (Zaw)) l) (h0:0≤k) (h1:k+((cnt (.sl (Zaw)) l:Nat):Int)≤4611686018427387904):Zah l k=some (k+((cnt (.sl (Zaw)) l:Nat):Int),mkL (mkA mt (Zaw)) (cnt (Zaw)) l k):=by
 unfold Zah
 have hl:l.length≤1048576:=by have:=hs.1;omega
 refine Zja (f:=mkA mt (Zaw)) (c:=cnt (Zaw)) (fun j m x L hj hj' hx hxm hm0 hm1 hj2=>?_) (fun m L=>?_) hl h0 h1
 ·have hsx:=hs.2 x hxm
  have hc:((cnt (Zaw) x:Nat):Int)=0+1+1+1+1+((cnt (.sl (Yf)) x.2.2.2.2.1:Nat):Int)+((cnt (.sl (Yf)) x.2.2.2.2.2.1:Nat):Int):=by simp only [Qt,VP,Qs,Qr,Jc];omega
  have e4:=Zfv x.2.2.2.2.1 (m+1+1+1+1) hsx.2.2.2.2.1 (by omega) (by omega)
  have e5:=Zfv x.2.2.2.2.2.1 (m+1+1+1+1+((cnt (.sl (Yf)) x.2.2.2.2.1:Nat):Int)) hsx.2.2.2.2.2.1 (by omega) (by omega)
  simp (disch:=omega) only [Qb,if_pos hj',Zu,hx,Option.bind_some,V8,Int.toNat_natCast,ZbG,List.length_set,List.set_set,List.getElem?_set_self,e4,e5]
  refine Zdq ?_ ?_ rfl
  ·have hc:=hc;omega
  ·omega
 ·simp only [Qb,Int.lt_irrefl,if_false]
theorem Zkm (l:List (Zh)) (k:Int) (hs:sm (.sl (YL)) l) (h0:0≤k) (h1:k+((cnt (.sl (YL)) l:Nat):Int)≤4611686018427387904):Jg l k=some (k+((cnt (.sl (YL)) l:Nat):Int),mkL (mkA mt (YL)) (cnt (YL)) l k):=by
 unfold Jg
 have hl:l.length≤1048576:=by have:=hs.1;omega
 refine Zja (f:=mkA mt (YL)) (c:=cnt (YL)) (fun j m x L hj hj' hx hxm hm0 hm1 hj2=>?_) (fun m L=>?_) hl h0 h1
 ·have hsx:=hs.2 x hxm
  have hc:((cnt (YL) x:Nat):Int)=0+1+1+((cnt (.sl (V9)) x.2.2.1:Nat):Int)+((cnt (.sl (Zaw)) x.2.2.2.1:Nat):Int)+((cnt (.sl (.int .i64)) x.2.2.2.2.1:Nat):Int)+1+1:=by simp only [Qt,VP,Qs,Qr,Jc];omega
  have e0:=Zm2 (k:=m) (by omega) (by omega)
  have e2:=Zk5 x.2.2.1 (m+1+1) hsx.2.2.1 (by omega) (by omega)
  have e3:=Zlj x.2.2.2.1 (m+1+1+((cnt (.sl (V9)) x.2.2.1:Nat):Int)) hsx.2.2.2.1 (by omega) (by omega)
  have e4:=YC x.2.2.2.2.1 (m+1+1+((cnt (.sl (V9)) x.2.2.1:Nat):Int)+((cnt (.sl (Zaw)) x.2.2.2.1:Nat):Int)) hsx.2.2.2.2.1 (by omega) (by omega)
  simp (disch:=omega) only [XH,if_pos hj',Zu,hx,Option.bind_some,V8,Int.toNat_natCast,ZbG,List.length_set,List.set_set,List.getElem?_set_self,e0,e2,e3,e4]
  refine Zdq ?_ ?_ rfl
  ·have hc:=hc;omega
  ·omega
 ·simp only [XH,Int.lt_irrefl,if_false]
theorem ZiO (a:Zl) (k:Int) (hs:sm (Z0) a) (h0:0≤k) (h1:k+((Zdj (Z0) a:Nat):Int)≤4611686018427387904):QW a k=some (k+((Zdj (Z0) a:Nat):Int),mkT mt (Z0) a k):=by
 unfold QW
 have hc:((Zdj (Z0) a:Nat):Int)=0+(((cnt (.sl (YL)) a.1):Nat):Int):=by simp only [Zdj];omega
 have e0:=Zkm a.1 (k) hs.1 (by omega) (by omega)
 simp only [Option.bind_some,e0]
 refine congrArg some (Prod.ext (by show _=k+_;rw [hc,Int.zero_add]) rfl)
theorem ZgS (l:List (Zd)) (k:Int) (hs:sm (.sl (Zv)) l) (h0:0≤k) (h1:k+((cnt (.sl (Zv)) l:Nat):Int)≤4611686018427387904):XO l k=some (k+((cnt (.sl (Zv)) l:Nat):Int),mkL (mkA mt (Zv)) (cnt (Zv)) l k):=by
 unfold XO
 have hl:l.length≤1048576:=by have:=hs.1;omega
 refine Zja (f:=mkA mt (Zv)) (c:=cnt (Zv)) (fun j m x L hj hj' hx hxm hm0 hm1 hj2=>?_) (fun m L=>?_) hl h0 h1
 ·have hsx:=hs.2 x hxm
  have hc:((cnt (Zv) x:Nat):Int)=0+1+1+((cnt (.sl (.int .i64)) x.2.2.1:Nat):Int):=by simp only [Qt,VP,Qs,Qr,Jc];omega
  have e0:=Zm2 (k:=m) (by omega) (by omega)
  have e2:=YC x.2.2.1 (m+1+1) hsx.2.2.1 (by omega) (by omega)
  simp (disch:=omega) only [YW,if_pos hj',Zu,hx,Option.bind_some,V8,Int.toNat_natCast,ZbG,List.length_set,List.set_set,List.getElem?_set_self,e0,e2]
  refine Zdq ?_ ?_ rfl
  ·have hc:=hc;omega
  ·omega
 ·simp only [YW,Int.lt_irrefl,if_false]
theorem Ziy (l:List (List UInt8)) (k:Int) (hs:sm (.sl (.str)) l) (h0:0≤k) (h1:k+((cnt (.sl (.str)) l:Nat):Int)≤4611686018427387904):QY l k=some (k+((cnt (.sl (.str)) l:Nat):Int),mkL (mkA mt (.str)) (cnt (.str)) l k):=by
 unfold QY
 have hl:l.length≤1048576:=by have:=hs.1;omega
 refine Zja (f:=mkA mt (.str)) (c:=cnt (.str)) (fun j m x L hj hj' hx hxm hm0 hm1 hj2=>?_) (fun m L=>?_) hl h0 h1
 ·have hsx:=hs.2 x hxm
  have hc:((cnt (.str) x:Nat):Int)=0+1:=by rfl
  have e0:=Zm2 (k:=m) (by omega) (by omega)
  simp (disch:=omega) only [Xe,if_pos hj',Zu,hx,Option.bind_some,V8,Int.toNat_natCast,ZbG,List.length_set,List.set_set,List.getElem?_set_self,e0]
  refine Zdq ?_ ?_ rfl
  ·have hc:=hc;omega
  ·omega
 ·simp only [Xe,Int.lt_irrefl,if_false]
theorem Zj0 (l:List (ZU)) (k:Int) (hs:sm (.sl (Xk)) l) (h0:0≤k) (h1:k+((cnt (.sl (Xk)) l:Nat):Int)≤4611686018427387904):Jf l k=some (k+((cnt (.sl (Xk)) l:Nat):Int),mkL (mkA mt (Xk)) (cnt (Xk)) l k):=by
 unfold Jf
 have hl:l.length≤1048576:=by have:=hs.1;omega
 refine Zja (f:=mkA mt (Xk)) (c:=cnt (Xk)) (fun j m x L hj hj' hx hxm hm0 hm1 hj2=>?_) (fun m L=>?_) hl h0 h1
 ·have hsx:=hs.2 x hxm
  have hc:((cnt (Xk) x:Nat):Int)=0+1+1+1:=by simp only [Qt,VP,Qs,Qr,Jc];omega
  have e0:=Zm2 (k:=m) (by omega) (by omega)
  have hx2:atI L (j:Int)=some x:=by rw [Zu];exact hx
  have hb:∀ {β:Type} (y:ZU) (F:ZU→Option β),(atI (List.set L j y) (j:Int)).bind F=F y:=fun y F=>by rw [ZbG hj];rfl
  simp only [XJ,if_pos hj',Int.toNat_natCast,hx2,↓hb,Option.bind_some,List.set_set,e0]
  refine Zdq ?_ ?_ ?_
  ·have hc:=hc;simp (disch:=omega) only [V8];omega
  ·simp (disch:=omega) only [V8];omega
  ·simp (disch:=omega) only [V8];rfl
 ·simp only [XJ,Int.lt_irrefl,if_false]
theorem Zjq (a:Za) (k:Int) (hs:sm (Z8) a) (h0:0≤k) (h1:k+((Zdj (Z8) a:Nat):Int)≤4611686018427387904):Vy a k=some (k+((Zdj (Z8) a:Nat):Int),mkT mt (Z8) a k):=by
 unfold Vy
 have hc:((Zdj (Z8) a:Nat):Int)=0+(((cnt (.sl (Zv)) a.1):Nat):Int)+(((cnt (.sl (.str)) a.2.1):Nat):Int)+(((cnt (.sl (Xk)) a.2.2.1):Nat):Int):=by simp only [Zdj];omega
 have e0:=ZgS a.1 (k) hs.1 (by omega) (by omega)
 have e1:=Ziy a.2.1 (k+(((cnt (.sl (Zv)) a.1):Nat):Int)) hs.2.1 (by omega) (by omega)
 have e2:=Zj0 a.2.2.1 (k+(((cnt (.sl (Zv)) a.1):Nat):Int)+(((cnt (.sl (.str)) a.2.1):Nat):Int)) hs.2.2.1 (by omega) (by omega)
 simp only [Option.bind_some,e0,e1,e2]
 refine congrArg some (Prod.ext (by show _=k+_;rw [hc];omega) rfl)
theorem Zj9 (l:List (Zn)) (k:Int) (hs:sm (.sl (YJ)) l) (h0:0≤k) (h1:k+((cnt (.sl (YJ)) l:Nat):Int)≤4611686018427387904):Jl l k=some (k+((cnt (.sl (YJ)) l:Nat):Int),mkL (mkA mt (YJ)) (cnt (YJ)) l k):=by
 unfold Jl
 have hl:l.length≤1048576:=by have:=hs.1;omega
 refine Zja (f:=mkA mt (YJ)) (c:=cnt (YJ)) (fun j m x L hj hj' hx hxm hm0 hm1 hj2=>?_) (fun m L=>?_) hl h0 h1
 ·have hsx:=hs.2 x hxm
  have hc:((cnt (YJ) x:Nat):Int)=0+((cnt (.sl (.int .i64)) x.1:Nat):Int)+((cnt (.sl (.int .i64)) x.2.1:Nat):Int)+((cnt (.sl (.int .i64)) x.2.2.1:Nat):Int)+((cnt (.sl (.int .i64)) x.2.2.2.1:Nat):Int):=by simp only [Qt,VP,Qs,Qr,Jc];omega
  have e0:=YC x.1 (m) hsx.1 (by omega) (by omega)
  have e1:=YC x.2.1 (m+((cnt (.sl (.int .i64)) x.1:Nat):Int)) hsx.2.1 (by omega) (by omega)
  have e2:=YC x.2.2.1 (m+((cnt (.sl (.int .i64)) x.1:Nat):Int)+((cnt (.sl (.int .i64)) x.2.1:Nat):Int)) hsx.2.2.1 (by omega) (by omega)
  have e3:=YC x.2.2.2.1 (m+((cnt (.sl (.int .i64)) x.1:Nat):Int)+((cnt (.sl (.int .i64)) x.2.1:Nat):Int)+((cnt (.sl (.int .i64)) x.2.2.1:Nat):Int)) hsx.2.2.2.1 (by omega) (by omega)
  simp (disch:=omega) only [XK,if_pos hj',Zu,hx,Option.bind_some,V8,Int.toNat_natCast,ZbG,List.length_set,List.set_set,List.getElem?_set_self,e0,e1,e2,e3]
  refine Zdq ?_ ?_ rfl
  ·have hc:=hc;omega
  ·omega
 ·simp only [XK,Int.lt_irrefl,if_false]
theorem Zka (a:Zb) (k:Int) (hs:sm (Yr) a) (h0:0≤k) (h1:k+((Zdj (Yr) a:Nat):Int)≤4611686018427387904):Vt a k=some (k+((Zdj (Yr) a:Nat):Int),mkT mt (Yr) a k):=by
 unfold Vt
 have hc:((Zdj (Yr) a:Nat):Int)=0+(((Zdj (Z0) a.1):Nat):Int)+(((Zdj (Z8) a.2.1):Nat):Int)+(((cnt (.sl (YJ)) a.2.2.1):Nat):Int):=by simp only [Zdj];omega
 have e0:=ZiO a.1 (k) hs.1 (by omega) (by omega)
 have e1:=Zjq a.2.1 (k+(((Zdj (Z0) a.1):Nat):Int)) hs.2.1 (by omega) (by omega)
 have e2:=Zj9 a.2.2.1 (k+(((Zdj (Z0) a.1):Nat):Int)+(((Zdj (Z8) a.2.1):Nat):Int)) hs.2.2.1 (by omega) (by omega)
 simp only [Option.bind_some,e0,e1,e2]
 refine congrArg some (Prod.ext (by show _=k+_;rw [hc];omega) rfl)
theorem Zls (a:Zn) (k:Int) (hs:sm (YJ) a) (h0:0≤k) (h1:k+((Zdj (YJ) a:Nat):Int)≤4611686018427387904):Zch a k=some (k+((Zdj (YJ) a:Nat):Int),mkT mt (YJ) a k):=by
 unfold Zch
 have hc:((Zdj (YJ) a:Nat):Int)=0+(((cnt (.sl (.int .i64)) a.1):Nat):Int)+(((cnt (.sl (.int .i64)) a.2.1):Nat):Int)+(((cnt (.sl (.int .i64)) a.2.2.1):Nat):Int)+(((cnt (.sl (.int .i64)) a.2.2.2.1):Nat):Int):=by simp only [Zdj];omega
 have e0:=YC a.1 (k) hs.1 (by omega) (by omega)
 have e1:=YC a.2.1 (k+(((cnt (.sl (.int .i64)) a.1):Nat):Int)) hs.2.1 (by omega) (by omega)
 have e2:=YC a.2.2.1 (k+(((cnt (.sl (.int .i64)) a.1):Nat):Int)+(((cnt (.sl (.int .i64)) a.2.1):Nat):Int)) hs.2.2.1 (by omega) (by omega)
 have e3:=YC a.2.2.2.1 (k+(((cnt (.sl (.int .i64)) a.1):Nat):Int)+(((cnt (.sl (.int .i64)) a.2.1):Nat):Int)+(((cnt (.sl (.int .i64)) a.2.2.1):Nat):Int)) hs.2.2.2.1 (by omega) (by omega)
 simp only [Option.bind_some,e0,e1,e2,e3]
 refine congrArg some (Prod.ext (by show _=k+_;rw [hc];omega) rfl)
theorem Zk1 (a:Zf) (k:Int) (hs:sm (VT) a) (h0:0≤k) (h1:k+((Zdj (VT) a:Nat):Int)≤4611686018427387904):Zcx a k=some (k+((Zdj (VT) a:Nat):Int),mkT mt (VT) a k):=by
 unfold Zcx
 have hc:((Zdj (VT) a:Nat):Int)=0+(((Zdj (YJ) a.2.2.2.2.2.2.1):Nat):Int):=by simp only [Zdj];omega
 have e6:=Zls a.2.2.2.2.2.2.1 (k) hs.2.2.2.2.2.2.1 (by omega) (by omega)
 simp only [Option.bind_some,e6]
 refine congrArg some (Prod.ext (by show _=k+_;rw [hc,Int.zero_add]) (by simp only [mkT,Zdj,Int.natCast_zero,Int.add_zero]))
theorem Zk8 (l:List (Yu)) (k:Int) (hs:sm (.sl (V9)) l) (h0:0≤k) (h1:k+((cnt (.sl (V9)) l:Nat):Int)≤4611686018427387904):Zcq (mkL (mkA mt (V9)) (cnt (V9)) l k) k=some (k+((cnt (.sl (V9)) l:Nat):Int)):=by
 unfold Zcq
 have hl:l.length≤1048576:=by have:=hs.1;omega
 refine ZeR (f:=mkA mt (V9)) (c:=cnt (V9)) (step:=fun v=>Vj (mkL (mkA mt (V9)) (cnt (V9)) l k) v.1 v.2.1) (fun j m x hj hx hxm hm0 hm1 hj2=>?_) (fun m=>?_) hl h0 h1
 ·have hsx:=hs.2 x hxm
  have hc:((cnt (V9) x:Nat):Int)=0+1+1+1+1:=by simp only [Qt,VP,Qs,Qr,Jc];omega
  have f0:Yu.Name (mkA mt (V9) x m)=mt (m):=rfl
  have e0:=Zm2 (k:=m) (by omega) (by omega)
  have f1:Yu.Dir (mkA mt (V9) x m)=m+1:=rfl
  have f2:Yu.Cap (mkA mt (V9) x m)=m+1+1:=rfl
  have f3:Yu.Clock (mkA mt (V9) x m)=decide (Int.tmod (m+1+1+1) 3=0):=rfl
  simp (disch:=omega) only [Vj,if_pos hj,Zu,hx,Option.bind_some,V8,eq_self,if_true,if_false,beq_self_eq_true,f0,e0,f1,f2,f3]
  refine Zdu ?_ ?_
  ·have hc:=hc;omega
  ·omega
 ·simp only [Vj,Int.lt_irrefl,if_false]
theorem Xh (l:List (Int)) (k:Int) (hs:sm (.sl (.int .i64)) l) (h0:0≤k) (h1:k+((cnt (.sl (.int .i64)) l:Nat):Int)≤4611686018427387904):YO (mkL (mkA mt (.int .i64)) (cnt (.int .i64)) l k) k=some (k+((cnt (.sl (.int .i64)) l:Nat):Int)):=by
 unfold YO
 have hl:l.length≤1048576:=by have:=hs.1;omega
 refine ZeR (f:=mkA mt (.int .i64)) (c:=cnt (.int .i64)) (step:=fun v=>Qp (mkL (mkA mt (.int .i64)) (cnt (.int .i64)) l k) v.1 v.2.1) (fun j m x hj hx hxm hm0 hm1 hj2=>?_) (fun m=>?_) hl h0 h1
 ·have hsx:=hs.2 x hxm
  have hc:((cnt (.int .i64) x:Nat):Int)=0+1:=by rfl
  have f0:mkA mt (.int .i64) x m=m:=rfl
  simp (disch:=omega) only [Qp,if_pos hj,Zu,hx,Option.bind_some,V8,eq_self,if_true,if_false,beq_self_eq_true,f0]
  refine Zdu ?_ ?_
  ·have hc:=hc;omega
  ·omega
 ·simp only [Qp,Int.lt_irrefl,if_false]
theorem ZfE (l:List (Zr)) (k:Int) (hs:sm (.sl (Yf)) l) (h0:0≤k) (h1:k+((cnt (.sl (Yf)) l:Nat):Int)≤4611686018427387904):JW (mkL (mkA mt (Yf)) (cnt (Yf)) l k) k=some (k+((cnt (.sl (Yf)) l:Nat):Int)):=by
 unfold JW
 have hl:l.length≤1048576:=by have:=hs.1;omega
 refine ZeR (f:=mkA mt (Yf)) (c:=cnt (Yf)) (step:=fun v=>Qj (mkL (mkA mt (Yf)) (cnt (Yf)) l k) v.1 v.2.1) (fun j m x hj hx hxm hm0 hm1 hj2=>?_) (fun m=>?_) hl h0 h1
 ·have hsx:=hs.2 x hxm
  have hc:((cnt (Yf) x:Nat):Int)=0+((cnt (.sl (.int .i64)) x.1:Nat):Int)+((cnt (.sl (.int .i64)) x.2.1:Nat):Int)+((cnt (.sl (.int .i64)) x.2.2.1:Nat):Int):=by simp only [Qt,VP,Qs,Qr,Jc];omega
  have f0:Zr.Zfk (mkA mt (Yf) x m)=mkL (mkA mt (.int .i64)) (cnt (.int .i64)) x.1 (m):=rfl
  have e0:=Xh x.1 (m) hsx.1 (by omega) (by omega)
  have n0:¬(m+((cnt (.sl (.int .i64)) x.1:Nat):Int))<0:=by omega
  have f1:Zr.Loads (mkA mt (Yf) x m)=mkL (mkA mt (.int .i64)) (cnt (.int .i64)) x.2.1 (m+((cnt (.sl (.int .i64)) x.1:Nat):Int)):=rfl
  have e1:=Xh x.2.1 (m+((cnt (.sl (.int .i64)) x.1:Nat):Int)) hsx.2.1 (by omega) (by omega)
  have n1:¬(m+((cnt (.sl (.int .i64)) x.1:Nat):Int)+((cnt (.sl (.int .i64)) x.2.1:Nat):Int))<0:=by omega
  have f2:Zr.Values (mkA mt (Yf) x m)=mkL (mkA mt (.int .i64)) (cnt (.int .i64)) x.2.2.1 (m+((cnt (.sl (.int .i64)) x.1:Nat):Int)+((cnt (.sl (.int .i64)) x.2.1:Nat):Int)):=rfl
  have e2:=Xh x.2.2.1 (m+((cnt (.sl (.int .i64)) x.1:Nat):Int)+((cnt (.sl (.int .i64)) x.2.1:Nat):Int)) hsx.2.2.1 (by omega) (by omega)
  have n2:¬(m+((cnt (.sl (.int .i64)) x.1:Nat):Int)+((cnt (.sl (.int .i64)) x.2.1:Nat):Int)+((cnt (.sl (.int .i64)) x.2.2.1:Nat):Int))<0:=by omega
  simp (disch:=omega) only [Qj,if_pos hj,Zu,hx,Option.bind_some,V8,eq_self,if_true,if_false,beq_self_eq_true,f0,e0,n0,f1,e1,n1,f2,e2,n2]
  refine Zdu ?_ ?_
  ·have hc:=hc;omega
  ·omega
 ·simp only [Qj,Int.lt_irrefl,if_false]
theorem Zk6 (l:List (ZM)) (k:Int) (hs:sm (.sl (Zaw)) l) (h0:0≤k) (h1:k+((cnt (.sl (Zaw)) l:Nat):Int)≤4611686018427387904):Zb7 (mkL (mkA mt (Zaw)) (cnt (Zaw)) l k) k=some (k+((cnt (.sl (Zaw)) l:Nat):Int)):=by
 unfold Zb7
 have hl:l.length≤1048576:=by have:=hs.1;omega
 refine ZeR (f:=mkA mt (Zaw)) (c:=cnt (Zaw)) (step:=fun v=>Vm (mkL (mkA mt (Zaw)) (cnt (Zaw)) l k) v.1 v.2.1) (fun j m x hj hx hxm hm0 hm1 hj2=>?_) (fun m=>?_) hl h0 h1
 ·have hsx:=hs.2 x hxm
  have hc:((cnt (Zaw) x:Nat):Int)=0+1+1+1+1+((cnt (.sl (Yf)) x.2.2.2.2.1:Nat):Int)+((cnt (.sl (Yf)) x.2.2.2.2.2.1:Nat):Int):=by simp only [Qt,VP,Qs,Qr,Jc];omega
  have f0:ZM.Kind (mkA mt (Zaw) x m)=m:=rfl
  have f1:ZM.From (mkA mt (Zaw) x m)=m+1:=rfl
  have f2:ZM.To (mkA mt (Zaw) x m)=m+1+1:=rfl
  have f3:ZM.Zb5 (mkA mt (Zaw) x m)=m+1+1+1:=rfl
  have f4:ZM.Delay (mkA mt (Zaw) x m)=mkL (mkA mt (Yf)) (cnt (Yf)) x.2.2.2.2.1 (m+1+1+1+1):=rfl
  have e4:=ZfE x.2.2.2.2.1 (m+1+1+1+1) hsx.2.2.2.2.1 (by omega) (by omega)
  have n4:¬(m+1+1+1+1+((cnt (.sl (Yf)) x.2.2.2.2.1:Nat):Int))<0:=by omega
  have f5:ZM.Zhn (mkA mt (Zaw) x m)=mkL (mkA mt (Yf)) (cnt (Yf)) x.2.2.2.2.2.1 (m+1+1+1+1+((cnt (.sl (Yf)) x.2.2.2.2.1:Nat):Int)):=rfl
  have e5:=ZfE x.2.2.2.2.2.1 (m+1+1+1+1+((cnt (.sl (Yf)) x.2.2.2.2.1:Nat):Int)) hsx.2.2.2.2.2.1 (by omega) (by omega)
  have n5:¬(m+1+1+1+1+((cnt (.sl (Yf)) x.2.2.2.2.1:Nat):Int)+((cnt (.sl (Yf)) x.2.2.2.2.2.1:Nat):Int))<0:=by omega
  simp (disch:=omega) only [Vm,if_pos hj,Zu,hx,Option.bind_some,V8,eq_self,if_true,if_false,beq_self_eq_true,f0,f1,f2,f3,f4,e4,n4,f5,e5,n5]
  refine Zdu ?_ ?_
  ·have hc:=hc;omega
  ·omega
 ·simp only [Vm,Int.lt_irrefl,if_false]
theorem Zj1 (l:List (Zh)) (k:Int) (hs:sm (.sl (YL)) l) (h0:0≤k) (h1:k+((cnt (.sl (YL)) l:Nat):Int)≤4611686018427387904):Zbv (mkL (mkA mt (YL)) (cnt (YL)) l k) k=some (k+((cnt (.sl (YL)) l:Nat):Int)):=by
 unfold Zbv
 have hl:l.length≤1048576:=by have:=hs.1;omega
 refine ZeR (f:=mkA mt (YL)) (c:=cnt (YL)) (step:=fun v=>QK (mkL (mkA mt (YL)) (cnt (YL)) l k) v.1 v.2.1) (fun j m x hj hx hxm hm0 hm1 hj2=>?_) (fun m=>?_) hl h0 h1
 ·have hsx:=hs.2 x hxm
  have hc:((cnt (YL) x:Nat):Int)=0+1+1+((cnt (.sl (V9)) x.2.2.1:Nat):Int)+((cnt (.sl (Zaw)) x.2.2.2.1:Nat):Int)+((cnt (.sl (.int .i64)) x.2.2.2.2.1:Nat):Int)+1+1:=by simp only [Qt,VP,Qs,Qr,Jc];omega
  have f0:Zh.Name (mkA mt (YL) x m)=mt (m):=rfl
  have e0:=Zm2 (k:=m) (by omega) (by omega)
  have f1:Zh.Kind (mkA mt (YL) x m)=m+1:=rfl
  have f2:Zh.Yy (mkA mt (YL) x m)=mkL (mkA mt (V9)) (cnt (V9)) x.2.2.1 (m+1+1):=rfl
  have e2:=Zk8 x.2.2.1 (m+1+1) hsx.2.2.1 (by omega) (by omega)
  have n2:¬(m+1+1+((cnt (.sl (V9)) x.2.2.1:Nat):Int))<0:=by omega
  have f3:Zh.ZaS (mkA mt (YL) x m)=mkL (mkA mt (Zaw)) (cnt (Zaw)) x.2.2.2.1 (m+1+1+((cnt (.sl (V9)) x.2.2.1:Nat):Int)):=rfl
  have e3:=Zk6 x.2.2.2.1 (m+1+1+((cnt (.sl (V9)) x.2.2.1:Nat):Int)) hsx.2.2.2.1 (by omega) (by omega)
  have n3:¬(m+1+1+((cnt (.sl (V9)) x.2.2.1:Nat):Int)+((cnt (.sl (Zaw)) x.2.2.2.1:Nat):Int))<0:=by omega
  have f4:Zh.Truth (mkA mt (YL) x m)=mkL (mkA mt (.int .i64)) (cnt (.int .i64)) x.2.2.2.2.1 (m+1+1+((cnt (.sl (V9)) x.2.2.1:Nat):Int)+((cnt (.sl (Zaw)) x.2.2.2.1:Nat):Int)):=rfl
  have e4:=Xh x.2.2.2.2.1 (m+1+1+((cnt (.sl (V9)) x.2.2.1:Nat):Int)+((cnt (.sl (Zaw)) x.2.2.2.1:Nat):Int)) hsx.2.2.2.2.1 (by omega) (by omega)
  have n4:¬(m+1+1+((cnt (.sl (V9)) x.2.2.1:Nat):Int)+((cnt (.sl (Zaw)) x.2.2.2.1:Nat):Int)+((cnt (.sl (.int .i64)) x.2.2.2.2.1:Nat):Int))<0:=by omega
  have f5:Zh.ZrB (mkA mt (YL) x m)=m+1+1+((cnt (.sl (V9)) x.2.2.1:Nat):Int)+((cnt (.sl (Zaw)) x.2.2.2.1:Nat):Int)+((cnt (.sl (.int .i64)) x.2.2.2.2.1:Nat):Int):=rfl
  have f6:Zh.Zgy (mkA mt (YL) x m)=m+1+1+((cnt (.sl (V9)) x.2.2.1:Nat):Int)+((cnt (.sl (Zaw)) x.2.2.2.1:Nat):Int)+((cnt (.sl (.int .i64)) x.2.2.2.2.1:Nat):Int)+1:=rfl
  simp (disch:=omega) only [QK,if_pos hj,Zu,hx,Option.bind_some,V8,eq_self,if_true,if_false,beq_self_eq_true,f0,e0,f1,f2,e2,n2,f3,e3,n3,f4,e4,n4,f5,f6]
  refine Zdu ?_ ?_
  ·have hc:=hc;omega
  ·omega
 ·simp only [QK,Int.lt_irrefl,if_false]
theorem ZiL (a:Zl) (k:Int) (hs:sm (Z0) a) (h0:0≤k) (h1:k+((Zdj (Z0) a:Nat):Int)≤4611686018427387904):J5 (mkT mt (Z0) a k) k=some (k+((Zdj (Z0) a:Nat):Int)):=by
 unfold J5
 have hc:((Zdj (Z0) a:Nat):Int)=0+(((cnt (.sl (YL)) a.1):Nat):Int):=by simp only [Zdj];omega
 have f0:Zl.Cells (mkT mt (Z0) a k)=mkL (mkA mt (YL)) (cnt (YL)) a.1 (k):=by rfl
 have n0:¬(k+(((cnt (.sl (YL)) a.1):Nat):Int))<0:=by omega
 have e0:=Zj1 a.1 (k) hs.1 (by omega) (by omega)
 simp only [Option.bind_some,if_false,f0,n0,e0]
 refine congrArg some ?_
 omega
theorem ZgP (l:List (Zd)) (k:Int) (hs:sm (.sl (Zv)) l) (h0:0≤k) (h1:k+((cnt (.sl (Zv)) l:Nat):Int)≤4611686018427387904):VD (mkL (mkA mt (Zv)) (cnt (Zv)) l k) k=some (k+((cnt (.sl (Zv)) l:Nat):Int)):=by
 unfold VD
 have hl:l.length≤1048576:=by have:=hs.1;omega
 refine ZeR (f:=mkA mt (Zv)) (c:=cnt (Zv)) (step:=fun v=>Xo (mkL (mkA mt (Zv)) (cnt (Zv)) l k) v.1 v.2.1) (fun j m x hj hx hxm hm0 hm1 hj2=>?_) (fun m=>?_) hl h0 h1
 ·have hsx:=hs.2 x hxm
  have hc:((cnt (Zv) x:Nat):Int)=0+1+1+((cnt (.sl (.int .i64)) x.2.2.1:Nat):Int):=by simp only [Qt,VP,Qs,Qr,Jc];omega
  have f0:Zd.Name (mkA mt (Zv) x m)=mt (m):=rfl
  have e0:=Zm2 (k:=m) (by omega) (by omega)
  have f1:Zd.Cell (mkA mt (Zv) x m)=m+1:=rfl
  have f2:Zd.ZQ (mkA mt (Zv) x m)=mkL (mkA mt (.int .i64)) (cnt (.int .i64)) x.2.2.1 (m+1+1):=rfl
  have e2:=Xh x.2.2.1 (m+1+1) hsx.2.2.1 (by omega) (by omega)
  have n2:¬(m+1+1+((cnt (.sl (.int .i64)) x.2.2.1:Nat):Int))<0:=by omega
  simp (disch:=omega) only [Xo,if_pos hj,Zu,hx,Option.bind_some,V8,eq_self,if_true,if_false,beq_self_eq_true,f0,e0,f1,f2,e2,n2]
  refine Zdu ?_ ?_
  ·have hc:=hc;omega
  ·omega
 ·simp only [Xo,Int.lt_irrefl,if_false]
theorem ZiS (l:List (List UInt8)) (k:Int) (hs:sm (.sl (.str)) l) (h0:0≤k) (h1:k+((cnt (.sl (.str)) l:Nat):Int)≤4611686018427387904):J6 (mkL (mkA mt (.str)) (cnt (.str)) l k) k=some (k+((cnt (.sl (.str)) l:Nat):Int)):=by
 unfold J6
 have hl:l.length≤1048576:=by have:=hs.1;omega
 refine ZeR (f:=mkA mt (.str)) (c:=cnt (.str)) (step:=fun v=>XU (mkL (mkA mt (.str)) (cnt (.str)) l k) v.1 v.2.1) (fun j m x hj hx hxm hm0 hm1 hj2=>?_) (fun m=>?_) hl h0 h1
 ·have hsx:=hs.2 x hxm
  have hc:((cnt (.str) x:Nat):Int)=0+1:=by rfl
  have f0:mkA mt (.str) x m=mt (m):=rfl
  have e0:=Zm2 (k:=m) (by omega) (by omega)
  simp (disch:=omega) only [XU,if_pos hj,Zu,hx,Option.bind_some,V8,eq_self,if_true,if_false,beq_self_eq_true,f0,e0]
  refine Zdu ?_ ?_
  ·have hc:=hc;omega
  ·omega
 ·simp only [XU,Int.lt_irrefl,if_false]
theorem Zkd (l:List (ZU)) (k:Int) (hs:sm (.sl (Xk)) l) (h0:0≤k) (h1:k+((cnt (.sl (Xk)) l:Nat):Int)≤4611686018427387904):Zbf (mkL (mkA mt (Xk)) (cnt (Xk)) l k) k=some (k+((cnt (.sl (Xk)) l:Nat):Int)):=by
 unfold Zbf
 have hl:l.length≤1048576:=by have:=hs.1;omega
 refine ZeR (f:=mkA mt (Xk)) (c:=cnt (Xk)) (step:=fun v=>QS (mkL (mkA mt (Xk)) (cnt (Xk)) l k) v.1 v.2.1) (fun j m x hj hx hxm hm0 hm1 hj2=>?_) (fun m=>?_) hl h0 h1
 ·have hsx:=hs.2 x hxm
  have hc:((cnt (Xk) x:Nat):Int)=0+1+1+1:=by simp only [Qt,VP,Qs,Qr,Jc];omega
  have f0:ZU.Name (mkA mt (Xk) x m)=mt (m):=rfl
  have e0:=Zm2 (k:=m) (by omega) (by omega)
  have f1:ZU.Dir (mkA mt (Xk) x m)=m+1:=rfl
  have f2:ZU.Net (mkA mt (Xk) x m)=m+1+1:=rfl
  simp (disch:=omega) only [QS,if_pos hj,Zu,hx,Option.bind_some,V8,eq_self,if_true,if_false,beq_self_eq_true,f0,e0,f1,f2]
  refine Zdu ?_ ?_
  ·have hc:=hc;omega
  ·omega
 ·simp only [QS,Int.lt_irrefl,if_false]
theorem ZjG (a:Za) (k:Int) (hs:sm (Z8) a) (h0:0≤k) (h1:k+((Zdj (Z8) a:Nat):Int)≤4611686018427387904):ZaM (mkT mt (Z8) a k) k=some (k+((Zdj (Z8) a:Nat):Int)):=by
 unfold ZaM
 have hc:((Zdj (Z8) a:Nat):Int)=0+(((cnt (.sl (Zv)) a.1):Nat):Int)+(((cnt (.sl (.str)) a.2.1):Nat):Int)+(((cnt (.sl (Xk)) a.2.2.1):Nat):Int):=by simp only [Zdj];omega
 have f0:Za.Instances (mkT mt (Z8) a k)=mkL (mkA mt (Zv)) (cnt (Zv)) a.1 (k):=by rfl
 have n0:¬(k+(((cnt (.sl (Zv)) a.1):Nat):Int))<0:=by omega
 have e0:=ZgP a.1 (k) hs.1 (by omega) (by omega)
 have f1:Za.ZQ (mkT mt (Z8) a k)=mkL (mkA mt (.str)) (cnt (.str)) a.2.1 (k+(((cnt (.sl (Zv)) a.1):Nat):Int)):=by rfl
 have n1:¬(k+(((cnt (.sl (Zv)) a.1):Nat):Int)+(((cnt (.sl (.str)) a.2.1):Nat):Int))<0:=by omega
 have e1:=ZiS a.2.1 (k+(((cnt (.sl (Zv)) a.1):Nat):Int)) hs.2.1 (by omega) (by omega)
 have f2:Za.Z5 (mkT mt (Z8) a k)=mkL (mkA mt (Xk)) (cnt (Xk)) a.2.2.1 (k+(((cnt (.sl (Zv)) a.1):Nat):Int)+(((cnt (.sl (.str)) a.2.1):Nat):Int)):=by rfl
 have n2:¬(k+(((cnt (.sl (Zv)) a.1):Nat):Int)+(((cnt (.sl (.str)) a.2.1):Nat):Int)+(((cnt (.sl (Xk)) a.2.2.1):Nat):Int))<0:=by omega
 have e2:=Zkd a.2.2.1 (k+(((cnt (.sl (Zv)) a.1):Nat):Int)+(((cnt (.sl (.str)) a.2.1):Nat):Int)) hs.2.2.1 (by omega) (by omega)
 simp only [Option.bind_some,if_false,f0,n0,e0,f1,n1,e1,f2,n2,e2]
 refine congrArg some ?_
 omega
theorem ZjY (l:List (Zn)) (k:Int) (hs:sm (.sl (YJ)) l) (h0:0≤k) (h1:k+((cnt (.sl (YJ)) l:Nat):Int)≤4611686018427387904):Zbg (mkL (mkA mt (YJ)) (cnt (YJ)) l k) k=some (k+((cnt (.sl (YJ)) l:Nat):Int)):=by
 unfold Zbg
 have hl:l.length≤1048576:=by have:=hs.1;omega
 refine ZeR (f:=mkA mt (YJ)) (c:=cnt (YJ)) (step:=fun v=>QN (mkL (mkA mt (YJ)) (cnt (YJ)) l k) v.1 v.2.1) (fun j m x hj hx hxm hm0 hm1 hj2=>?_) (fun m=>?_) hl h0 h1
 ·have hsx:=hs.2 x hxm
  have hc:((cnt (YJ) x:Nat):Int)=0+((cnt (.sl (.int .i64)) x.1:Nat):Int)+((cnt (.sl (.int .i64)) x.2.1:Nat):Int)+((cnt (.sl (.int .i64)) x.2.2.1:Nat):Int)+((cnt (.sl (.int .i64)) x.2.2.2.1:Nat):Int):=by simp only [Qt,VP,Qs,Qr,Jc];omega
  have f0:Zn.Parent (mkA mt (YJ) x m)=mkL (mkA mt (.int .i64)) (cnt (.int .i64)) x.1 (m):=rfl
  have e0:=Xh x.1 (m) hsx.1 (by omega) (by omega)
  have n0:¬(m+((cnt (.sl (.int .i64)) x.1:Nat):Int))<0:=by omega
  have f1:Zn.Res (mkA mt (YJ) x m)=mkL (mkA mt (.int .i64)) (cnt (.int .i64)) x.2.1 (m+((cnt (.sl (.int .i64)) x.1:Nat):Int)):=rfl
  have e1:=Xh x.2.1 (m+((cnt (.sl (.int .i64)) x.1:Nat):Int)) hsx.2.1 (by omega) (by omega)
  have n1:¬(m+((cnt (.sl (.int .i64)) x.1:Nat):Int)+((cnt (.sl (.int .i64)) x.2.1:Nat):Int))<0:=by omega
  have f2:Zn.Cap (mkA mt (YJ) x m)=mkL (mkA mt (.int .i64)) (cnt (.int .i64)) x.2.2.1 (m+((cnt (.sl (.int .i64)) x.1:Nat):Int)+((cnt (.sl (.int .i64)) x.2.1:Nat):Int)):=rfl
  have e2:=Xh x.2.2.1 (m+((cnt (.sl (.int .i64)) x.1:Nat):Int)+((cnt (.sl (.int .i64)) x.2.1:Nat):Int)) hsx.2.2.1 (by omega) (by omega)
  have n2:¬(m+((cnt (.sl (.int .i64)) x.1:Nat):Int)+((cnt (.sl (.int .i64)) x.2.1:Nat):Int)+((cnt (.sl (.int .i64)) x.2.2.1:Nat):Int))<0:=by omega
  have f3:Zn.Zfp (mkA mt (YJ) x m)=mkL (mkA mt (.int .i64)) (cnt (.int .i64)) x.2.2.2.1 (m+((cnt (.sl (.int .i64)) x.1:Nat):Int)+((cnt (.sl (.int .i64)) x.2.1:Nat):Int)+((cnt (.sl (.int .i64)) x.2.2.1:Nat):Int)):=rfl
  have e3:=Xh x.2.2.2.1 (m+((cnt (.sl (.int .i64)) x.1:Nat):Int)+((cnt (.sl (.int .i64)) x.2.1:Nat):Int)+((cnt (.sl (.int .i64)) x.2.2.1:Nat):Int)) hsx.2.2.2.1 (by omega) (by omega)
  have n3:¬(m+((cnt (.sl (.int .i64)) x.1:Nat):Int)+((cnt (.sl (.int .i64)) x.2.1:Nat):Int)+((cnt (.sl (.int .i64)) x.2.2.1:Nat):Int)+((cnt (.sl (.int .i64)) x.2.2.2.1:Nat):Int))<0:=by omega
  simp (disch:=omega) only [QN,if_pos hj,Zu,hx,Option.bind_some,V8,eq_self,if_true,if_false,beq_self_eq_true,f0,e0,n0,f1,e1,n1,f2,e2,n2,f3,e3,n3]
  refine Zdu ?_ ?_
  ·have hc:=hc;omega
  ·omega
 ·simp only [QN,Int.lt_irrefl,if_false]
theorem ZjP (a:Zb) (k:Int) (hs:sm (Yr) a) (h0:0≤k) (h1:k+((Zdj (Yr) a:Nat):Int)≤4611686018427387904):Zbi (mkT mt (Yr) a k) k=some (k+((Zdj (Yr) a:Nat):Int)):=by
 unfold Zbi
 have hc:((Zdj (Yr) a:Nat):Int)=0+(((Zdj (Z0) a.1):Nat):Int)+(((Zdj (Z8) a.2.1):Nat):Int)+(((cnt (.sl (YJ)) a.2.2.1):Nat):Int):=by simp only [Zdj];omega
 have f0:Zb.Library (mkT mt (Yr) a k)=mkT mt (Z0) a.1 (k):=by rfl
 have n0:¬(k+(((Zdj (Z0) a.1):Nat):Int))<0:=by omega
 have e0:=ZiL a.1 (k) hs.1 (by omega) (by omega)
 have f1:Zb.Design (mkT mt (Yr) a k)=mkT mt (Z8) a.2.1 (k+(((Zdj (Z0) a.1):Nat):Int)):=by rfl
 have n1:¬(k+(((Zdj (Z0) a.1):Nat):Int)+(((Zdj (Z8) a.2.1):Nat):Int))<0:=by omega
 have e1:=ZjG a.2.1 (k+(((Zdj (Z0) a.1):Nat):Int)) hs.2.1 (by omega) (by omega)
 have f2:Zb.Zz (mkT mt (Yr) a k)=mkL (mkA mt (YJ)) (cnt (YJ)) a.2.2.1 (k+(((Zdj (Z0) a.1):Nat):Int)+(((Zdj (Z8) a.2.1):Nat):Int)):=by rfl
 have n2:¬(k+(((Zdj (Z0) a.1):Nat):Int)+(((Zdj (Z8) a.2.1):Nat):Int)+(((cnt (.sl (YJ)) a.2.2.1):Nat):Int))<0:=by omega
 have e2:=ZjY a.2.2.1 (k+(((Zdj (Z0) a.1):Nat):Int)+(((Zdj (Z8) a.2.1):Nat):Int)) hs.2.2.1 (by omega) (by omega)
 simp only [Option.bind_some,if_false,f0,n0,e0,f1,n1,e1,f2,n2,e2]
 refine congrArg some ?_
 omega
end Go.Proofs.YtehkanadahncgaaGreatDoor
/-
  Plain laws: edits: what an edit may mention, and when it is possible.
-/
namespace Go.Proofs.YtehkanadahncgaaGreatDoor
set_option linter.unusedVariables false
set_option linter.unusedSimpArgs false
open Go Go.Sx
theorem Znm {e:Zf} (h:sm VT e):sm .str (Zf.Name e)∧sm YJ (Zf.Zeq e):=⟨h.2.2.2.2.2.1,h.2.2.2.2.2.2.1⟩
def Zh9 (w:Zn):Prop:=Zn.Parent w=[]∧Zn.Res w=[]∧Zn.Cap w=[]∧Zn.Zfp w=[]
theorem Zsg (w:Zn) (hw:sm YJ w):(some (Decidable.decide (IntKind.i64.wrap (IntKind.i64.wrap (IntKind.i64.wrap ((↑(List.length (Zn.Parent w)):Int)+(↑(List.length (Zn.Res w)):Int))+(↑(List.length (Zn.Cap w)):Int))+(↑(List.length (Zn.Zfp w)):Int))=(0:Int))):Option Bool)=some (tr (Zh9 w)):=by
 obtain ⟨a1,a2,a3,a4⟩:=Zh8 hw
 have s1:=Zm a1
 have s2:=Zm a2
 have s3:=Zm a3
 have s4:=Zm a4
 rw [V8 (n:=((Zn.Parent w).length:Int)+((Zn.Res w).length:Int)) (by omega) (by omega),V8 (n:=((Zn.Parent w).length:Int)+((Zn.Res w).length:Int)+((Zn.Cap w).length:Int)) (by omega) (by omega),V8 (by omega) (by omega)]
 refine ZdB ?_
 rw [decide_eq_true_eq]
 unfold Zh9
 rw [←List.length_eq_zero_iff,←List.length_eq_zero_iff,←List.length_eq_zero_iff,←List.length_eq_zero_iff]
 omega
def Blank (e:Zf):Prop :=
 (Zf.Kind e=1∧Zf.Net e=0∧Zf.Node e=0∧Zf.Name e=[]∧Zh9 (Zf.Zeq e))∨
 (Zf.Kind e=2∧Zf.Net e=0∧Zf.Node e=0∧Zh9 (Zf.Zeq e))∨
 (Zf.Kind e=3∧Zf.Place e=0∧Zf.Cell e=0∧Zf.Net e=0∧Zf.Node e=0∧Zf.Name e=[]∧Zh9 (Zf.Zeq e))∨
 (Zf.Kind e=4∧Zf.Cell e=0∧Zf.Name e=[]∧Zh9 (Zf.Zeq e))∨
 (Zf.Kind e=5∧Zf.Place e=0∧Zf.Cell e=0∧Zf.Node e=0∧Zf.Name e=[])
theorem Zlh (e:Zf) (he:sm VT e):Zb8 e=some (tr (Blank e)):=by
 have hn:=Zsg (Zf.Zeq e) (Znm he).2
 unfold Zb8
 rw [hn]
 by_cases k1:Zf.Kind e=1
 ·rw [if_pos k1]
  refine J2 (YE fun _=>YE fun _=>YE fun _=>rfl) ?_
  unfold Blank;grind
 rw [if_neg k1]
 by_cases k2:Zf.Kind e=2
 ·rw [if_pos k2]
  refine J2 (YE fun _=>YE fun _=>rfl) ?_
  unfold Blank;grind
 rw [if_neg k2]
 by_cases k3:Zf.Kind e=3
 ·rw [if_pos k3]
  refine J2 (YE fun _=>YE fun _=>YE fun _=>YE fun _=>YE fun _=>rfl) ?_
  unfold Blank;grind
 rw [if_neg k3]
 by_cases k4:Zf.Kind e=4
 ·rw [if_pos k4]
  refine J2 (YE fun _=>YE fun _=>rfl) ?_
  unfold Blank;grind
 rw [if_neg k4]
 by_cases k5:Zf.Kind e=5
 ·rw [if_pos k5]
  refine J2 (YE fun _=>YE fun _=>YE fun _=>ZdB decide_eq_true_iff) ?_
  unfold Blank;grind
 ·rw [if_neg k5]
  refine Zj6 ?_
  unfold Blank;grind
theorem Zcf (a b:List Int) (ha:a.length≤1048576):Yw a b=some (tr (a=b)):=by
 unfold Yw
 by_cases hl:(a.length:Int)=(b.length:Int)
 ·rw [if_pos hl,ZaP (l:=a) (show Len a by unfold Len;omega) (fun k x=>b[k]?=some x) (bad:=false) (good:=true)
   (fun k x hx hk _=>by
    have hy:b[k]?=some b[k]:=List.getElem?_eq_getElem (by omega)
    simp only [YZ,show (k:Int)<(a.length:Int) from by omega,if_true,Zu,hx,hy,Option.bind_some,Option.some.injEq]
    constructor
    ·intro hh;rw [if_pos hh.symm]
    ·intro hh;rw [if_neg (fun q=>hh q.symm)])
   (fun _=>by simp only [YZ,Int.lt_irrefl,if_false]),ZlK]
  congr 1
  refine Jd ⟨fun h=>?_,fun h=>by subst h;exact fun k x hx=>hx⟩
  apply List.ext_getElem?
  intro k
  by_cases hk:k<a.length
  ·rw [h k a[k] (List.getElem?_eq_getElem hk),List.getElem?_eq_getElem hk]
  ·rw [List.getElem?_eq_none (by omega),List.getElem?_eq_none (by omega)]
 ·rw [if_neg hl,Yp (fun h=>hl (by rw [h]))]
def ZpR (a b:Zn):Prop:=Zn.Parent a=Zn.Parent b∧Zn.Res a=Zn.Res b∧Zn.Cap a=Zn.Cap b∧Zn.Zfp a=Zn.Zfp b
theorem Zln (a b:Zn) (ha:sm YJ a):Zck a b=some (tr (ZpR a b)):=by
 obtain ⟨a1,a2,a3,a4⟩:=Zh8 ha
 have s1:=Zm a1
 have s2:=Zm a2
 have s3:=Zm a3
 have s4:=Zm a4
 unfold Zck
 exact Xl (Zcf _ _ s1) fun _=>Xl (Zcf _ _ s2) fun _=>Xl (Zcf _ _ s3) fun _=>Zdn (Zcf _ _ s4)
theorem Za9 (a b:Zf) (ha:sm VT a):Za3 a b=some (tr (Zf.Kind a=Zf.Kind b∧Zf.Place a=Zf.Place b∧Zf.Cell a=Zf.Cell b∧Zf.Net a=Zf.Net b∧Zf.Node a=Zf.Node b∧Zf.Name a=Zf.Name b∧ZpR (Zf.Zeq a) (Zf.Zeq b))):=by
 unfold Za3
 exact YE fun _=>YE fun _=>YE fun _=>YE fun _=>YE fun _=>YE fun _=>Zdn (Zln _ _ (Znm ha).2)
theorem ZtS (e:Zf) (he:sm VT e):(Yl (Zf.Kind e) 1 5=some (tr (1≤Zf.Kind e∧Zf.Kind e≤5)))∧∃ o,Zci e=some o∧Za3 e o=some (tr (Zf.Kind e<1∨5<Zf.Kind e∨Blank e))∨(¬(1≤Zf.Kind e∧Zf.Kind e≤5)):=by
 refine ⟨Zbd _ _ _,?_⟩
 unfold Zci
 by_cases k1:Zf.Kind e=1
 ·rw [if_pos k1]
  refine ⟨_,.inl ⟨rfl,?_⟩⟩
  refine J2 (Za9 e _ he) ?_
  rw [show ZpR (Zf.Zeq e) (Zf.Zeq (Zf.Kind e,Zf.Place e,Zf.Cell e,(0:Int),(0:Int),([]:List UInt8),(([]:List Int),([]:List Int),([]:List Int),([]:List Int),()),()))↔Zh9 (Zf.Zeq e) from Iff.rfl]
  unfold Blank
  simp only [k1]
  constructor
  ·rintro ⟨_,_,_,a,b,c,d⟩;exact .inr (.inr (.inl ⟨trivial,a,b,c,d⟩))
  ·intro h;grind
 rw [if_neg k1]
 by_cases k2:Zf.Kind e=2
 ·rw [if_pos k2]
  refine ⟨_,.inl ⟨rfl,?_⟩⟩
  refine J2 (Za9 e _ he) ?_
  rw [show ZpR (Zf.Zeq e) (Zf.Zeq (Zf.Kind e,Zf.Place e,Zf.Cell e,(0:Int),(0:Int),Zf.Name e,(([]:List Int),([]:List Int),([]:List Int),([]:List Int),()),()))↔Zh9 (Zf.Zeq e) from Iff.rfl]
  unfold Blank
  simp only [k2]
  constructor
  ·rintro ⟨_,_,_,a,b,c,d⟩;exact .inr (.inr (.inr (.inl ⟨trivial,a,b,d⟩)))
  ·intro h;grind
 rw [if_neg k2]
 by_cases k4:Zf.Kind e=4
 ·rw [if_pos k4]
  refine ⟨_,.inl ⟨rfl,?_⟩⟩
  refine J2 (Za9 e _ he) ?_
  rw [show ZpR (Zf.Zeq e) (Zf.Zeq (Zf.Kind e,Zf.Place e,(0:Int),Zf.Net e,Zf.Node e,([]:List UInt8),(([]:List Int),([]:List Int),([]:List Int),([]:List Int),()),()))↔Zh9 (Zf.Zeq e) from Iff.rfl]
  unfold Blank
  simp only [k4]
  constructor
  ·rintro ⟨_,_,a,_,_,c,d⟩;exact .inr (.inr (.inr (.inr (.inr (.inl ⟨trivial,a,c,d⟩)))))
  ·intro h;grind
 rw [if_neg k4]
 by_cases k5:Zf.Kind e=5
 ·rw [if_pos k5]
  refine ⟨_,.inl ⟨rfl,?_⟩⟩
  refine J2 (Za9 e _ he) ?_
  rw [show ZpR (Zf.Zeq e) (Zf.Zeq (Zf.Kind e,(0:Int),(0:Int),Zf.Net e,(0:Int),([]:List UInt8),e.snd.snd.snd.snd.snd.snd))↔True from ⟨fun _=>trivial,fun _=>⟨rfl,rfl,rfl,rfl⟩⟩]
  unfold Blank
  simp only [k5]
  constructor
  ·rintro ⟨_,a,b,_,c,d,_⟩;exact .inr (.inr (.inr (.inr (.inr (.inr ⟨trivial,a,b,c,d⟩)))))
  ·intro h;grind
 rw [if_neg k5]
 by_cases k3:Zf.Kind e=3
 ·refine ⟨_,.inl ⟨rfl,?_⟩⟩
  refine J2 (Za9 e _ he) ?_
  rw [show ZpR (Zf.Zeq e) (Zf.Zeq (Zf.Kind e,(0:Int),(0:Int),(0:Int),(0:Int),([]:List UInt8),(([]:List Int),([]:List Int),([]:List Int),([]:List Int),()),()))↔Zh9 (Zf.Zeq e) from Iff.rfl]
  unfold Blank
  simp only [k3]
  constructor
  ·rintro ⟨_,a,b,c,d,f,g⟩;exact .inr (.inr (.inr (.inr (.inl ⟨trivial,a,b,c,d,f,g⟩))))
  ·intro h;grind
 ·exact ⟨e,.inr (by omega)⟩
end Go.Proofs.YtehkanadahncgaaGreatDoor
/-
  Plain laws: edits: range, possibility, code.
-/
namespace Go.Proofs.YtehkanadahncgaaGreatDoor
set_option linter.unusedVariables false
set_option linter.unusedSimpArgs false
open Go Go.Sx
def Zb1 (b:Zb) (e:Zf):Prop :=
 ((Zf.Kind e=1∨Zf.Kind e=2)→(0≤Zf.Place e∧Zf.Place e≤((places (Zb.Design b)).length:Int)-1)∧(0≤Zf.Cell e∧Zf.Cell e≤((Zl.Cells (Zb.Library b)).length:Int)-1))∧
 (Zf.Kind e=4→(0≤Zf.Place e∧Zf.Place e≤((places (Zb.Design b)).length:Int)-1)∧ZbA (Zb.Design b) (Zf.Net e)∧∃ w,(Zb.Zz b)[(Zf.Net e).toNat]?=some w∧(0≤Zf.Node e∧Zf.Node e≤((Zn.Parent w).length:Int)-1))∧
 (Zf.Kind e=5→ZbA (Zb.Design b) (Zf.Net e))
theorem ZjS {b:Zb} (h:ZbI b) {n:Int} (hn:ZbA (Zb.Design b) n):∃ w,(Zb.Zz b)[n.toNat]?=some w∧atI (Zb.Zz b) n=some w∧Zb3 w ((sinks (Zb.Design b) n).length:Int):=by
 have hwn:=h.ok.2.1
 have hlt:n.toNat<(Zb.Zz b).length:=by have:=hn.1;have:=hn.2;omega
 have hw:=List.getElem?_eq_getElem hlt
 refine ⟨_,hw,VJ hn.1 hw,?_⟩
 have this:Zb3 _ ((sinks (Zb.Design b) ((n.toNat:Nat):Int)).length:Int):=h.ok.2.2 n.toNat _ hw
 rwa [show ((n.toNat:Nat):Int)=n by have:=hn.1;omega] at this
theorem Zme {b:Zb} (h:ZbI b):(Zl.Cells (Zb.Library b)).length≤1048576:=Zm (Zm6 (Za4 h.sm).1)
theorem Zr4 {b:Zb} (h:ZbI b) (e:Zf) {w:Zn} (hw:(Zb.Zz b)[(Zf.Net e).toNat]?=some w):IntKind.i64.wrap (((Zn.Parent w).length:Int)-1)=((Zn.Parent w).length:Int)-1:=by
 have:=h.ok.2.2 _ _ hw
 have h1:=this.1
 rw [V8 (by omega) (by omega)]
theorem Zlk {b:Zb} (h:ZbI b) (e:Zf) (he:sm VT e):Zcs b e=some (tr (Zb1 b e)):=by
 have hD:=h.ok.1
 have hf:=hD.few
 have hpl:=Vf hf
 have hc:=Zme h
 have hwn:=h.ok.2.1
 have h30:=hD.2.1.2.1
 have e1:IntKind.i64.wrap (((places (Zb.Design b)).length:Int)-1)=((places (Zb.Design b)).length:Int)-1:=V8 (by omega) (by omega)
 have e2:IntKind.i64.wrap (((Zl.Cells (Zb.Library b)).length:Int)-1)=((Zl.Cells (Zb.Library b)).length:Int)-1:=V8 (by omega) (by omega)
 have e3:IntKind.i64.wrap (((Zb.Zz b).length:Int)-1)=((Za.ZQ (Zb.Design b)).length:Int)-1:=by rw [V8 (by omega) (by omega)];omega
 have net:(Yc (Zf.Net e) 0 (((Za.ZQ (Zb.Design b)).length:Int)-1))=some (tr (ZbA (Zb.Design b) (Zf.Net e))):=Za8 _ _ _
 unfold Zcs
 rw [Vh _ hf,Option.bind_some,e1,e2,e3]
 have pc:((Yc (Zf.Place e) 0 (((places (Zb.Design b)).length:Int)-1)).bind fun x=>if x=true then (Yc (Zf.Cell e) 0 (((Zl.Cells (Zb.Library b)).length:Int)-1)).bind fun y=>some y else some false) =
   some (tr ((0≤Zf.Place e∧Zf.Place e≤((places (Zb.Design b)).length:Int)-1)∧(0≤Zf.Cell e∧Zf.Cell e≤((Zl.Cells (Zb.Library b)).length:Int)-1))) :=
  Xl (Za8 _ _ _) fun _=>Zdn (Za8 _ _ _)
 have mv:((Yc (Zf.Place e) 0 (((places (Zb.Design b)).length:Int)-1)).bind fun x=>if x=true then (Yc (Zf.Net e) 0 (((Za.ZQ (Zb.Design b)).length:Int)-1)).bind fun y=>if y=true then
    (atI (Zb.Zz b) (Zf.Net e)).bind fun w=>(Yc (Zf.Node e) 0 (IntKind.i64.wrap (((Zn.Parent w).length:Int)-1))).bind fun z=>some z else some false else some false) =
   some (tr ((0≤Zf.Place e∧Zf.Place e≤((places (Zb.Design b)).length:Int)-1)∧ZbA (Zb.Design b) (Zf.Net e)∧∃ w,(Zb.Zz b)[(Zf.Net e).toNat]?=some w∧(0≤Zf.Node e∧Zf.Node e≤((Zn.Parent w).length:Int)-1))):=by
  refine Xl (Za8 _ _ _) fun _=>Xl net fun hn=>?_
  obtain ⟨w,hw,ha,_⟩:=ZjS h hn
  rw [ha,Option.bind_some,Zr4 h e hw]
  refine J2 (Zdn (Za8 _ _ _)) ⟨fun q=>⟨w,hw,q⟩,fun ⟨w',hw',q⟩=>?_⟩
  rw [hw] at hw'
  injection hw' with hw'
  subst hw';exact q
 by_cases k1:Zf.Kind e=1
 ·rw [if_pos k1,if_pos k1]
  refine J2 pc ?_
  unfold Zb1;grind
 rw [if_neg k1]
 by_cases k2:Zf.Kind e=2
 ·rw [if_pos k2]
  refine J2 pc ?_
  unfold Zb1;grind
 rw [if_neg k2]
 by_cases k4:Zf.Kind e=4
 ·rw [if_pos k4]
  refine J2 mv ?_
  unfold Zb1;grind
 rw [if_neg k4]
 by_cases k5:Zf.Kind e=5
 ·rw [if_pos k5]
  refine J2 (Zdn net) ?_
  unfold Zb1;grind
 ·rw [if_neg k5]
  refine (ZdB (P:=Zb1 b e) ⟨fun _=>?_,fun _=>rfl⟩)
  unfold Zb1;grind
theorem Zkl {b:Zb} (h:ZbI b) (e:Zf) (he:sm VT e):Vn e b=some (tr (Blank e∧Zb1 b e)):=by
 have hD:=h.ok.1
 have hf:=hD.few
 have hpl:=Vf hf
 have hc:=Zme h
 have hsd:=(Za4 h.sm).2.1
 have e1:IntKind.i64.wrap (((places (Zb.Design b)).length:Int)-1)=((places (Zb.Design b)).length:Int)-1:=V8 (by omega) (by omega)
 have e2:IntKind.i64.wrap (((Zl.Cells (Zb.Library b)).length:Int)-1)=((Zl.Cells (Zb.Library b)).length:Int)-1:=V8 (by omega) (by omega)
 obtain ⟨hw,o,ho⟩:=ZtS e he
 unfold Vn
 rw [hw,Option.bind_some]
 by_cases hk:1≤Zf.Kind e∧Zf.Kind e≤5
 ·rw [if_pos (YR hk)]
  rcases ho with ⟨ho1,ho2⟩ | ho
  ·rw [ho1,Option.bind_some,ho2,Option.bind_some]
   by_cases hB:Blank e
   ·rw [if_pos (YR (.inr (.inr hB))),YG _ hf,Option.bind_some,show Q8 (places (Zb.Design b))=some ((places (Zb.Design b)).length:Int) from rfl,Option.bind_some,e1,Zbd,Option.bind_some,
     show Y2 (Zl.Cells (Zb.Library b))=some ((Zl.Cells (Zb.Library b)).length:Int) from rfl]
    simp only [Option.bind_some,e2]
    have net:=ZcC (Zb.Design b) (Zf.Net e) hsd
    have pc:(if tr (0≤Zf.Place e∧Zf.Place e≤((places (Zb.Design b)).length:Int)-1)=true then (Yl (Zf.Cell e) 0 (((Zl.Cells (Zb.Library b)).length:Int)-1)).bind fun y=>some y else some false) =
      some (tr ((0≤Zf.Place e∧Zf.Place e≤((places (Zb.Design b)).length:Int)-1)∧(0≤Zf.Cell e∧Zf.Cell e≤((Zl.Cells (Zb.Library b)).length:Int)-1))) :=
     ZvY (Zdn (Zbd _ _ _))
    by_cases k1:Zf.Kind e=1
    ·rw [if_pos k1,if_pos k1]
     refine J2 pc ?_
     unfold Zb1;grind
    rw [if_neg k1]
    by_cases k2:Zf.Kind e=2
    ·rw [if_pos k2]
     refine J2 pc ?_
     unfold Zb1;grind
    rw [if_neg k2]
    by_cases k4:Zf.Kind e=4
    ·rw [if_pos k4]
     have mv:(if tr (0≤Zf.Place e∧Zf.Place e≤((places (Zb.Design b)).length:Int)-1)=true then (YD (Zb.Design b) (Zf.Net e)).bind fun y=>if y=true then
        (atI (Zb.Zz b) (Zf.Net e)).bind fun w=>(YH (Zn.Parent w)).bind fun n=>(Yl (Zf.Node e) 0 (IntKind.i64.wrap (n-1))).bind fun z=>some z else some false else some false) =
       some (tr ((0≤Zf.Place e∧Zf.Place e≤((places (Zb.Design b)).length:Int)-1)∧ZbA (Zb.Design b) (Zf.Net e)∧∃ w,(Zb.Zz b)[(Zf.Net e).toNat]?=some w∧(0≤Zf.Node e∧Zf.Node e≤((Zn.Parent w).length:Int)-1))):=by
      by_cases hp:0≤Zf.Place e∧Zf.Place e≤((places (Zb.Design b)).length:Int)-1
      ·rw [if_pos (YR hp)]
       refine J2 (Xl net fun hn=>?_) (P:=ZbA (Zb.Design b) (Zf.Net e)∧∃ w,(Zb.Zz b)[(Zf.Net e).toNat]?=some w∧(0≤Zf.Node e∧Zf.Node e≤((Zn.Parent w).length:Int)-1)) ⟨fun q=>⟨hp,q⟩,fun q=>q.2⟩
       obtain ⟨w,hw,ha,_⟩:=ZjS h hn
       rw [ha,Option.bind_some,ZaF,Option.bind_some,Zr4 h e hw]
       refine J2 (Zdn (Zbd _ _ _)) ⟨fun q=>⟨w,hw,q⟩,fun ⟨w',hw',q⟩=>?_⟩
       rw [hw] at hw'
       injection hw' with hw'
       subst hw';exact q
      ·rw [if_neg (fun q=>hp ((Vp _).1 q)),Yp (fun q=>hp q.1)]
     refine J2 mv ?_
     unfold Zb1;grind
    rw [if_neg k4]
    by_cases k5:Zf.Kind e=5
    ·rw [if_pos k5]
     refine J2 (Zdn net) ?_
     unfold Zb1;grind
    ·rw [if_neg k5]
     refine (ZdB (P:=Blank e∧Zb1 b e) ⟨fun _=>⟨hB,?_⟩,fun _=>rfl⟩)
     unfold Zb1;grind
   ·rw [if_neg (fun q=>by rcases (Vp _).1 q with q | q | q<;>first | omega | exact hB q),Yp (fun q=>hB q.1)]
  ·exact absurd hk ho
 ·rw [if_neg (fun q=>hk ((Vp _).1 q)),Yp (fun q=>?_)]
  have:=q.1
  unfold Blank at this
  omega
theorem ZtA (a b:Zh) (ha:sm YL a):Zb6 a b=Vs a b∧∃ r,Vs a b=some r:=by
 have s1:(Zh.Yy a).length≤1048576:=by have:=(ZrI ha).pins.1;omega
 unfold Zb6 Vs ZE
 by_cases k:Zh.Kind a=Zh.Kind b
 ·rw [if_pos k,if_pos k]
  by_cases hl:((Zh.Yy a).length:Int)=((Zh.Yy b).length:Int)
  ·rw [if_pos hl,if_pos hl]
   rw [ZaP (l:=Zh.Yy a) (show Len _ by unfold Len;omega) (fun k x=>∀ y,(Zh.Yy b)[k]?=some y→(Yu.Clock x == Yu.Clock y)=true) (bad:=false) (good:=true)
    (step:=fun v=>Zt (Zh.Yy a) (Zh.Yy b) v.1)
    (fun k x hx hk _=>by
     have hy:(Zh.Yy b)[k]?=some (Zh.Yy b)[k]:=List.getElem?_eq_getElem (by omega)
     simp only [Zt,Zbe,show (k:Int)<((Zh.Yy a).length:Int) from by omega,if_true,Zu,hx,hy,Option.bind_some,Option.some.injEq,forall_eq']
     constructor
     ·intro hh;rw [if_pos hh]
     ·intro hh;rw [if_neg hh])
    (fun _=>by simp only [Zt,Int.lt_irrefl,if_false]),
    ZaP (l:=Zh.Yy a) (show Len _ by unfold Len;omega) (fun k x=>∀ y,(Zh.Yy b)[k]?=some y→(Yu.Clock x == Yu.Clock y)=true) (bad:=false) (good:=true)
    (step:=fun v=>Ve a b v.1)
    (fun k x hx hk _=>by
     have hy:(Zh.Yy b)[k]?=some (Zh.Yy b)[k]:=List.getElem?_eq_getElem (by omega)
     simp only [Ve,show (k:Int)<((Zh.Yy a).length:Int) from by omega,if_true,Zu,hx,hy,Option.bind_some,Option.some.injEq,forall_eq']
     constructor
     ·intro hh;rw [if_pos hh]
     ·intro hh;rw [if_neg hh])
    (fun _=>by simp only [Ve,Int.lt_irrefl,if_false])]
   exact ⟨rfl,_,rfl⟩
  ·rw [if_neg hl,if_neg hl]
   exact ⟨rfl,_,rfl⟩
 ·rw [if_neg k,if_neg k]
  exact ⟨rfl,_,rfl⟩
theorem ZkT (d:Za) (s:List UInt8) (hd:sm Z8 d):VF d s=some (Zcz (fun x=>decide (Zd.Name x=s)) (Za.Instances d))∧VK d s=some (Zcz (fun x=>decide (Zd.Name x=s)) (Za.Instances d)):=by
 have hl:=XF (Zcj hd).1
 constructor
 ·unfold VF
  rw [XC hl (fun x=>decide (Zd.Name x=s)) (fun x _=>rfl),Option.bind_some]
 ·unfold VK
  refine Zbl hl (out:=fun i=>i) (fun k x hx=>?_) ?_
  ·have hk:=(List.getElem?_eq_some_iff.1 hx).1
   simp only [Qo,show (k:Int)<((Za.Instances d).length:Int) from by omega,if_true,Zu,hx,Option.bind_some,decide_eq_true_eq]
   split<;>rfl
  ·simp only [Qo,Int.lt_irrefl,if_false]
theorem ZmB (d:Za) (s:List UInt8) (hd:sm Z8 d):QO d s=some (Zcz (fun x=>decide (s=x)) (Za.ZQ d))∧Zcg d s=some (Zcz (fun x=>decide (s=x)) (Za.ZQ d)):=by
 have hl:=XF (Zcj hd).2.2
 constructor
 ·unfold QO
  rw [ZeC hl,Option.bind_some]
 ·unfold Zcg ZdJ
  rw [Zbl hl (p:=fun x=>decide (s=x)) (out:=fun i=>i) (fun k x hx=>by
   have hk:=(List.getElem?_eq_some_iff.1 hx).1
   simp only [JN,show (k:Int)<((Za.ZQ d).length:Int) from by omega,if_true,Zu,hx,Option.bind_some,decide_eq_true_eq]
   by_cases hq:s=x
   ·rw [if_pos hq,if_pos hq.symm]
   ·rw [if_neg hq,if_neg (fun q=>hq q.symm)]) (by simp only [JN,Int.lt_irrefl,if_false]),Option.bind_some]
end Go.Proofs.YtehkanadahncgaaGreatDoor
/-
  Plain laws: edits: what is possible, the code of an edit, places after one.
-/
namespace Go.Proofs.YtehkanadahncgaaGreatDoor
set_option linter.unusedVariables false
set_option linter.unusedSimpArgs false
open Go Go.Sx
def Zjl (b:Zb):Prop:=∃ (x:Zd) (c:Zh) (w:Zn) (m:Int),
 0<(Za.Instances (Zb.Design b)).length∧(Za.Instances (Zb.Design b))[(Za.Instances (Zb.Design b)).length-1]?=some x∧
 (Zl.Cells (Zb.Library b))[(Zd.Cell x).toNat]?=some c∧Zh.Kind c=1∧(Zh.Yy c).length=2∧
 (Zd.ZQ x).length=2∧atI (Zd.ZQ x) 0=some m∧atI (Zd.ZQ x) 1=some (((Za.ZQ (Zb.Design b)).length:Int)-1)∧m≠((Za.ZQ (Zb.Design b)).length:Int)-1∧
 atI (Za.ZQ (Zb.Design b)) (((Za.ZQ (Zb.Design b)).length:Int)-1)=some (Zd.Name x)∧
 atI (Zb.Zz b) (((Za.ZQ (Zb.Design b)).length:Int)-1)=some w∧(Zn.Zfp w).length=1∧(sinks (Zb.Design b) (((Za.ZQ (Zb.Design b)).length:Int)-1)).length=1∧(Zn.Parent w).length=1∧atI (Zn.Cap w) 0=some 0
theorem Zt8 {b:Zb} (h:ZbI b):∃ r,XW b=some r∧Zdc b=some r∧
  (r=true→Zjl b):=by
 have hD:=h.ok.1
 have hf:=hD.few
 have h14:=hf.insts
 have h30:=hD.2.1.2.1
 have hwn:=h.ok.2.1
 unfold XW Zdc
 by_cases hn:((Za.Instances (Zb.Design b)).length:Int)=0
 ·rw [if_pos hn,hn,V8 (by omega) (by omega),if_pos (by omega)]
  exact ⟨false,rfl,rfl,fun h=>by cases h⟩
 rw [if_neg hn,V8 (n:=((Za.Instances (Zb.Design b)).length:Int)-1) (by omega) (by omega),if_neg (by omega)]
 have hlt:(Za.Instances (Zb.Design b)).length-1<(Za.Instances (Zb.Design b)).length:=by omega
 have hx:=List.getElem?_eq_getElem hlt
 generalize (Za.Instances (Zb.Design b))[(Za.Instances (Zb.Design b)).length-1]=x at hx
 have hx2:atI (Za.Instances (Zb.Design b)) (((Za.Instances (Zb.Design b)).length:Int)-1)=some x:=VJ (by omega) (by rw [←hx];congr 1;omega)
 obtain ⟨⟨c0,c1⟩,⟨c,hc,hnp⟩,hnet⟩:=hD.2.2.1 x (List.mem_of_getElem? hx)
 have hc2:atI (Zl.Cells (Zb.Library b)) (Zd.Cell x)=some c:=VJ c0 hc
 rw [hx2]
 simp only [Option.bind_some,hc2,show YQ (Za.ZQ (Zb.Design b))=some ((Za.ZQ (Zb.Design b)).length:Int) from rfl]
 rw [show Zay c=Qz c from rfl]
 have hbuf:Qz c=some (tr (Zh.Kind c=1∧(Zh.Yy c).length=2)):=by
  unfold Qz
  refine J2 (YE fun _=>ZdB decide_eq_true_iff) ?_
  omega
 rw [hbuf,Option.bind_some,Option.bind_some]
 by_cases hb:Zh.Kind c=1∧(Zh.Yy c).length=2
 ·rw [if_pos (YR hb),if_pos (YR hb)]
  have hl2:(Zd.ZQ x).length=2:=by rw [hnp];exact hb.2
  have n0:atI (Zd.ZQ x) 0=some ((Zd.ZQ x)[0]'(by omega)):=List.getElem?_eq_getElem (by omega)
  have n1:atI (Zd.ZQ x) 1=some ((Zd.ZQ x)[1]'(by omega)):=List.getElem?_eq_getElem (by omega)
  have hn1:=hnet ((Zd.ZQ x)[1]'(by omega)) (List.getElem_mem _)
  have hpos:1≤(Za.ZQ (Zb.Design b)).length:=by have:=hn1.1;have:=hn1.2;omega
  generalize (Zd.ZQ x)[1]'(by omega)=m1 at n1 hn1
  generalize (Zd.ZQ x)[0]'(by omega)=m0 at n0
  have eL:IntKind.i64.wrap (((Za.ZQ (Zb.Design b)).length:Int)-1)=((Za.ZQ (Zb.Design b)).length:Int)-1:=V8 (by omega) (by omega)
  have eW:IntKind.i64.wrap (((Zb.Zz b).length:Int)-1)=((Za.ZQ (Zb.Design b)).length:Int)-1:=by rw [V8 (by omega) (by omega)];omega
  have hL:ZbA (Zb.Design b) (((Za.ZQ (Zb.Design b)).length:Int)-1):=⟨by omega,by omega⟩
  obtain ⟨w,hw1,hw2,hw3⟩:=ZjS h hL
  have nL:atI (Za.ZQ (Zb.Design b)) (((Za.ZQ (Zb.Design b)).length:Int)-1)=some ((Za.ZQ (Zb.Design b))[(Za.ZQ (Zb.Design b)).length-1]'(by omega)):=VJ (by omega) (by
   rw [List.getElem?_eq_getElem (by omega)]
   congr 2
   omega)
  generalize (Za.ZQ (Zb.Design b))[(Za.ZQ (Zb.Design b)).length-1]'(by omega)=nm at nL
  have hcap:atI (Zn.Cap w) 0=some ((Zn.Cap w)[0]'(by have:=hw3.1;have:=hw3.2.2.1;omega)):=List.getElem?_eq_getElem (by have:=hw3.1;have:=hw3.2.2.1;omega)
  generalize (Zn.Cap w)[0]'(by have:=hw3.1;have:=hw3.2.2.1;omega)=cp at hcap
  have hsk:=hw3.2.2.2.1
  simp only [eL,eW,n0,n1,nL,hw2,Option.bind_some,Zac _ _ hf,ZeI,hcap]
  rw [←hsk]
  by_cases q1:m1=((Za.ZQ (Zb.Design b)).length:Int)-1
  ·rw [if_pos q1,if_pos q1]
   by_cases q2:m0=((Za.ZQ (Zb.Design b)).length:Int)-1
   ·rw [if_pos q2]
    by_cases q3:nm=Zd.Name x
    ·rw [if_pos q3]
     simp only [if_pos q2]
     exact ⟨_,rfl,rfl,fun q=>by cases q⟩
    ·rw [if_neg q3]
     exact ⟨_,rfl,rfl,fun q=>by cases q⟩
   ·rw [if_neg q2]
    by_cases q3:nm=Zd.Name x
    ·rw [if_pos q3,if_pos q3]
     simp only [if_neg q2]
     by_cases q4:((Zn.Zfp w).length:Int)=1
     ·rw [if_pos q4,if_pos q4]
      by_cases q5:((Zn.Parent w).length:Int)=1
      ·simp only [if_pos q5]
       refine ⟨_,rfl,rfl,fun q=>?_⟩
       have q6:=of_decide_eq_true q
       subst q1 q6
       exact ⟨x,c,w,m0,by omega,hx,hc,hb.1,hb.2,hl2,n0,n1,q2,by rw [nL,q3],hw2,by omega,by omega,by omega,hcap⟩
      ·simp only [if_neg q5]
       exact ⟨_,rfl,rfl,fun q=>by cases q⟩
     ·rw [if_neg q4,if_neg q4]
      exact ⟨_,rfl,rfl,fun q=>by cases q⟩
    ·rw [if_neg q3,if_neg q3]
     exact ⟨_,rfl,rfl,fun q=>by cases q⟩
  ·rw [if_neg q1,if_neg q1]
   exact ⟨_,rfl,rfl,fun q=>by cases q⟩
 ·rw [if_neg (fun q=>hb ((Vp _).1 q)),if_neg (fun q=>hb ((Vp _).1 q))]
  exact ⟨false,rfl,rfl,fun h=>by cases h⟩
theorem Zqe {b:Zb} (h:ZbI b) {i:Int} (h0:0≤i) (h1:i≤((Zl.Cells (Zb.Library b)).length:Int)-1):∃ c,atI (Zl.Cells (Zb.Library b)) i=some c∧sm YL c:=by
 have hlt:i.toNat<(Zl.Cells (Zb.Library b)).length:=by omega
 have hc:=List.getElem?_eq_getElem hlt
 exact ⟨_,VJ h0 hc,ZaR (Zm6 (Za4 h.sm).1) hc⟩
theorem ZnW {b:Zb} (h:ZbI b) {i:Int} (h0:0≤i) (h1:i≤((places (Zb.Design b)).length:Int)-1):∃ p,atI (places (Zb.Design b)) i=some p∧p∈places (Zb.Design b):=by
 have hlt:i.toNat<(places (Zb.Design b)).length:=by omega
 have hc:=List.getElem?_eq_getElem hlt
 exact ⟨_,VJ h0 hc,List.getElem_mem _⟩
theorem Zrf {d:Za} {p:Pl} (hp:p∈places d) (h0:0≤p.1):∃ x,(Za.Instances d)[p.1.toNat]?=some x∧x∈Za.Instances d:=by
 unfold places at hp
 rcases List.mem_append.1 hp with hp | hp
 ·obtain ⟨i,z,hi,hz⟩:=Zg4.1 hp
  unfold QB at hz
  obtain ⟨j,n,hj,hn⟩:=Zg4.1 hz
  simp only [List.mem_singleton] at hn
  subst hn
  refine ⟨z,?_,List.mem_of_getElem? hi⟩
  show (Za.Instances d)[(((0+i:Nat):Int)).toNat]?=some z
  rw [show (((0+i:Nat):Int)).toNat=i by omega]
  exact hi
 ·obtain ⟨j,q,hj,hq⟩:=Zg4.1 hp
  simp only [ZeH,List.mem_singleton] at hq
  subst hq
  have h0:(0:Int)≤-1:=h0
  omega
theorem Zjl.two {b:Zb} (h:Zjl b):0<(Za.Instances (Zb.Design b)).length∧∃ x,(Za.Instances (Zb.Design b))[(Za.Instances (Zb.Design b)).length-1]?=some x∧(Zd.ZQ x).length=2:=by
 obtain ⟨x,c,w,m,h1,h2,_,_,_,h3,_⟩:=h
 exact ⟨h1,x,h2,h3⟩
def Ze3 (b:Zb) (e:Zf) (p:Pl):Prop:=0≤Zf.Place e∧(places (Zb.Design b))[(Zf.Place e).toNat]?=some p
theorem Zoi {b:Zb} {e:Zf} {p:Pl} (h0:0≤Zf.Place e) (hp:atI (places (Zb.Design b)) (Zf.Place e)=some p):Ze3 b e p:=by
 refine ⟨h0,?_⟩
 rw [show Zf.Place e=(((Zf.Place e).toNat:Nat):Int) by omega,Zu] at hp
 exact hp
theorem Ze3.mem {b:Zb} {e:Zf} {p:Pl} (h:Ze3 b e p):p∈places (Zb.Design b):=List.mem_of_getElem? h.2
theorem Ze3.at {b:Zb} {e:Zf} {p:Pl} (h:Ze3 b e p):atI (places (Zb.Design b)) (Zf.Place e)=some p:=VJ h.1 h.2
def Zux (b:Zb) (e:Zf):Prop :=
 (Zf.Kind e=1→∃ (p:Pl) (x:Zd) (c c2:Zh),Ze3 b e p∧0≤p.1∧p.2.2.2.1=true∧atI (Za.Instances (Zb.Design b)) p.1=some x∧atI (Zl.Cells (Zb.Library b)) (Zd.Cell x)=some c∧atI (Zl.Cells (Zb.Library b)) (Zf.Cell e)=some c2∧Vs c c2=some true)∧
 (Zf.Kind e=2→∃ (p:Pl) (c:Zh),Ze3 b e p∧p.2.2.2.1=false∧atI (Zl.Cells (Zb.Library b)) (Zf.Cell e)=some c∧Zh.Kind c=1∧(Zh.Yy c).length=2∧ZaZ (Zf.Name e)=true∧
  Zcz (fun x=>decide (Zd.Name x=Zf.Name e)) (Za.Instances (Zb.Design b))<0∧Zcz (fun x=>decide (Zf.Name e=x)) (Za.ZQ (Zb.Design b))<0)∧
 (Zf.Kind e=3→Zjl b)∧
 (Zf.Kind e=4→∃ p:Pl,Ze3 b e p∧p.2.2.2.1=false∧p.2.2.1≠Zf.Net e)∧
 (Zf.Kind e=5→Zb3 (Zf.Zeq e) ((sinks (Zb.Design b) (Zf.Net e)).length:Int))
theorem Zp3 {b:Zb} (h:ZbI b) (e:Zf) (he:sm VT e) (hB:Blank e) (hR:Zb1 b e):∃ r,QU e b=some r∧Zca b e=some r∧
  (r=true→Zux b e):=by
 have hD:=h.ok.1
 have hf:=hD.few
 have hsd:=(Za4 h.sm).2.1
 obtain ⟨he1,he2⟩:=Znm he
 unfold QU Zca
 rw [YG _ hf,Vh _ hf,Option.bind_some,Option.bind_some]
 by_cases k1:Zf.Kind e=1
 ·rw [if_pos k1,if_pos k1]
  obtain ⟨⟨p0,p1⟩,c0,c1⟩:=hR.1 (.inl k1)
  obtain ⟨p,hp,hpm⟩:=ZnW h p0 p1
  obtain ⟨c2,hc2,hc2s⟩:=Zqe h c0 c1
  rw [hp]
  simp only [Option.bind_some,hc2]
  by_cases q1:(0:Int)≤p.1
  ·rw [if_pos q1,if_pos q1]
   by_cases q2:p.2.2.2.1=true
   ·rw [if_pos q2,if_pos q2]
    obtain ⟨x,hx,hxm⟩:=Zrf hpm q1
    have hx2:atI (Za.Instances (Zb.Design b)) p.1=some x:=VJ q1 hx
    obtain ⟨⟨d0,d1⟩,_,_⟩:=hD.2.2.1 x hxm
    obtain ⟨c,hc,hcs⟩:=Zqe h d0 d1
    obtain ⟨a1,r,a2⟩:=ZtA c c2 hcs
    have e1:Yh.instance p=p.1:=rfl
    have e2:Ya.instance p=p.1:=rfl
    simp only [e1,e2,hx2,Option.bind_some,hc,a1,a2]
    exact ⟨r,rfl,rfl,fun q=>⟨fun _=>⟨p,x,c,c2,Zoi p0 hp,q1,q2,hx2,hc,hc2,by rw [a2,q]⟩,fun k=>by omega,fun k=>by omega,fun k=>by omega,fun k=>by omega⟩⟩
   ·rw [if_neg q2,if_neg q2]
    exact ⟨_,rfl,rfl,fun q=>by cases q⟩
  ·rw [if_neg q1,if_neg q1]
   exact ⟨_,rfl,rfl,fun q=>by cases q⟩
 rw [if_neg k1,if_neg k1]
 by_cases k2:Zf.Kind e=2
 ·rw [if_pos k2,if_pos k2]
  obtain ⟨⟨p0,p1⟩,c0,c1⟩:=hR.1 (.inr k2)
  obtain ⟨p,hp,hpm⟩:=ZnW h p0 p1
  obtain ⟨c2,hc2,hc2s⟩:=Zqe h c0 c1
  have hbuf:Qz c2=some (tr (Zh.Kind c2=1∧(Zh.Yy c2).length=2)):=by
   unfold Qz
   refine J2 (YE fun _=>ZdB decide_eq_true_iff) ?_
   omega
  have hlN:(Zf.Name e).length≤4611686018427387904:=by have:((Zf.Name e).length:Int)≤1048576:=he1;omega
  rw [hp]
  simp only [Option.bind_some,hc2,show Zay c2=Qz c2 from rfl,hbuf,ZfL,Zds _ hlN,(ZkT _ (Zf.Name e) hsd).1,(ZkT _ (Zf.Name e) hsd).2,(ZmB _ (Zf.Name e) hsd).1,(ZmB _ (Zf.Name e) hsd).2]
  have e1:Yh.drives p=p.2.2.2.1:=rfl
  have e2:Ya.drives p=p.2.2.2.1:=rfl
  rw [e1,e2]
  by_cases q2:p.2.2.2.1=true
  ·simp only [if_pos q2]
   exact ⟨_,rfl,rfl,fun q=>by cases q⟩
  simp only [if_neg q2]
  by_cases q3:tr (Zh.Kind c2=1∧(Zh.Yy c2).length=2)=true
  ·simp only [if_pos q3]
   by_cases q4:ZaZ (Zf.Name e)=true
   ·simp only [if_pos q4]
    split
    ·rename_i q5
     refine ⟨_,rfl,rfl,fun q=>⟨fun k=>by omega,fun _=>⟨p,c2,Zoi p0 hp,by simpa using q2,hc2,((Vp _).1 q3).1,((Vp _).1 q3).2,q4,q5,of_decide_eq_true q⟩,fun k=>by omega,fun k=>by omega,fun k=>by omega⟩⟩
    ·exact ⟨_,rfl,rfl,fun q=>by cases q⟩
   ·simp only [if_neg q4]
    exact ⟨_,rfl,rfl,fun q=>by cases q⟩
  ·simp only [if_neg q3]
   exact ⟨_,rfl,rfl,fun q=>by cases q⟩
 rw [if_neg k2,if_neg k2]
 by_cases k3:Zf.Kind e=3
 ·rw [if_pos k3,if_pos k3]
  obtain ⟨r,a,c,d⟩:=Zt8 h
  rw [a,c]
  exact ⟨r,rfl,rfl,fun q=>⟨fun k=>by omega,fun k=>by omega,fun _=>d q,fun k=>by omega,fun k=>by omega⟩⟩
 rw [if_neg k3,if_neg k3]
 by_cases k4:Zf.Kind e=4
 ·rw [if_pos k4,if_pos k4]
  obtain ⟨⟨p0,p1⟩,_⟩:=hR.2.1 k4
  obtain ⟨p,hp,hpm⟩:=ZnW h p0 p1
  rw [hp]
  simp only [Option.bind_some]
  have e1:Yh.drives p=p.2.2.2.1:=rfl
  have e2:Ya.drives p=p.2.2.2.1:=rfl
  rw [e1,e2]
  by_cases q2:p.2.2.2.1=true
  ·simp only [if_pos q2]
   exact ⟨_,rfl,rfl,fun q=>by cases q⟩
  ·simp only [if_neg q2]
   refine ⟨_,rfl,rfl,fun q=>⟨fun k=>by omega,fun k=>by omega,fun k=>by omega,fun _=>⟨p,Zoi p0 hp,by simpa using q2,by simp only [Bool.not_eq_true',decide_eq_false_iff_not] at q;exact q⟩,fun k=>by omega⟩⟩
 rw [if_neg k4,if_neg k4]
 have k5:Zf.Kind e=5:=by unfold Blank at hB;omega
 obtain ⟨w,hw1,hw2,hw3⟩:=ZjS h (hR.2.2 k5)
 rw [hw2,Zac _ _ hf]
 simp only [Option.bind_some,ZaF,Zh3 _ _ he2,Zif _ _ he2,hw3.2.2.2.1]
 exact ⟨_,rfl,rfl,fun q=>⟨fun k=>by omega,fun k=>by omega,fun k=>by omega,fun k=>by omega,fun _=>(Vp _).1 q⟩⟩
structure Zqb (b:Zb) (e:Zf):Prop where
 blk:ZbI b
 blank:Blank e
 range:Zb1 b e
 poss:Zux b e
 lim:Zf.Kind e=2→(Za.Instances (Zb.Design b)).length≤13∧(Za.ZQ (Zb.Design b)).length≤29
theorem Zqb.last {b:Zb} {e:Zf} (h:Zqb b e) (k3:Zf.Kind e=3):0<(Za.Instances (Zb.Design b)).length∧∃ x,(Za.Instances (Zb.Design b))[(Za.Instances (Zb.Design b)).length-1]?=some x∧(Zd.ZQ x).length=2:=(h.poss.2.2.1 k3).two
theorem ZpP (b:Zb) (e:Zf) (hb:sm Yr b) (he:sm VT e):∃ c,Zcw b e=some c∧Zcu b e=some c∧(c=0→Zqb b e):=by
 unfold Zcw Zcu ZcI
 rw [ZlY b hb,Zmz b hb,Option.bind_some,Option.bind_some]
 by_cases hB:ZjU b
 ·rw [if_pos (YR hB),if_pos (YR hB)]
  have h:ZbI b:=⟨hB,hb⟩
  have hwn:=hB.2.1
  rw [Zkl h e he,Zlh e he,Zlk h e he]
  simp only [Option.bind_some]
  by_cases h1:Blank e
  ·rw [if_pos (YR h1)]
   by_cases h2:Zb1 b e
   ·rw [if_pos (YR ⟨h1,h2⟩),if_pos (YR h2)]
    obtain ⟨r,a,c,d⟩:=Zp3 h e he h1 h2
    rw [a,c]
    simp only [Option.bind_some]
    by_cases hr:r=true
    ·rw [if_pos hr,if_pos hr]
     have h14:=hB.1.few.insts
     have h30:=hB.1.2.1.2.1
     by_cases k2:Zf.Kind e=2
     ·rw [if_pos k2,if_pos k2]
      by_cases q1:((Za.Instances (Zb.Design b)).length:Int)=14
      ·rw [if_pos q1,if_pos q1]
       exact ⟨_,rfl,rfl,fun q=>by cases q⟩
      ·rw [if_neg q1,if_neg q1]
       by_cases q2:((Za.ZQ (Zb.Design b)).length:Int)=30
       ·rw [if_pos q2,if_pos (by omega)]
        exact ⟨_,rfl,rfl,fun q=>by cases q⟩
       ·rw [if_neg q2,if_neg (by omega)]
        exact ⟨_,rfl,rfl,fun _=>⟨h,h1,h2,d hr,fun _=>⟨by omega,by omega⟩⟩⟩
     ·rw [if_neg k2,if_neg k2]
      exact ⟨_,rfl,rfl,fun _=>⟨h,h1,h2,d hr,fun k=>absurd k k2⟩⟩
    ·rw [if_neg hr,if_neg hr]
     exact ⟨_,rfl,rfl,fun q=>by cases q⟩
   ·rw [if_neg (fun q=>h2 ((Vp _).1 q).2),if_neg (fun q=>h2 ((Vp _).1 q))]
    exact ⟨_,rfl,rfl,fun q=>by cases q⟩
  ·rw [if_neg (fun q=>h1 ((Vp _).1 q).1),if_neg (fun q=>h1 ((Vp _).1 q))]
   exact ⟨_,rfl,rfl,fun q=>by cases q⟩
 ·rw [if_neg (fun q=>hB ((Vp _).1 q)),if_neg (fun q=>hB ((Vp _).1 q))]
  exact ⟨_,rfl,rfl,fun q=>by cases q⟩
end Go.Proofs.YtehkanadahncgaaGreatDoor
/-
  Plain laws: places, one by one; a place put on another net; an instance more, an instance less.
-/
namespace Go.Proofs.YtehkanadahncgaaGreatDoor
set_option linter.unusedVariables false
set_option linter.unusedSimpArgs false
open Go Go.Sx
theorem ZbJ {α β:Type} {g:Nat→α→β}:∀ (l:List α) (m j:Nat),(cat (fun j n=>[g j n]) m l)[j]?=(l[j]?).map (g (m+j))
 | [],m,j=>by simp [cat]
 | x::r,m,0=>by simp [cat]
 | x::r,m,j+1=>by
  simp only [cat,List.singleton_append,List.getElem?_cons_succ,ZbJ r]
  rw [show m+1+j=m+(j+1) by omega]
theorem ZaA {α β:Type} {g:Nat→α→β}:∀ (l:List α) (m:Nat),(cat (fun j n=>[g j n]) m l).length=l.length
 | [],m=>rfl
 | x::r,m=>by simp only [cat,List.singleton_append,List.length_cons,ZaA r]
theorem Zir {α β:Type} {g:Nat→α→β} (y:α):∀ (l:List α) (m j:Nat),cat (fun j n=>[g j n]) m (l.set j y)=(cat (fun j n=>[g j n]) m l).set j (g (m+j) y)
 | [],m,j=>by simp [cat]
 | x::r,m,0=>by simp [cat]
 | x::r,m,j+1=>by
  simp only [cat,List.singleton_append,List.set_cons_succ,Zir y r]
  rw [show m+1+j=m+(j+1) by omega]
theorem Ze2 {α β:Type} (f:Nat→α→List β) {l:List α} {i:Nat} {x:α} (hx:l[i]?=some x):cat f 0 l=cat f 0 (l.take i)++(f i x++cat f (i+1) (l.drop (i+1))):=by
 have hi:=(List.getElem?_eq_some_iff.1 hx).1
 have e:l=l.take i++(x::l.drop (i+1)):=by
  have hd:l.drop i=x::l.drop (i+1):=by
   rw [List.drop_eq_getElem_cons hi];congr 1;exact (List.getElem?_eq_some_iff.1 hx).2
  rw [←hd,List.take_append_drop]
 have e2:=congrArg (cat f 0) e
 rw [Zd5] at e2
 simp only [cat,Nat.zero_add,List.length_take] at e2
 rw [show min i l.length=i by omega] at e2
 exact e2
theorem ZuS {α β:Type} (f:Nat→α→List β) {l:List α} {i j:Nat} {x y:α} {z:β} (hx:l[i]?=some x) (hj:j<(f i x).length) (hy:f i y=(f i x).set j z):cat f 0 (l.set i y)=(cat f 0 l).set ((cat f 0 (l.take i)).length+j) z:=by
 have hi:=(List.getElem?_eq_some_iff.1 hx).1
 rw [Ze2 f hx,Ze2 f (l:=l.set i y) (x:=y) (List.getElem?_set_self hi),List.take_set,List.set_eq_of_length_le (by rw [List.length_take];omega),List.drop_set_of_lt (by omega),hy,List.set_append,if_neg (by omega),List.set_append,if_pos (by omega),Nat.add_sub_cancel_left]
abbrev ZeU (d:Za) (i:Nat):Nat:=(cat QB 0 ((Za.Instances d).take i)).length
abbrev YB (d:Za):Nat:=(cat QB 0 (Za.Instances d)).length
def ZdS (i:Nat) (x:Zd) (j:Nat) (n:Int):Pl:=((i:Int),(j:Int),n,decide ((j:Int)=IntKind.i64.wrap (((Zd.ZQ x).length:Int)-1)),())
theorem Zjx (i:Nat) (x:Zd):QB i x=cat (fun j n=>[ZdS i x j n]) 0 (Zd.ZQ x):=rfl
theorem ZfO {i:Nat} {x:Zd} {j:Nat} {n:Int} (h:(Zd.ZQ x)[j]?=some n):(QB i x)[j]?=some (ZdS i x j n):=by
 rw [Zjx,ZbJ,h,Nat.zero_add];rfl
theorem Jb (i:Nat) (x:Zd):(QB i x).length=(Zd.ZQ x).length:=by rw [Zjx,ZaA]
theorem Zjm (l:List ZU) (m:Nat):cat ZeH m l=cat (fun j p=>[((-1:Int),(j:Int),ZU.Net p,decide (ZU.Dir p=1),())]) m l:=rfl
theorem Zo0 (l:List ZU) (m:Nat):(cat ZeH m l).length=l.length:=by rw [Zjm,ZaA]
theorem Zfy {d:Za} {i j:Nat} {x:Zd} {n:Int} (hx:(Za.Instances d)[i]?=some x) (hn:(Zd.ZQ x)[j]?=some n):(places d)[ZeU d i+j]?=some (ZdS i x j n):=by
 have hj:=(List.getElem?_eq_some_iff.1 hn).1
 unfold places
 rw [Ze2 QB hx,List.append_assoc,List.getElem?_append_right (by unfold ZeU;omega),show ZeU d i+j-(cat QB 0 ((Za.Instances d).take i)).length=j by unfold ZeU;omega,List.append_assoc,List.getElem?_append_left (by rw [Jb];exact hj)]
 exact ZfO hn
theorem Zor {d:Za} {j:Nat} {q:ZU} (hq:(Za.Z5 d)[j]?=some q):(places d)[YB d+j]?=some ((-1:Int),(j:Int),ZU.Net q,decide (ZU.Dir q=1),()):=by
 unfold places
 rw [List.getElem?_append_right (by unfold YB;omega),show YB d+j-(cat QB 0 (Za.Instances d)).length=j by unfold YB;omega,Zjm,ZbJ,hq,Nat.zero_add];rfl
theorem Zaz {d:Za} {k:Nat} {p:Pl} (hp:(places d)[k]?=some p) :
  (∃ (i j:Nat) (x:Zd) (n:Int),(Za.Instances d)[i]?=some x∧(Zd.ZQ x)[j]?=some n∧k=ZeU d i+j∧p=ZdS i x j n)∨
  (∃ (j:Nat) (q:ZU),(Za.Z5 d)[j]?=some q∧k=YB d+j∧p=((-1:Int),(j:Int),ZU.Net q,decide (ZU.Dir q=1),())):=by
 by_cases hk:k<YB d
 ·left
  have h1:(cat QB 0 (Za.Instances d))[k]?=some p:=by
   unfold places at hp
   rwa [List.getElem?_append_left (show k<(cat QB 0 (Za.Instances d)).length from hk)] at hp
  have find:∀ (n:Nat),n≤(Za.Instances d).length→k<ZeU d n→∃ i,i<n∧ZeU d i≤k∧k<ZeU d (i+1):=by
   intro n
   induction n with
   | zero=>intro _ h;simp [ZeU,cat] at h
   | succ n ih =>
    intro hn hlt
    by_cases hq:k<ZeU d n
    ·obtain ⟨i,a,b,c⟩:=ih (by omega) hq
     exact ⟨i,by omega,b,c⟩
    ·exact ⟨n,by omega,by omega,hlt⟩
  obtain ⟨i,hi,hlo,hhi⟩:=find (Za.Instances d).length (Nat.le_refl _) (by unfold ZeU;rw [List.take_length];exact hk)
  have hx:(Za.Instances d)[i]?=some (Za.Instances d)[i]:=List.getElem?_eq_getElem hi
  generalize (Za.Instances d)[i]=x at hx
  have hs:ZeU d (i+1)=ZeU d i+(Zd.ZQ x).length:=by
   unfold ZeU
   rw [Zgl hx,List.length_append,Jb]
  have hj:k-ZeU d i<(Zd.ZQ x).length:=by omega
  have hn:(Zd.ZQ x)[k-ZeU d i]?=some (Zd.ZQ x)[k-ZeU d i]:=List.getElem?_eq_getElem hj
  generalize (Zd.ZQ x)[k-ZeU d i]=n at hn
  refine ⟨i,k-ZeU d i,x,n,hx,hn,by omega,?_⟩
  have h2:=Zfy hx hn
  rw [show ZeU d i+(k-ZeU d i)=k by omega,hp] at h2
  injection h2
 ·right
  have h1:(cat ZeH 0 (Za.Z5 d))[k-YB d]?=some p:=by
   unfold places at hp
   rwa [List.getElem?_append_right (show (cat QB 0 (Za.Instances d)).length≤k from Nat.le_of_not_lt hk)] at hp
  rw [Zjm,ZbJ,Nat.zero_add] at h1
  cases hq:(Za.Z5 d)[k-YB d]? with
  | none=>rw [hq] at h1;cases h1
  | some q =>
   rw [hq] at h1
   injection h1 with h1
   exact ⟨k-YB d,q,hq,by omega,h1.symm⟩
theorem key_inj {d:Za} {k k':Nat} {p p':Pl} (hp:(places d)[k]?=some p) (hp':(places d)[k']?=some p') (h1:p.1=p'.1) (h2:p.2.1=p'.2.1):k=k':=by
 rcases Zaz hp with ⟨i,j,x,n,_,_,e,rfl⟩ | ⟨j,q,_,e,rfl⟩<;>rcases Zaz hp' with ⟨i',j',x',n',_,_,e',rfl⟩ | ⟨j',q',_,e',rfl⟩
 ·simp only [ZdS] at h1 h2
  have:i=i':=by omega
  have:j=j':=by omega
  subst i' j'
  omega
 ·simp only [ZdS] at h1;omega
 ·simp only [ZdS] at h1;omega
 ·simp only at h2
  omega
def ZdT (x:Zd) (j:Nat) (n:Int):Zd:=(Zd.Name x,Zd.Cell x,List.set (Zd.ZQ x) j n,())
def setPort (q:ZU) (n:Int):ZU:=(ZU.Name q,ZU.Dir q,n,())
def conn (d:Za) (a b:Int) (n:Int):Za :=
 if a<0 then (Za.Instances d,Za.ZQ d,match (Za.Z5 d)[b.toNat]? with
  | some q=>(Za.Z5 d).set b.toNat (setPort q n)
  | none=>Za.Z5 d,())
 else (match (Za.Instances d)[a.toNat]? with
  | some x=>(Za.Instances d).set a.toNat (ZdT x b.toNat n)
  | none=>Za.Instances d,Za.ZQ d,Za.Z5 d,())
theorem ZrR (i:Nat) (x:Zd) (j:Nat) (n:Int):QB i (ZdT x j n)=(QB i x).set j (ZdS i x j n):=by
 rw [Zjx,Zjx]
 show cat (fun (j':Nat) (m:Int)=>[ZdS i (ZdT x j n) j' m]) 0 (List.set (Zd.ZQ x) j n)=_
 have:(fun (j':Nat) (m:Int)=>[ZdS i (ZdT x j n) j' m])=fun j' m=>[ZdS i x j' m]:=by
  funext j' m
  have hl:(Zd.ZQ (ZdT x j n)).length=(Zd.ZQ x).length:=List.length_set
  simp only [ZdS,hl]
 rw [this,Zir,Nat.zero_add]
theorem VO {d:Za} {k:Nat} {p:Pl} (hp:(places d)[k]?=some p) (n:Int):places (conn d p.1 p.2.1 n)=(places d).set k (p.1,p.2.1,n,p.2.2.2.1,()):=by
 rcases Zaz hp with ⟨i,j,x,m,hx,hn,e,rfl⟩ | ⟨j,q,hq,e,rfl⟩
 ·have hj:=(List.getElem?_eq_some_iff.1 hn).1
  have e1:conn d (ZdS i x j m).1 (ZdS i x j m).2.1 n=((Za.Instances d).set i (ZdT x j n),Za.ZQ d,Za.Z5 d,()):=by
   unfold conn
   rw [if_neg (by simp only [ZdS];omega)]
   simp only [ZdS,Int.toNat_natCast,hx]
  rw [e1]
  unfold places
  show cat QB 0 ((Za.Instances d).set i (ZdT x j n))++cat ZeH 0 (Za.Z5 d)=_
  have hlt:k<(cat QB 0 (Za.Instances d)).length:=by
   rw [Ze2 QB hx,List.length_append,List.length_append,Jb]
   unfold ZeU at e
   omega
  rw [ZuS QB hx (j:=j) (z:=ZdS i x j n) (by rw [Jb];exact hj) (ZrR i x j n),List.set_append,if_pos hlt,e]
  rfl
 ·have e1:conn d (-1) (j:Int) n=(Za.Instances d,Za.ZQ d,(Za.Z5 d).set j (setPort q n),()):=by
   unfold conn
   rw [if_pos (by omega)]
   simp only [Int.toNat_natCast,hq]
  show places (conn d (-1) (j:Int) n)=_
  rw [e1]
  unfold places
  show cat QB 0 (Za.Instances d)++cat ZeH 0 ((Za.Z5 d).set j (setPort q n))=_
  rw [List.set_append,if_neg (by unfold YB at e;omega),Zjm,Zir,Nat.zero_add,e,show YB d+j-(cat QB 0 (Za.Instances d)).length=j by unfold YB;omega,Zjm]
  rfl
end Go.Proofs.YtehkanadahncgaaGreatDoor
/-
  Plain laws: the wires' sinks out of the places' nodes.
-/
namespace Go.Proofs.YtehkanadahncgaaGreatDoor
set_option linter.unusedVariables false
set_option linter.unusedSimpArgs false
open Go Go.Sx
def nth (pl:List Pl) (net:Int) (k:Nat):Nat:=(cat (Za5 net) 0 (pl.take k)).length
theorem ZgH {net:Int} {k:Nat} {p:Pl} (h:¬(p.2.2.1=net∧p.2.2.2.1=false)):Za5 net k p=[]:=by
 unfold Za5
 split
 ·split
  ·rfl
  ·rename_i h1 h2;exact absurd ⟨h1,by simpa using h2⟩ h
 ·rfl
theorem Zhb {net:Int} {k:Nat} {p:Pl} (h1:p.2.2.1=net) (h2:p.2.2.2.1=false):Za5 net k p=[(k:Int)]:=by
 unfold Za5
 rw [if_pos h1,if_neg (by rw [h2];simp)]
theorem Zjw {pl:List Pl} {net:Int} {k:Nat} {p:Pl} (hp:pl[k]?=some p) (h1:p.2.2.1=net) (h2:p.2.2.2.1=false):(cat (Za5 net) 0 pl)[nth pl net k]?=some (k:Int):=by
 rw [Ze2 (Za5 net) hp,Zhb h1 h2]
 unfold nth
 rw [List.getElem?_append_right (Nat.le_refl _),Nat.sub_self]
 rfl
theorem ZsV {pl:List Pl} {net:Int} {v:Int} (hv:v∈cat (Za5 net) 0 pl):∃ (k:Nat) (p:Pl),v=(k:Int)∧pl[k]?=some p∧p.2.2.1=net∧p.2.2.2.1=false:=by
 obtain ⟨k,p,hp,hv⟩:=Zg4.1 hv
 by_cases h:p.2.2.1=net∧p.2.2.2.1=false
 ·rw [Zhb h.1 h.2] at hv
  simp only [List.mem_singleton] at hv
  exact ⟨k,p,by rw [hv];simp,hp,h.1,h.2⟩
 ·rw [ZgH h] at hv
  cases hv
theorem Zs5 {pl:List Pl} {net:Int} {k:Nat} {p:Pl} (hp:pl[k]?=some p) (h1:p.2.2.1=net) (h2:p.2.2.2.1=false):nth pl net k<(cat (Za5 net) 0 pl).length:=(List.getElem?_eq_some_iff.1 (Zjw hp h1 h2)).1
def Y3 (b:Zb) (k:Nat):Int:=match (places (Zb.Design b))[k]? with
 | some p=>if p.2.2.2.1=true then 0 else match (Zb.Zz b)[p.2.2.1.toNat]? with
  | some w=>((Zn.Zfp w)[nth (places (Zb.Design b)) p.2.2.1 k]?).getD 0
  | none=>0
 | none=>0
def Zep (w:Zn) (l:List Int):Zn:=(Zn.Parent w,Zn.Res w,Zn.Cap w,l,())
def wired (pl:List Pl) (ws:List Zn) (nd:Nat→Int):List Zn:=cat (fun v w=>[Zep w ((cat (Za5 (v:Int)) 0 pl).map (fun k=>nd k.toNat))]) 0 ws
theorem Zdt (pl:List Pl) (ws:List Zn) (nd:Nat→Int) (v:Nat):(wired pl ws nd)[v]?=(ws[v]?).map (fun w=>Zep w ((cat (Za5 (v:Int)) 0 pl).map (fun k=>nd k.toNat))):=by
 unfold wired
 rw [ZbJ,Nat.zero_add]
theorem ZfS (pl:List Pl) (ws:List Zn) (nd:Nat→Int):(wired pl ws nd).length=ws.length:=ZaA _ _
def Zfa (pl:List Pl) (ws:List Zn) (nd:Nat→Int) (k:Nat):List Zn:=wired (pl.take k) ws nd
theorem ZoF {pl:List Pl} {ws:List Zn} {nd:Nat→Int} {k:Nat} {p:Pl} {w:Zn} (hp:pl[k]?=some p) (h2:p.2.2.2.1=false) (h0:0≤p.2.2.1) (hw:ws[p.2.2.1.toNat]?=some w) :
  (Zfa pl ws nd k)[p.2.2.1.toNat]?=some (Zep w ((cat (Za5 p.2.2.1) 0 (pl.take k)).map (fun k=>nd k.toNat)))∧
  (Zfa pl ws nd k).set p.2.2.1.toNat (Zep w ((cat (Za5 p.2.2.1) 0 (pl.take k)).map (fun k=>nd k.toNat)++[nd k]))=Zfa pl ws nd (k+1):=by
 have hk:=(List.getElem?_eq_some_iff.1 hp).1
 have hlt:=(List.getElem?_eq_some_iff.1 hw).1
 unfold Zfa
 constructor
 ·rw [Zdt,hw,show ((p.2.2.1.toNat:Nat):Int)=p.2.2.1 by omega]
  rfl
 ·apply List.ext_getElem?
  intro v
  rw [List.getElem?_set,Zdt,Zdt]
  have hs:∀ net:Int,cat (Za5 net) 0 (pl.take (k+1))=cat (Za5 net) 0 (pl.take k)++Za5 net k p:=fun net=>Zgl hp
  split
  ·rename_i e
   subst e
   rw [ZfS,if_pos hlt,hw,hs,show ((p.2.2.1.toNat:Nat):Int)=p.2.2.1 by omega,Zhb rfl h2,List.map_append]
   simp only [List.map_cons,List.map_nil,Int.toNat_natCast,Option.map_some]
  ·rename_i e
   congr 1
   funext w'
   congr 1
   rw [hs,ZgH (fun q=>e (by have:=q.1;omega)),List.append_nil]
theorem ZoW {pl:List Pl} {ws:List Zn} {nd:Nat→Int} {k:Nat} {p:Pl} (hp:pl[k]?=some p) (h2:p.2.2.2.1=true):Zfa pl ws nd (k+1)=Zfa pl ws nd k:=by
 unfold Zfa
 apply List.ext_getElem?
 intro v
 rw [Zdt,Zdt]
 congr 1
 funext w'
 congr 1
 rw [Zgl hp,ZgH (fun q=>by rw [h2] at q;cases q.2),List.append_nil]
end Go.Proofs.YtehkanadahncgaaGreatDoor
/-
  Plain laws: maps by their keys.
-/
namespace Go.Proofs.YtehkanadahncgaaGreatDoor
set_option linter.unusedVariables false
set_option linter.unusedSimpArgs false
open Go Go.Sx
abbrev Key:Ty:=.pair (.int .i64) (.pair (.int .i64) .unit)
theorem ZnO (x y:Key.den):keq Key x y=true↔x=y:=by
 obtain ⟨a,b,⟨⟩⟩:=x
 obtain ⟨c,d,⟨⟩⟩:=y
 simp [keq]
theorem ZmH {k v:Ty} (hk:∀ x y:k.den,keq k x y=true↔x=y) (x z:k.den) (y:v.den):∀ (d:List (k.den×v.den)),Zhp k v (ZkM k v d x y) z=if keq k z x=true then some y else Zhp k v d z
 | []=>by simp only [ZkM,Zhp]
 | e::l=>by
  by_cases h1:keq k x e.1=true
  ·simp only [ZkM,if_pos h1,Zhp]
   by_cases h2:keq k z x=true
   ·simp only [if_pos h2]
   ·have h3:¬keq k z e.1=true:=fun q=>h2 ((hk _ _).2 (((hk _ _).1 q).trans ((hk _ _).1 h1).symm))
    simp only [if_neg h2,if_neg h3]
  ·simp only [ZkM,if_neg h1,Zhp]
   by_cases h3:keq k z e.1=true
   ·have h2:¬keq k z x=true:=fun q=>h1 ((hk _ _).2 (((hk _ _).1 q).symm.trans ((hk _ _).1 h3)))
    simp only [if_pos h3,if_neg h2]
   ·simp only [if_neg h3,ZmH hk x z y l]
theorem Zmu {v:Ty} (d:List (Key.den×v.den)) (x:Key.den) (y:v.den):Zhp Key v (ZkM Key v d x y) x=some y:=by
 rw [ZmH ZnO,if_pos ((ZnO _ _).2 rfl)]
theorem ZkD {v:Ty} (d:List (Key.den×v.den)) {x z:Key.den} (y:v.den) (h:z≠x):Zhp Key v (ZkM Key v d x y) z=Zhp Key v d z:=by
 rw [ZmH ZnO,if_neg (fun q=>h ((ZnO _ _).1 q))]
end Go.Proofs.YtehkanadahncgaaGreatDoor
/-
  Plain laws: nodes by keys against nodes by places; kept when a place is put on another net, when an instance is added or removed.
-/
namespace Go.Proofs.YtehkanadahncgaaGreatDoor
set_option linter.unusedVariables false
set_option linter.unusedSimpArgs false
open Go Go.Sx
abbrev ZiN:=List (Key.den×(Ty.int .i64).den)
def ZqL (p:Pl):Key.den:=(p.1,p.2.1,())
def Maps (nodes:ZiN) (pl:List Pl) (nd:Nat→Int):Prop:=∀ (k:Nat) (p:Pl),pl[k]?=some p→p.2.2.2.1=false→Zhp Key (.int .i64) nodes (ZqL p)=some (nd k)
theorem ZqV {d:Za} {k k':Nat} {p p':Pl} (hp:(places d)[k]?=some p) (hp':(places d)[k']?=some p') (h:ZqL p=ZqL p'):k=k':=by
 unfold ZqL at h
 injection h with h1 h2
 injection h2 with h2 _
 exact key_inj hp hp' h1 h2
theorem Maps.put {nodes:ZiN} {d:Za} {nd:Nat→Int} (h:Maps nodes (places d) nd) {k0:Nat} {p0:Pl} (hp0:(places d)[k0]?=some p0) (v:Int):Maps (ZkM Key (.int .i64) nodes (ZqL p0) v) (places d) (fun k=>if k=k0 then v else nd k):=by
 intro k p hp hd
 by_cases e:k=k0
 ·subst e
  rw [hp0] at hp
  injection hp with hp
  subst hp
  simp only [if_true]
  exact Zmu _ _ _
 ·simp only [if_neg e]
  rw [ZkD _ _ (fun q=>e (ZqV hp hp0 q))]
  exact h k p hp hd
theorem Maps.set {nodes:ZiN} {pl:List Pl} {nd:Nat→Int} (h:Maps nodes pl nd) {k0:Nat} {p0:Pl} (hp0:pl[k0]?=some p0) (n:Int):Maps nodes (pl.set k0 (p0.1,p0.2.1,n,p0.2.2.2.1,())) nd:=by
 intro k p hp hd
 by_cases e:k0=k
 ·subst e
  rw [List.getElem?_set_self (List.getElem?_eq_some_iff.1 hp0).1] at hp
  injection hp with hp
  subst hp
  exact h k0 p0 hp0 hd
 ·rw [List.getElem?_set_ne e] at hp
  exact h k p hp hd
def addInst (d:Za) (x:Zd) (s:List UInt8):Za:=(Za.Instances d++[x],Za.ZQ d++[s],Za.Z5 d,())
theorem ZfT (d:Za) (x:Zd) (s:List UInt8):places (addInst d x s)=cat QB 0 (Za.Instances d)++QB (Za.Instances d).length x++cat ZeH 0 (Za.Z5 d):=by
 unfold places addInst
 show cat QB 0 (Za.Instances d++[x])++_=_
 rw [Zd5,Nat.zero_add]
 simp only [cat,List.append_nil]
theorem ZoM {d:Za} {x:Zd} {s:List UInt8} {k:Nat} (hk:k<YB d):(places (addInst d x s))[k]?=(places d)[k]?:=by
 rw [ZfT,List.append_assoc,List.getElem?_append_left hk]
 unfold places
 rw [List.getElem?_append_left hk]
theorem add_mid {d:Za} {x:Zd} {s:List UInt8} {j:Nat} (hj:j<(Zd.ZQ x).length):(places (addInst d x s))[YB d+j]?=(QB (Za.Instances d).length x)[j]?:=by
 rw [ZfT,List.append_assoc,List.getElem?_append_right (by unfold YB;omega),show YB d+j-(cat QB 0 (Za.Instances d)).length=j by unfold YB;omega,List.getElem?_append_left (by rw [Jb];exact hj)]
theorem Zpb {d:Za} {x:Zd} {s:List UInt8} {k:Nat} (hk:YB d≤k):(places (addInst d x s))[k+(Zd.ZQ x).length]?=(places d)[k]?:=by
 have h1:(cat QB 0 (Za.Instances d)).length≤k:=hk
 rw [ZfT,List.getElem?_append_right (by rw [List.length_append,Jb];omega),List.length_append,Jb]
 unfold places
 rw [List.getElem?_append_right h1]
 congr 1
 omega
def Zpq (nd:Nat→Int) (m:Nat) (v:Int) (k:Nat):Int:=if k<m then nd k else if k=m then v else if k=m+1 then 0 else nd (k-2)
theorem Maps.add {nodes:ZiN} {d:Za} {nd:Nat→Int} (h:Maps nodes (places d) nd) {x:Zd} {s:List UInt8} (h2:(Zd.ZQ x).length=2) (hi:(Za.Instances d).length≤1048576) (v:Int) :
  Maps (ZkM Key (.int .i64) nodes (((Za.Instances d).length:Int),0,()) v) (places (addInst d x s)) (Zpq nd (YB d) v):=by
 intro k p hp hd
 have other:∀ (k':Nat),(places d)[k']?=some p→Zhp Key (.int .i64) (ZkM Key (.int .i64) nodes (((Za.Instances d).length:Int),0,()) v) (ZqL p)=Zhp Key (.int .i64) nodes (ZqL p):=by
  intro k' hp'
  refine ZkD _ _ (fun q=>?_)
  unfold ZqL at q
  injection q with q1 _
  rcases Zaz hp' with ⟨i,j,y,n,hy,_,_,rfl⟩ | ⟨j,q',_,_,rfl⟩
  ·have:=(List.getElem?_eq_some_iff.1 hy).1
   simp only [ZdS] at q1
   omega
  ·simp only at q1
   omega
 unfold Zpq
 by_cases k1:k<YB d
 ·rw [if_pos k1]
  rw [ZoM k1] at hp
  rw [other k hp]
  exact h k p hp hd
 ·rw [if_neg k1]
  by_cases k2:k=YB d
  ·rw [if_pos k2]
   have h3:=add_mid (d:=d) (x:=x) (s:=s) (j:=0) (by omega)
   rw [Nat.add_zero,←k2,hp] at h3
   have h4:(Zd.ZQ x)[0]?=some (Zd.ZQ x)[0]:=List.getElem?_eq_getElem (by omega)
   rw [ZfO h4] at h3
   injection h3 with h3
   rw [h3]
   exact Zmu _ _ _
  ·rw [if_neg k2]
   by_cases k3:k=YB d+1
   ·-- it drives
    exfalso
    have h3:=add_mid (d:=d) (x:=x) (s:=s) (j:=1) (by omega)
    rw [←k3,hp] at h3
    have h4:(Zd.ZQ x)[1]?=some (Zd.ZQ x)[1]:=List.getElem?_eq_getElem (by omega)
    rw [ZfO h4] at h3
    injection h3 with h3
    rw [h3] at hd
    simp only [ZdS,h2,decide_eq_false_iff_not] at hd
    exact hd (by rw [V8 (by omega) (by omega)];rfl)
   ·rw [if_neg k3]
    have h3:=Zpb (d:=d) (x:=x) (s:=s) (k:=k-2) (by omega)
    rw [h2,show k-2+2=k by omega,hp] at h3
    rw [other (k-2) h3.symm]
    exact h (k-2) p h3.symm hd
def X3 (d:Za):Za:=((Za.Instances d).take ((Za.Instances d).length-1),(Za.ZQ d).take ((Za.ZQ d).length-1),Za.Z5 d,())
theorem Zp7 {d:Za} {x:Zd} (hn:0<(Za.Instances d).length) (hx:(Za.Instances d)[(Za.Instances d).length-1]?=some x):Za.Instances d=Za.Instances (X3 d)++[x]:=by
 show Za.Instances d=(Za.Instances d).take ((Za.Instances d).length-1)++[x]
 rw [←Yz hx,show (Za.Instances d).length-1+1=(Za.Instances d).length by omega,List.take_length]
theorem Zkg {d:Za} {x:Zd} {s:List UInt8} (hn:0<(Za.Instances d).length) (hx:(Za.Instances d)[(Za.Instances d).length-1]?=some x):places d=places (addInst (X3 d) x s):=by
 unfold places
 show cat QB 0 (Za.Instances d)++cat ZeH 0 (Za.Z5 d)=cat QB 0 (Za.Instances (X3 d)++[x])++cat ZeH 0 (Za.Z5 d)
 rw [←Zp7 hn hx]
def ZoL (nd:Nat→Int) (m:Nat) (k:Nat):Int:=if k<m then nd k else nd (k+2)
theorem Maps.cut {nodes:ZiN} {d:Za} {nd:Nat→Int} (h:Maps nodes (places d) nd) {x:Zd} (hn:0<(Za.Instances d).length) (hx:(Za.Instances d)[(Za.Instances d).length-1]?=some x) (h2:(Zd.ZQ x).length=2) :
  Maps nodes (places (X3 d)) (ZoL nd (YB (X3 d))):=by
 rw [Zkg (s:=[]) hn hx] at h
 intro k p hp hd
 unfold ZoL
 by_cases k1:k<YB (X3 d)
 ·rw [if_pos k1]
  exact h k p (by rw [ZoM k1];exact hp) hd
 ·rw [if_neg k1]
  have h3:=Zpb (d:=X3 d) (x:=x) (s:=[]) (k:=k) (by omega)
  rw [h2,hp] at h3
  exact h (k+2) p h3 hd
end Go.Proofs.YtehkanadahncgaaGreatDoor
/-
  Plain laws: the map of nodes, place by place; lists of nodes.
-/
namespace Go.Proofs.YtehkanadahncgaaGreatDoor
set_option linter.unusedVariables false
set_option linter.unusedSimpArgs false
open Go Go.Sx
def Za2 (pl:List Pl) (f:Nat→Int):Nat→ZiN
 | 0=>[]
 | k+1=>match pl[k]? with
  | some p=>if p.2.2.2.1=true then Za2 pl f k else ZkM Key (.int .i64) (Za2 pl f k) (ZqL p) (f k)
  | none=>Za2 pl f k
theorem ZkP {pl:List Pl} {f:Nat→Int} {k:Nat} {p:Pl} (hp:pl[k]?=some p) (h:p.2.2.2.1=true):Za2 pl f (k+1)=Za2 pl f k:=by
 simp only [Za2,hp,h,if_true]
theorem Zmf {pl:List Pl} {f:Nat→Int} {k:Nat} {p:Pl} (hp:pl[k]?=some p) (h:¬p.2.2.2.1=true):Za2 pl f (k+1)=ZkM Key (.int .i64) (Za2 pl f k) (ZqL p) (f k):=by
 simp only [Za2,hp,h,if_false]
 rfl
theorem ZgQ (d:Za) (f:Nat→Int):∀ (k:Nat),k≤(places d).length→∀ (j:Nat) (p:Pl),j<k→(places d)[j]?=some p→p.2.2.2.1=false→Zhp Key (.int .i64) (Za2 (places d) f k) (ZqL p)=some (f j)
 | 0,_,j,p,hj,_,_=>by omega
 | k+1,hk,j,p,hj,hp,hd=>by
  have hq:(places d)[k]?=some (places d)[k]:=List.getElem?_eq_getElem (by omega)
  generalize (places d)[k]=q at hq
  by_cases hqd:q.2.2.2.1=true
  ·rw [ZkP hq hqd]
   refine ZgQ d f k (by omega) j p ?_ hp hd
   by_cases e:j=k
   ·subst e
    rw [hp] at hq
    injection hq with hq
    subst hq
    rw [hqd] at hd;cases hd
   ·omega
  ·rw [Zmf hq hqd]
   by_cases e:j=k
   ·subst e
    rw [hp] at hq
    injection hq with hq
    subst hq
    exact Zmu _ _ _
   ·rw [ZkD _ _ (fun h=>e (ZqV hp hq h))]
    exact ZgQ d f k (by omega) j p (by omega) hp hd
theorem Zhi (d:Za) (f:Nat→Int):Maps (Za2 (places d) f (places d).length) (places d) f:=fun k p hp hd=>ZgQ d f _ (Nat.le_refl _) k p (List.getElem?_eq_some_iff.1 hp).1 hp hd
def Zl9 (l:List Int) (k:Nat):Int:=(l[k]?).getD 0
theorem Zon {l:List Int} {i:Nat} {v:Int} (hi:i<l.length) (k:Nat):Zl9 (l.set i v) k=if k=i then v else Zl9 l k:=by
 unfold Zl9
 rw [List.getElem?_set]
 by_cases e:i=k
 ·subst e;rw [if_pos rfl,if_pos hi,if_pos rfl];rfl
 ·rw [if_neg e,if_neg (fun q=>e q.symm)]
theorem ZtM {l:List Int} {m:Nat} (hm:m≤l.length) (v:Int) (k:Nat):Zl9 (l.take m++[v,0]++l.drop m) k=Zpq (Zl9 l) m v k:=by
 unfold Zl9 Zpq
 have hl:(l.take m).length=m:=by rw [List.length_take];omega
 by_cases k1:k<m
 ·rw [if_pos k1,List.append_assoc,List.getElem?_append_left (by omega),List.getElem?_take,if_pos k1]
 ·rw [if_neg k1]
  by_cases k2:k=m
  ·rw [if_pos k2,List.append_assoc,List.getElem?_append_right (by omega),hl,k2,Nat.sub_self];rfl
  ·rw [if_neg k2]
   by_cases k3:k=m+1
   ·rw [if_pos k3,List.append_assoc,List.getElem?_append_right (by omega),hl,k3,show m+1-m=1 by omega];rfl
   ·rw [if_neg k3,List.getElem?_append_right (by rw [List.length_append,hl,List.length_cons,List.length_singleton];omega),List.length_append,hl,List.length_cons,List.length_singleton,List.getElem?_drop]
    congr 2
    omega
theorem Ztk {l:List Int} {m:Nat} (hm:m+2≤l.length) (k:Nat):Zl9 (l.take m++l.drop (m+2)) k=ZoL (Zl9 l) m k:=by
 unfold Zl9 ZoL
 have hl:(l.take m).length=m:=by rw [List.length_take];omega
 by_cases k1:k<m
 ·rw [if_pos k1,List.getElem?_append_left (by omega),List.getElem?_take,if_pos k1]
 ·rw [if_neg k1,List.getElem?_append_right (by omega),hl,List.getElem?_drop]
  congr 2
  omega
end Go.Proofs.YtehkanadahncgaaGreatDoor
/-
  Plain laws: what edits make of designs, of nodes by place.
-/
namespace Go.Proofs.YtehkanadahncgaaGreatDoor
set_option linter.unusedVariables false
set_option linter.unusedSimpArgs false
open Go Go.Sx
theorem Zuh {d:Za} {x:Zd} {s:List UInt8} {a b n:Int} (ha:a<((Za.Instances d).length:Int)):conn (addInst d x s) a b n=addInst (conn d a b n) x s:=by
 unfold conn
 by_cases h:a<0
 ·rw [if_pos h,if_pos h];rfl
 ·rw [if_neg h,if_neg h]
  have hlt:a.toNat<(Za.Instances d).length:=by omega
  have hy:=List.getElem?_eq_getElem hlt
  generalize (Za.Instances d)[a.toNat]=y at hy
  have e:(Za.Instances (addInst d x s))[a.toNat]?=some y:=by
   show (Za.Instances d++[x])[a.toNat]?=some y
   rw [List.getElem?_append_left hlt];exact hy
  rw [e,hy]
  have e2:List.set (Za.Instances (addInst d x s)) a.toNat (ZdT y b.toNat n)=(Za.Instances d).set a.toNat (ZdT y b.toNat n)++[x]:=by
   show List.set (Za.Instances d++[x]) a.toNat _=_
   rw [List.set_append,if_pos hlt]
  show (List.set (Za.Instances (addInst d x s)) a.toNat (ZdT y b.toNat n),_)=_
  rw [e2]
  rfl
theorem Y8 {d:Za} {a b n:Int}:(Za.Instances (conn d a b n)).length=(Za.Instances d).length:=by
 unfold conn
 split
 ·rfl
 ·show (match (Za.Instances d)[a.toNat]? with | some x=>(Za.Instances d).set a.toNat (ZdT x b.toNat n) | none=>Za.Instances d).length=_
  split
  ·rw [List.length_set]
  ·rfl
theorem Vw {d:Za} {a b n:Int}:Za.ZQ (conn d a b n)=Za.ZQ d:=by
 unfold conn
 split<;>rfl
theorem ZfX {d:Za} {a b n:Int}:(Za.Z5 (conn d a b n)).length=(Za.Z5 d).length:=by
 unfold conn
 split
 ·show (match (Za.Z5 d)[b.toNat]? with | some x=>(Za.Z5 d).set b.toNat (setPort x n) | none=>Za.Z5 d).length=_
  split
  ·rw [List.length_set]
  ·rfl
 ·rfl
theorem Zfr {d:Za} {a b n:Int} {i:Nat} {y:Zd} (hy:(Za.Instances (conn d a b n))[i]?=some y):∃ x,(Za.Instances d)[i]?=some x∧Zd.Name y=Zd.Name x∧Zd.Cell y=Zd.Cell x∧(Zd.ZQ y).length=(Zd.ZQ x).length∧((i:Int)≠a→y=x)∧∀ m∈Zd.ZQ y,m∈Zd.ZQ x∨m=n:=by
 unfold conn at hy
 split at hy
 ·exact ⟨y,hy,rfl,rfl,rfl,fun _=>rfl,fun m hm=>.inl hm⟩
 ·rename_i h
  have hy:(match (Za.Instances d)[a.toNat]? with | some x=>(Za.Instances d).set a.toNat (ZdT x b.toNat n) | none=>Za.Instances d)[i]?=some y:=hy
  split at hy
  ·rename_i x hx
   rw [List.getElem?_set] at hy
   split at hy
   ·rename_i e
    split at hy
    ·injection hy with hy
     subst hy
     refine ⟨x,by rw [←e];exact hx,rfl,rfl,List.length_set,fun q=>absurd (by omega) q,fun m hm=>?_⟩
     rcases List.mem_or_eq_of_mem_set hm with hm | hm
     ·exact .inl hm
     ·exact .inr hm
    ·cases hy
   ·exact ⟨y,hy,rfl,rfl,rfl,fun _=>rfl,fun m hm=>.inl hm⟩
  ·exact ⟨y,hy,rfl,rfl,rfl,fun _=>rfl,fun m hm=>.inl hm⟩
theorem Few.conn {d:Za} (h:Few d) (a b n:Int):Few (conn d a b n):=by
 refine ⟨by rw [Y8];exact h.insts,by rw [ZfX];exact h.ports,fun y hy=>?_⟩
 obtain ⟨i,hi⟩:=List.getElem?_of_mem hy
 obtain ⟨x,hx,_,_,hl,_⟩:=Zfr hi
 rw [hl]
 exact h.nets x (List.mem_of_getElem? hx)
theorem Few.add {d:Za} (h:Few d) (h13:(Za.Instances d).length≤13) {x:Zd} (hx:(Zd.ZQ x).length≤5) (s:List UInt8):Few (addInst d x s):=by
 refine ⟨?_,h.ports,fun y hy=>?_⟩
 ·show (Za.Instances d++[x]).length≤14
  rw [List.length_append,List.length_singleton];omega
 ·rcases List.mem_append.1 (show y∈Za.Instances d++[x] from hy) with hy | hy
  ·exact h.nets y hy
  ·rw [List.mem_singleton] at hy
   subst hy;exact hx
theorem Few.cut {d:Za} (h:Few d):Few (X3 d):=by
 refine ⟨?_,h.ports,fun y hy=>h.nets y (List.mem_of_mem_take (show y∈(Za.Instances d).take _ from hy))⟩
 show ((Za.Instances d).take _).length≤14
 rw [List.length_take]
 have:=h.insts
 omega
def Zie (pl:List Pl) (n:Nat):Prop:=∀ p∈pl,p.2.2.2.1=false→0≤p.2.2.1∧p.2.2.1<(n:Int)
theorem Zie.set {pl:List Pl} {n:Nat} (h:Zie pl n) {k0:Nat} {p0:Pl} {m:Int} (h0:0≤m) (h1:m<(n:Int)):Zie (pl.set k0 (p0.1,p0.2.1,m,p0.2.2.2.1,())) n:=by
 intro p hp hd
 rcases List.mem_or_eq_of_mem_set hp with hp | hp
 ·exact h p hp hd
 ·subst hp;exact ⟨h0,h1⟩
def swapped (b:Zb) (i:Int) (c:Int):Zb:=(Zb.Library b,(match (Za.Instances (Zb.Design b))[i.toNat]? with
 | some x=>(Za.Instances (Zb.Design b)).set i.toNat (Zd.Name x,c,Zd.ZQ x,())
 | none=>Za.Instances (Zb.Design b),Za.ZQ (Zb.Design b),Za.Z5 (Zb.Design b),()),Zb.Zz b,())
def mvD (b:Zb) (p:Pl) (n:Int):Za:=conn (Zb.Design b) p.1 p.2.1 n
def mvN (b:Zb) (k:Nat) (v:Int) (j:Nat):Int:=if j=k then v else Y3 b j
def moved (b:Zb) (k:Nat) (p:Pl) (n v:Int):Zb:=(Zb.Library b,mvD b p n,wired (places (mvD b p n)) (Zb.Zz b) (mvN b k v),())
abbrev Zq0:Zn:=([-1],[0],[0],[],())
def Zny (b:Zb) (e:Zf) (p:Pl):Zd:=(Zf.Name e,Zf.Cell e,[p.2.2.1,((Za.ZQ (Zb.Design b)).length:Int)],())
def ZoR (b:Zb) (e:Zf) (p:Pl):Za:=addInst (conn (Zb.Design b) p.1 p.2.1 ((Za.ZQ (Zb.Design b)).length:Int)) (Zny b e p) (Zf.Name e)
def ZqD (b:Zb) (k:Nat):Nat:=if k<YB (Zb.Design b) then k else k+2
def ZwE (b:Zb) (k:Nat) (j:Nat):Int:=if j=ZqD b k then 0 else Zpq (Y3 b) (YB (Zb.Design b)) (Y3 b k) j
def buffered (b:Zb) (e:Zf) (k:Nat) (p:Pl):Zb:=(Zb.Library b,ZoR b e p,wired (places (ZoR b e p)) (Zb.Zz b++[Zq0]) (ZwE b k),())
def unD (b:Zb) (p:Pl) (m:Int):Za:=X3 (conn (Zb.Design b) p.1 p.2.1 m)
def unN (b:Zb) (k:Nat):Nat→Int:=ZoL (mvN b k (Y3 b (YB (Zb.Design b)-2))) (YB (Zb.Design b)-2)
def ZjN (b:Zb) (k:Nat) (p:Pl) (m:Int):Zb:=(Zb.Library b,unD b p m,wired (places (unD b p m)) ((Zb.Zz b).take ((Zb.Zz b).length-1)) (unN b k),())
def ZuA (b:Zb) (n:Int) (w:Zn):Zb:=(Zb.Library b,Zb.Design b,(Zb.Zz b).set n.toNat w,())
end Go.Proofs.YtehkanadahncgaaGreatDoor
/-
  Plain laws: clones are what they are made of.
-/
namespace Go.Proofs.YtehkanadahncgaaGreatDoor
set_option linter.unusedVariables false
set_option linter.unusedSimpArgs false
open Go Go.Sx
theorem ZbH {α:Type} {l:List α} {k:Nat} {x:α} (hx:l[k]?=some x):l.set k x=l:=by
 apply List.ext_getElem?
 intro j
 rw [List.getElem?_set]
 split
 ·rename_i e;subst e
  rw [if_pos (List.getElem?_eq_some_iff.1 hx).1,hx]
 ·rfl
theorem Zco (l:List Int) (h:l.length≤1048576):Z4 l=some l:=by
 unfold Z4
 rw [Zi (by rw [List.length_nil];omega)];rfl
theorem Zdv (l:List Int) (h:l.length≤1048576):Xa l=some l:=by
 unfold Xa
 rw [Zi (by rw [List.length_nil];omega)];rfl
theorem ZfD (w:Zn) (hw:sm YJ w):JX w=some w:=by
 obtain ⟨a1,a2,a3,a4⟩:=Zh8 hw
 unfold JX
 rw [Zco _ (Zm a1),Option.bind_some,Zco _ (Zm a2),Option.bind_some,Zco _ (Zm a3),Option.bind_some,Zco _ (Zm a4),Option.bind_some]
theorem ZgJ (w:Zn) (hw:sm YJ w):JR w=some w:=by
 obtain ⟨a1,a2,a3,a4⟩:=Zh8 hw
 unfold JR
 rw [Zdv _ (Zm a1),Option.bind_some,Zdv _ (Zm a2),Option.bind_some,Zdv _ (Zm a3),Option.bind_some,Zdv _ (Zm a4),Option.bind_some]
theorem Zhy (d:Za) (hd:sm Z8 d):Jo d=some d:=by
 obtain ⟨s1,s2,s3⟩:=Zcj hd
 have l1:=Zm s1
 have l2:=Zm s2
 have l3:=Zm s3
 unfold Jo Yt Xq YP
 rw [Zi (by rw [List.length_nil];omega),Option.bind_some,Zi (by rw [List.length_nil];omega),Option.bind_some,Zi (by rw [List.length_nil];omega),Option.bind_some]
 simp only [List.nil_append]
 refine YF (l:=Za.Instances d) (fun k=>((k:Int),(Za.Instances d,(k:Int)),())) (fun k x hx hk=>?_) ?_
 ·have hx2:=Zco (Zd.ZQ x) (Zm (ZjL (ZaR s1 hx)).2)
  simp only [QJ,show (k:Int)<((Za.Instances d).length:Int) by omega,if_true,Zu,hx,Option.bind_some,Int.le_refl,hx2,Zi trivial,Zax (show k≤1048576 by omega),Int.toNat_natCast]
  rw [show List.set (Za.Instances d) k (Zd.Name x,Zd.Cell x,Zd.ZQ x,())=Za.Instances d from ZbH hx]
  rfl
 ·simp only [QJ,Int.lt_irrefl,if_false,Zi trivial]
theorem Ze7 (l:List Zr) (hl:sm (.sl Yf) l):VR l=some l:=by
 have h1:=Zm hl
 unfold VR
 have:=YF (l:=l) (fun k=>(l.take k,(k:Int),())) (step:=fun v=>XT l v.1 v.2.1) (good:=l) (fun k x hx hk=>by
  have hs:sm Yf x:=ZaR hl hx
  have e1:=Zco (Zr.Zfk x) (Zm (t:=.int .i64) hs.1)
  have e2:=Zco (Zr.Loads x) (Zm (t:=.int .i64) hs.2.1)
  have e3:=Zco (Zr.Values x) (Zm (t:=.int .i64) hs.2.2.1)
  have hg:((l.take k).length+[(Zr.Zfk x,Zr.Loads x,Zr.Values x,())].length)*72≤140737488355328:=by rw [List.length_take,List.length_singleton];omega
  simp only [XT,show (k:Int)<(l.length:Int) by omega,if_true,Zu,hx,Option.bind_some,e1,e2,e3,Zi hg,Zax (show k≤1048576 by omega)]
  rw [Yz hx]) (by
  simp only [XT,Int.lt_irrefl,if_false,List.take_length])
 simpa using this
theorem ZhU (a:Zl) (ha:sm Z0 a):Jw a=some a:=by
 have hc:=Zm6 ha
 have h1:=Zm hc
 unfold Jw
 have:=YF (l:=Zl.Cells a) (fun k=>((k:Int),(Zl.Cells a).take k,())) (step:=fun v=>Xx a v.1 v.2.1) (good:=a) (fun k x hx hk=>by
  have hs:sm YL x:=ZaR hc hx
  have p1:sm (.sl V9) (Zh.Yy x):=hs.2.2.1
  have p2:sm (.sl Zaw) (Zh.ZaS x):=hs.2.2.2.1
  have p3:sm (.sl (.int .i64)) (Zh.Truth x):=hs.2.2.2.2.1
  have l1:=Zm p1
  have l2:=Zm p2
  have l3:=Zm p3
  simp only [Xx,show (k:Int)<((Zl.Cells a).length:Int) by omega,if_true,Zu,hx,Option.bind_some]
  unfold YX Y1
  rw [Zi (by rw [List.length_nil];omega),Option.bind_some,Zco _ l3,Option.bind_some,Zi (by rw [List.length_nil];omega),Option.bind_some]
  simp only [List.nil_append]
  have hg:∀ y:Zh,(((Zl.Cells a).take k).length+[y].length)*112≤140737488355328:=fun y=>by rw [List.length_take,List.length_singleton];omega
  refine YF (l:=Zh.ZaS x) (fun j=>((j:Int),(Zh.ZaS x,(j:Int)),())) (fun j y hy hj=>?_) ?_
  ·obtain ⟨q1,q2⟩:=Ztd (ZaR p2 hy)
   simp only [QD,show (j:Int)<((Zh.ZaS x).length:Int) by omega,if_true,Zu,hy,Option.bind_some,Int.le_refl,Ze7 _ q1,Ze7 _ q2,Zi trivial,Zax (show j≤1048576 by omega),Int.toNat_natCast]
   rw [show List.set (Zh.ZaS x) j (ZM.Kind y,ZM.From y,ZM.To y,ZM.Zb5 y,ZM.Delay y,ZM.Zhn y,())=Zh.ZaS x from ZbH hy]
   rfl
  ·simp only [QD,Int.lt_irrefl,if_false,Zi trivial,Zi (hg _),Zax (show k≤1048576 by omega)]
   rw [Yz hx]) (by
  simp only [Xx,Int.lt_irrefl,if_false,List.take_length])
 simpa using this
theorem ZiU (b:Zb) (hb:sm Yr b):Zab b=some b:=by
 obtain ⟨b1,b2,b3⟩:=Za4 hb
 have h1:=Zm b3
 unfold Zab
 rw [ZhU _ b1,Option.bind_some,Zhy _ b2,Option.bind_some]
 have:=YF (l:=Zb.Zz b) (fun k=>((k:Int),(Zb.Zz b).take k,())) (step:=fun v=>XR b (Zb.Library b) (Zb.Design b) v.1 v.2.1) (good:=b) (fun k x hx hk=>by
  have hg:(((Zb.Zz b).take k).length+[x].length)*96≤140737488355328:=by rw [List.length_take,List.length_singleton];omega
  simp only [XR,show (k:Int)<((Zb.Zz b).length:Int) by omega,if_true,Zu,hx,Option.bind_some,ZfD x (ZaR b3 hx),Zi hg,Zax (show k≤1048576 by omega)]
  rw [Yz hx]) (by
  simp only [XR,Int.lt_irrefl,if_false,List.take_length])
 simpa using this
end Go.Proofs.YtehkanadahncgaaGreatDoor
/-
  Plain laws: the nodes of all sinks, by key (program) and by place (reference).
-/
namespace Go.Proofs.YtehkanadahncgaaGreatDoor
set_option linter.unusedVariables false
set_option linter.unusedSimpArgs false
open Go Go.Sx
theorem Zvj {pl:List Pl} {k:Nat} {p:Pl} (hp:pl[k]?=some p) (h2:p.2.2.2.1=false):nth pl p.2.2.1 (k+1)=nth pl p.2.2.1 k+1:=by
 unfold nth
 rw [Zgl hp,Zhb rfl h2,List.length_append,List.length_singleton]
theorem ZuF {pl:List Pl} {net:Int} {k:Nat} {p:Pl} (hp:pl[k]?=some p) (h:¬(p.2.2.1=net∧p.2.2.2.1=false)):nth pl net (k+1)=nth pl net k:=by
 unfold nth
 rw [Zgl hp,ZgH h,List.append_nil]
def seen (pl:List Pl) (n k:Nat):List Int:=(List.range n).map (fun (v:Nat)=>((nth pl (v:Int) k:Nat):Int))
theorem Zlw {pl:List Pl} {n k v:Nat} (hv:v<n):(seen pl n k)[v]?=some ((nth pl (v:Int) k:Nat):Int):=by
 unfold seen
 rw [List.getElem?_map,List.getElem?_range hv];rfl
theorem ZsE (pl:List Pl) (n:Nat):List.replicate n (0:Int)=seen pl n 0:=by
 apply List.ext_getElem?
 intro v
 by_cases hv:v<n
 ·rw [Zlw hv,List.getElem?_replicate,if_pos hv]
  unfold nth
  simp [cat]
 ·rw [List.getElem?_eq_none (by simp;omega),List.getElem?_eq_none (by unfold seen;simp;omega)]
theorem Zty {pl:List Pl} {n k:Nat} {p:Pl} (hp:pl[k]?=some p) (h2:p.2.2.2.1=false) (h0:0≤p.2.2.1) (h1:p.2.2.1<(n:Int)):(seen pl n k).set p.2.2.1.toNat (((nth pl p.2.2.1 k+1:Nat):Int))=seen pl n (k+1):=by
 apply List.ext_getElem?
 intro v
 by_cases hv:v<n
 ·rw [List.getElem?_set,Zlw hv,Zlw hv]
  split
  ·rename_i e
   rw [if_pos (by unfold seen;simp;omega)]
   subst e
   rw [show ((p.2.2.1.toNat:Nat):Int)=p.2.2.1 by omega,Zvj hp h2]
  ·rename_i e
   rw [ZuF hp (fun q=>e (by have:=q.1;omega))]
 ·rw [List.getElem?_eq_none (by unfold seen;simp;omega),List.getElem?_eq_none (by unfold seen;simp;omega)]
theorem Zu1 {pl:List Pl} {n k:Nat} {p:Pl} (hp:pl[k]?=some p) (h2:p.2.2.2.1=true):seen pl n (k+1)=seen pl n k:=by
 unfold seen
 apply List.map_congr_left
 intro v _
 rw [ZuF hp (fun q=>by rw [h2] at q;cases q.2)]
theorem Zp0 {b:Zb} (h:ZbI b) {k:Nat} {p:Pl} (hp:(places (Zb.Design b))[k]?=some p) (h2:p.2.2.2.1=false) :
  ∃ w,atI (Zb.Zz b) p.2.2.1=some w∧(Zb.Zz b)[p.2.2.1.toNat]?=some w∧atI (Zn.Zfp w) ((nth (places (Zb.Design b)) p.2.2.1 k:Nat):Int)=some (Y3 b k)∧Zb3 w ((sinks (Zb.Design b) p.2.2.1).length:Int):=by
 have hn:=ZaJ h.ok.1 (List.mem_of_getElem? hp)
 obtain ⟨w,hw1,hw2,hw3⟩:=ZjS h hn
 have hlt:=Zs5 hp rfl h2
 have hs:=hw3.2.2.2.1
 have hlt2:nth (places (Zb.Design b)) p.2.2.1 k<(Zn.Zfp w).length:=by
  have:(sinks (Zb.Design b) p.2.2.1).length=(cat (Za5 p.2.2.1) 0 (places (Zb.Design b))).length:=rfl
  omega
 refine ⟨w,hw2,hw1,?_,hw3⟩
 rw [Zu]
 have e:Y3 b k=((Zn.Zfp w)[nth (places (Zb.Design b)) p.2.2.1 k]?).getD 0:=by
  unfold Y3
  simp only [hp,h2,hw1]
  rfl
 rw [e,List.getElem?_eq_getElem hlt2]
 rfl
theorem Zfl {b:Zb} (h:ZbI b):XM b=some (Za2 (places (Zb.Design b)) (Y3 b) (places (Zb.Design b)).length):=by
 have hf:=h.ok.1.few
 have hpl:=Vf hf
 have h30:=h.ok.1.2.1.2.1
 have hwn:=h.ok.2.1
 have hwl:(Zb.Zz b).length≤1048576:=Zm (Za4 h.sm).2.2
 unfold XM
 rw [Zi (by omega),Zi (by omega),Zi (by omega),Zi (by omega),YG _ hf,Option.bind_some,Int.toNat_natCast,ZsE (places (Zb.Design b))]
 refine YF (l:=places (Zb.Design b)) (fun k=>((k:Int),Za2 (places (Zb.Design b)) (Y3 b) k,seen (places (Zb.Design b)) (Zb.Zz b).length k,())) (fun k p hp hk=>?_) ?_
 ·simp only [Qg,show (k:Int)<((places (Zb.Design b)).length:Int) by omega,if_true,Zu,hp,Option.bind_some,Zax (show k≤1048576 by omega)]
  have e1:Yh.drives p=p.2.2.2.1:=rfl
  have e2:Yh.net p=p.2.2.1:=rfl
  by_cases h2:p.2.2.2.1=true
  ·rw [e1,if_pos h2,ZkP hp h2,Zu1 hp h2]
  ·have h2':p.2.2.2.1=false:=by simpa using h2
   obtain ⟨w,hw1,hw2,hw3,hw4⟩:=Zp0 h hp h2'
   have hn:=ZaJ h.ok.1 (List.mem_of_getElem? hp)
   have hv:p.2.2.1<((Zb.Zz b).length:Int):=by have:=hn.2;omega
   have hs:atI (seen (places (Zb.Design b)) (Zb.Zz b).length k) p.2.2.1=some ((nth (places (Zb.Design b)) p.2.2.1 k:Nat):Int):=by
    refine VJ hn.1 ?_
    rw [Zlw (by have:=hn.1;omega),show ((p.2.2.1.toNat:Nat):Int)=p.2.2.1 by have:=hn.1;omega]
   have hlt:=Zs5 hp rfl h2'
   have hlc:=Zfi p.2.2.1 (places (Zb.Design b)) 0
   rw [e1,if_neg h2,e2,hw1,Option.bind_some,hs,Option.bind_some,hw3,Option.bind_some,Zax (show nth (places (Zb.Design b)) p.2.2.1 k≤1048576 by omega),Zty hp h2' hn.1 hv,Zmf hp h2]
   rfl
 ·simp only [Qg,Int.lt_irrefl,if_false]
end Go.Proofs.YtehkanadahncgaaGreatDoor
/-
  Plain laws: the reference's nodes by place.
-/
namespace Go.Proofs.YtehkanadahncgaaGreatDoor
set_option linter.unusedVariables false
set_option linter.unusedSimpArgs false
open Go Go.Sx
theorem Zqv {pl:List Pl} {net:Int}:∀ (n:Nat),n≤pl.length→∀ (i:Nat) (x:Int),(cat (Za5 net) 0 (pl.take n))[i]?=some x→
  ∃ (k:Nat) (p:Pl),k<n∧pl[k]?=some p∧x=(k:Int)∧p.2.2.1=net∧p.2.2.2.1=false∧nth pl net k=i
 | 0,_,i,x,h=>by simp [cat] at h
 | n+1,hn,i,x,h=>by
  have hp:pl[n]?=some pl[n]:=List.getElem?_eq_getElem (by omega)
  generalize pl[n]=p at hp
  rw [Zgl hp] at h
  by_cases hi:i<(cat (Za5 net) 0 (pl.take n)).length
  ·rw [List.getElem?_append_left hi] at h
   obtain ⟨k,q,a,r⟩:=Zqv n (by omega) i x h
   exact ⟨k,q,by omega,r⟩
  ·rw [List.getElem?_append_right (by omega)] at h
   by_cases hs:p.2.2.1=net∧p.2.2.2.1=false
   ·rw [Zhb hs.1 hs.2] at h
    have h0:=(List.getElem?_eq_some_iff.1 h).1
    rw [List.length_singleton] at h0
    rw [show i-(cat (Za5 net) 0 (pl.take n)).length=0 by omega] at h
    injection h with h
    exact ⟨n,p,by omega,hp,h.symm,hs.1,hs.2,by unfold nth;omega⟩
   ·rw [ZgH hs] at h
    cases h
theorem Zn4 {pl:List Pl} {net:Int} {i:Nat} {x:Int} (h:(cat (Za5 net) 0 pl)[i]?=some x) :
  ∃ (k:Nat) (p:Pl),pl[k]?=some p∧x=(k:Int)∧p.2.2.1=net∧p.2.2.2.1=false∧nth pl net k=i:=by
 obtain ⟨k,p,_,r⟩:=Zqv (pl:=pl) (net:=net) pl.length (Nat.le_refl _) i x (by rw [List.take_length];exact h)
 exact ⟨k,p,r⟩
def filled (b:Zb) (P:Nat→Pl→Bool):List Int:=cat (fun k p=>[if P k p=true then Y3 b k else 0]) 0 (places (Zb.Design b))
theorem Zb4 (b:Zb) (P:Nat→Pl→Bool) (k:Nat):(filled b P)[k]?=((places (Zb.Design b))[k]?).map (fun p=>if P k p=true then Y3 b k else 0):=by
 unfold filled
 rw [ZbJ,Nat.zero_add]
theorem ZjX (b:Zb) (P:Nat→Pl→Bool):(filled b P).length=(places (Zb.Design b)).length:=ZaA _ _
theorem ZkR {b:Zb} {P Q:Nat→Pl→Bool} (h:∀ (k:Nat) (p:Pl),(places (Zb.Design b))[k]?=some p→P k p=Q k p):filled b P=filled b Q:=by
 apply List.ext_getElem?
 intro k
 rw [Zb4,Zb4]
 cases hp:(places (Zb.Design b))[k]? with
 | none=>rfl
 | some p=>simp only [Option.map_some,h k p hp]
def Zun (v:Nat) (k:Nat) (p:Pl):Bool:=decide (p.2.2.1<(v:Int))&&!p.2.2.2.1
def pIn (b:Zb) (v i:Nat) (k:Nat) (p:Pl):Bool:=!p.2.2.2.1&&(decide (p.2.2.1<(v:Int))||(decide (p.2.2.1=(v:Int))&&decide (nth (places (Zb.Design b)) (v:Int) k<i)))
def ZaT (b:Zb):List Int:=filled b (fun _ _=>true)
theorem ZgI {b:Zb} {k:Nat} (hk:k<(places (Zb.Design b)).length):(ZaT b)[k]?=some (Y3 b k):=by
 unfold ZaT
 rw [Zb4,List.getElem?_eq_getElem hk]
 rfl
theorem ZaG (b:Zb):(ZaT b).length=(places (Zb.Design b)).length:=ZjX _ _
theorem ZeM {b:Zb} (h:ZbI b):Zau b=some (ZaT b):=by
 have hf:=h.ok.1.few
 have hpl:=Vf hf
 have h30:=h.ok.1.2.1.2.1
 have hwn:=h.ok.2.1
 have hwl:(Zb.Zz b).length≤1048576:=Zm (Za4 h.sm).2.2
 have first:List.replicate (places (Zb.Design b)).length (0:Int)=filled b (Zun 0):=by
  apply List.ext_getElem?
  intro k
  rw [Zb4,List.getElem?_replicate]
  split
  ·rename_i hk
   have hp:=List.getElem?_eq_getElem hk
   rw [hp]
   have hn:=(ZaJ h.ok.1 (List.mem_of_getElem? hp)).1
   rw [Option.map_some,if_neg]
   unfold Zun
   simp only [Bool.and_eq_true,decide_eq_true_eq,not_and]
   intro q;omega
  ·rw [List.getElem?_eq_none (by omega)];rfl
 have last:filled b (Zun (Zb.Zz b).length)=ZaT b:=by
  apply List.ext_getElem?
  intro k
  unfold ZaT
  rw [Zb4,Zb4]
  cases hp:(places (Zb.Design b))[k]? with
  | none=>rfl
  | some p =>
   have hn:=(ZaJ h.ok.1 (List.mem_of_getElem? hp)).2
   simp only [Option.map_some,if_true]
   by_cases h2:p.2.2.2.1=true
   ·have:Y3 b k=0:=by unfold Y3;simp only [hp,h2,if_true]
    simp only [this,ite_self]
   ·rw [if_pos]
    unfold Zun
    simp only [Bool.and_eq_true,decide_eq_true_eq,Bool.not_eq_true']
    exact ⟨by omega,by simpa using h2⟩
 unfold Zau
 rw [Vh _ hf,Option.bind_some,Zi (by omega),Zi (by omega),Zi (by omega),Zi (by omega),Int.toNat_natCast,first]
 refine YF (l:=Zb.Zz b) (fun v=>((v:Int),filled b (Zun v),())) (fun v w hw hv=>?_) ?_
 ·simp only [JY,show (v:Int)<((Zb.Zz b).length:Int) by omega,if_true,Zac _ _ hf,Option.bind_some]
  have e0:filled b (Zun v)=filled b (pIn b v 0):=ZkR fun k p _=>by unfold Zun pIn;simp [Bool.and_comm]
  have e1:filled b (pIn b v (sinks (Zb.Design b) (v:Int)).length)=filled b (Zun (v+1)):=ZkR fun k p hp=>by
   unfold Zun pIn
   by_cases h2:p.2.2.2.1=true
   ·simp [h2]
   ·have h2':p.2.2.2.1=false:=by simpa using h2
    rw [h2',Bool.not_false,Bool.true_and,Bool.and_true]
    by_cases hq:p.2.2.1=(v:Int)
    ·have hlt:nth (places (Zb.Design b)) (v:Int) k<(sinks (Zb.Design b) (v:Int)).length:=Zs5 hp hq h2'
     rw [decide_eq_true hlt,decide_eq_true hq,decide_eq_true (show p.2.2.1<((v+1:Nat):Int) by omega)]
     simp
    ·rw [decide_eq_false hq,Bool.false_and,Bool.or_false]
     exact decide_eq_decide.2 (by omega)
  rw [e0]
  refine YF (l:=sinks (Zb.Design b) (v:Int)) (fun i=>((i:Int),filled b (pIn b v i),())) (fun i x hx hi=>?_) ?_
  ·obtain ⟨k,p,hp,ex,hn,h2,hnth⟩:=Zn4 (pl:=places (Zb.Design b)) hx
   obtain ⟨w',hw1,hw2,hw3,hw4⟩:=Zp0 h hp h2
   have hk:=(List.getElem?_eq_some_iff.1 hp).1
   have hlc:=Zfi (v:Int) (places (Zb.Design b)) 0
   have hlc2:(sinks (Zb.Design b) (v:Int)).length≤(places (Zb.Design b)).length:=hlc
   rw [hn,hnth] at hw3
   rw [hn] at hw1
   have hfk:(filled b (pIn b v i))[k]?=some ((filled b (pIn b v i))[k]'(by rw [ZjX];exact hk)):=List.getElem?_eq_getElem _
   simp only [JI,show (i:Int)<((sinks (Zb.Design b) (v:Int)).length:Int) by omega,if_true,Zu,hx,Option.bind_some,←Zu (Zb.Zz b),hw1,←Zu (Zn.Zfp w'),hw3,Zax (show i≤1048576 by omega)]
   subst ex
   rw [Zu,hfk,Option.bind_some,Int.toNat_natCast]
   have:List.set (filled b (pIn b v i)) k (Y3 b k)=filled b (pIn b v (i+1)):=by
    apply List.ext_getElem?
    intro j
    rw [List.getElem?_set,ZjX]
    split
    ·rename_i e
     subst e
     rw [Zb4,hp,Option.map_some,if_pos]
     unfold pIn
     rw [h2,hnth]
     simp [hn]
    ·rename_i e
     rw [Zb4,Zb4]
     cases hq:(places (Zb.Design b))[j]? with
     | none=>rfl
     | some q =>
      have:pIn b v i j q=pIn b v (i+1) j q:=by
       unfold pIn
       by_cases h3:q.2.2.2.1=true
       ·simp [h3]
       ·have h3':q.2.2.2.1=false:=by simpa using h3
        by_cases hqn:q.2.2.1=(v:Int)
        ·have hne:nth (places (Zb.Design b)) (v:Int) j≠i:=by
          intro hh
          have h4:=Zjw hq hqn h3'
          rw [hh] at h4
          have h5:(cat (Za5 (v:Int)) 0 (places (Zb.Design b)))[i]?=some (k:Int):=hx
          rw [h5] at h4
          injection h4 with h4
          omega
         rw [show decide (nth (places (Zb.Design b)) (v:Int) j<i)=decide (nth (places (Zb.Design b)) (v:Int) j<i+1) from decide_eq_decide.2 (by omega)]
        ·rw [decide_eq_false hqn,Bool.false_and,Bool.false_and]
      rw [Option.map_some,Option.map_some,this]
   rw [this]
  ·simp only [JI,Int.lt_irrefl,if_false,Zax (show v≤1048576 by omega),e1]
 ·simp only [JY,Int.lt_irrefl,if_false,last]
end Go.Proofs.YtehkanadahncgaaGreatDoor
/-
  Plain laws: sinks put in anew, a place put on another net, a buffer taken away.
-/
namespace Go.Proofs.YtehkanadahncgaaGreatDoor
set_option linter.unusedVariables false
set_option linter.unusedSimpArgs false
open Go Go.Sx
def wip (ws:List Zn) (k:Nat):List Zn:=cat (fun j w=>[if j<k then Zep w [] else w]) 0 ws
theorem Zkv (ws:List Zn) (k v:Nat):(wip ws k)[v]?=(ws[v]?).map (fun w=>if v<k then Zep w [] else w):=by
 unfold wip
 rw [ZbJ,Nat.zero_add]
theorem Zvb (ws:List Zn) (k:Nat):(wip ws k).length=ws.length:=ZaA _ _
theorem Zth (ws:List Zn):wip ws 0=ws:=by
 apply List.ext_getElem?
 intro v
 rw [Zkv]
 simp
theorem ZuJ (pl:List Pl) (ws:List Zn) (nd:Nat→Int):wip ws ws.length=Zfa pl ws nd 0:=by
 apply List.ext_getElem?
 intro v
 unfold Zfa
 rw [Zkv,Zdt]
 cases hv:ws[v]? with
 | none=>rfl
 | some w =>
  have:=(List.getElem?_eq_some_iff.1 hv).1
  simp only [Option.map_some,if_pos this,List.take_zero,cat,List.map_nil]
theorem Ztf {ws:List Zn} {k:Nat} {w:Zn} (hw:ws[k]?=some w):(wip ws k)[k]?=some w∧(wip ws k).set k (Zep w [])=wip ws (k+1):=by
 constructor
 ·rw [Zkv,hw];simp
 ·apply List.ext_getElem?
  intro v
  rw [List.getElem?_set,Zvb]
  split
  ·rename_i e
   subst e
   rw [if_pos (List.getElem?_eq_some_iff.1 hw).1,Zkv,hw,Option.map_some,if_pos (by omega)]
  ·rw [Zkv,Zkv]
   congr 1
   funext w'
   by_cases h:v<k
   ·rw [if_pos h,if_pos (by omega)]
   ·rw [if_neg h,if_neg (by omega)]
theorem Ze1 {b:Zb} {nodes:ZiN} {nd:Nat→Int} (hf:Few (Zb.Design b)) (hm:Maps nodes (places (Zb.Design b)) nd) (hn:Zie (places (Zb.Design b)) (Zb.Zz b).length) (hw:(Zb.Zz b).length≤1048576) :
  Xf b nodes=some (Zb.Library b,Zb.Design b,wired (places (Zb.Design b)) (Zb.Zz b) nd,()):=by
 have hpl:=Vf hf
 unfold Xf
 have:=YF (l:=Zb.Zz b) (fun k=>((k:Int),wip (Zb.Zz b) k,())) (step:=fun v=>Xn b nodes v.1 v.2.1) (good:=(Zb.Library b,Zb.Design b,wired (places (Zb.Design b)) (Zb.Zz b) nd,())) (fun k w hk hlt=>by
  obtain ⟨a1,a2⟩:=Ztf hk
  simp only [Xn,show (k:Int)<((Zb.Zz b).length:Int) by omega,if_true,Zu,a1,Option.bind_some,Zax (show k≤1048576 by omega),Int.toNat_natCast]
  rw [←a2]
  rfl) (by
  simp only [Xn,Int.lt_irrefl,if_false,YG _ hf,Option.bind_some,ZuJ (places (Zb.Design b)) (Zb.Zz b) nd]
  refine YF (l:=places (Zb.Design b)) (fun k=>((k:Int),Zfa (places (Zb.Design b)) (Zb.Zz b) nd k,())) (fun k p hp hk=>?_) ?_
  ·simp only [Qf,show (k:Int)<((places (Zb.Design b)).length:Int) by omega,if_true,Zu,hp,Option.bind_some,Zax (show k≤1048576 by omega)]
   have e1:Yh.drives p=p.2.2.2.1:=rfl
   have e2:Yh.net p=p.2.2.1:=rfl
   have e3:Zhp Zb2 (Ty.int IntKind.i64) nodes (Yh.instance p,Yh.pin p,())=Zhp Key (.int .i64) nodes (ZqL p):=rfl
   by_cases h2:p.2.2.2.1=true
   ·rw [e1,if_pos h2,ZoW hp h2]
   ·have h2':p.2.2.2.1=false:=by simpa using h2
    obtain ⟨h0,h1⟩:=hn p (List.mem_of_getElem? hp) h2'
    have hwk:(Zb.Zz b)[p.2.2.1.toNat]?=some ((Zb.Zz b)[p.2.2.1.toNat]'(by omega)):=List.getElem?_eq_getElem (by omega)
    obtain ⟨w1,w2⟩:=ZoF (nd:=nd) hp h2' h0 hwk
    have hl:=Zfi p.2.2.1 ((places (Zb.Design b)).take k) 0
    rw [e1,if_neg h2,e2,VJ h0 w1,Option.bind_some,e3,hm k p hp h2',Zi (by
     show ((List.map _ _).length+1)*8≤_
     rw [List.length_map]
     rw [List.length_take] at hl
     omega),←w2]
    rfl
  ·simp only [Qf,Int.lt_irrefl,if_false]
   unfold Zfa
   rw [List.take_length])
 rw [Zth] at this
 exact this
theorem ZfI {b:Zb} {k:Nat} {p:Pl} (hp:(places (Zb.Design b))[k]?=some p) (n:Int):Qn b (p.1,p.2.1,()) n=some (Zb.Library b,conn (Zb.Design b) p.1 p.2.1 n,Zb.Zz b,()):=by
 unfold Qn conn
 rcases Zaz hp with ⟨i,j,x,m,hx,hn,e,rfl⟩ | ⟨j,q,hq,e,rfl⟩
 ·have c:¬((i:Int)<0):=by omega
  simp only [ZdS,J3.instance,J3.pin,if_neg c,Zu,hx,Option.bind_some,Int.toNat_natCast]
  have hn2:x.2.2.1[j]?=some m:=hn
  rw [hn2]
  rfl
 ·have c:((-1:Int)<0):=by omega
  simp only [J3.instance,J3.pin,if_pos c,Zu,hq,Option.bind_some,Int.toNat_natCast]
  rfl
theorem Zjh {d:Za} (hn:0<(Za.Instances d).length) {p:Pl} (h:p∈places (X3 d)):p∈places d:=by
 have hx:(Za.Instances d)[(Za.Instances d).length-1]?=some (Za.Instances d)[(Za.Instances d).length-1]:=List.getElem?_eq_getElem (by omega)
 rw [Zkg (s:=[]) hn hx,ZfT]
 unfold places at h
 rcases List.mem_append.1 h with h | h
 ·exact List.mem_append_left _ (List.mem_append_left _ h)
 ·exact List.mem_append_right _ h
theorem Zjl.sink {b:Zb} (h:ZbI b) (hL:Zjl b):∃ (k:Nat) (p:Pl),sinks (Zb.Design b) (((Za.ZQ (Zb.Design b)).length:Int)-1)=[(k:Int)]∧(places (Zb.Design b))[k]?=some p∧p.2.2.1=((Za.ZQ (Zb.Design b)).length:Int)-1∧p.2.2.2.1=false∧p.1≠((Za.Instances (Zb.Design b)).length:Int)-1:=by
 obtain ⟨x,c,w,m,hn,hx,hc,hk1,hk2,hl2,hm,hl,hne,hnm,hw,hs1,hs2,hp1,hc0⟩:=hL
 match hs:sinks (Zb.Design b) (((Za.ZQ (Zb.Design b)).length:Int)-1),hs2 with
 | [v],_ =>
  obtain ⟨k,p,hp,e,h1,h2,_⟩:=Zn4 (pl:=places (Zb.Design b)) (net:=((Za.ZQ (Zb.Design b)).length:Int)-1) (i:=0) (x:=v) (by
   show (sinks (Zb.Design b) (((Za.ZQ (Zb.Design b)).length:Int)-1))[0]?=some v
   rw [hs];rfl)
  subst e
  refine ⟨k,p,rfl,hp,h1,h2,fun q=>?_⟩
  rcases Zaz hp with ⟨i,j,y,n,hy,hnj,_,rfl⟩ | ⟨j,y,_,_,rfl⟩
  ·simp only [ZdS] at q h1 h2
   have ei:i=(Za.Instances (Zb.Design b)).length-1:=by omega
   rw [ei,hx] at hy
   injection hy with hy
   subst hy
   have hj:=(List.getElem?_eq_some_iff.1 hnj).1
   rw [hl2] at h2 hj
   have:j=0∨j=1:=by omega
   rcases this with rfl | rfl
   ·rw [show atI (Zd.ZQ x) 0=(Zd.ZQ x)[0]? from rfl,hnj] at hm
    injection hm with hm
    exact hne (hm.symm.trans h1)
   ·exact absurd h2 (by simp only [decide_eq_false_iff_not,Classical.not_not];rw [V8 (by omega) (by omega)];rfl)
  ·simp only at q
   omega
end Go.Proofs.YtehkanadahncgaaGreatDoor
/-
  Plain laws: a buffer taken away; inverse edits.
-/
namespace Go.Proofs.YtehkanadahncgaaGreatDoor
set_option linter.unusedVariables false
set_option linter.unusedSimpArgs false
open Go Go.Sx
theorem Zsx {b:Zb} (h:ZbI b) {k:Nat} {p:Pl} {m:Int} (hn:0<(Za.Instances (Zb.Design b)).length) (hs:sinks (Zb.Design b) (((Za.ZQ (Zb.Design b)).length:Int)-1)=[(k:Int)]) (hp:(places (Zb.Design b))[k]?=some p) (h0:0≤m) (h1:m<((Za.ZQ (Zb.Design b)).length:Int)-1) :
  Zie (places (unD b p m)) ((Zb.Zz b).length-1):=by
 have hwn:=h.ok.2.1
 have hD:Zie (places (conn (Zb.Design b) p.1 p.2.1 m)) ((Zb.Zz b).length-1):=by
  rw [VO hp]
  intro q hq hd
  obtain ⟨j,hj⟩:=List.getElem?_of_mem hq
  rw [List.getElem?_set] at hj
  split at hj
  ·split at hj
   ·injection hj with hj
    subst hj
    exact ⟨h0,by show m<_;omega⟩
   ·cases hj
  ·rename_i e
   have hnet:=ZaJ h.ok.1 (List.mem_of_getElem? hj)
   refine ⟨hnet.1,?_⟩
   by_cases hq2:q.2.2.1=((Za.ZQ (Zb.Design b)).length:Int)-1
   ·have h3:=Zjw hj hq2 hd
    have h4:(sinks (Zb.Design b) (((Za.ZQ (Zb.Design b)).length:Int)-1))[nth (places (Zb.Design b)) (((Za.ZQ (Zb.Design b)).length:Int)-1) j]?=some (j:Int):=h3
    rw [hs] at h4
    have h5:=List.mem_of_getElem? h4
    rw [List.mem_singleton] at h5
    exact absurd (by omega) e
   ·have:=hnet.2
    omega
 intro q hq hd
 exact hD q (Zjh (by rw [Y8];exact hn) hq) hd
theorem ZgL {d:Za} {x:Zd} (hn:0<(Za.Instances d).length) (hx:(Za.Instances d)[(Za.Instances d).length-1]?=some x) (h2:(Zd.ZQ x).length=2):YB (X3 d)+2=YB d:=by
 have h1:=Zp7 hn hx
 unfold YB
 rw [h1,Zd5,List.length_append]
 simp only [cat,List.append_nil,Jb,h2]
theorem Zno {d:Za} {x:Zd} (hn:0<(Za.Instances d).length) (hx:(Za.Instances d)[(Za.Instances d).length-1]?=some x) (h2:(Zd.ZQ x).length=2):ZeU d ((Za.Instances d).length-1)=YB d-2:=by
 have h1:=ZgL hn hx h2
 have:ZeU d ((Za.Instances d).length-1)=YB (X3 d):=rfl
 omega
theorem Zk4 {b:Zb} (h:ZbI b) (hL:Zjl b):∃ (k:Nat) (p:Pl) (m v:Int),sinks (Zb.Design b) (((Za.ZQ (Zb.Design b)).length:Int)-1)=[(k:Int)]∧(places (Zb.Design b))[k]?=some p∧p.1≠((Za.Instances (Zb.Design b)).length:Int)-1∧
  (∀ y,(Za.Instances (Zb.Design b))[(Za.Instances (Zb.Design b)).length-1]?=some y→atI (Zd.ZQ y) 0=some m)∧v=Y3 b (YB (Zb.Design b)-2)∧
  Vk b=some ((p.1,p.2.1,()),(Zb.Library b,unD b p m,wired (places (unD b p m)) ((Zb.Zz b).take ((Zb.Zz b).length-1)) (ZoL (fun j=>if j=k then v else Y3 b j) (YB (unD b p m))),())):=by
 obtain ⟨k,p,hs,hp,hpn,hpd,hpi⟩:=hL.sink h
 obtain ⟨x,c,w,m,hn,hx,hc,hk1,hk2,hl2,hm,hl,hne,hnm,hw,hs1,hs2,hp1,hc0⟩:=hL
 have hD:=h.ok.1
 have hf:=hD.few
 have hpl:=Vf hf
 have h14:=hf.insts
 have h30:=hD.2.1.2.1
 have hwn:=h.ok.2.1
 obtain ⟨_,_,hnet⟩:=hD.2.2.1 x (List.mem_of_getElem? hx)
 have hm0:(Zd.ZQ x)[0]?=some m:=hm
 have hmn:=hnet m (List.mem_of_getElem? hm0)
 have hpos:1≤(Za.ZQ (Zb.Design b)).length:=by have:=hmn.1;have:=hmn.2;omega
 have hmn2:m<((Za.ZQ (Zb.Design b)).length:Int)-1:=by have:=hmn.2;omega
 have hx2:atI (Za.Instances (Zb.Design b)) (((Za.Instances (Zb.Design b)).length:Int)-1)=some x:=VJ (by omega) (by rw [←hx];congr 1;omega)
 have t1:Int.toNat (((Za.Instances (Zb.Design b)).length:Int)-1)=(Za.Instances (Zb.Design b)).length-1:=by omega
 have t2:Int.toNat (((Za.ZQ (Zb.Design b)).length:Int)-1)=(Za.ZQ (Zb.Design b)).length-1:=by omega
 have t3:Int.toNat (((Zb.Zz b).length:Int)-1)=(Zb.Zz b).length-1:=by omega
 have e:((Zb.Library b,(List.set (Za.Instances (Zb.Design b)) ((Za.Instances (Zb.Design b)).length-1) x,(Zb.Design b).snd),b.snd.snd):Zb)=b:=by rw [ZbH hx]
 refine ⟨k,p,m,(Option.getD (Zhp Key (Ty.int IntKind.i64) (Za2 (places (Zb.Design b)) (Y3 b) (places (Zb.Design b)).length) ((((Za.Instances (Zb.Design b)).length:Int)-1),(0:Int),())) (0:Int)),hs,hp,hpi,fun y hy=>by rw [hx] at hy;injection hy with hy;rw [←hy];exact hm,?_,?_⟩
 ·have h5:=Zfy hx hm0
  rw [Nat.add_zero,Zno hn hx hl2] at h5
  have h6:=Zhi (Zb.Design b) (Y3 b) _ _ h5 (by
   show decide ((0:Int)=IntKind.i64.wrap (((Zd.ZQ x).length:Int)-1))=false
   rw [hl2,V8 (by omega) (by omega)]
   decide)
  have h7:ZqL (ZdS ((Za.Instances (Zb.Design b)).length-1) x 0 m)=((((Za.Instances (Zb.Design b)).length:Int)-1),(0:Int),()):=by
   show ((((Za.Instances (Zb.Design b)).length-1:Nat):Int),(0:Int),())=_
   rw [show (((Za.Instances (Zb.Design b)).length-1:Nat):Int)=((Za.Instances (Zb.Design b)).length:Int)-1 by omega]
  rw [h7] at h6
  rw [h6]
  rfl
 unfold Vk
 rw [Zfl h,Option.bind_some,YG _ hf,Option.bind_some,show YQ (Za.ZQ (Zb.Design b))=some ((Za.ZQ (Zb.Design b)).length:Int) from rfl,Option.bind_some,
  V8 (n:=((Za.ZQ (Zb.Design b)).length:Int)-1) (by omega) (by omega),ZhE _ _ hf,Option.bind_some,hs,show atI [(k:Int)] 0=some (k:Int) from rfl,Option.bind_some,Zu,hp,Option.bind_some,
  V8 (n:=((Za.Instances (Zb.Design b)).length:Int)-1) (by omega) (by omega),hx2,Option.bind_some,show x.snd.snd.fst=Zd.ZQ x from rfl,hm,Option.bind_some,t1,e,
  show (Yh.instance p,Yh.pin p,())=(p.1,p.2.1,()) from rfl,ZfI hp m,Option.bind_some]
 have eD:Zb.Design ((Zb.Library b,conn (Zb.Design b) p.1 p.2.1 m,Zb.Zz b,()):Zb)=conn (Zb.Design b) p.1 p.2.1 m:=rfl
 have eW:Zb.Zz ((Zb.Library b,conn (Zb.Design b) p.1 p.2.1 m,Zb.Zz b,()):Zb)=Zb.Zz b:=rfl
 have eL:Zb.Library ((Zb.Library b,conn (Zb.Design b) p.1 p.2.1 m,Zb.Zz b,()):Zb)=Zb.Library b:=rfl
 rw [eD,eW,eL,Vw,V8 (n:=((Za.ZQ (Zb.Design b)).length:Int)-1) (by omega) (by omega),V8 (n:=((Zb.Zz b).length:Int)-1) (by omega) (by omega),t2,t3,
  Zi (by omega),Zi (by rw [Y8];omega),Zi (by omega),Zi (by omega),Zi (by omega),Zi (by omega)]
 simp only [Int.toNat_zero,Nat.sub_zero,List.drop_zero]
 have hB:((Zb.Library b,(List.take ((Za.Instances (Zb.Design b)).length-1) (Za.Instances (conn (Zb.Design b) p.1 p.2.1 m)),List.take ((Za.ZQ (Zb.Design b)).length-1) (Za.ZQ (Zb.Design b)),(conn (Zb.Design b) p.1 p.2.1 m).snd.snd),List.take ((Zb.Zz b).length-1) (Zb.Zz b),()):Zb)
   = (Zb.Library b,unD b p m,List.take ((Zb.Zz b).length-1) (Zb.Zz b),()):=by
  unfold unD X3
  rw [Y8,Vw]
 rw [hB]
 have hx3:(Za.Instances (conn (Zb.Design b) p.1 p.2.1 m))[(Za.Instances (conn (Zb.Design b) p.1 p.2.1 m)).length-1]?=some ((Za.Instances (conn (Zb.Design b) p.1 p.2.1 m))[(Za.Instances (conn (Zb.Design b) p.1 p.2.1 m)).length-1]'(by rw [Y8];omega)):=List.getElem?_eq_getElem _
 generalize (Za.Instances (conn (Zb.Design b) p.1 p.2.1 m))[(Za.Instances (conn (Zb.Design b) p.1 p.2.1 m)).length-1]'(by rw [Y8];omega)=x' at hx3
 have hx4:(Zd.ZQ x').length=2:=by
  obtain ⟨y,hy,_,_,hyl,_⟩:=Zfr hx3
  rw [Y8,hx] at hy
  injection hy with hy
  rw [hyl,←hy,hl2]
 have hM:=(((Zhi (Zb.Design b) (Y3 b)).put hp (Option.getD (Zhp Key (Ty.int IntKind.i64) (Za2 (places (Zb.Design b)) (Y3 b) (places (Zb.Design b)).length) ((((Za.Instances (Zb.Design b)).length:Int)-1),(0:Int),())) (0:Int))).set hp m)
 rw [←VO hp m] at hM
 have hM2:=hM.cut (by rw [Y8];omega) hx3 hx4
 have hlen:(List.take ((Zb.Zz b).length-1) (Zb.Zz b)).length=(Zb.Zz b).length-1:=by rw [List.length_take];omega
 have:=Ze1 (b:=(Zb.Library b,unD b p m,List.take ((Zb.Zz b).length-1) (Zb.Zz b),())) (hf.conn p.1 p.2.1 m).cut hM2 (by
  show Zie (places (unD b p m)) (List.take ((Zb.Zz b).length-1) (Zb.Zz b)).length
  rw [hlen]
  exact Zsx h hn hs hp hmn.1 hmn2) (by
  show (List.take ((Zb.Zz b).length-1) (Zb.Zz b)).length≤_
  rw [hlen];omega)
 exact Eq.trans (congrArg (fun o=>Option.bind o fun connect0=>some ((p.1,p.2.1,()),connect0)) this) rfl
end Go.Proofs.YtehkanadahncgaaGreatDoor
/-
  Plain laws: designs stay valid when a place is put on another net, when a buffer is added or taken away.
-/
namespace Go.Proofs.YtehkanadahncgaaGreatDoor
set_option linter.unusedVariables false
set_option linter.unusedSimpArgs false
open Go Go.Sx
theorem Zb3.put {w:Zn} {s:Int} (h:Zb3 w s) {l:List Int} (hl:Zg8 l 0 (((Zn.Parent w).length:Int)-1)):Zb3 (Zep w l) (l.length:Int) :=
 ⟨h.1,h.2.1,h.2.2.1,rfl,h.2.2.2.2.1,h.2.2.2.2.2.1,h.2.2.2.2.2.2.1,hl⟩
def Fits (pl:List Pl) (ws:List Zn) (nd:Nat→Int):Prop:=∀ (k:Nat) (p:Pl) (w:Zn),pl[k]?=some p→p.2.2.2.1=false→ws[p.2.2.1.toNat]?=some w→0≤nd k∧nd k≤((Zn.Parent w).length:Int)-1
theorem ZnN {pl:List Pl} {ws:List Zn} {nd:Nat→Int} (hw:∀ (v:Nat) (w:Zn),ws[v]?=some w→∃ s,Zb3 w s) (hf:Fits pl ws nd) :
  ZfZ (wired pl ws nd) (fun v w=>Zb3 w ((cat (Za5 (v:Int)) 0 pl).length:Int)):=by
 intro v w hv
 rw [Zdt] at hv
 cases hx:ws[v]? with
 | none=>rw [hx] at hv;cases hv
 | some y =>
  rw [hx] at hv
  injection hv with hv
  subst hv
  obtain ⟨s,hs⟩:=hw v y hx
  have:=hs.put (l:=(cat (Za5 (v:Int)) 0 pl).map (fun k=>nd k.toNat)) (fun z hz=>by
   obtain ⟨j,hj,rfl⟩:=List.mem_map.1 hz
   obtain ⟨k,p,rfl,hp,h1,h2⟩:=ZsV hj
   exact hf k p y hp h2 (by rw [h1];exact hx))
  rw [List.length_map] at this
  exact this
theorem ZlB {b:Zb} (h:ZbI b):Fits (places (Zb.Design b)) (Zb.Zz b) (Y3 b):=by
 intro k p w hp h2 hw
 obtain ⟨w',_,hw1,hw2,hw3⟩:=Zp0 h hp h2
 rw [hw1] at hw
 injection hw with hw
 subst hw
 rw [Zu] at hw2
 exact hw3.2.2.2.2.2.2.2 _ (List.mem_of_getElem? hw2)
theorem Fits.set {pl:List Pl} {ws:List Zn} {nd:Nat→Int} (h:Fits pl ws nd) {k0:Nat} {p0:Pl} (n v:Int) (hv:∀ w,ws[n.toNat]?=some w→0≤v∧v≤((Zn.Parent w).length:Int)-1) :
  Fits (pl.set k0 (p0.1,p0.2.1,n,p0.2.2.2.1,())) ws (fun j=>if j=k0 then v else nd j):=by
 intro k p w hp h2 hw
 rw [List.getElem?_set] at hp
 split at hp
 ·rename_i e
  subst e
  split at hp
  ·injection hp with hp
   subst hp
   show 0≤(if k0=k0 then v else nd k0)∧(if k0=k0 then v else nd k0)≤_
   rw [if_pos rfl]
   exact hv w hw
  ·cases hp
 ·rename_i e
  show 0≤(if k=k0 then v else nd k)∧(if k=k0 then v else nd k)≤_
  rw [if_neg (fun q=>e q.symm)]
  exact h k p w hp h2 hw
theorem VU.snoc {l:List (List UInt8)} {s:List UInt8} (h:VU l l.length) (h1:ZaZ s=true) (h2:s ∉ l):VU (l++[s]) (l++[s]).length:=by
 intro j t hj ht
 by_cases e:j<l.length
 ·rw [List.getElem?_append_left e] at ht
  obtain ⟨a,b⟩:=h j t e ht
  refine ⟨a,?_⟩
  rw [List.take_append_of_le_length (by omega)]
  exact b
 ·rw [List.length_append,List.length_singleton] at hj
  have e2:j=l.length:=by omega
  subst e2
  rw [List.getElem?_append_right (by omega),Nat.sub_self] at ht
  injection ht with ht
  subst ht
  refine ⟨h1,?_⟩
  rw [List.take_append_of_le_length (Nat.le_refl _),List.take_length]
  exact h2
theorem VU.take {l:List (List UInt8)} (h:VU l l.length) (m:Nat):VU (l.take m) (l.take m).length:=by
 intro j t hj ht
 rw [List.length_take] at hj
 rw [List.getElem?_take,if_pos (by omega)] at ht
 obtain ⟨a,b⟩:=h j t (by omega) ht
 refine ⟨a,?_⟩
 rw [List.take_take,Nat.min_eq_left (by omega)]
 exact b
theorem Zpy (d:Za) (a b n:Int):ZaY (conn d a b n)=ZaY d:=by
 unfold conn
 split
 ·rfl
 ·show List.map Zd.Name (match (Za.Instances d)[a.toNat]? with | some x=>(Za.Instances d).set a.toNat (ZdT x b.toNat n) | none=>Za.Instances d)=List.map Zd.Name (Za.Instances d)
  split
  ·rename_i x hx
   rw [List.map_set]
   exact ZbH (by rw [List.getElem?_map,hx];rfl)
  ·rfl
theorem Zpn (d:Za) (a b n:Int):ZcB (conn d a b n)=ZcB d:=by
 unfold conn
 split
 ·show List.map ZU.Name (match (Za.Z5 d)[b.toNat]? with | some x=>(Za.Z5 d).set b.toNat (setPort x n) | none=>Za.Z5 d)=List.map ZU.Name (Za.Z5 d)
  split
  ·rename_i x hx
   rw [List.map_set]
   exact ZbH (by rw [List.getElem?_map,hx];rfl)
  ·rfl
 ·rfl
theorem ZoX {d:Za} {a b n:Int} {i:Nat} {y:ZU} (hy:(Za.Z5 (conn d a b n))[i]?=some y):∃ x,(Za.Z5 d)[i]?=some x∧ZU.Name y=ZU.Name x∧ZU.Dir y=ZU.Dir x∧(ZU.Net y=ZU.Net x∨ZU.Net y=n):=by
 unfold conn at hy
 split at hy
 ·have hy:(match (Za.Z5 d)[b.toNat]? with | some x=>(Za.Z5 d).set b.toNat (setPort x n) | none=>Za.Z5 d)[i]?=some y:=hy
  split at hy
  ·rename_i x hx
   rw [List.getElem?_set] at hy
   split at hy
   ·rename_i e
    split at hy
    ·injection hy with hy
     subst hy
     exact ⟨x,by rw [←e];exact hx,rfl,rfl,.inr rfl⟩
    ·cases hy
   ·exact ⟨y,hy,rfl,rfl,.inl rfl⟩
  ·exact ⟨y,hy,rfl,rfl,.inl rfl⟩
 ·exact ⟨y,hy,rfl,rfl,.inl rfl⟩
theorem Zjn {α:Type} {f:α→Bool} {y:α} (hy:f y=false):∀ {l:List α} {i:Nat} {x:α},l[i]?=some x→f x=false→(l.set i y).filter f=l.filter f
 | [],i,x,h,_=>by simp at h
 | a::l,0,x,h,hx=>by
  have h:a=x:=by simpa using h
  subst h
  simp [List.set,hx,hy]
 | a::l,i+1,x,h,hx=>by
  have:=Zjn hy (l:=l) (i:=i) (by simpa using h) hx
  simp only [List.set_cons_succ,List.filter_cons,this]
theorem Zhr {x:Zd} (h:0<(Zd.ZQ x).length):(Zd.ZQ x)[(Zd.ZQ x).length-1]?=some (XZ x):=by
 unfold XZ
 rw [List.getLastD_eq_getLast?,←List.getLast?_eq_getElem?]
 cases hN:Zd.ZQ x with
 | nil=>rw [hN] at h;simp at h
 | cons y r=>rw [List.getLast?_cons];rfl
theorem Zm7 {x:Zd} {j:Nat} {n:Int} (h:j+1≠(Zd.ZQ x).length):XZ (ZdT x j n)=XZ x:=by
 by_cases h0:0<(Zd.ZQ x).length
 ·have h1:=Zhr (x:=ZdT x j n) (by show 0<(List.set (Zd.ZQ x) j n).length;rw [List.length_set];exact h0)
  have h2:(List.set (Zd.ZQ x) j n)[(List.set (Zd.ZQ x) j n).length-1]?=some (XZ (ZdT x j n)):=h1
  rw [List.length_set,List.getElem?_set,if_neg (by omega),Zhr h0] at h2
  injection h2 with h2
  exact h2.symm
 ·have e:Zd.ZQ x=[]:=List.length_eq_zero_iff.1 (by omega)
  unfold XZ
  show (List.set (Zd.ZQ x) j n).getLastD 0=_
  rw [e];rfl
theorem ZsA {d:Za} (hf:Few d) {k:Nat} {p:Pl} (hp:(places d)[k]?=some p) (h2:p.2.2.2.1=false) (n:Int):ZlR (conn d p.1 p.2.1 n)=ZlR d:=by
 unfold ZlR
 rcases Zaz hp with ⟨i,j,x,m,hx,hn,e,rfl⟩ | ⟨j,q,hq,e,rfl⟩
 ·have hl:=hf.nets x (List.mem_of_getElem? hx)
  have hj:=(List.getElem?_eq_some_iff.1 hn).1
  have h3:decide ((j:Int)=IntKind.i64.wrap (((Zd.ZQ x).length:Int)-1))=false:=h2
  rw [V8 (by omega) (by omega)] at h3
  have h4:¬((j:Int)=((Zd.ZQ x).length:Int)-1):=of_decide_eq_false h3
  have c:¬((i:Int)<0):=by omega
  have e1:Za.Instances (conn d (ZdS i x j m).1 (ZdS i x j m).2.1 n)=(Za.Instances d).set i (ZdT x j n):=by
   unfold conn
   show Za.Instances (if (i:Int)<0 then _ else _)=_
   rw [if_neg c]
   show (match (Za.Instances d)[(i:Int).toNat]? with | some x=>(Za.Instances d).set (i:Int).toNat (ZdT x (j:Int).toNat n) | none=>Za.Instances d)=_
   simp only [Int.toNat_natCast,hx]
  have e2:Za.Z5 (conn d (ZdS i x j m).1 (ZdS i x j m).2.1 n)=Za.Z5 d:=by
   unfold conn
   show Za.Z5 (if (i:Int)<0 then _ else _)=_
   rw [if_neg c]
  rw [e1,e2,List.map_set,Zm7 (by omega),ZbH (by rw [List.getElem?_map,hx];rfl)]
 ·have h3:decide (ZU.Dir q=1)=false:=h2
  have e1:Za.Instances (conn d (-1) (j:Int) n)=Za.Instances d:=by
   unfold conn
   rw [if_pos (by omega)]
  have e2:Za.Z5 (conn d (-1) (j:Int) n)=(Za.Z5 d).set j (setPort q n):=by
   unfold conn
   rw [if_pos (by omega)]
   show (match (Za.Z5 d)[(j:Int).toNat]? with | some x=>(Za.Z5 d).set (j:Int).toNat (setPort x n) | none=>Za.Z5 d)=_
   simp only [Int.toNat_natCast,hq]
  show (Za.Instances (conn d (-1) (j:Int) n)).map XZ++((Za.Z5 (conn d (-1) (j:Int) n)).filter (fun p=>decide (ZU.Dir p=1))).map ZU.Net=_
  rw [e1,e2,Zjn (by exact h3) hq h3]
theorem ZpM {a:Zl} {d:Za} (h:Q6 a d) {k:Nat} {p:Pl} (hp:(places d)[k]?=some p) (h2:p.2.2.2.1=false) {n:Int} (hn:ZbA d n):Q6 a (conn d p.1 p.2.1 n):=by
 obtain ⟨hl,⟨n1,n2,n3,n4,n5,n6⟩,hi,hq,ho⟩:=h
 have hf:Few d:=Q6.few (a:=a) ⟨hl,⟨n1,n2,n3,n4,n5,n6⟩,hi,hq,ho⟩
 refine ⟨hl,⟨by rw [Y8];exact n1,by rw [Vw];exact n2,by rw [ZfX];exact n3,by rw [Zpy];exact n4,by rw [Vw];exact n5,by rw [Zpn];exact n6⟩,fun y hy=>?_,fun y hy=>?_,?_⟩
 ·obtain ⟨i,hi2⟩:=List.getElem?_of_mem hy
  obtain ⟨x,hx,_,hc,hlen,_,hm⟩:=Zfr hi2
  obtain ⟨r1,⟨c,r2,r3⟩,r4⟩:=hi x (List.mem_of_getElem? hx)
  refine ⟨by rw [hc];exact r1,⟨c,by rw [hc];exact r2,by rw [hlen];exact r3⟩,fun m hm2=>?_⟩
  unfold ZbA
  rw [Vw]
  rcases hm m hm2 with q | q
  ·exact r4 m q
  ·rw [q];exact hn
 ·obtain ⟨i,hi2⟩:=List.getElem?_of_mem hy
  obtain ⟨x,hx,_,hd,hm⟩:=ZoX hi2
  obtain ⟨r1,r2⟩:=hq x (List.mem_of_getElem? hx)
  refine ⟨by rw [hd];exact r1,?_⟩
  unfold ZbA
  rw [Vw]
  rcases hm with q | q
  ·rw [q];exact r2
  ·rw [q];exact hn
 ·unfold Zf1
  rw [Vw,ZsA hf hp h2]
  exact ho
theorem Zqi {a:Zl} {d:Za} (h:Q6 a d):∀ v∈ZlR d,ZbA d v:=by
 have hf:=h.few
 intro v hv
 unfold ZlR at hv
 rcases List.mem_append.1 hv with hv | hv
 ·obtain ⟨x,hx,rfl⟩:=List.mem_map.1 hv
  have:=hf.nets x hx
  exact ((h.2.2.1 x hx).last h.1 (by omega)).2
 ·obtain ⟨q,hq,rfl⟩:=List.mem_map.1 hv
  exact (h.2.2.2.1 q (List.mem_filter.1 hq).1).2
theorem Zkp {d:Za}:Zf1 d↔∀ v:Nat,v<(Za.ZQ d).length→(ZlR d).countP (fun x=>decide (x=(v:Int)))=1:=by
 unfold Zf1
 constructor
 ·intro h v hv
  have:=h _ (List.mem_of_getElem? (Zhk (s:=ZlR d) hv))
  omega
 ·intro h x hx
  obtain ⟨j,hj⟩:=List.getElem?_of_mem hx
  have hlt:=(List.getElem?_eq_some_iff.1 hj).1
  rw [Zgf] at hlt
  rw [Zhk hlt] at hj
  injection hj with hj
  have:=h j hlt
  omega
theorem ZpF {l:List Int} {v:Int} (h:∀ x∈l,x≠v):l.countP (fun x=>decide (x=v))=0:=by
 rw [List.countP_eq_zero]
 intro x hx
 simp [h x hx]
theorem ZvO {a:Zl} {d:Za} (h:Q6 a d) {s:List UInt8} {c m:Int} {cell:Zh} (hs:ZaZ s=true) (h1:s ∉ ZaY d) (h2:s ∉ Za.ZQ d) (h13:(Za.Instances d).length≤13) (h29:(Za.ZQ d).length≤29)
  (hc0:0≤c) (hc1:c≤((Zl.Cells a).length:Int)-1) (hc:(Zl.Cells a)[c.toNat]?=some cell) (hp:(Zh.Yy cell).length=2) (hm:ZbA d m) :
  Q6 a (addInst d (s,c,[m,((Za.ZQ d).length:Int)],()) s):=by
 have hdn:=Zqi h
 obtain ⟨hl,⟨n1,n2,n3,n4,n5,n6⟩,hi,hq,ho⟩:=h
 have eI:Za.Instances (addInst d (s,c,[m,((Za.ZQ d).length:Int)],()) s)=Za.Instances d++[(s,c,[m,((Za.ZQ d).length:Int)],())]:=rfl
 have eN:Za.ZQ (addInst d (s,c,[m,((Za.ZQ d).length:Int)],()) s)=Za.ZQ d++[s]:=rfl
 have eP:Za.Z5 (addInst d (s,c,[m,((Za.ZQ d).length:Int)],()) s)=Za.Z5 d:=rfl
 have hnet:∀ n,ZbA d n→ZbA (addInst d (s,c,[m,((Za.ZQ d).length:Int)],()) s) n:=fun n hn=>by
  unfold ZbA at *
  rw [eN,List.length_append,List.length_singleton]
  omega
 refine ⟨hl,⟨by rw [eI,List.length_append,List.length_singleton];omega,by rw [eN,List.length_append,List.length_singleton];omega,n3,?_,by rw [eN];exact n5.snoc hs h2,n6⟩,fun y hy=>?_,fun y hy=>?_,?_⟩
 ·have:ZaY (addInst d (s,c,[m,((Za.ZQ d).length:Int)],()) s)=ZaY d++[s]:=by
   unfold ZaY
   rw [eI,List.map_append]
   rfl
  rw [this]
  exact n4.snoc hs h1
 ·rw [eI] at hy
  rcases List.mem_append.1 hy with hy | hy
  ·obtain ⟨r1,r2,r4⟩:=hi y hy
   exact ⟨r1,r2,fun n hn=>hnet n (r4 n hn)⟩
  ·rw [List.mem_singleton] at hy
   subst hy
   refine ⟨⟨hc0,hc1⟩,⟨cell,hc,by rw [hp];rfl⟩,fun n hn=>?_⟩
   have hn:n∈[m,((Za.ZQ d).length:Int)]:=hn
   rcases List.mem_cons.1 hn with hn | hn
   ·rw [hn];exact hnet m hm
   ·rw [List.mem_singleton] at hn
    subst hn
    unfold ZbA
    rw [eN,List.length_append,List.length_singleton]
    omega
 ·obtain ⟨r1,r2⟩:=hq y hy
  exact ⟨r1,hnet _ r2⟩
 ·rw [Zkp] at ho ⊢
  intro v hv
  rw [eN,List.length_append,List.length_singleton] at hv
  have e:ZlR (addInst d (s,c,[m,((Za.ZQ d).length:Int)],()) s)=(Za.Instances d).map XZ++[((Za.ZQ d).length:Int)]++((Za.Z5 d).filter (fun p=>decide (ZU.Dir p=1))).map ZU.Net:=by
   unfold ZlR
   rw [eI,eP,List.map_append]
   rfl
  have e2:ZlR d=(Za.Instances d).map XZ++((Za.Z5 d).filter (fun p=>decide (ZU.Dir p=1))).map ZU.Net:=rfl
  rw [e,List.countP_append,List.countP_append,List.countP_singleton]
  by_cases hvl:v<(Za.ZQ d).length
  ·have:=ho v hvl
   rw [e2,List.countP_append] at this
   rw [if_neg (by simp;omega)]
   omega
  ·have h0:=ZpF (l:=ZlR d) (v:=(v:Int)) (fun x hx=>by have:=(hdn x hx).2;omega)
   rw [e2,List.countP_append] at h0
   rw [if_pos (by simp;omega)]
   omega
theorem Zve {d:Za} (hf:Few d) {p:Pl} (hp:p∈places d) (h2:p.2.2.2.1=true):p.2.2.1∈ZlR d:=by
 obtain ⟨k,hk⟩:=List.getElem?_of_mem hp
 unfold ZlR
 rcases Zaz hk with ⟨i,j,x,m,hx,hn,e,rfl⟩ | ⟨j,q,hq,e,rfl⟩
 ·have hl:=hf.nets x (List.mem_of_getElem? hx)
  have hj:=(List.getElem?_eq_some_iff.1 hn).1
  have h3:decide ((j:Int)=IntKind.i64.wrap (((Zd.ZQ x).length:Int)-1))=true:=h2
  rw [V8 (by omega) (by omega)] at h3
  have h4:(j:Int)=((Zd.ZQ x).length:Int)-1:=of_decide_eq_true h3
  refine List.mem_append_left _ (List.mem_map.2 ⟨x,List.mem_of_getElem? hx,?_⟩)
  have h5:=Zhr (x:=x) (by omega)
  rw [show (Zd.ZQ x).length-1=j by omega,hn] at h5
  injection h5 with h5
  exact h5.symm
 ·have h3:decide (ZU.Dir q=1)=true:=h2
  exact List.mem_append_right _ (List.mem_map.2 ⟨q,List.mem_filter.2 ⟨List.mem_of_getElem? hq,h3⟩,rfl⟩)
theorem ZvB {a:Zl} {d:Za} (h:Q6 a d) {x:Zd} (hn:0<(Za.Instances d).length) (hx:(Za.Instances d)[(Za.Instances d).length-1]?=some x) (hlx:XZ x=((Za.ZQ d).length:Int)-1)
  (hs:∀ p∈places d,p.2.2.2.1=false→p.2.2.1≠((Za.ZQ d).length:Int)-1):Q6 a (X3 d):=by
 have hdn:=Zqi h
 have hf:=h.few
 have hcut:=Zp7 hn hx
 obtain ⟨hl,⟨n1,n2,n3,n4,n5,n6⟩,hi,hq,ho⟩:=h
 have hpos:1≤(Za.ZQ d).length:=by
  have:=hdn (XZ x) (List.mem_append_left _ (List.mem_map.2 ⟨x,List.mem_of_getElem? hx,rfl⟩))
  unfold ZbA at this
  omega
 have eN:(Za.ZQ (X3 d)).length=(Za.ZQ d).length-1:=by
  show (List.take ((Za.ZQ d).length-1) (Za.ZQ d)).length=_
  rw [List.length_take];omega
 have eD:ZlR d=(Za.Instances (X3 d)).map XZ++[XZ x]++((Za.Z5 d).filter (fun p=>decide (ZU.Dir p=1))).map ZU.Net:=by
  unfold ZlR
  rw [hcut,List.map_append]
  rfl
 have eC:ZlR (X3 d)=(Za.Instances (X3 d)).map XZ++((Za.Z5 d).filter (fun p=>decide (ZU.Dir p=1))).map ZU.Net:=rfl
 have hcnt:∀ v:Int,(ZlR d).countP (fun y=>decide (y=v))=(ZlR (X3 d)).countP (fun y=>decide (y=v))+if XZ x=v then 1 else 0:=fun v=>by
  rw [eD,eC,List.countP_append,List.countP_append,List.countP_append,List.countP_singleton]
  by_cases q:XZ x=v
  ·simp only [q,decide_true,if_true];omega
  ·simp only [q,decide_false,if_false];simp
 rw [Zkp] at ho
 have none:∀ p∈places (X3 d),p.2.2.1≠((Za.ZQ d).length:Int)-1:=by
  intro p hp e
  cases h2:p.2.2.2.1 with
  | false=>exact hs p (Zjh hn hp) h2 e
  | true =>
   have h3:=Zve hf.cut hp h2
   have h4:=ho ((Za.ZQ d).length-1) (by omega)
   rw [hcnt,if_pos (by omega)] at h4
   have h5:0<(ZlR (X3 d)).countP (fun y=>decide (y=(((Za.ZQ d).length-1:Nat):Int))):=List.countP_pos_iff.2 ⟨_,h3,by simp;omega⟩
   omega
 have netC:∀ n,ZbA d n→n≠((Za.ZQ d).length:Int)-1→ZbA (X3 d) n:=fun n h1 h2=>by
  unfold ZbA at *
  rw [eN]
  omega
 have eI:∀ i y,(Za.Instances (X3 d))[i]?=some y→(Za.Instances d)[i]?=some y:=fun i y hy=>by
  rw [hcut,List.getElem?_append_left (List.getElem?_eq_some_iff.1 hy).1]
  exact hy
 refine ⟨hl,⟨by show (List.take _ (Za.Instances d)).length≤14;rw [List.length_take];omega,by rw [eN];omega,n3,?_,n5.take _,n6⟩,fun y hy=>?_,fun y hy=>?_,?_⟩
 ·have:ZaY (X3 d)=(ZaY d).take ((Za.Instances d).length-1):=by
   unfold ZaY
   show List.map Zd.Name (List.take _ (Za.Instances d))=_
   rw [List.map_take]
  rw [this]
  exact n4.take _
 ·obtain ⟨i,hy2⟩:=List.getElem?_of_mem hy
  obtain ⟨r1,r2,r4⟩:=hi y (List.mem_of_getElem? (eI i y hy2))
  refine ⟨r1,r2,fun n hn2=>netC n (r4 n hn2) ?_⟩
  obtain ⟨j,hj⟩:=List.getElem?_of_mem hn2
  exact none _ (List.mem_of_getElem? (Zfy hy2 hj))
 ·obtain ⟨r1,r2⟩:=hq y hy
  obtain ⟨j,hj⟩:=List.getElem?_of_mem hy
  exact ⟨r1,netC _ r2 (none _ (List.mem_of_getElem? (Zor (d:=X3 d) hj)))⟩
 ·rw [Zkp]
  intro v hv
  rw [eN] at hv
  have:=ho v (by omega)
  rw [hcnt,if_neg (by omega)] at this
  exact this
end Go.Proofs.YtehkanadahncgaaGreatDoor
/-
  Plain laws: the blocks that edits make are valid.
-/
namespace Go.Proofs.YtehkanadahncgaaGreatDoor
set_option linter.unusedVariables false
set_option linter.unusedSimpArgs false
open Go Go.Sx
theorem Zmg {l:List Int} (h:l.length≤1048576):sm (.sl (.int .i64)) l:=⟨by omega,fun _ _=>trivial⟩
theorem ZlH {s:List UInt8} {c:Int} {l:List Int} (h1:sm .str s) (h2:l.length≤1048576):sm Zv (s,c,l,()):=⟨h1,trivial,Zmg h2,trivial⟩
theorem ZoK {a b c d:List Int} (h1:a.length≤1048576) (h2:b.length≤1048576) (h3:c.length≤1048576) (h4:d.length≤1048576):sm YJ (a,b,c,d,()):=⟨Zmg h1,Zmg h2,Zmg h3,Zmg h4,trivial⟩
theorem Zfq {a:List Zd} {b:List (List UInt8)} {c:List ZU} (h1:sm (.sl Zv) a) (h2:sm (.sl .str) b) (h3:sm (.sl Xk) c):sm Z8 (a,b,c,()):=⟨h1,h2,h3,trivial⟩
theorem Ze0 {a:Zl} {b:Za} {c:List Zn} (h1:sm Z0 a) (h2:sm Z8 b) (h3:sm (.sl YJ) c):sm Yr (a,b,c,()):=⟨h1,h2,h3,trivial⟩
theorem Zpv {d:Za} (h:sm Z8 d) (a b n:Int):sm Z8 (conn d a b n):=by
 obtain ⟨h1,h2,h3⟩:=Zcj h
 have e:conn d a b n=(Za.Instances (conn d a b n),Za.ZQ (conn d a b n),Za.Z5 (conn d a b n),()):=rfl
 rw [e]
 refine Zfq ⟨by rw [Y8];exact h1.1,fun y hy=>?_⟩ (by rw [Vw];exact h3) ⟨by rw [ZfX];exact h2.1,fun y hy=>?_⟩
 ·obtain ⟨i,hi⟩:=List.getElem?_of_mem hy
  obtain ⟨x,hx,hn,_,hl,_⟩:=Zfr hi
  obtain ⟨s1,s2⟩:=ZjL (ZaR h1 hx)
  have s3:=Zm s2
  exact ZlH (s:=Zd.Name y) (c:=Zd.Cell y) (l:=Zd.ZQ y) (by rw [hn];exact s1) (by rw [hl];exact s3)
 ·obtain ⟨i,hi⟩:=List.getElem?_of_mem hy
  obtain ⟨x,hx,hn,_⟩:=ZoX hi
  have s1:=ZuB (ZaR h2 hx)
  have:sm .str (ZU.Name y):=by rw [hn];exact s1
  exact ⟨this,trivial,trivial,trivial⟩
theorem ZvN {d:Za} (h:sm Z8 d) (hf:(Za.Instances d).length≤100) (hn:(Za.ZQ d).length≤100) {x:Zd} {s:List UInt8} (hx:sm Zv x) (hs:sm .str s):sm Z8 (addInst d x s):=by
 obtain ⟨h1,h2,h3⟩:=Zcj h
 refine Zfq ⟨by rw [List.length_append,List.length_singleton];omega,fun y hy=>?_⟩ ⟨by rw [List.length_append,List.length_singleton];omega,fun y hy=>?_⟩ h2
 ·rcases List.mem_append.1 hy with hy | hy
  ·exact h1.2 y hy
  ·rw [List.mem_singleton] at hy;rw [hy];exact hx
 ·rcases List.mem_append.1 hy with hy | hy
  ·exact h3.2 y hy
  ·rw [List.mem_singleton] at hy;rw [hy];exact hs
theorem Zps {t:Ty} {l:List t.den} (h:sm (.sl t) l) (m:Nat):sm (.sl t) (l.take m):=by
 have:=h.1
 exact ⟨by rw [List.length_take];omega,fun x hx=>h.2 x (List.mem_of_mem_take hx)⟩
theorem ZvU {d:Za} (h:sm Z8 d):sm Z8 (X3 d):=by
 obtain ⟨h1,h2,h3⟩:=Zcj h
 exact Zfq (Zps h1 _) (Zps h3 _) h2
theorem Zoz {pl:List Pl} {ws:List Zn} {nd:Nat→Int} (h:sm (.sl YJ) ws) (hp:pl.length≤1048576):sm (.sl YJ) (wired pl ws nd):=by
 have h1:=h.1
 refine ⟨by rw [ZfS];exact h1,fun y hy=>?_⟩
 obtain ⟨v,hv⟩:=List.getElem?_of_mem hy
 rw [Zdt] at hv
 cases hx:ws[v]? with
 | none=>rw [hx] at hv;cases hv
 | some w =>
  rw [hx] at hv
  injection hv with hv
  subst hv
  obtain ⟨a1,a2,a3,a4⟩:=Zh8 (ZaR h hx)
  have:=Zfi (v:Int) pl 0
  exact ZoK (Zm a1) (Zm a2) (Zm a3) (by rw [List.length_map];omega)
theorem Zua {b:Zb} (h:ZbI b) {k:Nat} {p:Pl} (hp:(places (Zb.Design b))[k]?=some p) (h2:p.2.2.2.1=false) {n v:Int} (hn:ZbA (Zb.Design b) n) (hv:∀ w,(Zb.Zz b)[n.toNat]?=some w→0≤v∧v≤((Zn.Parent w).length:Int)-1):ZbI (moved b k p n v):=by
 have hpl:places (mvD b p n)=(places (Zb.Design b)).set k (p.1,p.2.1,n,p.2.2.2.1,()):=VO hp n
 obtain ⟨b1,b2,b3⟩:=Za4 h.sm
 have hD:Q6 (Zb.Library b) (mvD b p n):=ZpM h.ok.1 hp h2 hn
 refine ⟨⟨hD,?_,?_⟩,?_⟩
 ·show (wired (places (mvD b p n)) (Zb.Zz b) (mvN b k v)).length=(Za.ZQ (conn (Zb.Design b) p.1 p.2.1 n)).length
  rw [ZfS,Vw];exact h.ok.2.1
 ·exact ZnN (fun v w hw=>⟨_,h.ok.2.2 v w hw⟩) (by rw [hpl];exact (ZlB h).set n v hv)
 ·have hl:=Vf hD.few
  exact Ze0 b1 (Zpv b2 _ _ _) (Zoz b3 (by omega))
theorem ZsM {c c2:Zh} (h1:sm YL c) (h2:sm YL c2) (h:Vs c c2=some true):(Zh.Yy c2).length=(Zh.Yy c).length:=by
 unfold Vs at h
 by_cases q:Zh.Kind c=Zh.Kind c2
 ·by_cases q2:((Zh.Yy c).length:Int)=((Zh.Yy c2).length:Int)
  ·omega
  ·exfalso;revert h;simp [q,q2]
 ·exfalso;revert h;simp [q]
theorem Znd {d:Za} {i:Nat} {x:Zd} (hx:(Za.Instances d)[i]?=some x) (c:Int):places ((Za.Instances d).set i (Zd.Name x,c,Zd.ZQ x,()),Za.ZQ d,Za.Z5 d,())=places d:=by
 show cat QB 0 ((Za.Instances d).set i (Zd.Name x,c,Zd.ZQ x,()))++cat ZeH 0 (Za.Z5 d)=_
 unfold places
 congr 1
 have hlt:=(List.getElem?_eq_some_iff.1 hx).1
 have e1:=Ze2 QB hx
 have hx2:((Za.Instances d).set i (Zd.Name x,c,Zd.ZQ x,()))[i]?=some (Zd.Name x,c,Zd.ZQ x,()):=List.getElem?_set_self hlt
 have e2:=Ze2 QB hx2
 rw [e1,e2,List.take_set_of_le (Nat.le_refl _),List.drop_set_of_lt (by omega)]
 rfl
theorem Zrb {b:Zb} (h:ZbI b) {i:Int} (h0:0≤i) {x:Zd} (hx:(Za.Instances (Zb.Design b))[i.toNat]?=some x) {c:Int} {c1 c2:Zh} (hc1:(Zl.Cells (Zb.Library b))[(Zd.Cell x).toNat]?=some c1) (hc2:(Zl.Cells (Zb.Library b))[c.toNat]?=some c2)
  (hc:0≤c∧c≤((Zl.Cells (Zb.Library b)).length:Int)-1) (ha:(Zh.Yy c2).length=(Zh.Yy c1).length):ZbI (swapped b i c):=by
 obtain ⟨b1,b2,b3⟩:=Za4 h.sm
 obtain ⟨s1,s2,s3⟩:=Zcj b2
 obtain ⟨⟨hl,⟨n1,n2,n3,n4,n5,n6⟩,hi,hq,ho⟩,hwn,hw⟩:=h.ok
 have e:swapped b i c=(Zb.Library b,((Za.Instances (Zb.Design b)).set i.toNat (Zd.Name x,c,Zd.ZQ x,()),Za.ZQ (Zb.Design b),Za.Z5 (Zb.Design b),()),Zb.Zz b,()):=by
  unfold swapped
  rw [hx]
 have hpl:=Znd hx c
 rw [e]
 have hmem:∀ y∈(Za.Instances (Zb.Design b)).set i.toNat (Zd.Name x,c,Zd.ZQ x,()),y∈Za.Instances (Zb.Design b)∨y=(Zd.Name x,c,Zd.ZQ x,()):=fun y hy=>List.mem_or_eq_of_mem_set hy
 refine ⟨⟨⟨hl,⟨by show (List.set _ _ _).length≤14;rw [List.length_set];exact n1,n2,n3,?_,n5,n6⟩,fun y hy=>?_,hq,?_⟩,hwn,?_⟩,?_⟩
 ·have:ZaY ((Za.Instances (Zb.Design b)).set i.toNat (Zd.Name x,c,Zd.ZQ x,()),Za.ZQ (Zb.Design b),Za.Z5 (Zb.Design b),())=ZaY (Zb.Design b):=by
   show List.map Zd.Name (List.set _ _ _)=_
   rw [List.map_set]
   exact ZbH (by rw [List.getElem?_map,hx];rfl)
  exact this▸n4
 ·rcases hmem y hy with hy | hy
  ·exact hi y hy
  ·subst hy
   obtain ⟨r1,⟨c',r2,r3⟩,r4⟩:=hi x (List.mem_of_getElem? hx)
   have r2:(Zl.Cells (Zb.Library b))[(Zd.Cell x).toNat]?=some c':=r2
   rw [hc1] at r2
   injection r2 with r2
   subst r2
   exact ⟨hc,⟨c2,hc2,by rw [ha];exact r3⟩,r4⟩
 ·unfold Zf1
  have:ZlR ((Za.Instances (Zb.Design b)).set i.toNat (Zd.Name x,c,Zd.ZQ x,()),Za.ZQ (Zb.Design b),Za.Z5 (Zb.Design b),())=ZlR (Zb.Design b):=by
   unfold ZlR
   congr 1
   show List.map XZ (List.set _ _ _)=_
   rw [List.map_set]
   exact ZbH (by rw [List.getElem?_map,hx];rfl)
  rw [this]
  exact ho
 ·intro k w hk
  have:=hw k w hk
  unfold sinks at *
  have hpl2:places (Zb.Design ((Zb.Library b,((Za.Instances (Zb.Design b)).set i.toNat (Zd.Name x,c,Zd.ZQ x,()),Za.ZQ (Zb.Design b),Za.Z5 (Zb.Design b),()),Zb.Zz b,()):Zb))=places (Zb.Design b):=hpl
  rw [hpl2]
  exact this
 ·refine Ze0 b1 (Zfq ⟨by rw [List.length_set];exact s1.1,fun y hy=>?_⟩ s3 s2) b3
  rcases hmem y hy with hy | hy
  ·exact s1.2 y hy
  ·subst hy
   obtain ⟨q1,q2⟩:=ZjL (ZaR s1 hx)
   exact ZlH q1 (Zm q2)
theorem Zs4 {b:Zb} (h:ZbI b) {n:Int} (hn:ZbA (Zb.Design b) n) {w:Zn} (hw:Zb3 w ((sinks (Zb.Design b) n).length:Int)) (hs:sm YJ w):ZbI (ZuA b n w):=by
 obtain ⟨b1,b2,b3⟩:=Za4 h.sm
 obtain ⟨hD,hwn,hW⟩:=h.ok
 refine ⟨⟨hD,by show (List.set _ _ _).length=_;rw [List.length_set];exact hwn,?_⟩,Ze0 b1 b2 ⟨by rw [List.length_set];exact b3.1,fun y hy=>?_⟩⟩
 ·intro k y hk
  have hk:((Zb.Zz b).set n.toNat w)[k]?=some y:=hk
  rw [List.getElem?_set] at hk
  split at hk
  ·rename_i e
   split at hk
   ·injection hk with hk
    subst hk
    rw [←e]
    show Zb3 w ((sinks (Zb.Design b) ((n.toNat:Nat):Int)).length:Int)
    rw [show ((n.toNat:Nat):Int)=n by have:=hn.1;omega]
    exact hw
   ·cases hk
  ·exact hW k y hk
 ·rcases List.mem_or_eq_of_mem_set hy with hy | hy
  ·exact b3.2 y hy
  ·rw [hy];exact hs
theorem ZjQ {b:Zb} (h:ZbI b) {e:Zf} {k:Nat} {p q:Pl} (hp:(places (Zb.Design b))[k]?=some p):(places (addInst (Zb.Design b) (Zny b e q) (Zf.Name e)))[ZqD b k]?=some p:=by
 unfold ZqD
 by_cases hk:k<YB (Zb.Design b)
 ·rw [if_pos hk,ZoM hk];exact hp
 ·rw [if_neg hk]
  have:=Zpb (d:=Zb.Design b) (x:=Zny b e q) (s:=Zf.Name e) (k:=k) (by omega)
  rw [show (Zd.ZQ (Zny b e q)).length=2 from rfl] at this
  rw [this];exact hp
theorem Zuc {d:Za} {k:Nat} {p:Pl} (hp:(places d)[k]?=some p) (h1:p.1<((Za.Instances d).length:Int)∨True):p.1<((Za.Instances d).length:Int):=by
 rcases Zaz hp with ⟨i,j,x,m,hx,hn,e,rfl⟩ | ⟨j,q,hq,e,rfl⟩
 ·have:=(List.getElem?_eq_some_iff.1 hx).1
  show (i:Int)<_
  omega
 ·show (-1:Int)<_
  omega
theorem ZgW {b:Zb} {e:Zf} {k:Nat} {p:Pl} (hp:(places (Zb.Design b))[k]?=some p):ZoR b e p=conn (addInst (Zb.Design b) (Zny b e p) (Zf.Name e)) p.1 p.2.1 ((Za.ZQ (Zb.Design b)).length:Int) :=
 (Zuh (Zuc hp (.inr trivial))).symm
theorem ZuU:Zb3 Zq0 0:=by
 refine ⟨⟨by decide,by decide⟩,rfl,rfl,rfl,fun k x hk=>?_,?_,?_,?_⟩
 ·match k,hk with
  | 0,hk =>
   injection hk with hk
   exact ⟨fun _=>⟨hk.symm,rfl⟩,fun h=>by omega⟩
  | k+1,hk=>cases hk
 ·intro x hx
  rw [show Zn.Res Zq0=[0] from rfl,List.mem_singleton] at hx
  omega
 ·intro x hx
  rw [show Zn.Cap Zq0=[0] from rfl,List.mem_singleton] at hx
  omega
 ·intro x hx
  cases hx
theorem ZtY {b:Zb} (h:ZbI b) {e:Zf} {k:Nat} {p:Pl} (hp:(places (Zb.Design b))[k]?=some p) (h2:p.2.2.2.1=false) :
  Fits (places (addInst (Zb.Design b) (Zny b e p) (Zf.Name e))) (Zb.Zz b++[Zq0]) (Zpq (Y3 b) (YB (Zb.Design b)) (Y3 b k)):=by
 have hf:=h.ok.1.few
 have hold:=ZlB h
 have hws:∀ (m:Int) (w:Zn),ZbA (Zb.Design b) m→(Zb.Zz b++[Zq0])[m.toNat]?=some w→(Zb.Zz b)[m.toNat]?=some w:=fun m w hm hw=>by
  rw [List.getElem?_append_left (by rw [h.ok.2.1];unfold ZbA at hm;omega)] at hw
  exact hw
 intro j q w hq hd hw
 unfold Zpq
 have hil:YB (Zb.Design b)≤YB (Zb.Design b):=Nat.le_refl _
 by_cases c1:j<YB (Zb.Design b)
 ·rw [if_pos c1]
  rw [ZoM c1] at hq
  exact hold j q w hq hd (hws _ _ (ZaJ h.ok.1 (List.mem_of_getElem? hq)) hw)
 ·rw [if_neg c1]
  by_cases c2:j=YB (Zb.Design b)
  ·rw [if_pos c2]
   have:=add_mid (d:=Zb.Design b) (x:=Zny b e p) (s:=Zf.Name e) (j:=0) (by show 0<2;omega)
   rw [Nat.add_zero,←c2,hq] at this
   have e1:q=ZdS (Za.Instances (Zb.Design b)).length (Zny b e p) 0 p.2.2.1:=by
    have h3:=ZfO (i:=(Za.Instances (Zb.Design b)).length) (x:=Zny b e p) (j:=0) (n:=p.2.2.1) rfl
    rw [←this] at h3
    injection h3
   have e2:q.2.2.1=p.2.2.1:=by rw [e1];rfl
   rw [e2] at hw
   exact hold k p w hp h2 (hws _ _ (ZaJ h.ok.1 (List.mem_of_getElem? hp)) hw)
  ·rw [if_neg c2]
   by_cases c3:j=YB (Zb.Design b)+1
   ·exfalso
    have:=add_mid (d:=Zb.Design b) (x:=Zny b e p) (s:=Zf.Name e) (j:=1) (by show 1<2;omega)
    rw [←c3,hq] at this
    have h3:=ZfO (i:=(Za.Instances (Zb.Design b)).length) (x:=Zny b e p) (j:=1) (n:=((Za.ZQ (Zb.Design b)).length:Int)) rfl
    rw [←this] at h3
    injection h3 with h3
    rw [h3] at hd
    revert hd
    show ¬(decide ((1:Int)=IntKind.i64.wrap ((2:Int)-1))=false)
    rw [V8 (by omega) (by omega)]
    simp
   ·rw [if_neg c3]
    have:=Zpb (d:=Zb.Design b) (x:=Zny b e p) (s:=Zf.Name e) (k:=j-2) (by omega)
    rw [show (Zd.ZQ (Zny b e p)).length=2 from rfl,show j-2+2=j by omega,hq] at this
    exact hold (j-2) q w this.symm hd (hws _ _ (ZaJ h.ok.1 (List.mem_of_getElem? this.symm)) hw)
theorem Znr {α:Type} {p:α→Bool} {l:List α} (h:Zcz p l<0):∀ x∈l,p x=false:=by
 intro x hx
 cases hp:p x with
 | false=>rfl
 | true =>
  have:=Zcc.2 (List.any_eq_true.2 ⟨x,hx,hp⟩)
  omega
theorem ZiV {b:Zb} {e:Zf} (h:Zqb b e) (k2:Zf.Kind e=2) (hs:sm .str (Zf.Name e)) {p:Pl} (hp:Ze3 b e p):ZbI (buffered b e (Zf.Place e).toNat p):=by
 have hB:=h.blk
 obtain ⟨b1,b2,b3⟩:=Za4 hB.sm
 obtain ⟨l1,l2⟩:=h.lim k2
 obtain ⟨p',c,hp',hd,hc,hk,hpins,hname,hni,hnn⟩:=h.poss.2.1 k2
 have:p'=p:=by
  have:=hp'.2
  rw [hp.2] at this
  injection this with this
  exact this.symm
 subst this
 obtain ⟨_,hcr⟩:=h.range.1 (.inr k2)
 have hc2:(Zl.Cells (Zb.Library b))[(Zf.Cell e).toNat]?=some c:=by
  have:=hc
  unfold atI at this
  rw [if_pos hcr.1] at this
  exact this
 have hA:Q6 (Zb.Library b) (addInst (Zb.Design b) (Zny b e p') (Zf.Name e)):=by
  refine ZvO hB.ok.1 hname (fun hm=>?_) (fun hm=>?_) l1 l2 hcr.1 hcr.2 hc2 hpins (ZaJ hB.ok.1 hp.mem)
  ·obtain ⟨x,hx,e1⟩:=List.mem_map.1 hm
   have:=Znr hni x hx
   simp [e1] at this
  ·have:=Znr hnn _ hm
   simp at this
 have hN:ZbA (addInst (Zb.Design b) (Zny b e p') (Zf.Name e)) ((Za.ZQ (Zb.Design b)).length:Int):=by
  unfold ZbA
  show 0≤_∧_≤((Za.ZQ (Zb.Design b)++[Zf.Name e]).length:Int)-1
  rw [List.length_append,List.length_singleton]
  omega
 have hpk:=ZjQ (e:=e) (q:=p') hB hp.2
 have hD:Q6 (Zb.Library b) (ZoR b e p'):=by
  rw [ZgW hp.2]
  exact ZpM hA hpk hd hN
 have hl:=Vf hD.few
 have hwn:=hB.ok.2.1
 have hpl:places (ZoR b e p')=(places (addInst (Zb.Design b) (Zny b e p') (Zf.Name e))).set (ZqD b (Zf.Place e).toNat) (p'.1,p'.2.1,((Za.ZQ (Zb.Design b)).length:Int),p'.2.2.2.1,()):=by
  rw [ZgW hp.2]
  exact VO hpk _
 refine ⟨⟨hD,?_,?_⟩,?_⟩
 ·show (wired (places (ZoR b e p')) (Zb.Zz b++[Zq0]) (ZwE b (Zf.Place e).toNat)).length=(Za.ZQ (conn (Zb.Design b) p'.1 p'.2.1 _)++[Zf.Name e]).length
  rw [ZfS,List.length_append,List.length_append,Vw,hwn]
  rfl
 ·refine ZnN (pl:=places (ZoR b e p')) (fun v w hw=>?_) ?_
  ·by_cases hv:v<(Zb.Zz b).length
   ·rw [List.getElem?_append_left hv] at hw
    exact ⟨_,hB.ok.2.2 v w hw⟩
   ·rw [List.getElem?_append_right (by omega)] at hw
    have:=List.mem_of_getElem? hw
    rw [List.mem_singleton] at this
    rw [this]
    exact ⟨_,ZuU⟩
  ·rw [hpl]
   refine (ZtY hB hp.2 hd).set _ 0 (fun w hw=>?_)
   rw [Int.toNat_natCast,←hwn,List.getElem?_append_right (Nat.le_refl _),Nat.sub_self] at hw
   injection hw with hw
   rw [←hw]
   exact ⟨Int.le_refl _,by show (0:Int)≤(1:Int)-1;omega⟩
 ·refine Ze0 b1 ?_ (Zoz ⟨?_,fun y hy=>?_⟩ (by omega))
  ·exact ZvN (Zpv b2 _ _ _) (by rw [Y8];omega) (by rw [Vw];omega) (ZlH hs (by show 2≤_;omega)) hs
  ·rw [List.length_append,List.length_singleton]
   have:=hB.ok.1.2.1.2.1
   omega
  ·rcases List.mem_append.1 hy with hy | hy
   ·exact b3.2 y hy
   ·rw [List.mem_singleton] at hy
    rw [hy]
    exact ZoK (by decide) (by decide) (by decide) (by decide)
end Go.Proofs.YtehkanadahncgaaGreatDoor
/-
  Plain laws: a block with a buffer less is valid.
-/
namespace Go.Proofs.YtehkanadahncgaaGreatDoor
set_option linter.unusedVariables false
set_option linter.unusedSimpArgs false
open Go Go.Sx
theorem Fits.cut {d:Za} {ws:List Zn} {nd:Nat→Int} (h:Fits (places d) ws nd) {x:Zd} (hn:0<(Za.Instances d).length) (hx:(Za.Instances d)[(Za.Instances d).length-1]?=some x) (h2:(Zd.ZQ x).length=2) (m:Nat) :
  Fits (places (X3 d)) (ws.take m) (ZoL nd (YB (X3 d))):=by
 intro k p w hp hd hw
 rw [List.getElem?_take] at hw
 split at hw
 ·unfold ZoL
  have hpc:=Zkg (s:=[]) hn hx
  by_cases c:k<YB (X3 d)
  ·rw [if_pos c]
   exact h k p w (by rw [hpc,ZoM c];exact hp) hd hw
  ·rw [if_neg c]
   have:=Zpb (d:=X3 d) (x:=x) (s:=[]) (k:=k) (by omega)
   rw [h2] at this
   exact h (k+2) p w (by rw [hpc,this];exact hp) hd hw
 ·cases hw
theorem Zem (d:Za):(places d).length=YB d+(Za.Z5 d).length:=by
 unfold places YB
 rw [List.length_append,Zo0]
theorem ZjW {d:Za} {k:Nat} {p:Pl} (hp:(places d)[k]?=some p) (n:Int):YB (conn d p.1 p.2.1 n)=YB d:=by
 have h1:=Zem d
 have h2:=Zem (conn d p.1 p.2.1 n)
 rw [VO hp,List.length_set,ZfX] at h2
 omega
theorem Zjs {b:Zb} (h:ZbI b) (hL:Zjl b) {k:Nat} {p:Pl} {m:Int} (hs:sinks (Zb.Design b) (((Za.ZQ (Zb.Design b)).length:Int)-1)=[(k:Int)]) (hp:(places (Zb.Design b))[k]?=some p) (hpi:p.1≠((Za.Instances (Zb.Design b)).length:Int)-1)
  (hm:∀ x,(Za.Instances (Zb.Design b))[(Za.Instances (Zb.Design b)).length-1]?=some x→atI (Zd.ZQ x) 0=some m):ZbI (ZjN b k p m):=by
 obtain ⟨b1,b2,b3⟩:=Za4 h.sm
 obtain ⟨k',p',hs',hp',hpn,hpd,hpi'⟩:=hL.sink h
 have ek:k=k':=by
  rw [hs] at hs'
  injection hs' with hs' _
  omega
 subst ek
 rw [hp] at hp'
 injection hp' with hp'
 subst hp'
 obtain ⟨x,c,w,m',hn,hx,hc,hk1,hk2,hl2,hm',hl,hne,hnm,hw,hs1,hs2,hp1,hc0⟩:=hL
 have em:m'=m:=by
  have:=hm x hx
  rw [hm'] at this
  injection this
 subst em
 have hD:=h.ok.1
 have hwn:=h.ok.2.1
 have hm0:(Zd.ZQ x)[0]?=some m':=hm'
 have hl1:(Zd.ZQ x)[1]?=some (((Za.ZQ (Zb.Design b)).length:Int)-1):=hl
 have hmn:=(hD.2.2.1 x (List.mem_of_getElem? hx)).2.2 m' (List.mem_of_getElem? hm0)
 have hlx:XZ x=((Za.ZQ (Zb.Design b)).length:Int)-1:=by
  have:=Zhr (x:=x) (by omega)
  rw [hl2,show 2-1=1 from rfl,hl1] at this
  injection this with this
  exact this.symm
 have hC:Q6 (Zb.Library b) (conn (Zb.Design b) p.1 p.2.1 m'):=ZpM hD hp hpd hmn
 have hn2:0<(Za.Instances (conn (Zb.Design b) p.1 p.2.1 m')).length:=by rw [Y8];exact hn
 have hx2:(Za.Instances (conn (Zb.Design b) p.1 p.2.1 m'))[(Za.Instances (conn (Zb.Design b) p.1 p.2.1 m')).length-1]?=some x:=by
  have hy:(Za.Instances (conn (Zb.Design b) p.1 p.2.1 m'))[(Za.Instances (conn (Zb.Design b) p.1 p.2.1 m')).length-1]?=some ((Za.Instances (conn (Zb.Design b) p.1 p.2.1 m'))[(Za.Instances (conn (Zb.Design b) p.1 p.2.1 m')).length-1]'(by omega)):=List.getElem?_eq_getElem _
  generalize (Za.Instances (conn (Zb.Design b) p.1 p.2.1 m'))[(Za.Instances (conn (Zb.Design b) p.1 p.2.1 m')).length-1]'(by omega)=y at hy
  obtain ⟨x',hx',_,_,_,he,_⟩:=Zfr hy
  rw [Y8,hx] at hx'
  injection hx' with hx'
  rw [hy,hx',he (by rw [Y8];omega)]
 have hsn:∀ q∈places (conn (Zb.Design b) p.1 p.2.1 m'),q.2.2.2.1=false→q.2.2.1≠((Za.ZQ (conn (Zb.Design b) p.1 p.2.1 m')).length:Int)-1:=by
  intro q hq hd e
  rw [Vw] at e
  rw [VO hp] at hq
  obtain ⟨j,hj⟩:=List.getElem?_of_mem hq
  rw [List.getElem?_set] at hj
  split at hj
  ·split at hj
   ·injection hj with hj
    subst hj
    exact hne e
   ·cases hj
  ·rename_i hjk
   have h3:=Zjw hj e hd
   have h4:(sinks (Zb.Design b) (((Za.ZQ (Zb.Design b)).length:Int)-1))[nth (places (Zb.Design b)) (((Za.ZQ (Zb.Design b)).length:Int)-1) j]?=some (j:Int):=h3
   rw [hs] at h4
   have h5:=List.mem_of_getElem? h4
   rw [List.mem_singleton] at h5
   exact absurd (by omega) hjk
 have hU:Q6 (Zb.Library b) (unD b p m'):=ZvB hC hn2 hx2 (by rw [Vw];exact hlx) hsn
 have hins:YB (unD b p m')=YB (Zb.Design b)-2:=by
  have h1:=ZgL hn2 hx2 hl2
  have h2:=ZjW hp m'
  unfold unD
  omega
 have hpl:=Vf hU.few
 refine ⟨⟨hU,?_,?_⟩,?_⟩
 ·show (wired (places (unD b p m')) ((Zb.Zz b).take ((Zb.Zz b).length-1)) (unN b k)).length=((Za.ZQ (conn (Zb.Design b) p.1 p.2.1 m')).take ((Za.ZQ (conn (Zb.Design b) p.1 p.2.1 m')).length-1)).length
  rw [ZfS,List.length_take,List.length_take,Vw,hwn]
 ·refine ZnN (pl:=places (unD b p m')) (fun v w hw=>?_) ?_
  ·rw [List.getElem?_take] at hw
   split at hw
   ·exact ⟨_,h.ok.2.2 v w hw⟩
   ·cases hw
  ·have h1:Fits (places (conn (Zb.Design b) p.1 p.2.1 m')) (Zb.Zz b) (mvN b k (Y3 b (YB (Zb.Design b)-2))):=by
    rw [VO hp]
    refine (ZlB h).set m' _ (fun w' hw'=>?_)
    have h5:=Zfy hx hm0
    rw [Nat.add_zero,Zno hn hx hl2] at h5
    refine ZlB h _ _ w' h5 ?_ hw'
    show decide ((0:Int)=IntKind.i64.wrap (((Zd.ZQ x).length:Int)-1))=false
    rw [hl2,V8 (by omega) (by omega)]
    decide
   have h2:=h1.cut hn2 hx2 hl2 ((Zb.Zz b).length-1)
   have h3:YB (X3 (conn (Zb.Design b) p.1 p.2.1 m'))=YB (Zb.Design b)-2:=hins
   rw [h3] at h2
   exact h2
 ·exact Ze0 b1 (ZvU (Zpv b2 _ _ _)) (Zoz (Zps b3 _) (by omega))
end Go.Proofs.YtehkanadahncgaaGreatDoor
/-
  Plain laws: the reference's own copies; places connected, sinks attached (reference); edits applied.
-/
namespace Go.Proofs.YtehkanadahncgaaGreatDoor
set_option linter.unusedVariables false
set_option linter.unusedSimpArgs false
open Go Go.Sx
theorem Zlf (t:Zr) (ht:sm Yf t):Zd9 t=some t:=by
 have e1:=Zdv (Zr.Zfk t) (Zm (t:=.int .i64) ht.1)
 have e2:=Zdv (Zr.Loads t) (Zm (t:=.int .i64) ht.2.1)
 have e3:=Zdv (Zr.Values t) (Zm (t:=.int .i64) ht.2.2.1)
 unfold Zd9
 rw [e1,e2,e3]
 rfl
theorem ZfQ (l:List Zr) (hl:sm (.sl Yf) l):Vo l=some l:=by
 have h1:=Zm hl
 unfold Vo
 have:=YF (l:=l) (fun k=>(l.take k,(k:Int),())) (step:=fun v=>Xz l v.1 v.2.1) (good:=l) (fun k x hx hk=>by
  have hg:((l.take k).length+[x].length)*72≤140737488355328:=by rw [List.length_take,List.length_singleton];omega
  simp only [Xz,show (k:Int)<(l.length:Int) by omega,if_true,Zu,hx,Option.bind_some,Zlf x (ZaR hl hx),Zi hg,Zax (show k≤1048576 by omega)]
  rw [Yz hx]) (by
  simp only [Xz,Int.lt_irrefl,if_false,List.take_length])
 simpa using this
theorem ZlV (c:Zh) (hs:sm YL c):Zet c=some c:=by
 have p1:sm (.sl V9) (Zh.Yy c):=hs.2.2.1
 have p2:sm (.sl Zaw) (Zh.ZaS c):=hs.2.2.2.1
 have p3:sm (.sl (.int .i64)) (Zh.Truth c):=hs.2.2.2.2.1
 have l1:=Zm p1
 have l2:=Zm p2
 have l3:=Zm p3
 unfold Zet
 rw [Zi (by rw [List.length_nil];omega),Zdv _ l3,Option.bind_some]
 have:=YF (l:=Zh.ZaS c) (fun k=>((k:Int),(Zh.ZaS c).take k,())) (step:=fun v=>Js c (Zh.Truth c) v.1 v.2.1) (good:=c) (fun k x hx hk=>by
  obtain ⟨q1,q2⟩:=Ztd (ZaR p2 hx)
  have hg:∀ y:ZM,(((Zh.ZaS c).take k).length+[y].length)*80≤140737488355328:=fun y=>by rw [List.length_take,List.length_singleton];omega
  simp only [Js,show (k:Int)<((Zh.ZaS c).length:Int) by omega,if_true,Zu,hx,Option.bind_some,ZfQ _ q1,ZfQ _ q2,Zi (hg _),Zax (show k≤1048576 by omega)]
  rw [Yz hx]) (by
  simp only [Js,Int.lt_irrefl,if_false,List.take_length]
  rfl)
 simpa using this
theorem Zjo (a:Zl) (ha:sm Z0 a):VE a=some a:=by
 have hc:=Zm6 ha
 have h1:=Zm hc
 unfold VE
 have:=YF (l:=Zl.Cells a) (fun k=>((k:Int),(Zl.Cells a).take k,())) (step:=fun v=>Xm a v.1 v.2.1) (good:=a) (fun k x hx hk=>by
  have hg:(((Zl.Cells a).take k).length+[x].length)*112≤140737488355328:=by rw [List.length_take,List.length_singleton];omega
  simp only [Xm,show (k:Int)<((Zl.Cells a).length:Int) by omega,if_true,Zu,hx,Option.bind_some,ZlV x (ZaR hc hx),Zi hg,Zax (show k≤1048576 by omega)]
  rw [Yz hx]) (by
  simp only [Xm,Int.lt_irrefl,if_false,List.take_length])
 simpa using this
theorem Zkk (d:Za) (hd:sm Z8 d):Zei d=some d:=by
 obtain ⟨s1,s2,s3⟩:=Zcj hd
 have l1:=Zm s1
 have l2:=Zm s2
 have l3:=Zm s3
 unfold Zei
 rw [Zi (by rw [List.length_nil];omega),Zi (by rw [List.length_nil];omega)]
 have:=YF (l:=Za.Instances d) (fun k=>((k:Int),(Za.Instances d).take k,())) (step:=fun v=>Jv d v.1 v.2.1) (good:=d) (fun k x hx hk=>by
  have hx2:=Zdv (Zd.ZQ x) (Zm (ZjL (ZaR s1 hx)).2)
  have hg:∀ y:Zd,(((Za.Instances d).take k).length+[y].length)*48≤140737488355328:=fun y=>by rw [List.length_take,List.length_singleton];omega
  simp only [Jv,show (k:Int)<((Za.Instances d).length:Int) by omega,if_true,Zu,hx,Option.bind_some,hx2,Zi (hg _),Zax (show k≤1048576 by omega)]
  rw [Yz hx]) (by
  simp only [Jv,Int.lt_irrefl,if_false,List.take_length]
  rfl)
 simpa using this
theorem Zp2 (b:Zb) (hb:sm Yr b):ZdY b=some b:=by
 obtain ⟨b1,b2,b3⟩:=Za4 hb
 have h1:=Zm b3
 unfold ZdY
 rw [Zjo _ b1,Option.bind_some,Zkk _ b2,Option.bind_some]
 have:=YF (l:=Zb.Zz b) (fun k=>((k:Int),(Zb.Zz b).take k,())) (step:=fun v=>Jq b (Zb.Library b) (Zb.Design b) v.1 v.2.1) (good:=b) (fun k x hx hk=>by
  have hg:(((Zb.Zz b).take k).length+[x].length)*96≤140737488355328:=by rw [List.length_take,List.length_singleton];omega
  simp only [Jq,show (k:Int)<((Zb.Zz b).length:Int) by omega,if_true,Zu,hx,Option.bind_some,ZgJ x (ZaR b3 hx),Zi hg,Zax (show k≤1048576 by omega)]
  rw [Yz hx]) (by
  simp only [Jq,Int.lt_irrefl,if_false,List.take_length])
 simpa using this
theorem Zfn {d:Za} {k:Nat} {p:Pl} (hp:(places d)[k]?=some p) (n:Int):Vz d p n=some (conn d p.1 p.2.1 n):=by
 unfold Vz conn
 rcases Zaz hp with ⟨i,j,x,m,hx,hn,e,rfl⟩ | ⟨j,q,hq,e,rfl⟩
 ·have c:¬((i:Int)<0):=by omega
  simp only [ZdS,Ya.instance,Ya.pin,if_neg c,Zu,hx,Option.bind_some,Int.toNat_natCast]
  have hn2:x.2.2.1[j]?=some m:=hn
  rw [hn2]
  rfl
 ·have c:((-1:Int)<0):=by omega
  simp only [Ya.instance,Ya.pin,if_pos c,Zu,hq,Option.bind_some,Int.toNat_natCast]
  rfl
def Zsz (pl:List Pl) (ws:List Zn) (nd:Nat→Int) (k:Nat):List Zn:=cat (fun v w=>[if v<k then Zep w ((cat (Za5 (v:Int)) 0 pl).map (fun k=>nd k.toNat)) else w]) 0 ws
theorem Zhm (pl:List Pl) (ws:List Zn) (nd:Nat→Int) (k v:Nat):(Zsz pl ws nd k)[v]?=(ws[v]?).map (fun w=>if v<k then Zep w ((cat (Za5 (v:Int)) 0 pl).map (fun k=>nd k.toNat)) else w):=by
 unfold Zsz
 rw [ZbJ,Nat.zero_add]
theorem ZnQ (pl:List Pl) (ws:List Zn) (nd:Nat→Int) (k:Nat):(Zsz pl ws nd k).length=ws.length:=ZaA _ _
theorem ZrY (pl:List Pl) (ws:List Zn) (nd:Nat→Int):Zsz pl ws nd 0=ws:=by
 apply List.ext_getElem?
 intro v
 rw [Zhm]
 simp
theorem Zt0 (pl:List Pl) (ws:List Zn) (nd:Nat→Int):Zsz pl ws nd ws.length=wired pl ws nd:=by
 apply List.ext_getElem?
 intro v
 rw [Zhm,Zdt]
 cases hv:ws[v]? with
 | none=>rfl
 | some w =>
  have:=(List.getElem?_eq_some_iff.1 hv).1
  simp only [Option.map_some,if_pos this]
theorem Zsd {pl:List Pl} {ws:List Zn} {nd:Nat→Int} {k:Nat} {w:Zn} (hw:ws[k]?=some w):(Zsz pl ws nd k)[k]?=some w∧(Zsz pl ws nd k).set k (Zep w ((cat (Za5 (k:Int)) 0 pl).map (fun k=>nd k.toNat)))=Zsz pl ws nd (k+1):=by
 constructor
 ·rw [Zhm,hw];simp
 ·apply List.ext_getElem?
  intro v
  rw [List.getElem?_set,ZnQ]
  split
  ·rename_i e
   subst e
   rw [if_pos (List.getElem?_eq_some_iff.1 hw).1,Zhm,hw,Option.map_some,if_pos (by omega)]
  ·rw [Zhm,Zhm]
   congr 1
   funext w'
   by_cases h:v<k
   ·rw [if_pos h,if_pos (by omega)]
   ·rw [if_neg h,if_neg (by omega)]
theorem ZfK {b:Zb} {nodes:List Int} (hf:Few (Zb.Design b)) (hl:nodes.length=(places (Zb.Design b)).length) (hw:(Zb.Zz b).length≤1048576) :
  XY b nodes=some (Zb.Library b,Zb.Design b,wired (places (Zb.Design b)) (Zb.Zz b) (Zl9 nodes),()):=by
 have hpl:=Vf hf
 unfold XY
 have:=YF (l:=Zb.Zz b) (fun k=>((k:Int),Zsz (places (Zb.Design b)) (Zb.Zz b) (Zl9 nodes) k,())) (step:=fun v=>QL b nodes v.1 v.2.1) (good:=(Zb.Library b,Zb.Design b,wired (places (Zb.Design b)) (Zb.Zz b) (Zl9 nodes),())) (fun k w hk hlt=>by
  obtain ⟨a1,a2⟩:=Zsd (nd:=Zl9 nodes) (pl:=places (Zb.Design b)) hk
  have hlc:(sinks (Zb.Design b) (k:Int)).length≤(places (Zb.Design b)).length:=Zfi (k:Int) (places (Zb.Design b)) 0
  simp only [QL]
  rw [if_pos (show (k:Int)<(((Zsz (places (Zb.Design b)) (Zb.Zz b) (Zl9 nodes) k).length:Nat):Int) by rw [ZnQ];omega),Zac _ _ hf,Option.bind_some]
  refine YF (l:=sinks (Zb.Design b) (k:Int)) (fun i=>(((sinks (Zb.Design b) (k:Int)).take i).map (fun x=>Zl9 nodes x.toNat),(i:Int),())) (fun i x hx hi=>?_) ?_
  ·obtain ⟨j,p,hp,ex,hn,h2,hnth⟩:=Zn4 (pl:=places (Zb.Design b)) hx
   have hj:=(List.getElem?_eq_some_iff.1 hp).1
   have hnj:nodes[j]?=some (Zl9 nodes j):=by
    unfold Zl9
    rw [List.getElem?_eq_getElem (by omega)]
    rfl
   simp only [VY,show (i:Int)<((sinks (Zb.Design b) (k:Int)).length:Int) by omega,if_true,Zu,hx,Option.bind_some]
   have et:=Yz hx
   subst ex
   rw [Zu,hnj,Option.bind_some,Zi (by rw [List.length_map,List.length_take,List.length_singleton];omega),Zax (show i≤1048576 by omega),et,List.map_append]
   rfl
  ·simp only [VY,Int.lt_irrefl,if_false,Zu,a1,Option.bind_some,Zax (show k≤1048576 by omega),Int.toNat_natCast,List.take_length]
   rw [←a2]
   rfl) (by
  simp only [QL]
  rw [if_neg (show ¬(((Zb.Zz b).length:Nat):Int)<(((Zsz (places (Zb.Design b)) (Zb.Zz b) (Zl9 nodes) (Zb.Zz b).length).length:Nat):Int) by rw [ZnQ];omega),Zt0])
 rw [ZrY] at this
 exact this
theorem Zku (b:Zb):Zl9 (ZaT b)=Y3 b:=by
 funext k
 unfold Zl9
 by_cases hk:k<(places (Zb.Design b)).length
 ·rw [ZgI hk];rfl
 ·rw [List.getElem?_eq_none (by rw [ZaG];omega)]
  unfold Y3
  rw [List.getElem?_eq_none (by omega)]
  rfl
theorem Zo7 {b:Zb} (h:ZbI b) {k:Nat} {p:Pl} (hp:(places (Zb.Design b))[k]?=some p) (h2:p.2.2.2.1=false) {n v:Int} (hn:ZbA (Zb.Design b) n) :
  Xf (Zb.Library b,conn (Zb.Design b) p.1 p.2.1 n,Zb.Zz b,()) (ZkM Key (.int .i64) (Za2 (places (Zb.Design b)) (Y3 b) (places (Zb.Design b)).length) (ZqL p) v)=some (moved b k p n v):=by
 have hM:=((Zhi (Zb.Design b) (Y3 b)).put hp v).set hp n
 rw [←VO hp n] at hM
 have hwl:(Zb.Zz b).length≤1048576:=Zm (Za4 h.sm).2.2
 have hn1:n<((Zb.Zz b).length:Int):=by rw [h.ok.2.1];have:=hn.2;omega
 exact Ze1 (b:=(Zb.Library b,conn (Zb.Design b) p.1 p.2.1 n,Zb.Zz b,())) (h.ok.1.few.conn p.1 p.2.1 n) hM (by
  show Zie (places (conn (Zb.Design b) p.1 p.2.1 n)) (Zb.Zz b).length
  rw [VO hp]
  refine Zie.set (fun q hq hd=>?_) hn.1 hn1
  have:=ZaJ h.ok.1 hq
  rw [h.ok.2.1]
  exact ⟨this.1,by have:=this.2;omega⟩) hwl
theorem Zo5 {b:Zb} (h:ZbI b) {k:Nat} {p:Pl} (hp:(places (Zb.Design b))[k]?=some p) (n v:Int) :
  XY (Zb.Library b,conn (Zb.Design b) p.1 p.2.1 n,Zb.Zz b,()) ((ZaT b).set k v)=some (moved b k p n v):=by
 have hk:=(List.getElem?_eq_some_iff.1 hp).1
 have hf:=h.ok.1.few.conn p.1 p.2.1 n
 have e:=ZfK (b:=(Zb.Library b,conn (Zb.Design b) p.1 p.2.1 n,Zb.Zz b,())) (nodes:=(ZaT b).set k v) hf (by
  show ((ZaT b).set k v).length=(places (conn (Zb.Design b) p.1 p.2.1 n)).length
  rw [List.length_set,ZaG,VO hp,List.length_set]) (Zm (Za4 h.sm).2.2)
 rw [e]
 have e2:Zl9 ((ZaT b).set k v)=mvN b k v:=by
  funext j
  rw [Zon (by rw [ZaG];exact hk),Zku]
  rfl
 rw [e2]
 rfl
end Go.Proofs.YtehkanadahncgaaGreatDoor
/-
  Plain laws: a buffer put in, a buffer taken away: the program and the reference; edits applied.
-/
namespace Go.Proofs.YtehkanadahncgaaGreatDoor
set_option linter.unusedVariables false
set_option linter.unusedSimpArgs false
open Go Go.Sx
theorem Zsk {b:Zb} (h:ZbI b):Zie (places (Zb.Design b)) (Zb.Zz b).length:=fun q hq _=>by
 have:=ZaJ h.ok.1 hq
 rw [h.ok.2.1]
 exact ⟨this.1,by have:=this.2;omega⟩
theorem Zq3 (pl:List Pl) (ws:List Zn) (nd:Nat→Int) {w w':Zn} (h:∀ l,Zep w l=Zep w' l):wired pl (ws++[w]) nd=wired pl (ws++[w']) nd:=by
 unfold wired
 rw [Zd5,Zd5]
 simp only [cat,h]
theorem Zm5 {b:Zb} {e:Zf} (h:Zqb b e) (k2:Zf.Kind e=2) (hs:sm .str (Zf.Name e)) {p:Pl} (hp:Ze3 b e p) (hd:p.2.2.2.1=false):Jz b e=some (buffered b e (Zf.Place e).toNat p):=by
 have hB:=h.blk
 have hf:=hB.ok.1.few
 have h14:=hf.insts
 have h30:=hB.ok.1.2.1.2.1
 have hwn:=hB.ok.2.1
 have hR:=ZiV h k2 hs hp
 have hpk:=ZjQ (e:=e) (q:=p) hB hp.2
 have hM0:=Zhi (Zb.Design b) (Y3 b)
 have hv:Zhp Key (.int .i64) (Za2 (places (Zb.Design b)) (Y3 b) (places (Zb.Design b)).length) (p.1,p.2.1,())=some (Y3 b (Zf.Place e).toNat):=hM0 _ p hp.2 hd
 have hM1:=hM0.add (x:=Zny b e p) (s:=Zf.Name e) rfl (by omega) (Y3 b (Zf.Place e).toNat)
 have hM2:=(hM1.put hpk 0).set hpk ((Za.ZQ (Zb.Design b)).length:Int)
 rw [←VO hpk,←ZgW hp.2] at hM2
 have hN:=Zsk hR
 have hl:(Zb.Zz (buffered b e (Zf.Place e).toNat p)).length=(Zb.Zz b++[Zq0]).length:=ZfS _ _ _
 rw [hl] at hN
 have hC:=Ze1 (b:=(Zb.Library b,ZoR b e p,Zb.Zz b++[Zq0],())) hR.ok.1.few hM2 hN (by
  show (Zb.Zz b++[Zq0]).length≤_
  rw [List.length_append,List.length_singleton];omega)
 have hS:=ZfI (b:=(Zb.Library b,addInst (Zb.Design b) (Zny b e p) (Zf.Name e),Zb.Zz b++[Zq0],())) hpk ((Za.ZQ (Zb.Design b)).length:Int)
 have eS:conn (Zb.Design ((Zb.Library b,addInst (Zb.Design b) (Zny b e p) (Zf.Name e),Zb.Zz b++[Zq0],()):Zb)) p.1 p.2.1 ((Za.ZQ (Zb.Design b)).length:Int)=ZoR b e p:=(ZgW hp.2).symm
 rw [eS] at hS
 unfold Jz
 rw [Zfl hB,Option.bind_some,YG _ hf,Option.bind_some,hp.at,Option.bind_some,
  show YQ (Za.ZQ (Zb.Design b))=some ((Za.ZQ (Zb.Design b)).length:Int) from rfl,Option.bind_some,
  show X4 (Za.Instances (Zb.Design b))=some ((Za.Instances (Zb.Design b)).length:Int) from rfl,Option.bind_some,
  Zi (by rw [List.length_singleton];omega),Zi (by rw [List.length_singleton];omega),Zi (by rw [List.length_singleton];omega)]
 refine Eq.trans (congrArg (fun o=>Option.bind o _) hS) ?_
 rw [Option.bind_some]
 have e3:Option.getD (Zhp Zb2 (Ty.int IntKind.i64) (Za2 (places (Zb.Design b)) (Y3 b) (places (Zb.Design b)).length) (Yh.instance p,Yh.pin p,())) (0:Int)=Y3 b (Zf.Place e).toNat:=by
  have:Zhp Zb2 (Ty.int IntKind.i64) (Za2 (places (Zb.Design b)) (Y3 b) (places (Zb.Design b)).length) (Yh.instance p,Yh.pin p,())=some (Y3 b (Zf.Place e).toNat):=hv
  rw [this];rfl
 rw [e3]
 refine Eq.trans (congrArg (fun o=>Option.bind o _) hC) ?_
 rfl
theorem Zsp {b:Zb} {k:Nat} (hk:k<(places (Zb.Design b)).length) (v:Int) (hv:v=Y3 b k) :
  Zl9 (((ZaT b).take (YB (Zb.Design b))++[v,0]++(ZaT b).drop (YB (Zb.Design b))).set (ZqD b k) 0)=ZwE b k:=by
 have h2:=Zem (Zb.Design b)
 have hm:YB (Zb.Design b)≤(ZaT b).length:=by rw [ZaG];omega
 funext j
 rw [Zon (by
  rw [List.length_append,List.length_append,List.length_take,List.length_drop,ZaG]
  unfold ZqD
  simp only [List.length_cons,List.length_nil]
  split<;>omega),ZtM hm,Zku,hv]
 rfl
theorem Znf {b:Zb} {e:Zf} (h:Zqb b e) (k2:Zf.Kind e=2) (hs:sm .str (Zf.Name e)) {p:Pl} (hp:Ze3 b e p) (hd:p.2.2.2.1=false):Zbm b e=some (buffered b e (Zf.Place e).toNat p):=by
 have hB:=h.blk
 have hf:=hB.ok.1.few
 have hpl:=Vf hf
 have h14:=hf.insts
 have h8:=hf.ports
 have h30:=hB.ok.1.2.1.2.1
 have hwn:=hB.ok.2.1
 have hk:=(List.getElem?_eq_some_iff.1 hp.2).1
 have h0:=hp.1
 have h2:=Zem (Zb.Design b)
 have hR:=ZiV h k2 hs hp
 have hW:IntKind.i64.wrap (((ZaT b).length:Int)-((Za.Z5 (Zb.Design b)).length:Int))=(YB (Zb.Design b):Int):=by
  rw [ZaG,V8 (by omega) (by omega)];omega
 have hdr:List.take ((ZaT b).length-YB (Zb.Design b)) (List.drop (YB (Zb.Design b)) (ZaT b))=List.drop (YB (Zb.Design b)) (ZaT b):=List.take_of_length_le (by rw [List.length_drop];exact Nat.le_refl _)
 have hlump:ZaB 1 0=some (([-1],[0],[0],[0],()):Zn):=by
  unfold ZaB
  rw [Zi (by omega),Zi (by omega),Zi (by omega),Zi (by omega)]
  rfl
 have hln:((ZaT b).take (YB (Zb.Design b))++[Y3 b (Zf.Place e).toNat,0]++(ZaT b).drop (YB (Zb.Design b))).length=(places (Zb.Design b)).length+2:=by
  rw [List.length_append,List.length_append,List.length_take,List.length_drop,ZaG]
  simp only [List.length_cons,List.length_nil]
  omega
 have hbk:ZqD b (Zf.Place e).toNat<(places (Zb.Design b)).length+2:=by
  unfold ZqD
  split<;>omega
 have hpl2:(places (ZoR b e p)).length=(places (Zb.Design b)).length+2:=by
  have h3:=Zem (ZoR b e p)
  rw [ZgW hp.2,VO (ZjQ (e:=e) (q:=p) hB hp.2),List.length_set]
  rw [ZfT,List.length_append,List.length_append,Jb,Zo0,h2]
  unfold YB Zny
  show _+2+_=_
  omega
 have hA:=ZfK (b:=(Zb.Library b,ZoR b e p,Zb.Zz b++[([-1],[0],[0],[0],())],())) (nodes:=((ZaT b).take (YB (Zb.Design b))++[Y3 b (Zf.Place e).toNat,0]++(ZaT b).drop (YB (Zb.Design b))).set (ZqD b (Zf.Place e).toNat) 0) hR.ok.1.few (by
  show (List.set _ _ _).length=(places (ZoR b e p)).length
  rw [List.length_set,hln,hpl2]) (by
  show (Zb.Zz b++[([-1],[0],[0],[0],())]).length≤_
  rw [List.length_append,List.length_singleton];omega)
 rw [Zsp hk _ rfl] at hA
 have hA2:XY (Zb.Library b,ZoR b e p,Zb.Zz b++[([-1],[0],[0],[0],())],()) ((((ZaT b).take (YB (Zb.Design b))++[Y3 b (Zf.Place e).toNat,0]++(ZaT b).drop (YB (Zb.Design b)))).set (ZqD b (Zf.Place e).toNat) 0)=some (buffered b e (Zf.Place e).toNat p):=by
  rw [hA]
  show some (Zb.Library b,ZoR b e p,wired (places (ZoR b e p)) (Zb.Zz b++[([-1],[0],[0],[0],())]) (ZwE b (Zf.Place e).toNat),())=_
  rw [Zq3 _ _ _ (w:=([-1],[0],[0],[0],())) (w':=Zq0) (fun l=>rfl)]
  rfl
 unfold Zbm
 rw [Vh _ hf,Option.bind_some,hp.at,Option.bind_some,ZeM hB,Option.bind_some,VJ hp.1 (ZgI hk),Option.bind_some,hW]
 simp only [Int.toNat_natCast,Int.toNat_zero,Nat.sub_zero,List.drop_zero,hdr]
 have hci:(Za.Instances (conn (Zb.Design b) p.1 p.2.1 ((Zb.Zz b).length:Int))).length=(Za.Instances (Zb.Design b)).length:=Y8
 have hcn:(Za.ZQ (conn (Zb.Design b) p.1 p.2.1 ((Zb.Zz b).length:Int))).length=(Za.ZQ (Zb.Design b)).length:=by rw [Vw]
 have hl1:(List.take (YB (Zb.Design b)) (ZaT b)).length=YB (Zb.Design b):=by rw [List.length_take,ZaG];omega
 have hl2:(List.drop (YB (Zb.Design b)) (ZaT b)).length=(Za.Z5 (Zb.Design b)).length:=by rw [List.length_drop,ZaG];omega
 rw [Zi (by omega),Zi (by rw [ZaG];omega),Zdv _ (by omega),Option.bind_some,
  Zi (by rw [hl1];simp only [List.length_cons,List.length_nil];omega),Zi (by omega),Zi (by rw [List.length_append,hl1,hl2];simp only [List.length_cons,List.length_nil];omega),
  Zfn hp.2,Option.bind_some]
 have hx:∀ (i:Nat),i<(places (Zb.Design b)).length+2→∃ y,((ZaT b).take (YB (Zb.Design b))++[Y3 b (Zf.Place e).toNat,0]++(ZaT b).drop (YB (Zb.Design b)))[i]?=some y:=fun i hi=>⟨_,List.getElem?_eq_getElem (by rw [hln];exact hi)⟩
 have hD:((Za.Instances (conn (Zb.Design b) p.1 p.2.1 ((Zb.Zz b).length:Int))++[(Zf.Name e,Zf.Cell e,[Ya.net p,((Zb.Zz b).length:Int)],())],Za.ZQ (conn (Zb.Design b) p.1 p.2.1 ((Zb.Zz b).length:Int))++[Zf.Name e],(conn (Zb.Design b) p.1 p.2.1 ((Zb.Zz b).length:Int)).snd.snd):Za)=ZoR b e p:=by
  rw [hwn]
  rfl
 by_cases hc:YB (Zb.Design b)≤(Zf.Place e).toNat
 ·have hbk2:ZqD b (Zf.Place e).toNat=(Zf.Place e).toNat+2:=by unfold ZqD;rw [if_neg (by omega)]
  obtain ⟨y,hy⟩:=hx ((Zf.Place e).toNat+2) (by omega)
  rw [if_pos (by omega),V8 (n:=Zf.Place e+2) (by omega) (by omega),show Zf.Place e+2=(((Zf.Place e).toNat+2:Nat):Int) by omega,Zu,hy,Option.bind_some,
   Zi (by rw [hci,List.length_singleton];omega),Zi (by rw [hcn,List.length_singleton];omega),hlump,Option.bind_some,Zi (by rw [List.length_singleton];omega),Int.toNat_natCast,←hbk2,hD]
  refine Eq.trans (congrArg (fun o=>Option.bind o _) hA2) ?_
  rfl
 ·have hbk2:ZqD b (Zf.Place e).toNat=(Zf.Place e).toNat:=by unfold ZqD;rw [if_pos (by omega)]
  obtain ⟨y,hy⟩:=hx (Zf.Place e).toNat (by omega)
  rw [if_neg (by omega),VJ hp.1 hy,Option.bind_some,
   Zi (by rw [hci,List.length_singleton];omega),Zi (by rw [hcn,List.length_singleton];omega),hlump,Option.bind_some,Zi (by rw [List.length_singleton];omega),hD]
  rw [hbk2] at hA2
  refine Eq.trans (congrArg (fun o=>Option.bind o _) hA2) ?_
  rfl
end Go.Proofs.YtehkanadahncgaaGreatDoor
/-
  Plain laws: a buffer taken away (reference); edits applied: the program and the reference.
-/
namespace Go.Proofs.YtehkanadahncgaaGreatDoor
set_option linter.unusedVariables false
set_option linter.unusedSimpArgs false
open Go Go.Sx
theorem Zk2 {b:Zb} (h:ZbI b) (hL:Zjl b) {k:Nat} {p:Pl} {m:Int} (hs:sinks (Zb.Design b) (((Za.ZQ (Zb.Design b)).length:Int)-1)=[(k:Int)]) (hp:(places (Zb.Design b))[k]?=some p) (hpi:p.1≠((Za.Instances (Zb.Design b)).length:Int)-1)
  (hm:∀ x,(Za.Instances (Zb.Design b))[(Za.Instances (Zb.Design b)).length-1]?=some x→atI (Zd.ZQ x) 0=some m):Zbo b=some (ZjN b k p m):=by
 have hR:=Zjs h hL hs hp hpi hm
 obtain ⟨hn,x,hx,hl2⟩:=hL.two
 have hmx:=hm x hx
 have hf:=h.ok.1.few
 have hpl:=Vf hf
 have h14:=hf.insts
 have h8:=hf.ports
 have h30:=h.ok.1.2.1.2.1
 have hwn:=h.ok.2.1
 have hk:=(List.getElem?_eq_some_iff.1 hp).1
 have h2:=Zem (Zb.Design b)
 have hi2:=ZgL hn hx hl2
 have hpos:1≤(Za.ZQ (Zb.Design b)).length:=by
  have:=ZaJ h.ok.1 (List.mem_of_getElem? hp)
  unfold ZbA at this
  omega
 have hx2:atI (Za.Instances (Zb.Design b)) (((Za.Instances (Zb.Design b)).length:Int)-1)=some x:=VJ (by omega) (by rw [←hx];congr 1;omega)
 have t1:Int.toNat (((Za.Instances (Zb.Design b)).length:Int)-1)=(Za.Instances (Zb.Design b)).length-1:=by omega
 have hset:((List.set (Za.Instances (Zb.Design b)) ((Za.Instances (Zb.Design b)).length-1) x,(Zb.Design b).snd):Za)=Zb.Design b:=by rw [ZbH hx]
 have hW1:IntKind.i64.wrap (((Zb.Zz b).length:Int)-1)=(((Zb.Zz b).length-1:Nat):Int):=by rw [V8 (by omega) (by omega)];omega
 have hW2:IntKind.i64.wrap (((ZaT b).length:Int)-((Za.Z5 (Zb.Design b)).length:Int))=(YB (Zb.Design b):Int):=by rw [ZaG,V8 (by omega) (by omega)];omega
 have hW3:IntKind.i64.wrap ((YB (Zb.Design b):Int)-2)=((YB (Zb.Design b)-2:Nat):Int):=by rw [V8 (by omega) (by omega)];omega
 have hW4:IntKind.i64.wrap (((Za.Instances (Zb.Design b)).length:Int)-1)=(((Za.Instances (Zb.Design b)).length-1:Nat):Int):=by rw [V8 (by omega) (by omega)];omega
 have hsk:X7 (Zb.Design b) (((Zb.Zz b).length-1:Nat):Int)=some [(k:Int)]:=by
  rw [Zac _ _ hf,show (((Zb.Zz b).length-1:Nat):Int)=((Za.ZQ (Zb.Design b)).length:Int)-1 by omega,hs]
 have hx3:atI (Za.Instances (Zb.Design b)) (((Za.Instances (Zb.Design b)).length-1:Nat):Int)=some x:=by rw [Zu];exact hx
 have hls:(List.set (ZaT b) k (Y3 b (YB (Zb.Design b)-2))).length=(places (Zb.Design b)).length:=by rw [List.length_set,ZaG]
 have hdr:List.take ((List.set (ZaT b) k (Y3 b (YB (Zb.Design b)-2))).length-YB (Zb.Design b)) (List.drop (YB (Zb.Design b)) (List.set (ZaT b) k (Y3 b (YB (Zb.Design b)-2))))=List.drop (YB (Zb.Design b)) (List.set (ZaT b) k (Y3 b (YB (Zb.Design b)-2))):=List.take_of_length_le (by rw [List.length_drop];exact Nat.le_refl _)
 have hci:(Za.Instances (conn (Zb.Design b) p.1 p.2.1 m)).length=(Za.Instances (Zb.Design b)).length:=Y8
 have hcn:(Za.ZQ (conn (Zb.Design b) p.1 p.2.1 m)).length=(Za.ZQ (Zb.Design b)).length:=by rw [Vw]
 have hl1:(List.take (YB (Zb.Design b)-2) (List.set (ZaT b) k (Y3 b (YB (Zb.Design b)-2)))).length=YB (Zb.Design b)-2:=by rw [List.length_take,hls];omega
 have hl3:(List.drop (YB (Zb.Design b)) (List.set (ZaT b) k (Y3 b (YB (Zb.Design b)-2)))).length=(Za.Z5 (Zb.Design b)).length:=by rw [List.length_drop,hls];omega
 have hins:YB (unD b p m)=YB (Zb.Design b)-2:=by
  have hn2:0<(Za.Instances (conn (Zb.Design b) p.1 p.2.1 m)).length:=by rw [Y8];exact hn
  have hx4:(Za.Instances (conn (Zb.Design b) p.1 p.2.1 m))[(Za.Instances (conn (Zb.Design b) p.1 p.2.1 m)).length-1]?=some ((Za.Instances (conn (Zb.Design b) p.1 p.2.1 m))[(Za.Instances (conn (Zb.Design b) p.1 p.2.1 m)).length-1]'(by omega)):=List.getElem?_eq_getElem _
  generalize (Za.Instances (conn (Zb.Design b) p.1 p.2.1 m))[(Za.Instances (conn (Zb.Design b) p.1 p.2.1 m)).length-1]'(by omega)=x' at hx4
  obtain ⟨y,hy,_,_,hyl,_⟩:=Zfr hx4
  rw [Y8,hx] at hy
  injection hy with hy
  have h5:=ZgL hn2 hx4 (by rw [hyl,←hy,hl2])
  have h6:=ZjW hp m
  unfold unD
  omega
 have hup:(places (unD b p m)).length=(places (Zb.Design b)).length-2:=by
  have h5:=Zem (unD b p m)
  have h6:(Za.Z5 (unD b p m)).length=(Za.Z5 (Zb.Design b)).length:=ZfX
  omega
 have hA:=ZfK (b:=(Zb.Library b,unD b p m,(Zb.Zz b).take ((Zb.Zz b).length-1),())) (nodes:=(ZaT b |>.set k (Y3 b (YB (Zb.Design b)-2))).take (YB (Zb.Design b)-2)++(ZaT b |>.set k (Y3 b (YB (Zb.Design b)-2))).drop (YB (Zb.Design b))) hR.ok.1.few (by
  show (List.take _ _++List.drop _ _).length=(places (unD b p m)).length
  rw [List.length_append,hl1,hl3,hup];omega) (by
  show (List.take _ _).length≤_
  rw [List.length_take];omega)
 have hnd:Zl9 ((ZaT b |>.set k (Y3 b (YB (Zb.Design b)-2))).take (YB (Zb.Design b)-2)++(ZaT b |>.set k (Y3 b (YB (Zb.Design b)-2))).drop (YB (Zb.Design b)))=unN b k:=by
  funext j
  have:=Ztk (l:=(ZaT b).set k (Y3 b (YB (Zb.Design b)-2))) (m:=YB (Zb.Design b)-2) (by omega) j
  rw [show YB (Zb.Design b)-2+2=YB (Zb.Design b) by omega] at this
  rw [this]
  unfold unN
  congr 1
  funext i
  rw [Zon (by rw [ZaG];exact hk),Zku]
  rfl
 rw [hnd] at hA
 have hD:((List.take ((Za.Instances (Zb.Design b)).length-1) (Za.Instances (conn (Zb.Design b) p.1 p.2.1 m)),List.take ((Zb.Zz b).length-1) (Za.ZQ (conn (Zb.Design b) p.1 p.2.1 m)),(conn (Zb.Design b) p.1 p.2.1 m).snd.snd):Za)=unD b p m:=by
  unfold unD X3
  rw [Y8,Vw,hwn]
 unfold Zbo
 rw [ZeM h,Option.bind_some,hW1,hsk,Option.bind_some,show atI [(k:Int)] 0=some (k:Int) from rfl,Option.bind_some,hW2,hW3,Zu,ZgI (by omega),Option.bind_some,Zu,ZgI hk,Option.bind_some,hW4,hx3,Option.bind_some,
  show x.snd.snd.fst=Zd.ZQ x from rfl,hmx,Option.bind_some]
 simp only [Int.toNat_natCast,Int.toNat_zero,Nat.sub_zero,List.drop_zero]
 rw [hset,Vh _ hf,Option.bind_some,Zu,hp,Option.bind_some,Zfn hp,Option.bind_some,Zi (by omega),Zi (by rw [hls];omega),Zdv _ (by omega),Option.bind_some,
  Zi (by omega),Zi (by rw [hls];omega),Zi (by omega),hdr,Zi (by rw [hl1,hl3];omega),Zi (by omega),Zi (by rw [hci];omega),Zi (by omega),Zi (by rw [hcn];omega),Zi (by omega),hD]
 refine Eq.trans (congrArg (fun o=>Option.bind o _) hA) ?_
 rfl
theorem Zub {b:Zb} {e:Zf} (h:Zqb b e) (he:sm VT e):∃ r,ZaL e b=some r∧Zcn b e=some r∧ZbI r∧Zb.Library r=Zb.Library b:=by
 have hB:=h.blk
 have hf:=hB.ok.1.few
 have hwn:=hB.ok.2.1
 obtain ⟨b1,b2,b3⟩:=Za4 hB.sm
 unfold ZaL Zcn
 rw [ZiU _ hB.sm,Option.bind_some,Zp2 _ hB.sm,Option.bind_some,Vh _ hf,Option.bind_some]
 by_cases k1:Zf.Kind e=1
 ·obtain ⟨p,x,c,c2,hp,h0,hd,hx,hc,hc2,ha⟩:=h.poss.1 k1
  obtain ⟨_,hcr⟩:=h.range.1 (.inl k1)
  have hx2:(Za.Instances (Zb.Design b))[p.1.toNat]?=some x:=by
   unfold atI at hx
   rw [if_pos h0] at hx
   exact hx
  obtain ⟨⟨hxc,_⟩,_,_⟩:=hB.ok.1.2.2.1 x (List.mem_of_getElem? hx2)
  have hc3:(Zl.Cells (Zb.Library b))[(Zd.Cell x).toNat]?=some c:=by
   unfold atI at hc
   rw [if_pos hxc] at hc
   exact hc
  have hc4:(Zl.Cells (Zb.Library b))[(Zf.Cell e).toNat]?=some c2:=by
   unfold atI at hc2
   rw [if_pos hcr.1] at hc2
   exact hc2
  have hR:=Zrb hB h0 hx2 hc3 hc4 hcr (ZsM (ZaR (Zm6 b1) hc3) (ZaR (Zm6 b1) hc4) ha)
  rw [if_pos k1,if_pos k1,YG _ hf,Option.bind_some,hp.at,Option.bind_some]
  have e1:Yh.instance p=p.1:=rfl
  have e2:Ya.instance p=p.1:=rfl
  simp only [e1,e2,hx,Option.bind_some]
  refine ⟨swapped b p.1 (Zf.Cell e),?_,?_,hR,rfl⟩
  ·unfold swapped;rw [hx2]
  ·unfold swapped;rw [hx2]
 rw [if_neg k1,if_neg k1]
 by_cases k2:Zf.Kind e=2
 ·obtain ⟨p,c,hp,hd,_⟩:=h.poss.2.1 k2
  have hs:=(Znm he).1
  rw [if_pos k2,if_pos k2,Zm5 h k2 hs hp hd,Znf h k2 hs hp hd]
  exact ⟨_,rfl,rfl,ZiV h k2 hs hp,rfl⟩
 rw [if_neg k2,if_neg k2]
 by_cases k3:Zf.Kind e=3
 ·have hL:=h.poss.2.2.1 k3
  obtain ⟨k,p,m,v,hs,hp,hpi,hm,hv,hun⟩:=Zk4 hB hL
  have hR:=Zjs hB hL hs hp hpi hm
  rw [if_pos k3,if_pos k3,hun,Zk2 hB hL hs hp hpi hm]
  refine ⟨ZjN b k p m,?_,rfl,hR,rfl⟩
  obtain ⟨hn,x,hx,hl2⟩:=hL.two
  have hn2:0<(Za.Instances (conn (Zb.Design b) p.1 p.2.1 m)).length:=by rw [Y8];exact hn
  have hx4:(Za.Instances (conn (Zb.Design b) p.1 p.2.1 m))[(Za.Instances (conn (Zb.Design b) p.1 p.2.1 m)).length-1]?=some ((Za.Instances (conn (Zb.Design b) p.1 p.2.1 m))[(Za.Instances (conn (Zb.Design b) p.1 p.2.1 m)).length-1]'(by omega)):=List.getElem?_eq_getElem _
  generalize (Za.Instances (conn (Zb.Design b) p.1 p.2.1 m))[(Za.Instances (conn (Zb.Design b) p.1 p.2.1 m)).length-1]'(by omega)=x' at hx4
  obtain ⟨y,hy,_,_,hyl,_⟩:=Zfr hx4
  rw [Y8,hx] at hy
  injection hy with hy
  have h5:=ZgL hn2 hx4 (by rw [hyl,←hy,hl2])
  have h6:=ZjW hp m
  have hins:YB (unD b p m)=YB (Zb.Design b)-2:=by unfold unD;omega
  rw [hins,hv]
  rfl
 rw [if_neg k3,if_neg k3]
 by_cases k4:Zf.Kind e=4
 ·obtain ⟨p,hp,hd,hne⟩:=h.poss.2.2.2.1 k4
  obtain ⟨_,hn,w,hw,hnode⟩:=h.range.2.1 k4
  have hk:=(List.getElem?_eq_some_iff.1 hp.2).1
  have hR:=Zua hB hp.2 hd hn (v:=Zf.Node e) (fun w' hw'=>by rw [hw] at hw';injection hw' with hw';rw [←hw'];exact hnode)
  rw [if_pos k4,if_pos k4,Zfl hB,Option.bind_some,YG _ hf,Option.bind_some,hp.at,Option.bind_some,ZeM hB,Option.bind_some,VJ hp.1 (ZgI hk),Option.bind_some,Option.bind_some,Zfn hp.2,Option.bind_some,
   show (Yh.instance p,Yh.pin p,())=(p.1,p.2.1,()) from rfl,ZfI hp.2,Option.bind_some]
  refine ⟨moved b (Zf.Place e).toNat p (Zf.Net e) (Zf.Node e),?_,?_,hR,rfl⟩
  ·exact congrArg (fun o=>Option.bind o fun connect0=>some connect0) (Zo7 hB hp.2 hd hn (v:=Zf.Node e))
  ·exact congrArg (fun o=>Option.bind o fun l08Attach0=>some l08Attach0) (Zo5 hB hp.2 (Zf.Net e) (Zf.Node e))
 ·have k5:Zf.Kind e=5:=by have:=h.blank;unfold Blank at this;omega
  have hn:=h.range.2.2 k5
  obtain ⟨w,hw1,hw2,_⟩:=ZjS hB hn
  have hsw:=(Znm he).2
  have hR:=Zs4 hB hn (h.poss.2.2.2.2 k5) hsw
  rw [if_neg k4,if_neg k4,if_pos k5,if_pos k5,ZfD _ hsw,Option.bind_some,ZgJ _ hsw,Option.bind_some,hw2,Option.bind_some]
  exact ⟨ZuA b (Zf.Net e) (Zf.Zeq e),rfl,rfl,hR,rfl⟩
abbrev Zs9:Zb:=((([]:List Zh),()),(([]:List Zd),([]:List (List UInt8)),([]:List ZU),()),([]:List Zn),())
theorem Zrn:sm Yr Zs9:=by
 refine Ze0 ⟨⟨by simp,fun x hx=>by cases hx⟩,trivial⟩ (Zfq ⟨by simp,fun x hx=>by cases hx⟩ ⟨by simp,fun x hx=>by cases hx⟩ ⟨by simp,fun x hx=>by cases hx⟩) ⟨by simp,fun x hx=>by cases hx⟩
theorem Zmm {α:Type} {f:α→Nat} {c:Nat}:∀ {l:List α},(∀ x∈l,f x≤c)→(l.map f).sum≤c*l.length
 | [],_=>by simp
 | x::r,h=>by
  have h1:=Zmm (l:=r) fun y hy=>h y (List.mem_cons_of_mem _ hy)
  have h2:=h x (List.mem_cons_self ..)
  simp only [List.map_cons,List.sum_cons,List.length_cons,Nat.mul_add,Nat.mul_one]
  omega
theorem ZsQ {b:Zb} (h:ZbI b):cnt Yr b≤cnt Z0 (Zb.Library b)+200000000:=by
 obtain ⟨b1,b2,b3⟩:=Za4 h.sm
 have hf:=h.ok.1.few
 have h30:=h.ok.1.2.1.2.1
 have hwn:=h.ok.2.1
 have e:cnt Yr b=cnt Z0 (Zb.Library b)+(cnt (.sl Zv) (Za.Instances (Zb.Design b))+(cnt (.sl .str) (Za.ZQ (Zb.Design b))+(cnt (.sl Xk) (Za.Z5 (Zb.Design b))+0))+(cnt (.sl YJ) (Zb.Zz b)+0)):=rfl
 have i1:cnt (.sl Zv) (Za.Instances (Zb.Design b))≤7*(Za.Instances (Zb.Design b)).length:=Zmm fun x hx=>by
  have h5:=hf.nets x hx
  have e2:cnt Zv x=1+(1+(cnt (.sl (.int .i64)) (Zd.ZQ x)+0)):=rfl
  rw [e2,ZeS]
  omega
 have i2:cnt (.sl .str) (Za.ZQ (Zb.Design b))≤1*(Za.ZQ (Zb.Design b)).length:=Zmm fun x _=>Nat.le_refl _
 have i3:cnt (.sl Xk) (Za.Z5 (Zb.Design b))≤3*(Za.Z5 (Zb.Design b)).length:=Zmm fun x _=>Nat.le_refl _
 have i4:cnt (.sl YJ) (Zb.Zz b)≤4194304*(Zb.Zz b).length:=Zmm fun x hx=>by
  obtain ⟨a1,a2,a3,a4⟩:=Zh8 (b3.2 x hx)
  have s1:=Zm a1
  have s2:=Zm a2
  have s3:=Zm a3
  have s4:=Zm a4
  have e2:cnt YJ x=cnt (.sl (.int .i64)) (Zn.Parent x)+(cnt (.sl (.int .i64)) (Zn.Res x)+(cnt (.sl (.int .i64)) (Zn.Cap x)+(cnt (.sl (.int .i64)) (Zn.Zfp x)+0))):=rfl
  rw [e2,ZeS,ZeS,ZeS,ZeS]
  omega
 have:=hf.insts
 have:=hf.ports
 omega
theorem Zr1 (r:Zf) (h:sm VT r):Zdj VT r≤4194304:=by
 obtain ⟨a1,a2,a3,a4⟩:=Zh8 (Znm h).2
 have s1:=Zm a1
 have s2:=Zm a2
 have s3:=Zm a3
 have s4:=Zm a4
 have e:Zdj VT r=cnt (.sl (.int .i64)) (Zn.Parent (Zf.Zeq r))+(cnt (.sl (.int .i64)) (Zn.Res (Zf.Zeq r))+(cnt (.sl (.int .i64)) (Zn.Cap (Zf.Zeq r))+cnt (.sl (.int .i64)) (Zn.Zfp (Zf.Zeq r)))):=by
  simp only [Zdj,Nat.zero_add,Nat.add_zero]
 rw [e,ZeS,ZeS,ZeS,ZeS]
 omega
theorem ZnV:∀ (t:Ty) (d:t.den),Zdj t d≤cnt t d
 | .pair a b,d=>Nat.add_le_add (ZnV a d.1) (ZnV b d.2)
 | .sl t,l=>Nat.le_refl _
 | .int _,_=>Nat.zero_le _
 | .bool,_=>Nat.zero_le _
 | .str,_=>Nat.zero_le _
 | .unit,_=>Nat.zero_le _
 | .ptr _,_=>Nat.zero_le _
 | .fn _ _,_=>Nat.zero_le _
 | .nptr _,_=>Nat.zero_le _
 | .mp _ _,_=>Nat.zero_le _
theorem ZoS (b:Zb) (e:Zf) (hb:sm Yr b) (he:sm VT e):∃ r,Zbp b e=some r∧Zbh b e=some r∧sm Yr r.1∧(r.2=0→ZbI r.1)∧(r.2≠0→r.1=Zs9)∧cnt Yr r.1≤cnt Z0 (Zb.Library b)+200000000:=by
 obtain ⟨c,h1,h2,h3⟩:=ZpP b e hb he
 unfold Zbp Zbh
 rw [h1,h2,Option.bind_some,Option.bind_some]
 by_cases hc:c=0
 ·obtain ⟨r,r1,r2,r3,r4⟩:=Zub (h3 hc) he
  rw [if_pos hc,if_pos hc,r1,r2]
  exact ⟨_,rfl,rfl,r3.sm,fun _=>r3,fun h=>absurd rfl h,by rw [←r4];exact ZsQ r3⟩
 ·rw [if_neg hc,if_neg hc]
  exact ⟨_,rfl,rfl,Zrn,fun h=>absurd h hc,fun _=>rfl,Nat.zero_le _⟩
end Go.Proofs.YtehkanadahncgaaGreatDoor
/-
  Plain laws: the law FnExactApplyEdit.
-/
namespace Go.Proofs.YtehkanadahncgaaGreatDoor
set_option linter.unusedVariables false
set_option linter.unusedSimpArgs false
open Go Go.Sx
theorem Zf3 (a0:Zb) (a1:Zf) (b0:bnd Yr a0) (b1:bnd VT a1):Vx a0 a1=some true:=by
 unfold Vx
 obtain ⟨n,e,hle,hP⟩:=Zmx a0 1048576 (by omega) (by omega) b0
 rw [e,Option.bind_some]
 by_cases hn:n<0
 ·rw [if_pos hn]
 rw [if_neg hn]
 have hs:=hP (by omega)
 have ht:=ZkV a0 1048576 (by omega) (by omega) b0 n e (by omega)
 obtain ⟨n1,e1,hle1,hP1⟩:=Zm8 a1 n (by omega) (by omega) b1
 rw [e1,Option.bind_some]
 by_cases hn1:n1<0
 ·rw [if_pos hn1]
 rw [if_neg hn1]
 have hs1:=hP1 (by omega)
 have ht1:=ZlG a1 n (by omega) (by omega) b1 n1 e1 (by omega)
 have hcb:=ZrX a0 (by omega)
 have hce:=Zr1 a1 hs1
 obtain ⟨r,c1,c2,c3,_,_,c6⟩:=ZoS a0 a1 hs hs1
 have hlb:cnt Z0 (Zb.Library a0)≤cnt Yr a0:=Nat.le_add_right _ _
 have hcr:=ZnV Yr r.1
 have hct:=ZnV Yr a0
 obtain ⟨m0,hm0⟩:=Zky a0 1 hs (by omega) (by omega)
 have hm1:=Zk1 a1 (1+((cnt Yr a0:Nat):Int)) hs1 (by omega) (by omega)
 have hm3:=Zka r.1 1 c3 (by omega) (by omega)
 have hm4:=ZjP r.1 1 c3 (by omega) (by omega)
 have hneg:¬(1+((cnt Yr a0:Nat):Int)+((Zdj VT a1:Nat):Int))<0:=by omega
 have hneg2:¬(1+((Zdj Yr r.1:Nat):Int))<0:=by omega
 simp only [Zmt _ hs,ZmP _ hs1,Option.bind_some,c1,c2,Zg9 _ c3,Zg9 _ hs,ZmX _ hs1,if_true,hm0,hm1,hm3,hm4,hneg,hneg2,if_false]
end Go.Proofs.YtehkanadahncgaaGreatDoor
