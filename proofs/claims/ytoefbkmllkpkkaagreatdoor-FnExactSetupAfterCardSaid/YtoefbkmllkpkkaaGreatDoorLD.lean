/-
  Plain laws: marks are held.
-/
import Derived.Test.YtoefbkmllkpkkaaGreatDoorLA
import Derived.Test.YtoefbkmllkpkkaaGreatDoorLB
import Derived.Test.YtoefbkmllkpkkaaGreatDoorLC
namespace Go.Proofs.YtoefbkmllkpkkaaGreatDoor
set_option linter.unusedVariables false
set_option linter.unusedSimpArgs false
open Go Go.Sx
theorem ZkK (l:List Int):cnt (.sl (.int .i64)) l=l.length:=by
 show (l.map (cnt (.int .i64))).sum=_
 induction l with
 | nil=>rfl
 | cons x r ih=>simp only [List.map_cons,List.sum_cons,ih,List.length_cons,ZaL];omega
theorem ZyJ (a:Za) (h:tot YB a≤1048576):cnt YB a≤100+20*1048576:=by
 have hc:=ZuG YB a
 have h1:wid YB≤100:=by decide
 have h2:ZeH YB≤20:=by decide
 have:=Nat.mul_le_mul_right (tot YB a) h2
 omega
end Go.Proofs.YtoefbkmllkpkkaaGreatDoor
/-
  Plain laws: marks, exactly; marks are held. Printed by program (heldgen.py).
-/
namespace Go.Proofs.YtoefbkmllkpkkaaGreatDoor
open Go Go.Sx
set_option maxHeartbeats 3200000
set_option linter.unusedVariables false
set_option linter.unusedSimpArgs false
noncomputable def mt (k:Int):List UInt8:=(Xz k).getD []
theorem ZAL {k:Int} (h0:0≤k) (h1:k≤4611686018427387904):Xz k=some (mt k):=by
 obtain ⟨s,h⟩:=ZeX k h0 h1
 unfold mt;rw [h];rfl
theorem Zj3 {α:Type} {L:List α} {j:Nat} {z z':α} {A A' B B':Int} (hA:A=A') (hB:B=B') (hz:z=z'):(some (.inl (A,B,List.set L j z,())):Option ((Int×Int×List α×Unit) ⊕ (Int×List α)))=some (.inl (A',B',List.set L j z',())):=by rw [hA,hB,hz]
theorem Zj9 {A A' B B':Int} (hA:A=A') (hB:B=B'):(some (.inl (A,B,())):Option ((Int×Int×Unit) ⊕ Int))=some (.inl (A',B',())):=by rw [hA,hB]
theorem Qs (l:List (Int)) (k:Int) (hs:sm (.sl (.int .i64)) l) (h0:0≤k) (h1:k+((cnt (.sl (.int .i64)) l:Nat):Int)≤4611686018427387904):Yh l k=some (k+((cnt (.sl (.int .i64)) l:Nat):Int),mkL (mkA mt (.int .i64)) (cnt (.int .i64)) l k):=by
 unfold Yh
 have hl:l.length≤1048576:=by have:=hs.1;omega
 refine Zud (f:=mkA mt (.int .i64)) (c:=cnt (.int .i64)) (fun j m x L hj hj' hx hxm hm0 hm1 hj2=>?_) (fun m L=>?_) hl h0 h1
 ·have hsx:=hs.2 x hxm
  have hc:((cnt (.int .i64) x:Nat):Int)=0+1:=by rfl
  simp (disch:=omega) only [QY,if_pos hj',Zt,hx,Option.bind_some,Qc,Int.toNat_natCast,ZbA,List.length_set,List.set_set,List.getElem?_set_self]
  refine Zj3 ?_ ?_ rfl
  ·have hc:=hc;omega
  ·omega
 ·simp only [QY,Int.lt_irrefl,if_false]
theorem Zpp (a:Zr) (k:Int) (hs:sm (XZ) a) (h0:0≤k) (h1:k+((Zm5 (XZ) a:Nat):Int)≤4611686018427387904):Zf9 a k=some (k+((Zm5 (XZ) a:Nat):Int),mkT mt (XZ) a k):=by
 unfold Zf9
 have hc:((Zm5 (XZ) a:Nat):Int)=0+(((cnt (.sl (.int .i64)) a.1):Nat):Int)+(((cnt (.sl (.int .i64)) a.2.1):Nat):Int)+(((cnt (.sl (.int .i64)) a.2.2.1):Nat):Int)+(((cnt (.sl (.int .i64)) a.2.2.2.1):Nat):Int):=by simp only [Zm5];omega
 have e0:=Qs a.1 (k) hs.1 (by omega) (by omega)
 have e1:=Qs a.2.1 (k+(((cnt (.sl (.int .i64)) a.1):Nat):Int)) hs.2.1 (by omega) (by omega)
 have e2:=Qs a.2.2.1 (k+(((cnt (.sl (.int .i64)) a.1):Nat):Int)+(((cnt (.sl (.int .i64)) a.2.1):Nat):Int)) hs.2.2.1 (by omega) (by omega)
 have e3:=Qs a.2.2.2.1 (k+(((cnt (.sl (.int .i64)) a.1):Nat):Int)+(((cnt (.sl (.int .i64)) a.2.1):Nat):Int)+(((cnt (.sl (.int .i64)) a.2.2.1):Nat):Int)) hs.2.2.2.1 (by omega) (by omega)
 simp only [Option.bind_some,e0,e1,e2,e3]
 refine congrArg some (Prod.ext (by show _=k+_;rw [hc];omega) rfl)
theorem Zpv (a:Zk) (k:Int) (hs:sm (Qv) a) (h0:0≤k) (h1:k+((Zm5 (Qv) a:Nat):Int)≤4611686018427387904):Zgu a k=some (k+((Zm5 (Qv) a:Nat):Int),mkT mt (Qv) a k):=by
 unfold Zgu
 have hc:((Zm5 (Qv) a:Nat):Int)=0+(((Zm5 (XZ) a.2.2.2.2.2.2.1):Nat):Int):=by simp only [Zm5];omega
 have e6:=Zpp a.2.2.2.2.2.2.1 (k) hs.2.2.2.2.2.2.1 (by omega) (by omega)
 simp only [Option.bind_some,e6]
 refine congrArg some (Prod.ext (by show _=k+_;rw [hc,Int.zero_add]) (by simp only [mkT,Zm5,Int.natCast_zero,Int.add_zero]))
theorem ZmL (l:List (Zf)) (k:Int) (hs:sm (.sl (ZU)) l) (h0:0≤k) (h1:k+((cnt (.sl (ZU)) l:Nat):Int)≤4611686018427387904):Zd9 l k=some (k+((cnt (.sl (ZU)) l:Nat):Int),mkL (mkA mt (ZU)) (cnt (ZU)) l k):=by
 unfold Zd9
 have hl:l.length≤1048576:=by have:=hs.1;omega
 refine Zud (f:=mkA mt (ZU)) (c:=cnt (ZU)) (fun j m x L hj hj' hx hxm hm0 hm1 hj2=>?_) (fun m L=>?_) hl h0 h1
 ·have hsx:=hs.2 x hxm
  have hc:((cnt (ZU) x:Nat):Int)=0+1+1+1+1+1+1+1+1+1+1+1:=by simp only [V4,ZaL,V9,V3,ZbC];omega
  have e0:=ZAL (k:=m) (by omega) (by omega)
  have hx2:atI L (j:Int)=some x:=by rw [Zt];exact hx
  have hb:∀ {β:Type} (y:Zf) (F:Zf→Option β),(atI (List.set L j y) (j:Int)).bind F=F y:=fun y F=>by rw [ZbA hj];rfl
  simp only [Zca,if_pos hj',Int.toNat_natCast,hx2,↓hb,Option.bind_some,List.set_set,e0]
  refine Zj3 ?_ ?_ ?_
  ·have hc:=hc;simp (disch:=omega) only [Qc];omega
  ·simp (disch:=omega) only [Qc];omega
  ·simp (disch:=omega) only [Qc];rfl
 ·simp only [Zca,Int.lt_irrefl,if_false]
theorem ZfC (l:List (Zh)) (k:Int) (hs:sm (.sl (Zx)) l) (h0:0≤k) (h1:k+((cnt (.sl (Zx)) l:Nat):Int)≤4611686018427387904):JE l k=some (k+((cnt (.sl (Zx)) l:Nat):Int),mkL (mkA mt (Zx)) (cnt (Zx)) l k):=by
 unfold JE
 have hl:l.length≤1048576:=by have:=hs.1;omega
 refine Zud (f:=mkA mt (Zx)) (c:=cnt (Zx)) (fun j m x L hj hj' hx hxm hm0 hm1 hj2=>?_) (fun m L=>?_) hl h0 h1
 ·have hsx:=hs.2 x hxm
  have hc:((cnt (Zx) x:Nat):Int)=0+1+1+1+1+1+1:=by simp only [V4,ZaL,V9,V3,ZbC];omega
  have hx2:atI L (j:Int)=some x:=by rw [Zt];exact hx
  have hb:∀ {β:Type} (y:Zh) (F:Zh→Option β),(atI (List.set L j y) (j:Int)).bind F=F y:=fun y F=>by rw [ZbA hj];rfl
  simp only [Zal,if_pos hj',Int.toNat_natCast,hx2,↓hb,Option.bind_some,List.set_set]
  refine Zj3 ?_ ?_ ?_
  ·have hc:=hc;simp (disch:=omega) only [Qc];omega
  ·simp (disch:=omega) only [Qc];omega
  ·simp (disch:=omega) only [Qc]
   refine Prod.ext ?_ (Prod.ext ?_ (Prod.ext (Prod.ext ?_ (Prod.ext ?_ rfl)) (Prod.ext (Prod.ext ?_ (Prod.ext ?_ rfl)) rfl)))
   ·show m=m;omega
   ·show m+1=m+((1:Nat):Int);omega
   ·show m+1+1=m+((1:Nat):Int)+((1:Nat):Int);omega
   ·show m+1+1+1=m+((1:Nat):Int)+((1:Nat):Int)+((1:Nat):Int);omega
   ·show m+1+1+1+1=m+((1:Nat):Int)+((1:Nat):Int)+((2:Nat):Int);omega
   ·show m+1+1+1+1+1=m+((1:Nat):Int)+((1:Nat):Int)+((2:Nat):Int)+((1:Nat):Int);omega
 ·simp only [Zal,Int.lt_irrefl,if_false]
theorem Zjy (l:List (Zg)) (k:Int) (hs:sm (.sl (ZA)) l) (h0:0≤k) (h1:k+((cnt (.sl (ZA)) l:Nat):Int)≤4611686018427387904):ZaZ l k=some (k+((cnt (.sl (ZA)) l:Nat):Int),mkL (mkA mt (ZA)) (cnt (ZA)) l k):=by
 unfold ZaZ
 have hl:l.length≤1048576:=by have:=hs.1;omega
 refine Zud (f:=mkA mt (ZA)) (c:=cnt (ZA)) (fun j m x L hj hj' hx hxm hm0 hm1 hj2=>?_) (fun m L=>?_) hl h0 h1
 ·have hsx:=hs.2 x hxm
  have hc:((cnt (ZA) x:Nat):Int)=0+1+1+((cnt (.sl (.int .i64)) x.2.2.1:Nat):Int)+((cnt (.sl (.int .i64)) x.2.2.2.1:Nat):Int)+((cnt (.sl (.int .i64)) x.2.2.2.2.1:Nat):Int):=by simp only [V4,ZaL,V9,V3,ZbC];omega
  have e2:=Qs x.2.2.1 (m+1+1) hsx.2.2.1 (by omega) (by omega)
  have e3:=Qs x.2.2.2.1 (m+1+1+((cnt (.sl (.int .i64)) x.2.2.1:Nat):Int)) hsx.2.2.2.1 (by omega) (by omega)
  have e4:=Qs x.2.2.2.2.1 (m+1+1+((cnt (.sl (.int .i64)) x.2.2.1:Nat):Int)+((cnt (.sl (.int .i64)) x.2.2.2.1:Nat):Int)) hsx.2.2.2.2.1 (by omega) (by omega)
  simp (disch:=omega) only [JN,if_pos hj',Zt,hx,Option.bind_some,Qc,Int.toNat_natCast,ZbA,List.length_set,List.set_set,List.getElem?_set_self,e2,e3,e4]
  refine Zj3 ?_ ?_ rfl
  ·have hc:=hc;omega
  ·omega
 ·simp only [JN,Int.lt_irrefl,if_false]
theorem Zl0 (l:List (Zu)) (k:Int) (hs:sm (.sl (ZW)) l) (h0:0≤k) (h1:k+((cnt (.sl (ZW)) l:Nat):Int)≤4611686018427387904):Zde l k=some (k+((cnt (.sl (ZW)) l:Nat):Int),mkL (mkA mt (ZW)) (cnt (ZW)) l k):=by
 unfold Zde
 have hl:l.length≤1048576:=by have:=hs.1;omega
 refine Zud (f:=mkA mt (ZW)) (c:=cnt (ZW)) (fun j m x L hj hj' hx hxm hm0 hm1 hj2=>?_) (fun m L=>?_) hl h0 h1
 ·have hsx:=hs.2 x hxm
  have hc:((cnt (ZW) x:Nat):Int)=0+1+1+1+1+1:=by simp only [V4,ZaL,V9,V3,ZbC];omega
  have e0:=ZAL (k:=m) (by omega) (by omega)
  have hx2:atI L (j:Int)=some x:=by rw [Zt];exact hx
  have hb:∀ {β:Type} (y:Zu) (F:Zu→Option β),(atI (List.set L j y) (j:Int)).bind F=F y:=fun y F=>by rw [ZbA hj];rfl
  simp only [Zbv,if_pos hj',Int.toNat_natCast,hx2,↓hb,Option.bind_some,List.set_set,e0]
  refine Zj3 ?_ ?_ ?_
  ·have hc:=hc;simp (disch:=omega) only [Qc];omega
  ·simp (disch:=omega) only [Qc];omega
  ·simp (disch:=omega) only [Qc];rfl
 ·simp only [Zbv,Int.lt_irrefl,if_false]
theorem Zik (a:Zn) (k:Int) (hs:sm (YR) a) (h0:0≤k) (h1:k+((Zm5 (YR) a:Nat):Int)≤4611686018427387904):Zc0 a k=some (k+((Zm5 (YR) a:Nat):Int),mkT mt (YR) a k):=by
 unfold Zc0
 have hc:((Zm5 (YR) a:Nat):Int)=0+(((cnt (.sl (ZU)) a.1):Nat):Int)+(((cnt (.sl (Zx)) a.2.1):Nat):Int)+(((cnt (.sl (Zx)) a.2.2.1):Nat):Int)+(((cnt (.sl (ZA)) a.2.2.2.1):Nat):Int)+(((cnt (.sl (ZW)) a.2.2.2.2.1):Nat):Int):=by simp only [Zm5];omega
 have e0:=ZmL a.1 (k) hs.1 (by omega) (by omega)
 have e1:=ZfC a.2.1 (k+(((cnt (.sl (ZU)) a.1):Nat):Int)) hs.2.1 (by omega) (by omega)
 have e2:=ZfC a.2.2.1 (k+(((cnt (.sl (ZU)) a.1):Nat):Int)+(((cnt (.sl (Zx)) a.2.1):Nat):Int)) hs.2.2.1 (by omega) (by omega)
 have e3:=Zjy a.2.2.2.1 (k+(((cnt (.sl (ZU)) a.1):Nat):Int)+(((cnt (.sl (Zx)) a.2.1):Nat):Int)+(((cnt (.sl (Zx)) a.2.2.1):Nat):Int)) hs.2.2.2.1 (by omega) (by omega)
 have e4:=Zl0 a.2.2.2.2.1 (k+(((cnt (.sl (ZU)) a.1):Nat):Int)+(((cnt (.sl (Zx)) a.2.1):Nat):Int)+(((cnt (.sl (Zx)) a.2.2.1):Nat):Int)+(((cnt (.sl (ZA)) a.2.2.2.1):Nat):Int)) hs.2.2.2.2.1 (by omega) (by omega)
 simp only [Option.bind_some,e0,e1,e2,e3,e4]
 refine congrArg some (Prod.ext (by show _=k+_;rw [hc];omega) rfl)
theorem Zm4 (l:List (Zf)) (k:Int) (hs:sm (.sl (ZU)) l) (h0:0≤k) (h1:k+((cnt (.sl (ZU)) l:Nat):Int)≤4611686018427387904):Zey (mkL (mkA mt (ZU)) (cnt (ZU)) l k) k=some (k+((cnt (.sl (ZU)) l:Nat):Int)):=by
 unfold Zey
 have hl:l.length≤1048576:=by have:=hs.1;omega
 refine Znu (f:=mkA mt (ZU)) (c:=cnt (ZU)) (step:=fun v=>Jw (mkL (mkA mt (ZU)) (cnt (ZU)) l k) v.1 v.2.1) (fun j m x hj hx hxm hm0 hm1 hj2=>?_) (fun m=>?_) hl h0 h1
 ·have hsx:=hs.2 x hxm
  have hc:((cnt (ZU) x:Nat):Int)=0+1+1+1+1+1+1+1+1+1+1+1:=by simp only [V4,ZaL,V9,V3,ZbC];omega
  have f0:Zf.Name (mkA mt (ZU) x m)=mt (m):=rfl
  have e0:=ZAL (k:=m) (by omega) (by omega)
  have f1:Zf.Place (mkA mt (ZU) x m)=m+1:=rfl
  have f2:Zf.Y3 (mkA mt (ZU) x m)=m+1+1:=rfl
  have f3:Zf.XB (mkA mt (ZU) x m)=m+1+1+1:=rfl
  have f4:Zf.X9 (mkA mt (ZU) x m)=m+1+1+1+1:=rfl
  have f5:Zf.Source (mkA mt (ZU) x m)=m+1+1+1+1+1:=rfl
  have f6:Zf.Divide (mkA mt (ZU) x m)=m+1+1+1+1+1+1:=rfl
  have f7:Zf.ZeJ (mkA mt (ZU) x m)=decide (Int.tmod (m+1+1+1+1+1+1+1) 3=0):=rfl
  have f8:Zf.Y9 (mkA mt (ZU) x m)=m+1+1+1+1+1+1+1+1:=rfl
  have f9:Zf.Qj (mkA mt (ZU) x m)=m+1+1+1+1+1+1+1+1+1:=rfl
  have f10:Zf.JU (mkA mt (ZU) x m)=m+1+1+1+1+1+1+1+1+1+1:=rfl
  simp only [Jw]
  rw [if_pos hj,Zt,hx,Option.bind_some]
  rw [e0,Option.bind_some,if_pos f0]
  try rw [Qc (n:=m+1) (by omega) (by omega)]
  rw [if_pos f1]
  try rw [Qc (n:=m+1+1) (by omega) (by omega)]
  rw [if_pos f2]
  try rw [Qc (n:=m+1+1+1) (by omega) (by omega)]
  rw [if_pos f3]
  try rw [Qc (n:=m+1+1+1+1) (by omega) (by omega)]
  rw [if_pos f4]
  try rw [Qc (n:=m+1+1+1+1+1) (by omega) (by omega)]
  rw [if_pos f5]
  try rw [Qc (n:=m+1+1+1+1+1+1) (by omega) (by omega)]
  rw [if_pos f6]
  try rw [Qc (n:=m+1+1+1+1+1+1+1) (by omega) (by omega)]
  rw [if_pos (by rw [f7];exact beq_self_eq_true _)]
  try rw [Qc (n:=m+1+1+1+1+1+1+1+1) (by omega) (by omega)]
  rw [if_pos f8]
  try rw [Qc (n:=m+1+1+1+1+1+1+1+1+1) (by omega) (by omega)]
  rw [if_pos f9]
  try rw [Qc (n:=m+1+1+1+1+1+1+1+1+1+1) (by omega) (by omega)]
  rw [if_pos f10]
  try rw [Qc (n:=m+1+1+1+1+1+1+1+1+1+1+1) (by omega) (by omega)]
  rw [Qc (n:=(j:Int)+1) (by omega) (by omega)]
  refine Zj9 ?_ ?_
  ·have hc:=hc;omega
  ·omega
 ·simp only [Jw,Int.lt_irrefl,if_false]
theorem ZfA (l:List (Zh)) (k:Int) (hs:sm (.sl (Zx)) l) (h0:0≤k) (h1:k+((cnt (.sl (Zx)) l:Nat):Int)≤4611686018427387904):Js (mkL (mkA mt (Zx)) (cnt (Zx)) l k) k=some (k+((cnt (.sl (Zx)) l:Nat):Int)):=by
 unfold Js
 have hl:l.length≤1048576:=by have:=hs.1;omega
 refine Znu (f:=mkA mt (Zx)) (c:=cnt (Zx)) (step:=fun v=>Vb (mkL (mkA mt (Zx)) (cnt (Zx)) l k) v.1 v.2.1) (fun j m x hj hx hxm hm0 hm1 hj2=>?_) (fun m=>?_) hl h0 h1
 ·have hsx:=hs.2 x hxm
  have hc:((cnt (Zx) x:Nat):Int)=0+1+1+1+1+1+1:=by simp only [V4,ZaL,V9,V3,ZbC];omega
  have f0:Zh.Place (mkA mt (Zx) x m)=m:=rfl
  have f1:Zh.Clock (mkA mt (Zx) x m)=m+1:=rfl
  have f2:YG.Early (Zh.Delay (mkA mt (Zx) x m))=m+1+1:=rfl
  have f3:YG.Late (Zh.Delay (mkA mt (Zx) x m))=m+1+1+1:=rfl
  have f4:YG.Early (Zh.ZdY (mkA mt (Zx) x m))=m+1+1+1+1:=by show m+((1:Nat):Int)+((1:Nat):Int)+((2:Nat):Int)=_;omega
  have f5:YG.Late (Zh.ZdY (mkA mt (Zx) x m))=m+1+1+1+1+1:=by show m+((1:Nat):Int)+((1:Nat):Int)+((2:Nat):Int)+((1:Nat):Int)=_;omega
  simp (disch:=omega) only [Vb,if_pos hj,Zt,hx,Option.bind_some,Qc,eq_self,if_true,if_false,beq_self_eq_true,f0,f1,f2,f3,f4,f5]
  refine Zj9 ?_ ?_
  ·have hc:=hc;omega
  ·omega
 ·simp only [Vb,Int.lt_irrefl,if_false]
theorem Zd6 (l:List (Int)) (k:Int) (hs:sm (.sl (.int .i64)) l) (h0:0≤k) (h1:k+((cnt (.sl (.int .i64)) l:Nat):Int)≤4611686018427387904):Zax (mkL (mkA mt (.int .i64)) (cnt (.int .i64)) l k) k=some (k+((cnt (.sl (.int .i64)) l:Nat):Int)):=by
 unfold Zax
 have hl:l.length≤1048576:=by have:=hs.1;omega
 refine Znu (f:=mkA mt (.int .i64)) (c:=cnt (.int .i64)) (step:=fun v=>JL (mkL (mkA mt (.int .i64)) (cnt (.int .i64)) l k) v.1 v.2.1) (fun j m x hj hx hxm hm0 hm1 hj2=>?_) (fun m=>?_) hl h0 h1
 ·have hsx:=hs.2 x hxm
  have hc:((cnt (.int .i64) x:Nat):Int)=0+1:=by rfl
  have f0:mkA mt (.int .i64) x m=m:=rfl
  simp (disch:=omega) only [JL,if_pos hj,Zt,hx,Option.bind_some,Qc,eq_self,if_true,if_false,beq_self_eq_true,f0]
  refine Zj9 ?_ ?_
  ·have hc:=hc;omega
  ·omega
 ·simp only [JL,Int.lt_irrefl,if_false]
theorem ZjI (l:List (Zg)) (k:Int) (hs:sm (.sl (ZA)) l) (h0:0≤k) (h1:k+((cnt (.sl (ZA)) l:Nat):Int)≤4611686018427387904):Za3 (mkL (mkA mt (ZA)) (cnt (ZA)) l k) k=some (k+((cnt (.sl (ZA)) l:Nat):Int)):=by
 unfold Za3
 have hl:l.length≤1048576:=by have:=hs.1;omega
 refine Znu (f:=mkA mt (ZA)) (c:=cnt (ZA)) (step:=fun v=>QN (mkL (mkA mt (ZA)) (cnt (ZA)) l k) v.1 v.2.1) (fun j m x hj hx hxm hm0 hm1 hj2=>?_) (fun m=>?_) hl h0 h1
 ·have hsx:=hs.2 x hxm
  have hc:((cnt (ZA) x:Nat):Int)=0+1+1+((cnt (.sl (.int .i64)) x.2.2.1:Nat):Int)+((cnt (.sl (.int .i64)) x.2.2.2.1:Nat):Int)+((cnt (.sl (.int .i64)) x.2.2.2.2.1:Nat):Int):=by simp only [V4,ZaL,V9,V3,ZbC];omega
  have f0:Zg.Kind (mkA mt (ZA) x m)=m:=rfl
  have f1:Zg.Value (mkA mt (ZA) x m)=m+1:=rfl
  have f2:Zg.From (mkA mt (ZA) x m)=mkL (mkA mt (.int .i64)) (cnt (.int .i64)) x.2.2.1 (m+1+1):=rfl
  have e2:=Zd6 x.2.2.1 (m+1+1) hsx.2.2.1 (by omega) (by omega)
  have n2:¬(m+1+1+((cnt (.sl (.int .i64)) x.2.2.1:Nat):Int))<0:=by omega
  have f3:Zg.Through (mkA mt (ZA) x m)=mkL (mkA mt (.int .i64)) (cnt (.int .i64)) x.2.2.2.1 (m+1+1+((cnt (.sl (.int .i64)) x.2.2.1:Nat):Int)):=rfl
  have e3:=Zd6 x.2.2.2.1 (m+1+1+((cnt (.sl (.int .i64)) x.2.2.1:Nat):Int)) hsx.2.2.2.1 (by omega) (by omega)
  have n3:¬(m+1+1+((cnt (.sl (.int .i64)) x.2.2.1:Nat):Int)+((cnt (.sl (.int .i64)) x.2.2.2.1:Nat):Int))<0:=by omega
  have f4:Zg.To (mkA mt (ZA) x m)=mkL (mkA mt (.int .i64)) (cnt (.int .i64)) x.2.2.2.2.1 (m+1+1+((cnt (.sl (.int .i64)) x.2.2.1:Nat):Int)+((cnt (.sl (.int .i64)) x.2.2.2.1:Nat):Int)):=rfl
  have e4:=Zd6 x.2.2.2.2.1 (m+1+1+((cnt (.sl (.int .i64)) x.2.2.1:Nat):Int)+((cnt (.sl (.int .i64)) x.2.2.2.1:Nat):Int)) hsx.2.2.2.2.1 (by omega) (by omega)
  have n4:¬(m+1+1+((cnt (.sl (.int .i64)) x.2.2.1:Nat):Int)+((cnt (.sl (.int .i64)) x.2.2.2.1:Nat):Int)+((cnt (.sl (.int .i64)) x.2.2.2.2.1:Nat):Int))<0:=by omega
  simp (disch:=omega) only [QN,if_pos hj,Zt,hx,Option.bind_some,Qc,eq_self,if_true,if_false,beq_self_eq_true,f0,f1,f2,e2,n2,f3,e3,n3,f4,e4,n4]
  refine Zj9 ?_ ?_
  ·have hc:=hc;omega
  ·omega
 ·simp only [QN,Int.lt_irrefl,if_false]
theorem Zl3 (l:List (Zu)) (k:Int) (hs:sm (.sl (ZW)) l) (h0:0≤k) (h1:k+((cnt (.sl (ZW)) l:Nat):Int)≤4611686018427387904):Zdb (mkL (mkA mt (ZW)) (cnt (ZW)) l k) k=some (k+((cnt (.sl (ZW)) l:Nat):Int)):=by
 unfold Zdb
 have hl:l.length≤1048576:=by have:=hs.1;omega
 refine Znu (f:=mkA mt (ZW)) (c:=cnt (ZW)) (step:=fun v=>V7 (mkL (mkA mt (ZW)) (cnt (ZW)) l k) v.1 v.2.1) (fun j m x hj hx hxm hm0 hm1 hj2=>?_) (fun m=>?_) hl h0 h1
 ·have hsx:=hs.2 x hxm
  have hc:((cnt (ZW) x:Nat):Int)=0+1+1+1+1+1:=by simp only [V4,ZaL,V9,V3,ZbC];omega
  have f0:Zu.Name (mkA mt (ZW) x m)=mt (m):=rfl
  have e0:=ZAL (k:=m) (by omega) (by omega)
  have f1:Zu.Qh (mkA mt (ZW) x m)=m+1:=rfl
  have f2:Zu.J2 (mkA mt (ZW) x m)=m+1+1:=rfl
  have f3:Zu.Zad (mkA mt (ZW) x m)=m+1+1+1:=rfl
  have f4:Zu.Zdn (mkA mt (ZW) x m)=m+1+1+1+1:=rfl
  simp (disch:=omega) only [V7,if_pos hj,Zt,hx,Option.bind_some,Qc,eq_self,if_true,if_false,beq_self_eq_true,f0,e0,f1,f2,f3,f4]
  refine Zj9 ?_ ?_
  ·have hc:=hc;omega
  ·omega
 ·simp only [V7,Int.lt_irrefl,if_false]
theorem ZoC (a:Zn) (k:Int) (hs:sm (YR) a) (h0:0≤k) (h1:k+((Zm5 (YR) a:Nat):Int)≤4611686018427387904):Zfk (mkT mt (YR) a k) k=some (k+((Zm5 (YR) a:Nat):Int)):=by
 unfold Zfk
 have hc:((Zm5 (YR) a:Nat):Int)=0+(((cnt (.sl (ZU)) a.1):Nat):Int)+(((cnt (.sl (Zx)) a.2.1):Nat):Int)+(((cnt (.sl (Zx)) a.2.2.1):Nat):Int)+(((cnt (.sl (ZA)) a.2.2.2.1):Nat):Int)+(((cnt (.sl (ZW)) a.2.2.2.2.1):Nat):Int):=by simp only [Zm5];omega
 have f0:Zn.YS (mkT mt (YR) a k)=mkL (mkA mt (ZU)) (cnt (ZU)) a.1 (k):=by rfl
 have n0:¬(k+(((cnt (.sl (ZU)) a.1):Nat):Int))<0:=by omega
 have e0:=Zm4 a.1 (k) hs.1 (by omega) (by omega)
 have f1:Zn.Qw (mkT mt (YR) a k)=mkL (mkA mt (Zx)) (cnt (Zx)) a.2.1 (k+(((cnt (.sl (ZU)) a.1):Nat):Int)):=by rfl
 have n1:¬(k+(((cnt (.sl (ZU)) a.1):Nat):Int)+(((cnt (.sl (Zx)) a.2.1):Nat):Int))<0:=by omega
 have e1:=ZfA a.2.1 (k+(((cnt (.sl (ZU)) a.1):Nat):Int)) hs.2.1 (by omega) (by omega)
 have f2:Zn.Xu (mkT mt (YR) a k)=mkL (mkA mt (Zx)) (cnt (Zx)) a.2.2.1 (k+(((cnt (.sl (ZU)) a.1):Nat):Int)+(((cnt (.sl (Zx)) a.2.1):Nat):Int)):=by rfl
 have n2:¬(k+(((cnt (.sl (ZU)) a.1):Nat):Int)+(((cnt (.sl (Zx)) a.2.1):Nat):Int)+(((cnt (.sl (Zx)) a.2.2.1):Nat):Int))<0:=by omega
 have e2:=ZfA a.2.2.1 (k+(((cnt (.sl (ZU)) a.1):Nat):Int)+(((cnt (.sl (Zx)) a.2.1):Nat):Int)) hs.2.2.1 (by omega) (by omega)
 have f3:Zn.Exceptions (mkT mt (YR) a k)=mkL (mkA mt (ZA)) (cnt (ZA)) a.2.2.2.1 (k+(((cnt (.sl (ZU)) a.1):Nat):Int)+(((cnt (.sl (Zx)) a.2.1):Nat):Int)+(((cnt (.sl (Zx)) a.2.2.1):Nat):Int)):=by rfl
 have n3:¬(k+(((cnt (.sl (ZU)) a.1):Nat):Int)+(((cnt (.sl (Zx)) a.2.1):Nat):Int)+(((cnt (.sl (Zx)) a.2.2.1):Nat):Int)+(((cnt (.sl (ZA)) a.2.2.2.1):Nat):Int))<0:=by omega
 have e3:=ZjI a.2.2.2.1 (k+(((cnt (.sl (ZU)) a.1):Nat):Int)+(((cnt (.sl (Zx)) a.2.1):Nat):Int)+(((cnt (.sl (Zx)) a.2.2.1):Nat):Int)) hs.2.2.2.1 (by omega) (by omega)
 have f4:Zn.QJ (mkT mt (YR) a k)=mkL (mkA mt (ZW)) (cnt (ZW)) a.2.2.2.2.1 (k+(((cnt (.sl (ZU)) a.1):Nat):Int)+(((cnt (.sl (Zx)) a.2.1):Nat):Int)+(((cnt (.sl (Zx)) a.2.2.1):Nat):Int)+(((cnt (.sl (ZA)) a.2.2.2.1):Nat):Int)):=by rfl
 have n4:¬(k+(((cnt (.sl (ZU)) a.1):Nat):Int)+(((cnt (.sl (Zx)) a.2.1):Nat):Int)+(((cnt (.sl (Zx)) a.2.2.1):Nat):Int)+(((cnt (.sl (ZA)) a.2.2.2.1):Nat):Int)+(((cnt (.sl (ZW)) a.2.2.2.2.1):Nat):Int))<0:=by omega
 have e4:=Zl3 a.2.2.2.2.1 (k+(((cnt (.sl (ZU)) a.1):Nat):Int)+(((cnt (.sl (Zx)) a.2.1):Nat):Int)+(((cnt (.sl (Zx)) a.2.2.1):Nat):Int)+(((cnt (.sl (ZA)) a.2.2.2.1):Nat):Int)) hs.2.2.2.2.1 (by omega) (by omega)
 simp only [Option.bind_some,if_false,f0,n0,e0,f1,n1,e1,f2,n2,e2,f3,n3,e3,f4,n4,e4]
 refine congrArg some ?_
 omega
end Go.Proofs.YtoefbkmllkpkkaaGreatDoor
/-
  Plain laws: edits: what an edit may mention, and when it is possible.
-/
namespace Go.Proofs.YtoefbkmllkpkkaaGreatDoor
set_option linter.unusedVariables false
set_option linter.unusedSimpArgs false
open Go Go.Sx
theorem Zr3 {e:Zk} (h:sm Qv e):sm .str (Zk.Name e)∧sm XZ (Zk.Ze1 e):=⟨h.2.2.2.2.2.1,h.2.2.2.2.2.2.1⟩
def Zlr (w:Zr):Prop:=Zr.Parent w=[]∧Zr.Res w=[]∧Zr.Cap w=[]∧Zr.ZfR w=[]
theorem ZyI (w:Zr) (hw:sm XZ w):(some (Decidable.decide (IntKind.i64.wrap (IntKind.i64.wrap (IntKind.i64.wrap ((↑(List.length (Zr.Parent w)):Int)+(↑(List.length (Zr.Res w)):Int))+(↑(List.length (Zr.Cap w)):Int))+(↑(List.length (Zr.ZfR w)):Int))=(0:Int))):Option Bool)=some (tr (Zlr w)):=by
 obtain ⟨a1,a2,a3,a4⟩:=Zlq hw
 have s1:=Zo a1
 have s2:=Zo a2
 have s3:=Zo a3
 have s4:=Zo a4
 rw [Qc (n:=((Zr.Parent w).length:Int)+((Zr.Res w).length:Int)) (by omega) (by omega),Qc (n:=((Zr.Parent w).length:Int)+((Zr.Res w).length:Int)+((Zr.Cap w).length:Int)) (by omega) (by omega),Qc (by omega) (by omega)]
 refine JW ?_
 rw [decide_eq_true_eq]
 unfold Zlr
 rw [←List.length_eq_zero_iff,←List.length_eq_zero_iff,←List.length_eq_zero_iff,←List.length_eq_zero_iff]
 omega
def Blank (e:Zk):Prop :=
 (Zk.Kind e=1∧Zk.Net e=0∧Zk.Node e=0∧Zk.Name e=[]∧Zlr (Zk.Ze1 e))∨
 (Zk.Kind e=2∧Zk.Net e=0∧Zk.Node e=0∧Zlr (Zk.Ze1 e))∨
 (Zk.Kind e=3∧Zk.Place e=0∧Zk.Cell e=0∧Zk.Net e=0∧Zk.Node e=0∧Zk.Name e=[]∧Zlr (Zk.Ze1 e))∨
 (Zk.Kind e=4∧Zk.Cell e=0∧Zk.Name e=[]∧Zlr (Zk.Ze1 e))∨
 (Zk.Kind e=5∧Zk.Place e=0∧Zk.Cell e=0∧Zk.Node e=0∧Zk.Name e=[])
theorem ZpM (e:Zk) (he:sm Qv e):Zf8 e=some (tr (Blank e)):=by
 have hn:=ZyI (Zk.Ze1 e) (Zr3 he).2
 unfold Zf8
 rw [hn]
 by_cases k1:Zk.Kind e=1
 ·rw [if_pos k1]
  refine Vm (Yz fun _=>Yz fun _=>Yz fun _=>rfl) ?_
  unfold Blank;grind
 rw [if_neg k1]
 by_cases k2:Zk.Kind e=2
 ·rw [if_pos k2]
  refine Vm (Yz fun _=>Yz fun _=>rfl) ?_
  unfold Blank;grind
 rw [if_neg k2]
 by_cases k3:Zk.Kind e=3
 ·rw [if_pos k3]
  refine Vm (Yz fun _=>Yz fun _=>Yz fun _=>Yz fun _=>Yz fun _=>rfl) ?_
  unfold Blank;grind
 rw [if_neg k3]
 by_cases k4:Zk.Kind e=4
 ·rw [if_pos k4]
  refine Vm (Yz fun _=>Yz fun _=>rfl) ?_
  unfold Blank;grind
 rw [if_neg k4]
 by_cases k5:Zk.Kind e=5
 ·rw [if_pos k5]
  refine Vm (Yz fun _=>Yz fun _=>Yz fun _=>JW decide_eq_true_iff) ?_
  unfold Blank;grind
 ·rw [if_neg k5]
  refine ZnP ?_
  unfold Blank;grind
theorem ZcA (a b:List Int) (ha:a.length≤1048576):Y6 a b=some (tr (a=b)):=by
 unfold Y6
 by_cases hl:(a.length:Int)=(b.length:Int)
 ·rw [if_pos hl,QA (l:=a) (show Len a by unfold Len;omega) (fun k x=>b[k]?=some x) (bad:=false) (good:=true)
   (fun k x hx hk _=>by
    have hy:b[k]?=some b[k]:=List.getElem?_eq_getElem (by omega)
    simp only [QI,show (k:Int)<(a.length:Int) from by omega,if_true,Zt,hx,hy,Option.bind_some,Option.some.injEq]
    constructor
    ·intro hh;rw [if_pos hh.symm]
    ·intro hh;rw [if_neg (fun q=>hh q.symm)])
   (fun _=>by simp only [QI,Int.lt_irrefl,if_false]),Zm3]
  congr 1
  refine YI ⟨fun h=>?_,fun h=>by subst h;exact fun k x hx=>hx⟩
  apply List.ext_getElem?
  intro k
  by_cases hk:k<a.length
  ·rw [h k a[k] (List.getElem?_eq_getElem hk),List.getElem?_eq_getElem hk]
  ·rw [List.getElem?_eq_none (by omega),List.getElem?_eq_none (by omega)]
 ·rw [if_neg hl,ZR (fun h=>hl (by rw [h]))]
def ZuY (a b:Zr):Prop:=Zr.Parent a=Zr.Parent b∧Zr.Res a=Zr.Res b∧Zr.Cap a=Zr.Cap b∧Zr.ZfR a=Zr.ZfR b
theorem ZpL (a b:Zr) (ha:sm XZ a):Zgp a b=some (tr (ZuY a b)):=by
 obtain ⟨a1,a2,a3,a4⟩:=Zlq ha
 have s1:=Zo a1
 have s2:=Zo a2
 have s3:=Zo a3
 have s4:=Zo a4
 unfold Zgp
 exact YF (ZcA _ _ s1) fun _=>YF (ZcA _ _ s2) fun _=>YF (ZcA _ _ s3) fun _=>JO (ZcA _ _ s4)
theorem Zba (a b:Zk) (ha:sm Qv a):Zeb a b=some (tr (Zk.Kind a=Zk.Kind b∧Zk.Place a=Zk.Place b∧Zk.Cell a=Zk.Cell b∧Zk.Net a=Zk.Net b∧Zk.Node a=Zk.Node b∧Zk.Name a=Zk.Name b∧ZuY (Zk.Ze1 a) (Zk.Ze1 b))):=by
 unfold Zeb
 exact Yz fun _=>Yz fun _=>Yz fun _=>Yz fun _=>Yz fun _=>Yz fun _=>JO (ZpL _ _ (Zr3 ha).2)
theorem Zzl (e:Zk) (he:sm Qv e):(ZO (Zk.Kind e) 1 5=some (tr (1≤Zk.Kind e∧Zk.Kind e≤5)))∧∃ o,Zgv e=some o∧Zeb e o=some (tr (Zk.Kind e<1∨5<Zk.Kind e∨Blank e))∨(¬(1≤Zk.Kind e∧Zk.Kind e≤5)):=by
 refine ⟨XD _ _ _,?_⟩
 unfold Zgv
 by_cases k1:Zk.Kind e=1
 ·rw [if_pos k1]
  refine ⟨_,.inl ⟨rfl,?_⟩⟩
  refine Vm (Zba e _ he) ?_
  rw [show ZuY (Zk.Ze1 e) (Zk.Ze1 (Zk.Kind e,Zk.Place e,Zk.Cell e,(0:Int),(0:Int),([]:List UInt8),(([]:List Int),([]:List Int),([]:List Int),([]:List Int),()),()))↔Zlr (Zk.Ze1 e) from Iff.rfl]
  unfold Blank
  simp only [k1]
  constructor
  ·rintro ⟨_,_,_,a,b,c,d⟩;exact .inr (.inr (.inl ⟨trivial,a,b,c,d⟩))
  ·intro h;grind
 rw [if_neg k1]
 by_cases k2:Zk.Kind e=2
 ·rw [if_pos k2]
  refine ⟨_,.inl ⟨rfl,?_⟩⟩
  refine Vm (Zba e _ he) ?_
  rw [show ZuY (Zk.Ze1 e) (Zk.Ze1 (Zk.Kind e,Zk.Place e,Zk.Cell e,(0:Int),(0:Int),Zk.Name e,(([]:List Int),([]:List Int),([]:List Int),([]:List Int),()),()))↔Zlr (Zk.Ze1 e) from Iff.rfl]
  unfold Blank
  simp only [k2]
  constructor
  ·rintro ⟨_,_,_,a,b,c,d⟩;exact .inr (.inr (.inr (.inl ⟨trivial,a,b,d⟩)))
  ·intro h;grind
 rw [if_neg k2]
 by_cases k4:Zk.Kind e=4
 ·rw [if_pos k4]
  refine ⟨_,.inl ⟨rfl,?_⟩⟩
  refine Vm (Zba e _ he) ?_
  rw [show ZuY (Zk.Ze1 e) (Zk.Ze1 (Zk.Kind e,Zk.Place e,(0:Int),Zk.Net e,Zk.Node e,([]:List UInt8),(([]:List Int),([]:List Int),([]:List Int),([]:List Int),()),()))↔Zlr (Zk.Ze1 e) from Iff.rfl]
  unfold Blank
  simp only [k4]
  constructor
  ·rintro ⟨_,_,a,_,_,c,d⟩;exact .inr (.inr (.inr (.inr (.inr (.inl ⟨trivial,a,c,d⟩)))))
  ·intro h;grind
 rw [if_neg k4]
 by_cases k5:Zk.Kind e=5
 ·rw [if_pos k5]
  refine ⟨_,.inl ⟨rfl,?_⟩⟩
  refine Vm (Zba e _ he) ?_
  rw [show ZuY (Zk.Ze1 e) (Zk.Ze1 (Zk.Kind e,(0:Int),(0:Int),Zk.Net e,(0:Int),([]:List UInt8),e.snd.snd.snd.snd.snd.snd))↔True from ⟨fun _=>trivial,fun _=>⟨rfl,rfl,rfl,rfl⟩⟩]
  unfold Blank
  simp only [k5]
  constructor
  ·rintro ⟨_,a,b,_,c,d,_⟩;exact .inr (.inr (.inr (.inr (.inr (.inr ⟨trivial,a,b,c,d⟩)))))
  ·intro h;grind
 rw [if_neg k5]
 by_cases k3:Zk.Kind e=3
 ·refine ⟨_,.inl ⟨rfl,?_⟩⟩
  refine Vm (Zba e _ he) ?_
  rw [show ZuY (Zk.Ze1 e) (Zk.Ze1 (Zk.Kind e,(0:Int),(0:Int),(0:Int),(0:Int),([]:List UInt8),(([]:List Int),([]:List Int),([]:List Int),([]:List Int),()),()))↔Zlr (Zk.Ze1 e) from Iff.rfl]
  unfold Blank
  simp only [k3]
  constructor
  ·rintro ⟨_,a,b,c,d,f,g⟩;exact .inr (.inr (.inr (.inr (.inl ⟨trivial,a,b,c,d,f,g⟩))))
  ·intro h;grind
 ·exact ⟨e,.inr (by omega)⟩
end Go.Proofs.YtoefbkmllkpkkaaGreatDoor
/-
  Plain laws: edits: range, possibility, code.
-/
namespace Go.Proofs.YtoefbkmllkpkkaaGreatDoor
set_option linter.unusedVariables false
set_option linter.unusedSimpArgs false
open Go Go.Sx
def ZbZ (b:Za) (e:Zk):Prop :=
 ((Zk.Kind e=1∨Zk.Kind e=2)→(0≤Zk.Place e∧Zk.Place e≤((places (Za.Design b)).length:Int)-1)∧(0≤Zk.Cell e∧Zk.Cell e≤((Zp.Cells (Za.Library b)).length:Int)-1))∧
 (Zk.Kind e=4→(0≤Zk.Place e∧Zk.Place e≤((places (Za.Design b)).length:Int)-1)∧Zbw (Za.Design b) (Zk.Net e)∧∃ w,(Za.ZC b)[(Zk.Net e).toNat]?=some w∧(0≤Zk.Node e∧Zk.Node e≤((Zr.Parent w).length:Int)-1))∧
 (Zk.Kind e=5→Zbw (Za.Design b) (Zk.Net e))
theorem Zn4 {b:Za} (h:JX b) {n:Int} (hn:Zbw (Za.Design b) n):∃ w,(Za.ZC b)[n.toNat]?=some w∧atI (Za.ZC b) n=some w∧Zce w ((sinks (Za.Design b) n).length:Int):=by
 have hwn:=h.ok.2.1
 have hlt:n.toNat<(Za.ZC b).length:=by have:=hn.1;have:=hn.2;omega
 have hw:=List.getElem?_eq_getElem hlt
 refine ⟨_,hw,Qa hn.1 hw,?_⟩
 have this:Zce _ ((sinks (Za.Design b) ((n.toNat:Nat):Int)).length:Int):=h.ok.2.2 n.toNat _ hw
 rwa [show ((n.toNat:Nat):Int)=n by have:=hn.1;omega] at this
theorem Zqh {b:Za} (h:JX b):(Zp.Cells (Za.Library b)).length≤1048576:=Zo (ZrA (ZaI h.sm).1)
theorem ZxW {b:Za} (h:JX b) (e:Zk) {w:Zr} (hw:(Za.ZC b)[(Zk.Net e).toNat]?=some w):IntKind.i64.wrap (((Zr.Parent w).length:Int)-1)=((Zr.Parent w).length:Int)-1:=by
 have:=h.ok.2.2 _ _ hw
 have h1:=this.1
 rw [Qc (by omega) (by omega)]
theorem ZpD {b:Za} (h:JX b) (e:Zk) (he:sm Qv e):Zga b e=some (tr (ZbZ b e)):=by
 have hD:=h.ok.1
 have hf:=hD.few
 have hpl:=Y7 hf
 have hc:=Zqh h
 have hwn:=h.ok.2.1
 have h30:=hD.2.1.2.1
 have e1:IntKind.i64.wrap (((places (Za.Design b)).length:Int)-1)=((places (Za.Design b)).length:Int)-1:=Qc (by omega) (by omega)
 have e2:IntKind.i64.wrap (((Zp.Cells (Za.Library b)).length:Int)-1)=((Zp.Cells (Za.Library b)).length:Int)-1:=Qc (by omega) (by omega)
 have e3:IntKind.i64.wrap (((Za.ZC b).length:Int)-1)=((Zb.ZI (Za.Design b)).length:Int)-1:=by rw [Qc (by omega) (by omega)];omega
 have net:(ZE (Zk.Net e) 0 (((Zb.ZI (Za.Design b)).length:Int)-1))=some (tr (Zbw (Za.Design b) (Zk.Net e))):=Ql _ _ _
 unfold Zga
 rw [Xe _ hf,Option.bind_some,e1,e2,e3]
 have pc:((ZE (Zk.Place e) 0 (((places (Za.Design b)).length:Int)-1)).bind fun x=>if x=true then (ZE (Zk.Cell e) 0 (((Zp.Cells (Za.Library b)).length:Int)-1)).bind fun y=>some y else some false) =
   some (tr ((0≤Zk.Place e∧Zk.Place e≤((places (Za.Design b)).length:Int)-1)∧(0≤Zk.Cell e∧Zk.Cell e≤((Zp.Cells (Za.Library b)).length:Int)-1))) :=
  YF (Ql _ _ _) fun _=>JO (Ql _ _ _)
 have mv:((ZE (Zk.Place e) 0 (((places (Za.Design b)).length:Int)-1)).bind fun x=>if x=true then (ZE (Zk.Net e) 0 (((Zb.ZI (Za.Design b)).length:Int)-1)).bind fun y=>if y=true then
    (atI (Za.ZC b) (Zk.Net e)).bind fun w=>(ZE (Zk.Node e) 0 (IntKind.i64.wrap (((Zr.Parent w).length:Int)-1))).bind fun z=>some z else some false else some false) =
   some (tr ((0≤Zk.Place e∧Zk.Place e≤((places (Za.Design b)).length:Int)-1)∧Zbw (Za.Design b) (Zk.Net e)∧∃ w,(Za.ZC b)[(Zk.Net e).toNat]?=some w∧(0≤Zk.Node e∧Zk.Node e≤((Zr.Parent w).length:Int)-1))):=by
  refine YF (Ql _ _ _) fun _=>YF net fun hn=>?_
  obtain ⟨w,hw,ha,_⟩:=Zn4 h hn
  rw [ha,Option.bind_some,ZxW h e hw]
  refine Vm (JO (Ql _ _ _)) ⟨fun q=>⟨w,hw,q⟩,fun ⟨w',hw',q⟩=>?_⟩
  rw [hw] at hw'
  injection hw' with hw'
  subst hw';exact q
 by_cases k1:Zk.Kind e=1
 ·rw [if_pos k1,if_pos k1]
  refine Vm pc ?_
  unfold ZbZ;grind
 rw [if_neg k1]
 by_cases k2:Zk.Kind e=2
 ·rw [if_pos k2]
  refine Vm pc ?_
  unfold ZbZ;grind
 rw [if_neg k2]
 by_cases k4:Zk.Kind e=4
 ·rw [if_pos k4]
  refine Vm mv ?_
  unfold ZbZ;grind
 rw [if_neg k4]
 by_cases k5:Zk.Kind e=5
 ·rw [if_pos k5]
  refine Vm (JO net) ?_
  unfold ZbZ;grind
 ·rw [if_neg k5]
  refine (JW (P:=ZbZ b e) ⟨fun _=>?_,fun _=>rfl⟩)
  unfold ZbZ;grind
theorem Zoz {b:Za} (h:JX b) (e:Zk) (he:sm Qv e):ZaX e b=some (tr (Blank e∧ZbZ b e)):=by
 have hD:=h.ok.1
 have hf:=hD.few
 have hpl:=Y7 hf
 have hc:=Zqh h
 have hsd:=(ZaI h.sm).2.1
 have e1:IntKind.i64.wrap (((places (Za.Design b)).length:Int)-1)=((places (Za.Design b)).length:Int)-1:=Qc (by omega) (by omega)
 have e2:IntKind.i64.wrap (((Zp.Cells (Za.Library b)).length:Int)-1)=((Zp.Cells (Za.Library b)).length:Int)-1:=Qc (by omega) (by omega)
 obtain ⟨hw,o,ho⟩:=Zzl e he
 unfold ZaX
 rw [hw,Option.bind_some]
 by_cases hk:1≤Zk.Kind e∧Zk.Kind e≤5
 ·rw [if_pos (Ye hk)]
  rcases ho with ⟨ho1,ho2⟩ | ho
  ·rw [ho1,Option.bind_some,ho2,Option.bind_some]
   by_cases hB:Blank e
   ·rw [if_pos (Ye (.inr (.inr hB))),Yl _ hf,Option.bind_some,show Xw (places (Za.Design b))=some ((places (Za.Design b)).length:Int) from rfl,Option.bind_some,e1,XD,Option.bind_some,
     show X7 (Zp.Cells (Za.Library b))=some ((Zp.Cells (Za.Library b)).length:Int) from rfl]
    simp only [Option.bind_some,e2]
    have net:=ZcR (Za.Design b) (Zk.Net e) hsd
    have pc:(if tr (0≤Zk.Place e∧Zk.Place e≤((places (Za.Design b)).length:Int)-1)=true then (ZO (Zk.Cell e) 0 (((Zp.Cells (Za.Library b)).length:Int)-1)).bind fun y=>some y else some false) =
      some (tr ((0≤Zk.Place e∧Zk.Place e≤((places (Za.Design b)).length:Int)-1)∧(0≤Zk.Cell e∧Zk.Cell e≤((Zp.Cells (Za.Library b)).length:Int)-1))) :=
     ZCl (JO (XD _ _ _))
    by_cases k1:Zk.Kind e=1
    ·rw [if_pos k1,if_pos k1]
     refine Vm pc ?_
     unfold ZbZ;grind
    rw [if_neg k1]
    by_cases k2:Zk.Kind e=2
    ·rw [if_pos k2]
     refine Vm pc ?_
     unfold ZbZ;grind
    rw [if_neg k2]
    by_cases k4:Zk.Kind e=4
    ·rw [if_pos k4]
     have mv:(if tr (0≤Zk.Place e∧Zk.Place e≤((places (Za.Design b)).length:Int)-1)=true then (Y0 (Za.Design b) (Zk.Net e)).bind fun y=>if y=true then
        (atI (Za.ZC b) (Zk.Net e)).bind fun w=>(Y1 (Zr.Parent w)).bind fun n=>(ZO (Zk.Node e) 0 (IntKind.i64.wrap (n-1))).bind fun z=>some z else some false else some false) =
       some (tr ((0≤Zk.Place e∧Zk.Place e≤((places (Za.Design b)).length:Int)-1)∧Zbw (Za.Design b) (Zk.Net e)∧∃ w,(Za.ZC b)[(Zk.Net e).toNat]?=some w∧(0≤Zk.Node e∧Zk.Node e≤((Zr.Parent w).length:Int)-1))):=by
      by_cases hp:0≤Zk.Place e∧Zk.Place e≤((places (Za.Design b)).length:Int)-1
      ·rw [if_pos (Ye hp)]
       refine Vm (YF net fun hn=>?_) (P:=Zbw (Za.Design b) (Zk.Net e)∧∃ w,(Za.ZC b)[(Zk.Net e).toNat]?=some w∧(0≤Zk.Node e∧Zk.Node e≤((Zr.Parent w).length:Int)-1)) ⟨fun q=>⟨hp,q⟩,fun q=>q.2⟩
       obtain ⟨w,hw,ha,_⟩:=Zn4 h hn
       rw [ha,Option.bind_some,Vj,Option.bind_some,ZxW h e hw]
       refine Vm (JO (XD _ _ _)) ⟨fun q=>⟨w,hw,q⟩,fun ⟨w',hw',q⟩=>?_⟩
       rw [hw] at hw'
       injection hw' with hw'
       subst hw';exact q
      ·rw [if_neg (fun q=>hp ((Xa _).1 q)),ZR (fun q=>hp q.1)]
     refine Vm mv ?_
     unfold ZbZ;grind
    rw [if_neg k4]
    by_cases k5:Zk.Kind e=5
    ·rw [if_pos k5]
     refine Vm (JO net) ?_
     unfold ZbZ;grind
    ·rw [if_neg k5]
     refine (JW (P:=Blank e∧ZbZ b e) ⟨fun _=>⟨hB,?_⟩,fun _=>rfl⟩)
     unfold ZbZ;grind
   ·rw [if_neg (fun q=>by rcases (Xa _).1 q with q | q | q<;>first | omega | exact hB q),ZR (fun q=>hB q.1)]
  ·exact absurd hk ho
 ·rw [if_neg (fun q=>hk ((Xa _).1 q)),ZR (fun q=>?_)]
  have:=q.1
  unfold Blank at this
  omega
theorem Zzy (a b:Zm) (ha:sm XY a):Zgw a b=Jz a b∧∃ r,Jz a b=some r:=by
 have s1:(Zm.YC a).length≤1048576:=by have:=(Zyw ha).pins.1;omega
 unfold Zgw Jz Ya
 by_cases k:Zm.Kind a=Zm.Kind b
 ·rw [if_pos k,if_pos k]
  by_cases hl:((Zm.YC a).length:Int)=((Zm.YC b).length:Int)
  ·rw [if_pos hl,if_pos hl]
   rw [QA (l:=Zm.YC a) (show Len _ by unfold Len;omega) (fun k x=>∀ y,(Zm.YC b)[k]?=some y→(YE.Clock x == YE.Clock y)=true) (bad:=false) (good:=true)
    (step:=fun v=>ZG (Zm.YC a) (Zm.YC b) v.1)
    (fun k x hx hk _=>by
     have hy:(Zm.YC b)[k]?=some (Zm.YC b)[k]:=List.getElem?_eq_getElem (by omega)
     simp only [ZG,ZfY,show (k:Int)<((Zm.YC a).length:Int) from by omega,if_true,Zt,hx,hy,Option.bind_some,Option.some.injEq,forall_eq']
     constructor
     ·intro hh;rw [if_pos hh]
     ·intro hh;rw [if_neg hh])
    (fun _=>by simp only [ZG,Int.lt_irrefl,if_false]),
    QA (l:=Zm.YC a) (show Len _ by unfold Len;omega) (fun k x=>∀ y,(Zm.YC b)[k]?=some y→(YE.Clock x == YE.Clock y)=true) (bad:=false) (good:=true)
    (step:=fun v=>ZaW a b v.1)
    (fun k x hx hk _=>by
     have hy:(Zm.YC b)[k]?=some (Zm.YC b)[k]:=List.getElem?_eq_getElem (by omega)
     simp only [ZaW,show (k:Int)<((Zm.YC a).length:Int) from by omega,if_true,Zt,hx,hy,Option.bind_some,Option.some.injEq,forall_eq']
     constructor
     ·intro hh;rw [if_pos hh]
     ·intro hh;rw [if_neg hh])
    (fun _=>by simp only [ZaW,Int.lt_irrefl,if_false])]
   exact ⟨rfl,_,rfl⟩
  ·rw [if_neg hl,if_neg hl]
   exact ⟨rfl,_,rfl⟩
 ·rw [if_neg k,if_neg k]
  exact ⟨rfl,_,rfl⟩
theorem Zpa (d:Zb) (s:List UInt8) (hd:sm Yr d):ZbH d s=some (ZbF (fun x=>decide (Ze.Name x=s)) (Zb.Instances d))∧ZbO d s=some (ZbF (fun x=>decide (Ze.Name x=s)) (Zb.Instances d)):=by
 have hl:=YT (Zck hd).1
 constructor
 ·unfold ZbH
  rw [XH hl (fun x=>decide (Ze.Name x=s)) (fun x _=>rfl),Option.bind_some]
 ·unfold ZbO
  refine Jq hl (out:=fun i=>i) (fun k x hx=>?_) ?_
  ·have hk:=(List.getElem?_eq_some_iff.1 hx).1
   simp only [Zaj,show (k:Int)<((Zb.Instances d).length:Int) from by omega,if_true,Zt,hx,Option.bind_some,decide_eq_true_eq]
   split<;>rfl
  ·simp only [Zaj,Int.lt_irrefl,if_false]
theorem ZqL (d:Zb) (s:List UInt8) (hd:sm Yr d):J9 d s=some (ZbF (fun x=>decide (s=x)) (Zb.ZI d))∧Zge d s=some (ZbF (fun x=>decide (s=x)) (Zb.ZI d)):=by
 have hl:=YT (Zck hd).2.2
 constructor
 ·unfold J9
  rw [ZfP hl,Option.bind_some]
 ·unfold Zge Zjl
  rw [Jq hl (p:=fun x=>decide (s=x)) (out:=fun i=>i) (fun k x hx=>by
   have hk:=(List.getElem?_eq_some_iff.1 hx).1
   simp only [Zdu,show (k:Int)<((Zb.ZI d).length:Int) from by omega,if_true,Zt,hx,Option.bind_some,decide_eq_true_eq]
   by_cases hq:s=x
   ·rw [if_pos hq,if_pos hq.symm]
   ·rw [if_neg hq,if_neg (fun q=>hq q.symm)]) (by simp only [Zdu,Int.lt_irrefl,if_false]),Option.bind_some]
end Go.Proofs.YtoefbkmllkpkkaaGreatDoor
/-
  Plain laws: edits: what is possible, the code of an edit, places after one.
-/
namespace Go.Proofs.YtoefbkmllkpkkaaGreatDoor
set_option linter.unusedVariables false
set_option linter.unusedSimpArgs false
open Go Go.Sx
def Zm9 (b:Za):Prop:=∃ (x:Ze) (c:Zm) (w:Zr) (m:Int),
 0<(Zb.Instances (Za.Design b)).length∧(Zb.Instances (Za.Design b))[(Zb.Instances (Za.Design b)).length-1]?=some x∧
 (Zp.Cells (Za.Library b))[(Ze.Cell x).toNat]?=some c∧Zm.Kind c=1∧(Zm.YC c).length=2∧
 (Ze.ZI x).length=2∧atI (Ze.ZI x) 0=some m∧atI (Ze.ZI x) 1=some (((Zb.ZI (Za.Design b)).length:Int)-1)∧m≠((Zb.ZI (Za.Design b)).length:Int)-1∧
 atI (Zb.ZI (Za.Design b)) (((Zb.ZI (Za.Design b)).length:Int)-1)=some (Ze.Name x)∧
 atI (Za.ZC b) (((Zb.ZI (Za.Design b)).length:Int)-1)=some w∧(Zr.ZfR w).length=1∧(sinks (Za.Design b) (((Zb.ZI (Za.Design b)).length:Int)-1)).length=1∧(Zr.Parent w).length=1∧atI (Zr.Cap w) 0=some 0
theorem ZAd {b:Za} (h:JX b):∃ r,V5 b=some r∧ZhQ b=some r∧
  (r=true→Zm9 b):=by
 have hD:=h.ok.1
 have hf:=hD.few
 have h14:=hf.insts
 have h30:=hD.2.1.2.1
 have hwn:=h.ok.2.1
 unfold V5 ZhQ
 by_cases hn:((Zb.Instances (Za.Design b)).length:Int)=0
 ·rw [if_pos hn,hn,Qc (by omega) (by omega),if_pos (by omega)]
  exact ⟨false,rfl,rfl,fun h=>by cases h⟩
 rw [if_neg hn,Qc (n:=((Zb.Instances (Za.Design b)).length:Int)-1) (by omega) (by omega),if_neg (by omega)]
 have hlt:(Zb.Instances (Za.Design b)).length-1<(Zb.Instances (Za.Design b)).length:=by omega
 have hx:=List.getElem?_eq_getElem hlt
 generalize (Zb.Instances (Za.Design b))[(Zb.Instances (Za.Design b)).length-1]=x at hx
 have hx2:atI (Zb.Instances (Za.Design b)) (((Zb.Instances (Za.Design b)).length:Int)-1)=some x:=Qa (by omega) (by rw [←hx];congr 1;omega)
 obtain ⟨⟨c0,c1⟩,⟨c,hc,hnp⟩,hnet⟩:=hD.2.2.1 x (List.mem_of_getElem? hx)
 have hc2:atI (Zp.Cells (Za.Library b)) (Ze.Cell x)=some c:=Qa c0 hc
 rw [hx2]
 simp only [Option.bind_some,hc2,show Xx (Zb.ZI (Za.Design b))=some ((Zb.ZI (Za.Design b)).length:Int) from rfl]
 rw [show Zc5 c=Vr c from rfl]
 have hbuf:Vr c=some (tr (Zm.Kind c=1∧(Zm.YC c).length=2)):=by
  unfold Vr
  refine Vm (Yz fun _=>JW decide_eq_true_iff) ?_
  omega
 rw [hbuf,Option.bind_some,Option.bind_some]
 by_cases hb:Zm.Kind c=1∧(Zm.YC c).length=2
 ·rw [if_pos (Ye hb),if_pos (Ye hb)]
  have hl2:(Ze.ZI x).length=2:=by rw [hnp];exact hb.2
  have n0:atI (Ze.ZI x) 0=some ((Ze.ZI x)[0]'(by omega)):=List.getElem?_eq_getElem (by omega)
  have n1:atI (Ze.ZI x) 1=some ((Ze.ZI x)[1]'(by omega)):=List.getElem?_eq_getElem (by omega)
  have hn1:=hnet ((Ze.ZI x)[1]'(by omega)) (List.getElem_mem _)
  have hpos:1≤(Zb.ZI (Za.Design b)).length:=by have:=hn1.1;have:=hn1.2;omega
  generalize (Ze.ZI x)[1]'(by omega)=m1 at n1 hn1
  generalize (Ze.ZI x)[0]'(by omega)=m0 at n0
  have eL:IntKind.i64.wrap (((Zb.ZI (Za.Design b)).length:Int)-1)=((Zb.ZI (Za.Design b)).length:Int)-1:=Qc (by omega) (by omega)
  have eW:IntKind.i64.wrap (((Za.ZC b).length:Int)-1)=((Zb.ZI (Za.Design b)).length:Int)-1:=by rw [Qc (by omega) (by omega)];omega
  have hL:Zbw (Za.Design b) (((Zb.ZI (Za.Design b)).length:Int)-1):=⟨by omega,by omega⟩
  obtain ⟨w,hw1,hw2,hw3⟩:=Zn4 h hL
  have nL:atI (Zb.ZI (Za.Design b)) (((Zb.ZI (Za.Design b)).length:Int)-1)=some ((Zb.ZI (Za.Design b))[(Zb.ZI (Za.Design b)).length-1]'(by omega)):=Qa (by omega) (by
   rw [List.getElem?_eq_getElem (by omega)]
   congr 2
   omega)
  generalize (Zb.ZI (Za.Design b))[(Zb.ZI (Za.Design b)).length-1]'(by omega)=nm at nL
  have hcap:atI (Zr.Cap w) 0=some ((Zr.Cap w)[0]'(by have:=hw3.1;have:=hw3.2.2.1;omega)):=List.getElem?_eq_getElem (by have:=hw3.1;have:=hw3.2.2.1;omega)
  generalize (Zr.Cap w)[0]'(by have:=hw3.1;have:=hw3.2.2.1;omega)=cp at hcap
  have hsk:=hw3.2.2.2.1
  simp only [eL,eW,n0,n1,nL,hw2,Option.bind_some,Jm _ _ hf,Zj4,hcap]
  rw [←hsk]
  by_cases q1:m1=((Zb.ZI (Za.Design b)).length:Int)-1
  ·rw [if_pos q1,if_pos q1]
   by_cases q2:m0=((Zb.ZI (Za.Design b)).length:Int)-1
   ·rw [if_pos q2]
    by_cases q3:nm=Ze.Name x
    ·rw [if_pos q3]
     simp only [if_pos q2]
     exact ⟨_,rfl,rfl,fun q=>by cases q⟩
    ·rw [if_neg q3]
     exact ⟨_,rfl,rfl,fun q=>by cases q⟩
   ·rw [if_neg q2]
    by_cases q3:nm=Ze.Name x
    ·rw [if_pos q3,if_pos q3]
     simp only [if_neg q2]
     by_cases q4:((Zr.ZfR w).length:Int)=1
     ·rw [if_pos q4,if_pos q4]
      by_cases q5:((Zr.Parent w).length:Int)=1
      ·simp only [if_pos q5]
       refine ⟨_,rfl,rfl,fun q=>?_⟩
       have q6:=of_decide_eq_true q
       subst q1 q6
       exact ⟨x,c,w,m0,by omega,hx,hc,hb.1,hb.2,hl2,n0,n1,q2,by rw [nL,q3],hw2,by omega,by omega,by omega,hcap⟩
      ·simp only [if_neg q5]
       exact ⟨_,rfl,rfl,fun q=>by cases q⟩
     ·rw [if_neg q4,if_neg q4]
      exact ⟨_,rfl,rfl,fun q=>by cases q⟩
    ·rw [if_neg q3,if_neg q3]
     exact ⟨_,rfl,rfl,fun q=>by cases q⟩
  ·rw [if_neg q1,if_neg q1]
   exact ⟨_,rfl,rfl,fun q=>by cases q⟩
 ·rw [if_neg (fun q=>hb ((Xa _).1 q)),if_neg (fun q=>hb ((Xa _).1 q))]
  exact ⟨false,rfl,rfl,fun h=>by cases h⟩
theorem Zvz {b:Za} (h:JX b) {i:Int} (h0:0≤i) (h1:i≤((Zp.Cells (Za.Library b)).length:Int)-1):∃ c,atI (Zp.Cells (Za.Library b)) i=some c∧sm XY c:=by
 have hlt:i.toNat<(Zp.Cells (Za.Library b)).length:=by omega
 have hc:=List.getElem?_eq_getElem hlt
 exact ⟨_,Qa h0 hc,Jd (ZrA (ZaI h.sm).1) hc⟩
theorem ZsA {b:Za} (h:JX b) {i:Int} (h0:0≤i) (h1:i≤((places (Za.Design b)).length:Int)-1):∃ p,atI (places (Za.Design b)) i=some p∧p∈places (Za.Design b):=by
 have hlt:i.toNat<(places (Za.Design b)).length:=by omega
 have hc:=List.getElem?_eq_getElem hlt
 exact ⟨_,Qa h0 hc,List.getElem_mem _⟩
theorem ZwD {d:Zb} {p:Pl} (hp:p∈places d) (h0:0≤p.1):∃ x,(Zb.Instances d)[p.1.toNat]?=some x∧x∈Zb.Instances d:=by
 unfold places at hp
 rcases List.mem_append.1 hp with hp | hp
 ·obtain ⟨i,z,hi,hz⟩:=ZcW.1 hp
  unfold Xf at hz
  obtain ⟨j,n,hj,hn⟩:=ZcW.1 hz
  simp only [List.mem_singleton] at hn
  subst hn
  refine ⟨z,?_,List.mem_of_getElem? hi⟩
  show (Zb.Instances d)[(((0+i:Nat):Int)).toNat]?=some z
  rw [show (((0+i:Nat):Int)).toNat=i by omega]
  exact hi
 ·obtain ⟨j,q,hj,hq⟩:=ZcW.1 hp
  simp only [ZcI,List.mem_singleton] at hq
  subst hq
  have h0:(0:Int)≤-1:=h0
  omega
theorem Zm9.two {b:Za} (h:Zm9 b):0<(Zb.Instances (Za.Design b)).length∧∃ x,(Zb.Instances (Za.Design b))[(Zb.Instances (Za.Design b)).length-1]?=some x∧(Ze.ZI x).length=2:=by
 obtain ⟨x,c,w,m,h1,h2,_,_,_,h3,_⟩:=h
 exact ⟨h1,x,h2,h3⟩
def Zhm (b:Za) (e:Zk) (p:Pl):Prop:=0≤Zk.Place e∧(places (Za.Design b))[(Zk.Place e).toNat]?=some p
theorem ZsY {b:Za} {e:Zk} {p:Pl} (h0:0≤Zk.Place e) (hp:atI (places (Za.Design b)) (Zk.Place e)=some p):Zhm b e p:=by
 refine ⟨h0,?_⟩
 rw [show Zk.Place e=(((Zk.Place e).toNat:Nat):Int) by omega,Zt] at hp
 exact hp
theorem Zhm.mem {b:Za} {e:Zk} {p:Pl} (h:Zhm b e p):p∈places (Za.Design b):=List.mem_of_getElem? h.2
theorem Zhm.at {b:Za} {e:Zk} {p:Pl} (h:Zhm b e p):atI (places (Za.Design b)) (Zk.Place e)=some p:=Qa h.1 h.2
def ZA0 (b:Za) (e:Zk):Prop :=
 (Zk.Kind e=1→∃ (p:Pl) (x:Ze) (c c2:Zm),Zhm b e p∧0≤p.1∧p.2.2.2.1=true∧atI (Zb.Instances (Za.Design b)) p.1=some x∧atI (Zp.Cells (Za.Library b)) (Ze.Cell x)=some c∧atI (Zp.Cells (Za.Library b)) (Zk.Cell e)=some c2∧Jz c c2=some true)∧
 (Zk.Kind e=2→∃ (p:Pl) (c:Zm),Zhm b e p∧p.2.2.2.1=false∧atI (Zp.Cells (Za.Library b)) (Zk.Cell e)=some c∧Zm.Kind c=1∧(Zm.YC c).length=2∧Jc (Zk.Name e)=true∧
  ZbF (fun x=>decide (Ze.Name x=Zk.Name e)) (Zb.Instances (Za.Design b))<0∧ZbF (fun x=>decide (Zk.Name e=x)) (Zb.ZI (Za.Design b))<0)∧
 (Zk.Kind e=3→Zm9 b)∧
 (Zk.Kind e=4→∃ p:Pl,Zhm b e p∧p.2.2.2.1=false∧p.2.2.1≠Zk.Net e)∧
 (Zk.Kind e=5→Zce (Zk.Ze1 e) ((sinks (Za.Design b) (Zk.Net e)).length:Int))
theorem Zvn {b:Za} (h:JX b) (e:Zk) (he:sm Qv e) (hB:Blank e) (hR:ZbZ b e):∃ r,J7 e b=some r∧Zgi b e=some r∧
  (r=true→ZA0 b e):=by
 have hD:=h.ok.1
 have hf:=hD.few
 have hsd:=(ZaI h.sm).2.1
 obtain ⟨he1,he2⟩:=Zr3 he
 unfold J7 Zgi
 rw [Yl _ hf,Xe _ hf,Option.bind_some,Option.bind_some]
 by_cases k1:Zk.Kind e=1
 ·rw [if_pos k1,if_pos k1]
  obtain ⟨⟨p0,p1⟩,c0,c1⟩:=hR.1 (.inl k1)
  obtain ⟨p,hp,hpm⟩:=ZsA h p0 p1
  obtain ⟨c2,hc2,hc2s⟩:=Zvz h c0 c1
  rw [hp]
  simp only [Option.bind_some,hc2]
  by_cases q1:(0:Int)≤p.1
  ·rw [if_pos q1,if_pos q1]
   by_cases q2:p.2.2.2.1=true
   ·rw [if_pos q2,if_pos q2]
    obtain ⟨x,hx,hxm⟩:=ZwD hpm q1
    have hx2:atI (Zb.Instances (Za.Design b)) p.1=some x:=Qa q1 hx
    obtain ⟨⟨d0,d1⟩,_,_⟩:=hD.2.2.1 x hxm
    obtain ⟨c,hc,hcs⟩:=Zvz h d0 d1
    obtain ⟨a1,r,a2⟩:=Zzy c c2 hcs
    have e1:ZM.instance p=p.1:=rfl
    have e2:ZN.instance p=p.1:=rfl
    simp only [e1,e2,hx2,Option.bind_some,hc,a1,a2]
    exact ⟨r,rfl,rfl,fun q=>⟨fun _=>⟨p,x,c,c2,ZsY p0 hp,q1,q2,hx2,hc,hc2,by rw [a2,q]⟩,fun k=>by omega,fun k=>by omega,fun k=>by omega,fun k=>by omega⟩⟩
   ·rw [if_neg q2,if_neg q2]
    exact ⟨_,rfl,rfl,fun q=>by cases q⟩
  ·rw [if_neg q1,if_neg q1]
   exact ⟨_,rfl,rfl,fun q=>by cases q⟩
 rw [if_neg k1,if_neg k1]
 by_cases k2:Zk.Kind e=2
 ·rw [if_pos k2,if_pos k2]
  obtain ⟨⟨p0,p1⟩,c0,c1⟩:=hR.1 (.inr k2)
  obtain ⟨p,hp,hpm⟩:=ZsA h p0 p1
  obtain ⟨c2,hc2,hc2s⟩:=Zvz h c0 c1
  have hbuf:Vr c2=some (tr (Zm.Kind c2=1∧(Zm.YC c2).length=2)):=by
   unfold Vr
   refine Vm (Yz fun _=>JW decide_eq_true_iff) ?_
   omega
  have hlN:(Zk.Name e).length≤4611686018427387904:=by have:((Zk.Name e).length:Int)≤1048576:=he1;omega
  rw [hp]
  simp only [Option.bind_some,hc2,show Zc5 c2=Vr c2 from rfl,hbuf,Zfd,Zaf _ hlN,(Zpa _ (Zk.Name e) hsd).1,(Zpa _ (Zk.Name e) hsd).2,(ZqL _ (Zk.Name e) hsd).1,(ZqL _ (Zk.Name e) hsd).2]
  have e1:ZM.drives p=p.2.2.2.1:=rfl
  have e2:ZN.drives p=p.2.2.2.1:=rfl
  rw [e1,e2]
  by_cases q2:p.2.2.2.1=true
  ·simp only [if_pos q2]
   exact ⟨_,rfl,rfl,fun q=>by cases q⟩
  simp only [if_neg q2]
  by_cases q3:tr (Zm.Kind c2=1∧(Zm.YC c2).length=2)=true
  ·simp only [if_pos q3]
   by_cases q4:Jc (Zk.Name e)=true
   ·simp only [if_pos q4]
    split
    ·rename_i q5
     refine ⟨_,rfl,rfl,fun q=>⟨fun k=>by omega,fun _=>⟨p,c2,ZsY p0 hp,by simpa using q2,hc2,((Xa _).1 q3).1,((Xa _).1 q3).2,q4,q5,of_decide_eq_true q⟩,fun k=>by omega,fun k=>by omega,fun k=>by omega⟩⟩
    ·exact ⟨_,rfl,rfl,fun q=>by cases q⟩
   ·simp only [if_neg q4]
    exact ⟨_,rfl,rfl,fun q=>by cases q⟩
  ·simp only [if_neg q3]
   exact ⟨_,rfl,rfl,fun q=>by cases q⟩
 rw [if_neg k2,if_neg k2]
 by_cases k3:Zk.Kind e=3
 ·rw [if_pos k3,if_pos k3]
  obtain ⟨r,a,c,d⟩:=ZAd h
  rw [a,c]
  exact ⟨r,rfl,rfl,fun q=>⟨fun k=>by omega,fun k=>by omega,fun _=>d q,fun k=>by omega,fun k=>by omega⟩⟩
 rw [if_neg k3,if_neg k3]
 by_cases k4:Zk.Kind e=4
 ·rw [if_pos k4,if_pos k4]
  obtain ⟨⟨p0,p1⟩,_⟩:=hR.2.1 k4
  obtain ⟨p,hp,hpm⟩:=ZsA h p0 p1
  rw [hp]
  simp only [Option.bind_some]
  have e1:ZM.drives p=p.2.2.2.1:=rfl
  have e2:ZN.drives p=p.2.2.2.1:=rfl
  rw [e1,e2]
  by_cases q2:p.2.2.2.1=true
  ·simp only [if_pos q2]
   exact ⟨_,rfl,rfl,fun q=>by cases q⟩
  ·simp only [if_neg q2]
   refine ⟨_,rfl,rfl,fun q=>⟨fun k=>by omega,fun k=>by omega,fun k=>by omega,fun _=>⟨p,ZsY p0 hp,by simpa using q2,by simp only [Bool.not_eq_true',decide_eq_false_iff_not] at q;exact q⟩,fun k=>by omega⟩⟩
 rw [if_neg k4,if_neg k4]
 have k5:Zk.Kind e=5:=by unfold Blank at hB;omega
 obtain ⟨w,hw1,hw2,hw3⟩:=Zn4 h (hR.2.2 k5)
 rw [hw2,Jm _ _ hf]
 simp only [Option.bind_some,Vj,ZlP _ _ he2,ZlA _ _ he2,hw3.2.2.2.1]
 exact ⟨_,rfl,rfl,fun q=>⟨fun k=>by omega,fun k=>by omega,fun k=>by omega,fun k=>by omega,fun _=>(Xa _).1 q⟩⟩
structure ZpA (b:Za) (e:Zk):Prop where
 blk:JX b
 blank:Blank e
 range:ZbZ b e
 poss:ZA0 b e
 lim:Zk.Kind e=2→(Zb.Instances (Za.Design b)).length≤13∧(Zb.ZI (Za.Design b)).length≤29
theorem ZpA.last {b:Za} {e:Zk} (h:ZpA b e) (k3:Zk.Kind e=3):0<(Zb.Instances (Za.Design b)).length∧∃ x,(Zb.Instances (Za.Design b))[(Zb.Instances (Za.Design b)).length-1]?=some x∧(Ze.ZI x).length=2:=(h.poss.2.2.1 k3).two
theorem Zue {b:Za} (h:JX b) (e:Zk) (he:sm Qv e):∃ c,Zfu e b=some c∧ZaQ b e=some c∧(c=0→ZpA b e):=by
 have hB:=h.ok
 unfold ZaQ Zfu
 rw [Zec b h.sm,Option.bind_some,if_pos (Ye hB)]
 ·have hwn:=hB.2.1
  rw [Zoz h e he,ZpM e he,ZpD h e he]
  simp only [Option.bind_some]
  by_cases h1:Blank e
  ·rw [if_pos (Ye h1)]
   by_cases h2:ZbZ b e
   ·rw [if_pos (Ye ⟨h1,h2⟩),if_pos (Ye h2)]
    obtain ⟨r,a,c,d⟩:=Zvn h e he h1 h2
    rw [a,c]
    simp only [Option.bind_some]
    by_cases hr:r=true
    ·rw [if_pos hr,if_pos hr]
     have h14:=hB.1.few.insts
     have h30:=hB.1.2.1.2.1
     by_cases k2:Zk.Kind e=2
     ·rw [if_pos k2,if_pos k2]
      by_cases q1:((Zb.Instances (Za.Design b)).length:Int)=14
      ·rw [if_pos q1,if_pos q1]
       exact ⟨_,rfl,rfl,fun q=>by cases q⟩
      ·rw [if_neg q1,if_neg q1]
       by_cases q2:((Zb.ZI (Za.Design b)).length:Int)=30
       ·rw [if_pos q2,if_pos (by omega)]
        exact ⟨_,rfl,rfl,fun q=>by cases q⟩
       ·rw [if_neg q2,if_neg (by omega)]
        exact ⟨_,rfl,rfl,fun _=>⟨h,h1,h2,d hr,fun _=>⟨by omega,by omega⟩⟩⟩
     ·rw [if_neg k2,if_neg k2]
      exact ⟨_,rfl,rfl,fun _=>⟨h,h1,h2,d hr,fun k=>absurd k k2⟩⟩
    ·rw [if_neg hr,if_neg hr]
     exact ⟨_,rfl,rfl,fun q=>by cases q⟩
   ·rw [if_neg (fun q=>h2 ((Xa _).1 q).2),if_neg (fun q=>h2 ((Xa _).1 q))]
    exact ⟨_,rfl,rfl,fun q=>by cases q⟩
  ·rw [if_neg (fun q=>h1 ((Xa _).1 q).1),if_neg (fun q=>h1 ((Xa _).1 q))]
   exact ⟨_,rfl,rfl,fun q=>by cases q⟩
end Go.Proofs.YtoefbkmllkpkkaaGreatDoor
/-
  Plain laws: the code of an edit of any block.
-/
namespace Go.Proofs.YtoefbkmllkpkkaaGreatDoor
set_option linter.unusedVariables false
set_option linter.unusedSimpArgs false
open Go Go.Sx
theorem ZuZ (b:Za) (e:Zk) (hb:sm YB b) (he:sm Qv e):∃ c,ZgA b e=some c∧ZaQ b e=some c∧(c=0→ZpA b e):=by
 unfold ZgA
 rw [Zkm b hb,Option.bind_some]
 by_cases hB:Zl9 b
 ·obtain ⟨c,h1,h2,h3⟩:=Zue ⟨hB,hb⟩ e he
  rw [if_pos (Ye hB),h1]
  exact ⟨c,rfl,h2,h3⟩
 ·rw [if_neg (fun q=>hB ((Xa _).1 q))]
  refine ⟨1,rfl,?_,fun q=>by cases q⟩
  unfold ZaQ
  rw [Zec b hb,Option.bind_some,if_neg (fun q=>hB ((Xa _).1 q))]
end Go.Proofs.YtoefbkmllkpkkaaGreatDoor
/-
  Plain laws: places after an edit; the law FnExactPlacesAfter.
-/
namespace Go.Proofs.YtoefbkmllkpkkaaGreatDoor
set_option linter.unusedVariables false
set_option linter.unusedSimpArgs false
open Go Go.Sx
theorem ZpZ:∀ (l:List ZT) (m:Nat),(cat ZcI m l).length=l.length
 | [],_=>rfl
 | x::r,m=>by simp only [cat,List.length_append,ZcI,List.length_nil,ZpZ r,List.length_cons];omega
theorem Zsu {i:Nat} {x:Ze} {p:Pl} (hp:p∈Xf i x):p.1=(i:Int):=by
 unfold Xf at hp
 obtain ⟨j,n,hj,hn⟩:=ZcW.1 hp
 simp only [List.mem_singleton] at hn
 subst hn;rfl
theorem ZAb (i:Nat) (x:Ze):(Xf i x).length=(Ze.ZI x).length:=by
 have:∀ (l:List Int) (m:Nat) (c:Int),(cat (fun j n=>[((i:Int),(j:Int),n,decide ((j:Int)=c),())]) m l).length=l.length:=by
  intro l
  induction l with
  | nil=>intro m c;rfl
  | cons y r ih=>intro m c;simp only [cat,List.length_append,List.length_nil,ih,List.length_cons];omega
 unfold Xf
 exact this _ _ _
theorem ZoK {d:Zb} {k:Nat} {p:Pl} (hp:(places d)[k]?=some p):(p.1<0↔(places d).length≤k+(Zb.ZK d).length)∧-1≤p.1:=by
 have hl:(places d).length=(cat Xf 0 (Zb.Instances d)).length+(Zb.ZK d).length:=by unfold places;rw [List.length_append,ZpZ]
 by_cases hk:k<(cat Xf 0 (Zb.Instances d)).length
 ·have h1:p∈cat Xf 0 (Zb.Instances d):=by
   unfold places at hp
   rw [List.getElem?_append_left hk] at hp
   exact List.mem_of_getElem? hp
  obtain ⟨i,z,hi,hz⟩:=ZcW.1 h1
  have:=Zsu hz
  omega
 ·have h1:p∈cat ZcI 0 (Zb.ZK d):=by
   unfold places at hp
   rw [List.getElem?_append_right (by omega)] at hp
   exact List.mem_of_getElem? hp
  obtain ⟨j,q,hj,hq⟩:=ZcW.1 h1
  simp only [ZcI,List.mem_singleton] at hq
  subst hq
  simp only
  omega
theorem Zw9 {d:Zb} {x:Ze} (hn:0<(Zb.Instances d).length) (hx:(Zb.Instances d)[(Zb.Instances d).length-1]?=some x) {k:Nat} {p:Pl} (hp:(places d)[k]?=some p) (h0:0≤p.1) :
  p.1=((Zb.Instances d).length:Int)-1↔(places d).length≤k+(Zb.ZK d).length+(Ze.ZI x).length:=by
 have hl:(places d).length=(cat Xf 0 (Zb.Instances d)).length+(Zb.ZK d).length:=by unfold places;rw [List.length_append,ZpZ]
 have hs:cat Xf 0 (Zb.Instances d)=cat Xf 0 ((Zb.Instances d).take ((Zb.Instances d).length-1))++Xf ((Zb.Instances d).length-1) x:=by
  rw [←Zht hx,show (Zb.Instances d).length-1+1=(Zb.Instances d).length by omega,List.take_length]
 have hsl:=congrArg List.length hs
 rw [List.length_append,ZAb] at hsl
 have hk:k<(cat Xf 0 (Zb.Instances d)).length:=by
  have:=(ZoK hp).1
  omega
 have h1:(cat Xf 0 (Zb.Instances d))[k]?=some p:=by
  unfold places at hp
  rwa [List.getElem?_append_left hk] at hp
 rw [hs] at h1
 by_cases hk2:k<(cat Xf 0 ((Zb.Instances d).take ((Zb.Instances d).length-1))).length
 ·rw [List.getElem?_append_left hk2] at h1
  obtain ⟨i,z,hi,hz⟩:=ZcW.1 (List.mem_of_getElem? h1)
  have e:=Zsu hz
  have hil:=(List.getElem?_eq_some_iff.1 hi).1
  rw [List.length_take] at hil
  omega
 ·rw [List.getElem?_append_right (by omega)] at h1
  have e:=Zsu (List.mem_of_getElem? h1)
  omega
noncomputable def Zt2 (b:Za) (e:Zk) (k:Nat) (p:Pl):Int :=
 if Zk.Kind e=2∧p.1<0 then (k:Int)+2
 else if Zk.Kind e=3∧p.1<0 then (k:Int)-2
 else if Zk.Kind e=3∧p.1=((Zb.Instances (Za.Design b)).length:Int)-1 then -1
 else (k:Int)
theorem ZA5 {b:Za} {e:Zk} {k:Nat} {p:Pl} (k2:Zk.Kind e=2) (q1:p.1<0):Zt2 b e k p=(k:Int)+2:=by unfold Zt2;rw [if_pos ⟨k2,q1⟩]
theorem ZBe {b:Za} {e:Zk} {k:Nat} {p:Pl} (k3:Zk.Kind e=3) (q1:p.1<0):Zt2 b e k p=(k:Int)-2:=by unfold Zt2;rw [if_neg (fun q=>by have:=q.1;omega),if_pos ⟨k3,q1⟩]
theorem ZA2 {b:Za} {e:Zk} {k:Nat} {p:Pl} (k3:Zk.Kind e=3) (q1:¬p.1<0) (q2:p.1=((Zb.Instances (Za.Design b)).length:Int)-1):Zt2 b e k p=-1:=by unfold Zt2;rw [if_neg (fun q=>q1 q.2),if_neg (fun q=>q1 q.2),if_pos ⟨k3,q2⟩]
theorem ZA6 {b:Za} {e:Zk} {k:Nat} {p:Pl} (k3:Zk.Kind e=3) (q1:¬p.1<0) (q2:¬p.1=((Zb.Instances (Za.Design b)).length:Int)-1):Zt2 b e k p=(k:Int):=by unfold Zt2;rw [if_neg (fun q=>q1 q.2),if_neg (fun q=>q1 q.2),if_neg (fun q=>q2 q.2)]
theorem ZvX {b:Za} {e:Zk} {k:Nat} {p:Pl} (k3:¬Zk.Kind e=3) (q1:¬(Zk.Kind e=2∧p.1<0)):Zt2 b e k p=(k:Int):=by unfold Zt2;rw [if_neg q1,if_neg (fun q=>k3 q.1),if_neg (fun q=>k3 q.1)]
noncomputable def after (b:Za) (e:Zk):List Int:=cat (fun k p=>[Zt2 b e k p]) 0 (places (Za.Design b))
theorem Zp2 {α β:Type} {g:Nat→α→β}:∀ (l:List α) (m:Nat),(cat (fun j n=>[g j n]) m l).length=l.length
 | [],_=>rfl
 | x::r,m=>by simp only [cat,List.length_append,List.length_nil,Zp2 r,List.length_cons];omega
theorem Zmc {b:Za} {e:Zk} (h:ZpA b e):Jv e b=some (after b e):=by
 have hD:=h.blk.ok.1
 have hf:=hD.few
 have hpl:=Y7 hf
 have h14:=hf.insts
 unfold Jv
 rw [show XR (Zb.Instances (Za.Design b))=some ((Zb.Instances (Za.Design b)).length:Int) from rfl,Yl _ hf,Option.bind_some,Option.bind_some]
 have:=Zbp (l:=places (Za.Design b)) (ρ:=List Int) (fun k p=>[Zt2 b e k p]) [] (step:=fun v=>Qq e ((Zb.Instances (Za.Design b)).length:Int) (places (Za.Design b)) v.1 v.2.1) (good:=after b e)
  (fun k p hp hk=>by
   have hl:=Zp2 (g:=Zt2 b e) ((places (Za.Design b)).take k) 0
   rw [List.length_take] at hl
   have hpp:=ZoK hp
   have hg:∀ n:Int,(([]++cat (fun k p=>[Zt2 b e k p]) 0 ((places (Za.Design b)).take k)).length+[n].length)*8≤140737488355328:=fun n=>by
    rw [List.nil_append,List.length_singleton,hl];omega
   simp only [Qq,show (k:Int)<((places (Za.Design b)).length:Int) from by omega,if_true,Zt,hp,Option.bind_some,Zj (hg _),XK (show k≤1048576 by omega),Qc (show (-9223372036854775808:Int)≤(k:Int)+2 by omega) (by omega),Qc (show (-9223372036854775808:Int)≤(k:Int)-2 by omega) (by omega),Qc (show (-9223372036854775808:Int)≤((Zb.Instances (Za.Design b)).length:Int)-1 by omega) (by omega),ZM.instance]
   by_cases k2:Zk.Kind e=2
   ·have k3:¬Zk.Kind e=3:=by omega
    by_cases q1:p.1<0
    ·rw [ZA5 k2 q1,if_pos k2,if_pos q1]
    ·rw [ZvX k3 (fun q=>q1 q.2),if_pos k2,if_neg q1,if_neg k3,if_neg k3]
   ·rw [if_neg k2]
    by_cases k3:Zk.Kind e=3
    ·by_cases q1:p.1<0
     ·rw [ZBe k3 q1,if_pos k3,if_pos q1]
     ·by_cases q2:p.1=((Zb.Instances (Za.Design b)).length:Int)-1
      ·rw [ZA2 k3 q1 q2,if_pos k3,if_neg q1,if_pos k3,if_pos q2]
      ·rw [ZA6 k3 q1 q2,if_pos k3,if_neg q1,if_pos k3,if_neg q2]
    ·rw [ZvX k3 (fun q=>k2 q.1),if_neg k3,if_neg k3])
  (by simp only [Qq,Int.lt_irrefl,if_false];rfl)
 exact this
theorem Zoj {b:Za} {e:Zk} (h:ZpA b e):Zfp b e=some (after b e):=by
 have hD:=h.blk.ok.1
 have hf:=hD.few
 have hpl:=Y7 hf
 have h14:=hf.insts
 have h8:=hf.ports
 have hle:(Zb.ZK (Za.Design b)).length≤(places (Za.Design b)).length:=by unfold places;rw [List.length_append,ZpZ];omega
 unfold Zfp
 rw [Xe _ hf,Option.bind_some]
 have:=Zbp (l:=places (Za.Design b)) (ρ:=List Int) (fun k p=>[Zt2 b e k p]) [] (step:=fun v=>Zab b e (places (Za.Design b)) v.1 v.2.1) (good:=after b e)
  (fun k p hp hk=>by
   have hl:=Zp2 (g:=Zt2 b e) ((places (Za.Design b)).take k) 0
   rw [List.length_take] at hl
   obtain ⟨hpp,hm1⟩:=ZoK hp
   have hg:∀ n:Int,(([]++cat (fun k p=>[Zt2 b e k p]) 0 ((places (Za.Design b)).take k)).length+[n].length)*8≤140737488355328:=fun n=>by
    rw [List.nil_append,List.length_singleton,hl];omega
   have e1:IntKind.i64.wrap (((places (Za.Design b)).length:Int)-((Zb.ZK (Za.Design b)).length:Int))=((places (Za.Design b)).length:Int)-((Zb.ZK (Za.Design b)).length:Int):=Qc (by omega) (by omega)
   have e2:IntKind.i64.wrap (((places (Za.Design b)).length:Int)-((Zb.ZK (Za.Design b)).length:Int)-2)=((places (Za.Design b)).length:Int)-((Zb.ZK (Za.Design b)).length:Int)-2:=Qc (by omega) (by omega)
   have c1:(((places (Za.Design b)).length:Int)-((Zb.ZK (Za.Design b)).length:Int)≤(k:Int))=(p.1<0):=propext ⟨fun q=>hpp.2 (by omega),fun q=>by have:=hpp.1 q;omega⟩
   simp only [Zab,show (k:Int)<((places (Za.Design b)).length:Int) from by omega,if_true,Zj (hg _),XK (show k≤1048576 by omega),Qc (show (-9223372036854775808:Int)≤(k:Int)+2 by omega) (by omega),Qc (show (-9223372036854775808:Int)≤(k:Int)-2 by omega) (by omega),e1,e2,c1]
   by_cases k2:Zk.Kind e=2
   ·have k3:¬Zk.Kind e=3:=by omega
    by_cases q1:p.1<0
    ·rw [ZA5 k2 q1,if_pos k2,if_pos q1]
    ·rw [ZvX k3 (fun q=>q1 q.2),if_pos k2,if_neg q1,if_neg k3,if_neg k3]
   ·rw [if_neg k2]
    by_cases k3:Zk.Kind e=3
    ·obtain ⟨hn,x,hx,hx2⟩:=h.last k3
     by_cases q1:p.1<0
     ·rw [ZBe k3 q1,if_pos k3,if_pos q1]
     ·have hL:=Zw9 hn hx hp (by omega)
      rw [hx2] at hL
      have c2:(((places (Za.Design b)).length:Int)-((Zb.ZK (Za.Design b)).length:Int)-2≤(k:Int))=(p.1=((Zb.Instances (Za.Design b)).length:Int)-1):=propext ⟨fun q=>hL.2 (by omega),fun q=>by have:=hL.1 q;omega⟩
      simp only [c2]
      by_cases q2:p.1=((Zb.Instances (Za.Design b)).length:Int)-1
      ·rw [ZA2 k3 q1 q2,if_pos k3,if_neg q1,if_pos k3,if_pos q2]
      ·rw [ZA6 k3 q1 q2,if_pos k3,if_neg q1,if_pos k3,if_neg q2]
    ·rw [ZvX k3 (fun q=>k2 q.1),if_neg k3,if_neg k3])
  (by simp only [Zab,Int.lt_irrefl,if_false];rfl)
 exact this
theorem Zxn (b:Za) (e:Zk):(after b e).length=(places (Za.Design b)).length:=Zp2 _ _
end Go.Proofs.YtoefbkmllkpkkaaGreatDoor
/-
  Plain laws: places, one by one; a place put on another net; an instance more, an instance less.
-/
namespace Go.Proofs.YtoefbkmllkpkkaaGreatDoor
set_option linter.unusedVariables false
set_option linter.unusedSimpArgs false
open Go Go.Sx
theorem Zb6 {α β:Type} {g:Nat→α→β}:∀ (l:List α) (m j:Nat),(cat (fun j n=>[g j n]) m l)[j]?=(l[j]?).map (g (m+j))
 | [],m,j=>by simp [cat]
 | x::r,m,0=>by simp [cat]
 | x::r,m,j+1=>by
  simp only [cat,List.singleton_append,List.getElem?_cons_succ,Zb6 r]
  rw [show m+1+j=m+(j+1) by omega]
theorem JR {α β:Type} {g:Nat→α→β}:∀ (l:List α) (m:Nat),(cat (fun j n=>[g j n]) m l).length=l.length
 | [],m=>rfl
 | x::r,m=>by simp only [cat,List.singleton_append,List.length_cons,JR r]
theorem Zmi {α β:Type} {g:Nat→α→β} (y:α):∀ (l:List α) (m j:Nat),cat (fun j n=>[g j n]) m (l.set j y)=(cat (fun j n=>[g j n]) m l).set j (g (m+j) y)
 | [],m,j=>by simp [cat]
 | x::r,m,0=>by simp [cat]
 | x::r,m,j+1=>by
  simp only [cat,List.singleton_append,List.set_cons_succ,Zmi y r]
  rw [show m+1+j=m+(j+1) by omega]
theorem Zhf {α β:Type} (f:Nat→α→List β) {l:List α} {i:Nat} {x:α} (hx:l[i]?=some x):cat f 0 l=cat f 0 (l.take i)++(f i x++cat f (i+1) (l.drop (i+1))):=by
 have hi:=(List.getElem?_eq_some_iff.1 hx).1
 have e:l=l.take i++(x::l.drop (i+1)):=by
  have hd:l.drop i=x::l.drop (i+1):=by
   rw [List.drop_eq_getElem_cons hi];congr 1;exact (List.getElem?_eq_some_iff.1 hx).2
  rw [←hd,List.take_append_drop]
 have e2:=congrArg (cat f 0) e
 rw [Ze6] at e2
 simp only [cat,Nat.zero_add,List.length_take] at e2
 rw [show min i l.length=i by omega] at e2
 exact e2
theorem ZBu {α β:Type} (f:Nat→α→List β) {l:List α} {i j:Nat} {x y:α} {z:β} (hx:l[i]?=some x) (hj:j<(f i x).length) (hy:f i y=(f i x).set j z):cat f 0 (l.set i y)=(cat f 0 l).set ((cat f 0 (l.take i)).length+j) z:=by
 have hi:=(List.getElem?_eq_some_iff.1 hx).1
 rw [Zhf f hx,Zhf f (l:=l.set i y) (x:=y) (List.getElem?_set_self hi),List.take_set,List.set_eq_of_length_le (by rw [List.length_take];omega),List.drop_set_of_lt (by omega),hy,List.set_append,if_neg (by omega),List.set_append,if_pos (by omega),Nat.add_sub_cancel_left]
abbrev Zgz (d:Zb) (i:Nat):Nat:=(cat Xf 0 ((Zb.Instances d).take i)).length
abbrev YL (d:Zb):Nat:=(cat Xf 0 (Zb.Instances d)).length
def ZeG (i:Nat) (x:Ze) (j:Nat) (n:Int):Pl:=((i:Int),(j:Int),n,decide ((j:Int)=IntKind.i64.wrap (((Ze.ZI x).length:Int)-1)),())
theorem ZnO (i:Nat) (x:Ze):Xf i x=cat (fun j n=>[ZeG i x j n]) 0 (Ze.ZI x):=rfl
theorem Zio {i:Nat} {x:Ze} {j:Nat} {n:Int} (h:(Ze.ZI x)[j]?=some n):(Xf i x)[j]?=some (ZeG i x j n):=by
 rw [ZnO,Zb6,h,Nat.zero_add];rfl
theorem QT (i:Nat) (x:Ze):(Xf i x).length=(Ze.ZI x).length:=by rw [ZnO,JR]
theorem Znp (l:List ZT) (m:Nat):cat ZcI m l=cat (fun j p=>[((-1:Int),(j:Int),ZT.Net p,decide (ZT.Dir p=1),())]) m l:=rfl
theorem Zt7 (l:List ZT) (m:Nat):(cat ZcI m l).length=l.length:=by rw [Znp,JR]
theorem ZhE {d:Zb} {i j:Nat} {x:Ze} {n:Int} (hx:(Zb.Instances d)[i]?=some x) (hn:(Ze.ZI x)[j]?=some n):(places d)[Zgz d i+j]?=some (ZeG i x j n):=by
 have hj:=(List.getElem?_eq_some_iff.1 hn).1
 unfold places
 rw [Zhf Xf hx,List.append_assoc,List.getElem?_append_right (by unfold Zgz;omega),show Zgz d i+j-(cat Xf 0 ((Zb.Instances d).take i)).length=j by unfold Zgz;omega,List.append_assoc,List.getElem?_append_left (by rw [QT];exact hj)]
 exact Zio hn
theorem Zsw {d:Zb} {j:Nat} {q:ZT} (hq:(Zb.ZK d)[j]?=some q):(places d)[YL d+j]?=some ((-1:Int),(j:Int),ZT.Net q,decide (ZT.Dir q=1),()):=by
 unfold places
 rw [List.getElem?_append_right (by unfold YL;omega),show YL d+j-(cat Xf 0 (Zb.Instances d)).length=j by unfold YL;omega,Znp,Zb6,hq,Nat.zero_add];rfl
theorem JV {d:Zb} {k:Nat} {p:Pl} (hp:(places d)[k]?=some p) :
  (∃ (i j:Nat) (x:Ze) (n:Int),(Zb.Instances d)[i]?=some x∧(Ze.ZI x)[j]?=some n∧k=Zgz d i+j∧p=ZeG i x j n)∨
  (∃ (j:Nat) (q:ZT),(Zb.ZK d)[j]?=some q∧k=YL d+j∧p=((-1:Int),(j:Int),ZT.Net q,decide (ZT.Dir q=1),())):=by
 by_cases hk:k<YL d
 ·left
  have h1:(cat Xf 0 (Zb.Instances d))[k]?=some p:=by
   unfold places at hp
   rwa [List.getElem?_append_left (show k<(cat Xf 0 (Zb.Instances d)).length from hk)] at hp
  have find:∀ (n:Nat),n≤(Zb.Instances d).length→k<Zgz d n→∃ i,i<n∧Zgz d i≤k∧k<Zgz d (i+1):=by
   intro n
   induction n with
   | zero=>intro _ h;simp [Zgz,cat] at h
   | succ n ih =>
    intro hn hlt
    by_cases hq:k<Zgz d n
    ·obtain ⟨i,a,b,c⟩:=ih (by omega) hq
     exact ⟨i,by omega,b,c⟩
    ·exact ⟨n,by omega,by omega,hlt⟩
  obtain ⟨i,hi,hlo,hhi⟩:=find (Zb.Instances d).length (Nat.le_refl _) (by unfold Zgz;rw [List.take_length];exact hk)
  have hx:(Zb.Instances d)[i]?=some (Zb.Instances d)[i]:=List.getElem?_eq_getElem hi
  generalize (Zb.Instances d)[i]=x at hx
  have hs:Zgz d (i+1)=Zgz d i+(Ze.ZI x).length:=by
   unfold Zgz
   rw [Zht hx,List.length_append,QT]
  have hj:k-Zgz d i<(Ze.ZI x).length:=by omega
  have hn:(Ze.ZI x)[k-Zgz d i]?=some (Ze.ZI x)[k-Zgz d i]:=List.getElem?_eq_getElem hj
  generalize (Ze.ZI x)[k-Zgz d i]=n at hn
  refine ⟨i,k-Zgz d i,x,n,hx,hn,by omega,?_⟩
  have h2:=ZhE hx hn
  rw [show Zgz d i+(k-Zgz d i)=k by omega,hp] at h2
  injection h2
 ·right
  have h1:(cat ZcI 0 (Zb.ZK d))[k-YL d]?=some p:=by
   unfold places at hp
   rwa [List.getElem?_append_right (show (cat Xf 0 (Zb.Instances d)).length≤k from Nat.le_of_not_lt hk)] at hp
  rw [Znp,Zb6,Nat.zero_add] at h1
  cases hq:(Zb.ZK d)[k-YL d]? with
  | none=>rw [hq] at h1;cases h1
  | some q =>
   rw [hq] at h1
   injection h1 with h1
   exact ⟨k-YL d,q,hq,by omega,h1.symm⟩
theorem key_inj {d:Zb} {k k':Nat} {p p':Pl} (hp:(places d)[k]?=some p) (hp':(places d)[k']?=some p') (h1:p.1=p'.1) (h2:p.2.1=p'.2.1):k=k':=by
 rcases JV hp with ⟨i,j,x,n,_,_,e,rfl⟩ | ⟨j,q,_,e,rfl⟩<;>rcases JV hp' with ⟨i',j',x',n',_,_,e',rfl⟩ | ⟨j',q',_,e',rfl⟩
 ·simp only [ZeG] at h1 h2
  have:i=i':=by omega
  have:j=j':=by omega
  subst i' j'
  omega
 ·simp only [ZeG] at h1;omega
 ·simp only [ZeG] at h1;omega
 ·simp only at h2
  omega
def ZeK (x:Ze) (j:Nat) (n:Int):Ze:=(Ze.Name x,Ze.Cell x,List.set (Ze.ZI x) j n,())
def setPort (q:ZT) (n:Int):ZT:=(ZT.Name q,ZT.Dir q,n,())
def conn (d:Zb) (a b:Int) (n:Int):Zb :=
 if a<0 then (Zb.Instances d,Zb.ZI d,match (Zb.ZK d)[b.toNat]? with
  | some q=>(Zb.ZK d).set b.toNat (setPort q n)
  | none=>Zb.ZK d,())
 else (match (Zb.Instances d)[a.toNat]? with
  | some x=>(Zb.Instances d).set a.toNat (ZeK x b.toNat n)
  | none=>Zb.Instances d,Zb.ZI d,Zb.ZK d,())
theorem ZyH (i:Nat) (x:Ze) (j:Nat) (n:Int):Xf i (ZeK x j n)=(Xf i x).set j (ZeG i x j n):=by
 rw [ZnO,ZnO]
 show cat (fun (j':Nat) (m:Int)=>[ZeG i (ZeK x j n) j' m]) 0 (List.set (Ze.ZI x) j n)=_
 have:(fun (j':Nat) (m:Int)=>[ZeG i (ZeK x j n) j' m])=fun j' m=>[ZeG i x j' m]:=by
  funext j' m
  have hl:(Ze.ZI (ZeK x j n)).length=(Ze.ZI x).length:=List.length_set
  simp only [ZeG,hl]
 rw [this,Zmi,Nat.zero_add]
theorem X3 {d:Zb} {k:Nat} {p:Pl} (hp:(places d)[k]?=some p) (n:Int):places (conn d p.1 p.2.1 n)=(places d).set k (p.1,p.2.1,n,p.2.2.2.1,()):=by
 rcases JV hp with ⟨i,j,x,m,hx,hn,e,rfl⟩ | ⟨j,q,hq,e,rfl⟩
 ·have hj:=(List.getElem?_eq_some_iff.1 hn).1
  have e1:conn d (ZeG i x j m).1 (ZeG i x j m).2.1 n=((Zb.Instances d).set i (ZeK x j n),Zb.ZI d,Zb.ZK d,()):=by
   unfold conn
   rw [if_neg (by simp only [ZeG];omega)]
   simp only [ZeG,Int.toNat_natCast,hx]
  rw [e1]
  unfold places
  show cat Xf 0 ((Zb.Instances d).set i (ZeK x j n))++cat ZcI 0 (Zb.ZK d)=_
  have hlt:k<(cat Xf 0 (Zb.Instances d)).length:=by
   rw [Zhf Xf hx,List.length_append,List.length_append,QT]
   unfold Zgz at e
   omega
  rw [ZBu Xf hx (j:=j) (z:=ZeG i x j n) (by rw [QT];exact hj) (ZyH i x j n),List.set_append,if_pos hlt,e]
  rfl
 ·have e1:conn d (-1) (j:Int) n=(Zb.Instances d,Zb.ZI d,(Zb.ZK d).set j (setPort q n),()):=by
   unfold conn
   rw [if_pos (by omega)]
   simp only [Int.toNat_natCast,hq]
  show places (conn d (-1) (j:Int) n)=_
  rw [e1]
  unfold places
  show cat Xf 0 (Zb.Instances d)++cat ZcI 0 ((Zb.ZK d).set j (setPort q n))=_
  rw [List.set_append,if_neg (by unfold YL at e;omega),Znp,Zmi,Nat.zero_add,e,show YL d+j-(cat Xf 0 (Zb.Instances d)).length=j by unfold YL;omega,Znp]
  rfl
end Go.Proofs.YtoefbkmllkpkkaaGreatDoor
/-
  Plain laws: the wires' sinks out of the places' nodes.
-/
namespace Go.Proofs.YtoefbkmllkpkkaaGreatDoor
set_option linter.unusedVariables false
set_option linter.unusedSimpArgs false
open Go Go.Sx
def nth (pl:List Pl) (net:Int) (k:Nat):Nat:=(cat (ZaB net) 0 (pl.take k)).length
theorem Zkq {net:Int} {k:Nat} {p:Pl} (h:¬(p.2.2.1=net∧p.2.2.2.1=false)):ZaB net k p=[]:=by
 unfold ZaB
 split
 ·split
  ·rfl
  ·rename_i h1 h2;exact absurd ⟨h1,by simpa using h2⟩ h
 ·rfl
theorem ZjK {net:Int} {k:Nat} {p:Pl} (h1:p.2.2.1=net) (h2:p.2.2.2.1=false):ZaB net k p=[(k:Int)]:=by
 unfold ZaB
 rw [if_pos h1,if_neg (by rw [h2];simp)]
theorem ZnH {pl:List Pl} {net:Int} {k:Nat} {p:Pl} (hp:pl[k]?=some p) (h1:p.2.2.1=net) (h2:p.2.2.2.1=false):(cat (ZaB net) 0 pl)[nth pl net k]?=some (k:Int):=by
 rw [Zhf (ZaB net) hp,ZjK h1 h2]
 unfold nth
 rw [List.getElem?_append_right (Nat.le_refl _),Nat.sub_self]
 rfl
theorem ZxV {pl:List Pl} {net:Int} {v:Int} (hv:v∈cat (ZaB net) 0 pl):∃ (k:Nat) (p:Pl),v=(k:Int)∧pl[k]?=some p∧p.2.2.1=net∧p.2.2.2.1=false:=by
 obtain ⟨k,p,hp,hv⟩:=ZcW.1 hv
 by_cases h:p.2.2.1=net∧p.2.2.2.1=false
 ·rw [ZjK h.1 h.2] at hv
  simp only [List.mem_singleton] at hv
  exact ⟨k,p,by rw [hv];simp,hp,h.1,h.2⟩
 ·rw [Zkq h] at hv
  cases hv
theorem Zx8 {pl:List Pl} {net:Int} {k:Nat} {p:Pl} (hp:pl[k]?=some p) (h1:p.2.2.1=net) (h2:p.2.2.2.1=false):nth pl net k<(cat (ZaB net) 0 pl).length:=(List.getElem?_eq_some_iff.1 (ZnH hp h1 h2)).1
def Xh (b:Za) (k:Nat):Int:=match (places (Za.Design b))[k]? with
 | some p=>if p.2.2.2.1=true then 0 else match (Za.ZC b)[p.2.2.1.toNat]? with
  | some w=>((Zr.ZfR w)[nth (places (Za.Design b)) p.2.2.1 k]?).getD 0
  | none=>0
 | none=>0
def ZeP (w:Zr) (l:List Int):Zr:=(Zr.Parent w,Zr.Res w,Zr.Cap w,l,())
def wired (pl:List Pl) (ws:List Zr) (nd:Nat→Int):List Zr:=cat (fun v w=>[ZeP w ((cat (ZaB (v:Int)) 0 pl).map (fun k=>nd k.toNat))]) 0 ws
theorem Zew (pl:List Pl) (ws:List Zr) (nd:Nat→Int) (v:Nat):(wired pl ws nd)[v]?=(ws[v]?).map (fun w=>ZeP w ((cat (ZaB (v:Int)) 0 pl).map (fun k=>nd k.toNat))):=by
 unfold wired
 rw [Zb6,Nat.zero_add]
theorem Zim (pl:List Pl) (ws:List Zr) (nd:Nat→Int):(wired pl ws nd).length=ws.length:=JR _ _
def ZgN (pl:List Pl) (ws:List Zr) (nd:Nat→Int) (k:Nat):List Zr:=wired (pl.take k) ws nd
theorem Zuz {pl:List Pl} {ws:List Zr} {nd:Nat→Int} {k:Nat} {p:Pl} {w:Zr} (hp:pl[k]?=some p) (h2:p.2.2.2.1=false) (h0:0≤p.2.2.1) (hw:ws[p.2.2.1.toNat]?=some w) :
  (ZgN pl ws nd k)[p.2.2.1.toNat]?=some (ZeP w ((cat (ZaB p.2.2.1) 0 (pl.take k)).map (fun k=>nd k.toNat)))∧
  (ZgN pl ws nd k).set p.2.2.1.toNat (ZeP w ((cat (ZaB p.2.2.1) 0 (pl.take k)).map (fun k=>nd k.toNat)++[nd k]))=ZgN pl ws nd (k+1):=by
 have hk:=(List.getElem?_eq_some_iff.1 hp).1
 have hlt:=(List.getElem?_eq_some_iff.1 hw).1
 unfold ZgN
 constructor
 ·rw [Zew,hw,show ((p.2.2.1.toNat:Nat):Int)=p.2.2.1 by omega]
  rfl
 ·apply List.ext_getElem?
  intro v
  rw [List.getElem?_set,Zew,Zew]
  have hs:∀ net:Int,cat (ZaB net) 0 (pl.take (k+1))=cat (ZaB net) 0 (pl.take k)++ZaB net k p:=fun net=>Zht hp
  split
  ·rename_i e
   subst e
   rw [Zim,if_pos hlt,hw,hs,show ((p.2.2.1.toNat:Nat):Int)=p.2.2.1 by omega,ZjK rfl h2,List.map_append]
   simp only [List.map_cons,List.map_nil,Int.toNat_natCast,Option.map_some]
  ·rename_i e
   congr 1
   funext w'
   congr 1
   rw [hs,Zkq (fun q=>e (by have:=q.1;omega)),List.append_nil]
theorem Zul {pl:List Pl} {ws:List Zr} {nd:Nat→Int} {k:Nat} {p:Pl} (hp:pl[k]?=some p) (h2:p.2.2.2.1=true):ZgN pl ws nd (k+1)=ZgN pl ws nd k:=by
 unfold ZgN
 apply List.ext_getElem?
 intro v
 rw [Zew,Zew]
 congr 1
 funext w'
 congr 1
 rw [Zht hp,Zkq (fun q=>by rw [h2] at q;cases q.2),List.append_nil]
end Go.Proofs.YtoefbkmllkpkkaaGreatDoor
/-
  Plain laws: maps by their keys.
-/
namespace Go.Proofs.YtoefbkmllkpkkaaGreatDoor
set_option linter.unusedVariables false
set_option linter.unusedSimpArgs false
open Go Go.Sx
abbrev Key:Ty:=.pair (.int .i64) (.pair (.int .i64) .unit)
theorem ZsX (x y:Key.den):keq Key x y=true↔x=y:=by
 obtain ⟨a,b,⟨⟩⟩:=x
 obtain ⟨c,d,⟨⟩⟩:=y
 simp [keq]
theorem Zqy {k v:Ty} (hk:∀ x y:k.den,keq k x y=true↔x=y) (x z:k.den) (y:v.den):∀ (d:List (k.den×v.den)),ZkX k v (Zo6 k v d x y) z=if keq k z x=true then some y else ZkX k v d z
 | []=>by simp only [Zo6,ZkX]
 | e::l=>by
  by_cases h1:keq k x e.1=true
  ·simp only [Zo6,if_pos h1,ZkX]
   by_cases h2:keq k z x=true
   ·simp only [if_pos h2]
   ·have h3:¬keq k z e.1=true:=fun q=>h2 ((hk _ _).2 (((hk _ _).1 q).trans ((hk _ _).1 h1).symm))
    simp only [if_neg h2,if_neg h3]
  ·simp only [Zo6,if_neg h1,ZkX]
   by_cases h3:keq k z e.1=true
   ·have h2:¬keq k z x=true:=fun q=>h1 ((hk _ _).2 (((hk _ _).1 q).symm.trans ((hk _ _).1 h3)))
    simp only [if_pos h3,if_neg h2]
   ·simp only [if_neg h3,Zqy hk x z y l]
theorem ZqG {v:Ty} (d:List (Key.den×v.den)) (x:Key.den) (y:v.den):ZkX Key v (Zo6 Key v d x y) x=some y:=by
 rw [Zqy ZsX,if_pos ((ZsX _ _).2 rfl)]
theorem ZoH {v:Ty} (d:List (Key.den×v.den)) {x z:Key.den} (y:v.den) (h:z≠x):ZkX Key v (Zo6 Key v d x y) z=ZkX Key v d z:=by
 rw [Zqy ZsX,if_neg (fun q=>h ((ZsX _ _).1 q))]
end Go.Proofs.YtoefbkmllkpkkaaGreatDoor
/-
  Plain laws: nodes by keys against nodes by places; kept when a place is put on another net, when an instance is added or removed.
-/
namespace Go.Proofs.YtoefbkmllkpkkaaGreatDoor
set_option linter.unusedVariables false
set_option linter.unusedSimpArgs false
open Go Go.Sx
abbrev ZlT:=List (Key.den×(Ty.int .i64).den)
def Zwe (p:Pl):Key.den:=(p.1,p.2.1,())
def Maps (nodes:ZlT) (pl:List Pl) (nd:Nat→Int):Prop:=∀ (k:Nat) (p:Pl),pl[k]?=some p→p.2.2.2.1=false→ZkX Key (.int .i64) nodes (Zwe p)=some (nd k)
theorem Zv1 {d:Zb} {k k':Nat} {p p':Pl} (hp:(places d)[k]?=some p) (hp':(places d)[k']?=some p') (h:Zwe p=Zwe p'):k=k':=by
 unfold Zwe at h
 injection h with h1 h2
 injection h2 with h2 _
 exact key_inj hp hp' h1 h2
theorem Maps.put {nodes:ZlT} {d:Zb} {nd:Nat→Int} (h:Maps nodes (places d) nd) {k0:Nat} {p0:Pl} (hp0:(places d)[k0]?=some p0) (v:Int):Maps (Zo6 Key (.int .i64) nodes (Zwe p0) v) (places d) (fun k=>if k=k0 then v else nd k):=by
 intro k p hp hd
 by_cases e:k=k0
 ·subst e
  rw [hp0] at hp
  injection hp with hp
  subst hp
  simp only [if_true]
  exact ZqG _ _ _
 ·simp only [if_neg e]
  rw [ZoH _ _ (fun q=>e (Zv1 hp hp0 q))]
  exact h k p hp hd
theorem Maps.set {nodes:ZlT} {pl:List Pl} {nd:Nat→Int} (h:Maps nodes pl nd) {k0:Nat} {p0:Pl} (hp0:pl[k0]?=some p0) (n:Int):Maps nodes (pl.set k0 (p0.1,p0.2.1,n,p0.2.2.2.1,())) nd:=by
 intro k p hp hd
 by_cases e:k0=k
 ·subst e
  rw [List.getElem?_set_self (List.getElem?_eq_some_iff.1 hp0).1] at hp
  injection hp with hp
  subst hp
  exact h k0 p0 hp0 hd
 ·rw [List.getElem?_set_ne e] at hp
  exact h k p hp hd
def addInst (d:Zb) (x:Ze) (s:List UInt8):Zb:=(Zb.Instances d++[x],Zb.ZI d++[s],Zb.ZK d,())
theorem ZgF (d:Zb) (x:Ze) (s:List UInt8):places (addInst d x s)=cat Xf 0 (Zb.Instances d)++Xf (Zb.Instances d).length x++cat ZcI 0 (Zb.ZK d):=by
 unfold places addInst
 show cat Xf 0 (Zb.Instances d++[x])++_=_
 rw [Ze6,Nat.zero_add]
 simp only [cat,List.append_nil]
theorem Zuq {d:Zb} {x:Ze} {s:List UInt8} {k:Nat} (hk:k<YL d):(places (addInst d x s))[k]?=(places d)[k]?:=by
 rw [ZgF,List.append_assoc,List.getElem?_append_left hk]
 unfold places
 rw [List.getElem?_append_left hk]
theorem add_mid {d:Zb} {x:Ze} {s:List UInt8} {j:Nat} (hj:j<(Ze.ZI x).length):(places (addInst d x s))[YL d+j]?=(Xf (Zb.Instances d).length x)[j]?:=by
 rw [ZgF,List.append_assoc,List.getElem?_append_right (by unfold YL;omega),show YL d+j-(cat Xf 0 (Zb.Instances d)).length=j by unfold YL;omega,List.getElem?_append_left (by rw [QT];exact hj)]
theorem Zun {d:Zb} {x:Ze} {s:List UInt8} {k:Nat} (hk:YL d≤k):(places (addInst d x s))[k+(Ze.ZI x).length]?=(places d)[k]?:=by
 have h1:(cat Xf 0 (Zb.Instances d)).length≤k:=hk
 rw [ZgF,List.getElem?_append_right (by rw [List.length_append,QT];omega),List.length_append,QT]
 unfold places
 rw [List.getElem?_append_right h1]
 congr 1
 omega
def Zvj (nd:Nat→Int) (m:Nat) (v:Int) (k:Nat):Int:=if k<m then nd k else if k=m then v else if k=m+1 then 0 else nd (k-2)
theorem Maps.add {nodes:ZlT} {d:Zb} {nd:Nat→Int} (h:Maps nodes (places d) nd) {x:Ze} {s:List UInt8} (h2:(Ze.ZI x).length=2) (hi:(Zb.Instances d).length≤1048576) (v:Int) :
  Maps (Zo6 Key (.int .i64) nodes (((Zb.Instances d).length:Int),0,()) v) (places (addInst d x s)) (Zvj nd (YL d) v):=by
 intro k p hp hd
 have other:∀ (k':Nat),(places d)[k']?=some p→ZkX Key (.int .i64) (Zo6 Key (.int .i64) nodes (((Zb.Instances d).length:Int),0,()) v) (Zwe p)=ZkX Key (.int .i64) nodes (Zwe p):=by
  intro k' hp'
  refine ZoH _ _ (fun q=>?_)
  unfold Zwe at q
  injection q with q1 _
  rcases JV hp' with ⟨i,j,y,n,hy,_,_,rfl⟩ | ⟨j,q',_,_,rfl⟩
  ·have:=(List.getElem?_eq_some_iff.1 hy).1
   simp only [ZeG] at q1
   omega
  ·simp only at q1
   omega
 unfold Zvj
 by_cases k1:k<YL d
 ·rw [if_pos k1]
  rw [Zuq k1] at hp
  rw [other k hp]
  exact h k p hp hd
 ·rw [if_neg k1]
  by_cases k2:k=YL d
  ·rw [if_pos k2]
   have h3:=add_mid (d:=d) (x:=x) (s:=s) (j:=0) (by omega)
   rw [Nat.add_zero,←k2,hp] at h3
   have h4:(Ze.ZI x)[0]?=some (Ze.ZI x)[0]:=List.getElem?_eq_getElem (by omega)
   rw [Zio h4] at h3
   injection h3 with h3
   rw [h3]
   exact ZqG _ _ _
  ·rw [if_neg k2]
   by_cases k3:k=YL d+1
   ·-- it drives
    exfalso
    have h3:=add_mid (d:=d) (x:=x) (s:=s) (j:=1) (by omega)
    rw [←k3,hp] at h3
    have h4:(Ze.ZI x)[1]?=some (Ze.ZI x)[1]:=List.getElem?_eq_getElem (by omega)
    rw [Zio h4] at h3
    injection h3 with h3
    rw [h3] at hd
    simp only [ZeG,h2,decide_eq_false_iff_not] at hd
    exact hd (by rw [Qc (by omega) (by omega)];rfl)
   ·rw [if_neg k3]
    have h3:=Zun (d:=d) (x:=x) (s:=s) (k:=k-2) (by omega)
    rw [h2,show k-2+2=k by omega,hp] at h3
    rw [other (k-2) h3.symm]
    exact h (k-2) p h3.symm hd
def XQ (d:Zb):Zb:=((Zb.Instances d).take ((Zb.Instances d).length-1),(Zb.ZI d).take ((Zb.ZI d).length-1),Zb.ZK d,())
theorem ZuT {d:Zb} {x:Ze} (hn:0<(Zb.Instances d).length) (hx:(Zb.Instances d)[(Zb.Instances d).length-1]?=some x):Zb.Instances d=Zb.Instances (XQ d)++[x]:=by
 show Zb.Instances d=(Zb.Instances d).take ((Zb.Instances d).length-1)++[x]
 rw [←Z6 hx,show (Zb.Instances d).length-1+1=(Zb.Instances d).length by omega,List.take_length]
theorem ZkR {d:Zb} {x:Ze} {s:List UInt8} (hn:0<(Zb.Instances d).length) (hx:(Zb.Instances d)[(Zb.Instances d).length-1]?=some x):places d=places (addInst (XQ d) x s):=by
 unfold places
 show cat Xf 0 (Zb.Instances d)++cat ZcI 0 (Zb.ZK d)=cat Xf 0 (Zb.Instances (XQ d)++[x])++cat ZcI 0 (Zb.ZK d)
 rw [←ZuT hn hx]
def ZuC (nd:Nat→Int) (m:Nat) (k:Nat):Int:=if k<m then nd k else nd (k+2)
theorem Maps.cut {nodes:ZlT} {d:Zb} {nd:Nat→Int} (h:Maps nodes (places d) nd) {x:Ze} (hn:0<(Zb.Instances d).length) (hx:(Zb.Instances d)[(Zb.Instances d).length-1]?=some x) (h2:(Ze.ZI x).length=2) :
  Maps nodes (places (XQ d)) (ZuC nd (YL (XQ d))):=by
 rw [ZkR (s:=[]) hn hx] at h
 intro k p hp hd
 unfold ZuC
 by_cases k1:k<YL (XQ d)
 ·rw [if_pos k1]
  exact h k p (by rw [Zuq k1];exact hp) hd
 ·rw [if_neg k1]
  have h3:=Zun (d:=XQ d) (x:=x) (s:=[]) (k:=k) (by omega)
  rw [h2,hp] at h3
  exact h (k+2) p h3 hd
end Go.Proofs.YtoefbkmllkpkkaaGreatDoor
/-
  Plain laws: the map of nodes, place by place; lists of nodes.
-/
namespace Go.Proofs.YtoefbkmllkpkkaaGreatDoor
set_option linter.unusedVariables false
set_option linter.unusedSimpArgs false
open Go Go.Sx
def ZaP (pl:List Pl) (f:Nat→Int):Nat→ZlT
 | 0=>[]
 | k+1=>match pl[k]? with
  | some p=>if p.2.2.2.1=true then ZaP pl f k else Zo6 Key (.int .i64) (ZaP pl f k) (Zwe p) (f k)
  | none=>ZaP pl f k
theorem Zo9 {pl:List Pl} {f:Nat→Int} {k:Nat} {p:Pl} (hp:pl[k]?=some p) (h:p.2.2.2.1=true):ZaP pl f (k+1)=ZaP pl f k:=by
 simp only [ZaP,hp,h,if_true]
theorem Zqn {pl:List Pl} {f:Nat→Int} {k:Nat} {p:Pl} (hp:pl[k]?=some p) (h:¬p.2.2.2.1=true):ZaP pl f (k+1)=Zo6 Key (.int .i64) (ZaP pl f k) (Zwe p) (f k):=by
 simp only [ZaP,hp,h,if_false]
 rfl
theorem ZjS (d:Zb) (f:Nat→Int):∀ (k:Nat),k≤(places d).length→∀ (j:Nat) (p:Pl),j<k→(places d)[j]?=some p→p.2.2.2.1=false→ZkX Key (.int .i64) (ZaP (places d) f k) (Zwe p)=some (f j)
 | 0,_,j,p,hj,_,_=>by omega
 | k+1,hk,j,p,hj,hp,hd=>by
  have hq:(places d)[k]?=some (places d)[k]:=List.getElem?_eq_getElem (by omega)
  generalize (places d)[k]=q at hq
  by_cases hqd:q.2.2.2.1=true
  ·rw [Zo9 hq hqd]
   refine ZjS d f k (by omega) j p ?_ hp hd
   by_cases e:j=k
   ·subst e
    rw [hp] at hq
    injection hq with hq
    subst hq
    rw [hqd] at hd;cases hd
   ·omega
  ·rw [Zqn hq hqd]
   by_cases e:j=k
   ·subst e
    rw [hp] at hq
    injection hq with hq
    subst hq
    exact ZqG _ _ _
   ·rw [ZoH _ _ (fun h=>e (Zv1 hp hq h))]
    exact ZjS d f k (by omega) j p (by omega) hp hd
theorem ZkV (d:Zb) (f:Nat→Int):Maps (ZaP (places d) f (places d).length) (places d) f:=fun k p hp hd=>ZjS d f _ (Nat.le_refl _) k p (List.getElem?_eq_some_iff.1 hp).1 hp hd
def ZqO (l:List Int) (k:Nat):Int:=(l[k]?).getD 0
theorem ZtS {l:List Int} {i:Nat} {v:Int} (hi:i<l.length) (k:Nat):ZqO (l.set i v) k=if k=i then v else ZqO l k:=by
 unfold ZqO
 rw [List.getElem?_set]
 by_cases e:i=k
 ·subst e;rw [if_pos rfl,if_pos hi,if_pos rfl];rfl
 ·rw [if_neg e,if_neg (fun q=>e q.symm)]
theorem ZAI {l:List Int} {m:Nat} (hm:m≤l.length) (v:Int) (k:Nat):ZqO (l.take m++[v,0]++l.drop m) k=Zvj (ZqO l) m v k:=by
 unfold ZqO Zvj
 have hl:(l.take m).length=m:=by rw [List.length_take];omega
 by_cases k1:k<m
 ·rw [if_pos k1,List.append_assoc,List.getElem?_append_left (by omega),List.getElem?_take,if_pos k1]
 ·rw [if_neg k1]
  by_cases k2:k=m
  ·rw [if_pos k2,List.append_assoc,List.getElem?_append_right (by omega),hl,k2,Nat.sub_self];rfl
  ·rw [if_neg k2]
   by_cases k3:k=m+1
   ·rw [if_pos k3,List.append_assoc,List.getElem?_append_right (by omega),hl,k3,show m+1-m=1 by omega];rfl
   ·rw [if_neg k3,List.getElem?_append_right (by rw [List.length_append,hl,List.length_cons,List.length_singleton];omega),List.length_append,hl,List.length_cons,List.length_singleton,List.getElem?_drop]
    congr 2
    omega
theorem ZAc {l:List Int} {m:Nat} (hm:m+2≤l.length) (k:Nat):ZqO (l.take m++l.drop (m+2)) k=ZuC (ZqO l) m k:=by
 unfold ZqO ZuC
 have hl:(l.take m).length=m:=by rw [List.length_take];omega
 by_cases k1:k<m
 ·rw [if_pos k1,List.getElem?_append_left (by omega),List.getElem?_take,if_pos k1]
 ·rw [if_neg k1,List.getElem?_append_right (by omega),hl,List.getElem?_drop]
  congr 2
  omega
end Go.Proofs.YtoefbkmllkpkkaaGreatDoor
/-
  Plain laws: what edits make of designs, of nodes by place.
-/
namespace Go.Proofs.YtoefbkmllkpkkaaGreatDoor
set_option linter.unusedVariables false
set_option linter.unusedSimpArgs false
open Go Go.Sx
theorem ZAi {d:Zb} {x:Ze} {s:List UInt8} {a b n:Int} (ha:a<((Zb.Instances d).length:Int)):conn (addInst d x s) a b n=addInst (conn d a b n) x s:=by
 unfold conn
 by_cases h:a<0
 ·rw [if_pos h,if_pos h];rfl
 ·rw [if_neg h,if_neg h]
  have hlt:a.toNat<(Zb.Instances d).length:=by omega
  have hy:=List.getElem?_eq_getElem hlt
  generalize (Zb.Instances d)[a.toNat]=y at hy
  have e:(Zb.Instances (addInst d x s))[a.toNat]?=some y:=by
   show (Zb.Instances d++[x])[a.toNat]?=some y
   rw [List.getElem?_append_left hlt];exact hy
  rw [e,hy]
  have e2:List.set (Zb.Instances (addInst d x s)) a.toNat (ZeK y b.toNat n)=(Zb.Instances d).set a.toNat (ZeK y b.toNat n)++[x]:=by
   show List.set (Zb.Instances d++[x]) a.toNat _=_
   rw [List.set_append,if_pos hlt]
  show (List.set (Zb.Instances (addInst d x s)) a.toNat (ZeK y b.toNat n),_)=_
  rw [e2]
  rfl
theorem Xn {d:Zb} {a b n:Int}:(Zb.Instances (conn d a b n)).length=(Zb.Instances d).length:=by
 unfold conn
 split
 ·rfl
 ·show (match (Zb.Instances d)[a.toNat]? with | some x=>(Zb.Instances d).set a.toNat (ZeK x b.toNat n) | none=>Zb.Instances d).length=_
  split
  ·rw [List.length_set]
  ·rfl
theorem QZ {d:Zb} {a b n:Int}:Zb.ZI (conn d a b n)=Zb.ZI d:=by
 unfold conn
 split<;>rfl
theorem Zix {d:Zb} {a b n:Int}:(Zb.ZK (conn d a b n)).length=(Zb.ZK d).length:=by
 unfold conn
 split
 ·show (match (Zb.ZK d)[b.toNat]? with | some x=>(Zb.ZK d).set b.toNat (setPort x n) | none=>Zb.ZK d).length=_
  split
  ·rw [List.length_set]
  ·rfl
 ·rfl
theorem ZgP {d:Zb} {a b n:Int} {i:Nat} {y:Ze} (hy:(Zb.Instances (conn d a b n))[i]?=some y):∃ x,(Zb.Instances d)[i]?=some x∧Ze.Name y=Ze.Name x∧Ze.Cell y=Ze.Cell x∧(Ze.ZI y).length=(Ze.ZI x).length∧((i:Int)≠a→y=x)∧∀ m∈Ze.ZI y,m∈Ze.ZI x∨m=n:=by
 unfold conn at hy
 split at hy
 ·exact ⟨y,hy,rfl,rfl,rfl,fun _=>rfl,fun m hm=>.inl hm⟩
 ·rename_i h
  have hy:(match (Zb.Instances d)[a.toNat]? with | some x=>(Zb.Instances d).set a.toNat (ZeK x b.toNat n) | none=>Zb.Instances d)[i]?=some y:=hy
  split at hy
  ·rename_i x hx
   rw [List.getElem?_set] at hy
   split at hy
   ·rename_i e
    split at hy
    ·injection hy with hy
     subst hy
     refine ⟨x,by rw [←e];exact hx,rfl,rfl,List.length_set,fun q=>absurd (by omega) q,fun m hm=>?_⟩
     rcases List.mem_or_eq_of_mem_set hm with hm | hm
     ·exact .inl hm
     ·exact .inr hm
    ·cases hy
   ·exact ⟨y,hy,rfl,rfl,rfl,fun _=>rfl,fun m hm=>.inl hm⟩
  ·exact ⟨y,hy,rfl,rfl,rfl,fun _=>rfl,fun m hm=>.inl hm⟩
theorem Few.conn {d:Zb} (h:Few d) (a b n:Int):Few (conn d a b n):=by
 refine ⟨by rw [Xn];exact h.insts,by rw [Zix];exact h.ports,fun y hy=>?_⟩
 obtain ⟨i,hi⟩:=List.getElem?_of_mem hy
 obtain ⟨x,hx,_,_,hl,_⟩:=ZgP hi
 rw [hl]
 exact h.nets x (List.mem_of_getElem? hx)
theorem Few.add {d:Zb} (h:Few d) (h13:(Zb.Instances d).length≤13) {x:Ze} (hx:(Ze.ZI x).length≤5) (s:List UInt8):Few (addInst d x s):=by
 refine ⟨?_,h.ports,fun y hy=>?_⟩
 ·show (Zb.Instances d++[x]).length≤14
  rw [List.length_append,List.length_singleton];omega
 ·rcases List.mem_append.1 (show y∈Zb.Instances d++[x] from hy) with hy | hy
  ·exact h.nets y hy
  ·rw [List.mem_singleton] at hy
   subst hy;exact hx
theorem Few.cut {d:Zb} (h:Few d):Few (XQ d):=by
 refine ⟨?_,h.ports,fun y hy=>h.nets y (List.mem_of_mem_take (show y∈(Zb.Instances d).take _ from hy))⟩
 show ((Zb.Instances d).take _).length≤14
 rw [List.length_take]
 have:=h.insts
 omega
def ZlB (pl:List Pl) (n:Nat):Prop:=∀ p∈pl,p.2.2.2.1=false→0≤p.2.2.1∧p.2.2.1<(n:Int)
theorem ZlB.set {pl:List Pl} {n:Nat} (h:ZlB pl n) {k0:Nat} {p0:Pl} {m:Int} (h0:0≤m) (h1:m<(n:Int)):ZlB (pl.set k0 (p0.1,p0.2.1,m,p0.2.2.2.1,())) n:=by
 intro p hp hd
 rcases List.mem_or_eq_of_mem_set hp with hp | hp
 ·exact h p hp hd
 ·subst hp;exact ⟨h0,h1⟩
def swapped (b:Za) (i:Int) (c:Int):Za:=(Za.Library b,(match (Zb.Instances (Za.Design b))[i.toNat]? with
 | some x=>(Zb.Instances (Za.Design b)).set i.toNat (Ze.Name x,c,Ze.ZI x,())
 | none=>Zb.Instances (Za.Design b),Zb.ZI (Za.Design b),Zb.ZK (Za.Design b),()),Za.ZC b,())
def mvD (b:Za) (p:Pl) (n:Int):Zb:=conn (Za.Design b) p.1 p.2.1 n
def mvN (b:Za) (k:Nat) (v:Int) (j:Nat):Int:=if j=k then v else Xh b j
def moved (b:Za) (k:Nat) (p:Pl) (n v:Int):Za:=(Za.Library b,mvD b p n,wired (places (mvD b p n)) (Za.ZC b) (mvN b k v),())
abbrev Zw7:Zr:=([-1],[0],[0],[],())
def Zsl (b:Za) (e:Zk) (p:Pl):Ze:=(Zk.Name e,Zk.Cell e,[p.2.2.1,((Zb.ZI (Za.Design b)).length:Int)],())
def ZtY (b:Za) (e:Zk) (p:Pl):Zb:=addInst (conn (Za.Design b) p.1 p.2.1 ((Zb.ZI (Za.Design b)).length:Int)) (Zsl b e p) (Zk.Name e)
def Zwk (b:Za) (k:Nat):Nat:=if k<YL (Za.Design b) then k else k+2
def ZDx (b:Za) (k:Nat) (j:Nat):Int:=if j=Zwk b k then 0 else Zvj (Xh b) (YL (Za.Design b)) (Xh b k) j
def buffered (b:Za) (e:Zk) (k:Nat) (p:Pl):Za:=(Za.Library b,ZtY b e p,wired (places (ZtY b e p)) (Za.ZC b++[Zw7]) (ZDx b k),())
def unD (b:Za) (p:Pl) (m:Int):Zb:=XQ (conn (Za.Design b) p.1 p.2.1 m)
def unN (b:Za) (k:Nat):Nat→Int:=ZuC (mvN b k (Xh b (YL (Za.Design b)-2))) (YL (Za.Design b)-2)
def Zn2 (b:Za) (k:Nat) (p:Pl) (m:Int):Za:=(Za.Library b,unD b p m,wired (places (unD b p m)) ((Za.ZC b).take ((Za.ZC b).length-1)) (unN b k),())
def ZA4 (b:Za) (n:Int) (w:Zr):Za:=(Za.Library b,Za.Design b,(Za.ZC b).set n.toNat w,())
end Go.Proofs.YtoefbkmllkpkkaaGreatDoor
/-
  Plain laws: clones are what they are made of.
-/
namespace Go.Proofs.YtoefbkmllkpkkaaGreatDoor
set_option linter.unusedVariables false
set_option linter.unusedSimpArgs false
open Go Go.Sx
theorem ZbK {α:Type} {l:List α} {k:Nat} {x:α} (hx:l[k]?=some x):l.set k x=l:=by
 apply List.ext_getElem?
 intro j
 rw [List.getElem?_set]
 split
 ·rename_i e;subst e
  rw [if_pos (List.getElem?_eq_some_iff.1 hx).1,hx]
 ·rfl
theorem Jo (l:List Int) (h:l.length≤1048576):ZF l=some l:=by
 unfold ZF
 rw [Zj (by rw [List.length_nil];omega)];rfl
theorem Zed (l:List Int) (h:l.length≤1048576):XO l=some l:=by
 unfold XO
 rw [Zj (by rw [List.length_nil];omega)];rfl
theorem Zhy (w:Zr) (hw:sm XZ w):ZbU w=some w:=by
 obtain ⟨a1,a2,a3,a4⟩:=Zlq hw
 unfold ZbU
 rw [Jo _ (Zo a1),Option.bind_some,Jo _ (Zo a2),Option.bind_some,Jo _ (Zo a3),Option.bind_some,Jo _ (Zo a4),Option.bind_some]
theorem ZjW (w:Zr) (hw:sm XZ w):Zb2 w=some w:=by
 obtain ⟨a1,a2,a3,a4⟩:=Zlq hw
 unfold Zb2
 rw [Zed _ (Zo a1),Option.bind_some,Zed _ (Zo a2),Option.bind_some,Zed _ (Zo a3),Option.bind_some,Zed _ (Zo a4),Option.bind_some]
theorem Zk2 (d:Zb) (hd:sm Yr d):VB d=some d:=by
 obtain ⟨s1,s2,s3⟩:=Zck hd
 have l1:=Zo s1
 have l2:=Zo s2
 have l3:=Zo s3
 unfold VB Xv VK Qo
 rw [Zj (by rw [List.length_nil];omega),Option.bind_some,Zj (by rw [List.length_nil];omega),Option.bind_some,Zj (by rw [List.length_nil];omega),Option.bind_some]
 simp only [List.nil_append]
 refine Yo (l:=Zb.Instances d) (fun k=>((k:Int),(Zb.Instances d,(k:Int)),())) (fun k x hx hk=>?_) ?_
 ·have hx2:=Jo (Ze.ZI x) (Zo (ZmQ (Jd s1 hx)).2)
  simp only [Qn,show (k:Int)<((Zb.Instances d).length:Int) by omega,if_true,Zt,hx,Option.bind_some,Int.le_refl,hx2,Zj trivial,XK (show k≤1048576 by omega),Int.toNat_natCast]
  rw [show List.set (Zb.Instances d) k (Ze.Name x,Ze.Cell x,Ze.ZI x,())=Zb.Instances d from ZbK hx]
  rfl
 ·simp only [Qn,Int.lt_irrefl,if_false,Zj trivial]
theorem ZgJ (l:List ZB) (hl:sm (.sl YZ) l):Zbh l=some l:=by
 have h1:=Zo hl
 unfold Zbh
 have:=Yo (l:=l) (fun k=>(l.take k,(k:Int),())) (step:=fun v=>Ja l v.1 v.2.1) (good:=l) (fun k x hx hk=>by
  have hs:sm YZ x:=Jd hl hx
  have e1:=Jo (ZB.Zh2 x) (Zo (t:=.int .i64) hs.1)
  have e2:=Jo (ZB.Loads x) (Zo (t:=.int .i64) hs.2.1)
  have e3:=Jo (ZB.Values x) (Zo (t:=.int .i64) hs.2.2.1)
  have hg:((l.take k).length+[(ZB.Zh2 x,ZB.Loads x,ZB.Values x,())].length)*72≤140737488355328:=by rw [List.length_take,List.length_singleton];omega
  simp only [Ja,show (k:Int)<(l.length:Int) by omega,if_true,Zt,hx,Option.bind_some,e1,e2,e3,Zj hg,XK (show k≤1048576 by omega)]
  rw [Z6 hx]) (by
  simp only [Ja,Int.lt_irrefl,if_false,List.take_length])
 simpa using this
theorem Zlb (a:Zp) (ha:sm YN a):VD a=some a:=by
 have hc:=ZrA ha
 have h1:=Zo hc
 unfold VD
 have:=Yo (l:=Zp.Cells a) (fun k=>((k:Int),(Zp.Cells a).take k,())) (step:=fun v=>XG a v.1 v.2.1) (good:=a) (fun k x hx hk=>by
  have hs:sm XY x:=Jd hc hx
  have p1:sm (.sl ZdU) (Zm.YC x):=hs.2.2.1
  have p2:sm (.sl ZfF) (Zm.Zak x):=hs.2.2.2.1
  have p3:sm (.sl (.int .i64)) (Zm.Truth x):=hs.2.2.2.2.1
  have l1:=Zo p1
  have l2:=Zo p2
  have l3:=Zo p3
  simp only [XG,show (k:Int)<((Zp.Cells a).length:Int) by omega,if_true,Zt,hx,Option.bind_some]
  unfold QM QH
  rw [Zj (by rw [List.length_nil];omega),Option.bind_some,Jo _ l3,Option.bind_some,Zj (by rw [List.length_nil];omega),Option.bind_some]
  simp only [List.nil_append]
  have hg:∀ y:Zm,(((Zp.Cells a).take k).length+[y].length)*112≤140737488355328:=fun y=>by rw [List.length_take,List.length_singleton];omega
  refine Yo (l:=Zm.Zak x) (fun j=>((j:Int),(Zm.Zak x,(j:Int)),())) (fun j y hy hj=>?_) ?_
  ·obtain ⟨q1,q2⟩:=Zz8 (Jd p2 hy)
   simp only [Qp,show (j:Int)<((Zm.Zak x).length:Int) by omega,if_true,Zt,hy,Option.bind_some,Int.le_refl,ZgJ _ q1,ZgJ _ q2,Zj trivial,XK (show j≤1048576 by omega),Int.toNat_natCast]
   rw [show List.set (Zm.Zak x) j (ZH.Kind y,ZH.From y,ZH.To y,ZH.Zcm y,ZH.Delay y,ZH.ZdY y,())=Zm.Zak x from ZbK hy]
   rfl
  ·simp only [Qp,Int.lt_irrefl,if_false,Zj trivial,Zj (hg _),XK (show k≤1048576 by omega)]
   rw [Z6 hx]) (by
  simp only [XG,Int.lt_irrefl,if_false,List.take_length])
 simpa using this
theorem Zmq (b:Za) (hb:sm YB b):Zdj b=some b:=by
 obtain ⟨b1,b2,b3⟩:=ZaI hb
 have h1:=Zo b3
 unfold Zdj
 rw [Zlb _ b1,Option.bind_some,Zk2 _ b2,Option.bind_some]
 have:=Yo (l:=Za.ZC b) (fun k=>((k:Int),(Za.ZC b).take k,())) (step:=fun v=>VZ b (Za.Library b) (Za.Design b) v.1 v.2.1) (good:=b) (fun k x hx hk=>by
  have hg:(((Za.ZC b).take k).length+[x].length)*96≤140737488355328:=by rw [List.length_take,List.length_singleton];omega
  simp only [VZ,show (k:Int)<((Za.ZC b).length:Int) by omega,if_true,Zt,hx,Option.bind_some,Zhy x (Jd b3 hx),Zj hg,XK (show k≤1048576 by omega)]
  rw [Z6 hx]) (by
  simp only [VZ,Int.lt_irrefl,if_false,List.take_length])
 simpa using this
end Go.Proofs.YtoefbkmllkpkkaaGreatDoor
/-
  Plain laws: the nodes of all sinks, by key (program) and by place (reference).
-/
namespace Go.Proofs.YtoefbkmllkpkkaaGreatDoor
set_option linter.unusedVariables false
set_option linter.unusedSimpArgs false
open Go Go.Sx
theorem ZBV {pl:List Pl} {k:Nat} {p:Pl} (hp:pl[k]?=some p) (h2:p.2.2.2.1=false):nth pl p.2.2.1 (k+1)=nth pl p.2.2.1 k+1:=by
 unfold nth
 rw [Zht hp,ZjK rfl h2,List.length_append,List.length_singleton]
theorem ZA3 {pl:List Pl} {net:Int} {k:Nat} {p:Pl} (hp:pl[k]?=some p) (h:¬(p.2.2.1=net∧p.2.2.2.1=false)):nth pl net (k+1)=nth pl net k:=by
 unfold nth
 rw [Zht hp,Zkq h,List.append_nil]
def seen (pl:List Pl) (n k:Nat):List Int:=(List.range n).map (fun (v:Nat)=>((nth pl (v:Int) k:Nat):Int))
theorem Zp1 {pl:List Pl} {n k v:Nat} (hv:v<n):(seen pl n k)[v]?=some ((nth pl (v:Int) k:Nat):Int):=by
 unfold seen
 rw [List.getElem?_map,List.getElem?_range hv];rfl
theorem ZyP (pl:List Pl) (n:Nat):List.replicate n (0:Int)=seen pl n 0:=by
 apply List.ext_getElem?
 intro v
 by_cases hv:v<n
 ·rw [Zp1 hv,List.getElem?_replicate,if_pos hv]
  unfold nth
  simp [cat]
 ·rw [List.getElem?_eq_none (by simp;omega),List.getElem?_eq_none (by unfold seen;simp;omega)]
theorem ZzF {pl:List Pl} {n k:Nat} {p:Pl} (hp:pl[k]?=some p) (h2:p.2.2.2.1=false) (h0:0≤p.2.2.1) (h1:p.2.2.1<(n:Int)):(seen pl n k).set p.2.2.1.toNat (((nth pl p.2.2.1 k+1:Nat):Int))=seen pl n (k+1):=by
 apply List.ext_getElem?
 intro v
 by_cases hv:v<n
 ·rw [List.getElem?_set,Zp1 hv,Zp1 hv]
  split
  ·rename_i e
   rw [if_pos (by unfold seen;simp;omega)]
   subst e
   rw [show ((p.2.2.1.toNat:Nat):Int)=p.2.2.1 by omega,ZBV hp h2]
  ·rename_i e
   rw [ZA3 hp (fun q=>e (by have:=q.1;omega))]
 ·rw [List.getElem?_eq_none (by unfold seen;simp;omega),List.getElem?_eq_none (by unfold seen;simp;omega)]
theorem ZBl {pl:List Pl} {n k:Nat} {p:Pl} (hp:pl[k]?=some p) (h2:p.2.2.2.1=true):seen pl n (k+1)=seen pl n k:=by
 unfold seen
 apply List.map_congr_left
 intro v _
 rw [ZA3 hp (fun q=>by rw [h2] at q;cases q.2)]
theorem Zva {b:Za} (h:JX b) {k:Nat} {p:Pl} (hp:(places (Za.Design b))[k]?=some p) (h2:p.2.2.2.1=false) :
  ∃ w,atI (Za.ZC b) p.2.2.1=some w∧(Za.ZC b)[p.2.2.1.toNat]?=some w∧atI (Zr.ZfR w) ((nth (places (Za.Design b)) p.2.2.1 k:Nat):Int)=some (Xh b k)∧Zce w ((sinks (Za.Design b) p.2.2.1).length:Int):=by
 have hn:=JJ h.ok.1 (List.mem_of_getElem? hp)
 obtain ⟨w,hw1,hw2,hw3⟩:=Zn4 h hn
 have hlt:=Zx8 hp rfl h2
 have hs:=hw3.2.2.2.1
 have hlt2:nth (places (Za.Design b)) p.2.2.1 k<(Zr.ZfR w).length:=by
  have:(sinks (Za.Design b) p.2.2.1).length=(cat (ZaB p.2.2.1) 0 (places (Za.Design b))).length:=rfl
  omega
 refine ⟨w,hw2,hw1,?_,hw3⟩
 rw [Zt]
 have e:Xh b k=((Zr.ZfR w)[nth (places (Za.Design b)) p.2.2.1 k]?).getD 0:=by
  unfold Xh
  simp only [hp,h2,hw1]
  rfl
 rw [e,List.getElem?_eq_getElem hlt2]
 rfl
theorem Zhd {b:Za} (h:JX b):Q6 b=some (ZaP (places (Za.Design b)) (Xh b) (places (Za.Design b)).length):=by
 have hf:=h.ok.1.few
 have hpl:=Y7 hf
 have h30:=h.ok.1.2.1.2.1
 have hwn:=h.ok.2.1
 have hwl:(Za.ZC b).length≤1048576:=Zo (ZaI h.sm).2.2
 unfold Q6
 rw [Zj (by omega),Zj (by omega),Zj (by omega),Zj (by omega),Yl _ hf,Option.bind_some,Int.toNat_natCast,ZyP (places (Za.Design b))]
 refine Yo (l:=places (Za.Design b)) (fun k=>((k:Int),ZaP (places (Za.Design b)) (Xh b) k,seen (places (Za.Design b)) (Za.ZC b).length k,())) (fun k p hp hk=>?_) ?_
 ·simp only [Zam,show (k:Int)<((places (Za.Design b)).length:Int) by omega,if_true,Zt,hp,Option.bind_some,XK (show k≤1048576 by omega)]
  have e1:ZM.drives p=p.2.2.2.1:=rfl
  have e2:ZM.net p=p.2.2.1:=rfl
  by_cases h2:p.2.2.2.1=true
  ·rw [e1,if_pos h2,Zo9 hp h2,ZBl hp h2]
  ·have h2':p.2.2.2.1=false:=by simpa using h2
   obtain ⟨w,hw1,hw2,hw3,hw4⟩:=Zva h hp h2'
   have hn:=JJ h.ok.1 (List.mem_of_getElem? hp)
   have hv:p.2.2.1<((Za.ZC b).length:Int):=by have:=hn.2;omega
   have hs:atI (seen (places (Za.Design b)) (Za.ZC b).length k) p.2.2.1=some ((nth (places (Za.Design b)) p.2.2.1 k:Nat):Int):=by
    refine Qa hn.1 ?_
    rw [Zp1 (by have:=hn.1;omega),show ((p.2.2.1.toNat:Nat):Int)=p.2.2.1 by have:=hn.1;omega]
   have hlt:=Zx8 hp rfl h2'
   have hlc:=ZfJ p.2.2.1 (places (Za.Design b)) 0
   rw [e1,if_neg h2,e2,hw1,Option.bind_some,hs,Option.bind_some,hw3,Option.bind_some,XK (show nth (places (Za.Design b)) p.2.2.1 k≤1048576 by omega),ZzF hp h2' hn.1 hv,Zqn hp h2]
   rfl
 ·simp only [Zam,Int.lt_irrefl,if_false]
end Go.Proofs.YtoefbkmllkpkkaaGreatDoor
/-
  Plain laws: the reference's nodes by place.
-/
namespace Go.Proofs.YtoefbkmllkpkkaaGreatDoor
set_option linter.unusedVariables false
set_option linter.unusedSimpArgs false
open Go Go.Sx
theorem Zv0 {pl:List Pl} {net:Int}:∀ (n:Nat),n≤pl.length→∀ (i:Nat) (x:Int),(cat (ZaB net) 0 (pl.take n))[i]?=some x→
  ∃ (k:Nat) (p:Pl),k<n∧pl[k]?=some p∧x=(k:Int)∧p.2.2.1=net∧p.2.2.2.1=false∧nth pl net k=i
 | 0,_,i,x,h=>by simp [cat] at h
 | n+1,hn,i,x,h=>by
  have hp:pl[n]?=some pl[n]:=List.getElem?_eq_getElem (by omega)
  generalize pl[n]=p at hp
  rw [Zht hp] at h
  by_cases hi:i<(cat (ZaB net) 0 (pl.take n)).length
  ·rw [List.getElem?_append_left hi] at h
   obtain ⟨k,q,a,r⟩:=Zv0 n (by omega) i x h
   exact ⟨k,q,by omega,r⟩
  ·rw [List.getElem?_append_right (by omega)] at h
   by_cases hs:p.2.2.1=net∧p.2.2.2.1=false
   ·rw [ZjK hs.1 hs.2] at h
    have h0:=(List.getElem?_eq_some_iff.1 h).1
    rw [List.length_singleton] at h0
    rw [show i-(cat (ZaB net) 0 (pl.take n)).length=0 by omega] at h
    injection h with h
    exact ⟨n,p,by omega,hp,h.symm,hs.1,hs.2,by unfold nth;omega⟩
   ·rw [Zkq hs] at h
    cases h
theorem Zs2 {pl:List Pl} {net:Int} {i:Nat} {x:Int} (h:(cat (ZaB net) 0 pl)[i]?=some x) :
  ∃ (k:Nat) (p:Pl),pl[k]?=some p∧x=(k:Int)∧p.2.2.1=net∧p.2.2.2.1=false∧nth pl net k=i:=by
 obtain ⟨k,p,_,r⟩:=Zv0 (pl:=pl) (net:=net) pl.length (Nat.le_refl _) i x (by rw [List.take_length];exact h)
 exact ⟨k,p,r⟩
def filled (b:Za) (P:Nat→Pl→Bool):List Int:=cat (fun k p=>[if P k p=true then Xh b k else 0]) 0 (places (Za.Design b))
theorem Zcu (b:Za) (P:Nat→Pl→Bool) (k:Nat):(filled b P)[k]?=((places (Za.Design b))[k]?).map (fun p=>if P k p=true then Xh b k else 0):=by
 unfold filled
 rw [Zb6,Nat.zero_add]
theorem ZoA (b:Za) (P:Nat→Pl→Bool):(filled b P).length=(places (Za.Design b)).length:=JR _ _
theorem ZoS {b:Za} {P Q:Nat→Pl→Bool} (h:∀ (k:Nat) (p:Pl),(places (Za.Design b))[k]?=some p→P k p=Q k p):filled b P=filled b Q:=by
 apply List.ext_getElem?
 intro k
 rw [Zcu,Zcu]
 cases hp:(places (Za.Design b))[k]? with
 | none=>rfl
 | some p=>simp only [Option.map_some,h k p hp]
def Zza (v:Nat) (k:Nat) (p:Pl):Bool:=decide (p.2.2.1<(v:Int))&&!p.2.2.2.1
def pIn (b:Za) (v i:Nat) (k:Nat) (p:Pl):Bool:=!p.2.2.2.1&&(decide (p.2.2.1<(v:Int))||(decide (p.2.2.1=(v:Int))&&decide (nth (places (Za.Design b)) (v:Int) k<i)))
def ZaA (b:Za):List Int:=filled b (fun _ _=>true)
theorem ZjP {b:Za} {k:Nat} (hk:k<(places (Za.Design b)).length):(ZaA b)[k]?=some (Xh b k):=by
 unfold ZaA
 rw [Zcu,List.getElem?_eq_getElem hk]
 rfl
theorem Zaz (b:Za):(ZaA b).length=(places (Za.Design b)).length:=ZoA _ _
theorem ZfX {b:Za} (h:JX b):Zcz b=some (ZaA b):=by
 have hf:=h.ok.1.few
 have hpl:=Y7 hf
 have h30:=h.ok.1.2.1.2.1
 have hwn:=h.ok.2.1
 have hwl:(Za.ZC b).length≤1048576:=Zo (ZaI h.sm).2.2
 have first:List.replicate (places (Za.Design b)).length (0:Int)=filled b (Zza 0):=by
  apply List.ext_getElem?
  intro k
  rw [Zcu,List.getElem?_replicate]
  split
  ·rename_i hk
   have hp:=List.getElem?_eq_getElem hk
   rw [hp]
   have hn:=(JJ h.ok.1 (List.mem_of_getElem? hp)).1
   rw [Option.map_some,if_neg]
   unfold Zza
   simp only [Bool.and_eq_true,decide_eq_true_eq,not_and]
   intro q;omega
  ·rw [List.getElem?_eq_none (by omega)];rfl
 have last:filled b (Zza (Za.ZC b).length)=ZaA b:=by
  apply List.ext_getElem?
  intro k
  unfold ZaA
  rw [Zcu,Zcu]
  cases hp:(places (Za.Design b))[k]? with
  | none=>rfl
  | some p =>
   have hn:=(JJ h.ok.1 (List.mem_of_getElem? hp)).2
   simp only [Option.map_some,if_true]
   by_cases h2:p.2.2.2.1=true
   ·have:Xh b k=0:=by unfold Xh;simp only [hp,h2,if_true]
    simp only [this,ite_self]
   ·rw [if_pos]
    unfold Zza
    simp only [Bool.and_eq_true,decide_eq_true_eq,Bool.not_eq_true']
    exact ⟨by omega,by simpa using h2⟩
 unfold Zcz
 rw [Xe _ hf,Option.bind_some,Zj (by omega),Zj (by omega),Zj (by omega),Zj (by omega),Int.toNat_natCast,first]
 refine Yo (l:=Za.ZC b) (fun v=>((v:Int),filled b (Zza v),())) (fun v w hw hv=>?_) ?_
 ·simp only [ZdC,show (v:Int)<((Za.ZC b).length:Int) by omega,if_true,Jm _ _ hf,Option.bind_some]
  have e0:filled b (Zza v)=filled b (pIn b v 0):=ZoS fun k p _=>by unfold Zza pIn;simp [Bool.and_comm]
  have e1:filled b (pIn b v (sinks (Za.Design b) (v:Int)).length)=filled b (Zza (v+1)):=ZoS fun k p hp=>by
   unfold Zza pIn
   by_cases h2:p.2.2.2.1=true
   ·simp [h2]
   ·have h2':p.2.2.2.1=false:=by simpa using h2
    rw [h2',Bool.not_false,Bool.true_and,Bool.and_true]
    by_cases hq:p.2.2.1=(v:Int)
    ·have hlt:nth (places (Za.Design b)) (v:Int) k<(sinks (Za.Design b) (v:Int)).length:=Zx8 hp hq h2'
     rw [decide_eq_true hlt,decide_eq_true hq,decide_eq_true (show p.2.2.1<((v+1:Nat):Int) by omega)]
     simp
    ·rw [decide_eq_false hq,Bool.false_and,Bool.or_false]
     exact decide_eq_decide.2 (by omega)
  rw [e0]
  refine Yo (l:=sinks (Za.Design b) (v:Int)) (fun i=>((i:Int),filled b (pIn b v i),())) (fun i x hx hi=>?_) ?_
  ·obtain ⟨k,p,hp,ex,hn,h2,hnth⟩:=Zs2 (pl:=places (Za.Design b)) hx
   obtain ⟨w',hw1,hw2,hw3,hw4⟩:=Zva h hp h2
   have hk:=(List.getElem?_eq_some_iff.1 hp).1
   have hlc:=ZfJ (v:Int) (places (Za.Design b)) 0
   have hlc2:(sinks (Za.Design b) (v:Int)).length≤(places (Za.Design b)).length:=hlc
   rw [hn,hnth] at hw3
   rw [hn] at hw1
   have hfk:(filled b (pIn b v i))[k]?=some ((filled b (pIn b v i))[k]'(by rw [ZoA];exact hk)):=List.getElem?_eq_getElem _
   simp only [Zdq,show (i:Int)<((sinks (Za.Design b) (v:Int)).length:Int) by omega,if_true,Zt,hx,Option.bind_some,←Zt (Za.ZC b),hw1,←Zt (Zr.ZfR w'),hw3,XK (show i≤1048576 by omega)]
   subst ex
   rw [Zt,hfk,Option.bind_some,Int.toNat_natCast]
   have:List.set (filled b (pIn b v i)) k (Xh b k)=filled b (pIn b v (i+1)):=by
    apply List.ext_getElem?
    intro j
    rw [List.getElem?_set,ZoA]
    split
    ·rename_i e
     subst e
     rw [Zcu,hp,Option.map_some,if_pos]
     unfold pIn
     rw [h2,hnth]
     simp [hn]
    ·rename_i e
     rw [Zcu,Zcu]
     cases hq:(places (Za.Design b))[j]? with
     | none=>rfl
     | some q =>
      have:pIn b v i j q=pIn b v (i+1) j q:=by
       unfold pIn
       by_cases h3:q.2.2.2.1=true
       ·simp [h3]
       ·have h3':q.2.2.2.1=false:=by simpa using h3
        by_cases hqn:q.2.2.1=(v:Int)
        ·have hne:nth (places (Za.Design b)) (v:Int) j≠i:=by
          intro hh
          have h4:=ZnH hq hqn h3'
          rw [hh] at h4
          have h5:(cat (ZaB (v:Int)) 0 (places (Za.Design b)))[i]?=some (k:Int):=hx
          rw [h5] at h4
          injection h4 with h4
          omega
         rw [show decide (nth (places (Za.Design b)) (v:Int) j<i)=decide (nth (places (Za.Design b)) (v:Int) j<i+1) from decide_eq_decide.2 (by omega)]
        ·rw [decide_eq_false hqn,Bool.false_and,Bool.false_and]
      rw [Option.map_some,Option.map_some,this]
   rw [this]
  ·simp only [Zdq,Int.lt_irrefl,if_false,XK (show v≤1048576 by omega),e1]
 ·simp only [ZdC,Int.lt_irrefl,if_false,last]
end Go.Proofs.YtoefbkmllkpkkaaGreatDoor
/-
  Plain laws: sinks put in anew, a place put on another net, a buffer taken away.
-/
namespace Go.Proofs.YtoefbkmllkpkkaaGreatDoor
set_option linter.unusedVariables false
set_option linter.unusedSimpArgs false
open Go Go.Sx
def wip (ws:List Zr) (k:Nat):List Zr:=cat (fun j w=>[if j<k then ZeP w [] else w]) 0 ws
theorem ZoN (ws:List Zr) (k v:Nat):(wip ws k)[v]?=(ws[v]?).map (fun w=>if v<k then ZeP w [] else w):=by
 unfold wip
 rw [Zb6,Nat.zero_add]
theorem ZB2 (ws:List Zr) (k:Nat):(wip ws k).length=ws.length:=JR _ _
theorem ZAk (ws:List Zr):wip ws 0=ws:=by
 apply List.ext_getElem?
 intro v
 rw [ZoN]
 simp
theorem ZBp (pl:List Pl) (ws:List Zr) (nd:Nat→Int):wip ws ws.length=ZgN pl ws nd 0:=by
 apply List.ext_getElem?
 intro v
 unfold ZgN
 rw [ZoN,Zew]
 cases hv:ws[v]? with
 | none=>rfl
 | some w =>
  have:=(List.getElem?_eq_some_iff.1 hv).1
  simp only [Option.map_some,if_pos this,List.take_zero,cat,List.map_nil]
theorem Zzt {ws:List Zr} {k:Nat} {w:Zr} (hw:ws[k]?=some w):(wip ws k)[k]?=some w∧(wip ws k).set k (ZeP w [])=wip ws (k+1):=by
 constructor
 ·rw [ZoN,hw];simp
 ·apply List.ext_getElem?
  intro v
  rw [List.getElem?_set,ZB2]
  split
  ·rename_i e
   subst e
   rw [if_pos (List.getElem?_eq_some_iff.1 hw).1,ZoN,hw,Option.map_some,if_pos (by omega)]
  ·rw [ZoN,ZoN]
   congr 1
   funext w'
   by_cases h:v<k
   ·rw [if_pos h,if_pos (by omega)]
   ·rw [if_neg h,if_neg (by omega)]
theorem Zg7 {b:Za} {nodes:ZlT} {nd:Nat→Int} (hf:Few (Za.Design b)) (hm:Maps nodes (places (Za.Design b)) nd) (hn:ZlB (places (Za.Design b)) (Za.ZC b).length) (hw:(Za.ZC b).length≤1048576) :
  Qk b nodes=some (Za.Library b,Za.Design b,wired (places (Za.Design b)) (Za.ZC b) nd,()):=by
 have hpl:=Y7 hf
 unfold Qk
 have:=Yo (l:=Za.ZC b) (fun k=>((k:Int),wip (Za.ZC b) k,())) (step:=fun v=>Q9 b nodes v.1 v.2.1) (good:=(Za.Library b,Za.Design b,wired (places (Za.Design b)) (Za.ZC b) nd,())) (fun k w hk hlt=>by
  obtain ⟨a1,a2⟩:=Zzt hk
  simp only [Q9,show (k:Int)<((Za.ZC b).length:Int) by omega,if_true,Zt,a1,Option.bind_some,XK (show k≤1048576 by omega),Int.toNat_natCast]
  rw [←a2]
  rfl) (by
  simp only [Q9,Int.lt_irrefl,if_false,Yl _ hf,Option.bind_some,ZBp (places (Za.Design b)) (Za.ZC b) nd]
  refine Yo (l:=places (Za.Design b)) (fun k=>((k:Int),ZgN (places (Za.Design b)) (Za.ZC b) nd k,())) (fun k p hp hk=>?_) ?_
  ·simp only [Zao,show (k:Int)<((places (Za.Design b)).length:Int) by omega,if_true,Zt,hp,Option.bind_some,XK (show k≤1048576 by omega)]
   have e1:ZM.drives p=p.2.2.2.1:=rfl
   have e2:ZM.net p=p.2.2.1:=rfl
   have e3:ZkX ZbV (Ty.int IntKind.i64) nodes (ZM.instance p,ZM.pin p,())=ZkX Key (.int .i64) nodes (Zwe p):=rfl
   by_cases h2:p.2.2.2.1=true
   ·rw [e1,if_pos h2,Zul hp h2]
   ·have h2':p.2.2.2.1=false:=by simpa using h2
    obtain ⟨h0,h1⟩:=hn p (List.mem_of_getElem? hp) h2'
    have hwk:(Za.ZC b)[p.2.2.1.toNat]?=some ((Za.ZC b)[p.2.2.1.toNat]'(by omega)):=List.getElem?_eq_getElem (by omega)
    obtain ⟨w1,w2⟩:=Zuz (nd:=nd) hp h2' h0 hwk
    have hl:=ZfJ p.2.2.1 ((places (Za.Design b)).take k) 0
    rw [e1,if_neg h2,e2,Qa h0 w1,Option.bind_some,e3,hm k p hp h2',Zj (by
     show ((List.map _ _).length+1)*8≤_
     rw [List.length_map]
     rw [List.length_take] at hl
     omega),←w2]
    rfl
  ·simp only [Zao,Int.lt_irrefl,if_false]
   unfold ZgN
   rw [List.take_length])
 rw [ZAk] at this
 exact this
theorem Zh4 {b:Za} {k:Nat} {p:Pl} (hp:(places (Za.Design b))[k]?=some p) (n:Int):VJ b (p.1,p.2.1,()) n=some (Za.Library b,conn (Za.Design b) p.1 p.2.1 n,Za.ZC b,()):=by
 unfold VJ conn
 rcases JV hp with ⟨i,j,x,m,hx,hn,e,rfl⟩ | ⟨j,q,hq,e,rfl⟩
 ·have c:¬((i:Int)<0):=by omega
  simp only [ZeG,Jh.instance,Jh.pin,if_neg c,Zt,hx,Option.bind_some,Int.toNat_natCast]
  have hn2:x.2.2.1[j]?=some m:=hn
  rw [hn2]
  rfl
 ·have c:((-1:Int)<0):=by omega
  simp only [Jh.instance,Jh.pin,if_pos c,Zt,hq,Option.bind_some,Int.toNat_natCast]
  rfl
theorem Znj {d:Zb} (hn:0<(Zb.Instances d).length) {p:Pl} (h:p∈places (XQ d)):p∈places d:=by
 have hx:(Zb.Instances d)[(Zb.Instances d).length-1]?=some (Zb.Instances d)[(Zb.Instances d).length-1]:=List.getElem?_eq_getElem (by omega)
 rw [ZkR (s:=[]) hn hx,ZgF]
 unfold places at h
 rcases List.mem_append.1 h with h | h
 ·exact List.mem_append_left _ (List.mem_append_left _ h)
 ·exact List.mem_append_right _ h
theorem Zm9.sink {b:Za} (h:JX b) (hL:Zm9 b):∃ (k:Nat) (p:Pl),sinks (Za.Design b) (((Zb.ZI (Za.Design b)).length:Int)-1)=[(k:Int)]∧(places (Za.Design b))[k]?=some p∧p.2.2.1=((Zb.ZI (Za.Design b)).length:Int)-1∧p.2.2.2.1=false∧p.1≠((Zb.Instances (Za.Design b)).length:Int)-1:=by
 obtain ⟨x,c,w,m,hn,hx,hc,hk1,hk2,hl2,hm,hl,hne,hnm,hw,hs1,hs2,hp1,hc0⟩:=hL
 match hs:sinks (Za.Design b) (((Zb.ZI (Za.Design b)).length:Int)-1),hs2 with
 | [v],_ =>
  obtain ⟨k,p,hp,e,h1,h2,_⟩:=Zs2 (pl:=places (Za.Design b)) (net:=((Zb.ZI (Za.Design b)).length:Int)-1) (i:=0) (x:=v) (by
   show (sinks (Za.Design b) (((Zb.ZI (Za.Design b)).length:Int)-1))[0]?=some v
   rw [hs];rfl)
  subst e
  refine ⟨k,p,rfl,hp,h1,h2,fun q=>?_⟩
  rcases JV hp with ⟨i,j,y,n,hy,hnj,_,rfl⟩ | ⟨j,y,_,_,rfl⟩
  ·simp only [ZeG] at q h1 h2
   have ei:i=(Zb.Instances (Za.Design b)).length-1:=by omega
   rw [ei,hx] at hy
   injection hy with hy
   subst hy
   have hj:=(List.getElem?_eq_some_iff.1 hnj).1
   rw [hl2] at h2 hj
   have:j=0∨j=1:=by omega
   rcases this with rfl | rfl
   ·rw [show atI (Ze.ZI x) 0=(Ze.ZI x)[0]? from rfl,hnj] at hm
    injection hm with hm
    exact hne (hm.symm.trans h1)
   ·exact absurd h2 (by simp only [decide_eq_false_iff_not,Classical.not_not];rw [Qc (by omega) (by omega)];rfl)
  ·simp only at q
   omega
end Go.Proofs.YtoefbkmllkpkkaaGreatDoor
/-
  Plain laws: a buffer taken away; inverse edits.
-/
namespace Go.Proofs.YtoefbkmllkpkkaaGreatDoor
set_option linter.unusedVariables false
set_option linter.unusedSimpArgs false
open Go Go.Sx
theorem ZxK {b:Za} (h:JX b) {k:Nat} {p:Pl} {m:Int} (hn:0<(Zb.Instances (Za.Design b)).length) (hs:sinks (Za.Design b) (((Zb.ZI (Za.Design b)).length:Int)-1)=[(k:Int)]) (hp:(places (Za.Design b))[k]?=some p) (h0:0≤m) (h1:m<((Zb.ZI (Za.Design b)).length:Int)-1) :
  ZlB (places (unD b p m)) ((Za.ZC b).length-1):=by
 have hwn:=h.ok.2.1
 have hD:ZlB (places (conn (Za.Design b) p.1 p.2.1 m)) ((Za.ZC b).length-1):=by
  rw [X3 hp]
  intro q hq hd
  obtain ⟨j,hj⟩:=List.getElem?_of_mem hq
  rw [List.getElem?_set] at hj
  split at hj
  ·split at hj
   ·injection hj with hj
    subst hj
    exact ⟨h0,by show m<_;omega⟩
   ·cases hj
  ·rename_i e
   have hnet:=JJ h.ok.1 (List.mem_of_getElem? hj)
   refine ⟨hnet.1,?_⟩
   by_cases hq2:q.2.2.1=((Zb.ZI (Za.Design b)).length:Int)-1
   ·have h3:=ZnH hj hq2 hd
    have h4:(sinks (Za.Design b) (((Zb.ZI (Za.Design b)).length:Int)-1))[nth (places (Za.Design b)) (((Zb.ZI (Za.Design b)).length:Int)-1) j]?=some (j:Int):=h3
    rw [hs] at h4
    have h5:=List.mem_of_getElem? h4
    rw [List.mem_singleton] at h5
    exact absurd (by omega) e
   ·have:=hnet.2
    omega
 intro q hq hd
 exact hD q (Znj (by rw [Xn];exact hn) hq) hd
theorem Zkj {d:Zb} {x:Ze} (hn:0<(Zb.Instances d).length) (hx:(Zb.Instances d)[(Zb.Instances d).length-1]?=some x) (h2:(Ze.ZI x).length=2):YL (XQ d)+2=YL d:=by
 have h1:=ZuT hn hx
 unfold YL
 rw [h1,Ze6,List.length_append]
 simp only [cat,List.append_nil,QT,h2]
theorem Zr8 {d:Zb} {x:Ze} (hn:0<(Zb.Instances d).length) (hx:(Zb.Instances d)[(Zb.Instances d).length-1]?=some x) (h2:(Ze.ZI x).length=2):Zgz d ((Zb.Instances d).length-1)=YL d-2:=by
 have h1:=Zkj hn hx h2
 have:Zgz d ((Zb.Instances d).length-1)=YL (XQ d):=rfl
 omega
theorem Zpu {b:Za} (h:JX b) (hL:Zm9 b):∃ (k:Nat) (p:Pl) (m v:Int),sinks (Za.Design b) (((Zb.ZI (Za.Design b)).length:Int)-1)=[(k:Int)]∧(places (Za.Design b))[k]?=some p∧p.1≠((Zb.Instances (Za.Design b)).length:Int)-1∧
  (∀ y,(Zb.Instances (Za.Design b))[(Zb.Instances (Za.Design b)).length-1]?=some y→atI (Ze.ZI y) 0=some m)∧v=Xh b (YL (Za.Design b)-2)∧
  ZaM b=some ((p.1,p.2.1,()),(Za.Library b,unD b p m,wired (places (unD b p m)) ((Za.ZC b).take ((Za.ZC b).length-1)) (ZuC (fun j=>if j=k then v else Xh b j) (YL (unD b p m))),())):=by
 obtain ⟨k,p,hs,hp,hpn,hpd,hpi⟩:=hL.sink h
 obtain ⟨x,c,w,m,hn,hx,hc,hk1,hk2,hl2,hm,hl,hne,hnm,hw,hs1,hs2,hp1,hc0⟩:=hL
 have hD:=h.ok.1
 have hf:=hD.few
 have hpl:=Y7 hf
 have h14:=hf.insts
 have h30:=hD.2.1.2.1
 have hwn:=h.ok.2.1
 obtain ⟨_,_,hnet⟩:=hD.2.2.1 x (List.mem_of_getElem? hx)
 have hm0:(Ze.ZI x)[0]?=some m:=hm
 have hmn:=hnet m (List.mem_of_getElem? hm0)
 have hpos:1≤(Zb.ZI (Za.Design b)).length:=by have:=hmn.1;have:=hmn.2;omega
 have hmn2:m<((Zb.ZI (Za.Design b)).length:Int)-1:=by have:=hmn.2;omega
 have hx2:atI (Zb.Instances (Za.Design b)) (((Zb.Instances (Za.Design b)).length:Int)-1)=some x:=Qa (by omega) (by rw [←hx];congr 1;omega)
 have t1:Int.toNat (((Zb.Instances (Za.Design b)).length:Int)-1)=(Zb.Instances (Za.Design b)).length-1:=by omega
 have t2:Int.toNat (((Zb.ZI (Za.Design b)).length:Int)-1)=(Zb.ZI (Za.Design b)).length-1:=by omega
 have t3:Int.toNat (((Za.ZC b).length:Int)-1)=(Za.ZC b).length-1:=by omega
 have e:((Za.Library b,(List.set (Zb.Instances (Za.Design b)) ((Zb.Instances (Za.Design b)).length-1) x,(Za.Design b).snd),b.snd.snd):Za)=b:=by rw [ZbK hx]
 refine ⟨k,p,m,(Option.getD (ZkX Key (Ty.int IntKind.i64) (ZaP (places (Za.Design b)) (Xh b) (places (Za.Design b)).length) ((((Zb.Instances (Za.Design b)).length:Int)-1),(0:Int),())) (0:Int)),hs,hp,hpi,fun y hy=>by rw [hx] at hy;injection hy with hy;rw [←hy];exact hm,?_,?_⟩
 ·have h5:=ZhE hx hm0
  rw [Nat.add_zero,Zr8 hn hx hl2] at h5
  have h6:=ZkV (Za.Design b) (Xh b) _ _ h5 (by
   show decide ((0:Int)=IntKind.i64.wrap (((Ze.ZI x).length:Int)-1))=false
   rw [hl2,Qc (by omega) (by omega)]
   decide)
  have h7:Zwe (ZeG ((Zb.Instances (Za.Design b)).length-1) x 0 m)=((((Zb.Instances (Za.Design b)).length:Int)-1),(0:Int),()):=by
   show ((((Zb.Instances (Za.Design b)).length-1:Nat):Int),(0:Int),())=_
   rw [show (((Zb.Instances (Za.Design b)).length-1:Nat):Int)=((Zb.Instances (Za.Design b)).length:Int)-1 by omega]
  rw [h7] at h6
  rw [h6]
  rfl
 unfold ZaM
 rw [Zhd h,Option.bind_some,Yl _ hf,Option.bind_some,show Xx (Zb.ZI (Za.Design b))=some ((Zb.ZI (Za.Design b)).length:Int) from rfl,Option.bind_some,
  Qc (n:=((Zb.ZI (Za.Design b)).length:Int)-1) (by omega) (by omega),Zf4 _ _ hf,Option.bind_some,hs,show atI [(k:Int)] 0=some (k:Int) from rfl,Option.bind_some,Zt,hp,Option.bind_some,
  Qc (n:=((Zb.Instances (Za.Design b)).length:Int)-1) (by omega) (by omega),hx2,Option.bind_some,show x.snd.snd.fst=Ze.ZI x from rfl,hm,Option.bind_some,t1,e,
  show (ZM.instance p,ZM.pin p,())=(p.1,p.2.1,()) from rfl,Zh4 hp m,Option.bind_some]
 have eD:Za.Design ((Za.Library b,conn (Za.Design b) p.1 p.2.1 m,Za.ZC b,()):Za)=conn (Za.Design b) p.1 p.2.1 m:=rfl
 have eW:Za.ZC ((Za.Library b,conn (Za.Design b) p.1 p.2.1 m,Za.ZC b,()):Za)=Za.ZC b:=rfl
 have eL:Za.Library ((Za.Library b,conn (Za.Design b) p.1 p.2.1 m,Za.ZC b,()):Za)=Za.Library b:=rfl
 rw [eD,eW,eL,QZ,Qc (n:=((Zb.ZI (Za.Design b)).length:Int)-1) (by omega) (by omega),Qc (n:=((Za.ZC b).length:Int)-1) (by omega) (by omega),t2,t3,
  Zj (by omega),Zj (by rw [Xn];omega),Zj (by omega),Zj (by omega),Zj (by omega),Zj (by omega)]
 simp only [Int.toNat_zero,Nat.sub_zero,List.drop_zero]
 have hB:((Za.Library b,(List.take ((Zb.Instances (Za.Design b)).length-1) (Zb.Instances (conn (Za.Design b) p.1 p.2.1 m)),List.take ((Zb.ZI (Za.Design b)).length-1) (Zb.ZI (Za.Design b)),(conn (Za.Design b) p.1 p.2.1 m).snd.snd),List.take ((Za.ZC b).length-1) (Za.ZC b),()):Za)
   = (Za.Library b,unD b p m,List.take ((Za.ZC b).length-1) (Za.ZC b),()):=by
  unfold unD XQ
  rw [Xn,QZ]
 rw [hB]
 have hx3:(Zb.Instances (conn (Za.Design b) p.1 p.2.1 m))[(Zb.Instances (conn (Za.Design b) p.1 p.2.1 m)).length-1]?=some ((Zb.Instances (conn (Za.Design b) p.1 p.2.1 m))[(Zb.Instances (conn (Za.Design b) p.1 p.2.1 m)).length-1]'(by rw [Xn];omega)):=List.getElem?_eq_getElem _
 generalize (Zb.Instances (conn (Za.Design b) p.1 p.2.1 m))[(Zb.Instances (conn (Za.Design b) p.1 p.2.1 m)).length-1]'(by rw [Xn];omega)=x' at hx3
 have hx4:(Ze.ZI x').length=2:=by
  obtain ⟨y,hy,_,_,hyl,_⟩:=ZgP hx3
  rw [Xn,hx] at hy
  injection hy with hy
  rw [hyl,←hy,hl2]
 have hM:=(((ZkV (Za.Design b) (Xh b)).put hp (Option.getD (ZkX Key (Ty.int IntKind.i64) (ZaP (places (Za.Design b)) (Xh b) (places (Za.Design b)).length) ((((Zb.Instances (Za.Design b)).length:Int)-1),(0:Int),())) (0:Int))).set hp m)
 rw [←X3 hp m] at hM
 have hM2:=hM.cut (by rw [Xn];omega) hx3 hx4
 have hlen:(List.take ((Za.ZC b).length-1) (Za.ZC b)).length=(Za.ZC b).length-1:=by rw [List.length_take];omega
 have:=Zg7 (b:=(Za.Library b,unD b p m,List.take ((Za.ZC b).length-1) (Za.ZC b),())) (hf.conn p.1 p.2.1 m).cut hM2 (by
  show ZlB (places (unD b p m)) (List.take ((Za.ZC b).length-1) (Za.ZC b)).length
  rw [hlen]
  exact ZxK h hn hs hp hmn.1 hmn2) (by
  show (List.take ((Za.ZC b).length-1) (Za.ZC b)).length≤_
  rw [hlen];omega)
 exact Eq.trans (congrArg (fun o=>Option.bind o fun connect0=>some ((p.1,p.2.1,()),connect0)) this) rfl
end Go.Proofs.YtoefbkmllkpkkaaGreatDoor
/-
  Plain laws: designs stay valid when a place is put on another net, when a buffer is added or taken away.
-/
namespace Go.Proofs.YtoefbkmllkpkkaaGreatDoor
set_option linter.unusedVariables false
set_option linter.unusedSimpArgs false
open Go Go.Sx
theorem Zce.put {w:Zr} {s:Int} (h:Zce w s) {l:List Int} (hl:ZjE l 0 (((Zr.Parent w).length:Int)-1)):Zce (ZeP w l) (l.length:Int) :=
 ⟨h.1,h.2.1,h.2.2.1,rfl,h.2.2.2.2.1,h.2.2.2.2.2.1,h.2.2.2.2.2.2.1,hl⟩
def Fits (pl:List Pl) (ws:List Zr) (nd:Nat→Int):Prop:=∀ (k:Nat) (p:Pl) (w:Zr),pl[k]?=some p→p.2.2.2.1=false→ws[p.2.2.1.toNat]?=some w→0≤nd k∧nd k≤((Zr.Parent w).length:Int)-1
theorem Ztf {pl:List Pl} {ws:List Zr} {nd:Nat→Int} (hw:∀ (v:Nat) (w:Zr),ws[v]?=some w→∃ s,Zce w s) (hf:Fits pl ws nd) :
  ZfU (wired pl ws nd) (fun v w=>Zce w ((cat (ZaB (v:Int)) 0 pl).length:Int)):=by
 intro v w hv
 rw [Zew] at hv
 cases hx:ws[v]? with
 | none=>rw [hx] at hv;cases hv
 | some y =>
  rw [hx] at hv
  injection hv with hv
  subst hv
  obtain ⟨s,hs⟩:=hw v y hx
  have:=hs.put (l:=(cat (ZaB (v:Int)) 0 pl).map (fun k=>nd k.toNat)) (fun z hz=>by
   obtain ⟨j,hj,rfl⟩:=List.mem_map.1 hz
   obtain ⟨k,p,rfl,hp,h1,h2⟩:=ZxV hj
   exact hf k p y hp h2 (by rw [h1];exact hx))
  rw [List.length_map] at this
  exact this
theorem Zp4 {b:Za} (h:JX b):Fits (places (Za.Design b)) (Za.ZC b) (Xh b):=by
 intro k p w hp h2 hw
 obtain ⟨w',_,hw1,hw2,hw3⟩:=Zva h hp h2
 rw [hw1] at hw
 injection hw with hw
 subst hw
 rw [Zt] at hw2
 exact hw3.2.2.2.2.2.2.2 _ (List.mem_of_getElem? hw2)
theorem Fits.set {pl:List Pl} {ws:List Zr} {nd:Nat→Int} (h:Fits pl ws nd) {k0:Nat} {p0:Pl} (n v:Int) (hv:∀ w,ws[n.toNat]?=some w→0≤v∧v≤((Zr.Parent w).length:Int)-1) :
  Fits (pl.set k0 (p0.1,p0.2.1,n,p0.2.2.2.1,())) ws (fun j=>if j=k0 then v else nd j):=by
 intro k p w hp h2 hw
 rw [List.getElem?_set] at hp
 split at hp
 ·rename_i e
  subst e
  split at hp
  ·injection hp with hp
   subst hp
   show 0≤(if k0=k0 then v else nd k0)∧(if k0=k0 then v else nd k0)≤_
   rw [if_pos rfl]
   exact hv w hw
  ·cases hp
 ·rename_i e
  show 0≤(if k=k0 then v else nd k)∧(if k=k0 then v else nd k)≤_
  rw [if_neg (fun q=>e q.symm)]
  exact h k p w hp h2 hw
theorem Qd.snoc {l:List (List UInt8)} {s:List UInt8} (h:Qd l l.length) (h1:Jc s=true) (h2:s ∉ l):Qd (l++[s]) (l++[s]).length:=by
 intro j t hj ht
 by_cases e:j<l.length
 ·rw [List.getElem?_append_left e] at ht
  obtain ⟨a,b⟩:=h j t e ht
  refine ⟨a,?_⟩
  rw [List.take_append_of_le_length (by omega)]
  exact b
 ·rw [List.length_append,List.length_singleton] at hj
  have e2:j=l.length:=by omega
  subst e2
  rw [List.getElem?_append_right (by omega),Nat.sub_self] at ht
  injection ht with ht
  subst ht
  refine ⟨h1,?_⟩
  rw [List.take_append_of_le_length (Nat.le_refl _),List.take_length]
  exact h2
theorem Qd.take {l:List (List UInt8)} (h:Qd l l.length) (m:Nat):Qd (l.take m) (l.take m).length:=by
 intro j t hj ht
 rw [List.length_take] at hj
 rw [List.getElem?_take,if_pos (by omega)] at ht
 obtain ⟨a,b⟩:=h j t (by omega) ht
 refine ⟨a,?_⟩
 rw [List.take_take,Nat.min_eq_left (by omega)]
 exact b
theorem ZuQ (d:Zb) (a b n:Int):ZaE (conn d a b n)=ZaE d:=by
 unfold conn
 split
 ·rfl
 ·show List.map Ze.Name (match (Zb.Instances d)[a.toNat]? with | some x=>(Zb.Instances d).set a.toNat (ZeK x b.toNat n) | none=>Zb.Instances d)=List.map Ze.Name (Zb.Instances d)
  split
  ·rename_i x hx
   rw [List.map_set]
   exact ZbK (by rw [List.getElem?_map,hx];rfl)
  ·rfl
theorem Zut (d:Zb) (a b n:Int):ZcZ (conn d a b n)=ZcZ d:=by
 unfold conn
 split
 ·show List.map ZT.Name (match (Zb.ZK d)[b.toNat]? with | some x=>(Zb.ZK d).set b.toNat (setPort x n) | none=>Zb.ZK d)=List.map ZT.Name (Zb.ZK d)
  split
  ·rename_i x hx
   rw [List.map_set]
   exact ZbK (by rw [List.getElem?_map,hx];rfl)
  ·rfl
 ·rfl
theorem ZuB {d:Zb} {a b n:Int} {i:Nat} {y:ZT} (hy:(Zb.ZK (conn d a b n))[i]?=some y):∃ x,(Zb.ZK d)[i]?=some x∧ZT.Name y=ZT.Name x∧ZT.Dir y=ZT.Dir x∧(ZT.Net y=ZT.Net x∨ZT.Net y=n):=by
 unfold conn at hy
 split at hy
 ·have hy:(match (Zb.ZK d)[b.toNat]? with | some x=>(Zb.ZK d).set b.toNat (setPort x n) | none=>Zb.ZK d)[i]?=some y:=hy
  split at hy
  ·rename_i x hx
   rw [List.getElem?_set] at hy
   split at hy
   ·rename_i e
    split at hy
    ·injection hy with hy
     subst hy
     exact ⟨x,by rw [←e];exact hx,rfl,rfl,.inr rfl⟩
    ·cases hy
   ·exact ⟨y,hy,rfl,rfl,.inl rfl⟩
  ·exact ⟨y,hy,rfl,rfl,.inl rfl⟩
 ·exact ⟨y,hy,rfl,rfl,.inl rfl⟩
theorem ZmV {α:Type} {f:α→Bool} {y:α} (hy:f y=false):∀ {l:List α} {i:Nat} {x:α},l[i]?=some x→f x=false→(l.set i y).filter f=l.filter f
 | [],i,x,h,_=>by simp at h
 | a::l,0,x,h,hx=>by
  have h:a=x:=by simpa using h
  subst h
  simp [List.set,hx,hy]
 | a::l,i+1,x,h,hx=>by
  have:=ZmV hy (l:=l) (i:=i) (by simpa using h) hx
  simp only [List.set_cons_succ,List.filter_cons,this]
theorem ZkT {x:Ze} (h:0<(Ze.ZI x).length):(Ze.ZI x)[(Ze.ZI x).length-1]?=some (XW x):=by
 unfold XW
 rw [List.getLastD_eq_getLast?,←List.getLast?_eq_getElem?]
 cases hN:Ze.ZI x with
 | nil=>rw [hN] at h;simp at h
 | cons y r=>rw [List.getLast?_cons];rfl
theorem ZrV {x:Ze} {j:Nat} {n:Int} (h:j+1≠(Ze.ZI x).length):XW (ZeK x j n)=XW x:=by
 by_cases h0:0<(Ze.ZI x).length
 ·have h1:=ZkT (x:=ZeK x j n) (by show 0<(List.set (Ze.ZI x) j n).length;rw [List.length_set];exact h0)
  have h2:(List.set (Ze.ZI x) j n)[(List.set (Ze.ZI x) j n).length-1]?=some (XW (ZeK x j n)):=h1
  rw [List.length_set,List.getElem?_set,if_neg (by omega),ZkT h0] at h2
  injection h2 with h2
  exact h2.symm
 ·have e:Ze.ZI x=[]:=List.length_eq_zero_iff.1 (by omega)
  unfold XW
  show (List.set (Ze.ZI x) j n).getLastD 0=_
  rw [e];rfl
theorem Zyt {d:Zb} (hf:Few d) {k:Nat} {p:Pl} (hp:(places d)[k]?=some p) (h2:p.2.2.2.1=false) (n:Int):Zro (conn d p.1 p.2.1 n)=Zro d:=by
 unfold Zro
 rcases JV hp with ⟨i,j,x,m,hx,hn,e,rfl⟩ | ⟨j,q,hq,e,rfl⟩
 ·have hl:=hf.nets x (List.mem_of_getElem? hx)
  have hj:=(List.getElem?_eq_some_iff.1 hn).1
  have h3:decide ((j:Int)=IntKind.i64.wrap (((Ze.ZI x).length:Int)-1))=false:=h2
  rw [Qc (by omega) (by omega)] at h3
  have h4:¬((j:Int)=((Ze.ZI x).length:Int)-1):=of_decide_eq_false h3
  have c:¬((i:Int)<0):=by omega
  have e1:Zb.Instances (conn d (ZeG i x j m).1 (ZeG i x j m).2.1 n)=(Zb.Instances d).set i (ZeK x j n):=by
   unfold conn
   show Zb.Instances (if (i:Int)<0 then _ else _)=_
   rw [if_neg c]
   show (match (Zb.Instances d)[(i:Int).toNat]? with | some x=>(Zb.Instances d).set (i:Int).toNat (ZeK x (j:Int).toNat n) | none=>Zb.Instances d)=_
   simp only [Int.toNat_natCast,hx]
  have e2:Zb.ZK (conn d (ZeG i x j m).1 (ZeG i x j m).2.1 n)=Zb.ZK d:=by
   unfold conn
   show Zb.ZK (if (i:Int)<0 then _ else _)=_
   rw [if_neg c]
  rw [e1,e2,List.map_set,ZrV (by omega),ZbK (by rw [List.getElem?_map,hx];rfl)]
 ·have h3:decide (ZT.Dir q=1)=false:=h2
  have e1:Zb.Instances (conn d (-1) (j:Int) n)=Zb.Instances d:=by
   unfold conn
   rw [if_pos (by omega)]
  have e2:Zb.ZK (conn d (-1) (j:Int) n)=(Zb.ZK d).set j (setPort q n):=by
   unfold conn
   rw [if_pos (by omega)]
   show (match (Zb.ZK d)[(j:Int).toNat]? with | some x=>(Zb.ZK d).set (j:Int).toNat (setPort x n) | none=>Zb.ZK d)=_
   simp only [Int.toNat_natCast,hq]
  show (Zb.Instances (conn d (-1) (j:Int) n)).map XW++((Zb.ZK (conn d (-1) (j:Int) n)).filter (fun p=>decide (ZT.Dir p=1))).map ZT.Net=_
  rw [e1,e2,ZmV (by exact h3) hq h3]
theorem Zu6 {a:Zp} {d:Zb} (h:Qm a d) {k:Nat} {p:Pl} (hp:(places d)[k]?=some p) (h2:p.2.2.2.1=false) {n:Int} (hn:Zbw d n):Qm a (conn d p.1 p.2.1 n):=by
 obtain ⟨hl,⟨n1,n2,n3,n4,n5,n6⟩,hi,hq,ho⟩:=h
 have hf:Few d:=Qm.few (a:=a) ⟨hl,⟨n1,n2,n3,n4,n5,n6⟩,hi,hq,ho⟩
 refine ⟨hl,⟨by rw [Xn];exact n1,by rw [QZ];exact n2,by rw [Zix];exact n3,by rw [ZuQ];exact n4,by rw [QZ];exact n5,by rw [Zut];exact n6⟩,fun y hy=>?_,fun y hy=>?_,?_⟩
 ·obtain ⟨i,hi2⟩:=List.getElem?_of_mem hy
  obtain ⟨x,hx,_,hc,hlen,_,hm⟩:=ZgP hi2
  obtain ⟨r1,⟨c,r2,r3⟩,r4⟩:=hi x (List.mem_of_getElem? hx)
  refine ⟨by rw [hc];exact r1,⟨c,by rw [hc];exact r2,by rw [hlen];exact r3⟩,fun m hm2=>?_⟩
  unfold Zbw
  rw [QZ]
  rcases hm m hm2 with q | q
  ·exact r4 m q
  ·rw [q];exact hn
 ·obtain ⟨i,hi2⟩:=List.getElem?_of_mem hy
  obtain ⟨x,hx,_,hd,hm⟩:=ZuB hi2
  obtain ⟨r1,r2⟩:=hq x (List.mem_of_getElem? hx)
  refine ⟨by rw [hd];exact r1,?_⟩
  unfold Zbw
  rw [QZ]
  rcases hm with q | q
  ·rw [q];exact r2
  ·rw [q];exact hn
 ·unfold Zii
  rw [QZ,Zyt hf hp h2]
  exact ho
theorem Zwb {a:Zp} {d:Zb} (h:Qm a d):∀ v∈Zro d,Zbw d v:=by
 have hf:=h.few
 intro v hv
 unfold Zro at hv
 rcases List.mem_append.1 hv with hv | hv
 ·obtain ⟨x,hx,rfl⟩:=List.mem_map.1 hv
  have:=hf.nets x hx
  exact ((h.2.2.1 x hx).last h.1 (by omega)).2
 ·obtain ⟨q,hq,rfl⟩:=List.mem_map.1 hv
  exact (h.2.2.2.1 q (List.mem_filter.1 hq).1).2
theorem Zow {d:Zb}:Zii d↔∀ v:Nat,v<(Zb.ZI d).length→(Zro d).countP (fun x=>decide (x=(v:Int)))=1:=by
 unfold Zii
 constructor
 ·intro h v hv
  have:=h _ (List.mem_of_getElem? (ZkP (s:=Zro d) hv))
  omega
 ·intro h x hx
  obtain ⟨j,hj⟩:=List.getElem?_of_mem hx
  have hlt:=(List.getElem?_eq_some_iff.1 hj).1
  rw [ZiP] at hlt
  rw [ZkP hlt] at hj
  injection hj with hj
  have:=h j hlt
  omega
theorem Zvk {l:List Int} {v:Int} (h:∀ x∈l,x≠v):l.countP (fun x=>decide (x=v))=0:=by
 rw [List.countP_eq_zero]
 intro x hx
 simp [h x hx]
theorem ZCU {a:Zp} {d:Zb} (h:Qm a d) {s:List UInt8} {c m:Int} {cell:Zm} (hs:Jc s=true) (h1:s ∉ ZaE d) (h2:s ∉ Zb.ZI d) (h13:(Zb.Instances d).length≤13) (h29:(Zb.ZI d).length≤29)
  (hc0:0≤c) (hc1:c≤((Zp.Cells a).length:Int)-1) (hc:(Zp.Cells a)[c.toNat]?=some cell) (hp:(Zm.YC cell).length=2) (hm:Zbw d m) :
  Qm a (addInst d (s,c,[m,((Zb.ZI d).length:Int)],()) s):=by
 have hdn:=Zwb h
 obtain ⟨hl,⟨n1,n2,n3,n4,n5,n6⟩,hi,hq,ho⟩:=h
 have eI:Zb.Instances (addInst d (s,c,[m,((Zb.ZI d).length:Int)],()) s)=Zb.Instances d++[(s,c,[m,((Zb.ZI d).length:Int)],())]:=rfl
 have eN:Zb.ZI (addInst d (s,c,[m,((Zb.ZI d).length:Int)],()) s)=Zb.ZI d++[s]:=rfl
 have eP:Zb.ZK (addInst d (s,c,[m,((Zb.ZI d).length:Int)],()) s)=Zb.ZK d:=rfl
 have hnet:∀ n,Zbw d n→Zbw (addInst d (s,c,[m,((Zb.ZI d).length:Int)],()) s) n:=fun n hn=>by
  unfold Zbw at *
  rw [eN,List.length_append,List.length_singleton]
  omega
 refine ⟨hl,⟨by rw [eI,List.length_append,List.length_singleton];omega,by rw [eN,List.length_append,List.length_singleton];omega,n3,?_,by rw [eN];exact n5.snoc hs h2,n6⟩,fun y hy=>?_,fun y hy=>?_,?_⟩
 ·have:ZaE (addInst d (s,c,[m,((Zb.ZI d).length:Int)],()) s)=ZaE d++[s]:=by
   unfold ZaE
   rw [eI,List.map_append]
   rfl
  rw [this]
  exact n4.snoc hs h1
 ·rw [eI] at hy
  rcases List.mem_append.1 hy with hy | hy
  ·obtain ⟨r1,r2,r4⟩:=hi y hy
   exact ⟨r1,r2,fun n hn=>hnet n (r4 n hn)⟩
  ·rw [List.mem_singleton] at hy
   subst hy
   refine ⟨⟨hc0,hc1⟩,⟨cell,hc,by rw [hp];rfl⟩,fun n hn=>?_⟩
   have hn:n∈[m,((Zb.ZI d).length:Int)]:=hn
   rcases List.mem_cons.1 hn with hn | hn
   ·rw [hn];exact hnet m hm
   ·rw [List.mem_singleton] at hn
    subst hn
    unfold Zbw
    rw [eN,List.length_append,List.length_singleton]
    omega
 ·obtain ⟨r1,r2⟩:=hq y hy
  exact ⟨r1,hnet _ r2⟩
 ·rw [Zow] at ho ⊢
  intro v hv
  rw [eN,List.length_append,List.length_singleton] at hv
  have e:Zro (addInst d (s,c,[m,((Zb.ZI d).length:Int)],()) s)=(Zb.Instances d).map XW++[((Zb.ZI d).length:Int)]++((Zb.ZK d).filter (fun p=>decide (ZT.Dir p=1))).map ZT.Net:=by
   unfold Zro
   rw [eI,eP,List.map_append]
   rfl
  have e2:Zro d=(Zb.Instances d).map XW++((Zb.ZK d).filter (fun p=>decide (ZT.Dir p=1))).map ZT.Net:=rfl
  rw [e,List.countP_append,List.countP_append,List.countP_singleton]
  by_cases hvl:v<(Zb.ZI d).length
  ·have:=ho v hvl
   rw [e2,List.countP_append] at this
   rw [if_neg (by simp;omega)]
   omega
  ·have h0:=Zvk (l:=Zro d) (v:=(v:Int)) (fun x hx=>by have:=(hdn x hx).2;omega)
   rw [e2,List.countP_append] at h0
   rw [if_pos (by simp;omega)]
   omega
theorem ZBN {d:Zb} (hf:Few d) {p:Pl} (hp:p∈places d) (h2:p.2.2.2.1=true):p.2.2.1∈Zro d:=by
 obtain ⟨k,hk⟩:=List.getElem?_of_mem hp
 unfold Zro
 rcases JV hk with ⟨i,j,x,m,hx,hn,e,rfl⟩ | ⟨j,q,hq,e,rfl⟩
 ·have hl:=hf.nets x (List.mem_of_getElem? hx)
  have hj:=(List.getElem?_eq_some_iff.1 hn).1
  have h3:decide ((j:Int)=IntKind.i64.wrap (((Ze.ZI x).length:Int)-1))=true:=h2
  rw [Qc (by omega) (by omega)] at h3
  have h4:(j:Int)=((Ze.ZI x).length:Int)-1:=of_decide_eq_true h3
  refine List.mem_append_left _ (List.mem_map.2 ⟨x,List.mem_of_getElem? hx,?_⟩)
  have h5:=ZkT (x:=x) (by omega)
  rw [show (Ze.ZI x).length-1=j by omega,hn] at h5
  injection h5 with h5
  exact h5.symm
 ·have h3:decide (ZT.Dir q=1)=true:=h2
  exact List.mem_append_right _ (List.mem_map.2 ⟨q,List.mem_filter.2 ⟨List.mem_of_getElem? hq,h3⟩,rfl⟩)
theorem ZCP {a:Zp} {d:Zb} (h:Qm a d) {x:Ze} (hn:0<(Zb.Instances d).length) (hx:(Zb.Instances d)[(Zb.Instances d).length-1]?=some x) (hlx:XW x=((Zb.ZI d).length:Int)-1)
  (hs:∀ p∈places d,p.2.2.2.1=false→p.2.2.1≠((Zb.ZI d).length:Int)-1):Qm a (XQ d):=by
 have hdn:=Zwb h
 have hf:=h.few
 have hcut:=ZuT hn hx
 obtain ⟨hl,⟨n1,n2,n3,n4,n5,n6⟩,hi,hq,ho⟩:=h
 have hpos:1≤(Zb.ZI d).length:=by
  have:=hdn (XW x) (List.mem_append_left _ (List.mem_map.2 ⟨x,List.mem_of_getElem? hx,rfl⟩))
  unfold Zbw at this
  omega
 have eN:(Zb.ZI (XQ d)).length=(Zb.ZI d).length-1:=by
  show (List.take ((Zb.ZI d).length-1) (Zb.ZI d)).length=_
  rw [List.length_take];omega
 have eD:Zro d=(Zb.Instances (XQ d)).map XW++[XW x]++((Zb.ZK d).filter (fun p=>decide (ZT.Dir p=1))).map ZT.Net:=by
  unfold Zro
  rw [hcut,List.map_append]
  rfl
 have eC:Zro (XQ d)=(Zb.Instances (XQ d)).map XW++((Zb.ZK d).filter (fun p=>decide (ZT.Dir p=1))).map ZT.Net:=rfl
 have hcnt:∀ v:Int,(Zro d).countP (fun y=>decide (y=v))=(Zro (XQ d)).countP (fun y=>decide (y=v))+if XW x=v then 1 else 0:=fun v=>by
  rw [eD,eC,List.countP_append,List.countP_append,List.countP_append,List.countP_singleton]
  by_cases q:XW x=v
  ·simp only [q,decide_true,if_true];omega
  ·simp only [q,decide_false,if_false];simp
 rw [Zow] at ho
 have none:∀ p∈places (XQ d),p.2.2.1≠((Zb.ZI d).length:Int)-1:=by
  intro p hp e
  cases h2:p.2.2.2.1 with
  | false=>exact hs p (Znj hn hp) h2 e
  | true =>
   have h3:=ZBN hf.cut hp h2
   have h4:=ho ((Zb.ZI d).length-1) (by omega)
   rw [hcnt,if_pos (by omega)] at h4
   have h5:0<(Zro (XQ d)).countP (fun y=>decide (y=(((Zb.ZI d).length-1:Nat):Int))):=List.countP_pos_iff.2 ⟨_,h3,by simp;omega⟩
   omega
 have netC:∀ n,Zbw d n→n≠((Zb.ZI d).length:Int)-1→Zbw (XQ d) n:=fun n h1 h2=>by
  unfold Zbw at *
  rw [eN]
  omega
 have eI:∀ i y,(Zb.Instances (XQ d))[i]?=some y→(Zb.Instances d)[i]?=some y:=fun i y hy=>by
  rw [hcut,List.getElem?_append_left (List.getElem?_eq_some_iff.1 hy).1]
  exact hy
 refine ⟨hl,⟨by show (List.take _ (Zb.Instances d)).length≤14;rw [List.length_take];omega,by rw [eN];omega,n3,?_,n5.take _,n6⟩,fun y hy=>?_,fun y hy=>?_,?_⟩
 ·have:ZaE (XQ d)=(ZaE d).take ((Zb.Instances d).length-1):=by
   unfold ZaE
   show List.map Ze.Name (List.take _ (Zb.Instances d))=_
   rw [List.map_take]
  rw [this]
  exact n4.take _
 ·obtain ⟨i,hy2⟩:=List.getElem?_of_mem hy
  obtain ⟨r1,r2,r4⟩:=hi y (List.mem_of_getElem? (eI i y hy2))
  refine ⟨r1,r2,fun n hn2=>netC n (r4 n hn2) ?_⟩
  obtain ⟨j,hj⟩:=List.getElem?_of_mem hn2
  exact none _ (List.mem_of_getElem? (ZhE hy2 hj))
 ·obtain ⟨r1,r2⟩:=hq y hy
  obtain ⟨j,hj⟩:=List.getElem?_of_mem hy
  exact ⟨r1,netC _ r2 (none _ (List.mem_of_getElem? (Zsw (d:=XQ d) hj)))⟩
 ·rw [Zow]
  intro v hv
  rw [eN] at hv
  have:=ho v (by omega)
  rw [hcnt,if_neg (by omega)] at this
  exact this
end Go.Proofs.YtoefbkmllkpkkaaGreatDoor
/-
  Plain laws: the blocks that edits make are valid.
-/
namespace Go.Proofs.YtoefbkmllkpkkaaGreatDoor
set_option linter.unusedVariables false
set_option linter.unusedSimpArgs false
open Go Go.Sx
theorem ZqP {l:List Int} (h:l.length≤1048576):sm (.sl (.int .i64)) l:=⟨by omega,fun _ _=>trivial⟩
theorem Zq3 {s:List UInt8} {c:Int} {l:List Int} (h1:sm .str s) (h2:l.length≤1048576):sm ZX (s,c,l,()):=⟨h1,trivial,ZqP h2,trivial⟩
theorem Zuo {a b c d:List Int} (h1:a.length≤1048576) (h2:b.length≤1048576) (h3:c.length≤1048576) (h4:d.length≤1048576):sm XZ (a,b,c,d,()):=⟨ZqP h1,ZqP h2,ZqP h3,ZqP h4,trivial⟩
theorem Zi8 {a:List Ze} {b:List (List UInt8)} {c:List ZT} (h1:sm (.sl ZX) a) (h2:sm (.sl .str) b) (h3:sm (.sl Jf) c):sm Yr (a,b,c,()):=⟨h1,h2,h3,trivial⟩
theorem Zis {a:Zp} {b:Zb} {c:List Zr} (h1:sm YN a) (h2:sm Yr b) (h3:sm (.sl XZ) c):sm YB (a,b,c,()):=⟨h1,h2,h3,trivial⟩
theorem ZvE {d:Zb} (h:sm Yr d) (a b n:Int):sm Yr (conn d a b n):=by
 obtain ⟨h1,h2,h3⟩:=Zck h
 have e:conn d a b n=(Zb.Instances (conn d a b n),Zb.ZI (conn d a b n),Zb.ZK (conn d a b n),()):=rfl
 rw [e]
 refine Zi8 ⟨by rw [Xn];exact h1.1,fun y hy=>?_⟩ (by rw [QZ];exact h3) ⟨by rw [Zix];exact h2.1,fun y hy=>?_⟩
 ·obtain ⟨i,hi⟩:=List.getElem?_of_mem hy
  obtain ⟨x,hx,hn,_,hl,_⟩:=ZgP hi
  obtain ⟨s1,s2⟩:=ZmQ (Jd h1 hx)
  have s3:=Zo s2
  exact Zq3 (s:=Ze.Name y) (c:=Ze.Cell y) (l:=Ze.ZI y) (by rw [hn];exact s1) (by rw [hl];exact s3)
 ·obtain ⟨i,hi⟩:=List.getElem?_of_mem hy
  obtain ⟨x,hx,hn,_⟩:=ZuB hi
  have s1:=ZA1 (Jd h2 hx)
  have:sm .str (ZT.Name y):=by rw [hn];exact s1
  exact ⟨this,trivial,trivial,trivial⟩
theorem ZDb {d:Zb} (h:sm Yr d) (hf:(Zb.Instances d).length≤100) (hn:(Zb.ZI d).length≤100) {x:Ze} {s:List UInt8} (hx:sm ZX x) (hs:sm .str s):sm Yr (addInst d x s):=by
 obtain ⟨h1,h2,h3⟩:=Zck h
 refine Zi8 ⟨by rw [List.length_append,List.length_singleton];omega,fun y hy=>?_⟩ ⟨by rw [List.length_append,List.length_singleton];omega,fun y hy=>?_⟩ h2
 ·rcases List.mem_append.1 hy with hy | hy
  ·exact h1.2 y hy
  ·rw [List.mem_singleton] at hy;rw [hy];exact hx
 ·rcases List.mem_append.1 hy with hy | hy
  ·exact h3.2 y hy
  ·rw [List.mem_singleton] at hy;rw [hy];exact hs
theorem Zvr {t:Ty} {l:List t.den} (h:sm (.sl t) l) (m:Nat):sm (.sl t) (l.take m):=by
 have:=h.1
 exact ⟨by rw [List.length_take];omega,fun x hx=>h.2 x (List.mem_of_mem_take hx)⟩
theorem ZC7 {d:Zb} (h:sm Yr d):sm Yr (XQ d):=by
 obtain ⟨h1,h2,h3⟩:=Zck h
 exact Zi8 (Zvr h1 _) (Zvr h3 _) h2
theorem ZsC {pl:List Pl} {ws:List Zr} {nd:Nat→Int} (h:sm (.sl XZ) ws) (hp:pl.length≤1048576):sm (.sl XZ) (wired pl ws nd):=by
 have h1:=h.1
 refine ⟨by rw [Zim];exact h1,fun y hy=>?_⟩
 obtain ⟨v,hv⟩:=List.getElem?_of_mem hy
 rw [Zew] at hv
 cases hx:ws[v]? with
 | none=>rw [hx] at hv;cases hv
 | some w =>
  rw [hx] at hv
  injection hv with hv
  subst hv
  obtain ⟨a1,a2,a3,a4⟩:=Zlq (Jd h hx)
  have:=ZfJ (v:Int) pl 0
  exact Zuo (Zo a1) (Zo a2) (Zo a3) (by rw [List.length_map];omega)
theorem ZAN {b:Za} (h:JX b) {k:Nat} {p:Pl} (hp:(places (Za.Design b))[k]?=some p) (h2:p.2.2.2.1=false) {n v:Int} (hn:Zbw (Za.Design b) n) (hv:∀ w,(Za.ZC b)[n.toNat]?=some w→0≤v∧v≤((Zr.Parent w).length:Int)-1):JX (moved b k p n v):=by
 have hpl:places (mvD b p n)=(places (Za.Design b)).set k (p.1,p.2.1,n,p.2.2.2.1,()):=X3 hp n
 obtain ⟨b1,b2,b3⟩:=ZaI h.sm
 have hD:Qm (Za.Library b) (mvD b p n):=Zu6 h.ok.1 hp h2 hn
 refine ⟨⟨hD,?_,?_⟩,?_⟩
 ·show (wired (places (mvD b p n)) (Za.ZC b) (mvN b k v)).length=(Zb.ZI (conn (Za.Design b) p.1 p.2.1 n)).length
  rw [Zim,QZ];exact h.ok.2.1
 ·exact Ztf (fun v w hw=>⟨_,h.ok.2.2 v w hw⟩) (by rw [hpl];exact (Zp4 h).set n v hv)
 ·have hl:=Y7 hD.few
  exact Zis b1 (ZvE b2 _ _ _) (ZsC b3 (by omega))
theorem ZyY {c c2:Zm} (h1:sm XY c) (h2:sm XY c2) (h:Jz c c2=some true):(Zm.YC c2).length=(Zm.YC c).length:=by
 unfold Jz at h
 by_cases q:Zm.Kind c=Zm.Kind c2
 ·by_cases q2:((Zm.YC c).length:Int)=((Zm.YC c2).length:Int)
  ·omega
  ·exfalso;revert h;simp [q,q2]
 ·exfalso;revert h;simp [q]
theorem ZlC {d:Zb} {i:Nat} {x:Ze} (hx:(Zb.Instances d)[i]?=some x) (c:Int):places ((Zb.Instances d).set i (Ze.Name x,c,Ze.ZI x,()),Zb.ZI d,Zb.ZK d,())=places d:=by
 show cat Xf 0 ((Zb.Instances d).set i (Ze.Name x,c,Ze.ZI x,()))++cat ZcI 0 (Zb.ZK d)=_
 unfold places
 congr 1
 have hlt:=(List.getElem?_eq_some_iff.1 hx).1
 have e1:=Zhf Xf hx
 have hx2:((Zb.Instances d).set i (Ze.Name x,c,Ze.ZI x,()))[i]?=some (Ze.Name x,c,Ze.ZI x,()):=List.getElem?_set_self hlt
 have e2:=Zhf Xf hx2
 rw [e1,e2,List.take_set_of_le (Nat.le_refl _),List.drop_set_of_lt (by omega)]
 rfl
theorem ZwM {b:Za} (h:JX b) {i:Int} (h0:0≤i) {x:Ze} (hx:(Zb.Instances (Za.Design b))[i.toNat]?=some x) {c:Int} {c1 c2:Zm} (hc1:(Zp.Cells (Za.Library b))[(Ze.Cell x).toNat]?=some c1) (hc2:(Zp.Cells (Za.Library b))[c.toNat]?=some c2)
  (hc:0≤c∧c≤((Zp.Cells (Za.Library b)).length:Int)-1) (ha:(Zm.YC c2).length=(Zm.YC c1).length):JX (swapped b i c):=by
 obtain ⟨b1,b2,b3⟩:=ZaI h.sm
 obtain ⟨s1,s2,s3⟩:=Zck b2
 obtain ⟨⟨hl,⟨n1,n2,n3,n4,n5,n6⟩,hi,hq,ho⟩,hwn,hw⟩:=h.ok
 have e:swapped b i c=(Za.Library b,((Zb.Instances (Za.Design b)).set i.toNat (Ze.Name x,c,Ze.ZI x,()),Zb.ZI (Za.Design b),Zb.ZK (Za.Design b),()),Za.ZC b,()):=by
  unfold swapped
  rw [hx]
 have hpl:=ZlC hx c
 rw [e]
 have hmem:∀ y∈(Zb.Instances (Za.Design b)).set i.toNat (Ze.Name x,c,Ze.ZI x,()),y∈Zb.Instances (Za.Design b)∨y=(Ze.Name x,c,Ze.ZI x,()):=fun y hy=>List.mem_or_eq_of_mem_set hy
 refine ⟨⟨⟨hl,⟨by show (List.set _ _ _).length≤14;rw [List.length_set];exact n1,n2,n3,?_,n5,n6⟩,fun y hy=>?_,hq,?_⟩,hwn,?_⟩,?_⟩
 ·have:ZaE ((Zb.Instances (Za.Design b)).set i.toNat (Ze.Name x,c,Ze.ZI x,()),Zb.ZI (Za.Design b),Zb.ZK (Za.Design b),())=ZaE (Za.Design b):=by
   show List.map Ze.Name (List.set _ _ _)=_
   rw [List.map_set]
   exact ZbK (by rw [List.getElem?_map,hx];rfl)
  exact this▸n4
 ·rcases hmem y hy with hy | hy
  ·exact hi y hy
  ·subst hy
   obtain ⟨r1,⟨c',r2,r3⟩,r4⟩:=hi x (List.mem_of_getElem? hx)
   have r2:(Zp.Cells (Za.Library b))[(Ze.Cell x).toNat]?=some c':=r2
   rw [hc1] at r2
   injection r2 with r2
   subst r2
   exact ⟨hc,⟨c2,hc2,by rw [ha];exact r3⟩,r4⟩
 ·unfold Zii
  have:Zro ((Zb.Instances (Za.Design b)).set i.toNat (Ze.Name x,c,Ze.ZI x,()),Zb.ZI (Za.Design b),Zb.ZK (Za.Design b),())=Zro (Za.Design b):=by
   unfold Zro
   congr 1
   show List.map XW (List.set _ _ _)=_
   rw [List.map_set]
   exact ZbK (by rw [List.getElem?_map,hx];rfl)
  rw [this]
  exact ho
 ·intro k w hk
  have:=hw k w hk
  unfold sinks at *
  have hpl2:places (Za.Design ((Za.Library b,((Zb.Instances (Za.Design b)).set i.toNat (Ze.Name x,c,Ze.ZI x,()),Zb.ZI (Za.Design b),Zb.ZK (Za.Design b),()),Za.ZC b,()):Za))=places (Za.Design b):=hpl
  rw [hpl2]
  exact this
 ·refine Zis b1 (Zi8 ⟨by rw [List.length_set];exact s1.1,fun y hy=>?_⟩ s3 s2) b3
  rcases hmem y hy with hy | hy
  ·exact s1.2 y hy
  ·subst hy
   obtain ⟨q1,q2⟩:=ZmQ (Jd s1 hx)
   exact Zq3 q1 (Zo q2)
theorem ZyM {b:Za} (h:JX b) {n:Int} (hn:Zbw (Za.Design b) n) {w:Zr} (hw:Zce w ((sinks (Za.Design b) n).length:Int)) (hs:sm XZ w):JX (ZA4 b n w):=by
 obtain ⟨b1,b2,b3⟩:=ZaI h.sm
 obtain ⟨hD,hwn,hW⟩:=h.ok
 refine ⟨⟨hD,by show (List.set _ _ _).length=_;rw [List.length_set];exact hwn,?_⟩,Zis b1 b2 ⟨by rw [List.length_set];exact b3.1,fun y hy=>?_⟩⟩
 ·intro k y hk
  have hk:((Za.ZC b).set n.toNat w)[k]?=some y:=hk
  rw [List.getElem?_set] at hk
  split at hk
  ·rename_i e
   split at hk
   ·injection hk with hk
    subst hk
    rw [←e]
    show Zce w ((sinks (Za.Design b) ((n.toNat:Nat):Int)).length:Int)
    rw [show ((n.toNat:Nat):Int)=n by have:=hn.1;omega]
    exact hw
   ·cases hk
  ·exact hW k y hk
 ·rcases List.mem_or_eq_of_mem_set hy with hy | hy
  ·exact b3.2 y hy
  ·rw [hy];exact hs
theorem ZkY {b:Za} (h:JX b) {e:Zk} {k:Nat} {p q:Pl} (hp:(places (Za.Design b))[k]?=some p):(places (addInst (Za.Design b) (Zsl b e q) (Zk.Name e)))[Zwk b k]?=some p:=by
 unfold Zwk
 by_cases hk:k<YL (Za.Design b)
 ·rw [if_pos hk,Zuq hk];exact hp
 ·rw [if_neg hk]
  have:=Zun (d:=Za.Design b) (x:=Zsl b e q) (s:=Zk.Name e) (k:=k) (by omega)
  rw [show (Ze.ZI (Zsl b e q)).length=2 from rfl] at this
  rw [this];exact hp
theorem Zzv {d:Zb} {k:Nat} {p:Pl} (hp:(places d)[k]?=some p) (h1:p.1<((Zb.Instances d).length:Int)∨True):p.1<((Zb.Instances d).length:Int):=by
 rcases JV hp with ⟨i,j,x,m,hx,hn,e,rfl⟩ | ⟨j,q,hq,e,rfl⟩
 ·have:=(List.getElem?_eq_some_iff.1 hx).1
  show (i:Int)<_
  omega
 ·show (-1:Int)<_
  omega
theorem Ziq {b:Za} {e:Zk} {k:Nat} {p:Pl} (hp:(places (Za.Design b))[k]?=some p):ZtY b e p=conn (addInst (Za.Design b) (Zsl b e p) (Zk.Name e)) p.1 p.2.1 ((Zb.ZI (Za.Design b)).length:Int) :=
 (ZAi (Zzv hp (.inr trivial))).symm
theorem ZBK:Zce Zw7 0:=by
 refine ⟨⟨by decide,by decide⟩,rfl,rfl,rfl,fun k x hk=>?_,?_,?_,?_⟩
 ·match k,hk with
  | 0,hk =>
   injection hk with hk
   exact ⟨fun _=>⟨hk.symm,rfl⟩,fun h=>by omega⟩
  | k+1,hk=>cases hk
 ·intro x hx
  rw [show Zr.Res Zw7=[0] from rfl,List.mem_singleton] at hx
  omega
 ·intro x hx
  rw [show Zr.Cap Zw7=[0] from rfl,List.mem_singleton] at hx
  omega
 ·intro x hx
  cases hx
theorem Zz1 {b:Za} (h:JX b) {e:Zk} {k:Nat} {p:Pl} (hp:(places (Za.Design b))[k]?=some p) (h2:p.2.2.2.1=false) :
  Fits (places (addInst (Za.Design b) (Zsl b e p) (Zk.Name e))) (Za.ZC b++[Zw7]) (Zvj (Xh b) (YL (Za.Design b)) (Xh b k)):=by
 have hf:=h.ok.1.few
 have hold:=Zp4 h
 have hws:∀ (m:Int) (w:Zr),Zbw (Za.Design b) m→(Za.ZC b++[Zw7])[m.toNat]?=some w→(Za.ZC b)[m.toNat]?=some w:=fun m w hm hw=>by
  rw [List.getElem?_append_left (by rw [h.ok.2.1];unfold Zbw at hm;omega)] at hw
  exact hw
 intro j q w hq hd hw
 unfold Zvj
 have hil:YL (Za.Design b)≤YL (Za.Design b):=Nat.le_refl _
 by_cases c1:j<YL (Za.Design b)
 ·rw [if_pos c1]
  rw [Zuq c1] at hq
  exact hold j q w hq hd (hws _ _ (JJ h.ok.1 (List.mem_of_getElem? hq)) hw)
 ·rw [if_neg c1]
  by_cases c2:j=YL (Za.Design b)
  ·rw [if_pos c2]
   have:=add_mid (d:=Za.Design b) (x:=Zsl b e p) (s:=Zk.Name e) (j:=0) (by show 0<2;omega)
   rw [Nat.add_zero,←c2,hq] at this
   have e1:q=ZeG (Zb.Instances (Za.Design b)).length (Zsl b e p) 0 p.2.2.1:=by
    have h3:=Zio (i:=(Zb.Instances (Za.Design b)).length) (x:=Zsl b e p) (j:=0) (n:=p.2.2.1) rfl
    rw [←this] at h3
    injection h3
   have e2:q.2.2.1=p.2.2.1:=by rw [e1];rfl
   rw [e2] at hw
   exact hold k p w hp h2 (hws _ _ (JJ h.ok.1 (List.mem_of_getElem? hp)) hw)
  ·rw [if_neg c2]
   by_cases c3:j=YL (Za.Design b)+1
   ·exfalso
    have:=add_mid (d:=Za.Design b) (x:=Zsl b e p) (s:=Zk.Name e) (j:=1) (by show 1<2;omega)
    rw [←c3,hq] at this
    have h3:=Zio (i:=(Zb.Instances (Za.Design b)).length) (x:=Zsl b e p) (j:=1) (n:=((Zb.ZI (Za.Design b)).length:Int)) rfl
    rw [←this] at h3
    injection h3 with h3
    rw [h3] at hd
    revert hd
    show ¬(decide ((1:Int)=IntKind.i64.wrap ((2:Int)-1))=false)
    rw [Qc (by omega) (by omega)]
    simp
   ·rw [if_neg c3]
    have:=Zun (d:=Za.Design b) (x:=Zsl b e p) (s:=Zk.Name e) (k:=j-2) (by omega)
    rw [show (Ze.ZI (Zsl b e p)).length=2 from rfl,show j-2+2=j by omega,hq] at this
    exact hold (j-2) q w this.symm hd (hws _ _ (JJ h.ok.1 (List.mem_of_getElem? this.symm)) hw)
theorem Zsi {α:Type} {p:α→Bool} {l:List α} (h:ZbF p l<0):∀ x∈l,p x=false:=by
 intro x hx
 cases hp:p x with
 | false=>rfl
 | true =>
  have:=JM.2 (List.any_eq_true.2 ⟨x,hx,hp⟩)
  omega
theorem Zl4 {b:Za} {e:Zk} (h:ZpA b e) (k2:Zk.Kind e=2) (hs:sm .str (Zk.Name e)) {p:Pl} (hp:Zhm b e p):JX (buffered b e (Zk.Place e).toNat p):=by
 have hB:=h.blk
 obtain ⟨b1,b2,b3⟩:=ZaI hB.sm
 obtain ⟨l1,l2⟩:=h.lim k2
 obtain ⟨p',c,hp',hd,hc,hk,hpins,hname,hni,hnn⟩:=h.poss.2.1 k2
 have:p'=p:=by
  have:=hp'.2
  rw [hp.2] at this
  injection this with this
  exact this.symm
 subst this
 obtain ⟨_,hcr⟩:=h.range.1 (.inr k2)
 have hc2:(Zp.Cells (Za.Library b))[(Zk.Cell e).toNat]?=some c:=by
  have:=hc
  unfold atI at this
  rw [if_pos hcr.1] at this
  exact this
 have hA:Qm (Za.Library b) (addInst (Za.Design b) (Zsl b e p') (Zk.Name e)):=by
  refine ZCU hB.ok.1 hname (fun hm=>?_) (fun hm=>?_) l1 l2 hcr.1 hcr.2 hc2 hpins (JJ hB.ok.1 hp.mem)
  ·obtain ⟨x,hx,e1⟩:=List.mem_map.1 hm
   have:=Zsi hni x hx
   simp [e1] at this
  ·have:=Zsi hnn _ hm
   simp at this
 have hN:Zbw (addInst (Za.Design b) (Zsl b e p') (Zk.Name e)) ((Zb.ZI (Za.Design b)).length:Int):=by
  unfold Zbw
  show 0≤_∧_≤((Zb.ZI (Za.Design b)++[Zk.Name e]).length:Int)-1
  rw [List.length_append,List.length_singleton]
  omega
 have hpk:=ZkY (e:=e) (q:=p') hB hp.2
 have hD:Qm (Za.Library b) (ZtY b e p'):=by
  rw [Ziq hp.2]
  exact Zu6 hA hpk hd hN
 have hl:=Y7 hD.few
 have hwn:=hB.ok.2.1
 have hpl:places (ZtY b e p')=(places (addInst (Za.Design b) (Zsl b e p') (Zk.Name e))).set (Zwk b (Zk.Place e).toNat) (p'.1,p'.2.1,((Zb.ZI (Za.Design b)).length:Int),p'.2.2.2.1,()):=by
  rw [Ziq hp.2]
  exact X3 hpk _
 refine ⟨⟨hD,?_,?_⟩,?_⟩
 ·show (wired (places (ZtY b e p')) (Za.ZC b++[Zw7]) (ZDx b (Zk.Place e).toNat)).length=(Zb.ZI (conn (Za.Design b) p'.1 p'.2.1 _)++[Zk.Name e]).length
  rw [Zim,List.length_append,List.length_append,QZ,hwn]
  rfl
 ·refine Ztf (pl:=places (ZtY b e p')) (fun v w hw=>?_) ?_
  ·by_cases hv:v<(Za.ZC b).length
   ·rw [List.getElem?_append_left hv] at hw
    exact ⟨_,hB.ok.2.2 v w hw⟩
   ·rw [List.getElem?_append_right (by omega)] at hw
    have:=List.mem_of_getElem? hw
    rw [List.mem_singleton] at this
    rw [this]
    exact ⟨_,ZBK⟩
  ·rw [hpl]
   refine (Zz1 hB hp.2 hd).set _ 0 (fun w hw=>?_)
   rw [Int.toNat_natCast,←hwn,List.getElem?_append_right (Nat.le_refl _),Nat.sub_self] at hw
   injection hw with hw
   rw [←hw]
   exact ⟨Int.le_refl _,by show (0:Int)≤(1:Int)-1;omega⟩
 ·refine Zis b1 ?_ (ZsC ⟨?_,fun y hy=>?_⟩ (by omega))
  ·exact ZDb (ZvE b2 _ _ _) (by rw [Xn];omega) (by rw [QZ];omega) (Zq3 hs (by show 2≤_;omega)) hs
  ·rw [List.length_append,List.length_singleton]
   have:=hB.ok.1.2.1.2.1
   omega
  ·rcases List.mem_append.1 hy with hy | hy
   ·exact b3.2 y hy
   ·rw [List.mem_singleton] at hy
    rw [hy]
    exact Zuo (by decide) (by decide) (by decide) (by decide)
end Go.Proofs.YtoefbkmllkpkkaaGreatDoor
/-
  Plain laws: a block with a buffer less is valid.
-/
namespace Go.Proofs.YtoefbkmllkpkkaaGreatDoor
set_option linter.unusedVariables false
set_option linter.unusedSimpArgs false
open Go Go.Sx
theorem Fits.cut {d:Zb} {ws:List Zr} {nd:Nat→Int} (h:Fits (places d) ws nd) {x:Ze} (hn:0<(Zb.Instances d).length) (hx:(Zb.Instances d)[(Zb.Instances d).length-1]?=some x) (h2:(Ze.ZI x).length=2) (m:Nat) :
  Fits (places (XQ d)) (ws.take m) (ZuC nd (YL (XQ d))):=by
 intro k p w hp hd hw
 rw [List.getElem?_take] at hw
 split at hw
 ·unfold ZuC
  have hpc:=ZkR (s:=[]) hn hx
  by_cases c:k<YL (XQ d)
  ·rw [if_pos c]
   exact h k p w (by rw [hpc,Zuq c];exact hp) hd hw
  ·rw [if_neg c]
   have:=Zun (d:=XQ d) (x:=x) (s:=[]) (k:=k) (by omega)
   rw [h2] at this
   exact h (k+2) p w (by rw [hpc,this];exact hp) hd hw
 ·cases hw
theorem ZeW (d:Zb):(places d).length=YL d+(Zb.ZK d).length:=by
 unfold places YL
 rw [List.length_append,Zt7]
theorem Zoq {d:Zb} {k:Nat} {p:Pl} (hp:(places d)[k]?=some p) (n:Int):YL (conn d p.1 p.2.1 n)=YL d:=by
 have h1:=ZeW d
 have h2:=ZeW (conn d p.1 p.2.1 n)
 rw [X3 hp,List.length_set,Zix] at h2
 omega
theorem ZmZ {b:Za} (h:JX b) (hL:Zm9 b) {k:Nat} {p:Pl} {m:Int} (hs:sinks (Za.Design b) (((Zb.ZI (Za.Design b)).length:Int)-1)=[(k:Int)]) (hp:(places (Za.Design b))[k]?=some p) (hpi:p.1≠((Zb.Instances (Za.Design b)).length:Int)-1)
  (hm:∀ x,(Zb.Instances (Za.Design b))[(Zb.Instances (Za.Design b)).length-1]?=some x→atI (Ze.ZI x) 0=some m):JX (Zn2 b k p m):=by
 obtain ⟨b1,b2,b3⟩:=ZaI h.sm
 obtain ⟨k',p',hs',hp',hpn,hpd,hpi'⟩:=hL.sink h
 have ek:k=k':=by
  rw [hs] at hs'
  injection hs' with hs' _
  omega
 subst ek
 rw [hp] at hp'
 injection hp' with hp'
 subst hp'
 obtain ⟨x,c,w,m',hn,hx,hc,hk1,hk2,hl2,hm',hl,hne,hnm,hw,hs1,hs2,hp1,hc0⟩:=hL
 have em:m'=m:=by
  have:=hm x hx
  rw [hm'] at this
  injection this
 subst em
 have hD:=h.ok.1
 have hwn:=h.ok.2.1
 have hm0:(Ze.ZI x)[0]?=some m':=hm'
 have hl1:(Ze.ZI x)[1]?=some (((Zb.ZI (Za.Design b)).length:Int)-1):=hl
 have hmn:=(hD.2.2.1 x (List.mem_of_getElem? hx)).2.2 m' (List.mem_of_getElem? hm0)
 have hlx:XW x=((Zb.ZI (Za.Design b)).length:Int)-1:=by
  have:=ZkT (x:=x) (by omega)
  rw [hl2,show 2-1=1 from rfl,hl1] at this
  injection this with this
  exact this.symm
 have hC:Qm (Za.Library b) (conn (Za.Design b) p.1 p.2.1 m'):=Zu6 hD hp hpd hmn
 have hn2:0<(Zb.Instances (conn (Za.Design b) p.1 p.2.1 m')).length:=by rw [Xn];exact hn
 have hx2:(Zb.Instances (conn (Za.Design b) p.1 p.2.1 m'))[(Zb.Instances (conn (Za.Design b) p.1 p.2.1 m')).length-1]?=some x:=by
  have hy:(Zb.Instances (conn (Za.Design b) p.1 p.2.1 m'))[(Zb.Instances (conn (Za.Design b) p.1 p.2.1 m')).length-1]?=some ((Zb.Instances (conn (Za.Design b) p.1 p.2.1 m'))[(Zb.Instances (conn (Za.Design b) p.1 p.2.1 m')).length-1]'(by omega)):=List.getElem?_eq_getElem _
  generalize (Zb.Instances (conn (Za.Design b) p.1 p.2.1 m'))[(Zb.Instances (conn (Za.Design b) p.1 p.2.1 m')).length-1]'(by omega)=y at hy
  obtain ⟨x',hx',_,_,_,he,_⟩:=ZgP hy
  rw [Xn,hx] at hx'
  injection hx' with hx'
  rw [hy,hx',he (by rw [Xn];omega)]
 have hsn:∀ q∈places (conn (Za.Design b) p.1 p.2.1 m'),q.2.2.2.1=false→q.2.2.1≠((Zb.ZI (conn (Za.Design b) p.1 p.2.1 m')).length:Int)-1:=by
  intro q hq hd e
  rw [QZ] at e
  rw [X3 hp] at hq
  obtain ⟨j,hj⟩:=List.getElem?_of_mem hq
  rw [List.getElem?_set] at hj
  split at hj
  ·split at hj
   ·injection hj with hj
    subst hj
    exact hne e
   ·cases hj
  ·rename_i hjk
   have h3:=ZnH hj e hd
   have h4:(sinks (Za.Design b) (((Zb.ZI (Za.Design b)).length:Int)-1))[nth (places (Za.Design b)) (((Zb.ZI (Za.Design b)).length:Int)-1) j]?=some (j:Int):=h3
   rw [hs] at h4
   have h5:=List.mem_of_getElem? h4
   rw [List.mem_singleton] at h5
   exact absurd (by omega) hjk
 have hU:Qm (Za.Library b) (unD b p m'):=ZCP hC hn2 hx2 (by rw [QZ];exact hlx) hsn
 have hins:YL (unD b p m')=YL (Za.Design b)-2:=by
  have h1:=Zkj hn2 hx2 hl2
  have h2:=Zoq hp m'
  unfold unD
  omega
 have hpl:=Y7 hU.few
 refine ⟨⟨hU,?_,?_⟩,?_⟩
 ·show (wired (places (unD b p m')) ((Za.ZC b).take ((Za.ZC b).length-1)) (unN b k)).length=((Zb.ZI (conn (Za.Design b) p.1 p.2.1 m')).take ((Zb.ZI (conn (Za.Design b) p.1 p.2.1 m')).length-1)).length
  rw [Zim,List.length_take,List.length_take,QZ,hwn]
 ·refine Ztf (pl:=places (unD b p m')) (fun v w hw=>?_) ?_
  ·rw [List.getElem?_take] at hw
   split at hw
   ·exact ⟨_,h.ok.2.2 v w hw⟩
   ·cases hw
  ·have h1:Fits (places (conn (Za.Design b) p.1 p.2.1 m')) (Za.ZC b) (mvN b k (Xh b (YL (Za.Design b)-2))):=by
    rw [X3 hp]
    refine (Zp4 h).set m' _ (fun w' hw'=>?_)
    have h5:=ZhE hx hm0
    rw [Nat.add_zero,Zr8 hn hx hl2] at h5
    refine Zp4 h _ _ w' h5 ?_ hw'
    show decide ((0:Int)=IntKind.i64.wrap (((Ze.ZI x).length:Int)-1))=false
    rw [hl2,Qc (by omega) (by omega)]
    decide
   have h2:=h1.cut hn2 hx2 hl2 ((Za.ZC b).length-1)
   have h3:YL (XQ (conn (Za.Design b) p.1 p.2.1 m'))=YL (Za.Design b)-2:=hins
   rw [h3] at h2
   exact h2
 ·exact Zis b1 (ZC7 (ZvE b2 _ _ _)) (ZsC (Zvr b3 _) (by omega))
end Go.Proofs.YtoefbkmllkpkkaaGreatDoor
/-
  Plain laws: the reference's own copies; places connected, sinks attached (reference); edits applied.
-/
namespace Go.Proofs.YtoefbkmllkpkkaaGreatDoor
set_option linter.unusedVariables false
set_option linter.unusedSimpArgs false
open Go Go.Sx
theorem ZpC (t:ZB) (ht:sm YZ t):Zi5 t=some t:=by
 have e1:=Zed (ZB.Zh2 t) (Zo (t:=.int .i64) ht.1)
 have e2:=Zed (ZB.Loads t) (Zo (t:=.int .i64) ht.2.1)
 have e3:=Zed (ZB.Values t) (Zo (t:=.int .i64) ht.2.2.1)
 unfold Zi5
 rw [e1,e2,e3]
 rfl
theorem Zia (l:List ZB) (hl:sm (.sl YZ) l):Zaw l=some l:=by
 have h1:=Zo hl
 unfold Zaw
 have:=Yo (l:=l) (fun k=>(l.take k,(k:Int),())) (step:=fun v=>Vw l v.1 v.2.1) (good:=l) (fun k x hx hk=>by
  have hg:((l.take k).length+[x].length)*72≤140737488355328:=by rw [List.length_take,List.length_singleton];omega
  simp only [Vw,show (k:Int)<(l.length:Int) by omega,if_true,Zt,hx,Option.bind_some,ZpC x (Jd hl hx),Zj hg,XK (show k≤1048576 by omega)]
  rw [Z6 hx]) (by
  simp only [Vw,Int.lt_irrefl,if_false,List.take_length])
 simpa using this
theorem Zqo (c:Zm) (hs:sm XY c):Zjf c=some c:=by
 have p1:sm (.sl ZdU) (Zm.YC c):=hs.2.2.1
 have p2:sm (.sl ZfF) (Zm.Zak c):=hs.2.2.2.1
 have p3:sm (.sl (.int .i64)) (Zm.Truth c):=hs.2.2.2.2.1
 have l1:=Zo p1
 have l2:=Zo p2
 have l3:=Zo p3
 unfold Zjf
 rw [Zj (by rw [List.length_nil];omega),Zed _ l3,Option.bind_some]
 have:=Yo (l:=Zm.Zak c) (fun k=>((k:Int),(Zm.Zak c).take k,())) (step:=fun v=>Zcy c (Zm.Truth c) v.1 v.2.1) (good:=c) (fun k x hx hk=>by
  obtain ⟨q1,q2⟩:=Zz8 (Jd p2 hx)
  have hg:∀ y:ZH,(((Zm.Zak c).take k).length+[y].length)*80≤140737488355328:=fun y=>by rw [List.length_take,List.length_singleton];omega
  simp only [Zcy,show (k:Int)<((Zm.Zak c).length:Int) by omega,if_true,Zt,hx,Option.bind_some,Zia _ q1,Zia _ q2,Zj (hg _),XK (show k≤1048576 by omega)]
  rw [Z6 hx]) (by
  simp only [Zcy,Int.lt_irrefl,if_false,List.take_length]
  rfl)
 simpa using this
theorem Zni (a:Zp) (ha:sm YN a):ZbJ a=some a:=by
 have hc:=ZrA ha
 have h1:=Zo hc
 unfold ZbJ
 have:=Yo (l:=Zp.Cells a) (fun k=>((k:Int),(Zp.Cells a).take k,())) (step:=fun v=>Q7 a v.1 v.2.1) (good:=a) (fun k x hx hk=>by
  have hg:(((Zp.Cells a).take k).length+[x].length)*112≤140737488355328:=by rw [List.length_take,List.length_singleton];omega
  simp only [Q7,show (k:Int)<((Zp.Cells a).length:Int) by omega,if_true,Zt,hx,Option.bind_some,Zqo x (Jd hc hx),Zj hg,XK (show k≤1048576 by omega)]
  rw [Z6 hx]) (by
  simp only [Q7,Int.lt_irrefl,if_false,List.take_length])
 simpa using this
theorem Zn0 (d:Zb) (hd:sm Yr d):Zji d=some d:=by
 obtain ⟨s1,s2,s3⟩:=Zck hd
 have l1:=Zo s1
 have l2:=Zo s2
 have l3:=Zo s3
 unfold Zji
 rw [Zj (by rw [List.length_nil];omega),Zj (by rw [List.length_nil];omega)]
 have:=Yo (l:=Zb.Instances d) (fun k=>((k:Int),(Zb.Instances d).take k,())) (step:=fun v=>ZcB d v.1 v.2.1) (good:=d) (fun k x hx hk=>by
  have hx2:=Zed (Ze.ZI x) (Zo (ZmQ (Jd s1 hx)).2)
  have hg:∀ y:Ze,(((Zb.Instances d).take k).length+[y].length)*48≤140737488355328:=fun y=>by rw [List.length_take,List.length_singleton];omega
  simp only [ZcB,show (k:Int)<((Zb.Instances d).length:Int) by omega,if_true,Zt,hx,Option.bind_some,hx2,Zj (hg _),XK (show k≤1048576 by omega)]
  rw [Z6 hx]) (by
  simp only [ZcB,Int.lt_irrefl,if_false,List.take_length]
  rfl)
 simpa using this
theorem ZvB (b:Za) (hb:sm YB b):ZiH b=some b:=by
 obtain ⟨b1,b2,b3⟩:=ZaI hb
 have h1:=Zo b3
 unfold ZiH
 rw [Zni _ b1,Option.bind_some,Zn0 _ b2,Option.bind_some]
 have:=Yo (l:=Za.ZC b) (fun k=>((k:Int),(Za.ZC b).take k,())) (step:=fun v=>Zcl b (Za.Library b) (Za.Design b) v.1 v.2.1) (good:=b) (fun k x hx hk=>by
  have hg:(((Za.ZC b).take k).length+[x].length)*96≤140737488355328:=by rw [List.length_take,List.length_singleton];omega
  simp only [Zcl,show (k:Int)<((Za.ZC b).length:Int) by omega,if_true,Zt,hx,Option.bind_some,ZjW x (Jd b3 hx),Zj hg,XK (show k≤1048576 by omega)]
  rw [Z6 hx]) (by
  simp only [Zcl,Int.lt_irrefl,if_false,List.take_length])
 simpa using this
theorem Zg4 {d:Zb} {k:Nat} {p:Pl} (hp:(places d)[k]?=some p) (n:Int):Zar d p n=some (conn d p.1 p.2.1 n):=by
 unfold Zar conn
 rcases JV hp with ⟨i,j,x,m,hx,hn,e,rfl⟩ | ⟨j,q,hq,e,rfl⟩
 ·have c:¬((i:Int)<0):=by omega
  simp only [ZeG,ZN.instance,ZN.pin,if_neg c,Zt,hx,Option.bind_some,Int.toNat_natCast]
  have hn2:x.2.2.1[j]?=some m:=hn
  rw [hn2]
  rfl
 ·have c:((-1:Int)<0):=by omega
  simp only [ZN.instance,ZN.pin,if_pos c,Zt,hq,Option.bind_some,Int.toNat_natCast]
  rfl
def Zyn (pl:List Pl) (ws:List Zr) (nd:Nat→Int) (k:Nat):List Zr:=cat (fun v w=>[if v<k then ZeP w ((cat (ZaB (v:Int)) 0 pl).map (fun k=>nd k.toNat)) else w]) 0 ws
theorem ZkL (pl:List Pl) (ws:List Zr) (nd:Nat→Int) (k v:Nat):(Zyn pl ws nd k)[v]?=(ws[v]?).map (fun w=>if v<k then ZeP w ((cat (ZaB (v:Int)) 0 pl).map (fun k=>nd k.toNat)) else w):=by
 unfold Zyn
 rw [Zb6,Nat.zero_add]
theorem ZtP (pl:List Pl) (ws:List Zr) (nd:Nat→Int) (k:Nat):(Zyn pl ws nd k).length=ws.length:=JR _ _
theorem Zyl (pl:List Pl) (ws:List Zr) (nd:Nat→Int):Zyn pl ws nd 0=ws:=by
 apply List.ext_getElem?
 intro v
 rw [ZkL]
 simp
theorem ZAS (pl:List Pl) (ws:List Zr) (nd:Nat→Int):Zyn pl ws nd ws.length=wired pl ws nd:=by
 apply List.ext_getElem?
 intro v
 rw [ZkL,Zew]
 cases hv:ws[v]? with
 | none=>rfl
 | some w =>
  have:=(List.getElem?_eq_some_iff.1 hv).1
  simp only [Option.map_some,if_pos this]
theorem ZyK {pl:List Pl} {ws:List Zr} {nd:Nat→Int} {k:Nat} {w:Zr} (hw:ws[k]?=some w):(Zyn pl ws nd k)[k]?=some w∧(Zyn pl ws nd k).set k (ZeP w ((cat (ZaB (k:Int)) 0 pl).map (fun k=>nd k.toNat)))=Zyn pl ws nd (k+1):=by
 constructor
 ·rw [ZkL,hw];simp
 ·apply List.ext_getElem?
  intro v
  rw [List.getElem?_set,ZtP]
  split
  ·rename_i e
   subst e
   rw [if_pos (List.getElem?_eq_some_iff.1 hw).1,ZkL,hw,Option.map_some,if_pos (by omega)]
  ·rw [ZkL,ZkL]
   congr 1
   funext w'
   by_cases h:v<k
   ·rw [if_pos h,if_pos (by omega)]
   ·rw [if_neg h,if_neg (by omega)]
theorem Zh1 {b:Za} {nodes:List Int} (hf:Few (Za.Design b)) (hl:nodes.length=(places (Za.Design b)).length) (hw:(Za.ZC b).length≤1048576) :
  QS b nodes=some (Za.Library b,Za.Design b,wired (places (Za.Design b)) (Za.ZC b) (ZqO nodes),()):=by
 have hpl:=Y7 hf
 unfold QS
 have:=Yo (l:=Za.ZC b) (fun k=>((k:Int),Zyn (places (Za.Design b)) (Za.ZC b) (ZqO nodes) k,())) (step:=fun v=>J5 b nodes v.1 v.2.1) (good:=(Za.Library b,Za.Design b,wired (places (Za.Design b)) (Za.ZC b) (ZqO nodes),())) (fun k w hk hlt=>by
  obtain ⟨a1,a2⟩:=ZyK (nd:=ZqO nodes) (pl:=places (Za.Design b)) hk
  have hlc:(sinks (Za.Design b) (k:Int)).length≤(places (Za.Design b)).length:=ZfJ (k:Int) (places (Za.Design b)) 0
  simp only [J5]
  rw [if_pos (show (k:Int)<(((Zyn (places (Za.Design b)) (Za.ZC b) (ZqO nodes) k).length:Nat):Int) by rw [ZtP];omega),Jm _ _ hf,Option.bind_some]
  refine Yo (l:=sinks (Za.Design b) (k:Int)) (fun i=>(((sinks (Za.Design b) (k:Int)).take i).map (fun x=>ZqO nodes x.toNat),(i:Int),())) (fun i x hx hi=>?_) ?_
  ·obtain ⟨j,p,hp,ex,hn,h2,hnth⟩:=Zs2 (pl:=places (Za.Design b)) hx
   have hj:=(List.getElem?_eq_some_iff.1 hp).1
   have hnj:nodes[j]?=some (ZqO nodes j):=by
    unfold ZqO
    rw [List.getElem?_eq_getElem (by omega)]
    rfl
   simp only [ZcT,show (i:Int)<((sinks (Za.Design b) (k:Int)).length:Int) by omega,if_true,Zt,hx,Option.bind_some]
   have et:=Z6 hx
   subst ex
   rw [Zt,hnj,Option.bind_some,Zj (by rw [List.length_map,List.length_take,List.length_singleton];omega),XK (show i≤1048576 by omega),et,List.map_append]
   rfl
  ·simp only [ZcT,Int.lt_irrefl,if_false,Zt,a1,Option.bind_some,XK (show k≤1048576 by omega),Int.toNat_natCast,List.take_length]
   rw [←a2]
   rfl) (by
  simp only [J5]
  rw [if_neg (show ¬(((Za.ZC b).length:Nat):Int)<(((Zyn (places (Za.Design b)) (Za.ZC b) (ZqO nodes) (Za.ZC b).length).length:Nat):Int) by rw [ZtP];omega),ZAS])
 rw [Zyl] at this
 exact this
theorem Zox (b:Za):ZqO (ZaA b)=Xh b:=by
 funext k
 unfold ZqO
 by_cases hk:k<(places (Za.Design b)).length
 ·rw [ZjP hk];rfl
 ·rw [List.getElem?_eq_none (by rw [Zaz];omega)]
  unfold Xh
  rw [List.getElem?_eq_none (by omega)]
  rfl
theorem ZuN {b:Za} (h:JX b) {k:Nat} {p:Pl} (hp:(places (Za.Design b))[k]?=some p) (h2:p.2.2.2.1=false) {n v:Int} (hn:Zbw (Za.Design b) n) :
  Qk (Za.Library b,conn (Za.Design b) p.1 p.2.1 n,Za.ZC b,()) (Zo6 Key (.int .i64) (ZaP (places (Za.Design b)) (Xh b) (places (Za.Design b)).length) (Zwe p) v)=some (moved b k p n v):=by
 have hM:=((ZkV (Za.Design b) (Xh b)).put hp v).set hp n
 rw [←X3 hp n] at hM
 have hwl:(Za.ZC b).length≤1048576:=Zo (ZaI h.sm).2.2
 have hn1:n<((Za.ZC b).length:Int):=by rw [h.ok.2.1];have:=hn.2;omega
 exact Zg7 (b:=(Za.Library b,conn (Za.Design b) p.1 p.2.1 n,Za.ZC b,())) (h.ok.1.few.conn p.1 p.2.1 n) hM (by
  show ZlB (places (conn (Za.Design b) p.1 p.2.1 n)) (Za.ZC b).length
  rw [X3 hp]
  refine ZlB.set (fun q hq hd=>?_) hn.1 hn1
  have:=JJ h.ok.1 hq
  rw [h.ok.2.1]
  exact ⟨this.1,by have:=this.2;omega⟩) hwl
theorem Zuc {b:Za} (h:JX b) {k:Nat} {p:Pl} (hp:(places (Za.Design b))[k]?=some p) (n v:Int) :
  QS (Za.Library b,conn (Za.Design b) p.1 p.2.1 n,Za.ZC b,()) ((ZaA b).set k v)=some (moved b k p n v):=by
 have hk:=(List.getElem?_eq_some_iff.1 hp).1
 have hf:=h.ok.1.few.conn p.1 p.2.1 n
 have e:=Zh1 (b:=(Za.Library b,conn (Za.Design b) p.1 p.2.1 n,Za.ZC b,())) (nodes:=(ZaA b).set k v) hf (by
  show ((ZaA b).set k v).length=(places (conn (Za.Design b) p.1 p.2.1 n)).length
  rw [List.length_set,Zaz,X3 hp,List.length_set]) (Zo (ZaI h.sm).2.2)
 rw [e]
 have e2:ZqO ((ZaA b).set k v)=mvN b k v:=by
  funext j
  rw [ZtS (by rw [Zaz];exact hk),Zox]
  rfl
 rw [e2]
 rfl
end Go.Proofs.YtoefbkmllkpkkaaGreatDoor
/-
  Plain laws: a buffer put in, a buffer taken away: the program and the reference; edits applied.
-/
namespace Go.Proofs.YtoefbkmllkpkkaaGreatDoor
set_option linter.unusedVariables false
set_option linter.unusedSimpArgs false
open Go Go.Sx
theorem Zyb {b:Za} (h:JX b):ZlB (places (Za.Design b)) (Za.ZC b).length:=fun q hq _=>by
 have:=JJ h.ok.1 hq
 rw [h.ok.2.1]
 exact ⟨this.1,by have:=this.2;omega⟩
theorem Zw3 (pl:List Pl) (ws:List Zr) (nd:Nat→Int) {w w':Zr} (h:∀ l,ZeP w l=ZeP w' l):wired pl (ws++[w]) nd=wired pl (ws++[w']) nd:=by
 unfold wired
 rw [Ze6,Ze6]
 simp only [cat,h]
theorem Zrv {b:Za} {e:Zk} (h:ZpA b e) (k2:Zk.Kind e=2) (hs:sm .str (Zk.Name e)) {p:Pl} (hp:Zhm b e p) (hd:p.2.2.2.1=false):Zcs b e=some (buffered b e (Zk.Place e).toNat p):=by
 have hB:=h.blk
 have hf:=hB.ok.1.few
 have h14:=hf.insts
 have h30:=hB.ok.1.2.1.2.1
 have hwn:=hB.ok.2.1
 have hR:=Zl4 h k2 hs hp
 have hpk:=ZkY (e:=e) (q:=p) hB hp.2
 have hM0:=ZkV (Za.Design b) (Xh b)
 have hv:ZkX Key (.int .i64) (ZaP (places (Za.Design b)) (Xh b) (places (Za.Design b)).length) (p.1,p.2.1,())=some (Xh b (Zk.Place e).toNat):=hM0 _ p hp.2 hd
 have hM1:=hM0.add (x:=Zsl b e p) (s:=Zk.Name e) rfl (by omega) (Xh b (Zk.Place e).toNat)
 have hM2:=(hM1.put hpk 0).set hpk ((Zb.ZI (Za.Design b)).length:Int)
 rw [←X3 hpk,←Ziq hp.2] at hM2
 have hN:=Zyb hR
 have hl:(Za.ZC (buffered b e (Zk.Place e).toNat p)).length=(Za.ZC b++[Zw7]).length:=Zim _ _ _
 rw [hl] at hN
 have hC:=Zg7 (b:=(Za.Library b,ZtY b e p,Za.ZC b++[Zw7],())) hR.ok.1.few hM2 hN (by
  show (Za.ZC b++[Zw7]).length≤_
  rw [List.length_append,List.length_singleton];omega)
 have hS:=Zh4 (b:=(Za.Library b,addInst (Za.Design b) (Zsl b e p) (Zk.Name e),Za.ZC b++[Zw7],())) hpk ((Zb.ZI (Za.Design b)).length:Int)
 have eS:conn (Za.Design ((Za.Library b,addInst (Za.Design b) (Zsl b e p) (Zk.Name e),Za.ZC b++[Zw7],()):Za)) p.1 p.2.1 ((Zb.ZI (Za.Design b)).length:Int)=ZtY b e p:=(Ziq hp.2).symm
 rw [eS] at hS
 unfold Zcs
 rw [Zhd hB,Option.bind_some,Yl _ hf,Option.bind_some,hp.at,Option.bind_some,
  show Xx (Zb.ZI (Za.Design b))=some ((Zb.ZI (Za.Design b)).length:Int) from rfl,Option.bind_some,
  show XR (Zb.Instances (Za.Design b))=some ((Zb.Instances (Za.Design b)).length:Int) from rfl,Option.bind_some,
  Zj (by rw [List.length_singleton];omega),Zj (by rw [List.length_singleton];omega),Zj (by rw [List.length_singleton];omega)]
 refine Eq.trans (congrArg (fun o=>Option.bind o _) hS) ?_
 rw [Option.bind_some]
 have e3:Option.getD (ZkX ZbV (Ty.int IntKind.i64) (ZaP (places (Za.Design b)) (Xh b) (places (Za.Design b)).length) (ZM.instance p,ZM.pin p,())) (0:Int)=Xh b (Zk.Place e).toNat:=by
  have:ZkX ZbV (Ty.int IntKind.i64) (ZaP (places (Za.Design b)) (Xh b) (places (Za.Design b)).length) (ZM.instance p,ZM.pin p,())=some (Xh b (Zk.Place e).toNat):=hv
  rw [this];rfl
 rw [e3]
 refine Eq.trans (congrArg (fun o=>Option.bind o _) hC) ?_
 rfl
theorem ZxM {b:Za} {k:Nat} (hk:k<(places (Za.Design b)).length) (v:Int) (hv:v=Xh b k) :
  ZqO (((ZaA b).take (YL (Za.Design b))++[v,0]++(ZaA b).drop (YL (Za.Design b))).set (Zwk b k) 0)=ZDx b k:=by
 have h2:=ZeW (Za.Design b)
 have hm:YL (Za.Design b)≤(ZaA b).length:=by rw [Zaz];omega
 funext j
 rw [ZtS (by
  rw [List.length_append,List.length_append,List.length_take,List.length_drop,Zaz]
  unfold Zwk
  simp only [List.length_cons,List.length_nil]
  split<;>omega),ZAI hm,Zox,hv]
 rfl
theorem ZrX {b:Za} {e:Zk} (h:ZpA b e) (k2:Zk.Kind e=2) (hs:sm .str (Zk.Name e)) {p:Pl} (hp:Zhm b e p) (hd:p.2.2.2.1=false):Zbl b e=some (buffered b e (Zk.Place e).toNat p):=by
 have hB:=h.blk
 have hf:=hB.ok.1.few
 have hpl:=Y7 hf
 have h14:=hf.insts
 have h8:=hf.ports
 have h30:=hB.ok.1.2.1.2.1
 have hwn:=hB.ok.2.1
 have hk:=(List.getElem?_eq_some_iff.1 hp.2).1
 have h0:=hp.1
 have h2:=ZeW (Za.Design b)
 have hR:=Zl4 h k2 hs hp
 have hW:IntKind.i64.wrap (((ZaA b).length:Int)-((Zb.ZK (Za.Design b)).length:Int))=(YL (Za.Design b):Int):=by
  rw [Zaz,Qc (by omega) (by omega)];omega
 have hdr:List.take ((ZaA b).length-YL (Za.Design b)) (List.drop (YL (Za.Design b)) (ZaA b))=List.drop (YL (Za.Design b)) (ZaA b):=List.take_of_length_le (by rw [List.length_drop];exact Nat.le_refl _)
 have hlump:Zc4 1 0=some (([-1],[0],[0],[0],()):Zr):=by
  unfold Zc4
  rw [Zj (by omega),Zj (by omega),Zj (by omega),Zj (by omega)]
  rfl
 have hln:((ZaA b).take (YL (Za.Design b))++[Xh b (Zk.Place e).toNat,0]++(ZaA b).drop (YL (Za.Design b))).length=(places (Za.Design b)).length+2:=by
  rw [List.length_append,List.length_append,List.length_take,List.length_drop,Zaz]
  simp only [List.length_cons,List.length_nil]
  omega
 have hbk:Zwk b (Zk.Place e).toNat<(places (Za.Design b)).length+2:=by
  unfold Zwk
  split<;>omega
 have hpl2:(places (ZtY b e p)).length=(places (Za.Design b)).length+2:=by
  have h3:=ZeW (ZtY b e p)
  rw [Ziq hp.2,X3 (ZkY (e:=e) (q:=p) hB hp.2),List.length_set]
  rw [ZgF,List.length_append,List.length_append,QT,Zt7,h2]
  unfold YL Zsl
  show _+2+_=_
  omega
 have hA:=Zh1 (b:=(Za.Library b,ZtY b e p,Za.ZC b++[([-1],[0],[0],[0],())],())) (nodes:=((ZaA b).take (YL (Za.Design b))++[Xh b (Zk.Place e).toNat,0]++(ZaA b).drop (YL (Za.Design b))).set (Zwk b (Zk.Place e).toNat) 0) hR.ok.1.few (by
  show (List.set _ _ _).length=(places (ZtY b e p)).length
  rw [List.length_set,hln,hpl2]) (by
  show (Za.ZC b++[([-1],[0],[0],[0],())]).length≤_
  rw [List.length_append,List.length_singleton];omega)
 rw [ZxM hk _ rfl] at hA
 have hA2:QS (Za.Library b,ZtY b e p,Za.ZC b++[([-1],[0],[0],[0],())],()) ((((ZaA b).take (YL (Za.Design b))++[Xh b (Zk.Place e).toNat,0]++(ZaA b).drop (YL (Za.Design b)))).set (Zwk b (Zk.Place e).toNat) 0)=some (buffered b e (Zk.Place e).toNat p):=by
  rw [hA]
  show some (Za.Library b,ZtY b e p,wired (places (ZtY b e p)) (Za.ZC b++[([-1],[0],[0],[0],())]) (ZDx b (Zk.Place e).toNat),())=_
  rw [Zw3 _ _ _ (w:=([-1],[0],[0],[0],())) (w':=Zw7) (fun l=>rfl)]
  rfl
 unfold Zbl
 rw [Xe _ hf,Option.bind_some,hp.at,Option.bind_some,ZfX hB,Option.bind_some,Qa hp.1 (ZjP hk),Option.bind_some,hW]
 simp only [Int.toNat_natCast,Int.toNat_zero,Nat.sub_zero,List.drop_zero,hdr]
 have hci:(Zb.Instances (conn (Za.Design b) p.1 p.2.1 ((Za.ZC b).length:Int))).length=(Zb.Instances (Za.Design b)).length:=Xn
 have hcn:(Zb.ZI (conn (Za.Design b) p.1 p.2.1 ((Za.ZC b).length:Int))).length=(Zb.ZI (Za.Design b)).length:=by rw [QZ]
 have hl1:(List.take (YL (Za.Design b)) (ZaA b)).length=YL (Za.Design b):=by rw [List.length_take,Zaz];omega
 have hl2:(List.drop (YL (Za.Design b)) (ZaA b)).length=(Zb.ZK (Za.Design b)).length:=by rw [List.length_drop,Zaz];omega
 rw [Zj (by omega),Zj (by rw [Zaz];omega),Zed _ (by omega),Option.bind_some,
  Zj (by rw [hl1];simp only [List.length_cons,List.length_nil];omega),Zj (by omega),Zj (by rw [List.length_append,hl1,hl2];simp only [List.length_cons,List.length_nil];omega),
  Zg4 hp.2,Option.bind_some]
 have hx:∀ (i:Nat),i<(places (Za.Design b)).length+2→∃ y,((ZaA b).take (YL (Za.Design b))++[Xh b (Zk.Place e).toNat,0]++(ZaA b).drop (YL (Za.Design b)))[i]?=some y:=fun i hi=>⟨_,List.getElem?_eq_getElem (by rw [hln];exact hi)⟩
 have hD:((Zb.Instances (conn (Za.Design b) p.1 p.2.1 ((Za.ZC b).length:Int))++[(Zk.Name e,Zk.Cell e,[ZN.net p,((Za.ZC b).length:Int)],())],Zb.ZI (conn (Za.Design b) p.1 p.2.1 ((Za.ZC b).length:Int))++[Zk.Name e],(conn (Za.Design b) p.1 p.2.1 ((Za.ZC b).length:Int)).snd.snd):Zb)=ZtY b e p:=by
  rw [hwn]
  rfl
 by_cases hc:YL (Za.Design b)≤(Zk.Place e).toNat
 ·have hbk2:Zwk b (Zk.Place e).toNat=(Zk.Place e).toNat+2:=by unfold Zwk;rw [if_neg (by omega)]
  obtain ⟨y,hy⟩:=hx ((Zk.Place e).toNat+2) (by omega)
  rw [if_pos (by omega),Qc (n:=Zk.Place e+2) (by omega) (by omega),show Zk.Place e+2=(((Zk.Place e).toNat+2:Nat):Int) by omega,Zt,hy,Option.bind_some,
   Zj (by rw [hci,List.length_singleton];omega),Zj (by rw [hcn,List.length_singleton];omega),hlump,Option.bind_some,Zj (by rw [List.length_singleton];omega),Int.toNat_natCast,←hbk2,hD]
  refine Eq.trans (congrArg (fun o=>Option.bind o _) hA2) ?_
  rfl
 ·have hbk2:Zwk b (Zk.Place e).toNat=(Zk.Place e).toNat:=by unfold Zwk;rw [if_pos (by omega)]
  obtain ⟨y,hy⟩:=hx (Zk.Place e).toNat (by omega)
  rw [if_neg (by omega),Qa hp.1 hy,Option.bind_some,
   Zj (by rw [hci,List.length_singleton];omega),Zj (by rw [hcn,List.length_singleton];omega),hlump,Option.bind_some,Zj (by rw [List.length_singleton];omega),hD]
  rw [hbk2] at hA2
  refine Eq.trans (congrArg (fun o=>Option.bind o _) hA2) ?_
  rfl
end Go.Proofs.YtoefbkmllkpkkaaGreatDoor
/-
  Plain laws: a buffer taken away (reference); edits applied: the program and the reference.
-/
namespace Go.Proofs.YtoefbkmllkpkkaaGreatDoor
set_option linter.unusedVariables false
set_option linter.unusedSimpArgs false
open Go Go.Sx
theorem Zpz {b:Za} (h:JX b) (hL:Zm9 b) {k:Nat} {p:Pl} {m:Int} (hs:sinks (Za.Design b) (((Zb.ZI (Za.Design b)).length:Int)-1)=[(k:Int)]) (hp:(places (Za.Design b))[k]?=some p) (hpi:p.1≠((Zb.Instances (Za.Design b)).length:Int)-1)
  (hm:∀ x,(Zb.Instances (Za.Design b))[(Zb.Instances (Za.Design b)).length-1]?=some x→atI (Ze.ZI x) 0=some m):Zft b=some (Zn2 b k p m):=by
 have hR:=ZmZ h hL hs hp hpi hm
 obtain ⟨hn,x,hx,hl2⟩:=hL.two
 have hmx:=hm x hx
 have hf:=h.ok.1.few
 have hpl:=Y7 hf
 have h14:=hf.insts
 have h8:=hf.ports
 have h30:=h.ok.1.2.1.2.1
 have hwn:=h.ok.2.1
 have hk:=(List.getElem?_eq_some_iff.1 hp).1
 have h2:=ZeW (Za.Design b)
 have hi2:=Zkj hn hx hl2
 have hpos:1≤(Zb.ZI (Za.Design b)).length:=by
  have:=JJ h.ok.1 (List.mem_of_getElem? hp)
  unfold Zbw at this
  omega
 have hx2:atI (Zb.Instances (Za.Design b)) (((Zb.Instances (Za.Design b)).length:Int)-1)=some x:=Qa (by omega) (by rw [←hx];congr 1;omega)
 have t1:Int.toNat (((Zb.Instances (Za.Design b)).length:Int)-1)=(Zb.Instances (Za.Design b)).length-1:=by omega
 have hset:((List.set (Zb.Instances (Za.Design b)) ((Zb.Instances (Za.Design b)).length-1) x,(Za.Design b).snd):Zb)=Za.Design b:=by rw [ZbK hx]
 have hW1:IntKind.i64.wrap (((Za.ZC b).length:Int)-1)=(((Za.ZC b).length-1:Nat):Int):=by rw [Qc (by omega) (by omega)];omega
 have hW2:IntKind.i64.wrap (((ZaA b).length:Int)-((Zb.ZK (Za.Design b)).length:Int))=(YL (Za.Design b):Int):=by rw [Zaz,Qc (by omega) (by omega)];omega
 have hW3:IntKind.i64.wrap ((YL (Za.Design b):Int)-2)=((YL (Za.Design b)-2:Nat):Int):=by rw [Qc (by omega) (by omega)];omega
 have hW4:IntKind.i64.wrap (((Zb.Instances (Za.Design b)).length:Int)-1)=(((Zb.Instances (Za.Design b)).length-1:Nat):Int):=by rw [Qc (by omega) (by omega)];omega
 have hsk:QU (Za.Design b) (((Za.ZC b).length-1:Nat):Int)=some [(k:Int)]:=by
  rw [Jm _ _ hf,show (((Za.ZC b).length-1:Nat):Int)=((Zb.ZI (Za.Design b)).length:Int)-1 by omega,hs]
 have hx3:atI (Zb.Instances (Za.Design b)) (((Zb.Instances (Za.Design b)).length-1:Nat):Int)=some x:=by rw [Zt];exact hx
 have hls:(List.set (ZaA b) k (Xh b (YL (Za.Design b)-2))).length=(places (Za.Design b)).length:=by rw [List.length_set,Zaz]
 have hdr:List.take ((List.set (ZaA b) k (Xh b (YL (Za.Design b)-2))).length-YL (Za.Design b)) (List.drop (YL (Za.Design b)) (List.set (ZaA b) k (Xh b (YL (Za.Design b)-2))))=List.drop (YL (Za.Design b)) (List.set (ZaA b) k (Xh b (YL (Za.Design b)-2))):=List.take_of_length_le (by rw [List.length_drop];exact Nat.le_refl _)
 have hci:(Zb.Instances (conn (Za.Design b) p.1 p.2.1 m)).length=(Zb.Instances (Za.Design b)).length:=Xn
 have hcn:(Zb.ZI (conn (Za.Design b) p.1 p.2.1 m)).length=(Zb.ZI (Za.Design b)).length:=by rw [QZ]
 have hl1:(List.take (YL (Za.Design b)-2) (List.set (ZaA b) k (Xh b (YL (Za.Design b)-2)))).length=YL (Za.Design b)-2:=by rw [List.length_take,hls];omega
 have hl3:(List.drop (YL (Za.Design b)) (List.set (ZaA b) k (Xh b (YL (Za.Design b)-2)))).length=(Zb.ZK (Za.Design b)).length:=by rw [List.length_drop,hls];omega
 have hins:YL (unD b p m)=YL (Za.Design b)-2:=by
  have hn2:0<(Zb.Instances (conn (Za.Design b) p.1 p.2.1 m)).length:=by rw [Xn];exact hn
  have hx4:(Zb.Instances (conn (Za.Design b) p.1 p.2.1 m))[(Zb.Instances (conn (Za.Design b) p.1 p.2.1 m)).length-1]?=some ((Zb.Instances (conn (Za.Design b) p.1 p.2.1 m))[(Zb.Instances (conn (Za.Design b) p.1 p.2.1 m)).length-1]'(by omega)):=List.getElem?_eq_getElem _
  generalize (Zb.Instances (conn (Za.Design b) p.1 p.2.1 m))[(Zb.Instances (conn (Za.Design b) p.1 p.2.1 m)).length-1]'(by omega)=x' at hx4
  obtain ⟨y,hy,_,_,hyl,_⟩:=ZgP hx4
  rw [Xn,hx] at hy
  injection hy with hy
  have h5:=Zkj hn2 hx4 (by rw [hyl,←hy,hl2])
  have h6:=Zoq hp m
  unfold unD
  omega
 have hup:(places (unD b p m)).length=(places (Za.Design b)).length-2:=by
  have h5:=ZeW (unD b p m)
  have h6:(Zb.ZK (unD b p m)).length=(Zb.ZK (Za.Design b)).length:=Zix
  omega
 have hA:=Zh1 (b:=(Za.Library b,unD b p m,(Za.ZC b).take ((Za.ZC b).length-1),())) (nodes:=(ZaA b |>.set k (Xh b (YL (Za.Design b)-2))).take (YL (Za.Design b)-2)++(ZaA b |>.set k (Xh b (YL (Za.Design b)-2))).drop (YL (Za.Design b))) hR.ok.1.few (by
  show (List.take _ _++List.drop _ _).length=(places (unD b p m)).length
  rw [List.length_append,hl1,hl3,hup];omega) (by
  show (List.take _ _).length≤_
  rw [List.length_take];omega)
 have hnd:ZqO ((ZaA b |>.set k (Xh b (YL (Za.Design b)-2))).take (YL (Za.Design b)-2)++(ZaA b |>.set k (Xh b (YL (Za.Design b)-2))).drop (YL (Za.Design b)))=unN b k:=by
  funext j
  have:=ZAc (l:=(ZaA b).set k (Xh b (YL (Za.Design b)-2))) (m:=YL (Za.Design b)-2) (by omega) j
  rw [show YL (Za.Design b)-2+2=YL (Za.Design b) by omega] at this
  rw [this]
  unfold unN
  congr 1
  funext i
  rw [ZtS (by rw [Zaz];exact hk),Zox]
  rfl
 rw [hnd] at hA
 have hD:((List.take ((Zb.Instances (Za.Design b)).length-1) (Zb.Instances (conn (Za.Design b) p.1 p.2.1 m)),List.take ((Za.ZC b).length-1) (Zb.ZI (conn (Za.Design b) p.1 p.2.1 m)),(conn (Za.Design b) p.1 p.2.1 m).snd.snd):Zb)=unD b p m:=by
  unfold unD XQ
  rw [Xn,QZ,hwn]
 unfold Zft
 rw [ZfX h,Option.bind_some,hW1,hsk,Option.bind_some,show atI [(k:Int)] 0=some (k:Int) from rfl,Option.bind_some,hW2,hW3,Zt,ZjP (by omega),Option.bind_some,Zt,ZjP hk,Option.bind_some,hW4,hx3,Option.bind_some,
  show x.snd.snd.fst=Ze.ZI x from rfl,hmx,Option.bind_some]
 simp only [Int.toNat_natCast,Int.toNat_zero,Nat.sub_zero,List.drop_zero]
 rw [hset,Xe _ hf,Option.bind_some,Zt,hp,Option.bind_some,Zg4 hp,Option.bind_some,Zj (by omega),Zj (by rw [hls];omega),Zed _ (by omega),Option.bind_some,
  Zj (by omega),Zj (by rw [hls];omega),Zj (by omega),hdr,Zj (by rw [hl1,hl3];omega),Zj (by omega),Zj (by rw [hci];omega),Zj (by omega),Zj (by rw [hcn];omega),Zj (by omega),hD]
 refine Eq.trans (congrArg (fun o=>Option.bind o _) hA) ?_
 rfl
def Lens (b:Za) (e:Zk) (r:Za):Prop:=(places (Za.Design r)).length+(if Zk.Kind e=3 then 2 else 0)=(places (Za.Design b)).length+(if Zk.Kind e=2 then 2 else 0)
theorem ZxI (d:Zb) (x:Ze) (s:List UInt8):(places (addInst d x s)).length=(places d).length+(Ze.ZI x).length:=by
 rw [ZgF,List.length_append,List.length_append,QT]
 unfold places
 rw [List.length_append]
 omega
theorem ZBT {b:Za} (h:JX b) {e:Zk} {k:Nat} {p:Pl} (hp:(places (Za.Design b))[k]?=some p):(places (ZtY b e p)).length=(places (Za.Design b)).length+2:=by
 rw [Ziq hp,X3 (ZkY h hp),List.length_set,ZxI]
 rfl
theorem Zvm {b:Za} {e:Zk} {r:Za} (h2:Zk.Kind e≠2) (h3:Zk.Kind e≠3) (h:(places (Za.Design r)).length=(places (Za.Design b)).length):Lens b e r:=by
 unfold Lens
 rw [if_neg h2,if_neg h3,h]
theorem ZxO {b:Za} {e:Zk} (h:ZpA b e) (he:sm Qv e):∃ r,Zap e b=some r∧Zcr b e=some r∧JX r∧Za.Library r=Za.Library b∧Lens b e r:=by
 have hB:=h.blk
 have hf:=hB.ok.1.few
 have hwn:=hB.ok.2.1
 obtain ⟨b1,b2,b3⟩:=ZaI hB.sm
 unfold Zap Zcr
 rw [Zmq _ hB.sm,Option.bind_some,ZvB _ hB.sm,Option.bind_some,Xe _ hf,Option.bind_some]
 by_cases k1:Zk.Kind e=1
 ·obtain ⟨p,x,c,c2,hp,h0,hd,hx,hc,hc2,ha⟩:=h.poss.1 k1
  obtain ⟨_,hcr⟩:=h.range.1 (.inl k1)
  have hx2:(Zb.Instances (Za.Design b))[p.1.toNat]?=some x:=by
   unfold atI at hx
   rw [if_pos h0] at hx
   exact hx
  obtain ⟨⟨hxc,_⟩,_,_⟩:=hB.ok.1.2.2.1 x (List.mem_of_getElem? hx2)
  have hc3:(Zp.Cells (Za.Library b))[(Ze.Cell x).toNat]?=some c:=by
   unfold atI at hc
   rw [if_pos hxc] at hc
   exact hc
  have hc4:(Zp.Cells (Za.Library b))[(Zk.Cell e).toNat]?=some c2:=by
   unfold atI at hc2
   rw [if_pos hcr.1] at hc2
   exact hc2
  have hR:=ZwM hB h0 hx2 hc3 hc4 hcr (ZyY (Jd (ZrA b1) hc3) (Jd (ZrA b1) hc4) ha)
  rw [if_pos k1,if_pos k1,Yl _ hf,Option.bind_some,hp.at,Option.bind_some]
  have e1:ZM.instance p=p.1:=rfl
  have e2:ZN.instance p=p.1:=rfl
  simp only [e1,e2,hx,Option.bind_some]
  refine ⟨swapped b p.1 (Zk.Cell e),?_,?_,hR,rfl,Zvm (by omega) (by omega) ?_⟩
  ·unfold swapped;rw [hx2]
  ·unfold swapped;rw [hx2]
  ·unfold swapped;rw [hx2];exact congrArg List.length (ZlC hx2 _)
 rw [if_neg k1,if_neg k1]
 by_cases k2:Zk.Kind e=2
 ·obtain ⟨p,c,hp,hd,_⟩:=h.poss.2.1 k2
  have hs:=(Zr3 he).1
  rw [if_pos k2,if_pos k2,Zrv h k2 hs hp hd,ZrX h k2 hs hp hd]
  exact ⟨_,rfl,rfl,Zl4 h k2 hs hp,rfl,by unfold Lens;rw [if_neg (by omega),if_pos k2];exact ZBT hB hp.2⟩
 rw [if_neg k2,if_neg k2]
 by_cases k3:Zk.Kind e=3
 ·have hL:=h.poss.2.2.1 k3
  obtain ⟨k,p,m,v,hs,hp,hpi,hm,hv,hun⟩:=Zpu hB hL
  have hR:=ZmZ hB hL hs hp hpi hm
  rw [if_pos k3,if_pos k3,hun,Zpz hB hL hs hp hpi hm]
  obtain ⟨hn,x,hx,hl2⟩:=hL.two
  have hn2:0<(Zb.Instances (conn (Za.Design b) p.1 p.2.1 m)).length:=by rw [Xn];exact hn
  have hx4:(Zb.Instances (conn (Za.Design b) p.1 p.2.1 m))[(Zb.Instances (conn (Za.Design b) p.1 p.2.1 m)).length-1]?=some ((Zb.Instances (conn (Za.Design b) p.1 p.2.1 m))[(Zb.Instances (conn (Za.Design b) p.1 p.2.1 m)).length-1]'(by omega)):=List.getElem?_eq_getElem _
  generalize (Zb.Instances (conn (Za.Design b) p.1 p.2.1 m))[(Zb.Instances (conn (Za.Design b) p.1 p.2.1 m)).length-1]'(by omega)=x' at hx4
  obtain ⟨y,hy,_,_,hyl,_⟩:=ZgP hx4
  rw [Xn,hx] at hy
  injection hy with hy
  have h5:=Zkj hn2 hx4 (by rw [hyl,←hy,hl2])
  have h6:=Zoq hp m
  have hins:YL (unD b p m)=YL (Za.Design b)-2:=by unfold unD;omega
  refine ⟨Zn2 b k p m,by rw [hins,hv];rfl,rfl,hR,rfl,?_⟩
  have h7:=congrArg List.length (ZkR (s:=[]) hn2 hx4)
  rw [ZxI,hyl,←hy,hl2,X3 hp,List.length_set] at h7
  unfold Lens
  rw [if_pos k3,if_neg (by omega)]
  exact h7.symm
 rw [if_neg k3,if_neg k3]
 by_cases k4:Zk.Kind e=4
 ·obtain ⟨p,hp,hd,hne⟩:=h.poss.2.2.2.1 k4
  obtain ⟨_,hn,w,hw,hnode⟩:=h.range.2.1 k4
  have hk:=(List.getElem?_eq_some_iff.1 hp.2).1
  have hR:=ZAN hB hp.2 hd hn (v:=Zk.Node e) (fun w' hw'=>by rw [hw] at hw';injection hw' with hw';rw [←hw'];exact hnode)
  rw [if_pos k4,if_pos k4,Zhd hB,Option.bind_some,Yl _ hf,Option.bind_some,hp.at,Option.bind_some,ZfX hB,Option.bind_some,Qa hp.1 (ZjP hk),Option.bind_some,Option.bind_some,Zg4 hp.2,Option.bind_some,
   show (ZM.instance p,ZM.pin p,())=(p.1,p.2.1,()) from rfl,Zh4 hp.2,Option.bind_some]
  refine ⟨moved b (Zk.Place e).toNat p (Zk.Net e) (Zk.Node e),?_,?_,hR,rfl,Zvm k2 k3 (by show (places (conn _ _ _ _)).length=_;rw [X3 hp.2,List.length_set])⟩
  ·exact congrArg (fun o=>Option.bind o fun connect0=>some connect0) (ZuN hB hp.2 hd hn (v:=Zk.Node e))
  ·exact congrArg (fun o=>Option.bind o fun l08Attach0=>some l08Attach0) (Zuc hB hp.2 (Zk.Net e) (Zk.Node e))
 ·have k5:Zk.Kind e=5:=by have:=h.blank;unfold Blank at this;omega
  have hn:=h.range.2.2 k5
  obtain ⟨w,hw1,hw2,_⟩:=Zn4 hB hn
  have hsw:=(Zr3 he).2
  have hR:=ZyM hB hn (h.poss.2.2.2.2 k5) hsw
  rw [if_neg k4,if_neg k4,if_pos k5,if_pos k5,Zhy _ hsw,Option.bind_some,ZjW _ hsw,Option.bind_some,hw2,Option.bind_some]
  exact ⟨ZA4 b (Zk.Net e) (Zk.Ze1 e),rfl,rfl,hR,rfl,Zvm k2 k3 rfl⟩
theorem ZAT {b:Za} {e:Zk} (h:ZpA b e) (he:sm Qv e):∃ r,Zap e b=some r∧Zcr b e=some r∧JX r∧Za.Library r=Za.Library b:=by
 obtain ⟨r,h1,h2,h3,h4,_⟩:=ZxO h he
 exact ⟨r,h1,h2,h3,h4⟩
theorem ZxC (r:Zk) (h:sm Qv r):Zm5 Qv r≤4194304:=by
 obtain ⟨a1,a2,a3,a4⟩:=Zlq (Zr3 h).2
 have s1:=Zo a1
 have s2:=Zo a2
 have s3:=Zo a3
 have s4:=Zo a4
 have e:Zm5 Qv r=cnt (.sl (.int .i64)) (Zr.Parent (Zk.Ze1 r))+(cnt (.sl (.int .i64)) (Zr.Res (Zk.Ze1 r))+(cnt (.sl (.int .i64)) (Zr.Cap (Zk.Ze1 r))+cnt (.sl (.int .i64)) (Zr.ZfR (Zk.Ze1 r)))):=by
  simp only [Zm5,Nat.zero_add,Nat.add_zero]
 rw [e,ZkK,ZkK,ZkK,ZkK]
 omega
end Go.Proofs.YtoefbkmllkpkkaaGreatDoor
/-
  Plain laws: setups whose places are carried over: what the reference makes of them.
-/
namespace Go.Proofs.YtoefbkmllkpkkaaGreatDoor
set_option linter.unusedVariables false
set_option linter.unusedSimpArgs false
open Go Go.Sx
def Za4 (af:List Int) (p:Int):Int:=(af[p.toNat]?).getD 0
def Zy9 (af:List Int) (c:Zf):Zf:=(Zf.Name c,Za4 af (Zf.Place c),c.2.2)
def ZpR (af:List Int) (x:Zh):Zh:=(Za4 af (Zh.Place x),x.2)
def Zwf (af:List Int) (l:List Int):List Int:=l.map (Za4 af)
def Zxr (af:List Int) (e:Zg):Zg:=(Zg.Kind e,Zg.Value e,Zwf af (Zg.From e),Zwf af (Zg.Through e),Zwf af (Zg.To e),())
def Zyr (af:List Int) (s:Zn):Zn:=((Zn.YS s).map (Zy9 af),(Zn.Qw s).map (ZpR af),(Zn.Xu s).map (ZpR af),(Zn.Exceptions s).map (Zxr af),Zn.QJ s,())
def LOk (af:List Int) (l:List Int):Prop:=ZfU l (fun _ p=>0≤Za4 af p)
def EOk (af:List Int) (e:Zg):Prop:=LOk af (Zg.From e)∧LOk af (Zg.Through e)∧LOk af (Zg.To e)
theorem Zjd {af:List Int} {p:Int} (h0:0≤p) (h1:p<(af.length:Int)):atI af p=some (Za4 af p):=by
 have hx:af[p.toNat]?=some (af[p.toNat]'(by omega)):=List.getElem?_eq_getElem _
 unfold Za4
 rw [Qa h0 hx,hx]
 rfl
structure Zxd (n:Nat) (s:Zn):Prop where
 clocks:∀ c∈Zn.YS s,0≤Zf.Place c∧Zf.Place c<(n:Int)
 ins:∀ x∈Zn.Qw s,0≤Zh.Place x∧Zh.Place x<(n:Int)
 outs:∀ x∈Zn.Xu s,0≤Zh.Place x∧Zh.Place x<(n:Int)
 excs:∀ e∈Zn.Exceptions s,ZoF n (Zg.From e)∧ZoF n (Zg.Through e)∧ZoF n (Zg.To e)
 lens:(Zn.YS s).length≤6∧(Zn.Qw s).length≤n∧(Zn.Xu s).length≤n∧(Zn.Exceptions s).length≤6∧(Zn.QJ s).length≤4
theorem ZBa {pl:List Pl} {nc:Int} {drv:Bool} {l:List Zh} (h:Zir pl nc drv l):l.length≤pl.length:=by
 have key:∀ k,k<l.length→∀ x,l[k]?=some x→(k:Int)≤Zh.Place x:=by
  intro k
  induction k with
  | zero=>intro hk x hx;have:=(h 0 x hx).1;omega
  | succ k ih =>
   intro hk x hx
   have hy:l[k]?=some l[k]:=List.getElem?_eq_getElem (by omega)
   have h1:=ih (by omega) _ hy
   have h2:=(h (k+1) x hx).2.2.1 _ (by omega) hy
   omega
 by_cases h0:l.length=0
 ·omega
 ·have hx:l[l.length-1]?=some (l[l.length-1]'(by omega)):=List.getElem?_eq_getElem _
  have h1:=key _ (by omega) _ hx
  have h2:=(h _ _ hx).1
  omega
theorem ZCN {pl:List Pl} {s:Zn} (h:Zw5 pl s):Zxd pl.length s:=by
 obtain ⟨h1,h2,h3,h4,h5,h6,h7⟩:=h
 have hx:∀ {drv:Bool} {l:List Zh},Zir pl ((Zn.YS s).length:Int) drv l→∀ x∈l,0≤Zh.Place x∧Zh.Place x<(pl.length:Int):=by
  intro drv l hl x hx
  obtain ⟨k,hk⟩:=List.getElem?_of_mem hx
  have:=(hl k x hk).1
  omega
 exact ⟨fun c hc=>⟨h1.place hc,h2 c hc⟩,hx h3,hx h4,fun e he=>⟨(h6 e he).1,(h6 e he).2.1,(h6 e he).2.2.1⟩,h1.1,ZBa h3,ZBa h4,h5,h7.1⟩
noncomputable def ZCh (af:List Int) (l:List Int):List Int:=sel (LOk af l) (Zwf af l) []
theorem ZBi {n:Nat} {l:List Int} (h:ZoF n l) {k:Nat} {x:Int} (hx:l[k]?=some x):0≤x∧x<(n:Int):=by
 have:=h.2 x (List.mem_of_getElem? hx)
 omega
theorem ZeU {af:List Int} {n:Nat} (haf:af.length=n) {l:List Int} (h:ZoF n l):Zbr l af=some (ZCh af l,tr (LOk af l)):=by
 have h4:=h.1
 unfold Zbr
 have:=Zhr (l:=l) (ρ:=List Int×Bool) (fun k=>((l.take k).map (Za4 af),(k:Int),())) (fun _ x=>0≤Za4 af x) (step:=fun v=>J6 l af v.1 v.2.1) (bad:=([],false)) (good:=(Zwf af l,true))
  (fun k x hx hk _=>by
   obtain ⟨h0,h1⟩:=ZBi h hx
   simp only [J6,show (k:Int)<(l.length:Int) from by omega,if_true,Zt,hx,Option.bind_some,Zjd h0 (by rw [haf];exact h1),XK (show k≤1048576 by omega)]
   rw [Zj (by rw [List.length_map,List.length_take,List.length_singleton];omega)]
   constructor
   ·intro q
    rw [if_neg (by omega),Z6 hx,List.map_append]
    rfl
   ·intro q;rw [if_pos (by omega)])
  (fun _=>by simp only [J6,Int.lt_irrefl,if_false,List.take_length];rfl)
 simp only [List.take_zero,List.map_nil] at this
 rw [show ((0:Nat):Int)=0 from rfl] at this
 rw [this]
 unfold ZCh LOk
 by_cases c:ZfU l (fun _ x=>0≤Za4 af x)
 ·rw [YX c,YX c,Ye c]
 ·rw [YM c,YM c,ZR c]
theorem Zf2 {af:List Int} {n:Nat} (haf:af.length=n) (hn:n≤100) {l:List Zh} (h:∀ x∈l,0≤Zh.Place x∧Zh.Place x<(n:Int)) (hl:l.length≤n):Zav l af=some (l.map (ZpR af)):=by
 unfold Zav
 have:=Yo (l:=l) (ρ:=List Zh) (fun k=>((l.take k).map (ZpR af),(k:Int),())) (step:=fun v=>Vt l af v.1 v.2.1) (good:=l.map (ZpR af))
  (fun k x hx hk=>by
   obtain ⟨h0,h1⟩:=h x (List.mem_of_getElem? hx)
   simp only [Vt,show (k:Int)<(l.length:Int) from by omega,if_true,Zt,hx,Option.bind_some,Zjd h0 (by rw [haf];exact h1),XK (show k≤1048576 by omega)]
   rw [Zj (by rw [List.length_map,List.length_take,List.length_singleton];omega),Z6 hx,List.map_append]
   rfl)
  (by simp only [Vt,Int.lt_irrefl,if_false,List.take_length])
 simpa using this
noncomputable def Ztv (af:List Int) (e:Zg):Zg:=(Zg.Kind e,Zg.Value e,ZCh af (Zg.From e),ZCh af (Zg.Through e),ZCh af (Zg.To e),())
theorem ZAV {af:List Int} {e:Zg} (h:EOk af e):Ztv af e=Zxr af e:=by
 unfold Ztv Zxr ZCh
 rw [YX h.1,YX h.2.1,YX h.2.2]
def Zd2 (af:List Int) (l:List Zg):Prop:=∀ e∈l,EOk af e
theorem Zuv {af:List Int} {n:Nat} (haf:af.length=n) {s:Zn} (h:Zxd n s) (hn:n≤100) (cl:List Zf) :
  Zv (fun v=>VX af s cl v.1 v.2.1 v.2.2.1) (([]:List Zg),Bool.true,(0:Int),())=some (.inr ((cl,(Zn.Qw s).map (ZpR af),(Zn.Xu s).map (ZpR af),(Zn.Exceptions s).map (Ztv af),Zn.QJ s,()),tr (Zd2 af (Zn.Exceptions s)))):=by
 obtain ⟨_,h2,h3,h4,h5⟩:=h.lens
 have:=Yo (l:=Zn.Exceptions s) (ρ:=(List Zf×Int×Unit) ⊕ (Zn×Bool)) (fun k=>(((Zn.Exceptions s).take k).map (Ztv af),tr (Zd2 af ((Zn.Exceptions s).take k)),(k:Int),())) (step:=fun v=>VX af s cl v.1 v.2.1 v.2.2.1)
  (good:=.inr ((cl,(Zn.Qw s).map (ZpR af),(Zn.Xu s).map (ZpR af),(Zn.Exceptions s).map (Ztv af),Zn.QJ s,()),tr (Zd2 af (Zn.Exceptions s))))
  (fun k x hx hk=>by
   obtain ⟨p1,p2,p3⟩:=h.excs x (List.mem_of_getElem? hx)
   have hg:(((Zn.Exceptions s).take k).map (Ztv af)).length=k:=by rw [List.length_map,List.length_take];omega
   have hA:Zd2 af ((Zn.Exceptions s).take (k+1))↔Zd2 af ((Zn.Exceptions s).take k)∧EOk af x:=by
    unfold Zd2
    rw [Z6 hx]
    constructor
    ·exact fun q=>⟨fun e he=>q e (List.mem_append_left _ he),q x (List.mem_append_right _ (List.mem_singleton.2 rfl))⟩
    ·rintro ⟨q1,q2⟩ e he
     rcases List.mem_append.1 he with he | he
     ·exact q1 e he
     ·rw [List.mem_singleton.1 he];exact q2
   simp only [VX,show (k:Int)<((Zn.Exceptions s).length:Int) from by omega,if_true,Zt,hx,Option.bind_some,ZeU haf p1,ZeU haf p2,ZeU haf p3,XK (show k≤1048576 by omega)]
   rw [Zj (by rw [hg,List.length_singleton];omega),Zj (by rw [hg,List.length_singleton];omega),Z6 hx,List.map_append,show (Zn.Exceptions s).take k++[x]=(Zn.Exceptions s).take (k+1) from (Z6 hx).symm,YI hA]
   unfold EOk
   by_cases c0:Zd2 af ((Zn.Exceptions s).take k)<;>by_cases c1:LOk af (Zg.From x)<;>by_cases c2:LOk af (Zg.Through x)<;>by_cases c3:LOk af (Zg.To x) <;>
    simp only [Xa,c0,c1,c2,c3,if_true,if_false,true_and,and_true,false_and,and_false,Ye,ZR,not_false_eq_true,trivial]<;>rfl)
  (by
   simp only [VX,Int.lt_irrefl,if_false,List.take_length]
   rw [Zj (by rw [List.length_nil];omega),Zf2 haf hn h.ins h2,Option.bind_some,Zf2 haf hn h.outs h3,Option.bind_some]
   rfl)
 have e0:tr (Zd2 af ([]:List Zg))=true:=Ye (fun e he=>by cases he)
 simpa [e0] using this
theorem ZsM {af:List Int} {n:Nat} (haf:af.length=n) {s:Zn} (h:Zxd n s) (hn:n≤100) :
  Zgr af s=some (((Zn.YS s).map (Zy9 af),(Zn.Qw s).map (ZpR af),(Zn.Xu s).map (ZpR af),(Zn.Exceptions s).map (Ztv af),Zn.QJ s,()),tr (Zd2 af (Zn.Exceptions s))):=by
 obtain ⟨h1,_⟩:=h.lens
 unfold Zgr
 have:=Yo (l:=Zn.YS s) (ρ:=Zn×Bool) (fun k=>(((Zn.YS s).take k).map (Zy9 af),(k:Int),())) (step:=fun v=>ZaG af s v.1 v.2.1)
  (good:=(((Zn.YS s).map (Zy9 af),(Zn.Qw s).map (ZpR af),(Zn.Xu s).map (ZpR af),(Zn.Exceptions s).map (Ztv af),Zn.QJ s,()),tr (Zd2 af (Zn.Exceptions s))))
  (fun k x hx hk=>by
   obtain ⟨h0,h1⟩:=h.clocks x (List.mem_of_getElem? hx)
   simp only [ZaG,show (k:Int)<((Zn.YS s).length:Int) from by omega,if_true,Zt,hx,Option.bind_some,Zjd h0 (by rw [haf];exact h1),XK (show k≤1048576 by omega)]
   rw [Zj (by rw [List.length_map,List.length_take,List.length_singleton];omega),Z6 hx,List.map_append]
   rfl)
  (by
   simp only [ZaG,Int.lt_irrefl,if_false,List.take_length]
   exact Zuv haf h hn _)
 simpa using this
theorem ZBX {af:List Int} {l:List Zg} (h:Zd2 af l):l.map (Ztv af)=l.map (Zxr af):=List.map_congr_left fun e he=>ZAV (h e he)
end Go.Proofs.YtoefbkmllkpkkaaGreatDoor
/-
  Plain laws: a session that is opened; the law FnExactOpenSession.
-/
namespace Go.Proofs.YtoefbkmllkpkkaaGreatDoor
set_option linter.unusedVariables false
set_option linter.unusedSimpArgs false
open Go Go.Sx
theorem ZBR (a:Zn) (h:tot YR a≤1048576):cnt YR a≤100+20*1048576:=by
 have hc:=ZuG YR a
 have h1:wid YR≤100:=by decide
 have h2:ZeH YR≤20:=by decide
 have:=Nat.mul_le_mul_right (tot YR a) h2
 omega
def stay (n:Nat):List Int:=(List.range n).map Int.ofNat
theorem ZlX {n:Nat} (hn:n≤100) {s:Zn} (h:Zxd n s):Zc9 s=some s:=by
 obtain ⟨h1,h2,h3,h4,h5⟩:=h.lens
 unfold Zc9 X0 YW XL
 rw [Zj (by rw [List.length_nil];omega),Option.bind_some,Zj (by rw [List.length_nil];omega),Option.bind_some,Zj (by rw [List.length_nil];omega),Option.bind_some,Zj (by rw [List.length_nil];omega),Option.bind_some]
 simp only [List.nil_append]
 have:=Yo (l:=Zn.Exceptions s) (ρ:=Zn) (fun k=>((k:Int),(Zn.Exceptions s).take k,())) (step:=fun v=>VY s (Zn.YS s) (Zn.Qw s) (Zn.Xu s) (Zn.QJ s) v.1 v.2.1) (good:=s)
  (fun k x hx hk=>by
   obtain ⟨p1,p2,p3⟩:=h.excs x (List.mem_of_getElem? hx)
   have q1:=p1.1
   have q2:=p2.1
   have q3:=p3.1
   simp only [VY,show (k:Int)<((Zn.Exceptions s).length:Int) from by omega,if_true,Zt,hx,Option.bind_some,Jo (Zg.From x) (by omega),Jo (Zg.Through x) (by omega),Jo (Zg.To x) (by omega),XK (show k≤1048576 by omega)]
   rw [Zj (by rw [List.length_take,List.length_singleton];omega),Z6 hx])
  (by simp only [VY,Int.lt_irrefl,if_false,List.take_length])
 simpa using this
def ZtM:Zn:=([],[],[],[],[],())
theorem Zoo:sm YR ZtM:=by
 unfold ZtM
 simp only [sm,and_true]
 simp
end Go.Proofs.YtoefbkmllkpkkaaGreatDoor
/-
  Plain laws: setups whose places are carried over an edit.
-/
namespace Go.Proofs.YtoefbkmllkpkkaaGreatDoor
set_option linter.unusedVariables false
set_option linter.unusedSimpArgs false
open Go Go.Sx
theorem Zzq {α τ ρ:Type} {l:List α} (pk:Nat→τ) (P:Nat→α→Prop) (Q:ρ→Prop) {step:τ→Option (τ ⊕ ρ)}
  (hs:∀ (k:Nat) (x:α),l[k]?=some x→k<l.length→(P k x→step (pk k)=some (.inl (pk (k+1))))∧(¬P k x→∃ r,step (pk k)=some (.inr r)∧(¬ZfU l P→Q r)))
  (hx:ZfU l P→∃ r,step (pk l.length)=some (.inr r)∧Q r):∃ r,Zv step (pk 0)=some r∧Q r:=by
 refine Vz l.length (fun k v=>v=pk k∧∀ (j:Nat) (y:α),j<k→l[j]?=some y→P j y) Q ⟨rfl,fun j y hj=>by omega⟩ ?_ ?_
 ·rintro k v hk ⟨rfl,hS⟩
  have hx:l[k]?=some l[k]:=List.getElem?_eq_getElem hk
  obtain ⟨h1,h2⟩:=hs k _ hx hk
  by_cases hP:P k l[k]
  ·refine .inl ⟨_,h1 hP,rfl,fun j y hj hy=>?_⟩
   by_cases hjk:j<k
   ·exact hS j y hjk hy
   ·have:j=k:=by omega
    subst this
    rw [hx] at hy;injection hy with hy;subst hy;exact hP
  ·obtain ⟨r,r1,r2⟩:=h2 hP
   exact .inr ⟨r,r1,r2 fun hA=>hP (hA k _ hx)⟩
 ·rintro v ⟨rfl,hS⟩
  exact hx fun k x hk=>hS k x (List.getElem?_eq_some_iff.1 hk).1 hk
theorem ZFX {α:Type} {l:List α} {f:α→α} {k:Nat} {x:α} (hx:l[k]?=some x):List.set ((l.take k).map f++l.drop k) k (f x)=(l.take (k+1)).map f++l.drop (k+1):=by
 have hk:=(List.getElem?_eq_some_iff.1 hx).1
 have h1:((l.take k).map f).length=k:=by rw [List.length_map,List.length_take];omega
 rw [List.set_append,if_neg (by omega),h1,Nat.sub_self,Z6 hx,List.map_append,List.append_assoc]
 congr 1
 have h2:l.drop k=x::l.drop (k+1):=by
  rw [List.drop_eq_getElem_cons hk]
  congr 1
  have:=List.getElem?_eq_getElem hk
  rw [hx] at this;injection this with this;exact this.symm
 rw [h2]
 rfl
theorem atC {α:Type} {l:List α} {f:α→α} {k:Nat} {x:α} (hx:l[k]?=some x):((l.take k).map f++l.drop k)[k]?=some x:=by
 have hk:=(List.getElem?_eq_some_iff.1 hx).1
 have h1:((l.take k).map f).length=k:=by rw [List.length_map,List.length_take];omega
 rw [List.getElem?_append_right (by omega),h1,Nat.sub_self,List.getElem?_drop]
 exact hx
theorem ZHm {α:Type} (l:List α) (f:α→α) (k:Nat):((l.take k).map f++l.drop k).length=l.length:=by
 rw [List.length_append,List.length_map,List.length_take,List.length_drop];omega
theorem Zyz {p:Prop} [Decidable p]:tr p=decide p:=Zm2 decide_eq_true_iff
theorem ZfV {af:List Int} {n:Nat} (haf:af.length=n) {l:List Int} (h:ZoF n l):∃ l',Jy af l=some (tr (LOk af l),l')∧(LOk af l→l'=Zwf af l):=by
 have h4:=h.1
 have:=Zzq (l:=l) (ρ:=Bool×List Int) (fun k=>((k:Int),(l.take k).map (Za4 af)++l.drop k,())) (fun _ x=>0≤Za4 af x) (fun r=>r.1=tr (LOk af l)∧(LOk af l→r.2=Zwf af l)) (step:=fun v=>ZaS af l v.1 v.2.1)
  (fun k x hx hk=>by
   obtain ⟨h0,h1⟩:=ZBi h hx
   have hat:atI (List.set ((l.take k).map (Za4 af)++l.drop k) k (Za4 af x)) (k:Int)=some (Za4 af x):=ZbA (by rw [ZHm];exact hk)
   simp only [ZaS,show (k:Int)<(l.length:Int) from by omega,if_true,Zt,atC hx,Option.bind_some,Zjd h0 (by rw [haf];exact h1),Int.toNat_natCast,XK (show k≤1048576 by omega)]
   rw [←Zt,hat,Option.bind_some,ZFX hx]
   constructor
   ·intro q;rw [if_neg (by omega)]
   ·intro q
    rw [if_pos (by omega)]
    exact ⟨_,rfl,fun hn=>⟨(ZR hn).symm,fun hy=>absurd hy hn⟩⟩)
  (fun hA=>by
   simp only [ZaS,Int.lt_irrefl,if_false]
   refine ⟨_,rfl,(Ye hA).symm,fun _=>?_⟩
   show (l.take l.length).map (Za4 af)++l.drop l.length=_
   rw [List.take_length,List.drop_length,List.append_nil]
   rfl)
 simp only [List.take_zero,List.map_nil,List.nil_append,List.drop_zero] at this
 obtain ⟨⟨r1,r2⟩,e,q1,q2⟩:=this
 simp only at q1 q2
 subst q1
 exact ⟨r2,e,q2⟩
theorem ZnV {α ρ:Type} {l:List α} (f:α→α) (ok:α→Prop) (C:Prop) {step:Int×List α×Bool×Unit→Option ((Int×List α×Bool×Unit) ⊕ ρ)} {good:ρ}
  (hs:∀ (k:Nat) (x:α) (L:List α) (c:Bool),l[k]?=some x→k<l.length→(k:Int)<(l.length:Int)→L[k]?=some x→k<L.length→step ((k:Int),L,c,())=some (.inl (((k+1:Nat):Int),L.set k (f x),c&&tr (ok x),())))
  (hx:step ((l.length:Int),l.map f,tr (C∧∀ x∈l,ok x),())=some (.inr good)):Zv step ((0:Int),l,tr C,())=some good:=by
 have:=Yo (l:=l) (ρ:=ρ) (fun k=>((k:Int),(l.take k).map f++l.drop k,tr (C∧∀ x∈l.take k,ok x),())) (step:=step) (good:=good)
  (fun k x hx hk=>by
   rw [hs k x _ _ hx hk (by omega) (atC hx) (by rw [ZHm];exact hk),ZFX hx]
   congr 4
   refine Prod.ext ?_ rfl
   show (tr (C∧∀ x∈l.take k,ok x)&&tr (ok x))=tr (C∧∀ y∈l.take (k+1),ok y)
   refine (Zm2 ?_).symm
   rw [Bool.and_eq_true,Xa,Xa,Z6 hx]
   constructor
   ·rintro ⟨⟨q1,q2⟩,q3⟩
    refine ⟨q1,fun y hy=>?_⟩
    rcases List.mem_append.1 hy with hy | hy
    ·exact q2 y hy
    ·rw [List.mem_singleton.1 hy];exact q3
   ·rintro ⟨q1,q2⟩
    exact ⟨⟨q1,fun y hy=>q2 y (List.mem_append_left _ hy)⟩,q2 x (List.mem_append_right _ (List.mem_singleton.2 rfl))⟩)
  (by simp only [List.take_length,List.drop_length,List.append_nil];exact hx)
 have e:tr (C∧∀ x∈([]:List α),ok x)=tr C:=YI ⟨fun q=>q.1,fun q=>⟨q,fun x hx=>by cases hx⟩⟩
 simp only [List.take_zero,List.map_nil,List.nil_append,List.drop_zero,e] at this
 exact this
def SOk (af:List Int) (s:Zn):Prop :=
 (((True∧∀ c∈Zn.YS s,0≤Za4 af (Zf.Place c))∧∀ x∈Zn.Qw s,0≤Za4 af (Zh.Place x))∧∀ x∈Zn.Xu s,0≤Za4 af (Zh.Place x))∧Zd2 af (Zn.Exceptions s)
theorem ZuA {af:List Int} {n:Nat} (haf:af.length=n) {s:Zn} (h:Zxd n s) (C:Prop) (c1:List Zf) (c2 c3:List Zh) :
  ∃ L,Zv (fun v=>QD s af c1 c2 c3 v.1 v.2.1 v.2.2.1) ((0:Int),tr C,Zn.Exceptions s,())=some (.inr (.inr (.inr (tr (C∧Zd2 af (Zn.Exceptions s)),(c1,c2,c3,L,s.2.2.2.2)))))∧(C∧Zd2 af (Zn.Exceptions s)→L=(Zn.Exceptions s).map (Zxr af)):=by
 obtain ⟨_,_,_,h4,_⟩:=h.lens
 have:=Zjb (l:=Zn.Exceptions s) (v:=(((0:Int),tr C,Zn.Exceptions s,()):Int×Bool×List Zg×Unit)) (step:=fun v=>QD s af c1 c2 c3 v.1 v.2.1 v.2.2.1)
  (fun k v=>∃ L:List Zg,v=((k:Int),tr (C∧Zd2 af ((Zn.Exceptions s).take k)),L,())∧L.length=(Zn.Exceptions s).length∧(∀ j,k≤j→L[j]?=(Zn.Exceptions s)[j]?)∧(C∧Zd2 af ((Zn.Exceptions s).take k)→L=((Zn.Exceptions s).take k).map (Zxr af)++(Zn.Exceptions s).drop k))
  (fun r=>∃ L,r=(.inr (.inr (.inr (tr (C∧Zd2 af (Zn.Exceptions s)),(c1,c2,c3,L,s.2.2.2.2)))))∧(C∧Zd2 af (Zn.Exceptions s)→L=(Zn.Exceptions s).map (Zxr af)))
  ⟨Zn.Exceptions s,by
   have e:tr (C∧Zd2 af ((Zn.Exceptions s).take 0))=tr C:=YI ⟨fun q=>q.1,fun q=>⟨q,fun x hx=>by simp at hx⟩⟩
   rw [e];rfl,rfl,fun _ _=>rfl,fun _=>by simp⟩
  (fun k x v hx hk hI=>by
   obtain ⟨L,rfl,hL,hj,hLc⟩:=hI
   obtain ⟨p1,p2,p3⟩:=h.excs x (List.mem_of_getElem? hx)
   have hLx:L[k]?=some x:=by rw [hj k (Nat.le_refl _)];exact hx
   obtain ⟨l1,a1,b1⟩:=ZfV haf p1
   obtain ⟨l2,a2,b2⟩:=ZfV haf p2
   obtain ⟨l3,a3,b3⟩:=ZfV haf p3
   have a1:Jy af x.snd.snd.fst=some (tr (LOk af (Zg.From x)),l1):=a1
   have a2:Jy af x.snd.snd.snd.fst=some (tr (LOk af (Zg.Through x)),l2):=a2
   have a3:Jy af x.snd.snd.snd.snd.fst=some (tr (LOk af (Zg.To x)),l3):=a3
   have hA:Zd2 af ((Zn.Exceptions s).take (k+1))↔Zd2 af ((Zn.Exceptions s).take k)∧EOk af x:=by
    unfold Zd2
    rw [Z6 hx]
    constructor
    ·exact fun q=>⟨fun e he=>q e (List.mem_append_left _ he),q x (List.mem_append_right _ (List.mem_singleton.2 rfl))⟩
    ·rintro ⟨q1,q2⟩ e he
     rcases List.mem_append.1 he with he | he
     ·exact q1 e he
     ·rw [List.mem_singleton.1 he];exact q2
   have next:∀ (y:Zg) (c:Bool),c=tr (C∧Zd2 af ((Zn.Exceptions s).take (k+1)))→(C∧Zd2 af ((Zn.Exceptions s).take (k+1))→y=Zxr af x)→
     ∃ v',(some (.inl (((k+1:Nat):Int),c,List.set L k y,())):Option ((Int×Bool×List Zg×Unit) ⊕ ((Int×(List Zh)×Bool×Unit) ⊕ ((Int×(List Zh)×Bool×Unit) ⊕ ((Int×(List Zf)×Bool×Unit) ⊕ (Bool×Zn))))))=some (.inl v')∧
      ∃ L:List Zg,v'=(((k+1:Nat):Int),tr (C∧Zd2 af ((Zn.Exceptions s).take (k+1))),L,())∧L.length=(Zn.Exceptions s).length∧(∀ j,k+1≤j→L[j]?=(Zn.Exceptions s)[j]?)∧(C∧Zd2 af ((Zn.Exceptions s).take (k+1))→L=((Zn.Exceptions s).take (k+1)).map (Zxr af)++(Zn.Exceptions s).drop (k+1)):=by
    intro y c hc hy
    refine ⟨_,rfl,L.set k y,by rw [hc],by rw [List.length_set];exact hL,fun j hjk=>?_,fun q=>?_⟩
    ·rw [List.getElem?_set_ne (by omega)];exact hj j (by omega)
    ·rw [hy q,hLc ⟨q.1,(hA.1 q.2).1⟩,ZFX hx]
   simp only [QD,show (k:Int)<((Zn.Exceptions s).length:Int) from by omega,if_true,Zt,hLx,Option.bind_some,XK (show k≤1048576 by omega),Int.toNat_natCast]
   by_cases q0:C∧Zd2 af ((Zn.Exceptions s).take k)
   ·rw [if_pos (Ye q0),a1,Option.bind_some]
    by_cases q1:LOk af (Zg.From x)
    ·rw [if_pos (Ye q1),a2,Option.bind_some]
     by_cases q2:LOk af (Zg.Through x)
     ·rw [if_pos (Ye q2),a3,Option.bind_some]
      refine next _ _ ?_ ?_
      ·refine YI ⟨fun q=>⟨q0.1,hA.2 ⟨q0.2,q1,q2,q⟩⟩,fun q=>(hA.1 q.2).2.2.2⟩
      ·intro q
       have q3:=(hA.1 q.2).2.2.2
       show (x.fst,x.snd.fst,l1,l2,l3,())=_
       rw [b1 q1,b2 q2,b3 q3]
       rfl
     ·rw [if_neg (fun q=>q2 ((Xa _).1 q))]
      exact next _ _ (ZR fun q=>q2 (hA.1 q.2).2.2.1).symm (fun q=>absurd (hA.1 q.2).2.2.1 q2)
    ·rw [if_neg (fun q=>q1 ((Xa _).1 q))]
     exact next _ _ (ZR fun q=>q1 (hA.1 q.2).2.1).symm (fun q=>absurd (hA.1 q.2).2.1 q1)
   ·rw [if_neg (fun q=>q0 ((Xa _).1 q))]
    exact next _ _ (ZR fun q=>q0 ⟨q.1,(hA.1 q.2).1⟩).symm (fun q=>absurd ⟨q.1,(hA.1 q.2).1⟩ q0))
  (fun v hI=>by
   obtain ⟨L,rfl,hL,hj,hLc⟩:=hI
   simp only [QD,Int.lt_irrefl,if_false]
   rw [List.take_length] at hLc ⊢
   refine ⟨_,rfl,L,rfl,fun q=>?_⟩
   rw [hLc q,List.drop_length,List.append_nil])
 obtain ⟨r,e,L,rfl,hL⟩:=this
 exact ⟨L,e,hL⟩
theorem Ztn {af:List Int} {n:Nat} (haf:af.length=n) (hn:n≤100) {s:Zn} (h:Zxd n s):∃ s',Zdd s af=some (tr (SOk af s),s')∧(SOk af s→s'=Zyr af s):=by
 obtain ⟨h1,h2,h3,_⟩:=h.lens
 obtain ⟨L,e,hL⟩:=ZuA haf h ((True∧∀ c∈Zn.YS s,0≤Za4 af (Zf.Place c))∧(∀ x∈Zn.Qw s,0≤Za4 af (Zh.Place x))∧∀ x∈Zn.Xu s,0≤Za4 af (Zh.Place x)) ((Zn.YS s).map (Zy9 af)) ((Zn.Qw s).map (ZpR af)) ((Zn.Xu s).map (ZpR af))
 have hC:(((True∧∀ c∈Zn.YS s,0≤Za4 af (Zf.Place c))∧∀ x∈Zn.Qw s,0≤Za4 af (Zh.Place x))∧∀ x∈Zn.Xu s,0≤Za4 af (Zh.Place x))↔((True∧∀ c∈Zn.YS s,0≤Za4 af (Zf.Place c))∧(∀ x∈Zn.Qw s,0≤Za4 af (Zh.Place x))∧∀ x∈Zn.Xu s,0≤Za4 af (Zh.Place x)):=and_assoc
 have hS:SOk af s↔(((True∧∀ c∈Zn.YS s,0≤Za4 af (Zf.Place c))∧(∀ x∈Zn.Qw s,0≤Za4 af (Zh.Place x))∧∀ x∈Zn.Xu s,0≤Za4 af (Zh.Place x))∧Zd2 af (Zn.Exceptions s)):=by unfold SOk;rw [hC]
 refine ⟨((Zn.YS s).map (Zy9 af),(Zn.Qw s).map (ZpR af),(Zn.Xu s).map (ZpR af),L,s.2.2.2.2),?_,fun q=>?_⟩
 ·rw [YI hS]
  rw [YI hC.symm] at e
  unfold Zdd
  have t0:Bool.true=tr True:=(Ye trivial).symm
  rw [t0]
  refine ZnV (l:=Zn.YS s) (Zy9 af) (fun c=>0≤Za4 af (Zf.Place c)) True (fun k x L c hx hk hk2 hLx hkL=>?_) ?_
  ·obtain ⟨g0,g1⟩:=h.clocks x (List.mem_of_getElem? hx)
   have hat:atI (List.set L k (Zf.Name x,Za4 af (Zf.Place x),x.snd.snd)) (k:Int)=some (Zf.Name x,Za4 af (Zf.Place x),x.snd.snd):=ZbA hkL
   simp only [ZbE,hk2,if_true,Zt,hLx,Option.bind_some,Zjd g0 (by rw [haf];exact g1),Int.toNat_natCast,XK (show k≤1048576 by omega)]
   rw [←Zt,hat,Option.bind_some,Zyz]
   cases c<;>rfl
  ·simp only [ZbE,Int.lt_irrefl,if_false]
   refine ZnV (l:=Zn.Qw s) (ZpR af) (fun c=>0≤Za4 af (Zh.Place c)) _ (fun k x L c hx hk hk2 hLx hkL=>?_) ?_
   ·obtain ⟨g0,g1⟩:=h.ins x (List.mem_of_getElem? hx)
    have hat:atI (List.set L k (Za4 af (Zh.Place x),x.snd)) (k:Int)=some (Za4 af (Zh.Place x),x.snd):=ZbA hkL
    simp only [Zbx,hk2,if_true,Zt,hLx,Option.bind_some,Zjd g0 (by rw [haf];exact g1),Int.toNat_natCast,XK (show k≤1048576 by omega)]
    rw [←Zt,hat,Option.bind_some,Zyz]
    cases c<;>rfl
   ·simp only [Zbx,Int.lt_irrefl,if_false]
    refine ZnV (l:=Zn.Xu s) (ZpR af) (fun c=>0≤Za4 af (Zh.Place c)) _ (fun k x L c hx hk hk2 hLx hkL=>?_) ?_
    ·obtain ⟨g0,g1⟩:=h.outs x (List.mem_of_getElem? hx)
     have hat:atI (List.set L k (Za4 af (Zh.Place x),x.snd)) (k:Int)=some (Za4 af (Zh.Place x),x.snd):=ZbA hkL
     simp only [ZbD,hk2,if_true,Zt,hLx,Option.bind_some,Zjd g0 (by rw [haf];exact g1),Int.toNat_natCast,XK (show k≤1048576 by omega)]
     rw [←Zt,hat,Option.bind_some,Zyz]
     cases c<;>rfl
    ·simp only [ZbD,Int.lt_irrefl,if_false]
     exact e
 ·rw [hL (hS.1 q)]
  rfl
def Zom (b:Za) (e:Zk) (s:Zn) (r:Za):Prop:=SOk (after b e) s∧ZjY r (Zyr (after b e) s)
theorem Zvq {af l:List Int} (h:sm (.sl (.int .i64)) l):sm (.sl (.int .i64)) (Zwf af l):=⟨by unfold Zwf;rw [List.length_map];exact h.1,fun x _=>YJ _ (by rfl) x⟩
theorem Zws {t:Ty} {l:List t.den} {f:t.den→t.den} (h:sm (.sl t) l) (hf:∀ x,sm t x→sm t (f x)):sm (.sl t) (l.map f):=by
 refine ⟨by rw [List.length_map];exact h.1,fun x hx=>?_⟩
 obtain ⟨y,hy,rfl⟩:=List.mem_map.1 hx
 exact hf y (h.2 y hy)
theorem Zx6 {af:List Int} {s:Zn} (h:sm YR s):sm YR (Zyr af s):=by
 obtain ⟨h1,h2,h3,h4,h5⟩:=Zu4 h
 refine ⟨Zws (t:=ZU) h1 (fun x hx=>?_),Zws (t:=Zx) h2 (fun x _=>YJ _ (by rfl) _),Zws (t:=Zx) h3 (fun x _=>YJ _ (by rfl) _),Zws (t:=ZA) h4 (fun x hx=>?_),h5,trivial⟩
 ·exact ⟨hx.1,trivial,hx.2.2⟩
 ·obtain ⟨a1,a2,a3⟩:=ZBJ hx
  exact ⟨trivial,trivial,Zvq a1,Zvq a2,Zvq a3,trivial⟩
theorem ZsR {b:Za} {e:Zk} (h:ZpA b e) (he:sm Qv e) (hc0:ZaQ b e=some 0) {s:Zn} (hs:sm YR s) (hS:Zw5 (places (Za.Design b)) s) :
  ∃ r,Zap e b=some r∧Zcr b e=some r∧JX r∧Za.Library r=Za.Library b∧
   JY e b s=some (sel (Zom b e s r) (Zyr (after b e) s,true) (ZtM,false))∧
   VQ b e s=some (sel (Zom b e s r) (Zyr (after b e) s,0) (ZtM,5)):=by
 obtain ⟨r,r1,r2,r3,r4⟩:=ZAT h he
 have hpl:=Y7 h.blk.ok.1.few
 have hF:=ZCN hS
 have hal:=Zxn b e
 obtain ⟨s',i1,i2⟩:=Ztn hal (by omega) hF
 have hspec:=ZsM hal hF (by omega)
 have hset:ZjY b s:=⟨h.blk.ok,hS⟩
 have hsm:sm YR (Zyr (after b e) s):=Zx6 hs
 refine ⟨r,r1,r2,r3,r4,?_,?_⟩
 ·unfold JY
  rw [ZlX (by omega) hF,Option.bind_some,Zmc h,Option.bind_some,i1,Option.bind_some]
  by_cases q:SOk (after b e) s
  ·rw [i2 q,if_pos (Ye q),r1,Option.bind_some,Zho r _ r3.sm hsm,Option.bind_some]
   by_cases q2:ZjY r (Zyr (after b e) s)
   ·rw [if_pos (Ye q2),YX ⟨q,q2⟩]
   ·rw [if_neg (fun q3=>q2 ((Xa _).1 q3)),YM (fun q3=>q2 q3.2)]
    rfl
  ·rw [if_neg (fun q3=>q ((Xa _).1 q3)),YM (fun q3=>q q3.1)]
   rfl
 ·unfold VQ
  rw [hc0,Option.bind_some,if_pos rfl,Zhh b s h.blk.sm hs,Option.bind_some,if_pos (Ye hset),Zoj h,Option.bind_some,hspec,Option.bind_some]
  by_cases qE:Zd2 (after b e) (Zn.Exceptions s)
  ·rw [if_pos (Ye qE),r2,Option.bind_some,ZBX qE]
   show ((ZdT r (Zyr (after b e) s)).bind _)=_
   rw [Zhh r _ r3.sm hsm,Option.bind_some]
   by_cases q2:ZjY r (Zyr (after b e) s)
   ·have hF2:=ZCN q2.2
    have qS:SOk (after b e) s:=by
     refine ⟨⟨⟨⟨trivial,fun c hc=>?_⟩,fun x hx=>?_⟩,fun x hx=>?_⟩,qE⟩
     ·exact (hF2.clocks (Zy9 (after b e) c) (List.mem_map.2 ⟨c,hc,rfl⟩)).1
     ·exact (hF2.ins (ZpR (after b e) x) (List.mem_map.2 ⟨x,hx,rfl⟩)).1
     ·exact (hF2.outs (ZpR (after b e) x) (List.mem_map.2 ⟨x,hx,rfl⟩)).1
    rw [if_pos (Ye q2),YX ⟨qS,q2⟩]
    rfl
   ·rw [if_neg (fun q3=>q2 ((Xa _).1 q3)),YM (fun q3=>q2 q3.2)]
    rfl
  ·rw [if_neg (fun q3=>qE ((Xa _).1 q3)),YM (fun q3=>qE q3.1.2)]
   rfl
theorem Zsv {t:Ty} {f:t.den→t.den} (hf:∀ x,cnt t (f x)=cnt t x) (l:List t.den):cnt (.sl t) (l.map f)=cnt (.sl t) l:=by
 show ((l.map f).map (cnt t)).sum=(l.map (cnt t)).sum
 rw [List.map_map]
 congr 1
 exact List.map_congr_left fun x _=>hf x
theorem ZzY (af:List Int) (s:Zn):cnt YR (Zyr af s)=cnt YR s:=by
 have e1:=Zsv (t:=ZU) (f:=Zy9 af) (fun x=>rfl) (Zn.YS s)
 have e2:=Zsv (t:=Zx) (f:=ZpR af) (fun x=>rfl) (Zn.Qw s)
 have e3:=Zsv (t:=Zx) (f:=ZpR af) (fun x=>rfl) (Zn.Xu s)
 have eL:∀ l:List Int,cnt (.sl (.int .i64)) (Zwf af l)=cnt (.sl (.int .i64)) l:=fun l=>by rw [ZkK,ZkK];unfold Zwf;rw [List.length_map]
 have e4:=Zsv (t:=ZA) (f:=Zxr af) (fun x=>by
  show 1+(1+(cnt (.sl (.int .i64)) (Zwf af (Zg.From x))+(cnt (.sl (.int .i64)) (Zwf af (Zg.Through x))+(cnt (.sl (.int .i64)) (Zwf af (Zg.To x))+0))))=1+(1+(cnt (.sl (.int .i64)) (Zg.From x)+(cnt (.sl (.int .i64)) (Zg.Through x)+(cnt (.sl (.int .i64)) (Zg.To x)+0))))
  rw [eL,eL,eL]) (Zn.Exceptions s)
 show cnt (.sl ZU) ((Zn.YS s).map (Zy9 af))+(cnt (.sl Zx) ((Zn.Qw s).map (ZpR af))+(cnt (.sl Zx) ((Zn.Xu s).map (ZpR af))+(cnt (.sl ZA) ((Zn.Exceptions s).map (Zxr af))+(cnt (.sl ZW) (Zn.QJ s)+0))))=cnt (.sl ZU) (Zn.YS s)+(cnt (.sl Zx) (Zn.Qw s)+(cnt (.sl Zx) (Zn.Xu s)+(cnt (.sl ZA) (Zn.Exceptions s)+(cnt (.sl ZW) (Zn.QJ s)+0))))
 rw [e1,e2,e3,e4]
end Go.Proofs.YtoefbkmllkpkkaaGreatDoor
/-
  Plain laws: the law FnExactSetupAfter.
-/
namespace Go.Proofs.YtoefbkmllkpkkaaGreatDoor
set_option linter.unusedVariables false
set_option linter.unusedSimpArgs false
open Go Go.Sx
theorem Zpr (b:Za) (e:Zk) (s:Zn) (hb:sm YB b) (he:sm Qv e) (hs:sm YR s):∃ r,Zai b e s=some r∧VQ b e s=some r∧sm YR r.1∧cnt YR r.1≤cnt YR s:=by
 obtain ⟨c,h1,h2,h3⟩:=ZuZ b e hb he
 by_cases hc:c=0
 ·have h:=h3 hc
  by_cases hS:ZjY b s
  ·obtain ⟨r,r1,r2,r3,r4,r5,r6⟩:=ZsR h he (by rw [h2,hc]) hs hS.2
   unfold Zai
   rw [h1,Option.bind_some,if_pos hc,Zho b s hb hs,Option.bind_some,if_pos (Ye hS),r5,r6,Option.bind_some]
   by_cases q:Zom b e s r
   ·rw [YX q,YX q]
    exact ⟨_,rfl,rfl,Zx6 hs,by show cnt YR (Zyr _ _)≤_;rw [ZzY];exact Nat.le_refl _⟩
   ·rw [YM q,YM q]
    exact ⟨_,rfl,rfl,Zoo,Nat.zero_le _⟩
  ·unfold Zai VQ
   rw [h1,h2,Option.bind_some,Option.bind_some,if_pos hc,if_pos hc,Zho b s hb hs,Zhh b s hb hs,Option.bind_some,Option.bind_some,if_neg (fun q=>hS ((Xa _).1 q)),if_neg (fun q=>hS ((Xa _).1 q))]
   exact ⟨_,rfl,rfl,Zoo,Nat.zero_le _⟩
 ·unfold Zai VQ
  rw [h1,h2,Option.bind_some,Option.bind_some,if_neg hc,if_neg hc]
  exact ⟨_,rfl,rfl,Zoo,Nat.zero_le _⟩
theorem Zh0 (a0:Za) (a1:Zk) (a2:Zn) (b0:bnd YB a0) (b1:bnd Qv a1) (b2:bnd YR a2):QF a0 a1 a2=some true:=by
 unfold QF
 obtain ⟨n,e,hle,hP⟩:=ZqJ a0 1048576 (by omega) (by omega) b0
 rw [e,Option.bind_some]
 by_cases hn:n<0
 ·rw [if_pos hn]
 rw [if_neg hn]
 have hs:=hP (by omega)
 have ht:=ZpK a0 1048576 (by omega) (by omega) b0 n e (by omega)
 obtain ⟨n1,e1,hle1,hP1⟩:=ZrO a1 n (by omega) (by omega) b1
 rw [e1,Option.bind_some]
 by_cases hn1:n1<0
 ·rw [if_pos hn1]
 rw [if_neg hn1]
 have hs1:=hP1 (by omega)
 have ht1:=ZqT a1 n (by omega) (by omega) b1 n1 e1 (by omega)
 obtain ⟨n2,e2,hle2,hP2⟩:=ZqD a2 n1 (by omega) (by omega) b2
 rw [e2,Option.bind_some]
 by_cases hn2:n2<0
 ·rw [if_pos hn2]
 rw [if_neg hn2]
 have hs2:=hP2 (by omega)
 have ht2:=ZpU a2 n1 (by omega) (by omega) b2 n2 e2 (by omega)
 have hcb:=ZyJ a0 (by omega)
 have hce:=ZxC a1 hs1
 have hct:=ZBR a2 (by omega)
 have hctT:=Ztj YR a2
 obtain ⟨r,c1,c2,c5,c6⟩:=Zpr a0 a1 a2 hs hs1 hs2
 have c7:=Ztj YR r.1
 obtain ⟨m0,hm0⟩:=Zou a0 1 hs (by omega) (by omega)
 have hm1:=Zpv a1 (1+((cnt YB a0:Nat):Int)) hs1 (by omega) (by omega)
 have hm2:=Zik a2 (1+((cnt YB a0:Nat):Int)+((Zm5 Qv a1:Nat):Int)) hs2 (by omega) (by omega)
 have hm3:=Zik r.1 1 c5 (by omega) (by omega)
 have hm4:=ZoC r.1 1 c5 (by omega) (by omega)
 have hneg:¬(1+((cnt YB a0:Nat):Int)+((Zm5 Qv a1:Nat):Int)+((Zm5 YR a2:Nat):Int))<0:=by omega
 have hneg2:¬(1+((Zm5 YR r.1:Nat):Int))<0:=by omega
 simp only [Zrd _ hs,Zrt _ hs1,Zrn _ hs2,Option.bind_some,c1,c2,Zj2 _ c5,Zj2 _ hs2,Zqd _ hs,Zru _ hs1,if_true,hm0,hm1,hm2,hm3,hm4,hneg,hneg2,if_false]
end Go.Proofs.YtoefbkmllkpkkaaGreatDoor
