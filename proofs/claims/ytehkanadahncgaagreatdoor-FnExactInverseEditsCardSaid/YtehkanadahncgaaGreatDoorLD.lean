/-
  Plain laws: marks are held.
-/
import Derived.Test.YtehkanadahncgaaGreatDoorLA
import Derived.Test.YtehkanadahncgaaGreatDoorLB
import Derived.Test.YtehkanadahncgaaGreatDoorLC
namespace Go.Proofs.YtehkanadahncgaaGreatDoor
set_option linter.unusedVariables false
set_option linter.unusedSimpArgs false
open Go Go.Sx
theorem Ze0 (l:List Int):cnt (.sl (.int .i64)) l=l.length:=by
 show (l.map (cnt (.int .i64))).sum=_
 induction l with
 | nil=>rfl
 | cons x r ih=>simp only [List.map_cons,List.sum_cons,ih,List.length_cons,Zdp];omega
theorem Zta (a:Zb) (h:tot YL a≤1048576):cnt YL a≤100+20*1048576:=by
 have hc:=Zpg YL a
 have h1:wid YL≤100:=by decide
 have h2:Zd2 YL≤20:=by decide
 have:=Nat.mul_le_mul_right (tot YL a) h2
 omega
end Go.Proofs.YtehkanadahncgaaGreatDoor
/-
  Plain laws: marks, exactly; marks are held. Printed by program (heldgen.py).
-/
namespace Go.Proofs.YtehkanadahncgaaGreatDoor
open Go Go.Sx
set_option maxHeartbeats 3200000
set_option linter.unusedVariables false
set_option linter.unusedSimpArgs false
noncomputable def mt (k:Int):List UInt8:=(Xf k).getD []
theorem ZvN {k:Int} (h0:0≤k) (h1:k≤4611686018427387904):Xf k=some (mt k):=by
 obtain ⟨s,h⟩:=ZcO k h0 h1
 unfold mt;rw [h];rfl
theorem Zo3 {α:Type} {L:List α} {j:Nat} {z z':α} {A A' B B':Int} (hA:A=A') (hB:B=B') (hz:z=z'):(some (.inl (A,B,List.set L j z,())):Option ((Int×Int×List α×Unit) ⊕ (Int×List α)))=some (.inl (A',B',List.set L j z',())):=by rw [hA,hB,hz]
theorem ZoP {A A' B B':Int} (hA:A=A') (hB:B=B'):(some (.inl (A,B,())):Option ((Int×Int×Unit) ⊕ Int))=some (.inl (A',B',())):=by rw [hA,hB]
theorem ZbI (l:List (Int)) (k:Int) (hs:sm (.sl (.int .i64)) l) (h0:0≤k) (h1:k+((cnt (.sl (.int .i64)) l:Nat):Int)≤4611686018427387904):Yk l k=some (k+((cnt (.sl (.int .i64)) l:Nat):Int),mkL (mkA mt (.int .i64)) (cnt (.int .i64)) l k):=by
 unfold Yk
 have hl:l.length≤1048576:=by have:=hs.1;omega
 refine ZuG (f:=mkA mt (.int .i64)) (c:=cnt (.int .i64)) (fun j m x L hj hj' hx hxm hm0 hm1 hj2=>?_) (fun m L=>?_) hl h0 h1
 ·have hsx:=hs.2 x hxm
  have hc:((cnt (.int .i64) x:Nat):Int)=0+1:=by rfl
  simp (disch:=omega) only [Xo,if_pos hj',Zu,hx,Option.bind_some,Vy,Int.toNat_natCast,Zfj,List.length_set,List.set_set,List.getElem?_set_self]
  refine Zo3 ?_ ?_ rfl
  ·have hc:=hc;omega
  ·omega
 ·simp only [Xo,Int.lt_irrefl,if_false]
theorem Zku (l:List (Zf)) (k:Int) (hs:sm (.sl (Ym)) l) (h0:0≤k) (h1:k+((cnt (.sl (Ym)) l:Nat):Int)≤4611686018427387904):Vm l k=some (k+((cnt (.sl (Ym)) l:Nat):Int),mkL (mkA mt (Ym)) (cnt (Ym)) l k):=by
 unfold Vm
 have hl:l.length≤1048576:=by have:=hs.1;omega
 refine ZuG (f:=mkA mt (Ym)) (c:=cnt (Ym)) (fun j m x L hj hj' hx hxm hm0 hm1 hj2=>?_) (fun m L=>?_) hl h0 h1
 ·have hsx:=hs.2 x hxm
  have hc:((cnt (Ym) x:Nat):Int)=0+1+1+1+1+1+1+((cnt (.sl (.int .i64)) x.2.2.2.2.2.2.1.1:Nat):Int)+((cnt (.sl (.int .i64)) x.2.2.2.2.2.2.1.2.1:Nat):Int)+((cnt (.sl (.int .i64)) x.2.2.2.2.2.2.1.2.2.1:Nat):Int)+((cnt (.sl (.int .i64)) x.2.2.2.2.2.2.1.2.2.2.1:Nat):Int):=by simp only [Zck,Zdp,Zco,Zb7,Zes];omega
  have e5:=ZvN (k:=m+1+1+1+1+1) (by omega) (by omega)
  have e6:=ZbI x.2.2.2.2.2.2.1.1 (m+1+1+1+1+1+1) hsx.2.2.2.2.2.2.1.1 (by omega) (by omega)
  have e7:=ZbI x.2.2.2.2.2.2.1.2.1 (m+1+1+1+1+1+1+((cnt (.sl (.int .i64)) x.2.2.2.2.2.2.1.1:Nat):Int)) hsx.2.2.2.2.2.2.1.2.1 (by omega) (by omega)
  have e8:=ZbI x.2.2.2.2.2.2.1.2.2.1 (m+1+1+1+1+1+1+((cnt (.sl (.int .i64)) x.2.2.2.2.2.2.1.1:Nat):Int)+((cnt (.sl (.int .i64)) x.2.2.2.2.2.2.1.2.1:Nat):Int)) hsx.2.2.2.2.2.2.1.2.2.1 (by omega) (by omega)
  have e9:=ZbI x.2.2.2.2.2.2.1.2.2.2.1 (m+1+1+1+1+1+1+((cnt (.sl (.int .i64)) x.2.2.2.2.2.2.1.1:Nat):Int)+((cnt (.sl (.int .i64)) x.2.2.2.2.2.2.1.2.1:Nat):Int)+((cnt (.sl (.int .i64)) x.2.2.2.2.2.2.1.2.2.1:Nat):Int)) hsx.2.2.2.2.2.2.1.2.2.2.1 (by omega) (by omega)
  simp only [XF]
  rw [if_pos hj',Zu,hx,Option.bind_some]
  try rw [Vy (n:=m+1) (by omega) (by omega)]
  try rw [Vy (n:=m+1+1) (by omega) (by omega)]
  try rw [Vy (n:=m+1+1+1) (by omega) (by omega)]
  try rw [Vy (n:=m+1+1+1+1) (by omega) (by omega)]
  try rw [Vy (n:=m+1+1+1+1+1) (by omega) (by omega)]
  rw [e5,Option.bind_some]
  try dsimp only
  try rw [Vy (n:=m+1+1+1+1+1+1) (by omega) (by omega)]
  rw [e6,Option.bind_some]
  try dsimp only
  try rw [Vy (n:=m+1+1+1+1+1+1+((cnt (.sl (.int .i64)) x.2.2.2.2.2.2.1.1:Nat):Int)) (by omega) (by omega)]
  rw [e7,Option.bind_some]
  try dsimp only
  try rw [Vy (n:=m+1+1+1+1+1+1+((cnt (.sl (.int .i64)) x.2.2.2.2.2.2.1.1:Nat):Int)+((cnt (.sl (.int .i64)) x.2.2.2.2.2.2.1.2.1:Nat):Int)) (by omega) (by omega)]
  rw [e8,Option.bind_some]
  try dsimp only
  try rw [Vy (n:=m+1+1+1+1+1+1+((cnt (.sl (.int .i64)) x.2.2.2.2.2.2.1.1:Nat):Int)+((cnt (.sl (.int .i64)) x.2.2.2.2.2.2.1.2.1:Nat):Int)+((cnt (.sl (.int .i64)) x.2.2.2.2.2.2.1.2.2.1:Nat):Int)) (by omega) (by omega)]
  rw [e9,Option.bind_some]
  try dsimp only
  try rw [Vy (n:=m+1+1+1+1+1+1+((cnt (.sl (.int .i64)) x.2.2.2.2.2.2.1.1:Nat):Int)+((cnt (.sl (.int .i64)) x.2.2.2.2.2.2.1.2.1:Nat):Int)+((cnt (.sl (.int .i64)) x.2.2.2.2.2.2.1.2.2.1:Nat):Int)+((cnt (.sl (.int .i64)) x.2.2.2.2.2.2.1.2.2.2.1:Nat):Int)) (by omega) (by omega)]
  rw [Vy (n:=(j:Int)+1) (by omega) (by omega),Int.toNat_natCast]
  refine Zo3 ?_ ?_ rfl
  ·have hc:=hc;omega
  ·omega
 ·simp only [XF,Int.lt_irrefl,if_false]
theorem ZbK (l:List (Int)) (k:Int) (hs:sm (.sl (.int .i64)) l) (h0:0≤k) (h1:k+((cnt (.sl (.int .i64)) l:Nat):Int)≤4611686018427387904):QG (mkL (mkA mt (.int .i64)) (cnt (.int .i64)) l k) k=some (k+((cnt (.sl (.int .i64)) l:Nat):Int)):=by
 unfold QG
 have hl:l.length≤1048576:=by have:=hs.1;omega
 refine Zqu (f:=mkA mt (.int .i64)) (c:=cnt (.int .i64)) (step:=fun v=>Qe (mkL (mkA mt (.int .i64)) (cnt (.int .i64)) l k) v.1 v.2.1) (fun j m x hj hx hxm hm0 hm1 hj2=>?_) (fun m=>?_) hl h0 h1
 ·have hsx:=hs.2 x hxm
  have hc:((cnt (.int .i64) x:Nat):Int)=0+1:=by rfl
  have f0:mkA mt (.int .i64) x m=m:=rfl
  simp (disch:=omega) only [Qe,if_pos hj,Zu,hx,Option.bind_some,Vy,eq_self,if_true,if_false,beq_self_eq_true,f0]
  refine ZoP ?_ ?_
  ·have hc:=hc;omega
  ·omega
 ·simp only [Qe,Int.lt_irrefl,if_false]
theorem Zkc (l:List (Zf)) (k:Int) (hs:sm (.sl (Ym)) l) (h0:0≤k) (h1:k+((cnt (.sl (Ym)) l:Nat):Int)≤4611686018427387904):ZbA (mkL (mkA mt (Ym)) (cnt (Ym)) l k) k=some (k+((cnt (.sl (Ym)) l:Nat):Int)):=by
 unfold ZbA
 have hl:l.length≤1048576:=by have:=hs.1;omega
 refine Zqu (f:=mkA mt (Ym)) (c:=cnt (Ym)) (step:=fun v=>QO (mkL (mkA mt (Ym)) (cnt (Ym)) l k) v.1 v.2.1) (fun j m x hj hx hxm hm0 hm1 hj2=>?_) (fun m=>?_) hl h0 h1
 ·have hsx:=hs.2 x hxm
  have hc:((cnt (Ym) x:Nat):Int)=0+1+1+1+1+1+1+((cnt (.sl (.int .i64)) x.2.2.2.2.2.2.1.1:Nat):Int)+((cnt (.sl (.int .i64)) x.2.2.2.2.2.2.1.2.1:Nat):Int)+((cnt (.sl (.int .i64)) x.2.2.2.2.2.2.1.2.2.1:Nat):Int)+((cnt (.sl (.int .i64)) x.2.2.2.2.2.2.1.2.2.2.1:Nat):Int):=by simp only [Zck,Zdp,Zco,Zb7,Zes];omega
  have f0:Zf.Kind (mkA mt (Ym) x m)=m:=rfl
  have f1:Zf.Place (mkA mt (Ym) x m)=m+1:=rfl
  have f2:Zf.Cell (mkA mt (Ym) x m)=m+1+1:=rfl
  have f3:Zf.Net (mkA mt (Ym) x m)=m+1+1+1:=rfl
  have f4:Zf.Node (mkA mt (Ym) x m)=m+1+1+1+1:=rfl
  have f5:Zf.Name (mkA mt (Ym) x m)=mt (m+1+1+1+1+1):=rfl
  have e5:=ZvN (k:=m+1+1+1+1+1) (by omega) (by omega)
  have f6:Zn.Parent (Zf.Zdl (mkA mt (Ym) x m))=mkL (mkA mt (.int .i64)) (cnt (.int .i64)) x.2.2.2.2.2.2.1.1 (m+1+1+1+1+1+1):=rfl
  have e6:=ZbK x.2.2.2.2.2.2.1.1 (m+1+1+1+1+1+1) hsx.2.2.2.2.2.2.1.1 (by omega) (by omega)
  have n6:¬(m+1+1+1+1+1+1+((cnt (.sl (.int .i64)) x.2.2.2.2.2.2.1.1:Nat):Int))<0:=by omega
  have f7:Zn.Res (Zf.Zdl (mkA mt (Ym) x m))=mkL (mkA mt (.int .i64)) (cnt (.int .i64)) x.2.2.2.2.2.2.1.2.1 (m+1+1+1+1+1+1+((cnt (.sl (.int .i64)) x.2.2.2.2.2.2.1.1:Nat):Int)):=rfl
  have e7:=ZbK x.2.2.2.2.2.2.1.2.1 (m+1+1+1+1+1+1+((cnt (.sl (.int .i64)) x.2.2.2.2.2.2.1.1:Nat):Int)) hsx.2.2.2.2.2.2.1.2.1 (by omega) (by omega)
  have n7:¬(m+1+1+1+1+1+1+((cnt (.sl (.int .i64)) x.2.2.2.2.2.2.1.1:Nat):Int)+((cnt (.sl (.int .i64)) x.2.2.2.2.2.2.1.2.1:Nat):Int))<0:=by omega
  have f8:Zn.Cap (Zf.Zdl (mkA mt (Ym) x m))=mkL (mkA mt (.int .i64)) (cnt (.int .i64)) x.2.2.2.2.2.2.1.2.2.1 (m+1+1+1+1+1+1+((cnt (.sl (.int .i64)) x.2.2.2.2.2.2.1.1:Nat):Int)+((cnt (.sl (.int .i64)) x.2.2.2.2.2.2.1.2.1:Nat):Int)):=rfl
  have e8:=ZbK x.2.2.2.2.2.2.1.2.2.1 (m+1+1+1+1+1+1+((cnt (.sl (.int .i64)) x.2.2.2.2.2.2.1.1:Nat):Int)+((cnt (.sl (.int .i64)) x.2.2.2.2.2.2.1.2.1:Nat):Int)) hsx.2.2.2.2.2.2.1.2.2.1 (by omega) (by omega)
  have n8:¬(m+1+1+1+1+1+1+((cnt (.sl (.int .i64)) x.2.2.2.2.2.2.1.1:Nat):Int)+((cnt (.sl (.int .i64)) x.2.2.2.2.2.2.1.2.1:Nat):Int)+((cnt (.sl (.int .i64)) x.2.2.2.2.2.2.1.2.2.1:Nat):Int))<0:=by omega
  have f9:Zn.Zfx (Zf.Zdl (mkA mt (Ym) x m))=mkL (mkA mt (.int .i64)) (cnt (.int .i64)) x.2.2.2.2.2.2.1.2.2.2.1 (m+1+1+1+1+1+1+((cnt (.sl (.int .i64)) x.2.2.2.2.2.2.1.1:Nat):Int)+((cnt (.sl (.int .i64)) x.2.2.2.2.2.2.1.2.1:Nat):Int)+((cnt (.sl (.int .i64)) x.2.2.2.2.2.2.1.2.2.1:Nat):Int)):=rfl
  have e9:=ZbK x.2.2.2.2.2.2.1.2.2.2.1 (m+1+1+1+1+1+1+((cnt (.sl (.int .i64)) x.2.2.2.2.2.2.1.1:Nat):Int)+((cnt (.sl (.int .i64)) x.2.2.2.2.2.2.1.2.1:Nat):Int)+((cnt (.sl (.int .i64)) x.2.2.2.2.2.2.1.2.2.1:Nat):Int)) hsx.2.2.2.2.2.2.1.2.2.2.1 (by omega) (by omega)
  have n9:¬(m+1+1+1+1+1+1+((cnt (.sl (.int .i64)) x.2.2.2.2.2.2.1.1:Nat):Int)+((cnt (.sl (.int .i64)) x.2.2.2.2.2.2.1.2.1:Nat):Int)+((cnt (.sl (.int .i64)) x.2.2.2.2.2.2.1.2.2.1:Nat):Int)+((cnt (.sl (.int .i64)) x.2.2.2.2.2.2.1.2.2.2.1:Nat):Int))<0:=by omega
  simp only [QO]
  rw [if_pos hj,Zu,hx,Option.bind_some]
  rw [if_pos f0]
  try rw [Vy (n:=m+1) (by omega) (by omega)]
  rw [if_pos f1]
  try rw [Vy (n:=m+1+1) (by omega) (by omega)]
  rw [if_pos f2]
  try rw [Vy (n:=m+1+1+1) (by omega) (by omega)]
  rw [if_pos f3]
  try rw [Vy (n:=m+1+1+1+1) (by omega) (by omega)]
  rw [if_pos f4]
  try rw [Vy (n:=m+1+1+1+1+1) (by omega) (by omega)]
  rw [e5,Option.bind_some,if_pos f5]
  try rw [Vy (n:=m+1+1+1+1+1+1) (by omega) (by omega)]
  rw [f6,e6,Option.bind_some,if_neg n6]
  try rw [Vy (n:=m+1+1+1+1+1+1+((cnt (.sl (.int .i64)) x.2.2.2.2.2.2.1.1:Nat):Int)) (by omega) (by omega)]
  rw [f7,e7,Option.bind_some,if_neg n7]
  try rw [Vy (n:=m+1+1+1+1+1+1+((cnt (.sl (.int .i64)) x.2.2.2.2.2.2.1.1:Nat):Int)+((cnt (.sl (.int .i64)) x.2.2.2.2.2.2.1.2.1:Nat):Int)) (by omega) (by omega)]
  rw [f8,e8,Option.bind_some,if_neg n8]
  try rw [Vy (n:=m+1+1+1+1+1+1+((cnt (.sl (.int .i64)) x.2.2.2.2.2.2.1.1:Nat):Int)+((cnt (.sl (.int .i64)) x.2.2.2.2.2.2.1.2.1:Nat):Int)+((cnt (.sl (.int .i64)) x.2.2.2.2.2.2.1.2.2.1:Nat):Int)) (by omega) (by omega)]
  rw [f9,e9,Option.bind_some,if_neg n9]
  try rw [Vy (n:=m+1+1+1+1+1+1+((cnt (.sl (.int .i64)) x.2.2.2.2.2.2.1.1:Nat):Int)+((cnt (.sl (.int .i64)) x.2.2.2.2.2.2.1.2.1:Nat):Int)+((cnt (.sl (.int .i64)) x.2.2.2.2.2.2.1.2.2.1:Nat):Int)+((cnt (.sl (.int .i64)) x.2.2.2.2.2.2.1.2.2.2.1:Nat):Int)) (by omega) (by omega)]
  rw [Vy (n:=(j:Int)+1) (by omega) (by omega)]
  refine ZoP ?_ ?_
  ·have hc:=hc;omega
  ·omega
 ·simp only [QO,Int.lt_irrefl,if_false]
end Go.Proofs.YtehkanadahncgaaGreatDoor
/-
  Plain laws: edits: what an edit may mention, and when it is possible.
-/
namespace Go.Proofs.YtehkanadahncgaaGreatDoor
set_option linter.unusedVariables false
set_option linter.unusedSimpArgs false
open Go Go.Sx
theorem ZnG {e:Zf} (h:sm Ym e):sm .str (Zf.Name e)∧sm XR (Zf.Zdl e):=⟨h.2.2.2.2.2.1,h.2.2.2.2.2.2.1⟩
def Zit (w:Zn):Prop:=Zn.Parent w=[]∧Zn.Res w=[]∧Zn.Cap w=[]∧Zn.Zfx w=[]
theorem Zsl (w:Zn) (hw:sm XR w):(some (Decidable.decide (IntKind.i64.wrap (IntKind.i64.wrap (IntKind.i64.wrap ((↑(List.length (Zn.Parent w)):Int)+(↑(List.length (Zn.Res w)):Int))+(↑(List.length (Zn.Cap w)):Int))+(↑(List.length (Zn.Zfx w)):Int))=(0:Int))):Option Bool)=some (tr (Zit w)):=by
 obtain ⟨a1,a2,a3,a4⟩:=Zir hw
 have s1:=Zm a1
 have s2:=Zm a2
 have s3:=Zm a3
 have s4:=Zm a4
 rw [Vy (n:=((Zn.Parent w).length:Int)+((Zn.Res w).length:Int)) (by omega) (by omega),Vy (n:=((Zn.Parent w).length:Int)+((Zn.Res w).length:Int)+((Zn.Cap w).length:Int)) (by omega) (by omega),Vy (by omega) (by omega)]
 refine ZdR ?_
 rw [decide_eq_true_eq]
 unfold Zit
 rw [←List.length_eq_zero_iff,←List.length_eq_zero_iff,←List.length_eq_zero_iff,←List.length_eq_zero_iff]
 omega
def Blank (e:Zf):Prop :=
 (Zf.Kind e=1∧Zf.Net e=0∧Zf.Node e=0∧Zf.Name e=[]∧Zit (Zf.Zdl e))∨
 (Zf.Kind e=2∧Zf.Net e=0∧Zf.Node e=0∧Zit (Zf.Zdl e))∨
 (Zf.Kind e=3∧Zf.Place e=0∧Zf.Cell e=0∧Zf.Net e=0∧Zf.Node e=0∧Zf.Name e=[]∧Zit (Zf.Zdl e))∨
 (Zf.Kind e=4∧Zf.Cell e=0∧Zf.Name e=[]∧Zit (Zf.Zdl e))∨
 (Zf.Kind e=5∧Zf.Place e=0∧Zf.Cell e=0∧Zf.Node e=0∧Zf.Name e=[])
theorem Zln (e:Zf) (he:sm Ym e):Zb5 e=some (tr (Blank e)):=by
 have hn:=Zsl (Zf.Zdl e) (ZnG he).2
 unfold Zb5
 rw [hn]
 by_cases k1:Zf.Kind e=1
 ·rw [if_pos k1]
  refine JZ (YG fun _=>YG fun _=>YG fun _=>rfl) ?_
  unfold Blank;grind
 rw [if_neg k1]
 by_cases k2:Zf.Kind e=2
 ·rw [if_pos k2]
  refine JZ (YG fun _=>YG fun _=>rfl) ?_
  unfold Blank;grind
 rw [if_neg k2]
 by_cases k3:Zf.Kind e=3
 ·rw [if_pos k3]
  refine JZ (YG fun _=>YG fun _=>YG fun _=>YG fun _=>YG fun _=>rfl) ?_
  unfold Blank;grind
 rw [if_neg k3]
 by_cases k4:Zf.Kind e=4
 ·rw [if_pos k4]
  refine JZ (YG fun _=>YG fun _=>rfl) ?_
  unfold Blank;grind
 rw [if_neg k4]
 by_cases k5:Zf.Kind e=5
 ·rw [if_pos k5]
  refine JZ (YG fun _=>YG fun _=>YG fun _=>ZdR decide_eq_true_iff) ?_
  unfold Blank;grind
 ·rw [if_neg k5]
  refine Zkk ?_
  unfold Blank;grind
theorem Zcn (a b:List Int) (ha:a.length≤1048576):Yy a b=some (tr (a=b)):=by
 unfold Yy
 by_cases hl:(a.length:Int)=(b.length:Int)
 ·rw [if_pos hl,Zaz (l:=a) (show Len a by unfold Len;omega) (fun k x=>b[k]?=some x) (bad:=false) (good:=true)
   (fun k x hx hk _=>by
    have hy:b[k]?=some b[k]:=List.getElem?_eq_getElem (by omega)
    simp only [Y1,show (k:Int)<(a.length:Int) from by omega,if_true,Zu,hx,hy,Option.bind_some,Option.some.injEq]
    constructor
    ·intro hh;rw [if_pos hh.symm]
    ·intro hh;rw [if_neg (fun q=>hh q.symm)])
   (fun _=>by simp only [Y1,Int.lt_irrefl,if_false]),ZmB]
  congr 1
  refine V7 ⟨fun h=>?_,fun h=>by subst h;exact fun k x hx=>hx⟩
  apply List.ext_getElem?
  intro k
  by_cases hk:k<a.length
  ·rw [h k a[k] (List.getElem?_eq_getElem hk),List.getElem?_eq_getElem hk]
  ·rw [List.getElem?_eq_none (by omega),List.getElem?_eq_none (by omega)]
 ·rw [if_neg hl,Yn (fun h=>hl (by rw [h]))]
def Zql (a b:Zn):Prop:=Zn.Parent a=Zn.Parent b∧Zn.Res a=Zn.Res b∧Zn.Cap a=Zn.Cap b∧Zn.Zfx a=Zn.Zfx b
theorem Zlp (a b:Zn) (ha:sm XR a):Zb4 a b=some (tr (Zql a b)):=by
 obtain ⟨a1,a2,a3,a4⟩:=Zir ha
 have s1:=Zm a1
 have s2:=Zm a2
 have s3:=Zm a3
 have s4:=Zm a4
 unfold Zb4
 exact Xj (Zcn _ _ s1) fun _=>Xj (Zcn _ _ s2) fun _=>Xj (Zcn _ _ s3) fun _=>ZdG (Zcn _ _ s4)
theorem Zbg (a b:Zf) (ha:sm Ym a):Za3 a b=some (tr (Zf.Kind a=Zf.Kind b∧Zf.Place a=Zf.Place b∧Zf.Cell a=Zf.Cell b∧Zf.Net a=Zf.Net b∧Zf.Node a=Zf.Node b∧Zf.Name a=Zf.Name b∧Zql (Zf.Zdl a) (Zf.Zdl b))):=by
 unfold Za3
 exact YG fun _=>YG fun _=>YG fun _=>YG fun _=>YG fun _=>YG fun _=>ZdG (Zlp _ _ (ZnG ha).2)
theorem Ztp (e:Zf) (he:sm Ym e):(Yp (Zf.Kind e) 1 5=some (tr (1≤Zf.Kind e∧Zf.Kind e≤5)))∧∃ o,Zb3 e=some o∧Za3 e o=some (tr (Zf.Kind e<1∨5<Zf.Kind e∨Blank e))∨(¬(1≤Zf.Kind e∧Zf.Kind e≤5)):=by
 refine ⟨Zbf _ _ _,?_⟩
 unfold Zb3
 by_cases k1:Zf.Kind e=1
 ·rw [if_pos k1]
  refine ⟨_,.inl ⟨rfl,?_⟩⟩
  refine JZ (Zbg e _ he) ?_
  rw [show Zql (Zf.Zdl e) (Zf.Zdl (Zf.Kind e,Zf.Place e,Zf.Cell e,(0:Int),(0:Int),([]:List UInt8),(([]:List Int),([]:List Int),([]:List Int),([]:List Int),()),()))↔Zit (Zf.Zdl e) from Iff.rfl]
  unfold Blank
  simp only [k1]
  constructor
  ·rintro ⟨_,_,_,a,b,c,d⟩;exact .inr (.inr (.inl ⟨trivial,a,b,c,d⟩))
  ·intro h;grind
 rw [if_neg k1]
 by_cases k2:Zf.Kind e=2
 ·rw [if_pos k2]
  refine ⟨_,.inl ⟨rfl,?_⟩⟩
  refine JZ (Zbg e _ he) ?_
  rw [show Zql (Zf.Zdl e) (Zf.Zdl (Zf.Kind e,Zf.Place e,Zf.Cell e,(0:Int),(0:Int),Zf.Name e,(([]:List Int),([]:List Int),([]:List Int),([]:List Int),()),()))↔Zit (Zf.Zdl e) from Iff.rfl]
  unfold Blank
  simp only [k2]
  constructor
  ·rintro ⟨_,_,_,a,b,c,d⟩;exact .inr (.inr (.inr (.inl ⟨trivial,a,b,d⟩)))
  ·intro h;grind
 rw [if_neg k2]
 by_cases k4:Zf.Kind e=4
 ·rw [if_pos k4]
  refine ⟨_,.inl ⟨rfl,?_⟩⟩
  refine JZ (Zbg e _ he) ?_
  rw [show Zql (Zf.Zdl e) (Zf.Zdl (Zf.Kind e,Zf.Place e,(0:Int),Zf.Net e,Zf.Node e,([]:List UInt8),(([]:List Int),([]:List Int),([]:List Int),([]:List Int),()),()))↔Zit (Zf.Zdl e) from Iff.rfl]
  unfold Blank
  simp only [k4]
  constructor
  ·rintro ⟨_,_,a,_,_,c,d⟩;exact .inr (.inr (.inr (.inr (.inr (.inl ⟨trivial,a,c,d⟩)))))
  ·intro h;grind
 rw [if_neg k4]
 by_cases k5:Zf.Kind e=5
 ·rw [if_pos k5]
  refine ⟨_,.inl ⟨rfl,?_⟩⟩
  refine JZ (Zbg e _ he) ?_
  rw [show Zql (Zf.Zdl e) (Zf.Zdl (Zf.Kind e,(0:Int),(0:Int),Zf.Net e,(0:Int),([]:List UInt8),e.snd.snd.snd.snd.snd.snd))↔True from ⟨fun _=>trivial,fun _=>⟨rfl,rfl,rfl,rfl⟩⟩]
  unfold Blank
  simp only [k5]
  constructor
  ·rintro ⟨_,a,b,_,c,d,_⟩;exact .inr (.inr (.inr (.inr (.inr (.inr ⟨trivial,a,b,c,d⟩)))))
  ·intro h;grind
 rw [if_neg k5]
 by_cases k3:Zf.Kind e=3
 ·refine ⟨_,.inl ⟨rfl,?_⟩⟩
  refine JZ (Zbg e _ he) ?_
  rw [show Zql (Zf.Zdl e) (Zf.Zdl (Zf.Kind e,(0:Int),(0:Int),(0:Int),(0:Int),([]:List UInt8),(([]:List Int),([]:List Int),([]:List Int),([]:List Int),()),()))↔Zit (Zf.Zdl e) from Iff.rfl]
  unfold Blank
  simp only [k3]
  constructor
  ·rintro ⟨_,a,b,c,d,f,g⟩;exact .inr (.inr (.inr (.inr (.inl ⟨trivial,a,b,c,d,f,g⟩))))
  ·intro h;grind
 ·exact ⟨e,.inr (by omega)⟩
end Go.Proofs.YtehkanadahncgaaGreatDoor
/-
  Plain laws: edits: range, possibility, code.
-/
namespace Go.Proofs.YtehkanadahncgaaGreatDoor
set_option linter.unusedVariables false
set_option linter.unusedSimpArgs false
open Go Go.Sx
def ZbQ (b:Zb) (e:Zf):Prop :=
 ((Zf.Kind e=1∨Zf.Kind e=2)→(0≤Zf.Place e∧Zf.Place e≤((places (Zb.Design b)).length:Int)-1)∧(0≤Zf.Cell e∧Zf.Cell e≤((Zk.Cells (Zb.Library b)).length:Int)-1))∧
 (Zf.Kind e=4→(0≤Zf.Place e∧Zf.Place e≤((places (Zb.Design b)).length:Int)-1)∧ZbF (Zb.Design b) (Zf.Net e)∧∃ w,(Zb.Zw b)[(Zf.Net e).toNat]?=some w∧(0≤Zf.Node e∧Zf.Node e≤((Zn.Parent w).length:Int)-1))∧
 (Zf.Kind e=5→ZbF (Zb.Design b) (Zf.Net e))
theorem ZiV {b:Zb} (h:ZaQ b) {n:Int} (hn:ZbF (Zb.Design b) n):∃ w,(Zb.Zw b)[n.toNat]?=some w∧atI (Zb.Zw b) n=some w∧Zb1 w ((sinks (Zb.Design b) n).length:Int):=by
 have hwn:=h.ok.2.1
 have hlt:n.toNat<(Zb.Zw b).length:=by have:=hn.1;have:=hn.2;omega
 have hw:=List.getElem?_eq_getElem hlt
 refine ⟨_,hw,QY hn.1 hw,?_⟩
 have this:Zb1 _ ((sinks (Zb.Design b) ((n.toNat:Nat):Int)).length:Int):=h.ok.2.2 n.toNat _ hw
 rwa [show ((n.toNat:Nat):Int)=n by have:=hn.1;omega] at this
theorem ZlT {b:Zb} (h:ZaQ b):(Zk.Cells (Zb.Library b)).length≤1048576:=Zm (ZmR (ZaJ h.sm).1)
theorem Zs5 {b:Zb} (h:ZaQ b) (e:Zf) {w:Zn} (hw:(Zb.Zw b)[(Zf.Net e).toNat]?=some w):IntKind.i64.wrap (((Zn.Parent w).length:Int)-1)=((Zn.Parent w).length:Int)-1:=by
 have:=h.ok.2.2 _ _ hw
 have h1:=this.1
 rw [Vy (by omega) (by omega)]
theorem Zlq {b:Zb} (h:ZaQ b) (e:Zf) (he:sm Ym e):Zct b e=some (tr (ZbQ b e)):=by
 have hD:=h.ok.1
 have hf:=hD.few
 have hpl:=Qn hf
 have hc:=ZlT h
 have hwn:=h.ok.2.1
 have h30:=hD.2.1.2.1
 have e1:IntKind.i64.wrap (((places (Zb.Design b)).length:Int)-1)=((places (Zb.Design b)).length:Int)-1:=Vy (by omega) (by omega)
 have e2:IntKind.i64.wrap (((Zk.Cells (Zb.Library b)).length:Int)-1)=((Zk.Cells (Zb.Library b)).length:Int)-1:=Vy (by omega) (by omega)
 have e3:IntKind.i64.wrap (((Zb.Zw b).length:Int)-1)=((Za.ZM (Zb.Design b)).length:Int)-1:=by rw [Vy (by omega) (by omega)];omega
 have net:(Yd (Zf.Net e) 0 (((Za.ZM (Zb.Design b)).length:Int)-1))=some (tr (ZbF (Zb.Design b) (Zf.Net e))):=Za0 _ _ _
 unfold Zct
 rw [Qg _ hf,Option.bind_some,e1,e2,e3]
 have pc:((Yd (Zf.Place e) 0 (((places (Zb.Design b)).length:Int)-1)).bind fun x=>if x=true then (Yd (Zf.Cell e) 0 (((Zk.Cells (Zb.Library b)).length:Int)-1)).bind fun y=>some y else some false) =
   some (tr ((0≤Zf.Place e∧Zf.Place e≤((places (Zb.Design b)).length:Int)-1)∧(0≤Zf.Cell e∧Zf.Cell e≤((Zk.Cells (Zb.Library b)).length:Int)-1))) :=
  Xj (Za0 _ _ _) fun _=>ZdG (Za0 _ _ _)
 have mv:((Yd (Zf.Place e) 0 (((places (Zb.Design b)).length:Int)-1)).bind fun x=>if x=true then (Yd (Zf.Net e) 0 (((Za.ZM (Zb.Design b)).length:Int)-1)).bind fun y=>if y=true then
    (atI (Zb.Zw b) (Zf.Net e)).bind fun w=>(Yd (Zf.Node e) 0 (IntKind.i64.wrap (((Zn.Parent w).length:Int)-1))).bind fun z=>some z else some false else some false) =
   some (tr ((0≤Zf.Place e∧Zf.Place e≤((places (Zb.Design b)).length:Int)-1)∧ZbF (Zb.Design b) (Zf.Net e)∧∃ w,(Zb.Zw b)[(Zf.Net e).toNat]?=some w∧(0≤Zf.Node e∧Zf.Node e≤((Zn.Parent w).length:Int)-1))):=by
  refine Xj (Za0 _ _ _) fun _=>Xj net fun hn=>?_
  obtain ⟨w,hw,ha,_⟩:=ZiV h hn
  rw [ha,Option.bind_some,Zs5 h e hw]
  refine JZ (ZdG (Za0 _ _ _)) ⟨fun q=>⟨w,hw,q⟩,fun ⟨w',hw',q⟩=>?_⟩
  rw [hw] at hw'
  injection hw' with hw'
  subst hw';exact q
 by_cases k1:Zf.Kind e=1
 ·rw [if_pos k1,if_pos k1]
  refine JZ pc ?_
  unfold ZbQ;grind
 rw [if_neg k1]
 by_cases k2:Zf.Kind e=2
 ·rw [if_pos k2]
  refine JZ pc ?_
  unfold ZbQ;grind
 rw [if_neg k2]
 by_cases k4:Zf.Kind e=4
 ·rw [if_pos k4]
  refine JZ mv ?_
  unfold ZbQ;grind
 rw [if_neg k4]
 by_cases k5:Zf.Kind e=5
 ·rw [if_pos k5]
  refine JZ (ZdG net) ?_
  unfold ZbQ;grind
 ·rw [if_neg k5]
  refine (ZdR (P:=ZbQ b e) ⟨fun _=>?_,fun _=>rfl⟩)
  unfold ZbQ;grind
theorem Zkd {b:Zb} (h:ZaQ b) (e:Zf) (he:sm Ym e):Vd e b=some (tr (Blank e∧ZbQ b e)):=by
 have hD:=h.ok.1
 have hf:=hD.few
 have hpl:=Qn hf
 have hc:=ZlT h
 have hsd:=(ZaJ h.sm).2.1
 have e1:IntKind.i64.wrap (((places (Zb.Design b)).length:Int)-1)=((places (Zb.Design b)).length:Int)-1:=Vy (by omega) (by omega)
 have e2:IntKind.i64.wrap (((Zk.Cells (Zb.Library b)).length:Int)-1)=((Zk.Cells (Zb.Library b)).length:Int)-1:=Vy (by omega) (by omega)
 obtain ⟨hw,o,ho⟩:=Ztp e he
 unfold Vd
 rw [hw,Option.bind_some]
 by_cases hk:1≤Zf.Kind e∧Zf.Kind e≤5
 ·rw [if_pos (YQ hk)]
  rcases ho with ⟨ho1,ho2⟩ | ho
  ·rw [ho1,Option.bind_some,ho2,Option.bind_some]
   by_cases hB:Blank e
   ·rw [if_pos (YQ (.inr (.inr hB))),Yl _ hf,Option.bind_some,show Q5 (places (Zb.Design b))=some ((places (Zb.Design b)).length:Int) from rfl,Option.bind_some,e1,Zbf,Option.bind_some,
     show Y3 (Zk.Cells (Zb.Library b))=some ((Zk.Cells (Zb.Library b)).length:Int) from rfl]
    simp only [Option.bind_some,e2]
    have net:=Zcx (Zb.Design b) (Zf.Net e) hsd
    have pc:(if tr (0≤Zf.Place e∧Zf.Place e≤((places (Zb.Design b)).length:Int)-1)=true then (Yp (Zf.Cell e) 0 (((Zk.Cells (Zb.Library b)).length:Int)-1)).bind fun y=>some y else some false) =
      some (tr ((0≤Zf.Place e∧Zf.Place e≤((places (Zb.Design b)).length:Int)-1)∧(0≤Zf.Cell e∧Zf.Cell e≤((Zk.Cells (Zb.Library b)).length:Int)-1))) :=
     Zwk (ZdG (Zbf _ _ _))
    by_cases k1:Zf.Kind e=1
    ·rw [if_pos k1,if_pos k1]
     refine JZ pc ?_
     unfold ZbQ;grind
    rw [if_neg k1]
    by_cases k2:Zf.Kind e=2
    ·rw [if_pos k2]
     refine JZ pc ?_
     unfold ZbQ;grind
    rw [if_neg k2]
    by_cases k4:Zf.Kind e=4
    ·rw [if_pos k4]
     have mv:(if tr (0≤Zf.Place e∧Zf.Place e≤((places (Zb.Design b)).length:Int)-1)=true then (YD (Zb.Design b) (Zf.Net e)).bind fun y=>if y=true then
        (atI (Zb.Zw b) (Zf.Net e)).bind fun w=>(YK (Zn.Parent w)).bind fun n=>(Yp (Zf.Node e) 0 (IntKind.i64.wrap (n-1))).bind fun z=>some z else some false else some false) =
       some (tr ((0≤Zf.Place e∧Zf.Place e≤((places (Zb.Design b)).length:Int)-1)∧ZbF (Zb.Design b) (Zf.Net e)∧∃ w,(Zb.Zw b)[(Zf.Net e).toNat]?=some w∧(0≤Zf.Node e∧Zf.Node e≤((Zn.Parent w).length:Int)-1))):=by
      by_cases hp:0≤Zf.Place e∧Zf.Place e≤((places (Zb.Design b)).length:Int)-1
      ·rw [if_pos (YQ hp)]
       refine JZ (Xj net fun hn=>?_) (P:=ZbF (Zb.Design b) (Zf.Net e)∧∃ w,(Zb.Zw b)[(Zf.Net e).toNat]?=some w∧(0≤Zf.Node e∧Zf.Node e≤((Zn.Parent w).length:Int)-1)) ⟨fun q=>⟨hp,q⟩,fun q=>q.2⟩
       obtain ⟨w,hw,ha,_⟩:=ZiV h hn
       rw [ha,Option.bind_some,Zay,Option.bind_some,Zs5 h e hw]
       refine JZ (ZdG (Zbf _ _ _)) ⟨fun q=>⟨w,hw,q⟩,fun ⟨w',hw',q⟩=>?_⟩
       rw [hw] at hw'
       injection hw' with hw'
       subst hw';exact q
      ·rw [if_neg (fun q=>hp ((Vi _).1 q)),Yn (fun q=>hp q.1)]
     refine JZ mv ?_
     unfold ZbQ;grind
    rw [if_neg k4]
    by_cases k5:Zf.Kind e=5
    ·rw [if_pos k5]
     refine JZ (ZdG net) ?_
     unfold ZbQ;grind
    ·rw [if_neg k5]
     refine (ZdR (P:=Blank e∧ZbQ b e) ⟨fun _=>⟨hB,?_⟩,fun _=>rfl⟩)
     unfold ZbQ;grind
   ·rw [if_neg (fun q=>by rcases (Vi _).1 q with q | q | q<;>first | omega | exact hB q),Yn (fun q=>hB q.1)]
  ·exact absurd hk ho
 ·rw [if_neg (fun q=>hk ((Vi _).1 q)),Yn (fun q=>?_)]
  have:=q.1
  unfold Blank at this
  omega
theorem Zus (a b:Zh) (ha:sm XY a):Zcc a b=Vo a b∧∃ r,Vo a b=some r:=by
 have s1:(Zh.YC a).length≤1048576:=by have:=(ZsN ha).pins.1;omega
 unfold Zcc Vo ZE
 by_cases k:Zh.Kind a=Zh.Kind b
 ·rw [if_pos k,if_pos k]
  by_cases hl:((Zh.YC a).length:Int)=((Zh.YC b).length:Int)
  ·rw [if_pos hl,if_pos hl]
   rw [Zaz (l:=Zh.YC a) (show Len _ by unfold Len;omega) (fun k x=>∀ y,(Zh.YC b)[k]?=some y→(YB.Clock x == YB.Clock y)=true) (bad:=false) (good:=true)
    (step:=fun v=>Zq (Zh.YC a) (Zh.YC b) v.1)
    (fun k x hx hk _=>by
     have hy:(Zh.YC b)[k]?=some (Zh.YC b)[k]:=List.getElem?_eq_getElem (by omega)
     simp only [Zq,Zbi,show (k:Int)<((Zh.YC a).length:Int) from by omega,if_true,Zu,hx,hy,Option.bind_some,Option.some.injEq,forall_eq']
     constructor
     ·intro hh;rw [if_pos hh]
     ·intro hh;rw [if_neg hh])
    (fun _=>by simp only [Zq,Int.lt_irrefl,if_false]),
    Zaz (l:=Zh.YC a) (show Len _ by unfold Len;omega) (fun k x=>∀ y,(Zh.YC b)[k]?=some y→(YB.Clock x == YB.Clock y)=true) (bad:=false) (good:=true)
    (step:=fun v=>Q8 a b v.1)
    (fun k x hx hk _=>by
     have hy:(Zh.YC b)[k]?=some (Zh.YC b)[k]:=List.getElem?_eq_getElem (by omega)
     simp only [Q8,show (k:Int)<((Zh.YC a).length:Int) from by omega,if_true,Zu,hx,hy,Option.bind_some,Option.some.injEq,forall_eq']
     constructor
     ·intro hh;rw [if_pos hh]
     ·intro hh;rw [if_neg hh])
    (fun _=>by simp only [Q8,Int.lt_irrefl,if_false])]
   exact ⟨rfl,_,rfl⟩
  ·rw [if_neg hl,if_neg hl]
   exact ⟨rfl,_,rfl⟩
 ·rw [if_neg k,if_neg k]
  exact ⟨rfl,_,rfl⟩
theorem ZkW (d:Za) (s:List UInt8) (hd:sm Yr d):VB d s=some (Zbe (fun x=>decide (Zd.Name x=s)) (Za.Instances d))∧VA d s=some (Zbe (fun x=>decide (Zd.Name x=s)) (Za.Instances d)):=by
 have hl:=XD (ZbJ hd).1
 constructor
 ·unfold VB
  rw [XA hl (fun x=>decide (Zd.Name x=s)) (fun x _=>rfl),Option.bind_some]
 ·unfold VA
  refine ZaF hl (out:=fun i=>i) (fun k x hx=>?_) ?_
  ·have hk:=(List.getElem?_eq_some_iff.1 hx).1
   simp only [Qj,show (k:Int)<((Za.Instances d).length:Int) from by omega,if_true,Zu,hx,Option.bind_some,decide_eq_true_eq]
   split<;>rfl
  ·simp only [Qj,Int.lt_irrefl,if_false]
theorem Zmt (d:Za) (s:List UInt8) (hd:sm Yr d):QJ d s=some (Zbe (fun x=>decide (s=x)) (Za.ZM d))∧Zcr d s=some (Zbe (fun x=>decide (s=x)) (Za.ZM d)):=by
 have hl:=XD (ZbJ hd).2.2
 constructor
 ·unfold QJ
  rw [ZeI hl,Option.bind_some]
 ·unfold Zcr Zdn
  rw [ZaF hl (p:=fun x=>decide (s=x)) (out:=fun i=>i) (fun k x hx=>by
   have hk:=(List.getElem?_eq_some_iff.1 hx).1
   simp only [JM,show (k:Int)<((Za.ZM d).length:Int) from by omega,if_true,Zu,hx,Option.bind_some,decide_eq_true_eq]
   by_cases hq:s=x
   ·rw [if_pos hq,if_pos hq.symm]
   ·rw [if_neg hq,if_neg (fun q=>hq q.symm)]) (by simp only [JM,Int.lt_irrefl,if_false]),Option.bind_some]
end Go.Proofs.YtehkanadahncgaaGreatDoor
/-
  Plain laws: edits: what is possible, the code of an edit, places after one.
-/
namespace Go.Proofs.YtehkanadahncgaaGreatDoor
set_option linter.unusedVariables false
set_option linter.unusedSimpArgs false
open Go Go.Sx
def ZjH (b:Zb):Prop:=∃ (x:Zd) (c:Zh) (w:Zn) (m:Int),
 0<(Za.Instances (Zb.Design b)).length∧(Za.Instances (Zb.Design b))[(Za.Instances (Zb.Design b)).length-1]?=some x∧
 (Zk.Cells (Zb.Library b))[(Zd.Cell x).toNat]?=some c∧Zh.Kind c=1∧(Zh.YC c).length=2∧
 (Zd.ZM x).length=2∧atI (Zd.ZM x) 0=some m∧atI (Zd.ZM x) 1=some (((Za.ZM (Zb.Design b)).length:Int)-1)∧m≠((Za.ZM (Zb.Design b)).length:Int)-1∧
 atI (Za.ZM (Zb.Design b)) (((Za.ZM (Zb.Design b)).length:Int)-1)=some (Zd.Name x)∧
 atI (Zb.Zw b) (((Za.ZM (Zb.Design b)).length:Int)-1)=some w∧(Zn.Zfx w).length=1∧(sinks (Zb.Design b) (((Za.ZM (Zb.Design b)).length:Int)-1)).length=1∧(Zn.Parent w).length=1∧atI (Zn.Cap w) 0=some 0
theorem Zt2 {b:Zb} (h:ZaQ b):∃ r,XK b=some r∧Zc3 b=some r∧
  (r=true→ZjH b):=by
 have hD:=h.ok.1
 have hf:=hD.few
 have h14:=hf.insts
 have h30:=hD.2.1.2.1
 have hwn:=h.ok.2.1
 unfold XK Zc3
 by_cases hn:((Za.Instances (Zb.Design b)).length:Int)=0
 ·rw [if_pos hn,hn,Vy (by omega) (by omega),if_pos (by omega)]
  exact ⟨false,rfl,rfl,fun h=>by cases h⟩
 rw [if_neg hn,Vy (n:=((Za.Instances (Zb.Design b)).length:Int)-1) (by omega) (by omega),if_neg (by omega)]
 have hlt:(Za.Instances (Zb.Design b)).length-1<(Za.Instances (Zb.Design b)).length:=by omega
 have hx:=List.getElem?_eq_getElem hlt
 generalize (Za.Instances (Zb.Design b))[(Za.Instances (Zb.Design b)).length-1]=x at hx
 have hx2:atI (Za.Instances (Zb.Design b)) (((Za.Instances (Zb.Design b)).length:Int)-1)=some x:=QY (by omega) (by rw [←hx];congr 1;omega)
 obtain ⟨⟨c0,c1⟩,⟨c,hc,hnp⟩,hnet⟩:=hD.2.2.1 x (List.mem_of_getElem? hx)
 have hc2:atI (Zk.Cells (Zb.Library b)) (Zd.Cell x)=some c:=QY c0 hc
 rw [hx2]
 simp only [Option.bind_some,hc2,show YS (Za.ZM (Zb.Design b))=some ((Za.ZM (Zb.Design b)).length:Int) from rfl]
 rw [show Zau c=QC c from rfl]
 have hbuf:QC c=some (tr (Zh.Kind c=1∧(Zh.YC c).length=2)):=by
  unfold QC
  refine JZ (YG fun _=>ZdR decide_eq_true_iff) ?_
  omega
 rw [hbuf,Option.bind_some,Option.bind_some]
 by_cases hb:Zh.Kind c=1∧(Zh.YC c).length=2
 ·rw [if_pos (YQ hb),if_pos (YQ hb)]
  have hl2:(Zd.ZM x).length=2:=by rw [hnp];exact hb.2
  have n0:atI (Zd.ZM x) 0=some ((Zd.ZM x)[0]'(by omega)):=List.getElem?_eq_getElem (by omega)
  have n1:atI (Zd.ZM x) 1=some ((Zd.ZM x)[1]'(by omega)):=List.getElem?_eq_getElem (by omega)
  have hn1:=hnet ((Zd.ZM x)[1]'(by omega)) (List.getElem_mem _)
  have hpos:1≤(Za.ZM (Zb.Design b)).length:=by have:=hn1.1;have:=hn1.2;omega
  generalize (Zd.ZM x)[1]'(by omega)=m1 at n1 hn1
  generalize (Zd.ZM x)[0]'(by omega)=m0 at n0
  have eL:IntKind.i64.wrap (((Za.ZM (Zb.Design b)).length:Int)-1)=((Za.ZM (Zb.Design b)).length:Int)-1:=Vy (by omega) (by omega)
  have eW:IntKind.i64.wrap (((Zb.Zw b).length:Int)-1)=((Za.ZM (Zb.Design b)).length:Int)-1:=by rw [Vy (by omega) (by omega)];omega
  have hL:ZbF (Zb.Design b) (((Za.ZM (Zb.Design b)).length:Int)-1):=⟨by omega,by omega⟩
  obtain ⟨w,hw1,hw2,hw3⟩:=ZiV h hL
  have nL:atI (Za.ZM (Zb.Design b)) (((Za.ZM (Zb.Design b)).length:Int)-1)=some ((Za.ZM (Zb.Design b))[(Za.ZM (Zb.Design b)).length-1]'(by omega)):=QY (by omega) (by
   rw [List.getElem?_eq_getElem (by omega)]
   congr 2
   omega)
  generalize (Za.ZM (Zb.Design b))[(Za.ZM (Zb.Design b)).length-1]'(by omega)=nm at nL
  have hcap:atI (Zn.Cap w) 0=some ((Zn.Cap w)[0]'(by have:=hw3.1;have:=hw3.2.2.1;omega)):=List.getElem?_eq_getElem (by have:=hw3.1;have:=hw3.2.2.1;omega)
  generalize (Zn.Cap w)[0]'(by have:=hw3.1;have:=hw3.2.2.1;omega)=cp at hcap
  have hsk:=hw3.2.2.2.1
  simp only [eL,eW,n0,n1,nL,hw2,Option.bind_some,VO _ _ hf,ZeH,hcap]
  rw [←hsk]
  by_cases q1:m1=((Za.ZM (Zb.Design b)).length:Int)-1
  ·rw [if_pos q1,if_pos q1]
   by_cases q2:m0=((Za.ZM (Zb.Design b)).length:Int)-1
   ·rw [if_pos q2]
    by_cases q3:nm=Zd.Name x
    ·rw [if_pos q3]
     simp only [if_pos q2]
     exact ⟨_,rfl,rfl,fun q=>by cases q⟩
    ·rw [if_neg q3]
     exact ⟨_,rfl,rfl,fun q=>by cases q⟩
   ·rw [if_neg q2]
    by_cases q3:nm=Zd.Name x
    ·rw [if_pos q3,if_pos q3]
     simp only [if_neg q2]
     by_cases q4:((Zn.Zfx w).length:Int)=1
     ·rw [if_pos q4,if_pos q4]
      by_cases q5:((Zn.Parent w).length:Int)=1
      ·simp only [if_pos q5]
       refine ⟨_,rfl,rfl,fun q=>?_⟩
       have q6:=of_decide_eq_true q
       subst q1 q6
       exact ⟨x,c,w,m0,by omega,hx,hc,hb.1,hb.2,hl2,n0,n1,q2,by rw [nL,q3],hw2,by omega,by omega,by omega,hcap⟩
      ·simp only [if_neg q5]
       exact ⟨_,rfl,rfl,fun q=>by cases q⟩
     ·rw [if_neg q4,if_neg q4]
      exact ⟨_,rfl,rfl,fun q=>by cases q⟩
    ·rw [if_neg q3,if_neg q3]
     exact ⟨_,rfl,rfl,fun q=>by cases q⟩
  ·rw [if_neg q1,if_neg q1]
   exact ⟨_,rfl,rfl,fun q=>by cases q⟩
 ·rw [if_neg (fun q=>hb ((Vi _).1 q)),if_neg (fun q=>hb ((Vi _).1 q))]
  exact ⟨false,rfl,rfl,fun h=>by cases h⟩
theorem Zp7 {b:Zb} (h:ZaQ b) {i:Int} (h0:0≤i) (h1:i≤((Zk.Cells (Zb.Library b)).length:Int)-1):∃ c,atI (Zk.Cells (Zb.Library b)) i=some c∧sm XY c:=by
 have hlt:i.toNat<(Zk.Cells (Zb.Library b)).length:=by omega
 have hc:=List.getElem?_eq_getElem hlt
 exact ⟨_,QY h0 hc,Jz (ZmR (ZaJ h.sm).1) hc⟩
theorem ZnQ {b:Zb} (h:ZaQ b) {i:Int} (h0:0≤i) (h1:i≤((places (Zb.Design b)).length:Int)-1):∃ p,atI (places (Zb.Design b)) i=some p∧p∈places (Zb.Design b):=by
 have hlt:i.toNat<(places (Zb.Design b)).length:=by omega
 have hc:=List.getElem?_eq_getElem hlt
 exact ⟨_,QY h0 hc,List.getElem_mem _⟩
theorem ZrC {d:Za} {p:Pl} (hp:p∈places d) (h0:0≤p.1):∃ x,(Za.Instances d)[p.1.toNat]?=some x∧x∈Za.Instances d:=by
 unfold places at hp
 rcases List.mem_append.1 hp with hp | hp
 ·obtain ⟨i,z,hi,hz⟩:=Zhx.1 hp
  unfold Qv at hz
  obtain ⟨j,n,hj,hn⟩:=Zhx.1 hz
  simp only [List.mem_singleton] at hn
  subst hn
  refine ⟨z,?_,List.mem_of_getElem? hi⟩
  show (Za.Instances d)[(((0+i:Nat):Int)).toNat]?=some z
  rw [show (((0+i:Nat):Int)).toNat=i by omega]
  exact hi
 ·obtain ⟨j,q,hj,hq⟩:=Zhx.1 hp
  simp only [ZeF,List.mem_singleton] at hq
  subst hq
  have h0:(0:Int)≤-1:=h0
  omega
theorem ZjH.two {b:Zb} (h:ZjH b):0<(Za.Instances (Zb.Design b)).length∧∃ x,(Za.Instances (Zb.Design b))[(Za.Instances (Zb.Design b)).length-1]?=some x∧(Zd.ZM x).length=2:=by
 obtain ⟨x,c,w,m,h1,h2,_,_,_,h3,_⟩:=h
 exact ⟨h1,x,h2,h3⟩
def Zfu (b:Zb) (e:Zf) (p:Pl):Prop:=0≤Zf.Place e∧(places (Zb.Design b))[(Zf.Place e).toNat]?=some p
theorem Zn6 {b:Zb} {e:Zf} {p:Pl} (h0:0≤Zf.Place e) (hp:atI (places (Zb.Design b)) (Zf.Place e)=some p):Zfu b e p:=by
 refine ⟨h0,?_⟩
 rw [show Zf.Place e=(((Zf.Place e).toNat:Nat):Int) by omega,Zu] at hp
 exact hp
theorem Zfu.mem {b:Zb} {e:Zf} {p:Pl} (h:Zfu b e p):p∈places (Zb.Design b):=List.mem_of_getElem? h.2
theorem Zfu.at {b:Zb} {e:Zf} {p:Pl} (h:Zfu b e p):atI (places (Zb.Design b)) (Zf.Place e)=some p:=QY h.1 h.2
def ZuO (b:Zb) (e:Zf):Prop :=
 (Zf.Kind e=1→∃ (p:Pl) (x:Zd) (c c2:Zh),Zfu b e p∧0≤p.1∧p.2.2.2.1=true∧atI (Za.Instances (Zb.Design b)) p.1=some x∧atI (Zk.Cells (Zb.Library b)) (Zd.Cell x)=some c∧atI (Zk.Cells (Zb.Library b)) (Zf.Cell e)=some c2∧Vo c c2=some true)∧
 (Zf.Kind e=2→∃ (p:Pl) (c:Zh),Zfu b e p∧p.2.2.2.1=false∧atI (Zk.Cells (Zb.Library b)) (Zf.Cell e)=some c∧Zh.Kind c=1∧(Zh.YC c).length=2∧ZaT (Zf.Name e)=true∧
  Zbe (fun x=>decide (Zd.Name x=Zf.Name e)) (Za.Instances (Zb.Design b))<0∧Zbe (fun x=>decide (Zf.Name e=x)) (Za.ZM (Zb.Design b))<0)∧
 (Zf.Kind e=3→ZjH b)∧
 (Zf.Kind e=4→∃ p:Pl,Zfu b e p∧p.2.2.2.1=false∧p.2.2.1≠Zf.Net e)∧
 (Zf.Kind e=5→Zb1 (Zf.Zdl e) ((sinks (Zb.Design b) (Zf.Net e)).length:Int))
theorem Zqn {b:Zb} (h:ZaQ b) (e:Zf) (he:sm Ym e) (hB:Blank e) (hR:ZbQ b e):∃ r,QK e b=some r∧Zca b e=some r∧
  (r=true→ZuO b e):=by
 have hD:=h.ok.1
 have hf:=hD.few
 have hsd:=(ZaJ h.sm).2.1
 obtain ⟨he1,he2⟩:=ZnG he
 unfold QK Zca
 rw [Yl _ hf,Qg _ hf,Option.bind_some,Option.bind_some]
 by_cases k1:Zf.Kind e=1
 ·rw [if_pos k1,if_pos k1]
  obtain ⟨⟨p0,p1⟩,c0,c1⟩:=hR.1 (.inl k1)
  obtain ⟨p,hp,hpm⟩:=ZnQ h p0 p1
  obtain ⟨c2,hc2,hc2s⟩:=Zp7 h c0 c1
  rw [hp]
  simp only [Option.bind_some,hc2]
  by_cases q1:(0:Int)≤p.1
  ·rw [if_pos q1,if_pos q1]
   by_cases q2:p.2.2.2.1=true
   ·rw [if_pos q2,if_pos q2]
    obtain ⟨x,hx,hxm⟩:=ZrC hpm q1
    have hx2:atI (Za.Instances (Zb.Design b)) p.1=some x:=QY q1 hx
    obtain ⟨⟨d0,d1⟩,_,_⟩:=hD.2.2.1 x hxm
    obtain ⟨c,hc,hcs⟩:=Zp7 h d0 d1
    obtain ⟨a1,r,a2⟩:=Zus c c2 hcs
    have e1:Yc.instance p=p.1:=rfl
    have e2:Z4.instance p=p.1:=rfl
    simp only [e1,e2,hx2,Option.bind_some,hc,a1,a2]
    exact ⟨r,rfl,rfl,fun q=>⟨fun _=>⟨p,x,c,c2,Zn6 p0 hp,q1,q2,hx2,hc,hc2,by rw [a2,q]⟩,fun k=>by omega,fun k=>by omega,fun k=>by omega,fun k=>by omega⟩⟩
   ·rw [if_neg q2,if_neg q2]
    exact ⟨_,rfl,rfl,fun q=>by cases q⟩
  ·rw [if_neg q1,if_neg q1]
   exact ⟨_,rfl,rfl,fun q=>by cases q⟩
 rw [if_neg k1,if_neg k1]
 by_cases k2:Zf.Kind e=2
 ·rw [if_pos k2,if_pos k2]
  obtain ⟨⟨p0,p1⟩,c0,c1⟩:=hR.1 (.inr k2)
  obtain ⟨p,hp,hpm⟩:=ZnQ h p0 p1
  obtain ⟨c2,hc2,hc2s⟩:=Zp7 h c0 c1
  have hbuf:QC c2=some (tr (Zh.Kind c2=1∧(Zh.YC c2).length=2)):=by
   unfold QC
   refine JZ (YG fun _=>ZdR decide_eq_true_iff) ?_
   omega
  have hlN:(Zf.Name e).length≤4611686018427387904:=by have:((Zf.Name e).length:Int)≤1048576:=he1;omega
  rw [hp]
  simp only [Option.bind_some,hc2,show Zau c2=QC c2 from rfl,hbuf,ZfP,ZdD _ hlN,(ZkW _ (Zf.Name e) hsd).1,(ZkW _ (Zf.Name e) hsd).2,(Zmt _ (Zf.Name e) hsd).1,(Zmt _ (Zf.Name e) hsd).2]
  have e1:Yc.drives p=p.2.2.2.1:=rfl
  have e2:Z4.drives p=p.2.2.2.1:=rfl
  rw [e1,e2]
  by_cases q2:p.2.2.2.1=true
  ·simp only [if_pos q2]
   exact ⟨_,rfl,rfl,fun q=>by cases q⟩
  simp only [if_neg q2]
  by_cases q3:tr (Zh.Kind c2=1∧(Zh.YC c2).length=2)=true
  ·simp only [if_pos q3]
   by_cases q4:ZaT (Zf.Name e)=true
   ·simp only [if_pos q4]
    split
    ·rename_i q5
     refine ⟨_,rfl,rfl,fun q=>⟨fun k=>by omega,fun _=>⟨p,c2,Zn6 p0 hp,by simpa using q2,hc2,((Vi _).1 q3).1,((Vi _).1 q3).2,q4,q5,of_decide_eq_true q⟩,fun k=>by omega,fun k=>by omega,fun k=>by omega⟩⟩
    ·exact ⟨_,rfl,rfl,fun q=>by cases q⟩
   ·simp only [if_neg q4]
    exact ⟨_,rfl,rfl,fun q=>by cases q⟩
  ·simp only [if_neg q3]
   exact ⟨_,rfl,rfl,fun q=>by cases q⟩
 rw [if_neg k2,if_neg k2]
 by_cases k3:Zf.Kind e=3
 ·rw [if_pos k3,if_pos k3]
  obtain ⟨r,a,c,d⟩:=Zt2 h
  rw [a,c]
  exact ⟨r,rfl,rfl,fun q=>⟨fun k=>by omega,fun k=>by omega,fun _=>d q,fun k=>by omega,fun k=>by omega⟩⟩
 rw [if_neg k3,if_neg k3]
 by_cases k4:Zf.Kind e=4
 ·rw [if_pos k4,if_pos k4]
  obtain ⟨⟨p0,p1⟩,_⟩:=hR.2.1 k4
  obtain ⟨p,hp,hpm⟩:=ZnQ h p0 p1
  rw [hp]
  simp only [Option.bind_some]
  have e1:Yc.drives p=p.2.2.2.1:=rfl
  have e2:Z4.drives p=p.2.2.2.1:=rfl
  rw [e1,e2]
  by_cases q2:p.2.2.2.1=true
  ·simp only [if_pos q2]
   exact ⟨_,rfl,rfl,fun q=>by cases q⟩
  ·simp only [if_neg q2]
   refine ⟨_,rfl,rfl,fun q=>⟨fun k=>by omega,fun k=>by omega,fun k=>by omega,fun _=>⟨p,Zn6 p0 hp,by simpa using q2,by simp only [Bool.not_eq_true',decide_eq_false_iff_not] at q;exact q⟩,fun k=>by omega⟩⟩
 rw [if_neg k4,if_neg k4]
 have k5:Zf.Kind e=5:=by unfold Blank at hB;omega
 obtain ⟨w,hw1,hw2,hw3⟩:=ZiV h (hR.2.2 k5)
 rw [hw2,VO _ _ hf]
 simp only [Option.bind_some,Zay,ZiA _ _ he2,Ziy _ _ he2,hw3.2.2.2.1]
 exact ⟨_,rfl,rfl,fun q=>⟨fun k=>by omega,fun k=>by omega,fun k=>by omega,fun k=>by omega,fun _=>(Vi _).1 q⟩⟩
structure Zps (b:Zb) (e:Zf):Prop where
 blk:ZaQ b
 blank:Blank e
 range:ZbQ b e
 poss:ZuO b e
 lim:Zf.Kind e=2→(Za.Instances (Zb.Design b)).length≤13∧(Za.ZM (Zb.Design b)).length≤29
theorem Zps.last {b:Zb} {e:Zf} (h:Zps b e) (k3:Zf.Kind e=3):0<(Za.Instances (Zb.Design b)).length∧∃ x,(Za.Instances (Zb.Design b))[(Za.Instances (Zb.Design b)).length-1]?=some x∧(Zd.ZM x).length=2:=(h.poss.2.2.1 k3).two
theorem ZkO {b:Zb} (h:ZaQ b) (e:Zf) (he:sm Ym e):∃ c,Ja e b=some c∧Zcg b e=some c∧(c=0→Zps b e):=by
 have hB:=h.ok
 unfold Zcg Ja
 rw [Zhl b h.sm,Option.bind_some,if_pos (YQ hB)]
 ·have hwn:=hB.2.1
  rw [Zkd h e he,Zln e he,Zlq h e he]
  simp only [Option.bind_some]
  by_cases h1:Blank e
  ·rw [if_pos (YQ h1)]
   by_cases h2:ZbQ b e
   ·rw [if_pos (YQ ⟨h1,h2⟩),if_pos (YQ h2)]
    obtain ⟨r,a,c,d⟩:=Zqn h e he h1 h2
    rw [a,c]
    simp only [Option.bind_some]
    by_cases hr:r=true
    ·rw [if_pos hr,if_pos hr]
     have h14:=hB.1.few.insts
     have h30:=hB.1.2.1.2.1
     by_cases k2:Zf.Kind e=2
     ·rw [if_pos k2,if_pos k2]
      by_cases q1:((Za.Instances (Zb.Design b)).length:Int)=14
      ·rw [if_pos q1,if_pos q1]
       exact ⟨_,rfl,rfl,fun q=>by cases q⟩
      ·rw [if_neg q1,if_neg q1]
       by_cases q2:((Za.ZM (Zb.Design b)).length:Int)=30
       ·rw [if_pos q2,if_pos (by omega)]
        exact ⟨_,rfl,rfl,fun q=>by cases q⟩
       ·rw [if_neg q2,if_neg (by omega)]
        exact ⟨_,rfl,rfl,fun _=>⟨h,h1,h2,d hr,fun _=>⟨by omega,by omega⟩⟩⟩
     ·rw [if_neg k2,if_neg k2]
      exact ⟨_,rfl,rfl,fun _=>⟨h,h1,h2,d hr,fun k=>absurd k k2⟩⟩
    ·rw [if_neg hr,if_neg hr]
     exact ⟨_,rfl,rfl,fun q=>by cases q⟩
   ·rw [if_neg (fun q=>h2 ((Vi _).1 q).2),if_neg (fun q=>h2 ((Vi _).1 q))]
    exact ⟨_,rfl,rfl,fun q=>by cases q⟩
  ·rw [if_neg (fun q=>h1 ((Vi _).1 q).1),if_neg (fun q=>h1 ((Vi _).1 q))]
   exact ⟨_,rfl,rfl,fun q=>by cases q⟩
end Go.Proofs.YtehkanadahncgaaGreatDoor
/-
  Plain laws: places, one by one; a place put on another net; an instance more, an instance less.
-/
namespace Go.Proofs.YtehkanadahncgaaGreatDoor
set_option linter.unusedVariables false
set_option linter.unusedSimpArgs false
open Go Go.Sx
theorem ZbZ {α β:Type} {g:Nat→α→β}:∀ (l:List α) (m j:Nat),(cat (fun j n=>[g j n]) m l)[j]?=(l[j]?).map (g (m+j))
 | [],m,j=>by simp [cat]
 | x::r,m,0=>by simp [cat]
 | x::r,m,j+1=>by
  simp only [cat,List.singleton_append,List.getElem?_cons_succ,ZbZ r]
  rw [show m+1+j=m+(j+1) by omega]
theorem Zax {α β:Type} {g:Nat→α→β}:∀ (l:List α) (m:Nat),(cat (fun j n=>[g j n]) m l).length=l.length
 | [],m=>rfl
 | x::r,m=>by simp only [cat,List.singleton_append,List.length_cons,Zax r]
theorem Zi3 {α β:Type} {g:Nat→α→β} (y:α):∀ (l:List α) (m j:Nat),cat (fun j n=>[g j n]) m (l.set j y)=(cat (fun j n=>[g j n]) m l).set j (g (m+j) y)
 | [],m,j=>by simp [cat]
 | x::r,m,0=>by simp [cat]
 | x::r,m,j+1=>by
  simp only [cat,List.singleton_append,List.set_cons_succ,Zi3 y r]
  rw [show m+1+j=m+(j+1) by omega]
theorem Zfs {α β:Type} (f:Nat→α→List β) {l:List α} {i:Nat} {x:α} (hx:l[i]?=some x):cat f 0 l=cat f 0 (l.take i)++(f i x++cat f (i+1) (l.drop (i+1))):=by
 have hi:=(List.getElem?_eq_some_iff.1 hx).1
 have e:l=l.take i++(x::l.drop (i+1)):=by
  have hd:l.drop i=x::l.drop (i+1):=by
   rw [List.drop_eq_getElem_cons hi];congr 1;exact (List.getElem?_eq_some_iff.1 hx).2
  rw [←hd,List.take_append_drop]
 have e2:=congrArg (cat f 0) e
 rw [Zdh] at e2
 simp only [cat,Nat.zero_add,List.length_take] at e2
 rw [show min i l.length=i by omega] at e2
 exact e2
theorem ZuS {α β:Type} (f:Nat→α→List β) {l:List α} {i j:Nat} {x y:α} {z:β} (hx:l[i]?=some x) (hj:j<(f i x).length) (hy:f i y=(f i x).set j z):cat f 0 (l.set i y)=(cat f 0 l).set ((cat f 0 (l.take i)).length+j) z:=by
 have hi:=(List.getElem?_eq_some_iff.1 hx).1
 rw [Zfs f hx,Zfs f (l:=l.set i y) (x:=y) (List.getElem?_set_self hi),List.take_set,List.set_eq_of_length_le (by rw [List.length_take];omega),List.drop_set_of_lt (by omega),hy,List.set_append,if_neg (by omega),List.set_append,if_pos (by omega),Nat.add_sub_cancel_left]
abbrev Zer (d:Za) (i:Nat):Nat:=(cat Qv 0 ((Za.Instances d).take i)).length
abbrev Yz (d:Za):Nat:=(cat Qv 0 (Za.Instances d)).length
def Zd0 (i:Nat) (x:Zd) (j:Nat) (n:Int):Pl:=((i:Int),(j:Int),n,decide ((j:Int)=IntKind.i64.wrap (((Zd.ZM x).length:Int)-1)),())
theorem Zjh (i:Nat) (x:Zd):Qv i x=cat (fun j n=>[Zd0 i x j n]) 0 (Zd.ZM x):=rfl
theorem Zf5 {i:Nat} {x:Zd} {j:Nat} {n:Int} (h:(Zd.ZM x)[j]?=some n):(Qv i x)[j]?=some (Zd0 i x j n):=by
 rw [Zjh,ZbZ,h,Nat.zero_add];rfl
theorem Vp (i:Nat) (x:Zd):(Qv i x).length=(Zd.ZM x).length:=by rw [Zjh,Zax]
theorem Zjw (l:List ZL) (m:Nat):cat ZeF m l=cat (fun j p=>[((-1:Int),(j:Int),ZL.Net p,decide (ZL.Dir p=1),())]) m l:=rfl
theorem Zpy (l:List ZL) (m:Nat):(cat ZeF m l).length=l.length:=by rw [Zjw,Zax]
theorem ZeM {d:Za} {i j:Nat} {x:Zd} {n:Int} (hx:(Za.Instances d)[i]?=some x) (hn:(Zd.ZM x)[j]?=some n):(places d)[Zer d i+j]?=some (Zd0 i x j n):=by
 have hj:=(List.getElem?_eq_some_iff.1 hn).1
 unfold places
 rw [Zfs Qv hx,List.append_assoc,List.getElem?_append_right (by unfold Zer;omega),show Zer d i+j-(cat Qv 0 ((Za.Instances d).take i)).length=j by unfold Zer;omega,List.append_assoc,List.getElem?_append_left (by rw [Vp];exact hj)]
 exact Zf5 hn
theorem Zn4 {d:Za} {j:Nat} {q:ZL} (hq:(Za.ZX d)[j]?=some q):(places d)[Yz d+j]?=some ((-1:Int),(j:Int),ZL.Net q,decide (ZL.Dir q=1),()):=by
 unfold places
 rw [List.getElem?_append_right (by unfold Yz;omega),show Yz d+j-(cat Qv 0 (Za.Instances d)).length=j by unfold Yz;omega,Zjw,ZbZ,hq,Nat.zero_add];rfl
theorem JU {d:Za} {k:Nat} {p:Pl} (hp:(places d)[k]?=some p) :
  (∃ (i j:Nat) (x:Zd) (n:Int),(Za.Instances d)[i]?=some x∧(Zd.ZM x)[j]?=some n∧k=Zer d i+j∧p=Zd0 i x j n)∨
  (∃ (j:Nat) (q:ZL),(Za.ZX d)[j]?=some q∧k=Yz d+j∧p=((-1:Int),(j:Int),ZL.Net q,decide (ZL.Dir q=1),())):=by
 by_cases hk:k<Yz d
 ·left
  have h1:(cat Qv 0 (Za.Instances d))[k]?=some p:=by
   unfold places at hp
   rwa [List.getElem?_append_left (show k<(cat Qv 0 (Za.Instances d)).length from hk)] at hp
  have find:∀ (n:Nat),n≤(Za.Instances d).length→k<Zer d n→∃ i,i<n∧Zer d i≤k∧k<Zer d (i+1):=by
   intro n
   induction n with
   | zero=>intro _ h;simp [Zer,cat] at h
   | succ n ih =>
    intro hn hlt
    by_cases hq:k<Zer d n
    ·obtain ⟨i,a,b,c⟩:=ih (by omega) hq
     exact ⟨i,by omega,b,c⟩
    ·exact ⟨n,by omega,by omega,hlt⟩
  obtain ⟨i,hi,hlo,hhi⟩:=find (Za.Instances d).length (Nat.le_refl _) (by unfold Zer;rw [List.take_length];exact hk)
  have hx:(Za.Instances d)[i]?=some (Za.Instances d)[i]:=List.getElem?_eq_getElem hi
  generalize (Za.Instances d)[i]=x at hx
  have hs:Zer d (i+1)=Zer d i+(Zd.ZM x).length:=by
   unfold Zer
   rw [ZgK hx,List.length_append,Vp]
  have hj:k-Zer d i<(Zd.ZM x).length:=by omega
  have hn:(Zd.ZM x)[k-Zer d i]?=some (Zd.ZM x)[k-Zer d i]:=List.getElem?_eq_getElem hj
  generalize (Zd.ZM x)[k-Zer d i]=n at hn
  refine ⟨i,k-Zer d i,x,n,hx,hn,by omega,?_⟩
  have h2:=ZeM hx hn
  rw [show Zer d i+(k-Zer d i)=k by omega,hp] at h2
  injection h2
 ·right
  have h1:(cat ZeF 0 (Za.ZX d))[k-Yz d]?=some p:=by
   unfold places at hp
   rwa [List.getElem?_append_right (show (cat Qv 0 (Za.Instances d)).length≤k from Nat.le_of_not_lt hk)] at hp
  rw [Zjw,ZbZ,Nat.zero_add] at h1
  cases hq:(Za.ZX d)[k-Yz d]? with
  | none=>rw [hq] at h1;cases h1
  | some q =>
   rw [hq] at h1
   injection h1 with h1
   exact ⟨k-Yz d,q,hq,by omega,h1.symm⟩
theorem key_inj {d:Za} {k k':Nat} {p p':Pl} (hp:(places d)[k]?=some p) (hp':(places d)[k']?=some p') (h1:p.1=p'.1) (h2:p.2.1=p'.2.1):k=k':=by
 rcases JU hp with ⟨i,j,x,n,_,_,e,rfl⟩ | ⟨j,q,_,e,rfl⟩<;>rcases JU hp' with ⟨i',j',x',n',_,_,e',rfl⟩ | ⟨j',q',_,e',rfl⟩
 ·simp only [Zd0] at h1 h2
  have:i=i':=by omega
  have:j=j':=by omega
  subst i' j'
  omega
 ·simp only [Zd0] at h1;omega
 ·simp only [Zd0] at h1;omega
 ·simp only at h2
  omega
def Zd3 (x:Zd) (j:Nat) (n:Int):Zd:=(Zd.Name x,Zd.Cell x,List.set (Zd.ZM x) j n,())
def setPort (q:ZL) (n:Int):ZL:=(ZL.Name q,ZL.Dir q,n,())
def conn (d:Za) (a b:Int) (n:Int):Za :=
 if a<0 then (Za.Instances d,Za.ZM d,match (Za.ZX d)[b.toNat]? with
  | some q=>(Za.ZX d).set b.toNat (setPort q n)
  | none=>Za.ZX d,())
 else (match (Za.Instances d)[a.toNat]? with
  | some x=>(Za.Instances d).set a.toNat (Zd3 x b.toNat n)
  | none=>Za.Instances d,Za.ZM d,Za.ZX d,())
theorem Zr6 (i:Nat) (x:Zd) (j:Nat) (n:Int):Qv i (Zd3 x j n)=(Qv i x).set j (Zd0 i x j n):=by
 rw [Zjh,Zjh]
 show cat (fun (j':Nat) (m:Int)=>[Zd0 i (Zd3 x j n) j' m]) 0 (List.set (Zd.ZM x) j n)=_
 have:(fun (j':Nat) (m:Int)=>[Zd0 i (Zd3 x j n) j' m])=fun j' m=>[Zd0 i x j' m]:=by
  funext j' m
  have hl:(Zd.ZM (Zd3 x j n)).length=(Zd.ZM x).length:=List.length_set
  simp only [Zd0,hl]
 rw [this,Zi3,Nat.zero_add]
theorem Vf {d:Za} {k:Nat} {p:Pl} (hp:(places d)[k]?=some p) (n:Int):places (conn d p.1 p.2.1 n)=(places d).set k (p.1,p.2.1,n,p.2.2.2.1,()):=by
 rcases JU hp with ⟨i,j,x,m,hx,hn,e,rfl⟩ | ⟨j,q,hq,e,rfl⟩
 ·have hj:=(List.getElem?_eq_some_iff.1 hn).1
  have e1:conn d (Zd0 i x j m).1 (Zd0 i x j m).2.1 n=((Za.Instances d).set i (Zd3 x j n),Za.ZM d,Za.ZX d,()):=by
   unfold conn
   rw [if_neg (by simp only [Zd0];omega)]
   simp only [Zd0,Int.toNat_natCast,hx]
  rw [e1]
  unfold places
  show cat Qv 0 ((Za.Instances d).set i (Zd3 x j n))++cat ZeF 0 (Za.ZX d)=_
  have hlt:k<(cat Qv 0 (Za.Instances d)).length:=by
   rw [Zfs Qv hx,List.length_append,List.length_append,Vp]
   unfold Zer at e
   omega
  rw [ZuS Qv hx (j:=j) (z:=Zd0 i x j n) (by rw [Vp];exact hj) (Zr6 i x j n),List.set_append,if_pos hlt,e]
  rfl
 ·have e1:conn d (-1) (j:Int) n=(Za.Instances d,Za.ZM d,(Za.ZX d).set j (setPort q n),()):=by
   unfold conn
   rw [if_pos (by omega)]
   simp only [Int.toNat_natCast,hq]
  show places (conn d (-1) (j:Int) n)=_
  rw [e1]
  unfold places
  show cat Qv 0 (Za.Instances d)++cat ZeF 0 ((Za.ZX d).set j (setPort q n))=_
  rw [List.set_append,if_neg (by unfold Yz at e;omega),Zjw,Zi3,Nat.zero_add,e,show Yz d+j-(cat Qv 0 (Za.Instances d)).length=j by unfold Yz;omega,Zjw]
  rfl
end Go.Proofs.YtehkanadahncgaaGreatDoor
/-
  Plain laws: the wires' sinks out of the places' nodes.
-/
namespace Go.Proofs.YtehkanadahncgaaGreatDoor
set_option linter.unusedVariables false
set_option linter.unusedSimpArgs false
open Go Go.Sx
def nth (pl:List Pl) (net:Int) (k:Nat):Nat:=(cat (Za5 net) 0 (pl.take k)).length
theorem Zhr {net:Int} {k:Nat} {p:Pl} (h:¬(p.2.2.1=net∧p.2.2.2.1=false)):Za5 net k p=[]:=by
 unfold Za5
 split
 ·split
  ·rfl
  ·rename_i h1 h2;exact absurd ⟨h1,by simpa using h2⟩ h
 ·rfl
theorem Zhm {net:Int} {k:Nat} {p:Pl} (h1:p.2.2.1=net) (h2:p.2.2.2.1=false):Za5 net k p=[(k:Int)]:=by
 unfold Za5
 rw [if_pos h1,if_neg (by rw [h2];simp)]
theorem ZjA {pl:List Pl} {net:Int} {k:Nat} {p:Pl} (hp:pl[k]?=some p) (h1:p.2.2.1=net) (h2:p.2.2.2.1=false):(cat (Za5 net) 0 pl)[nth pl net k]?=some (k:Int):=by
 rw [Zfs (Za5 net) hp,Zhm h1 h2]
 unfold nth
 rw [List.getElem?_append_right (Nat.le_refl _),Nat.sub_self]
 rfl
theorem Zsw {pl:List Pl} {net:Int} {v:Int} (hv:v∈cat (Za5 net) 0 pl):∃ (k:Nat) (p:Pl),v=(k:Int)∧pl[k]?=some p∧p.2.2.1=net∧p.2.2.2.1=false:=by
 obtain ⟨k,p,hp,hv⟩:=Zhx.1 hv
 by_cases h:p.2.2.1=net∧p.2.2.2.1=false
 ·rw [Zhm h.1 h.2] at hv
  simp only [List.mem_singleton] at hv
  exact ⟨k,p,by rw [hv];simp,hp,h.1,h.2⟩
 ·rw [Zhr h] at hv
  cases hv
theorem ZsZ {pl:List Pl} {net:Int} {k:Nat} {p:Pl} (hp:pl[k]?=some p) (h1:p.2.2.1=net) (h2:p.2.2.2.1=false):nth pl net k<(cat (Za5 net) 0 pl).length:=(List.getElem?_eq_some_iff.1 (ZjA hp h1 h2)).1
def YV (b:Zb) (k:Nat):Int:=match (places (Zb.Design b))[k]? with
 | some p=>if p.2.2.2.1=true then 0 else match (Zb.Zw b)[p.2.2.1.toNat]? with
  | some w=>((Zn.Zfx w)[nth (places (Zb.Design b)) p.2.2.1 k]?).getD 0
  | none=>0
 | none=>0
def Zev (w:Zn) (l:List Int):Zn:=(Zn.Parent w,Zn.Res w,Zn.Cap w,l,())
def wired (pl:List Pl) (ws:List Zn) (nd:Nat→Int):List Zn:=cat (fun v w=>[Zev w ((cat (Za5 (v:Int)) 0 pl).map (fun k=>nd k.toNat))]) 0 ws
theorem ZdQ (pl:List Pl) (ws:List Zn) (nd:Nat→Int) (v:Nat):(wired pl ws nd)[v]?=(ws[v]?).map (fun w=>Zev w ((cat (Za5 (v:Int)) 0 pl).map (fun k=>nd k.toNat))):=by
 unfold wired
 rw [ZbZ,Nat.zero_add]
theorem ZfY (pl:List Pl) (ws:List Zn) (nd:Nat→Int):(wired pl ws nd).length=ws.length:=Zax _ _
def Zfn (pl:List Pl) (ws:List Zn) (nd:Nat→Int) (k:Nat):List Zn:=wired (pl.take k) ws nd
theorem Zpc {pl:List Pl} {ws:List Zn} {nd:Nat→Int} {k:Nat} {p:Pl} {w:Zn} (hp:pl[k]?=some p) (h2:p.2.2.2.1=false) (h0:0≤p.2.2.1) (hw:ws[p.2.2.1.toNat]?=some w) :
  (Zfn pl ws nd k)[p.2.2.1.toNat]?=some (Zev w ((cat (Za5 p.2.2.1) 0 (pl.take k)).map (fun k=>nd k.toNat)))∧
  (Zfn pl ws nd k).set p.2.2.1.toNat (Zev w ((cat (Za5 p.2.2.1) 0 (pl.take k)).map (fun k=>nd k.toNat)++[nd k]))=Zfn pl ws nd (k+1):=by
 have hk:=(List.getElem?_eq_some_iff.1 hp).1
 have hlt:=(List.getElem?_eq_some_iff.1 hw).1
 unfold Zfn
 constructor
 ·rw [ZdQ,hw,show ((p.2.2.1.toNat:Nat):Int)=p.2.2.1 by omega]
  rfl
 ·apply List.ext_getElem?
  intro v
  rw [List.getElem?_set,ZdQ,ZdQ]
  have hs:∀ net:Int,cat (Za5 net) 0 (pl.take (k+1))=cat (Za5 net) 0 (pl.take k)++Za5 net k p:=fun net=>ZgK hp
  split
  ·rename_i e
   subst e
   rw [ZfY,if_pos hlt,hw,hs,show ((p.2.2.1.toNat:Nat):Int)=p.2.2.1 by omega,Zhm rfl h2,List.map_append]
   simp only [List.map_cons,List.map_nil,Int.toNat_natCast,Option.map_some]
  ·rename_i e
   congr 1
   funext w'
   congr 1
   rw [hs,Zhr (fun q=>e (by have:=q.1;omega)),List.append_nil]
theorem ZoZ {pl:List Pl} {ws:List Zn} {nd:Nat→Int} {k:Nat} {p:Pl} (hp:pl[k]?=some p) (h2:p.2.2.2.1=true):Zfn pl ws nd (k+1)=Zfn pl ws nd k:=by
 unfold Zfn
 apply List.ext_getElem?
 intro v
 rw [ZdQ,ZdQ]
 congr 1
 funext w'
 congr 1
 rw [ZgK hp,Zhr (fun q=>by rw [h2] at q;cases q.2),List.append_nil]
end Go.Proofs.YtehkanadahncgaaGreatDoor
/-
  Plain laws: maps by their keys.
-/
namespace Go.Proofs.YtehkanadahncgaaGreatDoor
set_option linter.unusedVariables false
set_option linter.unusedSimpArgs false
open Go Go.Sx
abbrev Key:Ty:=.pair (.int .i64) (.pair (.int .i64) .unit)
theorem Zoh (x y:Key.den):keq Key x y=true↔x=y:=by
 obtain ⟨a,b,⟨⟩⟩:=x
 obtain ⟨c,d,⟨⟩⟩:=y
 simp [keq]
theorem ZlZ {k v:Ty} (hk:∀ x y:k.den,keq k x y=true↔x=y) (x z:k.den) (y:v.den):∀ (d:List (k.den×v.den)),Zhj k v (ZkK k v d x y) z=if keq k z x=true then some y else Zhj k v d z
 | []=>by simp only [ZkK,Zhj]
 | e::l=>by
  by_cases h1:keq k x e.1=true
  ·simp only [ZkK,if_pos h1,Zhj]
   by_cases h2:keq k z x=true
   ·simp only [if_pos h2]
   ·have h3:¬keq k z e.1=true:=fun q=>h2 ((hk _ _).2 (((hk _ _).1 q).trans ((hk _ _).1 h1).symm))
    simp only [if_neg h2,if_neg h3]
  ·simp only [ZkK,if_neg h1,Zhj]
   by_cases h3:keq k z e.1=true
   ·have h2:¬keq k z x=true:=fun q=>h1 ((hk _ _).2 (((hk _ _).1 q).symm.trans ((hk _ _).1 h3)))
    simp only [if_pos h3,if_neg h2]
   ·simp only [if_neg h3,ZlZ hk x z y l]
theorem ZmC {v:Ty} (d:List (Key.den×v.den)) (x:Key.den) (y:v.den):Zhj Key v (ZkK Key v d x y) x=some y:=by
 rw [ZlZ Zoh,if_pos ((Zoh _ _).2 rfl)]
theorem ZkC {v:Ty} (d:List (Key.den×v.den)) {x z:Key.den} (y:v.den) (h:z≠x):Zhj Key v (ZkK Key v d x y) z=Zhj Key v d z:=by
 rw [ZlZ Zoh,if_neg (fun q=>h ((Zoh _ _).1 q))]
end Go.Proofs.YtehkanadahncgaaGreatDoor
/-
  Plain laws: nodes by keys against nodes by places; kept when a place is put on another net, when an instance is added or removed.
-/
namespace Go.Proofs.YtehkanadahncgaaGreatDoor
set_option linter.unusedVariables false
set_option linter.unusedSimpArgs false
open Go Go.Sx
abbrev ZiN:=List (Key.den×(Ty.int .i64).den)
def Zqz (p:Pl):Key.den:=(p.1,p.2.1,())
def Maps (nodes:ZiN) (pl:List Pl) (nd:Nat→Int):Prop:=∀ (k:Nat) (p:Pl),pl[k]?=some p→p.2.2.2.1=false→Zhj Key (.int .i64) nodes (Zqz p)=some (nd k)
theorem ZqB {d:Za} {k k':Nat} {p p':Pl} (hp:(places d)[k]?=some p) (hp':(places d)[k']?=some p') (h:Zqz p=Zqz p'):k=k':=by
 unfold Zqz at h
 injection h with h1 h2
 injection h2 with h2 _
 exact key_inj hp hp' h1 h2
theorem Maps.put {nodes:ZiN} {d:Za} {nd:Nat→Int} (h:Maps nodes (places d) nd) {k0:Nat} {p0:Pl} (hp0:(places d)[k0]?=some p0) (v:Int):Maps (ZkK Key (.int .i64) nodes (Zqz p0) v) (places d) (fun k=>if k=k0 then v else nd k):=by
 intro k p hp hd
 by_cases e:k=k0
 ·subst e
  rw [hp0] at hp
  injection hp with hp
  subst hp
  simp only [if_true]
  exact ZmC _ _ _
 ·simp only [if_neg e]
  rw [ZkC _ _ (fun q=>e (ZqB hp hp0 q))]
  exact h k p hp hd
theorem Maps.set {nodes:ZiN} {pl:List Pl} {nd:Nat→Int} (h:Maps nodes pl nd) {k0:Nat} {p0:Pl} (hp0:pl[k0]?=some p0) (n:Int):Maps nodes (pl.set k0 (p0.1,p0.2.1,n,p0.2.2.2.1,())) nd:=by
 intro k p hp hd
 by_cases e:k0=k
 ·subst e
  rw [List.getElem?_set_self (List.getElem?_eq_some_iff.1 hp0).1] at hp
  injection hp with hp
  subst hp
  exact h k0 p0 hp0 hd
 ·rw [List.getElem?_set_ne e] at hp
  exact h k p hp hd
def addInst (d:Za) (x:Zd) (s:List UInt8):Za:=(Za.Instances d++[x],Za.ZM d++[s],Za.ZX d,())
theorem Zf8 (d:Za) (x:Zd) (s:List UInt8):places (addInst d x s)=cat Qv 0 (Za.Instances d)++Qv (Za.Instances d).length x++cat ZeF 0 (Za.ZX d):=by
 unfold places addInst
 show cat Qv 0 (Za.Instances d++[x])++_=_
 rw [Zdh,Nat.zero_add]
 simp only [cat,List.append_nil]
theorem Zpd {d:Za} {x:Zd} {s:List UInt8} {k:Nat} (hk:k<Yz d):(places (addInst d x s))[k]?=(places d)[k]?:=by
 rw [Zf8,List.append_assoc,List.getElem?_append_left hk]
 unfold places
 rw [List.getElem?_append_left hk]
theorem add_mid {d:Za} {x:Zd} {s:List UInt8} {j:Nat} (hj:j<(Zd.ZM x).length):(places (addInst d x s))[Yz d+j]?=(Qv (Za.Instances d).length x)[j]?:=by
 rw [Zf8,List.append_assoc,List.getElem?_append_right (by unfold Yz;omega),show Yz d+j-(cat Qv 0 (Za.Instances d)).length=j by unfold Yz;omega,List.getElem?_append_left (by rw [Vp];exact hj)]
theorem Znq {d:Za} {x:Zd} {s:List UInt8} {k:Nat} (hk:Yz d≤k):(places (addInst d x s))[k+(Zd.ZM x).length]?=(places d)[k]?:=by
 have h1:(cat Qv 0 (Za.Instances d)).length≤k:=hk
 rw [Zf8,List.getElem?_append_right (by rw [List.length_append,Vp];omega),List.length_append,Vp]
 unfold places
 rw [List.getElem?_append_right h1]
 congr 1
 omega
def Zp5 (nd:Nat→Int) (m:Nat) (v:Int) (k:Nat):Int:=if k<m then nd k else if k=m then v else if k=m+1 then 0 else nd (k-2)
theorem Maps.add {nodes:ZiN} {d:Za} {nd:Nat→Int} (h:Maps nodes (places d) nd) {x:Zd} {s:List UInt8} (h2:(Zd.ZM x).length=2) (hi:(Za.Instances d).length≤1048576) (v:Int) :
  Maps (ZkK Key (.int .i64) nodes (((Za.Instances d).length:Int),0,()) v) (places (addInst d x s)) (Zp5 nd (Yz d) v):=by
 intro k p hp hd
 have other:∀ (k':Nat),(places d)[k']?=some p→Zhj Key (.int .i64) (ZkK Key (.int .i64) nodes (((Za.Instances d).length:Int),0,()) v) (Zqz p)=Zhj Key (.int .i64) nodes (Zqz p):=by
  intro k' hp'
  refine ZkC _ _ (fun q=>?_)
  unfold Zqz at q
  injection q with q1 _
  rcases JU hp' with ⟨i,j,y,n,hy,_,_,rfl⟩ | ⟨j,q',_,_,rfl⟩
  ·have:=(List.getElem?_eq_some_iff.1 hy).1
   simp only [Zd0] at q1
   omega
  ·simp only at q1
   omega
 unfold Zp5
 by_cases k1:k<Yz d
 ·rw [if_pos k1]
  rw [Zpd k1] at hp
  rw [other k hp]
  exact h k p hp hd
 ·rw [if_neg k1]
  by_cases k2:k=Yz d
  ·rw [if_pos k2]
   have h3:=add_mid (d:=d) (x:=x) (s:=s) (j:=0) (by omega)
   rw [Nat.add_zero,←k2,hp] at h3
   have h4:(Zd.ZM x)[0]?=some (Zd.ZM x)[0]:=List.getElem?_eq_getElem (by omega)
   rw [Zf5 h4] at h3
   injection h3 with h3
   rw [h3]
   exact ZmC _ _ _
  ·rw [if_neg k2]
   by_cases k3:k=Yz d+1
   ·-- it drives
    exfalso
    have h3:=add_mid (d:=d) (x:=x) (s:=s) (j:=1) (by omega)
    rw [←k3,hp] at h3
    have h4:(Zd.ZM x)[1]?=some (Zd.ZM x)[1]:=List.getElem?_eq_getElem (by omega)
    rw [Zf5 h4] at h3
    injection h3 with h3
    rw [h3] at hd
    simp only [Zd0,h2,decide_eq_false_iff_not] at hd
    exact hd (by rw [Vy (by omega) (by omega)];rfl)
   ·rw [if_neg k3]
    have h3:=Znq (d:=d) (x:=x) (s:=s) (k:=k-2) (by omega)
    rw [h2,show k-2+2=k by omega,hp] at h3
    rw [other (k-2) h3.symm]
    exact h (k-2) p h3.symm hd
def XW (d:Za):Za:=((Za.Instances d).take ((Za.Instances d).length-1),(Za.ZM d).take ((Za.ZM d).length-1),Za.ZX d,())
theorem ZoE {d:Za} {x:Zd} (hn:0<(Za.Instances d).length) (hx:(Za.Instances d)[(Za.Instances d).length-1]?=some x):Za.Instances d=Za.Instances (XW d)++[x]:=by
 show Za.Instances d=(Za.Instances d).take ((Za.Instances d).length-1)++[x]
 rw [←YA hx,show (Za.Instances d).length-1+1=(Za.Instances d).length by omega,List.take_length]
theorem Zh1 {d:Za} {x:Zd} {s:List UInt8} (hn:0<(Za.Instances d).length) (hx:(Za.Instances d)[(Za.Instances d).length-1]?=some x):places d=places (addInst (XW d) x s):=by
 unfold places
 show cat Qv 0 (Za.Instances d)++cat ZeF 0 (Za.ZX d)=cat Qv 0 (Za.Instances (XW d)++[x])++cat ZeF 0 (Za.ZX d)
 rw [←ZoE hn hx]
def ZnL (nd:Nat→Int) (m:Nat) (k:Nat):Int:=if k<m then nd k else nd (k+2)
theorem Maps.cut {nodes:ZiN} {d:Za} {nd:Nat→Int} (h:Maps nodes (places d) nd) {x:Zd} (hn:0<(Za.Instances d).length) (hx:(Za.Instances d)[(Za.Instances d).length-1]?=some x) (h2:(Zd.ZM x).length=2) :
  Maps nodes (places (XW d)) (ZnL nd (Yz (XW d))):=by
 rw [Zh1 (s:=[]) hn hx] at h
 intro k p hp hd
 unfold ZnL
 by_cases k1:k<Yz (XW d)
 ·rw [if_pos k1]
  exact h k p (by rw [Zpd k1];exact hp) hd
 ·rw [if_neg k1]
  have h3:=Znq (d:=XW d) (x:=x) (s:=[]) (k:=k) (by omega)
  rw [h2,hp] at h3
  exact h (k+2) p h3 hd
end Go.Proofs.YtehkanadahncgaaGreatDoor
/-
  Plain laws: the map of nodes, place by place; lists of nodes.
-/
namespace Go.Proofs.YtehkanadahncgaaGreatDoor
set_option linter.unusedVariables false
set_option linter.unusedSimpArgs false
open Go Go.Sx
def ZaE (pl:List Pl) (f:Nat→Int):Nat→ZiN
 | 0=>[]
 | k+1=>match pl[k]? with
  | some p=>if p.2.2.2.1=true then ZaE pl f k else ZkK Key (.int .i64) (ZaE pl f k) (Zqz p) (f k)
  | none=>ZaE pl f k
theorem ZkU {pl:List Pl} {f:Nat→Int} {k:Nat} {p:Pl} (hp:pl[k]?=some p) (h:p.2.2.2.1=true):ZaE pl f (k+1)=ZaE pl f k:=by
 simp only [ZaE,hp,h,if_true]
theorem ZlM {pl:List Pl} {f:Nat→Int} {k:Nat} {p:Pl} (hp:pl[k]?=some p) (h:¬p.2.2.2.1=true):ZaE pl f (k+1)=ZkK Key (.int .i64) (ZaE pl f k) (Zqz p) (f k):=by
 simp only [ZaE,hp,h,if_false]
 rfl
theorem Zhs (d:Za) (f:Nat→Int):∀ (k:Nat),k≤(places d).length→∀ (j:Nat) (p:Pl),j<k→(places d)[j]?=some p→p.2.2.2.1=false→Zhj Key (.int .i64) (ZaE (places d) f k) (Zqz p)=some (f j)
 | 0,_,j,p,hj,_,_=>by omega
 | k+1,hk,j,p,hj,hp,hd=>by
  have hq:(places d)[k]?=some (places d)[k]:=List.getElem?_eq_getElem (by omega)
  generalize (places d)[k]=q at hq
  by_cases hqd:q.2.2.2.1=true
  ·rw [ZkU hq hqd]
   refine Zhs d f k (by omega) j p ?_ hp hd
   by_cases e:j=k
   ·subst e
    rw [hp] at hq
    injection hq with hq
    subst hq
    rw [hqd] at hd;cases hd
   ·omega
  ·rw [ZlM hq hqd]
   by_cases e:j=k
   ·subst e
    rw [hp] at hq
    injection hq with hq
    subst hq
    exact ZmC _ _ _
   ·rw [ZkC _ _ (fun h=>e (ZqB hp hq h))]
    exact Zhs d f k (by omega) j p (by omega) hp hd
theorem Zf1 (d:Za) (f:Nat→Int):Maps (ZaE (places d) f (places d).length) (places d) f:=fun k p hp hd=>Zhs d f _ (Nat.le_refl _) k p (List.getElem?_eq_some_iff.1 hp).1 hp hd
def Zmx (l:List Int) (k:Nat):Int:=(l[k]?).getD 0
theorem Zn2 {l:List Int} {i:Nat} {v:Int} (hi:i<l.length) (k:Nat):Zmx (l.set i v) k=if k=i then v else Zmx l k:=by
 unfold Zmx
 rw [List.getElem?_set]
 by_cases e:i=k
 ·subst e;rw [if_pos rfl,if_pos hi,if_pos rfl];rfl
 ·rw [if_neg e,if_neg (fun q=>e q.symm)]
theorem ZtA {l:List Int} {m:Nat} (hm:m≤l.length) (v:Int) (k:Nat):Zmx (l.take m++[v,0]++l.drop m) k=Zp5 (Zmx l) m v k:=by
 unfold Zmx Zp5
 have hl:(l.take m).length=m:=by rw [List.length_take];omega
 by_cases k1:k<m
 ·rw [if_pos k1,List.append_assoc,List.getElem?_append_left (by omega),List.getElem?_take,if_pos k1]
 ·rw [if_neg k1]
  by_cases k2:k=m
  ·rw [if_pos k2,List.append_assoc,List.getElem?_append_right (by omega),hl,k2,Nat.sub_self];rfl
  ·rw [if_neg k2]
   by_cases k3:k=m+1
   ·rw [if_pos k3,List.append_assoc,List.getElem?_append_right (by omega),hl,k3,show m+1-m=1 by omega];rfl
   ·rw [if_neg k3,List.getElem?_append_right (by rw [List.length_append,hl,List.length_cons,List.length_singleton];omega),List.length_append,hl,List.length_cons,List.length_singleton,List.getElem?_drop]
    congr 2
    omega
theorem Zuz {l:List Int} {m:Nat} (hm:m+2≤l.length) (k:Nat):Zmx (l.take m++l.drop (m+2)) k=ZnL (Zmx l) m k:=by
 unfold Zmx ZnL
 have hl:(l.take m).length=m:=by rw [List.length_take];omega
 by_cases k1:k<m
 ·rw [if_pos k1,List.getElem?_append_left (by omega),List.getElem?_take,if_pos k1]
 ·rw [if_neg k1,List.getElem?_append_right (by omega),hl,List.getElem?_drop]
  congr 2
  omega
end Go.Proofs.YtehkanadahncgaaGreatDoor
/-
  Plain laws: what edits make of designs, of nodes by place.
-/
namespace Go.Proofs.YtehkanadahncgaaGreatDoor
set_option linter.unusedVariables false
set_option linter.unusedSimpArgs false
open Go Go.Sx
theorem Zux {d:Za} {x:Zd} {s:List UInt8} {a b n:Int} (ha:a<((Za.Instances d).length:Int)):conn (addInst d x s) a b n=addInst (conn d a b n) x s:=by
 unfold conn
 by_cases h:a<0
 ·rw [if_pos h,if_pos h];rfl
 ·rw [if_neg h,if_neg h]
  have hlt:a.toNat<(Za.Instances d).length:=by omega
  have hy:=List.getElem?_eq_getElem hlt
  generalize (Za.Instances d)[a.toNat]=y at hy
  have e:(Za.Instances (addInst d x s))[a.toNat]?=some y:=by
   show (Za.Instances d++[x])[a.toNat]?=some y
   rw [List.getElem?_append_left hlt];exact hy
  rw [e,hy]
  have e2:List.set (Za.Instances (addInst d x s)) a.toNat (Zd3 y b.toNat n)=(Za.Instances d).set a.toNat (Zd3 y b.toNat n)++[x]:=by
   show List.set (Za.Instances d++[x]) a.toNat _=_
   rw [List.set_append,if_pos hlt]
  show (List.set (Za.Instances (addInst d x s)) a.toNat (Zd3 y b.toNat n),_)=_
  rw [e2]
  rfl
theorem YM {d:Za} {a b n:Int}:(Za.Instances (conn d a b n)).length=(Za.Instances d).length:=by
 unfold conn
 split
 ·rfl
 ·show (match (Za.Instances d)[a.toNat]? with | some x=>(Za.Instances d).set a.toNat (Zd3 x b.toNat n) | none=>Za.Instances d).length=_
  split
  ·rw [List.length_set]
  ·rfl
theorem Vr {d:Za} {a b n:Int}:Za.ZM (conn d a b n)=Za.ZM d:=by
 unfold conn
 split<;>rfl
theorem ZfX {d:Za} {a b n:Int}:(Za.ZX (conn d a b n)).length=(Za.ZX d).length:=by
 unfold conn
 split
 ·show (match (Za.ZX d)[b.toNat]? with | some x=>(Za.ZX d).set b.toNat (setPort x n) | none=>Za.ZX d).length=_
  split
  ·rw [List.length_set]
  ·rfl
 ·rfl
theorem ZeG {d:Za} {a b n:Int} {i:Nat} {y:Zd} (hy:(Za.Instances (conn d a b n))[i]?=some y):∃ x,(Za.Instances d)[i]?=some x∧Zd.Name y=Zd.Name x∧Zd.Cell y=Zd.Cell x∧(Zd.ZM y).length=(Zd.ZM x).length∧((i:Int)≠a→y=x)∧∀ m∈Zd.ZM y,m∈Zd.ZM x∨m=n:=by
 unfold conn at hy
 split at hy
 ·exact ⟨y,hy,rfl,rfl,rfl,fun _=>rfl,fun m hm=>.inl hm⟩
 ·rename_i h
  have hy:(match (Za.Instances d)[a.toNat]? with | some x=>(Za.Instances d).set a.toNat (Zd3 x b.toNat n) | none=>Za.Instances d)[i]?=some y:=hy
  split at hy
  ·rename_i x hx
   rw [List.getElem?_set] at hy
   split at hy
   ·rename_i e
    split at hy
    ·injection hy with hy
     subst hy
     refine ⟨x,by rw [←e];exact hx,rfl,rfl,List.length_set,fun q=>absurd (by omega) q,fun m hm=>?_⟩
     rcases List.mem_or_eq_of_mem_set hm with hm | hm
     ·exact .inl hm
     ·exact .inr hm
    ·cases hy
   ·exact ⟨y,hy,rfl,rfl,rfl,fun _=>rfl,fun m hm=>.inl hm⟩
  ·exact ⟨y,hy,rfl,rfl,rfl,fun _=>rfl,fun m hm=>.inl hm⟩
theorem Few.conn {d:Za} (h:Few d) (a b n:Int):Few (conn d a b n):=by
 refine ⟨by rw [YM];exact h.insts,by rw [ZfX];exact h.ports,fun y hy=>?_⟩
 obtain ⟨i,hi⟩:=List.getElem?_of_mem hy
 obtain ⟨x,hx,_,_,hl,_⟩:=ZeG hi
 rw [hl]
 exact h.nets x (List.mem_of_getElem? hx)
theorem Few.add {d:Za} (h:Few d) (h13:(Za.Instances d).length≤13) {x:Zd} (hx:(Zd.ZM x).length≤5) (s:List UInt8):Few (addInst d x s):=by
 refine ⟨?_,h.ports,fun y hy=>?_⟩
 ·show (Za.Instances d++[x]).length≤14
  rw [List.length_append,List.length_singleton];omega
 ·rcases List.mem_append.1 (show y∈Za.Instances d++[x] from hy) with hy | hy
  ·exact h.nets y hy
  ·rw [List.mem_singleton] at hy
   subst hy;exact hx
theorem Few.cut {d:Za} (h:Few d):Few (XW d):=by
 refine ⟨?_,h.ports,fun y hy=>h.nets y (List.mem_of_mem_take (show y∈(Za.Instances d).take _ from hy))⟩
 show ((Za.Instances d).take _).length≤14
 rw [List.length_take]
 have:=h.insts
 omega
def Zic (pl:List Pl) (n:Nat):Prop:=∀ p∈pl,p.2.2.2.1=false→0≤p.2.2.1∧p.2.2.1<(n:Int)
theorem Zic.set {pl:List Pl} {n:Nat} (h:Zic pl n) {k0:Nat} {p0:Pl} {m:Int} (h0:0≤m) (h1:m<(n:Int)):Zic (pl.set k0 (p0.1,p0.2.1,m,p0.2.2.2.1,())) n:=by
 intro p hp hd
 rcases List.mem_or_eq_of_mem_set hp with hp | hp
 ·exact h p hp hd
 ·subst hp;exact ⟨h0,h1⟩
def swapped (b:Zb) (i:Int) (c:Int):Zb:=(Zb.Library b,(match (Za.Instances (Zb.Design b))[i.toNat]? with
 | some x=>(Za.Instances (Zb.Design b)).set i.toNat (Zd.Name x,c,Zd.ZM x,())
 | none=>Za.Instances (Zb.Design b),Za.ZM (Zb.Design b),Za.ZX (Zb.Design b),()),Zb.Zw b,())
def mvD (b:Zb) (p:Pl) (n:Int):Za:=conn (Zb.Design b) p.1 p.2.1 n
def mvN (b:Zb) (k:Nat) (v:Int) (j:Nat):Int:=if j=k then v else YV b j
def moved (b:Zb) (k:Nat) (p:Pl) (n v:Int):Zb:=(Zb.Library b,mvD b p n,wired (places (mvD b p n)) (Zb.Zw b) (mvN b k v),())
abbrev Zrd:Zn:=([-1],[0],[0],[],())
def ZnA (b:Zb) (e:Zf) (p:Pl):Zd:=(Zf.Name e,Zf.Cell e,[p.2.2.1,((Za.ZM (Zb.Design b)).length:Int)],())
def Zpl (b:Zb) (e:Zf) (p:Pl):Za:=addInst (conn (Zb.Design b) p.1 p.2.1 ((Za.ZM (Zb.Design b)).length:Int)) (ZnA b e p) (Zf.Name e)
def ZqM (b:Zb) (k:Nat):Nat:=if k<Yz (Zb.Design b) then k else k+2
def ZwY (b:Zb) (k:Nat) (j:Nat):Int:=if j=ZqM b k then 0 else Zp5 (YV b) (Yz (Zb.Design b)) (YV b k) j
def buffered (b:Zb) (e:Zf) (k:Nat) (p:Pl):Zb:=(Zb.Library b,Zpl b e p,wired (places (Zpl b e p)) (Zb.Zw b++[Zrd]) (ZwY b k),())
def unD (b:Zb) (p:Pl) (m:Int):Za:=XW (conn (Zb.Design b) p.1 p.2.1 m)
def unN (b:Zb) (k:Nat):Nat→Int:=ZnL (mvN b k (YV b (Yz (Zb.Design b)-2))) (Yz (Zb.Design b)-2)
def ZjY (b:Zb) (k:Nat) (p:Pl) (m:Int):Zb:=(Zb.Library b,unD b p m,wired (places (unD b p m)) ((Zb.Zw b).take ((Zb.Zw b).length-1)) (unN b k),())
def ZuL (b:Zb) (n:Int) (w:Zn):Zb:=(Zb.Library b,Zb.Design b,(Zb.Zw b).set n.toNat w,())
end Go.Proofs.YtehkanadahncgaaGreatDoor
/-
  Plain laws: clones are what they are made of.
-/
namespace Go.Proofs.YtehkanadahncgaaGreatDoor
set_option linter.unusedVariables false
set_option linter.unusedSimpArgs false
open Go Go.Sx
theorem ZbH {α:Type} {l:List α} {k:Nat} {x:α} (hx:l[k]?=some x):l.set k x=l:=by
 apply List.ext_getElem?
 intro j
 rw [List.getElem?_set]
 split
 ·rename_i e;subst e
  rw [if_pos (List.getElem?_eq_some_iff.1 hx).1,hx]
 ·rfl
theorem Zcp (l:List Int) (h:l.length≤1048576):Z7 l=some l:=by
 unfold Z7
 rw [Zi (by rw [List.length_nil];omega)];rfl
theorem ZdW (l:List Int) (h:l.length≤1048576):Xc l=some l:=by
 unfold Xc
 rw [Zi (by rw [List.length_nil];omega)];rfl
theorem ZdT (w:Zn) (hw:sm XR w):Vt w=some w:=by
 obtain ⟨a1,a2,a3,a4⟩:=Zir hw
 unfold Vt
 rw [Zcp _ (Zm a1),Option.bind_some,Zcp _ (Zm a2),Option.bind_some,Zcp _ (Zm a3),Option.bind_some,Zcp _ (Zm a4),Option.bind_some]
theorem Zfi (w:Zn) (hw:sm XR w):Vq w=some w:=by
 obtain ⟨a1,a2,a3,a4⟩:=Zir hw
 unfold Vq
 rw [ZdW _ (Zm a1),Option.bind_some,ZdW _ (Zm a2),Option.bind_some,ZdW _ (Zm a3),Option.bind_some,ZdW _ (Zm a4),Option.bind_some]
theorem Zh7 (d:Za) (hd:sm Yr d):Ju d=some d:=by
 obtain ⟨s1,s2,s3⟩:=ZbJ hd
 have l1:=Zm s1
 have l2:=Zm s2
 have l3:=Zm s3
 unfold Ju Yu Xn YR
 rw [Zi (by rw [List.length_nil];omega),Option.bind_some,Zi (by rw [List.length_nil];omega),Option.bind_some,Zi (by rw [List.length_nil];omega),Option.bind_some]
 simp only [List.nil_append]
 refine YH (l:=Za.Instances d) (fun k=>((k:Int),(Za.Instances d,(k:Int)),())) (fun k x hx hk=>?_) ?_
 ·have hx2:=Zcp (Zd.ZM x) (Zm (Zie (Jz s1 hx)).2)
  simp only [QH,show (k:Int)<((Za.Instances d).length:Int) by omega,if_true,Zu,hx,Option.bind_some,Int.le_refl,hx2,Zi trivial,JJ (show k≤1048576 by omega),Int.toNat_natCast]
  rw [show List.set (Za.Instances d) k (Zd.Name x,Zd.Cell x,Zd.ZM x,())=Za.Instances d from ZbH hx]
  rfl
 ·simp only [QH,Int.lt_irrefl,if_false,Zi trivial]
theorem Zfl (l:List Zv) (hl:sm (.sl YP) l):VN l=some l:=by
 have h1:=Zm hl
 unfold VN
 have:=YH (l:=l) (fun k=>(l.take k,(k:Int),())) (step:=fun v=>XJ l v.1 v.2.1) (good:=l) (fun k x hx hk=>by
  have hs:sm YP x:=Jz hl hx
  have e1:=Zcp (Zv.ZfN x) (Zm (t:=.int .i64) hs.1)
  have e2:=Zcp (Zv.Loads x) (Zm (t:=.int .i64) hs.2.1)
  have e3:=Zcp (Zv.Values x) (Zm (t:=.int .i64) hs.2.2.1)
  have hg:((l.take k).length+[(Zv.ZfN x,Zv.Loads x,Zv.Values x,())].length)*72≤140737488355328:=by rw [List.length_take,List.length_singleton];omega
  simp only [XJ,show (k:Int)<(l.length:Int) by omega,if_true,Zu,hx,Option.bind_some,e1,e2,e3,Zi hg,JJ (show k≤1048576 by omega)]
  rw [YA hx]) (by
  simp only [XJ,Int.lt_irrefl,if_false,List.take_length])
 simpa using this
theorem Zh5 (a:Zk) (ha:sm YE a):Jj a=some a:=by
 have hc:=ZmR ha
 have h1:=Zm hc
 unfold Jj
 have:=YH (l:=Zk.Cells a) (fun k=>((k:Int),(Zk.Cells a).take k,())) (step:=fun v=>Xz a v.1 v.2.1) (good:=a) (fun k x hx hk=>by
  have hs:sm XY x:=Jz hc hx
  have p1:sm (.sl ZcH) (Zh.YC x):=hs.2.2.1
  have p2:sm (.sl ZeP) (Zh.Za7 x):=hs.2.2.2.1
  have p3:sm (.sl (.int .i64)) (Zh.Truth x):=hs.2.2.2.2.1
  have l1:=Zm p1
  have l2:=Zm p2
  have l3:=Zm p3
  simp only [Xz,show (k:Int)<((Zk.Cells a).length:Int) by omega,if_true,Zu,hx,Option.bind_some]
  unfold YZ Y0
  rw [Zi (by rw [List.length_nil];omega),Option.bind_some,Zcp _ l3,Option.bind_some,Zi (by rw [List.length_nil];omega),Option.bind_some]
  simp only [List.nil_append]
  have hg:∀ y:Zh,(((Zk.Cells a).take k).length+[y].length)*112≤140737488355328:=fun y=>by rw [List.length_take,List.length_singleton];omega
  refine YH (l:=Zh.Za7 x) (fun j=>((j:Int),(Zh.Za7 x,(j:Int)),())) (fun j y hy hj=>?_) ?_
  ·obtain ⟨q1,q2⟩:=ZuE (Jz p2 hy)
   simp only [QB,show (j:Int)<((Zh.Za7 x).length:Int) by omega,if_true,Zu,hy,Option.bind_some,Int.le_refl,Zfl _ q1,Zfl _ q2,Zi trivial,JJ (show j≤1048576 by omega),Int.toNat_natCast]
   rw [show List.set (Zh.Za7 x) j (ZT.Kind y,ZT.From y,ZT.To y,ZT.ZcB y,ZT.Delay y,ZT.Zih y,())=Zh.Za7 x from ZbH hy]
   rfl
  ·simp only [QB,Int.lt_irrefl,if_false,Zi trivial,Zi (hg _),JJ (show k≤1048576 by omega)]
   rw [YA hx]) (by
  simp only [Xz,Int.lt_irrefl,if_false,List.take_length])
 simpa using this
theorem Zba (b:Zb) (hb:sm YL b):QT b=some b:=by
 obtain ⟨b1,b2,b3⟩:=ZaJ hb
 have h1:=Zm b3
 unfold QT
 rw [Zh5 _ b1,Option.bind_some,Zh7 _ b2,Option.bind_some]
 have:=YH (l:=Zb.Zw b) (fun k=>((k:Int),(Zb.Zw b).take k,())) (step:=fun v=>XO b (Zb.Library b) (Zb.Design b) v.1 v.2.1) (good:=b) (fun k x hx hk=>by
  have hg:(((Zb.Zw b).take k).length+[x].length)*96≤140737488355328:=by rw [List.length_take,List.length_singleton];omega
  simp only [XO,show (k:Int)<((Zb.Zw b).length:Int) by omega,if_true,Zu,hx,Option.bind_some,ZdT x (Jz b3 hx),Zi hg,JJ (show k≤1048576 by omega)]
  rw [YA hx]) (by
  simp only [XO,Int.lt_irrefl,if_false,List.take_length])
 simpa using this
end Go.Proofs.YtehkanadahncgaaGreatDoor
/-
  Plain laws: the nodes of all sinks, by key (program) and by place (reference).
-/
namespace Go.Proofs.YtehkanadahncgaaGreatDoor
set_option linter.unusedVariables false
set_option linter.unusedSimpArgs false
open Go Go.Sx
theorem Zu4 {pl:List Pl} {k:Nat} {p:Pl} (hp:pl[k]?=some p) (h2:p.2.2.2.1=false):nth pl p.2.2.1 (k+1)=nth pl p.2.2.1 k+1:=by
 unfold nth
 rw [ZgK hp,Zhm rfl h2,List.length_append,List.length_singleton]
theorem ZuI {pl:List Pl} {net:Int} {k:Nat} {p:Pl} (hp:pl[k]?=some p) (h:¬(p.2.2.1=net∧p.2.2.2.1=false)):nth pl net (k+1)=nth pl net k:=by
 unfold nth
 rw [ZgK hp,Zhr h,List.append_nil]
def seen (pl:List Pl) (n k:Nat):List Int:=(List.range n).map (fun (v:Nat)=>((nth pl (v:Int) k:Nat):Int))
theorem Zlw {pl:List Pl} {n k v:Nat} (hv:v<n):(seen pl n k)[v]?=some ((nth pl (v:Int) k:Nat):Int):=by
 unfold seen
 rw [List.getElem?_map,List.getElem?_range hv];rfl
theorem ZsE (pl:List Pl) (n:Nat):List.replicate n (0:Int)=seen pl n 0:=by
 apply List.ext_getElem?
 intro v
 by_cases hv:v<n
 ·rw [Zlw hv,List.getElem?_replicate,if_pos hv]
  unfold nth
  simp [cat]
 ·rw [List.getElem?_eq_none (by simp;omega),List.getElem?_eq_none (by unfold seen;simp;omega)]
theorem ZtB {pl:List Pl} {n k:Nat} {p:Pl} (hp:pl[k]?=some p) (h2:p.2.2.2.1=false) (h0:0≤p.2.2.1) (h1:p.2.2.1<(n:Int)):(seen pl n k).set p.2.2.1.toNat (((nth pl p.2.2.1 k+1:Nat):Int))=seen pl n (k+1):=by
 apply List.ext_getElem?
 intro v
 by_cases hv:v<n
 ·rw [List.getElem?_set,Zlw hv,Zlw hv]
  split
  ·rename_i e
   rw [if_pos (by unfold seen;simp;omega)]
   subst e
   rw [show ((p.2.2.1.toNat:Nat):Int)=p.2.2.1 by omega,Zu4 hp h2]
  ·rename_i e
   rw [ZuI hp (fun q=>e (by have:=q.1;omega))]
 ·rw [List.getElem?_eq_none (by unfold seen;simp;omega),List.getElem?_eq_none (by unfold seen;simp;omega)]
theorem Zvb {pl:List Pl} {n k:Nat} {p:Pl} (hp:pl[k]?=some p) (h2:p.2.2.2.1=true):seen pl n (k+1)=seen pl n k:=by
 unfold seen
 apply List.map_congr_left
 intro v _
 rw [ZuI hp (fun q=>by rw [h2] at q;cases q.2)]
theorem ZpE {b:Zb} (h:ZaQ b) {k:Nat} {p:Pl} (hp:(places (Zb.Design b))[k]?=some p) (h2:p.2.2.2.1=false) :
  ∃ w,atI (Zb.Zw b) p.2.2.1=some w∧(Zb.Zw b)[p.2.2.1.toNat]?=some w∧atI (Zn.Zfx w) ((nth (places (Zb.Design b)) p.2.2.1 k:Nat):Int)=some (YV b k)∧Zb1 w ((sinks (Zb.Design b) p.2.2.1).length:Int):=by
 have hn:=ZaH h.ok.1 (List.mem_of_getElem? hp)
 obtain ⟨w,hw1,hw2,hw3⟩:=ZiV h hn
 have hlt:=ZsZ hp rfl h2
 have hs:=hw3.2.2.2.1
 have hlt2:nth (places (Zb.Design b)) p.2.2.1 k<(Zn.Zfx w).length:=by
  have:(sinks (Zb.Design b) p.2.2.1).length=(cat (Za5 p.2.2.1) 0 (places (Zb.Design b))).length:=rfl
  omega
 refine ⟨w,hw2,hw1,?_,hw3⟩
 rw [Zu]
 have e:YV b k=((Zn.Zfx w)[nth (places (Zb.Design b)) p.2.2.1 k]?).getD 0:=by
  unfold YV
  simp only [hp,h2,hw1]
  rfl
 rw [e,List.getElem?_eq_getElem hlt2]
 rfl
theorem Zdy {b:Zb} (h:ZaQ b):Xi b=some (ZaE (places (Zb.Design b)) (YV b) (places (Zb.Design b)).length):=by
 have hf:=h.ok.1.few
 have hpl:=Qn hf
 have h30:=h.ok.1.2.1.2.1
 have hwn:=h.ok.2.1
 have hwl:(Zb.Zw b).length≤1048576:=Zm (ZaJ h.sm).2.2
 unfold Xi
 rw [Zi (by omega),Zi (by omega),Zi (by omega),Zi (by omega),Yl _ hf,Option.bind_some,Int.toNat_natCast,ZsE (places (Zb.Design b))]
 refine YH (l:=places (Zb.Design b)) (fun k=>((k:Int),ZaE (places (Zb.Design b)) (YV b) k,seen (places (Zb.Design b)) (Zb.Zw b).length k,())) (fun k p hp hk=>?_) ?_
 ·simp only [Qd,show (k:Int)<((places (Zb.Design b)).length:Int) by omega,if_true,Zu,hp,Option.bind_some,JJ (show k≤1048576 by omega)]
  have e1:Yc.drives p=p.2.2.2.1:=rfl
  have e2:Yc.net p=p.2.2.1:=rfl
  by_cases h2:p.2.2.2.1=true
  ·rw [e1,if_pos h2,ZkU hp h2,Zvb hp h2]
  ·have h2':p.2.2.2.1=false:=by simpa using h2
   obtain ⟨w,hw1,hw2,hw3,hw4⟩:=ZpE h hp h2'
   have hn:=ZaH h.ok.1 (List.mem_of_getElem? hp)
   have hv:p.2.2.1<((Zb.Zw b).length:Int):=by have:=hn.2;omega
   have hs:atI (seen (places (Zb.Design b)) (Zb.Zw b).length k) p.2.2.1=some ((nth (places (Zb.Design b)) p.2.2.1 k:Nat):Int):=by
    refine QY hn.1 ?_
    rw [Zlw (by have:=hn.1;omega),show ((p.2.2.1.toNat:Nat):Int)=p.2.2.1 by have:=hn.1;omega]
   have hlt:=ZsZ hp rfl h2'
   have hlc:=Zfw p.2.2.1 (places (Zb.Design b)) 0
   rw [e1,if_neg h2,e2,hw1,Option.bind_some,hs,Option.bind_some,hw3,Option.bind_some,JJ (show nth (places (Zb.Design b)) p.2.2.1 k≤1048576 by omega),ZtB hp h2' hn.1 hv,ZlM hp h2]
   rfl
 ·simp only [Qd,Int.lt_irrefl,if_false]
end Go.Proofs.YtehkanadahncgaaGreatDoor
/-
  Plain laws: the reference's nodes by place.
-/
namespace Go.Proofs.YtehkanadahncgaaGreatDoor
set_option linter.unusedVariables false
set_option linter.unusedSimpArgs false
open Go Go.Sx
theorem Zq7 {pl:List Pl} {net:Int}:∀ (n:Nat),n≤pl.length→∀ (i:Nat) (x:Int),(cat (Za5 net) 0 (pl.take n))[i]?=some x→
  ∃ (k:Nat) (p:Pl),k<n∧pl[k]?=some p∧x=(k:Int)∧p.2.2.1=net∧p.2.2.2.1=false∧nth pl net k=i
 | 0,_,i,x,h=>by simp [cat] at h
 | n+1,hn,i,x,h=>by
  have hp:pl[n]?=some pl[n]:=List.getElem?_eq_getElem (by omega)
  generalize pl[n]=p at hp
  rw [ZgK hp] at h
  by_cases hi:i<(cat (Za5 net) 0 (pl.take n)).length
  ·rw [List.getElem?_append_left hi] at h
   obtain ⟨k,q,a,r⟩:=Zq7 n (by omega) i x h
   exact ⟨k,q,by omega,r⟩
  ·rw [List.getElem?_append_right (by omega)] at h
   by_cases hs:p.2.2.1=net∧p.2.2.2.1=false
   ·rw [Zhm hs.1 hs.2] at h
    have h0:=(List.getElem?_eq_some_iff.1 h).1
    rw [List.length_singleton] at h0
    rw [show i-(cat (Za5 net) 0 (pl.take n)).length=0 by omega] at h
    injection h with h
    exact ⟨n,p,by omega,hp,h.symm,hs.1,hs.2,by unfold nth;omega⟩
   ·rw [Zhr hs] at h
    cases h
theorem Zot {pl:List Pl} {net:Int} {i:Nat} {x:Int} (h:(cat (Za5 net) 0 pl)[i]?=some x) :
  ∃ (k:Nat) (p:Pl),pl[k]?=some p∧x=(k:Int)∧p.2.2.1=net∧p.2.2.2.1=false∧nth pl net k=i:=by
 obtain ⟨k,p,_,r⟩:=Zq7 (pl:=pl) (net:=net) pl.length (Nat.le_refl _) i x (by rw [List.take_length];exact h)
 exact ⟨k,p,r⟩
def filled (b:Zb) (P:Nat→Pl→Bool):List Int:=cat (fun k p=>[if P k p=true then YV b k else 0]) 0 (places (Zb.Design b))
theorem Zcm (b:Zb) (P:Nat→Pl→Bool) (k:Nat):(filled b P)[k]?=((places (Zb.Design b))[k]?).map (fun p=>if P k p=true then YV b k else 0):=by
 unfold filled
 rw [ZbZ,Nat.zero_add]
theorem ZkD (b:Zb) (P:Nat→Pl→Bool):(filled b P).length=(places (Zb.Design b)).length:=Zax _ _
theorem ZkR {b:Zb} {P Q:Nat→Pl→Bool} (h:∀ (k:Nat) (p:Pl),(places (Zb.Design b))[k]?=some p→P k p=Q k p):filled b P=filled b Q:=by
 apply List.ext_getElem?
 intro k
 rw [Zcm,Zcm]
 cases hp:(places (Zb.Design b))[k]? with
 | none=>rfl
 | some p=>simp only [Option.map_some,h k p hp]
def ZtT (v:Nat) (k:Nat) (p:Pl):Bool:=decide (p.2.2.1<(v:Int))&&!p.2.2.2.1
def pIn (b:Zb) (v i:Nat) (k:Nat) (p:Pl):Bool:=!p.2.2.2.1&&(decide (p.2.2.1<(v:Int))||(decide (p.2.2.1=(v:Int))&&decide (nth (places (Zb.Design b)) (v:Int) k<i)))
def ZaR (b:Zb):List Int:=filled b (fun _ _=>true)
theorem Zgd {b:Zb} {k:Nat} (hk:k<(places (Zb.Design b)).length):(ZaR b)[k]?=some (YV b k):=by
 unfold ZaR
 rw [Zcm,List.getElem?_eq_getElem hk]
 rfl
theorem ZaA (b:Zb):(ZaR b).length=(places (Zb.Design b)).length:=ZkD _ _
theorem ZcG {b:Zb} (h:ZaQ b):V6 b=some (ZaR b):=by
 have hf:=h.ok.1.few
 have hpl:=Qn hf
 have h30:=h.ok.1.2.1.2.1
 have hwn:=h.ok.2.1
 have hwl:(Zb.Zw b).length≤1048576:=Zm (ZaJ h.sm).2.2
 have first:List.replicate (places (Zb.Design b)).length (0:Int)=filled b (ZtT 0):=by
  apply List.ext_getElem?
  intro k
  rw [Zcm,List.getElem?_replicate]
  split
  ·rename_i hk
   have hp:=List.getElem?_eq_getElem hk
   rw [hp]
   have hn:=(ZaH h.ok.1 (List.mem_of_getElem? hp)).1
   rw [Option.map_some,if_neg]
   unfold ZtT
   simp only [Bool.and_eq_true,decide_eq_true_eq,not_and]
   intro q;omega
  ·rw [List.getElem?_eq_none (by omega)];rfl
 have last:filled b (ZtT (Zb.Zw b).length)=ZaR b:=by
  apply List.ext_getElem?
  intro k
  unfold ZaR
  rw [Zcm,Zcm]
  cases hp:(places (Zb.Design b))[k]? with
  | none=>rfl
  | some p =>
   have hn:=(ZaH h.ok.1 (List.mem_of_getElem? hp)).2
   simp only [Option.map_some,if_true]
   by_cases h2:p.2.2.2.1=true
   ·have:YV b k=0:=by unfold YV;simp only [hp,h2,if_true]
    simp only [this,ite_self]
   ·rw [if_pos]
    unfold ZtT
    simp only [Bool.and_eq_true,decide_eq_true_eq,Bool.not_eq_true']
    exact ⟨by omega,by simpa using h2⟩
 unfold V6
 rw [Qg _ hf,Option.bind_some,Zi (by omega),Zi (by omega),Zi (by omega),Zi (by omega),Int.toNat_natCast,first]
 refine YH (l:=Zb.Zw b) (fun v=>((v:Int),filled b (ZtT v),())) (fun v w hw hv=>?_) ?_
 ·simp only [JD,show (v:Int)<((Zb.Zw b).length:Int) by omega,if_true,VO _ _ hf,Option.bind_some]
  have e0:filled b (ZtT v)=filled b (pIn b v 0):=ZkR fun k p _=>by unfold ZtT pIn;simp [Bool.and_comm]
  have e1:filled b (pIn b v (sinks (Zb.Design b) (v:Int)).length)=filled b (ZtT (v+1)):=ZkR fun k p hp=>by
   unfold ZtT pIn
   by_cases h2:p.2.2.2.1=true
   ·simp [h2]
   ·have h2':p.2.2.2.1=false:=by simpa using h2
    rw [h2',Bool.not_false,Bool.true_and,Bool.and_true]
    by_cases hq:p.2.2.1=(v:Int)
    ·have hlt:nth (places (Zb.Design b)) (v:Int) k<(sinks (Zb.Design b) (v:Int)).length:=ZsZ hp hq h2'
     rw [decide_eq_true hlt,decide_eq_true hq,decide_eq_true (show p.2.2.1<((v+1:Nat):Int) by omega)]
     simp
    ·rw [decide_eq_false hq,Bool.false_and,Bool.or_false]
     exact decide_eq_decide.2 (by omega)
  rw [e0]
  refine YH (l:=sinks (Zb.Design b) (v:Int)) (fun i=>((i:Int),filled b (pIn b v i),())) (fun i x hx hi=>?_) ?_
  ·obtain ⟨k,p,hp,ex,hn,h2,hnth⟩:=Zot (pl:=places (Zb.Design b)) hx
   obtain ⟨w',hw1,hw2,hw3,hw4⟩:=ZpE h hp h2
   have hk:=(List.getElem?_eq_some_iff.1 hp).1
   have hlc:=Zfw (v:Int) (places (Zb.Design b)) 0
   have hlc2:(sinks (Zb.Design b) (v:Int)).length≤(places (Zb.Design b)).length:=hlc
   rw [hn,hnth] at hw3
   rw [hn] at hw1
   have hfk:(filled b (pIn b v i))[k]?=some ((filled b (pIn b v i))[k]'(by rw [ZkD];exact hk)):=List.getElem?_eq_getElem _
   simp only [JG,show (i:Int)<((sinks (Zb.Design b) (v:Int)).length:Int) by omega,if_true,Zu,hx,Option.bind_some,←Zu (Zb.Zw b),hw1,←Zu (Zn.Zfx w'),hw3,JJ (show i≤1048576 by omega)]
   subst ex
   rw [Zu,hfk,Option.bind_some,Int.toNat_natCast]
   have:List.set (filled b (pIn b v i)) k (YV b k)=filled b (pIn b v (i+1)):=by
    apply List.ext_getElem?
    intro j
    rw [List.getElem?_set,ZkD]
    split
    ·rename_i e
     subst e
     rw [Zcm,hp,Option.map_some,if_pos]
     unfold pIn
     rw [h2,hnth]
     simp [hn]
    ·rename_i e
     rw [Zcm,Zcm]
     cases hq:(places (Zb.Design b))[j]? with
     | none=>rfl
     | some q =>
      have:pIn b v i j q=pIn b v (i+1) j q:=by
       unfold pIn
       by_cases h3:q.2.2.2.1=true
       ·simp [h3]
       ·have h3':q.2.2.2.1=false:=by simpa using h3
        by_cases hqn:q.2.2.1=(v:Int)
        ·have hne:nth (places (Zb.Design b)) (v:Int) j≠i:=by
          intro hh
          have h4:=ZjA hq hqn h3'
          rw [hh] at h4
          have h5:(cat (Za5 (v:Int)) 0 (places (Zb.Design b)))[i]?=some (k:Int):=hx
          rw [h5] at h4
          injection h4 with h4
          omega
         rw [show decide (nth (places (Zb.Design b)) (v:Int) j<i)=decide (nth (places (Zb.Design b)) (v:Int) j<i+1) from decide_eq_decide.2 (by omega)]
        ·rw [decide_eq_false hqn,Bool.false_and,Bool.false_and]
      rw [Option.map_some,Option.map_some,this]
   rw [this]
  ·simp only [JG,Int.lt_irrefl,if_false,JJ (show v≤1048576 by omega),e1]
 ·simp only [JD,Int.lt_irrefl,if_false,last]
end Go.Proofs.YtehkanadahncgaaGreatDoor
/-
  Plain laws: sinks put in anew, a place put on another net, a buffer taken away.
-/
namespace Go.Proofs.YtehkanadahncgaaGreatDoor
set_option linter.unusedVariables false
set_option linter.unusedSimpArgs false
open Go Go.Sx
def wip (ws:List Zn) (k:Nat):List Zn:=cat (fun j w=>[if j<k then Zev w [] else w]) 0 ws
theorem Zkp (ws:List Zn) (k v:Nat):(wip ws k)[v]?=(ws[v]?).map (fun w=>if v<k then Zev w [] else w):=by
 unfold wip
 rw [ZbZ,Nat.zero_add]
theorem Zvh (ws:List Zn) (k:Nat):(wip ws k).length=ws.length:=Zax _ _
theorem Ztn (ws:List Zn):wip ws 0=ws:=by
 apply List.ext_getElem?
 intro v
 rw [Zkp]
 simp
theorem Zvl (pl:List Pl) (ws:List Zn) (nd:Nat→Int):wip ws ws.length=Zfn pl ws nd 0:=by
 apply List.ext_getElem?
 intro v
 unfold Zfn
 rw [Zkp,ZdQ]
 cases hv:ws[v]? with
 | none=>rfl
 | some w =>
  have:=(List.getElem?_eq_some_iff.1 hv).1
  simp only [Option.map_some,if_pos this,List.take_zero,cat,List.map_nil]
theorem ZtR {ws:List Zn} {k:Nat} {w:Zn} (hw:ws[k]?=some w):(wip ws k)[k]?=some w∧(wip ws k).set k (Zev w [])=wip ws (k+1):=by
 constructor
 ·rw [Zkp,hw];simp
 ·apply List.ext_getElem?
  intro v
  rw [List.getElem?_set,Zvh]
  split
  ·rename_i e
   subst e
   rw [if_pos (List.getElem?_eq_some_iff.1 hw).1,Zkp,hw,Option.map_some,if_pos (by omega)]
  ·rw [Zkp,Zkp]
   congr 1
   funext w'
   by_cases h:v<k
   ·rw [if_pos h,if_pos (by omega)]
   ·rw [if_neg h,if_neg (by omega)]
theorem Zfd {b:Zb} {nodes:ZiN} {nd:Nat→Int} (hf:Few (Zb.Design b)) (hm:Maps nodes (places (Zb.Design b)) nd) (hn:Zic (places (Zb.Design b)) (Zb.Zw b).length) (hw:(Zb.Zw b).length≤1048576) :
  Xh b nodes=some (Zb.Library b,Zb.Design b,wired (places (Zb.Design b)) (Zb.Zw b) nd,()):=by
 have hpl:=Qn hf
 unfold Xh
 have:=YH (l:=Zb.Zw b) (fun k=>((k:Int),wip (Zb.Zw b) k,())) (step:=fun v=>Xl b nodes v.1 v.2.1) (good:=(Zb.Library b,Zb.Design b,wired (places (Zb.Design b)) (Zb.Zw b) nd,())) (fun k w hk hlt=>by
  obtain ⟨a1,a2⟩:=ZtR hk
  simp only [Xl,show (k:Int)<((Zb.Zw b).length:Int) by omega,if_true,Zu,a1,Option.bind_some,JJ (show k≤1048576 by omega),Int.toNat_natCast]
  rw [←a2]
  rfl) (by
  simp only [Xl,Int.lt_irrefl,if_false,Yl _ hf,Option.bind_some,Zvl (places (Zb.Design b)) (Zb.Zw b) nd]
  refine YH (l:=places (Zb.Design b)) (fun k=>((k:Int),Zfn (places (Zb.Design b)) (Zb.Zw b) nd k,())) (fun k p hp hk=>?_) ?_
  ·simp only [Qh,show (k:Int)<((places (Zb.Design b)).length:Int) by omega,if_true,Zu,hp,Option.bind_some,JJ (show k≤1048576 by omega)]
   have e1:Yc.drives p=p.2.2.2.1:=rfl
   have e2:Yc.net p=p.2.2.1:=rfl
   have e3:Zhj Za2 (Ty.int IntKind.i64) nodes (Yc.instance p,Yc.pin p,())=Zhj Key (.int .i64) nodes (Zqz p):=rfl
   by_cases h2:p.2.2.2.1=true
   ·rw [e1,if_pos h2,ZoZ hp h2]
   ·have h2':p.2.2.2.1=false:=by simpa using h2
    obtain ⟨h0,h1⟩:=hn p (List.mem_of_getElem? hp) h2'
    have hwk:(Zb.Zw b)[p.2.2.1.toNat]?=some ((Zb.Zw b)[p.2.2.1.toNat]'(by omega)):=List.getElem?_eq_getElem (by omega)
    obtain ⟨w1,w2⟩:=Zpc (nd:=nd) hp h2' h0 hwk
    have hl:=Zfw p.2.2.1 ((places (Zb.Design b)).take k) 0
    rw [e1,if_neg h2,e2,QY h0 w1,Option.bind_some,e3,hm k p hp h2',Zi (by
     show ((List.map _ _).length+1)*8≤_
     rw [List.length_map]
     rw [List.length_take] at hl
     omega),←w2]
    rfl
  ·simp only [Qh,Int.lt_irrefl,if_false]
   unfold Zfn
   rw [List.take_length])
 rw [Ztn] at this
 exact this
theorem ZfQ {b:Zb} {k:Nat} {p:Pl} (hp:(places (Zb.Design b))[k]?=some p) (n:Int):Qk b (p.1,p.2.1,()) n=some (Zb.Library b,conn (Zb.Design b) p.1 p.2.1 n,Zb.Zw b,()):=by
 unfold Qk conn
 rcases JU hp with ⟨i,j,x,m,hx,hn,e,rfl⟩ | ⟨j,q,hq,e,rfl⟩
 ·have c:¬((i:Int)<0):=by omega
  simp only [Zd0,J2.instance,J2.pin,if_neg c,Zu,hx,Option.bind_some,Int.toNat_natCast]
  have hn2:x.2.2.1[j]?=some m:=hn
  rw [hn2]
  rfl
 ·have c:((-1:Int)<0):=by omega
  simp only [J2.instance,J2.pin,if_pos c,Zu,hq,Option.bind_some,Int.toNat_natCast]
  rfl
theorem Zjk {d:Za} (hn:0<(Za.Instances d).length) {p:Pl} (h:p∈places (XW d)):p∈places d:=by
 have hx:(Za.Instances d)[(Za.Instances d).length-1]?=some (Za.Instances d)[(Za.Instances d).length-1]:=List.getElem?_eq_getElem (by omega)
 rw [Zh1 (s:=[]) hn hx,Zf8]
 unfold places at h
 rcases List.mem_append.1 h with h | h
 ·exact List.mem_append_left _ (List.mem_append_left _ h)
 ·exact List.mem_append_right _ h
theorem ZjH.sink {b:Zb} (h:ZaQ b) (hL:ZjH b):∃ (k:Nat) (p:Pl),sinks (Zb.Design b) (((Za.ZM (Zb.Design b)).length:Int)-1)=[(k:Int)]∧(places (Zb.Design b))[k]?=some p∧p.2.2.1=((Za.ZM (Zb.Design b)).length:Int)-1∧p.2.2.2.1=false∧p.1≠((Za.Instances (Zb.Design b)).length:Int)-1:=by
 obtain ⟨x,c,w,m,hn,hx,hc,hk1,hk2,hl2,hm,hl,hne,hnm,hw,hs1,hs2,hp1,hc0⟩:=hL
 match hs:sinks (Zb.Design b) (((Za.ZM (Zb.Design b)).length:Int)-1),hs2 with
 | [v],_ =>
  obtain ⟨k,p,hp,e,h1,h2,_⟩:=Zot (pl:=places (Zb.Design b)) (net:=((Za.ZM (Zb.Design b)).length:Int)-1) (i:=0) (x:=v) (by
   show (sinks (Zb.Design b) (((Za.ZM (Zb.Design b)).length:Int)-1))[0]?=some v
   rw [hs];rfl)
  subst e
  refine ⟨k,p,rfl,hp,h1,h2,fun q=>?_⟩
  rcases JU hp with ⟨i,j,y,n,hy,hnj,_,rfl⟩ | ⟨j,y,_,_,rfl⟩
  ·simp only [Zd0] at q h1 h2
   have ei:i=(Za.Instances (Zb.Design b)).length-1:=by omega
   rw [ei,hx] at hy
   injection hy with hy
   subst hy
   have hj:=(List.getElem?_eq_some_iff.1 hnj).1
   rw [hl2] at h2 hj
   have:j=0∨j=1:=by omega
   rcases this with rfl | rfl
   ·rw [show atI (Zd.ZM x) 0=(Zd.ZM x)[0]? from rfl,hnj] at hm
    injection hm with hm
    exact hne (hm.symm.trans h1)
   ·exact absurd h2 (by simp only [decide_eq_false_iff_not,Classical.not_not];rw [Vy (by omega) (by omega)];rfl)
  ·simp only at q
   omega
end Go.Proofs.YtehkanadahncgaaGreatDoor
/-
  Plain laws: a buffer taken away; inverse edits.
-/
namespace Go.Proofs.YtehkanadahncgaaGreatDoor
set_option linter.unusedVariables false
set_option linter.unusedSimpArgs false
open Go Go.Sx
theorem ZsK {b:Zb} (h:ZaQ b) {k:Nat} {p:Pl} {m:Int} (hn:0<(Za.Instances (Zb.Design b)).length) (hs:sinks (Zb.Design b) (((Za.ZM (Zb.Design b)).length:Int)-1)=[(k:Int)]) (hp:(places (Zb.Design b))[k]?=some p) (h0:0≤m) (h1:m<((Za.ZM (Zb.Design b)).length:Int)-1) :
  Zic (places (unD b p m)) ((Zb.Zw b).length-1):=by
 have hwn:=h.ok.2.1
 have hD:Zic (places (conn (Zb.Design b) p.1 p.2.1 m)) ((Zb.Zw b).length-1):=by
  rw [Vf hp]
  intro q hq hd
  obtain ⟨j,hj⟩:=List.getElem?_of_mem hq
  rw [List.getElem?_set] at hj
  split at hj
  ·split at hj
   ·injection hj with hj
    subst hj
    exact ⟨h0,by show m<_;omega⟩
   ·cases hj
  ·rename_i e
   have hnet:=ZaH h.ok.1 (List.mem_of_getElem? hj)
   refine ⟨hnet.1,?_⟩
   by_cases hq2:q.2.2.1=((Za.ZM (Zb.Design b)).length:Int)-1
   ·have h3:=ZjA hj hq2 hd
    have h4:(sinks (Zb.Design b) (((Za.ZM (Zb.Design b)).length:Int)-1))[nth (places (Zb.Design b)) (((Za.ZM (Zb.Design b)).length:Int)-1) j]?=some (j:Int):=h3
    rw [hs] at h4
    have h5:=List.mem_of_getElem? h4
    rw [List.mem_singleton] at h5
    exact absurd (by omega) e
   ·have:=hnet.2
    omega
 intro q hq hd
 exact hD q (Zjk (by rw [YM];exact hn) hq) hd
theorem Zho {d:Za} {x:Zd} (hn:0<(Za.Instances d).length) (hx:(Za.Instances d)[(Za.Instances d).length-1]?=some x) (h2:(Zd.ZM x).length=2):Yz (XW d)+2=Yz d:=by
 have h1:=ZoE hn hx
 unfold Yz
 rw [h1,Zdh,List.length_append]
 simp only [cat,List.append_nil,Vp,h2]
theorem Znw {d:Za} {x:Zd} (hn:0<(Za.Instances d).length) (hx:(Za.Instances d)[(Za.Instances d).length-1]?=some x) (h2:(Zd.ZM x).length=2):Zer d ((Za.Instances d).length-1)=Yz d-2:=by
 have h1:=Zho hn hx h2
 have:Zer d ((Za.Instances d).length-1)=Yz (XW d):=rfl
 omega
theorem Zg0 {b:Zb} (h:ZaQ b) (hL:ZjH b):∃ (k:Nat) (p:Pl) (m v:Int),sinks (Zb.Design b) (((Za.ZM (Zb.Design b)).length:Int)-1)=[(k:Int)]∧(places (Zb.Design b))[k]?=some p∧p.1≠((Za.Instances (Zb.Design b)).length:Int)-1∧
  (∀ y,(Za.Instances (Zb.Design b))[(Za.Instances (Zb.Design b)).length-1]?=some y→atI (Zd.ZM y) 0=some m)∧v=YV b (Yz (Zb.Design b)-2)∧
  X6 b=some ((p.1,p.2.1,()),(Zb.Library b,unD b p m,wired (places (unD b p m)) ((Zb.Zw b).take ((Zb.Zw b).length-1)) (ZnL (fun j=>if j=k then v else YV b j) (Yz (unD b p m))),())):=by
 obtain ⟨k,p,hs,hp,hpn,hpd,hpi⟩:=hL.sink h
 obtain ⟨x,c,w,m,hn,hx,hc,hk1,hk2,hl2,hm,hl,hne,hnm,hw,hs1,hs2,hp1,hc0⟩:=hL
 have hD:=h.ok.1
 have hf:=hD.few
 have hpl:=Qn hf
 have h14:=hf.insts
 have h30:=hD.2.1.2.1
 have hwn:=h.ok.2.1
 obtain ⟨_,_,hnet⟩:=hD.2.2.1 x (List.mem_of_getElem? hx)
 have hm0:(Zd.ZM x)[0]?=some m:=hm
 have hmn:=hnet m (List.mem_of_getElem? hm0)
 have hpos:1≤(Za.ZM (Zb.Design b)).length:=by have:=hmn.1;have:=hmn.2;omega
 have hmn2:m<((Za.ZM (Zb.Design b)).length:Int)-1:=by have:=hmn.2;omega
 have hx2:atI (Za.Instances (Zb.Design b)) (((Za.Instances (Zb.Design b)).length:Int)-1)=some x:=QY (by omega) (by rw [←hx];congr 1;omega)
 have t1:Int.toNat (((Za.Instances (Zb.Design b)).length:Int)-1)=(Za.Instances (Zb.Design b)).length-1:=by omega
 have t2:Int.toNat (((Za.ZM (Zb.Design b)).length:Int)-1)=(Za.ZM (Zb.Design b)).length-1:=by omega
 have t3:Int.toNat (((Zb.Zw b).length:Int)-1)=(Zb.Zw b).length-1:=by omega
 have e:((Zb.Library b,(List.set (Za.Instances (Zb.Design b)) ((Za.Instances (Zb.Design b)).length-1) x,(Zb.Design b).snd),b.snd.snd):Zb)=b:=by rw [ZbH hx]
 refine ⟨k,p,m,(Option.getD (Zhj Key (Ty.int IntKind.i64) (ZaE (places (Zb.Design b)) (YV b) (places (Zb.Design b)).length) ((((Za.Instances (Zb.Design b)).length:Int)-1),(0:Int),())) (0:Int)),hs,hp,hpi,fun y hy=>by rw [hx] at hy;injection hy with hy;rw [←hy];exact hm,?_,?_⟩
 ·have h5:=ZeM hx hm0
  rw [Nat.add_zero,Znw hn hx hl2] at h5
  have h6:=Zf1 (Zb.Design b) (YV b) _ _ h5 (by
   show decide ((0:Int)=IntKind.i64.wrap (((Zd.ZM x).length:Int)-1))=false
   rw [hl2,Vy (by omega) (by omega)]
   decide)
  have h7:Zqz (Zd0 ((Za.Instances (Zb.Design b)).length-1) x 0 m)=((((Za.Instances (Zb.Design b)).length:Int)-1),(0:Int),()):=by
   show ((((Za.Instances (Zb.Design b)).length-1:Nat):Int),(0:Int),())=_
   rw [show (((Za.Instances (Zb.Design b)).length-1:Nat):Int)=((Za.Instances (Zb.Design b)).length:Int)-1 by omega]
  rw [h7] at h6
  rw [h6]
  rfl
 unfold X6
 rw [Zdy h,Option.bind_some,Yl _ hf,Option.bind_some,show YS (Za.ZM (Zb.Design b))=some ((Za.ZM (Zb.Design b)).length:Int) from rfl,Option.bind_some,
  Vy (n:=((Za.ZM (Zb.Design b)).length:Int)-1) (by omega) (by omega),Zh8 _ _ hf,Option.bind_some,hs,show atI [(k:Int)] 0=some (k:Int) from rfl,Option.bind_some,Zu,hp,Option.bind_some,
  Vy (n:=((Za.Instances (Zb.Design b)).length:Int)-1) (by omega) (by omega),hx2,Option.bind_some,show x.snd.snd.fst=Zd.ZM x from rfl,hm,Option.bind_some,t1,e,
  show (Yc.instance p,Yc.pin p,())=(p.1,p.2.1,()) from rfl,ZfQ hp m,Option.bind_some]
 have eD:Zb.Design ((Zb.Library b,conn (Zb.Design b) p.1 p.2.1 m,Zb.Zw b,()):Zb)=conn (Zb.Design b) p.1 p.2.1 m:=rfl
 have eW:Zb.Zw ((Zb.Library b,conn (Zb.Design b) p.1 p.2.1 m,Zb.Zw b,()):Zb)=Zb.Zw b:=rfl
 have eL:Zb.Library ((Zb.Library b,conn (Zb.Design b) p.1 p.2.1 m,Zb.Zw b,()):Zb)=Zb.Library b:=rfl
 rw [eD,eW,eL,Vr,Vy (n:=((Za.ZM (Zb.Design b)).length:Int)-1) (by omega) (by omega),Vy (n:=((Zb.Zw b).length:Int)-1) (by omega) (by omega),t2,t3,
  Zi (by omega),Zi (by rw [YM];omega),Zi (by omega),Zi (by omega),Zi (by omega),Zi (by omega)]
 simp only [Int.toNat_zero,Nat.sub_zero,List.drop_zero]
 have hB:((Zb.Library b,(List.take ((Za.Instances (Zb.Design b)).length-1) (Za.Instances (conn (Zb.Design b) p.1 p.2.1 m)),List.take ((Za.ZM (Zb.Design b)).length-1) (Za.ZM (Zb.Design b)),(conn (Zb.Design b) p.1 p.2.1 m).snd.snd),List.take ((Zb.Zw b).length-1) (Zb.Zw b),()):Zb)
   = (Zb.Library b,unD b p m,List.take ((Zb.Zw b).length-1) (Zb.Zw b),()):=by
  unfold unD XW
  rw [YM,Vr]
 rw [hB]
 have hx3:(Za.Instances (conn (Zb.Design b) p.1 p.2.1 m))[(Za.Instances (conn (Zb.Design b) p.1 p.2.1 m)).length-1]?=some ((Za.Instances (conn (Zb.Design b) p.1 p.2.1 m))[(Za.Instances (conn (Zb.Design b) p.1 p.2.1 m)).length-1]'(by rw [YM];omega)):=List.getElem?_eq_getElem _
 generalize (Za.Instances (conn (Zb.Design b) p.1 p.2.1 m))[(Za.Instances (conn (Zb.Design b) p.1 p.2.1 m)).length-1]'(by rw [YM];omega)=x' at hx3
 have hx4:(Zd.ZM x').length=2:=by
  obtain ⟨y,hy,_,_,hyl,_⟩:=ZeG hx3
  rw [YM,hx] at hy
  injection hy with hy
  rw [hyl,←hy,hl2]
 have hM:=(((Zf1 (Zb.Design b) (YV b)).put hp (Option.getD (Zhj Key (Ty.int IntKind.i64) (ZaE (places (Zb.Design b)) (YV b) (places (Zb.Design b)).length) ((((Za.Instances (Zb.Design b)).length:Int)-1),(0:Int),())) (0:Int))).set hp m)
 rw [←Vf hp m] at hM
 have hM2:=hM.cut (by rw [YM];omega) hx3 hx4
 have hlen:(List.take ((Zb.Zw b).length-1) (Zb.Zw b)).length=(Zb.Zw b).length-1:=by rw [List.length_take];omega
 have:=Zfd (b:=(Zb.Library b,unD b p m,List.take ((Zb.Zw b).length-1) (Zb.Zw b),())) (hf.conn p.1 p.2.1 m).cut hM2 (by
  show Zic (places (unD b p m)) (List.take ((Zb.Zw b).length-1) (Zb.Zw b)).length
  rw [hlen]
  exact ZsK h hn hs hp hmn.1 hmn2) (by
  show (List.take ((Zb.Zw b).length-1) (Zb.Zw b)).length≤_
  rw [hlen];omega)
 exact Eq.trans (congrArg (fun o=>Option.bind o fun connect0=>some ((p.1,p.2.1,()),connect0)) this) rfl
end Go.Proofs.YtehkanadahncgaaGreatDoor
/-
  Plain laws: inverse edits.
-/
namespace Go.Proofs.YtehkanadahncgaaGreatDoor
set_option linter.unusedVariables false
set_option linter.unusedSimpArgs false
open Go Go.Sx
theorem Zrn {α:Type} {p:α→Bool} {l:List α} {k:Nat} {x:α} (hx:l[k]?=some x) (hp:p x=true) (hf:∀ (j:Nat) (y:α),j<k→l[j]?=some y→p y=false):Zbe p l=(k:Int):=by
 have hk:=(List.getElem?_eq_some_iff.1 hx)
 have:l.findIdx? p=some k:=by
  rw [List.findIdx?_eq_some_iff_getElem]
  refine ⟨hk.1,by rw [hk.2];exact hp,fun j hj=>?_⟩
  have:=hf j (l[j]'(by have:=hk.1;omega)) hj (List.getElem?_eq_getElem _)
  simp [this]
 unfold Zbe
 rw [this]
theorem ZmP (d:Za) (hf:Few d) {k:Nat} {p:Pl} (hp:(places d)[k]?=some p):X7 d p.1 p.2.1=some (k:Int):=by
 have hpl:=Qn hf
 unfold X7
 rw [Yl _ hf,Option.bind_some,X4 (l:=places d) (f:=(p.1,p.2.1,())) (show (places d).length≤_ by omega) (fun q=>decide (q.1=p.1)&&decide (q.2.1=p.2.1)) (fun q _=>by
  unfold XP
  show (if q.1=p.1 then some (decide (q.2.1=p.2.1)) else some false)=_
  by_cases h1:q.1=p.1
  ·rw [if_pos h1,decide_eq_true h1,Bool.true_and]
  ·rw [if_neg h1,decide_eq_false h1,Bool.false_and]),Option.bind_some]
 congr 1
 refine Zrn hp (by simp) (fun j y hj hy=>?_)
 cases hq:(decide (y.1=p.1)&&decide (y.2.1=p.2.1)) with
 | false=>rfl
 | true =>
  simp only [Bool.and_eq_true,decide_eq_true_eq] at hq
  have:=key_inj hy hp hq.1 hq.2
  omega
theorem Ztq {b:Zb} (hn:0<(Za.Instances (Zb.Design b)).length) {x:Zd} (hx:(Za.Instances (Zb.Design b))[(Za.Instances (Zb.Design b)).length-1]?=some x) (hl2:(Zd.ZM x).length=2) {k:Nat} {p:Pl} {m:Int} (hp:(places (Zb.Design b))[k]?=some p) (hpi:p.1≠((Za.Instances (Zb.Design b)).length:Int)-1) :
  (p.1<0→2≤k)∧(places (unD b p m))[if p.1<0 then k-2 else k]?=some (p.1,p.2.1,m,p.2.2.2.1,()):=by
 have hD:(places (conn (Zb.Design b) p.1 p.2.1 m))[k]?=some (p.1,p.2.1,m,p.2.2.2.1,()):=by
  rw [Vf hp,List.getElem?_set_self (List.getElem?_eq_some_iff.1 hp).1]
 have hn2:0<(Za.Instances (conn (Zb.Design b) p.1 p.2.1 m)).length:=by rw [YM];exact hn
 have hx3:(Za.Instances (conn (Zb.Design b) p.1 p.2.1 m))[(Za.Instances (conn (Zb.Design b) p.1 p.2.1 m)).length-1]?=some ((Za.Instances (conn (Zb.Design b) p.1 p.2.1 m))[(Za.Instances (conn (Zb.Design b) p.1 p.2.1 m)).length-1]'(by omega)):=List.getElem?_eq_getElem _
 generalize (Za.Instances (conn (Zb.Design b) p.1 p.2.1 m))[(Za.Instances (conn (Zb.Design b) p.1 p.2.1 m)).length-1]'(by omega)=x' at hx3
 have hx4:(Zd.ZM x').length=2:=by
  obtain ⟨y,hy,_,_,hyl,_⟩:=ZeG hx3
  rw [YM,hx] at hy
  injection hy with hy
  rw [hyl,←hy,hl2]
 have hin:=ZoE hn2 hx3
 have hil:Yz (conn (Zb.Design b) p.1 p.2.1 m)=Yz (unD b p m)+2:=by
  unfold Yz unD
  rw [hin,Zdh,List.length_append]
  simp only [cat,List.append_nil,Vp,hx4]
 rcases JU hD with ⟨i,j,y,n,hy,hnj,e,hq⟩ | ⟨j,q,hq,e,hq2⟩
 ·have e1:p.1=(i:Int):=by
   have:=congrArg Prod.fst hq
   simpa [Zd0] using this
  have hi:=(List.getElem?_eq_some_iff.1 hy).1
  rw [YM] at hi
  refine ⟨fun h=>by omega,?_⟩
  rw [if_neg (by omega)]
  have hy2:(Za.Instances (unD b p m))[i]?=some y:=by
   show ((Za.Instances (conn (Zb.Design b) p.1 p.2.1 m)).take _)[i]?=some y
   rw [List.getElem?_take,if_pos (by rw [YM];omega),hy]
  have h5:=ZeM hy2 hnj
  have e2:Zer (unD b p m) i=Zer (conn (Zb.Design b) p.1 p.2.1 m) i:=by
   unfold Zer
   show (cat Qv 0 (((Za.Instances (conn (Zb.Design b) p.1 p.2.1 m)).take _).take i)).length=_
   rw [List.take_take,Nat.min_eq_left (by rw [YM];omega)]
  rw [e2,←e] at h5
  rw [h5,hq]
 ·have e1:p.1=-1:=congrArg Prod.fst hq2
  refine ⟨fun _=>by omega,?_⟩
  rw [if_pos (by omega)]
  have h5:=Znq (d:=unD b p m) (x:=x') (s:=[]) (k:=k-2) (by omega)
  rw [hx4,show k-2+2=k by omega] at h5
  rw [←h5]
  unfold unD
  rw [←Zh1 hn2 hx3]
  exact hD
theorem ZqL:sm (.sl (.int .i64)) ([]:List Int):=⟨by simp,fun _ _=>trivial⟩
theorem Zjt:sm XR (([]:List Int),([]:List Int),([]:List Int),([]:List Int),()):=⟨ZqL,ZqL,ZqL,ZqL,trivial⟩
theorem Zju:sm .str ([]:List UInt8):=by show ((0:Nat):Int)≤_;omega
theorem Zmc {a b c d e:Int} {s:List UInt8} {w:Zn} (hs:sm .str s) (hw:sm XR w):sm Ym (a,b,c,d,e,s,w,()):=⟨trivial,trivial,trivial,trivial,trivial,hs,hw,trivial⟩
theorem Znu {b:Zb} {e:Zf} (h:Zps b e):∃ r,Qf e b=some r∧JR b e=some r∧sm Ym r:=by
 have hB:=h.blk
 have hf:=hB.ok.1.few
 have hpl:=Qn hf
 have h30:=hB.ok.1.2.1.2.1
 have hwn:=hB.ok.2.1
 obtain ⟨b1,b2,b3⟩:=ZaJ hB.sm
 unfold Qf JR
 rw [Qg _ hf,Option.bind_some]
 by_cases k1:Zf.Kind e=1
 ·obtain ⟨p,x,c,c2,hp,h0,_,hx,_⟩:=h.poss.1 k1
  rw [if_pos k1,if_pos k1,Yl _ hf,Option.bind_some,hp.at,Option.bind_some]
  have e1:Yc.instance p=p.1:=rfl
  have e2:Z4.instance p=p.1:=rfl
  simp only [e1,e2,hx,Option.bind_some]
  exact ⟨_,rfl,rfl,Zmc Zju Zjt⟩
 rw [if_neg k1,if_neg k1]
 by_cases k2:Zf.Kind e=2
 ·rw [if_pos k2,if_pos k2]
  exact ⟨_,rfl,rfl,Zmc Zju Zjt⟩
 rw [if_neg k2,if_neg k2]
 by_cases k3:Zf.Kind e=3
 ·rw [if_pos k3,if_pos k3]
  have hL:=h.poss.2.2.1 k3
  obtain ⟨hn,x,hx,hl2⟩:=hL.two
  obtain ⟨k,p,m,v,hs,hp,hpi,_,_,hun⟩:=Zg0 hB hL
  have h14:=hf.insts
  have hx2:atI (Za.Instances (Zb.Design b)) (((Za.Instances (Zb.Design b)).length:Int)-1)=some x:=QY (by omega) (by rw [←hx];congr 1;omega)
  obtain ⟨hk2,hpu⟩:=Ztq (m:=m) hn hx hl2 hp hpi
  have hk:=(List.getElem?_eq_some_iff.1 hp).1
  have hpo:=ZmP (unD b p m) (hf.conn p.1 p.2.1 m).cut hpu
  have hsx:sm Z6 x:=Jz (ZbJ b2).1 hx
  rw [Zba _ hB.sm,Option.bind_some,hun,Option.bind_some,Vy (n:=((Za.Instances (Zb.Design b)).length:Int)-1) (by omega) (by omega),hx2,Option.bind_some,Option.bind_some,
   Vy (n:=((Zb.Zw b).length:Int)-1) (by omega) (by omega),hwn,VO _ _ hf,Option.bind_some,hs,show atI [(k:Int)] 0=some (k:Int) from rfl,Option.bind_some,Zu,hp,Option.bind_some]
  have hpo2:X7 (Zb.Design ((Zb.Library b,unD b p m,wired (places (unD b p m)) ((Zb.Zw b).take ((Zb.Zw b).length-1)) (ZnL (fun j=>if j=k then v else YV b j) (Yz (unD b p m))),()):Zb)) p.1 p.2.1=some (((if p.1<0 then k-2 else k:Nat):Nat):Int):=hpo
  rw [show Z4.instance p=p.1 from rfl]
  refine ⟨(2,(((if p.1<0 then k-2 else k:Nat):Nat):Int),Zd.Cell x,0,0,Zd.Name x,([],[],[],[],()),()),?_,?_,Zmc (Zie hsx).1 Zjt⟩
  ·exact congrArg (fun o=>Option.bind o _) hpo2
  ·by_cases q:p.1<0
   ·have:=hk2 q
    have t:((k-2:Nat):Int)=(k:Int)-2:=by omega
    rw [if_pos q,if_pos q,Vy (by omega) (by omega),t]
   ·rw [if_neg q,if_neg q]
 rw [if_neg k3,if_neg k3]
 by_cases k4:Zf.Kind e=4
 ·obtain ⟨p,hp,h2,_⟩:=h.poss.2.2.2.1 k4
  have hk:=(List.getElem?_eq_some_iff.1 hp.2).1
  have hm:=Zf1 (Zb.Design b) (YV b) (Zf.Place e).toNat p hp.2 h2
  rw [if_pos k4,if_pos k4,Yl _ hf,Option.bind_some,hp.at,Option.bind_some,Zdy hB,Option.bind_some,Option.bind_some,ZcG hB,Option.bind_some,QY hp.1 (Zgd hk),Option.bind_some]
  rw [show Zhj Za2 (Ty.int IntKind.i64) (ZaE (places (Zb.Design b)) (YV b) (places (Zb.Design b)).length) (Yc.instance p,Yc.pin p,())=some (YV b (Zf.Place e).toNat) from hm]
  exact ⟨_,rfl,rfl,Zmc Zju Zjt⟩
 ·have k5:Zf.Kind e=5:=by have:=h.blank;unfold Blank at this;omega
  obtain ⟨w,hw1,hw2,_⟩:=ZiV hB (h.range.2.2 k5)
  have hsw:sm XR w:=Jz b3 hw1
  rw [if_neg k4,if_neg k4,hw2,Option.bind_some,Option.bind_some,ZdT _ hsw,Zfi _ hsw]
  exact ⟨_,rfl,rfl,Zmc Zju hsw⟩
end Go.Proofs.YtehkanadahncgaaGreatDoor
/-
  Plain laws: designs stay valid when a place is put on another net, when a buffer is added or taken away.
-/
namespace Go.Proofs.YtehkanadahncgaaGreatDoor
set_option linter.unusedVariables false
set_option linter.unusedSimpArgs false
open Go Go.Sx
theorem Zb1.put {w:Zn} {s:Int} (h:Zb1 w s) {l:List Int} (hl:ZhG l 0 (((Zn.Parent w).length:Int)-1)):Zb1 (Zev w l) (l.length:Int) :=
 ⟨h.1,h.2.1,h.2.2.1,rfl,h.2.2.2.2.1,h.2.2.2.2.2.1,h.2.2.2.2.2.2.1,hl⟩
def Fits (pl:List Pl) (ws:List Zn) (nd:Nat→Int):Prop:=∀ (k:Nat) (p:Pl) (w:Zn),pl[k]?=some p→p.2.2.2.1=false→ws[p.2.2.1.toNat]?=some w→0≤nd k∧nd k≤((Zn.Parent w).length:Int)-1
theorem ZnR {pl:List Pl} {ws:List Zn} {nd:Nat→Int} (hw:∀ (v:Nat) (w:Zn),ws[v]?=some w→∃ s,Zb1 w s) (hf:Fits pl ws nd) :
  Zgc (wired pl ws nd) (fun v w=>Zb1 w ((cat (Za5 (v:Int)) 0 pl).length:Int)):=by
 intro v w hv
 rw [ZdQ] at hv
 cases hx:ws[v]? with
 | none=>rw [hx] at hv;cases hv
 | some y =>
  rw [hx] at hv
  injection hv with hv
  subst hv
  obtain ⟨s,hs⟩:=hw v y hx
  have:=hs.put (l:=(cat (Za5 (v:Int)) 0 pl).map (fun k=>nd k.toNat)) (fun z hz=>by
   obtain ⟨j,hj,rfl⟩:=List.mem_map.1 hz
   obtain ⟨k,p,rfl,hp,h1,h2⟩:=Zsw hj
   exact hf k p y hp h2 (by rw [h1];exact hx))
  rw [List.length_map] at this
  exact this
theorem Zlu {b:Zb} (h:ZaQ b):Fits (places (Zb.Design b)) (Zb.Zw b) (YV b):=by
 intro k p w hp h2 hw
 obtain ⟨w',_,hw1,hw2,hw3⟩:=ZpE h hp h2
 rw [hw1] at hw
 injection hw with hw
 subst hw
 rw [Zu] at hw2
 exact hw3.2.2.2.2.2.2.2 _ (List.mem_of_getElem? hw2)
theorem Fits.set {pl:List Pl} {ws:List Zn} {nd:Nat→Int} (h:Fits pl ws nd) {k0:Nat} {p0:Pl} (n v:Int) (hv:∀ w,ws[n.toNat]?=some w→0≤v∧v≤((Zn.Parent w).length:Int)-1) :
  Fits (pl.set k0 (p0.1,p0.2.1,n,p0.2.2.2.1,())) ws (fun j=>if j=k0 then v else nd j):=by
 intro k p w hp h2 hw
 rw [List.getElem?_set] at hp
 split at hp
 ·rename_i e
  subst e
  split at hp
  ·injection hp with hp
   subst hp
   show 0≤(if k0=k0 then v else nd k0)∧(if k0=k0 then v else nd k0)≤_
   rw [if_pos rfl]
   exact hv w hw
  ·cases hp
 ·rename_i e
  show 0≤(if k=k0 then v else nd k)∧(if k=k0 then v else nd k)≤_
  rw [if_neg (fun q=>e q.symm)]
  exact h k p w hp h2 hw
theorem VK.snoc {l:List (List UInt8)} {s:List UInt8} (h:VK l l.length) (h1:ZaT s=true) (h2:s ∉ l):VK (l++[s]) (l++[s]).length:=by
 intro j t hj ht
 by_cases e:j<l.length
 ·rw [List.getElem?_append_left e] at ht
  obtain ⟨a,b⟩:=h j t e ht
  refine ⟨a,?_⟩
  rw [List.take_append_of_le_length (by omega)]
  exact b
 ·rw [List.length_append,List.length_singleton] at hj
  have e2:j=l.length:=by omega
  subst e2
  rw [List.getElem?_append_right (by omega),Nat.sub_self] at ht
  injection ht with ht
  subst ht
  refine ⟨h1,?_⟩
  rw [List.take_append_of_le_length (Nat.le_refl _),List.take_length]
  exact h2
theorem VK.take {l:List (List UInt8)} (h:VK l l.length) (m:Nat):VK (l.take m) (l.take m).length:=by
 intro j t hj ht
 rw [List.length_take] at hj
 rw [List.getElem?_take,if_pos (by omega)] at ht
 obtain ⟨a,b⟩:=h j t (by omega) ht
 refine ⟨a,?_⟩
 rw [List.take_take,Nat.min_eq_left (by omega)]
 exact b
theorem ZpJ (d:Za) (a b n:Int):ZaV (conn d a b n)=ZaV d:=by
 unfold conn
 split
 ·rfl
 ·show List.map Zd.Name (match (Za.Instances d)[a.toNat]? with | some x=>(Za.Instances d).set a.toNat (Zd3 x b.toNat n) | none=>Za.Instances d)=List.map Zd.Name (Za.Instances d)
  split
  ·rename_i x hx
   rw [List.map_set]
   exact ZbH (by rw [List.getElem?_map,hx];rfl)
  ·rfl
theorem ZoS (d:Za) (a b n:Int):Zcz (conn d a b n)=Zcz d:=by
 unfold conn
 split
 ·show List.map ZL.Name (match (Za.ZX d)[b.toNat]? with | some x=>(Za.ZX d).set b.toNat (setPort x n) | none=>Za.ZX d)=List.map ZL.Name (Za.ZX d)
  split
  ·rename_i x hx
   rw [List.map_set]
   exact ZbH (by rw [List.getElem?_map,hx];rfl)
  ·rfl
 ·rfl
theorem Zpk {d:Za} {a b n:Int} {i:Nat} {y:ZL} (hy:(Za.ZX (conn d a b n))[i]?=some y):∃ x,(Za.ZX d)[i]?=some x∧ZL.Name y=ZL.Name x∧ZL.Dir y=ZL.Dir x∧(ZL.Net y=ZL.Net x∨ZL.Net y=n):=by
 unfold conn at hy
 split at hy
 ·have hy:(match (Za.ZX d)[b.toNat]? with | some x=>(Za.ZX d).set b.toNat (setPort x n) | none=>Za.ZX d)[i]?=some y:=hy
  split at hy
  ·rename_i x hx
   rw [List.getElem?_set] at hy
   split at hy
   ·rename_i e
    split at hy
    ·injection hy with hy
     subst hy
     exact ⟨x,by rw [←e];exact hx,rfl,rfl,.inr rfl⟩
    ·cases hy
   ·exact ⟨y,hy,rfl,rfl,.inl rfl⟩
  ·exact ⟨y,hy,rfl,rfl,.inl rfl⟩
 ·exact ⟨y,hy,rfl,rfl,.inl rfl⟩
theorem Zi9 {α:Type} {f:α→Bool} {y:α} (hy:f y=false):∀ {l:List α} {i:Nat} {x:α},l[i]?=some x→f x=false→(l.set i y).filter f=l.filter f
 | [],i,x,h,_=>by simp at h
 | a::l,0,x,h,hx=>by
  have h:a=x:=by simpa using h
  subst h
  simp [List.set,hx,hy]
 | a::l,i+1,x,h,hx=>by
  have:=Zi9 hy (l:=l) (i:=i) (by simpa using h) hx
  simp only [List.set_cons_succ,List.filter_cons,this]
theorem ZhV {x:Zd} (h:0<(Zd.ZM x).length):(Zd.ZM x)[(Zd.ZM x).length-1]?=some (XV x):=by
 unfold XV
 rw [List.getLastD_eq_getLast?,←List.getLast?_eq_getElem?]
 cases hN:Zd.ZM x with
 | nil=>rw [hN] at h;simp at h
 | cons y r=>rw [List.getLast?_cons];rfl
theorem Znd {x:Zd} {j:Nat} {n:Int} (h:j+1≠(Zd.ZM x).length):XV (Zd3 x j n)=XV x:=by
 by_cases h0:0<(Zd.ZM x).length
 ·have h1:=ZhV (x:=Zd3 x j n) (by show 0<(List.set (Zd.ZM x) j n).length;rw [List.length_set];exact h0)
  have h2:(List.set (Zd.ZM x) j n)[(List.set (Zd.ZM x) j n).length-1]?=some (XV (Zd3 x j n)):=h1
  rw [List.length_set,List.getElem?_set,if_neg (by omega),ZhV h0] at h2
  injection h2 with h2
  exact h2.symm
 ·have e:Zd.ZM x=[]:=List.length_eq_zero_iff.1 (by omega)
  unfold XV
  show (List.set (Zd.ZM x) j n).getLastD 0=_
  rw [e];rfl
theorem ZrR {d:Za} (hf:Few d) {k:Nat} {p:Pl} (hp:(places d)[k]?=some p) (h2:p.2.2.2.1=false) (n:Int):ZlR (conn d p.1 p.2.1 n)=ZlR d:=by
 unfold ZlR
 rcases JU hp with ⟨i,j,x,m,hx,hn,e,rfl⟩ | ⟨j,q,hq,e,rfl⟩
 ·have hl:=hf.nets x (List.mem_of_getElem? hx)
  have hj:=(List.getElem?_eq_some_iff.1 hn).1
  have h3:decide ((j:Int)=IntKind.i64.wrap (((Zd.ZM x).length:Int)-1))=false:=h2
  rw [Vy (by omega) (by omega)] at h3
  have h4:¬((j:Int)=((Zd.ZM x).length:Int)-1):=of_decide_eq_false h3
  have c:¬((i:Int)<0):=by omega
  have e1:Za.Instances (conn d (Zd0 i x j m).1 (Zd0 i x j m).2.1 n)=(Za.Instances d).set i (Zd3 x j n):=by
   unfold conn
   show Za.Instances (if (i:Int)<0 then _ else _)=_
   rw [if_neg c]
   show (match (Za.Instances d)[(i:Int).toNat]? with | some x=>(Za.Instances d).set (i:Int).toNat (Zd3 x (j:Int).toNat n) | none=>Za.Instances d)=_
   simp only [Int.toNat_natCast,hx]
  have e2:Za.ZX (conn d (Zd0 i x j m).1 (Zd0 i x j m).2.1 n)=Za.ZX d:=by
   unfold conn
   show Za.ZX (if (i:Int)<0 then _ else _)=_
   rw [if_neg c]
  rw [e1,e2,List.map_set,Znd (by omega),ZbH (by rw [List.getElem?_map,hx];rfl)]
 ·have h3:decide (ZL.Dir q=1)=false:=h2
  have e1:Za.Instances (conn d (-1) (j:Int) n)=Za.Instances d:=by
   unfold conn
   rw [if_pos (by omega)]
  have e2:Za.ZX (conn d (-1) (j:Int) n)=(Za.ZX d).set j (setPort q n):=by
   unfold conn
   rw [if_pos (by omega)]
   show (match (Za.ZX d)[(j:Int).toNat]? with | some x=>(Za.ZX d).set (j:Int).toNat (setPort x n) | none=>Za.ZX d)=_
   simp only [Int.toNat_natCast,hq]
  show (Za.Instances (conn d (-1) (j:Int) n)).map XV++((Za.ZX (conn d (-1) (j:Int) n)).filter (fun p=>decide (ZL.Dir p=1))).map ZL.Net=_
  rw [e1,e2,Zi9 (by exact h3) hq h3]
theorem Zp6 {a:Zk} {d:Za} (h:QX a d) {k:Nat} {p:Pl} (hp:(places d)[k]?=some p) (h2:p.2.2.2.1=false) {n:Int} (hn:ZbF d n):QX a (conn d p.1 p.2.1 n):=by
 obtain ⟨hl,⟨n1,n2,n3,n4,n5,n6⟩,hi,hq,ho⟩:=h
 have hf:Few d:=QX.few (a:=a) ⟨hl,⟨n1,n2,n3,n4,n5,n6⟩,hi,hq,ho⟩
 refine ⟨hl,⟨by rw [YM];exact n1,by rw [Vr];exact n2,by rw [ZfX];exact n3,by rw [ZpJ];exact n4,by rw [Vr];exact n5,by rw [ZoS];exact n6⟩,fun y hy=>?_,fun y hy=>?_,?_⟩
 ·obtain ⟨i,hi2⟩:=List.getElem?_of_mem hy
  obtain ⟨x,hx,_,hc,hlen,_,hm⟩:=ZeG hi2
  obtain ⟨r1,⟨c,r2,r3⟩,r4⟩:=hi x (List.mem_of_getElem? hx)
  refine ⟨by rw [hc];exact r1,⟨c,by rw [hc];exact r2,by rw [hlen];exact r3⟩,fun m hm2=>?_⟩
  unfold ZbF
  rw [Vr]
  rcases hm m hm2 with q | q
  ·exact r4 m q
  ·rw [q];exact hn
 ·obtain ⟨i,hi2⟩:=List.getElem?_of_mem hy
  obtain ⟨x,hx,_,hd,hm⟩:=Zpk hi2
  obtain ⟨r1,r2⟩:=hq x (List.mem_of_getElem? hx)
  refine ⟨by rw [hd];exact r1,?_⟩
  unfold ZbF
  rw [Vr]
  rcases hm with q | q
  ·rw [q];exact r2
  ·rw [q];exact hn
 ·unfold Zf9
  rw [Vr,ZrR hf hp h2]
  exact ho
theorem ZqV {a:Zk} {d:Za} (h:QX a d):∀ v∈ZlR d,ZbF d v:=by
 have hf:=h.few
 intro v hv
 unfold ZlR at hv
 rcases List.mem_append.1 hv with hv | hv
 ·obtain ⟨x,hx,rfl⟩:=List.mem_map.1 hv
  have:=hf.nets x hx
  exact ((h.2.2.1 x hx).last h.1 (by omega)).2
 ·obtain ⟨q,hq,rfl⟩:=List.mem_map.1 hv
  exact (h.2.2.2.1 q (List.mem_filter.1 hq).1).2
theorem Zj8 {d:Za}:Zf9 d↔∀ v:Nat,v<(Za.ZM d).length→(ZlR d).countP (fun x=>decide (x=(v:Int)))=1:=by
 unfold Zf9
 constructor
 ·intro h v hv
  have:=h _ (List.mem_of_getElem? (ZhQ (s:=ZlR d) hv))
  omega
 ·intro h x hx
  obtain ⟨j,hj⟩:=List.getElem?_of_mem hx
  have hlt:=(List.getElem?_eq_some_iff.1 hj).1
  rw [Zgq] at hlt
  rw [ZhQ hlt] at hj
  injection hj with hj
  have:=h j hlt
  omega
theorem ZpC {l:List Int} {v:Int} (h:∀ x∈l,x≠v):l.countP (fun x=>decide (x=v))=0:=by
 rw [List.countP_eq_zero]
 intro x hx
 simp [h x hx]
theorem ZvT {a:Zk} {d:Za} (h:QX a d) {s:List UInt8} {c m:Int} {cell:Zh} (hs:ZaT s=true) (h1:s ∉ ZaV d) (h2:s ∉ Za.ZM d) (h13:(Za.Instances d).length≤13) (h29:(Za.ZM d).length≤29)
  (hc0:0≤c) (hc1:c≤((Zk.Cells a).length:Int)-1) (hc:(Zk.Cells a)[c.toNat]?=some cell) (hp:(Zh.YC cell).length=2) (hm:ZbF d m) :
  QX a (addInst d (s,c,[m,((Za.ZM d).length:Int)],()) s):=by
 have hdn:=ZqV h
 obtain ⟨hl,⟨n1,n2,n3,n4,n5,n6⟩,hi,hq,ho⟩:=h
 have eI:Za.Instances (addInst d (s,c,[m,((Za.ZM d).length:Int)],()) s)=Za.Instances d++[(s,c,[m,((Za.ZM d).length:Int)],())]:=rfl
 have eN:Za.ZM (addInst d (s,c,[m,((Za.ZM d).length:Int)],()) s)=Za.ZM d++[s]:=rfl
 have eP:Za.ZX (addInst d (s,c,[m,((Za.ZM d).length:Int)],()) s)=Za.ZX d:=rfl
 have hnet:∀ n,ZbF d n→ZbF (addInst d (s,c,[m,((Za.ZM d).length:Int)],()) s) n:=fun n hn=>by
  unfold ZbF at *
  rw [eN,List.length_append,List.length_singleton]
  omega
 refine ⟨hl,⟨by rw [eI,List.length_append,List.length_singleton];omega,by rw [eN,List.length_append,List.length_singleton];omega,n3,?_,by rw [eN];exact n5.snoc hs h2,n6⟩,fun y hy=>?_,fun y hy=>?_,?_⟩
 ·have:ZaV (addInst d (s,c,[m,((Za.ZM d).length:Int)],()) s)=ZaV d++[s]:=by
   unfold ZaV
   rw [eI,List.map_append]
   rfl
  rw [this]
  exact n4.snoc hs h1
 ·rw [eI] at hy
  rcases List.mem_append.1 hy with hy | hy
  ·obtain ⟨r1,r2,r4⟩:=hi y hy
   exact ⟨r1,r2,fun n hn=>hnet n (r4 n hn)⟩
  ·rw [List.mem_singleton] at hy
   subst hy
   refine ⟨⟨hc0,hc1⟩,⟨cell,hc,by rw [hp];rfl⟩,fun n hn=>?_⟩
   have hn:n∈[m,((Za.ZM d).length:Int)]:=hn
   rcases List.mem_cons.1 hn with hn | hn
   ·rw [hn];exact hnet m hm
   ·rw [List.mem_singleton] at hn
    subst hn
    unfold ZbF
    rw [eN,List.length_append,List.length_singleton]
    omega
 ·obtain ⟨r1,r2⟩:=hq y hy
  exact ⟨r1,hnet _ r2⟩
 ·rw [Zj8] at ho ⊢
  intro v hv
  rw [eN,List.length_append,List.length_singleton] at hv
  have e:ZlR (addInst d (s,c,[m,((Za.ZM d).length:Int)],()) s)=(Za.Instances d).map XV++[((Za.ZM d).length:Int)]++((Za.ZX d).filter (fun p=>decide (ZL.Dir p=1))).map ZL.Net:=by
   unfold ZlR
   rw [eI,eP,List.map_append]
   rfl
  have e2:ZlR d=(Za.Instances d).map XV++((Za.ZX d).filter (fun p=>decide (ZL.Dir p=1))).map ZL.Net:=rfl
  rw [e,List.countP_append,List.countP_append,List.countP_singleton]
  by_cases hvl:v<(Za.ZM d).length
  ·have:=ho v hvl
   rw [e2,List.countP_append] at this
   rw [if_neg (by simp;omega)]
   omega
  ·have h0:=ZpC (l:=ZlR d) (v:=(v:Int)) (fun x hx=>by have:=(hdn x hx).2;omega)
   rw [e2,List.countP_append] at h0
   rw [if_pos (by simp;omega)]
   omega
theorem Zvu {d:Za} (hf:Few d) {p:Pl} (hp:p∈places d) (h2:p.2.2.2.1=true):p.2.2.1∈ZlR d:=by
 obtain ⟨k,hk⟩:=List.getElem?_of_mem hp
 unfold ZlR
 rcases JU hk with ⟨i,j,x,m,hx,hn,e,rfl⟩ | ⟨j,q,hq,e,rfl⟩
 ·have hl:=hf.nets x (List.mem_of_getElem? hx)
  have hj:=(List.getElem?_eq_some_iff.1 hn).1
  have h3:decide ((j:Int)=IntKind.i64.wrap (((Zd.ZM x).length:Int)-1))=true:=h2
  rw [Vy (by omega) (by omega)] at h3
  have h4:(j:Int)=((Zd.ZM x).length:Int)-1:=of_decide_eq_true h3
  refine List.mem_append_left _ (List.mem_map.2 ⟨x,List.mem_of_getElem? hx,?_⟩)
  have h5:=ZhV (x:=x) (by omega)
  rw [show (Zd.ZM x).length-1=j by omega,hn] at h5
  injection h5 with h5
  exact h5.symm
 ·have h3:decide (ZL.Dir q=1)=true:=h2
  exact List.mem_append_right _ (List.mem_map.2 ⟨q,List.mem_filter.2 ⟨List.mem_of_getElem? hq,h3⟩,rfl⟩)
theorem ZvY {a:Zk} {d:Za} (h:QX a d) {x:Zd} (hn:0<(Za.Instances d).length) (hx:(Za.Instances d)[(Za.Instances d).length-1]?=some x) (hlx:XV x=((Za.ZM d).length:Int)-1)
  (hs:∀ p∈places d,p.2.2.2.1=false→p.2.2.1≠((Za.ZM d).length:Int)-1):QX a (XW d):=by
 have hdn:=ZqV h
 have hf:=h.few
 have hcut:=ZoE hn hx
 obtain ⟨hl,⟨n1,n2,n3,n4,n5,n6⟩,hi,hq,ho⟩:=h
 have hpos:1≤(Za.ZM d).length:=by
  have:=hdn (XV x) (List.mem_append_left _ (List.mem_map.2 ⟨x,List.mem_of_getElem? hx,rfl⟩))
  unfold ZbF at this
  omega
 have eN:(Za.ZM (XW d)).length=(Za.ZM d).length-1:=by
  show (List.take ((Za.ZM d).length-1) (Za.ZM d)).length=_
  rw [List.length_take];omega
 have eD:ZlR d=(Za.Instances (XW d)).map XV++[XV x]++((Za.ZX d).filter (fun p=>decide (ZL.Dir p=1))).map ZL.Net:=by
  unfold ZlR
  rw [hcut,List.map_append]
  rfl
 have eC:ZlR (XW d)=(Za.Instances (XW d)).map XV++((Za.ZX d).filter (fun p=>decide (ZL.Dir p=1))).map ZL.Net:=rfl
 have hcnt:∀ v:Int,(ZlR d).countP (fun y=>decide (y=v))=(ZlR (XW d)).countP (fun y=>decide (y=v))+if XV x=v then 1 else 0:=fun v=>by
  rw [eD,eC,List.countP_append,List.countP_append,List.countP_append,List.countP_singleton]
  by_cases q:XV x=v
  ·simp only [q,decide_true,if_true];omega
  ·simp only [q,decide_false,if_false];simp
 rw [Zj8] at ho
 have none:∀ p∈places (XW d),p.2.2.1≠((Za.ZM d).length:Int)-1:=by
  intro p hp e
  cases h2:p.2.2.2.1 with
  | false=>exact hs p (Zjk hn hp) h2 e
  | true =>
   have h3:=Zvu hf.cut hp h2
   have h4:=ho ((Za.ZM d).length-1) (by omega)
   rw [hcnt,if_pos (by omega)] at h4
   have h5:0<(ZlR (XW d)).countP (fun y=>decide (y=(((Za.ZM d).length-1:Nat):Int))):=List.countP_pos_iff.2 ⟨_,h3,by simp;omega⟩
   omega
 have netC:∀ n,ZbF d n→n≠((Za.ZM d).length:Int)-1→ZbF (XW d) n:=fun n h1 h2=>by
  unfold ZbF at *
  rw [eN]
  omega
 have eI:∀ i y,(Za.Instances (XW d))[i]?=some y→(Za.Instances d)[i]?=some y:=fun i y hy=>by
  rw [hcut,List.getElem?_append_left (List.getElem?_eq_some_iff.1 hy).1]
  exact hy
 refine ⟨hl,⟨by show (List.take _ (Za.Instances d)).length≤14;rw [List.length_take];omega,by rw [eN];omega,n3,?_,n5.take _,n6⟩,fun y hy=>?_,fun y hy=>?_,?_⟩
 ·have:ZaV (XW d)=(ZaV d).take ((Za.Instances d).length-1):=by
   unfold ZaV
   show List.map Zd.Name (List.take _ (Za.Instances d))=_
   rw [List.map_take]
  rw [this]
  exact n4.take _
 ·obtain ⟨i,hy2⟩:=List.getElem?_of_mem hy
  obtain ⟨r1,r2,r4⟩:=hi y (List.mem_of_getElem? (eI i y hy2))
  refine ⟨r1,r2,fun n hn2=>netC n (r4 n hn2) ?_⟩
  obtain ⟨j,hj⟩:=List.getElem?_of_mem hn2
  exact none _ (List.mem_of_getElem? (ZeM hy2 hj))
 ·obtain ⟨r1,r2⟩:=hq y hy
  obtain ⟨j,hj⟩:=List.getElem?_of_mem hy
  exact ⟨r1,netC _ r2 (none _ (List.mem_of_getElem? (Zn4 (d:=XW d) hj)))⟩
 ·rw [Zj8]
  intro v hv
  rw [eN] at hv
  have:=ho v (by omega)
  rw [hcnt,if_neg (by omega)] at this
  exact this
end Go.Proofs.YtehkanadahncgaaGreatDoor
/-
  Plain laws: the blocks that edits make are valid.
-/
namespace Go.Proofs.YtehkanadahncgaaGreatDoor
set_option linter.unusedVariables false
set_option linter.unusedSimpArgs false
open Go Go.Sx
theorem ZlS {l:List Int} (h:l.length≤1048576):sm (.sl (.int .i64)) l:=⟨by omega,fun _ _=>trivial⟩
theorem Zml {s:List UInt8} {c:Int} {l:List Int} (h1:sm .str s) (h2:l.length≤1048576):sm Z6 (s,c,l,()):=⟨h1,trivial,ZlS h2,trivial⟩
theorem Zpb {a b c d:List Int} (h1:a.length≤1048576) (h2:b.length≤1048576) (h3:c.length≤1048576) (h4:d.length≤1048576):sm XR (a,b,c,d,()):=⟨ZlS h1,ZlS h2,ZlS h3,ZlS h4,trivial⟩
theorem Zfo {a:List Zd} {b:List (List UInt8)} {c:List ZL} (h1:sm (.sl Z6) a) (h2:sm (.sl .str) b) (h3:sm (.sl Vz) c):sm Yr (a,b,c,()):=⟨h1,h2,h3,trivial⟩
theorem Ze3 {a:Zk} {b:Za} {c:List Zn} (h1:sm YE a) (h2:sm Yr b) (h3:sm (.sl XR) c):sm YL (a,b,c,()):=⟨h1,h2,h3,trivial⟩
theorem ZpX {d:Za} (h:sm Yr d) (a b n:Int):sm Yr (conn d a b n):=by
 obtain ⟨h1,h2,h3⟩:=ZbJ h
 have e:conn d a b n=(Za.Instances (conn d a b n),Za.ZM (conn d a b n),Za.ZX (conn d a b n),()):=rfl
 rw [e]
 refine Zfo ⟨by rw [YM];exact h1.1,fun y hy=>?_⟩ (by rw [Vr];exact h3) ⟨by rw [ZfX];exact h2.1,fun y hy=>?_⟩
 ·obtain ⟨i,hi⟩:=List.getElem?_of_mem hy
  obtain ⟨x,hx,hn,_,hl,_⟩:=ZeG hi
  obtain ⟨s1,s2⟩:=Zie (Jz h1 hx)
  have s3:=Zm s2
  exact Zml (s:=Zd.Name y) (c:=Zd.Cell y) (l:=Zd.ZM y) (by rw [hn];exact s1) (by rw [hl];exact s3)
 ·obtain ⟨i,hi⟩:=List.getElem?_of_mem hy
  obtain ⟨x,hx,hn,_⟩:=Zpk hi
  have s1:=ZuK (Jz h2 hx)
  have:sm .str (ZL.Name y):=by rw [hn];exact s1
  exact ⟨this,trivial,trivial,trivial⟩
theorem ZvI {d:Za} (h:sm Yr d) (hf:(Za.Instances d).length≤100) (hn:(Za.ZM d).length≤100) {x:Zd} {s:List UInt8} (hx:sm Z6 x) (hs:sm .str s):sm Yr (addInst d x s):=by
 obtain ⟨h1,h2,h3⟩:=ZbJ h
 refine Zfo ⟨by rw [List.length_append,List.length_singleton];omega,fun y hy=>?_⟩ ⟨by rw [List.length_append,List.length_singleton];omega,fun y hy=>?_⟩ h2
 ·rcases List.mem_append.1 hy with hy | hy
  ·exact h1.2 y hy
  ·rw [List.mem_singleton] at hy;rw [hy];exact hx
 ·rcases List.mem_append.1 hy with hy | hy
  ·exact h3.2 y hy
  ·rw [List.mem_singleton] at hy;rw [hy];exact hs
theorem Zqf {t:Ty} {l:List t.den} (h:sm (.sl t) l) (m:Nat):sm (.sl t) (l.take m):=by
 have:=h.1
 exact ⟨by rw [List.length_take];omega,fun x hx=>h.2 x (List.mem_of_mem_take hx)⟩
theorem Zv9 {d:Za} (h:sm Yr d):sm Yr (XW d):=by
 obtain ⟨h1,h2,h3⟩:=ZbJ h
 exact Zfo (Zqf h1 _) (Zqf h3 _) h2
theorem Zok {pl:List Pl} {ws:List Zn} {nd:Nat→Int} (h:sm (.sl XR) ws) (hp:pl.length≤1048576):sm (.sl XR) (wired pl ws nd):=by
 have h1:=h.1
 refine ⟨by rw [ZfY];exact h1,fun y hy=>?_⟩
 obtain ⟨v,hv⟩:=List.getElem?_of_mem hy
 rw [ZdQ] at hv
 cases hx:ws[v]? with
 | none=>rw [hx] at hv;cases hv
 | some w =>
  rw [hx] at hv
  injection hv with hv
  subst hv
  obtain ⟨a1,a2,a3,a4⟩:=Zir (Jz h hx)
  have:=Zfw (v:Int) pl 0
  exact Zpb (Zm a1) (Zm a2) (Zm a3) (by rw [List.length_map];omega)
theorem Zuu {b:Zb} (h:ZaQ b) {k:Nat} {p:Pl} (hp:(places (Zb.Design b))[k]?=some p) (h2:p.2.2.2.1=false) {n v:Int} (hn:ZbF (Zb.Design b) n) (hv:∀ w,(Zb.Zw b)[n.toNat]?=some w→0≤v∧v≤((Zn.Parent w).length:Int)-1):ZaQ (moved b k p n v):=by
 have hpl:places (mvD b p n)=(places (Zb.Design b)).set k (p.1,p.2.1,n,p.2.2.2.1,()):=Vf hp n
 obtain ⟨b1,b2,b3⟩:=ZaJ h.sm
 have hD:QX (Zb.Library b) (mvD b p n):=Zp6 h.ok.1 hp h2 hn
 refine ⟨⟨hD,?_,?_⟩,?_⟩
 ·show (wired (places (mvD b p n)) (Zb.Zw b) (mvN b k v)).length=(Za.ZM (conn (Zb.Design b) p.1 p.2.1 n)).length
  rw [ZfY,Vr];exact h.ok.2.1
 ·exact ZnR (fun v w hw=>⟨_,h.ok.2.2 v w hw⟩) (by rw [hpl];exact (Zlu h).set n v hv)
 ·have hl:=Qn hD.few
  exact Ze3 b1 (ZpX b2 _ _ _) (Zok b3 (by omega))
theorem Zsm {c c2:Zh} (h1:sm XY c) (h2:sm XY c2) (h:Vo c c2=some true):(Zh.YC c2).length=(Zh.YC c).length:=by
 unfold Vo at h
 by_cases q:Zh.Kind c=Zh.Kind c2
 ·by_cases q2:((Zh.YC c).length:Int)=((Zh.YC c2).length:Int)
  ·omega
  ·exfalso;revert h;simp [q,q2]
 ·exfalso;revert h;simp [q]
theorem Zm8 {d:Za} {i:Nat} {x:Zd} (hx:(Za.Instances d)[i]?=some x) (c:Int):places ((Za.Instances d).set i (Zd.Name x,c,Zd.ZM x,()),Za.ZM d,Za.ZX d,())=places d:=by
 show cat Qv 0 ((Za.Instances d).set i (Zd.Name x,c,Zd.ZM x,()))++cat ZeF 0 (Za.ZX d)=_
 unfold places
 congr 1
 have hlt:=(List.getElem?_eq_some_iff.1 hx).1
 have e1:=Zfs Qv hx
 have hx2:((Za.Instances d).set i (Zd.Name x,c,Zd.ZM x,()))[i]?=some (Zd.Name x,c,Zd.ZM x,()):=List.getElem?_set_self hlt
 have e2:=Zfs Qv hx2
 rw [e1,e2,List.take_set_of_le (Nat.le_refl _),List.drop_set_of_lt (by omega)]
 rfl
theorem ZrF {b:Zb} (h:ZaQ b) {i:Int} (h0:0≤i) {x:Zd} (hx:(Za.Instances (Zb.Design b))[i.toNat]?=some x) {c:Int} {c1 c2:Zh} (hc1:(Zk.Cells (Zb.Library b))[(Zd.Cell x).toNat]?=some c1) (hc2:(Zk.Cells (Zb.Library b))[c.toNat]?=some c2)
  (hc:0≤c∧c≤((Zk.Cells (Zb.Library b)).length:Int)-1) (ha:(Zh.YC c2).length=(Zh.YC c1).length):ZaQ (swapped b i c):=by
 obtain ⟨b1,b2,b3⟩:=ZaJ h.sm
 obtain ⟨s1,s2,s3⟩:=ZbJ b2
 obtain ⟨⟨hl,⟨n1,n2,n3,n4,n5,n6⟩,hi,hq,ho⟩,hwn,hw⟩:=h.ok
 have e:swapped b i c=(Zb.Library b,((Za.Instances (Zb.Design b)).set i.toNat (Zd.Name x,c,Zd.ZM x,()),Za.ZM (Zb.Design b),Za.ZX (Zb.Design b),()),Zb.Zw b,()):=by
  unfold swapped
  rw [hx]
 have hpl:=Zm8 hx c
 rw [e]
 have hmem:∀ y∈(Za.Instances (Zb.Design b)).set i.toNat (Zd.Name x,c,Zd.ZM x,()),y∈Za.Instances (Zb.Design b)∨y=(Zd.Name x,c,Zd.ZM x,()):=fun y hy=>List.mem_or_eq_of_mem_set hy
 refine ⟨⟨⟨hl,⟨by show (List.set _ _ _).length≤14;rw [List.length_set];exact n1,n2,n3,?_,n5,n6⟩,fun y hy=>?_,hq,?_⟩,hwn,?_⟩,?_⟩
 ·have:ZaV ((Za.Instances (Zb.Design b)).set i.toNat (Zd.Name x,c,Zd.ZM x,()),Za.ZM (Zb.Design b),Za.ZX (Zb.Design b),())=ZaV (Zb.Design b):=by
   show List.map Zd.Name (List.set _ _ _)=_
   rw [List.map_set]
   exact ZbH (by rw [List.getElem?_map,hx];rfl)
  exact this▸n4
 ·rcases hmem y hy with hy | hy
  ·exact hi y hy
  ·subst hy
   obtain ⟨r1,⟨c',r2,r3⟩,r4⟩:=hi x (List.mem_of_getElem? hx)
   have r2:(Zk.Cells (Zb.Library b))[(Zd.Cell x).toNat]?=some c':=r2
   rw [hc1] at r2
   injection r2 with r2
   subst r2
   exact ⟨hc,⟨c2,hc2,by rw [ha];exact r3⟩,r4⟩
 ·unfold Zf9
  have:ZlR ((Za.Instances (Zb.Design b)).set i.toNat (Zd.Name x,c,Zd.ZM x,()),Za.ZM (Zb.Design b),Za.ZX (Zb.Design b),())=ZlR (Zb.Design b):=by
   unfold ZlR
   congr 1
   show List.map XV (List.set _ _ _)=_
   rw [List.map_set]
   exact ZbH (by rw [List.getElem?_map,hx];rfl)
  rw [this]
  exact ho
 ·intro k w hk
  have:=hw k w hk
  unfold sinks at *
  have hpl2:places (Zb.Design ((Zb.Library b,((Za.Instances (Zb.Design b)).set i.toNat (Zd.Name x,c,Zd.ZM x,()),Za.ZM (Zb.Design b),Za.ZX (Zb.Design b),()),Zb.Zw b,()):Zb))=places (Zb.Design b):=hpl
  rw [hpl2]
  exact this
 ·refine Ze3 b1 (Zfo ⟨by rw [List.length_set];exact s1.1,fun y hy=>?_⟩ s3 s2) b3
  rcases hmem y hy with hy | hy
  ·exact s1.2 y hy
  ·subst hy
   obtain ⟨q1,q2⟩:=Zie (Jz s1 hx)
   exact Zml q1 (Zm q2)
theorem Zr4 {b:Zb} (h:ZaQ b) {n:Int} (hn:ZbF (Zb.Design b) n) {w:Zn} (hw:Zb1 w ((sinks (Zb.Design b) n).length:Int)) (hs:sm XR w):ZaQ (ZuL b n w):=by
 obtain ⟨b1,b2,b3⟩:=ZaJ h.sm
 obtain ⟨hD,hwn,hW⟩:=h.ok
 refine ⟨⟨hD,by show (List.set _ _ _).length=_;rw [List.length_set];exact hwn,?_⟩,Ze3 b1 b2 ⟨by rw [List.length_set];exact b3.1,fun y hy=>?_⟩⟩
 ·intro k y hk
  have hk:((Zb.Zw b).set n.toNat w)[k]?=some y:=hk
  rw [List.getElem?_set] at hk
  split at hk
  ·rename_i e
   split at hk
   ·injection hk with hk
    subst hk
    rw [←e]
    show Zb1 w ((sinks (Zb.Design b) ((n.toNat:Nat):Int)).length:Int)
    rw [show ((n.toNat:Nat):Int)=n by have:=hn.1;omega]
    exact hw
   ·cases hk
  ·exact hW k y hk
 ·rcases List.mem_or_eq_of_mem_set hy with hy | hy
  ·exact b3.2 y hy
  ·rw [hy];exact hs
theorem Zkh {b:Zb} (h:ZaQ b) {e:Zf} {k:Nat} {p q:Pl} (hp:(places (Zb.Design b))[k]?=some p):(places (addInst (Zb.Design b) (ZnA b e q) (Zf.Name e)))[ZqM b k]?=some p:=by
 unfold ZqM
 by_cases hk:k<Yz (Zb.Design b)
 ·rw [if_pos hk,Zpd hk];exact hp
 ·rw [if_neg hk]
  have:=Znq (d:=Zb.Design b) (x:=ZnA b e q) (s:=Zf.Name e) (k:=k) (by omega)
  rw [show (Zd.ZM (ZnA b e q)).length=2 from rfl] at this
  rw [this];exact hp
theorem Ztu {d:Za} {k:Nat} {p:Pl} (hp:(places d)[k]?=some p) (h1:p.1<((Za.Instances d).length:Int)∨True):p.1<((Za.Instances d).length:Int):=by
 rcases JU hp with ⟨i,j,x,m,hx,hn,e,rfl⟩ | ⟨j,q,hq,e,rfl⟩
 ·have:=(List.getElem?_eq_some_iff.1 hx).1
  show (i:Int)<_
  omega
 ·show (-1:Int)<_
  omega
theorem ZhL {b:Zb} {e:Zf} {k:Nat} {p:Pl} (hp:(places (Zb.Design b))[k]?=some p):Zpl b e p=conn (addInst (Zb.Design b) (ZnA b e p) (Zf.Name e)) p.1 p.2.1 ((Za.ZM (Zb.Design b)).length:Int) :=
 (Zux (Ztu hp (.inr trivial))).symm
theorem ZuT:Zb1 Zrd 0:=by
 refine ⟨⟨by decide,by decide⟩,rfl,rfl,rfl,fun k x hk=>?_,?_,?_,?_⟩
 ·match k,hk with
  | 0,hk =>
   injection hk with hk
   exact ⟨fun _=>⟨hk.symm,rfl⟩,fun h=>by omega⟩
  | k+1,hk=>cases hk
 ·intro x hx
  rw [show Zn.Res Zrd=[0] from rfl,List.mem_singleton] at hx
  omega
 ·intro x hx
  rw [show Zn.Cap Zrd=[0] from rfl,List.mem_singleton] at hx
  omega
 ·intro x hx
  cases hx
theorem Zut {b:Zb} (h:ZaQ b) {e:Zf} {k:Nat} {p:Pl} (hp:(places (Zb.Design b))[k]?=some p) (h2:p.2.2.2.1=false) :
  Fits (places (addInst (Zb.Design b) (ZnA b e p) (Zf.Name e))) (Zb.Zw b++[Zrd]) (Zp5 (YV b) (Yz (Zb.Design b)) (YV b k)):=by
 have hf:=h.ok.1.few
 have hold:=Zlu h
 have hws:∀ (m:Int) (w:Zn),ZbF (Zb.Design b) m→(Zb.Zw b++[Zrd])[m.toNat]?=some w→(Zb.Zw b)[m.toNat]?=some w:=fun m w hm hw=>by
  rw [List.getElem?_append_left (by rw [h.ok.2.1];unfold ZbF at hm;omega)] at hw
  exact hw
 intro j q w hq hd hw
 unfold Zp5
 have hil:Yz (Zb.Design b)≤Yz (Zb.Design b):=Nat.le_refl _
 by_cases c1:j<Yz (Zb.Design b)
 ·rw [if_pos c1]
  rw [Zpd c1] at hq
  exact hold j q w hq hd (hws _ _ (ZaH h.ok.1 (List.mem_of_getElem? hq)) hw)
 ·rw [if_neg c1]
  by_cases c2:j=Yz (Zb.Design b)
  ·rw [if_pos c2]
   have:=add_mid (d:=Zb.Design b) (x:=ZnA b e p) (s:=Zf.Name e) (j:=0) (by show 0<2;omega)
   rw [Nat.add_zero,←c2,hq] at this
   have e1:q=Zd0 (Za.Instances (Zb.Design b)).length (ZnA b e p) 0 p.2.2.1:=by
    have h3:=Zf5 (i:=(Za.Instances (Zb.Design b)).length) (x:=ZnA b e p) (j:=0) (n:=p.2.2.1) rfl
    rw [←this] at h3
    injection h3
   have e2:q.2.2.1=p.2.2.1:=by rw [e1];rfl
   rw [e2] at hw
   exact hold k p w hp h2 (hws _ _ (ZaH h.ok.1 (List.mem_of_getElem? hp)) hw)
  ·rw [if_neg c2]
   by_cases c3:j=Yz (Zb.Design b)+1
   ·exfalso
    have:=add_mid (d:=Zb.Design b) (x:=ZnA b e p) (s:=Zf.Name e) (j:=1) (by show 1<2;omega)
    rw [←c3,hq] at this
    have h3:=Zf5 (i:=(Za.Instances (Zb.Design b)).length) (x:=ZnA b e p) (j:=1) (n:=((Za.ZM (Zb.Design b)).length:Int)) rfl
    rw [←this] at h3
    injection h3 with h3
    rw [h3] at hd
    revert hd
    show ¬(decide ((1:Int)=IntKind.i64.wrap ((2:Int)-1))=false)
    rw [Vy (by omega) (by omega)]
    simp
   ·rw [if_neg c3]
    have:=Znq (d:=Zb.Design b) (x:=ZnA b e p) (s:=Zf.Name e) (k:=j-2) (by omega)
    rw [show (Zd.ZM (ZnA b e p)).length=2 from rfl,show j-2+2=j by omega,hq] at this
    exact hold (j-2) q w this.symm hd (hws _ _ (ZaH h.ok.1 (List.mem_of_getElem? this.symm)) hw)
theorem Znr {α:Type} {p:α→Bool} {l:List α} (h:Zbe p l<0):∀ x∈l,p x=false:=by
 intro x hx
 cases hp:p x with
 | false=>rfl
 | true =>
  have:=Zcb.2 (List.any_eq_true.2 ⟨x,hx,hp⟩)
  omega
theorem ZiT {b:Zb} {e:Zf} (h:Zps b e) (k2:Zf.Kind e=2) (hs:sm .str (Zf.Name e)) {p:Pl} (hp:Zfu b e p):ZaQ (buffered b e (Zf.Place e).toNat p):=by
 have hB:=h.blk
 obtain ⟨b1,b2,b3⟩:=ZaJ hB.sm
 obtain ⟨l1,l2⟩:=h.lim k2
 obtain ⟨p',c,hp',hd,hc,hk,hpins,hname,hni,hnn⟩:=h.poss.2.1 k2
 have:p'=p:=by
  have:=hp'.2
  rw [hp.2] at this
  injection this with this
  exact this.symm
 subst this
 obtain ⟨_,hcr⟩:=h.range.1 (.inr k2)
 have hc2:(Zk.Cells (Zb.Library b))[(Zf.Cell e).toNat]?=some c:=by
  have:=hc
  unfold atI at this
  rw [if_pos hcr.1] at this
  exact this
 have hA:QX (Zb.Library b) (addInst (Zb.Design b) (ZnA b e p') (Zf.Name e)):=by
  refine ZvT hB.ok.1 hname (fun hm=>?_) (fun hm=>?_) l1 l2 hcr.1 hcr.2 hc2 hpins (ZaH hB.ok.1 hp.mem)
  ·obtain ⟨x,hx,e1⟩:=List.mem_map.1 hm
   have:=Znr hni x hx
   simp [e1] at this
  ·have:=Znr hnn _ hm
   simp at this
 have hN:ZbF (addInst (Zb.Design b) (ZnA b e p') (Zf.Name e)) ((Za.ZM (Zb.Design b)).length:Int):=by
  unfold ZbF
  show 0≤_∧_≤((Za.ZM (Zb.Design b)++[Zf.Name e]).length:Int)-1
  rw [List.length_append,List.length_singleton]
  omega
 have hpk:=Zkh (e:=e) (q:=p') hB hp.2
 have hD:QX (Zb.Library b) (Zpl b e p'):=by
  rw [ZhL hp.2]
  exact Zp6 hA hpk hd hN
 have hl:=Qn hD.few
 have hwn:=hB.ok.2.1
 have hpl:places (Zpl b e p')=(places (addInst (Zb.Design b) (ZnA b e p') (Zf.Name e))).set (ZqM b (Zf.Place e).toNat) (p'.1,p'.2.1,((Za.ZM (Zb.Design b)).length:Int),p'.2.2.2.1,()):=by
  rw [ZhL hp.2]
  exact Vf hpk _
 refine ⟨⟨hD,?_,?_⟩,?_⟩
 ·show (wired (places (Zpl b e p')) (Zb.Zw b++[Zrd]) (ZwY b (Zf.Place e).toNat)).length=(Za.ZM (conn (Zb.Design b) p'.1 p'.2.1 _)++[Zf.Name e]).length
  rw [ZfY,List.length_append,List.length_append,Vr,hwn]
  rfl
 ·refine ZnR (pl:=places (Zpl b e p')) (fun v w hw=>?_) ?_
  ·by_cases hv:v<(Zb.Zw b).length
   ·rw [List.getElem?_append_left hv] at hw
    exact ⟨_,hB.ok.2.2 v w hw⟩
   ·rw [List.getElem?_append_right (by omega)] at hw
    have:=List.mem_of_getElem? hw
    rw [List.mem_singleton] at this
    rw [this]
    exact ⟨_,ZuT⟩
  ·rw [hpl]
   refine (Zut hB hp.2 hd).set _ 0 (fun w hw=>?_)
   rw [Int.toNat_natCast,←hwn,List.getElem?_append_right (Nat.le_refl _),Nat.sub_self] at hw
   injection hw with hw
   rw [←hw]
   exact ⟨Int.le_refl _,by show (0:Int)≤(1:Int)-1;omega⟩
 ·refine Ze3 b1 ?_ (Zok ⟨?_,fun y hy=>?_⟩ (by omega))
  ·exact ZvI (ZpX b2 _ _ _) (by rw [YM];omega) (by rw [Vr];omega) (Zml hs (by show 2≤_;omega)) hs
  ·rw [List.length_append,List.length_singleton]
   have:=hB.ok.1.2.1.2.1
   omega
  ·rcases List.mem_append.1 hy with hy | hy
   ·exact b3.2 y hy
   ·rw [List.mem_singleton] at hy
    rw [hy]
    exact Zpb (by decide) (by decide) (by decide) (by decide)
end Go.Proofs.YtehkanadahncgaaGreatDoor
/-
  Plain laws: a block with a buffer less is valid.
-/
namespace Go.Proofs.YtehkanadahncgaaGreatDoor
set_option linter.unusedVariables false
set_option linter.unusedSimpArgs false
open Go Go.Sx
theorem Fits.cut {d:Za} {ws:List Zn} {nd:Nat→Int} (h:Fits (places d) ws nd) {x:Zd} (hn:0<(Za.Instances d).length) (hx:(Za.Instances d)[(Za.Instances d).length-1]?=some x) (h2:(Zd.ZM x).length=2) (m:Nat) :
  Fits (places (XW d)) (ws.take m) (ZnL nd (Yz (XW d))):=by
 intro k p w hp hd hw
 rw [List.getElem?_take] at hw
 split at hw
 ·unfold ZnL
  have hpc:=Zh1 (s:=[]) hn hx
  by_cases c:k<Yz (XW d)
  ·rw [if_pos c]
   exact h k p w (by rw [hpc,Zpd c];exact hp) hd hw
  ·rw [if_neg c]
   have:=Znq (d:=XW d) (x:=x) (s:=[]) (k:=k) (by omega)
   rw [h2] at this
   exact h (k+2) p w (by rw [hpc,this];exact hp) hd hw
 ·cases hw
theorem Zeh (d:Za):(places d).length=Yz d+(Za.ZX d).length:=by
 unfold places Yz
 rw [List.length_append,Zpy]
theorem Zke {d:Za} {k:Nat} {p:Pl} (hp:(places d)[k]?=some p) (n:Int):Yz (conn d p.1 p.2.1 n)=Yz d:=by
 have h1:=Zeh d
 have h2:=Zeh (conn d p.1 p.2.1 n)
 rw [Vf hp,List.length_set,ZfX] at h2
 omega
theorem Zja {b:Zb} (h:ZaQ b) (hL:ZjH b) {k:Nat} {p:Pl} {m:Int} (hs:sinks (Zb.Design b) (((Za.ZM (Zb.Design b)).length:Int)-1)=[(k:Int)]) (hp:(places (Zb.Design b))[k]?=some p) (hpi:p.1≠((Za.Instances (Zb.Design b)).length:Int)-1)
  (hm:∀ x,(Za.Instances (Zb.Design b))[(Za.Instances (Zb.Design b)).length-1]?=some x→atI (Zd.ZM x) 0=some m):ZaQ (ZjY b k p m):=by
 obtain ⟨b1,b2,b3⟩:=ZaJ h.sm
 obtain ⟨k',p',hs',hp',hpn,hpd,hpi'⟩:=hL.sink h
 have ek:k=k':=by
  rw [hs] at hs'
  injection hs' with hs' _
  omega
 subst ek
 rw [hp] at hp'
 injection hp' with hp'
 subst hp'
 obtain ⟨x,c,w,m',hn,hx,hc,hk1,hk2,hl2,hm',hl,hne,hnm,hw,hs1,hs2,hp1,hc0⟩:=hL
 have em:m'=m:=by
  have:=hm x hx
  rw [hm'] at this
  injection this
 subst em
 have hD:=h.ok.1
 have hwn:=h.ok.2.1
 have hm0:(Zd.ZM x)[0]?=some m':=hm'
 have hl1:(Zd.ZM x)[1]?=some (((Za.ZM (Zb.Design b)).length:Int)-1):=hl
 have hmn:=(hD.2.2.1 x (List.mem_of_getElem? hx)).2.2 m' (List.mem_of_getElem? hm0)
 have hlx:XV x=((Za.ZM (Zb.Design b)).length:Int)-1:=by
  have:=ZhV (x:=x) (by omega)
  rw [hl2,show 2-1=1 from rfl,hl1] at this
  injection this with this
  exact this.symm
 have hC:QX (Zb.Library b) (conn (Zb.Design b) p.1 p.2.1 m'):=Zp6 hD hp hpd hmn
 have hn2:0<(Za.Instances (conn (Zb.Design b) p.1 p.2.1 m')).length:=by rw [YM];exact hn
 have hx2:(Za.Instances (conn (Zb.Design b) p.1 p.2.1 m'))[(Za.Instances (conn (Zb.Design b) p.1 p.2.1 m')).length-1]?=some x:=by
  have hy:(Za.Instances (conn (Zb.Design b) p.1 p.2.1 m'))[(Za.Instances (conn (Zb.Design b) p.1 p.2.1 m')).length-1]?=some ((Za.Instances (conn (Zb.Design b) p.1 p.2.1 m'))[(Za.Instances (conn (Zb.Design b) p.1 p.2.1 m')).length-1]'(by omega)):=List.getElem?_eq_getElem _
  generalize (Za.Instances (conn (Zb.Design b) p.1 p.2.1 m'))[(Za.Instances (conn (Zb.Design b) p.1 p.2.1 m')).length-1]'(by omega)=y at hy
  obtain ⟨x',hx',_,_,_,he,_⟩:=ZeG hy
  rw [YM,hx] at hx'
  injection hx' with hx'
  rw [hy,hx',he (by rw [YM];omega)]
 have hsn:∀ q∈places (conn (Zb.Design b) p.1 p.2.1 m'),q.2.2.2.1=false→q.2.2.1≠((Za.ZM (conn (Zb.Design b) p.1 p.2.1 m')).length:Int)-1:=by
  intro q hq hd e
  rw [Vr] at e
  rw [Vf hp] at hq
  obtain ⟨j,hj⟩:=List.getElem?_of_mem hq
  rw [List.getElem?_set] at hj
  split at hj
  ·split at hj
   ·injection hj with hj
    subst hj
    exact hne e
   ·cases hj
  ·rename_i hjk
   have h3:=ZjA hj e hd
   have h4:(sinks (Zb.Design b) (((Za.ZM (Zb.Design b)).length:Int)-1))[nth (places (Zb.Design b)) (((Za.ZM (Zb.Design b)).length:Int)-1) j]?=some (j:Int):=h3
   rw [hs] at h4
   have h5:=List.mem_of_getElem? h4
   rw [List.mem_singleton] at h5
   exact absurd (by omega) hjk
 have hU:QX (Zb.Library b) (unD b p m'):=ZvY hC hn2 hx2 (by rw [Vr];exact hlx) hsn
 have hins:Yz (unD b p m')=Yz (Zb.Design b)-2:=by
  have h1:=Zho hn2 hx2 hl2
  have h2:=Zke hp m'
  unfold unD
  omega
 have hpl:=Qn hU.few
 refine ⟨⟨hU,?_,?_⟩,?_⟩
 ·show (wired (places (unD b p m')) ((Zb.Zw b).take ((Zb.Zw b).length-1)) (unN b k)).length=((Za.ZM (conn (Zb.Design b) p.1 p.2.1 m')).take ((Za.ZM (conn (Zb.Design b) p.1 p.2.1 m')).length-1)).length
  rw [ZfY,List.length_take,List.length_take,Vr,hwn]
 ·refine ZnR (pl:=places (unD b p m')) (fun v w hw=>?_) ?_
  ·rw [List.getElem?_take] at hw
   split at hw
   ·exact ⟨_,h.ok.2.2 v w hw⟩
   ·cases hw
  ·have h1:Fits (places (conn (Zb.Design b) p.1 p.2.1 m')) (Zb.Zw b) (mvN b k (YV b (Yz (Zb.Design b)-2))):=by
    rw [Vf hp]
    refine (Zlu h).set m' _ (fun w' hw'=>?_)
    have h5:=ZeM hx hm0
    rw [Nat.add_zero,Znw hn hx hl2] at h5
    refine Zlu h _ _ w' h5 ?_ hw'
    show decide ((0:Int)=IntKind.i64.wrap (((Zd.ZM x).length:Int)-1))=false
    rw [hl2,Vy (by omega) (by omega)]
    decide
   have h2:=h1.cut hn2 hx2 hl2 ((Zb.Zw b).length-1)
   have h3:Yz (XW (conn (Zb.Design b) p.1 p.2.1 m'))=Yz (Zb.Design b)-2:=hins
   rw [h3] at h2
   exact h2
 ·exact Ze3 b1 (Zv9 (ZpX b2 _ _ _)) (Zok (Zqf b3 _) (by omega))
end Go.Proofs.YtehkanadahncgaaGreatDoor
/-
  Plain laws: the reference's own copies; places connected, sinks attached (reference); edits applied.
-/
namespace Go.Proofs.YtehkanadahncgaaGreatDoor
set_option linter.unusedVariables false
set_option linter.unusedSimpArgs false
open Go Go.Sx
theorem Zk9 (t:Zv) (ht:sm YP t):Zee t=some t:=by
 have e1:=ZdW (Zv.ZfN t) (Zm (t:=.int .i64) ht.1)
 have e2:=ZdW (Zv.Loads t) (Zm (t:=.int .i64) ht.2.1)
 have e3:=ZdW (Zv.Values t) (Zm (t:=.int .i64) ht.2.2.1)
 unfold Zee
 rw [e1,e2,e3]
 rfl
theorem Zf4 (l:List Zv) (hl:sm (.sl YP) l):Ve l=some l:=by
 have h1:=Zm hl
 unfold Ve
 have:=YH (l:=l) (fun k=>(l.take k,(k:Int),())) (step:=fun v=>Xu l v.1 v.2.1) (good:=l) (fun k x hx hk=>by
  have hg:((l.take k).length+[x].length)*72≤140737488355328:=by rw [List.length_take,List.length_singleton];omega
  simp only [Xu,show (k:Int)<(l.length:Int) by omega,if_true,Zu,hx,Option.bind_some,Zk9 x (Jz hl hx),Zi hg,JJ (show k≤1048576 by omega)]
  rw [YA hx]) (by
  simp only [Xu,Int.lt_irrefl,if_false,List.take_length])
 simpa using this
theorem Zl0 (c:Zh) (hs:sm XY c):Zd6 c=some c:=by
 have p1:sm (.sl ZcH) (Zh.YC c):=hs.2.2.1
 have p2:sm (.sl ZeP) (Zh.Za7 c):=hs.2.2.2.1
 have p3:sm (.sl (.int .i64)) (Zh.Truth c):=hs.2.2.2.2.1
 have l1:=Zm p1
 have l2:=Zm p2
 have l3:=Zm p3
 unfold Zd6
 rw [Zi (by rw [List.length_nil];omega),ZdW _ l3,Option.bind_some]
 have:=YH (l:=Zh.Za7 c) (fun k=>((k:Int),(Zh.Za7 c).take k,())) (step:=fun v=>Jq c (Zh.Truth c) v.1 v.2.1) (good:=c) (fun k x hx hk=>by
  obtain ⟨q1,q2⟩:=ZuE (Jz p2 hx)
  have hg:∀ y:ZT,(((Zh.Za7 c).take k).length+[y].length)*80≤140737488355328:=fun y=>by rw [List.length_take,List.length_singleton];omega
  simp only [Jq,show (k:Int)<((Zh.Za7 c).length:Int) by omega,if_true,Zu,hx,Option.bind_some,Zf4 _ q1,Zf4 _ q2,Zi (hg _),JJ (show k≤1048576 by omega)]
  rw [YA hx]) (by
  simp only [Jq,Int.lt_irrefl,if_false,List.take_length]
  rfl)
 simpa using this
theorem ZjT (a:Zk) (ha:sm YE a):VF a=some a:=by
 have hc:=ZmR ha
 have h1:=Zm hc
 unfold VF
 have:=YH (l:=Zk.Cells a) (fun k=>((k:Int),(Zk.Cells a).take k,())) (step:=fun v=>Xm a v.1 v.2.1) (good:=a) (fun k x hx hk=>by
  have hg:(((Zk.Cells a).take k).length+[x].length)*112≤140737488355328:=by rw [List.length_take,List.length_singleton];omega
  simp only [Xm,show (k:Int)<((Zk.Cells a).length:Int) by omega,if_true,Zu,hx,Option.bind_some,Zl0 x (Jz hc hx),Zi hg,JJ (show k≤1048576 by omega)]
  rw [YA hx]) (by
  simp only [Xm,Int.lt_irrefl,if_false,List.take_length])
 simpa using this
theorem Zkw (d:Za) (hd:sm Yr d):Zd5 d=some d:=by
 obtain ⟨s1,s2,s3⟩:=ZbJ hd
 have l1:=Zm s1
 have l2:=Zm s2
 have l3:=Zm s3
 unfold Zd5
 rw [Zi (by rw [List.length_nil];omega),Zi (by rw [List.length_nil];omega)]
 have:=YH (l:=Za.Instances d) (fun k=>((k:Int),(Za.Instances d).take k,())) (step:=fun v=>Ji d v.1 v.2.1) (good:=d) (fun k x hx hk=>by
  have hx2:=ZdW (Zd.ZM x) (Zm (Zie (Jz s1 hx)).2)
  have hg:∀ y:Zd,(((Za.Instances d).take k).length+[y].length)*48≤140737488355328:=fun y=>by rw [List.length_take,List.length_singleton];omega
  simp only [Ji,show (k:Int)<((Za.Instances d).length:Int) by omega,if_true,Zu,hx,Option.bind_some,hx2,Zi (hg _),JJ (show k≤1048576 by omega)]
  rw [YA hx]) (by
  simp only [Ji,Int.lt_irrefl,if_false,List.take_length]
  rfl)
 simpa using this
theorem ZlE (b:Zb) (hb:sm YL b):ZcL b=some b:=by
 obtain ⟨b1,b2,b3⟩:=ZaJ hb
 have h1:=Zm b3
 unfold ZcL
 rw [ZjT _ b1,Option.bind_some,Zkw _ b2,Option.bind_some]
 have:=YH (l:=Zb.Zw b) (fun k=>((k:Int),(Zb.Zw b).take k,())) (step:=fun v=>Jm b (Zb.Library b) (Zb.Design b) v.1 v.2.1) (good:=b) (fun k x hx hk=>by
  have hg:(((Zb.Zw b).take k).length+[x].length)*96≤140737488355328:=by rw [List.length_take,List.length_singleton];omega
  simp only [Jm,show (k:Int)<((Zb.Zw b).length:Int) by omega,if_true,Zu,hx,Option.bind_some,Zfi x (Jz b3 hx),Zi hg,JJ (show k≤1048576 by omega)]
  rw [YA hx]) (by
  simp only [Jm,Int.lt_irrefl,if_false,List.take_length])
 simpa using this
theorem Zfa {d:Za} {k:Nat} {p:Pl} (hp:(places d)[k]?=some p) (n:Int):Vv d p n=some (conn d p.1 p.2.1 n):=by
 unfold Vv conn
 rcases JU hp with ⟨i,j,x,m,hx,hn,e,rfl⟩ | ⟨j,q,hq,e,rfl⟩
 ·have c:¬((i:Int)<0):=by omega
  simp only [Zd0,Z4.instance,Z4.pin,if_neg c,Zu,hx,Option.bind_some,Int.toNat_natCast]
  have hn2:x.2.2.1[j]?=some m:=hn
  rw [hn2]
  rfl
 ·have c:((-1:Int)<0):=by omega
  simp only [Z4.instance,Z4.pin,if_pos c,Zu,hq,Option.bind_some,Int.toNat_natCast]
  rfl
def Zsj (pl:List Pl) (ws:List Zn) (nd:Nat→Int) (k:Nat):List Zn:=cat (fun v w=>[if v<k then Zev w ((cat (Za5 (v:Int)) 0 pl).map (fun k=>nd k.toNat)) else w]) 0 ws
theorem ZhX (pl:List Pl) (ws:List Zn) (nd:Nat→Int) (k v:Nat):(Zsj pl ws nd k)[v]?=(ws[v]?).map (fun w=>if v<k then Zev w ((cat (Za5 (v:Int)) 0 pl).map (fun k=>nd k.toNat)) else w):=by
 unfold Zsj
 rw [ZbZ,Nat.zero_add]
theorem ZnY (pl:List Pl) (ws:List Zn) (nd:Nat→Int) (k:Nat):(Zsj pl ws nd k).length=ws.length:=Zax _ _
theorem Zs0 (pl:List Pl) (ws:List Zn) (nd:Nat→Int):Zsj pl ws nd 0=ws:=by
 apply List.ext_getElem?
 intro v
 rw [ZhX]
 simp
theorem Zto (pl:List Pl) (ws:List Zn) (nd:Nat→Int):Zsj pl ws nd ws.length=wired pl ws nd:=by
 apply List.ext_getElem?
 intro v
 rw [ZhX,ZdQ]
 cases hv:ws[v]? with
 | none=>rfl
 | some w =>
  have:=(List.getElem?_eq_some_iff.1 hv).1
  simp only [Option.map_some,if_pos this]
theorem Zsc {pl:List Pl} {ws:List Zn} {nd:Nat→Int} {k:Nat} {w:Zn} (hw:ws[k]?=some w):(Zsj pl ws nd k)[k]?=some w∧(Zsj pl ws nd k).set k (Zev w ((cat (Za5 (k:Int)) 0 pl).map (fun k=>nd k.toNat)))=Zsj pl ws nd (k+1):=by
 constructor
 ·rw [ZhX,hw];simp
 ·apply List.ext_getElem?
  intro v
  rw [List.getElem?_set,ZnY]
  split
  ·rename_i e
   subst e
   rw [if_pos (List.getElem?_eq_some_iff.1 hw).1,ZhX,hw,Option.map_some,if_pos (by omega)]
  ·rw [ZhX,ZhX]
   congr 1
   funext w'
   by_cases h:v<k
   ·rw [if_pos h,if_pos (by omega)]
   ·rw [if_neg h,if_neg (by omega)]
theorem ZfR {b:Zb} {nodes:List Int} (hf:Few (Zb.Design b)) (hl:nodes.length=(places (Zb.Design b)).length) (hw:(Zb.Zw b).length≤1048576) :
  XT b nodes=some (Zb.Library b,Zb.Design b,wired (places (Zb.Design b)) (Zb.Zw b) (Zmx nodes),()):=by
 have hpl:=Qn hf
 unfold XT
 have:=YH (l:=Zb.Zw b) (fun k=>((k:Int),Zsj (places (Zb.Design b)) (Zb.Zw b) (Zmx nodes) k,())) (step:=fun v=>QL b nodes v.1 v.2.1) (good:=(Zb.Library b,Zb.Design b,wired (places (Zb.Design b)) (Zb.Zw b) (Zmx nodes),())) (fun k w hk hlt=>by
  obtain ⟨a1,a2⟩:=Zsc (nd:=Zmx nodes) (pl:=places (Zb.Design b)) hk
  have hlc:(sinks (Zb.Design b) (k:Int)).length≤(places (Zb.Design b)).length:=Zfw (k:Int) (places (Zb.Design b)) 0
  simp only [QL]
  rw [if_pos (show (k:Int)<(((Zsj (places (Zb.Design b)) (Zb.Zw b) (Zmx nodes) k).length:Nat):Int) by rw [ZnY];omega),VO _ _ hf,Option.bind_some]
  refine YH (l:=sinks (Zb.Design b) (k:Int)) (fun i=>(((sinks (Zb.Design b) (k:Int)).take i).map (fun x=>Zmx nodes x.toNat),(i:Int),())) (fun i x hx hi=>?_) ?_
  ·obtain ⟨j,p,hp,ex,hn,h2,hnth⟩:=Zot (pl:=places (Zb.Design b)) hx
   have hj:=(List.getElem?_eq_some_iff.1 hp).1
   have hnj:nodes[j]?=some (Zmx nodes j):=by
    unfold Zmx
    rw [List.getElem?_eq_getElem (by omega)]
    rfl
   simp only [V3,show (i:Int)<((sinks (Zb.Design b) (k:Int)).length:Int) by omega,if_true,Zu,hx,Option.bind_some]
   have et:=YA hx
   subst ex
   rw [Zu,hnj,Option.bind_some,Zi (by rw [List.length_map,List.length_take,List.length_singleton];omega),JJ (show i≤1048576 by omega),et,List.map_append]
   rfl
  ·simp only [V3,Int.lt_irrefl,if_false,Zu,a1,Option.bind_some,JJ (show k≤1048576 by omega),Int.toNat_natCast,List.take_length]
   rw [←a2]
   rfl) (by
  simp only [QL]
  rw [if_neg (show ¬(((Zb.Zw b).length:Nat):Int)<(((Zsj (places (Zb.Design b)) (Zb.Zw b) (Zmx nodes) (Zb.Zw b).length).length:Nat):Int) by rw [ZnY];omega),Zto])
 rw [Zs0] at this
 exact this
theorem Zkx (b:Zb):Zmx (ZaR b)=YV b:=by
 funext k
 unfold Zmx
 by_cases hk:k<(places (Zb.Design b)).length
 ·rw [Zgd hk];rfl
 ·rw [List.getElem?_eq_none (by rw [ZaA];omega)]
  unfold YV
  rw [List.getElem?_eq_none (by omega)]
  rfl
theorem Zpq {b:Zb} (h:ZaQ b) {k:Nat} {p:Pl} (hp:(places (Zb.Design b))[k]?=some p) (h2:p.2.2.2.1=false) {n v:Int} (hn:ZbF (Zb.Design b) n) :
  Xh (Zb.Library b,conn (Zb.Design b) p.1 p.2.1 n,Zb.Zw b,()) (ZkK Key (.int .i64) (ZaE (places (Zb.Design b)) (YV b) (places (Zb.Design b)).length) (Zqz p) v)=some (moved b k p n v):=by
 have hM:=((Zf1 (Zb.Design b) (YV b)).put hp v).set hp n
 rw [←Vf hp n] at hM
 have hwl:(Zb.Zw b).length≤1048576:=Zm (ZaJ h.sm).2.2
 have hn1:n<((Zb.Zw b).length:Int):=by rw [h.ok.2.1];have:=hn.2;omega
 exact Zfd (b:=(Zb.Library b,conn (Zb.Design b) p.1 p.2.1 n,Zb.Zw b,())) (h.ok.1.few.conn p.1 p.2.1 n) hM (by
  show Zic (places (conn (Zb.Design b) p.1 p.2.1 n)) (Zb.Zw b).length
  rw [Vf hp]
  refine Zic.set (fun q hq hd=>?_) hn.1 hn1
  have:=ZaH h.ok.1 hq
  rw [h.ok.2.1]
  exact ⟨this.1,by have:=this.2;omega⟩) hwl
theorem Zo9 {b:Zb} (h:ZaQ b) {k:Nat} {p:Pl} (hp:(places (Zb.Design b))[k]?=some p) (n v:Int) :
  XT (Zb.Library b,conn (Zb.Design b) p.1 p.2.1 n,Zb.Zw b,()) ((ZaR b).set k v)=some (moved b k p n v):=by
 have hk:=(List.getElem?_eq_some_iff.1 hp).1
 have hf:=h.ok.1.few.conn p.1 p.2.1 n
 have e:=ZfR (b:=(Zb.Library b,conn (Zb.Design b) p.1 p.2.1 n,Zb.Zw b,())) (nodes:=(ZaR b).set k v) hf (by
  show ((ZaR b).set k v).length=(places (conn (Zb.Design b) p.1 p.2.1 n)).length
  rw [List.length_set,ZaA,Vf hp,List.length_set]) (Zm (ZaJ h.sm).2.2)
 rw [e]
 have e2:Zmx ((ZaR b).set k v)=mvN b k v:=by
  funext j
  rw [Zn2 (by rw [ZaA];exact hk),Zkx]
  rfl
 rw [e2]
 rfl
end Go.Proofs.YtehkanadahncgaaGreatDoor
/-
  Plain laws: a buffer put in, a buffer taken away: the program and the reference; edits applied.
-/
namespace Go.Proofs.YtehkanadahncgaaGreatDoor
set_option linter.unusedVariables false
set_option linter.unusedSimpArgs false
open Go Go.Sx
theorem ZrY {b:Zb} (h:ZaQ b):Zic (places (Zb.Design b)) (Zb.Zw b).length:=fun q hq _=>by
 have:=ZaH h.ok.1 hq
 rw [h.ok.2.1]
 exact ⟨this.1,by have:=this.2;omega⟩
theorem Zrv (pl:List Pl) (ws:List Zn) (nd:Nat→Int) {w w':Zn} (h:∀ l,Zev w l=Zev w' l):wired pl (ws++[w]) nd=wired pl (ws++[w']) nd:=by
 unfold wired
 rw [Zdh,Zdh]
 simp only [cat,h]
theorem ZmW {b:Zb} {e:Zf} (h:Zps b e) (k2:Zf.Kind e=2) (hs:sm .str (Zf.Name e)) {p:Pl} (hp:Zfu b e p) (hd:p.2.2.2.1=false):Jt b e=some (buffered b e (Zf.Place e).toNat p):=by
 have hB:=h.blk
 have hf:=hB.ok.1.few
 have h14:=hf.insts
 have h30:=hB.ok.1.2.1.2.1
 have hwn:=hB.ok.2.1
 have hR:=ZiT h k2 hs hp
 have hpk:=Zkh (e:=e) (q:=p) hB hp.2
 have hM0:=Zf1 (Zb.Design b) (YV b)
 have hv:Zhj Key (.int .i64) (ZaE (places (Zb.Design b)) (YV b) (places (Zb.Design b)).length) (p.1,p.2.1,())=some (YV b (Zf.Place e).toNat):=hM0 _ p hp.2 hd
 have hM1:=hM0.add (x:=ZnA b e p) (s:=Zf.Name e) rfl (by omega) (YV b (Zf.Place e).toNat)
 have hM2:=(hM1.put hpk 0).set hpk ((Za.ZM (Zb.Design b)).length:Int)
 rw [←Vf hpk,←ZhL hp.2] at hM2
 have hN:=ZrY hR
 have hl:(Zb.Zw (buffered b e (Zf.Place e).toNat p)).length=(Zb.Zw b++[Zrd]).length:=ZfY _ _ _
 rw [hl] at hN
 have hC:=Zfd (b:=(Zb.Library b,Zpl b e p,Zb.Zw b++[Zrd],())) hR.ok.1.few hM2 hN (by
  show (Zb.Zw b++[Zrd]).length≤_
  rw [List.length_append,List.length_singleton];omega)
 have hS:=ZfQ (b:=(Zb.Library b,addInst (Zb.Design b) (ZnA b e p) (Zf.Name e),Zb.Zw b++[Zrd],())) hpk ((Za.ZM (Zb.Design b)).length:Int)
 have eS:conn (Zb.Design ((Zb.Library b,addInst (Zb.Design b) (ZnA b e p) (Zf.Name e),Zb.Zw b++[Zrd],()):Zb)) p.1 p.2.1 ((Za.ZM (Zb.Design b)).length:Int)=Zpl b e p:=(ZhL hp.2).symm
 rw [eS] at hS
 unfold Jt
 rw [Zdy hB,Option.bind_some,Yl _ hf,Option.bind_some,hp.at,Option.bind_some,
  show YS (Za.ZM (Zb.Design b))=some ((Za.ZM (Zb.Design b)).length:Int) from rfl,Option.bind_some,
  show XQ (Za.Instances (Zb.Design b))=some ((Za.Instances (Zb.Design b)).length:Int) from rfl,Option.bind_some,
  Zi (by rw [List.length_singleton];omega),Zi (by rw [List.length_singleton];omega),Zi (by rw [List.length_singleton];omega)]
 refine Eq.trans (congrArg (fun o=>Option.bind o _) hS) ?_
 rw [Option.bind_some]
 have e3:Option.getD (Zhj Za2 (Ty.int IntKind.i64) (ZaE (places (Zb.Design b)) (YV b) (places (Zb.Design b)).length) (Yc.instance p,Yc.pin p,())) (0:Int)=YV b (Zf.Place e).toNat:=by
  have:Zhj Za2 (Ty.int IntKind.i64) (ZaE (places (Zb.Design b)) (YV b) (places (Zb.Design b)).length) (Yc.instance p,Yc.pin p,())=some (YV b (Zf.Place e).toNat):=hv
  rw [this];rfl
 rw [e3]
 refine Eq.trans (congrArg (fun o=>Option.bind o _) hC) ?_
 rfl
theorem ZsR {b:Zb} {k:Nat} (hk:k<(places (Zb.Design b)).length) (v:Int) (hv:v=YV b k) :
  Zmx (((ZaR b).take (Yz (Zb.Design b))++[v,0]++(ZaR b).drop (Yz (Zb.Design b))).set (ZqM b k) 0)=ZwY b k:=by
 have h2:=Zeh (Zb.Design b)
 have hm:Yz (Zb.Design b)≤(ZaR b).length:=by rw [ZaA];omega
 funext j
 rw [Zn2 (by
  rw [List.length_append,List.length_append,List.length_take,List.length_drop,ZaA]
  unfold ZqM
  simp only [List.length_cons,List.length_nil]
  split<;>omega),ZtA hm,Zkx,hv]
 rfl
theorem ZmY {b:Zb} {e:Zf} (h:Zps b e) (k2:Zf.Kind e=2) (hs:sm .str (Zf.Name e)) {p:Pl} (hp:Zfu b e p) (hd:p.2.2.2.1=false):Zbk b e=some (buffered b e (Zf.Place e).toNat p):=by
 have hB:=h.blk
 have hf:=hB.ok.1.few
 have hpl:=Qn hf
 have h14:=hf.insts
 have h8:=hf.ports
 have h30:=hB.ok.1.2.1.2.1
 have hwn:=hB.ok.2.1
 have hk:=(List.getElem?_eq_some_iff.1 hp.2).1
 have h0:=hp.1
 have h2:=Zeh (Zb.Design b)
 have hR:=ZiT h k2 hs hp
 have hW:IntKind.i64.wrap (((ZaR b).length:Int)-((Za.ZX (Zb.Design b)).length:Int))=(Yz (Zb.Design b):Int):=by
  rw [ZaA,Vy (by omega) (by omega)];omega
 have hdr:List.take ((ZaR b).length-Yz (Zb.Design b)) (List.drop (Yz (Zb.Design b)) (ZaR b))=List.drop (Yz (Zb.Design b)) (ZaR b):=List.take_of_length_le (by rw [List.length_drop];exact Nat.le_refl _)
 have hlump:Zat 1 0=some (([-1],[0],[0],[0],()):Zn):=by
  unfold Zat
  rw [Zi (by omega),Zi (by omega),Zi (by omega),Zi (by omega)]
  rfl
 have hln:((ZaR b).take (Yz (Zb.Design b))++[YV b (Zf.Place e).toNat,0]++(ZaR b).drop (Yz (Zb.Design b))).length=(places (Zb.Design b)).length+2:=by
  rw [List.length_append,List.length_append,List.length_take,List.length_drop,ZaA]
  simp only [List.length_cons,List.length_nil]
  omega
 have hbk:ZqM b (Zf.Place e).toNat<(places (Zb.Design b)).length+2:=by
  unfold ZqM
  split<;>omega
 have hpl2:(places (Zpl b e p)).length=(places (Zb.Design b)).length+2:=by
  have h3:=Zeh (Zpl b e p)
  rw [ZhL hp.2,Vf (Zkh (e:=e) (q:=p) hB hp.2),List.length_set]
  rw [Zf8,List.length_append,List.length_append,Vp,Zpy,h2]
  unfold Yz ZnA
  show _+2+_=_
  omega
 have hA:=ZfR (b:=(Zb.Library b,Zpl b e p,Zb.Zw b++[([-1],[0],[0],[0],())],())) (nodes:=((ZaR b).take (Yz (Zb.Design b))++[YV b (Zf.Place e).toNat,0]++(ZaR b).drop (Yz (Zb.Design b))).set (ZqM b (Zf.Place e).toNat) 0) hR.ok.1.few (by
  show (List.set _ _ _).length=(places (Zpl b e p)).length
  rw [List.length_set,hln,hpl2]) (by
  show (Zb.Zw b++[([-1],[0],[0],[0],())]).length≤_
  rw [List.length_append,List.length_singleton];omega)
 rw [ZsR hk _ rfl] at hA
 have hA2:XT (Zb.Library b,Zpl b e p,Zb.Zw b++[([-1],[0],[0],[0],())],()) ((((ZaR b).take (Yz (Zb.Design b))++[YV b (Zf.Place e).toNat,0]++(ZaR b).drop (Yz (Zb.Design b)))).set (ZqM b (Zf.Place e).toNat) 0)=some (buffered b e (Zf.Place e).toNat p):=by
  rw [hA]
  show some (Zb.Library b,Zpl b e p,wired (places (Zpl b e p)) (Zb.Zw b++[([-1],[0],[0],[0],())]) (ZwY b (Zf.Place e).toNat),())=_
  rw [Zrv _ _ _ (w:=([-1],[0],[0],[0],())) (w':=Zrd) (fun l=>rfl)]
  rfl
 unfold Zbk
 rw [Qg _ hf,Option.bind_some,hp.at,Option.bind_some,ZcG hB,Option.bind_some,QY hp.1 (Zgd hk),Option.bind_some,hW]
 simp only [Int.toNat_natCast,Int.toNat_zero,Nat.sub_zero,List.drop_zero,hdr]
 have hci:(Za.Instances (conn (Zb.Design b) p.1 p.2.1 ((Zb.Zw b).length:Int))).length=(Za.Instances (Zb.Design b)).length:=YM
 have hcn:(Za.ZM (conn (Zb.Design b) p.1 p.2.1 ((Zb.Zw b).length:Int))).length=(Za.ZM (Zb.Design b)).length:=by rw [Vr]
 have hl1:(List.take (Yz (Zb.Design b)) (ZaR b)).length=Yz (Zb.Design b):=by rw [List.length_take,ZaA];omega
 have hl2:(List.drop (Yz (Zb.Design b)) (ZaR b)).length=(Za.ZX (Zb.Design b)).length:=by rw [List.length_drop,ZaA];omega
 rw [Zi (by omega),Zi (by rw [ZaA];omega),ZdW _ (by omega),Option.bind_some,
  Zi (by rw [hl1];simp only [List.length_cons,List.length_nil];omega),Zi (by omega),Zi (by rw [List.length_append,hl1,hl2];simp only [List.length_cons,List.length_nil];omega),
  Zfa hp.2,Option.bind_some]
 have hx:∀ (i:Nat),i<(places (Zb.Design b)).length+2→∃ y,((ZaR b).take (Yz (Zb.Design b))++[YV b (Zf.Place e).toNat,0]++(ZaR b).drop (Yz (Zb.Design b)))[i]?=some y:=fun i hi=>⟨_,List.getElem?_eq_getElem (by rw [hln];exact hi)⟩
 have hD:((Za.Instances (conn (Zb.Design b) p.1 p.2.1 ((Zb.Zw b).length:Int))++[(Zf.Name e,Zf.Cell e,[Z4.net p,((Zb.Zw b).length:Int)],())],Za.ZM (conn (Zb.Design b) p.1 p.2.1 ((Zb.Zw b).length:Int))++[Zf.Name e],(conn (Zb.Design b) p.1 p.2.1 ((Zb.Zw b).length:Int)).snd.snd):Za)=Zpl b e p:=by
  rw [hwn]
  rfl
 by_cases hc:Yz (Zb.Design b)≤(Zf.Place e).toNat
 ·have hbk2:ZqM b (Zf.Place e).toNat=(Zf.Place e).toNat+2:=by unfold ZqM;rw [if_neg (by omega)]
  obtain ⟨y,hy⟩:=hx ((Zf.Place e).toNat+2) (by omega)
  rw [if_pos (by omega),Vy (n:=Zf.Place e+2) (by omega) (by omega),show Zf.Place e+2=(((Zf.Place e).toNat+2:Nat):Int) by omega,Zu,hy,Option.bind_some,
   Zi (by rw [hci,List.length_singleton];omega),Zi (by rw [hcn,List.length_singleton];omega),hlump,Option.bind_some,Zi (by rw [List.length_singleton];omega),Int.toNat_natCast,←hbk2,hD]
  refine Eq.trans (congrArg (fun o=>Option.bind o _) hA2) ?_
  rfl
 ·have hbk2:ZqM b (Zf.Place e).toNat=(Zf.Place e).toNat:=by unfold ZqM;rw [if_pos (by omega)]
  obtain ⟨y,hy⟩:=hx (Zf.Place e).toNat (by omega)
  rw [if_neg (by omega),QY hp.1 hy,Option.bind_some,
   Zi (by rw [hci,List.length_singleton];omega),Zi (by rw [hcn,List.length_singleton];omega),hlump,Option.bind_some,Zi (by rw [List.length_singleton];omega),hD]
  rw [hbk2] at hA2
  refine Eq.trans (congrArg (fun o=>Option.bind o _) hA2) ?_
  rfl
end Go.Proofs.YtehkanadahncgaaGreatDoor
/-
  Plain laws: a buffer taken away (reference); edits applied: the program and the reference.
-/
namespace Go.Proofs.YtehkanadahncgaaGreatDoor
set_option linter.unusedVariables false
set_option linter.unusedSimpArgs false
open Go Go.Sx
theorem Zlg {b:Zb} (h:ZaQ b) (hL:ZjH b) {k:Nat} {p:Pl} {m:Int} (hs:sinks (Zb.Design b) (((Za.ZM (Zb.Design b)).length:Int)-1)=[(k:Int)]) (hp:(places (Zb.Design b))[k]?=some p) (hpi:p.1≠((Za.Instances (Zb.Design b)).length:Int)-1)
  (hm:∀ x,(Za.Instances (Zb.Design b))[(Za.Instances (Zb.Design b)).length-1]?=some x→atI (Zd.ZM x) 0=some m):Zbo b=some (ZjY b k p m):=by
 have hR:=Zja h hL hs hp hpi hm
 obtain ⟨hn,x,hx,hl2⟩:=hL.two
 have hmx:=hm x hx
 have hf:=h.ok.1.few
 have hpl:=Qn hf
 have h14:=hf.insts
 have h8:=hf.ports
 have h30:=h.ok.1.2.1.2.1
 have hwn:=h.ok.2.1
 have hk:=(List.getElem?_eq_some_iff.1 hp).1
 have h2:=Zeh (Zb.Design b)
 have hi2:=Zho hn hx hl2
 have hpos:1≤(Za.ZM (Zb.Design b)).length:=by
  have:=ZaH h.ok.1 (List.mem_of_getElem? hp)
  unfold ZbF at this
  omega
 have hx2:atI (Za.Instances (Zb.Design b)) (((Za.Instances (Zb.Design b)).length:Int)-1)=some x:=QY (by omega) (by rw [←hx];congr 1;omega)
 have t1:Int.toNat (((Za.Instances (Zb.Design b)).length:Int)-1)=(Za.Instances (Zb.Design b)).length-1:=by omega
 have hset:((List.set (Za.Instances (Zb.Design b)) ((Za.Instances (Zb.Design b)).length-1) x,(Zb.Design b).snd):Za)=Zb.Design b:=by rw [ZbH hx]
 have hW1:IntKind.i64.wrap (((Zb.Zw b).length:Int)-1)=(((Zb.Zw b).length-1:Nat):Int):=by rw [Vy (by omega) (by omega)];omega
 have hW2:IntKind.i64.wrap (((ZaR b).length:Int)-((Za.ZX (Zb.Design b)).length:Int))=(Yz (Zb.Design b):Int):=by rw [ZaA,Vy (by omega) (by omega)];omega
 have hW3:IntKind.i64.wrap ((Yz (Zb.Design b):Int)-2)=((Yz (Zb.Design b)-2:Nat):Int):=by rw [Vy (by omega) (by omega)];omega
 have hW4:IntKind.i64.wrap (((Za.Instances (Zb.Design b)).length:Int)-1)=(((Za.Instances (Zb.Design b)).length-1:Nat):Int):=by rw [Vy (by omega) (by omega)];omega
 have hsk:Xw (Zb.Design b) (((Zb.Zw b).length-1:Nat):Int)=some [(k:Int)]:=by
  rw [VO _ _ hf,show (((Zb.Zw b).length-1:Nat):Int)=((Za.ZM (Zb.Design b)).length:Int)-1 by omega,hs]
 have hx3:atI (Za.Instances (Zb.Design b)) (((Za.Instances (Zb.Design b)).length-1:Nat):Int)=some x:=by rw [Zu];exact hx
 have hls:(List.set (ZaR b) k (YV b (Yz (Zb.Design b)-2))).length=(places (Zb.Design b)).length:=by rw [List.length_set,ZaA]
 have hdr:List.take ((List.set (ZaR b) k (YV b (Yz (Zb.Design b)-2))).length-Yz (Zb.Design b)) (List.drop (Yz (Zb.Design b)) (List.set (ZaR b) k (YV b (Yz (Zb.Design b)-2))))=List.drop (Yz (Zb.Design b)) (List.set (ZaR b) k (YV b (Yz (Zb.Design b)-2))):=List.take_of_length_le (by rw [List.length_drop];exact Nat.le_refl _)
 have hci:(Za.Instances (conn (Zb.Design b) p.1 p.2.1 m)).length=(Za.Instances (Zb.Design b)).length:=YM
 have hcn:(Za.ZM (conn (Zb.Design b) p.1 p.2.1 m)).length=(Za.ZM (Zb.Design b)).length:=by rw [Vr]
 have hl1:(List.take (Yz (Zb.Design b)-2) (List.set (ZaR b) k (YV b (Yz (Zb.Design b)-2)))).length=Yz (Zb.Design b)-2:=by rw [List.length_take,hls];omega
 have hl3:(List.drop (Yz (Zb.Design b)) (List.set (ZaR b) k (YV b (Yz (Zb.Design b)-2)))).length=(Za.ZX (Zb.Design b)).length:=by rw [List.length_drop,hls];omega
 have hins:Yz (unD b p m)=Yz (Zb.Design b)-2:=by
  have hn2:0<(Za.Instances (conn (Zb.Design b) p.1 p.2.1 m)).length:=by rw [YM];exact hn
  have hx4:(Za.Instances (conn (Zb.Design b) p.1 p.2.1 m))[(Za.Instances (conn (Zb.Design b) p.1 p.2.1 m)).length-1]?=some ((Za.Instances (conn (Zb.Design b) p.1 p.2.1 m))[(Za.Instances (conn (Zb.Design b) p.1 p.2.1 m)).length-1]'(by omega)):=List.getElem?_eq_getElem _
  generalize (Za.Instances (conn (Zb.Design b) p.1 p.2.1 m))[(Za.Instances (conn (Zb.Design b) p.1 p.2.1 m)).length-1]'(by omega)=x' at hx4
  obtain ⟨y,hy,_,_,hyl,_⟩:=ZeG hx4
  rw [YM,hx] at hy
  injection hy with hy
  have h5:=Zho hn2 hx4 (by rw [hyl,←hy,hl2])
  have h6:=Zke hp m
  unfold unD
  omega
 have hup:(places (unD b p m)).length=(places (Zb.Design b)).length-2:=by
  have h5:=Zeh (unD b p m)
  have h6:(Za.ZX (unD b p m)).length=(Za.ZX (Zb.Design b)).length:=ZfX
  omega
 have hA:=ZfR (b:=(Zb.Library b,unD b p m,(Zb.Zw b).take ((Zb.Zw b).length-1),())) (nodes:=(ZaR b |>.set k (YV b (Yz (Zb.Design b)-2))).take (Yz (Zb.Design b)-2)++(ZaR b |>.set k (YV b (Yz (Zb.Design b)-2))).drop (Yz (Zb.Design b))) hR.ok.1.few (by
  show (List.take _ _++List.drop _ _).length=(places (unD b p m)).length
  rw [List.length_append,hl1,hl3,hup];omega) (by
  show (List.take _ _).length≤_
  rw [List.length_take];omega)
 have hnd:Zmx ((ZaR b |>.set k (YV b (Yz (Zb.Design b)-2))).take (Yz (Zb.Design b)-2)++(ZaR b |>.set k (YV b (Yz (Zb.Design b)-2))).drop (Yz (Zb.Design b)))=unN b k:=by
  funext j
  have:=Zuz (l:=(ZaR b).set k (YV b (Yz (Zb.Design b)-2))) (m:=Yz (Zb.Design b)-2) (by omega) j
  rw [show Yz (Zb.Design b)-2+2=Yz (Zb.Design b) by omega] at this
  rw [this]
  unfold unN
  congr 1
  funext i
  rw [Zn2 (by rw [ZaA];exact hk),Zkx]
  rfl
 rw [hnd] at hA
 have hD:((List.take ((Za.Instances (Zb.Design b)).length-1) (Za.Instances (conn (Zb.Design b) p.1 p.2.1 m)),List.take ((Zb.Zw b).length-1) (Za.ZM (conn (Zb.Design b) p.1 p.2.1 m)),(conn (Zb.Design b) p.1 p.2.1 m).snd.snd):Za)=unD b p m:=by
  unfold unD XW
  rw [YM,Vr,hwn]
 unfold Zbo
 rw [ZcG h,Option.bind_some,hW1,hsk,Option.bind_some,show atI [(k:Int)] 0=some (k:Int) from rfl,Option.bind_some,hW2,hW3,Zu,Zgd (by omega),Option.bind_some,Zu,Zgd hk,Option.bind_some,hW4,hx3,Option.bind_some,
  show x.snd.snd.fst=Zd.ZM x from rfl,hmx,Option.bind_some]
 simp only [Int.toNat_natCast,Int.toNat_zero,Nat.sub_zero,List.drop_zero]
 rw [hset,Qg _ hf,Option.bind_some,Zu,hp,Option.bind_some,Zfa hp,Option.bind_some,Zi (by omega),Zi (by rw [hls];omega),ZdW _ (by omega),Option.bind_some,
  Zi (by omega),Zi (by rw [hls];omega),Zi (by omega),hdr,Zi (by rw [hl1,hl3];omega),Zi (by omega),Zi (by rw [hci];omega),Zi (by omega),Zi (by rw [hcn];omega),Zi (by omega),hD]
 refine Eq.trans (congrArg (fun o=>Option.bind o _) hA) ?_
 rfl
theorem Zqo {b:Zb} {e:Zf} (h:Zps b e) (he:sm Ym e):∃ r,Vx e b=some r∧Zae b e=some r∧ZaQ r∧Zb.Library r=Zb.Library b:=by
 have hB:=h.blk
 have hf:=hB.ok.1.few
 have hwn:=hB.ok.2.1
 obtain ⟨b1,b2,b3⟩:=ZaJ hB.sm
 unfold Vx Zae
 rw [Zba _ hB.sm,Option.bind_some,ZlE _ hB.sm,Option.bind_some,Qg _ hf,Option.bind_some]
 by_cases k1:Zf.Kind e=1
 ·obtain ⟨p,x,c,c2,hp,h0,hd,hx,hc,hc2,ha⟩:=h.poss.1 k1
  obtain ⟨_,hcr⟩:=h.range.1 (.inl k1)
  have hx2:(Za.Instances (Zb.Design b))[p.1.toNat]?=some x:=by
   unfold atI at hx
   rw [if_pos h0] at hx
   exact hx
  obtain ⟨⟨hxc,_⟩,_,_⟩:=hB.ok.1.2.2.1 x (List.mem_of_getElem? hx2)
  have hc3:(Zk.Cells (Zb.Library b))[(Zd.Cell x).toNat]?=some c:=by
   unfold atI at hc
   rw [if_pos hxc] at hc
   exact hc
  have hc4:(Zk.Cells (Zb.Library b))[(Zf.Cell e).toNat]?=some c2:=by
   unfold atI at hc2
   rw [if_pos hcr.1] at hc2
   exact hc2
  have hR:=ZrF hB h0 hx2 hc3 hc4 hcr (Zsm (Jz (ZmR b1) hc3) (Jz (ZmR b1) hc4) ha)
  rw [if_pos k1,if_pos k1,Yl _ hf,Option.bind_some,hp.at,Option.bind_some]
  have e1:Yc.instance p=p.1:=rfl
  have e2:Z4.instance p=p.1:=rfl
  simp only [e1,e2,hx,Option.bind_some]
  refine ⟨swapped b p.1 (Zf.Cell e),?_,?_,hR,rfl⟩
  ·unfold swapped;rw [hx2]
  ·unfold swapped;rw [hx2]
 rw [if_neg k1,if_neg k1]
 by_cases k2:Zf.Kind e=2
 ·obtain ⟨p,c,hp,hd,_⟩:=h.poss.2.1 k2
  have hs:=(ZnG he).1
  rw [if_pos k2,if_pos k2,ZmW h k2 hs hp hd,ZmY h k2 hs hp hd]
  exact ⟨_,rfl,rfl,ZiT h k2 hs hp,rfl⟩
 rw [if_neg k2,if_neg k2]
 by_cases k3:Zf.Kind e=3
 ·have hL:=h.poss.2.2.1 k3
  obtain ⟨k,p,m,v,hs,hp,hpi,hm,hv,hun⟩:=Zg0 hB hL
  have hR:=Zja hB hL hs hp hpi hm
  rw [if_pos k3,if_pos k3,hun,Zlg hB hL hs hp hpi hm]
  refine ⟨ZjY b k p m,?_,rfl,hR,rfl⟩
  obtain ⟨hn,x,hx,hl2⟩:=hL.two
  have hn2:0<(Za.Instances (conn (Zb.Design b) p.1 p.2.1 m)).length:=by rw [YM];exact hn
  have hx4:(Za.Instances (conn (Zb.Design b) p.1 p.2.1 m))[(Za.Instances (conn (Zb.Design b) p.1 p.2.1 m)).length-1]?=some ((Za.Instances (conn (Zb.Design b) p.1 p.2.1 m))[(Za.Instances (conn (Zb.Design b) p.1 p.2.1 m)).length-1]'(by omega)):=List.getElem?_eq_getElem _
  generalize (Za.Instances (conn (Zb.Design b) p.1 p.2.1 m))[(Za.Instances (conn (Zb.Design b) p.1 p.2.1 m)).length-1]'(by omega)=x' at hx4
  obtain ⟨y,hy,_,_,hyl,_⟩:=ZeG hx4
  rw [YM,hx] at hy
  injection hy with hy
  have h5:=Zho hn2 hx4 (by rw [hyl,←hy,hl2])
  have h6:=Zke hp m
  have hins:Yz (unD b p m)=Yz (Zb.Design b)-2:=by unfold unD;omega
  rw [hins,hv]
  rfl
 rw [if_neg k3,if_neg k3]
 by_cases k4:Zf.Kind e=4
 ·obtain ⟨p,hp,hd,hne⟩:=h.poss.2.2.2.1 k4
  obtain ⟨_,hn,w,hw,hnode⟩:=h.range.2.1 k4
  have hk:=(List.getElem?_eq_some_iff.1 hp.2).1
  have hR:=Zuu hB hp.2 hd hn (v:=Zf.Node e) (fun w' hw'=>by rw [hw] at hw';injection hw' with hw';rw [←hw'];exact hnode)
  rw [if_pos k4,if_pos k4,Zdy hB,Option.bind_some,Yl _ hf,Option.bind_some,hp.at,Option.bind_some,ZcG hB,Option.bind_some,QY hp.1 (Zgd hk),Option.bind_some,Option.bind_some,Zfa hp.2,Option.bind_some,
   show (Yc.instance p,Yc.pin p,())=(p.1,p.2.1,()) from rfl,ZfQ hp.2,Option.bind_some]
  refine ⟨moved b (Zf.Place e).toNat p (Zf.Net e) (Zf.Node e),?_,?_,hR,rfl⟩
  ·exact congrArg (fun o=>Option.bind o fun connect0=>some connect0) (Zpq hB hp.2 hd hn (v:=Zf.Node e))
  ·exact congrArg (fun o=>Option.bind o fun l08Attach0=>some l08Attach0) (Zo9 hB hp.2 (Zf.Net e) (Zf.Node e))
 ·have k5:Zf.Kind e=5:=by have:=h.blank;unfold Blank at this;omega
  have hn:=h.range.2.2 k5
  obtain ⟨w,hw1,hw2,_⟩:=ZiV hB hn
  have hsw:=(ZnG he).2
  have hR:=Zr4 hB hn (h.poss.2.2.2.2 k5) hsw
  rw [if_neg k4,if_neg k4,if_pos k5,if_pos k5,ZdT _ hsw,Option.bind_some,Zfi _ hsw,Option.bind_some,hw2,Option.bind_some]
  exact ⟨ZuL b (Zf.Net e) (Zf.Zdl e),rfl,rfl,hR,rfl⟩
abbrev ZhA:Zb:=((([]:List Zh),()),(([]:List Zd),([]:List (List UInt8)),([]:List ZL),()),([]:List Zn),())
theorem Zkn:sm YL ZhA:=by
 refine Ze3 ⟨⟨by simp,fun x hx=>by cases hx⟩,trivial⟩ (Zfo ⟨by simp,fun x hx=>by cases hx⟩ ⟨by simp,fun x hx=>by cases hx⟩ ⟨by simp,fun x hx=>by cases hx⟩) ⟨by simp,fun x hx=>by cases hx⟩
theorem ZjX {α:Type} {f:α→Nat} {c:Nat}:∀ {l:List α},(∀ x∈l,f x≤c)→(l.map f).sum≤c*l.length
 | [],_=>by simp
 | x::r,h=>by
  have h1:=ZjX (l:=r) fun y hy=>h y (List.mem_cons_of_mem _ hy)
  have h2:=h x (List.mem_cons_self ..)
  simp only [List.map_cons,List.sum_cons,List.length_cons,Nat.mul_add,Nat.mul_one]
  omega
theorem Zs6 {b:Zb} (h:ZaQ b):cnt YL b≤cnt YE (Zb.Library b)+200000000:=by
 obtain ⟨b1,b2,b3⟩:=ZaJ h.sm
 have hf:=h.ok.1.few
 have h30:=h.ok.1.2.1.2.1
 have hwn:=h.ok.2.1
 have e:cnt YL b=cnt YE (Zb.Library b)+(cnt (.sl Z6) (Za.Instances (Zb.Design b))+(cnt (.sl .str) (Za.ZM (Zb.Design b))+(cnt (.sl Vz) (Za.ZX (Zb.Design b))+0))+(cnt (.sl XR) (Zb.Zw b)+0)):=rfl
 have i1:cnt (.sl Z6) (Za.Instances (Zb.Design b))≤7*(Za.Instances (Zb.Design b)).length:=ZjX fun x hx=>by
  have h5:=hf.nets x hx
  have e2:cnt Z6 x=1+(1+(cnt (.sl (.int .i64)) (Zd.ZM x)+0)):=rfl
  rw [e2,Ze0]
  omega
 have i2:cnt (.sl .str) (Za.ZM (Zb.Design b))≤1*(Za.ZM (Zb.Design b)).length:=ZjX fun x _=>Nat.le_refl _
 have i3:cnt (.sl Vz) (Za.ZX (Zb.Design b))≤3*(Za.ZX (Zb.Design b)).length:=ZjX fun x _=>Nat.le_refl _
 have i4:cnt (.sl XR) (Zb.Zw b)≤4194304*(Zb.Zw b).length:=ZjX fun x hx=>by
  obtain ⟨a1,a2,a3,a4⟩:=Zir (b3.2 x hx)
  have s1:=Zm a1
  have s2:=Zm a2
  have s3:=Zm a3
  have s4:=Zm a4
  have e2:cnt XR x=cnt (.sl (.int .i64)) (Zn.Parent x)+(cnt (.sl (.int .i64)) (Zn.Res x)+(cnt (.sl (.int .i64)) (Zn.Cap x)+(cnt (.sl (.int .i64)) (Zn.Zfx x)+0))):=rfl
  rw [e2,Ze0,Ze0,Ze0,Ze0]
  omega
 have:=hf.insts
 have:=hf.ports
 omega
end Go.Proofs.YtehkanadahncgaaGreatDoor
/-
  Plain laws: lists of edits, one after the other; their inverses.
-/
namespace Go.Proofs.YtehkanadahncgaaGreatDoor
set_option linter.unusedVariables false
set_option linter.unusedSimpArgs false
open Go Go.Sx
abbrev stA (k:Nat) (back:List Zf) (b:Zb):(List Zf)×Int×(List Zh)×(List Zd)×(List (List UInt8))×(List ZL)×(List Zn)×(List Zh)×(List Zd)×(List (List UInt8))×(List ZL)×(List Zn)×Unit :=
 (back,(k:Int),[],[],[],[],[],Zk.Cells (Zb.Library b),Za.Instances (Zb.Design b),Za.ZM (Zb.Design b),Za.ZX (Zb.Design b),Zb.Zw b,())
abbrev stS (k:Nat) (b:Zb):Int×(List Zh)×(List Zd)×(List (List UInt8))×(List ZL)×(List Zn)×(List Zh)×(List Zd)×(List (List UInt8))×(List ZL)×(List Zn)×Unit :=
 ((k:Int),[],[],[],[],[],Zk.Cells (Zb.Library b),Za.Instances (Zb.Design b),Za.ZM (Zb.Design b),Za.ZX (Zb.Design b),Zb.Zw b,())
abbrev stI (k:Nat) (out:List Zf) (b:Zb):(List Zf)×Int×(List Zh)×(List Zd)×(List (List UInt8))×(List ZL)×(List Zn)×Unit :=
 (out,(k:Int),Zk.Cells (Zb.Library b),Za.Instances (Zb.Design b),Za.ZM (Zb.Design b),Za.ZX (Zb.Design b),Zb.Zw b,())
noncomputable abbrev Zm7 (l:List Zf):=Zt (fun (v:(List Zf)×Int×(List Zh)×(List Zd)×(List (List UInt8))×(List ZL)×(List Zn)×(List Zh)×(List Zd)×(List (List UInt8))×(List ZL)×(List Zn)×Unit)=>YU l v.1 v.2.1 v.2.2.1 v.2.2.2.1 v.2.2.2.2.1 v.2.2.2.2.2.1 v.2.2.2.2.2.2.1 v.2.2.2.2.2.2.2.1 v.2.2.2.2.2.2.2.2.1 v.2.2.2.2.2.2.2.2.2.1 v.2.2.2.2.2.2.2.2.2.2.1 v.2.2.2.2.2.2.2.2.2.2.2.1)
noncomputable abbrev loopS (l:List Zf):=Zt (fun (v:Int×(List Zh)×(List Zd)×(List (List UInt8))×(List ZL)×(List Zn)×(List Zh)×(List Zd)×(List (List UInt8))×(List ZL)×(List Zn)×Unit)=>Xp l v.1 v.2.1 v.2.2.1 v.2.2.2.1 v.2.2.2.2.1 v.2.2.2.2.2.1 v.2.2.2.2.2.2.1 v.2.2.2.2.2.2.2.1 v.2.2.2.2.2.2.2.2.1 v.2.2.2.2.2.2.2.2.2.1 v.2.2.2.2.2.2.2.2.2.2.1)
structure Done (b:Zb) (l:List Zf) (k:Nat) (back:List Zf) (r:Zb) (inv:List Zf):Prop where
 ok:ZaQ r
 lib:Zb.Library r=Zb.Library b
 len:inv.length+k=l.length
 sm:∀ e∈inv,sm Ym e
theorem ZhZ {l:List Zf} (hs:sm (.sl Ym) l) (h20:l.length≤20):∀ (m k:Nat) (b:Zb) (back:List Zf),k+m=l.length→ZaQ b→back.length=k→
  (∃ (c j:Int),c≠0∧Zm7 l (stA k back b)=some (ZhA,[],c,j)∧loopS l (stS k b)=some (ZhA,c,j))∨
  (∃ (r:Zb) (inv:List Zf),Done b l k back r inv∧Zm7 l (stA k back b)=some (r,(back++inv).reverse,0,-1)∧loopS l (stS k b)=some (r,0,-1))
 | 0,k,b,back,hk,hB,hb=>by
  right
  have hk:k=l.length:=by omega
  refine ⟨b,[],⟨hB,rfl,by simp [hk],fun e he=>by cases he⟩,?_,?_⟩
  ·refine ZaG ?_
   simp only [YU]
   rw [if_neg (by omega),List.append_nil]
  ·refine ZaG ?_
   simp only [Xp]
   rw [if_neg (by omega)]
 | m+1,k,b,back,hk,hB,hb=>by
  have hlt:k<l.length:=by omega
  have hx:l[k]?=some l[k]:=List.getElem?_eq_getElem hlt
  generalize l[k]=x at hx
  have hxs:sm Ym x:=Jz hs hx
  obtain ⟨c,c1,c2,c3⟩:=ZkO hB x hxs
  have c1':Ja x ((Zk.Cells (Zb.Library b),()),(Za.Instances (Zb.Design b),Za.ZM (Zb.Design b),Za.ZX (Zb.Design b),()),Zb.Zw b,())=some c:=c1
  by_cases hc:c=0
  ·have hC:=c3 hc
   obtain ⟨v,v1,v2,v3⟩:=Znu hC
   obtain ⟨r,r1,r2,r3,r4⟩:=Zqo hC hxs
   have v1':Qf x ((Zk.Cells (Zb.Library b),()),(Za.Instances (Zb.Design b),Za.ZM (Zb.Design b),Za.ZX (Zb.Design b),()),Zb.Zw b,())=some v:=v1
   have r1':Vx x ((Zk.Cells (Zb.Library b),()),(Za.Instances (Zb.Design b),Za.ZM (Zb.Design b),Za.ZX (Zb.Design b),()),Zb.Zw b,())=some r:=r1
   have e2:Qy ((Zk.Cells (Zb.Library b),()),(Za.Instances (Zb.Design b),Za.ZM (Zb.Design b),Za.ZX (Zb.Design b),()),Zb.Zw b,()) x=some (r,0):=by
    show Qy b x=_
    unfold Qy
    rw [c2,Option.bind_some,if_pos hc,r2]
    rfl
   have s1:Zm7 l (stA k back b)=Zm7 l (stA (k+1) (back++[v]) r):=Zf7 (by
    simp only [YU]
    rw [if_pos (by omega),Zu,hx,Option.bind_some,c1',Option.bind_some,if_pos hc,v1',Option.bind_some,Zi (by rw [List.length_singleton];omega),r1',Option.bind_some,JJ (show k≤1048576 by omega)])
   have s2:loopS l (stS k b)=loopS l (stS (k+1) r):=Zf7 (by
    simp only [Xp]
    rw [if_pos (by omega),Zu,hx,Option.bind_some,e2,Option.bind_some,if_pos rfl,JJ (show k≤1048576 by omega)])
   rcases ZhZ hs h20 m (k+1) r (back++[v]) (by omega) r3 (by rw [List.length_append,List.length_singleton];omega) with ⟨c',j,q1,q2,q3⟩ | ⟨r',inv,q0,q1,q2⟩
   ·exact .inl ⟨c',j,q1,by rw [s1];exact q2,by rw [s2];exact q3⟩
   ·refine .inr ⟨r',v::inv,⟨q0.ok,q0.lib.trans r4,by have:=q0.len;rw [List.length_cons];omega,fun e he=>?_⟩,?_,by rw [s2];exact q2⟩
    ·rcases List.mem_cons.1 he with he | he
     ·rw [he];exact v3
     ·exact q0.sm e he
    ·rw [s1,q1,List.append_assoc]
     rfl
  ·have e2:Qy ((Zk.Cells (Zb.Library b),()),(Za.Instances (Zb.Design b),Za.ZM (Zb.Design b),Za.ZX (Zb.Design b),()),Zb.Zw b,()) x=some (ZhA,c):=by
    show Qy b x=_
    unfold Qy
    rw [c2,Option.bind_some,if_neg hc]
   refine .inl ⟨c,(k:Int),hc,ZaG ?_,ZaG ?_⟩
   ·simp only [YU]
    rw [if_pos (by omega),Zu,hx,Option.bind_some,c1',Option.bind_some,if_neg hc]
   ·simp only [Xp]
    rw [if_pos (by omega),Zu,hx,Option.bind_some,e2,Option.bind_some,if_neg hc]
theorem ZpT (b:Zb) (l:List Zf) (hb:sm YL b) (hl:sm (.sl Ym) l) :
  ∃ (r:Zb) (inv:List Zf) (c j:Int),Zbb b l=some (r,inv.reverse,c,j)∧ZaK b l=some (r,c,j)∧sm YL r∧cnt YL r≤cnt YE (Zb.Library b)+200000000∧
   (c≠0→inv=[])∧(c=0→ZaQ b∧l.length≤20∧Done b l 0 [] r inv):=by
 have hc:=Zba b hb
 have ho:=ZlE b hb
 unfold Zbb ZaK
 rw [ZhE b hb,Zhl b hb,Option.bind_some,Option.bind_some]
 by_cases hB:ZjW b
 ·rw [if_pos (YQ hB),if_pos (YQ hB)]
  by_cases h20:(20:Int)<(l.length:Int)
  ·rw [if_pos h20,if_pos h20]
   exact ⟨ZhA,[],3,-1,rfl,rfl,Zkn,Nat.zero_le _,fun _=>rfl,fun h=>by cases h⟩
  ·rw [if_neg h20,if_neg h20,hc,ho,Option.bind_some,Option.bind_some]
   have hS:ZaQ b:=⟨hB,hb⟩
   rcases ZhZ hl (by omega) l.length 0 b [] (by omega) hS rfl with ⟨c,j,q1,q2,q3⟩ | ⟨r,inv,q0,q1,q2⟩
   ·exact ⟨ZhA,[],c,j,q2,q3,Zkn,Nat.zero_le _,fun _=>rfl,fun h=>absurd h q1⟩
   ·exact ⟨r,inv,0,-1,q1,q2,q0.ok.sm,by rw [←q0.lib];exact Zs6 q0.ok,fun h=>absurd rfl h,fun _=>⟨hS,by omega,q0⟩⟩
 ·rw [if_neg (fun h=>hB ((Vi _).1 h)),if_neg (fun h=>hB ((Vi _).1 h))]
  exact ⟨ZhA,[],1,-1,rfl,rfl,Zkn,Nat.zero_le _,fun _=>rfl,fun h=>by cases h⟩
end Go.Proofs.YtehkanadahncgaaGreatDoor
/-
  Plain laws: the inverses of edits in a list; the law FnExactInverseEdits.
-/
namespace Go.Proofs.YtehkanadahncgaaGreatDoor
set_option linter.unusedVariables false
set_option linter.unusedSimpArgs false
open Go Go.Sx
noncomputable abbrev Zup (l:List Zf):=Zt (fun (v:(List Zf)×Int×(List Zh)×(List Zd)×(List (List UInt8))×(List ZL)×(List Zn)×Unit)=>Xx l v.1 v.2.1 v.2.2.1 v.2.2.2.1 v.2.2.2.2.1 v.2.2.2.2.2.1 v.2.2.2.2.2.2.1)
theorem Zq5 {l:List Zf} (hs:sm (.sl Ym) l) (h20:l.length≤20):∀ (m k:Nat) (b:Zb) (back out:List Zf),k+m=l.length→ZaQ b→back.length=k→out.length≤k→
  ∀ (r:Zb) (inv:List Zf),Zm7 l (stA k back b)=some (r,(back++inv).reverse,0,-1)→Zup l (stI k out b)=some (inv.reverse++out,0)
 | 0,k,b,back,out,hk,hB,hb,ho,r,inv,h=>by
  have hk:k=l.length:=by omega
  have s1:Zm7 l (stA k back b)=some (b,back.reverse,0,-1):=ZaG (by
   simp only [YU]
   rw [if_neg (by omega)])
  rw [s1] at h
  injection h with h
  injection h with _ h
  injection h with h _
  have hi:inv=[]:=by
   have:=congrArg List.length h
   rw [List.length_reverse,List.length_reverse,List.length_append] at this
   exact List.length_eq_zero_iff.1 (by omega)
  subst hi
  refine ZaG ?_
  simp only [Xx]
  rw [if_neg (by omega)]
  rfl
 | m+1,k,b,back,out,hk,hB,hb,ho,r,inv,h=>by
  have hlt:k<l.length:=by omega
  have hx:l[k]?=some l[k]:=List.getElem?_eq_getElem hlt
  generalize l[k]=x at hx
  have hxs:sm Ym x:=Jz hs hx
  obtain ⟨c,c1,c2,c3⟩:=ZkO hB x hxs
  have c1':Ja x ((Zk.Cells (Zb.Library b),()),(Za.Instances (Zb.Design b),Za.ZM (Zb.Design b),Za.ZX (Zb.Design b),()),Zb.Zw b,())=some c:=c1
  by_cases hc:c=0
  ·have hC:=c3 hc
   obtain ⟨v,v1,v2,v3⟩:=Znu hC
   obtain ⟨r',r1,r2,r3,r4⟩:=Zqo hC hxs
   have v1':Qf x ((Zk.Cells (Zb.Library b),()),(Za.Instances (Zb.Design b),Za.ZM (Zb.Design b),Za.ZX (Zb.Design b),()),Zb.Zw b,())=some v:=v1
   have r1':Vx x ((Zk.Cells (Zb.Library b),()),(Za.Instances (Zb.Design b),Za.ZM (Zb.Design b),Za.ZX (Zb.Design b),()),Zb.Zw b,())=some r':=r1
   have v2':JR ((Zk.Cells (Zb.Library b),()),(Za.Instances (Zb.Design b),Za.ZM (Zb.Design b),Za.ZX (Zb.Design b),()),Zb.Zw b,()) x=some v:=v2
   have r2':Zae ((Zk.Cells (Zb.Library b),()),(Za.Instances (Zb.Design b),Za.ZM (Zb.Design b),Za.ZX (Zb.Design b),()),Zb.Zw b,()) x=some r':=r2
   have s1:Zm7 l (stA k back b)=Zm7 l (stA (k+1) (back++[v]) r'):=Zf7 (by
    simp only [YU]
    rw [if_pos (by omega),Zu,hx,Option.bind_some,c1',Option.bind_some,if_pos hc,v1',Option.bind_some,Zi (by rw [List.length_singleton];omega),r1',Option.bind_some,JJ (show k≤1048576 by omega)])
   have s2:Zup l (stI k out b)=Zup l (stI (k+1) ([v]++out) r'):=Zf7 (by
    simp only [Xx]
    rw [if_pos (by omega),Zu,hx,Option.bind_some,v2',Option.bind_some,Zi (by rw [List.length_singleton];omega),r2',Option.bind_some,JJ (show k≤1048576 by omega)])
   rw [s1] at h
   rcases ZhZ hs h20 m (k+1) r' (back++[v]) (by omega) r3 (by rw [List.length_append,List.length_singleton];omega) with ⟨c',j,q1,q2,q3⟩ | ⟨r2,inv2,q0,q1,q2⟩
   ·rw [q2] at h
    injection h with h
    injection h with _ h
    injection h with _ h
    injection h with h _
    exact absurd h q1
   ·have h1:=h
    rw [q1] at h1
    injection h1 with h1
    injection h1 with _ h1
    injection h1 with h1 _
    have h2:back++[v]++inv2=back++inv:=List.reverse_inj.1 h1
    rw [List.append_assoc] at h2
    have h3:inv=v::inv2:=(List.append_cancel_left h2).symm
    subst h3
    have:=Zq5 hs h20 m (k+1) r' (back++[v]) ([v]++out) (by omega) r3 (by rw [List.length_append,List.length_singleton];omega) (by rw [List.length_append,List.length_singleton];omega) r inv2 (by rw [h,List.append_assoc];rfl)
    rw [s2,this,List.reverse_cons,List.append_assoc]
  ·exfalso
   have s1:Zm7 l (stA k back b)=some (ZhA,[],c,(k:Int)):=ZaG (by
    simp only [YU]
    rw [if_pos (by omega),Zu,hx,Option.bind_some,c1',Option.bind_some,if_neg hc])
   rw [s1] at h
   injection h with h
   injection h with _ h
   injection h with _ h
   injection h with h _
   exact hc h
theorem ZlQ (b:Zb) (l:List Zf) (hb:sm YL b) (hl:sm (.sl Ym) l):∃ r,Jo b l=some r∧Jp b l=some r∧sm (.sl Ym) r.1∧r.1.length≤20:=by
 obtain ⟨r,inv,c,j,c1,c2,c3,c4,c5,c6⟩:=ZpT b l hb hl
 unfold Jo Jp
 rw [c1,c2,Option.bind_some,Option.bind_some]
 by_cases hc:c=0
 ·obtain ⟨hB,h20,hD⟩:=c6 hc
  have hlen:=hD.len
  have hI:Zup l (stI 0 [] b)=some (inv.reverse++[],0):=by
   refine Zq5 hl h20 l.length 0 b [] [] (by omega) hB rfl (by simp) r inv ?_
   unfold Zbb at c1
   rw [ZhE b hb,Option.bind_some,if_pos (YQ hB.ok),if_neg (by omega),Zba b hb,Option.bind_some] at c1
   have c1':Zm7 l (stA 0 [] b)=some (r,inv.reverse,c,j):=c1
   rcases ZhZ hl h20 l.length 0 b [] (by omega) hB rfl with ⟨c',j',q1,q2,q3⟩ | ⟨r2,inv2,q0,q1,q2⟩
   ·rw [q2] at c1'
    injection c1' with c1'
    injection c1' with _ h
    injection h with _ h
    injection h with h _
    exact absurd (h.trans hc) q1
   ·have h1:=c1'
    rw [q1] at h1
    injection h1 with h1
    injection h1 with e1 h
    injection h with e2 h
    have e3:inv2=inv:=List.reverse_inj.1 e2
    rw [q1,e1,e3]
  rw [if_pos hc]
  refine ⟨(inv.reverse,c),rfl,?_,⟨by rw [List.length_reverse];omega,fun e he=>hD.sm e (List.mem_reverse.1 he)⟩,by rw [List.length_reverse];omega⟩
  rw [List.append_nil] at hI
  rw [hc]
  exact hI
 ·rw [if_neg hc,c5 hc]
  exact ⟨_,rfl,rfl,⟨by simp,fun e he=>by cases he⟩,by simp⟩
theorem Zsx (a:List Zf) (h:tot (.sl Ym) a≤1048576):cnt (.sl Ym) a≤100+20*1048576:=by
 have hc:=Zpg (.sl Ym) a
 have h1:wid (.sl Ym)≤100:=by decide
 have h2:Zd2 (.sl Ym)≤20:=by decide
 have:=Nat.mul_le_mul_right (tot (.sl Ym) a) h2
 omega
theorem ZtU (r:Zf) (h:sm Ym r):cnt Ym r≤4194310:=by
 obtain ⟨a1,a2,a3,a4⟩:=Zir (ZnG h).2
 have s1:=Zm a1
 have s2:=Zm a2
 have s3:=Zm a3
 have s4:=Zm a4
 have e:cnt Ym r=1+(1+(1+(1+(1+(1+((cnt (.sl (.int .i64)) (Zn.Parent (Zf.Zdl r))+(cnt (.sl (.int .i64)) (Zn.Res (Zf.Zdl r))+(cnt (.sl (.int .i64)) (Zn.Cap (Zf.Zdl r))+(cnt (.sl (.int .i64)) (Zn.Zfx (Zf.Zdl r))+0))))+0)))))):=rfl
 rw [e,Ze0,Ze0,Ze0,Ze0]
 omega
theorem Ze4 (a0:Zb) (a1:List Zf) (b0:bnd YL a0) (b1:bnd (.sl Ym) a1):Qp a0 a1=some true:=by
 unfold Qp
 obtain ⟨n,e,hle,hP⟩:=ZlY a0 1048576 (by omega) (by omega) b0
 rw [e,Option.bind_some]
 by_cases hn:n<0
 ·rw [if_pos hn]
 rw [if_neg hn]
 have hs:=hP (by omega)
 have ht:=Zk2 a0 1048576 (by omega) (by omega) b0 n e (by omega)
 obtain ⟨n1,e1,hle1,hP1⟩:=ZlX a1 n (by omega) (by omega) b1
 rw [e1,Option.bind_some]
 by_cases hn1:n1<0
 ·rw [if_pos hn1]
 rw [if_neg hn1]
 have hs1:=hP1 (by omega)
 have ht1:=Zld a1 n (by omega) (by omega) b1 n1 e1 (by omega)
 have hcb:=Zta a0 (by omega)
 have hce:=Zsx a1 (by omega)
 obtain ⟨r,c1,c2,c3,c4⟩:=ZlQ a0 a1 hs hs1
 have hcr:cnt (.sl Ym) r.1≤4194310*r.1.length:=ZjX fun x hx=>ZtU x (c3.2 x hx)
 obtain ⟨m0,hm0⟩:=Zkl a0 1 hs (by omega) (by omega)
 obtain ⟨m1,hm1⟩:=Zkf a1 (1+((cnt YL a0:Nat):Int)) hs1 (by omega) (by omega)
 have hm3:=Zku r.1 1 c3 (by omega) (by omega)
 have hm4:=Zkc r.1 1 c3 (by omega) (by omega)
 have hneg:¬(1+((cnt YL a0:Nat):Int)+((cnt (.sl Ym) a1:Nat):Int))<0:=by omega
 have hneg2:¬(1+((cnt (.sl Ym) r.1:Nat):Int))<0:=by omega
 simp only [ZlN _ hs,Zmp _ hs1,Option.bind_some,c1,c2,ZhN _ c3,Zmg _ hs,ZhN _ hs1,if_true,hm0,hm1,hm3,hm4,hneg,hneg2,if_false]
end Go.Proofs.YtehkanadahncgaaGreatDoor
