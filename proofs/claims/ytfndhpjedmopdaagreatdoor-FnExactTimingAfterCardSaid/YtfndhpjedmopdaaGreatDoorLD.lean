/-
  Plain laws: marks are held.
-/
import Derived.Test.YtfndhpjedmopdaaGreatDoorLA
import Derived.Test.YtfndhpjedmopdaaGreatDoorLB
import Derived.Test.YtfndhpjedmopdaaGreatDoorLC
namespace Go.Proofs.YtfndhpjedmopdaaGreatDoor
set_option linter.unusedVariables false
set_option linter.unusedSimpArgs false
open Go Go.Sx
theorem ZmN (l:List Int):cnt (.sl (.int .i64)) l=l.length:=by
 show (l.map (cnt (.int .i64))).sum=_
 induction l with
 | nil=>rfl
 | cons x r ih=>simp only [List.map_cons,List.sum_cons,ih,List.length_cons,Zev];omega
theorem Zut (a:Za) (h:tot YG a≤1048576):cnt YG a≤100+20*1048576:=by
 have hc:=ZoQ YG a
 have h1:wid YG≤100:=by decide
 have h2:ZdZ YG≤20:=by decide
 have:=Nat.mul_le_mul_right (tot YG a) h2
 omega
end Go.Proofs.YtfndhpjedmopdaaGreatDoor
/-
  Plain laws: marks, exactly; marks are held. Printed by program (heldgen.py).
-/
namespace Go.Proofs.YtfndhpjedmopdaaGreatDoor
open Go Go.Sx
set_option maxHeartbeats 3200000
set_option linter.unusedVariables false
set_option linter.unusedSimpArgs false
noncomputable def mt (k:Int):List UInt8:=(Qv k).getD []
theorem Zne {α:Type} {L:List α} {j:Nat} {z z':α} {A A' B B':Int} (hA:A=A') (hB:B=B') (hz:z=z'):(some (.inl (A,B,List.set L j z,())):Option ((Int×Int×List α×Unit) ⊕ (Int×List α)))=some (.inl (A',B',List.set L j z',())):=by rw [hA,hB,hz]
theorem ZqK {A A' B B':Int} (hA:A=A') (hB:B=B'):(some (.inl (A,B,())):Option ((Int×Int×Unit) ⊕ Int))=some (.inl (A',B',())):=by rw [hA,hB]
theorem ZbS (l:List (Int)) (k:Int) (hs:sm (.sl (.int .i64)) l) (h0:0≤k) (h1:k+((cnt (.sl (.int .i64)) l:Nat):Int)≤4611686018427387904):Yg l k=some (k+((cnt (.sl (.int .i64)) l:Nat):Int),mkL (mkA mt (.int .i64)) (cnt (.int .i64)) l k):=by
 unfold Yg
 have hl:l.length≤1048576:=by have:=hs.1;omega
 refine ZtQ (f:=mkA mt (.int .i64)) (c:=cnt (.int .i64)) (fun j m x L hj hj' hx hxm hm0 hm1 hj2=>?_) (fun m L=>?_) hl h0 h1
 ·have hsx:=hs.2 x hxm
  have hc:((cnt (.int .i64) x:Nat):Int)=0+1:=by rfl
  simp (disch:=omega) only [Xu,if_pos hj',Zu,hx,Option.bind_some,V7,Int.toNat_natCast,Zfo,List.length_set,List.set_set,List.getElem?_set_self]
  refine Zne ?_ ?_ rfl
  ·have hc:=hc;omega
  ·omega
 ·simp only [Xu,Int.lt_irrefl,if_false]
theorem Zmk (a:Zo) (k:Int) (hs:sm (X6) a) (h0:0≤k) (h1:k+((Zj0 (X6) a:Nat):Int)≤4611686018427387904):Zcj a k=some (k+((Zj0 (X6) a:Nat):Int),mkT mt (X6) a k):=by
 unfold Zcj
 have hc:((Zj0 (X6) a:Nat):Int)=0+(((cnt (.sl (.int .i64)) a.1):Nat):Int)+(((cnt (.sl (.int .i64)) a.2.1):Nat):Int)+(((cnt (.sl (.int .i64)) a.2.2.1):Nat):Int)+(((cnt (.sl (.int .i64)) a.2.2.2.1):Nat):Int):=by simp only [Zj0];omega
 have e0:=ZbS a.1 (k) hs.1 (by omega) (by omega)
 have e1:=ZbS a.2.1 (k+(((cnt (.sl (.int .i64)) a.1):Nat):Int)) hs.2.1 (by omega) (by omega)
 have e2:=ZbS a.2.2.1 (k+(((cnt (.sl (.int .i64)) a.1):Nat):Int)+(((cnt (.sl (.int .i64)) a.2.1):Nat):Int)) hs.2.2.1 (by omega) (by omega)
 have e3:=ZbS a.2.2.2.1 (k+(((cnt (.sl (.int .i64)) a.1):Nat):Int)+(((cnt (.sl (.int .i64)) a.2.1):Nat):Int)+(((cnt (.sl (.int .i64)) a.2.2.1):Nat):Int)) hs.2.2.2.1 (by omega) (by omega)
 simp only [Option.bind_some,e0,e1,e2,e3]
 refine congrArg some (Prod.ext (by show _=k+_;rw [hc];omega) rfl)
theorem Zl8 (a:Zg) (k:Int) (hs:sm (QW) a) (h0:0≤k) (h1:k+((Zj0 (QW) a:Nat):Int)≤4611686018427387904):Zcp a k=some (k+((Zj0 (QW) a:Nat):Int),mkT mt (QW) a k):=by
 unfold Zcp
 have hc:((Zj0 (QW) a:Nat):Int)=0+(((Zj0 (X6) a.2.2.2.2.2.2.1):Nat):Int):=by simp only [Zj0];omega
 have e6:=Zmk a.2.2.2.2.2.2.1 (k) hs.2.2.2.2.2.2.1 (by omega) (by omega)
 simp only [Option.bind_some,e6]
 refine congrArg some (Prod.ext (by show _=k+_;rw [hc,Int.zero_add]) (by simp only [mkT,Zj0,Int.natCast_zero,Int.add_zero]))
theorem Zk7 (l:List (Bool)) (k:Int) (hs:sm (.sl (.bool)) l) (h0:0≤k) (h1:k+((cnt (.sl (.bool)) l:Nat):Int)≤4611686018427387904):Zbu l k=some (k+((cnt (.sl (.bool)) l:Nat):Int),mkL (mkA mt (.bool)) (cnt (.bool)) l k):=by
 unfold Zbu
 have hl:l.length≤1048576:=by have:=hs.1;omega
 refine ZtQ (f:=mkA mt (.bool)) (c:=cnt (.bool)) (fun j m x L hj hj' hx hxm hm0 hm1 hj2=>?_) (fun m L=>?_) hl h0 h1
 ·have hsx:=hs.2 x hxm
  have hc:((cnt (.bool) x:Nat):Int)=0+1:=by rfl
  simp (disch:=omega) only [VX,if_pos hj',Zu,hx,Option.bind_some,V7,Int.toNat_natCast,Zfo,List.length_set,List.set_set,List.getElem?_set_self]
  refine Zne ?_ ?_ rfl
  ·have hc:=hc;omega
  ·omega
 ·simp only [VX,Int.lt_irrefl,if_false]
theorem Zgx (l:List (Yh)) (k:Int) (hs:sm (.sl (Xj)) l) (h0:0≤k) (h1:k+((cnt (.sl (Xj)) l:Nat):Int)≤4611686018427387904):ZaK l k=some (k+((cnt (.sl (Xj)) l:Nat):Int),mkL (mkA mt (Xj)) (cnt (Xj)) l k):=by
 unfold ZaK
 have hl:l.length≤1048576:=by have:=hs.1;omega
 refine ZtQ (f:=mkA mt (Xj)) (c:=cnt (Xj)) (fun j m x L hj hj' hx hxm hm0 hm1 hj2=>?_) (fun m L=>?_) hl h0 h1
 ·have hsx:=hs.2 x hxm
  have hc:((cnt (Xj) x:Nat):Int)=0+1+1:=by simp only [Zdc,Zev,Zda,Zc9,Zfk];omega
  have hx2:atI L (j:Int)=some x:=by rw [Zu];exact hx
  have hb:∀ {β:Type} (y:Yh) (F:Yh→Option β),(atI (List.set L j y) (j:Int)).bind F=F y:=fun y F=>by rw [Zfo hj];rfl
  simp only [VT,if_pos hj',Int.toNat_natCast,hx2,↓hb,Option.bind_some,List.set_set]
  refine Zne ?_ ?_ ?_
  ·have hc:=hc;simp (disch:=omega) only [V7];omega
  ·simp (disch:=omega) only [V7];omega
  ·simp (disch:=omega) only [V7];rfl
 ·simp only [VT,Int.lt_irrefl,if_false]
theorem Zgc (a:Zn) (k:Int) (hs:sm (YB) a) (h0:0≤k) (h1:k+((Zj0 (YB) a:Nat):Int)≤4611686018427387904):JR a k=some (k+((Zj0 (YB) a:Nat):Int),mkT mt (YB) a k):=by
 unfold JR
 have hc:((Zj0 (YB) a:Nat):Int)=0+(((cnt (.sl (.bool)) a.1):Nat):Int)+(((cnt (.sl (Xj)) a.2.1):Nat):Int)+(((cnt (.sl (Xj)) a.2.2.1):Nat):Int):=by simp only [Zj0];omega
 have e0:=Zk7 a.1 (k) hs.1 (by omega) (by omega)
 have e1:=Zgx a.2.1 (k+(((cnt (.sl (.bool)) a.1):Nat):Int)) hs.2.1 (by omega) (by omega)
 have e2:=Zgx a.2.2.1 (k+(((cnt (.sl (.bool)) a.1):Nat):Int)+(((cnt (.sl (Xj)) a.2.1):Nat):Int)) hs.2.2.1 (by omega) (by omega)
 simp only [Option.bind_some,e0,e1,e2]
 refine congrArg some (Prod.ext (by show _=k+_;rw [hc];omega) rfl)
theorem Zll (l:List (Bool)) (k:Int) (hs:sm (.sl (.bool)) l) (h0:0≤k) (h1:k+((cnt (.sl (.bool)) l:Nat):Int)≤4611686018427387904):ZbH (mkL (mkA mt (.bool)) (cnt (.bool)) l k) k=some (k+((cnt (.sl (.bool)) l:Nat):Int)):=by
 unfold ZbH
 have hl:l.length≤1048576:=by have:=hs.1;omega
 refine ZsV (f:=mkA mt (.bool)) (c:=cnt (.bool)) (step:=fun v=>QJ (mkL (mkA mt (.bool)) (cnt (.bool)) l k) v.1 v.2.1) (fun j m x hj hx hxm hm0 hm1 hj2=>?_) (fun m=>?_) hl h0 h1
 ·have hsx:=hs.2 x hxm
  have hc:((cnt (.bool) x:Nat):Int)=0+1:=by rfl
  have f0:mkA mt (.bool) x m=decide (Int.tmod (m) 3=0):=rfl
  simp (disch:=omega) only [QJ,if_pos hj,Zu,hx,Option.bind_some,V7,eq_self,if_true,if_false,beq_self_eq_true,f0]
  refine ZqK ?_ ?_
  ·have hc:=hc;omega
  ·omega
 ·simp only [QJ,Int.lt_irrefl,if_false]
theorem ZgN (l:List (Yh)) (k:Int) (hs:sm (.sl (Xj)) l) (h0:0≤k) (h1:k+((cnt (.sl (Xj)) l:Nat):Int)≤4611686018427387904):Zc5 (mkL (mkA mt (Xj)) (cnt (Xj)) l k) k=some (k+((cnt (.sl (Xj)) l:Nat):Int)):=by
 unfold Zc5
 have hl:l.length≤1048576:=by have:=hs.1;omega
 refine ZsV (f:=mkA mt (Xj)) (c:=cnt (Xj)) (step:=fun v=>ZaO (mkL (mkA mt (Xj)) (cnt (Xj)) l k) v.1 v.2.1) (fun j m x hj hx hxm hm0 hm1 hj2=>?_) (fun m=>?_) hl h0 h1
 ·have hsx:=hs.2 x hxm
  have hc:((cnt (Xj) x:Nat):Int)=0+1+1:=by simp only [Zdc,Zev,Zda,Zc9,Zfk];omega
  have f0:Yh.Early (mkA mt (Xj) x m)=m:=rfl
  have f1:Yh.Late (mkA mt (Xj) x m)=m+1:=rfl
  simp (disch:=omega) only [ZaO,if_pos hj,Zu,hx,Option.bind_some,V7,eq_self,if_true,if_false,beq_self_eq_true,f0,f1]
  refine ZqK ?_ ?_
  ·have hc:=hc;omega
  ·omega
 ·simp only [ZaO,Int.lt_irrefl,if_false]
theorem Zj6 (a:Zn) (k:Int) (hs:sm (YB) a) (h0:0≤k) (h1:k+((Zj0 (YB) a:Nat):Int)≤4611686018427387904):ZaW (mkT mt (YB) a k) k=some (k+((Zj0 (YB) a:Nat):Int)):=by
 unfold ZaW
 have hc:((Zj0 (YB) a:Nat):Int)=0+(((cnt (.sl (.bool)) a.1):Nat):Int)+(((cnt (.sl (Xj)) a.2.1):Nat):Int)+(((cnt (.sl (Xj)) a.2.2.1):Nat):Int):=by simp only [Zj0];omega
 have f0:Zn.Reached (mkT mt (YB) a k)=mkL (mkA mt (.bool)) (cnt (.bool)) a.1 (k):=by rfl
 have n0:¬(k+(((cnt (.sl (.bool)) a.1):Nat):Int))<0:=by omega
 have e0:=Zll a.1 (k) hs.1 (by omega) (by omega)
 have f1:Zn.Y7 (mkT mt (YB) a k)=mkL (mkA mt (Xj)) (cnt (Xj)) a.2.1 (k+(((cnt (.sl (.bool)) a.1):Nat):Int)):=by rfl
 have n1:¬(k+(((cnt (.sl (.bool)) a.1):Nat):Int)+(((cnt (.sl (Xj)) a.2.1):Nat):Int))<0:=by omega
 have e1:=ZgN a.2.1 (k+(((cnt (.sl (.bool)) a.1):Nat):Int)) hs.2.1 (by omega) (by omega)
 have f2:Zn.ZbU (mkT mt (YB) a k)=mkL (mkA mt (Xj)) (cnt (Xj)) a.2.2.1 (k+(((cnt (.sl (.bool)) a.1):Nat):Int)+(((cnt (.sl (Xj)) a.2.1):Nat):Int)):=by rfl
 have n2:¬(k+(((cnt (.sl (.bool)) a.1):Nat):Int)+(((cnt (.sl (Xj)) a.2.1):Nat):Int)+(((cnt (.sl (Xj)) a.2.2.1):Nat):Int))<0:=by omega
 have e2:=ZgN a.2.2.1 (k+(((cnt (.sl (.bool)) a.1):Nat):Int)+(((cnt (.sl (Xj)) a.2.1):Nat):Int)) hs.2.2.1 (by omega) (by omega)
 simp only [Option.bind_some,if_false,f0,n0,e0,f1,n1,e1,f2,n2,e2]
 refine congrArg some ?_
 omega
end Go.Proofs.YtfndhpjedmopdaaGreatDoor
/-
  Plain laws: edits: what an edit may mention, and when it is possible.
-/
namespace Go.Proofs.YtfndhpjedmopdaaGreatDoor
set_option linter.unusedVariables false
set_option linter.unusedSimpArgs false
open Go Go.Sx
theorem ZoN {e:Zg} (h:sm QW e):sm .str (Zg.Name e)∧sm X6 (Zg.Zet e):=⟨h.2.2.2.2.2.1,h.2.2.2.2.2.2.1⟩
def Zi8 (w:Zo):Prop:=Zo.Parent w=[]∧Zo.Res w=[]∧Zo.Cap w=[]∧Zo.Zfj w=[]
theorem ZuA (w:Zo) (hw:sm X6 w):(some (Decidable.decide (IntKind.i64.wrap (IntKind.i64.wrap (IntKind.i64.wrap ((↑(List.length (Zo.Parent w)):Int)+(↑(List.length (Zo.Res w)):Int))+(↑(List.length (Zo.Cap w)):Int))+(↑(List.length (Zo.Zfj w)):Int))=(0:Int))):Option Bool)=some (tr (Zi8 w)):=by
 obtain ⟨a1,a2,a3,a4⟩:=Zjn hw
 have s1:=Zm a1
 have s2:=Zm a2
 have s3:=Zm a3
 have s4:=Zm a4
 rw [V7 (n:=((Zo.Parent w).length:Int)+((Zo.Res w).length:Int)) (by omega) (by omega),V7 (n:=((Zo.Parent w).length:Int)+((Zo.Res w).length:Int)+((Zo.Cap w).length:Int)) (by omega) (by omega),V7 (by omega) (by omega)]
 refine ZcR ?_
 rw [decide_eq_true_eq]
 unfold Zi8
 rw [←List.length_eq_zero_iff,←List.length_eq_zero_iff,←List.length_eq_zero_iff,←List.length_eq_zero_iff]
 omega
def Blank (e:Zg):Prop :=
 (Zg.Kind e=1∧Zg.Net e=0∧Zg.Node e=0∧Zg.Name e=[]∧Zi8 (Zg.Zet e))∨
 (Zg.Kind e=2∧Zg.Net e=0∧Zg.Node e=0∧Zi8 (Zg.Zet e))∨
 (Zg.Kind e=3∧Zg.Place e=0∧Zg.Cell e=0∧Zg.Net e=0∧Zg.Node e=0∧Zg.Name e=[]∧Zi8 (Zg.Zet e))∨
 (Zg.Kind e=4∧Zg.Cell e=0∧Zg.Name e=[]∧Zi8 (Zg.Zet e))∨
 (Zg.Kind e=5∧Zg.Place e=0∧Zg.Cell e=0∧Zg.Node e=0∧Zg.Name e=[])
theorem Zmz (e:Zg) (he:sm QW e):Zcz e=some (tr (Blank e)):=by
 have hn:=ZuA (Zg.Zet e) (ZoN he).2
 unfold Zcz
 rw [hn]
 by_cases k1:Zg.Kind e=1
 ·rw [if_pos k1]
  refine JA (Yj fun _=>Yj fun _=>Yj fun _=>rfl) ?_
  unfold Blank;grind
 rw [if_neg k1]
 by_cases k2:Zg.Kind e=2
 ·rw [if_pos k2]
  refine JA (Yj fun _=>Yj fun _=>rfl) ?_
  unfold Blank;grind
 rw [if_neg k2]
 by_cases k3:Zg.Kind e=3
 ·rw [if_pos k3]
  refine JA (Yj fun _=>Yj fun _=>Yj fun _=>Yj fun _=>Yj fun _=>rfl) ?_
  unfold Blank;grind
 rw [if_neg k3]
 by_cases k4:Zg.Kind e=4
 ·rw [if_pos k4]
  refine JA (Yj fun _=>Yj fun _=>rfl) ?_
  unfold Blank;grind
 rw [if_neg k4]
 by_cases k5:Zg.Kind e=5
 ·rw [if_pos k5]
  refine JA (Yj fun _=>Yj fun _=>Yj fun _=>ZcR decide_eq_true_iff) ?_
  unfold Blank;grind
 ·rw [if_neg k5]
  refine Zlr ?_
  unfold Blank;grind
theorem ZcJ (a b:List Int) (ha:a.length≤1048576):Yv a b=some (tr (a=b)):=by
 unfold Yv
 by_cases hl:(a.length:Int)=(b.length:Int)
 ·rw [if_pos hl,J4 (l:=a) (show Len a by unfold Len;omega) (fun k x=>b[k]?=some x) (bad:=false) (good:=true)
   (fun k x hx hk _=>by
    have hy:b[k]?=some b[k]:=List.getElem?_eq_getElem (by omega)
    simp only [Y1,show (k:Int)<(a.length:Int) from by omega,if_true,Zu,hx,hy,Option.bind_some,Option.some.injEq]
    constructor
    ·intro hh;rw [if_pos hh.symm]
    ·intro hh;rw [if_neg (fun q=>hh q.symm)])
   (fun _=>by simp only [Y1,Int.lt_irrefl,if_false]),Zkv]
  congr 1
  refine V9 ⟨fun h=>?_,fun h=>by subst h;exact fun k x hx=>hx⟩
  apply List.ext_getElem?
  intro k
  by_cases hk:k<a.length
  ·rw [h k a[k] (List.getElem?_eq_getElem hk),List.getElem?_eq_getElem hk]
  ·rw [List.getElem?_eq_none (by omega),List.getElem?_eq_none (by omega)]
 ·rw [if_neg hl,Yk (fun h=>hl (by rw [h]))]
def Zr3 (a b:Zo):Prop:=Zo.Parent a=Zo.Parent b∧Zo.Res a=Zo.Res b∧Zo.Cap a=Zo.Cap b∧Zo.Zfj a=Zo.Zfj b
theorem ZmD (a b:Zo) (ha:sm X6 a):ZcO a b=some (tr (Zr3 a b)):=by
 obtain ⟨a1,a2,a3,a4⟩:=Zjn ha
 have s1:=Zm a1
 have s2:=Zm a2
 have s3:=Zm a3
 have s4:=Zm a4
 unfold ZcO
 exact YW (ZcJ _ _ s1) fun _=>YW (ZcJ _ _ s2) fun _=>YW (ZcJ _ _ s3) fun _=>Zbj (ZcJ _ _ s4)
theorem Zbo (a b:Zg) (ha:sm QW a):Zbd a b=some (tr (Zg.Kind a=Zg.Kind b∧Zg.Place a=Zg.Place b∧Zg.Cell a=Zg.Cell b∧Zg.Net a=Zg.Net b∧Zg.Node a=Zg.Node b∧Zg.Name a=Zg.Name b∧Zr3 (Zg.Zet a) (Zg.Zet b))):=by
 unfold Zbd
 exact Yj fun _=>Yj fun _=>Yj fun _=>Yj fun _=>Yj fun _=>Yj fun _=>Zbj (ZmD _ _ (ZoN ha).2)
theorem ZwG (e:Zg) (he:sm QW e):(Yd (Zg.Kind e) 1 5=some (tr (1≤Zg.Kind e∧Zg.Kind e≤5)))∧∃ o,Zcy e=some o∧Zbd e o=some (tr (Zg.Kind e<1∨5<Zg.Kind e∨Blank e))∨(¬(1≤Zg.Kind e∧Zg.Kind e≤5)):=by
 refine ⟨VR _ _ _,?_⟩
 unfold Zcy
 by_cases k1:Zg.Kind e=1
 ·rw [if_pos k1]
  refine ⟨_,.inl ⟨rfl,?_⟩⟩
  refine JA (Zbo e _ he) ?_
  rw [show Zr3 (Zg.Zet e) (Zg.Zet (Zg.Kind e,Zg.Place e,Zg.Cell e,(0:Int),(0:Int),([]:List UInt8),(([]:List Int),([]:List Int),([]:List Int),([]:List Int),()),()))↔Zi8 (Zg.Zet e) from Iff.rfl]
  unfold Blank
  simp only [k1]
  constructor
  ·rintro ⟨_,_,_,a,b,c,d⟩;exact .inr (.inr (.inl ⟨trivial,a,b,c,d⟩))
  ·intro h;grind
 rw [if_neg k1]
 by_cases k2:Zg.Kind e=2
 ·rw [if_pos k2]
  refine ⟨_,.inl ⟨rfl,?_⟩⟩
  refine JA (Zbo e _ he) ?_
  rw [show Zr3 (Zg.Zet e) (Zg.Zet (Zg.Kind e,Zg.Place e,Zg.Cell e,(0:Int),(0:Int),Zg.Name e,(([]:List Int),([]:List Int),([]:List Int),([]:List Int),()),()))↔Zi8 (Zg.Zet e) from Iff.rfl]
  unfold Blank
  simp only [k2]
  constructor
  ·rintro ⟨_,_,_,a,b,c,d⟩;exact .inr (.inr (.inr (.inl ⟨trivial,a,b,d⟩)))
  ·intro h;grind
 rw [if_neg k2]
 by_cases k4:Zg.Kind e=4
 ·rw [if_pos k4]
  refine ⟨_,.inl ⟨rfl,?_⟩⟩
  refine JA (Zbo e _ he) ?_
  rw [show Zr3 (Zg.Zet e) (Zg.Zet (Zg.Kind e,Zg.Place e,(0:Int),Zg.Net e,Zg.Node e,([]:List UInt8),(([]:List Int),([]:List Int),([]:List Int),([]:List Int),()),()))↔Zi8 (Zg.Zet e) from Iff.rfl]
  unfold Blank
  simp only [k4]
  constructor
  ·rintro ⟨_,_,a,_,_,c,d⟩;exact .inr (.inr (.inr (.inr (.inr (.inl ⟨trivial,a,c,d⟩)))))
  ·intro h;grind
 rw [if_neg k4]
 by_cases k5:Zg.Kind e=5
 ·rw [if_pos k5]
  refine ⟨_,.inl ⟨rfl,?_⟩⟩
  refine JA (Zbo e _ he) ?_
  rw [show Zr3 (Zg.Zet e) (Zg.Zet (Zg.Kind e,(0:Int),(0:Int),Zg.Net e,(0:Int),([]:List UInt8),e.snd.snd.snd.snd.snd.snd))↔True from ⟨fun _=>trivial,fun _=>⟨rfl,rfl,rfl,rfl⟩⟩]
  unfold Blank
  simp only [k5]
  constructor
  ·rintro ⟨_,a,b,_,c,d,_⟩;exact .inr (.inr (.inr (.inr (.inr (.inr ⟨trivial,a,b,c,d⟩)))))
  ·intro h;grind
 rw [if_neg k5]
 by_cases k3:Zg.Kind e=3
 ·refine ⟨_,.inl ⟨rfl,?_⟩⟩
  refine JA (Zbo e _ he) ?_
  rw [show Zr3 (Zg.Zet e) (Zg.Zet (Zg.Kind e,(0:Int),(0:Int),(0:Int),(0:Int),([]:List UInt8),(([]:List Int),([]:List Int),([]:List Int),([]:List Int),()),()))↔Zi8 (Zg.Zet e) from Iff.rfl]
  unfold Blank
  simp only [k3]
  constructor
  ·rintro ⟨_,a,b,c,d,f,g⟩;exact .inr (.inr (.inr (.inr (.inl ⟨trivial,a,b,c,d,f,g⟩))))
  ·intro h;grind
 ·exact ⟨e,.inr (by omega)⟩
end Go.Proofs.YtfndhpjedmopdaaGreatDoor
/-
  Plain laws: edits: range, possibility, code.
-/
namespace Go.Proofs.YtfndhpjedmopdaaGreatDoor
set_option linter.unusedVariables false
set_option linter.unusedSimpArgs false
open Go Go.Sx
def Zch (b:Za) (e:Zg):Prop :=
 ((Zg.Kind e=1∨Zg.Kind e=2)→(0≤Zg.Place e∧Zg.Place e≤((places (Za.Design b)).length:Int)-1)∧(0≤Zg.Cell e∧Zg.Cell e≤((Zk.Cells (Za.Library b)).length:Int)-1))∧
 (Zg.Kind e=4→(0≤Zg.Place e∧Zg.Place e≤((places (Za.Design b)).length:Int)-1)∧ZbN (Za.Design b) (Zg.Net e)∧∃ w,(Za.Zy b)[(Zg.Net e).toNat]?=some w∧(0≤Zg.Node e∧Zg.Node e≤((Zo.Parent w).length:Int)-1))∧
 (Zg.Kind e=5→ZbN (Za.Design b) (Zg.Net e))
theorem ZkW {b:Za} (h:ZaN b) {n:Int} (hn:ZbN (Za.Design b) n):∃ w,(Za.Zy b)[n.toNat]?=some w∧atI (Za.Zy b) n=some w∧ZbV w ((sinks (Za.Design b) n).length:Int):=by
 have hwn:=h.ok.2.1
 have hlt:n.toNat<(Za.Zy b).length:=by have:=hn.1;have:=hn.2;omega
 have hw:=List.getElem?_eq_getElem hlt
 refine ⟨_,hw,Qu hn.1 hw,?_⟩
 have this:ZbV _ ((sinks (Za.Design b) ((n.toNat:Nat):Int)).length:Int):=h.ok.2.2 n.toNat _ hw
 rwa [show ((n.toNat:Nat):Int)=n by have:=hn.1;omega] at this
theorem Zn5 {b:Za} (h:ZaN b):(Zk.Cells (Za.Library b)).length≤1048576:=Zm (ZoJ (Zbm h.sm).1)
theorem Zu3 {b:Za} (h:ZaN b) (e:Zg) {w:Zo} (hw:(Za.Zy b)[(Zg.Net e).toNat]?=some w):IntKind.i64.wrap (((Zo.Parent w).length:Int)-1)=((Zo.Parent w).length:Int)-1:=by
 have:=h.ok.2.2 _ _ hw
 have h1:=this.1
 rw [V7 (by omega) (by omega)]
theorem ZmC {b:Za} (h:ZaN b) (e:Zg) (he:sm QW e):Zfw b e=some (tr (Zch b e)):=by
 have hD:=h.ok.1
 have hf:=hD.few
 have hpl:=YK hf
 have hc:=Zn5 h
 have hwn:=h.ok.2.1
 have h30:=hD.2.1.2.1
 have e1:IntKind.i64.wrap (((places (Za.Design b)).length:Int)-1)=((places (Za.Design b)).length:Int)-1:=V7 (by omega) (by omega)
 have e2:IntKind.i64.wrap (((Zk.Cells (Za.Library b)).length:Int)-1)=((Zk.Cells (Za.Library b)).length:Int)-1:=V7 (by omega) (by omega)
 have e3:IntKind.i64.wrap (((Za.Zy b).length:Int)-1)=((Zb.ZM (Za.Design b)).length:Int)-1:=by rw [V7 (by omega) (by omega)];omega
 have net:(ZX (Zg.Net e) 0 (((Zb.ZM (Za.Design b)).length:Int)-1))=some (tr (ZbN (Za.Design b) (Zg.Net e))):=Zaz _ _ _
 unfold Zfw
 rw [Xy _ hf,Option.bind_some,e1,e2,e3]
 have pc:((ZX (Zg.Place e) 0 (((places (Za.Design b)).length:Int)-1)).bind fun x=>if x=true then (ZX (Zg.Cell e) 0 (((Zk.Cells (Za.Library b)).length:Int)-1)).bind fun y=>some y else some false) =
   some (tr ((0≤Zg.Place e∧Zg.Place e≤((places (Za.Design b)).length:Int)-1)∧(0≤Zg.Cell e∧Zg.Cell e≤((Zk.Cells (Za.Library b)).length:Int)-1))) :=
  YW (Zaz _ _ _) fun _=>Zbj (Zaz _ _ _)
 have mv:((ZX (Zg.Place e) 0 (((places (Za.Design b)).length:Int)-1)).bind fun x=>if x=true then (ZX (Zg.Net e) 0 (((Zb.ZM (Za.Design b)).length:Int)-1)).bind fun y=>if y=true then
    (atI (Za.Zy b) (Zg.Net e)).bind fun w=>(ZX (Zg.Node e) 0 (IntKind.i64.wrap (((Zo.Parent w).length:Int)-1))).bind fun z=>some z else some false else some false) =
   some (tr ((0≤Zg.Place e∧Zg.Place e≤((places (Za.Design b)).length:Int)-1)∧ZbN (Za.Design b) (Zg.Net e)∧∃ w,(Za.Zy b)[(Zg.Net e).toNat]?=some w∧(0≤Zg.Node e∧Zg.Node e≤((Zo.Parent w).length:Int)-1))):=by
  refine YW (Zaz _ _ _) fun _=>YW net fun hn=>?_
  obtain ⟨w,hw,ha,_⟩:=ZkW h hn
  rw [ha,Option.bind_some,Zu3 h e hw]
  refine JA (Zbj (Zaz _ _ _)) ⟨fun q=>⟨w,hw,q⟩,fun ⟨w',hw',q⟩=>?_⟩
  rw [hw] at hw'
  injection hw' with hw'
  subst hw';exact q
 by_cases k1:Zg.Kind e=1
 ·rw [if_pos k1,if_pos k1]
  refine JA pc ?_
  unfold Zch;grind
 rw [if_neg k1]
 by_cases k2:Zg.Kind e=2
 ·rw [if_pos k2]
  refine JA pc ?_
  unfold Zch;grind
 rw [if_neg k2]
 by_cases k4:Zg.Kind e=4
 ·rw [if_pos k4]
  refine JA mv ?_
  unfold Zch;grind
 rw [if_neg k4]
 by_cases k5:Zg.Kind e=5
 ·rw [if_pos k5]
  refine JA (Zbj net) ?_
  unfold Zch;grind
 ·rw [if_neg k5]
  refine (ZcR (P:=Zch b e) ⟨fun _=>?_,fun _=>rfl⟩)
  unfold Zch;grind
theorem Zld {b:Za} (h:ZaN b) (e:Zg) (he:sm QW e):Ve e b=some (tr (Blank e∧Zch b e)):=by
 have hD:=h.ok.1
 have hf:=hD.few
 have hpl:=YK hf
 have hc:=Zn5 h
 have hsd:=(Zbm h.sm).2.1
 have e1:IntKind.i64.wrap (((places (Za.Design b)).length:Int)-1)=((places (Za.Design b)).length:Int)-1:=V7 (by omega) (by omega)
 have e2:IntKind.i64.wrap (((Zk.Cells (Za.Library b)).length:Int)-1)=((Zk.Cells (Za.Library b)).length:Int)-1:=V7 (by omega) (by omega)
 obtain ⟨hw,o,ho⟩:=ZwG e he
 unfold Ve
 rw [hw,Option.bind_some]
 by_cases hk:1≤Zg.Kind e∧Zg.Kind e≤5
 ·rw [if_pos (YL hk)]
  rcases ho with ⟨ho1,ho2⟩ | ho
  ·rw [ho1,Option.bind_some,ho2,Option.bind_some]
   by_cases hB:Blank e
   ·rw [if_pos (YL (.inr (.inr hB))),Ye _ hf,Option.bind_some,show YX (places (Za.Design b))=some ((places (Za.Design b)).length:Int) from rfl,Option.bind_some,e1,VR,Option.bind_some,
     show Y8 (Zk.Cells (Za.Library b))=some ((Zk.Cells (Za.Library b)).length:Int) from rfl]
    simp only [Option.bind_some,e2]
    have net:=Zc0 (Za.Design b) (Zg.Net e) hsd
    have pc:(if tr (0≤Zg.Place e∧Zg.Place e≤((places (Za.Design b)).length:Int)-1)=true then (Yd (Zg.Cell e) 0 (((Zk.Cells (Za.Library b)).length:Int)-1)).bind fun y=>some y else some false) =
      some (tr ((0≤Zg.Place e∧Zg.Place e≤((places (Za.Design b)).length:Int)-1)∧(0≤Zg.Cell e∧Zg.Cell e≤((Zk.Cells (Za.Library b)).length:Int)-1))) :=
     Zyo (Zbj (VR _ _ _))
    by_cases k1:Zg.Kind e=1
    ·rw [if_pos k1,if_pos k1]
     refine JA pc ?_
     unfold Zch;grind
    rw [if_neg k1]
    by_cases k2:Zg.Kind e=2
    ·rw [if_pos k2]
     refine JA pc ?_
     unfold Zch;grind
    rw [if_neg k2]
    by_cases k4:Zg.Kind e=4
    ·rw [if_pos k4]
     have mv:(if tr (0≤Zg.Place e∧Zg.Place e≤((places (Za.Design b)).length:Int)-1)=true then (YC (Za.Design b) (Zg.Net e)).bind fun y=>if y=true then
        (atI (Za.Zy b) (Zg.Net e)).bind fun w=>(YE (Zo.Parent w)).bind fun n=>(Yd (Zg.Node e) 0 (IntKind.i64.wrap (n-1))).bind fun z=>some z else some false else some false) =
       some (tr ((0≤Zg.Place e∧Zg.Place e≤((places (Za.Design b)).length:Int)-1)∧ZbN (Za.Design b) (Zg.Net e)∧∃ w,(Za.Zy b)[(Zg.Net e).toNat]?=some w∧(0≤Zg.Node e∧Zg.Node e≤((Zo.Parent w).length:Int)-1))):=by
      by_cases hp:0≤Zg.Place e∧Zg.Place e≤((places (Za.Design b)).length:Int)-1
      ·rw [if_pos (YL hp)]
       refine JA (YW net fun hn=>?_) (P:=ZbN (Za.Design b) (Zg.Net e)∧∃ w,(Za.Zy b)[(Zg.Net e).toNat]?=some w∧(0≤Zg.Node e∧Zg.Node e≤((Zo.Parent w).length:Int)-1)) ⟨fun q=>⟨hp,q⟩,fun q=>q.2⟩
       obtain ⟨w,hw,ha,_⟩:=ZkW h hn
       rw [ha,Option.bind_some,VZ,Option.bind_some,Zu3 h e hw]
       refine JA (Zbj (VR _ _ _)) ⟨fun q=>⟨w,hw,q⟩,fun ⟨w',hw',q⟩=>?_⟩
       rw [hw] at hw'
       injection hw' with hw'
       subst hw';exact q
      ·rw [if_neg (fun q=>hp ((Qs _).1 q)),Yk (fun q=>hp q.1)]
     refine JA mv ?_
     unfold Zch;grind
    rw [if_neg k4]
    by_cases k5:Zg.Kind e=5
    ·rw [if_pos k5]
     refine JA (Zbj net) ?_
     unfold Zch;grind
    ·rw [if_neg k5]
     refine (ZcR (P:=Blank e∧Zch b e) ⟨fun _=>⟨hB,?_⟩,fun _=>rfl⟩)
     unfold Zch;grind
   ·rw [if_neg (fun q=>by rcases (Qs _).1 q with q | q | q<;>first | omega | exact hB q),Yk (fun q=>hB q.1)]
  ·exact absurd hk ho
 ·rw [if_neg (fun q=>hk ((Qs _).1 q)),Yk (fun q=>?_)]
  have:=q.1
  unfold Blank at this
  omega
theorem Zwr (a b:Zi) (ha:sm X3 a):Zcw a b=Zak a b∧∃ r,Zak a b=some r:=by
 have s1:(Zi.Yx a).length≤1048576:=by have:=(ZuR ha).pins.1;omega
 unfold Zcw Zak Zz
 by_cases k:Zi.Kind a=Zi.Kind b
 ·rw [if_pos k,if_pos k]
  by_cases hl:((Zi.Yx a).length:Int)=((Zi.Yx b).length:Int)
  ·rw [if_pos hl,if_pos hl]
   rw [J4 (l:=Zi.Yx a) (show Len _ by unfold Len;omega) (fun k x=>∀ y,(Zi.Yx b)[k]?=some y→(Yz.Clock x == Yz.Clock y)=true) (bad:=false) (good:=true)
    (step:=fun v=>Zw (Zi.Yx a) (Zi.Yx b) v.1)
    (fun k x hx hk _=>by
     have hy:(Zi.Yx b)[k]?=some (Zi.Yx b)[k]:=List.getElem?_eq_getElem (by omega)
     simp only [Zw,Zbq,show (k:Int)<((Zi.Yx a).length:Int) from by omega,if_true,Zu,hx,hy,Option.bind_some,Option.some.injEq,forall_eq']
     constructor
     ·intro hh;rw [if_pos hh]
     ·intro hh;rw [if_neg hh])
    (fun _=>by simp only [Zw,Int.lt_irrefl,if_false]),
    J4 (l:=Zi.Yx a) (show Len _ by unfold Len;omega) (fun k x=>∀ y,(Zi.Yx b)[k]?=some y→(Yz.Clock x == Yz.Clock y)=true) (bad:=false) (good:=true)
    (step:=fun v=>Zbh a b v.1)
    (fun k x hx hk _=>by
     have hy:(Zi.Yx b)[k]?=some (Zi.Yx b)[k]:=List.getElem?_eq_getElem (by omega)
     simp only [Zbh,show (k:Int)<((Zi.Yx a).length:Int) from by omega,if_true,Zu,hx,hy,Option.bind_some,Option.some.injEq,forall_eq']
     constructor
     ·intro hh;rw [if_pos hh]
     ·intro hh;rw [if_neg hh])
    (fun _=>by simp only [Zbh,Int.lt_irrefl,if_false])]
   exact ⟨rfl,_,rfl⟩
  ·rw [if_neg hl,if_neg hl]
   exact ⟨rfl,_,rfl⟩
 ·rw [if_neg k,if_neg k]
  exact ⟨rfl,_,rfl⟩
theorem ZlT (d:Zb) (s:List UInt8) (hd:sm Yn d):Vw d s=some (ZcQ (fun x=>decide (Zd.Name x=s)) (Zb.Instances d))∧Vu d s=some (ZcQ (fun x=>decide (Zd.Name x=s)) (Zb.Instances d)):=by
 have hl:=XK (Zcm hd).1
 constructor
 ·unfold Vw
  rw [XA hl (fun x=>decide (Zd.Name x=s)) (fun x _=>rfl),Option.bind_some]
 ·unfold Vu
  refine ZbE hl (out:=fun i=>i) (fun k x hx=>?_) ?_
  ·have hk:=(List.getElem?_eq_some_iff.1 hx).1
   simp only [Qo,show (k:Int)<((Zb.Instances d).length:Int) from by omega,if_true,Zu,hx,Option.bind_some,decide_eq_true_eq]
   split<;>rfl
  ·simp only [Qo,Int.lt_irrefl,if_false]
theorem ZnP (d:Zb) (s:List UInt8) (hd:sm Yn d):QU d s=some (ZcQ (fun x=>decide (s=x)) (Zb.ZM d))∧Zco d s=some (ZcQ (fun x=>decide (s=x)) (Zb.ZM d)):=by
 have hl:=XK (Zcm hd).2.2
 constructor
 ·unfold QU
  rw [Ze8 hl,Option.bind_some]
 ·unfold Zco Zd2
  rw [ZbE hl (p:=fun x=>decide (s=x)) (out:=fun i=>i) (fun k x hx=>by
   have hk:=(List.getElem?_eq_some_iff.1 hx).1
   simp only [Js,show (k:Int)<((Zb.ZM d).length:Int) from by omega,if_true,Zu,hx,Option.bind_some,decide_eq_true_eq]
   by_cases hq:s=x
   ·rw [if_pos hq,if_pos hq.symm]
   ·rw [if_neg hq,if_neg (fun q=>hq q.symm)]) (by simp only [Js,Int.lt_irrefl,if_false]),Option.bind_some]
end Go.Proofs.YtfndhpjedmopdaaGreatDoor
/-
  Plain laws: edits: what is possible, the code of an edit, places after one.
-/
namespace Go.Proofs.YtfndhpjedmopdaaGreatDoor
set_option linter.unusedVariables false
set_option linter.unusedSimpArgs false
open Go Go.Sx
def ZkD (b:Za):Prop:=∃ (x:Zd) (c:Zi) (w:Zo) (m:Int),
 0<(Zb.Instances (Za.Design b)).length∧(Zb.Instances (Za.Design b))[(Zb.Instances (Za.Design b)).length-1]?=some x∧
 (Zk.Cells (Za.Library b))[(Zd.Cell x).toNat]?=some c∧Zi.Kind c=1∧(Zi.Yx c).length=2∧
 (Zd.ZM x).length=2∧atI (Zd.ZM x) 0=some m∧atI (Zd.ZM x) 1=some (((Zb.ZM (Za.Design b)).length:Int)-1)∧m≠((Zb.ZM (Za.Design b)).length:Int)-1∧
 atI (Zb.ZM (Za.Design b)) (((Zb.ZM (Za.Design b)).length:Int)-1)=some (Zd.Name x)∧
 atI (Za.Zy b) (((Zb.ZM (Za.Design b)).length:Int)-1)=some w∧(Zo.Zfj w).length=1∧(sinks (Za.Design b) (((Zb.ZM (Za.Design b)).length:Int)-1)).length=1∧(Zo.Parent w).length=1∧atI (Zo.Cap w) 0=some 0
theorem ZvQ {b:Za} (h:ZaN b):∃ r,JW b=some r∧ZdA b=some r∧
  (r=true→ZkD b):=by
 have hD:=h.ok.1
 have hf:=hD.few
 have h14:=hf.insts
 have h30:=hD.2.1.2.1
 have hwn:=h.ok.2.1
 unfold JW ZdA
 by_cases hn:((Zb.Instances (Za.Design b)).length:Int)=0
 ·rw [if_pos hn,hn,V7 (by omega) (by omega),if_pos (by omega)]
  exact ⟨false,rfl,rfl,fun h=>by cases h⟩
 rw [if_neg hn,V7 (n:=((Zb.Instances (Za.Design b)).length:Int)-1) (by omega) (by omega),if_neg (by omega)]
 have hlt:(Zb.Instances (Za.Design b)).length-1<(Zb.Instances (Za.Design b)).length:=by omega
 have hx:=List.getElem?_eq_getElem hlt
 generalize (Zb.Instances (Za.Design b))[(Zb.Instances (Za.Design b)).length-1]=x at hx
 have hx2:atI (Zb.Instances (Za.Design b)) (((Zb.Instances (Za.Design b)).length:Int)-1)=some x:=Qu (by omega) (by rw [←hx];congr 1;omega)
 obtain ⟨⟨c0,c1⟩,⟨c,hc,hnp⟩,hnet⟩:=hD.2.2.1 x (List.mem_of_getElem? hx)
 have hc2:atI (Zk.Cells (Za.Library b)) (Zd.Cell x)=some c:=Qu c0 hc
 rw [hx2]
 simp only [Option.bind_some,hc2,show YR (Zb.ZM (Za.Design b))=some ((Zb.ZM (Za.Design b)).length:Int) from rfl]
 rw [show ZaF c=Qx c from rfl]
 have hbuf:Qx c=some (tr (Zi.Kind c=1∧(Zi.Yx c).length=2)):=by
  unfold Qx
  refine JA (Yj fun _=>ZcR decide_eq_true_iff) ?_
  omega
 rw [hbuf,Option.bind_some,Option.bind_some]
 by_cases hb:Zi.Kind c=1∧(Zi.Yx c).length=2
 ·rw [if_pos (YL hb),if_pos (YL hb)]
  have hl2:(Zd.ZM x).length=2:=by rw [hnp];exact hb.2
  have n0:atI (Zd.ZM x) 0=some ((Zd.ZM x)[0]'(by omega)):=List.getElem?_eq_getElem (by omega)
  have n1:atI (Zd.ZM x) 1=some ((Zd.ZM x)[1]'(by omega)):=List.getElem?_eq_getElem (by omega)
  have hn1:=hnet ((Zd.ZM x)[1]'(by omega)) (List.getElem_mem _)
  have hpos:1≤(Zb.ZM (Za.Design b)).length:=by have:=hn1.1;have:=hn1.2;omega
  generalize (Zd.ZM x)[1]'(by omega)=m1 at n1 hn1
  generalize (Zd.ZM x)[0]'(by omega)=m0 at n0
  have eL:IntKind.i64.wrap (((Zb.ZM (Za.Design b)).length:Int)-1)=((Zb.ZM (Za.Design b)).length:Int)-1:=V7 (by omega) (by omega)
  have eW:IntKind.i64.wrap (((Za.Zy b).length:Int)-1)=((Zb.ZM (Za.Design b)).length:Int)-1:=by rw [V7 (by omega) (by omega)];omega
  have hL:ZbN (Za.Design b) (((Zb.ZM (Za.Design b)).length:Int)-1):=⟨by omega,by omega⟩
  obtain ⟨w,hw1,hw2,hw3⟩:=ZkW h hL
  have nL:atI (Zb.ZM (Za.Design b)) (((Zb.ZM (Za.Design b)).length:Int)-1)=some ((Zb.ZM (Za.Design b))[(Zb.ZM (Za.Design b)).length-1]'(by omega)):=Qu (by omega) (by
   rw [List.getElem?_eq_getElem (by omega)]
   congr 2
   omega)
  generalize (Zb.ZM (Za.Design b))[(Zb.ZM (Za.Design b)).length-1]'(by omega)=nm at nL
  have hcap:atI (Zo.Cap w) 0=some ((Zo.Cap w)[0]'(by have:=hw3.1;have:=hw3.2.2.1;omega)):=List.getElem?_eq_getElem (by have:=hw3.1;have:=hw3.2.2.1;omega)
  generalize (Zo.Cap w)[0]'(by have:=hw3.1;have:=hw3.2.2.1;omega)=cp at hcap
  have hsk:=hw3.2.2.2.1
  simp only [eL,eW,n0,n1,nL,hw2,Option.bind_some,J8 _ _ hf,Zfg,hcap]
  rw [←hsk]
  by_cases q1:m1=((Zb.ZM (Za.Design b)).length:Int)-1
  ·rw [if_pos q1,if_pos q1]
   by_cases q2:m0=((Zb.ZM (Za.Design b)).length:Int)-1
   ·rw [if_pos q2]
    by_cases q3:nm=Zd.Name x
    ·rw [if_pos q3]
     simp only [if_pos q2]
     exact ⟨_,rfl,rfl,fun q=>by cases q⟩
    ·rw [if_neg q3]
     exact ⟨_,rfl,rfl,fun q=>by cases q⟩
   ·rw [if_neg q2]
    by_cases q3:nm=Zd.Name x
    ·rw [if_pos q3,if_pos q3]
     simp only [if_neg q2]
     by_cases q4:((Zo.Zfj w).length:Int)=1
     ·rw [if_pos q4,if_pos q4]
      by_cases q5:((Zo.Parent w).length:Int)=1
      ·simp only [if_pos q5]
       refine ⟨_,rfl,rfl,fun q=>?_⟩
       have q6:=of_decide_eq_true q
       subst q1 q6
       exact ⟨x,c,w,m0,by omega,hx,hc,hb.1,hb.2,hl2,n0,n1,q2,by rw [nL,q3],hw2,by omega,by omega,by omega,hcap⟩
      ·simp only [if_neg q5]
       exact ⟨_,rfl,rfl,fun q=>by cases q⟩
     ·rw [if_neg q4,if_neg q4]
      exact ⟨_,rfl,rfl,fun q=>by cases q⟩
    ·rw [if_neg q3,if_neg q3]
     exact ⟨_,rfl,rfl,fun q=>by cases q⟩
  ·rw [if_neg q1,if_neg q1]
   exact ⟨_,rfl,rfl,fun q=>by cases q⟩
 ·rw [if_neg (fun q=>hb ((Qs _).1 q)),if_neg (fun q=>hb ((Qs _).1 q))]
  exact ⟨false,rfl,rfl,fun h=>by cases h⟩
theorem ZrQ {b:Za} (h:ZaN b) {i:Int} (h0:0≤i) (h1:i≤((Zk.Cells (Za.Library b)).length:Int)-1):∃ c,atI (Zk.Cells (Za.Library b)) i=some c∧sm X3 c:=by
 have hlt:i.toNat<(Zk.Cells (Za.Library b)).length:=by omega
 have hc:=List.getElem?_eq_getElem hlt
 exact ⟨_,Qu h0 hc,ZaM (ZoJ (Zbm h.sm).1) hc⟩
theorem Zqg {b:Za} (h:ZaN b) {i:Int} (h0:0≤i) (h1:i≤((places (Za.Design b)).length:Int)-1):∃ p,atI (places (Za.Design b)) i=some p∧p∈places (Za.Design b):=by
 have hlt:i.toNat<(places (Za.Design b)).length:=by omega
 have hc:=List.getElem?_eq_getElem hlt
 exact ⟨_,Qu h0 hc,List.getElem_mem _⟩
theorem Zs5 {d:Zb} {p:Pl} (hp:p∈places d) (h0:0≤p.1):∃ x,(Zb.Instances d)[p.1.toNat]?=some x∧x∈Zb.Instances d:=by
 unfold places at hp
 rcases List.mem_append.1 hp with hp | hp
 ·obtain ⟨i,z,hi,hz⟩:=ZcZ.1 hp
  unfold Y6 at hz
  obtain ⟨j,n,hj,hn⟩:=ZcZ.1 hz
  simp only [List.mem_singleton] at hn
  subst hn
  refine ⟨z,?_,List.mem_of_getElem? hi⟩
  show (Zb.Instances d)[(((0+i:Nat):Int)).toNat]?=some z
  rw [show (((0+i:Nat):Int)).toNat=i by omega]
  exact hi
 ·obtain ⟨j,q,hj,hq⟩:=ZcZ.1 hp
  simp only [ZcP,List.mem_singleton] at hq
  subst hq
  have h0:(0:Int)≤-1:=h0
  omega
theorem ZkD.two {b:Za} (h:ZkD b):0<(Zb.Instances (Za.Design b)).length∧∃ x,(Zb.Instances (Za.Design b))[(Zb.Instances (Za.Design b)).length-1]?=some x∧(Zd.ZM x).length=2:=by
 obtain ⟨x,c,w,m,h1,h2,_,_,_,h3,_⟩:=h
 exact ⟨h1,x,h2,h3⟩
def Zf3 (b:Za) (e:Zg) (p:Pl):Prop:=0≤Zg.Place e∧(places (Za.Design b))[(Zg.Place e).toNat]?=some p
theorem Zpe {b:Za} {e:Zg} {p:Pl} (h0:0≤Zg.Place e) (hp:atI (places (Za.Design b)) (Zg.Place e)=some p):Zf3 b e p:=by
 refine ⟨h0,?_⟩
 rw [show Zg.Place e=(((Zg.Place e).toNat:Nat):Int) by omega,Zu] at hp
 exact hp
theorem Zf3.mem {b:Za} {e:Zg} {p:Pl} (h:Zf3 b e p):p∈places (Za.Design b):=List.mem_of_getElem? h.2
theorem Zf3.at {b:Za} {e:Zg} {p:Pl} (h:Zf3 b e p):atI (places (Za.Design b)) (Zg.Place e)=some p:=Qu h.1 h.2
def Zw0 (b:Za) (e:Zg):Prop :=
 (Zg.Kind e=1→∃ (p:Pl) (x:Zd) (c c2:Zi),Zf3 b e p∧0≤p.1∧p.2.2.2.1=true∧atI (Zb.Instances (Za.Design b)) p.1=some x∧atI (Zk.Cells (Za.Library b)) (Zd.Cell x)=some c∧atI (Zk.Cells (Za.Library b)) (Zg.Cell e)=some c2∧Zak c c2=some true)∧
 (Zg.Kind e=2→∃ (p:Pl) (c:Zi),Zf3 b e p∧p.2.2.2.1=false∧atI (Zk.Cells (Za.Library b)) (Zg.Cell e)=some c∧Zi.Kind c=1∧(Zi.Yx c).length=2∧Za6 (Zg.Name e)=true∧
  ZcQ (fun x=>decide (Zd.Name x=Zg.Name e)) (Zb.Instances (Za.Design b))<0∧ZcQ (fun x=>decide (Zg.Name e=x)) (Zb.ZM (Za.Design b))<0)∧
 (Zg.Kind e=3→ZkD b)∧
 (Zg.Kind e=4→∃ p:Pl,Zf3 b e p∧p.2.2.2.1=false∧p.2.2.1≠Zg.Net e)∧
 (Zg.Kind e=5→ZbV (Zg.Zet e) ((sinks (Za.Design b) (Zg.Net e)).length:Int))
theorem Zrw {b:Za} (h:ZaN b) (e:Zg) (he:sm QW e) (hB:Blank e) (hR:Zch b e):∃ r,QI e b=some r∧Zcs b e=some r∧
  (r=true→Zw0 b e):=by
 have hD:=h.ok.1
 have hf:=hD.few
 have hsd:=(Zbm h.sm).2.1
 obtain ⟨he1,he2⟩:=ZoN he
 unfold QI Zcs
 rw [Ye _ hf,Xy _ hf,Option.bind_some,Option.bind_some]
 by_cases k1:Zg.Kind e=1
 ·rw [if_pos k1,if_pos k1]
  obtain ⟨⟨p0,p1⟩,c0,c1⟩:=hR.1 (.inl k1)
  obtain ⟨p,hp,hpm⟩:=Zqg h p0 p1
  obtain ⟨c2,hc2,hc2s⟩:=ZrQ h c0 c1
  rw [hp]
  simp only [Option.bind_some,hc2]
  by_cases q1:(0:Int)≤p.1
  ·rw [if_pos q1,if_pos q1]
   by_cases q2:p.2.2.2.1=true
   ·rw [if_pos q2,if_pos q2]
    obtain ⟨x,hx,hxm⟩:=Zs5 hpm q1
    have hx2:atI (Zb.Instances (Za.Design b)) p.1=some x:=Qu q1 hx
    obtain ⟨⟨d0,d1⟩,_,_⟩:=hD.2.2.1 x hxm
    obtain ⟨c,hc,hcs⟩:=ZrQ h d0 d1
    obtain ⟨a1,r,a2⟩:=Zwr c c2 hcs
    have e1:ZR.instance p=p.1:=rfl
    have e2:ZW.instance p=p.1:=rfl
    simp only [e1,e2,hx2,Option.bind_some,hc,a1,a2]
    exact ⟨r,rfl,rfl,fun q=>⟨fun _=>⟨p,x,c,c2,Zpe p0 hp,q1,q2,hx2,hc,hc2,by rw [a2,q]⟩,fun k=>by omega,fun k=>by omega,fun k=>by omega,fun k=>by omega⟩⟩
   ·rw [if_neg q2,if_neg q2]
    exact ⟨_,rfl,rfl,fun q=>by cases q⟩
  ·rw [if_neg q1,if_neg q1]
   exact ⟨_,rfl,rfl,fun q=>by cases q⟩
 rw [if_neg k1,if_neg k1]
 by_cases k2:Zg.Kind e=2
 ·rw [if_pos k2,if_pos k2]
  obtain ⟨⟨p0,p1⟩,c0,c1⟩:=hR.1 (.inr k2)
  obtain ⟨p,hp,hpm⟩:=Zqg h p0 p1
  obtain ⟨c2,hc2,hc2s⟩:=ZrQ h c0 c1
  have hbuf:Qx c2=some (tr (Zi.Kind c2=1∧(Zi.Yx c2).length=2)):=by
   unfold Qx
   refine JA (Yj fun _=>ZcR decide_eq_true_iff) ?_
   omega
  have hlN:(Zg.Name e).length≤4611686018427387904:=by have:((Zg.Name e).length:Int)≤1048576:=he1;omega
  rw [hp]
  simp only [Option.bind_some,hc2,show ZaF c2=Qx c2 from rfl,hbuf,Zgp,Zek _ hlN,(ZlT _ (Zg.Name e) hsd).1,(ZlT _ (Zg.Name e) hsd).2,(ZnP _ (Zg.Name e) hsd).1,(ZnP _ (Zg.Name e) hsd).2]
  have e1:ZR.drives p=p.2.2.2.1:=rfl
  have e2:ZW.drives p=p.2.2.2.1:=rfl
  rw [e1,e2]
  by_cases q2:p.2.2.2.1=true
  ·simp only [if_pos q2]
   exact ⟨_,rfl,rfl,fun q=>by cases q⟩
  simp only [if_neg q2]
  by_cases q3:tr (Zi.Kind c2=1∧(Zi.Yx c2).length=2)=true
  ·simp only [if_pos q3]
   by_cases q4:Za6 (Zg.Name e)=true
   ·simp only [if_pos q4]
    split
    ·rename_i q5
     refine ⟨_,rfl,rfl,fun q=>⟨fun k=>by omega,fun _=>⟨p,c2,Zpe p0 hp,by simpa using q2,hc2,((Qs _).1 q3).1,((Qs _).1 q3).2,q4,q5,of_decide_eq_true q⟩,fun k=>by omega,fun k=>by omega,fun k=>by omega⟩⟩
    ·exact ⟨_,rfl,rfl,fun q=>by cases q⟩
   ·simp only [if_neg q4]
    exact ⟨_,rfl,rfl,fun q=>by cases q⟩
  ·simp only [if_neg q3]
   exact ⟨_,rfl,rfl,fun q=>by cases q⟩
 rw [if_neg k2,if_neg k2]
 by_cases k3:Zg.Kind e=3
 ·rw [if_pos k3,if_pos k3]
  obtain ⟨r,a,c,d⟩:=ZvQ h
  rw [a,c]
  exact ⟨r,rfl,rfl,fun q=>⟨fun k=>by omega,fun k=>by omega,fun _=>d q,fun k=>by omega,fun k=>by omega⟩⟩
 rw [if_neg k3,if_neg k3]
 by_cases k4:Zg.Kind e=4
 ·rw [if_pos k4,if_pos k4]
  obtain ⟨⟨p0,p1⟩,_⟩:=hR.2.1 k4
  obtain ⟨p,hp,hpm⟩:=Zqg h p0 p1
  rw [hp]
  simp only [Option.bind_some]
  have e1:ZR.drives p=p.2.2.2.1:=rfl
  have e2:ZW.drives p=p.2.2.2.1:=rfl
  rw [e1,e2]
  by_cases q2:p.2.2.2.1=true
  ·simp only [if_pos q2]
   exact ⟨_,rfl,rfl,fun q=>by cases q⟩
  ·simp only [if_neg q2]
   refine ⟨_,rfl,rfl,fun q=>⟨fun k=>by omega,fun k=>by omega,fun k=>by omega,fun _=>⟨p,Zpe p0 hp,by simpa using q2,by simp only [Bool.not_eq_true',decide_eq_false_iff_not] at q;exact q⟩,fun k=>by omega⟩⟩
 rw [if_neg k4,if_neg k4]
 have k5:Zg.Kind e=5:=by unfold Blank at hB;omega
 obtain ⟨w,hw1,hw2,hw3⟩:=ZkW h (hR.2.2 k5)
 rw [hw2,J8 _ _ hf]
 simp only [Option.bind_some,VZ,Zjs _ _ he2,Zjb _ _ he2,hw3.2.2.2.1]
 exact ⟨_,rfl,rfl,fun q=>⟨fun k=>by omega,fun k=>by omega,fun k=>by omega,fun k=>by omega,fun _=>(Qs _).1 q⟩⟩
structure Zkq (b:Za) (e:Zg):Prop where
 blk:ZaN b
 blank:Blank e
 range:Zch b e
 poss:Zw0 b e
 lim:Zg.Kind e=2→(Zb.Instances (Za.Design b)).length≤13∧(Zb.ZM (Za.Design b)).length≤29
theorem Zkq.last {b:Za} {e:Zg} (h:Zkq b e) (k3:Zg.Kind e=3):0<(Zb.Instances (Za.Design b)).length∧∃ x,(Zb.Instances (Za.Design b))[(Zb.Instances (Za.Design b)).length-1]?=some x∧(Zd.ZM x).length=2:=(h.poss.2.2.1 k3).two
theorem ZqB {b:Za} (h:ZaN b) (e:Zg) (he:sm QW e):∃ c,ZbM e b=some c∧Zai b e=some c∧(c=0→Zkq b e):=by
 have hB:=h.ok
 unfold Zai ZbM
 rw [ZfL b h.sm,Option.bind_some,if_pos (YL hB)]
 ·have hwn:=hB.2.1
  rw [Zld h e he,Zmz e he,ZmC h e he]
  simp only [Option.bind_some]
  by_cases h1:Blank e
  ·rw [if_pos (YL h1)]
   by_cases h2:Zch b e
   ·rw [if_pos (YL ⟨h1,h2⟩),if_pos (YL h2)]
    obtain ⟨r,a,c,d⟩:=Zrw h e he h1 h2
    rw [a,c]
    simp only [Option.bind_some]
    by_cases hr:r=true
    ·rw [if_pos hr,if_pos hr]
     have h14:=hB.1.few.insts
     have h30:=hB.1.2.1.2.1
     by_cases k2:Zg.Kind e=2
     ·rw [if_pos k2,if_pos k2]
      by_cases q1:((Zb.Instances (Za.Design b)).length:Int)=14
      ·rw [if_pos q1,if_pos q1]
       exact ⟨_,rfl,rfl,fun q=>by cases q⟩
      ·rw [if_neg q1,if_neg q1]
       by_cases q2:((Zb.ZM (Za.Design b)).length:Int)=30
       ·rw [if_pos q2,if_pos (by omega)]
        exact ⟨_,rfl,rfl,fun q=>by cases q⟩
       ·rw [if_neg q2,if_neg (by omega)]
        exact ⟨_,rfl,rfl,fun _=>⟨h,h1,h2,d hr,fun _=>⟨by omega,by omega⟩⟩⟩
     ·rw [if_neg k2,if_neg k2]
      exact ⟨_,rfl,rfl,fun _=>⟨h,h1,h2,d hr,fun k=>absurd k k2⟩⟩
    ·rw [if_neg hr,if_neg hr]
     exact ⟨_,rfl,rfl,fun q=>by cases q⟩
   ·rw [if_neg (fun q=>h2 ((Qs _).1 q).2),if_neg (fun q=>h2 ((Qs _).1 q))]
    exact ⟨_,rfl,rfl,fun q=>by cases q⟩
  ·rw [if_neg (fun q=>h1 ((Qs _).1 q).1),if_neg (fun q=>h1 ((Qs _).1 q))]
   exact ⟨_,rfl,rfl,fun q=>by cases q⟩
end Go.Proofs.YtfndhpjedmopdaaGreatDoor
/-
  Plain laws: the code of an edit of any block.
-/
namespace Go.Proofs.YtfndhpjedmopdaaGreatDoor
set_option linter.unusedVariables false
set_option linter.unusedSimpArgs false
open Go Go.Sx
theorem ZrY (b:Za) (e:Zg) (hb:sm YG b) (he:sm QW e):∃ c,Zcv b e=some c∧Zai b e=some c∧(c=0→Zkq b e):=by
 unfold Zcv
 rw [Zng b hb,Option.bind_some]
 by_cases hB:ZkV b
 ·obtain ⟨c,h1,h2,h3⟩:=ZqB ⟨hB,hb⟩ e he
  rw [if_pos (YL hB),h1]
  exact ⟨c,rfl,h2,h3⟩
 ·rw [if_neg (fun q=>hB ((Qs _).1 q))]
  refine ⟨1,rfl,?_,fun q=>by cases q⟩
  unfold Zai
  rw [ZfL b hb,Option.bind_some,if_neg (fun q=>hB ((Qs _).1 q))]
end Go.Proofs.YtfndhpjedmopdaaGreatDoor
/-
  Plain laws: places after an edit; the law FnExactPlacesAfter.
-/
namespace Go.Proofs.YtfndhpjedmopdaaGreatDoor
set_option linter.unusedVariables false
set_option linter.unusedSimpArgs false
open Go Go.Sx
theorem ZmK:∀ (l:List ZV) (m:Nat),(cat ZcP m l).length=l.length
 | [],_=>rfl
 | x::r,m=>by simp only [cat,List.length_append,ZcP,List.length_nil,ZmK r,List.length_cons];omega
theorem Zpx {i:Nat} {x:Zd} {p:Pl} (hp:p∈Y6 i x):p.1=(i:Int):=by
 unfold Y6 at hp
 obtain ⟨j,n,hj,hn⟩:=ZcZ.1 hp
 simp only [List.mem_singleton] at hn
 subst hn;rfl
theorem Zwu (i:Nat) (x:Zd):(Y6 i x).length=(Zd.ZM x).length:=by
 have:∀ (l:List Int) (m:Nat) (c:Int),(cat (fun j n=>[((i:Int),(j:Int),n,decide ((j:Int)=c),())]) m l).length=l.length:=by
  intro l
  induction l with
  | nil=>intro m c;rfl
  | cons y r ih=>intro m c;simp only [cat,List.length_append,List.length_nil,ih,List.length_cons];omega
 unfold Y6
 exact this _ _ _
theorem ZgK {d:Zb} {k:Nat} {p:Pl} (hp:(places d)[k]?=some p):(p.1<0↔(places d).length≤k+(Zb.ZQ d).length)∧-1≤p.1:=by
 have hl:(places d).length=(cat Y6 0 (Zb.Instances d)).length+(Zb.ZQ d).length:=by unfold places;rw [List.length_append,ZmK]
 by_cases hk:k<(cat Y6 0 (Zb.Instances d)).length
 ·have h1:p∈cat Y6 0 (Zb.Instances d):=by
   unfold places at hp
   rw [List.getElem?_append_left hk] at hp
   exact List.mem_of_getElem? hp
  obtain ⟨i,z,hi,hz⟩:=ZcZ.1 h1
  have:=Zpx hz
  omega
 ·have h1:p∈cat ZcP 0 (Zb.ZQ d):=by
   unfold places at hp
   rw [List.getElem?_append_right (by omega)] at hp
   exact List.mem_of_getElem? hp
  obtain ⟨j,q,hj,hq⟩:=ZcZ.1 h1
  simp only [ZcP,List.mem_singleton] at hq
  subst hq
  simp only
  omega
theorem ZoV {d:Zb} {x:Zd} (hn:0<(Zb.Instances d).length) (hx:(Zb.Instances d)[(Zb.Instances d).length-1]?=some x) {k:Nat} {p:Pl} (hp:(places d)[k]?=some p) (h0:0≤p.1) :
  p.1=((Zb.Instances d).length:Int)-1↔(places d).length≤k+(Zb.ZQ d).length+(Zd.ZM x).length:=by
 have hl:(places d).length=(cat Y6 0 (Zb.Instances d)).length+(Zb.ZQ d).length:=by unfold places;rw [List.length_append,ZmK]
 have hs:cat Y6 0 (Zb.Instances d)=cat Y6 0 ((Zb.Instances d).take ((Zb.Instances d).length-1))++Y6 ((Zb.Instances d).length-1) x:=by
  rw [←Zf8 hx,show (Zb.Instances d).length-1+1=(Zb.Instances d).length by omega,List.take_length]
 have hsl:=congrArg List.length hs
 rw [List.length_append,Zwu] at hsl
 have hk:k<(cat Y6 0 (Zb.Instances d)).length:=by
  have:=(ZgK hp).1
  omega
 have h1:(cat Y6 0 (Zb.Instances d))[k]?=some p:=by
  unfold places at hp
  rwa [List.getElem?_append_left hk] at hp
 rw [hs] at h1
 by_cases hk2:k<(cat Y6 0 ((Zb.Instances d).take ((Zb.Instances d).length-1))).length
 ·rw [List.getElem?_append_left hk2] at h1
  obtain ⟨i,z,hi,hz⟩:=ZcZ.1 (List.mem_of_getElem? h1)
  have e:=Zpx hz
  have hil:=(List.getElem?_eq_some_iff.1 hi).1
  rw [List.length_take] at hil
  omega
 ·rw [List.getElem?_append_right (by omega)] at h1
  have e:=Zpx (List.mem_of_getElem? h1)
  omega
noncomputable def Zou (b:Za) (e:Zg) (k:Nat) (p:Pl):Int :=
 if Zg.Kind e=2∧p.1<0 then (k:Int)+2
 else if Zg.Kind e=3∧p.1<0 then (k:Int)-2
 else if Zg.Kind e=3∧p.1=((Zb.Instances (Za.Design b)).length:Int)-1 then -1
 else (k:Int)
theorem Zu6 {b:Za} {e:Zg} {k:Nat} {p:Pl} (k2:Zg.Kind e=2) (q1:p.1<0):Zou b e k p=(k:Int)+2:=by unfold Zou;rw [if_pos ⟨k2,q1⟩]
theorem ZuE {b:Za} {e:Zg} {k:Nat} {p:Pl} (k3:Zg.Kind e=3) (q1:p.1<0):Zou b e k p=(k:Int)-2:=by unfold Zou;rw [if_neg (fun q=>by have:=q.1;omega),if_pos ⟨k3,q1⟩]
theorem Zu4 {b:Za} {e:Zg} {k:Nat} {p:Pl} (k3:Zg.Kind e=3) (q1:¬p.1<0) (q2:p.1=((Zb.Instances (Za.Design b)).length:Int)-1):Zou b e k p=-1:=by unfold Zou;rw [if_neg (fun q=>q1 q.2),if_neg (fun q=>q1 q.2),if_pos ⟨k3,q2⟩]
theorem Zun {b:Za} {e:Zg} {k:Nat} {p:Pl} (k3:Zg.Kind e=3) (q1:¬p.1<0) (q2:¬p.1=((Zb.Instances (Za.Design b)).length:Int)-1):Zou b e k p=(k:Int):=by unfold Zou;rw [if_neg (fun q=>q1 q.2),if_neg (fun q=>q1 q.2),if_neg (fun q=>q2 q.2)]
theorem ZoP {b:Za} {e:Zg} {k:Nat} {p:Pl} (k3:¬Zg.Kind e=3) (q1:¬(Zg.Kind e=2∧p.1<0)):Zou b e k p=(k:Int):=by unfold Zou;rw [if_neg q1,if_neg (fun q=>k3 q.1),if_neg (fun q=>k3 q.1)]
noncomputable def after (b:Za) (e:Zg):List Int:=cat (fun k p=>[Zou b e k p]) 0 (places (Za.Design b))
theorem ZpJ {α β:Type} {g:Nat→α→β}:∀ (l:List α) (m:Nat),(cat (fun j n=>[g j n]) m l).length=l.length
 | [],_=>rfl
 | x::r,m=>by simp only [cat,List.length_append,List.length_nil,ZpJ r,List.length_cons];omega
theorem ZjH {b:Za} {e:Zg} (h:Zkq b e):Qg e b=some (after b e):=by
 have hD:=h.blk.ok.1
 have hf:=hD.few
 have hpl:=YK hf
 have h14:=hf.insts
 unfold Qg
 rw [show YS (Zb.Instances (Za.Design b))=some ((Zb.Instances (Za.Design b)).length:Int) from rfl,Ye _ hf,Option.bind_some,Option.bind_some]
 have:=ZbF (l:=places (Za.Design b)) (ρ:=List Int) (fun k p=>[Zou b e k p]) [] (step:=fun v=>Y4 e ((Zb.Instances (Za.Design b)).length:Int) (places (Za.Design b)) v.1 v.2.1) (good:=after b e)
  (fun k p hp hk=>by
   have hl:=ZpJ (g:=Zou b e) ((places (Za.Design b)).take k) 0
   rw [List.length_take] at hl
   have hpp:=ZgK hp
   have hg:∀ n:Int,(([]++cat (fun k p=>[Zou b e k p]) 0 ((places (Za.Design b)).take k)).length+[n].length)*8≤140737488355328:=fun n=>by
    rw [List.nil_append,List.length_singleton,hl];omega
   simp only [Y4,show (k:Int)<((places (Za.Design b)).length:Int) from by omega,if_true,Zu,hp,Option.bind_some,Zh (hg _),Q5 (show k≤1048576 by omega),V7 (show (-9223372036854775808:Int)≤(k:Int)+2 by omega) (by omega),V7 (show (-9223372036854775808:Int)≤(k:Int)-2 by omega) (by omega),V7 (show (-9223372036854775808:Int)≤((Zb.Instances (Za.Design b)).length:Int)-1 by omega) (by omega),ZR.instance]
   by_cases k2:Zg.Kind e=2
   ·have k3:¬Zg.Kind e=3:=by omega
    by_cases q1:p.1<0
    ·rw [Zu6 k2 q1,if_pos k2,if_pos q1]
    ·rw [ZoP k3 (fun q=>q1 q.2),if_pos k2,if_neg q1,if_neg k3,if_neg k3]
   ·rw [if_neg k2]
    by_cases k3:Zg.Kind e=3
    ·by_cases q1:p.1<0
     ·rw [ZuE k3 q1,if_pos k3,if_pos q1]
     ·by_cases q2:p.1=((Zb.Instances (Za.Design b)).length:Int)-1
      ·rw [Zu4 k3 q1 q2,if_pos k3,if_neg q1,if_pos k3,if_pos q2]
      ·rw [Zun k3 q1 q2,if_pos k3,if_neg q1,if_pos k3,if_neg q2]
    ·rw [ZoP k3 (fun q=>k2 q.1),if_neg k3,if_neg k3])
  (by simp only [Y4,Int.lt_irrefl,if_false];rfl)
 exact this
theorem Zlv {b:Za} {e:Zg} (h:Zkq b e):ZbC b e=some (after b e):=by
 have hD:=h.blk.ok.1
 have hf:=hD.few
 have hpl:=YK hf
 have h14:=hf.insts
 have h8:=hf.ports
 have hle:(Zb.ZQ (Za.Design b)).length≤(places (Za.Design b)).length:=by unfold places;rw [List.length_append,ZmK];omega
 unfold ZbC
 rw [Xy _ hf,Option.bind_some]
 have:=ZbF (l:=places (Za.Design b)) (ρ:=List Int) (fun k p=>[Zou b e k p]) [] (step:=fun v=>QO b e (places (Za.Design b)) v.1 v.2.1) (good:=after b e)
  (fun k p hp hk=>by
   have hl:=ZpJ (g:=Zou b e) ((places (Za.Design b)).take k) 0
   rw [List.length_take] at hl
   obtain ⟨hpp,hm1⟩:=ZgK hp
   have hg:∀ n:Int,(([]++cat (fun k p=>[Zou b e k p]) 0 ((places (Za.Design b)).take k)).length+[n].length)*8≤140737488355328:=fun n=>by
    rw [List.nil_append,List.length_singleton,hl];omega
   have e1:IntKind.i64.wrap (((places (Za.Design b)).length:Int)-((Zb.ZQ (Za.Design b)).length:Int))=((places (Za.Design b)).length:Int)-((Zb.ZQ (Za.Design b)).length:Int):=V7 (by omega) (by omega)
   have e2:IntKind.i64.wrap (((places (Za.Design b)).length:Int)-((Zb.ZQ (Za.Design b)).length:Int)-2)=((places (Za.Design b)).length:Int)-((Zb.ZQ (Za.Design b)).length:Int)-2:=V7 (by omega) (by omega)
   have c1:(((places (Za.Design b)).length:Int)-((Zb.ZQ (Za.Design b)).length:Int)≤(k:Int))=(p.1<0):=propext ⟨fun q=>hpp.2 (by omega),fun q=>by have:=hpp.1 q;omega⟩
   simp only [QO,show (k:Int)<((places (Za.Design b)).length:Int) from by omega,if_true,Zh (hg _),Q5 (show k≤1048576 by omega),V7 (show (-9223372036854775808:Int)≤(k:Int)+2 by omega) (by omega),V7 (show (-9223372036854775808:Int)≤(k:Int)-2 by omega) (by omega),e1,e2,c1]
   by_cases k2:Zg.Kind e=2
   ·have k3:¬Zg.Kind e=3:=by omega
    by_cases q1:p.1<0
    ·rw [Zu6 k2 q1,if_pos k2,if_pos q1]
    ·rw [ZoP k3 (fun q=>q1 q.2),if_pos k2,if_neg q1,if_neg k3,if_neg k3]
   ·rw [if_neg k2]
    by_cases k3:Zg.Kind e=3
    ·obtain ⟨hn,x,hx,hx2⟩:=h.last k3
     by_cases q1:p.1<0
     ·rw [ZuE k3 q1,if_pos k3,if_pos q1]
     ·have hL:=ZoV hn hx hp (by omega)
      rw [hx2] at hL
      have c2:(((places (Za.Design b)).length:Int)-((Zb.ZQ (Za.Design b)).length:Int)-2≤(k:Int))=(p.1=((Zb.Instances (Za.Design b)).length:Int)-1):=propext ⟨fun q=>hL.2 (by omega),fun q=>by have:=hL.1 q;omega⟩
      simp only [c2]
      by_cases q2:p.1=((Zb.Instances (Za.Design b)).length:Int)-1
      ·rw [Zu4 k3 q1 q2,if_pos k3,if_neg q1,if_pos k3,if_pos q2]
      ·rw [Zun k3 q1 q2,if_pos k3,if_neg q1,if_pos k3,if_neg q2]
    ·rw [ZoP k3 (fun q=>k2 q.1),if_neg k3,if_neg k3])
  (by simp only [QO,Int.lt_irrefl,if_false];rfl)
 exact this
end Go.Proofs.YtfndhpjedmopdaaGreatDoor
/-
  Plain laws: places, one by one; a place put on another net; an instance more, an instance less.
-/
namespace Go.Proofs.YtfndhpjedmopdaaGreatDoor
set_option linter.unusedVariables false
set_option linter.unusedSimpArgs false
open Go Go.Sx
theorem Zbe {α β:Type} {g:Nat→α→β}:∀ (l:List α) (m j:Nat),(cat (fun j n=>[g j n]) m l)[j]?=(l[j]?).map (g (m+j))
 | [],m,j=>by simp [cat]
 | x::r,m,0=>by simp [cat]
 | x::r,m,j+1=>by
  simp only [cat,List.singleton_append,List.getElem?_cons_succ,Zbe r]
  rw [show m+1+j=m+(j+1) by omega]
theorem ZaL {α β:Type} {g:Nat→α→β}:∀ (l:List α) (m:Nat),(cat (fun j n=>[g j n]) m l).length=l.length
 | [],m=>rfl
 | x::r,m=>by simp only [cat,List.singleton_append,List.length_cons,ZaL r]
theorem ZjS {α β:Type} {g:Nat→α→β} (y:α):∀ (l:List α) (m j:Nat),cat (fun j n=>[g j n]) m (l.set j y)=(cat (fun j n=>[g j n]) m l).set j (g (m+j) y)
 | [],m,j=>by simp [cat]
 | x::r,m,0=>by simp [cat]
 | x::r,m,j+1=>by
  simp only [cat,List.singleton_append,List.set_cons_succ,ZjS y r]
  rw [show m+1+j=m+(j+1) by omega]
theorem ZfQ {α β:Type} (f:Nat→α→List β) {l:List α} {i:Nat} {x:α} (hx:l[i]?=some x):cat f 0 l=cat f 0 (l.take i)++(f i x++cat f (i+1) (l.drop (i+1))):=by
 have hi:=(List.getElem?_eq_some_iff.1 hx).1
 have e:l=l.take i++(x::l.drop (i+1)):=by
  have hd:l.drop i=x::l.drop (i+1):=by
   rw [List.drop_eq_getElem_cons hi];congr 1;exact (List.getElem?_eq_some_iff.1 hx).2
  rw [←hd,List.take_append_drop]
 have e2:=congrArg (cat f 0) e
 rw [ZeL] at e2
 simp only [cat,Nat.zero_add,List.length_take] at e2
 rw [show min i l.length=i by omega] at e2
 exact e2
theorem Zxm {α β:Type} (f:Nat→α→List β) {l:List α} {i j:Nat} {x y:α} {z:β} (hx:l[i]?=some x) (hj:j<(f i x).length) (hy:f i y=(f i x).set j z):cat f 0 (l.set i y)=(cat f 0 l).set ((cat f 0 (l.take i)).length+j) z:=by
 have hi:=(List.getElem?_eq_some_iff.1 hx).1
 rw [ZfQ f hx,ZfQ f (l:=l.set i y) (x:=y) (List.getElem?_set_self hi),List.take_set,List.set_eq_of_length_le (by rw [List.length_take];omega),List.drop_set_of_lt (by omega),hy,List.set_append,if_neg (by omega),List.set_append,if_pos (by omega),Nat.add_sub_cancel_left]
abbrev Zfq (d:Zb) (i:Nat):Nat:=(cat Y6 0 ((Zb.Instances d).take i)).length
abbrev YD (d:Zb):Nat:=(cat Y6 0 (Zb.Instances d)).length
def ZdW (i:Nat) (x:Zd) (j:Nat) (n:Int):Pl:=((i:Int),(j:Int),n,decide ((j:Int)=IntKind.i64.wrap (((Zd.ZM x).length:Int)-1)),())
theorem Zkc (i:Nat) (x:Zd):Y6 i x=cat (fun j n=>[ZdW i x j n]) 0 (Zd.ZM x):=rfl
theorem ZgB {i:Nat} {x:Zd} {j:Nat} {n:Int} (h:(Zd.ZM x)[j]?=some n):(Y6 i x)[j]?=some (ZdW i x j n):=by
 rw [Zkc,Zbe,h,Nat.zero_add];rfl
theorem Vl (i:Nat) (x:Zd):(Y6 i x).length=(Zd.ZM x).length:=by rw [Zkc,ZaL]
theorem ZkM (l:List ZV) (m:Nat):cat ZcP m l=cat (fun j p=>[((-1:Int),(j:Int),ZV.Net p,decide (ZV.Dir p=1),())]) m l:=rfl
theorem ZqZ (l:List ZV) (m:Nat):(cat ZcP m l).length=l.length:=by rw [ZkM,ZaL]
theorem Zfe {d:Zb} {i j:Nat} {x:Zd} {n:Int} (hx:(Zb.Instances d)[i]?=some x) (hn:(Zd.ZM x)[j]?=some n):(places d)[Zfq d i+j]?=some (ZdW i x j n):=by
 have hj:=(List.getElem?_eq_some_iff.1 hn).1
 unfold places
 rw [ZfQ Y6 hx,List.append_assoc,List.getElem?_append_right (by unfold Zfq;omega),show Zfq d i+j-(cat Y6 0 ((Zb.Instances d).take i)).length=j by unfold Zfq;omega,List.append_assoc,List.getElem?_append_left (by rw [Vl];exact hj)]
 exact ZgB hn
theorem ZpB {d:Zb} {j:Nat} {q:ZV} (hq:(Zb.ZQ d)[j]?=some q):(places d)[YD d+j]?=some ((-1:Int),(j:Int),ZV.Net q,decide (ZV.Dir q=1),()):=by
 unfold places
 rw [List.getElem?_append_right (by unfold YD;omega),show YD d+j-(cat Y6 0 (Zb.Instances d)).length=j by unfold YD;omega,ZkM,Zbe,hq,Nat.zero_add];rfl
theorem ZaJ {d:Zb} {k:Nat} {p:Pl} (hp:(places d)[k]?=some p) :
  (∃ (i j:Nat) (x:Zd) (n:Int),(Zb.Instances d)[i]?=some x∧(Zd.ZM x)[j]?=some n∧k=Zfq d i+j∧p=ZdW i x j n)∨
  (∃ (j:Nat) (q:ZV),(Zb.ZQ d)[j]?=some q∧k=YD d+j∧p=((-1:Int),(j:Int),ZV.Net q,decide (ZV.Dir q=1),())):=by
 by_cases hk:k<YD d
 ·left
  have h1:(cat Y6 0 (Zb.Instances d))[k]?=some p:=by
   unfold places at hp
   rwa [List.getElem?_append_left (show k<(cat Y6 0 (Zb.Instances d)).length from hk)] at hp
  have find:∀ (n:Nat),n≤(Zb.Instances d).length→k<Zfq d n→∃ i,i<n∧Zfq d i≤k∧k<Zfq d (i+1):=by
   intro n
   induction n with
   | zero=>intro _ h;simp [Zfq,cat] at h
   | succ n ih =>
    intro hn hlt
    by_cases hq:k<Zfq d n
    ·obtain ⟨i,a,b,c⟩:=ih (by omega) hq
     exact ⟨i,by omega,b,c⟩
    ·exact ⟨n,by omega,by omega,hlt⟩
  obtain ⟨i,hi,hlo,hhi⟩:=find (Zb.Instances d).length (Nat.le_refl _) (by unfold Zfq;rw [List.take_length];exact hk)
  have hx:(Zb.Instances d)[i]?=some (Zb.Instances d)[i]:=List.getElem?_eq_getElem hi
  generalize (Zb.Instances d)[i]=x at hx
  have hs:Zfq d (i+1)=Zfq d i+(Zd.ZM x).length:=by
   unfold Zfq
   rw [Zf8 hx,List.length_append,Vl]
  have hj:k-Zfq d i<(Zd.ZM x).length:=by omega
  have hn:(Zd.ZM x)[k-Zfq d i]?=some (Zd.ZM x)[k-Zfq d i]:=List.getElem?_eq_getElem hj
  generalize (Zd.ZM x)[k-Zfq d i]=n at hn
  refine ⟨i,k-Zfq d i,x,n,hx,hn,by omega,?_⟩
  have h2:=Zfe hx hn
  rw [show Zfq d i+(k-Zfq d i)=k by omega,hp] at h2
  injection h2
 ·right
  have h1:(cat ZcP 0 (Zb.ZQ d))[k-YD d]?=some p:=by
   unfold places at hp
   rwa [List.getElem?_append_right (show (cat Y6 0 (Zb.Instances d)).length≤k from Nat.le_of_not_lt hk)] at hp
  rw [ZkM,Zbe,Nat.zero_add] at h1
  cases hq:(Zb.ZQ d)[k-YD d]? with
  | none=>rw [hq] at h1;cases h1
  | some q =>
   rw [hq] at h1
   injection h1 with h1
   exact ⟨k-YD d,q,hq,by omega,h1.symm⟩
theorem key_inj {d:Zb} {k k':Nat} {p p':Pl} (hp:(places d)[k]?=some p) (hp':(places d)[k']?=some p') (h1:p.1=p'.1) (h2:p.2.1=p'.2.1):k=k':=by
 rcases ZaJ hp with ⟨i,j,x,n,_,_,e,rfl⟩ | ⟨j,q,_,e,rfl⟩<;>rcases ZaJ hp' with ⟨i',j',x',n',_,_,e',rfl⟩ | ⟨j',q',_,e',rfl⟩
 ·simp only [ZdW] at h1 h2
  have:i=i':=by omega
  have:j=j':=by omega
  subst i' j'
  omega
 ·simp only [ZdW] at h1;omega
 ·simp only [ZdW] at h1;omega
 ·simp only at h2
  omega
def Zeo (x:Zd) (j:Nat) (n:Int):Zd:=(Zd.Name x,Zd.Cell x,List.set (Zd.ZM x) j n,())
def setPort (q:ZV) (n:Int):ZV:=(ZV.Name q,ZV.Dir q,n,())
def conn (d:Zb) (a b:Int) (n:Int):Zb :=
 if a<0 then (Zb.Instances d,Zb.ZM d,match (Zb.ZQ d)[b.toNat]? with
  | some q=>(Zb.ZQ d).set b.toNat (setPort q n)
  | none=>Zb.ZQ d,())
 else (match (Zb.Instances d)[a.toNat]? with
  | some x=>(Zb.Instances d).set a.toNat (Zeo x b.toNat n)
  | none=>Zb.Instances d,Zb.ZM d,Zb.ZQ d,())
theorem Zuw (i:Nat) (x:Zd) (j:Nat) (n:Int):Y6 i (Zeo x j n)=(Y6 i x).set j (ZdW i x j n):=by
 rw [Zkc,Zkc]
 show cat (fun (j':Nat) (m:Int)=>[ZdW i (Zeo x j n) j' m]) 0 (List.set (Zd.ZM x) j n)=_
 have:(fun (j':Nat) (m:Int)=>[ZdW i (Zeo x j n) j' m])=fun j' m=>[ZdW i x j' m]:=by
  funext j' m
  have hl:(Zd.ZM (Zeo x j n)).length=(Zd.ZM x).length:=List.length_set
  simp only [ZdW,hl]
 rw [this,ZjS,Nat.zero_add]
theorem Qb {d:Zb} {k:Nat} {p:Pl} (hp:(places d)[k]?=some p) (n:Int):places (conn d p.1 p.2.1 n)=(places d).set k (p.1,p.2.1,n,p.2.2.2.1,()):=by
 rcases ZaJ hp with ⟨i,j,x,m,hx,hn,e,rfl⟩ | ⟨j,q,hq,e,rfl⟩
 ·have hj:=(List.getElem?_eq_some_iff.1 hn).1
  have e1:conn d (ZdW i x j m).1 (ZdW i x j m).2.1 n=((Zb.Instances d).set i (Zeo x j n),Zb.ZM d,Zb.ZQ d,()):=by
   unfold conn
   rw [if_neg (by simp only [ZdW];omega)]
   simp only [ZdW,Int.toNat_natCast,hx]
  rw [e1]
  unfold places
  show cat Y6 0 ((Zb.Instances d).set i (Zeo x j n))++cat ZcP 0 (Zb.ZQ d)=_
  have hlt:k<(cat Y6 0 (Zb.Instances d)).length:=by
   rw [ZfQ Y6 hx,List.length_append,List.length_append,Vl]
   unfold Zfq at e
   omega
  rw [Zxm Y6 hx (j:=j) (z:=ZdW i x j n) (by rw [Vl];exact hj) (Zuw i x j n),List.set_append,if_pos hlt,e]
  rfl
 ·have e1:conn d (-1) (j:Int) n=(Zb.Instances d,Zb.ZM d,(Zb.ZQ d).set j (setPort q n),()):=by
   unfold conn
   rw [if_pos (by omega)]
   simp only [Int.toNat_natCast,hq]
  show places (conn d (-1) (j:Int) n)=_
  rw [e1]
  unfold places
  show cat Y6 0 (Zb.Instances d)++cat ZcP 0 ((Zb.ZQ d).set j (setPort q n))=_
  rw [List.set_append,if_neg (by unfold YD at e;omega),ZkM,ZjS,Nat.zero_add,e,show YD d+j-(cat Y6 0 (Zb.Instances d)).length=j by unfold YD;omega,ZkM]
  rfl
end Go.Proofs.YtfndhpjedmopdaaGreatDoor
/-
  Plain laws: the wires' sinks out of the places' nodes.
-/
namespace Go.Proofs.YtfndhpjedmopdaaGreatDoor
set_option linter.unusedVariables false
set_option linter.unusedSimpArgs false
open Go Go.Sx
def nth (pl:List Pl) (net:Int) (k:Nat):Nat:=(cat (Za2 net) 0 (pl.take k)).length
theorem ZhY {net:Int} {k:Nat} {p:Pl} (h:¬(p.2.2.1=net∧p.2.2.2.1=false)):Za2 net k p=[]:=by
 unfold Za2
 split
 ·split
  ·rfl
  ·rename_i h1 h2;exact absurd ⟨h1,by simpa using h2⟩ h
 ·rfl
theorem Zh8 {net:Int} {k:Nat} {p:Pl} (h1:p.2.2.1=net) (h2:p.2.2.2.1=false):Za2 net k p=[(k:Int)]:=by
 unfold Za2
 rw [if_pos h1,if_neg (by rw [h2];simp)]
theorem Zkk {pl:List Pl} {net:Int} {k:Nat} {p:Pl} (hp:pl[k]?=some p) (h1:p.2.2.1=net) (h2:p.2.2.2.1=false):(cat (Za2 net) 0 pl)[nth pl net k]?=some (k:Int):=by
 rw [ZfQ (Za2 net) hp,Zh8 h1 h2]
 unfold nth
 rw [List.getElem?_append_right (Nat.le_refl _),Nat.sub_self]
 rfl
theorem ZuX {pl:List Pl} {net:Int} {v:Int} (hv:v∈cat (Za2 net) 0 pl):∃ (k:Nat) (p:Pl),v=(k:Int)∧pl[k]?=some p∧p.2.2.1=net∧p.2.2.2.1=false:=by
 obtain ⟨k,p,hp,hv⟩:=ZcZ.1 hv
 by_cases h:p.2.2.1=net∧p.2.2.2.1=false
 ·rw [Zh8 h.1 h.2] at hv
  simp only [List.mem_singleton] at hv
  exact ⟨k,p,by rw [hv];simp,hp,h.1,h.2⟩
 ·rw [ZhY h] at hv
  cases hv
theorem ZtR {pl:List Pl} {net:Int} {k:Nat} {p:Pl} (hp:pl[k]?=some p) (h1:p.2.2.1=net) (h2:p.2.2.2.1=false):nth pl net k<(cat (Za2 net) 0 pl).length:=(List.getElem?_eq_some_iff.1 (Zkk hp h1 h2)).1
def Y9 (b:Za) (k:Nat):Int:=match (places (Za.Design b))[k]? with
 | some p=>if p.2.2.2.1=true then 0 else match (Za.Zy b)[p.2.2.1.toNat]? with
  | some w=>((Zo.Zfj w)[nth (places (Za.Design b)) p.2.2.1 k]?).getD 0
  | none=>0
 | none=>0
def ZeR (w:Zo) (l:List Int):Zo:=(Zo.Parent w,Zo.Res w,Zo.Cap w,l,())
def wired (pl:List Pl) (ws:List Zo) (nd:Nat→Int):List Zo:=cat (fun v w=>[ZeR w ((cat (Za2 (v:Int)) 0 pl).map (fun k=>nd k.toNat))]) 0 ws
theorem Zec (pl:List Pl) (ws:List Zo) (nd:Nat→Int) (v:Nat):(wired pl ws nd)[v]?=(ws[v]?).map (fun w=>ZeR w ((cat (Za2 (v:Int)) 0 pl).map (fun k=>nd k.toNat))):=by
 unfold wired
 rw [Zbe,Nat.zero_add]
theorem ZgQ (pl:List Pl) (ws:List Zo) (nd:Nat→Int):(wired pl ws nd).length=ws.length:=ZaL _ _
def ZfT (pl:List Pl) (ws:List Zo) (nd:Nat→Int) (k:Nat):List Zo:=wired (pl.take k) ws nd
theorem Zq6 {pl:List Pl} {ws:List Zo} {nd:Nat→Int} {k:Nat} {p:Pl} {w:Zo} (hp:pl[k]?=some p) (h2:p.2.2.2.1=false) (h0:0≤p.2.2.1) (hw:ws[p.2.2.1.toNat]?=some w) :
  (ZfT pl ws nd k)[p.2.2.1.toNat]?=some (ZeR w ((cat (Za2 p.2.2.1) 0 (pl.take k)).map (fun k=>nd k.toNat)))∧
  (ZfT pl ws nd k).set p.2.2.1.toNat (ZeR w ((cat (Za2 p.2.2.1) 0 (pl.take k)).map (fun k=>nd k.toNat)++[nd k]))=ZfT pl ws nd (k+1):=by
 have hk:=(List.getElem?_eq_some_iff.1 hp).1
 have hlt:=(List.getElem?_eq_some_iff.1 hw).1
 unfold ZfT
 constructor
 ·rw [Zec,hw,show ((p.2.2.1.toNat:Nat):Int)=p.2.2.1 by omega]
  rfl
 ·apply List.ext_getElem?
  intro v
  rw [List.getElem?_set,Zec,Zec]
  have hs:∀ net:Int,cat (Za2 net) 0 (pl.take (k+1))=cat (Za2 net) 0 (pl.take k)++Za2 net k p:=fun net=>Zf8 hp
  split
  ·rename_i e
   subst e
   rw [ZgQ,if_pos hlt,hw,hs,show ((p.2.2.1.toNat:Nat):Int)=p.2.2.1 by omega,Zh8 rfl h2,List.map_append]
   simp only [List.map_cons,List.map_nil,Int.toNat_natCast,Option.map_some]
  ·rename_i e
   congr 1
   funext w'
   congr 1
   rw [hs,ZhY (fun q=>e (by have:=q.1;omega)),List.append_nil]
theorem Zqw {pl:List Pl} {ws:List Zo} {nd:Nat→Int} {k:Nat} {p:Pl} (hp:pl[k]?=some p) (h2:p.2.2.2.1=true):ZfT pl ws nd (k+1)=ZfT pl ws nd k:=by
 unfold ZfT
 apply List.ext_getElem?
 intro v
 rw [Zec,Zec]
 congr 1
 funext w'
 congr 1
 rw [Zf8 hp,ZhY (fun q=>by rw [h2] at q;cases q.2),List.append_nil]
end Go.Proofs.YtfndhpjedmopdaaGreatDoor
/-
  Plain laws: maps by their keys.
-/
namespace Go.Proofs.YtfndhpjedmopdaaGreatDoor
set_option linter.unusedVariables false
set_option linter.unusedSimpArgs false
open Go Go.Sx
abbrev Key:Ty:=.pair (.int .i64) (.pair (.int .i64) .unit)
theorem ZpL (x y:Key.den):keq Key x y=true↔x=y:=by
 obtain ⟨a,b,⟨⟩⟩:=x
 obtain ⟨c,d,⟨⟩⟩:=y
 simp [keq]
theorem Zm7 {k v:Ty} (hk:∀ x y:k.den,keq k x y=true↔x=y) (x z:k.den) (y:v.den):∀ (d:List (k.den×v.den)),ZiU k v (ZlV k v d x y) z=if keq k z x=true then some y else ZiU k v d z
 | []=>by simp only [ZlV,ZiU]
 | e::l=>by
  by_cases h1:keq k x e.1=true
  ·simp only [ZlV,if_pos h1,ZiU]
   by_cases h2:keq k z x=true
   ·simp only [if_pos h2]
   ·have h3:¬keq k z e.1=true:=fun q=>h2 ((hk _ _).2 (((hk _ _).1 q).trans ((hk _ _).1 h1).symm))
    simp only [if_neg h2,if_neg h3]
  ·simp only [ZlV,if_neg h1,ZiU]
   by_cases h3:keq k z e.1=true
   ·have h2:¬keq k z x=true:=fun q=>h1 ((hk _ _).2 (((hk _ _).1 q).symm.trans ((hk _ _).1 h3)))
    simp only [if_pos h3,if_neg h2]
   ·simp only [if_neg h3,Zm7 hk x z y l]
theorem ZmX {v:Ty} (d:List (Key.den×v.den)) (x:Key.den) (y:v.den):ZiU Key v (ZlV Key v d x y) x=some y:=by
 rw [Zm7 ZpL,if_pos ((ZpL _ _).2 rfl)]
theorem ZlO {v:Ty} (d:List (Key.den×v.den)) {x z:Key.den} (y:v.den) (h:z≠x):ZiU Key v (ZlV Key v d x y) z=ZiU Key v d z:=by
 rw [Zm7 ZpL,if_neg (fun q=>h ((ZpL _ _).1 q))]
end Go.Proofs.YtfndhpjedmopdaaGreatDoor
/-
  Plain laws: nodes by keys against nodes by places; kept when a place is put on another net, when an instance is added or removed.
-/
namespace Go.Proofs.YtfndhpjedmopdaaGreatDoor
set_option linter.unusedVariables false
set_option linter.unusedSimpArgs false
open Go Go.Sx
abbrev Zjw:=List (Key.den×(Ty.int .i64).den)
def Zse (p:Pl):Key.den:=(p.1,p.2.1,())
def Maps (nodes:Zjw) (pl:List Pl) (nd:Nat→Int):Prop:=∀ (k:Nat) (p:Pl),pl[k]?=some p→p.2.2.2.1=false→ZiU Key (.int .i64) nodes (Zse p)=some (nd k)
theorem Zsd {d:Zb} {k k':Nat} {p p':Pl} (hp:(places d)[k]?=some p) (hp':(places d)[k']?=some p') (h:Zse p=Zse p'):k=k':=by
 unfold Zse at h
 injection h with h1 h2
 injection h2 with h2 _
 exact key_inj hp hp' h1 h2
theorem Maps.put {nodes:Zjw} {d:Zb} {nd:Nat→Int} (h:Maps nodes (places d) nd) {k0:Nat} {p0:Pl} (hp0:(places d)[k0]?=some p0) (v:Int):Maps (ZlV Key (.int .i64) nodes (Zse p0) v) (places d) (fun k=>if k=k0 then v else nd k):=by
 intro k p hp hd
 by_cases e:k=k0
 ·subst e
  rw [hp0] at hp
  injection hp with hp
  subst hp
  simp only [if_true]
  exact ZmX _ _ _
 ·simp only [if_neg e]
  rw [ZlO _ _ (fun q=>e (Zsd hp hp0 q))]
  exact h k p hp hd
theorem Maps.set {nodes:Zjw} {pl:List Pl} {nd:Nat→Int} (h:Maps nodes pl nd) {k0:Nat} {p0:Pl} (hp0:pl[k0]?=some p0) (n:Int):Maps nodes (pl.set k0 (p0.1,p0.2.1,n,p0.2.2.2.1,())) nd:=by
 intro k p hp hd
 by_cases e:k0=k
 ·subst e
  rw [List.getElem?_set_self (List.getElem?_eq_some_iff.1 hp0).1] at hp
  injection hp with hp
  subst hp
  exact h k0 p0 hp0 hd
 ·rw [List.getElem?_set_ne e] at hp
  exact h k p hp hd
def addInst (d:Zb) (x:Zd) (s:List UInt8):Zb:=(Zb.Instances d++[x],Zb.ZM d++[s],Zb.ZQ d,())
theorem ZfC (d:Zb) (x:Zd) (s:List UInt8):places (addInst d x s)=cat Y6 0 (Zb.Instances d)++Y6 (Zb.Instances d).length x++cat ZcP 0 (Zb.ZQ d):=by
 unfold places addInst
 show cat Y6 0 (Zb.Instances d++[x])++_=_
 rw [ZeL,Nat.zero_add]
 simp only [cat,List.append_nil]
theorem Zrf {d:Zb} {x:Zd} {s:List UInt8} {k:Nat} (hk:k<YD d):(places (addInst d x s))[k]?=(places d)[k]?:=by
 rw [ZfC,List.append_assoc,List.getElem?_append_left hk]
 unfold places
 rw [List.getElem?_append_left hk]
theorem add_mid {d:Zb} {x:Zd} {s:List UInt8} {j:Nat} (hj:j<(Zd.ZM x).length):(places (addInst d x s))[YD d+j]?=(Y6 (Zb.Instances d).length x)[j]?:=by
 rw [ZfC,List.append_assoc,List.getElem?_append_right (by unfold YD;omega),show YD d+j-(cat Y6 0 (Zb.Instances d)).length=j by unfold YD;omega,List.getElem?_append_left (by rw [Vl];exact hj)]
theorem Zq0 {d:Zb} {x:Zd} {s:List UInt8} {k:Nat} (hk:YD d≤k):(places (addInst d x s))[k+(Zd.ZM x).length]?=(places d)[k]?:=by
 have h1:(cat Y6 0 (Zb.Instances d)).length≤k:=hk
 rw [ZfC,List.getElem?_append_right (by rw [List.length_append,Vl];omega),List.length_append,Vl]
 unfold places
 rw [List.getElem?_append_right h1]
 congr 1
 omega
def ZrK (nd:Nat→Int) (m:Nat) (v:Int) (k:Nat):Int:=if k<m then nd k else if k=m then v else if k=m+1 then 0 else nd (k-2)
theorem Maps.add {nodes:Zjw} {d:Zb} {nd:Nat→Int} (h:Maps nodes (places d) nd) {x:Zd} {s:List UInt8} (h2:(Zd.ZM x).length=2) (hi:(Zb.Instances d).length≤1048576) (v:Int) :
  Maps (ZlV Key (.int .i64) nodes (((Zb.Instances d).length:Int),0,()) v) (places (addInst d x s)) (ZrK nd (YD d) v):=by
 intro k p hp hd
 have other:∀ (k':Nat),(places d)[k']?=some p→ZiU Key (.int .i64) (ZlV Key (.int .i64) nodes (((Zb.Instances d).length:Int),0,()) v) (Zse p)=ZiU Key (.int .i64) nodes (Zse p):=by
  intro k' hp'
  refine ZlO _ _ (fun q=>?_)
  unfold Zse at q
  injection q with q1 _
  rcases ZaJ hp' with ⟨i,j,y,n,hy,_,_,rfl⟩ | ⟨j,q',_,_,rfl⟩
  ·have:=(List.getElem?_eq_some_iff.1 hy).1
   simp only [ZdW] at q1
   omega
  ·simp only at q1
   omega
 unfold ZrK
 by_cases k1:k<YD d
 ·rw [if_pos k1]
  rw [Zrf k1] at hp
  rw [other k hp]
  exact h k p hp hd
 ·rw [if_neg k1]
  by_cases k2:k=YD d
  ·rw [if_pos k2]
   have h3:=add_mid (d:=d) (x:=x) (s:=s) (j:=0) (by omega)
   rw [Nat.add_zero,←k2,hp] at h3
   have h4:(Zd.ZM x)[0]?=some (Zd.ZM x)[0]:=List.getElem?_eq_getElem (by omega)
   rw [ZgB h4] at h3
   injection h3 with h3
   rw [h3]
   exact ZmX _ _ _
  ·rw [if_neg k2]
   by_cases k3:k=YD d+1
   ·-- it drives
    exfalso
    have h3:=add_mid (d:=d) (x:=x) (s:=s) (j:=1) (by omega)
    rw [←k3,hp] at h3
    have h4:(Zd.ZM x)[1]?=some (Zd.ZM x)[1]:=List.getElem?_eq_getElem (by omega)
    rw [ZgB h4] at h3
    injection h3 with h3
    rw [h3] at hd
    simp only [ZdW,h2,decide_eq_false_iff_not] at hd
    exact hd (by rw [V7 (by omega) (by omega)];rfl)
   ·rw [if_neg k3]
    have h3:=Zq0 (d:=d) (x:=x) (s:=s) (k:=k-2) (by omega)
    rw [h2,show k-2+2=k by omega,hp] at h3
    rw [other (k-2) h3.symm]
    exact h (k-2) p h3.symm hd
def XV (d:Zb):Zb:=((Zb.Instances d).take ((Zb.Instances d).length-1),(Zb.ZM d).take ((Zb.ZM d).length-1),Zb.ZQ d,())
theorem ZrZ {d:Zb} {x:Zd} (hn:0<(Zb.Instances d).length) (hx:(Zb.Instances d)[(Zb.Instances d).length-1]?=some x):Zb.Instances d=Zb.Instances (XV d)++[x]:=by
 show Zb.Instances d=(Zb.Instances d).take ((Zb.Instances d).length-1)++[x]
 rw [←Yt hx,show (Zb.Instances d).length-1+1=(Zb.Instances d).length by omega,List.take_length]
theorem ZiH {d:Zb} {x:Zd} {s:List UInt8} (hn:0<(Zb.Instances d).length) (hx:(Zb.Instances d)[(Zb.Instances d).length-1]?=some x):places d=places (addInst (XV d) x s):=by
 unfold places
 show cat Y6 0 (Zb.Instances d)++cat ZcP 0 (Zb.ZQ d)=cat Y6 0 (Zb.Instances (XV d)++[x])++cat ZcP 0 (Zb.ZQ d)
 rw [←ZrZ hn hx]
def ZqU (nd:Nat→Int) (m:Nat) (k:Nat):Int:=if k<m then nd k else nd (k+2)
theorem Maps.cut {nodes:Zjw} {d:Zb} {nd:Nat→Int} (h:Maps nodes (places d) nd) {x:Zd} (hn:0<(Zb.Instances d).length) (hx:(Zb.Instances d)[(Zb.Instances d).length-1]?=some x) (h2:(Zd.ZM x).length=2) :
  Maps nodes (places (XV d)) (ZqU nd (YD (XV d))):=by
 rw [ZiH (s:=[]) hn hx] at h
 intro k p hp hd
 unfold ZqU
 by_cases k1:k<YD (XV d)
 ·rw [if_pos k1]
  exact h k p (by rw [Zrf k1];exact hp) hd
 ·rw [if_neg k1]
  have h3:=Zq0 (d:=XV d) (x:=x) (s:=[]) (k:=k) (by omega)
  rw [h2,hp] at h3
  exact h (k+2) p h3 hd
end Go.Proofs.YtfndhpjedmopdaaGreatDoor
/-
  Plain laws: the map of nodes, place by place; lists of nodes.
-/
namespace Go.Proofs.YtfndhpjedmopdaaGreatDoor
set_option linter.unusedVariables false
set_option linter.unusedSimpArgs false
open Go Go.Sx
def Zbg (pl:List Pl) (f:Nat→Int):Nat→Zjw
 | 0=>[]
 | k+1=>match pl[k]? with
  | some p=>if p.2.2.2.1=true then Zbg pl f k else ZlV Key (.int .i64) (Zbg pl f k) (Zse p) (f k)
  | none=>Zbg pl f k
theorem Zl4 {pl:List Pl} {f:Nat→Int} {k:Nat} {p:Pl} (hp:pl[k]?=some p) (h:p.2.2.2.1=true):Zbg pl f (k+1)=Zbg pl f k:=by
 simp only [Zbg,hp,h,if_true]
theorem Zn8 {pl:List Pl} {f:Nat→Int} {k:Nat} {p:Pl} (hp:pl[k]?=some p) (h:¬p.2.2.2.1=true):Zbg pl f (k+1)=ZlV Key (.int .i64) (Zbg pl f k) (Zse p) (f k):=by
 simp only [Zbg,hp,h,if_false]
 rfl
theorem Zic (d:Zb) (f:Nat→Int):∀ (k:Nat),k≤(places d).length→∀ (j:Nat) (p:Pl),j<k→(places d)[j]?=some p→p.2.2.2.1=false→ZiU Key (.int .i64) (Zbg (places d) f k) (Zse p)=some (f j)
 | 0,_,j,p,hj,_,_=>by omega
 | k+1,hk,j,p,hj,hp,hd=>by
  have hq:(places d)[k]?=some (places d)[k]:=List.getElem?_eq_getElem (by omega)
  generalize (places d)[k]=q at hq
  by_cases hqd:q.2.2.2.1=true
  ·rw [Zl4 hq hqd]
   refine Zic d f k (by omega) j p ?_ hp hd
   by_cases e:j=k
   ·subst e
    rw [hp] at hq
    injection hq with hq
    subst hq
    rw [hqd] at hd;cases hd
   ·omega
  ·rw [Zn8 hq hqd]
   by_cases e:j=k
   ·subst e
    rw [hp] at hq
    injection hq with hq
    subst hq
    exact ZmX _ _ _
   ·rw [ZlO _ _ (fun h=>e (Zsd hp hq h))]
    exact Zic d f k (by omega) j p (by omega) hp hd
theorem ZiO (d:Zb) (f:Nat→Int):Maps (Zbg (places d) f (places d).length) (places d) f:=fun k p hp hd=>Zic d f _ (Nat.le_refl _) k p (List.getElem?_eq_some_iff.1 hp).1 hp hd
def ZnA (l:List Int) (k:Nat):Int:=(l[k]?).getD 0
theorem ZpA {l:List Int} {i:Nat} {v:Int} (hi:i<l.length) (k:Nat):ZnA (l.set i v) k=if k=i then v else ZnA l k:=by
 unfold ZnA
 rw [List.getElem?_set]
 by_cases e:i=k
 ·subst e;rw [if_pos rfl,if_pos hi,if_pos rfl];rfl
 ·rw [if_neg e,if_neg (fun q=>e q.symm)]
theorem ZvB {l:List Int} {m:Nat} (hm:m≤l.length) (v:Int) (k:Nat):ZnA (l.take m++[v,0]++l.drop m) k=ZrK (ZnA l) m v k:=by
 unfold ZnA ZrK
 have hl:(l.take m).length=m:=by rw [List.length_take];omega
 by_cases k1:k<m
 ·rw [if_pos k1,List.append_assoc,List.getElem?_append_left (by omega),List.getElem?_take,if_pos k1]
 ·rw [if_neg k1]
  by_cases k2:k=m
  ·rw [if_pos k2,List.append_assoc,List.getElem?_append_right (by omega),hl,k2,Nat.sub_self];rfl
  ·rw [if_neg k2]
   by_cases k3:k=m+1
   ·rw [if_pos k3,List.append_assoc,List.getElem?_append_right (by omega),hl,k3,show m+1-m=1 by omega];rfl
   ·rw [if_neg k3,List.getElem?_append_right (by rw [List.length_append,hl,List.length_cons,List.length_singleton];omega),List.length_append,hl,List.length_cons,List.length_singleton,List.getElem?_drop]
    congr 2
    omega
theorem Zwl {l:List Int} {m:Nat} (hm:m+2≤l.length) (k:Nat):ZnA (l.take m++l.drop (m+2)) k=ZqU (ZnA l) m k:=by
 unfold ZnA ZqU
 have hl:(l.take m).length=m:=by rw [List.length_take];omega
 by_cases k1:k<m
 ·rw [if_pos k1,List.getElem?_append_left (by omega),List.getElem?_take,if_pos k1]
 ·rw [if_neg k1,List.getElem?_append_right (by omega),hl,List.getElem?_drop]
  congr 2
  omega
end Go.Proofs.YtfndhpjedmopdaaGreatDoor
/-
  Plain laws: what edits make of designs, of nodes by place.
-/
namespace Go.Proofs.YtfndhpjedmopdaaGreatDoor
set_option linter.unusedVariables false
set_option linter.unusedSimpArgs false
open Go Go.Sx
theorem ZwI {d:Zb} {x:Zd} {s:List UInt8} {a b n:Int} (ha:a<((Zb.Instances d).length:Int)):conn (addInst d x s) a b n=addInst (conn d a b n) x s:=by
 unfold conn
 by_cases h:a<0
 ·rw [if_pos h,if_pos h];rfl
 ·rw [if_neg h,if_neg h]
  have hlt:a.toNat<(Zb.Instances d).length:=by omega
  have hy:=List.getElem?_eq_getElem hlt
  generalize (Zb.Instances d)[a.toNat]=y at hy
  have e:(Zb.Instances (addInst d x s))[a.toNat]?=some y:=by
   show (Zb.Instances d++[x])[a.toNat]?=some y
   rw [List.getElem?_append_left hlt];exact hy
  rw [e,hy]
  have e2:List.set (Zb.Instances (addInst d x s)) a.toNat (Zeo y b.toNat n)=(Zb.Instances d).set a.toNat (Zeo y b.toNat n)++[x]:=by
   show List.set (Zb.Instances d++[x]) a.toNat _=_
   rw [List.set_append,if_pos hlt]
  show (List.set (Zb.Instances (addInst d x s)) a.toNat (Zeo y b.toNat n),_)=_
  rw [e2]
  rfl
theorem Xf {d:Zb} {a b n:Int}:(Zb.Instances (conn d a b n)).length=(Zb.Instances d).length:=by
 unfold conn
 split
 ·rfl
 ·show (match (Zb.Instances d)[a.toNat]? with | some x=>(Zb.Instances d).set a.toNat (Zeo x b.toNat n) | none=>Zb.Instances d).length=_
  split
  ·rw [List.length_set]
  ·rfl
theorem Vp {d:Zb} {a b n:Int}:Zb.ZM (conn d a b n)=Zb.ZM d:=by
 unfold conn
 split<;>rfl
theorem ZgL {d:Zb} {a b n:Int}:(Zb.ZQ (conn d a b n)).length=(Zb.ZQ d).length:=by
 unfold conn
 split
 ·show (match (Zb.ZQ d)[b.toNat]? with | some x=>(Zb.ZQ d).set b.toNat (setPort x n) | none=>Zb.ZQ d).length=_
  split
  ·rw [List.length_set]
  ·rfl
 ·rfl
theorem ZfZ {d:Zb} {a b n:Int} {i:Nat} {y:Zd} (hy:(Zb.Instances (conn d a b n))[i]?=some y):∃ x,(Zb.Instances d)[i]?=some x∧Zd.Name y=Zd.Name x∧Zd.Cell y=Zd.Cell x∧(Zd.ZM y).length=(Zd.ZM x).length∧((i:Int)≠a→y=x)∧∀ m∈Zd.ZM y,m∈Zd.ZM x∨m=n:=by
 unfold conn at hy
 split at hy
 ·exact ⟨y,hy,rfl,rfl,rfl,fun _=>rfl,fun m hm=>.inl hm⟩
 ·rename_i h
  have hy:(match (Zb.Instances d)[a.toNat]? with | some x=>(Zb.Instances d).set a.toNat (Zeo x b.toNat n) | none=>Zb.Instances d)[i]?=some y:=hy
  split at hy
  ·rename_i x hx
   rw [List.getElem?_set] at hy
   split at hy
   ·rename_i e
    split at hy
    ·injection hy with hy
     subst hy
     refine ⟨x,by rw [←e];exact hx,rfl,rfl,List.length_set,fun q=>absurd (by omega) q,fun m hm=>?_⟩
     rcases List.mem_or_eq_of_mem_set hm with hm | hm
     ·exact .inl hm
     ·exact .inr hm
    ·cases hy
   ·exact ⟨y,hy,rfl,rfl,rfl,fun _=>rfl,fun m hm=>.inl hm⟩
  ·exact ⟨y,hy,rfl,rfl,rfl,fun _=>rfl,fun m hm=>.inl hm⟩
theorem Few.conn {d:Zb} (h:Few d) (a b n:Int):Few (conn d a b n):=by
 refine ⟨by rw [Xf];exact h.insts,by rw [ZgL];exact h.ports,fun y hy=>?_⟩
 obtain ⟨i,hi⟩:=List.getElem?_of_mem hy
 obtain ⟨x,hx,_,_,hl,_⟩:=ZfZ hi
 rw [hl]
 exact h.nets x (List.mem_of_getElem? hx)
theorem Few.add {d:Zb} (h:Few d) (h13:(Zb.Instances d).length≤13) {x:Zd} (hx:(Zd.ZM x).length≤5) (s:List UInt8):Few (addInst d x s):=by
 refine ⟨?_,h.ports,fun y hy=>?_⟩
 ·show (Zb.Instances d++[x]).length≤14
  rw [List.length_append,List.length_singleton];omega
 ·rcases List.mem_append.1 (show y∈Zb.Instances d++[x] from hy) with hy | hy
  ·exact h.nets y hy
  ·rw [List.mem_singleton] at hy
   subst hy;exact hx
theorem Few.cut {d:Zb} (h:Few d):Few (XV d):=by
 refine ⟨?_,h.ports,fun y hy=>h.nets y (List.mem_of_mem_take (show y∈(Zb.Instances d).take _ from hy))⟩
 show ((Zb.Instances d).take _).length≤14
 rw [List.length_take]
 have:=h.insts
 omega
def Zja (pl:List Pl) (n:Nat):Prop:=∀ p∈pl,p.2.2.2.1=false→0≤p.2.2.1∧p.2.2.1<(n:Int)
theorem Zja.set {pl:List Pl} {n:Nat} (h:Zja pl n) {k0:Nat} {p0:Pl} {m:Int} (h0:0≤m) (h1:m<(n:Int)):Zja (pl.set k0 (p0.1,p0.2.1,m,p0.2.2.2.1,())) n:=by
 intro p hp hd
 rcases List.mem_or_eq_of_mem_set hp with hp | hp
 ·exact h p hp hd
 ·subst hp;exact ⟨h0,h1⟩
def swapped (b:Za) (i:Int) (c:Int):Za:=(Za.Library b,(match (Zb.Instances (Za.Design b))[i.toNat]? with
 | some x=>(Zb.Instances (Za.Design b)).set i.toNat (Zd.Name x,c,Zd.ZM x,())
 | none=>Zb.Instances (Za.Design b),Zb.ZM (Za.Design b),Zb.ZQ (Za.Design b),()),Za.Zy b,())
def mvD (b:Za) (p:Pl) (n:Int):Zb:=conn (Za.Design b) p.1 p.2.1 n
def mvN (b:Za) (k:Nat) (v:Int) (j:Nat):Int:=if j=k then v else Y9 b j
def moved (b:Za) (k:Nat) (p:Pl) (n v:Int):Za:=(Za.Library b,mvD b p n,wired (places (mvD b p n)) (Za.Zy b) (mvN b k v),())
abbrev Zs3:Zo:=([-1],[0],[0],[],())
def Zo3 (b:Za) (e:Zg) (p:Pl):Zd:=(Zg.Name e,Zg.Cell e,[p.2.2.1,((Zb.ZM (Za.Design b)).length:Int)],())
def Zqo (b:Za) (e:Zg) (p:Pl):Zb:=addInst (conn (Za.Design b) p.1 p.2.1 ((Zb.ZM (Za.Design b)).length:Int)) (Zo3 b e p) (Zg.Name e)
def Zso (b:Za) (k:Nat):Nat:=if k<YD (Za.Design b) then k else k+2
def Zzj (b:Za) (k:Nat) (j:Nat):Int:=if j=Zso b k then 0 else ZrK (Y9 b) (YD (Za.Design b)) (Y9 b k) j
def buffered (b:Za) (e:Zg) (k:Nat) (p:Pl):Za:=(Za.Library b,Zqo b e p,wired (places (Zqo b e p)) (Za.Zy b++[Zs3]) (Zzj b k),())
def unD (b:Za) (p:Pl) (m:Int):Zb:=XV (conn (Za.Design b) p.1 p.2.1 m)
def unN (b:Za) (k:Nat):Nat→Int:=ZqU (mvN b k (Y9 b (YD (Za.Design b)-2))) (YD (Za.Design b)-2)
def Zk0 (b:Za) (k:Nat) (p:Pl) (m:Int):Za:=(Za.Library b,unD b p m,wired (places (unD b p m)) ((Za.Zy b).take ((Za.Zy b).length-1)) (unN b k),())
def Zw2 (b:Za) (n:Int) (w:Zo):Za:=(Za.Library b,Za.Design b,(Za.Zy b).set n.toNat w,())
end Go.Proofs.YtfndhpjedmopdaaGreatDoor
/-
  Plain laws: clones are what they are made of.
-/
namespace Go.Proofs.YtfndhpjedmopdaaGreatDoor
set_option linter.unusedVariables false
set_option linter.unusedSimpArgs false
open Go Go.Sx
theorem ZbR {α:Type} {l:List α} {k:Nat} {x:α} (hx:l[k]?=some x):l.set k x=l:=by
 apply List.ext_getElem?
 intro j
 rw [List.getElem?_set]
 split
 ·rename_i e;subst e
  rw [if_pos (List.getElem?_eq_some_iff.1 hx).1,hx]
 ·rfl
theorem ZcK (l:List Int) (h:l.length≤1048576):ZK l=some l:=by
 unfold ZK
 rw [Zh (by rw [List.length_nil];omega)];rfl
theorem ZdP (l:List Int) (h:l.length≤1048576):Xg l=some l:=by
 unfold Xg
 rw [Zh (by rw [List.length_nil];omega)];rfl
theorem Zgd (w:Zo) (hw:sm X6 w):Ju w=some w:=by
 obtain ⟨a1,a2,a3,a4⟩:=Zjn hw
 unfold Ju
 rw [ZcK _ (Zm a1),Option.bind_some,ZcK _ (Zm a2),Option.bind_some,ZcK _ (Zm a3),Option.bind_some,ZcK _ (Zm a4),Option.bind_some]
theorem Zh5 (w:Zo) (hw:sm X6 w):JH w=some w:=by
 obtain ⟨a1,a2,a3,a4⟩:=Zjn hw
 unfold JH
 rw [ZdP _ (Zm a1),Option.bind_some,ZdP _ (Zm a2),Option.bind_some,ZdP _ (Zm a3),Option.bind_some,ZdP _ (Zm a4),Option.bind_some]
theorem Zi4 (d:Zb) (hd:sm Yn d):Jh d=some d:=by
 obtain ⟨s1,s2,s3⟩:=Zcm hd
 have l1:=Zm s1
 have l2:=Zm s2
 have l3:=Zm s3
 unfold Jh Yq Xr YQ
 rw [Zh (by rw [List.length_nil];omega),Option.bind_some,Zh (by rw [List.length_nil];omega),Option.bind_some,Zh (by rw [List.length_nil];omega),Option.bind_some]
 simp only [List.nil_append]
 refine YF (l:=Zb.Instances d) (fun k=>((k:Int),(Zb.Instances d,(k:Int)),())) (fun k x hx hk=>?_) ?_
 ·have hx2:=ZcK (Zd.ZM x) (Zm (Zky (ZaM s1 hx)).2)
  simp only [Qy,show (k:Int)<((Zb.Instances d).length:Int) by omega,if_true,Zu,hx,Option.bind_some,Int.le_refl,hx2,Zh trivial,Q5 (show k≤1048576 by omega),Int.toNat_natCast]
  rw [show List.set (Zb.Instances d) k (Zd.Name x,Zd.Cell x,Zd.ZM x,())=Zb.Instances d from ZbR hx]
  rfl
 ·simp only [Qy,Int.lt_irrefl,if_false,Zh trivial]
theorem ZfH (l:List Zx) (hl:sm (.sl YP) l):VL l=some l:=by
 have h1:=Zm hl
 unfold VL
 have:=YF (l:=l) (fun k=>(l.take k,(k:Int),())) (step:=fun v=>XT l v.1 v.2.1) (good:=l) (fun k x hx hk=>by
  have hs:sm YP x:=ZaM hl hx
  have e1:=ZcK (Zx.Zgn x) (Zm (t:=.int .i64) hs.1)
  have e2:=ZcK (Zx.Loads x) (Zm (t:=.int .i64) hs.2.1)
  have e3:=ZcK (Zx.Values x) (Zm (t:=.int .i64) hs.2.2.1)
  have hg:((l.take k).length+[(Zx.Zgn x,Zx.Loads x,Zx.Values x,())].length)*72≤140737488355328:=by rw [List.length_take,List.length_singleton];omega
  simp only [XT,show (k:Int)<(l.length:Int) by omega,if_true,Zu,hx,Option.bind_some,e1,e2,e3,Zh hg,Q5 (show k≤1048576 by omega)]
  rw [Yt hx]) (by
  simp only [XT,Int.lt_irrefl,if_false,List.take_length])
 simpa using this
theorem Zi0 (a:Zk) (ha:sm YH a):Jl a=some a:=by
 have hc:=ZoJ ha
 have h1:=Zm hc
 unfold Jl
 have:=YF (l:=Zk.Cells a) (fun k=>((k:Int),(Zk.Cells a).take k,())) (step:=fun v=>XC a v.1 v.2.1) (good:=a) (fun k x hx hk=>by
  have hs:sm X3 x:=ZaM hc hx
  have p1:sm (.sl ZdO) (Zi.Yx x):=hs.2.2.1
  have p2:sm (.sl Zfc) (Zi.ZaZ x):=hs.2.2.2.1
  have p3:sm (.sl (.int .i64)) (Zi.Truth x):=hs.2.2.2.2.1
  have l1:=Zm p1
  have l2:=Zm p2
  have l3:=Zm p3
  simp only [XC,show (k:Int)<((Zk.Cells a).length:Int) by omega,if_true,Zu,hx,Option.bind_some]
  unfold Y2 Y3
  rw [Zh (by rw [List.length_nil];omega),Option.bind_some,ZcK _ l3,Option.bind_some,Zh (by rw [List.length_nil];omega),Option.bind_some]
  simp only [List.nil_append]
  have hg:∀ y:Zi,(((Zk.Cells a).take k).length+[y].length)*112≤140737488355328:=fun y=>by rw [List.length_take,List.length_singleton];omega
  refine YF (l:=Zi.ZaZ x) (fun j=>((j:Int),(Zi.ZaZ x,(j:Int)),())) (fun j y hy hj=>?_) ?_
  ·obtain ⟨q1,q2⟩:=ZwP (ZaM p2 hy)
   simp only [QH,show (j:Int)<((Zi.ZaZ x).length:Int) by omega,if_true,Zu,hy,Option.bind_some,Int.le_refl,ZfH _ q1,ZfH _ q2,Zh trivial,Q5 (show j≤1048576 by omega),Int.toNat_natCast]
   rw [show List.set (Zi.ZaZ x) j (ZJ.Kind y,ZJ.From y,ZJ.To y,ZJ.Zcl y,ZJ.Delay y,ZJ.ZbU y,())=Zi.ZaZ x from ZbR hy]
   rfl
  ·simp only [QH,Int.lt_irrefl,if_false,Zh trivial,Zh (hg _),Q5 (show k≤1048576 by omega)]
   rw [Yt hx]) (by
  simp only [XC,Int.lt_irrefl,if_false,List.take_length])
 simpa using this
theorem ZjD (b:Za) (hb:sm YG b):J7 b=some b:=by
 obtain ⟨b1,b2,b3⟩:=Zbm hb
 have h1:=Zm b3
 unfold J7
 rw [Zi0 _ b1,Option.bind_some,Zi4 _ b2,Option.bind_some]
 have:=YF (l:=Za.Zy b) (fun k=>((k:Int),(Za.Zy b).take k,())) (step:=fun v=>XR b (Za.Library b) (Za.Design b) v.1 v.2.1) (good:=b) (fun k x hx hk=>by
  have hg:(((Za.Zy b).take k).length+[x].length)*96≤140737488355328:=by rw [List.length_take,List.length_singleton];omega
  simp only [XR,show (k:Int)<((Za.Zy b).length:Int) by omega,if_true,Zu,hx,Option.bind_some,Zgd x (ZaM b3 hx),Zh hg,Q5 (show k≤1048576 by omega)]
  rw [Yt hx]) (by
  simp only [XR,Int.lt_irrefl,if_false,List.take_length])
 simpa using this
end Go.Proofs.YtfndhpjedmopdaaGreatDoor
/-
  Plain laws: the nodes of all sinks, by key (program) and by place (reference).
-/
namespace Go.Proofs.YtfndhpjedmopdaaGreatDoor
set_option linter.unusedVariables false
set_option linter.unusedSimpArgs false
open Go Go.Sx
theorem ZxE {pl:List Pl} {k:Nat} {p:Pl} (hp:pl[k]?=some p) (h2:p.2.2.2.1=false):nth pl p.2.2.1 (k+1)=nth pl p.2.2.1 k+1:=by
 unfold nth
 rw [Zf8 hp,Zh8 rfl h2,List.length_append,List.length_singleton]
theorem ZwW {pl:List Pl} {net:Int} {k:Nat} {p:Pl} (hp:pl[k]?=some p) (h:¬(p.2.2.1=net∧p.2.2.2.1=false)):nth pl net (k+1)=nth pl net k:=by
 unfold nth
 rw [Zf8 hp,ZhY h,List.append_nil]
def seen (pl:List Pl) (n k:Nat):List Int:=(List.range n).map (fun (v:Nat)=>((nth pl (v:Int) k:Nat):Int))
theorem ZmL {pl:List Pl} {n k v:Nat} (hv:v<n):(seen pl n k)[v]?=some ((nth pl (v:Int) k:Nat):Int):=by
 unfold seen
 rw [List.getElem?_map,List.getElem?_range hv];rfl
theorem ZuY (pl:List Pl) (n:Nat):List.replicate n (0:Int)=seen pl n 0:=by
 apply List.ext_getElem?
 intro v
 by_cases hv:v<n
 ·rw [ZmL hv,List.getElem?_replicate,if_pos hv]
  unfold nth
  simp [cat]
 ·rw [List.getElem?_eq_none (by simp;omega),List.getElem?_eq_none (by unfold seen;simp;omega)]
theorem Zwb {pl:List Pl} {n k:Nat} {p:Pl} (hp:pl[k]?=some p) (h2:p.2.2.2.1=false) (h0:0≤p.2.2.1) (h1:p.2.2.1<(n:Int)):(seen pl n k).set p.2.2.1.toNat (((nth pl p.2.2.1 k+1:Nat):Int))=seen pl n (k+1):=by
 apply List.ext_getElem?
 intro v
 by_cases hv:v<n
 ·rw [List.getElem?_set,ZmL hv,ZmL hv]
  split
  ·rename_i e
   rw [if_pos (by unfold seen;simp;omega)]
   subst e
   rw [show ((p.2.2.1.toNat:Nat):Int)=p.2.2.1 by omega,ZxE hp h2]
  ·rename_i e
   rw [ZwW hp (fun q=>e (by have:=q.1;omega))]
 ·rw [List.getElem?_eq_none (by unfold seen;simp;omega),List.getElem?_eq_none (by unfold seen;simp;omega)]
theorem Zw9 {pl:List Pl} {n k:Nat} {p:Pl} (hp:pl[k]?=some p) (h2:p.2.2.2.1=true):seen pl n (k+1)=seen pl n k:=by
 unfold seen
 apply List.map_congr_left
 intro v _
 rw [ZwW hp (fun q=>by rw [h2] at q;cases q.2)]
theorem Zr9 {b:Za} (h:ZaN b) {k:Nat} {p:Pl} (hp:(places (Za.Design b))[k]?=some p) (h2:p.2.2.2.1=false) :
  ∃ w,atI (Za.Zy b) p.2.2.1=some w∧(Za.Zy b)[p.2.2.1.toNat]?=some w∧atI (Zo.Zfj w) ((nth (places (Za.Design b)) p.2.2.1 k:Nat):Int)=some (Y9 b k)∧ZbV w ((sinks (Za.Design b) p.2.2.1).length:Int):=by
 have hn:=Zaw h.ok.1 (List.mem_of_getElem? hp)
 obtain ⟨w,hw1,hw2,hw3⟩:=ZkW h hn
 have hlt:=ZtR hp rfl h2
 have hs:=hw3.2.2.2.1
 have hlt2:nth (places (Za.Design b)) p.2.2.1 k<(Zo.Zfj w).length:=by
  have:(sinks (Za.Design b) p.2.2.1).length=(cat (Za2 p.2.2.1) 0 (places (Za.Design b))).length:=rfl
  omega
 refine ⟨w,hw2,hw1,?_,hw3⟩
 rw [Zu]
 have e:Y9 b k=((Zo.Zfj w)[nth (places (Za.Design b)) p.2.2.1 k]?).getD 0:=by
  unfold Y9
  simp only [hp,h2,hw1]
  rfl
 rw [e,List.getElem?_eq_getElem hlt2]
 rfl
theorem ZfV {b:Za} (h:ZaN b):XQ b=some (Zbg (places (Za.Design b)) (Y9 b) (places (Za.Design b)).length):=by
 have hf:=h.ok.1.few
 have hpl:=YK hf
 have h30:=h.ok.1.2.1.2.1
 have hwn:=h.ok.2.1
 have hwl:(Za.Zy b).length≤1048576:=Zm (Zbm h.sm).2.2
 unfold XQ
 rw [Zh (by omega),Zh (by omega),Zh (by omega),Zh (by omega),Ye _ hf,Option.bind_some,Int.toNat_natCast,ZuY (places (Za.Design b))]
 refine YF (l:=places (Za.Design b)) (fun k=>((k:Int),Zbg (places (Za.Design b)) (Y9 b) k,seen (places (Za.Design b)) (Za.Zy b).length k,())) (fun k p hp hk=>?_) ?_
 ·simp only [Qi,show (k:Int)<((places (Za.Design b)).length:Int) by omega,if_true,Zu,hp,Option.bind_some,Q5 (show k≤1048576 by omega)]
  have e1:ZR.drives p=p.2.2.2.1:=rfl
  have e2:ZR.net p=p.2.2.1:=rfl
  by_cases h2:p.2.2.2.1=true
  ·rw [e1,if_pos h2,Zl4 hp h2,Zw9 hp h2]
  ·have h2':p.2.2.2.1=false:=by simpa using h2
   obtain ⟨w,hw1,hw2,hw3,hw4⟩:=Zr9 h hp h2'
   have hn:=Zaw h.ok.1 (List.mem_of_getElem? hp)
   have hv:p.2.2.1<((Za.Zy b).length:Int):=by have:=hn.2;omega
   have hs:atI (seen (places (Za.Design b)) (Za.Zy b).length k) p.2.2.1=some ((nth (places (Za.Design b)) p.2.2.1 k:Nat):Int):=by
    refine Qu hn.1 ?_
    rw [ZmL (by have:=hn.1;omega),show ((p.2.2.1.toNat:Nat):Int)=p.2.2.1 by have:=hn.1;omega]
   have hlt:=ZtR hp rfl h2'
   have hlc:=Zfi p.2.2.1 (places (Za.Design b)) 0
   rw [e1,if_neg h2,e2,hw1,Option.bind_some,hs,Option.bind_some,hw3,Option.bind_some,Q5 (show nth (places (Za.Design b)) p.2.2.1 k≤1048576 by omega),Zwb hp h2' hn.1 hv,Zn8 hp h2]
   rfl
 ·simp only [Qi,Int.lt_irrefl,if_false]
end Go.Proofs.YtfndhpjedmopdaaGreatDoor
/-
  Plain laws: the reference's nodes by place.
-/
namespace Go.Proofs.YtfndhpjedmopdaaGreatDoor
set_option linter.unusedVariables false
set_option linter.unusedSimpArgs false
open Go Go.Sx
theorem Zsq {pl:List Pl} {net:Int}:∀ (n:Nat),n≤pl.length→∀ (i:Nat) (x:Int),(cat (Za2 net) 0 (pl.take n))[i]?=some x→
  ∃ (k:Nat) (p:Pl),k<n∧pl[k]?=some p∧x=(k:Int)∧p.2.2.1=net∧p.2.2.2.1=false∧nth pl net k=i
 | 0,_,i,x,h=>by simp [cat] at h
 | n+1,hn,i,x,h=>by
  have hp:pl[n]?=some pl[n]:=List.getElem?_eq_getElem (by omega)
  generalize pl[n]=p at hp
  rw [Zf8 hp] at h
  by_cases hi:i<(cat (Za2 net) 0 (pl.take n)).length
  ·rw [List.getElem?_append_left hi] at h
   obtain ⟨k,q,a,r⟩:=Zsq n (by omega) i x h
   exact ⟨k,q,by omega,r⟩
  ·rw [List.getElem?_append_right (by omega)] at h
   by_cases hs:p.2.2.1=net∧p.2.2.2.1=false
   ·rw [Zh8 hs.1 hs.2] at h
    have h0:=(List.getElem?_eq_some_iff.1 h).1
    rw [List.length_singleton] at h0
    rw [show i-(cat (Za2 net) 0 (pl.take n)).length=0 by omega] at h
    injection h with h
    exact ⟨n,p,by omega,hp,h.symm,hs.1,hs.2,by unfold nth;omega⟩
   ·rw [ZhY hs] at h
    cases h
theorem Zps {pl:List Pl} {net:Int} {i:Nat} {x:Int} (h:(cat (Za2 net) 0 pl)[i]?=some x) :
  ∃ (k:Nat) (p:Pl),pl[k]?=some p∧x=(k:Int)∧p.2.2.1=net∧p.2.2.2.1=false∧nth pl net k=i:=by
 obtain ⟨k,p,_,r⟩:=Zsq (pl:=pl) (net:=net) pl.length (Nat.le_refl _) i x (by rw [List.take_length];exact h)
 exact ⟨k,p,r⟩
def filled (b:Za) (P:Nat→Pl→Bool):List Int:=cat (fun k p=>[if P k p=true then Y9 b k else 0]) 0 (places (Za.Design b))
theorem Zcr (b:Za) (P:Nat→Pl→Bool) (k:Nat):(filled b P)[k]?=((places (Za.Design b))[k]?).map (fun p=>if P k p=true then Y9 b k else 0):=by
 unfold filled
 rw [Zbe,Nat.zero_add]
theorem Zla (b:Za) (P:Nat→Pl→Bool):(filled b P).length=(places (Za.Design b)).length:=ZaL _ _
theorem ZlX {b:Za} {P Q:Nat→Pl→Bool} (h:∀ (k:Nat) (p:Pl),(places (Za.Design b))[k]?=some p→P k p=Q k p):filled b P=filled b Q:=by
 apply List.ext_getElem?
 intro k
 rw [Zcr,Zcr]
 cases hp:(places (Za.Design b))[k]? with
 | none=>rfl
 | some p=>simp only [Option.map_some,h k p hp]
def Zvp (v:Nat) (k:Nat) (p:Pl):Bool:=decide (p.2.2.1<(v:Int))&&!p.2.2.2.1
def pIn (b:Za) (v i:Nat) (k:Nat) (p:Pl):Bool:=!p.2.2.2.1&&(decide (p.2.2.1<(v:Int))||(decide (p.2.2.1=(v:Int))&&decide (nth (places (Za.Design b)) (v:Int) k<i)))
def Za1 (b:Za):List Int:=filled b (fun _ _=>true)
theorem Ziq {b:Za} {k:Nat} (hk:k<(places (Za.Design b)).length):(Za1 b)[k]?=some (Y9 b k):=by
 unfold Za1
 rw [Zcr,List.getElem?_eq_getElem hk]
 rfl
theorem ZaY (b:Za):(Za1 b).length=(places (Za.Design b)).length:=Zla _ _
theorem Zfn {b:Za} (h:ZaN b):ZaD b=some (Za1 b):=by
 have hf:=h.ok.1.few
 have hpl:=YK hf
 have h30:=h.ok.1.2.1.2.1
 have hwn:=h.ok.2.1
 have hwl:(Za.Zy b).length≤1048576:=Zm (Zbm h.sm).2.2
 have first:List.replicate (places (Za.Design b)).length (0:Int)=filled b (Zvp 0):=by
  apply List.ext_getElem?
  intro k
  rw [Zcr,List.getElem?_replicate]
  split
  ·rename_i hk
   have hp:=List.getElem?_eq_getElem hk
   rw [hp]
   have hn:=(Zaw h.ok.1 (List.mem_of_getElem? hp)).1
   rw [Option.map_some,if_neg]
   unfold Zvp
   simp only [Bool.and_eq_true,decide_eq_true_eq,not_and]
   intro q;omega
  ·rw [List.getElem?_eq_none (by omega)];rfl
 have last:filled b (Zvp (Za.Zy b).length)=Za1 b:=by
  apply List.ext_getElem?
  intro k
  unfold Za1
  rw [Zcr,Zcr]
  cases hp:(places (Za.Design b))[k]? with
  | none=>rfl
  | some p =>
   have hn:=(Zaw h.ok.1 (List.mem_of_getElem? hp)).2
   simp only [Option.map_some,if_true]
   by_cases h2:p.2.2.2.1=true
   ·have:Y9 b k=0:=by unfold Y9;simp only [hp,h2,if_true]
    simp only [this,ite_self]
   ·rw [if_pos]
    unfold Zvp
    simp only [Bool.and_eq_true,decide_eq_true_eq,Bool.not_eq_true']
    exact ⟨by omega,by simpa using h2⟩
 unfold ZaD
 rw [Xy _ hf,Option.bind_some,Zh (by omega),Zh (by omega),Zh (by omega),Zh (by omega),Int.toNat_natCast,first]
 refine YF (l:=Za.Zy b) (fun v=>((v:Int),filled b (Zvp v),())) (fun v w hw hv=>?_) ?_
 ·simp only [JL,show (v:Int)<((Za.Zy b).length:Int) by omega,if_true,J8 _ _ hf,Option.bind_some]
  have e0:filled b (Zvp v)=filled b (pIn b v 0):=ZlX fun k p _=>by unfold Zvp pIn;simp [Bool.and_comm]
  have e1:filled b (pIn b v (sinks (Za.Design b) (v:Int)).length)=filled b (Zvp (v+1)):=ZlX fun k p hp=>by
   unfold Zvp pIn
   by_cases h2:p.2.2.2.1=true
   ·simp [h2]
   ·have h2':p.2.2.2.1=false:=by simpa using h2
    rw [h2',Bool.not_false,Bool.true_and,Bool.and_true]
    by_cases hq:p.2.2.1=(v:Int)
    ·have hlt:nth (places (Za.Design b)) (v:Int) k<(sinks (Za.Design b) (v:Int)).length:=ZtR hp hq h2'
     rw [decide_eq_true hlt,decide_eq_true hq,decide_eq_true (show p.2.2.1<((v+1:Nat):Int) by omega)]
     simp
    ·rw [decide_eq_false hq,Bool.false_and,Bool.or_false]
     exact decide_eq_decide.2 (by omega)
  rw [e0]
  refine YF (l:=sinks (Za.Design b) (v:Int)) (fun i=>((i:Int),filled b (pIn b v i),())) (fun i x hx hi=>?_) ?_
  ·obtain ⟨k,p,hp,ex,hn,h2,hnth⟩:=Zps (pl:=places (Za.Design b)) hx
   obtain ⟨w',hw1,hw2,hw3,hw4⟩:=Zr9 h hp h2
   have hk:=(List.getElem?_eq_some_iff.1 hp).1
   have hlc:=Zfi (v:Int) (places (Za.Design b)) 0
   have hlc2:(sinks (Za.Design b) (v:Int)).length≤(places (Za.Design b)).length:=hlc
   rw [hn,hnth] at hw3
   rw [hn] at hw1
   have hfk:(filled b (pIn b v i))[k]?=some ((filled b (pIn b v i))[k]'(by rw [Zla];exact hk)):=List.getElem?_eq_getElem _
   simp only [JG,show (i:Int)<((sinks (Za.Design b) (v:Int)).length:Int) by omega,if_true,Zu,hx,Option.bind_some,←Zu (Za.Zy b),hw1,←Zu (Zo.Zfj w'),hw3,Q5 (show i≤1048576 by omega)]
   subst ex
   rw [Zu,hfk,Option.bind_some,Int.toNat_natCast]
   have:List.set (filled b (pIn b v i)) k (Y9 b k)=filled b (pIn b v (i+1)):=by
    apply List.ext_getElem?
    intro j
    rw [List.getElem?_set,Zla]
    split
    ·rename_i e
     subst e
     rw [Zcr,hp,Option.map_some,if_pos]
     unfold pIn
     rw [h2,hnth]
     simp [hn]
    ·rename_i e
     rw [Zcr,Zcr]
     cases hq:(places (Za.Design b))[j]? with
     | none=>rfl
     | some q =>
      have:pIn b v i j q=pIn b v (i+1) j q:=by
       unfold pIn
       by_cases h3:q.2.2.2.1=true
       ·simp [h3]
       ·have h3':q.2.2.2.1=false:=by simpa using h3
        by_cases hqn:q.2.2.1=(v:Int)
        ·have hne:nth (places (Za.Design b)) (v:Int) j≠i:=by
          intro hh
          have h4:=Zkk hq hqn h3'
          rw [hh] at h4
          have h5:(cat (Za2 (v:Int)) 0 (places (Za.Design b)))[i]?=some (k:Int):=hx
          rw [h5] at h4
          injection h4 with h4
          omega
         rw [show decide (nth (places (Za.Design b)) (v:Int) j<i)=decide (nth (places (Za.Design b)) (v:Int) j<i+1) from decide_eq_decide.2 (by omega)]
        ·rw [decide_eq_false hqn,Bool.false_and,Bool.false_and]
      rw [Option.map_some,Option.map_some,this]
   rw [this]
  ·simp only [JG,Int.lt_irrefl,if_false,Q5 (show v≤1048576 by omega),e1]
 ·simp only [JL,Int.lt_irrefl,if_false,last]
end Go.Proofs.YtfndhpjedmopdaaGreatDoor
/-
  Plain laws: sinks put in anew, a place put on another net, a buffer taken away.
-/
namespace Go.Proofs.YtfndhpjedmopdaaGreatDoor
set_option linter.unusedVariables false
set_option linter.unusedSimpArgs false
open Go Go.Sx
def wip (ws:List Zo) (k:Nat):List Zo:=cat (fun j w=>[if j<k then ZeR w [] else w]) 0 ws
theorem Zlz (ws:List Zo) (k v:Nat):(wip ws k)[v]?=(ws[v]?).map (fun w=>if v<k then ZeR w [] else w):=by
 unfold wip
 rw [Zbe,Nat.zero_add]
theorem Zxk (ws:List Zo) (k:Nat):(wip ws k).length=ws.length:=ZaL _ _
theorem Zvy (ws:List Zo):wip ws 0=ws:=by
 apply List.ext_getElem?
 intro v
 rw [Zlz]
 simp
theorem Zxq (pl:List Pl) (ws:List Zo) (nd:Nat→Int):wip ws ws.length=ZfT pl ws nd 0:=by
 apply List.ext_getElem?
 intro v
 unfold ZfT
 rw [Zlz,Zec]
 cases hv:ws[v]? with
 | none=>rfl
 | some w =>
  have:=(List.getElem?_eq_some_iff.1 hv).1
  simp only [Option.map_some,if_pos this,List.take_zero,cat,List.map_nil]
theorem ZwM {ws:List Zo} {k:Nat} {w:Zo} (hw:ws[k]?=some w):(wip ws k)[k]?=some w∧(wip ws k).set k (ZeR w [])=wip ws (k+1):=by
 constructor
 ·rw [Zlz,hw];simp
 ·apply List.ext_getElem?
  intro v
  rw [List.getElem?_set,Zxk]
  split
  ·rename_i e
   subst e
   rw [if_pos (List.getElem?_eq_some_iff.1 hw).1,Zlz,hw,Option.map_some,if_pos (by omega)]
  ·rw [Zlz,Zlz]
   congr 1
   funext w'
   by_cases h:v<k
   ·rw [if_pos h,if_pos (by omega)]
   ·rw [if_neg h,if_neg (by omega)]
theorem ZfO {b:Za} {nodes:Zjw} {nd:Nat→Int} (hf:Few (Za.Design b)) (hm:Maps nodes (places (Za.Design b)) nd) (hn:Zja (places (Za.Design b)) (Za.Zy b).length) (hw:(Za.Zy b).length≤1048576) :
  QA b nodes=some (Za.Library b,Za.Design b,wired (places (Za.Design b)) (Za.Zy b) nd,()):=by
 have hpl:=YK hf
 unfold QA
 have:=YF (l:=Za.Zy b) (fun k=>((k:Int),wip (Za.Zy b) k,())) (step:=fun v=>Vz b nodes v.1 v.2.1) (good:=(Za.Library b,Za.Design b,wired (places (Za.Design b)) (Za.Zy b) nd,())) (fun k w hk hlt=>by
  obtain ⟨a1,a2⟩:=ZwM hk
  simp only [Vz,show (k:Int)<((Za.Zy b).length:Int) by omega,if_true,Zu,a1,Option.bind_some,Q5 (show k≤1048576 by omega),Int.toNat_natCast]
  rw [←a2]
  rfl) (by
  simp only [Vz,Int.lt_irrefl,if_false,Ye _ hf,Option.bind_some,Zxq (places (Za.Design b)) (Za.Zy b) nd]
  refine YF (l:=places (Za.Design b)) (fun k=>((k:Int),ZfT (places (Za.Design b)) (Za.Zy b) nd k,())) (fun k p hp hk=>?_) ?_
  ·simp only [ZaX,show (k:Int)<((places (Za.Design b)).length:Int) by omega,if_true,Zu,hp,Option.bind_some,Q5 (show k≤1048576 by omega)]
   have e1:ZR.drives p=p.2.2.2.1:=rfl
   have e2:ZR.net p=p.2.2.1:=rfl
   have e3:ZiU Zb7 (Ty.int IntKind.i64) nodes (ZR.instance p,ZR.pin p,())=ZiU Key (.int .i64) nodes (Zse p):=rfl
   by_cases h2:p.2.2.2.1=true
   ·rw [e1,if_pos h2,Zqw hp h2]
   ·have h2':p.2.2.2.1=false:=by simpa using h2
    obtain ⟨h0,h1⟩:=hn p (List.mem_of_getElem? hp) h2'
    have hwk:(Za.Zy b)[p.2.2.1.toNat]?=some ((Za.Zy b)[p.2.2.1.toNat]'(by omega)):=List.getElem?_eq_getElem (by omega)
    obtain ⟨w1,w2⟩:=Zq6 (nd:=nd) hp h2' h0 hwk
    have hl:=Zfi p.2.2.1 ((places (Za.Design b)).take k) 0
    rw [e1,if_neg h2,e2,Qu h0 w1,Option.bind_some,e3,hm k p hp h2',Zh (by
     show ((List.map _ _).length+1)*8≤_
     rw [List.length_map]
     rw [List.length_take] at hl
     omega),←w2]
    rfl
  ·simp only [ZaX,Int.lt_irrefl,if_false]
   unfold ZfT
   rw [List.take_length])
 rw [Zvy] at this
 exact this
theorem Zgo {b:Za} {k:Nat} {p:Pl} (hp:(places (Za.Design b))[k]?=some p) (n:Int):Qe b (p.1,p.2.1,()) n=some (Za.Library b,conn (Za.Design b) p.1 p.2.1 n,Za.Zy b,()):=by
 unfold Qe conn
 rcases ZaJ hp with ⟨i,j,x,m,hx,hn,e,rfl⟩ | ⟨j,q,hq,e,rfl⟩
 ·have c:¬((i:Int)<0):=by omega
  simp only [ZdW,J3.instance,J3.pin,if_neg c,Zu,hx,Option.bind_some,Int.toNat_natCast]
  have hn2:x.2.2.1[j]?=some m:=hn
  rw [hn2]
  rfl
 ·have c:((-1:Int)<0):=by omega
  simp only [J3.instance,J3.pin,if_pos c,Zu,hq,Option.bind_some,Int.toNat_natCast]
  rfl
theorem ZkN {d:Zb} (hn:0<(Zb.Instances d).length) {p:Pl} (h:p∈places (XV d)):p∈places d:=by
 have hx:(Zb.Instances d)[(Zb.Instances d).length-1]?=some (Zb.Instances d)[(Zb.Instances d).length-1]:=List.getElem?_eq_getElem (by omega)
 rw [ZiH (s:=[]) hn hx,ZfC]
 unfold places at h
 rcases List.mem_append.1 h with h | h
 ·exact List.mem_append_left _ (List.mem_append_left _ h)
 ·exact List.mem_append_right _ h
theorem ZkD.sink {b:Za} (h:ZaN b) (hL:ZkD b):∃ (k:Nat) (p:Pl),sinks (Za.Design b) (((Zb.ZM (Za.Design b)).length:Int)-1)=[(k:Int)]∧(places (Za.Design b))[k]?=some p∧p.2.2.1=((Zb.ZM (Za.Design b)).length:Int)-1∧p.2.2.2.1=false∧p.1≠((Zb.Instances (Za.Design b)).length:Int)-1:=by
 obtain ⟨x,c,w,m,hn,hx,hc,hk1,hk2,hl2,hm,hl,hne,hnm,hw,hs1,hs2,hp1,hc0⟩:=hL
 match hs:sinks (Za.Design b) (((Zb.ZM (Za.Design b)).length:Int)-1),hs2 with
 | [v],_ =>
  obtain ⟨k,p,hp,e,h1,h2,_⟩:=Zps (pl:=places (Za.Design b)) (net:=((Zb.ZM (Za.Design b)).length:Int)-1) (i:=0) (x:=v) (by
   show (sinks (Za.Design b) (((Zb.ZM (Za.Design b)).length:Int)-1))[0]?=some v
   rw [hs];rfl)
  subst e
  refine ⟨k,p,rfl,hp,h1,h2,fun q=>?_⟩
  rcases ZaJ hp with ⟨i,j,y,n,hy,hnj,_,rfl⟩ | ⟨j,y,_,_,rfl⟩
  ·simp only [ZdW] at q h1 h2
   have ei:i=(Zb.Instances (Za.Design b)).length-1:=by omega
   rw [ei,hx] at hy
   injection hy with hy
   subst hy
   have hj:=(List.getElem?_eq_some_iff.1 hnj).1
   rw [hl2] at h2 hj
   have:j=0∨j=1:=by omega
   rcases this with rfl | rfl
   ·rw [show atI (Zd.ZM x) 0=(Zd.ZM x)[0]? from rfl,hnj] at hm
    injection hm with hm
    exact hne (hm.symm.trans h1)
   ·exact absurd h2 (by simp only [decide_eq_false_iff_not,Classical.not_not];rw [V7 (by omega) (by omega)];rfl)
  ·simp only at q
   omega
end Go.Proofs.YtfndhpjedmopdaaGreatDoor
/-
  Plain laws: a buffer taken away; inverse edits.
-/
namespace Go.Proofs.YtfndhpjedmopdaaGreatDoor
set_option linter.unusedVariables false
set_option linter.unusedSimpArgs false
open Go Go.Sx
theorem ZuH {b:Za} (h:ZaN b) {k:Nat} {p:Pl} {m:Int} (hn:0<(Zb.Instances (Za.Design b)).length) (hs:sinks (Za.Design b) (((Zb.ZM (Za.Design b)).length:Int)-1)=[(k:Int)]) (hp:(places (Za.Design b))[k]?=some p) (h0:0≤m) (h1:m<((Zb.ZM (Za.Design b)).length:Int)-1) :
  Zja (places (unD b p m)) ((Za.Zy b).length-1):=by
 have hwn:=h.ok.2.1
 have hD:Zja (places (conn (Za.Design b) p.1 p.2.1 m)) ((Za.Zy b).length-1):=by
  rw [Qb hp]
  intro q hq hd
  obtain ⟨j,hj⟩:=List.getElem?_of_mem hq
  rw [List.getElem?_set] at hj
  split at hj
  ·split at hj
   ·injection hj with hj
    subst hj
    exact ⟨h0,by show m<_;omega⟩
   ·cases hj
  ·rename_i e
   have hnet:=Zaw h.ok.1 (List.mem_of_getElem? hj)
   refine ⟨hnet.1,?_⟩
   by_cases hq2:q.2.2.1=((Zb.ZM (Za.Design b)).length:Int)-1
   ·have h3:=Zkk hj hq2 hd
    have h4:(sinks (Za.Design b) (((Zb.ZM (Za.Design b)).length:Int)-1))[nth (places (Za.Design b)) (((Zb.ZM (Za.Design b)).length:Int)-1) j]?=some (j:Int):=h3
    rw [hs] at h4
    have h5:=List.mem_of_getElem? h4
    rw [List.mem_singleton] at h5
    exact absurd (by omega) e
   ·have:=hnet.2
    omega
 intro q hq hd
 exact hD q (ZkN (by rw [Xf];exact hn) hq) hd
theorem Zh0 {d:Zb} {x:Zd} (hn:0<(Zb.Instances d).length) (hx:(Zb.Instances d)[(Zb.Instances d).length-1]?=some x) (h2:(Zd.ZM x).length=2):YD (XV d)+2=YD d:=by
 have h1:=ZrZ hn hx
 unfold YD
 rw [h1,ZeL,List.length_append]
 simp only [cat,List.append_nil,Vl,h2]
theorem Zo0 {d:Zb} {x:Zd} (hn:0<(Zb.Instances d).length) (hx:(Zb.Instances d)[(Zb.Instances d).length-1]?=some x) (h2:(Zd.ZM x).length=2):Zfq d ((Zb.Instances d).length-1)=YD d-2:=by
 have h1:=Zh0 hn hx h2
 have:Zfq d ((Zb.Instances d).length-1)=YD (XV d):=rfl
 omega
theorem Zmj {b:Za} (h:ZaN b) (hL:ZkD b):∃ (k:Nat) (p:Pl) (m v:Int),sinks (Za.Design b) (((Zb.ZM (Za.Design b)).length:Int)-1)=[(k:Int)]∧(places (Za.Design b))[k]?=some p∧p.1≠((Zb.Instances (Za.Design b)).length:Int)-1∧
  (∀ y,(Zb.Instances (Za.Design b))[(Zb.Instances (Za.Design b)).length-1]?=some y→atI (Zd.ZM y) 0=some m)∧v=Y9 b (YD (Za.Design b)-2)∧
  Vd b=some ((p.1,p.2.1,()),(Za.Library b,unD b p m,wired (places (unD b p m)) ((Za.Zy b).take ((Za.Zy b).length-1)) (ZqU (fun j=>if j=k then v else Y9 b j) (YD (unD b p m))),())):=by
 obtain ⟨k,p,hs,hp,hpn,hpd,hpi⟩:=hL.sink h
 obtain ⟨x,c,w,m,hn,hx,hc,hk1,hk2,hl2,hm,hl,hne,hnm,hw,hs1,hs2,hp1,hc0⟩:=hL
 have hD:=h.ok.1
 have hf:=hD.few
 have hpl:=YK hf
 have h14:=hf.insts
 have h30:=hD.2.1.2.1
 have hwn:=h.ok.2.1
 obtain ⟨_,_,hnet⟩:=hD.2.2.1 x (List.mem_of_getElem? hx)
 have hm0:(Zd.ZM x)[0]?=some m:=hm
 have hmn:=hnet m (List.mem_of_getElem? hm0)
 have hpos:1≤(Zb.ZM (Za.Design b)).length:=by have:=hmn.1;have:=hmn.2;omega
 have hmn2:m<((Zb.ZM (Za.Design b)).length:Int)-1:=by have:=hmn.2;omega
 have hx2:atI (Zb.Instances (Za.Design b)) (((Zb.Instances (Za.Design b)).length:Int)-1)=some x:=Qu (by omega) (by rw [←hx];congr 1;omega)
 have t1:Int.toNat (((Zb.Instances (Za.Design b)).length:Int)-1)=(Zb.Instances (Za.Design b)).length-1:=by omega
 have t2:Int.toNat (((Zb.ZM (Za.Design b)).length:Int)-1)=(Zb.ZM (Za.Design b)).length-1:=by omega
 have t3:Int.toNat (((Za.Zy b).length:Int)-1)=(Za.Zy b).length-1:=by omega
 have e:((Za.Library b,(List.set (Zb.Instances (Za.Design b)) ((Zb.Instances (Za.Design b)).length-1) x,(Za.Design b).snd),b.snd.snd):Za)=b:=by rw [ZbR hx]
 refine ⟨k,p,m,(Option.getD (ZiU Key (Ty.int IntKind.i64) (Zbg (places (Za.Design b)) (Y9 b) (places (Za.Design b)).length) ((((Zb.Instances (Za.Design b)).length:Int)-1),(0:Int),())) (0:Int)),hs,hp,hpi,fun y hy=>by rw [hx] at hy;injection hy with hy;rw [←hy];exact hm,?_,?_⟩
 ·have h5:=Zfe hx hm0
  rw [Nat.add_zero,Zo0 hn hx hl2] at h5
  have h6:=ZiO (Za.Design b) (Y9 b) _ _ h5 (by
   show decide ((0:Int)=IntKind.i64.wrap (((Zd.ZM x).length:Int)-1))=false
   rw [hl2,V7 (by omega) (by omega)]
   decide)
  have h7:Zse (ZdW ((Zb.Instances (Za.Design b)).length-1) x 0 m)=((((Zb.Instances (Za.Design b)).length:Int)-1),(0:Int),()):=by
   show ((((Zb.Instances (Za.Design b)).length-1:Nat):Int),(0:Int),())=_
   rw [show (((Zb.Instances (Za.Design b)).length-1:Nat):Int)=((Zb.Instances (Za.Design b)).length:Int)-1 by omega]
  rw [h7] at h6
  rw [h6]
  rfl
 unfold Vd
 rw [ZfV h,Option.bind_some,Ye _ hf,Option.bind_some,show YR (Zb.ZM (Za.Design b))=some ((Zb.ZM (Za.Design b)).length:Int) from rfl,Option.bind_some,
  V7 (n:=((Zb.ZM (Za.Design b)).length:Int)-1) (by omega) (by omega),Zfs _ _ hf,Option.bind_some,hs,show atI [(k:Int)] 0=some (k:Int) from rfl,Option.bind_some,Zu,hp,Option.bind_some,
  V7 (n:=((Zb.Instances (Za.Design b)).length:Int)-1) (by omega) (by omega),hx2,Option.bind_some,show x.snd.snd.fst=Zd.ZM x from rfl,hm,Option.bind_some,t1,e,
  show (ZR.instance p,ZR.pin p,())=(p.1,p.2.1,()) from rfl,Zgo hp m,Option.bind_some]
 have eD:Za.Design ((Za.Library b,conn (Za.Design b) p.1 p.2.1 m,Za.Zy b,()):Za)=conn (Za.Design b) p.1 p.2.1 m:=rfl
 have eW:Za.Zy ((Za.Library b,conn (Za.Design b) p.1 p.2.1 m,Za.Zy b,()):Za)=Za.Zy b:=rfl
 have eL:Za.Library ((Za.Library b,conn (Za.Design b) p.1 p.2.1 m,Za.Zy b,()):Za)=Za.Library b:=rfl
 rw [eD,eW,eL,Vp,V7 (n:=((Zb.ZM (Za.Design b)).length:Int)-1) (by omega) (by omega),V7 (n:=((Za.Zy b).length:Int)-1) (by omega) (by omega),t2,t3,
  Zh (by omega),Zh (by rw [Xf];omega),Zh (by omega),Zh (by omega),Zh (by omega),Zh (by omega)]
 simp only [Int.toNat_zero,Nat.sub_zero,List.drop_zero]
 have hB:((Za.Library b,(List.take ((Zb.Instances (Za.Design b)).length-1) (Zb.Instances (conn (Za.Design b) p.1 p.2.1 m)),List.take ((Zb.ZM (Za.Design b)).length-1) (Zb.ZM (Za.Design b)),(conn (Za.Design b) p.1 p.2.1 m).snd.snd),List.take ((Za.Zy b).length-1) (Za.Zy b),()):Za)
   = (Za.Library b,unD b p m,List.take ((Za.Zy b).length-1) (Za.Zy b),()):=by
  unfold unD XV
  rw [Xf,Vp]
 rw [hB]
 have hx3:(Zb.Instances (conn (Za.Design b) p.1 p.2.1 m))[(Zb.Instances (conn (Za.Design b) p.1 p.2.1 m)).length-1]?=some ((Zb.Instances (conn (Za.Design b) p.1 p.2.1 m))[(Zb.Instances (conn (Za.Design b) p.1 p.2.1 m)).length-1]'(by rw [Xf];omega)):=List.getElem?_eq_getElem _
 generalize (Zb.Instances (conn (Za.Design b) p.1 p.2.1 m))[(Zb.Instances (conn (Za.Design b) p.1 p.2.1 m)).length-1]'(by rw [Xf];omega)=x' at hx3
 have hx4:(Zd.ZM x').length=2:=by
  obtain ⟨y,hy,_,_,hyl,_⟩:=ZfZ hx3
  rw [Xf,hx] at hy
  injection hy with hy
  rw [hyl,←hy,hl2]
 have hM:=(((ZiO (Za.Design b) (Y9 b)).put hp (Option.getD (ZiU Key (Ty.int IntKind.i64) (Zbg (places (Za.Design b)) (Y9 b) (places (Za.Design b)).length) ((((Zb.Instances (Za.Design b)).length:Int)-1),(0:Int),())) (0:Int))).set hp m)
 rw [←Qb hp m] at hM
 have hM2:=hM.cut (by rw [Xf];omega) hx3 hx4
 have hlen:(List.take ((Za.Zy b).length-1) (Za.Zy b)).length=(Za.Zy b).length-1:=by rw [List.length_take];omega
 have:=ZfO (b:=(Za.Library b,unD b p m,List.take ((Za.Zy b).length-1) (Za.Zy b),())) (hf.conn p.1 p.2.1 m).cut hM2 (by
  show Zja (places (unD b p m)) (List.take ((Za.Zy b).length-1) (Za.Zy b)).length
  rw [hlen]
  exact ZuH h hn hs hp hmn.1 hmn2) (by
  show (List.take ((Za.Zy b).length-1) (Za.Zy b)).length≤_
  rw [hlen];omega)
 exact Eq.trans (congrArg (fun o=>Option.bind o fun connect0=>some ((p.1,p.2.1,()),connect0)) this) rfl
end Go.Proofs.YtfndhpjedmopdaaGreatDoor
/-
  Plain laws: designs stay valid when a place is put on another net, when a buffer is added or taken away.
-/
namespace Go.Proofs.YtfndhpjedmopdaaGreatDoor
set_option linter.unusedVariables false
set_option linter.unusedSimpArgs false
open Go Go.Sx
theorem ZbV.put {w:Zo} {s:Int} (h:ZbV w s) {l:List Int} (hl:ZiB l 0 (((Zo.Parent w).length:Int)-1)):ZbV (ZeR w l) (l.length:Int) :=
 ⟨h.1,h.2.1,h.2.2.1,rfl,h.2.2.2.2.1,h.2.2.2.2.2.1,h.2.2.2.2.2.2.1,hl⟩
def Fits (pl:List Pl) (ws:List Zo) (nd:Nat→Int):Prop:=∀ (k:Nat) (p:Pl) (w:Zo),pl[k]?=some p→p.2.2.2.1=false→ws[p.2.2.1.toNat]?=some w→0≤nd k∧nd k≤((Zo.Parent w).length:Int)-1
theorem ZpF {pl:List Pl} {ws:List Zo} {nd:Nat→Int} (hw:∀ (v:Nat) (w:Zo),ws[v]?=some w→∃ s,ZbV w s) (hf:Fits pl ws nd) :
  Zgw (wired pl ws nd) (fun v w=>ZbV w ((cat (Za2 (v:Int)) 0 pl).length:Int)):=by
 intro v w hv
 rw [Zec] at hv
 cases hx:ws[v]? with
 | none=>rw [hx] at hv;cases hv
 | some y =>
  rw [hx] at hv
  injection hv with hv
  subst hv
  obtain ⟨s,hs⟩:=hw v y hx
  have:=hs.put (l:=(cat (Za2 (v:Int)) 0 pl).map (fun k=>nd k.toNat)) (fun z hz=>by
   obtain ⟨j,hj,rfl⟩:=List.mem_map.1 hz
   obtain ⟨k,p,rfl,hp,h1,h2⟩:=ZuX hj
   exact hf k p y hp h2 (by rw [h1];exact hx))
  rw [List.length_map] at this
  exact this
theorem ZmO {b:Za} (h:ZaN b):Fits (places (Za.Design b)) (Za.Zy b) (Y9 b):=by
 intro k p w hp h2 hw
 obtain ⟨w',_,hw1,hw2,hw3⟩:=Zr9 h hp h2
 rw [hw1] at hw
 injection hw with hw
 subst hw
 rw [Zu] at hw2
 exact hw3.2.2.2.2.2.2.2 _ (List.mem_of_getElem? hw2)
theorem Fits.set {pl:List Pl} {ws:List Zo} {nd:Nat→Int} (h:Fits pl ws nd) {k0:Nat} {p0:Pl} (n v:Int) (hv:∀ w,ws[n.toNat]?=some w→0≤v∧v≤((Zo.Parent w).length:Int)-1) :
  Fits (pl.set k0 (p0.1,p0.2.1,n,p0.2.2.2.1,())) ws (fun j=>if j=k0 then v else nd j):=by
 intro k p w hp h2 hw
 rw [List.getElem?_set] at hp
 split at hp
 ·rename_i e
  subst e
  split at hp
  ·injection hp with hp
   subst hp
   show 0≤(if k0=k0 then v else nd k0)∧(if k0=k0 then v else nd k0)≤_
   rw [if_pos rfl]
   exact hv w hw
  ·cases hp
 ·rename_i e
  show 0≤(if k=k0 then v else nd k)∧(if k=k0 then v else nd k)≤_
  rw [if_neg (fun q=>e q.symm)]
  exact h k p w hp h2 hw
theorem VK.snoc {l:List (List UInt8)} {s:List UInt8} (h:VK l l.length) (h1:Za6 s=true) (h2:s ∉ l):VK (l++[s]) (l++[s]).length:=by
 intro j t hj ht
 by_cases e:j<l.length
 ·rw [List.getElem?_append_left e] at ht
  obtain ⟨a,b⟩:=h j t e ht
  refine ⟨a,?_⟩
  rw [List.take_append_of_le_length (by omega)]
  exact b
 ·rw [List.length_append,List.length_singleton] at hj
  have e2:j=l.length:=by omega
  subst e2
  rw [List.getElem?_append_right (by omega),Nat.sub_self] at ht
  injection ht with ht
  subst ht
  refine ⟨h1,?_⟩
  rw [List.take_append_of_le_length (Nat.le_refl _),List.take_length]
  exact h2
theorem VK.take {l:List (List UInt8)} (h:VK l l.length) (m:Nat):VK (l.take m) (l.take m).length:=by
 intro j t hj ht
 rw [List.length_take] at hj
 rw [List.getElem?_take,if_pos (by omega)] at ht
 obtain ⟨a,b⟩:=h j t (by omega) ht
 refine ⟨a,?_⟩
 rw [List.take_take,Nat.min_eq_left (by omega)]
 exact b
theorem Zro (d:Zb) (a b n:Int):Za7 (conn d a b n)=Za7 d:=by
 unfold conn
 split
 ·rfl
 ·show List.map Zd.Name (match (Zb.Instances d)[a.toNat]? with | some x=>(Zb.Instances d).set a.toNat (Zeo x b.toNat n) | none=>Zb.Instances d)=List.map Zd.Name (Zb.Instances d)
  split
  ·rename_i x hx
   rw [List.map_set]
   exact ZbR (by rw [List.getElem?_map,hx];rfl)
  ·rfl
theorem ZqO (d:Zb) (a b n:Int):ZcV (conn d a b n)=ZcV d:=by
 unfold conn
 split
 ·show List.map ZV.Name (match (Zb.ZQ d)[b.toNat]? with | some x=>(Zb.ZQ d).set b.toNat (setPort x n) | none=>Zb.ZQ d)=List.map ZV.Name (Zb.ZQ d)
  split
  ·rename_i x hx
   rw [List.map_set]
   exact ZbR (by rw [List.getElem?_map,hx];rfl)
  ·rfl
 ·rfl
theorem Zqr {d:Zb} {a b n:Int} {i:Nat} {y:ZV} (hy:(Zb.ZQ (conn d a b n))[i]?=some y):∃ x,(Zb.ZQ d)[i]?=some x∧ZV.Name y=ZV.Name x∧ZV.Dir y=ZV.Dir x∧(ZV.Net y=ZV.Net x∨ZV.Net y=n):=by
 unfold conn at hy
 split at hy
 ·have hy:(match (Zb.ZQ d)[b.toNat]? with | some x=>(Zb.ZQ d).set b.toNat (setPort x n) | none=>Zb.ZQ d)[i]?=some y:=hy
  split at hy
  ·rename_i x hx
   rw [List.getElem?_set] at hy
   split at hy
   ·rename_i e
    split at hy
    ·injection hy with hy
     subst hy
     exact ⟨x,by rw [←e];exact hx,rfl,rfl,.inr rfl⟩
    ·cases hy
   ·exact ⟨y,hy,rfl,rfl,.inl rfl⟩
  ·exact ⟨y,hy,rfl,rfl,.inl rfl⟩
 ·exact ⟨y,hy,rfl,rfl,.inl rfl⟩
theorem Zj3 {α:Type} {f:α→Bool} {y:α} (hy:f y=false):∀ {l:List α} {i:Nat} {x:α},l[i]?=some x→f x=false→(l.set i y).filter f=l.filter f
 | [],i,x,h,_=>by simp at h
 | a::l,0,x,h,hx=>by
  have h:a=x:=by simpa using h
  subst h
  simp [List.set,hx,hy]
 | a::l,i+1,x,h,hx=>by
  have:=Zj3 hy (l:=l) (i:=i) (by simpa using h) hx
  simp only [List.set_cons_succ,List.filter_cons,this]
theorem ZiR {x:Zd} (h:0<(Zd.ZM x).length):(Zd.ZM x)[(Zd.ZM x).length-1]?=some (XY x):=by
 unfold XY
 rw [List.getLastD_eq_getLast?,←List.getLast?_eq_getElem?]
 cases hN:Zd.ZM x with
 | nil=>rw [hN] at h;simp at h
 | cons y r=>rw [List.getLast?_cons];rfl
theorem Zol {x:Zd} {j:Nat} {n:Int} (h:j+1≠(Zd.ZM x).length):XY (Zeo x j n)=XY x:=by
 by_cases h0:0<(Zd.ZM x).length
 ·have h1:=ZiR (x:=Zeo x j n) (by show 0<(List.set (Zd.ZM x) j n).length;rw [List.length_set];exact h0)
  have h2:(List.set (Zd.ZM x) j n)[(List.set (Zd.ZM x) j n).length-1]?=some (XY (Zeo x j n)):=h1
  rw [List.length_set,List.getElem?_set,if_neg (by omega),ZiR h0] at h2
  injection h2 with h2
  exact h2.symm
 ·have e:Zd.ZM x=[]:=List.length_eq_zero_iff.1 (by omega)
  unfold XY
  show (List.set (Zd.ZM x) j n).getLastD 0=_
  rw [e];rfl
theorem ZtO {d:Zb} (hf:Few d) {k:Nat} {p:Pl} (hp:(places d)[k]?=some p) (h2:p.2.2.2.1=false) (n:Int):Zm0 (conn d p.1 p.2.1 n)=Zm0 d:=by
 unfold Zm0
 rcases ZaJ hp with ⟨i,j,x,m,hx,hn,e,rfl⟩ | ⟨j,q,hq,e,rfl⟩
 ·have hl:=hf.nets x (List.mem_of_getElem? hx)
  have hj:=(List.getElem?_eq_some_iff.1 hn).1
  have h3:decide ((j:Int)=IntKind.i64.wrap (((Zd.ZM x).length:Int)-1))=false:=h2
  rw [V7 (by omega) (by omega)] at h3
  have h4:¬((j:Int)=((Zd.ZM x).length:Int)-1):=of_decide_eq_false h3
  have c:¬((i:Int)<0):=by omega
  have e1:Zb.Instances (conn d (ZdW i x j m).1 (ZdW i x j m).2.1 n)=(Zb.Instances d).set i (Zeo x j n):=by
   unfold conn
   show Zb.Instances (if (i:Int)<0 then _ else _)=_
   rw [if_neg c]
   show (match (Zb.Instances d)[(i:Int).toNat]? with | some x=>(Zb.Instances d).set (i:Int).toNat (Zeo x (j:Int).toNat n) | none=>Zb.Instances d)=_
   simp only [Int.toNat_natCast,hx]
  have e2:Zb.ZQ (conn d (ZdW i x j m).1 (ZdW i x j m).2.1 n)=Zb.ZQ d:=by
   unfold conn
   show Zb.ZQ (if (i:Int)<0 then _ else _)=_
   rw [if_neg c]
  rw [e1,e2,List.map_set,Zol (by omega),ZbR (by rw [List.getElem?_map,hx];rfl)]
 ·have h3:decide (ZV.Dir q=1)=false:=h2
  have e1:Zb.Instances (conn d (-1) (j:Int) n)=Zb.Instances d:=by
   unfold conn
   rw [if_pos (by omega)]
  have e2:Zb.ZQ (conn d (-1) (j:Int) n)=(Zb.ZQ d).set j (setPort q n):=by
   unfold conn
   rw [if_pos (by omega)]
   show (match (Zb.ZQ d)[(j:Int).toNat]? with | some x=>(Zb.ZQ d).set (j:Int).toNat (setPort x n) | none=>Zb.ZQ d)=_
   simp only [Int.toNat_natCast,hq]
  show (Zb.Instances (conn d (-1) (j:Int) n)).map XY++((Zb.ZQ (conn d (-1) (j:Int) n)).filter (fun p=>decide (ZV.Dir p=1))).map ZV.Net=_
  rw [e1,e2,Zj3 (by exact h3) hq h3]
theorem Zrl {a:Zk} {d:Zb} (h:QF a d) {k:Nat} {p:Pl} (hp:(places d)[k]?=some p) (h2:p.2.2.2.1=false) {n:Int} (hn:ZbN d n):QF a (conn d p.1 p.2.1 n):=by
 obtain ⟨hl,⟨n1,n2,n3,n4,n5,n6⟩,hi,hq,ho⟩:=h
 have hf:Few d:=QF.few (a:=a) ⟨hl,⟨n1,n2,n3,n4,n5,n6⟩,hi,hq,ho⟩
 refine ⟨hl,⟨by rw [Xf];exact n1,by rw [Vp];exact n2,by rw [ZgL];exact n3,by rw [Zro];exact n4,by rw [Vp];exact n5,by rw [ZqO];exact n6⟩,fun y hy=>?_,fun y hy=>?_,?_⟩
 ·obtain ⟨i,hi2⟩:=List.getElem?_of_mem hy
  obtain ⟨x,hx,_,hc,hlen,_,hm⟩:=ZfZ hi2
  obtain ⟨r1,⟨c,r2,r3⟩,r4⟩:=hi x (List.mem_of_getElem? hx)
  refine ⟨by rw [hc];exact r1,⟨c,by rw [hc];exact r2,by rw [hlen];exact r3⟩,fun m hm2=>?_⟩
  unfold ZbN
  rw [Vp]
  rcases hm m hm2 with q | q
  ·exact r4 m q
  ·rw [q];exact hn
 ·obtain ⟨i,hi2⟩:=List.getElem?_of_mem hy
  obtain ⟨x,hx,_,hd,hm⟩:=Zqr hi2
  obtain ⟨r1,r2⟩:=hq x (List.mem_of_getElem? hx)
  refine ⟨by rw [hd];exact r1,?_⟩
  unfold ZbN
  rw [Vp]
  rcases hm with q | q
  ·rw [q];exact r2
  ·rw [q];exact hn
 ·unfold ZgG
  rw [Vp,ZtO hf hp h2]
  exact ho
theorem ZsC {a:Zk} {d:Zb} (h:QF a d):∀ v∈Zm0 d,ZbN d v:=by
 have hf:=h.few
 intro v hv
 unfold Zm0 at hv
 rcases List.mem_append.1 hv with hv | hv
 ·obtain ⟨x,hx,rfl⟩:=List.mem_map.1 hv
  have:=hf.nets x hx
  exact ((h.2.2.1 x hx).last h.1 (by omega)).2
 ·obtain ⟨q,hq,rfl⟩:=List.mem_map.1 hv
  exact (h.2.2.2.1 q (List.mem_filter.1 hq).1).2
theorem Zle {d:Zb}:ZgG d↔∀ v:Nat,v<(Zb.ZM d).length→(Zm0 d).countP (fun x=>decide (x=(v:Int)))=1:=by
 unfold ZgG
 constructor
 ·intro h v hv
  have:=h _ (List.mem_of_getElem? (ZiJ (s:=Zm0 d) hv))
  omega
 ·intro h x hx
  obtain ⟨j,hj⟩:=List.getElem?_of_mem hx
  have hlt:=(List.getElem?_eq_some_iff.1 hj).1
  rw [Zhl] at hlt
  rw [ZiJ hlt] at hj
  injection hj with hj
  have:=h j hlt
  omega
theorem Zrs {l:List Int} {v:Int} (h:∀ x∈l,x≠v):l.countP (fun x=>decide (x=v))=0:=by
 rw [List.countP_eq_zero]
 intro x hx
 simp [h x hx]
theorem Zyb {a:Zk} {d:Zb} (h:QF a d) {s:List UInt8} {c m:Int} {cell:Zi} (hs:Za6 s=true) (h1:s ∉ Za7 d) (h2:s ∉ Zb.ZM d) (h13:(Zb.Instances d).length≤13) (h29:(Zb.ZM d).length≤29)
  (hc0:0≤c) (hc1:c≤((Zk.Cells a).length:Int)-1) (hc:(Zk.Cells a)[c.toNat]?=some cell) (hp:(Zi.Yx cell).length=2) (hm:ZbN d m) :
  QF a (addInst d (s,c,[m,((Zb.ZM d).length:Int)],()) s):=by
 have hdn:=ZsC h
 obtain ⟨hl,⟨n1,n2,n3,n4,n5,n6⟩,hi,hq,ho⟩:=h
 have eI:Zb.Instances (addInst d (s,c,[m,((Zb.ZM d).length:Int)],()) s)=Zb.Instances d++[(s,c,[m,((Zb.ZM d).length:Int)],())]:=rfl
 have eN:Zb.ZM (addInst d (s,c,[m,((Zb.ZM d).length:Int)],()) s)=Zb.ZM d++[s]:=rfl
 have eP:Zb.ZQ (addInst d (s,c,[m,((Zb.ZM d).length:Int)],()) s)=Zb.ZQ d:=rfl
 have hnet:∀ n,ZbN d n→ZbN (addInst d (s,c,[m,((Zb.ZM d).length:Int)],()) s) n:=fun n hn=>by
  unfold ZbN at *
  rw [eN,List.length_append,List.length_singleton]
  omega
 refine ⟨hl,⟨by rw [eI,List.length_append,List.length_singleton];omega,by rw [eN,List.length_append,List.length_singleton];omega,n3,?_,by rw [eN];exact n5.snoc hs h2,n6⟩,fun y hy=>?_,fun y hy=>?_,?_⟩
 ·have:Za7 (addInst d (s,c,[m,((Zb.ZM d).length:Int)],()) s)=Za7 d++[s]:=by
   unfold Za7
   rw [eI,List.map_append]
   rfl
  rw [this]
  exact n4.snoc hs h1
 ·rw [eI] at hy
  rcases List.mem_append.1 hy with hy | hy
  ·obtain ⟨r1,r2,r4⟩:=hi y hy
   exact ⟨r1,r2,fun n hn=>hnet n (r4 n hn)⟩
  ·rw [List.mem_singleton] at hy
   subst hy
   refine ⟨⟨hc0,hc1⟩,⟨cell,hc,by rw [hp];rfl⟩,fun n hn=>?_⟩
   have hn:n∈[m,((Zb.ZM d).length:Int)]:=hn
   rcases List.mem_cons.1 hn with hn | hn
   ·rw [hn];exact hnet m hm
   ·rw [List.mem_singleton] at hn
    subst hn
    unfold ZbN
    rw [eN,List.length_append,List.length_singleton]
    omega
 ·obtain ⟨r1,r2⟩:=hq y hy
  exact ⟨r1,hnet _ r2⟩
 ·rw [Zle] at ho ⊢
  intro v hv
  rw [eN,List.length_append,List.length_singleton] at hv
  have e:Zm0 (addInst d (s,c,[m,((Zb.ZM d).length:Int)],()) s)=(Zb.Instances d).map XY++[((Zb.ZM d).length:Int)]++((Zb.ZQ d).filter (fun p=>decide (ZV.Dir p=1))).map ZV.Net:=by
   unfold Zm0
   rw [eI,eP,List.map_append]
   rfl
  have e2:Zm0 d=(Zb.Instances d).map XY++((Zb.ZQ d).filter (fun p=>decide (ZV.Dir p=1))).map ZV.Net:=rfl
  rw [e,List.countP_append,List.countP_append,List.countP_singleton]
  by_cases hvl:v<(Zb.ZM d).length
  ·have:=ho v hvl
   rw [e2,List.countP_append] at this
   rw [if_neg (by simp;omega)]
   omega
  ·have h0:=Zrs (l:=Zm0 d) (v:=(v:Int)) (fun x hx=>by have:=(hdn x hx).2;omega)
   rw [e2,List.countP_append] at h0
   rw [if_pos (by simp;omega)]
   omega
theorem Zxf {d:Zb} (hf:Few d) {p:Pl} (hp:p∈places d) (h2:p.2.2.2.1=true):p.2.2.1∈Zm0 d:=by
 obtain ⟨k,hk⟩:=List.getElem?_of_mem hp
 unfold Zm0
 rcases ZaJ hk with ⟨i,j,x,m,hx,hn,e,rfl⟩ | ⟨j,q,hq,e,rfl⟩
 ·have hl:=hf.nets x (List.mem_of_getElem? hx)
  have hj:=(List.getElem?_eq_some_iff.1 hn).1
  have h3:decide ((j:Int)=IntKind.i64.wrap (((Zd.ZM x).length:Int)-1))=true:=h2
  rw [V7 (by omega) (by omega)] at h3
  have h4:(j:Int)=((Zd.ZM x).length:Int)-1:=of_decide_eq_true h3
  refine List.mem_append_left _ (List.mem_map.2 ⟨x,List.mem_of_getElem? hx,?_⟩)
  have h5:=ZiR (x:=x) (by omega)
  rw [show (Zd.ZM x).length-1=j by omega,hn] at h5
  injection h5 with h5
  exact h5.symm
 ·have h3:decide (ZV.Dir q=1)=true:=h2
  exact List.mem_append_right _ (List.mem_map.2 ⟨q,List.mem_filter.2 ⟨List.mem_of_getElem? hq,h3⟩,rfl⟩)
theorem Zx6 {a:Zk} {d:Zb} (h:QF a d) {x:Zd} (hn:0<(Zb.Instances d).length) (hx:(Zb.Instances d)[(Zb.Instances d).length-1]?=some x) (hlx:XY x=((Zb.ZM d).length:Int)-1)
  (hs:∀ p∈places d,p.2.2.2.1=false→p.2.2.1≠((Zb.ZM d).length:Int)-1):QF a (XV d):=by
 have hdn:=ZsC h
 have hf:=h.few
 have hcut:=ZrZ hn hx
 obtain ⟨hl,⟨n1,n2,n3,n4,n5,n6⟩,hi,hq,ho⟩:=h
 have hpos:1≤(Zb.ZM d).length:=by
  have:=hdn (XY x) (List.mem_append_left _ (List.mem_map.2 ⟨x,List.mem_of_getElem? hx,rfl⟩))
  unfold ZbN at this
  omega
 have eN:(Zb.ZM (XV d)).length=(Zb.ZM d).length-1:=by
  show (List.take ((Zb.ZM d).length-1) (Zb.ZM d)).length=_
  rw [List.length_take];omega
 have eD:Zm0 d=(Zb.Instances (XV d)).map XY++[XY x]++((Zb.ZQ d).filter (fun p=>decide (ZV.Dir p=1))).map ZV.Net:=by
  unfold Zm0
  rw [hcut,List.map_append]
  rfl
 have eC:Zm0 (XV d)=(Zb.Instances (XV d)).map XY++((Zb.ZQ d).filter (fun p=>decide (ZV.Dir p=1))).map ZV.Net:=rfl
 have hcnt:∀ v:Int,(Zm0 d).countP (fun y=>decide (y=v))=(Zm0 (XV d)).countP (fun y=>decide (y=v))+if XY x=v then 1 else 0:=fun v=>by
  rw [eD,eC,List.countP_append,List.countP_append,List.countP_append,List.countP_singleton]
  by_cases q:XY x=v
  ·simp only [q,decide_true,if_true];omega
  ·simp only [q,decide_false,if_false];simp
 rw [Zle] at ho
 have none:∀ p∈places (XV d),p.2.2.1≠((Zb.ZM d).length:Int)-1:=by
  intro p hp e
  cases h2:p.2.2.2.1 with
  | false=>exact hs p (ZkN hn hp) h2 e
  | true =>
   have h3:=Zxf hf.cut hp h2
   have h4:=ho ((Zb.ZM d).length-1) (by omega)
   rw [hcnt,if_pos (by omega)] at h4
   have h5:0<(Zm0 (XV d)).countP (fun y=>decide (y=(((Zb.ZM d).length-1:Nat):Int))):=List.countP_pos_iff.2 ⟨_,h3,by simp;omega⟩
   omega
 have netC:∀ n,ZbN d n→n≠((Zb.ZM d).length:Int)-1→ZbN (XV d) n:=fun n h1 h2=>by
  unfold ZbN at *
  rw [eN]
  omega
 have eI:∀ i y,(Zb.Instances (XV d))[i]?=some y→(Zb.Instances d)[i]?=some y:=fun i y hy=>by
  rw [hcut,List.getElem?_append_left (List.getElem?_eq_some_iff.1 hy).1]
  exact hy
 refine ⟨hl,⟨by show (List.take _ (Zb.Instances d)).length≤14;rw [List.length_take];omega,by rw [eN];omega,n3,?_,n5.take _,n6⟩,fun y hy=>?_,fun y hy=>?_,?_⟩
 ·have:Za7 (XV d)=(Za7 d).take ((Zb.Instances d).length-1):=by
   unfold Za7
   show List.map Zd.Name (List.take _ (Zb.Instances d))=_
   rw [List.map_take]
  rw [this]
  exact n4.take _
 ·obtain ⟨i,hy2⟩:=List.getElem?_of_mem hy
  obtain ⟨r1,r2,r4⟩:=hi y (List.mem_of_getElem? (eI i y hy2))
  refine ⟨r1,r2,fun n hn2=>netC n (r4 n hn2) ?_⟩
  obtain ⟨j,hj⟩:=List.getElem?_of_mem hn2
  exact none _ (List.mem_of_getElem? (Zfe hy2 hj))
 ·obtain ⟨r1,r2⟩:=hq y hy
  obtain ⟨j,hj⟩:=List.getElem?_of_mem hy
  exact ⟨r1,netC _ r2 (none _ (List.mem_of_getElem? (ZpB (d:=XV d) hj)))⟩
 ·rw [Zle]
  intro v hv
  rw [eN] at hv
  have:=ho v (by omega)
  rw [hcnt,if_neg (by omega)] at this
  exact this
end Go.Proofs.YtfndhpjedmopdaaGreatDoor
/-
  Plain laws: the blocks that edits make are valid.
-/
namespace Go.Proofs.YtfndhpjedmopdaaGreatDoor
set_option linter.unusedVariables false
set_option linter.unusedSimpArgs false
open Go Go.Sx
theorem ZnB {l:List Int} (h:l.length≤1048576):sm (.sl (.int .i64)) l:=⟨by omega,fun _ _=>trivial⟩
theorem Znr {s:List UInt8} {c:Int} {l:List Int} (h1:sm .str s) (h2:l.length≤1048576):sm Z0 (s,c,l,()):=⟨h1,trivial,ZnB h2,trivial⟩
theorem Zqy {a b c d:List Int} (h1:a.length≤1048576) (h2:b.length≤1048576) (h3:c.length≤1048576) (h4:d.length≤1048576):sm X6 (a,b,c,d,()):=⟨ZnB h1,ZnB h2,ZnB h3,ZnB h4,trivial⟩
theorem Zg7 {a:List Zd} {b:List (List UInt8)} {c:List ZV} (h1:sm (.sl Z0) a) (h2:sm (.sl .str) b) (h3:sm (.sl J5) c):sm Yn (a,b,c,()):=⟨h1,h2,h3,trivial⟩
theorem ZgI {a:Zk} {b:Zb} {c:List Zo} (h1:sm YH a) (h2:sm Yn b) (h3:sm (.sl X6) c):sm YG (a,b,c,()):=⟨h1,h2,h3,trivial⟩
theorem Zrm {d:Zb} (h:sm Yn d) (a b n:Int):sm Yn (conn d a b n):=by
 obtain ⟨h1,h2,h3⟩:=Zcm h
 have e:conn d a b n=(Zb.Instances (conn d a b n),Zb.ZM (conn d a b n),Zb.ZQ (conn d a b n),()):=rfl
 rw [e]
 refine Zg7 ⟨by rw [Xf];exact h1.1,fun y hy=>?_⟩ (by rw [Vp];exact h3) ⟨by rw [ZgL];exact h2.1,fun y hy=>?_⟩
 ·obtain ⟨i,hi⟩:=List.getElem?_of_mem hy
  obtain ⟨x,hx,hn,_,hl,_⟩:=ZfZ hi
  obtain ⟨s1,s2⟩:=Zky (ZaM h1 hx)
  have s3:=Zm s2
  exact Znr (s:=Zd.Name y) (c:=Zd.Cell y) (l:=Zd.ZM y) (by rw [hn];exact s1) (by rw [hl];exact s3)
 ·obtain ⟨i,hi⟩:=List.getElem?_of_mem hy
  obtain ⟨x,hx,hn,_⟩:=Zqr hi
  have s1:=ZwV (ZaM h2 hx)
  have:sm .str (ZV.Name y):=by rw [hn];exact s1
  exact ⟨this,trivial,trivial,trivial⟩
theorem ZyK {d:Zb} (h:sm Yn d) (hf:(Zb.Instances d).length≤100) (hn:(Zb.ZM d).length≤100) {x:Zd} {s:List UInt8} (hx:sm Z0 x) (hs:sm .str s):sm Yn (addInst d x s):=by
 obtain ⟨h1,h2,h3⟩:=Zcm h
 refine Zg7 ⟨by rw [List.length_append,List.length_singleton];omega,fun y hy=>?_⟩ ⟨by rw [List.length_append,List.length_singleton];omega,fun y hy=>?_⟩ h2
 ·rcases List.mem_append.1 hy with hy | hy
  ·exact h1.2 y hy
  ·rw [List.mem_singleton] at hy;rw [hy];exact hx
 ·rcases List.mem_append.1 hy with hy | hy
  ·exact h3.2 y hy
  ·rw [List.mem_singleton] at hy;rw [hy];exact hs
theorem ZrH {t:Ty} {l:List t.den} (h:sm (.sl t) l) (m:Nat):sm (.sl t) (l.take m):=by
 have:=h.1
 exact ⟨by rw [List.length_take];omega,fun x hx=>h.2 x (List.mem_of_mem_take hx)⟩
theorem Zya {d:Zb} (h:sm Yn d):sm Yn (XV d):=by
 obtain ⟨h1,h2,h3⟩:=Zcm h
 exact Zg7 (ZrH h1 _) (ZrH h3 _) h2
theorem ZpR {pl:List Pl} {ws:List Zo} {nd:Nat→Int} (h:sm (.sl X6) ws) (hp:pl.length≤1048576):sm (.sl X6) (wired pl ws nd):=by
 have h1:=h.1
 refine ⟨by rw [ZgQ];exact h1,fun y hy=>?_⟩
 obtain ⟨v,hv⟩:=List.getElem?_of_mem hy
 rw [Zec] at hv
 cases hx:ws[v]? with
 | none=>rw [hx] at hv;cases hv
 | some w =>
  rw [hx] at hv
  injection hv with hv
  subst hv
  obtain ⟨a1,a2,a3,a4⟩:=Zjn (ZaM h hx)
  have:=Zfi (v:Int) pl 0
  exact Zqy (Zm a1) (Zm a2) (Zm a3) (by rw [List.length_map];omega)
theorem Zwe {b:Za} (h:ZaN b) {k:Nat} {p:Pl} (hp:(places (Za.Design b))[k]?=some p) (h2:p.2.2.2.1=false) {n v:Int} (hn:ZbN (Za.Design b) n) (hv:∀ w,(Za.Zy b)[n.toNat]?=some w→0≤v∧v≤((Zo.Parent w).length:Int)-1):ZaN (moved b k p n v):=by
 have hpl:places (mvD b p n)=(places (Za.Design b)).set k (p.1,p.2.1,n,p.2.2.2.1,()):=Qb hp n
 obtain ⟨b1,b2,b3⟩:=Zbm h.sm
 have hD:QF (Za.Library b) (mvD b p n):=Zrl h.ok.1 hp h2 hn
 refine ⟨⟨hD,?_,?_⟩,?_⟩
 ·show (wired (places (mvD b p n)) (Za.Zy b) (mvN b k v)).length=(Zb.ZM (conn (Za.Design b) p.1 p.2.1 n)).length
  rw [ZgQ,Vp];exact h.ok.2.1
 ·exact ZpF (fun v w hw=>⟨_,h.ok.2.2 v w hw⟩) (by rw [hpl];exact (ZmO h).set n v hv)
 ·have hl:=YK hD.few
  exact ZgI b1 (Zrm b2 _ _ _) (ZpR b3 (by omega))
theorem Zuz {c c2:Zi} (h1:sm X3 c) (h2:sm X3 c2) (h:Zak c c2=some true):(Zi.Yx c2).length=(Zi.Yx c).length:=by
 unfold Zak at h
 by_cases q:Zi.Kind c=Zi.Kind c2
 ·by_cases q2:((Zi.Yx c).length:Int)=((Zi.Yx c2).length:Int)
  ·omega
  ·exfalso;revert h;simp [q,q2]
 ·exfalso;revert h;simp [q]
theorem Zjm {d:Zb} {i:Nat} {x:Zd} (hx:(Zb.Instances d)[i]?=some x) (c:Int):places ((Zb.Instances d).set i (Zd.Name x,c,Zd.ZM x,()),Zb.ZM d,Zb.ZQ d,())=places d:=by
 show cat Y6 0 ((Zb.Instances d).set i (Zd.Name x,c,Zd.ZM x,()))++cat ZcP 0 (Zb.ZQ d)=_
 unfold places
 congr 1
 have hlt:=(List.getElem?_eq_some_iff.1 hx).1
 have e1:=ZfQ Y6 hx
 have hx2:((Zb.Instances d).set i (Zd.Name x,c,Zd.ZM x,()))[i]?=some (Zd.Name x,c,Zd.ZM x,()):=List.getElem?_set_self hlt
 have e2:=ZfQ Y6 hx2
 rw [e1,e2,List.take_set_of_le (Nat.le_refl _),List.drop_set_of_lt (by omega)]
 rfl
theorem Ztk {b:Za} (h:ZaN b) {i:Int} (h0:0≤i) {x:Zd} (hx:(Zb.Instances (Za.Design b))[i.toNat]?=some x) {c:Int} {c1 c2:Zi} (hc1:(Zk.Cells (Za.Library b))[(Zd.Cell x).toNat]?=some c1) (hc2:(Zk.Cells (Za.Library b))[c.toNat]?=some c2)
  (hc:0≤c∧c≤((Zk.Cells (Za.Library b)).length:Int)-1) (ha:(Zi.Yx c2).length=(Zi.Yx c1).length):ZaN (swapped b i c):=by
 obtain ⟨b1,b2,b3⟩:=Zbm h.sm
 obtain ⟨s1,s2,s3⟩:=Zcm b2
 obtain ⟨⟨hl,⟨n1,n2,n3,n4,n5,n6⟩,hi,hq,ho⟩,hwn,hw⟩:=h.ok
 have e:swapped b i c=(Za.Library b,((Zb.Instances (Za.Design b)).set i.toNat (Zd.Name x,c,Zd.ZM x,()),Zb.ZM (Za.Design b),Zb.ZQ (Za.Design b),()),Za.Zy b,()):=by
  unfold swapped
  rw [hx]
 have hpl:=Zjm hx c
 rw [e]
 have hmem:∀ y∈(Zb.Instances (Za.Design b)).set i.toNat (Zd.Name x,c,Zd.ZM x,()),y∈Zb.Instances (Za.Design b)∨y=(Zd.Name x,c,Zd.ZM x,()):=fun y hy=>List.mem_or_eq_of_mem_set hy
 refine ⟨⟨⟨hl,⟨by show (List.set _ _ _).length≤14;rw [List.length_set];exact n1,n2,n3,?_,n5,n6⟩,fun y hy=>?_,hq,?_⟩,hwn,?_⟩,?_⟩
 ·have:Za7 ((Zb.Instances (Za.Design b)).set i.toNat (Zd.Name x,c,Zd.ZM x,()),Zb.ZM (Za.Design b),Zb.ZQ (Za.Design b),())=Za7 (Za.Design b):=by
   show List.map Zd.Name (List.set _ _ _)=_
   rw [List.map_set]
   exact ZbR (by rw [List.getElem?_map,hx];rfl)
  exact this▸n4
 ·rcases hmem y hy with hy | hy
  ·exact hi y hy
  ·subst hy
   obtain ⟨r1,⟨c',r2,r3⟩,r4⟩:=hi x (List.mem_of_getElem? hx)
   have r2:(Zk.Cells (Za.Library b))[(Zd.Cell x).toNat]?=some c':=r2
   rw [hc1] at r2
   injection r2 with r2
   subst r2
   exact ⟨hc,⟨c2,hc2,by rw [ha];exact r3⟩,r4⟩
 ·unfold ZgG
  have:Zm0 ((Zb.Instances (Za.Design b)).set i.toNat (Zd.Name x,c,Zd.ZM x,()),Zb.ZM (Za.Design b),Zb.ZQ (Za.Design b),())=Zm0 (Za.Design b):=by
   unfold Zm0
   congr 1
   show List.map XY (List.set _ _ _)=_
   rw [List.map_set]
   exact ZbR (by rw [List.getElem?_map,hx];rfl)
  rw [this]
  exact ho
 ·intro k w hk
  have:=hw k w hk
  unfold sinks at *
  have hpl2:places (Za.Design ((Za.Library b,((Zb.Instances (Za.Design b)).set i.toNat (Zd.Name x,c,Zd.ZM x,()),Zb.ZM (Za.Design b),Zb.ZQ (Za.Design b),()),Za.Zy b,()):Za))=places (Za.Design b):=hpl
  rw [hpl2]
  exact this
 ·refine ZgI b1 (Zg7 ⟨by rw [List.length_set];exact s1.1,fun y hy=>?_⟩ s3 s2) b3
  rcases hmem y hy with hy | hy
  ·exact s1.2 y hy
  ·subst hy
   obtain ⟨q1,q2⟩:=Zky (ZaM s1 hx)
   exact Znr q1 (Zm q2)
theorem Zuh {b:Za} (h:ZaN b) {n:Int} (hn:ZbN (Za.Design b) n) {w:Zo} (hw:ZbV w ((sinks (Za.Design b) n).length:Int)) (hs:sm X6 w):ZaN (Zw2 b n w):=by
 obtain ⟨b1,b2,b3⟩:=Zbm h.sm
 obtain ⟨hD,hwn,hW⟩:=h.ok
 refine ⟨⟨hD,by show (List.set _ _ _).length=_;rw [List.length_set];exact hwn,?_⟩,ZgI b1 b2 ⟨by rw [List.length_set];exact b3.1,fun y hy=>?_⟩⟩
 ·intro k y hk
  have hk:((Za.Zy b).set n.toNat w)[k]?=some y:=hk
  rw [List.getElem?_set] at hk
  split at hk
  ·rename_i e
   split at hk
   ·injection hk with hk
    subst hk
    rw [←e]
    show ZbV w ((sinks (Za.Design b) ((n.toNat:Nat):Int)).length:Int)
    rw [show ((n.toNat:Nat):Int)=n by have:=hn.1;omega]
    exact hw
   ·cases hk
  ·exact hW k y hk
 ·rcases List.mem_or_eq_of_mem_set hy with hy | hy
  ·exact b3.2 y hy
  ·rw [hy];exact hs
theorem ZiS {b:Za} (h:ZaN b) {e:Zg} {k:Nat} {p q:Pl} (hp:(places (Za.Design b))[k]?=some p):(places (addInst (Za.Design b) (Zo3 b e q) (Zg.Name e)))[Zso b k]?=some p:=by
 unfold Zso
 by_cases hk:k<YD (Za.Design b)
 ·rw [if_pos hk,Zrf hk];exact hp
 ·rw [if_neg hk]
  have:=Zq0 (d:=Za.Design b) (x:=Zo3 b e q) (s:=Zg.Name e) (k:=k) (by omega)
  rw [show (Zd.ZM (Zo3 b e q)).length=2 from rfl] at this
  rw [this];exact hp
theorem Zww {d:Zb} {k:Nat} {p:Pl} (hp:(places d)[k]?=some p) (h1:p.1<((Zb.Instances d).length:Int)∨True):p.1<((Zb.Instances d).length:Int):=by
 rcases ZaJ hp with ⟨i,j,x,m,hx,hn,e,rfl⟩ | ⟨j,q,hq,e,rfl⟩
 ·have:=(List.getElem?_eq_some_iff.1 hx).1
  show (i:Int)<_
  omega
 ·show (-1:Int)<_
  omega
theorem ZgH {b:Za} {e:Zg} {k:Nat} {p:Pl} (hp:(places (Za.Design b))[k]?=some p):Zqo b e p=conn (addInst (Za.Design b) (Zo3 b e p) (Zg.Name e)) p.1 p.2.1 ((Zb.ZM (Za.Design b)).length:Int) :=
 (ZwI (Zww hp (.inr trivial))).symm
theorem Zxx:ZbV Zs3 0:=by
 refine ⟨⟨by decide,by decide⟩,rfl,rfl,rfl,fun k x hk=>?_,?_,?_,?_⟩
 ·match k,hk with
  | 0,hk =>
   injection hk with hk
   exact ⟨fun _=>⟨hk.symm,rfl⟩,fun h=>by omega⟩
  | k+1,hk=>cases hk
 ·intro x hx
  rw [show Zo.Res Zs3=[0] from rfl,List.mem_singleton] at hx
  omega
 ·intro x hx
  rw [show Zo.Cap Zs3=[0] from rfl,List.mem_singleton] at hx
  omega
 ·intro x hx
  cases hx
theorem Zwm {b:Za} (h:ZaN b) {e:Zg} {k:Nat} {p:Pl} (hp:(places (Za.Design b))[k]?=some p) (h2:p.2.2.2.1=false) :
  Fits (places (addInst (Za.Design b) (Zo3 b e p) (Zg.Name e))) (Za.Zy b++[Zs3]) (ZrK (Y9 b) (YD (Za.Design b)) (Y9 b k)):=by
 have hf:=h.ok.1.few
 have hold:=ZmO h
 have hws:∀ (m:Int) (w:Zo),ZbN (Za.Design b) m→(Za.Zy b++[Zs3])[m.toNat]?=some w→(Za.Zy b)[m.toNat]?=some w:=fun m w hm hw=>by
  rw [List.getElem?_append_left (by rw [h.ok.2.1];unfold ZbN at hm;omega)] at hw
  exact hw
 intro j q w hq hd hw
 unfold ZrK
 have hil:YD (Za.Design b)≤YD (Za.Design b):=Nat.le_refl _
 by_cases c1:j<YD (Za.Design b)
 ·rw [if_pos c1]
  rw [Zrf c1] at hq
  exact hold j q w hq hd (hws _ _ (Zaw h.ok.1 (List.mem_of_getElem? hq)) hw)
 ·rw [if_neg c1]
  by_cases c2:j=YD (Za.Design b)
  ·rw [if_pos c2]
   have:=add_mid (d:=Za.Design b) (x:=Zo3 b e p) (s:=Zg.Name e) (j:=0) (by show 0<2;omega)
   rw [Nat.add_zero,←c2,hq] at this
   have e1:q=ZdW (Zb.Instances (Za.Design b)).length (Zo3 b e p) 0 p.2.2.1:=by
    have h3:=ZgB (i:=(Zb.Instances (Za.Design b)).length) (x:=Zo3 b e p) (j:=0) (n:=p.2.2.1) rfl
    rw [←this] at h3
    injection h3
   have e2:q.2.2.1=p.2.2.1:=by rw [e1];rfl
   rw [e2] at hw
   exact hold k p w hp h2 (hws _ _ (Zaw h.ok.1 (List.mem_of_getElem? hp)) hw)
  ·rw [if_neg c2]
   by_cases c3:j=YD (Za.Design b)+1
   ·exfalso
    have:=add_mid (d:=Za.Design b) (x:=Zo3 b e p) (s:=Zg.Name e) (j:=1) (by show 1<2;omega)
    rw [←c3,hq] at this
    have h3:=ZgB (i:=(Zb.Instances (Za.Design b)).length) (x:=Zo3 b e p) (j:=1) (n:=((Zb.ZM (Za.Design b)).length:Int)) rfl
    rw [←this] at h3
    injection h3 with h3
    rw [h3] at hd
    revert hd
    show ¬(decide ((1:Int)=IntKind.i64.wrap ((2:Int)-1))=false)
    rw [V7 (by omega) (by omega)]
    simp
   ·rw [if_neg c3]
    have:=Zq0 (d:=Za.Design b) (x:=Zo3 b e p) (s:=Zg.Name e) (k:=j-2) (by omega)
    rw [show (Zd.ZM (Zo3 b e p)).length=2 from rfl,show j-2+2=j by omega,hq] at this
    exact hold (j-2) q w this.symm hd (hws _ _ (Zaw h.ok.1 (List.mem_of_getElem? this.symm)) hw)
theorem ZoX {α:Type} {p:α→Bool} {l:List α} (h:ZcQ p l<0):∀ x∈l,p x=false:=by
 intro x hx
 cases hp:p x with
 | false=>rfl
 | true =>
  have:=ZcE.2 (List.any_eq_true.2 ⟨x,hx,hp⟩)
  omega
theorem ZjR {b:Za} {e:Zg} (h:Zkq b e) (k2:Zg.Kind e=2) (hs:sm .str (Zg.Name e)) {p:Pl} (hp:Zf3 b e p):ZaN (buffered b e (Zg.Place e).toNat p):=by
 have hB:=h.blk
 obtain ⟨b1,b2,b3⟩:=Zbm hB.sm
 obtain ⟨l1,l2⟩:=h.lim k2
 obtain ⟨p',c,hp',hd,hc,hk,hpins,hname,hni,hnn⟩:=h.poss.2.1 k2
 have:p'=p:=by
  have:=hp'.2
  rw [hp.2] at this
  injection this with this
  exact this.symm
 subst this
 obtain ⟨_,hcr⟩:=h.range.1 (.inr k2)
 have hc2:(Zk.Cells (Za.Library b))[(Zg.Cell e).toNat]?=some c:=by
  have:=hc
  unfold atI at this
  rw [if_pos hcr.1] at this
  exact this
 have hA:QF (Za.Library b) (addInst (Za.Design b) (Zo3 b e p') (Zg.Name e)):=by
  refine Zyb hB.ok.1 hname (fun hm=>?_) (fun hm=>?_) l1 l2 hcr.1 hcr.2 hc2 hpins (Zaw hB.ok.1 hp.mem)
  ·obtain ⟨x,hx,e1⟩:=List.mem_map.1 hm
   have:=ZoX hni x hx
   simp [e1] at this
  ·have:=ZoX hnn _ hm
   simp at this
 have hN:ZbN (addInst (Za.Design b) (Zo3 b e p') (Zg.Name e)) ((Zb.ZM (Za.Design b)).length:Int):=by
  unfold ZbN
  show 0≤_∧_≤((Zb.ZM (Za.Design b)++[Zg.Name e]).length:Int)-1
  rw [List.length_append,List.length_singleton]
  omega
 have hpk:=ZiS (e:=e) (q:=p') hB hp.2
 have hD:QF (Za.Library b) (Zqo b e p'):=by
  rw [ZgH hp.2]
  exact Zrl hA hpk hd hN
 have hl:=YK hD.few
 have hwn:=hB.ok.2.1
 have hpl:places (Zqo b e p')=(places (addInst (Za.Design b) (Zo3 b e p') (Zg.Name e))).set (Zso b (Zg.Place e).toNat) (p'.1,p'.2.1,((Zb.ZM (Za.Design b)).length:Int),p'.2.2.2.1,()):=by
  rw [ZgH hp.2]
  exact Qb hpk _
 refine ⟨⟨hD,?_,?_⟩,?_⟩
 ·show (wired (places (Zqo b e p')) (Za.Zy b++[Zs3]) (Zzj b (Zg.Place e).toNat)).length=(Zb.ZM (conn (Za.Design b) p'.1 p'.2.1 _)++[Zg.Name e]).length
  rw [ZgQ,List.length_append,List.length_append,Vp,hwn]
  rfl
 ·refine ZpF (pl:=places (Zqo b e p')) (fun v w hw=>?_) ?_
  ·by_cases hv:v<(Za.Zy b).length
   ·rw [List.getElem?_append_left hv] at hw
    exact ⟨_,hB.ok.2.2 v w hw⟩
   ·rw [List.getElem?_append_right (by omega)] at hw
    have:=List.mem_of_getElem? hw
    rw [List.mem_singleton] at this
    rw [this]
    exact ⟨_,Zxx⟩
  ·rw [hpl]
   refine (Zwm hB hp.2 hd).set _ 0 (fun w hw=>?_)
   rw [Int.toNat_natCast,←hwn,List.getElem?_append_right (Nat.le_refl _),Nat.sub_self] at hw
   injection hw with hw
   rw [←hw]
   exact ⟨Int.le_refl _,by show (0:Int)≤(1:Int)-1;omega⟩
 ·refine ZgI b1 ?_ (ZpR ⟨?_,fun y hy=>?_⟩ (by omega))
  ·exact ZyK (Zrm b2 _ _ _) (by rw [Xf];omega) (by rw [Vp];omega) (Znr hs (by show 2≤_;omega)) hs
  ·rw [List.length_append,List.length_singleton]
   have:=hB.ok.1.2.1.2.1
   omega
  ·rcases List.mem_append.1 hy with hy | hy
   ·exact b3.2 y hy
   ·rw [List.mem_singleton] at hy
    rw [hy]
    exact Zqy (by decide) (by decide) (by decide) (by decide)
end Go.Proofs.YtfndhpjedmopdaaGreatDoor
/-
  Plain laws: a block with a buffer less is valid.
-/
namespace Go.Proofs.YtfndhpjedmopdaaGreatDoor
set_option linter.unusedVariables false
set_option linter.unusedSimpArgs false
open Go Go.Sx
theorem Fits.cut {d:Zb} {ws:List Zo} {nd:Nat→Int} (h:Fits (places d) ws nd) {x:Zd} (hn:0<(Zb.Instances d).length) (hx:(Zb.Instances d)[(Zb.Instances d).length-1]?=some x) (h2:(Zd.ZM x).length=2) (m:Nat) :
  Fits (places (XV d)) (ws.take m) (ZqU nd (YD (XV d))):=by
 intro k p w hp hd hw
 rw [List.getElem?_take] at hw
 split at hw
 ·unfold ZqU
  have hpc:=ZiH (s:=[]) hn hx
  by_cases c:k<YD (XV d)
  ·rw [if_pos c]
   exact h k p w (by rw [hpc,Zrf c];exact hp) hd hw
  ·rw [if_neg c]
   have:=Zq0 (d:=XV d) (x:=x) (s:=[]) (k:=k) (by omega)
   rw [h2] at this
   exact h (k+2) p w (by rw [hpc,this];exact hp) hd hw
 ·cases hw
theorem ZdC (d:Zb):(places d).length=YD d+(Zb.ZQ d).length:=by
 unfold places YD
 rw [List.length_append,ZqZ]
theorem Zk9 {d:Zb} {k:Nat} {p:Pl} (hp:(places d)[k]?=some p) (n:Int):YD (conn d p.1 p.2.1 n)=YD d:=by
 have h1:=ZdC d
 have h2:=ZdC (conn d p.1 p.2.1 n)
 rw [Qb hp,List.length_set,ZgL] at h2
 omega
theorem Zj2 {b:Za} (h:ZaN b) (hL:ZkD b) {k:Nat} {p:Pl} {m:Int} (hs:sinks (Za.Design b) (((Zb.ZM (Za.Design b)).length:Int)-1)=[(k:Int)]) (hp:(places (Za.Design b))[k]?=some p) (hpi:p.1≠((Zb.Instances (Za.Design b)).length:Int)-1)
  (hm:∀ x,(Zb.Instances (Za.Design b))[(Zb.Instances (Za.Design b)).length-1]?=some x→atI (Zd.ZM x) 0=some m):ZaN (Zk0 b k p m):=by
 obtain ⟨b1,b2,b3⟩:=Zbm h.sm
 obtain ⟨k',p',hs',hp',hpn,hpd,hpi'⟩:=hL.sink h
 have ek:k=k':=by
  rw [hs] at hs'
  injection hs' with hs' _
  omega
 subst ek
 rw [hp] at hp'
 injection hp' with hp'
 subst hp'
 obtain ⟨x,c,w,m',hn,hx,hc,hk1,hk2,hl2,hm',hl,hne,hnm,hw,hs1,hs2,hp1,hc0⟩:=hL
 have em:m'=m:=by
  have:=hm x hx
  rw [hm'] at this
  injection this
 subst em
 have hD:=h.ok.1
 have hwn:=h.ok.2.1
 have hm0:(Zd.ZM x)[0]?=some m':=hm'
 have hl1:(Zd.ZM x)[1]?=some (((Zb.ZM (Za.Design b)).length:Int)-1):=hl
 have hmn:=(hD.2.2.1 x (List.mem_of_getElem? hx)).2.2 m' (List.mem_of_getElem? hm0)
 have hlx:XY x=((Zb.ZM (Za.Design b)).length:Int)-1:=by
  have:=ZiR (x:=x) (by omega)
  rw [hl2,show 2-1=1 from rfl,hl1] at this
  injection this with this
  exact this.symm
 have hC:QF (Za.Library b) (conn (Za.Design b) p.1 p.2.1 m'):=Zrl hD hp hpd hmn
 have hn2:0<(Zb.Instances (conn (Za.Design b) p.1 p.2.1 m')).length:=by rw [Xf];exact hn
 have hx2:(Zb.Instances (conn (Za.Design b) p.1 p.2.1 m'))[(Zb.Instances (conn (Za.Design b) p.1 p.2.1 m')).length-1]?=some x:=by
  have hy:(Zb.Instances (conn (Za.Design b) p.1 p.2.1 m'))[(Zb.Instances (conn (Za.Design b) p.1 p.2.1 m')).length-1]?=some ((Zb.Instances (conn (Za.Design b) p.1 p.2.1 m'))[(Zb.Instances (conn (Za.Design b) p.1 p.2.1 m')).length-1]'(by omega)):=List.getElem?_eq_getElem _
  generalize (Zb.Instances (conn (Za.Design b) p.1 p.2.1 m'))[(Zb.Instances (conn (Za.Design b) p.1 p.2.1 m')).length-1]'(by omega)=y at hy
  obtain ⟨x',hx',_,_,_,he,_⟩:=ZfZ hy
  rw [Xf,hx] at hx'
  injection hx' with hx'
  rw [hy,hx',he (by rw [Xf];omega)]
 have hsn:∀ q∈places (conn (Za.Design b) p.1 p.2.1 m'),q.2.2.2.1=false→q.2.2.1≠((Zb.ZM (conn (Za.Design b) p.1 p.2.1 m')).length:Int)-1:=by
  intro q hq hd e
  rw [Vp] at e
  rw [Qb hp] at hq
  obtain ⟨j,hj⟩:=List.getElem?_of_mem hq
  rw [List.getElem?_set] at hj
  split at hj
  ·split at hj
   ·injection hj with hj
    subst hj
    exact hne e
   ·cases hj
  ·rename_i hjk
   have h3:=Zkk hj e hd
   have h4:(sinks (Za.Design b) (((Zb.ZM (Za.Design b)).length:Int)-1))[nth (places (Za.Design b)) (((Zb.ZM (Za.Design b)).length:Int)-1) j]?=some (j:Int):=h3
   rw [hs] at h4
   have h5:=List.mem_of_getElem? h4
   rw [List.mem_singleton] at h5
   exact absurd (by omega) hjk
 have hU:QF (Za.Library b) (unD b p m'):=Zx6 hC hn2 hx2 (by rw [Vp];exact hlx) hsn
 have hins:YD (unD b p m')=YD (Za.Design b)-2:=by
  have h1:=Zh0 hn2 hx2 hl2
  have h2:=Zk9 hp m'
  unfold unD
  omega
 have hpl:=YK hU.few
 refine ⟨⟨hU,?_,?_⟩,?_⟩
 ·show (wired (places (unD b p m')) ((Za.Zy b).take ((Za.Zy b).length-1)) (unN b k)).length=((Zb.ZM (conn (Za.Design b) p.1 p.2.1 m')).take ((Zb.ZM (conn (Za.Design b) p.1 p.2.1 m')).length-1)).length
  rw [ZgQ,List.length_take,List.length_take,Vp,hwn]
 ·refine ZpF (pl:=places (unD b p m')) (fun v w hw=>?_) ?_
  ·rw [List.getElem?_take] at hw
   split at hw
   ·exact ⟨_,h.ok.2.2 v w hw⟩
   ·cases hw
  ·have h1:Fits (places (conn (Za.Design b) p.1 p.2.1 m')) (Za.Zy b) (mvN b k (Y9 b (YD (Za.Design b)-2))):=by
    rw [Qb hp]
    refine (ZmO h).set m' _ (fun w' hw'=>?_)
    have h5:=Zfe hx hm0
    rw [Nat.add_zero,Zo0 hn hx hl2] at h5
    refine ZmO h _ _ w' h5 ?_ hw'
    show decide ((0:Int)=IntKind.i64.wrap (((Zd.ZM x).length:Int)-1))=false
    rw [hl2,V7 (by omega) (by omega)]
    decide
   have h2:=h1.cut hn2 hx2 hl2 ((Za.Zy b).length-1)
   have h3:YD (XV (conn (Za.Design b) p.1 p.2.1 m'))=YD (Za.Design b)-2:=hins
   rw [h3] at h2
   exact h2
 ·exact ZgI b1 (Zya (Zrm b2 _ _ _)) (ZpR (ZrH b3 _) (by omega))
end Go.Proofs.YtfndhpjedmopdaaGreatDoor
/-
  Plain laws: the reference's own copies; places connected, sinks attached (reference); edits applied.
-/
namespace Go.Proofs.YtfndhpjedmopdaaGreatDoor
set_option linter.unusedVariables false
set_option linter.unusedSimpArgs false
open Go Go.Sx
theorem ZmB (t:Zx) (ht:sm YP t):ZeC t=some t:=by
 have e1:=ZdP (Zx.Zgn t) (Zm (t:=.int .i64) ht.1)
 have e2:=ZdP (Zx.Loads t) (Zm (t:=.int .i64) ht.2.1)
 have e3:=ZdP (Zx.Values t) (Zm (t:=.int .i64) ht.2.2.1)
 unfold ZeC
 rw [e1,e2,e3]
 rfl
theorem ZgM (l:List Zx) (hl:sm (.sl YP) l):Vb l=some l:=by
 have h1:=Zm hl
 unfold Vb
 have:=YF (l:=l) (fun k=>(l.take k,(k:Int),())) (step:=fun v=>XD l v.1 v.2.1) (good:=l) (fun k x hx hk=>by
  have hg:((l.take k).length+[x].length)*72≤140737488355328:=by rw [List.length_take,List.length_singleton];omega
  simp only [XD,show (k:Int)<(l.length:Int) by omega,if_true,Zu,hx,Option.bind_some,ZmB x (ZaM hl hx),Zh hg,Q5 (show k≤1048576 by omega)]
  rw [Yt hx]) (by
  simp only [XD,Int.lt_irrefl,if_false,List.take_length])
 simpa using this
theorem Znz (c:Zi) (hs:sm X3 c):ZeP c=some c:=by
 have p1:sm (.sl ZdO) (Zi.Yx c):=hs.2.2.1
 have p2:sm (.sl Zfc) (Zi.ZaZ c):=hs.2.2.2.1
 have p3:sm (.sl (.int .i64)) (Zi.Truth c):=hs.2.2.2.2.1
 have l1:=Zm p1
 have l2:=Zm p2
 have l3:=Zm p3
 unfold ZeP
 rw [Zh (by rw [List.length_nil];omega),ZdP _ l3,Option.bind_some]
 have:=YF (l:=Zi.ZaZ c) (fun k=>((k:Int),(Zi.ZaZ c).take k,())) (step:=fun v=>Jm c (Zi.Truth c) v.1 v.2.1) (good:=c) (fun k x hx hk=>by
  obtain ⟨q1,q2⟩:=ZwP (ZaM p2 hx)
  have hg:∀ y:ZJ,(((Zi.ZaZ c).take k).length+[y].length)*80≤140737488355328:=fun y=>by rw [List.length_take,List.length_singleton];omega
  simp only [Jm,show (k:Int)<((Zi.ZaZ c).length:Int) by omega,if_true,Zu,hx,Option.bind_some,ZgM _ q1,ZgM _ q2,Zh (hg _),Q5 (show k≤1048576 by omega)]
  rw [Yt hx]) (by
  simp only [Jm,Int.lt_irrefl,if_false,List.take_length]
  rfl)
 simpa using this
theorem ZkR (a:Zk) (ha:sm YH a):ZbT a=some a:=by
 have hc:=ZoJ ha
 have h1:=Zm hc
 unfold ZbT
 have:=YF (l:=Zk.Cells a) (fun k=>((k:Int),(Zk.Cells a).take k,())) (step:=fun v=>VB a v.1 v.2.1) (good:=a) (fun k x hx hk=>by
  have hg:(((Zk.Cells a).take k).length+[x].length)*112≤140737488355328:=by rw [List.length_take,List.length_singleton];omega
  simp only [VB,show (k:Int)<((Zk.Cells a).length:Int) by omega,if_true,Zu,hx,Option.bind_some,Znz x (ZaM hc hx),Zh hg,Q5 (show k≤1048576 by omega)]
  rw [Yt hx]) (by
  simp only [VB,Int.lt_irrefl,if_false,List.take_length])
 simpa using this
theorem Zln (d:Zb) (hd:sm Yn d):Zeu d=some d:=by
 obtain ⟨s1,s2,s3⟩:=Zcm hd
 have l1:=Zm s1
 have l2:=Zm s2
 have l3:=Zm s3
 unfold Zeu
 rw [Zh (by rw [List.length_nil];omega),Zh (by rw [List.length_nil];omega)]
 have:=YF (l:=Zb.Instances d) (fun k=>((k:Int),(Zb.Instances d).take k,())) (step:=fun v=>Jq d v.1 v.2.1) (good:=d) (fun k x hx hk=>by
  have hx2:=ZdP (Zd.ZM x) (Zm (Zky (ZaM s1 hx)).2)
  have hg:∀ y:Zd,(((Zb.Instances d).take k).length+[y].length)*48≤140737488355328:=fun y=>by rw [List.length_take,List.length_singleton];omega
  simp only [Jq,show (k:Int)<((Zb.Instances d).length:Int) by omega,if_true,Zu,hx,Option.bind_some,hx2,Zh (hg _),Q5 (show k≤1048576 by omega)]
  rw [Yt hx]) (by
  simp only [Jq,Int.lt_irrefl,if_false,List.take_length]
  rfl)
 simpa using this
theorem ZrN (b:Za) (hb:sm YG b):Zhj b=some b:=by
 obtain ⟨b1,b2,b3⟩:=Zbm hb
 have h1:=Zm b3
 unfold Zhj
 rw [ZkR _ b1,Option.bind_some,Zln _ b2,Option.bind_some]
 have:=YF (l:=Za.Zy b) (fun k=>((k:Int),(Za.Zy b).take k,())) (step:=fun v=>Zcn b (Za.Library b) (Za.Design b) v.1 v.2.1) (good:=b) (fun k x hx hk=>by
  have hg:(((Za.Zy b).take k).length+[x].length)*96≤140737488355328:=by rw [List.length_take,List.length_singleton];omega
  simp only [Zcn,show (k:Int)<((Za.Zy b).length:Int) by omega,if_true,Zu,hx,Option.bind_some,Zh5 x (ZaM b3 hx),Zh hg,Q5 (show k≤1048576 by omega)]
  rw [Yt hx]) (by
  simp only [Zcn,Int.lt_irrefl,if_false,List.take_length])
 simpa using this
theorem ZfF {d:Zb} {k:Nat} {p:Pl} (hp:(places d)[k]?=some p) (n:Int):Vr d p n=some (conn d p.1 p.2.1 n):=by
 unfold Vr conn
 rcases ZaJ hp with ⟨i,j,x,m,hx,hn,e,rfl⟩ | ⟨j,q,hq,e,rfl⟩
 ·have c:¬((i:Int)<0):=by omega
  simp only [ZdW,ZW.instance,ZW.pin,if_neg c,Zu,hx,Option.bind_some,Int.toNat_natCast]
  have hn2:x.2.2.1[j]?=some m:=hn
  rw [hn2]
  rfl
 ·have c:((-1:Int)<0):=by omega
  simp only [ZW.instance,ZW.pin,if_pos c,Zu,hq,Option.bind_some,Int.toNat_natCast]
  rfl
def ZuQ (pl:List Pl) (ws:List Zo) (nd:Nat→Int) (k:Nat):List Zo:=cat (fun v w=>[if v<k then ZeR w ((cat (Za2 (v:Int)) 0 pl).map (fun k=>nd k.toNat)) else w]) 0 ws
theorem ZiT (pl:List Pl) (ws:List Zo) (nd:Nat→Int) (k v:Nat):(ZuQ pl ws nd k)[v]?=(ws[v]?).map (fun w=>if v<k then ZeR w ((cat (Za2 (v:Int)) 0 pl).map (fun k=>nd k.toNat)) else w):=by
 unfold ZuQ
 rw [Zbe,Nat.zero_add]
theorem Zpl (pl:List Pl) (ws:List Zo) (nd:Nat→Int) (k:Nat):(ZuQ pl ws nd k).length=ws.length:=ZaL _ _
theorem ZuO (pl:List Pl) (ws:List Zo) (nd:Nat→Int):ZuQ pl ws nd 0=ws:=by
 apply List.ext_getElem?
 intro v
 rw [ZiT]
 simp
theorem Zwn (pl:List Pl) (ws:List Zo) (nd:Nat→Int):ZuQ pl ws nd ws.length=wired pl ws nd:=by
 apply List.ext_getElem?
 intro v
 rw [ZiT,Zec]
 cases hv:ws[v]? with
 | none=>rfl
 | some w =>
  have:=(List.getElem?_eq_some_iff.1 hv).1
  simp only [Option.map_some,if_pos this]
theorem Zvl {pl:List Pl} {ws:List Zo} {nd:Nat→Int} {k:Nat} {w:Zo} (hw:ws[k]?=some w):(ZuQ pl ws nd k)[k]?=some w∧(ZuQ pl ws nd k).set k (ZeR w ((cat (Za2 (k:Int)) 0 pl).map (fun k=>nd k.toNat)))=ZuQ pl ws nd (k+1):=by
 constructor
 ·rw [ZiT,hw];simp
 ·apply List.ext_getElem?
  intro v
  rw [List.getElem?_set,Zpl]
  split
  ·rename_i e
   subst e
   rw [if_pos (List.getElem?_eq_some_iff.1 hw).1,ZiT,hw,Option.map_some,if_pos (by omega)]
  ·rw [ZiT,ZiT]
   congr 1
   funext w'
   by_cases h:v<k
   ·rw [if_pos h,if_pos (by omega)]
   ·rw [if_neg h,if_neg (by omega)]
theorem Zgu {b:Za} {nodes:List Int} (hf:Few (Za.Design b)) (hl:nodes.length=(places (Za.Design b)).length) (hw:(Za.Zy b).length≤1048576) :
  XZ b nodes=some (Za.Library b,Za.Design b,wired (places (Za.Design b)) (Za.Zy b) (ZnA nodes),()):=by
 have hpl:=YK hf
 unfold XZ
 have:=YF (l:=Za.Zy b) (fun k=>((k:Int),ZuQ (places (Za.Design b)) (Za.Zy b) (ZnA nodes) k,())) (step:=fun v=>QK b nodes v.1 v.2.1) (good:=(Za.Library b,Za.Design b,wired (places (Za.Design b)) (Za.Zy b) (ZnA nodes),())) (fun k w hk hlt=>by
  obtain ⟨a1,a2⟩:=Zvl (nd:=ZnA nodes) (pl:=places (Za.Design b)) hk
  have hlc:(sinks (Za.Design b) (k:Int)).length≤(places (Za.Design b)).length:=Zfi (k:Int) (places (Za.Design b)) 0
  simp only [QK]
  rw [if_pos (show (k:Int)<(((ZuQ (places (Za.Design b)) (Za.Zy b) (ZnA nodes) k).length:Nat):Int) by rw [Zpl];omega),J8 _ _ hf,Option.bind_some]
  refine YF (l:=sinks (Za.Design b) (k:Int)) (fun i=>(((sinks (Za.Design b) (k:Int)).take i).map (fun x=>ZnA nodes x.toNat),(i:Int),())) (fun i x hx hi=>?_) ?_
  ·obtain ⟨j,p,hp,ex,hn,h2,hnth⟩:=Zps (pl:=places (Za.Design b)) hx
   have hj:=(List.getElem?_eq_some_iff.1 hp).1
   have hnj:nodes[j]?=some (ZnA nodes j):=by
    unfold ZnA
    rw [List.getElem?_eq_getElem (by omega)]
    rfl
   simp only [V3,show (i:Int)<((sinks (Za.Design b) (k:Int)).length:Int) by omega,if_true,Zu,hx,Option.bind_some]
   have et:=Yt hx
   subst ex
   rw [Zu,hnj,Option.bind_some,Zh (by rw [List.length_map,List.length_take,List.length_singleton];omega),Q5 (show i≤1048576 by omega),et,List.map_append]
   rfl
  ·simp only [V3,Int.lt_irrefl,if_false,Zu,a1,Option.bind_some,Q5 (show k≤1048576 by omega),Int.toNat_natCast,List.take_length]
   rw [←a2]
   rfl) (by
  simp only [QK]
  rw [if_neg (show ¬(((Za.Zy b).length:Nat):Int)<(((ZuQ (places (Za.Design b)) (Za.Zy b) (ZnA nodes) (Za.Zy b).length).length:Nat):Int) by rw [Zpl];omega),Zwn])
 rw [ZuO] at this
 exact this
theorem Zlu (b:Za):ZnA (Za1 b)=Y9 b:=by
 funext k
 unfold ZnA
 by_cases hk:k<(places (Za.Design b)).length
 ·rw [Ziq hk];rfl
 ·rw [List.getElem?_eq_none (by rw [ZaY];omega)]
  unfold Y9
  rw [List.getElem?_eq_none (by omega)]
  rfl
theorem Zq8 {b:Za} (h:ZaN b) {k:Nat} {p:Pl} (hp:(places (Za.Design b))[k]?=some p) (h2:p.2.2.2.1=false) {n v:Int} (hn:ZbN (Za.Design b) n) :
  QA (Za.Library b,conn (Za.Design b) p.1 p.2.1 n,Za.Zy b,()) (ZlV Key (.int .i64) (Zbg (places (Za.Design b)) (Y9 b) (places (Za.Design b)).length) (Zse p) v)=some (moved b k p n v):=by
 have hM:=((ZiO (Za.Design b) (Y9 b)).put hp v).set hp n
 rw [←Qb hp n] at hM
 have hwl:(Za.Zy b).length≤1048576:=Zm (Zbm h.sm).2.2
 have hn1:n<((Za.Zy b).length:Int):=by rw [h.ok.2.1];have:=hn.2;omega
 exact ZfO (b:=(Za.Library b,conn (Za.Design b) p.1 p.2.1 n,Za.Zy b,())) (h.ok.1.few.conn p.1 p.2.1 n) hM (by
  show Zja (places (conn (Za.Design b) p.1 p.2.1 n)) (Za.Zy b).length
  rw [Qb hp]
  refine Zja.set (fun q hq hd=>?_) hn.1 hn1
  have:=Zaw h.ok.1 hq
  rw [h.ok.2.1]
  exact ⟨this.1,by have:=this.2;omega⟩) hwl
theorem ZqD {b:Za} (h:ZaN b) {k:Nat} {p:Pl} (hp:(places (Za.Design b))[k]?=some p) (n v:Int) :
  XZ (Za.Library b,conn (Za.Design b) p.1 p.2.1 n,Za.Zy b,()) ((Za1 b).set k v)=some (moved b k p n v):=by
 have hk:=(List.getElem?_eq_some_iff.1 hp).1
 have hf:=h.ok.1.few.conn p.1 p.2.1 n
 have e:=Zgu (b:=(Za.Library b,conn (Za.Design b) p.1 p.2.1 n,Za.Zy b,())) (nodes:=(Za1 b).set k v) hf (by
  show ((Za1 b).set k v).length=(places (conn (Za.Design b) p.1 p.2.1 n)).length
  rw [List.length_set,ZaY,Qb hp,List.length_set]) (Zm (Zbm h.sm).2.2)
 rw [e]
 have e2:ZnA ((Za1 b).set k v)=mvN b k v:=by
  funext j
  rw [ZpA (by rw [ZaY];exact hk),Zlu]
  rfl
 rw [e2]
 rfl
end Go.Proofs.YtfndhpjedmopdaaGreatDoor
/-
  Plain laws: a buffer put in, a buffer taken away: the program and the reference; edits applied.
-/
namespace Go.Proofs.YtfndhpjedmopdaaGreatDoor
set_option linter.unusedVariables false
set_option linter.unusedSimpArgs false
open Go Go.Sx
theorem Zuq {b:Za} (h:ZaN b):Zja (places (Za.Design b)) (Za.Zy b).length:=fun q hq _=>by
 have:=Zaw h.ok.1 hq
 rw [h.ok.2.1]
 exact ⟨this.1,by have:=this.2;omega⟩
theorem Zs6 (pl:List Pl) (ws:List Zo) (nd:Nat→Int) {w w':Zo} (h:∀ l,ZeR w l=ZeR w' l):wired pl (ws++[w]) nd=wired pl (ws++[w']) nd:=by
 unfold wired
 rw [ZeL,ZeL]
 simp only [cat,h]
theorem ZoB {b:Za} {e:Zg} (h:Zkq b e) (k2:Zg.Kind e=2) (hs:sm .str (Zg.Name e)) {p:Pl} (hp:Zf3 b e p) (hd:p.2.2.2.1=false):Jj b e=some (buffered b e (Zg.Place e).toNat p):=by
 have hB:=h.blk
 have hf:=hB.ok.1.few
 have h14:=hf.insts
 have h30:=hB.ok.1.2.1.2.1
 have hwn:=hB.ok.2.1
 have hR:=ZjR h k2 hs hp
 have hpk:=ZiS (e:=e) (q:=p) hB hp.2
 have hM0:=ZiO (Za.Design b) (Y9 b)
 have hv:ZiU Key (.int .i64) (Zbg (places (Za.Design b)) (Y9 b) (places (Za.Design b)).length) (p.1,p.2.1,())=some (Y9 b (Zg.Place e).toNat):=hM0 _ p hp.2 hd
 have hM1:=hM0.add (x:=Zo3 b e p) (s:=Zg.Name e) rfl (by omega) (Y9 b (Zg.Place e).toNat)
 have hM2:=(hM1.put hpk 0).set hpk ((Zb.ZM (Za.Design b)).length:Int)
 rw [←Qb hpk,←ZgH hp.2] at hM2
 have hN:=Zuq hR
 have hl:(Za.Zy (buffered b e (Zg.Place e).toNat p)).length=(Za.Zy b++[Zs3]).length:=ZgQ _ _ _
 rw [hl] at hN
 have hC:=ZfO (b:=(Za.Library b,Zqo b e p,Za.Zy b++[Zs3],())) hR.ok.1.few hM2 hN (by
  show (Za.Zy b++[Zs3]).length≤_
  rw [List.length_append,List.length_singleton];omega)
 have hS:=Zgo (b:=(Za.Library b,addInst (Za.Design b) (Zo3 b e p) (Zg.Name e),Za.Zy b++[Zs3],())) hpk ((Zb.ZM (Za.Design b)).length:Int)
 have eS:conn (Za.Design ((Za.Library b,addInst (Za.Design b) (Zo3 b e p) (Zg.Name e),Za.Zy b++[Zs3],()):Za)) p.1 p.2.1 ((Zb.ZM (Za.Design b)).length:Int)=Zqo b e p:=(ZgH hp.2).symm
 rw [eS] at hS
 unfold Jj
 rw [ZfV hB,Option.bind_some,Ye _ hf,Option.bind_some,hp.at,Option.bind_some,
  show YR (Zb.ZM (Za.Design b))=some ((Zb.ZM (Za.Design b)).length:Int) from rfl,Option.bind_some,
  show YS (Zb.Instances (Za.Design b))=some ((Zb.Instances (Za.Design b)).length:Int) from rfl,Option.bind_some,
  Zh (by rw [List.length_singleton];omega),Zh (by rw [List.length_singleton];omega),Zh (by rw [List.length_singleton];omega)]
 refine Eq.trans (congrArg (fun o=>Option.bind o _) hS) ?_
 rw [Option.bind_some]
 have e3:Option.getD (ZiU Zb7 (Ty.int IntKind.i64) (Zbg (places (Za.Design b)) (Y9 b) (places (Za.Design b)).length) (ZR.instance p,ZR.pin p,())) (0:Int)=Y9 b (Zg.Place e).toNat:=by
  have:ZiU Zb7 (Ty.int IntKind.i64) (Zbg (places (Za.Design b)) (Y9 b) (places (Za.Design b)).length) (ZR.instance p,ZR.pin p,())=some (Y9 b (Zg.Place e).toNat):=hv
  rw [this];rfl
 rw [e3]
 refine Eq.trans (congrArg (fun o=>Option.bind o _) hC) ?_
 rfl
theorem ZuP {b:Za} {k:Nat} (hk:k<(places (Za.Design b)).length) (v:Int) (hv:v=Y9 b k) :
  ZnA (((Za1 b).take (YD (Za.Design b))++[v,0]++(Za1 b).drop (YD (Za.Design b))).set (Zso b k) 0)=Zzj b k:=by
 have h2:=ZdC (Za.Design b)
 have hm:YD (Za.Design b)≤(Za1 b).length:=by rw [ZaY];omega
 funext j
 rw [ZpA (by
  rw [List.length_append,List.length_append,List.length_take,List.length_drop,ZaY]
  unfold Zso
  simp only [List.length_cons,List.length_nil]
  split<;>omega),ZvB hm,Zlu,hv]
 rfl
theorem Zoz {b:Za} {e:Zg} (h:Zkq b e) (k2:Zg.Kind e=2) (hs:sm .str (Zg.Name e)) {p:Pl} (hp:Zf3 b e p) (hd:p.2.2.2.1=false):ZbB b e=some (buffered b e (Zg.Place e).toNat p):=by
 have hB:=h.blk
 have hf:=hB.ok.1.few
 have hpl:=YK hf
 have h14:=hf.insts
 have h8:=hf.ports
 have h30:=hB.ok.1.2.1.2.1
 have hwn:=hB.ok.2.1
 have hk:=(List.getElem?_eq_some_iff.1 hp.2).1
 have h0:=hp.1
 have h2:=ZdC (Za.Design b)
 have hR:=ZjR h k2 hs hp
 have hW:IntKind.i64.wrap (((Za1 b).length:Int)-((Zb.ZQ (Za.Design b)).length:Int))=(YD (Za.Design b):Int):=by
  rw [ZaY,V7 (by omega) (by omega)];omega
 have hdr:List.take ((Za1 b).length-YD (Za.Design b)) (List.drop (YD (Za.Design b)) (Za1 b))=List.drop (YD (Za.Design b)) (Za1 b):=List.take_of_length_le (by rw [List.length_drop];exact Nat.le_refl _)
 have hlump:ZaG 1 0=some (([-1],[0],[0],[0],()):Zo):=by
  unfold ZaG
  rw [Zh (by omega),Zh (by omega),Zh (by omega),Zh (by omega)]
  rfl
 have hln:((Za1 b).take (YD (Za.Design b))++[Y9 b (Zg.Place e).toNat,0]++(Za1 b).drop (YD (Za.Design b))).length=(places (Za.Design b)).length+2:=by
  rw [List.length_append,List.length_append,List.length_take,List.length_drop,ZaY]
  simp only [List.length_cons,List.length_nil]
  omega
 have hbk:Zso b (Zg.Place e).toNat<(places (Za.Design b)).length+2:=by
  unfold Zso
  split<;>omega
 have hpl2:(places (Zqo b e p)).length=(places (Za.Design b)).length+2:=by
  have h3:=ZdC (Zqo b e p)
  rw [ZgH hp.2,Qb (ZiS (e:=e) (q:=p) hB hp.2),List.length_set]
  rw [ZfC,List.length_append,List.length_append,Vl,ZqZ,h2]
  unfold YD Zo3
  show _+2+_=_
  omega
 have hA:=Zgu (b:=(Za.Library b,Zqo b e p,Za.Zy b++[([-1],[0],[0],[0],())],())) (nodes:=((Za1 b).take (YD (Za.Design b))++[Y9 b (Zg.Place e).toNat,0]++(Za1 b).drop (YD (Za.Design b))).set (Zso b (Zg.Place e).toNat) 0) hR.ok.1.few (by
  show (List.set _ _ _).length=(places (Zqo b e p)).length
  rw [List.length_set,hln,hpl2]) (by
  show (Za.Zy b++[([-1],[0],[0],[0],())]).length≤_
  rw [List.length_append,List.length_singleton];omega)
 rw [ZuP hk _ rfl] at hA
 have hA2:XZ (Za.Library b,Zqo b e p,Za.Zy b++[([-1],[0],[0],[0],())],()) ((((Za1 b).take (YD (Za.Design b))++[Y9 b (Zg.Place e).toNat,0]++(Za1 b).drop (YD (Za.Design b)))).set (Zso b (Zg.Place e).toNat) 0)=some (buffered b e (Zg.Place e).toNat p):=by
  rw [hA]
  show some (Za.Library b,Zqo b e p,wired (places (Zqo b e p)) (Za.Zy b++[([-1],[0],[0],[0],())]) (Zzj b (Zg.Place e).toNat),())=_
  rw [Zs6 _ _ _ (w:=([-1],[0],[0],[0],())) (w':=Zs3) (fun l=>rfl)]
  rfl
 unfold ZbB
 rw [Xy _ hf,Option.bind_some,hp.at,Option.bind_some,Zfn hB,Option.bind_some,Qu hp.1 (Ziq hk),Option.bind_some,hW]
 simp only [Int.toNat_natCast,Int.toNat_zero,Nat.sub_zero,List.drop_zero,hdr]
 have hci:(Zb.Instances (conn (Za.Design b) p.1 p.2.1 ((Za.Zy b).length:Int))).length=(Zb.Instances (Za.Design b)).length:=Xf
 have hcn:(Zb.ZM (conn (Za.Design b) p.1 p.2.1 ((Za.Zy b).length:Int))).length=(Zb.ZM (Za.Design b)).length:=by rw [Vp]
 have hl1:(List.take (YD (Za.Design b)) (Za1 b)).length=YD (Za.Design b):=by rw [List.length_take,ZaY];omega
 have hl2:(List.drop (YD (Za.Design b)) (Za1 b)).length=(Zb.ZQ (Za.Design b)).length:=by rw [List.length_drop,ZaY];omega
 rw [Zh (by omega),Zh (by rw [ZaY];omega),ZdP _ (by omega),Option.bind_some,
  Zh (by rw [hl1];simp only [List.length_cons,List.length_nil];omega),Zh (by omega),Zh (by rw [List.length_append,hl1,hl2];simp only [List.length_cons,List.length_nil];omega),
  ZfF hp.2,Option.bind_some]
 have hx:∀ (i:Nat),i<(places (Za.Design b)).length+2→∃ y,((Za1 b).take (YD (Za.Design b))++[Y9 b (Zg.Place e).toNat,0]++(Za1 b).drop (YD (Za.Design b)))[i]?=some y:=fun i hi=>⟨_,List.getElem?_eq_getElem (by rw [hln];exact hi)⟩
 have hD:((Zb.Instances (conn (Za.Design b) p.1 p.2.1 ((Za.Zy b).length:Int))++[(Zg.Name e,Zg.Cell e,[ZW.net p,((Za.Zy b).length:Int)],())],Zb.ZM (conn (Za.Design b) p.1 p.2.1 ((Za.Zy b).length:Int))++[Zg.Name e],(conn (Za.Design b) p.1 p.2.1 ((Za.Zy b).length:Int)).snd.snd):Zb)=Zqo b e p:=by
  rw [hwn]
  rfl
 by_cases hc:YD (Za.Design b)≤(Zg.Place e).toNat
 ·have hbk2:Zso b (Zg.Place e).toNat=(Zg.Place e).toNat+2:=by unfold Zso;rw [if_neg (by omega)]
  obtain ⟨y,hy⟩:=hx ((Zg.Place e).toNat+2) (by omega)
  rw [if_pos (by omega),V7 (n:=Zg.Place e+2) (by omega) (by omega),show Zg.Place e+2=(((Zg.Place e).toNat+2:Nat):Int) by omega,Zu,hy,Option.bind_some,
   Zh (by rw [hci,List.length_singleton];omega),Zh (by rw [hcn,List.length_singleton];omega),hlump,Option.bind_some,Zh (by rw [List.length_singleton];omega),Int.toNat_natCast,←hbk2,hD]
  refine Eq.trans (congrArg (fun o=>Option.bind o _) hA2) ?_
  rfl
 ·have hbk2:Zso b (Zg.Place e).toNat=(Zg.Place e).toNat:=by unfold Zso;rw [if_pos (by omega)]
  obtain ⟨y,hy⟩:=hx (Zg.Place e).toNat (by omega)
  rw [if_neg (by omega),Qu hp.1 hy,Option.bind_some,
   Zh (by rw [hci,List.length_singleton];omega),Zh (by rw [hcn,List.length_singleton];omega),hlump,Option.bind_some,Zh (by rw [List.length_singleton];omega),hD]
  rw [hbk2] at hA2
  refine Eq.trans (congrArg (fun o=>Option.bind o _) hA2) ?_
  rfl
end Go.Proofs.YtfndhpjedmopdaaGreatDoor
/-
  Plain laws: a buffer taken away (reference); edits applied: the program and the reference.
-/
namespace Go.Proofs.YtfndhpjedmopdaaGreatDoor
set_option linter.unusedVariables false
set_option linter.unusedSimpArgs false
open Go Go.Sx
theorem Zmx {b:Za} (h:ZaN b) (hL:ZkD b) {k:Nat} {p:Pl} {m:Int} (hs:sinks (Za.Design b) (((Zb.ZM (Za.Design b)).length:Int)-1)=[(k:Int)]) (hp:(places (Za.Design b))[k]?=some p) (hpi:p.1≠((Zb.Instances (Za.Design b)).length:Int)-1)
  (hm:∀ x,(Zb.Instances (Za.Design b))[(Zb.Instances (Za.Design b)).length-1]?=some x→atI (Zd.ZM x) 0=some m):ZbL b=some (Zk0 b k p m):=by
 have hR:=Zj2 h hL hs hp hpi hm
 obtain ⟨hn,x,hx,hl2⟩:=hL.two
 have hmx:=hm x hx
 have hf:=h.ok.1.few
 have hpl:=YK hf
 have h14:=hf.insts
 have h8:=hf.ports
 have h30:=h.ok.1.2.1.2.1
 have hwn:=h.ok.2.1
 have hk:=(List.getElem?_eq_some_iff.1 hp).1
 have h2:=ZdC (Za.Design b)
 have hi2:=Zh0 hn hx hl2
 have hpos:1≤(Zb.ZM (Za.Design b)).length:=by
  have:=Zaw h.ok.1 (List.mem_of_getElem? hp)
  unfold ZbN at this
  omega
 have hx2:atI (Zb.Instances (Za.Design b)) (((Zb.Instances (Za.Design b)).length:Int)-1)=some x:=Qu (by omega) (by rw [←hx];congr 1;omega)
 have t1:Int.toNat (((Zb.Instances (Za.Design b)).length:Int)-1)=(Zb.Instances (Za.Design b)).length-1:=by omega
 have hset:((List.set (Zb.Instances (Za.Design b)) ((Zb.Instances (Za.Design b)).length-1) x,(Za.Design b).snd):Zb)=Za.Design b:=by rw [ZbR hx]
 have hW1:IntKind.i64.wrap (((Za.Zy b).length:Int)-1)=(((Za.Zy b).length-1:Nat):Int):=by rw [V7 (by omega) (by omega)];omega
 have hW2:IntKind.i64.wrap (((Za1 b).length:Int)-((Zb.ZQ (Za.Design b)).length:Int))=(YD (Za.Design b):Int):=by rw [ZaY,V7 (by omega) (by omega)];omega
 have hW3:IntKind.i64.wrap ((YD (Za.Design b):Int)-2)=((YD (Za.Design b)-2:Nat):Int):=by rw [V7 (by omega) (by omega)];omega
 have hW4:IntKind.i64.wrap (((Zb.Instances (Za.Design b)).length:Int)-1)=(((Zb.Instances (Za.Design b)).length-1:Nat):Int):=by rw [V7 (by omega) (by omega)];omega
 have hsk:X0 (Za.Design b) (((Za.Zy b).length-1:Nat):Int)=some [(k:Int)]:=by
  rw [J8 _ _ hf,show (((Za.Zy b).length-1:Nat):Int)=((Zb.ZM (Za.Design b)).length:Int)-1 by omega,hs]
 have hx3:atI (Zb.Instances (Za.Design b)) (((Zb.Instances (Za.Design b)).length-1:Nat):Int)=some x:=by rw [Zu];exact hx
 have hls:(List.set (Za1 b) k (Y9 b (YD (Za.Design b)-2))).length=(places (Za.Design b)).length:=by rw [List.length_set,ZaY]
 have hdr:List.take ((List.set (Za1 b) k (Y9 b (YD (Za.Design b)-2))).length-YD (Za.Design b)) (List.drop (YD (Za.Design b)) (List.set (Za1 b) k (Y9 b (YD (Za.Design b)-2))))=List.drop (YD (Za.Design b)) (List.set (Za1 b) k (Y9 b (YD (Za.Design b)-2))):=List.take_of_length_le (by rw [List.length_drop];exact Nat.le_refl _)
 have hci:(Zb.Instances (conn (Za.Design b) p.1 p.2.1 m)).length=(Zb.Instances (Za.Design b)).length:=Xf
 have hcn:(Zb.ZM (conn (Za.Design b) p.1 p.2.1 m)).length=(Zb.ZM (Za.Design b)).length:=by rw [Vp]
 have hl1:(List.take (YD (Za.Design b)-2) (List.set (Za1 b) k (Y9 b (YD (Za.Design b)-2)))).length=YD (Za.Design b)-2:=by rw [List.length_take,hls];omega
 have hl3:(List.drop (YD (Za.Design b)) (List.set (Za1 b) k (Y9 b (YD (Za.Design b)-2)))).length=(Zb.ZQ (Za.Design b)).length:=by rw [List.length_drop,hls];omega
 have hins:YD (unD b p m)=YD (Za.Design b)-2:=by
  have hn2:0<(Zb.Instances (conn (Za.Design b) p.1 p.2.1 m)).length:=by rw [Xf];exact hn
  have hx4:(Zb.Instances (conn (Za.Design b) p.1 p.2.1 m))[(Zb.Instances (conn (Za.Design b) p.1 p.2.1 m)).length-1]?=some ((Zb.Instances (conn (Za.Design b) p.1 p.2.1 m))[(Zb.Instances (conn (Za.Design b) p.1 p.2.1 m)).length-1]'(by omega)):=List.getElem?_eq_getElem _
  generalize (Zb.Instances (conn (Za.Design b) p.1 p.2.1 m))[(Zb.Instances (conn (Za.Design b) p.1 p.2.1 m)).length-1]'(by omega)=x' at hx4
  obtain ⟨y,hy,_,_,hyl,_⟩:=ZfZ hx4
  rw [Xf,hx] at hy
  injection hy with hy
  have h5:=Zh0 hn2 hx4 (by rw [hyl,←hy,hl2])
  have h6:=Zk9 hp m
  unfold unD
  omega
 have hup:(places (unD b p m)).length=(places (Za.Design b)).length-2:=by
  have h5:=ZdC (unD b p m)
  have h6:(Zb.ZQ (unD b p m)).length=(Zb.ZQ (Za.Design b)).length:=ZgL
  omega
 have hA:=Zgu (b:=(Za.Library b,unD b p m,(Za.Zy b).take ((Za.Zy b).length-1),())) (nodes:=(Za1 b |>.set k (Y9 b (YD (Za.Design b)-2))).take (YD (Za.Design b)-2)++(Za1 b |>.set k (Y9 b (YD (Za.Design b)-2))).drop (YD (Za.Design b))) hR.ok.1.few (by
  show (List.take _ _++List.drop _ _).length=(places (unD b p m)).length
  rw [List.length_append,hl1,hl3,hup];omega) (by
  show (List.take _ _).length≤_
  rw [List.length_take];omega)
 have hnd:ZnA ((Za1 b |>.set k (Y9 b (YD (Za.Design b)-2))).take (YD (Za.Design b)-2)++(Za1 b |>.set k (Y9 b (YD (Za.Design b)-2))).drop (YD (Za.Design b)))=unN b k:=by
  funext j
  have:=Zwl (l:=(Za1 b).set k (Y9 b (YD (Za.Design b)-2))) (m:=YD (Za.Design b)-2) (by omega) j
  rw [show YD (Za.Design b)-2+2=YD (Za.Design b) by omega] at this
  rw [this]
  unfold unN
  congr 1
  funext i
  rw [ZpA (by rw [ZaY];exact hk),Zlu]
  rfl
 rw [hnd] at hA
 have hD:((List.take ((Zb.Instances (Za.Design b)).length-1) (Zb.Instances (conn (Za.Design b) p.1 p.2.1 m)),List.take ((Za.Zy b).length-1) (Zb.ZM (conn (Za.Design b) p.1 p.2.1 m)),(conn (Za.Design b) p.1 p.2.1 m).snd.snd):Zb)=unD b p m:=by
  unfold unD XV
  rw [Xf,Vp,hwn]
 unfold ZbL
 rw [Zfn h,Option.bind_some,hW1,hsk,Option.bind_some,show atI [(k:Int)] 0=some (k:Int) from rfl,Option.bind_some,hW2,hW3,Zu,Ziq (by omega),Option.bind_some,Zu,Ziq hk,Option.bind_some,hW4,hx3,Option.bind_some,
  show x.snd.snd.fst=Zd.ZM x from rfl,hmx,Option.bind_some]
 simp only [Int.toNat_natCast,Int.toNat_zero,Nat.sub_zero,List.drop_zero]
 rw [hset,Xy _ hf,Option.bind_some,Zu,hp,Option.bind_some,ZfF hp,Option.bind_some,Zh (by omega),Zh (by rw [hls];omega),ZdP _ (by omega),Option.bind_some,
  Zh (by omega),Zh (by rw [hls];omega),Zh (by omega),hdr,Zh (by rw [hl1,hl3];omega),Zh (by omega),Zh (by rw [hci];omega),Zh (by omega),Zh (by rw [hcn];omega),Zh (by omega),hD]
 refine Eq.trans (congrArg (fun o=>Option.bind o _) hA) ?_
 rfl
def Lens (b:Za) (e:Zg) (r:Za):Prop:=(places (Za.Design r)).length+(if Zg.Kind e=3 then 2 else 0)=(places (Za.Design b)).length+(if Zg.Kind e=2 then 2 else 0)
theorem Zvb (d:Zb) (x:Zd) (s:List UInt8):(places (addInst d x s)).length=(places d).length+(Zd.ZM x).length:=by
 rw [ZfC,List.length_append,List.length_append,Vl]
 unfold places
 rw [List.length_append]
 omega
theorem Zxs {b:Za} (h:ZaN b) {e:Zg} {k:Nat} {p:Pl} (hp:(places (Za.Design b))[k]?=some p):(places (Zqo b e p)).length=(places (Za.Design b)).length+2:=by
 rw [ZgH hp,Qb (ZiS h hp),List.length_set,Zvb]
 rfl
theorem ZrE {b:Za} {e:Zg} {r:Za} (h2:Zg.Kind e≠2) (h3:Zg.Kind e≠3) (h:(places (Za.Design r)).length=(places (Za.Design b)).length):Lens b e r:=by
 unfold Lens
 rw [if_neg h2,if_neg h3,h]
theorem Zvd {b:Za} {e:Zg} (h:Zkq b e) (he:sm QW e):∃ r,ZdY e b=some r∧Zfy b e=some r∧ZaN r∧Za.Library r=Za.Library b∧Lens b e r:=by
 have hB:=h.blk
 have hf:=hB.ok.1.few
 have hwn:=hB.ok.2.1
 obtain ⟨b1,b2,b3⟩:=Zbm hB.sm
 unfold ZdY Zfy
 rw [ZjD _ hB.sm,Option.bind_some,ZrN _ hB.sm,Option.bind_some,Xy _ hf,Option.bind_some]
 by_cases k1:Zg.Kind e=1
 ·obtain ⟨p,x,c,c2,hp,h0,hd,hx,hc,hc2,ha⟩:=h.poss.1 k1
  obtain ⟨_,hcr⟩:=h.range.1 (.inl k1)
  have hx2:(Zb.Instances (Za.Design b))[p.1.toNat]?=some x:=by
   unfold atI at hx
   rw [if_pos h0] at hx
   exact hx
  obtain ⟨⟨hxc,_⟩,_,_⟩:=hB.ok.1.2.2.1 x (List.mem_of_getElem? hx2)
  have hc3:(Zk.Cells (Za.Library b))[(Zd.Cell x).toNat]?=some c:=by
   unfold atI at hc
   rw [if_pos hxc] at hc
   exact hc
  have hc4:(Zk.Cells (Za.Library b))[(Zg.Cell e).toNat]?=some c2:=by
   unfold atI at hc2
   rw [if_pos hcr.1] at hc2
   exact hc2
  have hR:=Ztk hB h0 hx2 hc3 hc4 hcr (Zuz (ZaM (ZoJ b1) hc3) (ZaM (ZoJ b1) hc4) ha)
  rw [if_pos k1,if_pos k1,Ye _ hf,Option.bind_some,hp.at,Option.bind_some]
  have e1:ZR.instance p=p.1:=rfl
  have e2:ZW.instance p=p.1:=rfl
  simp only [e1,e2,hx,Option.bind_some]
  refine ⟨swapped b p.1 (Zg.Cell e),?_,?_,hR,rfl,ZrE (by omega) (by omega) ?_⟩
  ·unfold swapped;rw [hx2]
  ·unfold swapped;rw [hx2]
  ·unfold swapped;rw [hx2];exact congrArg List.length (Zjm hx2 _)
 rw [if_neg k1,if_neg k1]
 by_cases k2:Zg.Kind e=2
 ·obtain ⟨p,c,hp,hd,_⟩:=h.poss.2.1 k2
  have hs:=(ZoN he).1
  rw [if_pos k2,if_pos k2,ZoB h k2 hs hp hd,Zoz h k2 hs hp hd]
  exact ⟨_,rfl,rfl,ZjR h k2 hs hp,rfl,by unfold Lens;rw [if_neg (by omega),if_pos k2];exact Zxs hB hp.2⟩
 rw [if_neg k2,if_neg k2]
 by_cases k3:Zg.Kind e=3
 ·have hL:=h.poss.2.2.1 k3
  obtain ⟨k,p,m,v,hs,hp,hpi,hm,hv,hun⟩:=Zmj hB hL
  have hR:=Zj2 hB hL hs hp hpi hm
  rw [if_pos k3,if_pos k3,hun,Zmx hB hL hs hp hpi hm]
  obtain ⟨hn,x,hx,hl2⟩:=hL.two
  have hn2:0<(Zb.Instances (conn (Za.Design b) p.1 p.2.1 m)).length:=by rw [Xf];exact hn
  have hx4:(Zb.Instances (conn (Za.Design b) p.1 p.2.1 m))[(Zb.Instances (conn (Za.Design b) p.1 p.2.1 m)).length-1]?=some ((Zb.Instances (conn (Za.Design b) p.1 p.2.1 m))[(Zb.Instances (conn (Za.Design b) p.1 p.2.1 m)).length-1]'(by omega)):=List.getElem?_eq_getElem _
  generalize (Zb.Instances (conn (Za.Design b) p.1 p.2.1 m))[(Zb.Instances (conn (Za.Design b) p.1 p.2.1 m)).length-1]'(by omega)=x' at hx4
  obtain ⟨y,hy,_,_,hyl,_⟩:=ZfZ hx4
  rw [Xf,hx] at hy
  injection hy with hy
  have h5:=Zh0 hn2 hx4 (by rw [hyl,←hy,hl2])
  have h6:=Zk9 hp m
  have hins:YD (unD b p m)=YD (Za.Design b)-2:=by unfold unD;omega
  refine ⟨Zk0 b k p m,by rw [hins,hv];rfl,rfl,hR,rfl,?_⟩
  have h7:=congrArg List.length (ZiH (s:=[]) hn2 hx4)
  rw [Zvb,hyl,←hy,hl2,Qb hp,List.length_set] at h7
  unfold Lens
  rw [if_pos k3,if_neg (by omega)]
  exact h7.symm
 rw [if_neg k3,if_neg k3]
 by_cases k4:Zg.Kind e=4
 ·obtain ⟨p,hp,hd,hne⟩:=h.poss.2.2.2.1 k4
  obtain ⟨_,hn,w,hw,hnode⟩:=h.range.2.1 k4
  have hk:=(List.getElem?_eq_some_iff.1 hp.2).1
  have hR:=Zwe hB hp.2 hd hn (v:=Zg.Node e) (fun w' hw'=>by rw [hw] at hw';injection hw' with hw';rw [←hw'];exact hnode)
  rw [if_pos k4,if_pos k4,ZfV hB,Option.bind_some,Ye _ hf,Option.bind_some,hp.at,Option.bind_some,Zfn hB,Option.bind_some,Qu hp.1 (Ziq hk),Option.bind_some,Option.bind_some,ZfF hp.2,Option.bind_some,
   show (ZR.instance p,ZR.pin p,())=(p.1,p.2.1,()) from rfl,Zgo hp.2,Option.bind_some]
  refine ⟨moved b (Zg.Place e).toNat p (Zg.Net e) (Zg.Node e),?_,?_,hR,rfl,ZrE k2 k3 (by show (places (conn _ _ _ _)).length=_;rw [Qb hp.2,List.length_set])⟩
  ·exact congrArg (fun o=>Option.bind o fun connect0=>some connect0) (Zq8 hB hp.2 hd hn (v:=Zg.Node e))
  ·exact congrArg (fun o=>Option.bind o fun l08Attach0=>some l08Attach0) (ZqD hB hp.2 (Zg.Net e) (Zg.Node e))
 ·have k5:Zg.Kind e=5:=by have:=h.blank;unfold Blank at this;omega
  have hn:=h.range.2.2 k5
  obtain ⟨w,hw1,hw2,_⟩:=ZkW hB hn
  have hsw:=(ZoN he).2
  have hR:=Zuh hB hn (h.poss.2.2.2.2 k5) hsw
  rw [if_neg k4,if_neg k4,if_pos k5,if_pos k5,Zgd _ hsw,Option.bind_some,Zh5 _ hsw,Option.bind_some,hw2,Option.bind_some]
  exact ⟨Zw2 b (Zg.Net e) (Zg.Zet e),rfl,rfl,hR,rfl,ZrE k2 k3 rfl⟩
theorem Zt2 (r:Zg) (h:sm QW r):Zj0 QW r≤4194304:=by
 obtain ⟨a1,a2,a3,a4⟩:=Zjn (ZoN h).2
 have s1:=Zm a1
 have s2:=Zm a2
 have s3:=Zm a3
 have s4:=Zm a4
 have e:Zj0 QW r=cnt (.sl (.int .i64)) (Zo.Parent (Zg.Zet r))+(cnt (.sl (.int .i64)) (Zo.Res (Zg.Zet r))+(cnt (.sl (.int .i64)) (Zo.Cap (Zg.Zet r))+cnt (.sl (.int .i64)) (Zo.Zfj (Zg.Zet r)))):=by
  simp only [Zj0,Nat.zero_add,Nat.add_zero]
 rw [e,ZmN,ZmN,ZmN,ZmN]
 omega
end Go.Proofs.YtfndhpjedmopdaaGreatDoor
/-
  Plain laws: timings; a timing that is carried over an edit.
-/
namespace Go.Proofs.YtfndhpjedmopdaaGreatDoor
set_option linter.unusedVariables false
set_option linter.unusedSimpArgs false
open Go Go.Sx
def Zero (s:Yh):Prop:=Yh.Early s=0∧Yh.Late s=0
def Ztu (t:Zn) (k:Nat) (r:Bool):Prop :=
 ∃ a s,(Zn.Y7 t)[k]?=some a∧(Zn.ZbU t)[k]?=some s∧Zjh a∧ZkJ s∧(r=false→Zero a∧Zero s)
def ZqA (n:Int) (t:Zn):Prop :=
 ((Zn.Reached t).length:Int)=n∧((Zn.Y7 t).length:Int)=n∧((Zn.ZbU t).length:Int)=n∧Zgw (Zn.Reached t) (Ztu t)
theorem Zsk {ρ:Type} {t:Zn} {k:Nat} {x:Bool} {a s:Yh} {nx bd:ρ} (ha:(Zn.Y7 t)[k]?=some a) (hs:(Zn.ZbU t)[k]?=some s) :
  (Ztu t k x→((if tr (Zjh a)=true then (if tr (ZkJ s)=true then (if x=true then some nx else if (Decidable.decide (Yh.Early a=(0:Int))&&Decidable.decide (Yh.Late a=(0:Int)))=true then (if (Decidable.decide (Yh.Early s=(0:Int))&&Decidable.decide (Yh.Late s=(0:Int)))=true then some nx else some bd) else some bd) else some bd) else some bd):Option ρ)=some nx)∧
  (¬Ztu t k x→((if tr (Zjh a)=true then (if tr (ZkJ s)=true then (if x=true then some nx else if (Decidable.decide (Yh.Early a=(0:Int))&&Decidable.decide (Yh.Late a=(0:Int)))=true then (if (Decidable.decide (Yh.Early s=(0:Int))&&Decidable.decide (Yh.Late s=(0:Int)))=true then some nx else some bd) else some bd) else some bd) else some bd):Option ρ)=some bd):=by
 have hT:Ztu t k x↔Zjh a∧ZkJ s∧(x=false→Zero a∧Zero s):=by
  constructor
  ·rintro ⟨a',s',h1,h2,h3⟩
   rw [ha] at h1;rw [hs] at h2
   injection h1 with h1;injection h2 with h2
   subst h1;subst h2;exact h3
  ·exact fun h=>⟨a,s,ha,hs,h⟩
 rw [hT]
 have hz:∀ u:Yh,((Decidable.decide (Yh.Early u=(0:Int))&&Decidable.decide (Yh.Late u=(0:Int)))=true)↔Zero u:=fun u=>by
  unfold Zero;rw [Bool.and_eq_true,decide_eq_true_eq,decide_eq_true_eq]
 by_cases c1:Zjh a
 ·rw [if_pos (YL c1)]
  by_cases c2:ZkJ s
  ·rw [if_pos (YL c2)]
   cases x
   ·rw [if_neg (by decide)]
    by_cases c3:Zero a
    ·rw [if_pos ((hz a).2 c3)]
     by_cases c4:Zero s
     ·rw [if_pos ((hz s).2 c4)]
      exact ⟨fun _=>rfl,fun q=>absurd ⟨c1,c2,fun _=>⟨c3,c4⟩⟩ q⟩
     ·rw [if_neg (fun q=>c4 ((hz s).1 q))]
      exact ⟨fun q=>absurd (q.2.2 rfl).2 c4,fun _=>rfl⟩
    ·rw [if_neg (fun q=>c3 ((hz a).1 q))]
     exact ⟨fun q=>absurd (q.2.2 rfl).1 c3,fun _=>rfl⟩
   ·rw [if_pos rfl]
    exact ⟨fun _=>rfl,fun q=>absurd ⟨c1,c2,fun h=>by cases h⟩ q⟩
  ·rw [if_neg (fun q=>c2 ((Qs _).1 q))]
   exact ⟨fun q=>absurd q.2.1 c2,fun _=>rfl⟩
 ·rw [if_neg (fun q=>c1 ((Qs _).1 q))]
  exact ⟨fun q=>absurd q.1 c1,fun _=>rfl⟩
theorem Zl7 {b:Za} (h:ZaN b) (v:Zbl) (hv:Zbl.places v=places (Za.Design b)) (t:Zn):Vs v t=some (tr (ZqA (2*((places (Za.Design b)).length:Int)) t)):=by
 have hpl:=YK h.ok.1.few
 unfold Vs JN
 rw [show YX (Zbl.places v)=some ((Zbl.places v).length:Int) from rfl,Option.bind_some,Option.bind_some,hv,V7 (n:=2*((places (Za.Design b)).length:Int)) (by omega) (by omega),
  show VJ (Zn.Reached t)=some ((Zn.Reached t).length:Int) from rfl,show Xt (Zn.Y7 t)=some ((Zn.Y7 t).length:Int) from rfl,show Xt (Zn.ZbU t)=some ((Zn.ZbU t).length:Int) from rfl]
 simp only [Option.bind_some]
 unfold ZqA
 refine Yj fun q1=>Yj fun q2=>Yj fun q3=>?_
 rw [J4 (l:=Zn.Reached t) (show Len (Zn.Reached t) by unfold Len;omega) (Ztu t) (bad:=false) (good:=true) (step:=fun v=>Xp t v.1)
  (fun k x hx hk _=>by
   have ha:(Zn.Y7 t)[k]?=some ((Zn.Y7 t)[k]'(by omega)):=List.getElem?_eq_getElem _
   have hs:(Zn.ZbU t)[k]?=some ((Zn.ZbU t)[k]'(by omega)):=List.getElem?_eq_getElem _
   generalize (Zn.Y7 t)[k]'(by omega)=a at ha
   generalize (Zn.ZbU t)[k]'(by omega)=s at hs
   simp only [Xp,show (k:Int)<((Zn.Reached t).length:Int) from by omega,if_true,Zu,hx,ha,hs,Option.bind_some,Zje,Zmh]
   exact Zsk ha hs)
  (fun _=>by simp only [Xp,Int.lt_irrefl,if_false]),Zkv]
theorem Zlo {n:Int} (h0:0≤n) (h1:n≤1048576) (t:Zn):Zbx n t=some (tr (ZqA n t)):=by
 unfold Zbx ZqA
 refine Yj fun q1=>Yj fun q2=>Yj fun q3=>?_
 rw [J4 (l:=Zn.Reached t) (show Len (Zn.Reached t) by unfold Len;omega) (Ztu t) (bad:=false) (good:=true) (step:=fun v=>QT t v.1)
  (fun k x hx hk _=>by
   have ha:(Zn.Y7 t)[k]?=some ((Zn.Y7 t)[k]'(by omega)):=List.getElem?_eq_getElem _
   have hs:(Zn.ZbU t)[k]?=some ((Zn.ZbU t)[k]'(by omega)):=List.getElem?_eq_getElem _
   generalize (Zn.Y7 t)[k]'(by omega)=a at ha
   generalize (Zn.ZbU t)[k]'(by omega)=s at hs
   simp only [QT,show (k:Int)<((Zn.Reached t).length:Int) from by omega,if_true,Zu,hx,ha,hs,Option.bind_some,ZoE,Zmn]
   exact Zsk ha hs)
  (fun _=>by simp only [QT,Int.lt_irrefl,if_false]),Zkv]
theorem Zhr {b:Za} (h:Few (Za.Design b)):Zbi b=some (2*((places (Za.Design b)).length:Int)):=by
 have hpl:=YK h
 unfold Zbi
 rw [Xy _ h,Option.bind_some,V7 (by omega) (by omega)]
theorem ZmE {b:Za} (h:ZaN b) (t:Zn):Zfx b t=some (tr (ZqA (2*((places (Za.Design b)).length:Int)) t)):=by
 have hpl:=YK h.ok.1.few
 unfold Zfx
 rw [ZfL b h.sm,Option.bind_some,if_pos (YL h.ok),Zhr h.ok.1.few,Option.bind_some,Zlo (by omega) (by omega)]
 rfl
theorem Zt5 {b:Za} {e:Zg} {k:Nat} {p:Pl} (hp:(places (Za.Design b))[k]?=some p):(after b e)[k]?=some (Zou b e k p):=by
 unfold after
 rw [Zbe,hp]
 simp
theorem ZwQ {b:Za} {e:Zg} {r:Za} (h:Zkq b e) (hL:Lens b e r) {k:Nat} {p:Pl} (hp:(places (Za.Design b))[k]?=some p):-1≤Zou b e k p∧Zou b e k p<((places (Za.Design r)).length:Int):=by
 have hk:=(List.getElem?_eq_some_iff.1 hp).1
 obtain ⟨hpp,hm1⟩:=ZgK hp
 unfold Lens at hL
 have hports:(Zb.ZQ (Za.Design b)).length≤(places (Za.Design b)).length:=by rw [ZdC];omega
 by_cases k2:Zg.Kind e=2
 ·rw [if_neg (by omega),if_pos k2] at hL
  by_cases q1:p.1<0
  ·rw [Zu6 k2 q1];omega
  ·rw [ZoP (by omega) (fun q=>q1 q.2)];omega
 ·by_cases k3:Zg.Kind e=3
  ·rw [if_pos k3,if_neg k2] at hL
   obtain ⟨hn,x,hx,hx2⟩:=h.last k3
   by_cases q1:p.1<0
   ·rw [ZuE k3 q1]
    have:=hpp.1 q1
    obtain ⟨y,hy⟩:∃ y,(Zd.ZM x)[1]?=some y:=⟨_,List.getElem?_eq_getElem (by omega)⟩
    have hp2:=Zfe hx hy
    obtain ⟨hq,_⟩:=ZgK hp2
    have:¬(ZdW ((Zb.Instances (Za.Design b)).length-1) x 1 y).1<0:=by
     show ¬(((Zb.Instances (Za.Design b)).length-1:Nat):Int)<0
     omega
    have h3:¬(places (Za.Design b)).length≤Zfq (Za.Design b) ((Zb.Instances (Za.Design b)).length-1)+1+(Zb.ZQ (Za.Design b)).length:=fun q=>this (hq.2 q)
    omega
   ·have hq:=ZoV hn hx hp (by omega)
    rw [hx2] at hq
    by_cases q2:p.1=((Zb.Instances (Za.Design b)).length:Int)-1
    ·rw [Zu4 k3 q1 q2];omega
    ·rw [Zun k3 q1 q2]
     have:¬(places (Za.Design b)).length≤k+(Zb.ZQ (Za.Design b)).length+2:=fun q=>q2 (hq.2 q)
     omega
  ·rw [if_neg k3,if_neg k2] at hL
   rw [ZoP k3 (fun q=>k2 q.1)];omega
def Zvm (n:Nat):Zn:=(List.replicate n false,List.replicate n (0,0,()),List.replicate n (0,0,()),())
theorem Zlh {b:Za} (h:Few (Za.Design b)) (v:Zbl) (hv:Zbl.places v=places (Za.Design b)):Vg v=some (Zvm (2*(places (Za.Design b)).length)):=by
 have hpl:=YK h
 unfold Vg JN
 rw [show YX (Zbl.places v)=some ((Zbl.places v).length:Int) from rfl,Option.bind_some,Option.bind_some,hv,V7 (n:=2*((places (Za.Design b)).length:Int)) (by omega) (by omega)]
 rw [Zh (by omega),Zh (by omega),Zh (by omega),Zh (by omega),Zh (by omega)]
 rw [show (2*((places (Za.Design b)).length:Int)).toNat=2*(places (Za.Design b)).length by omega]
 rfl
theorem Zmq {n:Nat} (h:n≤1048576):Zct ((n:Nat):Int)=some (Zvm n):=by
 unfold Zct
 rw [Zh (by omega),Zh (by omega),Zh (by omega),Zh (by omega),Zh (by omega)]
 rfl
def ZnF (af:List Int) (t:Zn) (k:Nat) (r:Bool) (o:Zn):Zn :=
 if (af[k / 2]?).getD 0<0 then o else
  (List.set (Zn.Reached o) (2*(af[k / 2]?).getD 0+((k % 2:Nat):Int)).toNat r,List.set (Zn.Y7 o) (2*(af[k / 2]?).getD 0+((k % 2:Nat):Int)).toNat (((Zn.Y7 t)[k]?).getD (0,0,())),
   List.set (Zn.ZbU o) (2*(af[k / 2]?).getD 0+((k % 2:Nat):Int)).toNat (((Zn.ZbU t)[k]?).getD (0,0,())),())
def Zsa (af:List Int) (t:Zn) (n:Nat):Zn:=foldI (ZnF af t) 0 (Zn.Reached t) (Zvm n)
def Zn6 (n:Nat) (o:Zn):Prop:=(Zn.Reached o).length=n∧(Zn.Y7 o).length=n∧(Zn.ZbU o).length=n
theorem ZlI {af:List Int} {t:Zn} {k n:Nat} {r:Bool} {o:Zn} (h:Zn6 n o):Zn6 n (ZnF af t k r o):=by
 unfold ZnF
 split
 ·exact h
 ·obtain ⟨h1,h2,h3⟩:=h
  refine ⟨?_,?_,?_⟩
  ·show (List.set (Zn.Reached o) _ _).length=n;rw [List.length_set];exact h1
  ·show (List.set (Zn.Y7 o) _ _).length=n;rw [List.length_set];exact h2
  ·show (List.set (Zn.ZbU o) _ _).length=n;rw [List.length_set];exact h3
theorem Zqk (n:Nat):Zn6 n (Zvm n):=⟨List.length_replicate,List.length_replicate,List.length_replicate⟩
theorem ZqI {α σ:Type} {f:Nat→α→σ→σ} (I:σ→Prop) (hf:∀ k x s,I s→I (f k x s)):∀ (l:List α) (m:Nat) (s:σ),I s→I (foldI f m l s)
 | [],_,_,h=>h
 | x::r,m,s,h=>ZqI I hf r (m+1) (f m x s) (hf m x s h)
theorem ZrU (af:List Int) (t:Zn) (n:Nat):Zn6 n (Zsa af t n):=ZqI (Zn6 n) (fun k x s h=>ZlI h) _ _ _ (Zqk n)
theorem Zxp {k:Nat} (h:k≤1048576):IntKind.i64.wrap (Int.tdiv (k:Int) 2)=((k / 2:Nat):Int):=by
 rw [Int.tdiv_eq_ediv_of_nonneg (by omega),V7 (by omega) (by omega)];omega
theorem Zxh (k:Nat):Int.tmod (k:Int) 2=((k % 2:Nat):Int):=by
 rw [Int.tmod_eq_emod_of_nonneg (by omega)];omega
end Go.Proofs.YtfndhpjedmopdaaGreatDoor
/-
  Plain laws: the law FnExactTimingAfter.
-/
namespace Go.Proofs.YtfndhpjedmopdaaGreatDoor
set_option linter.unusedVariables false
set_option linter.unusedSimpArgs false
open Go Go.Sx
theorem ZwX {b:Za} {e:Zg} {r:Za} (h:Zkq b e) (hL:Lens b e r) {k:Nat} (hk:k<2*(places (Za.Design b)).length) :
  ∃ q,atI (after b e) (IntKind.i64.wrap (Int.tdiv (k:Int) 2))=some q∧((after b e)[k / 2]?).getD 0=q∧-1≤q∧q<((places (Za.Design r)).length:Int):=by
 have hpl:=YK h.blk.ok.1.few
 have hp:(places (Za.Design b))[k / 2]?=some ((places (Za.Design b))[k / 2]'(by omega)):=List.getElem?_eq_getElem _
 generalize (places (Za.Design b))[k / 2]'(by omega)=p at hp
 have hg:=Zt5 (e:=e) hp
 obtain ⟨h1,h2⟩:=ZwQ h hL hp
 exact ⟨Zou b e (k / 2) p,by rw [Zxp (by omega),Zu,hg],by rw [hg];rfl,h1,h2⟩
theorem Zvc {n k:Nat} {q:Int} (h0:0≤q) (h1:2*q+2≤(n:Int)) (hn:n≤1048576):IntKind.i64.wrap (IntKind.i64.wrap (2*q)+Int.tmod (k:Int) 2)=2*q+((k % 2:Nat):Int)∧(2*q+((k % 2:Nat):Int)).toNat<n:=by
 rw [Zxh,V7 (n:=2*q) (by omega) (by omega),V7 (by omega) (by omega)]
 exact ⟨rfl,by omega⟩
theorem Zk1 {α:Type} {l:List α} {n:Nat} (hl:l.length=n) {i:Int} (h0:0≤i) (h1:i.toNat<n):∃ x,atI l i=some x :=
 ⟨l[i.toNat]'(by omega),Qu h0 (List.getElem?_eq_getElem _)⟩
theorem Zrc {b:Za} {e:Zg} {r:Za} (h:Zkq b e) (hr:ZaN r) (hL:Lens b e r) {t:Zn} (ht:ZqA (2*((places (Za.Design b)).length:Int)) t) :
  Zt (fun v=>Qw t (after b e) ((Zn.Reached t).length:Int) v.1 v.2.1 v.2.2.1 v.2.2.2.1) ((0:Int),Zn.Reached (Zvm (2*(places (Za.Design r)).length)),Zn.Y7 (Zvm (2*(places (Za.Design r)).length)),Zn.ZbU (Zvm (2*(places (Za.Design r)).length)),())=some (Zsa (after b e) t (2*(places (Za.Design r)).length))∧
  Zt (fun v=>QM t (after b e) v.1 v.2.1 v.2.2.1 v.2.2.2.1) ((0:Int),Zn.Reached (Zvm (2*(places (Za.Design r)).length)),Zn.Y7 (Zvm (2*(places (Za.Design r)).length)),Zn.ZbU (Zvm (2*(places (Za.Design r)).length)),())=some (Zsa (after b e) t (2*(places (Za.Design r)).length)):=by
 have hpb:=YK h.blk.ok.1.few
 have hpr:=YK hr.ok.1.few
 obtain ⟨t1,t2,t3,t4⟩:=ht
 have hl:Len (Zn.Reached t):=by unfold Len;omega
 generalize hn:2*(places (Za.Design r)).length=n
 constructor
 ·refine Zo5 (l:=Zn.Reached t) hl (fun (s:Zn) (i:Int)=>(i,Zn.Reached s,Zn.Y7 s,Zn.ZbU s,())) (f:=ZnF (after b e) t) (fun _ s=>Zn6 n s) (Zqk n) ?_ ?_
  ·intro k x s hx hI _
   have hk:=(List.getElem?_eq_some_iff.1 hx).1
   obtain ⟨q,q1,q2,q3,q4⟩:=ZwX h hL (k:=k) (by omega)
   have ha:(Zn.Y7 t)[k]?=some ((Zn.Y7 t)[k]'(by omega)):=List.getElem?_eq_getElem _
   have hs:(Zn.ZbU t)[k]?=some ((Zn.ZbU t)[k]'(by omega)):=List.getElem?_eq_getElem _
   generalize (Zn.Y7 t)[k]'(by omega)=a at ha
   generalize (Zn.ZbU t)[k]'(by omega)=w at hs
   refine ⟨?_,ZlI hI⟩
   simp only [Qw,Zfa,show (k:Int)<((Zn.Reached t).length:Int) from by omega,if_true,q1,Option.bind_some,Zu,hx,ha,hs,decide_eq_true_eq]
   unfold ZnF
   rw [q2,ha,hs]
   by_cases c:q<0
   ·rw [if_neg (by omega),if_pos c]
   ·obtain ⟨w1,w2⟩:=Zvc (n:=n) (k:=k) (q:=q) (by omega) (by omega) (by omega)
    rw [if_pos (by omega),if_neg c,w1]
    obtain ⟨x1,y1⟩:=Zk1 hI.1 (by omega) w2
    obtain ⟨x2,y2⟩:=Zk1 hI.2.1 (by omega) w2
    obtain ⟨x3,y3⟩:=Zk1 hI.2.2 (by omega) w2
    rw [y1,Option.bind_some,y2,Option.bind_some,y3,Option.bind_some]
    rfl
  ·intro s hI hs
   simp only [Qw,Int.lt_irrefl,if_false]
   rw [hs]
   rfl
 ·refine Zo5 (l:=Zn.Reached t) hl (fun (s:Zn) (i:Int)=>(i,Zn.Reached s,Zn.Y7 s,Zn.ZbU s,())) (f:=ZnF (after b e) t) (fun _ s=>Zn6 n s) (Zqk n) ?_ ?_
  ·intro k x s hx hI _
   have hk:=(List.getElem?_eq_some_iff.1 hx).1
   obtain ⟨q,q1,q2,q3,q4⟩:=ZwX h hL (k:=k) (by omega)
   have ha:(Zn.Y7 t)[k]?=some ((Zn.Y7 t)[k]'(by omega)):=List.getElem?_eq_getElem _
   have hs:(Zn.ZbU t)[k]?=some ((Zn.ZbU t)[k]'(by omega)):=List.getElem?_eq_getElem _
   generalize (Zn.Y7 t)[k]'(by omega)=a at ha
   generalize (Zn.ZbU t)[k]'(by omega)=w at hs
   refine ⟨?_,ZlI hI⟩
   simp only [QM,show (k:Int)<((Zn.Reached t).length:Int) from by omega,if_true,q1,Option.bind_some,Zu,hx,ha,hs]
   unfold ZnF
   rw [q2,ha,hs]
   by_cases c:q<0
   ·rw [if_pos c,if_pos c]
   ·obtain ⟨w1,w2⟩:=Zvc (n:=n) (k:=k) (q:=q) (by omega) (by omega) (by omega)
    rw [if_neg c,if_neg c,w1]
    obtain ⟨x1,y1⟩:=Zk1 hI.1 (by omega) w2
    obtain ⟨x2,y2⟩:=Zk1 hI.2.1 (by omega) w2
    obtain ⟨x3,y3⟩:=Zk1 hI.2.2 (by omega) w2
    rw [y1,Option.bind_some,y2,Option.bind_some,y3,Option.bind_some]
    rfl
  ·intro s hI hs
   simp only [QM,Int.lt_irrefl,if_false]
   rw [hs]
   rfl
theorem ZvG {t:Zn} {n:Nat} (h:Zn6 n t) (hn:n≤1048576):sm YB t :=
 ⟨⟨by rw [show t.1.length=n from h.1];omega,fun x _=>XP _ (by rfl) x⟩,⟨by rw [show t.2.1.length=n from h.2.1];omega,fun x _=>XP _ (by rfl) x⟩,⟨by rw [show t.2.2.1.length=n from h.2.2];omega,fun x _=>XP _ (by rfl) x⟩,trivial⟩
theorem Zot {b:Za} {e:Zg} (h:Zkq b e) (he:sm QW e) {t:Zn} (ht:ZqA (2*((places (Za.Design b)).length:Int)) t) :
  ∃ o n,Zav e b t=some o∧ZbD b e t=some o∧Zn6 n o∧n≤200:=by
 obtain ⟨r,r1,r2,r3,_,r5⟩:=Zvd h he
 have hpr:=YK r3.ok.1.few
 obtain ⟨v,hv1,hv2,_⟩:=Zm5 r3
 obtain ⟨l1,l2⟩:=Zrc h r3 r5 ht
 unfold Zav ZbD
 rw [r1,r2,Option.bind_some,Option.bind_some,hv1,Option.bind_some,Zlh r3.ok.1.few v hv2,Option.bind_some,ZjH h,Option.bind_some,show VJ (Zn.Reached t)=some ((Zn.Reached t).length:Int) from rfl,Option.bind_some,
  Zhr r3.ok.1.few,Option.bind_some,show (2*((places (Za.Design r)).length:Int))=((2*(places (Za.Design r)).length:Nat):Int) by omega,Zmq (by omega),Option.bind_some,Zlv h,Option.bind_some]
 exact ⟨_,_,l1,l2,ZrU _ _ _,by omega⟩
theorem Zlp (b:Za) (e:Zg) (t:Zn) (hb:sm YG b) (he:sm QW e):∃ r n,Zaf b e t=some r∧Zag b e t=some r∧Zn6 n r.1∧n≤200:=by
 obtain ⟨c,h1,h2,h3⟩:=ZrY b e hb he
 unfold Zaf Zag
 rw [h1,h2,Option.bind_some,Option.bind_some]
 by_cases hc:c=0
 ·have h:=h3 hc
  obtain ⟨v,hv1,hv2,_⟩:=Zm5 h.blk
  rw [if_pos hc,if_pos hc,hv1,Option.bind_some,Zl7 h.blk v hv2,ZmE h.blk,Option.bind_some,Option.bind_some]
  by_cases hT:ZqA (2*((places (Za.Design b)).length:Int)) t
  ·obtain ⟨o,n,o1,o2,o3,o4⟩:=Zot h he hT
   rw [if_pos (YL hT),if_pos (YL hT),o1,o2]
   exact ⟨_,n,rfl,rfl,o3,o4⟩
  ·rw [if_neg (fun q=>hT ((Qs _).1 q)),if_neg (fun q=>hT ((Qs _).1 q))]
   exact ⟨_,0,rfl,rfl,⟨rfl,rfl,rfl⟩,by omega⟩
 ·rw [if_neg hc,if_neg hc]
  exact ⟨_,0,rfl,rfl,⟨rfl,rfl,rfl⟩,by omega⟩
theorem Zti (a:Zn) (h:tot YB a≤1048576):cnt YB a≤100+20*1048576:=by
 have hc:=ZoQ YB a
 have h1:wid YB≤100:=by decide
 have h2:ZdZ YB≤20:=by decide
 have:=Nat.mul_le_mul_right (tot YB a) h2
 omega
theorem Zqu {t:Zn} {n:Nat} (h:Zn6 n t) (hn:n≤1048576):cnt YB t≤100+20*4194304:=by
 have hc:=ZoQ YB t
 have h1:wid YB≤100:=by decide
 have h2:ZdZ YB≤20:=by decide
 have h4:∀ (u:Ty) (l:List u.den),Ty.fixed u=true→tot (.sl u) l=l.length:=fun u l hu=>by rw [Zho,Zkr hu];omega
 have h3:tot YB t≤4194304:=by
  have e:tot YB t=tot (.sl .bool) t.1+(tot (.sl Xj) t.2.1+(tot (.sl Xj) t.2.2.1+0)):=rfl
  rw [e,h4 _ _ rfl,h4 _ _ rfl,h4 _ _ rfl,show t.1.length=n from h.1,show t.2.1.length=n from h.2.1,show t.2.2.1.length=n from h.2.2]
  omega
 have:=Nat.mul_le_mul h2 h3
 omega
theorem Zf4 (a0:Za) (a1:Zg) (a2:Zn) (b0:bnd YG a0) (b1:bnd QW a1) (b2:bnd YB a2):QD a0 a1 a2=some true:=by
 unfold QD
 obtain ⟨n,e,hle,hP⟩:=Znm a0 1048576 (by omega) (by omega) b0
 rw [e,Option.bind_some]
 by_cases hn:n<0
 ·rw [if_pos hn]
 rw [if_neg hn]
 have hs:=hP (by omega)
 have ht:=Zmw a0 1048576 (by omega) (by omega) b0 n e (by omega)
 obtain ⟨n1,e1,hle1,hP1⟩:=Zos a1 n (by omega) (by omega) b1
 rw [e1,Option.bind_some]
 by_cases hn1:n1<0
 ·rw [if_pos hn1]
 rw [if_neg hn1]
 have hs1:=hP1 (by omega)
 have ht1:=Zm3 a1 n (by omega) (by omega) b1 n1 e1 (by omega)
 obtain ⟨n2,e2,hle2,hP2⟩:=Zmb a2 n1 (by omega) (by omega) b2
 rw [e2,Option.bind_some]
 by_cases hn2:n2<0
 ·rw [if_pos hn2]
 rw [if_neg hn2]
 have hs2:=hP2 (by omega)
 have ht2:=ZlE a2 n1 (by omega) (by omega) b2 n2 e2 (by omega)
 have hcb:=Zut a0 (by omega)
 have hce:=Zt2 a1 hs1
 have hct:=Zti a2 (by omega)
 have hctT:=ZpG YB a2
 obtain ⟨r,rn,c1,c2,c3,c4⟩:=Zlp a0 a1 a2 hs hs1
 have c5:=ZvG c3 (by omega)
 have c6:=Zqu c3 (by omega)
 have c7:=ZpG YB r.1
 obtain ⟨m0,hm0⟩:=Zlc a0 1 hs (by omega) (by omega)
 have hm1:=Zl8 a1 (1+((cnt YG a0:Nat):Int)) hs1 (by omega) (by omega)
 have hm2:=Zgc a2 (1+((cnt YG a0:Nat):Int)+((Zj0 QW a1:Nat):Int)) hs2 (by omega) (by omega)
 have hm3:=Zgc r.1 1 c5 (by omega) (by omega)
 have hm4:=Zj6 r.1 1 c5 (by omega) (by omega)
 have hneg:¬(1+((cnt YG a0:Nat):Int)+((Zj0 QW a1:Nat):Int)+((Zj0 YB a2:Nat):Int))<0:=by omega
 have hneg2:¬(1+((Zj0 YB r.1:Nat):Int))<0:=by omega
 simp only [ZmW _ hs,Zop _ hs1,Zmy _ hs2,Option.bind_some,c1,c2,Zhp _ c5,Zhp _ hs2,Znv _ hs,Zoh _ hs1,if_true,hm0,hm1,hm2,hm3,hm4,hneg,hneg2,if_false]
end Go.Proofs.YtfndhpjedmopdaaGreatDoor
