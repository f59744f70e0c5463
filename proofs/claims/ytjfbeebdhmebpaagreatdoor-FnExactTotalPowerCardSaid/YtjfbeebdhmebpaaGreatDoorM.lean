/-
 The models of the functions and their contracts. Printed by program.
-/
import Derived.Test.YtjfbeebdhmebpaaGreatDoorSxTab
import Derived.Test.YtjfbeebdhmebpaaGreatDoorSxS0
import Derived.Test.YtjfbeebdhmebpaaGreatDoorSxLib
import Derived.Test.YtjfbeebdhmebpaaGreatDoorSxLibS
namespace Go.Proofs.YtjfbeebdhmebpaaGreatDoor
open Go Go.Sx
set_option maxRecDepth 100000
set_option maxHeartbeats 3200000
set_option linter.unusedVariables false
set_option linter.unusedSimpArgs false
noncomputable section
abbrev Iq:Ty:=.int .i64
abbrev Wq:=IntKind.wrap IntKind.i64
abbrev Sq:=Za Tryz.prog
theorem Bq {α β:Type} (x:α) (f:α→Option β):(some x).bind f=f x:=rfl
def ZcJ (a0:Yf) (left0:Int):Option Int :=
 if Wq (left0-(↑(List.length (Yf.Name a0)):Int))<0 then
 some (-1)
 else
 some (Wq (left0-(↑(List.length (Yf.Name a0)):Int)))
def c0:Ctr:=D2 (Zef) Iq Iq ZcJ
def ZgW (a0:List Yf) (left1:Int) (i0:Int):Option ((Int×Int×Unit) ⊕ Int) :=
 if i0<(↑a0.length:Int) then
 (atI a0 i0).bind fun x0 =>
 (ZcJ x0 left1).bind fun szPin0 =>
 if szPin0<0 then
 some (.inr (-1))
 else
 some (.inl (szPin0,Wq (i0+1),()))
 else
 some (.inr left1)
def Zdw (a0:List Yf) (left0:Int):Option Int :=
 if Wq (left0-(↑a0.length:Int))<0 then
 some (-1)
 else
 Zl (fun v=>ZgW a0 v.1 v.2.1) (Wq (left0-(↑a0.length:Int)),(0:Int),())
def c1:Ctr:=D2 (.sl (Zef)) Iq Iq Zdw
def YN (a0:List Int) (left0:Int):Option Int :=
 if Wq (left0-(↑a0.length:Int))<0 then
 some (-1)
 else
 some (Wq (left0-(↑a0.length:Int)))
def c2:Ctr:=D2 (.sl Iq) Iq Iq YN
def ZaX (a0:Zq) (left0:Int):Option Int :=
 (YN (Zq.ZeW a0) left0).bind fun szInt64S0 =>
 if szInt64S0<0 then
 some (-1)
 else
 (YN (Zq.Loads a0) szInt64S0).bind fun szInt64S1 =>
 if szInt64S1<0 then
 some (-1)
 else
 (YN (Zq.Values a0) szInt64S1).bind fun szInt64S2 =>
 if szInt64S2<0 then
 some (-1)
 else
 some szInt64S2
def c3:Ctr:=D2 (Xa) Iq Iq ZaX
def Zfy (a0:List Zq) (left1:Int) (i0:Int):Option ((Int×Int×Unit) ⊕ Int) :=
 if i0<(↑a0.length:Int) then
 (atI a0 i0).bind fun x0 =>
 (ZaX x0 left1).bind fun szTable0 =>
 if szTable0<0 then
 some (.inr (-1))
 else
 some (.inl (szTable0,Wq (i0+1),()))
 else
 some (.inr left1)
def J3 (a0:List Zq) (left0:Int):Option Int :=
 if Wq (left0-(↑a0.length:Int))<0 then
 some (-1)
 else
 Zl (fun v=>Zfy a0 v.1 v.2.1) (Wq (left0-(↑a0.length:Int)),(0:Int),())
def c4:Ctr:=D2 (.sl (Xa)) Iq Iq J3
def ZcI (a0:Zw) (left0:Int):Option Int :=
 (J3 (Zw.Delay a0) left0).bind fun szTableS0 =>
 if szTableS0<0 then
 some (-1)
 else
 (J3 (Zw.ZfO a0) szTableS0).bind fun szTableS1 =>
 if szTableS1<0 then
 some (-1)
 else
 some szTableS1
def c5:Ctr:=D2 (ZeT) Iq Iq ZcI
def ZgU (a0:List Zw) (left1:Int) (i0:Int):Option ((Int×Int×Unit) ⊕ Int) :=
 if i0<(↑a0.length:Int) then
 (atI a0 i0).bind fun x0 =>
 (ZcI x0 left1).bind fun szArc0 =>
 if szArc0<0 then
 some (.inr (-1))
 else
 some (.inl (szArc0,Wq (i0+1),()))
 else
 some (.inr left1)
def Zdv (a0:List Zw) (left0:Int):Option Int :=
 if Wq (left0-(↑a0.length:Int))<0 then
 some (-1)
 else
 Zl (fun v=>ZgU a0 v.1 v.2.1) (Wq (left0-(↑a0.length:Int)),(0:Int),())
def c6:Ctr:=D2 (.sl (ZeT)) Iq Iq Zdv
def ZbK (a0:Zf) (left0:Int):Option Int :=
 if Wq (left0-(↑(List.length (Zf.Name a0)):Int))<0 then
 some (-1)
 else
 (Zdw (Zf.Ye a0) (Wq (left0-(↑(List.length (Zf.Name a0)):Int)))).bind fun szPinS0 =>
 if szPinS0<0 then
 some (-1)
 else
 (Zdv (Zf.VX a0) szPinS0).bind fun szArcS0 =>
 if szArcS0<0 then
 some (-1)
 else
 (YN (Zf.Truth a0) szArcS0).bind fun szInt64S0 =>
 if szInt64S0<0 then
 some (-1)
 else
 some szInt64S0
def c7:Ctr:=D2 (QC) Iq Iq ZbK
def Zgd (a0:List Zf) (left1:Int) (i0:Int):Option ((Int×Int×Unit) ⊕ Int) :=
 if i0<(↑a0.length:Int) then
 (atI a0 i0).bind fun x0 =>
 (ZbK x0 left1).bind fun szCell0 =>
 if szCell0<0 then
 some (.inr (-1))
 else
 some (.inl (szCell0,Wq (i0+1),()))
 else
 some (.inr left1)
def Zcf (a0:List Zf) (left0:Int):Option Int :=
 if Wq (left0-(↑a0.length:Int))<0 then
 some (-1)
 else
 Zl (fun v=>Zgd a0 v.1 v.2.1) (Wq (left0-(↑a0.length:Int)),(0:Int),())
def c8:Ctr:=D2 (.sl (QC)) Iq Iq Zcf
def ZaI (a0:Zn) (left0:Int):Option Int :=
 (Zcf (Zn.Cells a0) left0).bind fun szCellS0 =>
 if szCellS0<0 then
 some (-1)
 else
 some szCellS0
def c9:Ctr:=D2 (YR) Iq Iq ZaI
def Q7 (a0:Zd) (left0:Int):Option Int :=
 if Wq (left0-(↑(List.length (Zd.Name a0)):Int))<0 then
 some (-1)
 else
 (YN (Zd.Yb a0) (Wq (left0-(↑(List.length (Zd.Name a0)):Int)))).bind fun szInt64S0 =>
 if szInt64S0<0 then
 some (-1)
 else
 some szInt64S0
def c10:Ctr:=D2 (Yn) Iq Iq Q7
def Zec (a0:List Zd) (left1:Int) (i0:Int):Option ((Int×Int×Unit) ⊕ Int) :=
 if i0<(↑a0.length:Int) then
 (atI a0 i0).bind fun x0 =>
 (Q7 x0 left1).bind fun szInstance0 =>
 if szInstance0<0 then
 some (.inr (-1))
 else
 some (.inl (szInstance0,Wq (i0+1),()))
 else
 some (.inr left1)
def Ji (a0:List Zd) (left0:Int):Option Int :=
 if Wq (left0-(↑a0.length:Int))<0 then
 some (-1)
 else
 Zl (fun v=>Zec a0 v.1 v.2.1) (Wq (left0-(↑a0.length:Int)),(0:Int),())
def c11:Ctr:=D2 (.sl (Yn)) Iq Iq Ji
def VJ (a0:List (List UInt8)) (left1:Int) (i0:Int):Option ((Int×Int×Unit) ⊕ Int) :=
 if i0<(↑a0.length:Int) then
 (atI a0 i0).bind fun x0 =>
 if Wq (left1-(↑x0.length:Int))<0 then
 some (.inr (-1))
 else
 some (.inl (Wq (left1-(↑x0.length:Int)),Wq (i0+1),()))
 else
 some (.inr left1)
def ZaJ (a0:List (List UInt8)) (left0:Int):Option Int :=
 if Wq (left0-(↑a0.length:Int))<0 then
 some (-1)
 else
 Zl (fun v=>VJ a0 v.1 v.2.1) (Wq (left0-(↑a0.length:Int)),(0:Int),())
def c12:Ctr:=D2 (.sl (.str)) Iq Iq ZaJ
def ZbL (a0:ZN) (left0:Int):Option Int :=
 if Wq (left0-(↑(List.length (ZN.Name a0)):Int))<0 then
 some (-1)
 else
 some (Wq (left0-(↑(List.length (ZN.Name a0)):Int)))
def c13:Ctr:=D2 (Za4) Iq Iq ZbL
def Zgf (a0:List ZN) (left1:Int) (i0:Int):Option ((Int×Int×Unit) ⊕ Int) :=
 if i0<(↑a0.length:Int) then
 (atI a0 i0).bind fun x0 =>
 (ZbL x0 left1).bind fun szPort0 =>
 if szPort0<0 then
 some (.inr (-1))
 else
 some (.inl (szPort0,Wq (i0+1),()))
 else
 some (.inr left1)
def Zcg (a0:List ZN) (left0:Int):Option Int :=
 if Wq (left0-(↑a0.length:Int))<0 then
 some (-1)
 else
 Zl (fun v=>Zgf a0 v.1 v.2.1) (Wq (left0-(↑a0.length:Int)),(0:Int),())
def c14:Ctr:=D2 (.sl (Za4)) Iq Iq Zcg
def Zbm (a0:Zb) (left0:Int):Option Int :=
 (Ji (Zb.Instances a0) left0).bind fun szInstanceS0 =>
 if szInstanceS0<0 then
 some (-1)
 else
 (ZaJ (Zb.Yb a0) szInstanceS0).bind fun szStringS0 =>
 if szStringS0<0 then
 some (-1)
 else
 (Zcg (Zb.YB a0) szStringS0).bind fun szPortS0 =>
 if szPortS0<0 then
 some (-1)
 else
 some szPortS0
def c15:Ctr:=D2 (Yv) Iq Iq Zbm
def ZbM (a0:Zz) (left0:Int):Option Int :=
 (YN (Zz.Parent a0) left0).bind fun szInt64S0 =>
 if szInt64S0<0 then
 some (-1)
 else
 (YN (Zz.Res a0) szInt64S0).bind fun szInt64S1 =>
 if szInt64S1<0 then
 some (-1)
 else
 (YN (Zz.Cap a0) szInt64S1).bind fun szInt64S2 =>
 if szInt64S2<0 then
 some (-1)
 else
 (YN (Zz.Zj6 a0) szInt64S2).bind fun szInt64S3 =>
 if szInt64S3<0 then
 some (-1)
 else
 some szInt64S3
def c16:Ctr:=D2 (Zaj) Iq Iq ZbM
def Zgg (a0:List Zz) (left1:Int) (i0:Int):Option ((Int×Int×Unit) ⊕ Int) :=
 if i0<(↑a0.length:Int) then
 (atI a0 i0).bind fun x0 =>
 (ZbM x0 left1).bind fun szWire0 =>
 if szWire0<0 then
 some (.inr (-1))
 else
 some (.inl (szWire0,Wq (i0+1),()))
 else
 some (.inr left1)
def Zch (a0:List Zz) (left0:Int):Option Int :=
 if Wq (left0-(↑a0.length:Int))<0 then
 some (-1)
 else
 Zl (fun v=>Zgg a0 v.1 v.2.1) (Wq (left0-(↑a0.length:Int)),(0:Int),())
def c17:Ctr:=D2 (.sl (Zaj)) Iq Iq Zch
def Zce (a0:Zg) (left0:Int):Option Int :=
 (ZaI (Zg.Library a0) left0).bind fun szLibrary0 =>
 if szLibrary0<0 then
 some (-1)
 else
 (Zbm (Zg.Design a0) szLibrary0).bind fun szDesign0 =>
 if szDesign0<0 then
 some (-1)
 else
 (Zch (Zg.Qo a0) szDesign0).bind fun szWireS0 =>
 if szWireS0<0 then
 some (-1)
 else
 some szWireS0
def c18:Ctr:=D2 (YG) Iq Iq Zce
def Jh (a0:List Zk) (left0:Int):Option Int :=
 if Wq (left0-(↑a0.length:Int))<0 then
 some (-1)
 else
 some (Wq (left0-(↑a0.length:Int)))
def c19:Ctr:=D2 (.sl (ZE)) Iq Iq Jh
def ZcL (a0:Yf):Option Yf :=
 some a0
def c20:Ctr:=D1 (Zef) (Zef) ZcL
def Zg0 (a0:List Yf) (i0:Int) (l0:List (List UInt8×Int×Int×Bool×Unit)):Option ((Int×(List (List UInt8×Int×Int×Bool×Unit))×Unit) ⊕ List Yf) :=
 if i0<(↑a0.length:Int) then
 (atI a0 i0).bind fun x0 =>
 (ZcL x0).bind fun toPin0 =>
 (atI l0 i0).bind fun x1 =>
 some (.inl (Wq (i0+1),List.set l0 (Int.toNat i0) toPin0,()))
 else
 some (.inr l0)
def Zdy (a0:List Yf):Option (List Yf) :=
 Zu ((0:Int)≤(↑a0.length:Int)) <|
 Zu ((↑a0.length:Int)≤(↑a0.length:Int)) <|
 Zu ((↑a0.length:Int)≤(4611686018427387904:Int)) <|
 Zu ((↑(40:Nat):Int)*(↑a0.length:Int)≤(281474976710656:Int)) <|
 Zl (fun v=>Zg0 a0 v.1 v.2.1) ((0:Int),List.replicate (Int.toNat (↑a0.length:Int)) (([]:List UInt8),(0:Int),(0:Int),Bool.false,()),())
def c21:Ctr:=⟨[.dat (.sl (Zef))],[.own (.ol 231 (.flat (Zef)))],fun a K=>splitK a fun a0 a=>XT (Zdy a0) fun r=>K (r,()) ()⟩
def ZfB (a0:List Int) (i0:Int) (l0:List Int):Option ((Int×(List Int)×Unit) ⊕ List Int) :=
 if i0<(↑a0.length:Int) then
 (atI a0 i0).bind fun x0 =>
 (atI l0 i0).bind fun x1 =>
 some (.inl (Wq (i0+1),List.set l0 (Int.toNat i0) x0,()))
 else
 some (.inr l0)
def YP (a0:List Int):Option (List Int) :=
 Zu ((0:Int)≤(↑a0.length:Int)) <|
 Zu ((↑a0.length:Int)≤(↑a0.length:Int)) <|
 Zu ((↑a0.length:Int)≤(4611686018427387904:Int)) <|
 Zu ((↑(8:Nat):Int)*(↑a0.length:Int)≤(281474976710656:Int)) <|
 Zl (fun v=>ZfB a0 v.1 v.2.1) ((0:Int),List.replicate (Int.toNat (↑a0.length:Int)) (0:Int),())
def c22:Ctr:=⟨[.dat (.sl Iq)],[.own (.ol 2 (.flat Iq))],fun a K=>splitK a fun a0 a=>XT (YP a0) fun r=>K (r,()) ()⟩
def ZaY (a0:Zq):Option Zq :=
 (YP (Zq.ZeW a0)).bind fun toInt64S0 =>
 (YP (Zq.Loads a0)).bind fun toInt64S1 =>
 (YP (Zq.Values a0)).bind fun toInt64S2 =>
 some (toInt64S0,toInt64S1,toInt64S2,())
def c23:Ctr:=⟨[.dat (Xa)],[.own (ZfT)],fun a K=>splitK a fun a0 a=>XT (ZaY a0) fun r=>K (r,()) ()⟩
def ZfC (a0:List Zq) (i0:Int) (l0:List Zq):Option ((Int×(List Zq)×Unit) ⊕ List Zq) :=
 if i0<(↑a0.length:Int) then
 (atI a0 i0).bind fun x0 =>
 (ZaY x0).bind fun toTable0 =>
 (atI l0 i0).bind fun x1 =>
 some (.inl (Wq (i0+1),List.set l0 (Int.toNat i0) toTable0,()))
 else
 some (.inr l0)
def J5 (a0:List Zq):Option (List Zq) :=
 Zu ((0:Int)≤(↑a0.length:Int)) <|
 Zu ((↑a0.length:Int)≤(↑a0.length:Int)) <|
 Zu ((↑a0.length:Int)≤(4611686018427387904:Int)) <|
 Zu ((↑(72:Nat):Int)*(↑a0.length:Int)≤(281474976710656:Int)) <|
 Zl (fun v=>ZfC a0 v.1 v.2.1) ((0:Int),List.replicate (Int.toNat (↑a0.length:Int)) (([]:List Int),([]:List Int),([]:List Int),()),())
def c24:Ctr:=⟨[.dat (.sl (Xa))],[.own (.ol 288 (ZfT))],fun a K=>splitK a fun a0 a=>XT (J5 a0) fun r=>K (r,()) ()⟩
def ZcK (a0:Zw):Option Zw :=
 (J5 (Zw.Delay a0)).bind fun toTableS0 =>
 (J5 (Zw.ZfO a0)).bind fun toTableS1 =>
 some (Zw.Kind a0,Zw.From a0,Zw.To a0,Zw.Zak a0,toTableS0,toTableS1,())
def c25:Ctr:=⟨[.dat (ZeT)],[.own (Zqm)],fun a K=>splitK a fun a0 a=>XT (ZcK a0) fun r=>K (r,()) ()⟩
def ZgY (a0:List Zw) (i0:Int) (l0:List Zw):Option ((Int×(List Zw)×Unit) ⊕ List Zw) :=
 if i0<(↑a0.length:Int) then
 (atI a0 i0).bind fun x0 =>
 (ZcK x0).bind fun toArc0 =>
 (atI l0 i0).bind fun x1 =>
 some (.inl (Wq (i0+1),List.set l0 (Int.toNat i0) toArc0,()))
 else
 some (.inr l0)
def Zdx (a0:List Zw):Option (List Zw) :=
 Zu ((0:Int)≤(↑a0.length:Int)) <|
 Zu ((↑a0.length:Int)≤(↑a0.length:Int)) <|
 Zu ((↑a0.length:Int)≤(4611686018427387904:Int)) <|
 Zu ((↑(80:Nat):Int)*(↑a0.length:Int)≤(281474976710656:Int)) <|
 Zl (fun v=>ZgY a0 v.1 v.2.1) ((0:Int),List.replicate (Int.toNat (↑a0.length:Int)) ((0:Int),(0:Int),(0:Int),(0:Int),([]:List Zq),([]:List Zq),()),())
def c26:Ctr:=⟨[.dat (.sl (ZeT))],[.own (.ol 252 (Zqm))],fun a K=>splitK a fun a0 a=>XT (Zdx a0) fun r=>K (r,()) ()⟩
def ZbN (a0:Zf):Option Zf :=
 (Zdy (Zf.Ye a0)).bind fun toPinS0 =>
 (Zdx (Zf.VX a0)).bind fun toArcS0 =>
 (YP (Zf.Truth a0)).bind fun toInt64S0 =>
 some (Zf.Name a0,Zf.Kind a0,toPinS0,toArcS0,toInt64S0,a0.snd.snd.snd.snd.snd)
def c27:Ctr:=⟨[.dat (QC)],[.own (Zk2)],fun a K=>splitK a fun a0 a=>XT (ZbN a0) fun r=>K (r,()) ()⟩
def Zgi (a0:List Zf) (i0:Int) (l0:List Zf):Option ((Int×(List Zf)×Unit) ⊕ List Zf) :=
 if i0<(↑a0.length:Int) then
 (atI a0 i0).bind fun x0 =>
 (ZbN x0).bind fun toCell0 =>
 (atI l0 i0).bind fun x1 =>
 some (.inl (Wq (i0+1),List.set l0 (Int.toNat i0) toCell0,()))
 else
 some (.inr l0)
def Zcj (a0:List Zf):Option (List Zf) :=
 Zu ((0:Int)≤(↑a0.length:Int)) <|
 Zu ((↑a0.length:Int)≤(↑a0.length:Int)) <|
 Zu ((↑a0.length:Int)≤(4611686018427387904:Int)) <|
 Zu ((↑(112:Nat):Int)*(↑a0.length:Int)≤(281474976710656:Int)) <|
 Zl (fun v=>Zgi a0 v.1 v.2.1) ((0:Int),List.replicate (Int.toNat (↑a0.length:Int)) (([]:List UInt8),(0:Int),([]:List Yf),([]:List Zw),([]:List Int),(0:Int),(0:Int),()),())
def c28:Ctr:=⟨[.dat (.sl (QC))],[.own (.ol 146 (Zk2))],fun a K=>splitK a fun a0 a=>XT (Zcj a0) fun r=>K (r,()) ()⟩
def ZaK (a0:Zn):Option Zn :=
 (Zcj (Zn.Cells a0)).bind fun toCellS0 =>
 some (toCellS0,())
def c29:Ctr:=⟨[.dat (YR)],[.own (Zmu)],fun a K=>splitK a fun a0 a=>XT (ZaK a0) fun r=>K (r,()) ()⟩
def Q9 (a0:Zd):Option Zd :=
 (YP (Zd.Yb a0)).bind fun toInt64S0 =>
 some (Zd.Name a0,Zd.Cell a0,toInt64S0,())
def c30:Ctr:=⟨[.dat (Yn)],[.own (ZaV)],fun a K=>splitK a fun a0 a=>XT (Q9 a0) fun r=>K (r,()) ()⟩
def Zee (a0:List Zd) (i0:Int) (l0:List Zd):Option ((Int×(List Zd)×Unit) ⊕ List Zd) :=
 if i0<(↑a0.length:Int) then
 (atI a0 i0).bind fun x0 =>
 (Q9 x0).bind fun toInstance0 =>
 (atI l0 i0).bind fun x1 =>
 some (.inl (Wq (i0+1),List.set l0 (Int.toNat i0) toInstance0,()))
 else
 some (.inr l0)
def Jk (a0:List Zd):Option (List Zd) :=
 Zu ((0:Int)≤(↑a0.length:Int)) <|
 Zu ((↑a0.length:Int)≤(↑a0.length:Int)) <|
 Zu ((↑a0.length:Int)≤(4611686018427387904:Int)) <|
 Zu ((↑(48:Nat):Int)*(↑a0.length:Int)≤(281474976710656:Int)) <|
 Zl (fun v=>Zee a0 v.1 v.2.1) ((0:Int),List.replicate (Int.toNat (↑a0.length:Int)) (([]:List UInt8),(0:Int),([]:List Int),()),())
def c31:Ctr:=⟨[.dat (.sl (Yn))],[.own (.ol 103 (ZaV))],fun a K=>splitK a fun a0 a=>XT (Jk a0) fun r=>K (r,()) ()⟩
def Ze1 (a0:List (List UInt8)) (i0:Int) (l0:List (List UInt8)):Option ((Int×(List (List UInt8))×Unit) ⊕ List (List UInt8)) :=
 if i0<(↑a0.length:Int) then
 (atI a0 i0).bind fun x0 =>
 (atI l0 i0).bind fun x1 =>
 some (.inl (Wq (i0+1),List.set l0 (Int.toNat i0) x0,()))
 else
 some (.inr l0)
def ZaL (a0:List (List UInt8)):Option (List (List UInt8)) :=
 Zu ((0:Int)≤(↑a0.length:Int)) <|
 Zu ((↑a0.length:Int)≤(↑a0.length:Int)) <|
 Zu ((↑a0.length:Int)≤(4611686018427387904:Int)) <|
 Zu ((↑(16:Nat):Int)*(↑a0.length:Int)≤(281474976710656:Int)) <|
 Zl (fun v=>Ze1 a0 v.1 v.2.1) ((0:Int),List.replicate (Int.toNat (↑a0.length:Int)) (([]:List UInt8)),())
def c32:Ctr:=⟨[.dat (.sl (.str))],[.own (.ol 9 (.flat (.str)))],fun a K=>splitK a fun a0 a=>XT (ZaL a0) fun r=>K (r,()) ()⟩
def ZbO (a0:ZN):Option ZN :=
 some a0
def c33:Ctr:=D1 (Za4) (Za4) ZbO
def Zgl (a0:List ZN) (i0:Int) (l0:List (List UInt8×Int×Int×Unit)):Option ((Int×(List (List UInt8×Int×Int×Unit))×Unit) ⊕ List ZN) :=
 if i0<(↑a0.length:Int) then
 (atI a0 i0).bind fun x0 =>
 (ZbO x0).bind fun toPort0 =>
 (atI l0 i0).bind fun x1 =>
 some (.inl (Wq (i0+1),List.set l0 (Int.toNat i0) toPort0,()))
 else
 some (.inr l0)
def Zck (a0:List ZN):Option (List ZN) :=
 Zu ((0:Int)≤(↑a0.length:Int)) <|
 Zu ((↑a0.length:Int)≤(↑a0.length:Int)) <|
 Zu ((↑a0.length:Int)≤(4611686018427387904:Int)) <|
 Zu ((↑(32:Nat):Int)*(↑a0.length:Int)≤(281474976710656:Int)) <|
 Zl (fun v=>Zgl a0 v.1 v.2.1) ((0:Int),List.replicate (Int.toNat (↑a0.length:Int)) (([]:List UInt8),(0:Int),(0:Int),()),())
def c34:Ctr:=⟨[.dat (.sl (Za4))],[.own (.ol 168 (.flat (Za4)))],fun a K=>splitK a fun a0 a=>XT (Zck a0) fun r=>K (r,()) ()⟩
def Zbn (a0:Zb):Option Zb :=
 (Jk (Zb.Instances a0)).bind fun toInstanceS0 =>
 (ZaL (Zb.Yb a0)).bind fun toStringS0 =>
 (Zck (Zb.YB a0)).bind fun toPortS0 =>
 some (toInstanceS0,toStringS0,toPortS0,())
def c35:Ctr:=⟨[.dat (Yv)],[.own (Zoj)],fun a K=>splitK a fun a0 a=>XT (Zbn a0) fun r=>K (r,()) ()⟩
def ZbP (a0:Zz):Option Zz :=
 (YP (Zz.Parent a0)).bind fun toInt64S0 =>
 (YP (Zz.Res a0)).bind fun toInt64S1 =>
 (YP (Zz.Cap a0)).bind fun toInt64S2 =>
 (YP (Zz.Zj6 a0)).bind fun toInt64S3 =>
 some (toInt64S0,toInt64S1,toInt64S2,toInt64S3,())
def c36:Ctr:=⟨[.dat (Zaj)],[.own (Zk3)],fun a K=>splitK a fun a0 a=>XT (ZbP a0) fun r=>K (r,()) ()⟩
def Zgm (a0:List Zz) (i0:Int) (l0:List Zz):Option ((Int×(List Zz)×Unit) ⊕ List Zz) :=
 if i0<(↑a0.length:Int) then
 (atI a0 i0).bind fun x0 =>
 (ZbP x0).bind fun toWire0 =>
 (atI l0 i0).bind fun x1 =>
 some (.inl (Wq (i0+1),List.set l0 (Int.toNat i0) toWire0,()))
 else
 some (.inr l0)
def Zcl (a0:List Zz):Option (List Zz) :=
 Zu ((0:Int)≤(↑a0.length:Int)) <|
 Zu ((↑a0.length:Int)≤(↑a0.length:Int)) <|
 Zu ((↑a0.length:Int)≤(4611686018427387904:Int)) <|
 Zu ((↑(96:Nat):Int)*(↑a0.length:Int)≤(281474976710656:Int)) <|
 Zl (fun v=>Zgm a0 v.1 v.2.1) ((0:Int),List.replicate (Int.toNat (↑a0.length:Int)) (([]:List Int),([]:List Int),([]:List Int),([]:List Int),()),())
def c37:Ctr:=⟨[.dat (.sl (Zaj))],[.own (.ol 121 (Zk3))],fun a K=>splitK a fun a0 a=>XT (Zcl a0) fun r=>K (r,()) ()⟩
def Zci (a0:Zg):Option Zg :=
 (ZaK (Zg.Library a0)).bind fun toLibrary0 =>
 (Zbn (Zg.Design a0)).bind fun toDesign0 =>
 (Zcl (Zg.Qo a0)).bind fun toWireS0 =>
 some (toLibrary0,toDesign0,toWireS0,())
def c38:Ctr:=⟨[.dat (YG)],[.own (Zqn)],fun a K=>splitK a fun a0 a=>XT (Zci a0) fun r=>K (r,()) ()⟩
def J4 (a0:ZB):Option ZB :=
 some a0
def c39:Ctr:=D1 (V8) (V8) J4
def Q8 (a0:Zk):Option Zk :=
 (J4 (Zk.High a0)).bind fun toFraction0 =>
 some (toFraction0,a0.snd)
def c40:Ctr:=D1 (ZE) (ZE) Q8
def Zed (a0:List Zk) (i0:Int) (l0:List (ZB×Int×Unit)):Option ((Int×(List (ZB×Int×Unit))×Unit) ⊕ List Zk) :=
 if i0<(↑a0.length:Int) then
 (atI a0 i0).bind fun x0 =>
 (Q8 x0).bind fun toActivity0 =>
 (atI l0 i0).bind fun x1 =>
 some (.inl (Wq (i0+1),List.set l0 (Int.toNat i0) toActivity0,()))
 else
 some (.inr l0)
def Jj (a0:List Zk):Option (List Zk) :=
 Zu ((0:Int)≤(↑a0.length:Int)) <|
 Zu ((↑a0.length:Int)≤(↑a0.length:Int)) <|
 Zu ((↑a0.length:Int)≤(4611686018427387904:Int)) <|
 Zu ((↑(24:Nat):Int)*(↑a0.length:Int)≤(281474976710656:Int)) <|
 Zl (fun v=>Zed a0 v.1 v.2.1) ((0:Int),List.replicate (Int.toNat (↑a0.length:Int)) (((0:Int),(0:Int),()),(0:Int),()),())
def c41:Ctr:=⟨[.dat (.sl (ZE))],[.own (.ol 73 (.flat (ZE)))],fun a K=>splitK a fun a0 a=>XT (Jj a0) fun r=>K (r,()) ()⟩
def Zah (s0:List UInt8) (i0:Int):Option ((Int×Unit) ⊕ Bool) :=
 if i0<(↑s0.length:Int) then
 (atI s0 i0).bind fun x0 =>
 if 97≤(↑(UInt8.toNat x0):Int) then
 if 48≤(↑(UInt8.toNat x0):Int) then
 if (↑(UInt8.toNat x0):Int)≤122 then
 some (.inl (Wq (i0+1),()))
 else
 if (↑(UInt8.toNat x0):Int)≤57 then
 if 0<i0 then
 some (.inl (Wq (i0+1),()))
 else
 some (.inr Bool.false)
 else
 some (.inr Bool.false)
 else
 if (↑(UInt8.toNat x0):Int)≤122 then
 some (.inl (Wq (i0+1),()))
 else
 some (.inr Bool.false)
 else
 if 48≤(↑(UInt8.toNat x0):Int) then
 if (↑(UInt8.toNat x0):Int)≤57 then
 if 0<i0 then
 some (.inl (Wq (i0+1),()))
 else
 some (.inr Bool.false)
 else
 some (.inr Bool.false)
 else
 some (.inr Bool.false)
 else
 if 1≤(↑s0.length:Int) then
 some (.inr (Decidable.decide ((↑s0.length:Int)≤8)))
 else
 some (.inr Bool.false)
def JI (s0:List UInt8):Option Bool :=
 Zl (fun v=>Zah s0 v.1) ((0:Int),())
def c42:Ctr:=D1 (.str) (.bool) JI
def Z9 (n0:Int) (low0:Int) (high0:Int):Option Bool :=
 if low0≤n0 then
 some (Decidable.decide (n0≤high0))
 else
 some Bool.false
def c43:Ctr:=D3 Iq Iq Iq (.bool) Z9
def Xt (a0:Zf) (v0:Int) (v1:Int) (x0:Yf) (v2:Int):Option ((Int×Unit) ⊕ ((Int×Int×Unit) ⊕ (Int×Bool))) :=
 if v2<v1 then
 (atI (Zf.Ye a0) v2).bind fun x1 =>
 if Yf.Name x1=Yf.Name x0 then
 some (.inr (.inr (0,Bool.false)))
 else
 some (.inl (Wq (v2+1),()))
 else
 (JI (Yf.Name x0)).bind fun l03Name0 =>
 if l03Name0=true then
 (Z9 (Yf.Cap x0) 0 500).bind fun l01In0 =>
 if l01In0=true then
 if v1=Wq ((↑(List.length (Zf.Ye a0)):Int)-1) then
 if Yf.Dir x0=2 then
 if Yf.Cap x0=0 then
 if (Yf.Clock x0)=true then
 some (.inr (.inr (0,Bool.false)))
 else
 if v1<Wq ((↑(List.length (Zf.Ye a0)):Int)-1) then
 if Yf.Dir x0=1 then
 if (Yf.Clock x0)=true then
 some (.inr (.inl (Wq (v0+1),Wq (v1+1),())))
 else
 some (.inr (.inl (v0,Wq (v1+1),())))
 else
 some (.inr (.inr (0,Bool.false)))
 else
 if (Yf.Clock x0)=true then
 some (.inr (.inl (Wq (v0+1),Wq (v1+1),())))
 else
 some (.inr (.inl (v0,Wq (v1+1),())))
 else
 some (.inr (.inr (0,Bool.false)))
 else
 some (.inr (.inr (0,Bool.false)))
 else
 if v1<Wq ((↑(List.length (Zf.Ye a0)):Int)-1) then
 if Yf.Dir x0=1 then
 if (Yf.Clock x0)=true then
 some (.inr (.inl (Wq (v0+1),Wq (v1+1),())))
 else
 some (.inr (.inl (v0,Wq (v1+1),())))
 else
 some (.inr (.inr (0,Bool.false)))
 else
 if (Yf.Clock x0)=true then
 some (.inr (.inl (Wq (v0+1),Wq (v1+1),())))
 else
 some (.inr (.inl (v0,Wq (v1+1),())))
 else
 some (.inr (.inr (0,Bool.false)))
 else
 some (.inr (.inr (0,Bool.false)))
def X9 (a0:Zf) (v0:Int) (v1:Int):Option ((Int×Int×Unit) ⊕ (Int×Bool)) :=
 if v1<(↑(List.length (Zf.Ye a0)):Int) then
 (atI (Zf.Ye a0) v1).bind fun x0 =>
 Zl (fun v=>Xt a0 v0 v1 x0 v.1) ((0:Int),())
 else
 some (.inr (v0,Bool.true))
def Zcs (a0:Zf):Option (Int×Bool) :=
 if (↑(List.length (Zf.Ye a0)):Int)<2 then
 some (0,Bool.false)
 else
 if 5<(↑(List.length (Zf.Ye a0)):Int) then
 some (0,Bool.false)
 else
 Zl (fun v=>X9 a0 v.1 v.2.1) ((0:Int),(0:Int),())
def c44:Ctr:=⟨[.dat (QC)],[.dat Iq,.dat (.bool)],fun a K=>splitK a fun a0 a=>XT (Zcs a0) fun r=>K (r.1,r.2,()) ()⟩
def Zag (list0:List Int) (i0:Int):Option ((Int×Unit) ⊕ Bool) :=
 if i0<(↑list0.length:Int) then
 (atI list0 i0).bind fun x0 =>
 (Z9 x0 0 100000).bind fun l01In0 =>
 if l01In0=true then
 if 0<i0 then
 (atI list0 (Wq (i0-1))).bind fun x1 =>
 if x0≤x1 then
 some (.inr Bool.false)
 else
 some (.inl (Wq (i0+1),()))
 else
 some (.inl (Wq (i0+1),()))
 else
 some (.inr Bool.false)
 else
 if 1≤(↑list0.length:Int) then
 some (.inr (Decidable.decide ((↑list0.length:Int)≤4)))
 else
 some (.inr Bool.false)
def Za1 (list0:List Int):Option Bool :=
 Zl (fun v=>Zag list0 v.1) ((0:Int),())
def c45:Ctr:=D1 (.sl Iq) (.bool) Za1
def Zae (t0:Zq) (i0:Int):Option ((Int×Unit) ⊕ Bool) :=
 if i0<(↑(List.length (Zq.Values t0)):Int) then
 (atI (Zq.Values t0) i0).bind fun x0 =>
 (Z9 x0 (-1000000) 1000000).bind fun l01In0 =>
 if l01In0=true then
 some (.inl (Wq (i0+1),()))
 else
 some (.inr Bool.false)
 else
 some (.inr Bool.true)
def Zcr (t0:Zq):Option Bool :=
 (Za1 (Zq.ZeW t0)).bind fun l02Axis0 =>
 if l02Axis0=true then
 (Za1 (Zq.Loads t0)).bind fun l02Axis1 =>
 if l02Axis1=true then
 if (↑(List.length (Zq.Values t0)):Int)=Wq ((↑(List.length (Zq.ZeW t0)):Int)*(↑(List.length (Zq.Loads t0)):Int)) then
 Zl (fun v=>Zae t0 v.1) ((0:Int),())
 else
 some Bool.false
 else
 some Bool.false
 else
 some Bool.false
def c46:Ctr:=D1 (Xa) (.bool) Zcr
def XR (t0:Zq) (i0:Int) (c0:Int) (c1:Int):Option ((Int×Int×Int×Unit) ⊕ (ZlK×Int)) :=
 if i0<(↑(List.length (Zq.Values t0)):Int) then
 (atI (Zq.Values t0) i0).bind fun x1 =>
 some (.inl (Wq (i0+1),Min.min c0 x1,Max.max c1 x1,()))
 else
 some (.inr ((c0,c1,()),0))
def Jl (t0:Zq):Option (ZlK×Int) :=
 (Zcr t0).bind fun IsTable0 =>
 if IsTable0=true then
 (atI (Zq.Values t0) 0).bind fun x0 =>
 Zl (fun v=>XR t0 v.1 v.2.1 v.2.2.1) ((1:Int),x0,x0,())
 else
 some ((0,0,()),1)
def c47:Ctr:=⟨[.dat (Xa)],[.dat (Zsd),.dat Iq],fun a K=>splitK a fun t0 a=>XT (Jl t0) fun r=>K (r.1,r.2,()) ()⟩
def VP (list0:List Zq) (positive0:Bool) (i0:Int):Option ((Int×Unit) ⊕ Bool) :=
 if i0<2 then
 (atI list0 i0).bind fun x0 =>
 (Jl x0).bind fun TableBounds0 =>
 if TableBounds0.snd=0 then
 if positive0=true then
 if TableBounds0.fst.fst<0 then
 some (.inr Bool.false)
 else
 some (.inl (Wq (i0+1),()))
 else
 some (.inl (Wq (i0+1),()))
 else
 some (.inr Bool.false)
 else
 some (.inr Bool.true)
def Z8 (list0:List Zq) (positive0:Bool):Option Bool :=
 if (↑list0.length:Int)=2 then
 Zl (fun v=>VP list0 positive0 v.1) ((0:Int),())
 else
 some Bool.false
def c48:Ctr:=D2 (.sl (Xa)) (.bool) (.bool) Z8
def ZdK (a0:Zf) (a1:Zw):Option Bool :=
 (Z9 (Zw.From a1) 0 (Wq (Wq ((↑(List.length (Zf.Ye a0)):Int)-1)-1))).bind fun l01In0 =>
 if l01In0=true then
 (Z9 (Zw.To a1) 0 (Wq ((↑(List.length (Zf.Ye a0)):Int)-1))).bind fun l01In1 =>
 if l01In1=true then
 (atI (Zf.Ye a0) (Zw.From a1)).bind fun x0 =>
 if Zw.Kind a1=1 then
 if (Yf.Clock x0)=true then
 some Bool.false
 else
 if Zw.To a1=Wq ((↑(List.length (Zf.Ye a0)):Int)-1) then
 (Z9 (Zw.Zak a1) 1 3).bind fun l01In2 =>
 if l01In2=true then
 (Z8 (Zw.Delay a1) Bool.true).bind fun l03Tables0 =>
 if l03Tables0=true then
 (Z8 (Zw.ZfO a1) Bool.true).bind fun l03Tables1 =>
 some l03Tables1
 else
 some Bool.false
 else
 some Bool.false
 else
 some Bool.false
 else
 if Zw.Kind a1=2 then
 if Zw.Kind a1=2 then
 if (Yf.Clock x0)=true then
 if Zw.To a1=Wq ((↑(List.length (Zf.Ye a0)):Int)-1) then
 if Zw.Zak a1=0 then
 (Z8 (Zw.Delay a1) Bool.true).bind fun l03Tables0 =>
 if l03Tables0=true then
 (Z8 (Zw.ZfO a1) Bool.true).bind fun l03Tables1 =>
 some l03Tables1
 else
 some Bool.false
 else
 some Bool.false
 else
 some Bool.false
 else
 some Bool.false
 else
 if Zw.Kind a1=4 then
 if Zw.Kind a1=4 then
 if (Yf.Clock x0)=true then
 if Zw.To a1<Wq ((↑(List.length (Zf.Ye a0)):Int)-1) then
 (atI (Zf.Ye a0) (Zw.To a1)).bind fun x1 =>
 if (Yf.Clock x1)=true then
 some Bool.false
 else
 if Zw.Zak a1=0 then
 (Z8 (Zw.Delay a1) Bool.false).bind fun l03Tables0 =>
 if l03Tables0=true then
 some (Decidable.decide ((↑(List.length (Zw.ZfO a1)):Int)=0))
 else
 some Bool.false
 else
 some Bool.false
 else
 some Bool.false
 else
 some Bool.false
 else
 some Bool.false
 else
 if Zw.Kind a1=5 then
 if (Yf.Clock x0)=true then
 if Zw.To a1<Wq ((↑(List.length (Zf.Ye a0)):Int)-1) then
 (atI (Zf.Ye a0) (Zw.To a1)).bind fun x1 =>
 if (Yf.Clock x1)=true then
 some Bool.false
 else
 if Zw.Zak a1=0 then
 (Z8 (Zw.Delay a1) Bool.false).bind fun l03Tables0 =>
 if l03Tables0=true then
 some (Decidable.decide ((↑(List.length (Zw.ZfO a1)):Int)=0))
 else
 some Bool.false
 else
 some Bool.false
 else
 some Bool.false
 else
 some Bool.false
 else
 some Bool.false
 else
 if Zw.Kind a1=3 then
 if (Yf.Clock x0)=true then
 if Zw.To a1=Wq ((↑(List.length (Zf.Ye a0)):Int)-1) then
 if Zw.Zak a1=0 then
 (Z8 (Zw.Delay a1) Bool.true).bind fun l03Tables0 =>
 if l03Tables0=true then
 (Z8 (Zw.ZfO a1) Bool.true).bind fun l03Tables1 =>
 some l03Tables1
 else
 some Bool.false
 else
 some Bool.false
 else
 some Bool.false
 else
 some Bool.false
 else
 if Zw.Kind a1=4 then
 if Zw.Kind a1=4 then
 if (Yf.Clock x0)=true then
 if Zw.To a1<Wq ((↑(List.length (Zf.Ye a0)):Int)-1) then
 (atI (Zf.Ye a0) (Zw.To a1)).bind fun x1 =>
 if (Yf.Clock x1)=true then
 some Bool.false
 else
 if Zw.Zak a1=0 then
 (Z8 (Zw.Delay a1) Bool.false).bind fun l03Tables0 =>
 if l03Tables0=true then
 some (Decidable.decide ((↑(List.length (Zw.ZfO a1)):Int)=0))
 else
 some Bool.false
 else
 some Bool.false
 else
 some Bool.false
 else
 some Bool.false
 else
 some Bool.false
 else
 if Zw.Kind a1=5 then
 if (Yf.Clock x0)=true then
 if Zw.To a1<Wq ((↑(List.length (Zf.Ye a0)):Int)-1) then
 (atI (Zf.Ye a0) (Zw.To a1)).bind fun x1 =>
 if (Yf.Clock x1)=true then
 some Bool.false
 else
 if Zw.Zak a1=0 then
 (Z8 (Zw.Delay a1) Bool.false).bind fun l03Tables0 =>
 if l03Tables0=true then
 some (Decidable.decide ((↑(List.length (Zw.ZfO a1)):Int)=0))
 else
 some Bool.false
 else
 some Bool.false
 else
 some Bool.false
 else
 some Bool.false
 else
 some Bool.false
 else
 some Bool.false
 else
 some Bool.false
def c49:Ctr:=D2 (QC) (ZeT) (.bool) ZdK
def QB (c0:Zf) (i0:Int) (l0:List Int):Option ((Int×(List Int)×Unit) ⊕ List Int) :=
 if i0<(↑(List.length (Zf.VX c0)):Int) then
 (atI (Zf.VX c0) i0).bind fun x0 =>
 (atI l0 (Zw.Kind x0)).bind fun x1 =>
 some (.inl (Wq (i0+1),List.set l0 (Int.toNat (Zw.Kind x0)) (Wq (x1+1)),()))
 else
 some (.inr l0)
def Zbo (c0:Zf):Option (List Int) :=
 Zl (fun v=>QB c0 v.1 v.2.1) ((0:Int),List.replicate (Int.toNat (6:Int)) (0:Int),())
def c50:Ctr:=⟨[.dat (QC)],[.own (.ol 2 (.flat Iq))],fun a K=>splitK a fun c0 a=>XT (Zbo c0) fun r=>K (r,()) ()⟩
def Vy (a0:Zf) (v0:Int) (x0:Zw) (v1:Int):Option ((Int×Unit) ⊕ ((Int×Unit) ⊕ Bool)) :=
 if v1<v0 then
 (atI (Zf.VX a0) v1).bind fun x1 =>
 if Zw.Kind x1=Zw.Kind x0 then
 if Zw.From x1=Zw.From x0 then
 if Zw.To x1=Zw.To x0 then
 some (.inr (.inr Bool.false))
 else
 some (.inl (Wq (v1+1),()))
 else
 some (.inl (Wq (v1+1),()))
 else
 some (.inl (Wq (v1+1),()))
 else
 some (.inr (.inl (Wq (v0+1),())))
def Vz (a0:Zf) (l03Pins0:Int×Bool) (v1:Int):Option ((Int×Unit) ⊕ ((Int×Unit) ⊕ Bool)) :=
 if v1<(↑(List.length (Zf.Truth a0)):Int) then
 (atI (Zf.Truth a0) v1).bind fun x0 =>
 (Z9 x0 0 1).bind fun l01In2 =>
 if l01In2=true then
 some (.inl (Wq (v1+1),()))
 else
 some (.inr (.inr Bool.false))
 else
 if l03Pins0.fst=0 then
 Zu ((0:Int)≤IntKind.wrap IntKind.u64 (Wq ((↑(List.length (Zf.Ye a0)):Int)-(1:Int)))) <|
 some (.inr (.inr (Decidable.decide ((↑(List.length (Zf.Truth a0)):Int)=Wq (1*2 ^ Min.min (Int.toNat (IntKind.wrap IntKind.u64 (Wq ((↑(List.length (Zf.Ye a0)):Int)-1)))) (IntKind.bits IntKind.i64))))))
 else
 some (.inr (.inr Bool.false))
def Zaw (a0:Zf) (l03Pins0:Int×Bool) (v0:Int):Option ((Int×Unit) ⊕ Bool) :=
 if v0<(↑(List.length (Zf.VX a0)):Int) then
 (atI (Zf.VX a0) v0).bind fun x0 =>
 (ZdK a0 x0).bind fun l03Arc0 =>
 if l03Arc0=true then
 Zl (fun v=>Vy a0 v0 x0 v.1) ((0:Int),())
 else
 some (.inr Bool.false)
 else
 (Zbo a0).bind fun l03Kinds0 =>
 if Zf.Kind a0=1 then
 Zl (fun v=>Vz a0 l03Pins0 v.1) ((0:Int),())
 else
 if Zf.Kind a0=2 then
 if l03Pins0.fst=1 then
 (atI l03Kinds0 1).bind fun x0 =>
 if x0=0 then
 (atI l03Kinds0 2).bind fun x1 =>
 (atI l03Kinds0 3).bind fun x2 =>
 if (Decidable.decide (0<x1) == Decidable.decide (0<x2))=true then
 some (.inr Bool.false)
 else
 some (.inr (Decidable.decide ((↑(List.length (Zf.Truth a0)):Int)=0)))
 else
 some (.inr Bool.false)
 else
 some (.inr Bool.false)
 else
 if Zf.Kind a0=3 then
 if l03Pins0.fst=1 then
 (atI l03Kinds0 1).bind fun x0 =>
 if 0<x0 then
 (atI l03Kinds0 2).bind fun x1 =>
 if 0<x1 then
 (atI l03Kinds0 3).bind fun x2 =>
 if x2=0 then
 some (.inr (Decidable.decide ((↑(List.length (Zf.Truth a0)):Int)=0)))
 else
 some (.inr Bool.false)
 else
 some (.inr Bool.false)
 else
 some (.inr Bool.false)
 else
 some (.inr Bool.false)
 else
 some (.inr Bool.false)
def ZdI (a0:Zf):Option Bool :=
 (Zcs a0).bind fun l03Pins0 =>
 if l03Pins0.snd=true then
 (JI (Zf.Name a0)).bind fun l03Name0 =>
 if l03Name0=true then
 if 8<(↑(List.length (Zf.VX a0)):Int) then
 some Bool.false
 else
 (Z9 (Zf.Zps a0) 0 100000).bind fun l01In0 =>
 if l01In0=true then
 (Z9 (Zf.Ze4 a0) 0 100000).bind fun l01In1 =>
 if l01In1=true then
 Zl (fun v=>Zaw a0 l03Pins0 v.1) ((0:Int),())
 else
 some Bool.false
 else
 some Bool.false
 else
 some Bool.false
 else
 some Bool.false
def c51:Ctr:=D1 (QC) (.bool) ZdI
def VN (l0:Zn) (i0:Int) (x0:Zf) (k0:Int):Option ((Int×Unit) ⊕ ((Int×Unit) ⊕ Bool)) :=
 if k0<i0 then
 (atI (Zn.Cells l0) k0).bind fun x1 =>
 if Zf.Name x1=Zf.Name x0 then
 some (.inr (.inr Bool.false))
 else
 some (.inl (Wq (k0+1),()))
 else
 some (.inr (.inl (Wq (i0+1),())))
def VO (l0:Zn) (i0:Int):Option ((Int×Unit) ⊕ Bool) :=
 if i0<(↑(List.length (Zn.Cells l0)):Int) then
 (atI (Zn.Cells l0) i0).bind fun x0 =>
 (ZdI x0).bind fun IsCell0 =>
 if IsCell0=true then
 Zl (fun v=>VN l0 i0 x0 v.1) ((0:Int),())
 else
 some (.inr Bool.false)
 else
 some (.inr (Decidable.decide ((↑(List.length (Zn.Cells l0)):Int)≤8)))
def ZaN (l0:Zn):Option Bool :=
 Zl (fun v=>VO l0 v.1) ((0:Int),())
def c52:Ctr:=D1 (YR) (.bool) ZaN
def JB (a1:Zb) (v0:Int) (x0:Zd) (v1:Int):Option ((Int×Unit) ⊕ ((Int×Unit) ⊕ Bool)) :=
 if v1<(↑(List.length (Zd.Yb x0)):Int) then
 (atI (Zd.Yb x0) v1).bind fun x2 =>
 (Z9 x2 0 (Wq ((↑(List.length (Zb.Yb a1)):Int)-1))).bind fun l01In1 =>
 if l01In1=true then
 some (.inl (Wq (v1+1),()))
 else
 some (.inr (.inr Bool.false))
 else
 some (.inr (.inl (Wq (v0+1),())))
def JC (a1:Zb) (v1:Int):Option ((Int×Unit) ⊕ ((Int×Unit) ⊕ Bool)) :=
 if v1<(↑(List.length (Zb.YB a1)):Int) then
 (atI (Zb.YB a1) v1).bind fun x0 =>
 (Z9 (ZN.Dir x0) 1 2).bind fun l01In0 =>
 if l01In0=true then
 (Z9 (ZN.Net x0) 0 (Wq ((↑(List.length (Zb.Yb a1)):Int)-1))).bind fun l01In1 =>
 if l01In1=true then
 some (.inl (Wq (v1+1),()))
 else
 some (.inr (.inr Bool.false))
 else
 some (.inr (.inr Bool.false))
 else
 some (.inr (.inr Bool.true))
def JD (a0:Zn) (a1:Zb) (v0:Int):Option ((Int×Unit) ⊕ Bool) :=
 if v0<(↑(List.length (Zb.Instances a1)):Int) then
 (atI (Zb.Instances a1) v0).bind fun x0 =>
 (Z9 (Zd.Cell x0) 0 (Wq ((↑(List.length (Zn.Cells a0)):Int)-1))).bind fun l01In0 =>
 if l01In0=true then
 (atI (Zn.Cells a0) (Zd.Cell x0)).bind fun x1 =>
 if (↑(List.length (Zd.Yb x0)):Int)=(↑(List.length (Zf.Ye x1)):Int) then
 Zl (fun v=>JB a1 v0 x0 v.1) ((0:Int),())
 else
 some (.inr Bool.false)
 else
 some (.inr Bool.false)
 else
 Zl (fun v=>JC a1 v.1) ((0:Int),())
def Zbp (a0:Zn) (a1:Zb):Option Bool :=
 Zl (fun v=>JD a0 a1 v.1) ((0:Int),())
def c53:Ctr:=D2 (YR) (Yv) (.bool) Zbp
def Jz (list0:List (List UInt8)) (i0:Int) (x0:List UInt8) (k0:Int):Option ((Int×Unit) ⊕ ((Int×Unit) ⊕ Bool)) :=
 if k0<i0 then
 (atI list0 k0).bind fun x1 =>
 if x1=x0 then
 some (.inr (.inr Bool.false))
 else
 some (.inl (Wq (k0+1),()))
 else
 some (.inr (.inl (Wq (i0+1),())))
def JA (list0:List (List UInt8)) (i0:Int):Option ((Int×Unit) ⊕ Bool) :=
 if i0<(↑list0.length:Int) then
 (atI list0 i0).bind fun x0 =>
 (JI x0).bind fun l03Name0 =>
 if l03Name0=true then
 Zl (fun v=>Jz list0 i0 x0 v.1) ((0:Int),())
 else
 some (.inr Bool.false)
 else
 some (.inr Bool.true)
def VA (list0:List (List UInt8)):Option Bool :=
 Zl (fun v=>JA list0 v.1) ((0:Int),())
def c54:Ctr:=D1 (.sl (.str)) (.bool) VA
def Jv (l1:List Int) (v6:Int):Option ((Int×Unit) ⊕ ((Int×(List Int)×Unit) ⊕ ((Int×(List Int)×Unit) ⊕ (((List (List UInt8))×Int×Unit) ⊕ (((List (List UInt8))×Int×Unit) ⊕ Bool))))) :=
 if v6<(↑l1.length:Int) then
 (atI l1 v6).bind fun x0 =>
 if x0=1 then
 some (.inl (Wq (v6+1),()))
 else
 some (.inr (.inr (.inr (.inr (.inr Bool.false)))))
 else
 some (.inr (.inr (.inr (.inr (.inr Bool.true)))))
def XO (a1:Zb) (v5:Int) (l1:List Int):Option ((Int×(List Int)×Unit) ⊕ ((Int×(List Int)×Unit) ⊕ (((List (List UInt8))×Int×Unit) ⊕ (((List (List UInt8))×Int×Unit) ⊕ Bool)))) :=
 if v5<(↑(List.length (Zb.YB a1)):Int) then
 (atI (Zb.YB a1) v5).bind fun x0 =>
 if ZN.Dir x0=1 then
 (atI l1 (ZN.Net x0)).bind fun x1 =>
 some (.inl (Wq (v5+1),List.set l1 (Int.toNat (ZN.Net x0)) (Wq (x1+1)),()))
 else
 some (.inl (Wq (v5+1),l1,()))
 else
 Zl (fun v=>Jv l1 v.1) ((0:Int),())
def XP (a1:Zb) (v4:Int) (l0:List Int):Option ((Int×(List Int)×Unit) ⊕ (((List (List UInt8))×Int×Unit) ⊕ (((List (List UInt8))×Int×Unit) ⊕ Bool))) :=
 if v4<(↑(List.length (Zb.Instances a1)):Int) then
 (atI (Zb.Instances a1) v4).bind fun x0 =>
 (atI (Zd.Yb x0) (Wq ((↑(List.length (Zd.Yb x0)):Int)-1))).bind fun x1 =>
 (atI l0 x1).bind fun x2 =>
 some (.inl (Wq (v4+1),List.set l0 (Int.toNat x1) (Wq (x2+1)),()))
 else
 Zl (fun v=>XO a1 v.1 v.2.1) ((0:Int),l0,())
def Jw (a1:Zb) (v0:List (List UInt8)) (v2:List (List UInt8)) (v3:Int):Option (((List (List UInt8))×Int×Unit) ⊕ (((List (List UInt8))×Int×Unit) ⊕ Bool)) :=
 if v3<(↑(List.length (Zb.YB a1)):Int) then
 (atI (Zb.YB a1) v3).bind fun x0 =>
 Zu ((List.length v2+List.length [ZN.Name x0])*(16:Nat)≤(140737488355328:Nat)) <|
 some (.inl (v2++[ZN.Name x0],Wq (v3+(1:Int)),()))
 else
 (VA v0).bind fun l05Names0 =>
 if l05Names0=true then
 (VA v2).bind fun l05Names1 =>
 if l05Names1=true then
 (VA (Zb.Yb a1)).bind fun l05Names2 =>
 if l05Names2=true then
 Zu ((0:Int)≤(↑(List.length (Zb.Yb a1)):Int)) <|
 Zu ((↑(List.length (Zb.Yb a1)):Int)≤(↑(List.length (Zb.Yb a1)):Int)) <|
 Zu ((↑(List.length (Zb.Yb a1)):Int)≤(4611686018427387904:Int)) <|
 Zu ((↑(8:Nat):Int)*(↑(List.length (Zb.Yb a1)):Int)≤(281474976710656:Int)) <|
 Zl (fun v=>XP a1 v.1 v.2.1) ((0:Int),List.replicate (Int.toNat (↑(List.length (Zb.Yb a1)):Int)) (0:Int),())
 else
 some (.inr (.inr Bool.false))
 else
 some (.inr (.inr Bool.false))
 else
 some (.inr (.inr Bool.false))
def Jy (a1:Zb) (v0:List (List UInt8)) (v1:Int):Option (((List (List UInt8))×Int×Unit) ⊕ Bool) :=
 if v1<(↑(List.length (Zb.Instances a1)):Int) then
 (atI (Zb.Instances a1) v1).bind fun x0 =>
 Zu ((List.length v0+List.length [Zd.Name x0])*(16:Nat)≤(140737488355328:Nat)) <|
 some (.inl (v0++[Zd.Name x0],Wq (v1+(1:Int)),()))
 else
 Zl (fun v=>Jw a1 v0 v.1 v.2.1) (([]:List (List UInt8)),(0:Int),())
def Zac (a0:Zn) (a1:Zb):Option Bool :=
 (ZaN a0).bind fun IsLibrary0 =>
 if IsLibrary0=true then
 if 14<(↑(List.length (Zb.Instances a1)):Int) then
 some Bool.false
 else
 if 30<(↑(List.length (Zb.Yb a1)):Int) then
 some Bool.false
 else
 if 8<(↑(List.length (Zb.YB a1)):Int) then
 some Bool.false
 else
 (Zbp a0 a1).bind fun l05Parts0 =>
 if l05Parts0=true then
 Zl (fun v=>Jy a1 v.1 v.2.1) (([]:List (List UInt8)),(0:Int),())
 else
 some Bool.false
 else
 some Bool.false
def c55:Ctr:=D2 (YR) (Yv) (.bool) Zac
def VR (v1:Int) (x0:Zd) (v2:List Yh) (v3:Int):Option (((List Yh)×Int×Unit) ⊕ (((List Yh)×Int×Unit) ⊕ List Yh)) :=
 if v3<(↑(List.length (Zd.Yb x0)):Int) then
 (atI (Zd.Yb x0) v3).bind fun x1 =>
 Zu ((List.length v2+List.length [(v1,v3,x1,Decidable.decide (v3=Wq ((↑(List.length (Zd.Yb x0)):Int)-(1:Int))),())])*(32:Nat)≤(140737488355328:Nat)) <|
 some (.inl (v2++[(v1,v3,x1,Decidable.decide (v3=Wq ((↑(List.length (Zd.Yb x0)):Int)-(1:Int))),())],Wq (v3+(1:Int)),()))
 else
 some (.inr (.inl (v2,Wq (v1+1),())))
def VT (a0:Zb) (v2:List Yh) (v3:Int):Option (((List Yh)×Int×Unit) ⊕ (((List Yh)×Int×Unit) ⊕ List Yh)) :=
 if v3<(↑(List.length (Zb.YB a0)):Int) then
 (atI (Zb.YB a0) v3).bind fun x0 =>
 Zu ((List.length v2+List.length [((-1:Int),v3,ZN.Net x0,Decidable.decide (ZN.Dir x0=(1:Int)),())])*(32:Nat)≤(140737488355328:Nat)) <|
 some (.inl (v2++[((-1:Int),v3,ZN.Net x0,Decidable.decide (ZN.Dir x0=(1:Int)),())],Wq (v3+(1:Int)),()))
 else
 some (.inr (.inr v2))
def VU (a0:Zb) (v0:List Yh) (v1:Int):Option (((List Yh)×Int×Unit) ⊕ List Yh) :=
 if v1<(↑(List.length (Zb.Instances a0)):Int) then
 (atI (Zb.Instances a0) v1).bind fun x0 =>
 Zl (fun v=>VR v1 x0 v.1 v.2.1) (v0,(0:Int),())
 else
 Zl (fun v=>VT a0 v.1 v.2.1) (v0,(0:Int),())
def QL (a0:Zb):Option (List Yh) :=
 Zl (fun v=>VU a0 v.1 v.2.1) (([]:List (Int×Int×Int×Bool×Unit)),(0:Int),())
def c56:Ctr:=⟨[.dat (Yv)],[.own (.ol 221 (.flat (ZbU)))],fun a K=>splitK a fun a0 a=>XT (QL a0) fun r=>K (r,()) ()⟩
def JE (net0:Int) (l05Places0:List Yh) (out0:List Int) (i0:Int):Option (((List Int)×Int×Unit) ⊕ List Int) :=
 if i0<(↑l05Places0.length:Int) then
 (atI l05Places0 i0).bind fun x0 =>
 if Yh.net x0=net0 then
 if (Yh.drives x0)=true then
 some (.inl (out0,Wq (i0+1),()))
 else
 Zu ((List.length out0+List.length [i0])*(8:Nat)≤(140737488355328:Nat)) <|
 some (.inl (out0++[i0],Wq (i0+(1:Int)),()))
 else
 some (.inl (out0,Wq (i0+1),()))
 else
 some (.inr out0)
def Zbq (d0:Zb) (net0:Int):Option (List Int) :=
 (QL d0).bind fun l05Places0 =>
 Zl (fun v=>JE net0 l05Places0 v.1 v.2.1) (([]:List Int),(0:Int),())
def c57:Ctr:=⟨[.dat (Yv),.dat Iq],[.own (.ol 2 (.flat Iq))],fun a K=>splitK a fun d0 a=>splitK a fun net0 a=>XT (Zbq d0 net0) fun r=>K (r,()) ()⟩
def Zax (a0:Zz) (v1:Int):Option ((Int×Unit) ⊕ ((Int×Unit) ⊕ Bool)) :=
 if v1<(↑(List.length (Zz.Zj6 a0)):Int) then
 (atI (Zz.Zj6 a0) v1).bind fun x0 =>
 (Z9 x0 0 (Wq ((↑(List.length (Zz.Parent a0)):Int)-1))).bind fun l01In0 =>
 if l01In0=true then
 some (.inl (Wq (v1+1),()))
 else
 some (.inr (.inr Bool.false))
 else
 some (.inr (.inr Bool.true))
def Zay (a0:Zz) (v0:Int):Option ((Int×Unit) ⊕ Bool) :=
 if v0<(↑(List.length (Zz.Parent a0)):Int) then
 (atI (Zz.Cap a0) v0).bind fun x0 =>
 (Z9 x0 0 500).bind fun l01In0 =>
 if l01In0=true then
 (atI (Zz.Res a0) v0).bind fun x1 =>
 (Z9 x1 0 1000).bind fun l01In1 =>
 if l01In1=true then
 if v0=0 then
 (atI (Zz.Parent a0) v0).bind fun x2 =>
 if x2=(-1) then
 if x1=0 then
 if 0<v0 then
 (Z9 x2 0 (Wq (v0-1))).bind fun l01In2 =>
 if l01In2=true then
 some (.inl (Wq (v0+1),()))
 else
 some (.inr Bool.false)
 else
 some (.inl (Wq (v0+1),()))
 else
 some (.inr Bool.false)
 else
 some (.inr Bool.false)
 else
 if 0<v0 then
 (atI (Zz.Parent a0) v0).bind fun x2 =>
 (Z9 x2 0 (Wq (v0-1))).bind fun l01In2 =>
 if l01In2=true then
 some (.inl (Wq (v0+1),()))
 else
 some (.inr Bool.false)
 else
 some (.inl (Wq (v0+1),()))
 else
 some (.inr Bool.false)
 else
 some (.inr Bool.false)
 else
 Zl (fun v=>Zax a0 v.1) ((0:Int),())
def ZdJ (a0:Zz) (a1:Int):Option Bool :=
 if (↑(List.length (Zz.Parent a0)):Int)<1 then
 some Bool.false
 else
 if 8<(↑(List.length (Zz.Parent a0)):Int) then
 some Bool.false
 else
 if (↑(List.length (Zz.Res a0)):Int)=(↑(List.length (Zz.Parent a0)):Int) then
 if (↑(List.length (Zz.Cap a0)):Int)=(↑(List.length (Zz.Parent a0)):Int) then
 if (↑(List.length (Zz.Zj6 a0)):Int)=a1 then
 Zl (fun v=>Zay a0 v.1) ((0:Int),())
 else
 some Bool.false
 else
 some Bool.false
 else
 some Bool.false
def c58:Ctr:=D2 (Zaj) Iq (.bool) ZdJ
def Zab (b0:Zg) (net0:Int):Option ((Int×Unit) ⊕ Bool) :=
 if net0<(↑(List.length (Zg.Qo b0)):Int) then
 (atI (Zg.Qo b0) net0).bind fun x0 =>
 (Zbq (Zg.Design b0) net0).bind fun l05Sinks0 =>
 (ZdJ x0 (↑l05Sinks0.length:Int)).bind fun IsWire0 =>
 if IsWire0=true then
 some (.inl (Wq (net0+1),()))
 else
 some (.inr Bool.false)
 else
 some (.inr Bool.true)
def Za0 (b0:Zg):Option Bool :=
 (Zac (Zg.Library b0) (Zg.Design b0)).bind fun IsDesign0 =>
 if IsDesign0=true then
 if (↑(List.length (Zg.Qo b0)):Int)=(↑(List.length (Zb.Yb (Zg.Design b0))):Int) then
 Zl (fun v=>Zab b0 v.1) ((0:Int),())
 else
 some Bool.false
 else
 some Bool.false
def c59:Ctr:=D1 (YG) (.bool) Za0
def VQ (net0:Int) (l05Places0:List Yh) (i0:Int):Option ((Int×Unit) ⊕ Int) :=
 if i0<(↑l05Places0.length:Int) then
 (atI l05Places0 i0).bind fun x0 =>
 if Yh.net x0=net0 then
 if (Yh.drives x0)=true then
 some (.inr i0)
 else
 some (.inl (Wq (i0+1),()))
 else
 some (.inl (Wq (i0+1),()))
 else
 some (.inr (-1))
def ZaP (d0:Zb) (net0:Int):Option Int :=
 (QL d0).bind fun l05Places0 =>
 Zl (fun v=>VQ net0 l05Places0 v.1) ((0:Int),())
def c60:Ctr:=D2 (Yv) Iq Iq ZaP
def ZeR (l0:Zn) (d0:Zb) (place0:Int):Option (Yh×Bool) :=
 (Zac l0 d0).bind fun IsDesign0 =>
 if IsDesign0=true then
 (QL d0).bind fun l05Places0 =>
 (Z9 place0 0 (Wq ((↑l05Places0.length:Int)-1))).bind fun l01In0 =>
 if l01In0=true then
 (atI l05Places0 place0).bind fun x0 =>
 some (x0,Bool.true)
 else
 some ((0,0,0,Bool.false,()),Bool.false)
 else
 some ((0,0,0,Bool.false,()),Bool.false)
def c61:Ctr:=⟨[.dat (YR),.dat (Yv),.dat Iq],[.dat (ZbU),.dat (.bool)],fun a K=>splitK a fun l0 a=>splitK a fun d0 a=>splitK a fun place0 a=>XT (ZeR l0 d0 place0) fun r=>K (r.1,r.2,()) ()⟩
def JJ (b0:Zg) (net0:Int):Option Int :=
 (ZaP (Zg.Design b0) net0).bind fun l05Driver0 =>
 (ZeR (Zg.Library b0) (Zg.Design b0) l05Driver0).bind fun l05At0 =>
 if l05At0.fst.fst<0 then
 some (-1)
 else
 (atI (Zb.Instances (Zg.Design b0)) l05At0.fst.fst).bind fun x0 =>
 (atI (Zn.Cells (Zg.Library b0)) (Zd.Cell x0)).bind fun x1 =>
 if Zf.Kind x1=1 then
 some l05At0.fst.fst
 else
 some (-1)
def c62:Ctr:=D2 (YG) Iq Iq JJ
def V7 (b0:Zg) (instance0:Int):Option (List Int) :=
 (atI (Zb.Instances (Zg.Design b0)) instance0).bind fun x0 =>
 Zu ((0:Int)≤Wq ((↑(List.length (Zd.Yb x0)):Int)-(1:Int))) <|
 Zu (Wq ((↑(List.length (Zd.Yb x0)):Int)-(1:Int))≤(↑(List.length (Zd.Yb x0)):Int)) <|
 some (List.take (Int.toNat (Wq ((↑(List.length (Zd.Yb x0)):Int)-1))-Int.toNat 0) (List.drop (Int.toNat 0) (Zd.Yb x0)))
def c63:Ctr:=D2 (YG) Iq (.sl Iq) V7
def Xz (v1:Bool) (v2:Int) (l1:List Int) (l28Inputs0:List Int) (v3:Int) (v4:Int):Option ((Int×Int×Unit) ⊕ ((Bool×Int×(List Int)×Unit) ⊕ ((Int×(List Int)×Unit) ⊕ ((List Int)×Bool)))) :=
 if v4<(↑l28Inputs0.length:Int) then
 (atI l28Inputs0 v4).bind fun x0 =>
 (atI l1 x0).bind fun x1 =>
 some (.inl (Max.max v3 x1,Wq (v4+1),()))
 else
 (atI l1 v2).bind fun x0 =>
 if x0=Wq (v3+1) then
 some (.inr (.inl (v1,Wq (v2+1),l1,())))
 else
 some (.inr (.inl (Bool.true,Wq (v2+1),List.set l1 (Int.toNat v2) (Wq (v3+1)),())))
def Qf (a0:Zg) (v0:Int) (v1:Bool) (v2:Int) (l1:List Int):Option ((Bool×Int×(List Int)×Unit) ⊕ ((Int×(List Int)×Unit) ⊕ ((List Int)×Bool))) :=
 if v2<(↑(List.length (Zb.Yb (Zg.Design a0))):Int) then
 (JJ a0 v2).bind fun l28Gate0 =>
 if l28Gate0<0 then
 some (.inl (v1,Wq (v2+1),l1,()))
 else
 (V7 a0 l28Gate0).bind fun l28Inputs0 =>
 Zl (fun v=>Xz v1 v2 l1 l28Inputs0 v.1 v.2.1) ((0:Int),(0:Int),())
 else
 if v1=true then
 some (.inr (.inl (Wq (v0+1),l1,())))
 else
 some (.inr (.inr (l1,Bool.true)))
def Qg (a0:Zg) (v0:Int) (l0:List Int):Option ((Int×(List Int)×Unit) ⊕ ((List Int)×Bool)) :=
 if v0≤(↑(List.length (Zb.Yb (Zg.Design a0))):Int) then
 Zl (fun v=>Qf a0 v0 v.1 v.2.1 v.2.2.1) (Bool.false,(0:Int),l0,())
 else
 some (.inr (([]:List Int),Bool.false))
def ZaQ (a0:Zg):Option ((List Int)×Bool) :=
 Zu ((0:Int)≤(↑(List.length (Zb.Yb (Zg.Design a0))):Int)) <|
 Zu ((↑(List.length (Zb.Yb (Zg.Design a0))):Int)≤(↑(List.length (Zb.Yb (Zg.Design a0))):Int)) <|
 Zu ((↑(List.length (Zb.Yb (Zg.Design a0))):Int)≤(4611686018427387904:Int)) <|
 Zu ((↑(8:Nat):Int)*(↑(List.length (Zb.Yb (Zg.Design a0))):Int)≤(281474976710656:Int)) <|
 Zl (fun v=>Qg a0 v.1 v.2.1) ((0:Int),List.replicate (Int.toNat (↑(List.length (Zb.Yb (Zg.Design a0))):Int)) (0:Int),())
def c64:Ctr:=⟨[.dat (YG)],[.own (.ol 2 (.flat Iq)),.dat (.bool)],fun a K=>splitK a fun a0 a=>XT (ZaQ a0) fun r=>K (r.1,r.2,()) ()⟩
def ZaO (b0:Zg):Option Bool :=
 (Za0 b0).bind fun IsBlock0 =>
 if IsBlock0=true then
 (ZaQ b0).bind fun l28Levels0 =>
 some l28Levels0.snd
 else
 some Bool.false
def c65:Ctr:=D1 (YG) (.bool) ZaO
def Za2 (b0:Zg):Option Int :=
 (Za0 b0).bind fun IsBlock0 =>
 if IsBlock0=true then
 (ZaO b0).bind fun IsLogical0 =>
 if IsLogical0=true then
 some 0
 else
 some 7
 else
 some 1
def c66:Ctr:=D1 (YG) Iq Za2
def ZbT (b0:Zg) (net0:Int):Option Int :=
 (Za2 b0).bind fun l28Code0 =>
 if l28Code0=0 then
 (Z9 net0 0 (Wq ((↑(List.length (Zb.Yb (Zg.Design b0))):Int)-1))).bind fun l01In0 =>
 if l01In0=true then
 some 0
 else
 some 2
 else
 some l28Code0
def c67:Ctr:=D2 (YG) Iq Iq ZbT
def Vf (b0:Zg) (out0:List Int) (net0:Int):Option (((List Int)×Int×Unit) ⊕ List Int) :=
 if net0<(↑(List.length (Zb.Yb (Zg.Design b0))):Int) then
 (JJ b0 net0).bind fun l28Gate0 =>
 if l28Gate0<0 then
 Zu ((List.length out0+List.length [net0])*(8:Nat)≤(140737488355328:Nat)) <|
 some (.inl (out0++[net0],Wq (net0+(1:Int)),()))
 else
 some (.inl (out0,Wq (net0+1),()))
 else
 some (.inr out0)
def Ve (b0:Zg):Option (List Int) :=
 Zl (fun v=>Vf b0 v.1 v.2.1) (([]:List Int),(0:Int),())
def c68:Ctr:=⟨[.dat (YG)],[.own (.ol 2 (.flat Iq))],fun a K=>splitK a fun b0 a=>XT (Ve b0) fun r=>K (r,()) ()⟩
def Zhc (a1:Int) (b1:Int):Option ((Int×Int×Unit) ⊕ Int) :=
 if b1=0 then
 some (.inr a1)
 else
 Zu (b1≠(0:Int)) <|
 some (.inl (b1,Int.tmod a1 b1,()))
def ZfI (a0:Int) (b0:Int):Option Int :=
 Zl (fun v=>Zhc v.1 v.2.1) (a0,b0,())
def c69:Ctr:=D2 Iq Iq Iq ZfI
def Zad (f0:ZB):Option Bool :=
 (Z9 (ZB.Den f0) 1 1000000).bind fun l01In0 =>
 if l01In0=true then
 (Z9 (ZB.Num f0) 0 (ZB.Den f0)).bind fun l01In1 =>
 if l01In1=true then
 (ZfI (ZB.Den f0) (ZB.Num f0)).bind fun l29Gcd0 =>
 some (Decidable.decide (l29Gcd0=1))
 else
 some Bool.false
 else
 some Bool.false
def c70:Ctr:=D1 (V8) (.bool) Zad
def QA (list0:List Zk) (i0:Int):Option ((Int×Unit) ⊕ Bool) :=
 if i0<(↑list0.length:Int) then
 (atI list0 i0).bind fun x0 =>
 (Zad (Zk.High x0)).bind fun IsFraction0 =>
 if IsFraction0=true then
 if 10<ZB.Den (Zk.High x0) then
 some (.inr Bool.false)
 else
 (Z9 (Zk.ZcR x0) 0 1000).bind fun l01In0 =>
 if l01In0=true then
 some (.inl (Wq (i0+1),()))
 else
 some (.inr Bool.false)
 else
 some (.inr Bool.false)
 else
 some (.inr Bool.true)
def Vx (b0:Zg) (list0:List Zk):Option Bool :=
 (Za2 b0).bind fun l28Code0 =>
 if l28Code0=0 then
 (Ve b0).bind fun l28Sources0 =>
 if (↑list0.length:Int)=(↑l28Sources0.length:Int) then
 Zl (fun v=>QA list0 v.1) ((0:Int),())
 else
 some Bool.false
 else
 some Bool.false
def c71:Ctr:=D2 (YG) (.sl (ZE)) (.bool) Vx
def Za3 (b0:Zg) (list0:List Zk) (net0:Int):Option Int :=
 (ZbT b0 net0).bind fun l28NetCode0 =>
 if l28NetCode0=0 then
 (Vx b0 list0).bind fun IsAssignment0 =>
 if IsAssignment0=true then
 some 0
 else
 some 5
 else
 some l28NetCode0
def c72:Ctr:=D3 (YG) (.sl (ZE)) Iq Iq Za3
def YF (b0:Zg) (rec0:Zg→Int→List Bool→List Bool→Option (List Bool×List Bool)) (l28Inputs0:List Int) (i0:Int) (l0:List Bool) (l1:List Bool):Option ((Int×(List Bool)×(List Bool)×Unit) ⊕ ((List Bool)×(List Bool))) :=
 if i0<(↑l28Inputs0.length:Int) then
 (atI l28Inputs0 i0).bind fun x1 =>
 (rec0 b0 x1 l0 l1).bind fun r0 =>
 some (.inl (Wq (i0+1),r0.fst,r0.snd,()))
 else
 some (.inr (l0,l1))
def YA (rec0:Zg→Int→(List Bool)→(List Bool)→Option ((List Bool)×(List Bool))) (b0:Zg) (net0:Int) (marks0:List Bool) (seen0:List Bool):Option ((List Bool)×(List Bool)) :=
 (atI seen0 net0).bind fun x0 =>
 if x0=true then
 some (marks0,seen0)
 else
 (JJ b0 net0).bind fun l28Gate0 =>
 if l28Gate0<0 then
 (atI marks0 net0).bind fun x1 =>
 some (List.set marks0 (Int.toNat net0) Bool.true,List.set seen0 (Int.toNat net0) Bool.true)
 else
 (V7 b0 l28Gate0).bind fun l28Inputs0 =>
 Zl (fun v=>YF b0 rec0 l28Inputs0 v.1 v.2.1 v.2.2.1) ((0:Int),marks0,List.set seen0 (Int.toNat net0) Bool.true,())
def Yw:Nat→Zg→Int→(List Bool)→(List Bool)→Option ((List Bool)×(List Bool))
 | 0=>fun _ _ _ _=>none
 | n+1=>YA (Yw n)
def Zct (b0:Zg) (net0:Int) (marks0:List Bool) (seen0:List Bool):Option ((List Bool)×(List Bool)):=ZqV (fun n=>Yw n b0 net0 marks0 seen0)
def JK (rec0:Zg→Int→(List Bool)→(List Bool)→Option ((List Bool)×(List Bool))):Ctr:=⟨[.dat (YG),.dat Iq,.back (.ol 4 (.flat (.bool))),.back (.ol 4 (.flat (.bool)))],[],fun a K=>splitK a fun b0 a=>splitK a fun net0 a=>splitK a fun marks0 a=>splitK a fun seen0 a=>XT (rec0 b0 net0 marks0 seen0) fun r=>K () (r.1,r.2,())⟩
def c73:Ctr:=JK Zct
def VW (marks0:List Bool) (out0:List Int) (i0:Int):Option (((List Int)×Int×Unit) ⊕ List Int) :=
 if i0<(↑marks0.length:Int) then
 (atI marks0 i0).bind fun x0 =>
 if x0=true then
 Zu ((List.length out0+List.length [i0])*(8:Nat)≤(140737488355328:Nat)) <|
 some (.inl (out0++[i0],Wq (i0+(1:Int)),()))
 else
 some (.inl (out0,Wq (i0+1),()))
 else
 some (.inr out0)
def ZaR (marks0:List Bool):Option (List Int) :=
 Zl (fun v=>VW marks0 v.1 v.2.1) (([]:List Int),(0:Int),())
def c74:Ctr:=⟨[.dat (.sl (.bool))],[.own (.ol 2 (.flat Iq))],fun a K=>splitK a fun marks0 a=>XT (ZaR marks0) fun r=>K (r,()) ()⟩
def Zai (b0:Zg) (net0:Int):Option (List Int) :=
 Zu ((0:Int)≤(↑(List.length (Zb.Yb (Zg.Design b0))):Int)) <|
 Zu ((↑(List.length (Zb.Yb (Zg.Design b0))):Int)≤(↑(List.length (Zb.Yb (Zg.Design b0))):Int)) <|
 Zu ((↑(List.length (Zb.Yb (Zg.Design b0))):Int)≤(4611686018427387904:Int)) <|
 Zu ((↑(1:Nat):Int)*(↑(List.length (Zb.Yb (Zg.Design b0))):Int)≤(281474976710656:Int)) <|
 (Zct b0 net0 (List.replicate (Int.toNat (↑(List.length (Zb.Yb (Zg.Design b0))):Int)) Bool.false) (List.replicate (Int.toNat (↑(List.length (Zb.Yb (Zg.Design b0))):Int)) Bool.false)).bind fun l28Mark0 =>
 (ZaR l28Mark0.fst).bind fun l28Listed0 =>
 some l28Listed0
def c75:Ctr:=⟨[.dat (YG),.dat Iq],[.own (.ol 2 (.flat Iq))],fun a K=>splitK a fun b0 a=>splitK a fun net0 a=>XT (Zai b0 net0) fun r=>K (r,()) ()⟩
def ZaB (list0:List Int) (x0:Int) (i0:Int):Option ((Int×Unit) ⊕ Int) :=
 if i0<(↑list0.length:Int) then
 (atI list0 i0).bind fun x1 =>
 if x1=x0 then
 some (.inr i0)
 else
 some (.inl (Wq (i0+1),()))
 else
 some (.inr (-1))
def ZdL (list0:List Int) (x0:Int):Option Int :=
 Zl (fun v=>ZaB list0 x0 v.1) ((0:Int),())
def c76:Ctr:=D2 (.sl Iq) Iq Iq ZdL
def ZeS (b0:Zg) (list0:List Zk) (source0:Int):Option Zk :=
 (Ve b0).bind fun l28Sources0 =>
 (ZdL l28Sources0 source0).bind fun l28Has0 =>
 (atI list0 l28Has0).bind fun x0 =>
 some x0
def c77:Ctr:=D3 (YG) (.sl (ZE)) Iq (ZE) ZeS
def JF (b0:Zg) (list0:List Zk) (l28Support0:List Int) (sum0:Int) (p0:Int):Option ((Int×Int×Unit) ⊕ Int) :=
 if p0<(↑l28Support0.length:Int) then
 (atI l28Support0 p0).bind fun x0 =>
 (ZeS b0 list0 x0).bind fun l29Of0 =>
 some (.inl (Wq (sum0+Zk.ZcR l29Of0),Wq (p0+1),()))
 else
 some (.inr sum0)
def Zbr (b0:Zg) (list0:List Zk) (net0:Int):Option Int :=
 (Zai b0 net0).bind fun l28Support0 =>
 Zl (fun v=>JF b0 list0 l28Support0 v.1 v.2.1) ((0:Int),(0:Int),())
def c78:Ctr:=D3 (YG) (.sl (ZE)) Iq Iq Zbr
def Vw (b0:Zg) (list0:List Zk) (net0:Int):Option (Int×Int) :=
 (Za3 b0 list0 net0).bind fun l29Code0 =>
 if l29Code0=0 then
 (Zbr b0 list0 net0).bind fun l30Bound0 =>
 some (l30Bound0,0)
 else
 some (0,l29Code0)
def c79:Ctr:=⟨[.dat (YG),.dat (.sl (ZE)),.dat Iq],[.dat Iq,.dat Iq],fun a K=>splitK a fun b0 a=>splitK a fun list0 a=>splitK a fun net0 a=>XT (Vw b0 list0 net0) fun r=>K (r.1,r.2,()) ()⟩
def Yd (x0:Int) (low0:Int) (high0:Int):Option Bool :=
 if low0≤x0 then
 some (Decidable.decide (x0≤high0))
 else
 some Bool.false
def c80:Ctr:=D3 Iq Iq Iq (.bool) Yd
def ZbE (s0:List UInt8):Option Bool :=
 (Yd (↑s0.length:Int) 1 8).bind fun within0 =>
 if within0=true then
 Zu (List.length s0≤(1000000:Nat)) <|
 if Go.Lib.trimS s0 [(97:UInt8),(98:UInt8),(99:UInt8),(100:UInt8),(101:UInt8),(102:UInt8),(103:UInt8),(104:UInt8),(105:UInt8),(106:UInt8),(107:UInt8),(108:UInt8),(109:UInt8),(110:UInt8),(111:UInt8),(112:UInt8),(113:UInt8),(114:UInt8),(115:UInt8),(116:UInt8),(117:UInt8),(118:UInt8),(119:UInt8),(120:UInt8),(121:UInt8),(122:UInt8),(48:UInt8),(49:UInt8),(50:UInt8),(51:UInt8),(52:UInt8),(53:UInt8),(54:UInt8),(55:UInt8),(56:UInt8),(57:UInt8)]=([]:List UInt8) then
 (atI s0 0).bind fun x0 =>
 some (Decidable.decide ((0:Int)≤Go.Lib.indexByte [(97:UInt8),(98:UInt8),(99:UInt8),(100:UInt8),(101:UInt8),(102:UInt8),(103:UInt8),(104:UInt8),(105:UInt8),(106:UInt8),(107:UInt8),(108:UInt8),(109:UInt8),(110:UInt8),(111:UInt8),(112:UInt8),(113:UInt8),(114:UInt8),(115:UInt8),(116:UInt8),(117:UInt8),(118:UInt8),(119:UInt8),(120:UInt8),(121:UInt8),(122:UInt8)] (Nat.toUInt8 (Int.toNat (↑(UInt8.toNat x0):Int)))))
 else
 some Bool.false
 else
 some Bool.false
def c81:Ctr:=D1 (.str) (.bool) ZbE
def Qe (list0:List Yf):Option Int :=
 some (↑list0.length:Int)
def c82:Ctr:=D1 (.sl (Zef)) Iq Qe
def Y7 (s0:List (List UInt8)) (v0:List UInt8) (v1:Int):Option ((Int×Unit) ⊕ Int) :=
 if v1<(↑s0.length:Int) then
 (atI s0 v1).bind fun x0 =>
 if v0=x0 then
 some (.inr v1)
 else
 some (.inl (Wq (v1+1),()))
 else
 some (.inr (-1))
def Y6 (s0:List (List UInt8)) (v0:List UInt8):Option Int :=
 Zl (fun v=>Y7 s0 v0 v.1) ((0:Int),())
def c83:Ctr:=D2 (.sl (.str)) (.str) Iq Y6
def YE (s0:List (List UInt8)) (v0:List UInt8):Option Bool :=
 (Y6 s0 v0).bind fun string0 =>
 some (Decidable.decide (0≤string0))
def c84:Ctr:=D2 (.sl (.str)) (.str) (.bool) YE
def Jp (list0:List (List UInt8)) (v0:Int):Option ((Int×Unit) ⊕ Bool) :=
 if v0<(↑list0.length:Int) then
 (atI list0 v0).bind fun x0 =>
 (ZbE x0).bind fun isName0 =>
 if isName0=true then
 Zu ((0:Int)≤v0) <|
 Zu (v0≤(↑list0.length:Int)) <|
 (YE (List.take (Int.toNat v0-Int.toNat 0) (List.drop (Int.toNat 0) list0)) x0).bind fun string0 =>
 if string0=true then
 some (.inr Bool.false)
 else
 some (.inl (Wq (v0+1),()))
 else
 some (.inr Bool.false)
 else
 some (.inr Bool.true)
def X3 (list0:List (List UInt8)):Option Bool :=
 Zl (fun v=>Jp list0 v.1) ((0:Int),())
def c85:Ctr:=D1 (.sl (.str)) (.bool) X3
def X4 (list0:List Yf) (names0:List (List UInt8)) (v0:Int):Option (((List (List UInt8))×Int×Unit) ⊕ Bool) :=
 if v0<(↑list0.length:Int) then
 (atI list0 v0).bind fun x0 =>
 Zu ((List.length names0+List.length [Yf.Name x0])*(16:Nat)≤(140737488355328:Nat)) <|
 if v0=Wq ((↑list0.length:Int)-1) then
 if Yf.Dir x0=2 then
 if Yf.Cap x0=0 then
 if (Yf.Clock x0)=true then
 some (.inr Bool.false)
 else
 some (.inl (names0++[Yf.Name x0],Wq (v0+(1:Int)),()))
 else
 some (.inr Bool.false)
 else
 some (.inr Bool.false)
 else
 if Yf.Dir x0=1 then
 (Yd (Yf.Cap x0) 0 500).bind fun within0 =>
 if within0=true then
 some (.inl (names0++[Yf.Name x0],Wq (v0+(1:Int)),()))
 else
 some (.inr Bool.false)
 else
 some (.inr Bool.false)
 else
 (Qe list0).bind fun Pin0 =>
 (Yd Pin0 2 5).bind fun within0 =>
 if within0=true then
 (X3 names0).bind fun areNames0 =>
 some (.inr areNames0)
 else
 some (.inr Bool.false)
def Zb7 (list0:List Yf):Option Bool :=
 Zl (fun v=>X4 list0 v.1 v.2.1) (([]:List (List UInt8)),(0:Int),())
def c86:Ctr:=D1 (.sl (Zef)) (.bool) Zb7
def Zb8 (kind0:Int):Option Bool :=
 if kind0=4 then
 some Bool.true
 else
 some (Decidable.decide (kind0=5))
def c87:Ctr:=D1 Iq (.bool) Zb8
def Yq (list0:List Int):Option Int :=
 some (↑list0.length:Int)
def c88:Ctr:=D1 (.sl Iq) Iq Yq
def Zap (n0:Int) (a0:Int) (a1:Int):Option Bool :=
 (Yd n0 a0 a1).bind fun within0 =>
 some !within0
def c89:Ctr:=D3 Iq (.ptr Iq) (.ptr Iq) (.bool) Zap
def Z0 (s0:List Int) (f0:Int×Int×Unit) (v0:Int):Option ((Int×Unit) ⊕ Int) :=
 if v0<(↑s0.length:Int) then
 (atI s0 v0).bind fun x0 =>
 (Zap x0 f0.fst f0.snd.fst).bind fun c1_0 =>
 if c1_0=true then
 some (.inr v0)
 else
 some (.inl (Wq (v0+1),()))
 else
 some (.inr (-1))
def ZU (s0:List Int) (f0:Int×Int×Unit):Option Int :=
 Zl (fun v=>Z0 s0 f0 v.1) ((0:Int),())
def c90:Ctr:=D2 (.sl Iq) (.fn 132 (.pair (.ptr Iq) (.pair (.ptr Iq) (.unit)))) Iq ZU
def Z7 (s0:List Int) (f0:Int×Int×Unit):Option Bool :=
 (ZU s0 f0).bind fun c1_0 =>
 some (Decidable.decide (0≤c1_0))
def c91:Ctr:=D2 (.sl Iq) (.fn 132 (.pair (.ptr Iq) (.pair (.ptr Iq) (.unit)))) (.bool) Z7
def YJ (list0:List Int) (low0:Int) (high0:Int):Option Bool :=
 (Z7 list0 (low0,high0,())).bind fun c1_0 =>
 some !c1_0
def c92:Ctr:=D3 (.sl Iq) Iq Iq (.bool) YJ
def Y4 (list0:List Int) (i0:Int):Option ((Int×Unit) ⊕ Bool) :=
 if i0<(↑list0.length:Int) then
 (atI list0 (Wq (i0-1))).bind fun x0 =>
 (atI list0 i0).bind fun x1 =>
 if x1≤x0 then
 some (.inr Bool.false)
 else
 some (.inl (Wq (i0+1),()))
 else
 some (.inr Bool.true)
def Vt (list0:List Int):Option Bool :=
 Zl (fun v=>Y4 list0 v.1) ((1:Int),())
def c93:Ctr:=D1 (.sl Iq) (.bool) Vt
def ZbD (list0:List Int):Option Bool :=
 (Yq list0).bind fun int64_0 =>
 (Yd int64_0 1 4).bind fun within0 =>
 if within0=true then
 (YJ list0 0 100000).bind fun areWithin0 =>
 if areWithin0=true then
 (Vt list0).bind fun isIncreasing0 =>
 some isIncreasing0
 else
 some Bool.false
 else
 some Bool.false
def c94:Ctr:=D1 (.sl Iq) (.bool) ZbD
def Zb6 (t0:Zq):Option Bool :=
 (ZbD (Zq.ZeW t0)).bind fun isAxis0 =>
 if isAxis0=true then
 (ZbD (Zq.Loads t0)).bind fun isAxis1 =>
 if isAxis1=true then
 if (↑(List.length (Zq.Values t0)):Int)=Wq ((↑(List.length (Zq.ZeW t0)):Int)*(↑(List.length (Zq.Loads t0)):Int)) then
 (YJ (Zq.Values t0) (-1000000) 1000000).bind fun areWithin0 =>
 some areWithin0
 else
 some Bool.false
 else
 some Bool.false
 else
 some Bool.false
def c95:Ctr:=D1 (Xa) (.bool) Zb6
def Xw (x0:List Int) (m0:Int) (i0:Int):Option ((Int×Int×Unit) ⊕ Int) :=
 if i0<(↑x0.length:Int) then
 (atI x0 i0).bind fun x2 =>
 some (.inl (Min.min m0 x2,Wq (i0+1),()))
 else
 some (.inr m0)
def XD (x0:List Int):Option Int :=
 if (↑x0.length:Int)<1 then
 none
 else
 (atI x0 0).bind fun x1 =>
 Zl (fun v=>Xw x0 v.1 v.2.1) (x1,(1:Int),())
def c96:Ctr:=D1 (.sl Iq) Iq XD
def XH (t0:Zq) (a0:Bool):Option Bool :=
 (Zb6 t0).bind fun IsTable0 =>
 if IsTable0=true then
 if a0=true then
 (XD (Zq.Values t0)).bind fun int64_0 =>
 some (Decidable.decide (int64_0<0))
 else
 some Bool.false
 else
 some Bool.true
def c97:Ctr:=D2 (Xa) (.ptr (.bool)) (.bool) XH
def ZM (s0:List Zq) (f0:Bool×Unit) (v0:Int):Option ((Int×Unit) ⊕ Int) :=
 if v0<(↑s0.length:Int) then
 (atI s0 v0).bind fun x0 =>
 (XH x0 f0.fst).bind fun c1_0 =>
 if c1_0=true then
 some (.inr v0)
 else
 some (.inl (Wq (v0+1),()))
 else
 some (.inr (-1))
def ZF (s0:List Zq) (f0:Bool×Unit):Option Int :=
 Zl (fun v=>ZM s0 f0 v.1) ((0:Int),())
def c98:Ctr:=D2 (.sl (Xa)) (.fn 251 (.pair (.ptr (.bool)) (.unit))) Iq ZF
def Zy (s0:List Zq) (f0:Bool×Unit):Option Bool :=
 (ZF s0 f0).bind fun c1_0 =>
 some (Decidable.decide (0≤c1_0))
def c99:Ctr:=D2 (.sl (Xa)) (.fn 251 (.pair (.ptr (.bool)) (.unit))) (.bool) Zy
def QJ (list0:List Zq) (positive0:Bool):Option Bool :=
 if (↑list0.length:Int)=2 then
 (Zy list0 (positive0,())).bind fun c1_0 =>
 some !c1_0
 else
 some Bool.false
def ZsQ:Ctr:=D2 (.sl (Xa)) (.bool) (.bool) QJ
def JR (p0:Yf):Option Bool :=
 some (Yf.Clock p0)
def ZsR:Ctr:=D1 (Zef) (.bool) JR
def ZQ (s0:List Yf) (v0:Int):Option ((Int×Unit) ⊕ Int) :=
 if v0<(↑s0.length:Int) then
 (atI s0 v0).bind fun x0 =>
 (JR x0).bind fun c1_0 =>
 if c1_0=true then
 some (.inr v0)
 else
 some (.inl (Wq (v0+1),()))
 else
 some (.inr (-1))
def ZJ (s0:List Yf) (f0:Unit):Option Int :=
 Zl (fun v=>ZQ s0 v.1) ((0:Int),())
def ZsS:Ctr:=D2 (.sl (Zef)) (.fn 255 (.unit)) Iq ZJ
def JQ (c0:Zf):Option Int :=
 (ZJ (Zf.Ye c0) ()).bind fun c1_0 =>
 some c1_0
def ZsT:Ctr:=D1 (QC) Iq JQ
def QF (c0:Zf):Option Int :=
 (Qe (Zf.Ye c0)).bind fun Pin0 =>
 some (Wq (Pin0-1))
def ZrQ:Ctr:=D1 (QC) Iq QF
def Qh (c0:Zf) (pin0:Int):Option Bool :=
 (QF c0).bind fun output0 =>
 (Yd pin0 0 (Wq (output0-1))).bind fun within0 =>
 some within0
def c105:Ctr:=D2 (QC) Iq (.bool) Qh
def JU (a0:Zf) (a1:Zw):Option Bool :=
 (Zb8 (Zw.Kind a1)).bind fun isCheck0 =>
 if isCheck0=true then
 if Zw.Zak a1=0 then
 if (↑(List.length (Zw.ZfO a1)):Int)=0 then
 (QJ (Zw.Delay a1) Bool.false).bind fun areTables0 =>
 if areTables0=true then
 (JQ a0).bind fun clock0 =>
 if Zw.From a1=clock0 then
 if 0≤Zw.From a1 then
 (Qh a0 (Zw.To a1)).bind fun isInput0 =>
 if isInput0=true then
 some (!Decidable.decide (Zw.To a1=Zw.From a1))
 else
 some Bool.false
 else
 some Bool.false
 else
 some Bool.false
 else
 some Bool.false
 else
 some Bool.false
 else
 some Bool.false
 else
 (QJ (Zw.Delay a1) Bool.true).bind fun areTables0 =>
 if areTables0=true then
 (QJ (Zw.ZfO a1) Bool.true).bind fun areTables1 =>
 if areTables1=true then
 (QF a0).bind fun output0 =>
 if Zw.To a1=output0 then
 (Qh a0 (Zw.From a1)).bind fun isInput0 =>
 if isInput0=true then
 if Zw.Kind a1=1 then
 (atI (Zf.Ye a0) (Zw.From a1)).bind fun x0 =>
 if (Yf.Clock x0)=true then
 some Bool.false
 else
 (Yd (Zw.Zak a1) 1 3).bind fun within0 =>
 some within0
 else
 if Zw.Kind a1=2 then
 if Zw.Kind a1=2 then
 (atI (Zf.Ye a0) (Zw.From a1)).bind fun x0 =>
 if (Yf.Clock x0)=true then
 some (Decidable.decide (Zw.Zak a1=0))
 else
 some Bool.false
 else
 some Bool.false
 else
 if Zw.Kind a1=3 then
 (atI (Zf.Ye a0) (Zw.From a1)).bind fun x0 =>
 if (Yf.Clock x0)=true then
 some (Decidable.decide (Zw.Zak a1=0))
 else
 some Bool.false
 else
 some Bool.false
 else
 some Bool.false
 else
 some Bool.false
 else
 some Bool.false
 else
 some Bool.false
def ZsU:Ctr:=D2 (QC) (ZeT) (.bool) JU
def Y8 (o0:Zw) (a0:Zw):Option Bool :=
 if Zw.Kind o0=Zw.Kind a0 then
 if Zw.From o0=Zw.From a0 then
 some (Decidable.decide (Zw.To o0=Zw.To a0))
 else
 some Bool.false
 else
 some Bool.false
def c107:Ctr:=D2 (ZeT) (.ptr (ZeT)) (.bool) Y8
def ZO (s0:List Zw) (f0:Zw×Unit) (v0:Int):Option ((Int×Unit) ⊕ Int) :=
 if v0<(↑s0.length:Int) then
 (atI s0 v0).bind fun x0 =>
 (Y8 x0 f0.fst).bind fun c1_0 =>
 if c1_0=true then
 some (.inr v0)
 else
 some (.inl (Wq (v0+1),()))
 else
 some (.inr (-1))
def ZG (s0:List Zw) (f0:Zw×Unit):Option Int :=
 Zl (fun v=>ZO s0 f0 v.1) ((0:Int),())
def ZsV:Ctr:=D2 (.sl (ZeT)) (.fn 225 (.pair (.ptr (ZeT)) (.unit))) Iq ZG
def ZA (s0:List Zw) (f0:Zw×Unit):Option Bool :=
 (ZG s0 f0).bind fun c1_0 =>
 some (Decidable.decide (0≤c1_0))
def c109:Ctr:=D2 (.sl (ZeT)) (.fn 225 (.pair (.ptr (ZeT)) (.unit))) (.bool) ZA
def Qt (c0:Zf) (v0:Int):Option ((Int×Unit) ⊕ Bool) :=
 if v0<(↑(List.length (Zf.VX c0)):Int) then
 (atI (Zf.VX c0) v0).bind fun x0 =>
 (JU c0 x0).bind fun isArc0 =>
 if isArc0=true then
 Zu ((0:Int)≤v0) <|
 Zu (v0≤(↑(List.length (Zf.VX c0)):Int)) <|
 (ZA (List.take (Int.toNat v0-Int.toNat 0) (List.drop (Int.toNat 0) (Zf.VX c0))) (x0,())).bind fun c1_0 =>
 if c1_0=true then
 some (.inr Bool.false)
 else
 some (.inl (Wq (v0+1),()))
 else
 some (.inr Bool.false)
 else
 some (.inr (Decidable.decide ((↑(List.length (Zf.VX c0)):Int)≤8)))
def Vq (c0:Zf):Option Bool :=
 Zl (fun v=>Qt c0 v.1) ((0:Int),())
def ZsW:Ctr:=D1 (QC) (.bool) Vq
def Jc (a0:Zw) (a1:Int):Option Bool :=
 some (Decidable.decide (Zw.Kind a0=a1))
def ZsX:Ctr:=D2 (ZeT) (.ptr Iq) (.bool) Jc
def ZV (s0:List Zw) (f0:Int×Unit) (v0:Int):Option ((Int×Unit) ⊕ Int) :=
 if v0<(↑s0.length:Int) then
 (atI s0 v0).bind fun x0 =>
 (Jc x0 f0.fst).bind fun c1_0 =>
 if c1_0=true then
 some (.inr v0)
 else
 some (.inl (Wq (v0+1),()))
 else
 some (.inr (-1))
def ZK (s0:List Zw) (f0:Int×Unit):Option Int :=
 Zl (fun v=>ZV s0 f0 v.1) ((0:Int),())
def ZsY:Ctr:=D2 (.sl (ZeT)) (.fn 243 (.pair (.ptr Iq) (.unit))) Iq ZK
def ZH (s0:List Zw) (f0:Int×Unit):Option Bool :=
 (ZK s0 f0).bind fun c1_0 =>
 some (Decidable.decide (0≤c1_0))
def ZsZ:Ctr:=D2 (.sl (ZeT)) (.fn 243 (.pair (.ptr Iq) (.unit))) (.bool) ZH
def XB (c0:Zf) (kind0:Int):Option Bool :=
 (ZH (Zf.VX c0) (kind0,())).bind fun c1_0 =>
 some c1_0
def Zs0:Ctr:=D2 (QC) Iq (.bool) XB
def YV (a0:Zf) (v0:Int) (v1:Int):Option ((Int×Int×Unit) ⊕ Bool) :=
 if v1<(↑(List.length (Zf.Ye a0)):Int) then
 (atI (Zf.Ye a0) v1).bind fun x0 =>
 if (Yf.Clock x0)=true then
 some (.inl (Wq (v0+1),Wq (v1+1),()))
 else
 some (.inl (v0,Wq (v1+1),()))
 else
 if Zf.Kind a0=1 then
 if v0=0 then
 (QF a0).bind fun output0 =>
 Zu ((0:Int)≤output0) <|
 if (↑(List.length (Zf.Truth a0)):Int)=Wq (1*2 ^ Min.min (Int.toNat output0) (IntKind.bits IntKind.i64)) then
 (YJ (Zf.Truth a0) 0 1).bind fun areWithin0 =>
 some (.inr areWithin0)
 else
 some (.inr Bool.false)
 else
 some (.inr Bool.false)
 else
 if Zf.Kind a0=2 then
 if v0=1 then
 if (↑(List.length (Zf.Truth a0)):Int)=0 then
 (XB a0 1).bind fun has0 =>
 if has0=true then
 some (.inr Bool.false)
 else
 (XB a0 2).bind fun has1 =>
 (XB a0 3).bind fun has2 =>
 some (.inr (!has1 == has2))
 else
 some (.inr Bool.false)
 else
 some (.inr Bool.false)
 else
 if Zf.Kind a0=3 then
 if v0=1 then
 if (↑(List.length (Zf.Truth a0)):Int)=0 then
 (XB a0 1).bind fun has0 =>
 if has0=true then
 (XB a0 2).bind fun has1 =>
 if has1=true then
 (XB a0 3).bind fun has2 =>
 some (.inr !has2)
 else
 some (.inr Bool.false)
 else
 some (.inr Bool.false)
 else
 some (.inr Bool.false)
 else
 some (.inr Bool.false)
 else
 some (.inr Bool.false)
def QT (a0:Zf):Option Bool :=
 Zl (fun v=>YV a0 v.1 v.2.1) ((0:Int),(0:Int),())
def Zs1:Ctr:=D1 (QC) (.bool) QT
def Zdn (c0:Zf):Option Bool :=
 (ZbE (Zf.Name c0)).bind fun isName0 =>
 if isName0=true then
 (Zb7 (Zf.Ye c0)).bind fun arePins0 =>
 if arePins0=true then
 (Vq c0).bind fun areArcs0 =>
 if areArcs0=true then
 (Yd (Zf.Zps c0) 0 100000).bind fun within0 =>
 if within0=true then
 (Yd (Zf.Ze4 c0) 0 100000).bind fun within1 =>
 if within1=true then
 (QT c0).bind fun isOfKind0 =>
 some isOfKind0
 else
 some Bool.false
 else
 some Bool.false
 else
 some Bool.false
 else
 some Bool.false
 else
 some Bool.false
def c116:Ctr:=D1 (QC) (.bool) Zdn
def Xx (l0:Zn) (names0:List (List UInt8)) (v0:Int):Option (((List (List UInt8))×Int×Unit) ⊕ Bool) :=
 if v0<(↑(List.length (Zn.Cells l0)):Int) then
 (atI (Zn.Cells l0) v0).bind fun x0 =>
 (Zdn x0).bind fun IsCell0 =>
 if IsCell0=true then
 Zu ((List.length names0+List.length [Zf.Name x0])*(16:Nat)≤(140737488355328:Nat)) <|
 some (.inl (names0++[Zf.Name x0],Wq (v0+(1:Int)),()))
 else
 some (.inr Bool.false)
 else
 if (↑(List.length (Zn.Cells l0)):Int)≤8 then
 (X3 names0).bind fun areNames0 =>
 some (.inr areNames0)
 else
 some (.inr Bool.false)
def ZaF (l0:Zn):Option Bool :=
 Zl (fun v=>Xx l0 v.1 v.2.1) (([]:List (List UInt8)),(0:Int),())
def c117:Ctr:=D1 (YR) (.bool) ZaF
def XV (d0:Zb) (instances0:List (List UInt8)) (ports0:List (List UInt8)) (v1:Int):Option (((List (List UInt8))×Int×Unit) ⊕ (((List (List UInt8))×Int×Unit) ⊕ Bool)) :=
 if v1<(↑(List.length (Zb.YB d0)):Int) then
 (atI (Zb.YB d0) v1).bind fun x0 =>
 Zu ((List.length ports0+List.length [ZN.Name x0])*(16:Nat)≤(140737488355328:Nat)) <|
 some (.inl (ports0++[ZN.Name x0],Wq (v1+(1:Int)),()))
 else
 if (↑instances0.length:Int)≤14 then
 if (↑(List.length (Zb.Yb d0)):Int)≤30 then
 if (↑ports0.length:Int)≤8 then
 (X3 instances0).bind fun areNames0 =>
 if areNames0=true then
 (X3 (Zb.Yb d0)).bind fun areNames1 =>
 if areNames1=true then
 (X3 ports0).bind fun areNames2 =>
 some (.inr (.inr areNames2))
 else
 some (.inr (.inr Bool.false))
 else
 some (.inr (.inr Bool.false))
 else
 some (.inr (.inr Bool.false))
 else
 some (.inr (.inr Bool.false))
 else
 some (.inr (.inr Bool.false))
def XW (d0:Zb) (instances0:List (List UInt8)) (v0:Int):Option (((List (List UInt8))×Int×Unit) ⊕ Bool) :=
 if v0<(↑(List.length (Zb.Instances d0)):Int) then
 (atI (Zb.Instances d0) v0).bind fun x0 =>
 Zu ((List.length instances0+List.length [Zd.Name x0])*(16:Nat)≤(140737488355328:Nat)) <|
 some (.inl (instances0++[Zd.Name x0],Wq (v0+(1:Int)),()))
 else
 Zl (fun v=>XV d0 instances0 v.1 v.2.1) (([]:List (List UInt8)),(0:Int),())
def Qd (d0:Zb):Option Bool :=
 Zl (fun v=>XW d0 v.1 v.2.1) (([]:List (List UInt8)),(0:Int),())
def Zs2:Ctr:=D1 (Yv) (.bool) Qd
def QZ (list0:List Zf):Option Int :=
 some (↑list0.length:Int)
def c119:Ctr:=D1 (.sl (QC)) Iq QZ
def JX (list0:List (List UInt8)):Option Int :=
 some (↑list0.length:Int)
def Zs3:Ctr:=D1 (.sl (.str)) Iq JX
def Xh (d0:Zb) (net0:Int):Option Bool :=
 (JX (Zb.Yb d0)).bind fun string0 =>
 (Yd net0 0 (Wq (string0-1))).bind fun within0 =>
 some within0
def Zsv:Ctr:=D2 (Yv) Iq (.bool) Xh
def YI (net0:Int) (a0:Zb):Option Bool :=
 (Xh a0 net0).bind fun isNet0 =>
 some !isNet0
def Zs4:Ctr:=D2 Iq (.ptr (Yv)) (.bool) YI
def ZP (s0:List Int) (f0:Zb×Unit) (v0:Int):Option ((Int×Unit) ⊕ Int) :=
 if v0<(↑s0.length:Int) then
 (atI s0 v0).bind fun x0 =>
 (YI x0 f0.fst).bind fun c1_0 =>
 if c1_0=true then
 some (.inr v0)
 else
 some (.inl (Wq (v0+1),()))
 else
 some (.inr (-1))
def ZI (s0:List Int) (f0:Zb×Unit):Option Int :=
 Zl (fun v=>ZP s0 f0 v.1) ((0:Int),())
def Zs5:Ctr:=D2 (.sl Iq) (.fn 201 (.pair (.ptr (Yv)) (.unit))) Iq ZI
def ZC (s0:List Int) (f0:Zb×Unit):Option Bool :=
 (ZI s0 f0).bind fun c1_0 =>
 some (Decidable.decide (0≤c1_0))
def c124:Ctr:=D2 (.sl Iq) (.fn 201 (.pair (.ptr (Yv)) (.unit))) (.bool) ZC
def XQ (d0:Zb) (l0:Zn) (x0:Zd):Option Bool :=
 (QZ (Zn.Cells l0)).bind fun Cell0 =>
 (Yd (Zd.Cell x0) 0 (Wq (Cell0-1))).bind fun within0 =>
 if within0=true then
 (atI (Zn.Cells l0) (Zd.Cell x0)).bind fun x1 =>
 if (↑(List.length (Zd.Yb x0)):Int)=(↑(List.length (Zf.Ye x1)):Int) then
 (ZC (Zd.Yb x0) (d0,())).bind fun c1_0 =>
 some !c1_0
 else
 some Bool.false
 else
 some Bool.false
def Zs6:Ctr:=D3 (Yv) (YR) (Yn) (.bool) XQ
def Jd (n0:Int):Option Bool :=
 some (!Decidable.decide (n0=1))
def Zs7:Ctr:=D1 Iq (.bool) Jd
def Ya (s0:List Int) (v0:Int):Option ((Int×Unit) ⊕ Int) :=
 if v0<(↑s0.length:Int) then
 (atI s0 v0).bind fun x0 =>
 (Jd x0).bind fun c1_0 =>
 if c1_0=true then
 some (.inr v0)
 else
 some (.inl (Wq (v0+1),()))
 else
 some (.inr (-1))
def Z4 (s0:List Int) (f0:Unit):Option Int :=
 Zl (fun v=>Ya s0 v.1) ((0:Int),())
def c127:Ctr:=D2 (.sl Iq) (.fn 175 (.unit)) Iq Z4
def ZX (s0:List Int) (f0:Unit):Option Bool :=
 (Z4 s0 ()).bind fun c1_0 =>
 some (Decidable.decide (0≤c1_0))
def Zs8:Ctr:=D2 (.sl Iq) (.fn 175 (.unit)) (.bool) ZX
def XI (a1:Zb) (v1:Int) (l1:List Int):Option ((Int×(List Int)×Unit) ⊕ ((Int×(List Int)×Unit) ⊕ Bool)) :=
 if v1<(↑(List.length (Zb.YB a1)):Int) then
 (atI (Zb.YB a1) v1).bind fun x0 =>
 if ZN.Dir x0=1 then
 (Xh a1 (ZN.Net x0)).bind fun isNet0 =>
 if isNet0=true then
 if ZN.Dir x0=1 then
 (atI l1 (ZN.Net x0)).bind fun x1 =>
 some (.inl (Wq (v1+1),List.set l1 (Int.toNat (ZN.Net x0)) (Wq (x1+1)),()))
 else
 some (.inl (Wq (v1+1),l1,()))
 else
 some (.inr (.inr Bool.false))
 else
 if ZN.Dir x0=2 then
 (Xh a1 (ZN.Net x0)).bind fun isNet0 =>
 if isNet0=true then
 if ZN.Dir x0=1 then
 (atI l1 (ZN.Net x0)).bind fun x1 =>
 some (.inl (Wq (v1+1),List.set l1 (Int.toNat (ZN.Net x0)) (Wq (x1+1)),()))
 else
 some (.inl (Wq (v1+1),l1,()))
 else
 some (.inr (.inr Bool.false))
 else
 some (.inr (.inr Bool.false))
 else
 (ZX l1 ()).bind fun c1_0 =>
 some (.inr (.inr !c1_0))
def Qu (a0:Zn) (a1:Zb) (v0:Int) (l0:List Int):Option ((Int×(List Int)×Unit) ⊕ Bool) :=
 if v0<(↑(List.length (Zb.Instances a1)):Int) then
 (atI (Zb.Instances a1) v0).bind fun x0 =>
 (XQ a1 a0 x0).bind fun isInstance0 =>
 if isInstance0=true then
 (atI (Zd.Yb x0) (Wq ((↑(List.length (Zd.Yb x0)):Int)-1))).bind fun x1 =>
 (atI l0 x1).bind fun x2 =>
 some (.inl (Wq (v0+1),List.set l0 (Int.toNat x1) (Wq (x2+1)),()))
 else
 some (.inr Bool.false)
 else
 Zl (fun v=>XI a1 v.1 v.2.1) ((0:Int),l0,())
def Zbj (a0:Zn) (a1:Zb):Option Bool :=
 (ZaF a0).bind fun IsLibrary0 =>
 if IsLibrary0=true then
 (Qd a1).bind fun hasNames0 =>
 if hasNames0=true then
 Zu ((0:Int)≤(↑(List.length (Zb.Yb a1)):Int)) <|
 Zu ((↑(List.length (Zb.Yb a1)):Int)≤(↑(List.length (Zb.Yb a1)):Int)) <|
 Zu ((↑(List.length (Zb.Yb a1)):Int)≤(4611686018427387904:Int)) <|
 Zu ((↑(8:Nat):Int)*(↑(List.length (Zb.Yb a1)):Int)≤(281474976710656:Int)) <|
 Zl (fun v=>Qu a0 a1 v.1 v.2.1) ((0:Int),List.replicate (Int.toNat (↑(List.length (Zb.Yb a1)):Int)) (0:Int),())
 else
 some Bool.false
 else
 some Bool.false
def Zs9:Ctr:=D2 (YR) (Yv) (.bool) Zbj
def Qi (v0:Int) (x0:Zd) (list1:List QD) (v1:Int):Option (((List QD)×Int×Unit) ⊕ (((List QD)×Int×Unit) ⊕ List QD)) :=
 if v1<(↑(List.length (Zd.Yb x0)):Int) then
 (atI (Zd.Yb x0) v1).bind fun x1 =>
 Zu ((List.length list1+List.length [(v0,v1,x1,Decidable.decide (v1=Wq ((↑(List.length (Zd.Yb x0)):Int)-(1:Int))),())])*(32:Nat)≤(140737488355328:Nat)) <|
 some (.inl (list1++[(v0,v1,x1,Decidable.decide (v1=Wq ((↑(List.length (Zd.Yb x0)):Int)-(1:Int))),())],Wq (v1+(1:Int)),()))
 else
 some (.inr (.inl (list1,Wq (v0+1),())))
def Qj (d0:Zb) (list1:List QD) (v1:Int):Option (((List QD)×Int×Unit) ⊕ (((List QD)×Int×Unit) ⊕ List QD)) :=
 if v1<(↑(List.length (Zb.YB d0)):Int) then
 (atI (Zb.YB d0) v1).bind fun x0 =>
 Zu ((List.length list1+List.length [((-1:Int),v1,ZN.Net x0,Decidable.decide (ZN.Dir x0=(1:Int)),())])*(32:Nat)≤(140737488355328:Nat)) <|
 some (.inl (list1++[((-1:Int),v1,ZN.Net x0,Decidable.decide (ZN.Dir x0=(1:Int)),())],Wq (v1+(1:Int)),()))
 else
 some (.inr (.inr list1))
def Qk (d0:Zb) (list0:List QD) (v0:Int):Option (((List QD)×Int×Unit) ⊕ List QD) :=
 if v0<(↑(List.length (Zb.Instances d0)):Int) then
 (atI (Zb.Instances d0) v0).bind fun x0 =>
 Zl (fun v=>Qi v0 x0 v.1 v.2.1) (list0,(0:Int),())
 else
 Zl (fun v=>Qj d0 v.1 v.2.1) (list0,(0:Int),())
def QU (d0:Zb):Option (List QD) :=
 Zl (fun v=>Qk d0 v.1 v.2.1) (([]:List QD),(0:Int),())
def c130:Ctr:=⟨[.dat (Yv)],[.own (.ol 188 (.flat (Zj0)))],fun a K=>splitK a fun d0 a=>XT (QU d0) fun r=>K (r,()) ()⟩
def QN (w0:Zz) (v0:Int):Option ((Int×Unit) ⊕ Bool) :=
 if v0<(↑(List.length (Zz.Parent w0)):Int) then
 (atI (Zz.Parent w0) v0).bind fun x0 =>
 if v0=0 then
 if x0=(-1) then
 (atI (Zz.Res w0) 0).bind fun x1 =>
 if x1=0 then
 if 0<v0 then
 (Yd x0 0 (Wq (v0-1))).bind fun within0 =>
 if within0=true then
 some (.inl (Wq (v0+1),()))
 else
 some (.inr Bool.false)
 else
 some (.inl (Wq (v0+1),()))
 else
 some (.inr Bool.false)
 else
 some (.inr Bool.false)
 else
 if 0<v0 then
 (Yd x0 0 (Wq (v0-1))).bind fun within0 =>
 if within0=true then
 some (.inl (Wq (v0+1),()))
 else
 some (.inr Bool.false)
 else
 some (.inl (Wq (v0+1),()))
 else
 some (.inr Bool.true)
def Je (w0:Zz):Option Bool :=
 Zl (fun v=>QN w0 v.1) ((0:Int),())
def c131:Ctr:=D1 (Zaj) (.bool) Je
def Zdo (w0:Zz) (sinks0:Int):Option Bool :=
 (Yq (Zz.Parent w0)).bind fun int64_0 =>
 (Yd int64_0 1 8).bind fun within0 =>
 if within0=true then
 (Yq (Zz.Res w0)).bind fun int64_1 =>
 if int64_1=int64_0 then
 (Yq (Zz.Cap w0)).bind fun int64_2 =>
 if int64_2=int64_0 then
 (Je w0).bind fun isTree0 =>
 if isTree0=true then
 (YJ (Zz.Res w0) 0 1000).bind fun areWithin0 =>
 if areWithin0=true then
 (YJ (Zz.Cap w0) 0 500).bind fun areWithin1 =>
 if areWithin1=true then
 (Yq (Zz.Zj6 w0)).bind fun int64_3 =>
 if int64_3=sinks0 then
 (YJ (Zz.Zj6 w0) 0 (Wq (int64_0-1))).bind fun areWithin2 =>
 some areWithin2
 else
 some Bool.false
 else
 some Bool.false
 else
 some Bool.false
 else
 some Bool.false
 else
 some Bool.false
 else
 some Bool.false
 else
 some Bool.false
def Zta:Ctr:=D2 (Zaj) Iq (.bool) Zdo
def JV (b0:Zg) (l0:List Int) (v1:Int):Option ((Int×Unit) ⊕ ((Int×(List Int)×Unit) ⊕ Bool)) :=
 if v1<(↑(List.length (Zg.Qo b0)):Int) then
 (atI (Zg.Qo b0) v1).bind fun x0 =>
 (atI l0 v1).bind fun x1 =>
 (Zdo x0 x1).bind fun IsWire0 =>
 if IsWire0=true then
 some (.inl (Wq (v1+1),()))
 else
 some (.inr (.inr Bool.false))
 else
 some (.inr (.inr Bool.true))
def QV (b0:Zg) (places0:List QD) (v0:Int) (l0:List Int):Option ((Int×(List Int)×Unit) ⊕ Bool) :=
 if v0<(↑places0.length:Int) then
 (atI places0 v0).bind fun x0 =>
 if (QD.drives x0)=true then
 some (.inl (Wq (v0+1),l0,()))
 else
 (atI l0 (QD.net x0)).bind fun x1 =>
 some (.inl (Wq (v0+1),List.set l0 (Int.toNat (QD.net x0)) (Wq (x1+1)),()))
 else
 Zl (fun v=>JV b0 l0 v.1) ((0:Int),())
def Zb5 (b0:Zg):Option Bool :=
 (Zbj (Zg.Library b0) (Zg.Design b0)).bind fun IsDesign0 =>
 if IsDesign0=true then
 if (↑(List.length (Zg.Qo b0)):Int)=(↑(List.length (Zb.Yb (Zg.Design b0))):Int) then
 Zu ((0:Int)≤(↑(List.length (Zg.Qo b0)):Int)) <|
 Zu ((↑(List.length (Zg.Qo b0)):Int)≤(↑(List.length (Zg.Qo b0)):Int)) <|
 Zu ((↑(List.length (Zg.Qo b0)):Int)≤(4611686018427387904:Int)) <|
 Zu ((↑(8:Nat):Int)*(↑(List.length (Zg.Qo b0)):Int)≤(281474976710656:Int)) <|
 (QU (Zg.Design b0)).bind fun places0 =>
 Zl (fun v=>QV b0 places0 v.1 v.2.1) ((0:Int),List.replicate (Int.toNat (↑(List.length (Zg.Qo b0)):Int)) (0:Int),())
 else
 some Bool.false
 else
 some Bool.false
def Ztb:Ctr:=D1 (YG) (.bool) Zb5
def Vp (b0:Zg) (instance0:Int):Option Zf :=
 (atI (Zb.Instances (Zg.Design b0)) instance0).bind fun x0 =>
 (atI (Zn.Cells (Zg.Library b0)) (Zd.Cell x0)).bind fun x1 =>
 some x1
def Ztc:Ctr:=D2 (YG) Iq (QC) Vp
def XJ (v2:Int) (c1:List Int) (l3:List Bool) (x2:Zd) (v3:Int):Option ((Int×Unit) ⊕ ((Int×(List Int)×(List Bool)×Unit) ⊕ (((List Int)×(List Bool)×Unit) ⊕ ((Int×(List Int)×Unit) ⊕ ((Int×(List Int)×Unit) ⊕ ((Option YH)×Bool)))))) :=
 if v3<(↑(List.length (List.take (Int.toNat (Wq ((↑(List.length (Zd.Yb x2)):Int)-1))-Int.toNat 0) (List.drop (Int.toNat 0) (Zd.Yb x2)))):Int) then
 (atI (List.take (Int.toNat (Wq ((↑(List.length (Zd.Yb x2)):Int)-1))-Int.toNat 0) (List.drop (Int.toNat 0) (Zd.Yb x2))) v3).bind fun x3 =>
 (atI l3 x3).bind fun x4 =>
 if x4=true then
 some (.inl (Wq (v3+1),()))
 else
 if 0≤v3 then
 some (.inr (.inl (Wq (v2+1),c1,l3,())))
 else
 Zu ((List.length c1+List.length [v2])*(8:Nat)≤(140737488355328:Nat)) <|
 some (.inr (.inl (Wq (v2+(1:Int)),c1++[v2],List.set l3 (Int.toNat v2) Bool.true,())))
 else
 if 0≤(-1) then
 some (.inr (.inl (Wq (v2+1),c1,l3,())))
 else
 Zu ((List.length c1+List.length [v2])*(8:Nat)≤(140737488355328:Nat)) <|
 some (.inr (.inl (Wq (v2+(1:Int)),c1++[v2],List.set l3 (Int.toNat v2) Bool.true,())))
def Qw (a0:Zg) (l1:List Int) (c0:List Int) (int64_0:Int) (v2:Int) (c1:List Int) (l3:List Bool):Option ((Int×(List Int)×(List Bool)×Unit) ⊕ (((List Int)×(List Bool)×Unit) ⊕ ((Int×(List Int)×Unit) ⊕ ((Int×(List Int)×Unit) ⊕ ((Option YH)×Bool))))) :=
 if v2<int64_0 then
 (atI l3 v2).bind fun x0 =>
 if x0=true then
 some (.inl (Wq (v2+1),c1,l3,()))
 else
 (atI l1 v2).bind fun x1 =>
 if x1<0 then
 Zu ((List.length c1+List.length [v2])*(8:Nat)≤(140737488355328:Nat)) <|
 some (.inl (Wq (v2+(1:Int)),c1++[v2],List.set l3 (Int.toNat v2) Bool.true,()))
 else
 (atI (Zb.Instances (Zg.Design a0)) x1).bind fun x2 =>
 Zu ((0:Int)≤Wq ((↑(List.length (Zd.Yb x2)):Int)-(1:Int))) <|
 Zu (Wq ((↑(List.length (Zd.Yb x2)):Int)-(1:Int))≤(↑(List.length (Zd.Yb x2)):Int)) <|
 Zl (fun v=>XJ v2 c1 l3 x2 v.1) ((0:Int),())
 else
 if (↑c1.length:Int)=(↑c0.length:Int) then
 some (.inr (.inr (.inr (.inr (Option.none,Bool.false)))))
 else
 some (.inr (.inl (c1,l3,())))
def Jq (a0:Zg) (l1:List Int) (c0:List Int) (l2:List Bool):Option (((List Int)×(List Bool)×Unit) ⊕ ((Int×(List Int)×Unit) ⊕ ((Int×(List Int)×Unit) ⊕ ((Option YH)×Bool)))) :=
 if (↑c0.length:Int)<(↑l1.length:Int) then
 (Yq l1).bind fun int64_0 =>
 Zl (fun v=>Qw a0 l1 c0 int64_0 v.1 v.2.1 v.2.2.1) ((0:Int),c0,l2,())
 else
 some (.inr (.inr (.inr (Option.some (a0,l1,c0,()),Bool.true))))
def XK (a0:Zg) (v1:Int) (l1:List Int):Option ((Int×(List Int)×Unit) ⊕ ((Int×(List Int)×Unit) ⊕ ((Option YH)×Bool))) :=
 if v1<(↑(List.length (Zb.Instances (Zg.Design a0))):Int) then
 (atI (Zb.Instances (Zg.Design a0)) v1).bind fun x0 =>
 (Vp a0 v1).bind fun cellOf0 =>
 if Zf.Kind cellOf0=1 then
 (atI (Zd.Yb x0) (Wq ((↑(List.length (Zd.Yb x0)):Int)-1))).bind fun x1 =>
 (atI l1 x1).bind fun x2 =>
 some (.inl (Wq (v1+1),List.set l1 (Int.toNat x1) v1,()))
 else
 some (.inl (Wq (v1+1),l1,()))
 else
 Zu ((0:Int)≤(↑l1.length:Int)) <|
 Zu ((↑l1.length:Int)≤(↑l1.length:Int)) <|
 Zu ((↑l1.length:Int)≤(4611686018427387904:Int)) <|
 Zu ((↑(1:Nat):Int)*(↑l1.length:Int)≤(281474976710656:Int)) <|
 Zl (fun v=>Jq a0 l1 v.1 v.2.1) (([]:List Int),List.replicate (Int.toNat (↑l1.length:Int)) Bool.false,())
def Jr (a0:Zg) (v0:Int) (l0:List Int):Option ((Int×(List Int)×Unit) ⊕ ((Option YH)×Bool)) :=
 if v0<(↑(List.length (List.replicate (Int.toNat (↑(List.length (Zg.Qo a0)):Int)) (0:Int))):Int) then
 (atI l0 v0).bind fun x0 =>
 some (.inl (Wq (v0+1),List.set l0 (Int.toNat v0) (-1),()))
 else
 Zl (fun v=>XK a0 v.1 v.2.1) ((0:Int),l0,())
def Zbk (a0:Zg):Option ((Option YH)×Bool) :=
 Zu ((0:Int)≤(↑(List.length (Zg.Qo a0)):Int)) <|
 Zu ((↑(List.length (Zg.Qo a0)):Int)≤(↑(List.length (Zg.Qo a0)):Int)) <|
 Zu ((↑(List.length (Zg.Qo a0)):Int)≤(4611686018427387904:Int)) <|
 Zu ((↑(8:Nat):Int)*(↑(List.length (Zg.Qo a0)):Int)≤(281474976710656:Int)) <|
 Zl (fun v=>Jr a0 v.1 v.2.1) ((0:Int),List.replicate (Int.toNat (↑(List.length (Zg.Qo a0)):Int)) (0:Int),())
def Ztd:Ctr:=⟨[.dat (YG)],[.dat (.nptr (Zgz)),.dat (.bool)],fun a K=>splitK a fun a0 a=>XT (Zbk a0) fun r=>K (r.1,r.2,()) ()⟩
def Q0 (b0:Zg) (nets0:List Int):Option ((Option YH)×Int) :=
 (Zb5 b0).bind fun IsBlock0 =>
 if IsBlock0=true then
 (Zbk b0).bind fun newLogic0 =>
 if newLogic0.snd=true then
 (newLogic0.fst).bind fun fst0 =>
 (Yq (YH.gate fst0)).bind fun int64_0 =>
 (YJ nets0 0 (Wq (int64_0-1))).bind fun areWithin0 =>
 if areWithin0=true then
 some (newLogic0.fst,0)
 else
 some (Option.none,2)
 else
 some (Option.none,7)
 else
 some (Option.none,1)
def Zte:Ctr:=⟨[.dat (YG),.dat (.sl Iq)],[.dat (.nptr (Zgz)),.dat Iq],fun a K=>splitK a fun b0 a=>splitK a fun nets0 a=>XT (Q0 b0 nets0) fun r=>K (r.1,r.2,()) ()⟩
def Qm (x0:YH) (list0:List Int) (v0:Int):Option (((List Int)×Int×Unit) ⊕ List Int) :=
 if v0<(↑(List.length (YH.gate x0)):Int) then
 (atI (YH.gate x0) v0).bind fun x1 =>
 if x1<0 then
 Zu ((List.length list0+List.length [v0])*(8:Nat)≤(140737488355328:Nat)) <|
 some (.inl (list0++[v0],Wq (v0+(1:Int)),()))
 else
 some (.inl (list0,Wq (v0+1),()))
 else
 some (.inr list0)
def X5 (x0:YH):Option (List Int) :=
 Zl (fun v=>Qm x0 v.1 v.2.1) (([]:List Int),(0:Int),())
def Zsw:Ctr:=⟨[.dat (.ptr (Zgz))],[.own (.ol 2 (.flat Iq))],fun a K=>splitK a fun x0 a=>XT (X5 x0) fun r=>K (r,()) ()⟩
def Zja (a1:Int) (b1:Int):Option ((Int×Int×Unit) ⊕ Int) :=
 if b1=0 then
 some (.inr a1)
 else
 Zu (b1≠(0:Int)) <|
 some (.inl (b1,Int.tmod a1 b1,()))
def Zkl (a0:Int) (b0:Int):Option Int :=
 Zl (fun v=>Zja v.1 v.2.1) (a0,b0,())
def c138:Ctr:=D2 Iq Iq Iq Zkl
def JW (f0:ZB):Option Bool :=
 (Yd (ZB.Den f0) 1 1000000).bind fun within0 =>
 if within0=true then
 (Yd (ZB.Num f0) 0 (ZB.Den f0)).bind fun within1 =>
 if within1=true then
 (Zkl (ZB.Num f0) (ZB.Den f0)).bind fun gcd0 =>
 some (Decidable.decide (gcd0=1))
 else
 some Bool.false
 else
 some Bool.false
def c139:Ctr:=D1 (V8) (.bool) JW
def Yj (a0:Zk):Option Bool :=
 (JW (Zk.High a0)).bind fun IsFraction0 =>
 if IsFraction0=true then
 if 10<ZB.Den (Zk.High a0) then
 some Bool.true
 else
 (Yd (Zk.ZcR a0) 0 1000).bind fun within0 =>
 some !within0
 else
 some Bool.true
def Ztf:Ctr:=D1 (ZE) (.bool) Yj
def Zx (s0:List Zk) (v0:Int):Option ((Int×Unit) ⊕ Int) :=
 if v0<(↑s0.length:Int) then
 (atI s0 v0).bind fun x0 =>
 (Yj x0).bind fun c1_0 =>
 if c1_0=true then
 some (.inr v0)
 else
 some (.inl (Wq (v0+1),()))
 else
 some (.inr (-1))
def Zt (s0:List Zk) (f0:Unit):Option Int :=
 Zl (fun v=>Zx s0 v.1) ((0:Int),())
def c141:Ctr:=D2 (.sl (ZE)) (.fn 103 (.unit)) Iq Zt
def Zp (s0:List Zk) (f0:Unit):Option Bool :=
 (Zt s0 ()).bind fun c1_0 =>
 some (Decidable.decide (0≤c1_0))
def Ztg:Ctr:=D2 (.sl (ZE)) (.fn 103 (.unit)) (.bool) Zp
def XC (x0:YH) (list0:List Zk):Option Bool :=
 (X5 x0).bind fun sources0 =>
 if (↑list0.length:Int)=(↑sources0.length:Int) then
 (Zp list0 ()).bind fun c1_0 =>
 some !c1_0
 else
 some Bool.false
def c143:Ctr:=D2 (.ptr (Zgz)) (.sl (ZE)) (.bool) XC
def VH (list0:List Zk) (fst0:YH) (sources0:List Int) (v0:Int) (m0:List (Int×ZB×Int×Unit)):Option ((Int×(List (Int×ZB×Int×Unit))×Unit) ⊕ ((Option Vi)×Int)) :=
 if v0<(↑sources0.length:Int) then
 (atI sources0 v0).bind fun x0 =>
 (atI list0 v0).bind fun x1 =>
 some (.inl (Wq (v0+1),ZkQ Zrs.ty Zrs.ety m0 x0 x1,()))
 else
 some (.inr (Option.some (fst0,m0,()),0))
def XE (b0:Zg) (list0:List Zk) (nets0:List Int):Option ((Option Vi)×Int) :=
 (Q0 b0 nets0).bind fun logicOf0 =>
 if logicOf0.snd=0 then
 (logicOf0.fst).bind fun fst0 =>
 (XC fst0 list0).bind fun isAssignment0 =>
 if isAssignment0=true then
 (X5 fst0).bind fun sources0 =>
 Zl (fun v=>VH list0 fst0 sources0 v.1 v.2.1) ((0:Int),([]:List (Int×ZB×Int×Unit)),())
 else
 some (Option.none,5)
 else
 some (Option.none,logicOf0.snd)
def Zth:Ctr:=⟨[.dat (YG),.dat (.sl (ZE)),.dat (.sl Iq)],[.dat (.nptr (ZkL)),.dat Iq],fun a K=>splitK a fun b0 a=>splitK a fun list0 a=>splitK a fun nets0 a=>XT (XE b0 list0 nets0) fun r=>K (r.1,r.2,()) ()⟩
def Vu (x0:YH) (net0:Int):Option (List Int) :=
 (atI (YH.gate x0) net0).bind fun x1 =>
 (atI (Zb.Instances (Zg.Design (YH.Block x0))) x1).bind fun x2 =>
 Zu ((0:Int)≤Wq ((↑(List.length (Zd.Yb x2)):Int)-(1:Int))) <|
 Zu (Wq ((↑(List.length (Zd.Yb x2)):Int)-(1:Int))≤(↑(List.length (Zd.Yb x2)):Int)) <|
 some (List.take (Int.toNat (Wq ((↑(List.length (Zd.Yb x2)):Int)-1))-Int.toNat 0) (List.drop (Int.toNat 0) (Zd.Yb x2)))
def c145:Ctr:=D2 (.ptr (Zgz)) Iq (.sl Iq) Vu
def Xl (v0:Int) (x1:Int) (inputs0:List Int) (list0:List Int) (v1:Int) (l1:List (List Int)):Option (((List Int)×Int×(List (List Int))×Unit) ⊕ ((Int×(List (List Int))×Unit) ⊕ List (List Int))) :=
 if v1<(↑inputs0.length:Int) then
 (atI inputs0 v1).bind fun x3 =>
 (atI l1 x3).bind fun x4 =>
 Zu ((List.length list0+List.length x4)*(8:Nat)≤(140737488355328:Nat)) <|
 some (.inl (list0++x4,Wq (v1+1),List.set l1 (Int.toNat x3) x4,()))
 else
 (ZqZ list0).bind fun srtO0 =>
 (ZhV srtO0).bind fun cmpctO0 =>
 (atI l1 x1).bind fun x3 =>
 some (.inr (.inl (Wq (v0+1),List.set l1 (Int.toNat x1) cmpctO0,())))
def Xm (x0:YH) (v0:Int) (l0:List (List Int)):Option ((Int×(List (List Int))×Unit) ⊕ List (List Int)) :=
 if v0<(↑(List.length (YH.order x0)):Int) then
 (atI (YH.order x0) v0).bind fun x1 =>
 (atI (YH.gate x0) x1).bind fun x2 =>
 if x2<0 then
 (atI l0 x1).bind fun x3 =>
 some (.inl (Wq (v0+(1:Int)),List.set l0 (Int.toNat x1) [x1],()))
 else
 (Vu x0 x1).bind fun inputs0 =>
 Zl (fun v=>Xl v0 x1 inputs0 v.1 v.2.1 v.2.2.1) (([]:List Int),(0:Int),l0,())
 else
 some (.inr l0)
def Qv (x0:YH):Option (List (List Int)) :=
 Zu ((0:Int)≤(↑(List.length (YH.gate x0)):Int)) <|
 Zu ((↑(List.length (YH.gate x0)):Int)≤(↑(List.length (YH.gate x0)):Int)) <|
 Zu ((↑(List.length (YH.gate x0)):Int)≤(4611686018427387904:Int)) <|
 Zu ((↑(24:Nat):Int)*(↑(List.length (YH.gate x0)):Int)≤(281474976710656:Int)) <|
 Zl (fun v=>Xm x0 v.1 v.2.1) ((0:Int),List.replicate (Int.toNat (↑(List.length (YH.gate x0)):Int)) (([]:List Int)),())
def c146:Ctr:=⟨[.dat (.ptr (Zgz))],[.own (.ol 82 (.ol 2 (.flat Iq)))],fun a K=>splitK a fun x0 a=>XT (Qv x0) fun r=>K (r,()) ()⟩
def Ql (c0:Vi) (support0:List Int) (sum0:Int) (v0:Int):Option ((Int×Int×Unit) ⊕ Int) :=
 if v0<(↑support0.length:Int) then
 (atI support0 v0).bind fun x0 =>
 some (.inl (Wq (sum0+Zk.ZcR (Option.getD (ZhK (Ty.int IntKind.i64) ZE (Vi.of c0) x0) ((0,0,()),0,()))),Wq (v0+1),()))
 else
 some (.inr sum0)
def QW (c0:Vi) (support0:List Int):Option Int :=
 Zl (fun v=>Ql c0 support0 v.1 v.2.1) ((0:Int),(0:Int),())
def Zti:Ctr:=D2 (.ptr (ZkL)) (.sl Iq) Iq QW
def Vr (b0:Zg) (list0:List Zk) (net0:Int):Option (Int×Int) :=
 (XE b0 list0 [net0]).bind fun chancesOf0 =>
 if chancesOf0.snd=0 then
 (chancesOf0.fst).bind fun fst0 =>
 (Qv (Vi.logic fst0)).bind fun supports0 =>
 (atI supports0 net0).bind fun x0 =>
 (QW fst0 x0).bind fun bound0 =>
 some (bound0,0)
 else
 some (0,chancesOf0.snd)
def c148:Ctr:=⟨[.dat (YG),.dat (.sl (ZE)),.dat Iq],[.dat Iq,.dat Iq],fun a K=>splitK a fun b0 a=>splitK a fun list0 a=>splitK a fun net0 a=>XT (Vr b0 list0 net0) fun r=>K (r.1,r.2,()) ()⟩
def ZcH (a0:Yf) (b0:Yf):Option Bool :=
 if Yf.Name a0=Yf.Name b0 then
 if Yf.Dir a0=Yf.Dir b0 then
 if Yf.Cap a0=Yf.Cap b0 then
 if (Yf.Clock a0 == Yf.Clock b0)=true then
 some Bool.true
 else
 some Bool.false
 else
 some Bool.false
 else
 some Bool.false
 else
 some Bool.false
def Ztj:Ctr:=D2 (Zef) (Zef) (.bool) ZcH
def ZgS (a0:List Yf) (b0:List Yf) (i0:Int):Option ((Int×Unit) ⊕ Bool) :=
 if i0<(↑a0.length:Int) then
 (atI a0 i0).bind fun x0 =>
 (atI b0 i0).bind fun x1 =>
 (ZcH x0 x1).bind fun eqPin0 =>
 if eqPin0=true then
 some (.inl (Wq (i0+1),()))
 else
 some (.inr Bool.false)
 else
 some (.inr Bool.true)
def Zdu (a0:List Yf) (b0:List Yf):Option Bool :=
 if (↑a0.length:Int)=(↑b0.length:Int) then
 Zl (fun v=>ZgS a0 b0 v.1) ((0:Int),())
 else
 some Bool.false
def Ztk:Ctr:=D2 (.sl (Zef)) (.sl (Zef)) (.bool) Zdu
def Zfu (a0:List Int) (b0:List Int) (i0:Int):Option ((Int×Unit) ⊕ Bool) :=
 if i0<(↑a0.length:Int) then
 (atI a0 i0).bind fun x0 =>
 (atI b0 i0).bind fun x1 =>
 if x0=x1 then
 some (.inl (Wq (i0+1),()))
 else
 some (.inr Bool.false)
 else
 some (.inr Bool.true)
def YL (a0:List Int) (b0:List Int):Option Bool :=
 if (↑a0.length:Int)=(↑b0.length:Int) then
 Zl (fun v=>Zfu a0 b0 v.1) ((0:Int),())
 else
 some Bool.false
def Zrz:Ctr:=D2 (.sl Iq) (.sl Iq) (.bool) YL
def ZaW (a0:Zq) (b0:Zq):Option Bool :=
 (YL (Zq.ZeW a0) (Zq.ZeW b0)).bind fun eqInt64S0 =>
 if eqInt64S0=true then
 (YL (Zq.Loads a0) (Zq.Loads b0)).bind fun eqInt64S1 =>
 if eqInt64S1=true then
 (YL (Zq.Values a0) (Zq.Values b0)).bind fun eqInt64S2 =>
 if eqInt64S2=true then
 some Bool.true
 else
 some Bool.false
 else
 some Bool.false
 else
 some Bool.false
def c152:Ctr:=D2 (Xa) (Xa) (.bool) ZaW
def Zfv (a0:List Zq) (b0:List Zq) (i0:Int):Option ((Int×Unit) ⊕ Bool) :=
 if i0<(↑a0.length:Int) then
 (atI a0 i0).bind fun x0 =>
 (atI b0 i0).bind fun x1 =>
 (ZaW x0 x1).bind fun eqTable0 =>
 if eqTable0=true then
 some (.inl (Wq (i0+1),()))
 else
 some (.inr Bool.false)
 else
 some (.inr Bool.true)
def J2 (a0:List Zq) (b0:List Zq):Option Bool :=
 if (↑a0.length:Int)=(↑b0.length:Int) then
 Zl (fun v=>Zfv a0 b0 v.1) ((0:Int),())
 else
 some Bool.false
def Ztl:Ctr:=D2 (.sl (Xa)) (.sl (Xa)) (.bool) J2
def ZcG (a0:Zw) (b0:Zw):Option Bool :=
 if Zw.Kind a0=Zw.Kind b0 then
 if Zw.From a0=Zw.From b0 then
 if Zw.To a0=Zw.To b0 then
 if Zw.Zak a0=Zw.Zak b0 then
 (J2 (Zw.Delay a0) (Zw.Delay b0)).bind fun eqTableS0 =>
 if eqTableS0=true then
 (J2 (Zw.ZfO a0) (Zw.ZfO b0)).bind fun eqTableS1 =>
 if eqTableS1=true then
 some Bool.true
 else
 some Bool.false
 else
 some Bool.false
 else
 some Bool.false
 else
 some Bool.false
 else
 some Bool.false
 else
 some Bool.false
def c154:Ctr:=D2 (ZeT) (ZeT) (.bool) ZcG
def ZgQ (a0:List Zw) (b0:List Zw) (i0:Int):Option ((Int×Unit) ⊕ Bool) :=
 if i0<(↑a0.length:Int) then
 (atI a0 i0).bind fun x0 =>
 (atI b0 i0).bind fun x1 =>
 (ZcG x0 x1).bind fun eqArc0 =>
 if eqArc0=true then
 some (.inl (Wq (i0+1),()))
 else
 some (.inr Bool.false)
 else
 some (.inr Bool.true)
def Zdt (a0:List Zw) (b0:List Zw):Option Bool :=
 if (↑a0.length:Int)=(↑b0.length:Int) then
 Zl (fun v=>ZgQ a0 b0 v.1) ((0:Int),())
 else
 some Bool.false
def Ztm:Ctr:=D2 (.sl (ZeT)) (.sl (ZeT)) (.bool) Zdt
def ZbH (a0:Zf) (b0:Zf):Option Bool :=
 if Zf.Name a0=Zf.Name b0 then
 if Zf.Kind a0=Zf.Kind b0 then
 (Zdu (Zf.Ye a0) (Zf.Ye b0)).bind fun eqPinS0 =>
 if eqPinS0=true then
 (Zdt (Zf.VX a0) (Zf.VX b0)).bind fun eqArcS0 =>
 if eqArcS0=true then
 (YL (Zf.Truth a0) (Zf.Truth b0)).bind fun eqInt64S0 =>
 if eqInt64S0=true then
 if Zf.Zps a0=Zf.Zps b0 then
 if Zf.Ze4 a0=Zf.Ze4 b0 then
 some Bool.true
 else
 some Bool.false
 else
 some Bool.false
 else
 some Bool.false
 else
 some Bool.false
 else
 some Bool.false
 else
 some Bool.false
 else
 some Bool.false
def c156:Ctr:=D2 (QC) (QC) (.bool) ZbH
def Zf8 (a0:List Zf) (b0:List Zf) (i0:Int):Option ((Int×Unit) ⊕ Bool) :=
 if i0<(↑a0.length:Int) then
 (atI a0 i0).bind fun x0 =>
 (atI b0 i0).bind fun x1 =>
 (ZbH x0 x1).bind fun eqCell0 =>
 if eqCell0=true then
 some (.inl (Wq (i0+1),()))
 else
 some (.inr Bool.false)
 else
 some (.inr Bool.true)
def Zcb (a0:List Zf) (b0:List Zf):Option Bool :=
 if (↑a0.length:Int)=(↑b0.length:Int) then
 Zl (fun v=>Zf8 a0 b0 v.1) ((0:Int),())
 else
 some Bool.false
def c157:Ctr:=D2 (.sl (QC)) (.sl (QC)) (.bool) Zcb
def ZaG (a0:Zn) (b0:Zn):Option Bool :=
 (Zcb (Zn.Cells a0) (Zn.Cells b0)).bind fun eqCellS0 =>
 if eqCellS0=true then
 some Bool.true
 else
 some Bool.false
def Ztn:Ctr:=D2 (YR) (YR) (.bool) ZaG
def Q6 (a0:Zd) (b0:Zd):Option Bool :=
 if Zd.Name a0=Zd.Name b0 then
 if Zd.Cell a0=Zd.Cell b0 then
 (YL (Zd.Yb a0) (Zd.Yb b0)).bind fun eqInt64S0 =>
 if eqInt64S0=true then
 some Bool.true
 else
 some Bool.false
 else
 some Bool.false
 else
 some Bool.false
def c159:Ctr:=D2 (Yn) (Yn) (.bool) Q6
def Zeb (a0:List Zd) (b0:List Zd) (i0:Int):Option ((Int×Unit) ⊕ Bool) :=
 if i0<(↑a0.length:Int) then
 (atI a0 i0).bind fun x0 =>
 (atI b0 i0).bind fun x1 =>
 (Q6 x0 x1).bind fun eqInstance0 =>
 if eqInstance0=true then
 some (.inl (Wq (i0+1),()))
 else
 some (.inr Bool.false)
 else
 some (.inr Bool.true)
def Jg (a0:List Zd) (b0:List Zd):Option Bool :=
 if (↑a0.length:Int)=(↑b0.length:Int) then
 Zl (fun v=>Zeb a0 b0 v.1) ((0:Int),())
 else
 some Bool.false
def c160:Ctr:=D2 (.sl (Yn)) (.sl (Yn)) (.bool) Jg
def Ze0 (a0:List (List UInt8)) (b0:List (List UInt8)) (i0:Int):Option ((Int×Unit) ⊕ Bool) :=
 if i0<(↑a0.length:Int) then
 (atI a0 i0).bind fun x0 =>
 (atI b0 i0).bind fun x1 =>
 if x0=x1 then
 some (.inl (Wq (i0+1),()))
 else
 some (.inr Bool.false)
 else
 some (.inr Bool.true)
def ZaH (a0:List (List UInt8)) (b0:List (List UInt8)):Option Bool :=
 if (↑a0.length:Int)=(↑b0.length:Int) then
 Zl (fun v=>Ze0 a0 b0 v.1) ((0:Int),())
 else
 some Bool.false
def Zto:Ctr:=D2 (.sl (.str)) (.sl (.str)) (.bool) ZaH
def ZbI (a0:ZN) (b0:ZN):Option Bool :=
 if ZN.Name a0=ZN.Name b0 then
 if ZN.Dir a0=ZN.Dir b0 then
 if ZN.Net a0=ZN.Net b0 then
 some Bool.true
 else
 some Bool.false
 else
 some Bool.false
 else
 some Bool.false
def c162:Ctr:=D2 (Za4) (Za4) (.bool) ZbI
def Zgb (a0:List ZN) (b0:List ZN) (i0:Int):Option ((Int×Unit) ⊕ Bool) :=
 if i0<(↑a0.length:Int) then
 (atI a0 i0).bind fun x0 =>
 (atI b0 i0).bind fun x1 =>
 (ZbI x0 x1).bind fun eqPort0 =>
 if eqPort0=true then
 some (.inl (Wq (i0+1),()))
 else
 some (.inr Bool.false)
 else
 some (.inr Bool.true)
def Zcc (a0:List ZN) (b0:List ZN):Option Bool :=
 if (↑a0.length:Int)=(↑b0.length:Int) then
 Zl (fun v=>Zgb a0 b0 v.1) ((0:Int),())
 else
 some Bool.false
def Ztp:Ctr:=D2 (.sl (Za4)) (.sl (Za4)) (.bool) Zcc
def Zbl (a0:Zb) (b0:Zb):Option Bool :=
 (Jg (Zb.Instances a0) (Zb.Instances b0)).bind fun eqInstanceS0 =>
 if eqInstanceS0=true then
 (ZaH (Zb.Yb a0) (Zb.Yb b0)).bind fun eqStringS0 =>
 if eqStringS0=true then
 (Zcc (Zb.YB a0) (Zb.YB b0)).bind fun eqPortS0 =>
 if eqPortS0=true then
 some Bool.true
 else
 some Bool.false
 else
 some Bool.false
 else
 some Bool.false
def c164:Ctr:=D2 (Yv) (Yv) (.bool) Zbl
def ZbJ (a0:Zz) (b0:Zz):Option Bool :=
 (YL (Zz.Parent a0) (Zz.Parent b0)).bind fun eqInt64S0 =>
 if eqInt64S0=true then
 (YL (Zz.Res a0) (Zz.Res b0)).bind fun eqInt64S1 =>
 if eqInt64S1=true then
 (YL (Zz.Cap a0) (Zz.Cap b0)).bind fun eqInt64S2 =>
 if eqInt64S2=true then
 (YL (Zz.Zj6 a0) (Zz.Zj6 b0)).bind fun eqInt64S3 =>
 if eqInt64S3=true then
 some Bool.true
 else
 some Bool.false
 else
 some Bool.false
 else
 some Bool.false
 else
 some Bool.false
def Ztq:Ctr:=D2 (Zaj) (Zaj) (.bool) ZbJ
def Zgc (a0:List Zz) (b0:List Zz) (i0:Int):Option ((Int×Unit) ⊕ Bool) :=
 if i0<(↑a0.length:Int) then
 (atI a0 i0).bind fun x0 =>
 (atI b0 i0).bind fun x1 =>
 (ZbJ x0 x1).bind fun eqWire0 =>
 if eqWire0=true then
 some (.inl (Wq (i0+1),()))
 else
 some (.inr Bool.false)
 else
 some (.inr Bool.true)
def Zcd (a0:List Zz) (b0:List Zz):Option Bool :=
 if (↑a0.length:Int)=(↑b0.length:Int) then
 Zl (fun v=>Zgc a0 b0 v.1) ((0:Int),())
 else
 some Bool.false
def Ztr:Ctr:=D2 (.sl (Zaj)) (.sl (Zaj)) (.bool) Zcd
def Zca (a0:Zg) (b0:Zg):Option Bool :=
 (ZaG (Zg.Library a0) (Zg.Library b0)).bind fun eqLibrary0 =>
 if eqLibrary0=true then
 (Zbl (Zg.Design a0) (Zg.Design b0)).bind fun eqDesign0 =>
 if eqDesign0=true then
 (Zcd (Zg.Qo a0) (Zg.Qo b0)).bind fun eqWireS0 =>
 if eqWireS0=true then
 some Bool.true
 else
 some Bool.false
 else
 some Bool.false
 else
 some Bool.false
def c167:Ctr:=D2 (YG) (YG) (.bool) Zca
def JZ (a0:ZB) (b0:ZB):Option Bool :=
 if ZB.Num a0=ZB.Num b0 then
 if ZB.Den a0=ZB.Den b0 then
 some Bool.true
 else
 some Bool.false
 else
 some Bool.false
def c168:Ctr:=D2 (V8) (V8) (.bool) JZ
def Q5 (a0:Zk) (b0:Zk):Option Bool :=
 (JZ (Zk.High a0) (Zk.High b0)).bind fun eqFraction0 =>
 if eqFraction0=true then
 if Zk.ZcR a0=Zk.ZcR b0 then
 some Bool.true
 else
 some Bool.false
 else
 some Bool.false
def Zts:Ctr:=D2 (ZE) (ZE) (.bool) Q5
def Zea (a0:List Zk) (b0:List Zk) (i0:Int):Option ((Int×Unit) ⊕ Bool) :=
 if i0<(↑a0.length:Int) then
 (atI a0 i0).bind fun x0 =>
 (atI b0 i0).bind fun x1 =>
 (Q5 x0 x1).bind fun eqActivity0 =>
 if eqActivity0=true then
 some (.inl (Wq (i0+1),()))
 else
 some (.inr Bool.false)
 else
 some (.inr Bool.true)
def Jf (a0:List Zk) (b0:List Zk):Option Bool :=
 if (↑a0.length:Int)=(↑b0.length:Int) then
 Zl (fun v=>Zea a0 b0 v.1) ((0:Int),())
 else
 some Bool.false
def Ztt:Ctr:=D2 (.sl (ZE)) (.sl (ZE)) (.bool) Jf
def YW (aB0:Zg) (aList0:List Zk) (aNet0:Int):Option Bool :=
 (Zce aB0 1048576).bind fun szBlock0 =>
 if szBlock0<0 then
 some Bool.true
 else
 (Jh aList0 szBlock0).bind fun szActivityS0 =>
 if szActivityS0<0 then
 some Bool.true
 else
 (Zci aB0).bind fun toBlock0 =>
 (Jj aList0).bind fun toActivityS0 =>
 (Vw toBlock0 toActivityS0 aNet0).bind fun DensityBound0 =>
 (Vr toBlock0 toActivityS0 aNet0).bind fun DensityBound1 =>
 if DensityBound1.fst=DensityBound0.fst then
 if DensityBound1.snd=DensityBound0.snd then
 (Zca toBlock0 toBlock0).bind fun eqBlock0 =>
 if eqBlock0=true then
 (Jf toActivityS0 toActivityS0).bind fun eqActivityS0 =>
 if eqActivityS0=true then
 some Bool.true
 else
 some Bool.false
 else
 some Bool.false
 else
 some Bool.false
 else
 some Bool.false
def VB:Ctr:=⟨[.dat (YG),.dat (.sl (ZE)),.dat Iq],[.dat (.bool)],fun a K=>splitK a fun aB0 a=>splitK a fun aList0 a=>splitK a fun aNet0 a=>XT (YW aB0 aList0 aNet0) fun r=>K (r,()) ()⟩
def Zy2 (b0:Zg) (net0:Int):Option Int :=
 (Za0 b0).bind fun IsBlock0 =>
 if IsBlock0=true then
 (Z9 net0 0 (Wq ((↑(List.length (Zg.Qo b0)):Int)-1))).bind fun l01In0 =>
 if l01In0=true then
 some 0
 else
 some 2
 else
 some 1
def ZCi:Ctr:=D2 (YG) Iq Iq Zy2
def Zy1 (list0:List Int):Option (List Int) :=
 Zu ((List.length (([]:List Int))+List.length list0)*(8:Nat)≤(140737488355328:Nat)) <|
 some (([]:List Int)++list0)
def c173:Ctr:=⟨[.dat (.sl Iq)],[.own (.ol 2 (.flat Iq))],fun a K=>splitK a fun list0 a=>XT (Zy1 list0) fun r=>K (r,()) ()⟩
def ZAr (l0:Zn) (d0:Zb) (p0:Yh):Option Int :=
 if Yh.instance p0<0 then
 some 0
 else
 (atI (Zb.Instances d0) (Yh.instance p0)).bind fun x0 =>
 (atI (Zn.Cells l0) (Zd.Cell x0)).bind fun x1 =>
 (atI (Zf.Ye x1) (Yh.pin p0)).bind fun x2 =>
 some (Yf.Cap x2)
def ZCj:Ctr:=D3 (YR) (Yv) (ZbU) Iq ZAr
def ZzQ (x0:Zz) (v1:Int) (l1:List Int):Option ((Int×(List Int)×Unit) ⊕ ((Int×(List Int)×Unit) ⊕ List Int)) :=
 if 0<v1 then
 (atI (Zz.Parent x0) v1).bind fun x1 =>
 (atI l1 x1).bind fun x2 =>
 (atI l1 v1).bind fun x3 =>
 some (.inl (Wq (v1-1),List.set l1 (Int.toNat x1) (Wq (x2+x3)),()))
 else
 some (.inr (.inr l1))
def Zw4 (a0:Zg) (x0:Zz) (l05Places0:List Yh) (l05Sinks0:List Int) (v0:Int) (l0:List Int):Option ((Int×(List Int)×Unit) ⊕ List Int) :=
 if v0<(↑l05Sinks0.length:Int) then
 (atI (Zz.Zj6 x0) v0).bind fun x1 =>
 (atI l0 x1).bind fun x2 =>
 (atI l05Sinks0 v0).bind fun x3 =>
 (atI l05Places0 x3).bind fun x4 =>
 (ZAr (Zg.Library a0) (Zg.Design a0) x4).bind fun l05Cap0 =>
 some (.inl (Wq (v0+1),List.set l0 (Int.toNat x1) (Wq (x2+l05Cap0)),()))
 else
 Zl (fun v=>ZzQ x0 v.1 v.2.1) (Wq ((↑l0.length:Int)-(1:Int)),l0,())
def ZwI (a0:Zg) (a1:Int):Option (List Int) :=
 (atI (Zg.Qo a0) a1).bind fun x0 =>
 (Zy1 (Zz.Cap x0)).bind fun l02Ints0 =>
 (QL (Zg.Design a0)).bind fun l05Places0 =>
 (Zbq (Zg.Design a0) a1).bind fun l05Sinks0 =>
 Zl (fun v=>Zw4 a0 x0 l05Places0 l05Sinks0 v.1 v.2.1) ((0:Int),l02Ints0,())
def c175:Ctr:=⟨[.dat (YG),.dat Iq],[.own (.ol 2 (.flat Iq))],fun a K=>splitK a fun a0 a=>splitK a fun a1 a=>XT (ZwI a0 a1) fun r=>K (r,()) ()⟩
def Zw7 (b0:Zg) (net0:Int):Option (Int×Int) :=
 (Zy2 b0 net0).bind fun l07Code0 =>
 if l07Code0=0 then
 (ZwI b0 net0).bind fun l07Loads0 =>
 (atI l07Loads0 0).bind fun x0 =>
 some (x0,0)
 else
 some (0,l07Code0)
def ZCk:Ctr:=⟨[.dat (YG),.dat Iq],[.dat Iq,.dat Iq],fun a K=>splitK a fun b0 a=>splitK a fun net0 a=>XT (Zw7 b0 net0) fun r=>K (r.1,r.2,()) ()⟩
def ZwK (k0:Int) (n0:Int) (p0:Int):Option ((Int×Int×Unit) ⊕ Int) :=
 if p0<k0 then
 some (.inl (Wq (2*n0),Wq (p0+1),()))
 else
 some (.inr n0)
def ZwT (k0:Int):Option Int :=
 Zl (fun v=>ZwK k0 v.1 v.2.1) ((1:Int),(0:Int),())
def ZCa:Ctr:=D1 Iq Iq ZwT
def ZwJ (k0:Int) (i1:Int) (out0:List Int) (p0:Int):Option ((Int×(List Int)×Int×Unit) ⊕ List Int) :=
 if p0<k0 then
 Zu ((List.length out0+List.length [Int.tmod i1 (2:Int)])*(8:Nat)≤(140737488355328:Nat)) <|
 some (.inl (Wq (Int.tdiv i1 (2:Int)),out0++[Int.tmod i1 (2:Int)],Wq (p0+(1:Int)),()))
 else
 some (.inr out0)
def Zw8 (i0:Int) (k0:Int):Option (List Int) :=
 Zl (fun v=>ZwJ k0 v.1 v.2.1 v.2.2.1) (i0,([]:List Int),(0:Int),())
def ZCl:Ctr:=⟨[.dat Iq,.dat Iq],[.own (.ol 2 (.flat Iq))],fun a K=>splitK a fun i0 a=>splitK a fun k0 a=>XT (Zw8 i0 k0) fun r=>K (r,()) ()⟩
def Zwm (sources0:List Int) (values0:List Int) (i0:Int) (l1:List Int):Option ((Int×(List Int)×Unit) ⊕ ((Int×(List Int)×Unit) ⊕ List Int)) :=
 if i0<(↑sources0.length:Int) then
 (atI sources0 i0).bind fun x0 =>
 (atI values0 i0).bind fun x1 =>
 (atI l1 x0).bind fun x2 =>
 some (.inl (Wq (i0+1),List.set l1 (Int.toNat x0) x1,()))
 else
 some (.inr (.inr l1))
def ZwA (sources0:List Int) (values0:List Int) (net0:Int) (l0:List Int):Option ((Int×(List Int)×Unit) ⊕ List Int) :=
 if net0<(↑l0.length:Int) then
 (atI l0 net0).bind fun x0 =>
 some (.inl (Wq (net0+1),List.set l0 (Int.toNat net0) (-1),()))
 else
 Zl (fun v=>Zwm sources0 values0 v.1 v.2.1) ((0:Int),l0,())
def Zw0 (b0:Zg) (sources0:List Int) (values0:List Int):Option (List Int) :=
 Zu ((0:Int)≤(↑(List.length (Zb.Yb (Zg.Design b0))):Int)) <|
 Zu ((↑(List.length (Zb.Yb (Zg.Design b0))):Int)≤(↑(List.length (Zb.Yb (Zg.Design b0))):Int)) <|
 Zu ((↑(List.length (Zb.Yb (Zg.Design b0))):Int)≤(4611686018427387904:Int)) <|
 Zu ((↑(8:Nat):Int)*(↑(List.length (Zb.Yb (Zg.Design b0))):Int)≤(281474976710656:Int)) <|
 Zl (fun v=>ZwA sources0 values0 v.1 v.2.1) ((0:Int),List.replicate (Int.toNat (↑(List.length (Zb.Yb (Zg.Design b0))):Int)) (0:Int),())
def ZCm:Ctr:=⟨[.dat (YG),.dat (.sl Iq),.dat (.sl Iq)],[.own (.ol 2 (.flat Iq))],fun a K=>splitK a fun b0 a=>splitK a fun sources0 a=>splitK a fun values0 a=>XT (Zw0 b0 sources0 values0) fun r=>K (r,()) ()⟩
def ZvR (a0:Zg) (a1:Int) (rec0:Zg→Int→List Int→Option (Int×List Int)) (l28Gate0:Int) (l28Inputs0:List Int) (v0:Int) (v1:Int) (v2:Int) (l0:List Int):Option ((Int×Int×Int×(List Int)×Unit) ⊕ (Int×(List Int))) :=
 if v2<(↑l28Inputs0.length:Int) then
 (atI l28Inputs0 v2).bind fun x1 =>
 (rec0 a0 x1 l0).bind fun r0 =>
 some (.inl (Wq (v0+Wq (v1*r0.fst)),Wq (2*v1),Wq (v2+1),r0.snd,()))
 else
 (atI (Zb.Instances (Zg.Design a0)) l28Gate0).bind fun x1 =>
 (atI (Zn.Cells (Zg.Library a0)) (Zd.Cell x1)).bind fun x2 =>
 (atI (Zf.Truth x2) v0).bind fun x3 =>
 (atI l0 a1).bind fun x4 =>
 (atI (List.set l0 (Int.toNat a1) x3) a1).bind fun x5 =>
 some (.inr (x5,List.set l0 (Int.toNat a1) x3))
def ZvO (rec0:Zg→Int→(List Int)→Option (Int×(List Int))) (a0:Zg) (a1:Int) (a2:List Int):Option (Int×(List Int)) :=
 (atI a2 a1).bind fun x0 =>
 if 0≤x0 then
 some (x0,a2)
 else
 (JJ a0 a1).bind fun l28Gate0 =>
 (V7 a0 l28Gate0).bind fun l28Inputs0 =>
 Zl (fun v=>ZvR a0 a1 rec0 l28Gate0 l28Inputs0 v.1 v.2.1 v.2.2.1 v.2.2.2.1) ((0:Int),(1:Int),(0:Int),a2,())
def ZvN:Nat→Zg→Int→(List Int)→Option (Int×(List Int))
 | 0=>fun _ _ _=>none
 | n+1=>ZvO (ZvN n)
def Zy3 (a0:Zg) (a1:Int) (a2:List Int):Option (Int×(List Int)):=ZqV (fun n=>ZvN n a0 a1 a2)
def ZwE (rec0:Zg→Int→(List Int)→Option (Int×(List Int))):Ctr:=⟨[.dat (YG),.dat Iq,.back (.ol 2 (.flat Iq))],[.dat Iq],fun a K=>splitK a fun a0 a=>splitK a fun a1 a=>splitK a fun a2 a=>XT (rec0 a0 a1 a2) fun r=>K (r.1,()) (r.2,())⟩
def ZCn:Ctr:=ZwE Zy3
def Zwn (b0:Zg) (net0:Int) (sources0:List Int) (out0:List Int) (i0:Int):Option (((List Int)×Int×Unit) ⊕ List Int) :=
 (ZwT (↑sources0.length:Int)).bind fun l28Size0 =>
 if i0<l28Size0 then
 (Zw8 i0 (↑sources0.length:Int)).bind fun l28Bits0 =>
 (Zw0 b0 sources0 l28Bits0).bind fun l28Known0 =>
 (Zy3 b0 net0 l28Known0).bind fun l28Eval0 =>
 Zu ((List.length out0+List.length [l28Eval0.fst])*(8:Nat)≤(140737488355328:Nat)) <|
 some (.inl (out0++[l28Eval0.fst],Wq (i0+(1:Int)),()))
 else
 some (.inr out0)
def Zwz (b0:Zg) (net0:Int) (sources0:List Int):Option (List Int) :=
 Zl (fun v=>Zwn b0 net0 sources0 v.1 v.2.1) (([]:List Int),(0:Int),())
def ZCo:Ctr:=⟨[.dat (YG),.dat Iq,.dat (.sl Iq)],[.own (.ol 2 (.flat Iq))],fun a K=>splitK a fun b0 a=>splitK a fun net0 a=>splitK a fun sources0 a=>XT (Zwz b0 net0 sources0) fun r=>K (r,()) ()⟩
def Zx1 (p0:Int):Option Int :=
 (ZwT p0).bind fun l28Size0 =>
 some l28Size0
def c182:Ctr:=D1 Iq Iq Zx1
def Zwy (f0:List Int) (bit0:Int) (out0:List Int) (i0:Int):Option (((List Int)×Int×Unit) ⊕ List Int) :=
 if i0<(↑f0.length:Int) then
 Zu (bit0≠(0:Int)) <|
 if Int.tmod (Wq (Int.tdiv i0 bit0)) 2=1 then
 (atI f0 i0).bind fun x0 =>
 (atI f0 (Wq (i0-bit0))).bind fun x1 =>
 if x0=x1 then
 Zu ((List.length out0+List.length [(0:Int)])*(8:Nat)≤(140737488355328:Nat)) <|
 some (.inl (out0++[(0:Int)],Wq (i0+(1:Int)),()))
 else
 Zu ((List.length out0+List.length [(1:Int)])*(8:Nat)≤(140737488355328:Nat)) <|
 some (.inl (out0++[(1:Int)],Wq (i0+(1:Int)),()))
 else
 (atI f0 i0).bind fun x0 =>
 (atI f0 (Wq (i0+bit0))).bind fun x1 =>
 if x0=x1 then
 Zu ((List.length out0+List.length [(0:Int)])*(8:Nat)≤(140737488355328:Nat)) <|
 some (.inl (out0++[(0:Int)],Wq (i0+(1:Int)),()))
 else
 Zu ((List.length out0+List.length [(1:Int)])*(8:Nat)≤(140737488355328:Nat)) <|
 some (.inl (out0++[(1:Int)],Wq (i0+(1:Int)),()))
 else
 some (.inr out0)
def ZwR (f0:List Int) (bit0:Int):Option (List Int) :=
 Zl (fun v=>Zwy f0 bit0 v.1 v.2.1) (([]:List Int),(0:Int),())
def c183:Ctr:=⟨[.dat (.sl Iq),.dat Iq],[.own (.ol 2 (.flat Iq))],fun a K=>splitK a fun f0 a=>splitK a fun bit0 a=>XT (ZwR f0 bit0) fun r=>K (r,()) ()⟩
def Zwh (b0:Zg) (list0:List Zk) (support0:List Int) (i1:Int) (n0:Int) (p0:Int):Option ((Int×Int×Int×Unit) ⊕ Int) :=
 if p0<(↑support0.length:Int) then
 (atI support0 p0).bind fun x0 =>
 (ZeS b0 list0 x0).bind fun l29Of0 =>
 if Int.tmod i1 2=1 then
 some (.inl (Wq (Int.tdiv i1 2),Wq (n0*ZB.Num (Zk.High l29Of0)),Wq (p0+1),()))
 else
 some (.inl (Wq (Int.tdiv i1 2),Wq (n0*Wq (ZB.Den (Zk.High l29Of0)-ZB.Num (Zk.High l29Of0))),Wq (p0+1),()))
 else
 some (.inr n0)
def ZwS (b0:Zg) (list0:List Zk) (support0:List Int) (i0:Int):Option Int :=
 Zl (fun v=>Zwh b0 list0 support0 v.1 v.2.1 v.2.2.1) (i0,(1:Int),(0:Int),())
def ZCp:Ctr:=D4 (YG) (.sl (ZE)) (.sl Iq) Iq Iq ZwS
def ZwP (b0:Zg) (list0:List Zk) (support0:List Int) (f0:List Int) (sum0:Int) (i0:Int):Option ((Int×Int×Unit) ⊕ Int) :=
 if i0<(↑f0.length:Int) then
 (atI f0 i0).bind fun x0 =>
 if x0=1 then
 (ZwS b0 list0 support0 i0).bind fun l29Weight0 =>
 some (.inl (Wq (sum0+l29Weight0),Wq (i0+1),()))
 else
 some (.inl (sum0,Wq (i0+1),()))
 else
 some (.inr sum0)
def Zx2 (b0:Zg) (list0:List Zk) (support0:List Int) (f0:List Int):Option Int :=
 Zl (fun v=>ZwP b0 list0 support0 f0 v.1 v.2.1) ((0:Int),(0:Int),())
def ZCq:Ctr:=D4 (YG) (.sl (ZE)) (.sl Iq) (.sl Iq) Iq Zx2
def Zwt (b0:Zg) (list0:List Zk) (support0:List Int) (n0:Int) (p0:Int):Option ((Int×Int×Unit) ⊕ Int) :=
 if p0<(↑support0.length:Int) then
 (atI support0 p0).bind fun x0 =>
 (ZeS b0 list0 x0).bind fun l29Of0 =>
 some (.inl (Wq (n0*ZB.Den (Zk.High l29Of0)),Wq (p0+1),()))
 else
 some (.inr n0)
def ZwM (b0:Zg) (list0:List Zk) (support0:List Int):Option Int :=
 Zl (fun v=>Zwt b0 list0 support0 v.1 v.2.1) ((1:Int),(0:Int),())
def ZCr:Ctr:=D3 (YG) (.sl (ZE)) (.sl Iq) Iq ZwM
def ZwO (a0:Int) (b0:Int) (mode0:Int):Option Int :=
 Zu (b0≠(0:Int)) <|
 if Int.tmod a0 b0<0 then
 if mode0=0 then
 some (Wq (Wq (Int.tdiv a0 b0)-1))
 else
 if 0<Int.tmod a0 b0 then
 if mode0=1 then
 some (Wq (Wq (Int.tdiv a0 b0)+1))
 else
 some (Wq (Int.tdiv a0 b0))
 else
 some (Wq (Int.tdiv a0 b0))
 else
 if 0<Int.tmod a0 b0 then
 if mode0=1 then
 some (Wq (Wq (Int.tdiv a0 b0)+1))
 else
 some (Wq (Int.tdiv a0 b0))
 else
 some (Wq (Int.tdiv a0 b0))
def ZCs:Ctr:=D3 Iq Iq Iq Iq ZwO
def Zws (b0:Zg) (list0:List Zk) (l28Support0:List Int) (l28Function0:List Int) (sum0:Int) (p0:Int):Option ((Int×Int×Unit) ⊕ Int) :=
 if p0<(↑l28Support0.length:Int) then
 (Zx1 p0).bind fun l28Bit0 =>
 (ZwR l28Function0 l28Bit0).bind fun l29Change0 =>
 (atI l28Support0 p0).bind fun x0 =>
 (Zx2 b0 list0 l28Support0 l29Change0).bind fun l29Sum0 =>
 (ZeS b0 list0 x0).bind fun l29Of0 =>
 some (.inl (Wq (sum0+Wq (l29Sum0*Zk.ZcR l29Of0)),Wq (p0+1),()))
 else
 (ZwM b0 list0 l28Support0).bind fun l29Product0 =>
 (ZwO sum0 l29Product0 1).bind fun l01Div0 =>
 some (.inr l01Div0)
def ZwL (b0:Zg) (list0:List Zk) (net0:Int):Option Int :=
 (Zai b0 net0).bind fun l28Support0 =>
 (Zwz b0 net0 l28Support0).bind fun l28Function0 =>
 Zl (fun v=>Zws b0 list0 l28Support0 l28Function0 v.1 v.2.1) ((0:Int),(0:Int),())
def ZCt:Ctr:=D3 (YG) (.sl (ZE)) Iq Iq ZwL
def ZwU (b0:Zg) (list0:List Zk) (net0:Int):Option Int :=
 (Zai b0 net0).bind fun l28Support0 =>
 if 8<(↑l28Support0.length:Int) then
 (Zbr b0 list0 net0).bind fun l30Bound0 =>
 some l30Bound0
 else
 (ZwL b0 list0 net0).bind fun l29Density0 =>
 some l29Density0
def ZCb:Ctr:=D3 (YG) (.sl (ZE)) Iq Iq ZwU
def ZwQ (b0:Zg) (list0:List Zk) (net0:Int):Option Int :=
 (Zw7 b0 net0).bind fun NetLoad0 =>
 (ZwU b0 list0 net0).bind fun l30Rate0 =>
 some (Wq (l30Rate0*NetLoad0.fst))
def ZB6:Ctr:=D3 (YG) (.sl (ZE)) Iq Iq ZwQ
def ZwZ (b0:Zg) (list0:List Zk) (net0:Int):Option (Int×Int) :=
 (Za3 b0 list0 net0).bind fun l29Code0 =>
 if l29Code0=0 then
 (ZwQ b0 list0 net0).bind fun l30Net0 =>
 some (l30Net0,0)
 else
 some (0,l29Code0)
def ZCu:Ctr:=⟨[.dat (YG),.dat (.sl (ZE)),.dat Iq],[.dat Iq,.dat Iq],fun a K=>splitK a fun b0 a=>splitK a fun list0 a=>splitK a fun net0 a=>XT (ZwZ b0 list0 net0) fun r=>K (r.1,r.2,()) ()⟩
def Zv5 (a0:YH) (v0:Int) (l0:List Int) (x0:Int) (x1:Int) (inputs0:List Int) (v1:Int) (v2:Int):Option ((Int×Int×Unit) ⊕ ((Int×(List Int)×Unit) ⊕ List Int)) :=
 if v2<(↑inputs0.length:Int) then
 (atI inputs0 v2).bind fun x2 =>
 (atI l0 x2).bind fun x3 =>
 Zu ((0:Int)≤v2) <|
 some (.inl (Go.bits Go.BinOp.or IntKind.i64 v1 (Wq (x3*2 ^ Min.min (Int.toNat v2) (IntKind.bits IntKind.i64))),Wq (v2+1),()))
 else
 (Vp (YH.Block a0) x1).bind fun cellOf0 =>
 (atI (Zf.Truth cellOf0) v1).bind fun x2 =>
 (atI l0 x0).bind fun x3 =>
 some (.inr (.inl (Wq (v0+1),List.set l0 (Int.toNat x0) x2,())))
def Zv6 (a0:YH) (a1:List (Int×Int)) (v0:Int) (l0:List Int):Option ((Int×(List Int)×Unit) ⊕ List Int) :=
 if v0<(↑(List.length (YH.order a0)):Int) then
 (atI (YH.order a0) v0).bind fun x0 =>
 (atI (YH.gate a0) x0).bind fun x1 =>
 if x1<0 then
 (atI l0 x0).bind fun x2 =>
 some (.inl (Wq (v0+1),List.set l0 (Int.toNat x0) (Option.getD (ZhK (Ty.int IntKind.i64) (Ty.int IntKind.i64) a1 x0) 0),()))
 else
 (Vu a0 x0).bind fun inputs0 =>
 Zl (fun v=>Zv5 a0 v0 l0 x0 x1 inputs0 v.1 v.2.1) ((0:Int),(0:Int),())
 else
 some (.inr l0)
def Zww (a0:YH) (a1:List (Int×Int)):Option (List Int) :=
 Zu ((0:Int)≤(↑(List.length (YH.gate a0)):Int)) <|
 Zu ((↑(List.length (YH.gate a0)):Int)≤(↑(List.length (YH.gate a0)):Int)) <|
 Zu ((↑(List.length (YH.gate a0)):Int)≤(4611686018427387904:Int)) <|
 Zu ((↑(8:Nat):Int)*(↑(List.length (YH.gate a0)):Int)≤(281474976710656:Int)) <|
 Zl (fun v=>Zv6 a0 a1 v.1 v.2.1) ((0:Int),List.replicate (Int.toNat (↑(List.length (YH.gate a0)):Int)) (0:Int),())
def ZCv:Ctr:=⟨[.dat (.ptr (Zgz)),.dat (.mp Iq Iq)],[.own (.ol 2 (.flat Iq))],fun a K=>splitK a fun a0 a=>splitK a fun a1 a=>XT (Zww a0 a1) fun r=>K (r,()) ()⟩
def Zwf (x0:YH) (net0:Int) (x1:List Int) (v0:Int) (c0:List Int) (v1:Int) (m0:List (Int×Int)):Option ((Int×(List (Int×Int))×Unit) ⊕ ((Int×(List Int)×Unit) ⊕ ((List Int)×(List Int)×Bool))) :=
 if v1<(↑x1.length:Int) then
 (atI x1 v1).bind fun x2 =>
 Zu ((0:Int)≤v1) <|
 some (.inl (Wq (v1+1),ZkQ ZAW.ty ZAW.ety m0 x2 (Go.bits Go.BinOp.and IntKind.i64 (Int.fdiv v0 (2 ^ Min.min (Int.toNat v1) (IntKind.bits IntKind.i64))) 1),()))
 else
 (Zww x0 m0).bind fun values0 =>
 (atI values0 net0).bind fun x2 =>
 Zu ((List.length c0+List.length [x2])*(8:Nat)≤(140737488355328:Nat)) <|
 some (.inr (.inl (Wq (v0+(1:Int)),c0++[x2],())))
def Zwg (x0:YH) (net0:Int) (x1:List Int) (v0:Int) (c0:List Int):Option ((Int×(List Int)×Unit) ⊕ ((List Int)×(List Int)×Bool)) :=
 if v0<Wq (1*2 ^ Min.min (Int.toNat (↑x1.length:Int)) (IntKind.bits IntKind.i64)) then
 Zl (fun v=>Zwf x0 net0 x1 v0 c0 v.1 v.2.1) ((0:Int),([]:List (Int×Int)),())
 else
 some (.inr (c0,x1,Bool.true))
def Zwl (x0:YH) (net0:Int):Option ((List Int)×(List Int)×Bool) :=
 (Qv x0).bind fun supports0 =>
 (atI supports0 net0).bind fun x1 =>
 if 8<(↑x1.length:Int) then
 some (([]:List Int),([]:List Int),Bool.false)
 else
 Zu ((0:Int)≤(↑x1.length:Int)) <|
 Zl (fun v=>Zwg x0 net0 x1 v.1 v.2.1) ((0:Int),([]:List Int),())
def c193:Ctr:=⟨[.dat (.ptr (Zgz)),.dat Iq],[.own (.ol 2 (.flat Iq)),.own (.ol 2 (.flat Iq)),.dat (.bool)],fun a K=>splitK a fun x0 a=>splitK a fun net0 a=>XT (Zwl x0 net0) fun r=>K (r.1,r.2.1,r.2.2,()) ()⟩
def Zwe (c0:Vi) (support0:List Int) (row0:Int) (without0:Int) (w0:Int) (v0:Int):Option ((Int×Int×Unit) ⊕ Int) :=
 if v0<(↑support0.length:Int) then
 (atI support0 v0).bind fun x0 =>
 if v0=without0 then
 some (.inl (w0,Wq (v0+1),()))
 else
 Zu ((0:Int)≤v0) <|
 if Go.bits Go.BinOp.and IntKind.i64 (Int.fdiv row0 (2 ^ Min.min (Int.toNat v0) (IntKind.bits IntKind.i64))) 1=1 then
 some (.inl (Wq (w0*ZB.Num (Zk.High (Option.getD (ZhK (Ty.int IntKind.i64) ZE (Vi.of c0) x0) ((0,0,()),0,())))),Wq (v0+1),()))
 else
 some (.inl (Wq (w0*Wq (ZB.Den (Zk.High (Option.getD (ZhK (Ty.int IntKind.i64) ZE (Vi.of c0) x0) ((0,0,()),0,())))-ZB.Num (Zk.High (Option.getD (ZhK (Ty.int IntKind.i64) ZE (Vi.of c0) x0) ((0,0,()),0,()))))),Wq (v0+1),()))
 else
 some (.inr w0)
def Zwk (c0:Vi) (support0:List Int) (row0:Int) (without0:Int):Option Int :=
 Zl (fun v=>Zwe c0 support0 row0 without0 v.1 v.2.1) ((1:Int),(0:Int),())
def c194:Ctr:=D4 (.ptr (ZkL)) (.sl Iq) Iq Iq Iq Zwk
def ZvZ (c0:Vi) (function0:List Int) (support0:List Int) (p0:Int) (sum0:Int) (v0:Int):Option ((Int×Int×Unit) ⊕ Int) :=
 if v0<(↑function0.length:Int) then
 (atI function0 v0).bind fun x0 =>
 Zu ((0:Int)≤p0) <|
 if Go.bits Go.BinOp.and IntKind.i64 (Int.fdiv v0 (2 ^ Min.min (Int.toNat p0) (IntKind.bits IntKind.i64))) 1=0 then
 (atI function0 (Go.bits Go.BinOp.or IntKind.i64 v0 (Wq (1*2 ^ Min.min (Int.toNat p0) (IntKind.bits IntKind.i64))))).bind fun x1 =>
 if x0=x1 then
 some (.inl (sum0,Wq (v0+1),()))
 else
 (Zwk c0 support0 v0 p0).bind fun weight0 =>
 some (.inl (Wq (sum0+weight0),Wq (v0+1),()))
 else
 some (.inl (sum0,Wq (v0+1),()))
 else
 some (.inr sum0)
def Zv1 (c0:Vi) (function0:List Int) (support0:List Int) (p0:Int):Option Int :=
 Zl (fun v=>ZvZ c0 function0 support0 p0 v.1 v.2.1) ((0:Int),(0:Int),())
def ZCw:Ctr:=D4 (.ptr (ZkL)) (.sl Iq) (.sl Iq) Iq Iq Zv1
def ZvY (c0:Vi) (support0:List Int) (without0:Int) (product0:Int) (v0:Int):Option ((Int×Int×Unit) ⊕ Int) :=
 if v0<(↑support0.length:Int) then
 (atI support0 v0).bind fun x0 =>
 if v0=without0 then
 some (.inl (product0,Wq (v0+1),()))
 else
 some (.inl (Wq (product0*ZB.Den (Zk.High (Option.getD (ZhK (Ty.int IntKind.i64) ZE (Vi.of c0) x0) ((0,0,()),0,())))),Wq (v0+1),()))
 else
 some (.inr product0)
def Zv0 (c0:Vi) (support0:List Int) (without0:Int):Option Int :=
 Zl (fun v=>ZvY c0 support0 without0 v.1 v.2.1) ((1:Int),(0:Int),())
def c196:Ctr:=D3 (.ptr (ZkL)) (.sl Iq) Iq Iq Zv0
def ZxY (a0:Int) (b0:Int) (mode0:Int):Option Int :=
 Zu (b0≠(0:Int)) <|
 if mode0=0 then
 if Int.tmod a0 b0<0 then
 some (Wq (Wq (Int.tdiv a0 b0)-1))
 else
 if mode0=1 then
 if 0<Int.tmod a0 b0 then
 some (Wq (Wq (Int.tdiv a0 b0)+1))
 else
 some (Wq (Int.tdiv a0 b0))
 else
 some (Wq (Int.tdiv a0 b0))
 else
 if mode0=1 then
 if 0<Int.tmod a0 b0 then
 some (Wq (Wq (Int.tdiv a0 b0)+1))
 else
 some (Wq (Int.tdiv a0 b0))
 else
 some (Wq (Int.tdiv a0 b0))
def ZCx:Ctr:=D3 Iq Iq Iq Iq ZxY
def Zwa (c0:Vi) (function0:List Int×List Int×Bool) (sum0:Int) (v0:Int):Option ((Int×Int×Unit) ⊕ (Int×Bool)) :=
 if v0<(↑(List.length function0.snd.fst):Int) then
 (atI function0.snd.fst v0).bind fun x0 =>
 (Zv1 c0 function0.fst function0.snd.fst v0).bind fun sensitivity0 =>
 some (.inl (Wq (sum0+Wq (Wq (sensitivity0*ZB.Den (Zk.High (Option.getD (ZhK (Ty.int IntKind.i64) ZE (Vi.of c0) x0) ((0,0,()),0,()))))*Zk.ZcR (Option.getD (ZhK (Ty.int IntKind.i64) ZE (Vi.of c0) x0) ((0,0,()),0,())))),Wq (v0+1),()))
 else
 (Zv0 c0 function0.snd.fst (-1)).bind fun denominator0 =>
 (ZxY sum0 denominator0 1).bind fun divide0 =>
 some (.inr (divide0,Bool.true))
def Zv3 (c0:Vi) (net0:Int):Option (Int×Bool) :=
 (Zwl (Vi.logic c0) net0).bind fun function0 =>
 if function0.snd.snd=true then
 Zl (fun v=>Zwa c0 function0 v.1 v.2.1) ((0:Int),(0:Int),())
 else
 some (0,Bool.false)
def c198:Ctr:=⟨[.dat (.ptr (ZkL)),.dat Iq],[.dat Iq,.dat (.bool)],fun a K=>splitK a fun c0 a=>splitK a fun net0 a=>XT (Zv3 c0 net0) fun r=>K (r.1,r.2,()) ()⟩
def ZvW (s0:List Int):Option (List Int) :=
 Zu ((List.length (([]:List Int))+List.length s0)*(8:Nat)≤(140737488355328:Nat)) <|
 some (([]:List Int)++s0)
def ZCy:Ctr:=⟨[.dat (.sl Iq)],[.own (.ol 2 (.flat Iq))],fun a K=>splitK a fun s0 a=>XT (ZvW s0) fun r=>K (r,()) ()⟩
def Zwj (net0:Int) (places0:List QD) (list0:List Int) (v0:Int):Option (((List Int)×Int×Unit) ⊕ List Int) :=
 if v0<(↑places0.length:Int) then
 (atI places0 v0).bind fun x0 =>
 if QD.net x0=net0 then
 if (QD.drives x0)=true then
 some (.inl (list0,Wq (v0+1),()))
 else
 Zu ((List.length list0+List.length [v0])*(8:Nat)≤(140737488355328:Nat)) <|
 some (.inl (list0++[v0],Wq (v0+(1:Int)),()))
 else
 some (.inl (list0,Wq (v0+1),()))
 else
 some (.inr list0)
def Zwv (d0:Zb) (net0:Int):Option (List Int) :=
 (QU d0).bind fun places0 =>
 Zl (fun v=>Zwj net0 places0 v.1 v.2.1) (([]:List Int),(0:Int),())
def ZCz:Ctr:=⟨[.dat (Yv),.dat Iq],[.own (.ol 2 (.flat Iq))],fun a K=>splitK a fun d0 a=>splitK a fun net0 a=>XT (Zwv d0 net0) fun r=>K (r,()) ()⟩
def Zwu (d0:Zb) (l0:Zn) (p0:QD):Option Int :=
 if QD.instance p0<0 then
 some 0
 else
 (atI (Zb.Instances d0) (QD.instance p0)).bind fun x0 =>
 (atI (Zn.Cells l0) (Zd.Cell x0)).bind fun x1 =>
 (atI (Zf.Ye x1) (QD.pin p0)).bind fun x2 =>
 some (Yf.Cap x2)
def c201:Ctr:=D3 (Yv) (YR) (Zj0) Iq Zwu
def Zv9 (x0:Zz) (v1:Int) (l1:List Int):Option ((Int×(List Int)×Unit) ⊕ ((Int×(List Int)×Unit) ⊕ List Int)) :=
 if 0<v1 then
 (atI (Zz.Parent x0) v1).bind fun x1 =>
 (atI l1 x1).bind fun x2 =>
 (atI l1 v1).bind fun x3 =>
 some (.inl (Wq (v1-1),List.set l1 (Int.toNat x1) (Wq (x2+x3)),()))
 else
 some (.inr (.inr l1))
def ZvS (a0:Zg) (x0:Zz) (places0:List QD) (sinks0:List Int) (v0:Int) (l0:List Int):Option ((Int×(List Int)×Unit) ⊕ List Int) :=
 if v0<(↑sinks0.length:Int) then
 (atI sinks0 v0).bind fun x1 =>
 (atI (Zz.Zj6 x0) v0).bind fun x2 =>
 (atI l0 x2).bind fun x3 =>
 (atI places0 x1).bind fun x4 =>
 (Zwu (Zg.Design a0) (Zg.Library a0) x4).bind fun capOf0 =>
 some (.inl (Wq (v0+1),List.set l0 (Int.toNat x2) (Wq (x3+capOf0)),()))
 else
 Zl (fun v=>Zv9 x0 v.1 v.2.1) (Wq ((↑l0.length:Int)-(1:Int)),l0,())
def ZvL (a0:Zg) (a1:Int):Option (List Int) :=
 (atI (Zg.Qo a0) a1).bind fun x0 =>
 (ZvW (Zz.Cap x0)).bind fun int64_0 =>
 (QU (Zg.Design a0)).bind fun places0 =>
 (Zwv (Zg.Design a0) a1).bind fun sinks0 =>
 Zl (fun v=>ZvS a0 x0 places0 sinks0 v.1 v.2.1) ((0:Int),int64_0,())
def ZCA:Ctr:=⟨[.dat (YG),.dat Iq],[.own (.ol 2 (.flat Iq))],fun a K=>splitK a fun a0 a=>splitK a fun a1 a=>XT (ZvL a0 a1) fun r=>K (r,()) ()⟩
def Zwd (c0:Vi) (supports0:List (List Int)) (rates0:List Int) (powers0:List Int) (v0:Int) (l0:List (List Int)):Option (((List Int)×(List Int)×Int×(List (List Int))×Unit) ⊕ ((List Int)×(List Int))) :=
 if v0<(↑supports0.length:Int) then
 (atI l0 v0).bind fun x0 =>
 (Zv3 c0 v0).bind fun density0 =>
 if density0.snd=true then
 Zu ((List.length rates0+List.length [density0.fst])*(8:Nat)≤(140737488355328:Nat)) <|
 (ZvL (YH.Block (Vi.logic c0)) v0).bind fun nodeLoads0 =>
 (atI nodeLoads0 0).bind fun x1 =>
 Zu ((List.length powers0+List.length [Wq (density0.fst*x1)])*(8:Nat)≤(140737488355328:Nat)) <|
 some (.inl (rates0++[density0.fst],powers0++[Wq (density0.fst*x1)],Wq (v0+(1:Int)),List.set l0 (Int.toNat v0) x0,()))
 else
 (QW c0 x0).bind fun bound0 =>
 Zu ((List.length rates0+List.length [bound0])*(8:Nat)≤(140737488355328:Nat)) <|
 (ZvL (YH.Block (Vi.logic c0)) v0).bind fun nodeLoads0 =>
 (atI nodeLoads0 0).bind fun x1 =>
 Zu ((List.length powers0+List.length [Wq (bound0*x1)])*(8:Nat)≤(140737488355328:Nat)) <|
 some (.inl (rates0++[bound0],powers0++[Wq (bound0*x1)],Wq (v0+(1:Int)),List.set l0 (Int.toNat v0) x0,()))
 else
 some (.inr (rates0,powers0))
def ZvV (c0:Vi):Option ((List Int)×(List Int)) :=
 (Qv (Vi.logic c0)).bind fun supports0 =>
 Zl (fun v=>Zwd c0 supports0 v.1 v.2.1 v.2.2.1 v.2.2.2.1) (([]:List Int),([]:List Int),(0:Int),supports0,())
def c203:Ctr:=⟨[.dat (.ptr (ZkL))],[.own (.ol 2 (.flat Iq)),.own (.ol 2 (.flat Iq))],fun a K=>splitK a fun c0 a=>XT (ZvV c0) fun r=>K (r.1,r.2,()) ()⟩
def ZwX (b0:Zg) (list0:List Zk) (net0:Int):Option (Int×Int) :=
 (XE b0 list0 [net0]).bind fun chancesOf0 =>
 if chancesOf0.snd=0 then
 (chancesOf0.fst).bind fun fst0 =>
 (ZvV fst0).bind fun powers0 =>
 (atI powers0.snd net0).bind fun x0 =>
 some (x0,0)
 else
 some (0,chancesOf0.snd)
def ZCB:Ctr:=⟨[.dat (YG),.dat (.sl (ZE)),.dat Iq],[.dat Iq,.dat Iq],fun a K=>splitK a fun b0 a=>splitK a fun list0 a=>splitK a fun net0 a=>XT (ZwX b0 list0 net0) fun r=>K (r.1,r.2,()) ()⟩
def Zv4 (aB0:Zg) (aList0:List Zk) (aNet0:Int):Option Bool :=
 (Zce aB0 1048576).bind fun szBlock0 =>
 if szBlock0<0 then
 some Bool.true
 else
 (Jh aList0 szBlock0).bind fun szActivityS0 =>
 if szActivityS0<0 then
 some Bool.true
 else
 (Zci aB0).bind fun toBlock0 =>
 (Jj aList0).bind fun toActivityS0 =>
 (ZwZ toBlock0 toActivityS0 aNet0).bind fun NetPower0 =>
 (ZwX toBlock0 toActivityS0 aNet0).bind fun NetPower1 =>
 if NetPower1.fst=NetPower0.fst then
 if NetPower1.snd=NetPower0.snd then
 (Zca toBlock0 toBlock0).bind fun eqBlock0 =>
 if eqBlock0=true then
 (Jf toActivityS0 toActivityS0).bind fun eqActivityS0 =>
 if eqActivityS0=true then
 some Bool.true
 else
 some Bool.false
 else
 some Bool.false
 else
 some Bool.false
 else
 some Bool.false
def ZwN:Ctr:=⟨[.dat (YG),.dat (.sl (ZE)),.dat Iq],[.dat (.bool)],fun a K=>splitK a fun aB0 a=>splitK a fun aList0 a=>splitK a fun aNet0 a=>XT (Zv4 aB0 aList0 aNet0) fun r=>K (r,()) ()⟩
def Zwb (b0:Zg) (list0:List Zk) (instance0:Int):Option ZjC :=
 (atI (Zb.Instances (Zg.Design b0)) instance0).bind fun x0 =>
 (atI (Zn.Cells (Zg.Library b0)) (Zd.Cell x0)).bind fun x1 =>
 (atI (Zd.Yb x0) (Wq ((↑(List.length (Zd.Yb x0)):Int)-1))).bind fun x2 =>
 (ZwQ b0 list0 x2).bind fun l30Net0 =>
 (ZwU b0 list0 x2).bind fun l30Rate0 =>
 some (l30Net0,Wq (Zf.Ze4 x1*l30Rate0),Zf.Zps x1,())
def c206:Ctr:=D3 (YG) (.sl (ZE)) Iq (Zsc) Zwb
def Zwp (b0:Zg) (list0:List Zk) (instance0:Int):Option (ZjC×Int) :=
 (Za2 b0).bind fun l28Code0 =>
 if l28Code0=0 then
 (Z9 instance0 0 (Wq ((↑(List.length (Zb.Instances (Zg.Design b0))):Int)-1))).bind fun l01In0 =>
 if l01In0=true then
 (Vx b0 list0).bind fun IsAssignment0 =>
 if IsAssignment0=true then
 (Zwb b0 list0 instance0).bind fun l30Instance0 =>
 some (l30Instance0,0)
 else
 some ((0,0,0,()),5)
 else
 some ((0,0,0,()),2)
 else
 some ((0,0,0,()),l28Code0)
def ZCC:Ctr:=⟨[.dat (YG),.dat (.sl (ZE)),.dat Iq],[.dat (Zsc),.dat Iq],fun a K=>splitK a fun b0 a=>splitK a fun list0 a=>splitK a fun instance0 a=>XT (Zwp b0 list0 instance0) fun r=>K (r.1,r.2,()) ()⟩
def ZvP (list0:List Zd):Option Int :=
 some (↑list0.length:Int)
def c208:Ctr:=D1 (.sl (Yn)) Iq ZvP
def ZvM (c0:Vi) (instance0:Int) (rates0:List Int) (powers0:List Int):Option ZjC :=
 (atI (Zb.Instances (Zg.Design (YH.Block (Vi.logic c0)))) instance0).bind fun x0 =>
 (atI (Zd.Yb x0) (Wq ((↑(List.length (Zd.Yb x0)):Int)-1))).bind fun x1 =>
 (Vp (YH.Block (Vi.logic c0)) instance0).bind fun cellOf0 =>
 (atI powers0 x1).bind fun x2 =>
 (atI rates0 x1).bind fun x3 =>
 some (x2,Wq (Zf.Ze4 cellOf0*x3),Zf.Zps cellOf0,())
def ZCc:Ctr:=D4 (.ptr (ZkL)) Iq (.sl Iq) (.sl Iq) (Zsc) ZvM
def Zwo (b0:Zg) (list0:List Zk) (instance0:Int):Option (ZjC×Int) :=
 (Q0 b0 (([]:List Int))).bind fun logicOf0 =>
 if logicOf0.snd=0 then
 (ZvP (Zb.Instances (Zg.Design b0))).bind fun Instance0 =>
 (Yd instance0 0 (Wq (Instance0-1))).bind fun within0 =>
 if within0=true then
 (XE b0 list0 (([]:List Int))).bind fun chancesOf0 =>
 if chancesOf0.snd=0 then
 (chancesOf0.fst).bind fun fst0 =>
 (ZvV fst0).bind fun powers0 =>
 (ZvM fst0 instance0 powers0.fst powers0.snd).bind fun instancePower0 =>
 some (instancePower0,0)
 else
 some ((0,0,0,()),chancesOf0.snd)
 else
 some ((0,0,0,()),2)
 else
 some ((0,0,0,()),logicOf0.snd)
def c210:Ctr:=⟨[.dat (YG),.dat (.sl (ZE)),.dat Iq],[.dat (Zsc),.dat Iq],fun a K=>splitK a fun b0 a=>splitK a fun list0 a=>splitK a fun instance0 a=>XT (Zwo b0 list0 instance0) fun r=>K (r.1,r.2,()) ()⟩
def Zwr (a0:ZjC) (b0:ZjC):Option Bool :=
 if ZjC.Switching a0=ZjC.Switching b0 then
 if ZjC.Internal a0=ZjC.Internal b0 then
 if ZjC.ZsK a0=ZjC.ZsK b0 then
 some Bool.true
 else
 some Bool.false
 else
 some Bool.false
 else
 some Bool.false
def ZCd:Ctr:=D2 (Zsc) (Zsc) (.bool) Zwr
def ZvQ (aB0:Zg) (aList0:List Zk) (aInstance0:Int):Option Bool :=
 (Zce aB0 1048576).bind fun szBlock0 =>
 if szBlock0<0 then
 some Bool.true
 else
 (Jh aList0 szBlock0).bind fun szActivityS0 =>
 if szActivityS0<0 then
 some Bool.true
 else
 (Zci aB0).bind fun toBlock0 =>
 (Jj aList0).bind fun toActivityS0 =>
 (Zwp toBlock0 toActivityS0 aInstance0).bind fun InstancePower0 =>
 (Zwo toBlock0 toActivityS0 aInstance0).bind fun InstancePower1 =>
 (Zwr InstancePower1.fst InstancePower0.fst).bind fun eqPower0 =>
 if eqPower0=true then
 if InstancePower1.snd=InstancePower0.snd then
 (Zca toBlock0 toBlock0).bind fun eqBlock0 =>
 if eqBlock0=true then
 (Jf toActivityS0 toActivityS0).bind fun eqActivityS0 =>
 if eqActivityS0=true then
 some Bool.true
 else
 some Bool.false
 else
 some Bool.false
 else
 some Bool.false
 else
 some Bool.false
def Zwq:Ctr:=⟨[.dat (YG),.dat (.sl (ZE)),.dat Iq],[.dat (.bool)],fun a K=>splitK a fun aB0 a=>splitK a fun aList0 a=>splitK a fun aInstance0 a=>XT (ZvQ aB0 aList0 aInstance0) fun r=>K (r,()) ()⟩
def Zwi (b0:Zg) (list0:List Zk):Option Int :=
 (Za2 b0).bind fun l28Code0 =>
 if l28Code0=0 then
 (Vx b0 list0).bind fun IsAssignment0 =>
 if IsAssignment0=true then
 some l28Code0
 else
 some 5
 else
 some l28Code0
def c213:Ctr:=D2 (YG) (.sl (ZE)) Iq Zwi
def Zv8 (b0:Zg) (list0:List Zk) (c0:Int) (i0:Int) (c1:Int) (c2:Int):Option ((Int×Int×Int×Unit) ⊕ ((Int×Int×Unit) ⊕ ZjC)) :=
 if i0<(↑(List.length (Zb.Instances (Zg.Design b0))):Int) then
 (Zwb b0 list0 i0).bind fun l30Instance0 =>
 some (.inl (Wq (i0+1),Wq (c1+ZjC.Internal l30Instance0),Wq (c2+ZjC.ZsK l30Instance0),()))
 else
 some (.inr (.inr (c0,c1,c2,())))
def ZwB (b0:Zg) (list0:List Zk) (net0:Int) (c0:Int):Option ((Int×Int×Unit) ⊕ ZjC) :=
 if net0<(↑(List.length (Zb.Yb (Zg.Design b0))):Int) then
 (ZwQ b0 list0 net0).bind fun l30Net0 =>
 some (.inl (Wq (net0+1),Wq (c0+l30Net0),()))
 else
 Zl (fun v=>Zv8 b0 list0 c0 v.1 v.2.1 v.2.2.1) ((0:Int),(0:Int),(0:Int),())
def Zwx (b0:Zg) (list0:List Zk):Option ZjC :=
 Zl (fun v=>ZwB b0 list0 v.1 v.2.1) ((0:Int),(0:Int),())
def ZCe:Ctr:=D2 (YG) (.sl (ZE)) (Zsc) Zwx
def ZwG (b0:Zg) (list0:List Zk) (budget0:Int):Option (Bool×Int) :=
 (Zwi b0 list0).bind fun l30Code0 =>
 if l30Code0=0 then
 (Zwx b0 list0).bind fun l30Total0 =>
 some (Decidable.decide (Wq (Wq (ZjC.Switching l30Total0+ZjC.Internal l30Total0)+ZjC.ZsK l30Total0)≤budget0),0)
 else
 some (Bool.false,l30Code0)
def ZCD:Ctr:=⟨[.dat (YG),.dat (.sl (ZE)),.dat Iq],[.dat (.bool),.dat Iq],fun a K=>splitK a fun b0 a=>splitK a fun list0 a=>splitK a fun budget0 a=>XT (ZwG b0 list0 budget0) fun r=>K (r.1,r.2,()) ()⟩
def ZvX (fst0:Vi) (powers0:List Int×List Int) (c0:Int) (Instance0:Int) (v1:Int) (c1:Int) (c2:Int):Option ((Int×Int×Int×Unit) ⊕ ((Int×Int×Unit) ⊕ (ZjC×Int))) :=
 if v1<Instance0 then
 (ZvM fst0 v1 powers0.fst powers0.snd).bind fun instancePower0 =>
 some (.inl (Wq (v1+1),Wq (c1+ZjC.Internal instancePower0),Wq (c2+ZjC.ZsK instancePower0),()))
 else
 some (.inr (.inr ((c0,c1,c2,()),0)))
def Zwc (a0:Zg) (fst0:Vi) (powers0:List Int×List Int) (v0:Int) (c0:Int):Option ((Int×Int×Unit) ⊕ (ZjC×Int)) :=
 if v0<(↑(List.length powers0.snd):Int) then
 (atI powers0.snd v0).bind fun x0 =>
 some (.inl (Wq (v0+1),Wq (c0+x0),()))
 else
 (ZvP (Zb.Instances (Zg.Design a0))).bind fun Instance0 =>
 Zl (fun v=>ZvX fst0 powers0 c0 Instance0 v.1 v.2.1 v.2.2.1) ((0:Int),(0:Int),(0:Int),())
def Zv7 (a0:Zg) (a1:List Zk):Option (ZjC×Int) :=
 (XE a0 a1 (([]:List Int))).bind fun chancesOf0 =>
 if chancesOf0.snd=0 then
 (chancesOf0.fst).bind fun fst0 =>
 (ZvV fst0).bind fun powers0 =>
 Zl (fun v=>Zwc a0 fst0 powers0 v.1 v.2.1) ((0:Int),(0:Int),())
 else
 some ((0,0,0,()),chancesOf0.snd)
def ZCf:Ctr:=⟨[.dat (YG),.dat (.sl (ZE))],[.dat (Zsc),.dat Iq],fun a K=>splitK a fun a0 a=>splitK a fun a1 a=>XT (Zv7 a0 a1) fun r=>K (r.1,r.2,()) ()⟩
def ZwF (b0:Zg) (list0:List Zk) (budget0:Int):Option (Bool×Int) :=
 (Zv7 b0 list0).bind fun TotalPower0 =>
 if TotalPower0.snd=0 then
 some (Decidable.decide (Wq (Wq (TotalPower0.fst.fst+TotalPower0.fst.snd.fst)+TotalPower0.fst.snd.snd.fst)≤budget0),0)
 else
 some (Bool.false,TotalPower0.snd)
def ZCE:Ctr:=⟨[.dat (YG),.dat (.sl (ZE)),.dat Iq],[.dat (.bool),.dat Iq],fun a K=>splitK a fun b0 a=>splitK a fun list0 a=>splitK a fun budget0 a=>XT (ZwF b0 list0 budget0) fun r=>K (r.1,r.2,()) ()⟩
def ZvT (aB0:Zg) (aList0:List Zk) (aBudget0:Int):Option Bool :=
 (Zce aB0 1048576).bind fun szBlock0 =>
 if szBlock0<0 then
 some Bool.true
 else
 (Jh aList0 szBlock0).bind fun szActivityS0 =>
 if szActivityS0<0 then
 some Bool.true
 else
 (Zci aB0).bind fun toBlock0 =>
 (Jj aList0).bind fun toActivityS0 =>
 (ZwG toBlock0 toActivityS0 aBudget0).bind fun PowerBelow0 =>
 (ZwF toBlock0 toActivityS0 aBudget0).bind fun PowerBelow1 =>
 if (PowerBelow1.fst == PowerBelow0.fst)=true then
 if PowerBelow1.snd=PowerBelow0.snd then
 (Zca toBlock0 toBlock0).bind fun eqBlock0 =>
 if eqBlock0=true then
 (Jf toActivityS0 toActivityS0).bind fun eqActivityS0 =>
 if eqActivityS0=true then
 some Bool.true
 else
 some Bool.false
 else
 some Bool.false
 else
 some Bool.false
 else
 some Bool.false
def ZwC:Ctr:=⟨[.dat (YG),.dat (.sl (ZE)),.dat Iq],[.dat (.bool)],fun a K=>splitK a fun aB0 a=>splitK a fun aList0 a=>splitK a fun aBudget0 a=>XT (ZvT aB0 aList0 aBudget0) fun r=>K (r,()) ()⟩
def ZwH (b0:Zg) (list0:List Zk):Option (ZjC×Int) :=
 (Zwi b0 list0).bind fun l30Code0 =>
 if l30Code0=0 then
 (Zwx b0 list0).bind fun l30Total0 =>
 some (l30Total0,0)
 else
 some ((0,0,0,()),l30Code0)
def ZCF:Ctr:=⟨[.dat (YG),.dat (.sl (ZE))],[.dat (Zsc),.dat Iq],fun a K=>splitK a fun b0 a=>splitK a fun list0 a=>XT (ZwH b0 list0) fun r=>K (r.1,r.2,()) ()⟩
def ZvU (aB0:Zg) (aList0:List Zk):Option Bool :=
 (Zce aB0 1048576).bind fun szBlock0 =>
 if szBlock0<0 then
 some Bool.true
 else
 (Jh aList0 szBlock0).bind fun szActivityS0 =>
 if szActivityS0<0 then
 some Bool.true
 else
 (Zci aB0).bind fun toBlock0 =>
 (Jj aList0).bind fun toActivityS0 =>
 (ZwH toBlock0 toActivityS0).bind fun TotalPower0 =>
 (Zv7 toBlock0 toActivityS0).bind fun TotalPower1 =>
 (Zwr TotalPower1.fst TotalPower0.fst).bind fun eqPower0 =>
 if eqPower0=true then
 if TotalPower1.snd=TotalPower0.snd then
 (Zca toBlock0 toBlock0).bind fun eqBlock0 =>
 if eqBlock0=true then
 (Jf toActivityS0 toActivityS0).bind fun eqActivityS0 =>
 if eqActivityS0=true then
 some Bool.true
 else
 some Bool.false
 else
 some Bool.false
 else
 some Bool.false
 else
 some Bool.false
def ZwD:Ctr:=⟨[.dat (YG),.dat (.sl (ZE))],[.dat (.bool)],fun a K=>splitK a fun aB0 a=>splitK a fun aList0 a=>XT (ZvU aB0 aList0) fun r=>K (r,()) ()⟩
end
end Go.Proofs.YtjfbeebdhmebpaaGreatDoor
