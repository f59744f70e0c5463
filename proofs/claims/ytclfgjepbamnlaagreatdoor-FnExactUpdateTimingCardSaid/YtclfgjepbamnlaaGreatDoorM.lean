/-
 The models of the functions and their contracts. Printed by program.
-/
import Derived.Test.YtclfgjepbamnlaaGreatDoorSxTab
import Derived.Test.YtclfgjepbamnlaaGreatDoorSxS0
import Derived.Test.YtclfgjepbamnlaaGreatDoorSxLib
namespace Go.Proofs.YtclfgjepbamnlaaGreatDoor
open Go Go.Sx
set_option maxRecDepth 100000
set_option maxHeartbeats 6400000
set_option linter.unusedVariables false
set_option linter.unusedSimpArgs false
noncomputable section
abbrev Iq:Ty:=.int .i64
abbrev Wq:=IntKind.wrap IntKind.i64
abbrev Sq:=Za Tryz.prog
theorem Bq {α β:Type} (x:α) (f:α→Option β):(some x).bind f=f x:=rfl
def ZbW (a0:Yn) (left0:Int):Option Int :=
 if Wq (left0-(↑(List.length (Yn.Name a0)):Int))<0 then
 some (-1)
 else
 some (Wq (left0-(↑(List.length (Yn.Name a0)):Int)))
def c0:Ctr:=D2 (Zdx) Iq Iq ZbW
def ZkL (a0:List Yn) (left1:Int) (i0:Int):Option ((Int×Int×Unit) ⊕ Int) :=
 if i0<(↑a0.length:Int) then
 (atI a0 i0).bind fun x0 =>
 (ZbW x0 left1).bind fun szPin0 =>
 if szPin0<0 then
 some (.inr (-1))
 else
 some (.inl (szPin0,Wq (i0+1),()))
 else
 some (.inr left1)
def Zc0 (a0:List Yn) (left0:Int):Option Int :=
 if Wq (left0-(↑a0.length:Int))<0 then
 some (-1)
 else
 Zm (fun v=>ZkL a0 v.1 v.2.1) (Wq (left0-(↑a0.length:Int)),(0:Int),())
def c1:Ctr:=D2 (.sl (Zdx)) Iq Iq Zc0
def YX (a0:List Int) (left0:Int):Option Int :=
 if Wq (left0-(↑a0.length:Int))<0 then
 some (-1)
 else
 some (Wq (left0-(↑a0.length:Int)))
def c2:Ctr:=D2 (.sl Iq) Iq Iq YX
def V9 (a0:Zo) (left0:Int):Option Int :=
 (YX (Zo.Zdy a0) left0).bind fun szInt64S0 =>
 if szInt64S0<0 then
 some (-1)
 else
 (YX (Zo.Loads a0) szInt64S0).bind fun szInt64S1 =>
 if szInt64S1<0 then
 some (-1)
 else
 (YX (Zo.Values a0) szInt64S1).bind fun szInt64S2 =>
 if szInt64S2<0 then
 some (-1)
 else
 some szInt64S2
def c3:Ctr:=D2 (YE) Iq Iq V9
def Zi0 (a0:List Zo) (left1:Int) (i0:Int):Option ((Int×Int×Unit) ⊕ Int) :=
 if i0<(↑a0.length:Int) then
 (atI a0 i0).bind fun x0 =>
 (V9 x0 left1).bind fun szTable0 =>
 if szTable0<0 then
 some (.inr (-1))
 else
 some (.inl (szTable0,Wq (i0+1),()))
 else
 some (.inr left1)
def Jj (a0:List Zo) (left0:Int):Option Int :=
 if Wq (left0-(↑a0.length:Int))<0 then
 some (-1)
 else
 Zm (fun v=>Zi0 a0 v.1 v.2.1) (Wq (left0-(↑a0.length:Int)),(0:Int),())
def c4:Ctr:=D2 (.sl (YE)) Iq Iq Jj
def ZbS (a0:Zw) (left0:Int):Option Int :=
 (Jj (Zw.Delay a0) left0).bind fun szTableS0 =>
 if szTableS0<0 then
 some (-1)
 else
 (Jj (Zw.X7 a0) szTableS0).bind fun szTableS1 =>
 if szTableS1<0 then
 some (-1)
 else
 some szTableS1
def c5:Ctr:=D2 (ZdP) Iq Iq ZbS
def ZkI (a0:List Zw) (left1:Int) (i0:Int):Option ((Int×Int×Unit) ⊕ Int) :=
 if i0<(↑a0.length:Int) then
 (atI a0 i0).bind fun x0 =>
 (ZbS x0 left1).bind fun szArc0 =>
 if szArc0<0 then
 some (.inr (-1))
 else
 some (.inl (szArc0,Wq (i0+1),()))
 else
 some (.inr left1)
def ZcZ (a0:List Zw) (left0:Int):Option Int :=
 if Wq (left0-(↑a0.length:Int))<0 then
 some (-1)
 else
 Zm (fun v=>ZkI a0 v.1 v.2.1) (Wq (left0-(↑a0.length:Int)),(0:Int),())
def c6:Ctr:=D2 (.sl (ZdP)) Iq Iq ZcZ
def Zag (a0:Zi) (left0:Int):Option Int :=
 if Wq (left0-(↑(List.length (Zi.Name a0)):Int))<0 then
 some (-1)
 else
 (Zc0 (Zi.Yy a0) (Wq (left0-(↑(List.length (Zi.Name a0)):Int)))).bind fun szPinS0 =>
 if szPinS0<0 then
 some (-1)
 else
 (ZcZ (Zi.VI a0) szPinS0).bind fun szArcS0 =>
 if szArcS0<0 then
 some (-1)
 else
 (YX (Zi.Truth a0) szArcS0).bind fun szInt64S0 =>
 if szInt64S0<0 then
 some (-1)
 else
 some szInt64S0
def c7:Ctr:=D2 (Qz) Iq Iq Zag
def ZjO (a0:List Zi) (left1:Int) (i0:Int):Option ((Int×Int×Unit) ⊕ Int) :=
 if i0<(↑a0.length:Int) then
 (atI a0 i0).bind fun x0 =>
 (Zag x0 left1).bind fun szCell0 =>
 if szCell0<0 then
 some (.inr (-1))
 else
 some (.inl (szCell0,Wq (i0+1),()))
 else
 some (.inr left1)
def ZbV (a0:List Zi) (left0:Int):Option Int :=
 if Wq (left0-(↑a0.length:Int))<0 then
 some (-1)
 else
 Zm (fun v=>ZjO a0 v.1 v.2.1) (Wq (left0-(↑a0.length:Int)),(0:Int),())
def c8:Ctr:=D2 (.sl (Qz)) Iq Iq ZbV
def JD (a0:Zt) (left0:Int):Option Int :=
 (ZbV (Zt.Cells a0) left0).bind fun szCellS0 =>
 if szCellS0<0 then
 some (-1)
 else
 some szCellS0
def c9:Ctr:=D2 (Yz) Iq Iq JD
def Qp (a0:Zg) (left0:Int):Option Int :=
 if Wq (left0-(↑(List.length (Zg.Name a0)):Int))<0 then
 some (-1)
 else
 (YX (Zg.Xf a0) (Wq (left0-(↑(List.length (Zg.Name a0)):Int)))).bind fun szInt64S0 =>
 if szInt64S0<0 then
 some (-1)
 else
 some szInt64S0
def c10:Ctr:=D2 (ZT) Iq Iq Qp
def ZgZ (a0:List Zg) (left1:Int) (i0:Int):Option ((Int×Int×Unit) ⊕ Int) :=
 if i0<(↑a0.length:Int) then
 (atI a0 i0).bind fun x0 =>
 (Qp x0 left1).bind fun szInstance0 =>
 if szInstance0<0 then
 some (.inr (-1))
 else
 some (.inl (szInstance0,Wq (i0+1),()))
 else
 some (.inr left1)
def Vh (a0:List Zg) (left0:Int):Option Int :=
 if Wq (left0-(↑a0.length:Int))<0 then
 some (-1)
 else
 Zm (fun v=>ZgZ a0 v.1 v.2.1) (Wq (left0-(↑a0.length:Int)),(0:Int),())
def c11:Ctr:=D2 (.sl (ZT)) Iq Iq Vh
def QD (a0:List (List UInt8)) (left1:Int) (i0:Int):Option ((Int×Int×Unit) ⊕ Int) :=
 if i0<(↑a0.length:Int) then
 (atI a0 i0).bind fun x0 =>
 if Wq (left1-(↑x0.length:Int))<0 then
 some (.inr (-1))
 else
 some (.inl (Wq (left1-(↑x0.length:Int)),Wq (i0+1),()))
 else
 some (.inr left1)
def JF (a0:List (List UInt8)) (left0:Int):Option Int :=
 if Wq (left0-(↑a0.length:Int))<0 then
 some (-1)
 else
 Zm (fun v=>QD a0 v.1 v.2.1) (Wq (left0-(↑a0.length:Int)),(0:Int),())
def c12:Ctr:=D2 (.sl (.str)) Iq Iq JF
def Zah (a0:ZP) (left0:Int):Option Int :=
 if Wq (left0-(↑(List.length (ZP.Name a0)):Int))<0 then
 some (-1)
 else
 some (Wq (left0-(↑(List.length (ZP.Name a0)):Int)))
def c13:Ctr:=D2 (V6) Iq Iq Zah
def ZjR (a0:List ZP) (left1:Int) (i0:Int):Option ((Int×Int×Unit) ⊕ Int) :=
 if i0<(↑a0.length:Int) then
 (atI a0 i0).bind fun x0 =>
 (Zah x0 left1).bind fun szPort0 =>
 if szPort0<0 then
 some (.inr (-1))
 else
 some (.inl (szPort0,Wq (i0+1),()))
 else
 some (.inr left1)
def ZbX (a0:List ZP) (left0:Int):Option Int :=
 if Wq (left0-(↑a0.length:Int))<0 then
 some (-1)
 else
 Zm (fun v=>ZjR a0 v.1 v.2.1) (Wq (left0-(↑a0.length:Int)),(0:Int),())
def c14:Ctr:=D2 (.sl (V6)) Iq Iq ZbX
def ZaE (a0:Zc) (left0:Int):Option Int :=
 (Vh (Zc.Instances a0) left0).bind fun szInstanceS0 =>
 if szInstanceS0<0 then
 some (-1)
 else
 (JF (Zc.Xf a0) szInstanceS0).bind fun szStringS0 =>
 if szStringS0<0 then
 some (-1)
 else
 (ZbX (Zc.Xi a0) szStringS0).bind fun szPortS0 =>
 if szPortS0<0 then
 some (-1)
 else
 some szPortS0
def c15:Ctr:=D2 (Yu) Iq Iq ZaE
def Zaj (a0:Zp) (left0:Int):Option Int :=
 (YX (Zp.Parent a0) left0).bind fun szInt64S0 =>
 if szInt64S0<0 then
 some (-1)
 else
 (YX (Zp.Res a0) szInt64S0).bind fun szInt64S1 =>
 if szInt64S1<0 then
 some (-1)
 else
 (YX (Zp.Cap a0) szInt64S1).bind fun szInt64S2 =>
 if szInt64S2<0 then
 some (-1)
 else
 (YX (Zp.ZdO a0) szInt64S2).bind fun szInt64S3 =>
 if szInt64S3<0 then
 some (-1)
 else
 some szInt64S3
def c16:Ctr:=D2 (VG) Iq Iq Zaj
def ZjU (a0:List Zp) (left1:Int) (i0:Int):Option ((Int×Int×Unit) ⊕ Int) :=
 if i0<(↑a0.length:Int) then
 (atI a0 i0).bind fun x0 =>
 (Zaj x0 left1).bind fun szWire0 =>
 if szWire0<0 then
 some (.inr (-1))
 else
 some (.inl (szWire0,Wq (i0+1),()))
 else
 some (.inr left1)
def ZbY (a0:List Zp) (left0:Int):Option Int :=
 if Wq (left0-(↑a0.length:Int))<0 then
 some (-1)
 else
 Zm (fun v=>ZjU a0 v.1 v.2.1) (Wq (left0-(↑a0.length:Int)),(0:Int),())
def c17:Ctr:=D2 (.sl (VG)) Iq Iq ZbY
def ZbT (a0:Zd) (left0:Int):Option Int :=
 (JD (Zd.Library a0) left0).bind fun szLibrary0 =>
 if szLibrary0<0 then
 some (-1)
 else
 (ZaE (Zd.Design a0) szLibrary0).bind fun szDesign0 =>
 if szDesign0<0 then
 some (-1)
 else
 (ZbY (Zd.YG a0) szDesign0).bind fun szWireS0 =>
 if szWireS0<0 then
 some (-1)
 else
 some szWireS0
def c18:Ctr:=D2 (Yt) Iq Iq ZbT
def Zeg (a0:Zv) (left0:Int):Option Int :=
 if Wq (left0-(↑(List.length (Zv.Name a0)):Int))<0 then
 some (-1)
 else
 some (Wq (left0-(↑(List.length (Zv.Name a0)):Int)))
def c19:Ctr:=D2 (X3) Iq Iq Zeg
def JE (a0:List Zj) (left0:Int):Option Int :=
 if Wq (left0-(↑a0.length:Int))<0 then
 some (-1)
 else
 some (Wq (left0-(↑a0.length:Int)))
def c20:Ctr:=D2 (.sl (Z6)) Iq Iq JE
def ZbU (a0:List Bool) (left0:Int):Option Int :=
 if Wq (left0-(↑a0.length:Int))<0 then
 some (-1)
 else
 some (Wq (left0-(↑a0.length:Int)))
def c21:Ctr:=D2 (.sl (.bool)) Iq Iq ZbU
def Zai (a0:List Zu) (left0:Int):Option Int :=
 if Wq (left0-(↑a0.length:Int))<0 then
 some (-1)
 else
 some (Wq (left0-(↑a0.length:Int)))
def c22:Ctr:=D2 (.sl (XJ)) Iq Iq Zai
def ZaF (a0:Zk) (left0:Int):Option Int :=
 (ZbU (Zk.Reached a0) left0).bind fun szBoolS0 =>
 if szBoolS0<0 then
 some (-1)
 else
 (Zai (Zk.ZB a0) szBoolS0).bind fun szSpanS0 =>
 if szSpanS0<0 then
 some (-1)
 else
 (Zai (Zk.X7 a0) szSpanS0).bind fun szSpanS1 =>
 if szSpanS1<0 then
 some (-1)
 else
 some szSpanS1
def c23:Ctr:=D2 (Xd) Iq Iq ZaF
def ZfP (a0:Yn):Option Yn :=
 some a0
def c24:Ctr:=D1 (Zdx) (Zdx) ZfP
def ZkR (a0:List Yn) (i0:Int) (l0:List (List UInt8×Int×Int×Bool×Unit)):Option ((Int×(List (List UInt8×Int×Int×Bool×Unit))×Unit) ⊕ List Yn) :=
 if i0<(↑a0.length:Int) then
 (atI a0 i0).bind fun x0 =>
 (ZfP x0).bind fun toPin0 =>
 (atI l0 i0).bind fun x1 =>
 some (.inl (Wq (i0+1),List.set l0 (Int.toNat i0) toPin0,()))
 else
 some (.inr l0)
def Zgl (a0:List Yn):Option (List Yn) :=
 Zy ((0:Int)≤(↑a0.length:Int)) <|
 Zy ((↑a0.length:Int)≤(↑a0.length:Int)) <|
 Zy ((↑a0.length:Int)≤(4611686018427387904:Int)) <|
 Zy ((↑(40:Nat):Int)*(↑a0.length:Int)≤(281474976710656:Int)) <|
 Zm (fun v=>ZkR a0 v.1 v.2.1) ((0:Int),List.replicate (Int.toNat (↑a0.length:Int)) (([]:List UInt8),(0:Int),(0:Int),Bool.false,()),())
def c25:Ctr:=⟨[.dat (.sl (Zdx))],[.own (.ol 340 (.flat (Zdx)))],fun a K=>splitK a fun a0 a=>Yv (Zgl a0) fun r=>K (r,()) ()⟩
def Zi2 (a0:List Int) (i0:Int) (l0:List Int):Option ((Int×(List Int)×Unit) ⊕ List Int) :=
 if i0<(↑a0.length:Int) then
 (atI a0 i0).bind fun x0 =>
 (atI l0 i0).bind fun x1 =>
 some (.inl (Wq (i0+1),List.set l0 (Int.toNat i0) x0,()))
 else
 some (.inr l0)
def Y8 (a0:List Int):Option (List Int) :=
 Zy ((0:Int)≤(↑a0.length:Int)) <|
 Zy ((↑a0.length:Int)≤(↑a0.length:Int)) <|
 Zy ((↑a0.length:Int)≤(4611686018427387904:Int)) <|
 Zy ((↑(8:Nat):Int)*(↑a0.length:Int)≤(281474976710656:Int)) <|
 Zm (fun v=>Zi2 a0 v.1 v.2.1) ((0:Int),List.replicate (Int.toNat (↑a0.length:Int)) (0:Int),())
def c26:Ctr:=⟨[.dat (.sl Iq)],[.own (.ol 2 (.flat Iq))],fun a K=>splitK a fun a0 a=>Yv (Y8 a0) fun r=>K (r,()) ()⟩
def ZdF (a0:Zo):Option Zo :=
 (Y8 (Zo.Zdy a0)).bind fun toInt64S0 =>
 (Y8 (Zo.Loads a0)).bind fun toInt64S1 =>
 (Y8 (Zo.Values a0)).bind fun toInt64S2 =>
 some (toInt64S0,toInt64S1,toInt64S2,())
def c27:Ctr:=⟨[.dat (YE)],[.own (ZgF)],fun a K=>splitK a fun a0 a=>Yv (ZdF a0) fun r=>K (r,()) ()⟩
def Zi3 (a0:List Zo) (i0:Int) (l0:List Zo):Option ((Int×(List Zo)×Unit) ⊕ List Zo) :=
 if i0<(↑a0.length:Int) then
 (atI a0 i0).bind fun x0 =>
 (ZdF x0).bind fun toTable0 =>
 (atI l0 i0).bind fun x1 =>
 some (.inl (Wq (i0+1),List.set l0 (Int.toNat i0) toTable0,()))
 else
 some (.inr l0)
def Zcu (a0:List Zo):Option (List Zo) :=
 Zy ((0:Int)≤(↑a0.length:Int)) <|
 Zy ((↑a0.length:Int)≤(↑a0.length:Int)) <|
 Zy ((↑a0.length:Int)≤(4611686018427387904:Int)) <|
 Zy ((↑(72:Nat):Int)*(↑a0.length:Int)≤(281474976710656:Int)) <|
 Zm (fun v=>Zi3 a0 v.1 v.2.1) ((0:Int),List.replicate (Int.toNat (↑a0.length:Int)) (([]:List Int),([]:List Int),([]:List Int),()),())
def c28:Ctr:=⟨[.dat (.sl (YE))],[.own (.ol 317 (ZgF))],fun a K=>splitK a fun a0 a=>Yv (Zcu a0) fun r=>K (r,()) ()⟩
def ZfO (a0:Zw):Option Zw :=
 (Zcu (Zw.Delay a0)).bind fun toTableS0 =>
 (Zcu (Zw.X7 a0)).bind fun toTableS1 =>
 some (Zw.Kind a0,Zw.From a0,Zw.To a0,Zw.Vi a0,toTableS0,toTableS1,())
def c29:Ctr:=⟨[.dat (ZdP)],[.own (Zuk)],fun a K=>splitK a fun a0 a=>Yv (ZfO a0) fun r=>K (r,()) ()⟩
def ZkP (a0:List Zw) (i0:Int) (l0:List Zw):Option ((Int×(List Zw)×Unit) ⊕ List Zw) :=
 if i0<(↑a0.length:Int) then
 (atI a0 i0).bind fun x0 =>
 (ZfO x0).bind fun toArc0 =>
 (atI l0 i0).bind fun x1 =>
 some (.inl (Wq (i0+1),List.set l0 (Int.toNat i0) toArc0,()))
 else
 some (.inr l0)
def Zgk (a0:List Zw):Option (List Zw) :=
 Zy ((0:Int)≤(↑a0.length:Int)) <|
 Zy ((↑a0.length:Int)≤(↑a0.length:Int)) <|
 Zy ((↑a0.length:Int)≤(4611686018427387904:Int)) <|
 Zy ((↑(80:Nat):Int)*(↑a0.length:Int)≤(281474976710656:Int)) <|
 Zm (fun v=>ZkP a0 v.1 v.2.1) ((0:Int),List.replicate (Int.toNat (↑a0.length:Int)) ((0:Int),(0:Int),(0:Int),(0:Int),([]:List Zo),([]:List Zo),()),())
def c30:Ctr:=⟨[.dat (.sl (ZdP))],[.own (.ol 173 (Zuk))],fun a K=>splitK a fun a0 a=>Yv (Zgk a0) fun r=>K (r,()) ()⟩
def ZeF (a0:Zi):Option Zi :=
 (Zgl (Zi.Yy a0)).bind fun toPinS0 =>
 (Zgk (Zi.VI a0)).bind fun toArcS0 =>
 (Y8 (Zi.Truth a0)).bind fun toInt64S0 =>
 some (Zi.Name a0,Zi.Kind a0,toPinS0,toArcS0,toInt64S0,a0.snd.snd.snd.snd.snd)
def c31:Ctr:=⟨[.dat (Qz)],[.own (ZoA)],fun a K=>splitK a fun a0 a=>Yv (ZeF a0) fun r=>K (r,()) ()⟩
def ZjW (a0:List Zi) (i0:Int) (l0:List Zi):Option ((Int×(List Zi)×Unit) ⊕ List Zi) :=
 if i0<(↑a0.length:Int) then
 (atI a0 i0).bind fun x0 =>
 (ZeF x0).bind fun toCell0 =>
 (atI l0 i0).bind fun x1 =>
 some (.inl (Wq (i0+1),List.set l0 (Int.toNat i0) toCell0,()))
 else
 some (.inr l0)
def Zff (a0:List Zi):Option (List Zi) :=
 Zy ((0:Int)≤(↑a0.length:Int)) <|
 Zy ((↑a0.length:Int)≤(↑a0.length:Int)) <|
 Zy ((↑a0.length:Int)≤(4611686018427387904:Int)) <|
 Zy ((↑(112:Nat):Int)*(↑a0.length:Int)≤(281474976710656:Int)) <|
 Zm (fun v=>ZjW a0 v.1 v.2.1) ((0:Int),List.replicate (Int.toNat (↑a0.length:Int)) (([]:List UInt8),(0:Int),([]:List Yn),([]:List Zw),([]:List Int),(0:Int),(0:Int),()),())
def c32:Ctr:=⟨[.dat (.sl (Qz))],[.own (.ol 168 (ZoA))],fun a K=>splitK a fun a0 a=>Yv (Zff a0) fun r=>K (r,()) ()⟩
def Zdn (a0:Zt):Option Zt :=
 (Zff (Zt.Cells a0)).bind fun toCellS0 =>
 some (toCellS0,())
def c33:Ctr:=⟨[.dat (Yz)],[.own (ZoB)],fun a K=>splitK a fun a0 a=>Yv (Zdn a0) fun r=>K (r,()) ()⟩
def Zak (a0:Zg):Option Zg :=
 (Y8 (Zg.Xf a0)).bind fun toInt64S0 =>
 some (Zg.Name a0,Zg.Cell a0,toInt64S0,())
def c34:Ctr:=⟨[.dat (ZT)],[.own (Zb7)],fun a K=>splitK a fun a0 a=>Yv (Zak a0) fun r=>K (r,()) ()⟩
def Zg0 (a0:List Zg) (i0:Int) (l0:List Zg):Option ((Int×(List Zg)×Unit) ⊕ List Zg) :=
 if i0<(↑a0.length:Int) then
 (atI a0 i0).bind fun x0 =>
 (Zak x0).bind fun toInstance0 =>
 (atI l0 i0).bind fun x1 =>
 some (.inl (Wq (i0+1),List.set l0 (Int.toNat i0) toInstance0,()))
 else
 some (.inr l0)
def Zbp (a0:List Zg):Option (List Zg) :=
 Zy ((0:Int)≤(↑a0.length:Int)) <|
 Zy ((↑a0.length:Int)≤(↑a0.length:Int)) <|
 Zy ((↑a0.length:Int)≤(4611686018427387904:Int)) <|
 Zy ((↑(48:Nat):Int)*(↑a0.length:Int)≤(281474976710656:Int)) <|
 Zm (fun v=>Zg0 a0 v.1 v.2.1) ((0:Int),List.replicate (Int.toNat (↑a0.length:Int)) (([]:List UInt8),(0:Int),([]:List Int),()),())
def c35:Ctr:=⟨[.dat (.sl (ZT))],[.own (.ol 170 (Zb7))],fun a K=>splitK a fun a0 a=>Yv (Zbp a0) fun r=>K (r,()) ()⟩
def Zin (a0:List (List UInt8)) (i0:Int) (l0:List (List UInt8)):Option ((Int×(List (List UInt8))×Unit) ⊕ List (List UInt8)) :=
 if i0<(↑a0.length:Int) then
 (atI a0 i0).bind fun x0 =>
 (atI l0 i0).bind fun x1 =>
 some (.inl (Wq (i0+1),List.set l0 (Int.toNat i0) x0,()))
 else
 some (.inr l0)
def Zdp (a0:List (List UInt8)):Option (List (List UInt8)) :=
 Zy ((0:Int)≤(↑a0.length:Int)) <|
 Zy ((↑a0.length:Int)≤(↑a0.length:Int)) <|
 Zy ((↑a0.length:Int)≤(4611686018427387904:Int)) <|
 Zy ((↑(16:Nat):Int)*(↑a0.length:Int)≤(281474976710656:Int)) <|
 Zm (fun v=>Zin a0 v.1 v.2.1) ((0:Int),List.replicate (Int.toNat (↑a0.length:Int)) (([]:List UInt8)),())
def c36:Ctr:=⟨[.dat (.sl (.str))],[.own (.ol 9 (.flat (.str)))],fun a K=>splitK a fun a0 a=>Yv (Zdp a0) fun r=>K (r,()) ()⟩
def ZeG (a0:ZP):Option ZP :=
 some a0
def c37:Ctr:=D1 (V6) (V6) ZeG
def ZjY (a0:List ZP) (i0:Int) (l0:List (List UInt8×Int×Int×Unit)):Option ((Int×(List (List UInt8×Int×Int×Unit))×Unit) ⊕ List ZP) :=
 if i0<(↑a0.length:Int) then
 (atI a0 i0).bind fun x0 =>
 (ZeG x0).bind fun toPort0 =>
 (atI l0 i0).bind fun x1 =>
 some (.inl (Wq (i0+1),List.set l0 (Int.toNat i0) toPort0,()))
 else
 some (.inr l0)
def Zfg (a0:List ZP):Option (List ZP) :=
 Zy ((0:Int)≤(↑a0.length:Int)) <|
 Zy ((↑a0.length:Int)≤(↑a0.length:Int)) <|
 Zy ((↑a0.length:Int)≤(4611686018427387904:Int)) <|
 Zy ((↑(32:Nat):Int)*(↑a0.length:Int)≤(281474976710656:Int)) <|
 Zm (fun v=>ZjY a0 v.1 v.2.1) ((0:Int),List.replicate (Int.toNat (↑a0.length:Int)) (([]:List UInt8),(0:Int),(0:Int),()),())
def c38:Ctr:=⟨[.dat (.sl (V6))],[.own (.ol 266 (.flat (V6)))],fun a K=>splitK a fun a0 a=>Yv (Zfg a0) fun r=>K (r,()) ()⟩
def Zei (a0:Zc):Option Zc :=
 (Zbp (Zc.Instances a0)).bind fun toInstanceS0 =>
 (Zdp (Zc.Xf a0)).bind fun toStringS0 =>
 (Zfg (Zc.Xi a0)).bind fun toPortS0 =>
 some (toInstanceS0,toStringS0,toPortS0,())
def c39:Ctr:=⟨[.dat (Yu)],[.own (Zqs)],fun a K=>splitK a fun a0 a=>Yv (Zei a0) fun r=>K (r,()) ()⟩
def ZeH (a0:Zp):Option Zp :=
 (Y8 (Zp.Parent a0)).bind fun toInt64S0 =>
 (Y8 (Zp.Res a0)).bind fun toInt64S1 =>
 (Y8 (Zp.Cap a0)).bind fun toInt64S2 =>
 (Y8 (Zp.ZdO a0)).bind fun toInt64S3 =>
 some (toInt64S0,toInt64S1,toInt64S2,toInt64S3,())
def c40:Ctr:=⟨[.dat (VG)],[.own (Znq)],fun a K=>splitK a fun a0 a=>Yv (ZeH a0) fun r=>K (r,()) ()⟩
def Zj0 (a0:List Zp) (i0:Int) (l0:List Zp):Option ((Int×(List Zp)×Unit) ⊕ List Zp) :=
 if i0<(↑a0.length:Int) then
 (atI a0 i0).bind fun x0 =>
 (ZeH x0).bind fun toWire0 =>
 (atI l0 i0).bind fun x1 =>
 some (.inl (Wq (i0+1),List.set l0 (Int.toNat i0) toWire0,()))
 else
 some (.inr l0)
def Zfh (a0:List Zp):Option (List Zp) :=
 Zy ((0:Int)≤(↑a0.length:Int)) <|
 Zy ((↑a0.length:Int)≤(↑a0.length:Int)) <|
 Zy ((↑a0.length:Int)≤(4611686018427387904:Int)) <|
 Zy ((↑(96:Nat):Int)*(↑a0.length:Int)≤(281474976710656:Int)) <|
 Zm (fun v=>Zj0 a0 v.1 v.2.1) ((0:Int),List.replicate (Int.toNat (↑a0.length:Int)) (([]:List Int),([]:List Int),([]:List Int),([]:List Int),()),())
def c41:Ctr:=⟨[.dat (.sl (VG))],[.own (.ol 85 (Znq))],fun a K=>splitK a fun a0 a=>Yv (Zfh a0) fun r=>K (r,()) ()⟩
def Zfd (a0:Zd):Option Zd :=
 (Zdn (Zd.Library a0)).bind fun toLibrary0 =>
 (Zei (Zd.Design a0)).bind fun toDesign0 =>
 (Zfh (Zd.YG a0)).bind fun toWireS0 =>
 some (toLibrary0,toDesign0,toWireS0,())
def c42:Ctr:=⟨[.dat (Yt)],[.own (Zs4)],fun a K=>splitK a fun a0 a=>Yv (Zfd a0) fun r=>K (r,()) ()⟩
def Zeh (a0:Zv):Option Zv :=
 some a0
def c43:Ctr:=D1 (X3) (X3) Zeh
def ZbA (a0:Zu):Option Zu :=
 some a0
def c44:Ctr:=D1 (XJ) (XJ) ZbA
def Zct (a0:Zj):Option Zj :=
 (ZbA (Zj.ZB a0)).bind fun toSpan0 =>
 (ZbA (Zj.X7 a0)).bind fun toSpan1 =>
 some (Zj.Node a0,toSpan0,toSpan1,())
def c45:Ctr:=D1 (Z6) (Z6) Zct
def Zim (a0:List Zj) (i0:Int) (l0:List (Int×Zu×Zu×Unit)):Option ((Int×(List (Int×Zu×Zu×Unit))×Unit) ⊕ List Zj) :=
 if i0<(↑a0.length:Int) then
 (atI a0 i0).bind fun x0 =>
 (Zct x0).bind fun toSource0 =>
 (atI l0 i0).bind fun x1 =>
 some (.inl (Wq (i0+1),List.set l0 (Int.toNat i0) toSource0,()))
 else
 some (.inr l0)
def Zdo (a0:List Zj):Option (List Zj) :=
 Zy ((0:Int)≤(↑a0.length:Int)) <|
 Zy ((↑a0.length:Int)≤(↑a0.length:Int)) <|
 Zy ((↑a0.length:Int)≤(4611686018427387904:Int)) <|
 Zy ((↑(40:Nat):Int)*(↑a0.length:Int)≤(281474976710656:Int)) <|
 Zm (fun v=>Zim a0 v.1 v.2.1) ((0:Int),List.replicate (Int.toNat (↑a0.length:Int)) ((0:Int),((0:Int),(0:Int),()),((0:Int),(0:Int),()),()),())
def c46:Ctr:=⟨[.dat (.sl (Z6))],[.own (.ol 105 (.flat (Z6)))],fun a K=>splitK a fun a0 a=>Yv (Zdo a0) fun r=>K (r,()) ()⟩
def ZjV (a0:List Bool) (i0:Int) (l0:List Bool):Option ((Int×(List Bool)×Unit) ⊕ List Bool) :=
 if i0<(↑a0.length:Int) then
 (atI a0 i0).bind fun x0 =>
 (atI l0 i0).bind fun x1 =>
 some (.inl (Wq (i0+1),List.set l0 (Int.toNat i0) x0,()))
 else
 some (.inr l0)
def Zfe (a0:List Bool):Option (List Bool) :=
 Zy ((0:Int)≤(↑a0.length:Int)) <|
 Zy ((↑a0.length:Int)≤(↑a0.length:Int)) <|
 Zy ((↑a0.length:Int)≤(4611686018427387904:Int)) <|
 Zy ((↑(1:Nat):Int)*(↑a0.length:Int)≤(281474976710656:Int)) <|
 Zm (fun v=>ZjV a0 v.1 v.2.1) ((0:Int),List.replicate (Int.toNat (↑a0.length:Int)) Bool.false,())
def c47:Ctr:=⟨[.dat (.sl (.bool))],[.own (.ol 4 (.flat (.bool)))],fun a K=>splitK a fun a0 a=>Yv (Zfe a0) fun r=>K (r,()) ()⟩
def ZjZ (a0:List Zu) (i0:Int) (l0:List (Int×Int×Unit)):Option ((Int×(List (Int×Int×Unit))×Unit) ⊕ List Zu) :=
 if i0<(↑a0.length:Int) then
 (atI a0 i0).bind fun x0 =>
 (ZbA x0).bind fun toSpan0 =>
 (atI l0 i0).bind fun x1 =>
 some (.inl (Wq (i0+1),List.set l0 (Int.toNat i0) toSpan0,()))
 else
 some (.inr l0)
def ZdE (a0:List Zu):Option (List Zu) :=
 Zy ((0:Int)≤(↑a0.length:Int)) <|
 Zy ((↑a0.length:Int)≤(↑a0.length:Int)) <|
 Zy ((↑a0.length:Int)≤(4611686018427387904:Int)) <|
 Zy ((↑(16:Nat):Int)*(↑a0.length:Int)≤(281474976710656:Int)) <|
 Zm (fun v=>ZjZ a0 v.1 v.2.1) ((0:Int),List.replicate (Int.toNat (↑a0.length:Int)) ((0:Int),(0:Int),()),())
def c48:Ctr:=⟨[.dat (.sl (XJ))],[.own (.ol 103 (.flat (XJ)))],fun a K=>splitK a fun a0 a=>Yv (ZdE a0) fun r=>K (r,()) ()⟩
def Zej (a0:Zk):Option Zk :=
 (Zfe (Zk.Reached a0)).bind fun toBoolS0 =>
 (ZdE (Zk.ZB a0)).bind fun toSpanS0 =>
 (ZdE (Zk.X7 a0)).bind fun toSpanS1 =>
 some (toBoolS0,toSpanS0,toSpanS1,())
def c49:Ctr:=⟨[.dat (Xd)],[.own (ZoC)],fun a K=>splitK a fun a0 a=>Yv (Zej a0) fun r=>K (r,()) ()⟩
def ZcG (s0:List UInt8) (i0:Int):Option ((Int×Unit) ⊕ Bool) :=
 if i0<(↑s0.length:Int) then
 (atI s0 i0).bind fun x0 =>
 if 97≤(↑(UInt8.toNat x0):Int) then
 if 48≤(↑(UInt8.toNat x0):Int) then
 if (↑(UInt8.toNat x0):Int)≤122 then
 some (.inl (Wq (i0+1),()))
 else
 if (↑(UInt8.toNat x0):Int)≤57 then
 if 0<i0 then
 some (.inl (Wq (i0+1),()))
 else
 some (.inr Bool.false)
 else
 some (.inr Bool.false)
 else
 if (↑(UInt8.toNat x0):Int)≤122 then
 some (.inl (Wq (i0+1),()))
 else
 some (.inr Bool.false)
 else
 if 48≤(↑(UInt8.toNat x0):Int) then
 if (↑(UInt8.toNat x0):Int)≤57 then
 if 0<i0 then
 some (.inl (Wq (i0+1),()))
 else
 some (.inr Bool.false)
 else
 some (.inr Bool.false)
 else
 some (.inr Bool.false)
 else
 if 1≤(↑s0.length:Int) then
 some (.inr (Decidable.decide ((↑s0.length:Int)≤8)))
 else
 some (.inr Bool.false)
def Zaq (s0:List UInt8):Option Bool :=
 Zm (fun v=>ZcG s0 v.1) ((0:Int),())
def c50:Ctr:=D1 (.str) (.bool) Zaq
def Yo (n0:Int) (low0:Int) (high0:Int):Option Bool :=
 if low0≤n0 then
 some (Decidable.decide (n0≤high0))
 else
 some Bool.false
def c51:Ctr:=D3 Iq Iq Iq (.bool) Yo
def Qu (a0:Zi) (v0:Int) (v1:Int) (x0:Yn) (v2:Int):Option ((Int×Unit) ⊕ ((Int×Int×Unit) ⊕ (Int×Bool))) :=
 if v2<v1 then
 (atI (Zi.Yy a0) v2).bind fun x1 =>
 if Yn.Name x1=Yn.Name x0 then
 some (.inr (.inr (0,Bool.false)))
 else
 some (.inl (Wq (v2+1),()))
 else
 (Zaq (Yn.Name x0)).bind fun l03Name0 =>
 if l03Name0=true then
 (Yo (Yn.Cap x0) 0 500).bind fun l01In0 =>
 if l01In0=true then
 if v1=Wq ((↑(List.length (Zi.Yy a0)):Int)-1) then
 if Yn.Dir x0=2 then
 if Yn.Cap x0=0 then
 if (Yn.Clock x0)=true then
 some (.inr (.inr (0,Bool.false)))
 else
 if v1<Wq ((↑(List.length (Zi.Yy a0)):Int)-1) then
 if Yn.Dir x0=1 then
 if (Yn.Clock x0)=true then
 some (.inr (.inl (Wq (v0+1),Wq (v1+1),())))
 else
 some (.inr (.inl (v0,Wq (v1+1),())))
 else
 some (.inr (.inr (0,Bool.false)))
 else
 if (Yn.Clock x0)=true then
 some (.inr (.inl (Wq (v0+1),Wq (v1+1),())))
 else
 some (.inr (.inl (v0,Wq (v1+1),())))
 else
 some (.inr (.inr (0,Bool.false)))
 else
 some (.inr (.inr (0,Bool.false)))
 else
 if v1<Wq ((↑(List.length (Zi.Yy a0)):Int)-1) then
 if Yn.Dir x0=1 then
 if (Yn.Clock x0)=true then
 some (.inr (.inl (Wq (v0+1),Wq (v1+1),())))
 else
 some (.inr (.inl (v0,Wq (v1+1),())))
 else
 some (.inr (.inr (0,Bool.false)))
 else
 if (Yn.Clock x0)=true then
 some (.inr (.inl (Wq (v0+1),Wq (v1+1),())))
 else
 some (.inr (.inl (v0,Wq (v1+1),())))
 else
 some (.inr (.inr (0,Bool.false)))
 else
 some (.inr (.inr (0,Bool.false)))
def Vy (a0:Zi) (v0:Int) (v1:Int):Option ((Int×Int×Unit) ⊕ (Int×Bool)) :=
 if v1<(↑(List.length (Zi.Yy a0)):Int) then
 (atI (Zi.Yy a0) v1).bind fun x0 =>
 Zm (fun v=>Qu a0 v0 v1 x0 v.1) ((0:Int),())
 else
 some (.inr (v0,Bool.true))
def Zfo (a0:Zi):Option (Int×Bool) :=
 if (↑(List.length (Zi.Yy a0)):Int)<2 then
 some (0,Bool.false)
 else
 if 5<(↑(List.length (Zi.Yy a0)):Int) then
 some (0,Bool.false)
 else
 Zm (fun v=>Vy a0 v.1 v.2.1) ((0:Int),(0:Int),())
def c52:Ctr:=⟨[.dat (Qz)],[.dat Iq,.dat (.bool)],fun a K=>splitK a fun a0 a=>Yv (Zfo a0) fun r=>K (r.1,r.2,()) ()⟩
def ZcE (list0:List Int) (i0:Int):Option ((Int×Unit) ⊕ Bool) :=
 if i0<(↑list0.length:Int) then
 (atI list0 i0).bind fun x0 =>
 (Yo x0 0 100000).bind fun l01In0 =>
 if l01In0=true then
 if 0<i0 then
 (atI list0 (Wq (i0-1))).bind fun x1 =>
 if x0≤x1 then
 some (.inr Bool.false)
 else
 some (.inl (Wq (i0+1),()))
 else
 some (.inl (Wq (i0+1),()))
 else
 some (.inr Bool.false)
 else
 if 1≤(↑list0.length:Int) then
 some (.inr (Decidable.decide ((↑list0.length:Int)≤4)))
 else
 some (.inr Bool.false)
def ZdI (list0:List Int):Option Bool :=
 Zm (fun v=>ZcE list0 v.1) ((0:Int),())
def c53:Ctr:=D1 (.sl Iq) (.bool) ZdI
def ZcB (t0:Zo) (i0:Int):Option ((Int×Unit) ⊕ Bool) :=
 if i0<(↑(List.length (Zo.Values t0)):Int) then
 (atI (Zo.Values t0) i0).bind fun x0 =>
 (Yo x0 (-1000000) 1000000).bind fun l01In0 =>
 if l01In0=true then
 some (.inl (Wq (i0+1),()))
 else
 some (.inr Bool.false)
 else
 some (.inr Bool.true)
def Zfn (t0:Zo):Option Bool :=
 (ZdI (Zo.Zdy t0)).bind fun l02Axis0 =>
 if l02Axis0=true then
 (ZdI (Zo.Loads t0)).bind fun l02Axis1 =>
 if l02Axis1=true then
 if (↑(List.length (Zo.Values t0)):Int)=Wq ((↑(List.length (Zo.Zdy t0)):Int)*(↑(List.length (Zo.Loads t0)):Int)) then
 Zm (fun v=>ZcB t0 v.1) ((0:Int),())
 else
 some Bool.false
 else
 some Bool.false
 else
 some Bool.false
def c54:Ctr:=D1 (YE) (.bool) Zfn
def Q8 (t0:Zo) (i0:Int) (c0:Int) (c1:Int):Option ((Int×Int×Int×Unit) ⊕ (Zu×Int)) :=
 if i0<(↑(List.length (Zo.Values t0)):Int) then
 (atI (Zo.Values t0) i0).bind fun x1 =>
 some (.inl (Wq (i0+1),Min.min c0 x1,Max.max c1 x1,()))
 else
 some (.inr ((c0,c1,()),0))
def Zbq (t0:Zo):Option (Zu×Int) :=
 (Zfn t0).bind fun IsTable0 =>
 if IsTable0=true then
 (atI (Zo.Values t0) 0).bind fun x0 =>
 Zm (fun v=>Q8 t0 v.1 v.2.1 v.2.2.1) ((1:Int),x0,x0,())
 else
 some ((0,0,()),1)
def c55:Ctr:=⟨[.dat (YE)],[.dat (XJ),.dat Iq],fun a K=>splitK a fun t0 a=>Yv (Zbq t0) fun r=>K (r.1,r.2,()) ()⟩
def ZaY (list0:List Zo) (positive0:Bool) (i0:Int):Option ((Int×Unit) ⊕ Bool) :=
 if i0<2 then
 (atI list0 i0).bind fun x0 =>
 (Zbq x0).bind fun TableBounds0 =>
 if TableBounds0.snd=0 then
 if positive0=true then
 if TableBounds0.fst.fst<0 then
 some (.inr Bool.false)
 else
 some (.inl (Wq (i0+1),()))
 else
 some (.inl (Wq (i0+1),()))
 else
 some (.inr Bool.false)
 else
 some (.inr Bool.true)
def Ym (list0:List Zo) (positive0:Bool):Option Bool :=
 if (↑list0.length:Int)=2 then
 Zm (fun v=>ZaY list0 positive0 v.1) ((0:Int),())
 else
 some Bool.false
def c56:Ctr:=D2 (.sl (YE)) (.bool) (.bool) Ym
def Zgw (a0:Zi) (a1:Zw):Option Bool :=
 (Yo (Zw.From a1) 0 (Wq (Wq ((↑(List.length (Zi.Yy a0)):Int)-1)-1))).bind fun l01In0 =>
 if l01In0=true then
 (Yo (Zw.To a1) 0 (Wq ((↑(List.length (Zi.Yy a0)):Int)-1))).bind fun l01In1 =>
 if l01In1=true then
 (atI (Zi.Yy a0) (Zw.From a1)).bind fun x0 =>
 if Zw.Kind a1=1 then
 if (Yn.Clock x0)=true then
 some Bool.false
 else
 if Zw.To a1=Wq ((↑(List.length (Zi.Yy a0)):Int)-1) then
 (Yo (Zw.Vi a1) 1 3).bind fun l01In2 =>
 if l01In2=true then
 (Ym (Zw.Delay a1) Bool.true).bind fun l03Tables0 =>
 if l03Tables0=true then
 (Ym (Zw.X7 a1) Bool.true).bind fun l03Tables1 =>
 some l03Tables1
 else
 some Bool.false
 else
 some Bool.false
 else
 some Bool.false
 else
 if Zw.Kind a1=2 then
 if Zw.Kind a1=2 then
 if (Yn.Clock x0)=true then
 if Zw.To a1=Wq ((↑(List.length (Zi.Yy a0)):Int)-1) then
 if Zw.Vi a1=0 then
 (Ym (Zw.Delay a1) Bool.true).bind fun l03Tables0 =>
 if l03Tables0=true then
 (Ym (Zw.X7 a1) Bool.true).bind fun l03Tables1 =>
 some l03Tables1
 else
 some Bool.false
 else
 some Bool.false
 else
 some Bool.false
 else
 some Bool.false
 else
 if Zw.Kind a1=4 then
 if Zw.Kind a1=4 then
 if (Yn.Clock x0)=true then
 if Zw.To a1<Wq ((↑(List.length (Zi.Yy a0)):Int)-1) then
 (atI (Zi.Yy a0) (Zw.To a1)).bind fun x1 =>
 if (Yn.Clock x1)=true then
 some Bool.false
 else
 if Zw.Vi a1=0 then
 (Ym (Zw.Delay a1) Bool.false).bind fun l03Tables0 =>
 if l03Tables0=true then
 some (Decidable.decide ((↑(List.length (Zw.X7 a1)):Int)=0))
 else
 some Bool.false
 else
 some Bool.false
 else
 some Bool.false
 else
 some Bool.false
 else
 some Bool.false
 else
 if Zw.Kind a1=5 then
 if (Yn.Clock x0)=true then
 if Zw.To a1<Wq ((↑(List.length (Zi.Yy a0)):Int)-1) then
 (atI (Zi.Yy a0) (Zw.To a1)).bind fun x1 =>
 if (Yn.Clock x1)=true then
 some Bool.false
 else
 if Zw.Vi a1=0 then
 (Ym (Zw.Delay a1) Bool.false).bind fun l03Tables0 =>
 if l03Tables0=true then
 some (Decidable.decide ((↑(List.length (Zw.X7 a1)):Int)=0))
 else
 some Bool.false
 else
 some Bool.false
 else
 some Bool.false
 else
 some Bool.false
 else
 some Bool.false
 else
 if Zw.Kind a1=3 then
 if (Yn.Clock x0)=true then
 if Zw.To a1=Wq ((↑(List.length (Zi.Yy a0)):Int)-1) then
 if Zw.Vi a1=0 then
 (Ym (Zw.Delay a1) Bool.true).bind fun l03Tables0 =>
 if l03Tables0=true then
 (Ym (Zw.X7 a1) Bool.true).bind fun l03Tables1 =>
 some l03Tables1
 else
 some Bool.false
 else
 some Bool.false
 else
 some Bool.false
 else
 some Bool.false
 else
 if Zw.Kind a1=4 then
 if Zw.Kind a1=4 then
 if (Yn.Clock x0)=true then
 if Zw.To a1<Wq ((↑(List.length (Zi.Yy a0)):Int)-1) then
 (atI (Zi.Yy a0) (Zw.To a1)).bind fun x1 =>
 if (Yn.Clock x1)=true then
 some Bool.false
 else
 if Zw.Vi a1=0 then
 (Ym (Zw.Delay a1) Bool.false).bind fun l03Tables0 =>
 if l03Tables0=true then
 some (Decidable.decide ((↑(List.length (Zw.X7 a1)):Int)=0))
 else
 some Bool.false
 else
 some Bool.false
 else
 some Bool.false
 else
 some Bool.false
 else
 some Bool.false
 else
 if Zw.Kind a1=5 then
 if (Yn.Clock x0)=true then
 if Zw.To a1<Wq ((↑(List.length (Zi.Yy a0)):Int)-1) then
 (atI (Zi.Yy a0) (Zw.To a1)).bind fun x1 =>
 if (Yn.Clock x1)=true then
 some Bool.false
 else
 if Zw.Vi a1=0 then
 (Ym (Zw.Delay a1) Bool.false).bind fun l03Tables0 =>
 if l03Tables0=true then
 some (Decidable.decide ((↑(List.length (Zw.X7 a1)):Int)=0))
 else
 some Bool.false
 else
 some Bool.false
 else
 some Bool.false
 else
 some Bool.false
 else
 some Bool.false
 else
 some Bool.false
 else
 some Bool.false
def c57:Ctr:=D2 (Qz) (ZdP) (.bool) Zgw
def Jm (c0:Zi) (i0:Int) (l0:List Int):Option ((Int×(List Int)×Unit) ⊕ List Int) :=
 if i0<(↑(List.length (Zi.VI c0)):Int) then
 (atI (Zi.VI c0) i0).bind fun x0 =>
 (atI l0 (Zw.Kind x0)).bind fun x1 =>
 some (.inl (Wq (i0+1),List.set l0 (Int.toNat (Zw.Kind x0)) (Wq (x1+1)),()))
 else
 some (.inr l0)
def Zel (c0:Zi):Option (List Int) :=
 Zm (fun v=>Jm c0 v.1 v.2.1) ((0:Int),List.replicate (Int.toNat (6:Int)) (0:Int),())
def c58:Ctr:=⟨[.dat (Qz)],[.own (.ol 2 (.flat Iq))],fun a K=>splitK a fun c0 a=>Yv (Zel c0) fun r=>K (r,()) ()⟩
def ZaG (a0:Zi) (v0:Int) (x0:Zw) (v1:Int):Option ((Int×Unit) ⊕ ((Int×Unit) ⊕ Bool)) :=
 if v1<v0 then
 (atI (Zi.VI a0) v1).bind fun x1 =>
 if Zw.Kind x1=Zw.Kind x0 then
 if Zw.From x1=Zw.From x0 then
 if Zw.To x1=Zw.To x0 then
 some (.inr (.inr Bool.false))
 else
 some (.inl (Wq (v1+1),()))
 else
 some (.inl (Wq (v1+1),()))
 else
 some (.inl (Wq (v1+1),()))
 else
 some (.inr (.inl (Wq (v0+1),())))
def ZaH (a0:Zi) (l03Pins0:Int×Bool) (v1:Int):Option ((Int×Unit) ⊕ ((Int×Unit) ⊕ Bool)) :=
 if v1<(↑(List.length (Zi.Truth a0)):Int) then
 (atI (Zi.Truth a0) v1).bind fun x0 =>
 (Yo x0 0 1).bind fun l01In2 =>
 if l01In2=true then
 some (.inl (Wq (v1+1),()))
 else
 some (.inr (.inr Bool.false))
 else
 if l03Pins0.fst=0 then
 Zy ((0:Int)≤IntKind.wrap IntKind.u64 (Wq ((↑(List.length (Zi.Yy a0)):Int)-(1:Int)))) <|
 some (.inr (.inr (Decidable.decide ((↑(List.length (Zi.Truth a0)):Int)=Wq (1*2 ^ Min.min (Int.toNat (IntKind.wrap IntKind.u64 (Wq ((↑(List.length (Zi.Yy a0)):Int)-1)))) (IntKind.bits IntKind.i64))))))
 else
 some (.inr (.inr Bool.false))
def Zc4 (a0:Zi) (l03Pins0:Int×Bool) (v0:Int):Option ((Int×Unit) ⊕ Bool) :=
 if v0<(↑(List.length (Zi.VI a0)):Int) then
 (atI (Zi.VI a0) v0).bind fun x0 =>
 (Zgw a0 x0).bind fun l03Arc0 =>
 if l03Arc0=true then
 Zm (fun v=>ZaG a0 v0 x0 v.1) ((0:Int),())
 else
 some (.inr Bool.false)
 else
 (Zel a0).bind fun l03Kinds0 =>
 if Zi.Kind a0=1 then
 Zm (fun v=>ZaH a0 l03Pins0 v.1) ((0:Int),())
 else
 if Zi.Kind a0=2 then
 if l03Pins0.fst=1 then
 (atI l03Kinds0 1).bind fun x0 =>
 if x0=0 then
 (atI l03Kinds0 2).bind fun x1 =>
 (atI l03Kinds0 3).bind fun x2 =>
 if (Decidable.decide (0<x1) == Decidable.decide (0<x2))=true then
 some (.inr Bool.false)
 else
 some (.inr (Decidable.decide ((↑(List.length (Zi.Truth a0)):Int)=0)))
 else
 some (.inr Bool.false)
 else
 some (.inr Bool.false)
 else
 if Zi.Kind a0=3 then
 if l03Pins0.fst=1 then
 (atI l03Kinds0 1).bind fun x0 =>
 if 0<x0 then
 (atI l03Kinds0 2).bind fun x1 =>
 if 0<x1 then
 (atI l03Kinds0 3).bind fun x2 =>
 if x2=0 then
 some (.inr (Decidable.decide ((↑(List.length (Zi.Truth a0)):Int)=0)))
 else
 some (.inr Bool.false)
 else
 some (.inr Bool.false)
 else
 some (.inr Bool.false)
 else
 some (.inr Bool.false)
 else
 some (.inr Bool.false)
def Zgu (a0:Zi):Option Bool :=
 (Zfo a0).bind fun l03Pins0 =>
 if l03Pins0.snd=true then
 (Zaq (Zi.Name a0)).bind fun l03Name0 =>
 if l03Name0=true then
 if 8<(↑(List.length (Zi.VI a0)):Int) then
 some Bool.false
 else
 (Yo (Zi.Zuj a0) 0 100000).bind fun l01In0 =>
 if l01In0=true then
 (Yo (Zi.Ziq a0) 0 100000).bind fun l01In1 =>
 if l01In1=true then
 Zm (fun v=>Zc4 a0 l03Pins0 v.1) ((0:Int),())
 else
 some Bool.false
 else
 some Bool.false
 else
 some Bool.false
 else
 some Bool.false
def c59:Ctr:=D1 (Qz) (.bool) Zgu
def ZaW (l0:Zt) (i0:Int) (x0:Zi) (k0:Int):Option ((Int×Unit) ⊕ ((Int×Unit) ⊕ Bool)) :=
 if k0<i0 then
 (atI (Zt.Cells l0) k0).bind fun x1 =>
 if Zi.Name x1=Zi.Name x0 then
 some (.inr (.inr Bool.false))
 else
 some (.inl (Wq (k0+1),()))
 else
 some (.inr (.inl (Wq (i0+1),())))
def ZaX (l0:Zt) (i0:Int):Option ((Int×Unit) ⊕ Bool) :=
 if i0<(↑(List.length (Zt.Cells l0)):Int) then
 (atI (Zt.Cells l0) i0).bind fun x0 =>
 (Zgu x0).bind fun IsCell0 =>
 if IsCell0=true then
 Zm (fun v=>ZaW l0 i0 x0 v.1) ((0:Int),())
 else
 some (.inr Bool.false)
 else
 some (.inr (Decidable.decide ((↑(List.length (Zt.Cells l0)):Int)≤8)))
def Zdu (l0:Zt):Option Bool :=
 Zm (fun v=>ZaX l0 v.1) ((0:Int),())
def c60:Ctr:=D1 (Yz) (.bool) Zdu
def ZbI (a1:Zc) (v0:Int) (x0:Zg) (v1:Int):Option ((Int×Unit) ⊕ ((Int×Unit) ⊕ Bool)) :=
 if v1<(↑(List.length (Zg.Xf x0)):Int) then
 (atI (Zg.Xf x0) v1).bind fun x2 =>
 (Yo x2 0 (Wq ((↑(List.length (Zc.Xf a1)):Int)-1))).bind fun l01In1 =>
 if l01In1=true then
 some (.inl (Wq (v1+1),()))
 else
 some (.inr (.inr Bool.false))
 else
 some (.inr (.inl (Wq (v0+1),())))
def ZbJ (a1:Zc) (v1:Int):Option ((Int×Unit) ⊕ ((Int×Unit) ⊕ Bool)) :=
 if v1<(↑(List.length (Zc.Xi a1)):Int) then
 (atI (Zc.Xi a1) v1).bind fun x0 =>
 (Yo (ZP.Dir x0) 1 2).bind fun l01In0 =>
 if l01In0=true then
 (Yo (ZP.Net x0) 0 (Wq ((↑(List.length (Zc.Xf a1)):Int)-1))).bind fun l01In1 =>
 if l01In1=true then
 some (.inl (Wq (v1+1),()))
 else
 some (.inr (.inr Bool.false))
 else
 some (.inr (.inr Bool.false))
 else
 some (.inr (.inr Bool.true))
def ZbK (a0:Zt) (a1:Zc) (v0:Int):Option ((Int×Unit) ⊕ Bool) :=
 if v0<(↑(List.length (Zc.Instances a1)):Int) then
 (atI (Zc.Instances a1) v0).bind fun x0 =>
 (Yo (Zg.Cell x0) 0 (Wq ((↑(List.length (Zt.Cells a0)):Int)-1))).bind fun l01In0 =>
 if l01In0=true then
 (atI (Zt.Cells a0) (Zg.Cell x0)).bind fun x1 =>
 if (↑(List.length (Zg.Xf x0)):Int)=(↑(List.length (Zi.Yy x1)):Int) then
 Zm (fun v=>ZbI a1 v0 x0 v.1) ((0:Int),())
 else
 some (.inr Bool.false)
 else
 some (.inr Bool.false)
 else
 Zm (fun v=>ZbJ a1 v.1) ((0:Int),())
def Zem (a0:Zt) (a1:Zc):Option Bool :=
 Zm (fun v=>ZbK a0 a1 v.1) ((0:Int),())
def c61:Ctr:=D2 (Yz) (Yu) (.bool) Zem
def ZbG (list0:List (List UInt8)) (i0:Int) (x0:List UInt8) (k0:Int):Option ((Int×Unit) ⊕ ((Int×Unit) ⊕ Bool)) :=
 if k0<i0 then
 (atI list0 k0).bind fun x1 =>
 if x1=x0 then
 some (.inr (.inr Bool.false))
 else
 some (.inl (Wq (k0+1),()))
 else
 some (.inr (.inl (Wq (i0+1),())))
def ZbH (list0:List (List UInt8)) (i0:Int):Option ((Int×Unit) ⊕ Bool) :=
 if i0<(↑list0.length:Int) then
 (atI list0 i0).bind fun x0 =>
 (Zaq x0).bind fun l03Name0 =>
 if l03Name0=true then
 Zm (fun v=>ZbG list0 i0 x0 v.1) ((0:Int),())
 else
 some (.inr Bool.false)
 else
 some (.inr Bool.true)
def ZaI (list0:List (List UInt8)):Option Bool :=
 Zm (fun v=>ZbH list0 v.1) ((0:Int),())
def c62:Ctr:=D1 (.sl (.str)) (.bool) ZaI
def ZbD (l1:List Int) (v6:Int):Option ((Int×Unit) ⊕ ((Int×(List Int)×Unit) ⊕ ((Int×(List Int)×Unit) ⊕ (((List (List UInt8))×Int×Unit) ⊕ (((List (List UInt8))×Int×Unit) ⊕ Bool))))) :=
 if v6<(↑l1.length:Int) then
 (atI l1 v6).bind fun x0 =>
 if x0=1 then
 some (.inl (Wq (v6+1),()))
 else
 some (.inr (.inr (.inr (.inr (.inr Bool.false)))))
 else
 some (.inr (.inr (.inr (.inr (.inr Bool.true)))))
def Q0 (a1:Zc) (v5:Int) (l1:List Int):Option ((Int×(List Int)×Unit) ⊕ ((Int×(List Int)×Unit) ⊕ (((List (List UInt8))×Int×Unit) ⊕ (((List (List UInt8))×Int×Unit) ⊕ Bool)))) :=
 if v5<(↑(List.length (Zc.Xi a1)):Int) then
 (atI (Zc.Xi a1) v5).bind fun x0 =>
 if ZP.Dir x0=1 then
 (atI l1 (ZP.Net x0)).bind fun x1 =>
 some (.inl (Wq (v5+1),List.set l1 (Int.toNat (ZP.Net x0)) (Wq (x1+1)),()))
 else
 some (.inl (Wq (v5+1),l1,()))
 else
 Zm (fun v=>ZbD l1 v.1) ((0:Int),())
def Q5 (a1:Zc) (v4:Int) (l0:List Int):Option ((Int×(List Int)×Unit) ⊕ (((List (List UInt8))×Int×Unit) ⊕ (((List (List UInt8))×Int×Unit) ⊕ Bool))) :=
 if v4<(↑(List.length (Zc.Instances a1)):Int) then
 (atI (Zc.Instances a1) v4).bind fun x0 =>
 (atI (Zg.Xf x0) (Wq ((↑(List.length (Zg.Xf x0)):Int)-1))).bind fun x1 =>
 (atI l0 x1).bind fun x2 =>
 some (.inl (Wq (v4+1),List.set l0 (Int.toNat x1) (Wq (x2+1)),()))
 else
 Zm (fun v=>Q0 a1 v.1 v.2.1) ((0:Int),l0,())
def ZbE (a1:Zc) (v0:List (List UInt8)) (v2:List (List UInt8)) (v3:Int):Option (((List (List UInt8))×Int×Unit) ⊕ (((List (List UInt8))×Int×Unit) ⊕ Bool)) :=
 if v3<(↑(List.length (Zc.Xi a1)):Int) then
 (atI (Zc.Xi a1) v3).bind fun x0 =>
 Zy ((List.length v2+List.length [ZP.Name x0])*(16:Nat)≤(140737488355328:Nat)) <|
 some (.inl (v2++[ZP.Name x0],Wq (v3+(1:Int)),()))
 else
 (ZaI v0).bind fun l05Names0 =>
 if l05Names0=true then
 (ZaI v2).bind fun l05Names1 =>
 if l05Names1=true then
 (ZaI (Zc.Xf a1)).bind fun l05Names2 =>
 if l05Names2=true then
 Zy ((0:Int)≤(↑(List.length (Zc.Xf a1)):Int)) <|
 Zy ((↑(List.length (Zc.Xf a1)):Int)≤(↑(List.length (Zc.Xf a1)):Int)) <|
 Zy ((↑(List.length (Zc.Xf a1)):Int)≤(4611686018427387904:Int)) <|
 Zy ((↑(8:Nat):Int)*(↑(List.length (Zc.Xf a1)):Int)≤(281474976710656:Int)) <|
 Zm (fun v=>Q5 a1 v.1 v.2.1) ((0:Int),List.replicate (Int.toNat (↑(List.length (Zc.Xf a1)):Int)) (0:Int),())
 else
 some (.inr (.inr Bool.false))
 else
 some (.inr (.inr Bool.false))
 else
 some (.inr (.inr Bool.false))
def ZbF (a1:Zc) (v0:List (List UInt8)) (v1:Int):Option (((List (List UInt8))×Int×Unit) ⊕ Bool) :=
 if v1<(↑(List.length (Zc.Instances a1)):Int) then
 (atI (Zc.Instances a1) v1).bind fun x0 =>
 Zy ((List.length v0+List.length [Zg.Name x0])*(16:Nat)≤(140737488355328:Nat)) <|
 some (.inl (v0++[Zg.Name x0],Wq (v1+(1:Int)),()))
 else
 Zm (fun v=>ZbE a1 v0 v.1 v.2.1) (([]:List (List UInt8)),(0:Int),())
def Zek (a0:Zt) (a1:Zc):Option Bool :=
 (Zdu a0).bind fun IsLibrary0 =>
 if IsLibrary0=true then
 if 14<(↑(List.length (Zc.Instances a1)):Int) then
 some Bool.false
 else
 if 30<(↑(List.length (Zc.Xf a1)):Int) then
 some Bool.false
 else
 if 8<(↑(List.length (Zc.Xi a1)):Int) then
 some Bool.false
 else
 (Zem a0 a1).bind fun l05Parts0 =>
 if l05Parts0=true then
 Zm (fun v=>ZbF a1 v.1 v.2.1) (([]:List (List UInt8)),(0:Int),())
 else
 some Bool.false
 else
 some Bool.false
def c63:Ctr:=D2 (Yz) (Yu) (.bool) Zek
def Za0 (v1:Int) (x0:Zg) (v2:List ZW) (v3:Int):Option (((List ZW)×Int×Unit) ⊕ (((List ZW)×Int×Unit) ⊕ List ZW)) :=
 if v3<(↑(List.length (Zg.Xf x0)):Int) then
 (atI (Zg.Xf x0) v3).bind fun x1 =>
 Zy ((List.length v2+List.length [(v1,v3,x1,Decidable.decide (v3=Wq ((↑(List.length (Zg.Xf x0)):Int)-(1:Int))),())])*(32:Nat)≤(140737488355328:Nat)) <|
 some (.inl (v2++[(v1,v3,x1,Decidable.decide (v3=Wq ((↑(List.length (Zg.Xf x0)):Int)-(1:Int))),())],Wq (v3+(1:Int)),()))
 else
 some (.inr (.inl (v2,Wq (v1+1),())))
def Za1 (a0:Zc) (v2:List ZW) (v3:Int):Option (((List ZW)×Int×Unit) ⊕ (((List ZW)×Int×Unit) ⊕ List ZW)) :=
 if v3<(↑(List.length (Zc.Xi a0)):Int) then
 (atI (Zc.Xi a0) v3).bind fun x0 =>
 Zy ((List.length v2+List.length [((-1:Int),v3,ZP.Net x0,Decidable.decide (ZP.Dir x0=(1:Int)),())])*(32:Nat)≤(140737488355328:Nat)) <|
 some (.inl (v2++[((-1:Int),v3,ZP.Net x0,Decidable.decide (ZP.Dir x0=(1:Int)),())],Wq (v3+(1:Int)),()))
 else
 some (.inr (.inr v2))
def Za2 (a0:Zc) (v0:List ZW) (v1:Int):Option (((List ZW)×Int×Unit) ⊕ List ZW) :=
 if v1<(↑(List.length (Zc.Instances a0)):Int) then
 (atI (Zc.Instances a0) v1).bind fun x0 =>
 Zm (fun v=>Za0 v1 x0 v.1 v.2.1) (v0,(0:Int),())
 else
 Zm (fun v=>Za1 a0 v.1 v.2.1) (v0,(0:Int),())
def XP (a0:Zc):Option (List ZW) :=
 Zm (fun v=>Za2 a0 v.1 v.2.1) (([]:List (Int×Int×Int×Bool×Unit)),(0:Int),())
def c64:Ctr:=⟨[.dat (Yu)],[.own (.ol 232 (.flat (ZeQ)))],fun a K=>splitK a fun a0 a=>Yv (XP a0) fun r=>K (r,()) ()⟩
def ZbL (net0:Int) (l05Places0:List ZW) (out0:List Int) (i0:Int):Option (((List Int)×Int×Unit) ⊕ List Int) :=
 if i0<(↑l05Places0.length:Int) then
 (atI l05Places0 i0).bind fun x0 =>
 if ZW.net x0=net0 then
 if (ZW.drives x0)=true then
 some (.inl (out0,Wq (i0+1),()))
 else
 Zy ((List.length out0+List.length [i0])*(8:Nat)≤(140737488355328:Nat)) <|
 some (.inl (out0++[i0],Wq (i0+(1:Int)),()))
 else
 some (.inl (out0,Wq (i0+1),()))
 else
 some (.inr out0)
def ZaJ (d0:Zc) (net0:Int):Option (List Int) :=
 (XP d0).bind fun l05Places0 =>
 Zm (fun v=>ZbL net0 l05Places0 v.1 v.2.1) (([]:List Int),(0:Int),())
def c65:Ctr:=⟨[.dat (Yu),.dat Iq],[.own (.ol 2 (.flat Iq))],fun a K=>splitK a fun d0 a=>splitK a fun net0 a=>Yv (ZaJ d0 net0) fun r=>K (r,()) ()⟩
def Zc6 (a0:Zp) (v1:Int):Option ((Int×Unit) ⊕ ((Int×Unit) ⊕ Bool)) :=
 if v1<(↑(List.length (Zp.ZdO a0)):Int) then
 (atI (Zp.ZdO a0) v1).bind fun x0 =>
 (Yo x0 0 (Wq ((↑(List.length (Zp.Parent a0)):Int)-1))).bind fun l01In0 =>
 if l01In0=true then
 some (.inl (Wq (v1+1),()))
 else
 some (.inr (.inr Bool.false))
 else
 some (.inr (.inr Bool.true))
def Zc7 (a0:Zp) (v0:Int):Option ((Int×Unit) ⊕ Bool) :=
 if v0<(↑(List.length (Zp.Parent a0)):Int) then
 (atI (Zp.Cap a0) v0).bind fun x0 =>
 (Yo x0 0 500).bind fun l01In0 =>
 if l01In0=true then
 (atI (Zp.Res a0) v0).bind fun x1 =>
 (Yo x1 0 1000).bind fun l01In1 =>
 if l01In1=true then
 if v0=0 then
 (atI (Zp.Parent a0) v0).bind fun x2 =>
 if x2=(-1) then
 if x1=0 then
 if 0<v0 then
 (Yo x2 0 (Wq (v0-1))).bind fun l01In2 =>
 if l01In2=true then
 some (.inl (Wq (v0+1),()))
 else
 some (.inr Bool.false)
 else
 some (.inl (Wq (v0+1),()))
 else
 some (.inr Bool.false)
 else
 some (.inr Bool.false)
 else
 if 0<v0 then
 (atI (Zp.Parent a0) v0).bind fun x2 =>
 (Yo x2 0 (Wq (v0-1))).bind fun l01In2 =>
 if l01In2=true then
 some (.inl (Wq (v0+1),()))
 else
 some (.inr Bool.false)
 else
 some (.inl (Wq (v0+1),()))
 else
 some (.inr Bool.false)
 else
 some (.inr Bool.false)
 else
 Zm (fun v=>Zc6 a0 v.1) ((0:Int),())
def Zgv (a0:Zp) (a1:Int):Option Bool :=
 if (↑(List.length (Zp.Parent a0)):Int)<1 then
 some Bool.false
 else
 if 8<(↑(List.length (Zp.Parent a0)):Int) then
 some Bool.false
 else
 if (↑(List.length (Zp.Res a0)):Int)=(↑(List.length (Zp.Parent a0)):Int) then
 if (↑(List.length (Zp.Cap a0)):Int)=(↑(List.length (Zp.Parent a0)):Int) then
 if (↑(List.length (Zp.ZdO a0)):Int)=a1 then
 Zm (fun v=>Zc7 a0 v.1) ((0:Int),())
 else
 some Bool.false
 else
 some Bool.false
 else
 some Bool.false
def c66:Ctr:=D2 (VG) Iq (.bool) Zgv
def Zcz (b0:Zd) (net0:Int):Option ((Int×Unit) ⊕ Bool) :=
 if net0<(↑(List.length (Zd.YG b0)):Int) then
 (atI (Zd.YG b0) net0).bind fun x0 =>
 (ZaJ (Zd.Design b0) net0).bind fun l05Sinks0 =>
 (Zgv x0 (↑l05Sinks0.length:Int)).bind fun IsWire0 =>
 if IsWire0=true then
 some (.inl (Wq (net0+1),()))
 else
 some (.inr Bool.false)
 else
 some (.inr Bool.true)
def Zb1 (b0:Zd):Option Bool :=
 (Zek (Zd.Library b0) (Zd.Design b0)).bind fun IsDesign0 =>
 if IsDesign0=true then
 if (↑(List.length (Zd.YG b0)):Int)=(↑(List.length (Zc.Xf (Zd.Design b0))):Int) then
 Zm (fun v=>Zcz b0 v.1) ((0:Int),())
 else
 some Bool.false
 else
 some Bool.false
def c67:Ctr:=D1 (Yt) (.bool) Zb1
def ZbC (c0:Zv) (i0:Int):Option ((Int×Unit) ⊕ Bool) :=
 if i0<(↑(List.length [Zv.JZ c0,Zv.Zbg c0,Zv.J2 c0,Zv.Zb3 c0]):Int) then
 (atI ([Zv.JZ c0,Zv.Zbg c0,Zv.J2 c0,Zv.Zb3 c0]) i0).bind fun x0 =>
 (Yo x0 100 5000).bind fun l01In0 =>
 if l01In0=true then
 some (.inl (Wq (i0+1),()))
 else
 some (.inr Bool.false)
 else
 (Zaq (Zv.Name c0)).bind fun l03Name0 =>
 if l03Name0=true then
 if Zv.JZ c0≤Zv.Zbg c0 then
 some (.inr (Decidable.decide (Zv.J2 c0≤Zv.Zb3 c0)))
 else
 some (.inr Bool.false)
 else
 some (.inr Bool.false)
def ZcA (c0:Zv):Option Bool :=
 Zm (fun v=>ZbC c0 v.1) ((0:Int),())
def c68:Ctr:=D1 (X3) (.bool) ZcA
def QH (b0:Zd):Option Int :=
 (XP (Zd.Design b0)).bind fun l05Places0 =>
 some (Wq (2*(↑l05Places0.length:Int)))
def c69:Ctr:=D1 (Yt) Iq QH
def Zc5 (s0:Zu):Option Bool :=
 (Yo (Zu.Early s0) (-1000000000) 1000000000).bind fun l01In0 =>
 if l01In0=true then
 (Yo (Zu.Late s0) (-1000000000) 1000000000).bind fun l01In1 =>
 if l01In1=true then
 some (Decidable.decide (Zu.Early s0≤Zu.Late s0))
 else
 some Bool.false
 else
 some Bool.false
def c70:Ctr:=D1 (XJ) (.bool) Zc5
def ZaM (s0:Zu):Option Bool :=
 if 0≤Zu.Early s0 then
 if Zu.Early s0≤Zu.Late s0 then
 some (Decidable.decide (Zu.Late s0≤1000000))
 else
 some Bool.false
 else
 some Bool.false
def c71:Ctr:=D1 (XJ) (.bool) ZaM
def VP (a1:Zk) (v0:Int):Option ((Int×Unit) ⊕ Bool) :=
 if v0<(↑(List.length (Zk.Reached a1)):Int) then
 (atI (Zk.ZB a1) v0).bind fun x0 =>
 (Zc5 x0).bind fun IsSpan0 =>
 if IsSpan0=true then
 (atI (Zk.X7 a1) v0).bind fun x1 =>
 (ZaM x1).bind fun l12Slews0 =>
 if l12Slews0=true then
 (atI (Zk.Reached a1) v0).bind fun x2 =>
 if x2=true then
 some (.inl (Wq (v0+1),()))
 else
 if (Decidable.decide (Zu.Early x0=0)&&Decidable.decide (Zu.Late x0=0))=true then
 if (Decidable.decide (Zu.Early x1=0)&&Decidable.decide (Zu.Late x1=0))=true then
 some (.inl (Wq (v0+1),()))
 else
 some (.inr Bool.false)
 else
 some (.inr Bool.false)
 else
 some (.inr Bool.false)
 else
 some (.inr Bool.false)
 else
 some (.inr Bool.true)
def Zdw (a0:Int) (a1:Zk):Option Bool :=
 if (↑(List.length (Zk.Reached a1)):Int)=a0 then
 if (↑(List.length (Zk.ZB a1)):Int)=a0 then
 if (↑(List.length (Zk.X7 a1)):Int)=a0 then
 Zm (fun v=>VP a1 v.1) ((0:Int),())
 else
 some Bool.false
 else
 some Bool.false
 else
 some Bool.false
def c72:Ctr:=D2 Iq (Xd) (.bool) Zdw
def ZcH (instance0:Int) (pin0:Int) (l05Places0:List ZW) (i0:Int):Option ((Int×Unit) ⊕ Int) :=
 if i0<(↑l05Places0.length:Int) then
 (atI l05Places0 i0).bind fun x0 =>
 if ZW.instance x0=instance0 then
 if ZW.pin x0=pin0 then
 some (.inr i0)
 else
 some (.inl (Wq (i0+1),()))
 else
 some (.inl (Wq (i0+1),()))
 else
 some (.inr (-1))
def Zb2 (d0:Zc) (instance0:Int) (pin0:Int):Option Int :=
 (XP d0).bind fun l05Places0 =>
 Zm (fun v=>ZcH instance0 pin0 l05Places0 v.1) ((0:Int),())
def c73:Ctr:=D3 (Yu) Iq Iq Iq Zb2
def VA (list0:List Zq) (from0:Int) (to0:Int) (a0:Int) (b0:Int) (kind0:Int) (index0:Int):Option (List Zq) :=
 Zy ((List.length list0+List.length [(Wq (Wq ((2:Int)*from0)+a0),Wq (Wq ((2:Int)*to0)+b0),kind0,index0,())])*(32:Nat)≤(140737488355328:Nat)) <|
 some (list0++[(Wq (Wq ((2:Int)*from0)+a0),Wq (Wq ((2:Int)*to0)+b0),kind0,index0,())])
def c74:Ctr:=⟨[.own (.ol 183 (.flat (JY))),.dat Iq,.dat Iq,.dat Iq,.dat Iq,.dat Iq,.dat Iq],[.own (.ol 183 (.flat (JY)))],fun a K=>splitK a fun list0 a=>splitK a fun from0 a=>splitK a fun to0 a=>splitK a fun a0 a=>splitK a fun b0 a=>splitK a fun kind0 a=>splitK a fun index0 a=>Yv (VA list0 from0 to0 a0 b0 kind0 index0) fun r=>K (r,()) ()⟩
def V5 (arc0:Zw) (from0:Int) (to0:Int) (index0:Int) (a0:Int) (list2:List Zq) (b0:Int):Option (((List Zq)×Int×Unit) ⊕ (((List Zq)×Int×Unit) ⊕ List Zq)) :=
 if b0≤1 then
 if Zw.Kind arc0=1 then
 if Zw.Vi arc0=3 then
 (VA list2 from0 to0 a0 b0 1 index0).bind fun l09Pair0 =>
 some (.inl (l09Pair0,Wq (b0+1),()))
 else
 if (Decidable.decide (Zw.Vi arc0=1) == Decidable.decide (a0=b0))=true then
 (VA list2 from0 to0 a0 b0 1 index0).bind fun l09Pair0 =>
 some (.inl (l09Pair0,Wq (b0+1),()))
 else
 some (.inl (list2,Wq (b0+1),()))
 else
 if Zw.Kind arc0=2 then
 if a0=0 then
 (VA list2 from0 to0 a0 b0 1 index0).bind fun l09Pair0 =>
 some (.inl (l09Pair0,Wq (b0+1),()))
 else
 some (.inl (list2,Wq (b0+1),()))
 else
 if Zw.Kind arc0=3 then
 if a0=1 then
 (VA list2 from0 to0 a0 b0 1 index0).bind fun l09Pair0 =>
 some (.inl (l09Pair0,Wq (b0+1),()))
 else
 some (.inl (list2,Wq (b0+1),()))
 else
 some (.inl (list2,Wq (b0+1),()))
 else
 some (.inr (.inl (list2,Wq (a0+1),())))
def QS (arc0:Zw) (from0:Int) (to0:Int) (index0:Int) (list1:List Zq) (a0:Int):Option (((List Zq)×Int×Unit) ⊕ List Zq) :=
 if a0≤1 then
 Zm (fun v=>V5 arc0 from0 to0 index0 a0 v.1 v.2.1) (list1,(0:Int),())
 else
 some (.inr list1)
def Zgx (list0:List Zq) (arc0:Zw) (from0:Int) (to0:Int) (index0:Int):Option (List Zq) :=
 Zm (fun v=>QS arc0 from0 to0 index0 v.1 v.2.1) (list0,(0:Int),())
def c75:Ctr:=⟨[.own (.ol 183 (.flat (JY))),.dat (ZdP),.dat Iq,.dat Iq,.dat Iq],[.own (.ol 183 (.flat (JY)))],fun a K=>splitK a fun list0 a=>splitK a fun arc0 a=>splitK a fun from0 a=>splitK a fun to0 a=>splitK a fun index0 a=>Yv (Zgx list0 arc0 from0 to0 index0) fun r=>K (r,()) ()⟩
def ZaZ (net0:Int) (l05Places0:List ZW) (i0:Int):Option ((Int×Unit) ⊕ Int) :=
 if i0<(↑l05Places0.length:Int) then
 (atI l05Places0 i0).bind fun x0 =>
 if ZW.net x0=net0 then
 if (ZW.drives x0)=true then
 some (.inr i0)
 else
 some (.inl (Wq (i0+1),()))
 else
 some (.inl (Wq (i0+1),()))
 else
 some (.inr (-1))
def Zba (d0:Zc) (net0:Int):Option Int :=
 (XP d0).bind fun l05Places0 =>
 Zm (fun v=>ZaZ net0 l05Places0 v.1) ((0:Int),())
def c76:Ctr:=D2 (Yu) Iq Iq Zba
def Jo (a0:Zd) (v1:Int) (x1:Zi) (v2:List Zq) (v3:Int):Option (((List Zq)×Int×Unit) ⊕ (((List Zq)×Int×Unit) ⊕ List Zq)) :=
 if v3<(↑(List.length (Zi.VI x1)):Int) then
 (atI (Zi.VI x1) v3).bind fun x2 =>
 if Zw.Kind x2≤3 then
 (Zb2 (Zd.Design a0) v1 (Zw.From x2)).bind fun l05Find0 =>
 (Zb2 (Zd.Design a0) v1 (Zw.To x2)).bind fun l05Find1 =>
 (Zgx v2 x2 l05Find0 l05Find1 v3).bind fun l09Arc0 =>
 some (.inl (l09Arc0,Wq (v3+1),()))
 else
 some (.inl (v2,Wq (v3+1),()))
 else
 some (.inr (.inl (v2,Wq (v1+1),())))
def ZbM (v3:Int) (l05Driver0:Int) (l05Sinks0:List Int) (v4:List Zq) (v5:Int):Option (((List Zq)×Int×Unit) ⊕ (((List Zq)×Int×Unit) ⊕ (((List Zq)×Int×Unit) ⊕ List Zq))) :=
 if v5<(↑l05Sinks0.length:Int) then
 (atI l05Sinks0 v5).bind fun x0 =>
 (VA v4 l05Driver0 x0 0 0 2 v5).bind fun l09Pair0 =>
 (VA l09Pair0 l05Driver0 x0 1 1 2 v5).bind fun l09Pair1 =>
 some (.inl (l09Pair1,Wq (v5+1),()))
 else
 some (.inr (.inl (v4,Wq (v3+1),())))
def ZbN (a0:Zd) (v2:List Zq) (v3:Int):Option (((List Zq)×Int×Unit) ⊕ (((List Zq)×Int×Unit) ⊕ List Zq)) :=
 if v3<(↑(List.length (Zc.Xf (Zd.Design a0))):Int) then
 (Zba (Zd.Design a0) v3).bind fun l05Driver0 =>
 (ZaJ (Zd.Design a0) v3).bind fun l05Sinks0 =>
 Zm (fun v=>ZbM v3 l05Driver0 l05Sinks0 v.1 v.2.1) (v2,(0:Int),())
 else
 some (.inr (.inr v2))
def ZbO (a0:Zd) (v0:List Zq) (v1:Int):Option (((List Zq)×Int×Unit) ⊕ List Zq) :=
 if v1<(↑(List.length (Zc.Instances (Zd.Design a0))):Int) then
 (atI (Zc.Instances (Zd.Design a0)) v1).bind fun x0 =>
 (atI (Zt.Cells (Zd.Library a0)) (Zg.Cell x0)).bind fun x1 =>
 Zm (fun v=>Jo a0 v1 x1 v.1 v.2.1) (v0,(0:Int),())
 else
 Zm (fun v=>ZbN a0 v.1 v.2.1) (v0,(0:Int),())
def ZaL (a0:Zd):Option (List Zq) :=
 Zm (fun v=>ZbO a0 v.1 v.2.1) (([]:List (Int×Int×Int×Int×Unit)),(0:Int),())
def c77:Ctr:=⟨[.dat (Yt)],[.own (.ol 183 (.flat (JY)))],fun a K=>splitK a fun a0 a=>Yv (ZaL a0) fun r=>K (r,()) ()⟩
def Za4 (list0:List Int) (n0:Int) (i0:Int):Option ((Int×Unit) ⊕ Bool) :=
 if i0<(↑list0.length:Int) then
 (atI list0 i0).bind fun x0 =>
 (Yo x0 0 (Wq (n0-1))).bind fun l01In0 =>
 if l01In0=true then
 if 0<i0 then
 (atI list0 (Wq (i0-1))).bind fun x1 =>
 if x0≤x1 then
 some (.inr Bool.false)
 else
 some (.inl (Wq (i0+1),()))
 else
 some (.inl (Wq (i0+1),()))
 else
 some (.inr Bool.false)
 else
 some (.inr Bool.true)
def Zdv (list0:List Int) (n0:Int):Option Bool :=
 Zm (fun v=>Za4 list0 n0 v.1) ((0:Int),())
def c78:Ctr:=D2 (.sl Iq) Iq (.bool) Zdv
def ZdK (b0:Zd) (broken0:List Int):Option Int :=
 (Zb1 b0).bind fun IsBlock0 =>
 if IsBlock0=true then
 (ZaL b0).bind fun l09Links0 =>
 (Zdv broken0 (↑l09Links0.length:Int)).bind fun l09Rising0 =>
 if l09Rising0=true then
 some 0
 else
 some 2
 else
 some 1
def c79:Ctr:=D2 (Yt) (.sl Iq) Iq ZdK
def VD (list0:List Zj) (l09Count0:Int) (i0:Int):Option ((Int×Unit) ⊕ Bool) :=
 if i0<(↑list0.length:Int) then
 (atI list0 i0).bind fun x0 =>
 (Yo (Zj.Node x0) 0 (Wq (l09Count0-1))).bind fun l01In0 =>
 if l01In0=true then
 if 0<i0 then
 (atI list0 (Wq (i0-1))).bind fun x1 =>
 if Zj.Node x0≤Zj.Node x1 then
 some (.inr Bool.false)
 else
 (Zc5 (Zj.ZB x0)).bind fun IsSpan0 =>
 if IsSpan0=true then
 (ZaM (Zj.X7 x0)).bind fun l12Slews0 =>
 if l12Slews0=true then
 some (.inl (Wq (i0+1),()))
 else
 some (.inr Bool.false)
 else
 some (.inr Bool.false)
 else
 (Zc5 (Zj.ZB x0)).bind fun IsSpan0 =>
 if IsSpan0=true then
 (ZaM (Zj.X7 x0)).bind fun l12Slews0 =>
 if l12Slews0=true then
 some (.inl (Wq (i0+1),()))
 else
 some (.inr Bool.false)
 else
 some (.inr Bool.false)
 else
 some (.inr Bool.false)
 else
 some (.inr Bool.true)
def ZcJ (b0:Zd) (list0:List Zj):Option Bool :=
 (QH b0).bind fun l09Count0 =>
 Zm (fun v=>VD list0 l09Count0 v.1) ((0:Int),())
def c80:Ctr:=D2 (Yt) (.sl (Z6)) (.bool) ZcJ
def Zc9 (list0:List Int) (x0:Int) (i0:Int):Option ((Int×Unit) ⊕ Bool) :=
 if i0<(↑list0.length:Int) then
 (atI list0 i0).bind fun x1 =>
 if x1=x0 then
 some (.inr Bool.true)
 else
 some (.inl (Wq (i0+1),()))
 else
 some (.inr Bool.false)
def Zgy (list0:List Int) (x0:Int):Option Bool :=
 Zm (fun v=>Zc9 list0 x0 v.1) ((0:Int),())
def c81:Ctr:=D2 (.sl Iq) Iq (.bool) Zgy
def ZcI (links0:List Zq) (broken0:List Int) (out0:List Bool) (k0:Int):Option (((List Bool)×Int×Unit) ⊕ List Bool) :=
 if k0<(↑links0.length:Int) then
 (Zgy broken0 k0).bind fun l09Has0 =>
 Zy ((List.length out0+List.length [!l09Has0])*(1:Nat)≤(140737488355328:Nat)) <|
 some (.inl (out0++[!l09Has0],Wq (k0+(1:Int)),()))
 else
 some (.inr out0)
def ZdL (links0:List Zq) (broken0:List Int):Option (List Bool) :=
 Zm (fun v=>ZcI links0 broken0 v.1 v.2.1) (([]:List Bool),(0:Int),())
def c82:Ctr:=⟨[.dat (.sl (JY)),.dat (.sl Iq)],[.own (.ol 4 (.flat (.bool)))],fun a K=>splitK a fun links0 a=>splitK a fun broken0 a=>Yv (ZdL links0 broken0) fun r=>K (r,()) ()⟩
def YJ (a0:Int) (v0:List Int) (l0:List Bool) (l1:List Bool) (v2:Int):Option ((Int×Unit) ⊕ ((Int×(List Bool)×Unit) ⊕ (((List Int)×(List Bool)×Unit) ⊕ ((List Int)×Bool)))) :=
 if v2<a0 then
 (atI l0 v2).bind fun x0 =>
 if x0=true then
 some (.inl (Wq (v2+1),()))
 else
 (atI l1 v2).bind fun x1 =>
 if x1=true then
 some (.inl (Wq (v2+1),()))
 else
 if v2=a0 then
 some (.inr (.inr (.inr (([]:List Int),Bool.false))))
 else
 Zy ((List.length v0+List.length [v2])*(8:Nat)≤(140737488355328:Nat)) <|
 some (.inr (.inr (.inl (v0++[v2],List.set l0 (Int.toNat v2) Bool.true,()))))
 else
 if v2=a0 then
 some (.inr (.inr (.inr (([]:List Int),Bool.false))))
 else
 (atI l0 v2).bind fun x0 =>
 Zy ((List.length v0+List.length [v2])*(8:Nat)≤(140737488355328:Nat)) <|
 some (.inr (.inr (.inl (v0++[v2],List.set l0 (Int.toNat v2) Bool.true,()))))
def Q6 (a0:Int) (a1:List Zq) (a2:List Bool) (v0:List Int) (l0:List Bool) (v1:Int) (l1:List Bool):Option ((Int×(List Bool)×Unit) ⊕ (((List Int)×(List Bool)×Unit) ⊕ ((List Int)×Bool))) :=
 if v1<(↑a1.length:Int) then
 (atI a2 v1).bind fun x0 =>
 if x0=true then
 (atI a1 v1).bind fun x1 =>
 (atI l0 (Zq.From x1)).bind fun x2 =>
 if x2=true then
 some (.inl (Wq (v1+1),l1,()))
 else
 (atI l1 (Zq.To x1)).bind fun x3 =>
 some (.inl (Wq (v1+1),List.set l1 (Int.toNat (Zq.To x1)) Bool.true,()))
 else
 some (.inl (Wq (v1+1),l1,()))
 else
 Zm (fun v=>YJ a0 v0 l0 l1 v.1) ((0:Int),())
def Qi (a0:Int) (a1:List Zq) (a2:List Bool) (v0:List Int) (l0:List Bool):Option (((List Int)×(List Bool)×Unit) ⊕ ((List Int)×Bool)) :=
 if (↑v0.length:Int)<a0 then
 Zm (fun v=>Q6 a0 a1 a2 v0 l0 v.1 v.2.1) ((0:Int),List.replicate (Int.toNat a0) Bool.false,())
 else
 some (.inr (v0,Bool.true))
def Zen (a0:Int) (a1:List Zq) (a2:List Bool):Option ((List Int)×Bool) :=
 Zy ((0:Int)≤a0) <|
 Zy (a0≤a0) <|
 Zy (a0≤(4611686018427387904:Int)) <|
 Zy ((↑(1:Nat):Int)*a0≤(281474976710656:Int)) <|
 Zm (fun v=>Qi a0 a1 a2 v.1 v.2.1) (([]:List Int),List.replicate (Int.toNat a0) Bool.false,())
def c83:Ctr:=⟨[.dat Iq,.dat (.sl (JY)),.dat (.sl (.bool))],[.own (.ol 2 (.flat Iq)),.dat (.bool)],fun a K=>splitK a fun a0 a=>splitK a fun a1 a=>splitK a fun a2 a=>Yv (Zen a0 a1 a2) fun r=>K (r.1,r.2,()) ()⟩
def Vw (b0:Zd) (broken0:List Int):Option ((List Int)×Int) :=
 (ZdK b0 broken0).bind fun l09Code0 =>
 if l09Code0=0 then
 (ZaL b0).bind fun l09Links0 =>
 (QH b0).bind fun l09Count0 =>
 (ZdL l09Links0 broken0).bind fun l09Live0 =>
 (Zen l09Count0 l09Links0 l09Live0).bind fun l09Order0 =>
 if l09Order0.snd=true then
 some (l09Order0.fst,0)
 else
 some (([]:List Int),(7:Int))
 else
 some (([]:List Int),l09Code0)
def c84:Ctr:=⟨[.dat (Yt),.dat (.sl Iq)],[.own (.ol 2 (.flat Iq)),.dat Iq],fun a K=>splitK a fun b0 a=>splitK a fun broken0 a=>Yv (Vw b0 broken0) fun r=>K (r.1,r.2,()) ()⟩
def ZhR (b0:Zd) (c0:Zv) (broken0:List Int) (sources0:List Zj):Option ((List Int)×Int) :=
 (Zb1 b0).bind fun IsBlock0 =>
 if IsBlock0=true then
 (ZcA c0).bind fun IsCorner0 =>
 if IsCorner0=true then
 (ZdK b0 broken0).bind fun l09Code0 =>
 if l09Code0=0 then
 (ZcJ b0 sources0).bind fun l12Sources0 =>
 if l12Sources0=true then
 (Vw b0 broken0).bind fun TopologicalOrder0 =>
 some (TopologicalOrder0.fst,TopologicalOrder0.snd)
 else
 some (([]:List Int),(2:Int))
 else
 some (([]:List Int),(2:Int))
 else
 some (([]:List Int),(1:Int))
 else
 some (([]:List Int),(1:Int))
def c85:Ctr:=⟨[.dat (Yt),.dat (X3),.dat (.sl Iq),.dat (.sl (Z6))],[.own (.ol 2 (.flat Iq)),.dat Iq],fun a K=>splitK a fun b0 a=>splitK a fun c0 a=>splitK a fun broken0 a=>splitK a fun sources0 a=>Yv (ZhR b0 c0 broken0 sources0) fun r=>K (r.1,r.2,()) ()⟩
def ZdN (b0:Zd) (c0:Zv) (broken0:List Int) (sources0:List Zj) (t0:Zk):Option Int :=
 (Zb1 b0).bind fun IsBlock0 =>
 if IsBlock0=true then
 (ZcA c0).bind fun IsCorner0 =>
 if IsCorner0=true then
 (QH b0).bind fun l09Count0 =>
 (Zdw l09Count0 t0).bind fun l12Timing0 =>
 if l12Timing0=true then
 (ZhR b0 c0 broken0 sources0).bind fun l12Code0 =>
 some l12Code0.snd
 else
 some 1
 else
 some 1
 else
 some 1
def c86:Ctr:=⟨[.dat (Yt),.dat (X3),.dat (.sl Iq),.dat (.sl (Z6)),.dat (Xd)],[.dat Iq],fun a K=>splitK a fun b0 a=>splitK a fun c0 a=>splitK a fun broken0 a=>splitK a fun sources0 a=>splitK a fun t0 a=>Yv (ZdN b0 c0 broken0 sources0 t0) fun r=>K (r,()) ()⟩
def ZEz (b0:Zd) (list0:List Int):Option Bool :=
 (QH b0).bind fun l09Count0 =>
 (Zdv list0 l09Count0).bind fun l09Rising0 =>
 some l09Rising0
def c87:Ctr:=D2 (Yt) (.sl Iq) (.bool) ZEz
def Zgz (t0:Zk):Option Zk :=
 Zy ((List.length (([]:List Bool))+List.length (Zk.Reached t0))*(1:Nat)≤(140737488355328:Nat)) <|
 Zy ((List.length (([]:List (Int×Int×Unit)))+List.length (Zk.ZB t0))*(16:Nat)≤(140737488355328:Nat)) <|
 Zy ((List.length (([]:List (Int×Int×Unit)))+List.length (Zk.X7 t0))*(16:Nat)≤(140737488355328:Nat)) <|
 some (([]:List Bool)++Zk.Reached t0,([]:List (Int×Int×Unit))++Zk.ZB t0,([]:List (Int×Int×Unit))++Zk.X7 t0,())
def c88:Ctr:=⟨[.dat (Xd)],[.own (ZoC)],fun a K=>splitK a fun t0 a=>Yv (Zgz t0) fun r=>K (r,()) ()⟩
def ZEj (list0:List Int) (x0:Int) (i0:Int):Option ((Int×Unit) ⊕ Bool) :=
 if i0<(↑list0.length:Int) then
 (atI list0 i0).bind fun x1 =>
 if x1=x0 then
 some (.inr Bool.true)
 else
 some (.inl (Wq (i0+1),()))
 else
 some (.inr Bool.false)
def ZEw (list0:List Int) (x0:Int):Option Bool :=
 Zm (fun v=>ZEj list0 x0 v.1) ((0:Int),())
def c89:Ctr:=D2 (.sl Iq) Iq (.bool) ZEw
def ZhO (list0:List Int):Option (List Int) :=
 Zy ((List.length (([]:List Int))+List.length list0)*(8:Nat)≤(140737488355328:Nat)) <|
 some (([]:List Int)++list0)
def c90:Ctr:=⟨[.dat (.sl Iq)],[.own (.ol 2 (.flat Iq))],fun a K=>splitK a fun list0 a=>Yv (ZhO list0) fun r=>K (r,()) ()⟩
def Zm9 (l0:Zt) (d0:Zc) (p0:ZW):Option Int :=
 if ZW.instance p0<0 then
 some 0
 else
 (atI (Zc.Instances d0) (ZW.instance p0)).bind fun x0 =>
 (atI (Zt.Cells l0) (Zg.Cell x0)).bind fun x1 =>
 (atI (Zi.Yy x1) (ZW.pin p0)).bind fun x2 =>
 some (Yn.Cap x2)
def c91:Ctr:=D3 (Yz) (Yu) (ZeQ) Iq Zm9
def Zja (x0:Zp) (v1:Int) (l1:List Int):Option ((Int×(List Int)×Unit) ⊕ ((Int×(List Int)×Unit) ⊕ List Int)) :=
 if 0<v1 then
 (atI (Zp.Parent x0) v1).bind fun x1 =>
 (atI l1 x1).bind fun x2 =>
 (atI l1 v1).bind fun x3 =>
 some (.inl (Wq (v1-1),List.set l1 (Int.toNat x1) (Wq (x2+x3)),()))
 else
 some (.inr (.inr l1))
def ZeN (a0:Zd) (x0:Zp) (l05Places0:List ZW) (l05Sinks0:List Int) (v0:Int) (l0:List Int):Option ((Int×(List Int)×Unit) ⊕ List Int) :=
 if v0<(↑l05Sinks0.length:Int) then
 (atI (Zp.ZdO x0) v0).bind fun x1 =>
 (atI l0 x1).bind fun x2 =>
 (atI l05Sinks0 v0).bind fun x3 =>
 (atI l05Places0 x3).bind fun x4 =>
 (Zm9 (Zd.Library a0) (Zd.Design a0) x4).bind fun l05Cap0 =>
 some (.inl (Wq (v0+1),List.set l0 (Int.toNat x1) (Wq (x2+l05Cap0)),()))
 else
 Zm (fun v=>Zja x0 v.1 v.2.1) (Wq ((↑l0.length:Int)-(1:Int)),l0,())
def ZaK (a0:Zd) (a1:Int):Option (List Int) :=
 (atI (Zd.YG a0) a1).bind fun x0 =>
 (ZhO (Zp.Cap x0)).bind fun l02Ints0 =>
 (XP (Zd.Design a0)).bind fun l05Places0 =>
 (ZaJ (Zd.Design a0) a1).bind fun l05Sinks0 =>
 Zm (fun v=>ZeN a0 x0 l05Places0 l05Sinks0 v.1 v.2.1) ((0:Int),l02Ints0,())
def c92:Ctr:=⟨[.dat (Yt),.dat Iq],[.own (.ol 2 (.flat Iq))],fun a K=>splitK a fun a0 a=>splitK a fun a1 a=>Yv (ZaK a0 a1) fun r=>K (r,()) ()⟩
def ZeO (b0:Zd) (x0:Zq):Option (Zw×Int) :=
 (XP (Zd.Design b0)).bind fun l05Places0 =>
 (atI l05Places0 (Wq (Int.tdiv (Zq.To x0) 2))).bind fun x1 =>
 (atI (Zc.Instances (Zd.Design b0)) (ZW.instance x1)).bind fun x2 =>
 (atI (Zt.Cells (Zd.Library b0)) (Zg.Cell x2)).bind fun x3 =>
 (atI (Zi.VI x3) (Zq.Index x0)).bind fun x4 =>
 (ZaK b0 (ZW.net x1)).bind fun l07Loads0 =>
 (atI l07Loads0 0).bind fun x5 =>
 some (x4,x5)
def c93:Ctr:=⟨[.dat (Yt),.dat (JY)],[.dat (ZdP),.dat Iq],fun a K=>splitK a fun b0 a=>splitK a fun x0 a=>Yv (ZeO b0 x0) fun r=>K (r.1,r.2,()) ()⟩
def Vx (axis0:List Int) (x0:Int) (x1:Int) (x2:Int) (i0:Int):Option ((Int×Unit) ⊕ (Int×Int×Int)) :=
 if 0≤i0 then
 (atI axis0 i0).bind fun x3 =>
 if Min.min (Max.max x0 x1) x2=x3 then
 some (.inr (i0,1,0))
 else
 if x3<Min.min (Max.max x0 x1) x2 then
 (atI axis0 (Wq (i0+1))).bind fun x4 =>
 some (.inr (i0,Wq (x4-Min.min (Max.max x0 x1) x2),Wq (Min.min (Max.max x0 x1) x2-x3)))
 else
 some (.inl (Wq (i0-1),()))
 else
 some (.inr (0,1,0))
def Zap (axis0:List Int) (x0:Int):Option (Int×Int×Int) :=
 (atI axis0 0).bind fun x1 =>
 (atI axis0 (Wq ((↑axis0.length:Int)-1))).bind fun x2 =>
 Zm (fun v=>Vx axis0 x0 x1 x2 v.1) (Wq ((↑axis0.length:Int)-(1:Int)),())
def c94:Ctr:=⟨[.dat (.sl Iq),.dat Iq],[.dat Iq,.dat Iq,.dat Iq],fun a K=>splitK a fun axis0 a=>splitK a fun x0 a=>Yv (Zap axis0 x0) fun r=>K (r.1,r.2.1,r.2.2,()) ()⟩
def Yx (a0:Int) (b0:Int) (mode0:Int):Option Int :=
 Zy (b0≠(0:Int)) <|
 if Int.tmod a0 b0<0 then
 if mode0=0 then
 some (Wq (Wq (Int.tdiv a0 b0)-1))
 else
 if 0<Int.tmod a0 b0 then
 if mode0=1 then
 some (Wq (Wq (Int.tdiv a0 b0)+1))
 else
 some (Wq (Int.tdiv a0 b0))
 else
 some (Wq (Int.tdiv a0 b0))
 else
 if 0<Int.tmod a0 b0 then
 if mode0=1 then
 some (Wq (Wq (Int.tdiv a0 b0)+1))
 else
 some (Wq (Int.tdiv a0 b0))
 else
 some (Wq (Int.tdiv a0 b0))
def c95:Ctr:=D3 Iq Iq Iq Iq Yx
def Xm (a0:Zo) (l02Weights0:Int×Int×Int) (l02Weights1:Int×Int×Int) (v1:Int) (v2:Int) (v3:Int):Option ((Int×Int×Unit) ⊕ ((Int×Int×Unit) ⊕ Int)) :=
 if v3<2 then
 if v1=1 then
 if v3=0 then
 if 0<Wq (l02Weights0.snd.snd*l02Weights1.snd.fst) then
 (atI (Zo.Values a0) (Wq (Wq (Wq (Wq (l02Weights0.fst+v1)*(↑(List.length (Zo.Loads a0)):Int))+l02Weights1.fst)+v3))).bind fun x0 =>
 some (.inl (Wq (v2+Wq (Wq (l02Weights0.snd.snd*l02Weights1.snd.fst)*x0)),Wq (v3+1),()))
 else
 some (.inl (v2,Wq (v3+1),()))
 else
 if 0<Wq (l02Weights0.snd.snd*l02Weights1.snd.snd) then
 (atI (Zo.Values a0) (Wq (Wq (Wq (Wq (l02Weights0.fst+v1)*(↑(List.length (Zo.Loads a0)):Int))+l02Weights1.fst)+v3))).bind fun x0 =>
 some (.inl (Wq (v2+Wq (Wq (l02Weights0.snd.snd*l02Weights1.snd.snd)*x0)),Wq (v3+1),()))
 else
 some (.inl (v2,Wq (v3+1),()))
 else
 if v3=0 then
 if 0<Wq (l02Weights0.snd.fst*l02Weights1.snd.fst) then
 (atI (Zo.Values a0) (Wq (Wq (Wq (Wq (l02Weights0.fst+v1)*(↑(List.length (Zo.Loads a0)):Int))+l02Weights1.fst)+v3))).bind fun x0 =>
 some (.inl (Wq (v2+Wq (Wq (l02Weights0.snd.fst*l02Weights1.snd.fst)*x0)),Wq (v3+1),()))
 else
 some (.inl (v2,Wq (v3+1),()))
 else
 if 0<Wq (l02Weights0.snd.fst*l02Weights1.snd.snd) then
 (atI (Zo.Values a0) (Wq (Wq (Wq (Wq (l02Weights0.fst+v1)*(↑(List.length (Zo.Loads a0)):Int))+l02Weights1.fst)+v3))).bind fun x0 =>
 some (.inl (Wq (v2+Wq (Wq (l02Weights0.snd.fst*l02Weights1.snd.snd)*x0)),Wq (v3+1),()))
 else
 some (.inl (v2,Wq (v3+1),()))
 else
 some (.inr (.inl (v2,Wq (v1+1),())))
def X0 (a0:Zo) (a3:Int) (l02Weights0:Int×Int×Int) (l02Weights1:Int×Int×Int) (v0:Int) (v1:Int):Option ((Int×Int×Unit) ⊕ Int) :=
 if v1<2 then
 Zm (fun v=>Xm a0 l02Weights0 l02Weights1 v1 v.1 v.2.1) (v0,(0:Int),())
 else
 (Yx v0 (Wq (Wq (l02Weights0.snd.fst+l02Weights0.snd.snd)*Wq (l02Weights1.snd.fst+l02Weights1.snd.snd))) a3).bind fun l01Div0 =>
 some (.inr l01Div0)
def Zao (a0:Zo) (a1:Int) (a2:Int) (a3:Int):Option Int :=
 (Zap (Zo.Zdy a0) a1).bind fun l02Weights0 =>
 (Zap (Zo.Loads a0) a2).bind fun l02Weights1 =>
 Zm (fun v=>X0 a0 a3 l02Weights0 l02Weights1 v.1 v.2.1) ((0:Int),(0:Int),())
def c96:Ctr:=D4 (YE) Iq Iq Iq Iq Zao
def ZeP (b0:Zd) (x0:Zq):Option Int :=
 (XP (Zd.Design b0)).bind fun l05Places0 =>
 (atI l05Places0 (Wq (Int.tdiv (Zq.To x0) 2))).bind fun x1 =>
 some (ZW.net x1)
def c97:Ctr:=D2 (Yt) (JY) Iq ZeP
def Za3 (x0:Zp) (l07Loads0:List Int) (out0:List Int) (i0:Int):Option (((List Int)×Int×Unit) ⊕ List Int) :=
 if i0<(↑l07Loads0.length:Int) then
 (atI (Zp.Parent x0) i0).bind fun x1 =>
 (atI out0 x1).bind fun x2 =>
 (atI (Zp.Res x0) i0).bind fun x3 =>
 (atI l07Loads0 i0).bind fun x4 =>
 Zy ((List.length out0+List.length [Wq (x2+Wq (x3*x4))])*(8:Nat)≤(140737488355328:Nat)) <|
 some (.inl (out0++[Wq (x2+Wq (x3*x4))],Wq (i0+(1:Int)),()))
 else
 some (.inr out0)
def Zbb (b0:Zd) (net0:Int):Option (List Int) :=
 (atI (Zd.YG b0) net0).bind fun x0 =>
 (ZaK b0 net0).bind fun l07Loads0 =>
 Zm (fun v=>Za3 x0 l07Loads0 v.1 v.2.1) ([(0:Int)],(1:Int),())
def c98:Ctr:=⟨[.dat (Yt),.dat Iq],[.own (.ol 2 (.flat Iq))],fun a K=>splitK a fun b0 a=>splitK a fun net0 a=>Yv (Zbb b0 net0) fun r=>K (r,()) ()⟩
def V4 (b0:Zd) (net0:Int) (mode0:Int) (l07Delays0:List Int) (out0:List Int) (i0:Int):Option (((List Int)×Int×Unit) ⊕ List Int) :=
 (atI (Zd.YG b0) net0).bind fun x0 =>
 if i0<(↑(List.length (Zp.ZdO x0)):Int) then
 (atI (Zp.ZdO x0) i0).bind fun x1 =>
 (atI l07Delays0 x1).bind fun x2 =>
 (Yx x2 1000 mode0).bind fun l01Div0 =>
 Zy ((List.length out0+List.length [l01Div0])*(8:Nat)≤(140737488355328:Nat)) <|
 some (.inl (out0++[l01Div0],Wq (i0+(1:Int)),()))
 else
 some (.inr out0)
def JX (b0:Zd) (net0:Int) (mode0:Int):Option (List Int) :=
 (Zbb b0 net0).bind fun l07Delays0 =>
 Zm (fun v=>V4 b0 net0 mode0 l07Delays0 v.1 v.2.1) (([]:List Int),(0:Int),())
def c99:Ctr:=⟨[.dat (Yt),.dat Iq,.dat Iq],[.own (.ol 2 (.flat Iq))],fun a K=>splitK a fun b0 a=>splitK a fun net0 a=>splitK a fun mode0 a=>Yv (JX b0 net0 mode0) fun r=>K (r,()) ()⟩
def Zbc (c0:Zv) (kind0:Int) (mode0:Int):Option Int :=
 if kind0=1 then
 if mode0=0 then
 some (Zv.JZ c0)
 else
 some (Zv.Zbg c0)
 else
 if mode0=0 then
 some (Zv.J2 c0)
 else
 some (Zv.Zb3 c0)
def ZyI:Ctr:=D3 (X3) Iq Iq Iq Zbc
def Jp (b0:Zd) (c0:Zv) (x0:Zq) (slew0:Int) (mode0:Int):Option Int :=
 if Zq.Kind x0=1 then
 (ZeO b0 x0).bind fun l11Arc0 =>
 (atI l11Arc0.fst.snd.snd.snd.snd.fst (Int.tmod (Zq.To x0) 2)).bind fun x1 =>
 (Zao x1 slew0 l11Arc0.snd mode0).bind fun l02Look0 =>
 (Zbc c0 (Zq.Kind x0) mode0).bind fun l11Factor0 =>
 (Yx (Wq (l02Look0*l11Factor0)) 1000 mode0).bind fun l01Div0 =>
 some l01Div0
 else
 (ZeP b0 x0).bind fun l11Net0 =>
 (JX b0 l11Net0 mode0).bind fun l07SinkDelays0 =>
 (atI l07SinkDelays0 (Zq.Index x0)).bind fun x1 =>
 (Zbc c0 (Zq.Kind x0) mode0).bind fun l11Factor0 =>
 (Yx (Wq (x1*l11Factor0)) 1000 mode0).bind fun l01Div0 =>
 some l01Div0
def ZyJ:Ctr:=⟨[.dat (Yt),.dat (X3),.dat (JY),.dat Iq,.dat Iq],[.dat Iq],fun a K=>splitK a fun b0 a=>splitK a fun c0 a=>splitK a fun x0 a=>splitK a fun slew0 a=>splitK a fun mode0 a=>Yv (Jp b0 c0 x0 slew0 mode0) fun r=>K (r,()) ()⟩
def Vz (n0:Int) (mode0:Int) (low0:Int) (high0:Int):Option ((Int×Int×Unit) ⊕ Int) :=
 if low0<high0 then
 if Wq (Wq (Int.tdiv (Wq (Wq (low0+high0)+1)) 2)*Wq (Int.tdiv (Wq (Wq (low0+high0)+1)) 2))≤n0 then
 some (.inl (Wq (Int.tdiv (Wq (Wq (low0+high0)+1)) 2),high0,()))
 else
 some (.inl (low0,Wq (Wq (Int.tdiv (Wq (Wq (low0+high0)+1)) 2)-1),()))
 else
 if mode0=1 then
 if Wq (low0*low0)<n0 then
 some (.inr (Wq (low0+1)))
 else
 some (.inr low0)
 else
 some (.inr low0)
def ZdJ (n0:Int) (mode0:Int):Option Int :=
 Zm (fun v=>Vz n0 mode0 v.1 v.2.1) ((0:Int),(2000000000:Int),())
def ZyK:Ctr:=D2 Iq Iq Iq ZdJ
def ZhP (b0:Zd) (net0:Int) (sink0:Int) (slew0:Int) (mode0:Int):Option Int :=
 (atI (Zd.YG b0) net0).bind fun x0 =>
 (atI (Zp.ZdO x0) sink0).bind fun x1 =>
 (Zbb b0 net0).bind fun l07Delays0 =>
 (atI l07Delays0 x1).bind fun x2 =>
 (ZdJ (Wq (Wq (Wq (1000000*slew0)*slew0)+Wq (Wq (4*x2)*x2))) mode0).bind fun l07Root0 =>
 (Yx l07Root0 1000 mode0).bind fun l01Div0 =>
 some l01Div0
def ZyL:Ctr:=⟨[.dat (Yt),.dat Iq,.dat Iq,.dat Iq,.dat Iq],[.dat Iq],fun a K=>splitK a fun b0 a=>splitK a fun net0 a=>splitK a fun sink0 a=>splitK a fun slew0 a=>splitK a fun mode0 a=>Yv (ZhP b0 net0 sink0 slew0 mode0) fun r=>K (r,()) ()⟩
def Zar (b0:Zd) (x0:Zq) (slew0:Int) (mode0:Int):Option Int :=
 if Zq.Kind x0=1 then
 (ZeO b0 x0).bind fun l11Arc0 =>
 (atI l11Arc0.fst.snd.snd.snd.snd.snd.fst (Int.tmod (Zq.To x0) 2)).bind fun x1 =>
 (Zao x1 slew0 l11Arc0.snd mode0).bind fun l02Look0 =>
 some l02Look0
 else
 (ZeP b0 x0).bind fun l11Net0 =>
 (ZhP b0 l11Net0 (Zq.Index x0) slew0 mode0).bind fun l07Slew0 =>
 some (Min.min 1000000 l07Slew0)
def ZyM:Ctr:=D4 (Yt) (JY) Iq Iq Iq Zar
def ZcK (a0:Zd) (a1:Zv) (a2:Zq) (a3:Zu):Option (Zu×Zu) :=
 (Jp a0 a1 a2 (Zu.Early a3) 0).bind fun l11Delay0 =>
 (Jp a0 a1 a2 (Zu.Early a3) 1).bind fun l11Delay1 =>
 (Zar a0 a2 (Zu.Early a3) 0).bind fun l11Slew0 =>
 (Zar a0 a2 (Zu.Early a3) 1).bind fun l11Slew1 =>
 (Jp a0 a1 a2 (Zu.Late a3) 0).bind fun l11Delay2 =>
 (Jp a0 a1 a2 (Zu.Late a3) 1).bind fun l11Delay3 =>
 (Zar a0 a2 (Zu.Late a3) 0).bind fun l11Slew2 =>
 (Zar a0 a2 (Zu.Late a3) 1).bind fun l11Slew3 =>
 some ((Min.min l11Delay0 l11Delay2,Max.max l11Delay1 l11Delay3,()),(Min.min l11Slew0 l11Slew2,Max.max l11Slew1 l11Slew3,()))
def c105:Ctr:=⟨[.dat (Yt),.dat (X3),.dat (JY),.dat (XJ)],[.dat (XJ),.dat (XJ)],fun a K=>splitK a fun a0 a=>splitK a fun a1 a=>splitK a fun a2 a=>splitK a fun a3 a=>Yv (ZcK a0 a1 a2 a3) fun r=>K (r.1,r.2,()) ()⟩
def ZhS (a0:Zu) (b0:Zu):Option Zu :=
 some (Min.min (Zu.Early a0) (Zu.Early b0),Max.max (Zu.Late a0) (Zu.Late b0),())
def ZyN:Ctr:=D2 (XJ) (XJ) (XJ) ZhS
def Xn (a0:Zd) (a1:Zv) (a2:List Zq) (a3:List Bool) (a5:Zk) (a6:Int) (v2:Bool) (v3:Int) (c5:Int) (c6:Int) (c7:Int) (c8:Int) (c9:Int):Option ((Bool×Int×Int×Int×Int×Int×Int×Unit) ⊕ ((Bool×Int×Int×Int×Int×Int×Int×Unit) ⊕ (Bool×Zj))) :=
 if v3<(↑a2.length:Int) then
 (atI a2 v3).bind fun x0 =>
 (atI a3 v3).bind fun x1 =>
 if x1=true then
 if Zq.To x0=a6 then
 (atI (Zk.Reached a5) (Zq.From x0)).bind fun x2 =>
 if x2=true then
 (atI (Zk.X7 a5) (Zq.From x0)).bind fun x3 =>
 (ZcK a0 a1 x0 x3).bind fun l12Spans0 =>
 (atI (Zk.ZB a5) (Zq.From x0)).bind fun x4 =>
 if v2=true then
 (ZhS (Wq (Zu.Early x4+l12Spans0.fst.fst),Wq (Zu.Late x4+l12Spans0.fst.snd.fst),()) (c6,c7,())).bind fun l12Hull0 =>
 (ZhS l12Spans0.snd (c8,c9,())).bind fun l12Hull1 =>
 some (.inl (Bool.true,Wq (v3+1),a6,Zu.Early l12Hull0,Zu.Late l12Hull0,Zu.Early l12Hull1,Zu.Late l12Hull1,()))
 else
 some (.inl (Bool.true,Wq (v3+1),a6,Wq (Zu.Early x4+l12Spans0.fst.fst),Wq (Zu.Late x4+l12Spans0.fst.snd.fst),l12Spans0.snd.fst,l12Spans0.snd.snd.fst,()))
 else
 some (.inl (v2,Wq (v3+1),c5,c6,c7,c8,c9,()))
 else
 some (.inl (v2,Wq (v3+1),c5,c6,c7,c8,c9,()))
 else
 some (.inl (v2,Wq (v3+1),c5,c6,c7,c8,c9,()))
 else
 some (.inr (.inr (v2,(c5,(c6,c7,()),(c8,c9,()),()))))
def VB (a0:Zd) (a1:Zv) (a2:List Zq) (a3:List Bool) (a4:List Zj) (a5:Zk) (a6:Int) (v0:Bool) (v1:Int) (c0:Int) (c1:Int) (c2:Int) (c3:Int) (c4:Int):Option ((Bool×Int×Int×Int×Int×Int×Int×Unit) ⊕ (Bool×Zj)) :=
 if v1<(↑a4.length:Int) then
 (atI a4 v1).bind fun x0 =>
 if Zj.Node x0=a6 then
 some (.inl (Bool.true,Wq (v1+1),Zj.Node x0,Zu.Early (Zj.ZB x0),Zu.Late (Zj.ZB x0),Zu.Early (Zj.X7 x0),Zu.Late (Zj.X7 x0),()))
 else
 some (.inl (v0,Wq (v1+1),c0,c1,c2,c3,c4,()))
 else
 Zm (fun v=>Xn a0 a1 a2 a3 a5 a6 v.1 v.2.1 v.2.2.1 v.2.2.2.1 v.2.2.2.2.1 v.2.2.2.2.2.1 v.2.2.2.2.2.2.1) (v0,(0:Int),c0,c1,c2,c3,c4,())
def ZdM (a0:Zd) (a1:Zv) (a2:List Zq) (a3:List Bool) (a4:List Zj) (a5:Zk) (a6:Int):Option (Bool×Zj) :=
 Zm (fun v=>VB a0 a1 a2 a3 a4 a5 a6 v.1 v.2.1 v.2.2.1 v.2.2.2.1 v.2.2.2.2.1 v.2.2.2.2.2.1 v.2.2.2.2.2.2.1) (Bool.false,(0:Int),(0:Int),(0:Int),(0:Int),(0:Int),(0:Int),())
def c107:Ctr:=⟨[.dat (Yt),.dat (X3),.dat (.sl (JY)),.dat (.sl (.bool)),.dat (.sl (Z6)),.dat (Xd),.dat Iq],[.dat (.bool),.dat (Z6)],fun a K=>splitK a fun a0 a=>splitK a fun a1 a=>splitK a fun a2 a=>splitK a fun a3 a=>splitK a fun a4 a=>splitK a fun a5 a=>splitK a fun a6 a=>Yv (ZdM a0 a1 a2 a3 a4 a5 a6) fun r=>K (r.1,r.2,()) ()⟩
def ZgA (t0:Zk) (node0:Int) (reached0:Bool) (x0:Zj):Option (Bool×Zk) :=
 if reached0=true then
 (atI (Zk.Reached t0) node0).bind fun x1 =>
 if (x1 == reached0)=true then
 (atI (Zk.ZB t0) node0).bind fun x2 =>
 if (Decidable.decide (Zu.Early x2=Zu.Early (Zj.ZB x0))&&Decidable.decide (Zu.Late x2=Zu.Late (Zj.ZB x0)))=true then
 (atI (Zk.X7 t0) node0).bind fun x3 =>
 some (!(Decidable.decide (Zu.Early x3=Zu.Early (Zj.X7 x0))&&Decidable.decide (Zu.Late x3=Zu.Late (Zj.X7 x0))),(List.set (Zk.Reached t0) (Int.toNat node0) reached0,List.set (Zk.ZB t0) (Int.toNat node0) (Zj.ZB x0),List.set (Zk.X7 t0) (Int.toNat node0) (Zj.X7 x0),()))
 else
 (atI (Zk.X7 t0) node0).bind fun x3 =>
 some (Bool.true,(List.set (Zk.Reached t0) (Int.toNat node0) reached0,List.set (Zk.ZB t0) (Int.toNat node0) (Zj.ZB x0),List.set (Zk.X7 t0) (Int.toNat node0) (Zj.X7 x0),()))
 else
 (atI (Zk.ZB t0) node0).bind fun x2 =>
 (atI (Zk.X7 t0) node0).bind fun x3 =>
 some (Bool.true,(List.set (Zk.Reached t0) (Int.toNat node0) reached0,List.set (Zk.ZB t0) (Int.toNat node0) (Zj.ZB x0),List.set (Zk.X7 t0) (Int.toNat node0) (Zj.X7 x0),()))
 else
 (atI (Zk.Reached t0) node0).bind fun x1 =>
 if (x1 == reached0)=true then
 (atI (Zk.ZB t0) node0).bind fun x2 =>
 if (Decidable.decide (Zu.Early x2=0)&&Decidable.decide (Zu.Late x2=0))=true then
 (atI (Zk.X7 t0) node0).bind fun x3 =>
 some (!(Decidable.decide (Zu.Early x3=0)&&Decidable.decide (Zu.Late x3=0)),(List.set (Zk.Reached t0) (Int.toNat node0) reached0,List.set (Zk.ZB t0) (Int.toNat node0) (0,0,()),List.set (Zk.X7 t0) (Int.toNat node0) (0,0,()),()))
 else
 (atI (Zk.X7 t0) node0).bind fun x3 =>
 some (Bool.true,(List.set (Zk.Reached t0) (Int.toNat node0) reached0,List.set (Zk.ZB t0) (Int.toNat node0) (0,0,()),List.set (Zk.X7 t0) (Int.toNat node0) (0,0,()),()))
 else
 (atI (Zk.ZB t0) node0).bind fun x2 =>
 (atI (Zk.X7 t0) node0).bind fun x3 =>
 some (Bool.true,(List.set (Zk.Reached t0) (Int.toNat node0) reached0,List.set (Zk.ZB t0) (Int.toNat node0) (0,0,()),List.set (Zk.X7 t0) (Int.toNat node0) (0,0,()),()))
def Zqk:Ctr:=⟨[.back (ZoC),.dat Iq,.dat (.bool),.dat (Z6)],[.dat (.bool)],fun a K=>splitK a fun t0 a=>splitK a fun node0 a=>splitK a fun reached0 a=>splitK a fun x0 a=>Yv (ZgA t0 node0 reached0 x0) fun r=>K (r.1,()) (r.2,())⟩
def ZEg (a0:Zd) (a1:Zv) (a3:List Zj) (l09Links0:List Zq) (l09Live0:List Bool) (v0:List Int) (v1:Int) (c0:List Bool) (c1:List Zu) (c2:List Zu) (l0:List Bool) (l1:List Zu) (l2:List Zu) (l3:List Bool) (x0:Int) (v2:Bool) (v3:Int):Option ((Bool×Int×Unit) ⊕ (((List Int)×Int×(List Bool)×(List Zu)×(List Zu)×(List Bool)×(List Zu)×(List Zu)×(List Bool)×Unit) ⊕ (Zk×(List Int)×Bool))) :=
 if v3<(↑l09Links0.length:Int) then
 if v2=true then
 some (.inl (Bool.true,Wq (v3+1),()))
 else
 (atI l09Live0 v3).bind fun x1 =>
 if x1=true then
 (atI l09Links0 v3).bind fun x2 =>
 if Zq.To x2=x0 then
 (atI l3 (Zq.From x2)).bind fun x3 =>
 some (.inl (x3,Wq (v3+1),()))
 else
 some (.inl (Bool.false,Wq (v3+1),()))
 else
 some (.inl (Bool.false,Wq (v3+1),()))
 else
 if v2=true then
 (ZdM a0 a1 l09Links0 l09Live0 a3 (l0,l1,l2,()) x0).bind fun l12Node0 =>
 if l12Node0.fst=true then
 (Zc5 l12Node0.snd.snd.fst).bind fun IsSpan0 =>
 if IsSpan0=true then
 (ZgA (l0,l1,l2,()) x0 l12Node0.fst l12Node0.snd).bind fun l32Set0 =>
 (atI l3 x0).bind fun x1 =>
 Zy ((List.length v0+List.length [x0])*(8:Nat)≤(140737488355328:Nat)) <|
 some (.inr (.inl (v0++[x0],Wq (v1+(1:Int)),c0,c1,c2,l32Set0.snd.fst,l32Set0.snd.snd.fst,l32Set0.snd.snd.snd.fst,List.set l3 (Int.toNat x0) l32Set0.fst,())))
 else
 some (.inr (.inr ((([]:List Bool),([]:List Zu),([]:List Zu),()),([]:List Int),Bool.false)))
 else
 (ZgA (l0,l1,l2,()) x0 l12Node0.fst l12Node0.snd).bind fun l32Set0 =>
 (atI l3 x0).bind fun x1 =>
 Zy ((List.length v0+List.length [x0])*(8:Nat)≤(140737488355328:Nat)) <|
 some (.inr (.inl (v0++[x0],Wq (v1+(1:Int)),c0,c1,c2,l32Set0.snd.fst,l32Set0.snd.snd.fst,l32Set0.snd.snd.snd.fst,List.set l3 (Int.toNat x0) l32Set0.fst,())))
 else
 some (.inr (.inl (v0,Wq (v1+1),c0,c1,c2,l0,l1,l2,l3,())))
def ZEd (a0:Zd) (a1:Zv) (a3:List Zj) (a5:List Int) (l09Links0:List Zq) (l09Live0:List Bool) (TopologicalOrder0:List Int×Int) (v0:List Int) (v1:Int) (c0:List Bool) (c1:List Zu) (c2:List Zu) (l0:List Bool) (l1:List Zu) (l2:List Zu) (l3:List Bool):Option (((List Int)×Int×(List Bool)×(List Zu)×(List Zu)×(List Bool)×(List Zu)×(List Zu)×(List Bool)×Unit) ⊕ (Zk×(List Int)×Bool)) :=
 if v1<(↑(List.length TopologicalOrder0.fst):Int) then
 (atI TopologicalOrder0.fst v1).bind fun x0 =>
 (ZEw a5 x0).bind fun l08Has0 =>
 Zm (fun v=>ZEg a0 a1 a3 l09Links0 l09Live0 v0 v1 c0 c1 c2 l0 l1 l2 l3 x0 v.1 v.2.1) (l08Has0,(0:Int),())
 else
 some (.inr ((l0,l1,l2,()),v0,Bool.true))
def ZEI (a0:Zd) (a1:Zv) (a2:List Int) (a3:List Zj) (a4:Zk) (a5:List Int):Option (Zk×(List Int)×Bool) :=
 (ZaL a0).bind fun l09Links0 =>
 (ZdL l09Links0 a2).bind fun l09Live0 =>
 (Vw a0 a2).bind fun TopologicalOrder0 =>
 (Zgz a4).bind fun l32Own0 =>
 (QH a0).bind fun l09Count0 =>
 Zy ((0:Int)≤l09Count0) <|
 Zy (l09Count0≤l09Count0) <|
 Zy (l09Count0≤(4611686018427387904:Int)) <|
 Zy ((↑(1:Nat):Int)*l09Count0≤(281474976710656:Int)) <|
 Zm (fun v=>ZEd a0 a1 a3 a5 l09Links0 l09Live0 TopologicalOrder0 v.1 v.2.1 v.2.2.1 v.2.2.2.1 v.2.2.2.2.1 v.2.2.2.2.2.1 v.2.2.2.2.2.2.1 v.2.2.2.2.2.2.2.1 v.2.2.2.2.2.2.2.2.1) (([]:List Int),(0:Int),([]:List Bool),([]:List Zu),([]:List Zu),Zk.Reached l32Own0,Zk.ZB l32Own0,Zk.X7 l32Own0,List.replicate (Int.toNat l09Count0) Bool.false,())
def c109:Ctr:=⟨[.dat (Yt),.dat (X3),.dat (.sl Iq),.dat (.sl (Z6)),.dat (Xd),.dat (.sl Iq)],[.own (ZoC),.own (.ol 2 (.flat Iq)),.dat (.bool)],fun a K=>splitK a fun a0 a=>splitK a fun a1 a=>splitK a fun a2 a=>splitK a fun a3 a=>splitK a fun a4 a=>splitK a fun a5 a=>Yv (ZEI a0 a1 a2 a3 a4 a5) fun r=>K (r.1,r.2.1,r.2.2,()) ()⟩
def ZEq (b0:Zd) (c0:Zv) (broken0:List Int) (sources0:List Zj) (t0:Zk) (dirty0:List Int):Option (Zk×(List Int)×Int) :=
 (ZdN b0 c0 broken0 sources0 t0).bind fun l12With0 =>
 if l12With0=0 then
 (ZEz b0 dirty0).bind fun l32Nodes0 =>
 if l32Nodes0=true then
 (ZEI b0 c0 broken0 sources0 t0 dirty0).bind fun l32Update0 =>
 if l32Update0.snd.snd=true then
 some (l32Update0.fst,l32Update0.snd.fst,0)
 else
 some ((([]:List Bool),([]:List Zu),([]:List Zu),()),([]:List Int),(3:Int))
 else
 some ((([]:List Bool),([]:List Zu),([]:List Zu),()),([]:List Int),(2:Int))
 else
 some ((([]:List Bool),([]:List Zu),([]:List Zu),()),([]:List Int),l12With0)
def Zyd:Ctr:=⟨[.dat (Yt),.dat (X3),.dat (.sl Iq),.dat (.sl (Z6)),.dat (Xd),.dat (.sl Iq)],[.own (ZoC),.own (.ol 2 (.flat Iq)),.dat Iq],fun a K=>splitK a fun b0 a=>splitK a fun c0 a=>splitK a fun broken0 a=>splitK a fun sources0 a=>splitK a fun t0 a=>splitK a fun dirty0 a=>Yv (ZEq b0 c0 broken0 sources0 t0 dirty0) fun r=>K (r.1,r.2.1,r.2.2,()) ()⟩
def YB (x0:Int) (low0:Int) (high0:Int):Option Bool :=
 if low0≤x0 then
 some (Decidable.decide (x0≤high0))
 else
 some Bool.false
def ZyO:Ctr:=D3 Iq Iq Iq (.bool) YB
def ZcY (s0:List UInt8):Option Bool :=
 (YB (↑s0.length:Int) 1 8).bind fun within0 =>
 if within0=true then
 Zy (List.length s0≤(1000000:Nat)) <|
 if Go.Lib.trimS s0 [(97:UInt8),(98:UInt8),(99:UInt8),(100:UInt8),(101:UInt8),(102:UInt8),(103:UInt8),(104:UInt8),(105:UInt8),(106:UInt8),(107:UInt8),(108:UInt8),(109:UInt8),(110:UInt8),(111:UInt8),(112:UInt8),(113:UInt8),(114:UInt8),(115:UInt8),(116:UInt8),(117:UInt8),(118:UInt8),(119:UInt8),(120:UInt8),(121:UInt8),(122:UInt8),(48:UInt8),(49:UInt8),(50:UInt8),(51:UInt8),(52:UInt8),(53:UInt8),(54:UInt8),(55:UInt8),(56:UInt8),(57:UInt8)]=([]:List UInt8) then
 (atI s0 0).bind fun x0 =>
 some (Decidable.decide ((0:Int)≤Go.Lib.indexByte [(97:UInt8),(98:UInt8),(99:UInt8),(100:UInt8),(101:UInt8),(102:UInt8),(103:UInt8),(104:UInt8),(105:UInt8),(106:UInt8),(107:UInt8),(108:UInt8),(109:UInt8),(110:UInt8),(111:UInt8),(112:UInt8),(113:UInt8),(114:UInt8),(115:UInt8),(116:UInt8),(117:UInt8),(118:UInt8),(119:UInt8),(120:UInt8),(121:UInt8),(122:UInt8)] (Nat.toUInt8 (Int.toNat (↑(UInt8.toNat x0):Int)))))
 else
 some Bool.false
 else
 some Bool.false
def ZyP:Ctr:=D1 (.str) (.bool) ZcY
def VO (list0:List Yn):Option Int :=
 some (↑list0.length:Int)
def Zxj:Ctr:=D1 (.sl (Zdx)) Iq VO
def XY (s0:List (List UInt8)) (v0:List UInt8) (v1:Int):Option ((Int×Unit) ⊕ Int) :=
 if v1<(↑s0.length:Int) then
 (atI s0 v1).bind fun x0 =>
 if v0=x0 then
 some (.inr v1)
 else
 some (.inl (Wq (v1+1),()))
 else
 some (.inr (-1))
def XW (s0:List (List UInt8)) (v0:List UInt8):Option Int :=
 Zm (fun v=>XY s0 v0 v.1) ((0:Int),())
def ZyQ:Ctr:=D2 (.sl (.str)) (.str) Iq XW
def Xl (s0:List (List UInt8)) (v0:List UInt8):Option Bool :=
 (XW s0 v0).bind fun string0 =>
 some (Decidable.decide (0≤string0))
def ZyR:Ctr:=D2 (.sl (.str)) (.str) (.bool) Xl
def Zbt (list0:List (List UInt8)) (v0:Int):Option ((Int×Unit) ⊕ Bool) :=
 if v0<(↑list0.length:Int) then
 (atI list0 v0).bind fun x0 =>
 (ZcY x0).bind fun isName0 =>
 if isName0=true then
 Zy ((0:Int)≤v0) <|
 Zy (v0≤(↑list0.length:Int)) <|
 (Xl (List.take (Int.toNat v0-Int.toNat 0) (List.drop (Int.toNat 0) list0)) x0).bind fun string0 =>
 if string0=true then
 some (.inr Bool.false)
 else
 some (.inl (Wq (v0+1),()))
 else
 some (.inr Bool.false)
 else
 some (.inr Bool.true)
def Vn (list0:List (List UInt8)):Option Bool :=
 Zm (fun v=>Zbt list0 v.1) ((0:Int),())
def c116:Ctr:=D1 (.sl (.str)) (.bool) Vn
def Vo (list0:List Yn) (names0:List (List UInt8)) (v0:Int):Option (((List (List UInt8))×Int×Unit) ⊕ Bool) :=
 if v0<(↑list0.length:Int) then
 (atI list0 v0).bind fun x0 =>
 Zy ((List.length names0+List.length [Yn.Name x0])*(16:Nat)≤(140737488355328:Nat)) <|
 if v0=Wq ((↑list0.length:Int)-1) then
 if Yn.Dir x0=2 then
 if Yn.Cap x0=0 then
 if (Yn.Clock x0)=true then
 some (.inr Bool.false)
 else
 some (.inl (names0++[Yn.Name x0],Wq (v0+(1:Int)),()))
 else
 some (.inr Bool.false)
 else
 some (.inr Bool.false)
 else
 if Yn.Dir x0=1 then
 (YB (Yn.Cap x0) 0 500).bind fun within0 =>
 if within0=true then
 some (.inl (names0++[Yn.Name x0],Wq (v0+(1:Int)),()))
 else
 some (.inr Bool.false)
 else
 some (.inr Bool.false)
 else
 (VO list0).bind fun Pin0 =>
 (YB Pin0 2 5).bind fun within0 =>
 if within0=true then
 (Vn names0).bind fun areNames0 =>
 some (.inr areNames0)
 else
 some (.inr Bool.false)
def Ze3 (list0:List Yn):Option Bool :=
 Zm (fun v=>Vo list0 v.1 v.2.1) (([]:List (List UInt8)),(0:Int),())
def c117:Ctr:=D1 (.sl (Zdx)) (.bool) Ze3
def Ze4 (kind0:Int):Option Bool :=
 if kind0=4 then
 some Bool.true
 else
 some (Decidable.decide (kind0=5))
def ZyS:Ctr:=D1 Iq (.bool) Ze4
def XD (list0:List Int):Option Int :=
 some (↑list0.length:Int)
def c119:Ctr:=D1 (.sl Iq) Iq XD
def ZcW (n0:Int) (a0:Int) (a1:Int):Option Bool :=
 (YB n0 a0 a1).bind fun within0 =>
 some !within0
def ZvG:Ctr:=D3 Iq (.ptr Iq) (.ptr Iq) (.bool) ZcW
def Ye (s0:List Int) (f0:Int×Int×Unit) (v0:Int):Option ((Int×Unit) ⊕ Int) :=
 if v0<(↑s0.length:Int) then
 (atI s0 v0).bind fun x0 =>
 (ZcW x0 f0.fst f0.snd.fst).bind fun c1_0 =>
 if c1_0=true then
 some (.inr v0)
 else
 some (.inl (Wq (v0+1),()))
 else
 some (.inr (-1))
def Z4 (s0:List Int) (f0:Int×Int×Unit):Option Int :=
 Zm (fun v=>Ye s0 f0 v.1) ((0:Int),())
def Zye:Ctr:=D2 (.sl Iq) (.fn 216 (.pair (.ptr Iq) (.pair (.ptr Iq) (.unit)))) Iq Z4
def Yl (s0:List Int) (f0:Int×Int×Unit):Option Bool :=
 (Z4 s0 f0).bind fun c1_0 =>
 some (Decidable.decide (0≤c1_0))
def ZyT:Ctr:=D2 (.sl Iq) (.fn 216 (.pair (.ptr Iq) (.pair (.ptr Iq) (.unit)))) (.bool) Yl
def Y4 (list0:List Int) (low0:Int) (high0:Int):Option Bool :=
 (Yl list0 (low0,high0,())).bind fun c1_0 =>
 some !c1_0
def ZyU:Ctr:=D3 (.sl Iq) Iq Iq (.bool) Y4
def XR (list0:List Int) (i0:Int):Option ((Int×Unit) ⊕ Bool) :=
 if i0<(↑list0.length:Int) then
 (atI list0 (Wq (i0-1))).bind fun x0 =>
 (atI list0 i0).bind fun x1 =>
 if x1≤x0 then
 some (.inr Bool.false)
 else
 some (.inl (Wq (i0+1),()))
 else
 some (.inr Bool.true)
def QN (list0:List Int):Option Bool :=
 Zm (fun v=>XR list0 v.1) ((1:Int),())
def c124:Ctr:=D1 (.sl Iq) (.bool) QN
def Zez (list0:List Int):Option Bool :=
 (XD list0).bind fun int64_0 =>
 (YB int64_0 1 4).bind fun within0 =>
 if within0=true then
 (Y4 list0 0 100000).bind fun areWithin0 =>
 if areWithin0=true then
 (QN list0).bind fun isIncreasing0 =>
 some isIncreasing0
 else
 some Bool.false
 else
 some Bool.false
def ZyV:Ctr:=D1 (.sl Iq) (.bool) Zez
def Ze2 (t0:Zo):Option Bool :=
 (Zez (Zo.Zdy t0)).bind fun isAxis0 =>
 if isAxis0=true then
 (Zez (Zo.Loads t0)).bind fun isAxis1 =>
 if isAxis1=true then
 if (↑(List.length (Zo.Values t0)):Int)=Wq ((↑(List.length (Zo.Zdy t0)):Int)*(↑(List.length (Zo.Loads t0)):Int)) then
 (Y4 (Zo.Values t0) (-1000000) 1000000).bind fun areWithin0 =>
 some areWithin0
 else
 some Bool.false
 else
 some Bool.false
 else
 some Bool.false
def ZyW:Ctr:=D1 (YE) (.bool) Ze2
def Qy (x0:List Int) (m0:Int) (i0:Int):Option ((Int×Int×Unit) ⊕ Int) :=
 if i0<(↑x0.length:Int) then
 (atI x0 i0).bind fun x2 =>
 some (.inl (Min.min m0 x2,Wq (i0+1),()))
 else
 some (.inr m0)
def QG (x0:List Int):Option Int :=
 if (↑x0.length:Int)<1 then
 none
 else
 (atI x0 0).bind fun x1 =>
 Zm (fun v=>Qy x0 v.1 v.2.1) (x1,(1:Int),())
def c127:Ctr:=D1 (.sl Iq) Iq QG
def QM (t0:Zo) (a0:Bool):Option Bool :=
 (Ze2 t0).bind fun IsTable0 =>
 if IsTable0=true then
 if a0=true then
 (QG (Zo.Values t0)).bind fun int64_0 =>
 some (Decidable.decide (int64_0<0))
 else
 some Bool.false
 else
 some Bool.true
def ZyX:Ctr:=D2 (YE) (.ptr (.bool)) (.bool) QM
def ZR (s0:List Zo) (f0:Bool×Unit) (v0:Int):Option ((Int×Unit) ⊕ Int) :=
 if v0<(↑s0.length:Int) then
 (atI s0 v0).bind fun x0 =>
 (QM x0 f0.fst).bind fun c1_0 =>
 if c1_0=true then
 some (.inr v0)
 else
 some (.inl (Wq (v0+1),()))
 else
 some (.inr (-1))
def ZI (s0:List Zo) (f0:Bool×Unit):Option Int :=
 Zm (fun v=>ZR s0 f0 v.1) ((0:Int),())
def ZyY:Ctr:=D2 (.sl (YE)) (.fn 398 (.pair (.ptr (.bool)) (.unit))) Iq ZI
def ZC (s0:List Zo) (f0:Bool×Unit):Option Bool :=
 (ZI s0 f0).bind fun c1_0 =>
 some (Decidable.decide (0≤c1_0))
def c130:Ctr:=D2 (.sl (YE)) (.fn 398 (.pair (.ptr (.bool)) (.unit))) (.bool) ZC
def JA (list0:List Zo) (positive0:Bool):Option Bool :=
 if (↑list0.length:Int)=2 then
 (ZC list0 (positive0,())).bind fun c1_0 =>
 some !c1_0
 else
 some Bool.false
def c131:Ctr:=D2 (.sl (YE)) (.bool) (.bool) JA
def Zcd (p0:Yn):Option Bool :=
 some (Yn.Clock p0)
def Zxk:Ctr:=D1 (Zdx) (.bool) Zcd
def ZX (s0:List Yn) (v0:Int):Option ((Int×Unit) ⊕ Int) :=
 if v0<(↑s0.length:Int) then
 (atI s0 v0).bind fun x0 =>
 (Zcd x0).bind fun c1_0 =>
 if c1_0=true then
 some (.inr v0)
 else
 some (.inl (Wq (v0+1),()))
 else
 some (.inr (-1))
def ZM (s0:List Yn) (f0:Unit):Option Int :=
 Zm (fun v=>ZX s0 v.1) ((0:Int),())
def ZyZ:Ctr:=D2 (.sl (Zdx)) (.fn 402 (.unit)) Iq ZM
def Zcc (c0:Zi):Option Int :=
 (ZM (Zi.Yy c0) ()).bind fun c1_0 =>
 some c1_0
def Zy0:Ctr:=D1 (Qz) Iq Zcc
def Js (c0:Zi):Option Int :=
 (VO (Zi.Yy c0)).bind fun Pin0 =>
 some (Wq (Pin0-1))
def Zy1:Ctr:=D1 (Qz) Iq Js
def VR (c0:Zi) (pin0:Int):Option Bool :=
 (Js c0).bind fun output0 =>
 (YB pin0 0 (Wq (output0-1))).bind fun within0 =>
 some within0
def Zy2:Ctr:=D2 (Qz) Iq (.bool) VR
def Zce (a0:Zi) (a1:Zw):Option Bool :=
 (Ze4 (Zw.Kind a1)).bind fun isCheck0 =>
 if isCheck0=true then
 if Zw.Vi a1=0 then
 if (↑(List.length (Zw.X7 a1)):Int)=0 then
 (JA (Zw.Delay a1) Bool.false).bind fun areTables0 =>
 if areTables0=true then
 (Zcc a0).bind fun clock0 =>
 if Zw.From a1=clock0 then
 if 0≤Zw.From a1 then
 (VR a0 (Zw.To a1)).bind fun isInput0 =>
 if isInput0=true then
 some (!Decidable.decide (Zw.To a1=Zw.From a1))
 else
 some Bool.false
 else
 some Bool.false
 else
 some Bool.false
 else
 some Bool.false
 else
 some Bool.false
 else
 some Bool.false
 else
 (JA (Zw.Delay a1) Bool.true).bind fun areTables0 =>
 if areTables0=true then
 (JA (Zw.X7 a1) Bool.true).bind fun areTables1 =>
 if areTables1=true then
 (Js a0).bind fun output0 =>
 if Zw.To a1=output0 then
 (VR a0 (Zw.From a1)).bind fun isInput0 =>
 if isInput0=true then
 if Zw.Kind a1=1 then
 (atI (Zi.Yy a0) (Zw.From a1)).bind fun x0 =>
 if (Yn.Clock x0)=true then
 some Bool.false
 else
 (YB (Zw.Vi a1) 1 3).bind fun within0 =>
 some within0
 else
 if Zw.Kind a1=2 then
 if Zw.Kind a1=2 then
 (atI (Zi.Yy a0) (Zw.From a1)).bind fun x0 =>
 if (Yn.Clock x0)=true then
 some (Decidable.decide (Zw.Vi a1=0))
 else
 some Bool.false
 else
 some Bool.false
 else
 if Zw.Kind a1=3 then
 (atI (Zi.Yy a0) (Zw.From a1)).bind fun x0 =>
 if (Yn.Clock x0)=true then
 some (Decidable.decide (Zw.Vi a1=0))
 else
 some Bool.false
 else
 some Bool.false
 else
 some Bool.false
 else
 some Bool.false
 else
 some Bool.false
 else
 some Bool.false
def Zy3:Ctr:=D2 (Qz) (ZdP) (.bool) Zce
def X4 (o0:Zw) (a0:Zw):Option Bool :=
 if Zw.Kind o0=Zw.Kind a0 then
 if Zw.From o0=Zw.From a0 then
 some (Decidable.decide (Zw.To o0=Zw.To a0))
 else
 some Bool.false
 else
 some Bool.false
def c138:Ctr:=D2 (ZdP) (.ptr (ZdP)) (.bool) X4
def ZU (s0:List Zw) (f0:Zw×Unit) (v0:Int):Option ((Int×Unit) ⊕ Int) :=
 if v0<(↑s0.length:Int) then
 (atI s0 v0).bind fun x0 =>
 (X4 x0 f0.fst).bind fun c1_0 =>
 if c1_0=true then
 some (.inr v0)
 else
 some (.inl (Wq (v0+1),()))
 else
 some (.inr (-1))
def ZJ (s0:List Zw) (f0:Zw×Unit):Option Int :=
 Zm (fun v=>ZU s0 f0 v.1) ((0:Int),())
def c139:Ctr:=D2 (.sl (ZdP)) (.fn 376 (.pair (.ptr (ZdP)) (.unit))) Iq ZJ
def ZF (s0:List Zw) (f0:Zw×Unit):Option Bool :=
 (ZJ s0 f0).bind fun c1_0 =>
 some (Decidable.decide (0≤c1_0))
def Zy4:Ctr:=D2 (.sl (ZdP)) (.fn 376 (.pair (.ptr (ZdP)) (.unit))) (.bool) ZF
def Je (c0:Zi) (v0:Int):Option ((Int×Unit) ⊕ Bool) :=
 if v0<(↑(List.length (Zi.VI c0)):Int) then
 (atI (Zi.VI c0) v0).bind fun x0 =>
 (Zce c0 x0).bind fun isArc0 =>
 if isArc0=true then
 Zy ((0:Int)≤v0) <|
 Zy (v0≤(↑(List.length (Zi.VI c0)):Int)) <|
 (ZF (List.take (Int.toNat v0-Int.toNat 0) (List.drop (Int.toNat 0) (Zi.VI c0))) (x0,())).bind fun c1_0 =>
 if c1_0=true then
 some (.inr Bool.false)
 else
 some (.inl (Wq (v0+1),()))
 else
 some (.inr Bool.false)
 else
 some (.inr (Decidable.decide ((↑(List.length (Zi.VI c0)):Int)≤8)))
def ZaA (c0:Zi):Option Bool :=
 Zm (fun v=>Je c0 v.1) ((0:Int),())
def c141:Ctr:=D1 (Qz) (.bool) ZaA
def Zbh (a0:Zw) (a1:Int):Option Bool :=
 some (Decidable.decide (Zw.Kind a0=a1))
def Zy5:Ctr:=D2 (ZdP) (.ptr Iq) (.bool) Zbh
def Z5 (s0:List Zw) (f0:Int×Unit) (v0:Int):Option ((Int×Unit) ⊕ Int) :=
 if v0<(↑s0.length:Int) then
 (atI s0 v0).bind fun x0 =>
 (Zbh x0 f0.fst).bind fun c1_0 =>
 if c1_0=true then
 some (.inr v0)
 else
 some (.inl (Wq (v0+1),()))
 else
 some (.inr (-1))
def ZO (s0:List Zw) (f0:Int×Unit):Option Int :=
 Zm (fun v=>Z5 s0 f0 v.1) ((0:Int),())
def c143:Ctr:=D2 (.sl (ZdP)) (.fn 392 (.pair (.ptr Iq) (.unit))) Iq ZO
def ZK (s0:List Zw) (f0:Int×Unit):Option Bool :=
 (ZO s0 f0).bind fun c1_0 =>
 some (Decidable.decide (0≤c1_0))
def Zy6:Ctr:=D2 (.sl (ZdP)) (.fn 392 (.pair (.ptr Iq) (.unit))) (.bool) ZK
def QF (c0:Zi) (kind0:Int):Option Bool :=
 (ZK (Zi.VI c0) (kind0,())).bind fun c1_0 =>
 some c1_0
def c145:Ctr:=D2 (Qz) Iq (.bool) QF
def XA (a0:Zi) (v0:Int) (v1:Int):Option ((Int×Int×Unit) ⊕ Bool) :=
 if v1<(↑(List.length (Zi.Yy a0)):Int) then
 (atI (Zi.Yy a0) v1).bind fun x0 =>
 if (Yn.Clock x0)=true then
 some (.inl (Wq (v0+1),Wq (v1+1),()))
 else
 some (.inl (v0,Wq (v1+1),()))
 else
 if Zi.Kind a0=1 then
 if v0=0 then
 (Js a0).bind fun output0 =>
 Zy ((0:Int)≤output0) <|
 if (↑(List.length (Zi.Truth a0)):Int)=Wq (1*2 ^ Min.min (Int.toNat output0) (IntKind.bits IntKind.i64)) then
 (Y4 (Zi.Truth a0) 0 1).bind fun areWithin0 =>
 some (.inr areWithin0)
 else
 some (.inr Bool.false)
 else
 some (.inr Bool.false)
 else
 if Zi.Kind a0=2 then
 if v0=1 then
 if (↑(List.length (Zi.Truth a0)):Int)=0 then
 (QF a0 1).bind fun has0 =>
 if has0=true then
 some (.inr Bool.false)
 else
 (QF a0 2).bind fun has1 =>
 (QF a0 3).bind fun has2 =>
 some (.inr (!has1 == has2))
 else
 some (.inr Bool.false)
 else
 some (.inr Bool.false)
 else
 if Zi.Kind a0=3 then
 if v0=1 then
 if (↑(List.length (Zi.Truth a0)):Int)=0 then
 (QF a0 1).bind fun has0 =>
 if has0=true then
 (QF a0 2).bind fun has1 =>
 if has1=true then
 (QF a0 3).bind fun has2 =>
 some (.inr !has2)
 else
 some (.inr Bool.false)
 else
 some (.inr Bool.false)
 else
 some (.inr Bool.false)
 else
 some (.inr Bool.false)
 else
 some (.inr Bool.false)
def JN (a0:Zi):Option Bool :=
 Zm (fun v=>XA a0 v.1 v.2.1) ((0:Int),(0:Int),())
def c146:Ctr:=D1 (Qz) (.bool) JN
def Zgc (c0:Zi):Option Bool :=
 (ZcY (Zi.Name c0)).bind fun isName0 =>
 if isName0=true then
 (Ze3 (Zi.Yy c0)).bind fun arePins0 =>
 if arePins0=true then
 (ZaA c0).bind fun areArcs0 =>
 if areArcs0=true then
 (YB (Zi.Zuj c0) 0 100000).bind fun within0 =>
 if within0=true then
 (YB (Zi.Ziq c0) 0 100000).bind fun within1 =>
 if within1=true then
 (JN c0).bind fun isOfKind0 =>
 some isOfKind0
 else
 some Bool.false
 else
 some Bool.false
 else
 some Bool.false
 else
 some Bool.false
 else
 some Bool.false
def Zy7:Ctr:=D1 (Qz) (.bool) Zgc
def QA (l0:Zt) (names0:List (List UInt8)) (v0:Int):Option (((List (List UInt8))×Int×Unit) ⊕ Bool) :=
 if v0<(↑(List.length (Zt.Cells l0)):Int) then
 (atI (Zt.Cells l0) v0).bind fun x0 =>
 (Zgc x0).bind fun IsCell0 =>
 if IsCell0=true then
 Zy ((List.length names0+List.length [Zi.Name x0])*(16:Nat)≤(140737488355328:Nat)) <|
 some (.inl (names0++[Zi.Name x0],Wq (v0+(1:Int)),()))
 else
 some (.inr Bool.false)
 else
 if (↑(List.length (Zt.Cells l0)):Int)≤8 then
 (Vn names0).bind fun areNames0 =>
 some (.inr areNames0)
 else
 some (.inr Bool.false)
def Zde (l0:Zt):Option Bool :=
 Zm (fun v=>QA l0 v.1 v.2.1) (([]:List (List UInt8)),(0:Int),())
def c148:Ctr:=D1 (Yz) (.bool) Zde
def Vd (d0:Zc) (instances0:List (List UInt8)) (ports0:List (List UInt8)) (v1:Int):Option (((List (List UInt8))×Int×Unit) ⊕ (((List (List UInt8))×Int×Unit) ⊕ Bool)) :=
 if v1<(↑(List.length (Zc.Xi d0)):Int) then
 (atI (Zc.Xi d0) v1).bind fun x0 =>
 Zy ((List.length ports0+List.length [ZP.Name x0])*(16:Nat)≤(140737488355328:Nat)) <|
 some (.inl (ports0++[ZP.Name x0],Wq (v1+(1:Int)),()))
 else
 if (↑instances0.length:Int)≤14 then
 if (↑(List.length (Zc.Xf d0)):Int)≤30 then
 if (↑ports0.length:Int)≤8 then
 (Vn instances0).bind fun areNames0 =>
 if areNames0=true then
 (Vn (Zc.Xf d0)).bind fun areNames1 =>
 if areNames1=true then
 (Vn ports0).bind fun areNames2 =>
 some (.inr (.inr areNames2))
 else
 some (.inr (.inr Bool.false))
 else
 some (.inr (.inr Bool.false))
 else
 some (.inr (.inr Bool.false))
 else
 some (.inr (.inr Bool.false))
 else
 some (.inr (.inr Bool.false))
def Ve (d0:Zc) (instances0:List (List UInt8)) (v0:Int):Option (((List (List UInt8))×Int×Unit) ⊕ Bool) :=
 if v0<(↑(List.length (Zc.Instances d0)):Int) then
 (atI (Zc.Instances d0) v0).bind fun x0 =>
 Zy ((List.length instances0+List.length [Zg.Name x0])*(16:Nat)≤(140737488355328:Nat)) <|
 some (.inl (instances0++[Zg.Name x0],Wq (v0+(1:Int)),()))
 else
 Zm (fun v=>Vd d0 instances0 v.1 v.2.1) (([]:List (List UInt8)),(0:Int),())
def VL (d0:Zc):Option Bool :=
 Zm (fun v=>Ve d0 v.1 v.2.1) (([]:List (List UInt8)),(0:Int),())
def Zyf:Ctr:=D1 (Yu) (.bool) VL
def J7 (list0:List Zi):Option Int :=
 some (↑list0.length:Int)
def Zy8:Ctr:=D1 (.sl (Qz)) Iq J7
def Zcl (list0:List (List UInt8)):Option Int :=
 some (↑list0.length:Int)
def Zy9:Ctr:=D1 (.sl (.str)) Iq Zcl
def Qg (d0:Zc) (net0:Int):Option Bool :=
 (Zcl (Zc.Xf d0)).bind fun string0 =>
 (YB net0 0 (Wq (string0-1))).bind fun within0 =>
 some within0
def c152:Ctr:=D2 (Yu) Iq (.bool) Qg
def Xt (net0:Int) (a0:Zc):Option Bool :=
 (Qg a0 net0).bind fun isNet0 =>
 some !isNet0
def Zza:Ctr:=D2 Iq (.ptr (Yu)) (.bool) Xt
def ZV (s0:List Int) (f0:Zc×Unit) (v0:Int):Option ((Int×Unit) ⊕ Int) :=
 if v0<(↑s0.length:Int) then
 (atI s0 v0).bind fun x0 =>
 (Xt x0 f0.fst).bind fun c1_0 =>
 if c1_0=true then
 some (.inr v0)
 else
 some (.inl (Wq (v0+1),()))
 else
 some (.inr (-1))
def ZL (s0:List Int) (f0:Zc×Unit):Option Int :=
 Zm (fun v=>ZV s0 f0 v.1) ((0:Int),())
def c154:Ctr:=D2 (.sl Iq) (.fn 305 (.pair (.ptr (Yu)) (.unit))) Iq ZL
def ZG (s0:List Int) (f0:Zc×Unit):Option Bool :=
 (ZL s0 f0).bind fun c1_0 =>
 some (Decidable.decide (0≤c1_0))
def Zzb:Ctr:=D2 (.sl Iq) (.fn 305 (.pair (.ptr (Yu)) (.unit))) (.bool) ZG
def Q7 (d0:Zc) (l0:Zt) (x0:Zg):Option Bool :=
 (J7 (Zt.Cells l0)).bind fun Cell0 =>
 (YB (Zg.Cell x0) 0 (Wq (Cell0-1))).bind fun within0 =>
 if within0=true then
 (atI (Zt.Cells l0) (Zg.Cell x0)).bind fun x1 =>
 if (↑(List.length (Zg.Xf x0)):Int)=(↑(List.length (Zi.Yy x1)):Int) then
 (ZG (Zg.Xf x0) (d0,())).bind fun c1_0 =>
 some !c1_0
 else
 some Bool.false
 else
 some Bool.false
def c156:Ctr:=D3 (Yu) (Yz) (ZT) (.bool) Q7
def Zbi (n0:Int):Option Bool :=
 some (!Decidable.decide (n0=1))
def c157:Ctr:=D1 Iq (.bool) Zbi
def Yq (s0:List Int) (v0:Int):Option ((Int×Unit) ⊕ Int) :=
 if v0<(↑s0.length:Int) then
 (atI s0 v0).bind fun x0 =>
 (Zbi x0).bind fun c1_0 =>
 if c1_0=true then
 some (.inr v0)
 else
 some (.inl (Wq (v0+1),()))
 else
 some (.inr (-1))
def Yg (s0:List Int) (f0:Unit):Option Int :=
 Zm (fun v=>Yq s0 v.1) ((0:Int),())
def Zw4:Ctr:=D2 (.sl Iq) (.fn 259 (.unit)) Iq Yg
def Z9 (s0:List Int) (f0:Unit):Option Bool :=
 (Yg s0 ()).bind fun c1_0 =>
 some (Decidable.decide (0≤c1_0))
def c159:Ctr:=D2 (.sl Iq) (.fn 259 (.unit)) (.bool) Z9
def QU (a1:Zc) (v1:Int) (l1:List Int):Option ((Int×(List Int)×Unit) ⊕ ((Int×(List Int)×Unit) ⊕ Bool)) :=
 if v1<(↑(List.length (Zc.Xi a1)):Int) then
 (atI (Zc.Xi a1) v1).bind fun x0 =>
 if ZP.Dir x0=1 then
 (Qg a1 (ZP.Net x0)).bind fun isNet0 =>
 if isNet0=true then
 if ZP.Dir x0=1 then
 (atI l1 (ZP.Net x0)).bind fun x1 =>
 some (.inl (Wq (v1+1),List.set l1 (Int.toNat (ZP.Net x0)) (Wq (x1+1)),()))
 else
 some (.inl (Wq (v1+1),l1,()))
 else
 some (.inr (.inr Bool.false))
 else
 if ZP.Dir x0=2 then
 (Qg a1 (ZP.Net x0)).bind fun isNet0 =>
 if isNet0=true then
 if ZP.Dir x0=1 then
 (atI l1 (ZP.Net x0)).bind fun x1 =>
 some (.inl (Wq (v1+1),List.set l1 (Int.toNat (ZP.Net x0)) (Wq (x1+1)),()))
 else
 some (.inl (Wq (v1+1),l1,()))
 else
 some (.inr (.inr Bool.false))
 else
 some (.inr (.inr Bool.false))
 else
 (Z9 l1 ()).bind fun c1_0 =>
 some (.inr (.inr !c1_0))
def Jg (a0:Zt) (a1:Zc) (v0:Int) (l0:List Int):Option ((Int×(List Int)×Unit) ⊕ Bool) :=
 if v0<(↑(List.length (Zc.Instances a1)):Int) then
 (atI (Zc.Instances a1) v0).bind fun x0 =>
 (Q7 a1 a0 x0).bind fun isInstance0 =>
 if isInstance0=true then
 (atI (Zg.Xf x0) (Wq ((↑(List.length (Zg.Xf x0)):Int)-1))).bind fun x1 =>
 (atI l0 x1).bind fun x2 =>
 some (.inl (Wq (v0+1),List.set l0 (Int.toNat x1) (Wq (x2+1)),()))
 else
 some (.inr Bool.false)
 else
 Zm (fun v=>QU a1 v.1 v.2.1) ((0:Int),l0,())
def Zd9 (a0:Zt) (a1:Zc):Option Bool :=
 (Zde a0).bind fun IsLibrary0 =>
 if IsLibrary0=true then
 (VL a1).bind fun hasNames0 =>
 if hasNames0=true then
 Zy ((0:Int)≤(↑(List.length (Zc.Xf a1)):Int)) <|
 Zy ((↑(List.length (Zc.Xf a1)):Int)≤(↑(List.length (Zc.Xf a1)):Int)) <|
 Zy ((↑(List.length (Zc.Xf a1)):Int)≤(4611686018427387904:Int)) <|
 Zy ((↑(8:Nat):Int)*(↑(List.length (Zc.Xf a1)):Int)≤(281474976710656:Int)) <|
 Zm (fun v=>Jg a0 a1 v.1 v.2.1) ((0:Int),List.replicate (Int.toNat (↑(List.length (Zc.Xf a1)):Int)) (0:Int),())
 else
 some Bool.false
 else
 some Bool.false
def c160:Ctr:=D2 (Yz) (Yu) (.bool) Zd9
def VT (v0:Int) (x0:Zg) (list1:List YD) (v1:Int):Option (((List YD)×Int×Unit) ⊕ (((List YD)×Int×Unit) ⊕ List YD)) :=
 if v1<(↑(List.length (Zg.Xf x0)):Int) then
 (atI (Zg.Xf x0) v1).bind fun x1 =>
 Zy ((List.length list1+List.length [(v0,v1,x1,Decidable.decide (v1=Wq ((↑(List.length (Zg.Xf x0)):Int)-(1:Int))),())])*(32:Nat)≤(140737488355328:Nat)) <|
 some (.inl (list1++[(v0,v1,x1,Decidable.decide (v1=Wq ((↑(List.length (Zg.Xf x0)):Int)-(1:Int))),())],Wq (v1+(1:Int)),()))
 else
 some (.inr (.inl (list1,Wq (v0+1),())))
def VU (d0:Zc) (list1:List YD) (v1:Int):Option (((List YD)×Int×Unit) ⊕ (((List YD)×Int×Unit) ⊕ List YD)) :=
 if v1<(↑(List.length (Zc.Xi d0)):Int) then
 (atI (Zc.Xi d0) v1).bind fun x0 =>
 Zy ((List.length list1+List.length [((-1:Int),v1,ZP.Net x0,Decidable.decide (ZP.Dir x0=(1:Int)),())])*(32:Nat)≤(140737488355328:Nat)) <|
 some (.inl (list1++[((-1:Int),v1,ZP.Net x0,Decidable.decide (ZP.Dir x0=(1:Int)),())],Wq (v1+(1:Int)),()))
 else
 some (.inr (.inr list1))
def VW (d0:Zc) (list0:List YD) (v0:Int):Option (((List YD)×Int×Unit) ⊕ List YD) :=
 if v0<(↑(List.length (Zc.Instances d0)):Int) then
 (atI (Zc.Instances d0) v0).bind fun x0 =>
 Zm (fun v=>VT v0 x0 v.1 v.2.1) (list0,(0:Int),())
 else
 Zm (fun v=>VU d0 v.1 v.2.1) (list0,(0:Int),())
def XQ (d0:Zc):Option (List YD) :=
 Zm (fun v=>VW d0 v.1 v.2.1) (([]:List YD),(0:Int),())
def Zzc:Ctr:=⟨[.dat (Yu)],[.own (.ol 199 (.flat (ZiJ)))],fun a K=>splitK a fun d0 a=>Yv (XQ d0) fun r=>K (r,()) ()⟩
def JH (w0:Zp) (v0:Int):Option ((Int×Unit) ⊕ Bool) :=
 if v0<(↑(List.length (Zp.Parent w0)):Int) then
 (atI (Zp.Parent w0) v0).bind fun x0 =>
 if v0=0 then
 if x0=(-1) then
 (atI (Zp.Res w0) 0).bind fun x1 =>
 if x1=0 then
 if 0<v0 then
 (YB x0 0 (Wq (v0-1))).bind fun within0 =>
 if within0=true then
 some (.inl (Wq (v0+1),()))
 else
 some (.inr Bool.false)
 else
 some (.inl (Wq (v0+1),()))
 else
 some (.inr Bool.false)
 else
 some (.inr Bool.false)
 else
 if 0<v0 then
 (YB x0 0 (Wq (v0-1))).bind fun within0 =>
 if within0=true then
 some (.inl (Wq (v0+1),()))
 else
 some (.inr Bool.false)
 else
 some (.inl (Wq (v0+1),()))
 else
 some (.inr Bool.true)
def Zbj (w0:Zp):Option Bool :=
 Zm (fun v=>JH w0 v.1) ((0:Int),())
def c162:Ctr:=D1 (VG) (.bool) Zbj
def Zgd (w0:Zp) (sinks0:Int):Option Bool :=
 (XD (Zp.Parent w0)).bind fun int64_0 =>
 (YB int64_0 1 8).bind fun within0 =>
 if within0=true then
 (XD (Zp.Res w0)).bind fun int64_1 =>
 if int64_1=int64_0 then
 (XD (Zp.Cap w0)).bind fun int64_2 =>
 if int64_2=int64_0 then
 (Zbj w0).bind fun isTree0 =>
 if isTree0=true then
 (Y4 (Zp.Res w0) 0 1000).bind fun areWithin0 =>
 if areWithin0=true then
 (Y4 (Zp.Cap w0) 0 500).bind fun areWithin1 =>
 if areWithin1=true then
 (XD (Zp.ZdO w0)).bind fun int64_3 =>
 if int64_3=sinks0 then
 (Y4 (Zp.ZdO w0) 0 (Wq (int64_0-1))).bind fun areWithin2 =>
 some areWithin2
 else
 some Bool.false
 else
 some Bool.false
 else
 some Bool.false
 else
 some Bool.false
 else
 some Bool.false
 else
 some Bool.false
 else
 some Bool.false
def Zzd:Ctr:=D2 (VG) Iq (.bool) Zgd
def Zcf (b0:Zd) (l0:List Int) (v1:Int):Option ((Int×Unit) ⊕ ((Int×(List Int)×Unit) ⊕ Bool)) :=
 if v1<(↑(List.length (Zd.YG b0)):Int) then
 (atI (Zd.YG b0) v1).bind fun x0 =>
 (atI l0 v1).bind fun x1 =>
 (Zgd x0 x1).bind fun IsWire0 =>
 if IsWire0=true then
 some (.inl (Wq (v1+1),()))
 else
 some (.inr (.inr Bool.false))
 else
 some (.inr (.inr Bool.true))
def JO (b0:Zd) (places0:List YD) (v0:Int) (l0:List Int):Option ((Int×(List Int)×Unit) ⊕ Bool) :=
 if v0<(↑places0.length:Int) then
 (atI places0 v0).bind fun x0 =>
 if (YD.drives x0)=true then
 some (.inl (Wq (v0+1),l0,()))
 else
 (atI l0 (YD.net x0)).bind fun x1 =>
 some (.inl (Wq (v0+1),List.set l0 (Int.toNat (YD.net x0)) (Wq (x1+1)),()))
 else
 Zm (fun v=>Zcf b0 l0 v.1) ((0:Int),())
def Ze1 (b0:Zd):Option Bool :=
 (Zd9 (Zd.Library b0) (Zd.Design b0)).bind fun IsDesign0 =>
 if IsDesign0=true then
 if (↑(List.length (Zd.YG b0)):Int)=(↑(List.length (Zc.Xf (Zd.Design b0))):Int) then
 Zy ((0:Int)≤(↑(List.length (Zd.YG b0)):Int)) <|
 Zy ((↑(List.length (Zd.YG b0)):Int)≤(↑(List.length (Zd.YG b0)):Int)) <|
 Zy ((↑(List.length (Zd.YG b0)):Int)≤(4611686018427387904:Int)) <|
 Zy ((↑(8:Nat):Int)*(↑(List.length (Zd.YG b0)):Int)≤(281474976710656:Int)) <|
 (XQ (Zd.Design b0)).bind fun places0 =>
 Zm (fun v=>JO b0 places0 v.1 v.2.1) ((0:Int),List.replicate (Int.toNat (↑(List.length (Zd.YG b0)):Int)) (0:Int),())
 else
 some Bool.false
 else
 some Bool.false
def c164:Ctr:=D1 (Yt) (.bool) Ze1
def J5 (early0:Int) (late0:Int):Option Bool :=
 if 100≤early0 then
 if early0≤late0 then
 some (Decidable.decide (late0≤5000))
 else
 some Bool.false
 else
 some Bool.false
def Zze:Ctr:=D2 Iq Iq (.bool) J5
def Zd8 (c0:Zv):Option Bool :=
 (ZcY (Zv.Name c0)).bind fun isName0 =>
 if isName0=true then
 (J5 (Zv.JZ c0) (Zv.Zbg c0)).bind fun areFactors0 =>
 if areFactors0=true then
 (J5 (Zv.J2 c0) (Zv.Zb3 c0)).bind fun areFactors1 =>
 some areFactors1
 else
 some Bool.false
 else
 some Bool.false
def Zzf:Ctr:=D1 (X3) (.bool) Zd8
def VJ (a0:Zw):Option (List (Int×Int×Unit)) :=
 if Zw.Kind a0=2 then
 some ([((0:Int),(0:Int),()),((0:Int),(1:Int),())])
 else
 if Zw.Kind a0=3 then
 some ([((1:Int),(0:Int),()),((1:Int),(1:Int),())])
 else
 if Zw.Kind a0=1 then
 if Zw.Vi a0=1 then
 some ([((0:Int),(0:Int),()),((1:Int),(1:Int),())])
 else
 if Zw.Vi a0=2 then
 some ([((0:Int),(1:Int),()),((1:Int),(0:Int),())])
 else
 some ([((0:Int),(0:Int),()),((0:Int),(1:Int),()),((1:Int),(0:Int),()),((1:Int),(1:Int),())])
 else
 some ([]:List (Int×Int×Unit))
def c167:Ctr:=⟨[.dat (ZdP)],[.own (.ol 332 (.flat (.pair Iq (.pair Iq (.unit)))))],fun a K=>splitK a fun a0 a=>Yv (VJ a0) fun r=>K (r,()) ()⟩
def Va (first0:Int) (v0:Int) (x2:Zw) (transitions0:List (Int×Int×Unit)) (list1:List Zq) (v1:Int):Option (((List Zq)×Int×Unit) ⊕ (((List Zq)×Int×Unit) ⊕ List Zq)) :=
 if v1<(↑transitions0.length:Int) then
 (atI transitions0 v1).bind fun x3 =>
 Zy ((List.length list1+List.length [(Wq (Wq ((2:Int)*Wq (first0+Zw.From x2))+x3.fst),Wq (Wq ((2:Int)*Wq (first0+Zw.To x2))+x3.snd.fst),(1:Int),v0,())])*(32:Nat)≤(140737488355328:Nat)) <|
 some (.inl (list1++[(Wq (Wq ((2:Int)*Wq (first0+Zw.From x2))+x3.fst),Wq (Wq ((2:Int)*Wq (first0+Zw.To x2))+x3.snd.fst),(1:Int),v0,())],Wq (v1+(1:Int)),()))
 else
 some (.inr (.inl (list1,Wq (v0+1),())))
def Vb (first0:Int) (x1:Zi) (list0:List Zq) (v0:Int):Option (((List Zq)×Int×Unit) ⊕ List Zq) :=
 if v0<(↑(List.length (Zi.VI x1)):Int) then
 (atI (Zi.VI x1) v0).bind fun x2 =>
 (VJ x2).bind fun transitions0 =>
 Zm (fun v=>Va first0 v0 x2 transitions0 v.1 v.2.1) (list0,(0:Int),())
 else
 some (.inr list0)
def VK (b0:Zd) (x0:Zg) (first0:Int):Option (List Zq) :=
 (atI (Zt.Cells (Zd.Library b0)) (Zg.Cell x0)).bind fun x1 =>
 Zm (fun v=>Vb first0 x1 v.1 v.2.1) (([]:List Zq),(0:Int),())
def c168:Ctr:=⟨[.dat (Yt),.dat (ZT),.dat Iq],[.own (.ol 183 (.flat (JY)))],fun a K=>splitK a fun b0 a=>splitK a fun x0 a=>splitK a fun first0 a=>Yv (VK b0 x0 first0) fun r=>K (r,()) ()⟩
def Xv (s0:List Int):Option (List Int) :=
 Zy ((List.length (([]:List Int))+List.length s0)*(8:Nat)≤(140737488355328:Nat)) <|
 some (([]:List Int)++s0)
def Zyg:Ctr:=⟨[.dat (.sl Iq)],[.own (.ol 2 (.flat Iq))],fun a K=>splitK a fun s0 a=>Yv (Xv s0) fun r=>K (r,()) ()⟩
def Jf (net0:Int) (places0:List YD) (list0:List Int) (v0:Int):Option (((List Int)×Int×Unit) ⊕ List Int) :=
 if v0<(↑places0.length:Int) then
 (atI places0 v0).bind fun x0 =>
 if YD.net x0=net0 then
 if (YD.drives x0)=true then
 some (.inl (list0,Wq (v0+1),()))
 else
 Zy ((List.length list0+List.length [v0])*(8:Nat)≤(140737488355328:Nat)) <|
 some (.inl (list0++[v0],Wq (v0+(1:Int)),()))
 else
 some (.inl (list0,Wq (v0+1),()))
 else
 some (.inr list0)
def ZaB (d0:Zc) (net0:Int):Option (List Int) :=
 (XQ d0).bind fun places0 =>
 Zm (fun v=>Jf net0 places0 v.1 v.2.1) (([]:List Int),(0:Int),())
def Zzg:Ctr:=⟨[.dat (Yu),.dat Iq],[.own (.ol 2 (.flat Iq))],fun a K=>splitK a fun d0 a=>splitK a fun net0 a=>Yv (ZaB d0 net0) fun r=>K (r,()) ()⟩
def QL (d0:Zc) (l0:Zt) (p0:YD):Option Int :=
 if YD.instance p0<0 then
 some 0
 else
 (atI (Zc.Instances d0) (YD.instance p0)).bind fun x0 =>
 (atI (Zt.Cells l0) (Zg.Cell x0)).bind fun x1 =>
 (atI (Zi.Yy x1) (YD.pin p0)).bind fun x2 =>
 some (Yn.Cap x2)
def c171:Ctr:=D3 (Yu) (Yz) (ZiJ) Iq QL
def Xg (x0:Zp) (v1:Int) (l1:List Int):Option ((Int×(List Int)×Unit) ⊕ ((Int×(List Int)×Unit) ⊕ List Int)) :=
 if 0<v1 then
 (atI (Zp.Parent x0) v1).bind fun x1 =>
 (atI l1 x1).bind fun x2 =>
 (atI l1 v1).bind fun x3 =>
 some (.inl (Wq (v1-1),List.set l1 (Int.toNat x1) (Wq (x2+x3)),()))
 else
 some (.inr (.inr l1))
def YH (a0:Zd) (x0:Zp) (places0:List YD) (sinks0:List Int) (v0:Int) (l0:List Int):Option ((Int×(List Int)×Unit) ⊕ List Int) :=
 if v0<(↑sinks0.length:Int) then
 (atI sinks0 v0).bind fun x1 =>
 (atI (Zp.ZdO x0) v0).bind fun x2 =>
 (atI l0 x2).bind fun x3 =>
 (atI places0 x1).bind fun x4 =>
 (QL (Zd.Design a0) (Zd.Library a0) x4).bind fun capOf0 =>
 some (.inl (Wq (v0+1),List.set l0 (Int.toNat x2) (Wq (x3+capOf0)),()))
 else
 Zm (fun v=>Xg x0 v.1 v.2.1) (Wq ((↑l0.length:Int)-(1:Int)),l0,())
def Yh (a0:Zd) (a1:Int):Option (List Int) :=
 (atI (Zd.YG a0) a1).bind fun x0 =>
 (Xv (Zp.Cap x0)).bind fun int64_0 =>
 (XQ (Zd.Design a0)).bind fun places0 =>
 (ZaB (Zd.Design a0) a1).bind fun sinks0 =>
 Zm (fun v=>YH a0 x0 places0 sinks0 v.1 v.2.1) ((0:Int),int64_0,())
def Zzh:Ctr:=⟨[.dat (Yt),.dat Iq],[.own (.ol 2 (.flat Iq))],fun a K=>splitK a fun a0 a=>splitK a fun a1 a=>Yv (Yh a0 a1) fun r=>K (r,()) ()⟩
def Y1 (x0:Zp) (nodeLoads0:List Int) (i0:Int) (l0:List Int):Option ((Int×(List Int)×Unit) ⊕ List Int) :=
 if i0<(↑l0.length:Int) then
 (atI (Zp.Parent x0) i0).bind fun x1 =>
 (atI l0 x1).bind fun x2 =>
 (atI (Zp.Res x0) i0).bind fun x3 =>
 (atI nodeLoads0 i0).bind fun x4 =>
 (atI l0 i0).bind fun x5 =>
 some (.inl (Wq (i0+1),List.set l0 (Int.toNat i0) (Wq (x2+Wq (x3*x4))),()))
 else
 some (.inr l0)
def Xz (b0:Zd) (net0:Int):Option (List Int) :=
 (atI (Zd.YG b0) net0).bind fun x0 =>
 (Yh b0 net0).bind fun nodeLoads0 =>
 Zy ((0:Int)≤(↑nodeLoads0.length:Int)) <|
 Zy ((↑nodeLoads0.length:Int)≤(↑nodeLoads0.length:Int)) <|
 Zy ((↑nodeLoads0.length:Int)≤(4611686018427387904:Int)) <|
 Zy ((↑(8:Nat):Int)*(↑nodeLoads0.length:Int)≤(281474976710656:Int)) <|
 Zm (fun v=>Y1 x0 nodeLoads0 v.1 v.2.1) ((1:Int),List.replicate (Int.toNat (↑nodeLoads0.length:Int)) (0:Int),())
def c173:Ctr:=⟨[.dat (Yt),.dat Iq],[.own (.ol 2 (.flat Iq))],fun a K=>splitK a fun b0 a=>splitK a fun net0 a=>Yv (Xz b0 net0) fun r=>K (r,()) ()⟩
def YV (nodeDelays0:List Int) (x0:Zp) (out0:List Int) (v0:Int):Option (((List Int)×Int×Unit) ⊕ List Int) :=
 if v0<(↑(List.length (Zp.ZdO x0)):Int) then
 (atI (Zp.ZdO x0) v0).bind fun x1 =>
 (atI nodeDelays0 x1).bind fun x2 =>
 Zy ((List.length out0+List.length [x2])*(8:Nat)≤(140737488355328:Nat)) <|
 some (.inl (out0++[x2],Wq (v0+(1:Int)),()))
 else
 some (.inr out0)
def YT (b0:Zd) (net0:Int):Option (List Int) :=
 (Xz b0 net0).bind fun nodeDelays0 =>
 (atI (Zd.YG b0) net0).bind fun x0 =>
 Zm (fun v=>YV nodeDelays0 x0 v.1 v.2.1) (([]:List Int),(0:Int),())
def Zw5:Ctr:=⟨[.dat (Yt),.dat Iq],[.own (.ol 2 (.flat Iq))],fun a K=>splitK a fun b0 a=>splitK a fun net0 a=>Yv (YT b0 net0) fun r=>K (r,()) ()⟩
def Vp (l0:List Int) (v3:Int) (v4:Int) (x2:Int) (v5:Int) (c5:List Zq):Option ((Int×(List Zq)×Unit) ⊕ ((Int×(List Zq)×Unit) ⊕ ((Int×(List Int)×(List (List Int))×(List Zq)×(List (List Int))×Unit) ⊕ ((Int×(List Int)×(List (List Int))×Unit) ⊕ ((Int×Int×(List Zq)×Unit) ⊕ ZE))))) :=
 if v5<2 then
 (atI l0 v3).bind fun x3 =>
 Zy ((List.length c5+List.length [(Wq (Wq ((2:Int)*x3)+v5),Wq (Wq ((2:Int)*x2)+v5),(2:Int),v4,())])*(32:Nat)≤(140737488355328:Nat)) <|
 some (.inl (Wq (v5+(1:Int)),c5++[(Wq (Wq ((2:Int)*x3)+v5),Wq (Wq ((2:Int)*x2)+v5),(2:Int),v4,())],()))
 else
 some (.inr (.inl (Wq (v4+1),c5,())))
def JQ (l0:List Int) (v3:Int) (c1:List Int) (c2:List (List Int)) (l2:List (List Int)) (x0:Int) (exactDelays0:List Int) (x1:List Int) (v4:Int) (c4:List Zq):Option ((Int×(List Zq)×Unit) ⊕ ((Int×(List Int)×(List (List Int))×(List Zq)×(List (List Int))×Unit) ⊕ ((Int×(List Int)×(List (List Int))×Unit) ⊕ ((Int×Int×(List Zq)×Unit) ⊕ ZE)))) :=
 if v4<(↑x1.length:Int) then
 (atI x1 v4).bind fun x2 =>
 Zm (fun v=>Vp l0 v3 v4 x2 v.1 v.2.1) ((0:Int),c4,())
 else
 some (.inr (.inl (Wq (v3+(1:Int)),c1++[x0],c2++[exactDelays0],c4,List.set l2 (Int.toNat v3) x1,())))
def JR (a0:Zd) (places0:List YD) (l0:List Int) (v3:Int) (c1:List Int) (c2:List (List Int)) (c3:List Zq) (l2:List (List Int)):Option ((Int×(List Int)×(List (List Int))×(List Zq)×(List (List Int))×Unit) ⊕ ((Int×(List Int)×(List (List Int))×Unit) ⊕ ((Int×Int×(List Zq)×Unit) ⊕ ZE))) :=
 if v3<(↑(List.length (Zd.YG a0)):Int) then
 (Yh a0 v3).bind fun nodeLoads0 =>
 (atI nodeLoads0 0).bind fun x0 =>
 Zy ((List.length c1+List.length [x0])*(8:Nat)≤(140737488355328:Nat)) <|
 (YT a0 v3).bind fun exactDelays0 =>
 Zy ((List.length c2+List.length [exactDelays0])*(24:Nat)≤(140737488355328:Nat)) <|
 (atI l2 v3).bind fun x1 =>
 Zm (fun v=>JQ l0 v3 c1 c2 l2 x0 exactDelays0 x1 v.1 v.2.1) ((0:Int),c3,())
 else
 some (.inr (.inr (.inr (a0,places0,c3,c1,c2,([]:List Int),()))))
def JU (a0:Zd) (places0:List YD) (c0:List Zq) (v2:Int) (l0:List Int) (l1:List (List Int)):Option ((Int×(List Int)×(List (List Int))×Unit) ⊕ ((Int×Int×(List Zq)×Unit) ⊕ ZE)) :=
 if v2<(↑places0.length:Int) then
 (atI places0 v2).bind fun x0 =>
 if (YD.drives x0)=true then
 (atI l0 (YD.net x0)).bind fun x1 =>
 some (.inl (Wq (v2+1),List.set l0 (Int.toNat (YD.net x0)) v2,l1,()))
 else
 (atI l1 (YD.net x0)).bind fun x1 =>
 Zy ((List.length x1+List.length [v2])*(8:Nat)≤(140737488355328:Nat)) <|
 some (.inl (Wq (v2+(1:Int)),l0,List.set l1 (Int.toNat (YD.net x0)) (x1++[v2]),()))
 else
 Zm (fun v=>JR a0 places0 l0 v.1 v.2.1 v.2.2.1 v.2.2.2.1 v.2.2.2.2.1) ((0:Int),([]:List Int),([]:List (List Int)),c0,l1,())
def Zcm (a0:Zd) (places0:List YD) (v0:Int) (v1:Int) (c0:List Zq):Option ((Int×Int×(List Zq)×Unit) ⊕ ZE) :=
 if v1<(↑(List.length (Zc.Instances (Zd.Design a0))):Int) then
 (atI (Zc.Instances (Zd.Design a0)) v1).bind fun x0 =>
 (VK a0 x0 v0).bind fun cellLinks0 =>
 Zy ((List.length c0+List.length cellLinks0)*(32:Nat)≤(140737488355328:Nat)) <|
 (XD (Zg.Xf x0)).bind fun int64_0 =>
 some (.inl (Wq (v0+int64_0),Wq (v1+1),c0++cellLinks0,()))
 else
 Zy ((0:Int)≤(↑(List.length (Zd.YG a0)):Int)) <|
 Zy ((↑(List.length (Zd.YG a0)):Int)≤(↑(List.length (Zd.YG a0)):Int)) <|
 Zy ((↑(List.length (Zd.YG a0)):Int)≤(4611686018427387904:Int)) <|
 Zy ((↑(8:Nat):Int)*(↑(List.length (Zd.YG a0)):Int)≤(281474976710656:Int)) <|
 Zy ((↑(24:Nat):Int)*(↑(List.length (Zd.YG a0)):Int)≤(281474976710656:Int)) <|
 Zm (fun v=>JU a0 places0 c0 v.1 v.2.1 v.2.2.1) ((0:Int),List.replicate (Int.toNat (↑(List.length (Zd.YG a0)):Int)) (0:Int),List.replicate (Int.toNat (↑(List.length (Zd.YG a0)):Int)) (([]:List Int)),())
def ZdA (a0:Zd):Option ZE :=
 (XQ (Zd.Design a0)).bind fun places0 =>
 Zm (fun v=>Zcm a0 places0 v.1 v.2.1 v.2.2.1) ((0:Int),(0:Int),([]:List Zq),())
def c175:Ctr:=D1 (Yt) (.ptr (Zjc)) ZdA
def Qb (list0:List YD):Option Int :=
 some (↑list0.length:Int)
def Zzi:Ctr:=D1 (.sl (ZiJ)) Iq Qb
def YM (v0:ZE):Option Int :=
 (Qb (ZE.places v0)).bind fun place0 =>
 some (Wq (2*place0))
def Zzj:Ctr:=D1 (.ptr (Zjc)) Iq YM
def ZdS (list0:List Bool):Option Int :=
 some (↑list0.length:Int)
def Zxl:Ctr:=D1 (.sl (.bool)) Iq ZdS
def Qn (list0:List Zu):Option Int :=
 some (↑list0.length:Int)
def Zzk:Ctr:=D1 (.sl (XJ)) Iq Qn
def Zgf (t0:Int):Option Bool :=
 (YB t0 (-1000000000) 1000000000).bind fun within0 =>
 some within0
def Zyh:Ctr:=D1 Iq (.bool) Zgf
def ZcU (s0:Zu):Option Bool :=
 (Zgf (Zu.Early s0)).bind fun isTime0 =>
 if isTime0=true then
 (Zgf (Zu.Late s0)).bind fun isTime1 =>
 if isTime1=true then
 some (Decidable.decide (Zu.Early s0≤Zu.Late s0))
 else
 some Bool.false
 else
 some Bool.false
def Zzl:Ctr:=D1 (XJ) (.bool) ZcU
def Zge (n0:Int):Option Bool :=
 (YB n0 0 1000000).bind fun within0 =>
 some within0
def c182:Ctr:=D1 Iq (.bool) Zge
def Zch (s0:Zu):Option Bool :=
 (ZcU s0).bind fun IsSpan0 =>
 if IsSpan0=true then
 (Zge (Zu.Early s0)).bind fun isSlew0 =>
 if isSlew0=true then
 (Zge (Zu.Late s0)).bind fun isSlew1 =>
 some isSlew1
 else
 some Bool.false
 else
 some Bool.false
def c183:Ctr:=D1 (XJ) (.bool) Zch
def Qr (a1:Zk) (v0:Int):Option ((Int×Unit) ⊕ Bool) :=
 if v0<(↑(List.length (Zk.Reached a1)):Int) then
 (atI (Zk.Reached a1) v0).bind fun x0 =>
 (atI (Zk.ZB a1) v0).bind fun x1 =>
 (ZcU x1).bind fun IsSpan0 =>
 if IsSpan0=true then
 (atI (Zk.X7 a1) v0).bind fun x2 =>
 (Zch x2).bind fun areSlews0 =>
 if areSlews0=true then
 if x0=true then
 some (.inl (Wq (v0+1),()))
 else
 if (Decidable.decide (Zu.Early x1=0)&&Decidable.decide (Zu.Late x1=0))=true then
 if (Decidable.decide (Zu.Early x2=0)&&Decidable.decide (Zu.Late x2=0))=true then
 some (.inl (Wq (v0+1),()))
 else
 some (.inr Bool.false)
 else
 some (.inr Bool.false)
 else
 some (.inr Bool.false)
 else
 some (.inr Bool.false)
 else
 some (.inr Bool.true)
def JV (a0:ZE) (a1:Zk):Option Bool :=
 (YM a0).bind fun nodes0 =>
 (ZdS (Zk.Reached a1)).bind fun bool0 =>
 if bool0=nodes0 then
 (Qn (Zk.ZB a1)).bind fun Span0 =>
 if Span0=nodes0 then
 (Qn (Zk.X7 a1)).bind fun Span1 =>
 if Span1=nodes0 then
 Zm (fun v=>Qr a1 v.1) ((0:Int),())
 else
 some Bool.false
 else
 some Bool.false
 else
 some Bool.false
def Zzm:Ctr:=D2 (.ptr (Zjc)) (Xd) (.bool) JV
def J8 (list0:List Zq):Option Int :=
 some (↑list0.length:Int)
def Zzn:Ctr:=D1 (.sl (JY)) Iq J8
def Vq (v0:ZE) (list0:List Int):Option Bool :=
 (J8 (ZE.links v0)).bind fun Link0 =>
 (Y4 list0 0 (Wq (Link0-1))).bind fun areWithin0 =>
 if areWithin0=true then
 (QN list0).bind fun isIncreasing0 =>
 some isIncreasing0
 else
 some Bool.false
def Zzo:Ctr:=D2 (.ptr (Zjc)) (.sl Iq) (.bool) Vq
def Zbk (v0:ZE) (node0:Int):Option Bool :=
 (YM v0).bind fun nodes0 =>
 (YB node0 0 (Wq (nodes0-1))).bind fun within0 =>
 some within0
def Zzp:Ctr:=D2 (.ptr (Zjc)) Iq (.bool) Zbk
def Qa (v0:ZE) (list0:List Zj) (v1:Int):Option ((Int×Unit) ⊕ Bool) :=
 if v1<(↑list0.length:Int) then
 (atI list0 v1).bind fun x0 =>
 (Zbk v0 (Zj.Node x0)).bind fun isNode0 =>
 if isNode0=true then
 (ZcU (Zj.ZB x0)).bind fun IsSpan0 =>
 if IsSpan0=true then
 (Zch (Zj.X7 x0)).bind fun areSlews0 =>
 if areSlews0=true then
 if 0<v1 then
 (atI list0 (Wq (v1-1))).bind fun x1 =>
 if Zj.Node x0≤Zj.Node x1 then
 some (.inr Bool.false)
 else
 some (.inl (Wq (v1+1),()))
 else
 some (.inl (Wq (v1+1),()))
 else
 some (.inr Bool.false)
 else
 some (.inr Bool.false)
 else
 some (.inr Bool.false)
 else
 some (.inr Bool.true)
def QB (v0:ZE) (list0:List Zj):Option Bool :=
 Zm (fun v=>Qa v0 list0 v.1) ((0:Int),())
def Zzq:Ctr:=D2 (.ptr (Zjc)) (.sl (Z6)) (.bool) QB
def XT (v0:ZE) (broken0:List Int) (v2:Int) (l1:List Bool):Option ((Int×(List Bool)×Unit) ⊕ ((Int×(List Bool)×Unit) ⊕ Yp)) :=
 if v2<(↑broken0.length:Int) then
 (atI broken0 v2).bind fun x0 =>
 (atI l1 x0).bind fun x1 =>
 some (.inl (Wq (v2+1),List.set l1 (Int.toNat x0) Bool.false,()))
 else
 some (.inr (.inr (v0,l1,())))
def Jh (v0:ZE) (broken0:List Int) (v1:Int) (l0:List Bool):Option ((Int×(List Bool)×Unit) ⊕ Yp) :=
 if v1<(↑(List.length (List.replicate (Int.toNat (↑(List.length (ZE.links v0)):Int)) Bool.false)):Int) then
 (atI l0 v1).bind fun x0 =>
 some (.inl (Wq (v1+1),List.set l0 (Int.toNat v1) Bool.true,()))
 else
 Zm (fun v=>XT v0 broken0 v.1 v.2.1) ((0:Int),l0,())
def QO (v0:ZE) (broken0:List Int):Option Yp :=
 Zy ((0:Int)≤(↑(List.length (ZE.links v0)):Int)) <|
 Zy ((↑(List.length (ZE.links v0)):Int)≤(↑(List.length (ZE.links v0)):Int)) <|
 Zy ((↑(List.length (ZE.links v0)):Int)≤(4611686018427387904:Int)) <|
 Zy ((↑(1:Nat):Int)*(↑(List.length (ZE.links v0)):Int)≤(281474976710656:Int)) <|
 Zm (fun v=>Jh v0 broken0 v.1 v.2.1) ((0:Int),List.replicate (Int.toNat (↑(List.length (ZE.links v0)):Int)) Bool.false,())
def Zzr:Ctr:=D2 (.ptr (Zjc)) (.sl Iq) (.ptr (ZiI)) QO
def Zbu (a0:Zq):Option Bool :=
 some Bool.true
def Zzs:Ctr:=D1 (JY) (.bool) Zbu
def Yd (g0:Yp) (list0:List Int) (v0:Int):Option (((List Int)×Int×Unit) ⊕ List Int) :=
 if v0<(↑(List.length (ZE.links (Yp.view g0))):Int) then
 (atI (ZE.links (Yp.view g0)) v0).bind fun x0 =>
 (atI (Yp.live g0) v0).bind fun x1 =>
 if x1=true then
 (Zbu x0).bind fun c1_0 =>
 if c1_0=true then
 Zy ((List.length list0+List.length [v0])*(8:Nat)≤(140737488355328:Nat)) <|
 some (.inl (list0++[v0],Wq (v0+(1:Int)),()))
 else
 some (.inl (list0,Wq (v0+1),()))
 else
 some (.inl (list0,Wq (v0+1),()))
 else
 some (.inr list0)
def Yw (g0:Yp) (is0:Unit):Option (List Int) :=
 Zm (fun v=>Yd g0 v.1 v.2.1) (([]:List Int),(0:Int),())
def Zzt:Ctr:=⟨[.dat (.ptr (ZiI)),.dat (.fn 199 (.unit))],[.own (.ol 2 (.flat Iq))],fun a K=>splitK a fun g0 a=>splitK a fun is0 a=>Yv (Yw g0 is0) fun r=>K (r,()) ()⟩
def Y3 (s0:List Int) (v0:Int) (v1:Int):Option ((Int×Unit) ⊕ Int) :=
 if v1<(↑s0.length:Int) then
 (atI s0 v1).bind fun x0 =>
 if v0=x0 then
 some (.inr v1)
 else
 some (.inl (Wq (v1+1),()))
 else
 some (.inr (-1))
def Vu (s0:List Int) (v0:Int):Option Int :=
 Zm (fun v=>Y3 s0 v0 v.1) ((0:Int),())
def Zzu:Ctr:=D2 (.sl Iq) Iq Iq Vu
def Zcj (l0:Zq) (a0:Int):Option Bool :=
 some (Decidable.decide (Zq.From l0=a0))
def c193:Ctr:=D2 (JY) (.ptr Iq) (.bool) Zcj
def Yf (g0:Yp) (is0:Int×Unit) (list0:List Int) (v0:Int):Option (((List Int)×Int×Unit) ⊕ List Int) :=
 if v0<(↑(List.length (ZE.links (Yp.view g0))):Int) then
 (atI (ZE.links (Yp.view g0)) v0).bind fun x0 =>
 (atI (Yp.live g0) v0).bind fun x1 =>
 if x1=true then
 (Zcj x0 is0.fst).bind fun c1_0 =>
 if c1_0=true then
 Zy ((List.length list0+List.length [v0])*(8:Nat)≤(140737488355328:Nat)) <|
 some (.inl (list0++[v0],Wq (v0+(1:Int)),()))
 else
 some (.inl (list0,Wq (v0+1),()))
 else
 some (.inl (list0,Wq (v0+1),()))
 else
 some (.inr list0)
def Y2 (g0:Yp) (is0:Int×Unit):Option (List Int) :=
 Zm (fun v=>Yf g0 is0 v.1 v.2.1) (([]:List Int),(0:Int),())
def c194:Ctr:=⟨[.dat (.ptr (ZiI)),.dat (.fn 267 (.pair (.ptr Iq) (.unit)))],[.own (.ol 2 (.flat Iq))],fun a K=>splitK a fun g0 a=>splitK a fun is0 a=>Yv (Y2 g0 is0) fun r=>K (r,()) ()⟩
def Zci (g0:Yp) (node0:Int):Option (List Int) :=
 (Y2 g0 (node0,())).bind fun c1_0 =>
 some c1_0
def Zzv:Ctr:=⟨[.dat (.ptr (ZiI)),.dat Iq],[.own (.ol 2 (.flat Iq))],fun a K=>splitK a fun g0 a=>splitK a fun node0 a=>Yv (Zci g0 node0) fun r=>K (r,()) ()⟩
def Xq (a0:Yp) (v1:List Int) (v2:Int) (int0:Int) (from0:List Int) (v3:Int) (l2:List Int):Option ((Int×(List Int)×Unit) ⊕ (((List Int)×Int×(List Int)×Unit) ⊕ ((Int×(List Int)×Unit) ⊕ ((List Int)×Bool)))) :=
 if v3<(↑from0.length:Int) then
 (atI from0 v3).bind fun x1 =>
 (atI (ZE.links (Yp.view a0)) x1).bind fun x2 =>
 (atI l2 (Zq.To x2)).bind fun x3 =>
 some (.inl (Wq (v3+1),List.set l2 (Int.toNat (Zq.To x2)) (Wq (x3-1)),()))
 else
 some (.inr (.inl (v1++[int0],Wq (v2+(1:Int)),l2,())))
def Yr (a0:Yp) (l0:List Int) (v1:List Int) (v2:Int) (l1:List Int):Option (((List Int)×Int×(List Int)×Unit) ⊕ ((Int×(List Int)×Unit) ⊕ ((List Int)×Bool))) :=
 if v2<(↑l0.length:Int) then
 (Vu l1 0).bind fun int0 =>
 if int0<0 then
 some (.inr (.inr (([]:List Int),Bool.false)))
 else
 (atI l1 int0).bind fun x0 =>
 Zy ((List.length v1+List.length [int0])*(8:Nat)≤(140737488355328:Nat)) <|
 (Zci a0 int0).bind fun from0 =>
 Zm (fun v=>Xq a0 v1 v2 int0 from0 v.1 v.2.1) ((0:Int),List.set l1 (Int.toNat int0) (-1:Int),())
 else
 some (.inr (.inr (v1,Bool.true)))
def Xr (a0:Yp) (c1_0:List Int) (v0:Int) (l0:List Int):Option ((Int×(List Int)×Unit) ⊕ ((List Int)×Bool)) :=
 if v0<(↑c1_0.length:Int) then
 (atI c1_0 v0).bind fun x0 =>
 (atI (ZE.links (Yp.view a0)) x0).bind fun x1 =>
 (atI l0 (Zq.To x1)).bind fun x2 =>
 some (.inl (Wq (v0+1),List.set l0 (Int.toNat (Zq.To x1)) (Wq (x2+1)),()))
 else
 Zm (fun v=>Yr a0 l0 v.1 v.2.1 v.2.2.1) (([]:List Int),(0:Int),l0,())
def Vg (a0:Yp):Option ((List Int)×Bool) :=
 (YM (Yp.view a0)).bind fun nodes0 =>
 Zy ((0:Int)≤nodes0) <|
 Zy (nodes0≤nodes0) <|
 Zy (nodes0≤(4611686018427387904:Int)) <|
 Zy ((↑(8:Nat):Int)*nodes0≤(281474976710656:Int)) <|
 (Yw a0 ()).bind fun c1_0 =>
 Zm (fun v=>Xr a0 c1_0 v.1 v.2.1) ((0:Int),List.replicate (Int.toNat nodes0) (0:Int),())
def c196:Ctr:=⟨[.dat (.ptr (ZiI))],[.own (.ol 2 (.flat Iq)),.dat (.bool)],fun a K=>splitK a fun a0 a=>Yv (Vg a0) fun r=>K (r.1,r.2,()) ()⟩
def Ju (b0:Zd) (c0:Zv) (broken0:List Int) (sources0:List Zj) (t0:Option Zk):Option ((Option Yp)×(List Int)×Int) :=
 (Ze1 b0).bind fun IsBlock0 =>
 if IsBlock0=true then
 (Zd8 c0).bind fun IsCorner0 =>
 if IsCorner0=true then
 (ZdA b0).bind fun newView0 =>
 if (Option.isNone t0)=true then
 (Vq newView0 broken0).bind fun isBroken0 =>
 if isBroken0=true then
 (QB newView0 sources0).bind fun areSources0 =>
 if areSources0=true then
 (QO newView0 broken0).bind fun graphOf0 =>
 (Vg graphOf0).bind fun order0 =>
 if order0.snd=true then
 some (Option.some graphOf0,order0.fst,0)
 else
 some (Option.none,([]:List Int),(7:Int))
 else
 some (Option.none,([]:List Int),(2:Int))
 else
 some (Option.none,([]:List Int),(2:Int))
 else
 (t0).bind fun r0 =>
 (JV newView0 r0).bind fun isTiming0 =>
 if isTiming0=true then
 (Vq newView0 broken0).bind fun isBroken0 =>
 if isBroken0=true then
 (QB newView0 sources0).bind fun areSources0 =>
 if areSources0=true then
 (QO newView0 broken0).bind fun graphOf0 =>
 (Vg graphOf0).bind fun order0 =>
 if order0.snd=true then
 some (Option.some graphOf0,order0.fst,0)
 else
 some (Option.none,([]:List Int),(7:Int))
 else
 some (Option.none,([]:List Int),(2:Int))
 else
 some (Option.none,([]:List Int),(2:Int))
 else
 some (Option.none,([]:List Int),(1:Int))
 else
 some (Option.none,([]:List Int),(1:Int))
 else
 some (Option.none,([]:List Int),(1:Int))
def Zzw:Ctr:=⟨[.dat (Yt),.dat (X3),.dat (.sl Iq),.dat (.sl (Z6)),.dat (.nptr (Xd))],[.dat (.nptr (ZiI)),.own (.ol 2 (.flat Iq)),.dat Iq],fun a K=>splitK a fun b0 a=>splitK a fun c0 a=>splitK a fun broken0 a=>splitK a fun sources0 a=>splitK a fun t0 a=>Yv (Ju b0 c0 broken0 sources0 t0) fun r=>K (r.1,r.2.1,r.2.2,()) ()⟩
def ZEk (v0:ZE) (list0:List Int):Option Bool :=
 (YM v0).bind fun nodes0 =>
 (Y4 list0 0 (Wq (nodes0-1))).bind fun areWithin0 =>
 if areWithin0=true then
 (QN list0).bind fun isIncreasing0 =>
 some isIncreasing0
 else
 some Bool.false
def c198:Ctr:=D2 (.ptr (Zjc)) (.sl Iq) (.bool) ZEk
def ZEn (s0:List Bool):Option (List Bool) :=
 Zy ((List.length (([]:List Bool))+List.length s0)*(1:Nat)≤(140737488355328:Nat)) <|
 some (([]:List Bool)++s0)
def Zzx:Ctr:=⟨[.dat (.sl (.bool))],[.own (.ol 4 (.flat (.bool)))],fun a K=>splitK a fun s0 a=>Yv (ZEn s0) fun r=>K (r,()) ()⟩
def ZEc (s0:List Zu):Option (List Zu) :=
 Zy ((List.length (([]:List (Int×Int×Unit)))+List.length s0)*(16:Nat)≤(140737488355328:Nat)) <|
 some (([]:List (Int×Int×Unit))++s0)
def Zzy:Ctr:=⟨[.dat (.sl (XJ))],[.own (.ol 103 (.flat (XJ)))],fun a K=>splitK a fun s0 a=>Yv (ZEc s0) fun r=>K (r,()) ()⟩
def ZEo (t0:Zk):Option Zk :=
 (ZEn (Zk.Reached t0)).bind fun bool0 =>
 (ZEc (Zk.ZB t0)).bind fun Span0 =>
 (ZEc (Zk.X7 t0)).bind fun Span1 =>
 some (bool0,Span0,Span1,())
def c201:Ctr:=⟨[.dat (Xd)],[.own (ZoC)],fun a K=>splitK a fun t0 a=>Yv (ZEo t0) fun r=>K (r,()) ()⟩
def ZD9 (s0:List Int) (v0:Int) (v1:Int):Option ((Int×Unit) ⊕ Int) :=
 if v1<(↑s0.length:Int) then
 (atI s0 v1).bind fun x0 =>
 if v0=x0 then
 some (.inr v1)
 else
 some (.inl (Wq (v1+1),()))
 else
 some (.inr (-1))
def ZEb (s0:List Int) (v0:Int):Option Int :=
 Zm (fun v=>ZD9 s0 v0 v.1) ((0:Int),())
def Zzz:Ctr:=D2 (.sl Iq) Iq Iq ZEb
def ZD8 (s0:List Int) (v0:Int):Option Bool :=
 (ZEb s0 v0).bind fun int64_0 =>
 some (Decidable.decide (0≤int64_0))
def c203:Ctr:=D2 (.sl Iq) Iq (.bool) ZD8
def ZdR (l0:Zq) (a0:Int):Option Bool :=
 some (Decidable.decide (Zq.To l0=a0))
def Zyi:Ctr:=D2 (JY) (.ptr Iq) (.bool) ZdR
def Yk (g0:Yp) (is0:Int×Unit) (list0:List Int) (v0:Int):Option (((List Int)×Int×Unit) ⊕ List Int) :=
 if v0<(↑(List.length (ZE.links (Yp.view g0))):Int) then
 (atI (ZE.links (Yp.view g0)) v0).bind fun x0 =>
 (atI (Yp.live g0) v0).bind fun x1 =>
 if x1=true then
 (ZdR x0 is0.fst).bind fun c1_0 =>
 if c1_0=true then
 Zy ((List.length list0+List.length [v0])*(8:Nat)≤(140737488355328:Nat)) <|
 some (.inl (list0++[v0],Wq (v0+(1:Int)),()))
 else
 some (.inl (list0,Wq (v0+1),()))
 else
 some (.inl (list0,Wq (v0+1),()))
 else
 some (.inr list0)
def Xj (g0:Yp) (is0:Int×Unit):Option (List Int) :=
 Zm (fun v=>Yk g0 is0 v.1 v.2.1) (([]:List Int),(0:Int),())
def ZzA:Ctr:=⟨[.dat (.ptr (ZiI)),.dat (.fn 205 (.pair (.ptr Iq) (.unit)))],[.own (.ol 2 (.flat Iq))],fun a K=>splitK a fun g0 a=>splitK a fun is0 a=>Yv (Xj g0 is0) fun r=>K (r,()) ()⟩
def Zck (g0:Yp) (node0:Int):Option (List Int) :=
 (Xj g0 (node0,())).bind fun c1_0 =>
 some c1_0
def c206:Ctr:=⟨[.dat (.ptr (ZiI)),.dat Iq],[.own (.ol 2 (.flat Iq))],fun a K=>splitK a fun g0 a=>splitK a fun node0 a=>Yv (Zck g0 node0) fun r=>K (r,()) ()⟩
def ZEf (link0:Int) (a0:List Bool) (a1:Yp):Option Bool :=
 (atI (ZE.links (Yp.view a1)) link0).bind fun x0 =>
 (atI a0 (Zq.From x0)).bind fun x1 =>
 some x1
def ZzB:Ctr:=D3 Iq (.ptr (.sl (.bool))) (.ptr (.ptr (ZiI))) (.bool) ZEf
def ZD7 (s0:List Int) (f0:List Bool×Yp×Unit) (v0:Int):Option ((Int×Unit) ⊕ Int) :=
 if v0<(↑s0.length:Int) then
 (atI s0 v0).bind fun x0 =>
 (ZEf x0 f0.fst f0.snd.fst).bind fun c1_0 =>
 if c1_0=true then
 some (.inr v0)
 else
 some (.inl (Wq (v0+1),()))
 else
 some (.inr (-1))
def ZD6 (s0:List Int) (f0:List Bool×Yp×Unit):Option Int :=
 Zm (fun v=>ZD7 s0 f0 v.1) ((0:Int),())
def c208:Ctr:=D2 (.sl Iq) (.fn 141 (.pair (.ptr (.sl (.bool))) (.pair (.ptr (.ptr (ZiI))) (.unit)))) Iq ZD6
def ZD5 (s0:List Int) (f0:List Bool×Yp×Unit):Option Bool :=
 (ZD6 s0 f0).bind fun c1_0 =>
 some (Decidable.decide (0≤c1_0))
def ZzC:Ctr:=D2 (.sl Iq) (.fn 141 (.pair (.ptr (.sl (.bool))) (.pair (.ptr (.ptr (ZiI))) (.unit)))) (.bool) ZD5
def ZdT (s0:Zj) (a0:Int):Option Bool :=
 some (Decidable.decide (Zj.Node s0=a0))
def c210:Ctr:=D2 (Z6) (.ptr Iq) (.bool) ZdT
def ZQ (s0:List Zj) (f0:Int×Unit) (v0:Int):Option ((Int×Unit) ⊕ Int) :=
 if v0<(↑s0.length:Int) then
 (atI s0 v0).bind fun x0 =>
 (ZdT x0 f0.fst).bind fun c1_0 =>
 if c1_0=true then
 some (.inr v0)
 else
 some (.inl (Wq (v0+1),()))
 else
 some (.inr (-1))
def ZH (s0:List Zj) (f0:Int×Unit):Option Int :=
 Zm (fun v=>ZQ s0 f0 v.1) ((0:Int),())
def Zyj:Ctr:=D2 (.sl (Z6)) (.fn 203 (.pair (.ptr Iq) (.unit))) Iq ZH
def Zea (list0:List Zj) (node0:Int):Option (Zj×Bool) :=
 (ZH list0 (node0,())).bind fun c1_0 =>
 if 0≤c1_0 then
 (atI list0 c1_0).bind fun x0 =>
 some (x0,Bool.true)
 else
 some ((0,(0,0,()),(0,0,()),()),Bool.false)
def c212:Ctr:=⟨[.dat (.sl (Z6)),.dat Iq],[.dat (Z6),.dat (.bool)],fun a K=>splitK a fun list0 a=>splitK a fun node0 a=>Yv (Zea list0 node0) fun r=>K (r.1,r.2,()) ()⟩
def Zfv (s0:Zu) (t0:Zu):Option Zu :=
 some (Min.min (Zu.Early s0) (Zu.Early t0),Max.max (Zu.Late s0) (Zu.Late t0),())
def c213:Ctr:=D2 (XJ) (XJ) (XJ) Zfv
def Vf (s0:Zj) (reached0:Bool) (arrival0:Zu) (slew0:Zu):Option (Zj×Bool) :=
 if reached0=true then
 (Zfv (Zj.ZB s0) arrival0).bind fun hull0 =>
 (Zfv (Zj.X7 s0) slew0).bind fun hull1 =>
 some ((Zj.Node s0,hull0,hull1,()),reached0)
 else
 some ((Zj.Node s0,arrival0,slew0,()),Bool.true)
def ZzD:Ctr:=⟨[.io (.flat (Z6)),.io (.flat (.bool)),.dat (XJ),.dat (XJ)],[],fun a K=>splitK a fun s0 a=>splitK a fun reached0 a=>splitK a fun arrival0 a=>splitK a fun slew0 a=>Yv (Vf s0 reached0 arrival0 slew0) fun r=>K () (r.1,r.2,())⟩
def VY (v0:ZE) (l0:Zq):Option Int :=
 (atI (ZE.places v0) (Wq (Int.tdiv (Zq.To l0) 2))).bind fun x0 =>
 some (YD.net x0)
def ZzE:Ctr:=D2 (.ptr (Zjc)) (JY) Iq VY
def Zaa (v0:ZE) (l0:Zq):Option Zw :=
 (atI (ZE.places v0) (Wq (Int.tdiv (Zq.To l0) 2))).bind fun x0 =>
 (atI (Zc.Instances (Zd.Design (ZE.Block v0))) (YD.instance x0)).bind fun x1 =>
 (atI (Zt.Cells (Zd.Library (ZE.Block v0))) (Zg.Cell x1)).bind fun x2 =>
 (atI (Zi.VI x2) (Zq.Index l0)).bind fun x3 =>
 some x3
def ZzF:Ctr:=D2 (.ptr (Zjc)) (JY) (ZdP) Zaa
def Zb5 (x0:Int):Option Bool :=
 some (!Decidable.decide (x0=x0))
def ZzG:Ctr:=D1 Iq (.bool) Zb5
def Zdb (x0:Int) (y0:Int):Option Bool :=
 (Zb5 x0).bind fun int64_0 =>
 if int64_0=true then
 (Zb5 y0).bind fun int64_1 =>
 if int64_1=true then
 some (Decidable.decide (x0<y0))
 else
 some Bool.true
 else
 some (Decidable.decide (x0<y0))
def c218:Ctr:=D2 Iq Iq (.bool) Zdb
def Vv (x0:Int):Option Bool :=
 some (!Decidable.decide (x0=x0))
def ZzH:Ctr:=D1 Iq (.bool) Vv
def Xc (x0:List Int) (target0:Int) (i0:Int) (j0:Int):Option ((Int×Int×Unit) ⊕ (Int×Bool)) :=
 if i0<j0 then
 (atI x0 (Wq (Int.fdiv (IntKind.wrap IntKind.u64 (Wq (i0+j0))) (2 ^ Min.min (Int.toNat 1) (IntKind.bits IntKind.u64))))).bind fun x1 =>
 (Zdb x1 target0).bind fun int64_0 =>
 if int64_0=true then
 some (.inl (Wq (Wq (Int.fdiv (IntKind.wrap IntKind.u64 (Wq (i0+j0))) (2 ^ Min.min (Int.toNat 1) (IntKind.bits IntKind.u64)))+1),j0,()))
 else
 some (.inl (i0,Wq (Int.fdiv (IntKind.wrap IntKind.u64 (Wq (i0+j0))) (2 ^ Min.min (Int.toNat 1) (IntKind.bits IntKind.u64))),()))
 else
 if i0<(↑x0.length:Int) then
 (atI x0 i0).bind fun x1 =>
 if x1=target0 then
 some (.inr (i0,Bool.true))
 else
 (Vv x1).bind fun int64_0 =>
 if int64_0=true then
 (Vv target0).bind fun int64_1 =>
 some (.inr (i0,int64_1))
 else
 some (.inr (i0,Bool.false))
 else
 some (.inr (i0,Bool.false))
def Y0 (x0:List Int) (target0:Int):Option (Int×Bool) :=
 Zm (fun v=>Xc x0 target0 v.1 v.2.1) ((0:Int),(↑x0.length:Int),())
def ZzI:Ctr:=⟨[.dat (.sl Iq),.dat Iq],[.dat Iq,.dat (.bool)],fun a K=>splitK a fun x0 a=>splitK a fun target0 a=>Yv (Y0 x0 target0) fun r=>K (r.1,r.2,()) ()⟩
def ZdB (axis0:List Int) (x0:Int):Option ((List JG)×Int) :=
 (atI axis0 0).bind fun x1 =>
 (atI axis0 (Wq ((↑axis0.length:Int)-1))).bind fun x2 =>
 (Y0 axis0 (Min.min (Max.max x0 x1) x2)).bind fun int64_0 =>
 if int64_0.snd=true then
 some ([(int64_0.fst,(1:Int),())],(1:Int))
 else
 (atI axis0 int64_0.fst).bind fun x3 =>
 (atI axis0 (Wq (int64_0.fst-1))).bind fun x4 =>
 some ([(Wq (int64_0.fst-(1:Int)),Wq (x3-Min.min (Max.max x0 x1) x2),()),(int64_0.fst,Wq (Min.min (Max.max x0 x1) x2-x4),())],Wq (x3-x4))
def ZzJ:Ctr:=⟨[.dat (.sl Iq),.dat Iq],[.own (.ol 377 (.flat (ZqY))),.dat Iq],fun a K=>splitK a fun axis0 a=>splitK a fun x0 a=>Yv (ZdB axis0 x0) fun r=>K (r.1,r.2,()) ()⟩
def J6 (a0:Int) (b0:Int) (mode0:Int):Option Int :=
 Zy (b0≠(0:Int)) <|
 if mode0=0 then
 if Int.tmod a0 b0<0 then
 some (Wq (Wq (Int.tdiv a0 b0)-1))
 else
 if mode0=1 then
 if 0<Int.tmod a0 b0 then
 some (Wq (Wq (Int.tdiv a0 b0)+1))
 else
 some (Wq (Int.tdiv a0 b0))
 else
 some (Wq (Int.tdiv a0 b0))
 else
 if mode0=1 then
 if 0<Int.tmod a0 b0 then
 some (Wq (Wq (Int.tdiv a0 b0)+1))
 else
 some (Wq (Int.tdiv a0 b0))
 else
 some (Wq (Int.tdiv a0 b0))
def c222:Ctr:=D3 Iq Iq Iq Iq J6
def Y6 (a0:Zo) (weights1:List JG×Int) (v1:Int) (x0:JG) (v2:Int) (v3:Int):Option ((Int×Int×Unit) ⊕ ((Int×Int×Unit) ⊕ Int)) :=
 if v3<(↑(List.length weights1.fst):Int) then
 (atI weights1.fst v3).bind fun x1 =>
 (atI (Zo.Values a0) (Wq (Wq (JG.index x0*(↑(List.length (Zo.Loads a0)):Int))+JG.index x1))).bind fun x2 =>
 some (.inl (Wq (v2+Wq (Wq (x2*JG.part x0)*JG.part x1)),Wq (v3+1),()))
 else
 some (.inr (.inl (v2,Wq (v1+1),())))
def Yj (a0:Zo) (a3:Int) (weights0:List JG×Int) (weights1:List JG×Int) (v0:Int) (v1:Int):Option ((Int×Int×Unit) ⊕ Int) :=
 if v1<(↑(List.length weights0.fst):Int) then
 (atI weights0.fst v1).bind fun x0 =>
 Zm (fun v=>Y6 a0 weights1 v1 x0 v.1 v.2.1) (v0,(0:Int),())
 else
 (J6 v0 (Wq (weights0.snd*weights1.snd)) a3).bind fun divide0 =>
 some (.inr divide0)
def VX (a0:Zo) (a1:Int) (a2:Int) (a3:Int):Option Int :=
 (ZdB (Zo.Zdy a0) a1).bind fun weights0 =>
 (ZdB (Zo.Loads a0) a2).bind fun weights1 =>
 Zm (fun v=>Yj a0 a3 weights0 weights1 v.1 v.2.1) ((0:Int),(0:Int),())
def ZzK:Ctr:=D4 (YE) Iq Iq Iq Iq VX
def Vm (c0:Zv) (kind0:Int) (mode0:Int):Option Int :=
 if kind0=1 then
 if mode0=0 then
 some (Zv.JZ c0)
 else
 if kind0=1 then
 some (Zv.Zbg c0)
 else
 if mode0=0 then
 some (Zv.J2 c0)
 else
 some (Zv.Zb3 c0)
 else
 if kind0=1 then
 some (Zv.Zbg c0)
 else
 if mode0=0 then
 some (Zv.J2 c0)
 else
 some (Zv.Zb3 c0)
def ZzL:Ctr:=D3 (X3) Iq Iq Iq Vm
def ZfI (t0:Int) (thousandths0:Int) (mode0:Int):Option Int :=
 (J6 (Wq (t0*thousandths0)) 1000 mode0).bind fun divide0 =>
 some divide0
def ZzM:Ctr:=D3 Iq Iq Iq Iq ZfI
def QV (a0:ZE) (a1:Zv) (a2:Int) (a3:Int) (a4:Int):Option Int :=
 (atI (ZE.links a0) a2).bind fun x0 =>
 (VY a0 x0).bind fun netOf0 =>
 if Zq.Kind x0=1 then
 (atI (ZE.loads a0) netOf0).bind fun x1 =>
 (Zaa a0 x0).bind fun arcOf0 =>
 (atI (Zw.Delay arcOf0) (Int.tmod (Zq.To x0) 2)).bind fun x2 =>
 (VX x2 a3 x1 a4).bind fun lookUp0 =>
 (Vm a1 (Zq.Kind x0) a4).bind fun factor0 =>
 (ZfI lookUp0 factor0 a4).bind fun scale0 =>
 some scale0
 else
 (atI (ZE.Zg7 a0) netOf0).bind fun x1 =>
 (atI x1 (Zq.Index x0)).bind fun x2 =>
 (J6 x2 1000 a4).bind fun divide0 =>
 (Vm a1 (Zq.Kind x0) a4).bind fun factor0 =>
 (ZfI divide0 factor0 a4).bind fun scale0 =>
 some scale0
def c226:Ctr:=⟨[.dat (.ptr (Zjc)),.dat (X3),.dat Iq,.dat Iq,.dat Iq],[.dat Iq],fun a K=>splitK a fun a0 a=>splitK a fun a1 a=>splitK a fun a2 a=>splitK a fun a3 a=>splitK a fun a4 a=>Yv (QV a0 a1 a2 a3 a4) fun r=>K (r,()) ()⟩
def J9 (n0:Int) (low0:Int) (high0:Int):Option ((Int×Int×Unit) ⊕ Int) :=
 if low0<high0 then
 if Wq (Wq (Int.tdiv (Wq (Wq (low0+high0)+1)) 2)*Wq (Int.tdiv (Wq (Wq (low0+high0)+1)) 2))≤n0 then
 some (.inl (Wq (Int.tdiv (Wq (Wq (low0+high0)+1)) 2),high0,()))
 else
 some (.inl (low0,Wq (Wq (Int.tdiv (Wq (Wq (low0+high0)+1)) 2)-1),()))
 else
 some (.inr low0)
def ZjC (n0:Int):Option Int :=
 Zm (fun v=>J9 n0 v.1 v.2.1) ((0:Int),(3000000000:Int),())
def c227:Ctr:=D1 Iq Iq ZjC
def Zeb (slew0:Int) (delay0:Int) (mode0:Int):Option Int :=
 (ZjC (Wq (Wq (Wq (Wq (500*slew0)*500)*slew0)+Wq (delay0*delay0)))).bind fun root0 =>
 if mode0=1 then
 if Wq (root0*root0)<Wq (Wq (Wq (Wq (500*slew0)*500)*slew0)+Wq (delay0*delay0)) then
 some (Wq (Wq (Int.tdiv root0 500)+1))
 else
 (J6 root0 500 mode0).bind fun divide0 =>
 some divide0
 else
 (J6 root0 500 mode0).bind fun divide0 =>
 some divide0
def c228:Ctr:=D3 Iq Iq Iq Iq Zeb
def YA (v0:ZE) (link0:Int) (slew0:Int) (mode0:Int):Option Int :=
 (atI (ZE.links v0) link0).bind fun x0 =>
 (VY v0 x0).bind fun netOf0 =>
 if Zq.Kind x0=1 then
 (atI (ZE.loads v0) netOf0).bind fun x1 =>
 (Zaa v0 x0).bind fun arcOf0 =>
 (atI (Zw.X7 arcOf0) (Int.tmod (Zq.To x0) 2)).bind fun x2 =>
 (VX x2 slew0 x1 mode0).bind fun lookUp0 =>
 some (Min.min lookUp0 1000000)
 else
 (atI (ZE.Zg7 v0) netOf0).bind fun x1 =>
 (atI x1 (Zq.Index x0)).bind fun x2 =>
 (Zeb slew0 x2 mode0).bind fun wireSlew0 =>
 some (Min.min wireSlew0 1000000)
def c229:Ctr:=D4 (.ptr (Zjc)) Iq Iq Iq Iq YA
def VZ (a0:ZE) (a1:Zv) (a2:Int) (a3:Zu):Option (Zu×Zu) :=
 (QV a0 a1 a2 (Zu.Early a3) 0).bind fun delay0 =>
 (QV a0 a1 a2 (Zu.Late a3) 0).bind fun delay1 =>
 (QV a0 a1 a2 (Zu.Early a3) 1).bind fun delay2 =>
 (QV a0 a1 a2 (Zu.Late a3) 1).bind fun delay3 =>
 (atI (ZE.links a0) a2).bind fun x0 =>
 if 0<(↑(List.length (ZE.extras a0)):Int) then
 if Zq.Kind x0=2 then
 (VY a0 x0).bind fun netOf0 =>
 (atI (ZE.extras a0) netOf0).bind fun x1 =>
 (YA a0 a2 (Zu.Early a3) 0).bind fun slew0 =>
 (YA a0 a2 (Zu.Late a3) 0).bind fun slew1 =>
 (YA a0 a2 (Zu.Early a3) 1).bind fun slew2 =>
 (YA a0 a2 (Zu.Late a3) 1).bind fun slew3 =>
 some ((Wq (Min.min delay0 delay1-x1),Wq (Max.max delay2 delay3+x1),()),(Min.min slew0 slew1,Max.max slew2 slew3,()))
 else
 (YA a0 a2 (Zu.Early a3) 0).bind fun slew0 =>
 (YA a0 a2 (Zu.Late a3) 0).bind fun slew1 =>
 (YA a0 a2 (Zu.Early a3) 1).bind fun slew2 =>
 (YA a0 a2 (Zu.Late a3) 1).bind fun slew3 =>
 some ((Min.min delay0 delay1,Max.max delay2 delay3,()),(Min.min slew0 slew1,Max.max slew2 slew3,()))
 else
 (YA a0 a2 (Zu.Early a3) 0).bind fun slew0 =>
 (YA a0 a2 (Zu.Late a3) 0).bind fun slew1 =>
 (YA a0 a2 (Zu.Early a3) 1).bind fun slew2 =>
 (YA a0 a2 (Zu.Late a3) 1).bind fun slew3 =>
 some ((Min.min delay0 delay1,Max.max delay2 delay3,()),(Min.min slew0 slew1,Max.max slew2 slew3,()))
def ZzN:Ctr:=⟨[.dat (.ptr (Zjc)),.dat (X3),.dat Iq,.dat (XJ)],[.dat (XJ),.dat (XJ)],fun a K=>splitK a fun a0 a=>splitK a fun a1 a=>splitK a fun a2 a=>splitK a fun a3 a=>Yv (VZ a0 a1 a2 a3) fun r=>K (r.1,r.2,()) ()⟩
def Zfw (s0:Zu) (t0:Zu):Option Zu :=
 some (Wq (Zu.Early s0+Zu.Early t0),Wq (Zu.Late s0+Zu.Late t0),())
def ZzO:Ctr:=D2 (XJ) (XJ) (XJ) Zfw
def ZeS (a0:Yp) (a1:Zv) (a3:Zk) (to0:List Int) (v0:Int) (c0:Int) (c1:Int) (c2:Int) (c3:Int) (c4:Int) (c5:Bool):Option ((Int×Int×Int×Int×Int×Int×Bool×Unit) ⊕ (Bool×Zj)) :=
 if v0<(↑to0.length:Int) then
 (atI to0 v0).bind fun x0 =>
 (atI (ZE.links (Yp.view a0)) x0).bind fun x1 =>
 (atI (Zk.Reached a3) (Zq.From x1)).bind fun x2 =>
 if x2=true then
 (atI (Zk.X7 a3) (Zq.From x1)).bind fun x3 =>
 (VZ (Yp.view a0) a1 x0 x3).bind fun spans0 =>
 (atI (Zk.ZB a3) (Zq.From x1)).bind fun x4 =>
 (Zfw x4 spans0.fst).bind fun plus0 =>
 (Vf (c0,(c1,c2,()),(c3,c4,()),()) c5 plus0 spans0.snd).bind fun join1 =>
 some (.inl (Wq (v0+1),join1.fst.fst,join1.fst.snd.fst.fst,join1.fst.snd.fst.snd.fst,join1.fst.snd.snd.fst.fst,join1.fst.snd.snd.fst.snd.fst,join1.snd,()))
 else
 some (.inl (Wq (v0+1),c0,c1,c2,c3,c4,c5,()))
 else
 if c5=true then
 some (.inr (Bool.true,(c0,(c1,c2,()),(c3,c4,()),())))
 else
 some (.inr (Bool.false,(0,(0,0,()),(0,0,()),())))
def YI (a0:Yp) (a1:Zv) (a3:Zk) (to0:List Int) (v0:Int) (c0:Int) (c1:Int) (c2:Int) (c3:Int) (c4:Int) (c5:Bool):Option ((Int×Int×Int×Int×Int×Int×Bool×Unit) ⊕ (Bool×Zj)) :=
 if v0<(↑to0.length:Int) then
 (atI to0 v0).bind fun x0 =>
 (atI (ZE.links (Yp.view a0)) x0).bind fun x1 =>
 (atI (Zk.Reached a3) (Zq.From x1)).bind fun x2 =>
 if x2=true then
 (atI (Zk.X7 a3) (Zq.From x1)).bind fun x3 =>
 (VZ (Yp.view a0) a1 x0 x3).bind fun spans0 =>
 (atI (Zk.ZB a3) (Zq.From x1)).bind fun x4 =>
 (Zfw x4 spans0.fst).bind fun plus0 =>
 (Vf (c0,(c1,c2,()),(c3,c4,()),()) c5 plus0 spans0.snd).bind fun join0 =>
 some (.inl (Wq (v0+1),join0.fst.fst,join0.fst.snd.fst.fst,join0.fst.snd.fst.snd.fst,join0.fst.snd.snd.fst.fst,join0.fst.snd.snd.fst.snd.fst,join0.snd,()))
 else
 some (.inl (Wq (v0+1),c0,c1,c2,c3,c4,c5,()))
 else
 if c5=true then
 some (.inr (Bool.true,(c0,(c1,c2,()),(c3,c4,()),())))
 else
 some (.inr (Bool.false,(0,(0,0,()),(0,0,()),())))
def VN (a0:Yp) (a1:Zv) (a2:List Zj) (a3:Zk) (a4:Int):Option (Bool×Zj) :=
 (Zea a2 a4).bind fun sourceAt0 =>
 if sourceAt0.snd=true then
 (Vf (a4,(0,0,()),(0,0,()),()) Bool.false sourceAt0.fst.snd.fst sourceAt0.fst.snd.snd.fst).bind fun join0 =>
 (Zck a0 a4).bind fun to0 =>
 Zm (fun v=>ZeS a0 a1 a3 to0 v.1 v.2.1 v.2.2.1 v.2.2.2.1 v.2.2.2.2.1 v.2.2.2.2.2.1 v.2.2.2.2.2.2.1) ((0:Int),join0.fst.fst,join0.fst.snd.fst.fst,join0.fst.snd.fst.snd.fst,join0.fst.snd.snd.fst.fst,join0.fst.snd.snd.fst.snd.fst,join0.snd,())
 else
 (Zck a0 a4).bind fun to0 =>
 Zm (fun v=>YI a0 a1 a3 to0 v.1 v.2.1 v.2.2.1 v.2.2.2.1 v.2.2.2.2.1 v.2.2.2.2.2.1 v.2.2.2.2.2.2.1) ((0:Int),a4,(0:Int),(0:Int),(0:Int),(0:Int),Bool.false,())
def c232:Ctr:=⟨[.dat (.ptr (ZiI)),.dat (X3),.dat (.sl (Z6)),.dat (Xd),.dat Iq],[.dat (.bool),.dat (Z6)],fun a K=>splitK a fun a0 a=>splitK a fun a1 a=>splitK a fun a2 a=>splitK a fun a3 a=>splitK a fun a4 a=>Yv (VN a0 a1 a2 a3 a4) fun r=>K (r.1,r.2,()) ()⟩
def ZEa (a0:Yp) (a1:Zv) (a2:List Zj) (a4:List Int) (a5:List Int) (v0:List Int) (v1:Int) (l0:List Bool) (l1:List Zu) (l2:List Zu) (l3:List Bool):Option (((List Int)×Int×(List Bool)×(List Zu)×(List Zu)×(List Bool)×Unit) ⊕ ((List Int)×Bool×Zk)) :=
 if v1<(↑a5.length:Int) then
 (atI a5 v1).bind fun x0 =>
 (ZD8 a4 x0).bind fun int64_0 =>
 if int64_0=true then
 Zy ((List.length v0+List.length [x0])*(8:Nat)≤(140737488355328:Nat)) <|
 (VN a0 a1 a2 (l0,l1,l2,()) x0).bind fun arrivalAt0 =>
 if arrivalAt0.fst=true then
 (ZcU arrivalAt0.snd.snd.fst).bind fun IsSpan0 =>
 if IsSpan0=true then
 (atI l0 x0).bind fun x1 =>
 if (arrivalAt0.fst == x1)=true then
 (atI l1 x0).bind fun x2 =>
 if (Decidable.decide (arrivalAt0.snd.snd.fst.fst=Zu.Early x2)&&Decidable.decide (arrivalAt0.snd.snd.fst.snd.fst=Zu.Late x2))=true then
 (atI l2 x0).bind fun x3 =>
 (atI l3 x0).bind fun x4 =>
 some (.inl (v0++[x0],Wq (v1+(1:Int)),List.set l0 (Int.toNat x0) arrivalAt0.fst,List.set l1 (Int.toNat x0) arrivalAt0.snd.snd.fst,List.set l2 (Int.toNat x0) arrivalAt0.snd.snd.snd.fst,List.set l3 (Int.toNat x0) !(Decidable.decide (arrivalAt0.snd.snd.snd.fst.fst=Zu.Early x3)&&Decidable.decide (arrivalAt0.snd.snd.snd.fst.snd.fst=Zu.Late x3)),()))
 else
 (atI l3 x0).bind fun x3 =>
 (atI l2 x0).bind fun x4 =>
 some (.inl (v0++[x0],Wq (v1+(1:Int)),List.set l0 (Int.toNat x0) arrivalAt0.fst,List.set l1 (Int.toNat x0) arrivalAt0.snd.snd.fst,List.set l2 (Int.toNat x0) arrivalAt0.snd.snd.snd.fst,List.set l3 (Int.toNat x0) Bool.true,()))
 else
 (atI l3 x0).bind fun x2 =>
 (atI l1 x0).bind fun x3 =>
 (atI l2 x0).bind fun x4 =>
 some (.inl (v0++[x0],Wq (v1+(1:Int)),List.set l0 (Int.toNat x0) arrivalAt0.fst,List.set l1 (Int.toNat x0) arrivalAt0.snd.snd.fst,List.set l2 (Int.toNat x0) arrivalAt0.snd.snd.snd.fst,List.set l3 (Int.toNat x0) Bool.true,()))
 else
 some (.inr (([]:List Int),Bool.false,(l0,l1,l2,())))
 else
 (atI l0 x0).bind fun x1 =>
 if (arrivalAt0.fst == x1)=true then
 (atI l1 x0).bind fun x2 =>
 if (Decidable.decide (arrivalAt0.snd.snd.fst.fst=Zu.Early x2)&&Decidable.decide (arrivalAt0.snd.snd.fst.snd.fst=Zu.Late x2))=true then
 (atI l2 x0).bind fun x3 =>
 (atI l3 x0).bind fun x4 =>
 some (.inl (v0++[x0],Wq (v1+(1:Int)),List.set l0 (Int.toNat x0) arrivalAt0.fst,List.set l1 (Int.toNat x0) arrivalAt0.snd.snd.fst,List.set l2 (Int.toNat x0) arrivalAt0.snd.snd.snd.fst,List.set l3 (Int.toNat x0) !(Decidable.decide (arrivalAt0.snd.snd.snd.fst.fst=Zu.Early x3)&&Decidable.decide (arrivalAt0.snd.snd.snd.fst.snd.fst=Zu.Late x3)),()))
 else
 (atI l3 x0).bind fun x3 =>
 (atI l2 x0).bind fun x4 =>
 some (.inl (v0++[x0],Wq (v1+(1:Int)),List.set l0 (Int.toNat x0) arrivalAt0.fst,List.set l1 (Int.toNat x0) arrivalAt0.snd.snd.fst,List.set l2 (Int.toNat x0) arrivalAt0.snd.snd.snd.fst,List.set l3 (Int.toNat x0) Bool.true,()))
 else
 (atI l3 x0).bind fun x2 =>
 (atI l1 x0).bind fun x3 =>
 (atI l2 x0).bind fun x4 =>
 some (.inl (v0++[x0],Wq (v1+(1:Int)),List.set l0 (Int.toNat x0) arrivalAt0.fst,List.set l1 (Int.toNat x0) arrivalAt0.snd.snd.fst,List.set l2 (Int.toNat x0) arrivalAt0.snd.snd.snd.fst,List.set l3 (Int.toNat x0) Bool.true,()))
 else
 (Zck a0 x0).bind fun to0 =>
 (ZD5 to0 (l3,a0,())).bind fun c1_0 =>
 if c1_0=true then
 Zy ((List.length v0+List.length [x0])*(8:Nat)≤(140737488355328:Nat)) <|
 (VN a0 a1 a2 (l0,l1,l2,()) x0).bind fun arrivalAt0 =>
 if arrivalAt0.fst=true then
 (ZcU arrivalAt0.snd.snd.fst).bind fun IsSpan0 =>
 if IsSpan0=true then
 (atI l0 x0).bind fun x1 =>
 if (arrivalAt0.fst == x1)=true then
 (atI l1 x0).bind fun x2 =>
 if (Decidable.decide (arrivalAt0.snd.snd.fst.fst=Zu.Early x2)&&Decidable.decide (arrivalAt0.snd.snd.fst.snd.fst=Zu.Late x2))=true then
 (atI l2 x0).bind fun x3 =>
 (atI l3 x0).bind fun x4 =>
 some (.inl (v0++[x0],Wq (v1+(1:Int)),List.set l0 (Int.toNat x0) arrivalAt0.fst,List.set l1 (Int.toNat x0) arrivalAt0.snd.snd.fst,List.set l2 (Int.toNat x0) arrivalAt0.snd.snd.snd.fst,List.set l3 (Int.toNat x0) !(Decidable.decide (arrivalAt0.snd.snd.snd.fst.fst=Zu.Early x3)&&Decidable.decide (arrivalAt0.snd.snd.snd.fst.snd.fst=Zu.Late x3)),()))
 else
 (atI l3 x0).bind fun x3 =>
 (atI l2 x0).bind fun x4 =>
 some (.inl (v0++[x0],Wq (v1+(1:Int)),List.set l0 (Int.toNat x0) arrivalAt0.fst,List.set l1 (Int.toNat x0) arrivalAt0.snd.snd.fst,List.set l2 (Int.toNat x0) arrivalAt0.snd.snd.snd.fst,List.set l3 (Int.toNat x0) Bool.true,()))
 else
 (atI l3 x0).bind fun x2 =>
 (atI l1 x0).bind fun x3 =>
 (atI l2 x0).bind fun x4 =>
 some (.inl (v0++[x0],Wq (v1+(1:Int)),List.set l0 (Int.toNat x0) arrivalAt0.fst,List.set l1 (Int.toNat x0) arrivalAt0.snd.snd.fst,List.set l2 (Int.toNat x0) arrivalAt0.snd.snd.snd.fst,List.set l3 (Int.toNat x0) Bool.true,()))
 else
 some (.inr (([]:List Int),Bool.false,(l0,l1,l2,())))
 else
 (atI l0 x0).bind fun x1 =>
 if (arrivalAt0.fst == x1)=true then
 (atI l1 x0).bind fun x2 =>
 if (Decidable.decide (arrivalAt0.snd.snd.fst.fst=Zu.Early x2)&&Decidable.decide (arrivalAt0.snd.snd.fst.snd.fst=Zu.Late x2))=true then
 (atI l2 x0).bind fun x3 =>
 (atI l3 x0).bind fun x4 =>
 some (.inl (v0++[x0],Wq (v1+(1:Int)),List.set l0 (Int.toNat x0) arrivalAt0.fst,List.set l1 (Int.toNat x0) arrivalAt0.snd.snd.fst,List.set l2 (Int.toNat x0) arrivalAt0.snd.snd.snd.fst,List.set l3 (Int.toNat x0) !(Decidable.decide (arrivalAt0.snd.snd.snd.fst.fst=Zu.Early x3)&&Decidable.decide (arrivalAt0.snd.snd.snd.fst.snd.fst=Zu.Late x3)),()))
 else
 (atI l3 x0).bind fun x3 =>
 (atI l2 x0).bind fun x4 =>
 some (.inl (v0++[x0],Wq (v1+(1:Int)),List.set l0 (Int.toNat x0) arrivalAt0.fst,List.set l1 (Int.toNat x0) arrivalAt0.snd.snd.fst,List.set l2 (Int.toNat x0) arrivalAt0.snd.snd.snd.fst,List.set l3 (Int.toNat x0) Bool.true,()))
 else
 (atI l3 x0).bind fun x2 =>
 (atI l1 x0).bind fun x3 =>
 (atI l2 x0).bind fun x4 =>
 some (.inl (v0++[x0],Wq (v1+(1:Int)),List.set l0 (Int.toNat x0) arrivalAt0.fst,List.set l1 (Int.toNat x0) arrivalAt0.snd.snd.fst,List.set l2 (Int.toNat x0) arrivalAt0.snd.snd.snd.fst,List.set l3 (Int.toNat x0) Bool.true,()))
 else
 some (.inl (v0,Wq (v1+1),l0,l1,l2,l3,()))
 else
 some (.inr (v0,Bool.true,(l0,l1,l2,())))
def ZEu (a0:Yp) (a1:Zv) (a2:List Zj) (a3:Zk) (a4:List Int) (a5:List Int):Option ((List Int)×Bool×Zk) :=
 (YM (Yp.view a0)).bind fun nodes0 =>
 Zy ((0:Int)≤nodes0) <|
 Zy (nodes0≤nodes0) <|
 Zy (nodes0≤(4611686018427387904:Int)) <|
 Zy ((↑(1:Nat):Int)*nodes0≤(281474976710656:Int)) <|
 Zm (fun v=>ZEa a0 a1 a2 a4 a5 v.1 v.2.1 v.2.2.1 v.2.2.2.1 v.2.2.2.2.1 v.2.2.2.2.2.1) (([]:List Int),(0:Int),Zk.Reached a3,Zk.ZB a3,Zk.X7 a3,List.replicate (Int.toNat nodes0) Bool.false,())
def c233:Ctr:=⟨[.dat (.ptr (ZiI)),.dat (X3),.dat (.sl (Z6)),.back (ZoC),.dat (.sl Iq),.dat (.sl Iq)],[.own (.ol 2 (.flat Iq)),.dat (.bool)],fun a K=>splitK a fun a0 a=>splitK a fun a1 a=>splitK a fun a2 a=>splitK a fun a3 a=>splitK a fun a4 a=>splitK a fun a5 a=>Yv (ZEu a0 a1 a2 a3 a4 a5) fun r=>K (r.1,r.2.1,()) (r.2.2,())⟩
def ZEp (b0:Zd) (c0:Zv) (broken0:List Int) (sources0:List Zj) (t0:Zk) (dirty0:List Int):Option (Zk×(List Int)×Int) :=
 (Ju b0 c0 broken0 sources0 (Option.some t0)).bind fun timingGraph0 =>
 if timingGraph0.snd.snd=0 then
 (timingGraph0.fst).bind fun fst0 =>
 (ZEk (Yp.view fst0) dirty0).bind fun areNodes0 =>
 if areNodes0=true then
 (ZEo t0).bind fun clone0 =>
 (ZEu fst0 c0 sources0 clone0 dirty0 timingGraph0.snd.fst).bind fun update0 =>
 if update0.snd.fst=true then
 some (update0.snd.snd,update0.fst,0)
 else
 some ((([]:List Bool),([]:List Zu),([]:List Zu),()),([]:List Int),(3:Int))
 else
 some ((([]:List Bool),([]:List Zu),([]:List Zu),()),([]:List Int),(2:Int))
 else
 some ((([]:List Bool),([]:List Zu),([]:List Zu),()),([]:List Int),timingGraph0.snd.snd)
def c234:Ctr:=⟨[.dat (Yt),.dat (X3),.dat (.sl Iq),.dat (.sl (Z6)),.dat (Xd),.dat (.sl Iq)],[.own (ZoC),.own (.ol 2 (.flat Iq)),.dat Iq],fun a K=>splitK a fun b0 a=>splitK a fun c0 a=>splitK a fun broken0 a=>splitK a fun sources0 a=>splitK a fun t0 a=>splitK a fun dirty0 a=>Yv (ZEp b0 c0 broken0 sources0 t0 dirty0) fun r=>K (r.1,r.2.1,r.2.2,()) ()⟩
def ZjF (a0:List Bool) (b0:List Bool) (i0:Int):Option ((Int×Unit) ⊕ Bool) :=
 if i0<(↑a0.length:Int) then
 (atI a0 i0).bind fun x0 =>
 (atI b0 i0).bind fun x1 =>
 if (x0 == x1)=true then
 some (.inl (Wq (i0+1),()))
 else
 some (.inr Bool.false)
 else
 some (.inr Bool.true)
def Ze7 (a0:List Bool) (b0:List Bool):Option Bool :=
 if (↑a0.length:Int)=(↑b0.length:Int) then
 Zm (fun v=>ZjF a0 b0 v.1) ((0:Int),())
 else
 some Bool.false
def ZzP:Ctr:=D2 (.sl (.bool)) (.sl (.bool)) (.bool) Ze7
def Zbw (a0:Zu) (b0:Zu):Option Bool :=
 if Zu.Early a0=Zu.Early b0 then
 if Zu.Late a0=Zu.Late b0 then
 some Bool.true
 else
 some Bool.false
 else
 some Bool.false
def c236:Ctr:=D2 (XJ) (XJ) (.bool) Zbw
def ZjJ (a0:List Zu) (b0:List Zu) (i0:Int):Option ((Int×Unit) ⊕ Bool) :=
 if i0<(↑a0.length:Int) then
 (atI a0 i0).bind fun x0 =>
 (atI b0 i0).bind fun x1 =>
 (Zbw x0 x1).bind fun eqSpan0 =>
 if eqSpan0=true then
 some (.inl (Wq (i0+1),()))
 else
 some (.inr Bool.false)
 else
 some (.inr Bool.true)
def ZdC (a0:List Zu) (b0:List Zu):Option Bool :=
 if (↑a0.length:Int)=(↑b0.length:Int) then
 Zm (fun v=>ZjJ a0 b0 v.1) ((0:Int),())
 else
 some Bool.false
def ZzQ:Ctr:=D2 (.sl (XJ)) (.sl (XJ)) (.bool) ZdC
def Zed (a0:Zk) (b0:Zk):Option Bool :=
 (Ze7 (Zk.Reached a0) (Zk.Reached b0)).bind fun eqBoolS0 =>
 if eqBoolS0=true then
 (ZdC (Zk.ZB a0) (Zk.ZB b0)).bind fun eqSpanS0 =>
 if eqSpanS0=true then
 (ZdC (Zk.X7 a0) (Zk.X7 b0)).bind fun eqSpanS1 =>
 if eqSpanS1=true then
 some Bool.true
 else
 some Bool.false
 else
 some Bool.false
 else
 some Bool.false
def ZzR:Ctr:=D2 (Xd) (Xd) (.bool) Zed
def ZiT (a0:List Int) (b0:List Int) (i0:Int):Option ((Int×Unit) ⊕ Bool) :=
 if i0<(↑a0.length:Int) then
 (atI a0 i0).bind fun x0 =>
 (atI b0 i0).bind fun x1 =>
 if x0=x1 then
 some (.inl (Wq (i0+1),()))
 else
 some (.inr Bool.false)
 else
 some (.inr Bool.true)
def YW (a0:List Int) (b0:List Int):Option Bool :=
 if (↑a0.length:Int)=(↑b0.length:Int) then
 Zm (fun v=>ZiT a0 b0 v.1) ((0:Int),())
 else
 some Bool.false
def ZzS:Ctr:=D2 (.sl Iq) (.sl Iq) (.bool) YW
def ZfL (a0:Yn) (b0:Yn):Option Bool :=
 if Yn.Name a0=Yn.Name b0 then
 if Yn.Dir a0=Yn.Dir b0 then
 if Yn.Cap a0=Yn.Cap b0 then
 if (Yn.Clock a0 == Yn.Clock b0)=true then
 some Bool.true
 else
 some Bool.false
 else
 some Bool.false
 else
 some Bool.false
 else
 some Bool.false
def ZzT:Ctr:=D2 (Zdx) (Zdx) (.bool) ZfL
def ZkA (a0:List Yn) (b0:List Yn) (i0:Int):Option ((Int×Unit) ⊕ Bool) :=
 if i0<(↑a0.length:Int) then
 (atI a0 i0).bind fun x0 =>
 (atI b0 i0).bind fun x1 =>
 (ZfL x0 x1).bind fun eqPin0 =>
 if eqPin0=true then
 some (.inl (Wq (i0+1),()))
 else
 some (.inr Bool.false)
 else
 some (.inr Bool.true)
def Zgj (a0:List Yn) (b0:List Yn):Option Bool :=
 if (↑a0.length:Int)=(↑b0.length:Int) then
 Zm (fun v=>ZkA a0 b0 v.1) ((0:Int),())
 else
 some Bool.false
def Zyk:Ctr:=D2 (.sl (Zdx)) (.sl (Zdx)) (.bool) Zgj
def ZdD (a0:Zo) (b0:Zo):Option Bool :=
 (YW (Zo.Zdy a0) (Zo.Zdy b0)).bind fun eqInt64S0 =>
 if eqInt64S0=true then
 (YW (Zo.Loads a0) (Zo.Loads b0)).bind fun eqInt64S1 =>
 if eqInt64S1=true then
 (YW (Zo.Values a0) (Zo.Values b0)).bind fun eqInt64S2 =>
 if eqInt64S2=true then
 some Bool.true
 else
 some Bool.false
 else
 some Bool.false
 else
 some Bool.false
def ZzU:Ctr:=D2 (YE) (YE) (.bool) ZdD
def ZiU (a0:List Zo) (b0:List Zo) (i0:Int):Option ((Int×Unit) ⊕ Bool) :=
 if i0<(↑a0.length:Int) then
 (atI a0 i0).bind fun x0 =>
 (atI b0 i0).bind fun x1 =>
 (ZdD x0 x1).bind fun eqTable0 =>
 if eqTable0=true then
 some (.inl (Wq (i0+1),()))
 else
 some (.inr Bool.false)
 else
 some (.inr Bool.true)
def Zcp (a0:List Zo) (b0:List Zo):Option Bool :=
 if (↑a0.length:Int)=(↑b0.length:Int) then
 Zm (fun v=>ZiU a0 b0 v.1) ((0:Int),())
 else
 some Bool.false
def ZzV:Ctr:=D2 (.sl (YE)) (.sl (YE)) (.bool) Zcp
def ZfK (a0:Zw) (b0:Zw):Option Bool :=
 if Zw.Kind a0=Zw.Kind b0 then
 if Zw.From a0=Zw.From b0 then
 if Zw.To a0=Zw.To b0 then
 if Zw.Vi a0=Zw.Vi b0 then
 (Zcp (Zw.Delay a0) (Zw.Delay b0)).bind fun eqTableS0 =>
 if eqTableS0=true then
 (Zcp (Zw.X7 a0) (Zw.X7 b0)).bind fun eqTableS1 =>
 if eqTableS1=true then
 some Bool.true
 else
 some Bool.false
 else
 some Bool.false
 else
 some Bool.false
 else
 some Bool.false
 else
 some Bool.false
 else
 some Bool.false
def ZzW:Ctr:=D2 (ZdP) (ZdP) (.bool) ZfK
def Zky (a0:List Zw) (b0:List Zw) (i0:Int):Option ((Int×Unit) ⊕ Bool) :=
 if i0<(↑a0.length:Int) then
 (atI a0 i0).bind fun x0 =>
 (atI b0 i0).bind fun x1 =>
 (ZfK x0 x1).bind fun eqArc0 =>
 if eqArc0=true then
 some (.inl (Wq (i0+1),()))
 else
 some (.inr Bool.false)
 else
 some (.inr Bool.true)
def Zgi (a0:List Zw) (b0:List Zw):Option Bool :=
 if (↑a0.length:Int)=(↑b0.length:Int) then
 Zm (fun v=>Zky a0 b0 v.1) ((0:Int),())
 else
 some Bool.false
def ZzX:Ctr:=D2 (.sl (ZdP)) (.sl (ZdP)) (.bool) Zgi
def ZeC (a0:Zi) (b0:Zi):Option Bool :=
 if Zi.Name a0=Zi.Name b0 then
 if Zi.Kind a0=Zi.Kind b0 then
 (Zgj (Zi.Yy a0) (Zi.Yy b0)).bind fun eqPinS0 =>
 if eqPinS0=true then
 (Zgi (Zi.VI a0) (Zi.VI b0)).bind fun eqArcS0 =>
 if eqArcS0=true then
 (YW (Zi.Truth a0) (Zi.Truth b0)).bind fun eqInt64S0 =>
 if eqInt64S0=true then
 if Zi.Zuj a0=Zi.Zuj b0 then
 if Zi.Ziq a0=Zi.Ziq b0 then
 some Bool.true
 else
 some Bool.false
 else
 some Bool.false
 else
 some Bool.false
 else
 some Bool.false
 else
 some Bool.false
 else
 some Bool.false
 else
 some Bool.false
def ZzY:Ctr:=D2 (Qz) (Qz) (.bool) ZeC
def ZjG (a0:List Zi) (b0:List Zi) (i0:Int):Option ((Int×Unit) ⊕ Bool) :=
 if i0<(↑a0.length:Int) then
 (atI a0 i0).bind fun x0 =>
 (atI b0 i0).bind fun x1 =>
 (ZeC x0 x1).bind fun eqCell0 =>
 if eqCell0=true then
 some (.inl (Wq (i0+1),()))
 else
 some (.inr Bool.false)
 else
 some (.inr Bool.true)
def Ze8 (a0:List Zi) (b0:List Zi):Option Bool :=
 if (↑a0.length:Int)=(↑b0.length:Int) then
 Zm (fun v=>ZjG a0 b0 v.1) ((0:Int),())
 else
 some Bool.false
def ZvH:Ctr:=D2 (.sl (Qz)) (.sl (Qz)) (.bool) Ze8
def Zdf (a0:Zt) (b0:Zt):Option Bool :=
 (Ze8 (Zt.Cells a0) (Zt.Cells b0)).bind fun eqCellS0 =>
 if eqCellS0=true then
 some Bool.true
 else
 some Bool.false
def ZzZ:Ctr:=D2 (Yz) (Yz) (.bool) Zdf
def Zac (a0:Zg) (b0:Zg):Option Bool :=
 if Zg.Name a0=Zg.Name b0 then
 if Zg.Cell a0=Zg.Cell b0 then
 (YW (Zg.Xf a0) (Zg.Xf b0)).bind fun eqInt64S0 =>
 if eqInt64S0=true then
 some Bool.true
 else
 some Bool.false
 else
 some Bool.false
 else
 some Bool.false
def ZvI:Ctr:=D2 (ZT) (ZT) (.bool) Zac
def ZgY (a0:List Zg) (b0:List Zg) (i0:Int):Option ((Int×Unit) ⊕ Bool) :=
 if i0<(↑a0.length:Int) then
 (atI a0 i0).bind fun x0 =>
 (atI b0 i0).bind fun x1 =>
 (Zac x0 x1).bind fun eqInstance0 =>
 if eqInstance0=true then
 some (.inl (Wq (i0+1),()))
 else
 some (.inr Bool.false)
 else
 some (.inr Bool.true)
def Zbl (a0:List Zg) (b0:List Zg):Option Bool :=
 if (↑a0.length:Int)=(↑b0.length:Int) then
 Zm (fun v=>ZgY a0 b0 v.1) ((0:Int),())
 else
 some Bool.false
def Zz0:Ctr:=D2 (.sl (ZT)) (.sl (ZT)) (.bool) Zbl
def Zik (a0:List (List UInt8)) (b0:List (List UInt8)) (i0:Int):Option ((Int×Unit) ⊕ Bool) :=
 if i0<(↑a0.length:Int) then
 (atI a0 i0).bind fun x0 =>
 (atI b0 i0).bind fun x1 =>
 if x0=x1 then
 some (.inl (Wq (i0+1),()))
 else
 some (.inr Bool.false)
 else
 some (.inr Bool.true)
def Zdh (a0:List (List UInt8)) (b0:List (List UInt8)):Option Bool :=
 if (↑a0.length:Int)=(↑b0.length:Int) then
 Zm (fun v=>Zik a0 b0 v.1) ((0:Int),())
 else
 some Bool.false
def Zz1:Ctr:=D2 (.sl (.str)) (.sl (.str)) (.bool) Zdh
def ZeD (a0:ZP) (b0:ZP):Option Bool :=
 if ZP.Name a0=ZP.Name b0 then
 if ZP.Dir a0=ZP.Dir b0 then
 if ZP.Net a0=ZP.Net b0 then
 some Bool.true
 else
 some Bool.false
 else
 some Bool.false
 else
 some Bool.false
def Zz2:Ctr:=D2 (V6) (V6) (.bool) ZeD
def ZjI (a0:List ZP) (b0:List ZP) (i0:Int):Option ((Int×Unit) ⊕ Bool) :=
 if i0<(↑a0.length:Int) then
 (atI a0 i0).bind fun x0 =>
 (atI b0 i0).bind fun x1 =>
 (ZeD x0 x1).bind fun eqPort0 =>
 if eqPort0=true then
 some (.inl (Wq (i0+1),()))
 else
 some (.inr Bool.false)
 else
 some (.inr Bool.true)
def Ze9 (a0:List ZP) (b0:List ZP):Option Bool :=
 if (↑a0.length:Int)=(↑b0.length:Int) then
 Zm (fun v=>ZjI a0 b0 v.1) ((0:Int),())
 else
 some Bool.false
def Zz3:Ctr:=D2 (.sl (V6)) (.sl (V6)) (.bool) Ze9
def Zec (a0:Zc) (b0:Zc):Option Bool :=
 (Zbl (Zc.Instances a0) (Zc.Instances b0)).bind fun eqInstanceS0 =>
 if eqInstanceS0=true then
 (Zdh (Zc.Xf a0) (Zc.Xf b0)).bind fun eqStringS0 =>
 if eqStringS0=true then
 (Ze9 (Zc.Xi a0) (Zc.Xi b0)).bind fun eqPortS0 =>
 if eqPortS0=true then
 some Bool.true
 else
 some Bool.false
 else
 some Bool.false
 else
 some Bool.false
def Zz4:Ctr:=D2 (Yu) (Yu) (.bool) Zec
def ZeE (a0:Zp) (b0:Zp):Option Bool :=
 (YW (Zp.Parent a0) (Zp.Parent b0)).bind fun eqInt64S0 =>
 if eqInt64S0=true then
 (YW (Zp.Res a0) (Zp.Res b0)).bind fun eqInt64S1 =>
 if eqInt64S1=true then
 (YW (Zp.Cap a0) (Zp.Cap b0)).bind fun eqInt64S2 =>
 if eqInt64S2=true then
 (YW (Zp.ZdO a0) (Zp.ZdO b0)).bind fun eqInt64S3 =>
 if eqInt64S3=true then
 some Bool.true
 else
 some Bool.false
 else
 some Bool.false
 else
 some Bool.false
 else
 some Bool.false
def Zz5:Ctr:=D2 (VG) (VG) (.bool) ZeE
def ZjK (a0:List Zp) (b0:List Zp) (i0:Int):Option ((Int×Unit) ⊕ Bool) :=
 if i0<(↑a0.length:Int) then
 (atI a0 i0).bind fun x0 =>
 (atI b0 i0).bind fun x1 =>
 (ZeE x0 x1).bind fun eqWire0 =>
 if eqWire0=true then
 some (.inl (Wq (i0+1),()))
 else
 some (.inr Bool.false)
 else
 some (.inr Bool.true)
def Zfa (a0:List Zp) (b0:List Zp):Option Bool :=
 if (↑a0.length:Int)=(↑b0.length:Int) then
 Zm (fun v=>ZjK a0 b0 v.1) ((0:Int),())
 else
 some Bool.false
def Zz6:Ctr:=D2 (.sl (VG)) (.sl (VG)) (.bool) Zfa
def Ze6 (a0:Zd) (b0:Zd):Option Bool :=
 (Zdf (Zd.Library a0) (Zd.Library b0)).bind fun eqLibrary0 =>
 if eqLibrary0=true then
 (Zec (Zd.Design a0) (Zd.Design b0)).bind fun eqDesign0 =>
 if eqDesign0=true then
 (Zfa (Zd.YG a0) (Zd.YG b0)).bind fun eqWireS0 =>
 if eqWireS0=true then
 some Bool.true
 else
 some Bool.false
 else
 some Bool.false
 else
 some Bool.false
def Zz7:Ctr:=D2 (Yt) (Yt) (.bool) Ze6
def Zco (a0:Zj) (b0:Zj):Option Bool :=
 if Zj.Node a0=Zj.Node b0 then
 (Zbw (Zj.ZB a0) (Zj.ZB b0)).bind fun eqSpan0 =>
 if eqSpan0=true then
 (Zbw (Zj.X7 a0) (Zj.X7 b0)).bind fun eqSpan1 =>
 if eqSpan1=true then
 some Bool.true
 else
 some Bool.false
 else
 some Bool.false
 else
 some Bool.false
def Zz8:Ctr:=D2 (Z6) (Z6) (.bool) Zco
def Zij (a0:List Zj) (b0:List Zj) (i0:Int):Option ((Int×Unit) ⊕ Bool) :=
 if i0<(↑a0.length:Int) then
 (atI a0 i0).bind fun x0 =>
 (atI b0 i0).bind fun x1 =>
 (Zco x0 x1).bind fun eqSource0 =>
 if eqSource0=true then
 some (.inl (Wq (i0+1),()))
 else
 some (.inr Bool.false)
 else
 some (.inr Bool.true)
def Zdg (a0:List Zj) (b0:List Zj):Option Bool :=
 if (↑a0.length:Int)=(↑b0.length:Int) then
 Zm (fun v=>Zij a0 b0 v.1) ((0:Int),())
 else
 some Bool.false
def Zz9:Ctr:=D2 (.sl (Z6)) (.sl (Z6)) (.bool) Zdg
def Zbz (k1:Int) (out0:List UInt8):Option ((Int×(List UInt8)×Unit) ⊕ List UInt8) :=
 if 0<k1 then
 Zy ((↑(List.length (bytesOf [IntKind.wrap IntKind.u8 (Wq ((48:Int)+Int.tmod k1 (10:Int)))])):Int)+(↑out0.length:Int)≤(9223372036854775807:Int)) <|
 some (.inl (Wq (Int.tdiv k1 (10:Int)),bytesOf [IntKind.wrap IntKind.u8 (Wq ((48:Int)+Int.tmod k1 (10:Int)))]++out0,()))
 else
 Zy ((↑(List.length [(109:UInt8)]):Int)+(↑out0.length:Int)≤(9223372036854775807:Int)) <|
 some (.inr ([(109:UInt8)]++out0))
def Vr (k0:Int):Option (List UInt8) :=
 if k0≤0 then
 some ([(109:UInt8),(48:UInt8)])
 else
 Zm (fun v=>Zbz v.1 v.2.1) (k0,([]:List UInt8),())
def ZAa:Ctr:=D1 Iq (.str) Vr
def Zby (k1:Int) (i0:Int) (l0:List Yn):Option ((Int×Int×(List Yn)×Unit) ⊕ (Int×(List Yn))) :=
 if i0<(↑l0.length:Int) then
 (Vr k1).bind fun markText0 =>
 (atI l0 i0).bind fun x0 =>
 (atI (List.set l0 (Int.toNat i0) (markText0,x0.snd)) i0).bind fun x1 =>
 (atI (List.set (List.set l0 (Int.toNat i0) (markText0,x0.snd)) (Int.toNat i0) (Yn.Name x1,Wq (k1+1),x1.snd.snd)) i0).bind fun x2 =>
 (atI (List.set (List.set (List.set l0 (Int.toNat i0) (markText0,x0.snd)) (Int.toNat i0) (Yn.Name x1,Wq (k1+1),x1.snd.snd)) (Int.toNat i0) (Yn.Name x2,Yn.Dir x2,Wq (Wq (k1+1)+1),x2.snd.snd.snd)) i0).bind fun x3 =>
 some (.inl (Wq (Wq (Wq (Wq (k1+1)+1)+1)+1),Wq (i0+1),List.set (List.set (List.set (List.set l0 (Int.toNat i0) (markText0,x0.snd)) (Int.toNat i0) (Yn.Name x1,Wq (k1+1),x1.snd.snd)) (Int.toNat i0) (Yn.Name x2,Yn.Dir x2,Wq (Wq (k1+1)+1),x2.snd.snd.snd)) (Int.toNat i0) (Yn.Name x3,Yn.Dir x3,Yn.Cap x3,Decidable.decide (Int.tmod (Wq (Wq (Wq (k1+1)+1)+1)) 3=0),()),()))
 else
 some (.inr (k1,l0))
def Zef (a0:List Yn) (k0:Int):Option (Int×(List Yn)) :=
 Zm (fun v=>Zby v.1 v.2.1 v.2.2.1) (k0,(0:Int),a0,())
def ZAb:Ctr:=⟨[.back (.ol 340 (.flat (Zdx))),.dat Iq],[.dat Iq],fun a K=>splitK a fun a0 a=>splitK a fun k0 a=>Yv (Zef a0 k0) fun r=>K (r.1,()) (r.2,())⟩
def Qo (k1:Int) (i0:Int) (l0:List Int):Option ((Int×Int×(List Int)×Unit) ⊕ (Int×(List Int))) :=
 if i0<(↑l0.length:Int) then
 (atI l0 i0).bind fun x0 =>
 some (.inl (Wq (k1+1),Wq (i0+1),List.set l0 (Int.toNat i0) k1,()))
 else
 some (.inr (k1,l0))
def Ya (a0:List Int) (k0:Int):Option (Int×(List Int)) :=
 Zm (fun v=>Qo v.1 v.2.1 v.2.2.1) (k0,(0:Int),a0,())
def ZAc:Ctr:=⟨[.back (.ol 2 (.flat Iq)),.dat Iq],[.dat Iq],fun a K=>splitK a fun a0 a=>splitK a fun k0 a=>Yv (Ya a0 k0) fun r=>K (r.1,()) (r.2,())⟩
def Zaf (k1:Int) (i0:Int) (l0:List (List Int×List Int×List Int×Unit)):Option ((Int×Int×(List (List Int×List Int×List Int×Unit))×Unit) ⊕ (Int×(List Zo))) :=
 if i0<(↑l0.length:Int) then
 (atI l0 i0).bind fun x0 =>
 (Ya x0.fst k1).bind fun markInt64S0 =>
 (Ya x0.snd.fst markInt64S0.fst).bind fun markInt64S1 =>
 (Ya x0.snd.snd.fst markInt64S1.fst).bind fun markInt64S2 =>
 some (.inl (markInt64S2.fst,Wq (i0+1),List.set l0 (Int.toNat i0) (markInt64S0.snd,markInt64S1.snd,markInt64S2.snd,()),()))
 else
 some (.inr (k1,l0))
def Zae (a0:List Zo) (k0:Int):Option (Int×(List Zo)) :=
 Zm (fun v=>Zaf v.1 v.2.1 v.2.2.1) (k0,(0:Int),a0,())
def ZAd:Ctr:=⟨[.back (.ol 317 (ZgF)),.dat Iq],[.dat Iq],fun a K=>splitK a fun a0 a=>splitK a fun k0 a=>Yv (Zae a0 k0) fun r=>K (r.1,()) (r.2,())⟩
def Zbx (k1:Int) (i0:Int) (l0:List (Int×Int×Int×Int×List Zo×List Zo×Unit)):Option ((Int×Int×(List (Int×Int×Int×Int×List Zo×List Zo×Unit))×Unit) ⊕ (Int×(List Zw))) :=
 if i0<(↑l0.length:Int) then
 (atI l0 i0).bind fun x0 =>
 (Zae x0.snd.snd.snd.snd.fst (Wq (Wq (Wq (Wq (k1+1)+1)+1)+1))).bind fun markTableS0 =>
 (Zae x0.snd.snd.snd.snd.snd.fst markTableS0.fst).bind fun markTableS1 =>
 some (.inl (markTableS1.fst,Wq (i0+1),List.set l0 (Int.toNat i0) (k1,Wq (k1+1),Wq (Wq (k1+1)+1),Wq (Wq (Wq (k1+1)+1)+1),markTableS0.snd,markTableS1.snd,()),()))
 else
 some (.inr (k1,l0))
def Zee (a0:List Zw) (k0:Int):Option (Int×(List Zw)) :=
 Zm (fun v=>Zbx v.1 v.2.1 v.2.2.1) (k0,(0:Int),a0,())
def ZAe:Ctr:=⟨[.back (.ol 173 (Zuk)),.dat Iq],[.dat Iq],fun a K=>splitK a fun a0 a=>splitK a fun k0 a=>Yv (Zee a0 k0) fun r=>K (r.1,()) (r.2,())⟩
def ZaR (k1:Int) (i0:Int) (l0:List (List UInt8×Int×List Yn×List Zw×List Int×Int×Int×Unit)):Option ((Int×Int×(List (List UInt8×Int×List Yn×List Zw×List Int×Int×Int×Unit))×Unit) ⊕ (Int×(List Zi))) :=
 if i0<(↑l0.length:Int) then
 (Vr k1).bind fun markText0 =>
 (atI l0 i0).bind fun x0 =>
 (Zef x0.snd.snd.fst (Wq (Wq (k1+1)+1))).bind fun markPinS0 =>
 (Zee x0.snd.snd.snd.fst markPinS0.fst).bind fun markArcS0 =>
 (Ya x0.snd.snd.snd.snd.fst markArcS0.fst).bind fun markInt64S0 =>
 some (.inl (Wq (Wq (markInt64S0.fst+1)+1),Wq (i0+1),List.set l0 (Int.toNat i0) (markText0,Wq (k1+1),markPinS0.snd,markArcS0.snd,markInt64S0.snd,markInt64S0.fst,Wq (markInt64S0.fst+1),()),()))
 else
 some (.inr (k1,l0))
def Zdk (a0:List Zi) (k0:Int):Option (Int×(List Zi)) :=
 Zm (fun v=>ZaR v.1 v.2.1 v.2.2.1) (k0,(0:Int),a0,())
def ZGh:Ctr:=⟨[.back (.ol 168 (ZoA)),.dat Iq],[.dat Iq],fun a K=>splitK a fun a0 a=>splitK a fun k0 a=>Yv (Zdk a0 k0) fun r=>K (r.1,()) (r.2,())⟩
def Zbm (a0:Zt) (k0:Int):Option (Int×Zt) :=
 (Zdk (Zt.Cells a0) k0).bind fun markCellS0 =>
 some (markCellS0.fst,(markCellS0.snd,()))
def ZGi:Ctr:=⟨[.back (ZoB),.dat Iq],[.dat Iq],fun a K=>splitK a fun a0 a=>splitK a fun k0 a=>Yv (Zbm a0 k0) fun r=>K (r.1,()) (r.2,())⟩
def V3 (k1:Int) (i0:Int) (l0:List (List UInt8×Int×List Int×Unit)):Option ((Int×Int×(List (List UInt8×Int×List Int×Unit))×Unit) ⊕ (Int×(List Zg))) :=
 if i0<(↑l0.length:Int) then
 (Vr k1).bind fun markText0 =>
 (atI l0 i0).bind fun x0 =>
 (Ya x0.snd.snd.fst (Wq (Wq (k1+1)+1))).bind fun markInt64S0 =>
 some (.inl (markInt64S0.fst,Wq (i0+1),List.set l0 (Int.toNat i0) (markText0,Wq (k1+1),markInt64S0.snd,()),()))
 else
 some (.inr (k1,l0))
def JW (a0:List Zg) (k0:Int):Option (Int×(List Zg)) :=
 Zm (fun v=>V3 v.1 v.2.1 v.2.2.1) (k0,(0:Int),a0,())
def ZGj:Ctr:=⟨[.back (.ol 170 (Zb7)),.dat Iq],[.dat Iq],fun a K=>splitK a fun a0 a=>splitK a fun k0 a=>Yv (JW a0 k0) fun r=>K (r.1,()) (r.2,())⟩
def JJ (k1:Int) (i0:Int) (l0:List (List UInt8)):Option ((Int×Int×(List (List UInt8))×Unit) ⊕ (Int×(List (List UInt8)))) :=
 if i0<(↑l0.length:Int) then
 (Vr k1).bind fun markText0 =>
 (atI l0 i0).bind fun x0 =>
 some (.inl (Wq (k1+1),Wq (i0+1),List.set l0 (Int.toNat i0) markText0,()))
 else
 some (.inr (k1,l0))
def Zbo (a0:List (List UInt8)) (k0:Int):Option (Int×(List (List UInt8))) :=
 Zm (fun v=>JJ v.1 v.2.1 v.2.2.1) (k0,(0:Int),a0,())
def ZGk:Ctr:=⟨[.back (.ol 9 (.flat (.str))),.dat Iq],[.dat Iq],fun a K=>splitK a fun a0 a=>splitK a fun k0 a=>Yv (Zbo a0 k0) fun r=>K (r.1,()) (r.2,())⟩
def ZaS (k1:Int) (i0:Int) (l0:List ZP):Option ((Int×Int×(List ZP)×Unit) ⊕ (Int×(List ZP))) :=
 if i0<(↑l0.length:Int) then
 (Vr k1).bind fun markText0 =>
 (atI l0 i0).bind fun x0 =>
 (atI (List.set l0 (Int.toNat i0) (markText0,x0.snd)) i0).bind fun x1 =>
 (atI (List.set (List.set l0 (Int.toNat i0) (markText0,x0.snd)) (Int.toNat i0) (ZP.Name x1,Wq (k1+1),x1.snd.snd)) i0).bind fun x2 =>
 some (.inl (Wq (Wq (Wq (k1+1)+1)+1),Wq (i0+1),List.set (List.set (List.set l0 (Int.toNat i0) (markText0,x0.snd)) (Int.toNat i0) (ZP.Name x1,Wq (k1+1),x1.snd.snd)) (Int.toNat i0) (ZP.Name x2,ZP.Dir x2,Wq (Wq (k1+1)+1),()),()))
 else
 some (.inr (k1,l0))
def Zdl (a0:List ZP) (k0:Int):Option (Int×(List ZP)) :=
 Zm (fun v=>ZaS v.1 v.2.1 v.2.2.1) (k0,(0:Int),a0,())
def ZGl:Ctr:=⟨[.back (.ol 266 (.flat (V6))),.dat Iq],[.dat Iq],fun a K=>splitK a fun a0 a=>splitK a fun k0 a=>Yv (Zdl a0 k0) fun r=>K (r.1,()) (r.2,())⟩
def Zcr (a0:Zc) (k0:Int):Option (Int×Zc) :=
 (JW (Zc.Instances a0) k0).bind fun markInstanceS0 =>
 (Zbo (Zc.Xf a0) markInstanceS0.fst).bind fun markStringS0 =>
 (Zdl (Zc.Xi a0) markStringS0.fst).bind fun markPortS0 =>
 some (markPortS0.fst,(markInstanceS0.snd,markStringS0.snd,markPortS0.snd,()))
def ZGm:Ctr:=⟨[.back (Zqs),.dat Iq],[.dat Iq],fun a K=>splitK a fun a0 a=>splitK a fun k0 a=>Yv (Zcr a0 k0) fun r=>K (r.1,()) (r.2,())⟩
def ZaU (k1:Int) (i0:Int) (l0:List (List Int×List Int×List Int×List Int×Unit)):Option ((Int×Int×(List (List Int×List Int×List Int×List Int×Unit))×Unit) ⊕ (Int×(List Zp))) :=
 if i0<(↑l0.length:Int) then
 (atI l0 i0).bind fun x0 =>
 (Ya x0.fst k1).bind fun markInt64S0 =>
 (Ya x0.snd.fst markInt64S0.fst).bind fun markInt64S1 =>
 (Ya x0.snd.snd.fst markInt64S1.fst).bind fun markInt64S2 =>
 (Ya x0.snd.snd.snd.fst markInt64S2.fst).bind fun markInt64S3 =>
 some (.inl (markInt64S3.fst,Wq (i0+1),List.set l0 (Int.toNat i0) (markInt64S0.snd,markInt64S1.snd,markInt64S2.snd,markInt64S3.snd,()),()))
 else
 some (.inr (k1,l0))
def Zdm (a0:List Zp) (k0:Int):Option (Int×(List Zp)) :=
 Zm (fun v=>ZaU v.1 v.2.1 v.2.2.1) (k0,(0:Int),a0,())
def ZGn:Ctr:=⟨[.back (.ol 85 (Znq)),.dat Iq],[.dat Iq],fun a K=>splitK a fun a0 a=>splitK a fun k0 a=>Yv (Zdm a0 k0) fun r=>K (r.1,()) (r.2,())⟩
def Zdi (a0:Zd) (k0:Int):Option (Int×Zd) :=
 (Zbm (Zd.Library a0) k0).bind fun markLibrary0 =>
 (Zcr (Zd.Design a0) markLibrary0.fst).bind fun markDesign0 =>
 (Zdm (Zd.YG a0) markDesign0.fst).bind fun markWireS0 =>
 some (markWireS0.fst,(markLibrary0.snd,markDesign0.snd,markWireS0.snd,()))
def ZGo:Ctr:=⟨[.back (Zs4),.dat Iq],[.dat Iq],fun a K=>splitK a fun a0 a=>splitK a fun k0 a=>Yv (Zdi a0 k0) fun r=>K (r.1,()) (r.2,())⟩
def JI (k1:Int) (i0:Int) (l0:List Zj):Option ((Int×Int×(List Zj)×Unit) ⊕ (Int×(List Zj))) :=
 if i0<(↑l0.length:Int) then
 (atI l0 i0).bind fun x0 =>
 (atI (List.set l0 (Int.toNat i0) (k1,x0.snd)) i0).bind fun x1 =>
 (atI (List.set (List.set l0 (Int.toNat i0) (k1,x0.snd)) (Int.toNat i0) (Zj.Node x1,(Wq (k1+1),(Zj.ZB x1).snd),x1.snd.snd)) i0).bind fun x2 =>
 (atI (List.set (List.set (List.set l0 (Int.toNat i0) (k1,x0.snd)) (Int.toNat i0) (Zj.Node x1,(Wq (k1+1),(Zj.ZB x1).snd),x1.snd.snd)) (Int.toNat i0) (Zj.Node x2,(Zu.Early (Zj.ZB x2),Wq (Wq (k1+1)+1),()),x2.snd.snd)) i0).bind fun x3 =>
 (atI (List.set (List.set (List.set (List.set l0 (Int.toNat i0) (k1,x0.snd)) (Int.toNat i0) (Zj.Node x1,(Wq (k1+1),(Zj.ZB x1).snd),x1.snd.snd)) (Int.toNat i0) (Zj.Node x2,(Zu.Early (Zj.ZB x2),Wq (Wq (k1+1)+1),()),x2.snd.snd)) (Int.toNat i0) (Zj.Node x3,Zj.ZB x3,(Wq (Wq (Wq (k1+1)+1)+1),(Zj.X7 x3).snd),())) i0).bind fun x4 =>
 some (.inl (Wq (Wq (Wq (Wq (Wq (k1+1)+1)+1)+1)+1),Wq (i0+1),List.set (List.set (List.set (List.set (List.set l0 (Int.toNat i0) (k1,x0.snd)) (Int.toNat i0) (Zj.Node x1,(Wq (k1+1),(Zj.ZB x1).snd),x1.snd.snd)) (Int.toNat i0) (Zj.Node x2,(Zu.Early (Zj.ZB x2),Wq (Wq (k1+1)+1),()),x2.snd.snd)) (Int.toNat i0) (Zj.Node x3,Zj.ZB x3,(Wq (Wq (Wq (k1+1)+1)+1),(Zj.X7 x3).snd),())) (Int.toNat i0) (Zj.Node x4,Zj.ZB x4,(Zu.Early (Zj.X7 x4),Wq (Wq (Wq (Wq (k1+1)+1)+1)+1),()),()),()))
 else
 some (.inr (k1,l0))
def Zbn (a0:List Zj) (k0:Int):Option (Int×(List Zj)) :=
 Zm (fun v=>JI v.1 v.2.1 v.2.2.1) (k0,(0:Int),a0,())
def ZGp:Ctr:=⟨[.back (.ol 105 (.flat (Z6))),.dat Iq],[.dat Iq],fun a K=>splitK a fun a0 a=>splitK a fun k0 a=>Yv (Zbn a0 k0) fun r=>K (r.1,()) (r.2,())⟩
def ZaQ (k1:Int) (i0:Int) (l0:List Bool):Option ((Int×Int×(List Bool)×Unit) ⊕ (Int×(List Bool))) :=
 if i0<(↑l0.length:Int) then
 (atI l0 i0).bind fun x0 =>
 some (.inl (Wq (k1+1),Wq (i0+1),List.set l0 (Int.toNat i0) (Decidable.decide (Int.tmod k1 3=0)),()))
 else
 some (.inr (k1,l0))
def Zdj (a0:List Bool) (k0:Int):Option (Int×(List Bool)) :=
 Zm (fun v=>ZaQ v.1 v.2.1 v.2.2.1) (k0,(0:Int),a0,())
def ZGq:Ctr:=⟨[.back (.ol 4 (.flat (.bool))),.dat Iq],[.dat Iq],fun a K=>splitK a fun a0 a=>splitK a fun k0 a=>Yv (Zdj a0 k0) fun r=>K (r.1,()) (r.2,())⟩
def ZaT (k1:Int) (i0:Int) (l0:List Zu):Option ((Int×Int×(List Zu)×Unit) ⊕ (Int×(List Zu))) :=
 if i0<(↑l0.length:Int) then
 (atI l0 i0).bind fun x0 =>
 (atI (List.set l0 (Int.toNat i0) (k1,x0.snd)) i0).bind fun x1 =>
 some (.inl (Wq (Wq (k1+1)+1),Wq (i0+1),List.set (List.set l0 (Int.toNat i0) (k1,x0.snd)) (Int.toNat i0) (Zu.Early x1,Wq (k1+1),()),()))
 else
 some (.inr (k1,l0))
def Za7 (a0:List Zu) (k0:Int):Option (Int×(List Zu)) :=
 Zm (fun v=>ZaT v.1 v.2.1 v.2.2.1) (k0,(0:Int),a0,())
def ZGr:Ctr:=⟨[.back (.ol 103 (.flat (XJ))),.dat Iq],[.dat Iq],fun a K=>splitK a fun a0 a=>splitK a fun k0 a=>Yv (Za7 a0 k0) fun r=>K (r.1,()) (r.2,())⟩
def Zcs (a0:Zk) (k0:Int):Option (Int×Zk) :=
 (Zdj (Zk.Reached a0) k0).bind fun markBoolS0 =>
 (Za7 (Zk.ZB a0) markBoolS0.fst).bind fun markSpanS0 =>
 (Za7 (Zk.X7 a0) markSpanS0.fst).bind fun markSpanS1 =>
 some (markSpanS1.fst,(markBoolS0.snd,markSpanS0.snd,markSpanS1.snd,()))
def ZGs:Ctr:=⟨[.back (ZoC),.dat Iq],[.dat Iq],fun a K=>splitK a fun a0 a=>splitK a fun k0 a=>Yv (Zcs a0 k0) fun r=>K (r.1,()) (r.2,())⟩
def ZEl (a0:List Bool) (k1:Int) (i0:Int):Option ((Int×Int×Unit) ⊕ Int) :=
 if i0<(↑a0.length:Int) then
 (atI a0 i0).bind fun x0 =>
 if (x0 == Decidable.decide (Int.tmod k1 3=0))=true then
 some (.inl (Wq (k1+1),Wq (i0+1),()))
 else
 some (.inr (-1))
 else
 some (.inr k1)
def ZEx (a0:List Bool) (k0:Int):Option Int :=
 Zm (fun v=>ZEl a0 v.1 v.2.1) (k0,(0:Int),())
def ZGt:Ctr:=D2 (.sl (.bool)) Iq Iq ZEx
def ZEm (a0:List Zu) (k1:Int) (i0:Int):Option ((Int×Int×Unit) ⊕ Int) :=
 if i0<(↑a0.length:Int) then
 (atI a0 i0).bind fun x0 =>
 if Zu.Early x0=k1 then
 if Zu.Late x0=Wq (k1+1) then
 some (.inl (Wq (Wq (k1+1)+1),Wq (i0+1),()))
 else
 some (.inr (-1))
 else
 some (.inr (-1))
 else
 some (.inr k1)
def ZEs (a0:List Zu) (k0:Int):Option Int :=
 Zm (fun v=>ZEm a0 v.1 v.2.1) (k0,(0:Int),())
def ZGu:Ctr:=D2 (.sl (XJ)) Iq Iq ZEs
def ZEt (a0:Zk) (k0:Int):Option Int :=
 (ZEx (Zk.Reached a0) k0).bind fun heldBoolS0 =>
 if heldBoolS0<0 then
 some (-1)
 else
 (ZEs (Zk.ZB a0) heldBoolS0).bind fun heldSpanS0 =>
 if heldSpanS0<0 then
 some (-1)
 else
 (ZEs (Zk.X7 a0) heldSpanS0).bind fun heldSpanS1 =>
 if heldSpanS1<0 then
 some (-1)
 else
 some heldSpanS1
def ZGv:Ctr:=D2 (Xd) Iq Iq ZEt
def Zad (a0:List Int) (k1:Int) (i0:Int):Option ((Int×Int×Unit) ⊕ Int) :=
 if i0<(↑a0.length:Int) then
 (atI a0 i0).bind fun x0 =>
 if x0=k1 then
 some (.inl (Wq (k1+1),Wq (i0+1),()))
 else
 some (.inr (-1))
 else
 some (.inr k1)
def Zcq (a0:List Int) (k0:Int):Option Int :=
 Zm (fun v=>Zad a0 v.1 v.2.1) (k0,(0:Int),())
def ZGw:Ctr:=D2 (.sl Iq) Iq Iq Zcq
def ZEe (a0:Zd) (a1:Zv) (a2:List Int) (a3:List Zj) (a4:Zk) (a5:List Int):Option Bool :=
 if 1048576<(↑a2.length:Int) then
 some Bool.true
 else
 if 1048576<(↑a5.length:Int) then
 some Bool.true
 else
 (ZbT a0 1048576).bind fun szBlock0 =>
 if szBlock0<0 then
 some Bool.true
 else
 (Zeg a1 szBlock0).bind fun szCorner0 =>
 if szCorner0<0 then
 some Bool.true
 else
 (JE a3 szCorner0).bind fun szSourceS0 =>
 if szSourceS0<0 then
 some Bool.true
 else
 (ZaF a4 szSourceS0).bind fun szTiming0 =>
 if szTiming0<0 then
 some Bool.true
 else
 (Zfd a0).bind fun toBlock0 =>
 (Zeh a1).bind fun toCorner0 =>
 (Y8 a2).bind fun toInt64S0 =>
 (Zdo a3).bind fun toSourceS0 =>
 (Zej a4).bind fun toTiming0 =>
 (Y8 a5).bind fun toInt64S1 =>
 (ZEq toBlock0 toCorner0 toInt64S0 toSourceS0 toTiming0 toInt64S1).bind fun UpdateTiming0 =>
 (ZEp toBlock0 toCorner0 toInt64S0 toSourceS0 toTiming0 toInt64S1).bind fun UpdateTiming1 =>
 (Zed UpdateTiming1.fst UpdateTiming0.fst).bind fun eqTiming0 =>
 if eqTiming0=true then
 (YW UpdateTiming1.snd.fst UpdateTiming0.snd.fst).bind fun eqInt64S0 =>
 if eqInt64S0=true then
 if UpdateTiming1.snd.snd=UpdateTiming0.snd.snd then
 (Ze6 toBlock0 toBlock0).bind fun eqBlock0 =>
 if eqBlock0=true then
 (YW toInt64S0 toInt64S0).bind fun eqInt64S1 =>
 if eqInt64S1=true then
 (Zdg toSourceS0 toSourceS0).bind fun eqSourceS0 =>
 if eqSourceS0=true then
 (Zed toTiming0 toTiming0).bind fun eqTiming1 =>
 if eqTiming1=true then
 (YW toInt64S1 toInt64S1).bind fun eqInt64S2 =>
 if eqInt64S2=true then
 (Zdi toBlock0 1).bind fun markBlock0 =>
 (Ya toInt64S0 markBlock0.fst).bind fun markInt64S0 =>
 (Zbn toSourceS0 markInt64S0.fst).bind fun markSourceS0 =>
 (Zcs toTiming0 markSourceS0.fst).bind fun markTiming0 =>
 (Ya toInt64S1 markTiming0.fst).bind fun markInt64S1 =>
 if markInt64S1.fst<0 then
 some Bool.false
 else
 if eqTiming0=true then
 if eqInt64S0=true then
 if UpdateTiming1.snd.snd=UpdateTiming0.snd.snd then
 (Zcs UpdateTiming1.fst 1).bind fun markTiming1 =>
 (Ya UpdateTiming1.snd.fst markTiming1.fst).bind fun markInt64S2 =>
 (ZEt markTiming1.snd 1).bind fun heldTiming0 =>
 if heldTiming0<0 then
 some Bool.false
 else
 (Zcq markInt64S2.snd heldTiming0).bind fun heldInt64S0 =>
 if heldInt64S0<0 then
 some Bool.false
 else
 if heldInt64S0=markInt64S2.fst then
 if eqTiming0=true then
 if eqInt64S0=true then
 if UpdateTiming1.snd.snd=UpdateTiming0.snd.snd then
 if heldTiming0<0 then
 some Bool.false
 else
 if heldInt64S0<0 then
 some Bool.false
 else
 if heldInt64S0=markInt64S2.fst then
 some Bool.true
 else
 some Bool.false
 else
 some Bool.false
 else
 some Bool.false
 else
 some Bool.false
 else
 some Bool.false
 else
 some Bool.false
 else
 some Bool.false
 else
 some Bool.false
 else
 some Bool.false
 else
 some Bool.false
 else
 some Bool.false
 else
 some Bool.false
 else
 some Bool.false
 else
 some Bool.false
 else
 some Bool.false
 else
 some Bool.false
def ZEr:Ctr:=⟨[.dat (Yt),.dat (X3),.dat (.sl Iq),.dat (.sl (Z6)),.dat (Xd),.dat (.sl Iq)],[.dat (.bool)],fun a K=>splitK a fun a0 a=>splitK a fun a1 a=>splitK a fun a2 a=>splitK a fun a3 a=>splitK a fun a4 a=>splitK a fun a5 a=>Yv (ZEe a0 a1 a2 a3 a4 a5) fun r=>K (r,()) ()⟩
end
end Go.Proofs.YtclfgjepbamnlaaGreatDoor
